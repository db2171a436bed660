/- Part 10 of the proof that SweepChecksAsSpecified answers true at every input -/
import Derived.Test.YtmnkibhalflchaaGreatChek09
set_option linter.unusedVariables false
set_option linter.unusedSimpArgs false
set_option linter.unnecessarySimpa false
set_option linter.defProp false
set_option maxRecDepth 20000
namespace Go.Proofs.YtmnkibhalflchaaGreat
noncomputable section
namespace Geo
structure V where
 x:Int
 y:Int
 z:Int
deriving DecidableEq
namespace V
def sub(a b:V):V:=⟨a.x-b.x,a.y-b.y,a.z-b.z⟩
def neg(a:V):V:=⟨-a.x,-a.y,-a.z⟩
def add(a b:V):V:=⟨a.x+b.x,a.y+b.y,a.z+b.z⟩
def dq(k:Int)(a:V):V:=⟨k*a.x,k*a.y,k*a.z⟩
def dot(a b:V):Int:=a.x*b.x+a.y*b.y+a.z*b.z
def cross(a b:V):V:=⟨a.y*b.z-a.z*b.y,a.z*b.x-a.x*b.z,a.x*b.y-a.y*b.x⟩
def zero:V:=⟨0,0,0⟩
def ext'{a b:V}(h1:a.x=b.x)(c:a.y=b.y)(d:a.z=b.z):a=b:=by cases a;cases b;simp_all
end V
open V
def BJ{a:Int}(h:a≠0):0<a*a:=by
 rcases Int.lt_or_lt_of_ne h with h|h
 ·exact z9b h h
 ·exact zJb h h
def wq(a:Int):0<=a*a:=by
 rcases zXb a 0 with h|h|h
 ·exact zUa (z9b h h)
 ·subst h;decide
 ·exact zUa (zJb h h)
def qu(a:V):0<=dot a a:=by have:=wq a.x;have:=wq a.y;have:=wq a.z;simp only[dot];omega
def mS{a:V}(h:dot a a=0):a=zero:=by
 have h1:=wq a.x;have e:=wq a.y;have f:=wq a.z;simp only[dot] at h;have b:a.x*a.x=0:=j1
 have c:a.y*a.y=0:=j1
 have d:a.z*a.z=0:=j1
 apply V.ext'<;>simp only[zero]<;>(first|(rcases zid.1 b with h|h<;>exact h)|(rcases zid.1 c with h|h<;>exact h)|(rcases zid.1 d with h|h<;>exact h))
def bN{a:V}(h:a≠zero):0<dot a a:=by
 have:=qu a;rcases zCb this with h1|h1
 ·exact h1
 ·exact z3a (mS h1.symm) h
def T(n u v:V):Int:=dot n (cross u v)
def tQ{a b:Int}(d:0<a)(h:0<a*b):0<b:=by
 rcases zXb b 0 with c|c|c
 ·have:=zxb d c;omega
 ·subst c;simp at h
 ·exact c
def vX{a b:Int}(d:0<a)(h:0<=a*b):0<=b:=by
 rcases zYb b 0 with c|c
 ·have:=zxb d c;omega
 ·exact c
def bC{a b:Int}(c:0<a)(h:a*b=0):b=0:=by
 rcases zid.1 h with h|h
 ·omega
 ·exact h
section plane
variable{n:V}(hn:n≠zero)
include hn
def Da(f:V){u v w:V}(hu:dot n u=0)(a:dot n v=0)(hw:dot n w=0) :
  dot f u*T n v w+dot f v*T n w u+dot f w*T n u v=0:=by
 have h:dot n n*(dot f u*T n v w+dot f v*T n w u+dot f w*T n u v)=0:=by simp only[T,dot,cross] at *;grind
 exact bC (bN hn) h
def B9{f u v w:V}(hu:dot n u=0)(d:dot n v=0)(hw:dot n w=0)(a:0<dot f u)(fv:0<dot f v)(b:0<dot f w)
  (h1:0<=T n u v) (c:0<=T n v w):0<=T n u w/\(0<T n u v\/0<T n v w->0<T n u w):=by
 have p:=Da hn f hu d hw;have e:T n w u=- T n u w:=by simp only[T,dot,cross];grind
 rw[e] at p;have q:dot f v*T n u w=dot f u*T n v w+dot f w*T n u v:=by have:dot f v*-T n u w=-(dot f v*T n u w):=Int.mul_neg _ _;omega
 have q1:=zLb (zUa a) c;have g:=zLb (zUa b) h1;refine⟨vX fv j1,λh=>tQ fv ?_⟩
 rcases h with h|h
 ·have:=zJb b h;omega
 ·have:=zJb a h;omega
def fm{u v:V}(hu:dot n u=0)(d:dot n v=0)(h:T n u v=0):cross u v=zero:=by
 have hp:=bN hn;have a:dot n n*(cross u v).x=T n u v*n.x:=by simp only[T,dot,cross] at *;grind
 have b:dot n n*(cross u v).y=T n u v*n.y:=by simp only[T,dot,cross] at *;grind
 have c:dot n n*(cross u v).z=T n u v*n.z:=by simp only[T,dot,cross] at *;grind
 rw[h,zFc] at a b c;exact V.ext' (bC hp a) (bC hp b) (bC hp c)
end plane
def G0{u v:V}(h:cross u v=zero)(f:V):dq (dot f u) v=dq (dot f v) u:=by
 have h1:(cross u v).x=0:=by rw[h];rfl
 have a:(cross u v).y=0:=by rw[h];rfl
 have b:(cross u v).z=0:=by rw[h];rfl
 simp only[cross] at h1 a b;apply V.ext'<;>simp only[dq,dot]<;>grind
def G1{u v:V}(h:cross u v=zero)(hu:u≠zero)(a:dot v u=dot u u):v=u:=by
 have p:=G0 h u;have e:dot u v=dot v u:=by simp only[dot];grind
 have hp:=bN hu;rw[e,a] at p;have p1:dot u u*(v.x-u.x)=0:=by have:=zxa V.x p;simp only[dq] at this;grind
 have b:dot u u*(v.y-u.y)=0:=by have:=zxa V.y p;simp only[dq] at this;grind
 have c:dot u u*(v.z-u.z)=0:=by have:=zxa V.z p;simp only[dq] at this;grind
 have:=bC hp p1;have:=bC hp b;have:=bC hp c;exact V.ext' j1 j1 j1
theorem iJ{α:Type}(φ:α->Int):∀ l:List α,∃ N:Int,0<N/\∀ x∈l,-N<φ x/\φ x<N
 | []=>⟨1,j2,s6⟩
 | a::l=>by
  obtain⟨N,h0,h⟩:=iJ φ l;refine⟨N+(φ a).natAbs+1,j1,λx hx=>?_⟩
  rcases zGa.1 hx with rfl|hx
  ·omega
  ·have:=h x hx;omega
def wy(P:Nat->V)(a x:Nat):V:=sub (P x) (P a)
structure Side(n:V)(P:Nat->V)(on:List Nat)(a b:Nat):Prop where
 mem:b∈on
 ne:b≠a
 all:∀ x∈on,0<=T n (wy P a b) (wy P a x)/\(T n (wy P a b) (wy P a x)=0->0<=dot (wy P a x) (wy P a b)/\dot (wy P a x) (wy P a b)<=dot (wy P a b) (wy P a b))
def kU(P:Nat->V)(on:List Nat)(a:Nat):Prop:=∃ f:V,∀ x∈on,x≠a->0<dot f (wy P a x)
structure Flat(n:V)(P:Nat->V)(on:List Nat):Prop where
 nz:n≠zero
 pl:∀ x∈on,∀ y∈on,dot n (wy P x y)=0
 inj:∀ x∈on,∀ y∈on,P x=P y->x=y
section poly
variable{n:V}{P:Nat->V}{on:List Nat}
def rm(h:Flat n P on){a b:Nat}(i:a∈on)(j:b∈on)(c:b≠a):wy P a b≠zero:=λe=>by apply c;apply h.inj b j a i;have d:=zxa V.x e;have f:=zxa V.y e;have g:=zxa V.z e;simp only[wy,sub,zero] at d f g;exact V.ext' j1 j1 j1
def HP{a b c:Nat}(h:wy P a b=wy P a c):P b=P c:=by have d:=zxa V.x h;have e:=zxa V.y h;have f:=zxa V.z h;simp only[wy,sub] at d e f;exact V.ext' j1 j1 j1
def aeD(h:Flat n P on){a b c:Nat}(f:a∈on)(d:Side n P on a b)(hc:Side n P on a c):b=c:=by
 have h1:=d.all c hc.mem;have j:=hc.all b d.mem;have e:T n (wy P a c) (wy P a b)=- T n (wy P a b) (wy P a c):=by simp only[T,dot,cross];grind
 rw[e] at j;have t0:T n (wy P a b) (wy P a c)=0:=j1
 have k:=h1.2 t0;have l:=j.2 j1
 have es:dot (wy P a b) (wy P a c)=dot (wy P a c) (wy P a b):=by simp only[dot];grind
 have hx:=fm h.nz (h.pl a f b d.mem) (h.pl a f c hc.mem) t0;have hq:dot (wy P a b) (wy P a b)*dot (wy P a c) (wy P a c)=dot (wy P a c) (wy P a b)*dot (wy P a c) (wy P a b):=by have p:=G0 hx (wy P a b);have p1:=zxa V.x p;have o:=zxa V.y p;have q:=zxa V.z p;simp only[dq] at p1 o q;simp only[dot] at *;grind
 have m:=bN (rm h f d.mem d.ne);have g:=bN (rm h f hc.mem hc.ne);have hle:dot (wy P a c) (wy P a b)=dot (wy P a b) (wy P a b):=by
  generalize dot (wy P a b) (wy P a b)=B at *;generalize dot (wy P a c) (wy P a c)=C at *;generalize dot (wy P a c) (wy P a b)=X at *;rw[es] at l;rcases zCb k.2 with i|heq
  ·exfalso;have:X*X<B*C:=by
    have a1:X*X<=X*C:=zHb l.2 k.1;have a2:X*C<B*C:=Int.mul_lt_mul_of_pos_right i g;omega
   omega
  ·exact heq
 have:=G1 hx (rm h f d.mem d.ne) hle;exact(h.inj c hc.mem b d.mem (HP this)).symm
def Side.ext(h:Flat n P on){a b:Nat}(d:a∈on)(c:Side n P on a b):kU P on b:=by
 obtain⟨N,o,m⟩:=iJ (λx=>dot (wy P b a) (wy P b x)) on;refine⟨add (dq N (cross n (wy P a b))) (wy P b a),λx hx g=>?_⟩;have e:dot (add (dq N (cross n (wy P a b))) (wy P b a)) (wy P b x)=N*T n (wy P a b) (wy P a x)+dot (wy P b a) (wy P b x):=by simp only[T,dot,cross,add,dq,wy,sub];grind
 rw[e];obtain⟨h1,k⟩:=c.all x hx;have q:=m x hx;rcases zCb h1 with p|heq
 ·have:N*1<=N*T n (wy P a b) (wy P a x):=zHb j1 j1
  omega
 ·rw[<-heq,zXc,Int.zero_add];have l:=k heq.symm;have j:dot (wy P b a) (wy P b x)=dot (wy P a b) (wy P a b)-dot (wy P a x) (wy P a b):=by simp only[dot,wy,sub];grind
  rw[j];rcases zCb l.2 with i|i
  ·omega
  ·exfalso;have f:=fm h.nz (h.pl a d b c.mem) (h.pl a d x hx) heq.symm;exact g (h.inj x hx b c.mem (HP (G1 f (rm h d c.mem c.ne) i)))
def aed(h:Flat n P on){a x y:Nat}(i:a∈on)(hx:x∈on)(r:y∈on)(D:kU P on a)(ex:kU P on x)(E:kU P on y)(d:x≠a)(e:y≠a)(H:T n (wy P a x) (wy P a y)=0):x=y:=by
 by_cases hxy:x=y
 ·exact hxy
 exfalso;obtain⟨f,w⟩:=D;obtain⟨g,C⟩:=ex;obtain⟨k,hk⟩:=E;have c:=fm h.nz (h.pl a i x hx) (h.pl a i y r) H;have p:=G0 c f;have F:=w x hx d;have v:=w y r e;have g1:=C a i (Ne.symm d);have g2:=C y r (Ne.symm hxy);have I:=hk a i (Ne.symm e);have J:=hk x hx hxy;have q1:dot f (wy P a x)*dot g (wy P a y)=dot f (wy P a y)*dot g (wy P a x):=by have p1:=zxa V.x p;have t:=zxa V.y p;have u:=zxa V.z p;simp only[dq] at p1 t u;generalize dot f (wy P a x)=A at *;generalize dot f (wy P a y)=B at *;simp only[dot];grind
 have K:dot f (wy P a x)*dot k (wy P a y)=dot f (wy P a y)*dot k (wy P a x):=by have p1:=zxa V.x p;have t:=zxa V.y p;have u:=zxa V.z p;simp only[dq] at p1 t u;generalize dot f (wy P a x)=A at *;generalize dot f (wy P a y)=B at *;simp only[dot];grind
 have j:dot g (wy P x a)=- dot g (wy P a x):=by simp only[dot,wy,sub];grind
 have l:dot g (wy P x y)=dot g (wy P a y)-dot g (wy P a x):=by simp only[dot,wy,sub];grind
 have m:dot k (wy P y a)=- dot k (wy P a y):=by simp only[dot,wy,sub];grind
 have o:dot k (wy P y x)=dot k (wy P a x)-dot k (wy P a y):=by simp only[dot,wy,sub];grind
 rw[j] at g1;rw[l] at g2;rw[m] at I;rw[o] at J;generalize dot f (wy P a x)=A at *;generalize dot f (wy P a y)=B at *;generalize dot g (wy P a x)=gx at *;generalize dot g (wy P a y)=G at *;generalize dot k (wy P a x)=s at *;generalize dot k (wy P a y)=b at *;have r1:B<A:=by
  rcases zYb B A with q|q
  ·exact q
  ·exfalso;have s1:B*gx<=A*gx:=by
    have:=z7c q (show 0<=-gx by omega)
    simp only[Int.mul_neg] at this;omega
   have s2:A*gx<A*G:=zNc j1 F
   omega
 have M:A*b<B*b:=by
  have L:B*b<B*s:=zNc j1 v
  have N:A*b=B*s:=K;have O:A*b<=B*b:=by
   have:=z7c (zUa r1) (show 0<=-b by omega)
   simp only[Int.mul_neg] at this;omega
  omega
 have L:B*b<B*s:=zNc j1 v
 omega
def QS(a x y:Nat):T n (wy P x y) (wy P x a)=T n (wy P a x) (wy P a y):=by simp only[T,dot,cross,wy,sub];grind
def Mx(u v:V):T n v u=- T n u v:=by simp only[T,dot,cross];grind
def Side.after(h:Flat n P on){a x y:Nat}(f:a∈on)(hx:x∈on)(g:kU P on a)(ex:kU P on x)(d:x≠a)(b:Side n P on x y)(e:y≠a):0<T n (wy P a x) (wy P a y):=by
 have h1:=(b.all a f).1;rw[QS] at h1;rcases zCb h1 with c|c
 ·exact c
 ·exact z3a (aed h f hx b.mem g ex (b.ext h hx) d e c.symm) b.ne.symm
def Kf(h:Flat n P on){a x y z:Nat}(l:a∈on)(hx:x∈on)(b:z∈on)(d:Side n P on x y)(r:kU P on z)(h1:0<T n (wy P a x) (wy P a z))(k:0<T n (wy P a z) (wy P a y)):False:=by
 obtain⟨f,c⟩:=r;have g:a≠z:=λe=>by subst e;simp[T,dot,cross,wy,sub] at k
 have i:x≠z:=λe=>by
  subst e;have:T n (wy P a x) (wy P a x)=0:=by simp only[T,dot,cross];grind
  omega
 have j:y≠z:=λe=>by
  subst e;have:T n (wy P a y) (wy P a y)=0:=by simp only[T,dot,cross];grind
  omega
 have f1:=c a l g;have f2:=c x hx i;have f3:=c y d.mem j;have s:=(d.all z b).1;have e:dot n n*(T n (wy P x y) (wy P x z)*dot f (wy P z a)+T n (wy P a z) (wy P a y)*dot f (wy P z x)+T n (wy P a x) (wy P a z)*dot f (wy P z y))=0:=by
  have p1:=h.pl z b a l;have t:=h.pl z b x hx;have u:=h.pl z b y d.mem;have o:T n (wy P x y) (wy P x z)=T n (wy P z x) (wy P z y):=QS z x y;have p:T n (wy P a z) (wy P a y)=T n (wy P z y) (wy P z a):=by simp only[T,dot,cross,wy,sub];grind
  have q:T n (wy P a x) (wy P a z)=T n (wy P z a) (wy P z x):=by simp only[T,dot,cross,wy,sub];grind
  rw[o,p,q];have m:=Da h.nz f p1 t u;rw[z8c (dot f (wy P z a)),z8c (dot f (wy P z x)),z8c (dot f (wy P z y))] at m;rw[show T n (wy P z x) (wy P z y)*dot f (wy P z a)+T n (wy P z y) (wy P z a)*dot f (wy P z x)+T n (wy P z a) (wy P z x)*dot f (wy P z y)=0 from m,zXc]
 have v:=bC (bN h.nz) e;have m1:=zLb s (zUa f1);have m2:=zJb k f2;have m3:=zJb h1 f3;omega
theorem vg{α:Type}{p q:α->Bool}:∀ {l:List α},(∀ x∈l,p x=true->q x=true)->(∃ y∈l,q y=true/\p y=false)->l.countP p<l.countP q
 | [],_,h=>by obtain⟨y,b,_⟩:=h;cases b
 | a::l,h,b=>by
  have hl:l.countP p<=l.countP q:=by have c:∀ x∈l,p x=true->q x=true:=λx hx=>h x (zma _ hx);exact List.countP_mono_left c
  have d:=h a zwa;rw[List.countP_cons,List.countP_cons];obtain⟨y,hm,hq,hp⟩:=b;rcases zGa.1 hm with rfl|hm
  ·simp[hq,hp];omega
  ·have:=vg (l:=l) (λx hx=>h x (zma _ hx)) ⟨y,hm,hq,hp⟩;cases hpa:p a
   ·simp;omega
   ·simp[d hpa];omega
inductive Chain(S:Nat->Nat->Prop)(a₀:Nat):Nat->List Nat->Prop
 | done {c:Nat}:S c a₀->Chain S a₀ c [c]
 | step {c y:Nat} {l:List Nat}:S c y->y≠a₀->Chain S a₀ y l->Chain S a₀ c (c::l)
def walk(h:Flat n P on){a:Nat}(s:a∈on)(F:kU P on a)(o:∀ c∈on,kU P on c->∃ b,Side n P on c b){c:Nat}(hc:c∈on)(u:kU P on c)(k:c≠a) :
  ∃ l,Chain (Side n P on) a c l/\(∀ z∈l,z∈on/\kU P on z/\z≠a/\(z=c\/0<T n (wy P a c) (wy P a z)))/\(∀ z∈on,kU P on z->z≠a->0<T n (wy P a c) (wy P a z)->z∈l) ∧
   l.Pairwise (λx y=>0<T n (wy P a x) (wy P a y)):=by
 generalize hm:on.countP (λz=>decide (0<T n (wy P a c) (wy P a z)))=m
 induction m using Nat.strongRecOn generalizing c with
 | _ m ih=>
  obtain⟨y,i⟩:=o c hc u;obtain⟨f,t⟩:=F;by_cases hya:y=a
  ·subst hya;refine⟨[c],.done i,λz d=>?_,λz d v j p=>?_,s6⟩
   ·rw[zKa] at d;subst d;exact⟨hc,u,k,.inl rfl⟩
   ·have h1:=(i.all z d).1;have e:T n (wy P c y) (wy P c z)=- T n (wy P y c) (wy P y z):=by simp only[T,dot,cross,wy,sub];grind
    omega
  ·have g:=Side.after h s hc ⟨f,t⟩ u k i hya;have A:=i.ext h hc;have tr:∀ z∈on,0<T n (wy P a y) (wy P a z)->0<T n (wy P a c) (wy P a z):=λz d p=>by
    have j:z≠a:=λe=>by
     subst e;have:T n (wy P z y) (wy P z z)=0:=by simp[T,dot,cross,wy,sub]
     omega
    exact(B9 h.nz (h.pl a s c hc) (h.pl a s y i.mem) (h.pl a s z d) (t c hc k) (t y i.mem hya) (t z d j) (zUa g) (zUa p)).2 (.inl g)
   have r:T n (wy P a y) (wy P a y)=0:=by simp only[T,dot,cross];grind
   obtain⟨l,B,C,H,I⟩:=ih _ (by rw[<-hm];refine vg (λz d p=>by simp only[zia] at p ⊢;exact tr z d p) ⟨y,i.mem,by simpa using g,by simp[r]⟩) i.mem A hya rfl
   refine⟨c::l,.step i hya B,λz d=>?_,λz d v j p=>?_,z9a.2 ⟨λz d=>?_,I⟩⟩
   ·rcases zGa.1 d with rfl|d
    ·exact⟨hc,u,k,.inl rfl⟩
    ·obtain⟨q1,D,E,q⟩:=C z d;refine⟨q1,D,E,.inr ?_⟩;rcases q with rfl|q
     ·exact g
     ·exact tr z q1 q
   ·rcases zXb (T n (wy P a y) (wy P a z)) 0 with G|heq|w
    ·have e:=Mx (n:=n) (wy P a y) (wy P a z);exact(Kf h s hc d i v p j1).elim
    ·have:=aed h s i.mem d ⟨f,t⟩ A v hya j heq;subst this;have:y∈l:=by cases B<;>exact zwa
     exact zma _ this
    ·exact zma _ (H z d v j w)
   ·obtain⟨q1,D,E,q⟩:=C z d;rcases q with rfl|q
    ·exact g
    ·exact tr z q1 q
def wV(n:V)(P:Nat->V)(a b k:Nat):Bool:=
 decide (T n (wy P a b) (wy P a k)<0)||(decide (T n (wy P a b) (wy P a k)=0)&&decide (dot (wy P a b) (wy P a b)<dot (wy P a k) (wy P a k)))
def oT(n:V)(P:Nat->V)(a:Nat)(c:Option Nat)(k:Nat):Option Nat:=
 if k=a then c else match c with
  | none=>some k
  | some b=>if wV n P a b k then some k else some b
theorem qO(h:Flat n P on){a:Nat}(m:a∈on)(t:kU P on a):∀ (l pre:List Nat) (d:Option Nat),(∀ x∈pre,x∈on)->(∀ x∈l,x∈on) ->
  (match d with
   | none=>∀ x∈pre,x=a
   | some b=>b∈pre/\b≠a/\∀ x∈pre,x≠a->0<T n (wy P a b) (wy P a x)\/(T n (wy P a b) (wy P a x)=0/\dot (wy P a x) (wy P a x)<=dot (wy P a b) (wy P a b))) ->
  match l.foldl (oT n P a) d with
   | none=>∀ x∈pre++l,x=a
   | some b=>b∈pre++l/\b≠a/\∀ x∈pre++l,x≠a->0<T n (wy P a b) (wy P a x)\/(T n (wy P a b) (wy P a x)=0/\dot (wy P a x) (wy P a x)<=dot (wy P a b) (wy P a b))
 | [],pre,d,_,_,g=>by simpa using g
 | k::l,pre,d,h1,u,g=>by
  rw[zhd];have hk:k∈on:=u k zwa;rw[show pre++k::l=(pre++[k])++l by simp]
  refine qO h m t l (pre++[k]) _ (λx hx=>?_) (λx hx=>u x (zma _ hx)) ?_
  ·rcases zIa.1 hx with hx|hx
   ·exact h1 x hx
   ·rw[zKa] at hx;exact hx ▸ hk
  unfold oT;by_cases hka:k=a
  ·rw[zja hka];subst hka;cases d with
   | none=>
    simp only at g ⊢;intro x hx;rcases zIa.1 hx with hx|hx
    ·exact g x hx
    ·exact zKa.1 hx
   | some b=>
    simp only at g ⊢;refine⟨zlb _ g.1,g.2.1,λx hx e=>?_⟩;rcases zIa.1 hx with hx|hx
    ·exact g.2.2 x hx e
    ·exact z3a (zKa.1 hx) e
  ·rw[zga hka];cases d with
   | none=>
    simp only at g ⊢;refine⟨zfb _ (zKa.2 rfl),hka,λx hx e=>?_⟩;rcases zIa.1 hx with hx|hx
    ·exact z3a (g x hx) e
    ·rw[zKa.1 hx];right;exact⟨by simp only[T,dot,cross];grind,zyd _⟩
   | some b=>
    simp only at g ⊢;obtain⟨b1,b2,s⟩:=g;have i:=h1 b b1;obtain⟨f,o⟩:=t;by_cases hbt:wV n P a b k=true
    ·rw[zja hbt];simp only;refine⟨zfb _ (zKa.2 rfl),hka,λx hx e=>?_⟩;have w:=Mx (n:=n) (wy P a b) (wy P a k);simp only[wV,zKb,zaa,zia] at hbt;rcases zIa.1 hx with hx|hx
     ·have j:=h1 x hx;have c:=s x hx e;have q:0<=T n (wy P a k) (wy P a b):=j1
      have r:0<=T n (wy P a b) (wy P a x):=j1
      obtain⟨t1,t2⟩:=B9 h.nz (h.pl a m k hk) (h.pl a m b i) (h.pl a m x j) (o k hk hka) (o b i b2) (o x j e) q r;rcases zCb t1 with p|heq
      ·exact .inl p
      ·right;refine⟨heq.symm,?_⟩;have:¬ (0<T n (wy P a k) (wy P a b)\/0<T n (wy P a b) (wy P a x)):=λv=>by have:=t2 v;omega
       omega
     ·rw[zKa.1 hx];right;exact⟨by simp only[T,dot,cross];grind,zyd _⟩
    ·rw[zga hbt];simp only;refine⟨zlb _ b1,b2,λx hx e=>?_⟩;rcases zIa.1 hx with hx|hx
     ·exact s x hx e
     ·rw[zKa.1 hx];simp only[wV,zKb,zaa,zia] at hbt;omega
def mn(h:Flat n P on){a:Nat}(l:a∈on)(s:kU P on a)(C:∃ x∈on,x≠a):∃ b,on.foldl (oT n P a) none=some b/\Side n P on a b:=by
 have key:=qO h l s on [] none s6 (λx hx=>hx) s6
 cases hr:on.foldl (oT n P a) none with
 | none=> rw[hr] at key;obtain⟨x,hx,d⟩:=C;exact z3a (key x (by simpa using hx)) d
 | some b=>
  rw[hr] at key;simp only[z0b] at key;obtain⟨m,o,E⟩:=key;refine⟨b,rfl,m,o,λx hx=>?_⟩;by_cases d:x=a
  ·subst d;have e:wy P x x=zero:=by simp[wy,sub,zero]
   have:T n (wy P x b) (wy P x x)=0:=by rw[e];simp[T,dot,cross,zero]
   have hp:=qu (wy P x b);have u:dot (wy P x x) (wy P x b)=0:=by rw[e];simp[dot,zero]
   rw[this,u];exact⟨zyd _,λ_=>⟨zyd _,hp⟩⟩
  ·have c:=E x hx d;refine⟨j1,λt0=>?_⟩
   have c2:dot (wy P a x) (wy P a x)<=dot (wy P a b) (wy P a b):=j1
   obtain⟨f,t⟩:=s;have k:=fm h.nz (h.pl a l b m) (h.pl a l x hx) t0;have p:=G0 k f;have v:=t b m o;have w:=t x hx d;have i:=bN (rm h l m o);have q1:dot f (wy P a b)*dot (wy P a x) (wy P a b)=dot f (wy P a x)*dot (wy P a b) (wy P a b):=by have p1:=zxa V.x p;have q:=zxa V.y p;have r:=zxa V.z p;simp only[dq] at p1 q r;generalize dot f (wy P a b)=A at *;generalize dot f (wy P a x)=B at *;simp only[dot];grind
   have g:0<dot (wy P a x) (wy P a b):=tQ v (by rw[q1];exact zJb w i)
   refine⟨zUa g,?_⟩;have F:dot (wy P a b) (wy P a b)*dot (wy P a x) (wy P a x)=dot (wy P a x) (wy P a b)*dot (wy P a x) (wy P a b):=by have p:=G0 k (wy P a b);have p1:=zxa V.x p;have q:=zxa V.y p;have r:=zxa V.z p;simp only[dq] at p1 q r;simp only[dot] at *;grind
   generalize dot (wy P a b) (wy P a b)=B at *;generalize dot (wy P a x) (wy P a x)=X at *;generalize dot (wy P a x) (wy P a b)=D at *;rcases zYb B D with j|hle
   ·exfalso;have a1:B*X<=B*B:=zHb c2 (zUa i);have a2:B*B<B*D:=zNc j i;have a3:B*D<D*D:=Int.mul_lt_mul_of_pos_right j g;omega
   ·exact hle
end poly
open V
def aV(a b:V):Prop:=a.x<b.x\/a.x=b.x/\(a.y<b.y\/a.y=b.y/\a.z<b.z)
def DT{P:Nat->V}{on:List Nat}{a:Nat}(h:∀ x∈on,x≠a->aV (P a) (P x)):kU P on a:=by
 obtain⟨N1,p1,b1⟩:=iJ (λx=>(wy P a x).y) on;obtain⟨N2,n,b2⟩:=iJ (λx=>(wy P a x).z) on;refine⟨⟨(N1+N2)*(N1+N2)+(N1+N2),N1+N2,1⟩,λx hx i=>?_⟩;have c1:=b1 x hx;have c2:=b2 x hx;have hl:=h x hx i;simp only[wy,sub,aV,dot] at *;generalize hX:(P x).x-(P a).x=X at *;generalize hY:(P x).y-(P a).y=Y at *;generalize hZ:(P x).z-(P a).z=Z at *;generalize hN:N1+N2=N;have b:0<N:=j1
 have f:-N+1<=Y:=j1
 have k:Y<=N-1:=j1
 have l:-N+1<=Z:=j1
 have m1:N*(-N+1)<=N*Y:=zHb f (zUa b);have m2:N*(-N+1)=-(N*N)+N:=k7
 have j:0<N*N:=zJb b b;rcases hl with hl|⟨h1,hl|⟨m,hl⟩⟩
 ·have d:1<=X:=j1
  have m3:(N*N+N)*1<=(N*N+N)*X:=zHb d j1
  omega
 ·have c:X=0:=j1
  have g:1<=Y:=j1
  have m3:N*1<=N*Y:=zHb g j1
  subst c;simp only[zXc];omega
 ·have c:X=0:=j1
  have e:Y=0:=j1
  subst c;subst e;simp only[zXc];omega
section poly
variable{n:V}{P:Nat->V}{on:List Nat}
def Chain.head{S:Nat->Nat->Prop}{a c:Nat}{l:List Nat}(h:Chain S a c l):∃ l',l=c::l':=by cases h<;>exact⟨_,rfl⟩
def Bs(h:Flat n P on){a:Nat}(i:a∈on)(j:kU P on a)(q:∀ c∈on,∃ x∈on,x≠c) :
  ∃ l,Chain (Side n P on) a a l/\l.Nodup/\(∀ z∈l,z∈on/\kU P on z)/\∀ z∈on,kU P on z->z∈l:=by
 have d:∀ c∈on,kU P on c->∃ b,Side n P on c b:=λc hc k=>by obtain⟨b,_,r⟩:=mn h hc k (q c hc);exact⟨b,r⟩
 obtain⟨c,f⟩:=d a i j;have k:=f.ext h i;obtain⟨l,p,m,t,u⟩:=walk h i j d f.mem k f.ne;refine⟨a::l,.step f f.ne p,List.nodup_cons.2 ⟨λhm=>(m a hm).2.2.1 rfl,?_⟩,λz g=>?_,λz g o=>?_⟩
 ·refine List.Pairwise.imp (λ{x y} s e=>?_) u;subst e;have:T n (wy P a x) (wy P a x)=0:=by simp only[T,dot,cross];grind
  omega
 ·rcases zGa.1 g with rfl|g
  ·exact⟨i,j⟩
  ·exact⟨(m z g).1,(m z g).2.1⟩
 ·by_cases hza:z=a
  ·subst hza;exact zwa
  ·refine zma _ ?_;have h0:=(f.all z g).1;rcases zCb h0 with hp|he
   ·exact t z g o hza hp
   ·have:=aed h i f.mem g j k o f.ne hza he.symm;subst this;obtain⟨l',rfl⟩:=p.head;exact zwa
end poly
def sg(x:Int):Int:=if x<0 then -1 else if 0<x then 1 else 0
def t8(a b:Int):sg a*sg b=sg (a*b):=by
 rcases zXb a 0 with h|h|h<;>rcases zXb b 0 with k|k|k
 ·have:=z9b h k;simp[sg,h,k,this,zMc.2 (zUa this)]
 ·subst k;simp[sg]
 ·have:=Int.mul_neg_of_neg_of_pos h k;simp[sg,h,k,this,zMc.2 (zUa k)]
 ·subst h;simp[sg]
 ·subst h;simp[sg]
 ·subst h;simp[sg]
 ·have:=zxb h k;simp[sg,h,k,this,zMc.2 (zUa h)]
 ·subst k;simp[sg]
 ·have:=zJb h k;simp[sg,h,k,this,zMc.2 (zUa h),zMc.2 (zUa k),zMc.2 (zUa this)]
def f8{x:Int}(h:0<x):sg x=1:=by simp[sg,h,zMc.2 (zUa h)]
def xP{x:Int}(h:x<0):sg x=-1:=by simp[sg,h]
def CS(n c:V):Int:=if n.x≠0 then sg n.x*sg c.x else if n.y≠0 then sg n.y*sg c.y else if n.z≠0 then sg n.z*sg c.z else 0
def ua{a b p:Int}(hp:0<p){q:Int}(hq:0<q)(h:a*p=q*b):sg a=sg b:=by
 have h1:sg (a*p)=sg a:=by rw[<-t8,f8 hp];simp
 have c:sg (q*b)=sg b:=by rw[<-t8,f8 hq];simp
 rw[<-h1,<-c,h]
def KR{n c:V}(hn:n≠zero)(h:cross n c=zero):CS n c=sg (dot n c):=by
 have h1:=zxa V.x h;have e:=zxa V.y h;have f:=zxa V.z h;simp only[cross,zero] at h1 e f;have hp:=bN hn;have a:n.x*c.x*dot n n=n.x*n.x*dot n c:=by simp only[dot];grind
 have b:n.y*c.y*dot n n=n.y*n.y*dot n c:=by simp only[dot];grind
 have d:n.z*c.z*dot n n=n.z*n.z*dot n c:=by simp only[dot];grind
 unfold CS;split
 ·rename_i k;rw[t8];exact ua hp (BJ k) a
 ·split
  ·rename_i k;rw[t8];exact ua hp (BJ k) b
  ·split
   ·rename_i k;rw[t8];exact ua hp (BJ k) d
   ·rename_i g i j;exact z3a (V.ext' (by simpa [zero] using g) (by simpa [zero] using i) (by simpa [zero] using j)) hn
def jD{n u v:V}(hu:dot n u=0)(a:dot n v=0):cross n (cross u v)=zero:=by simp only[dot] at hu a;apply V.ext'<;>simp only[cross,zero]<;>grind
open V
def bD(P:Nat->V)(N:Nat)(n:V)(d:Int):List Nat:=(List.range N).filter λk=>decide (dot n (P k)=d)
def AF(P:Nat->V)(N:Nat)(n:V)(d:Int):Prop:=(∀ k,k<N->dot n (P k)<=d)/\∃ k,k<N/\dot n (P k)<d
def iY(P:Nat->V)(i j k:Nat):V:=cross (wy P i j) (wy P i k)
def bX(v:V):Nat:=Nat.gcd (Nat.gcd v.x.natAbs v.y.natAbs) v.z.natAbs
def cc(v:V):V:=⟨v.x/bX v,v.y/bX v,v.z/bX v⟩
structure IsF(P:Nat->V)(N:Nat)(n:V)(d:Int):Prop where
 ex:∃ i j k,i<j/\j<k/\k<N/\iY P i j k≠zero/\(n=cc (iY P i j k)\/n=neg (cc (iY P i j k)))/\d=dot n (P i)
 supp:AF P N n d
def oN{v:V}(h:v≠zero):0<bX v:=by
 rcases zAb (bX v) with e|p
 ·exfalso;unfold bX at e;rw[Nat.gcd_eq_zero_iff,Nat.gcd_eq_zero_iff] at e;exact h (V.ext' (by simp[zero];omega) (by simp[zero];omega) (by simp[zero];omega))
 ·exact p
def lG(v:V):v=dq (bX v) (cc v):=by
 have d1:(bX v:Int) ∣ v.x:=zcb.2 (zJc (zqb _ _) (zqb _ _));have d2:(bX v:Int) ∣ v.y:=zcb.2 (zJc (zqb _ _) (ztb _ _));have d3:(bX v:Int) ∣ v.z:=zcb.2 (ztb _ _);apply V.ext'
 ·exact(zHd d1).symm
 ·exact(zHd d2).symm
 ·exact(zHd d3).symm
def pT(k:Nat)(v:V):bX (dq k v)=k*bX v:=by simp only[bX,dq,zSa,zza];rw[Nat.gcd_mul_left,Nat.gcd_mul_left]
def vz{v:V}(h:v≠zero):bX (cc v)=1:=by have p:=oN h;have e:=pT (bX v) (cc v);rw[<-lG v] at e;exact(Nat.eq_of_mul_eq_mul_left p j1).symm
def y6(v:V):bX (neg v)=bX v:=by simp[bX,neg]
def G5(v:V):cc (neg v)=neg (cc v):=by have e:=lG v;unfold cc;rw[y6];have d1:(bX v:Int) ∣ v.x:=zcb.2 (zJc (zqb _ _) (zqb _ _));have d2:(bX v:Int) ∣ v.y:=zcb.2 (zJc (zqb _ _) (ztb _ _));have d3:(bX v:Int) ∣ v.z:=zcb.2 (ztb _ _);simp only[neg,zVc d1,zVc d2,zVc d3]
def xD{v:V}(h:v≠zero):cc v≠zero:=λe=>h (by rw[lG v,e];apply V.ext'<;>simp[dq,zero])
def G6{u v:V}(hu:bX u=1)(k:bX v=1){a b:Int}(i:0<a)(j:0<b)(h:dq a u=dq b v):u=v:=by
 obtain⟨a,rfl⟩:=zAc (zUa i);obtain⟨b,rfl⟩:=zAc (zUa j);have e:=pT a u;have g:=pT b v;rw[h,g,hu,k] at e;have:a=b:=j1
 subst this;have h1:=zxa V.x h;have d:=zxa V.y h;have f:=zxa V.z h;simp only[dq] at h1 d f;have c:(a:Int)≠0:=j1
 exact V.ext' (Int.eq_of_mul_eq_mul_left c h1) (Int.eq_of_mul_eq_mul_left c d) (Int.eq_of_mul_eq_mul_left c f)
section
variable{P:Nat->V}{N:Nat}
def IsF.nz{n:V}{d:Int}(h:IsF P N n d):n≠zero/\bX n=1:=by
 obtain⟨i,j,k,_,_,_,h1,a|a,_⟩:=h.ex
 ·subst a;exact⟨xD h1,vz h1⟩
 ·subst a;refine⟨λe=>xD h1 ?_,by rw[y6];exact vz h1⟩
  have b:=zxa V.x e;have c:=zxa V.y e;have f:=zxa V.z e;simp only[neg,zero] at b c f;exact V.ext' (by simp only[zero];omega) (by simp only[zero];omega) (by simp only[zero];omega)
def bw{n:V}{d:Int}{k:Nat}:k∈bD P N n d↔k<N/\dot n (P k)=d:=by simp[bD]
def fq(n:V)(i k:Nat):dot n (wy P i k)=dot n (P k)-dot n (P i):=by simp only[dot,wy,sub];grind
def IsF.three{n:V}{d:Int}(h:IsF P N n d):∃ i j k,i<j/\j<k/\k<N/\i∈bD P N n d/\j∈bD P N n d/\k∈bD P N n d/\iY P i j k≠zero:=by
 obtain⟨i,j,k,b,c,hk,h1,a,o⟩:=h.ex;have g:=oN h1;have e:=lG (iY P i j k);have t1:dot (iY P i j k) (wy P i j)=0:=by simp only[iY,dot,cross];grind
 have t2:dot (iY P i j k) (wy P i k)=0:=by simp only[iY,dot,cross];grind
 have key:∀ v:V,dot (iY P i j k) v=0->dot n v=0:=λv f=>by
  rw[e] at f;have:(bX (iY P i j k):Int)*dot (cc (iY P i j k)) v=0:=by rw[<-f];simp only[dot,dq];grind
  have h0:=bC j1 this
  rcases a with a|a
  ·rw[a];exact h0
  ·rw[a];have:dot (neg (cc (iY P i j k))) v=- dot (cc (iY P i j k)) v:=by simp only[dot,neg];grind
   omega
 have l:=key _ t1;have m:=key _ t2;rw[fq] at l m;exact⟨i,j,k,b,c,hk,bw.2 ⟨j1,j1⟩,bw.2 ⟨j1,j1⟩,bw.2 ⟨hk,j1⟩,h1⟩
theorem IsF.flat(hl:∀ i j,i<j->j<N->aV (P i) (P j)){n:V}{d:Int}(h:IsF P N n d):Flat n P (bD P N n d):=by
 refine⟨h.nz.1,λx hx y f=>?_,λx hx y f e=>?_⟩
 ·have a:=(bw.1 hx).2;have b:=(bw.1 f).2;rw[fq];omega
 ·have a:=(bw.1 hx).1;have b:=(bw.1 f).1;rcases zrd x y with c|c|c
  ·have:=hl x y c b;rw[e] at this;simp only[aV] at this;omega
  ·exact c
  ·have:=hl y x c a;rw[e] at this;simp only[aV] at this;omega
def IsF.left(hl:∀ i j,i<j->j<N->aV (P i) (P j)){n:V}{d:Int}(h:IsF P N n d){a b:Nat}(m:a∈bD P N n d)(c:Side n P (bD P N n d) a b) :
  ∃ x∈bD P N n d,0<T n (wy P a b) (wy P a x):=by
 obtain⟨i,j,k,t,E,hk,r,s,mk,G⟩:=h.three;have F:=h.flat hl;have key:∀ x∈bD P N n d,0<T n (wy P a b) (wy P a x)\/cross (wy P a b) (wy P a x)=zero:=λx hx=>by
  rcases zCb (c.all x hx).1 with h1|h1
  ·exact .inl h1
  ·exact .inr (fm F.nz (F.pl a m b c.mem) (F.pl a m x hx) h1.symm)
 rcases key i r with h1|h1
 ·exact⟨i,r,h1⟩
 rcases key j s with f|f
 ·exact⟨j,s,f⟩
 rcases key k mk with g|g
 ·exact⟨k,mk,g⟩
 exfalso;apply G;have q:=bN (rm F m c.mem c.ne);have p1:=G0 h1 (wy P a b);have o:=G0 f (wy P a b);have p:=G0 g (wy P a b);have w1:wy P i j=sub (wy P a j) (wy P a i):=by apply V.ext'<;>simp only[wy,sub]<;>omega
 have M:wy P i k=sub (wy P a k) (wy P a i):=by apply V.ext'<;>simp only[wy,sub]<;>omega
 unfold iY;rw[w1,M];generalize wy P a b=e at *;generalize wy P a i=u at *;generalize wy P a j=v at *;generalize wy P a k=w at *;generalize dot e u=A at *;generalize dot e v=B at *;generalize dot e w=C at *;generalize dot e e=D at *;have q1:=zxa V.x p1;have H:=zxa V.y p1;have I:=zxa V.z p1;have r1:=zxa V.x o;have J:=zxa V.y o;have K:=zxa V.z o;have s1:=zxa V.x p;have s2:=zxa V.y p;have L:=zxa V.z p;simp only[dq] at q1 H I r1 J K s1 s2 L;have l:0<D*D:=zJb q q;apply V.ext'<;>simp only[cross,sub,zero]<;>refine bC l ?_<;>grind
theorem far{n e:V}(he:dot n e=0){w:Nat->V}:∀ l:List Nat,l≠[]->(∀ y∈l,dot n (w y)<0)->∃ y∈l,∀ x∈l,0<=dot e (cross (w y) (w x))
 | [],h,_=>z3a rfl h
 | [y],_,hn=>⟨y,zwa,λx hx=>by
   rw[zKa.1 hx];have:dot e (cross (w y) (w y))=0:=by simp only[dot,cross];grind
   omega⟩
 | z::j::l,_,hn=>by
  obtain⟨y,b,a⟩:=far he (j::l) s6 (λy b=>hn y (zma _ b))
  have self:∀ v:V,dot e (cross v v)=0:=λv=>by simp only[dot,cross];grind
  have i:∀ u v:V,dot e (cross v u)=- dot e (cross u v):=λu v=>by simp only[dot,cross];grind
  have pl:∀ x y z:V,dot n x*dot e (cross y z)=dot n z*dot e (cross y x)+dot n y*dot e (cross x z):=λx y z=>by
   have:dot n x*dot e (cross y z)-(dot n z*dot e (cross y x)+dot n y*dot e (cross x z))=dot n e*dot x (cross y z):=by simp only[dot,cross];grind
   rw[he] at this;omega
  rcases zYb (dot e (cross (w y) (w z))) 0 with d|c
  ·refine⟨z,zwa,λx hx=>?_⟩;rcases zGa.1 hx with rfl|hx
   ·have:=self (w x);omega
   ·have h1:=a x hx;have k:=pl (w y) (w z) (w x);have o:=hn y (zma _ b);have f:=hn z zwa;have g:=hn x (zma _ hx);have m:=i (w y) (w z);have a1:dot n (w x)*dot e (cross (w z) (w y))<=0:=Int.mul_nonpos_of_nonpos_of_nonneg (zUa g) j1
    have a2:dot n (w z)*dot e (cross (w y) (w x))<=0:=Int.mul_nonpos_of_nonpos_of_nonneg (zUa f) h1;have a3:0<=(-(dot n (w y)))*dot e (cross (w z) (w x)):=by rw[Int.neg_mul];omega
    exact vX j1 a3
  ·refine⟨y,zma _ b,λx hx=>?_⟩;rcases zGa.1 hx with rfl|hx
   ·exact c
   ·exact a x hx
def NH{p q r:Nat}(hp:p<N)(hq:q<N)(u:r<N)(h1:p≠q)(y:p≠r)(z:q≠r){m:V}(hm:m=iY P p q r)(hle:∀ x,x<N->dot m (wy P p x)<=0)(d:∃ x,x<N/\dot m (wy P p x)<0) :
  ∃ s,∃ g:Int,0<g/\m=dq g s/\IsF P N s (dot s (P p)):=by
 have f:m≠zero:=λe=>by obtain⟨x,_,hx⟩:=d;rw[e] at hx;simp[dot,zero] at hx
 have C:=oN f;have e:=lG m;refine⟨cc m,bX m,j1,e,?_,?_⟩
 ·have perm:∀ i j k,i<j->j<k->k<N->(m=iY P i j k\/m=neg (iY P i j k))->(dot (cc m) (wy P i p)=0)->∃ i j k,i<j/\j<k/\k<N/\iY P i j k≠zero/\(cc m=cc (iY P i j k)\/cc m=neg (cc (iY P i j k)))/\dot (cc m) (P p)=dot (cc m) (P i):=by
   intro i j k n o hk c A;rw[fq] at A;refine⟨i,j,k,n,o,hk,λt=>f ?_,?_,j1⟩
   ·rcases c with c|c
    ·rw[c,t]
    ·rw[c,t];rfl
   ·rcases c with c|c
    ·exact .inl (by rw[c])
    ·exact .inr (by rw[c,G5])
  have l:∀ v:V,dot m v=0->dot (cc m) v=0:=λv B=>by
   have:(bX m:Int)*dot (cc m) v=0:=by
    rw[<-B]
    conv=>rhs;rw[e]
    simp only[dot,dq];grind
   exact bC j1 this
  have w:dot (cc m) (wy P p p)=0:=l _ (by simp only[dot,wy,sub];grind)
  have z2:dot (cc m) (wy P q p)=0:=l _ (by rw[hm];simp only[dot,iY,cross,wy,sub];grind)
  have z3:dot (cc m) (wy P r p)=0:=l _ (by rw[hm];simp only[dot,iY,cross,wy,sub];grind)
  rcases Nat.lt_or_gt_of_ne h1 with a1|a1<;>rcases Nat.lt_or_gt_of_ne y with a2|a2<;>rcases Nat.lt_or_gt_of_ne z with a3|a3
  ·exact perm p q r a1 a3 u (.inl hm) w
  ·exact perm p r q a2 a3 hq (.inr (by rw[hm];apply V.ext'<;>simp only[iY,neg,cross,wy,sub]<;>grind)) w
  ·omega
  ·exact perm r p q a2 a1 hq (.inl (by rw[hm];apply V.ext'<;>simp only[iY,neg,cross,wy,sub]<;>grind)) z3
  ·exact perm q p r a1 a2 u (.inr (by rw[hm];apply V.ext'<;>simp only[iY,neg,cross,wy,sub]<;>grind)) z2
  ·omega
  ·exact perm q r p a3 a2 hp (.inl (by rw[hm];apply V.ext'<;>simp only[iY,neg,cross,wy,sub]<;>grind)) z2
  ·exact perm r q p a3 a1 hp (.inr (by rw[hm];apply V.ext'<;>simp only[iY,neg,cross,wy,sub]<;>grind)) z3
 ·have sc:∀ v:V,dot m v=(bX m:Int)*dot (cc m) v:=λv=>by
   conv=>lhs;rw[e]
   simp only[dot,dq];grind
  refine⟨λx hx=>?_,?_⟩
  ·have h:=hle x hx;rw[sc,fq] at h;rcases zYb (dot (cc m) (P p)) (dot (cc m) (P x)) with k|k
   ·have:=zJb (a:=(bX m:Int)) (b:=dot (cc m) (P x)-dot (cc m) (P p)) j1 j1
    omega
   ·exact k
  ·obtain⟨x,hx,h⟩:=d;rw[sc,fq] at h;refine⟨x,hx,?_⟩;rcases zYb (dot (cc m) (P x)) (dot (cc m) (P p)) with k|k
   ·exact k
   ·have:=zLb (a:=(bX m:Int)) (b:=dot (cc m) (P x)-dot (cc m) (P p)) j1 j1
    omega
end
open V
section
variable{P:Nat->V}{N:Nat}
def ns(hl:∀ i j,i<j->j<N->aV (P i) (P j)){n:V}{d:Int}(h:IsF P N n d){a b:Nat}(G:a∈bD P N n d)(A:Side n P (bD P N n d) a b) :
  ∃ f d',IsF P N f d'/\a∈bD P N f d'/\b∈bD P N f d'/\Side f P (bD P N f d') b a:=by
 have F:=h.flat hl;have I:=(bw.1 G).1;have a3:=(bw.1 G).2;have K:=(bw.1 A.mem).1;have he:dot n (wy P a b)=0:=F.pl a G b A.mem;obtain⟨x1,B,H⟩:=h.left hl G A;have Q:dot n (wy P a x1)=0:=F.pl a G x1 B;have hle:∀ x,x<N->dot n (wy P a x)<=0:=λx hx=>by rw[fq];have:=h.supp.1 x hx;omega
 have s:=bN F.nz;obtain⟨z,aI,hz⟩:=h.supp.2;obtain⟨y,X,M⟩:=far (w:=wy P a) he ((List.range N).filter λk=>decide (dot n (wy P a k)<0)) (List.ne_nil_of_mem (a:=z) (by simp[aI,fq];omega)) (λy X=>by simpa using(zYc.1 X).2)
 have al:y<N:=by simpa using(zYc.1 X).1
 have C:dot n (wy P a y)<0:=by simpa using(zYc.1 X).2
 have o:∀ x,x<N->dot n (wy P a x)<0->0<=dot (wy P a b) (cross (wy P a y) (wy P a x)):=λx hx hn=>M x (by simp[hx,hn])
 have m:∀ u v:V,dot n u=0->dot n v=0->∀ y:V,dot n n*dot (cross u v) y=dot n (cross u v)*dot n y:=λu v hu hv y=>by have c:=jD hu hv;have c1:=zxa V.x c;have c2:=zxa V.y c;have Y:=zxa V.z c;generalize cross u v=k at *;simp only[cross,zero] at c1 c2 Y;simp only[dot];grind
 have S:∀ v:V,dot (cross (wy P a y) (wy P a b)) v=- dot (wy P a b) (cross (wy P a y) v):=λv=>by simp only[dot,cross];grind
 have D:∀ v:V,dot (cross (wy P a y) (wy P a b)) v=dot (cross (wy P a b) v) (wy P a y):=λv=>by simp only[dot,cross];grind
 have E:∀ x∈bD P N n d,dot n n*dot (cross (wy P a y) (wy P a b)) (wy P a x)=T n (wy P a b) (wy P a x)*dot n (wy P a y):=λx hx=>by rw[D];exact m _ _ he (F.pl a G x hx) _
 have a0:∀ x,x<N->dot (cross (wy P a y) (wy P a b)) (wy P a x)<=0:=λx hx=>by
  rcases zCb (hle x hx) with k|k
  ·rw[S];have:=o x hx k;omega
  ·have l:x∈bD P N n d:=bw.2 ⟨hx,by rw[fq] at k;omega⟩
   have e:=E x l;have t:=(A.all x l).1;have:T n (wy P a b) (wy P a x)*dot n (wy P a y)<=0:=Int.mul_nonpos_of_nonneg_of_nonpos t (zUa C);rcases zYb 0 (dot (cross (wy P a y) (wy P a b)) (wy P a x)) with q|q
   ·have:=zJb s q;omega
   ·exact q
 have U:dot (cross (wy P a y) (wy P a b)) (wy P a x1)<0:=by
  have e:=E x1 B;have:T n (wy P a b) (wy P a x1)*dot n (wy P a y)<0:=zxb H C;rcases zYb (dot (cross (wy P a y) (wy P a b)) (wy P a x1)) 0 with q|q
  ·exact q
  ·have:=zLb (zUa s) q;omega
 have an:a≠y:=λe=>by subst e;rw[show dot n (wy P a a)=0 by simp only[dot,wy,sub];grind] at C;omega
 have ax:y≠b:=λe=>by subst e;omega
 obtain⟨f,g,hg,hm,hF⟩:=NH (p:=a) (q:=y) (r:=b) I al K an (Ne.symm A.ne) ax rfl a0 ⟨x1,(bw.1 B).1,U⟩;have sc:∀ v:V,dot (cross (wy P a y) (wy P a b)) v=g*dot f v:=λv=>by have:iY P a y b=cross (wy P a y) (wy P a b):=rfl;rw[<-this,hm];simp only[dot,dq];grind
 have L:dot f (wy P a b)=0:=bC hg (by rw[<-sc];simp only[dot,cross];grind)
 have J:a∈bD P N f (dot f (P a)):=bw.2 ⟨I,rfl⟩;have ad:b∈bD P N f (dot f (P a)):=bw.2 ⟨K,by rw[fq] at L;omega⟩
 refine⟨f,_,hF,J,ad,J,Ne.symm A.ne,λx hx=>?_⟩;have R:=(bw.1 hx).1;have O:dot f (wy P a x)=0:=by rw[fq];have:=(bw.1 hx).2;omega
 have a1:dot (cross (wy P a y) (wy P a b)) (wy P a x)=0:=by rw[sc,O,zXc]
 have tE:T f (wy P b a) (wy P b x)=dot f (cross (wy P a x) (wy P a b)):=by simp only[T,dot,cross,wy,sub];grind
 have dE:dot (wy P b x) (wy P b a)=dot (wy P a b) (wy P a b)-dot (wy P a x) (wy P a b):=by simp only[dot,wy,sub];grind
 have Z:dot (wy P b a) (wy P b a)=dot (wy P a b) (wy P a b):=by simp only[dot,wy,sub];grind
 rw[tE,dE,Z];rcases zCb (hle x R) with k|k
 ·
  have c1:dot (cross (wy P a x) (wy P a b)) (wy P a x1)<0:=by
   have e:=m (wy P a b) (wy P a x1) he Q (wy P a x);have e2:dot (cross (wy P a x) (wy P a b)) (wy P a x1)=dot (cross (wy P a b) (wy P a x1)) (wy P a x):=by simp only[dot,cross];grind
   have:T n (wy P a b) (wy P a x1)*dot n (wy P a x)<0:=zxb H k;rw[e2];simp only[T] at this;rcases zYb (dot (cross (wy P a b) (wy P a x1)) (wy P a x)) 0 with q|q
   ·exact q
   ·have:=zLb (zUa s) q;omega
  have a2:dot f f*dot (cross (wy P a x) (wy P a b)) (wy P a x1)=dot f (cross (wy P a x) (wy P a b))*dot f (wy P a x1):=by have c:=jD O L;have c1:=zxa V.x c;have c2:=zxa V.y c;have Y:=zxa V.z c;generalize cross (wy P a x) (wy P a b)=k at *;simp only[cross,zero] at c1 c2 Y;simp only[dot];grind
  have W:=bN hF.nz.1;have n1:dot f (wy P a x1)<0:=by
   rw[sc] at U;rcases zYb (dot f (wy P a x1)) 0 with q|q
   ·exact q
   ·have:=zLb (zUa hg) q;omega
  have l1:dot f f*dot (cross (wy P a x) (wy P a b)) (wy P a x1)<0:=zxb W c1;have pos:0<dot f (cross (wy P a x) (wy P a b)):=by
   rcases zYb 0 (dot f (cross (wy P a x) (wy P a b))) with q|q
   ·exact q
   ·have:=Int.mul_nonneg_of_nonpos_of_nonpos q (zUa n1);omega
  exact⟨zUa pos,λh0=>j1⟩
 ·have l:x∈bD P N n d:=bw.2 ⟨R,by rw[fq] at k;omega⟩
  have e:=E x l;rw[a1,zXc] at e;have t0:T n (wy P a b) (wy P a x)=0:=by
   rcases zid.1 e.symm with q|q
   ·exact q
   ·omega
  have s2:=(A.all x l).2 t0;have c0:=fm F.nz he k t0;have:dot f (cross (wy P a x) (wy P a b))=0:=by
   have e2:dot f (cross (wy P a x) (wy P a b))=- dot f (cross (wy P a b) (wy P a x)):=by simp only[dot,cross];grind
   rw[e2,c0];simp[dot,zero]
  rw[this];exact⟨zyd _,λ_=>⟨j1,j1⟩⟩
end
open V
section
variable{n:V}{P:Nat->V}{on:List Nat}
def Side.start(h:Flat n P on){a b:Nat}(d:a∈on)(f:Side n P on a b):kU P on a:=by
 obtain⟨K,r,s⟩:=iJ (λx=>dot (wy P a b) (wy P a x)) on;refine⟨add (dq K (cross n (wy P a b))) (wy P a b),λx hx i=>?_⟩;have e:dot (add (dq K (cross n (wy P a b))) (wy P a b)) (wy P a x)=K*T n (wy P a b) (wy P a x)+dot (wy P a b) (wy P a x):=by simp only[T,dot,add,dq,cross];grind
 rw[e];obtain⟨h1,q⟩:=f.all x hx;have c:=s x hx;rcases zCb h1 with k|k
 ·have:K*1<=K*T n (wy P a b) (wy P a x):=zHb j1 (zUa r)
  omega
 ·rw[<-k,zXc,Int.zero_add];obtain⟨q1,t⟩:=q k.symm;have m:dot (wy P a b) (wy P a x)=dot (wy P a x) (wy P a b):=by simp only[dot];grind
  rw[m];rcases zCb q1 with p|p
  ·exact p
  ·exfalso;have o:=fm h.nz (h.pl a d b f.mem) (h.pl a d x hx) k.symm;have g:=G0 o (wy P a b);rw[m,<-p] at g;have hp:=bN (rm h d f.mem f.ne);apply rm h d hx i;have p1:=zxa V.x g;have j:=zxa V.y g;have l:=zxa V.z g;simp only[dq,zFc] at p1 j l;exact V.ext' (bC hp p1) (bC hp j) (bC hp l)
end
theorem qh{α:Type}{r:α->α->Prop}(c:∀ a,¬ r a a)(d:∀ a b,r a b->¬ r b a):∀ {l l':List α},l.Pairwise r->l'.Pairwise r->(∀ x,x∈l↔x∈l')->l=l'
 | [],[],_,_,_=>rfl
 | [],b::l',_,_,h=>z3a ((h b).2 zwa) s6
 | a::l,[],_,_,h=>z3a ((h a).1 zwa) s6
 | a::l,b::l',h1,i,h=>by
  obtain⟨f,j⟩:=z9a.1 h1;obtain⟨g,k⟩:=z9a.1 i;have e:a=b:=by
   rcases zGa.1 ((h a).1 zwa) with e|m
   ·exact e
   ·rcases zGa.1 ((h b).2 zwa) with e|n
    ·exact e.symm
    ·exact z3a (f b n) (d _ _ (g a m))
  subst e;rw[qh c d j k λx=>?_];constructor
  ·intro hx;rcases zGa.1 ((h x).1 (zma _ hx)) with e|m
   ·subst e;exact z3a (f x hx) (c x)
   ·exact m
  ·intro hx;rcases zGa.1 ((h x).2 (zma _ hx)) with e|m
   ·subst e;exact z3a (g x hx) (c x)
   ·exact m
def pY(a:V):¬ aV a a:=by simp only[aV];omega
def vJ(a b:V):aV a b->¬ aV b a:=by simp only[aV];omega
def qH{a b c:V}:aV a b->aV b c->aV a c:=by simp only[aV];omega
def vK{a b:V}(h:a≠b):aV a b\/aV b a:=by simp only[aV];rcases zXb a.x b.x with h1|h1|h1<;>rcases zXb a.y b.y with c|c|c<;>rcases zXb a.z b.z with d|d|d<;>first|omega|exact z3a (V.ext' h1 c d) h
structure Facets(P:Nat->V)(N:Nat)(L:List (V×Int)):Prop where
 ord:L.Pairwise (λa b=>aV a.1 b.1)
 mem:∀ q,q∈L↔IsF P N q.1 q.2
def Facets.eq{P:Nat->V}{N:Nat}{L L':List (V×Int)}(h:Facets P N L)(c:Facets P N L'):L=L':=
 qh (r:=λa b=>aV a.1 b.1) (λa=>pY a.1) (λa b=>vJ a.1 b.1) h.ord c.ord λx=>(h.mem x).trans (c.mem x).symm
section
variable{P:Nat->V}{N:Nat}{n:V}{d:Int}
def IsF.d_eq{d':Int}(h:IsF P N n d)(a:IsF P N n d'):d=d':=by
 obtain⟨i,_,_,f,g,hk,_,_,e⟩:=h.ex;obtain⟨k,_,_,b,c,j,_,_,l⟩:=a.ex;have h1:=h.supp.1 k j1
 have m:=a.supp.1 i j1
 omega
def fP(P:Nat->V)(N:Nat)(n:V)(d:Int)(l:List Nat):Prop:=∃ a,(bD P N n d).head?=some a/\Chain (Side n P (bD P N n d)) a a l
def GV:(bD P N n d).Pairwise (·<·):=List.Pairwise.sublist List.filter_sublist List.pairwise_lt_range
theorem IsF.head(hl:∀ i j,i<j->j<N->aV (P i) (P j))(h:IsF P N n d):∃ a,(bD P N n d).head?=some a/\a∈bD P N n d/\kU P (bD P N n d) a/\(∀ x∈bD P N n d,a<=x)/\∀ c∈bD P N n d,∃ x∈bD P N n d,x≠c:=by
 obtain⟨i,j,k,o,p,hk,b,g,mk,r⟩:=h.three;cases hon:bD P N n d with
 | nil=>rw[hon] at b;simp at b
 | cons a l=>
  have f:(a::l).Pairwise (·<·):=by rw[<-hon];exact GV
  rw[z9a] at f;have hle:∀ x∈a::l,a<=x:=λx hx=>by
   rcases zGa.1 hx with e|m
   ·omega
   ·exact zmc (f.1 x m)
  refine⟨a,rfl,zwa,DT λx hx q=>?_,hle,λc hc=>?_⟩
  ·have:=hle x hx;rw[<-hon] at hx;exact hl a x j1 (bw.1 hx).1
  ·rw[hon] at b g;by_cases e:i=c
   ·exact⟨j,g,j1⟩
   ·exact⟨i,b,e⟩
def IsF.poly(hl:∀ i j,i<j->j<N->aV (P i) (P j))(h:IsF P N n d) :
  ∃ l,fP P N n d l/\l.Nodup/\∀ z,z∈l↔z∈bD P N n d/\kU P (bD P N n d) z:=by
 obtain⟨a,h1,b,c,p,e⟩:=h.head hl;obtain⟨l,f,g,k,m⟩:=Bs (h.flat hl) b c e;exact⟨l,⟨a,h1,f⟩,g,λz=>⟨k z,λ⟨q1,o⟩=>m z q1 o⟩⟩
def fP.eq(hl:∀ i j,i<j->j<N->aV (P i) (P j))(h:IsF P N n d){l l':List Nat}(k:fP P N n d l)(o:fP P N n d l'):l=l':=by
 obtain⟨a,h1,q⟩:=k;obtain⟨a',g,m⟩:=o;rw[h1] at g;cases g;obtain⟨b,g1,g2,g3,g4,g5⟩:=h.head hl;rw[h1] at g1;cases g1;have F:=h.flat hl;have key:∀ {c:Nat} {l l':List Nat},c∈bD P N n d->Chain (Side n P (bD P N n d)) a c l->Chain (Side n P (bD P N n d)) a c l'->l=l':=by
  intro c l l' hc r
  induction r generalizing l' with
  | done s=>intro p;cases p with
   | done _=>rfl
   | step s' f _=>exact z3a (aeD F hc s' s) f
  | step s f k ih=>intro p;cases p with
   | done s'=>exact z3a (aeD F hc s s') f
   | step s' _ o=> have e:=aeD F hc s s';subst e;rw[ih s.mem o]
 exact key g2 q m
end
end Geo
end
noncomputable section
namespace Sy
open Go Go.Proofs Geo
abbrev I(n:Int):D:=.int .i64 n
def ak(v:V):D:=.st [I v.x,I v.y,I v.z]
def inR(n:Int):Prop:=-9223372036854775808<=n/\n<=9223372036854775807
def jn{n:Int}(h:inR n):IntKind.wrap .i64 n=n:=by
 obtain⟨h1,a⟩:=h;simp only[IntKind.wrap,IntKind.signed,IntKind.bits];first
  | omega
  | (simp;omega)
def aN{a b:Int}(h:inR (a+b)):adW .add (I a) (I b)=some (I (a+b)):=by simp only[adW,if_true,jn h]
def bB{a b:Int}(h:inR (a-b)):adW .sub (I a) (I b)=some (I (a-b)):=by simp only[adW,if_true,jn h]
def cO{a b:Int}(h:inR (a*b)):adW .mul (I a) (I b)=some (I (a*b)):=by simp only[adW,if_true,jn h]
def ai{a b:Int}:adW .lss (I a) (I b)=some (.bool (decide (a<b))):=by simp only[adW,if_true]
def dY{a b:Int}:adW .leq (I a) (I b)=some (.bool (decide (a<=b))):=by simp only[adW,if_true]
def bU{a b:Int}:adW .gtr (I a) (I b)=some (.bool (decide (a>b))):=by simp only[adW,if_true]
def eU{a b:Int}:adW .geq (I a) (I b)=some (.bool (decide (a ≥ b))):=by simp only[adW,if_true]
def kD{a b:Int}(h:b≠0):adW .rem (I a) (I b)=some (I (a.tmod b)):=by simp only[adW,if_true,h,if_false]
def oa{a b:Int}(h:b≠0)(c:inR (a.tdiv b)):adW .quo (I a) (I b)=some (I (a.tdiv b)):=by simp only[adW,if_true,h,if_false,jn c]
def ur{a:Int}(h:inR (-a)):aeb .neg (I a)=some (I (-a)):=by simp only[aeb,Int.zero_sub,jn h]
def aF{b:Bool}:aeb .not (.bool b)=some (.bool (!b)):=rfl
def ac{b:Bool}:D.truth (.bool b)=some b:=rfl
def tG{a b:Int}:D.max2 (I a) (I b)=some (I (max a b)):=by simp only[D.max2];congr 2;split<;>omega
def GM{a b:Int}:D.min2 (I a) (I b)=some (I (min a b)):=by simp only[D.min2];congr 2;split<;>omega
def cp{a b:Int}:D.beq (I a) (I b)=decide (a=b):=by simp[D.beq]
def y9(v:V):D.get (ak v) [0]=some (I v.x):=rfl
def za(v:V):D.get (ak v) [1]=some (I v.y):=rfl
def zb(v:V):D.get (ak v) [2]=some (I v.z):=rfl
def AZ(x y z:Int):D.st [D.int .i64 x,D.int .i64 y,D.int .i64 z]=ak ⟨x,y,z⟩:=rfl
def bd(k:Int)(v:V):Prop:=(-k<=v.x/\v.x<=k)/\(-k<=v.y/\v.y<=k)/\(-k<=v.z/\v.z<=k)
def iK{a b A B:Int}(f:-A<=a/\a<=A)(g:-B<=b/\b<=B):-(A*B)<=a*b/\a*b<=A*B:=by
 have c:0<=A:=j1
 have d:0<=B:=j1
 have h1:(a*b).natAbs<=(A*B).natAbs:=by rw[zSa,zSa];exact z5a j1 j1
 have e:0<=A*B:=zLb c d;omega
def AH{A B:Int}{u v:V}(hu:bd A u)(a:bd B v):bd (A+B) (u.sub v):=by simp only[bd,V.sub] at *;omega
def Ft{A:Int}{u:V}(hu:bd A u):bd A u.neg:=by simp only[bd,V.neg] at *;omega
def so{A B:Int}{u v:V}(hu:bd A u)(a:bd B v):bd (2*(A*B)) (V.cross u v):=by have:=iK hu.1 a.1;have:=iK hu.1 a.2.1;have:=iK hu.1 a.2.2;have:=iK hu.2.1 a.1;have:=iK hu.2.1 a.2.1;have:=iK hu.2.1 a.2.2;have:=iK hu.2.2 a.1;have:=iK hu.2.2 a.2.1;have:=iK hu.2.2 a.2.2;simp only[bd,V.cross];omega
def yS{A B:Int}{u v:V}(hu:bd A u)(a:bd B v)(h:3*(A*B)<=9223372036854775807) :
  inR (u.x*v.x)/\inR (u.y*v.y)/\inR (u.z*v.z)/\inR (u.x*v.x+u.y*v.y)/\inR (u.x*v.x+u.y*v.y+u.z*v.z):=by
 have:=iK hu.1 a.1;have:=iK hu.2.1 a.2.1;have:=iK hu.2.2 a.2.2;simp only[inR];omega
def f101{call:Nat->List D->Option D}{A B:Int}{u v:V}(hu:bd A u)(e:bd B v)(h:3*(A*B)<=9223372036854775807):H1 aR call (ak u) (ak v)=some (I (V.dot u v)):=by obtain⟨h1,a,b,c,d⟩:=yS hu e h;simp only[H1,qG,qB,y9,za,zb,zba,cO h1,cO a,cO b,aN c,aN d];rfl
def Dz(n:Nat){A B:Int}{u v:V}(hu:bd A u)(e:bd B v)(h:3*(A*B)<=9223372036854775807):cA (n+1) 107 [ak u,ak v]=some (I (V.dot u v)):=by obtain⟨h1,a,b,c,d⟩:=yS hu e h;rw[Y2];simp only[H4,qG,qB,y9,za,zb,zba,cO h1,cO a,cO b,aN c,aN d];rfl
def AS{A B:Int}{u v:V}(hu:bd A u)(a:bd B v)(h:2*(A*B)<=9223372036854775807) :
  inR (u.y*v.z)/\inR (u.z*v.y)/\inR (u.z*v.x)/\inR (u.x*v.z)/\inR (u.x*v.y)/\inR (u.y*v.x)/\inR (u.y*v.z-u.z*v.y)/\inR (u.z*v.x-u.x*v.z)/\inR (u.x*v.y-u.y*v.x):=by
 have:=iK hu.1 a.1;have:=iK hu.1 a.2.1;have:=iK hu.1 a.2.2;have:=iK hu.2.1 a.1;have:=iK hu.2.1 a.2.1;have:=iK hu.2.1 a.2.2;have:=iK hu.2.2 a.1;have:=iK hu.2.2 a.2.1;have:=iK hu.2.2 a.2.2;simp only[inR];omega
def PI(n:Nat){A B:Int}{u v:V}(hu:bd A u)(j:bd B v)(h:2*(A*B)<=9223372036854775807):cA (n+1) 123 [ak u,ak v]=some (ak (V.cross u v)):=by obtain⟨h1,a,b,c,d,e,f,g,i⟩:=AS hu j h;rw[Ze];simp only[If,qG,qB,y9,za,zb,zba,cO h1,cO a,cO b,cO c,cO d,cO e,bB f,bB g,bB i];rfl
abbrev Bd:=List D->Option (Sum (List D) (Nat×List D))
def de{body:Bd}{s s':List D}{k:Nat×List D->Option D}{y:D}(h:body s=some (.inl s'))(hk:(aR body s').bind k=some y):(aR body s).bind k=some y:=by have:aR body s=aR body s':=cF h;rw[this];exact hk
def eX{body:Bd}{s:List D}{r:Nat×List D}{k:Nat×List D->Option D}{y:D}(h:body s=some (.inr r))(hk:k r=some y):(aR body s).bind k=some y:=by have:aR body s=some r:=cC h;rw[this];exact hk
def nG{body:Bd}{s:List D}{r:Nat×List D}{k:Nat×List D->Option D}{y:D}(h:aR body s=some r)(hk:k r=some y):(aR body s).bind k=some y:=by rw[h];exact hk
def aQ{body:Bd}{s0:List D}{k:Nat×List D->Option D}{y:D}(J:Nat->List D->Prop)(n i0:Nat)(c:i0<=n)(h0:J i0 s0)
  (b:∀ i,i<n->∀ s,J i s->(∃ s',body s=some (.inl s')/\J (i+1) s')\/∃ r,body s=some (.inr r)/\k r=some y) (he:∀ s,J n s->∃ r,body s=some (.inr r)/\k r=some y):(aR body s0).bind k=some y:=by
 obtain⟨m,hm⟩:∃ m,m=n-i0:=⟨_,rfl⟩
 induction m generalizing i0 s0 with
 | zero=>
  have:i0=n:=j1
  subst this;obtain⟨r,h1,a⟩:=he s0 h0;exact eX h1 a
 | succ m ih=>
  rcases b i0 j1 s0 h0 with⟨s',h1,a⟩|⟨r,h1,a⟩
  ·exact de h1 (ih (i0:=i0+1) j1 a j1)
  ·exact eX h1 a
def xq{body:Bd}{s0:List D}(J:Nat->List D->Prop)(Q:Nat×List D->Prop)(n i0:Nat)(e:i0<=n)(h0:J i0 s0)
  (b:∀ i,i<n->∀ s,J i s->(∃ s',body s=some (.inl s')/\J (i+1) s')\/∃ r,body s=some (.inr r)/\Q r) (he:∀ s,J n s->∃ r,body s=some (.inr r)/\Q r):∃ r,aR body s0=some r/\Q r:=by
 obtain⟨m,hm⟩:∃ m,m=n-i0:=⟨_,rfl⟩
 induction m generalizing i0 s0 with
 | zero=>
  have:i0=n:=j1
  subst this;obtain⟨r,h1,a⟩:=he s0 h0;exact⟨r,cC h1,a⟩
 | succ m ih=>
  rcases b i0 j1 s0 h0 with⟨s',h1,a⟩|⟨r,h1,a⟩
  ·obtain⟨r,c,d⟩:=ih (i0:=i0+1) j1 a j1
   exact⟨r,by rw[show aR body s0=aR body s' from cF h1];exact c,d⟩
  ·exact⟨r,cC h1,a⟩
def au{i n:Nat}(h:i<n):D.idx (I (i:Int)) n=some i:=by simp only[D.idx];rw[zja j1];simp
def aM{i:Nat}(h:i<=9223372036854775806):inR ((i:Int)+1):=by simp only[inR];omega
def g0{x:D}{l:List D}{d:D}:List.getD (x::l) 0 d=x:=rfl
def g1{x y:D}{l:List D}{d:D}:List.getD (x::y::l) 1 d=y:=rfl
def g2{x y z:D}{l:List D}{d:D}:List.getD (x::y::z::l) 2 d=z:=rfl
def g3{x y z w:D}{l:List D}{d:D}:List.getD (x::y::z::w::l) 3 d=w:=rfl
def QB:D.idx (I 0) 3=some 0:=rfl
def QC:D.idx (I 1) 3=some 1:=rfl
def QD:D.idx (I 2) 3=some 2:=rfl
def DA(n:Nat){A B:Int}{u v:V}(hu:bd A u)(c:bd B v)(h:A+B<=9223372036854775807):cA (n+1) 112 [ak u,ak v]=some (ak (u.sub v)):=by
 have h1:inR (u.x-v.x):=by simp only[bd,inR] at *;omega
 have a:inR (u.y-v.y):=by simp only[bd,inR] at *;omega
 have b:inR (u.z-v.z):=by simp only[bd,inR] at *;omega
 rw[Y7];simp only[H9,qG,qB,y9,za,zb,zba,bB h1,bB a,bB b];rfl
def cb(a b:Int):Int:=if a<b then -1 else if a>b then 1 else 0
def y7{body:Bd}(h0:∀ a b:Int,b≠0->body [I a,I b]=some (.inl [I b,I (a.tmod b)]))(h1:∀ a:Int,body [I a,I 0]=some (.inr (0,[I a]))) :
  ∀ (m:Nat) (a b:Int),b.natAbs=m->∃ r:Int,aR body [I a,I b]=some (0,[I r])/\r.natAbs=Nat.gcd a.natAbs b.natAbs:=by
 intro m
 induction m using Nat.strongRecOn with
 | _ m ih=>
  intro a b e;by_cases d:b=0
  ·subst d;exact⟨a,cC (h1 a),s6⟩
  ·have c:(a.tmod b).natAbs<m:=by
    rw[Int.natAbs_tmod,<-e];exact zVa _ j1
   obtain⟨r,f,g⟩:=ih _ c b (a.tmod b) rfl;refine⟨r,?_,?_⟩
   ·rw[show aR body [I a,I b]=aR body [I b,I (a.tmod b)] from cF (h0 a b d)];exact f
   ·rw[g,Int.natAbs_tmod,zDc a.natAbs,Nat.gcd_rec b.natAbs a.natAbs,zDc]
def tg{a b:Int}{k:Nat}(c:a.natAbs<=k)(d:b.natAbs<=k):Nat.gcd a.natAbs b.natAbs<=k:=by
 rcases zAb a.natAbs with h|h
 ·rw[h,Nat.gcd_zero_left];exact d
 ·exact zNa (Nat.le_of_dvd h (zqb _ _)) c
def XO(n:Nat){a b:Int}(e:a.natAbs<=9223372036854775807)(c:b.natAbs<=9223372036854775807):cA (n+1) 152 [I a,I b]=some (I (Nat.gcd a.natAbs b.natAbs:Nat)):=by
 rw[QY]
 delta Fa qB qT qZ iL iR Jn
 obtain⟨r,h1,d⟩:=y7 (body:=λ(v1:List D)=>
  (D.truth (D.bool (!(D.beq (gx v1 1) (D.int .i64 0))))).bind λb2=>
  if b2 then((adW .rem (gx v1 0) (gx v1 1)).bind λf=>
  some (Sum.inl [(gx v1 1),f])) else(some (Sum.inr (0,[(gx v1 0)]))))
  (λa b c=>by simp only[g0,g1,cp,ac,zba,c,decide_false,zqc,if_true,kD c])
  (λa=>by simp only[g0,g1,cp,ac,zba,decide_true,z1c,zLa,if_false]) _ a b rfl
 refine nG h1 ?_;have g:r.natAbs<=9223372036854775807:=by rw[d];exact tg e c
 have hn:inR (-r):=by simp only[inR];omega
 simp only[zba,g0,ur hn,tG];congr 2;omega
def L8(v:V):(bX v:Int) ∣ v.x:=zcb.2 (zJc (zqb _ _) (zqb _ _))
def L9(v:V):(bX v:Int) ∣ v.y:=zcb.2 (zJc (zqb _ _) (ztb _ _))
def Ma(v:V):(bX v:Int) ∣ v.z:=zcb.2 (ztb _ _)
def AW{a:Int}{g:Nat}{k:Int}(h:-k<=a/\a<=k)(b:(g:Int) ∣ a):-k<=a/g/\a/g<=k:=by
 have h1:(a/(g:Int)).natAbs<=a.natAbs:=by
  rcases zAb g with e|e
  ·subst e;simp
  ·obtain⟨c,rfl⟩:=b;rw[zib _ j1,zSa]
   exact zRb _ j1
 omega
def wT{k:Int}{v:V}(h:bd k v):bd k (cc v):=⟨AW h.1 (L8 v),AW h.2.1 (L9 v),AW h.2.2 (Ma v)⟩
def MV:Int:=262144
def u0{P:Nat->V}{i j:Nat}(a:bd MV (P i))(b:bd MV (P j)):bd 524288 (wy P i j):=by have:=AH b a;simpa [MV,wy] using this
def QQ(a:Int):-1<=sg a/\sg a<=1:=by unfold sg;split<;>(try split)<;>omega
def A9(a b:Int):inR (sg a*sg b):=by have:=iK (A:=1) (B:=1) (QQ a) (QQ b);simp only[inR];omega
def RR:inR (0+1):=⟨j2,j2⟩
def vD:inR (1+1):=⟨j2,j2⟩
def Qw:inR (2+1):=⟨j2,j2⟩
def M4(n:Nat)(a:Int):cA (n+1) 215 [I a]=some (I (sg a)):=by
 rw[ZL];simp only[IM,qC,Jn,ai,bU,zba,ac,zia,sg];split
 ·rfl
 ·split
  ·rfl
  ·rfl
def XW(n:Nat)(m c:V):cA (n+2) 188 [ak m,ak c]=some (I (CS m c)):=by
 rw[ZE]
 delta IG qB qC qT qJ qZ iL iR Jn CS
 by_cases hx:m.x=0
 ·refine de (s':=[I 1]) (by simp only[g0,ai,zba,ac,QB,y9,cp,hx,decide_true,z1c,zLa,if_false,aN RR];rfl) ?_
  by_cases hy:m.y=0
  ·refine de (s':=[I 2]) (by simp only[g0,ai,zba,ac,QC,za,cp,hy,decide_true,z1c,zLa,if_false,aN vD];rfl) ?_
   by_cases hz:m.z=0
   ·refine de (s':=[I 3]) (by simp only[g0,ai,zba,ac,QD,zb,cp,hz,decide_true,z1c,zLa,if_false,aN Qw];rfl) ?_
    refine eX (r:=(1,[])) (by simp only[g0,ai,zba,ac];rfl) ?_
    simp[hx,hy,hz]
   ·refine eX (r:=(0,[I (sg m.z*sg c.z)])) ?_ (by simp[hx,hy,hz])
    simp only[g0,ai,zba,ac,QD,zb,cp,hz,decide_false,zqc,if_true,M4,cO (A9 _ _)];rfl
  ·refine eX (r:=(0,[I (sg m.y*sg c.y)])) ?_ (by simp[hx,hy])
   simp only[g0,ai,zba,ac,QC,za,cp,hy,decide_false,zqc,if_true,M4,cO (A9 _ _)];rfl
 ·refine eX (r:=(0,[I (sg m.x*sg c.x)])) ?_ (by simp[hx])
  simp only[g0,ai,zba,ac,QB,y9,cp,hx,decide_false,zqc,if_true,M4,cO (A9 _ _)];rfl
instance decLex (a b:V):Decidable (aV a b):=by unfold aV;exact inferInstance
def PE(n:Nat)(a b:V):cA (n+1) 105 [ak a,ak b]=some (.bool (decide (aV a b))):=by
 rw[Y0];simp only[H2,qG,qB,qT,y9,za,zb,zba,cp,ac,ai,zCa,decide_eq_false_iff_not];by_cases h1:a.x=b.x
 ·by_cases h2:a.y=b.y
  ·simp[h1,h2,aV]
  ·simp only[h1,h2,aV,not_true,if_false,not_false_iff,if_true,Int.lt_irrefl,false_or,true_and,false_and,or_false]
 ·simp only[h1,aV,not_false_iff,if_true,false_and,or_false]
def bu(l:List V):D:=.sl (l.map ak)
def BL(l:List V)(m:V)(d:Int):Bool:=l.all λx=>decide (V.dot m x<=d)
def tB(l:List V)(m:V)(d:Int):Bool:=l.any λx=>decide (V.dot m x<d)
def DU{l:List V}{i:Nat}(h:i<l.length):(l.map ak)[i]?=some (ak l[i]):=by simp[h]
def XI(n:Nat){A:Int}{l:List V}{m:V}{d:Int}(hl:∀ x∈l,bd MV x)(hm:bd A m)(g:3*(A*262144)<=9223372036854775807)(hlen:l.length<=1000000):cA (n+2) 109 [bu l,ak m,I d]=some (.bool (BL l m d&&tB l m d)):=by
 rw[Y4]
 delta H6 qB qC qT qX qL qZ iL iR Jn
 refine aQ (λi s=>s=[.bool (tB (l.take i) m d),I i]/\BL (l.take i) m d=true) l.length 0 (zoa _) ⟨by simp[tB],by simp[BL]⟩ (λi a s c=>?_) (λs c=>?_)
 ·obtain⟨rfl,b⟩:=c;have f:l.take (i+1)=l.take i++[l[i]]:=zAa a;have hc:=Dz n hm (hl l[i] (zWa a)) g;simp only[bu,D.asSl,g0,g1,zva,ai,bU,zba,ac,zia,show((i:Int)<(l.length:Int)) from by omega,if_true,au a,DU a,hc]
  by_cases hgt:V.dot m l[i]>d
  ·right;refine⟨(0,[.bool false]),by simp only[hgt,if_true],?_⟩
   have:BL l m d=false:=by rw[zwc];intro h;have:=zya.1 h l[i] (zWa a);simp at this;omega
   simp[g0,this]
  ·left;refine⟨[.bool (tB (l.take (i+1)) m d),I ((i+1:Nat):Int)],?_,rfl,?_⟩
   ·simp only[hgt,if_false,aN (aM (i:=i) j1),zba]
    have e:tB (l.take (i+1)) m d=(tB (l.take i) m d||decide (V.dot m l[i]<d)):=by rw[f];simp only[tB,List.any_append,List.any_cons,List.any_nil,Bool.or_false]
    rw[e];cases tB (l.take i) m d<;>simp
   ·rw[f];simp only[BL,zEc,zaa] at b ⊢;exact⟨b,by simp;omega⟩
 ·obtain⟨rfl,b⟩:=c;refine⟨(1,[.bool (tB (l.take l.length) m d)]),?_,?_⟩
  ·simp only[bu,D.asSl,g0,g1,zva,ai,zba,ac,zia,Int.lt_irrefl,if_false]
  ·rw[z7a] at *;simp[g0,b]
def qK{α:Type}{body:Bd}{s0:List D}{k:Nat×List D->Option α}{Y:α->Prop}(J:Nat->List D->Prop)(n i0:Nat)(e:i0<=n)(h0:J i0 s0)
  (d:∀ i,i<n->∀ s,J i s->∃ z,body s=some z/\match z with|.inl s'=>J (i+1) s'|.inr r=>∃ y,k r=some y/\Y y)
  (he:∀ s,J n s->∃ z,body s=some z/\match z with|.inl _=>False|.inr r=>∃ y,k r=some y/\Y y):∃ y,(aR body s0).bind k=some y/\Y y:=by
 obtain⟨m,hm⟩:∃ m,m=n-i0:=⟨_,rfl⟩
 induction m generalizing i0 s0 with
 | zero=>
  have:i0=n:=j1
  subst this;obtain⟨z,h1,a⟩:=he s0 h0;cases z with
  | inl s'=>exact a.elim
  | inr r=>obtain⟨y,b,c⟩:=a;exact⟨y,by rw[show aR body s0=some r from cC h1];exact b,c⟩
 | succ m ih=>
  obtain⟨z,h1,a⟩:=d i0 j1 s0 h0
  cases z with
  | inl s'=>
   obtain⟨y,b,c⟩:=ih (i0:=i0+1) j1 a j1
   exact⟨y,by rw[show aR body s0=aR body s' from cF h1];exact b,c⟩
  | inr r=>obtain⟨y,b,c⟩:=a;exact⟨y,by rw[show aR body s0=some r from cC h1];exact b,c⟩
def dN{α:Type}{body:Bd}{s s':List D}{k:Nat×List D->Option α}{y:α}(h:body s=some (.inl s'))(hk:(aR body s').bind k=some y):(aR body s).bind k=some y:=by have:aR body s=aR body s':=cF h;rw[this];exact hk
def mg{α:Type}{body:Bd}{s:List D}{r:Nat×List D}{k:Nat×List D->Option α}{y:α}(h:body s=some (.inr r))(hk:k r=some y):(aR body s).bind k=some y:=by have:aR body s=some r:=cC h;rw[this];exact hk
def gD{α:Type}{body:Bd}{s0:List D}{k:Nat×List D->Option α}{y:α}(J:Nat->List D->Prop)(n i0:Nat)(c:i0<=n)(h0:J i0 s0)
  (b:∀ i,i<n->∀ s,J i s->(∃ s',body s=some (.inl s')/\J (i+1) s')\/∃ r,body s=some (.inr r)/\k r=some y) (he:∀ s,J n s->∃ r,body s=some (.inr r)/\k r=some y):(aR body s0).bind k=some y:=by
 obtain⟨m,hm⟩:∃ m,m=n-i0:=⟨_,rfl⟩
 induction m generalizing i0 s0 with
 | zero=>
  have:i0=n:=j1
  subst this;obtain⟨r,h1,a⟩:=he s0 h0;exact mg h1 a
 | succ m ih=>
  rcases b i0 j1 s0 h0 with⟨s',h1,a⟩|⟨r,h1,a⟩
  ·exact dN h1 (ih (i0:=i0+1) j1 a j1)
  ·exact mg h1 a
def aa{α β:Type}{A:Option α}{g:α->Option β}{z:α}{y:β}(h:A=some z)(hk:g z=some y):Option.bind A g=some y:=by rw[h];exact hk
theorem j0{α β:Type}{A:Option α}{g:α->Option β}{y:β}(z:α)(k:g z=some y)(h:A=some z:=by exact rfl):Option.bind A g=some y:=aa h k
def od(u v:V):D.beq (ak u) (ak v)=decide (u=v):=by
 simp only[ak,D.beq,D.beqs,decide_true,zrb,zzd];by_cases h:u=v
 ·subst h;simp
 ·by_cases h1:u.x=v.x<;>by_cases h2:u.y=v.y<;>by_cases h3:u.z=v.z<;>simp[h,h1,h2,h3];exact h (V.ext' h1 h2 h3)
def supp(l:List V)(q:V×Int):Bool:=BL l q.1 q.2&&tB l q.1 q.2
def uR(l:List V)(K:List (V×Int))(q:V×Int):List (V×Int):=if q∈K then K else if supp l q then K++[q] else K
def tO{l:List V}{K:List (V×Int)}{q x:V×Int}(h:x∈K):x∈uR l K q:=by
 unfold uR;split
 ·exact h
 ·split
  ·exact zlb _ h
  ·exact h
def zN{l:List V}{K:List (V×Int)}{q:V×Int}(h:supp l q=true):q∈uR l K q:=by
 unfold uR;split
 ·assumption
 ·simp
def zM{l:List V}{K:List (V×Int)}{q x:V×Int}(h:x∈uR l K q):x∈K\/(x=q/\supp l q=true):=by
 unfold uR at h;split at h
 ·exact .inl h
 ·split at h
  ·rename_i a;rcases zIa.1 h with h|h
   ·exact .inl h
   ·exact .inr ⟨zKa.1 h,a⟩
  ·exact .inl h
def tN{l:List V}{K:List (V×Int)}{q:V×Int}(h:K.Nodup):(uR l K q).Nodup:=by
 unfold uR;split
 ·exact h
 ·rename_i hq;split
  ·exact List.nodup_append.2 ⟨h,s6,λx hx y a e=>hq (by rw[zKa.1 a] at e;exact e ▸ hx)⟩
  ·exact h
def LK(a b c:V):V×Int:=(cc (V.cross (b.sub a) (c.sub a)),V.dot (cc (V.cross (b.sub a) (c.sub a))) a)
def Np(q:V×Int):V×Int:=(q.1.neg,-q.2)
def Cd(l:List V)(i j k:Nat)(q:V×Int):Prop:=(LK (l.getD i V.zero) (l.getD j V.zero) (l.getD k V.zero)).1≠V.zero/\(q=LK (l.getD i V.zero) (l.getD j V.zero) (l.getD k V.zero)\/q=Np (LK (l.getD i V.zero) (l.getD j V.zero) (l.getD k V.zero)))
structure Known(l:List V)(i j k:Nat)(K:List (V×Int)):Prop where
 nd:K.Nodup
 ok:∀ q∈K,supp l q=true/\∃ i j k,k<j/\j<i/\i<l.length/\Cd l i j k q
 all:∀ i' j' k',k'<j'->j'<i'->i'<l.length->(i'<i\/i'=i/\(j'<j\/j'=j/\k'<k))->∀ q,Cd l i' j' k' q->supp l q=true->q∈K
def Known.step{l:List V}{i j k:Nat}{K:List (V×Int)}(h:Known l i j k K)(hk:k<j)(c:j<i)(b:i<l.length)(d:(LK (l.getD i V.zero) (l.getD j V.zero) (l.getD k V.zero)).1≠V.zero) :
  Known l i j (k+1) (uR l (uR l K (LK (l.getD i V.zero) (l.getD j V.zero) (l.getD k V.zero))) (Np (LK (l.getD i V.zero) (l.getD j V.zero) (l.getD k V.zero)))):=by
 refine⟨tN (tN h.nd),λq hq=>?_,λf g m h1 n o p q hq a=>?_⟩
 ·rcases zM hq with hq|⟨rfl,a⟩
  ·rcases zM hq with hq|⟨rfl,a⟩
   ·exact h.ok q hq
   ·exact⟨a,i,j,k,hk,c,b,d,.inl rfl⟩
  ·exact⟨a,i,j,k,hk,c,b,d,.inr rfl⟩
 ·by_cases e:f=i/\g=j/\m=k
  ·obtain⟨rfl,rfl,rfl⟩:=e;rcases hq.2 with rfl|rfl
   ·exact tO (zN a)
   ·exact zN a
  ·exact tO (tO (h.all f g m h1 n o j1 q hq a))
def Known.skip{l:List V}{i j k:Nat}{K:List (V×Int)}(h:Known l i j k K)(m:(LK (l.getD i V.zero) (l.getD j V.zero) (l.getD k V.zero)).1=V.zero):Known l i j (k+1) K:=by
 refine⟨h.nd,h.ok,λa b c h1 d f n q hq g=>?_⟩;by_cases e:a=i/\b=j/\c=k
 ·obtain⟨rfl,rfl,rfl⟩:=e;exact z3a m hq.1
 ·exact h.all a b c h1 d f j1 q hq g
theorem nD{α β:Type}{f:α->List β}{c:Nat}:∀ l:List α,(∀ x∈l,(f x).length=c)->(l.flatMap f).length=l.length*c
 | [],_=>s6
 | x::l,h=>by rw[List.flatMap_cons,zFa,h x zwa,nD l (λy a=>h y (zma _ a)),zOa,Nat.succ_mul];omega
def Known.len{l:List V}{i j k:Nat}{K:List (V×Int)}(h:Known l i j k K)(hl:l.length<=100):K.length<=2000000:=by
 have h1:=zyc (l₂:=(List.range l.length).flatMap λi=>(List.range l.length).flatMap λj=>(List.range l.length).flatMap λk=>[LK (l.getD i V.zero) (l.getD j V.zero) (l.getD k V.zero),Np (LK (l.getD i V.zero) (l.getD j V.zero) (l.getD k V.zero))]) h.nd (λq hq=>by
  obtain⟨_,i,j,k,h1,d,a,b⟩:=h.ok q hq;refine zRc.2 ⟨i,zHa.2 a,zRc.2 ⟨j,zHa.2 j1,zRc.2 ⟨k,zHa.2 j1,?_⟩⟩⟩
  rcases b.2 with rfl|rfl<;>simp)
 rw[nD (c:=l.length*(l.length*2)) _ (λi _=>by rw[nD (c:=l.length*2) _ (λj _=>by rw[nD (c:=2) _ (λk _=>rfl),z6b]),z6b]),z6b] at h1
 refine zNa h1 ?_;have a1:l.length*2<=200:=j1
 have a2:l.length*(l.length*2)<=100*200:=z5a hl a1;have a3:l.length*(l.length*(l.length*2))<=100*(100*200):=z5a hl a2;exact a3
def fV{l:List V}{i:Nat}(h:i<l.length):(l.map ak)[i]?=some (ak (l.getD i V.zero)):=by simp[h,List.getD]
def g6{l:List V}{i:Nat}(h:i<l.length):l.getD i V.zero∈l:=by simp[List.getD,h]
def pt(l:List V)(i:Nat):V:=l.getD i V.zero
def Al{l:List V}{q:V×Int}:supp l q=true↔AF (pt l) l.length q.1 q.2:=by
 simp only[supp,BL,tB,zaa,zya,zcd,zia,AF,pt];constructor
 ·rintro⟨h1,x,hx,a⟩;obtain⟨k,hk,rfl⟩:=z2a hx;exact⟨λk hk=>h1 _ (g6 hk),k,hk,by simpa [List.getD,hk] using a⟩
 ·rintro⟨h1,k,hk,a⟩;refine⟨λx hx=>?_,_,g6 hk,a⟩;obtain⟨k,hk,rfl⟩:=z2a hx;simpa [List.getD,hk] using h1 k hk
def NL{v:V}(h:v≠V.zero):v.neg≠V.zero:=λe=>by have a:=zxa V.x e;have b:=zxa V.y e;have c:=zxa V.z e;simp only[V.neg,V.zero] at a b c;exact h (V.ext' (by simp only[V.zero];omega) (by simp only[V.zero];omega) (by simp only[V.zero];omega))
def AX:Option Nat->D
 | none=>I (-1)
 | some b=>I (b:Int)
def Qz{α:Type}{p:Prop}[Decidable p]{A B:α}(h:p):(if decide p=true then A else B)=A:=by rw[zja (zha h)]
def QA{α:Type}{p:Prop}[Decidable p]{A B:α}(h:¬ p):(if decide p=true then A else B)=B:=by rw[zga (by simpa using h)]
def aA{α:Type}{p:Prop}[Decidable p]{A B y:α}(h:p)(a:A=y):(if decide p=true then A else B)=y:=by rw[zja (zha h)];exact a
def aB{α:Type}{p:Prop}[Decidable p]{A B y:α}(h:¬ p)(a:B=y):(if decide p=true then A else B)=y:=by rw[zga (by simpa using h)];exact a
def Mt{x:Int}:sg x<0↔x<0:=by unfold sg;split<;>(try split)<;>omega
def eS{x:Int}:sg x=0↔x=0:=by unfold sg;split<;>(try split)<;>omega
def dn(a b:Nat):D.beq (I (a:Int)) (I (b:Int))=decide (a=b):=by rw[cp];by_cases h:a=b<;>simp[h];omega
def ag(L:List Nat):List D:=L.map λ(k:Nat)=>I (k:Int)
def aw(L:List Nat):(ag L).length=L.length:=zva ..
def mq{P:Nat->V}{i:Nat}{m:V}{d:Int}:bD P (i+1) m d=if V.dot m (P i)=d then bD P i m d++[i] else bD P i m d:=by
 unfold bD;rw[zGb,List.filter_append];by_cases h:V.dot m (P i)=d
 ·simp[h]
 ·simp[h]
def KD(q:V×Int)(p:List Nat):D:=.st [ak q.1,I q.2,.sl (ag p)]
def dU(l:List V):D:=.st [bu l]
def MJ(l:List V):Prop:=∀ i j,i<j->j<l.length->aV (pt l i) (pt l j)
def sY{p:List Nat}{k:Nat}(h:k<p.length):(ag p)[k]?=some (I (p.getD k 0:Nat)):=by simp[ag,List.getD,h]
abbrev FL:=List ((V×Int)×List Nat)
def bf(L:FL):List D:=L.map λf=>KD f.1 f.2
def bS(L:FL):(bf L).length=L.length:=zva ..
def jG{L:FL}{i:Nat}(h:i<L.length):(bf L)[i]?=some (KD L[i].1 L[i].2):=by simp[bf,h]
def XH(n:Nat)(L:FL)(m:V)(hL:L.length<=3000000):cA (n+1) 108 [.sl (bf L),ak m]=some (.bool (L.any λf=>decide (f.1.1=m))):=by
 rw[Y3]
 delta H5 qB qT qX qL qZ iL iR Jn
 refine aQ (λi s=>s=[I (i:Int)]/\(L.take i).any (λf=>decide (f.1.1=m))=false) L.length 0 (zoa _) ⟨rfl,s6⟩ (λi a s c=>?_) (λs c=>?_)
 ·obtain⟨rfl,b⟩:=c;by_cases he:L[i].1.1=m
  ·right;refine⟨(0,[.bool true]),?_,?_⟩
   ·refine j0 (bf L) (aa ai (aa ac (aA (by show((i:Int)<((bf L).length:Int));rw[bS];omega) ?_)))
    refine j0 (bf L) (aa (z:=i) (by rw[bS];exact au a) (aa (jG a) (j0 (ak L[i].1.1) ?_)))
    rw[od];exact aa ac (aA he rfl)
   ·have:L.any (λf=>decide (f.1.1=m))=true:=zcd.2 ⟨L[i],zWa a,by simpa using he⟩
    simp[this,g0]
  ·left;refine⟨[I ((i+1:Nat):Int)],?_,rfl,?_⟩
   ·refine j0 (bf L) (aa ai (aa ac (aA (by show((i:Int)<((bf L).length:Int));rw[bS];omega) ?_)))
    refine j0 (bf L) (aa (z:=i) (by rw[bS];exact au a) (aa (jG a) (j0 (ak L[i].1.1) ?_)))
    rw[od];exact aa ac (aB he (aa (aN (aM (i:=i) j1)) rfl))
   ·rw[zAa a,List.any_append,b];simp[he]
 ·obtain⟨rfl,b⟩:=c;rw[z7a] at b;refine⟨(1,[]),?_,by simp[b]⟩
  exact j0 (bf L) (aa ai (aa ac (aB (by show ¬ ((L.length:Int)<((bf L).length:Int));rw[bS];omega) rfl)))
def kQ(f:(V×Int)×List Nat):FL->FL
 | []=>[f]
 | x::L=>if aV f.1.1 x.1.1 then f::x::L else x::kQ f L
def XJ(n:Nat)(L:FL)(f:(V×Int)×List Nat)(hL:L.length<=3000000):cA (n+2) 110 [.sl (bf L),KD f.1 f.2]=some (.sl (bf (kQ f L))):=by
 rw[Y5]
 delta H7 qG qB qT qN qX qL qV qW qZ iL iR Jn
 have app:∀ (o:FL) (x:(V×Int)×List Nat),bf o++[KD x.1 x.2]=bf (o++[x]):=λo x=>by simp[bf]
 refine aQ (λi s=>∃ (out:FL) (put:Bool),s=[.sl (bf out),.bool put,I (i:Int)]/\out.length<=2*i/\(put=false->kQ f L=out++kQ f (L.drop i))/\(put=true->kQ f L=out++L.drop i)) L.length 0 (zoa _) ⟨[],false,rfl,s6,s6,s6⟩ (λi a s c=>?_) (λs c=>?_)
 ·obtain⟨out,put,rfl,j,h1,b⟩:=c;left;have d:L.drop i=L[i]::L.drop (i+1):=zpb a;have hc:=PE n f.1.1 L[i].1.1;obtain⟨o,p,he,l,q1,k⟩:∃ o p,(if put=false/\aV f.1.1 L[i].1.1 then(out++[f],true) else(out,put))=(o,p)/\o.length<=2*i+1/\(p=false->kQ f L=o++L[i]::kQ f (L.drop (i+1)))/\(p=true->kQ f L=o++L[i]::L.drop (i+1)):=by
   by_cases hput:put=false/\aV f.1.1 L[i].1.1
   ·refine⟨_,_,zja hput,by simp;omega,s6,λ_=>?_⟩
    rw[h1 hput.1,d];simp[kQ,hput.2]
   ·refine⟨_,_,zga hput,j1,λhp=>?_,λhp=>?_⟩
    ·have g:¬ aV f.1.1 L[i].1.1:=λh=>hput ⟨hp,h⟩;rw[h1 hp,d];simp[kQ,g]
    ·rw[b hp,d]
  refine⟨[.sl (bf (o++[L[i]])),.bool p,I ((i+1:Nat):Int)],?_,o++[L[i]],p,rfl,by simp;omega,λhp=>by rw[q1 hp];simp,λhp=>by rw[k hp];simp⟩
  refine j0 (bf L) (aa ai (aa ac (aA (by show((i:Int)<((bf L).length:Int));rw[bS];omega) ?_)))
  refine j0 (ak f.1.1) (j0 (bf L) (aa (z:=i) (by rw[bS];exact au a) (aa (jG a) (j0 (ak L[i].1.1) (aa hc ?_)))))
  refine aa (z:=(0,[.sl (bf o),.bool p])) ?_ ?_
  ·refine j0 (.bool (!put)) (j0 (!put) (aa (z:=!put&&decide (aV f.1.1 L[i].1.1)) ?_ (j0 (!put&&decide (aV f.1.1 L[i].1.1)) ?_)))
   ·cases put
    ·exact ac
    ·rfl
   ·by_cases hput:put=false/\aV f.1.1 L[i].1.1
    ·rw[zja hput] at he;obtain⟨rfl,e⟩:=hput;cases he;rw[show(!false&&decide (aV f.1.1 L[i].1.1))=true by simp[e],zja rfl,zja (by simp only[g0,D.els,bS,zOa,z1b];omega)]
     simp only[g0,D.els,app]
    ·rw[zga hput] at he;cases he;rw[show(!put&&decide (aV f.1.1 L[i].1.1))=false by
      cases put
      ·simpa using hput
      ·rfl]
     rfl
  ·refine j0 (bf L) (aa (z:=i) (by rw[bS];exact au a) (aa (jG a) ?_))
   rw[zja (by simp only[g0,D.els,bS,zOa,z1b];omega)]
   refine aa (aN (aM (i:=i) j1)) ?_
   simp only[g0,g1,D.els,app];rfl
 ·obtain⟨out,put,rfl,j,h1,b⟩:=c;refine⟨(0,[.sl (bf out),.bool put]),?_,?_⟩
  ·exact j0 (bf L) (aa ai (aa ac (aB (by show ¬ ((L.length:Int)<((bf L).length:Int));rw[bS];omega) rfl)))
  ·cases put
   ·have:=h1 rfl;rw[zkc] at this;rw[this];refine aa (z:=(0,[.sl (bf (out++[f]))])) ?_ rfl;refine j0 (.bool true) (j0 true ?_);rw[zja rfl,zja (by simp only[g0,D.els,bS,zOa,z1b];omega)]
    simp only[g0,D.els,app]
   ·have:=b rfl;rw[zkc,zZc] at this;rw[this];rfl
def g9(l:List V)(m:V)(a b x:Nat):Bool:=
 decide (0<=T m (wy (pt l) a b) (wy (pt l) a x))&&(!decide (T m (wy (pt l) a b) (wy (pt l) a x)=0)||(decide (0<=V.dot (wy (pt l) a x) (wy (pt l) a b))&&decide (V.dot (wy (pt l) a x) (wy (pt l) a b)<=V.dot (wy (pt l) a b) (wy (pt l) a b))))
def BG{l:List V}{m:V}{a b x:Nat}:g9 l m a b x=true↔(0<=T m (wy (pt l) a b) (wy (pt l) a x)/\(T m (wy (pt l) a b) (wy (pt l) a x)=0->0<=V.dot (wy (pt l) a x) (wy (pt l) a b)/\V.dot (wy (pt l) a x) (wy (pt l) a b)<=V.dot (wy (pt l) a b) (wy (pt l) a b))):=by simp only[g9,zaa,zKb,zCa,zia,decide_eq_false_iff_not];by_cases h:T m (wy (pt l) a b) (wy (pt l) a x)=0<;>simp[h]
def wn(l:List V)(m:V)(d:Int)(a b:Nat):Bool:=(bD (pt l) l.length m d).all λx=>g9 l m a b x
def wo{l:List V}{m:V}{d:Int}{a b:Nat}(e:b∈bD (pt l) l.length m d)(c:b≠a):wn l m d a b=true↔Side m (pt l) (bD (pt l) l.length m d) a b:=by simp only[wn,zya,BG];exact⟨λh=>⟨e,c,h⟩,λh=>h.all⟩
def XQ(n:Nat){l:List V}(hl:∀ x∈l,bd MV x)(hlen:l.length<=100){m:V}{d:Int}(C:m≠V.zero)(hm:bd 549755813888 m){a b:Nat}(o:a<l.length)(U:b<l.length)(g:V.dot m (pt l a)=d)(B:V.dot m (pt l b)=d) :
  cA (n+3) 156 [bu l,ak m,I d,ak (pt l a),ak (pt l b)]=some (.bool (wn l m d a b)):=by
 rw[Zv]
 delta Ix qB qC qT qX qL qZ iL iR Jn
 have w1:bd 524288 (wy (pt l) a b):=u0 (hl _ (g6 o)) (hl _ (g6 U));refine aa (z:=ak (wy (pt l) a b)) (DA (n+1) (hl _ (g6 U)) (hl _ (g6 o)) j2) ?_
 have ll:(l.map ak).length=l.length:=zva ..;have E:V.dot m (wy (pt l) a b)=0:=by rw[fq,g,B];omega
 refine aQ (λi s=>s=[I (i:Int)]/\(bD (pt l) i m d).all (λx=>g9 l m a b x)=true) l.length 0 (zoa _) ⟨rfl,by simp[bD]⟩ (λi c s A=>?_) (λs A=>?_)
 ·obtain⟨rfl,p⟩:=A;have hc:=Dz (n+1) hm (hl _ (g6 c)) j2
  by_cases hon:V.dot m (pt l i)=d
  ·have X:bd 524288 (wy (pt l) a i):=u0 (hl _ (g6 o)) (hl _ (g6 c));have F:V.dot m (wy (pt l) a i)=0:=by rw[fq,g,hon];omega
   have c1:=DA (n+1) (hl _ (g6 c)) (hl _ (g6 o)) j2
   have c2:=PI (n+1) w1 X j2
   have R:=XW n m (V.cross (wy (pt l) a b) (wy (pt l) a i));rw[KR C (jD E F)] at R;have S:=Dz (n+1) X w1 j2
   have Y:=Dz (n+1) w1 w1 j2
   have step:∀ (y:Nat×List D),y=(if g9 l m a b i then(0,[]) else(1,[D.bool false]))->((D.asSl (bu l)).bind λW=>(D.idx (I (i:Int)) (List.length W)).bind λi7=>
     (W[i7]?).bind λx8=>(cA (n+2) 107 [ak m,x8]).bind λr9=>(D.truth (D.bool (!(D.beq r9 (I d))))).bind λq=>
     if q then(some ((0:Nat),([]:List D))) else((D.asSl (bu l)).bind λj=>(D.idx (I (i:Int)) (List.length j)).bind λvD=>
     (j[vD]?).bind λN=>(cA (n+2) 112 [N,ak (pt l a)]).bind λf=>(cA (n+2) 123 [ak (wy (pt l) a b),f]).bind λG=>(cA (n+2) 188 [ak m,G]).bind λk=>
     (adW .lss k (D.int .i64 0)).bind λO=>(D.truth O).bind λr=>
     Option.bind (if r then(some true) else((D.truth (D.bool (D.beq k (D.int .i64 0)))).bind λt=>
     if t then((cA (n+2) 107 [f,ak (wy (pt l) a b)]).bind λH=>(adW .lss H (D.int .i64 0)).bind λP=>(D.truth P).bind λu=>
     if u then(some true) else((cA (n+2) 107 [f,ak (wy (pt l) a b)]).bind λJ=>(cA (n+2) 107 [ak (wy (pt l) a b),ak (wy (pt l) a b)]).bind λK=>
     (adW .gtr J K).bind λQ=>D.truth Q)) else(some false))) λv=>(D.truth (D.bool v)).bind λw=>
     if w then(some (1,[(D.bool false)])) else(some (0,[]))))=some y:=by
    intro y Z;refine j0 (l.map ak) (aa (z:=i) (by rw[ll];exact au c) (aa (fV c) (aa hc (aa (z:=false) ?_ ?_))))
    ·rw[cp,show V.dot m (l.getD i V.zero)=d from hon];simp[D.truth]
    rw[zga j2]
    refine j0 (l.map ak) (aa (z:=i) (by rw[ll];exact au c) (aa (fV c) (aa (z:=ak (wy (pt l) a i)) c1 (aa c2 (aa R (aa ai (aa ac ?_)))))))
    rw[Z];have e:V.dot m (V.cross (wy (pt l) a b) (wy (pt l) a i))=T m (wy (pt l) a b) (wy (pt l) a i):=rfl;rw[e];refine aa (z:=!g9 l m a b i) ?_ ?_
    ·by_cases t1:T m (wy (pt l) a b) (wy (pt l) a i)<0
     ·rw[Qz (Mt.2 t1)];have:¬ (0<=T m (wy (pt l) a b) (wy (pt l) a i)):=j1
      simp[g9,this]
     ·rw[QA (λh=>t1 (Mt.1 h))];have L:0<=T m (wy (pt l) a b) (wy (pt l) a i):=j1
      by_cases t2:T m (wy (pt l) a b) (wy (pt l) a i)=0
      ·refine aa (z:=true) (by rw[cp,zha (eS.2 t2)];rfl) ?_
       rw[zja rfl];refine aa S (aa ai (aa ac ?_));by_cases t3:V.dot (wy (pt l) a i) (wy (pt l) a b)<0
       ·rw[Qz t3];have:¬ (0<=V.dot (wy (pt l) a i) (wy (pt l) a b)):=j1
        simp[g9,t2,this]
       ·rw[QA t3];refine aa S (aa Y (aa bU ?_));rw[ac];have M:0<=V.dot (wy (pt l) a i) (wy (pt l) a b):=j1
        simp only[g9,t2,M,decide_true,zrb,z1c,zed,zyd];by_cases t4:V.dot (wy (pt l) a i) (wy (pt l) a b)<=V.dot (wy (pt l) a b) (wy (pt l) a b)
        ·have:¬ (V.dot (wy (pt l) a i) (wy (pt l) a b)>V.dot (wy (pt l) a b) (wy (pt l) a b)):=j1
         simp[t4,this]
        ·have:(V.dot (wy (pt l) a i) (wy (pt l) a b)>V.dot (wy (pt l) a b) (wy (pt l) a b)):=j1
         simp[t4,this]
      ·refine aa (z:=false) (by rw[cp,zca (λh=>t2 (eS.1 h))];rfl) ?_
       simp[g9,t2,L]
    ·refine aa ac ?_;cases g9 l m a b i<;>rfl
   cases hk:g9 l m a b i
   ·right;rw[hk] at step;refine⟨(0,[.bool false]),?_,?_⟩
    ·exact j0 (l.map ak) (aa ai (aa ac (aA (by show((i:Int)<((l.map ak).length:Int));rw[ll];omega) (aa (step _ rfl) rfl))))
    ·have:wn l m d a b=false:=by
      rw[zwc];intro h;have:=zya.1 h i (bw.2 ⟨c,hon⟩);rw[hk] at this;exact z3a this j2
     rw[this];rfl
   ·left;rw[hk] at step;refine⟨[I ((i+1:Nat):Int)],?_,rfl,?_⟩
    ·exact j0 (l.map ak) (aa ai (aa ac (aA (by show((i:Int)<((l.map ak).length:Int));rw[ll];omega) (aa (step _ rfl) (by rw[zja rfl,zja rfl];exact aa (aN (aM (i:=i) j1)) rfl)))))
    ·rw[mq,zja hon,zEc,p];simp[hk]
  ·left;refine⟨[I ((i+1:Nat):Int)],?_,rfl,?_⟩
   ·refine j0 (l.map ak) (aa ai (aa ac (aA (by show((i:Int)<((l.map ak).length:Int));rw[ll];omega) (aa (z:=(0,[])) ?_ (by rw[zja rfl];exact aa (aN (aM (i:=i) j1)) rfl)))))
    refine j0 (l.map ak) (aa (z:=i) (by rw[ll];exact au c) (aa (fV c) (aa hc (aa (z:=true) ?_ rfl))))
    rw[cp,zca (show ¬ V.dot m (l.getD i V.zero)=d from hon)];rfl
   ·rw[mq,zga hon];exact p
 ·obtain⟨rfl,p⟩:=A;refine⟨(1,[]),?_,?_⟩
  ·exact j0 (l.map ak) (aa ai (aa ac (aB (by show ¬ ((l.length:Int)<((l.map ak).length:Int));rw[ll];omega) rfl)))
  ·have:wn l m d a b=true:=p;rw[this];rfl
def CY{body:Bd}{s0:List D}{r:Nat×List D}(h:(aR body s0).bind some=some r):aR body s0=some r:=by
 cases hb:aR body s0 with
 | none=>rw[hb] at h;cases h
 | some z=>rw[hb] at h;exact h
def GW{P:Nat->V}{m:V}{d:Int}{i N a:Nat}(h:(bD P i m d).head?=some a)(b:i<=N):(bD P N m d).head?=some a:=by
 induction N with
 | zero=>
      have:i=0:=j1
      subst this;exact h
 | succ N ih=>
  by_cases e:i=N+1
  ·rw[<-e];exact h
  ·have:=ih j1
   rw[mq];split
   ·rw[List.head?_append,this];rfl
   ·exact this
theorem qs{body:Bd}{S:Nat->Nat->Prop}{a M:Nat}{G:Nat->Prop}(f:∀ c b,G c->S c b->G b)
  (d:∀ (c b:Nat) (out:List Nat),G c->S c b->b≠a->out.length<=M->body [.sl (ag out),I (c:Int)]=some (.inl [.sl (ag (out++[c])),I (b:Int)]))
  (e:∀ (c:Nat) (out:List Nat),G c->S c a->out.length<=M->body [.sl (ag out),I (c:Int)]=some (.inr (0,[.sl (ag (out++[c]))]))) :
  ∀ {c:Nat} {p:List Nat},Chain S a c p->G c->∀ out:List Nat,(out++p).length<=M->aR body [.sl (ag out),I (c:Int)]=some (0,[.sl (ag (out++p))])
 | c,_,.done s,hc,out,hl=>cC (e c out hc s (by simp at hl;omega))
 | c,_,.step (y:=y) (l:=p) s hy k,hc,out,hl=>by
  have h1:=d c y out hc s hy (by simp at hl;omega)
  rw[show aR body [.sl (ag out),I (c:Int)]=aR body [.sl (ag (out++[c])),I (y:Int)] from cF h1];have:=qs f d e k (f c y hc s) (out++[c]) (by simpa using hl)
  rw[this];simp
def YY(n:Nat){l:List V}(hl:∀ x∈l,bd MV x)(hlen:l.length<=100)(T:MJ l){m:V}{d:Int}(L:IsF (pt l) l.length m d)(hm:bd 549755813888 m){p:List Nat}(hp:fP (pt l) l.length m d p) :
  cA (n+4) 111 [bu l,ak m,I d]=some (.sl (ag p)):=by
 have F:=L.flat T;obtain⟨Y,R,y,H⟩:=L.poly T;have e:=fP.eq T L hp R;subst e;obtain⟨a,u,P⟩:=hp;have U:a∈bD (pt l) l.length m d:=List.mem_of_mem_head? (by rw[u];rfl)
 have E:∀ k∈bD (pt l) l.length m d,k<l.length:=λk hk=>(bw.1 hk).1;have C:∀ k∈bD (pt l) l.length m d,V.dot m (pt l k)=d:=λk hk=>(bw.1 hk).2;have K:(bD (pt l) l.length m d).length<=l.length:=by unfold bD;exact zNa (List.length_filter_le _ _) (by rw[z6b];omega)
 have S:p.length<=l.length:=zNa (zyc y λz X=>((H z).1 X).1) K;have ll:(l.map ak).length=l.length:=zva ..;rw[Y6]
 delta H8 qB qC qT qS qX qL qV qW qZ iL iR Jn
 have q:=λ(i:Nat) (j:i<l.length)=>Dz (n+2) hm (hl _ (g6 j)) j2
 refine aa (z:=(0,[.sl [],I (a:Int)])) ?_ ?_
 ·refine CY (gD (λi s=>s=[.sl [],AX ((bD (pt l) i m d).head?),I (i:Int)]) l.length 0 (zoa _) rfl (λi j s t=>?_) (λs t=>?_))
  ·subst t;cases hh:(bD (pt l) i m d).head? with
   | some a'=>
    right;have:=GW hh (zmc j);rw[u] at this;cases this;refine⟨(0,[.sl [],I (a:Int)]),?_,rfl⟩;refine j0 (l.map ak) (aa ai (aa ac (aa (z:=false) (aA (by show((i:Int)<((l.map ak).length:Int));rw[ll];omega) ?_) (aa ac ?_))))
    ·refine aa ai ?_;rw[zca j1];rfl
    ·rfl
   | none=>
    left;have J:bD (pt l) i m d=[]:=by simpa using hh
    refine⟨[.sl [],AX ((bD (pt l) (i+1) m d).head?),I ((i+1:Nat):Int)],?_,rfl⟩;refine j0 (l.map ak) (aa ai (aa ac (aa (z:=true) (aA (by show((i:Int)<((l.map ak).length:Int));rw[ll];omega) (aa (ai (a:=-1) (b:=0)) rfl)) (aa ac ?_))))
    rw[zja rfl];refine aa (z:=(0,[.sl [],AX ((bD (pt l) (i+1) m d).head?)])) ?_ (aa (aN (aM (i:=i) j1)) rfl)
    refine j0 (l.map ak) (aa (z:=i) (by rw[ll];exact au j) (aa (fV j) (aa (q i j) ?_)))
    rw[cp,mq,J];by_cases f:V.dot m (pt l i)=d
    ·rw[zja f,zha (show V.dot m (l.getD i V.zero)=d from f)];rfl
    ·rw[zga f,zca (show ¬ V.dot m (l.getD i V.zero)=d from f)];rfl
  ·subst t;rw[u];refine⟨(0,[.sl [],I (a:Int)]),?_,rfl⟩;refine j0 (l.map ak) (aa ai (aa ac (aa (z:=false) (aB (by show ¬ ((l.length:Int)<((l.map ak).length:Int));rw[ll];omega) rfl) (aa ac rfl))))
 ·refine aa (z:=(0,[.sl (ag ([]++p))])) ?_ rfl;refine qs (M:=l.length) (G:=λc=>c∈bD (pt l) l.length m d) (λc b hc B=>B.mem) (λc b out hc B N Q=>?_) (λc out hc B Q=>?_) P U [] (by simpa using S)
  all_goals
   obtain⟨g,W,o⟩:∃ g,(g=a\/g≠a)/\Side m (pt l) (bD (pt l) l.length m d) c g:=by first|exact⟨_,Classical.em _,B⟩
   refine j0 (l.map ak) (aa dY (aa ac (aA (by show(((ag out).length:Int)<=((l.map ak).length:Int));rw[ll,aw];omega) ?_)))
   rw[zja (by simp only[g0,D.els,aw,zOa,z1b];omega)]
   have A:ag out++[I (c:Int)]=ag (out++[c]):=by simp[ag]
   have O:=E g o.mem;refine aa (z:=(0,[.sl (ag (out++[c])),I (g:Int)])) ?_ ?_
   ·refine CY (gD (λi s=>s=[.sl (ag (out++[c])),AX (if g<i then some g else none),I (i:Int)]) l.length 0 (zoa _) (by simp[g0,g1,D.els,A,AX]) (λi j s t=>?_) (λs t=>?_))
    ·subst t;by_cases hbi:g<i
     ·right;rw[zja hbi];refine⟨(0,[.sl (ag (out++[c])),I (g:Int)]),?_,rfl⟩;refine j0 (l.map ak) (aa ai (aa ac (aa (z:=false) (aA (by show((i:Int)<((l.map ak).length:Int));rw[ll];omega) ?_) (aa ac ?_))))
      ·refine aa ai ?_;rw[zca j1];rfl
      ·rfl
     ·left;rw[zga hbi];refine⟨[.sl (ag (out++[c])),AX (if g<i+1 then some g else none),I ((i+1:Nat):Int)],?_,rfl⟩
      refine j0 (l.map ak) (aa ai (aa ac (aa (z:=true) (aA (by show((i:Int)<((l.map ak).length:Int));rw[ll];omega) (aa (ai (a:=-1) (b:=0)) rfl)) (aa ac ?_))))
      rw[zja rfl];refine aa (z:=(0,[.sl (ag (out++[c])),AX (if g<i+1 then some g else none)])) ?_ (aa (aN (aM (i:=i) j1)) rfl)
      have v:=E c hc;by_cases f:i≠c/\V.dot m (pt l i)=d
      ·have r:i∈bD (pt l) l.length m d:=bw.2 ⟨j,f.2⟩;refine aa (z:=true) (by show D.truth (D.bool (!(D.beq (I (i:Int)) (I (c:Int)))))=_;rw[dn,zca f.1];rfl) (aa (z:=true) ?_ (aa ac ?_))
       ·rw[zja rfl];refine j0 (l.map ak) (aa (z:=i) (by rw[ll];exact au j) (aa (fV j) (aa (q i j) ?_)))
        rw[cp,zha (show V.dot m (l.getD i V.zero)=d from f.2)];rfl
       ·rw[zja rfl];refine j0 (l.map ak) (aa (z:=c) (by rw[ll];exact au v) (aa (fV v) (j0 (l.map ak) (aa (z:=i) (by rw[ll];exact au j) (aa (fV j) (aa (XQ n hl hlen L.nz.1 hm v j (C c hc) f.2) (aa ac ?_)))))))
        by_cases w:i=g
        ·subst w;rw[(wo r f.1).2 o,zja rfl,zja j1];rfl
        ·have:wn l m d c i=false:=by
          rw[zwc];intro h;exact w (aeD F hc ((wo r f.1).1 h) o)
         rw[this,zga (show ¬ g<i+1 by omega)];rfl
      ·have w:i≠g:=λe=>f (by subst e;exact⟨o.ne,C _ o.mem⟩)
       rw[zga (show ¬ g<i+1 by omega)]
       by_cases hic:i=c
       ·subst hic;refine aa (z:=false) (by show D.truth (D.bool (!(D.beq (I (i:Int)) (I (i:Int)))))=_;rw[dn,zha rfl];rfl) (j0 false (aa ac rfl))
       ·have y:¬ V.dot m (l.getD i V.zero)=d:=λh=>f ⟨hic,h⟩;refine aa (z:=true) (by show D.truth (D.bool (!(D.beq (I (i:Int)) (I (c:Int)))))=_;rw[dn,zca hic];rfl) (aa (z:=false) ?_ (aa ac rfl))
        rw[zja rfl];refine j0 (l.map ak) (aa (z:=i) (by rw[ll];exact au j) (aa (fV j) (aa (q i j) ?_)))
        rw[cp,zca y];rfl
    ·subst t;rw[zja O];refine⟨(0,[.sl (ag (out++[c])),I (g:Int)]),?_,rfl⟩;exact j0 (l.map ak) (aa ai (aa ac (aa (z:=false) (aB (by show ¬ ((l.length:Int)<((l.map ak).length:Int));rw[ll];omega) rfl) (aa ac rfl))))
   ·have hu:=aeD F hc B o;subst hu;first
     | exact aa (z:=true) (by show D.truth (D.bool (D.beq (I (_:Int)) (I (_:Int))))=_;rw[dn,zha rfl];rfl) (j0 true (aa ac rfl))
     | exact aa (z:=false) (by show D.truth (D.bool (D.beq (I (_:Int)) (I (_:Int))))=_;rw[dn,zca N];rfl) (aa (z:=false) (by rw[zga j2];refine aa ai ?_;rw[zca j1];rfl) (aa ac rfl))
def ba:List Nat->Nat
 | []=>0
 | d::l=>d+65536*ba l
def dl(l:List Nat):Prop:=∀ d∈l,d<65536
def dl.cons{d:Nat}{l:List Nat}(a:d<65536)(h:dl l):dl (d::l):=λx hx=>by
 rcases zGa.1 hx with rfl|hx
 ·exact a
 ·exact h x hx
def dl.append{a b:List Nat}(c:dl a)(d:dl b):dl (a++b):=λx hx=>by
 rcases zIa.1 hx with hx|hx
 ·exact c x hx
 ·exact d x hx
theorem dl.getD{l:List Nat}(h:dl l)(i:Nat):l.getD i 0<65536:=by
 simp only[List.getD];cases hi:l[i]? with
 | none=>simp
 | some x=>exact h x (zbb hi)
def ay(m:Nat):List Nat:=if h:m=0 then[] else m%65536::ay (m/65536)
termination_by m
decreasing_by omega
def bM:ay 0=[]:=by unfold ay;simp
def iD{m:Nat}(h:m≠0):ay m=m%65536::ay (m/65536):=by rw[ay,dif_neg h]
def vh{d v:Nat}(a:d<65536)(h:d+65536*v≠0):ay (d+65536*v)=d::ay v:=by rw[iD h,show(d+65536*v)%65536=d by omega,show(d+65536*v)/65536=v by omega]
def aq(m:Nat):ba (ay m)=m:=by
 induction m using Nat.strongRecOn with
 | _ m ih=>
  by_cases h:m=0
  ·subst h;rw[bM];rfl
  ·rw[iD h,ba,ih _ j1];omega
def aT(m:Nat):dl (ay m):=by
 induction m using Nat.strongRecOn with
 | _ m ih=>
  by_cases h:m=0
  ·subst h;rw[bM];intro d a;cases a
  ·rw[iD h];exact dl.cons j1 (ih _ j1)
def sU{m:Nat}:ay m=[]↔m=0:=by
 constructor
 ·intro h;have:=aq m;rw[h] at this;exact this.symm
 ·rintro rfl;exact bM
def jE(i:Nat):∀ m,(ay m).getD i 0=m/65536^i%65536:=by
 induction i with
 | zero=>
  intro m;by_cases h:m=0
  ·subst h;rw[bM];simp
  ·rw[iD h];simp
 | succ i ih=>
  intro m;by_cases h:m=0
  ·subst h;rw[bM];simp
  ·rw[iD h];show(ay (m/65536)).getD i 0=_;rw[ih,zPa,zob,zMa 65536]
def bo(k:Nat):∀ m,m<65536^k->(ay m).length<=k:=by
 induction k with
 | zero=>
      intro m h;have:m=0:=by simpa using h
      subst this;rw[bM];simp
 | succ k ih=>
  intro m h;by_cases h0:m=0
  ·subst h0;rw[bM];simp
  ·rw[iD h0,zOa];have:=ih (m/65536) (by rw[zob] at h;exact zsc (by rw[zMa];exact h))
   omega
def ls(a b:List Nat):ba (a++b)=ba a+65536^a.length*ba b:=by
 induction a with
 | nil=>simp[ba]
 | cons d a ih=> simp only[zub,ba,ih,zOa,zob];rw[zPb,<-z0a,zMa 65536 (65536^a.length)];omega
def nr(l:List Nat)(n:Nat):ba (l++List.replicate n 0)=ba l:=by
 rw[ls];have:∀ n,ba (List.replicate n 0)=0:=λn=>by
  induction n with
  | zero=>rfl
  | succ n ih=>rw[List.replicate_succ,ba,ih]
 rw[this];simp
def vt(l:List Nat):Nat->Nat
 | 0=>0
 | k+1=>vt l k+l.getD k 0*65536^k
def LP(d:Nat)(l:List Nat)(k:Nat):vt (d::l) (k+1)=d+65536*vt l k:=by
 induction k with
 | zero=>simp[vt]
 | succ k ih=> rw[vt,ih,vt,zPb];have:(d::l).getD (k+1) 0=l.getD k 0:=rfl;rw[this,zob,<-z0a,<-z0a,zMa 65536 (l.getD k 0),z0a,zMa (65536^k),<-z0a];omega
def lP(l:List Nat):vt l l.length=ba l:=by
 induction l with
 | nil=>rfl
 | cons d l ih=>rw[zOa,LP,ih];rfl
def ik{l:List Nat}{k:Nat}(h:l.length<=k):vt l k=ba l:=by
 obtain⟨j,rfl⟩:∃ j,k=l.length+j:=⟨k-l.length,j1⟩
 clear h
 induction j with
 | zero=>exact lP l
 | succ j ih=>
  rw[<-zEb,vt,ih];have:l.getD (l.length+j) 0=0:=by simp[List.getD]
  rw[this];simp
def uv{l:List Nat}(h:dl l)(k:Nat):vt l k<65536^k:=by
 induction k with
 | zero=>simp[vt]
 | succ k ih=>
  have h1:=h.getD k;have a:l.getD k 0*65536^k<=65535*65536^k:=zEa _ j1
  rw[vt,zob,zMa (65536^k)];omega
def kf{l:List Nat}(h:dl l):ba l<65536^l.length:=by rw[<-lP];exact uv h _
def jZ:List Nat->List Nat
 | []=>[]
 | d::l=>match jZ l with
  | []=>if d=0 then[] else[d]
  | x::t=>d::x::t
def gV{l:List Nat}(h:dl l):jZ l=ay (ba l):=by
 induction l with
 | nil=>rw[ba,bM];rfl
 | cons d l ih=>
  have a:d<65536:=h d zwa;have ih:=ih λx hx=>h x (zma _ hx);rw[jZ,ih,ba];by_cases hv:ba l=0
  ·rw[hv,bM];by_cases h0:d=0
   ·subst h0;simp[bM]
   ·rw[vh a j1,bM];simp[h0]
  ·rw[vh a j1,iD hv]
def BU{l:List Nat}(h:∀ i,i<l.length->l.getD i 0=0):jZ l=[]:=by
 induction l with
 | nil=>rfl
 | cons d l ih=>
  have h0:d=0:=h 0 s6
  rw[jZ,ih (λi a=>h (i+1) (by simpa using a)),h0];simp
theorem wE:∀ {l:List Nat} {n:Nat},n<=l.length->(∀ i,n<=i->i<l.length->l.getD i 0=0)->(n=0\/l.getD (n-1) 0≠0)->l.take n=jZ l
 | [],n,_,_,_=>by simp[jZ]
 | d::l,0,_,a,_=>by rw[BU (λi c=>a i j1 c)];rfl
 | d::l,n+1,hn,a,hl=>by
  have hl':(d::l).getD n 0≠0:=by
   rcases hl with h|h
   ·omega
   ·exact h
  have ih:l.take n=jZ l:=wE (l:=l) (n:=n) (by simpa using hn) (λi h1 b=>a (i+1) j1 (by simpa using b)) (by
   cases n with
   | zero=>exact .inl rfl
   | succ k=>exact .inr hl')
  rw[zUb,ih,jZ];cases ht:jZ l with
  | nil=>
   rw[ht] at ih;have:n=0:=by
    cases n with
    | zero=>rfl
    | succ k=>cases l with
     | nil=>simp at hn
     | cons e l=>simp at ih
   subst this;have:d≠0:=hl';simp[this]
  | cons x t=>rfl
def dc{l:List Nat}{i:Nat}(h:i<l.length):(ag l)[i]?=some (I (l.getD i 0:Nat)):=sY h
def vm(a:List Nat)(d:Nat):ag a++[I (d:Int)]=ag (a++[d]):=by simp[ag]
def yy(n:Nat){l:List Nat}(hl:l.length<=1000000):cA (n+1) 140 [.sl (ag l)]=some (.sl (ag (jZ l))):=by
 rw[Zo]
 delta Iq qB qC qT qS qX qZ iL iR Jn
 refine j0 (ag l) ?_;have fin:∀ j:Nat,j<=l.length->(∀ i,j<=i->i<l.length->l.getD i 0=0)->(j=0\/l.getD (j-1) 0≠0)->((D.asSl (.sl (ag l))).bind λf=>(D.natOf (I (j:Int))).bind λi14=>(D.cut f 0 i14).bind λg=>some (D.sl g))=some (.sl (ag (jZ l))):=by
  intro j m a o;refine j0 (ag l) (aa (z:=j) (by simp[D.natOf]) (aa (z:=ag (l.take j)) ?_ (by rw[wE m a o])))
  simp only[D.cut];rw[zja ⟨zoa _,by rw[aw];exact m⟩]
  simp[ag,zxd]
 refine aQ (λi s=>s=[I ((l.length-i:Nat):Int)]/\∀ k,l.length-i<=k->k<l.length->l.getD k 0=0) l.length 0 (zoa _) ⟨by rw[aw];rfl,λk h1 h=>j1⟩ (λi p s c=>?_) (λs c=>?_)
 ·obtain⟨rfl,a⟩:=c;have d:inR (((l.length-i:Nat):Int)-1):=by simp only[inR];omega
  have b:((l.length-i:Nat):Int)-1=((l.length-i-1:Nat):Int):=j1
  have hx:(ag l)[l.length-i-1]?=some (I (l.getD (l.length-i-1) 0:Nat)):=dc j1
  by_cases h0:l.getD (l.length-i-1) 0=0
  ·left;refine⟨[I ((l.length-(i+1):Nat):Int)],?_,rfl,λk h1 h=>?_⟩
   ·refine aa bU (aa ac (aa (z:=true) (aA (by show((l.length-i:Nat):Int)>0;omega) ?_) (aa ac ?_)))
    ·refine aa (bB d) (j0 (ag l) (aa (z:=l.length-i-1) (by rw[b,aw];exact au j1) (aa hx ?_)))
     rw[h0];rfl
    ·rw[zja rfl];refine aa (bB d) ?_;rw[b,Nat.sub_sub]
   ·by_cases e:k=l.length-i-1
    ·rw[e];exact h0
    ·exact a k j1 h
  ·right;refine⟨(0,[I ((l.length-i:Nat):Int)]),?_,fin _ j1 a (.inr h0)⟩
   refine aa bU (aa ac (aa (z:=false) (aA (by show((l.length-i:Nat):Int)>0;omega) ?_) (aa ac rfl)))
   refine aa (bB d) (j0 (ag l) (aa (z:=l.length-i-1) (by rw[b,aw];exact au j1) (aa hx ?_)))
   rw[cp,zca j1];rfl
 ·obtain⟨rfl,a⟩:=c;refine⟨(0,[I ((l.length-l.length:Nat):Int)]),?_,fin _ j1 a (.inl j1)⟩
  refine aa bU (aa ac (aa (z:=false) (aB (by show ¬ ((l.length-l.length:Nat):Int)>0;omega) rfl) (aa ac rfl)))
def AJ(n:Nat)(l:List Nat)(k:Nat):cA (n+1) 141 [.sl (ag l),I (k:Int)]=some (I (l.getD k 0:Nat)):=by
 rw[Zp]
 delta Ir qX qL Jn
 refine j0 (ag l) (aa ai (aa ac ?_));by_cases h:k<l.length
 ·refine aA (by show(k:Int)<((ag l).length:Int);rw[aw];omega) ?_
  exact j0 (ag l) (aa (z:=k) (by rw[aw];exact au h) (aa (dc h) rfl))
 ·refine aB (by show ¬ (k:Int)<((ag l).length:Int);rw[aw];omega) ?_
  have:l.getD k 0=0:=by simp[List.getD,h]
  rw[this];rfl
def eR(l:List Nat)(i:Nat):Nat:=l.getD (2*i) 0+65536*l.getD (2*i+1) 0
abbrev U(n:Nat):D:=.int .u32 (n:Int)
def dV(l:List Nat):D:=.st ((List.range 16).map λi=>U (eR l i))
def ae(x:Int):D:=.st [.bool false,.bool (decide (x<0)),dV (ay x.natAbs)]
def xo{l:List Nat}(h:dl l)(i:Nat):eR l i<4294967296:=by have:=h.getD (2*i);have:=h.getD (2*i+1);unfold eR;omega
def tv{l:List Nat}{i:Nat}(h:i<16):D.fld (dV l) i=some (U (eR l i)):=by simp[dV,D.fld,h]
def c8{x:Int}{i:Nat}(h:i<16):D.get (ae x) [2,i]=some (U (eR (ay x.natAbs) i)):=
 j0 (dV (ay x.natAbs)) (aa (tv h) rfl)
def pw{n:Int}(h:0<=n/\n<4294967296):IntKind.wrap .u32 n=n:=by
 obtain⟨h1,a⟩:=h;simp only[IntKind.wrap,IntKind.signed,IntKind.bits];first
  | omega
  | (simp;omega)
def MU(a:Nat):adW .rem (U a) (.int .u32 65536)=some (U (a%65536)):=by
 simp only[adW,if_true,show ¬ (65536:Int)=0 by decide,if_false]
 rw[show(65536:Int)=((65536:Nat):Int) from rfl,<-zMd]
def MT{a:Nat}(h:a<4294967296):adW .quo (U a) (.int .u32 65536)=some (U (a/65536)):=by
 simp only[adW,if_true,show ¬ (65536:Int)=0 by decide,if_false]
 rw[show(65536:Int)=((65536:Nat):Int) from rfl,<-zNd,pw j1]
def Fz{a b:Nat}(h:a+b<4294967296):adW .add (U a) (U b)=some (U (a+b)):=by simp only[adW,if_true];rw[pw j1];simp
def MS{a b:Nat}(h:a*b<4294967296):adW .mul (U a) (U b)=some (U (a*b)):=by simp only[adW,if_true];rw[show(a:Int)*(b:Int)=((a*b:Nat):Int) by simp,pw j1]
def rJ{a:Nat}(h:a<4294967296):D.conv .i64 (U a)=some (I (a:Int)):=by simp only[D.conv];rw[jn (by simp only[inR];omega)]
def Cy{a:Nat}(h:a<4294967296):D.conv .u32 (I (a:Int))=some (U a):=by simp only[D.conv];rw[pw j1]
def By(l:List Nat)(k:Nat):((List.range k).map λi=>l.getD i 0)=if k<=l.length then l.take k else l++List.replicate (k-l.length) 0:=by
 apply zNb;intro i;by_cases h:i<k
 ·rw[zgb,zTc h];split
  ·simp[h,List.getD,show i<l.length by omega]
  ·by_cases h2:i<l.length
   ·simp[zOc,h2,List.getD]
   ·simp[zOc,h2,List.getD,List.getElem?_replicate,show i-l.length<k-l.length by omega]
 ·rw[zgb,show(List.range k)[i]?=none by simp;omega]
  split
  ·simp;omega
  ·simp;omega
def HA{l:List Nat}(a:dl l){k:Nat}(hk:l.length<=k):jZ ((List.range k).map λi=>l.getD i 0)=ay (ba l):=by
 have e:((List.range k).map λi=>l.getD i 0)=l++List.replicate (k-l.length) 0:=by
  rw[By];split
  ·have:k=l.length:=j1
   subst this;simp
  ·rfl
 rw[e,gV (a.append (λx hx=>by rw[zsd hx];decide)),nr]
def rI(n:Nat){x:Int}(hx:x.natAbs<65536^32):cA (n+2) 77 [ae x]=some (.sl (ag (ay x.natAbs))):=by
 rw[u77]
 delta Rx qG qB qC qV qW qZ iL iR Jn
 have c:=aT x.natAbs;have hlen:=bo 32 _ hx;refine aQ (λi s=>s=[.sl (ag ((List.range (2*i)).map λi=>(ay x.natAbs).getD i 0)),I (i:Int)]) 16 0 (zoa _) rfl (λi a s b=>?_) (λs b=>?_)
 ·subst b;left;refine⟨_,?_,rfl⟩;refine aa ai (aa ac (aA (by show(i:Int)<16;omega) ?_))
  have d:=xo c i;have h1:=c.getD (2*i);refine aa (z:=i) (au a) (aa (c8 a) (aa (MU _) (aa (rJ j1) (aa (z:=i) (au a) (aa (c8 a) (aa (MT d) (aa (rJ j1) ?_)))))))
  rw[zja (by simp only[g0,D.els,aw,zva,z6b,zOa,z1b];omega)]
  refine aa (aN (aM (i:=i) j1)) ?_
  have e:eR (ay x.natAbs) i%65536=(ay x.natAbs).getD (2*i) 0:=by unfold eR;omega
  have f:eR (ay x.natAbs) i/65536=(ay x.natAbs).getD (2*i+1) 0:=by unfold eR;omega
  rw[e,f,show 2*(i+1)=2*i+1+1 by omega,zGb,zGb]
  simp[g0,D.els,ag]
 ·subst b;refine⟨(0,[.sl (ag ((List.range (2*16)).map λi=>(ay x.natAbs).getD i 0))]),?_,?_⟩
  ·exact aa ai (aa ac (aB j2 rfl))
  ·refine aa (yy n s6) ?_
   rw[HA c hlen,aq]
def jY(l:List Nat)(k j:Nat):(l.take k).getD j 0=if j<k then l.getD j 0 else 0:=by simp only[List.getD,List.getElem?_take];split<;>simp
def tx{l l':List Nat}{q v:Nat}{a b:D}(hq:q<16)(h:∀ i,eR l' i=if i=q then v else eR l i):D.set (.st [a,b,dV l]) [2,q] (U v)=some (.st [a,b,dV l']):=by
 have h1:D.set (dV l) [q] (U v)=some (dV l'):=by
  have e:((List.range 16).map λi=>U (eR l i))[q]?=some (U (eR l q)):=by simp[hq]
  refine aa e (j0 (U v) ?_);simp only[dV,zda,D.st.injEq];apply zNb;intro i;rw[List.getElem?_set];by_cases c:q=i
  ·subst c;simp[hq,h]
  ·rw[zga c,zgb,zgb];by_cases h16:i<16
   ·rw[zTc h16];simp[h,show i≠q from λe=>c e.symm]
   ·rw[show(List.range 16)[i]?=none by simp;omega];rfl
 exact j0 (dV l) (aa h1 rfl)
def MN(k:Nat):adW .rem (I (k:Int)) (.int .i64 2)=some (I (k%2:Nat)):=by rw[kD j2,show(2:Int)=((2:Nat):Int) from rfl,<-zMd]
def jr{a b:Nat}(d:b≠0)(c:(a:Int)<=9223372036854775807):adW .quo (I (a:Int)) (I (b:Int))=some (I (a/b:Nat)):=by
 have:((a/b:Nat):Int)<=9223372036854775807:=by have:=zgc a b;omega
 have h0:0<=((a/b:Nat):Int):=z0c _;rw[oa j1 (by rw[<-zNd];simp only[inR];omega),<-zNd]
def lc{a b:Nat}(c:b≠0):adW .rem (I (a:Int)) (I (b:Int))=some (I (a%b:Nat)):=by rw[kD j1,<-zMd]
def ze{a b:D}{l:List Nat}{i:Nat}(h:i<16):D.get (.st [a,b,dV l]) [2,i]=some (U (eR l i)):=
 j0 (dV l) (aa (tv h) rfl)
def sgn(neg:Bool)(m:Nat):Int:=if neg then -(m:Int) else m
def HT(n:Nat){l:List Nat}{neg:Bool}(o:dl l)(hl:l.length<=1000000)(r:ba l<65536^32):cA (n+2) 81 [.bool neg,.sl (ag l)]=some (ae (sgn neg (ba l))):=by
 rw[u81]
 delta Pr qG qB qC qT qS qX qL qZ iL iR Jn
 have hlen:=bo 32 _ r;have c:=aT (ba l);have g:ae (sgn neg (ba l))=.st [.bool false,.bool (neg&&decide (0<(ay (ba l)).length)),dV (ay (ba l))]:=by
  have j:(sgn neg (ba l)).natAbs=ba l:=by unfold sgn;split<;>omega
  have m:(0<(ay (ba l)).length)↔ba l≠0:=by rw[zzc];exact not_congr sU
  unfold ae;rw[j];have:decide (sgn neg (ba l)<0)=(neg&&decide (0<(ay (ba l)).length)):=by
   simp only[m,sgn];cases neg
   ·simp<;>omega
   ·by_cases h:ba l=0
    ·simp[h]
    ·simp[h]<;>omega
  rw[this]
 rw[g];refine aa (yy n hl) ?_;rw[gV o];generalize ay (ba l)=d at hlen c;refine j0 (ag d) (aa bU (aa ac (aB (by show ¬ ((ag d).length:Int)>32;rw[aw];omega) ?_)))
 refine aa ac (aa (z:=neg&&decide (0<d.length)) ?_ ?_)
 ·cases neg
  ·rfl
  ·rw[zja rfl];refine j0 (ag d) (aa bU ?_);rw[ac,aw];simp
 refine aQ (λk s=>s=[I (k:Int),.st [.bool false,.bool (neg&&decide (0<d.length)),dV (d.take k)]]) d.length 0 (zoa _) rfl (λk hk s f=>?_) (λs f=>?_)
 ·subst f;left;refine⟨_,?_,rfl⟩;have q:=c.getD k;refine j0 (ag d) (aa ai (aa ac (aA (by show(k:Int)<((ag d).length:Int);rw[aw];omega) ?_)))
  refine aa (z:=(0,[.st [.bool false,.bool (neg&&decide (0<d.length)),dV (d.take (k+1))]])) ?_ (aa (aN (aM (i:=k) j1)) rfl)
  refine aa (MN k) ?_;have q1:k/2<16:=j1
  have hq:adW .quo (I (k:Int)) (.int .i64 2)=some (I (k/2:Nat)):=jr (b:=2) j2 j1
  have a:eR (d.take k) (k/2)=if k%2=0 then 0 else d.getD (2*(k/2)) 0:=by
   simp only[eR,jY];by_cases hk2:k%2=0
   ·rw[zja hk2,zga (show ¬ 2*(k/2)<k by omega),zga (show ¬ 2*(k/2)+1<k by omega)]
   ·rw[zga hk2,zja (show 2*(k/2)<k by omega),zga (show ¬ 2*(k/2)+1<k by omega)];omega
  have p:=c.getD (2*(k/2));by_cases hk2:k%2=0
  ·rw[zja hk2] at a;rw[hk2];refine j0 true ?_;rw[zja rfl];refine aa hq (aa hq (aa (au q1) (aa (ze q1) (j0 (ag d) (aa (z:=k) (by rw[aw];exact au hk) (aa (dc hk) (aa (Cy j1) (aa (Fz (by rw[a];omega)) (aa (au q1) (aa (tx q1 (l':=d.take (k+1)) ?_) rfl))))))))))
   intro i;by_cases e:i=k/2
   ·rw[zja e,a,e];simp only[eR,jY];rw[zja (show 2*(k/2)<k+1 by omega),zga (show ¬ 2*(k/2)+1<k+1 by omega),show 2*(k/2)=k by omega];omega
   ·rw[zga e];simp only[eR,jY];have a1:(2*i<k+1)↔(2*i<k):=j1
    have a2:(2*i+1<k+1)↔(2*i+1<k):=j1
    simp only[a1,a2]
  ·rw[zga hk2] at a;refine aa (z:=false) (by rw[show k%2=1 by omega];rfl) ?_
   rw[zga j2]
   refine aa hq (aa hq (aa (au q1) (aa (ze q1) (j0 (ag d) (aa (z:=k) (by rw[aw];exact au hk) (aa (dc hk) (aa (Cy j1) (aa (MS (b:=65536) j1) (aa (Fz (by rw[a];omega)) (aa (au q1) (aa (tx q1 (l':=d.take (k+1)) ?_) rfl)))))))))))
   intro i;by_cases e:i=k/2
   ·rw[zja e,a,e];simp only[eR,jY];rw[zja (show 2*(k/2)<k+1 by omega),zja (show 2*(k/2)+1<k+1 by omega),show 2*(k/2)+1=k by omega];omega
   ·rw[zga e];simp only[eR,jY];have a1:(2*i<k+1)↔(2*i<k):=j1
    have a2:(2*i+1<k+1)↔(2*i+1<k):=j1
    simp only[a1,a2]
 ·subst f;refine⟨(0,[.st [.bool false,.bool (neg&&decide (0<d.length)),dV (d.take d.length)]]),?_,?_⟩
  ·exact j0 (ag d) (aa ai (aa ac (aB (by show ¬ (d.length:Int)<((ag d).length:Int);rw[aw];omega) rfl)))
  ·rw[z7a];rfl
def YL(n:Nat){a b:List Nat}(t:dl a)(u:dl b)(E:a.length<=900000)(F:b.length<=900000):cA (n+2) 82 [.sl (ag a),.sl (ag b)]=some (.sl (ag (ay (ba a+ba b)))):=by
 rw[u82]
 delta RA qB qC qS qV qW qZ iL iR Jn
 obtain⟨M,A⟩:∃ M,M=max a.length b.length:=⟨_,rfl⟩;have f:∀ k:Nat,D.max2 (D.int .i64 (ag a).length) (D.int .i64 (ag b).length)=some (I (M:Int)):=λ_=>by rw[tG,aw,aw,A];congr 2;omega
 refine aQ (λk s=>∃ (out:List Nat) (c:Nat),s=[.sl (ag out),I (c:Int),I (k:Int)]/\out.length=k/\dl out/\c<=1/\ba out+c*65536^k=vt a k+vt b k) (M+1) 0 (zoa _) ⟨[],0,rfl,rfl,(by intro d C;cases C),j1,by simp[ba,vt]⟩ (λk hk s j=>?_) (λs j=>?_)
 ·obtain⟨out,c,rfl,o,g,hc,p⟩:=j;left;have h1:=t.getD k;have G:=u.getD k;refine⟨[.sl (ag (out++[(a.getD k 0+b.getD k 0+c)%65536])),I ((a.getD k 0+b.getD k 0+c)/65536:Nat),I ((k+1:Nat):Int)],?_,out++[(a.getD k 0+b.getD k 0+c)%65536],(a.getD k 0+b.getD k 0+c)/65536,rfl,by simp[o],g.append (λx hx=>by simp at hx;omega),j1,?_⟩
  ·refine j0 (ag a) (j0 (ag b) (aa (f 0) (aa (aN (aM (i:=M) j1)) (aa ai (aa ac (aA (by show(k:Int)<(M:Int)+1;omega) ?_))))))
   refine aa (AJ n a k) (aa (AJ n b k) (aa (aN (by simp only[inR];omega)) (aa (aN (by simp only[inR];omega)) ?_)))
   rw[show(((a.getD k 0:Nat):Int)+((b.getD k 0:Nat):Int)+(c:Int))=((a.getD k 0+b.getD k 0+c:Nat):Int) by omega]
   refine aa (lc (b:=65536) j2) ?_
   rw[zja (by simp only[g0,D.els,aw,zOa,z1b];omega)]
   refine aa (jr (b:=65536) j2 j1) (aa (aN (aM (i:=k) j1)) ?_)
   simp only[g0,D.els,vm];rfl
  ·rw[ls,o,vt,vt,zob];have e:a.getD k 0+b.getD k 0+c=(a.getD k 0+b.getD k 0+c)%65536+65536*((a.getD k 0+b.getD k 0+c)/65536):=j1
   have y:ba [(a.getD k 0+b.getD k 0+c)%65536]=(a.getD k 0+b.getD k 0+c)%65536:=by simp[ba]
   rw[y];generalize 65536^k=B at *;generalize (a.getD k 0+b.getD k 0+c)%65536=r at *;generalize (a.getD k 0+b.getD k 0+c)/65536=q at *;have:(a.getD k 0+b.getD k 0+c)*B=(r+65536*q)*B:=by rw[e]
   rw[zdb,zdb,zdb] at this;rw[show q*(B*65536)=65536*q*B by rw[zMa B,<-z0a,zMa q],zMa B r]
   omega
 ·obtain⟨out,c,rfl,o,g,hc,p⟩:=j;refine⟨(0,[.sl (ag out)]),?_,?_⟩
  ·refine j0 (ag a) (j0 (ag b) (aa (f 0) (aa (aN (aM (i:=M) j1)) (aa ai (aa ac (aB (by show ¬ (((M+1:Nat):Int)<(M:Int)+1);omega) rfl))))))
  ·refine aa (yy n (l:=out) j1) ?_
   have v:vt a (M+1)=ba a:=ik j1
   have w:vt b (M+1)=ba b:=ik j1
   have la:=uv t M;have lb:=uv u M;rw[ik (show a.length<=M by omega)] at la
   rw[ik (show b.length<=M by omega)] at lb
   have m:c=0:=by
    rcases zAb c with h|h
    ·exact h
    ·have:1*65536^(M+1)<=c*65536^(M+1):=zEa _ h;rw[zob] at this;rw[v,w,zob] at p;omega
   subst m;rw[gV g,<-v,<-w,<-p];simp
def ou(n:Nat){x:Int}(hx:inR x):cA (n+3) 34 [I x]=some (ae x):=by
 rw[u34]
 delta Ri qB qC Jn
 obtain⟨h1,c⟩:=hx;have d1:∀ m:Nat,(m:Int)<=9223372036854775807->dl [m%65536,m/65536%65536,m/4294967296%65536,m/281474976710656]:=λm hm d g=>by simp only[zGa,zTb,or_false] at g;omega
 have d2:∀ m:Nat,ba [m%65536,m/65536%65536,m/4294967296%65536,m/281474976710656]=m:=λm=>by simp only[ba];omega
 have d3:∀ m:Nat,D.sl [I (m%65536:Nat),I (m/65536%65536:Nat),I (m/4294967296%65536:Nat),I (m/281474976710656:Nat)]=.sl (ag [m%65536,m/65536%65536,m/4294967296%65536,m/281474976710656]):=λm=>rfl;have a:∀ m:Nat,(m:Int)<=9223372036854775808->m<65536^32:=λm hm=>by
  have:(65536:Nat)^4<=65536^32:=zqa j2 j2
  have e:(65536:Nat)^4=18446744073709551616:=j2
  omega
 refine aa eU (aa ac ?_);by_cases h:x ≥ 0
 ·refine aA h ?_;obtain⟨m,rfl⟩:=zAc h;refine aa (lc (b:=65536) j2) (aa (jr (b:=65536) j2 c) (aa (lc (b:=65536) j2) (aa (jr (b:=4294967296) j2 c) (aa (lc (b:=65536) j2) (aa (jr (b:=281474976710656) j2 c) ?_)))))
  refine aa (z:=ae m) ?_ rfl;rw[d3,HT n (d1 m c) s6 (by rw[d2];exact a m j1),d2];rfl
 ·refine aB h ?_;obtain⟨m,hm⟩:=zAc (show 0<=-(x+1) by omega)
  have f:(m:Int)<=9223372036854775807:=j1
  refine aa (aN (by simp only[inR];omega)) (aa (ur (by simp only[inR];omega)) ?_)
  rw[hm];refine aa (lc (b:=65536) j2) (aa (jr (b:=65536) j2 f) (aa (lc (b:=65536) j2) (aa (jr (b:=4294967296) j2 f) (aa (lc (b:=65536) j2) (aa (jr (b:=281474976710656) j2 f) ?_)))))
  rw[d3];refine aa (YL n (b:=[1]) (d1 m f) (λd g=>by simp at g;omega) s6 s6) (aa (z:=ae x) ?_ rfl)
  rw[d2];have i:ba [1]=1:=rfl;rw[i,HT n (aT _) ?_ ?_,aq]
  ·congr 2;simp only[sgn,if_true];omega
  ·have:=bo 32 _ (a (m+1) j1);omega
  ·rw[aq];exact a (m+1) j1
def In(x:Int):Prop:=x.natAbs<65536^32
def In.of{x:Int}(h:inR x):In x:=by
 have:(65536:Nat)^4<=65536^32:=zqa j2 j2
 have e:(65536:Nat)^4=18446744073709551616:=j2
 obtain⟨h1,a⟩:=h;unfold In;omega
def iu(m i:Nat):eR (ay m) i=m/4294967296^i%4294967296:=by
 have a:65536^(2*i)=4294967296^i:=by rw[zfd]
 have b:65536^(2*i+1)=4294967296^i*65536:=by rw[zob,a]
 unfold eR;rw[jE,jE,a,b,<-zPa];generalize m/4294967296^i=q;omega
def Mn(m:Nat):eR (ay m) 0=m%4294967296:=by rw[iu,zlc,zSc]
def GG(m:Nat):eR (ay m) 1=m/4294967296%4294967296:=by rw[iu,Nat.pow_one]
def QH{m i:Nat}(h:m<18446744073709551616)(a:2<=i):eR (ay m) i=0:=by
 rw[iu];have:(4294967296:Nat)^2<=4294967296^i:=zqa j2 a
 rw[z6a j1]
def LW{a b:Nat}:D.beq (U a) (U b)=decide (a=b):=by
 simp only[D.beq,decide_true,zrb];by_cases h:a=b
 ·simp[h]
 ·simp[h];omega
def tz{m:Nat}(hm:m<65536^32)(h:∀ i,i<16->eR (ay m) i=0):m=0:=by
 have b:∀ i,i<32->(ay m).getD i 0=0:=λi c=>by
  have:=h (i/2) j1
  unfold eR at this;rcases Nat.mod_two_eq_zero_or_one i with e|e
  ·rw[show 2*(i/2)=i by omega] at this;omega
  ·rw[show 2*(i/2)+1=i by omega] at this;omega
 have a:∀ k,k<=32->vt (ay m) k=0:=λk=>by
  induction k with
  | zero=>intro _;rfl
  | succ k ih=>intro hk;rw[vt,ih j1,b k j1];simp
 have:=a 32 j1
 rw[ik (bo 32 _ hm),aq] at this;exact this
def zB(m i:Nat):Bool:=(List.range i).all λk=>decide (eR (ay m) k=0)
def LT(m i:Nat):zB m (i+1)=(zB m i&&decide (eR (ay m) i=0)):=by unfold zB;rw[zGb,zEc];simp
def PK(n:Nat){x:Int}(hx:In x):cA (n+1) 139 [ae x]=some (.bool true):=by
 rw[N7]
 delta Du qG qB qC qT qN qZ iL iR Jn
 have fin:∀ z:Bool,(z=true->x=0)->((D.get (ae x) [0]).bind λj=>(D.truth j).bind λb=>
   if b then((D.truth (.bool z)).bind λc=>Option.bind (if c then((D.get (ae x) [1]).bind λk=>(aeb .not k).bind λl=>D.truth l) else(some false)) λd=>
   some (D.bool d)) else((aeb .not (.bool z)).bind λm=>(D.truth m).bind λe=>
   Option.bind (if e then(some true) else((D.get (ae x) [1]).bind λo=>(aeb .not o).bind λp=>D.truth p)) λf=>some (D.bool f)))=some (.bool true):=by
  intro z q;refine j0 (.bool false) (j0 false ?_);rw[zga j2]
  refine j0 (.bool (!z)) (j0 (!z) ?_);cases z with
  | false=>rfl
  | true=> have:=q rfl;subst this;rfl
 refine aQ (λi s=>s=[.bool (zB x.natAbs i),I (i:Int)]) 16 0 (zoa _) rfl (λi a s g=>?_) (λs g=>?_)
 ·subst g;left;refine⟨_,?_,rfl⟩;refine aa ai (aa ac (aA (by show(i:Int)<16;omega) (aa ac (aa (z:=zB x.natAbs (i+1)) ?_ (aa (aN (aM (i:=i) j1)) rfl)))))
  rw[LT];cases zB x.natAbs i with
  | false=>rfl
  | true=> rw[zja rfl];refine aa (au a) (aa (c8 a) ?_);show D.truth (D.bool (D.beq (U (eR (ay x.natAbs) i)) (U 0)))=_;rw[LW,ac];rfl
 ·subst g;refine⟨(0,[.bool (zB x.natAbs 16)]),?_,?_⟩
  ·exact aa ai (aa ac (aB j2 rfl))
  ·refine fin _ λh=>?_;have:=tz hx (λi a=>of_decide_eq_true (zya.1 h i (zHa.2 a)));omega
def mH(n:Nat){x:Int}(hx:In x):cA (n+2) 76 [ae x]=some (.bool true):=by
 rw[u76]
 delta Oo qG qT
 exact aa (PK n hx) (aa ac rfl)
def nk(n:Nat){x:Int}(hx:x.natAbs<4611686018427387904):cA (n+3) 124 [ae x]=some (.tup [I x,.bool true]):=by
 have b:In x:=In.of (by simp only[inR];omega)
 rw[N5]
 delta Ds qG qB qC qT qN qZ iL iR Jn
 have d:=GG x.natAbs;refine aa (mH n b) (aa aF (aa ac (aa (z:=false) ?_ (aa ac ?_))))
 ·rw[zga j2]
  refine aa (c8 (i:=1) j2) ?_
  rw[d];have:adW .geq (U (x.natAbs/4294967296%4294967296)) (.int .u32 1073741824)=some (.bool false):=by simp only[adW,if_true];rw[zca j1]
  exact aa this rfl
 ·rw[zga j2]
  refine aQ (λi s=>s=[I (i:Int)]/\2<=i) 16 2 j2 ⟨rfl,j2⟩ (λi c s a=>?_) (λs a=>?_)
  ·obtain⟨rfl,f⟩:=a;left;refine⟨_,?_,rfl,j1⟩
   refine aa ai (aa ac (aA (by show(i:Int)<16;omega) ?_))
   refine aa (au c) (aa (c8 c) ?_);rw[QH j1 f]
   refine j0 false ?_;rw[zga j2]
   exact aa (aN (aM (i:=i) j1)) rfl
  ·obtain⟨rfl,_⟩:=a;refine⟨(1,[]),aa ai (aa ac (aB j2 rfl)),?_⟩
   rw[zga j2]
   have e:=Mn x.natAbs;refine aa (c8 (i:=1) j2) (aa (rJ (xo (aT _) 1)) ?_)
   rw[d];refine aa (cO (by simp only[inR];omega)) (aa (c8 (i:=0) j2) (aa (rJ (xo (aT _) 0)) ?_))
   rw[e];refine aa (aN (by simp only[inR];omega)) (j0 (.bool (decide (x<0))) (aa ac ?_))
   by_cases hx0:x<0
   ·refine aA hx0 ?_;refine aa (ur (by simp only[inR];omega)) ?_
    congr 4;omega
   ·refine aB hx0 ?_;congr 4;omega
def XM(n:Nat){x:Int}(hx:In x):cA (n+3) 142 [ae x]=some (ae x.natAbs):=by
 rw[Zq]
 delta Is qN
 have hl:=bo 32 _ hx;refine aa (mH n hx) (aa aF (aa ac ?_));refine aa (rI n hx) (aa (z:=ae x.natAbs) ?_ rfl);rw[HT n (aT _) j1 (by rw[aq];exact hx),aq];rfl
def RL(n:Nat){a b:List Nat}(o:dl a)(p:dl b)(q:a.length<=900000)(r:b.length<=900000):cA (n+2) 78 [.sl (ag a),.sl (ag b)]=some (.bool (decide (ba a<ba b))):=by
 rw[u78]
 delta Ry qB qC qT qS qZ iL iR Jn
 obtain⟨M,m⟩:∃ M,M=max a.length b.length:=⟨_,rfl⟩;have c:D.max2 (D.int .i64 (ag a).length) (D.int .i64 (ag b).length)=some (I (M:Int)):=by rw[tG,aw,aw,m];congr 2;omega
 have f:vt a M=ba a:=ik j1
 have g:vt b M=ba b:=ik j1
 refine j0 (ag a) (j0 (ag b) (aa c (aa (bB (by simp only[inR];omega)) ?_)))
 refine aQ (λi s=>s=[I ((M:Int)-1-i)]/\(ba a<ba b↔vt a (M-i)<vt b (M-i))) M 0 (zoa _) ⟨s6,by simp[f,g]⟩ (λi t s e=>?_) (λs e=>?_)
 ·obtain⟨rfl,d⟩:=e;obtain⟨k,hk⟩:∃ k,M-i=k+1:=⟨M-i-1,j1⟩
  rw[hk,vt,vt] at d;have l:(M:Int)-1-i=(k:Int):=j1
  rw[l];have la:=uv o k;have lb:=uv p k;have q1:=AJ n a k;have j:=AJ n b k;by_cases hab:a.getD k 0=b.getD k 0
  ·left;refine⟨[I ((M:Int)-1-(i+1:Nat))],?_,rfl,?_⟩
   ·refine aa eU (aa ac (aA (by show(k:Int) ≥ 0;omega) (aa q1 (aa j (aa (z:=false) ?_ ?_)))))
    ·rw[hab,dn,zha rfl];rfl
    ·rw[zga j2]
     refine aa (bB (by simp only[inR];omega)) ?_
     congr 4;omega
   ·rw[d,hab,show M-(i+1)=k by omega];omega
  ·right;refine⟨(0,[.bool (decide (a.getD k 0<b.getD k 0))]),?_,?_⟩
   ·refine aa eU (aa ac (aA (by show(k:Int) ≥ 0;omega) (aa q1 (aa j (aa (z:=true) ?_ ?_)))))
    ·rw[dn,zca hab];rfl
    ·rw[zja rfl];refine aa q1 (aa j (aa ai ?_));simp
   ·rw[zja rfl];show some (D.bool (decide (a.getD k 0<b.getD k 0)))=_;congr 3;rw[eq_iff_iff,d];generalize a.getD k 0=u at *;generalize b.getD k 0=v at *;generalize 65536^k=B at *;constructor
    ·intro h;have:(u+1)*B<=v*B:=zEa _ h;rw[zdb] at this;omega
    ·intro h;rcases zta u v with h1|h1
     ·exact h1
     ·have:(v+1)*B<=u*B:=zEa _ j1
      rw[zdb] at this;omega
 ·obtain⟨rfl,d⟩:=e;refine⟨(1,[]),?_,?_⟩
  ·exact aa eU (aa ac (aB (by show ¬ ((M:Int)-1-(M:Nat)) ≥ 0;omega) rfl))
  ·rw[zga j2]
   have:¬ ba a<ba b:=by rw[d];simp[vt]
   rw[zca this]
def Ow(n:Nat){x y:Int}(hx:In x)(c:In y):cA (n+3) 32 [ae x,ae y]=some (I (cb x y)):=by
 rw[u32]
 delta Oj qG qT qN Jn
 have h:=bo 32 _ hx;have i:=bo 32 _ c;have gx:=mH n hx;have f:=mH n c;have a:=rI n hx;have b:=rI n c;refine aa gx (aa aF (aa ac (j0 false (j0 false ?_))));rw[zga j2]
 refine aa gx (aa aF (j0 false ?_));rw[zga j2]
 refine aa f (aa aF (j0 false ?_));rw[zga j2]
 refine j0 (.bool (decide (x<0))) (j0 (.bool (decide (y<0))) ?_);have d:=RL n (aT x.natAbs) (aT y.natAbs) j1 j1
 have e:=RL n (aT y.natAbs) (aT x.natAbs) j1 j1
 simp only[aq] at d e;have g:∀ p q:Bool,D.truth (.bool (!(D.beq (.bool p) (.bool q))))=some (!(p==q)):=λp q=>rfl;rw[g];refine aa rfl ?_;by_cases h1:x<0<;>by_cases h2:y<0
 ·rw[zha h1,zha h2,zga j2]
  refine aa a (aa b (aa (z:=(0,[.sl (ag (ay y.natAbs)),.sl (ag (ay x.natAbs))])) ?_ ?_))
  ·refine aa (z:=.bool true) (by rw[show D.get (ae x) [1]=some (.bool (decide (x<0))) from rfl,zha h1]) (j0 true ?_)
   rw[zja rfl];exact aa b (aa a rfl)
  ·refine aa e (aa d (aa ac ?_));by_cases h3:y.natAbs<x.natAbs
   ·refine aA h3 ?_;simp[cb,show x<y by omega]
   ·refine aB h3 (aa ac ?_);by_cases h4:x.natAbs<y.natAbs
    ·refine aA h4 ?_;simp[cb,show ¬ x<y by omega,show y<x by omega]
    ·refine aB h4 ?_;simp[cb,show ¬ x<y by omega,show ¬ y<x by omega]
 ·rw[zha h1,zca h2,zja j2]
  refine aa (z:=.bool true) (by rw[show D.get (ae x) [1]=some (.bool (decide (x<0))) from rfl,zha h1]) (j0 true ?_)
  simp[cb,show x<y by omega]
 ·rw[zca h1,zha h2,zja j2]
  refine aa (z:=.bool false) (by rw[show D.get (ae x) [1]=some (.bool (decide (x<0))) from rfl,zca h1]) (j0 false ?_)
  simp[cb,show ¬ x<y by omega,show y<x by omega]
 ·rw[zca h1,zca h2,zga j2]
  refine aa a (aa b (aa (z:=(0,[.sl (ag (ay x.natAbs)),.sl (ag (ay y.natAbs))])) ?_ ?_))
  ·refine aa (z:=.bool false) (by rw[show D.get (ae x) [1]=some (.bool (decide (x<0))) from rfl,zca h1]) (j0 false rfl)
  ·refine aa d (aa e (aa ac ?_));by_cases h3:x.natAbs<y.natAbs
   ·refine aA h3 ?_;simp[cb,show x<y by omega]
   ·refine aB h3 (aa ac ?_);by_cases h4:y.natAbs<x.natAbs
    ·refine aA h4 ?_;simp[cb,show ¬ x<y by omega,show y<x by omega]
    ·refine aB h4 ?_;simp[cb,show ¬ x<y by omega,show ¬ y<x by omega]
end Sy
end
end Go.Proofs.YtmnkibhalflchaaGreat
