/- Part 9 of the proof that HullOfBoxes answers true at every input -/
import Derived.Test.YtjjjkojfijpeeaaGreatBoxes08
set_option linter.unusedVariables false
set_option linter.unusedSimpArgs false
set_option linter.unnecessarySimpa false
section
namespace Go.Proofs.YtjjjkojfijpeeaaGreat.Geo
structure V where
 x:Int
 y:Int
 z:Int
deriving DecidableEq
namespace V
def sub(a b:V):V:=⟨a.x-b.x,a.y-b.y,a.z-b.z⟩
def neg(a:V):V:=⟨-a.x,-a.y,-a.z⟩
def add(a b:V):V:=⟨a.x+b.x,a.y+b.y,a.z+b.z⟩
def smul(k:Int)(a:V):V:=⟨k*a.x,k*a.y,k*a.z⟩
def dot(a b:V):Int:=a.x*b.x+a.y*b.y+a.z*b.z
def cross(a b:V):V:=⟨a.y*b.z-a.z*b.y,a.z*b.x-a.x*b.z,a.x*b.y-a.y*b.x⟩
def zero:V:=⟨0,0,0⟩
theorem ext'{a b:V}(h1:a.x=b.x)(h2:a.y=b.y)(h3:a.z=b.z):a=b:=by cases a;cases b;simp_all
end V
open V
theorem yt{a:Int}(h:a≠0):0<a*a:=by
 rcases Int.lt_or_lt_of_ne h with h|h
 ·exact Int.mul_pos_of_neg_of_neg h h
 ·exact Int.mul_pos h h
theorem tP(a:Int):0<=a*a:=by
 rcases Int.lt_trichotomy a 0 with h|h|h
 ·exact Int.le_of_lt (Int.mul_pos_of_neg_of_neg h h)
 ·subst h;decide
 ·exact Int.le_of_lt (Int.mul_pos h h)
theorem iG(a:V):0<=dot a a:=by
 have:=tP a.x;have:=tP a.y;have:=tP a.z
 simp only[dot];omega
theorem lL{a:V}(h:dot a a=0):a=zero:=by
 have h1:=tP a.x;have h2:=tP a.y;have h3:=tP a.z
 simp only[dot] at h
 have e1:a.x*a.x=0:=by omega
 have e2:a.y*a.y=0:=by omega
 have e3:a.z*a.z=0:=by omega
 apply V.ext'<;>simp only[zero]<;>(first|(rcases Int.mul_eq_zero.1 e1 with h|h<;>exact h)|(rcases Int.mul_eq_zero.1 e2 with h|h<;>exact h)|(rcases Int.mul_eq_zero.1 e3 with h|h<;>exact h))
theorem aM{a:V}(h:a≠zero):0<dot a a:=by
 have:=iG a
 rcases Int.lt_or_eq_of_le this with h1|h1
 ·exact h1
 ·exact absurd (lL h1.symm) h
def T(n u v:V):Int:=dot n (cross u v)
theorem lM{a b:Int}(ha:0<a)(h:0<a*b):0<b:=by
 rcases Int.lt_trichotomy b 0 with hb|hb|hb
 ·have:=Int.mul_neg_of_pos_of_neg ha hb;omega
 ·subst hb;simp at h
 ·exact hb
theorem tg{a b:Int}(ha:0<a)(h:0<=a*b):0<=b:=by
 rcases Int.lt_or_le b 0 with hb|hb
 ·have:=Int.mul_neg_of_pos_of_neg ha hb;omega
 ·exact hb
theorem aO{a b:Int}(ha:0<a)(h:a*b=0):b=0:=by
 rcases Int.mul_eq_zero.1 h with h|h
 ·omega
 ·exact h
section plane
variable{n:V}(hn:n≠zero)
include hn
theorem vi(f:V){u v w:V}(hu:dot n u=0)(hv:dot n v=0)(hw:dot n w=0) :
  dot f u*T n v w+dot f v*T n w u+dot f w*T n u v=0:=by
 have h:dot n n*(dot f u*T n v w+dot f v*T n w u+dot f w*T n u v)=0:=by
  simp only[T,dot,cross] at *;grind
 exact aO (aM hn) h
theorem At{f u v w:V}(hu:dot n u=0)(hv:dot n v=0)(hw:dot n w=0)(fu:0<dot f u)(fv:0<dot f v)(fw:0<dot f w)
  (h1:0<=T n u v) (h2:0<=T n v w):0<=T n u w/\(0<T n u v\/0<T n v w->0<T n u w):=by
 have p:=vi hn f hu hv hw
 have e:T n w u=- T n u w:=by simp only[T,dot,cross];grind
 rw[e] at p
 have q:dot f v*T n u w=dot f u*T n v w+dot f w*T n u v:=by
  have:dot f v*-T n u w=-(dot f v*T n u w):=Int.mul_neg _ _
  omega
 have q1:=Int.mul_nonneg (Int.le_of_lt fu) h2
 have q2:=Int.mul_nonneg (Int.le_of_lt fw) h1
 refine⟨tg fv (by omega),fun h=>lM fv ?_⟩
 rcases h with h|h
 ·have:=Int.mul_pos fw h;omega
 ·have:=Int.mul_pos fu h;omega
theorem de{u v:V}(hu:dot n u=0)(hv:dot n v=0)(h:T n u v=0):cross u v=zero:=by
 have hp:=aM hn
 have e1:dot n n*(cross u v).x=T n u v*n.x:=by simp only[T,dot,cross] at *;grind
 have e2:dot n n*(cross u v).y=T n u v*n.y:=by simp only[T,dot,cross] at *;grind
 have e3:dot n n*(cross u v).z=T n u v*n.z:=by simp only[T,dot,cross] at *;grind
 rw[h,Int.zero_mul] at e1 e2 e3
 exact V.ext' (aO hp e1) (aO hp e2) (aO hp e3)
end plane
theorem Ca{u v:V}(h:cross u v=zero)(f:V):smul (dot f u) v=smul (dot f v) u:=by
 have h1:(cross u v).x=0:=by rw[h];rfl
 have h2:(cross u v).y=0:=by rw[h];rfl
 have h3:(cross u v).z=0:=by rw[h];rfl
 simp only[cross] at h1 h2 h3
 apply V.ext'<;>simp only[smul,dot]<;>grind
theorem CQ{u v:V}(h:cross u v=zero)(hu:u≠zero)(hd:dot v u=dot u u):v=u:=by
 have p:=Ca h u
 have e:dot u v=dot v u:=by simp only[dot];grind
 have hp:=aM hu
 rw[e,hd] at p
 have p1:dot u u*(v.x-u.x)=0:=by have:=congrArg V.x p;simp only[smul] at this;grind
 have p2:dot u u*(v.y-u.y)=0:=by have:=congrArg V.y p;simp only[smul] at this;grind
 have p3:dot u u*(v.z-u.z)=0:=by have:=congrArg V.z p;simp only[smul] at this;grind
 have:=aO hp p1
 have:=aO hp p2
 have:=aO hp p3
 exact V.ext' (by omega) (by omega) (by omega)
theorem dI{α:Type}(φ:α->Int):∀ l:List α,∃ N:Int,0<N/\∀ x∈l,-N<φ x/\φ x<N
 | []=>⟨1,by decide,by simp⟩
 | a::l=>by
  obtain⟨N,h0,h⟩:=dI φ l
  refine⟨N+(φ a).natAbs+1,by omega,fun x hx=>?_⟩
  rcases List.mem_cons.1 hx with rfl|hx
  ·omega
  ·have:=h x hx;omega
def wy(P:Nat->V)(a x:Nat):V:=sub (P x) (P a)
structure Side(n:V)(P:Nat->V)(on:List Nat)(a b:Nat):Prop where
 mem:b∈on
 ne:b≠a
 all:∀ x∈on,0<=T n (wy P a b) (wy P a x)/\(T n (wy P a b) (wy P a x)=0->0<=dot (wy P a x) (wy P a b)/\dot (wy P a x) (wy P a b)<=dot (wy P a b) (wy P a b))
def dF(P:Nat->V)(on:List Nat)(a:Nat):Prop:=∃ f:V,∀ x∈on,x≠a->0<dot f (wy P a x)
structure Flat(n:V)(P:Nat->V)(on:List Nat):Prop where
 nz:n≠zero
 pl:∀ x∈on,∀ y∈on,dot n (wy P x y)=0
 inj:∀ x∈on,∀ y∈on,P x=P y->x=y
section poly
variable{n:V}{P:Nat->V}{on:List Nat}
theorem ph(h:Flat n P on){a b:Nat}(ha:a∈on)(hb:b∈on)(hab:b≠a):wy P a b≠zero:=fun e=>by
 apply hab
 apply h.inj b hb a ha
 have e1:=congrArg V.x e;have e2:=congrArg V.y e;have e3:=congrArg V.z e
 simp only[wy,sub,zero] at e1 e2 e3
 exact V.ext' (by omega) (by omega) (by omega)
theorem Dn{a b c:Nat}(h:wy P a b=wy P a c):P b=P c:=by
 have e1:=congrArg V.x h;have e2:=congrArg V.y h;have e3:=congrArg V.z h
 simp only[wy,sub] at e1 e2 e3
 exact V.ext' (by omega) (by omega) (by omega)
theorem Side.unique(h:Flat n P on){a b c:Nat}(ha:a∈on)(hb:Side n P on a b)(hc:Side n P on a c):b=c:=by
 have h1:=hb.all c hc.mem
 have h2:=hc.all b hb.mem
 have e:T n (wy P a c) (wy P a b)=- T n (wy P a b) (wy P a c):=by simp only[T,dot,cross];grind
 rw[e] at h2
 have t0:T n (wy P a b) (wy P a c)=0:=by omega
 have k1:=h1.2 t0
 have k2:=h2.2 (by omega)
 have es:dot (wy P a b) (wy P a c)=dot (wy P a c) (wy P a b):=by simp only[dot];grind
 have hx:=de h.nz (h.pl a ha b hb.mem) (h.pl a ha c hc.mem) t0
 have hq:dot (wy P a b) (wy P a b)*dot (wy P a c) (wy P a c)=dot (wy P a c) (wy P a b)*dot (wy P a c) (wy P a b):=by
  have p:=Ca hx (wy P a b)
  have p1:=congrArg V.x p;have p2:=congrArg V.y p;have p3:=congrArg V.z p
  simp only[smul] at p1 p2 p3
  simp only[dot] at *;grind
 have hbp:=aM (ph h ha hb.mem hb.ne)
 have hcp:=aM (ph h ha hc.mem hc.ne)
 have hle:dot (wy P a c) (wy P a b)=dot (wy P a b) (wy P a b):=by
  generalize dot (wy P a b) (wy P a b)=B at *
  generalize dot (wy P a c) (wy P a c)=C at *
  generalize dot (wy P a c) (wy P a b)=X at *
  rw[es] at k2
  rcases Int.lt_or_eq_of_le k1.2 with hlt|heq
  ·exfalso
   have:X*X<B*C:=by
    have a1:X*X<=X*C:=Int.mul_le_mul_of_nonneg_left k2.2 k1.1
    have a2:X*C<B*C:=Int.mul_lt_mul_of_pos_right hlt hcp
    omega
   omega
  ·exact heq
 have:=CQ hx (ph h ha hb.mem hb.ne) hle
 exact(h.inj c hc.mem b hb.mem (Dn this)).symm
theorem Side.ext(h:Flat n P on){a b:Nat}(ha:a∈on)(hb:Side n P on a b):dF P on b:=by
 obtain⟨N,hN0,hN⟩:=dI (fun x=>dot (wy P b a) (wy P b x)) on
 refine⟨add (smul N (cross n (wy P a b))) (wy P b a),fun x hx hxb=>?_⟩
 have e:dot (add (smul N (cross n (wy P a b))) (wy P b a)) (wy P b x)=N*T n (wy P a b) (wy P a x)+dot (wy P b a) (wy P b x):=by
  simp only[T,dot,cross,add,smul,wy,sub];grind
 rw[e]
 obtain⟨h1,h2⟩:=hb.all x hx
 have h3:=hN x hx
 rcases Int.lt_or_eq_of_le h1 with hlt|heq
 ·have:N*1<=N*T n (wy P a b) (wy P a x):=Int.mul_le_mul_of_nonneg_left (by omega) (by omega)
  omega
 ·rw[<-heq,Int.mul_zero,Int.zero_add]
  have h4:=h2 heq.symm
  have e2:dot (wy P b a) (wy P b x)=dot (wy P a b) (wy P a b)-dot (wy P a x) (wy P a b):=by simp only[dot,wy,sub];grind
  rw[e2]
  rcases Int.lt_or_eq_of_le h4.2 with h5|h5
  ·omega
  ·exfalso
   have hx0:=de h.nz (h.pl a ha b hb.mem) (h.pl a ha x hx) heq.symm
   exact hxb (h.inj x hx b hb.mem (Dn (CQ hx0 (ph h ha hb.mem hb.ne) h5)))
theorem dF.ray(h:Flat n P on){a x y:Nat}(ha:a∈on)(hx:x∈on)(hy:y∈on)(ea:dF P on a)(ex:dF P on x)(ey:dF P on y)(hxa:x≠a)(hya:y≠a)(ht:T n (wy P a x) (wy P a y)=0):x=y:=by
 by_cases hxy:x=y
 ·exact hxy
 exfalso
 obtain⟨f,hf⟩:=ea
 obtain⟨g,hg⟩:=ex
 obtain⟨k,hk⟩:=ey
 have c:=de h.nz (h.pl a ha x hx) (h.pl a ha y hy) ht
 have p:=Ca c f
 have fx:=hf x hx hxa
 have fy:=hf y hy hya
 have g1:=hg a ha (Ne.symm hxa);have g2:=hg y hy (Ne.symm hxy)
 have k1:=hk a ha (Ne.symm hya);have k2:=hk x hx hxy
 have q1:dot f (wy P a x)*dot g (wy P a y)=dot f (wy P a y)*dot g (wy P a x):=by
  have p1:=congrArg V.x p;have p2:=congrArg V.y p;have p3:=congrArg V.z p
  simp only[smul] at p1 p2 p3
  generalize dot f (wy P a x)=A at *
  generalize dot f (wy P a y)=B at *
  simp only[dot];grind
 have q2:dot f (wy P a x)*dot k (wy P a y)=dot f (wy P a y)*dot k (wy P a x):=by
  have p1:=congrArg V.x p;have p2:=congrArg V.y p;have p3:=congrArg V.z p
  simp only[smul] at p1 p2 p3
  generalize dot f (wy P a x)=A at *
  generalize dot f (wy P a y)=B at *
  simp only[dot];grind
 have eg1:dot g (wy P x a)=- dot g (wy P a x):=by simp only[dot,wy,sub];grind
 have eg2:dot g (wy P x y)=dot g (wy P a y)-dot g (wy P a x):=by simp only[dot,wy,sub];grind
 have ek1:dot k (wy P y a)=- dot k (wy P a y):=by simp only[dot,wy,sub];grind
 have ek2:dot k (wy P y x)=dot k (wy P a x)-dot k (wy P a y):=by simp only[dot,wy,sub];grind
 rw[eg1] at g1;rw[eg2] at g2;rw[ek1] at k1;rw[ek2] at k2
 generalize dot f (wy P a x)=A at *
 generalize dot f (wy P a y)=B at *
 generalize dot g (wy P a x)=gx at *
 generalize dot g (wy P a y)=gy at *
 generalize dot k (wy P a x)=kx at *
 generalize dot k (wy P a y)=ky at *
 have r1:B<A:=by
  rcases Int.lt_or_le B A with hh|hh
  ·exact hh
  ·exfalso
   have s1:B*gx<=A*gx:=by
    have:=Int.mul_le_mul_of_nonneg_right hh (show 0<=-gx by omega)
    simp only[Int.mul_neg] at this;omega
   have s2:A*gx<A*gy:=Int.mul_lt_mul_of_pos_left (by omega) fx
   omega
 have s3:A*ky<B*ky:=by
  have s4:B*ky<B*kx:=Int.mul_lt_mul_of_pos_left (by omega) fy
  have s5:A*ky=B*kx:=q2
  have s6:A*ky<=B*ky:=by
   have:=Int.mul_le_mul_of_nonneg_right (Int.le_of_lt r1) (show 0<=-ky by omega)
   simp only[Int.mul_neg] at this;omega
  omega
 have s4:B*ky<B*kx:=Int.mul_lt_mul_of_pos_left (by omega) fy
 omega
theorem Hi(a x y:Nat):T n (wy P x y) (wy P x a)=T n (wy P a x) (wy P a y):=by
 simp only[T,dot,cross,wy,sub];grind
theorem wE(u v:V):T n v u=- T n u v:=by simp only[T,dot,cross];grind
theorem Side.after(h:Flat n P on){a x y:Nat}(ha:a∈on)(hx:x∈on)(ea:dF P on a)(ex:dF P on x)(hxa:x≠a)(hs:Side n P on x y)(hya:y≠a):0<T n (wy P a x) (wy P a y):=by
 have h1:=(hs.all a ha).1
 rw[Hi] at h1
 rcases Int.lt_or_eq_of_le h1 with h2|h2
 ·exact h2
 ·exact absurd (dF.ray h ha hx hs.mem ea ex (hs.ext h hx) hxa hya h2.symm) hs.ne.symm
theorem FO(h:Flat n P on){a x y z:Nat}(ha:a∈on)(hx:x∈on)(hz:z∈on)(hs:Side n P on x y)(ez:dF P on z)(h1:0<T n (wy P a x) (wy P a z))(h2:0<T n (wy P a z) (wy P a y)):False:=by
 obtain⟨f,hf⟩:=ez
 have hza:a≠z:=fun e=>by subst e;simp[T,dot,cross,wy,sub] at h2
 have hzx:x≠z:=fun e=>by
  subst e
  have:T n (wy P a x) (wy P a x)=0:=by simp only[T,dot,cross];grind
  omega
 have hzy:y≠z:=fun e=>by
  subst e
  have:T n (wy P a y) (wy P a y)=0:=by simp only[T,dot,cross];grind
  omega
 have f1:=hf a ha hza
 have f2:=hf x hx hzx
 have f3:=hf y hs.mem hzy
 have h3:=(hs.all z hz).1
 have e:dot n n*(T n (wy P x y) (wy P x z)*dot f (wy P z a)+T n (wy P a z) (wy P a y)*dot f (wy P z x)+T n (wy P a x) (wy P a z)*dot f (wy P z y))=0:=by
  have p1:=h.pl z hz a ha
  have p2:=h.pl z hz x hx
  have p3:=h.pl z hz y hs.mem
  have e1:T n (wy P x y) (wy P x z)=T n (wy P z x) (wy P z y):=Hi z x y
  have e2:T n (wy P a z) (wy P a y)=T n (wy P z y) (wy P z a):=by simp only[T,dot,cross,wy,sub];grind
  have e3:T n (wy P a x) (wy P a z)=T n (wy P z a) (wy P z x):=by simp only[T,dot,cross,wy,sub];grind
  rw[e1,e2,e3]
  have pk:=vi h.nz f p1 p2 p3
  rw[Int.mul_comm (dot f (wy P z a)),Int.mul_comm (dot f (wy P z x)),Int.mul_comm (dot f (wy P z y))] at pk
  rw[show T n (wy P z x) (wy P z y)*dot f (wy P z a)+T n (wy P z y) (wy P z a)*dot f (wy P z x)+T n (wy P z a) (wy P z x)*dot f (wy P z y)=0 from pk,Int.mul_zero]
 have e':=aO (aM h.nz) e
 have m1:=Int.mul_nonneg h3 (Int.le_of_lt f1)
 have m2:=Int.mul_pos h2 f2
 have m3:=Int.mul_pos h1 f3
 omega
theorem tO{α:Type}{p q:α->Bool}:∀ {l:List α},(∀ x∈l,p x=true->q x=true)->(∃ y∈l,q y=true/\p y=false)->l.countP p<l.countP q
 | [],_,h=>by obtain⟨y,hy,_⟩:=h;cases hy
 | a::l,h,hy=>by
  have hl:l.countP p<=l.countP q:=by
   have h':∀ x∈l,p x=true->q x=true:=fun x hx=>h x (List.mem_cons_of_mem _ hx)
   exact List.countP_mono_left h'
  have ha:=h a List.mem_cons_self
  rw[List.countP_cons,List.countP_cons]
  obtain⟨y,hm,hq,hp⟩:=hy
  rcases List.mem_cons.1 hm with rfl|hm
  ·simp[hq,hp];omega
  ·have:=tO (l:=l) (fun x hx=>h x (List.mem_cons_of_mem _ hx)) ⟨y,hm,hq,hp⟩
   cases hpa:p a
   ·simp;omega
   ·simp[ha hpa];omega
inductive Chain(S:Nat->Nat->Prop)(a₀:Nat):Nat->List Nat->Prop
 | done {c:Nat}:S c a₀->Chain S a₀ c [c]
 | step {c y:Nat} {l:List Nat}:S c y->y≠a₀->Chain S a₀ y l->Chain S a₀ c (c::l)
theorem walk(h:Flat n P on){a:Nat}(ha:a∈on)(ea:dF P on a)(hnext:∀ c∈on,dF P on c->∃ b,Side n P on c b){c:Nat}(hc:c∈on)(ec:dF P on c)(hca:c≠a) :
  ∃ l,Chain (Side n P on) a c l/\(∀ z∈l,z∈on/\dF P on z/\z≠a/\(z=c\/0<T n (wy P a c) (wy P a z)))/\(∀ z∈on,dF P on z->z≠a->0<T n (wy P a c) (wy P a z)->z∈l) ∧
   l.Pairwise (fun x y=>0<T n (wy P a x) (wy P a y)):=by
 generalize hm:on.countP (fun z=>decide (0<T n (wy P a c) (wy P a z)))=m
 induction m using Nat.strongRecOn generalizing c with
 | _ m ih=>
  obtain⟨y,hy⟩:=hnext c hc ec
  obtain⟨f,hf⟩:=ea
  by_cases hya:y=a
  ·subst hya
   refine⟨[c],.done hy,fun z hz=>?_,fun z hz ez hza ht=>?_,by simp⟩
   ·rw[List.mem_singleton] at hz;subst hz;exact⟨hc,ec,hca,.inl rfl⟩
   ·have h1:=(hy.all z hz).1
    have e:T n (wy P c y) (wy P c z)=- T n (wy P y c) (wy P y z):=by simp only[T,dot,cross,wy,sub];grind
    omega
  ·have hxy:=Side.after h ha hc ⟨f,hf⟩ ec hca hy hya
   have ey:=hy.ext h hc
   have tr:∀ z∈on,0<T n (wy P a y) (wy P a z)->0<T n (wy P a c) (wy P a z):=fun z hz ht=>by
    have hza:z≠a:=fun e=>by
     subst e
     have:T n (wy P z y) (wy P z z)=0:=by simp[T,dot,cross,wy,sub]
     omega
    exact(At h.nz (h.pl a ha c hc) (h.pl a ha y hy.mem) (h.pl a ha z hz) (hf c hc hca) (hf y hy.mem hya) (hf z hz hza) (Int.le_of_lt hxy) (Int.le_of_lt ht)).2 (.inl hxy)
   have self0:T n (wy P a y) (wy P a y)=0:=by simp only[T,dot,cross];grind
   obtain⟨l,k1,k2,k3,k4⟩:=ih _ (by
    rw[<-hm]
    refine tO (fun z hz ht=>by simp only[decide_eq_true_eq] at ht ⊢;exact tr z hz ht) ⟨y,hy.mem,by simpa using hxy,by simp[self0]⟩) hy.mem ey hya rfl
   refine⟨c::l,.step hy hya k1,fun z hz=>?_,fun z hz ez hza ht=>?_,List.pairwise_cons.2 ⟨fun z hz=>?_,k4⟩⟩
   ·rcases List.mem_cons.1 hz with rfl|hz
    ·exact⟨hc,ec,hca,.inl rfl⟩
    ·obtain⟨q1,q2,q3,q4⟩:=k2 z hz
     refine⟨q1,q2,q3,.inr ?_⟩
     rcases q4 with rfl|q4
     ·exact hxy
     ·exact tr z q1 q4
   ·rcases Int.lt_trichotomy (T n (wy P a y) (wy P a z)) 0 with hlt|heq|hgt
    ·have e:=wE (n:=n) (wy P a y) (wy P a z)
     exact(FO h ha hc hz hy ez ht (by omega)).elim
    ·have:=dF.ray h ha hy.mem hz ⟨f,hf⟩ ey ez hya hza heq
     subst this
     have:y∈l:=by cases k1<;>exact List.mem_cons_self
     exact List.mem_cons_of_mem _ this
    ·exact List.mem_cons_of_mem _ (k3 z hz ez hza hgt)
   ·obtain⟨q1,q2,q3,q4⟩:=k2 z hz
    rcases q4 with rfl|q4
    ·exact hxy
    ·exact tr z q1 q4
def oH(n:V)(P:Nat->V)(a b k:Nat):Bool:=
 decide (T n (wy P a b) (wy P a k)<0)||(decide (T n (wy P a b) (wy P a k)=0)&&decide (dot (wy P a b) (wy P a b)<dot (wy P a k) (wy P a k)))
def cP(n:V)(P:Nat->V)(a:Nat)(best:Option Nat)(k:Nat):Option Nat:=
 if k=a then best else match best with
  | none=>some k
  | some b=>if oH n P a b k then some k else some b
theorem oT(h:Flat n P on){a:Nat}(ha:a∈on)(ea:dF P on a):∀ (l pre:List Nat) (best:Option Nat),(∀ x∈pre,x∈on)->(∀ x∈l,x∈on) ->
  (match best with
   | none=>∀ x∈pre,x=a
   | some b=>b∈pre/\b≠a/\∀ x∈pre,x≠a->0<T n (wy P a b) (wy P a x)\/(T n (wy P a b) (wy P a x)=0/\dot (wy P a x) (wy P a x)<=dot (wy P a b) (wy P a b))) ->
  match l.foldl (cP n P a) best with
   | none=>∀ x∈pre++l,x=a
   | some b=>b∈pre++l/\b≠a/\∀ x∈pre++l,x≠a->0<T n (wy P a b) (wy P a x)\/(T n (wy P a b) (wy P a x)=0/\dot (wy P a x) (wy P a x)<=dot (wy P a b) (wy P a b))
 | [],pre,best,_,_,hb=>by simpa using hb
 | k::l,pre,best,h1,h2,hb=>by
  rw[List.foldl_cons]
  have hk:k∈on:=h2 k List.mem_cons_self
  rw[show pre++k::l=(pre++[k])++l by simp]
  refine oT h ha ea l (pre++[k]) _ (fun x hx=>?_) (fun x hx=>h2 x (List.mem_cons_of_mem _ hx)) ?_
  ·rcases List.mem_append.1 hx with hx|hx
   ·exact h1 x hx
   ·rw[List.mem_singleton] at hx;exact hx ▸ hk
  unfold cP
  by_cases hka:k=a
  ·rw[if_pos hka]
   subst hka
   cases best with
   | none=>
    simp only at hb ⊢
    intro x hx
    rcases List.mem_append.1 hx with hx|hx
    ·exact hb x hx
    ·exact List.mem_singleton.1 hx
   | some b=>
    simp only at hb ⊢
    refine⟨List.mem_append_left _ hb.1,hb.2.1,fun x hx hxa=>?_⟩
    rcases List.mem_append.1 hx with hx|hx
    ·exact hb.2.2 x hx hxa
    ·exact absurd (List.mem_singleton.1 hx) hxa
  ·rw[if_neg hka]
   cases best with
   | none=>
    simp only at hb ⊢
    refine⟨List.mem_append_right _ (List.mem_singleton.2 rfl),hka,fun x hx hxa=>?_⟩
    rcases List.mem_append.1 hx with hx|hx
    ·exact absurd (hb x hx) hxa
    ·rw[List.mem_singleton.1 hx]
     right
     exact⟨by simp only[T,dot,cross];grind,Int.le_refl _⟩
   | some b=>
    simp only at hb ⊢
    obtain⟨b1,b2,b3⟩:=hb
    have hbon:=h1 b b1
    obtain⟨f,hf⟩:=ea
    by_cases hbt:oH n P a b k=true
    ·rw[if_pos hbt]
     simp only
     refine⟨List.mem_append_right _ (List.mem_singleton.2 rfl),hka,fun x hx hxa=>?_⟩
     have sw:=wE (n:=n) (wy P a b) (wy P a k)
     simp only[oH,Bool.or_eq_true,Bool.and_eq_true,decide_eq_true_eq] at hbt
     rcases List.mem_append.1 hx with hx|hx
     ·have hxon:=h1 x hx
      have c:=b3 x hx hxa
      have nn1:0<=T n (wy P a k) (wy P a b):=by omega
      have nn2:0<=T n (wy P a b) (wy P a x):=by omega
      obtain⟨t1,t2⟩:=At h.nz (h.pl a ha k hk) (h.pl a ha b hbon) (h.pl a ha x hxon) (hf k hk hka) (hf b hbon b2) (hf x hxon hxa) nn1 nn2
      rcases Int.lt_or_eq_of_le t1 with hlt|heq
      ·exact .inl hlt
      ·right
       refine⟨heq.symm,?_⟩
       have:¬ (0<T n (wy P a k) (wy P a b)\/0<T n (wy P a b) (wy P a x)):=fun hh=>by have:=t2 hh;omega
       omega
     ·rw[List.mem_singleton.1 hx]
      right
      exact⟨by simp only[T,dot,cross];grind,Int.le_refl _⟩
    ·rw[if_neg hbt]
     simp only
     refine⟨List.mem_append_left _ b1,b2,fun x hx hxa=>?_⟩
     rcases List.mem_append.1 hx with hx|hx
     ·exact b3 x hx hxa
     ·rw[List.mem_singleton.1 hx]
      simp only[oH,Bool.or_eq_true,Bool.and_eq_true,decide_eq_true_eq] at hbt
      omega
theorem lm(h:Flat n P on){a:Nat}(ha:a∈on)(ea:dF P on a)(h2:∃ x∈on,x≠a):∃ b,on.foldl (cP n P a) none=some b/\Side n P on a b:=by
 have key:=oT h ha ea on [] none (by simp) (fun x hx=>hx) (by simp)
 cases hr:on.foldl (cP n P a) none with
 | none=>
  rw[hr] at key
  obtain⟨x,hx,hxa⟩:=h2
  exact absurd (key x (by simpa using hx)) hxa
 | some b=>
  rw[hr] at key
  simp only[List.nil_append] at key
  obtain⟨k1,k2,k3⟩:=key
  refine⟨b,rfl,k1,k2,fun x hx=>?_⟩
  by_cases hxa:x=a
  ·subst hxa
   have e:wy P x x=zero:=by simp[wy,sub,zero]
   have:T n (wy P x b) (wy P x x)=0:=by rw[e];simp[T,dot,cross,zero]
   have hp:=iG (wy P x b)
   have e2:dot (wy P x x) (wy P x b)=0:=by rw[e];simp[dot,zero]
   rw[this,e2]
   exact⟨Int.le_refl _,fun _=>⟨Int.le_refl _,hp⟩⟩
  ·have c:=k3 x hx hxa
   refine⟨by omega,fun t0=>?_⟩
   have c2:dot (wy P a x) (wy P a x)<=dot (wy P a b) (wy P a b):=by omega
   obtain⟨f,hf⟩:=ea
   have hx0:=de h.nz (h.pl a ha b k1) (h.pl a ha x hx) t0
   have p:=Ca hx0 f
   have fb:=hf b k1 k2
   have fx:=hf x hx hxa
   have hbp:=aM (ph h ha k1 k2)
   have q1:dot f (wy P a b)*dot (wy P a x) (wy P a b)=dot f (wy P a x)*dot (wy P a b) (wy P a b):=by
    have p1:=congrArg V.x p;have p2:=congrArg V.y p;have p3:=congrArg V.z p
    simp only[smul] at p1 p2 p3
    generalize dot f (wy P a b)=A at *
    generalize dot f (wy P a x)=B at *
    simp only[dot];grind
   have hpos:0<dot (wy P a x) (wy P a b):=lM fb (by rw[q1];exact Int.mul_pos fx hbp)
   refine⟨Int.le_of_lt hpos,?_⟩
   have q2:dot (wy P a b) (wy P a b)*dot (wy P a x) (wy P a x)=dot (wy P a x) (wy P a b)*dot (wy P a x) (wy P a b):=by
    have p:=Ca hx0 (wy P a b)
    have p1:=congrArg V.x p;have p2:=congrArg V.y p;have p3:=congrArg V.z p
    simp only[smul] at p1 p2 p3
    simp only[dot] at *;grind
   generalize dot (wy P a b) (wy P a b)=B at *
   generalize dot (wy P a x) (wy P a x)=X at *
   generalize dot (wy P a x) (wy P a b)=D at *
   rcases Int.lt_or_le B D with hlt|hle
   ·exfalso
    have a1:B*X<=B*B:=Int.mul_le_mul_of_nonneg_left c2 (Int.le_of_lt hbp)
    have a2:B*B<B*D:=Int.mul_lt_mul_of_pos_left hlt hbp
    have a3:B*D<D*D:=Int.mul_lt_mul_of_pos_right hlt hpos
    omega
   ·exact hle
end poly
open V
def aB(a b:V):Prop:=a.x<b.x\/a.x=b.x/\(a.y<b.y\/a.y=b.y/\a.z<b.z)
theorem B2{P:Nat->V}{on:List Nat}{a:Nat}(h:∀ x∈on,x≠a->aB (P a) (P x)):dF P on a:=by
 obtain⟨N1,p1,b1⟩:=dI (fun x=>(wy P a x).y) on
 obtain⟨N2,p2,b2⟩:=dI (fun x=>(wy P a x).z) on
 refine⟨⟨(N1+N2)*(N1+N2)+(N1+N2),N1+N2,1⟩,fun x hx hxa=>?_⟩
 have c1:=b1 x hx
 have c2:=b2 x hx
 have hl:=h x hx hxa
 simp only[wy,sub,aB,dot] at *
 generalize hX:(P x).x-(P a).x=X at *
 generalize hY:(P x).y-(P a).y=Y at *
 generalize hZ:(P x).z-(P a).z=Z at *
 generalize hN:N1+N2=N
 have hN0:0<N:=by omega
 have hY1:-N+1<=Y:=by omega
 have hY2:Y<=N-1:=by omega
 have hZ1:-N+1<=Z:=by omega
 have m1:N*(-N+1)<=N*Y:=Int.mul_le_mul_of_nonneg_left hY1 (Int.le_of_lt hN0)
 have m2:N*(-N+1)=-(N*N)+N:=by grind
 have hNN:0<N*N:=Int.mul_pos hN0 hN0
 rcases hl with hl|⟨h1,hl|⟨h2,hl⟩⟩
 ·have hX1:1<=X:=by omega
  have m3:(N*N+N)*1<=(N*N+N)*X:=Int.mul_le_mul_of_nonneg_left hX1 (by omega)
  omega
 ·have hX0:X=0:=by omega
  have hY3:1<=Y:=by omega
  have m3:N*1<=N*Y:=Int.mul_le_mul_of_nonneg_left hY3 (by omega)
  subst hX0
  simp only[Int.mul_zero]
  omega
 ·have hX0:X=0:=by omega
  have hY0:Y=0:=by omega
  subst hX0;subst hY0
  simp only[Int.mul_zero]
  omega
section poly
variable{n:V}{P:Nat->V}{on:List Nat}
theorem Chain.head{S:Nat->Nat->Prop}{a c:Nat}{l:List Nat}(h:Chain S a c l):∃ l',l=c::l':=by
 cases h<;>exact⟨_,rfl⟩
theorem Chain.pairs{S:Nat->Nat->Prop}{a:Nat}:∀ {c:Nat} {l:List Nat},Chain S a c l->∀ i x,l[i]?=some x->∃ y,(l++[a])[i+1]?=some y/\S x y
 | c,_,.done h,i,x,hx=>by
  cases i with
  | zero=>simp at hx;subst hx;exact⟨a,by simp,h⟩
  | succ i=>simp at hx
 | c,_,.step (y:=y) (l:=l) h hne k,i,x,hx=>by
  cases i with
  | zero=>
   simp at hx;subst hx
   obtain⟨l',rfl⟩:=k.head
   exact⟨y,by simp,h⟩
  | succ i=>
   obtain⟨z,h1,h2⟩:=Chain.pairs k i x (by simpa using hx)
   exact⟨z,by simpa using h1,h2⟩
theorem yx(h:Flat n P on){a:Nat}(ha:a∈on)(ea:dF P on a)(h3:∀ c∈on,∃ x∈on,x≠c) :
  ∃ l,Chain (Side n P on) a a l/\l.Nodup/\(∀ z∈l,z∈on/\dF P on z)/\∀ z∈on,dF P on z->z∈l:=by
 have hnext:∀ c∈on,dF P on c->∃ b,Side n P on c b:=fun c hc ec=>by
  obtain⟨b,_,hb⟩:=lm h hc ec (h3 c hc)
  exact⟨b,hb⟩
 obtain⟨c,hs⟩:=hnext a ha ea
 have ec:=hs.ext h ha
 obtain⟨l,k1,k2,k3,k4⟩:=walk h ha ea hnext hs.mem ec hs.ne
 refine⟨a::l,.step hs hs.ne k1,List.nodup_cons.2 ⟨fun hm=>(k2 a hm).2.2.1 rfl,?_⟩,fun z hz=>?_,fun z hz ez=>?_⟩
 ·refine List.Pairwise.imp (fun{x y} hxy e=>?_) k4
  subst e
  have:T n (wy P a x) (wy P a x)=0:=by simp only[T,dot,cross];grind
  omega
 ·rcases List.mem_cons.1 hz with rfl|hz
  ·exact⟨ha,ea⟩
  ·exact⟨(k2 z hz).1,(k2 z hz).2.1⟩
 ·by_cases hza:z=a
  ·subst hza;exact List.mem_cons_self
  ·refine List.mem_cons_of_mem _ ?_
   have h0:=(hs.all z hz).1
   rcases Int.lt_or_eq_of_le h0 with hp|he
   ·exact k3 z hz ez hza hp
   ·have:=dF.ray h ha hs.mem hz ea ec ez hs.ne hza he.symm
    subst this
    obtain⟨l',rfl⟩:=k1.head
    exact List.mem_cons_self
end poly
def sg(x:Int):Int:=if x<0 then -1 else if 0<x then 1 else 0
theorem ru(a b:Int):sg a*sg b=sg (a*b):=by
 rcases Int.lt_trichotomy a 0 with h|h|h<;>rcases Int.lt_trichotomy b 0 with k|k|k
 ·have:=Int.mul_pos_of_neg_of_neg h k;simp[sg,h,k,this,Int.not_lt.2 (Int.le_of_lt this)]
 ·subst k;simp[sg]
 ·have:=Int.mul_neg_of_neg_of_pos h k;simp[sg,h,k,this,Int.not_lt.2 (Int.le_of_lt k)]
 ·subst h;simp[sg]
 ·subst h;simp[sg]
 ·subst h;simp[sg]
 ·have:=Int.mul_neg_of_pos_of_neg h k;simp[sg,h,k,this,Int.not_lt.2 (Int.le_of_lt h)]
 ·subst k;simp[sg]
 ·have:=Int.mul_pos h k;simp[sg,h,k,this,Int.not_lt.2 (Int.le_of_lt h),Int.not_lt.2 (Int.le_of_lt k),Int.not_lt.2 (Int.le_of_lt this)]
theorem lU{x:Int}(h:0<x):sg x=1:=by simp[sg,h,Int.not_lt.2 (Int.le_of_lt h)]
theorem uS{x:Int}(h:x<0):sg x=-1:=by simp[sg,h]
def AD(n c:V):Int:=if n.x≠0 then sg n.x*sg c.x else if n.y≠0 then sg n.y*sg c.y else if n.z≠0 then sg n.z*sg c.z else 0
theorem qh{a b p:Int}(hp:0<p){q:Int}(hq:0<q)(h:a*p=q*b):sg a=sg b:=by
 have h1:sg (a*p)=sg a:=by rw[<-ru,lU hp];simp
 have h2:sg (q*b)=sg b:=by rw[<-ru,lU hq];simp
 rw[<-h1,<-h2,h]
theorem FQ{n c:V}(hn:n≠zero)(h:cross n c=zero):AD n c=sg (dot n c):=by
 have h1:=congrArg V.x h;have h2:=congrArg V.y h;have h3:=congrArg V.z h
 simp only[cross,zero] at h1 h2 h3
 have hp:=aM hn
 have e1:n.x*c.x*dot n n=n.x*n.x*dot n c:=by simp only[dot];grind
 have e2:n.y*c.y*dot n n=n.y*n.y*dot n c:=by simp only[dot];grind
 have e3:n.z*c.z*dot n n=n.z*n.z*dot n c:=by simp only[dot];grind
 unfold AD
 split
 ·rename_i k;rw[ru];exact qh hp (yt k) e1
 ·split
  ·rename_i k;rw[ru];exact qh hp (yt k) e2
  ·split
   ·rename_i k;rw[ru];exact qh hp (yt k) e3
   ·rename_i k1 k2 k3
    exact absurd (V.ext' (by simpa [zero] using k1) (by simpa [zero] using k2) (by simpa [zero] using k3)) hn
theorem dw{n u v:V}(hu:dot n u=0)(hv:dot n v=0):cross n (cross u v)=zero:=by
 simp only[dot] at hu hv
 apply V.ext'<;>simp only[cross,zero]<;>grind
open V
def aJ(P:Nat->V)(N:Nat)(n:V)(d:Int):List Nat:=(List.range N).filter fun k=>decide (dot n (P k)=d)
def FI(P:Nat->V)(N:Nat)(n:V)(d:Int):Prop:=(∀ k,k<N->dot n (P k)<=d)/\∃ k,k<N/\dot n (P k)<d
def eZ(P:Nat->V)(i j k:Nat):V:=cross (wy P i j) (wy P i k)
def bT(v:V):Nat:=Nat.gcd (Nat.gcd v.x.natAbs v.y.natAbs) v.z.natAbs
def bF(v:V):V:=⟨v.x/bT v,v.y/bT v,v.z/bT v⟩
structure IsF(P:Nat->V)(N:Nat)(n:V)(d:Int):Prop where
 ex:∃ i j k,i<j/\j<k/\k<N/\eZ P i j k≠zero/\(n=bF (eZ P i j k)\/n=neg (bF (eZ P i j k)))/\d=dot n (P i)
 supp:FI P N n d
theorem kp{v:V}(h:v≠zero):0<bT v:=by
 rcases Nat.eq_zero_or_pos (bT v) with e|p
 ·exfalso
  unfold bT at e
  rw[Nat.gcd_eq_zero_iff,Nat.gcd_eq_zero_iff] at e
  exact h (V.ext' (by simp[zero];omega) (by simp[zero];omega) (by simp[zero];omega))
 ·exact p
theorem gT(v:V):v=smul (bT v) (bF v):=by
 have d1:(bT v:Int) ∣ v.x:=Int.ofNat_dvd_left.2 (Nat.dvd_trans (Nat.gcd_dvd_left _ _) (Nat.gcd_dvd_left _ _))
 have d2:(bT v:Int) ∣ v.y:=Int.ofNat_dvd_left.2 (Nat.dvd_trans (Nat.gcd_dvd_left _ _) (Nat.gcd_dvd_right _ _))
 have d3:(bT v:Int) ∣ v.z:=Int.ofNat_dvd_left.2 (Nat.gcd_dvd_right _ _)
 apply V.ext'
 ·exact(Int.mul_ediv_cancel' d1).symm
 ·exact(Int.mul_ediv_cancel' d2).symm
 ·exact(Int.mul_ediv_cancel' d3).symm
theorem oA(k:Nat)(v:V):bT (smul k v)=k*bT v:=by
 simp only[bT,smul,Int.natAbs_mul,Int.natAbs_natCast]
 rw[Nat.gcd_mul_left,Nat.gcd_mul_left]
theorem td{v:V}(h:v≠zero):bT (bF v)=1:=by
 have p:=kp h
 have e:=oA (bT v) (bF v)
 rw[<-gT v] at e
 exact(Nat.eq_of_mul_eq_mul_left p (by omega)).symm
theorem wn(v:V):bT (neg v)=bT v:=by simp[bT,neg]
theorem wI(v:V):bF (neg v)=neg (bF v):=by
 have e:=gT v
 unfold bF
 rw[wn]
 have d1:(bT v:Int) ∣ v.x:=Int.ofNat_dvd_left.2 (Nat.dvd_trans (Nat.gcd_dvd_left _ _) (Nat.gcd_dvd_left _ _))
 have d2:(bT v:Int) ∣ v.y:=Int.ofNat_dvd_left.2 (Nat.dvd_trans (Nat.gcd_dvd_left _ _) (Nat.gcd_dvd_right _ _))
 have d3:(bT v:Int) ∣ v.z:=Int.ofNat_dvd_left.2 (Nat.gcd_dvd_right _ _)
 simp only[neg,Int.neg_ediv_of_dvd d1,Int.neg_ediv_of_dvd d2,Int.neg_ediv_of_dvd d3]
theorem vf{v:V}(h:v≠zero):bF v≠zero:=fun e=>h (by rw[gT v,e];apply V.ext'<;>simp[smul,zero])
theorem rO{u v:V}(hu:bT u=1)(hv:bT v=1){a b:Int}(ha:0<a)(hb:0<b)(h:smul a u=smul b v):u=v:=by
 obtain⟨a,rfl⟩:=Int.eq_ofNat_of_zero_le (Int.le_of_lt ha)
 obtain⟨b,rfl⟩:=Int.eq_ofNat_of_zero_le (Int.le_of_lt hb)
 have e:=oA a u
 have e2:=oA b v
 rw[h,e2,hu,hv] at e
 have:a=b:=by omega
 subst this
 have h1:=congrArg V.x h;have h2:=congrArg V.y h;have h3:=congrArg V.z h
 simp only[smul] at h1 h2 h3
 have hne:(a:Int)≠0:=by omega
 exact V.ext' (Int.eq_of_mul_eq_mul_left hne h1) (Int.eq_of_mul_eq_mul_left hne h2) (Int.eq_of_mul_eq_mul_left hne h3)
section
variable{P:Nat->V}{N:Nat}
theorem IsF.nz{n:V}{d:Int}(h:IsF P N n d):n≠zero/\bT n=1:=by
 obtain⟨i,j,k,_,_,_,h1,h2|h2,_⟩:=h.ex
 ·subst h2;exact⟨vf h1,td h1⟩
 ·subst h2
  refine⟨fun e=>vf h1 ?_,by rw[wn];exact td h1⟩
  have e1:=congrArg V.x e;have e2:=congrArg V.y e;have e3:=congrArg V.z e
  simp only[neg,zero] at e1 e2 e3
  exact V.ext' (by simp only[zero];omega) (by simp only[zero];omega) (by simp only[zero];omega)
theorem ap{n:V}{d:Int}{k:Nat}:k∈aJ P N n d↔k<N/\dot n (P k)=d:=by simp[aJ]
theorem cr(n:V)(i k:Nat):dot n (wy P i k)=dot n (P k)-dot n (P i):=by simp only[dot,wy,sub];grind
theorem IsF.three{n:V}{d:Int}(h:IsF P N n d):∃ i j k,i<j/\j<k/\k<N/\i∈aJ P N n d/\j∈aJ P N n d/\k∈aJ P N n d/\eZ P i j k≠zero:=by
 obtain⟨i,j,k,hij,hjk,hk,h1,h2,h3⟩:=h.ex
 have g:=kp h1
 have e:=gT (eZ P i j k)
 have t1:dot (eZ P i j k) (wy P i j)=0:=by simp only[eZ,dot,cross];grind
 have t2:dot (eZ P i j k) (wy P i k)=0:=by simp only[eZ,dot,cross];grind
 have key:∀ v:V,dot (eZ P i j k) v=0->dot n v=0:=fun v hv=>by
  rw[e] at hv
  have:(bT (eZ P i j k):Int)*dot (bF (eZ P i j k)) v=0:=by rw[<-hv];simp only[dot,smul];grind
  have h0:=aO (by omega) this
  rcases h2 with h2|h2
  ·rw[h2];exact h0
  ·rw[h2]
   have:dot (neg (bF (eZ P i j k))) v=- dot (bF (eZ P i j k)) v:=by simp only[dot,neg];grind
   omega
 have k1:=key _ t1
 have k2:=key _ t2
 rw[cr] at k1 k2
 exact⟨i,j,k,hij,hjk,hk,ap.2 ⟨by omega,by omega⟩,ap.2 ⟨by omega,by omega⟩,ap.2 ⟨hk,by omega⟩,h1⟩
theorem IsF.flat(hl:∀ i j,i<j->j<N->aB (P i) (P j)){n:V}{d:Int}(h:IsF P N n d):Flat n P (aJ P N n d):=by
 refine⟨h.nz.1,fun x hx y hy=>?_,fun x hx y hy e=>?_⟩
 ·have a:=(ap.1 hx).2;have b:=(ap.1 hy).2
  rw[cr];omega
 ·have a:=(ap.1 hx).1;have b:=(ap.1 hy).1
  rcases Nat.lt_trichotomy x y with c|c|c
  ·have:=hl x y c b;rw[e] at this;simp only[aB] at this;omega
  ·exact c
  ·have:=hl y x c a;rw[e] at this;simp only[aB] at this;omega
theorem IsF.left(hl:∀ i j,i<j->j<N->aB (P i) (P j)){n:V}{d:Int}(h:IsF P N n d){a b:Nat}(ha:a∈aJ P N n d)(hs:Side n P (aJ P N n d) a b) :
  ∃ x∈aJ P N n d,0<T n (wy P a b) (wy P a x):=by
 obtain⟨i,j,k,hij,hjk,hk,mi,mj,mk,ht⟩:=h.three
 have F:=h.flat hl
 have key:∀ x∈aJ P N n d,0<T n (wy P a b) (wy P a x)\/cross (wy P a b) (wy P a x)=zero:=fun x hx=>by
  rcases Int.lt_or_eq_of_le (hs.all x hx).1 with h1|h1
  ·exact .inl h1
  ·exact .inr (de F.nz (F.pl a ha b hs.mem) (F.pl a ha x hx) h1.symm)
 rcases key i mi with h1|h1
 ·exact⟨i,mi,h1⟩
 rcases key j mj with h2|h2
 ·exact⟨j,mj,h2⟩
 rcases key k mk with h3|h3
 ·exact⟨k,mk,h3⟩
 exfalso
 apply ht
 have hb:=aM (ph F ha hs.mem hs.ne)
 have p1:=Ca h1 (wy P a b);have p2:=Ca h2 (wy P a b);have p3:=Ca h3 (wy P a b)
 have w1:wy P i j=sub (wy P a j) (wy P a i):=by apply V.ext'<;>simp only[wy,sub]<;>omega
 have w2:wy P i k=sub (wy P a k) (wy P a i):=by apply V.ext'<;>simp only[wy,sub]<;>omega
 unfold eZ
 rw[w1,w2]
 generalize wy P a b=e at *
 generalize wy P a i=u at *
 generalize wy P a j=v at *
 generalize wy P a k=w at *
 generalize dot e u=A at *
 generalize dot e v=B at *
 generalize dot e w=C at *
 generalize dot e e=D at *
 have q1:=congrArg V.x p1;have q2:=congrArg V.y p1;have q3:=congrArg V.z p1
 have r1:=congrArg V.x p2;have r2:=congrArg V.y p2;have r3:=congrArg V.z p2
 have s1:=congrArg V.x p3;have s2:=congrArg V.y p3;have s3:=congrArg V.z p3
 simp only[smul] at q1 q2 q3 r1 r2 r3 s1 s2 s3
 have hDD:0<D*D:=Int.mul_pos hb hb
 apply V.ext'<;>simp only[cross,sub,zero]<;>refine aO hDD ?_<;>grind
theorem far{n e:V}(he:dot n e=0){w:Nat->V}:∀ l:List Nat,l≠[]->(∀ y∈l,dot n (w y)<0)->∃ y∈l,∀ x∈l,0<=dot e (cross (w y) (w x))
 | [],h,_=>absurd rfl h
 | [y],_,hn=>⟨y,List.mem_cons_self,fun x hx=>by
   rw[List.mem_singleton.1 hx]
   have:dot e (cross (w y) (w y))=0:=by simp only[dot,cross];grind
   omega⟩
 | z::y'::l,_,hn=>by
  obtain⟨y,hy,hmax⟩:=far he (y'::l) (by simp) (fun y hy=>hn y (List.mem_cons_of_mem _ hy))
  have self:∀ v:V,dot e (cross v v)=0:=fun v=>by simp only[dot,cross];grind
  have sw:∀ u v:V,dot e (cross v u)=- dot e (cross u v):=fun u v=>by simp only[dot,cross];grind
  have pl:∀ x y z:V,dot n x*dot e (cross y z)=dot n z*dot e (cross y x)+dot n y*dot e (cross x z):=fun x y z=>by
   have:dot n x*dot e (cross y z)-(dot n z*dot e (cross y x)+dot n y*dot e (cross x z))=dot n e*dot x (cross y z):=by simp only[dot,cross];grind
   rw[he] at this;omega
  rcases Int.lt_or_le (dot e (cross (w y) (w z))) 0 with hlt|hge
  ·refine⟨z,List.mem_cons_self,fun x hx=>?_⟩
   rcases List.mem_cons.1 hx with rfl|hx
   ·have:=self (w x);omega
   ·have h1:=hmax x hx
    have h2:=pl (w y) (w z) (w x)
    have n1:=hn y (List.mem_cons_of_mem _ hy)
    have n2:=hn z List.mem_cons_self
    have n3:=hn x (List.mem_cons_of_mem _ hx)
    have h3:=sw (w y) (w z)
    have a1:dot n (w x)*dot e (cross (w z) (w y))<=0:=Int.mul_nonpos_of_nonpos_of_nonneg (Int.le_of_lt n3) (by omega)
    have a2:dot n (w z)*dot e (cross (w y) (w x))<=0:=Int.mul_nonpos_of_nonpos_of_nonneg (Int.le_of_lt n2) h1
    have a3:0<=(-(dot n (w y)))*dot e (cross (w z) (w x)):=by rw[Int.neg_mul];omega
    exact tg (by omega) a3
  ·refine⟨y,List.mem_cons_of_mem _ hy,fun x hx=>?_⟩
   rcases List.mem_cons.1 hx with rfl|hx
   ·exact hge
   ·exact hmax x hx
theorem yi{p q r:Nat}(hp:p<N)(hq:q<N)(hr:r<N)(h1:p≠q)(h2:p≠r)(h3:q≠r){m:V}(hm:m=eZ P p q r)(hle:∀ x,x<N->dot m (wy P p x)<=0)(hlt:∃ x,x<N/\dot m (wy P p x)<0) :
  ∃ n',∃ g:Int,0<g/\m=smul g n'/\IsF P N n' (dot n' (P p)):=by
 have hm0:m≠zero:=fun e=>by
  obtain⟨x,_,hx⟩:=hlt
  rw[e] at hx;simp[dot,zero] at hx
 have hg:=kp hm0
 have e:=gT m
 refine⟨bF m,bT m,by omega,e,?_,?_⟩
 ·have perm:∀ i j k,i<j->j<k->k<N->(m=eZ P i j k\/m=neg (eZ P i j k))->(dot (bF m) (wy P i p)=0)->∃ i j k,i<j/\j<k/\k<N/\eZ P i j k≠zero/\(bF m=bF (eZ P i j k)\/bF m=neg (bF (eZ P i j k)))/\dot (bF m) (P p)=dot (bF m) (P i):=by
   intro i j k hij hjk hk hmm hd
   rw[cr] at hd
   refine⟨i,j,k,hij,hjk,hk,fun e0=>hm0 ?_,?_,by omega⟩
   ·rcases hmm with hmm|hmm
    ·rw[hmm,e0]
    ·rw[hmm,e0];rfl
   ·rcases hmm with hmm|hmm
    ·exact .inl (by rw[hmm])
    ·exact .inr (by rw[hmm,wI])
  have dz:∀ v:V,dot m v=0->dot (bF m) v=0:=fun v hv=>by
   have:(bT m:Int)*dot (bF m) v=0:=by
    rw[<-hv]
    conv=>rhs;rw[e]
    simp only[dot,smul];grind
   exact aO (by omega) this
  have z1:dot (bF m) (wy P p p)=0:=dz _ (by simp only[dot,wy,sub];grind)
  have z2:dot (bF m) (wy P q p)=0:=dz _ (by rw[hm];simp only[dot,eZ,cross,wy,sub];grind)
  have z3:dot (bF m) (wy P r p)=0:=dz _ (by rw[hm];simp only[dot,eZ,cross,wy,sub];grind)
  rcases Nat.lt_or_gt_of_ne h1 with a1|a1<;>rcases Nat.lt_or_gt_of_ne h2 with a2|a2<;>rcases Nat.lt_or_gt_of_ne h3 with a3|a3
  ·exact perm p q r a1 a3 hr (.inl hm) z1
  ·exact perm p r q a2 a3 hq (.inr (by rw[hm];apply V.ext'<;>simp only[eZ,neg,cross,wy,sub]<;>grind)) z1
  ·omega
  ·exact perm r p q a2 a1 hq (.inl (by rw[hm];apply V.ext'<;>simp only[eZ,neg,cross,wy,sub]<;>grind)) z3
  ·exact perm q p r a1 a2 hr (.inr (by rw[hm];apply V.ext'<;>simp only[eZ,neg,cross,wy,sub]<;>grind)) z2
  ·omega
  ·exact perm q r p a3 a2 hp (.inl (by rw[hm];apply V.ext'<;>simp only[eZ,neg,cross,wy,sub]<;>grind)) z2
  ·exact perm r q p a3 a1 hp (.inr (by rw[hm];apply V.ext'<;>simp only[eZ,neg,cross,wy,sub]<;>grind)) z3
 ·have sc:∀ v:V,dot m v=(bT m:Int)*dot (bF m) v:=fun v=>by
   conv=>lhs;rw[e]
   simp only[dot,smul];grind
  refine⟨fun x hx=>?_,?_⟩
  ·have h:=hle x hx
   rw[sc,cr] at h
   rcases Int.lt_or_le (dot (bF m) (P p)) (dot (bF m) (P x)) with k|k
   ·have:=Int.mul_pos (a:=(bT m:Int)) (b:=dot (bF m) (P x)-dot (bF m) (P p)) (by omega) (by omega)
    omega
   ·exact k
  ·obtain⟨x,hx,h⟩:=hlt
   rw[sc,cr] at h
   refine⟨x,hx,?_⟩
   rcases Int.lt_or_le (dot (bF m) (P x)) (dot (bF m) (P p)) with k|k
   ·exact k
   ·have:=Int.mul_nonneg (a:=(bT m:Int)) (b:=dot (bF m) (P x)-dot (bF m) (P p)) (by omega) (by omega)
    omega
end
open V
section
variable{P:Nat->V}{N:Nat}
theorem yU(hl:∀ i j,i<j->j<N->aB (P i) (P j)){n:V}{d:Int}(h:IsF P N n d){a b:Nat}(ha:a∈aJ P N n d)(hs:Side n P (aJ P N n d) a b) :
  ∃ n' d',IsF P N n' d'/\a∈aJ P N n' d'/\b∈aJ P N n' d'/\Side n' P (aJ P N n' d') b a:=by
 have F:=h.flat hl
 have haN:=(ap.1 ha).1
 have had:=(ap.1 ha).2
 have hbN:=(ap.1 hs.mem).1
 have he:dot n (wy P a b)=0:=F.pl a ha b hs.mem
 obtain⟨x1,hx1,hT1⟩:=h.left hl ha hs
 have hx1n:dot n (wy P a x1)=0:=F.pl a ha x1 hx1
 have hle:∀ x,x<N->dot n (wy P a x)<=0:=fun x hx=>by rw[cr];have:=h.supp.1 x hx;omega
 have hnn:=aM F.nz
 obtain⟨z,hzN,hz⟩:=h.supp.2
 obtain⟨y,hy,hfar⟩:=far (w:=wy P a) he ((List.range N).filter fun k=>decide (dot n (wy P a k)<0)) (List.ne_nil_of_mem (a:=z) (by simp[hzN,cr];omega)) (fun y hy=>by simpa using(List.mem_filter.1 hy).2)
 have hyN:y<N:=by simpa using(List.mem_filter.1 hy).1
 have hyn:dot n (wy P a y)<0:=by simpa using(List.mem_filter.1 hy).2
 have hfar':∀ x,x<N->dot n (wy P a x)<0->0<=dot (wy P a b) (cross (wy P a y) (wy P a x)):=fun x hx hn=>hfar x (by simp[hx,hn])
 have onpl:∀ u v:V,dot n u=0->dot n v=0->∀ y:V,dot n n*dot (cross u v) y=dot n (cross u v)*dot n y:=fun u v hu hv y=>by
  have c:=dw hu hv
  have c1:=congrArg V.x c;have c2:=congrArg V.y c;have c3:=congrArg V.z c
  generalize cross u v=k at *
  simp only[cross,zero] at c1 c2 c3
  simp only[dot];grind
 have mdot:∀ v:V,dot (cross (wy P a y) (wy P a b)) v=- dot (wy P a b) (cross (wy P a y) v):=fun v=>by simp only[dot,cross];grind
 have mdot2:∀ v:V,dot (cross (wy P a y) (wy P a b)) v=dot (cross (wy P a b) v) (wy P a y):=fun v=>by simp only[dot,cross];grind
 have mon:∀ x∈aJ P N n d,dot n n*dot (cross (wy P a y) (wy P a b)) (wy P a x)=T n (wy P a b) (wy P a x)*dot n (wy P a y):=fun x hx=>by
  rw[mdot2];exact onpl _ _ he (F.pl a ha x hx) _
 have mle:∀ x,x<N->dot (cross (wy P a y) (wy P a b)) (wy P a x)<=0:=fun x hx=>by
  rcases Int.lt_or_eq_of_le (hle x hx) with k|k
  ·rw[mdot];have:=hfar' x hx k;omega
  ·have hxm:x∈aJ P N n d:=ap.2 ⟨hx,by rw[cr] at k;omega⟩
   have e:=mon x hxm
   have t:=(hs.all x hxm).1
   have:T n (wy P a b) (wy P a x)*dot n (wy P a y)<=0:=Int.mul_nonpos_of_nonneg_of_nonpos t (Int.le_of_lt hyn)
   rcases Int.lt_or_le 0 (dot (cross (wy P a y) (wy P a b)) (wy P a x)) with q|q
   ·have:=Int.mul_pos hnn q;omega
   ·exact q
 have mlt:dot (cross (wy P a y) (wy P a b)) (wy P a x1)<0:=by
  have e:=mon x1 hx1
  have:T n (wy P a b) (wy P a x1)*dot n (wy P a y)<0:=Int.mul_neg_of_pos_of_neg hT1 hyn
  rcases Int.lt_or_le (dot (cross (wy P a y) (wy P a b)) (wy P a x1)) 0 with q|q
  ·exact q
  ·have:=Int.mul_nonneg (Int.le_of_lt hnn) q;omega
 have hya:a≠y:=fun e=>by subst e;rw[show dot n (wy P a a)=0 by simp only[dot,wy,sub];grind] at hyn;omega
 have hyb:y≠b:=fun e=>by subst e;omega
 obtain⟨n',g,hg,hm,hF⟩:=yi (p:=a) (q:=y) (r:=b) haN hyN hbN hya (Ne.symm hs.ne) hyb rfl mle ⟨x1,(ap.1 hx1).1,mlt⟩
 have sc:∀ v:V,dot (cross (wy P a y) (wy P a b)) v=g*dot n' v:=fun v=>by
  have:eZ P a y b=cross (wy P a y) (wy P a b):=rfl
  rw[<-this,hm];simp only[dot,smul];grind
 have hbe:dot n' (wy P a b)=0:=aO hg (by rw[<-sc];simp only[dot,cross];grind)
 have ham:a∈aJ P N n' (dot n' (P a)):=ap.2 ⟨haN,rfl⟩
 have hbm:b∈aJ P N n' (dot n' (P a)):=ap.2 ⟨hbN,by rw[cr] at hbe;omega⟩
 refine⟨n',_,hF,ham,hbm,ham,Ne.symm hs.ne,fun x hx=>?_⟩
 have hxN:=(ap.1 hx).1
 have hx0:dot n' (wy P a x)=0:=by rw[cr];have:=(ap.1 hx).2;omega
 have mx0:dot (cross (wy P a y) (wy P a b)) (wy P a x)=0:=by rw[sc,hx0,Int.mul_zero]
 have tE:T n' (wy P b a) (wy P b x)=dot n' (cross (wy P a x) (wy P a b)):=by simp only[T,dot,cross,wy,sub];grind
 have dE:dot (wy P b x) (wy P b a)=dot (wy P a b) (wy P a b)-dot (wy P a x) (wy P a b):=by simp only[dot,wy,sub];grind
 have dE2:dot (wy P b a) (wy P b a)=dot (wy P a b) (wy P a b):=by simp only[dot,wy,sub];grind
 rw[tE,dE,dE2]
 rcases Int.lt_or_eq_of_le (hle x hxN) with k|k
 ·
  have c1:dot (cross (wy P a x) (wy P a b)) (wy P a x1)<0:=by
   have e:=onpl (wy P a b) (wy P a x1) he hx1n (wy P a x)
   have e2:dot (cross (wy P a x) (wy P a b)) (wy P a x1)=dot (cross (wy P a b) (wy P a x1)) (wy P a x):=by simp only[dot,cross];grind
   have:T n (wy P a b) (wy P a x1)*dot n (wy P a x)<0:=Int.mul_neg_of_pos_of_neg hT1 k
   rw[e2]
   simp only[T] at this
   rcases Int.lt_or_le (dot (cross (wy P a b) (wy P a x1)) (wy P a x)) 0 with q|q
   ·exact q
   ·have:=Int.mul_nonneg (Int.le_of_lt hnn) q;omega
  have par2:dot n' n'*dot (cross (wy P a x) (wy P a b)) (wy P a x1)=dot n' (cross (wy P a x) (wy P a b))*dot n' (wy P a x1):=by
   have c:=dw hx0 hbe
   have c1:=congrArg V.x c;have c2:=congrArg V.y c;have c3:=congrArg V.z c
   generalize cross (wy P a x) (wy P a b)=k at *
   simp only[cross,zero] at c1 c2 c3
   simp only[dot];grind
  have n'n':=aM hF.nz.1
  have n1:dot n' (wy P a x1)<0:=by
   rw[sc] at mlt
   rcases Int.lt_or_le (dot n' (wy P a x1)) 0 with q|q
   ·exact q
   ·have:=Int.mul_nonneg (Int.le_of_lt hg) q;omega
  have l1:dot n' n'*dot (cross (wy P a x) (wy P a b)) (wy P a x1)<0:=Int.mul_neg_of_pos_of_neg n'n' c1
  have pos:0<dot n' (cross (wy P a x) (wy P a b)):=by
   rcases Int.lt_or_le 0 (dot n' (cross (wy P a x) (wy P a b))) with q|q
   ·exact q
   ·have:=Int.mul_nonneg_of_nonpos_of_nonpos q (Int.le_of_lt n1);omega
  exact⟨Int.le_of_lt pos,fun h0=>by omega⟩
 ·have hxm:x∈aJ P N n d:=ap.2 ⟨hxN,by rw[cr] at k;omega⟩
  have e:=mon x hxm
  rw[mx0,Int.mul_zero] at e
  have t0:T n (wy P a b) (wy P a x)=0:=by
   rcases Int.mul_eq_zero.1 e.symm with q|q
   ·exact q
   ·omega
  have s2:=(hs.all x hxm).2 t0
  have c0:=de F.nz he k t0
  have:dot n' (cross (wy P a x) (wy P a b))=0:=by
   have e2:dot n' (cross (wy P a x) (wy P a b))=- dot n' (cross (wy P a b) (wy P a x)):=by simp only[dot,cross];grind
   rw[e2,c0];simp[dot,zero]
  rw[this]
  exact⟨Int.le_refl _,fun _=>⟨by omega,by omega⟩⟩
theorem xD(hl:∀ i j,i<j->j<N->aB (P i) (P j)){n1 n2:V}{d1 d2:Int}(h1:IsF P N n1 d1)(h2:IsF P N n2 d2){a b:Nat}(ha1:a∈aJ P N n1 d1)(ha2:a∈aJ P N n2 d2)
  (hs1:Side n1 P (aJ P N n1 d1) a b) (hs2:Side n2 P (aJ P N n2 d2) a b):n1=n2:=by
 have F1:=h1.flat hl
 have F2:=h2.flat hl
 obtain⟨x1,hx1,ht1⟩:=h1.left hl ha1 hs1
 obtain⟨x2,hx2,ht2⟩:=h2.left hl ha2 hs2
 have e1:dot n1 (wy P a b)=0:=F1.pl a ha1 b hs1.mem
 have e2:dot n2 (wy P a b)=0:=F2.pl a ha2 b hs2.mem
 have z1:dot n1 (wy P a x1)=0:=F1.pl a ha1 x1 hx1
 have z2:dot n2 (wy P a x2)=0:=F2.pl a ha2 x2 hx2
 have l12:dot n1 (wy P a x2)<=0:=by rw[cr];have:=h1.supp.1 x2 (ap.1 hx2).1;have:=(ap.1 ha1).2;omega
 have l21:dot n2 (wy P a x1)<=0:=by rw[cr];have:=h2.supp.1 x1 (ap.1 hx1).1;have:=(ap.1 ha2).2;omega
 have hp1:=aM F1.nz
 have hp2:=aM F2.nz
 have onpl:∀ (n u v:V),dot n u=0->dot n v=0->smul (dot n n) (cross u v)=smul (dot n (cross u v)) n:=fun n u v hu hv=>by
  have c:=dw hu hv
  have c1:=congrArg V.x c;have c2:=congrArg V.y c;have c3:=congrArg V.z c
  generalize cross u v=k at *
  simp only[cross,zero] at c1 c2 c3
  apply V.ext'<;>simp only[smul,dot]<;>grind
 have dsm:∀ (k:Int) (u v:V),dot (smul k u) v=k*dot u v:=fun k u v=>by simp only[dot,smul];grind
 have k1:dot n1 n1*dot (cross (wy P a b) (wy P a x1)) (wy P a x2)=T n1 (wy P a b) (wy P a x1)*dot n1 (wy P a x2):=by
  have:=congrArg (fun v=>dot v (wy P a x2)) (onpl n1 _ _ e1 z1)
  simp only[dsm] at this
  exact this
 have k2:dot n2 n2*dot (cross (wy P a b) (wy P a x2)) (wy P a x1)=T n2 (wy P a b) (wy P a x2)*dot n2 (wy P a x1):=by
  have:=congrArg (fun v=>dot v (wy P a x1)) (onpl n2 _ _ e2 z2)
  simp only[dsm] at this
  exact this
 have sw:dot (cross (wy P a b) (wy P a x2)) (wy P a x1)=- dot (cross (wy P a b) (wy P a x1)) (wy P a x2):=by simp only[dot,cross];grind
 have m1:T n1 (wy P a b) (wy P a x1)*dot n1 (wy P a x2)<=0:=Int.mul_nonpos_of_nonneg_of_nonpos (Int.le_of_lt ht1) l12
 have m2:T n2 (wy P a b) (wy P a x2)*dot n2 (wy P a x1)<=0:=Int.mul_nonpos_of_nonneg_of_nonpos (Int.le_of_lt ht2) l21
 have D0:dot (cross (wy P a b) (wy P a x1)) (wy P a x2)=0:=by
  rw[sw] at k2
  generalize dot (cross (wy P a b) (wy P a x1)) (wy P a x2)=D at *
  rcases Int.lt_trichotomy D 0 with q|q|q
  ·have:=Int.mul_pos (a:=dot n2 n2) (b:=-D) hp2 (by omega);omega
  ·exact q
  ·have:=Int.mul_pos hp1 q;omega
 have n12:dot n1 (wy P a x2)=0:=by
  rw[D0,Int.mul_zero] at k1
  rcases Int.mul_eq_zero.1 k1.symm with q|q
  ·omega
  ·exact q
 have hx2m:x2∈aJ P N n1 d1:=ap.2 ⟨(ap.1 hx2).1,by rw[cr] at n12;have:=(ap.1 ha1).2;omega⟩
 have c2:=onpl n2 _ _ e2 z2
 have c1:=onpl n1 _ _ e1 n12
 have t12:=(hs1.all x2 hx2m).1
 have ne:T n1 (wy P a b) (wy P a x2)≠0:=fun e=>by
  have c0:=de F1.nz e1 n12 e
  have:T n2 (wy P a b) (wy P a x2)=0:=by simp only[T];rw[c0];simp[dot,zero]
  omega
 refine rO h1.nz.2 h2.nz.2 (a:=T n1 (wy P a b) (wy P a x2)*dot n2 n2) (b:=T n2 (wy P a b) (wy P a x2)*dot n1 n1) (Int.mul_pos (by omega) hp2) (Int.mul_pos ht2 hp1) ?_
 simp only[T] at *
 generalize cross (wy P a b) (wy P a x2)=K at *
 have q1:=congrArg V.x c1;have q2:=congrArg V.y c1;have q3:=congrArg V.z c1
 have r1:=congrArg V.x c2;have r2:=congrArg V.y c2;have r3:=congrArg V.z c2
 generalize dot n1 n1=A at *
 generalize dot n2 n2=B at *
 generalize dot n1 K=A' at *
 generalize dot n2 K=B' at *
 simp only[smul] at q1 q2 q3 r1 r2 r3
 apply V.ext'<;>simp only[smul]<;>grind
end
open V
section
variable{n:V}{P:Nat->V}{on:List Nat}
theorem Side.start(h:Flat n P on){a b:Nat}(ha:a∈on)(hs:Side n P on a b):dF P on a:=by
 obtain⟨K,hK,hb⟩:=dI (fun x=>dot (wy P a b) (wy P a x)) on
 refine⟨add (smul K (cross n (wy P a b))) (wy P a b),fun x hx hxa=>?_⟩
 have e:dot (add (smul K (cross n (wy P a b))) (wy P a b)) (wy P a x)=K*T n (wy P a b) (wy P a x)+dot (wy P a b) (wy P a x):=by simp only[T,dot,add,smul,cross];grind
 rw[e]
 obtain⟨h1,h2⟩:=hs.all x hx
 have c:=hb x hx
 rcases Int.lt_or_eq_of_le h1 with k|k
 ·have:K*1<=K*T n (wy P a b) (wy P a x):=Int.mul_le_mul_of_nonneg_left (by omega) (Int.le_of_lt hK)
  omega
 ·rw[<-k,Int.mul_zero,Int.zero_add]
  obtain⟨q1,q2⟩:=h2 k.symm
  have sw:dot (wy P a b) (wy P a x)=dot (wy P a x) (wy P a b):=by simp only[dot];grind
  rw[sw]
  rcases Int.lt_or_eq_of_le q1 with p|p
  ·exact p
  ·exfalso
   have c0:=de h.nz (h.pl a ha b hs.mem) (h.pl a ha x hx) k.symm
   have pr:=Ca c0 (wy P a b)
   rw[sw,<-p] at pr
   have hp:=aM (ph h ha hs.mem hs.ne)
   apply ph h ha hx hxa
   have p1:=congrArg V.x pr;have p2:=congrArg V.y pr;have p3:=congrArg V.z pr
   simp only[smul,Int.zero_mul] at p1 p2 p3
   exact V.ext' (aO hp p1) (aO hp p2) (aO hp p3)
end
theorem kF{α:Type}{r:α->α->Prop}(irr:∀ a,¬ r a a)(asy:∀ a b,r a b->¬ r b a):∀ {l l':List α},l.Pairwise r->l'.Pairwise r->(∀ x,x∈l↔x∈l')->l=l'
 | [],[],_,_,_=>rfl
 | [],b::l',_,_,h=>absurd ((h b).2 List.mem_cons_self) (by simp)
 | a::l,[],_,_,h=>absurd ((h a).1 List.mem_cons_self) (by simp)
 | a::l,b::l',h1,h2,h=>by
  obtain⟨k1,k2⟩:=List.pairwise_cons.1 h1
  obtain⟨k3,k4⟩:=List.pairwise_cons.1 h2
  have e:a=b:=by
   rcases List.mem_cons.1 ((h a).1 List.mem_cons_self) with e|m
   ·exact e
   ·rcases List.mem_cons.1 ((h b).2 List.mem_cons_self) with e|m'
    ·exact e.symm
    ·exact absurd (k1 b m') (asy _ _ (k3 a m))
  subst e
  rw[kF irr asy k2 k4 fun x=>?_]
  constructor
  ·intro hx
   rcases List.mem_cons.1 ((h x).1 (List.mem_cons_of_mem _ hx)) with e|m
   ·subst e;exact absurd (k1 x hx) (irr x)
   ·exact m
  ·intro hx
   rcases List.mem_cons.1 ((h x).2 (List.mem_cons_of_mem _ hx)) with e|m
   ·subst e;exact absurd (k3 x hx) (irr x)
   ·exact m
theorem ff(a:V):¬ aB a a:=by simp only[aB];omega
theorem kU(a b:V):aB a b->¬ aB b a:=by simp only[aB];omega
theorem iO{a b c:V}:aB a b->aB b c->aB a c:=by simp only[aB];omega
theorem lr{a b:V}(h:a≠b):aB a b\/aB b a:=by
 simp only[aB]
 rcases Int.lt_trichotomy a.x b.x with h1|h1|h1<;>rcases Int.lt_trichotomy a.y b.y with h2|h2|h2<;>rcases Int.lt_trichotomy a.z b.z with h3|h3|h3<;>first|omega|exact absurd (V.ext' h1 h2 h3) h
structure Facets(P:Nat->V)(N:Nat)(L:List (V×Int)):Prop where
 ord:L.Pairwise (fun a b=>aB a.1 b.1)
 mem:∀ q,q∈L↔IsF P N q.1 q.2
theorem Facets.eq{P:Nat->V}{N:Nat}{L L':List (V×Int)}(h:Facets P N L)(h':Facets P N L'):L=L':=
 kF (r:=fun a b=>aB a.1 b.1) (fun a=>ff a.1) (fun a b=>kU a.1 b.1) h.ord h'.ord fun x=>(h.mem x).trans (h'.mem x).symm
section
variable{P:Nat->V}{N:Nat}{n:V}{d:Int}
def aN(P:Nat->V)(N:Nat)(n:V)(d:Int)(l:List Nat):Prop:=∃ a,(aJ P N n d).head?=some a/\Chain (Side n P (aJ P N n d)) a a l
theorem CH:(aJ P N n d).Pairwise (·<·):=List.Pairwise.sublist List.filter_sublist List.pairwise_lt_range
theorem IsF.head(hl:∀ i j,i<j->j<N->aB (P i) (P j))(h:IsF P N n d):∃ a,(aJ P N n d).head?=some a/\a∈aJ P N n d/\dF P (aJ P N n d) a/\(∀ x∈aJ P N n d,a<=x)/\∀ c∈aJ P N n d,∃ x∈aJ P N n d,x≠c:=by
 obtain⟨i,j,k,hij,hjk,hk,mi,mj,mk,ht⟩:=h.three
 cases hon:aJ P N n d with
 | nil=>rw[hon] at mi;simp at mi
 | cons a l=>
  have ho:(a::l).Pairwise (·<·):=by rw[<-hon];exact CH
  rw[List.pairwise_cons] at ho
  have hle:∀ x∈a::l,a<=x:=fun x hx=>by
   rcases List.mem_cons.1 hx with e|m
   ·omega
   ·exact Nat.le_of_lt (ho.1 x m)
  refine⟨a,rfl,List.mem_cons_self,B2 fun x hx hxa=>?_,hle,fun c hc=>?_⟩
  ·have:=hle x hx
   rw[<-hon] at hx
   exact hl a x (by omega) (ap.1 hx).1
  ·rw[hon] at mi mj
   by_cases e:i=c
   ·exact⟨j,mj,by omega⟩
   ·exact⟨i,mi,e⟩
theorem IsF.poly(hl:∀ i j,i<j->j<N->aB (P i) (P j))(h:IsF P N n d) :
  ∃ l,aN P N n d l/\l.Nodup/\∀ z,z∈l↔z∈aJ P N n d/\dF P (aJ P N n d) z:=by
 obtain⟨a,h1,h2,h3,h4,h5⟩:=h.head hl
 obtain⟨l,k1,k2,k3,k4⟩:=yx (h.flat hl) h2 h3 h5
 exact⟨l,⟨a,h1,k1⟩,k2,fun z=>⟨k3 z,fun⟨q1,q2⟩=>k4 z q1 q2⟩⟩
theorem aN.eq(hl:∀ i j,i<j->j<N->aB (P i) (P j))(h:IsF P N n d){l l':List Nat}(k:aN P N n d l)(k':aN P N n d l'):l=l':=by
 obtain⟨a,h1,h2⟩:=k
 obtain⟨a',h1',h2'⟩:=k'
 rw[h1] at h1';cases h1'
 obtain⟨b,g1,g2,g3,g4,g5⟩:=h.head hl
 rw[h1] at g1;cases g1
 have F:=h.flat hl
 have key:∀ {c:Nat} {l l':List Nat},c∈aJ P N n d->Chain (Side n P (aJ P N n d)) a c l->Chain (Side n P (aJ P N n d)) a c l'->l=l':=by
  intro c l l' hc k1
  induction k1 generalizing l' with
  | done s=>intro k2;cases k2 with
   | done _=>rfl
   | step s' hne _=>exact absurd (Side.unique F hc s' s) hne
  | step s hne k ih=>intro k2;cases k2 with
   | done s'=>exact absurd (Side.unique F hc s s') hne
   | step s' _ k'=>
    have e:=Side.unique F hc s s'
    subst e
    rw[ih s.mem k']
 exact key g2 h2 h2'
def dX(l:List Nat):List (Nat×Nat):=(List.range l.length).filterMap fun k=>if l.getD k 0<l.getD ((k+1)%l.length) 0 then some (l.getD k 0,l.getD ((k+1)%l.length) 0) else none
theorem aN.next{l:List Nat}(k:aN P N n d l){i:Nat}(hi:i<l.length):Side n P (aJ P N n d) (l.getD i 0) (l.getD ((i+1)%l.length) 0):=by
 obtain⟨a,h1,h2⟩:=k
 obtain⟨l',e⟩:=h2.head
 obtain⟨y,q1,q2⟩:=h2.pairs i (l.getD i 0) (by simp[List.getD,List.getElem?_eq_getElem hi])
 rcases Nat.lt_or_ge (i+1) l.length with c|c
 ·rw[List.getElem?_append_left c] at q1
  rw[Nat.mod_eq_of_lt c]
  simp only[List.getD,q1,Option.getD_some]
  exact q2
 ·have ei:i+1=l.length:=by omega
  rw[List.getElem?_append_right (by omega),ei,Nat.sub_self] at q1
  simp at q1
  subst q1
  rw[ei,Nat.mod_self]
  have:l.getD 0 0=a:=by rw[e];rfl
  rw[this];exact q2
theorem dP{l:List Nat}{a b:Nat}:(a,b)∈dX l↔a<b/\∃ i,i<l.length/\l.getD i 0=a/\l.getD ((i+1)%l.length) 0=b:=by
 simp only[dX,List.mem_filterMap,List.mem_range]
 constructor
 ·rintro⟨i,hi,h⟩
  split at h
  ·rename_i hlt
   simp only[Option.some.injEq,Prod.mk.injEq] at h
   exact⟨by omega,i,hi,h.1,h.2⟩
  ·cases h
 ·rintro⟨hlt,i,hi,h1,h2⟩
  exact⟨i,hi,by rw[h1,h2,if_pos hlt]⟩
def Ep(P:Nat->V)(N:Nat)(n:V)(d:Int)(a b:Nat):Prop:=a∈aJ P N n d/\Side n P (aJ P N n d) a b
theorem aN.dir(hl:∀ i j,i<j->j<N->aB (P i) (P j))(h:IsF P N n d){l:List Nat}(k:aN P N n d l){a b:Nat} :
  (∃ i,i<l.length/\l.getD i 0=a/\l.getD ((i+1)%l.length) 0=b)↔Ep P N n d a b:=by
 obtain⟨l2,p1,p2,p3⟩:=h.poly hl
 have:=aN.eq hl h k p1
 subst this
 constructor
 ·rintro⟨i,hi,h1,h2⟩
  have s:=k.next hi
  rw[h1,h2] at s
  refine⟨((p3 a).1 ?_).1,s⟩
  rw[<-h1];simp[List.getD,List.getElem?_eq_getElem hi]
 ·rintro⟨ha,s⟩
  have hm:=(p3 a).2 ⟨ha,s.start (h.flat hl) ha⟩
  obtain⟨i,hi,e⟩:=List.getElem_of_mem hm
  have ei:l.getD i 0=a:=by simp[List.getD,List.getElem?_eq_getElem hi,e]
  have s2:=k.next hi
  rw[ei] at s2
  exact⟨i,hi,ei,Side.unique (h.flat hl) ha s2 s⟩
theorem iV{l:List Nat}(h:l.Nodup):(dX l).Nodup:=by
 unfold dX
 refine List.Pairwise.filterMap _ (R:=fun i j:Nat=>i≠j/\i<l.length/\j<l.length) (S:=fun x y=>x≠y) ?_ ?_
 ·intro i j ⟨hij,hi,hj⟩ x hx y hy e
  subst e
  simp only[Option.ite_none_right_eq_some,Option.some.injEq] at hx hy
  have e1:l.getD i 0=l.getD j 0:=by have:=congrArg Prod.fst (hx.2.trans hy.2.symm);exact this
  simp only[List.getD,List.getElem?_eq_getElem hi,List.getElem?_eq_getElem hj,Option.getD_some] at e1
  rcases Nat.lt_or_gt_of_ne hij with c|c
  ·exact List.pairwise_iff_getElem.1 h i j hi hj c e1
  ·exact List.pairwise_iff_getElem.1 h j i hj hi c e1.symm
 ·have:=List.nodup_range (n:=l.length)
  refine List.Pairwise.imp_of_mem ?_ this
  intro i j hi hj hne
  exact⟨hne,List.mem_range.1 hi,List.mem_range.1 hj⟩
end
def BZ(a b:Nat×Nat):Prop:=a.1<b.1\/a.1=b.1/\a.2<b.2
def cp(L:List (V×Int))(poly:V×Int->List Nat):List (Nat×Nat):=L.flatMap fun q=>dX (poly q)
section
variable{P:Nat->V}{N:Nat}
theorem su(hl:∀ i j,i<j->j<N->aB (P i) (P j)){L:List (V×Int)}(hL:Facets P N L){poly:V×Int->List Nat}(hp:∀ q∈L,aN P N q.1 q.2 (poly q)):(cp L poly).Nodup:=by
 unfold cp List.Nodup
 rw[List.pairwise_flatMap]
 refine⟨fun q hq=>?_,?_⟩
 ·obtain⟨l,p1,p2,_⟩:=((hL.mem q).1 hq).poly hl
  have:=aN.eq hl ((hL.mem q).1 hq) (hp q hq) p1
  rw[this];exact iV p2
 ·refine List.Pairwise.imp_of_mem ?_ hL.ord
  intro q q' hq hq' hlt x hx y hy e
  subst e
  obtain⟨a,b⟩:=x
  have F:=(hL.mem q).1 hq
  have F':=(hL.mem q').1 hq'
  obtain⟨d1,d2⟩:=(aN.dir hl F (hp q hq)).1 (dP.1 hx).2
  obtain⟨d1',d2'⟩:=(aN.dir hl F' (hp q' hq')).1 (dP.1 hy).2
  have:=xD hl F F' d1 d1' d2 d2'
  rw[this] at hlt
  exact ff _ hlt
end
end Go.Proofs.YtjjjkojfijpeeaaGreat.Geo
end
section
set_option linter.unusedVariables false
namespace Go.Proofs.YtjjjkojfijpeeaaGreat.Sy
open Go Go.Proofs Go.Proofs.YtjjjkojfijpeeaaGreat.Geo
abbrev I(n:Int):D:=.int .i64 n
def aq(v:V):D:=.st [I v.x,I v.y,I v.z]
def inR(n:Int):Prop:=-9223372036854775808<=n/\n<=9223372036854775807
theorem iE{n:Int}(h:inR n):IntKind.wrap .i64 n=n:=by
 obtain⟨h1,h2⟩:=h
 simp only[IntKind.wrap,IntKind.signed,IntKind.bits]
 first
  | omega
  | (simp;omega)
theorem aH{a b:Int}(h:inR (a+b)):D.bin .add (I a) (I b)=some (I (a+b)):=by simp only[D.bin,if_true,iE h]
theorem fi{a b:Int}(h:inR (a-b)):D.bin .sub (I a) (I b)=some (I (a-b)):=by simp only[D.bin,if_true,iE h]
theorem bB{a b:Int}(h:inR (a*b)):D.bin .mul (I a) (I b)=some (I (a*b)):=by simp only[D.bin,if_true,iE h]
theorem aj{a b:Int}:D.bin .lss (I a) (I b)=some (.bool (decide (a<b))):=by simp only[D.bin,if_true]
theorem GQ{a b:Int}:D.bin .leq (I a) (I b)=some (.bool (decide (a<=b))):=by simp only[D.bin,if_true]
theorem fK{a b:Int}:D.bin .gtr (I a) (I b)=some (.bool (decide (a>b))):=by simp only[D.bin,if_true]
theorem je{a b:Int}:D.bin .geq (I a) (I b)=some (.bool (decide (a ≥ b))):=by simp only[D.bin,if_true]
theorem lK{a b:Int}(h:b≠0):D.bin .rem (I a) (I b)=some (I (a.tmod b)):=by simp only[D.bin,if_true,h,if_false]
theorem sV{a b:Int}(h:b≠0)(hr:inR (a.tdiv b)):D.bin .quo (I a) (I b)=some (I (a.tdiv b)):=by simp only[D.bin,if_true,h,if_false,iE hr]
theorem po{a:Int}(h:inR (-a)):D.un .neg (I a)=some (I (-a)):=by simp only[D.un,Int.zero_sub,iE h]
theorem dc{b:Bool}:D.un .not (.bool b)=some (.bool (!b)):=rfl
theorem ag{b:Bool}:D.truth (.bool b)=some b:=rfl
theorem Dx{a b:Int}:D.max2 (I a) (I b)=some (I (max a b)):=by
 simp only[D.max2];congr 2
 split<;>omega
theorem Iz{a b:Int}:D.min2 (I a) (I b)=some (I (min a b)):=by
 simp only[D.min2];congr 2
 split<;>omega
theorem dN{a b:Int}:D.beq (I a) (I b)=decide (a=b):=by simp[D.beq]
theorem xe(v:V):D.get (aq v) [0]=some (I v.x):=rfl
theorem xd(v:V):D.get (aq v) [1]=some (I v.y):=rfl
theorem xt(v:V):D.get (aq v) [2]=some (I v.z):=rfl
theorem C5(x y z:Int):D.st [D.int .i64 x,D.int .i64 y,D.int .i64 z]=aq ⟨x,y,z⟩:=rfl
def bd(k:Int)(v:V):Prop:=(-k<=v.x/\v.x<=k)/\(-k<=v.y/\v.y<=k)/\(-k<=v.z/\v.z<=k)
theorem fZ{a b A B:Int}(ha:-A<=a/\a<=A)(hb:-B<=b/\b<=B):-(A*B)<=a*b/\a*b<=A*B:=by
 have hA:0<=A:=by omega
 have hB:0<=B:=by omega
 have h1:(a*b).natAbs<=(A*B).natAbs:=by
  rw[Int.natAbs_mul,Int.natAbs_mul]
  exact Nat.mul_le_mul (by omega) (by omega)
 have h2:0<=A*B:=Int.mul_nonneg hA hB
 omega
theorem ql{A B:Int}{u v:V}(hu:bd A u)(hv:bd B v):bd (A+B) (u.sub v):=by
 simp only[bd,V.sub] at *;omega
theorem yb{A:Int}{u:V}(hu:bd A u):bd A u.neg:=by
 simp only[bd,V.neg] at *;omega
theorem ki{A B:Int}{u v:V}(hu:bd A u)(hv:bd B v):bd (2*(A*B)) (V.cross u v):=by
 have:=fZ hu.1 hv.1;have:=fZ hu.1 hv.2.1;have:=fZ hu.1 hv.2.2
 have:=fZ hu.2.1 hv.1;have:=fZ hu.2.1 hv.2.1;have:=fZ hu.2.1 hv.2.2
 have:=fZ hu.2.2 hv.1;have:=fZ hu.2.2 hv.2.1;have:=fZ hu.2.2 hv.2.2
 simp only[bd,V.cross];omega
theorem Ci{A B:Int}{u v:V}(hu:bd A u)(hv:bd B v):-(3*(A*B))<=V.dot u v/\V.dot u v<=3*(A*B):=by
 have:=fZ hu.1 hv.1;have:=fZ hu.2.1 hv.2.1;have:=fZ hu.2.2 hv.2.2
 simp only[V.dot];omega
theorem Dv{A B:Int}{u v:V}(hu:bd A u)(hv:bd B v)(h:3*(A*B)<=9223372036854775807) :
  inR (u.x*v.x)/\inR (u.y*v.y)/\inR (u.z*v.z)/\inR (u.x*v.x+u.y*v.y)/\inR (u.x*v.x+u.y*v.y+u.z*v.z):=by
 have:=fZ hu.1 hv.1;have:=fZ hu.2.1 hv.2.1;have:=fZ hu.2.2 hv.2.2
 simp only[inR];omega
theorem f101{call:Nat->List D->Option D}{A B:Int}{u v:V}(hu:bd A u)(hv:bd B v)(h:3*(A*B)<=9223372036854775807):Dy bo call (aq u) (aq v)=some (I (V.dot u v)):=by
 obtain⟨h1,h2,h3,h4,h5⟩:=Dv hu hv h
 simp only[Dy,xe,xd,xt,Option.bind_some,bB h1,bB h2,bB h3,aH h4,aH h5]
 rfl
theorem D1(n:Nat){A B:Int}{u v:V}(hu:bd A u)(hv:bd B v)(h:3*(A*B)<=9223372036854775807):cA (n+1) 101 [aq u,aq v]=some (I (V.dot u v)):=by rw[KC];exact f101 hu hv h
theorem yA{A B:Int}{u v:V}(hu:bd A u)(hv:bd B v)(h:2*(A*B)<=9223372036854775807) :
  inR (u.y*v.z)/\inR (u.z*v.y)/\inR (u.z*v.x)/\inR (u.x*v.z)/\inR (u.x*v.y)/\inR (u.y*v.x)/\inR (u.y*v.z-u.z*v.y)/\inR (u.z*v.x-u.x*v.z)/\inR (u.x*v.y-u.y*v.x):=by
 have:=fZ hu.1 hv.1;have:=fZ hu.1 hv.2.1;have:=fZ hu.1 hv.2.2
 have:=fZ hu.2.1 hv.1;have:=fZ hu.2.1 hv.2.1;have:=fZ hu.2.1 hv.2.2
 have:=fZ hu.2.2 hv.1;have:=fZ hu.2.2 hv.2.1;have:=fZ hu.2.2 hv.2.2
 simp only[inR];omega
theorem Hs(n:Nat){A B:Int}{u v:V}(hu:bd A u)(hv:bd B v)(h:2*(A*B)<=9223372036854775807):cA (n+1) 117 [aq u,aq v]=some (aq (V.cross u v)):=by
 obtain⟨h1,h2,h3,h4,h5,h6,h7,h8,h9⟩:=yA hu hv h
 rw[JQ]
 simp only[FY,xe,xd,xt,Option.bind_some,bB h1,bB h2,bB h3,bB h4,bB h5,bB h6,fi h7,fi h8,fi h9]
 rfl
theorem Nz(n:Nat){A:Int}{u:V}(hu:bd A u)(h:A<=9223372036854775807):cA (n+1) 97 [aq u]=some (aq u.neg):=by
 have h1:inR (-u.x):=by simp only[bd,inR] at *;omega
 have h2:inR (-u.y):=by simp only[bd,inR] at *;omega
 have h3:inR (-u.z):=by simp only[bd,inR] at *;omega
 rw[P0]
 simp only[Jy,xe,xd,xt,Option.bind_some,po h1,po h2,po h3]
 rfl
end Go.Proofs.YtjjjkojfijpeeaaGreat.Sy
end
section
set_option linter.unusedVariables false
namespace Go.Proofs.YtjjjkojfijpeeaaGreat.Sy
open Go Go.Proofs Go.Proofs.YtjjjkojfijpeeaaGreat.Geo
abbrev Bd:=List D->Option (Sum (List D) (Nat×List D))
theorem jI{body:Bd}{s s':List D}{k:Nat×List D->Option D}{y:D}(h:body s=some (.inl s'))(hk:Option.bind (bo body s') k=some y):Option.bind (bo body s) k=some y:=by
 have:bo body s=bo body s':=eO h
 rw[this];exact hk
theorem mB{body:Bd}{s:List D}{r:Nat×List D}{k:Nat×List D->Option D}{y:D}(h:body s=some (.inr r))(hk:k r=some y):Option.bind (bo body s) k=some y:=by
 have:bo body s=some r:=fg h
 rw[this];exact hk
theorem xT{body:Bd}{s:List D}{r:Nat×List D}{k:Nat×List D->Option D}{y:D}(h:bo body s=some r)(hk:k r=some y):Option.bind (bo body s) k=some y:=by
 rw[h];exact hk
theorem br{body:Bd}{s0:List D}{k:Nat×List D->Option D}{y:D}(J:Nat->List D->Prop)(n i0:Nat)(hi:i0<=n)(h0:J i0 s0)
  (hs:∀ i,i<n->∀ s,J i s->(∃ s',body s=some (.inl s')/\J (i+1) s')\/∃ r,body s=some (.inr r)/\k r=some y) (he:∀ s,J n s->∃ r,body s=some (.inr r)/\k r=some y):Option.bind (bo body s0) k=some y:=by
 obtain⟨m,hm⟩:∃ m,m=n-i0:=⟨_,rfl⟩
 induction m generalizing i0 s0 with
 | zero=>
  have:i0=n:=by omega
  subst this
  obtain⟨r,h1,h2⟩:=he s0 h0
  exact mB h1 h2
 | succ m ih=>
  rcases hs i0 (by omega) s0 h0 with⟨s',h1,h2⟩|⟨r,h1,h2⟩
  ·exact jI h1 (ih (i0:=i0+1) (by omega) h2 (by omega))
  ·exact mB h1 h2
theorem AB{body:Bd}{s0:List D}(J:Nat->List D->Prop)(Q:Nat×List D->Prop)(n i0:Nat)(hi:i0<=n)(h0:J i0 s0)
  (hs:∀ i,i<n->∀ s,J i s->(∃ s',body s=some (.inl s')/\J (i+1) s')\/∃ r,body s=some (.inr r)/\Q r) (he:∀ s,J n s->∃ r,body s=some (.inr r)/\Q r):∃ r,bo body s0=some r/\Q r:=by
 obtain⟨m,hm⟩:∃ m,m=n-i0:=⟨_,rfl⟩
 induction m generalizing i0 s0 with
 | zero=>
  have:i0=n:=by omega
  subst this
  obtain⟨r,h1,h2⟩:=he s0 h0
  exact⟨r,fg h1,h2⟩
 | succ m ih=>
  rcases hs i0 (by omega) s0 h0 with⟨s',h1,h2⟩|⟨r,h1,h2⟩
  ·obtain⟨r,k1,k2⟩:=ih (i0:=i0+1) (by omega) h2 (by omega)
   exact⟨r,by rw[show bo body s0=bo body s' from eO h1];exact k1,k2⟩
  ·exact⟨r,fg h1,h2⟩
theorem aK{i n:Nat}(h:i<n):D.idx (I (i:Int)) n=some i:=by
 simp only[D.idx]
 rw[if_pos (by omega)];simp
theorem aS{i:Nat}(h:i<=9223372036854775806):inR ((i:Int)+1):=by simp only[inR];omega
theorem g0{x:D}{l:List D}{d:D}:List.getD (x::l) 0 d=x:=rfl
theorem g1{x y:D}{l:List D}{d:D}:List.getD (x::y::l) 1 d=y:=rfl
theorem g2{x y z:D}{l:List D}{d:D}:List.getD (x::y::z::l) 2 d=z:=rfl
theorem g3{x y z w:D}{l:List D}{d:D}:List.getD (x::y::z::w::l) 3 d=w:=rfl
theorem Ln(v:V)(a:Int):D.set (aq v) [0] (I a)=some (aq ⟨a,v.y,v.z⟩):=rfl
theorem Ly(v:V)(a:Int):D.set (aq v) [1] (I a)=some (aq ⟨v.x,a,v.z⟩):=rfl
theorem MN(v:V)(a:Int):D.set (aq v) [2] (I a)=some (aq ⟨v.x,v.y,a⟩):=rfl
theorem Kg:D.idx (I 0) 3=some 0:=rfl
theorem KR:D.idx (I 1) 3=some 1:=rfl
theorem Kb:D.idx (I 2) 3=some 2:=rfl
theorem Mt(n:Nat){A B:Int}{u v:V}(hu:bd A u)(hv:bd B v)(h:A+B<=9223372036854775807):cA (n+1) 154 [aq u,aq v]=some (aq (u.add v)):=by
 have h1:inR (u.x+v.x):=by simp only[bd,inR] at *;omega
 have h2:inR (u.y+v.y):=by simp only[bd,inR] at *;omega
 have h3:inR (u.z+v.z):=by simp only[bd,inR] at *;omega
 rw[LT]
 unfold FK
 refine jI (s':=[I 1,aq ⟨u.x+v.x,u.y,u.z⟩]) ?_ (jI (s':=[I 2,aq ⟨u.x+v.x,u.y+v.y,u.z⟩]) ?_ (jI (s':=[I 3,aq ⟨u.x+v.x,u.y+v.y,u.z+v.z⟩]) ?_ (mB (r:=(0,[aq (u.add v)])) ?_ rfl)))
 ·simp only[g0,g1,aj,Option.bind_some,ag,Kg,xe,Ln,aH h1,aH (show inR (0+1) from⟨by decide,by decide⟩)];rfl
 ·simp only[g0,g1,aj,Option.bind_some,ag,KR,xd,Ly,aH h2,aH (show inR (1+1) from⟨by decide,by decide⟩)];rfl
 ·simp only[g0,g1,aj,Option.bind_some,ag,Kb,xt,MN,aH h3,aH (show inR (2+1) from⟨by decide,by decide⟩)];rfl
 ·simp only[g0,g1,aj,Option.bind_some,ag];rfl
theorem FG(u v:V):u.add v.neg=u.sub v:=by apply V.ext'<;>simp only[V.add,V.neg,V.sub]<;>omega
theorem EO(n:Nat){A B:Int}{u v:V}(hu:bd A u)(hv:bd B v)(h:A+B<=9223372036854775807):cA (n+2) 103 [aq u,aq v]=some (aq (u.sub v)):=by
 have hA:0<=A:=by simp only[bd] at hu;omega
 rw[LG]
 simp only[EW,Nz n hv (by omega),Option.bind_some,Mt n hu (yb hv) h,FG]
def bD(a b:Int):Int:=if a<b then -1 else if a>b then 1 else 0
theorem Lb(n:Nat)(a:Int):cA (n+1) 115 [I a]=some (.bool false):=by
 rw[Mi];simp only[Fg,dN];simp
theorem HW(n:Nat)(a b:Int):cA (n+2) 53 [I a,I b]=some (I (bD a b)):=by
 rw[Pf]
 simp only[JJ,Lb,Option.bind_some,ag,Bool.false_eq_true,if_false,aj,fK,bD,decide_eq_true_eq]
 split
 ·rfl
 ·split<;>rfl
def mH:List Int->Int
 | []=>0
 | x::l=>if x=0 then mH l else x
theorem Le(n:Nat)(l:List Int)(hl:l.length<=1000):cA (n+1) 52 [.sl (l.map fun x=>I x)]=some (I (mH l)):=by
 rw[OC]
 unfold Jz
 simp only[D.asSl,Option.bind_some]
 refine br (fun i s=>s=[I i]/\mH l=mH (l.drop i)) l.length 0 (Nat.zero_le _) ⟨rfl,rfl⟩ (fun i hi s hJ=>?_) (fun s hJ=>?_)
 ·obtain⟨rfl,hz⟩:=hJ
  have hx:(l.map fun x=>I x)[i]?=some (I l[i]):=by simp[hi]
  simp only[g0,List.length_map,aj,Option.bind_some,ag,decide_eq_true_eq,show((i:Int)<(l.length:Int)) from by omega,if_true,aK hi,hx,dN]
  have hd:l.drop i=l[i]::l.drop (i+1):=List.drop_eq_getElem_cons hi
  rw[hd] at hz
  by_cases h0:l[i]=0
  ·left
   refine⟨[I ((i+1:Nat):Int)],?_,rfl,?_⟩
   ·simp only[h0,decide_true,Bool.not_true,Bool.false_eq_true,if_false,aH (aS (i:=i) (by omega)),Option.bind_some];rfl
   ·rw[hz];simp[mH,h0]
  ·right
   refine⟨(0,[I l[i]]),?_,?_⟩
   ·simp[h0]
   ·rw[hz];simp[mH,h0]
 ·obtain⟨rfl,hz⟩:=hJ
  refine⟨(1,[]),?_,?_⟩
  ·simp only[g0,List.length_map,aj,Option.bind_some,ag,decide_eq_true_eq,Int.lt_irrefl,if_false]
  ·rw[hz];simp[mH]
end Go.Proofs.YtjjjkojfijpeeaaGreat.Sy
end
section
set_option linter.unusedVariables false
namespace Go.Proofs.YtjjjkojfijpeeaaGreat.Sy
open Go Go.Proofs Go.Proofs.YtjjjkojfijpeeaaGreat.Geo
theorem wM{body:Bd}(h0:∀ a b:Int,b≠0->body [I a,I b]=some (.inl [I b,I (a.tmod b)]))(h1:∀ a:Int,body [I a,I 0]=some (.inr (0,[I a]))) :
  ∀ (m:Nat) (a b:Int),b.natAbs=m->∃ r:Int,bo body [I a,I b]=some (0,[I r])/\r.natAbs=Nat.gcd a.natAbs b.natAbs:=by
 intro m
 induction m using Nat.strongRecOn with
 | _ m ih=>
  intro a b hb
  by_cases hz:b=0
  ·subst hz
   exact⟨a,fg (h1 a),by simp⟩
  ·have hlt:(a.tmod b).natAbs<m:=by
    rw[Int.natAbs_tmod,<-hb]
    exact Nat.mod_lt _ (by omega)
   obtain⟨r,k1,k2⟩:=ih _ hlt b (a.tmod b) rfl
   refine⟨r,?_,?_⟩
   ·rw[show bo body [I a,I b]=bo body [I b,I (a.tmod b)] from eO (h0 a b hz)];exact k1
   ·rw[k2,Int.natAbs_tmod,Nat.gcd_comm a.natAbs,Nat.gcd_rec b.natAbs a.natAbs,Nat.gcd_comm]
theorem xV{a b:Int}{k:Nat}(ha:a.natAbs<=k)(hb:b.natAbs<=k):Nat.gcd a.natAbs b.natAbs<=k:=by
 rcases Nat.eq_zero_or_pos a.natAbs with h|h
 ·rw[h,Nat.gcd_zero_left];exact hb
 ·exact Nat.le_trans (Nat.le_of_dvd h (Nat.gcd_dvd_left _ _)) ha
theorem Jc(n:Nat){a b:Int}(ha:a.natAbs<=9223372036854775807)(hb:b.natAbs<=9223372036854775807):cA (n+1) 152 [I a,I b]=some (I (Nat.gcd a.natAbs b.natAbs:Nat)):=by
 rw[Me]
 unfold Gs
 obtain⟨r,h1,h2⟩:=wM (body:=fun(v1:List D)=>
  Option.bind (D.truth (D.bool (!(D.beq (gx v1 1) (D.int .i64 0))))) fun b2=>
  if b2 then(Option.bind (D.bin .rem (gx v1 0) (gx v1 1)) fun x3=>
  some (Sum.inl [(gx v1 1),x3])) else(some (Sum.inr (0,[(gx v1 0)]))))
  (fun a b hb=>by simp only[g0,g1,dN,ag,Option.bind_some,hb,decide_false,Bool.not_false,if_true,lK hb])
  (fun a=>by simp only[g0,g1,dN,ag,Option.bind_some,decide_true,Bool.not_true,Bool.false_eq_true,if_false]) _ a b rfl
 refine xT h1 ?_
 have hr:r.natAbs<=9223372036854775807:=by rw[h2];exact xV ha hb
 have hn:inR (-r):=by simp only[inR];omega
 simp only[Option.bind_some,g0,po hn,Dx]
 congr 2
 omega
theorem fS{a:Int}{g:Nat}(hg:0<g)(h:(g:Int) ∣ a):a.tdiv g=a/g:=by
 obtain⟨c,rfl⟩:=h
 rw[Int.mul_tdiv_cancel_left _ (by omega),Int.mul_ediv_cancel_left _ (by omega)]
theorem Ai(v:V):(bT v:Int) ∣ v.x:=Int.ofNat_dvd_left.2 (Nat.dvd_trans (Nat.gcd_dvd_left _ _) (Nat.gcd_dvd_left _ _))
theorem zE(v:V):(bT v:Int) ∣ v.y:=Int.ofNat_dvd_left.2 (Nat.dvd_trans (Nat.gcd_dvd_left _ _) (Nat.gcd_dvd_right _ _))
theorem AA(v:V):(bT v:Int) ∣ v.z:=Int.ofNat_dvd_left.2 (Nat.gcd_dvd_right _ _)
theorem oF{a:Int}{g:Nat}{k:Int}(h:-k<=a/\a<=k)(hd:(g:Int) ∣ a):-k<=a/g/\a/g<=k:=by
 have h1:(a/(g:Int)).natAbs<=a.natAbs:=by
  rcases Nat.eq_zero_or_pos g with e|e
  ·subst e;simp
  ·obtain⟨c,rfl⟩:=hd
   rw[Int.mul_ediv_cancel_left _ (by omega),Int.natAbs_mul]
   exact Nat.le_mul_of_pos_left _ (by omega)
 omega
theorem ut{k:Int}{v:V}(h:bd k v):bd k (bF v):=⟨oF h.1 (Ai v),oF h.2.1 (zE v),oF h.2.2 (AA v)⟩
def bw(q:V×Int):D:=.st [aq q.1,I q.2]
def MV:Int:=262144
theorem zV{P:Nat->V}{i j:Nat}(hi:bd MV (P i))(hj:bd MV (P j)):bd 524288 (wy P i j):=by
 have:=ql hj hi;simpa [MV,wy] using this
theorem NX(n:Nat){a b c:V}(ha:bd MV a)(hb:bd MV b)(hc:bd MV c):cA (n+3) 96 [aq a,aq b,aq c]=some (bw (bF (V.cross (b.sub a) (c.sub a)),V.dot (bF (V.cross (b.sub a) (c.sub a))) a)):=by
 have h1:bd 524288 (b.sub a):=by have:=ql hb ha;simpa [MV] using this
 have h2:bd 524288 (c.sub a):=by have:=ql hc ha;simpa [MV] using this
 rw[OS]
 unfold Jq
 simp only[EO n hb ha (by decide),EO n hc ha (by decide),Option.bind_some,Hs (n+1) h1 h2 (by decide)]
 have h3:=ki h1 h2
 generalize V.cross (b.sub a) (c.sub a)=m at *
 have e1:m.x.natAbs<=549755813888:=by have:=h3.1;omega
 have e2:m.y.natAbs<=549755813888:=by have:=h3.2.1;omega
 have e3:m.z.natAbs<=549755813888:=by have:=h3.2.2;omega
 have e4:Nat.gcd m.x.natAbs m.y.natAbs<=549755813888:=xV e1 e2
 have e5:Nat.gcd (Nat.gcd m.x.natAbs m.y.natAbs) m.z.natAbs=bT m:=rfl
 simp only[xe,xd,xt,Option.bind_some,Jc (n+1) (a:=m.x) (b:=m.y) (by omega) (by omega),Jc (n+1) (a:=((Nat.gcd m.x.natAbs m.y.natAbs:Nat):Int)) (b:=m.z) (by rw[Int.natAbs_natCast];omega) (by omega),Int.natAbs_natCast,e5,fK,ag,decide_eq_true_eq]
 have h4:=ut h3
 have fin:∀ w:V,w=bF m->cA (n+2) 101 [aq w,aq a]=some (I (V.dot w a)):=fun w hw=>D1 (n+1) (hw ▸ h4) ha (by decide)
 by_cases hg:(bT m:Int)>1
 ·have hg0:(bT m:Int)≠0:=by omega
  have hgp:0<bT m:=by omega
  have r1:inR (m.x.tdiv (bT m)):=by rw[fS hgp (Ai m)];have:=oF h3.1 (Ai m);simp only[inR];omega
  have r2:inR (m.y.tdiv (bT m)):=by rw[fS hgp (zE m)];have:=oF h3.2.1 (zE m);simp only[inR];omega
  have r3:inR (m.z.tdiv (bT m)):=by rw[fS hgp (AA m)];have:=oF h3.2.2 (AA m);simp only[inR];omega
  have ep:(D.st [I (m.x.tdiv (bT m)),I (m.y.tdiv (bT m)),I (m.z.tdiv (bT m))])=aq (bF m):=by
   rw[fS hgp (Ai m),fS hgp (zE m),fS hgp (AA m)];rfl
  simp only[if_pos hg,sV hg0 r1,sV hg0 r2,sV hg0 r3,Option.bind_some,g0,ep,fin _ rfl]
  rfl
 ·have ep:m=bF m:=by
   rcases Nat.lt_or_ge 0 (bT m) with k|k
   ·have e:bT m=1:=by omega
    have:=gT m
    rw[e] at this
    rw[this]
    conv=>rhs;rw[<-this]
    apply V.ext'<;>simp[V.smul]
   ·have e:bT m=0:=by omega
    have hm:m=V.zero:=by
     by_cases hm:m=V.zero
     ·exact hm
     ·have:=kp hm;omega
    rw[hm];rfl
  simp only[if_neg hg,Option.bind_some,g0,fin m ep]
  rw[<-ep]
  rfl
end Go.Proofs.YtjjjkojfijpeeaaGreat.Sy
end
section
set_option linter.unusedVariables false
namespace Go.Proofs.YtjjjkojfijpeeaaGreat.Sy
open Go Go.Proofs Go.Proofs.YtjjjkojfijpeeaaGreat.Geo
theorem MJ(a b:Int):D.sl [I a,I b]=D.sl ([a,b].map fun x=>I x):=rfl
theorem IZ(a b c:Int):D.sl [I a,I b,I c]=D.sl ([a,b,c].map fun x=>I x):=rfl
theorem PG(n:Nat)(a b c d:Int):cA (n+3) 51 [.st [I a,I b],.st [I c,I d]]=some (I (mH [bD a c,bD b d])):=by
 rw[OR]
 unfold JH
 simp only[show ∀ a b:Int,D.get (.st [I a,I b]) [0]=some (I a) from fun _ _=>rfl,show ∀ a b:Int,D.get (.st [I a,I b]) [1]=some (I b) from fun _ _=>rfl,Option.bind_some,HW,MJ,Le (n+1) [bD a c,bD b d] (by simp)]
theorem Mq(n:Nat)(p q:V×Int):cA (n+3) 100 [bw p,bw q]=some (I (mH [bD p.1.x q.1.x,bD p.1.y q.1.y,bD p.1.z q.1.z])):=by
 rw[L2]
 unfold Ft
 simp only[show ∀ p:V×Int,D.get (bw p) [0]=some (aq p.1) from fun _=>rfl,show ∀ p:V×Int,D.get (bw p) [0,0]=some (I p.1.x) from fun _=>rfl,show ∀ p:V×Int,D.get (bw p) [0,1]=some (I p.1.y) from fun _=>rfl,show ∀ p:V×Int,D.get (bw p) [0,2]=some (I p.1.z) from fun _=>rfl,xe,xd,xt,Option.bind_some,HW,IZ,Le (n+1) [bD p.1.x q.1.x,bD p.1.y q.1.y,bD p.1.z q.1.z] (by simp)]
theorem uw(a:Int):bD a 0=sg a:=rfl
theorem I6(a:Int):-1<=sg a/\sg a<=1:=by unfold sg;split<;>(try split)<;>omega
theorem yp(a b:Int):inR (sg a*sg b):=by
 have:=fZ (A:=1) (B:=1) (I6 a) (I6 b);simp only[inR];omega
theorem Iv(v:V):D.fld (aq v) 0=some (I v.x):=rfl
theorem I2(v:V):D.fld (aq v) 1=some (I v.y):=rfl
theorem IY(v:V):D.fld (aq v) 2=some (I v.z):=rfl
theorem M4:inR (0+1):=⟨by decide,by decide⟩
theorem Eh:inR (1+1):=⟨by decide,by decide⟩
theorem G3:inR (2+1):=⟨by decide,by decide⟩
theorem MF(n:Nat){A B:Int}{m u v:V}(hu:bd A u)(hv:bd B v)(h:2*(A*B)<=9223372036854775807):cA (n+3) 104 [aq m,aq u,aq v]=some (I (AD m (V.cross u v))):=by
 rw[M0]
 unfold Gy
 simp only[Hs (n+1) hu hv h,Option.bind_some]
 generalize V.cross u v=c
 unfold AD
 by_cases hx:m.x=0
 ·refine jI (s':=[I 1]) (by simp only[g0,aj,Option.bind_some,ag,Kg,Iv,dN,hx,decide_true,Bool.not_true,Bool.false_eq_true,if_false,aH M4];rfl) ?_
  by_cases hy:m.y=0
  ·refine jI (s':=[I 2]) (by simp only[g0,aj,Option.bind_some,ag,KR,I2,dN,hy,decide_true,Bool.not_true,Bool.false_eq_true,if_false,aH Eh];rfl) ?_
   by_cases hz:m.z=0
   ·refine jI (s':=[I 3]) (by simp only[g0,aj,Option.bind_some,ag,Kb,IY,dN,hz,decide_true,Bool.not_true,Bool.false_eq_true,if_false,aH G3];rfl) ?_
    refine mB (r:=(1,[])) (by simp only[g0,aj,Option.bind_some,ag];rfl) ?_
    simp[hx,hy,hz]
   ·refine mB (r:=(0,[I (sg c.z*sg m.z)])) ?_ (by simp[hx,hy,hz,Int.mul_comm])
    simp only[g0,aj,Option.bind_some,ag,Kb,IY,xt,dN,hz,decide_false,Bool.not_false,if_true,HW,uw,bB (yp _ _)];rfl
  ·refine mB (r:=(0,[I (sg c.y*sg m.y)])) ?_ (by simp[hx,hy,Int.mul_comm])
   simp only[g0,aj,Option.bind_some,ag,KR,I2,xd,dN,hy,decide_false,Bool.not_false,if_true,HW,uw,bB (yp _ _)];rfl
 ·refine mB (r:=(0,[I (sg c.x*sg m.x)])) ?_ (by simp[hx,Int.mul_comm])
  simp only[g0,aj,Option.bind_some,ag,Kg,Iv,xe,dN,hx,decide_false,Bool.not_false,if_true,HW,uw,bB (yp _ _)];rfl
instance decLex (a b:V):Decidable (aB a b):=by unfold aB;exact inferInstance
def cT(l:List V):D:=.sl (l.map aq)
def xb(l:List V)(m:V)(d:Int):Bool:=l.all fun x=>decide (V.dot m x<=d)
def pU(l:List V)(m:V)(d:Int):Bool:=l.any fun x=>decide (V.dot m x<d)
theorem Mr{l:List V}{i:Nat}(h:i<l.length):(l.map aq)[i]?=some (aq l[i]):=by simp[h]
theorem OD(n:Nat){A:Int}{l:List V}{m:V}{d:Int}(hl:∀ x∈l,bd MV x)(hm:bd A m)(hA:3*(A*262144)<=9223372036854775807)(hlen:l.length<=1000000):cA (n+2) 98 [cT l,bw (m,d)]=some (.bool (xb l m d&&pU l m d)):=by
 rw[Pj]
 unfold Jh
 simp only[cT,D.asSl,Option.bind_some]
 refine br (fun i s=>s=[.bool (!pU (l.take i) m d),I i]/\xb (l.take i) m d=true) l.length 0 (Nat.zero_le _) ⟨by simp[pU],by simp[xb]⟩ (fun i hi s hJ=>?_) (fun s hJ=>?_)
 ·obtain⟨rfl,hs⟩:=hJ
  have ht:l.take (i+1)=l.take i++[l[i]]:=List.take_succ_eq_append_getElem hi
  have hc:=D1 n hm (hl l[i] (List.getElem_mem hi)) hA
  simp only[g0,g1,List.length_map,aj,fK,Option.bind_some,ag,decide_eq_true_eq,show((i:Int)<(l.length:Int)) from by omega,if_true,aK hi,Mr hi,show D.get (bw (m,d)) [0]=some (aq m) from rfl,show D.get (bw (m,d)) [1]=some (I d) from rfl,hc,dN]
  by_cases hgt:V.dot m l[i]>d
  ·right
   refine⟨(0,[.bool false]),by simp only[hgt,if_true],?_⟩
   have:xb l m d=false:=by
    rw[Bool.eq_false_iff];intro h
    have:=List.all_eq_true.1 h l[i] (List.getElem_mem hi)
    simp at this;omega
   simp[g0,this]
  ·left
   refine⟨[.bool (!pU (l.take (i+1)) m d),I ((i+1:Nat):Int)],?_,rfl,?_⟩
   ·simp only[hgt,if_false,aH (aS (i:=i) (by omega)),Option.bind_some]
    have e:(!pU (l.take (i+1)) m d)=(!pU (l.take i) m d&&decide (V.dot m l[i]=d)):=by
     rw[ht];simp only[pU,List.any_append,List.any_cons,List.any_nil,Bool.or_false,Bool.not_or]
     congr 1
     by_cases h2:V.dot m l[i]=d
     ·simp[h2]
     ·have:V.dot m l[i]<d:=by omega
      simp[h2,this]
    rw[e]
    cases pU (l.take i) m d<;>simp
   ·rw[ht];simp only[xb,List.all_append,Bool.and_eq_true] at hs ⊢
    exact⟨hs,by simp;omega⟩
 ·obtain⟨rfl,hs⟩:=hJ
  refine⟨(1,[.bool (!pU (l.take l.length) m d)]),?_,?_⟩
  ·simp only[g0,g1,List.length_map,aj,Option.bind_some,ag,decide_eq_true_eq,Int.lt_irrefl,if_false]
  ·rw[List.take_length] at *
   simp[g0,hs,dc]
end Go.Proofs.YtjjjkojfijpeeaaGreat.Sy
end
section
set_option linter.unusedVariables false
namespace Go.Proofs.YtjjjkojfijpeeaaGreat.Sy
open Go Go.Proofs Go.Proofs.YtjjjkojfijpeeaaGreat.Geo
theorem C9{α:Type}{body:Bd}{s0:List D}{k:Nat×List D->Option α}{Y:α->Prop}(J:Nat->List D->Prop)(n i0:Nat)(hi:i0<=n)(h0:J i0 s0)
  (hs:∀ i,i<n->∀ s,J i s->∃ z,body s=some z/\match z with|.inl s'=>J (i+1) s'|.inr r=>∃ y,k r=some y/\Y y)
  (he:∀ s,J n s->∃ z,body s=some z/\match z with|.inl _=>False|.inr r=>∃ y,k r=some y/\Y y):∃ y,Option.bind (bo body s0) k=some y/\Y y:=by
 obtain⟨m,hm⟩:∃ m,m=n-i0:=⟨_,rfl⟩
 induction m generalizing i0 s0 with
 | zero=>
  have:i0=n:=by omega
  subst this
  obtain⟨z,h1,h2⟩:=he s0 h0
  cases z with
  | inl s'=>exact h2.elim
  | inr r=>obtain⟨y,h3,h4⟩:=h2;exact⟨y,by rw[show bo body s0=some r from fg h1];exact h3,h4⟩
 | succ m ih=>
  obtain⟨z,h1,h2⟩:=hs i0 (by omega) s0 h0
  cases z with
  | inl s'=>
   obtain⟨y,h3,h4⟩:=ih (i0:=i0+1) (by omega) h2 (by omega)
   exact⟨y,by rw[show bo body s0=bo body s' from eO h1];exact h3,h4⟩
  | inr r=>obtain⟨y,h3,h4⟩:=h2;exact⟨y,by rw[show bo body s0=some r from fg h1];exact h3,h4⟩
theorem cn{α:Type}{body:Bd}{s s':List D}{k:Nat×List D->Option α}{y:α}(h:body s=some (.inl s'))(hk:Option.bind (bo body s') k=some y):Option.bind (bo body s) k=some y:=by
 have:bo body s=bo body s':=eO h
 rw[this];exact hk
theorem iJ{α:Type}{body:Bd}{s:List D}{r:Nat×List D}{k:Nat×List D->Option α}{y:α}(h:body s=some (.inr r))(hk:k r=some y):Option.bind (bo body s) k=some y:=by
 have:bo body s=some r:=fg h
 rw[this];exact hk
theorem cV{α:Type}{body:Bd}{s0:List D}{k:Nat×List D->Option α}{y:α}(J:Nat->List D->Prop)(n i0:Nat)(hi:i0<=n)(h0:J i0 s0)
  (hs:∀ i,i<n->∀ s,J i s->(∃ s',body s=some (.inl s')/\J (i+1) s')\/∃ r,body s=some (.inr r)/\k r=some y) (he:∀ s,J n s->∃ r,body s=some (.inr r)/\k r=some y):Option.bind (bo body s0) k=some y:=by
 obtain⟨m,hm⟩:∃ m,m=n-i0:=⟨_,rfl⟩
 induction m generalizing i0 s0 with
 | zero=>
  have:i0=n:=by omega
  subst this
  obtain⟨r,h1,h2⟩:=he s0 h0
  exact iJ h1 h2
 | succ m ih=>
  rcases hs i0 (by omega) s0 h0 with⟨s',h1,h2⟩|⟨r,h1,h2⟩
  ·exact cn h1 (ih (i0:=i0+1) (by omega) h2 (by omega))
  ·exact iJ h1 h2
theorem aa{α β:Type}{A:Option α}{g:α->Option β}{z:α}{y:β}(h:A=some z)(hk:g z=some y):Option.bind A g=some y:=by
 rw[h];exact hk
theorem D2(u v:V):D.beq (aq u) (aq v)=decide (u=v):=by
 simp only[aq,D.beq,D.beqs,decide_true,Bool.true_and,Bool.and_true]
 by_cases h:u=v
 ·subst h;simp
 ·by_cases h1:u.x=v.x<;>by_cases h2:u.y=v.y<;>by_cases h3:u.z=v.z<;>simp[h,h1,h2,h3]
  exact h (V.ext' h1 h2 h3)
theorem GB(p q:V×Int):D.beq (bw p) (bw q)=decide (p=q):=by
 have:D.beq (bw p) (bw q)=(D.beq (aq p.1) (aq q.1)&&(D.beq (I p.2) (I q.2)&&true)):=rfl
 rw[this,D2,dN]
 obtain⟨a,b⟩:=p
 obtain⟨c,d⟩:=q
 by_cases h1:a=c<;>by_cases h2:b=d<;>simp[h1,h2]
def gE(K:List (V×Int)):List D:=K.map fun q=>.st [bw q,.bool true]
theorem tu:∀ (K:List (V×Int)) (q:V×Int),D.mget (gE K) (bw q)=if q∈K then some (.bool true) else none
 | [],q=>by simp[gE,D.mget]
 | p::K,q=>by
  have ih:=tu K q
  simp only[gE,List.map_cons,D.mget,GB] at ih ⊢
  by_cases h:q=p
  ·simp[h]
  ·rw[ih];simp[h]
theorem uf:∀ (K:List (V×Int)) (q:V×Int),q ∉ K->D.mput (gE K) (bw q) (.bool true)=gE (K++[q])
 | [],q,_=>rfl
 | p::K,q,h=>by
  have ih:=uf K q (fun hq=>h (List.mem_cons_of_mem _ hq))
  have hne:¬ q=p:=fun e=>h (by rw[e];exact List.mem_cons_self)
  simp only[gE,List.map_cons,List.cons_append,D.mput,GB,hne,decide_false,Bool.false_eq_true,if_false] at ih ⊢
  rw[ih]
theorem Bw(K:List (V×Int)):(gE K).map so=K.map bw:=by simp[gE,so]
def supp(l:List V)(q:V×Int):Bool:=xb l q.1 q.2&&pU l q.1 q.2
def g8(l:List V)(K:List (V×Int))(q:V×Int):List (V×Int):=if q∈K then K else if supp l q then K++[q] else K
theorem rJ{l:List V}{K:List (V×Int)}{q x:V×Int}(h:x∈K):x∈g8 l K q:=by
 unfold g8
 split
 ·exact h
 ·split
  ·exact List.mem_append_left _ h
  ·exact h
theorem w9{l:List V}{K:List (V×Int)}{q:V×Int}(h:supp l q=true):q∈g8 l K q:=by
 unfold g8
 split
 ·assumption
 ·simp
theorem wL{l:List V}{K:List (V×Int)}{q x:V×Int}(h:x∈g8 l K q):x∈K\/(x=q/\supp l q=true):=by
 unfold g8 at h
 split at h
 ·exact .inl h
 ·split at h
  ·rename_i hs
   rcases List.mem_append.1 h with h|h
   ·exact .inl h
   ·exact .inr ⟨List.mem_singleton.1 h,hs⟩
  ·exact .inl h
theorem qs{l:List V}{K:List (V×Int)}{q:V×Int}(h:K.Nodup):(g8 l K q).Nodup:=by
 unfold g8
 split
 ·exact h
 ·rename_i hq
  split
  ·exact List.nodup_append.2 ⟨h,by simp,fun x hx y hy e=>hq (by rw[List.mem_singleton.1 hy] at e;exact e ▸ hx)⟩
  ·exact h
def nO(a b c:V):V×Int:=(bF (V.cross (b.sub a) (c.sub a)),V.dot (bF (V.cross (b.sub a) (c.sub a))) a)
def lu(q:V×Int):V×Int:=(q.1.neg,-q.2)
def Cd(l:List V)(i j k:Nat)(q:V×Int):Prop:=(nO (l.getD i V.zero) (l.getD j V.zero) (l.getD k V.zero)).1≠V.zero/\(q=nO (l.getD i V.zero) (l.getD j V.zero) (l.getD k V.zero)\/q=lu (nO (l.getD i V.zero) (l.getD j V.zero) (l.getD k V.zero)))
structure Known(l:List V)(i j k:Nat)(K:List (V×Int)):Prop where
 nd:K.Nodup
 ok:∀ q∈K,supp l q=true/\∃ i j k,k<j/\j<i/\i<l.length/\Cd l i j k q
 all:∀ i' j' k',k'<j'->j'<i'->i'<l.length->(i'<i\/i'=i/\(j'<j\/j'=j/\k'<k))->∀ q,Cd l i' j' k' q->supp l q=true->q∈K
theorem Ht{a b c:V}(ha:bd MV a)(hb:bd MV b)(hc:bd MV c):bd 549755813888 (nO a b c).1/\inR (nO a b c).2/\inR (-(nO a b c).2):=by
 have h1:bd 524288 (b.sub a):=by have:=ql hb ha;simpa [MV] using this
 have h2:bd 524288 (c.sub a):=by have:=ql hc ha;simpa [MV] using this
 have h3:=ut (ki h1 h2)
 have h4:=Ci h3 ha
 simp only[MV] at h4
 refine⟨h3,?_,?_⟩<;>simp only[inR,nO]<;>omega
theorem Known.step{l:List V}{i j k:Nat}{K:List (V×Int)}(h:Known l i j k K)(hk:k<j)(hj:j<i)(hi:i<l.length)(hz:(nO (l.getD i V.zero) (l.getD j V.zero) (l.getD k V.zero)).1≠V.zero) :
  Known l i j (k+1) (g8 l (g8 l K (nO (l.getD i V.zero) (l.getD j V.zero) (l.getD k V.zero))) (lu (nO (l.getD i V.zero) (l.getD j V.zero) (l.getD k V.zero)))):=by
 refine⟨qs (qs h.nd),fun q hq=>?_,fun i' j' k' h1 h2 h3 h4 q hq hs=>?_⟩
 ·rcases wL hq with hq|⟨rfl,hs⟩
  ·rcases wL hq with hq|⟨rfl,hs⟩
   ·exact h.ok q hq
   ·exact⟨hs,i,j,k,hk,hj,hi,hz,.inl rfl⟩
  ·exact⟨hs,i,j,k,hk,hj,hi,hz,.inr rfl⟩
 ·by_cases e:i'=i/\j'=j/\k'=k
  ·obtain⟨rfl,rfl,rfl⟩:=e
   rcases hq.2 with rfl|rfl
   ·exact rJ (w9 hs)
   ·exact w9 hs
  ·exact rJ (rJ (h.all i' j' k' h1 h2 h3 (by omega) q hq hs))
theorem Known.skip{l:List V}{i j k:Nat}{K:List (V×Int)}(h:Known l i j k K)(hz:(nO (l.getD i V.zero) (l.getD j V.zero) (l.getD k V.zero)).1=V.zero):Known l i j (k+1) K:=by
 refine⟨h.nd,h.ok,fun i' j' k' h1 h2 h3 h4 q hq hs=>?_⟩
 by_cases e:i'=i/\j'=j/\k'=k
 ·obtain⟨rfl,rfl,rfl⟩:=e
  exact absurd hz hq.1
 ·exact h.all i' j' k' h1 h2 h3 (by omega) q hq hs
theorem Known.next{l:List V}{i j:Nat}{K:List (V×Int)}(h:Known l i j j K):Known l i (j+1) 0 K:=
 ⟨h.nd,h.ok,fun i' j' k' h1 h2 h3 h4=>h.all i' j' k' h1 h2 h3 (by omega)⟩
theorem Known.next2{l:List V}{i:Nat}{K:List (V×Int)}(h:Known l i i 0 K):Known l (i+1) 0 0 K:=
 ⟨h.nd,h.ok,fun i' j' k' h1 h2 h3 h4=>h.all i' j' k' h1 h2 h3 (by omega)⟩
theorem lX{α β:Type}{f:α->List β}{c:Nat}:∀ l:List α,(∀ x∈l,(f x).length=c)->(l.flatMap f).length=l.length*c
 | [],_=>by simp
 | x::l,h=>by
  rw[List.flatMap_cons,List.length_append,h x List.mem_cons_self,lX l (fun y hy=>h y (List.mem_cons_of_mem _ hy)),List.length_cons,Nat.succ_mul]
  omega
theorem Known.len{l:List V}{i j k:Nat}{K:List (V×Int)}(h:Known l i j k K)(hl:l.length<=100):K.length<=2000000:=by
 have h1:=List.Nodup.length_le_of_subset (l₂:=(List.range l.length).flatMap fun i=>(List.range l.length).flatMap fun j=>(List.range l.length).flatMap fun k=>[nO (l.getD i V.zero) (l.getD j V.zero) (l.getD k V.zero),lu (nO (l.getD i V.zero) (l.getD j V.zero) (l.getD k V.zero))]) h.nd (fun q hq=>by
  obtain⟨_,i,j,k,h1,h2,h3,h4⟩:=h.ok q hq
  refine List.mem_flatMap.2 ⟨i,List.mem_range.2 h3,List.mem_flatMap.2 ⟨j,List.mem_range.2 (by omega),List.mem_flatMap.2 ⟨k,List.mem_range.2 (by omega),?_⟩⟩⟩
  rcases h4.2 with rfl|rfl<;>simp)
 rw[lX (c:=l.length*(l.length*2)) _ (fun i _=>by rw[lX (c:=l.length*2) _ (fun j _=>by rw[lX (c:=2) _ (fun k _=>rfl),List.length_range]),List.length_range]),List.length_range] at h1
 refine Nat.le_trans h1 ?_
 have a1:l.length*2<=200:=by omega
 have a2:l.length*(l.length*2)<=100*200:=Nat.mul_le_mul hl a1
 have a3:l.length*(l.length*(l.length*2))<=100*(100*200):=Nat.mul_le_mul hl a2
 exact a3
theorem lF{l:List V}{i:Nat}(h:i<l.length):(l.map aq)[i]?=some (aq (l.getD i V.zero)):=by simp[h,List.getD]
theorem ie{l:List V}{i:Nat}(h:i<l.length):l.getD i V.zero∈l:=by simp[List.getD,h]
theorem Bv{n:Nat}{l:List V}{K:List (V×Int)}{q:V×Int}(hl:∀ x∈l,bd MV x)(hq:bd 549755813888 q.1)(hlen:l.length<=1000) :
  (if(!decide (q∈K))=true then(Option.bind (cA (n+2) 98 [cT l,bw q]) fun r=>D.truth r) else some false)=some (!decide (q∈K)&&supp l q):=by
 obtain⟨m,d⟩:=q
 have hc:=OD n (d:=d) hl hq (by decide) (by omega)
 simp only[hc,Option.bind_some,ag]
 cases decide ((m,d)∈K)<;>rfl
end Go.Proofs.YtjjjkojfijpeeaaGreat.Sy
end
section
set_option linter.unusedVariables false
namespace Go.Proofs.YtjjjkojfijpeeaaGreat.Sy
open Go Go.Proofs Go.Proofs.YtjjjkojfijpeeaaGreat.Geo
theorem uY{a b:V}(h:aB a b):mH [bD a.x b.x,bD a.y b.y,bD a.z b.z]=-1:=by
 simp only[aB] at h
 rcases h with h|⟨h1,h|⟨h2,h⟩⟩
 ·simp[mH,bD,h]
 ·simp[mH,bD,h1,h]
 ·simp[mH,bD,h1,h2,h]
theorem vq{a b:V}(h:aB b a):mH [bD a.x b.x,bD a.y b.y,bD a.z b.z]=1:=by
 simp only[aB] at h
 rcases h with h|⟨h1,h|⟨h2,h⟩⟩
 ·simp[mH,bD,h,Int.not_lt.2 (Int.le_of_lt h)]
 ·simp[mH,bD,h1,h,Int.not_lt.2 (Int.le_of_lt h)]
 ·simp[mH,bD,h1,h2,h,Int.not_lt.2 (Int.le_of_lt h)]
theorem ul(a:V):mH [bD a.x a.x,bD a.y a.y,bD a.z a.z]=0:=by simp[mH,bD]
theorem AH{α:Type}(key:α->V):∀ (K:List α),K.Pairwise (fun a b=>key a≠key b)->∃ L:List α,L.Perm K/\L.Pairwise (fun a b=>aB (key a) (key b))
 | [],_=>⟨[],.refl _,.nil⟩
 | x::K,h=>by
  obtain⟨h1,h2⟩:=List.pairwise_cons.1 h
  obtain⟨L,p1,p2⟩:=AH key K h2
  have hne:∀ y∈L,key x≠key y:=fun y hy=>h1 y (p1.subset hy)
  have ins:∀ L:List α,L.Pairwise (fun a b=>aB (key a) (key b))->(∀ y∈L,key x≠key y)->∃ M:List α,M.Perm (x::L)/\M.Pairwise (fun a b=>aB (key a) (key b)):=by
   intro L
   induction L with
   | nil=>intro _ _;exact⟨[x],.refl _,by simp⟩
   | cons y L ih=>
    intro hp hn
    obtain⟨q1,q2⟩:=List.pairwise_cons.1 hp
    rcases lr (hn y List.mem_cons_self) with k|k
    ·refine⟨x::y::L,.refl _,List.pairwise_cons.2 ⟨fun z hz=>?_,hp⟩⟩
     rcases List.mem_cons.1 hz with rfl|hz
     ·exact k
     ·exact iO k (q1 z hz)
    ·obtain⟨M,m1,m2⟩:=ih q2 (fun z hz=>hn z (List.mem_cons_of_mem _ hz))
     refine⟨y::M,(m1.cons y).trans (.swap x y L),List.pairwise_cons.2 ⟨fun z hz=>?_,m2⟩⟩
     rcases List.mem_cons.1 (m1.subset hz) with rfl|hz
     ·exact k
     ·exact q1 z hz
  obtain⟨M,m1,m2⟩:=ins L p2 hne
  exact⟨M,m1.trans (p1.cons x),m2⟩
theorem zU(n:Nat)(p q:V×Int):ns (bZ bo (cA (n+3)) (eP bo (cA (n+3)))) 100 (bw p) (bw q)=some (mH [bD p.1.x q.1.x,bD p.1.y q.1.y,bD p.1.z q.1.z]):=by
 unfold ns
 rw[show(bZ bo (cA (n+3)) (eP bo (cA (n+3)))).call=cA (n+3) from rfl,Mq]
 rfl
theorem Df(n:Nat):∀ (L:List (V×Int)),L.Pairwise (fun a b=>aB a.1 b.1)->iY (bZ bo (cA (n+3)) (eP bo (cA (n+3)))) 100 (L.map bw)=true
 | [],_=>rfl
 | p::L,h=>by
  obtain⟨h1,h2⟩:=List.pairwise_cons.1 h
  simp only[List.map_cons,iY,Bool.and_eq_true,List.all_eq_true,List.mem_map]
  refine⟨⟨?_,?_⟩,Df n L h2⟩
  ·simp only[zw,zU,ul];decide
  ·rintro _ ⟨q,hq,rfl⟩
   simp only[j6,zw,zU,uY (h1 q hq),vq (h1 q hq)];decide
theorem F4(n:Nat){K L:List (V×Int)}(hp:L.Perm K)(h:L.Pairwise (fun a b=>aB a.1 b.1)):iN (bZ bo (cA (n+3)) (eP bo (cA (n+3)))) 100 (K.map bw)=some (L.map bw):=
 qS (Df n L h) (hp.symm.map _)
def pt(l:List V)(i:Nat):V:=l.getD i V.zero
theorem kX(a b:V):V.dot a.neg b=- V.dot a b:=by simp only[V.dot,V.neg];grind
theorem Cd.dist{l:List V}{i j k:Nat}{q:V×Int}(h:Cd l i j k q):q.2=V.dot q.1 (l.getD i V.zero):=by
 rcases h.2 with rfl|rfl
 ·rfl
 ·simp only[lu,kX];rfl
theorem zA{l:List V}{q:V×Int}(h:supp l q=true){x:V}(hx:x∈l):V.dot q.1 x<=q.2:=by
 simp only[supp,xb,Bool.and_eq_true,List.all_eq_true,decide_eq_true_eq] at h
 exact h.1 x hx
theorem Known.keys{l:List V}{i j k:Nat}{K:List (V×Int)}(h:Known l i j k K):K.Pairwise (fun a b=>a.1≠b.1):=by
 refine List.Pairwise.imp_of_mem (fun{a b} ha hb hab e=>hab ?_) h.nd
 obtain⟨s1,i1,j1,k1,_,_,h1,c1⟩:=h.ok a ha
 obtain⟨s2,i2,j2,k2,_,_,h2,c2⟩:=h.ok b hb
 have e1:=c1.dist
 have e2:=c2.dist
 have l1:=zA s1 (ie h2)
 have l2:=zA s2 (ie h1)
 rw[e] at e1 l1
 exact Prod.ext e (by omega)
theorem Nr(n:Nat){l:List V}(hl:∀ x∈l,bd MV x)(hlen:l.length<=100):∃ y,cA (n+6) 45 [cT l]=some y/\∃ K L:List (V×Int),Known l l.length 0 0 K/\L.Perm K/\L.Pairwise (fun a b=>aB a.1 b.1)/\y=.sl (L.map bw):=by
 rw[O0]
 unfold HZ
 simp only[cT,D.asSl,Option.bind_some]
 refine C9 (fun i s=>∃ K,s=[I i,.sl (gE K)]/\Known l i 0 0 K) l.length 0 (Nat.zero_le _) ⟨[],rfl,⟨List.nodup_nil,by simp,fun i' j' k' _ _ _ h=>by omega⟩⟩ (fun i hi s hJ=>?_) (fun s hJ=>?_)
 ·obtain⟨K,rfl,hK⟩:=hJ
  simp only[g0,g1,List.length_map,aj,Option.bind_some,ag,decide_eq_true_eq,show((i:Int)<(l.length:Int)) from by omega,if_true,D.els]
  refine C9 (fun j s=>∃ K,s=[I j,.sl (gE K)]/\Known l i j 0 K) i 0 (Nat.zero_le _) ⟨K,rfl,hK⟩ (fun j hj s hJ=>?_) (fun s hJ=>?_)
  ·obtain⟨K,rfl,hK⟩:=hJ
   simp only[g0,g1,aj,Option.bind_some,ag,decide_eq_true_eq,show((j:Int)<(i:Int)) from by omega,if_true,D.els]
   refine C9 (fun k s=>∃ K,s=[I k,.sl (gE K)]/\Known l i j k K) j 0 (Nat.zero_le _) ⟨K,rfl,hK⟩ (fun k hk s hJ=>?_) (fun s hJ=>?_)
   ·obtain⟨K,rfl,hK⟩:=hJ
    have hthr:=Ht (hl _ (ie hi)) (hl _ (ie (show j<l.length by omega))) (hl _ (ie (show k<l.length by omega)))
    have hc:=NX (n+2) (hl _ (ie hi)) (hl _ (ie (show j<l.length by omega))) (hl _ (ie (show k<l.length by omega)))
    rw[show(bF (V.cross ((l.getD j V.zero).sub (l.getD i V.zero)) ((l.getD k V.zero).sub (l.getD i V.zero))),V.dot (bF (V.cross ((l.getD j V.zero).sub (l.getD i V.zero)) ((l.getD k V.zero).sub (l.getD i V.zero)))) (l.getD i V.zero))=nO (l.getD i V.zero) (l.getD j V.zero) (l.getD k V.zero) from rfl] at hc
    simp only[g0,g1,aj,Option.bind_some,ag,decide_eq_true_eq,show((k:Int)<(j:Int)) from by omega,if_true,D.els,List.length_map,aK hi,aK (show j<l.length by omega),aK (show k<l.length by omega),lF hi,lF (show j<l.length by omega),lF (show k<l.length by omega),hc]
    by_cases hz:(nO (l.getD i V.zero) (l.getD j V.zero) (l.getD k V.zero)).1=V.zero
    ·have hb:D.beq (aq (nO (l.getD i V.zero) (l.getD j V.zero) (l.getD k V.zero)).1) (D.st [D.int .i64 0,D.int .i64 0,D.int .i64 0])=true:=by
      rw[C5,D2];exact decide_eq_true hz
     simp only[show D.get (bw (nO (l.getD i V.zero) (l.getD j V.zero) (l.getD k V.zero))) [0]=some (aq (nO (l.getD i V.zero) (l.getD j V.zero) (l.getD k V.zero)).1) from rfl,Option.bind_some,hb,ag,if_true,g0,D.els,aH (aS (i:=k) (by omega))]
     exact⟨_,rfl,K,rfl,hK.skip hz⟩
    ·have hb:D.beq (aq (nO (l.getD i V.zero) (l.getD j V.zero) (l.getD k V.zero)).1) (D.st [D.int .i64 0,D.int .i64 0,D.int .i64 0])=false:=by
      rw[C5,D2];exact decide_eq_false hz
     have step:=hK.step hk hj hi hz
     generalize hq:nO (l.getD i V.zero) (l.getD j V.zero) (l.getD k V.zero)=q at *
     obtain⟨b1,b2,b3⟩:=hthr
     have hfl:D.st [aq q.1.neg,I (-q.2)]=bw (lu q):=rfl
     have b4:bd 549755813888 (lu q).1:=yb b1
     simp only[show D.get (bw q) [0]=some (aq q.1) from rfl,show D.get (bw q) [1]=some (I q.2) from rfl,Option.bind_some,hb,ag,Bool.false_eq_true,if_false,Nz (n+4) b1 (by decide),po b3,hfl]
     have one:∀ (K:List (V×Int)) (p:V×Int),bd 549755813888 p.1->(Option.bind (D.un .not (Option.getD (D.mget (gE K) (bw p)) (D.bool false))) fun x32=>Option.bind (D.truth x32) fun b33=>Option.bind (if b33 then(Option.bind (cA (n+5) 98 [D.sl (l.map aq),bw p]) fun r34=>D.truth r34) else(some false)) fun b36=>
       if b36 then(some ((0:Nat),[(D.sl [bw q,bw (lu q)]),(D.sl (D.mput (gE K) (bw p) (D.bool true)))])) else(some (0,[(D.sl [bw q,bw (lu q)]),(D.sl (gE K))])))=some (0,[D.sl [bw q,bw (lu q)],D.sl (gE (g8 l K p))]):=fun K p hp=>by
      rw[tu]
      have ht:=Bv (n:=n+3) (K:=K) hl hp (by omega)
      simp only[cT] at ht
      by_cases hm:p∈K
      ·simp[hm,dc,ag,g8]
      ·simp only[hm,if_false,Option.getD_none,dc,Bool.not_false,Option.bind_some,ag,if_true,decide_false,Bool.true_and] at ht ⊢
       rw[ht]
       simp only[Option.bind_some,g8,hm,if_false]
       split
       ·rw[uf K p hm]
       ·rfl
     refine⟨.inl [I ((k+1:Nat):Int),.sl (gE (g8 l (g8 l K q) (lu q)))],?_,_,rfl,step⟩
     refine aa (z:=(0,[.sl (gE (g8 l (g8 l K q) (lu q)))])) ?_ ?_
     ·refine cn (s':=[.sl [bw q,bw (lu q)],I 1,.sl (gE (g8 l K q))]) ?_ (cn (s':=[.sl [bw q,bw (lu q)],I 2,.sl (gE (g8 l (g8 l K q) (lu q)))]) ?_ (iJ (r:=(0,[.sl (gE (g8 l (g8 l K q) (lu q)))])) ?_ rfl))
      ·simp only[g0,g1,g2,D.els,aj,Option.bind_some,ag,decide_eq_true_eq,show((0:Int)<2) from by decide,if_true,List.length_cons,List.length_nil,show D.idx (I 0) (0+1+1)=some 0 from rfl,List.getElem?_cons_zero,aH M4]
       exact aa (one K q b1) rfl
      ·simp only[g0,g1,g2,D.els,aj,Option.bind_some,ag,decide_eq_true_eq,show((1:Int)<2) from by decide,if_true,List.length_cons,List.length_nil,show D.idx (I 1) (0+1+1)=some 1 from rfl,List.getElem?_cons_succ,List.getElem?_cons_zero,aH Eh]
       exact aa (one (g8 l K q) (lu q) b4) rfl
      ·simp only[g0,g1,g2,D.els,aj,Option.bind_some,ag];rfl
     ·simp only[g0,D.els,aH (aS (i:=k) (by omega)),Option.bind_some]
      rfl
   ·obtain⟨K,rfl,hK⟩:=hJ
    simp only[g0,g1,aj,Option.bind_some,ag,decide_eq_true_eq,Int.lt_irrefl,if_false,D.els]
    refine⟨_,rfl,.inl [I ((j+1:Nat):Int),.sl (gE K)],?_,K,rfl,hK.next⟩
    simp only[g0,D.els,aH (aS (i:=j) (by omega)),Option.bind_some]
    rfl
  ·obtain⟨K,rfl,hK⟩:=hJ
   simp only[g0,g1,aj,Option.bind_some,ag,decide_eq_true_eq,Int.lt_irrefl,if_false,D.els]
   refine⟨_,rfl,.inl [I ((i+1:Nat):Int),.sl (gE K)],?_,K,rfl,hK.next2⟩
   simp only[g0,D.els,aH (aS (i:=i) (by omega)),Option.bind_some]
   rfl
 ·obtain⟨K,rfl,hK⟩:=hJ
  simp only[g0,g1,List.length_map,aj,Option.bind_some,ag,decide_eq_true_eq,Int.lt_irrefl,if_false,D.els]
  obtain⟨L,p1,p2⟩:=AH (fun q:V×Int=>q.1) K hK.keys
  refine⟨_,rfl,.sl (L.map bw),?_,K,L,hK,p1,p2,rfl⟩
  have hKl:(gE K).length<=1073741824:=by
   have:=hK.len hlen
   simp only[gE,List.length_map];omega
  simp only[g0,D.els,hKl,decide_true,if_true,Bw,F4 (n+2) p1 p2,Option.bind_some]
end Go.Proofs.YtjjjkojfijpeeaaGreat.Sy
end
section
set_option linter.unusedVariables false
namespace Go.Proofs.YtjjjkojfijpeeaaGreat.Sy
open Go Go.Proofs Go.Proofs.YtjjjkojfijpeeaaGreat.Geo
theorem wH{l:List V}{q:V×Int}:supp l q=true↔FI (pt l) l.length q.1 q.2:=by
 simp only[supp,xb,pU,Bool.and_eq_true,List.all_eq_true,List.any_eq_true,decide_eq_true_eq,FI,pt]
 constructor
 ·rintro⟨h1,x,hx,h2⟩
  obtain⟨k,hk,rfl⟩:=List.getElem_of_mem hx
  exact⟨fun k hk=>h1 _ (ie hk),k,hk,by simpa [List.getD,hk] using h2⟩
 ·rintro⟨h1,k,hk,h2⟩
  refine⟨fun x hx=>?_,_,ie hk,h2⟩
  obtain⟨k,hk,rfl⟩:=List.getElem_of_mem hx
  simpa [List.getD,hk] using h1 k hk
theorem EU(P:Nat->V)(i j k:Nat):V.cross ((P j).sub (P i)) ((P k).sub (P i))=(eZ P k j i).neg:=by
 apply V.ext'<;>simp only[eZ,wy,V.cross,V.sub,V.neg]<;>grind
theorem wq{P:Nat->V}{i j k:Nat}:V.dot (bF (eZ P i j k)) (P k)=V.dot (bF (eZ P i j k)) (P i):=by
 by_cases h:eZ P i j k=V.zero
 ·have e0:bF V.zero=V.zero:=by apply V.ext'<;>simp[bF,V.zero]
  rw[h,e0];simp[V.dot,V.zero]
 ·have g:=kp h
  have e:=gT (eZ P i j k)
  have t2:V.dot (eZ P i j k) (wy P i k)=0:=by simp only[eZ,V.dot,V.cross];grind
  rw[e] at t2
  have:(bT (eZ P i j k):Int)*V.dot (bF (eZ P i j k)) (wy P i k)=0:=by rw[<-t2];simp only[V.dot,V.smul];grind
  have h0:=aO (by omega) this
  rw[cr] at h0
  omega
theorem GV{v:V}(h:v≠V.zero):v.neg≠V.zero:=fun e=>by
 have e1:=congrArg V.x e;have e2:=congrArg V.y e;have e3:=congrArg V.z e
 simp only[V.neg,V.zero] at e1 e2 e3
 exact h (V.ext' (by simp only[V.zero];omega) (by simp only[V.zero];omega) (by simp only[V.zero];omega))
theorem Gq(l:List V)(i j k:Nat):(nO (pt l i) (pt l j) (pt l k)).1=(bF (eZ (pt l) k j i)).neg:=by
 simp only[nO,EU (pt l) i j k,wI]
theorem xc(v:V):v.neg.neg=v:=by apply V.ext'<;>simp[V.neg]
theorem Db{l:List V}{i j k:Nat}{q:V×Int}:Cd l i j k q↔eZ (pt l) k j i≠V.zero/\(q.1=bF (eZ (pt l) k j i)\/q.1=(bF (eZ (pt l) k j i)).neg)/\q.2=V.dot q.1 (pt l k):=by
 have e:=Gq l i j k
 have hd:V.dot (bF (eZ (pt l) k j i)) (pt l i)=V.dot (bF (eZ (pt l) k j i)) (pt l k):=wq
 have hz:(nO (pt l i) (pt l j) (pt l k)).1≠V.zero↔eZ (pt l) k j i≠V.zero:=by
  rw[e]
  constructor
  ·intro h h0;rw[h0] at h;exact h rfl
  ·intro h;exact GV (vf h)
 constructor
 ·intro h
  have hds:=h.dist
  obtain⟨h1,h2⟩:=h
  refine⟨hz.1 h1,?_⟩
  have hq:q.1=bF (eZ (pt l) k j i)\/q.1=(bF (eZ (pt l) k j i)).neg:=by
   rcases h2 with rfl|rfl
   ·exact .inr e
   ·left
    show(nO (pt l i) (pt l j) (pt l k)).1.neg=_
    rw[e,xc]
  refine⟨hq,?_⟩
  rw[hds]
  rcases hq with hq|hq
  ·rw[hq];exact hd
  ·rw[hq,kX,kX];exact congrArg Neg.neg hd
 ·rintro⟨h1,h2,h3⟩
  refine⟨hz.2 h1,?_⟩
  have e2:(nO (pt l i) (pt l j) (pt l k)).2=V.dot (nO (pt l i) (pt l j) (pt l k)).1 (pt l i):=rfl
  obtain⟨a,b⟩:=q
  simp only at h2 h3
  subst h3
  rcases h2 with rfl|rfl
  ·right
   show _=((nO (pt l i) (pt l j) (pt l k)).1.neg,-(nO (pt l i) (pt l j) (pt l k)).2)
   rw[e2,e,xc,kX,hd,Int.neg_neg]
  ·left
   refine Prod.ext e.symm ?_
   show _=(nO (pt l i) (pt l j) (pt l k)).2
   rw[e2,e,kX,kX,hd]
theorem Known.facets{l:List V}{K L:List (V×Int)}(h:Known l l.length 0 0 K)(hp:L.Perm K)(ho:L.Pairwise (fun a b=>aB a.1 b.1)):Facets (pt l) l.length L:=by
 refine⟨ho,fun q=>⟨fun hq=>?_,fun hq=>?_⟩⟩
 ·obtain⟨hs,i,j,k,h1,h2,h3,hc⟩:=h.ok q (hp.subset hq)
  obtain⟨c1,c2,c3⟩:=Db.1 hc
  exact⟨⟨k,j,i,h1,h2,h3,c1,c2,c3⟩,wH.1 hs⟩
 ·obtain⟨⟨i,j,k,h1,h2,h3,c1,c2,c3⟩,hs⟩:=hq
  exact hp.symm.subset (h.all k j i h1 h2 h3 (.inl h3) q (Db.2 ⟨c1,c2,c3⟩) (wH.2 hs))
end Go.Proofs.YtjjjkojfijpeeaaGreat.Sy
end
section
set_option linter.unusedVariables false
namespace Go.Proofs.YtjjjkojfijpeeaaGreat.Sy
open Go Go.Proofs Go.Proofs.YtjjjkojfijpeeaaGreat.Geo
def nF:Option Nat->D
 | none=>I (-1)
 | some b=>I (b:Int)
theorem J9{α:Type}{p:Prop}[Decidable p]{A B:α}(h:p):(if decide p=true then A else B)=A:=by rw[if_pos (decide_eq_true h)]
theorem KD{α:Type}{p:Prop}[Decidable p]{A B:α}(h:¬ p):(if decide p=true then A else B)=B:=by rw[if_neg (by simpa using h)]
theorem aX{α:Type}{p:Prop}[Decidable p]{A B y:α}(h:p)(hA:A=y):(if decide p=true then A else B)=y:=by rw[if_pos (decide_eq_true h)];exact hA
theorem ba{α:Type}{p:Prop}[Decidable p]{A B y:α}(h:¬ p)(hA:B=y):(if decide p=true then A else B)=y:=by rw[if_neg (by simpa using h)];exact hA
theorem IG{x:Int}:sg x<0↔x<0:=by unfold sg;split<;>(try split)<;>omega
theorem Eo{x:Int}:sg x=0↔x=0:=by unfold sg;split<;>(try split)<;>omega
theorem eK(a b:Nat):D.beq (I (a:Int)) (I (b:Int))=decide (a=b):=by
 rw[dN];by_cases h:a=b<;>simp[h];omega
theorem GY(n:Nat){l:List V}(hl:∀ x∈l,bd MV x){m:V}{d:Int}{a k:Nat}{best:Option Nat}(hm0:m≠V.zero)(ha:a<l.length)(hk:k<l.length)(hb:∀ b,best=some b->b<l.length/\V.dot m (wy (pt l) a b)=0)(hk0:V.dot m (wy (pt l) a k)=0)(X:D) :
  (Option.bind (D.truth (D.bool (D.beq (I (k:Int)) (I (a:Int))))) fun b25=>
  if b25 then(some ((0:Nat),[nF best,X])) else(Option.bind (D.bin .lss (nF best) (D.int .i64 0)) fun x26=>
  Option.bind (D.truth x26) fun b27=>
  if b27 then(some (0,[I (k:Int),X])) else(Option.bind (D.asSl (cT l)) fun l28=>
  Option.bind (D.idx (I (k:Int)) (List.length l28)) fun i29=>
  Option.bind (l28[i29]?) fun x30=>
  Option.bind (D.asSl (cT l)) fun l31=>
  Option.bind (D.idx (I (a:Int)) (List.length l31)) fun i32=>
  Option.bind (l31[i32]?) fun x33=>
  Option.bind (cA (n+4) 103 [x30,x33]) fun r34=>
  Option.bind (D.asSl (cT l)) fun l35=>
  Option.bind (D.idx (nF best) (List.length l35)) fun i36=>
  Option.bind (l35[i36]?) fun x37=>
  Option.bind (D.asSl (cT l)) fun l38=>
  Option.bind (D.idx (I (a:Int)) (List.length l38)) fun i39=>
  Option.bind (l38[i39]?) fun x40=>
  Option.bind (cA (n+4) 103 [x37,x40]) fun r41=>
  Option.bind (D.get (bw (m,d)) [0]) fun x42=>
  Option.bind (cA (n+4) 104 [x42,r41,r34]) fun r43=>
  Option.bind (D.bin .lss r43 (D.int .i64 0)) fun x44=>
  Option.bind (D.truth x44) fun b45=>
  Option.bind (if b45 then(some true) else(Option.bind (D.truth (D.bool (D.beq r43 (D.int .i64 0)))) fun b46=>
  if b46 then(Option.bind (cA (n+4) 101 [r34,r34]) fun r47=>
  Option.bind (cA (n+4) 101 [r41,r41]) fun r48=>
  Option.bind (D.bin .gtr r47 r48) fun x49=>
  D.truth x49) else(some false))) fun b50=>
  Option.bind (D.truth (D.bool b50)) fun b51=>
  if b51 then(some (0,[I (k:Int),X])) else(some (0,[nF best,X])))))=some (0,[nF (cP m (pt l) a best k),X]):=by
 by_cases hka:k=a
 ·subst hka
  have h0:D.beq (I (k:Int)) (I (k:Int))=true:=by rw[eK];simp
  rw[h0,show cP m (pt l) k best k=best from if_pos rfl]
  exact aa (z:=true) rfl (if_pos rfl)
 ·have h0:D.beq (I (k:Int)) (I (a:Int))=false:=by rw[eK];simp[hka]
  rw[h0]
  refine aa (z:=false) rfl ?_
  rw[if_neg (by decide)]
  have hns:∀ b,cP m (pt l) a b k=match b with
   | none=>some k
   | some b=>if oH m (pt l) a b k then some k else some b:=fun b=>if_neg hka
  rw[hns]
  clear hns h0
  cases best with
  | none=>exact aa (z:=.bool true) rfl (aa (z:=true) rfl rfl)
  | some b=>
   obtain⟨hb1,hb2⟩:=hb b rfl
   have c1:=EO (n+2) (hl _ (ie hk)) (hl _ (ie ha)) (by decide)
   have c2:=EO (n+2) (hl _ (ie hb1)) (hl _ (ie ha)) (by decide)
   have w1:bd 524288 (wy (pt l) a k):=zV (hl _ (ie ha)) (hl _ (ie hk))
   have w2:bd 524288 (wy (pt l) a b):=zV (hl _ (ie ha)) (hl _ (ie hb1))
   have e1:(l.getD k V.zero).sub (l.getD a V.zero)=wy (pt l) a k:=rfl
   have e2:(l.getD b V.zero).sub (l.getD a V.zero)=wy (pt l) a b:=rfl
   rw[e1] at c1;rw[e2] at c2
   have c3:=MF (n+1) (m:=m) w2 w1 (by decide)
   have c4:=D1 (n+3) w1 w1 (by decide)
   have c5:=D1 (n+3) w2 w2 (by decide)
   have hle:=FQ hm0 (dw hb2 hk0)
   rw[hle] at c3
   have hlt:¬ ((b:Int)<0):=by omega
   have ll:(l.map aq).length=l.length:=List.length_map ..
   refine aa (z:=.bool false) (by rw[show nF (some b)=I (b:Int) from rfl,aj,decide_eq_false hlt]) (aa (z:=false) rfl ?_)
   rw[if_neg (by decide)]
   refine aa (z:=l.map aq) rfl (aa (z:=k) (by rw[ll];exact aK hk) (aa (lF hk) ?_))
   refine aa (z:=l.map aq) rfl (aa (z:=a) (by rw[ll];exact aK ha) (aa (lF ha) ?_))
   refine aa c1 ?_
   refine aa (z:=l.map aq) rfl (aa (z:=b) (by rw[ll];exact aK hb1) (aa (lF hb1) ?_))
   refine aa (z:=l.map aq) rfl (aa (z:=a) (by rw[ll];exact aK ha) (aa (lF ha) ?_))
   refine aa c2 (aa (z:=aq m) rfl (aa c3 (aa aj (aa ag ?_))))
   simp only[IG,dN,Eo,ag,Option.bind_some,c4,c5,fK,oH,T]
   by_cases t1:V.dot m (V.cross (wy (pt l) a b) (wy (pt l) a k))<0
   ·simp[t1,nF]
   ·by_cases t2:V.dot m (V.cross (wy (pt l) a b) (wy (pt l) a k))=0
    ·by_cases t3:V.dot (wy (pt l) a b) (wy (pt l) a b)<V.dot (wy (pt l) a k) (wy (pt l) a k)
     ·simp[t2,t3,nF]
     ·simp[t2,t3,nF]
    ·simp[t1,t2,nF]
end Go.Proofs.YtjjjkojfijpeeaaGreat.Sy
end
section
set_option linter.unusedVariables false
namespace Go.Proofs.YtjjjkojfijpeeaaGreat.Sy
open Go Go.Proofs Go.Proofs.YtjjjkojfijpeeaaGreat.Geo
def ab(L:List Nat):List D:=L.map fun(k:Nat)=>I (k:Int)
theorem ae(L:List Nat):(ab L).length=L.length:=List.length_map ..
theorem sQ{L:List Nat}{t k:Nat}(h:L[t]?=some k):(ab L)[t]?=some (I (k:Int)):=by simp[ab,h]
theorem zY{n:Nat}(h:0<n):D.idx (D.int .i64 0) n=some 0:=aK (i:=0) h
theorem pX{m:V}{P:Nat->V}{a:Nat}:∀ (L:List Nat) (best:Option Nat) (b:Nat),L.foldl (cP m P a) best=some b->b∈L\/best=some b
 | [],best,b,h=>.inr h
 | k::L,best,b,h=>by
  rw[List.foldl_cons] at h
  rcases pX L _ b h with h1|h1
  ·exact .inl (List.mem_cons_of_mem _ h1)
  ·unfold cP at h1
   split at h1
   ·exact .inr h1
   ·split at h1
    ·cases h1;exact .inl List.mem_cons_self
    ·split at h1<;>cases h1
     ·exact .inl List.mem_cons_self
     ·exact .inr rfl
theorem qx{body:Bd}{S:Nat->Nat->Prop}{a:Nat}{G:Nat->Prop}(hS:∀ c b,G c->S c b->b≠a->G b)
  (hstep:∀ (c b:Nat) (out:List Nat),G c->c≠a->S c b->out.length<=1000->body [.sl (ab out),I (c:Int)]=some (.inl [.sl (ab (out++[c])),I (b:Int)]))
  (hend:∀ out:List Nat,body [.sl (ab out),I (a:Int)]=some (.inr (0,[.sl (ab out)]))) :
  ∀ {c:Nat} {p:List Nat},Chain S a c p->G c->c≠a->∀ out:List Nat,(out++p).length<=1000->bo body [.sl (ab out),I (c:Int)]=some (0,[.sl (ab (out++p))])
 | c,_,.done s,hc,hca,out,hl=>by
  have h1:=hstep c a out hc hca s (by simp at hl;omega)
  rw[show bo body [.sl (ab out),I (c:Int)]=bo body [.sl (ab (out++[c])),I (a:Int)] from eO h1]
  exact fg (hend _)
 | c,_,.step (y:=y) (l:=p) s hy k,hc,hca,out,hl=>by
  have h1:=hstep c y out hc hca s (by simp at hl;omega)
  rw[show bo body [.sl (ab out),I (c:Int)]=bo body [.sl (ab (out++[c])),I (y:Int)] from eO h1]
  have:=qx hS hstep hend k (hS c y hc s hy) hy (out++[c]) (by simpa using hl)
  rw[this];simp
theorem BU{P:Nat->V}{i:Nat}{m:V}{d:Int}:aJ P (i+1) m d=if V.dot m (P i)=d then aJ P i m d++[i] else aJ P i m d:=by
 unfold aJ
 rw[List.range_succ,List.filter_append]
 by_cases h:V.dot m (P i)=d
 ·simp[h]
 ·simp[h]
theorem Nn(n:Nat){l:List V}(hl:∀ x∈l,bd MV x)(hlen:l.length<=100)(hs:∀ i j,i<j->j<l.length->aB (pt l i) (pt l j)){m:V}{d:Int}(hF:IsF (pt l) l.length m d)(hm:bd 549755813888 m) :
  ∃ p,aN (pt l) l.length m d p/\cA (n+5) 46 [cT l,bw (m,d)]=some (.sl (ab p)):=by
 obtain⟨p,hp,hnd,hmem⟩:=hF.poly hs
 refine⟨p,hp,?_⟩
 have F:=hF.flat hs
 obtain⟨a,ha1,ha,hea,hale,h3⟩:=hF.head hs
 obtain⟨a',ha1',hch⟩:=hp
 rw[ha1] at ha1';cases ha1'
 obtain⟨on,hon⟩:∃ on,aJ (pt l) l.length m d=on:=⟨_,rfl⟩
 rw[hon] at F ha1 ha hea hale h3 hch hmem
 have hlt:∀ k∈on,k<l.length:=fun k hk=>by rw[<-hon] at hk;exact(ap.1 hk).1
 have hdk:∀ k∈on,V.dot m (pt l k)=d:=fun k hk=>by rw[<-hon] at hk;exact(ap.1 hk).2
 have hw:∀ b∈on,∀ k∈on,V.dot m (wy (pt l) b k)=0:=fun b hb k hk=>by rw[cr,hdk b hb,hdk k hk];omega
 have honl:on.length<=100:=by
  rw[<-hon];unfold aJ
  exact Nat.le_trans (List.length_filter_le _ _) (by rw[List.length_range];exact hlen)
 have hpl:p.length<=on.length:=List.Nodup.length_le_of_subset hnd fun z hz=>((hmem z).1 hz).1
 have ll:(l.map aq).length=l.length:=List.length_map ..
 have hcore:=fun(c k:Nat) (hc:c∈on) (hk:k∈on) (best:Option Nat) (hb:∀ b,best=some b->b∈on) (X:D)=>GY n hl (d:=d) hF.nz.1 (hlt c hc) (hlt k hk) (best:=best) (fun b e=>⟨hlt b (hb b e),hw c hc b (hb b e)⟩) (hw c hc k hk) X
 have hnx:∀ c∈on,Geo.dF (pt l) on c->∃ b,on.foldl (cP m (pt l) c) none=some b/\Side m (pt l) on c b:=fun c hc ec=>lm F hc ec (h3 c hc)
 obtain⟨t0,hon0⟩:∃ t0,on=a::t0:=by
  cases hx:on with
  | nil=>rw[hx] at ha;simp at ha
  | cons y t0=>rw[hx] at ha1;simp at ha1;subst ha1;exact⟨t0,rfl⟩
 have hget0:(ab on)[0]?=some (I (a:Int)):=by rw[hon0];rfl
 have hpos:0<(ab on).length:=by rw[ae,hon0];simp
 rw[OM]
 unfold Jj
 refine aa (z:=l.map aq) rfl ?_
 refine br (fun i s=>s=[I (i:Int),.sl (ab (aJ (pt l) i m d))]) l.length 0 (Nat.zero_le _) rfl (fun i hi s hJ=>?_) (fun s hJ=>?_)
 ·subst hJ
  left
  refine⟨_,?_,rfl⟩
  refine aa aj (aa ag ?_)
  refine aX (by show((i:Int)<((l.map aq).length:Int));rw[ll];omega) ?_
  refine aa (z:=(0,[.sl (ab (aJ (pt l) (i+1) m d))])) ?_ (aa (aH (aS (i:=i) (by omega))) rfl)
  refine aa (z:=l.map aq) rfl (aa (z:=i) (by rw[ll];exact aK hi) (aa (lF hi) (aa (z:=aq m) rfl (aa (D1 (n+3) hm (hl _ (ie hi)) (by decide)) (aa (z:=I d) rfl ?_)))))
  rw[dN]
  refine aa ag ?_
  rw[BU]
  by_cases hd:V.dot m (pt l i)=d
  ·have hd':V.dot m (l.getD i V.zero)=d:=hd
   rw[if_pos hd,J9 hd',if_pos ?_]
   ·simp[g1,D.els,ab,g0]
   ·have:(aJ (pt l) i m d).length<=i:=by unfold aJ;exact Nat.le_trans (List.length_filter_le _ _) (by simp)
    simp only[g0,g1,D.els,ae,List.length_cons,List.length_nil];omega
  ·have hd':¬ V.dot m (l.getD i V.zero)=d:=hd
   rw[if_neg hd,KD hd']
   rfl
 ·subst hJ
  refine⟨(0,[.sl (ab on)]),?_,?_⟩
  ·refine aa aj (aa ag ?_)
   rw[<-hon]
   exact ba (by show ¬ ((l.length:Int)<((l.map aq).length:Int));rw[ll];omega) rfl
  refine aa (zY hpos) (aa hget0 (aa (zY hpos) (aa hget0 ?_)))
  obtain⟨b1,hb1,hs1⟩:=hnx a ha hea
  refine br (fun t s=>s=[nF ((on.take t).foldl (cP m (pt l) a) none),.sl (ab on),I (t:Int),.sl (ab on)]) on.length 0 (Nat.zero_le _) rfl (fun t ht s hJ=>?_) (fun s hJ=>?_)
  ·subst hJ
   left
   refine⟨_,?_,rfl⟩
   refine aa aj (aa ag ?_)
   refine aX (by show((t:Int)<((ab on).length:Int));rw[ae];omega) ?_
   have hk:on[t]?=some on[t]:=List.getElem?_eq_getElem ht
   refine aa (z:=(0,[nF ((on.take (t+1)).foldl (cP m (pt l) a) none),.sl (ab on)])) ?_ (aa (aH (aS (i:=t) (by omega))) rfl)
   refine aa (z:=ab on) rfl (aa (z:=t) (by rw[ae];exact aK ht) (aa (sQ hk) ?_))
   rw[List.take_succ_eq_append_getElem ht,List.foldl_append,List.foldl_cons,List.foldl_nil]
   exact hcore a on[t] ha (List.getElem_mem ht) _ (fun b hb=>by
    rcases pX _ _ b hb with h|h
    ·exact List.mem_of_mem_take h
    ·cases h) (.sl (ab on))
  ·subst hJ
   rw[List.take_length,hb1]
   refine⟨(0,[I (b1:Int),.sl (ab on)]),?_,?_⟩
   ·refine aa aj (aa ag ?_)
    refine ba (by show ¬ ((on.length:Int)<((ab on).length:Int));rw[ae];omega) ?_
    rfl
   obtain⟨p',hpp,hch',hy⟩:∃ p',p=a::p'/\Chain (Side m (pt l) on) a b1 p'/\b1≠a:=by
    cases hch with
    | done s=>exact absurd rfl s.ne
    | step s hne k=>
     have:=Side.unique F ha s hs1
     subst this
     exact⟨_,rfl,k,hne⟩
   refine xT (qx (S:=Side m (pt l) on) (a:=a) (G:=fun c=>c∈on/\Geo.dF (pt l) on c) (fun c b hc s _=>⟨s.mem,s.ext F hc.1⟩) (fun c b out hc hca hsd hol=>?_) (fun out=>?_) hch' ⟨hs1.mem,hs1.ext F ha⟩ hy [a] ?_) ?_
   ·obtain⟨b',hb',hsb'⟩:=hnx c hc.1 hc.2
    have:=Side.unique F hc.1 hsd hsb'
    subst this
    refine aa (z:=ab on) rfl (aa (zY hpos) (aa hget0 ?_))
    have e0:D.beq (I (c:Int)) (I (a:Int))=false:=by rw[eK];simp[hca]
    refine aa (z:=true) (by show D.truth (D.bool (!(D.beq (I (c:Int)) (I (a:Int)))))=_;rw[e0];rfl) ?_
    rw[if_pos rfl,if_pos (by simp only[g0,D.els,ae,List.length_cons,List.length_nil];omega)]
    refine aa (z:=ab on) rfl ?_
    refine cV (fun t s=>s=[nF ((on.take t).foldl (cP m (pt l) c) none),I (t:Int)]) on.length 0 (Nat.zero_le _) rfl (fun t ht s hJ=>?_) (fun s hJ=>?_)
    ·subst hJ
     left
     refine⟨_,?_,rfl⟩
     refine aa aj (aa ag ?_)
     refine aX (by show((t:Int)<((ab on).length:Int));rw[ae];omega) ?_
     have hk:on[t]?=some on[t]:=List.getElem?_eq_getElem ht
     refine aa (z:=(0,[nF ((on.take (t+1)).foldl (cP m (pt l) c) none),.sl (ab on)])) ?_ (aa (aH (aS (i:=t) (by omega))) rfl)
     refine aa (z:=ab on) rfl (aa (z:=t) (by rw[ae];exact aK ht) (aa (sQ hk) ?_))
     rw[List.take_succ_eq_append_getElem ht,List.foldl_append,List.foldl_cons,List.foldl_nil]
     exact hcore c on[t] hc.1 (List.getElem_mem ht) _ (fun b hb=>by
      rcases pX _ _ b hb with h|h
      ·exact List.mem_of_mem_take h
      ·cases h) (.sl (ab on))
    ·subst hJ
     rw[List.take_length,hb']
     refine⟨(0,[I (b:Int)]),?_,?_⟩
     ·refine aa aj (aa ag ?_)
      refine ba (by show ¬ ((on.length:Int)<((ab on).length:Int));rw[ae];omega) ?_
      rfl
     ·simp[g0,g1,D.els,ab]
   ·refine aa (z:=ab on) rfl (aa (zY hpos) (aa hget0 ?_))
    have e0:D.beq (I (a:Int)) (I (a:Int))=true:=by rw[eK];simp
    refine aa (z:=false) (by show D.truth (D.bool (!(D.beq (I (a:Int)) (I (a:Int)))))=_;rw[e0];rfl) ?_
    rfl
   ·have:([a]++p').length=p.length:=by rw[hpp];rfl
    omega
   ·rw[hpp];rfl
end Go.Proofs.YtjjjkojfijpeeaaGreat.Sy
end
