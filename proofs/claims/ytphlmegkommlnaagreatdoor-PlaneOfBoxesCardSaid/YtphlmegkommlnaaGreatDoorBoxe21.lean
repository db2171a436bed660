/- Part 21 of the proof that PlaneOfBoxes answers true at every input -/
import Derived.Test.YtphlmegkommlnaaGreatDoorBoxe19
import Derived.Test.YtphlmegkommlnaaGreatDoorBoxe20
set_option linter.unusedVariables false
set_option linter.unusedSimpArgs false
set_option linter.unnecessarySimpa false
set_option linter.defProp false
set_option maxRecDepth 20000
namespace Go.Proofs.YtphlmegkommlnaaGreatDoor
noncomputable section
namespace Geo
open V
section
variable{P:Nat->V}{N:Nat}
theorem xK{α:Type}{G K:α->Int}:∀ l:List α,l≠[]->(∀ x∈l,0<K x)->∃ z∈l,∀ x∈l,G z*K x<=G x*K z
 | [],h,_=>z3a rfl h
 | [a],_,_=>⟨a,j3,λx hx=>by rw[zLa.1 hx];exact zjc _⟩
 | a::b::l,_,hK=>by
  obtain⟨z,c,hl⟩:=xK (G:=G) (K:=K) (b::l) j3 λx hx=>hK x (by simp[hx])
  have ka:=hK a j3;have f:=hK z (by simp[c])
  rcases zwb (G a*K z) (G z*K a) with h|h
  ·refine⟨a,j3,λx hx=>?_⟩
   rcases zEa.1 hx with rfl|hx
   ·exact zjc _
   ·have d:=hK x (by simp[hx])
    have h1:G z*K x<=G x*K z:=hl x hx;have h2:0<(G z*K a-G a*K z)*K x:=zBa j1 d
    have h3:0<=(G x*K z-G z*K x)*K a:=z8a j1 j1
    have e:(G x*K a-G a*K x)*K z=(G x*K z-G z*K x)*K a+(G z*K a-G a*K z)*K x:=h7
    have:=gS f (show 0<K z*(G x*K a-G a*K x) by rw[zHa,e];omega)
    omega
  ·refine⟨z,by simp[c],λx hx=>?_⟩
   rcases zEa.1 hx with rfl|hx
   ·exact h
   ·exact hl x hx
def il(a b:Int)(u v w:V):dot (sub (smul a u) (smul b v)) w=a*dot u w-b*dot v w:=by simp only[dot,sub,smul];grind
def Oq{a b c:Nat}(l:a<N)(B:b<N)(hc:c<N){g:V}(h0:g≠zero)(hle:∀ x,x<N->dot g (wy P a x)<=0)(nf:∃ x,x<N/\dot g (wy P a x)≠0)(tb:dot g (wy P a b)=0)(K:dot g (wy P a c)=0)(i:cross (wy P a b) (wy P a c)≠zero) :
  ∃ n d,IsF P N n d/\a∈aL P N n d/\b∈aL P N n d/\∃ k:Int,0<k/\g=smul k n:=by
 have m:a≠b:=λh=>i (by rw[<-h,fQ];apply V.ext'<;>simp[cross,zero])
 have o:a≠c:=λh=>i (by rw[<-h,fQ];apply V.ext'<;>simp[cross,zero])
 have r:b≠c:=λh=>i (by rw[<-h];apply V.ext'<;>simp only[cross,zero]<;>grind)
 have H:=eh tb K;have u:=aJ h0;have key:∀ {p q:Nat},p<N->q<N->a≠p->a≠q->p≠q->(cO P a p q≠zero)->cross g (cO P a p q)=zero->0<dot g (cO P a p q)->∃ n d,IsF P N n d/\a∈aL P N n d/\(dot g (wy P a b)=0->b∈aL P N n d)/\∃ k:Int,0<k/\g=smul k n:=λ{p q} hp hq h1 h2 h3 ht hc hs=>by
  have ev:=ue hc g;have le:∀ x,x<N->dot (cO P a p q) (wy P a x)<=0:=λx hx=>by
   have f:=ev (wy P a x);have t:=Int.mul_nonpos_of_nonneg_of_nonpos (zpa hs) (hle x hx);rcases zwb 0 (dot (cO P a p q) (wy P a x)) with k|k
   ·have:=zBa u k;omega
   ·exact k
  obtain⟨x,hx,D⟩:=nf;have lt:dot (cO P a p q) (wy P a x)<0:=by
   have f:=ev (wy P a x);have t:=le x hx;rcases zVa t with k|k
   ·exact k
   ·rw[k,zrb] at f;have:=aA hs f.symm;exact z3a this D
  obtain⟨J,L,C,hn,hF⟩:=zA l hp hq h1 h2 h3 rfl le ⟨x,hx,lt⟩;refine⟨J,_,hF,au.2 ⟨l,rfl⟩,?_⟩;have e:smul (dot g g) (cO P a p q)=smul (dot g (cO P a p q)) g:=zT hc g;have j:=fL g;have eq:J=aF g:=by
   refine lh hF.nz.2 (jm h0) (a:=dot g g*L) (b:=dot g (cO P a p q)*aW g) (zBa u C) (zBa hs (by have:=fh h0;omega)) ?_
   generalize dot g (cO P a p q)=w at *;generalize dot g g=Q at *;rw[hn] at e;rw[j] at e;have E:=zma V.x e;have F:=zma V.y e;have G:=zma V.z e;simp only[smul] at E F G ⊢;apply V.ext'<;>simp only[Int.mul_assoc] at *<;>assumption
  have O:=fh h0;refine⟨λtb=>au.2 ⟨B,?_⟩,aW g,j1,by rw[eq];exact j⟩
  rw[j,gq,<-eq] at tb;have:=aA (show(0:Int)<aW g by omega) tb
  rw[bo] at this;omega
 rcases zxb 0 (dot g (cross (wy P a b) (wy P a c))) with s|s|s
 ·obtain⟨n,d,h1,h2,h3,f⟩:=key B hc m o r i H s;exact⟨n,d,h1,h2,h3 tb,f⟩
 ·exfalso;have e:=ue H (cross (wy P a b) (wy P a c));have j:dot (cross (wy P a b) (wy P a c)) g=0:=by rw[<-show dot g (cross (wy P a b) (wy P a c))=dot (cross (wy P a b) (wy P a c)) g by simp only[dot];grind];omega
  have I:=e g;rw[j,z7b] at I;have t:=aA u (show dot g g*dot (cross (wy P a b) (wy P a c)) (cross (wy P a b) (wy P a c))=0 by rw[zHa];exact I.symm)
  exact i (oD t)
 ·have M:∀ v:V,dot v (cross (wy P a c) (wy P a b))=- dot v (cross (wy P a b) (wy P a c)):=λv=>by simp only[dot,cross];grind
  obtain⟨n,d,h1,h2,h3,f⟩:=key hc B o m (Ne.symm r) (λh=>i (by have A:cross (wy P a c) (wy P a b)=zero:=h;have E:=zma V.x A;have F:=zma V.y A;have G:=zma V.z A;simp only[cross,zero] at E F G;apply V.ext'<;>simp only[cross,zero]<;>grind)) (eh K tb) (by show 0<dot g (cross (wy P a c) (wy P a b));rw[M];omega)
  exact⟨n,d,h1,h2,h3 tb,f⟩
def Ol{a b:Nat}(e:a<N)(B:b<N)(E:wy P a b≠zero){g:V}(g0:g≠zero)(hle:∀ x,x<N->dot g (wy P a x)<=0)(nf:∀ {m:V},m≠zero->∃ x,x<N/\dot m (wy P a x)≠0)(tb:dot g (wy P a b)=0)
  (l:∀ x,x<N->dot g (wy P a x)=0->cross (wy P a b) (wy P a x)=zero):∃ n d,IsF P N n d/\a∈aL P N n d/\b∈aL P N n d:=by
 obtain⟨z0,c,J⟩:=nf g0;have D:=hle z0 c;obtain⟨z,C,f⟩:=far (w:=wy P a) tb ((List.range N).filter λk=>decide (dot g (wy P a k)<0)) (List.ne_nil_of_mem (a:=z0) (by simp[c];omega)) (λy hy=>by simpa using(zqb.1 hy).2)
 have s:z<N:=by simpa using(zqb.1 C).1
 have j:dot g (wy P a z)<0:=by simpa using(zqb.1 C).2
 have q:a≠z:=λh=>by rw[<-h,fQ,iu] at j;omega
 have t:z≠b:=λh=>by rw[h] at j;omega
 have o:a≠b:=λh=>E (by rw[<-h,fQ])
 have ht:cO P a z b≠zero:=λh=>by have p:=zT (h:cross (wy P a z) (wy P a b)=zero) g;rw[tb] at p;have F:=zma V.x p;have G:=zma V.y p;have H:=zma V.z p;simp only[smul,z7b] at F G H;exact E (V.ext' ((z7a.1 F).resolve_left j1) ((z7a.1 G).resolve_left j1) ((z7a.1 H).resolve_left j1))
 have le:∀ u,u<N->dot (cO P a z b) (wy P a u)<=0:=λu hu=>by
  show dot (cross (wy P a z) (wy P a b)) (wy P a u)<=0;rcases zVa (hle u hu) with k|k
  ·have h1:=f u (by simp[hu,k])
   have v:dot (cross (wy P a z) (wy P a b)) (wy P a u)=- dot (wy P a b) (cross (wy P a z) (wy P a u)):=by simp only[dot,cross];grind
   omega
  ·have h1:=l u hu k;have v:dot (cross (wy P a z) (wy P a b)) (wy P a u)=dot (wy P a z) (cross (wy P a b) (wy P a u)):=by simp only[dot,cross];grind
   rw[v,h1,iu];omega
 obtain⟨u,i,I⟩:=nf ht;have:=le u i;obtain⟨K,L,r,hn,hF⟩:=zA e s B q o t rfl le ⟨u,i,j1⟩
 refine⟨K,_,hF,au.2 ⟨e,rfl⟩,au.2 ⟨B,?_⟩⟩;have A:dot (cO P a z b) (wy P a b)=0:=by show dot (cross (wy P a z) (wy P a b)) (wy P a b)=0;simp only[dot,cross];grind
 rw[hn,gq] at A;have:=aA r A;rw[bo] at this;omega
def Sn{a:Nat}{g n1:V}{d1:Int}(h1:IsF P N n1 d1)(i:a∈aL P N n1 d1)(hle:∀ x,x<N->dot g (wy P a x)<=0) :
  ∃ (z:Nat) (K G:Int),z<N/\0<K/\0<=G/\dot n1 (wy P a z)<0/\(∀ x,x<N->dot (sub (smul K g) (smul G n1)) (wy P a x)<=0)/\dot (sub (smul K g) (smul G n1)) (wy P a z)=0:=by
 have c:∀ x,dot n1 (wy P a x)=dot n1 (P x)-d1:=λx=>by rw[bo,(au.1 i).2]
 obtain⟨z0,d,h⟩:=h1.supp.2;obtain⟨z,f,hl⟩:=xK (G:=λx=>- dot g (wy P a x)) (K:=λx=>- dot n1 (wy P a x)) ((List.range N).filter λk=>decide (dot n1 (wy P a k)<0)) (List.ne_nil_of_mem (a:=z0) (by simp[d];have:=c z0;omega)) (λx hx=>by
  have:dot n1 (wy P a x)<0:=by simpa using(zqb.1 hx).2
  omega)
 have b:z<N:=by simpa using(zqb.1 f).1
 have e:dot n1 (wy P a z)<0:=by simpa using(zqb.1 f).2
 have l:=hle z b;refine⟨z,- dot n1 (wy P a z),- dot g (wy P a z),b,j1,j1,e,λx hx=>?_,?_⟩
 ·rw[il];have h2:=h1.supp.1 x hx;have h3:=c x;have j:=hle x hx;rcases zVa (show dot n1 (wy P a x)<=0 by omega) with k|k
  ·have:=hl x (by simp[hx,k])
   rw[Int.neg_mul_neg,Int.neg_mul_neg] at this;rw[Int.neg_mul,Int.neg_mul,zHa (dot n1 (wy P a z))];omega
  ·rw[k,zrb];have:=z8a (show 0<=- dot n1 (wy P a z) by omega) (show 0<=- dot g (wy P a x) by omega)
   rw[zFb] at this;omega
 ·rw[il,Int.neg_mul,Int.neg_mul,zHa];omega
section
variable{a:Nat}{W:V}
def oN(j:a<N)(nf:∀ {m:V},m≠zero->∃ x,x<N/\dot m (wy P a x)≠0)(A:∀ n d,IsF P N n d->a∈aL P N n d->dot n W<0){g:V}(g0:g≠zero)(hle:∀ x,x<N->dot g (wy P a x)<=0){b:Nat}(B:b<N)(C:wy P a b≠zero)(tb:dot g (wy P a b)=0):dot g W<0:=by
 have flat:∀ {g:V},g≠zero->(∀ x,x<N->dot g (wy P a x)<=0)->dot g (wy P a b)=0->∀ {c:Nat},c<N->dot g (wy P a c)=0->cross (wy P a b) (wy P a c)≠zero->dot g W<0:=λ{g} g0 hle tb {c} hc J u=>by obtain⟨n,d,h1,h2,_,k,hk,e⟩:=Oq j B hc g0 hle (nf g0) tb J u;rw[e,gq];exact zXa hk (A n d h1 h2)
 by_cases hx:∃ x,x<N/\dot g (wy P a x)=0/\cross (wy P a b) (wy P a x)≠zero
 ·obtain⟨x,h1,h2,h3⟩:=hx;exact flat g0 hle tb h1 h2 h3
 ·have s:∀ x,x<N->dot g (wy P a x)=0->cross (wy P a b) (wy P a x)=zero:=λx h1 h2=>Classical.byContradiction λh3=>hx ⟨x,h1,h2,h3⟩;obtain⟨n1,d1,hF,i,t⟩:=Ol j B C g0 hle nf tb s;obtain⟨z,K,G,H,hK,hG,I,l,v⟩:=Sn hF i hle;have nb:dot n1 (wy P a b)=0:=by rw[bo,(au.1 i).2,(au.1 t).2];omega
  have w:=A n1 d1 hF i;have u:cross (wy P a b) (wy P a z)≠zero:=λh=>by have p:=zT h n1;rw[nb] at p;have o:=zma V.x p;have q:=zma V.y p;have r:=zma V.z p;simp only[smul,z7b] at o q r;exact C (V.ext' ((z7a.1 o.symm).resolve_left j1) ((z7a.1 q.symm).resolve_left j1) ((z7a.1 r.symm).resolve_left j1))
  have L:=il K G g n1 W;have D:dot (sub (smul K g) (smul G n1)) (wy P a b)=0:=by rw[il,tb,nb];omega
  have f:dot (sub (smul K g) (smul G n1)) W<=0/\(sub (smul K g) (smul G n1)≠zero->dot (sub (smul K g) (smul G n1)) W<0):=by
   by_cases h0:sub (smul K g) (smul G n1)=zero
   ·exact⟨by rw[h0];simp[dot,zero],λh=>z3a h0 h⟩
   ·have:=flat h0 l D H v u;exact⟨j1,λ_=>this⟩
  have E:G*dot n1 W<=0:=Int.mul_nonpos_of_nonneg_of_nonpos hG j1
  have F:K*dot g W<0:=by
   by_cases h0:sub (smul K g) (smul G n1)=zero
   ·rcases zVa hG with k|k
    ·have:=zXa k w;have:=f.1;omega
    ·exfalso;rw[<-k] at h0;have o:=zma V.x h0;have q:=zma V.y h0;have r:=zma V.z h0;simp only[sub,smul,zero,z7b,Int.sub_zero] at o q r;exact g0 (V.ext' (aA hK o) (aA hK q) (aA hK r))
   ·have:=f.2 h0;omega
  rcases zwb (dot g W) 0 with k|k
  ·exact k
  ·have:=z8a (zpa hK) k;omega
def HL(o:a<N)(nf:∀ {m:V},m≠zero->∃ x,x<N/\dot m (wy P a x)≠0)(O:∀ n d,IsF P N n d->a∈aL P N n d->dot n W<0){g:V}(g0:g≠zero)(hle:∀ x,x<N->dot g (wy P a x)<=0):dot g W<0:=by
 by_cases ht:∃ b,b<N/\wy P a b≠zero/\dot g (wy P a b)=0
 ·obtain⟨b,h1,h2,h3⟩:=ht;exact oN o nf O g0 hle h1 h2 h3
 have st:∀ x,x<N->wy P a x≠zero->dot g (wy P a x)<0:=λx hx hw=>by
  have:=hle x hx;rcases zVa this with k|k
  ·exact k
  ·exact z3a ⟨x,hx,hw,k⟩ ht
 obtain⟨f,X,U⟩:=nf g0;have w1:wy P a f≠zero:=λh=>U (by rw[h,iu])
 obtain⟨e,Q,R⟩:∃ e:V,e≠zero/\dot e (wy P a f)=0:=by
  by_cases hxy:(wy P a f).x=0/\(wy P a f).y=0
  ·exact⟨⟨1,0,0⟩,λh=>by simp[zero] at h,by simp[dot,hxy.1]⟩
  ·refine⟨⟨-(wy P a f).y,(wy P a f).x,0⟩,λh=>hxy ?_,by simp only[dot];grind⟩
   simp only[zero,V.mk.injEq] at h;omega
 obtain⟨J,Y,u⟩:=nf Q;have hc:cross (wy P a f) (wy P a J)≠zero:=λh=>by have p:=zT h e;rw[R] at p;have y1:=zma V.x p;have y2:=zma V.y p;have y3:=zma V.z p;simp only[smul,z7b] at y1 y2 y3;exact w1 (V.ext' ((z7a.1 y1.symm).resolve_left u) ((z7a.1 y2.symm).resolve_left u) ((z7a.1 y3.symm).resolve_left u))
 obtain⟨c,i⟩:∃ c,c=cross (wy P a f) (wy P a J):=⟨_,rfl⟩;have cc:0<dot c c:=aJ (i ▸ hc);obtain⟨v,hv⟩:∃ v,v=cross c (add (wy P a f) (wy P a J)):=⟨_,rfl⟩;have v1:dot v (wy P a f)=- dot c c:=by
  rw[hv];conv=>rhs;rw[i]
  rw[i];simp only[dot,cross,add];grind
 have v2:dot v (wy P a J)=dot c c:=by rw[hv,i];simp only[dot,cross,add];grind
 have go:∀ s:Int,(s=1\/s=-1)->∃ (z:Nat) (K G:Int),z<N/\0<K/\0<G/\wy P a z≠zero/\(∀ x,x<N->dot (sub (smul K g) (smul (-(s*G)) v)) (wy P a x)<=0)/\dot (sub (smul K g) (smul (-(s*G)) v)) (wy P a z)=0:=λs hs=>by
  obtain⟨z,hz,hl⟩:=xK (G:=λx=>- dot g (wy P a x)) (K:=λx=>s*dot v (wy P a x)) ((List.range N).filter λk=>decide (0<s*dot v (wy P a k))) (by
   rcases hs with rfl|rfl
   ·exact List.ne_nil_of_mem (a:=J) (by simp[Y];omega)
   ·exact List.ne_nil_of_mem (a:=f) (by simp[X];omega)) (λx hx=>by simpa using(zqb.1 hx).2)
  have I:z<N:=by simpa using(zqb.1 hz).1
  have A:0<s*dot v (wy P a z):=by simpa using(zqb.1 hz).2
  have wz:wy P a z≠zero:=λh=>by rw[h,iu,zrb] at A;omega
  have gz:=st z I wz;refine⟨z,s*dot v (wy P a z),- dot g (wy P a z),I,A,j1,wz,λx hx=>?_,?_⟩
  ·rw[il];have ad:=hle x hx;rcases zwb 0 (s*dot v (wy P a x)) with k|k
   ·have:=hl x (by simp[hx,k])
    generalize dot v (wy P a x)=p at *;generalize dot v (wy P a z)=q at *;generalize dot g (wy P a x)=r at *;generalize dot g (wy P a z)=t at *;rcases hs with rfl|rfl
    ·simp only[zZb,Int.neg_neg,Int.neg_mul] at *;rw[zHa q r];omega
    ·simp only[zZb,Int.neg_neg,Int.neg_mul,zFb] at *;rw[zHa q r];omega
   ·have h1:=z8a (zpa A) (show 0<=- dot g (wy P a x) by omega)
    have h2:=z8a (show 0<=- dot g (wy P a z) by omega) (show 0<=-(s*dot v (wy P a x)) by omega)
    generalize dot v (wy P a x)=p at *;generalize dot v (wy P a z)=q at *;generalize dot g (wy P a x)=r at *;generalize dot g (wy P a z)=t at *;rcases hs with rfl|rfl
    ·simp only[zZb,Int.neg_neg,Int.neg_mul,zFb] at *;omega
    ·simp only[zZb,Int.neg_neg,Int.neg_mul,zFb] at *;omega
  ·rw[il];rcases hs with rfl|rfl
   ·simp only[zZb,Int.neg_neg,Int.neg_mul,zFb] at *;rw[zHa];omega
   ·simp only[zZb,Int.neg_neg,Int.neg_mul,zFb] at *;rw[zHa];omega
 obtain⟨z1,K1,G1,F,L,B,j,S,D⟩:=go 1 (.inl rfl);obtain⟨z2,K2,G2,H,M,C,l,T,E⟩:=go (-1) (.inr rfl);have comb:∀ w:V,G2*dot (sub (smul K1 g) (smul (-(1*G1)) v)) w+G1*dot (sub (smul K2 g) (smul (-(-1*G2)) v)) w=(G2*K1+G1*K2)*dot g w:=λw=>by rw[il,il];grind
 have Z:0<G2*K1+G1*K2:=by have:=zBa C L;have:=zBa B M;omega
 have n1:sub (smul K1 g) (smul (-(1*G1)) v)≠zero:=λh=>by
  have:=comb (wy P a z2);rw[E,h,show dot zero (wy P a z2)=0 by simp[dot,zero],zrb,zrb] at this
  have h3:=aA Z this.symm;have:=st z2 H l;omega
 have n2:sub (smul K2 g) (smul (-(-1*G2)) v)≠zero:=λh=>by
  have:=comb (wy P a z1);rw[D,h,show dot zero (wy P a z1)=0 by simp[dot,zero],zrb,zrb] at this
  have h3:=aA Z this.symm;have:=st z1 F j;omega
 have r1:=oN o nf O n1 S F j D;have r2:=oN o nf O n2 T H l E;have:=comb W;have q1:=zXa C r1;have q2:=zXa B r2;rcases zwb (dot g W) 0 with k|k
 ·exact k
 ·have:=z8a (zpa Z) k;omega
end
end
section
variable{P:Nat->V}{N:Nat}
def vH{u v g:V}(h:cross u v=zero)(hu:dot g u=0)(a:dot g v≠0):u=zero:=by have p:=zT h g;rw[hu] at p;have b:=zma V.x p;have c:=zma V.y p;have d:=zma V.z p;simp only[smul,z7b] at b c d;exact V.ext' ((z7a.1 b.symm).resolve_left a) ((z7a.1 c.symm).resolve_left a) ((z7a.1 d.symm).resolve_left a)
def Bj(hl:∀ i j,i<j->j<N->aN (P i) (P j))(M:∀ k,k<N->Hd P N k){n:V}{d:Int}(hF:IsF P N n d){a b:Nat}(s:a∈aL P N n d)(o:b∈aL P N n d)(m:b≠a){g:V}(hle:∀ x,x<N->dot g (wy P a x)<=0)(tb:dot g (wy P a b)=0)
  (E:∀ x,x<N->dot g (wy P a x)=0->cross (wy P a b) (wy P a x)=zero):uo P N n d a b\/uo P N n d b a:=by
 have F:=hF.flat hl;have J:=qQ F s o m;have c:∀ {x},x∈aL P N n d->x<N:=λh=>(au.1 h).1;have C:∀ {x},x∈aL P N n d->dot n (wy P a x)=0:=λh=>F.pl a s _ h;have ext:∀ {x},x∈aL P N n d->mG P (aL P N n d) x:=λ{x} h=>by obtain⟨f,hf⟩:=(M x (c h)).front;exact⟨f,λy hy H=>hf y (c hy) H⟩
 obtain⟨v,A,w⟩:∃ v,v∈aL P N n d/\dot g (wy P a v)<0:=by
  apply Classical.byContradiction;intro G;have all:∀ x,x∈aL P N n d->cross (wy P a b) (wy P a x)=zero:=λx hx=>E x (c hx) (by
   have:=hle x (c hx);rcases zVa this with k|k
   ·exact z3a ⟨x,hx,k⟩ G
   ·exact k)
  obtain⟨i,j,k,_,_,_,O,Q,mk,ht⟩:=hF.three;refine ht ?_;have pi:=zT (all i O) (wy P a b);have R:=zT (all j Q) (wy P a b);have S:=zT (all k mk) (wy P a b);have wp:=aJ J;have e:smul (dot (wy P a b) (wy P a b)*dot (wy P a b) (wy P a b)) (cO P i j k)=zero:=by
   have K:cO P i j k=cross (sub (wy P a j) (wy P a i)) (sub (wy P a k) (wy P a i)):=by apply V.ext'<;>simp only[cO,cross,wy,sub]<;>grind
   have L:∀ u v:V,∀ k:Int,smul (k*k) (cross u v)=cross (smul k u) (smul k v):=λu v k=>by apply V.ext'<;>simp only[smul,cross]<;>grind
   have I:∀ u v:V,∀ k:Int,smul k (sub u v)=sub (smul k u) (smul k v):=λu v k=>by apply V.ext'<;>simp only[smul,sub]<;>grind
   rw[K,L,I,I,pi,R,S];apply V.ext'<;>simp only[smul,cross,sub,zero]<;>grind
  have U:=zma V.x e;have W:=zma V.y e;have X:=zma V.z e;have r:=zBa wp wp;exact V.ext' (aA r U) (aA r W) (aA r X)
 obtain⟨t,ht⟩:∃ t,T n (wy P a b) (wy P a v)=t:=⟨_,rfl⟩;have pl:∀ x,x∈aL P N n d->dot g (wy P a v)*T n (wy P a b) (wy P a x)=dot g (wy P a x)*t:=λx hx=>by have p:=zU hF.nz.1 g (C o) (C A) (C hx);rw[tb,Fw (wy P a b) (wy P a x),ht] at p;rw[z7b,zFb] at p;omega
 have D:∀ x,x∈aL P N n d->T n (wy P a b) (wy P a x)=0->x=a\/x=b:=λx hx h0=>by
  by_cases hxa:x=a
  ·exact .inl hxa
  ·exact .inr (abW F s o hx (ext s) (ext o) (ext hx) m hxa h0).symm
 have t0:t≠0:=λh=>J (vH (dO hF.nz.1 (C o) (C A) (ht.trans h)) tb j1)
 have sgn:∀ x,x∈aL P N n d->(0<t->0<=T n (wy P a b) (wy P a x))/\(t<0->T n (wy P a b) (wy P a x)<=0):=λx hx=>by
  have p:=pl x hx;have B:=hle x (c hx);refine⟨λk=>?_,λk=>?_⟩
  ·have h1:=Int.mul_nonpos_of_nonpos_of_nonneg B (zpa k);rcases zwb (T n (wy P a b) (wy P a x)) 0 with q|q
   ·have:=zPb w q;omega
   ·exact q
  ·have h1:=Int.mul_nonneg_of_nonpos_of_nonpos B (zpa k);rcases zwb 0 (T n (wy P a b) (wy P a x)) with q|q
   ·have:=zLc w q;omega
   ·exact q
 have l:∀ u:V,0<=dot u u:=io;rcases zmd t0 with k|k
 ·right;refine⟨o,s,λh=>m h.symm,λx hx=>?_⟩;have e:T n (wy P b a) (wy P b x)=- T n (wy P a b) (wy P a x):=by simp only[T,dot,cross,wy,sub];grind
  rw[e];refine⟨by have:=(sgn x hx).2 k;omega,λh0=>?_⟩
  rcases D x hx j1 with rfl|rfl
  ·exact⟨l _,zjc _⟩
  ·rw[fQ,show dot zero (wy P x a)=0 by simp[dot,zero]]
   exact⟨zjc _,l _⟩
 ·left;refine⟨s,o,m,λx hx=>?_⟩;refine⟨(sgn x hx).1 k,λh0=>?_⟩;rcases D x hx h0 with rfl|rfl
  ·rw[fQ,show dot zero (wy P x b)=0 by simp[dot,zero]]
   exact⟨zjc _,l _⟩
  ·exact⟨l _,zjc _⟩
end
def I9(A B:Nat->V)(Na:Nat)(s t:Int)(k:Nat):V:=sub (smul s (B (k/Na))) (smul t (A (k%Na)))
section
variable{A B:Nat->V}{Na Nb:Nat}{s t:Int}
def gj(P:Nat->V)(N:Nat)(n:V)(i:Nat):Prop:=i<N/\∀ x,x<N->dot n (P x)<=dot n (P i)
def sat(hs:0<s)(ht:0<t)(c:0<Na)(v:0<Nb)(nf:∀ {m:V},m≠zero->∀ i,i<Na->∃ x,x<Na/\dot m (wy A i x)≠0){u:V}(u0:u≠zero)(hu:∀ i j,i<Na->j<Nb->t*dot u (A i)<=s*dot u (B j)) :
  ∃ n:V,n≠zero/\aW n=1/\(∀ i j,i<Na->j<Nb->s*dot n (B j)<=t*dot n (A i)) ∧
   ((∃ i j k,gj B Nb n i/\gj B Nb n j/\gj B Nb n k/\cO B i j k≠zero)\/(∃ i j k,gj A Na (neg n) i/\gj A Na (neg n) j/\gj A Na (neg n) k/\cO A i j k≠zero) ∨
    ∃ i j k l,gj B Nb n i/\gj B Nb n j/\gj A Na (neg n) k/\gj A Na (neg n) l/\cross (wy B i j) (wy A k l)≠zero):=by
 obtain⟨P,hP⟩:∃ P,P=I9 A B Na s t:=⟨_,rfl⟩;obtain⟨N,M⟩:∃ N,N=Nb*Na:=⟨_,rfl⟩;have N0:0<N:=M ▸ Nat.mul_pos v c;have qr:∀ k,k<N->k/Na<Nb/\k%Na<Na:=λk hk=>⟨(zdb c).2 (M ▸ hk),z2a _ c⟩;have idx:∀ i j,i<Na->j<Nb->∃ k,k<N/\k/Na=j/\k%Na=i:=λi j p Q=>by
  refine⟨j*Na+i,?_,?_,?_⟩
  ·have:=zKa Na (show j+1<=Nb by omega)
   rw[zob] at this;omega
  ·rw[z9a,Nat.mul_add_div c,zib p];omega
  ·rw[z9a,Nat.mul_add_mod,zUa p]
 have g:∀ (n:V) k,dot n (P k)=s*dot n (B (k/Na))-t*dot n (A (k%Na)):=λn k=>by rw[hP];simp only[I9,dot,sub,smul];grind
 have H:∀ a,a<N->∀ {m:V},m≠zero->∃ x,x<N/\dot m (wy P a x)≠0:=λa O m hm=>by
  obtain⟨x,hx,F⟩:=nf hm (a%Na) (qr a O).2;obtain⟨k,hk,U,X⟩:=idx x (a/Na) hx (qr a O).1;refine⟨k,hk,λh=>F ?_⟩;rw[bo,g,g,U,X] at h;rw[bo];have:t*(dot m (A x)-dot m (A (a%Na)))=0:=by rw[Int.mul_sub];omega
  exact aA ht this
 obtain⟨a,f,o,_⟩:=rh (λk=>dot (neg u) (P k)) N N0;have r:∀ w:V,dot (neg u) w=- dot u w:=λw=>by simp only[dot,neg];grind
 have hle:∀ x,x<N->dot (neg u) (wy P a x)<=0:=λx hx=>by have:dot (neg u) (P x)<=dot (neg u) (P a):=o x hx;rw[bo];omega
 have g0:neg u≠zero:=λh=>u0 (by have x1:=zma V.x h;have x2:=zma V.y h;have x3:=zma V.z h;simp only[neg,zero] at x1 x2 x3;exact V.ext' (by simp only[zero];omega) (by simp only[zero];omega) (by simp only[zero];omega))
 obtain⟨n,d,hF,hd⟩:∃ n d,IsF P N n d/\d<=0:=by
  apply Classical.byContradiction;intro E;have:=HL (W:=neg (P a)) f (H a f) (λn d h1 h2=>by
   have e:dot n (neg (P a))=- dot n (P a):=by simp only[dot,neg];grind
   rw[e,(au.1 h2).2];rcases zwb 0 d with k|k
   ·omega
   ·exact z3a ⟨n,d,h1,k⟩ E) g0 hle
  have e:dot (neg u) (neg (P a))=dot u (P a):=by simp only[dot,neg];grind
  rw[e,g] at this;have:=hu (a%Na) (a/Na) (qr a f).2 (qr a f).1;omega
 have b:=hF.supp.1;have dW:∀ k,k∈aL P N n d->gj B Nb n (k/Na)/\gj A Na (neg n) (k%Na):=λk hk=>by
  obtain⟨C,D⟩:=au.1 hk;obtain⟨R,S⟩:=qr k C;rw[g] at D;refine⟨⟨R,λx hx=>?_⟩,S,λx hx=>?_⟩
  ·obtain⟨G,a1,a2,a3⟩:=idx (k%Na) x S hx;have:=b G a1;rw[g,a2,a3] at this;exact Int.le_of_mul_le_mul_left j1 hs
  ·obtain⟨G,a1,a2,a3⟩:=idx x (k/Na) hx R;have:=b G a1;rw[g,a2,a3] at this;have r:∀ w:V,dot (neg n) w=- dot n w:=λw=>by simp only[dot,neg];grind
   rw[r,r];have:=Int.le_of_mul_le_mul_left (show t*dot n (A (k%Na))<=t*dot n (A x) by omega) ht
   omega
 refine⟨n,hF.nz.1,hF.nz.2,λi j p Q=>?_,?_⟩
 ·obtain⟨k,a1,a2,a3⟩:=idx i j p Q;have:=b k a1;rw[g,a2,a3] at this;omega
 obtain⟨i,j,k,_,_,_,Y,Z,mk,h3⟩:=hF.three;obtain⟨bi,q⟩:=dW i Y;obtain⟨K,I⟩:=dW j Z;obtain⟨L,J⟩:=dW k mk;by_cases c1:cO B (i/Na) (j/Na) (k/Na)=zero
 ·by_cases c2:cO A (i%Na) (j%Na) (k%Na)=zero
  ·right;right;by_cases c3:cross (wy B (i/Na) (j/Na)) (wy A (i%Na) (k%Na))=zero
   ·refine⟨_,_,_,_,bi,L,q,I,λT=>h3 ?_⟩;have e:cO P i j k=add (sub (smul (s*s) (cO B (i/Na) (j/Na) (k/Na))) (smul (s*t) (cross (wy B (i/Na) (j/Na)) (wy A (i%Na) (k%Na))))) (add (smul (s*t) (cross (wy B (i/Na) (k/Na)) (wy A (i%Na) (j%Na)))) (smul (t*t) (cO A (i%Na) (j%Na) (k%Na)))):=by
     rw[hP];generalize hB1:B (i/Na)=b1;generalize hB2:B (j/Na)=b2;generalize hB3:B (k/Na)=b3;generalize hA1:A (i%Na)=a1;generalize hA2:A (j%Na)=a2;generalize hA3:A (k%Na)=a3;apply V.ext'<;>simp only[cO,cross,wy,sub,smul,add,I9,hB1,hB2,hB3,hA1,hA2,hA3]<;>grind
    rw[e,c1,c2,c3,T];apply V.ext'<;>simp[add,sub,smul,zero]
   ·exact⟨_,_,_,_,bi,K,q,J,c3⟩
  ·exact .inr (.inl ⟨_,_,_,q,I,J,c2⟩)
 ·exact .inl ⟨_,_,_,bi,K,L,c1⟩
end
end Geo
end
noncomputable section
namespace Sy
open Go Go.Proofs Geo
def bR(q:Nat->Int)(v:V):V:=⟨dq q 0*v.x+dq q 3*v.y+dq q 6*v.z,dq q 1*v.x+dq q 4*v.y+dq q 7*v.z,dq q 2*v.x+dq q 5*v.y+dq q 8*v.z⟩
def jA(q:Nat->Int)(u v:V):V.dot u (ay q v)=V.dot (bR q u) v:=by simp only[V.dot,ay,cC,bR,zQc,zcb,zcd,Nat.reduceMul,Nat.reduceAdd];grind
def lC(q:Nat->Int)(v:V):ay q (bR q v)=V.smul (ap q*ap q) v:=by apply V.ext'<;>simp only[V.smul,ay,cC,bR,dq,ap,zQc,zcb,zcd,Nat.reduceMul,Nat.reduceAdd]<;>grind
def jl(q:Nat->Int)(v:V):bR q (ay q v)=V.smul (ap q*ap q) v:=by apply V.ext'<;>simp only[V.smul,ay,cC,bR,dq,ap,zQc,zcb,zcd,Nat.reduceMul,Nat.reduceAdd]<;>grind
theorem js(q:Nat->Int)(k:Int)(v:V):ay q (V.smul k v)=V.smul k (ay q v):=by grind [V.smul,ay,cC]
theorem FI(q:Nat->Int)(k:Int)(v:V):bR q (V.smul k v)=V.smul k (bR q v):=by grind [V.smul,bR]
def mq{k:Int}(hk:k≠0){v:V}(h:V.smul k v=V.zero):v=V.zero:=by have a:=zma V.x h;have b:=zma V.y h;have c:=zma V.z h;simp only[V.smul,V.zero] at a b c;exact V.ext' ((z7a.1 a).resolve_left hk) ((z7a.1 b).resolve_left hk) ((z7a.1 c).resolve_left hk)
def pu{q:Nat->Int}{u v:V}(h:V.cross u v=V.zero):V.cross (ay q u) (ay q v)=V.zero:=by all_goals grind [V.cross,ay,cC,V.zero,js,V.smul]
section
variable{q:Nat->Int}(hq:ap q≠0)
include hq
def Aw{v:V}(h:v≠V.zero):ay q v≠V.zero:=λe=>h (mq (z5b hq hq) (by rw[<-jl,e];simp[bR,V.zero]))
def pF{v:V}(h:v≠V.zero):bR q v≠V.zero:=λe=>h (mq (z5b hq hq) (by rw[<-lC,e];simp[ay,cC,V.zero]))
def C0{u v:V}(h:V.cross (ay q u) (ay q v)=V.zero):V.cross u v=V.zero:=by
 have hs:=z5b hq hq;have key:V.cross (bR q (ay q u)) (bR q (ay q v))=V.zero:=by all_goals grind [V.cross,bR,V.zero,FI,V.smul]
 rw[jl,jl] at key;refine mq (z5b hs hs) ?_;rw[<-key];apply V.ext'<;>simp only[V.smul,V.cross]<;>grind
end
def fl(x:V)(q:Nat->Int)(l:List V)(i:Nat):V:=li x q (pt l i)
def rF(n x:V)(q:Nat->Int)(l:List V)(i:Nat):V.dot n (fl x q l i)=V.dot (bR q n) (pt l i)+ap q*V.dot n x:=by rw[<-jA];simp only[fl,li,V.dot,ay];grind
def wG(x:V)(q:Nat->Int)(l:List V)(i j:Nat):wy (fl x q l) i j=ay q (wy (pt l) i j):=by apply V.ext'<;>simp only[wy,V.sub,fl,li,ay,cC]<;>grind
def wq{n x:V}{q:Nat->Int}{l:List V}{i:Nat}(h:gj (fl x q l) l.length n i):gj (pt l) l.length (bR q n) i:=⟨h.1,λk hk=>by have:=h.2 k hk;rw[rF,rF] at this;omega⟩
def DV{P:Nat->V}{N:Nat}{n:V}{i:Nat}(h:gj P N n i):∀ k,k<N->V.dot n (wy P i k)<=0:=λk hk=>by have:=h.2 k hk;grind [bo]
def oa{P:Nat->V}{N:Nat}{n:V}{i j:Nat}(h:gj P N n i)(k:gj P N n j):V.dot n (wy P i j)=0:=by have:=h.2 j k.1;have:=k.2 i h.1;grind [bo]
def E3{n:V}(h:n≠V.zero):n.neg≠V.zero:=λe=>h (vC.1 e)
def uU{x n:V}{q:Nat->Int}(hq:ap q≠0){l:List V}(hl:Hul l){F:FL}{E:List (Nat×Nat)}(hF:Fac l F E)(u:n≠V.zero)(w:aW n=1){i j k:Nat}(z:gj (fl x q l) l.length n i)(A:gj (fl x q l) l.length n j)(B:gj (fl x q l) l.length n k)(h3:cO (fl x q l) i j k≠V.zero):n∈IF q F:=by
 obtain⟨m0,d0,h0⟩:=hl.ex;have r:=pF hq u;have t1:=wq z;have t2:=wq A;have t3:=wq B;have hc:V.cross (wy (pt l) i j) (wy (pt l) i k)≠V.zero:=λh=>h3 (by show V.cross (wy (fl x q l) i j) (wy (fl x q l) i k)=V.zero;rw[wG,wG];exact pu h)
 obtain⟨f,d,hf,_,_,c,o,e⟩:=Oq t1.1 t2.1 t3.1 r (DV t1) (k9 h0 i r) (oa t1 t2) (oa t1 t3) hc;obtain⟨s,p,m⟩:=zMa.1 ((hF.kn.facets.mem (f,d)).2 hf);refine zMa.2 ⟨s,p,?_⟩;rw[show s.1.1=f by rw[m]]
 have g:=lC q n;rw[e,js] at g;have t:=Aw hq hf.nz.1;have pm:=fL (ay q f);have C:=fh t;have y:0<ap q*ap q:=Aq hq;refine lh (jm t) w (a:=c*aW (ay q f)) (b:=ap q*ap q) (zBa o j1) y ?_
 rw[pm] at g;rw[<-g];have:∀ (a b:Int) (v:V),V.smul (a*b) v=V.smul a (V.smul b v):=λa b v=>by simp only[V.smul,Int.mul_assoc]
 rw[this,<-pm]
def Bk{l:List V}(hl:Hul l){F:FL}{E:List (Nat×Nat)}(hF:Fac l F E){a b:Nat}(g:a<b)(h:∃ n d,IsF (pt l) l.length n d/\(uo (pt l) l.length n d a b\/uo (pt l) l.length n d b a)):(a,b)∈E:=by
 obtain⟨n1,d1,h1,h2⟩:=(uQ hl.srt).1 h;rw[hF.e,vr];refine⟨(au.1 h2.1).1,(au.1 h2.2.mem).1,g,?_⟩;obtain⟨i,c,f⟩:=zMa.1 ((hF.kn.facets.mem (n1,d1)).2 h1);obtain⟨j,k⟩:=hF.kn.fok.ok i c;rw[f] at j k;obtain⟨t,i1,i2,i3⟩:=(abY hl.srt j k).2 h2;refine zic.2 ⟨i,c,zic.2 ⟨t,zWa.2 i1,?_⟩⟩;unfold Tq
 simp_all
def xu{x n:V}{q:Nat->Int}(hq:ap q≠0){l:List V}(hl:Hul l){F:FL}{E:List (Nat×Nat)}(hF:Fac l F E)(y:n≠V.zero){i j:Nat}(A:gj (fl x q l) l.length n i)(B:gj (fl x q l) l.length n j)(g:wy (fl x q l) i j≠V.zero)
  (o:∀ k,gj (fl x q l) l.length n k->cO (fl x q l) i j k=V.zero):∃ e∈E,(mE q l e=wy (fl x q l) i j\/mE q l e=(wy (fl x q l) i j).neg):=by
 obtain⟨m0,d0,h0⟩:=hl.ex;have t:=pF hq y;have t1:=wq A;have t2:=wq B;rw[wG] at g ⊢;have m:wy (pt l) i j≠V.zero:=λh=>g (by rw[h];simp[ay,cC,V.zero])
 have p:j≠i:=λh=>m (by rw[h,fQ])
 have c:∀ k,k<l.length->V.dot (bR q n) (wy (pt l) i k)=0->V.cross (wy (pt l) i j) (wy (pt l) i k)=V.zero:=λk hk h=>by
  have C:gj (fl x q l) l.length n k:=⟨hk,λz w=>by have:=t1.2 z w;rw[bo] at h;rw[rF,rF];omega⟩
  have:=o k C;rw[show cO (fl x q l) i j k=V.cross (wy (fl x q l) i j) (wy (fl x q l) i k) from rfl,wG,wG] at this;exact C0 hq this
 obtain⟨f,d,hf,u,v⟩:=Ol t1.1 t2.1 m t (DV t1) (λhm=>k9 h0 i hm) (oa t1 t2) c;have s:=Bj hl.srt hl.vtx hf u v p (DV t1) (oa t1 t2) c;have r:=λ{a b:Nat}=>Bk hl hF (a:=a) (b:=b);rcases zxa i j with k|k
 ·refine⟨(i,j),r k ⟨f,d,hf,s⟩,.inl rfl⟩
 ·refine⟨(j,i),r j1 ⟨f,d,hf,s.symm⟩,.inr ?_⟩
  grind [mE,ay,cC,wy,V.sub,V.neg]
def B5{n c:V}(g:n≠V.zero)(f:aW n=1)(d:c≠V.zero)(h:V.cross n c=V.zero):n=aF c\/n=(aF c).neg:=by
 have p:=zT h n;have nn:=zg g;have gc:=fh d;have pm:=fL c;have sm:∀ (a b:Int) (v:V),V.smul (a*b) v=V.smul a (V.smul b v):=λa b v=>by simp only[V.smul,Int.mul_assoc]
 rcases zxb 0 (V.dot n c) with k|k|k
 ·left;refine lh f (jm d) (a:=V.dot n c) (b:=V.dot n n*aW c) k (zBa nn j1) ?_
  grind
 ·exfalso;rw[<-k] at p;exact d (mq (k:=V.dot n n) j1 (by rw[p];simp[V.smul,V.zero]))
 ·right;refine lh f (by rw[pV];exact jm d) (a:=-V.dot n c) (b:=V.dot n n*aW c) j1 (zBa nn j1) ?_
  have e:V.smul (V.dot n n*aW c) (aF c).neg=(V.smul (V.dot n n*aW c) (aF c)).neg:=by apply V.ext'<;>simp only[V.smul,V.neg]<;>grind
  rw[e,sm,<-pm,p];grind [V.smul,V.neg]
def df{a b:Int}(c:b≠0):(Rat.divInt a b).num*b=a*(Rat.divInt a b).den:=by have h:=zyb (Rat.divInt a b);exact(zHb (da _) c).1 h
theorem fe{a b c d:Int}(i:0<b)(j:0<d):Rat.divInt a b<=Rat.divInt c d↔a*d<=c*b:=by
 have f:=df (a:=a) (b:=b) j1
 have g:=df (a:=c) (b:=d) j1
 have n:=(Rat.divInt a b).den_pos;have o:=(Rat.divInt c d).den_pos;rw[Rat.le_iff];generalize (Rat.divInt a b).num=x at *;generalize (Rat.divInt c d).num=y at *;obtain⟨u,hu⟩:∃ u:Int,((Rat.divInt a b).den:Int)=u:=⟨_,rfl⟩;obtain⟨v,l⟩:∃ v:Int,((Rat.divInt c d).den:Int)=v:=⟨_,rfl⟩;have m:0<u:=j1
 have v0:0<v:=j1
 rw[hu] at f ⊢;rw[l] at g ⊢;have bd:=zBa i j;have e:=zBa m v0;have k:(b*d)*(y*u-x*v)=(u*v)*(c*b-a*d):=by grind
 constructor
 ·intro h;have h1:=z8a (zpa bd) (show 0<=y*u-x*v by omega)
  rw[k] at h1;have:=nW e h1;omega
 ·intro h;have h1:=z8a (zpa e) (show 0<=c*b-a*d by omega)
  rw[<-k] at h1;have:=nW bd h1;omega
theorem Dn(u:V)(L:List V):∀ k i,i<=k->V.dot u (pt L i)<=AJ u L k
 | 0,i,h=>by rw[show i=0 by omega];exact zjc _
 | k+1,i,h=>by
  rw[vA];by_cases hi:i=k+1
  ·grind
  ·have:=Dn u L k i j1
   omega
theorem Dm(u:V)(L:List V):∀ k,∃ i,i<=k/\AJ u L k=V.dot u (pt L i)
 | 0=>⟨0,zia _,rfl⟩
 | k+1=>by
  rw[vA];split
  ·grind
  ·obtain⟨i,h1,h2⟩:=Dm u L k;grind
section
variable{x y:V}{q r:Nat->Int}{l m:List V}{F G:FL}{E E':List (Nat×Nat)}
def qf(h:PairOk x y q r l m)(u:V):¬ jg u x y q r l m<0↔∀ i j,i<l.length->j<m.length->ap r*V.dot u (fl x q l i)<=ap q*V.dot u (fl y r m j):=by
 have a:=(cq h.pa.hq h.pa.h0).1;have b:=(cq h.pb.hq h.pb.h0).1;have na:=h.na;have nb:=h.nb;have e:¬ jg u x y q r l m<0↔AJ u (l.map (li x q)) (l.length-1)*ap r<=-AJ u.neg (m.map (li y r)) (m.length-1)*ap q:=by unfold jg eQ;rw[Rat.not_lt,<-fe a b,<-Rat.neg_divInt];grind
 rw[e];constructor
 ·intro hm i j c d;have h1:=Dn u (l.map (li x q)) (l.length-1) i j1
  have h2:=Dn u.neg (m.map (li y r)) (m.length-1) j j1
  rw[z7 _ c] at h1;rw[z7 _ d,jz] at h2;have n:=zja h1 (zpa b);have g:=zja h2 (zpa a);rw[zFb] at g;rw[Int.neg_mul,zHa _ (ap r),zHa _ (ap q)] at hm;show ap r*V.dot u (li x q (pt l i))<=ap q*V.dot u (li y r (pt m j));omega
 ·intro hm;obtain⟨i,i1,i2⟩:=Dm u (l.map (li x q)) (l.length-1);obtain⟨j,k,f⟩:=Dm u.neg (m.map (li y r)) (m.length-1);have:=hm i j j1 j1
  rw[i2,f,z7 _ (show i<l.length by omega),z7 _ (show j<m.length by omega),jz,Int.neg_neg,zHa,zHa _ (ap q)]
  exact this
def P7(h:PairOk x y q r l m)(hl:Hul l)(hm:Hul m)(hF:Fac l F E)(hG:Fac m G E'){u:V}(S:u≠V.zero)(hu:¬ jg u x y q r l m<0):(fC x y q r l m (vO q r l m F G E E')).2.isSome=true:=by
 have Q:=(cq h.pa.hq h.pa.h0).1;have R:=(cq h.pb.hq h.pb.h0).1;have D:ap q≠0:=j1
 have K:ap r≠0:=j1
 obtain⟨m0,d0,h0⟩:=hl.ex;obtain⟨n,d,p,J,hc⟩:=sat (A:=fl x q l) (B:=fl y r m) (Na:=l.length) (Nb:=m.length) (s:=ap q) (t:=ap r) Q R h.na h.nb (λ{v} N i M=>by obtain⟨k,hk,g⟩:=k9 h0 i (pF D N);exact⟨k,hk,by rw[wG,jA];exact g⟩) S ((qf h u).1 hu)
 have nz:=E3 d;have C:aW n.neg=1:=by rw[pV];exact p
 have I:¬ jg n.neg x y q r l m<0:=(qf h n.neg).2 λi j M Y=>by simp_all [jz,zFb]
 have fin:n.neg∈vO q r l m F G E E'->(fC x y q r l m (vO q r l m F G E E')).2.isSome=true:=λZ=>by obtain⟨m1,m2⟩:=JN (mg:=λu=>jg u x y q r l m) (vl:=λu=>AK u x y q r l m) (vO q r l m F G E E');grind [fC]
 refine fin ?_;by_cases cb:∃ i j k,gj (fl y r m) m.length n i/\gj (fl y r m) m.length n j/\gj (fl y r m) m.length n k/\cO (fl y r m) i j k≠V.zero
 ·obtain⟨i,j,k,t1,t2,t3,h3⟩:=cb;exact List.mem_append_left _ (zJa _ (zMa.2 ⟨n,uU K hm hG d p t1 t2 t3 h3,rfl⟩))
 by_cases ca:∃ i j k,gj (fl x q l) l.length n.neg i/\gj (fl x q l) l.length n.neg j/\gj (fl x q l) l.length n.neg k/\cO (fl x q l) i j k≠V.zero
 ·obtain⟨i,j,k,t1,t2,t3,h3⟩:=ca;exact List.mem_append_left _ (List.mem_append_left _ (uU D hl hF nz C t1 t2 t3 h3))
 rcases hc with hc|hc|⟨i,j,k,o,t1,t2,t3,t4,hx⟩
 ·grind
 ·grind
 ·have w1:wy (fl y r m) i j≠V.zero:=λe=>hx (by rw[e];apply V.ext'<;>simp[V.cross,V.zero])
  have T:wy (fl x q l) k o≠V.zero:=λe=>hx (by rw[e];apply V.ext'<;>simp[V.cross,V.zero])
  obtain⟨f,hf,b⟩:=xu K hm hG d t1 t2 w1 λz H=>Classical.byContradiction λc=>cb ⟨i,j,z,t1,t2,H,c⟩;obtain⟨e,he,a⟩:=xu D hl hF nz t3 t4 T λz H=>Classical.byContradiction λc=>ca ⟨k,o,z,t3,t4,H,c⟩;have d1:=oa t1 t2;have d2:=oa t3 t4;rw[jz] at d2;have O:V.dot n (mE r m f)=0:=by
   rcases b with b|b
   ·simp_all
   ·rw[b,show ∀ w:V,V.dot n w.neg=-V.dot n w from λw=>by simp only[V.dot,V.neg];grind];omega
  have P:V.dot n (mE q l e)=0:=by
   rcases a with a|a
   ·rw[a];omega
   ·rw[a,show ∀ w:V,V.dot n w.neg=-V.dot n w from λw=>by simp only[V.dot,V.neg];grind];omega
  have L:V.cross (mE q l e) (mE r m f)≠V.zero:=λc=>hx (by have U:=zma V.x c;have W:=zma V.y c;have X:=zma V.z c;rcases b with b|b<;>rcases a with a|a<;>rw[b,a] at U W X<;>(apply V.ext'<;>simp only[V.cross,V.neg,V.zero] at *<;>grind))
  have pp:=B5 d p L (eh P O);refine zJa _ (zPa.2 ⟨e,he,zPa.2 ⟨f,hf,?_⟩⟩);rcases pp with pp|pp
  ·rw[pp];simp
  ·rw[pp,PU];simp
end
def Ew(X:Int){D:Int}(h:0<D):((Rat.divInt X D).den:Int) ∣ D:=by
 have h2:=(zh X (show D≠0 by omega)).2
 obtain⟨k,hk⟩:=h2;exact⟨k,j1⟩
def kI{X Y D:Int}{p q:Nat}(A:X.natAbs<=2^p)(B:Y.natAbs<=2^p)(z:D.natAbs<=2^q)(h0:0<D)(hp:p<=500)(hq:q<=500):addW (some (Rat.divInt X D)) (some (Rat.divInt Y D))=some (Rat.divInt (X+Y) D):=by
 have ex:=df (a:=X) (b:=D) j1
 have s:=df (a:=Y) (b:=D) j1
 have l:=Ew X h0;have m:=Ew Y h0;have n:Rat.divInt X D+Rat.divInt Y D=Rat.divInt (X+Y) D:=by rw[zwc _ _ j1 j1,<-Int.add_mul,Rat.divInt_mul_right j1]
 obtain⟨g,a,b,C,t,h,f,a0,G,o,r⟩:=Fo (Rat.divInt X D) (Rat.divInt Y D);generalize Rat.divInt X D=x at *;generalize Rat.divInt Y D=y at *;have ld:((x.den:Nat):Int)*b ∣ D:=by
  have h1:x.den ∣ D.natAbs:=z6a.1 l;have h2:y.den ∣ D.natAbs:=z6a.1 m;have h3:=Nat.lcm_dvd h1 h2;have w:Nat.lcm x.den y.den=x.den*b:=by
   unfold Nat.lcm;rw[<-C]
   conv=>lhs;rw[f]
   rw[<-zGb,z9a x.den g,zGb,Nat.mul_div_cancel_left _ t]
  rw[w] at h3;rw[<-z0a];exact z6a.2 h3
 obtain⟨e,he⟩:=ld;have H:0<e:=by
  have:0<(x.den:Int)*b:=zBa (by have:=x.den_pos;omega) j1
  exact gS this (by rw[<-he];exact h0)
 have I:(0:Int)<x.den:=by have:=x.den_pos;omega
 have J:(0:Int)<y.den:=by have:=y.den_pos;omega
 have c:(y.den:Int)*a=x.den*b:=by rw[h,f,z0a,z0a];grind
 have E:x.num*b*e=X:=by
  have:(x.den:Int)*(x.num*b*e)=x.den*X:=by rw[zHa _ X,<-ex,he];grind
  exact Int.eq_of_mul_eq_mul_left j1 this
 have F:y.num*a*e=Y:=by
  have:(y.den:Int)*(y.num*a*e)=y.den*Y:=by rw[zHa _ Y,<-s,he,<-c];grind
  exact Int.eq_of_mul_eq_mul_left j1 this
 have small:∀ {u v:Int} {k:Nat},u*e=v->v.natAbs<=2^k->u.natAbs<=2^k:=λ{u v k} h1 h2=>by
  have:u.natAbs*e.natAbs=v.natAbs:=by rw[<-h1,zNa]
  have h3:u.natAbs*1<=u.natAbs*e.natAbs:=zAb _ j1
  omega
 have i:=small E A;have j:=small F B;have i1:In (x.num*b):=fa j1 i
 have i2:In (y.num*a):=fa j1 j
 have i3:In (x.num*b+y.num*a):=fa (k:=p+1) j1 (cn i j)
 have i4:In ((a:Int)*y.den):=fa (k:=q) j1 (small (v:=D) (by rw[zHa (a:Int),c,<-he]) z)
 have d:(a:Int)*y.den≠0:=z5b j1 j1
 simp only[addW,AO,o,r];rw[kf i1,kf i2,Eb i3,kf i4];simp only[oh];rw[zka d,sC h f d,n]
def Fac.small{l:List V}{F:FL}{E:List (Nat×Nat)}(h:Fac l F E)(hl:l.length<=10):F.length<=2000/\E.length<=100:=by
 constructor
 ·have nd:(F.map Prod.fst).Nodup:=by
   refine zqd.2 (h.kn.fok.ord.imp λ{a b} d e=>?_);rw[e] at d;exact nV _ d
  have:=z0b (l₂:=xd l) nd λq hq=>by obtain⟨f,hf,rfl⟩:=zMa.1 hq;exact xE (h.kn.fok.ok f hf).1
  rw[zya] at this;refine zIa this ?_;unfold xd;rw[kw (c:=l.length*(l.length*2)) _ (λi _=>by rw[kw (c:=l.length*2) _ (λj _=>by rw[kw (c:=2) _ (λk _=>rfl),zsb]),zsb]),zsb]
  have a1:l.length*2<=20:=j1
  have a2:l.length*(l.length*2)<=10*20:=z4a hl a1;exact z4a hl a2
 ·rw[h.e];exact zIa (AQ _ _ _) (z4a hl hl)
def yd{a b:Option Rat}{z:Rat}(h:mulW a b=some z):∃ x y,a=some x/\b=some y/\z=x*y:=by
 cases a with
 | none=>simp only[mulW] at h;cases h
 | some x=>cases b with
  | none=>simp only[mulW] at h;cases h
  | some y=>exact⟨x,y,rfl,rfl,Jh h⟩
def re{a b:Option Rat}{z:Rat}(h:addW a b=some z):∃ x y,a=some x/\b=some y/\z=x+y:=by
 cases a with
 | none=>simp only[addW] at h;cases h
 | some x=>cases b with
  | none=>simp only[addW] at h;cases h
  | some y=>exact⟨x,y,rfl,rfl,HE h⟩
def GW{a b:Option Rat}{z:Rat}(h:Cu a b=some z):∃ x y,a=some x/\b=some y/\z=x+-y:=by
 obtain⟨x,y,h1,h2,h3⟩:=re h;cases b with
 | none=>cases h2
 | some w=>cases h2;exact⟨x,w,h1,rfl,h3⟩
def BR:Rat:=((4611686018427387904:Int):Rat)
def G4(v:Rat):Prop:=-BR<=v/\v<=BR
def Mh(p:WV):Prop:=w9 p/\∀ i,∀ v,p i=some v->G4 v
def J9{X s:Int}(b:-4611686018427387904<=X/\X<=4611686018427387904)(hs:0<s):G4 (Rat.divInt X s):=by
 have e:BR=Rat.divInt 4611686018427387904 1:=by rw[div_one];rfl
 have a:-BR=Rat.divInt (-4611686018427387904) 1:=by rw[e,Rat.neg_divInt]
 constructor
 ·rw[a,fe j2 hs];omega
 ·grind [fe,decide]
def Kd{a b t:Rat}(c:G4 a)(d:G4 b)(h0:0<t)(h1:t<1):G4 (a+t*(b+-a)):=by
 have e:0<=t:=Rat.le_of_lt h0;have f:0<=1-t:=h7
 have m1:=Rat.mul_nonneg f (show 0<=BR-a by have:=c.2;grind)
 have m2:=Rat.mul_nonneg e (show 0<=BR-b by have:=d.2;grind)
 have m3:=Rat.mul_nonneg f (show 0<=BR+a by have:=c.1;grind)
 have m4:=Rat.mul_nonneg e (show 0<=BR+b by have:=d.1;grind)
 constructor
 ·grind
 ·grind
def yq{x:V}{q:Nat->Int}(h:PoseOk x q){l:List V}(hl:∀ v∈l,bd 4096 v){k:Nat}(hk:k<l.length):Mh (qo x q l k):=by refine⟨PZ h hl hk,λi v a=>?_⟩;cases a;have b:=vJ h (hl _ (gA hk));refine J9 ?_ (cq h.hq h.h0).1;grind [bd,PB,aC]
def Sd{x:Rat}(h:sg x.num>0):0<x:=by
 have h1:¬ x.num<0:=λhn=>by rw[Aj hn] at h;omega
 have h2:x.num≠0:=λhn=>by rw[hn] at h;revert h;decide
 rw[Rat.lt_iff];simp;omega
def ed(L:List WV):(L.map bc).length=L.length:=zya ..
section
variable{x y:V}{q r:Nat->Int}{l m:List V}{F G:FL}{E E':List (Nat×Nat)}
def zr(x y:V)(q r:Nat->Int)(F G:FL)(p:WV):Bool:=decide (eH x q F p ≥ 0)&&decide (eH y r G p ≥ 0)
def Oz(n:Nat)(h:PairOk x y q r l m)(hF:Fac l F E)(hG:Fac m G E'){p:WV}(hp:w9 p):∃ e:Int,cA (n+1036) 423 [dJ x q,db l,bc p]=some (I e)/\(if decide (e ≥ 0)=true then (D.get (fJ y r m) [0]).bind λb=>(D.get (fJ y r m) [1]).bind λc=>(cA (n+1036) 423 [b,c,bc p]).bind λa=>(abG .geq a (D.int .i64 0)).bind λd=>D.truth d else some false)=some (zr x y q r F G p):=by
 refine⟨_,My n h.pa hF.fb hF.h18 hp,?_⟩;unfold zr;by_cases hz:eH x q F p ≥ 0
 ·rw[zha hz,zCb];exact gF (j0 (dJ y r) (j0 (db m) (aa (My n h.pb hG.fb hG.h18 hp) (aa ik ac))))
 ·grind
def iW(x y:V)(q r:Nat->Int)(F G:FL)(p:WV):List WV:=if zr x y q r F G p=true then[p] else[]
def ua{x y:V}{q r:Nat->Int}{F G:FL}{p:WV}(h:zr x y q r F G p=true):iW x y q r F G p=[p]:=zna h
def EO{x y:V}{q r:Nat->Int}{F G:FL}{p:WV}(h:zr x y q r F G p=false):iW x y q r F G p=[]:=zka (by rw[h];decide)
def NW(x:V)(q:Nat->Int)(l:List V)(e:Nat×Nat):WV:=dT (qo x q l e.2) (qo x q l e.1)
def wg(x:V)(q r:Nat->Int)(l:List V)(e:Nat×Nat)(f:(V×Int)×List Nat):Option Rat:=rO (lE (ay r f.1.1)) (NW x q l e)
def pM(x y:V)(q r:Nat->Int)(l:List V)(e:Nat×Nat)(f:(V×Int)×List Nat):Option Rat:=uN (Cu (some ((ap r*f.1.2:Int):Rat)) (rO (lE (ay r f.1.1)) (dT (qo x q l e.1) (lE y)))) (wg x q r l e f)
def Iq(x y:V)(q r:Nat->Int)(l:List V)(e:Nat×Nat)(f:(V×Int)×List Nat):WV:=th (qo x q l e.1) (DS (pM x y q r l e f) (NW x q l e))
def mS(x y:V)(q r:Nat->Int)(l:List V)(F G:FL)(e:Nat×Nat)(f:(V×Int)×List Nat):List WV:=
 if Cn (wg x q r l e f)=0 then[] else if(decide (Cn (pM x y q r l e f)>0)&&decide (ja (pM x y q r l e f) (some ((1:Int):Rat))<0))=true then iW x y q r F G (Iq x y q r l e f) else[]
def kX(x y:V)(q r:Nat->Int)(l:List V)(F G:FL)(E:List (Nat×Nat)):List WV:=
 (List.range l.length).flatMap (λk=>iW x y q r F G (qo x q l k))++E.flatMap λe=>G.flatMap λf=>mS x y q r l F G e f
def nT{x y:V}{q r:Nat->Int}{F G:FL}{p:WV}:(iW x y q r F G p).length<=1:=by unfold iW;split<;>simp
def A7{e:Nat×Nat}{f:(V×Int)×List Nat}:(mS x y q r l F G e f).length<=1:=by
 unfold mS;split
 ·simp
 ·split
  ·exact nT
  ·simp
def rS{x y:V}{q r:Nat->Int}{F G:FL}{p w:WV}(h:w∈iW x y q r F G p):w=p:=by all_goals simp_all [iW]
def Ir(h:PairOk x y q r l m){e:Nat×Nat}(he:e.1<l.length/\e.2<l.length){f:(V×Int)×List Nat}(d:(decide (Cn (pM x y q r l e f)>0)&&decide (ja (pM x y q r l e f) (some ((1:Int):Rat))<0))=true):Mh (Iq x y q r l e f):=by
 simp only[zaa,zfa] at d;have z:=yq h.pa h.la he.1;have A:=yq h.pa h.la he.2;refine⟨λi=>lK _ _,λj v u=>?_⟩;obtain⟨a,b,h3,n,rfl⟩:=re u;obtain⟨t,w,o,p,rfl⟩:=yd n;rw[o] at d;have t1:t<1:=by all_goals grind [j5]
 have c:Cu (qo x q l e.2 j) (qo x q l e.1 j)=some w:=p;obtain⟨k,a1,s,g,rfl⟩:=GW c;rw[h3] at g;cases g;exact Kd (z.2 j a h3) (A.2 j k s) (Sd d.1) t1
def zK(h:PairOk x y q r l m)(hF:Fac l F E):∀ p∈kX x y q r l F G E,Mh p:=λp hp=>by
 rcases List.mem_append.1 hp with hp|hp
 ·obtain⟨k,hk,hp⟩:=zPa.1 hp;rw[rS hp];exact yq h.pa h.la (zWa.1 hk)
 ·obtain⟨e,he,hp⟩:=zPa.1 hp;obtain⟨f,hf,hp⟩:=zPa.1 hp;unfold mS at hp;split at hp
  ·cases hp
  ·split at hp
   ·rename_i a;rw[rS hp];exact Ir h (hF.lt e he) a
   ·cases hp
def qg(h:PairOk x y q r l m)(hF:Fac l F E)(hG:Fac m G E'):(kX x y q r l F G E).length<=300000:=by
 obtain⟨sF,b⟩:=hF.small h.ta;obtain⟨c,a⟩:=hG.small h.tb;have ta:=h.ta;unfold kX;rw[zta];have a1:=jC (E:=List.range l.length) (g:=λk=>iW x y q r F G (qo x q l k)) (k:=1) (λ_ _=>nT);have a2:=jC (E:=E) (g:=λe=>G.flatMap λf=>mS x y q r l F G e f) (k:=2000) (λe _=>by have:=jC (E:=G) (g:=λf=>mS x y q r l F G e f) (k:=1) (λ_ _=>A7);omega)
 grind
def Oe(n:Nat)(h:PairOk x y q r l m)(hF:Fac l F E)(hG:Fac m G E'):cA (n+1037) 443 [fJ x q l,fJ y r m]=some (.sl ((kX x y q r l F G E).map bc)):=by
 obtain⟨sF,sE⟩:=hF.small h.ta;obtain⟨Y,X⟩:=hG.small h.tb;have ta:=h.ta;rw[YV];delta LW qG qB qC qT qS qX qP qV qW qZ iL iR Jn;refine aa (z:=(kX x y q r l F G E).map bc) ?_ rfl;refine j0 (eG (l.map (li x q))) (j0 ((l.map (li x q)).map af) ?_);have P:((l.map (li x q)).map af).length=l.length:=j3
 refine c6 (λk s=>s=[I (k:Int),.sl (((List.range k).flatMap λk=>iW x y q r F G (qo x q l k)).map bc)]) l.length 0 (zAa _) rfl (λk hk s c=>?_) (λs c=>?_)
 ·subst c;left;refine⟨_,?_,rfl⟩;have W:=yq h.pa h.la hk;obtain⟨Z,v,w⟩:=Oz n h hF hG W.1;have O:=jC (E:=List.range k) (g:=λk=>iW x y q r F G (qo x q l k)) (k:=1) (λ_ _=>nT);rw[zsb] at O;rw[zgc,List.flatMap_append,List.flatMap_cons,List.flatMap_nil,zBb];generalize (List.range k).flatMap (λk=>iW x y q r F G (qo x q l k))=L at *;refine aa ah (aa ac (aY (by rw[P];omega) (aa (Pb (n+4) h.pa h.la hk) (j0 (dJ x q) (j0 (db l) (aa v (aa ik (aa ac (aa w (aa ac ?_))))))))))
  cases hb:zr x y q r F G (qo x q l k) with
  | true=> rw[ua hb];exact gF ((zna (by show(L.map bc).length+1<=_;rw[ed];omega)).trans (aa (a8 (a:=k) (b:=1) j1) (by rw[zKb];rfl)))
  | false=> rw[EO hb,zBb];exact rL (aa (a8 (a:=k) (b:=1) j1) rfl)
 ·subst c;refine⟨_,aa ah (aa ac (be (by rw[P];omega) rfl)),?_⟩
  obtain⟨L0,d⟩:∃ L0,(List.range l.length).flatMap (λk=>iW x y q r F G (qo x q l k))=L0:=⟨_,rfl⟩;have l0:=jC (E:=List.range l.length) (g:=λk=>iW x y q r F G (qo x q l k)) (k:=1) (λ_ _=>nT);rw[zsb,d] at l0;unfold kX;rw[d];refine j0 (db m) (aa (hG.h18 (n+1028)) (j0 (db l) (aa (hF.h21 (n+1027)) (j0 (E.map jc) ?_))));refine c6 (λi s=>s=[I (i:Int),.sl ((L0++(E.take i).flatMap λe=>G.flatMap λf=>mS x y q r l F G e f).map bc)]) E.length 0 (zAa _) (by rw[List.take_zero,List.flatMap_nil,zBb];rfl) (λi o s c=>?_) (λs c=>?_)
  ·subst c;left;refine⟨_,?_,rfl⟩;obtain⟨h1,h2⟩:=hF.lt E[i] (zFa o);have u:=yq h.pa h.la h1;have Q:=yq h.pa h.la h2;have ow:=rW (qo x q l E[i].2) (qo x q l E[i].1);have N:∀ (e:Nat×Nat) (M:FL),M.length<=2000->(M.flatMap λf=>mS x y q r l F G e f).length<=2000:=λe M hM=>by
    have:=jC (E:=M) (g:=λf=>mS x y q r l F G e f) (k:=1) (λ_ _=>A7);omega
   have O:=jC (E:=E.take i) (g:=λe=>G.flatMap λf=>mS x y q r l F G e f) (k:=2000) (λe _=>N e G Y);have:(E.take i).length*2000<=100*2000:=zKa _ (by rw[zgb];omega)
   rw[nO _ o,<-zOa];obtain⟨L1,A⟩:∃ L1,L0++(E.take i).flatMap (λe=>G.flatMap λf=>mS x y q r l F G e f)=L1:=⟨_,rfl⟩;have l1:L1.length<=200010:=h7
   rw[A];refine aa ah (aa ac (aY (by rw[kW];omega) (j0 (E.map jc) (aa (z:=i) (by rw[kW];exact aw o) (aa (RH o) ?_)))))
   refine j0 (I (E[i].1:Int)) (aa (Pb (n+4) h.pa h.la h1) (j0 (I (E[i].2:Int)) (aa (Pb (n+4) h.pa h.la h2) (aa (O9 (n+3) Q.1 u.1) (j0 (ba G) ?_)))));obtain⟨e,T⟩:∃ e,E[i]=e:=⟨_,rfl⟩;rw[T] at h1 h2 u Q ow ⊢;refine c6 (λk s=>s=[I (k:Int),.sl ((L1++(G.take k).flatMap λf=>mS x y q r l F G e f).map bc)]) G.length 0 (zAa _) (by rw[List.take_zero,List.flatMap_nil,zBb];rfl) (λk hk s c=>?_) (λs c=>?_)
   ·subst c;left;refine⟨_,?_,rfl⟩;obtain⟨g1,g2⟩:=hG.fb.2 G[k] (zFa hk);have J:=wu h.pb.hq (FJ g1);have hy:∀ i,inR (aC y i):=kQ (by have:=h.pb.hx;simp only[bd] at this;simp only[inR];omega) (by have:=h.pb.hx;simp only[bd] at this;simp only[inR];omega) (by have:=h.pb.hx;simp only[bd] at this;simp only[inR];omega)
    have sk:=Ff h.pb g2;have lk:=N e (G.take k) (by rw[zgb];omega)
    rw[nO _ hk,<-zOa];obtain⟨L,S⟩:∃ L,L1++(G.take k).flatMap (λf=>mS x y q r l F G e f)=L:=⟨_,rfl⟩;have V:L.length<=202010:=h7
    rw[S];refine aa ah (aa ac (aY (by rw[bF];omega) (aa (z:=(0,[.sl ((L++mS x y q r l F G e G[k]).map bc)])) ?_ (aa (a8 (a:=k) (b:=1) j1) rfl))))
    obtain⟨f,U⟩:∃ f,G[k]=f:=⟨_,rfl⟩;have K:=gM hk;rw[U] at g1 g2 J sk K ⊢;refine j0 (ba G) (aa (z:=k) (by rw[bF];exact aw hk) (aa K (j0 (tM r) (j0 (af f.1.1) (aa (z:=af (ay r f.1.1)) (Er (n+1033) h.pb.hq (FJ g1)) (aa (Pf (n+2) J ow) ?_))))))
    have j:OW (wg x q r l e f):=zx _ _;unfold mS;rw[show rO (lE (ay r f.1.1)) (dT (qo x q l e.2) (qo x q l e.1))=wg x q r l e f from rfl];refine aa (O8 (n+5) j) (aa (z:=decide (Cn (wg x q r l e f)=0)) (by rw[show D.beq (I (Cn (wg x q r l e f))) (D.int .i64 0)=decide (Cn (wg x q r l e f)=0) from bZ];exact ac) ?_)
    by_cases hs0:Cn (wg x q r l e f)=0
    ·rw[zna hs0,zBb];exact aY hs0 rfl
    rw[zka hs0];refine be hs0 ?_;have of:=Fn (some ((ap r*f.1.2:Int):Rat)) (rO (lE (ay r f.1.1)) (dT (qo x q l e.1) (lE y)));refine j0 (I (ap r)) (j0 (I f.1.2) (aa (ct sk) (aa (Of (n+4) sk) (j0 (af y) (aa (En (n+3) hy) (aa (O9 (n+3) u.1 (Ax hy)) (aa (Pf (n+2) J (rW _ _)) ?_)))))));refine aa (Oa (n+4) (a:=some ((ap r*f.1.2:Int):Rat)) (bQ (uq (bB sk))) (zx _ _)) (aa (H4 (n+4) of j) ?_);rw[show uN (Cu (some ((ap r*f.1.2:Int):Rat)) (rO (lE (ay r f.1.1)) (dT (qo x q l e.1) (lE y)))) (wg x q r l e f)=pM x y q r l e f from rfl];have H:OW (pM x y q r l e f):=EB _ _;have R:=Ir h (e:=e) ⟨h1,h2⟩ (f:=f);have B:th (qo x q l e.1) (DS (pM x y q r l e f) (dT (qo x q l e.2) (qo x q l e.1)))=Iq x y q r l e f:=rfl;generalize Iq x y q r l e f=p at *;generalize pM x y q r l e f=t at *;refine aa (O8 (n+5) H) (aa fH (aa ac ?_));have C:=H9 (n+5) H (bQ (uq (bB (dY 1))));refine aa (z:=decide (Cn t>0)&&decide (ja t (some ((1:Int):Rat))<0)) (by
     by_cases h1:Cn t>0
     ·rw[zha h1,zCb];exact gF (aa (Of (n+4) (dY 1)) (aa C (aa ah ac)))
     ·rw[zea h1];rfl) (aa ac ?_)
    cases hb:(decide (Cn t>0)&&decide (ja t (some ((1:Int):Rat))<0)) with
    | false=>rw[zka j2,zka j2,zBb];rfl
    | true=>
     rw[zna rfl,zna rfl];obtain⟨Z,v,w⟩:=Oz n h hF hG (R hb).1;refine aa (Rm (n+4) H ow) (aa (Oc (n+4) u.1 (Fs _ _)) ?_);rw[B];refine j0 (dJ x q) (j0 (db l) (aa v (aa ik (aa ac (aa w (aa ac ?_))))));cases hq:zr x y q r F G p with
     | true=> rw[ua hq];exact gF ((zna (by show(L.map bc).length+1<=_;rw[ed];omega)).trans (by rw[zKb];rfl))
     | false=>rw[EO hq,zBb];rfl
   ·subst c;refine⟨_,aa ah (aa ac (be (by rw[bF];omega) rfl)),?_⟩
    rw[zfb (zia _)];exact aa (a8 (a:=i) (b:=1) j1) rfl
  ·subst c;refine⟨_,aa ah (aa ac (be (by rw[kW];omega) rfl)),?_⟩
   rw[zfb (zia _)];rfl
end
def vq{α:Type}{body:Bd}{s s':List D}{k:Nat×List D->Option α}{Y:α->Prop}(h:body s=some (.inl s'))(hk:∃ y,(bf body s').bind k=some y/\Y y):∃ y,(bf body s).bind k=some y/\Y y:=by
 have:bf body s=bf body s':=dR h
 simp_all
def Ng{α:Type}{body:Bd}{s:List D}{r:Nat×List D}{k:Nat×List D->Option α}{Y:α->Prop}(h:body s=some (.inr r))(hk:∃ y,k r=some y/\Y y):∃ y,(bf body s).bind k=some y/\Y y:=by
 have:bf body s=some r:=ew h
 simp_all
def WG(k i:Nat)(s:WV):Prop:=w9 s/\∀ c v,s c=some v->∃ Z:Int,v=Rat.divInt Z (2^k)/\Z.natAbs<=i*(4611686018427387904*2^k)
def Ok{k:Nat}{a:Option Rat}(f:∀ v,a=some v->G4 v){w:Rat}(h:tL k a=some w):∃ Z:Int,w=Rat.divInt Z (2^k)/\Z.natAbs<=4611686018427387904*2^k:=by
 cases a with
 | none=>cases h
 | some v=>
  obtain⟨v1,v2⟩:=f v rfl;unfold tL at h;rw[zba] at h;cases hn:fB (v.num*2^k) with
  | none=>rw[hn] at h;cases h
  | some s=>
   rw[hn] at h;cases h;have es:s=v.num*2^k:=by all_goals simp_all [fB]
   refine⟨_,rfl,?_⟩;have b:(0:Int)<v.den:=by have:=v.den_pos;omega
   have c:(0:Int)<2^k:=z2c j2
   have e:v.num<=4611686018427387904*v.den:=by
    have:=(Rat.le_iff v BR).1 v2
    simp_all [BR]
   have d:-(4611686018427387904*(v.den:Int))<=v.num:=by have:=(Rat.le_iff (-BR) v).1 v1;simp[BR] at this;omega
   have h1:s<=(4611686018427387904*2^k)*v.den:=by rw[es];have:=z1b e (zpa c);grind
   have h2:(-(4611686018427387904*2^k))*v.den<=s:=by rw[es];have:=z1b d (zpa c);grind
   have g:s/v.den<=4611686018427387904*2^k:=by
    have:=Int.ediv_le_ediv b h1
    rwa [Int.mul_ediv_cancel _ j1] at this
   have i:-(4611686018427387904*2^k)<=s/v.den:=(Int.le_ediv_iff_mul_le b).2 h2;grind
structure MeanB(m:WV)(D:Int)(a b:Nat):Prop where
 ow:w9 m
 pos:0<D
 la:a<=260
 lb:b<=322
 le:D.natAbs<=2^a
 ex:∀ c v,m c=some v->∃ Z:Int,v=Rat.divInt Z D/\Z.natAbs<=2^b
def DP(k:Nat)(L:List WV):Nat->WV
 | 0=>lE V.zero
 | i+1=>th (DP k L i) λc=>tL k (L.getD i (lE V.zero) c)
def tf(k:Nat)(L:List WV):WV:=DS (some (Rat.divInt 1 ((L.length:Nat):Int))) (DP k L L.length)
def A6:Nat->Nat
 | 0=>20
 | 1=>60
 | 2=>120
 | _=>240
def Y6:D:=D.st [D.st [D.st [D.bool false,D.bool false,aq aP],D.st [D.bool false,D.bool false,aq aP]],D.st [D.st [D.bool false,D.bool false,aq aP],D.st [D.bool false,D.bool false,aq aP]],D.st [D.st [D.bool false,D.bool false,aq aP],D.st [D.bool false,D.bool false,aq aP]]]
def HO(x y:V)(q r:Nat->Int)(F G:FL)(p:WV):Prop:=eH x q F p=1/\eH y r G p=1
section
variable{x y:V}{q r:Nat->Int}{l m:List V}{F G:FL}{E E':List (Nat×Nat)}
def kD(x y:V)(q r:Nat->Int)(l m:List V)(F G:FL)(E E':List (Nat×Nat)):List WV:=kX x y q r l F G E++kX y x r q m G F E'
def Od(n:Nat)(h:PairOk x y q r l m)(hF:Fac l F E)(hG:Fac m G E'):∃ (d:D) (b:Bool),cA (n+1038) 425 [dJ x q,db l,dJ y r,db m]=some (.tup [d,.bool b])/\(b=true->∃ (p:WV) (K:Int) (a b:Nat),d=bc p/\MeanB p K a b/\eH x q F p=1/\eH y r G p=1)/\(b=false->d=Y6/\((kD x y q r l m F G E E').length<4\/∀ j,j<4->¬ HO x y q r F G (tf (A6 j) (kD x y q r l m F G E E')))):=by
 suffices hs:∃ d,cA (n+1038) 425 [dJ x q,db l,dJ y r,db m]=some d/\∃ (d':D) (b:Bool),d=.tup [d',.bool b]/\(b=true->∃ (p:WV) (K:Int) (a b:Nat),d'=bc p/\MeanB p K a b/\eH x q F p=1/\eH y r G p=1)/\(b=false->d'=Y6/\((kD x y q r l m F G E E').length<4\/∀ j,j<4->¬ HO x y q r F G (tf (A6 j) (kD x y q r l m F G E E')))) by grind
 rw[YO];delta LP qB qC qT qS qX qJ qV qW qZ iL iR Jn;have U:=Oe n h hF hG;have W:=Oe n h.swap hG hF;have S:=zK (F:=F) (G:=G) h hF;have T:=zK (F:=G) (G:=F) h.swap hG;have n1:=qg h hF hG;have n2:=qg h.swap hG hF;refine aD (FQ (n+1033) h.pa h.la h.ka) (aD (FQ (n+1033) h.pb h.lb h.kb) (aD U (aD (z:=(kX x y q r l F G E).map bc) rfl (aD W (aD (z:=(kX y x r q m G F E').map bc) rfl ?_)))));obtain⟨Zv,C⟩:∃ Zv,Y6=Zv:=⟨_,rfl⟩;rw[show D.st [D.st [D.st [D.bool false,D.bool false,aq aP],D.st [D.bool false,D.bool false,aq aP]],D.st [D.st [D.bool false,D.bool false,aq aP],D.st [D.bool false,D.bool false,aq aP]],D.st [D.st [D.bool false,D.bool false,aq aP],D.st [D.bool false,D.bool false,aq aP]]]=Zv from C,C,zna (by rw[ed,ed];omega),<-zKb]
 have bL:∀ p∈kD x y q r l m F G E E',Mh p:=λp hp=>(List.mem_append.1 hp).elim (S p) (T p);have nL:(kD x y q r l m F G E E').length<=600000:=by unfold kD;rw[zta];omega
 rw[show kX x y q r l F G E++kX y x r q m G F E'=kD x y q r l m F G E E' from rfl];generalize kD x y q r l m F G E E'=L at *;clear U W S T n1 n2;refine aD ah (aD ac ?_);by_cases h4:(((L.map bc).length:Nat):Int)<4
 ·exact lT h4 ⟨_,rfl,Zv,false,rfl,λh=>(by cases h),λ_=>⟨rfl,.inl (by rw[ed] at h4;omega)⟩⟩
 refine MS h4 ?_;have l4:4<=L.length:=h7
 refine qe (λj s=>s=[.sl (L.map bc),.sl [I 20,I 60,I 120,I 240],I (j:Int),Zv]/\∀ i,i<j->¬ HO x y q r F G (tf (A6 i) L)) 4 0 (zAa _) ⟨rfl,λi w=>z3a w (Nat.not_lt_zero _)⟩ (λj hj s o=>?_) (λs o=>?_)
 ·obtain⟨rfl,u⟩:=o;obtain⟨k,hk,ek,O⟩:∃ k,Il k/\([I 20,I 60,I 120,I 240]:List D)[j]?=some (I (k:Int))/\A6 j=k:=by
   have:j=0\/j=1\/j=2\/j=3:=j1
   rcases this with rfl|rfl|rfl|rfl
   ·exact⟨20,.inl rfl,rfl,rfl⟩
   ·exact⟨60,.inr (.inl rfl),rfl,rfl⟩
   ·exact⟨120,.inr (.inr (.inl rfl)),rfl,rfl⟩
   ·exact⟨240,.inr (.inr (.inr rfl)),rfl,rfl⟩
  refine aD ah (aD ac (lT (by show(j:Int)<4;omega) (aD (z:=j) (aw hj) (aD ek ?_))))
  have z0:∀ i,inR (aC V.zero i):=kQ (dY 0) (dY 0) (dY 0);refine aD (En (n+4) (v:=V.zero) z0) ?_;refine qe (λi s=>∃ t:WV,s=[.sl (L.map bc),.sl [I 20,I 60,I 120,I 240],.sl (L.map bc),I (i:Int),bc t]/\WG k i t/\t=DP k L i) L.length 0 (zAa _) ⟨lE V.zero,rfl,⟨Ax z0,λc v B=>by
   cases B;refine⟨0,?_,j3⟩
   have:aC V.zero c=0:=by unfold aC;split<;>(try split)<;>rfl
   rw[this,Rat.zero_divInt];rfl⟩,rfl⟩ (λi w s o=>?_) (λs o=>?_)
  ·obtain⟨t,rfl,⟨R,ht⟩,g⟩:=o;obtain⟨p,f⟩:∃ p,L[i]=p:=⟨_,rfl⟩;have N:Mh p:=f ▸ bL _ (zFa w);obtain⟨h0,e0⟩:=Pa (n+6) (N.1 0) hk;obtain⟨h1,e1⟩:=Pa (n+6) (N.1 1) hk;obtain⟨h2,e2⟩:=Pa (n+6) (N.1 2) hk;refine aD ah (aD ac (lT (by show((i:Nat):Int)<(((L.map bc).length:Nat):Int);rw[ed];omega) (aD (z:=L.map bc) rfl (aD (z:=i) (by rw[ed];exact aw w) (aD (z:=bc p) (by simp[w,f]) ?_)))))
   refine vq (s':=[.sl (L.map bc),.sl [I 20,I 60,I 120,I 240],I 1,.st [bh (tL k (p 0)),bh (p 1),bh (p 2)]]) (j0 (.bool true) (j0 true (gF (j0 0 (j0 (bh (p 0)) (aa e0 (j0 (bh (tL k (p 0))) (j0 h0 (j0 0 (j0 (.st [bh (tL k (p 0)),bh (p 1),bh (p 2)]) (j0 (I 1) rfl))))))))))) ?_;refine vq (s':=[.sl (L.map bc),.sl [I 20,I 60,I 120,I 240],I 2,.st [bh (tL k (p 0)),bh (tL k (p 1)),bh (p 2)]]) (j0 (.bool true) (j0 true (gF (j0 1 (j0 (bh (p 1)) (aa e1 (j0 (bh (tL k (p 1))) (j0 h1 (j0 1 (j0 (.st [bh (tL k (p 0)),bh (tL k (p 1)),bh (p 2)]) (j0 (I 2) rfl))))))))))) ?_;refine vq (s':=[.sl (L.map bc),.sl [I 20,I 60,I 120,I 240],I 3,bc λc=>tL k (p c)]) (j0 (.bool true) (j0 true (gF (j0 2 (j0 (bh (p 2)) (aa e2 (j0 (bh (tL k (p 2))) (j0 h2 (j0 2 (j0 (bc λc=>tL k (p c)) (j0 (I 3) rfl))))))))))) ?_;refine Ng (r:=(0,[.sl (L.map bc),.sl [I 20,I 60,I 120,I 240],bc λc=>tL k (p c)])) (aa ah (aa ac (be j2 rfl))) ?_
   have od:w9 λc=>tL k (p c):=λc=>Pq hk (N.1 c);have J:=Oc (n+5) R od;refine⟨.inl [.sl (L.map bc),.sl [I 20,I 60,I 120,I 240],.sl (L.map bc),I ((i+1:Nat):Int),bc (th t λc=>tL k (p c))],aa J (aa (a8 (a:=i) (b:=1) j1) rfl),th t λc=>tL k (p c),rfl,⟨Jw _ _,λc v B=>?_⟩,by rw[DP,<-g,show L.getD i (lE V.zero)=p by rw[z1a,zca w];exact f]⟩
   obtain⟨a,b,h3,Q,rfl⟩:=re B;obtain⟨Z1,rfl,z1⟩:=ht c a h3;obtain⟨Z2,rfl,z2⟩:=Ok (N.2 c) Q;have M:(2:Int)^k≠0:=(zW hk).2.2.1;refine⟨Z1+Z2,by rw[zwc _ _ M M,<-Int.add_mul,Rat.divInt_mul_right M],?_⟩
   grind
  ·obtain⟨t,rfl,⟨R,ht⟩,g⟩:=o;refine⟨.inr (0,[.sl (L.map bc),.sl [I 20,I 60,I 120,I 240],bc t]),aa ah (aa ac (be (by show ¬ (((L.length:Nat):Int)<(((L.map bc).length:Nat):Int));rw[ed];omega) rfl)),?_⟩
   have Y:inR (((L.map bc).length:Nat):Int):=by rw[ed];simp only[inR];omega
   have l0:(((L.map bc).length:Nat):Int)≠0:=by rw[ed];omega
   have o1:OW (some (Rat.divInt 1 (((L.map bc).length:Nat):Int))):=bQ (dL (bB (dY 1)) (bB Y) l0);obtain⟨p,f⟩:∃ p,DS (some (Rat.divInt 1 (((L.map bc).length:Nat):Int))) t=p:=⟨_,rfl⟩;have P:tf (A6 j) L=p:=by rw[<-f,O,g,ed];rfl
   have op:w9 p:=f ▸ Fs _ _;obtain⟨a0,ad⟩:∃ a,a=260:=⟨_,rfl⟩;obtain⟨b0,ai⟩:∃ b,b=322:=⟨_,rfl⟩;have A:MeanB p ((L.length:Int)*2^k) a0 b0:=by
    have X:k<=240:=h7
    have M:(0:Int)<2^k:=z2c j2
    refine⟨op,zBa j1 M,j1,j1,?_,λc v B=>?_⟩
    ·grind
    ·rw[<-f] at B;obtain⟨a,b,h3,Q,rfl⟩:=yd B;cases h3;obtain⟨Z,rfl,hz⟩:=ht c b Q;refine⟨Z,by rw[zMb,zZb,ed],zIa hz ?_⟩
     obtain⟨c0,aj⟩:∃ c,c=302:=⟨_,rfl⟩;grind
   refine aD (Rf (n+6) (dY 1) Y l0) (aD (Rm (n+5) o1 R) ?_);rw[f];refine aD (My (n+1) h.pa hF.fb hF.h18 op) (aD (z:=decide (eH x q F p=1)) (by rw[show D.beq (I (eH x q F p)) (D.int .i64 1)=decide (eH x q F p=1) from bZ];exact ac) ?_)
   refine aD (z:=decide (eH x q F p=1)&&decide (eH y r G p=1)) (by
    by_cases h1:eH x q F p=1
    ·rw[zha h1,zCb];refine gF (aa (My (n+1) h.pb hG.fb hG.h18 op) ?_);rw[show D.beq (I (eH y r G p)) (D.int .i64 1)=decide (eH y r G p=1) from bZ];exact ac
    ·rw[zea h1];rfl) (aD ac ?_)
   cases H:(decide (eH x q F p=1)&&decide (eH y r G p=1)) with
   | true=> simp only[zaa,zfa] at H;exact⟨.inr (0,[.bool true,bc p]),rfl,_,rfl,bc p,true,rfl,λ_=>⟨p,_,_,_,rfl,A,H.1,H.2⟩,λh=>by cases h⟩
   | false=>exact⟨.inl [.sl (L.map bc),.sl [I 20,I 60,I 120,I 240],I ((j+1:Nat):Int),Zv],rL (aa (a8 (a:=j) (b:=1) j1) rfl),rfl,λi w=>by
    by_cases e:i=j
    ·subst e;rw[P];intro hn;rw[zha hn.1,zha hn.2] at H;exact z3a H j2
    ·exact u i j1⟩
 ·obtain⟨rfl,u⟩:=o;exact⟨.inr (1,[Zv]),aa ah (aa ac (be j2 rfl)),_,rfl,Zv,false,rfl,λh=>(by cases h),λ_=>⟨rfl,.inr u⟩⟩
end
theorem zz{q:Nat->Int}{p:WV}{F:FL}:∀ k,k<=F.length->zy q p F k<=1/\∀ i,(h:i<F.length)->i<k->zy q p F k<=pY q p F[i]
 | 0,_=>⟨zjc _,λi h a=>j1⟩
 | k+1,hk=>by
  obtain⟨h1,h2⟩:=zz (q:=q) (p:=p) (F:=F) k j1
  rw[nS (show k<F.length by omega)]
  refine⟨j1,λi h a=>?_⟩
  by_cases e:i=k
  ·subst e;omega
  ·have:=h2 i h j1;omega
def BA{x:V}{q:Nat->Int}{F:FL}{p:WV}(h:eH x q F p=1):wL p=false/\∀ f∈F,1<=pY q (dT p (lE x)) f:=by
 unfold eH at h;cases hb:wL p with
 | true=>rw[hb,zna rfl] at h;exact z3a h j2
 | false=>
  rw[hb,zka j2] at h
  refine⟨rfl,λf hf=>?_⟩;obtain⟨i,a,rfl⟩:=zYa hf;have:=(zz (q:=q) (p:=dT p (lE x)) F.length (zia _)).2 i a a;omega
def PS{p:WV}{K:Int}{a b:Nat}(h:MeanB p K a b)(c:wL p=false):∃ M:V,(∀ i,i<3->p i=some (Rat.divInt (aC M i) K))/\∀ i,(aC M i).natAbs<=2^b:=by
 simp only[wL,Bool.not_eq_false',zaa,Option.isSome_iff_exists] at c;obtain⟨⟨v0,d⟩,⟨v1,e⟩,⟨v2,f⟩⟩:=c;obtain⟨Z0,rfl,z0⟩:=h.ex 0 v0 d;obtain⟨Z1,rfl,j⟩:=h.ex 1 v1 e;obtain⟨Z2,rfl,z2⟩:=h.ex 2 v2 f;refine⟨⟨Z0,Z1,Z2⟩,λi g=>?_,λi=>?_⟩
 ·have:i=0\/i=1\/i=2:=j1
  rcases this with rfl|rfl|rfl<;>assumption
 ·unfold aC;split<;>(try split)<;>assumption
def rT{x:Int}{k m:Nat}(h:x.natAbs<=2^k)(hk:k<=m):x.natAbs<=2^m:=zIa h (zGa j2 hk)
def nE(A B:V)(i:Nat):aC (V.sub A B) i=aC A i+-aC B i:=by unfold aC;split<;>(try split)<;>simp only[V.sub]<;>omega
def pL(A B:V)(i:Nat):aC (V.add A B) i=aC A i+aC B i:=by unfold aC;split<;>(try split)<;>rfl
def fI(k:Int)(A:V)(i:Nat):aC (V.smul k A) i=k*aC A i:=by unfold aC;split<;>(try split)<;>rfl
def EJ{N W:V}{w:WV}{K:Int}{a b:Nat}(h0:0<K)(hK:K.natAbs<=2^a)(hw:∀ i,i<3->w i=some (Rat.divInt (aC W i) K))(d:∀ i,(aC N i).natAbs<=2^63)(e:∀ i,(aC W i).natAbs<=2^b)(la:a<=300)(lb:b<=400):rO (lE N) w=some (Rat.divInt (V.dot N W) K):=by
 have c:∀ i,(aC N i*aC W i).natAbs<=2^(b+63):=λi=>bw (d i) (e i) j1
 have m1:∀ i,i<3->mulW (lE N i) (w i)=some (Rat.divInt (aC N i*aC W i) K):=λi g=>by
  rw[hw i g];show mulW (some ((aC N i:Int):Rat)) _=_;rw[(WH (d i)).mulW (dM (e i) hK j1) j1 j1]
  congr 1;rw[<-div_one (aC N i),zMb,zZb]
 have f:V.dot N W=aC N 0*aC W 0+aC N 1*aC W 1+aC N 2*aC W 2:=rfl;unfold rO;rw[m1 0 j2,m1 1 j2,m1 2 j2,kI (c 0) (c 1) hK h0 j1 j1,kI (p:=b+64) (cn (c 0) (c 1)) (rT (c 2) j1) hK h0 j1 j1,f]
def J3{y:V}{r:Nat->Int}(h:PoseOk y r){v:V}(a:bd 549755813888 v)(i:Nat):(aC (ay r v) i).natAbs<=2^63:=by have:=wu h.hq (FJ a) i;simp only[inR] at this;rw[show(2:Nat)^63=9223372036854775808 from rfl];omega
def pZ{x:V}{q:Nat->Int}(h:PoseOk x q){p:WV}{K:Int}{a b:Nat}(hm:MeanB p K a b){M:V}(m:∀ i,i<3->p i=some (Rat.divInt (aC M i) K))(k:∀ i,(aC M i).natAbs<=2^b){f:(V×Int)×List Nat}(hf:bd 549755813888 f.1.1/\f.1.2.natAbs<=281474976710656) :
  rO (lE (ay q f.1.1)) (dT p (lE x))=some (Rat.divInt (V.dot (ay q f.1.1) (V.sub M (V.smul K x))) K):=by
 have j:=hm.pos;have la:=hm.la;have lb:=hm.lb;obtain⟨c,hc⟩:∃ c,c=330:=⟨_,rfl⟩;have l:∀ i,(aC x i).natAbs<=2^47:=λi=>by have:=h.hx;simp only[bd] at this;rw[show(2:Nat)^47=140737488355328 from rfl];unfold aC;split<;>(try split)<;>omega
 have g:∀ i,(-(K*aC x i)).natAbs<=2^c:=λi=>by rw[zEb,zHa];exact bw (l i) hm.le j1
 have d:∀ i,(aC M i).natAbs<=2^c:=λi=>rT (k i) j1
 refine EJ j hm.le (λi n=>?_) (J3 h hf.1) (b:=c+1) (λi=>by rw[nE,fI];exact cn (d i) (g i)) j1 j1
 show addW (p i) (some (-(aC x i:Rat)))=_;have e:-((aC x i:Int):Rat)=Rat.divInt (-(K*aC x i)) K:=by rw[<-Rat.neg_divInt,<-div_one (aC x i)];congr 1;rw[zHb j2 j1];grind
 rw[m i n,e,kI (d i) (g i) hm.le j j1 j1,nE,fI]
def IR{x:V}{q:Nat->Int}(h:PoseOk x q){p:WV}{K:Int}{a b:Nat}(hm:MeanB p K a b){M:V}(d:∀ i,i<3->p i=some (Rat.divInt (aC M i) K))(c:∀ i,(aC M i).natAbs<=2^b){f:(V×Int)×List Nat}(hf:bd 549755813888 f.1.1/\f.1.2.natAbs<=281474976710656)(ht:1<=pY q (dT p (lE x)) f) :
  V.dot (ay q f.1.1) (V.sub M (V.smul K x))<ap q*f.1.2*K:=by
 unfold pY at ht;rw[pZ h hm d c hf,j5] at ht;have j:=hm.pos;obtain⟨N,e⟩:∃ N,ay q f.1.1=N:=⟨_,rfl⟩;obtain⟨W,g⟩:∃ W,W=V.sub M (V.smul K x):=⟨_,rfl⟩;rw[e,<-g] at ht ⊢;rcases zwb (V.dot N W) (ap q*f.1.2*K) with k|k
 ·exact k
 ·exfalso;have hle:((ap q*f.1.2:Int):Rat)<=Rat.divInt (V.dot N W) K:=by
   rw[<-div_one (ap q*f.1.2),fe j2 j];omega
  split at ht
  ·omega
  ·split at ht
   ·rename_i h2;exact z3a h2 (Rat.not_lt.2 hle)
   ·omega
def IQ{x:V}{q:Nat->Int}(h:PoseOk x q){p:WV}{K:Int}{a b:Nat}(hm:MeanB p K a b){M:V}(e:∀ i,i<3->p i=some (Rat.divInt (aC M i) K))(d:∀ i,(aC M i).natAbs<=2^b){f:(V×Int)×List Nat}(hf:bd 549755813888 f.1.1/\f.1.2.natAbs<=281474976710656)(j:V.dot (ay q f.1.1) (V.sub M (V.smul K x))<ap q*f.1.2*K):pY q (dT p (lE x)) f=1:=by
 have g:=hm.pos;unfold pY;rw[pZ h hm e d hf,j5];have c:Rat.divInt (V.dot (ay q f.1.1) (V.sub M (V.smul K x))) K<((ap q*f.1.2:Int):Rat):=by rw[<-Rat.not_le,<-div_one (ap q*f.1.2),fe j2 g];omega
 rw[zka (Rat.not_lt.2 (Rat.le_of_lt c)),zna c]
def IM{x:V}{q:Nat->Int}(h:PoseOk x q){l:List V}(hl:Hul l){F:FL}{E:List (Nat×Nat)}(hF:Fac l F E){p:WV}{K:Int}{a b:Nat}(hm:MeanB p K a b){M:V}(H:∀ i,i<3->p i=some (Rat.divInt (aC M i) K))(w:∀ i,(aC M i).natAbs<=2^b)(J:eH x q F p=1)(h0:0<l.length){u:V}(O:u≠V.zero) :
  ∃ i,i<l.length/\ap q*V.dot u M<K*V.dot u (fl x q l i):=by
 have N:=(cq h.hq h.h0).1;have L:ap q≠0:=j1
 have Q:=hm.pos;obtain⟨m0,d0,m⟩:=hl.ex;have v:=pF L O;obtain⟨i,t,f,_⟩:=rh (λk=>V.dot (bR q u) (pt l k)) l.length h0;obtain⟨W,s⟩:∃ W,W=V.sub M (V.smul K x):=⟨_,rfl⟩;have key:=HL (P:=pt l) (W:=V.sub (bR q W) (V.smul (K*ap q) (pt l i))) t (λI=>k9 m i I) (λn d hn o=>by
  obtain⟨g,e,c⟩:=zMa.1 ((hF.kn.facets.mem (n,d)).2 hn);have:=IR h hm H w (hF.fb.2 g e) ((BA J).2 g e);rw[<-s,show g.1.1=n by rw[c],show g.1.2=d by rw[c]] at this
  have y:V.dot (ay q n) W=V.dot n (bR q W):=by have:=jA q W n;rw[er W,er (bR q W)] at this;exact this
  have j:V.dot n (V.sub (bR q W) (V.smul (K*ap q) (pt l i)))=V.dot n (bR q W)-K*ap q*V.dot n (pt l i):=by simp only[V.dot,V.sub,V.smul];grind
  rw[j,<-y,(au.1 o).2];have r:K*ap q*d=ap q*d*K:=by rw[Int.mul_assoc,zHa]
  omega) v (λk hk=>by
  have:V.dot (bR q u) (pt l k)<=V.dot (bR q u) (pt l i):=f k hk;rw[bo];omega)
 refine⟨i,t,?_⟩;have j:V.dot (bR q u) (V.sub (bR q W) (V.smul (K*ap q) (pt l i)))=V.dot (bR q u) (bR q W)-K*ap q*V.dot (bR q u) (pt l i):=by simp only[V.dot,V.sub,V.smul];grind
 have r:V.dot (bR q u) (bR q W)=ap q*ap q*V.dot u W:=by rw[<-jA,lC];simp only[V.dot,V.smul];grind
 have z:=rF u x q l i;have D:V.dot u W=V.dot u M-K*V.dot u x:=by rw[s];simp only[V.dot,V.sub,V.smul];grind
 rw[j,r,D] at key;rw[z];generalize V.dot (bR q u) (pt l i)=A at *;generalize V.dot u M=B at *;generalize V.dot u x=C at *;have G:ap q*ap q*(B-K*C)-K*ap q*A=ap q*(ap q*B-K*(A+ap q*C)):=h7
 rw[G] at key;rcases zwb (ap q*B) (K*(A+ap q*C)) with k|k
 ·exact k
 ·have:=z8a (zpa N) (show 0<=ap q*B-K*(A+ap q*C) by omega);omega
section
variable{x y:V}{q r:Nat->Int}{l m:List V}{F G:FL}{E E':List (Nat×Nat)}
def Jm(h:PairOk x y q r l m)(hl:Hul l)(hm:Hul m)(hF:Fac l F E)(hG:Fac m G E'){u:V}(e:u≠V.zero)(hu:¬ jg u x y q r l m<0){p:WV}{K:Int}{a b:Nat}(hp:MeanB p K a b)(h1:eH x q F p=1)(h2:eH y r G p=1):False:=by
 have t:=(cq h.pa.hq h.pa.h0).1;have v:=(cq h.pb.hq h.pb.h0).1;have s:=hp.pos;obtain⟨M,d,c⟩:=PS hp (BA h1).1;obtain⟨i,n,f⟩:=IM h.pa hl hF hp d c h1 h.na e;obtain⟨j,o,g⟩:=IM h.pb hm hG hp d c h2 h.nb (E3 e);rw[jz,jz,zFb,zFb] at g;have k:=(qf h u).1 hu i j n o;have m1:=zmb f v;have m2:=zmb (show K*V.dot u (fl y r m j)<ap r*V.dot u M by omega) t
 have m3:=zja k (zpa s);generalize V.dot u M=B at *;generalize V.dot u (fl x q l i)=A at *;generalize V.dot u (fl y r m j)=C at *;have w:ap r*(ap q*B)=ap q*(ap r*B):=by rw[<-Int.mul_assoc,<-Int.mul_assoc,zHa (ap r)]
 have z:ap r*(K*A)=K*(ap r*A):=by rw[<-Int.mul_assoc,<-Int.mul_assoc,zHa (ap r)]
 have D:ap q*(K*C)=K*(ap q*C):=by rw[<-Int.mul_assoc,<-Int.mul_assoc,zHa (ap q)]
 omega
end
end Sy
end
noncomputable section
namespace Geo
open V
def part(P:Nat->V)(p:List Nat)(z:V):Int:=Sg (λt=>Zq (shift (V.neg z) t)) (Xt P p (p.length-2))
def tT(n u v w:V):T n u (add v w)=T n u v+T n u w:=by simp only[T,dot,cross,add];grind
def tS(n u v w:V):T n (add u v) w=T n u w+T n v w:=by simp only[T,dot,cross,add];grind
def tU(n u v:V):T n (neg u) v=- T n u v:=by simp only[T,dot,cross,neg];grind
def tV(n u v:V):T n u (neg v)=- T n u v:=by simp only[T,dot,cross,neg];grind
def yS(n u:V):T n u u=0:=by simp only[T,dot,cross];grind
def yT(n u:V):T n u zero=0:=by simp only[T,dot,cross,zero];grind
def nH(u v w:V):dot (add u v) w=dot u w+dot v w:=by simp only[dot,add];grind
def nI(u v w:V):dot w (add u v)=dot w u+dot w v:=by simp only[dot,add];grind
def nK(u w:V):dot (neg u) w=- dot u w:=by simp only[dot,neg];grind
def nM(u w:V):dot w (neg u)=- dot w u:=by simp only[dot,neg];grind
def qR(w:V):dot zero w=0:=by simp[dot,zero]
section
variable{P:Nat->V}{N:Nat}
def jq{n:V}{d:Int}{a b c e:Nat}{u v:V}(o:aL P N n d=[a,b,c,e]\/aL P N n d=[a,b,e,c]\/aL P N n d=[a,c,b,e]\/aL P N n d=[a,c,e,b]\/aL P N n d=[a,e,b,c]\/aL P N n d=[a,e,c,b])
  (g:b≠a/\c≠b/\e≠c/\a≠e/\c≠a) (k:P b=add (P a) u) (l:P c=add (P a) (add u v)) (m:P e=add (P a) v) (hT:0<T n u v) (j:dot u v=0):bA P N n d [a,b,c,e]:=by
 have f:∀ x,x∈aL P N n d↔x=a\/x=b\/x=c\/x=e:=λx=>by rcases o with h|h|h|h|h|h<;>rw[h]<;>simp only[zEa,zcc,or_false]<;>grind
 have C:(aL P N n d).head?=some a:=by rcases o with h|h|h|h|h|h<;>rw[h]<;>rfl
 have i:dot v u=0:=by rw[er];exact j
 have hu:=io u;have F:=io v;have q:wy P a b=u:=by apply V.ext'<;>simp only[wy,sub,k,add]<;>omega
 have r:wy P a c=add u v:=by apply V.ext'<;>simp only[wy,sub,l,add]<;>omega
 have s:wy P a e=v:=by apply V.ext'<;>simp only[wy,sub,m,add]<;>omega
 have t:wy P b a=neg u:=by apply V.ext'<;>simp only[wy,sub,k,add,neg]<;>omega
 have w:wy P b c=v:=by apply V.ext'<;>simp only[wy,sub,k,l,add]<;>omega
 have y:wy P b e=add (neg u) v:=by apply V.ext'<;>simp only[wy,sub,k,m,add,neg]<;>omega
 have z:wy P c a=add (neg u) (neg v):=by apply V.ext'<;>simp only[wy,sub,l,add,neg]<;>omega
 have A:wy P c b=neg v:=by apply V.ext'<;>simp only[wy,sub,l,k,add,neg]<;>omega
 have B:wy P c e=neg u:=by apply V.ext'<;>simp only[wy,sub,l,m,add,neg]<;>omega
 have f1:wy P e a=neg v:=by apply V.ext'<;>simp only[wy,sub,m,add,neg]<;>omega
 have f2:wy P e b=add u (neg v):=by apply V.ext'<;>simp only[wy,sub,m,k,add,neg]<;>omega
 have f3:wy P e c=u:=by apply V.ext'<;>simp only[wy,sub,m,l,add]<;>omega
 have p:T n v u=- T n u v:=Fw u v;have s1:Side n P (aL P N n d) a b:=⟨(f b).2 j3,g.1,λx hx=>by rcases(f x).1 hx with rfl|rfl|rfl|rfl<;>simp only[q,r,s,fQ,yT,yS,tT,tS,tU,tV,nH,nI,nK,nM,qR,iu,j,i,p]<;>omega⟩
 have s2:Side n P (aL P N n d) b c:=⟨(f c).2 j3,g.2.1,λx hx=>by rcases(f x).1 hx with rfl|rfl|rfl|rfl<;>simp only[t,w,y,fQ,yT,yS,tT,tS,tU,tV,nH,nI,nK,nM,qR,iu,j,i,p]<;>omega⟩
 have D:Side n P (aL P N n d) c e:=⟨(f e).2 j3,g.2.2.1,λx hx=>by rcases(f x).1 hx with rfl|rfl|rfl|rfl<;>simp only[z,A,B,fQ,yT,yS,tT,tS,tU,tV,nH,nI,nK,nM,qR,iu,j,i,p]<;>omega⟩
 have E:Side n P (aL P N n d) e a:=⟨(f a).2 j3,g.2.2.2.1,λx hx=>by rcases(f x).1 hx with rfl|rfl|rfl|rfl<;>simp only[f1,f2,f3,fQ,yT,yS,tT,tS,tU,tV,nH,nI,nK,nM,qR,iu,j,i,p]<;>omega⟩
 exact⟨a,C,.step s1 g.1 (.step s2 g.2.2.2.2 (.step D (Ne.symm g.2.2.2.1) (.done E)))⟩
end
def iN(at_ s:V)(k:Nat):V:=⟨at_.x+(k/4%2:Nat)*s.x,at_.y+(k/2%2:Nat)*s.y,at_.z+(k%2:Nat)*s.z⟩
def HP(at_ s:V):List ((V×Int)×List Nat):=
 [((⟨-1,0,0⟩,-at_.x),[0,1,3,2]),((⟨0,-1,0⟩,-at_.y),[0,4,5,1]),((⟨0,0,-1⟩,-at_.z),[0,2,6,4]),
 ((⟨0,0,1⟩,at_.z+s.z),[1,5,7,3]),((⟨0,1,0⟩,at_.y+s.y),[2,3,7,6]),((⟨1,0,0⟩,at_.x+s.x),[4,6,7,5])]
section
variable{P:Nat->V}{at_ s:V}(hP:∀ k,k<8->P k=iN at_ s k)(h1:0<s.x)(h2:0<s.y)(h3:0<s.z)
include hP
def Ej:P 0=at_/\P 1=⟨at_.x,at_.y,at_.z+s.z⟩/\P 2=⟨at_.x,at_.y+s.y,at_.z⟩/\P 3=⟨at_.x,at_.y+s.y,at_.z+s.z⟩ ∧
  P 4=⟨at_.x+s.x,at_.y,at_.z⟩/\P 5=⟨at_.x+s.x,at_.y,at_.z+s.z⟩/\P 6=⟨at_.x+s.x,at_.y+s.y,at_.z⟩/\P 7=⟨at_.x+s.x,at_.y+s.y,at_.z+s.z⟩:=by
 refine⟨?_,?_,?_,?_,?_,?_,?_,?_⟩<;>rw[hP _ j2]<;>apply V.ext'<;>simp[iN]
include h1 h2 h3
def Ei:∀ i j,i<j->j<8->aN (P i) (P j):=λi j b n=>by
 obtain⟨d,e,f,g,h,k,l,m⟩:=Ej hP;have c:(i=0\/i=1\/i=2\/i=3\/i=4\/i=5\/i=6)/\(j=1\/j=2\/j=3\/j=4\/j=5\/j=6\/j=7):=j1
 obtain⟨ci,a⟩:=c;rcases ci with rfl|rfl|rfl|rfl|rfl|rfl|rfl<;>rcases a with rfl|rfl|rfl|rfl|rfl|rfl|rfl<;>first|omega|(simp only[d,e,f,g,h,k,l,m,aN,true_and];omega)
def nC{e:V}(he:aW e=1){p q r:Nat}(hp:p<8)(hq:q<8)(d:r<8)(n1:p≠q)(n2:p≠r)(f:q≠r){c:Int}(hc:0<c)(ht:cO P p q r=smul c e)(hle:∀ x,x<8->dot e (wy P p x)<=0)(a:∃ x,x<8/\dot e (wy P p x)<0):IsF P 8 e (dot e (P p)):=by
 have _:=h1;have _:=h2;have _:=h3;have _:=hP;obtain⟨i,g,b,hm,hF⟩:=zA hp hq d n1 n2 f rfl (λx hx=>by
  rw[ht,gq];exact Int.mul_nonpos_of_nonneg_of_nonpos (zpa hc) (hle x hx)) (by
  obtain⟨x,hx,h⟩:=a;exact⟨x,hx,by rw[ht,gq];exact zXa hc h⟩)
 rw[ht] at hm;have:=lh he hF.nz.2 hc b hm;rw[this];exact hF
def oP:∀ q∈HP at_ s,IsF P 8 q.1.1 q.1.2/\bA P 8 q.1.1 q.1.2 q.2:=by
 obtain⟨a,c,d,g,f,h,i,j⟩:=Ej hP;have n:=zBa h2 h3;have m:=zBa h1 h3;have l:=zBa h1 h2;have all:∀ {Q:Nat->Prop},Q 0->Q 1->Q 2->Q 3->Q 4->Q 5->Q 6->Q 7->∀ x,x<8->Q x:=λ{Q} a0 a1 a2 a3 a4 a5 o t x hx=>by
  have:x=0\/x=1\/x=2\/x=3\/x=4\/x=5\/x=6\/x=7:=j1
  rcases this with rfl|rfl|rfl|rfl|rfl|rfl|rfl|rfl<;>assumption
 have k:List.range 8=[0,1,2,3,4,5,6,7]:=rfl;intro q hq;simp only[HP,zEa,zcc,or_false] at hq;rcases hq with rfl|rfl|rfl|rfl|rfl|rfl
 ·have hF:=nC hP h1 h2 h3 (e:=⟨-1,0,0⟩) j2 (p:=0) (q:=1) (r:=2) j2 j2 j2 j2 j2 j2 n
   (by simp only[cO,wy,a,c,d,sub,cross,smul];apply V.ext'<;>grind) (by apply all<;>simp only[wy,a,c,d,g,f,h,i,j,sub,dot]<;>omega) ⟨4,j2,by simp only[wy,a,f,sub,dot];omega⟩
  rw[show dot ⟨-1,0,0⟩ (P 0)=-at_.x by rw[a];simp only[dot];omega] at hF
  have g0:decide (dot ⟨-1,0,0⟩ (P 0)=-at_.x)=true:=zha (by rw[a];simp only[dot];omega)
  have g1:decide (dot ⟨-1,0,0⟩ (P 1)=-at_.x)=true:=zha (by rw[c];simp only[dot];omega)
  have g2:decide (dot ⟨-1,0,0⟩ (P 2)=-at_.x)=true:=zha (by rw[d];simp only[dot];omega)
  have g3:decide (dot ⟨-1,0,0⟩ (P 3)=-at_.x)=true:=zha (by rw[g];simp only[dot];omega)
  have g4:decide (dot ⟨-1,0,0⟩ (P 4)=-at_.x)=false:=zea (by rw[f];simp only[dot];omega)
  have g5:decide (dot ⟨-1,0,0⟩ (P 5)=-at_.x)=false:=zea (by rw[h];simp only[dot];omega)
  have g6:decide (dot ⟨-1,0,0⟩ (P 6)=-at_.x)=false:=zea (by rw[i];simp only[dot];omega)
  have g7:decide (dot ⟨-1,0,0⟩ (P 7)=-at_.x)=false:=zea (by rw[j];simp only[dot];omega)
  have b:aL P 8 ⟨-1,0,0⟩ (-at_.x)=[0,1,2,3]:=by unfold aL;rw[k];simp only[List.filter_cons,g0,g1,g2,g3,g4,g5,g6,g7,if_true,List.filter_nil];rfl
  exact⟨hF,jq (u:=⟨0,0,s.z⟩) (v:=⟨0,s.y,0⟩) (Or.inr (Or.inl b)) j2 (by rw[a,c];apply V.ext'<;>simp only[add]<;>omega) (by rw[a,g];apply V.ext'<;>simp only[add]<;>omega) (by rw[a,d];apply V.ext'<;>simp only[add]<;>omega) (by simp only[T,dot,cross];grind) (by simp only[dot];grind)⟩
 ·have hF:=nC hP h1 h2 h3 (e:=⟨0,-1,0⟩) j2 (p:=0) (q:=4) (r:=1) j2 j2 j2 j2 j2 j2 m
   (by simp only[cO,wy,a,f,c,sub,cross,smul];apply V.ext'<;>grind) (by apply all<;>simp only[wy,a,c,d,g,f,h,i,j,sub,dot]<;>omega) ⟨2,j2,by simp only[wy,a,d,sub,dot];omega⟩
  rw[show dot ⟨0,-1,0⟩ (P 0)=-at_.y by rw[a];simp only[dot];omega] at hF
  have g0:decide (dot ⟨0,-1,0⟩ (P 0)=-at_.y)=true:=zha (by rw[a];simp only[dot];omega)
  have g1:decide (dot ⟨0,-1,0⟩ (P 1)=-at_.y)=true:=zha (by rw[c];simp only[dot];omega)
  have g2:decide (dot ⟨0,-1,0⟩ (P 2)=-at_.y)=false:=zea (by rw[d];simp only[dot];omega)
  have g3:decide (dot ⟨0,-1,0⟩ (P 3)=-at_.y)=false:=zea (by rw[g];simp only[dot];omega)
  have g4:decide (dot ⟨0,-1,0⟩ (P 4)=-at_.y)=true:=zha (by rw[f];simp only[dot];omega)
  have g5:decide (dot ⟨0,-1,0⟩ (P 5)=-at_.y)=true:=zha (by rw[h];simp only[dot];omega)
  have g6:decide (dot ⟨0,-1,0⟩ (P 6)=-at_.y)=false:=zea (by rw[i];simp only[dot];omega)
  have g7:decide (dot ⟨0,-1,0⟩ (P 7)=-at_.y)=false:=zea (by rw[j];simp only[dot];omega)
  have b:aL P 8 ⟨0,-1,0⟩ (-at_.y)=[0,1,4,5]:=by unfold aL;rw[k];simp only[List.filter_cons,g0,g1,g2,g3,g4,g5,g6,g7,if_true,List.filter_nil];rfl
  exact⟨hF,jq (u:=⟨s.x,0,0⟩) (v:=⟨0,0,s.z⟩) (Or.inr (Or.inr (Or.inr (Or.inr (Or.inl b))))) j2 (by rw[a,f];apply V.ext'<;>simp only[add]<;>omega) (by rw[a,h];apply V.ext'<;>simp only[add]<;>omega) (by rw[a,c];apply V.ext'<;>simp only[add]<;>omega) (by simp only[T,dot,cross];grind) (by simp only[dot];grind)⟩
 ·have hF:=nC hP h1 h2 h3 (e:=⟨0,0,-1⟩) j2 (p:=0) (q:=2) (r:=4) j2 j2 j2 j2 j2 j2 l
   (by simp only[cO,wy,a,d,f,sub,cross,smul];apply V.ext'<;>grind) (by apply all<;>simp only[wy,a,c,d,g,f,h,i,j,sub,dot]<;>omega) ⟨1,j2,by simp only[wy,a,c,sub,dot];omega⟩
  rw[show dot ⟨0,0,-1⟩ (P 0)=-at_.z by rw[a];simp only[dot];omega] at hF
  have g0:decide (dot ⟨0,0,-1⟩ (P 0)=-at_.z)=true:=zha (by rw[a];simp only[dot];omega)
  have g1:decide (dot ⟨0,0,-1⟩ (P 1)=-at_.z)=false:=zea (by rw[c];simp only[dot];omega)
  have g2:decide (dot ⟨0,0,-1⟩ (P 2)=-at_.z)=true:=zha (by rw[d];simp only[dot];omega)
  have g3:decide (dot ⟨0,0,-1⟩ (P 3)=-at_.z)=false:=zea (by rw[g];simp only[dot];omega)
  have g4:decide (dot ⟨0,0,-1⟩ (P 4)=-at_.z)=true:=zha (by rw[f];simp only[dot];omega)
  have g5:decide (dot ⟨0,0,-1⟩ (P 5)=-at_.z)=false:=zea (by rw[h];simp only[dot];omega)
  have g6:decide (dot ⟨0,0,-1⟩ (P 6)=-at_.z)=true:=zha (by rw[i];simp only[dot];omega)
  have g7:decide (dot ⟨0,0,-1⟩ (P 7)=-at_.z)=false:=zea (by rw[j];simp only[dot];omega)
  have b:aL P 8 ⟨0,0,-1⟩ (-at_.z)=[0,2,4,6]:=by unfold aL;rw[k];simp only[List.filter_cons,g0,g1,g2,g3,g4,g5,g6,g7,if_true,List.filter_nil];rfl
  exact⟨hF,jq (u:=⟨0,s.y,0⟩) (v:=⟨s.x,0,0⟩) (Or.inr (Or.inl b)) j2 (by rw[a,d];apply V.ext'<;>simp only[add]<;>omega) (by rw[a,i];apply V.ext'<;>simp only[add]<;>omega) (by rw[a,f];apply V.ext'<;>simp only[add]<;>omega) (by simp only[T,dot,cross];grind) (by simp only[dot];grind)⟩
 ·have hF:=nC hP h1 h2 h3 (e:=⟨0,0,1⟩) j2 (p:=1) (q:=5) (r:=3) j2 j2 j2 j2 j2 j2 l
   (by simp only[cO,wy,c,h,g,sub,cross,smul];apply V.ext'<;>grind) (by apply all<;>simp only[wy,a,c,d,g,f,h,i,j,sub,dot]<;>omega) ⟨0,j2,by simp only[wy,c,a,sub,dot];omega⟩
  rw[show dot ⟨0,0,1⟩ (P 1)=at_.z+s.z by rw[c];simp only[dot];omega] at hF
  have g0:decide (dot ⟨0,0,1⟩ (P 0)=at_.z+s.z)=false:=zea (by rw[a];simp only[dot];omega)
  have g1:decide (dot ⟨0,0,1⟩ (P 1)=at_.z+s.z)=true:=zha (by rw[c];simp only[dot];omega)
  have g2:decide (dot ⟨0,0,1⟩ (P 2)=at_.z+s.z)=false:=zea (by rw[d];simp only[dot];omega)
  have g3:decide (dot ⟨0,0,1⟩ (P 3)=at_.z+s.z)=true:=zha (by rw[g];simp only[dot];omega)
  have g4:decide (dot ⟨0,0,1⟩ (P 4)=at_.z+s.z)=false:=zea (by rw[f];simp only[dot];omega)
  have g5:decide (dot ⟨0,0,1⟩ (P 5)=at_.z+s.z)=true:=zha (by rw[h];simp only[dot];omega)
  have g6:decide (dot ⟨0,0,1⟩ (P 6)=at_.z+s.z)=false:=zea (by rw[i];simp only[dot];omega)
  have g7:decide (dot ⟨0,0,1⟩ (P 7)=at_.z+s.z)=true:=zha (by rw[j];simp only[dot];omega)
  have b:aL P 8 ⟨0,0,1⟩ (at_.z+s.z)=[1,3,5,7]:=by unfold aL;rw[k];simp only[List.filter_cons,g0,g1,g2,g3,g4,g5,g6,g7,if_true,List.filter_nil];rfl
  exact⟨hF,jq (u:=⟨s.x,0,0⟩) (v:=⟨0,s.y,0⟩) (Or.inr (Or.inr (Or.inr (Or.inr (Or.inl b))))) j2 (by rw[c,h];apply V.ext'<;>simp only[add]<;>omega) (by rw[c,j];apply V.ext'<;>simp only[add]<;>omega) (by rw[c,g];apply V.ext'<;>simp only[add]<;>omega) (by simp only[T,dot,cross];grind) (by simp only[dot];grind)⟩
 ·have hF:=nC hP h1 h2 h3 (e:=⟨0,1,0⟩) j2 (p:=2) (q:=3) (r:=6) j2 j2 j2 j2 j2 j2 m
   (by simp only[cO,wy,d,g,i,sub,cross,smul];apply V.ext'<;>grind) (by apply all<;>simp only[wy,a,c,d,g,f,h,i,j,sub,dot]<;>omega) ⟨0,j2,by simp only[wy,d,a,sub,dot];omega⟩
  rw[show dot ⟨0,1,0⟩ (P 2)=at_.y+s.y by rw[d];simp only[dot];omega] at hF
  have g0:decide (dot ⟨0,1,0⟩ (P 0)=at_.y+s.y)=false:=zea (by rw[a];simp only[dot];omega)
  have g1:decide (dot ⟨0,1,0⟩ (P 1)=at_.y+s.y)=false:=zea (by rw[c];simp only[dot];omega)
  have g2:decide (dot ⟨0,1,0⟩ (P 2)=at_.y+s.y)=true:=zha (by rw[d];simp only[dot];omega)
  have g3:decide (dot ⟨0,1,0⟩ (P 3)=at_.y+s.y)=true:=zha (by rw[g];simp only[dot];omega)
  have g4:decide (dot ⟨0,1,0⟩ (P 4)=at_.y+s.y)=false:=zea (by rw[f];simp only[dot];omega)
  have g5:decide (dot ⟨0,1,0⟩ (P 5)=at_.y+s.y)=false:=zea (by rw[h];simp only[dot];omega)
  have g6:decide (dot ⟨0,1,0⟩ (P 6)=at_.y+s.y)=true:=zha (by rw[i];simp only[dot];omega)
  have g7:decide (dot ⟨0,1,0⟩ (P 7)=at_.y+s.y)=true:=zha (by rw[j];simp only[dot];omega)
  have b:aL P 8 ⟨0,1,0⟩ (at_.y+s.y)=[2,3,6,7]:=by unfold aL;rw[k];simp only[List.filter_cons,g0,g1,g2,g3,g4,g5,g6,g7,if_true,List.filter_nil];rfl
  exact⟨hF,jq (u:=⟨0,0,s.z⟩) (v:=⟨s.x,0,0⟩) (Or.inr (Or.inl b)) j2 (by rw[d,g];apply V.ext'<;>simp only[add]<;>omega) (by rw[d,j];apply V.ext'<;>simp only[add]<;>omega) (by rw[d,i];apply V.ext'<;>simp only[add]<;>omega) (by simp only[T,dot,cross];grind) (by simp only[dot];grind)⟩
 ·have hF:=nC hP h1 h2 h3 (e:=⟨1,0,0⟩) j2 (p:=4) (q:=6) (r:=5) j2 j2 j2 j2 j2 j2 n
   (by simp only[cO,wy,f,i,h,sub,cross,smul];apply V.ext'<;>grind) (by apply all<;>simp only[wy,a,c,d,g,f,h,i,j,sub,dot]<;>omega) ⟨0,j2,by simp only[wy,f,a,sub,dot];omega⟩
  rw[show dot ⟨1,0,0⟩ (P 4)=at_.x+s.x by rw[f];simp only[dot];omega] at hF
  have g0:decide (dot ⟨1,0,0⟩ (P 0)=at_.x+s.x)=false:=zea (by rw[a];simp only[dot];omega)
  have g1:decide (dot ⟨1,0,0⟩ (P 1)=at_.x+s.x)=false:=zea (by rw[c];simp only[dot];omega)
  have g2:decide (dot ⟨1,0,0⟩ (P 2)=at_.x+s.x)=false:=zea (by rw[d];simp only[dot];omega)
  have g3:decide (dot ⟨1,0,0⟩ (P 3)=at_.x+s.x)=false:=zea (by rw[g];simp only[dot];omega)
  have g4:decide (dot ⟨1,0,0⟩ (P 4)=at_.x+s.x)=true:=zha (by rw[f];simp only[dot];omega)
  have g5:decide (dot ⟨1,0,0⟩ (P 5)=at_.x+s.x)=true:=zha (by rw[h];simp only[dot];omega)
  have g6:decide (dot ⟨1,0,0⟩ (P 6)=at_.x+s.x)=true:=zha (by rw[i];simp only[dot];omega)
  have g7:decide (dot ⟨1,0,0⟩ (P 7)=at_.x+s.x)=true:=zha (by rw[j];simp only[dot];omega)
  have b:aL P 8 ⟨1,0,0⟩ (at_.x+s.x)=[4,5,6,7]:=by unfold aL;rw[k];simp only[List.filter_cons,g0,g1,g2,g3,g4,g5,g6,g7,if_true,List.filter_nil];rfl
  exact⟨hF,jq (u:=⟨0,s.y,0⟩) (v:=⟨0,0,s.z⟩) (Or.inr (Or.inr (Or.inr (Or.inr (Or.inl b))))) j2 (by rw[f,i];apply V.ext'<;>simp only[add]<;>omega) (by rw[f,j];apply V.ext'<;>simp only[add]<;>omega) (by rw[f,h];apply V.ext'<;>simp only[add]<;>omega) (by simp only[T,dot,cross];grind) (by simp only[dot];grind)⟩
end
end Geo
end
noncomputable section
namespace Sy
open Go Go.Proofs Geo
def lM(a s:V):List V:=(List.range 8).map (iN a s)
def pJ(a s:V):(lM a s).length=8:=by simp[lM]
def HT(a s:V){k:Nat}(hk:k<8):pt (lM a s) k=iN a s k:=by unfold pt lM;simp[hk]
section
variable{a s:V}
def Rk(n:Nat)(h1:1<=s.x/\s.x<=256)(h2:1<=s.y/\s.y<=256)(h3:1<=s.z/\s.z<=256):cA (n+1) 429 [af V.zero,af s]=some (db (lM V.zero s)):=by
 rw[YP];delta LQ qG qB qC qV qW qZ iL iR Jn;refine cg (λk st=>st=[.sl (((List.range k).map (iN V.zero s)).map af),I (k:Int),.sl []]) 8 0 (zAa _) rfl (λk hk st c=>?_) (λst c=>?_)
 ·subst c;left;refine⟨_,?_,rfl⟩;have f:abG .quo (I (k:Int)) (D.int .i64 2)=some (I ((k/2:Nat):Int)):=ko (b:=2) j2 j1
  have g:abG .quo (I (k:Int)) (D.int .i64 4)=some (I ((k/4:Nat):Int)):=ko (b:=4) j2 j1
  have m1:∀ (i:Nat) (x:Int),i<=1->(1<=x/\x<=256)->inR ((i:Int)*x)/\0<=(i:Int)*x/\(i:Int)*x<=256:=λi x j hx=>by
   have:i=0\/i=1:=j1
   rcases this with rfl|rfl
   ·simp only[inR];omega
   ·simp only[inR];omega
  obtain⟨h,l,m⟩:=m1 (k%2) s.z j1 h3
  obtain⟨v1,v2,v3⟩:=m1 (k/2%2) s.y j1 h2
  obtain⟨w1,o,p⟩:=m1 (k/4) s.x j1 h1
  refine aa ah (aa ac (aY (by show(k:Int)<8;omega) ?_))
  refine j0 (I 0) (aa g (j0 (I s.x) (aa (ct w1) (aa (az (a:=0) (by simp only[inR];omega)) ?_))))
  refine j0 (I 0) (aa f (aa (CQ (k/2)) (j0 (I s.y) (aa (ct v1) (aa (az (a:=0) (by simp only[inR];omega)) ?_)))))
  refine j0 (I 0) (aa (CQ k) (j0 (I s.z) (aa (ct h) (aa (az (a:=0) (by simp only[inR];omega)) ?_))))
  have d:k/4%2=k/4:=j1
  have e:af (iN V.zero s k)=.st [I (0+((k/4:Nat):Int)*s.x),I (0+((k/2%2:Nat):Int)*s.y),I (0+((k%2:Nat):Int)*s.z)]:=by unfold iN;rw[d];rfl
  have hlen:List.length (D.els (.sl (((List.range k).map (iN V.zero s)).map af)))+List.length [af (iN V.zero s k)]<=1073741824:=by show(((List.range k).map (iN V.zero s)).map af).length+1<=_;rw[zya,zya,zsb];omega
  refine(zna hlen).trans (aa (a8 (a:=k) (b:=1) j1) ?_)
  rw[zgc,zKb,zKb,List.map_singleton,List.map_singleton,e];rfl
 subst c;exact⟨_,aa ah (aa ac (be j2 rfl)),rfl⟩
def dj:Nat->Int:=λi=>if i=0 then 1 else 0
def Rl(n:Nat)(v:V):cA (n+1) 430 [I v.x,I v.y,I v.z]=some (dJ v dj):=by rw[YQ];rfl
def vM:ap dj=1:=by rfl
def E9{v:V}(h:bd 140737488355327 v):PoseOk v dj:=⟨h,λi=>(by unfold dj;split<;>omega),0,j2,j2⟩
def El(x a s:V){i:Nat}(b:i<8):fl x dj (lM a s) i=V.add x (iN a s i):=by unfold fl;rw[HT _ _ b];have m0:dq dj 0=1:=rfl;have m1:dq dj 1=0:=rfl;have m2:dq dj 2=0:=rfl;have m3:dq dj 3=0:=rfl;have m4:dq dj 4=1:=rfl;have m5:dq dj 5=0:=rfl;have m6:dq dj 6=0:=rfl;have m7:dq dj 7=0:=rfl;have m8:dq dj 8=1:=rfl;apply V.ext'<;>simp only[li,cC,V.add,m0,m1,m2,m3,m4,m5,m6,m7,m8,vM]<;>omega
end
end Sy
end
noncomputable section
namespace Geo
open V
section
variable{P:Nat->V}{at_ s:V}(hP:∀ k,k<8->P k=iN at_ s k)(h1:0<s.x)(h2:0<s.y)(h3:0<s.z)
 {L:List (V×Int)} (hL:Facets P 8 L) {poly:V×Int->List Nat} (hp:∀ q∈L,bA P 8 q.1 q.2 (poly q))
include hP h1 h2 h3 hL
omit hL in
def Mr:∀ k,k<8->Hd P 8 k:=λk hk=>by
 have f1:=oP hP h1 h2 h3 ((⟨-1,0,0⟩,-at_.x),[0,1,3,2]) (by simp[HP])
 have f2:=oP hP h1 h2 h3 ((⟨1,0,0⟩,at_.x+s.x),[4,6,7,5]) (by simp[HP])
 have hl:=Ei hP h1 h2 h3;obtain⟨p,f,_,e⟩:=f1.1.poly hl;obtain⟨g,b,_,a⟩:=f2.1.poly hl;rw[<-bA.eq hl f1.1 f1.2 f] at e;rw[<-bA.eq hl f2.1 f2.2 b] at a;rcases zxa k 4 with c|c
 ·have m:k∈[0,1,3,2]:=by simp;omega
  obtain⟨r1,d⟩:=(e k).1 m;exact⟨_,_,f1.1,r1,d⟩
 ·have m:k∈[4,6,7,5]:=by simp;omega
  obtain⟨r1,d⟩:=(a k).1 m;exact⟨_,_,f2.1,r1,d⟩
include hp
end
end Geo
end
noncomputable section
namespace Sy
open Go Go.Proofs Geo
def Hb(s:V):Prop:=(1<=s.x/\s.x<=256)/\(1<=s.y/\s.y<=256)/\(1<=s.z/\s.z<=256)
def iZ{i:Nat}{x:Int}(a:i<=1)(h:1<=x/\x<=256):0<=(i:Int)*x/\(i:Int)*x<=256:=by
 have:i=0\/i=1:=j1
 rcases this with rfl|rfl<;>omega
def HV{s:V}(h:Hb s){k:Int}(hk:256<=k):∀ v∈lM V.zero s,bd k v:=λv a=>by
 obtain⟨i,b,rfl⟩:=zMa.1 a;obtain⟨h1,h2,h3⟩:=h;simp only[bd,iN,V.zero];have:=iZ (i:=i/4%2) j1 h1
 have:=iZ (i:=i/2%2) j1 h2
 have:=iZ (i:=i%2) j1 h3
 omega
def HW{s:V}(h:Hb s):Hul (lM V.zero s):=by
 have hP:∀ k,k<8->pt (lM V.zero s) k=iN V.zero s k:=λk hk=>HT _ s hk;have hl:=pJ V.zero s;obtain⟨⟨h1,_⟩,⟨h2,_⟩,⟨h3,_⟩⟩:=id h;refine⟨j1,HV h j2,?_,?_,?_⟩
 ·unfold Ko;rw[hl];exact Ei hP j1 j1 j1
 ·rw[hl];exact Mr hP j1 j1 j1
 ·rw[hl];exact⟨_,_,(oP hP j1 j1 j1 ((⟨-1,0,0⟩,-V.zero.x),[0,1,3,2]) (by simp[HP])).1⟩
def Mu{x y s t:V}(hx:bd 140737488355327 x)(hy:bd 140737488355327 y)(hs:Hb s)(ht:Hb t):PairOk x y dj dj (lM V.zero s) (lM V.zero t):=by have a:=pJ V.zero s;have b:=pJ V.zero t;exact⟨E9 hx,E9 hy,HV hs j2,HV ht j2,j1,j1,j1,j1,j1,j1⟩
section
variable{x y s t:V}(hx:bd 140737488355327 x)(hy:bd 140737488355327 y)(hs:Hb s)(ht:Hb t)
def HX(hp:PairOk x y dj dj (lM V.zero s) (lM V.zero t))(u:V):¬ jg u x y dj dj (lM V.zero s) (lM V.zero t)<0↔∀ i j,i<8->j<8->V.dot u (V.add x (iN V.zero s i))<=V.dot u (V.add y (iN V.zero t j)):=by
 rw[qf hp,pJ,pJ];constructor
 ·intro h i j a b;have:=h i j a b
  rwa [El _ _ _ a,El _ _ _ b,vM,zZb,zZb] at this
 ·intro h i j a b;rw[El _ _ _ a,El _ _ _ b,vM,zZb,zZb];exact h i j a b
def Qt(x y s t:V):Prop:=(x.x+s.x<=y.x\/y.x+t.x<=x.x)\/(x.y+s.y<=y.y\/y.y+t.y<=x.y)\/(x.z+s.z<=y.z\/y.z+t.z<=x.z)
def HU(hs:Hb s)(ht:Hb t)(hp:PairOk x y dj dj (lM V.zero s) (lM V.zero t))(h:Qt x y s t):∃ u,u≠V.zero/\¬ jg u x y dj dj (lM V.zero s) (lM V.zero t)<0:=by
 have key:∀ u:V,u≠V.zero->(∀ i j,i<8->j<8->V.dot u (V.add x (iN V.zero s i))<=V.dot u (V.add y (iN V.zero t j)))->∃ u,u≠V.zero/\¬ jg u x y dj dj (lM V.zero s) (lM V.zero t)<0:=λu h0 hu=>⟨u,h0,(HX hp u).2 hu⟩;obtain⟨a1,a2,a3⟩:=hs;obtain⟨a,b,c⟩:=ht;have m1:=λi:Nat=>iZ (i:=i/4%2) j1 a1
 have m2:=λi:Nat=>iZ (i:=i/2%2) j1 a2
 have m3:=λi:Nat=>iZ (i:=i%2) j1 a3
 have n1:=λi:Nat=>iZ (i:=i/4%2) j1 a
 have n2:=λi:Nat=>iZ (i:=i/2%2) j1 b
 have d:=λi:Nat=>iZ (i:=i%2) j1 c
 have f:=λ(i:Nat)=>show((i/4%2:Nat):Int)*s.x<=s.x by
                                      have:i/4%2=0\/i/4%2=1:=j1
                                      rcases this with e|e<;>rw[e]<;>omega
 have g:=λ(i:Nat)=>show((i/2%2:Nat):Int)*s.y<=s.y by
                                      have:i/2%2=0\/i/2%2=1:=j1
                                      rcases this with e|e<;>rw[e]<;>omega
 have k:=λ(i:Nat)=>show((i%2:Nat):Int)*s.z<=s.z by
                                    have:i%2=0\/i%2=1:=j1
                                    rcases this with e|e<;>rw[e]<;>omega
 have l:=λ(i:Nat)=>show((i/4%2:Nat):Int)*t.x<=t.x by
                                      have:i/4%2=0\/i/4%2=1:=j1
                                      rcases this with e|e<;>rw[e]<;>omega
 have m:=λ(i:Nat)=>show((i/2%2:Nat):Int)*t.y<=t.y by
                                      have:i/2%2=0\/i/2%2=1:=j1
                                      rcases this with e|e<;>rw[e]<;>omega
 have n:=λ(i:Nat)=>show((i%2:Nat):Int)*t.z<=t.z by
                                    have:i%2=0\/i%2=1:=j1
                                    rcases this with e|e<;>rw[e]<;>omega
 rcases h with(h|h)|(h|h)|(h|h)
 ·exact key ⟨1,0,0⟩ j2 λi j _ _=>by
   have:=f i;have:=n1 j;simp only[V.dot,V.add,iN,V.zero];omega
 ·exact key ⟨-1,0,0⟩ j2 λi j _ _=>by
   have:=m1 i;have:=l j;simp only[V.dot,V.add,iN,V.zero];omega
 ·exact key ⟨0,1,0⟩ j2 λi j _ _=>by
   have:=g i;have:=n2 j;simp only[V.dot,V.add,iN,V.zero];omega
 ·exact key ⟨0,-1,0⟩ j2 λi j _ _=>by
   have:=m2 i;have:=m j;simp only[V.dot,V.add,iN,V.zero];omega
 ·exact key ⟨0,0,1⟩ j2 λi j _ _=>by
   have:=k i;have:=d j;simp only[V.dot,V.add,iN,V.zero];omega
 ·exact key ⟨0,0,-1⟩ j2 λi j _ _=>by
   have:=m3 i;have:=n j;simp only[V.dot,V.add,iN,V.zero];omega
def yV{u a s b t:Int}(h1:b<a+s)(h2:a<b+t):∃ e f:Nat,e<=1/\f<=1/\u*(b+f*t)<=u*(a+e*s)/\(u≠0->u*(b+f*t)<u*(a+e*s)):=by
 rcases zxb u 0 with h|h|h
 ·have:=Int.mul_lt_mul_of_neg_left h2 h;exact⟨0,1,j2,j2,by simp;omega,λ_=>by simp;omega⟩
 ·subst h;exact⟨0,0,j2,j2,j3,λh=>z3a rfl h⟩
 ·have:=zmb h1 h;exact⟨1,0,j2,j2,by simp;omega,λ_=>by simp;omega⟩
def Mt(hp:PairOk x y dj dj (lM V.zero s) (lM V.zero t))(h:¬ Qt x y s t){u:V}(j:u≠V.zero):jg u x y dj dj (lM V.zero s) (lM V.zero t)<0:=by
 apply Decidable.of_not_not;intro hn;have key:=(HX hp u).1 hn;unfold Qt at h;obtain⟨c,f1,c1,d1,g1,f⟩:=yV (u:=u.x) (a:=x.x) (s:=s.x) (b:=y.x) (t:=t.x) j1 j1
 obtain⟨d,f2,c2,d2,g2,g⟩:=yV (u:=u.y) (a:=x.y) (s:=s.y) (b:=y.y) (t:=t.y) j1 j1
 obtain⟨e,f3,k,d3,g3,i⟩:=yV (u:=u.z) (a:=x.z) (s:=s.z) (b:=y.z) (t:=t.z) j1 j1
 have:=key (c*4+d*2+e) (f1*4+f2*2+f3) j1 j1
 simp only[V.dot,V.add,iN,V.zero] at this;rw[show(c*4+d*2+e)/4%2=c by omega,show(c*4+d*2+e)/2%2=d by omega,show(c*4+d*2+e)%2=e by omega,show(f1*4+f2*2+f3)/4%2=f1 by omega,show(f1*4+f2*2+f3)/2%2=f2 by omega,show(f1*4+f2*2+f3)%2=f3 by omega] at this
 simp only[zrc] at this;have hu:u.x≠0\/u.y≠0\/u.z≠0:=by apply Decidable.of_not_not;intro l;apply j;apply V.ext'<;>simp only[V.zero]<;>omega
 rcases hu with hu|hu|hu
 ·have:=f hu;omega
 ·have:=g hu;omega
 ·have:=i hu;omega
end
def M4{x:V}{q:Nat->Int}(h:PoseOk x q){p:WV}{K:Int}{a b:Nat}(hm:MeanB p K a b){M:V}(d:∀ i,i<3->p i=some (Rat.divInt (aC M i) K))(c:∀ i,(aC M i).natAbs<=2^b){f:(V×Int)×List Nat}(hf:bd 549755813888 f.1.1/\f.1.2.natAbs<=281474976710656)(g:V.dot (ay q f.1.1) (V.sub M (V.smul K x))<=ap q*f.1.2*K):0<=pY q (dT p (lE x)) f:=by
 have e:=hm.pos;unfold pY;rw[pZ h hm d c hf,j5];have hle:Rat.divInt (V.dot (ay q f.1.1) (V.sub M (V.smul K x))) K<=((ap q*f.1.2:Int):Rat):=by rw[<-div_one (ap q*f.1.2),fe e j2];omega
 rw[zka (Rat.not_lt.2 hle)];split<;>omega
theorem Bz{q:Nat->Int}{p:WV}{F:FL}(h:∀ f∈F,pY q p f=1):∀ k,k<=F.length->zy q p F k=1
 | 0,_=>rfl
 | k+1,hk=>by rw[nS (show k<F.length by omega),Bz h k j1,h _ (zFa _)];rfl
theorem EK{q:Nat->Int}{p:WV}{F:FL}(h:∀ f∈F,0<=pY q p f):∀ k,k<=F.length->0<=zy q p F k
 | 0,_=>by show(0:Int)<=1;decide
 | k+1,hk=>by
  rw[nS (show k<F.length by omega)]
  have h1:=EK h k j1
  have h2:=h _ (zFa (show k<F.length by omega))
  omega
def HJ{p:WV}{K:Int}{M:V}(a:∀ i,i<3->p i=some (Rat.divInt (aC M i) K)):wL p=false:=by unfold wL;rw[a 0 j2,a 1 j2,a 2 j2];rfl
def IS{x:V}{q:Nat->Int}(h:PoseOk x q){p:WV}{K:Int}{a b:Nat}(hm:MeanB p K a b){M:V}(c:∀ i,i<3->p i=some (Rat.divInt (aC M i) K))(d:∀ i,(aC M i).natAbs<=2^b){F:FL}(hF:yP F)(e:∀ f∈F,V.dot (ay q f.1.1) (V.sub M (V.smul K x))<ap q*f.1.2*K):eH x q F p=1:=by
 unfold eH;rw[HJ c,zka j2]
 exact Bz (λf hf=>IQ h hm c d (hF.2 f hf) (e f hf)) _ (zia _)
def EL{x:V}{q:Nat->Int}(h:PoseOk x q){p:WV}{K:Int}{a b:Nat}(hm:MeanB p K a b){M:V}(c:∀ i,i<3->p i=some (Rat.divInt (aC M i) K))(d:∀ i,(aC M i).natAbs<=2^b){F:FL}(hF:yP F)(e:∀ f∈F,V.dot (ay q f.1.1) (V.sub M (V.smul K x))<=ap q*f.1.2*K):0<=eH x q F p:=by
 unfold eH;rw[HJ c,zka j2]
 exact EK (λf hf=>M4 h hm c d (hF.2 f hf) (e f hf)) _ (zia _)
structure PtK(p:WV)(M:V)(K:Int):Prop where
 eq:∀ i,p i=some (Rat.divInt (aC M i) K)
 pos:0<K
 kb:K.natAbs<=2^150
 mb:∀ i,(aC M i).natAbs<=2^200
def PtK.mean{p:WV}{M:V}{K:Int}(h:PtK p M K):MeanB p K 150 200:=
 ⟨λi=>by rw[h.eq i];exact bQ ((dM (h.mb i) h.kb (by have:=h.pos;omega)).InR j2 j2),h.pos,j2,j2,h.kb,λc v a=>by rw[h.eq c] at a;cases a;exact⟨_,rfl,h.mb c⟩⟩
def wJ(x:V)(q:Nat->Int)(F:FL)(M:V)(K:Int):Prop:=∀ f∈F,V.dot (ay q f.1.1) (V.sub M (V.smul K x))<=ap q*f.1.2*K
def nR{x:V}{q:Nat->Int}{F:FL}{M M':V}{K K':Int}(h0:0<K)(e:V.smul K M'=V.smul K' M)(h1:0<K')(h:wJ x q F M K):wJ x q F M' K':=λf hf=>by
 have k:=h f hf;generalize ay q f.1.1=n at *;generalize ap q*f.1.2=d at *;have b:K*V.dot n (V.sub M' (V.smul K' x))=K'*V.dot n (V.sub M (V.smul K x)):=by grind [V.smul,V.mk.injEq,V.dot,V.sub]
 have:=zja k (zpa h1);refine Int.le_of_mul_le_mul_left (a:=K) ?_ h0;grind
def IL{x:V}{q:Nat->Int}{F:FL}(h:PoseOk x q)(hF:yP F){p:WV}{M:V}{K:Int}(hp:PtK p M K)(c:0<=eH x q F p):wJ x q F M K:=λf hf=>by
 unfold eH at c;rw[HJ (λi _=>hp.eq i),zka j2] at c
 obtain⟨i,a,rfl⟩:=zYa hf;have h1:=(zz (q:=q) (p:=dT p (lE x)) F.length (zia _)).2 i a a;have h2:0<=pY q (dT p (lE x)) F[i]:=j1
 unfold pY at h2;rw[pZ h hp.mean (λi _=>hp.eq i) hp.mb (hF.2 _ (zFa a)),j5] at h2;have d:=hp.pos;apply zQb.1;intro k;have b:((ap q*F[i].1.2:Int):Rat)<Rat.divInt (V.dot (ay q F[i].1.1) (V.sub M (V.smul K x))) K:=by rw[<-Rat.not_le,<-div_one (ap q*F[i].1.2),fe d j2];omega
 rw[zna b] at h2;exact z3a h2 j2
def Se{S:Int}(h0:S≠0):sg S=1/\0<S\/sg S=-1/\S<0:=by all_goals grind [sg]
section
variable{x y:V}{q r:Nat->Int}{l m:List V}{F G:FL}{E E':List (Nat×Nat)}
def Dw(h:PoseOk x q)(hl:∀ v∈l,bd 4096 v){k:Nat}(hk:k<l.length)(i:Nat):(aC (fl x q l k) i).natAbs<=2^62:=by have:=vJ h (hl _ (gA hk));simp only[bd,PB] at this;rw[show(2:Nat)^62=4611686018427387904 from rfl];grind [aC,fl]
def No(h:PoseOk x q)(hl:∀ v∈l,bd 4096 v){k:Nat}(hk:k<l.length):PtK (qo x q l k) (fl x q l k) (ap q):=
 ⟨λi=>rfl,(cq h.hq h.h0).1,rT (fP h).1 j2,λi=>rT (Dw h hl hk i) j2⟩
def Oj{N W:V}{a b:Nat}(c:∀ i,(aC N i).natAbs<=2^a)(d:∀ i,(aC W i).natAbs<=2^b):(V.dot N W).natAbs<=2^(a+b+2):=by have k:=λi=>bw (k:=a+b) (c i) (d i) (zia _);exact cn (cn (k 0) (k 1)) (rT (k 2) j1)
def OF(h:PairOk x y q r l m){f:(V×Int)×List Nat}(hf:bd 549755813888 f.1.1/\f.1.2.natAbs<=281474976710656):(ap r*f.1.2*ap q).natAbs<=2^128:=
 bw (bw (j:=48) (k:=62) (fP h.pb).1 hf.2 j2) (fP h.pa).1 j2
def wO(x:V)(q:Nat->Int)(l:List V)(e:Nat×Nat):V:=V.sub (fl x q l e.2) (fl x q l e.1)
def kM(x:V)(q r:Nat->Int)(l:List V)(e:Nat×Nat)(f:(V×Int)×List Nat):Int:=V.dot (ay r f.1.1) (wO x q l e)
def uH(x y:V)(q r:Nat->Int)(l:List V)(e:Nat×Nat)(f:(V×Int)×List Nat):Int:=ap r*f.1.2*ap q-V.dot (ay r f.1.1) (V.sub (fl x q l e.1) (V.smul (ap q) y))
def FY(x y:V)(q r:Nat->Int)(l:List V)(e:Nat×Nat)(f:(V×Int)×List Nat):V:=V.smul (sg (kM x q r l e f)) (V.add (V.smul (kM x q r l e f) (fl x q l e.1)) (V.smul (uH x y q r l e f) (wO x q l e)))
def C1(x:V)(q r:Nat->Int)(l:List V)(e:Nat×Nat)(f:(V×Int)×List Nat):Int:=sg (kM x q r l e f)*(kM x q r l e f*ap q)
section
variable{e:Nat×Nat}{f:(V×Int)×List Nat}(h:PairOk x y q r l m)(he:e.1<l.length/\e.2<l.length)(hf:bd 549755813888 f.1.1/\f.1.2.natAbs<=281474976710656)
include h he
def Kk(i:Nat):(aC (wO x q l e) i).natAbs<=2^63:=by unfold wO;rw[nE];exact cn (Dw h.pa h.la he.2 i) (by rw[zEb];exact Dw h.pa h.la he.1 i)
def FA(i:Nat):NW x q l e i=some (Rat.divInt (aC (wO x q l e) i) (ap q)):=by
 show addW (some (Rat.divInt (aC (fl x q l e.2) i) (ap q))) (some (-(Rat.divInt (aC (fl x q l e.1) i) (ap q))))=_;rw[Rat.neg_divInt,kI (Dw h.pa h.la he.2 i) (by rw[zEb];exact Dw h.pa h.la he.1 i) (fP h.pa).1 (cq h.pa.hq h.pa.h0).1 j2 j2]
 unfold wO;rw[nE]
include hf
def An:wg x q r l e f=some (Rat.divInt (kM x q r l e f) (ap q)):=
 EJ (cq h.pa.hq h.pa.h0).1 (fP h.pa).1 (λi _=>FA h he i) (J3 h.pb hf.1) (Kk h he) j2 j2
def Zh:(kM x q r l e f).natAbs<=2^128:=Oj (J3 h.pb hf.1) (Kk h he)
def Oo:(V.dot (ay r f.1.1) (V.sub (fl x q l e.1) (V.smul (ap q) y))).natAbs<=2^128:=Oj (b:=63) (J3 h.pb hf.1) λi=>by
 have a:(aC y i).natAbs<=2^47:=by have:=h.pb.hx;simp only[bd] at this;rw[show(2:Nat)^47=140737488355328 from rfl];grind [aC]
 rw[nE,fI];exact cn (Dw h.pa h.la he.1 i) (by rw[zEb];exact bw (fP h.pa).1 a j2)
def Zg:(uH x y q r l e f).natAbs<=2^129:=vB (OF h hf) (Oo h he hf)
def A8(h0:kM x q r l e f≠0):pM x y q r l e f=some (Rat.divInt (uH x y q r l e f) (kM x q r l e f)):=by
 obtain⟨s0,_⟩:=cq h.pa.hq h.pa.h0;obtain⟨s1,s2⟩:=fP h.pa;have hp:=No h.pa h.la he.1;unfold pM;rw[An h he hf,pZ h.pb hp.mean (λi _=>hp.eq i) hp.mb hf];have g:Cu (some ((ap r*f.1.2:Int):Rat)) (some (Rat.divInt (V.dot (ay r f.1.1) (V.sub (fl x q l e.1) (V.smul (ap q) y))) (ap q)))=some (Rat.divInt (uH x y q r l e f) (ap q)):=by
  show addW (some ((ap r*f.1.2:Int):Rat)) (some (-(Rat.divInt _ _)))=_;rw[<-div_one (ap r*f.1.2),show Rat.divInt (ap r*f.1.2) 1=Rat.divInt (ap r*f.1.2*ap q) (ap q) by rw[zHb j2 s2];omega,Rat.neg_divInt,kI (OF h hf) (by rw[zEb];exact Oo h he hf) s1 s0 j2 j2]
  unfold uH;rw[zld]
 rw[g];have m:=Zg h he hf;have n:=Zh h he hf;generalize uH x y q r l e f=T at *;generalize kM x q r l e f=S at *;have c:=df (a:=S) (b:=ap q) s2;obtain⟨d1,d2⟩:=dM n s1 s2;obtain⟨z,j⟩:∃ z,z=Rat.divInt S (ap q):=⟨_,rfl⟩;rw[<-j] at c d1 d2 ⊢;have z0:z.num≠0:=λhn=>by
  rw[hn,z7b] at c;rcases z7a.1 c.symm with k|k
  ·exact h0 k
  ·exact da z k
 simp only[uN,Option.elim];rw[qh z0,(dM m s1 s2).mulW (dM (x:=(z.den:Int)) (d:=z.num) (a:=14) (by rw[zva];exact d2) d1 z0) j2 j2]
 congr 1;rw[show Rat.divInt (z.den:Int) z.num=Rat.divInt (ap q) S by rw[zHb z0 h0,zHa _ S,<-c,zHa],zMb,zHa T,Rat.divInt_mul_left s2]
def Oi(h0:kM x q r l e f≠0):PtK (Iq x y q r l e f) (FY x y q r l e f) (C1 x q r l e f):=by
 obtain⟨s0,_⟩:=cq h.pa.hq h.pa.h0;obtain⟨s1,s2⟩:=fP h.pa;have j:=Zg h he hf;have c:=Zh h he hf;have hs:=Se h0;have hT:=A8 h he hf h0;have n:=Kk h he;have m:=Dw h.pa h.la he.1;have a:∀ {z:Int},(sg (kM x q r l e f)*z).natAbs=z.natAbs:=λ{z}=>by rcases hs with k|k<;>rw[k.1]<;>omega
 refine⟨λi=>?_,?_,?_,λi=>?_⟩
 ·show addW (some (Rat.divInt (aC (fl x q l e.1) i) (ap q))) (mulW (pM x y q r l e f) (NW x q l e i))=_;rw[hT,FA h he i];have o:=n i;have p:=m i;unfold FY C1;rw[fI,pL,fI,fI];generalize uH x y q r l e f=T at *;generalize kM x q r l e f=S at *;generalize aC (wO x q l e) i=W at *;generalize aC (fl x q l e.1) i=A at *;generalize ap q=s at *;rw[(dM j c h0).mulW (dM o s1 s2) j2 j2,zMb]
  have b:(S*s)≠0:=z5b h0 s2;rw[(dM p s1 s2).addW (dM (bw (k:=192) j o j2) (bw (k:=142) c s1 j2) b) j2 j2 j2,zwc _ _ s2 b]
  congr 1;have t:sg S≠0:=by rcases hs with k|k<;>rw[k.1]<;>decide
  rw[Rat.divInt_mul_left t,zHb (z5b s2 b) b];grind
 ·unfold C1;rcases hs with⟨d,g⟩|⟨d,g⟩
  ·rw[d,zZb];exact zBa g s0
  ·rw[d];have:=zLc g s0;omega
 ·unfold C1;rw[a];exact bw c s1 j2
 ·unfold FY;rw[fI,a,pL,fI,fI];exact rT (k:=193) (cn (bw c (m i) j2) (bw j (n i) j2)) j2
end
def zu(h:PairOk x y q r l m)(hF:yP F)(hG:yP G){p:WV}{M:V}{K:Int}(hp:PtK p M K):zr x y q r F G p=true↔wJ x q F M K/\wJ y r G M K:=by
 unfold zr;simp only[zaa,zfa,ge_iff_le];constructor
 ·intro⟨h1,h2⟩;exact⟨IL h.pa hF hp h1,IL h.pb hG hp h2⟩
 ·intro⟨h1,h2⟩;exact⟨EL h.pa hp.mean (λi _=>hp.eq i) hp.mb hF h1,EL h.pb hp.mean (λi _=>hp.eq i) hp.mb hG h2⟩
def OD(h:PairOk x y q r l m)(hF:Fac l F E)(hG:Fac m G E'){p:WV}(hp:p∈kX x y q r l F G E):∃ M K,PtK p M K/\wJ x q F M K/\wJ y r G M K:=by
 have keep:∀ {w:WV} {M:V} {K:Int},PtK w M K->p∈iW x y q r F G w->∃ M K,PtK p M K/\wJ x q F M K/\wJ y r G M K:=λ{w M K} hw hp=>by
  obtain rfl:=rS hp;unfold iW at hp;split at hp
  ·rename_i c;exact⟨M,K,hw,(zu h hF.fb hG.fb hw).1 c⟩
  ·cases hp
 rcases List.mem_append.1 hp with hp|hp
 ·obtain⟨k,hk,hp⟩:=zPa.1 hp;exact keep (No h.pa h.la (zWa.1 hk)) hp
 ·obtain⟨e,he,hp⟩:=zPa.1 hp;obtain⟨f,hf,hp⟩:=zPa.1 hp;have b:=hG.fb.2 f hf;have a:=hF.lt e he;unfold mS at hp;split at hp
  ·cases hp
  ·rename_i h0;split at hp
   ·refine keep (Oi h a b λhn=>h0 ?_) hp;rw[An h a b,hn,Rat.zero_divInt];rfl
   ·cases hp
def PT(h:PairOk x y q r l m)(hF:Fac l F E)(hG:Fac m G E'){k:Nat}(hk:k<l.length)(i1:wJ x q F (fl x q l k) (ap q))(i2:wJ y r G (fl x q l k) (ap q)):qo x q l k∈kX x y q r l F G E:=
 List.mem_append.2 (.inl (zPa.2 ⟨k,zWa.2 hk,by rw[ua ((zu h hF.fb hG.fb (No h.pa h.la hk)).2 ⟨i1,i2⟩)];exact zLa.2 rfl⟩))
def Ni(h:PairOk x y q r l m)(hF:Fac l F E)(hG:Fac m G E'){e:Nat×Nat}(u:e∈E){f:(V×Int)×List Nat}(hf:f∈G)(s:kM x q r l e f≠0){M0:V}{K0 a b:Int}(hK:0<K0)(C:0<a)(D:a<b)(w:V.smul b (V.sub (V.smul (ap q) M0) (V.smul K0 (fl x q l e.1)))=V.smul (a*K0) (wO x q l e))(hn:V.dot (ay r f.1.1) (V.sub M0 (V.smul K0 y))=ap r*f.1.2*K0)(i1:wJ x q F M0 K0)(i2:wJ y r G M0 K0) :
  ∃ p M K,p∈kX x y q r l F G E/\PtK p M K/\V.smul K0 M=V.smul K M0:=by
 have c:=hF.lt e u;have d:=hG.fb.2 f hf;have hP:=Oi h c d s;have hT:=A8 h c d s;have z:b*uH x y q r l e f=a*kM x q r l e f:=by
  have I:b*(K0*uH x y q r l e f)=a*(K0*kM x q r l e f):=by have j:=zma (V.dot (ay r f.1.1)) w;unfold uH kM;generalize wO x q l e=W at *;generalize fl x q l e.1=A at *;generalize ay r f.1.1=n at *;simp only[V.dot,V.sub,V.smul] at j hn ⊢;grind
  refine Int.eq_of_mul_eq_mul_left (show K0≠0 by omega) ?_
  grind
 have o:V.smul K0 (FY x y q r l e f)=V.smul (C1 x q r l e f) M0:=by
  have key:∀ i,b*aC (V.smul K0 (FY x y q r l e f)) i=b*aC (V.smul (C1 x q r l e f) M0) i:=λi=>by have j:=zma (λv=>aC v i) w;unfold FY C1;simp only[fI,pL,nE] at j ⊢;grind
  have g:=λi=>Int.eq_of_mul_eq_mul_left (show b≠0 by omega) (key i)
  exact V.ext' (g 0) (g 1) (g 2)
 refine⟨_,_,_,?_,hP,o⟩;refine List.mem_append.2 (.inr (zPa.2 ⟨e,u,zPa.2 ⟨f,hf,?_⟩⟩));unfold mS;have t:Rat.divInt (uH x y q r l e f) (kM x q r l e f)=Rat.divInt a b:=by rw[zHb s j1,zHa,z]
 have c1:Cn (wg x q r l e f)≠0:=by rw[An h c d];intro hn;have J:=hC.1 hn;have g:=df (a:=kM x q r l e f) (b:=ap q) (fP h.pa).2;all_goals simp_all
 have c2:Cn (pM x y q r l e f)>0:=by
  rw[hT,t];have g:=df (a:=a) (b:=b) j1
  have L:0<(Rat.divInt a b).num*b:=by rw[g];exact zBa C (by have:=(Rat.divInt a b).den_pos;omega)
  have H:0<(Rat.divInt a b).num:=by
   apply Int.not_le.1;intro k;have:=Int.mul_nonpos_of_nonpos_of_nonneg k (show 0<=b by omega)
   omega
  show sg _>0;rw[iU H];decide
 have B:ja (pM x y q r l e f) (some ((1:Int):Rat))<0:=by rw[hT,t,j5,zna (by rw[<-Rat.not_le,<-div_one,fe j2 j1];omega)];decide
 rw[zka c1,zna (by rw[zha c2,zha B];rfl)]
 rw[ua ((zu h hF.fb hG.fb hP).2 ⟨nR hK o hP.pos i1,nR hK o hP.pos i2⟩)]
 simp_all
end
end Sy
end
end Go.Proofs.YtphlmegkommlnaaGreatDoor
