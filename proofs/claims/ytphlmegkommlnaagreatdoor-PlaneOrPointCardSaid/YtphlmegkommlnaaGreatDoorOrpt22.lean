/- Part 22 of the proof that PlaneOrPoint answers true at every input -/
import Derived.Test.YtphlmegkommlnaaGreatDoorOrpt19
import Derived.Test.YtphlmegkommlnaaGreatDoorOrpt21
set_option linter.unusedVariables false
set_option linter.unusedSimpArgs false
set_option linter.unnecessarySimpa false
set_option linter.defProp false
set_option maxRecDepth 20000
namespace Go.Proofs.YtphlmegkommlnaaGreatDoor
noncomputable section
namespace Geo
open V
section
variable{P:Nat->V}{N:Nat}
theorem yI{α:Type}{G K:α->Int}:∀ l:List α,l≠[]->(∀ x∈l,0<K x)->∃ z∈l,∀ x∈l,G z*K x<=G x*K z
 | [],h,_=>z4a rfl h
 | [a],_,_=>⟨a,j3,λx hx=>by rw[zKa.1 hx];exact zoc _⟩
 | a::b::l,_,hK=>by
  obtain⟨z,c,hl⟩:=yI (G:=G) (K:=K) (b::l) j3 λx hx=>hK x (by simp[hx])
  have ka:=hK a j3;have f:=hK z (by simp[c])
  rcases zDb (G a*K z) (G z*K a) with h|h
  ·refine⟨a,j3,λx hx=>?_⟩
   rcases zEa.1 hx with rfl|hx
   ·exact zoc _
   ·have d:=hK x (by simp[hx])
    have h1:G z*K x<=G x*K z:=hl x hx;have h2:0<(G z*K a-G a*K z)*K x:=zGa j1 d
    have h3:0<=(G x*K z-G z*K x)*K a:=zdb j1 j1
    have e:(G x*K a-G a*K x)*K z=(G x*K z-G z*K x)*K a+(G z*K a-G a*K z)*K x:=x6
    have:=iC f (show 0<K z*(G x*K a-G a*K x) by rw[zMa,e];omega)
    omega
  ·refine⟨z,by simp[c],λx hx=>?_⟩
   rcases zEa.1 hx with rfl|hx
   ·exact h
   ·exact hl x hx
def iQ(a b:Int)(u v w:V):dot (sub (smul a u) (smul b v)) w=a*dot u w-b*dot v w:=by simp only[dot,sub,smul];grind
def PD{a b c:Nat}(l:a<N)(B:b<N)(hc:c<N){g:V}(h0:g≠zero)(hle:∀ x,x<N->dot g (wy P a x)<=0)(nf:∃ x,x<N/\dot g (wy P a x)≠0)(tb:dot g (wy P a b)=0)(K:dot g (wy P a c)=0)(i:cross (wy P a b) (wy P a c)≠zero) :
  ∃ n d,IsF P N n d/\a∈bD P N n d/\b∈bD P N n d/\∃ k:Int,0<k/\g=smul k n:=by
 have m:a≠b:=λh=>i (by rw[<-h,kL];apply V.ext'<;>simp[cross,zero])
 have o:a≠c:=λh=>i (by rw[<-h,kL];apply V.ext'<;>simp[cross,zero])
 have r:b≠c:=λh=>i (by rw[<-h];apply V.ext'<;>simp only[cross,zero]<;>grind)
 have H:=ff tb K;have u:=aW h0;have key:∀ {p q:Nat},p<N->q<N->a≠p->a≠q->p≠q->(dA P a p q≠zero)->cross g (dA P a p q)=zero->0<dot g (dA P a p q)->∃ n d,IsF P N n d/\a∈bD P N n d/\(dot g (wy P a b)=0->b∈bD P N n d)/\∃ k:Int,0<k/\g=smul k n:=λ{p q} hp hq h1 h2 h3 ht hc hs=>by
  have ev:=vc hc g;have le:∀ x,x<N->dot (dA P a p q) (wy P a x)<=0:=λx hx=>by
   have f:=ev (wy P a x);have t:=Int.mul_nonpos_of_nonneg_of_nonpos (zpa hs) (hle x hx);rcases zDb 0 (dot (dA P a p q) (wy P a x)) with k|k
   ·have:=zGa u k;omega
   ·exact k
  obtain⟨x,hx,D⟩:=nf;have lt:dot (dA P a p q) (wy P a x)<0:=by
   have f:=ev (wy P a x);have t:=le x hx;rcases z7a t with k|k
   ·exact k
   ·rw[k,zwb] at f;have:=aG hs f.symm;exact z4a this D
  obtain⟨J,L,C,hn,hF⟩:=DU l hp hq h1 h2 h3 rfl le ⟨x,hx,lt⟩;refine⟨J,_,hF,aD.2 ⟨l,rfl⟩,?_⟩;have e:smul (dot g g) (dA P a p q)=smul (dot g (dA P a p q)) g:=AH hc g;have j:=ge g;have eq:J=aR g:=by
   refine n7 hF.nz.2 (jB h0) (a:=dot g g*L) (b:=dot g (dA P a p q)*br g) (zGa u C) (zGa hs (by have:=fD h0;omega)) ?_
   generalize dot g (dA P a p q)=w at *;generalize dot g g=Q at *;rw[hn] at e;rw[j] at e;have E:=zna V.x e;have F:=zna V.y e;have G:=zna V.z e;simp only[smul] at E F G ⊢;apply V.ext'<;>simp only[Int.mul_assoc] at *<;>assumption
  have O:=fD h0;refine⟨λtb=>aD.2 ⟨B,?_⟩,br g,j1,by rw[eq];exact j⟩
  rw[j,jN,<-eq] at tb;have:=aG (show(0:Int)<br g by omega) tb
  rw[bF] at this;omega
 rcases zHb 0 (dot g (cross (wy P a b) (wy P a c))) with s|s|s
 ·obtain⟨n,d,h1,h2,h3,f⟩:=key B hc m o r i H s;exact⟨n,d,h1,h2,h3 tb,f⟩
 ·exfalso;have e:=vc H (cross (wy P a b) (wy P a c));have j:dot (cross (wy P a b) (wy P a c)) g=0:=by rw[<-show dot g (cross (wy P a b) (wy P a c))=dot (cross (wy P a b) (wy P a c)) g by simp only[dot];grind];omega
  have I:=e g;rw[j,z5b] at I;have t:=aG u (show dot g g*dot (cross (wy P a b) (wy P a c)) (cross (wy P a b) (wy P a c))=0 by rw[zMa];exact I.symm)
  exact i (pu t)
 ·have M:∀ v:V,dot v (cross (wy P a c) (wy P a b))=- dot v (cross (wy P a b) (wy P a c)):=λv=>by simp only[dot,cross];grind
  obtain⟨n,d,h1,h2,h3,f⟩:=key hc B o m (Ne.symm r) (λh=>i (by have A:cross (wy P a c) (wy P a b)=zero:=h;have E:=zna V.x A;have F:=zna V.y A;have G:=zna V.z A;simp only[cross,zero] at E F G;apply V.ext'<;>simp only[cross,zero]<;>grind)) (ff K tb) (by show 0<dot g (cross (wy P a c) (wy P a b));rw[M];omega)
  exact⟨n,d,h1,h2,h3 tb,f⟩
def Pw{a b:Nat}(e:a<N)(B:b<N)(E:wy P a b≠zero){g:V}(g0:g≠zero)(hle:∀ x,x<N->dot g (wy P a x)<=0)(nf:∀ {m:V},m≠zero->∃ x,x<N/\dot m (wy P a x)≠0)(tb:dot g (wy P a b)=0)
  (l:∀ x,x<N->dot g (wy P a x)=0->cross (wy P a b) (wy P a x)=zero):∃ n d,IsF P N n d/\a∈bD P N n d/\b∈bD P N n d:=by
 obtain⟨z0,c,J⟩:=nf g0;have D:=hle z0 c;obtain⟨z,C,f⟩:=far (w:=wy P a) tb ((List.range N).filter λk=>decide (dot g (wy P a k)<0)) (List.ne_nil_of_mem (a:=z0) (by simp[c];omega)) (λy hy=>by simpa using(zrb.1 hy).2)
 have s:z<N:=by simpa using(zrb.1 C).1
 have j:dot g (wy P a z)<0:=by simpa using(zrb.1 C).2
 have q:a≠z:=λh=>by rw[<-h,kL,qE] at j;omega
 have t:z≠b:=λh=>by rw[h] at j;omega
 have o:a≠b:=λh=>E (by rw[<-h,kL])
 have ht:dA P a z b≠zero:=λh=>by have p:=AH (h:cross (wy P a z) (wy P a b)=zero) g;rw[tb] at p;have F:=zna V.x p;have G:=zna V.y p;have H:=zna V.z p;simp only[smul,z5b] at F G H;exact E (V.ext' ((zcb.1 F).resolve_left j1) ((zcb.1 G).resolve_left j1) ((zcb.1 H).resolve_left j1))
 have le:∀ u,u<N->dot (dA P a z b) (wy P a u)<=0:=λu hu=>by
  show dot (cross (wy P a z) (wy P a b)) (wy P a u)<=0;rcases z7a (hle u hu) with k|k
  ·have h1:=f u (by simp[hu,k])
   have v:dot (cross (wy P a z) (wy P a b)) (wy P a u)=- dot (wy P a b) (cross (wy P a z) (wy P a u)):=by simp only[dot,cross];grind
   omega
  ·have h1:=l u hu k;have v:dot (cross (wy P a z) (wy P a b)) (wy P a u)=dot (wy P a z) (cross (wy P a b) (wy P a u)):=by simp only[dot,cross];grind
   rw[v,h1,qE];omega
 obtain⟨u,i,I⟩:=nf ht;have:=le u i;obtain⟨K,L,r,hn,hF⟩:=DU e s B q o t rfl le ⟨u,i,j1⟩
 refine⟨K,_,hF,aD.2 ⟨e,rfl⟩,aD.2 ⟨B,?_⟩⟩;have A:dot (dA P a z b) (wy P a b)=0:=by show dot (cross (wy P a z) (wy P a b)) (wy P a b)=0;simp only[dot,cross];grind
 rw[hn,jN] at A;have:=aG r A;rw[bF] at this;omega
def T7{a:Nat}{g n1:V}{d1:Int}(h1:IsF P N n1 d1)(i:a∈bD P N n1 d1)(hle:∀ x,x<N->dot g (wy P a x)<=0) :
  ∃ (z:Nat) (K G:Int),z<N/\0<K/\0<=G/\dot n1 (wy P a z)<0/\(∀ x,x<N->dot (sub (smul K g) (smul G n1)) (wy P a x)<=0)/\dot (sub (smul K g) (smul G n1)) (wy P a z)=0:=by
 have c:∀ x,dot n1 (wy P a x)=dot n1 (P x)-d1:=λx=>by rw[bF,(aD.1 i).2]
 obtain⟨z0,d,h⟩:=h1.supp.2;obtain⟨z,f,hl⟩:=yI (G:=λx=>- dot g (wy P a x)) (K:=λx=>- dot n1 (wy P a x)) ((List.range N).filter λk=>decide (dot n1 (wy P a k)<0)) (List.ne_nil_of_mem (a:=z0) (by simp[d];have:=c z0;omega)) (λx hx=>by
  have:dot n1 (wy P a x)<0:=by simpa using(zrb.1 hx).2
  omega)
 have b:z<N:=by simpa using(zrb.1 f).1
 have e:dot n1 (wy P a z)<0:=by simpa using(zrb.1 f).2
 have l:=hle z b;refine⟨z,- dot n1 (wy P a z),- dot g (wy P a z),b,j1,j1,e,λx hx=>?_,?_⟩
 ·rw[iQ];have h2:=h1.supp.1 x hx;have h3:=c x;have j:=hle x hx;rcases z7a (show dot n1 (wy P a x)<=0 by omega) with k|k
  ·have:=hl x (by simp[hx,k])
   rw[Int.neg_mul_neg,Int.neg_mul_neg] at this;rw[Int.neg_mul,Int.neg_mul,zMa (dot n1 (wy P a z))];omega
  ·rw[k,zwb];have:=zdb (show 0<=- dot n1 (wy P a z) by omega) (show 0<=- dot g (wy P a x) by omega)
   rw[zKb] at this;omega
 ·rw[iQ,Int.neg_mul,Int.neg_mul,zMa];omega
section
variable{a:Nat}{W:V}
def pH(j:a<N)(nf:∀ {m:V},m≠zero->∃ x,x<N/\dot m (wy P a x)≠0)(A:∀ n d,IsF P N n d->a∈bD P N n d->dot n W<0){g:V}(g0:g≠zero)(hle:∀ x,x<N->dot g (wy P a x)<=0){b:Nat}(B:b<N)(C:wy P a b≠zero)(tb:dot g (wy P a b)=0):dot g W<0:=by
 have flat:∀ {g:V},g≠zero->(∀ x,x<N->dot g (wy P a x)<=0)->dot g (wy P a b)=0->∀ {c:Nat},c<N->dot g (wy P a c)=0->cross (wy P a b) (wy P a c)≠zero->dot g W<0:=λ{g} g0 hle tb {c} hc J u=>by obtain⟨n,d,h1,h2,_,k,hk,e⟩:=PD j B hc g0 hle (nf g0) tb J u;rw[e,jN];exact zbb hk (A n d h1 h2)
 by_cases hx:∃ x,x<N/\dot g (wy P a x)=0/\cross (wy P a b) (wy P a x)≠zero
 ·obtain⟨x,h1,h2,h3⟩:=hx;exact flat g0 hle tb h1 h2 h3
 ·have s:∀ x,x<N->dot g (wy P a x)=0->cross (wy P a b) (wy P a x)=zero:=λx h1 h2=>Classical.byContradiction λh3=>hx ⟨x,h1,h2,h3⟩;obtain⟨n1,d1,hF,i,t⟩:=Pw j B C g0 hle nf tb s;obtain⟨z,K,G,H,hK,hG,I,l,v⟩:=T7 hF i hle;have nb:dot n1 (wy P a b)=0:=by rw[bF,(aD.1 i).2,(aD.1 t).2];omega
  have w:=A n1 d1 hF i;have u:cross (wy P a b) (wy P a z)≠zero:=λh=>by have p:=AH h n1;rw[nb] at p;have o:=zna V.x p;have q:=zna V.y p;have r:=zna V.z p;simp only[smul,z5b] at o q r;exact C (V.ext' ((zcb.1 o.symm).resolve_left j1) ((zcb.1 q.symm).resolve_left j1) ((zcb.1 r.symm).resolve_left j1))
  have L:=iQ K G g n1 W;have D:dot (sub (smul K g) (smul G n1)) (wy P a b)=0:=by rw[iQ,tb,nb];omega
  have f:dot (sub (smul K g) (smul G n1)) W<=0/\(sub (smul K g) (smul G n1)≠zero->dot (sub (smul K g) (smul G n1)) W<0):=by
   by_cases h0:sub (smul K g) (smul G n1)=zero
   ·exact⟨by rw[h0];simp[dot,zero],λh=>z4a h0 h⟩
   ·have:=flat h0 l D H v u;exact⟨j1,λ_=>this⟩
  have E:G*dot n1 W<=0:=Int.mul_nonpos_of_nonneg_of_nonpos hG j1
  have F:K*dot g W<0:=by
   by_cases h0:sub (smul K g) (smul G n1)=zero
   ·rcases z7a hG with k|k
    ·have:=zbb k w;have:=f.1;omega
    ·exfalso;rw[<-k] at h0;have o:=zna V.x h0;have q:=zna V.y h0;have r:=zna V.z h0;simp only[sub,smul,zero,z5b,Int.sub_zero] at o q r;exact g0 (V.ext' (aG hK o) (aG hK q) (aG hK r))
   ·have:=f.2 h0;omega
  rcases zDb (dot g W) 0 with k|k
  ·exact k
  ·have:=zdb (zpa hK) k;omega
def Iu(o:a<N)(nf:∀ {m:V},m≠zero->∃ x,x<N/\dot m (wy P a x)≠0)(O:∀ n d,IsF P N n d->a∈bD P N n d->dot n W<0){g:V}(g0:g≠zero)(hle:∀ x,x<N->dot g (wy P a x)<=0):dot g W<0:=by
 by_cases ht:∃ b,b<N/\wy P a b≠zero/\dot g (wy P a b)=0
 ·obtain⟨b,h1,h2,h3⟩:=ht;exact pH o nf O g0 hle h1 h2 h3
 have st:∀ x,x<N->wy P a x≠zero->dot g (wy P a x)<0:=λx hx hw=>by
  have:=hle x hx;rcases z7a this with k|k
  ·exact k
  ·exact z4a ⟨x,hx,hw,k⟩ ht
 obtain⟨f,X,U⟩:=nf g0;have w1:wy P a f≠zero:=λh=>U (by rw[h,qE])
 obtain⟨e,Q,R⟩:∃ e:V,e≠zero/\dot e (wy P a f)=0:=by
  by_cases hxy:(wy P a f).x=0/\(wy P a f).y=0
  ·exact⟨⟨1,0,0⟩,λh=>by simp[zero] at h,by simp[dot,hxy.1]⟩
  ·refine⟨⟨-(wy P a f).y,(wy P a f).x,0⟩,λh=>hxy ?_,by simp only[dot];grind⟩
   simp only[zero,V.mk.injEq] at h;omega
 obtain⟨J,Y,u⟩:=nf Q;have hc:cross (wy P a f) (wy P a J)≠zero:=λh=>by have p:=AH h e;rw[R] at p;have y1:=zna V.x p;have y2:=zna V.y p;have y3:=zna V.z p;simp only[smul,z5b] at y1 y2 y3;exact w1 (V.ext' ((zcb.1 y1.symm).resolve_left u) ((zcb.1 y2.symm).resolve_left u) ((zcb.1 y3.symm).resolve_left u))
 obtain⟨c,i⟩:∃ c,c=cross (wy P a f) (wy P a J):=⟨_,rfl⟩;have cc:0<dot c c:=aW (i ▸ hc);obtain⟨v,hv⟩:∃ v,v=cross c (add (wy P a f) (wy P a J)):=⟨_,rfl⟩;have v1:dot v (wy P a f)=- dot c c:=by
  rw[hv];conv=>rhs;rw[i]
  rw[i];simp only[dot,cross,add];grind
 have v2:dot v (wy P a J)=dot c c:=by rw[hv,i];simp only[dot,cross,add];grind
 have go:∀ s:Int,(s=1\/s=-1)->∃ (z:Nat) (K G:Int),z<N/\0<K/\0<G/\wy P a z≠zero/\(∀ x,x<N->dot (sub (smul K g) (smul (-(s*G)) v)) (wy P a x)<=0)/\dot (sub (smul K g) (smul (-(s*G)) v)) (wy P a z)=0:=λs hs=>by
  obtain⟨z,hz,hl⟩:=yI (G:=λx=>- dot g (wy P a x)) (K:=λx=>s*dot v (wy P a x)) ((List.range N).filter λk=>decide (0<s*dot v (wy P a k))) (by
   rcases hs with rfl|rfl
   ·exact List.ne_nil_of_mem (a:=J) (by simp[Y];omega)
   ·exact List.ne_nil_of_mem (a:=f) (by simp[X];omega)) (λx hx=>by simpa using(zrb.1 hx).2)
  have I:z<N:=by simpa using(zrb.1 hz).1
  have A:0<s*dot v (wy P a z):=by simpa using(zrb.1 hz).2
  have wz:wy P a z≠zero:=λh=>by rw[h,qE,zwb] at A;omega
  have gz:=st z I wz;refine⟨z,s*dot v (wy P a z),- dot g (wy P a z),I,A,j1,wz,λx hx=>?_,?_⟩
  ·rw[iQ];have ad:=hle x hx;rcases zDb 0 (s*dot v (wy P a x)) with k|k
   ·have:=hl x (by simp[hx,k])
    generalize dot v (wy P a x)=p at *;generalize dot v (wy P a z)=q at *;generalize dot g (wy P a x)=r at *;generalize dot g (wy P a z)=t at *;rcases hs with rfl|rfl
    ·simp only[znc,Int.neg_neg,Int.neg_mul] at *;rw[zMa q r];omega
    ·simp only[znc,Int.neg_neg,Int.neg_mul,zKb] at *;rw[zMa q r];omega
   ·have h1:=zdb (zpa A) (show 0<=- dot g (wy P a x) by omega)
    have h2:=zdb (show 0<=- dot g (wy P a z) by omega) (show 0<=-(s*dot v (wy P a x)) by omega)
    generalize dot v (wy P a x)=p at *;generalize dot v (wy P a z)=q at *;generalize dot g (wy P a x)=r at *;generalize dot g (wy P a z)=t at *;rcases hs with rfl|rfl
    ·simp only[znc,Int.neg_neg,Int.neg_mul,zKb] at *;omega
    ·simp only[znc,Int.neg_neg,Int.neg_mul,zKb] at *;omega
  ·rw[iQ];rcases hs with rfl|rfl
   ·simp only[znc,Int.neg_neg,Int.neg_mul,zKb] at *;rw[zMa];omega
   ·simp only[znc,Int.neg_neg,Int.neg_mul,zKb] at *;rw[zMa];omega
 obtain⟨z1,K1,G1,F,L,B,j,S,D⟩:=go 1 (.inl rfl);obtain⟨z2,K2,G2,H,M,C,l,T,E⟩:=go (-1) (.inr rfl);have comb:∀ w:V,G2*dot (sub (smul K1 g) (smul (-(1*G1)) v)) w+G1*dot (sub (smul K2 g) (smul (-(-1*G2)) v)) w=(G2*K1+G1*K2)*dot g w:=λw=>by rw[iQ,iQ];grind
 have Z:0<G2*K1+G1*K2:=by have:=zGa C L;have:=zGa B M;omega
 have n1:sub (smul K1 g) (smul (-(1*G1)) v)≠zero:=λh=>by
  have:=comb (wy P a z2);rw[E,h,show dot zero (wy P a z2)=0 by simp[dot,zero],zwb,zwb] at this
  have h3:=aG Z this.symm;have:=st z2 H l;omega
 have n2:sub (smul K2 g) (smul (-(-1*G2)) v)≠zero:=λh=>by
  have:=comb (wy P a z1);rw[D,h,show dot zero (wy P a z1)=0 by simp[dot,zero],zwb,zwb] at this
  have h3:=aG Z this.symm;have:=st z1 F j;omega
 have r1:=pH o nf O n1 S F j D;have r2:=pH o nf O n2 T H l E;have:=comb W;have q1:=zbb C r1;have q2:=zbb B r2;rcases zDb (dot g W) 0 with k|k
 ·exact k
 ·have:=zdb (zpa Z) k;omega
end
end
section
variable{P:Nat->V}{N:Nat}
def wQ{u v g:V}(h:cross u v=zero)(hu:dot g u=0)(a:dot g v≠0):u=zero:=by have p:=AH h g;rw[hu] at p;have b:=zna V.x p;have c:=zna V.y p;have d:=zna V.z p;simp only[smul,z5b] at b c d;exact V.ext' ((zcb.1 b.symm).resolve_left a) ((zcb.1 c.symm).resolve_left a) ((zcb.1 d.symm).resolve_left a)
def BU(hl:∀ i j,i<j->j<N->aM (P i) (P j))(M:∀ k,k<N->HR P N k){n:V}{d:Int}(hF:IsF P N n d){a b:Nat}(s:a∈bD P N n d)(o:b∈bD P N n d)(m:b≠a){g:V}(hle:∀ x,x<N->dot g (wy P a x)<=0)(tb:dot g (wy P a b)=0)
  (E:∀ x,x<N->dot g (wy P a x)=0->cross (wy P a b) (wy P a x)=zero):vo P N n d a b\/vo P N n d b a:=by
 have F:=hF.flat hl;have J:=rZ F s o m;have c:∀ {x},x∈bD P N n d->x<N:=λh=>(aD.1 h).1;have C:∀ {x},x∈bD P N n d->dot n (wy P a x)=0:=λh=>F.pl a s _ h;have ext:∀ {x},x∈bD P N n d->nu P (bD P N n d) x:=λ{x} h=>by obtain⟨f,hf⟩:=(M x (c h)).front;exact⟨f,λy hy H=>hf y (c hy) H⟩
 obtain⟨v,A,w⟩:∃ v,v∈bD P N n d/\dot g (wy P a v)<0:=by
  apply Classical.byContradiction;intro G;have all:∀ x,x∈bD P N n d->cross (wy P a b) (wy P a x)=zero:=λx hx=>E x (c hx) (by
   have:=hle x (c hx);rcases z7a this with k|k
   ·exact z4a ⟨x,hx,k⟩ G
   ·exact k)
  obtain⟨i,j,k,_,_,_,O,Q,mk,ht⟩:=hF.three;refine ht ?_;have pi:=AH (all i O) (wy P a b);have R:=AH (all j Q) (wy P a b);have S:=AH (all k mk) (wy P a b);have wp:=aW J;have e:smul (dot (wy P a b) (wy P a b)*dot (wy P a b) (wy P a b)) (dA P i j k)=zero:=by
   have K:dA P i j k=cross (sub (wy P a j) (wy P a i)) (sub (wy P a k) (wy P a i)):=by apply V.ext'<;>simp only[dA,cross,wy,sub]<;>grind
   have L:∀ u v:V,∀ k:Int,smul (k*k) (cross u v)=cross (smul k u) (smul k v):=λu v k=>by apply V.ext'<;>simp only[smul,cross]<;>grind
   have I:∀ u v:V,∀ k:Int,smul k (sub u v)=sub (smul k u) (smul k v):=λu v k=>by apply V.ext'<;>simp only[smul,sub]<;>grind
   rw[K,L,I,I,pi,R,S];apply V.ext'<;>simp only[smul,cross,sub,zero]<;>grind
  have U:=zna V.x e;have W:=zna V.y e;have X:=zna V.z e;have r:=zGa wp wp;exact V.ext' (aG r U) (aG r W) (aG r X)
 obtain⟨t,ht⟩:∃ t,T n (wy P a b) (wy P a v)=t:=⟨_,rfl⟩;have pl:∀ x,x∈bD P N n d->dot g (wy P a v)*T n (wy P a b) (wy P a x)=dot g (wy P a x)*t:=λx hx=>by have p:=AI hF.nz.1 g (C o) (C A) (C hx);rw[tb,KQ (wy P a b) (wy P a x),ht] at p;rw[z5b,zKb] at p;omega
 have D:∀ x,x∈bD P N n d->T n (wy P a b) (wy P a x)=0->x=a\/x=b:=λx hx h0=>by
  by_cases hxa:x=a
  ·exact .inl hxa
  ·exact .inr (afD F s o hx (ext s) (ext o) (ext hx) m hxa h0).symm
 have t0:t≠0:=λh=>J (wQ (eG hF.nz.1 (C o) (C A) (ht.trans h)) tb j1)
 have sgn:∀ x,x∈bD P N n d->(0<t->0<=T n (wy P a b) (wy P a x))/\(t<0->T n (wy P a b) (wy P a x)<=0):=λx hx=>by
  have p:=pl x hx;have B:=hle x (c hx);refine⟨λk=>?_,λk=>?_⟩
  ·have h1:=Int.mul_nonpos_of_nonpos_of_nonneg B (zpa k);rcases zDb (T n (wy P a b) (wy P a x)) 0 with q|q
   ·have:=zTb w q;omega
   ·exact q
  ·have h1:=Int.mul_nonneg_of_nonpos_of_nonpos B (zpa k);rcases zDb 0 (T n (wy P a b) (wy P a x)) with q|q
   ·have:=zVc w q;omega
   ·exact q
 have l:∀ u:V,0<=dot u u:=nO;rcases ztd t0 with k|k
 ·right;refine⟨o,s,λh=>m h.symm,λx hx=>?_⟩;have e:T n (wy P b a) (wy P b x)=- T n (wy P a b) (wy P a x):=by simp only[T,dot,cross,wy,sub];grind
  rw[e];refine⟨by have:=(sgn x hx).2 k;omega,λh0=>?_⟩
  rcases D x hx j1 with rfl|rfl
  ·exact⟨l _,zoc _⟩
  ·rw[kL,show dot zero (wy P x a)=0 by simp[dot,zero]]
   exact⟨zoc _,l _⟩
 ·left;refine⟨s,o,m,λx hx=>?_⟩;refine⟨(sgn x hx).1 k,λh0=>?_⟩;rcases D x hx h0 with rfl|rfl
  ·rw[kL,show dot zero (wy P x b)=0 by simp[dot,zero]]
   exact⟨zoc _,l _⟩
  ·exact⟨l _,zoc _⟩
end
def JQ(A B:Nat->V)(Na:Nat)(s t:Int)(k:Nat):V:=sub (smul s (B (k/Na))) (smul t (A (k%Na)))
section
variable{A B:Nat->V}{Na Nb:Nat}{s t:Int}
def gJ(P:Nat->V)(N:Nat)(n:V)(i:Nat):Prop:=i<N/\∀ x,x<N->dot n (P x)<=dot n (P i)
def sat(hs:0<s)(ht:0<t)(c:0<Na)(v:0<Nb)(nf:∀ {m:V},m≠zero->∀ i,i<Na->∃ x,x<Na/\dot m (wy A i x)≠0){u:V}(u0:u≠zero)(hu:∀ i j,i<Na->j<Nb->t*dot u (A i)<=s*dot u (B j)) :
  ∃ n:V,n≠zero/\br n=1/\(∀ i j,i<Na->j<Nb->s*dot n (B j)<=t*dot n (A i)) ∧
   ((∃ i j k,gJ B Nb n i/\gJ B Nb n j/\gJ B Nb n k/\dA B i j k≠zero)\/(∃ i j k,gJ A Na (neg n) i/\gJ A Na (neg n) j/\gJ A Na (neg n) k/\dA A i j k≠zero) ∨
    ∃ i j k l,gJ B Nb n i/\gJ B Nb n j/\gJ A Na (neg n) k/\gJ A Na (neg n) l/\cross (wy B i j) (wy A k l)≠zero):=by
 obtain⟨P,hP⟩:∃ P,P=JQ A B Na s t:=⟨_,rfl⟩;obtain⟨N,M⟩:∃ N,N=Nb*Na:=⟨_,rfl⟩;have N0:0<N:=M ▸ Nat.mul_pos v c;have qr:∀ k,k<N->k/Na<Nb/\k%Na<Na:=λk hk=>⟨(z1a c).2 (M ▸ hk),z5a _ c⟩;have idx:∀ i j,i<Na->j<Nb->∃ k,k<N/\k/Na=j/\k%Na=i:=λi j p Q=>by
  refine⟨j*Na+i,?_,?_,?_⟩
  ·have:=zIa Na (show j+1<=Nb by omega)
   rw[zhb] at this;omega
  ·rw[zRa,Nat.mul_add_div c,zib p];omega
  ·rw[zRa,Nat.mul_add_mod,zXa p]
 have g:∀ (n:V) k,dot n (P k)=s*dot n (B (k/Na))-t*dot n (A (k%Na)):=λn k=>by rw[hP];simp only[JQ,dot,sub,smul];grind
 have H:∀ a,a<N->∀ {m:V},m≠zero->∃ x,x<N/\dot m (wy P a x)≠0:=λa O m hm=>by
  obtain⟨x,hx,F⟩:=nf hm (a%Na) (qr a O).2;obtain⟨k,hk,U,X⟩:=idx x (a/Na) hx (qr a O).1;refine⟨k,hk,λh=>F ?_⟩;rw[bF,g,g,U,X] at h;rw[bF];have:t*(dot m (A x)-dot m (A (a%Na)))=0:=by rw[Int.mul_sub];omega
  exact aG ht this
 obtain⟨a,f,o,_⟩:=so (λk=>dot (neg u) (P k)) N N0;have r:∀ w:V,dot (neg u) w=- dot u w:=λw=>by simp only[dot,neg];grind
 have hle:∀ x,x<N->dot (neg u) (wy P a x)<=0:=λx hx=>by have:dot (neg u) (P x)<=dot (neg u) (P a):=o x hx;rw[bF];omega
 have g0:neg u≠zero:=λh=>u0 (by have x1:=zna V.x h;have x2:=zna V.y h;have x3:=zna V.z h;simp only[neg,zero] at x1 x2 x3;exact V.ext' (by simp only[zero];omega) (by simp only[zero];omega) (by simp only[zero];omega))
 obtain⟨n,d,hF,hd⟩:∃ n d,IsF P N n d/\d<=0:=by
  apply Classical.byContradiction;intro E;have:=Iu (W:=neg (P a)) f (H a f) (λn d h1 h2=>by
   have e:dot n (neg (P a))=- dot n (P a):=by simp only[dot,neg];grind
   rw[e,(aD.1 h2).2];rcases zDb 0 d with k|k
   ·omega
   ·exact z4a ⟨n,d,h1,k⟩ E) g0 hle
  have e:dot (neg u) (neg (P a))=dot u (P a):=by simp only[dot,neg];grind
  rw[e,g] at this;have:=hu (a%Na) (a/Na) (qr a f).2 (qr a f).1;omega
 have b:=hF.supp.1;have eY:∀ k,k∈bD P N n d->gJ B Nb n (k/Na)/\gJ A Na (neg n) (k%Na):=λk hk=>by
  obtain⟨C,D⟩:=aD.1 hk;obtain⟨R,S⟩:=qr k C;rw[g] at D;refine⟨⟨R,λx hx=>?_⟩,S,λx hx=>?_⟩
  ·obtain⟨G,a1,a2,a3⟩:=idx (k%Na) x S hx;have:=b G a1;rw[g,a2,a3] at this;exact Int.le_of_mul_le_mul_left j1 hs
  ·obtain⟨G,a1,a2,a3⟩:=idx x (k/Na) hx R;have:=b G a1;rw[g,a2,a3] at this;have r:∀ w:V,dot (neg n) w=- dot n w:=λw=>by simp only[dot,neg];grind
   rw[r,r];have:=Int.le_of_mul_le_mul_left (show t*dot n (A (k%Na))<=t*dot n (A x) by omega) ht
   omega
 refine⟨n,hF.nz.1,hF.nz.2,λi j p Q=>?_,?_⟩
 ·obtain⟨k,a1,a2,a3⟩:=idx i j p Q;have:=b k a1;rw[g,a2,a3] at this;omega
 obtain⟨i,j,k,_,_,_,Y,Z,mk,h3⟩:=hF.three;obtain⟨bi,q⟩:=eY i Y;obtain⟨K,I⟩:=eY j Z;obtain⟨L,J⟩:=eY k mk;by_cases c1:dA B (i/Na) (j/Na) (k/Na)=zero
 ·by_cases c2:dA A (i%Na) (j%Na) (k%Na)=zero
  ·right;right;by_cases c3:cross (wy B (i/Na) (j/Na)) (wy A (i%Na) (k%Na))=zero
   ·refine⟨_,_,_,_,bi,L,q,I,λT=>h3 ?_⟩;have e:dA P i j k=add (sub (smul (s*s) (dA B (i/Na) (j/Na) (k/Na))) (smul (s*t) (cross (wy B (i/Na) (j/Na)) (wy A (i%Na) (k%Na))))) (add (smul (s*t) (cross (wy B (i/Na) (k/Na)) (wy A (i%Na) (j%Na)))) (smul (t*t) (dA A (i%Na) (j%Na) (k%Na)))):=by
     rw[hP];generalize hB1:B (i/Na)=b1;generalize hB2:B (j/Na)=b2;generalize hB3:B (k/Na)=b3;generalize hA1:A (i%Na)=a1;generalize hA2:A (j%Na)=a2;generalize hA3:A (k%Na)=a3;apply V.ext'<;>simp only[dA,cross,wy,sub,smul,add,JQ,hB1,hB2,hB3,hA1,hA2,hA3]<;>grind
    rw[e,c1,c2,c3,T];apply V.ext'<;>simp[add,sub,smul,zero]
   ·exact⟨_,_,_,_,bi,K,q,J,c3⟩
  ·exact .inr (.inl ⟨_,_,_,q,I,J,c2⟩)
 ·exact .inl ⟨_,_,_,bi,K,L,c1⟩
end
end Geo
end
noncomputable section
namespace Sy
open Go Go.Proofs Geo
def ci(q:Nat->Int)(v:V):V:=⟨dY q 0*v.x+dY q 3*v.y+dY q 6*v.z,dY q 1*v.x+dY q 4*v.y+dY q 7*v.z,dY q 2*v.x+dY q 5*v.y+dY q 8*v.z⟩
def jO(q:Nat->Int)(u v:V):V.dot u (aF q v)=V.dot (ci q u) v:=by simp only[V.dot,aF,co,ci,zHc,zfb,zZc,Nat.reduceMul,Nat.reduceAdd];grind
def ml(q:Nat->Int)(v:V):aF q (ci q v)=V.smul (ay q*ay q) v:=by apply V.ext'<;>simp only[V.smul,aF,co,ci,dY,ay,zHc,zfb,zZc,Nat.reduceMul,Nat.reduceAdd]<;>grind
def jA(q:Nat->Int)(v:V):ci q (aF q v)=V.smul (ay q*ay q) v:=by apply V.ext'<;>simp only[V.smul,aF,co,ci,dY,ay,zHc,zfb,zZc,Nat.reduceMul,Nat.reduceAdd]<;>grind
theorem jH(q:Nat->Int)(k:Int)(v:V):aF q (V.smul k v)=V.smul k (aF q v):=by grind [V.smul,aF,co]
theorem GB(q:Nat->Int)(k:Int)(v:V):ci q (V.smul k v)=V.smul k (ci q v):=by grind [V.smul,ci]
def mT{k:Int}(hk:k≠0){v:V}(h:V.smul k v=V.zero):v=V.zero:=by have a:=zna V.x h;have b:=zna V.y h;have c:=zna V.z h;simp only[V.smul,V.zero] at a b c;exact V.ext' ((zcb.1 a).resolve_left hk) ((zcb.1 b).resolve_left hk) ((zcb.1 c).resolve_left hk)
def qf{q:Nat->Int}{u v:V}(h:V.cross u v=V.zero):V.cross (aF q u) (aF q v)=V.zero:=by all_goals grind [V.cross,aF,co,V.zero,jH,V.smul]
section
variable{q:Nat->Int}(hq:ay q≠0)
include hq
def Be{v:V}(h:v≠V.zero):aF q v≠V.zero:=λe=>h (mT (z8b hq hq) (by rw[<-jA,e];simp[ci,V.zero]))
def qm{v:V}(h:v≠V.zero):ci q v≠V.zero:=λe=>h (mT (z8b hq hq) (by rw[<-ml,e];simp[aF,co,V.zero]))
def DF{u v:V}(h:V.cross (aF q u) (aF q v)=V.zero):V.cross u v=V.zero:=by
 have hs:=z8b hq hq;have key:V.cross (ci q (aF q u)) (ci q (aF q v))=V.zero:=by all_goals grind [V.cross,ci,V.zero,GB,V.smul]
 rw[jA,jA] at key;refine mT (z8b hs hs) ?_;rw[<-key];apply V.ext'<;>simp only[V.smul,V.cross]<;>grind
end
def fQ(x:V)(q:Nat->Int)(l:List V)(i:Nat):V:=ko x q (pt l i)
def sV(n x:V)(q:Nat->Int)(l:List V)(i:Nat):V.dot n (fQ x q l i)=V.dot (ci q n) (pt l i)+ay q*V.dot n x:=by rw[<-jO];simp only[fQ,ko,V.dot,aF];grind
def xA(x:V)(q:Nat->Int)(l:List V)(i j:Nat):wy (fQ x q l) i j=aF q (wy (pt l) i j):=by apply V.ext'<;>simp only[wy,V.sub,fQ,ko,aF,co]<;>grind
def xq{n x:V}{q:Nat->Int}{l:List V}{i:Nat}(h:gJ (fQ x q l) l.length n i):gJ (pt l) l.length (ci q n) i:=⟨h.1,λk hk=>by have:=h.2 k hk;rw[sV,sV] at this;omega⟩
def EG{P:Nat->V}{N:Nat}{n:V}{i:Nat}(h:gJ P N n i):∀ k,k<N->V.dot n (wy P i k)<=0:=λk hk=>by have:=h.2 k hk;grind [bF]
def oV{P:Nat->V}{N:Nat}{n:V}{i j:Nat}(h:gJ P N n i)(k:gJ P N n j):V.dot n (wy P i j)=0:=by have:=h.2 j k.1;have:=k.2 i h.1;grind [bF]
def FU{n:V}(h:n≠V.zero):n.neg≠V.zero:=λe=>h (wL.1 e)
def vU{x n:V}{q:Nat->Int}(hq:ay q≠0){l:List V}(hl:Hul l){F:FL}{E:List (Nat×Nat)}(hF:Fac l F E)(u:n≠V.zero)(w:br n=1){i j k:Nat}(z:gJ (fQ x q l) l.length n i)(A:gJ (fQ x q l) l.length n j)(B:gJ (fQ x q l) l.length n k)(h3:dA (fQ x q l) i j k≠V.zero):n∈Jg q F:=by
 obtain⟨m0,d0,h0⟩:=hl.ex;have r:=qm hq u;have t1:=xq z;have t2:=xq A;have t3:=xq B;have hc:V.cross (wy (pt l) i j) (wy (pt l) i k)≠V.zero:=λh=>h3 (by show V.cross (wy (fQ x q l) i j) (wy (fQ x q l) i k)=V.zero;rw[xA,xA];exact qf h)
 obtain⟨f,d,hf,_,_,c,o,e⟩:=PD t1.1 t2.1 t3.1 r (EG t1) (lQ h0 i r) (oV t1 t2) (oV t1 t3) hc;obtain⟨s,p,m⟩:=zSa.1 ((hF.kn.facets.mem (f,d)).2 hf);refine zSa.2 ⟨s,p,?_⟩;rw[show s.1.1=f by rw[m]]
 have g:=ml q n;rw[e,jH] at g;have t:=Be hq hf.nz.1;have pm:=ge (aF q f);have C:=fD t;have y:0<ay q*ay q:=A6 hq;refine n7 (jB t) w (a:=c*br (aF q f)) (b:=ay q*ay q) (zGa o j1) y ?_
 rw[pm] at g;rw[<-g];have:∀ (a b:Int) (v:V),V.smul (a*b) v=V.smul a (V.smul b v):=λa b v=>by simp only[V.smul,Int.mul_assoc]
 rw[this,<-pm]
def BV{l:List V}(hl:Hul l){F:FL}{E:List (Nat×Nat)}(hF:Fac l F E){a b:Nat}(g:a<b)(h:∃ n d,IsF (pt l) l.length n d/\(vo (pt l) l.length n d a b\/vo (pt l) l.length n d b a)):(a,b)∈E:=by
 obtain⟨n1,d1,h1,h2⟩:=(vQ hl.srt).1 h;rw[hF.e,wE];refine⟨(aD.1 h2.1).1,(aD.1 h2.2.mem).1,g,?_⟩;obtain⟨i,c,f⟩:=zSa.1 ((hF.kn.facets.mem (n1,d1)).2 h1);obtain⟨j,k⟩:=hF.kn.fok.ok i c;rw[f] at j k;obtain⟨t,i1,i2,i3⟩:=(afF hl.srt j k).2 h2;refine z9b.2 ⟨i,c,z9b.2 ⟨t,z0a.2 i1,?_⟩⟩;unfold Ve
 simp_all
def yq{x n:V}{q:Nat->Int}(hq:ay q≠0){l:List V}(hl:Hul l){F:FL}{E:List (Nat×Nat)}(hF:Fac l F E)(y:n≠V.zero){i j:Nat}(A:gJ (fQ x q l) l.length n i)(B:gJ (fQ x q l) l.length n j)(g:wy (fQ x q l) i j≠V.zero)
  (o:∀ k,gJ (fQ x q l) l.length n k->dA (fQ x q l) i j k=V.zero):∃ e∈E,(np q l e=wy (fQ x q l) i j\/np q l e=(wy (fQ x q l) i j).neg):=by
 obtain⟨m0,d0,h0⟩:=hl.ex;have t:=qm hq y;have t1:=xq A;have t2:=xq B;rw[xA] at g ⊢;have m:wy (pt l) i j≠V.zero:=λh=>g (by rw[h];simp[aF,co,V.zero])
 have p:j≠i:=λh=>m (by rw[h,kL])
 have c:∀ k,k<l.length->V.dot (ci q n) (wy (pt l) i k)=0->V.cross (wy (pt l) i j) (wy (pt l) i k)=V.zero:=λk hk h=>by
  have C:gJ (fQ x q l) l.length n k:=⟨hk,λz w=>by have:=t1.2 z w;rw[bF] at h;rw[sV,sV];omega⟩
  have:=o k C;rw[show dA (fQ x q l) i j k=V.cross (wy (fQ x q l) i j) (wy (fQ x q l) i k) from rfl,xA,xA] at this;exact DF hq this
 obtain⟨f,d,hf,u,v⟩:=Pw t1.1 t2.1 m t (EG t1) (λhm=>lQ h0 i hm) (oV t1 t2) c;have s:=BU hl.srt hl.vtx hf u v p (EG t1) (oV t1 t2) c;have r:=λ{a b:Nat}=>BV hl hF (a:=a) (b:=b);rcases zAa i j with k|k
 ·refine⟨(i,j),r k ⟨f,d,hf,s⟩,.inl rfl⟩
 ·refine⟨(j,i),r j1 ⟨f,d,hf,s.symm⟩,.inr ?_⟩
  grind [np,aF,co,wy,V.sub,V.neg]
def CO{n c:V}(g:n≠V.zero)(f:br n=1)(d:c≠V.zero)(h:V.cross n c=V.zero):n=aR c\/n=(aR c).neg:=by
 have p:=AH h n;have nn:=z7 g;have gc:=fD d;have pm:=ge c;have sm:∀ (a b:Int) (v:V),V.smul (a*b) v=V.smul a (V.smul b v):=λa b v=>by simp only[V.smul,Int.mul_assoc]
 rcases zHb 0 (V.dot n c) with k|k|k
 ·left;refine n7 f (jB d) (a:=V.dot n c) (b:=V.dot n n*br c) k (zGa nn j1) ?_
  grind
 ·exfalso;rw[<-k] at p;exact d (mT (k:=V.dot n n) j1 (by rw[p];simp[V.smul,V.zero]))
 ·right;refine n7 f (by rw[q8];exact jB d) (a:=-V.dot n c) (b:=V.dot n n*br c) j1 (zGa nn j1) ?_
  have e:V.smul (V.dot n n*br c) (aR c).neg=(V.smul (V.dot n n*br c) (aR c)).neg:=by apply V.ext'<;>simp only[V.smul,V.neg]<;>grind
  rw[e,sm,<-pm,p];grind [V.smul,V.neg]
def dJ{a b:Int}(c:b≠0):(Rat.divInt a b).num*b=a*(Rat.divInt a b).den:=by have h:=zEb (Rat.divInt a b);exact(zLb (cT _) c).1 h
theorem fB{a b c d:Int}(i:0<b)(j:0<d):Rat.divInt a b<=Rat.divInt c d↔a*d<=c*b:=by
 have f:=dJ (a:=a) (b:=b) j1
 have g:=dJ (a:=c) (b:=d) j1
 have n:=(Rat.divInt a b).den_pos;have o:=(Rat.divInt c d).den_pos;rw[Rat.le_iff];generalize (Rat.divInt a b).num=x at *;generalize (Rat.divInt c d).num=y at *;obtain⟨u,hu⟩:∃ u:Int,((Rat.divInt a b).den:Int)=u:=⟨_,rfl⟩;obtain⟨v,l⟩:∃ v:Int,((Rat.divInt c d).den:Int)=v:=⟨_,rfl⟩;have m:0<u:=j1
 have v0:0<v:=j1
 rw[hu] at f ⊢;rw[l] at g ⊢;have bd:=zGa i j;have e:=zGa m v0;have k:(b*d)*(y*u-x*v)=(u*v)*(c*b-a*d):=by grind
 constructor
 ·intro h;have h1:=zdb (zpa bd) (show 0<=y*u-x*v by omega)
  rw[k] at h1;have:=oN e h1;omega
 ·intro h;have h1:=zdb (zpa e) (show 0<=c*b-a*d by omega)
  rw[<-k] at h1;have:=oN bd h1;omega
theorem D6(u:V)(L:List V):∀ k i,i<=k->V.dot u (pt L i)<=xD u L k
 | 0,i,h=>by rw[show i=0 by omega];exact zoc _
 | k+1,i,h=>by
  rw[rC];by_cases hi:i=k+1
  ·grind
  ·have:=D6 u L k i j1
   omega
theorem D5(u:V)(L:List V):∀ k,∃ i,i<=k/\xD u L k=V.dot u (pt L i)
 | 0=>⟨0,zka _,rfl⟩
 | k+1=>by
  rw[rC];split
  ·grind
  ·obtain⟨i,h1,h2⟩:=D5 u L k;grind
section
variable{x y:V}{q r:Nat->Int}{l m:List V}{F G:FL}{E E':List (Nat×Nat)}
def u5(h:PairOk x y q r l m)(u:V):¬ kG u x y q r l m<0↔∀ i j,i<l.length->j<m.length->ay r*V.dot u (fQ x q l i)<=ay q*V.dot u (fQ y r m j):=by
 have a:=(cJ h.pa.hq h.pa.h0).1;have b:=(cJ h.pb.hq h.pb.h0).1;have na:=h.na;have nb:=h.nb;have e:¬ kG u x y q r l m<0↔xD u (l.map (ko x q)) (l.length-1)*ay r<=-xD u.neg (m.map (ko y r)) (m.length-1)*ay q:=by unfold kG da;rw[Rat.not_lt,<-fB a b,<-Rat.neg_divInt];grind
 rw[e];constructor
 ·intro hm i j c d;have h1:=D6 u (l.map (ko x q)) (l.length-1) i j1
  have h2:=D6 u.neg (m.map (ko y r)) (m.length-1) j j1
  rw[AM _ c] at h1;rw[AM _ d,jM] at h2;have n:=zla h1 (zpa b);have g:=zla h2 (zpa a);rw[zKb] at g;rw[Int.neg_mul,zMa _ (ay r),zMa _ (ay q)] at hm;show ay r*V.dot u (ko x q (pt l i))<=ay q*V.dot u (ko y r (pt m j));omega
 ·intro hm;obtain⟨i,i1,i2⟩:=D5 u (l.map (ko x q)) (l.length-1);obtain⟨j,k,f⟩:=D5 u.neg (m.map (ko y r)) (m.length-1);have:=hm i j j1 j1
  rw[i2,f,AM _ (show i<l.length by omega),AM _ (show j<m.length by omega),jM,Int.neg_neg,zMa,zMa _ (ay q)]
  exact this
def Rt(h:PairOk x y q r l m)(hl:Hul l)(hm:Hul m)(hF:Fac l F E)(hG:Fac m G E'){u:V}(S:u≠V.zero)(hu:¬ kG u x y q r l m<0):(fX x y q r l m (xS q r l m F G E E')).2.isSome=true:=by
 have Q:=(cJ h.pa.hq h.pa.h0).1;have R:=(cJ h.pb.hq h.pb.h0).1;have D:ay q≠0:=j1
 have K:ay r≠0:=j1
 obtain⟨m0,d0,h0⟩:=hl.ex;obtain⟨n,d,p,J,hc⟩:=sat (A:=fQ x q l) (B:=fQ y r m) (Na:=l.length) (Nb:=m.length) (s:=ay q) (t:=ay r) Q R h.na h.nb (λ{v} N i M=>by obtain⟨k,hk,g⟩:=lQ h0 i (qm D N);exact⟨k,hk,by rw[xA,jO];exact g⟩) S ((u5 h u).1 hu)
 have nz:=FU d;have C:br n.neg=1:=by rw[q8];exact p
 have I:¬ kG n.neg x y q r l m<0:=(u5 h n.neg).2 λi j M Y=>by simp_all [jM,zKb]
 have fin:n.neg∈xS q r l m F G E E'->(fX x y q r l m (xS q r l m F G E E')).2.isSome=true:=λZ=>by obtain⟨m1,m2⟩:=Kv (mg:=λu=>kG u x y q r l m) (vl:=λu=>Bn u x y q r l m) (xS q r l m F G E E');grind [fX]
 refine fin ?_;by_cases cb:∃ i j k,gJ (fQ y r m) m.length n i/\gJ (fQ y r m) m.length n j/\gJ (fQ y r m) m.length n k/\dA (fQ y r m) i j k≠V.zero
 ·obtain⟨i,j,k,t1,t2,t3,h3⟩:=cb;exact List.mem_append_left _ (zPa _ (zSa.2 ⟨n,vU K hm hG d p t1 t2 t3 h3,rfl⟩))
 by_cases ca:∃ i j k,gJ (fQ x q l) l.length n.neg i/\gJ (fQ x q l) l.length n.neg j/\gJ (fQ x q l) l.length n.neg k/\dA (fQ x q l) i j k≠V.zero
 ·obtain⟨i,j,k,t1,t2,t3,h3⟩:=ca;exact List.mem_append_left _ (List.mem_append_left _ (vU D hl hF nz C t1 t2 t3 h3))
 rcases hc with hc|hc|⟨i,j,k,o,t1,t2,t3,t4,hx⟩
 ·grind
 ·grind
 ·have w1:wy (fQ y r m) i j≠V.zero:=λe=>hx (by rw[e];apply V.ext'<;>simp[V.cross,V.zero])
  have T:wy (fQ x q l) k o≠V.zero:=λe=>hx (by rw[e];apply V.ext'<;>simp[V.cross,V.zero])
  obtain⟨f,hf,b⟩:=yq K hm hG d t1 t2 w1 λz H=>Classical.byContradiction λc=>cb ⟨i,j,z,t1,t2,H,c⟩;obtain⟨e,he,a⟩:=yq D hl hF nz t3 t4 T λz H=>Classical.byContradiction λc=>ca ⟨k,o,z,t3,t4,H,c⟩;have d1:=oV t1 t2;have d2:=oV t3 t4;rw[jM] at d2;have O:V.dot n (np r m f)=0:=by
   rcases b with b|b
   ·simp_all
   ·rw[b,show ∀ w:V,V.dot n w.neg=-V.dot n w from λw=>by simp only[V.dot,V.neg];grind];omega
  have P:V.dot n (np q l e)=0:=by
   rcases a with a|a
   ·rw[a];omega
   ·rw[a,show ∀ w:V,V.dot n w.neg=-V.dot n w from λw=>by simp only[V.dot,V.neg];grind];omega
  have L:V.cross (np q l e) (np r m f)≠V.zero:=λc=>hx (by have U:=zna V.x c;have W:=zna V.y c;have X:=zna V.z c;rcases b with b|b<;>rcases a with a|a<;>rw[b,a] at U W X<;>(apply V.ext'<;>simp only[V.cross,V.neg,V.zero] at *<;>grind))
  have pp:=CO d p L (ff P O);refine zPa _ (zUa.2 ⟨e,he,zUa.2 ⟨f,hf,?_⟩⟩);rcases pp with pp|pp
  ·rw[pp];simp
  ·rw[pp,Ri];simp
end
def Fe(X:Int){D:Int}(h:0<D):((Rat.divInt X D).den:Int) ∣ D:=by
 have h2:=(z8 X (show D≠0 by omega)).2
 obtain⟨k,hk⟩:=h2;exact⟨k,j1⟩
def lj{X Y D:Int}{p q:Nat}(A:X.natAbs<=2^p)(B:Y.natAbs<=2^p)(z:D.natAbs<=2^q)(h0:0<D)(hp:p<=500)(hq:q<=500):addW (some (Rat.divInt X D)) (some (Rat.divInt Y D))=some (Rat.divInt (X+Y) D):=by
 have ex:=dJ (a:=X) (b:=D) j1
 have s:=dJ (a:=Y) (b:=D) j1
 have l:=Fe X h0;have m:=Fe Y h0;have n:Rat.divInt X D+Rat.divInt Y D=Rat.divInt (X+Y) D:=by rw[zFc _ _ j1 j1,<-Int.add_mul,Rat.divInt_mul_right j1]
 obtain⟨g,a,b,C,t,h,f,a0,G,o,r⟩:=De (Rat.divInt X D) (Rat.divInt Y D);generalize Rat.divInt X D=x at *;generalize Rat.divInt Y D=y at *;have ld:((x.den:Nat):Int)*b ∣ D:=by
  have h1:x.den ∣ D.natAbs:=z6a.1 l;have h2:y.den ∣ D.natAbs:=z6a.1 m;have h3:=Nat.lcm_dvd h1 h2;have w:Nat.lcm x.den y.den=x.den*b:=by
   unfold Nat.lcm;rw[<-C]
   conv=>lhs;rw[f]
   rw[<-z8a,zRa x.den g,z8a,Nat.mul_div_cancel_left _ t]
  rw[w] at h3;rw[<-zYa];exact z6a.2 h3
 obtain⟨e,he⟩:=ld;have H:0<e:=by
  have:0<(x.den:Int)*b:=zGa (by have:=x.den_pos;omega) j1
  exact iC this (by rw[<-he];exact h0)
 have I:(0:Int)<x.den:=by have:=x.den_pos;omega
 have J:(0:Int)<y.den:=by have:=y.den_pos;omega
 have c:(y.den:Int)*a=x.den*b:=by rw[h,f,zYa,zYa];grind
 have E:x.num*b*e=X:=by
  have:(x.den:Int)*(x.num*b*e)=x.den*X:=by rw[zMa _ X,<-ex,he];grind
  exact Int.eq_of_mul_eq_mul_left j1 this
 have F:y.num*a*e=Y:=by
  have:(y.den:Int)*(y.num*a*e)=y.den*Y:=by rw[zMa _ Y,<-s,he,<-c];grind
  exact Int.eq_of_mul_eq_mul_left j1 this
 have small:∀ {u v:Int} {k:Nat},u*e=v->v.natAbs<=2^k->u.natAbs<=2^k:=λ{u v k} h1 h2=>by
  have:u.natAbs*e.natAbs=v.natAbs:=by rw[<-h1,zLa]
  have h3:u.natAbs*1<=u.natAbs*e.natAbs:=zeb _ j1
  omega
 have i:=small E A;have j:=small F B;have i1:In (x.num*b):=fj j1 i
 have i2:In (y.num*a):=fj j1 j
 have i3:In (x.num*b+y.num*a):=fj (k:=p+1) j1 (cG i j)
 have i4:In ((a:Int)*y.den):=fj (k:=q) j1 (small (v:=D) (by rw[zMa (a:Int),c,<-he]) z)
 have d:(a:Int)*y.den≠0:=z8b j1 j1
 simp only[addW,Bq,o,r];rw[ju i1,ju i2,zL i3,ju i4];simp only[lK];rw[zia d,tJ h f d,n]
def Fac.small{l:List V}{F:FL}{E:List (Nat×Nat)}(h:Fac l F E)(hl:l.length<=10):F.length<=2000/\E.length<=100:=by
 constructor
 ·have nd:(F.map Prod.fst).Nodup:=by
   refine zyd.2 (h.kn.fok.ord.imp λ{a b} d e=>?_);rw[e] at d;exact lI _ d
  have:=z4b (l₂:=yb l) nd λq hq=>by obtain⟨f,hf,rfl⟩:=zSa.1 hq;exact yC (h.kn.fok.ok f hf).1
  rw[zxa] at this;refine zHa this ?_;unfold yb;rw[kW (c:=l.length*(l.length*2)) _ (λi _=>by rw[kW (c:=l.length*2) _ (λj _=>by rw[kW (c:=2) _ (λk _=>rfl),zxb]),zxb]),zxb]
  have a1:l.length*2<=20:=j1
  have a2:l.length*(l.length*2)<=10*20:=z9a hl a1;exact z9a hl a2
 ·rw[h.e];exact zHa (Bs _ _ _) (z9a hl hl)
def y6{a b:Option Rat}{z:Rat}(h:mulW a b=some z):∃ x y,a=some x/\b=some y/\z=x*y:=by
 cases a with
 | none=>simp only[mulW] at h;cases h
 | some x=>cases b with
  | none=>simp only[mulW] at h;cases h
  | some y=>exact⟨x,y,rfl,rfl,JY h⟩
def sj{a b:Option Rat}{z:Rat}(h:addW a b=some z):∃ x y,a=some x/\b=some y/\z=x+y:=by
 cases a with
 | none=>simp only[addW] at h;cases h
 | some x=>cases b with
  | none=>simp only[addW] at h;cases h
  | some y=>exact⟨x,y,rfl,rfl,Il h⟩
def HC{a b:Option Rat}{z:Rat}(h:A7 a b=some z):∃ x y,a=some x/\b=some y/\z=x+-y:=by
 obtain⟨x,y,h1,h2,h3⟩:=sj h;cases b with
 | none=>cases h2
 | some w=>cases h2;exact⟨x,w,h1,rfl,h3⟩
def BR:Rat:=((4611686018427387904:Int):Rat)
def HH(v:Rat):Prop:=-BR<=v/\v<=BR
def Nu(p:WV):Prop:=tR p/\∀ i,∀ v,p i=some v->HH v
def KS{X s:Int}(b:-4611686018427387904<=X/\X<=4611686018427387904)(hs:0<s):HH (Rat.divInt X s):=by
 have e:BR=Rat.divInt 4611686018427387904 1:=by rw[div_one];rfl
 have a:-BR=Rat.divInt (-4611686018427387904) 1:=by rw[e,Rat.neg_divInt]
 constructor
 ·rw[a,fB j2 hs];omega
 ·grind [fB,decide]
def KU{a b t:Rat}(c:HH a)(d:HH b)(h0:0<t)(h1:t<1):HH (a+t*(b+-a)):=by
 have e:0<=t:=Rat.le_of_lt h0;have f:0<=1-t:=x6
 have m1:=Rat.mul_nonneg f (show 0<=BR-a by have:=c.2;grind)
 have m2:=Rat.mul_nonneg e (show 0<=BR-b by have:=d.2;grind)
 have m3:=Rat.mul_nonneg f (show 0<=BR+a by have:=c.1;grind)
 have m4:=Rat.mul_nonneg e (show 0<=BR+b by have:=d.1;grind)
 constructor
 ·grind
 ·grind
def zh{x:V}{q:Nat->Int}(h:PoseOk x q){l:List V}(hl:∀ v∈l,bd 4096 v){k:Nat}(hk:k<l.length):Nu (rG x q l k):=by refine⟨Rl h hl hk,λi v a=>?_⟩;cases a;have b:=wS h (hl _ (fW hk));refine KS ?_ (cJ h.hq h.h0).1;grind [bd,PB,aJ]
def TZ{x:Rat}(h:sg x.num>0):0<x:=by
 have h1:¬ x.num<0:=λhn=>by rw[xe hn] at h;omega
 have h2:x.num≠0:=λhn=>by rw[hn] at h;revert h;decide
 rw[Rat.lt_iff];simp;omega
def fd(L:List WV):(L.map a8).length=L.length:=zxa ..
section
variable{x y:V}{q r:Nat->Int}{l m:List V}{F G:FL}{E E':List (Nat×Nat)}
def Aj(x y:V)(q r:Nat->Int)(F G:FL)(p:WV):Bool:=decide (eI x q F p ≥ 0)&&decide (eI y r G p ≥ 0)
def PJ(n:Nat)(h:PairOk x y q r l m)(hF:Fac l F E)(hG:Fac m G E'){p:WV}(hp:tR p):∃ e:Int,cA (n+1036) 423 [cL x q,cl l,a8 p]=some (I e)/\(if decide (e ≥ 0)=true then (D.get (ga y r m) [0]).bind λb=>(D.get (ga y r m) [1]).bind λc=>(cA (n+1036) 423 [b,c,a8 p]).bind λa=>(afn .geq a (D.int .i64 0)).bind λd=>D.truth d else some false)=some (Aj x y q r F G p):=by
 refine⟨_,NM n h.pa hF.fb hF.h18 hp,?_⟩;unfold Aj;by_cases hz:eI x q F p ≥ 0
 ·rw[zha hz,zqb];exact dT (j0 (cL y r) (j0 (cl m) (aa (NM n h.pb hG.fb hG.h18 hp) (aa fR ac))))
 ·grind
def jn(x y:V)(q r:Nat->Int)(F G:FL)(p:WV):List WV:=if Aj x y q r F G p=true then[p] else[]
def u4{x y:V}{q r:Nat->Int}{F G:FL}{p:WV}(h:Aj x y q r F G p=true):jn x y q r F G p=[p]:=zja h
def Fz{x y:V}{q r:Nat->Int}{F G:FL}{p:WV}(h:Aj x y q r F G p=false):jn x y q r F G p=[]:=zia (by rw[h];decide)
def O6(x:V)(q:Nat->Int)(l:List V)(e:Nat×Nat):WV:=dN (rG x q l e.2) (rG x q l e.1)
def xh(x:V)(q r:Nat->Int)(l:List V)(e:Nat×Nat)(f:(V×Int)×List Nat):Option Rat:=pV (kq (aF r f.1.1)) (O6 x q l e)
def qy(x y:V)(q r:Nat->Int)(l:List V)(e:Nat×Nat)(f:(V×Int)×List Nat):Option Rat:=vN (A7 (some ((ay r*f.1.2:Int):Rat)) (pV (kq (aF r f.1.1)) (dN (rG x q l e.1) (kq y)))) (xh x q r l e f)
def I2(x y:V)(q r:Nat->Int)(l:List V)(e:Nat×Nat)(f:(V×Int)×List Nat):WV:=ui (rG x q l e.1) (ED (qy x y q r l e f) (O6 x q l e))
def nM(x y:V)(q r:Nat->Int)(l:List V)(F G:FL)(e:Nat×Nat)(f:(V×Int)×List Nat):List WV:=
 if C6 (xh x q r l e f)=0 then[] else if(decide (C6 (qy x y q r l e f)>0)&&decide (gt (qy x y q r l e f) (some ((1:Int):Rat))<0))=true then jn x y q r F G (I2 x y q r l e f) else[]
def lN(x y:V)(q r:Nat->Int)(l:List V)(F G:FL)(E:List (Nat×Nat)):List WV:=
 (List.range l.length).flatMap (λk=>jn x y q r F G (rG x q l k))++E.flatMap λe=>G.flatMap λf=>nM x y q r l F G e f
def oJ{x y:V}{q r:Nat->Int}{F G:FL}{p:WV}:(jn x y q r F G p).length<=1:=by unfold jn;split<;>simp
def BK{e:Nat×Nat}{f:(V×Int)×List Nat}:(nM x y q r l F G e f).length<=1:=by
 unfold nM;split
 ·simp
 ·split
  ·exact oJ
  ·simp
def to{x y:V}{q r:Nat->Int}{F G:FL}{p w:WV}(h:w∈jn x y q r F G p):w=p:=by all_goals simp_all [jn]
def I3(h:PairOk x y q r l m){e:Nat×Nat}(he:e.1<l.length/\e.2<l.length){f:(V×Int)×List Nat}(d:(decide (C6 (qy x y q r l e f)>0)&&decide (gt (qy x y q r l e f) (some ((1:Int):Rat))<0))=true):Nu (I2 x y q r l e f):=by
 simp only[zaa,zfa] at d;have z:=zh h.pa h.la he.1;have A:=zh h.pa h.la he.2;refine⟨λi=>kr _ _,λj v u=>?_⟩;obtain⟨a,b,h3,n,rfl⟩:=sj u;obtain⟨t,w,o,p,rfl⟩:=y6 n;rw[o] at d;have t1:t<1:=by all_goals grind [kA]
 have c:A7 (rG x q l e.2 j) (rG x q l e.1 j)=some w:=p;obtain⟨k,a1,s,g,rfl⟩:=HC c;rw[h3] at g;cases g;exact KU (z.2 j a h3) (A.2 j k s) (TZ d.1) t1
def Av(h:PairOk x y q r l m)(hF:Fac l F E):∀ p∈lN x y q r l F G E,Nu p:=λp hp=>by
 rcases List.mem_append.1 hp with hp|hp
 ·obtain⟨k,hk,hp⟩:=zUa.1 hp;rw[to hp];exact zh h.pa h.la (z0a.1 hk)
 ·obtain⟨e,he,hp⟩:=zUa.1 hp;obtain⟨f,hf,hp⟩:=zUa.1 hp;unfold nM at hp;split at hp
  ·cases hp
  ·split at hp
   ·rename_i a;rw[to hp];exact I3 h (hF.lt e he) a
   ·cases hp
def rt(h:PairOk x y q r l m)(hF:Fac l F E)(hG:Fac m G E'):(lN x y q r l F G E).length<=300000:=by
 obtain⟨sF,b⟩:=hF.small h.ta;obtain⟨c,a⟩:=hG.small h.tb;have ta:=h.ta;unfold lN;rw[zwa];have a1:=jQ (E:=List.range l.length) (g:=λk=>jn x y q r F G (rG x q l k)) (k:=1) (λ_ _=>oJ);have a2:=jQ (E:=E) (g:=λe=>G.flatMap λf=>nM x y q r l F G e f) (k:=2000) (λe _=>by have:=jQ (E:=G) (g:=λf=>nM x y q r l F G e f) (k:=1) (λ_ _=>BK);omega)
 grind
def Po(n:Nat)(h:PairOk x y q r l m)(hF:Fac l F E)(hG:Fac m G E'):cA (n+1037) 443 [ga x q l,ga y r m]=some (.sl ((lN x y q r l F G E).map a8)):=by
 obtain⟨sF,sE⟩:=hF.small h.ta;obtain⟨Y,X⟩:=hG.small h.tb;have ta:=h.ta;rw[ab0];delta Nd qG qB qC qT qS qX qP qV qW qZ iL iR Jn;refine aa (z:=(lN x y q r l F G E).map a8) ?_ rfl;refine j0 (bu (l.map (ko x q))) (j0 ((l.map (ko x q)).map ae) ?_);have P:((l.map (ko x q)).map ae).length=l.length:=j3
 refine cr (λk s=>s=[I (k:Int),.sl (((List.range k).flatMap λk=>jn x y q r F G (rG x q l k)).map a8)]) l.length 0 (zqa _) rfl (λk hk s c=>?_) (λs c=>?_)
 ·subst c;left;refine⟨_,?_,rfl⟩;have W:=zh h.pa h.la hk;obtain⟨Z,v,w⟩:=PJ n h hF hG W.1;have O:=jQ (E:=List.range k) (g:=λk=>jn x y q r F G (rG x q l k)) (k:=1) (λ_ _=>oJ);rw[zxb] at O;rw[zkc,List.flatMap_append,List.flatMap_cons,List.flatMap_nil,zzb];generalize (List.range k).flatMap (λk=>jn x y q r F G (rG x q l k))=L at *;refine aa am (aa ac (aK (by rw[P];omega) (aa (Qy (n+4) h.pa h.la hk) (j0 (cL x q) (j0 (cl l) (aa v (aa fR (aa ac (aa w (aa ac ?_))))))))))
  cases hb:Aj x y q r F G (rG x q l k) with
  | true=> rw[u4 hb];exact dT ((zja (by show(L.map a8).length+1<=_;rw[fd];omega)).trans (aa (aH (a:=k) (b:=1) j1) (by rw[zXb];rfl)))
  | false=> rw[Fz hb,zzb];exact jD (aa (aH (a:=k) (b:=1) j1) rfl)
 ·subst c;refine⟨_,aa am (aa ac (aO (by rw[P];omega) rfl)),?_⟩
  obtain⟨L0,d⟩:∃ L0,(List.range l.length).flatMap (λk=>jn x y q r F G (rG x q l k))=L0:=⟨_,rfl⟩;have l0:=jQ (E:=List.range l.length) (g:=λk=>jn x y q r F G (rG x q l k)) (k:=1) (λ_ _=>oJ);rw[zxb,d] at l0;unfold lN;rw[d];refine j0 (cl m) (aa (hG.h18 (n+1028)) (j0 (cl l) (aa (hF.h21 (n+1027)) (j0 (E.map jq) ?_))));refine cr (λi s=>s=[I (i:Int),.sl ((L0++(E.take i).flatMap λe=>G.flatMap λf=>nM x y q r l F G e f).map a8)]) E.length 0 (zqa _) (by rw[List.take_zero,List.flatMap_nil,zzb];rfl) (λi o s c=>?_) (λs c=>?_)
  ·subst c;left;refine⟨_,?_,rfl⟩;obtain⟨h1,h2⟩:=hF.lt E[i] (zBa o);have u:=zh h.pa h.la h1;have Q:=zh h.pa h.la h2;have ow:=oM (rG x q l E[i].2) (rG x q l E[i].1);have N:∀ (e:Nat×Nat) (M:FL),M.length<=2000->(M.flatMap λf=>nM x y q r l F G e f).length<=2000:=λe M hM=>by
    have:=jQ (E:=M) (g:=λf=>nM x y q r l F G e f) (k:=1) (λ_ _=>BK);omega
   have O:=jQ (E:=E.take i) (g:=λe=>G.flatMap λf=>nM x y q r l F G e f) (k:=2000) (λe _=>N e G Y);have:(E.take i).length*2000<=100*2000:=zIa _ (by rw[zkb];omega)
   rw[oF _ o,<-zTa];obtain⟨L1,A⟩:∃ L1,L0++(E.take i).flatMap (λe=>G.flatMap λf=>nM x y q r l F G e f)=L1:=⟨_,rfl⟩;have l1:L1.length<=200010:=x6
   rw[A];refine aa am (aa ac (aK (by rw[lM];omega) (j0 (E.map jq) (aa (z:=i) (by rw[lM];exact aq o) (aa (TE o) ?_)))))
   refine j0 (I (E[i].1:Int)) (aa (Qy (n+4) h.pa h.la h1) (j0 (I (E[i].2:Int)) (aa (Qy (n+4) h.pa h.la h2) (aa (Qv (n+3) Q.1 u.1) (j0 (aZ G) ?_)))));obtain⟨e,T⟩:∃ e,E[i]=e:=⟨_,rfl⟩;rw[T] at h1 h2 u Q ow ⊢;refine cr (λk s=>s=[I (k:Int),.sl ((L1++(G.take k).flatMap λf=>nM x y q r l F G e f).map a8)]) G.length 0 (zqa _) (by rw[List.take_zero,List.flatMap_nil,zzb];rfl) (λk hk s c=>?_) (λs c=>?_)
   ·subst c;left;refine⟨_,?_,rfl⟩;obtain⟨g1,g2⟩:=hG.fb.2 G[k] (zBa hk);have J:=rT h.pb.hq (Bt g1);have hy:∀ i,inR (aJ y i):=jT (by have:=h.pb.hx;simp only[bd] at this;simp only[inR];omega) (by have:=h.pb.hx;simp only[bd] at this;simp only[inR];omega) (by have:=h.pb.hx;simp only[bd] at this;simp only[inR];omega)
    have sk:=AX h.pb g2;have lk:=N e (G.take k) (by rw[zkb];omega)
    rw[oF _ hk,<-zTa];obtain⟨L,S⟩:∃ L,L1++(G.take k).flatMap (λf=>nM x y q r l F G e f)=L:=⟨_,rfl⟩;have V:L.length<=202010:=x6
    rw[S];refine aa am (aa ac (aK (by rw[bh];omega) (aa (z:=(0,[.sl ((L++nM x y q r l F G e G[k]).map a8)])) ?_ (aa (aH (a:=k) (b:=1) j1) rfl))))
    obtain⟨f,U⟩:∃ f,G[k]=f:=⟨_,rfl⟩;have K:=fg hk;rw[U] at g1 g2 J sk K ⊢;refine j0 (aZ G) (aa (z:=k) (by rw[bh];exact aq hk) (aa K (j0 (gZ r) (j0 (ae f.1.1) (aa (z:=ae (aF r f.1.1)) (E6 (n+1033) h.pb.hq (Bt g1)) (aa (QC (n+2) J ow) ?_))))))
    have j:OW (xh x q r l e f):=uZ _ _;unfold nM;rw[show pV (kq (aF r f.1.1)) (dN (rG x q l e.2) (rG x q l e.1))=xh x q r l e f from rfl];refine aa (Qo (n+5) j) (aa (z:=decide (C6 (xh x q r l e f)=0)) (by rw[show D.beq (I (C6 (xh x q r l e f))) (D.int .i64 0)=decide (C6 (xh x q r l e f)=0) from bY];exact ac) ?_)
    by_cases hs0:C6 (xh x q r l e f)=0
    ·rw[zja hs0,zzb];exact aK hs0 rfl
    rw[zia hs0];refine aO hs0 ?_;have of:=Gi (some ((ay r*f.1.2:Int):Rat)) (pV (kq (aF r f.1.1)) (dN (rG x q l e.1) (kq y)));refine j0 (I (ay r)) (j0 (I f.1.2) (aa (bK sk) (aa (Pp (n+4) sk) (j0 (ae y) (aa (E2 (n+3) hy) (aa (Qv (n+3) u.1 (tO hy)) (aa (QC (n+2) J (oM _ _)) ?_)))))));refine aa (Pj (n+4) (a:=some ((ay r*f.1.2:Int):Rat)) (bS (tP (bC sk))) (uZ _ _)) (aa (IH (n+4) of j) ?_);rw[show vN (A7 (some ((ay r*f.1.2:Int):Rat)) (pV (kq (aF r f.1.1)) (dN (rG x q l e.1) (kq y)))) (xh x q r l e f)=qy x y q r l e f from rfl];have H:OW (qy x y q r l e f):=Fi _ _;have R:=I3 h (e:=e) ⟨h1,h2⟩ (f:=f);have B:ui (rG x q l e.1) (ED (qy x y q r l e f) (dN (rG x q l e.2) (rG x q l e.1)))=I2 x y q r l e f:=rfl;generalize I2 x y q r l e f=p at *;generalize qy x y q r l e f=t at *;refine aa (Qo (n+5) H) (aa cK (aa ac ?_));have C:=IM (n+5) H (bS (tP (bC (dO 1))));refine aa (z:=decide (C6 t>0)&&decide (gt t (some ((1:Int):Rat))<0)) (by
     by_cases h1:C6 t>0
     ·rw[zha h1,zqb];exact dT (aa (Pp (n+4) (dO 1)) (aa C (aa am ac)))
     ·rw[zca h1];rfl) (aa ac ?_)
    cases hb:(decide (C6 t>0)&&decide (gt t (some ((1:Int):Rat))<0)) with
    | false=>rw[zia j2,zia j2,zzb];rfl
    | true=>
     rw[zja rfl,zja rfl];obtain⟨Z,v,w⟩:=PJ n h hF hG (R hb).1;refine aa (Tf (n+4) H ow) (aa (Pm (n+4) u.1 (Gl _ _)) ?_);rw[B];refine j0 (cL x q) (j0 (cl l) (aa v (aa fR (aa ac (aa w (aa ac ?_))))));cases hq:Aj x y q r F G p with
     | true=> rw[u4 hq];exact dT ((zja (by show(L.map a8).length+1<=_;rw[fd];omega)).trans (by rw[zXb];rfl))
     | false=>rw[Fz hq,zzb];rfl
   ·subst c;refine⟨_,aa am (aa ac (aO (by rw[bh];omega) rfl)),?_⟩
    rw[zgb (zka _)];exact aa (aH (a:=i) (b:=1) j1) rfl
  ·subst c;refine⟨_,aa am (aa ac (aO (by rw[lM];omega) rfl)),?_⟩
   rw[zgb (zka _)];rfl
end
def wD{α:Type}{body:Bd}{s s':List D}{k:Nat×List D->Option α}{Y:α->Prop}(h:body s=some (.inl s'))(hk:∃ y,(aU body s').bind k=some y/\Y y):∃ y,(aU body s).bind k=some y/\Y y:=by
 have:aU body s=aU body s':=dq h
 simp_all
def On{α:Type}{body:Bd}{s:List D}{r:Nat×List D}{k:Nat×List D->Option α}{Y:α->Prop}(h:body s=some (.inr r))(hk:∃ y,k r=some y/\Y y):∃ y,(aU body s).bind k=some y/\Y y:=by
 have:aU body s=some r:=de h
 simp_all
def Y5(k i:Nat)(s:WV):Prop:=tR s/\∀ c v,s c=some v->∃ Z:Int,v=Rat.divInt Z (2^k)/\Z.natAbs<=i*(4611686018427387904*2^k)
def Pv{k:Nat}{a:Option Rat}(f:∀ v,a=some v->HH v){w:Rat}(h:uH k a=some w):∃ Z:Int,w=Rat.divInt Z (2^k)/\Z.natAbs<=4611686018427387904*2^k:=by
 cases a with
 | none=>cases h
 | some v=>
  obtain⟨v1,v2⟩:=f v rfl;unfold uH at h;rw[zba] at h;cases hn:eN (v.num*2^k) with
  | none=>rw[hn] at h;cases h
  | some s=>
   rw[hn] at h;cases h;have es:s=v.num*2^k:=by all_goals simp_all [eN]
   refine⟨_,rfl,?_⟩;have b:(0:Int)<v.den:=by have:=v.den_pos;omega
   have c:(0:Int)<2^k:=zbd j2
   have e:v.num<=4611686018427387904*v.den:=by
    have:=(Rat.le_iff v BR).1 v2
    simp_all [BR]
   have d:-(4611686018427387904*(v.den:Int))<=v.num:=by have:=(Rat.le_iff (-BR) v).1 v1;simp[BR] at this;omega
   have h1:s<=(4611686018427387904*2^k)*v.den:=by rw[es];have:=z6b e (zpa c);grind
   have h2:(-(4611686018427387904*2^k))*v.den<=s:=by rw[es];have:=z6b d (zpa c);grind
   have g:s/v.den<=4611686018427387904*2^k:=by
    have:=Int.ediv_le_ediv b h1
    rwa [Int.mul_ediv_cancel _ j1] at this
   have i:-(4611686018427387904*2^k)<=s/v.den:=(Int.le_ediv_iff_mul_le b).2 h2;grind
structure MeanB(m:WV)(D:Int)(a b:Nat):Prop where
 ow:tR m
 pos:0<D
 la:a<=260
 lb:b<=322
 le:D.natAbs<=2^a
 ex:∀ c v,m c=some v->∃ Z:Int,v=Rat.divInt Z D/\Z.natAbs<=2^b
def EB(k:Nat)(L:List WV):Nat->WV
 | 0=>kq V.zero
 | i+1=>ui (EB k L i) λc=>uH k (L.getD i (kq V.zero) c)
def ug(k:Nat)(L:List WV):WV:=ED (some (Rat.divInt 1 ((L.length:Nat):Int))) (EB k L L.length)
def BJ:Nat->Nat
 | 0=>20
 | 1=>60
 | 2=>120
 | _=>240
def Vh:D:=D.st [D.st [D.st [D.bool false,D.bool false,aw bc],D.st [D.bool false,D.bool false,aw bc]],D.st [D.st [D.bool false,D.bool false,aw bc],D.st [D.bool false,D.bool false,aw bc]],D.st [D.st [D.bool false,D.bool false,aw bc],D.st [D.bool false,D.bool false,aw bc]]]
def Iw(x y:V)(q r:Nat->Int)(F G:FL)(p:WV):Prop:=eI x q F p=1/\eI y r G p=1
section
variable{x y:V}{q r:Nat->Int}{l m:List V}{F G:FL}{E E':List (Nat×Nat)}
def lc(x y:V)(q r:Nat->Int)(l m:List V)(F G:FL)(E E':List (Nat×Nat)):List WV:=lN x y q r l F G E++lN y x r q m G F E'
def Pn(n:Nat)(h:PairOk x y q r l m)(hF:Fac l F E)(hG:Fac m G E'):∃ (d:D) (b:Bool),cA (n+1038) 425 [cL x q,cl l,cL y r,cl m]=some (.tup [d,.bool b])/\(b=true->∃ (p:WV) (K:Int) (a b:Nat),d=a8 p/\MeanB p K a b/\eI x q F p=1/\eI y r G p=1)/\(b=false->d=Vh/\((lc x y q r l m F G E E').length<4\/∀ j,j<4->¬ Iw x y q r F G (ug (BJ j) (lc x y q r l m F G E E')))):=by
 suffices hs:∃ d,cA (n+1038) 425 [cL x q,cl l,cL y r,cl m]=some d/\∃ (d':D) (b:Bool),d=.tup [d',.bool b]/\(b=true->∃ (p:WV) (K:Int) (a b:Nat),d'=a8 p/\MeanB p K a b/\eI x q F p=1/\eI y r G p=1)/\(b=false->d'=Vh/\((lc x y q r l m F G E E').length<4\/∀ j,j<4->¬ Iw x y q r F G (ug (BJ j) (lc x y q r l m F G E E')))) by grind
 rw[abO];delta MU qB qC qT qS qX qJ qV qW qZ iL iR Jn;have U:=Po n h hF hG;have W:=Po n h.swap hG hF;have S:=Av (F:=F) (G:=G) h hF;have T:=Av (F:=G) (G:=F) h.swap hG;have n1:=rt h hF hG;have n2:=rt h.swap hG hF;refine ap (GF (n+1033) h.pa h.la h.ka) (ap (GF (n+1033) h.pb h.lb h.kb) (ap U (ap (z:=(lN x y q r l F G E).map a8) rfl (ap W (ap (z:=(lN y x r q m G F E').map a8) rfl ?_)))));obtain⟨Zv,C⟩:∃ Zv,Vh=Zv:=⟨_,rfl⟩;rw[show D.st [D.st [D.st [D.bool false,D.bool false,aw bc],D.st [D.bool false,D.bool false,aw bc]],D.st [D.st [D.bool false,D.bool false,aw bc],D.st [D.bool false,D.bool false,aw bc]],D.st [D.st [D.bool false,D.bool false,aw bc],D.st [D.bool false,D.bool false,aw bc]]]=Zv from C,C,zja (by rw[fd,fd];omega),<-zXb]
 have bL:∀ p∈lc x y q r l m F G E E',Nu p:=λp hp=>(List.mem_append.1 hp).elim (S p) (T p);have nL:(lc x y q r l m F G E E').length<=600000:=by unfold lc;rw[zwa];omega
 rw[show lN x y q r l F G E++lN y x r q m G F E'=lc x y q r l m F G E E' from rfl];generalize lc x y q r l m F G E E'=L at *;clear U W S T n1 n2;refine ap am (ap ac ?_);by_cases h4:(((L.map a8).length:Nat):Int)<4
 ·exact gj h4 ⟨_,rfl,Zv,false,rfl,λh=>(by cases h),λ_=>⟨rfl,.inl (by rw[fd] at h4;omega)⟩⟩
 refine uU h4 ?_;have l4:4<=L.length:=x6
 refine nh (λj s=>s=[.sl (L.map a8),.sl [I 20,I 60,I 120,I 240],I (j:Int),Zv]/\∀ i,i<j->¬ Iw x y q r F G (ug (BJ i) L)) 4 0 (zqa _) ⟨rfl,λi w=>z4a w (Nat.not_lt_zero _)⟩ (λj hj s o=>?_) (λs o=>?_)
 ·obtain⟨rfl,u⟩:=o;obtain⟨k,hk,ek,O⟩:∃ k,IY k/\([I 20,I 60,I 120,I 240]:List D)[j]?=some (I (k:Int))/\BJ j=k:=by
   have:j=0\/j=1\/j=2\/j=3:=j1
   rcases this with rfl|rfl|rfl|rfl
   ·exact⟨20,.inl rfl,rfl,rfl⟩
   ·exact⟨60,.inr (.inl rfl),rfl,rfl⟩
   ·exact⟨120,.inr (.inr (.inl rfl)),rfl,rfl⟩
   ·exact⟨240,.inr (.inr (.inr rfl)),rfl,rfl⟩
  refine ap am (ap ac (gj (by show(j:Int)<4;omega) (ap (z:=j) (aq hj) (ap ek ?_))))
  have z0:∀ i,inR (aJ V.zero i):=jT (dO 0) (dO 0) (dO 0);refine ap (E2 (n+4) (v:=V.zero) z0) ?_;refine nh (λi s=>∃ t:WV,s=[.sl (L.map a8),.sl [I 20,I 60,I 120,I 240],.sl (L.map a8),I (i:Int),a8 t]/\Y5 k i t/\t=EB k L i) L.length 0 (zqa _) ⟨kq V.zero,rfl,⟨tO z0,λc v B=>by
   cases B;refine⟨0,?_,j3⟩
   have:aJ V.zero c=0:=by unfold aJ;split<;>(try split)<;>rfl
   rw[this,Rat.zero_divInt];rfl⟩,rfl⟩ (λi w s o=>?_) (λs o=>?_)
  ·obtain⟨t,rfl,⟨R,ht⟩,g⟩:=o;obtain⟨p,f⟩:∃ p,L[i]=p:=⟨_,rfl⟩;have N:Nu p:=f ▸ bL _ (zBa w);obtain⟨h0,e0⟩:=Qx (n+6) (N.1 0) hk;obtain⟨h1,e1⟩:=Qx (n+6) (N.1 1) hk;obtain⟨h2,e2⟩:=Qx (n+6) (N.1 2) hk;refine ap am (ap ac (gj (by show((i:Nat):Int)<(((L.map a8).length:Nat):Int);rw[fd];omega) (ap (z:=L.map a8) rfl (ap (z:=i) (by rw[fd];exact aq w) (ap (z:=a8 p) (by simp[w,f]) ?_)))))
   refine wD (s':=[.sl (L.map a8),.sl [I 20,I 60,I 120,I 240],I 1,.st [a7 (uH k (p 0)),a7 (p 1),a7 (p 2)]]) (j0 (.bool true) (j0 true (dT (j0 0 (j0 (a7 (p 0)) (aa e0 (j0 (a7 (uH k (p 0))) (j0 h0 (j0 0 (j0 (.st [a7 (uH k (p 0)),a7 (p 1),a7 (p 2)]) (j0 (I 1) rfl))))))))))) ?_;refine wD (s':=[.sl (L.map a8),.sl [I 20,I 60,I 120,I 240],I 2,.st [a7 (uH k (p 0)),a7 (uH k (p 1)),a7 (p 2)]]) (j0 (.bool true) (j0 true (dT (j0 1 (j0 (a7 (p 1)) (aa e1 (j0 (a7 (uH k (p 1))) (j0 h1 (j0 1 (j0 (.st [a7 (uH k (p 0)),a7 (uH k (p 1)),a7 (p 2)]) (j0 (I 2) rfl))))))))))) ?_;refine wD (s':=[.sl (L.map a8),.sl [I 20,I 60,I 120,I 240],I 3,a8 λc=>uH k (p c)]) (j0 (.bool true) (j0 true (dT (j0 2 (j0 (a7 (p 2)) (aa e2 (j0 (a7 (uH k (p 2))) (j0 h2 (j0 2 (j0 (a8 λc=>uH k (p c)) (j0 (I 3) rfl))))))))))) ?_;refine On (r:=(0,[.sl (L.map a8),.sl [I 20,I 60,I 120,I 240],a8 λc=>uH k (p c)])) (aa am (aa ac (aO j2 rfl))) ?_
   have od:tR λc=>uH k (p c):=λc=>QM hk (N.1 c);have J:=Pm (n+5) R od;refine⟨.inl [.sl (L.map a8),.sl [I 20,I 60,I 120,I 240],.sl (L.map a8),I ((i+1:Nat):Int),a8 (ui t λc=>uH k (p c))],aa J (aa (aH (a:=i) (b:=1) j1) rfl),ui t λc=>uH k (p c),rfl,⟨Ke _ _,λc v B=>?_⟩,by rw[EB,<-g,show L.getD i (kq V.zero)=p by rw[zab,zda w];exact f]⟩
   obtain⟨a,b,h3,Q,rfl⟩:=sj B;obtain⟨Z1,rfl,z1⟩:=ht c a h3;obtain⟨Z2,rfl,z2⟩:=Pv (N.2 c) Q;have M:(2:Int)^k≠0:=(AK hk).2.2.1;refine⟨Z1+Z2,by rw[zFc _ _ M M,<-Int.add_mul,Rat.divInt_mul_right M],?_⟩
   grind
  ·obtain⟨t,rfl,⟨R,ht⟩,g⟩:=o;refine⟨.inr (0,[.sl (L.map a8),.sl [I 20,I 60,I 120,I 240],a8 t]),aa am (aa ac (aO (by show ¬ (((L.length:Nat):Int)<(((L.map a8).length:Nat):Int));rw[fd];omega) rfl)),?_⟩
   have Y:inR (((L.map a8).length:Nat):Int):=by rw[fd];simp only[inR];omega
   have l0:(((L.map a8).length:Nat):Int)≠0:=by rw[fd];omega
   have o1:OW (some (Rat.divInt 1 (((L.map a8).length:Nat):Int))):=bS (dh (bC (dO 1)) (bC Y) l0);obtain⟨p,f⟩:∃ p,ED (some (Rat.divInt 1 (((L.map a8).length:Nat):Int))) t=p:=⟨_,rfl⟩;have P:ug (BJ j) L=p:=by rw[<-f,O,g,fd];rfl
   have op:tR p:=f ▸ Gl _ _;obtain⟨a0,ad⟩:∃ a,a=260:=⟨_,rfl⟩;obtain⟨b0,ai⟩:∃ b,b=322:=⟨_,rfl⟩;have A:MeanB p ((L.length:Int)*2^k) a0 b0:=by
    have X:k<=240:=x6
    have M:(0:Int)<2^k:=zbd j2
    refine⟨op,zGa j1 M,j1,j1,?_,λc v B=>?_⟩
    ·grind
    ·rw[<-f] at B;obtain⟨a,b,h3,Q,rfl⟩:=y6 B;cases h3;obtain⟨Z,rfl,hz⟩:=ht c b Q;refine⟨Z,by rw[zOb,znc,fd],zHa hz ?_⟩
     obtain⟨c0,aj⟩:∃ c,c=302:=⟨_,rfl⟩;grind
   refine ap (SW (n+6) (dO 1) Y l0) (ap (Tf (n+5) o1 R) ?_);rw[f];refine ap (NM (n+1) h.pa hF.fb hF.h18 op) (ap (z:=decide (eI x q F p=1)) (by rw[show D.beq (I (eI x q F p)) (D.int .i64 1)=decide (eI x q F p=1) from bY];exact ac) ?_)
   refine ap (z:=decide (eI x q F p=1)&&decide (eI y r G p=1)) (by
    by_cases h1:eI x q F p=1
    ·rw[zha h1,zqb];refine dT (aa (NM (n+1) h.pb hG.fb hG.h18 op) ?_);rw[show D.beq (I (eI y r G p)) (D.int .i64 1)=decide (eI y r G p=1) from bY];exact ac
    ·rw[zca h1];rfl) (ap ac ?_)
   cases H:(decide (eI x q F p=1)&&decide (eI y r G p=1)) with
   | true=> simp only[zaa,zfa] at H;exact⟨.inr (0,[.bool true,a8 p]),rfl,_,rfl,a8 p,true,rfl,λ_=>⟨p,_,_,_,rfl,A,H.1,H.2⟩,λh=>by cases h⟩
   | false=>exact⟨.inl [.sl (L.map a8),.sl [I 20,I 60,I 120,I 240],I ((j+1:Nat):Int),Zv],jD (aa (aH (a:=j) (b:=1) j1) rfl),rfl,λi w=>by
    by_cases e:i=j
    ·subst e;rw[P];intro hn;rw[zha hn.1,zha hn.2] at H;exact z4a H j2
    ·exact u i j1⟩
 ·obtain⟨rfl,u⟩:=o;exact⟨.inr (1,[Zv]),aa am (aa ac (aO j2 rfl)),_,rfl,Zv,false,rfl,λh=>(by cases h),λ_=>⟨rfl,.inr u⟩⟩
end
theorem Ao{q:Nat->Int}{p:WV}{F:FL}:∀ k,k<=F.length->xL q p F k<=1/\∀ i,(h:i<F.length)->i<k->xL q p F k<=rh q p F[i]
 | 0,_=>⟨zoc _,λi h a=>j1⟩
 | k+1,hk=>by
  obtain⟨h1,h2⟩:=Ao (q:=q) (p:=p) (F:=F) k j1
  rw[lE (show k<F.length by omega)]
  refine⟨j1,λi h a=>?_⟩
  by_cases e:i=k
  ·subst e;omega
  ·have:=h2 i h j1;omega
def wg{x:V}{q:Nat->Int}{F:FL}{p:WV}(h:eI x q F p=1):sA p=false/\∀ f∈F,1<=rh q (dN p (kq x)) f:=by
 unfold eI at h;cases hb:sA p with
 | true=>rw[hb,zja rfl] at h;exact z4a h j2
 | false=>
  rw[hb,zia j2] at h
  refine⟨rfl,λf hf=>?_⟩;obtain⟨i,a,rfl⟩:=z3a hf;have:=(Ao (q:=q) (p:=dN p (kq x)) F.length (zka _)).2 i a a;omega
def JN{p:WV}{K:Int}{a b:Nat}(h:MeanB p K a b)(c:sA p=false):∃ M:V,(∀ i,i<3->p i=some (Rat.divInt (aJ M i) K))/\∀ i,(aJ M i).natAbs<=2^b:=by
 simp only[sA,Bool.not_eq_false',zaa,Option.isSome_iff_exists] at c;obtain⟨⟨v0,d⟩,⟨v1,e⟩,⟨v2,f⟩⟩:=c;obtain⟨Z0,rfl,z0⟩:=h.ex 0 v0 d;obtain⟨Z1,rfl,j⟩:=h.ex 1 v1 e;obtain⟨Z2,rfl,z2⟩:=h.ex 2 v2 f;refine⟨⟨Z0,Z1,Z2⟩,λi g=>?_,λi=>?_⟩
 ·have:i=0\/i=1\/i=2:=j1
  rcases this with rfl|rfl|rfl<;>assumption
 ·unfold aJ;split<;>(try split)<;>assumption
def tp{x:Int}{k m:Nat}(h:x.natAbs<=2^k)(hk:k<=m):x.natAbs<=2^m:=zHa h (zta j2 hk)
def oA(A B:V)(i:Nat):aJ (V.sub A B) i=aJ A i+-aJ B i:=by unfold aJ;split<;>(try split)<;>simp only[V.sub]<;>omega
def qw(A B:V)(i:Nat):aJ (V.add A B) i=aJ A i+aJ B i:=by unfold aJ;split<;>(try split)<;>rfl
def f8(k:Int)(A:V)(i:Nat):aJ (V.smul k A) i=k*aJ A i:=by unfold aJ;split<;>(try split)<;>rfl
def Fu{N W:V}{w:WV}{K:Int}{a b:Nat}(h0:0<K)(hK:K.natAbs<=2^a)(hw:∀ i,i<3->w i=some (Rat.divInt (aJ W i) K))(d:∀ i,(aJ N i).natAbs<=2^63)(e:∀ i,(aJ W i).natAbs<=2^b)(la:a<=300)(lb:b<=400):pV (kq N) w=some (Rat.divInt (V.dot N W) K):=by
 have c:∀ i,(aJ N i*aJ W i).natAbs<=2^(b+63):=λi=>bJ (d i) (e i) j1
 have m1:∀ i,i<3->mulW (kq N i) (w i)=some (Rat.divInt (aJ N i*aJ W i) K):=λi g=>by
  rw[hw i g];show mulW (some ((aJ N i:Int):Rat)) _=_;rw[(Y6 (d i)).mulW (dU (e i) hK j1) j1 j1]
  congr 1;rw[<-div_one (aJ N i),zOb,znc]
 have f:V.dot N W=aJ N 0*aJ W 0+aJ N 1*aJ W 1+aJ N 2*aJ W 2:=rfl;unfold pV;rw[m1 0 j2,m1 1 j2,m1 2 j2,lj (c 0) (c 1) hK h0 j1 j1,lj (p:=b+64) (cG (c 0) (c 1)) (tp (c 2) j1) hK h0 j1 j1,f]
def KL{y:V}{r:Nat->Int}(h:PoseOk y r){v:V}(a:bd 549755813888 v)(i:Nat):(aJ (aF r v) i).natAbs<=2^63:=by have:=rT h.hq (Bt a) i;simp only[inR] at this;rw[show(2:Nat)^63=9223372036854775808 from rfl];omega
def rj{x:V}{q:Nat->Int}(h:PoseOk x q){p:WV}{K:Int}{a b:Nat}(hm:MeanB p K a b){M:V}(m:∀ i,i<3->p i=some (Rat.divInt (aJ M i) K))(k:∀ i,(aJ M i).natAbs<=2^b){f:(V×Int)×List Nat}(hf:bd 549755813888 f.1.1/\f.1.2.natAbs<=281474976710656) :
  pV (kq (aF q f.1.1)) (dN p (kq x))=some (Rat.divInt (V.dot (aF q f.1.1) (V.sub M (V.smul K x))) K):=by
 have j:=hm.pos;have la:=hm.la;have lb:=hm.lb;obtain⟨c,hc⟩:∃ c,c=330:=⟨_,rfl⟩;have l:∀ i,(aJ x i).natAbs<=2^47:=λi=>by have:=h.hx;simp only[bd] at this;rw[show(2:Nat)^47=140737488355328 from rfl];unfold aJ;split<;>(try split)<;>omega
 have g:∀ i,(-(K*aJ x i)).natAbs<=2^c:=λi=>by rw[zCb,zMa];exact bJ (l i) hm.le j1
 have d:∀ i,(aJ M i).natAbs<=2^c:=λi=>tp (k i) j1
 refine Fu j hm.le (λi n=>?_) (KL h hf.1) (b:=c+1) (λi=>by rw[oA,f8];exact cG (d i) (g i)) j1 j1
 show addW (p i) (some (-(aJ x i:Rat)))=_;have e:-((aJ x i:Int):Rat)=Rat.divInt (-(K*aJ x i)) K:=by rw[<-Rat.neg_divInt,<-div_one (aJ x i)];congr 1;rw[zLb j2 j1];grind
 rw[m i n,e,lj (d i) (g i) hm.le j j1 j1,oA,f8]
def JA{x:V}{q:Nat->Int}(h:PoseOk x q){p:WV}{K:Int}{a b:Nat}(hm:MeanB p K a b){M:V}(d:∀ i,i<3->p i=some (Rat.divInt (aJ M i) K))(c:∀ i,(aJ M i).natAbs<=2^b){f:(V×Int)×List Nat}(hf:bd 549755813888 f.1.1/\f.1.2.natAbs<=281474976710656)(ht:1<=rh q (dN p (kq x)) f) :
  V.dot (aF q f.1.1) (V.sub M (V.smul K x))<ay q*f.1.2*K:=by
 unfold rh at ht;rw[rj h hm d c hf,kA] at ht;have j:=hm.pos;obtain⟨N,e⟩:∃ N,aF q f.1.1=N:=⟨_,rfl⟩;obtain⟨W,g⟩:∃ W,W=V.sub M (V.smul K x):=⟨_,rfl⟩;rw[e,<-g] at ht ⊢;rcases zDb (V.dot N W) (ay q*f.1.2*K) with k|k
 ·exact k
 ·exfalso;have hle:((ay q*f.1.2:Int):Rat)<=Rat.divInt (V.dot N W) K:=by
   rw[<-div_one (ay q*f.1.2),fB j2 j];omega
  split at ht
  ·omega
  ·split at ht
   ·rename_i h2;exact z4a h2 (Rat.not_lt.2 hle)
   ·omega
def Jz{x:V}{q:Nat->Int}(h:PoseOk x q){p:WV}{K:Int}{a b:Nat}(hm:MeanB p K a b){M:V}(e:∀ i,i<3->p i=some (Rat.divInt (aJ M i) K))(d:∀ i,(aJ M i).natAbs<=2^b){f:(V×Int)×List Nat}(hf:bd 549755813888 f.1.1/\f.1.2.natAbs<=281474976710656)(j:V.dot (aF q f.1.1) (V.sub M (V.smul K x))<ay q*f.1.2*K):rh q (dN p (kq x)) f=1:=by
 have g:=hm.pos;unfold rh;rw[rj h hm e d hf,kA];have c:Rat.divInt (V.dot (aF q f.1.1) (V.sub M (V.smul K x))) K<((ay q*f.1.2:Int):Rat):=by rw[<-Rat.not_le,<-div_one (ay q*f.1.2),fB j2 g];omega
 rw[zia (Rat.not_lt.2 (Rat.le_of_lt c)),zja c]
def Jw{x:V}{q:Nat->Int}(h:PoseOk x q){l:List V}(hl:Hul l){F:FL}{E:List (Nat×Nat)}(hF:Fac l F E){p:WV}{K:Int}{a b:Nat}(hm:MeanB p K a b){M:V}(H:∀ i,i<3->p i=some (Rat.divInt (aJ M i) K))(w:∀ i,(aJ M i).natAbs<=2^b)(J:eI x q F p=1)(h0:0<l.length){u:V}(O:u≠V.zero) :
  ∃ i,i<l.length/\ay q*V.dot u M<K*V.dot u (fQ x q l i):=by
 have N:=(cJ h.hq h.h0).1;have L:ay q≠0:=j1
 have Q:=hm.pos;obtain⟨m0,d0,m⟩:=hl.ex;have v:=qm L O;obtain⟨i,t,f,_⟩:=so (λk=>V.dot (ci q u) (pt l k)) l.length h0;obtain⟨W,s⟩:∃ W,W=V.sub M (V.smul K x):=⟨_,rfl⟩;have key:=Iu (P:=pt l) (W:=V.sub (ci q W) (V.smul (K*ay q) (pt l i))) t (λI=>lQ m i I) (λn d hn o=>by
  obtain⟨g,e,c⟩:=zSa.1 ((hF.kn.facets.mem (n,d)).2 hn);have:=JA h hm H w (hF.fb.2 g e) ((wg J).2 g e);rw[<-s,show g.1.1=n by rw[c],show g.1.2=d by rw[c]] at this
  have y:V.dot (aF q n) W=V.dot n (ci q W):=by have:=jO q W n;rw[fM W,fM (ci q W)] at this;exact this
  have j:V.dot n (V.sub (ci q W) (V.smul (K*ay q) (pt l i)))=V.dot n (ci q W)-K*ay q*V.dot n (pt l i):=by simp only[V.dot,V.sub,V.smul];grind
  rw[j,<-y,(aD.1 o).2];have r:K*ay q*d=ay q*d*K:=by rw[Int.mul_assoc,zMa]
  omega) v (λk hk=>by
  have:V.dot (ci q u) (pt l k)<=V.dot (ci q u) (pt l i):=f k hk;rw[bF];omega)
 refine⟨i,t,?_⟩;have j:V.dot (ci q u) (V.sub (ci q W) (V.smul (K*ay q) (pt l i)))=V.dot (ci q u) (ci q W)-K*ay q*V.dot (ci q u) (pt l i):=by simp only[V.dot,V.sub,V.smul];grind
 have r:V.dot (ci q u) (ci q W)=ay q*ay q*V.dot u W:=by rw[<-jO,ml];simp only[V.dot,V.smul];grind
 have z:=sV u x q l i;have D:V.dot u W=V.dot u M-K*V.dot u x:=by rw[s];simp only[V.dot,V.sub,V.smul];grind
 rw[j,r,D] at key;rw[z];generalize V.dot (ci q u) (pt l i)=A at *;generalize V.dot u M=B at *;generalize V.dot u x=C at *;have G:ay q*ay q*(B-K*C)-K*ay q*A=ay q*(ay q*B-K*(A+ay q*C)):=x6
 rw[G] at key;rcases zDb (ay q*B) (K*(A+ay q*C)) with k|k
 ·exact k
 ·have:=zdb (zpa N) (show 0<=ay q*B-K*(A+ay q*C) by omega);omega
section
variable{x y:V}{q r:Nat->Int}{l m:List V}{F G:FL}{E E':List (Nat×Nat)}
def J2(h:PairOk x y q r l m)(hl:Hul l)(hm:Hul m)(hF:Fac l F E)(hG:Fac m G E'){u:V}(e:u≠V.zero)(hu:¬ kG u x y q r l m<0){p:WV}{K:Int}{a b:Nat}(hp:MeanB p K a b)(h1:eI x q F p=1)(h2:eI y r G p=1):False:=by
 have t:=(cJ h.pa.hq h.pa.h0).1;have v:=(cJ h.pb.hq h.pb.h0).1;have s:=hp.pos;obtain⟨M,d,c⟩:=JN hp (wg h1).1;obtain⟨i,n,f⟩:=Jw h.pa hl hF hp d c h1 h.na e;obtain⟨j,o,g⟩:=Jw h.pb hm hG hp d c h2 h.nb (FU e);rw[jM,jM,zKb,zKb] at g;have k:=(u5 h u).1 hu i j n o;have m1:=zyb f v;have m2:=zyb (show K*V.dot u (fQ y r m j)<ay r*V.dot u M by omega) t
 have m3:=zla k (zpa s);generalize V.dot u M=B at *;generalize V.dot u (fQ x q l i)=A at *;generalize V.dot u (fQ y r m j)=C at *;have w:ay r*(ay q*B)=ay q*(ay r*B):=by rw[<-Int.mul_assoc,<-Int.mul_assoc,zMa (ay r)]
 have z:ay r*(K*A)=K*(ay r*A):=by rw[<-Int.mul_assoc,<-Int.mul_assoc,zMa (ay r)]
 have D:ay q*(K*C)=K*(ay q*C):=by rw[<-Int.mul_assoc,<-Int.mul_assoc,zMa (ay q)]
 omega
end
end Sy
end
noncomputable section
namespace Geo
open V
def part(P:Nat->V)(p:List Nat)(z:V):Int:=T4 (λt=>vol (shift (V.neg z) t)) (aac P p (p.length-2))
def SF(at_ s:V)(k:Nat):V:=⟨at_.x+(k/4%2:Nat)*s.x,at_.y+(k/2%2:Nat)*s.y,at_.z+(k%2:Nat)*s.z⟩
end Geo
end
noncomputable section
namespace Sy
open Go Go.Proofs Geo
end Sy
end
noncomputable section
namespace Geo
open V
end Geo
end
noncomputable section
namespace Sy
open Go Go.Proofs Geo
def SzB(s:V):Prop:=(1<=s.x/\s.x<=256)/\(1<=s.y/\s.y<=256)/\(1<=s.z/\s.z<=256)
def Oe{x:V}{q:Nat->Int}(h:PoseOk x q){p:WV}{K:Int}{a b:Nat}(hm:MeanB p K a b){M:V}(d:∀ i,i<3->p i=some (Rat.divInt (aJ M i) K))(c:∀ i,(aJ M i).natAbs<=2^b){f:(V×Int)×List Nat}(hf:bd 549755813888 f.1.1/\f.1.2.natAbs<=281474976710656)(g:V.dot (aF q f.1.1) (V.sub M (V.smul K x))<=ay q*f.1.2*K):0<=rh q (dN p (kq x)) f:=by
 have e:=hm.pos;unfold rh;rw[rj h hm d c hf,kA];have hle:Rat.divInt (V.dot (aF q f.1.1) (V.sub M (V.smul K x))) K<=((ay q*f.1.2:Int):Rat):=by rw[<-div_one (ay q*f.1.2),fB e j2];omega
 rw[zia (Rat.not_lt.2 hle)];split<;>omega
theorem Cg{q:Nat->Int}{p:WV}{F:FL}(h:∀ f∈F,rh q p f=1):∀ k,k<=F.length->xL q p F k=1
 | 0,_=>rfl
 | k+1,hk=>by rw[lE (show k<F.length by omega),Cg h k j1,h _ (zBa _)];rfl
theorem Fv{q:Nat->Int}{p:WV}{F:FL}(h:∀ f∈F,0<=rh q p f):∀ k,k<=F.length->0<=xL q p F k
 | 0,_=>by show(0:Int)<=1;decide
 | k+1,hk=>by
  rw[lE (show k<F.length by omega)]
  have h1:=Fv h k j1
  have h2:=h _ (zBa (show k<F.length by omega))
  omega
def Is{p:WV}{K:Int}{M:V}(a:∀ i,i<3->p i=some (Rat.divInt (aJ M i) K)):sA p=false:=by unfold sA;rw[a 0 j2,a 1 j2,a 2 j2];rfl
def JB{x:V}{q:Nat->Int}(h:PoseOk x q){p:WV}{K:Int}{a b:Nat}(hm:MeanB p K a b){M:V}(c:∀ i,i<3->p i=some (Rat.divInt (aJ M i) K))(d:∀ i,(aJ M i).natAbs<=2^b){F:FL}(hF:xE F)(e:∀ f∈F,V.dot (aF q f.1.1) (V.sub M (V.smul K x))<ay q*f.1.2*K):eI x q F p=1:=by
 unfold eI;rw[Is c,zia j2]
 exact Cg (λf hf=>Jz h hm c d (hF.2 f hf) (e f hf)) _ (zka _)
def Fw{x:V}{q:Nat->Int}(h:PoseOk x q){p:WV}{K:Int}{a b:Nat}(hm:MeanB p K a b){M:V}(c:∀ i,i<3->p i=some (Rat.divInt (aJ M i) K))(d:∀ i,(aJ M i).natAbs<=2^b){F:FL}(hF:xE F)(e:∀ f∈F,V.dot (aF q f.1.1) (V.sub M (V.smul K x))<=ay q*f.1.2*K):0<=eI x q F p:=by
 unfold eI;rw[Is c,zia j2]
 exact Fv (λf hf=>Oe h hm c d (hF.2 f hf) (e f hf)) _ (zka _)
structure PtK(p:WV)(M:V)(K:Int):Prop where
 eq:∀ i,p i=some (Rat.divInt (aJ M i) K)
 pos:0<K
 kb:K.natAbs<=2^150
 mb:∀ i,(aJ M i).natAbs<=2^200
def PtK.mean{p:WV}{M:V}{K:Int}(h:PtK p M K):MeanB p K 150 200:=
 ⟨λi=>by rw[h.eq i];exact bS ((dU (h.mb i) h.kb (by have:=h.pos;omega)).InR j2 j2),h.pos,j2,j2,h.kb,λc v a=>by rw[h.eq c] at a;cases a;exact⟨_,rfl,h.mb c⟩⟩
def xC(x:V)(q:Nat->Int)(F:FL)(M:V)(K:Int):Prop:=∀ f∈F,V.dot (aF q f.1.1) (V.sub M (V.smul K x))<=ay q*f.1.2*K
def oI{x:V}{q:Nat->Int}{F:FL}{M M':V}{K K':Int}(h0:0<K)(e:V.smul K M'=V.smul K' M)(h1:0<K')(h:xC x q F M K):xC x q F M' K':=λf hf=>by
 have k:=h f hf;generalize aF q f.1.1=n at *;generalize ay q*f.1.2=d at *;have b:K*V.dot n (V.sub M' (V.smul K' x))=K'*V.dot n (V.sub M (V.smul K x)):=by grind [V.smul,V.mk.injEq,V.dot,V.sub]
 have:=zla k (zpa h1);refine Int.le_of_mul_le_mul_left (a:=K) ?_ h0;grind
def Jv{x:V}{q:Nat->Int}{F:FL}(h:PoseOk x q)(hF:xE F){p:WV}{M:V}{K:Int}(hp:PtK p M K)(c:0<=eI x q F p):xC x q F M K:=λf hf=>by
 unfold eI at c;rw[Is (λi _=>hp.eq i),zia j2] at c
 obtain⟨i,a,rfl⟩:=z3a hf;have h1:=(Ao (q:=q) (p:=dN p (kq x)) F.length (zka _)).2 i a a;have h2:0<=rh q (dN p (kq x)) F[i]:=j1
 unfold rh at h2;rw[rj h hp.mean (λi _=>hp.eq i) hp.mb (hF.2 _ (zBa a)),kA] at h2;have d:=hp.pos;apply zWb.1;intro k;have b:((ay q*F[i].1.2:Int):Rat)<Rat.divInt (V.dot (aF q F[i].1.1) (V.sub M (V.smul K x))) K:=by rw[<-Rat.not_le,<-div_one (ay q*F[i].1.2),fB d j2];omega
 rw[zja b] at h2;exact z4a h2 j2
def T1{S:Int}(h0:S≠0):sg S=1/\0<S\/sg S=-1/\S<0:=by all_goals grind [sg]
section
variable{x y:V}{q r:Nat->Int}{l m:List V}{F G:FL}{E E':List (Nat×Nat)}
def Ef(h:PoseOk x q)(hl:∀ v∈l,bd 4096 v){k:Nat}(hk:k<l.length)(i:Nat):(aJ (fQ x q l k) i).natAbs<=2^62:=by have:=wS h (hl _ (fW hk));simp only[bd,PB] at this;rw[show(2:Nat)^62=4611686018427387904 from rfl];grind [aJ,fQ]
def Ox(h:PoseOk x q)(hl:∀ v∈l,bd 4096 v){k:Nat}(hk:k<l.length):PtK (rG x q l k) (fQ x q l k) (ay q):=
 ⟨λi=>rfl,(cJ h.hq h.h0).1,tp (gn h).1 j2,λi=>tp (Ef h hl hk i) j2⟩
def Pu{N W:V}{a b:Nat}(c:∀ i,(aJ N i).natAbs<=2^a)(d:∀ i,(aJ W i).natAbs<=2^b):(V.dot N W).natAbs<=2^(a+b+2):=by have k:=λi=>bJ (k:=a+b) (c i) (d i) (zka _);exact cG (cG (k 0) (k 1)) (tp (k 2) j1)
def PQ(h:PairOk x y q r l m){f:(V×Int)×List Nat}(hf:bd 549755813888 f.1.1/\f.1.2.natAbs<=281474976710656):(ay r*f.1.2*ay q).natAbs<=2^128:=
 bJ (bJ (j:=48) (k:=62) (gn h.pb).1 hf.2 j2) (gn h.pa).1 j2
def xH(x:V)(q:Nat->Int)(l:List V)(e:Nat×Nat):V:=V.sub (fQ x q l e.2) (fQ x q l e.1)
def lv(x:V)(q r:Nat->Int)(l:List V)(e:Nat×Nat)(f:(V×Int)×List Nat):Int:=V.dot (aF r f.1.1) (xH x q l e)
def vG(x y:V)(q r:Nat->Int)(l:List V)(e:Nat×Nat)(f:(V×Int)×List Nat):Int:=ay r*f.1.2*ay q-V.dot (aF r f.1.1) (V.sub (fQ x q l e.1) (V.smul (ay q) y))
def GO(x y:V)(q r:Nat->Int)(l:List V)(e:Nat×Nat)(f:(V×Int)×List Nat):V:=V.smul (sg (lv x q r l e f)) (V.add (V.smul (lv x q r l e f) (fQ x q l e.1)) (V.smul (vG x y q r l e f) (xH x q l e)))
def DG(x:V)(q r:Nat->Int)(l:List V)(e:Nat×Nat)(f:(V×Int)×List Nat):Int:=sg (lv x q r l e f)*(lv x q r l e f*ay q)
section
variable{e:Nat×Nat}{f:(V×Int)×List Nat}(h:PairOk x y q r l m)(he:e.1<l.length/\e.2<l.length)(hf:bd 549755813888 f.1.1/\f.1.2.natAbs<=281474976710656)
include h he
def Lb(i:Nat):(aJ (xH x q l e) i).natAbs<=2^63:=by unfold xH;rw[oA];exact cG (Ef h.pa h.la he.2 i) (by rw[zCb];exact Ef h.pa h.la he.1 i)
def Gs(i:Nat):O6 x q l e i=some (Rat.divInt (aJ (xH x q l e) i) (ay q)):=by
 show addW (some (Rat.divInt (aJ (fQ x q l e.2) i) (ay q))) (some (-(Rat.divInt (aJ (fQ x q l e.1) i) (ay q))))=_;rw[Rat.neg_divInt,lj (Ef h.pa h.la he.2 i) (by rw[zCb];exact Ef h.pa h.la he.1 i) (gn h.pa).1 (cJ h.pa.hq h.pa.h0).1 j2 j2]
 unfold xH;rw[oA]
include hf
def A3:xh x q r l e f=some (Rat.divInt (lv x q r l e f) (ay q)):=
 Fu (cJ h.pa.hq h.pa.h0).1 (gn h.pa).1 (λi _=>Gs h he i) (KL h.pb hf.1) (Lb h he) j2 j2
def S_B:(lv x q r l e f).natAbs<=2^128:=Pu (KL h.pb hf.1) (Lb h he)
def Pz:(V.dot (aF r f.1.1) (V.sub (fQ x q l e.1) (V.smul (ay q) y))).natAbs<=2^128:=Pu (b:=63) (KL h.pb hf.1) λi=>by
 have a:(aJ y i).natAbs<=2^47:=by have:=h.pb.hx;simp only[bd] at this;rw[show(2:Nat)^47=140737488355328 from rfl];grind [aJ]
 rw[oA,f8];exact cG (Ef h.pa h.la he.1 i) (by rw[zCb];exact bJ (gn h.pa).1 a j2)
def N_B:(vG x y q r l e f).natAbs<=2^129:=wJ (PQ h hf) (Pz h he hf)
def BL(h0:lv x q r l e f≠0):qy x y q r l e f=some (Rat.divInt (vG x y q r l e f) (lv x q r l e f)):=by
 obtain⟨s0,_⟩:=cJ h.pa.hq h.pa.h0;obtain⟨s1,s2⟩:=gn h.pa;have hp:=Ox h.pa h.la he.1;unfold qy;rw[A3 h he hf,rj h.pb hp.mean (λi _=>hp.eq i) hp.mb hf];have g:A7 (some ((ay r*f.1.2:Int):Rat)) (some (Rat.divInt (V.dot (aF r f.1.1) (V.sub (fQ x q l e.1) (V.smul (ay q) y))) (ay q)))=some (Rat.divInt (vG x y q r l e f) (ay q)):=by
  show addW (some ((ay r*f.1.2:Int):Rat)) (some (-(Rat.divInt _ _)))=_;rw[<-div_one (ay r*f.1.2),show Rat.divInt (ay r*f.1.2) 1=Rat.divInt (ay r*f.1.2*ay q) (ay q) by rw[zLb j2 s2];omega,Rat.neg_divInt,lj (PQ h hf) (by rw[zCb];exact Pz h he hf) s1 s0 j2 j2]
  unfold vG;rw[zsd]
 rw[g];have m:=N_B h he hf;have n:=S_B h he hf;generalize vG x y q r l e f=T at *;generalize lv x q r l e f=S at *;have c:=dJ (a:=S) (b:=ay q) s2;obtain⟨d1,d2⟩:=dU n s1 s2;obtain⟨z,j⟩:∃ z,z=Rat.divInt S (ay q):=⟨_,rfl⟩;rw[<-j] at c d1 d2 ⊢;have z0:z.num≠0:=λhn=>by
  rw[hn,z5b] at c;rcases zcb.1 c.symm with k|k
  ·exact h0 k
  ·exact cT z k
 simp only[vN,Option.elim];rw[ru z0,(dU m s1 s2).mulW (dU (x:=(z.den:Int)) (d:=z.num) (a:=14) (by rw[zsa];exact d2) d1 z0) j2 j2]
 congr 1;rw[show Rat.divInt (z.den:Int) z.num=Rat.divInt (ay q) S by rw[zLb z0 h0,zMa _ S,<-c,zMa],zOb,zMa T,Rat.divInt_mul_left s2]
def Ps(h0:lv x q r l e f≠0):PtK (I2 x y q r l e f) (GO x y q r l e f) (DG x q r l e f):=by
 obtain⟨s0,_⟩:=cJ h.pa.hq h.pa.h0;obtain⟨s1,s2⟩:=gn h.pa;have j:=N_B h he hf;have c:=S_B h he hf;have hs:=T1 h0;have hT:=BL h he hf h0;have n:=Lb h he;have m:=Ef h.pa h.la he.1;have a:∀ {z:Int},(sg (lv x q r l e f)*z).natAbs=z.natAbs:=λ{z}=>by rcases hs with k|k<;>rw[k.1]<;>omega
 refine⟨λi=>?_,?_,?_,λi=>?_⟩
 ·show addW (some (Rat.divInt (aJ (fQ x q l e.1) i) (ay q))) (mulW (qy x y q r l e f) (O6 x q l e i))=_;rw[hT,Gs h he i];have o:=n i;have p:=m i;unfold GO DG;rw[f8,qw,f8,f8];generalize vG x y q r l e f=T at *;generalize lv x q r l e f=S at *;generalize aJ (xH x q l e) i=W at *;generalize aJ (fQ x q l e.1) i=A at *;generalize ay q=s at *;rw[(dU j c h0).mulW (dU o s1 s2) j2 j2,zOb]
  have b:(S*s)≠0:=z8b h0 s2;rw[(dU p s1 s2).addW (dU (bJ (k:=192) j o j2) (bJ (k:=142) c s1 j2) b) j2 j2 j2,zFc _ _ s2 b]
  congr 1;have t:sg S≠0:=by rcases hs with k|k<;>rw[k.1]<;>decide
  rw[Rat.divInt_mul_left t,zLb (z8b s2 b) b];grind
 ·unfold DG;rcases hs with⟨d,g⟩|⟨d,g⟩
  ·rw[d,znc];exact zGa g s0
  ·rw[d];have:=zVc g s0;omega
 ·unfold DG;rw[a];exact bJ c s1 j2
 ·unfold GO;rw[f8,a,qw,f8,f8];exact tp (k:=193) (cG (bJ c (m i) j2) (bJ j (n i) j2)) j2
end
def Ak(h:PairOk x y q r l m)(hF:xE F)(hG:xE G){p:WV}{M:V}{K:Int}(hp:PtK p M K):Aj x y q r F G p=true↔xC x q F M K/\xC y r G M K:=by
 unfold Aj;simp only[zaa,zfa,ge_iff_le];constructor
 ·intro⟨h1,h2⟩;exact⟨Jv h.pa hF hp h1,Jv h.pb hG hp h2⟩
 ·intro⟨h1,h2⟩;exact⟨Fw h.pa hp.mean (λi _=>hp.eq i) hp.mb hF h1,Fw h.pb hp.mean (λi _=>hp.eq i) hp.mb hG h2⟩
def PN(h:PairOk x y q r l m)(hF:Fac l F E)(hG:Fac m G E'){p:WV}(hp:p∈lN x y q r l F G E):∃ M K,PtK p M K/\xC x q F M K/\xC y r G M K:=by
 have keep:∀ {w:WV} {M:V} {K:Int},PtK w M K->p∈jn x y q r F G w->∃ M K,PtK p M K/\xC x q F M K/\xC y r G M K:=λ{w M K} hw hp=>by
  obtain rfl:=to hp;unfold jn at hp;split at hp
  ·rename_i c;exact⟨M,K,hw,(Ak h hF.fb hG.fb hw).1 c⟩
  ·cases hp
 rcases List.mem_append.1 hp with hp|hp
 ·obtain⟨k,hk,hp⟩:=zUa.1 hp;exact keep (Ox h.pa h.la (z0a.1 hk)) hp
 ·obtain⟨e,he,hp⟩:=zUa.1 hp;obtain⟨f,hf,hp⟩:=zUa.1 hp;have b:=hG.fb.2 f hf;have a:=hF.lt e he;unfold nM at hp;split at hp
  ·cases hp
  ·rename_i h0;split at hp
   ·refine keep (Ps h a b λhn=>h0 ?_) hp;rw[A3 h a b,hn,Rat.zero_divInt];rfl
   ·cases hp
def Rh(h:PairOk x y q r l m)(hF:Fac l F E)(hG:Fac m G E'){k:Nat}(hk:k<l.length)(i1:xC x q F (fQ x q l k) (ay q))(i2:xC y r G (fQ x q l k) (ay q)):rG x q l k∈lN x y q r l F G E:=
 List.mem_append.2 (.inl (zUa.2 ⟨k,z0a.2 hk,by rw[u4 ((Ak h hF.fb hG.fb (Ox h.pa h.la hk)).2 ⟨i1,i2⟩)];exact zKa.2 rfl⟩))
def Oq(h:PairOk x y q r l m)(hF:Fac l F E)(hG:Fac m G E'){e:Nat×Nat}(u:e∈E){f:(V×Int)×List Nat}(hf:f∈G)(s:lv x q r l e f≠0){M0:V}{K0 a b:Int}(hK:0<K0)(C:0<a)(D:a<b)(w:V.smul b (V.sub (V.smul (ay q) M0) (V.smul K0 (fQ x q l e.1)))=V.smul (a*K0) (xH x q l e))(hn:V.dot (aF r f.1.1) (V.sub M0 (V.smul K0 y))=ay r*f.1.2*K0)(i1:xC x q F M0 K0)(i2:xC y r G M0 K0) :
  ∃ p M K,p∈lN x y q r l F G E/\PtK p M K/\V.smul K0 M=V.smul K M0:=by
 have c:=hF.lt e u;have d:=hG.fb.2 f hf;have hP:=Ps h c d s;have hT:=BL h c d s;have z:b*vG x y q r l e f=a*lv x q r l e f:=by
  have I:b*(K0*vG x y q r l e f)=a*(K0*lv x q r l e f):=by have j:=zna (V.dot (aF r f.1.1)) w;unfold vG lv;generalize xH x q l e=W at *;generalize fQ x q l e.1=A at *;generalize aF r f.1.1=n at *;simp only[V.dot,V.sub,V.smul] at j hn ⊢;grind
  refine Int.eq_of_mul_eq_mul_left (show K0≠0 by omega) ?_
  grind
 have o:V.smul K0 (GO x y q r l e f)=V.smul (DG x q r l e f) M0:=by
  have key:∀ i,b*aJ (V.smul K0 (GO x y q r l e f)) i=b*aJ (V.smul (DG x q r l e f) M0) i:=λi=>by have j:=zna (λv=>aJ v i) w;unfold GO DG;simp only[f8,qw,oA] at j ⊢;grind
  have g:=λi=>Int.eq_of_mul_eq_mul_left (show b≠0 by omega) (key i)
  exact V.ext' (g 0) (g 1) (g 2)
 refine⟨_,_,_,?_,hP,o⟩;refine List.mem_append.2 (.inr (zUa.2 ⟨e,u,zUa.2 ⟨f,hf,?_⟩⟩));unfold nM;have t:Rat.divInt (vG x y q r l e f) (lv x q r l e f)=Rat.divInt a b:=by rw[zLb s j1,zMa,z]
 have c1:C6 (xh x q r l e f)≠0:=by rw[A3 h c d];intro hn;have J:=eQ.1 hn;have g:=dJ (a:=lv x q r l e f) (b:=ay q) (gn h.pa).2;all_goals simp_all
 have c2:C6 (qy x y q r l e f)>0:=by
  rw[hT,t];have g:=dJ (a:=a) (b:=b) j1
  have L:0<(Rat.divInt a b).num*b:=by rw[g];exact zGa C (by have:=(Rat.divInt a b).den_pos;omega)
  have H:0<(Rat.divInt a b).num:=by
   apply Int.not_le.1;intro k;have:=Int.mul_nonpos_of_nonpos_of_nonneg k (show 0<=b by omega)
   omega
  show sg _>0;rw[gT H];decide
 have B:gt (qy x y q r l e f) (some ((1:Int):Rat))<0:=by rw[hT,t,kA,zja (by rw[<-Rat.not_le,<-div_one,fB j2 j1];omega)];decide
 rw[zia c1,zja (by rw[zha c2,zha B];rfl)]
 rw[u4 ((Ak h hF.fb hG.fb hP).2 ⟨oI hK o hP.pos i1,oI hK o hP.pos i2⟩)]
 simp_all
end
def rd(k:Nat)(a:Option Rat):Int:=a.elim 0 λv=>v.num*2^k/v.den
def Rm(k:Nat)(p:WV):V:=⟨rd k (p 0),rd k (p 1),rd k (p 2)⟩
def lg(k:Nat)(L:List WV):Nat->V
 | 0=>V.zero
 | i+1=>V.add (lg k L i) (Rm k (L.getD i (kq V.zero)))
def Ro{p:WV}{M:V}{K:Int}(h:PtK p M K)(k i:Nat):aJ (Rm k p) i=rd k (p i):=by
 have:i≠0->i≠1->p i=p 2:=λh0 h1=>by rw[h.eq i,h.eq 2];unfold aJ;rw[zia h0,zia h1];rfl
 by_cases h0:i=0
 ·subst h0;rfl
 ·by_cases h1:i=1
  ·subst h1;rfl
  ·rw[this h0 h1];unfold aJ;rw[zia h0,zia h1];rfl
def Ko{p:WV}{M:V}{K:Int}(h:PtK p M K)(k i:Nat):0<=2^k*aJ M i-K*rd k (p i)/\2^k*aJ M i-K*rd k (p i)<=K:=by
 have j:=h.pos;rw[h.eq i];have g:=dJ (a:=aJ M i) (b:=K) j1
 have c:(0:Int)<(Rat.divInt (aJ M i) K).den:=by have:=(Rat.divInt (aJ M i) K).den_pos;omega
 show 0<=_-K*((Rat.divInt (aJ M i) K).num*2^k/(Rat.divInt (aJ M i) K).den)/\_-K*((Rat.divInt (aJ M i) K).num*2^k/(Rat.divInt (aJ M i) K).den)<=K;generalize (Rat.divInt (aJ M i) K).num=a at *;generalize ((Rat.divInt (aJ M i) K).den:Int)=d at *;generalize (2:Int)^k=t at *;have f:=Int.mul_ediv_add_emod (a*t) d;have r1:=gW (x:=a*t) c;generalize a*t/d=z at *;generalize a*t%d=w at *;have e:d*(t*aJ M i-K*z)=K*w:=x6
 have m1:0<=K*w:=zdb j1 r1.1
 have m2:K*w<=K*d:=zla j1 j1
 generalize t*aJ M i-K*z=u at *;constructor
 ·apply zWb.1;intro hn;have:=zbb c hn;omega
 ·refine Int.le_of_mul_le_mul_left (a:=d) ?_ c;rw[e,zMa d];exact m2
def I6{p:WV}{M:V}{K:Int}(h:PtK p M K)(i:Nat):uH 240 (p i)=some (Rat.divInt (rd 240 (p i)) (2^240)):=by
 have a:=h.pos;obtain⟨d1,_⟩:=dU (h.mb i) h.kb j1
 obtain⟨c,hc⟩:∃ c,c=440:=⟨_,rfl⟩;rw[h.eq i];unfold uH rd;rw[zba,iN (fj (k:=c) j1 (bJ (j:=240) d1 (by rw[Int.natAbs_pow];exact zka _) j1))]
 rfl
def TW{p:WV}{M:V}{K:Int}(h:PtK p M K)(b:Nu p)(i:Nat):(rd 240 (p i)).natAbs<=4611686018427387904*2^240:=by obtain⟨Z,e,c⟩:=Pv (b.2 i) (I6 h i);have a:(2:Int)^240≠0:=(AK (k:=240) (.inr (.inr (.inr rfl)))).2.2.1;rw[zLb a a] at e;rw[Int.eq_of_mul_eq_mul_right a e];exact c
section
variable{L:List WV}(nL:L.length<=600000)(hL:∀ p∈L,Nu p/\∃ M K,PtK p M K)
include nL hL
theorem Gj:∀ i,i<=L.length->(∀ c,EB 240 L i c=some (Rat.divInt (aJ (lg 240 L i) c) (2^240)))/\∀ c,(aJ (lg 240 L i) c).natAbs<=i*(4611686018427387904*2^240)
 | 0,_=>by
  have z:∀ c,aJ V.zero c=0:=λc=>by unfold aJ;split<;>(try split)<;>rfl
  refine⟨λc=>?_,λc=>?_⟩
  ·show some ((aJ V.zero c:Int):Rat)=some (Rat.divInt (aJ V.zero c) _);rw[z,Rat.zero_divInt];rfl
  ·show(aJ V.zero c).natAbs<=_;rw[z];exact zqa _
 | i+1,l=>by
  obtain⟨h1,h2⟩:=Gj i j1
  have hm:L.getD i (kq V.zero)∈L:=by rw[zab,zda (show i<L.length by omega)];exact zBa _
  obtain⟨e,M,K,hp⟩:=hL _ hm;have k:(0:Int)<2^240:=zbd j2
  obtain⟨b,h⟩:∃ c,c=302:=⟨_,rfl⟩;have a:4611686018427387904*2^240<=2^b:=bH (i:=62) (j:=240) j2 (zka _) j1
  have f:∀ c,(aJ (lg 240 L i) c).natAbs<=2^(b+20):=λc=>zHa (h2 c) (bH (i:=20) j1 a j1)
  have g:∀ c,(rd 240 (L.getD i (kq V.zero) c)).natAbs<=2^(b+20):=λc=>zHa (TW hp e c) (zHa a (zta j2 j1))
  have d:∀ c,aJ (lg 240 L (i+1)) c=aJ (lg 240 L i) c+rd 240 (L.getD i (kq V.zero) c):=λc=>by rw[lg,qw,Ro hp]
  refine⟨λc=>?_,λc=>?_⟩
  ·show addW (EB 240 L i c) (uH 240 (L.getD i (kq V.zero) c))=_;rw[h1 c,I6 hp c,lj (q:=240) (f c) (g c) (by rw[Int.natAbs_pow];exact zka _) k j1 j2,d]
  ·rw[d];have:=h2 c;have:=TW hp e c;have:=zsc (aJ (lg 240 L i) c) (rd 240 (L.getD i (kq V.zero) c));rw[zhb,zGc];omega
def JO(h0:0<L.length):(∀ c,ug 240 L c=some (Rat.divInt (aJ (lg 240 L L.length) c) (L.length*2^240)))/\MeanB (ug 240 L) (L.length*2^240) 260 322/\∀ c,(aJ (lg 240 L L.length) c).natAbs<=2^322:=by
 obtain⟨h1,h2⟩:=Gj nL hL L.length (zka _);have q:(0:Int)<2^240:=zbd j2
 obtain⟨o,p⟩:∃ c,c=302:=⟨_,rfl⟩;obtain⟨a0,h⟩:∃ a,a=260:=⟨_,rfl⟩;obtain⟨n,e⟩:∃ b,b=322:=⟨_,rfl⟩;have g:4611686018427387904*2^240<=2^o:=bH (i:=62) (j:=240) j2 (zka _) j1
 have f:∀ c,(aJ (lg 240 L L.length) c).natAbs<=2^n:=λc=>zHa (h2 c) (bH (i:=20) j1 g j1)
 have l0:((L.length:Nat):Int)≠0:=j1
 have d:((2:Int)^240).natAbs<=2^240:=by rw[Int.natAbs_pow];exact zka _
 have k:(((L.length:Nat):Int)).natAbs<=2^20:=by rw[show(2:Nat)^20=1048576 from rfl];omega
 have eq:∀ c,ug 240 L c=some (Rat.divInt (aJ (lg 240 L L.length) c) (L.length*2^240)):=λc=>by show mulW (some (Rat.divInt 1 ((L.length:Nat):Int))) (EB 240 L L.length c)=_;rw[h1 c,(dU (a:=0) (b:=20) j2 k l0).mulW (dU (f c) d j1) j1 j2,zOb,znc]
 have l:(((L.length:Nat):Int)*2^240).natAbs<=2^a0:=bJ k d j1
 have hp:(0:Int)<((L.length:Nat):Int)*2^240:=zGa j1 q
 refine⟨eq,?_,by rw[<-e];exact f⟩
 rw[<-h,<-e];exact⟨λc=>by rw[eq c];exact bS ((dU (f c) l j1).InR j1 j1),hp,j1,j1,l,λc v m=>by rw[eq c] at m;cases m;exact⟨_,rfl,f c⟩⟩
end
def Kq{n x:V}{d:Int}{p:WV}{M:V}{K:Int}(h:PtK p M K)(b:∀ i,(aJ n i).natAbs<=2^63){t:Int}(l:t<=d*K-V.dot n (V.sub M (V.smul K x)))(k:Nat):2^k*t<=K*(2^k*(d+V.dot n x)+2^65-V.dot n (Rm k p)):=by
 have q:=h.pos;have f0:=Ko h k 0;have f1:=Ko h k 1;have f2:=Ko h k 2;have f:=b 0;have n1:=b 1;have n2:=b 2;rw[show(2:Nat)^63=9223372036854775808 from rfl] at f n1 n2;have o:(0:Int)<2^k:=zbd j2
 have key:∀ {a u:Int},a.natAbs<=9223372036854775808->(0<=u/\u<=K)->-(9223372036854775808*K)<=a*u:=λ{a u} j hu=>by
  have h1:(a*u).natAbs<=9223372036854775808*K.natAbs:=by rw[zLa];exact z9a j j1
  have h2:((9223372036854775808*K.natAbs:Nat):Int)=9223372036854775808*K:=j1
  omega
 have g0:=key f f0;have g1:=key n1 f1;have g2:=key n2 f2;have m:=zla l (zpa o);have c:(2:Int)^65=36893488147419103232:=rfl;rw[c];simp only[aJ,if_true,if_false,Rm,V.dot,V.sub,V.smul,show((1:Nat)=0)=False by simp,show((2:Nat)=0)=False by simp,show((2:Nat)=1)=False by simp] at *
 generalize (2:Int)^k=s at *;generalize rd k (p 0)=z0 at *;generalize rd k (p 1)=g at *;generalize rd k (p 2)=z2 at *;have e:K*(s*(d+(n.x*x.x+n.y*x.y+n.z*x.z))+36893488147419103232-(n.x*z0+n.y*g+n.z*z2))=s*(d*K-(n.x*(M.x-K*x.x)+n.y*(M.y-K*x.y)+n.z*(M.z-K*x.z)))+(n.x*(s*M.x-K*z0)+n.y*(s*M.y-K*g)+n.z*(s*M.z-K*z2))+36893488147419103232*K:=x6
 rw[e];omega
section
variable{x:V}{q:Nat->Int}{F:FL}{L:List WV}
def FM(h:PoseOk x q)(hF:xE F)(nL:L.length<=600000)(h0:0<L.length)(hL:∀ p∈L,Nu p/\∃ M K,PtK p M K/\xC x q F M K)(hs:∀ f∈F,∃ p∈L,∃ M K,PtK p M K/\V.dot (aF q f.1.1) (V.sub M (V.smul K x))<ay q*f.1.2*K):eI x q F (ug 240 L)=1:=by
 obtain⟨m1,m2,m3⟩:=JO nL (λp hp=>by obtain⟨a,M,K,b,_⟩:=hL p hp;exact⟨a,M,K,b⟩) h0
 refine JB h m2 (λi _=>m1 i) m3 hF (λf hf=>?_);have u:=KL h (hF.2 f hf).1;obtain⟨s,o,M0,K0,r,A⟩:=hs f hf;have l:∀ p∈L,∃ M K,PtK p M K/\V.dot (aF q f.1.1) (V.sub M (V.smul K x))<=ay q*f.1.2*K:=λp hp=>by obtain⟨_,M,K,h1,h2⟩:=hL p hp;exact⟨M,K,h1,h2 f hf⟩
 clear hs hL m1 m2 m3;generalize aF q f.1.1=n at *;generalize ay q*f.1.2=d at *;obtain⟨g,m⟩:∃ g:WV->Int,∀ p,g p=2^240*(d+V.dot n x)+2^65-V.dot n (Rm 240 p):=⟨_,λ_=>rfl⟩;have g0:∀ p∈L,0<=g p:=λp hp=>by
  obtain⟨M,K,h1,h2⟩:=l p hp;have:=Kq (x:=x) (d:=d) (t:=0) h1 u j1 240
  rw[<-m,zwb] at this;apply zWb.1;intro hn;have:=zbb h1.pos hn;omega
 have g1:2^90<=g s:=by
  have v:=Kq (x:=x) (d:=d) (t:=1) r u j1 240
  rw[<-m,Int.mul_one] at v;apply zWb.1;intro hn;have kb:=r.kb;have B:=r.pos;have w:K0*(g s+1)<=K0*2^90:=zla j1 j1
  have y:K0*2^90<=2^150*2^90:=z6b (by
   have:((2^150:Nat):Int)=2^150:=by rw[Int.natCast_pow];rfl
   omega) j2
  rw[<-Int.pow_add] at y;rw[Int.mul_add] at w;omega
 have sum:∀ i,i<=L.length->0<=i*(2^240*(d+V.dot n x)+2^65)-V.dot n (lg 240 L i)/\∀ j,j<i->L.getD j (kq V.zero)=s->2^90<=i*(2^240*(d+V.dot n x)+2^65)-V.dot n (lg 240 L i):=by
  intro i
  induction i with
  | zero=> intro _;refine⟨?_,λj c=>z4a c (Nat.not_lt_zero _)⟩;simp[lg,V.dot,V.zero]
  | succ i ih=>
   intro z;obtain⟨i1,i2⟩:=ih j1
   have hm:L.getD i (kq V.zero)∈L:=by rw[zab,zda (show i<L.length by omega)];exact zBa _
   have e:((i+1:Nat):Int)*(2^240*(d+V.dot n x)+2^65)-V.dot n (lg 240 L (i+1))=(i*(2^240*(d+V.dot n x)+2^65)-V.dot n (lg 240 L i))+g (L.getD i (kq V.zero)):=by
    rw[m,lg,show V.dot n (V.add (lg 240 L i) (Rm 240 (L.getD i (kq V.zero))))=V.dot n (lg 240 L i)+V.dot n (Rm 240 (L.getD i (kq V.zero))) by simp only[V.dot,V.add];grind,z8c,Int.add_mul]
    omega
   rw[e];have:=g0 _ hm;refine⟨j1,λj c k=>?_⟩
   by_cases hji:j=i
   ·subst hji;rw[k];omega
   ·have:=i2 j j1 k;omega
 obtain⟨j,c,k⟩:=z3a o;have fin:=(sum L.length (zka _)).2 j c (by rw[zab,zda c];exact k)
 generalize lg 240 L L.length=Z at *;have e:V.dot n (V.sub Z (V.smul (L.length*2^240) x))=V.dot n Z-L.length*2^240*V.dot n x:=by simp only[V.dot,V.sub,V.smul];grind
 rw[e];have c1:(L.length:Int)*2^65<2^90:=by rw[show(2:Int)^65=36893488147419103232 from rfl,show(2:Int)^90=1237940039285380274899124224 from rfl];omega
 generalize V.dot n Z=a at *;generalize V.dot n x=b at *;rw[show(L.length:Int)*(2^240*(d+b)+2^65)=d*(L.length*2^240)+L.length*2^240*b+L.length*2^65 by grind] at fin
 omega
end
section
variable{x y:V}{q r:Nat->Int}{l m:List V}{F G:FL}{E E':List (Nat×Nat)}
def CQ(h:PairOk x y q r l m)(hF:Fac l F E)(hG:Fac m G E'){p:WV}(hp:p∈lc x y q r l m F G E E'):Nu p/\∃ M K,PtK p M K/\xC x q F M K/\xC y r G M K:=by
 rcases List.mem_append.1 hp with hp|hp
 ·exact⟨Av h hF p hp,PN h hF hG hp⟩
 ·obtain⟨M,K,h1,h2,h3⟩:=PN h.swap hG hF hp;exact⟨Av h.swap hG p hp,M,K,h1,h3,h2⟩
def Oy(h:PairOk x y q r l m)(hF:Fac l F E)(hG:Fac m G E'):(lc x y q r l m F G E E').length<=600000:=by have n1:=rt h hF hG;have n2:=rt h.swap hG hF;unfold lc;rw[zwa];omega
def Tb(n:Nat)(h:PairOk x y q r l m)(hF:Fac l F E)(hG:Fac m G E')(k:4<=(lc x y q r l m F G E E').length)
  (sF:∀ f∈F,∃ p∈lc x y q r l m F G E E',∃ M K,PtK p M K/\V.dot (aF q f.1.1) (V.sub M (V.smul K x))<ay q*f.1.2*K)
  (j:∀ f∈G,∃ p∈lc x y q r l m F G E E',∃ M K,PtK p M K/\V.dot (aF r f.1.1) (V.sub M (V.smul K y))<ay r*f.1.2*K) :
  ∃ (p:WV) (K:Int) (a b:Nat),cA (n+1038) 425 [cL x q,cl l,cL y r,cl m]=some (.tup [a8 p,.bool true])/\MeanB p K a b/\eI x q F p=1/\eI y r G p=1:=by
 obtain⟨d,b,h1,h2,h3⟩:=Pn n h hF hG;cases b with
 | true=> obtain⟨p,K,a,b,rfl,e,g,i⟩:=h2 rfl;exact⟨p,K,a,b,h1,e,g,i⟩
 | false=>
  have nL:=Oy h hF hG;rcases(h3 rfl).2 with hn|hn
  ·omega
  ·exact z4a ⟨FM h.pa hF.fb nL j1 (λp hp=>by obtain⟨a,M,K,b,c,_⟩:=CQ h hF hG hp;exact⟨a,M,K,b,c⟩) sF,FM h.pb hG.fb nL j1 (λp hp=>by obtain⟨a,M,K,b,_,c⟩:=CQ h hF hG hp;exact⟨a,M,K,b,c⟩) j⟩ (hn 3 j2)
end
end Sy
end
noncomputable section
namespace Geo
open V
def PI(C:List (V×Int))(M:V)(K:Int):Prop:=∀ c∈C,dot c.1 M<=c.2*K
def kC(n M d:V)(a b:Int):dot n (add (smul a M) (smul b d))=a*dot n M+b*dot n d:=by simp only[dot,add,smul];grind
def nN(n m d:V)(a b:Int):dot (add (smul a n) (smul b m)) d=a*dot n d+b*dot m d:=by simp only[dot,add,smul];grind
def fC(n d:V)(b:Int):dot n (smul b d)=b*dot n d:=by simp only[dot,smul];grind
def Rj(n:V):∃ w,w≠zero/\dot n w=0:=by
 by_cases hxy:n.x=0/\n.y=0
 ·exact⟨⟨1,0,0⟩,λh=>by simp[zero] at h,by simp[dot,hxy.1]⟩
 ·refine⟨⟨-n.y,n.x,0⟩,λh=>hxy ?_,by simp only[dot];grind⟩
  simp only[zero,V.mk.injEq] at h;omega
def QU(u:V){w:V}(w0:w≠zero):∃ d,d≠zero/\0<=dot u d/\(∀ n,dot n w=0->dot n d=0)/\∀ n,dot n w≠0->dot n d≠0:=by
 rcases zDb (dot u w) 0 with k|k
 ·have e:∀ n,dot n (neg w)=-dot n w:=λn=>by simp only[dot,neg];grind
  refine⟨neg w,λh=>w0 ?_,by rw[e];omega,λn h=>by rw[e];omega,λn h=>by rw[e];omega⟩
  simp only[neg,zero,V.mk.injEq] at h;apply V.ext'<;>simp only[zero]<;>omega
 ·grind
section
variable{C:List (V×Int)}(bnd:∀ d,d≠zero->∃ c∈C,0<dot c.1 d)
include bnd
def Gh{M:V}{K:Int}(hK:0<K)(i:PI C M K){d:V}(d0:d≠zero):∃ c∈C,∃ a b:Int,0<a/\0<=b/\0<dot c.1 d/\PI C (add (smul a M) (smul b d)) (a*K)/\dot c.1 (add (smul a M) (smul b d))=c.2*(a*K)/\(b=0->dot c.1 M=c.2*K):=by
 obtain⟨l,e,m⟩:=bnd d d0;obtain⟨c,hc,hl⟩:=yI (G:=λc:V×Int=>c.2*K-dot c.1 M) (K:=λc=>dot c.1 d) (C.filter λc=>decide (0<dot c.1 d)) (List.ne_nil_of_mem (a:=l) (by simp[e,m])) (λx hx=>by simpa using(zrb.1 hx).2)
 obtain⟨hc,k⟩:=zrb.1 hc;have k:0<dot c.1 d:=by simpa using k
 have hm:=i c hc;refine⟨c,hc,dot c.1 d,c.2*K-dot c.1 M,k,j1,k,λz j=>?_,?_,λh=>j1⟩
 ·rw[kC];have f:=i z j;have n:=zla f (zpa k);rcases zDb 0 (dot z.1 d) with g|g
  ·have:=hl z (by simp[j,g])
   rw[show z.2*(dot c.1 d*K)=dot c.1 d*dot z.1 M+(z.2*K-dot z.1 M)*dot c.1 d by grind]
   omega
  ·have o:=Int.mul_nonpos_of_nonneg_of_nonpos (show 0<=c.2*K-dot c.1 M by omega) g
   rw[show z.2*(dot c.1 d*K)=dot c.1 d*(z.2*K) by grind]
   omega
 ·rw[kC];grind
def aaj{M:V}{K:Int}(hK:0<K)(o:PI C M K)(u:V):∃ M' K',0<K'/\PI C M' K'/\K'*dot u M<=K*dot u M'/\∃ c1∈C,∃ c2∈C,∃ c∈C,dot c1.1 M'=c1.2*K'/\dot c2.1 M'=c2.2*K'/\dot c.1 M'=c.2*K'/\dot (cross c1.1 c2.1) c.1≠0:=by
 have up:∀ {M d:V} {K a b:Int},0<K->0<=b->0<=dot u d->a*K*dot u M<=K*dot u (add (smul a M) (smul b d)):=λ{M d K a b} hK p q=>by rw[kC,Int.mul_add];have:=zdb (zpa hK) (zdb p q);grind
 have keep:∀ {n M d:V} {K a b x:Int},dot n M=x*K->dot n d=0->dot n (add (smul a M) (smul b d))=x*(a*K):=λ{n M d K a b x} h1 h2=>by rw[kC,h1,h2];grind
 obtain⟨d0,r,B,_,_⟩:=QU u (w:=⟨1,0,0⟩) (λh=>by simp[zero] at h)
 obtain⟨c1,m1,a1,l,s,y,r1,i1,t1,_⟩:=Gh bnd hK o r;have K1:=zGa s hK;have v1:=up (a:=a1) (M:=M) hK y B;generalize add (smul a1 M) (smul l d0)=M1 at *;generalize a1*K=L1 at *;obtain⟨w1,j,m⟩:=Rj c1.1;obtain⟨d1,n1,D,e,_⟩:=QU u j;have e:=e _ m;obtain⟨c2,m2,a2,k,t,z,F,i2,t2,_⟩:=Gh bnd K1 i1 n1;have K2:=zGa t K1;have v2:=up (a:=a2) (M:=M1) K1 z D;have t1:=keep (a:=a2) (b:=k) t1 e;have Zg:cross c1.1 c2.1≠zero:=λh=>by
  have:=wQ (g:=d1) h (by rw[fM];exact e) (by rw[fM];omega)
  simp_all [dot,zero]
 generalize add (smul a2 M1) (smul k d1)=M2 at *;generalize a2*L1=L2 at *;obtain⟨d2,n2,E,z2,H⟩:=QU u Zg;obtain⟨c,m3,a3,f,v,A,G,i3,t3,_⟩:=Gh bnd K2 i2 n2;have K3:=zGa v K2;have v3:=up (a:=a3) (M:=M2) K2 A E;have t1:=keep (a:=a3) (b:=f) t1 (z2 c1.1 (by simp only[dot,cross];grind))
 have t2:=keep (a:=a3) (b:=f) t2 (z2 c2.1 (by simp only[dot,cross];grind))
 generalize add (smul a3 M2) (smul f d2)=M3 at *;generalize a3*L2=L3 at *;refine⟨M3,L3,K3,i3,?_,c1,m1,c2,m2,c,m3,t1,t2,t3,λh=>?_⟩
 ·
  have g1:=zla v1 (zpa (zGa K2 K3));have g2:=zla v2 (zpa (zGa hK K3));have g3:=zla v3 (zpa (zGa hK K1));have i:=zGa K1 K2;refine Int.le_of_mul_le_mul_left (a:=L1*L2) ?_ i;grind
 ·simp_all [fM]
end
def vR(e:V)(C:List (V×Int)):∃ D:List (V×Int),(∀ c∈D,dot c.1 e=0) ∧
  (∀ P:V->Int->Prop,(∀ c∈C,P c.1 c.2)->(∀ n d m f a b,0<a->0<b->P n d->P m f->P (add (smul a n) (smul b m)) (a*d+b*f))->∀ c∈D,P c.1 c.2) ∧
  ((∃ M K,0<K/\∀ c∈D,dot c.1 M<c.2*K)->∃ M K,0<K/\∀ c∈C,dot c.1 M<c.2*K):=by
 obtain⟨U,y⟩:∃ U,U=C.filter λc=>decide (0<dot c.1 e):=⟨_,rfl⟩;obtain⟨L,hL⟩:∃ L,L=C.filter λc=>decide (dot c.1 e<0):=⟨_,rfl⟩;have r:∀ {c},c∈U↔c∈C/\0<dot c.1 e:=λ{c}=>by rw[y];simp
 have l:∀ {c},c∈L↔c∈C/\dot c.1 e<0:=λ{c}=>by rw[hL];simp
 clear y hL;refine⟨(C.filter λc=>decide (dot c.1 e=0))++U.flatMap λc=>L.map λz=>(add (smul (-dot z.1 e) c.1) (smul (dot c.1 e) z.1),-dot z.1 e*c.2+dot c.1 e*z.2),λc hc=>?_,λP h1 h2 c hc=>?_,λ⟨M,K,hK,w⟩=>?_⟩
 ·rcases List.mem_append.1 hc with hc|hc
  ·simpa using(zrb.1 hc).2
  ·obtain⟨u,hu,hc⟩:=zUa.1 hc;obtain⟨z,j,rfl⟩:=zSa.1 hc;simp only[nN];grind
 ·rcases List.mem_append.1 hc with hc|hc
  ·exact h1 c (zrb.1 hc).1
  ·obtain⟨u,hu,hc⟩:=zUa.1 hc;obtain⟨z,j,rfl⟩:=zSa.1 hc;exact h2 _ _ _ _ _ _ (by have:=(l.1 j).2;omega) (r.1 hu).2 (h1 u (r.1 hu).1) (h1 z (l.1 j).1)
 ·obtain⟨g,t⟩:∃ g:V×Int->Int,∀ c,g c=c.2*K-dot c.1 M:=⟨_,λ_=>rfl⟩;have pair:∀ {u z},u∈U->z∈L->0<(-dot z.1 e)*g u+dot u.1 e*g z:=λ{u z} hu j=>by
   have:=w _ (zPa _ (zUa.2 ⟨u,hu,zSa.2 ⟨z,j,rfl⟩⟩));simp only[nN] at this;rw[t,t];grind
  have i:∀ {c},c∈C->dot c.1 e=0->0<g c:=λ{c} hc h=>by
   have:=w c (List.mem_append_left _ (by simp[hc,h]))
   rw[t];omega
  suffices hs:∃ Z k,0<k/\(∀ u∈U,Z*dot u.1 e<k*g u)/\∀ z∈L,Z*dot z.1 e<k*g z by
   obtain⟨Z,k,hk,s1,s2⟩:=hs;refine⟨add (smul k M) (smul Z e),k*K,zGa hk hK,λc hc=>?_⟩;have key:Z*dot c.1 e<k*g c:=by
    rcases zHb (dot c.1 e) 0 with h|h|h
    ·exact s2 c (l.2 ⟨hc,h⟩)
    ·rw[h,zwb];exact zGa hk (i hc h)
    ·exact s1 c (r.2 ⟨hc,h⟩)
   rw[t] at key;rw[kC,show c.2*(k*K)=k*(c.2*K-dot c.1 M)+k*dot c.1 M by grind];omega
  have E:U≠[]->∃ c∈U,∀ x∈U,g c*dot x.1 e<=g x*dot c.1 e:=λh=>yI U h λx hx=>(r.1 hx).2;have A:L≠[]->∃ c∈L,∀ x∈L,g c*-dot x.1 e<=g x*-dot c.1 e:=λh=>yI (G:=g) (K:=λx=>-dot x.1 e) L h λx hx=>by have:=(l.1 hx).2;omega
  by_cases hu:U=[]
  ·by_cases hl:L=[]
   ·refine⟨0,1,j2,λu h=>?_,λu h=>?_⟩
    ·rw[hu] at h;cases h
    ·rw[hl] at h;cases h
   ·obtain⟨z,j,hm⟩:=A hl;have hp:=(l.1 j).2;refine⟨-g z+-dot z.1 e,-dot z.1 e,j1,λu h=>(by rw[hu] at h;cases h),λx hx=>?_⟩
    have:=hm x hx;have:=zTb hp (l.1 hx).2;rw[Int.add_mul,Int.neg_mul,Int.neg_mul,Int.neg_mul];rw[zKb,zKb,zMa (g x)] at *;omega
  ·obtain⟨u,s,hm⟩:=E hu;have hq:=(r.1 s).2;by_cases hl:L=[]
   ·refine⟨g u-dot u.1 e,dot u.1 e,hq,λx hx=>?_,λx h=>by rw[hl] at h;cases h⟩
    have:=hm x hx;have:=zGa hq (r.1 hx).2;rw[Int.sub_mul];rw[zMa (g x)] at *;omega
   ·obtain⟨z,j,hn⟩:=A hl;have hp:=(l.1 j).2;have o:=pair s j;obtain⟨p,v⟩:∃ p,p=-dot z.1 e:=⟨_,rfl⟩;obtain⟨q,eq⟩:∃ q,q=dot u.1 e:=⟨_,rfl⟩;rw[<-v,<-eq] at o;have H:0<p:=j1
    have F:0<q:=j1
    refine⟨p*g u-q*g z,2*p*q,zGa j1 F,λx hx=>?_,λx hx=>?_⟩
    ·have h1:=hm x hx;have h2:=(r.1 hx).2;rw[<-eq] at h1;generalize dot x.1 e=a at *;have h3:=zGa o h2;have B:=zla h1 (show 0<=2*p by omega)
     grind
    ·have h1:=hn x hx;have h2:=(l.1 hx).2;rw[<-v] at h1;generalize dot x.1 e=a at *;have h3:=zGa o (show 0 < -a by omega)
     have B:=zla h1 (show 0<=2*q by omega)
     grind
def QV(C:List (V×Int)):(∃ M K,0<K/\∀ c∈C,dot c.1 M<c.2*K)\/∀ P:V->Int->Prop,(∀ c∈C,P c.1 c.2)->(∀ n d m f a b,0<a->0<b->P n d->P m f->P (add (smul a n) (smul b m)) (a*d+b*f))->∃ d,d<=0/\P zero d:=by
 obtain⟨D1,l,t1,s1⟩:=vR ⟨1,0,0⟩ C;obtain⟨D2,z2,t2,s2⟩:=vR ⟨0,1,0⟩ D1;obtain⟨D3,z3,t3,j⟩:=vR ⟨0,0,1⟩ D2;have g:∀ e:V,∀ n (d:Int) m (f a b:Int),0<a->0<b->dot n e=0->dot m e=0->dot (add (smul a n) (smul b m)) e=0:=λe n d m f a b _ _ h1 h2=>by rw[nN,h1,h2];simp
 have z:∀ c∈D3,c.1=zero:=λc hc=>by have a1:=t3 (λn _=>dot n ⟨1,0,0⟩=0) (t2 (λn _=>dot n ⟨1,0,0⟩=0) l (g _)) (g _) c hc;have a2:=t3 (λn _=>dot n ⟨0,1,0⟩=0) z2 (g _) c hc;have a3:=z3 c hc;simp[dot] at a1 a2 a3;exact V.ext' a1 a2 a3
 by_cases h:∀ c∈D3,0<c.2
 ·exact .inl (s1 (s2 (j ⟨zero,1,j2,λc hc=>by rw[z c hc];have:=h c hc;simp[dot,zero,this]⟩)))
 ·refine .inr λP h1 h2=>?_;obtain⟨c,hc,i⟩:∃ c∈D3,c.2<=0:=Classical.byContradiction λhn=>h λc hc=>Int.not_le.1 λk=>hn ⟨c,hc,k⟩;exact⟨c.2,i,z c hc ▸ t3 P (t2 P (t1 P h1 h2) h2) h2 c hc⟩
def Co{n m w:V}(h1:dot n w=0)(h2:dot m w=0):smul (dot (cross n m) (cross n m)) w=smul (dot (cross n m) w) (cross n m):=by grind [cross,sub,smul,dot,zero]
def mc{k:Int}(hk:k≠0){u v:V}(h:smul k u=smul k v):u=v:=by simp only[smul,V.mk.injEq] at h;exact V.ext' (Int.eq_of_mul_eq_mul_left hk h.1) (Int.eq_of_mul_eq_mul_left hk h.2.1) (Int.eq_of_mul_eq_mul_left hk h.2.2)
def fi(a b:Int)(v:V):smul a (smul b v)=smul (a*b) v:=by simp only[smul,Int.mul_assoc]
def A5(k:Int):smul k zero=zero:=by simp[smul,zero]
def TL{n m o w:V}(b:dot (cross n m) o≠0)(h1:dot n w=0)(h2:dot m w=0)(h3:dot o w=0):w=zero:=by
 have c:cross n m≠zero:=λh=>b (by rw[h];simp[dot,zero])
 have e:=Co h1 h2;have a:=zna (dot o) e;rw[fC,fC,h3,zwb,fM o] at a;have z:=(zcb.1 a.symm).resolve_right b;have d:=aW c;rw[z] at e;exact mc (k:=dot (cross n m) (cross n m)) j1 (by rw[e,A5];simp[smul,zero])
section
variable{P:Nat->V}{N:Nat}
def OP(P:Nat->V)(a:Nat):Nat->V
 | 0=>zero
 | k+1=>add (OP P a k) (wy P a k)
theorem Ge{n:V}{a:Nat}:∀ k,(∀ x,x<k->dot n (wy P a x)<=0)->dot n (OP P a k)<=0/\∀ x,x<k->dot n (OP P a k)<=dot n (wy P a x)
 | 0,_=>⟨by simp[OP,dot,zero],λx hx=>z4a hx (Nat.not_lt_zero _)⟩
 | k+1,h=>by
  obtain⟨h1,h2⟩:=Ge (n:=n) (a:=a) k λx hx=>h x j1
  have hk:=h k j1
  have e:dot n (OP P a (k+1))=dot n (OP P a k)+dot n (wy P a k):=by simp only[OP,dot,add];grind
  all_goals grind
def Bu{a:Nat}(b:a<N)(nf:∀ {m:V},m≠zero->∃ x,x<N/\dot m (wy P a x)≠0){W:V}(c:∀ n d,IsF P N n d->a∈bD P N n d->dot n W<=0){g:V}(hle:∀ x,x<N->dot g (wy P a x)<=0):dot g W<=0:=by
 by_cases g0:g=zero
 ·rw[g0];simp[dot,zero]
 apply zWb.1;intro hn;obtain⟨t,ht⟩:∃ t:Int,t=(dot g (OP P a N)).natAbs:=⟨_,rfl⟩;have k:=Iu (W:=add (smul t W) (smul 1 (OP P a N))) b nf (λn d h1 h2=>by
  rw[kC];have h:=Int.mul_nonpos_of_nonneg_of_nonpos (show 0<=t by omega) (c n d h1 h2)
  obtain⟨z,e,f⟩:=h1.supp.2;have hs:=(Ge (P:=P) (n:=n) (a:=a) N (λx hx=>by rw[bF,(aD.1 h2).2];have:=h1.supp.1 x hx;omega)).2 z e
  rw[bF,(aD.1 h2).2] at hs;omega) g0 hle
 rw[kC] at k;have:=zla (show 1<=dot g W by omega) (show 0<=t by omega)
 omega
section
variable{Z:V}{κ:Int}(hκ:0<κ)(hZ:∀ n d,IsF P N n d->dot n Z<=d*κ){n1 n2:V}{d1 d2:Int}(h1:IsF P N n1 d1)(h2:IsF P N n2 d2)(t1:dot n1 Z=d1*κ)(t2:dot n2 Z=d2*κ)
include hκ hZ h1 h2 t1 t2
def J6(c:V):∃ a,a<N/\dot n1 (P a)=d1/\dot n2 (P a)=d2/\dot c Z<=κ*dot c (P a):=by
 have N0:0<N:=by obtain⟨z,j,_⟩:=h1.supp.2;omega
 obtain⟨x,hx,f,_⟩:=so (λk=>dot c (P k)) N N0;obtain⟨t,ht⟩:∃ t:Int,t=(κ*dot c (P x)-dot c Z).natAbs+1:=⟨_,rfl⟩;obtain⟨a,b,hm,_⟩:=so (λk=>dot (add (smul t (add n1 n2)) (smul 1 c)) (P k)) N N0;have key:=Bu (W:=sub Z (smul κ (P a))) b (λhm=>lQ h1 a hm) (λn d hf on=>by
  have e:dot n (sub Z (smul κ (P a)))=dot n Z-κ*dot n (P a):=by simp only[dot,sub,smul];grind
  rw[e,(aD.1 on).2,zMa];have:=hZ n d hf;omega) (g:=add (smul t (add n1 n2)) (smul 1 c)) (λy hy=>by
  have:dot (add (smul t (add n1 n2)) (smul 1 c)) (P y)<=dot (add (smul t (add n1 n2)) (smul 1 c)) (P a):=hm y hy;rw[bF];omega)
 have e:dot (add (smul t (add n1 n2)) (smul 1 c)) (sub Z (smul κ (P a)))=t*((dot n1 Z-κ*dot n1 (P a))+(dot n2 Z-κ*dot n2 (P a)))+(dot c Z-κ*dot c (P a)):=by simp only[dot,sub,smul,add];grind
 have m:=h1.supp.1 a b;have o:=h2.supp.1 a b;rw[e,t1,t2,show d1*κ-κ*dot n1 (P a)+(d2*κ-κ*dot n2 (P a))=κ*((d1-dot n1 (P a))+(d2-dot n2 (P a))) by grind] at key
 have hc:dot c (P a)<=dot c (P x):=f a b;have h:=zla hc (zpa hκ);by_cases hu:(d1-dot n1 (P a))+(d2-dot n2 (P a))=0
 ·refine⟨a,b,j1,j1,?_⟩
  rw[hu,zwb,zwb] at key;omega
 ·exfalso;have i:=Int.mul_le_mul (show 1<=κ by omega) (show 1<=(d1-dot n1 (P a))+(d2-dot n2 (P a)) by omega) j2 j1
  have l:=zla i (show 0<=t by omega)
  omega
def Dn(hl:∀ i j,i<j->j<N->aM (P i) (P j))(Q:∀ k,k<N->HR P N k)(hc:cross n1 n2≠zero):(∃ k,k<N/\Z=smul κ (P k)) ∨
  ∃ a b g e,a<b/\b<N/\(∃ n d,IsF P N n d/\(vo P N n d a b\/vo P N n d b a))/\wy P a b≠zero/\dot n1 (wy P a b)=0/\dot n2 (wy P a b)=0/\0<e/\e<κ*g/\smul g (sub Z (smul κ (P a)))=smul e (wy P a b):=by
 obtain⟨b,y,J,T,U⟩:=J6 hκ hZ h1 h2 t1 t2 (cross n1 n2);obtain⟨a,t,a1,a2,a3⟩:=J6 hκ hZ h1 h2 t1 t2 (neg (cross n1 n2));have c:dot n1 (wy P a b)=0:=by rw[bF];omega
 have f:dot n2 (wy P a b)=0:=by rw[bF];omega
 have O:∀ n k,dot n (sub Z (smul κ (P k)))=dot n Z-κ*dot n (P k):=λn k=>by simp only[dot,sub,smul];grind
 have C:dot n1 (sub Z (smul κ (P a)))=0:=x6
 have D:dot n2 (sub Z (smul κ (P a)))=0:=x6
 have R:=Co c f;have B:=Co C D;have W:=aW hc;have S:dot (cross n1 n2) (wy P a b)=dot (cross n1 n2) (P b)-dot (cross n1 n2) (P a):=bF _ _ _;have X:=O (cross n1 n2) a;have nn:∀ w,dot (neg (cross n1 n2)) w=-dot (cross n1 n2) w:=λw=>by simp only[dot,neg];grind
 rw[nn,nn,zKb] at a3;generalize hg:dot (cross n1 n2) (wy P a b)=g at *;generalize he:dot (cross n1 n2) (sub Z (smul κ (P a)))=e at *;generalize dot (cross n1 n2) (cross n1 n2)=s at *;have K:0<=e:=j1
 have L:e<=κ*g:=by rw[S,Int.mul_sub];omega
 have eq:smul g (sub Z (smul κ (P a)))=smul e (wy P a b):=by
  refine mc (k:=s) j1 ?_
  rw[fi,fi,zMa s,zMa s,<-fi,<-fi,R,B,fi,fi,zMa]
 rcases z7a K with z|z
 ·rcases z7a L with A|A
  ·right;have w0:wy P a b≠zero:=λh=>by
    grind [dot,zero]
   have l:b≠a:=λh=>w0 (by rw[h,kL])
   have E:∀ x,x<N->dot n1 (wy P a x)<=0/\dot n2 (wy P a x)<=0:=λx hx=>by have:=h1.supp.1 x hx;have:=h2.supp.1 x hx;grind [bF]
   have r:∀ w,dot (add n1 n2) w=dot n1 w+dot n2 w:=λw=>by simp only[dot,add];grind
   have H:=BU hl Q h1 (aD.2 ⟨t,a1⟩) (aD.2 ⟨y,J⟩) l (g:=add n1 n2) (λx hx=>by have:=E x hx;rw[r];omega) (by rw[r];omega) (λx hx h0=>by
    have:=E x hx;rw[r] at h0;have I:=Co (w:=wy P a x) (n:=n1) (m:=n2) j1 j1
    have F:∀ (k:Int) (u v:V),cross (smul k u) v=smul k (cross u v):=λk u v=>by apply V.ext'<;>simp only[cross,smul]<;>grind
    have G:∀ (k:Int) (u v:V),cross u (smul k v)=smul k (cross u v):=λk u v=>by apply V.ext'<;>simp only[cross,smul]<;>grind
    have M:∀ u:V,cross u u=zero:=λu=>by apply V.ext'<;>simp only[cross,zero]<;>grind
    obtain⟨s',o⟩:∃ s',s'=dot (cross n1 n2) (cross n1 n2):=⟨_,rfl⟩;have q:=aW hc;rw[<-o] at I q;have p:=Co c f;rw[<-o] at p;refine mc (k:=s'*s') (z8b j1 j1) ?_
    rw[A5,<-fi,<-G,<-F,I,p,F,G,M,A5,A5])
   rcases Nat.lt_or_gt_of_ne l with k|k
   ·refine⟨b,a,g,κ*g-e,k,t,⟨n1,d1,h1,H.symm⟩,?_,?_,?_,j1,j1,?_⟩
    ·grind [wy,sub,zero,V.mk.injEq]
    ·rw[bF];omega
    ·rw[bF];omega
    ·simp only[smul,sub,wy,V.mk.injEq] at eq ⊢;grind
   ·exact⟨a,b,g,e,k,y,⟨n1,d1,h1,H⟩,w0,c,f,z,A,eq⟩
  ·left;refine⟨b,y,?_⟩;refine mc (k:=s) j1 ?_
   rw[A] at B;grind [smul,sub,wy,V.mk.injEq]
 ·left;refine⟨a,t,?_⟩;refine mc (k:=s) j1 ?_
  rw[<-z] at B;grind [smul,sub,V.mk.injEq]
def HD(hl:∀ i j,i<j->j<N->aM (P i) (P j))(o:∀ k,k<N->HR P N k)(hc:cross n1 n2≠zero){c:V}{d3:Int}(h3:IsF P N c d3)(t3:dot c Z=d3*κ)(n:∀ w,dot n1 w=0->dot n2 w=0->dot c w=0->w=zero):∃ k,k<N/\Z=smul κ (P k):=by
 rcases Dn hκ hZ h1 h2 t1 t2 hl o hc with h|⟨a,b,g,e,l,m,_,w0,w1,p,d,q,eq⟩
 ·exact h
 ·exfalso;refine w0 (n _ w1 p ?_);have k:=zna (dot c) eq;have f:dot c (sub Z (smul κ (P a)))=dot c Z-κ*dot c (P a):=by simp only[dot,sub,smul];grind
  rw[fC,fC,f,t3,bF] at k;have r:=h3.supp.1 a j1
  have s:=h3.supp.1 b m;rw[bF];generalize dot c (P a)=x at *;generalize dot c (P b)=y at *;have m1:=zdb (show 0<=κ*g-e by omega) (show 0<=d3-x by omega)
  have m2:=zdb (show 0<=e by omega) (show 0<=d3-y by omega)
  have s0:(κ*g-e)*(d3-x)+e*(d3-y)=0:=x6
  have t:=aG (show 0<κ*g-e by omega) (show(κ*g-e)*(d3-x)=0 by omega)
  have z2:=aG d (show e*(d3-y)=0 by omega)
  omega
end
end
end Geo
end
end Go.Proofs.YtphlmegkommlnaaGreatDoor
