/- Part 21 of the proof that PlaneOfBoxes answers true at every input -/
import Derived.Test.YtphlmegkommlnaaGreatDoorBoxe19
import Derived.Test.YtphlmegkommlnaaGreatDoorBoxe20
set_option linter.unusedVariables false
set_option linter.unusedSimpArgs false
set_option linter.unnecessarySimpa false
set_option linter.defProp false
set_option maxRecDepth 20000
namespace Go.Proofs.YtphlmegkommlnaaGreatDoor
noncomputable section
namespace Geo
open V
section
variable{P:Nat->V}{N:Nat}
theorem xV{α:Type}{G K:α->Int}:∀ l:List α,l≠[]->(∀ x∈l,0<K x)->∃ z∈l,∀ x∈l,G z*K x<=G x*K z
 | [],h,_=>z3a rfl h
 | [a],_,_=>⟨a,j3,λx hx=>by rw[zKa.1 hx];exact zjc _⟩
 | a::b::l,_,hK=>by
  obtain⟨z,c,hl⟩:=xV (G:=G) (K:=K) (b::l) j3 λx hx=>hK x (by simp[hx])
  have ka:=hK a j3;have f:=hK z (by simp[c])
  rcases zyb (G a*K z) (G z*K a) with h|h
  ·refine⟨a,j3,λx hx=>?_⟩
   rcases zBa.1 hx with rfl|hx
   ·exact zjc _
   ·have d:=hK x (by simp[hx])
    have h1:G z*K x<=G x*K z:=hl x hx;have h2:0<(G z*K a-G a*K z)*K x:=zCa j1 d
    have h3:0<=(G x*K z-G z*K x)*K a:=z9a j1 j1
    have e:(G x*K a-G a*K x)*K z=(G x*K z-G z*K x)*K a+(G z*K a-G a*K z)*K x:=h7
    have:=gU f (show 0<K z*(G x*K a-G a*K x) by rw[zIa,e];omega)
    omega
  ·refine⟨z,by simp[c],λx hx=>?_⟩
   rcases zBa.1 hx with rfl|hx
   ·exact h
   ·exact hl x hx
def iu(a b:Int)(u v w:V):dot (sub (smul a u) (smul b v)) w=a*dot u w-b*dot v w:=by simp only[dot,sub,smul];grind
def OP{a b c:Nat}(l:a<N)(B:b<N)(hc:c<N){g:V}(h0:g≠zero)(hle:∀ x,x<N->dot g (wy P a x)<=0)(nf:∃ x,x<N/\dot g (wy P a x)≠0)(tb:dot g (wy P a b)=0)(K:dot g (wy P a c)=0)(i:cross (wy P a b) (wy P a c)≠zero) :
  ∃ n d,IsF P N n d/\a∈aN P N n d/\b∈aN P N n d/\∃ k:Int,0<k/\g=smul k n:=by
 have m:a≠b:=λh=>i (by rw[<-h,fT];apply V.ext'<;>simp[cross,zero])
 have o:a≠c:=λh=>i (by rw[<-h,fT];apply V.ext'<;>simp[cross,zero])
 have r:b≠c:=λh=>i (by rw[<-h];apply V.ext'<;>simp only[cross,zero]<;>grind)
 have H:=eD tb K;have u:=aL h0;have key:∀ {p q:Nat},p<N->q<N->a≠p->a≠q->p≠q->(cR P a p q≠zero)->cross g (cR P a p q)=zero->0<dot g (cR P a p q)->∃ n d,IsF P N n d/\a∈aN P N n d/\(dot g (wy P a b)=0->b∈aN P N n d)/\∃ k:Int,0<k/\g=smul k n:=λ{p q} hp hq h1 h2 h3 ht hc hs=>by
  have ev:=uo hc g;have le:∀ x,x<N->dot (cR P a p q) (wy P a x)<=0:=λx hx=>by
   have f:=ev (wy P a x);have t:=Int.mul_nonpos_of_nonneg_of_nonpos (zpa hs) (hle x hx);rcases zyb 0 (dot (cR P a p q) (wy P a x)) with k|k
   ·have:=zCa u k;omega
   ·exact k
  obtain⟨x,hx,D⟩:=nf;have lt:dot (cR P a p q) (wy P a x)<0:=by
   have f:=ev (wy P a x);have t:=le x hx;rcases zWa t with k|k
   ·exact k
   ·rw[k,zrb] at f;have:=aA hs f.symm;exact z3a this D
  obtain⟨J,L,C,hn,hF⟩:=zL l hp hq h1 h2 h3 rfl le ⟨x,hx,lt⟩;refine⟨J,_,hF,av.2 ⟨l,rfl⟩,?_⟩;have e:smul (dot g g) (cR P a p q)=smul (dot g (cR P a p q)) g:=Ab hc g;have j:=fO g;have eq:J=aJ g:=by
   refine lr hF.nz.2 (jp h0) (a:=dot g g*L) (b:=dot g (cR P a p q)*aZ g) (zCa u C) (zCa hs (by have:=fk h0;omega)) ?_
   generalize dot g (cR P a p q)=w at *;generalize dot g g=Q at *;rw[hn] at e;rw[j] at e;have E:=zna V.x e;have F:=zna V.y e;have G:=zna V.z e;simp only[smul] at E F G ⊢;apply V.ext'<;>simp only[Int.mul_assoc] at *<;>assumption
  have O:=fk h0;refine⟨λtb=>av.2 ⟨B,?_⟩,aZ g,j1,by rw[eq];exact j⟩
  rw[j,gw,<-eq] at tb;have:=aA (show(0:Int)<aZ g by omega) tb
  rw[bq] at this;omega
 rcases zzb 0 (dot g (cross (wy P a b) (wy P a c))) with s|s|s
 ·obtain⟨n,d,h1,h2,h3,f⟩:=key B hc m o r i H s;exact⟨n,d,h1,h2,h3 tb,f⟩
 ·exfalso;have e:=uo H (cross (wy P a b) (wy P a c));have j:dot (cross (wy P a b) (wy P a c)) g=0:=by rw[<-show dot g (cross (wy P a b) (wy P a c))=dot (cross (wy P a b) (wy P a c)) g by simp only[dot];grind];omega
  have I:=e g;rw[j,z7b] at I;have t:=aA u (show dot g g*dot (cross (wy P a b) (wy P a c)) (cross (wy P a b) (wy P a c))=0 by rw[zIa];exact I.symm)
  exact i (oL t)
 ·have M:∀ v:V,dot v (cross (wy P a c) (wy P a b))=- dot v (cross (wy P a b) (wy P a c)):=λv=>by simp only[dot,cross];grind
  obtain⟨n,d,h1,h2,h3,f⟩:=key hc B o m (Ne.symm r) (λh=>i (by have A:cross (wy P a c) (wy P a b)=zero:=h;have E:=zna V.x A;have F:=zna V.y A;have G:=zna V.z A;simp only[cross,zero] at E F G;apply V.ext'<;>simp only[cross,zero]<;>grind)) (eD K tb) (by show 0<dot g (cross (wy P a c) (wy P a b));rw[M];omega)
  exact⟨n,d,h1,h2,h3 tb,f⟩
def OL{a b:Nat}(e:a<N)(B:b<N)(E:wy P a b≠zero){g:V}(g0:g≠zero)(hle:∀ x,x<N->dot g (wy P a x)<=0)(nf:∀ {m:V},m≠zero->∃ x,x<N/\dot m (wy P a x)≠0)(tb:dot g (wy P a b)=0)
  (l:∀ x,x<N->dot g (wy P a x)=0->cross (wy P a b) (wy P a x)=zero):∃ n d,IsF P N n d/\a∈aN P N n d/\b∈aN P N n d:=by
 obtain⟨z0,c,J⟩:=nf g0;have D:=hle z0 c;obtain⟨z,C,f⟩:=far (w:=wy P a) tb ((List.range N).filter λk=>decide (dot g (wy P a k)<0)) (List.ne_nil_of_mem (a:=z0) (by simp[c];omega)) (λy hy=>by simpa using(znb.1 hy).2)
 have s:z<N:=by simpa using(znb.1 C).1
 have j:dot g (wy P a z)<0:=by simpa using(znb.1 C).2
 have q:a≠z:=λh=>by rw[<-h,fT,iD] at j;omega
 have t:z≠b:=λh=>by rw[h] at j;omega
 have o:a≠b:=λh=>E (by rw[<-h,fT])
 have ht:cR P a z b≠zero:=λh=>by have p:=Ab (h:cross (wy P a z) (wy P a b)=zero) g;rw[tb] at p;have F:=zna V.x p;have G:=zna V.y p;have H:=zna V.z p;simp only[smul,z7b] at F G H;exact E (V.ext' ((z8a.1 F).resolve_left j1) ((z8a.1 G).resolve_left j1) ((z8a.1 H).resolve_left j1))
 have le:∀ u,u<N->dot (cR P a z b) (wy P a u)<=0:=λu hu=>by
  show dot (cross (wy P a z) (wy P a b)) (wy P a u)<=0;rcases zWa (hle u hu) with k|k
  ·have h1:=f u (by simp[hu,k])
   have v:dot (cross (wy P a z) (wy P a b)) (wy P a u)=- dot (wy P a b) (cross (wy P a z) (wy P a u)):=by simp only[dot,cross];grind
   omega
  ·have h1:=l u hu k;have v:dot (cross (wy P a z) (wy P a b)) (wy P a u)=dot (wy P a z) (cross (wy P a b) (wy P a u)):=by simp only[dot,cross];grind
   rw[v,h1,iD];omega
 obtain⟨u,i,I⟩:=nf ht;have:=le u i;obtain⟨K,L,r,hn,hF⟩:=zL e s B q o t rfl le ⟨u,i,j1⟩
 refine⟨K,_,hF,av.2 ⟨e,rfl⟩,av.2 ⟨B,?_⟩⟩;have A:dot (cR P a z b) (wy P a b)=0:=by show dot (cross (wy P a z) (wy P a b)) (wy P a b)=0;simp only[dot,cross];grind
 rw[hn,gw] at A;have:=aA r A;rw[bq] at this;omega
def SR{a:Nat}{g n1:V}{d1:Int}(h1:IsF P N n1 d1)(i:a∈aN P N n1 d1)(hle:∀ x,x<N->dot g (wy P a x)<=0) :
  ∃ (z:Nat) (K G:Int),z<N/\0<K/\0<=G/\dot n1 (wy P a z)<0/\(∀ x,x<N->dot (sub (smul K g) (smul G n1)) (wy P a x)<=0)/\dot (sub (smul K g) (smul G n1)) (wy P a z)=0:=by
 have c:∀ x,dot n1 (wy P a x)=dot n1 (P x)-d1:=λx=>by rw[bq,(av.1 i).2]
 obtain⟨z0,d,h⟩:=h1.supp.2;obtain⟨z,f,hl⟩:=xV (G:=λx=>- dot g (wy P a x)) (K:=λx=>- dot n1 (wy P a x)) ((List.range N).filter λk=>decide (dot n1 (wy P a k)<0)) (List.ne_nil_of_mem (a:=z0) (by simp[d];have:=c z0;omega)) (λx hx=>by
  have:dot n1 (wy P a x)<0:=by simpa using(znb.1 hx).2
  omega)
 have b:z<N:=by simpa using(znb.1 f).1
 have e:dot n1 (wy P a z)<0:=by simpa using(znb.1 f).2
 have l:=hle z b;refine⟨z,- dot n1 (wy P a z),- dot g (wy P a z),b,j1,j1,e,λx hx=>?_,?_⟩
 ·rw[iu];have h2:=h1.supp.1 x hx;have h3:=c x;have j:=hle x hx;rcases zWa (show dot n1 (wy P a x)<=0 by omega) with k|k
  ·have:=hl x (by simp[hx,k])
   rw[Int.neg_mul_neg,Int.neg_mul_neg] at this;rw[Int.neg_mul,Int.neg_mul,zIa (dot n1 (wy P a z))];omega
  ·rw[k,zrb];have:=z9a (show 0<=- dot n1 (wy P a z) by omega) (show 0<=- dot g (wy P a x) by omega)
   rw[zGb] at this;omega
 ·rw[iu,Int.neg_mul,Int.neg_mul,zIa];omega
section
variable{a:Nat}{W:V}
def oV(j:a<N)(nf:∀ {m:V},m≠zero->∃ x,x<N/\dot m (wy P a x)≠0)(A:∀ n d,IsF P N n d->a∈aN P N n d->dot n W<0){g:V}(g0:g≠zero)(hle:∀ x,x<N->dot g (wy P a x)<=0){b:Nat}(B:b<N)(C:wy P a b≠zero)(tb:dot g (wy P a b)=0):dot g W<0:=by
 have flat:∀ {g:V},g≠zero->(∀ x,x<N->dot g (wy P a x)<=0)->dot g (wy P a b)=0->∀ {c:Nat},c<N->dot g (wy P a c)=0->cross (wy P a b) (wy P a c)≠zero->dot g W<0:=λ{g} g0 hle tb {c} hc J u=>by obtain⟨n,d,h1,h2,_,k,hk,e⟩:=OP j B hc g0 hle (nf g0) tb J u;rw[e,gw];exact zYa hk (A n d h1 h2)
 by_cases hx:∃ x,x<N/\dot g (wy P a x)=0/\cross (wy P a b) (wy P a x)≠zero
 ·obtain⟨x,h1,h2,h3⟩:=hx;exact flat g0 hle tb h1 h2 h3
 ·have s:∀ x,x<N->dot g (wy P a x)=0->cross (wy P a b) (wy P a x)=zero:=λx h1 h2=>Classical.byContradiction λh3=>hx ⟨x,h1,h2,h3⟩;obtain⟨n1,d1,hF,i,t⟩:=OL j B C g0 hle nf tb s;obtain⟨z,K,G,H,hK,hG,I,l,v⟩:=SR hF i hle;have nb:dot n1 (wy P a b)=0:=by rw[bq,(av.1 i).2,(av.1 t).2];omega
  have w:=A n1 d1 hF i;have u:cross (wy P a b) (wy P a z)≠zero:=λh=>by have p:=Ab h n1;rw[nb] at p;have o:=zna V.x p;have q:=zna V.y p;have r:=zna V.z p;simp only[smul,z7b] at o q r;exact C (V.ext' ((z8a.1 o.symm).resolve_left j1) ((z8a.1 q.symm).resolve_left j1) ((z8a.1 r.symm).resolve_left j1))
  have L:=iu K G g n1 W;have D:dot (sub (smul K g) (smul G n1)) (wy P a b)=0:=by rw[iu,tb,nb];omega
  have f:dot (sub (smul K g) (smul G n1)) W<=0/\(sub (smul K g) (smul G n1)≠zero->dot (sub (smul K g) (smul G n1)) W<0):=by
   by_cases h0:sub (smul K g) (smul G n1)=zero
   ·exact⟨by rw[h0];simp[dot,zero],λh=>z3a h0 h⟩
   ·have:=flat h0 l D H v u;exact⟨j1,λ_=>this⟩
  have E:G*dot n1 W<=0:=Int.mul_nonpos_of_nonneg_of_nonpos hG j1
  have F:K*dot g W<0:=by
   by_cases h0:sub (smul K g) (smul G n1)=zero
   ·rcases zWa hG with k|k
    ·have:=zYa k w;have:=f.1;omega
    ·exfalso;rw[<-k] at h0;have o:=zna V.x h0;have q:=zna V.y h0;have r:=zna V.z h0;simp only[sub,smul,zero,z7b,Int.sub_zero] at o q r;exact g0 (V.ext' (aA hK o) (aA hK q) (aA hK r))
   ·have:=f.2 h0;omega
  rcases zyb (dot g W) 0 with k|k
  ·exact k
  ·have:=z9a (zpa hK) k;omega
def H3(o:a<N)(nf:∀ {m:V},m≠zero->∃ x,x<N/\dot m (wy P a x)≠0)(O:∀ n d,IsF P N n d->a∈aN P N n d->dot n W<0){g:V}(g0:g≠zero)(hle:∀ x,x<N->dot g (wy P a x)<=0):dot g W<0:=by
 by_cases ht:∃ b,b<N/\wy P a b≠zero/\dot g (wy P a b)=0
 ·obtain⟨b,h1,h2,h3⟩:=ht;exact oV o nf O g0 hle h1 h2 h3
 have st:∀ x,x<N->wy P a x≠zero->dot g (wy P a x)<0:=λx hx hw=>by
  have:=hle x hx;rcases zWa this with k|k
  ·exact k
  ·exact z3a ⟨x,hx,hw,k⟩ ht
 obtain⟨f,X,U⟩:=nf g0;have w1:wy P a f≠zero:=λh=>U (by rw[h,iD])
 obtain⟨e,Q,R⟩:∃ e:V,e≠zero/\dot e (wy P a f)=0:=by
  by_cases hxy:(wy P a f).x=0/\(wy P a f).y=0
  ·exact⟨⟨1,0,0⟩,λh=>by simp[zero] at h,by simp[dot,hxy.1]⟩
  ·refine⟨⟨-(wy P a f).y,(wy P a f).x,0⟩,λh=>hxy ?_,by simp only[dot];grind⟩
   simp only[zero,V.mk.injEq] at h;omega
 obtain⟨J,Y,u⟩:=nf Q;have hc:cross (wy P a f) (wy P a J)≠zero:=λh=>by have p:=Ab h e;rw[R] at p;have y1:=zna V.x p;have y2:=zna V.y p;have y3:=zna V.z p;simp only[smul,z7b] at y1 y2 y3;exact w1 (V.ext' ((z8a.1 y1.symm).resolve_left u) ((z8a.1 y2.symm).resolve_left u) ((z8a.1 y3.symm).resolve_left u))
 obtain⟨c,i⟩:∃ c,c=cross (wy P a f) (wy P a J):=⟨_,rfl⟩;have cc:0<dot c c:=aL (i ▸ hc);obtain⟨v,hv⟩:∃ v,v=cross c (add (wy P a f) (wy P a J)):=⟨_,rfl⟩;have v1:dot v (wy P a f)=- dot c c:=by
  rw[hv];conv=>rhs;rw[i]
  rw[i];simp only[dot,cross,add];grind
 have v2:dot v (wy P a J)=dot c c:=by rw[hv,i];simp only[dot,cross,add];grind
 have go:∀ s:Int,(s=1\/s=-1)->∃ (z:Nat) (K G:Int),z<N/\0<K/\0<G/\wy P a z≠zero/\(∀ x,x<N->dot (sub (smul K g) (smul (-(s*G)) v)) (wy P a x)<=0)/\dot (sub (smul K g) (smul (-(s*G)) v)) (wy P a z)=0:=λs hs=>by
  obtain⟨z,hz,hl⟩:=xV (G:=λx=>- dot g (wy P a x)) (K:=λx=>s*dot v (wy P a x)) ((List.range N).filter λk=>decide (0<s*dot v (wy P a k))) (by
   rcases hs with rfl|rfl
   ·exact List.ne_nil_of_mem (a:=J) (by simp[Y];omega)
   ·exact List.ne_nil_of_mem (a:=f) (by simp[X];omega)) (λx hx=>by simpa using(znb.1 hx).2)
  have I:z<N:=by simpa using(znb.1 hz).1
  have A:0<s*dot v (wy P a z):=by simpa using(znb.1 hz).2
  have wz:wy P a z≠zero:=λh=>by rw[h,iD,zrb] at A;omega
  have gz:=st z I wz;refine⟨z,s*dot v (wy P a z),- dot g (wy P a z),I,A,j1,wz,λx hx=>?_,?_⟩
  ·rw[iu];have ad:=hle x hx;rcases zyb 0 (s*dot v (wy P a x)) with k|k
   ·have:=hl x (by simp[hx,k])
    generalize dot v (wy P a x)=p at *;generalize dot v (wy P a z)=q at *;generalize dot g (wy P a x)=r at *;generalize dot g (wy P a z)=t at *;rcases hs with rfl|rfl
    ·simp only[z1b,Int.neg_neg,Int.neg_mul] at *;rw[zIa q r];omega
    ·simp only[z1b,Int.neg_neg,Int.neg_mul,zGb] at *;rw[zIa q r];omega
   ·have h1:=z9a (zpa A) (show 0<=- dot g (wy P a x) by omega)
    have h2:=z9a (show 0<=- dot g (wy P a z) by omega) (show 0<=-(s*dot v (wy P a x)) by omega)
    generalize dot v (wy P a x)=p at *;generalize dot v (wy P a z)=q at *;generalize dot g (wy P a x)=r at *;generalize dot g (wy P a z)=t at *;rcases hs with rfl|rfl
    ·simp only[z1b,Int.neg_neg,Int.neg_mul,zGb] at *;omega
    ·simp only[z1b,Int.neg_neg,Int.neg_mul,zGb] at *;omega
  ·rw[iu];rcases hs with rfl|rfl
   ·simp only[z1b,Int.neg_neg,Int.neg_mul,zGb] at *;rw[zIa];omega
   ·simp only[z1b,Int.neg_neg,Int.neg_mul,zGb] at *;rw[zIa];omega
 obtain⟨z1,K1,G1,F,L,B,j,S,D⟩:=go 1 (.inl rfl);obtain⟨z2,K2,G2,H,M,C,l,T,E⟩:=go (-1) (.inr rfl);have comb:∀ w:V,G2*dot (sub (smul K1 g) (smul (-(1*G1)) v)) w+G1*dot (sub (smul K2 g) (smul (-(-1*G2)) v)) w=(G2*K1+G1*K2)*dot g w:=λw=>by rw[iu,iu];grind
 have Z:0<G2*K1+G1*K2:=by have:=zCa C L;have:=zCa B M;omega
 have n1:sub (smul K1 g) (smul (-(1*G1)) v)≠zero:=λh=>by
  have:=comb (wy P a z2);rw[E,h,show dot zero (wy P a z2)=0 by simp[dot,zero],zrb,zrb] at this
  have h3:=aA Z this.symm;have:=st z2 H l;omega
 have n2:sub (smul K2 g) (smul (-(-1*G2)) v)≠zero:=λh=>by
  have:=comb (wy P a z1);rw[D,h,show dot zero (wy P a z1)=0 by simp[dot,zero],zrb,zrb] at this
  have h3:=aA Z this.symm;have:=st z1 F j;omega
 have r1:=oV o nf O n1 S F j D;have r2:=oV o nf O n2 T H l E;have:=comb W;have q1:=zYa C r1;have q2:=zYa B r2;rcases zyb (dot g W) 0 with k|k
 ·exact k
 ·have:=z9a (zpa Z) k;omega
end
end
section
variable{P:Nat->V}{N:Nat}
def vQ{u v g:V}(h:cross u v=zero)(hu:dot g u=0)(a:dot g v≠0):u=zero:=by have p:=Ab h g;rw[hu] at p;have b:=zna V.x p;have c:=zna V.y p;have d:=zna V.z p;simp only[smul,z7b] at b c d;exact V.ext' ((z8a.1 b.symm).resolve_left a) ((z8a.1 c.symm).resolve_left a) ((z8a.1 d.symm).resolve_left a)
def Bs(hl:∀ i j,i<j->j<N->aE (P i) (P j))(M:∀ k,k<N->Ht P N k){n:V}{d:Int}(hF:IsF P N n d){a b:Nat}(s:a∈aN P N n d)(o:b∈aN P N n d)(m:b≠a){g:V}(hle:∀ x,x<N->dot g (wy P a x)<=0)(tb:dot g (wy P a b)=0)
  (E:∀ x,x<N->dot g (wy P a x)=0->cross (wy P a b) (wy P a x)=zero):uA P N n d a b\/uA P N n d b a:=by
 have F:=hF.flat hl;have J:=rl F s o m;have c:∀ {x},x∈aN P N n d->x<N:=λh=>(av.1 h).1;have C:∀ {x},x∈aN P N n d->dot n (wy P a x)=0:=λh=>F.pl a s _ h;have ext:∀ {x},x∈aN P N n d->mN P (aN P N n d) x:=λ{x} h=>by obtain⟨f,hf⟩:=(M x (c h)).front;exact⟨f,λy hy H=>hf y (c hy) H⟩
 obtain⟨v,A,w⟩:∃ v,v∈aN P N n d/\dot g (wy P a v)<0:=by
  apply Classical.byContradiction;intro G;have all:∀ x,x∈aN P N n d->cross (wy P a b) (wy P a x)=zero:=λx hx=>E x (c hx) (by
   have:=hle x (c hx);rcases zWa this with k|k
   ·exact z3a ⟨x,hx,k⟩ G
   ·exact k)
  obtain⟨i,j,k,_,_,_,O,Q,mk,ht⟩:=hF.three;refine ht ?_;have pi:=Ab (all i O) (wy P a b);have R:=Ab (all j Q) (wy P a b);have S:=Ab (all k mk) (wy P a b);have wp:=aL J;have e:smul (dot (wy P a b) (wy P a b)*dot (wy P a b) (wy P a b)) (cR P i j k)=zero:=by
   have K:cR P i j k=cross (sub (wy P a j) (wy P a i)) (sub (wy P a k) (wy P a i)):=by apply V.ext'<;>simp only[cR,cross,wy,sub]<;>grind
   have L:∀ u v:V,∀ k:Int,smul (k*k) (cross u v)=cross (smul k u) (smul k v):=λu v k=>by apply V.ext'<;>simp only[smul,cross]<;>grind
   have I:∀ u v:V,∀ k:Int,smul k (sub u v)=sub (smul k u) (smul k v):=λu v k=>by apply V.ext'<;>simp only[smul,sub]<;>grind
   rw[K,L,I,I,pi,R,S];apply V.ext'<;>simp only[smul,cross,sub,zero]<;>grind
  have U:=zna V.x e;have W:=zna V.y e;have X:=zna V.z e;have r:=zCa wp wp;exact V.ext' (aA r U) (aA r W) (aA r X)
 obtain⟨t,ht⟩:∃ t,T n (wy P a b) (wy P a v)=t:=⟨_,rfl⟩;have pl:∀ x,x∈aN P N n d->dot g (wy P a v)*T n (wy P a b) (wy P a x)=dot g (wy P a x)*t:=λx hx=>by have p:=Ac hF.nz.1 g (C o) (C A) (C hx);rw[tb,FK (wy P a b) (wy P a x),ht] at p;rw[z7b,zGb] at p;omega
 have D:∀ x,x∈aN P N n d->T n (wy P a b) (wy P a x)=0->x=a\/x=b:=λx hx h0=>by
  by_cases hxa:x=a
  ·exact .inl hxa
  ·exact .inr (acn F s o hx (ext s) (ext o) (ext hx) m hxa h0).symm
 have t0:t≠0:=λh=>J (vQ (dT hF.nz.1 (C o) (C A) (ht.trans h)) tb j1)
 have sgn:∀ x,x∈aN P N n d->(0<t->0<=T n (wy P a b) (wy P a x))/\(t<0->T n (wy P a b) (wy P a x)<=0):=λx hx=>by
  have p:=pl x hx;have B:=hle x (c hx);refine⟨λk=>?_,λk=>?_⟩
  ·have h1:=Int.mul_nonpos_of_nonpos_of_nonneg B (zpa k);rcases zyb (T n (wy P a b) (wy P a x)) 0 with q|q
   ·have:=zRb w q;omega
   ·exact q
  ·have h1:=Int.mul_nonneg_of_nonpos_of_nonpos B (zpa k);rcases zyb 0 (T n (wy P a b) (wy P a x)) with q|q
   ·have:=zMc w q;omega
   ·exact q
 have l:∀ u:V,0<=dot u u:=iC;rcases znd t0 with k|k
 ·right;refine⟨o,s,λh=>m h.symm,λx hx=>?_⟩;have e:T n (wy P b a) (wy P b x)=- T n (wy P a b) (wy P a x):=by simp only[T,dot,cross,wy,sub];grind
  rw[e];refine⟨by have:=(sgn x hx).2 k;omega,λh0=>?_⟩
  rcases D x hx j1 with rfl|rfl
  ·exact⟨l _,zjc _⟩
  ·rw[fT,show dot zero (wy P x a)=0 by simp[dot,zero]]
   exact⟨zjc _,l _⟩
 ·left;refine⟨s,o,m,λx hx=>?_⟩;refine⟨(sgn x hx).1 k,λh0=>?_⟩;rcases D x hx h0 with rfl|rfl
  ·rw[fT,show dot zero (wy P x b)=0 by simp[dot,zero]]
   exact⟨zjc _,l _⟩
  ·exact⟨l _,zjc _⟩
end
def Jv(A B:Nat->V)(Na:Nat)(s t:Int)(k:Nat):V:=sub (smul s (B (k/Na))) (smul t (A (k%Na)))
section
variable{A B:Nat->V}{Na Nb:Nat}{s t:Int}
def gq(P:Nat->V)(N:Nat)(n:V)(i:Nat):Prop:=i<N/\∀ x,x<N->dot n (P x)<=dot n (P i)
def sat(hs:0<s)(ht:0<t)(c:0<Na)(v:0<Nb)(nf:∀ {m:V},m≠zero->∀ i,i<Na->∃ x,x<Na/\dot m (wy A i x)≠0){u:V}(u0:u≠zero)(hu:∀ i j,i<Na->j<Nb->t*dot u (A i)<=s*dot u (B j)) :
  ∃ n:V,n≠zero/\aZ n=1/\(∀ i j,i<Na->j<Nb->s*dot n (B j)<=t*dot n (A i)) ∧
   ((∃ i j k,gq B Nb n i/\gq B Nb n j/\gq B Nb n k/\cR B i j k≠zero)\/(∃ i j k,gq A Na (neg n) i/\gq A Na (neg n) j/\gq A Na (neg n) k/\cR A i j k≠zero) ∨
    ∃ i j k l,gq B Nb n i/\gq B Nb n j/\gq A Na (neg n) k/\gq A Na (neg n) l/\cross (wy B i j) (wy A k l)≠zero):=by
 obtain⟨P,hP⟩:∃ P,P=Jv A B Na s t:=⟨_,rfl⟩;obtain⟨N,M⟩:∃ N,N=Nb*Na:=⟨_,rfl⟩;have N0:0<N:=M ▸ Nat.mul_pos v c;have qr:∀ k,k<N->k/Na<Nb/\k%Na<Na:=λk hk=>⟨(zfb c).2 (M ▸ hk),z4a _ c⟩;have idx:∀ i j,i<Na->j<Nb->∃ k,k<N/\k/Na=j/\k%Na=i:=λi j p Q=>by
  refine⟨j*Na+i,?_,?_,?_⟩
  ·have:=zMa Na (show j+1<=Nb by omega)
   rw[zpb] at this;omega
  ·rw[zab,Nat.mul_add_div c,zjb p];omega
  ·rw[zab,Nat.mul_add_mod,zVa p]
 have g:∀ (n:V) k,dot n (P k)=s*dot n (B (k/Na))-t*dot n (A (k%Na)):=λn k=>by rw[hP];simp only[Jv,dot,sub,smul];grind
 have H:∀ a,a<N->∀ {m:V},m≠zero->∃ x,x<N/\dot m (wy P a x)≠0:=λa O m hm=>by
  obtain⟨x,hx,F⟩:=nf hm (a%Na) (qr a O).2;obtain⟨k,hk,U,X⟩:=idx x (a/Na) hx (qr a O).1;refine⟨k,hk,λh=>F ?_⟩;rw[bq,g,g,U,X] at h;rw[bq];have:t*(dot m (A x)-dot m (A (a%Na)))=0:=by rw[Int.mul_sub];omega
  exact aA ht this
 obtain⟨a,f,o,_⟩:=ru (λk=>dot (neg u) (P k)) N N0;have r:∀ w:V,dot (neg u) w=- dot u w:=λw=>by simp only[dot,neg];grind
 have hle:∀ x,x<N->dot (neg u) (wy P a x)<=0:=λx hx=>by have:dot (neg u) (P x)<=dot (neg u) (P a):=o x hx;rw[bq];omega
 have g0:neg u≠zero:=λh=>u0 (by have x1:=zna V.x h;have x2:=zna V.y h;have x3:=zna V.z h;simp only[neg,zero] at x1 x2 x3;exact V.ext' (by simp only[zero];omega) (by simp only[zero];omega) (by simp only[zero];omega))
 obtain⟨n,d,hF,hd⟩:∃ n d,IsF P N n d/\d<=0:=by
  apply Classical.byContradiction;intro E;have:=H3 (W:=neg (P a)) f (H a f) (λn d h1 h2=>by
   have e:dot n (neg (P a))=- dot n (P a):=by simp only[dot,neg];grind
   rw[e,(av.1 h2).2];rcases zyb 0 d with k|k
   ·omega
   ·exact z3a ⟨n,d,h1,k⟩ E) g0 hle
  have e:dot (neg u) (neg (P a))=dot u (P a):=by simp only[dot,neg];grind
  rw[e,g] at this;have:=hu (a%Na) (a/Na) (qr a f).2 (qr a f).1;omega
 have b:=hF.supp.1;have ed:∀ k,k∈aN P N n d->gq B Nb n (k/Na)/\gq A Na (neg n) (k%Na):=λk hk=>by
  obtain⟨C,D⟩:=av.1 hk;obtain⟨R,S⟩:=qr k C;rw[g] at D;refine⟨⟨R,λx hx=>?_⟩,S,λx hx=>?_⟩
  ·obtain⟨G,a1,a2,a3⟩:=idx (k%Na) x S hx;have:=b G a1;rw[g,a2,a3] at this;exact Int.le_of_mul_le_mul_left j1 hs
  ·obtain⟨G,a1,a2,a3⟩:=idx x (k/Na) hx R;have:=b G a1;rw[g,a2,a3] at this;have r:∀ w:V,dot (neg n) w=- dot n w:=λw=>by simp only[dot,neg];grind
   rw[r,r];have:=Int.le_of_mul_le_mul_left (show t*dot n (A (k%Na))<=t*dot n (A x) by omega) ht
   omega
 refine⟨n,hF.nz.1,hF.nz.2,λi j p Q=>?_,?_⟩
 ·obtain⟨k,a1,a2,a3⟩:=idx i j p Q;have:=b k a1;rw[g,a2,a3] at this;omega
 obtain⟨i,j,k,_,_,_,Y,Z,mk,h3⟩:=hF.three;obtain⟨bi,q⟩:=ed i Y;obtain⟨K,I⟩:=ed j Z;obtain⟨L,J⟩:=ed k mk;by_cases c1:cR B (i/Na) (j/Na) (k/Na)=zero
 ·by_cases c2:cR A (i%Na) (j%Na) (k%Na)=zero
  ·right;right;by_cases c3:cross (wy B (i/Na) (j/Na)) (wy A (i%Na) (k%Na))=zero
   ·refine⟨_,_,_,_,bi,L,q,I,λT=>h3 ?_⟩;have e:cR P i j k=add (sub (smul (s*s) (cR B (i/Na) (j/Na) (k/Na))) (smul (s*t) (cross (wy B (i/Na) (j/Na)) (wy A (i%Na) (k%Na))))) (add (smul (s*t) (cross (wy B (i/Na) (k/Na)) (wy A (i%Na) (j%Na)))) (smul (t*t) (cR A (i%Na) (j%Na) (k%Na)))):=by
     rw[hP];generalize hB1:B (i/Na)=b1;generalize hB2:B (j/Na)=b2;generalize hB3:B (k/Na)=b3;generalize hA1:A (i%Na)=a1;generalize hA2:A (j%Na)=a2;generalize hA3:A (k%Na)=a3;apply V.ext'<;>simp only[cR,cross,wy,sub,smul,add,Jv,hB1,hB2,hB3,hA1,hA2,hA3]<;>grind
    rw[e,c1,c2,c3,T];apply V.ext'<;>simp[add,sub,smul,zero]
   ·exact⟨_,_,_,_,bi,K,q,J,c3⟩
  ·exact .inr (.inl ⟨_,_,_,q,I,J,c2⟩)
 ·exact .inl ⟨_,_,_,bi,K,L,c1⟩
end
end Geo
end
noncomputable section
namespace Sy
open Go Go.Proofs Geo
def bV(q:Nat->Int)(v:V):V:=⟨dA q 0*v.x+dA q 3*v.y+dA q 6*v.z,dA q 1*v.x+dA q 4*v.y+dA q 7*v.z,dA q 2*v.x+dA q 5*v.y+dA q 8*v.z⟩
def jD(q:Nat->Int)(u v:V):V.dot u (az q v)=V.dot (bV q u) v:=by simp only[V.dot,az,cF,bV,zRc,zeb,zdd,Nat.reduceMul,Nat.reduceAdd];grind
def lH(q:Nat->Int)(v:V):az q (bV q v)=V.smul (ap q*ap q) v:=by apply V.ext'<;>simp only[V.smul,az,cF,bV,dA,ap,zRc,zeb,zdd,Nat.reduceMul,Nat.reduceAdd]<;>grind
def jo(q:Nat->Int)(v:V):bV q (az q v)=V.smul (ap q*ap q) v:=by apply V.ext'<;>simp only[V.smul,az,cF,bV,dA,ap,zRc,zeb,zdd,Nat.reduceMul,Nat.reduceAdd]<;>grind
theorem jv(q:Nat->Int)(k:Int)(v:V):az q (V.smul k v)=V.smul k (az q v):=by grind [V.smul,az,cF]
theorem FY(q:Nat->Int)(k:Int)(v:V):bV q (V.smul k v)=V.smul k (bV q v):=by grind [V.smul,bV]
def my{k:Int}(hk:k≠0){v:V}(h:V.smul k v=V.zero):v=V.zero:=by have a:=zna V.x h;have b:=zna V.y h;have c:=zna V.z h;simp only[V.smul,V.zero] at a b c;exact V.ext' ((z8a.1 a).resolve_left hk) ((z8a.1 b).resolve_left hk) ((z8a.1 c).resolve_left hk)
def pG{q:Nat->Int}{u v:V}(h:V.cross u v=V.zero):V.cross (az q u) (az q v)=V.zero:=by all_goals grind [V.cross,az,cF,V.zero,jv,V.smul]
section
variable{q:Nat->Int}(hq:ap q≠0)
include hq
def AH{v:V}(h:v≠V.zero):az q v≠V.zero:=λe=>h (my (z5b hq hq) (by rw[<-jo,e];simp[bV,V.zero]))
def pN{v:V}(h:v≠V.zero):bV q v≠V.zero:=λe=>h (my (z5b hq hq) (by rw[<-lH,e];simp[az,cF,V.zero]))
def Dc{u v:V}(h:V.cross (az q u) (az q v)=V.zero):V.cross u v=V.zero:=by
 have hs:=z5b hq hq;have key:V.cross (bV q (az q u)) (bV q (az q v))=V.zero:=by all_goals grind [V.cross,bV,V.zero,FY,V.smul]
 rw[jo,jo] at key;refine my (z5b hs hs) ?_;rw[<-key];apply V.ext'<;>simp only[V.smul,V.cross]<;>grind
end
def fq(x:V)(q:Nat->Int)(l:List V)(i:Nat):V:=ls x q (pt l i)
def rN(n x:V)(q:Nat->Int)(l:List V)(i:Nat):V.dot n (fq x q l i)=V.dot (bV q n) (pt l i)+ap q*V.dot n x:=by rw[<-jD];simp only[fq,ls,V.dot,az];grind
def wQ(x:V)(q:Nat->Int)(l:List V)(i j:Nat):wy (fq x q l) i j=az q (wy (pt l) i j):=by apply V.ext'<;>simp only[wy,V.sub,fq,ls,az,cF]<;>grind
def wG{n x:V}{q:Nat->Int}{l:List V}{i:Nat}(h:gq (fq x q l) l.length n i):gq (pt l) l.length (bV q n) i:=⟨h.1,λk hk=>by have:=h.2 k hk;rw[rN,rN] at this;omega⟩
def Eb{P:Nat->V}{N:Nat}{n:V}{i:Nat}(h:gq P N n i):∀ k,k<N->V.dot n (wy P i k)<=0:=λk hk=>by have:=h.2 k hk;grind [bq]
def ou{P:Nat->V}{N:Nat}{n:V}{i j:Nat}(h:gq P N n i)(k:gq P N n j):V.dot n (wy P i j)=0:=by have:=h.2 j k.1;have:=k.2 i h.1;grind [bq]
def Fh{n:V}(h:n≠V.zero):n.neg≠V.zero:=λe=>h (vL.1 e)
def u6{x n:V}{q:Nat->Int}(hq:ap q≠0){l:List V}(hl:Hul l){F:FL}{E:List (Nat×Nat)}(hF:Fac l F E)(u:n≠V.zero)(w:aZ n=1){i j k:Nat}(z:gq (fq x q l) l.length n i)(A:gq (fq x q l) l.length n j)(B:gq (fq x q l) l.length n k)(h3:cR (fq x q l) i j k≠V.zero):n∈IY q F:=by
 obtain⟨m0,d0,h0⟩:=hl.ex;have r:=pN hq u;have t1:=wG z;have t2:=wG A;have t3:=wG B;have hc:V.cross (wy (pt l) i j) (wy (pt l) i k)≠V.zero:=λh=>h3 (by show V.cross (wy (fq x q l) i j) (wy (fq x q l) i k)=V.zero;rw[wQ,wQ];exact pG h)
 obtain⟨f,d,hf,_,_,c,o,e⟩:=OP t1.1 t2.1 t3.1 r (Eb t1) (lj h0 i r) (ou t1 t2) (ou t1 t3) hc;obtain⟨s,p,m⟩:=zNa.1 ((hF.kn.facets.mem (f,d)).2 hf);refine zNa.2 ⟨s,p,?_⟩;rw[show s.1.1=f by rw[m]]
 have g:=lH q n;rw[e,jv] at g;have t:=AH hq hf.nz.1;have pm:=fO (az q f);have C:=fk t;have y:0<ap q*ap q:=AA hq;refine lr (jp t) w (a:=c*aZ (az q f)) (b:=ap q*ap q) (zCa o j1) y ?_
 rw[pm] at g;rw[<-g];have:∀ (a b:Int) (v:V),V.smul (a*b) v=V.smul a (V.smul b v):=λa b v=>by simp only[V.smul,Int.mul_assoc]
 rw[this,<-pm]
def Bt{l:List V}(hl:Hul l){F:FL}{E:List (Nat×Nat)}(hF:Fac l F E){a b:Nat}(g:a<b)(h:∃ n d,IsF (pt l) l.length n d/\(uA (pt l) l.length n d a b\/uA (pt l) l.length n d b a)):(a,b)∈E:=by
 obtain⟨n1,d1,h1,h2⟩:=(uY hl.srt).1 h;rw[hF.e,vE];refine⟨(av.1 h2.1).1,(av.1 h2.2.mem).1,g,?_⟩;obtain⟨i,c,f⟩:=zNa.1 ((hF.kn.facets.mem (n1,d1)).2 h1);obtain⟨j,k⟩:=hF.kn.fok.ok i c;rw[f] at j k;obtain⟨t,i1,i2,i3⟩:=(acp hl.srt j k).2 h2;refine zic.2 ⟨i,c,zic.2 ⟨t,zXa.2 i1,?_⟩⟩;unfold TT
 simp_all
def xH{x n:V}{q:Nat->Int}(hq:ap q≠0){l:List V}(hl:Hul l){F:FL}{E:List (Nat×Nat)}(hF:Fac l F E)(y:n≠V.zero){i j:Nat}(A:gq (fq x q l) l.length n i)(B:gq (fq x q l) l.length n j)(g:wy (fq x q l) i j≠V.zero)
  (o:∀ k,gq (fq x q l) l.length n k->cR (fq x q l) i j k=V.zero):∃ e∈E,(mK q l e=wy (fq x q l) i j\/mK q l e=(wy (fq x q l) i j).neg):=by
 obtain⟨m0,d0,h0⟩:=hl.ex;have t:=pN hq y;have t1:=wG A;have t2:=wG B;rw[wQ] at g ⊢;have m:wy (pt l) i j≠V.zero:=λh=>g (by rw[h];simp[az,cF,V.zero])
 have p:j≠i:=λh=>m (by rw[h,fT])
 have c:∀ k,k<l.length->V.dot (bV q n) (wy (pt l) i k)=0->V.cross (wy (pt l) i j) (wy (pt l) i k)=V.zero:=λk hk h=>by
  have C:gq (fq x q l) l.length n k:=⟨hk,λz w=>by have:=t1.2 z w;rw[bq] at h;rw[rN,rN];omega⟩
  have:=o k C;rw[show cR (fq x q l) i j k=V.cross (wy (fq x q l) i j) (wy (fq x q l) i k) from rfl,wQ,wQ] at this;exact Dc hq this
 obtain⟨f,d,hf,u,v⟩:=OL t1.1 t2.1 m t (Eb t1) (λhm=>lj h0 i hm) (ou t1 t2) c;have s:=Bs hl.srt hl.vtx hf u v p (Eb t1) (ou t1 t2) c;have r:=λ{a b:Nat}=>Bt hl hF (a:=a) (b:=b);rcases zza i j with k|k
 ·refine⟨(i,j),r k ⟨f,d,hf,s⟩,.inl rfl⟩
 ·refine⟨(j,i),r j1 ⟨f,d,hf,s.symm⟩,.inr ?_⟩
  grind [mK,az,cF,wy,V.sub,V.neg]
def Cj{n c:V}(g:n≠V.zero)(f:aZ n=1)(d:c≠V.zero)(h:V.cross n c=V.zero):n=aJ c\/n=(aJ c).neg:=by
 have p:=Ab h n;have nn:=zq g;have gc:=fk d;have pm:=fO c;have sm:∀ (a b:Int) (v:V),V.smul (a*b) v=V.smul a (V.smul b v):=λa b v=>by simp only[V.smul,Int.mul_assoc]
 rcases zzb 0 (V.dot n c) with k|k|k
 ·left;refine lr f (jp d) (a:=V.dot n c) (b:=V.dot n n*aZ c) k (zCa nn j1) ?_
  grind
 ·exfalso;rw[<-k] at p;exact d (my (k:=V.dot n n) j1 (by rw[p];simp[V.smul,V.zero]))
 ·right;refine lr f (by rw[qb];exact jp d) (a:=-V.dot n c) (b:=V.dot n n*aZ c) j1 (zCa nn j1) ?_
  have e:V.smul (V.dot n n*aZ c) (aJ c).neg=(V.smul (V.dot n n*aZ c) (aJ c)).neg:=by apply V.ext'<;>simp only[V.smul,V.neg]<;>grind
  rw[e,sm,<-pm,p];grind [V.smul,V.neg]
def dj{a b:Int}(c:b≠0):(Rat.divInt a b).num*b=a*(Rat.divInt a b).den:=by have h:=zAb (Rat.divInt a b);exact(zIb (dc _) c).1 h
theorem fh{a b c d:Int}(i:0<b)(j:0<d):Rat.divInt a b<=Rat.divInt c d↔a*d<=c*b:=by
 have f:=dj (a:=a) (b:=b) j1
 have g:=dj (a:=c) (b:=d) j1
 have n:=(Rat.divInt a b).den_pos;have o:=(Rat.divInt c d).den_pos;rw[Rat.le_iff];generalize (Rat.divInt a b).num=x at *;generalize (Rat.divInt c d).num=y at *;obtain⟨u,hu⟩:∃ u:Int,((Rat.divInt a b).den:Int)=u:=⟨_,rfl⟩;obtain⟨v,l⟩:∃ v:Int,((Rat.divInt c d).den:Int)=v:=⟨_,rfl⟩;have m:0<u:=j1
 have v0:0<v:=j1
 rw[hu] at f ⊢;rw[l] at g ⊢;have bd:=zCa i j;have e:=zCa m v0;have k:(b*d)*(y*u-x*v)=(u*v)*(c*b-a*d):=by grind
 constructor
 ·intro h;have h1:=z9a (zpa bd) (show 0<=y*u-x*v by omega)
  rw[k] at h1;have:=oa e h1;omega
 ·intro h;have h1:=z9a (zpa e) (show 0<=c*b-a*d by omega)
  rw[<-k] at h1;have:=oa bd h1;omega
theorem Dz(u:V)(L:List V):∀ k i,i<=k->V.dot u (pt L i)<=AT u L k
 | 0,i,h=>by rw[show i=0 by omega];exact zjc _
 | k+1,i,h=>by
  rw[vJ];by_cases hi:i=k+1
  ·grind
  ·have:=Dz u L k i j1
   omega
theorem Dy(u:V)(L:List V):∀ k,∃ i,i<=k/\AT u L k=V.dot u (pt L i)
 | 0=>⟨0,zja _,rfl⟩
 | k+1=>by
  rw[vJ];split
  ·grind
  ·obtain⟨i,h1,h2⟩:=Dy u L k;grind
section
variable{x y:V}{q r:Nat->Int}{l m:List V}{F G:FL}{E E':List (Nat×Nat)}
def qo(h:PairOk x y q r l m)(u:V):¬ jk u x y q r l m<0↔∀ i j,i<l.length->j<m.length->ap r*V.dot u (fq x q l i)<=ap q*V.dot u (fq y r m j):=by
 have a:=(ct h.pa.hq h.pa.h0).1;have b:=(ct h.pb.hq h.pb.h0).1;have na:=h.na;have nb:=h.nb;have e:¬ jk u x y q r l m<0↔AT u (l.map (ls x q)) (l.length-1)*ap r<=-AT u.neg (m.map (ls y r)) (m.length-1)*ap q:=by unfold jk eZ;rw[Rat.not_lt,<-fh a b,<-Rat.neg_divInt];grind
 rw[e];constructor
 ·intro hm i j c d;have h1:=Dz u (l.map (ls x q)) (l.length-1) i j1
  have h2:=Dz u.neg (m.map (ls y r)) (m.length-1) j j1
  rw[Ai _ c] at h1;rw[Ai _ d,jC] at h2;have n:=zka h1 (zpa b);have g:=zka h2 (zpa a);rw[zGb] at g;rw[Int.neg_mul,zIa _ (ap r),zIa _ (ap q)] at hm;show ap r*V.dot u (ls x q (pt l i))<=ap q*V.dot u (ls y r (pt m j));omega
 ·intro hm;obtain⟨i,i1,i2⟩:=Dy u (l.map (ls x q)) (l.length-1);obtain⟨j,k,f⟩:=Dy u.neg (m.map (ls y r)) (m.length-1);have:=hm i j j1 j1
  rw[i2,f,Ai _ (show i<l.length by omega),Ai _ (show j<m.length by omega),jC,Int.neg_neg,zIa,zIa _ (ap q)]
  exact this
def Qy(h:PairOk x y q r l m)(hl:Hul l)(hm:Hul m)(hF:Fac l F E)(hG:Fac m G E'){u:V}(S:u≠V.zero)(hu:¬ jk u x y q r l m<0):(fG x y q r l m (vX q r l m F G E E')).2.isSome=true:=by
 have Q:=(ct h.pa.hq h.pa.h0).1;have R:=(ct h.pb.hq h.pb.h0).1;have D:ap q≠0:=j1
 have K:ap r≠0:=j1
 obtain⟨m0,d0,h0⟩:=hl.ex;obtain⟨n,d,p,J,hc⟩:=sat (A:=fq x q l) (B:=fq y r m) (Na:=l.length) (Nb:=m.length) (s:=ap q) (t:=ap r) Q R h.na h.nb (λ{v} N i M=>by obtain⟨k,hk,g⟩:=lj h0 i (pN D N);exact⟨k,hk,by rw[wQ,jD];exact g⟩) S ((qo h u).1 hu)
 have nz:=Fh d;have C:aZ n.neg=1:=by rw[qb];exact p
 have I:¬ jk n.neg x y q r l m<0:=(qo h n.neg).2 λi j M Y=>by simp_all [jC,zGb]
 have fin:n.neg∈vX q r l m F G E E'->(fG x y q r l m (vX q r l m F G E E')).2.isSome=true:=λZ=>by obtain⟨m1,m2⟩:=J7 (mg:=λu=>jk u x y q r l m) (vl:=λu=>AU u x y q r l m) (vX q r l m F G E E');grind [fG]
 refine fin ?_;by_cases cb:∃ i j k,gq (fq y r m) m.length n i/\gq (fq y r m) m.length n j/\gq (fq y r m) m.length n k/\cR (fq y r m) i j k≠V.zero
 ·obtain⟨i,j,k,t1,t2,t3,h3⟩:=cb;exact List.mem_append_left _ (zLa _ (zNa.2 ⟨n,u6 K hm hG d p t1 t2 t3 h3,rfl⟩))
 by_cases ca:∃ i j k,gq (fq x q l) l.length n.neg i/\gq (fq x q l) l.length n.neg j/\gq (fq x q l) l.length n.neg k/\cR (fq x q l) i j k≠V.zero
 ·obtain⟨i,j,k,t1,t2,t3,h3⟩:=ca;exact List.mem_append_left _ (List.mem_append_left _ (u6 D hl hF nz C t1 t2 t3 h3))
 rcases hc with hc|hc|⟨i,j,k,o,t1,t2,t3,t4,hx⟩
 ·grind
 ·grind
 ·have w1:wy (fq y r m) i j≠V.zero:=λe=>hx (by rw[e];apply V.ext'<;>simp[V.cross,V.zero])
  have T:wy (fq x q l) k o≠V.zero:=λe=>hx (by rw[e];apply V.ext'<;>simp[V.cross,V.zero])
  obtain⟨f,hf,b⟩:=xH K hm hG d t1 t2 w1 λz H=>Classical.byContradiction λc=>cb ⟨i,j,z,t1,t2,H,c⟩;obtain⟨e,he,a⟩:=xH D hl hF nz t3 t4 T λz H=>Classical.byContradiction λc=>ca ⟨k,o,z,t3,t4,H,c⟩;have d1:=ou t1 t2;have d2:=ou t3 t4;rw[jC] at d2;have O:V.dot n (mK r m f)=0:=by
   rcases b with b|b
   ·simp_all
   ·rw[b,show ∀ w:V,V.dot n w.neg=-V.dot n w from λw=>by simp only[V.dot,V.neg];grind];omega
  have P:V.dot n (mK q l e)=0:=by
   rcases a with a|a
   ·rw[a];omega
   ·rw[a,show ∀ w:V,V.dot n w.neg=-V.dot n w from λw=>by simp only[V.dot,V.neg];grind];omega
  have L:V.cross (mK q l e) (mK r m f)≠V.zero:=λc=>hx (by have U:=zna V.x c;have W:=zna V.y c;have X:=zna V.z c;rcases b with b|b<;>rcases a with a|a<;>rw[b,a] at U W X<;>(apply V.ext'<;>simp only[V.cross,V.neg,V.zero] at *<;>grind))
  have pp:=Cj d p L (eD P O);refine zLa _ (zQa.2 ⟨e,he,zQa.2 ⟨f,hf,?_⟩⟩);rcases pp with pp|pp
  ·rw[pp];simp
  ·rw[pp,Ql];simp
end
def EL(X:Int){D:Int}(h:0<D):((Rat.divInt X D).den:Int) ∣ D:=by
 have h2:=(zr X (show D≠0 by omega)).2
 obtain⟨k,hk⟩:=h2;exact⟨k,j1⟩
def kM{X Y D:Int}{p q:Nat}(A:X.natAbs<=2^p)(B:Y.natAbs<=2^p)(z:D.natAbs<=2^q)(h0:0<D)(hp:p<=500)(hq:q<=500):addW (some (Rat.divInt X D)) (some (Rat.divInt Y D))=some (Rat.divInt (X+Y) D):=by
 have ex:=dj (a:=X) (b:=D) j1
 have s:=dj (a:=Y) (b:=D) j1
 have l:=EL X h0;have m:=EL Y h0;have n:Rat.divInt X D+Rat.divInt Y D=Rat.divInt (X+Y) D:=by rw[zwc _ _ j1 j1,<-Int.add_mul,Rat.divInt_mul_right j1]
 obtain⟨g,a,b,C,t,h,f,a0,G,o,r⟩:=FD (Rat.divInt X D) (Rat.divInt Y D);generalize Rat.divInt X D=x at *;generalize Rat.divInt Y D=y at *;have ld:((x.den:Nat):Int)*b ∣ D:=by
  have h1:x.den ∣ D.natAbs:=z7a.1 l;have h2:y.den ∣ D.natAbs:=z7a.1 m;have h3:=Nat.lcm_dvd h1 h2;have w:Nat.lcm x.den y.den=x.den*b:=by
   unfold Nat.lcm;rw[<-C]
   conv=>lhs;rw[f]
   rw[<-zHb,zab x.den g,zHb,Nat.mul_div_cancel_left _ t]
  rw[w] at h3;rw[<-z1a];exact z7a.2 h3
 obtain⟨e,he⟩:=ld;have H:0<e:=by
  have:0<(x.den:Int)*b:=zCa (by have:=x.den_pos;omega) j1
  exact gU this (by rw[<-he];exact h0)
 have I:(0:Int)<x.den:=by have:=x.den_pos;omega
 have J:(0:Int)<y.den:=by have:=y.den_pos;omega
 have c:(y.den:Int)*a=x.den*b:=by rw[h,f,z1a,z1a];grind
 have E:x.num*b*e=X:=by
  have:(x.den:Int)*(x.num*b*e)=x.den*X:=by rw[zIa _ X,<-ex,he];grind
  exact Int.eq_of_mul_eq_mul_left j1 this
 have F:y.num*a*e=Y:=by
  have:(y.den:Int)*(y.num*a*e)=y.den*Y:=by rw[zIa _ Y,<-s,he,<-c];grind
  exact Int.eq_of_mul_eq_mul_left j1 this
 have small:∀ {u v:Int} {k:Nat},u*e=v->v.natAbs<=2^k->u.natAbs<=2^k:=λ{u v k} h1 h2=>by
  have:u.natAbs*e.natAbs=v.natAbs:=by rw[<-h1,zOa]
  have h3:u.natAbs*1<=u.natAbs*e.natAbs:=zCb _ j1
  omega
 have i:=small E A;have j:=small F B;have i1:In (x.num*b):=ff j1 i
 have i2:In (y.num*a):=ff j1 j
 have i3:In (x.num*b+y.num*a):=ff (k:=p+1) j1 (cq i j)
 have i4:In ((a:Int)*y.den):=ff (k:=q) j1 (small (v:=D) (by rw[zIa (a:Int),c,<-he]) z)
 have d:(a:Int)*y.den≠0:=z5b j1 j1
 simp only[addW,AZ,o,r];rw[kj i1,kj i2,Ep i3,kj i4];simp only[oA];rw[zia d,sQ h f d,n]
def Fac.small{l:List V}{F:FL}{E:List (Nat×Nat)}(h:Fac l F E)(hl:l.length<=10):F.length<=2000/\E.length<=100:=by
 constructor
 ·have nd:(F.map Prod.fst).Nodup:=by
   refine zrd.2 (h.kn.fok.ord.imp λ{a b} d e=>?_);rw[e] at d;exact n9 _ d
  have:=z2b (l₂:=xq l) nd λq hq=>by obtain⟨f,hf,rfl⟩:=zNa.1 hq;exact xP (h.kn.fok.ok f hf).1
  rw[zta] at this;refine zHa this ?_;unfold xq;rw[kD (c:=l.length*(l.length*2)) _ (λi _=>by rw[kD (c:=l.length*2) _ (λj _=>by rw[kD (c:=2) _ (λk _=>rfl),zsb]),zsb]),zsb]
  have a1:l.length*2<=20:=j1
  have a2:l.length*(l.length*2)<=10*20:=z5a hl a1;exact z5a hl a2
 ·rw[h.e];exact zHa (A1 _ _ _) (z5a hl hl)
def yo{a b:Option Rat}{z:Rat}(h:mulW a b=some z):∃ x y,a=some x/\b=some y/\z=x*y:=by
 cases a with
 | none=>simp only[mulW] at h;cases h
 | some x=>cases b with
  | none=>simp only[mulW] at h;cases h
  | some y=>exact⟨x,y,rfl,rfl,JD h⟩
def rt{a b:Option Rat}{z:Rat}(h:addW a b=some z):∃ x y,a=some x/\b=some y/\z=x+y:=by
 cases a with
 | none=>simp only[addW] at h;cases h
 | some x=>cases b with
  | none=>simp only[addW] at h;cases h
  | some y=>exact⟨x,y,rfl,rfl,HW h⟩
def Hd{a b:Option Rat}{z:Rat}(h:CH a b=some z):∃ x y,a=some x/\b=some y/\z=x+-y:=by
 obtain⟨x,y,h1,h2,h3⟩:=rt h;cases b with
 | none=>cases h2
 | some w=>cases h2;exact⟨x,w,h1,rfl,h3⟩
def BR:Rat:=((4611686018427387904:Int):Rat)
def Hj(v:Rat):Prop:=-BR<=v/\v<=BR
def MC(p:WV):Prop:=xl p/\∀ i,∀ v,p i=some v->Hj v
def Ky{X s:Int}(b:-4611686018427387904<=X/\X<=4611686018427387904)(hs:0<s):Hj (Rat.divInt X s):=by
 have e:BR=Rat.divInt 4611686018427387904 1:=by rw[div_one];rfl
 have a:-BR=Rat.divInt (-4611686018427387904) 1:=by rw[e,Rat.neg_divInt]
 constructor
 ·rw[a,fh j2 hs];omega
 ·grind [fh,decide]
def KA{a b t:Rat}(c:Hj a)(d:Hj b)(h0:0<t)(h1:t<1):Hj (a+t*(b+-a)):=by
 have e:0<=t:=Rat.le_of_lt h0;have f:0<=1-t:=h7
 have m1:=Rat.mul_nonneg f (show 0<=BR-a by have:=c.2;grind)
 have m2:=Rat.mul_nonneg e (show 0<=BR-b by have:=d.2;grind)
 have m3:=Rat.mul_nonneg f (show 0<=BR+a by have:=c.1;grind)
 have m4:=Rat.mul_nonneg e (show 0<=BR+b by have:=d.1;grind)
 constructor
 ·grind
 ·grind
def yD{x:V}{q:Nat->Int}(h:PoseOk x q){l:List V}(hl:∀ v∈l,bd 4096 v){k:Nat}(hk:k<l.length):MC (qA x q l k):=by refine⟨Qq h hl hk,λi v a=>?_⟩;cases a;have b:=vS h (hl _ (gD hk));refine Ky ?_ (ct h.hq h.h0).1;grind [bd,PB,aC]
def SK{x:Rat}(h:sg x.num>0):0<x:=by
 have h1:¬ x.num<0:=λhn=>by rw[At hn] at h;omega
 have h2:x.num≠0:=λhn=>by rw[hn] at h;revert h;decide
 rw[Rat.lt_iff];simp;omega
def eC(L:List WV):(L.map be).length=L.length:=zta ..
section
variable{x y:V}{q r:Nat->Int}{l m:List V}{F G:FL}{E E':List (Nat×Nat)}
def zF(x y:V)(q r:Nat->Int)(F G:FL)(p:WV):Bool:=decide (eN x q F p ≥ 0)&&decide (eN y r G p ≥ 0)
def OX(n:Nat)(h:PairOk x y q r l m)(hF:Fac l F E)(hG:Fac m G E'){p:WV}(hp:xl p):∃ e:Int,cA (n+1036) 423 [dN x q,de l,be p]=some (I e)/\(if decide (e ≥ 0)=true then (D.get (fM y r m) [0]).bind λb=>(D.get (fM y r m) [1]).bind λc=>(cA (n+1036) 423 [b,c,be p]).bind λa=>(ab7 .geq a (D.int .i64 0)).bind λd=>D.truth d else some false)=some (zF x y q r F G p):=by
 refine⟨_,MW n h.pa hF.fb hF.h18 hp,?_⟩;unfold zF;by_cases hz:eN x q F p ≥ 0
 ·rw[zha hz,zDb];exact gI (j0 (dN y r) (j0 (de m) (aa (MW n h.pb hG.fb hG.h18 hp) (aa io ac))))
 ·grind
def iZ(x y:V)(q r:Nat->Int)(F G:FL)(p:WV):List WV:=if zF x y q r F G p=true then[p] else[]
def uj{x y:V}{q r:Nat->Int}{F G:FL}{p:WV}(h:zF x y q r F G p=true):iZ x y q r F G p=[p]:=zma h
def E2{x y:V}{q r:Nat->Int}{F G:FL}{p:WV}(h:zF x y q r F G p=false):iZ x y q r F G p=[]:=zia (by rw[h];decide)
def Oo(x:V)(q:Nat->Int)(l:List V)(e:Nat×Nat):WV:=dX (qA x q l e.2) (qA x q l e.1)
def wv(x:V)(q r:Nat->Int)(l:List V)(e:Nat×Nat)(f:(V×Int)×List Nat):Option Rat:=rW (lJ (az r f.1.1)) (Oo x q l e)
def pU(x y:V)(q r:Nat->Int)(l:List V)(e:Nat×Nat)(f:(V×Int)×List Nat):Option Rat:=uV (CH (some ((ap r*f.1.2:Int):Rat)) (rW (lJ (az r f.1.1)) (dX (qA x q l e.1) (lJ y)))) (wv x q r l e f)
def II(x y:V)(q r:Nat->Int)(l:List V)(e:Nat×Nat)(f:(V×Int)×List Nat):WV:=tB (qA x q l e.1) (D8 (pU x y q r l e f) (Oo x q l e))
def mY(x y:V)(q r:Nat->Int)(l:List V)(F G:FL)(e:Nat×Nat)(f:(V×Int)×List Nat):List WV:=
 if CA (wv x q r l e f)=0 then[] else if(decide (CA (pU x y q r l e f)>0)&&decide (jd (pU x y q r l e f) (some ((1:Int):Rat))<0))=true then iZ x y q r F G (II x y q r l e f) else[]
def lg(x y:V)(q r:Nat->Int)(l:List V)(F G:FL)(E:List (Nat×Nat)):List WV:=
 (List.range l.length).flatMap (λk=>iZ x y q r F G (qA x q l k))++E.flatMap λe=>G.flatMap λf=>mY x y q r l F G e f
def n7{x y:V}{q r:Nat->Int}{F G:FL}{p:WV}:(iZ x y q r F G p).length<=1:=by unfold iZ;split<;>simp
def Bh{e:Nat×Nat}{f:(V×Int)×List Nat}:(mY x y q r l F G e f).length<=1:=by
 unfold mY;split
 ·simp
 ·split
  ·exact n7
  ·simp
def sa{x y:V}{q r:Nat->Int}{F G:FL}{p w:WV}(h:w∈iZ x y q r F G p):w=p:=by all_goals simp_all [iZ]
def IJ(h:PairOk x y q r l m){e:Nat×Nat}(he:e.1<l.length/\e.2<l.length){f:(V×Int)×List Nat}(d:(decide (CA (pU x y q r l e f)>0)&&decide (jd (pU x y q r l e f) (some ((1:Int):Rat))<0))=true):MC (II x y q r l e f):=by
 simp only[zaa,zfa] at d;have z:=yD h.pa h.la he.1;have A:=yD h.pa h.la he.2;refine⟨λi=>lQ _ _,λj v u=>?_⟩;obtain⟨a,b,h3,n,rfl⟩:=rt u;obtain⟨t,w,o,p,rfl⟩:=yo n;rw[o] at d;have t1:t<1:=by all_goals grind [j9]
 have c:CH (qA x q l e.2 j) (qA x q l e.1 j)=some w:=p;obtain⟨k,a1,s,g,rfl⟩:=Hd c;rw[h3] at g;cases g;exact KA (z.2 j a h3) (A.2 j k s) (SK d.1) t1
def zU(h:PairOk x y q r l m)(hF:Fac l F E):∀ p∈lg x y q r l F G E,MC p:=λp hp=>by
 rcases List.mem_append.1 hp with hp|hp
 ·obtain⟨k,hk,hp⟩:=zQa.1 hp;rw[sa hp];exact yD h.pa h.la (zXa.1 hk)
 ·obtain⟨e,he,hp⟩:=zQa.1 hp;obtain⟨f,hf,hp⟩:=zQa.1 hp;unfold mY at hp;split at hp
  ·cases hp
  ·split at hp
   ·rename_i a;rw[sa hp];exact IJ h (hF.lt e he) a
   ·cases hp
def qs(h:PairOk x y q r l m)(hF:Fac l F E)(hG:Fac m G E'):(lg x y q r l F G E).length<=300000:=by
 obtain⟨sF,b⟩:=hF.small h.ta;obtain⟨c,a⟩:=hG.small h.tb;have ta:=h.ta;unfold lg;rw[zua];have a1:=jF (E:=List.range l.length) (g:=λk=>iZ x y q r F G (qA x q l k)) (k:=1) (λ_ _=>n7);have a2:=jF (E:=E) (g:=λe=>G.flatMap λf=>mY x y q r l F G e f) (k:=2000) (λe _=>by have:=jF (E:=G) (g:=λf=>mY x y q r l F G e f) (k:=1) (λ_ _=>Bh);omega)
 grind
def OE(n:Nat)(h:PairOk x y q r l m)(hF:Fac l F E)(hG:Fac m G E'):cA (n+1037) 443 [fM x q l,fM y r m]=some (.sl ((lg x y q r l F G E).map be)):=by
 obtain⟨sF,sE⟩:=hF.small h.ta;obtain⟨Y,X⟩:=hG.small h.tb;have ta:=h.ta;rw[Zk];delta Mn qG qB qC qT qS qX qP qV qW qZ iL iR Jn;refine aa (z:=(lg x y q r l F G E).map be) ?_ rfl;refine j0 (bD (l.map (ls x q))) (j0 ((l.map (ls x q)).map ae) ?_);have P:((l.map (ls x q)).map ae).length=l.length:=j3
 refine cD (λk s=>s=[I (k:Int),.sl (((List.range k).flatMap λk=>iZ x y q r F G (qA x q l k)).map be)]) l.length 0 (zxa _) rfl (λk hk s c=>?_) (λs c=>?_)
 ·subst c;left;refine⟨_,?_,rfl⟩;have W:=yD h.pa h.la hk;obtain⟨Z,v,w⟩:=OX n h hF hG W.1;have O:=jF (E:=List.range k) (g:=λk=>iZ x y q r F G (qA x q l k)) (k:=1) (λ_ _=>n7);rw[zsb] at O;rw[z8b,List.flatMap_append,List.flatMap_cons,List.flatMap_nil,zvb];generalize (List.range k).flatMap (λk=>iZ x y q r F G (qA x q l k))=L at *;refine aa af (aa ac (aO (by rw[P];omega) (aa (PA (n+4) h.pa h.la hk) (j0 (dN x q) (j0 (de l) (aa v (aa io (aa ac (aa w (aa ac ?_))))))))))
  cases hb:zF x y q r F G (qA x q l k) with
  | true=> rw[uj hb];exact gI ((zma (by show(L.map be).length+1<=_;rw[eC];omega)).trans (aa (bc (a:=k) (b:=1) j1) (by rw[zLb];rfl)))
  | false=> rw[E2 hb,zvb];exact rT (aa (bc (a:=k) (b:=1) j1) rfl)
 ·subst c;refine⟨_,aa af (aa ac (aU (by rw[P];omega) rfl)),?_⟩
  obtain⟨L0,d⟩:∃ L0,(List.range l.length).flatMap (λk=>iZ x y q r F G (qA x q l k))=L0:=⟨_,rfl⟩;have l0:=jF (E:=List.range l.length) (g:=λk=>iZ x y q r F G (qA x q l k)) (k:=1) (λ_ _=>n7);rw[zsb,d] at l0;unfold lg;rw[d];refine j0 (de m) (aa (hG.h18 (n+1028)) (j0 (de l) (aa (hF.h21 (n+1027)) (j0 (E.map jf) ?_))));refine cD (λi s=>s=[I (i:Int),.sl ((L0++(E.take i).flatMap λe=>G.flatMap λf=>mY x y q r l F G e f).map be)]) E.length 0 (zxa _) (by rw[List.take_zero,List.flatMap_nil,zvb];rfl) (λi o s c=>?_) (λs c=>?_)
  ·subst c;left;refine⟨_,?_,rfl⟩;obtain⟨h1,h2⟩:=hF.lt E[i] (zDa o);have u:=yD h.pa h.la h1;have Q:=yD h.pa h.la h2;have ow:=so (qA x q l E[i].2) (qA x q l E[i].1);have N:∀ (e:Nat×Nat) (M:FL),M.length<=2000->(M.flatMap λf=>mY x y q r l F G e f).length<=2000:=λe M hM=>by
    have:=jF (E:=M) (g:=λf=>mY x y q r l F G e f) (k:=1) (λ_ _=>Bh);omega
   have O:=jF (E:=E.take i) (g:=λe=>G.flatMap λf=>mY x y q r l F G e f) (k:=2000) (λe _=>N e G Y);have:(E.take i).length*2000<=100*2000:=zMa _ (by rw[zcb];omega)
   rw[nV _ o,<-zPa];obtain⟨L1,A⟩:∃ L1,L0++(E.take i).flatMap (λe=>G.flatMap λf=>mY x y q r l F G e f)=L1:=⟨_,rfl⟩;have l1:L1.length<=200010:=h7
   rw[A];refine aa af (aa ac (aO (by rw[lc];omega) (j0 (E.map jf) (aa (z:=i) (by rw[lc];exact aq o) (aa (Si o) ?_)))))
   refine j0 (I (E[i].1:Int)) (aa (PA (n+4) h.pa h.la h1) (j0 (I (E[i].2:Int)) (aa (PA (n+4) h.pa h.la h2) (aa (Py (n+3) Q.1 u.1) (j0 (aS G) ?_)))));obtain⟨e,T⟩:∃ e,E[i]=e:=⟨_,rfl⟩;rw[T] at h1 h2 u Q ow ⊢;refine cD (λk s=>s=[I (k:Int),.sl ((L1++(G.take k).flatMap λf=>mY x y q r l F G e f).map be)]) G.length 0 (zxa _) (by rw[List.take_zero,List.flatMap_nil,zvb];rfl) (λk hk s c=>?_) (λs c=>?_)
   ·subst c;left;refine⟨_,?_,rfl⟩;obtain⟨g1,g2⟩:=hG.fb.2 G[k] (zDa hk);have J:=wI h.pb.hq (FZ g1);have hy:∀ i,inR (aC y i):=kW (by have:=h.pb.hx;simp only[bd] at this;simp only[inR];omega) (by have:=h.pb.hx;simp only[bd] at this;simp only[inR];omega) (by have:=h.pb.hx;simp only[bd] at this;simp only[inR];omega)
    have sk:=Fw h.pb g2;have lk:=N e (G.take k) (by rw[zcb];omega)
    rw[nV _ hk,<-zPa];obtain⟨L,S⟩:∃ L,L1++(G.take k).flatMap (λf=>mY x y q r l F G e f)=L:=⟨_,rfl⟩;have V:L.length<=202010:=h7
    rw[S];refine aa af (aa ac (aO (by rw[bh];omega) (aa (z:=(0,[.sl ((L++mY x y q r l F G e G[k]).map be)])) ?_ (aa (bc (a:=k) (b:=1) j1) rfl))))
    obtain⟨f,U⟩:∃ f,G[k]=f:=⟨_,rfl⟩;have K:=gd hk;rw[U] at g1 g2 J sk K ⊢;refine j0 (aS G) (aa (z:=k) (by rw[bh];exact aq hk) (aa K (j0 (tU r) (j0 (ae f.1.1) (aa (z:=ae (az r f.1.1)) (EG (n+1033) h.pb.hq (FZ g1)) (aa (PF (n+2) J ow) ?_))))))
    have j:OW (wv x q r l e f):=zI _ _;unfold mY;rw[show rW (lJ (az r f.1.1)) (dX (qA x q l e.2) (qA x q l e.1))=wv x q r l e f from rfl];refine aa (Px (n+5) j) (aa (z:=decide (CA (wv x q r l e f)=0)) (by rw[show D.beq (I (CA (wv x q r l e f))) (D.int .i64 0)=decide (CA (wv x q r l e f)=0) from cg];exact ac) ?_)
    by_cases hs0:CA (wv x q r l e f)=0
    ·rw[zma hs0,zvb];exact aO hs0 rfl
    rw[zia hs0];refine aU hs0 ?_;have of:=FC (some ((ap r*f.1.2:Int):Rat)) (rW (lJ (az r f.1.1)) (dX (qA x q l e.1) (lJ y)));refine j0 (I (ap r)) (j0 (I f.1.2) (aa (cw sk) (aa (OF (n+4) sk) (j0 (ae y) (aa (ED (n+3) hy) (aa (Py (n+3) u.1 (AI hy)) (aa (PF (n+2) J (so _ _)) ?_)))))));refine aa (OB (n+4) (a:=some ((ap r*f.1.2:Int):Rat)) (bU (uB (bC sk))) (zI _ _)) (aa (Im (n+4) of j) ?_);rw[show uV (CH (some ((ap r*f.1.2:Int):Rat)) (rW (lJ (az r f.1.1)) (dX (qA x q l e.1) (lJ y)))) (wv x q r l e f)=pU x y q r l e f from rfl];have H:OW (pU x y q r l e f):=EP _ _;have R:=IJ h (e:=e) ⟨h1,h2⟩ (f:=f);have B:tB (qA x q l e.1) (D8 (pU x y q r l e f) (dX (qA x q l e.2) (qA x q l e.1)))=II x y q r l e f:=rfl;generalize II x y q r l e f=p at *;generalize pU x y q r l e f=t at *;refine aa (Px (n+5) H) (aa dM (aa ac ?_));have C:=Is (n+5) H (bU (uB (bC (ew 1))));refine aa (z:=decide (CA t>0)&&decide (jd t (some ((1:Int):Rat))<0)) (by
     by_cases h1:CA t>0
     ·rw[zha h1,zDb];exact gI (aa (OF (n+4) (ew 1)) (aa C (aa af ac)))
     ·rw[zea h1];rfl) (aa ac ?_)
    cases hb:(decide (CA t>0)&&decide (jd t (some ((1:Int):Rat))<0)) with
    | false=>rw[zia j2,zia j2,zvb];rfl
    | true=>
     rw[zma rfl,zma rfl];obtain⟨Z,v,w⟩:=OX n h hF hG (R hb).1;refine aa (RQ (n+4) H ow) (aa (OC (n+4) u.1 (FG _ _)) ?_);rw[B];refine j0 (dN x q) (j0 (de l) (aa v (aa io (aa ac (aa w (aa ac ?_))))));cases hq:zF x y q r F G p with
     | true=> rw[uj hq];exact gI ((zma (by show(L.map be).length+1<=_;rw[eC];omega)).trans (by rw[zLb];rfl))
     | false=>rw[E2 hq,zvb];rfl
   ·subst c;refine⟨_,aa af (aa ac (aU (by rw[bh];omega) rfl)),?_⟩
    rw[zhb (zja _)];exact aa (bc (a:=i) (b:=1) j1) rfl
  ·subst c;refine⟨_,aa af (aa ac (aU (by rw[lc];omega) rfl)),?_⟩
   rw[zhb (zja _)];rfl
end
def vD{α:Type}{body:Bd}{s s':List D}{k:Nat×List D->Option α}{Y:α->Prop}(h:body s=some (.inl s'))(hk:∃ y,(bf body s').bind k=some y/\Y y):∃ y,(bf body s).bind k=some y/\Y y:=by
 have:bf body s=bf body s':=dV h
 simp_all
def ND{α:Type}{body:Bd}{s:List D}{r:Nat×List D}{k:Nat×List D->Option α}{Y:α->Prop}(h:body s=some (.inr r))(hk:∃ y,k r=some y/\Y y):∃ y,(bf body s).bind k=some y/\Y y:=by
 have:bf body s=some r:=eH h
 simp_all
def W8(k i:Nat)(s:WV):Prop:=xl s/\∀ c v,s c=some v->∃ Z:Int,v=Rat.divInt Z (2^k)/\Z.natAbs<=i*(4611686018427387904*2^k)
def OK{k:Nat}{a:Option Rat}(f:∀ v,a=some v->Hj v){w:Rat}(h:tT k a=some w):∃ Z:Int,w=Rat.divInt Z (2^k)/\Z.natAbs<=4611686018427387904*2^k:=by
 cases a with
 | none=>cases h
 | some v=>
  obtain⟨v1,v2⟩:=f v rfl;unfold tT at h;rw[zba] at h;cases hn:fF (v.num*2^k) with
  | none=>rw[hn] at h;cases h
  | some s=>
   rw[hn] at h;cases h;have es:s=v.num*2^k:=by all_goals simp_all [fF]
   refine⟨_,rfl,?_⟩;have b:(0:Int)<v.den:=by have:=v.den_pos;omega
   have c:(0:Int)<2^k:=z2c j2
   have e:v.num<=4611686018427387904*v.den:=by
    have:=(Rat.le_iff v BR).1 v2
    simp_all [BR]
   have d:-(4611686018427387904*(v.den:Int))<=v.num:=by have:=(Rat.le_iff (-BR) v).1 v1;simp[BR] at this;omega
   have h1:s<=(4611686018427387904*2^k)*v.den:=by rw[es];have:=z3b e (zpa c);grind
   have h2:(-(4611686018427387904*2^k))*v.den<=s:=by rw[es];have:=z3b d (zpa c);grind
   have g:s/v.den<=4611686018427387904*2^k:=by
    have:=Int.ediv_le_ediv b h1
    rwa [Int.mul_ediv_cancel _ j1] at this
   have i:-(4611686018427387904*2^k)<=s/v.den:=(Int.le_ediv_iff_mul_le b).2 h2;grind
structure MeanB(m:WV)(D:Int)(a b:Nat):Prop where
 ow:xl m
 pos:0<D
 la:a<=260
 lb:b<=322
 le:D.natAbs<=2^a
 ex:∀ c v,m c=some v->∃ Z:Int,v=Rat.divInt Z D/\Z.natAbs<=2^b
def D6(k:Nat)(L:List WV):Nat->WV
 | 0=>lJ V.zero
 | i+1=>tB (D6 k L i) λc=>tT k (L.getD i (lJ V.zero) c)
def tx(k:Nat)(L:List WV):WV:=D8 (some (Rat.divInt 1 ((L.length:Nat):Int))) (D6 k L L.length)
def Bg:Nat->Nat
 | 0=>20
 | 1=>60
 | 2=>120
 | _=>240
def Zw:D:=D.st [D.st [D.st [D.bool false,D.bool false,ar aR],D.st [D.bool false,D.bool false,ar aR]],D.st [D.st [D.bool false,D.bool false,ar aR],D.st [D.bool false,D.bool false,ar aR]],D.st [D.st [D.bool false,D.bool false,ar aR],D.st [D.bool false,D.bool false,ar aR]]]
def H6(x y:V)(q r:Nat->Int)(F G:FL)(p:WV):Prop:=eN x q F p=1/\eN y r G p=1
section
variable{x y:V}{q r:Nat->Int}{l m:List V}{F G:FL}{E E':List (Nat×Nat)}
def kH(x y:V)(q r:Nat->Int)(l m:List V)(F G:FL)(E E':List (Nat×Nat)):List WV:=lg x y q r l F G E++lg y x r q m G F E'
def OD(n:Nat)(h:PairOk x y q r l m)(hF:Fac l F E)(hG:Fac m G E'):∃ (d:D) (b:Bool),cA (n+1038) 425 [dN x q,de l,dN y r,de m]=some (.tup [d,.bool b])/\(b=true->∃ (p:WV) (K:Int) (a b:Nat),d=be p/\MeanB p K a b/\eN x q F p=1/\eN y r G p=1)/\(b=false->d=Zw/\((kH x y q r l m F G E E').length<4\/∀ j,j<4->¬ H6 x y q r F G (tx (Bg j) (kH x y q r l m F G E E')))):=by
 suffices hs:∃ d,cA (n+1038) 425 [dN x q,de l,dN y r,de m]=some d/\∃ (d':D) (b:Bool),d=.tup [d',.bool b]/\(b=true->∃ (p:WV) (K:Int) (a b:Nat),d'=be p/\MeanB p K a b/\eN x q F p=1/\eN y r G p=1)/\(b=false->d'=Zw/\((kH x y q r l m F G E E').length<4\/∀ j,j<4->¬ H6 x y q r F G (tx (Bg j) (kH x y q r l m F G E E')))) by grind
 rw[Zd];delta Mh qB qC qT qS qX qJ qV qW qZ iL iR Jn;have U:=OE n h hF hG;have W:=OE n h.swap hG hF;have S:=zU (F:=F) (G:=G) h hF;have T:=zU (F:=G) (G:=F) h.swap hG;have n1:=qs h hF hG;have n2:=qs h.swap hG hF;refine aD (Ga (n+1033) h.pa h.la h.ka) (aD (Ga (n+1033) h.pb h.lb h.kb) (aD U (aD (z:=(lg x y q r l F G E).map be) rfl (aD W (aD (z:=(lg y x r q m G F E').map be) rfl ?_)))));obtain⟨Zv,C⟩:∃ Zv,Zw=Zv:=⟨_,rfl⟩;rw[show D.st [D.st [D.st [D.bool false,D.bool false,ar aR],D.st [D.bool false,D.bool false,ar aR]],D.st [D.st [D.bool false,D.bool false,ar aR],D.st [D.bool false,D.bool false,ar aR]],D.st [D.st [D.bool false,D.bool false,ar aR],D.st [D.bool false,D.bool false,ar aR]]]=Zv from C,C,zma (by rw[eC,eC];omega),<-zLb]
 have bL:∀ p∈kH x y q r l m F G E E',MC p:=λp hp=>(List.mem_append.1 hp).elim (S p) (T p);have nL:(kH x y q r l m F G E E').length<=600000:=by unfold kH;rw[zua];omega
 rw[show lg x y q r l F G E++lg y x r q m G F E'=kH x y q r l m F G E E' from rfl];generalize kH x y q r l m F G E E'=L at *;clear U W S T n1 n2;refine aD af (aD ac ?_);by_cases h4:(((L.map be).length:Nat):Int)<4
 ·exact ma h4 ⟨_,rfl,Zv,false,rfl,λh=>(by cases h),λ_=>⟨rfl,.inl (by rw[eC] at h4;omega)⟩⟩
 refine Nm h4 ?_;have l4:4<=L.length:=h7
 refine qn (λj s=>s=[.sl (L.map be),.sl [I 20,I 60,I 120,I 240],I (j:Int),Zv]/\∀ i,i<j->¬ H6 x y q r F G (tx (Bg i) L)) 4 0 (zxa _) ⟨rfl,λi w=>z3a w (Nat.not_lt_zero _)⟩ (λj hj s o=>?_) (λs o=>?_)
 ·obtain⟨rfl,u⟩:=o;obtain⟨k,hk,ek,O⟩:∃ k,IE k/\([I 20,I 60,I 120,I 240]:List D)[j]?=some (I (k:Int))/\Bg j=k:=by
   have:j=0\/j=1\/j=2\/j=3:=j1
   rcases this with rfl|rfl|rfl|rfl
   ·exact⟨20,.inl rfl,rfl,rfl⟩
   ·exact⟨60,.inr (.inl rfl),rfl,rfl⟩
   ·exact⟨120,.inr (.inr (.inl rfl)),rfl,rfl⟩
   ·exact⟨240,.inr (.inr (.inr rfl)),rfl,rfl⟩
  refine aD af (aD ac (ma (by show(j:Int)<4;omega) (aD (z:=j) (aq hj) (aD ek ?_))))
  have z0:∀ i,inR (aC V.zero i):=kW (ew 0) (ew 0) (ew 0);refine aD (ED (n+4) (v:=V.zero) z0) ?_;refine qn (λi s=>∃ t:WV,s=[.sl (L.map be),.sl [I 20,I 60,I 120,I 240],.sl (L.map be),I (i:Int),be t]/\W8 k i t/\t=D6 k L i) L.length 0 (zxa _) ⟨lJ V.zero,rfl,⟨AI z0,λc v B=>by
   cases B;refine⟨0,?_,j3⟩
   have:aC V.zero c=0:=by unfold aC;split<;>(try split)<;>rfl
   rw[this,Rat.zero_divInt];rfl⟩,rfl⟩ (λi w s o=>?_) (λs o=>?_)
  ·obtain⟨t,rfl,⟨R,ht⟩,g⟩:=o;obtain⟨p,f⟩:∃ p,L[i]=p:=⟨_,rfl⟩;have N:MC p:=f ▸ bL _ (zDa w);obtain⟨h0,e0⟩:=Pz (n+6) (N.1 0) hk;obtain⟨h1,e1⟩:=Pz (n+6) (N.1 1) hk;obtain⟨h2,e2⟩:=Pz (n+6) (N.1 2) hk;refine aD af (aD ac (ma (by show((i:Nat):Int)<(((L.map be).length:Nat):Int);rw[eC];omega) (aD (z:=L.map be) rfl (aD (z:=i) (by rw[eC];exact aq w) (aD (z:=be p) (by simp[w,f]) ?_)))))
   refine vD (s':=[.sl (L.map be),.sl [I 20,I 60,I 120,I 240],I 1,.st [bo (tT k (p 0)),bo (p 1),bo (p 2)]]) (j0 (.bool true) (j0 true (gI (j0 0 (j0 (bo (p 0)) (aa e0 (j0 (bo (tT k (p 0))) (j0 h0 (j0 0 (j0 (.st [bo (tT k (p 0)),bo (p 1),bo (p 2)]) (j0 (I 1) rfl))))))))))) ?_;refine vD (s':=[.sl (L.map be),.sl [I 20,I 60,I 120,I 240],I 2,.st [bo (tT k (p 0)),bo (tT k (p 1)),bo (p 2)]]) (j0 (.bool true) (j0 true (gI (j0 1 (j0 (bo (p 1)) (aa e1 (j0 (bo (tT k (p 1))) (j0 h1 (j0 1 (j0 (.st [bo (tT k (p 0)),bo (tT k (p 1)),bo (p 2)]) (j0 (I 2) rfl))))))))))) ?_;refine vD (s':=[.sl (L.map be),.sl [I 20,I 60,I 120,I 240],I 3,be λc=>tT k (p c)]) (j0 (.bool true) (j0 true (gI (j0 2 (j0 (bo (p 2)) (aa e2 (j0 (bo (tT k (p 2))) (j0 h2 (j0 2 (j0 (be λc=>tT k (p c)) (j0 (I 3) rfl))))))))))) ?_;refine ND (r:=(0,[.sl (L.map be),.sl [I 20,I 60,I 120,I 240],be λc=>tT k (p c)])) (aa af (aa ac (aU j2 rfl))) ?_
   have od:xl λc=>tT k (p c):=λc=>PO hk (N.1 c);have J:=OC (n+5) R od;refine⟨.inl [.sl (L.map be),.sl [I 20,I 60,I 120,I 240],.sl (L.map be),I ((i+1:Nat):Int),be (tB t λc=>tT k (p c))],aa J (aa (bc (a:=i) (b:=1) j1) rfl),tB t λc=>tT k (p c),rfl,⟨JR _ _,λc v B=>?_⟩,by rw[D6,<-g,show L.getD i (lJ V.zero)=p by rw[z2a,zca w];exact f]⟩
   obtain⟨a,b,h3,Q,rfl⟩:=rt B;obtain⟨Z1,rfl,z1⟩:=ht c a h3;obtain⟨Z2,rfl,z2⟩:=OK (N.2 c) Q;have M:(2:Int)^k≠0:=(Ae hk).2.2.1;refine⟨Z1+Z2,by rw[zwc _ _ M M,<-Int.add_mul,Rat.divInt_mul_right M],?_⟩
   grind
  ·obtain⟨t,rfl,⟨R,ht⟩,g⟩:=o;refine⟨.inr (0,[.sl (L.map be),.sl [I 20,I 60,I 120,I 240],be t]),aa af (aa ac (aU (by show ¬ (((L.length:Nat):Int)<(((L.map be).length:Nat):Int));rw[eC];omega) rfl)),?_⟩
   have Y:inR (((L.map be).length:Nat):Int):=by rw[eC];simp only[inR];omega
   have l0:(((L.map be).length:Nat):Int)≠0:=by rw[eC];omega
   have o1:OW (some (Rat.divInt 1 (((L.map be).length:Nat):Int))):=bU (dQ (bC (ew 1)) (bC Y) l0);obtain⟨p,f⟩:∃ p,D8 (some (Rat.divInt 1 (((L.map be).length:Nat):Int))) t=p:=⟨_,rfl⟩;have P:tx (Bg j) L=p:=by rw[<-f,O,g,eC];rfl
   have op:xl p:=f ▸ FG _ _;obtain⟨a0,ad⟩:∃ a,a=260:=⟨_,rfl⟩;obtain⟨b0,ai⟩:∃ b,b=322:=⟨_,rfl⟩;have A:MeanB p ((L.length:Int)*2^k) a0 b0:=by
    have X:k<=240:=h7
    have M:(0:Int)<2^k:=z2c j2
    refine⟨op,zCa j1 M,j1,j1,?_,λc v B=>?_⟩
    ·grind
    ·rw[<-f] at B;obtain⟨a,b,h3,Q,rfl⟩:=yo B;cases h3;obtain⟨Z,rfl,hz⟩:=ht c b Q;refine⟨Z,by rw[zNb,z1b,eC],zHa hz ?_⟩
     obtain⟨c0,aj⟩:∃ c,c=302:=⟨_,rfl⟩;grind
   refine aD (RJ (n+6) (ew 1) Y l0) (aD (RQ (n+5) o1 R) ?_);rw[f];refine aD (MW (n+1) h.pa hF.fb hF.h18 op) (aD (z:=decide (eN x q F p=1)) (by rw[show D.beq (I (eN x q F p)) (D.int .i64 1)=decide (eN x q F p=1) from cg];exact ac) ?_)
   refine aD (z:=decide (eN x q F p=1)&&decide (eN y r G p=1)) (by
    by_cases h1:eN x q F p=1
    ·rw[zha h1,zDb];refine gI (aa (MW (n+1) h.pb hG.fb hG.h18 op) ?_);rw[show D.beq (I (eN y r G p)) (D.int .i64 1)=decide (eN y r G p=1) from cg];exact ac
    ·rw[zea h1];rfl) (aD ac ?_)
   cases H:(decide (eN x q F p=1)&&decide (eN y r G p=1)) with
   | true=> simp only[zaa,zfa] at H;exact⟨.inr (0,[.bool true,be p]),rfl,_,rfl,be p,true,rfl,λ_=>⟨p,_,_,_,rfl,A,H.1,H.2⟩,λh=>by cases h⟩
   | false=>exact⟨.inl [.sl (L.map be),.sl [I 20,I 60,I 120,I 240],I ((j+1:Nat):Int),Zv],rT (aa (bc (a:=j) (b:=1) j1) rfl),rfl,λi w=>by
    by_cases e:i=j
    ·subst e;rw[P];intro hn;rw[zha hn.1,zha hn.2] at H;exact z3a H j2
    ·exact u i j1⟩
 ·obtain⟨rfl,u⟩:=o;exact⟨.inr (1,[Zv]),aa af (aa ac (aU j2 rfl)),_,rfl,Zv,false,rfl,λh=>(by cases h),λ_=>⟨rfl,.inr u⟩⟩
end
theorem zK{q:Nat->Int}{p:WV}{F:FL}:∀ k,k<=F.length->zJ q p F k<=1/\∀ i,(h:i<F.length)->i<k->zJ q p F k<=qe q p F[i]
 | 0,_=>⟨zjc _,λi h a=>j1⟩
 | k+1,hk=>by
  obtain⟨h1,h2⟩:=zK (q:=q) (p:=p) (F:=F) k j1
  rw[nZ (show k<F.length by omega)]
  refine⟨j1,λi h a=>?_⟩
  by_cases e:i=k
  ·subst e;omega
  ·have:=h2 i h j1;omega
def BL{x:V}{q:Nat->Int}{F:FL}{p:WV}(h:eN x q F p=1):wW p=false/\∀ f∈F,1<=qe q (dX p (lJ x)) f:=by
 unfold eN at h;cases hb:wW p with
 | true=>rw[hb,zma rfl] at h;exact z3a h j2
 | false=>
  rw[hb,zia j2] at h
  refine⟨rfl,λf hf=>?_⟩;obtain⟨i,a,rfl⟩:=zZa hf;have:=(zK (q:=q) (p:=dX p (lJ x)) F.length (zja _)).2 i a a;omega
def Qj{p:WV}{K:Int}{a b:Nat}(h:MeanB p K a b)(c:wW p=false):∃ M:V,(∀ i,i<3->p i=some (Rat.divInt (aC M i) K))/\∀ i,(aC M i).natAbs<=2^b:=by
 simp only[wW,Bool.not_eq_false',zaa,Option.isSome_iff_exists] at c;obtain⟨⟨v0,d⟩,⟨v1,e⟩,⟨v2,f⟩⟩:=c;obtain⟨Z0,rfl,z0⟩:=h.ex 0 v0 d;obtain⟨Z1,rfl,j⟩:=h.ex 1 v1 e;obtain⟨Z2,rfl,z2⟩:=h.ex 2 v2 f;refine⟨⟨Z0,Z1,Z2⟩,λi g=>?_,λi=>?_⟩
 ·have:i=0\/i=1\/i=2:=j1
  rcases this with rfl|rfl|rfl<;>assumption
 ·unfold aC;split<;>(try split)<;>assumption
def se{x:Int}{k m:Nat}(h:x.natAbs<=2^k)(hk:k<=m):x.natAbs<=2^m:=zHa h (zGa j2 hk)
def nM(A B:V)(i:Nat):aC (V.sub A B) i=aC A i+-aC B i:=by unfold aC;split<;>(try split)<;>simp only[V.sub]<;>omega
def pS(A B:V)(i:Nat):aC (V.add A B) i=aC A i+aC B i:=by unfold aC;split<;>(try split)<;>rfl
def fL(k:Int)(A:V)(i:Nat):aC (V.smul k A) i=k*aC A i:=by unfold aC;split<;>(try split)<;>rfl
def EX{N W:V}{w:WV}{K:Int}{a b:Nat}(h0:0<K)(hK:K.natAbs<=2^a)(hw:∀ i,i<3->w i=some (Rat.divInt (aC W i) K))(d:∀ i,(aC N i).natAbs<=2^63)(e:∀ i,(aC W i).natAbs<=2^b)(la:a<=300)(lb:b<=400):rW (lJ N) w=some (Rat.divInt (V.dot N W) K):=by
 have c:∀ i,(aC N i*aC W i).natAbs<=2^(b+63):=λi=>bz (d i) (e i) j1
 have m1:∀ i,i<3->mulW (lJ N i) (w i)=some (Rat.divInt (aC N i*aC W i) K):=λi g=>by
  rw[hw i g];show mulW (some ((aC N i:Int):Rat)) _=_;rw[(W9 (d i)).mulW (dR (e i) hK j1) j1 j1]
  congr 1;rw[<-div_one (aC N i),zNb,z1b]
 have f:V.dot N W=aC N 0*aC W 0+aC N 1*aC W 1+aC N 2*aC W 2:=rfl;unfold rW;rw[m1 0 j2,m1 1 j2,m1 2 j2,kM (c 0) (c 1) hK h0 j1 j1,kM (p:=b+64) (cq (c 0) (c 1)) (se (c 2) j1) hK h0 j1 j1,f]
def Ks{y:V}{r:Nat->Int}(h:PoseOk y r){v:V}(a:bd 549755813888 v)(i:Nat):(aC (az r v) i).natAbs<=2^63:=by have:=wI h.hq (FZ a) i;simp only[inR] at this;rw[show(2:Nat)^63=9223372036854775808 from rfl];omega
def qf{x:V}{q:Nat->Int}(h:PoseOk x q){p:WV}{K:Int}{a b:Nat}(hm:MeanB p K a b){M:V}(m:∀ i,i<3->p i=some (Rat.divInt (aC M i) K))(k:∀ i,(aC M i).natAbs<=2^b){f:(V×Int)×List Nat}(hf:bd 549755813888 f.1.1/\f.1.2.natAbs<=281474976710656) :
  rW (lJ (az q f.1.1)) (dX p (lJ x))=some (Rat.divInt (V.dot (az q f.1.1) (V.sub M (V.smul K x))) K):=by
 have j:=hm.pos;have la:=hm.la;have lb:=hm.lb;obtain⟨c,hc⟩:∃ c,c=330:=⟨_,rfl⟩;have l:∀ i,(aC x i).natAbs<=2^47:=λi=>by have:=h.hx;simp only[bd] at this;rw[show(2:Nat)^47=140737488355328 from rfl];unfold aC;split<;>(try split)<;>omega
 have g:∀ i,(-(K*aC x i)).natAbs<=2^c:=λi=>by rw[zFb,zIa];exact bz (l i) hm.le j1
 have d:∀ i,(aC M i).natAbs<=2^c:=λi=>se (k i) j1
 refine EX j hm.le (λi n=>?_) (Ks h hf.1) (b:=c+1) (λi=>by rw[nM,fL];exact cq (d i) (g i)) j1 j1
 show addW (p i) (some (-(aC x i:Rat)))=_;have e:-((aC x i:Int):Rat)=Rat.divInt (-(K*aC x i)) K:=by rw[<-Rat.neg_divInt,<-div_one (aC x i)];congr 1;rw[zIb j2 j1];grind
 rw[m i n,e,kM (d i) (g i) hm.le j j1 j1,nM,fL]
def Jb{x:V}{q:Nat->Int}(h:PoseOk x q){p:WV}{K:Int}{a b:Nat}(hm:MeanB p K a b){M:V}(d:∀ i,i<3->p i=some (Rat.divInt (aC M i) K))(c:∀ i,(aC M i).natAbs<=2^b){f:(V×Int)×List Nat}(hf:bd 549755813888 f.1.1/\f.1.2.natAbs<=281474976710656)(ht:1<=qe q (dX p (lJ x)) f) :
  V.dot (az q f.1.1) (V.sub M (V.smul K x))<ap q*f.1.2*K:=by
 unfold qe at ht;rw[qf h hm d c hf,j9] at ht;have j:=hm.pos;obtain⟨N,e⟩:∃ N,az q f.1.1=N:=⟨_,rfl⟩;obtain⟨W,g⟩:∃ W,W=V.sub M (V.smul K x):=⟨_,rfl⟩;rw[e,<-g] at ht ⊢;rcases zyb (V.dot N W) (ap q*f.1.2*K) with k|k
 ·exact k
 ·exfalso;have hle:((ap q*f.1.2:Int):Rat)<=Rat.divInt (V.dot N W) K:=by
   rw[<-div_one (ap q*f.1.2),fh j2 j];omega
  split at ht
  ·omega
  ·split at ht
   ·rename_i h2;exact z3a h2 (Rat.not_lt.2 hle)
   ·omega
def Ja{x:V}{q:Nat->Int}(h:PoseOk x q){p:WV}{K:Int}{a b:Nat}(hm:MeanB p K a b){M:V}(e:∀ i,i<3->p i=some (Rat.divInt (aC M i) K))(d:∀ i,(aC M i).natAbs<=2^b){f:(V×Int)×List Nat}(hf:bd 549755813888 f.1.1/\f.1.2.natAbs<=281474976710656)(j:V.dot (az q f.1.1) (V.sub M (V.smul K x))<ap q*f.1.2*K):qe q (dX p (lJ x)) f=1:=by
 have g:=hm.pos;unfold qe;rw[qf h hm e d hf,j9];have c:Rat.divInt (V.dot (az q f.1.1) (V.sub M (V.smul K x))) K<((ap q*f.1.2:Int):Rat):=by rw[<-Rat.not_le,<-div_one (ap q*f.1.2),fh j2 g];omega
 rw[zia (Rat.not_lt.2 (Rat.le_of_lt c)),zma c]
def I7{x:V}{q:Nat->Int}(h:PoseOk x q){l:List V}(hl:Hul l){F:FL}{E:List (Nat×Nat)}(hF:Fac l F E){p:WV}{K:Int}{a b:Nat}(hm:MeanB p K a b){M:V}(H:∀ i,i<3->p i=some (Rat.divInt (aC M i) K))(w:∀ i,(aC M i).natAbs<=2^b)(J:eN x q F p=1)(h0:0<l.length){u:V}(O:u≠V.zero) :
  ∃ i,i<l.length/\ap q*V.dot u M<K*V.dot u (fq x q l i):=by
 have N:=(ct h.hq h.h0).1;have L:ap q≠0:=j1
 have Q:=hm.pos;obtain⟨m0,d0,m⟩:=hl.ex;have v:=pN L O;obtain⟨i,t,f,_⟩:=ru (λk=>V.dot (bV q u) (pt l k)) l.length h0;obtain⟨W,s⟩:∃ W,W=V.sub M (V.smul K x):=⟨_,rfl⟩;have key:=H3 (P:=pt l) (W:=V.sub (bV q W) (V.smul (K*ap q) (pt l i))) t (λI=>lj m i I) (λn d hn o=>by
  obtain⟨g,e,c⟩:=zNa.1 ((hF.kn.facets.mem (n,d)).2 hn);have:=Jb h hm H w (hF.fb.2 g e) ((BL J).2 g e);rw[<-s,show g.1.1=n by rw[c],show g.1.2=d by rw[c]] at this
  have y:V.dot (az q n) W=V.dot n (bV q W):=by have:=jD q W n;rw[eG W,eG (bV q W)] at this;exact this
  have j:V.dot n (V.sub (bV q W) (V.smul (K*ap q) (pt l i)))=V.dot n (bV q W)-K*ap q*V.dot n (pt l i):=by simp only[V.dot,V.sub,V.smul];grind
  rw[j,<-y,(av.1 o).2];have r:K*ap q*d=ap q*d*K:=by rw[Int.mul_assoc,zIa]
  omega) v (λk hk=>by
  have:V.dot (bV q u) (pt l k)<=V.dot (bV q u) (pt l i):=f k hk;rw[bq];omega)
 refine⟨i,t,?_⟩;have j:V.dot (bV q u) (V.sub (bV q W) (V.smul (K*ap q) (pt l i)))=V.dot (bV q u) (bV q W)-K*ap q*V.dot (bV q u) (pt l i):=by simp only[V.dot,V.sub,V.smul];grind
 have r:V.dot (bV q u) (bV q W)=ap q*ap q*V.dot u W:=by rw[<-jD,lH];simp only[V.dot,V.smul];grind
 have z:=rN u x q l i;have D:V.dot u W=V.dot u M-K*V.dot u x:=by rw[s];simp only[V.dot,V.sub,V.smul];grind
 rw[j,r,D] at key;rw[z];generalize V.dot (bV q u) (pt l i)=A at *;generalize V.dot u M=B at *;generalize V.dot u x=C at *;have G:ap q*ap q*(B-K*C)-K*ap q*A=ap q*(ap q*B-K*(A+ap q*C)):=h7
 rw[G] at key;rcases zyb (ap q*B) (K*(A+ap q*C)) with k|k
 ·exact k
 ·have:=z9a (zpa N) (show 0<=ap q*B-K*(A+ap q*C) by omega);omega
section
variable{x y:V}{q r:Nat->Int}{l m:List V}{F G:FL}{E E':List (Nat×Nat)}
def JI(h:PairOk x y q r l m)(hl:Hul l)(hm:Hul m)(hF:Fac l F E)(hG:Fac m G E'){u:V}(e:u≠V.zero)(hu:¬ jk u x y q r l m<0){p:WV}{K:Int}{a b:Nat}(hp:MeanB p K a b)(h1:eN x q F p=1)(h2:eN y r G p=1):False:=by
 have t:=(ct h.pa.hq h.pa.h0).1;have v:=(ct h.pb.hq h.pb.h0).1;have s:=hp.pos;obtain⟨M,d,c⟩:=Qj hp (BL h1).1;obtain⟨i,n,f⟩:=I7 h.pa hl hF hp d c h1 h.na e;obtain⟨j,o,g⟩:=I7 h.pb hm hG hp d c h2 h.nb (Fh e);rw[jC,jC,zGb,zGb] at g;have k:=(qo h u).1 hu i j n o;have m1:=zmb f v;have m2:=zmb (show K*V.dot u (fq y r m j)<ap r*V.dot u M by omega) t
 have m3:=zka k (zpa s);generalize V.dot u M=B at *;generalize V.dot u (fq x q l i)=A at *;generalize V.dot u (fq y r m j)=C at *;have w:ap r*(ap q*B)=ap q*(ap r*B):=by rw[<-Int.mul_assoc,<-Int.mul_assoc,zIa (ap r)]
 have z:ap r*(K*A)=K*(ap r*A):=by rw[<-Int.mul_assoc,<-Int.mul_assoc,zIa (ap r)]
 have D:ap q*(K*C)=K*(ap q*C):=by rw[<-Int.mul_assoc,<-Int.mul_assoc,zIa (ap q)]
 omega
end
end Sy
end
noncomputable section
namespace Geo
open V
def part(P:Nat->V)(p:List Nat)(z:V):Int:=SN (λt=>ZS (shift (V.neg z) t)) (XS P p (p.length-2))
def t7(n u v w:V):T n u (add v w)=T n u v+T n u w:=by simp only[T,dot,cross,add];grind
def t6(n u v w:V):T n (add u v) w=T n u w+T n v w:=by simp only[T,dot,cross,add];grind
def t8(n u v:V):T n (neg u) v=- T n u v:=by simp only[T,dot,cross,neg];grind
def ua(n u v:V):T n u (neg v)=- T n u v:=by simp only[T,dot,cross,neg];grind
def y8(n u:V):T n u u=0:=by simp only[T,dot,cross];grind
def y9(n u:V):T n u zero=0:=by simp only[T,dot,cross,zero];grind
def nP(u v w:V):dot (add u v) w=dot u w+dot v w:=by simp only[dot,add];grind
def nQ(u v w:V):dot w (add u v)=dot w u+dot w v:=by simp only[dot,add];grind
def nS(u w:V):dot (neg u) w=- dot u w:=by simp only[dot,neg];grind
def nT(u w:V):dot w (neg u)=- dot w u:=by simp only[dot,neg];grind
def rm(w:V):dot zero w=0:=by simp[dot,zero]
section
variable{P:Nat->V}{N:Nat}
def jt{n:V}{d:Int}{a b c e:Nat}{u v:V}(o:aN P N n d=[a,b,c,e]\/aN P N n d=[a,b,e,c]\/aN P N n d=[a,c,b,e]\/aN P N n d=[a,c,e,b]\/aN P N n d=[a,e,b,c]\/aN P N n d=[a,e,c,b])
  (g:b≠a/\c≠b/\e≠c/\a≠e/\c≠a) (k:P b=add (P a) u) (l:P c=add (P a) (add u v)) (m:P e=add (P a) v) (hT:0<T n u v) (j:dot u v=0):bB P N n d [a,b,c,e]:=by
 have f:∀ x,x∈aN P N n d↔x=a\/x=b\/x=c\/x=e:=λx=>by rcases o with h|h|h|h|h|h<;>rw[h]<;>simp only[zBa,zdc,or_false]<;>grind
 have C:(aN P N n d).head?=some a:=by rcases o with h|h|h|h|h|h<;>rw[h]<;>rfl
 have i:dot v u=0:=by rw[eG];exact j
 have hu:=iC u;have F:=iC v;have q:wy P a b=u:=by apply V.ext'<;>simp only[wy,sub,k,add]<;>omega
 have r:wy P a c=add u v:=by apply V.ext'<;>simp only[wy,sub,l,add]<;>omega
 have s:wy P a e=v:=by apply V.ext'<;>simp only[wy,sub,m,add]<;>omega
 have t:wy P b a=neg u:=by apply V.ext'<;>simp only[wy,sub,k,add,neg]<;>omega
 have w:wy P b c=v:=by apply V.ext'<;>simp only[wy,sub,k,l,add]<;>omega
 have y:wy P b e=add (neg u) v:=by apply V.ext'<;>simp only[wy,sub,k,m,add,neg]<;>omega
 have z:wy P c a=add (neg u) (neg v):=by apply V.ext'<;>simp only[wy,sub,l,add,neg]<;>omega
 have A:wy P c b=neg v:=by apply V.ext'<;>simp only[wy,sub,l,k,add,neg]<;>omega
 have B:wy P c e=neg u:=by apply V.ext'<;>simp only[wy,sub,l,m,add,neg]<;>omega
 have f1:wy P e a=neg v:=by apply V.ext'<;>simp only[wy,sub,m,add,neg]<;>omega
 have f2:wy P e b=add u (neg v):=by apply V.ext'<;>simp only[wy,sub,m,k,add,neg]<;>omega
 have f3:wy P e c=u:=by apply V.ext'<;>simp only[wy,sub,m,l,add]<;>omega
 have p:T n v u=- T n u v:=FK u v;have s1:Side n P (aN P N n d) a b:=⟨(f b).2 j3,g.1,λx hx=>by rcases(f x).1 hx with rfl|rfl|rfl|rfl<;>simp only[q,r,s,fT,y9,y8,t7,t6,t8,ua,nP,nQ,nS,nT,rm,iD,j,i,p]<;>omega⟩
 have s2:Side n P (aN P N n d) b c:=⟨(f c).2 j3,g.2.1,λx hx=>by rcases(f x).1 hx with rfl|rfl|rfl|rfl<;>simp only[t,w,y,fT,y9,y8,t7,t6,t8,ua,nP,nQ,nS,nT,rm,iD,j,i,p]<;>omega⟩
 have D:Side n P (aN P N n d) c e:=⟨(f e).2 j3,g.2.2.1,λx hx=>by rcases(f x).1 hx with rfl|rfl|rfl|rfl<;>simp only[z,A,B,fT,y9,y8,t7,t6,t8,ua,nP,nQ,nS,nT,rm,iD,j,i,p]<;>omega⟩
 have E:Side n P (aN P N n d) e a:=⟨(f a).2 j3,g.2.2.2.1,λx hx=>by rcases(f x).1 hx with rfl|rfl|rfl|rfl<;>simp only[f1,f2,f3,fT,y9,y8,t7,t6,t8,ua,nP,nQ,nS,nT,rm,iD,j,i,p]<;>omega⟩
 exact⟨a,C,.step s1 g.1 (.step s2 g.2.2.2.2 (.step D (Ne.symm g.2.2.2.1) (.done E)))⟩
end
def iQ(at_ s:V)(k:Nat):V:=⟨at_.x+(k/4%2:Nat)*s.x,at_.y+(k/2%2:Nat)*s.y,at_.z+(k%2:Nat)*s.z⟩
def H7(at_ s:V):List ((V×Int)×List Nat):=
 [((⟨-1,0,0⟩,-at_.x),[0,1,3,2]),((⟨0,-1,0⟩,-at_.y),[0,4,5,1]),((⟨0,0,-1⟩,-at_.z),[0,2,6,4]),
 ((⟨0,0,1⟩,at_.z+s.z),[1,5,7,3]),((⟨0,1,0⟩,at_.y+s.y),[2,3,7,6]),((⟨1,0,0⟩,at_.x+s.x),[4,6,7,5])]
section
variable{P:Nat->V}{at_ s:V}(hP:∀ k,k<8->P k=iQ at_ s k)(h1:0<s.x)(h2:0<s.y)(h3:0<s.z)
include hP
def EA:P 0=at_/\P 1=⟨at_.x,at_.y,at_.z+s.z⟩/\P 2=⟨at_.x,at_.y+s.y,at_.z⟩/\P 3=⟨at_.x,at_.y+s.y,at_.z+s.z⟩ ∧
  P 4=⟨at_.x+s.x,at_.y,at_.z⟩/\P 5=⟨at_.x+s.x,at_.y,at_.z+s.z⟩/\P 6=⟨at_.x+s.x,at_.y+s.y,at_.z⟩/\P 7=⟨at_.x+s.x,at_.y+s.y,at_.z+s.z⟩:=by
 refine⟨?_,?_,?_,?_,?_,?_,?_,?_⟩<;>rw[hP _ j2]<;>apply V.ext'<;>simp[iQ]
include h1 h2 h3
def Ez:∀ i j,i<j->j<8->aE (P i) (P j):=λi j b n=>by
 obtain⟨d,e,f,g,h,k,l,m⟩:=EA hP;have c:(i=0\/i=1\/i=2\/i=3\/i=4\/i=5\/i=6)/\(j=1\/j=2\/j=3\/j=4\/j=5\/j=6\/j=7):=j1
 obtain⟨ci,a⟩:=c;rcases ci with rfl|rfl|rfl|rfl|rfl|rfl|rfl<;>rcases a with rfl|rfl|rfl|rfl|rfl|rfl|rfl<;>first|omega|(simp only[d,e,f,g,h,k,l,m,aE,true_and];omega)
def nJ{e:V}(he:aZ e=1){p q r:Nat}(hp:p<8)(hq:q<8)(d:r<8)(n1:p≠q)(n2:p≠r)(f:q≠r){c:Int}(hc:0<c)(ht:cR P p q r=smul c e)(hle:∀ x,x<8->dot e (wy P p x)<=0)(a:∃ x,x<8/\dot e (wy P p x)<0):IsF P 8 e (dot e (P p)):=by
 have _:=h1;have _:=h2;have _:=h3;have _:=hP;obtain⟨i,g,b,hm,hF⟩:=zL hp hq d n1 n2 f rfl (λx hx=>by
  rw[ht,gw];exact Int.mul_nonpos_of_nonneg_of_nonpos (zpa hc) (hle x hx)) (by
  obtain⟨x,hx,h⟩:=a;exact⟨x,hx,by rw[ht,gw];exact zYa hc h⟩)
 rw[ht] at hm;have:=lr he hF.nz.2 hc b hm;rw[this];exact hF
def oX:∀ q∈H7 at_ s,IsF P 8 q.1.1 q.1.2/\bB P 8 q.1.1 q.1.2 q.2:=by
 obtain⟨a,c,d,g,f,h,i,j⟩:=EA hP;have n:=zCa h2 h3;have m:=zCa h1 h3;have l:=zCa h1 h2;have all:∀ {Q:Nat->Prop},Q 0->Q 1->Q 2->Q 3->Q 4->Q 5->Q 6->Q 7->∀ x,x<8->Q x:=λ{Q} a0 a1 a2 a3 a4 a5 o t x hx=>by
  have:x=0\/x=1\/x=2\/x=3\/x=4\/x=5\/x=6\/x=7:=j1
  rcases this with rfl|rfl|rfl|rfl|rfl|rfl|rfl|rfl<;>assumption
 have k:List.range 8=[0,1,2,3,4,5,6,7]:=rfl;intro q hq;simp only[H7,zBa,zdc,or_false] at hq;rcases hq with rfl|rfl|rfl|rfl|rfl|rfl
 ·have hF:=nJ hP h1 h2 h3 (e:=⟨-1,0,0⟩) j2 (p:=0) (q:=1) (r:=2) j2 j2 j2 j2 j2 j2 n
   (by simp only[cR,wy,a,c,d,sub,cross,smul];apply V.ext'<;>grind) (by apply all<;>simp only[wy,a,c,d,g,f,h,i,j,sub,dot]<;>omega) ⟨4,j2,by simp only[wy,a,f,sub,dot];omega⟩
  rw[show dot ⟨-1,0,0⟩ (P 0)=-at_.x by rw[a];simp only[dot];omega] at hF
  have g0:decide (dot ⟨-1,0,0⟩ (P 0)=-at_.x)=true:=zha (by rw[a];simp only[dot];omega)
  have g1:decide (dot ⟨-1,0,0⟩ (P 1)=-at_.x)=true:=zha (by rw[c];simp only[dot];omega)
  have g2:decide (dot ⟨-1,0,0⟩ (P 2)=-at_.x)=true:=zha (by rw[d];simp only[dot];omega)
  have g3:decide (dot ⟨-1,0,0⟩ (P 3)=-at_.x)=true:=zha (by rw[g];simp only[dot];omega)
  have g4:decide (dot ⟨-1,0,0⟩ (P 4)=-at_.x)=false:=zea (by rw[f];simp only[dot];omega)
  have g5:decide (dot ⟨-1,0,0⟩ (P 5)=-at_.x)=false:=zea (by rw[h];simp only[dot];omega)
  have g6:decide (dot ⟨-1,0,0⟩ (P 6)=-at_.x)=false:=zea (by rw[i];simp only[dot];omega)
  have g7:decide (dot ⟨-1,0,0⟩ (P 7)=-at_.x)=false:=zea (by rw[j];simp only[dot];omega)
  have b:aN P 8 ⟨-1,0,0⟩ (-at_.x)=[0,1,2,3]:=by unfold aN;rw[k];simp only[List.filter_cons,g0,g1,g2,g3,g4,g5,g6,g7,if_true,List.filter_nil];rfl
  exact⟨hF,jt (u:=⟨0,0,s.z⟩) (v:=⟨0,s.y,0⟩) (Or.inr (Or.inl b)) j2 (by rw[a,c];apply V.ext'<;>simp only[add]<;>omega) (by rw[a,g];apply V.ext'<;>simp only[add]<;>omega) (by rw[a,d];apply V.ext'<;>simp only[add]<;>omega) (by simp only[T,dot,cross];grind) (by simp only[dot];grind)⟩
 ·have hF:=nJ hP h1 h2 h3 (e:=⟨0,-1,0⟩) j2 (p:=0) (q:=4) (r:=1) j2 j2 j2 j2 j2 j2 m
   (by simp only[cR,wy,a,f,c,sub,cross,smul];apply V.ext'<;>grind) (by apply all<;>simp only[wy,a,c,d,g,f,h,i,j,sub,dot]<;>omega) ⟨2,j2,by simp only[wy,a,d,sub,dot];omega⟩
  rw[show dot ⟨0,-1,0⟩ (P 0)=-at_.y by rw[a];simp only[dot];omega] at hF
  have g0:decide (dot ⟨0,-1,0⟩ (P 0)=-at_.y)=true:=zha (by rw[a];simp only[dot];omega)
  have g1:decide (dot ⟨0,-1,0⟩ (P 1)=-at_.y)=true:=zha (by rw[c];simp only[dot];omega)
  have g2:decide (dot ⟨0,-1,0⟩ (P 2)=-at_.y)=false:=zea (by rw[d];simp only[dot];omega)
  have g3:decide (dot ⟨0,-1,0⟩ (P 3)=-at_.y)=false:=zea (by rw[g];simp only[dot];omega)
  have g4:decide (dot ⟨0,-1,0⟩ (P 4)=-at_.y)=true:=zha (by rw[f];simp only[dot];omega)
  have g5:decide (dot ⟨0,-1,0⟩ (P 5)=-at_.y)=true:=zha (by rw[h];simp only[dot];omega)
  have g6:decide (dot ⟨0,-1,0⟩ (P 6)=-at_.y)=false:=zea (by rw[i];simp only[dot];omega)
  have g7:decide (dot ⟨0,-1,0⟩ (P 7)=-at_.y)=false:=zea (by rw[j];simp only[dot];omega)
  have b:aN P 8 ⟨0,-1,0⟩ (-at_.y)=[0,1,4,5]:=by unfold aN;rw[k];simp only[List.filter_cons,g0,g1,g2,g3,g4,g5,g6,g7,if_true,List.filter_nil];rfl
  exact⟨hF,jt (u:=⟨s.x,0,0⟩) (v:=⟨0,0,s.z⟩) (Or.inr (Or.inr (Or.inr (Or.inr (Or.inl b))))) j2 (by rw[a,f];apply V.ext'<;>simp only[add]<;>omega) (by rw[a,h];apply V.ext'<;>simp only[add]<;>omega) (by rw[a,c];apply V.ext'<;>simp only[add]<;>omega) (by simp only[T,dot,cross];grind) (by simp only[dot];grind)⟩
 ·have hF:=nJ hP h1 h2 h3 (e:=⟨0,0,-1⟩) j2 (p:=0) (q:=2) (r:=4) j2 j2 j2 j2 j2 j2 l
   (by simp only[cR,wy,a,d,f,sub,cross,smul];apply V.ext'<;>grind) (by apply all<;>simp only[wy,a,c,d,g,f,h,i,j,sub,dot]<;>omega) ⟨1,j2,by simp only[wy,a,c,sub,dot];omega⟩
  rw[show dot ⟨0,0,-1⟩ (P 0)=-at_.z by rw[a];simp only[dot];omega] at hF
  have g0:decide (dot ⟨0,0,-1⟩ (P 0)=-at_.z)=true:=zha (by rw[a];simp only[dot];omega)
  have g1:decide (dot ⟨0,0,-1⟩ (P 1)=-at_.z)=false:=zea (by rw[c];simp only[dot];omega)
  have g2:decide (dot ⟨0,0,-1⟩ (P 2)=-at_.z)=true:=zha (by rw[d];simp only[dot];omega)
  have g3:decide (dot ⟨0,0,-1⟩ (P 3)=-at_.z)=false:=zea (by rw[g];simp only[dot];omega)
  have g4:decide (dot ⟨0,0,-1⟩ (P 4)=-at_.z)=true:=zha (by rw[f];simp only[dot];omega)
  have g5:decide (dot ⟨0,0,-1⟩ (P 5)=-at_.z)=false:=zea (by rw[h];simp only[dot];omega)
  have g6:decide (dot ⟨0,0,-1⟩ (P 6)=-at_.z)=true:=zha (by rw[i];simp only[dot];omega)
  have g7:decide (dot ⟨0,0,-1⟩ (P 7)=-at_.z)=false:=zea (by rw[j];simp only[dot];omega)
  have b:aN P 8 ⟨0,0,-1⟩ (-at_.z)=[0,2,4,6]:=by unfold aN;rw[k];simp only[List.filter_cons,g0,g1,g2,g3,g4,g5,g6,g7,if_true,List.filter_nil];rfl
  exact⟨hF,jt (u:=⟨0,s.y,0⟩) (v:=⟨s.x,0,0⟩) (Or.inr (Or.inl b)) j2 (by rw[a,d];apply V.ext'<;>simp only[add]<;>omega) (by rw[a,i];apply V.ext'<;>simp only[add]<;>omega) (by rw[a,f];apply V.ext'<;>simp only[add]<;>omega) (by simp only[T,dot,cross];grind) (by simp only[dot];grind)⟩
 ·have hF:=nJ hP h1 h2 h3 (e:=⟨0,0,1⟩) j2 (p:=1) (q:=5) (r:=3) j2 j2 j2 j2 j2 j2 l
   (by simp only[cR,wy,c,h,g,sub,cross,smul];apply V.ext'<;>grind) (by apply all<;>simp only[wy,a,c,d,g,f,h,i,j,sub,dot]<;>omega) ⟨0,j2,by simp only[wy,c,a,sub,dot];omega⟩
  rw[show dot ⟨0,0,1⟩ (P 1)=at_.z+s.z by rw[c];simp only[dot];omega] at hF
  have g0:decide (dot ⟨0,0,1⟩ (P 0)=at_.z+s.z)=false:=zea (by rw[a];simp only[dot];omega)
  have g1:decide (dot ⟨0,0,1⟩ (P 1)=at_.z+s.z)=true:=zha (by rw[c];simp only[dot];omega)
  have g2:decide (dot ⟨0,0,1⟩ (P 2)=at_.z+s.z)=false:=zea (by rw[d];simp only[dot];omega)
  have g3:decide (dot ⟨0,0,1⟩ (P 3)=at_.z+s.z)=true:=zha (by rw[g];simp only[dot];omega)
  have g4:decide (dot ⟨0,0,1⟩ (P 4)=at_.z+s.z)=false:=zea (by rw[f];simp only[dot];omega)
  have g5:decide (dot ⟨0,0,1⟩ (P 5)=at_.z+s.z)=true:=zha (by rw[h];simp only[dot];omega)
  have g6:decide (dot ⟨0,0,1⟩ (P 6)=at_.z+s.z)=false:=zea (by rw[i];simp only[dot];omega)
  have g7:decide (dot ⟨0,0,1⟩ (P 7)=at_.z+s.z)=true:=zha (by rw[j];simp only[dot];omega)
  have b:aN P 8 ⟨0,0,1⟩ (at_.z+s.z)=[1,3,5,7]:=by unfold aN;rw[k];simp only[List.filter_cons,g0,g1,g2,g3,g4,g5,g6,g7,if_true,List.filter_nil];rfl
  exact⟨hF,jt (u:=⟨s.x,0,0⟩) (v:=⟨0,s.y,0⟩) (Or.inr (Or.inr (Or.inr (Or.inr (Or.inl b))))) j2 (by rw[c,h];apply V.ext'<;>simp only[add]<;>omega) (by rw[c,j];apply V.ext'<;>simp only[add]<;>omega) (by rw[c,g];apply V.ext'<;>simp only[add]<;>omega) (by simp only[T,dot,cross];grind) (by simp only[dot];grind)⟩
 ·have hF:=nJ hP h1 h2 h3 (e:=⟨0,1,0⟩) j2 (p:=2) (q:=3) (r:=6) j2 j2 j2 j2 j2 j2 m
   (by simp only[cR,wy,d,g,i,sub,cross,smul];apply V.ext'<;>grind) (by apply all<;>simp only[wy,a,c,d,g,f,h,i,j,sub,dot]<;>omega) ⟨0,j2,by simp only[wy,d,a,sub,dot];omega⟩
  rw[show dot ⟨0,1,0⟩ (P 2)=at_.y+s.y by rw[d];simp only[dot];omega] at hF
  have g0:decide (dot ⟨0,1,0⟩ (P 0)=at_.y+s.y)=false:=zea (by rw[a];simp only[dot];omega)
  have g1:decide (dot ⟨0,1,0⟩ (P 1)=at_.y+s.y)=false:=zea (by rw[c];simp only[dot];omega)
  have g2:decide (dot ⟨0,1,0⟩ (P 2)=at_.y+s.y)=true:=zha (by rw[d];simp only[dot];omega)
  have g3:decide (dot ⟨0,1,0⟩ (P 3)=at_.y+s.y)=true:=zha (by rw[g];simp only[dot];omega)
  have g4:decide (dot ⟨0,1,0⟩ (P 4)=at_.y+s.y)=false:=zea (by rw[f];simp only[dot];omega)
  have g5:decide (dot ⟨0,1,0⟩ (P 5)=at_.y+s.y)=false:=zea (by rw[h];simp only[dot];omega)
  have g6:decide (dot ⟨0,1,0⟩ (P 6)=at_.y+s.y)=true:=zha (by rw[i];simp only[dot];omega)
  have g7:decide (dot ⟨0,1,0⟩ (P 7)=at_.y+s.y)=true:=zha (by rw[j];simp only[dot];omega)
  have b:aN P 8 ⟨0,1,0⟩ (at_.y+s.y)=[2,3,6,7]:=by unfold aN;rw[k];simp only[List.filter_cons,g0,g1,g2,g3,g4,g5,g6,g7,if_true,List.filter_nil];rfl
  exact⟨hF,jt (u:=⟨0,0,s.z⟩) (v:=⟨s.x,0,0⟩) (Or.inr (Or.inl b)) j2 (by rw[d,g];apply V.ext'<;>simp only[add]<;>omega) (by rw[d,j];apply V.ext'<;>simp only[add]<;>omega) (by rw[d,i];apply V.ext'<;>simp only[add]<;>omega) (by simp only[T,dot,cross];grind) (by simp only[dot];grind)⟩
 ·have hF:=nJ hP h1 h2 h3 (e:=⟨1,0,0⟩) j2 (p:=4) (q:=6) (r:=5) j2 j2 j2 j2 j2 j2 n
   (by simp only[cR,wy,f,i,h,sub,cross,smul];apply V.ext'<;>grind) (by apply all<;>simp only[wy,a,c,d,g,f,h,i,j,sub,dot]<;>omega) ⟨0,j2,by simp only[wy,f,a,sub,dot];omega⟩
  rw[show dot ⟨1,0,0⟩ (P 4)=at_.x+s.x by rw[f];simp only[dot];omega] at hF
  have g0:decide (dot ⟨1,0,0⟩ (P 0)=at_.x+s.x)=false:=zea (by rw[a];simp only[dot];omega)
  have g1:decide (dot ⟨1,0,0⟩ (P 1)=at_.x+s.x)=false:=zea (by rw[c];simp only[dot];omega)
  have g2:decide (dot ⟨1,0,0⟩ (P 2)=at_.x+s.x)=false:=zea (by rw[d];simp only[dot];omega)
  have g3:decide (dot ⟨1,0,0⟩ (P 3)=at_.x+s.x)=false:=zea (by rw[g];simp only[dot];omega)
  have g4:decide (dot ⟨1,0,0⟩ (P 4)=at_.x+s.x)=true:=zha (by rw[f];simp only[dot];omega)
  have g5:decide (dot ⟨1,0,0⟩ (P 5)=at_.x+s.x)=true:=zha (by rw[h];simp only[dot];omega)
  have g6:decide (dot ⟨1,0,0⟩ (P 6)=at_.x+s.x)=true:=zha (by rw[i];simp only[dot];omega)
  have g7:decide (dot ⟨1,0,0⟩ (P 7)=at_.x+s.x)=true:=zha (by rw[j];simp only[dot];omega)
  have b:aN P 8 ⟨1,0,0⟩ (at_.x+s.x)=[4,5,6,7]:=by unfold aN;rw[k];simp only[List.filter_cons,g0,g1,g2,g3,g4,g5,g6,g7,if_true,List.filter_nil];rfl
  exact⟨hF,jt (u:=⟨0,s.y,0⟩) (v:=⟨0,0,s.z⟩) (Or.inr (Or.inr (Or.inr (Or.inr (Or.inl b))))) j2 (by rw[f,i];apply V.ext'<;>simp only[add]<;>omega) (by rw[f,j];apply V.ext'<;>simp only[add]<;>omega) (by rw[f,h];apply V.ext'<;>simp only[add]<;>omega) (by simp only[T,dot,cross];grind) (by simp only[dot];grind)⟩
end
end Geo
end
noncomputable section
namespace Sy
open Go Go.Proofs Geo
def lR(a s:V):List V:=(List.range 8).map (iQ a s)
def pQ(a s:V):(lR a s).length=8:=by simp[lR]
def Ia(a s:V){k:Nat}(hk:k<8):pt (lR a s) k=iQ a s k:=by unfold pt lR;simp[hk]
section
variable{a s:V}
def RO(n:Nat)(h1:1<=s.x/\s.x<=256)(h2:1<=s.y/\s.y<=256)(h3:1<=s.z/\s.z<=256):cA (n+1) 429 [ae V.zero,ae s]=some (de (lR V.zero s)):=by
 rw[Ze];delta Mi qG qB qC qV qW qZ iL iR Jn;refine bO (λk st=>st=[.sl (((List.range k).map (iQ V.zero s)).map ae),I (k:Int),.sl []]) 8 0 (zxa _) rfl (λk hk st c=>?_) (λst c=>?_)
 ·subst c;left;refine⟨_,?_,rfl⟩;have f:ab7 .quo (I (k:Int)) (D.int .i64 2)=some (I ((k/2:Nat):Int)):=ku (b:=2) j2 j1
  have g:ab7 .quo (I (k:Int)) (D.int .i64 4)=some (I ((k/4:Nat):Int)):=ku (b:=4) j2 j1
  have m1:∀ (i:Nat) (x:Int),i<=1->(1<=x/\x<=256)->inR ((i:Int)*x)/\0<=(i:Int)*x/\(i:Int)*x<=256:=λi x j hx=>by
   have:i=0\/i=1:=j1
   rcases this with rfl|rfl
   ·simp only[inR];omega
   ·simp only[inR];omega
  obtain⟨h,l,m⟩:=m1 (k%2) s.z j1 h3
  obtain⟨v1,v2,v3⟩:=m1 (k/2%2) s.y j1 h2
  obtain⟨w1,o,p⟩:=m1 (k/4) s.x j1 h1
  refine aa af (aa ac (aO (by show(k:Int)<8;omega) ?_))
  refine j0 (I 0) (aa g (j0 (I s.x) (aa (cw w1) (aa (ay (a:=0) (by simp only[inR];omega)) ?_))))
  refine j0 (I 0) (aa f (aa (C4 (k/2)) (j0 (I s.y) (aa (cw v1) (aa (ay (a:=0) (by simp only[inR];omega)) ?_)))))
  refine j0 (I 0) (aa (C4 k) (j0 (I s.z) (aa (cw h) (aa (ay (a:=0) (by simp only[inR];omega)) ?_))))
  have d:k/4%2=k/4:=j1
  have e:ae (iQ V.zero s k)=.st [I (0+((k/4:Nat):Int)*s.x),I (0+((k/2%2:Nat):Int)*s.y),I (0+((k%2:Nat):Int)*s.z)]:=by unfold iQ;rw[d];rfl
  have hlen:List.length (D.els (.sl (((List.range k).map (iQ V.zero s)).map ae)))+List.length [ae (iQ V.zero s k)]<=1073741824:=by show(((List.range k).map (iQ V.zero s)).map ae).length+1<=_;rw[zta,zta,zsb];omega
  refine(zma hlen).trans (aa (bc (a:=k) (b:=1) j1) ?_)
  rw[z8b,zLb,zLb,List.map_singleton,List.map_singleton,e];rfl
 subst c;exact⟨_,aa af (aa ac (aU j2 rfl)),rfl⟩
def dq:Nat->Int:=λi=>if i=0 then 1 else 0
def RP(n:Nat)(v:V):cA (n+1) 430 [I v.x,I v.y,I v.z]=some (dN v dq):=by rw[Zf];rfl
def vV:ap dq=1:=by rfl
def Fp{v:V}(h:bd 140737488355327 v):PoseOk v dq:=⟨h,λi=>(by unfold dq;split<;>omega),0,j2,j2⟩
def EB(x a s:V){i:Nat}(b:i<8):fq x dq (lR a s) i=V.add x (iQ a s i):=by unfold fq;rw[Ia _ _ b];have m0:dA dq 0=1:=rfl;have m1:dA dq 1=0:=rfl;have m2:dA dq 2=0:=rfl;have m3:dA dq 3=0:=rfl;have m4:dA dq 4=1:=rfl;have m5:dA dq 5=0:=rfl;have m6:dA dq 6=0:=rfl;have m7:dA dq 7=0:=rfl;have m8:dA dq 8=1:=rfl;apply V.ext'<;>simp only[ls,cF,V.add,m0,m1,m2,m3,m4,m5,m6,m7,m8,vV]<;>omega
end
end Sy
end
noncomputable section
namespace Geo
open V
section
variable{P:Nat->V}{at_ s:V}(hP:∀ k,k<8->P k=iQ at_ s k)(h1:0<s.x)(h2:0<s.y)(h3:0<s.z)
 {L:List (V×Int)} (hL:Facets P 8 L) {poly:V×Int->List Nat} (hp:∀ q∈L,bB P 8 q.1 q.2 (poly q))
include hP h1 h2 h3 hL
omit hL in
def MM:∀ k,k<8->Ht P 8 k:=λk hk=>by
 have f1:=oX hP h1 h2 h3 ((⟨-1,0,0⟩,-at_.x),[0,1,3,2]) (by simp[H7])
 have f2:=oX hP h1 h2 h3 ((⟨1,0,0⟩,at_.x+s.x),[4,6,7,5]) (by simp[H7])
 have hl:=Ez hP h1 h2 h3;obtain⟨p,f,_,e⟩:=f1.1.poly hl;obtain⟨g,b,_,a⟩:=f2.1.poly hl;rw[<-bB.eq hl f1.1 f1.2 f] at e;rw[<-bB.eq hl f2.1 f2.2 b] at a;rcases zza k 4 with c|c
 ·have m:k∈[0,1,3,2]:=by simp;omega
  obtain⟨r1,d⟩:=(e k).1 m;exact⟨_,_,f1.1,r1,d⟩
 ·have m:k∈[4,6,7,5]:=by simp;omega
  obtain⟨r1,d⟩:=(a k).1 m;exact⟨_,_,f2.1,r1,d⟩
include hp
end
end Geo
end
noncomputable section
namespace Sy
open Go Go.Proofs Geo
def Hr(s:V):Prop:=(1<=s.x/\s.x<=256)/\(1<=s.y/\s.y<=256)/\(1<=s.z/\s.z<=256)
def jc{i:Nat}{x:Int}(a:i<=1)(h:1<=x/\x<=256):0<=(i:Int)*x/\(i:Int)*x<=256:=by
 have:i=0\/i=1:=j1
 rcases this with rfl|rfl<;>omega
def Ic{s:V}(h:Hr s){k:Int}(hk:256<=k):∀ v∈lR V.zero s,bd k v:=λv a=>by
 obtain⟨i,b,rfl⟩:=zNa.1 a;obtain⟨h1,h2,h3⟩:=h;simp only[bd,iQ,V.zero];have:=jc (i:=i/4%2) j1 h1
 have:=jc (i:=i/2%2) j1 h2
 have:=jc (i:=i%2) j1 h3
 omega
def Id{s:V}(h:Hr s):Hul (lR V.zero s):=by
 have hP:∀ k,k<8->pt (lR V.zero s) k=iQ V.zero s k:=λk hk=>Ia _ s hk;have hl:=pQ V.zero s;obtain⟨⟨h1,_⟩,⟨h2,_⟩,⟨h3,_⟩⟩:=id h;refine⟨j1,Ic h j2,?_,?_,?_⟩
 ·unfold HU;rw[hl];exact Ez hP j1 j1 j1
 ·rw[hl];exact MM hP j1 j1 j1
 ·rw[hl];exact⟨_,_,(oX hP j1 j1 j1 ((⟨-1,0,0⟩,-V.zero.x),[0,1,3,2]) (by simp[H7])).1⟩
def MP{x y s t:V}(hx:bd 140737488355327 x)(hy:bd 140737488355327 y)(hs:Hr s)(ht:Hr t):PairOk x y dq dq (lR V.zero s) (lR V.zero t):=by have a:=pQ V.zero s;have b:=pQ V.zero t;exact⟨Fp hx,Fp hy,Ic hs j2,Ic ht j2,j1,j1,j1,j1,j1,j1⟩
section
variable{x y s t:V}(hx:bd 140737488355327 x)(hy:bd 140737488355327 y)(hs:Hr s)(ht:Hr t)
def Ie(hp:PairOk x y dq dq (lR V.zero s) (lR V.zero t))(u:V):¬ jk u x y dq dq (lR V.zero s) (lR V.zero t)<0↔∀ i j,i<8->j<8->V.dot u (V.add x (iQ V.zero s i))<=V.dot u (V.add y (iQ V.zero t j)):=by
 rw[qo hp,pQ,pQ];constructor
 ·intro h i j a b;have:=h i j a b
  rwa [EB _ _ _ a,EB _ _ _ b,vV,z1b,z1b] at this
 ·intro h i j a b;rw[EB _ _ _ a,EB _ _ _ b,vV,z1b,z1b];exact h i j a b
def QT(x y s t:V):Prop:=(x.x+s.x<=y.x\/y.x+t.x<=x.x)\/(x.y+s.y<=y.y\/y.y+t.y<=x.y)\/(x.z+s.z<=y.z\/y.z+t.z<=x.z)
def Ib(hs:Hr s)(ht:Hr t)(hp:PairOk x y dq dq (lR V.zero s) (lR V.zero t))(h:QT x y s t):∃ u,u≠V.zero/\¬ jk u x y dq dq (lR V.zero s) (lR V.zero t)<0:=by
 have key:∀ u:V,u≠V.zero->(∀ i j,i<8->j<8->V.dot u (V.add x (iQ V.zero s i))<=V.dot u (V.add y (iQ V.zero t j)))->∃ u,u≠V.zero/\¬ jk u x y dq dq (lR V.zero s) (lR V.zero t)<0:=λu h0 hu=>⟨u,h0,(Ie hp u).2 hu⟩;obtain⟨a1,a2,a3⟩:=hs;obtain⟨a,b,c⟩:=ht;have m1:=λi:Nat=>jc (i:=i/4%2) j1 a1
 have m2:=λi:Nat=>jc (i:=i/2%2) j1 a2
 have m3:=λi:Nat=>jc (i:=i%2) j1 a3
 have n1:=λi:Nat=>jc (i:=i/4%2) j1 a
 have n2:=λi:Nat=>jc (i:=i/2%2) j1 b
 have d:=λi:Nat=>jc (i:=i%2) j1 c
 have f:=λ(i:Nat)=>show((i/4%2:Nat):Int)*s.x<=s.x by
                                      have:i/4%2=0\/i/4%2=1:=j1
                                      rcases this with e|e<;>rw[e]<;>omega
 have g:=λ(i:Nat)=>show((i/2%2:Nat):Int)*s.y<=s.y by
                                      have:i/2%2=0\/i/2%2=1:=j1
                                      rcases this with e|e<;>rw[e]<;>omega
 have k:=λ(i:Nat)=>show((i%2:Nat):Int)*s.z<=s.z by
                                    have:i%2=0\/i%2=1:=j1
                                    rcases this with e|e<;>rw[e]<;>omega
 have l:=λ(i:Nat)=>show((i/4%2:Nat):Int)*t.x<=t.x by
                                      have:i/4%2=0\/i/4%2=1:=j1
                                      rcases this with e|e<;>rw[e]<;>omega
 have m:=λ(i:Nat)=>show((i/2%2:Nat):Int)*t.y<=t.y by
                                      have:i/2%2=0\/i/2%2=1:=j1
                                      rcases this with e|e<;>rw[e]<;>omega
 have n:=λ(i:Nat)=>show((i%2:Nat):Int)*t.z<=t.z by
                                    have:i%2=0\/i%2=1:=j1
                                    rcases this with e|e<;>rw[e]<;>omega
 rcases h with(h|h)|(h|h)|(h|h)
 ·exact key ⟨1,0,0⟩ j2 λi j _ _=>by
   have:=f i;have:=n1 j;simp only[V.dot,V.add,iQ,V.zero];omega
 ·exact key ⟨-1,0,0⟩ j2 λi j _ _=>by
   have:=m1 i;have:=l j;simp only[V.dot,V.add,iQ,V.zero];omega
 ·exact key ⟨0,1,0⟩ j2 λi j _ _=>by
   have:=g i;have:=n2 j;simp only[V.dot,V.add,iQ,V.zero];omega
 ·exact key ⟨0,-1,0⟩ j2 λi j _ _=>by
   have:=m2 i;have:=m j;simp only[V.dot,V.add,iQ,V.zero];omega
 ·exact key ⟨0,0,1⟩ j2 λi j _ _=>by
   have:=k i;have:=d j;simp only[V.dot,V.add,iQ,V.zero];omega
 ·exact key ⟨0,0,-1⟩ j2 λi j _ _=>by
   have:=m3 i;have:=n j;simp only[V.dot,V.add,iQ,V.zero];omega
def zb{u a s b t:Int}(h1:b<a+s)(h2:a<b+t):∃ e f:Nat,e<=1/\f<=1/\u*(b+f*t)<=u*(a+e*s)/\(u≠0->u*(b+f*t)<u*(a+e*s)):=by
 rcases zzb u 0 with h|h|h
 ·have:=Int.mul_lt_mul_of_neg_left h2 h;exact⟨0,1,j2,j2,by simp;omega,λ_=>by simp;omega⟩
 ·subst h;exact⟨0,0,j2,j2,j3,λh=>z3a rfl h⟩
 ·have:=zmb h1 h;exact⟨1,0,j2,j2,by simp;omega,λ_=>by simp;omega⟩
def MO(hp:PairOk x y dq dq (lR V.zero s) (lR V.zero t))(h:¬ QT x y s t){u:V}(j:u≠V.zero):jk u x y dq dq (lR V.zero s) (lR V.zero t)<0:=by
 apply Decidable.of_not_not;intro hn;have key:=(Ie hp u).1 hn;unfold QT at h;obtain⟨c,f1,c1,d1,g1,f⟩:=zb (u:=u.x) (a:=x.x) (s:=s.x) (b:=y.x) (t:=t.x) j1 j1
 obtain⟨d,f2,c2,d2,g2,g⟩:=zb (u:=u.y) (a:=x.y) (s:=s.y) (b:=y.y) (t:=t.y) j1 j1
 obtain⟨e,f3,k,d3,g3,i⟩:=zb (u:=u.z) (a:=x.z) (s:=s.z) (b:=y.z) (t:=t.z) j1 j1
 have:=key (c*4+d*2+e) (f1*4+f2*2+f3) j1 j1
 simp only[V.dot,V.add,iQ,V.zero] at this;rw[show(c*4+d*2+e)/4%2=c by omega,show(c*4+d*2+e)/2%2=d by omega,show(c*4+d*2+e)%2=e by omega,show(f1*4+f2*2+f3)/4%2=f1 by omega,show(f1*4+f2*2+f3)/2%2=f2 by omega,show(f1*4+f2*2+f3)%2=f3 by omega] at this
 simp only[zrc] at this;have hu:u.x≠0\/u.y≠0\/u.z≠0:=by apply Decidable.of_not_not;intro l;apply j;apply V.ext'<;>simp only[V.zero]<;>omega
 rcases hu with hu|hu|hu
 ·have:=f hu;omega
 ·have:=g hu;omega
 ·have:=i hu;omega
end
def Nt{x:V}{q:Nat->Int}(h:PoseOk x q){p:WV}{K:Int}{a b:Nat}(hm:MeanB p K a b){M:V}(d:∀ i,i<3->p i=some (Rat.divInt (aC M i) K))(c:∀ i,(aC M i).natAbs<=2^b){f:(V×Int)×List Nat}(hf:bd 549755813888 f.1.1/\f.1.2.natAbs<=281474976710656)(g:V.dot (az q f.1.1) (V.sub M (V.smul K x))<=ap q*f.1.2*K):0<=qe q (dX p (lJ x)) f:=by
 have e:=hm.pos;unfold qe;rw[qf h hm d c hf,j9];have hle:Rat.divInt (V.dot (az q f.1.1) (V.sub M (V.smul K x))) K<=((ap q*f.1.2:Int):Rat):=by rw[<-div_one (ap q*f.1.2),fh e j2];omega
 rw[zia (Rat.not_lt.2 hle)];split<;>omega
theorem BI{q:Nat->Int}{p:WV}{F:FL}(h:∀ f∈F,qe q p f=1):∀ k,k<=F.length->zJ q p F k=1
 | 0,_=>rfl
 | k+1,hk=>by rw[nZ (show k<F.length by omega),BI h k j1,h _ (zDa _)];rfl
theorem EY{q:Nat->Int}{p:WV}{F:FL}(h:∀ f∈F,0<=qe q p f):∀ k,k<=F.length->0<=zJ q p F k
 | 0,_=>by show(0:Int)<=1;decide
 | k+1,hk=>by
  rw[nZ (show k<F.length by omega)]
  have h1:=EY h k j1
  have h2:=h _ (zDa (show k<F.length by omega))
  omega
def H1{p:WV}{K:Int}{M:V}(a:∀ i,i<3->p i=some (Rat.divInt (aC M i) K)):wW p=false:=by unfold wW;rw[a 0 j2,a 1 j2,a 2 j2];rfl
def Jc{x:V}{q:Nat->Int}(h:PoseOk x q){p:WV}{K:Int}{a b:Nat}(hm:MeanB p K a b){M:V}(c:∀ i,i<3->p i=some (Rat.divInt (aC M i) K))(d:∀ i,(aC M i).natAbs<=2^b){F:FL}(hF:yZ F)(e:∀ f∈F,V.dot (az q f.1.1) (V.sub M (V.smul K x))<ap q*f.1.2*K):eN x q F p=1:=by
 unfold eN;rw[H1 c,zia j2]
 exact BI (λf hf=>Ja h hm c d (hF.2 f hf) (e f hf)) _ (zja _)
def EZ{x:V}{q:Nat->Int}(h:PoseOk x q){p:WV}{K:Int}{a b:Nat}(hm:MeanB p K a b){M:V}(c:∀ i,i<3->p i=some (Rat.divInt (aC M i) K))(d:∀ i,(aC M i).natAbs<=2^b){F:FL}(hF:yZ F)(e:∀ f∈F,V.dot (az q f.1.1) (V.sub M (V.smul K x))<=ap q*f.1.2*K):0<=eN x q F p:=by
 unfold eN;rw[H1 c,zia j2]
 exact EY (λf hf=>Nt h hm c d (hF.2 f hf) (e f hf)) _ (zja _)
structure PtK(p:WV)(M:V)(K:Int):Prop where
 eq:∀ i,p i=some (Rat.divInt (aC M i) K)
 pos:0<K
 kb:K.natAbs<=2^150
 mb:∀ i,(aC M i).natAbs<=2^200
def PtK.mean{p:WV}{M:V}{K:Int}(h:PtK p M K):MeanB p K 150 200:=
 ⟨λi=>by rw[h.eq i];exact bU ((dR (h.mb i) h.kb (by have:=h.pos;omega)).InR j2 j2),h.pos,j2,j2,h.kb,λc v a=>by rw[h.eq c] at a;cases a;exact⟨_,rfl,h.mb c⟩⟩
def wU(x:V)(q:Nat->Int)(F:FL)(M:V)(K:Int):Prop:=∀ f∈F,V.dot (az q f.1.1) (V.sub M (V.smul K x))<=ap q*f.1.2*K
def nY{x:V}{q:Nat->Int}{F:FL}{M M':V}{K K':Int}(h0:0<K)(e:V.smul K M'=V.smul K' M)(h1:0<K')(h:wU x q F M K):wU x q F M' K':=λf hf=>by
 have k:=h f hf;generalize az q f.1.1=n at *;generalize ap q*f.1.2=d at *;have b:K*V.dot n (V.sub M' (V.smul K' x))=K'*V.dot n (V.sub M (V.smul K x)):=by grind [V.smul,V.mk.injEq,V.dot,V.sub]
 have:=zka k (zpa h1);refine Int.le_of_mul_le_mul_left (a:=K) ?_ h0;grind
def I6{x:V}{q:Nat->Int}{F:FL}(h:PoseOk x q)(hF:yZ F){p:WV}{M:V}{K:Int}(hp:PtK p M K)(c:0<=eN x q F p):wU x q F M K:=λf hf=>by
 unfold eN at c;rw[H1 (λi _=>hp.eq i),zia j2] at c
 obtain⟨i,a,rfl⟩:=zZa hf;have h1:=(zK (q:=q) (p:=dX p (lJ x)) F.length (zja _)).2 i a a;have h2:0<=qe q (dX p (lJ x)) F[i]:=j1
 unfold qe at h2;rw[qf h hp.mean (λi _=>hp.eq i) hp.mb (hF.2 _ (zDa a)),j9] at h2;have d:=hp.pos;apply zSb.1;intro k;have b:((ap q*F[i].1.2:Int):Rat)<Rat.divInt (V.dot (az q F[i].1.1) (V.sub M (V.smul K x))) K:=by rw[<-Rat.not_le,<-div_one (ap q*F[i].1.2),fh d j2];omega
 rw[zma b] at h2;exact z3a h2 j2
def SL{S:Int}(h0:S≠0):sg S=1/\0<S\/sg S=-1/\S<0:=by all_goals grind [sg]
section
variable{x y:V}{q r:Nat->Int}{l m:List V}{F G:FL}{E E':List (Nat×Nat)}
def DI(h:PoseOk x q)(hl:∀ v∈l,bd 4096 v){k:Nat}(hk:k<l.length)(i:Nat):(aC (fq x q l k) i).natAbs<=2^62:=by have:=vS h (hl _ (gD hk));simp only[bd,PB] at this;rw[show(2:Nat)^62=4611686018427387904 from rfl];grind [aC,fq]
def NL(h:PoseOk x q)(hl:∀ v∈l,bd 4096 v){k:Nat}(hk:k<l.length):PtK (qA x q l k) (fq x q l k) (ap q):=
 ⟨λi=>rfl,(ct h.hq h.h0).1,se (fS h).1 j2,λi=>se (DI h hl hk i) j2⟩
def OJ{N W:V}{a b:Nat}(c:∀ i,(aC N i).natAbs<=2^a)(d:∀ i,(aC W i).natAbs<=2^b):(V.dot N W).natAbs<=2^(a+b+2):=by have k:=λi=>bz (k:=a+b) (c i) (d i) (zja _);exact cq (cq (k 0) (k 1)) (se (k 2) j1)
def O3(h:PairOk x y q r l m){f:(V×Int)×List Nat}(hf:bd 549755813888 f.1.1/\f.1.2.natAbs<=281474976710656):(ap r*f.1.2*ap q).natAbs<=2^128:=
 bz (bz (j:=48) (k:=62) (fS h.pb).1 hf.2 j2) (fS h.pa).1 j2
def wZ(x:V)(q:Nat->Int)(l:List V)(e:Nat×Nat):V:=V.sub (fq x q l e.2) (fq x q l e.1)
def kT(x:V)(q r:Nat->Int)(l:List V)(e:Nat×Nat)(f:(V×Int)×List Nat):Int:=V.dot (az r f.1.1) (wZ x q l e)
def uP(x y:V)(q r:Nat->Int)(l:List V)(e:Nat×Nat)(f:(V×Int)×List Nat):Int:=ap r*f.1.2*ap q-V.dot (az r f.1.1) (V.sub (fq x q l e.1) (V.smul (ap q) y))
def Gh(x y:V)(q r:Nat->Int)(l:List V)(e:Nat×Nat)(f:(V×Int)×List Nat):V:=V.smul (sg (kT x q r l e f)) (V.add (V.smul (kT x q r l e f) (fq x q l e.1)) (V.smul (uP x y q r l e f) (wZ x q l e)))
def Dd(x:V)(q r:Nat->Int)(l:List V)(e:Nat×Nat)(f:(V×Int)×List Nat):Int:=sg (kT x q r l e f)*(kT x q r l e f*ap q)
section
variable{e:Nat×Nat}{f:(V×Int)×List Nat}(h:PairOk x y q r l m)(he:e.1<l.length/\e.2<l.length)(hf:bd 549755813888 f.1.1/\f.1.2.natAbs<=281474976710656)
include h he
def KH(i:Nat):(aC (wZ x q l e) i).natAbs<=2^63:=by unfold wZ;rw[nM];exact cq (DI h.pa h.la he.2 i) (by rw[zFb];exact DI h.pa h.la he.1 i)
def FP(i:Nat):Oo x q l e i=some (Rat.divInt (aC (wZ x q l e) i) (ap q)):=by
 show addW (some (Rat.divInt (aC (fq x q l e.2) i) (ap q))) (some (-(Rat.divInt (aC (fq x q l e.1) i) (ap q))))=_;rw[Rat.neg_divInt,kM (DI h.pa h.la he.2 i) (by rw[zFb];exact DI h.pa h.la he.1 i) (fS h.pa).1 (ct h.pa.hq h.pa.h0).1 j2 j2]
 unfold wZ;rw[nM]
include hf
def Ax:wv x q r l e f=some (Rat.divInt (kT x q r l e f) (ap q)):=
 EX (ct h.pa.hq h.pa.h0).1 (fS h.pa).1 (λi _=>FP h he i) (Ks h.pb hf.1) (KH h he) j2 j2
def ZH:(kT x q r l e f).natAbs<=2^128:=OJ (Ks h.pb hf.1) (KH h he)
def OO:(V.dot (az r f.1.1) (V.sub (fq x q l e.1) (V.smul (ap q) y))).natAbs<=2^128:=OJ (b:=63) (Ks h.pb hf.1) λi=>by
 have a:(aC y i).natAbs<=2^47:=by have:=h.pb.hx;simp only[bd] at this;rw[show(2:Nat)^47=140737488355328 from rfl];grind [aC]
 rw[nM,fL];exact cq (DI h.pa h.la he.1 i) (by rw[zFb];exact bz (fS h.pa).1 a j2)
def ZG:(uP x y q r l e f).natAbs<=2^129:=vK (O3 h hf) (OO h he hf)
def Bi(h0:kT x q r l e f≠0):pU x y q r l e f=some (Rat.divInt (uP x y q r l e f) (kT x q r l e f)):=by
 obtain⟨s0,_⟩:=ct h.pa.hq h.pa.h0;obtain⟨s1,s2⟩:=fS h.pa;have hp:=NL h.pa h.la he.1;unfold pU;rw[Ax h he hf,qf h.pb hp.mean (λi _=>hp.eq i) hp.mb hf];have g:CH (some ((ap r*f.1.2:Int):Rat)) (some (Rat.divInt (V.dot (az r f.1.1) (V.sub (fq x q l e.1) (V.smul (ap q) y))) (ap q)))=some (Rat.divInt (uP x y q r l e f) (ap q)):=by
  show addW (some ((ap r*f.1.2:Int):Rat)) (some (-(Rat.divInt _ _)))=_;rw[<-div_one (ap r*f.1.2),show Rat.divInt (ap r*f.1.2) 1=Rat.divInt (ap r*f.1.2*ap q) (ap q) by rw[zIb j2 s2];omega,Rat.neg_divInt,kM (O3 h hf) (by rw[zFb];exact OO h he hf) s1 s0 j2 j2]
  unfold uP;rw[zmd]
 rw[g];have m:=ZG h he hf;have n:=ZH h he hf;generalize uP x y q r l e f=T at *;generalize kT x q r l e f=S at *;have c:=dj (a:=S) (b:=ap q) s2;obtain⟨d1,d2⟩:=dR n s1 s2;obtain⟨z,j⟩:∃ z,z=Rat.divInt S (ap q):=⟨_,rfl⟩;rw[<-j] at c d1 d2 ⊢;have z0:z.num≠0:=λhn=>by
  rw[hn,z7b] at c;rcases z8a.1 c.symm with k|k
  ·exact h0 k
  ·exact dc z k
 simp only[uV,Option.elim];rw[qt z0,(dR m s1 s2).mulW (dR (x:=(z.den:Int)) (d:=z.num) (a:=14) (by rw[zwa];exact d2) d1 z0) j2 j2]
 congr 1;rw[show Rat.divInt (z.den:Int) z.num=Rat.divInt (ap q) S by rw[zIb z0 h0,zIa _ S,<-c,zIa],zNb,zIa T,Rat.divInt_mul_left s2]
def OI(h0:kT x q r l e f≠0):PtK (II x y q r l e f) (Gh x y q r l e f) (Dd x q r l e f):=by
 obtain⟨s0,_⟩:=ct h.pa.hq h.pa.h0;obtain⟨s1,s2⟩:=fS h.pa;have j:=ZG h he hf;have c:=ZH h he hf;have hs:=SL h0;have hT:=Bi h he hf h0;have n:=KH h he;have m:=DI h.pa h.la he.1;have a:∀ {z:Int},(sg (kT x q r l e f)*z).natAbs=z.natAbs:=λ{z}=>by rcases hs with k|k<;>rw[k.1]<;>omega
 refine⟨λi=>?_,?_,?_,λi=>?_⟩
 ·show addW (some (Rat.divInt (aC (fq x q l e.1) i) (ap q))) (mulW (pU x y q r l e f) (Oo x q l e i))=_;rw[hT,FP h he i];have o:=n i;have p:=m i;unfold Gh Dd;rw[fL,pS,fL,fL];generalize uP x y q r l e f=T at *;generalize kT x q r l e f=S at *;generalize aC (wZ x q l e) i=W at *;generalize aC (fq x q l e.1) i=A at *;generalize ap q=s at *;rw[(dR j c h0).mulW (dR o s1 s2) j2 j2,zNb]
  have b:(S*s)≠0:=z5b h0 s2;rw[(dR p s1 s2).addW (dR (bz (k:=192) j o j2) (bz (k:=142) c s1 j2) b) j2 j2 j2,zwc _ _ s2 b]
  congr 1;have t:sg S≠0:=by rcases hs with k|k<;>rw[k.1]<;>decide
  rw[Rat.divInt_mul_left t,zIb (z5b s2 b) b];grind
 ·unfold Dd;rcases hs with⟨d,g⟩|⟨d,g⟩
  ·rw[d,z1b];exact zCa g s0
  ·rw[d];have:=zMc g s0;omega
 ·unfold Dd;rw[a];exact bz c s1 j2
 ·unfold Gh;rw[fL,a,pS,fL,fL];exact se (k:=193) (cq (bz c (m i) j2) (bz j (n i) j2)) j2
end
def zG(h:PairOk x y q r l m)(hF:yZ F)(hG:yZ G){p:WV}{M:V}{K:Int}(hp:PtK p M K):zF x y q r F G p=true↔wU x q F M K/\wU y r G M K:=by
 unfold zF;simp only[zaa,zfa,ge_iff_le];constructor
 ·intro⟨h1,h2⟩;exact⟨I6 h.pa hF hp h1,I6 h.pb hG hp h2⟩
 ·intro⟨h1,h2⟩;exact⟨EZ h.pa hp.mean (λi _=>hp.eq i) hp.mb hF h1,EZ h.pb hp.mean (λi _=>hp.eq i) hp.mb hG h2⟩
def O1(h:PairOk x y q r l m)(hF:Fac l F E)(hG:Fac m G E'){p:WV}(hp:p∈lg x y q r l F G E):∃ M K,PtK p M K/\wU x q F M K/\wU y r G M K:=by
 have keep:∀ {w:WV} {M:V} {K:Int},PtK w M K->p∈iZ x y q r F G w->∃ M K,PtK p M K/\wU x q F M K/\wU y r G M K:=λ{w M K} hw hp=>by
  obtain rfl:=sa hp;unfold iZ at hp;split at hp
  ·rename_i c;exact⟨M,K,hw,(zG h hF.fb hG.fb hw).1 c⟩
  ·cases hp
 rcases List.mem_append.1 hp with hp|hp
 ·obtain⟨k,hk,hp⟩:=zQa.1 hp;exact keep (NL h.pa h.la (zXa.1 hk)) hp
 ·obtain⟨e,he,hp⟩:=zQa.1 hp;obtain⟨f,hf,hp⟩:=zQa.1 hp;have b:=hG.fb.2 f hf;have a:=hF.lt e he;unfold mY at hp;split at hp
  ·cases hp
  ·rename_i h0;split at hp
   ·refine keep (OI h a b λhn=>h0 ?_) hp;rw[Ax h a b,hn,Rat.zero_divInt];rfl
   ·cases hp
def Qk(h:PairOk x y q r l m)(hF:Fac l F E)(hG:Fac m G E'){k:Nat}(hk:k<l.length)(i1:wU x q F (fq x q l k) (ap q))(i2:wU y r G (fq x q l k) (ap q)):qA x q l k∈lg x y q r l F G E:=
 List.mem_append.2 (.inl (zQa.2 ⟨k,zXa.2 hk,by rw[uj ((zG h hF.fb hG.fb (NL h.pa h.la hk)).2 ⟨i1,i2⟩)];exact zKa.2 rfl⟩))
def NF(h:PairOk x y q r l m)(hF:Fac l F E)(hG:Fac m G E'){e:Nat×Nat}(u:e∈E){f:(V×Int)×List Nat}(hf:f∈G)(s:kT x q r l e f≠0){M0:V}{K0 a b:Int}(hK:0<K0)(C:0<a)(D:a<b)(w:V.smul b (V.sub (V.smul (ap q) M0) (V.smul K0 (fq x q l e.1)))=V.smul (a*K0) (wZ x q l e))(hn:V.dot (az r f.1.1) (V.sub M0 (V.smul K0 y))=ap r*f.1.2*K0)(i1:wU x q F M0 K0)(i2:wU y r G M0 K0) :
  ∃ p M K,p∈lg x y q r l F G E/\PtK p M K/\V.smul K0 M=V.smul K M0:=by
 have c:=hF.lt e u;have d:=hG.fb.2 f hf;have hP:=OI h c d s;have hT:=Bi h c d s;have z:b*uP x y q r l e f=a*kT x q r l e f:=by
  have I:b*(K0*uP x y q r l e f)=a*(K0*kT x q r l e f):=by have j:=zna (V.dot (az r f.1.1)) w;unfold uP kT;generalize wZ x q l e=W at *;generalize fq x q l e.1=A at *;generalize az r f.1.1=n at *;simp only[V.dot,V.sub,V.smul] at j hn ⊢;grind
  refine Int.eq_of_mul_eq_mul_left (show K0≠0 by omega) ?_
  grind
 have o:V.smul K0 (Gh x y q r l e f)=V.smul (Dd x q r l e f) M0:=by
  have key:∀ i,b*aC (V.smul K0 (Gh x y q r l e f)) i=b*aC (V.smul (Dd x q r l e f) M0) i:=λi=>by have j:=zna (λv=>aC v i) w;unfold Gh Dd;simp only[fL,pS,nM] at j ⊢;grind
  have g:=λi=>Int.eq_of_mul_eq_mul_left (show b≠0 by omega) (key i)
  exact V.ext' (g 0) (g 1) (g 2)
 refine⟨_,_,_,?_,hP,o⟩;refine List.mem_append.2 (.inr (zQa.2 ⟨e,u,zQa.2 ⟨f,hf,?_⟩⟩));unfold mY;have t:Rat.divInt (uP x y q r l e f) (kT x q r l e f)=Rat.divInt a b:=by rw[zIb s j1,zIa,z]
 have c1:CA (wv x q r l e f)≠0:=by rw[Ax h c d];intro hn;have J:=ib.1 hn;have g:=dj (a:=kT x q r l e f) (b:=ap q) (fS h.pa).2;all_goals simp_all
 have c2:CA (pU x y q r l e f)>0:=by
  rw[hT,t];have g:=dj (a:=a) (b:=b) j1
  have L:0<(Rat.divInt a b).num*b:=by rw[g];exact zCa C (by have:=(Rat.divInt a b).den_pos;omega)
  have H:0<(Rat.divInt a b).num:=by
   apply Int.not_le.1;intro k;have:=Int.mul_nonpos_of_nonpos_of_nonneg k (show 0<=b by omega)
   omega
  show sg _>0;rw[iX H];decide
 have B:jd (pU x y q r l e f) (some ((1:Int):Rat))<0:=by rw[hT,t,j9,zma (by rw[<-Rat.not_le,<-div_one,fh j2 j1];omega)];decide
 rw[zia c1,zma (by rw[zha c2,zha B];rfl)]
 rw[uj ((zG h hF.fb hG.fb hP).2 ⟨nY hK o hP.pos i1,nY hK o hP.pos i2⟩)]
 simp_all
end
end Sy
end
end Go.Proofs.YtphlmegkommlnaaGreatDoor
