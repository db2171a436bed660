/- PlaneNoPointOnBothSides answers true at every input, and the input reads afterwards as it read before. -/
import Derived.Test.YtphlmegkommlnaaGreatDoorNopo06
import Derived.Test.YtphlmegkommlnaaGreatDoorNopo19
import Derived.Test.YtphlmegkommlnaaGreatDoorNopo21
import Derived.Test.YtphlmegkommlnaaGreatDoorRows
import Derived.Test.YtphlmegkommlnaaGreatDoorTie
import Derived.Test.YtphlmegkommlnaaGreatDoorCards
import Derived.SevenTiedAt
import Derived.LaidLaws
import Derived.Handed
set_option linter.unusedVariables false
set_option linter.unusedSimpArgs false
set_option linter.unnecessarySimpa false
set_option linter.defProp false
set_option maxRecDepth 20000
namespace Go.Proofs.YtphlmegkommlnaaGreatDoor
noncomputable section
namespace Geo
open V
section
variable{P:Nat->V}{N:Nat}
theorem Ih{G K:Nat->Int}:∀ l:List Nat,l≠[]->(∀ x∈l,0<K x)->∃ z∈l,∀ x∈l,G z*K x<=G x*K z
 | [],h,_=>absurd rfl h
 | [a],_,_=>⟨a,by simp,λx hx=>by rw[zDa.1 hx];exact zhc _⟩
 | a::b::l,_,c=>by
  obtain⟨z,d,hl⟩:=Ih (G:=G) (K:=K) (b::l) (by simp) λx hx=>c x (by simp[hx])
  have ka:=c a (by simp);have g:=c z (by simp[d])
  rcases zzb (G a*K z) (G z*K a) with h|h
  ·refine⟨a,by simp,λx hx=>?_⟩
   rcases zwa.1 hx with rfl|hx
   ·exact zhc _
   ·have f:=c x (by simp[hx])
    have h1:G z*K x<=G x*K z:=hl x hx;have i:0<(G z*K a-G a*K z)*K x:=z0a (by omega) f
    have j:0<=(G x*K z-G z*K x)*K a:=zlb (by omega) (by omega)
    have e:(G x*K a-G a*K x)*K z=(G x*K z-G z*K x)*K a+(G z*K a-G a*K z)*K x:=by grind
    have:=lH g (show 0<K z*(G x*K a-G a*K x) by rw[z5a,e];omega)
    omega
  ·refine⟨z,by simp[d],λx hx=>?_⟩
   rcases zwa.1 hx with rfl|hx
   ·exact h
   ·exact hl x hx
def ib(a b:Int)(u v w:V):dot (sub (smul a u) (smul b v)) w=a*dot u w-b*dot v w:=by simp only[dot,sub,smul];grind
def NH{a b c:Nat}(o:a<N)(D:b<N)(hc:c<N){g:V}(h0:g≠zero)(hle:∀ x,x<N->dot g (wy P a x)<=0)(nf:∃ x,x<N/\dot g (wy P a x)≠0)(tb:dot g (wy P a b)=0)(Q:dot g (wy P a c)=0)(i:cross (wy P a b) (wy P a c)≠zero) :
  ∃ n d,IsF P N n d/\a∈bo P N n d/\b∈bo P N n d/\∃ k:Int,0<k/\g=smul k n:=by
 have r:a≠b:=λh=>i (by rw[<-h,lT];apply V.ext'<;>simp[cross,zero])
 have t:a≠c:=λh=>i (by rw[<-h,lT];apply V.ext'<;>simp[cross,zero])
 have u:b≠c:=λh=>i (by rw[<-h];apply V.ext'<;>simp only[cross,zero]<;>grind)
 have K:=eH tb Q;have B:=bf h0;have key:∀ {p q:Nat},p<N->q<N->a≠p->a≠q->p≠q->(da P a p q≠zero)->cross g (da P a p q)=zero->0<dot g (da P a p q)->∃ n d,IsF P N n d/\a∈bo P N n d/\(dot g (wy P a b)=0->b∈bo P N n d)/\∃ k:Int,0<k/\g=smul k n:=λ{p q} hp hq h1 l m T hc F=>by
  have ev:=tV hc g;have le:∀ x,x<N->dot (da P a p q) (wy P a x)<=0:=λx hx=>by
   have f:=ev (wy P a x);have A:=Int.mul_nonpos_of_nonneg_of_nonpos (zva F) (hle x hx);rcases zzb 0 (dot (da P a p q) (wy P a x)) with k|k
   ·have:=z0a B k;omega
   ·exact k
  obtain⟨x,hx,G⟩:=nf;have lt:dot (da P a p q) (wy P a x)<0:=by
   have f:=ev (wy P a x);have A:=le x hx;rcases z6a A with k|k
   ·exact k
   ·rw[k,zLb] at f;have:=aA F f.symm;exact absurd this G
  obtain⟨O,R,E,hn,M⟩:=CK o hp hq h1 l m rfl le ⟨x,hx,lt⟩;refine⟨O,_,M,az.2 ⟨o,rfl⟩,?_⟩;have e:smul (dot g g) (da P a p q)=smul (dot g (da P a p q)) g:=wD hc g;have j:=fK g;have eq:O=aG g:=by
   refine mS M.nz.2 (ja h0) (a:=dot g g*R) (b:=dot g (da P a p q)*a7 g) (z0a B E) (z0a F (by have:=fa h0;omega)) ?_
   generalize dot g (da P a p q)=w at *;generalize dot g g=W at *;rw[hn] at e;rw[j] at e;have H:=congrArg V.x e;have I:=congrArg V.y e;have J:=congrArg V.z e;simp only[smul] at H I J ⊢;apply V.ext'<;>simp only[Int.mul_assoc] at *<;>assumption
  have U:=fa h0;refine⟨λtb=>az.2 ⟨D,?_⟩,a7 g,by omega,by rw[eq];exact j⟩
  rw[j,pK,<-eq] at tb;have:=aA (show(0:Int)<a7 g by omega) tb
  rw[bX] at this;omega
 rcases zCb 0 (dot g (cross (wy P a b) (wy P a c))) with s|s|s
 ·obtain⟨n,d,h1,l,m,f⟩:=key D hc r t u i K s;exact⟨n,d,h1,l,m tb,f⟩
 ·exfalso;have e:=tV K (cross (wy P a b) (wy P a c));have j:dot (cross (wy P a b) (wy P a c)) g=0:=by rw[<-show dot g (cross (wy P a b) (wy P a c))=dot (cross (wy P a b) (wy P a c)) g by simp only[dot];grind];omega
  have L:=e g;rw[j,z2b] at L;have A:=aA B (show dot g g*dot (cross (wy P a b) (wy P a c)) (cross (wy P a b) (wy P a c))=0 by rw[z5a];exact L.symm)
  exact i (oy A)
 ·have S:∀ v:V,dot v (cross (wy P a c) (wy P a b))=- dot v (cross (wy P a b) (wy P a c)):=λv=>by simp only[dot,cross];grind
  obtain⟨n,d,h1,l,m,f⟩:=key hc D t r (Ne.symm u) (λh=>i (by
   have C:cross (wy P a c) (wy P a b)=zero:=h;have H:=congrArg V.x C;have I:=congrArg V.y C;have J:=congrArg V.z C;simp only[cross,zero] at H I J;apply V.ext'<;>simp only[cross,zero]<;>grind)) (eH Q tb) (by show 0<dot g (cross (wy P a c) (wy P a b));rw[S];omega)
  exact⟨n,d,h1,l,m tb,f⟩
def NC{a b:Nat}(e:a<N)(B:b<N)(E:wy P a b≠zero){g:V}(g0:g≠zero)(hle:∀ x,x<N->dot g (wy P a x)<=0)(nf:∀ {m:V},m≠zero->∃ x,x<N/\dot m (wy P a x)≠0)(tb:dot g (wy P a b)=0)
  (l:∀ x,x<N->dot g (wy P a x)=0->cross (wy P a b) (wy P a x)=zero):∃ n d,IsF P N n d/\a∈bo P N n d/\b∈bo P N n d:=by
 obtain⟨z0,c,M⟩:=nf g0;have D:=hle z0 c;obtain⟨z,C,f⟩:=far (w:=wy P a) tb ((List.range N).filter λk=>decide (dot g (wy P a k)<0)) (List.ne_nil_of_mem (a:=z0) (by simp[c];omega)) (λy L=>by simpa using(zxb.1 L).2)
 have s:z<N:=by simpa using(zxb.1 C).1
 have j:dot g (wy P a z)<0:=by simpa using(zxb.1 C).2
 have q:a≠z:=λh=>by rw[<-h,lT,pM] at j;omega
 have t:z≠b:=λh=>by rw[h] at j;omega
 have o:a≠b:=λh=>E (by rw[<-h,lT])
 have J:da P a z b≠zero:=λh=>by
  have p:=wD (h:cross (wy P a z) (wy P a b)=zero) g;rw[tb] at p;have F:=congrArg V.x p;have G:=congrArg V.y p;have H:=congrArg V.z p;simp only[smul,z2b] at F G H;exact E (V.ext' ((zcb.1 F).resolve_left (by omega)) ((zcb.1 G).resolve_left (by omega)) ((zcb.1 H).resolve_left (by omega)))
 have le:∀ u,u<N->dot (da P a z b) (wy P a u)<=0:=λu hu=>by
  show dot (cross (wy P a z) (wy P a b)) (wy P a u)<=0;rcases z6a (hle u hu) with k|k
  ·have h1:=f u (by simp[hu,k])
   have v:dot (cross (wy P a z) (wy P a b)) (wy P a u)=- dot (wy P a b) (cross (wy P a z) (wy P a u)):=by simp only[dot,cross];grind
   omega
  ·have h1:=l u hu k;have v:dot (cross (wy P a z) (wy P a b)) (wy P a u)=dot (wy P a z) (cross (wy P a b) (wy P a u)):=by simp only[dot,cross];grind
   rw[v,h1,pM];omega
 obtain⟨u,i,K⟩:=nf J;have:=le u i;obtain⟨O,Q,r,hn,I⟩:=CK e s B q o t rfl le ⟨u,i,by omega⟩
 refine⟨O,_,I,az.2 ⟨e,rfl⟩,az.2 ⟨B,?_⟩⟩;have A:dot (da P a z b) (wy P a b)=0:=by show dot (cross (wy P a z) (wy P a b)) (wy P a b)=0;simp only[dot,cross];grind
 rw[hn,pK] at A;have:=aA r A;rw[bX] at this;omega
def Rs{a:Nat}{g b:V}{d1:Int}(h1:IsF P N b d1)(j:a∈bo P N b d1)(hle:∀ x,x<N->dot g (wy P a x)<=0) :
  ∃ (z:Nat) (K G:Int),z<N/\0<K/\0<=G/\dot b (wy P a z)<0/\(∀ x,x<N->dot (sub (smul K g) (smul G b)) (wy P a x)<=0)/\dot (sub (smul K g) (smul G b)) (wy P a z)=0:=by
 have d:∀ x,dot b (wy P a x)=dot b (P x)-d1:=λx=>by rw[bX,(az.1 j).2]
 obtain⟨z0,e,i⟩:=h1.supp.2;obtain⟨z,h,hl⟩:=Ih (G:=λx=>- dot g (wy P a x)) (K:=λx=>- dot b (wy P a x)) ((List.range N).filter λk=>decide (dot b (wy P a k)<0)) (List.ne_nil_of_mem (a:=z0) (by simp[e];have:=d z0;omega)) (λx hx=>by
  have:dot b (wy P a x)<0:=by simpa using(zxb.1 hx).2
  omega)
 have c:z<N:=by simpa using(zxb.1 h).1
 have f:dot b (wy P a z)<0:=by simpa using(zxb.1 h).2
 have m:=hle z c;refine⟨z,- dot b (wy P a z),- dot g (wy P a z),c,by omega,by omega,f,λx hx=>?_,?_⟩
 ·rw[ib];have n:=h1.supp.1 x hx;have o:=d x;have l:=hle x hx;rcases z6a (show dot b (wy P a x)<=0 by omega) with k|k
  ·have:=hl x (by simp[hx,k])
   rw[Int.neg_mul_neg,Int.neg_mul_neg] at this;rw[Int.neg_mul,Int.neg_mul,z5a (dot b (wy P a z))];omega
  ·rw[k,zLb];have:=zlb (show 0<=- dot b (wy P a z) by omega) (show 0<=- dot g (wy P a x) by omega)
   rw[z1b] at this;omega
 ·rw[ib,Int.neg_mul,Int.neg_mul,z5a];omega
section
variable{a:Nat}{W:V}
def oL(o:a<N)(nf:∀ {m:V},m≠zero->∃ x,x<N/\dot m (wy P a x)≠0)(H:∀ n d,IsF P N n d->a∈bo P N n d->dot n W<0){g:V}(g0:g≠zero)(hle:∀ x,x<N->dot g (wy P a x)<=0){b:Nat}(I:b<N)(J:wy P a b≠zero)(tb:dot g (wy P a b)=0):dot g W<0:=by
 have flat:∀ {g:V},g≠zero->(∀ x,x<N->dot g (wy P a x)<=0)->dot g (wy P a b)=0->∀ {c:Nat},c<N->dot g (wy P a c)=0->cross (wy P a b) (wy P a c)≠zero->dot g W<0:=λ{g} g0 hle tb {c} hc S B=>by
  obtain⟨n,d,h1,l,_,k,hk,e⟩:=NH o I hc g0 hle (nf g0) tb S B;rw[e,pK];exact zdb hk (H n d h1 l)
 by_cases hx:∃ x,x<N/\dot g (wy P a x)=0/\cross (wy P a b) (wy P a x)≠zero
 ·obtain⟨x,h1,l,w⟩:=hx;exact flat g0 hle tb h1 l w
 ·have v:∀ x,x<N->dot g (wy P a x)=0->cross (wy P a b) (wy P a x)=zero:=λx h1 l=>Classical.byContradiction λw=>hx ⟨x,h1,l,w⟩;obtain⟨f,d1,E,j,A⟩:=NC o I J g0 hle nf tb v;obtain⟨z,K,G,Q,u,F,R,q,C⟩:=Rs E j hle;have nb:dot f (wy P a b)=0:=by rw[bX,(az.1 j).2,(az.1 A).2];omega
  have D:=H f d1 E j;have B:cross (wy P a b) (wy P a z)≠zero:=λh=>by
   have p:=wD h f;rw[nb] at p;have r:=congrArg V.x p;have s:=congrArg V.y p;have t:=congrArg V.z p;simp only[smul,z2b] at r s t;exact J (V.ext' ((zcb.1 r.symm).resolve_left (by omega)) ((zcb.1 s.symm).resolve_left (by omega)) ((zcb.1 t.symm).resolve_left (by omega)))
  have T:=ib K G g f W;have L:dot (sub (smul K g) (smul G f)) (wy P a b)=0:=by rw[ib,tb,nb];omega
  have i:dot (sub (smul K g) (smul G f)) W<=0/\(sub (smul K g) (smul G f)≠zero->dot (sub (smul K g) (smul G f)) W<0):=by
   by_cases h0:sub (smul K g) (smul G f)=zero
   ·exact⟨by rw[h0];simp[dot,zero],λh=>absurd h0 h⟩
   ·have:=flat h0 q L Q C B;exact⟨by omega,λ_=>this⟩
  have M:G*dot f W<=0:=Int.mul_nonpos_of_nonneg_of_nonpos F (by omega)
  have O:K*dot g W<0:=by
   by_cases h0:sub (smul K g) (smul G f)=zero
   ·rcases z6a F with k|k
    ·have:=zdb k D;have:=i.1;omega
    ·exfalso;rw[<-k] at h0;have r:=congrArg V.x h0;have s:=congrArg V.y h0;have t:=congrArg V.z h0;simp only[sub,smul,zero,z2b,Int.sub_zero] at r s t;exact g0 (V.ext' (aA u r) (aA u s) (aA u t))
   ·have:=i.2 h0;omega
  rcases zzb (dot g W) 0 with k|k
  ·exact k
  ·have:=zlb (zva u) k;omega
def Nn(o:a<N)(nf:∀ {m:V},m≠zero->∃ x,x<N/\dot m (wy P a x)≠0)(R:∀ n d,IsF P N n d->a∈bo P N n d->dot n W<0){g:V}(g0:g≠zero)(hle:∀ x,x<N->dot g (wy P a x)<=0):dot g W<0:=by
 by_cases ht:∃ b,b<N/\wy P a b≠zero/\dot g (wy P a b)=0
 ·obtain⟨b,h1,h2,M⟩:=ht;exact oL o nf R g0 hle h1 h2 M
 have st:∀ x,x<N->wy P a x≠zero->dot g (wy P a x)<0:=λx hx hw=>by
  have:=hle x hx;rcases z6a this with k|k
  ·exact k
  ·exact absurd ⟨x,hx,hw,k⟩ ht
 obtain⟨f,Z,Y⟩:=nf g0;have w1:wy P a f≠zero:=λh=>Y (by rw[h,pM])
 obtain⟨e,S,T⟩:∃ e:V,e≠zero/\dot e (wy P a f)=0:=by
  by_cases hxy:(wy P a f).x=0/\(wy P a f).y=0
  ·exact⟨⟨1,0,0⟩,λh=>by simp[zero] at h,by simp[dot,hxy.1]⟩
  ·refine⟨⟨-(wy P a f).y,(wy P a f).x,0⟩,λh=>hxy ?_,by simp only[dot];grind⟩
   simp only[zero,V.mk.injEq] at h;omega
 obtain⟨J,ad,u⟩:=nf S;have hc:cross (wy P a f) (wy P a J)≠zero:=λh=>by
  have p:=wD h e;rw[T] at p;have y1:=congrArg V.x p;have y2:=congrArg V.y p;have y3:=congrArg V.z p;simp only[smul,z2b] at y1 y2 y3;exact w1 (V.ext' ((zcb.1 y1.symm).resolve_left u) ((zcb.1 y2.symm).resolve_left u) ((zcb.1 y3.symm).resolve_left u))
 obtain⟨c,i⟩:∃ c,c=cross (wy P a f) (wy P a J):=⟨_,rfl⟩;have cc:0<dot c c:=bf (i ▸ hc);obtain⟨v,hv⟩:∃ v,v=cross c (add (wy P a f) (wy P a J)):=⟨_,rfl⟩;have v1:dot v (wy P a f)=- dot c c:=by
  rw[hv];conv=>rhs;rw[i]
  rw[i];simp only[dot,cross,add];grind
 have v2:dot v (wy P a J)=dot c c:=by
  rw[hv,i];simp only[dot,cross,add];grind
 have go:∀ s:Int,(s=1\/s=-1)->∃ (z:Nat) (K G:Int),z<N/\0<K/\0<G/\wy P a z≠zero/\(∀ x,x<N->dot (sub (smul K g) (smul (-(s*G)) v)) (wy P a x)<=0)/\dot (sub (smul K g) (smul (-(s*G)) v)) (wy P a z)=0:=λs L=>by
  obtain⟨z,hz,hl⟩:=Ih (G:=λx=>- dot g (wy P a x)) (K:=λx=>s*dot v (wy P a x)) ((List.range N).filter λk=>decide (0<s*dot v (wy P a k))) (by
   rcases L with rfl|rfl
   ·exact List.ne_nil_of_mem (a:=J) (by simp[ad];omega)
   ·exact List.ne_nil_of_mem (a:=f) (by simp[Z];omega)) (λx hx=>by simpa using(zxb.1 hx).2)
  have I:z<N:=by simpa using(zxb.1 hz).1
  have A:0<s*dot v (wy P a z):=by simpa using(zxb.1 hz).2
  have wz:wy P a z≠zero:=λh=>by rw[h,pM,zLb] at A;omega
  have gz:=st z I wz;refine⟨z,s*dot v (wy P a z),- dot g (wy P a z),I,A,by omega,wz,λx hx=>?_,?_⟩
  ·rw[ib];have ai:=hle x hx;rcases zzb 0 (s*dot v (wy P a x)) with k|k
   ·have:=hl x (by simp[hx,k])
    generalize dot v (wy P a x)=p at *;generalize dot v (wy P a z)=q at *;generalize dot g (wy P a x)=r at *;generalize dot g (wy P a z)=t at *;rcases L with rfl|rfl
    ·simp only[zwc,Int.neg_neg,Int.neg_mul] at *;rw[z5a q r];omega
    ·simp only[zwc,Int.neg_neg,Int.neg_mul,z1b] at *;rw[z5a q r];omega
   ·have h1:=zlb (zva A) (show 0<=- dot g (wy P a x) by omega)
    have h2:=zlb (show 0<=- dot g (wy P a z) by omega) (show 0<=-(s*dot v (wy P a x)) by omega)
    generalize dot v (wy P a x)=p at *;generalize dot v (wy P a z)=q at *;generalize dot g (wy P a x)=r at *;generalize dot g (wy P a z)=t at *;rcases L with rfl|rfl
    ·simp only[zwc,Int.neg_neg,Int.neg_mul,z1b] at *;omega
    ·simp only[zwc,Int.neg_neg,Int.neg_mul,z1b] at *;omega
  ·rw[ib];rcases L with rfl|rfl
   ·simp only[zwc,Int.neg_neg,Int.neg_mul,z1b] at *;rw[z5a];omega
   ·simp only[zwc,Int.neg_neg,Int.neg_mul,z1b] at *;rw[z5a];omega
 obtain⟨z1,K1,G1,F,O,B,j,U,D⟩:=go 1 (.inl rfl);obtain⟨z2,K2,G2,H,Q,C,l,X,E⟩:=go (-1) (.inr rfl);have comb:∀ w:V,G2*dot (sub (smul K1 g) (smul (-(1*G1)) v)) w+G1*dot (sub (smul K2 g) (smul (-(-1*G2)) v)) w=(G2*K1+G1*K2)*dot g w:=λw=>by
  rw[ib,ib];grind
 have kp:0<G2*K1+G1*K2:=by
  have:=z0a C O;have:=z0a B Q;omega
 have n1:sub (smul K1 g) (smul (-(1*G1)) v)≠zero:=λh=>by
  have:=comb (wy P a z2);rw[E,h,show dot zero (wy P a z2)=0 by simp[dot,zero],zLb,zLb] at this
  have M:=aA kp this.symm;have:=st z2 H l;omega
 have n2:sub (smul K2 g) (smul (-(-1*G2)) v)≠zero:=λh=>by
  have:=comb (wy P a z1);rw[D,h,show dot zero (wy P a z1)=0 by simp[dot,zero],zLb,zLb] at this
  have M:=aA kp this.symm;have:=st z1 F j;omega
 have r1:=oL o nf R n1 U F j D;have r2:=oL o nf R n2 X H l E;have:=comb W;have q1:=zdb C r1;have q2:=zdb B r2;rcases zzb (dot g W) 0 with k|k
 ·exact k
 ·have:=zlb (zva kp) k;omega
end
end
end Geo
end
noncomputable section
namespace Geo
open V
section
variable{P:Nat->V}{N:Nat}
def IH{u v g:V}(h:cross u v=zero)(hu:dot g u=0)(a:dot g v≠0):u=zero:=by
 have p:=wD h g;rw[hu] at p;have b:=congrArg V.x p;have c:=congrArg V.y p;have d:=congrArg V.z p;simp only[smul,z2b] at b c d;exact V.ext' ((zcb.1 b.symm).resolve_left a) ((zcb.1 c.symm).resolve_left a) ((zcb.1 d.symm).resolve_left a)
def HJ(hl:∀ i j,i<j->j<N->aD (P i) (P j))(R:∀ k,k<N->Nm P N k){n:V}{d:Int}(E:IsF P N n d){a b:Nat}(s:a∈bo P N n d)(o:b∈bo P N n d)(m:b≠a){g:V}(hle:∀ x,x<N->dot g (wy P a x)<=0)(tb:dot g (wy P a b)=0)
  (H:∀ x,x<N->dot g (wy P a x)=0->cross (wy P a b) (wy P a x)=zero):yC P N n d a b\/yC P N n d b a:=by
 have F:=E.flat hl;have L:=qF F s o m;have c:∀ {x},x∈bo P N n d->x<N:=λh=>(az.1 h).1;have C:∀ {x},x∈bo P N n d->dot n (wy P a x)=0:=λh=>F.pl a s _ h;have ext:∀ {x},x∈bo P N n d->ml P (bo P N n d) x:=λ{x} h=>by
  obtain⟨f,Q⟩:=(R x (c h)).front;exact⟨f,λy S J=>Q y (c S) J⟩
 obtain⟨v,A,w⟩:∃ v,v∈bo P N n d/\dot g (wy P a v)<0:=by
  apply Classical.byContradiction;intro I;have all:∀ x,x∈bo P N n d->cross (wy P a b) (wy P a x)=zero:=λx hx=>H x (c hx) (by
   have:=hle x (c hx);rcases z6a this with k|k
   ·exact absurd ⟨x,hx,k⟩ I
   ·exact k)
  obtain⟨i,j,k,_,_,_,U,W,mk,G⟩:=E.three;refine G ?_;have pi:=wD (all i U) (wy P a b);have X:=wD (all j W) (wy P a b);have Y:=wD (all k mk) (wy P a b);have wp:=bf L;have e:smul (dot (wy P a b) (wy P a b)*dot (wy P a b) (wy P a b)) (da P i j k)=zero:=by
   have M:da P i j k=cross (sub (wy P a j) (wy P a i)) (sub (wy P a k) (wy P a i)):=by apply V.ext'<;>simp only[da,cross,wy,sub]<;>grind
   have O:∀ u v:V,∀ k:Int,smul (k*k) (cross u v)=cross (smul k u) (smul k v):=λu v k=>by apply V.ext'<;>simp only[smul,cross]<;>grind
   have K:∀ u v:V,∀ k:Int,smul k (sub u v)=sub (smul k u) (smul k v):=λu v k=>by apply V.ext'<;>simp only[smul,sub]<;>grind
   rw[M,O,K,K,pi,X,Y];apply V.ext'<;>simp only[smul,cross,sub,zero]<;>grind
  have Z:=congrArg V.x e;have y2:=congrArg V.y e;have y3:=congrArg V.z e;have r:=z0a wp wp;exact V.ext' (aA r Z) (aA r y2) (aA r y3)
 obtain⟨t,G⟩:∃ t,T n (wy P a b) (wy P a v)=t:=⟨_,rfl⟩;have pl:∀ x,x∈bo P N n d->dot g (wy P a v)*T n (wy P a b) (wy P a x)=dot g (wy P a x)*t:=λx hx=>by
  have p:=zt E.nz.1 g (C o) (C A) (C hx);rw[tb,Jo (wy P a b) (wy P a x),G] at p;rw[z2b,z1b] at p;omega
 have D:∀ x,x∈bo P N n d->T n (wy P a b) (wy P a x)=0->x=a\/x=b:=λx hx h0=>by
  by_cases hxa:x=a
  ·exact .inl hxa
  ·exact .inr (ml.ray F s o hx (ext s) (ext o) (ext hx) m hxa h0).symm
 have t0:t≠0:=λh=>L (IH (dW E.nz.1 (C o) (C A) (G.trans h)) tb (by omega))
 have sgn:∀ x,x∈bo P N n d->(0<t->0<=T n (wy P a b) (wy P a x))/\(t<0->T n (wy P a b) (wy P a x)<=0):=λx hx=>by
  have p:=pl x hx;have B:=hle x (c hx);refine⟨λk=>?_,λk=>?_⟩
  ·have h1:=Int.mul_nonpos_of_nonpos_of_nonneg B (zva k);rcases zzb (T n (wy P a b) (wy P a x)) 0 with q|q
   ·have:=zZb w q;omega
   ·exact q
  ·have h1:=Int.mul_nonneg_of_nonpos_of_nonpos B (zva k);rcases zzb 0 (T n (wy P a b) (wy P a x)) with q|q
   ·have:=zod w q;omega
   ·exact q
 have l:∀ u:V,0<=dot u u:=mD;rcases zmd t0 with k|k
 ·right;refine⟨o,s,λh=>m h.symm,λx hx=>?_⟩;have e:T n (wy P b a) (wy P b x)=- T n (wy P a b) (wy P a x):=by simp only[T,dot,cross,wy,sub];grind
  rw[e];refine⟨by have:=(sgn x hx).2 k;omega,λh0=>?_⟩
  rcases D x hx (by omega) with rfl|rfl
  ·exact⟨l _,zhc _⟩
  ·rw[lT,show dot zero (wy P x a)=0 by simp[dot,zero]]
   exact⟨zhc _,l _⟩
 ·left;refine⟨s,o,m,λx hx=>?_⟩;refine⟨(sgn x hx).1 k,λh0=>?_⟩;rcases D x hx h0 with rfl|rfl
  ·rw[lT,show dot zero (wy P x b)=0 by simp[dot,zero]]
   exact⟨zhc _,l _⟩
  ·exact⟨l _,zhc _⟩
end
def Im(A B:Nat->V)(Na:Nat)(s t:Int)(k:Nat):V:=sub (smul s (B (k/Na))) (smul t (A (k%Na)))
section
variable{A B:Nat->V}{Na Nb:Nat}{s t:Int}
def gf(P:Nat->V)(N:Nat)(n:V)(i:Nat):Prop:=i<N/\∀ x,x<N->dot n (P x)<=dot n (P i)
def sat(hs:0<s)(T:0<t)(c:0<Na)(C:0<Nb)(nf:∀ {m:V},m≠zero->∀ i,i<Na->∃ x,x<Na/\dot m (wy A i x)≠0){u:V}(u0:u≠zero)(hu:∀ i j,i<Na->j<Nb->t*dot u (A i)<=s*dot u (B j)) :
  ∃ n:V,n≠zero/\a7 n=1/\(∀ i j,i<Na->j<Nb->s*dot n (B j)<=t*dot n (A i)) ∧
   ((∃ i j k,gf B Nb n i/\gf B Nb n j/\gf B Nb n k/\da B i j k≠zero)\/(∃ i j k,gf A Na (neg n) i/\gf A Na (neg n) j/\gf A Na (neg n) k/\da A i j k≠zero) ∨
    ∃ i j k l,gf B Nb n i/\gf B Nb n j/\gf A Na (neg n) k/\gf A Na (neg n) l/\cross (wy B i j) (wy A k l)≠zero):=by
 obtain⟨P,Q⟩:∃ P,P=Im A B Na s t:=⟨_,rfl⟩;obtain⟨N,O⟩:∃ N,N=Nb*Na:=⟨_,rfl⟩;have N0:0<N:=O ▸ Nat.mul_pos C c;have qr:∀ k,k<N->k/Na<Nb/\k%Na<Na:=λk hk=>⟨(zRa c).2 (O ▸ hk),zVa _ c⟩;have idx:∀ i j,i<Na->j<Nb->∃ k,k<N/\k/Na=j/\k%Na=i:=λi j q S=>by
  refine⟨j*Na+i,?_,?_,?_⟩
  ·have:=zya Na (show j+1<=Nb by omega)
   rw[z8a] at this;omega
  ·rw[zGa,Nat.mul_add_div c,z2a q];omega
  ·rw[zGa,Nat.mul_add_mod,zMa q]
 have g:∀ (n:V) k,dot n (P k)=s*dot n (B (k/Na))-t*dot n (A (k%Na)):=λn k=>by
  rw[Q];simp only[Im,dot,sub,smul];grind
 have I:∀ a,a<N->∀ {m:V},m≠zero->∃ x,x<N/\dot m (wy P a x)≠0:=λa R m hm=>by
  obtain⟨x,hx,G⟩:=nf hm (a%Na) (qr a R).2;obtain⟨k,hk,k1,k2⟩:=idx x (a/Na) hx (qr a R).1;refine⟨k,hk,λh=>G ?_⟩;rw[bX,g,g,k1,k2] at h;rw[bX];have:t*(dot m (A x)-dot m (A (a%Na)))=0:=by rw[Int.mul_sub];omega
  exact aA T this
 obtain⟨a,f,o,_⟩:=Ch (λk=>dot (neg u) (P k)) N N0;have v:∀ w:V,dot (neg u) w=- dot u w:=λw=>by simp only[dot,neg];grind
 have hle:∀ x,x<N->dot (neg u) (wy P a x)<=0:=λx hx=>by
  have:dot (neg u) (P x)<=dot (neg u) (P a):=o x hx;rw[bX];omega
 have g0:neg u≠zero:=λh=>u0 (by
  have x1:=congrArg V.x h;have x2:=congrArg V.y h;have x3:=congrArg V.z h;simp only[neg,zero] at x1 x2 x3;exact V.ext' (by simp only[zero];omega) (by simp only[zero];omega) (by simp only[zero];omega))
 obtain⟨n,d,p,hd⟩:∃ n d,IsF P N n d/\d<=0:=by
  apply Classical.byContradiction;intro F;have:=Nn (W:=neg (P a)) f (I a f) (λn d h1 Z=>by
   have e:dot n (neg (P a))=- dot n (P a):=by simp only[dot,neg];grind
   rw[e,(az.1 Z).2];rcases zzb 0 d with k|k
   ·omega
   ·exact absurd ⟨n,d,h1,k⟩ F) g0 hle
  have e:dot (neg u) (neg (P a))=dot u (P a):=by simp only[dot,neg];grind
  rw[e,g] at this;have:=hu (a%Na) (a/Na) (qr a f).2 (qr a f).1;omega
 have b:=p.supp.1;have ew:∀ k,k∈bo P N n d->gf B Nb n (k/Na)/\gf A Na (neg n) (k%Na):=λk hk=>by
  obtain⟨D,E⟩:=az.1 hk;obtain⟨U,X⟩:=qr k D;rw[g] at E;refine⟨⟨U,λx hx=>?_⟩,X,λx hx=>?_⟩
  ·obtain⟨H,a1,a2,a3⟩:=idx (k%Na) x X hx;have:=b H a1;rw[g,a2,a3] at this;exact Int.le_of_mul_le_mul_left (by omega) hs
  ·obtain⟨H,a1,a2,a3⟩:=idx x (k/Na) hx U;have:=b H a1;rw[g,a2,a3] at this;have v:∀ w:V,dot (neg n) w=- dot n w:=λw=>by simp only[dot,neg];grind
   rw[v,v];have:=Int.le_of_mul_le_mul_left (show t*dot n (A (k%Na))<=t*dot n (A x) by omega) T
   omega
 refine⟨n,p.nz.1,p.nz.2,λi j q S=>?_,?_⟩
 ·obtain⟨k,a1,a2,a3⟩:=idx i j q S;have:=b k a1;rw[g,a2,a3] at this;omega
 obtain⟨i,j,k,_,_,_,mi,mj,mk,h3⟩:=p.three;obtain⟨bi,r⟩:=ew i mi;obtain⟨L,J⟩:=ew j mj;obtain⟨M,K⟩:=ew k mk;by_cases c1:da B (i/Na) (j/Na) (k/Na)=zero
 ·by_cases c2:da A (i%Na) (j%Na) (k%Na)=zero
  ·right;right;by_cases c3:cross (wy B (i/Na) (j/Na)) (wy A (i%Na) (k%Na))=zero
   ·refine⟨_,_,_,_,bi,M,r,J,λY=>h3 ?_⟩;have e:da P i j k=add (sub (smul (s*s) (da B (i/Na) (j/Na) (k/Na))) (smul (s*t) (cross (wy B (i/Na) (j/Na)) (wy A (i%Na) (k%Na))))) (add (smul (s*t) (cross (wy B (i/Na) (k/Na)) (wy A (i%Na) (j%Na)))) (smul (t*t) (da A (i%Na) (j%Na) (k%Na)))):=by
     rw[Q];generalize hB1:B (i/Na)=b1;generalize hB2:B (j/Na)=b2;generalize hB3:B (k/Na)=b3;generalize hA1:A (i%Na)=a1;generalize hA2:A (j%Na)=a2;generalize hA3:A (k%Na)=a3;apply V.ext'<;>simp only[da,cross,wy,sub,smul,add,Im,hB1,hB2,hB3,hA1,hA2,hA3]<;>grind
    rw[e,c1,c2,c3,Y];apply V.ext'<;>simp[add,sub,smul,zero]
   ·exact⟨_,_,_,_,bi,L,r,K,c3⟩
  ·exact .inr (.inl ⟨_,_,_,r,J,K,c2⟩)
 ·exact .inl ⟨_,_,_,bi,L,M,c1⟩
end
end Geo
end
noncomputable section
namespace Sy
open Go Go.Proofs Geo
def cq(q:Nat->Int)(v:V):V:=⟨ft q 0*v.x+ft q 3*v.y+ft q 6*v.z,ft q 1*v.x+ft q 4*v.y+ft q 7*v.z,ft q 2*v.x+ft q 5*v.y+ft q 8*v.z⟩
def pL(q:Nat->Int)(u v:V):V.dot u (bE q v)=V.dot (cq q u) v:=by
 simp only[V.dot,bE,cE,cq,zGc,zWa,zVc,Nat.reduceMul,Nat.reduceAdd];grind
def su(q:Nat->Int)(v:V):bE q (cq q v)=V.smul (bg q*bg q) v:=by
 apply V.ext'<;>simp only[V.smul,bE,cE,cq,ft,bg,zGc,zWa,zVc,Nat.reduceMul,Nat.reduceAdd]<;>grind
def qU(q:Nat->Int)(v:V):cq q (bE q v)=V.smul (bg q*bg q) v:=by
 apply V.ext'<;>simp only[V.smul,bE,cE,cq,ft,bg,zGc,zWa,zVc,Nat.reduceMul,Nat.reduceAdd]<;>grind
def sA(q:Nat->Int)(k:Int)(v:V):bE q (V.smul k v)=V.smul k (bE q v):=by
 apply V.ext'<;>simp only[V.smul,bE,cE]<;>grind
def wR(q:Nat->Int)(k:Int)(v:V):cq q (V.smul k v)=V.smul k (cq q v):=by
 apply V.ext'<;>simp only[V.smul,cq]<;>grind
def gV{k:Int}(hk:k≠0){v:V}(h:V.smul k v=V.zero):v=V.zero:=by
 have a:=congrArg V.x h;have b:=congrArg V.y h;have c:=congrArg V.z h;simp only[V.smul,V.zero] at a b c;exact V.ext' ((zcb.1 a).resolve_left hk) ((zcb.1 b).resolve_left hk) ((zcb.1 c).resolve_left hk)
section
variable{q:Nat->Int}(hq:bg q≠0)
include hq
def M9{v:V}(h:v≠V.zero):bE q v≠V.zero:=λe=>h (gV (zrc hq hq) (by rw[<-qU,e];simp[cq,V.zero]))
def tK{v:V}(h:v≠V.zero):cq q v≠V.zero:=λe=>h (gV (zrc hq hq) (by rw[<-su,e];simp[bE,cE,V.zero]))
def Ds{u v:V}(h:V.cross u v=V.zero):V.cross (bE q u) (bE q v)=V.zero:=by
 by_cases hu:u=V.zero
 ·subst hu;apply V.ext'<;>simp[V.cross,bE,cE,V.zero]
 ·have p:=congrArg (bE q) (wD h u);rw[sA,sA] at p;refine gV (k:=V.dot u u) (by have:=pJ hu;omega) ?_
  have e:V.smul (V.dot u u) (V.cross (bE q u) (bE q v))=V.cross (bE q u) (V.smul (V.dot u u) (bE q v)):=by apply V.ext'<;>simp only[V.smul,V.cross]<;>grind
  rw[e,p];apply V.ext'<;>simp only[V.smul,V.cross,V.zero]<;>grind
def Cr{u v:V}(h:V.cross (bE q u) (bE q v)=V.zero):V.cross u v=V.zero:=by
 have c:=zrc hq hq;have key:V.cross (cq q (bE q u)) (cq q (bE q v))=V.zero:=by
  generalize bE q u=a at *;generalize bE q v=b at *;by_cases ha:a=V.zero
  ·subst ha;apply V.ext'<;>simp[V.cross,cq,V.zero]
  ·have p:=congrArg (cq q) (wD h a);rw[wR,wR] at p;refine gV (k:=V.dot a a) (by have:=pJ ha;omega) ?_
   have e:V.smul (V.dot a a) (V.cross (cq q a) (cq q b))=V.cross (cq q a) (V.smul (V.dot a a) (cq q b)):=by apply V.ext'<;>simp only[V.smul,V.cross]<;>grind
   rw[e,p];apply V.ext'<;>simp only[V.smul,V.cross,V.zero]<;>grind
 rw[qU,qU] at key;refine gV (zrc c c) ?_;rw[<-key];apply V.ext'<;>simp only[V.smul,V.cross]<;>grind
end
def kZ(x:V)(q:Nat->Int)(l:List V)(i:Nat):V:=kj x q (pt l i)
def uC(n x:V)(q:Nat->Int)(l:List V)(i:Nat):V.dot n (kZ x q l i)=V.dot (cq q n) (pt l i)+bg q*V.dot n x:=by
 rw[<-pL];simp only[kZ,kj,V.dot,bE];grind
def yz(x:V)(q:Nat->Int)(l:List V)(i j:Nat):wy (kZ x q l) i j=bE q (wy (pt l) i j):=by
 apply V.ext'<;>simp only[wy,V.sub,kZ,kj,bE,cE]<;>grind
def vU{n x:V}{q:Nat->Int}{l:List V}{i:Nat}(h:gf (kZ x q l) l.length n i):gf (pt l) l.length (cq q n) i:=⟨h.1,λk hk=>by
 have:=h.2 k hk;rw[uC,uC] at this;omega⟩
def Dp{P:Nat->V}{N:Nat}{n:V}{i:Nat}(h:gf P N n i):∀ k,k<N->V.dot n (wy P i k)<=0:=λk hk=>by
 have:=h.2 k hk;rw[bX];omega
def nQ{P:Nat->V}{N:Nat}{n:V}{i j:Nat}(h:gf P N n i)(k:gf P N n j):V.dot n (wy P i j)=0:=by
 have:=h.2 j k.1;have:=k.2 i h.1;rw[bX];omega
def Ew{n:V}(h:n≠V.zero):n.neg≠V.zero:=λe=>h (vk.1 e)
def uI{x n:V}{q:Nat->Int}(hq:bg q≠0){l:List V}(hl:Hul l){F:FL}{E:List (Nat×Nat)}(y:Fac l F E)(z:n≠V.zero)(A:a7 n=1){i j k:Nat}(C:gf (kZ x q l) l.length n i)(D:gf (kZ x q l) l.length n j)(G:gf (kZ x q l) l.length n k)(w:da (kZ x q l) i j k≠V.zero):n∈HS q F:=by
 obtain⟨m0,d0,h0⟩:=hl.ex;have r:=tK hq z;have t1:=vU C;have t2:=vU D;have t3:=vU G;have hc:V.cross (wy (pt l) i j) (wy (pt l) i k)≠V.zero:=λh=>w (by
  show V.cross (wy (kZ x q l) i j) (wy (kZ x q l) i k)=V.zero;rw[yz,yz];exact Ds h)
 obtain⟨f,d,t,_,_,c,o,e⟩:=NH t1.1 t2.1 t3.1 r (Dp t1) (qg h0 i r) (nQ t1 t2) (nQ t1 t3) hc;obtain⟨s,p,m⟩:=zXa.1 ((y.kn.facets.mem (f,d)).2 t);refine zXa.2 ⟨s,p,?_⟩;rw[show s.1.1=f by rw[m]]
 have g:=su q n;rw[e,sA] at g;have u:=M9 hq t.nz.1;have pm:=fK (bE q f);have H:=fa u;have B:0<bg q*bg q:=zO hq;refine mS (ja u) A (a:=c*a7 (bE q f)) (b:=bg q*bg q) (z0a o (by omega)) B ?_
 rw[pm] at g;rw[<-g];have:∀ (a b:Int) (v:V),V.smul (a*b) v=V.smul a (V.smul b v):=λa b v=>by simp only[V.smul,Int.mul_assoc]
 rw[this,<-pm]
def xd{x n:V}{q:Nat->Int}(hq:bg q≠0){l:List V}(hl:Hul l){F:FL}{E:List (Nat×Nat)}(u:Fac l F E)(L:n≠V.zero){i j:Nat}(N:gf (kZ x q l) l.length n i)(O:gf (kZ x q l) l.length n j)(m:wy (kZ x q l) i j≠V.zero)
  (p:∀ k,gf (kZ x q l) l.length n k->da (kZ x q l) i j k=V.zero):∃ e∈E,(me q l e=wy (kZ x q l) i j\/me q l e=(wy (kZ x q l) i j).neg):=by
 obtain⟨m0,d0,h0⟩:=hl.ex;have H:=tK hq L;have t1:=vU N;have t2:=vU O;rw[yz] at m ⊢;have o:wy (pt l) i j≠V.zero:=λh=>m (by rw[h];simp[bE,cE,V.zero])
 have y:j≠i:=λh=>o (by rw[h,lT])
 have c:∀ k,k<l.length->V.dot (cq q n) (wy (pt l) i k)=0->V.cross (wy (pt l) i j) (wy (pt l) i k)=V.zero:=λk hk h=>by
  have P:gf (kZ x q l) l.length n k:=⟨hk,λz K=>by
   have:=t1.2 z K;rw[bX] at h;rw[uC,uC];omega⟩
  have:=p k P;rw[show da (kZ x q l) i j k=V.cross (wy (kZ x q l) i j) (wy (kZ x q l) i k) from rfl,yz,yz] at this;exact Cr hq this
 obtain⟨f,d,w,I,J⟩:=NC t1.1 t2.1 o H (Dp t1) (λhm=>qg h0 i hm) (nQ t1 t2) c;have C:=HJ hl.srt hl.vtx w I J y (Dp t1) (nQ t1 t2) c;have A:∀ {a b:Nat},a<b->(∃ n d,IsF (pt l) l.length n d/\(yC (pt l) l.length n d a b\/yC (pt l) l.length n d b a))->(a,b)∈E:=λ{a b} v h=>by
  obtain⟨M,d1,h1,s⟩:=(uD hl.srt).1 h;rw[u.e,vc];refine⟨(az.1 s.1).1,(az.1 s.2.mem).1,v,?_⟩;obtain⟨B,g,r⟩:=zXa.1 ((u.kn.facets.mem (M,d1)).2 h1);obtain⟨D,G⟩:=u.kn.fok.ok B g;rw[r] at D G;obtain⟨t,i1,i2,i3⟩:=(bH.dir hl.srt D G).2 s;refine z0b.2 ⟨B,g,z0b.2 ⟨t,zLa.2 i1,?_⟩⟩;unfold Pe;rw[decide_eq_true i2,decide_eq_true i3];rfl
 rcases zla i j with k|k
 ·refine⟨(i,j),A k ⟨f,d,w,C⟩,.inl rfl⟩
 ·refine⟨(j,i),A (by omega) ⟨f,d,w,C.symm⟩,.inr ?_⟩
  unfold me;apply V.ext'<;>simp only[bE,cE,wy,V.sub,V.neg]<;>grind
def Bx{n c:V}(g:n≠V.zero)(f:a7 n=1)(d:c≠V.zero)(h:V.cross n c=V.zero):n=aG c\/n=(aG c).neg:=by
 have p:=wD h n;have nn:=pJ g;have gc:=fa d;have pm:=fK c;have sm:∀ (a b:Int) (v:V),V.smul (a*b) v=V.smul a (V.smul b v):=λa b v=>by simp only[V.smul,Int.mul_assoc]
 rcases zCb 0 (V.dot n c) with k|k|k
 ·left;refine mS f (ja d) (a:=V.dot n c) (b:=V.dot n n*a7 c) k (z0a nn (by omega)) ?_
  rw[sm,<-pm];exact p.symm
 ·exfalso;rw[<-k] at p;exact d (gV (k:=V.dot n n) (by omega) (by rw[p];simp[V.smul,V.zero]))
 ·right;refine mS f (by rw[pV];exact ja d) (a:=-V.dot n c) (b:=V.dot n n*a7 c) (by omega) (z0a nn (by omega)) ?_
  have e:V.smul (V.dot n n*a7 c) (aG c).neg=(V.smul (V.dot n n*a7 c) (aG c)).neg:=by apply V.ext'<;>simp only[V.smul,V.neg]<;>grind
  rw[e,sm,<-pm,p];apply V.ext'<;>simp only[V.smul,V.neg]<;>grind
def iM{a b:Int}(c:b≠0):(Rat.divInt a b).num*b=a*(Rat.divInt a b).den:=by
 have h:=zpb (Rat.divInt a b);exact(zqd (dG _) c).1 h
def ls{a b c d:Int}(i:0<b)(j:0<d):Rat.divInt a b<=Rat.divInt c d↔a*d<=c*b:=by
 have e:=iM (a:=a) (b:=b) (by omega)
 have f:=iM (a:=c) (b:=d) (by omega)
 have n:=(Rat.divInt a b).den_pos;have o:=(Rat.divInt c d).den_pos;rw[Rat.le_iff];generalize (Rat.divInt a b).num=x at *;generalize (Rat.divInt c d).num=y at *;obtain⟨u,hu⟩:∃ u:Int,((Rat.divInt a b).den:Int)=u:=⟨_,rfl⟩;obtain⟨v,l⟩:∃ v:Int,((Rat.divInt c d).den:Int)=v:=⟨_,rfl⟩;have m:0<u:=by omega
 have v0:0<v:=by omega
 rw[hu] at e ⊢;rw[l] at f ⊢;have bd:=z0a i j;have g:=z0a m v0;have k:(b*d)*(y*u-x*v)=(u*v)*(c*b-a*d):=by
  have:(b*d)*(y*u-x*v)=(y*d)*(u*b)-(x*b)*(v*d):=by grind
  rw[this,e,f];grind
 constructor
 ·intro h;have h1:=zlb (zva bd) (show 0<=y*u-x*v by omega)
  rw[k] at h1;have:=nF g h1;omega
 ·intro h;have h1:=zlb (zva g) (show 0<=c*b-a*d by omega)
  rw[<-k] at h1;have:=nF bd h1;omega
theorem CU(u:V)(L:List V):∀ k i,i<=k->V.dot u (pt L i)<=xT u L k
 | 0,i,h=>by rw[show i=0 by omega];exact zhc _
 | k+1,i,h=>by
  rw[vi];by_cases hi:i=k+1
  ·subst hi;split<;>omega
  ·have:=CU u L k i (by omega)
   split<;>omega
theorem CS(u:V)(L:List V):∀ k,∃ i,i<=k/\xT u L k=V.dot u (pt L i)
 | 0=>⟨0,zfa _,rfl⟩
 | k+1=>by
  rw[vi];split
  ·exact⟨k+1,zfa _,rfl⟩
  ·obtain⟨i,h1,a⟩:=CS u L k;exact⟨i,by omega,a⟩
section
variable{x y:V}{q r:Nat->Int}{l m:List V}{F G:FL}{E E':List (Nat×Nat)}
def zj(h:PairOk x y q r l m)(u:V):¬ ki u x y q r l m<0↔∀ i j,i<l.length->j<m.length->bg r*V.dot u (kZ x q l i)<=bg q*V.dot u (kZ y r m j):=by
 have d:=(fP h.pa.hq h.pa.h0).1;have f:=(fP h.pb.hq h.pb.h0).1;have na:=h.na;have nb:=h.nb;have e:¬ ki u x y q r l m<0↔xT u (l.map (kj x q)) (l.length-1)*bg r<=-xT u.neg (m.map (kj y r)) (m.length-1)*bg q:=by
  unfold ki eC;rw[Rat.not_lt,<-ls d f,<-Rat.neg_divInt];generalize Rat.divInt (xT u.neg (m.map (kj y r)) (m.length-1)) (bg r)=a;generalize Rat.divInt (xT u (l.map (kj x q)) (l.length-1)) (bg q)=b;constructor<;>intro h<;>grind
 rw[e];constructor
 ·intro hm i j g k;have h1:=CU u (l.map (kj x q)) (l.length-1) i (by omega)
  have c:=CU u.neg (m.map (kj y r)) (m.length-1) j (by omega)
  rw[zz _ g] at h1;rw[zz _ k,jk] at c;have s:=zab h1 (zva f);have o:=zab c (zva d);rw[z1b] at o;rw[Int.neg_mul,z5a _ (bg r),z5a _ (bg q)] at hm;show bg r*V.dot u (kj x q (pt l i))<=bg q*V.dot u (kj y r (pt m j));omega
 ·intro hm;obtain⟨i,i1,i2⟩:=CS u (l.map (kj x q)) (l.length-1);obtain⟨j,p,n⟩:=CS u.neg (m.map (kj y r)) (m.length-1);have:=hm i j (by omega) (by omega)
  rw[i2,n,zz _ (show i<l.length by omega),zz _ (show j<m.length by omega),jk,Int.neg_neg,z5a,z5a _ (bg q)]
  exact this
def Pp(h:PairOk x y q r l m)(hl:Hul l)(hm:Hul m)(M:Fac l F E)(N:Fac m G E'){u:V}(u0:u≠V.zero)(hu:¬ ki u x y q r l m<0):(fG x y q r l m (wG q r l m F G E E')).2.isSome=true:=by
 have Y:=(fP h.pa.hq h.pa.h0).1;have Z:=(fP h.pb.hq h.pb.h0).1;have K:bg q≠0:=by omega
 have P:bg r≠0:=by omega
 obtain⟨m0,d0,h0⟩:=hl.ex;obtain⟨n,C,I,g,hc⟩:=sat (A:=kZ x q l) (B:=kZ y r m) (Na:=l.length) (Nb:=m.length) (s:=bg q) (t:=bg r) Y Z h.na h.nb (λ{v} U i O=>by
  obtain⟨k,hk,H⟩:=qg h0 i (tK K U);exact⟨k,hk,by rw[yz,pL];exact H⟩) u0 ((zj h u).1 hu)
 have nz:=Ew C;have J:a7 n.neg=1:=by rw[pV];exact I
 have d:¬ ki n.neg x y q r l m<0:=(zj h n.neg).2 λi j O S=>by
  have:=g i j O S;rw[jk,jk,z1b,z1b];omega
 have fin:n.neg∈wG q r l m F G E E'->(fG x y q r l m (wG q r l m F G E E')).2.isSome=true:=λT=>by
  obtain⟨m1,m2⟩:=IY (mg:=λu=>ki u x y q r l m) (vl:=λu=>Ag u x y q r l m) (wG q r l m F G E E');obtain⟨p,e,_⟩:=m2 _ (m1 _ T nz) d;unfold fG;rw[e];rfl
 refine fin ?_;by_cases cb:∃ i j k,gf (kZ y r m) m.length n i/\gf (kZ y r m) m.length n j/\gf (kZ y r m) m.length n k/\da (kZ y r m) i j k≠V.zero
 ·obtain⟨i,j,k,t1,t2,t3,D⟩:=cb;exact List.mem_append_left _ (zOa _ (zXa.2 ⟨n,uI P hm N C I t1 t2 t3 D,rfl⟩))
 by_cases ca:∃ i j k,gf (kZ x q l) l.length n.neg i/\gf (kZ x q l) l.length n.neg j/\gf (kZ x q l) l.length n.neg k/\da (kZ x q l) i j k≠V.zero
 ·obtain⟨i,j,k,t1,t2,t3,D⟩:=ca;exact List.mem_append_left _ (List.mem_append_left _ (uI K hl M nz J t1 t2 t3 D))
 rcases hc with hc|hc|⟨i,j,k,o,t1,t2,t3,t4,hx⟩
 ·exact absurd hc cb
 ·exact absurd hc ca
 ·have w1:wy (kZ y r m) i j≠V.zero:=λe=>hx (by rw[e];apply V.ext'<;>simp[V.cross,V.zero])
  have w2:wy (kZ x q l) k o≠V.zero:=λe=>hx (by rw[e];apply V.ext'<;>simp[V.cross,V.zero])
  obtain⟨f,R,b⟩:=xd P hm N C t1 t2 w1 λz L=>Classical.byContradiction λc=>cb ⟨i,j,z,t1,t2,L,c⟩;obtain⟨e,he,a⟩:=xd K hl M nz t3 t4 w2 λz L=>Classical.byContradiction λc=>ca ⟨k,o,z,t3,t4,L,c⟩;have d1:=nQ t1 t2;have d2:=nQ t3 t4;rw[jk] at d2;have W:V.dot n (me r m f)=0:=by
   rcases b with b|b
   ·rw[b];exact d1
   ·rw[b,show ∀ w:V,V.dot n w.neg=-V.dot n w from λw=>by simp only[V.dot,V.neg];grind];omega
  have X:V.dot n (me q l e)=0:=by
   rcases a with a|a
   ·rw[a];omega
   ·rw[a,show ∀ w:V,V.dot n w.neg=-V.dot n w from λw=>by simp only[V.dot,V.neg];grind];omega
  have Q:V.cross (me q l e) (me r m f)≠V.zero:=λc=>hx (by
   have x1:=congrArg V.x c;have x2:=congrArg V.y c;have x3:=congrArg V.z c;rcases b with b|b<;>rcases a with a|a<;>rw[b,a] at x1 x2 x3<;>(apply V.ext'<;>simp only[V.cross,V.neg,V.zero] at *<;>grind))
  have pp:=Bx C I Q (eH X W);refine zOa _ (zib.2 ⟨e,he,zib.2 ⟨f,R,?_⟩⟩);rcases pp with pp|pp
  ·rw[pp];simp
  ·rw[pp,Pf];simp
end
end Sy
end
noncomputable section
namespace Sy
open Go Go.Proofs Geo
def DX(X:Int){D:Int}(h:0<D):((Rat.divInt X D).den:Int) ∣ D:=by
 have a:=(yT X (show D≠0 by omega)).2
 obtain⟨k,hk⟩:=a;exact⟨k,by omega⟩
def uc{X Y D:Int}{p q:Nat}(C:X.natAbs<=2^p)(E:Y.natAbs<=2^p)(B:D.natAbs<=2^q)(h0:0<D)(hp:p<=500)(hq:q<=500):addW (some (Rat.divInt X D)) (some (Rat.divInt Y D))=some (Rat.divInt (X+Y) D):=by
 have ex:=iM (a:=X) (b:=D) (by omega)
 have w:=iM (a:=Y) (b:=D) (by omega)
 have n:=DX X h0;have o:=DX Y h0;have r:Rat.divInt X D+Rat.divInt Y D=Rat.divInt (X+Y) D:=by rw[z8c _ _ (by omega) (by omega),<-Int.add_mul,Rat.divInt_mul_right (by omega)]
 obtain⟨g,a,b,F,z,j,h,a0,I,s,t⟩:=EQ (Rat.divInt X D) (Rat.divInt Y D);generalize Rat.divInt X D=x at *;generalize Rat.divInt Y D=y at *;have ld:((x.den:Nat):Int)*b ∣ D:=by
  have h1:x.den ∣ D.natAbs:=zZa.1 n;have i:y.den ∣ D.natAbs:=zZa.1 o;have f:=Nat.lcm_dvd h1 i;have A:Nat.lcm x.den y.den=x.den*b:=by
   unfold Nat.lcm;rw[<-F]
   conv=>lhs;rw[h]
   rw[<-zPa,zGa x.den g,zPa,Nat.mul_div_cancel_left _ z]
  rw[A] at f;rw[<-zSa];exact zZa.2 f
 obtain⟨e,he⟩:=ld;have J:0<e:=by
  have:0<(x.den:Int)*b:=z0a (by have:=x.den_pos;omega) (by omega)
  exact lH this (by rw[<-he];exact h0)
 have K:(0:Int)<x.den:=by have:=x.den_pos;omega
 have L:(0:Int)<y.den:=by have:=y.den_pos;omega
 have c:(y.den:Int)*a=x.den*b:=by rw[j,h,zSa,zSa];grind
 have G:x.num*b*e=X:=by
  have:(x.den:Int)*(x.num*b*e)=x.den*X:=by rw[z5a _ X,<-ex,he];grind
  exact Int.eq_of_mul_eq_mul_left (by omega) this
 have H:y.num*a*e=Y:=by
  have:(y.den:Int)*(y.num*a*e)=y.den*Y:=by rw[z5a _ Y,<-w,he,<-c];grind
  exact Int.eq_of_mul_eq_mul_left (by omega) this
 have small:∀ {u v:Int} {k:Nat},u*e=v->v.natAbs<=2^k->u.natAbs<=2^k:=λ{u v k} h1 i=>by
  have:u.natAbs*e.natAbs=v.natAbs:=by rw[<-h1,zHa]
  have f:u.natAbs*1<=u.natAbs*e.natAbs:=z3a _ (by omega)
  omega
 have l:=small G C;have m:=small H E;have i1:In (x.num*b):=fF (by omega) l
 have i2:In (y.num*a):=fF (by omega) m
 have i3:In (x.num*b+y.num*a):=fF (k:=p+1) (by omega) (ju l m)
 have i4:In ((a:Int)*y.den):=fF (k:=q) (by omega) (small (v:=D) (by rw[z5a (a:Int),c,<-he]) B)
 have d:(a:Int)*y.den≠0:=zrc (by omega) (by omega)
 simp only[addW,Aj,s,t];rw[jW i1,jW i2,DE i3,jW i4];simp only[nZ];rw[if_neg d,sf j h d,r]
def Fac.small{l:List V}{F:FL}{E:List (Nat×Nat)}(h:Fac l F E)(hl:l.length<=10):F.length<=2000/\E.length<=100:=by
 constructor
 ·have nd:(F.map Prod.fst).Nodup:=by
   refine zsd.2 (h.kn.fok.ord.imp λ{a b} d e=>?_);rw[e] at d;exact kE _ d
  have:=zWb (l₂:=wT l) nd λq hq=>by
   obtain⟨f,g,rfl⟩:=zXa.1 hq;exact xr (h.kn.fok.ok f g).1
  rw[zsa] at this;refine zEa this ?_;unfold wT;rw[ke (c:=l.length*(l.length*2)) _ (λi _=>by rw[ke (c:=l.length*2) _ (λj _=>by rw[ke (c:=2) _ (λk _=>rfl),zub]),zub]),zub]
  have a1:l.length*2<=20:=by omega
  have a2:l.length*(l.length*2)<=10*20:=zUa hl a1;exact zUa hl a2
 ·rw[h.e];exact zEa (ue _ _ _) (zUa hl hl)
def xQ{a b:Option Rat}{z:Rat}(h:mulW a b=some z):∃ x y,a=some x/\b=some y/\z=x*y:=by
 cases a with
 | none=>simp only[mulW] at h;cases h
 | some x=>cases b with
  | none=>simp only[mulW] at h;cases h
  | some y=>exact⟨x,y,rfl,rfl,Iu h⟩
def qR{a b:Option Rat}{z:Rat}(h:addW a b=some z):∃ x y,a=some x/\b=some y/\z=x+y:=by
 cases a with
 | none=>simp only[addW] at h;cases h
 | some x=>cases b with
  | none=>simp only[addW] at h;cases h
  | some y=>exact⟨x,y,rfl,rfl,G8 h⟩
def Gk{a b:Option Rat}{z:Rat}(h:Ja a b=some z):∃ x y,a=some x/\b=some y/\z=x+-y:=by
 obtain⟨x,y,h1,c,d⟩:=qR h;cases b with
 | none=>cases c
 | some w=>cases c;exact⟨x,w,h1,rfl,d⟩
end Sy
end
noncomputable section
namespace Sy
open Go Go.Proofs Geo
def BR:Rat:=((4611686018427387904:Int):Rat)
def Gq(v:Rat):Prop:=-BR<=v/\v<=BR
def Gz(p:WV):Prop:=wO p/\∀ i,∀ v,p i=some v->Gq v
def Jq{X s:Int}(c:-4611686018427387904<=X/\X<=4611686018427387904)(a:0<s):Gq (Rat.divInt X s):=by
 have e:BR=Rat.divInt 4611686018427387904 1:=by rw[div_one];rfl
 have b:-BR=Rat.divInt (-4611686018427387904) 1:=by rw[e,Rat.neg_divInt]
 constructor
 ·rw[b,ls (by decide) a];omega
 ·rw[e,ls a (by decide)];omega
def Jr{a b t:Rat}(c:Gq a)(d:Gq b)(h0:0<t)(h1:t<1):Gq (a+t*(b+-a)):=by
 have f:0<=t:=Rat.le_of_lt h0;have g:0<=1-t:=by have:=Rat.le_of_lt h1;grind
 have m1:=Rat.mul_nonneg g (show 0<=BR-a by have:=c.2;grind)
 have m2:=Rat.mul_nonneg f (show 0<=BR-b by have:=d.2;grind)
 have m3:=Rat.mul_nonneg g (show 0<=BR+a by have:=c.1;grind)
 have m4:=Rat.mul_nonneg f (show 0<=BR+b by have:=d.1;grind)
 constructor
 ·have e:a+t*(b+-a)+BR=(1-t)*(BR+a)+t*(BR+b):=by grind
  grind
 ·have e:BR-(a+t*(b+-a))=(1-t)*(BR-a)+t*(BR-b):=by grind
  grind
def IK{x:V}{q:Nat->Int}(h:PoseOk x q){l:List V}(hl:∀ v∈l,bd 4096 v){k:Nat}(hk:k<l.length):Gz (C7 x q l k):=by
 refine⟨Pi h hl hk,λi v b=>?_⟩;cases b;have a:=zx h (hl _ (gQ hk));refine Jq ?_ (fP h.hq h.h0).1;simp only[bd,PB] at a;unfold bV;split<;>(try split)<;>omega
def Rl{x:Rat}(h:sg x.num>0):0<x:=by
 have h1:¬ x.num<0:=λhn=>by rw[zJ hn] at h;omega
 have a:x.num≠0:=λhn=>by rw[hn] at h;revert h;decide
 rw[Rat.lt_iff];simp;omega
def Zr{α β:Type}{A:Option α}{g:α->Option β}{P:α->Prop}{Y:β->Prop}(h:∃ z,A=some z/\P z)(hk:∀ z,P z->∃ y,g z=some y/\Y y):∃ y,Option.bind A g=some y/\Y y:=by
 obtain⟨z,rfl,a⟩:=h;exact hk z a
def fd(L:List WV):(L.map aU).length=L.length:=zsa ..
section
variable{x y:V}{q r:Nat->Int}{l m:List V}{F G:FL}{E E':List (Nat×Nat)}
def NM(n:Nat)(h:PairOk x y q r l m)(f:Fac l F E)(g:Fac m G E'){p:WV}(hp:wO p):∃ i:Int,cA (n+1036) 423 [cZ x q,bZ l,aU p]=some (I i)/\∃ b:Bool,(if decide (i ≥ 0)=true then Option.bind (D.get (eZ y r m) [0]) λc=>Option.bind (D.get (eZ y r m) [1]) λd=>Option.bind (cA (n+1036) 423 [c,d,aU p]) λa=>Option.bind (D.bin .geq a (D.int .i64 0)) λe=>D.truth e else some false)=some b:=by
 refine⟨_,LR n h.pa f.fb f.h18 hp,?_⟩;by_cases hz:jo x q F p ≥ 0
 ·exact⟨decide (jo y r G p ≥ 0),aB hz (aa (z:=cZ y r) rfl (aa (z:=bZ m) rfl (aa (LR n h.pb g.fb g.h18 hp) (aa fB ab))))⟩
 ·exact⟨false,aC hz rfl⟩
def QD(n:Nat)(h:PairOk x y q r l m)(g:Fac l F E)(o:Fac m G E'):∃ L:List WV,cA (n+1037) 443 [eZ x q l,eZ y r m]=some (.sl (L.map aU))/\(∀ p∈L,Gz p)/\L.length<=300000:=by
 suffices hs:∃ d,cA (n+1037) 443 [eZ x q l,eZ y r m]=some d/\∃ L:List WV,d=.sl (L.map aU)/\(∀ p∈L,Gz p)/\L.length<=300000 by
  obtain⟨d,h1,L,rfl,e⟩:=hs;exact⟨L,h1,e⟩
 obtain⟨sF,sE⟩:=g.small h.ta;obtain⟨sG,ad⟩:=o.small h.tb;have ta:=h.ta;rw[Y2];delta Ll qG qB qC qT qS qX qP qV qW qZ iL iR Jn;refine Zr (P:=λd=>∃ L:List WV,d=L.map aU/\(∀ p∈L,Gz p)/\L.length<=300000) ?_ (λz O=>by
  obtain⟨L,rfl,h1⟩:=O;exact⟨_,rfl,L,rfl,h1⟩)
 refine ae (z:=bc (l.map (kj x q))) rfl (ae (z:=(l.map (kj x q)).map ac) rfl ?_);have X:((l.map (kj x q)).map ac).length=l.length:=by simp
 refine jr (λk s=>∃ L:List WV,s=[I (k:Int),.sl (L.map aU)]/\(∀ p∈L,Gz p)/\L.length<=k) l.length 0 (zja _) ⟨[],rfl,by simp,zfa _⟩ (λk hk s c=>?_) (λs c=>?_)
 ·obtain⟨L,rfl,hL,u⟩:=c;have B:=IK h.pa h.la hk;obtain⟨z1,J,b,K⟩:=NM n h g o B.1;refine ae af (ae ab (dL (by rw[X];omega) (ae (Oz (n+4) h.pa h.la hk) (ae (z:=cZ x q) rfl (ae (z:=bZ l) rfl (ae J (ae fB (ae ab (ae K (ae ab ?_))))))))))
  cases b with
  | true=>
   refine⟨.inl [I ((k+1:Nat):Int),.sl ((L++[C7 x q l k]).map aU)],fH ((if_pos (by show(L.map aU).length+1<=_;rw[fd];omega)).trans (aa (aL (a:=k) (b:=1) (by omega)) (by rw[zMb];rfl))),L++[C7 x q l k],rfl,λp hp=>?_,by simp;omega⟩
   rcases List.mem_append.1 hp with hp|hp
   ·exact hL p hp
   ·rw[zDa.1 hp];exact B
  | false=>exact⟨.inl [I ((k+1:Nat):Int),.sl (L.map aU)],mf (aa (aL (a:=k) (b:=1) (by omega)) rfl),L,rfl,hL,by omega⟩
 ·obtain⟨L,rfl,hL,u⟩:=c;refine⟨.inr (0,[.sl (L.map aU)]),aa af (aa ab (aC (by rw[X];omega) rfl)),?_⟩
  refine ae (z:=bZ m) rfl (ae (o.h18 (n+1028)) (ae (z:=bZ l) rfl (ae (g.h21 (n+1027)) (ae (z:=E.map du) rfl ?_))));refine jr (λi s=>∃ L:List WV,s=[I (i:Int),.sl (L.map aU)]/\(∀ p∈L,Gz p)/\L.length<=10+i*2000) E.length 0 (zja _) ⟨L,rfl,hL,by omega⟩ (λi N s c=>?_) (λs c=>?_)
  ·obtain⟨L,rfl,hL,u⟩:=c;obtain⟨h1,e⟩:=g.lt E[i] (zza N);have H:=IK h.pa h.la h1;have Y:=IK h.pa h.la e;have ow:=rQ (C7 x q l E[i].2) (C7 x q l E[i].1);refine ae af (ae ab (dL (by rw[jt];omega) (ae (z:=E.map du) rfl (ae (z:=i) (by rw[jt];exact ap N) (ae (Q6 N) ?_)))))
   refine ae (z:=I (E[i].1:Int)) rfl (ae (Oz (n+4) h.pa h.la h1) (ae (z:=I (E[i].2:Int)) rfl (ae (Oz (n+4) h.pa h.la e) (ae (Ox (n+3) Y.1 H.1) (ae (z:=aK G) rfl ?_)))));refine jr (λk s=>∃ L:List WV,s=[I (k:Int),.sl (L.map aU)]/\(∀ p∈L,Gz p)/\L.length<=10+i*2000+k) G.length 0 (zja _) ⟨L,rfl,hL,by omega⟩ (λk hk s c=>?_) (λs c=>?_)
   ·obtain⟨L,rfl,hL,u⟩:=c;have C:i*2000<=100*2000:=zya _ (by omega)
    obtain⟨g1,g2⟩:=o.fb.2 G[k] (zza hk);have Z:=vV h.pb.hq (E7 g1);have W:∀ i,inR (bV y i):=kw (by have:=h.pb.hx;simp only[bd] at this;simp only[inR];omega) (by have:=h.pb.hx;simp only[bd] at this;simp only[inR];omega) (by have:=h.pb.hx;simp only[bd] at this;simp only[inR];omega)
    have sk:=EJ h.pb g2;refine ae af (ae ab (dL (by rw[aY];omega) ?_))
    refine Zr (P:=λd=>∃ L':List WV,d=(0,[.sl (L'.map aU)])/\(∀ p∈L',Gz p)/\L'.length<=10+i*2000+(k+1)) ?_ (λz O=>by
     obtain⟨L',rfl,h1,e⟩:=O;exact⟨.inl [I ((k+1:Nat):Int),.sl (L'.map aU)],aa (aL (a:=k) (b:=1) (by omega)) rfl,L',rfl,h1,e⟩)
    have same:∃ y,some ((0,[.sl (L.map aU)]):Nat×List D)=some y/\∃ L':List WV,y=(0,[.sl (L'.map aU)])/\(∀ p∈L',Gz p)/\L'.length<=10+i*2000+(k+1):=⟨_,rfl,L,rfl,hL,by omega⟩
    refine ae (z:=aK G) rfl (ae (z:=k) (by rw[aY];exact ap hk) (ae (fo hk) (ae (z:=lv r) rfl (ae (z:=ac G[k].1.1) rfl (ae (z:=ac (bE r G[k].1.1)) (DS (n+1033) h.pb.hq (E7 g1)) (ae (OD (n+2) Z ow) ?_))))))
    obtain⟨sl,f⟩:∃ sl,wu (wM (bE r G[k].1.1)) (fU (C7 x q l E[i].2) (C7 x q l E[i].1))=sl:=⟨_,rfl⟩;have A:OW sl:=f ▸ zb _ _;rw[f];refine ae (Ow (n+5) A) (ae (z:=decide (EL sl=0)) (by rw[show D.beq (I (EL sl)) (D.int .i64 0)=decide (EL sl=0) from bR];exact ab) ?_)
    by_cases hs0:EL sl=0
    ·exact dL hs0 same
    refine pQ hs0 ?_;have of:=EP (some ((bg r*G[k].1.2:Int):Rat)) (wu (wM (bE r G[k].1.1)) (fU (C7 x q l E[i].1) (wM y)));refine ae (z:=I (bg r)) rfl (ae (z:=I G[k].1.2) rfl (ae (cz sk) (ae (Nx (n+4) sk) (ae (z:=ac y) rfl (ae (DO (n+3) W) (ae (Ox (n+3) H.1 (zY W)) (ae (OD (n+2) Z (rQ _ _)) ?_)))))));refine ae (Nv (n+4) (a:=some ((bg r*G[k].1.2:Int):Rat)) (bQ (ua (bB sk))) (zb _ _)) (ae (Hn (n+4) of A) ?_);obtain⟨t,S⟩:∃ t,yS (Ja (some ((bg r*G[k].1.2:Int):Rat)) (wu (wM (bE r G[k].1.1)) (fU (C7 x q l E[i].1) (wM y)))) sl=t:=⟨_,rfl⟩;have R:OW t:=S ▸ D2 _ _;rw[S];refine ae (Ow (n+5) R) (ae cM (ae ab ?_));have Q:=Hs (n+5) R (bQ (ua (bB (dJ 1))));refine ae (z:=decide (EL t>0)&&decide (j8 t (some ((1:Int):Rat))<0)) (by
     by_cases h1:EL t>0
     ·rw[decide_eq_true h1,zsb];exact fH (aa (Nx (n+4) (dJ 1)) (aa Q (aa af ab)))
     ·rw[decide_eq_false h1];rfl) (ae ab ?_)
    cases hb:(decide (EL t>0)&&decide (j8 t (some ((1:Int):Rat))<0)) with
    | false=>exact same
    | true=>
     simp only[zaa,decide_eq_true_eq] at hb;cases t with
     | none=>exact absurd hb.1 (by decide)
     | some t=>
     have t0:=Rl hb.1;have t1:t<1:=by
      have:=hb.2;rw[tL] at this;by_cases hh:t<((1:Int):Rat)
      ·exact hh
      ·rw[if_neg hh] at this;split at this<;>omega
     obtain⟨p,M⟩:∃ p,yc (C7 x q l E[i].1) (Jg (some t) (fU (C7 x q l E[i].2) (C7 x q l E[i].1)))=p:=⟨_,rfl⟩;have B:Gz p:=by
      refine⟨λi=>M ▸ li _ _,λj v V=>?_⟩;rw[<-M] at V;obtain⟨a,b,T,h4,rfl⟩:=qR V;obtain⟨t',w,h5,h6,rfl⟩:=xQ h4;cases h5;obtain⟨b1,a1,h7,U,rfl⟩:=Gk h6;rw[T] at U;cases U;exact Jr (H.2 j a T) (Y.2 j b1 h7) t0 t1
     obtain⟨z1,J,b,K⟩:=NM n h g o B.1;show ∃ y,(if true=true then _ else _)=some y/\_
     refine ae (QE (n+4) R ow) (ae (Nw (n+4) H.1 (ES _ _)) ?_);rw[M];refine ae (z:=cZ x q) rfl (ae (z:=bZ l) rfl (ae J (ae fB (ae ab (ae K (ae ab ?_))))));cases b with
     | true=>
      refine⟨(0,[.sl ((L++[p]).map aU)]),fH ((if_pos (by show(L.map aU).length+1<=_;rw[fd];omega)).trans (by rw[zMb];rfl)),L++[p],rfl,λw hw=>?_,by simp;omega⟩
      rcases List.mem_append.1 hw with hw|hw
      ·exact hL w hw
      ·rw[zDa.1 hw];exact B
     | false=>exact same
   ·obtain⟨L,rfl,hL,u⟩:=c;exact⟨.inr (0,[.sl (L.map aU)]),aa af (aa ab (aC (by rw[aY];omega) rfl)),.inl [I ((i+1:Nat):Int),.sl (L.map aU)],aa (aL (a:=i) (b:=1) (by omega)) rfl,L,rfl,hL,by omega⟩
  ·obtain⟨L,rfl,hL,u⟩:=c;have:E.length*2000<=100*2000:=zya _ sE;exact⟨.inr (0,[.sl (L.map aU)]),aa af (aa ab (aC (by rw[jt];omega) rfl)),_,rfl,L,rfl,hL,by omega⟩
end
end Sy
end
noncomputable section
namespace Sy
open Go Go.Proofs Geo
def u7{α:Type}{body:Bd}{s s':List D}{k:Nat×List D->Option α}{Y:α->Prop}(h:body s=some (.inl s'))(hk:∃ y,Option.bind (aS body s') k=some y/\Y y):∃ y,Option.bind (aS body s) k=some y/\Y y:=by
 have:aS body s=aS body s':=c8 h;rw[this];exact hk
def Mt{α:Type}{body:Bd}{s:List D}{r:Nat×List D}{k:Nat×List D->Option α}{Y:α->Prop}(h:body s=some (.inr r))(hk:∃ y,k r=some y/\Y y):∃ y,Option.bind (aS body s) k=some y/\Y y:=by
 have:aS body s=some r:=cU h;rw[this];exact hk
def Wq(k i:Nat)(s:WV):Prop:=wO s/\∀ c v,s c=some v->∃ Z:Int,v=Rat.divInt Z (2^k)/\Z.natAbs<=i*(4611686018427387904*2^k)
def QR{k:Nat}{a:Option Rat}(i:∀ v,a=some v->Gq v){w:Rat}(h:wn k a=some w):∃ Z:Int,w=Rat.divInt Z (2^k)/\Z.natAbs<=4611686018427387904*2^k:=by
 cases a with
 | none=>cases h
 | some v=>
  obtain⟨v1,v2⟩:=i v rfl;unfold wn at h;rw[zba] at h;cases hn:fA (v.num*2^k) with
  | none=>rw[hn] at h;cases h
  | some s=>
   rw[hn] at h;cases h;have es:s=v.num*2^k:=by
    unfold fA at hn;split at hn
    ·cases hn;rfl
    ·cases hn
   refine⟨_,rfl,?_⟩;have b:(0:Int)<v.den:=by have:=v.den_pos;omega
   have c:(0:Int)<2^k:=Int.pow_pos (by decide)
   have f:v.num<=4611686018427387904*v.den:=by
    have:=(Rat.le_iff v BR).1 v2;simpa [BR] using this
   have d:-(4611686018427387904*(v.den:Int))<=v.num:=by
    have:=(Rat.le_iff (-BR) v).1 v1;simp[BR] at this;omega
   have h1:s<=(4611686018427387904*2^k)*v.den:=by
    rw[es];have:=zdc f (zva c);rw[show(4611686018427387904:Int)*2^k*v.den=4611686018427387904*v.den*2^k by rw[Int.mul_assoc,z5a (2^k),<-Int.mul_assoc]]
    exact this
   have g:(-(4611686018427387904*2^k))*v.den<=s:=by
    rw[es];have:=zdc d (zva c);rw[show(-((4611686018427387904:Int)*2^k))*v.den=-(4611686018427387904*v.den)*2^k by rw[Int.neg_mul,Int.neg_mul,Int.mul_assoc,z5a (2^k),<-Int.mul_assoc]]
    exact this
   have j:s/v.den<=4611686018427387904*2^k:=by
    have:=Int.ediv_le_ediv b h1
    rwa [Int.mul_ediv_cancel _ (by omega)] at this
   have l:-(4611686018427387904*2^k)<=s/v.den:=(Int.le_ediv_iff_mul_le b).2 g;have e:((4611686018427387904*2^k:Nat):Int)=4611686018427387904*2^k:=by rw[zSa,Int.natCast_pow];rfl
   omega
structure MeanB(m:WV)(D:Int)(a b:Nat):Prop where
 ow:wO m
 pos:0<D
 la:a<=260
 lb:b<=322
 le:D.natAbs<=2^a
 ex:∀ c v,m c=some v->∃ Z:Int,v=Rat.divInt Z D/\Z.natAbs<=2^b
section
variable{x y:V}{q r:Nat->Int}{l m:List V}{F G:FL}{E E':List (Nat×Nat)}
def Xa(n:Nat)(h:PairOk x y q r l m)(C:Fac l F E)(H:Fac m G E'):∃ (d:D) (b:Bool),cA (n+1038) 425 [cZ x q,bZ l,cZ y r,bZ m]=some (.tup [d,.bool b])/\(b=true->∃ (p:WV) (K:Int) (a b:Nat),d=aU p/\MeanB p K a b/\jo x q F p=1/\jo y r G p=1):=by
 suffices hs:∃ d,cA (n+1038) 425 [cZ x q,bZ l,cZ y r,bZ m]=some d/\∃ (d':D) (b:Bool),d=.tup [d',.bool b]/\(b=true->∃ (p:WV) (K:Int) (a b:Nat),d'=aU p/\MeanB p K a b/\jo x q F p=1/\jo y r G p=1) by
  obtain⟨d,h1,d',b,rfl,J⟩:=hs;exact⟨d',b,h1,J⟩
 rw[YU];delta Ld qB qC qT qS qX qJ qV qW qZ iL iR Jn;obtain⟨L1,k1,U,n1⟩:=QD n h C H;obtain⟨L2,k2,W,n2⟩:=QD n h.swap H C;refine ae (At (n+1033) h.pa h.la h.ka) (ae (At (n+1033) h.pb h.lb h.kb) (ae k1 (ae (z:=L1.map aU) rfl (ae k2 (ae (z:=L2.map aU) rfl ?_)))));obtain⟨Zv,O⟩:∃ Zv,D.st [D.st [D.st [D.bool false,D.bool false,av aW],D.st [D.bool false,D.bool false,av aW]],D.st [D.st [D.bool false,D.bool false,av aW],D.st [D.bool false,D.bool false,av aW]],D.st [D.st [D.bool false,D.bool false,av aW],D.st [D.bool false,D.bool false,av aW]]]=Zv:=⟨_,rfl⟩;rw[O,if_pos (by rw[fd,fd];omega),<-zMb]
 have X:∀ p∈L1++L2,Gz p:=λp hp=>(List.mem_append.1 hp).elim (U p) (W p);have nL:(L1++L2).length<=600000:=by rw[zua];omega
 generalize L1++L2=L at *;refine ae af (ae ab ?_);by_cases h4:(((L.map aU).length:Nat):Int)<4
 ·exact dL h4 ⟨_,rfl,Zv,false,rfl,λh=>by cases h⟩
 refine pQ h4 ?_;have l4:4<=L.length:=by rw[fd] at h4;omega
 refine jr (λj s=>s=[.sl (L.map aU),.sl [I 20,I 60,I 120,I 240],I (j:Int),Zv]) 4 0 (zja _) rfl (λj hj s f=>?_) (λs f=>?_)
 ·subst f;obtain⟨k,hk,ek⟩:∃ k,HD k/\([I 20,I 60,I 120,I 240]:List D)[j]?=some (I (k:Int)):=by
   have:j=0\/j=1\/j=2\/j=3:=by omega
   rcases this with rfl|rfl|rfl|rfl
   ·exact⟨20,.inl rfl,rfl⟩
   ·exact⟨60,.inr (.inl rfl),rfl⟩
   ·exact⟨120,.inr (.inr (.inl rfl)),rfl⟩
   ·exact⟨240,.inr (.inr (.inr rfl)),rfl⟩
  refine ae af (ae ab (dL (by show(j:Int)<4;omega) (ae (z:=j) (ap hj) (ae ek ?_))))
  have z0:∀ i,inR (bV V.zero i):=kw (dJ 0) (dJ 0) (dJ 0);refine ae (DO (n+4) (v:=V.zero) z0) ?_;refine jr (λi s=>∃ t:WV,s=[.sl (L.map aU),.sl [I 20,I 60,I 120,I 240],.sl (L.map aU),I (i:Int),aU t]/\Wq k i t) L.length 0 (zja _) ⟨wM V.zero,rfl,zY z0,λc v u=>by
   cases u;refine⟨0,?_,by simp⟩
   have:bV V.zero c=0:=by unfold bV;split<;>(try split)<;>rfl
   rw[this,Rat.zero_divInt];rfl⟩ (λi P s f=>?_) (λs f=>?_)
  ·obtain⟨t,rfl,R,Q⟩:=f;obtain⟨p,o⟩:∃ p,L[i]=p:=⟨_,rfl⟩;have B:Gz p:=o ▸ X _ (zza P);obtain⟨h0,e0⟩:=Oy (n+6) (B.1 0) hk;obtain⟨h1,e1⟩:=Oy (n+6) (B.1 1) hk;obtain⟨J,e2⟩:=Oy (n+6) (B.1 2) hk;refine ae af (ae ab (dL (by show((i:Nat):Int)<(((L.map aU).length:Nat):Int);rw[fd];omega) (ae (z:=L.map aU) rfl (ae (z:=i) (by rw[fd];exact ap P) (ae (z:=aU p) (by simp[P,o]) ?_)))))
   refine u7 (s':=[.sl (L.map aU),.sl [I 20,I 60,I 120,I 240],I 1,.st [a8 (wn k (p 0)),a8 (p 1),a8 (p 2)]]) (aa (z:=.bool true) rfl (aa (z:=true) rfl (fH (aa (z:=0) rfl (aa (z:=a8 (p 0)) rfl (aa e0 (aa (z:=a8 (wn k (p 0))) rfl (aa (z:=h0) rfl (aa (z:=0) rfl (aa (z:=.st [a8 (wn k (p 0)),a8 (p 1),a8 (p 2)]) rfl (aa (z:=I 1) rfl rfl))))))))))) ?_;refine u7 (s':=[.sl (L.map aU),.sl [I 20,I 60,I 120,I 240],I 2,.st [a8 (wn k (p 0)),a8 (wn k (p 1)),a8 (p 2)]]) (aa (z:=.bool true) rfl (aa (z:=true) rfl (fH (aa (z:=1) rfl (aa (z:=a8 (p 1)) rfl (aa e1 (aa (z:=a8 (wn k (p 1))) rfl (aa (z:=h1) rfl (aa (z:=1) rfl (aa (z:=.st [a8 (wn k (p 0)),a8 (wn k (p 1)),a8 (p 2)]) rfl (aa (z:=I 2) rfl rfl))))))))))) ?_;refine u7 (s':=[.sl (L.map aU),.sl [I 20,I 60,I 120,I 240],I 3,aU λc=>wn k (p c)]) (aa (z:=.bool true) rfl (aa (z:=true) rfl (fH (aa (z:=2) rfl (aa (z:=a8 (p 2)) rfl (aa e2 (aa (z:=a8 (wn k (p 2))) rfl (aa (z:=J) rfl (aa (z:=2) rfl (aa (z:=aU λc=>wn k (p c)) rfl (aa (z:=I 3) rfl rfl))))))))))) ?_;refine Mt (r:=(0,[.sl (L.map aU),.sl [I 20,I 60,I 120,I 240],aU λc=>wn k (p c)])) (aa af (aa ab (aC (by decide) rfl))) ?_
   have od:wO λc=>wn k (p c):=λc=>OL hk (B.1 c);have w:=Nw (n+5) R od;refine⟨.inl [.sl (L.map aU),.sl [I 20,I 60,I 120,I 240],.sl (L.map aU),I ((i+1:Nat):Int),aU (yc t λc=>wn k (p c))],aa w (aa (aL (a:=i) (b:=1) (by omega)) rfl),yc t λc=>wn k (p c),rfl,II _ _,λc v u=>?_⟩
   obtain⟨a,b,M,N,rfl⟩:=qR u;obtain⟨Z1,rfl,z1⟩:=Q c a M;obtain⟨Z2,rfl,z2⟩:=QR (B.2 c) N;have A:(2:Int)^k≠0:=(C4 hk).2.2.1;refine⟨Z1+Z2,by rw[z8c _ _ A A,<-Int.add_mul,Rat.divInt_mul_right A],?_⟩
   have:=znc Z1 Z2;rw[z8a,zUc];omega
  ·obtain⟨t,rfl,R,Q⟩:=f;refine⟨.inr (0,[.sl (L.map aU),.sl [I 20,I 60,I 120,I 240],aU t]),aa af (aa ab (aC (by show ¬ (((L.length:Nat):Int)<(((L.map aU).length:Nat):Int));rw[fd];omega) rfl)),?_⟩
   have S:inR (((L.map aU).length:Nat):Int):=by rw[fd];simp only[inR];omega
   have l0:(((L.map aU).length:Nat):Int)≠0:=by rw[fd];omega
   have o1:OW (some (Rat.divInt 1 (((L.map aU).length:Nat):Int))):=bQ (dU (bB (dJ 1)) (bB S) l0);obtain⟨p,o⟩:∃ p,Jg (some (Rat.divInt 1 (((L.map aU).length:Nat):Int))) t=p:=⟨_,rfl⟩;have op:wO p:=o ▸ ES _ _;obtain⟨a0,ad⟩:∃ a,a=260:=⟨_,rfl⟩;obtain⟨T,ai⟩:∃ b,b=322:=⟨_,rfl⟩;have g:MeanB p ((L.length:Int)*2^k) a0 T:=by
    have e:k<=240:=by rcases hk with rfl|rfl|rfl|rfl<;>decide
    have A:(0:Int)<2^k:=Int.pow_pos (by decide)
    refine⟨op,z0a (by omega) A,by omega,by omega,?_,λc v u=>?_⟩
    ·rw[zHa,zra,Int.natAbs_pow];exact bC (i:=20) (j:=240) (by omega) (zpa (by decide) e) (by omega)
    ·rw[<-o] at u;obtain⟨a,b,M,N,rfl⟩:=xQ u;cases M;obtain⟨Z,rfl,hz⟩:=Q c b N;refine⟨Z,by rw[zac,zwc,fd],zEa hz ?_⟩
     obtain⟨Y,aj⟩:∃ c,c=302:=⟨_,rfl⟩;exact bC (i:=20) (j:=Y) (by omega) (bC (i:=62) (j:=240) (by decide) (zpa (by decide) e) (by omega)) (by omega)
   refine ae (Qv (n+6) (dJ 1) S l0) (ae (QE (n+5) o1 R) ?_);rw[o];refine ae (LR (n+1) h.pa C.fb C.h18 op) (ae (z:=decide (jo x q F p=1)) (by rw[show D.beq (I (jo x q F p)) (D.int .i64 1)=decide (jo x q F p=1) from bR];exact ab) ?_)
   refine ae (z:=decide (jo x q F p=1)&&decide (jo y r G p=1)) (by
    by_cases h1:jo x q F p=1
    ·rw[decide_eq_true h1,zsb];refine fH (aa (LR (n+1) h.pb H.fb H.h18 op) ?_);rw[show D.beq (I (jo y r G p)) (D.int .i64 1)=decide (jo y r G p=1) from bR];exact ab
    ·rw[decide_eq_false h1];rfl) (ae ab ?_)
   cases hb:(decide (jo x q F p=1)&&decide (jo y r G p=1)) with
   | true=>
    simp only[zaa,decide_eq_true_eq] at hb;exact⟨.inr (0,[.bool true,aU p]),rfl,_,rfl,aU p,true,rfl,λ_=>⟨p,_,_,_,rfl,g,hb.1,hb.2⟩⟩
   | false=>exact⟨.inl [.sl (L.map aU),.sl [I 20,I 60,I 120,I 240],I ((j+1:Nat):Int),Zv],mf (aa (aL (a:=j) (b:=1) (by omega)) rfl),rfl⟩
 ·subst f;exact⟨.inr (1,[Zv]),aa af (aa ab (aC (by decide) rfl)),_,rfl,Zv,false,rfl,λh=>by cases h⟩
end
end Sy
end
noncomputable section
namespace Sy
open Go Go.Proofs Geo
theorem Ea{q:Nat->Int}{p:WV}{F:FL}:∀ k,k<=F.length->CI q p F k<=1/\∀ i,(h:i<F.length)->i<k->CI q p F k<=Fv q p F[i]
 | 0,_=>⟨zhc _,λi h b=>by omega⟩
 | k+1,hk=>by
  obtain⟨h1,a⟩:=Ea (q:=q) (p:=p) (F:=F) k (by omega)
  rw[xq (show k<F.length by omega)]
  refine⟨by omega,λi h b=>?_⟩
  by_cases e:i=k
  ·subst e;omega
  ·have:=a i h (by omega);omega
def A4{x:V}{q:Nat->Int}{F:FL}{p:WV}(h:jo x q F p=1):Ao p=false/\∀ f∈F,1<=Fv q (fU p (wM x)) f:=by
 unfold jo at h;cases hb:Ao p with
 | true=>rw[hb,if_pos rfl] at h;exact absurd h (by decide)
 | false=>
  rw[hb,if_neg (by decide)] at h
  refine⟨rfl,λf b=>?_⟩;obtain⟨i,a,rfl⟩:=zQa b;have:=(Ea (q:=q) (p:=fU p (wM x)) F.length (zfa _)).2 i a a;omega
def Pd{p:WV}{K:Int}{a b:Nat}(h:MeanB p K a b)(c:Ao p=false):∃ M:V,(∀ i,i<3->p i=some (Rat.divInt (bV M i) K))/\∀ i,(bV M i).natAbs<=2^b:=by
 simp only[Ao,Bool.not_eq_false',zaa,Option.isSome_iff_exists] at c;obtain⟨⟨v0,d⟩,⟨v1,e⟩,⟨v2,f⟩⟩:=c;obtain⟨Z0,rfl,z0⟩:=h.ex 0 v0 d;obtain⟨Z1,rfl,j⟩:=h.ex 1 v1 e;obtain⟨Z2,rfl,z2⟩:=h.ex 2 v2 f;refine⟨⟨Z0,Z1,Z2⟩,λi g=>?_,λi=>?_⟩
 ·have:i=0\/i=1\/i=2:=by omega
  rcases this with rfl|rfl|rfl<;>assumption
 ·unfold bV;split<;>(try split)<;>assumption
def Ie{x:Int}{k m:Nat}(h:x.natAbs<=2^k)(hk:k<=m):x.natAbs<=2^m:=zEa h (zpa (by decide) hk)
def H6{x:V}{q:Nat->Int}(h:PoseOk x q){p:WV}{K:Int}{a b:Nat}(hm:MeanB p K a b){M:V}(C:∀ i,i<3->p i=some (Rat.divInt (bV M i) K))(y:∀ i,(bV M i).natAbs<=2^b){f:(V×Int)×List Nat}(D:bd 549755813888 f.1.1/\f.1.2.natAbs<=281474976710656)(m:1<=Fv q (fU p (wM x)) f) :
  V.dot (bE q f.1.1) (V.sub M (V.smul K x))<bg q*f.1.2*K:=by
 have n:=hm.pos;have la:=hm.la;have lb:=hm.lb;obtain⟨c,hc⟩:∃ c,c=330:=⟨_,rfl⟩;obtain⟨d,E⟩:∃ d,d=395:=⟨_,rfl⟩;obtain⟨W,w⟩:∃ W,W=V.sub M (V.smul K x):=⟨_,rfl⟩;rw[<-w];have v:∀ i,bV W i=bV M i+-(bV x i*K):=λi=>by
  rw[w];unfold bV;split<;>(try split)<;>simp only[V.sub,V.smul]<;>grind
 have z:∀ i,(bV x i).natAbs<=2^47:=λi=>by
  have:=h.hx;simp only[bd] at this;rw[show(2:Nat)^47=140737488355328 from rfl];unfold bV;split<;>(try split)<;>omega
 have l:∀ i,(-(bV x i*K)).natAbs<=2^c:=λi=>by
  rw[z3b];exact mN (z i) hm.le (by omega)
 have g:∀ i,(bV M i).natAbs<=2^c:=λi=>Ie (y i) (by omega)
 have u:∀ i,(bV W i).natAbs<=2^(c+1):=λi=>by rw[v];exact ju (g i) (l i)
 have w1:∀ i,i<3->fU p (wM x) i=some (Rat.divInt (bV W i) K):=λi r=>by
  show addW (p i) (some (-(bV x i:Rat)))=_;have e:-((bV x i:Int):Rat)=Rat.divInt (-(bV x i*K)) K:=by
   rw[<-Rat.neg_divInt,<-div_one (bV x i)];congr 1;rw[zqd (by decide) (by omega)];omega
  rw[C i r,e,uc (g i) (l i) hm.le n (by omega) (by omega),v]
 obtain⟨N,o⟩:∃ N,bE q f.1.1=N:=⟨_,rfl⟩;have t:∀ i,(bV N i).natAbs<=2^63:=λi=>by
  have:=vV h.hq (E7 D.1) i;rw[o] at this;simp only[inR] at this;rw[show(2:Nat)^63=9223372036854775808 from rfl];omega
 have j:∀ i,(bV N i*bV W i).natAbs<=2^d:=λi=>mN (t i) (u i) (by omega)
 have m1:∀ i,i<3->mulW (wM N i) (fU p (wM x) i)=some (Rat.divInt (bV N i*bV W i) K):=λi r=>by
  rw[w1 i r];show mulW (some ((bV N i:Int):Rat)) _=_;rw[(Wr (t i)).mulW (oI (u i) hm.le (by omega)) (by omega) (by omega)]
  congr 1;rw[<-div_one (bV N i),zac,zwc]
 have A:V.dot N W=bV N 0*bV W 0+bV N 1*bV W 1+bV N 2*bV W 2:=rfl;have s:wu (wM N) (fU p (wM x))=some (Rat.divInt (V.dot N W) K):=by
  unfold wu;rw[m1 0 (by decide),m1 1 (by decide),m1 2 (by decide),uc (j 0) (j 1) hm.le n (by omega) (by omega),uc (p:=d+1) (ju (j 0) (j 1)) (Ie (j 2) (by omega)) hm.le n (by omega) (by omega),A]
 unfold Fv at m;rw[o,s,tL] at m;rw[o];rcases zzb (V.dot N W) (bg q*f.1.2*K) with k|k
 ·exact k
 ·exfalso;have hle:((bg q*f.1.2:Int):Rat)<=Rat.divInt (V.dot N W) K:=by
   rw[<-div_one (bg q*f.1.2),ls (by decide) n];omega
  split at m
  ·omega
  ·split at m
   ·rename_i B;exact absurd B (Rat.not_lt.2 hle)
   ·omega
def H3{x:V}{q:Nat->Int}(h:PoseOk x q){l:List V}(hl:Hul l){F:FL}{E:List (Nat×Nat)}(s:Fac l F E){p:WV}{K:Int}{a b:Nat}(hm:MeanB p K a b){M:V}(I:∀ i,i<3->p i=some (Rat.divInt (bV M i) K))(y:∀ i,(bV M i).natAbs<=2^b)(L:jo x q F p=1)(h0:0<l.length){u:V}(Q:u≠V.zero) :
  ∃ i,i<l.length/\bg q*V.dot u M<K*V.dot u (kZ x q l i):=by
 have O:=(fP h.hq h.h0).1;have N:bg q≠0:=by omega
 have R:=hm.pos;obtain⟨m0,d0,m⟩:=hl.ex;have w:=tK N Q;obtain⟨i,v,f,_⟩:=Ch (λk=>V.dot (cq q u) (pt l k)) l.length h0;obtain⟨W,t⟩:∃ W,W=V.sub M (V.smul K x):=⟨_,rfl⟩;have key:=Nn (P:=pt l) (W:=V.sub (cq q W) (V.smul (K*bg q) (pt l i))) v (λJ=>qg m i J) (λn d hn o=>by
  obtain⟨g,e,c⟩:=zXa.1 ((s.kn.facets.mem (n,d)).2 hn);have:=H6 h hm I y (s.fb.2 g e) ((A4 L).2 g e);rw[<-t,show g.1.1=n by rw[c],show g.1.2=d by rw[c]] at this
  have z:V.dot (bE q n) W=V.dot n (cq q W):=by
   have:=pL q W n;rw[w8 W,w8 (cq q W)] at this;exact this
  have j:V.dot n (V.sub (cq q W) (V.smul (K*bg q) (pt l i)))=V.dot n (cq q W)-K*bg q*V.dot n (pt l i):=by simp only[V.dot,V.sub,V.smul];grind
  rw[j,<-z,(az.1 o).2];have r:K*bg q*d=bg q*d*K:=by rw[Int.mul_assoc,z5a]
  omega) w (λk hk=>by
  have:V.dot (cq q u) (pt l k)<=V.dot (cq q u) (pt l i):=f k hk;rw[bX];omega)
 refine⟨i,v,?_⟩;have j:V.dot (cq q u) (V.sub (cq q W) (V.smul (K*bg q) (pt l i)))=V.dot (cq q u) (cq q W)-K*bg q*V.dot (cq q u) (pt l i):=by simp only[V.dot,V.sub,V.smul];grind
 have r:V.dot (cq q u) (cq q W)=bg q*bg q*V.dot u W:=by
  rw[<-pL,su];simp only[V.dot,V.smul];grind
 have D:=uC u x q l i;have G:V.dot u W=V.dot u M-K*V.dot u x:=by rw[t];simp only[V.dot,V.sub,V.smul];grind
 rw[j,r,G] at key;rw[D];generalize V.dot (cq q u) (pt l i)=A at *;generalize V.dot u M=B at *;generalize V.dot u x=C at *;have H:bg q*bg q*(B-K*C)-K*bg q*A=bg q*(bg q*B-K*(A+bg q*C)):=by grind
 rw[H] at key;rcases zzb (bg q*B) (K*(A+bg q*C)) with k|k
 ·exact k
 ·have:=zlb (zva O) (show 0<=bg q*B-K*(A+bg q*C) by omega);omega
section
variable{x y:V}{q r:Nat->Int}{l m:List V}{F G:FL}{E E':List (Nat×Nat)}
def Iz(h:PairOk x y q r l m)(hl:Hul l)(hm:Hul m)(o:Fac l F E)(s:Fac m G E'){u:V}(e:u≠V.zero)(hu:¬ ki u x y q r l m<0){p:WV}{K:Int}{a b:Nat}(hp:MeanB p K a b)(h1:jo x q F p=1)(n:jo y r G p=1):False:=by
 have z:=(fP h.pa.hq h.pa.h0).1;have D:=(fP h.pb.hq h.pb.h0).1;have w:=hp.pos;obtain⟨M,d,c⟩:=Pd hp (A4 h1).1;obtain⟨i,t,f⟩:=H3 h.pa hl o hp d c h1 h.na e;obtain⟨j,v,g⟩:=H3 h.pb hm s hp d c n h.nb (Ew e);rw[jk,jk,z1b,z1b] at g;have k:=(zj h u).1 hu i j t v;have m1:=z7b f D;have m2:=z7b (show K*V.dot u (kZ y r m j)<bg r*V.dot u M by omega) z
 have m3:=zab k (zva w);generalize V.dot u M=B at *;generalize V.dot u (kZ x q l i)=A at *;generalize V.dot u (kZ y r m j)=C at *;have H:bg r*(bg q*B)=bg q*(bg r*B):=by rw[<-Int.mul_assoc,<-Int.mul_assoc,z5a (bg r)]
 have I:bg r*(K*A)=K*(bg r*A):=by rw[<-Int.mul_assoc,<-Int.mul_assoc,z5a (bg r)]
 have J:bg q*(K*C)=K*(bg q*C):=by rw[<-Int.mul_assoc,<-Int.mul_assoc,z5a (bg q)]
 omega
def LT(h:PairOk x y q r l m){u:V}{d:Option Rat}(hc:Fg u d x y q r l m=true):bd NB u/\u≠V.zero/\¬ ki u x y q r l m<0:=by
 unfold Fg at hc;simp only[zaa,zCa,decide_eq_false_iff_not] at hc;obtain⟨c1,c2,e,c,a⟩:=hc;refine⟨I6 c1,c2,?_⟩;cases d with
 | none=>cases e
 | some d=>
  rw[Nz] at c;simp only[zCa,decide_eq_false_iff_not,Rat.not_lt] at c;rw[tL] at a;have f:d<=-(eC u.neg y r m):=by
   rw[<-Rat.not_lt];intro b;rw[if_pos b] at a;exact absurd a (by decide)
  unfold ki;rw[Rat.not_lt];generalize eC u.neg y r m=A at *;generalize eC u x q l=B at *;grind
end
def NS{t:Rat}(h:¬ t<0):decide (EL (some t) ≥ 0)=true:=by
 have:=I2 t;rw[decide_eq_false h,decide_eq_false_iff_not] at this;exact decide_eq_true (by omega)
def Pb{call:Nat->List D->Option D}(n:Nat)(x y:V)(q r:Nat->Int)(l m:List V)(u:V)(d:RawR)(J:d.ok)
  (hc:∀ f xs,f≠415->call f xs=cA (n+1040) f xs) (c:call 415 []=some (.bool true)):KX aS call (cZ x q) (bZ l) (cZ y r) (bZ m) (ac u) d.enc=some (.bool true):=by
 delta KX qG qB qT qN Jn
 obtain⟨v,h1,L⟩:=W6 (n+1029) x y q r l m;obtain⟨s0,g0,H⟩:=W8 (n+1033) J;refine aa ((hc 414 _ (by decide)).trans h1) (aa bn (aa ab (aa (Xt (aa ((hc 418 _ (by decide)).trans g0) (aa bn ab))) (aa ab ?_))))
 cases ho:(!v||!s0) with
 | true=>exact aa (z:=true) rfl (aa ab (fH (aa c rfl)))
 | false=>
 simp only[Bool.or_eq_false_iff,Bool.not_eq_false'] at ho;obtain⟨rfl,rfl⟩:=ho;obtain⟨hp,hul,e⟩:=L rfl;obtain⟨D0,N,I⟩:=H rfl;rw[I];refine aa (z:=!(Fg u D0 x y q r l m)) (mf (aa ((hc 421 _ (by decide)).trans (W9 (n+6) (u:=u) N hp)) (aa bn ab))) (aa ab ?_)
 cases hk:Fg u D0 x y q r l m with
 | false=>exact fH (aa c rfl)
 | true=>
 obtain⟨hu,B,s⟩:=LT hp hk;obtain⟨F,E,h⟩:=Nr hp.la hul.len hul.srt;obtain⟨G,E',i⟩:=Nr hp.lb e.len e.srt;have w:=Pp hp hul e h i B s;obtain⟨d',b,j,kb⟩:=Xa (n+2) hp h i;have C:b=false:=by
  cases b with
  | false=>rfl
  | true=>
   obtain⟨p,K,a,b,_,k,i1,i2⟩:=kb rfl;exact(Iz hp hul e h i B s k i1 i2).elim
 subst C;have g:=W7 (n+6) hp h i;cases hS:(fG x y q r l m (wG q r l m F G E E')).2 with
 | none=>rw[hS] at w;cases w
 | some t=>
 rw[hS] at g;obtain⟨t1,t2,t3,_⟩:=(EI _).2 t hS;have o:=EC hp h i _ t1;have ka:=Qy (n+6) hp hu;have A:=Qy (n+6) hp o;have M:=bQ ((mJ hp hu).InR (by decide) (by decide));have O:=bQ ((mJ hp o).InR (by decide) (by decide))
 rw[u9 hp hu] at ka;rw[u9 hp o] at A;refine mf (aa ((hc 425 _ (by decide)).trans j) (aa (z:=d') rfl (aa (z:=.bool false) rfl (aa ((hc 416 _ (by decide)).trans g) (aa (z:=iI (λu=>QQ u x y q r l m) (some t)) rfl (aa (z:=.bool true) rfl (aa ab (aa (z:=false) rfl (aa ab (mf ?_))))))))))
 refine aa ((hc 419 _ (by decide)).trans ka) (aa (z:=ac t.1) rfl (aa ((hc 419 _ (by decide)).trans A) (aa c (aa ab (aa (z:=true) (fH (aa ((hc 322 _ (by decide)).trans (Nu (n+1034) M)) (aa fB ?_))) (aa ab (aa (z:=true) (fH (aa ((hc 322 _ (by decide)).trans (Nu (n+1034) O)) (aa fB ?_))) rfl)))))))
 ·rw[ab,NS s]
 ·rw[ab,NS t3]
end Sy
end
noncomputable section
namespace Sy
open Go Go.Proofs Geo
def ctr411{d0 d1 d2 d3 d4 d5:D}(h0:wt dh d0)(h1:wt K3 d1)(a:wt dh d2)(b:wt K3 d3)(c:wt K1 d4)(e:wt bY d5)(i:Mz d5):N7 Tryz.prog [dh,K3,dh,K3,K1,bY] .bool 6 [d0,d1,d2,d3,d4,d5] (.bool true):=by
 have hw:fI [dh,K3,dh,K3,K1,bY] [d0,d1,d2,d3,d4,d5]:=⟨_,_,rfl,h0,_,_,rfl,h1,_,_,rfl,a,_,_,rfl,b,_,_,rfl,c,_,_,rfl,e,rfl⟩;obtain⟨x,q,rfl⟩:=JB h0;obtain⟨l,rfl⟩:=NZ h1;obtain⟨y,r,rfl⟩:=JB a;obtain⟨m,rfl⟩:=NZ b;obtain⟨u,rfl⟩:=Jz c;obtain⟨d,g,rfl⟩:=PD e i;have key:=P9 u6 (Av (0+1040)) (Hv _) [dh,K3,dh,K3,K1,bY] .bool [cZ x q,bZ l,cZ y r,bZ m,ac u,d.enc] (.bool true) (by kernel_rfl) (Pb 0 x y q r l m u d g (λf xs h=>by unfold Av;rw[if_neg h]) (by unfold Av;rw[if_pos rfl];exact Dg)) hw
 rw[show jT (cw 411)=0 by kernel_rfl] at key
 exact key.1
end Sy
end
noncomputable section
set_option maxHeartbeats 1000000
open Go Go.ChangeShapes Go.WideShapes Go.ChangeAt Go.RowKit
def Xu:ownKnob Tryz.prog.godebug=none:=by kernel_rfl
def Ic:laidOutB Tryz.prog=true:=by kernel_rfl
def PA:Tryz.prog.underlying 4=some .bool:=by kernel_rfl
def EA:Tryz.f6.params=#[27,30,27,30,23,38]:=by kernel_rfl
def Q9:Sy.A8 Tryz.prog [Sy.dh,Sy.K3,Sy.dh,Sy.K3,Sy.K1,Sy.bY] [27,30,27,30,23,38]=true:=by kernel_rfl
def Rj:List.all [27,30,27,30,23,38] (λt=>Tryz.prog.readableRec t&&decide (t<Tryz.prog.types.size))=true:=by kernel_rfl
def Gv{l:Array TypeId}(h:l.toList.all (λt=>!(Tryz.prog.wantsStandIn t))=true){j:Nat}{t:TypeId}(b:l[j]?=some t):Tryz.prog.wantsStandIn t=false:=by
 have:=zma.1 h t (by have:=z4a (l:=l.toList) (i:=j) (a:=t) (by simpa using b);exact this)
 simpa using this
def shape{α:Type}{l:List α}(h:l.length=6):∃ d0 d1 d2 d3 d4 d5,l=[d0,d1,d2,d3,d4,d5]:=by
 match l,h with
 | [d0,d1,d2,d3,d4,d5],_=>exact⟨d0,d1,d2,d3,d4,d5,rfl⟩
def xv(os:Os):World:=
 let w0:=World.holding Tryz.prog os ⟨#[],#[],[]⟩
 { w0 with heap:=w0.heap.modify 0 λ
   | .cells _ t frozen=>.cells #[.int .u8 0,.int .u8 1,.int .u8 28,.int .u8 2,.int .u8 29,.int .u8 14,.int .u8 24,.int .u8 3,.int .u8 30,.int .u8 22,.int .u8 20,.int .u8 15,.int .u8 25,.int .u8 17,.int .u8 4,.int .u8 8,.int .u8 31,.int .u8 27,.int .u8 13,.int .u8 23,.int .u8 21,.int .u8 19,.int .u8 16,.int .u8 7,.int .u8 26,.int .u8 12,.int .u8 18,.int .u8 6,.int .u8 11,.int .u8 5,.int .u8 10,.int .u8 9] t frozen
   | o=>o }
def ww(os:Os)(args:Array Value):laidMet Tryz.prog Rows.planeNoPointOnBothSidesRow.laid ((xv os).forCall (λ_ _=>0) ⟨#[],args,[]⟩).memory:=
 laidMet_of_run' 8 (by kernel_rfl) (by kernel_rfl)
set_option maxRecDepth 100000 in
theorem planeNoPointOnBothSides_lifted(os:Os)(started:os.Started)(H:Type)(enc:TypeId×Value->H) :
  ReturnsInHanded {} Tryz.checked os 6 .any (λw args=>(Rows.planeNoPointOnBothSidesSpec.pre enc Tryz.prog Tryz.f6 Rows.planeNoPointOnBothSidesRow.domain false w args/\laidMet Tryz.prog Rows.planeNoPointOnBothSidesRow.laid w)/\sizedMet enc Tryz.prog Tryz.f6 (OpenSpec.ofChange Rows.planeNoPointOnBothSidesSpec) false w args) (Rows.planeNoPointOnBothSidesSpec.post enc Tryz.prog Tryz.f6 false true false false):=by
 refine returnsInHanded_of_change_and (C:=Tryz.checked) (X:=λw _=>laidMet Tryz.prog Rows.planeNoPointOnBothSidesRow.laid w) (λ_ _ _ E h=>h.of_heap E) Xu started (by kernel_rfl) (show Tryz.prog.funcs[6]?=some Tryz.f6 by kernel_rfl)
  (ChangeSpec.witness_at (enc:=enc) (C:=Tryz.checked) (os:=os) (X:=λw _=>laidMet Tryz.prog Rows.planeNoPointOnBothSidesRow.laid w) false (xv os) #[.agg #[.int .i64 0,.int .i64 0,.int .i64 0,.int .i64 0,.int .i64 0,.int .i64 0,.int .i64 0],.agg #[.slice none 0 0],.agg #[.int .i64 0,.int .i64 0,.int .i64 0,.int .i64 0,.int .i64 0,.int .i64 0,.int .i64 0],.agg #[.slice none 0 0],.agg #[.int .i64 0,.int .i64 0,.int .i64 0],.agg #[.bool false,.bool false,.int .u32 0,.int .u32 0,.int .u32 0,.int .u32 0,.int .u32 0,.int .u32 0,.int .u32 0,.int .u32 0,.int .u32 0,.int .u32 0,.int .u32 0,.int .u32 0,.int .u32 0,.int .u32 0,.int .u32 0,.int .u32 0,.bool false,.bool false,.int .u32 0,.int .u32 0,.int .u32 0,.int .u32 0,.int .u32 0,.int .u32 0,.int .u32 0,.int .u32 0,.int .u32 0,.int .u32 0,.int .u32 0,.int .u32 0,.int .u32 0,.int .u32 0,.int .u32 0,.int .u32 0]] 8 rfl (by kernel_rfl) (by kernel_rfl) (by kernel_rfl) (by kernel_rfl) (by kernel_rfl) (ww os _)) ?_
 intro W base args u gs before a o s _ _ _;have c:∀ (j:Nat) t v,Tryz.f6.params[j]?=some t->args[j]?=some v->Value.okWide Tryz.prog W .any base t v:=a;have f:=o;obtain⟨p,q,d,z,rfl,D,F⟩:=o;have g:DataW.TrodAll enc Tryz.prog W 0 (λ_=>true) true Tryz.f6.params.toList args.toList u p:=d;rw[EA] at g c;obtain⟨rfl,rfl⟩:=trodVars_none z;clear d a;obtain⟨xs,hx,G,hlen,A⟩:=Sy.LD Q9 g (λj t v h1 y=>c j t v (by simpa using h1) (by simpa using y))
 have n:=hx;obtain⟨S,r0,rfl,w0,T,r1,rfl,w1,U,N,rfl,J,V,O,rfl,K,Y,Q,rfl,L,Z,R,rfl,M,hn⟩:=n;have l:_=[]:=hn;subst l;have b:=Sy.ctr411 w0 w1 J K L M G.2.2.2.2.2.1 W (Sy.qz W) args.toList (λ_ _ h=>Sy.valid_lt h) hx hlen A;rw[zic] at b;obtain⟨d0,d1,d2,d3,d4,d5,rfl⟩:=shape (Sy.OK g);refine Go.Calls.mono b λe W' he=>?_;obtain⟨v,rfl,⟨os',dr,B,rfl⟩,_,I⟩:=he;have m:v=.bool true:=Sy.bool_of I;subst m;have r:Below W.heap.size W (grown W os' dr):=⟨rfl,rfl,rfl,by simp[grown],λk hk=>c7 W os' dr hk⟩
 have i:∀ x∈p,x.block<W.heap.size:=λx hx=>by simpa using f.lt x (by simpa using hx)
 exact⟨_,rfl,_,_,_,[],p,[],f,trodAll_mk1 ((Go.RowKit.shut_bool (P:=Tryz.prog) PA true)),Sy.E8 Ic Rj g r i,rfl,r.frame _,λh=>by cases h⟩
theorem planeNoPointOnBothSides_row:Rows.PlaneNoPointOnBothSidesSaid:=
 OpenClaim.holds_of_wide 6 Tryz.f6 rfl rfl rfl rfl rfl rfl rfl ⟨rfl,rfl,rfl,rfl,rfl⟩ rfl rfl rfl rfl rfl (by kernel_rfl) (show Tryz.prog.funcs[6]?=some Tryz.f6 by kernel_rfl) (by kernel_rfl)
  (of_decide_eq_true (by kernel_rfl)) (by unfold Func.isWrapper;first|(rw[if_pos (by decide +kernel)];kernel_rfl)|(rw[if_neg (by decide +kernel)];exact⟨rfl,rfl⟩))
  (λos started H enc _=>planeNoPointOnBothSides_lifted os started H enc)
theorem planeNoPointOnBothSides_holds:Rows.PlaneNoPointOnBothSidesCardSaid:=
 Claim7.holds_tied_plain_at .later [] [.data] true (true, "af7a03bd2c7ac196ce4e3bd4e884afe91d5d9462e962db29bbf1e0f2b31f9681") false
  planeNoPointOnBothSides_row (λ_ h=>by cases h) (by kernel_rfl) (λ_ h=>by cases h) planeNoPointOnBothSides_row_tie rfl ⟨rfl,rfl⟩ (by kernel_rfl) rfl
  (λf fn hf hfn=>by
   obtain rfl:f=6:=zzd ((show Tryz.prog.funcNamed Rows.planeNoPointOnBothSidesRow.func=some 6 by kernel_rfl).symm.trans hf) |>.symm
   obtain rfl:fn=Tryz.f6:=(zzd ((show Tryz.prog.funcs[6]?=some Tryz.f6 by kernel_rfl).symm.trans hfn)).symm
   exact⟨by kernel_rfl,λj t ht=>Gv (by rw[EA];kernel_rfl) ht⟩)
  (by kernel_rfl)
end
end Go.Proofs.YtphlmegkommlnaaGreatDoor
