/- PlaneOrPoint answers true at every input, and the input reads afterwards as it read before. -/
import Derived.Test.YtphlmegkommlnaaGreatDoorOrpt05
import Derived.Test.YtphlmegkommlnaaGreatDoorOrpt21
import Derived.Test.YtphlmegkommlnaaGreatDoorOrpt22
import Derived.Test.YtphlmegkommlnaaGreatDoorRows
import Derived.Test.YtphlmegkommlnaaGreatDoorTie
import Derived.Test.YtphlmegkommlnaaGreatDoorCards
import Derived.SevenTiedAt
import Derived.LaidLaws
import Derived.Handed
set_option linter.unusedVariables false
set_option linter.unusedSimpArgs false
set_option linter.unnecessarySimpa false
set_option linter.defProp false
set_option maxRecDepth 20000
namespace Go.Proofs.YtphlmegkommlnaaGreatDoor
noncomputable section
namespace Sy
open Go Go.Proofs Geo
def km(x:V)(q:Nat->Int)(F:FL):List (V×Int):=F.map λf=>(aF q f.1.1,ay q*f.1.2+V.dot (aF q f.1.1) x)
def uR(n M x:V)(K:Int):V.dot n (V.sub M (V.smul K x))=V.dot n M-K*V.dot n x:=by simp only[V.dot,V.sub,V.smul];grind
def Kd{x:V}{q:Nat->Int}{F:FL}{M:V}{K:Int}(h:PI (km x q F) M K):xC x q F M K:=λf hf=>by have:=h _ (zSa.2 ⟨f,hf,rfl⟩);simp only at this;rw[uR];grind
def qD(q:Nat->Int)(n W:V):V.dot n (ci q W)=V.dot (aF q n) W:=by simp_all [fM,jO]
def PtK.uniq{p:WV}{M M':V}{K K':Int}(h:PtK p M K)(b:PtK p M' K'):V.smul K' M=V.smul K M':=by
 have f:=h.pos;have g:=b.pos;have key:∀ i,aJ M i*K'=aJ M' i*K:=λi=>by have e:=h.eq i;rw[b.eq i] at e;have a:=zDd e;rw[zLb j1 j1] at a;exact a.symm
 have c:=key 0;have d:=key 1;have a:=key 2;simp only[aJ,if_true,if_false,show((1:Nat)=0)=False by simp,show((2:Nat)=0)=False by simp,show((2:Nat)=1)=False by simp] at c d a
 apply V.ext'<;>simp only[V.smul]<;>rw[zMa,zMa K]<;>assumption
section
variable{x y:V}{q r:Nat->Int}{l m:List V}{F G:FL}{E E':List (Nat×Nat)}
def EZ(hF:Fac l F E){M:V}{K:Int}(iA:xC x q F M K):∀ n d,IsF (pt l) l.length n d->V.dot n (ci q (V.sub M (V.smul K x)))<=d*(ay q*K):=λn d hn=>by obtain⟨f,hf,e⟩:=zSa.1 ((hF.kn.facets.mem (n,d)).2 hn);have:=iA f hf;rw[e] at this;rw[qD,show d*(ay q*K)=ay q*d*K by grind];exact this
def FY(h:PairOk x y q r l m)(hl:Hul l)(hF:Fac l F E):∀ d,d≠V.zero->∃ c∈km x q F++km y r G,0<V.dot c.1 d:=λd d0=>by
 obtain⟨m0,t,h0⟩:=hl.ex;have s:=(gn h.pa).2;have j:=qm s d0;apply Classical.byContradiction;intro i;obtain⟨a,p,b,_⟩:=so (λk=>V.dot (ci q d) (pt l k)) l.length h.na;have:=Bu (W:=ci q d) p (λhm=>lQ h0 a hm) (λn e hn on=>by
  obtain⟨f,hf,o⟩:=zSa.1 ((hF.kn.facets.mem (n,e)).2 hn);rw[qD];apply zWb.1;intro k;exact i ⟨_,List.mem_append_left _ (zSa.2 ⟨f,hf,rfl⟩),by rw[o];exact k⟩) (g:=ci q d) (λk hk=>by
  have:V.dot (ci q d) (pt l k)<=V.dot (ci q d) (pt l a):=b k hk;rw[bF];omega)
 have:=aW j;omega
section
variable(h:PairOk x y q r l m)(hl:Hul l)(hF:Fac l F E)(hG:Fac m G E'){M:V}{K:Int}(hK:0<K)(iA:xC x q F M K)(iB:xC y r G M K)
include h hF hG hK iA iB
def Gr{k:Nat}(hk:k<l.length)(e:ci q (V.sub M (V.smul K x))=V.smul (ay q*K) (pt l k)):∃ p∈lN x y q r l F G E,∃ M' K',PtK p M' K'/\V.smul K M'=V.smul K' M:=by
 have s0:=(cJ h.pa.hq h.pa.h0).1;have b:=zna (aF q) e;rw[ml,jH] at b;have a:V.smul K (fQ x q l k)=V.smul (ay q) M:=by
  refine mc (k:=ay q) j1 ?_
  have c:fQ x q l k=V.add (aF q (pt l k)) (V.smul (ay q) x):=rfl;rw[c];grind [V.smul,V.sub,V.add,V.mk.injEq]
 exact⟨_,Rh h hF hG hk (oI hK a s0 iA) (oI hK a s0 iB),_,_,Ox h.pa h.la hk,a⟩
include hl
section
variable{f1 f2:(V×Int)×List Nat}(m1:f1∈F)(m2:f2∈F)(t1:V.dot (aF q f1.1.1) (V.sub M (V.smul K x))=ay q*f1.1.2*K)(t2:V.dot (aF q f2.1.1) (V.sub M (V.smul K x))=ay q*f2.1.2*K)
include m1 m2 t1 t2
def Iq{f3:(V×Int)×List Nat}(m3:f3∈F)(t3:V.dot (aF q f3.1.1) (V.sub M (V.smul K x))=ay q*f3.1.2*K)(b:V.dot (V.cross (aF q f1.1.1) (aF q f2.1.1)) (aF q f3.1.1)≠0):∃ p∈lN x y q r l F G E,∃ M' K',PtK p M' K'/\V.smul K M'=V.smul K' M:=by
 have s0:=(cJ h.pa.hq h.pa.h0).1;have a:∀ {f:(V×Int)×List Nat},V.dot (aF q f.1.1) (V.sub M (V.smul K x))=ay q*f.1.2*K->V.dot f.1.1 (ci q (V.sub M (V.smul K x)))=f.1.2*(ay q*K):=λt=>by rw[qD,t];grind
 have hn:∀ {n w:V},V.dot n w=0->V.dot (aF q n) (aF q w)=0:=λ{n w} e=>by rw[jO,jA,jN,e,zwb]
 obtain⟨k,hk,e⟩:=HD (zGa s0 hK) (EZ hF iA) (hF.kn.fok.ok f1 m1).1 (hF.kn.fok.ok f2 m2).1 (a t1) (a t2) hl.srt hl.vtx (λe=>b (by rw[qf e];simp[V.dot,V.zero])) (hF.kn.fok.ok f3 m3).1 (a t3) (λw w1 c d=>Classical.byContradiction λw0=>Be (show ay q≠0 by omega) w0 (TL b (hn w1) (hn c) (hn d)))
 exact Gr h hF hG hK iA iB hk e
def su{g:(V×Int)×List Nat}(m3:g∈G)(t3:V.dot (aF r g.1.1) (V.sub M (V.smul K y))=ay r*g.1.2*K)(m:V.dot (V.cross (aF q f1.1.1) (aF q f2.1.1)) (aF r g.1.1)≠0):∃ p∈lN x y q r l F G E,∃ M' K',PtK p M' K'/\V.smul K M'=V.smul K' M:=by
 have s0:=(cJ h.pa.hq h.pa.h0).1;have o:∀ {f:(V×Int)×List Nat},V.dot (aF q f.1.1) (V.sub M (V.smul K x))=ay q*f.1.2*K->V.dot f.1.1 (ci q (V.sub M (V.smul K x)))=f.1.2*(ay q*K):=λt=>by rw[qD,t];grind
 have hn:∀ {n w:V},V.dot n w=0->V.dot (aF q n) (aF q w)=0:=λ{n w} e=>by rw[jO,jA,jN,e,zwb]
 rcases Dn (zGa s0 hK) (EZ hF iA) (hF.kn.fok.ok f1 m1).1 (hF.kn.fok.ok f2 m2).1 (o t1) (o t2) hl.srt hl.vtx (λe=>m (by rw[qf e];simp[V.dot,V.zero])) with⟨k,hk,e⟩|⟨a,b,γ,δ,i,H,B,w0,w1,D,d0,d1,eq⟩
 ·exact Gr h hF hG hK iA iB hk e
 ·have j:xH x q l (a,b)=aF q (wy (pt l) a b):=xA x q l a b;have C:lv x q r l (a,b) g≠0:=λc=>Be (show ay q≠0 by omega) w0 (TL m (hn w1) (hn D) (by unfold lv at c;rw[j] at c;exact c))
  have g0:0<γ:=iC (zGa s0 hK) j1
  obtain⟨p,M',K',hp,I,J⟩:=Oq h hF hG (BV hl hF i B) m3 C (M0:=M) (K0:=K) (a:=δ) (b:=γ*ay q*K) hK d0 (by rw[show γ*ay q*K=ay q*K*γ by grind];exact d1) (by
   rw[j];have d:=zna (aF q) eq;rw[jH,jH] at d;have s:aF q (V.sub (ci q (V.sub M (V.smul K x))) (V.smul (ay q*K) (pt l a)))=V.smul (ay q) (V.sub (V.smul (ay q) M) (V.smul K (fQ x q l a))):=by
    have z:∀ u v:V,aF q (V.sub u v)=V.sub (aF q u) (aF q v):=λu v=>by apply V.ext'<;>simp only[aF,co,V.sub]<;>grind
    have A:fQ x q l a=V.add (aF q (pt l a)) (V.smul (ay q) x):=rfl;rw[z,ml,jH,A];apply V.ext'<;>simp only[V.sub,V.smul,V.add]<;>grind
   rw[s,fi] at d;rw[show γ*ay q*K=K*(γ*ay q) by grind,<-fi,d,fi,zMa K]) t3 iA iB
  grind
end
end
section
variable(h:PairOk x y q r l m)(hl:Hul l)(hm:Hul m)(hF:Fac l F E)(hG:Fac m G E')
include h hl hm hF hG
def O1{M:V}{K:Int}(hK:0<K)(j:PI (km x q F++km y r G) M K){c1 c2 b:V×Int}(n1:c1∈km x q F++km y r G)(n2:c2∈km x q F++km y r G)(k:b∈km x q F++km y r G)
  (t1:V.dot c1.1 M=c1.2*K) (t2:V.dot c2.1 M=c2.2*K) (t3:V.dot b.1 M=b.2*K) (f:V.dot (V.cross c1.1 c2.1) b.1≠0):∃ p∈lc x y q r l m F G E E',∃ M' K',PtK p M' K'/\V.smul K M'=V.smul K' M:=by
 have iA:xC x q F M K:=Kd λc hc=>j c (List.mem_append_left _ hc);have iB:xC y r G M K:=Kd λc hc=>j c (zPa _ hc);have a:∀ {n z:V} {s d:Int},V.dot n M=(s*d+V.dot n z)*K->V.dot n (V.sub M (V.smul K z))=s*d*K:=λ{n z s d} e=>by rw[uR,e];grind
 have le:(∃ p∈lN x y q r l F G E,∃ M' K',PtK p M' K'/\V.smul K M'=V.smul K' M)->∃ p∈lc x y q r l m F G E E',∃ M' K',PtK p M' K'/\V.smul K M'=V.smul K' M:=λ⟨p,hp,e⟩=>⟨p,List.mem_append_left _ hp,e⟩;have o:(∃ p∈lN y x r q m G F E',∃ M' K',PtK p M' K'/\V.smul K M'=V.smul K' M)->∃ p∈lc x y q r l m F G E E',∃ M' K',PtK p M' K'/\V.smul K M'=V.smul K' M:=λ⟨p,hp,e⟩=>⟨p,zPa _ hp,e⟩;have g:V.dot (V.cross c2.1 b.1) c1.1≠0:=λe=>f (by rw[<-e];simp only[V.dot,V.cross];grind)
 have i:V.dot (V.cross b.1 c1.1) c2.1≠0:=λe=>f (by rw[<-e];simp only[V.dot,V.cross];grind)
 rcases List.mem_append.1 n1 with n1|n1<;>rcases List.mem_append.1 n2 with n2|n2<;>rcases List.mem_append.1 k with k|k <;>
  (obtain⟨f1,m1,rfl⟩:=zSa.1 n1;obtain⟨f2,m2,rfl⟩:=zSa.1 n2;obtain⟨f3,m3,rfl⟩:=zSa.1 k)
 ·exact le (Iq h hl hF hG hK iA iB m1 m2 (a t1) (a t2) m3 (a t3) f)
 ·exact le (su h hl hF hG hK iA iB m1 m2 (a t1) (a t2) m3 (a t3) f)
 ·exact le (su h hl hF hG hK iA iB m3 m1 (a t3) (a t1) m2 (a t2) i)
 ·exact o (su h.swap hm hG hF hK iB iA m2 m3 (a t2) (a t3) m1 (a t1) g)
 ·exact le (su h hl hF hG hK iA iB m2 m3 (a t2) (a t3) m1 (a t1) g)
 ·exact o (su h.swap hm hG hF hK iB iA m3 m1 (a t3) (a t1) m2 (a t2) i)
 ·exact o (su h.swap hm hG hF hK iB iA m1 m2 (a t1) (a t2) m3 (a t3) f)
 ·exact o (Iq h.swap hm hG hF hK iB iA m1 m2 (a t1) (a t2) m3 (a t3) f)
end
def Qs(P:Nat->V)(N:Nat)(s:Int)(u:V)(a:Int):Prop:=∃ i,i<N/\V.dot u (P i)<a*s
def Qw(P:Nat->V)(N:Nat)(s:Int)(u:V)(a:Int):Prop:=(∀ i,i<N->V.dot u (P i)<=a*s)/\(Qs P N s u a\/(u=V.zero/\a=0))
def zJ{P:Nat->V}{N:Nat}{s:Int}{u v:V}{a b k d:Int}(hk:0<k)(c:0<d)(h1:Qs P N s u a)(h2:Qw P N s v b):Qs P N s (V.add (V.smul k u) (V.smul d v)) (k*a+d*b):=by obtain⟨i,f,e⟩:=h1;refine⟨i,f,?_⟩;rw[nN];have a1:=zyb e hk;have a2:=zla (h2.1 i f) (zpa c);grind
def Ii{P:Nat->V}{N:Nat}{s:Int}{u v:V}{a b k d:Int}(hk:0<k)(c:0<d)(h1:Qw P N s u a)(h2:Qw P N s v b):Qw P N s (V.add (V.smul k u) (V.smul d v)) (k*a+d*b):=by
 refine⟨λi e=>?_,?_⟩
 ·rw[nN];have a1:=zla (h1.1 i e) (zpa hk);have a2:=zla (h2.1 i e) (zpa c);grind
 ·rcases h1.2 with f|⟨rfl,rfl⟩
  ·exact .inl (zJ hk c f h2)
  ·rcases h2.2 with g|⟨rfl,rfl⟩
   ·have:=zJ c hk g h1;have h:V.add (V.smul d v) (V.smul k V.zero)=V.add (V.smul k V.zero) (V.smul d v):=by apply V.ext'<;>simp only[V.add]<;>omega
    simp_all
   ·simp_all [V.add,V.smul,V.zero]
def SA(P:Nat->V)(N:Nat)(s:Int):Qw P N s V.zero 0:=⟨λi _=>by simp[V.dot,V.zero],.inr ⟨rfl,rfl⟩⟩
def Ih(h:PoseOk x q)(hF:Fac l F E){c:V×Int}(hc:c∈km x q F):Qs (fQ x q l) l.length (ay q) c.1 c.2/\Qw (fQ x q l) l.length (ay q) c.1 c.2:=by
 obtain⟨f,hf,rfl⟩:=zSa.1 hc;have s0:=(cJ h.hq h.h0).1;obtain⟨s1,z,b,s2⟩:=(hF.kn.fok.ok f hf).1.supp;have e:∀ k,V.dot (aF q f.1.1) (fQ x q l k)=ay q*(ay q*V.dot f.1.1 (pt l k))+ay q*V.dot (aF q f.1.1) x:=λk=>by rw[sV,jA,jN,Int.mul_assoc]
 have a:(ay q*f.1.2+V.dot (aF q f.1.1) x)*ay q=ay q*(ay q*f.1.2)+ay q*V.dot (aF q f.1.1) x:=x6
 have w:Qs (fQ x q l) l.length (ay q) (aF q f.1.1) (ay q*f.1.2+V.dot (aF q f.1.1) x):=⟨z,b,by rw[e,a];have:=zyb (zyb s2 s0) s0;omega⟩
 refine⟨w,λi d=>?_,.inl w⟩
 simp_all
section
variable(h:PairOk x y q r l m)(hF:Fac l F E)(hG:Fac m G E')(hs:∀ u,u≠V.zero->kG u x y q r l m<0)
include h hF hG hs
def inner:∃ M K,0<K/\∀ c∈km x q F++km y r G,V.dot c.1 M<c.2*K:=by
 rcases QV (km x q F++km y r G) with k|k
 ·exact k
 ·exfalso;have s0:=(cJ h.pa.hq h.pa.h0).1;have r0:=(cJ h.pb.hq h.pb.h0).1;obtain⟨d,T,u,a,v,b,C,D,w1,t,H⟩:=k (λn d=>∃ u a v b,n=V.add u v/\d=a+b/\Qw (fQ x q l) l.length (ay q) u a/\Qw (fQ y r m) m.length (ay r) v b/\(Qs (fQ x q l) l.length (ay q) u a\/Qs (fQ y r m) m.length (ay r) v b)) (λc hc=>by
   rcases List.mem_append.1 hc with hc|hc
   ·obtain⟨a1,a2⟩:=Ih h.pa hF hc;exact⟨c.1,c.2,V.zero,0,by simp[V.add,V.zero],j1,a2,SA ..,.inl a1⟩
   ·obtain⟨a1,a2⟩:=Ih h.pb hG hc;exact⟨V.zero,0,c.1,c.2,by simp[V.add,V.zero],j1,SA ..,a2,.inr a1⟩) (λn d W f k U hk g ⟨u,a,v,b,C,D,w1,t,H⟩ ⟨Y,a',v',R,A,B,o,p,Q⟩=>by
   refine⟨_,_,_,_,?_,?_,Ii hk g w1 o,Ii hk g t p,H.imp (λw=>zJ hk g w o) (λw=>zJ hk g w p)⟩
   ·rw[C,A];apply V.ext'<;>simp only[V.add,V.smul]<;>grind
   ·rw[D,B];grind)
  have I:∀ w,V.dot v w=-V.dot u w:=λw=>by grind [V.dot,V.add,V.zero]
  have X:∀ {P:Nat->V} {N:Nat} {s:Int} {w:V} {a:Int},0<s->(∀ z,V.dot w z=0)->Qs P N s w a->0<a:=λhs hw ⟨i,E,e⟩=>by rw[hw] at e;exact iC hs (by rw[zMa];exact e)
  have O:u≠V.zero:=λhu=>by
   have J:∀ z,V.dot u z=0:=λz=>by rw[hu];simp[V.dot,V.zero]
   have dv:∀ z,V.dot v z=0:=λz=>by rw[I,J];rfl
   have a0:0<=a:=by
    rcases w1.2 with k|k
    ·grind
    ·omega
   have S:0<=b:=by
    rcases t.2 with k|k
    ·grind
    ·omega
   all_goals grind
  refine z4a (hs u O) ((u5 h u).2 λi j E L=>?_);have a1:=zla (w1.1 i E) (zpa r0);have a2:=zla (t.1 j L) (zpa s0);have a3:=Int.mul_nonpos_of_nonneg_of_nonpos (zpa (zGa s0 r0)) (show a+b<=0 by omega)
  rw[I] at a2;grind
end
def TR(v w:V):∃ u,u≠V.zero/\V.dot u v=0/\V.dot u w=0:=by
 by_cases hc:V.cross v w=V.zero
 ·by_cases hv:v=V.zero
  ·obtain⟨u,h1,h2⟩:=Rj w;grind [V.dot,V.zero,fM]
  ·obtain⟨u,h1,h2⟩:=Rj v;rw[fM] at h2;refine⟨u,h1,h2,Classical.byContradiction λh3=>hv (wQ hc h2 h3)⟩
 ·exact⟨_,hc,by simp only[V.dot,V.cross];grind,by simp only[V.dot,V.cross];grind⟩
def QJ{α:Type}:∀ {L:List α} {z:α},z∈L->L.length<4->∃ a∈L,∃ b∈L,∃ c∈L,∀ p∈L,p=a\/p=b\/p=c
 | [a],_,_,_=>⟨a,j3,a,j3,a,j3,λp hp=>by simpa using hp⟩
 | [a,b],_,_,_=>⟨a,j3,b,j3,b,j3,λp hp=>by simpa using hp⟩
 | [a,b,c],_,_,_=>⟨a,j3,b,j3,c,j3,λp hp=>by simpa using hp⟩
 | _::_::_::_::_,_,_,h=>by simp only[zQa] at h;omega
section
variable(h:PairOk x y q r l m)(hl:Hul l)(hm:Hul m)(hF:Fac l F E)(hG:Fac m G E')(hs:∀ u,u≠V.zero->kG u x y q r l m<0)
include h hl hm hF hG
def Af{M:V}{K:Int}(hK:0<K)(c:PI (km x q F++km y r G) M K)(u:V):∃ p∈lc x y q r l m F G E E',∃ M' K',PtK p M' K'/\K'*V.dot u M<=K*V.dot u M':=by
 obtain⟨M1,K1,f,i1,hu,c1,n1,c2,n2,j,i,t1,t2,t3,g⟩:=aaj (FY (m:=m) (G:=G) h hl hF) hK c u;obtain⟨p,hp,M',K',b,e⟩:=O1 h hl hm hF hG f i1 n1 n2 i t1 t2 t3 g;refine⟨p,hp,M',K',b,?_⟩;have d:=zna (V.dot u) e;rw[fC,fC] at d;refine Int.le_of_mul_le_mul_left (a:=K1) ?_ f;have:=zla hu (zpa b.pos);rw[show K1*(K*V.dot u M')=K*(K1*V.dot u M') by grind,d]
 grind
include hs
def Ta(n:Nat):∃ (p:WV) (K:Int) (a b:Nat),cA (n+1038) 425 [cL x q,cl l,cL y r,cl m]=some (.tup [a8 p,.bool true])/\MeanB p K a b/\eI x q F p=1/\eI y r G p=1:=by
 obtain⟨M0,K0,j,st⟩:=inner h hF hG hs;have i0:PI (km x q F++km y r G) M0 K0:=λc hc=>zpa (st c hc);have d:∀ n w:V,V.dot n.neg w=-V.dot n w:=jM;have low:∀ n,(∀ c:V×Int,c.1=n->c∈km x q F++km y r G->∃ p∈lc x y q r l m F G E E',∃ M' K',PtK p M' K'/\V.dot n M'<c.2*K'):=λn c e hc=>by obtain⟨p,hp,M',K',g,i⟩:=Af h hl hm hF hG j i0 n.neg;refine⟨p,hp,M',K',g,?_⟩;have s:=st c hc;rw[e] at s;rw[d,d,zKb,zKb] at i;refine Int.lt_of_mul_lt_mul_left (a:=K0) ?_ (zpa j);have:=zyb s g.pos;rw[show K0*(c.2*K')=K'*(c.2*K0) by grind];omega
 refine Tb n h hF hG ?_ (λf hf=>?_) (λf hf=>?_)
 ·apply zMc.1;intro S;obtain⟨p0,C,_⟩:=Af h hl hm hF hG j i0 V.zero;obtain⟨a,T,b,W,c,hc,all⟩:=QJ C S;obtain⟨_,Ma,Ka,pa,_⟩:=CQ h hF hG T;obtain⟨_,Mb,Kb,pb,_⟩:=CQ h hF hG W;obtain⟨_,Mc,Kc,J,_⟩:=CQ h hF hG hc;obtain⟨u,O,Y,Z⟩:=TR (V.sub (V.smul Ka Mb) (V.smul Kb Ma)) (V.sub (V.smul Ka Mc) (V.smul Kc Ma));have R:∀ (A B:V) (s t:Int),V.dot u (V.sub (V.smul s A) (V.smul t B))=s*V.dot u A-t*V.dot u B:=λA B s t=>by simp only[V.dot,V.sub,V.smul];grind
  rw[R] at Y Z;have ka:=pa.pos;have kb:=pb.pos;have kc:=J.pos;have flat:∀ {p M K},p∈lc x y q r l m F G E E'->PtK p M K->Ka*V.dot u M=K*V.dot u Ma:=λ{p M K} hp hk=>by
   have via:∀ {Mz:V} {Kz:Int},PtK p Mz Kz->Ka*V.dot u Mz=Kz*V.dot u Ma->Ka*V.dot u M=K*V.dot u Ma:=λ{Mz Kz} o e=>by
    have D:=zna (V.dot u) (hk.uniq o);rw[fC,fC] at D;have:=o.pos;refine Int.eq_of_mul_eq_mul_left (show Kz≠0 by omega) ?_
    rw[show Kz*(Ka*V.dot u M)=Ka*(Kz*V.dot u M) by grind,D,show Ka*(K*V.dot u Mz)=K*(Ka*V.dot u Mz) by grind,e];grind
   rcases all p hp with rfl|rfl|rfl
   ·exact via pa rfl
   ·exact via pb j1
   ·exact via J j1
  obtain⟨z,o,α,β,a0,P,_,i1,_,v⟩:=Gh (FY (m:=m) (G:=G) h hl hF) j i0 O;have sz:=st z o;have Q:0<β:=by
   rcases z7a P with k|k
   ·exact k
   ·have:=v k.symm;omega
  have X:=zGa a0 j;obtain⟨H,h1,M1,K1,L,v1⟩:=Af h hl hm hF hG X i1 u;obtain⟨I,h2,M2,K2,N,v2⟩:=Af h hl hm hF hG j i0 u.neg;have f1:=flat h1 L;have f2:=flat h2 N;rw[kC] at v1;rw[d,d,zKb,zKb] at v2;have uu:=zGa ka (zGa Q (aW O));have H:=L.pos;have I:=N.pos;generalize V.dot u M0=X0 at *;generalize V.dot u M1=X1 at *;generalize V.dot u M2=X2 at *;generalize V.dot u Ma=A at *;generalize V.dot u u=U at *;have g1:Ka*(α*X0+β*U)<=α*K0*A:=by refine Int.le_of_mul_le_mul_left (a:=K1) ?_ H;have:=zla v1 (zpa ka);rw[show K1*(α*K0*A)=α*K0*(K1*A) by grind,<-f1];grind
  have g2:K0*A<=Ka*X0:=by
   refine Int.le_of_mul_le_mul_left (a:=K2) ?_ I;have:=zla (show K0*X2<=K2*X0 by omega) (zpa ka)
   rw[show K2*(K0*A)=K0*(K2*A) by grind,<-f2];grind
  have g3:=zla g2 (zpa a0);have g5:Ka*(α*X0+β*U)=α*(Ka*X0)+Ka*(β*U):=x6
  rw[show α*K0*A=α*(K0*A) by grind] at g1
  omega
 ·obtain⟨p,hp,M',K',g,i⟩:=low _ _ rfl (List.mem_append_left _ (zSa.2 ⟨f,hf,rfl⟩));refine⟨p,hp,M',K',g,?_⟩;rw[uR];simp only at i;rw[Int.add_mul,zMa (V.dot _ x)] at i;omega
 ·obtain⟨p,hp,M',K',g,i⟩:=low _ _ rfl (zPa _ (zSa.2 ⟨f,hf,rfl⟩));refine⟨p,hp,M',K',g,?_⟩;rw[uR];simp only at i;rw[Int.add_mul,zMa (V.dot _ y)] at i;omega
end
end
def IU{x y u:V}{q r:Nat->Int}{l m:List V}(hu:bd NB u)(c:u≠V.zero)(d:¬ kG u x y q r l m<0):GM u (some (NY u x y q r l m)) x y q r l m=true:=by
 have s1:eV 2305843009213693952 u=true:=by simp only[bd,NB] at hu;simp[eV,pd,zkc,aJ];omega
 unfold GM;rw[s1,zca c,Pr,kA];have m0:=Rat.not_lt.1 d;have h2:=Jp;have t0:(0:Rat)<=Rat.divInt 1 2:=by decide +kernel
 unfold NY kG at *;generalize Rat.divInt 1 2=t at *;generalize da u.neg y r m=A at *;generalize da u x q l=B at *;have k:=Rat.mul_nonneg m0 t0;have a:¬ B+(-A+-B)*t<B:=Rat.not_lt.2 x6
 have b:¬ -A<B+(-A+-B)*t:=Rat.not_lt.2 (by
  have:(-A+-B)*t+(-A+-B)*t=-A+-B:=by rw[<-Rat.mul_add,h2,Rat.mul_one]
  grind)
 rw[zca a,zia b];split<;>rfl
def TS{x:Int}{b L:Nat}(h:x.natAbs<=2^b)(a:b<=322)(hL:L=21):x.natAbs<65536^L:=
 zNa h (by rw[show(65536:Nat)=2^16 from rfl,<-Nat.pow_mul];exact Nat.pow_lt_pow_right j2 j1)
def Re{call:Nat->List D->Option D}(n:Nat)(x y:V)(q r:Nat->Int)(l m:List V)
  (hc:∀ f xs,f≠415->call f xs=cA (n+1040) f xs) (i:call 415 []=some (.bool true)):MN aU call (cL x q) (cl l) (cL y r) (cl m)=some (.bool true):=by
 delta MN qG qB qC qT qN qZ iL iR Jn
 obtain⟨v,h1,W⟩:=ZJ (n+1029) x y q r l m;refine aa ((hc 414 _ j2).trans h1) (aa aV (aa ac ?_))
 cases v with
 | false=>exact dT (aa i rfl)
 | true=>
 obtain⟨hp,hul,j⟩:=W rfl;obtain⟨F,E,hF⟩:=Pf hp.la hul.len hul.srt;obtain⟨G,E',hG⟩:=Pf hp.lb j.len j.srt;have c:=ZK (n+6) hp hF hG;refine jD ?_;cases hS:(fX x y q r l m (xS q r l m F G E E')).2 with
 | some t=>
  rw[hS] at c;obtain⟨t1,t2,t3,_⟩:=(Ga _).2 t hS;have ht:=F5 hp hF hG _ t1;obtain⟨d',b,o,kb,kn⟩:=Pn (n+2) hp hF hG;have O:b=false:=by
   cases b with
   | false=>rfl
   | true=> obtain⟨p,K,a,b,_,C,i1,i2⟩:=kb rfl;exact(J2 hp hul j hF hG t2 t3 C i1 i2).elim
  subst O;obtain⟨rfl,_⟩:=kn rfl;have X:=IU ht t2 t3;have N:OW (some (NY t.1 x y q r l m)):=bS ((QK hp ht).InR j2 j2)
  have w:=ZM (n+6) (u:=t.1) N hp;have A:=ZN (n+1031) (u:=t.1) N hp;rw[X] at w A;refine aa ((hc 416 _ j2).trans c) (j0 (Fj t.1 (some (NY t.1 x y q r l m))) (j0 (.bool true) (aa ((hc 425 _ j2).trans o) (j0 Vh (j0 (.bool false) (j0 false (jD (j0 true (dT ?_)))))))))
  exact aa i (aa ac (aa (z:=true) (dT (aa ((hc 421 _ j2).trans w) ac)) (aa ac (aa (z:=true) (dT (aa ((hc 422 _ j2).trans A) ac)) (aa ac (aa (z:=true) (dT rfl) rfl))))))
 | none=>
  rw[hS] at c;obtain⟨p,K,a,b,o,hm,i1,i2⟩:=Ta hp hul j hF hG (λu Y=>Classical.byContradiction λhn=>by have:=Rt hp hul j hF hG Y hn;rw[hS] at this;cases this) (n+2)
  obtain⟨M,S,P⟩:=JN hm (wg i1).1;have Z:=hm.pos;have la:=hm.la;have lb:=hm.lb;obtain⟨L,hL⟩:∃ L,L=21:=⟨_,rfl⟩;have bits:∀ (x:Int) (b:Nat),b<=322->x.natAbs<=2^b->∃ z:Int,call 426 [af x]=some (I z)/\¬ z>400:=λx b T hx=>by
   have H:=TS hx T hL;obtain⟨z,e,U⟩:=ZO (n+1037) (a:=some x) (aY (fj j1 hx))
   have:=U x L rfl H;exact⟨z,(hc 426 _ j2).trans e,j1⟩
  have d:=S9 (n+1029) hp.pa hF.fb hF.h19 hm.ow;have h:=S9 (n+1029) hp.pb hG.fb hG.h19 hm.ow;rw[i1] at d;rw[i2] at h;refine aa ((hc 416 _ j2).trans c) (j0 HO (j0 (.bool false) (aa ((hc 425 _ j2).trans o) (j0 (a8 p) (j0 (.bool true) (j0 false (jD (j0 false (jD ?_)))))))))
  refine bR (λk s=>s=[I (k:Int)]) 3 0 (zqa _) rfl (λk hk s B=>?_) (λs B=>?_)
  ·subst B;left;have J:=S k hk;obtain⟨v,ev⟩:∃ v,v=Rat.divInt (aJ M k) K:=⟨_,rfl⟩;obtain⟨s1,s2⟩:=dU (P k) hm.le j1
   rw[<-ev] at J s1 s2;have g:D.get (a8 p) [k,0]=some (af v.num)/\D.get (a8 p) [k,1]=some (af v.den):=by
    have:k=0\/k=1\/k=2:=j1
    rcases this with rfl|rfl|rfl<;>unfold a8<;>rw[J]<;>exact⟨rfl,rfl⟩
   obtain⟨z1,Q,n1⟩:=bits v.num b lb s1;obtain⟨z2,R,n2⟩:=bits v.den a j1 (by rw[zsa];exact s2)
   exact⟨_,aa am (aa ac (aK (by show(k:Int)<3;omega) (aa (z:=k) (aq hk) (aa g.1 (aa Q (aa cK (aa ac (aa (z:=false) (aO n1 (aa (z:=k) (aq hk) (aa g.2 (aa R (aa cK (by rw[ac,zca n2])))))) (aa ac (jD (aa (aH (a:=k) (b:=1) j1) rfl))))))))))),rfl⟩
  ·subst B;refine⟨_,aa am (aa ac (aO j2 rfl)),Jt ?_⟩
   exact aa i (aa ac (aa (z:=true) (dT (aa ((hc 424 _ j2).trans d) rfl)) (aa ac (aa (z:=true) (dT (aa ((hc 424 _ j2).trans h) rfl)) (aa ac (aa (z:=true) (dT rfl) rfl))))))
def ctr410{d0 d1 d2 d3:D}(h0:wt cS d0)(h1:wt K3 d1)(h2:wt cS d2)(h3:wt K3 d3):P4 Tryz.prog [cS,K3,cS,K3] .bool 5 [d0,d1,d2,d3] (.bool true):=by
 have hw:fY [cS,K3,cS,K3] [d0,d1,d2,d3]:=⟨_,_,rfl,h0,_,_,rfl,h1,_,_,rfl,h2,_,_,rfl,h3,rfl⟩;obtain⟨x,q,rfl⟩:=Ld h0;obtain⟨l,rfl⟩:=PY h1;obtain⟨y,r,rfl⟩:=Ld h2;obtain⟨m,rfl⟩:=PY h3;have key:=Sx wA (BC (0+1040)) (IR _) [cS,K3,cS,K3] .bool [cL x q,cl l,cL y r,cl m] (.bool true) u3 (Re 0 x y q r l m (λf xs hf=>by unfold BC;rw[zia hf]) (by unfold BC;rw[zja rfl];exact Eu)) hw
 rw[show kD (cO 410)=0 by kernel_rfl] at key
 exact key.1
end Sy
end
noncomputable section
set_option maxHeartbeats 1000000
open Go Go.ChangeShapes Go.WideShapes Go.ChangeAt Go.RowKit
def aah:ownKnob Tryz.prog.godebug=none:=u3
def JG:laidOutB Tryz.prog=true:=u3
def RG:Tryz.prog.underlying 4=some .bool:=u3
def FX:Tryz.f5.params=#[27,30,27,30]:=u3
def TH:Sy.Cl Tryz.prog [Sy.cS,Sy.K3,Sy.cS,Sy.K3] [27,30,27,30]=true:=u3
def TX:List.all [27,30,27,30] (λt=>Tryz.prog.readableRec t&&decide (t<Tryz.prog.types.size))=true:=u3
def HK{l:Array TypeId}(h:l.toList.all (λt=>!(Tryz.prog.wantsStandIn t))=true){j:Nat}{t:TypeId}(ht:l[j]?=some t):Tryz.prog.wantsStandIn t=false:=by
 have:=zDa.1 h t (by have:=zlb (l:=l.toList) (i:=j) (a:=t) (by simpa using ht);exact this)
 simpa using this
def shape{α:Type}{l:List α}(h:l.length=4):∃ d0 d1 d2 d3,l=[d0,d1,d2,d3]:=by
 match l,h with
 | [d0,d1,d2,d3],_=>exact⟨d0,d1,d2,d3,rfl⟩
def yF(os:Os):World:=
 let w0:=World.holding Tryz.prog os ⟨#[],#[],[]⟩
 { w0 with heap:=w0.heap.modify 0 λ
   | .cells _ t frozen=>.cells #[.int .u8 0,.int .u8 1,.int .u8 28,.int .u8 2,.int .u8 29,.int .u8 14,.int .u8 24,.int .u8 3,.int .u8 30,.int .u8 22,.int .u8 20,.int .u8 15,.int .u8 25,.int .u8 17,.int .u8 4,.int .u8 8,.int .u8 31,.int .u8 27,.int .u8 13,.int .u8 23,.int .u8 21,.int .u8 19,.int .u8 16,.int .u8 7,.int .u8 26,.int .u8 12,.int .u8 18,.int .u8 6,.int .u8 11,.int .u8 5,.int .u8 10,.int .u8 9] t frozen
   | o=>o }
def xN(os:Os)(args:Array Value):laidMet Tryz.prog Rows.planeOrPointRow.laid ((yF os).forCall (λ_ _=>0) ⟨#[],args,[]⟩).memory:=
 laidMet_of_run' 8 u3 u3
set_option maxRecDepth 100000 in
theorem planeOrPoint_lifted(os:Os)(started:os.Started)(H:Type)(enc:TypeId×Value->H) :
  ReturnsInHanded {} Tryz.checked os 5 .any (λw args=>(Rows.planeOrPointSpec.pre enc Tryz.prog Tryz.f5 Rows.planeOrPointRow.domain false w args/\laidMet Tryz.prog Rows.planeOrPointRow.laid w)/\sizedMet enc Tryz.prog Tryz.f5 (OpenSpec.ofChange Rows.planeOrPointSpec) false w args) (Rows.planeOrPointSpec.post enc Tryz.prog Tryz.f5 false true false false):=by
 refine returnsInHanded_of_change_and (C:=Tryz.checked) (X:=λw _=>laidMet Tryz.prog Rows.planeOrPointRow.laid w) (λ_ _ _ D h=>h.of_heap D) aah started u3 (show Tryz.prog.funcs[5]?=some Tryz.f5 by kernel_rfl)
  (ChangeSpec.witness_at (enc:=enc) (C:=Tryz.checked) (os:=os) (X:=λw _=>laidMet Tryz.prog Rows.planeOrPointRow.laid w) false (yF os) #[.agg #[.int .i64 0,.int .i64 0,.int .i64 0,.int .i64 0,.int .i64 0,.int .i64 0,.int .i64 0],.agg #[.slice none 0 0],.agg #[.int .i64 0,.int .i64 0,.int .i64 0,.int .i64 0,.int .i64 0,.int .i64 0,.int .i64 0],.agg #[.slice none 0 0]] 8 rfl u3 u3 u3 u3 u3 (xN os _)) ?_
 intro W base args u gs before a o s _ _ _;have c:∀ (j:Nat) t v,Tryz.f5.params[j]?=some t->args[j]?=some v->Value.okWide Tryz.prog W .any base t v:=a;have f:=o;obtain⟨p,q,d,y,rfl,B,E⟩:=o;have g:DataW.TrodAll enc Tryz.prog W 0 (λ_=>true) true Tryz.f5.params.toList args.toList u p:=d;rw[FX] at g c;obtain⟨rfl,rfl⟩:=trodVars_none y;clear d a;obtain⟨xs,hx,J,hlen,z⟩:=Sy.Nx TH g (λj t v h1 h2=>c j t v (by simpa using h1) (by simpa using h2))
 have n:=hx;obtain⟨M,r0,rfl,w0,N,r1,rfl,w1,O,K,rfl,G,Q,L,rfl,I,hn⟩:=n;have l:_=[]:=hn;subst l;have b:=Sy.ctr410 w0 w1 G I  W (Sy.rU W) args.toList (λ_ _ h=>Sy.valid_lt h) hx hlen z;rw[zpc] at b;obtain⟨d0,d1,d2,d3,rfl⟩:=shape (Sy.QL g);refine Go.Calls.mono b λe W' he=>?_;obtain⟨v,rfl,⟨os',dr,A,rfl⟩,_,F⟩:=he;have m:v=.bool true:=Sy.bool_of F;subst m;have r:Below W.heap.size W (grown W os' dr):=⟨rfl,rfl,rfl,by simp[grown],λk hk=>dm W os' dr hk⟩
 have i:∀ x∈p,x.block<W.heap.size:=λx hx=>by simpa using f.lt x (by simpa using hx)
 exact⟨_,rfl,_,_,_,[],p,[],f,trodAll_mk1 ((Go.RowKit.shut_bool (P:=Tryz.prog) RG true)),Sy.GC JG TX g r i,rfl,r.frame _,λh=>by cases h⟩
theorem planeOrPoint_row:Rows.PlaneOrPointSaid:=
 OpenClaim.holds_of_wide 5 Tryz.f5 rfl rfl rfl rfl rfl rfl rfl ⟨rfl,rfl,rfl,rfl,rfl⟩ rfl rfl rfl rfl rfl u3 (show Tryz.prog.funcs[5]?=some Tryz.f5 by kernel_rfl) u3
  (of_decide_eq_true u3) (by unfold Func.isWrapper;first|(rw[zja (by decide +kernel)];kernel_rfl)|(rw[zia (by decide +kernel)];exact⟨rfl,rfl⟩))
  (λos started H enc _=>planeOrPoint_lifted os started H enc)
theorem planeOrPoint_holds:Rows.PlaneOrPointCardSaid:=
 Claim7.holds_tied_plain_at .later [] [.data] true (true, "af7a03bd2c7ac196ce4e3bd4e884afe91d5d9462e962db29bbf1e0f2b31f9681") false
  planeOrPoint_row (λ_ h=>by cases h) u3 (λ_ h=>by cases h) planeOrPoint_row_tie rfl ⟨rfl,rfl⟩ u3 rfl
  (λf fn hf hfn=>by
   obtain rfl:f=5:=zDd ((show Tryz.prog.funcNamed Rows.planeOrPointRow.func=some 5 by kernel_rfl).symm.trans hf) |>.symm
   obtain rfl:fn=Tryz.f5:=(zDd ((show Tryz.prog.funcs[5]?=some Tryz.f5 by kernel_rfl).symm.trans hfn)).symm
   exact⟨u3,λj t ht=>HK (by rw[FX];kernel_rfl) ht⟩)
  u3
end
end Go.Proofs.YtphlmegkommlnaaGreatDoor
