/- Part 13 of the proof that For every valid body with few parts -/
import Derived.Test.YtpahompifldeeaaGreatQuads11
import Derived.Test.YtpahompifldeeaaGreatQuads12
set_option linter.unusedVariables false
set_option linter.unusedSimpArgs false
set_option linter.unnecessarySimpa false
set_option linter.defProp false
set_option maxRecDepth 20000
namespace Go.Proofs.YtpahompifldeeaaGreat
noncomputable section
namespace Geo
open V
section
variable{P:Nat->V}{N:Nat}
def sr(l:List Nat):List (Nat×Nat):=(List.range l.length).map λk=>(l.getD k 0,l.getD ((k+1)%l.length) 0)
def pT{l:List Nat}{a b:Nat}:(a,b)∈sr l↔∃ i,i<l.length/\l.getD i 0=a/\l.getD ((i+1)%l.length) 0=b:=by
 simp only[sr,z5a,zJa,Prod.mk.injEq]
def yg{l:List Nat}(h:l.Nodup):(sr l).Nodup:=by
 unfold sr List.Nodup;rw[zqd];refine zWc ?_ (List.nodup_range (n:=l.length));intro i j hi hj hne e;have hi:=zJa.1 hi;have hj:=zJa.1 hj;have e1:=congrArg Prod.fst e;simp only[List.getD,zca hi,zca hj,zBb] at e1;rcases Nat.lt_or_gt_of_ne hne with c|c
 ·exact zrb.1 h i j hi hj c e1
 ·exact zrb.1 h j i hj hi c e1.symm
def jP(L:List (V×Int))(poly:V×Int->List Nat):List (Nat×Nat):=L.flatMap λq=>sr (poly q)
section
variable(hl:∀ i j,i<j->j<N->aF (P i) (P j)){L:List (V×Int)}(hL:Facets P N L){poly:V×Int->List Nat}(hp:∀ q∈L,bE P N q.1 q.2 (poly q))
include hl hL hp
def AJ{q:V×Int}(hq:q∈L):(poly q).Nodup:=by
 obtain⟨l,p1,p2,_⟩:=((hL.mem q).1 hq).poly hl;have:=bE.eq hl ((hL.mem q).1 hq) (hp q hq) p1;rw[this];exact p2
def nR{a b:Nat}:(a,b)∈jP L poly↔∃ n d,IsF P N n d/\Mg P N n d a b:=by
 simp only[jP,zJb,pT];constructor
 ·rintro⟨q,hq,hi⟩;exact⟨q.1,q.2,(hL.mem q).1 hq,(bE.dir hl ((hL.mem q).1 hq) (hp q hq)).1 hi⟩
 ·rintro⟨n,d,hF,hd⟩;have hq:=(hL.mem (n,d)).2 hF;exact⟨(n,d),hq,(bE.dir hl hF (hp _ hq)).2 hd⟩
def rU:(jP L poly).Nodup:=by
 unfold jP List.Nodup;rw[List.pairwise_flatMap];refine⟨λq hq=>yg (AJ hl hL hp hq),?_⟩;refine zWc ?_ hL.ord;intro q q' hq hq' hlt x hx y hy e;subst e;obtain⟨a,b⟩:=x;have F:=(hL.mem q).1 hq;have F':=(hL.mem q').1 hq';obtain⟨d1,d2⟩:=(bE.dir hl F (hp q hq)).1 (pT.1 hx);obtain⟨d1',d2'⟩:=(bE.dir hl F' (hp q' hq')).1 (pT.1 hy);have:=EL hl F F' d1 d1' d2 d2';rw[this] at hlt;exact mC _ hlt
omit hp in
def Ds{q:V×Int}(hq:q∈L){l:List Nat}(k:bE P N q.1 q.2 l):(∀ x∈br P N q.1 q.2,l.getD 0 0<=x)/\l.getD 0 0∈br P N q.1 q.2/\ln P (br P N q.1 q.2) (l.getD 0 0)/\(∃ x∈br P N q.1 q.2,x≠l.getD 0 0):=by
 obtain⟨a,h1,h2⟩:=k;obtain⟨b,g1,g2,g3,g4,g5⟩:=((hL.mem q).1 hq).head hl;rw[h1] at g1;cases g1;obtain⟨l',e⟩:=h2.head;have e0:l.getD 0 0=a:=by rw[e];rfl
 rw[e0];exact⟨g4,g2,g3,g5 a g2⟩
end
end
end Geo
end
noncomputable section
namespace Geo
open V
abbrev T3:=V×V×V
def pE(P:Nat->V)(p:List Nat)(m:Nat):List T3:=(List.range m).map λi=>(P (p.getD 0 0),P (p.getD (i+1) 0),P (p.getD (i+2) 0))
def aB(g:T3->Int):List T3->Int
 | []=>0
 | t::T=>g t+aB g T
def q9(g:T3->Int)(S T:List T3):aB g (S++T)=aB g S+aB g T:=by
 induction S with
 | nil=>simp[aB]
 | cons t S ih=>simp only[zdb,aB,ih];omega
def oV(g:T3->Int)(S:List T3)(t:T3):aB g (S++[t])=aB g S+g t:=by
 rw[q9];simp[aB]
def uW(P:Nat->V)(p:List Nat)(m:Nat):pE P p (m+1)=pE P p m++[(P (p.getD 0 0),P (p.getD (m+1) 0),P (p.getD (m+2) 0))]:=by
 unfold pE;rw[zGb,zPb];rfl
def jc(t:T3):Int:=V.dot (V.cross t.1 t.2.1) t.2.2
def cT(P:Nat->V)(L:List (V×Int))(poly:V×Int->List Nat):List T3:=L.flatMap λq=>pE P (poly q) ((poly q).length-2)
def ja(f g:T3->Int)(T:List T3):aB (λt=>f t+g t) T=aB f T+aB g T:=by
 induction T with
 | nil=>simp[aB]
 | cons t T ih=>simp only[aB,ih];omega
def oU(k:Int)(f:T3->Int)(T:List T3):aB (λt=>k*f t) T=k*aB f T:=by
 induction T with
 | nil=>simp[aB]
 | cons t T ih=>simp only[aB,ih,Int.mul_add]
def nH{f g:T3->Int}{T:List T3}(h:∀ t∈T,f t=g t):aB f T=aB g T:=by
 induction T with
 | nil=>rfl
 | cons t T ih=>simp only[aB,h t zka,ih λx hx=>h x (zha _ hx)]
def Cm{f:T3->Int}{T:List T3}(h:∀ t∈T,0<=f t):0<=aB f T:=by
 induction T with
 | nil=>simp[aB]
 | cons t T ih=>
  have:=h t zka;have:=ih λx hx=>h x (zha _ hx);simp only[aB];omega
def zF{f:T3->Int}{T:List T3}(h:∀ t∈T,0<=f t){t:T3}(ht:t∈T)(hp:0<f t):0<aB f T:=by
 induction T with
 | nil=>cases ht
 | cons a T ih=>
  have h1:=h a zka;have h2:=λx hx=>h x (zha _ hx);simp only[aB];rcases zCa.1 ht with rfl|ht
  ·have:=Cm h2;omega
  ·have:=ih h2 ht;omega
def mn(f:T3->Int)(h:T3->T3)(T:List T3):aB f (T.map h)=aB (λt=>f (h t)) T:=by
 induction T with
 | nil=>rfl
 | cons t T ih=>simp only[z6a,aB,ih]
def gU(g:Nat×Nat->Int):List (Nat×Nat)->Int
 | []=>0
 | e::S=>g e+gU g S
def ml(g:Nat×Nat->Int)(S S':List (Nat×Nat)):gU g (S++S')=gU g S+gU g S':=by
 induction S with
 | nil=>simp[gU]
 | cons t S ih=>simp only[zdb,gU,ih];omega
def DP(g:Nat×Nat->Int){S S':List (Nat×Nat)}(h:S.Perm S'):gU g S=gU g S':=by
 induction h with
 | nil=>rfl
 | cons x _ ih=>simp only[gU,ih]
 | swap x y l=>simp only[gU];omega
 | trans _ _ h1 h2=>exact h1.trans h2
def Ga(g:Nat×Nat->Int)(h:Nat×Nat->Nat×Nat)(S:List (Nat×Nat)):gU g (S.map h)=gU (λe=>g (h e)) S:=by
 induction S with
 | nil=>rfl
 | cons t T ih=>simp only[z6a,gU,ih]
def Gb(g:Nat×Nat->Int)(S:List (Nat×Nat)):gU (λe=>- g e) S=- gU g S:=by
 induction S with
 | nil=>rfl
 | cons t T ih=>simp only[gU,ih];omega
def A7{f g:Nat×Nat->Int}{S:List (Nat×Nat)}(h:∀ e∈S,f e=g e):gU f S=gU g S:=by
 induction S with
 | nil=>rfl
 | cons t T ih=>simp only[gU,h t zka,ih λx hx=>h x (zha _ hx)]
def NC(e:Nat×Nat):Nat×Nat:=(e.2,e.1)
def zD{g:Nat×Nat->Int}(hg:∀ a b,g (b,a)=- g (a,b)){S:List (Nat×Nat)}(hn:S.Nodup)(hs:∀ a b,(a,b)∈S->(b,a)∈S):gU g S=0:=by
 have nd:(S.map NC).Nodup:=by
  unfold List.Nodup;rw[zqd];refine List.Pairwise.imp ?_ hn;intro a b h e;obtain⟨a1,a2⟩:=a;obtain⟨b1,b2⟩:=b;simp only[NC,Prod.mk.injEq] at e;exact h (by rw[e.1,e.2])
 have hp:(S.map NC).Perm S:=(List.perm_ext_iff_of_nodup nd hn).2 λe=>by
  obtain⟨a,b⟩:=e;rw[z5a];constructor
  ·rintro⟨⟨c,d⟩,h1,h2⟩;simp only[NC,Prod.mk.injEq] at h2;rw[<-h2.1,<-h2.2];exact hs _ _ h1
  ·exact λh=>⟨(b,a),hs _ _ h,rfl⟩
 have e1:=DP g hp;rw[Ga,A7 (f:=λe=>g (NC e)) (g:=λe=>- g e) (λe _=>hg e.1 e.2),Gb] at e1;omega
def FU(g:V->V->Int)(t:T3):Int:=g t.1 t.2.1+g t.2.1 t.2.2+g t.2.2 t.1
def ES{g:V->V->Int}(hg:∀ u v,g v u=- g u v)(P:Nat->V)(p:List Nat)(m:Nat) :
  aB (FU g) (pE P p m)=gU (λe=>g (P e.1) (P e.2)) ((List.range (m+1)).map λi=>(p.getD i 0,p.getD (i+1) 0))+g (P (p.getD (m+1) 0)) (P (p.getD 0 0)):=by
 induction m with
 | zero=>simp[pE,aB,gU];rw[hg (P (p[0]?.getD 0)) (P (p[1]?.getD 0))];omega
 | succ m ih=>
  rw[uW,oV,ih,zGb (n:=m+1),zPb,ml];simp only[z6a,List.map_nil,gU,FU];rw[hg (P (p.getD 0 0)) (P (p.getD (m+1) 0)),show m+1+1=m+2 from rfl];omega
def CS{g:V->V->Int}(hg:∀ u v,g v u=- g u v)(P:Nat->V){p:List Nat}(hp:2<=p.length) :
  aB (FU g) (pE P p (p.length-2))=gU (λe=>g (P e.1) (P e.2)) (sr p):=by
 rw[ES hg];unfold sr;obtain⟨n,hn⟩:∃ n,p.length=n+2:=⟨p.length-2,by omega⟩
 rw[hn,show n+2-2+1=n+1 by omega,zGb (n:=n+1),zPb,ml]
 have e:((List.range (n+1)).map λi=>(p.getD i 0,p.getD (i+1) 0))=(List.range (n+1)).map λk=>(p.getD k 0,p.getD ((k+1)%(n+2)) 0):=zZb λi hi=>by
  have:=zJa.1 hi;rw[zFa (by omega)]
 rw[e];simp only[z6a,List.map_nil,gU];rw[show(n+1+1)%(n+2)=0 from Nat.mod_self _];omega
section
variable{P:Nat->V}{N:Nat}(hl:∀ i j,i<j->j<N->aF (P i) (P j)){L:List (V×Int)}(hL:Facets P N L){poly:V×Int->List Nat}(hp:∀ q∈L,bE P N q.1 q.2 (poly q))
include hl hL hp
def iT{q:V×Int}(hq:q∈L):3<=(poly q).length:=by
 have hF:=(hL.mem q).1 hq;have k:=hp q hq;obtain⟨h1,h2,_⟩:=Ds hl hL hq k;have hpos:0<(poly q).length:=by
  obtain⟨a,_,h⟩:=k;obtain⟨l',e⟩:=h.head;rw[e];simp
 have n0:=k.next hpos
 rcases zna 1 (poly q).length with g1|g1
 ·have n1:=k.next g1
  rw[zFa g1] at n0;rcases zna 2 (poly q).length with g2|g2
  ·exact g2
  ·have e:(poly q).length=2:=by omega
   rw[e] at n1;exact(I3 hl hF h2 n0 n1).elim
 ·have e:(poly q).length=1:=by omega
  rw[e] at n0;exact(n0.ne rfl).elim
def nI{g:V->V->Int}(hg:∀ u v,g v u=- g u v):aB (FU g) (cT P L poly)=0:=by
 have key:∀ M:List (V×Int),(∀ q∈M,q∈L)->aB (FU g) (cT P M poly)=gU (λe=>g (P e.1) (P e.2)) (jP M poly):=by
  intro M
  induction M with
  | nil=>intro _;rfl
  | cons q M ih=>
   intro h;have hq:=h q zka;unfold cT jP at ih ⊢;rw[List.flatMap_cons,List.flatMap_cons,q9,ml,ih λx hx=>h x (zha _ hx),CS hg P (by have:=iT hl hL hp hq;omega)]
 rw[key L λ_ h=>h];refine zD (λa b=>hg _ _) (rU hl hL hp) λa b h=>?_;obtain⟨n,d,hF,hd⟩:=(nR hl hL hp).1 h;obtain⟨n',d',h1,h2,h3,h4⟩:=Af hl hF hd.1 hd.2;exact(nR hl hL hp).2 ⟨n',d',h1,h3,h4⟩
end
end Geo
end
noncomputable section
namespace Geo
open V
def cmp(i:Nat)(v:V):Int:=if i=0 then v.x else if i=1 then v.y else v.z
def sm(i:Nat)(t:T3):Int:=cmp i t.1+cmp i t.2.1+cmp i t.2.2
def pd(i:Nat)(t:T3):Int:=jc t*sm i t
def AN(i k:Nat)(t:T3):Int:=sm i t*sm k t+cmp i t.1*cmp k t.1+cmp i t.2.1*cmp k t.2.1+cmp i t.2.2*cmp k t.2.2
def cF(i k:Nat)(t:T3):Int:=jc t*AN i k t
def shift(d:V)(t:T3):T3:=(V.add t.1 d,V.add t.2.1 d,V.add t.2.2 d)
def gd(d u v:V):Int:=V.dot d (V.cross u v)
def wI(d u v:V):gd d v u=- gd d u v:=by simp only[gd,dot,cross];grind
def BD(i:Nat)(u v:V):cmp i (V.add u v)=cmp i u+cmp i v:=by
 unfold cmp V.add;split
 ·rfl
 ·split<;>rfl
def wu(i:Nat)(d:V)(t:T3):jc t*cmp i d=gd d t.2.1 t.2.2*cmp i t.1+gd d t.2.2 t.1*cmp i t.2.1+gd d t.1 t.2.1*cmp i t.2.2:=by
 obtain⟨a,b,c⟩:=t;unfold cmp jc gd;simp only[dot,cross];split
 ·grind
 ·split<;>grind
def qj(d:V)(t:T3):jc (shift d t)=jc t+FU (gd d) t:=by
 obtain⟨a,b,c⟩:=t;simp only[jc,shift,FU,gd,dot,cross,V.add];grind
def tV(i:Nat)(d:V)(t:T3):sm i (shift d t)=sm i t+3*cmp i d:=by
 unfold sm shift;simp only[BD];omega
def Db(i:Nat)(d:V)(t:T3):pd i (shift d t)=pd i t+4*cmp i d*jc t+FU (λu v=>gd d u v*(cmp i u+cmp i v+3*cmp i d)) t:=by
 have hC:=wu i d t;unfold pd;rw[qj,tV];unfold FU sm;obtain⟨a,b,c⟩:=t;simp only at hC ⊢;generalize jc (a,b,c)=D at *;generalize gd d a b=z at *;generalize gd d b c=x at *;generalize gd d c a=y at *;generalize cmp i a=ai at *;generalize cmp i b=bi at *;generalize cmp i c=ci at *;generalize cmp i d=di at *;grind
def Jj{D x y z ai bi ci ak bk ck di dk:Int}(hi:D*di=x*ai+y*bi+z*ci)(hk:D*dk=x*ak+y*bk+z*ck) :
  (D+(z+x+y))*((ai+bi+ci+3*di)*(ak+bk+ck+3*dk)+(ai+di)*(ak+dk)+(bi+di)*(bk+dk)+(ci+di)*(ck+dk)) =
  D*((ai+bi+ci)*(ak+bk+ck)+ai*ak+bi*bk+ci*ck)+5*di*(D*(ak+bk+ck))+5*dk*(D*(ai+bi+ci))+20*di*dk*D +
  (z*((ai+bi)*(ak+bk)+ai*ak+bi*bk+4*di*(ak+bk)+4*dk*(ai+bi)+12*di*dk)+x*((bi+ci)*(bk+ck)+bi*bk+ci*ck+4*di*(bk+ck)+4*dk*(bi+ci)+12*di*dk)+y*((ci+ai)*(ck+ak)+ci*ck+ai*ak+4*di*(ck+ak)+4*dk*(ci+ai)+12*di*dk)):=by
 have h1:(ak+bk+ck)*(D*di)=(ak+bk+ck)*(x*ai+y*bi+z*ci):=by rw[hi]
 have h2:(ai+bi+ci)*(D*dk)=(ai+bi+ci)*(x*ak+y*bk+z*ck):=by rw[hk]
 have h3:dk*(D*di)=dk*(x*ai+y*bi+z*ci):=by rw[hi]
 have h4:di*(D*dk)=di*(x*ak+y*bk+z*ck):=by rw[hk]
 clear hi hk;grind
def DI(i k:Nat)(d:V)(t:T3):cF i k (shift d t)=cF i k t+5*cmp i d*pd k t+5*cmp k d*pd i t+20*cmp i d*cmp k d*jc t +
  FU (λu v=>gd d u v*((cmp i u+cmp i v)*(cmp k u+cmp k v)+cmp i u*cmp k u+cmp i v*cmp k v+4*cmp i d*(cmp k u+cmp k v)+4*cmp k d*(cmp i u+cmp i v)+12*cmp i d*cmp k d)) t:=by
 have hi:=wu i d t;have hk:=wu k d t;have e:=Jj hi hk;unfold cF pd;rw[qj];unfold FU AN;rw[tV,tV];unfold sm;simp only[shift,BD];exact e
def fJ(P:Nat->V)(d:V)(L:List (V×Int))(poly:V×Int->List Nat):cT (λk=>V.add (P k) d) L poly=(cT P L poly).map (shift d):=by
 unfold cT;rw[List.map_flatMap];congr 1;funext q;unfold pE;rw[List.map_map];rfl
section
variable{P:Nat->V}{N:Nat}(hl:∀ i j,i<j->j<N->aF (P i) (P j)){L:List (V×Int)}(hL:Facets P N L){poly:V×Int->List Nat}(hp:∀ q∈L,bE P N q.1 q.2 (poly q))
include hl hL hp
def wa(d:V):aB jc (cT (λk=>V.add (P k) d) L poly)=aB jc (cT P L poly):=by
 rw[fJ,mn,nH (λt _=>qj d t),ja jc,nI hl hL hp (λu v=>wI d u v)];omega
def Da(i:Nat)(d:V):aB (pd i) (cT (λk=>V.add (P k) d) L poly)=aB (pd i) (cT P L poly)+4*cmp i d*aB jc (cT P L poly):=by
 rw[fJ,mn,nH (λt _=>Db i d t),ja (λt=>pd i t+4*cmp i d*jc t),nI hl hL hp (λu v=>?_),ja (pd i),oU]
 ·omega
 ·rw[wI];grind
def DH(i k:Nat)(d:V):aB (cF i k) (cT (λk=>V.add (P k) d) L poly)=aB (cF i k) (cT P L poly)+5*cmp i d*aB (pd k) (cT P L poly)+5*cmp k d*aB (pd i) (cT P L poly)+20*cmp i d*cmp k d*aB jc (cT P L poly):=by
 rw[fJ,mn,nH (λt _=>DI i k d t),ja (λt=>cF i k t+5*cmp i d*pd k t+5*cmp k d*pd i t+20*cmp i d*cmp k d*jc t),nI hl hL hp (λu v=>?_),ja (λt=>cF i k t+5*cmp i d*pd k t+5*cmp k d*pd i t),ja (λt=>cF i k t+5*cmp i d*pd k t),ja (cF i k),oU,oU,oU]
 ·omega
 ·rw[wI];grind
def rE{q:V×Int}(hq:q∈L){t:T3}(ht:t∈pE P (poly q) ((poly q).length-2))(p:V) :
  ∃ a b:Int,0<a/\0<b/\a*jc (shift (V.neg p) t)=b*(q.2-V.dot q.1 p):=by
 have hF:=(hL.mem q).1 hq;have k:=hp q hq;obtain⟨i,hi,rfl⟩:=z5a.1 ht;have hi:=zJa.1 hi;have h3:=iT hl hL hp hq;obtain⟨l',p1,p2,p3⟩:=hF.poly hl;have e:=bE.eq hl hF k p1;rw[<-e] at p2 p3;have mem:∀ j,j<(poly q).length->(poly q).getD j 0∈br P N q.1 q.2:=λj hj=>by
  have:(poly q).getD j 0∈poly q:=by
   rw[zSa,zca hj];exact zra hj
  exact((p3 _).1 this).1
 have mext:∀ j,j<(poly q).length->ln P (br P N q.1 q.2) ((poly q).getD j 0):=λj hj=>by
  have:(poly q).getD j 0∈poly q:=by
   rw[zSa,zca hj];exact zra hj
  exact((p3 _).1 this).2
 have hne:∀ j,j<(poly q).length->0<j->(poly q).getD j 0≠(poly q).getD 0 0:=λj hj h0 e=>by
  rw[zSa,zSa,zca hj,zca (by omega:0<(poly q).length)] at e
  exact zrb.1 p2 0 j (by omega) hj h0 e.symm
 have hs:=k.next (i:=i+1) (by omega)
 rw[zFa (by omega),show i+1+1=i+2 from rfl] at hs
 have ma:=mem 0 (by omega);have mb:=mem (i+1) (by omega);have mc:=mem (i+2) (by omega)
 have hT:=Side.after (hF.flat hl) ma mb (mext 0 (by omega)) (mext (i+1) (by omega)) (hne _ (by omega) (by omega)) hs (hne _ (by omega) (by omega))
 have da:=(aU.1 ma).2;have db:=(aU.1 mb).2;have dc:=(aU.1 mc).2;generalize (poly q).getD 0 0=a at *;generalize (poly q).getD (i+1) 0=b at *;generalize (poly q).getD (i+2) 0=c at *;have u0:dot q.1 (wy P a b)=0:=by rw[dn,da,db];omega
 have v0:dot q.1 (wy P a c)=0:=by rw[dn,da,dc];omega
 refine⟨dot q.1 q.1,T q.1 (wy P a b) (wy P a c),bw hF.nz.1,hT,?_⟩;have cp:=ik u0 v0;have key:smul (dot q.1 q.1) (cross (wy P a b) (wy P a c))=smul (T q.1 (wy P a b) (wy P a c)) q.1:=by
  have:=GA cp q.1;unfold T;exact this
 have e1:jc (shift (V.neg p) (P a,P b,P c))=dot (cross (wy P a b) (wy P a c)) (V.sub (P a) p):=by
  simp only[jc,shift,wy,dot,cross,V.add,V.neg,V.sub];grind
 rw[e1,<-yn,key,yn,<-da];congr 1;simp only[dot,V.sub];grind
def JD{q0:V×Int}(hq0:q0∈L):0<aB jc (cT P L poly):=by
 have hF:=(hL.mem q0).1 hq0;obtain⟨_,z,hz,hlt⟩:=hF.supp;rw[<-wa hl hL hp (V.neg (P z)),fJ,mn];have hnn:∀ t∈cT P L poly,0<=jc (shift (V.neg (P z)) t):=λt ht=>by
  obtain⟨q,hq,ht⟩:=zJb.1 ht;obtain⟨a,b,ha,hb,e⟩:=rE hl hL hp hq ht (P z);have:=((hL.mem q).1 hq).supp.1 z hz;exact mD ha (by rw[e];exact zwb (zNa hb) (by omega))
 have h3:=iT hl hL hp hq0;have ht:(P ((poly q0).getD 0 0),P ((poly q0).getD 1 0),P ((poly q0).getD 2 0))∈pE P (poly q0) ((poly q0).length-2):=z5a.2 ⟨0,zJa.2 (by omega),rfl⟩
 refine zF hnn (zJb.2 ⟨q0,hq0,ht⟩) ?_;obtain⟨a,b,ha,hb,e⟩:=rE hl hL hp hq0 ht (P z);exact kH ha (by rw[e];exact zDb hb (by omega))
end
end Geo
end
noncomputable section
namespace Sy
open Go Go.Proofs Geo
abbrev Ak(l:List V)(p:List Nat)(m:Nat):List T3:=pE (pt l) p m
def ic(l:List V)(F:FL):List T3:=F.flatMap λf=>Ak l f.2 (f.2.length-2)
def Lv(l:List V)(L:List (V×Int))(poly:V×Int->List Nat):ic l (L.map λq=>(q,poly q))=cT (pt l) L poly:=by
 unfold ic cT;rw[List.flatMap_map]
def sK(l:List V)(p:List Nat)(m:Nat):Ak l p (m+1)=Ak l p m++[(pt l (p.getD 0 0),pt l (p.getD (m+1) 0),pt l (p.getD (m+2) 0))]:=uW ..
def sN(l:List V)(p:List Nat):Ak l p 0=[]:=rfl
def IK(l:List V)(p:List Nat)(m:Nat):(Ak l p m).length=m:=by simp[Ak,pE]
def mK(l:List V){F:FL}{i:Nat}(h:i<F.length):ic l (F.take (i+1))=ic l (F.take i)++Ak l F[i].2 (F[i].2.length-2):=by
 unfold ic;rw[zqa h,List.flatMap_append];simp
structure FIn(l:List V)(F:FL):Prop where
 len:F.length<=2000000
 ok:∀ f∈F,3<=f.2.length/\f.2.length<=100/\∀ j,j<f.2.length->f.2.getD j 0<l.length
def wi(T:List T3)(N:Nat):Prop:=T.length<=N/\∀ t∈T,bd MV t.1/\bd MV t.2.1/\bd MV t.2.2
def kW{l:List V}(hl:∀ x∈l,bd MV x){k:Nat}(h:k<l.length):bd MV (pt l k):=by
 unfold pt;rw[zSa,zca h];exact hl _ (zra h)
def wi.append{S T:List T3}{M N:Nat}(h:wi S M)(k:wi T N):wi (S++T) (M+N):=
 ⟨by rw[zva];have:=h.1;have:=k.1;omega,λt ht=>(zDa.1 ht).elim (h.2 t) (k.2 t)⟩
def wi.mono{T:List T3}{M N:Nat}(h:wi T M)(k:M<=N):wi T N:=⟨zAa h.1 k,h.2⟩
def ER{l:List V}(hl:∀ x∈l,bd MV x){p:List Nat}(hp:∀ j,j<p.length->p.getD j 0<l.length){m:Nat}(hm:m+2<=p.length\/m=0)(hm2:m<=100):wi (Ak l p m) 100:=by
 refine⟨by rw[IK];exact hm2,λt ht=>?_⟩
 obtain⟨i,hi,rfl⟩:=z5a.1 ht;have hi:=zJa.1 hi;exact⟨kW hl (hp _ (by omega)),kW hl (hp _ (by omega)),kW hl (hp _ (by omega))⟩
def Cp{l:List V}(hl:∀ x∈l,bd MV x){F:FL}(h:FIn l F)(i:Nat):wi (ic l (F.take i)) (100*i):=by
 induction i with
 | zero=>exact⟨by simp[ic],λt ht=>by simp[ic] at ht⟩
 | succ i ih=>
  by_cases hi:i<F.length
  ·rw[mK l hi];obtain⟨k1,k2,k3⟩:=h.ok F[i] (zra hi);exact(ih.append (ER hl k3 (by omega) (by omega))).mono (by omega)
  ·rw[zOb (by omega)]
   rw[zOb (by omega)] at ih
   exact ih.mono (by omega)
def xg{l:List V}(hl:∀ x∈l,bd MV x){F:FL}(h:FIn l F){i m:Nat}(hi:i<F.length)(hm:m<=F[i].2.length-2):wi (ic l (F.take i)++Ak l F[i].2 m) 268435456:=by
 obtain⟨k1,k2,k3⟩:=h.ok F[i] (zra hi);have:=h.len;exact((Cp hl h i).append (ER hl k3 (by omega) (by omega))).mono (by omega)
def Ej{l:List V}(hl:∀ x∈l,bd MV x){F:FL}(h:FIn l F):wi (ic l F) 268435456:=by
 have:=Cp hl h F.length;rw[zKa] at this;exact this.mono (by have:=h.len;omega)
def Cl{g:T3->Int}{T:List T3}{N B:Nat}(h:wi T N)(hg:∀ t,bd MV t.1/\bd MV t.2.1/\bd MV t.2.2->(g t).natAbs<=B):(aB g T).natAbs<=N*B:=by
 have key:∀ T:List T3,(∀ t∈T,bd MV t.1/\bd MV t.2.1/\bd MV t.2.2)->(aB g T).natAbs<=T.length*B:=by
  intro T
  induction T with
  | nil=>intro _;simp[aB]
  | cons t T ih=>
   intro h;have h1:=ih λx hx=>h x (zha _ hx);have h2:=hg t (h t zka);have:=zIc (g t) (aB g T);rw[zBa,zYa,zsc];simp only[aB];omega
 exact zAa (key T h.2) (zxa _ h.1)
def qi{t:T3}(h:bd MV t.1/\bd MV t.2.1/\bd MV t.2.2):(jc t).natAbs<=2^57:=by
 have:=Em (eB h.1 h.2.1) h.2.2;unfold jc;have e:(3:Int)*(2*(MV*MV)*MV)=108086391056891904:=rfl;rw[e] at this;have e2:(2:Nat)^57=144115188075855872:=rfl;omega
def ff{x:Int}{k:Nat}(hk:k<=511)(h:x.natAbs<=2^k):In x:=by
 obtain⟨m,hm⟩:∃ m,m=32*16:=⟨_,rfl⟩;exact bq.2 ((tu hm).2 (zGa h (Nat.pow_lt_pow_right (by decide) (by omega))))
def dM{a b:Nat}{i j k:Nat}(ha:a<=2^i)(hb:b<=2^j)(h:i+j<=k):a*b<=2^k:=
 zAa (z2a ha hb) (by rw[<-zab];exact zua (by decide) h)
def kl{T:List T3}(h:wi T 268435456):(aB jc T).natAbs<=2^85:=
 zAa (Cl h λt=>qi) (dM (i:=28) (j:=57) (by decide) (zja _) (by decide))
def bx{a b:Int}{k:Nat}(ha:a.natAbs<=2^k)(hb:b.natAbs<=2^k):(a+b).natAbs<=2^(k+1):=by
 have:=zIc a b;rw[zmb];omega
def bz{a b:Int}{i j k:Nat}(ha:a.natAbs<=2^i)(hb:b.natAbs<=2^j)(h:i+j<=k):(a*b).natAbs<=2^k:=by
 rw[zHa];exact dM ha hb h
def de{a:Int}{i k:Nat}(ha:a.natAbs<=2^i)(h:i<=k):a.natAbs<=2^k:=zAa ha (zua (by decide) h)
def fg{v:V}(h:bd MV v)(i:Nat):(cmp i v).natAbs<=262144:=by
 have e:MV=262144:=rfl;simp only[bd] at h;unfold cmp;split
 ·omega
 ·split<;>omega
def Cj{t:T3}(h:bd MV t.1/\bd MV t.2.1/\bd MV t.2.2)(i:Nat):(sm i t).natAbs<=786432:=by
 have a:=fg h.1 i;have b:=fg h.2.1 i;have c:=fg h.2.2 i;unfold sm;omega
def xj{t:T3}(h:bd MV t.1/\bd MV t.2.1/\bd MV t.2.2)(i k:Nat):(AN i k t).natAbs<=1099511627776:=by
 have key:∀ {a b:Int} {m:Nat},a.natAbs<=m->b.natAbs<=m->(a*b).natAbs<=m*m:=λha hb=>by rw[zHa];exact z2a ha hb
 have q:=key (Cj h i) (Cj h k);have a:=key (fg h.1 i) (fg h.1 k);have b:=key (fg h.2.1 i) (fg h.2.1 k);have c:=key (fg h.2.2 i) (fg h.2.2 k);unfold AN;omega
def A0(i k:Nat){t:T3}(h:bd MV t.1/\bd MV t.2.1/\bd MV t.2.2):(cF i k t).natAbs<=2^97:=
 bz (qi h) (j:=40) (zAa (xj h i k) (by decide)) (by decide)
def fI(i k:Nat){T:List T3}(h:wi T 268435456):(aB (cF i k) T).natAbs<=2^125:=
 zAa (Cl h λt=>A0 i k) (dM (i:=28) (j:=97) (by decide) (zja _) (by decide))
end Sy
end
noncomputable section
namespace Sy
open Go Go.Proofs Geo
def gQ(x:V):List V->List V
 | []=>[x]
 | y::L=>if aF x y\/x=y then x::(y::L).filter (λz=>decide (z≠x)) else y::gQ x L
def dQ(l:List V):List V:=l.foldl (λo x=>gQ x o) []
theorem yK(x:V):∀ L:List V,(gQ x L).length<=L.length+1
 | []=>by simp[gQ]
 | y::L=>by
  have:=yK x L;unfold gQ;split
  ·rw[zBa];have:=zlc (λz=>decide (z≠x)) (y::L);omega
  ·simp only[zBa];omega
theorem tw{x z:V}:∀ {L:List V},z∈gQ x L↔z=x\/z∈L
 | []=>by simp[gQ]
 | y::L=>by
  have ih:=tw (x:=x) (z:=z) (L:=L);unfold gQ;split
  ·simp only[zCa,zpc,decide_eq_true_eq];by_cases h:z=x<;>simp[h]
  ·simp only[zCa,ih];constructor
   ·rintro(h|h|h)
    ·exact .inr (.inl h)
    ·exact .inl h
    ·exact .inr (.inr h)
   ·rintro(h|h|h)
    ·exact .inr (.inl h)
    ·exact .inl h
    ·exact .inr (.inr h)
theorem yL{x:V}:∀ {L:List V},L.Pairwise aF->(gQ x L).Pairwise aF
 | [],_=>by simp[gQ]
 | y::L,h=>by
  obtain⟨h1,h2⟩:=zQa.1 h;unfold gQ;split
  ·rename_i hxy;refine zQa.2 ⟨λz hz=>?_,h.filter _⟩;obtain⟨hz1,hz2⟩:=zpc.1 hz;have hzx:z≠x:=by simpa using hz2
   rcases zCa.1 hz1 with rfl|hz1
   ·rcases hxy with h|h
    ·exact h
    ·exact absurd h.symm hzx
   ·rcases hxy with h|h
    ·exact lN h (h1 z hz1)
    ·rw[h];exact h1 z hz1
  ·rename_i hxy;refine zQa.2 ⟨λz hz=>?_,yL h2⟩;rcases tw.1 hz with rfl|hz
   ·rcases pR (a:=z) (b:=y) (λe=>hxy (.inr e)) with k|k
    ·exact absurd (.inl k) hxy
    ·exact k
   ·exact h1 z hz
def tW(l:List V):(dQ l).Pairwise aF:=by
 unfold dQ;have:∀ (l o:List V),o.Pairwise aF->(l.foldl (λo x=>gQ x o) o).Pairwise aF:=by
  intro l
  induction l with
  | nil=>intro o h;exact h
  | cons x l ih=>intro o h;exact ih _ (yL h)
 exact this l [] .nil
def yU{l:List V}{z:V}:z∈dQ l↔z∈l:=by
 unfold dQ;have:∀ (l o:List V),z∈l.foldl (λo x=>gQ x o) o↔z∈l\/z∈o:=by
  intro l
  induction l with
  | nil=>intro o;simp
  | cons x l ih=>
   intro o;rw[zhc,ih,tw,zCa];constructor
   ·rintro(h|h|h)
    ·exact .inl (.inr h)
    ·exact .inl (.inl h)
    ·exact .inr h
   ·rintro((h|h)|h)
    ·exact .inr (.inl h)
    ·exact .inl h
    ·exact .inr (.inr h)
 rw[this];simp
def oR(l:List V):(dQ l).length<=l.length:=by
 unfold dQ;have:∀ (l o:List V),(l.foldl (λo x=>gQ x o) o).length<=l.length+o.length:=by
  intro l
  induction l with
  | nil=>intro o;simp
  | cons x l ih=>
   intro o;have h1:=ih (gQ x o);have h2:=yK x o;rw[zhc,zBa];omega
 simpa using this l []
def F7{l:List V}(h:l.Pairwise aF):Eh l:=λi j hij hj=>by
 have:=zrb.1 h i j (by omega) hj hij
 simpa [pt,List.getD,hj,show i<l.length by omega] using this
def Jr{l:List V}(h:l.Pairwise aF):dQ l=l:=
 qc (r:=aF) mC ve (tW l) h λx=>yU
def XE(n:Nat)(l:List V)(hlen:l.length<=1000000):cA (n+2) 47 [aS l]=some (aS (dQ l)):=by
 rw[Ya]
 delta N6 qB qC qT qN qX qL qV qW qZ iL iR Jn
 have ll:(l.map af).length=l.length:=zta ..;refine bc (λi s=>s=[aS (dQ (l.take i)),I (i:Int)]) l.length 0 (zia _) rfl (λi hi s hJ=>?_) (λs hJ=>?_)
 ·subst hJ;left;refine⟨[aS (dQ (l.take (i+1))),I ((i+1:Nat):Int)],?_,rfl⟩;have hs:dQ (l.take (i+1))=gQ (l.getD i V.zero) (dQ (l.take i)):=by
   unfold dQ;rw[zqa hi,zrd];simp[List.getD,hi]
  have hol:(dQ (l.take i)).length<=1000000:=zAa (oR _) (by rw[zbb];omega)
  rw[hs];obtain⟨o,ho⟩:∃ o,dQ (l.take i)=o:=⟨_,rfl⟩;obtain⟨x,hx⟩:∃ x,l.getD i V.zero=x:=⟨_,rfl⟩;have hxg:(l.map af)[i]?=some (af x):=by rw[<-hx];exact cN hi
  rw[ho] at hol ⊢;rw[hx];have ol:(o.map af).length=o.length:=zta ..;refine aa (z:=l.map af) rfl (aa ag (aa ae (aH (by show((i:Int)<((l.map af).length:Int));rw[ll];omega) ?_)))
  refine bY (λk s=>∃ (nx:List V) (put:Bool),s=[aS o,aS nx,.bool put,I (k:Int)]/\nx.length<=2*k/\(put=false->gQ x o=nx++gQ x (o.drop k))/\(put=true->gQ x o=nx++(o.drop k).filter (λz=>decide (z≠x)))) o.length 0 (zia _) ⟨[],false,rfl,by simp,by simp,by simp⟩ (λk hk s hJ=>?_) (λs hJ=>?_)
  ·obtain⟨nx,put,rfl,hnl,h1,h2⟩:=hJ;left;have hd:o.drop k=o.getD k V.zero::o.drop (k+1):=by rw[zkb hk];simp[List.getD,hk]
   have hyg:(o.map af)[k]?=some (af (o.getD k V.zero)):=cN hk;obtain⟨y,hy⟩:∃ y,o.getD k V.zero=y:=⟨_,rfl⟩;rw[hy] at hd hyg;rw[hd] at h1 h2;obtain⟨n1,p1,he,q0,q1,q2⟩:∃ (n1:List V) (p1:Bool),(if put=false/\(aF x y\/x=y) then(nx++[x],true) else(nx,put))=(n1,p1)/\n1.length<=2*k+1/\(p1=false->x≠y/\gQ x o=n1++y::gQ x (o.drop (k+1)))/\(p1=true->gQ x o=n1++(y::o.drop (k+1)).filter (λz=>decide (z≠x))):=by
    by_cases hp:put=false/\(aF x y\/x=y)
    ·refine⟨_,_,if_pos hp,by simp;omega,by simp,λ_=>?_⟩
     rw[h1 hp.1,gQ,if_pos hp.2];simp
    ·refine⟨_,_,if_neg hp,by omega,λe=>?_,λe=>h2 e⟩
     have hn:¬ (aF x y\/x=y):=λh=>hp ⟨e,h⟩;refine⟨λh=>hn (.inr h),?_⟩;rw[h1 e,gQ,if_neg hn]
   refine⟨[aS o,aS (if y≠x then n1++[y] else n1),.bool p1,I ((k+1:Nat):Int)],?_,_,p1,rfl,?_,?_,?_⟩
   ·refine aa ag (aa ae (aH (by show((k:Int)<((o.map af).length:Int));rw[ol];omega) ?_))
    have app:∀ (a:List V) (z:V),D.sl ((a.map af)++[af z])=aS (a++[z]):=λa z=>by simp[aS]
    have al:∀ a:List V,(a.map af).length=a.length:=λa=>zta ..;refine aa (z:=(0,[aS o,aS (if y≠x then n1++[y] else n1),.bool p1])) ?_ (aa (aw (ay (i:=k) (by omega))) rfl)
    refine aa (z:=l.map af) rfl (aa (z:=i) (by rw[ll];exact ap hi) (aa hxg (aa (z:=k) (by show D.idx (I (k:Int)) (o.map af).length=_;rw[ol];exact ap hk) (aa hyg (aa (Ku n x y) (aa (z:=(0,[aS o,aS n1,.bool p1])) ?_ ?_))))))
    ·refine aa (z:=.bool (!put)) rfl (aa ae (aa (z:=!put&&decide (aF x y\/x=y)) ?_ (aa ae ?_)))
     ·cases put
      ·rw[show(!false)=true from rfl,if_pos rfl];refine aa ae ?_;by_cases hlt:aF x y
       ·refine aH hlt ?_;rw[decide_eq_true (.inl hlt)];rfl
       ·refine aC hlt ?_;refine aa (z:=l.map af) rfl (aa (z:=i) (by rw[ll];exact ap hi) (aa hxg (aa (z:=k) (by show D.idx (I (k:Int)) (o.map af).length=_;rw[ol];exact ap hk) (aa hyg ?_))))
        rw[gN,ae];simp[hlt]
      ·rfl
     ·by_cases hp:put=false/\(aF x y\/x=y)
      ·rw[if_pos hp] at he;cases he;rw[show(!put&&decide (aF x y\/x=y))=true by rw[hp.1,decide_eq_true hp.2];rfl,if_pos rfl]
       refine aa (z:=l.map af) rfl (aa (z:=i) (by rw[ll];exact ap hi) (aa hxg ?_))
       rw[if_pos (by show(nx.map af).length+1<=1073741824;rw[al];omega)]
       rw[<-app];rfl
      ·rw[if_neg hp] at he;cases he;rw[show(!put&&decide (aF x y\/x=y))=false by
        cases hput:put
        ·have:¬ (aF x y\/x=y):=λh=>hp ⟨hput,h⟩;simp[this]
        ·rfl]
       rfl
    ·refine aa (z:=k) (by show D.idx (I (k:Int)) (o.map af).length=_;rw[ol];exact ap hk) (aa hyg (aa (z:=l.map af) rfl (aa (z:=i) (by rw[ll];exact ap hi) (aa hxg ?_))))
     rw[gN];refine aa ae ?_;by_cases hyx:y=x
     ·rw[decide_eq_true hyx,if_neg (show ¬ (y≠x) from λh=>h hyx)];rfl
     ·rw[decide_eq_false hyx,if_pos (show y≠x from hyx),show(!false)=true from rfl,if_pos rfl];refine aa (z:=k) (by show D.idx (I (k:Int)) (o.map af).length=_;rw[ol];exact ap hk) (aa hyg ?_)
      rw[if_pos (by show(n1.map af).length+1<=1073741824;rw[al];omega)]
      rw[<-app];rfl
   ·split
    ·simp;omega
    ·omega
   ·intro e;obtain⟨r1,r2⟩:=q1 e;rw[if_pos (λh=>r1 h.symm),r2];simp
   ·intro e;rw[q2 e,List.filter_cons];by_cases hyx:y=x
    ·simp[hyx]
    ·simp[hyx]
  ·obtain⟨nx,put,rfl,hnl,h1,h2⟩:=hJ;refine⟨(0,[aS nx,.bool put]),?_,?_⟩
   ·exact aa ag (aa ae (aC (by show ¬ ((o.length:Int)<((o.map af).length:Int));rw[ol];omega) rfl))
   ·have al:∀ a:List V,(a.map af).length=a.length:=λa=>zta ..;rw[zyc] at h1 h2;refine aa (z:=(0,[aS (gQ x o)])) ?_ (aa (aw (ay (i:=i) (by omega))) rfl)
    refine aa (z:=.bool (!put)) rfl (aa ae ?_);cases put
    ·rw[show(!false)=true from rfl,if_pos rfl];refine aa (z:=l.map af) rfl (aa (z:=i) (by rw[ll];exact ap hi) (aa hxg ?_))
     rw[if_pos (by show(nx.map af).length+1<=1073741824;rw[al];omega)]
     rw[h1 rfl];simp[gQ,aS,g0,D.els]
    ·have:=h2 rfl;simp only[List.filter_nil,z4b] at this;rw[this];rfl
 ·subst hJ;rw[zKa];refine⟨(0,[aS (dQ l)]),?_,rfl⟩;exact aa (z:=l.map af) rfl (aa ag (aa ae (aC (by show ¬ ((l.length:Int)<((l.map af).length:Int));rw[ll];omega) rfl)))
structure FOk(l:List V)(F:FL):Prop where
 ord:F.Pairwise (λa b=>aF a.1.1 b.1.1)
 ok:∀ f∈F,IsF (pt l) l.length f.1.1 f.1.2/\bE (pt l) l.length f.1.1 f.1.2 f.2
theorem iP{f x:(V×Int)×List Nat}:∀ {L:FL},x∈gh f L↔x=f\/x∈L
 | []=>by simp[gh]
 | y::L=>by
  have ih:=iP (f:=f) (x:=x) (L:=L);unfold gh;split
  ·simp
  ·simp only[zCa,ih];constructor
   ·rintro(h|h|h)
    ·exact .inr (.inl h)
    ·exact .inl h
    ·exact .inr (.inr h)
   ·rintro(h|h|h)
    ·exact .inr (.inl h)
    ·exact .inl h
    ·exact .inr (.inr h)
theorem yJ{f:(V×Int)×List Nat}:∀ {L:FL},L.Pairwise (λa b=>aF a.1.1 b.1.1)->(∀ x∈L,x.1.1≠f.1.1)->(gh f L).Pairwise (λa b=>aF a.1.1 b.1.1)
 | [],_,_=>by simp[gh]
 | y::L,h,hn=>by
  obtain⟨h1,h2⟩:=zQa.1 h;unfold gh;split
  ·rename_i k;refine zQa.2 ⟨λz hz=>?_,h⟩;rcases zCa.1 hz with rfl|hz
   ·exact k
   ·exact lN k (h1 z hz)
  ·rename_i k;refine zQa.2 ⟨λz hz=>?_,yJ h2 λx hx=>hn x (zha _ hx)⟩;rcases iP.1 hz with rfl|hz
   ·rcases pR (hn y zka) with k'|k'
    ·exact k'
    ·exact absurd k' k
   ·exact h1 z hz
def By(l:List V):List (V×Int):=(List.range l.length).flatMap λi=>(List.range l.length).flatMap λj=>(List.range l.length).flatMap λk=>[(bu (dS (pt l) i j k),V.dot (bu (dS (pt l) i j k)) (pt l i)),((bu (dS (pt l) i j k)).neg,V.dot (bu (dS (pt l) i j k)).neg (pt l i))]
def CI(l:List V)(h:l.length<=100):(By l).length<=2000000:=by
 unfold By;rw[ny (c:=l.length*(l.length*2)) _ (λi _=>by rw[ny (c:=l.length*2) _ (λj _=>by rw[ny (c:=2) _ (λk _=>rfl),zVb]),zVb]),zVb]
 have a1:l.length*2<=200:=by omega
 have a2:l.length*(l.length*2)<=100*200:=z2a h a1;exact z2a h a2
def C1{l:List V}{q:V×Int}(h:IsF (pt l) l.length q.1 q.2):q∈By l:=by
 obtain⟨i,j,k,h1,h2,h3,h4,h5,h6⟩:=h.ex;refine zJb.2 ⟨i,zJa.2 (by omega),zJb.2 ⟨j,zJa.2 (by omega),zJb.2 ⟨k,zJa.2 h3,?_⟩⟩⟩
 obtain⟨a,b⟩:=q;simp only at h5 h6;subst h6;rcases h5 with rfl|rfl<;>simp
def FOk.len{l:List V}{F:FL}(h:FOk l F)(hl:l.length<=100):F.length<=2000000:=by
 have nd:(F.map Prod.fst).Nodup:=by
  refine zqd.2 (h.ord.imp λ{a b} hab e=>?_);rw[e] at hab;exact mC _ hab
 have:=z5b (l₂:=By l) nd λq hq=>by
  obtain⟨f,hf,rfl⟩:=z5a.1 hq;exact C1 (h.ok f hf).1
 rw[zta] at this;exact zAa this (CI l hl)
def FOk.insert{l:List V}{F:FL}(h:FOk l F){f:(V×Int)×List Nat}(hn:∀ x∈F,x.1.1≠f.1.1)(h1:IsF (pt l) l.length f.1.1 f.1.2)(h2:bE (pt l) l.length f.1.1 f.1.2 f.2):FOk l (gh f F):=
 ⟨yJ h.ord hn,λx hx=>by
  rcases iP.1 hx with rfl|hx
  ·exact⟨h1,h2⟩
  ·exact h.ok x hx⟩
def kI{v:V}:bu v=V.zero↔v=V.zero:=by
 constructor
 ·intro h;by_cases hv:v=V.zero
  ·exact hv
  ·exact absurd h (rL hv)
 ·rintro rfl;apply V.ext'<;>simp[bu,V.zero]
def vw{v:V}:v.neg=V.zero↔v=V.zero:=by
 constructor
 ·intro h;by_cases hv:v=V.zero
  ·exact hv
  ·exact absurd h (Fv hv)
 ·rintro rfl;apply V.ext'<;>simp[V.neg,V.zero]
def ab{α β:Type}{A:Option α}{g:α->Option β}{z:α}{Y:β->Prop}(h:A=some z)(hk:∃ y,g z=some y/\Y y):∃ y,Option.bind A g=some y/\Y y:=by
 rw[h];exact hk
def bV{β:Type}{p:Prop}[Decidable p]{A B:Option β}{Y:β->Prop}(h:p)(hA:∃ y,A=some y/\Y y):∃ y,(if decide p=true then A else B)=some y/\Y y:=by rw[if_pos (decide_eq_true h)];exact hA
def wH{β:Type}{p:Prop}[Decidable p]{A B:Option β}{Y:β->Prop}(h:¬ p)(hA:∃ y,B=some y/\Y y):∃ y,(if decide p=true then A else B)=some y/\Y y:=by rw[if_neg (by simpa using h)];exact hA
def Gl(n:Nat){l:List V}(hl:∀ x∈l,bd MV x)(hlen:l.length<=100)(hs:Eh l){F:FL}(hF:FOk l F){i j k:Nat}(hij:i<j)(hjk:j<k)(hk:k<l.length){m:V}(hm:m=bu (dS (pt l) i j k)\/m=(bu (dS (pt l) i j k)).neg){α:Type}{g:D->Nat×List D->Option α}{Y:α->Prop}
  (hg:∀ F':FL,FOk l F'->(∀ f∈F,f∈F')->(dS (pt l) i j k≠V.zero->ug (pt l) l.length m (V.dot m (pt l i))->(m,V.dot m (pt l i))∈F'.map Prod.fst)->∃ y,g (I (V.dot m (pt l i))) (0,[.sl (aq F')])=some y/\Y y) :
  ∃ y,(Option.bind (cA (n+4) 107 [af m,af (pt l i)]) λr31=>
  Option.bind (cA (n+4) 108 [.sl (aq F),af m]) λr32=>
  Option.bind (Option.bind (D.un .not r32) λx33=>
  Option.bind (D.truth x33) λb34=>
  Option.bind (if b34 then(Option.bind (D.un .not (D.bool (D.beq (af m) (D.st [(D.int .i64 0),(D.int .i64 0),(D.int .i64 0)])))) λx35=>
  D.truth x35) else(some false)) λb36=>
  Option.bind (D.truth (D.bool b36)) λb37=>
  Option.bind (if b37 then(Option.bind (cA (n+4) 109 [aS l,af m,r31]) λr38=>
  D.truth r38) else(some false)) λb39=>
  Option.bind (D.truth (D.bool b39)) λb40=>
  if b40 then(Option.bind (cA (n+4) 111 [aS l,af m,r31]) λr41=>
  Option.bind (cA (n+4) 110 [.sl (aq F),(D.st [af m,r31,r41])]) λr42=>
  some (0,[r42])) else(some (0,[.sl (aq F)]))) (g r31))=some y/\Y y:=by
 have hi:i<l.length:=by omega
 have bt:bd 549755813888 (bu (dS (pt l) i j k)):=jl (eB (jm (P:=pt l) (hl _ (cg hi)) (hl _ (cg (show j<l.length by omega)))) (jm (P:=pt l) (hl _ (cg hi)) (hl _ (cg hk))))
 have bm:bd 549755813888 m:=by
  rcases hm with rfl|rfl
  ·exact bt
  ·exact nl bt
 have hFl:=hF.len hlen;have hmz:m=V.zero↔dS (pt l) i j k=V.zero:=by
  rcases hm with rfl|rfl
  ·exact kI
  ·rw[vw,kI]
 refine ab (zZ (n+3) bm (hl _ (cg hi)) (by decide)) (ab (My (n+3) F m (by omega)) ?_)
 obtain⟨d,hd⟩:∃ d,V.dot m (l.getD i V.zero)=d:=⟨_,rfl⟩;have hdp:V.dot m (pt l i)=d:=hd;rw[hdp] at hg;rw[hdp];by_cases hkn:(F.any λf=>decide (f.1.1=m))=true
 ·rw[hkn];refine ab (z:=(0,[.sl (aq F)])) (aa (z:=.bool false) rfl (aa (z:=false) rfl (aa (z:=false) rfl (aa (z:=false) rfl (aa (z:=false) rfl (aa (z:=false) rfl rfl)))))) (hg F hF (λf hf=>hf) λht hsp=>?_);obtain⟨f,hf,hfm⟩:=zRc.1 hkn;have hfm:f.1.1=m:=by simpa using hfm
  have h1:=(hF.ok f hf).1;rw[hfm] at h1;have h2:IsF (pt l) l.length m d:=⟨⟨i,j,k,hij,hjk,hk,ht,hm,hdp.symm⟩,hsp⟩;exact z5a.2 ⟨f,hf,Prod.ext hfm (IsF.d_eq h1 h2)⟩
 ·rw[Bool.not_eq_true] at hkn;rw[hkn];have hnk:∀ f∈F,f.1.1≠m:=λf hf e=>by
   have:=List.any_eq_false.1 hkn f hf;simp[e] at this
  by_cases hz:m=V.zero
  ·refine ab (z:=(0,[.sl (aq F)])) (aa (z:=.bool true) rfl (aa (z:=true) rfl (aa (z:=false) ?_ (aa (z:=false) rfl (aa (z:=false) rfl (aa (z:=false) rfl rfl)))))) (hg F hF (λf hf=>hf) λht hsp=>absurd (hmz.1 hz) ht);rw[if_pos rfl,iF,gN,decide_eq_true (show m=⟨0,0,0⟩ from hz)];rfl
  ·have ht:dS (pt l) i j k≠V.zero:=λe=>hz (hmz.2 e);have hc:=Mz (n+2) (d:=d) hl bm (by decide) (by omega)
   by_cases hsp:supp l (m,d)=true
   ·have hFm:IsF (pt l) l.length m d:=⟨⟨i,j,k,hij,hjk,hk,ht,hm,hdp.symm⟩,km.1 hsp⟩;obtain⟨p,hp,_,_⟩:=hFm.poly hs;refine ab (z:=(0,[.sl (aq (gh ((m,d),p) F))])) (aa (z:=.bool true) rfl (aa (z:=true) rfl (aa (z:=true) ?_ (aa (z:=true) rfl (aa (z:=true) ?_ (aa (z:=true) rfl ?_)))))) (hg _ (hF.insert hnk hFm hp) (λf hf=>iP.2 (.inr hf)) λ_ _=>z5a.2 ⟨((m,d),p),iP.2 (.inl rfl),rfl⟩)
    ·rw[if_pos rfl,iF,gN,decide_eq_false (show ¬ m=⟨0,0,0⟩ from hz)];rfl
    ·rw[if_pos rfl];refine aa hc ?_;rw[ae];exact congrArg some hsp
    ·rw[if_pos rfl];exact aa (Nu n hl hlen hs hFm bm hp) (aa (Sr (n+2) F ((m,d),p) (by omega)) rfl)
   ·refine ab (z:=(0,[.sl (aq F)])) (aa (z:=.bool true) rfl (aa (z:=true) rfl (aa (z:=true) ?_ (aa (z:=true) rfl (aa (z:=false) ?_ (aa (z:=false) rfl rfl)))))) (hg F hF (λf hf=>hf) λ_ hsp'=>absurd (km.2 hsp') hsp)
    ·rw[if_pos rfl,iF,gN,decide_eq_false (show ¬ m=⟨0,0,0⟩ from hz)];rfl
    ·rw[if_pos rfl];refine aa hc ?_;rw[ae];exact congrArg some (zXb.2 hsp)
structure KnF(l:List V)(i j k:Nat)(F:FL):Prop where
 fok:FOk l F
 all:∀ i' j' k',i'<j'->j'<k'->k'<l.length->(i'<i\/i'=i/\(j'<j\/j'=j/\k'<k))->dS (pt l) i' j' k'≠V.zero->∀ m,(m=bu (dS (pt l) i' j' k')\/m=(bu (dS (pt l) i' j' k')).neg)->ug (pt l) l.length m (V.dot m (pt l i'))->(m,V.dot m (pt l i'))∈F.map Prod.fst
def KnF.mono{l:List V}{i j k i2 j2 k2:Nat}{F:FL}(h:KnF l i j k F)(hm:∀ i' j' k',i'<j'->j'<k'->k'<l.length->(i'<i2\/i'=i2/\(j'<j2\/j'=j2/\k'<k2))->(i'<i\/i'=i/\(j'<j\/j'=j/\k'<k))):KnF l i2 j2 k2 F:=
 ⟨h.fok,λi' j' k' h1 h2 h3 h4=>h.all i' j' k' h1 h2 h3 (hm i' j' k' h1 h2 h3 h4)⟩
def KnF.facets{l:List V}{F:FL}(h:KnF l l.length 0 0 F):Facets (pt l) l.length (F.map Prod.fst):=by
 refine⟨zqd.2 h.fok.ord,λq=>⟨λhq=>?_,λhq=>?_⟩⟩
 ·obtain⟨f,hf,rfl⟩:=z5a.1 hq;exact(h.fok.ok f hf).1
 ·obtain⟨⟨i,j,k,h1,h2,h3,c1,c2,c3⟩,hs⟩:=hq;obtain⟨m,d⟩:=q;simp only at c2 c3 hs;subst c3;exact h.all i j k h1 h2 h3 (.inl (by omega)) c1 m c2 hs
end Sy
end
noncomputable section
namespace Sy
open Go Go.Proofs Geo
def mt(p:V):Nat->V
 | 0=>p
 | 1=>p.neg
 | _=>p
def Vy(n:Nat){l:List V}(hl:∀ x∈l,bd MV x)(hlen:l.length<=100)(hs:Eh l):∃ F:FL,KnF l l.length 0 0 F/\cA (n+7) 48 [aS l]=some (.sl (aq F)):=by
 suffices h:∃ y,cA (n+7) 48 [aS l]=some y/\∃ F:FL,KnF l l.length 0 0 F/\y=.sl (aq F) by
  obtain⟨y,h1,F,h2,rfl⟩:=h;exact⟨F,h2,h1⟩
 rw[Yb]
 delta N7 qB qC qT qN qX qL qZ iL iR Jn
 have ll:(l.map af).length=l.length:=zta ..;refine eI (λi s=>∃ F:FL,s=[.sl (aq F),I (i:Int)]/\KnF l i 0 0 F) l.length 0 (zia _) ⟨[],rfl,⟨.nil,by simp⟩,λi' j' k' h1 h2 h3 h4=>by omega⟩ (λi hi s hJ=>?_) (λs hJ=>?_)
 ·obtain⟨F,rfl,hF⟩:=hJ;refine ab (z:=l.map af) rfl (ab ag (ab ae (bV (by show((i:Int)<((l.map af).length:Int));rw[ll];omega) (ab (aw (ay (i:=i) (by omega))) ?_))))
  refine eI (λj s=>i+1<=j/\∃ F:FL,s=[.sl (aq F),I (j:Int)]/\KnF l i j 0 F) l.length (i+1) (by omega) ⟨zja _,F,rfl,hF.mono λi' j' k' h1 h2 h3 h4=>by omega⟩ (λj hj s hJ=>?_) (λs hJ=>?_)
  ·obtain⟨hij,F,rfl,hF⟩:=hJ;refine ab (z:=l.map af) rfl (ab ag (ab ae (bV (by show((j:Int)<((l.map af).length:Int));rw[ll];omega) (ab (aw (ay (i:=j) (by omega))) ?_))))
   refine eI (λk s=>j+1<=k/\∃ F:FL,s=[.sl (aq F),I (k:Int)]/\KnF l i j k F) l.length (j+1) (by omega) ⟨zja _,F,rfl,hF.mono λi' j' k' h1 h2 h3 h4=>by omega⟩ (λk hk s hJ=>?_) (λs hJ=>?_)
   ·obtain⟨hjk,F,rfl,hF⟩:=hJ;refine ab (z:=l.map af) rfl (ab ag (ab ae (bV (by show((k:Int)<((l.map af).length:Int));rw[ll];omega) ?_)))
    refine ab (z:=l.map af) rfl (ab (z:=i) (by rw[ll];exact ap hi) (ab (cN hi) (ab (z:=l.map af) rfl (ab (z:=j) (by rw[ll];exact ap hj) (ab (cN hj) (ab (z:=l.map af) rfl (ab (z:=k) (by rw[ll];exact ap hk) (ab (cN hk) (ab (z:=af (bu (dS (pt l) i j k))) (Mx n (hl _ (cg hi)) (hl _ (cg hj)) (hl _ (cg hk))) ?_)))))))))
    have bt:bd 549755813888 (bu (dS (pt l) i j k)):=jl (eB (jm (P:=pt l) (hl _ (cg hi)) (hl _ (cg hj))) (jm (P:=pt l) (hl _ (cg hi)) (hl _ (cg hk))));obtain⟨p,hp⟩:∃ p,bu (dS (pt l) i j k)=p:=⟨_,rfl⟩;rw[hp] at bt ⊢;have z0:bd 0 V.zero:=by simp only[bd,V.zero];omega
    have e1:V.zero.sub p=p.neg:=by apply V.ext'<;>simp[V.sub,V.neg,V.zero]
    have e2:V.zero.sub p.neg=p:=by apply V.ext'<;>simp[V.sub,V.neg,V.zero]
    refine eI (λt s=>∃ F':FL,s=[.sl (aq F'),I (t:Int),af (mt p t)]/\FOk l F'/\(∀ f∈F,f∈F')/\(1<=t->dS (pt l) i j k≠V.zero->ug (pt l) l.length p (V.dot p (pt l i))->(p,V.dot p (pt l i))∈F'.map Prod.fst)/\(2<=t->dS (pt l) i j k≠V.zero->ug (pt l) l.length p.neg (V.dot p.neg (pt l i))->(p.neg,V.dot p.neg (pt l i))∈F'.map Prod.fst)) 2 0 (by omega) ⟨F,rfl,hF.fok,λf hf=>hf,λh=>by omega,λh=>by omega⟩ (λt ht s hJ=>?_) (λs hJ=>?_)
    ·obtain⟨F',rfl,f1,f2,f3,f4⟩:=hJ;refine ab ag (ab ae (bV (by show((t:Int)<2);omega) (ab (z:=l.map af) rfl (ab (z:=i) (by rw[ll];exact ap hi) (ab (cN hi) ?_)))))
     have ht':t=0\/t=1:=by omega
     simp only[g0,g1,g2];rcases ht' with rfl|rfl
     ·rw[show mt p 0=p from rfl];refine Gl (n+2) hl hlen hs f1 (show i<j by omega) (show j<k by omega) hk (m:=p) (.inl hp.symm) (λF2 k1 k2 k3=>?_)
      refine⟨.inl [.sl (aq F2),I ((0+1:Nat):Int),af p.neg],?_,?_⟩
      ·refine aa (z:=af p.neg) ?_ ?_
       ·have:=ui (n+5) z0 bt (by decide)
        rw[e1] at this;exact this
       ·exact aa (aw KX) rfl
      ·exact⟨F2,rfl,k1,λf hf=>k2 f (f2 f hf),λ_=>k3,λh=>by omega⟩
     ·rw[show mt p 1=p.neg from rfl];refine Gl (n+2) hl hlen hs f1 (show i<j by omega) (show j<k by omega) hk (m:=p.neg) (.inr (by rw[hp])) (λF2 k1 k2 k3=>?_)
      refine⟨.inl [.sl (aq F2),I ((1+1:Nat):Int),af p],?_,F2,rfl,k1,λf hf=>k2 f (f2 f hf),λ_ h1 h2=>?_,λ_=>k3⟩
      ·refine aa (z:=af p) ?_ ?_
       ·have:=ui (n+5) z0 (nl bt) (by decide)
        rw[e2] at this;exact this
       ·exact aa (aw ut) rfl
      ·obtain⟨f,hf,e⟩:=z5a.1 (f3 (zja _) h1 h2);exact z5a.2 ⟨f,k2 f hf,e⟩
    ·obtain⟨F',rfl,f1,f2,f3,f4⟩:=hJ;refine⟨.inr (0,[.sl (aq F')]),aa ag (aa ae (aC (by decide) rfl)),.inl [.sl (aq F'),I ((k+1:Nat):Int)],aa (aw (ay (i:=k) (by omega))) rfl,by omega,F',rfl,f1,λi' j' k' h1 h2 h3 h4 h5 m h6 h7=>?_⟩
     by_cases e:i'=i/\j'=j/\k'=k
     ·obtain⟨rfl,rfl,rfl⟩:=e;rw[hp] at h6;rcases h6 with rfl|rfl
      ·exact f3 (by omega) h5 h7
      ·exact f4 (by omega) h5 h7
     ·obtain⟨f,hf,e⟩:=z5a.1 (hF.all i' j' k' h1 h2 h3 (by omega) h5 m h6 h7)
      exact z5a.2 ⟨f,f2 f hf,e⟩
   ·obtain⟨hjk,F,rfl,hF⟩:=hJ;refine⟨.inr (0,[.sl (aq F)]),?_,.inl [.sl (aq F),I ((j+1:Nat):Int)],aa (aw (ay (i:=j) (by omega))) rfl,by omega,F,rfl,hF.mono λi' j' k' h1 h2 h3 h4=>by omega⟩
    exact aa (z:=l.map af) rfl (aa ag (aa ae (aC (by show ¬ ((l.length:Int)<((l.map af).length:Int));rw[ll];omega) rfl)))
  ·obtain⟨hij,F,rfl,hF⟩:=hJ;refine⟨.inr (0,[.sl (aq F)]),?_,.inl [.sl (aq F),I ((i+1:Nat):Int)],aa (aw (ay (i:=i) (by omega))) rfl,F,rfl,hF.mono λi' j' k' h1 h2 h3 h4=>by omega⟩
   exact aa (z:=l.map af) rfl (aa ag (aa ae (aC (by show ¬ ((l.length:Int)<((l.map af).length:Int));rw[ll];omega) rfl)))
 ·obtain⟨F,rfl,hF⟩:=hJ;refine⟨.inr (0,[.sl (aq F)]),?_,.sl (aq F),rfl,F,hF,rfl⟩;exact aa (z:=l.map af) rfl (aa ag (aa ae (aC (by show ¬ ((l.length:Int)<((l.map af).length:Int));rw[ll];omega) rfl)))
end Sy
end
noncomputable section
namespace Sy
open Go Go.Proofs Geo
def aN(l:List V):(l.map af).length=l.length:=zta ..
def XB(n:Nat)(a b:List V)(ha:a.length<=1000000):cA (n+1) 13 [aS a,aS b]=some (.bool (decide (a=b))):=by
 rw[XU]
 delta NP qB qT qS qX qL qZ iL iR Jn
 refine aa (z:=a.map af) rfl (aa (z:=b.map af) rfl ?_);rw[aN,aN,bR];by_cases hab:a.length=b.length
 ·rw[decide_eq_true hab];refine aa (z:=false) rfl ?_;rw[if_neg (by decide)]
  refine bc (λi s=>s=[I (i:Int)]/\a.take i=b.take i) a.length 0 (zia _) ⟨rfl,by simp⟩ (λi hi s hJ=>?_) (λs hJ=>?_)
  ·obtain⟨rfl,hz⟩:=hJ;have hib:i<b.length:=by omega
   have pre:∀ z,(Option.bind (D.truth (D.bool (!(D.beq (af (a.getD i V.zero)) (af (b.getD i V.zero)))))) λb14=>
     if b14 then(some (Sum.inr (0,[(D.bool false)]))) else(Option.bind (D.bin .add (I (i:Int)) (D.int .i64 1)) λx15=>some (Sum.inl [x15])))=some z ->
     (Option.bind (D.asSl (aS a)) λl5=>Option.bind (D.bin .lss (I (i:Int)) (D.int .i64 (List.length l5))) λx6=>Option.bind (D.truth x6) λb7=>
     if b7 then(Option.bind (D.asSl (aS a)) λl8=>Option.bind (D.idx (I (i:Int)) (List.length l8)) λi9=>Option.bind (l8[i9]?) λx10=>Option.bind (D.asSl (aS b)) λl11=>Option.bind (D.idx (I (i:Int)) (List.length l11)) λut=>Option.bind (l11[ut]?) λx13=>
     Option.bind (D.truth (D.bool (!(D.beq x10 x13)))) λb14=>
     if b14 then(some (Sum.inr (0,[(D.bool false)]))) else(Option.bind (D.bin .add (I (i:Int)) (D.int .i64 1)) λx15=>some (Sum.inl [x15]))) else(some (Sum.inr (1,[]):Sum (List D) (Nat×List D))))=some z:=λz hz=>
    aa (z:=a.map af) rfl (aa ag (aa ae (aH (by show((i:Int)<((a.map af).length:Int));rw[aN];omega) (aa (z:=a.map af) rfl (aa (z:=i) (by rw[aN];exact ap hi) (aa (cN hi) (aa (z:=b.map af) rfl (aa (z:=i) (by rw[aN];exact ap hib) (aa (cN hib) hz)))))))))
   rw[gN] at pre;by_cases he:a.getD i V.zero=b.getD i V.zero
   ·left;refine⟨[I ((i+1:Nat):Int)],pre _ ?_,rfl,?_⟩
    ·rw[decide_eq_true he];refine aa (z:=false) rfl ?_;rw[if_neg (by decide)]
     exact aa (aw (ay (i:=i) (by omega))) rfl
    ·rw[zqa hi,zqa hib,hz];simp only[List.getD,hi,hib,zca,zBb] at he;rw[he]
   ·right;refine⟨(0,[.bool false]),pre _ ?_,?_⟩
    ·rw[decide_eq_false he];rfl
    ·rw[decide_eq_false (λe=>he (by rw[e]))];rfl
  ·obtain⟨rfl,hz⟩:=hJ;refine⟨(1,[]),?_,?_⟩
   ·exact aa (z:=a.map af) rfl (aa ag (aa ae (aC (by show ¬ ((a.length:Int)<((a.map af).length:Int));rw[aN];omega) rfl)))
   ·rw[zKa,hab,zKa] at hz;rw[decide_eq_true hz];rfl
 ·rw[decide_eq_false hab,decide_eq_false (λe=>hab (by rw[e]))]
  rfl
instance decBd (k:Int) (v:V):Decidable (bd k v):=by unfold bd;exact inferInstance
def nZ(v:V):Nat->Int
 | 0=>v.x
 | 1=>v.y
 | _=>v.z
def EU(v:V){t:Nat}(h:t<3):D.fld (af v) t=some (I (nZ v t)):=by
 have:t=0\/t=1\/t=2:=by omega
 rcases this with rfl|rfl|rfl<;>rfl
def Bs{v:V}:bd MV v↔∀ t,t<3->¬ (nZ v t>262144)/\¬ (nZ v t < -262144):=by
 constructor
 ·intro h t ht;have:t=0\/t=1\/t=2:=by omega
  simp only[bd,MV] at h;rcases this with rfl|rfl|rfl<;>simp only[nZ]<;>omega
 ·intro h;have h0:=h 0 (by decide);have h1:=h 1 (by decide);have h2:=h 2 (by decide)
  simp only[nZ] at h0 h1 h2;simp only[bd,MV];omega
def jr(F:FL)(i:Nat):Bool:=F.any λf=>f.2.any λx=>decide (x=i)
def dj(S:List V)(F:FL)(k:Nat):List V:=((List.range k).filter (jr F)).map (pt S)
def Bc(S:List V)(F:FL)(k:Nat):dj S F (k+1)=if jr F k then dj S F k++[pt S k] else dj S F k:=by
 unfold dj;rw[zGb,List.filter_append];by_cases h:jr F k=true<;>simp[h]
def vZ(S:List V)(F:FL)(k:Nat):(dj S F k).length<=k:=by
 unfold dj;rw[zta];exact zAa (zlc _ _) (by simp)
def Ah(e:Int):D:=.st [.st [.sl []],I e]
def BQ(S:List V)(F:FL):D:=if F.length=0 then Ah 120 else if F.length>64 then Ah 2 else .st [.st [aS (dj S F S.length)],I 0]
def Iu(n:Nat){l:List V}(h:64<l.length):cA (n+1) 12 [aS l]=some (Ah 2):=by
 rw[TW]
 delta LG qB qC qT qS qX qL qV qW qZ iL iR Jn
 exact aa (z:=l.map af) rfl (aa cn (aa ae (aH (by show((l.map af).length:Int)>64;rw[aN];omega) rfl)))
def KY{l:List V}{i:Nat}(hi:i<l.length){α:Type}{k:Nat×List D->Option α}{y:α}(hy:k (if bd MV (l.getD i V.zero) then(1,[.sl [],I 0]) else(0,[.sl [],I 1]))=some y) :
  Option.bind (aT (λ(v8:List D)=>
 Option.bind (D.bin .lss (gx v8 0) (D.int .i64 3)) λx9=>
 Option.bind (D.truth x9) λb10=>
 if b10 then(Option.bind (D.asSl (aS l)) λl11=>
 Option.bind (D.idx (I (i:Int)) (List.length l11)) λut=>
 Option.bind (l11[ut]?) λx13=>
 Option.bind (D.idx (gx v8 0) 3) λi14=>
 Option.bind (D.fld x13 i14) λx15=>
 Option.bind (D.bin .gtr x15 (D.int .i64 262144)) λx16=>
 Option.bind (D.truth x16) λb17=>
 Option.bind (if b17 then(some true) else(Option.bind (D.asSl (aS l)) λl18=>
 Option.bind (D.idx (I (i:Int)) (List.length l18)) λi19=>
 Option.bind (l18[i19]?) λx20=>
 Option.bind (D.idx (gx v8 0) 3) λi21=>
 Option.bind (D.fld x20 i21) λx22=>
 Option.bind (D.bin .lss x22 (D.int .i64 (-262144))) λx23=>
 D.truth x23)) λb24=>
 Option.bind (D.truth (D.bool b24)) λb25=>
 if b25 then(some (Sum.inr (0,[(D.sl []),(D.int .i64 1)]))) else(Option.bind (D.bin .add (gx v8 0) (D.int .i64 1)) λx26=>
 some (Sum.inl [x26,(D.sl (D.els (gx v8 1))),(gx v8 2)]))) else(some (Sum.inr (1,[(D.sl (D.els (gx v8 1))),(gx v8 2)])))) [(D.int .i64 0),.sl [],I 0]) k=some y:=by
 refine bY (λt s=>s=[I (t:Int),.sl [],I 0]/\∀ t',t'<t->¬ (nZ (l.getD i V.zero) t'>262144)/\¬ (nZ (l.getD i V.zero) t' < -262144)) 3 0 (by decide) ⟨rfl,λt' h=>by omega⟩ (λt ht s hJ=>?_) (λs hJ=>?_)
 ·obtain⟨rfl,hz⟩:=hJ;have hf:=EU (l.getD i V.zero) ht;have ix:D.idx (I (t:Int)) 3=some t:=ap ht;have pre:∀ z,(if decide (nZ (l.getD i V.zero) t>262144\/nZ (l.getD i V.zero) t < -262144)=true then(some (Sum.inr (0,[(D.sl []),(D.int .i64 1)]))) else(Option.bind (D.bin .add (I (t:Int)) (D.int .i64 1)) λx26=>some (Sum.inl [x26,.sl [],I 0])))=some z->_:=λ(z:Sum (List D) (Nat×List D)) hz'=>
   aa (g:=λx9=>Option.bind (D.truth x9) λb10=>if b10 then(Option.bind (D.asSl (aS l)) λl11=>Option.bind (D.idx (I (i:Int)) (List.length l11)) λut=>Option.bind (l11[ut]?) λx13=>Option.bind (D.idx (I (t:Int)) 3) λi14=>Option.bind (D.fld x13 i14) λx15=>Option.bind (D.bin .gtr x15 (D.int .i64 262144)) λx16=>Option.bind (D.truth x16) λb17=>
    Option.bind (if b17 then(some true) else(Option.bind (D.asSl (aS l)) λl18=>Option.bind (D.idx (I (i:Int)) (List.length l18)) λi19=>Option.bind (l18[i19]?) λx20=>Option.bind (D.idx (I (t:Int)) 3) λi21=>Option.bind (D.fld x20 i21) λx22=>Option.bind (D.bin .lss x22 (D.int .i64 (-262144))) λx23=>D.truth x23)) λb24=>
    Option.bind (D.truth (D.bool b24)) λb25=>
    if b25 then(some (Sum.inr (0,[(D.sl []),(D.int .i64 1)]))) else(Option.bind (D.bin .add (I (t:Int)) (D.int .i64 1)) λx26=>some (Sum.inl [x26,.sl [],I 0]))) else(some (Sum.inr (1,[.sl [],I 0]))))
    (ag (a:=(t:Int)) (b:=3)) (y:=z) (aa ae (aH (by omega) (aa (z:=l.map af) rfl (aa (z:=i) (by rw[aN];exact ap hi) (aa (cN hi) (aa ix (aa hf (aa cn (aa ae (aa (z:=decide (nZ (l.getD i V.zero) t>262144\/nZ (l.getD i V.zero) t < -262144)) (by
     by_cases h1:nZ (l.getD i V.zero) t>262144
     ·refine aH h1 ?_;rw[decide_eq_true (.inl h1)]
     ·refine aC h1 (aa (z:=l.map af) rfl (aa (z:=i) (by rw[aN];exact ap hi) (aa (cN hi) (aa ix (aa hf (aa ag ?_))))))
      rw[ae];congr 1;rw[decide_eq_decide];exact⟨.inr,λh=>h.resolve_left h1⟩) (aa ae hz')))))))))))
  by_cases hb:nZ (l.getD i V.zero) t>262144\/nZ (l.getD i V.zero) t < -262144
  ·right;refine⟨_,pre _ (aH hb rfl),?_⟩;rw[if_neg (λh=>by have:=Bs.1 h t ht;omega)] at hy
   exact hy
  ·left;refine⟨[I ((t+1:Nat):Int),.sl [],I 0],pre _ (aC hb (aa (aw (ay (i:=t) (by omega))) rfl)),rfl,λt' ht'=>?_⟩
   by_cases e:t'=t
   ·subst e;omega
   ·exact hz t' (by omega)
 ·obtain⟨rfl,hz⟩:=hJ;refine⟨(1,[.sl [],I 0]),aa ag (aa ae (aC (by decide) rfl)),?_⟩
  rw[if_pos (Bs.2 hz)] at hy;exact hy
def It(n:Nat){l:List V}(hlen:l.length<=64)(hb:¬ ∀ x∈l,bd MV x):cA (n+1) 12 [aS l]=some (Ah 1):=by
 rw[TW]
 delta LG qB qC qT qS qX qL qV qW qZ iL iR Jn
 refine aa (z:=l.map af) rfl (aa cn (aa ae (aC (by show ¬ ((l.map af).length:Int)>64;rw[aN];omega) ?_)))
 refine bc (λi s=>s=[I (i:Int),.sl [],I 0]/\∀ x∈l.take i,bd MV x) l.length 0 (zia _) ⟨rfl,by simp⟩ (λi hi s hJ=>?_) (λs hJ=>?_)
 ·obtain⟨rfl,hz⟩:=hJ;by_cases hx:bd MV (l.getD i V.zero)
  ·left;refine⟨[I ((i+1:Nat):Int),.sl [],I 0],?_,rfl,λx hx'=>?_⟩
   ·refine aa (z:=l.map af) rfl (aa ag (aa ae (aH (by show((i:Int)<((l.map af).length:Int));rw[aN];omega) (KY hi ?_))))
    rw[if_pos hx,if_neg (show ¬ (1:Nat)=0 by decide)]
    exact aa (aw (ay (i:=i) (by omega))) rfl
   ·rw[zqa hi] at hx';rcases zDa.1 hx' with h|h
    ·exact hz x h
    ·rw[zIa.1 h];simpa [List.getD,hi] using hx
  ·right;refine⟨(0,[.sl [],I 1]),?_,rfl⟩;refine aa (z:=l.map af) rfl (aa ag (aa ae (aH (by show((i:Int)<((l.map af).length:Int));rw[aN];omega) (KY hi ?_))))
   rw[if_neg hx];rfl
 ·obtain⟨rfl,hz⟩:=hJ;rw[zKa] at hz;exact absurd hz hb
def Eu(n:Nat){l:List V}(hlen:l.length<=64)(hl:∀ x∈l,bd MV x){F:FL}(hpl:∀ f∈F,f.2.length<=1000000)(hFl:F.length<=3000000)(h48:cA (n+2) 48 [aS (dQ l)]=some (.sl (aq F))):cA (n+3) 12 [aS l]=some (BQ (dQ l) F):=by
 rw[TW]
 delta LG qB qC qT qS qX qL qV qW qZ iL iR Jn
 refine aa (z:=l.map af) rfl (aa cn (aa ae (aC (by show ¬ ((l.map af).length:Int)>64;rw[aN];omega) ?_)))
 refine bc (λi s=>s=[I (i:Int),.sl [],I 0]) l.length 0 (zia _) rfl (λi hi s hJ=>?_) (λs hJ=>?_)
 ·subst hJ;left;refine⟨[I ((i+1:Nat):Int),.sl [],I 0],?_,rfl⟩;refine aa (z:=l.map af) rfl (aa ag (aa ae (aH (by show((i:Int)<((l.map af).length:Int));rw[aN];omega) (KY hi ?_))))
  rw[if_pos (hl _ (cg hi)),if_neg (show ¬ (1:Nat)=0 by decide)]
  exact aa (aw (ay (i:=i) (by omega))) rfl
 ·subst hJ;refine⟨(1,[.sl [],I 0]),aa (z:=l.map af) rfl (aa ag (aa ae (aC (by show ¬ ((l.length:Int)<((l.map af).length:Int));rw[aN];omega) rfl))),?_⟩
  rw[if_neg (show ¬ (1:Nat)=0 by decide)]
  have hSl:=zAa (oR l) hlen;refine aa (XE n l (by omega)) (aa h48 (aa (z:=aq F) rfl ?_))
  obtain⟨S,hS⟩:∃ S,dQ l=S:=⟨_,rfl⟩;rw[hS] at hSl ⊢;rw[aA,show D.beq (D.int .i64 (F.length:Nat)) (D.int .i64 0)=decide (F.length=0) from bR F.length 0];refine aa ae ?_;unfold BQ;by_cases h0:F.length=0
  ·refine aH h0 ?_;rw[if_pos h0];rfl
  refine aC h0 (aa (z:=aq F) rfl (aa cn (aa ae ?_)));rw[if_neg h0];by_cases h64:F.length>64
  ·refine aH (by rw[aA];omega) ?_
   rw[if_pos h64];rfl
  refine aC (by rw[aA];omega) ?_
  rw[if_neg h64];refine bc (λi s=>s=[I (i:Int),.sl [],I 0,aS (dj S F i),I 0]) S.length 0 (zia _) rfl (λi hi s hJ=>?_) (λs hJ=>?_)
  ·subst hJ;left;refine⟨[I ((i+1:Nat):Int),.sl [],I 0,aS (dj S F (i+1)),I 0],?_,rfl⟩;have hvl:=vZ S F i;refine aa (z:=S.map af) rfl (aa ag (aa ae (aH (by show((i:Int)<((S.map af).length:Int));rw[aN];omega) ?_)))
   refine aa (z:=(0,[.sl [],I 0,aS (dj S F (i+1)),I 0])) ?_ (aa (aw (ay (i:=i) (by omega))) rfl)
   refine bY (λk s=>s=[.bool (jr (F.take k) i),I (k:Int),.sl [],I 0,aS (dj S F i),I 0]) F.length 0 (zia _) rfl (λk hk s hJ=>?_) (λs hJ=>?_)
   ·subst hJ;left;refine⟨[.bool (jr (F.take (k+1)) i),I ((k+1:Nat):Int),.sl [],I 0,aS (dj S F i),I 0],?_,rfl⟩;have hpk:=hpl F[k] (zra hk);have e1:jr (F.take (k+1)) i=(jr (F.take k) i||F[k].2.any λx=>decide (x=i)):=by
     unfold jr;rw[zqa hk,zGc];simp
    refine aa (z:=aq F) rfl (aa ag (aa ae (aH (by show((k:Int)<((aq F).length:Int));rw[aA];omega) ?_)))
    have fp:∀ {β:Type} {g:List D->Option β} {y:β},g (ah F[k].2)=some y->(Option.bind (D.asSl (.sl (aq F))) λl46=>Option.bind (D.idx (I (k:Int)) (List.length l46)) λi47=>Option.bind (l46[i47]?) λx48=>Option.bind (D.fld x48 2) λx49=>Option.bind (D.asSl x49) g)=some y:=λh=>
     aa (z:=aq F) rfl (aa (z:=k) (by rw[aA];exact ap hk) (aa (cV hk) (aa (z:=.sl (ah F[k].2)) rfl (aa (z:=ah F[k].2) rfl h))))
    rw[e1];generalize jr (F.take k) i=b0;obtain⟨p,hp⟩:∃ p,F[k].2=p:=⟨_,rfl⟩;rw[hp] at hpk fp ⊢;refine bY (λj s=>s=[.bool (b0||(p.take j).any λx=>decide (x=i)),I (j:Int),.sl [],I 0,aS (dj S F i),I 0]) p.length 0 (zia _) (by rw[List.take_zero,List.any_nil,Bool.or_false];rfl) (λj hj s hJ=>?_) (λs hJ=>?_)
    ·subst hJ;left;refine⟨[.bool (b0||(p.take (j+1)).any λx=>decide (x=i)),I ((j+1:Nat):Int),.sl [],I 0,aS (dj S F i),I 0],?_,rfl⟩;refine fp (aa ag (aa ae (aH (by show((j:Int)<((ah p).length:Int));rw[ao];omega) (aa ae (aa (z:=b0||(p.take (j+1)).any λx=>decide (x=i)) ?_ (aa (aw (ay (i:=j) (by omega))) rfl))))))
     rw[zqa hj,zGc];generalize (p.take j).any (λx=>decide (x=i))=b1;cases hb:(b0||b1)
     ·rw[<-Bool.or_assoc,hb,if_neg (by decide)]
      refine fp (aa (z:=j) (by rw[ao];exact ap hj) (aa (iG hj) ?_))
      have:D.beq (I ((p.getD j 0:Nat):Int)) (I (i:Int))=decide (p[j]=i):=by rw[bR];simp[List.getD,hj]
      show D.truth (D.bool (D.beq (I ((p.getD j 0:Nat):Int)) (I (i:Int))))=_;rw[this,ae];simp
     ·rw[<-Bool.or_assoc,hb];rfl
    ·subst hJ;rw[zKa];refine⟨(0,[.bool (b0||p.any λx=>decide (x=i)),.sl [],I 0,aS (dj S F i),I 0]),fp (aa ag (aa ae (aC (by show ¬ ((p.length:Int)<((ah p).length:Int));rw[ao];omega) rfl))),?_⟩
     exact aa (aw (ay (i:=k) (by omega))) rfl
   ·subst hJ;rw[zKa];refine⟨(0,[.bool (jr F i),.sl [],I 0,aS (dj S F i),I 0]),?_,?_⟩
    ·exact aa (z:=aq F) rfl (aa ag (aa ae (aC (by show ¬ ((F.length:Int)<((aq F).length:Int));rw[aA];omega) rfl)))
    ·rw[Bc];refine aa (z:=jr F i) ae ?_;cases jr F i
     ·rfl
     ·rw[if_pos rfl,if_pos rfl];refine aa (z:=S.map af) rfl (aa (z:=i) (by rw[aN];exact ap hi) (aa (cN hi) ?_))
      rw[if_pos (by show((dj S F i).map af).length+1<=1073741824;rw[aN];omega)]
      have:D.sl ((dj S F i).map af++[af (S.getD i V.zero)])=aS (dj S F i++[pt S i]):=by simp[aS,pt]
      rw[<-this];rfl
  ·subst hJ;refine⟨(0,[.sl [],I 0,aS (dj S F S.length),I 0]),?_,rfl⟩;exact aa (z:=S.map af) rfl (aa ag (aa ae (aC (by show ¬ ((S.length:Int)<((S.map af).length:Int));rw[aN];omega) rfl)))
def ze{l:List V}(hs:Eh l){m:V}{d:Int}(hF:IsF (pt l) l.length m d){p:List Nat}(hp:bE (pt l) l.length m d p):p.Nodup/\p.length<=l.length/\0<p.length/\∀ x∈p,x<l.length:=by
 obtain⟨p',hp',hnd,hmem⟩:=hF.poly hs;have e:=bE.eq hs hF hp hp';subst e;obtain⟨a,_,ha,hea,_,_⟩:=hF.head hs;have hm:a∈p:=(hmem a).2 ⟨ha,hea⟩;refine⟨hnd,?_,List.length_pos_iff.2 (λe=>by rw[e] at hm;cases hm),λx hx=>(aU.1 ((hmem x).1 hx).1).1⟩
 have:=z5b (l₂:=List.range l.length) hnd λx hx=>zJa.2 (aU.1 ((hmem x).1 hx).1).1;simpa using this
def Jq{l:List V}(hl:∀ x∈l,bd MV x):∀ x∈dQ l,bd MV x:=λx hx=>hl x (yU.1 hx)
def XA(n:Nat){l:List V}(hlen:l.length<=100):(64<l.length/\cA (n+8) 12 [aS l]=some (Ah 2))\/(l.length<=64/\(¬ ∀ x∈l,bd MV x)/\cA (n+8) 12 [aS l]=some (Ah 1)) ∨
  (l.length<=64/\(∀ x∈l,bd MV x)/\∃ F:FL,KnF (dQ l) (dQ l).length 0 0 F/\cA (n+8) 12 [aS l]=some (BQ (dQ l) F)):=by
 by_cases h64:64<l.length
 ·exact .inl ⟨h64,Iu (n+7) h64⟩
 ·by_cases hb:∀ x∈l,bd MV x
  ·right;right;refine⟨by omega,hb,?_⟩
   have hsl:=oR l;have hS:=F7 (tW l);obtain⟨F,h1,h2⟩:=Vy n (Jq hb) (by omega) hS
   refine⟨F,h1,Eu (n+5) (by omega) hb (λf hf=>?_) (zAa (h1.fok.len (by omega)) (by decide)) h2⟩
   obtain⟨q1,q2⟩:=h1.fok.ok f hf;have:=(ze hS q1 q2).2.1;omega
  ·exact .inr (.inl ⟨by omega,hb,It (n+7) (by omega) hb⟩)
def DW(S:List V)(F:FL):(dj S F S.length).Sublist S:=by
 have h1:((List.range S.length).map (pt S))=S:=by
  apply zcc;intro i;by_cases h:i<S.length
  ·rw[zcb,zgd h];simp[pt,List.getD,h]
  ·rw[zcb,show(List.range S.length)[i]?=none by simp;omega];simp;omega
 have h2:(dj S F S.length).Sublist ((List.range S.length).map (pt S)):=List.Sublist.map _ List.filter_sublist;rw[h1] at h2;exact h2
def XC(n:Nat){l:List V}(hlen:l.length<=100):(∃ e:Int,cA (n+9) 15 [be l]=some (I e)/\e≠0)\/(cA (n+9) 15 [be l]=some (I 0)/\l.length<=64/\(∀ x∈l,bd MV x)/\∃ F:FL,KnF (dQ l) (dQ l).length 0 0 F/\F.length≠0/\F.length<=64/\dj (dQ l) F (dQ l).length=l):=by
 rw[XV]
 delta NQ qG qT Jn
 have err:∀ e:Int,e≠0->cA (n+8) 12 [aS l]=some (Ah e)->∃ e:Int,(Option.bind (D.get (be l) [0]) λx1=>
 Option.bind (cA (n+8) 12 [x1]) λr2=>
 Option.bind (D.get r2 [1]) λx3=>
 Option.bind (D.truth (D.bool (D.beq x3 (D.int .i64 0)))) λb4=>
 Option.bind (if b4 then(Option.bind (D.get r2 [0,0]) λx5=>
 Option.bind (D.get (be l) [0]) λx6=>
 Option.bind (cA (n+8) 13 [x5,x6]) λr7=>
 Option.bind (D.un .not r7) λx8=>
 D.truth x8) else(some false)) λb9=>
 Option.bind (D.truth (D.bool b9)) λb10=>
 if b10 then(some (D.int .i64 3)) else(Option.bind (D.get r2 [1]) λx11=>
 some x11))=some (I e)/\e≠0:=λe he h=>⟨e,by
  refine aa (z:=aS l) rfl (aa h (aa (z:=I e) rfl (aa (z:=false) ?_ (aa (z:=false) rfl (aa (z:=false) rfl rfl)))));rw[show D.beq (I e) (D.int .i64 0)=decide (e=0) from bO,decide_eq_false he];rfl,he⟩
 rcases XA n hlen with⟨h1,h2⟩|⟨h0,h1,h2⟩|⟨h0,h1,F,h2,h3⟩
 ·exact .inl (err 2 (by decide) h2)
 ·exact .inl (err 1 (by decide) h2)
 ·unfold BQ at h3;by_cases f0:F.length=0
  ·rw[if_pos f0] at h3;exact .inl (err 120 (by decide) h3)
  ·rw[if_neg f0] at h3;by_cases f1:F.length>64
   ·rw[if_pos f1] at h3;exact .inl (err 2 (by decide) h3)
   ·rw[if_neg f1] at h3;have hvl:=vZ (dQ l) F (dQ l).length;have hsl:=oR l;have h13:=XB (n+7) (dj (dQ l) F (dQ l).length) l (by omega)
    by_cases hv:dj (dQ l) F (dQ l).length=l
    ·rw[decide_eq_true hv] at h13;refine .inr ⟨?_,h0,h1,F,h2,f0,by omega,hv⟩
     refine aa (z:=aS l) rfl (aa h3 (aa (z:=I 0) rfl (aa (z:=true) rfl (aa (z:=false) ?_ (aa (z:=false) rfl rfl)))));rw[if_pos rfl];exact aa (z:=aS (dj (dQ l) F (dQ l).length)) rfl (aa (z:=aS l) rfl (aa h13 rfl))
    ·rw[decide_eq_false hv] at h13;refine .inl ⟨3,?_,by decide⟩
     refine aa (z:=aS l) rfl (aa h3 (aa (z:=I 0) rfl (aa (z:=true) rfl (aa (z:=true) ?_ (aa (z:=true) rfl rfl)))));rw[if_pos rfl];exact aa (z:=aS (dj (dQ l) F (dQ l).length)) rfl (aa (z:=aS l) rfl (aa h13 rfl))
end Sy
end
noncomputable section
namespace Sy
open Go Go.Proofs Geo
def CM(n:Nat){x y:Int}(hx:In x)(hy:In y)(h:In (x*y)):cA (n+3) 61 [am x,am y]=some (am (x*y)):=by
 have:=VA n (a:=some x) (b:=some y) (bI hx) (bI hy)
 rwa [show mT (some x) (some y)=some (x*y) from eY h] at this
def wo(n:Nat){x y:Int}(hx:In x)(hy:In y)(h:In (x+y)):cA (n+4) 57 [am x,am y]=some (am (x+y)):=by
 have:=Vz n (a:=some x) (b:=some y) (bI hx) (bI hy)
 rwa [show zV (some x) (some y)=some (x+y) from eY h] at this
def ld{α:Type}{A B y:α}(h:A=y):(if true=true then A else B)=y:=h
def MI(n:Nat){v:V}(h1:inR v.x)(h2:inR v.y)(h3:inR v.z):cA (n+3) 148 [af v]=some (kZ v):=by
 rw[Um];delta Hh qB qC qZ iL iR Jn;obtain⟨Z,hZ⟩:∃ Z,(D.st [(D.bool false),(D.bool false),(aJ bf)])=Z:=⟨_,rfl⟩;rw[hZ];refine bZ (s':=[I 1,.st [am v.x,Z,Z]]) ?_ (bZ (s':=[I 2,.st [am v.x,am v.y,Z]]) ?_ (bZ (s':=[I 3,kZ v]) ?_ (g8 (r:=(0,[kZ v])) ?_ rfl)))
 ·exact aa (z:=.bool true) rfl (aa (z:=true) rfl (ld (aa (z:=0) rfl (aa (z:=I v.x) rfl (aa (Bx n h1) (aa (z:=0) rfl (aa (z:=.st [am v.x,Z,Z]) rfl (aa (z:=I 1) rfl rfl))))))))
 ·exact aa (z:=.bool true) rfl (aa (z:=true) rfl (ld (aa (z:=1) rfl (aa (z:=I v.y) rfl (aa (Bx n h2) (aa (z:=1) rfl (aa (z:=.st [am v.x,am v.y,Z]) rfl (aa (z:=I 2) rfl rfl))))))))
 ·exact aa (z:=.bool true) rfl (aa (z:=true) rfl (ld (aa (z:=2) rfl (aa (z:=I v.z) rfl (aa (Bx n h3) (aa (z:=2) rfl (aa (z:=kZ v) rfl (aa (z:=I 3) rfl rfl))))))))
 ·exact aa (z:=.bool false) rfl (aa (z:=false) rfl rfl)
def SA(n:Nat){u v:V}(hu:In u.x/\In u.y/\In u.z)(hv:In v.x/\In v.y/\In v.z)(h1:(u.x*v.x).natAbs<=2^100)(h2:(u.y*v.y).natAbs<=2^100)(h3:(u.z*v.z).natAbs<=2^100):cA (n+5) 147 [kZ u,kZ v]=some (am (V.dot u v)):=by
 rw[Ul];delta Hg qB qC qJ qZ iL iR Jn;have i1:In (u.x*v.x):=ff (by decide) h1
 have i2:In (u.y*v.y):=ff (by decide) h2
 have i3:In (u.z*v.z):=ff (by decide) h3
 have e1:=zIc (u.x*v.x) (u.y*v.y);have e2:=zIc (u.x*v.x+u.y*v.y) (u.z*v.z);have j2:In (u.x*v.x+u.y*v.y):=ff (k:=110) (by decide) (by omega)
 have j3:In (V.dot u v):=ff (k:=110) (by decide) (by unfold V.dot;omega)
 have j0:In 0:=cL (eH 0);refine aa (Bx (n+2) (eH 0)) ?_;refine bZ (s':=[I 1,am (u.x*v.x)]) ?_ (bZ (s':=[I 2,am (u.x*v.x+u.y*v.y)]) ?_ (bZ (s':=[I 3,am (V.dot u v)]) ?_ (g8 (r:=(0,[am (V.dot u v)])) ?_ rfl)))
 ·exact aa (z:=.bool true) rfl (aa (z:=true) rfl (ld (aa (z:=0) rfl (aa (z:=am u.x) rfl (aa (z:=0) rfl (aa (z:=am v.x) rfl (aa (CM (n+1) hu.1 hv.1 i1) (aa (wo n j0 i1 (by rw[z8c];exact i1)) (aa (z:=I 1) rfl (by rw[z8c]))))))))))
 ·exact aa (z:=.bool true) rfl (aa (z:=true) rfl (ld (aa (z:=1) rfl (aa (z:=am u.y) rfl (aa (z:=1) rfl (aa (z:=am v.y) rfl (aa (CM (n+1) hu.2.1 hv.2.1 i2) (aa (wo n i1 i2 j2) (aa (z:=I 2) rfl rfl)))))))))
 ·exact aa (z:=.bool true) rfl (aa (z:=true) rfl (ld (aa (z:=2) rfl (aa (z:=am u.z) rfl (aa (z:=2) rfl (aa (z:=am v.z) rfl (aa (CM (n+1) hu.2.2 hv.2.2 i3) (aa (wo n j2 i3 j3) (aa (z:=I 3) rfl rfl)))))))))
 ·exact aa (z:=.bool false) rfl (aa (z:=false) rfl rfl)
def XL(n:Nat){u v:V}(hu:bd 1152921504606846976 u)(hv:bd 1152921504606846976 v)(h1:(u.x*v.x).natAbs<=2^100)(h2:(u.y*v.y).natAbs<=2^100)(h3:(u.z*v.z).natAbs<=2^100):cA (n+6) 91 [af u,af v]=some (am (V.dot u v)):=by
 rw[Yv];unfold Ow;simp only[bd] at hu hv;have a1:inR u.x:=by simp only[inR];omega
 have a2:inR u.y:=by simp only[inR];omega
 have a3:inR u.z:=by simp only[inR];omega
 have b1:inR v.x:=by simp only[inR];omega
 have b2:inR v.y:=by simp only[inR];omega
 have b3:inR v.z:=by simp only[inR];omega
 exact aa (MI (n+2) a1 a2 a3) (aa (MI (n+2) b1 b2 b3) (aa (SA n ⟨cL a1,cL a2,cL a3⟩ ⟨cL b1,cL b2,cL b3⟩ h1 h2 h3) rfl))
def M7(n:Nat){t:T3}(h:bd MV t.1/\bd MV t.2.1/\bd MV t.2.2):cA (n+6) 117 [af t.1,af t.2.1]=some (af (V.cross t.1 t.2.1))/\cA (n+6) 91 [af (V.cross t.1 t.2.1),af t.2.2]=some (am (jc t)):=by
 have hc:=eB h.1 h.2.1;have h3:=h.2.2;refine⟨Kv (n+5) h.1 h.2.1 (by decide),?_⟩
 have e:(2:Int)*(MV*MV)=137438953472:=rfl;rw[e] at hc;have hm:MV=262144:=rfl;have key:∀ a b:Int,(-137438953472<=a/\a<=137438953472)->(-MV<=b/\b<=MV)->(a*b).natAbs<=2^100:=λa b ha hb=>by
  rw[zHa];exact dM (i:=37) (j:=18) (by rw[show(2:Nat)^37=137438953472 from rfl];omega) (by rw[show(2:Nat)^18=262144 from rfl];omega) (by decide)
 refine XL n ?_ ?_ (key _ _ hc.1 h3.1) (key _ _ hc.2.1 h3.2.1) (key _ _ hc.2.2 h3.2.2)
 ·simp only[bd] at *;omega
 ·simp only[bd] at *;omega
def Jd{α:Type}{l:List V}{p:List Nat}{j:Nat}{K:D->Option α}{y:α}(hj:j<p.length)(hk:p.getD j 0<l.length)(h:K (af (pt l (p.getD j 0)))=some y) :
  (Option.bind (D.asSl (.sl (ah p))) λl17=>Option.bind (D.idx (I (j:Int)) (List.length l17)) λi18=>Option.bind (l17[i18]?) λx19=>Option.bind (D.asSl (aS l)) λl20=>Option.bind (D.idx x19 (List.length l20)) λi21=>Option.bind (l20[i21]?) K)=some y:=by
 refine aa (z:=ah p) rfl (aa (wL hj) (aa (iG hj) (aa (z:=l.map af) rfl (aa (z:=p.getD j 0) (by rw[aN];exact ap hk) (aa (z:=af (pt l (p.getD j 0))) ?_ h)))))
 generalize p.getD j 0=k at *;unfold pt;rw[zcb,zSa,zca hk];rfl
def c23(n:Nat){l:List V}{F:FL}(hl:∀ x∈l,bd MV x)(hF:FIn l F)(h18:cA (n+9) 18 [be l]=some (.sl (aq F))):cA (n+10) 23 [be l]=some (am (aB jc (ic l F))):=by
 rw[XZ];delta NU qG qB qC qS qX qY qM qZ iL iR Jn;have hFl:=hF.len;refine aa (Bx (n+7) (eH 0)) (aa h18 (aa (z:=aq F) rfl ?_));obtain⟨Z,hZ⟩:∃ Z,(D.st [(D.bool false),(D.bool false),(aJ bf)])=Z:=⟨_,rfl⟩;rw[hZ];refine bc (λi s=>s=[I (i:Int),Z,am (aB jc (ic l (F.take i)))]) F.length 0 (zia _) (by simp[ic,aB]) (λi hi s hJ=>?_) (λs hJ=>?_)
 ·subst hJ;left;refine⟨_,?_,rfl⟩;refine aa ag (aa ae (aH (by show((i:Int)<((aq F).length:Int));rw[aA];omega) ?_))
  refine aa (z:=aq F) rfl (aa (z:=i) (by rw[aA];exact ap hi) (aa (cV hi) ?_))
  have hpart:=λm (hm:m<=F[i].2.length-2)=>xg hl hF hi hm;obtain⟨k1,k2,k3⟩:=hF.ok F[i] (zra hi);rw[mK l hi];generalize F[i]=f at *;obtain⟨q,p⟩:=f;simp only at *;generalize ic l (F.take i)=T at *;refine bY (λj s=>s=[I ((j+2:Nat):Int),Z,am (aB jc (T++Ak l p j))]) (p.length-2) 0 (zia _) (by rw[sN,z4b];rfl) (λj hj s hJ=>?_) (λs hJ=>?_)
  ·subst hJ;left;refine⟨_,?_,rfl⟩;have hp1:=hpart j (by omega)
   have hp2:=hpart (j+1) (by omega)
   have b0:=kW hl (k3 0 (by omega))
   have b1:=kW hl (k3 (j+1) (by omega))
   have b2:=kW hl (k3 (j+2) (by omega))
   obtain⟨v1,v2⟩:=M7 (n+3) (t:=(pt l (p.getD 0 0),pt l (p.getD (j+1) 0),pt l (p.getD (j+2) 0))) ⟨b0,b1,b2⟩;have hs1:=kl hp1;have hs2:=kl hp2;rw[sK,<-zOa,oV] at hs2 ⊢;have hv:=qi (t:=(pt l (p.getD 0 0),pt l (p.getD (j+1) 0),pt l (p.getD (j+2) 0))) ⟨b0,b1,b2⟩;refine aa (z:=.sl (ah p)) rfl (aa (z:=ah p) rfl (aa ag (aa ae (aH (by show(((j+2:Nat):Int)<((ah p).length:Int));rw[ao];omega) ?_))))
   refine aa (z:=aS l) rfl (aa (z:=.sl (ah p)) rfl (Jd (j:=0) (by omega) (k3 _ (by omega)) ?_))
   refine aa (z:=aS l) rfl (aa (z:=.sl (ah p)) rfl (aa (jM (a:=j+2) (b:=1) rfl (by omega) (by omega)) (Jd (j:=j+1) (by omega) (k3 _ (by omega)) ?_)))
   refine aa (z:=aS l) rfl (aa (z:=.sl (ah p)) rfl (Jd (j:=j+2) (by omega) (k3 _ (by omega)) ?_))
   exact aa v1 (aa v2 (aa (wo (n+5) (ff (by decide) hs1) (ff (by decide) hv) (ff (by decide) hs2)) (aa (aD (a:=j+2) (b:=1) (by omega)) rfl)))
  ·subst hJ;refine⟨_,aa (z:=.sl (ah p)) rfl (aa (z:=ah p) rfl (aa ag (aa ae (aC (by show ¬ (((p.length-2+2:Nat):Int)<((ah p).length:Int));rw[ao];omega) rfl)))),?_⟩
   exact aa (aD (a:=i) (b:=1) (by omega)) rfl
 ·subst hJ;refine⟨_,aa ag (aa ae (aC (by show ¬ ((F.length:Int)<((aq F).length:Int));rw[aA];omega) rfl)),?_⟩
  rw[zKa];rfl
end Sy
end
noncomputable section
namespace Sy
open Go Go.Proofs Geo
def mY(f:Nat->Int):D:=.st [am (f 0),am (f 1),am (f 2)]
def dU(f:Nat->Nat->Int):D:=.st [mY (f 0),mY (f 1),mY (f 2)]
def No{k:Nat}(h:k<3):k=0\/k=1\/k=2:=by omega
def iI{k:Nat}(h:k<3)(v:V):D.get (af v) [k]=some (I (cmp k v)):=by rcases No h with rfl|rfl|rfl<;>rfl
def Lo{k:Nat}(h:k<3){f g:Nat->Int}{v:Int}(hg:∀ j,j<3->g j=if j=k then v else f j):D.set (mY f) [k] (am v)=some (mY g):=by
 have g0:=hg 0 (by decide);have g1:=hg 1 (by decide);have g2:=hg 2 (by decide)
 unfold mY;rcases No h with rfl|rfl|rfl
 ·rw[if_pos rfl] at g0;rw[if_neg (by decide)] at g1;rw[if_neg (by decide)] at g2
  rw[g0,g1,g2];rfl
 ·rw[if_neg (by decide)] at g0;rw[if_pos rfl] at g1;rw[if_neg (by decide)] at g2
  rw[g0,g1,g2];rfl
 ·rw[if_neg (by decide)] at g0;rw[if_neg (by decide)] at g1;rw[if_pos rfl] at g2
  rw[g0,g1,g2];rfl
def BO{i k:Nat}(hi:i<3)(hk:k<3)(f:Nat->Nat->Int):D.get (dU f) [i,k]=some (am (f i k)):=by
 rcases No hi with rfl|rfl|rfl<;>rcases No hk with rfl|rfl|rfl<;>rfl
def Jl{i k:Nat}(hi:i<3)(hk:k<3){f g:Nat->Nat->Int}{v:Int}(hg:∀ a b,a<3->b<3->g a b=if a=i/\b=k then v else f a b):D.set (dU f) [i,k] (am v)=some (dU g):=by
 have e:∀ a,a<3->a≠i->mY (f a)=mY (g a):=λa ha hne=>by
  unfold mY;rw[hg a 0 ha (by decide),hg a 1 ha (by decide),hg a 2 ha (by decide),if_neg (λh=>hne h.1),if_neg (λh=>hne h.1),if_neg (λh=>hne h.1)]
 have s:=Lo hk (f:=f i) (g:=g i) (v:=v) λj hj=>by
  rw[hg i j hi hj];by_cases h:j=k
  ·rw[if_pos ⟨rfl,h⟩,if_pos h]
  ·rw[if_neg (λc=>h c.2),if_neg h]
 unfold dU;rcases No hi with rfl|rfl|rfl
 ·rw[<-e 1 (by decide) (by decide),<-e 2 (by decide) (by decide)]
  simp only[D.set,zeb,zba,s,zBc]
 ·rw[<-e 0 (by decide) (by decide),<-e 2 (by decide) (by decide)]
  simp only[D.set,zeb,z7a,zba,s,zBc,zZc]
 ·rw[<-e 0 (by decide) (by decide),<-e 1 (by decide) (by decide)]
  simp only[D.set,zeb,z7a,zba,s,zBc,zZc]
def LF:D.st [D.bool false,D.bool false,aJ bf]=am 0:=by rw[fQ,cu];rfl
def fL{k:Nat}(h:k<3):D.idx (I (k:Int)) 3=some k:=ap h
def kY{v:V}(h:bd MV v)(i:Nat):-262144<=cmp i v/\cmp i v<=262144:=by have:=fg h i;omega
def gf{x:Int}{k:Nat}(h:x.natAbs<=2^k)(hk:k<=511:=by decide):In x:=ff hk h
def Th(n:Nat){x:Int}(hx:In x):cA (n+3) 68 [am x]=some (am (-x)):=Cb n hx
def qy(f:Nat->Nat->Int)(m:Nat):Rat:=Rat.divInt (if m/3=m%3 then -(f (m/3) (m%3))+(f 0 0+f 1 1+f 2 2) else -(f (m/3) (m%3))) 120
def c9(f:Nat->Nat->Int)(m:Nat):List D:=(List.range m).map λj=>dq (qy f j)
def qx(f:Nat->Nat->Int)(m:Nat):c9 f (m+1)=c9 f m++[dq (qy f m)]:=by unfold c9;rw[zGb,zPb];rfl
def s7(f:Nat->Nat->Int)(m:Nat):(c9 f m).length=m:=by simp[c9]
def M8{i k:Nat}(h:k<3):(3*i+k)/3=i/\(3*i+k)%3=k:=by omega
def Cg{A B C:V}(h:bd MV A/\bd MV B/\bd MV C)(i k:Nat) :
  (-786432<=cmp i A+cmp i B+cmp i C/\cmp i A+cmp i B+cmp i C<=786432)/\(-786432<=cmp k A+cmp k B+cmp k C/\cmp k A+cmp k B+cmp k C<=786432) ∧
  ((cmp i A+cmp i B+cmp i C)*(cmp k A+cmp k B+cmp k C)).natAbs<=618475290624/\(cmp i A*cmp k A).natAbs<=68719476736/\(cmp i B*cmp k B).natAbs<=68719476736/\(cmp i C*cmp k C).natAbs<=68719476736:=by
 have key:∀ {a b:Int} {m:Nat},a.natAbs<=m->b.natAbs<=m->(a*b).natAbs<=m*m:=λha hb=>by rw[zHa];exact z2a ha hb
 have s1:=Cj (t:=(A,B,C)) h i;have s2:=Cj (t:=(A,B,C)) h k;unfold sm at s1 s2;simp only at s1 s2;refine⟨by omega,by omega,key s1 s2,key (fg h.1 i) (fg h.1 k),key (fg h.2.1 i) (fg h.2.1 k),key (fg h.2.2 i) (fg h.2.2 k)⟩
def c28(n:Nat){l:List V}{F:FL}(hl:∀ x∈l,bd MV x)(hF:FIn l F)(h18:∀ m,cA (m+8) 18 [be l]=some (.sl (aq F))) :
  cA (n+1031) 28 [be l]=some (.st [I 3,I 3,.sl (c9 (λi k=>aB (cF i k) (ic l F)) 9)]):=by
 rw[X2];delta NW qG qB qC qT qS qX qY qM qJ qV qW qZ iL iR Jn;have hFl:=hF.len;rw[LF];refine aa (h18 (n+1022)) (aa (z:=aq F) rfl ?_);refine bc (λi s=>s=[I (i:Int),I 0,I 0,.sl [],dU λa b=>aB (cF a b) (ic l (F.take i))]) F.length 0 (zia _) (by simp[ic,aB];rfl) (λi hi s hJ=>?_) (λs hJ=>?_)
 ·subst hJ;left;refine⟨_,?_,rfl⟩;refine aa ag (aa ae (aH (by show((i:Int)<((aq F).length:Int));rw[aA];omega) ?_))
  refine aa (z:=aq F) rfl (aa (z:=i) (by rw[aA];exact ap hi) (aa (cV hi) ?_))
  have hpart:=λm (hm:m<=F[i].2.length-2)=>xg hl hF hi hm;obtain⟨k1,k2,k3⟩:=hF.ok F[i] (zra hi);rw[mK l hi];generalize F[i]=f at *;obtain⟨q,p⟩:=f;simp only at *;generalize ic l (F.take i)=T at *;refine bY (λj s=>s=[I ((j+2:Nat):Int),I 0,I 0,.sl [],dU λa b=>aB (cF a b) (T++Ak l p j)]) (p.length-2) 0 (zia _) (by rw[sN,z4b];rfl) (λj hj s hJ=>?_) (λs hJ=>?_)
  ·subst hJ;left;refine⟨_,?_,rfl⟩;have hp1:=hpart j (by omega)
   have hp2:=hpart (j+1) (by omega)
   have b0:=kW hl (k3 0 (by omega))
   have b1:=kW hl (k3 (j+1) (by omega))
   have b2:=kW hl (k3 (j+2) (by omega))
   obtain⟨v1,v2⟩:=M7 (n+1024) (t:=(pt l (p.getD 0 0),pt l (p.getD (j+1) 0),pt l (p.getD (j+2) 0))) ⟨b0,b1,b2⟩;have hs1:=λa b=>fI a b hp1;have hs2:=λa b=>fI a b hp2;have hv:=qi (t:=(pt l (p.getD 0 0),pt l (p.getD (j+1) 0),pt l (p.getD (j+2) 0))) ⟨b0,b1,b2⟩;have hm:=λa b=>A0 a b (t:=(pt l (p.getD 0 0),pt l (p.getD (j+1) 0),pt l (p.getD (j+2) 0))) ⟨b0,b1,b2⟩;rw[sK,<-zOa] at hs2 ⊢;simp only[oV] at hs2 ⊢;refine aa (z:=.sl (ah p)) rfl (aa (z:=ah p) rfl (aa ag (aa ae (aH (by show(((j+2:Nat):Int)<((ah p).length:Int));rw[ao];omega) ?_))))
   refine aa (z:=aS l) rfl (aa (z:=.sl (ah p)) rfl (Jd (j:=0) (by omega) (k3 _ (by omega)) ?_))
   refine aa (z:=aS l) rfl (aa (z:=.sl (ah p)) rfl (aa (jM (a:=j+2) (b:=1) rfl (by omega) (by omega)) (Jd (j:=j+1) (by omega) (k3 _ (by omega)) ?_)))
   refine aa (z:=aS l) rfl (aa (z:=.sl (ah p)) rfl (Jd (j:=j+2) (by omega) (k3 _ (by omega)) ?_))
   refine aa v1 (aa v2 ?_);generalize pt l (p.getD 0 0)=A at *;generalize pt l (p.getD (j+1) 0)=B at *;generalize pt l (p.getD (j+2) 0)=C at *;generalize T++Ak l p j=S at *;obtain⟨ST,hST⟩:∃ ST,D.st [af A,af B,af C]=ST:=⟨_,rfl⟩;rw[hST];refine bY (λi s=>s=[I (i:Int),I 0,I 0,.sl [],dU (λa b=>if a<i then aB (cF a b) S+cF a b (A,B,C) else aB (cF a b) S),be l,li q p]) 3 0 (zia _) rfl (λi hi s hJ=>?_) (λs hJ=>?_)
   ·subst hJ;left;refine⟨[I ((i+1:Nat):Int),I 0,I 0,.sl [],dU (λa b=>if a<i+1 then aB (cF a b) S+cF a b (A,B,C) else aB (cF a b) S),be l,li q p],?_,rfl⟩
    refine aa ag (aa ae (aH (by show(i:Int)<3;omega) ?_))
    refine bY (λk s=>s=[I (k:Int),I 0,I 0,.sl [],dU (λa b=>if a<i\/a=i/\b<k then aB (cF a b) S+cF a b (A,B,C) else aB (cF a b) S),be l,li q p]) 3 0 (zia _) (by
     have e0:dU (λa b=>if a<i then aB (cF a b) S+cF a b (A,B,C) else aB (cF a b) S)=dU (λa b=>if a<i\/a=i/\b<0 then aB (cF a b) S+cF a b (A,B,C) else aB (cF a b) S):=by
      congr 1;funext a b;simp
     rw[<-e0];rfl) (λk hk s hJ=>?_) (λs hJ=>?_)
    ·subst hJ;left;refine⟨[I ((k+1:Nat):Int),I 0,I 0,.sl [],dU (λa b=>if a<i\/a=i/\b<k+1 then aB (cF a b) S+cF a b (A,B,C) else aB (cF a b) S),be l,li q p],?_,rfl⟩
     have a0:=kY b0 i;have a1:=kY b1 i;have a2:=kY b2 i;have e0:=kY b0 k;have e1:=kY b1 k;have e2:=kY b2 k;obtain⟨q1,q2,q3,q4,q5,q6⟩:=Cg ⟨b0,b1,b2⟩ i k;have hq:AN i k (A,B,C)=(cmp i A+cmp i B+cmp i C)*(cmp k A+cmp k B+cmp k C)+cmp i A*cmp k A+cmp i B*cmp k B+cmp i C*cmp k C:=rfl;have hql:=xj (t:=(A,B,C)) ⟨b0,b1,b2⟩ i k;refine aa ag (aa ae (aH (by show(k:Int)<3;omega) ?_))
     refine aa (fL hi) (aa (iI hi A) (aa (fL hi) (aa (iI hi B) (aa (aw (by simp only[inR];omega)) (aa (fL hi) (aa (iI hi C) (aa (aw (by simp only[inR];omega)) ?_)))))))
     refine aa (fL hk) (aa (iI hk A) (aa (fL hk) (aa (iI hk B) (aa (aw (by simp only[inR];omega)) (aa (fL hk) (aa (iI hk C) (aa (aw (by simp only[inR];omega)) ?_)))))))
     refine aa (co (by simp only[inR];omega)) ?_
     obtain⟨M,hM⟩:∃ M,dU (λa b=>if a<i\/a=i/\b<k then aB (cF a b) S+cF a b (A,B,C) else aB (cF a b) S)=M:=⟨_,rfl⟩
     have gM:D.get M [i,k]=some (am (aB (cF i k) S)):=by
      rw[<-hM,BO hi hk];rw[if_neg (by omega)]
     have sM:∀ v,v=aB (cF i k) S+cF i k (A,B,C)->D.set M [i,k] (am v)=some (dU (λa b=>if a<i\/a=i/\b<k+1 then aB (cF a b) S+cF a b (A,B,C) else aB (cF a b) S)):=λv hv=>by
      rw[<-hM];refine Jl hi hk λa b ha hb=>?_;by_cases h:a=i/\b=k
      ·obtain⟨rfl,rfl⟩:=h;rw[if_pos (.inr ⟨rfl,zbd _⟩),if_pos ⟨rfl,rfl⟩,hv]
      ·rw[if_neg h];by_cases h2:a<i\/a=i/\b<k
       ·rw[if_pos h2,if_pos (by omega)]
       ·rw[if_neg h2,if_neg (by omega)]
     rw[hM];generalize (cmp i A+cmp i B+cmp i C)*(cmp k A+cmp k B+cmp k C)=x0 at *;generalize hx1:cmp i A*cmp k A=x1 at *;generalize hx2:cmp i B*cmp k B=x2 at *;generalize hx3:cmp i C*cmp k C=x3 at *;refine bZ (s':=[I (x0+x1),I 1,I 0,I 0,.sl [],be l,li q p]) ?_ (bZ (s':=[I (x0+x1+x2),I 2,I 0,I 0,.sl [],be l,li q p]) ?_ (bZ (s':=[I (x0+x1+x2+x3),I 3,I 0,I 0,.sl [],be l,li q p]) ?_ (g8 (r:=(0,[I (x0+x1+x2+x3),I 0,I 0,.sl [],be l,li q p])) ?_ ?_)))
     ·refine aa (z:=.bool true) rfl (aa (z:=true) rfl (ld (aa (z:=0) rfl (aa (z:=af A) (show D.fld ST 0=_ by rw[<-hST];rfl) (aa (fL hi) (aa (iI hi A) (aa (fL hk) (aa (iI hk A) (aa (co (by simp only[inR];omega)) ?_)))))))))
      rw[hx1];exact aa (aw (by simp only[inR];omega)) (aa (z:=I 1) rfl rfl)
     ·refine aa (z:=.bool true) rfl (aa (z:=true) rfl (ld (aa (z:=1) rfl (aa (z:=af B) (show D.fld ST 1=_ by rw[<-hST];rfl) (aa (fL hi) (aa (iI hi B) (aa (fL hk) (aa (iI hk B) (aa (co (by simp only[inR];omega)) ?_)))))))))
      rw[hx2];exact aa (aw (by simp only[inR];omega)) (aa (z:=I 2) rfl rfl)
     ·refine aa (z:=.bool true) rfl (aa (z:=true) rfl (ld (aa (z:=2) rfl (aa (z:=af C) (show D.fld ST 2=_ by rw[<-hST];rfl) (aa (fL hi) (aa (iI hi C) (aa (fL hk) (aa (iI hk C) (aa (co (by simp only[inR];omega)) ?_)))))))))
      rw[hx3];exact aa (aw (by simp only[inR];omega)) (aa (z:=I 3) rfl rfl)
     ·exact aa (z:=.bool false) rfl (aa (z:=false) rfl rfl)
     ·refine aa (fL hi) (aa (fL hk) (aa gM (aa (Bx (n+1028) (by simp only[inR];omega)) ?_)))
      rw[<-hq];refine aa (CM (n+1027) (gf hv) (gf (k:=40) (zAa hql (by decide))) (gf (hm i k))) ?_
      refine aa (wo (n+1026) (gf (hs1 i k)) (gf (hm i k)) (gf (hs2 i k))) ?_;exact aa (fL hi) (aa (fL hk) (aa (sM _ rfl) (aa (aD (a:=k) (b:=1) (by omega)) rfl)))
    ·subst hJ;refine⟨_,aa ag (aa ae (aC (by decide) rfl)),?_⟩
     refine aa (aD (a:=i) (b:=1) (by omega)) ?_
     have:dU (λa b=>if a<i\/a=i/\b<3 then aB (cF a b) S+cF a b (A,B,C) else aB (cF a b) S)=dU (λa b=>if a<i+1 then aB (cF a b) S+cF a b (A,B,C) else aB (cF a b) S):=by
      have e:∀ a b,b<3->(if a<i\/a=i/\b<3 then aB (cF a b) S+cF a b (A,B,C) else aB (cF a b) S)=(if a<i+1 then aB (cF a b) S+cF a b (A,B,C) else aB (cF a b) S):=λa b hb=>by
       by_cases h:a<i+1
       ·rw[if_pos h,if_pos (by omega)]
       ·rw[if_neg h,if_neg (by omega)]
      simp only[dU,mY];rw[e 0 0 (by decide),e 0 1 (by decide),e 0 2 (by decide),e 1 0 (by decide),e 1 1 (by decide),e 1 2 (by decide),e 2 0 (by decide),e 2 1 (by decide),e 2 2 (by decide)]
     rw[<-this];rfl
   ·subst hJ;refine⟨_,aa ag (aa ae (aC (by decide) rfl)),?_⟩
    exact aa (aD (a:=j+2) (b:=1) (by omega)) rfl
  ·subst hJ;refine⟨_,aa (z:=.sl (ah p)) rfl (aa (z:=ah p) rfl (aa ag (aa ae (aC (by show ¬ (((p.length-2+2:Nat):Int)<((ah p).length:Int));rw[ao];omega) rfl)))),?_⟩
   exact aa (aD (a:=i) (b:=1) (by omega)) rfl
 ·subst hJ;refine⟨_,aa ag (aa ae (aC (by show ¬ ((F.length:Int)<((aq F).length:Int));rw[aA];omega) rfl)),?_⟩
  rw[zKa];have hT:=Ej hl hF;have h2:=λi k=>fI i k hT;generalize ic l F=T at *;have t1:=bx (h2 0 0) (h2 1 1);have t2:=bx t1 (de (h2 2 2) (k:=126) (by decide))
  have tn:∀ i k,(-(aB (cF i k) T)).natAbs<=2^125:=λi k=>by rw[zPc];exact h2 i k
  have tt:∀ i,(-(aB (cF i i) T)+(aB (cF 0 0) T+aB (cF 1 1) T+aB (cF 2 2) T)).natAbs<=2^128:=λi=>bx (de (tn i i) (k:=127) (by decide)) t2
  refine aa (z:=am (aB (cF 0 0) T)) rfl (aa (z:=am (aB (cF 1 1) T)) rfl (aa (wo (n+1026) (gf (h2 0 0)) (gf (h2 1 1)) (gf t1)) (aa (z:=am (aB (cF 2 2) T)) rfl (aa (wo (n+1026) (gf t1) (gf (h2 2 2)) (gf t2)) ?_))));refine bc (λi s=>s=[I (i:Int),I 0,I 0,.sl [],I 3,I 3,.sl (c9 (λi k=>aB (cF i k) T) (3*i))]) 3 0 (zia _) rfl (λi hi s hJ=>?_) (λs hJ=>?_)
  ·subst hJ;left;refine⟨_,?_,rfl⟩;refine aa ag (aa ae (aH (by show(i:Int)<3;omega) ?_))
   refine bY (λk s=>s=[I (k:Int),I 0,I 0,.sl [],I 3,I 3,.sl (c9 (λi k=>aB (cF i k) T) (3*i+k))]) 3 0 (zia _) rfl (λk hk s hJ=>?_) (λs hJ=>?_)
   ·subst hJ;left;refine⟨_,?_,rfl⟩;refine aa ag (aa ae (aH (by show(k:Int)<3;omega) ?_))
    refine aa (fL hi) (aa (fL hk) (aa (show D.get (dU λa b=>aB (cF a b) T) [i,k]=_ from BO hi hk _) (aa (Th (n+1027) (gf (h2 i k))) ?_)));have fin:∀ {v:Int},In v->qy (λi k=>aB (cF i k) T) (3*i+k)=Rat.divInt v 120->(Option.bind (some (0,[I 0,I 0,.sl [],I 3,I 3,.sl (c9 (λi k=>aB (cF i k) T) (3*i+k)),am v])) λ(r111:Nat×List D)=>
      Option.bind (cA (n+1030) 54 [(D.int .i64 120)]) λr112=>
      Option.bind (cA (n+1030) 62 [(gx r111.2 6),r112]) λr113=>
      if List.length (D.els (gx r111.2 5))+List.length [r113]<=1073741824 then(Option.bind (D.bin .add (I (k:Int)) (D.int .i64 1)) λx114=>
      some (Sum.inl (β:=Nat×List D) [x114,(gx r111.2 0),(gx r111.2 1),(D.sl (D.els (gx r111.2 2))),(gx r111.2 3),(gx r111.2 4),(D.sl ((D.els (gx r111.2 5))++[r113]))])) else none)=some (.inl [I ((k+1:Nat):Int),I 0,I 0,.sl [],I 3,I 3,.sl (c9 (λi k=>aB (cF i k) T) (3*i+(k+1)))]):=λ{v} hv he=>by
     have i120:In 120:=cL (eH 120);refine aa (z:=_) rfl (aa (Bx (n+1028) (eH 120)) (aa (JO n hv i120 (by decide)) ?_))
     have hlen:List.length (D.els (.sl (c9 (λi k=>aB (cF i k) T) (3*i+k))))+List.length [dq (Rat.divInt v 120)]<=1073741824:=by
      show(c9 (λi k=>aB (cF i k) T) (3*i+k)).length+1<=_;rw[s7];omega
     refine(if_pos hlen).trans (aa (aD (a:=k) (b:=1) (by omega)) ?_)
     rw[show 3*i+(k+1)=3*i+k+1 by omega,qx,he]
     rfl
    obtain⟨d1,d2⟩:=M8 (i:=i) hk;by_cases e:i=k
    ·subst e;refine(congrArg (λz=>Option.bind z _) (aa (z:=true) (show D.truth (D.bool (D.beq (I (i:Int)) (I (i:Int))))=some true by rw[bR,decide_eq_true rfl];rfl) (ld ?c))).trans (fin (gf (tt i)) ?e)
     case c=>exact aa (wo (n+1026) (gf (tn i i)) (gf t2) (gf (tt i))) rfl
     case e=>
      unfold qy;rw[d1,d2,if_pos rfl]
    ·refine(congrArg (λz=>Option.bind z _) (aa (z:=false) (show D.truth (D.bool (D.beq (I (i:Int)) (I (k:Int))))=some false by rw[bR,decide_eq_false e];rfl) (by rw[if_neg (by decide)];rfl))).trans (fin (gf (tn i k)) ?_)
     unfold qy;rw[d1,d2,if_neg e]
   ·subst hJ;refine⟨_,aa ag (aa ae (aC (by decide) rfl)),?_⟩
    exact aa (aD (a:=i) (b:=1) (by omega)) rfl
  ·subst hJ;refine⟨_,aa ag (aa ae (aC (by decide) rfl)),?_⟩
   rfl
end Sy
end
noncomputable section
namespace Sy
open Go Go.Proofs Geo
def wU{m k:Nat}(h:m<=2^k)(hk:k<=511):m<fd:=by
 have:In (m:Int):=ff hk (by rw[zwa];exact h)
 have:=bq.1 this
 rwa [zwa] at this
def AL{a b k:Nat}(ha:a<=2^k)(hb:b<=2^k):a+b<=2^(k+1):=by rw[zmb];omega
def rS(q:Rat)(a k:Nat):Prop:=q.num.natAbs<=2^a/\q.den<=2^k
def bM{x d:Int}{a k:Nat}(hx:x.natAbs<=2^a)(hd:d.natAbs<=2^k)(h0:d≠0):rS (Rat.divInt x d) a k:=by
 obtain⟨h1,h2⟩:=il x h0;exact⟨zAa h1 hx,zAa h2 hd⟩
def eO{x:Int}{a:Nat}(hx:x.natAbs<=2^a):rS (x:Rat) a 0:=⟨by simpa using hx,by simp⟩
def rS.inR{q:Rat}{a k:Nat}(h:rS q a k)(ha:a<=511:=by decide)(hk:k<=511:=by decide):Bl q:=
 ⟨ff ha h.1,ff hk (by rw[zwa];exact h.2)⟩
theorem rS.fitM{x y:Rat}{a k b m:Nat}(hx:rS x a k)(hy:rS y b m)(h1:a+b<=511:=by decide)(h2:k+m<=511:=by decide):fitM x y:=
 ⟨wU (dM hx.1 hy.1 (zja _)) h1,wU (dM hx.2 hy.2 (zja _)) h2⟩
theorem rS.fitA{x y:Rat}{a k b m:Nat}(hx:rS x a k)(hy:rS y b m)(h1:a+m<=510:=by decide)(h2:b+k<=510:=by decide)(h3:k+m<=511:=by decide):fitA x y:=by
 refine⟨?_,wU (dM hx.2 hy.2 (zja _)) h3⟩;have e1:=dM hx.1 hy.2 h1;have e2:=dM hy.1 hx.2 h2;exact wU (k:=510+1) (AL e1 e2) (by decide)
def pp{A B K:Int}(hK:K≠0):Rat.divInt A K+Rat.divInt B K=Rat.divInt (A+B) K:=by
 rw[zyd _ _ hK hK,<-Int.add_mul,Rat.divInt_mul_right hK]
def KJ(A K:Int):- Rat.divInt A K=Rat.divInt (-A) K:=Rat.neg_divInt ..
def Nx(n:Nat){x y:Int}(hx:In x)(hy:In y)(h:In (x+y)):cA (n+4) 59 [am x,am y]=some (am (x+y)):=by
 have:=MZ n hx hy
 rwa [eY h] at this
def NA(n:Nat){x y:Int}(hx:In x)(hy:In y)(h:In (x*y)):cA (n+4) 89 [am x,am y]=some (am (x*y)):=by
 have:=EB n hx hy
 rwa [eY h] at this
def yt(t:T3):D:=.st [.st [af t.1,af t.2.1,af t.2.2],am (jc t)]
def dO(T:List T3):List D:=T.map yt
def gr(T:List T3):(dO T).length=T.length:=zta ..
def uQ{T:List T3}{i:Nat}(h:i<T.length):(dO T)[i]?=some (yt T[i]):=by simp[dO,h]
def CP(T:List T3)(t:T3):dO (T++[t])=dO T++[yt t]:=by simp[dO]
theorem wi.take{T:List T3}{N:Nat}(h:wi T N)(i:Nat):wi (T.take i) N:=
 ⟨zAa (by rw[zbb];omega) h.1,λt ht=>h.2 t (zRa ht)⟩
def vQ(g:T3->Int){T:List T3}{i:Nat}(h:i<T.length):aB g (T.take (i+1))=aB g (T.take i)+g T[i]:=by
 rw[zqa h,oV]
def Ny(n:Nat){t:T3}(h:bd MV t.1/\bd MV t.2.1/\bd MV t.2.2):cA (n+6) 123 [af t.1,af t.2.1]=some (af (V.cross t.1 t.2.1))/\cA (n+6) 33 [af (V.cross t.1 t.2.1),af t.2.2]=some (am (jc t)):=
 ⟨Kw (n+5) h.1 h.2.1 (by decide),Vx n (eB h.1 h.2.1) h.2.2 (by decide) (by decide) (by decide)⟩
def XG(n:Nat){l:List V}{F:FL}(hl:∀ x∈l,bd MV x)(hF:FIn l F)(h19:∀ m,cA (m+8) 19 [be l]=some (.sl (aq F))):cA (n+9) 58 [be l]=some (.sl (dO (ic l F))):=by
 rw[Yg];delta Od qG qB qX qL qV qW qZ iL iR Jn;have hFl:=hF.len;refine aa (h19 n) ?_;refine bc (λi s=>s=[.sl (dO (ic l (F.take i))),I (i:Int)]) F.length 0 (zia _) rfl (λi hi s hJ=>?_) (λs hJ=>?_)
 ·subst hJ;left;refine⟨_,?_,rfl⟩;refine aa (z:=aq F) rfl (aa ag (aa ae (aH (by show((i:Int)<((aq F).length:Int));rw[aA];omega) ?_)))
  refine aa (z:=aq F) rfl (aa (z:=i) (by rw[aA];exact ap hi) (aa (cV hi) ?_))
  have hpart:=λm (hm:m<=F[i].2.length-2)=>xg hl hF hi hm;obtain⟨k1,k2,k3⟩:=hF.ok F[i] (zra hi);rw[mK l hi];generalize F[i]=f at *;obtain⟨q,p⟩:=f;simp only at *;generalize ic l (F.take i)=T at *;refine aa (z:=.sl (ah p)) rfl ?_;refine bY (λj s=>s=[.sl (dO (T++Ak l p j)),I ((j+1:Nat):Int)]) (p.length-2) 0 (zia _) (by rw[sN,z4b];rfl) (λj hj s hJ=>?_) (λs hJ=>?_)
  ·subst hJ;left;refine⟨_,?_,rfl⟩;have hp1:=hpart j (by omega)
   have b0:=kW hl (k3 0 (by omega))
   have b1:=kW hl (k3 (j+1) (by omega))
   have b2:=kW hl (k3 (j+2) (by omega))
   obtain⟨v1,v2⟩:=Ny (n+2) (t:=(pt l (p.getD 0 0),pt l (p.getD (j+1) 0),pt l (p.getD (j+2) 0))) ⟨b0,b1,b2⟩;rw[sK,<-zOa,CP];refine aa (aD (a:=j+1) (b:=1) (by omega)) (aa (z:=ah p) rfl (aa ag (aa ae (aH (by show(((j+2:Nat):Int)<((ah p).length:Int));rw[ao];omega) ?_))))
   refine aa (z:=aS l) rfl (Jd (j:=0) (by omega) (k3 _ (by omega)) ?_)
   refine aa (z:=aS l) rfl (Jd (j:=j+1) (by omega) (k3 _ (by omega)) ?_)
   refine aa (z:=aS l) rfl (aa (aD (a:=j+1) (b:=1) (by omega)) (Jd (j:=j+2) (by omega) (k3 _ (by omega)) ?_))
   refine aa v1 (aa v2 ?_);have hlen:List.length (D.els (.sl (dO (T++Ak l p j))))+List.length [yt (pt l (p.getD 0 0),pt l (p.getD (j+1) 0),pt l (p.getD (j+2) 0))]<=1073741824:=by
    show(dO (T++Ak l p j)).length+1<=_;rw[gr];have:=hp1.1;omega
   exact(if_pos hlen).trans (aa (aD (a:=j+1) (b:=1) (by omega)) rfl)
  ·subst hJ;refine⟨_,aa (aD (a:=p.length-2+1) (b:=1) (by omega)) (aa (z:=ah p) rfl (aa ag (aa ae (aC (by show ¬ (((p.length-2+1+1:Nat):Int)<((ah p).length:Int));rw[ao];omega) rfl)))),?_⟩
   exact aa (aD (a:=i) (b:=1) (by omega)) rfl
 ·subst hJ;refine⟨_,aa (z:=aq F) rfl (aa ag (aa ae (aC (by show ¬ ((F.length:Int)<((aq F).length:Int));rw[aA];omega) rfl))),?_⟩
  rw[zKa];rfl
section
variable{l:List V}{T:List T3}(hT:wi T 268435456)(h58:∀ m,cA (m+9) 58 [be l]=some (.sl (dO T)))
include hT h58
def Vv(n:Nat):cA (n+10) 24 [be l]=some (am (aB jc T)):=by
 rw[X0];delta NV qB qX qL qZ iL iR Jn;have hTl:=hT.1;refine aa (h58 n) (aa (zP (n+6) (eH 0)) ?_);refine bc (λi s=>s=[I (i:Int),am (aB jc (T.take i))]) T.length 0 (zia _) rfl (λi hi s hJ=>?_) (λs hJ=>?_)
 ·subst hJ;left;refine⟨_,?_,rfl⟩;have h1:=kl (hT.take i);have h2:=kl (hT.take (i+1));have h3:=qi (hT.2 _ (zra hi));rw[vQ _ hi] at h2 ⊢;refine aa (z:=dO T) rfl (aa ag (aa ae (aH (by show((i:Int)<((dO T).length:Int));rw[gr];omega) ?_)))
  refine aa (z:=dO T) rfl (aa (z:=i) (by rw[gr];exact ap hi) (aa (uQ hi) (aa (z:=am (jc T[i])) rfl ?_)))
  exact aa (Nx (n+5) (gf h1) (gf h3) (gf h2)) (aa (aD (a:=i) (b:=1) (by omega)) rfl)
 ·subst hJ;refine⟨_,aa (z:=dO T) rfl (aa ag (aa ae (aC (by show ¬ ((T.length:Int)<((dO T).length:Int));rw[gr];omega) rfl))),?_⟩
  rw[zKa];rfl
omit h58 in
def XI(n:Nat){i k:Nat}(hi:i<3)(hk:k<3):cA (n+10) 69 [.sl (dO T),I (i:Int),I (k:Int)]=some (dq (Rat.divInt (aB (cF i k) T) 120)):=by
 rw[Yj];delta Oh qG qB qX qL qZ iL iR Jn;have hTl:=hT.1;refine aa (zP (n+6) (eH 0)) ?_;refine bc (λj s=>s=[I (j:Int),am (aB (cF i k) (T.take j))]) T.length 0 (zia _) rfl (λj hj s hJ=>?_) (λs hJ=>?_)
 ·subst hJ;left;refine⟨_,?_,rfl⟩;have h1:=fI i k (hT.take j);have h2:=fI i k (hT.take (j+1));have hb:=hT.2 _ (zra hj);have h3:=qi hb;have h4:=A0 i k hb;have hql:=xj hb i k;rw[vQ _ hj] at h2 ⊢;refine aa (z:=dO T) rfl (aa ag (aa ae (aH (by show((j:Int)<((dO T).length:Int));rw[gr];omega) ?_)))
  have ge:∀ {β:Type} {g:D->Option β} {y:β},g (yt T[j])=some y->(Option.bind (D.asSl (.sl (dO T))) λl45=>Option.bind (D.idx (I (j:Int)) (List.length l45)) λi46=>Option.bind (l45[i46]?) g)=some y:=λh=>
   aa (z:=dO T) rfl (aa (z:=j) (by rw[gr];exact ap hj) (aa (uQ hj) h))
  refine ge ?_;generalize T[j]=t at *;obtain⟨A,B,C⟩:=t;obtain⟨b0,b1,b2⟩:=hb;simp only at b0 b1 b2;have a0:=kY b0 i;have a1:=kY b1 i;have a2:=kY b2 i;have e0:=kY b0 k;have e1:=kY b1 k;have e2:=kY b2 k;obtain⟨q1,q2,q3,q4,q5,q6⟩:=Cg ⟨b0,b1,b2⟩ i k;have hq:AN i k (A,B,C)=(cmp i A+cmp i B+cmp i C)*(cmp k A+cmp k B+cmp k C)+cmp i A*cmp k A+cmp i B*cmp k B+cmp i C*cmp k C:=rfl;obtain⟨ST,hST⟩:∃ ST,D.st [af A,af B,af C]=ST:=⟨_,rfl⟩;have g0:∀ {m:Nat},m<3->D.get ST [0,m]=some (I (cmp m A)):=λhm=>by rw[<-hST];exact iI hm A
  have g1:∀ {m:Nat},m<3->D.get ST [1,m]=some (I (cmp m B)):=λhm=>by rw[<-hST];exact iI hm B
  have g2:∀ {m:Nat},m<3->D.get ST [2,m]=some (I (cmp m C)):=λhm=>by rw[<-hST];exact iI hm C
  refine aa (z:=ST) (by rw[<-hST];rfl) ?_
  refine aa (fL hi) (aa (g0 hi) (aa (fL hi) (aa (g1 hi) (aa (aw (by simp only[inR];omega)) (aa (fL hi) (aa (g2 hi) (aa (aw (by simp only[inR];omega)) ?_)))))))
  refine aa (fL hk) (aa (g0 hk) (aa (fL hk) (aa (g1 hk) (aa (aw (by simp only[inR];omega)) (aa (fL hk) (aa (g2 hk) (aa (aw (by simp only[inR];omega)) ?_)))))))
  refine aa (co (by simp only[inR];omega)) ?_
  refine aa (fL hi) (aa (g0 hi) (aa (fL hk) (aa (g0 hk) (aa (co (by simp only[inR];omega)) (aa (aw (by simp only[inR];omega)) ?_)))))
  refine aa (fL hi) (aa (g1 hi) (aa (fL hk) (aa (g1 hk) (aa (co (by simp only[inR];omega)) (aa (aw (by simp only[inR];omega)) ?_)))))
  refine aa (fL hi) (aa (g2 hi) (aa (fL hk) (aa (g2 hk) (aa (co (by simp only[inR];omega)) (aa (aw (by simp only[inR];omega)) ?_)))))
  refine ge (aa (z:=am (jc (A,B,C))) rfl ?_);rw[<-hq];refine aa (zP (n+6) (by simp only[inR];omega)) ?_
  refine aa (NA (n+5) (gf h3) (gf (k:=40) (zAa hql (by decide))) (gf h4)) ?_
  exact aa (Nx (n+5) (gf h1) (gf h4) (gf h2)) (aa (aD (a:=j) (b:=1) (by omega)) rfl)
 ·subst hJ;refine⟨_,aa (z:=dO T) rfl (aa ag (aa ae (aC (by show ¬ ((T.length:Int)<((dO T).length:Int));rw[gr];omega) rfl))),?_⟩
  rw[zKa];exact aa (zP (n+6) (eH 120)) (aa (LQ (n+4) (gf (fI i k hT)) (cL (eH 120)) (by decide)) rfl)
end
end Sy
end
noncomputable section
namespace Sy
open Go Go.Proofs Geo
def E5{S:List V}(hS:Eh S){F:FL}(hK:FOk S F){k:Nat}(h:jr F k=true):Mt (pt S) S.length k:=by
 obtain⟨f,hf,h2⟩:=zRc.1 h;obtain⟨x,hx,hxk⟩:=zRc.1 h2;have hxk:x=k:=by simpa using hxk
 subst hxk;obtain⟨q1,q2⟩:=hK.ok f hf;obtain⟨p,p1,_,p3⟩:=q1.poly hS;rw[<-bE.eq hS q1 q2 p1] at p3;obtain⟨r1,r2⟩:=(p3 x).1 hx;exact⟨_,_,q1,r1,r2⟩
end Sy
end
noncomputable section
namespace Sy
open Go Go.Proofs Geo
def VB(n:Nat){u v:V}(h1:inR (u.x+v.x))(h2:inR (u.y+v.y))(h3:inR (u.z+v.z)):cA (n+1) 64 [af u,af v]=some (af (V.add u v)):=by
 rw[u64];delta Of qG qB;exact aa (z:=I u.x) rfl (aa (z:=I v.x) rfl (aa (aw h1) (aa (z:=I u.y) rfl (aa (z:=I v.y) rfl (aa (aw h2) (aa (z:=I u.z) rfl (aa (z:=I v.z) rfl (aa (aw h3) rfl))))))))
def JK(q:Rat):D.beq (dq q) (dq q)=true:=by
 unfold dq;show(D.beq (am q.num) (am q.num)&&(D.beq (am q.den) (am q.den)&&true))=true;rw[Bt,Bt];rfl
section
variable{l:List V}{T:List T3}(hT:wi T 268435456)(h58:∀ m,cA (m+9) 58 [be l]=some (.sl (dO T)))
include hT h58
def Vw(n:Nat):cA (n+11) 29 [be l]=some (.st [I 3,I 3,.sl (c9 (λi k=>aB (cF i k) T) 9)]):=by
 rw[X3];delta NX qB qC qT qV qW qZ iL iR Jn;have h2:=λi k=>fI i k hT;have hc:=λi k (hi:i<3) (hk:k<3)=>XI hT n hi hk;have t1:=bx (h2 0 0) (h2 1 1);have t2:=bx t1 (de (h2 2 2) (k:=126) (by decide))
 have tn:∀ i k,(-(aB (cF i k) T)).natAbs<=2^125:=λi k=>by rw[zPc];exact h2 i k
 have k7:(120:Int).natAbs<=2^7:=by decide
 have k0:(120:Int)≠0:=by decide
 have g1:=λi k=>bM (h2 i k) k7 k0;have g2:=bM t1 k7 k0;have g3:=bM t2 k7 k0;have g4:=λi k=>bM (tn i k) k7 k0;refine aa (h58 (n+1)) (aa (hc 0 0 (by decide) (by decide)) (aa (hc 1 1 (by decide) (by decide)) (aa (Ta (n+4) (g1 0 0).inR (g1 1 1).inR ((g1 0 0).fitA (g1 1 1))) ?_)))
 rw[pp k0];refine aa (hc 2 2 (by decide) (by decide)) (aa (Ta (n+4) g2.inR (g1 2 2).inR (g2.fitA (g1 2 2))) ?_)
 rw[pp k0];refine bc (λi s=>s=[I (i:Int),I 0,I 0,.sl [],I 3,I 3,.sl (c9 (λi k=>aB (cF i k) T) (3*i))]) 3 0 (zia _) rfl (λi hi s hJ=>?_) (λs hJ=>?_)
 ·subst hJ;left;refine⟨_,?_,rfl⟩;refine aa ag (aa ae (aH (by show(i:Int)<3;omega) ?_))
  refine bY (λk s=>s=[I (k:Int),I 0,I 0,.sl [],I 3,I 3,.sl (c9 (λi k=>aB (cF i k) T) (3*i+k))]) 3 0 (zia _) rfl (λk hk s hJ=>?_) (λs hJ=>?_)
  ·subst hJ;left;refine⟨_,?_,rfl⟩;refine aa ag (aa ae (aH (by show(k:Int)<3;omega) ?_))
   refine aa (hc i k hi hk) (aa (XJ (n+4) (g1 i k).inR) ?_);rw[KJ];have fin:∀ {v:Rat},qy (λi k=>aB (cF i k) T) (3*i+k)=v->(Option.bind (some (0,[I 0,I 0,.sl [],I 3,I 3,.sl (c9 (λi k=>aB (cF i k) T) (3*i+k)),dq v])) λ(r17:Nat×List D)=>
     if List.length (D.els (gx r17.2 5))+List.length [(gx r17.2 6)]<=1073741824 then(Option.bind (D.bin .add (I (k:Int)) (D.int .i64 1)) λx18=>
     some (Sum.inl (β:=Nat×List D) [x18,(gx r17.2 0),(gx r17.2 1),(D.sl (D.els (gx r17.2 2))),(gx r17.2 3),(gx r17.2 4),(D.sl ((D.els (gx r17.2 5))++[(gx r17.2 6)]))])) else none)=some (.inl [I ((k+1:Nat):Int),I 0,I 0,.sl [],I 3,I 3,.sl (c9 (λi k=>aB (cF i k) T) (3*i+(k+1)))]):=λ{v} he=>by
    refine aa (z:=_) rfl ?_;have hlen:List.length (D.els (.sl (c9 (λi k=>aB (cF i k) T) (3*i+k))))+List.length [dq v]<=1073741824:=by
     show(c9 (λi k=>aB (cF i k) T) (3*i+k)).length+1<=_;rw[s7];omega
    refine(if_pos hlen).trans (aa (aD (a:=k) (b:=1) (by omega)) ?_)
    rw[show 3*i+(k+1)=3*i+k+1 by omega,qx,he]
    rfl
   obtain⟨d1,d2⟩:=M8 (i:=i) hk;by_cases e:i=k
   ·subst e;refine(congrArg (λz=>Option.bind z _) (aa (z:=true) (show D.truth (D.bool (D.beq (I (i:Int)) (I (i:Int))))=some true by rw[bR,decide_eq_true rfl];rfl) (ld ?c))).trans (fin (v:=Rat.divInt (-(aB (cF i i) T)+(aB (cF 0 0) T+aB (cF 1 1) T+aB (cF 2 2) T)) 120) ?e)
    case c=>
     refine aa (Ta (n+4) g3.inR (g4 i i).inR (g3.fitA (g4 i i))) ?_;rw[pp k0,Int.add_comm (aB (cF 0 0) T+aB (cF 1 1) T+aB (cF 2 2) T)];rfl
    case e=>
     unfold qy;rw[d1,d2,if_pos rfl]
   ·refine(congrArg (λz=>Option.bind z _) (aa (z:=false) (show D.truth (D.bool (D.beq (I (i:Int)) (I (k:Int))))=some false by rw[bR,decide_eq_false e];rfl) (by rw[if_neg (by decide)];rfl))).trans (fin ?_)
    unfold qy;rw[d1,d2,if_neg e]
  ·subst hJ;refine⟨_,aa ag (aa ae (aC (by decide) rfl)),?_⟩
   exact aa (aD (a:=i) (b:=1) (by omega)) rfl
 ·subst hJ;refine⟨_,aa ag (aa ae (aC (by decide) rfl)),?_⟩
  rfl
end
def VE{l:List V}(hl:∀ x∈l,bd MV x)(hlen:l.length<=64)(hs:Eh l):∃ (L:List (V×Int)) (poly:V×Int->List Nat),Facets (pt l) l.length L/\(∀ q∈L,bE (pt l) l.length q.1 q.2 (poly q)) ∧
  FIn l (L.map λq=>(q,poly q))/\(∀ m,cA (m+8) 18 [be l]=some (.sl (aq (L.map λq=>(q,poly q)))))/\∀ m,cA (m+8) 19 [be l]=some (.sl (aq (L.map λq=>(q,poly q)))):=by
 obtain⟨L,poly,hL,hP,hLl,_⟩:=VG 0 hl (show l.length<=100 by omega) hs
 have hFm:∀ m,∃ F:FL,F=(L.map λq=>(q,poly q))/\cA (m+8) 18 [be l]=some (.sl (aq F))/\cA (m+8) 19 [be l]=some (.sl (aq F)):=λm=>by
  obtain⟨F,hK,h48⟩:=Vy m hl (show l.length<=100 by omega) hs
  obtain⟨L',poly',hL',hP',_,h18⟩:=VG (m+1) hl (show l.length<=100 by omega) hs
  have e':L=L':=Facets.eq hL hL';subst e';have eL:F.map Prod.fst=L:=Facets.eq hK.facets hL;have eq1:∀ f∈F,poly f.1=f.2/\poly' f.1=f.2:=λf hf=>by
   obtain⟨q1,q2⟩:=hK.fok.ok f hf;have hm:f.1∈L:=by rw[<-eL];exact z5a.2 ⟨f,hf,rfl⟩
   exact⟨bE.eq hs q1 (hP f.1 hm) q2,bE.eq hs q1 (hP' f.1 hm) q2⟩
  have eF:(L.map λq=>li q (poly' q))=aq F:=by
   rw[<-eL,List.map_map];refine zZb λf hf=>?_;simp only[Function.comp_apply,(eq1 f hf).2]
  refine⟨F,?_,by rw[h18,eF],?_⟩
  ·rw[<-eL,List.map_map];have:∀ f∈F,((λq=>(q,poly q)) ∘ Prod.fst) f=id f:=λf hf=>by
    show(f.1,poly f.1)=f;rw[(eq1 f hf).1]
   rw[zZb this,List.map_id]
  ·rw[XX]
   delta NS qG
   exact aa (z:=aS l) rfl (aa h48 rfl)
 refine⟨L,poly,hL,hP,⟨by rw[zta];exact hLl,λf hf=>?_⟩,λm=>?_,λm=>?_⟩
 ·obtain⟨q,hq,rfl⟩:=z5a.1 hf;have h3:=iT hs hL hP hq;have hp:=ze hs ((hL.mem q).1 hq) (hP q hq);refine⟨h3,by show(poly q).length<=100;omega,λj hj=>hp.2.2.2 _ ?_⟩
  simp only[zSa,zca hj];exact zra hj
 ·obtain⟨F,rfl,h,_⟩:=hFm m;exact h
 ·obtain⟨F,rfl,_,h⟩:=hFm m;exact h
end Sy
end
noncomputable section
namespace Sy
open Go Go.Proofs Geo
end Sy
end
noncomputable section
namespace Sy
open Go Go.Proofs Geo
def KC(n:Nat):cA (n+3) 169 []=some (am 1):=by
 rw[Uu];delta Hp Jn;exact aa (Bx n (eH 1)) rfl
def MD(n:Nat){x:Int}(hx:In x):cA (n+1031) 138 [am x]=some (dq (x:Rat)):=by
 rw[Ud];unfold G8;refine aa (KC (n+1027)) (aa (JO n hx zT (by decide)) ?_)
 rw[jp]
def KF(n:Nat){x:Int}(hx:inR x):cA (n+1032) 74 [I x]=some (dq (x:Rat)):=by
 rw[Yl];unfold Oj;exact aa (Bx (n+1029) hx) (aa (MD n (cL hx)) rfl)
def KA(n:Nat){q:Rat}(h:Bl q):cA (n+1030) 136 [dq q]=some (.bool true):=by
 rw[NG];delta Ea qG qB qT Jn;have hp:=q.den_pos;refine aa (z:=am q.num) rfl (aa (Es (n+1027) h.1) (aa (z:=true) rfl (aa (z:=true) (ld ?_) (aa (z:=true) rfl (aa (z:=true) (ld ?_) (aa (z:=true) rfl (aa (z:=true) (ld ?_) rfl)))))))
 ·exact aa (z:=am (q.den:Int)) rfl (aa (Es (n+1027) h.2) rfl)
 ·refine aa (z:=am (q.den:Int)) rfl (aa (Et (n+1026) h.2) (aa cn ?_));rw[kN (by omega)];rfl
 ·refine aa (z:=am q.num) rfl (aa (z:=am (q.den:Int)) rfl (aa (Ky n h.1 h.2) (aa (KC (n+1026)) ?_)));have e:Nat.gcd q.num.natAbs (q.den:Int).natAbs=1:=q.reduced;rw[e];show D.truth (.bool (D.beq (am 1) (am 1)))=_;rw[Bt];rfl
def DQ{x y:Rat}{a b g:Nat}(ha:x.den=g*a)(hb:y.den=g*b)(hne:(a:Int)*y.den≠0):Rat.divInt (x.num*b+y.num*a) ((a:Int)*y.den)=x+y:=by
 conv=>rhs;rw[<-zob x,<-zob y]
 rw[zyd _ _ (bT x) (bT y),zVc hne (by have:=bT x;have:=bT y;exact Int.mul_ne_zero ‹_› ‹_›)]
 have k1:(x.den:Int)=g*a:=by rw[ha,zMa]
 have k2:(y.den:Int)=g*b:=by rw[hb,zMa]
 rw[k1,k2];grind
def sC{N D:Int}(hD:0<D)(h:Nat.gcd N.natAbs D.natAbs=1):(Rat.divInt N D).num=N/\((Rat.divInt N D).den:Int)=D:=by
 obtain⟨p1,p2⟩:=fS N (show D≠0 by omega)
 have e:((1:Nat):Int)=1:=rfl;rw[if_neg (by omega),h,e,Int.ediv_one] at p1 p2
 exact⟨p1,p2⟩
def rD(x:Int){d:Int}(hd:d≠0):(Rat.divInt x d).num.natAbs ∣ x.natAbs/\(Rat.divInt x d).den ∣ d.natAbs:=by
 obtain⟨p1,p2⟩:=fS x hd;have e:(Rat.divInt x d).den=((Rat.divInt x d).den:Int).natAbs:=rfl;rw[e,p1,p2];have key:∀ z:Int,((Nat.gcd x.natAbs d.natAbs:Nat):Int) ∣ z->(z/(if d<0 then -(Nat.gcd x.natAbs d.natAbs:Int) else(Nat.gcd x.natAbs d.natAbs:Int))).natAbs ∣ z.natAbs:=by
  intro z hz;have hgp:0<Nat.gcd x.natAbs d.natAbs:=zoc _ (by omega)
  obtain⟨k,rfl⟩:=hz;generalize Nat.gcd x.natAbs d.natAbs=g at *;split
  ·rw[Int.ediv_neg,zZa _ (by omega),zPc,zHa];exact Nat.dvd_mul_left _ _
  ·rw[zZa _ (by omega),zHa];exact Nat.dvd_mul_left _ _
 exact⟨key x (z4a.2 (zhb _ _)),key d (z4a.2 (zub _ _))⟩
def SI(n:Nat){x y:Rat}(hx:Bl x)(hy:Bl y)(hf:fitM x y):cA (n+1031) 174 [dq x,dq y]=some (dq (x*y)):=by
 rw[Ly];delta Cy qG qT qN;obtain⟨f1,f2⟩:=hf;refine aa (KA n hx) (aa (z:=.bool false) rfl (aa (z:=false) rfl (aa (z:=false) ?_ (aa (z:=false) rfl ?_))))
 ·rw[if_neg (by decide)]
  exact aa (KA n hy) (aa (z:=.bool false) rfl rfl)
 rw[if_neg (by decide)]
 obtain⟨p1,p2⟩:=il x.num (bT y);obtain⟨q1,q2⟩:=il y.num (bT x);obtain⟨v1,v2⟩:=rD x.num (bT y);obtain⟨w1,w2⟩:=rD y.num (bT x);have e:Rat.divInt x.num y.den*Rat.divInt y.num x.den=x*y:=by
  conv=>rhs;rw[<-zob x,<-zob y]
  rw[zEb,zEb,zHc (y.den:Int)]
 refine aa (z:=am x.num) rfl (aa (z:=am (y.den:Int)) rfl (aa (JO n hx.1 hy.2 (bT y)) (aa (z:=am y.num) rfl (aa (z:=am (x.den:Int)) rfl (aa (JO n hy.1 hx.2 (bT x)) ?_)))));rw[zwa] at p2 q2 v2 w2;have r1:=er hx.1 hy.2 (bT y);have r2:=er hy.1 hx.2 (bT x);generalize Rat.divInt x.num y.den=P at *;generalize Rat.divInt y.num x.den=Q at *;have i1:In (P.num*Q.num):=bq.2 (by rw[zHa];exact zGa (z2a p1 q1) f1)
 have i2:In ((P.den:Int)*Q.den):=bq.2 (by
  rw[<-zMa,zwa];exact zGa (z2a p2 q2) (by rw[zEa];exact f2))
 refine aa (z:=am P.num) rfl (aa (z:=am Q.num) rfl (aa (CM (n+1027) r1.1 r2.1 i1) (aa (z:=am (P.den:Int)) rfl (aa (z:=am (Q.den:Int)) rfl (aa (CM (n+1027) r1.2 r2.2 i2) ?_)))));refine aa (z:=.bool false) rfl (aa (z:=false) rfl (aa (z:=false) ?_ (aa (z:=false) rfl ?_)))
 ·rw[if_neg (by decide)]
  exact aa (z:=.bool false) rfl rfl
 rw[if_neg (by decide)]
 have hpos:0<(P.den:Int)*Q.den:=by
  have:=P.den_pos;have:=Q.den_pos;rw[<-zMa];have:=Nat.mul_pos ‹0<P.den› ‹0<Q.den›;omega
 have c1:Nat.Coprime P.num.natAbs P.den:=P.reduced;have c2:Nat.Coprime Q.num.natAbs Q.den:=Q.reduced;have c3:Nat.Coprime P.num.natAbs Q.den:=zAc v1 (zwc w2 x.reduced);have c4:Nat.Coprime Q.num.natAbs P.den:=zAc w1 (zwc v2 y.reduced);have hred:Nat.gcd (P.num*Q.num).natAbs ((P.den:Int)*Q.den).natAbs=1:=by
  rw[zHa,<-zMa,zwa];exact Nat.Coprime.mul_left (z7c c1 c3) (z7c c4 c2)
 obtain⟨z1,z2⟩:=sC hpos hred;have e2:Rat.divInt (P.num*Q.num) ((P.den:Int)*Q.den)=x*y:=by
  rw[<-zEb,zob,zob,e]
 rw[e2] at z1 z2;unfold dq;rw[z1,z2]
def Sv(n:Nat){v:V}(h1:inR v.x)(h2:inR v.y)(h3:inR v.z):cA (n+1033) 135 [af v]=some (M9 (RV.of v)):=by
 rw[Uc];delta G7 qG;exact aa (z:=I v.x) rfl (aa (KF n h1) (aa (z:=I v.y) rfl (aa (KF n h2) (aa (z:=I v.z) rfl (aa (KF n h3) rfl)))))
def wP(x y:Int):(x:Rat)*(y:Rat)=((x*y:Int):Rat):=by rw[Rat.intCast_mul]
def BU(x y:Int):(x:Rat)+(y:Rat)=((x+y:Int):Rat):=by rw[Rat.intCast_add]
end Sy
end
noncomputable section
namespace Sy
open Go Go.Proofs Geo
def Tp(n:Nat){a b:Int}{p q:Nat}(ha:a.natAbs<=2^p)(hb:b.natAbs<=2^q)(h:p+q<=500):cA (n+1031) 174 [dq (a:Rat),dq (b:Rat)]=some (dq ((a*b:Int):Rat)):=by
 have fa:=eO ha;have fb:=eO hb;rw[SI n (fa.inR (by omega) (by omega)) (fb.inR (by omega) (by omega)) (fa.fitM fb (by omega) (by omega)),wP]
end Sy
end
noncomputable section
namespace Sy
open Go Go.Proofs Geo
structure Way(P:List D)(z:Nat->Int):Prop where
 get:∀ i (h:i<P.length),D.get P[i] [0,2]=some (I (z i))
 le:∀ i,i<P.length->(z i).natAbs<=2^60
 len:P.length<=512
end Sy
end
noncomputable section
namespace Sy
open Go Go.Proofs Geo
end Sy
end
noncomputable section
namespace Sy
open Go Go.Proofs Geo
theorem Fg{body:Bd}{m:Nat}{r0:List D}(ok:Nat->Bool)(h:∀ i,i<m->body [I (i:Int)]=some (if ok i then .inl [I ((i+1:Nat):Int)] else .inr (0,r0)))(he:body [I (m:Int)]=some (.inr (1,[]))) :
  ∀ d j,j+d=m->aT body [I (j:Int)]=some (if((List.range d).all λt=>ok (j+t)) then(1,[]) else(0,r0))
 | 0,j,hj=>by
  have hj:j=m:=by omega
  subst hj;exact(dt he:aT body [I (j:Int)]=some (1,[]))
 | d+1,j,hj=>by
  have ih:=Fg ok h he d (j+1) (by omega)
  have hb:=h j (by omega)
  rw[List.range_succ_eq_map];simp only[zKb,List.all_map,z2b,Function.comp_def];cases hok:ok j with
  | false=>
   rw[hok] at hb;exact(dt hb:aT body [I (j:Int)]=some (0,r0))
  | true=>
   rw[hok] at hb;rw[show aT body [I (j:Int)]=aT body [I ((j+1:Nat):Int)] from dK hb,ih];simp only[zTb,Nat.succ_eq_add_one,zAb,zEc 1]
def GB(m:Int)(x:Int):Bool:=decide (-m<x)&&decide (x<m)
def bC(v:V)(i:Nat):Int:=if i=0 then v.x else if i=1 then v.y else v.z
def sY{v:V}{i:Nat}(h:i<3):D.get (af v) [i]=some (I (bC v i)):=by
 have:i=0\/i=1\/i=2:=by omega
 rcases this with rfl|rfl|rfl<;>rfl
def kq(v:V):Bool:=(List.range 3).all λt=>GB 1099511627776 (bC v (0+t))
def MR(n:Nat)(v:V):cA (n+1) 327 [af v]=some (.bool (kq v)):=by
 rw[UO];delta HJ qB qC qT qJ qZ iL iR Jn;refine wT (r:=if kq v then(1,[]) else(0,[.bool false])) (Fg (m:=3) (λi=>GB 1099511627776 (bC v i)) (λi hi=>?_) ?_ 3 0 rfl) ?_
 ·have hi':D.idx (I (i:Int)) 3=some i:=ap hi;refine aa ag (aa ae (aH (by show(i:Int)<3;omega) ?_))
  have hx:=sY (v:=v) hi;refine aa hi' (aa hx ?_);generalize bC v i=x at *;by_cases h1:x ≥ 1099511627776
  ·have e:GB 1099511627776 x=false:=by simp[GB];omega
   refine aa (z:=.bool true) (by simp[D.bin,h1]) (aa (z:=true) rfl (aa (z:=true) rfl (aa (z:=true) rfl ?_)))
   rw[if_pos rfl,e];rfl
  ·refine aa (z:=.bool false) (by simp[D.bin,h1]) (aa (z:=false) rfl ?_)
   by_cases h2:x<=-1099511627776
   ·have e:GB 1099511627776 x=false:=by simp[GB];omega
    refine aa (z:=true) ?_ (aa (z:=true) rfl ?_)
    ·rw[if_neg (by decide)]
     exact aa hi' (aa hx (aa (z:=.bool true) (by simp[D.bin,h2]) rfl))
    ·rw[if_pos rfl,e];rfl
   ·have e:GB 1099511627776 x=true:=by simp[GB];omega
    refine aa (z:=false) ?_ (aa (z:=false) rfl ?_)
    ·rw[if_neg (by decide)]
     exact aa hi' (aa hx (aa (z:=.bool false) (by simp[D.bin,h2]) rfl))
    ·rw[if_neg (by decide),e]
     exact aa (aD (a:=i) (b:=1) (by omega)) rfl
 ·exact aa ag (aa ae (aC (by decide) rfl))
 ·cases kq v<;>rfl
end Sy
end
noncomputable section
namespace Sy
open Go Go.Proofs Geo
def Tq(q:Nat->Int):Bool:=(List.range 4).all λt=>GB 65 (q (0+t))
end Sy
end
noncomputable section
namespace Sy
open Go Go.Proofs Geo
end Sy
end
noncomputable section
namespace Sy
open Go Go.Proofs Geo
def Tr(x:V):Bool:=(List.range 3).all λt=>GB 140737488355328 (bC x (0+t))
end Sy
end
noncomputable section
namespace Sy
open Go Go.Proofs Geo
def S4(n:Nat)(x:Int):∃ b:Bool,cA (n+1) 375 [.int .u8 x]=some (.bool b):=by
 rw[U5];delta HZ qB qC qT;by_cases h1:x ≥ 97<;>by_cases h2:x<=122<;>by_cases h3:x ≥ 65<;>by_cases h4:x<=90<;>exact⟨_,by simp[D.bin,D.truth,h1,h2,h3,h4];rfl⟩
end Sy
end
end Go.Proofs.YtpahompifldeeaaGreat
