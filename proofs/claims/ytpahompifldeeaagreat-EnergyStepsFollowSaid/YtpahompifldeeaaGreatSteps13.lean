/- Part 13 of the proof that For every yard with at most 6 things -/
import Derived.Test.YtpahompifldeeaaGreatSteps11
import Derived.Test.YtpahompifldeeaaGreatSteps12
set_option linter.unusedVariables false
set_option linter.unusedSimpArgs false
set_option linter.unnecessarySimpa false
set_option linter.defProp false
set_option maxRecDepth 20000
namespace Go.Proofs.YtpahompifldeeaaGreat
noncomputable section
namespace Geo
open V
section
variable{P:Nat->V}{N:Nat}
def sH(l:List Nat):List (Nat×Nat):=(List.range l.length).map λk=>(l.getD k 0,l.getD ((k+1)%l.length) 0)
def pY{l:List Nat}{a b:Nat}:(a,b)∈sH l↔∃ i,i<l.length/\l.getD i 0=a/\l.getD ((i+1)%l.length) 0=b:=by
 simp only[sH,z5a,zLa,Prod.mk.injEq]
def yz{l:List Nat}(h:l.Nodup):(sH l).Nodup:=by
 unfold sH List.Nodup;rw[zpd];refine zXc ?_ (List.nodup_range (n:=l.length));intro i j hi hj hne e;have hi:=zLa.1 hi;have hj:=zLa.1 hj;have e1:=congrArg Prod.fst e;simp only[List.getD,zca hi,zca hj,zmb] at e1;rcases Nat.lt_or_gt_of_ne hne with c|c
 ·exact ztb.1 h i j hi hj c e1
 ·exact ztb.1 h j i hj hi c e1.symm
def jF(L:List (V×Int))(poly:V×Int->List Nat):List (Nat×Nat):=L.flatMap λq=>sH (poly q)
section
variable(hl:∀ i j,i<j->j<N->aF (P i) (P j)){L:List (V×Int)}(hL:Facets P N L){poly:V×Int->List Nat}(hp:∀ q∈L,bE P N q.1 q.2 (poly q))
include hl hL hp
def Bb{q:V×Int}(hq:q∈L):(poly q).Nodup:=by
 obtain⟨l,p1,p2,_⟩:=((hL.mem q).1 hq).poly hl;have:=bE.eq hl ((hL.mem q).1 hq) (hp q hq) p1;rw[this];exact p2
def nS{a b:Nat}:(a,b)∈jF L poly↔∃ n d,IsF P N n d/\Nr P N n d a b:=by
 simp only[jF,zWb,pY];constructor
 ·rintro⟨q,hq,hi⟩;exact⟨q.1,q.2,(hL.mem q).1 hq,(bE.dir hl ((hL.mem q).1 hq) (hp q hq)).1 hi⟩
 ·rintro⟨n,d,hF,hd⟩;have hq:=(hL.mem (n,d)).2 hF;exact⟨(n,d),hq,(bE.dir hl hF (hp _ hq)).2 hd⟩
def sj:(jF L poly).Nodup:=by
 unfold jF List.Nodup;rw[List.pairwise_flatMap];refine⟨λq hq=>yz (Bb hl hL hp hq),?_⟩;refine zXc ?_ hL.ord;intro q q' hq hq' hlt x hx y hy e;subst e;obtain⟨a,b⟩:=x;have F:=(hL.mem q).1 hq;have F':=(hL.mem q').1 hq';obtain⟨d1,d2⟩:=(bE.dir hl F (hp q hq)).1 (pY.1 hx);obtain⟨d1',d2'⟩:=(bE.dir hl F' (hp q' hq')).1 (pY.1 hy);have:=Fn hl F F' d1 d1' d2 d2';rw[this] at hlt;exact mu _ hlt
omit hp in
def DZ{q:V×Int}(hq:q∈L){l:List Nat}(k:bE P N q.1 q.2 l):(∀ x∈bo P N q.1 q.2,l.getD 0 0<=x)/\l.getD 0 0∈bo P N q.1 q.2/\ld P (bo P N q.1 q.2) (l.getD 0 0)/\(∃ x∈bo P N q.1 q.2,x≠l.getD 0 0):=by
 obtain⟨a,h1,h2⟩:=k;obtain⟨b,g1,g2,g3,g4,g5⟩:=((hL.mem q).1 hq).head hl;rw[h1] at g1;cases g1;obtain⟨l',e⟩:=h2.head;have e0:l.getD 0 0=a:=by rw[e];rfl
 rw[e0];exact⟨g4,g2,g3,g5 a g2⟩
end
end
end Geo
end
noncomputable section
namespace Geo
open V
abbrev T3:=V×V×V
def rF(P:Nat->V)(p:List Nat)(m:Nat):List T3:=(List.range m).map λi=>(P (p.getD 0 0),P (p.getD (i+1) 0),P (p.getD (i+2) 0))
def aT(g:T3->Int):List T3->Int
 | []=>0
 | t::T=>g t+aT g T
def rq(g:T3->Int)(S T:List T3):aT g (S++T)=aT g S+aT g T:=by
 induction S with
 | nil=>simp[aT]
 | cons t S ih=>simp only[zdb,aT,ih];omega
def oY(g:T3->Int)(S:List T3)(t:T3):aT g (S++[t])=aT g S+g t:=by
 rw[rq];simp[aT]
def vi(P:Nat->V)(p:List Nat)(m:Nat):rF P p (m+1)=rF P p m++[(P (p.getD 0 0),P (p.getD (m+1) 0),P (p.getD (m+2) 0))]:=by
 unfold rF;rw[zxb,zPb];rfl
def ru(t:T3):Int:=V.dot (V.cross t.1 t.2.1) t.2.2
def ke(P:Nat->V)(L:List (V×Int))(poly:V×Int->List Nat):List T3:=L.flatMap λq=>rF P (poly q) ((poly q).length-2)
def GM(f g:T3->Int)(T:List T3):aT (λt=>f t+g t) T=aT f T+aT g T:=by
 induction T with
 | nil=>simp[aT]
 | cons t T ih=>simp only[aT,ih];omega
def Bz{f g:T3->Int}{T:List T3}(h:∀ t∈T,f t=g t):aT f T=aT g T:=by
 induction T with
 | nil=>rfl
 | cons t T ih=>simp only[aT,h t zma,ih λx hx=>h x (zia _ hx)]
def Kz{f:T3->Int}{T:List T3}(h:∀ t∈T,0<=f t):0<=aT f T:=by
 induction T with
 | nil=>simp[aT]
 | cons t T ih=>
  have:=h t zma;have:=ih λx hx=>h x (zia _ hx);simp only[aT];omega
def GN{f:T3->Int}{T:List T3}(h:∀ t∈T,0<=f t){t:T3}(ht:t∈T)(hp:0<f t):0<aT f T:=by
 induction T with
 | nil=>cases ht
 | cons a T ih=>
  have h1:=h a zma;have h2:=λx hx=>h x (zia _ hx);simp only[aT];rcases zEa.1 ht with rfl|ht
  ·have:=Kz h2;omega
  ·have:=ih h2 ht;omega
def z8(f:T3->Int)(h:T3->T3)(T:List T3):aT f (T.map h)=aT (λt=>f (h t)) T:=by
 induction T with
 | nil=>rfl
 | cons t T ih=>simp only[z6a,aT,ih]
def gO(g:Nat×Nat->Int):List (Nat×Nat)->Int
 | []=>0
 | e::S=>g e+gO g S
def lY(g:Nat×Nat->Int)(S S':List (Nat×Nat)):gO g (S++S')=gO g S+gO g S':=by
 induction S with
 | nil=>simp[gO]
 | cons t S ih=>simp only[zdb,gO,ih];omega
def Em(g:Nat×Nat->Int){S S':List (Nat×Nat)}(h:S.Perm S'):gO g S=gO g S':=by
 induction h with
 | nil=>rfl
 | cons x _ ih=>simp only[gO,ih]
 | swap x y l=>simp only[gO];omega
 | trans _ _ h1 h2=>exact h1.trans h2
def GK(g:Nat×Nat->Int)(h:Nat×Nat->Nat×Nat)(S:List (Nat×Nat)):gO g (S.map h)=gO (λe=>g (h e)) S:=by
 induction S with
 | nil=>rfl
 | cons t T ih=>simp only[z6a,gO,ih]
def GL(g:Nat×Nat->Int)(S:List (Nat×Nat)):gO (λe=>- g e) S=- gO g S:=by
 induction S with
 | nil=>rfl
 | cons t T ih=>simp only[gO,ih];omega
def By{f g:Nat×Nat->Int}{S:List (Nat×Nat)}(h:∀ e∈S,f e=g e):gO f S=gO g S:=by
 induction S with
 | nil=>rfl
 | cons t T ih=>simp only[gO,h t zma,ih λx hx=>h x (zia _ hx)]
def OO(e:Nat×Nat):Nat×Nat:=(e.2,e.1)
def zY{g:Nat×Nat->Int}(hg:∀ a b,g (b,a)=- g (a,b)){S:List (Nat×Nat)}(hn:S.Nodup)(hs:∀ a b,(a,b)∈S->(b,a)∈S):gO g S=0:=by
 have nd:(S.map OO).Nodup:=by
  unfold List.Nodup;rw[zpd];refine List.Pairwise.imp ?_ hn;intro a b h e;obtain⟨a1,a2⟩:=a;obtain⟨b1,b2⟩:=b;simp only[OO,Prod.mk.injEq] at e;exact h (by rw[e.1,e.2])
 have hp:(S.map OO).Perm S:=(List.perm_ext_iff_of_nodup nd hn).2 λe=>by
  obtain⟨a,b⟩:=e;rw[z5a];constructor
  ·rintro⟨⟨c,d⟩,h1,h2⟩;simp only[OO,Prod.mk.injEq] at h2;rw[<-h2.1,<-h2.2];exact hs _ _ h1
  ·exact λh=>⟨(b,a),hs _ _ h,rfl⟩
 have e1:=Em g hp;rw[GK,By (f:=λe=>g (OO e)) (g:=λe=>- g e) (λe _=>hg e.1 e.2),GL] at e1;omega
def MI(g:V->V->Int)(t:T3):Int:=g t.1 t.2.1+g t.2.1 t.2.2+g t.2.2 t.1
def Fx{g:V->V->Int}(hg:∀ u v,g v u=- g u v)(P:Nat->V)(p:List Nat)(m:Nat) :
  aT (MI g) (rF P p m)=gO (λe=>g (P e.1) (P e.2)) ((List.range (m+1)).map λi=>(p.getD i 0,p.getD (i+1) 0))+g (P (p.getD (m+1) 0)) (P (p.getD 0 0)):=by
 induction m with
 | zero=>simp[rF,aT,gO];rw[hg (P (p[0]?.getD 0)) (P (p[1]?.getD 0))];omega
 | succ m ih=>
  rw[vi,oY,ih,zxb (n:=m+1),zPb,lY];simp only[z6a,List.map_nil,gO,MI];rw[hg (P (p.getD 0 0)) (P (p.getD (m+1) 0)),show m+1+1=m+2 from rfl];omega
def Du{g:V->V->Int}(hg:∀ u v,g v u=- g u v)(P:Nat->V){p:List Nat}(hp:2<=p.length) :
  aT (MI g) (rF P p (p.length-2))=gO (λe=>g (P e.1) (P e.2)) (sH p):=by
 rw[Fx hg];unfold sH;obtain⟨n,hn⟩:∃ n,p.length=n+2:=⟨p.length-2,by omega⟩
 rw[hn,show n+2-2+1=n+1 by omega,zxb (n:=n+1),zPb,lY]
 have e:((List.range (n+1)).map λi=>(p.getD i 0,p.getD (i+1) 0))=(List.range (n+1)).map λk=>(p.getD k 0,p.getD ((k+1)%(n+2)) 0):=zYb λi hi=>by
  have:=zLa.1 hi;rw[zHa (by omega)]
 rw[e];simp only[z6a,List.map_nil,gO];rw[show(n+1+1)%(n+2)=0 from Nat.mod_self _];omega
section
variable{P:Nat->V}{N:Nat}(hl:∀ i j,i<j->j<N->aF (P i) (P j)){L:List (V×Int)}(hL:Facets P N L){poly:V×Int->List Nat}(hp:∀ q∈L,bE P N q.1 q.2 (poly q))
include hl hL hp
def kE{q:V×Int}(hq:q∈L):3<=(poly q).length:=by
 have hF:=(hL.mem q).1 hq;have k:=hp q hq;obtain⟨h1,h2,_⟩:=DZ hl hL hq k;have hpos:0<(poly q).length:=by
  obtain⟨a,_,h⟩:=k;obtain⟨l',e⟩:=h.head;rw[e];simp
 have n0:=k.next hpos
 rcases zqa 1 (poly q).length with g1|g1
 ·have n1:=k.next g1
  rw[zHa g1] at n0;rcases zqa 2 (poly q).length with g2|g2
  ·exact g2
  ·have e:(poly q).length=2:=by omega
   rw[e] at n1;exact(J9 hl hF h2 n0 n1).elim
 ·have e:(poly q).length=1:=by omega
  rw[e] at n0;exact(n0.ne rfl).elim
def BB{g:V->V->Int}(hg:∀ u v,g v u=- g u v):aT (MI g) (ke P L poly)=0:=by
 have key:∀ M:List (V×Int),(∀ q∈M,q∈L)->aT (MI g) (ke P M poly)=gO (λe=>g (P e.1) (P e.2)) (jF M poly):=by
  intro M
  induction M with
  | nil=>intro _;rfl
  | cons q M ih=>
   intro h;have hq:=h q zma;unfold ke jF at ih ⊢;rw[List.flatMap_cons,List.flatMap_cons,rq,lY,ih λx hx=>h x (zia _ hx),Du hg P (by have:=kE hl hL hp hq;omega)]
 rw[key L λ_ h=>h];refine zY (λa b=>hg _ _) (sj hl hL hp) λa b h=>?_;obtain⟨n,d,hF,hd⟩:=(nS hl hL hp).1 h;obtain⟨n',d',h1,h2,h3,h4⟩:=AA hl hF hd.1 hd.2;exact(nS hl hL hp).2 ⟨n',d',h1,h3,h4⟩
end
end Geo
end
noncomputable section
namespace Geo
open V
def cmp(i:Nat)(v:V):Int:=if i=0 then v.x else if i=1 then v.y else v.z
def sm(i:Nat)(t:T3):Int:=cmp i t.1+cmp i t.2.1+cmp i t.2.2
def Gn(i k:Nat)(t:T3):Int:=sm i t*sm k t+cmp i t.1*cmp k t.1+cmp i t.2.1*cmp k t.2.1+cmp i t.2.2*cmp k t.2.2
def dt(i k:Nat)(t:T3):Int:=ru t*Gn i k t
def shift(d:V)(t:T3):T3:=(V.add t.1 d,V.add t.2.1 d,V.add t.2.2 d)
def gd(d u v:V):Int:=V.dot d (V.cross u v)
def JS(d u v:V):gd d v u=- gd d u v:=by simp only[gd,dot,cross];grind
def Eu(d:V)(t:T3):ru (shift d t)=ru t+MI (gd d) t:=by
 obtain⟨a,b,c⟩:=t;simp only[ru,shift,MI,gd,dot,cross,V.add];grind
def rt(P:Nat->V)(d:V)(L:List (V×Int))(poly:V×Int->List Nat):ke (λk=>V.add (P k) d) L poly=(ke P L poly).map (shift d):=by
 unfold ke;rw[List.map_flatMap];congr 1;funext q;unfold rF;rw[List.map_map];rfl
section
variable{P:Nat->V}{N:Nat}(hl:∀ i j,i<j->j<N->aF (P i) (P j)){L:List (V×Int)}(hL:Facets P N L){poly:V×Int->List Nat}(hp:∀ q∈L,bE P N q.1 q.2 (poly q))
include hl hL hp
def Et(d:V):aT ru (ke (λk=>V.add (P k) d) L poly)=aT ru (ke P L poly):=by
 rw[rt,z8,Bz (λt _=>Eu d t),GM ru,BB hl hL hp (λu v=>JS d u v)];omega
def Ch{q:V×Int}(hq:q∈L){t:T3}(ht:t∈rF P (poly q) ((poly q).length-2))(p:V) :
  ∃ a b:Int,0<a/\0<b/\a*ru (shift (V.neg p) t)=b*(q.2-V.dot q.1 p):=by
 have hF:=(hL.mem q).1 hq;have k:=hp q hq;obtain⟨i,hi,rfl⟩:=z5a.1 ht;have hi:=zLa.1 hi;have h3:=kE hl hL hp hq;obtain⟨l',p1,p2,p3⟩:=hF.poly hl;have e:=bE.eq hl hF k p1;rw[<-e] at p2 p3;have mem:∀ j,j<(poly q).length->(poly q).getD j 0∈bo P N q.1 q.2:=λj hj=>by
  have:(poly q).getD j 0∈poly q:=by
   rw[zKa,zca hj];exact zla hj
  exact((p3 _).1 this).1
 have mext:∀ j,j<(poly q).length->ld P (bo P N q.1 q.2) ((poly q).getD j 0):=λj hj=>by
  have:(poly q).getD j 0∈poly q:=by
   rw[zKa,zca hj];exact zla hj
  exact((p3 _).1 this).2
 have hne:∀ j,j<(poly q).length->0<j->(poly q).getD j 0≠(poly q).getD 0 0:=λj hj h0 e=>by
  rw[zKa,zKa,zca hj,zca (by omega:0<(poly q).length)] at e
  exact ztb.1 p2 0 j (by omega) hj h0 e.symm
 have hs:=k.next (i:=i+1) (by omega)
 rw[zHa (by omega),show i+1+1=i+2 from rfl] at hs
 have ma:=mem 0 (by omega);have mb:=mem (i+1) (by omega);have mc:=mem (i+2) (by omega)
 have hT:=Side.after (hF.flat hl) ma mb (mext 0 (by omega)) (mext (i+1) (by omega)) (hne _ (by omega) (by omega)) hs (hne _ (by omega) (by omega))
 have da:=(aV.1 ma).2;have db:=(aV.1 mb).2;have dc:=(aV.1 mc).2;generalize (poly q).getD 0 0=a at *;generalize (poly q).getD (i+1) 0=b at *;generalize (poly q).getD (i+2) 0=c at *;have u0:dot q.1 (wy P a b)=0:=by rw[c7,da,db];omega
 have v0:dot q.1 (wy P a c)=0:=by rw[c7,da,dc];omega
 refine⟨dot q.1 q.1,T q.1 (wy P a b) (wy P a c),bv hF.nz.1,hT,?_⟩;have cp:=ia u0 v0;have key:smul (dot q.1 q.1) (cross (wy P a b) (wy P a c))=smul (T q.1 (wy P a b) (wy P a c)) q.1:=by
  have:=Hg cp q.1;unfold T;exact this
 have e1:ru (shift (V.neg p) (P a,P b,P c))=dot (cross (wy P a b) (wy P a c)) (V.sub (P a) p):=by
  simp only[ru,shift,wy,dot,cross,V.add,V.neg,V.sub];grind
 rw[e1,<-yG,key,yG,<-da];congr 1;simp only[dot,V.sub];grind
def KL{q0:V×Int}(hq0:q0∈L):0<aT ru (ke P L poly):=by
 have hF:=(hL.mem q0).1 hq0;obtain⟨_,z,hz,hlt⟩:=hF.supp;rw[<-Et hl hL hp (V.neg (P z)),rt,z8];have hnn:∀ t∈ke P L poly,0<=ru (shift (V.neg (P z)) t):=λt ht=>by
  obtain⟨q,hq,ht⟩:=zWb.1 ht;obtain⟨a,b,ha,hb,e⟩:=Ch hl hL hp hq ht (P z);have:=((hL.mem q).1 hq).supp.1 z hz;exact qc ha (by rw[e];exact zZb (zRa hb) (by omega))
 have h3:=kE hl hL hp hq0;have ht:(P ((poly q0).getD 0 0),P ((poly q0).getD 1 0),P ((poly q0).getD 2 0))∈rF P (poly q0) ((poly q0).length-2):=z5a.2 ⟨0,zLa.2 (by omega),rfl⟩
 refine GN hnn (zWb.2 ⟨q0,hq0,ht⟩) ?_;obtain⟨a,b,ha,hb,e⟩:=Ch hl hL hp hq0 ht (P z);exact nH ha (by rw[e];exact zMb hb (by omega))
end
end Geo
end
noncomputable section
namespace Sy
open Go Go.Proofs Geo
abbrev AG(l:List V)(p:List Nat)(m:Nat):List T3:=rF (pt l) p m
def gZ(l:List V)(F:FL):List T3:=F.flatMap λf=>AG l f.2 (f.2.length-2)
def MP(l:List V)(L:List (V×Int))(poly:V×Int->List Nat):gZ l (L.map λq=>(q,poly q))=ke (pt l) L poly:=by
 unfold gZ ke;rw[List.flatMap_map]
def sY(l:List V)(p:List Nat)(m:Nat):AG l p (m+1)=AG l p m++[(pt l (p.getD 0 0),pt l (p.getD (m+1) 0),pt l (p.getD (m+2) 0))]:=vi ..
def sZ(l:List V)(p:List Nat):AG l p 0=[]:=rfl
def JR(l:List V)(p:List Nat)(m:Nat):(AG l p m).length=m:=by simp[AG,rF]
def mG(l:List V){F:FL}{i:Nat}(h:i<F.length):gZ l (F.take (i+1))=gZ l (F.take i)++AG l F[i].2 (F[i].2.length-2):=by
 unfold gZ;rw[zka h,List.flatMap_append];simp
structure FIn(l:List V)(F:FL):Prop where
 len:F.length<=2000000
 ok:∀ f∈F,3<=f.2.length/\f.2.length<=100/\∀ j,j<f.2.length->f.2.getD j 0<l.length
def wE(T:List T3)(N:Nat):Prop:=T.length<=N/\∀ t∈T,bd MV t.1/\bd MV t.2.1/\bd MV t.2.2
def kT{l:List V}(hl:∀ x∈l,bd MV x){k:Nat}(h:k<l.length):bd MV (pt l k):=by
 unfold pt;rw[zKa,zca h];exact hl _ (zla h)
def wE.append{S T:List T3}{M N:Nat}(h:wE S M)(k:wE T N):wE (S++T) (M+N):=
 ⟨by rw[zua];have:=h.1;have:=k.1;omega,λt ht=>(zwa.1 ht).elim (h.2 t) (k.2 t)⟩
def wE.mono{T:List T3}{M N:Nat}(h:wE T M)(k:M<=N):wE T N:=⟨zCa h.1 k,h.2⟩
def Fw{l:List V}(hl:∀ x∈l,bd MV x){p:List Nat}(hp:∀ j,j<p.length->p.getD j 0<l.length){m:Nat}(hm:m+2<=p.length\/m=0)(hm2:m<=100):wE (AG l p m) 100:=by
 refine⟨by rw[JR];exact hm2,λt ht=>?_⟩
 obtain⟨i,hi,rfl⟩:=z5a.1 ht;have hi:=zLa.1 hi;exact⟨kT hl (hp _ (by omega)),kT hl (hp _ (by omega)),kT hl (hp _ (by omega))⟩
def C2{l:List V}(hl:∀ x∈l,bd MV x){F:FL}(h:FIn l F)(i:Nat):wE (gZ l (F.take i)) (100*i):=by
 induction i with
 | zero=>exact⟨by simp[gZ],λt ht=>by simp[gZ] at ht⟩
 | succ i ih=>
  by_cases hi:i<F.length
  ·rw[mG l hi];obtain⟨k1,k2,k3⟩:=h.ok F[i] (zla hi);exact(ih.append (Fw hl k3 (by omega) (by omega))).mono (by omega)
  ·rw[zDb (by omega)]
   rw[zDb (by omega)] at ih
   exact ih.mono (by omega)
def xv{l:List V}(hl:∀ x∈l,bd MV x){F:FL}(h:FIn l F){i m:Nat}(hi:i<F.length)(hm:m<=F[i].2.length-2):wE (gZ l (F.take i)++AG l F[i].2 m) 268435456:=by
 obtain⟨k1,k2,k3⟩:=h.ok F[i] (zla hi);have:=h.len;exact((C2 hl h i).append (Fw hl k3 (by omega) (by omega))).mono (by omega)
def EX{l:List V}(hl:∀ x∈l,bd MV x){F:FL}(h:FIn l F):wE (gZ l F) 268435456:=by
 have:=C2 hl h F.length;rw[zIa] at this;exact this.mono (by have:=h.len;omega)
def CZ{g:T3->Int}{T:List T3}{N B:Nat}(h:wE T N)(hg:∀ t,bd MV t.1/\bd MV t.2.1/\bd MV t.2.2->(g t).natAbs<=B):(aT g T).natAbs<=N*B:=by
 have key:∀ T:List T3,(∀ t∈T,bd MV t.1/\bd MV t.2.1/\bd MV t.2.2)->(aT g T).natAbs<=T.length*B:=by
  intro T
  induction T with
  | nil=>intro _;simp[aT]
  | cons t T ih=>
   intro h;have h1:=ih λx hx=>h x (zia _ hx);have h2:=hg t (h t zma);have:=zLc (g t) (aT g T);rw[zDa,zZa,znc];simp only[aT];omega
 exact zCa (key T h.2) (zya _ h.1)
def qt{t:T3}(h:bd MV t.1/\bd MV t.2.1/\bd MV t.2.2):(ru t).natAbs<=2^57:=by
 have:=E3 (dX h.1 h.2.1) h.2.2;unfold ru;have e:(3:Int)*(2*(MV*MV)*MV)=108086391056891904:=rfl;rw[e] at this;have e2:(2:Nat)^57=144115188075855872:=rfl;omega
def eS{x:Int}{k:Nat}(hk:k<=511)(h:x.natAbs<=2^k):In x:=by
 obtain⟨m,hm⟩:∃ m,m=32*16:=⟨_,rfl⟩;exact bh.2 ((tI hm).2 (zJa h (Nat.pow_lt_pow_right (by decide) (by omega))))
def dD{a b:Nat}{i j k:Nat}(ha:a<=2^i)(hb:b<=2^j)(h:i+j<=k):a*b<=2^k:=
 zCa (zVa ha hb) (by rw[<-zab];exact zva (by decide) h)
def j8{T:List T3}(h:wE T 268435456):(aT ru T).natAbs<=2^85:=
 zCa (CZ h λt=>qt) (dD (i:=28) (j:=57) (by decide) (zja _) (by decide))
def et{a b:Int}{k:Nat}(ha:a.natAbs<=2^k)(hb:b.natAbs<=2^k):(a+b).natAbs<=2^(k+1):=by
 have:=zLc a b;rw[znb];omega
def c9{a b:Int}{i j k:Nat}(ha:a.natAbs<=2^i)(hb:b.natAbs<=2^j)(h:i+j<=k):(a*b).natAbs<=2^k:=by
 rw[zFa];exact dD ha hb h
def jB{a:Int}{i k:Nat}(ha:a.natAbs<=2^i)(h:i<=k):a.natAbs<=2^k:=zCa ha (zva (by decide) h)
def eU{v:V}(h:bd MV v)(i:Nat):(cmp i v).natAbs<=262144:=by
 have e:MV=262144:=rfl;simp only[bd] at h;unfold cmp;split
 ·omega
 ·split<;>omega
def CX{t:T3}(h:bd MV t.1/\bd MV t.2.1/\bd MV t.2.2)(i:Nat):(sm i t).natAbs<=786432:=by
 have a:=eU h.1 i;have b:=eU h.2.1 i;have c:=eU h.2.2 i;unfold sm;omega
def xy{t:T3}(h:bd MV t.1/\bd MV t.2.1/\bd MV t.2.2)(i k:Nat):(Gn i k t).natAbs<=1099511627776:=by
 have key:∀ {a b:Int} {m:Nat},a.natAbs<=m->b.natAbs<=m->(a*b).natAbs<=m*m:=λha hb=>by rw[zFa];exact zVa ha hb
 have q:=key (CX h i) (CX h k);have a:=key (eU h.1 i) (eU h.1 k);have b:=key (eU h.2.1 i) (eU h.2.1 k);have c:=key (eU h.2.2 i) (eU h.2.2 k);unfold Gn;omega
def Br(i k:Nat){t:T3}(h:bd MV t.1/\bd MV t.2.1/\bd MV t.2.2):(dt i k t).natAbs<=2^97:=
 c9 (qt h) (j:=40) (zCa (xy h i k) (by decide)) (by decide)
def fA(i k:Nat){T:List T3}(h:wE T 268435456):(aT (dt i k) T).natAbs<=2^125:=
 zCa (CZ h λt=>Br i k) (dD (i:=28) (j:=97) (by decide) (zja _) (by decide))
end Sy
end
noncomputable section
namespace Sy
open Go Go.Proofs Geo
def gJ(x:V):List V->List V
 | []=>[x]
 | y::L=>if aF x y\/x=y then x::(y::L).filter (λz=>decide (z≠x)) else y::gJ x L
def dH(l:List V):List V:=l.foldl (λo x=>gJ x o) []
theorem y8(x:V):∀ L:List V,(gJ x L).length<=L.length+1
 | []=>by simp[gJ]
 | y::L=>by
  have:=y8 x L;unfold gJ;split
  ·rw[zDa];have:=zlc (λz=>decide (z≠x)) (y::L);omega
  ·simp only[zDa];omega
theorem tL{x z:V}:∀ {L:List V},z∈gJ x L↔z=x\/z∈L
 | []=>by simp[gJ]
 | y::L=>by
  have ih:=tL (x:=x) (z:=z) (L:=L);unfold gJ;split
  ·simp only[zEa,zqc,decide_eq_true_eq];by_cases h:z=x<;>simp[h]
  ·simp only[zEa,ih];constructor
   ·rintro(h|h|h)
    ·exact .inr (.inl h)
    ·exact .inl h
    ·exact .inr (.inr h)
   ·rintro(h|h|h)
    ·exact .inr (.inl h)
    ·exact .inl h
    ·exact .inr (.inr h)
theorem y9{x:V}:∀ {L:List V},L.Pairwise aF->(gJ x L).Pairwise aF
 | [],_=>by simp[gJ]
 | y::L,h=>by
  obtain⟨h1,h2⟩:=zQa.1 h;unfold gJ;split
  ·rename_i hxy;refine zQa.2 ⟨λz hz=>?_,h.filter _⟩;obtain⟨hz1,hz2⟩:=zqc.1 hz;have hzx:z≠x:=by simpa using hz2
   rcases zEa.1 hz1 with rfl|hz1
   ·rcases hxy with h|h
    ·exact h
    ·exact absurd h.symm hzx
   ·rcases hxy with h|h
    ·exact lI h (h1 z hz1)
    ·rw[h];exact h1 z hz1
  ·rename_i hxy;refine zQa.2 ⟨λz hz=>?_,y9 h2⟩;rcases tL.1 hz with rfl|hz
   ·rcases pW (a:=z) (b:=y) (λe=>hxy (.inr e)) with k|k
    ·exact absurd (.inl k) hxy
    ·exact k
   ·exact h1 z hz
def uf(l:List V):(dH l).Pairwise aF:=by
 unfold dH;have:∀ (l o:List V),o.Pairwise aF->(l.foldl (λo x=>gJ x o) o).Pairwise aF:=by
  intro l
  induction l with
  | nil=>intro o h;exact h
  | cons x l ih=>intro o h;exact ih _ (y9 h)
 exact this l [] .nil
def zl{l:List V}{z:V}:z∈dH l↔z∈l:=by
 unfold dH;have:∀ (l o:List V),z∈l.foldl (λo x=>gJ x o) o↔z∈l\/z∈o:=by
  intro l
  induction l with
  | nil=>intro o;simp
  | cons x l ih=>
   intro o;rw[zhc,ih,tL,zEa];constructor
   ·rintro(h|h|h)
    ·exact .inl (.inr h)
    ·exact .inl (.inl h)
    ·exact .inr h
   ·rintro((h|h)|h)
    ·exact .inr (.inl h)
    ·exact .inl h
    ·exact .inr (.inr h)
 rw[this];simp
def oV(l:List V):(dH l).length<=l.length:=by
 unfold dH;have:∀ (l o:List V),(l.foldl (λo x=>gJ x o) o).length<=l.length+o.length:=by
  intro l
  induction l with
  | nil=>intro o;simp
  | cons x l ih=>
   intro o;have h1:=ih (gJ x o);have h2:=y8 x o;rw[zhc,zDa];omega
 simpa using this l []
def GH{l:List V}(h:l.Pairwise aF):EV l:=λi j hij hj=>by
 have:=ztb.1 h i j (by omega) hj hij
 simpa [pt,List.getD,hj,show i<l.length by omega] using this
def Kx{l:List V}(h:l.Pairwise aF):dH l=l:=
 ql (r:=aF) mu vA (uf l) h λx=>zl
def ZA(n:Nat)(l:List V)(hlen:l.length<=1000000):cA (n+2) 47 [aS l]=some (aS (dH l)):=by
 rw[Z4]
 delta Pj qB qC qT qN qX qL qV qW qZ iL iR Jn
 have ll:(l.map ag).length=l.length:=zoa ..;refine ba (λi s=>s=[aS (dH (l.take i)),I (i:Int)]) l.length 0 (zga _) rfl (λi hi s hJ=>?_) (λs hJ=>?_)
 ·subst hJ;left;refine⟨[aS (dH (l.take (i+1))),I ((i+1:Nat):Int)],?_,rfl⟩;have hs:dH (l.take (i+1))=gJ (l.getD i V.zero) (dH (l.take i)):=by
   unfold dH;rw[zka hi,zqd];simp[List.getD,hi]
  have hol:(dH (l.take i)).length<=1000000:=zCa (oV _) (by rw[zbb];omega)
  rw[hs];obtain⟨o,ho⟩:∃ o,dH (l.take i)=o:=⟨_,rfl⟩;obtain⟨x,hx⟩:∃ x,l.getD i V.zero=x:=⟨_,rfl⟩;have hxg:(l.map ag)[i]?=some (ag x):=by rw[<-hx];exact cB hi
  rw[ho] at hol ⊢;rw[hx];have ol:(o.map ag).length=o.length:=zoa ..;refine aa (z:=l.map ag) rfl (aa af (aa ae (aC (by show((i:Int)<((l.map ag).length:Int));rw[ll];omega) ?_)))
  refine bT (λk s=>∃ (nx:List V) (put:Bool),s=[aS o,aS nx,.bool put,I (k:Int)]/\nx.length<=2*k/\(put=false->gJ x o=nx++gJ x (o.drop k))/\(put=true->gJ x o=nx++(o.drop k).filter (λz=>decide (z≠x)))) o.length 0 (zga _) ⟨[],false,rfl,by simp,by simp,by simp⟩ (λk hk s hJ=>?_) (λs hJ=>?_)
  ·obtain⟨nx,put,rfl,hnl,h1,h2⟩:=hJ;left;have hd:o.drop k=o.getD k V.zero::o.drop (k+1):=by rw[zkb hk];simp[List.getD,hk]
   have hyg:(o.map ag)[k]?=some (ag (o.getD k V.zero)):=cB hk;obtain⟨y,hy⟩:∃ y,o.getD k V.zero=y:=⟨_,rfl⟩;rw[hy] at hd hyg;rw[hd] at h1 h2;obtain⟨n1,p1,he,q0,q1,q2⟩:∃ (n1:List V) (p1:Bool),(if put=false/\(aF x y\/x=y) then(nx++[x],true) else(nx,put))=(n1,p1)/\n1.length<=2*k+1/\(p1=false->x≠y/\gJ x o=n1++y::gJ x (o.drop (k+1)))/\(p1=true->gJ x o=n1++(y::o.drop (k+1)).filter (λz=>decide (z≠x))):=by
    by_cases hp:put=false/\(aF x y\/x=y)
    ·refine⟨_,_,if_pos hp,by simp;omega,by simp,λ_=>?_⟩
     rw[h1 hp.1,gJ,if_pos hp.2];simp
    ·refine⟨_,_,if_neg hp,by omega,λe=>?_,λe=>h2 e⟩
     have hn:¬ (aF x y\/x=y):=λh=>hp ⟨e,h⟩;refine⟨λh=>hn (.inr h),?_⟩;rw[h1 e,gJ,if_neg hn]
   refine⟨[aS o,aS (if y≠x then n1++[y] else n1),.bool p1,I ((k+1:Nat):Int)],?_,_,p1,rfl,?_,?_,?_⟩
   ·refine aa af (aa ae (aC (by show((k:Int)<((o.map ag).length:Int));rw[ol];omega) ?_))
    have app:∀ (a:List V) (z:V),D.sl ((a.map ag)++[ag z])=aS (a++[z]):=λa z=>by simp[aS]
    have al:∀ a:List V,(a.map ag).length=a.length:=λa=>zoa ..;refine aa (z:=(0,[aS o,aS (if y≠x then n1++[y] else n1),.bool p1])) ?_ (aa (av (aw (i:=k) (by omega))) rfl)
    refine aa (z:=l.map ag) rfl (aa (z:=i) (by rw[ll];exact ak hi) (aa hxg (aa (z:=k) (by show D.idx (I (k:Int)) (o.map ag).length=_;rw[ol];exact ak hk) (aa hyg (aa (LU n x y) (aa (z:=(0,[aS o,aS n1,.bool p1])) ?_ ?_))))))
    ·refine aa (z:=.bool (!put)) rfl (aa ae (aa (z:=!put&&decide (aF x y\/x=y)) ?_ (aa ae ?_)))
     ·cases put
      ·rw[show(!false)=true from rfl,if_pos rfl];refine aa ae ?_;by_cases hlt:aF x y
       ·refine aC hlt ?_;rw[decide_eq_true (.inl hlt)];rfl
       ·refine az hlt ?_;refine aa (z:=l.map ag) rfl (aa (z:=i) (by rw[ll];exact ak hi) (aa hxg (aa (z:=k) (by show D.idx (I (k:Int)) (o.map ag).length=_;rw[ol];exact ak hk) (aa hyg ?_))))
        rw[im,ae];simp[hlt]
      ·rfl
     ·by_cases hp:put=false/\(aF x y\/x=y)
      ·rw[if_pos hp] at he;cases he;rw[show(!put&&decide (aF x y\/x=y))=true by rw[hp.1,decide_eq_true hp.2];rfl,if_pos rfl]
       refine aa (z:=l.map ag) rfl (aa (z:=i) (by rw[ll];exact ak hi) (aa hxg ?_))
       rw[if_pos (by show(nx.map ag).length+1<=1073741824;rw[al];omega)]
       rw[<-app];rfl
      ·rw[if_neg hp] at he;cases he;rw[show(!put&&decide (aF x y\/x=y))=false by
        cases hput:put
        ·have:¬ (aF x y\/x=y):=λh=>hp ⟨hput,h⟩;simp[this]
        ·rfl]
       rfl
    ·refine aa (z:=k) (by show D.idx (I (k:Int)) (o.map ag).length=_;rw[ol];exact ak hk) (aa hyg (aa (z:=l.map ag) rfl (aa (z:=i) (by rw[ll];exact ak hi) (aa hxg ?_))))
     rw[im];refine aa ae ?_;by_cases hyx:y=x
     ·rw[decide_eq_true hyx,if_neg (show ¬ (y≠x) from λh=>h hyx)];rfl
     ·rw[decide_eq_false hyx,if_pos (show y≠x from hyx),show(!false)=true from rfl,if_pos rfl];refine aa (z:=k) (by show D.idx (I (k:Int)) (o.map ag).length=_;rw[ol];exact ak hk) (aa hyg ?_)
      rw[if_pos (by show(n1.map ag).length+1<=1073741824;rw[al];omega)]
      rw[<-app];rfl
   ·split
    ·simp;omega
    ·omega
   ·intro e;obtain⟨r1,r2⟩:=q1 e;rw[if_pos (λh=>r1 h.symm),r2];simp
   ·intro e;rw[q2 e,List.filter_cons];by_cases hyx:y=x
    ·simp[hyx]
    ·simp[hyx]
  ·obtain⟨nx,put,rfl,hnl,h1,h2⟩:=hJ;refine⟨(0,[aS nx,.bool put]),?_,?_⟩
   ·exact aa af (aa ae (az (by show ¬ ((o.length:Int)<((o.map ag).length:Int));rw[ol];omega) rfl))
   ·have al:∀ a:List V,(a.map ag).length=a.length:=λa=>zoa ..;rw[zzc] at h1 h2;refine aa (z:=(0,[aS (gJ x o)])) ?_ (aa (av (aw (i:=i) (by omega))) rfl)
    refine aa (z:=.bool (!put)) rfl (aa ae ?_);cases put
    ·rw[show(!false)=true from rfl,if_pos rfl];refine aa (z:=l.map ag) rfl (aa (z:=i) (by rw[ll];exact ak hi) (aa hxg ?_))
     rw[if_pos (by show(nx.map ag).length+1<=1073741824;rw[al];omega)]
     rw[h1 rfl];simp[gJ,aS,g0,D.els]
    ·have:=h2 rfl;simp only[List.filter_nil,z4b] at this;rw[this];rfl
 ·subst hJ;rw[zIa];refine⟨(0,[aS (dH l)]),?_,rfl⟩;exact aa (z:=l.map ag) rfl (aa af (aa ae (az (by show ¬ ((l.length:Int)<((l.map ag).length:Int));rw[ll];omega) rfl)))
structure FOk(l:List V)(F:FL):Prop where
 ord:F.Pairwise (λa b=>aF a.1.1 b.1.1)
 ok:∀ f∈F,IsF (pt l) l.length f.1.1 f.1.2/\bE (pt l) l.length f.1.1 f.1.2 f.2
theorem iF{f x:(V×Int)×List Nat}:∀ {L:FL},x∈fY f L↔x=f\/x∈L
 | []=>by simp[fY]
 | y::L=>by
  have ih:=iF (f:=f) (x:=x) (L:=L);unfold fY;split
  ·simp
  ·simp only[zEa,ih];constructor
   ·rintro(h|h|h)
    ·exact .inr (.inl h)
    ·exact .inl h
    ·exact .inr (.inr h)
   ·rintro(h|h|h)
    ·exact .inr (.inl h)
    ·exact .inl h
    ·exact .inr (.inr h)
theorem y7{f:(V×Int)×List Nat}:∀ {L:FL},L.Pairwise (λa b=>aF a.1.1 b.1.1)->(∀ x∈L,x.1.1≠f.1.1)->(fY f L).Pairwise (λa b=>aF a.1.1 b.1.1)
 | [],_,_=>by simp[fY]
 | y::L,h,hn=>by
  obtain⟨h1,h2⟩:=zQa.1 h;unfold fY;split
  ·rename_i k;refine zQa.2 ⟨λz hz=>?_,h⟩;rcases zEa.1 hz with rfl|hz
   ·exact k
   ·exact lI k (h1 z hz)
  ·rename_i k;refine zQa.2 ⟨λz hz=>?_,y7 h2 λx hx=>hn x (zia _ hx)⟩;rcases iF.1 hz with rfl|hz
   ·rcases pW (hn y zma) with k'|k'
    ·exact k'
    ·exact absurd k' k
   ·exact h1 z hz
def BZ(l:List V):List (V×Int):=(List.range l.length).flatMap λi=>(List.range l.length).flatMap λj=>(List.range l.length).flatMap λk=>[(br (dI (pt l) i j k),V.dot (br (dI (pt l) i j k)) (pt l i)),((br (dI (pt l) i j k)).neg,V.dot (br (dI (pt l) i j k)).neg (pt l i))]
def Dl(l:List V)(h:l.length<=100):(BZ l).length<=2000000:=by
 unfold BZ;rw[ny (c:=l.length*(l.length*2)) _ (λi _=>by rw[ny (c:=l.length*2) _ (λj _=>by rw[ny (c:=2) _ (λk _=>rfl),zUb]),zUb]),zUb]
 have a1:l.length*2<=200:=by omega
 have a2:l.length*(l.length*2)<=100*200:=zVa h a1;exact zVa h a2
def Dz{l:List V}{q:V×Int}(h:IsF (pt l) l.length q.1 q.2):q∈BZ l:=by
 obtain⟨i,j,k,h1,h2,h3,h4,h5,h6⟩:=h.ex;refine zWb.2 ⟨i,zLa.2 (by omega),zWb.2 ⟨j,zLa.2 (by omega),zWb.2 ⟨k,zLa.2 h3,?_⟩⟩⟩
 obtain⟨a,b⟩:=q;simp only at h5 h6;subst h6;rcases h5 with rfl|rfl<;>simp
def FOk.len{l:List V}{F:FL}(h:FOk l F)(hl:l.length<=100):F.length<=2000000:=by
 have nd:(F.map Prod.fst).Nodup:=by
  refine zpd.2 (h.ord.imp λ{a b} hab e=>?_);rw[e] at hab;exact mu _ hab
 have:=z5b (l₂:=BZ l) nd λq hq=>by
  obtain⟨f,hf,rfl⟩:=z5a.1 hq;exact Dz (h.ok f hf).1
 rw[zoa] at this;exact zCa this (Dl l hl)
def FOk.insert{l:List V}{F:FL}(h:FOk l F){f:(V×Int)×List Nat}(hn:∀ x∈F,x.1.1≠f.1.1)(h1:IsF (pt l) l.length f.1.1 f.1.2)(h2:bE (pt l) l.length f.1.1 f.1.2 f.2):FOk l (fY f F):=
 ⟨y7 h.ord hn,λx hx=>by
  rcases iF.1 hx with rfl|hx
  ·exact⟨h1,h2⟩
  ·exact h.ok x hx⟩
def kF{v:V}:br v=V.zero↔v=V.zero:=by
 constructor
 ·intro h;by_cases hv:v=V.zero
  ·exact hv
  ·exact absurd h (rW hv)
 ·rintro rfl;apply V.ext'<;>simp[br,V.zero]
def vP{v:V}:v.neg=V.zero↔v=V.zero:=by
 constructor
 ·intro h;by_cases hv:v=V.zero
  ·exact hv
  ·exact absurd h (Ga hv)
 ·rintro rfl;apply V.ext'<;>simp[V.neg,V.zero]
def ab{α β:Type}{A:Option α}{g:α->Option β}{z:α}{Y:β->Prop}(h:A=some z)(hk:∃ y,g z=some y/\Y y):∃ y,Option.bind A g=some y/\Y y:=by
 rw[h];exact hk
def bA{β:Type}{p:Prop}[Decidable p]{A B:Option β}{Y:β->Prop}(h:p)(hA:∃ y,A=some y/\Y y):∃ y,(if decide p=true then A else B)=some y/\Y y:=by rw[if_pos (decide_eq_true h)];exact hA
def w6{β:Type}{p:Prop}[Decidable p]{A B:Option β}{Y:β->Prop}(h:¬ p)(hA:∃ y,B=some y/\Y y):∃ y,(if decide p=true then A else B)=some y/\Y y:=by rw[if_neg (by simpa using h)];exact hA
def GY(n:Nat){l:List V}(hl:∀ x∈l,bd MV x)(hlen:l.length<=100)(hs:EV l){F:FL}(hF:FOk l F){i j k:Nat}(hij:i<j)(hjk:j<k)(hk:k<l.length){m:V}(hm:m=br (dI (pt l) i j k)\/m=(br (dI (pt l) i j k)).neg){α:Type}{g:D->Nat×List D->Option α}{Y:α->Prop}
  (hg:∀ F':FL,FOk l F'->(∀ f∈F,f∈F')->(dI (pt l) i j k≠V.zero->uB (pt l) l.length m (V.dot m (pt l i))->(m,V.dot m (pt l i))∈F'.map Prod.fst)->∃ y,g (I (V.dot m (pt l i))) (0,[.sl (ao F')])=some y/\Y y) :
  ∃ y,(Option.bind (cA (n+4) 107 [ag m,ag (pt l i)]) λr31=>
  Option.bind (cA (n+4) 108 [.sl (ao F),ag m]) λr32=>
  Option.bind (Option.bind (D.un .not r32) λx33=>
  Option.bind (D.truth x33) λb34=>
  Option.bind (if b34 then(Option.bind (D.un .not (D.bool (D.beq (ag m) (D.st [(D.int .i64 0),(D.int .i64 0),(D.int .i64 0)])))) λx35=>
  D.truth x35) else(some false)) λb36=>
  Option.bind (D.truth (D.bool b36)) λb37=>
  Option.bind (if b37 then(Option.bind (cA (n+4) 109 [aS l,ag m,r31]) λr38=>
  D.truth r38) else(some false)) λb39=>
  Option.bind (D.truth (D.bool b39)) λb40=>
  if b40 then(Option.bind (cA (n+4) 111 [aS l,ag m,r31]) λr41=>
  Option.bind (cA (n+4) 110 [.sl (ao F),(D.st [ag m,r31,r41])]) λr42=>
  some (0,[r42])) else(some (0,[.sl (ao F)]))) (g r31))=some y/\Y y:=by
 have hi:i<l.length:=by omega
 have bt:bd 549755813888 (br (dI (pt l) i j k)):=je (dX (jf (P:=pt l) (hl _ (ca hi)) (hl _ (ca (show j<l.length by omega)))) (jf (P:=pt l) (hl _ (ca hi)) (hl _ (ca hk))))
 have bm:bd 549755813888 m:=by
  rcases hm with rfl|rfl
  ·exact bt
  ·exact nk bt
 have hFl:=hF.len hlen;have hmz:m=V.zero↔dI (pt l) i j k=V.zero:=by
  rcases hm with rfl|rfl
  ·exact kF
  ·rw[vP,kF]
 refine ab (At (n+3) bm (hl _ (ca hi)) (by decide)) (ab (NH (n+3) F m (by omega)) ?_)
 obtain⟨d,hd⟩:∃ d,V.dot m (l.getD i V.zero)=d:=⟨_,rfl⟩;have hdp:V.dot m (pt l i)=d:=hd;rw[hdp] at hg;rw[hdp];by_cases hkn:(F.any λf=>decide (f.1.1=m))=true
 ·rw[hkn];refine ab (z:=(0,[.sl (ao F)])) (aa (z:=.bool false) rfl (aa (z:=false) rfl (aa (z:=false) rfl (aa (z:=false) rfl (aa (z:=false) rfl (aa (z:=false) rfl rfl)))))) (hg F hF (λf hf=>hf) λht hsp=>?_);obtain⟨f,hf,hfm⟩:=zTc.1 hkn;have hfm:f.1.1=m:=by simpa using hfm
  have h1:=(hF.ok f hf).1;rw[hfm] at h1;have h2:IsF (pt l) l.length m d:=⟨⟨i,j,k,hij,hjk,hk,ht,hm,hdp.symm⟩,hsp⟩;exact z5a.2 ⟨f,hf,Prod.ext hfm (IsF.d_eq h1 h2)⟩
 ·rw[Bool.not_eq_true] at hkn;rw[hkn];have hnk:∀ f∈F,f.1.1≠m:=λf hf e=>by
   have:=List.any_eq_false.1 hkn f hf;simp[e] at this
  by_cases hz:m=V.zero
  ·refine ab (z:=(0,[.sl (ao F)])) (aa (z:=.bool true) rfl (aa (z:=true) rfl (aa (z:=false) ?_ (aa (z:=false) rfl (aa (z:=false) rfl (aa (z:=false) rfl rfl)))))) (hg F hF (λf hf=>hf) λht hsp=>absurd (hmz.1 hz) ht);rw[if_pos rfl,kp,im,decide_eq_true (show m=⟨0,0,0⟩ from hz)];rfl
  ·have ht:dI (pt l) i j k≠V.zero:=λe=>hz (hmz.2 e);have hc:=NI (n+2) (d:=d) hl bm (by decide) (by omega)
   by_cases hsp:supp l (m,d)=true
   ·have hFm:IsF (pt l) l.length m d:=⟨⟨i,j,k,hij,hjk,hk,ht,hm,hdp.symm⟩,j9.1 hsp⟩;obtain⟨p,hp,_,_⟩:=hFm.poly hs;refine ab (z:=(0,[.sl (ao (fY ((m,d),p) F))])) (aa (z:=.bool true) rfl (aa (z:=true) rfl (aa (z:=true) ?_ (aa (z:=true) rfl (aa (z:=true) ?_ (aa (z:=true) rfl ?_)))))) (hg _ (hF.insert hnk hFm hp) (λf hf=>iF.2 (.inr hf)) λ_ _=>z5a.2 ⟨((m,d),p),iF.2 (.inl rfl),rfl⟩)
    ·rw[if_pos rfl,kp,im,decide_eq_false (show ¬ m=⟨0,0,0⟩ from hz)];rfl
    ·rw[if_pos rfl];refine aa hc ?_;rw[ae];exact congrArg some hsp
    ·rw[if_pos rfl];exact aa (OG n hl hlen hs hFm bm hp) (aa (Ud (n+2) F ((m,d),p) (by omega)) rfl)
   ·refine ab (z:=(0,[.sl (ao F)])) (aa (z:=.bool true) rfl (aa (z:=true) rfl (aa (z:=true) ?_ (aa (z:=true) rfl (aa (z:=false) ?_ (aa (z:=false) rfl rfl)))))) (hg F hF (λf hf=>hf) λ_ hsp'=>absurd (j9.2 hsp') hsp)
    ·rw[if_pos rfl,kp,im,decide_eq_false (show ¬ m=⟨0,0,0⟩ from hz)];rfl
    ·rw[if_pos rfl];refine aa hc ?_;rw[ae];exact congrArg some (zJb.2 hsp)
structure KnF(l:List V)(i j k:Nat)(F:FL):Prop where
 fok:FOk l F
 all:∀ i' j' k',i'<j'->j'<k'->k'<l.length->(i'<i\/i'=i/\(j'<j\/j'=j/\k'<k))->dI (pt l) i' j' k'≠V.zero->∀ m,(m=br (dI (pt l) i' j' k')\/m=(br (dI (pt l) i' j' k')).neg)->uB (pt l) l.length m (V.dot m (pt l i'))->(m,V.dot m (pt l i'))∈F.map Prod.fst
def KnF.mono{l:List V}{i j k i2 j2 k2:Nat}{F:FL}(h:KnF l i j k F)(hm:∀ i' j' k',i'<j'->j'<k'->k'<l.length->(i'<i2\/i'=i2/\(j'<j2\/j'=j2/\k'<k2))->(i'<i\/i'=i/\(j'<j\/j'=j/\k'<k))):KnF l i2 j2 k2 F:=
 ⟨h.fok,λi' j' k' h1 h2 h3 h4=>h.all i' j' k' h1 h2 h3 (hm i' j' k' h1 h2 h3 h4)⟩
def KnF.facets{l:List V}{F:FL}(h:KnF l l.length 0 0 F):Facets (pt l) l.length (F.map Prod.fst):=by
 refine⟨zpd.2 h.fok.ord,λq=>⟨λhq=>?_,λhq=>?_⟩⟩
 ·obtain⟨f,hf,rfl⟩:=z5a.1 hq;exact(h.fok.ok f hf).1
 ·obtain⟨⟨i,j,k,h1,h2,h3,c1,c2,c3⟩,hs⟩:=hq;obtain⟨m,d⟩:=q;simp only at c2 c3 hs;subst c3;exact h.all i j k h1 h2 h3 (.inl (by omega)) c1 m c2 hs
end Sy
end
noncomputable section
namespace Sy
open Go Go.Proofs Geo
def mt(p:V):Nat->V
 | 0=>p
 | 1=>p.neg
 | _=>p
def XB(n:Nat){l:List V}(hl:∀ x∈l,bd MV x)(hlen:l.length<=100)(hs:EV l):∃ F:FL,KnF l l.length 0 0 F/\cA (n+7) 48 [aS l]=some (.sl (ao F)):=by
 suffices h:∃ y,cA (n+7) 48 [aS l]=some y/\∃ F:FL,KnF l l.length 0 0 F/\y=.sl (ao F) by
  obtain⟨y,h1,F,h2,rfl⟩:=h;exact⟨F,h2,h1⟩
 rw[Z5]
 delta Pk qB qC qT qN qX qL qZ iL iR Jn
 have ll:(l.map ag).length=l.length:=zoa ..;refine cW (λi s=>∃ F:FL,s=[.sl (ao F),I (i:Int)]/\KnF l i 0 0 F) l.length 0 (zga _) ⟨[],rfl,⟨.nil,by simp⟩,λi' j' k' h1 h2 h3 h4=>by omega⟩ (λi hi s hJ=>?_) (λs hJ=>?_)
 ·obtain⟨F,rfl,hF⟩:=hJ;refine ab (z:=l.map ag) rfl (ab af (ab ae (bA (by show((i:Int)<((l.map ag).length:Int));rw[ll];omega) (ab (av (aw (i:=i) (by omega))) ?_))))
  refine cW (λj s=>i+1<=j/\∃ F:FL,s=[.sl (ao F),I (j:Int)]/\KnF l i j 0 F) l.length (i+1) (by omega) ⟨zja _,F,rfl,hF.mono λi' j' k' h1 h2 h3 h4=>by omega⟩ (λj hj s hJ=>?_) (λs hJ=>?_)
  ·obtain⟨hij,F,rfl,hF⟩:=hJ;refine ab (z:=l.map ag) rfl (ab af (ab ae (bA (by show((j:Int)<((l.map ag).length:Int));rw[ll];omega) (ab (av (aw (i:=j) (by omega))) ?_))))
   refine cW (λk s=>j+1<=k/\∃ F:FL,s=[.sl (ao F),I (k:Int)]/\KnF l i j k F) l.length (j+1) (by omega) ⟨zja _,F,rfl,hF.mono λi' j' k' h1 h2 h3 h4=>by omega⟩ (λk hk s hJ=>?_) (λs hJ=>?_)
   ·obtain⟨hjk,F,rfl,hF⟩:=hJ;refine ab (z:=l.map ag) rfl (ab af (ab ae (bA (by show((k:Int)<((l.map ag).length:Int));rw[ll];omega) ?_)))
    refine ab (z:=l.map ag) rfl (ab (z:=i) (by rw[ll];exact ak hi) (ab (cB hi) (ab (z:=l.map ag) rfl (ab (z:=j) (by rw[ll];exact ak hj) (ab (cB hj) (ab (z:=l.map ag) rfl (ab (z:=k) (by rw[ll];exact ak hk) (ab (cB hk) (ab (z:=ag (br (dI (pt l) i j k))) (NG n (hl _ (ca hi)) (hl _ (ca hj)) (hl _ (ca hk))) ?_)))))))))
    have bt:bd 549755813888 (br (dI (pt l) i j k)):=je (dX (jf (P:=pt l) (hl _ (ca hi)) (hl _ (ca hj))) (jf (P:=pt l) (hl _ (ca hi)) (hl _ (ca hk))));obtain⟨p,hp⟩:∃ p,br (dI (pt l) i j k)=p:=⟨_,rfl⟩;rw[hp] at bt ⊢;have z0:bd 0 V.zero:=by simp only[bd,V.zero];omega
    have e1:V.zero.sub p=p.neg:=by apply V.ext'<;>simp[V.sub,V.neg,V.zero]
    have e2:V.zero.sub p.neg=p:=by apply V.ext'<;>simp[V.sub,V.neg,V.zero]
    refine cW (λt s=>∃ F':FL,s=[.sl (ao F'),I (t:Int),ag (mt p t)]/\FOk l F'/\(∀ f∈F,f∈F')/\(1<=t->dI (pt l) i j k≠V.zero->uB (pt l) l.length p (V.dot p (pt l i))->(p,V.dot p (pt l i))∈F'.map Prod.fst)/\(2<=t->dI (pt l) i j k≠V.zero->uB (pt l) l.length p.neg (V.dot p.neg (pt l i))->(p.neg,V.dot p.neg (pt l i))∈F'.map Prod.fst)) 2 0 (by omega) ⟨F,rfl,hF.fok,λf hf=>hf,λh=>by omega,λh=>by omega⟩ (λt ht s hJ=>?_) (λs hJ=>?_)
    ·obtain⟨F',rfl,f1,f2,f3,f4⟩:=hJ;refine ab af (ab ae (bA (by show((t:Int)<2);omega) (ab (z:=l.map ag) rfl (ab (z:=i) (by rw[ll];exact ak hi) (ab (cB hi) ?_)))))
     have ht':t=0\/t=1:=by omega
     simp only[g0,g1,g2];rcases ht' with rfl|rfl
     ·rw[show mt p 0=p from rfl];refine GY (n+2) hl hlen hs f1 (show i<j by omega) (show j<k by omega) hk (m:=p) (.inl hp.symm) (λF2 k1 k2 k3=>?_)
      refine⟨.inl [.sl (ao F2),I ((0+1:Nat):Int),ag p.neg],?_,?_⟩
      ·refine aa (z:=ag p.neg) ?_ ?_
       ·have:=wI (n+5) z0 bt (by decide)
        rw[e1] at this;exact this
       ·exact aa (av Mn) rfl
      ·exact⟨F2,rfl,k1,λf hf=>k2 f (f2 f hf),λ_=>k3,λh=>by omega⟩
     ·rw[show mt p 1=p.neg from rfl];refine GY (n+2) hl hlen hs f1 (show i<j by omega) (show j<k by omega) hk (m:=p.neg) (.inr (by rw[hp])) (λF2 k1 k2 k3=>?_)
      refine⟨.inl [.sl (ao F2),I ((1+1:Nat):Int),ag p],?_,F2,rfl,k1,λf hf=>k2 f (f2 f hf),λ_ h1 h2=>?_,λ_=>k3⟩
      ·refine aa (z:=ag p) ?_ ?_
       ·have:=wI (n+5) z0 (nk bt) (by decide)
        rw[e2] at this;exact this
       ·exact aa (av tg) rfl
      ·obtain⟨f,hf,e⟩:=z5a.1 (f3 (zja _) h1 h2);exact z5a.2 ⟨f,k2 f hf,e⟩
    ·obtain⟨F',rfl,f1,f2,f3,f4⟩:=hJ;refine⟨.inr (0,[.sl (ao F')]),aa af (aa ae (az (by decide) rfl)),.inl [.sl (ao F'),I ((k+1:Nat):Int)],aa (av (aw (i:=k) (by omega))) rfl,by omega,F',rfl,f1,λi' j' k' h1 h2 h3 h4 h5 m h6 h7=>?_⟩
     by_cases e:i'=i/\j'=j/\k'=k
     ·obtain⟨rfl,rfl,rfl⟩:=e;rw[hp] at h6;rcases h6 with rfl|rfl
      ·exact f3 (by omega) h5 h7
      ·exact f4 (by omega) h5 h7
     ·obtain⟨f,hf,e⟩:=z5a.1 (hF.all i' j' k' h1 h2 h3 (by omega) h5 m h6 h7)
      exact z5a.2 ⟨f,f2 f hf,e⟩
   ·obtain⟨hjk,F,rfl,hF⟩:=hJ;refine⟨.inr (0,[.sl (ao F)]),?_,.inl [.sl (ao F),I ((j+1:Nat):Int)],aa (av (aw (i:=j) (by omega))) rfl,by omega,F,rfl,hF.mono λi' j' k' h1 h2 h3 h4=>by omega⟩
    exact aa (z:=l.map ag) rfl (aa af (aa ae (az (by show ¬ ((l.length:Int)<((l.map ag).length:Int));rw[ll];omega) rfl)))
  ·obtain⟨hij,F,rfl,hF⟩:=hJ;refine⟨.inr (0,[.sl (ao F)]),?_,.inl [.sl (ao F),I ((i+1:Nat):Int)],aa (av (aw (i:=i) (by omega))) rfl,F,rfl,hF.mono λi' j' k' h1 h2 h3 h4=>by omega⟩
   exact aa (z:=l.map ag) rfl (aa af (aa ae (az (by show ¬ ((l.length:Int)<((l.map ag).length:Int));rw[ll];omega) rfl)))
 ·obtain⟨F,rfl,hF⟩:=hJ;refine⟨.inr (0,[.sl (ao F)]),?_,.sl (ao F),rfl,F,hF,rfl⟩;exact aa (z:=l.map ag) rfl (aa af (aa ae (az (by show ¬ ((l.length:Int)<((l.map ag).length:Int));rw[ll];omega) rfl)))
end Sy
end
noncomputable section
namespace Sy
open Go Go.Proofs Geo
def aD(l:List V):(l.map ag).length=l.length:=zoa ..
def Zx(n:Nat)(a b:List V)(ha:a.length<=1000000):cA (n+1) 13 [aS a,aS b]=some (.bool (decide (a=b))):=by
 rw[ZO]
 delta O4 qB qT qS qX qL qZ iL iR Jn
 refine aa (z:=a.map ag) rfl (aa (z:=b.map ag) rfl ?_);rw[aD,aD,bN];by_cases hab:a.length=b.length
 ·rw[decide_eq_true hab];refine aa (z:=false) rfl ?_;rw[if_neg (by decide)]
  refine ba (λi s=>s=[I (i:Int)]/\a.take i=b.take i) a.length 0 (zga _) ⟨rfl,by simp⟩ (λi hi s hJ=>?_) (λs hJ=>?_)
  ·obtain⟨rfl,hz⟩:=hJ;have hib:i<b.length:=by omega
   have pre:∀ z,(Option.bind (D.truth (D.bool (!(D.beq (ag (a.getD i V.zero)) (ag (b.getD i V.zero)))))) λb14=>
     if b14 then(some (Sum.inr (0,[(D.bool false)]))) else(Option.bind (D.bin .add (I (i:Int)) (D.int .i64 1)) λx15=>some (Sum.inl [x15])))=some z ->
     (Option.bind (D.asSl (aS a)) λl5=>Option.bind (D.bin .lss (I (i:Int)) (D.int .i64 (List.length l5))) λx6=>Option.bind (D.truth x6) λb7=>
     if b7 then(Option.bind (D.asSl (aS a)) λl8=>Option.bind (D.idx (I (i:Int)) (List.length l8)) λi9=>Option.bind (l8[i9]?) λx10=>Option.bind (D.asSl (aS b)) λl11=>Option.bind (D.idx (I (i:Int)) (List.length l11)) λtg=>Option.bind (l11[tg]?) λx13=>
     Option.bind (D.truth (D.bool (!(D.beq x10 x13)))) λb14=>
     if b14 then(some (Sum.inr (0,[(D.bool false)]))) else(Option.bind (D.bin .add (I (i:Int)) (D.int .i64 1)) λx15=>some (Sum.inl [x15]))) else(some (Sum.inr (1,[]):Sum (List D) (Nat×List D))))=some z:=λz hz=>
    aa (z:=a.map ag) rfl (aa af (aa ae (aC (by show((i:Int)<((a.map ag).length:Int));rw[aD];omega) (aa (z:=a.map ag) rfl (aa (z:=i) (by rw[aD];exact ak hi) (aa (cB hi) (aa (z:=b.map ag) rfl (aa (z:=i) (by rw[aD];exact ak hib) (aa (cB hib) hz)))))))))
   rw[im] at pre;by_cases he:a.getD i V.zero=b.getD i V.zero
   ·left;refine⟨[I ((i+1:Nat):Int)],pre _ ?_,rfl,?_⟩
    ·rw[decide_eq_true he];refine aa (z:=false) rfl ?_;rw[if_neg (by decide)]
     exact aa (av (aw (i:=i) (by omega))) rfl
    ·rw[zka hi,zka hib,hz];simp only[List.getD,hi,hib,zca,zmb] at he;rw[he]
   ·right;refine⟨(0,[.bool false]),pre _ ?_,?_⟩
    ·rw[decide_eq_false he];rfl
    ·rw[decide_eq_false (λe=>he (by rw[e]))];rfl
  ·obtain⟨rfl,hz⟩:=hJ;refine⟨(1,[]),?_,?_⟩
   ·exact aa (z:=a.map ag) rfl (aa af (aa ae (az (by show ¬ ((a.length:Int)<((a.map ag).length:Int));rw[aD];omega) rfl)))
   ·rw[zIa,hab,zIa] at hz;rw[decide_eq_true hz];rfl
 ·rw[decide_eq_false hab,decide_eq_false (λe=>hab (by rw[e]))]
  rfl
instance decBd (k:Int) (v:V):Decidable (bd k v):=by unfold bd;exact inferInstance
def n7(v:V):Nat->Int
 | 0=>v.x
 | 1=>v.y
 | _=>v.z
def Fz(v:V){t:Nat}(h:t<3):D.fld (ag v) t=some (I (n7 v t)):=by
 have:t=0\/t=1\/t=2:=by omega
 rcases this with rfl|rfl|rfl<;>rfl
def BT{v:V}:bd MV v↔∀ t,t<3->¬ (n7 v t>262144)/\¬ (n7 v t < -262144):=by
 constructor
 ·intro h t ht;have:t=0\/t=1\/t=2:=by omega
  simp only[bd,MV] at h;rcases this with rfl|rfl|rfl<;>simp only[n7]<;>omega
 ·intro h;have h0:=h 0 (by decide);have h1:=h 1 (by decide);have h2:=h 2 (by decide)
  simp only[n7] at h0 h1 h2;simp only[bd,MV];omega
def jm(F:FL)(i:Nat):Bool:=F.any λf=>f.2.any λx=>decide (x=i)
def cX(S:List V)(F:FL)(k:Nat):List V:=((List.range k).filter (jm F)).map (pt S)
def BF(S:List V)(F:FL)(k:Nat):cX S F (k+1)=if jm F k then cX S F k++[pt S k] else cX S F k:=by
 unfold cX;rw[zxb,List.filter_append];by_cases h:jm F k=true<;>simp[h]
def ww(S:List V)(F:FL)(k:Nat):(cX S F k).length<=k:=by
 unfold cX;rw[zoa];exact zCa (zlc _ _) (by simp)
def AD(e:Int):D:=.st [.st [.sl []],I e]
def Co(S:List V)(F:FL):D:=if F.length=0 then AD 120 else if F.length>64 then AD 2 else .st [.st [aS (cX S F S.length)],I 0]
def Jy(n:Nat){l:List V}(h:64<l.length):cA (n+1) 12 [aS l]=some (AD 2):=by
 rw[VF]
 delta M9 qB qC qT qS qX qL qV qW qZ iL iR Jn
 exact aa (z:=l.map ag) rfl (aa bP (aa ae (aC (by show((l.map ag).length:Int)>64;rw[aD];omega) rfl)))
def Mp{l:List V}{i:Nat}(hi:i<l.length){α:Type}{k:Nat×List D->Option α}{y:α}(hy:k (if bd MV (l.getD i V.zero) then(1,[.sl [],I 0]) else(0,[.sl [],I 1]))=some y) :
  Option.bind (aN (λ(v8:List D)=>
 Option.bind (D.bin .lss (gx v8 0) (D.int .i64 3)) λx9=>
 Option.bind (D.truth x9) λb10=>
 if b10 then(Option.bind (D.asSl (aS l)) λl11=>
 Option.bind (D.idx (I (i:Int)) (List.length l11)) λtg=>
 Option.bind (l11[tg]?) λx13=>
 Option.bind (D.idx (gx v8 0) 3) λi14=>
 Option.bind (D.fld x13 i14) λx15=>
 Option.bind (D.bin .gtr x15 (D.int .i64 262144)) λx16=>
 Option.bind (D.truth x16) λb17=>
 Option.bind (if b17 then(some true) else(Option.bind (D.asSl (aS l)) λl18=>
 Option.bind (D.idx (I (i:Int)) (List.length l18)) λi19=>
 Option.bind (l18[i19]?) λx20=>
 Option.bind (D.idx (gx v8 0) 3) λi21=>
 Option.bind (D.fld x20 i21) λx22=>
 Option.bind (D.bin .lss x22 (D.int .i64 (-262144))) λx23=>
 D.truth x23)) λb24=>
 Option.bind (D.truth (D.bool b24)) λb25=>
 if b25 then(some (Sum.inr (0,[(D.sl []),(D.int .i64 1)]))) else(Option.bind (D.bin .add (gx v8 0) (D.int .i64 1)) λx26=>
 some (Sum.inl [x26,(D.sl (D.els (gx v8 1))),(gx v8 2)]))) else(some (Sum.inr (1,[(D.sl (D.els (gx v8 1))),(gx v8 2)])))) [(D.int .i64 0),.sl [],I 0]) k=some y:=by
 refine bT (λt s=>s=[I (t:Int),.sl [],I 0]/\∀ t',t'<t->¬ (n7 (l.getD i V.zero) t'>262144)/\¬ (n7 (l.getD i V.zero) t' < -262144)) 3 0 (by decide) ⟨rfl,λt' h=>by omega⟩ (λt ht s hJ=>?_) (λs hJ=>?_)
 ·obtain⟨rfl,hz⟩:=hJ;have hf:=Fz (l.getD i V.zero) ht;have ix:D.idx (I (t:Int)) 3=some t:=ak ht;have pre:∀ z,(if decide (n7 (l.getD i V.zero) t>262144\/n7 (l.getD i V.zero) t < -262144)=true then(some (Sum.inr (0,[(D.sl []),(D.int .i64 1)]))) else(Option.bind (D.bin .add (I (t:Int)) (D.int .i64 1)) λx26=>some (Sum.inl [x26,.sl [],I 0])))=some z->_:=λ(z:Sum (List D) (Nat×List D)) hz'=>
   aa (g:=λx9=>Option.bind (D.truth x9) λb10=>if b10 then(Option.bind (D.asSl (aS l)) λl11=>Option.bind (D.idx (I (i:Int)) (List.length l11)) λtg=>Option.bind (l11[tg]?) λx13=>Option.bind (D.idx (I (t:Int)) 3) λi14=>Option.bind (D.fld x13 i14) λx15=>Option.bind (D.bin .gtr x15 (D.int .i64 262144)) λx16=>Option.bind (D.truth x16) λb17=>
    Option.bind (if b17 then(some true) else(Option.bind (D.asSl (aS l)) λl18=>Option.bind (D.idx (I (i:Int)) (List.length l18)) λi19=>Option.bind (l18[i19]?) λx20=>Option.bind (D.idx (I (t:Int)) 3) λi21=>Option.bind (D.fld x20 i21) λx22=>Option.bind (D.bin .lss x22 (D.int .i64 (-262144))) λx23=>D.truth x23)) λb24=>
    Option.bind (D.truth (D.bool b24)) λb25=>
    if b25 then(some (Sum.inr (0,[(D.sl []),(D.int .i64 1)]))) else(Option.bind (D.bin .add (I (t:Int)) (D.int .i64 1)) λx26=>some (Sum.inl [x26,.sl [],I 0]))) else(some (Sum.inr (1,[.sl [],I 0]))))
    (af (a:=(t:Int)) (b:=3)) (y:=z) (aa ae (aC (by omega) (aa (z:=l.map ag) rfl (aa (z:=i) (by rw[aD];exact ak hi) (aa (cB hi) (aa ix (aa hf (aa bP (aa ae (aa (z:=decide (n7 (l.getD i V.zero) t>262144\/n7 (l.getD i V.zero) t < -262144)) (by
     by_cases h1:n7 (l.getD i V.zero) t>262144
     ·refine aC h1 ?_;rw[decide_eq_true (.inl h1)]
     ·refine az h1 (aa (z:=l.map ag) rfl (aa (z:=i) (by rw[aD];exact ak hi) (aa (cB hi) (aa ix (aa hf (aa af ?_))))))
      rw[ae];congr 1;rw[decide_eq_decide];exact⟨.inr,λh=>h.resolve_left h1⟩) (aa ae hz')))))))))))
  by_cases hb:n7 (l.getD i V.zero) t>262144\/n7 (l.getD i V.zero) t < -262144
  ·right;refine⟨_,pre _ (aC hb rfl),?_⟩;rw[if_neg (λh=>by have:=BT.1 h t ht;omega)] at hy
   exact hy
  ·left;refine⟨[I ((t+1:Nat):Int),.sl [],I 0],pre _ (az hb (aa (av (aw (i:=t) (by omega))) rfl)),rfl,λt' ht'=>?_⟩
   by_cases e:t'=t
   ·subst e;omega
   ·exact hz t' (by omega)
 ·obtain⟨rfl,hz⟩:=hJ;refine⟨(1,[.sl [],I 0]),aa af (aa ae (az (by decide) rfl)),?_⟩
  rw[if_pos (BT.2 hz)] at hy;exact hy
def Jx(n:Nat){l:List V}(hlen:l.length<=64)(hb:¬ ∀ x∈l,bd MV x):cA (n+1) 12 [aS l]=some (AD 1):=by
 rw[VF]
 delta M9 qB qC qT qS qX qL qV qW qZ iL iR Jn
 refine aa (z:=l.map ag) rfl (aa bP (aa ae (az (by show ¬ ((l.map ag).length:Int)>64;rw[aD];omega) ?_)))
 refine ba (λi s=>s=[I (i:Int),.sl [],I 0]/\∀ x∈l.take i,bd MV x) l.length 0 (zga _) ⟨rfl,by simp⟩ (λi hi s hJ=>?_) (λs hJ=>?_)
 ·obtain⟨rfl,hz⟩:=hJ;by_cases hx:bd MV (l.getD i V.zero)
  ·left;refine⟨[I ((i+1:Nat):Int),.sl [],I 0],?_,rfl,λx hx'=>?_⟩
   ·refine aa (z:=l.map ag) rfl (aa af (aa ae (aC (by show((i:Int)<((l.map ag).length:Int));rw[aD];omega) (Mp hi ?_))))
    rw[if_pos hx,if_neg (show ¬ (1:Nat)=0 by decide)]
    exact aa (av (aw (i:=i) (by omega))) rfl
   ·rw[zka hi] at hx';rcases zwa.1 hx' with h|h
    ·exact hz x h
    ·rw[zAa.1 h];simpa [List.getD,hi] using hx
  ·right;refine⟨(0,[.sl [],I 1]),?_,rfl⟩;refine aa (z:=l.map ag) rfl (aa af (aa ae (aC (by show((i:Int)<((l.map ag).length:Int));rw[aD];omega) (Mp hi ?_))))
   rw[if_neg hx];rfl
 ·obtain⟨rfl,hz⟩:=hJ;rw[zIa] at hz;exact absurd hz hb
def E9(n:Nat){l:List V}(hlen:l.length<=64)(hl:∀ x∈l,bd MV x){F:FL}(hpl:∀ f∈F,f.2.length<=1000000)(hFl:F.length<=3000000)(h48:cA (n+2) 48 [aS (dH l)]=some (.sl (ao F))):cA (n+3) 12 [aS l]=some (Co (dH l) F):=by
 rw[VF]
 delta M9 qB qC qT qS qX qL qV qW qZ iL iR Jn
 refine aa (z:=l.map ag) rfl (aa bP (aa ae (az (by show ¬ ((l.map ag).length:Int)>64;rw[aD];omega) ?_)))
 refine ba (λi s=>s=[I (i:Int),.sl [],I 0]) l.length 0 (zga _) rfl (λi hi s hJ=>?_) (λs hJ=>?_)
 ·subst hJ;left;refine⟨[I ((i+1:Nat):Int),.sl [],I 0],?_,rfl⟩;refine aa (z:=l.map ag) rfl (aa af (aa ae (aC (by show((i:Int)<((l.map ag).length:Int));rw[aD];omega) (Mp hi ?_))))
  rw[if_pos (hl _ (ca hi)),if_neg (show ¬ (1:Nat)=0 by decide)]
  exact aa (av (aw (i:=i) (by omega))) rfl
 ·subst hJ;refine⟨(1,[.sl [],I 0]),aa (z:=l.map ag) rfl (aa af (aa ae (az (by show ¬ ((l.length:Int)<((l.map ag).length:Int));rw[aD];omega) rfl))),?_⟩
  rw[if_neg (show ¬ (1:Nat)=0 by decide)]
  have hSl:=zCa (oV l) hlen;refine aa (ZA n l (by omega)) (aa h48 (aa (z:=ao F) rfl ?_))
  obtain⟨S,hS⟩:∃ S,dH l=S:=⟨_,rfl⟩;rw[hS] at hSl ⊢;rw[aA,show D.beq (D.int .i64 (F.length:Nat)) (D.int .i64 0)=decide (F.length=0) from bN F.length 0];refine aa ae ?_;unfold Co;by_cases h0:F.length=0
  ·refine aC h0 ?_;rw[if_pos h0];rfl
  refine az h0 (aa (z:=ao F) rfl (aa bP (aa ae ?_)));rw[if_neg h0];by_cases h64:F.length>64
  ·refine aC (by rw[aA];omega) ?_
   rw[if_pos h64];rfl
  refine az (by rw[aA];omega) ?_
  rw[if_neg h64];refine ba (λi s=>s=[I (i:Int),.sl [],I 0,aS (cX S F i),I 0]) S.length 0 (zga _) rfl (λi hi s hJ=>?_) (λs hJ=>?_)
  ·subst hJ;left;refine⟨[I ((i+1:Nat):Int),.sl [],I 0,aS (cX S F (i+1)),I 0],?_,rfl⟩;have hvl:=ww S F i;refine aa (z:=S.map ag) rfl (aa af (aa ae (aC (by show((i:Int)<((S.map ag).length:Int));rw[aD];omega) ?_)))
   refine aa (z:=(0,[.sl [],I 0,aS (cX S F (i+1)),I 0])) ?_ (aa (av (aw (i:=i) (by omega))) rfl)
   refine bT (λk s=>s=[.bool (jm (F.take k) i),I (k:Int),.sl [],I 0,aS (cX S F i),I 0]) F.length 0 (zga _) rfl (λk hk s hJ=>?_) (λs hJ=>?_)
   ·subst hJ;left;refine⟨[.bool (jm (F.take (k+1)) i),I ((k+1:Nat):Int),.sl [],I 0,aS (cX S F i),I 0],?_,rfl⟩;have hpk:=hpl F[k] (zla hk);have e1:jm (F.take (k+1)) i=(jm (F.take k) i||F[k].2.any λx=>decide (x=i)):=by
     unfold jm;rw[zka hk,zIc];simp
    refine aa (z:=ao F) rfl (aa af (aa ae (aC (by show((k:Int)<((ao F).length:Int));rw[aA];omega) ?_)))
    have fp:∀ {β:Type} {g:List D->Option β} {y:β},g (ah F[k].2)=some y->(Option.bind (D.asSl (.sl (ao F))) λl46=>Option.bind (D.idx (I (k:Int)) (List.length l46)) λi47=>Option.bind (l46[i47]?) λx48=>Option.bind (D.fld x48 2) λx49=>Option.bind (D.asSl x49) g)=some y:=λh=>
     aa (z:=ao F) rfl (aa (z:=k) (by rw[aA];exact ak hk) (aa (cJ hk) (aa (z:=.sl (ah F[k].2)) rfl (aa (z:=ah F[k].2) rfl h))))
    rw[e1];generalize jm (F.take k) i=b0;obtain⟨p,hp⟩:∃ p,F[k].2=p:=⟨_,rfl⟩;rw[hp] at hpk fp ⊢;refine bT (λj s=>s=[.bool (b0||(p.take j).any λx=>decide (x=i)),I (j:Int),.sl [],I 0,aS (cX S F i),I 0]) p.length 0 (zga _) (by rw[List.take_zero,List.any_nil,Bool.or_false];rfl) (λj hj s hJ=>?_) (λs hJ=>?_)
    ·subst hJ;left;refine⟨[.bool (b0||(p.take (j+1)).any λx=>decide (x=i)),I ((j+1:Nat):Int),.sl [],I 0,aS (cX S F i),I 0],?_,rfl⟩;refine fp (aa af (aa ae (aC (by show((j:Int)<((ah p).length:Int));rw[am];omega) (aa ae (aa (z:=b0||(p.take (j+1)).any λx=>decide (x=i)) ?_ (aa (av (aw (i:=j) (by omega))) rfl))))))
     rw[zka hj,zIc];generalize (p.take j).any (λx=>decide (x=i))=b1;cases hb:(b0||b1)
     ·rw[<-Bool.or_assoc,hb,if_neg (by decide)]
      refine fp (aa (z:=j) (by rw[am];exact ak hj) (aa (iu hj) ?_))
      have:D.beq (I ((p.getD j 0:Nat):Int)) (I (i:Int))=decide (p[j]=i):=by rw[bN];simp[List.getD,hj]
      show D.truth (D.bool (D.beq (I ((p.getD j 0:Nat):Int)) (I (i:Int))))=_;rw[this,ae];simp
     ·rw[<-Bool.or_assoc,hb];rfl
    ·subst hJ;rw[zIa];refine⟨(0,[.bool (b0||p.any λx=>decide (x=i)),.sl [],I 0,aS (cX S F i),I 0]),fp (aa af (aa ae (az (by show ¬ ((p.length:Int)<((ah p).length:Int));rw[am];omega) rfl))),?_⟩
     exact aa (av (aw (i:=k) (by omega))) rfl
   ·subst hJ;rw[zIa];refine⟨(0,[.bool (jm F i),.sl [],I 0,aS (cX S F i),I 0]),?_,?_⟩
    ·exact aa (z:=ao F) rfl (aa af (aa ae (az (by show ¬ ((F.length:Int)<((ao F).length:Int));rw[aA];omega) rfl)))
    ·rw[BF];refine aa (z:=jm F i) ae ?_;cases jm F i
     ·rfl
     ·rw[if_pos rfl,if_pos rfl];refine aa (z:=S.map ag) rfl (aa (z:=i) (by rw[aD];exact ak hi) (aa (cB hi) ?_))
      rw[if_pos (by show((cX S F i).map ag).length+1<=1073741824;rw[aD];omega)]
      have:D.sl ((cX S F i).map ag++[ag (S.getD i V.zero)])=aS (cX S F i++[pt S i]):=by simp[aS,pt]
      rw[<-this];rfl
  ·subst hJ;refine⟨(0,[.sl [],I 0,aS (cX S F S.length),I 0]),?_,rfl⟩;exact aa (z:=S.map ag) rfl (aa af (aa ae (az (by show ¬ ((S.length:Int)<((S.map ag).length:Int));rw[aD];omega) rfl)))
def zA{l:List V}(hs:EV l){m:V}{d:Int}(hF:IsF (pt l) l.length m d){p:List Nat}(hp:bE (pt l) l.length m d p):p.Nodup/\p.length<=l.length/\0<p.length/\∀ x∈p,x<l.length:=by
 obtain⟨p',hp',hnd,hmem⟩:=hF.poly hs;have e:=bE.eq hs hF hp hp';subst e;obtain⟨a,_,ha,hea,_,_⟩:=hF.head hs;have hm:a∈p:=(hmem a).2 ⟨ha,hea⟩;refine⟨hnd,?_,List.length_pos_iff.2 (λe=>by rw[e] at hm;cases hm),λx hx=>(aV.1 ((hmem x).1 hx).1).1⟩
 have:=z5b (l₂:=List.range l.length) hnd λx hx=>zLa.2 (aV.1 ((hmem x).1 hx).1).1;simpa using this
def Kw{l:List V}(hl:∀ x∈l,bd MV x):∀ x∈dH l,bd MV x:=λx hx=>hl x (zl.1 hx)
def Zw(n:Nat){l:List V}(hlen:l.length<=100):(64<l.length/\cA (n+8) 12 [aS l]=some (AD 2))\/(l.length<=64/\(¬ ∀ x∈l,bd MV x)/\cA (n+8) 12 [aS l]=some (AD 1)) ∨
  (l.length<=64/\(∀ x∈l,bd MV x)/\∃ F:FL,KnF (dH l) (dH l).length 0 0 F/\cA (n+8) 12 [aS l]=some (Co (dH l) F)):=by
 by_cases h64:64<l.length
 ·exact .inl ⟨h64,Jy (n+7) h64⟩
 ·by_cases hb:∀ x∈l,bd MV x
  ·right;right;refine⟨by omega,hb,?_⟩
   have hsl:=oV l;have hS:=GH (uf l);obtain⟨F,h1,h2⟩:=XB n (Kw hb) (by omega) hS
   refine⟨F,h1,E9 (n+5) (by omega) hb (λf hf=>?_) (zCa (h1.fok.len (by omega)) (by decide)) h2⟩
   obtain⟨q1,q2⟩:=h1.fok.ok f hf;have:=(zA hS q1 q2).2.1;omega
  ·exact .inr (.inl ⟨by omega,hb,Jx (n+7) (by omega) hb⟩)
def Es(S:List V)(F:FL):(cX S F S.length).Sublist S:=by
 have h1:((List.range S.length).map (pt S))=S:=by
  apply zcc;intro i;by_cases h:i<S.length
  ·rw[zcb,zfd h];simp[pt,List.getD,h]
  ·rw[zcb,show(List.range S.length)[i]?=none by simp;omega];simp;omega
 have h2:(cX S F S.length).Sublist ((List.range S.length).map (pt S)):=List.Sublist.map _ List.filter_sublist;rw[h1] at h2;exact h2
def Zy(n:Nat){l:List V}(hlen:l.length<=100):(∃ e:Int,cA (n+9) 15 [be l]=some (I e)/\e≠0)\/(cA (n+9) 15 [be l]=some (I 0)/\l.length<=64/\(∀ x∈l,bd MV x)/\∃ F:FL,KnF (dH l) (dH l).length 0 0 F/\F.length≠0/\F.length<=64/\cX (dH l) F (dH l).length=l):=by
 rw[ZP]
 delta O5 qG qT Jn
 have err:∀ e:Int,e≠0->cA (n+8) 12 [aS l]=some (AD e)->∃ e:Int,(Option.bind (D.get (be l) [0]) λx1=>
 Option.bind (cA (n+8) 12 [x1]) λr2=>
 Option.bind (D.get r2 [1]) λx3=>
 Option.bind (D.truth (D.bool (D.beq x3 (D.int .i64 0)))) λb4=>
 Option.bind (if b4 then(Option.bind (D.get r2 [0,0]) λx5=>
 Option.bind (D.get (be l) [0]) λx6=>
 Option.bind (cA (n+8) 13 [x5,x6]) λr7=>
 Option.bind (D.un .not r7) λx8=>
 D.truth x8) else(some false)) λb9=>
 Option.bind (D.truth (D.bool b9)) λb10=>
 if b10 then(some (D.int .i64 3)) else(Option.bind (D.get r2 [1]) λx11=>
 some x11))=some (I e)/\e≠0:=λe he h=>⟨e,by
  refine aa (z:=aS l) rfl (aa h (aa (z:=I e) rfl (aa (z:=false) ?_ (aa (z:=false) rfl (aa (z:=false) rfl rfl)))));rw[show D.beq (I e) (D.int .i64 0)=decide (e=0) from bF,decide_eq_false he];rfl,he⟩
 rcases Zw n hlen with⟨h1,h2⟩|⟨h0,h1,h2⟩|⟨h0,h1,F,h2,h3⟩
 ·exact .inl (err 2 (by decide) h2)
 ·exact .inl (err 1 (by decide) h2)
 ·unfold Co at h3;by_cases f0:F.length=0
  ·rw[if_pos f0] at h3;exact .inl (err 120 (by decide) h3)
  ·rw[if_neg f0] at h3;by_cases f1:F.length>64
   ·rw[if_pos f1] at h3;exact .inl (err 2 (by decide) h3)
   ·rw[if_neg f1] at h3;have hvl:=ww (dH l) F (dH l).length;have hsl:=oV l;have h13:=Zx (n+7) (cX (dH l) F (dH l).length) l (by omega)
    by_cases hv:cX (dH l) F (dH l).length=l
    ·rw[decide_eq_true hv] at h13;refine .inr ⟨?_,h0,h1,F,h2,f0,by omega,hv⟩
     refine aa (z:=aS l) rfl (aa h3 (aa (z:=I 0) rfl (aa (z:=true) rfl (aa (z:=false) ?_ (aa (z:=false) rfl rfl)))));rw[if_pos rfl];exact aa (z:=aS (cX (dH l) F (dH l).length)) rfl (aa (z:=aS l) rfl (aa h13 rfl))
    ·rw[decide_eq_false hv] at h13;refine .inl ⟨3,?_,by decide⟩
     refine aa (z:=aS l) rfl (aa h3 (aa (z:=I 0) rfl (aa (z:=true) rfl (aa (z:=true) ?_ (aa (z:=true) rfl rfl)))));rw[if_pos rfl];exact aa (z:=aS (cX (dH l) F (dH l).length)) rfl (aa (z:=aS l) rfl (aa h13 rfl))
end Sy
end
noncomputable section
namespace Sy
open Go Go.Proofs Geo
def Dp(n:Nat){x y:Int}(hx:In x)(hy:In y)(h:In (x*y)):cA (n+3) 61 [aj x,aj y]=some (aj (x*y)):=by
 have:=XD n (a:=some x) (b:=some y) (bK hx) (bK hy)
 rwa [show nD (some x) (some y)=some (x*y) from eK h] at this
def wM(n:Nat){x y:Int}(hx:In x)(hy:In y)(h:In (x+y)):cA (n+4) 57 [aj x,aj y]=some (aj (x+y)):=by
 have:=XC n (a:=some x) (b:=some y) (bK hx) (bK hy)
 rwa [show wF (some x) (some y)=some (x+y) from eK h] at this
def jl{α:Type}{A B y:α}(h:A=y):(if true=true then A else B)=y:=h
def NP(n:Nat){v:V}(h1:inR v.x)(h2:inR v.y)(h3:inR v.z):cA (n+3) 148 [ag v]=some (kV v):=by
 rw[V5];delta HY qB qC qZ iL iR Jn;obtain⟨Z,hZ⟩:∃ Z,(D.st [(D.bool false),(D.bool false),(aB bc)])=Z:=⟨_,rfl⟩;rw[hZ];refine bn (s':=[I 1,.st [aj v.x,Z,Z]]) ?_ (bn (s':=[I 2,.st [aj v.x,aj v.y,Z]]) ?_ (bn (s':=[I 3,kV v]) ?_ (fc (r:=(0,[kV v])) ?_ rfl)))
 ·exact aa (z:=.bool true) rfl (aa (z:=true) rfl (jl (aa (z:=0) rfl (aa (z:=I v.x) rfl (aa (Ak n h1) (aa (z:=0) rfl (aa (z:=.st [aj v.x,Z,Z]) rfl (aa (z:=I 1) rfl rfl))))))))
 ·exact aa (z:=.bool true) rfl (aa (z:=true) rfl (jl (aa (z:=1) rfl (aa (z:=I v.y) rfl (aa (Ak n h2) (aa (z:=1) rfl (aa (z:=.st [aj v.x,aj v.y,Z]) rfl (aa (z:=I 2) rfl rfl))))))))
 ·exact aa (z:=.bool true) rfl (aa (z:=true) rfl (jl (aa (z:=2) rfl (aa (z:=I v.z) rfl (aa (Ak n h3) (aa (z:=2) rfl (aa (z:=kV v) rfl (aa (z:=I 3) rfl rfl))))))))
 ·exact aa (z:=.bool false) rfl (aa (z:=false) rfl rfl)
def Um(n:Nat){u v:V}(hu:In u.x/\In u.y/\In u.z)(hv:In v.x/\In v.y/\In v.z)(h1:(u.x*v.x).natAbs<=2^100)(h2:(u.y*v.y).natAbs<=2^100)(h3:(u.z*v.z).natAbs<=2^100):cA (n+5) 147 [kV u,kV v]=some (aj (V.dot u v)):=by
 rw[V4];delta HX qB qC qJ qZ iL iR Jn;have i1:In (u.x*v.x):=eS (by decide) h1
 have i2:In (u.y*v.y):=eS (by decide) h2
 have i3:In (u.z*v.z):=eS (by decide) h3
 have e1:=zLc (u.x*v.x) (u.y*v.y);have e2:=zLc (u.x*v.x+u.y*v.y) (u.z*v.z);have j2:In (u.x*v.x+u.y*v.y):=eS (k:=110) (by decide) (by omega)
 have j3:In (V.dot u v):=eS (k:=110) (by decide) (by unfold V.dot;omega)
 have j0:In 0:=ce (eO 0);refine aa (Ak (n+2) (eO 0)) ?_;refine bn (s':=[I 1,aj (u.x*v.x)]) ?_ (bn (s':=[I 2,aj (u.x*v.x+u.y*v.y)]) ?_ (bn (s':=[I 3,aj (V.dot u v)]) ?_ (fc (r:=(0,[aj (V.dot u v)])) ?_ rfl)))
 ·exact aa (z:=.bool true) rfl (aa (z:=true) rfl (jl (aa (z:=0) rfl (aa (z:=aj u.x) rfl (aa (z:=0) rfl (aa (z:=aj v.x) rfl (aa (Dp (n+1) hu.1 hv.1 i1) (aa (wM n j0 i1 (by rw[ztc];exact i1)) (aa (z:=I 1) rfl (by rw[ztc]))))))))))
 ·exact aa (z:=.bool true) rfl (aa (z:=true) rfl (jl (aa (z:=1) rfl (aa (z:=aj u.y) rfl (aa (z:=1) rfl (aa (z:=aj v.y) rfl (aa (Dp (n+1) hu.2.1 hv.2.1 i2) (aa (wM n i1 i2 j2) (aa (z:=I 2) rfl rfl)))))))))
 ·exact aa (z:=.bool true) rfl (aa (z:=true) rfl (jl (aa (z:=2) rfl (aa (z:=aj u.z) rfl (aa (z:=2) rfl (aa (z:=aj v.z) rfl (aa (Dp (n+1) hu.2.2 hv.2.2 i3) (aa (wM n j2 i3 j3) (aa (z:=I 3) rfl rfl)))))))))
 ·exact aa (z:=.bool false) rfl (aa (z:=false) rfl rfl)
def ZF(n:Nat){u v:V}(hu:bd 1152921504606846976 u)(hv:bd 1152921504606846976 v)(h1:(u.x*v.x).natAbs<=2^100)(h2:(u.y*v.y).natAbs<=2^100)(h3:(u.z*v.z).natAbs<=2^100):cA (n+6) 91 [ag u,ag v]=some (aj (V.dot u v)):=by
 rw[u91];unfold PI;simp only[bd] at hu hv;have a1:inR u.x:=by simp only[inR];omega
 have a2:inR u.y:=by simp only[inR];omega
 have a3:inR u.z:=by simp only[inR];omega
 have b1:inR v.x:=by simp only[inR];omega
 have b2:inR v.y:=by simp only[inR];omega
 have b3:inR v.z:=by simp only[inR];omega
 exact aa (NP (n+2) a1 a2 a3) (aa (NP (n+2) b1 b2 b3) (aa (Um n ⟨ce a1,ce a2,ce a3⟩ ⟨ce b1,ce b2,ce b3⟩ h1 h2 h3) rfl))
def Oe(n:Nat){t:T3}(h:bd MV t.1/\bd MV t.2.1/\bd MV t.2.2):cA (n+6) 117 [ag t.1,ag t.2.1]=some (ag (V.cross t.1 t.2.1))/\cA (n+6) 91 [ag (V.cross t.1 t.2.1),ag t.2.2]=some (aj (ru t)):=by
 have hc:=dX h.1 h.2.1;have h3:=h.2.2;refine⟨LV (n+5) h.1 h.2.1 (by decide),?_⟩
 have e:(2:Int)*(MV*MV)=137438953472:=rfl;rw[e] at hc;have hm:MV=262144:=rfl;have key:∀ a b:Int,(-137438953472<=a/\a<=137438953472)->(-MV<=b/\b<=MV)->(a*b).natAbs<=2^100:=λa b ha hb=>by
  rw[zFa];exact dD (i:=37) (j:=18) (by rw[show(2:Nat)^37=137438953472 from rfl];omega) (by rw[show(2:Nat)^18=262144 from rfl];omega) (by decide)
 refine ZF n ?_ ?_ (key _ _ hc.1 h3.1) (key _ _ hc.2.1 h3.2.1) (key _ _ hc.2.2 h3.2.2)
 ·simp only[bd] at *;omega
 ·simp only[bd] at *;omega
def Kk{α:Type}{l:List V}{p:List Nat}{j:Nat}{K:D->Option α}{y:α}(hj:j<p.length)(hk:p.getD j 0<l.length)(h:K (ag (pt l (p.getD j 0)))=some y) :
  (Option.bind (D.asSl (.sl (ah p))) λl17=>Option.bind (D.idx (I (j:Int)) (List.length l17)) λi18=>Option.bind (l17[i18]?) λx19=>Option.bind (D.asSl (aS l)) λl20=>Option.bind (D.idx x19 (List.length l20)) λi21=>Option.bind (l20[i21]?) K)=some y:=by
 refine aa (z:=ah p) rfl (aa (w9 hj) (aa (iu hj) (aa (z:=l.map ag) rfl (aa (z:=p.getD j 0) (by rw[aD];exact ak hk) (aa (z:=ag (pt l (p.getD j 0))) ?_ h)))))
 generalize p.getD j 0=k at *;unfold pt;rw[zcb,zKa,zca hk];rfl
def c23(n:Nat){l:List V}{F:FL}(hl:∀ x∈l,bd MV x)(hF:FIn l F)(h18:cA (n+9) 18 [be l]=some (.sl (ao F))):cA (n+10) 23 [be l]=some (aj (aT ru (gZ l F))):=by
 rw[ZT];delta O9 qG qB qC qS qX qY qM qZ iL iR Jn;have hFl:=hF.len;refine aa (Ak (n+7) (eO 0)) (aa h18 (aa (z:=ao F) rfl ?_));obtain⟨Z,hZ⟩:∃ Z,(D.st [(D.bool false),(D.bool false),(aB bc)])=Z:=⟨_,rfl⟩;rw[hZ];refine ba (λi s=>s=[I (i:Int),Z,aj (aT ru (gZ l (F.take i)))]) F.length 0 (zga _) (by simp[gZ,aT]) (λi hi s hJ=>?_) (λs hJ=>?_)
 ·subst hJ;left;refine⟨_,?_,rfl⟩;refine aa af (aa ae (aC (by show((i:Int)<((ao F).length:Int));rw[aA];omega) ?_))
  refine aa (z:=ao F) rfl (aa (z:=i) (by rw[aA];exact ak hi) (aa (cJ hi) ?_))
  have hpart:=λm (hm:m<=F[i].2.length-2)=>xv hl hF hi hm;obtain⟨k1,k2,k3⟩:=hF.ok F[i] (zla hi);rw[mG l hi];generalize F[i]=f at *;obtain⟨q,p⟩:=f;simp only at *;generalize gZ l (F.take i)=T at *;refine bT (λj s=>s=[I ((j+2:Nat):Int),Z,aj (aT ru (T++AG l p j))]) (p.length-2) 0 (zga _) (by rw[sZ,z4b];rfl) (λj hj s hJ=>?_) (λs hJ=>?_)
  ·subst hJ;left;refine⟨_,?_,rfl⟩;have hp1:=hpart j (by omega)
   have hp2:=hpart (j+1) (by omega)
   have b0:=kT hl (k3 0 (by omega))
   have b1:=kT hl (k3 (j+1) (by omega))
   have b2:=kT hl (k3 (j+2) (by omega))
   obtain⟨v1,v2⟩:=Oe (n+3) (t:=(pt l (p.getD 0 0),pt l (p.getD (j+1) 0),pt l (p.getD (j+2) 0))) ⟨b0,b1,b2⟩;have hs1:=j8 hp1;have hs2:=j8 hp2;rw[sY,<-zOa,oY] at hs2 ⊢;have hv:=qt (t:=(pt l (p.getD 0 0),pt l (p.getD (j+1) 0),pt l (p.getD (j+2) 0))) ⟨b0,b1,b2⟩;refine aa (z:=.sl (ah p)) rfl (aa (z:=ah p) rfl (aa af (aa ae (aC (by show(((j+2:Nat):Int)<((ah p).length:Int));rw[am];omega) ?_))))
   refine aa (z:=aS l) rfl (aa (z:=.sl (ah p)) rfl (Kk (j:=0) (by omega) (k3 _ (by omega)) ?_))
   refine aa (z:=aS l) rfl (aa (z:=.sl (ah p)) rfl (aa (jE (a:=j+2) (b:=1) rfl (by omega) (by omega)) (Kk (j:=j+1) (by omega) (k3 _ (by omega)) ?_)))
   refine aa (z:=aS l) rfl (aa (z:=.sl (ah p)) rfl (Kk (j:=j+2) (by omega) (k3 _ (by omega)) ?_))
   exact aa v1 (aa v2 (aa (wM (n+5) (eS (by decide) hs1) (eS (by decide) hv) (eS (by decide) hs2)) (aa (au (a:=j+2) (b:=1) (by omega)) rfl)))
  ·subst hJ;refine⟨_,aa (z:=.sl (ah p)) rfl (aa (z:=ah p) rfl (aa af (aa ae (az (by show ¬ (((p.length-2+2:Nat):Int)<((ah p).length:Int));rw[am];omega) rfl)))),?_⟩
   exact aa (au (a:=i) (b:=1) (by omega)) rfl
 ·subst hJ;refine⟨_,aa af (aa ae (az (by show ¬ ((F.length:Int)<((ao F).length:Int));rw[aA];omega) rfl)),?_⟩
  rw[zIa];rfl
end Sy
end
noncomputable section
namespace Sy
open Go Go.Proofs Geo
def mW(f:Nat->Int):D:=.st [aj (f 0),aj (f 1),aj (f 2)]
def dK(f:Nat->Nat->Int):D:=.st [mW (f 0),mW (f 1),mW (f 2)]
def OA{k:Nat}(h:k<3):k=0\/k=1\/k=2:=by omega
def iz{k:Nat}(h:k<3)(v:V):D.get (ag v) [k]=some (I (cmp k v)):=by rcases OA h with rfl|rfl|rfl<;>rfl
def ML{k:Nat}(h:k<3){f g:Nat->Int}{v:Int}(hg:∀ j,j<3->g j=if j=k then v else f j):D.set (mW f) [k] (aj v)=some (mW g):=by
 have g0:=hg 0 (by decide);have g1:=hg 1 (by decide);have g2:=hg 2 (by decide)
 unfold mW;rcases OA h with rfl|rfl|rfl
 ·rw[if_pos rfl] at g0;rw[if_neg (by decide)] at g1;rw[if_neg (by decide)] at g2
  rw[g0,g1,g2];rfl
 ·rw[if_neg (by decide)] at g0;rw[if_pos rfl] at g1;rw[if_neg (by decide)] at g2
  rw[g0,g1,g2];rfl
 ·rw[if_neg (by decide)] at g0;rw[if_neg (by decide)] at g1;rw[if_pos rfl] at g2
  rw[g0,g1,g2];rfl
def Cm{i k:Nat}(hi:i<3)(hk:k<3)(f:Nat->Nat->Int):D.get (dK f) [i,k]=some (aj (f i k)):=by
 rcases OA hi with rfl|rfl|rfl<;>rcases OA hk with rfl|rfl|rfl<;>rfl
def Ks{i k:Nat}(hi:i<3)(hk:k<3){f g:Nat->Nat->Int}{v:Int}(hg:∀ a b,a<3->b<3->g a b=if a=i/\b=k then v else f a b):D.set (dK f) [i,k] (aj v)=some (dK g):=by
 have e:∀ a,a<3->a≠i->mW (f a)=mW (g a):=λa ha hne=>by
  unfold mW;rw[hg a 0 ha (by decide),hg a 1 ha (by decide),hg a 2 ha (by decide),if_neg (λh=>hne h.1),if_neg (λh=>hne h.1),if_neg (λh=>hne h.1)]
 have s:=ML hk (f:=f i) (g:=g i) (v:=v) λj hj=>by
  rw[hg i j hi hj];by_cases h:j=k
  ·rw[if_pos ⟨rfl,h⟩,if_pos h]
  ·rw[if_neg (λc=>h c.2),if_neg h]
 unfold dK;rcases OA hi with rfl|rfl|rfl
 ·rw[<-e 1 (by decide) (by decide),<-e 2 (by decide) (by decide)]
  simp only[D.set,zeb,zba,s,zDc]
 ·rw[<-e 0 (by decide) (by decide),<-e 2 (by decide) (by decide)]
  simp only[D.set,zeb,z7a,zba,s,zDc,z0c]
 ·rw[<-e 0 (by decide) (by decide),<-e 1 (by decide) (by decide)]
  simp only[D.set,zeb,z7a,zba,s,zDc,z0c]
def M8:D.st [D.bool false,D.bool false,aB bc]=aj 0:=by rw[fH,cb];rfl
def fC{k:Nat}(h:k<3):D.idx (I (k:Int)) 3=some k:=ak h
def kU{v:V}(h:bd MV v)(i:Nat):-262144<=cmp i v/\cmp i v<=262144:=by have:=eU h i;omega
def fW{x:Int}{k:Nat}(h:x.natAbs<=2^k)(hk:k<=511:=by decide):In x:=eS hk h
def Va(n:Nat){x:Int}(hx:In x):cA (n+3) 68 [aj x]=some (aj (-x)):=CK n hx
def qR(f:Nat->Nat->Int)(m:Nat):Rat:=Rat.divInt (if m/3=m%3 then -(f (m/3) (m%3))+(f 0 0+f 1 1+f 2 2) else -(f (m/3) (m%3))) 120
def cR(f:Nat->Nat->Int)(m:Nat):List D:=(List.range m).map λj=>dn (qR f j)
def qQ(f:Nat->Nat->Int)(m:Nat):cR f (m+1)=cR f m++[dn (qR f m)]:=by unfold cR;rw[zxb,zPb];rfl
def ti(f:Nat->Nat->Int)(m:Nat):(cR f m).length=m:=by simp[cR]
def Oh{i k:Nat}(h:k<3):(3*i+k)/3=i/\(3*i+k)%3=k:=by omega
def CQ{A B C:V}(h:bd MV A/\bd MV B/\bd MV C)(i k:Nat) :
  (-786432<=cmp i A+cmp i B+cmp i C/\cmp i A+cmp i B+cmp i C<=786432)/\(-786432<=cmp k A+cmp k B+cmp k C/\cmp k A+cmp k B+cmp k C<=786432) ∧
  ((cmp i A+cmp i B+cmp i C)*(cmp k A+cmp k B+cmp k C)).natAbs<=618475290624/\(cmp i A*cmp k A).natAbs<=68719476736/\(cmp i B*cmp k B).natAbs<=68719476736/\(cmp i C*cmp k C).natAbs<=68719476736:=by
 have key:∀ {a b:Int} {m:Nat},a.natAbs<=m->b.natAbs<=m->(a*b).natAbs<=m*m:=λha hb=>by rw[zFa];exact zVa ha hb
 have s1:=CX (t:=(A,B,C)) h i;have s2:=CX (t:=(A,B,C)) h k;unfold sm at s1 s2;simp only at s1 s2;refine⟨by omega,by omega,key s1 s2,key (eU h.1 i) (eU h.1 k),key (eU h.2.1 i) (eU h.2.1 k),key (eU h.2.2 i) (eU h.2.2 k)⟩
def c28(n:Nat){l:List V}{F:FL}(hl:∀ x∈l,bd MV x)(hF:FIn l F)(h18:∀ m,cA (m+8) 18 [be l]=some (.sl (ao F))) :
  cA (n+1031) 28 [be l]=some (.st [I 3,I 3,.sl (cR (λi k=>aT (dt i k) (gZ l F)) 9)]):=by
 rw[ZV];delta Pb qG qB qC qT qS qX qY qM qJ qV qW qZ iL iR Jn;have hFl:=hF.len;rw[M8];refine aa (h18 (n+1022)) (aa (z:=ao F) rfl ?_);refine ba (λi s=>s=[I (i:Int),I 0,I 0,.sl [],dK λa b=>aT (dt a b) (gZ l (F.take i))]) F.length 0 (zga _) (by simp[gZ,aT];rfl) (λi hi s hJ=>?_) (λs hJ=>?_)
 ·subst hJ;left;refine⟨_,?_,rfl⟩;refine aa af (aa ae (aC (by show((i:Int)<((ao F).length:Int));rw[aA];omega) ?_))
  refine aa (z:=ao F) rfl (aa (z:=i) (by rw[aA];exact ak hi) (aa (cJ hi) ?_))
  have hpart:=λm (hm:m<=F[i].2.length-2)=>xv hl hF hi hm;obtain⟨k1,k2,k3⟩:=hF.ok F[i] (zla hi);rw[mG l hi];generalize F[i]=f at *;obtain⟨q,p⟩:=f;simp only at *;generalize gZ l (F.take i)=T at *;refine bT (λj s=>s=[I ((j+2:Nat):Int),I 0,I 0,.sl [],dK λa b=>aT (dt a b) (T++AG l p j)]) (p.length-2) 0 (zga _) (by rw[sZ,z4b];rfl) (λj hj s hJ=>?_) (λs hJ=>?_)
  ·subst hJ;left;refine⟨_,?_,rfl⟩;have hp1:=hpart j (by omega)
   have hp2:=hpart (j+1) (by omega)
   have b0:=kT hl (k3 0 (by omega))
   have b1:=kT hl (k3 (j+1) (by omega))
   have b2:=kT hl (k3 (j+2) (by omega))
   obtain⟨v1,v2⟩:=Oe (n+1024) (t:=(pt l (p.getD 0 0),pt l (p.getD (j+1) 0),pt l (p.getD (j+2) 0))) ⟨b0,b1,b2⟩;have hs1:=λa b=>fA a b hp1;have hs2:=λa b=>fA a b hp2;have hv:=qt (t:=(pt l (p.getD 0 0),pt l (p.getD (j+1) 0),pt l (p.getD (j+2) 0))) ⟨b0,b1,b2⟩;have hm:=λa b=>Br a b (t:=(pt l (p.getD 0 0),pt l (p.getD (j+1) 0),pt l (p.getD (j+2) 0))) ⟨b0,b1,b2⟩;rw[sY,<-zOa] at hs2 ⊢;simp only[oY] at hs2 ⊢;refine aa (z:=.sl (ah p)) rfl (aa (z:=ah p) rfl (aa af (aa ae (aC (by show(((j+2:Nat):Int)<((ah p).length:Int));rw[am];omega) ?_))))
   refine aa (z:=aS l) rfl (aa (z:=.sl (ah p)) rfl (Kk (j:=0) (by omega) (k3 _ (by omega)) ?_))
   refine aa (z:=aS l) rfl (aa (z:=.sl (ah p)) rfl (aa (jE (a:=j+2) (b:=1) rfl (by omega) (by omega)) (Kk (j:=j+1) (by omega) (k3 _ (by omega)) ?_)))
   refine aa (z:=aS l) rfl (aa (z:=.sl (ah p)) rfl (Kk (j:=j+2) (by omega) (k3 _ (by omega)) ?_))
   refine aa v1 (aa v2 ?_);generalize pt l (p.getD 0 0)=A at *;generalize pt l (p.getD (j+1) 0)=B at *;generalize pt l (p.getD (j+2) 0)=C at *;generalize T++AG l p j=S at *;obtain⟨ST,hST⟩:∃ ST,D.st [ag A,ag B,ag C]=ST:=⟨_,rfl⟩;rw[hST];refine bT (λi s=>s=[I (i:Int),I 0,I 0,.sl [],dK (λa b=>if a<i then aT (dt a b) S+dt a b (A,B,C) else aT (dt a b) S),be l,lc q p]) 3 0 (zga _) rfl (λi hi s hJ=>?_) (λs hJ=>?_)
   ·subst hJ;left;refine⟨[I ((i+1:Nat):Int),I 0,I 0,.sl [],dK (λa b=>if a<i+1 then aT (dt a b) S+dt a b (A,B,C) else aT (dt a b) S),be l,lc q p],?_,rfl⟩
    refine aa af (aa ae (aC (by show(i:Int)<3;omega) ?_))
    refine bT (λk s=>s=[I (k:Int),I 0,I 0,.sl [],dK (λa b=>if a<i\/a=i/\b<k then aT (dt a b) S+dt a b (A,B,C) else aT (dt a b) S),be l,lc q p]) 3 0 (zga _) (by
     have e0:dK (λa b=>if a<i then aT (dt a b) S+dt a b (A,B,C) else aT (dt a b) S)=dK (λa b=>if a<i\/a=i/\b<0 then aT (dt a b) S+dt a b (A,B,C) else aT (dt a b) S):=by
      congr 1;funext a b;simp
     rw[<-e0];rfl) (λk hk s hJ=>?_) (λs hJ=>?_)
    ·subst hJ;left;refine⟨[I ((k+1:Nat):Int),I 0,I 0,.sl [],dK (λa b=>if a<i\/a=i/\b<k+1 then aT (dt a b) S+dt a b (A,B,C) else aT (dt a b) S),be l,lc q p],?_,rfl⟩
     have a0:=kU b0 i;have a1:=kU b1 i;have a2:=kU b2 i;have e0:=kU b0 k;have e1:=kU b1 k;have e2:=kU b2 k;obtain⟨q1,q2,q3,q4,q5,q6⟩:=CQ ⟨b0,b1,b2⟩ i k;have hq:Gn i k (A,B,C)=(cmp i A+cmp i B+cmp i C)*(cmp k A+cmp k B+cmp k C)+cmp i A*cmp k A+cmp i B*cmp k B+cmp i C*cmp k C:=rfl;have hql:=xy (t:=(A,B,C)) ⟨b0,b1,b2⟩ i k;refine aa af (aa ae (aC (by show(k:Int)<3;omega) ?_))
     refine aa (fC hi) (aa (iz hi A) (aa (fC hi) (aa (iz hi B) (aa (av (by simp only[inR];omega)) (aa (fC hi) (aa (iz hi C) (aa (av (by simp only[inR];omega)) ?_)))))))
     refine aa (fC hk) (aa (iz hk A) (aa (fC hk) (aa (iz hk B) (aa (av (by simp only[inR];omega)) (aa (fC hk) (aa (iz hk C) (aa (av (by simp only[inR];omega)) ?_)))))))
     refine aa (bY (by simp only[inR];omega)) ?_
     obtain⟨M,hM⟩:∃ M,dK (λa b=>if a<i\/a=i/\b<k then aT (dt a b) S+dt a b (A,B,C) else aT (dt a b) S)=M:=⟨_,rfl⟩
     have gM:D.get M [i,k]=some (aj (aT (dt i k) S)):=by
      rw[<-hM,Cm hi hk];rw[if_neg (by omega)]
     have sM:∀ v,v=aT (dt i k) S+dt i k (A,B,C)->D.set M [i,k] (aj v)=some (dK (λa b=>if a<i\/a=i/\b<k+1 then aT (dt a b) S+dt a b (A,B,C) else aT (dt a b) S)):=λv hv=>by
      rw[<-hM];refine Ks hi hk λa b ha hb=>?_;by_cases h:a=i/\b=k
      ·obtain⟨rfl,rfl⟩:=h;rw[if_pos (.inr ⟨rfl,zbd _⟩),if_pos ⟨rfl,rfl⟩,hv]
      ·rw[if_neg h];by_cases h2:a<i\/a=i/\b<k
       ·rw[if_pos h2,if_pos (by omega)]
       ·rw[if_neg h2,if_neg (by omega)]
     rw[hM];generalize (cmp i A+cmp i B+cmp i C)*(cmp k A+cmp k B+cmp k C)=x0 at *;generalize hx1:cmp i A*cmp k A=x1 at *;generalize hx2:cmp i B*cmp k B=x2 at *;generalize hx3:cmp i C*cmp k C=x3 at *;refine bn (s':=[I (x0+x1),I 1,I 0,I 0,.sl [],be l,lc q p]) ?_ (bn (s':=[I (x0+x1+x2),I 2,I 0,I 0,.sl [],be l,lc q p]) ?_ (bn (s':=[I (x0+x1+x2+x3),I 3,I 0,I 0,.sl [],be l,lc q p]) ?_ (fc (r:=(0,[I (x0+x1+x2+x3),I 0,I 0,.sl [],be l,lc q p])) ?_ ?_)))
     ·refine aa (z:=.bool true) rfl (aa (z:=true) rfl (jl (aa (z:=0) rfl (aa (z:=ag A) (show D.fld ST 0=_ by rw[<-hST];rfl) (aa (fC hi) (aa (iz hi A) (aa (fC hk) (aa (iz hk A) (aa (bY (by simp only[inR];omega)) ?_)))))))))
      rw[hx1];exact aa (av (by simp only[inR];omega)) (aa (z:=I 1) rfl rfl)
     ·refine aa (z:=.bool true) rfl (aa (z:=true) rfl (jl (aa (z:=1) rfl (aa (z:=ag B) (show D.fld ST 1=_ by rw[<-hST];rfl) (aa (fC hi) (aa (iz hi B) (aa (fC hk) (aa (iz hk B) (aa (bY (by simp only[inR];omega)) ?_)))))))))
      rw[hx2];exact aa (av (by simp only[inR];omega)) (aa (z:=I 2) rfl rfl)
     ·refine aa (z:=.bool true) rfl (aa (z:=true) rfl (jl (aa (z:=2) rfl (aa (z:=ag C) (show D.fld ST 2=_ by rw[<-hST];rfl) (aa (fC hi) (aa (iz hi C) (aa (fC hk) (aa (iz hk C) (aa (bY (by simp only[inR];omega)) ?_)))))))))
      rw[hx3];exact aa (av (by simp only[inR];omega)) (aa (z:=I 3) rfl rfl)
     ·exact aa (z:=.bool false) rfl (aa (z:=false) rfl rfl)
     ·refine aa (fC hi) (aa (fC hk) (aa gM (aa (Ak (n+1028) (by simp only[inR];omega)) ?_)))
      rw[<-hq];refine aa (Dp (n+1027) (fW hv) (fW (k:=40) (zCa hql (by decide))) (fW (hm i k))) ?_
      refine aa (wM (n+1026) (fW (hs1 i k)) (fW (hm i k)) (fW (hs2 i k))) ?_;exact aa (fC hi) (aa (fC hk) (aa (sM _ rfl) (aa (au (a:=k) (b:=1) (by omega)) rfl)))
    ·subst hJ;refine⟨_,aa af (aa ae (az (by decide) rfl)),?_⟩
     refine aa (au (a:=i) (b:=1) (by omega)) ?_
     have:dK (λa b=>if a<i\/a=i/\b<3 then aT (dt a b) S+dt a b (A,B,C) else aT (dt a b) S)=dK (λa b=>if a<i+1 then aT (dt a b) S+dt a b (A,B,C) else aT (dt a b) S):=by
      have e:∀ a b,b<3->(if a<i\/a=i/\b<3 then aT (dt a b) S+dt a b (A,B,C) else aT (dt a b) S)=(if a<i+1 then aT (dt a b) S+dt a b (A,B,C) else aT (dt a b) S):=λa b hb=>by
       by_cases h:a<i+1
       ·rw[if_pos h,if_pos (by omega)]
       ·rw[if_neg h,if_neg (by omega)]
      simp only[dK,mW];rw[e 0 0 (by decide),e 0 1 (by decide),e 0 2 (by decide),e 1 0 (by decide),e 1 1 (by decide),e 1 2 (by decide),e 2 0 (by decide),e 2 1 (by decide),e 2 2 (by decide)]
     rw[<-this];rfl
   ·subst hJ;refine⟨_,aa af (aa ae (az (by decide) rfl)),?_⟩
    exact aa (au (a:=j+2) (b:=1) (by omega)) rfl
  ·subst hJ;refine⟨_,aa (z:=.sl (ah p)) rfl (aa (z:=ah p) rfl (aa af (aa ae (az (by show ¬ (((p.length-2+2:Nat):Int)<((ah p).length:Int));rw[am];omega) rfl)))),?_⟩
   exact aa (au (a:=i) (b:=1) (by omega)) rfl
 ·subst hJ;refine⟨_,aa af (aa ae (az (by show ¬ ((F.length:Int)<((ao F).length:Int));rw[aA];omega) rfl)),?_⟩
  rw[zIa];have hT:=EX hl hF;have h2:=λi k=>fA i k hT;generalize gZ l F=T at *;have t1:=et (h2 0 0) (h2 1 1);have t2:=et t1 (jB (h2 2 2) (k:=126) (by decide))
  have tn:∀ i k,(-(aT (dt i k) T)).natAbs<=2^125:=λi k=>by rw[zBc];exact h2 i k
  have tt:∀ i,(-(aT (dt i i) T)+(aT (dt 0 0) T+aT (dt 1 1) T+aT (dt 2 2) T)).natAbs<=2^128:=λi=>et (jB (tn i i) (k:=127) (by decide)) t2
  refine aa (z:=aj (aT (dt 0 0) T)) rfl (aa (z:=aj (aT (dt 1 1) T)) rfl (aa (wM (n+1026) (fW (h2 0 0)) (fW (h2 1 1)) (fW t1)) (aa (z:=aj (aT (dt 2 2) T)) rfl (aa (wM (n+1026) (fW t1) (fW (h2 2 2)) (fW t2)) ?_))));refine ba (λi s=>s=[I (i:Int),I 0,I 0,.sl [],I 3,I 3,.sl (cR (λi k=>aT (dt i k) T) (3*i))]) 3 0 (zga _) rfl (λi hi s hJ=>?_) (λs hJ=>?_)
  ·subst hJ;left;refine⟨_,?_,rfl⟩;refine aa af (aa ae (aC (by show(i:Int)<3;omega) ?_))
   refine bT (λk s=>s=[I (k:Int),I 0,I 0,.sl [],I 3,I 3,.sl (cR (λi k=>aT (dt i k) T) (3*i+k))]) 3 0 (zga _) rfl (λk hk s hJ=>?_) (λs hJ=>?_)
   ·subst hJ;left;refine⟨_,?_,rfl⟩;refine aa af (aa ae (aC (by show(k:Int)<3;omega) ?_))
    refine aa (fC hi) (aa (fC hk) (aa (show D.get (dK λa b=>aT (dt a b) T) [i,k]=_ from Cm hi hk _) (aa (Va (n+1027) (fW (h2 i k))) ?_)));have fin:∀ {v:Int},In v->qR (λi k=>aT (dt i k) T) (3*i+k)=Rat.divInt v 120->(Option.bind (some (0,[I 0,I 0,.sl [],I 3,I 3,.sl (cR (λi k=>aT (dt i k) T) (3*i+k)),aj v])) λ(r111:Nat×List D)=>
      Option.bind (cA (n+1030) 54 [(D.int .i64 120)]) λr112=>
      Option.bind (cA (n+1030) 62 [(gx r111.2 6),r112]) λr113=>
      if List.length (D.els (gx r111.2 5))+List.length [r113]<=1073741824 then(Option.bind (D.bin .add (I (k:Int)) (D.int .i64 1)) λx114=>
      some (Sum.inl (β:=Nat×List D) [x114,(gx r111.2 0),(gx r111.2 1),(D.sl (D.els (gx r111.2 2))),(gx r111.2 3),(gx r111.2 4),(D.sl ((D.els (gx r111.2 5))++[r113]))])) else none)=some (.inl [I ((k+1:Nat):Int),I 0,I 0,.sl [],I 3,I 3,.sl (cR (λi k=>aT (dt i k) T) (3*i+(k+1)))]):=λ{v} hv he=>by
     have i120:In 120:=ce (eO 120);refine aa (z:=_) rfl (aa (Ak (n+1028) (eO 120)) (aa (JE n hv i120 (by decide)) ?_))
     have hlen:List.length (D.els (.sl (cR (λi k=>aT (dt i k) T) (3*i+k))))+List.length [dn (Rat.divInt v 120)]<=1073741824:=by
      show(cR (λi k=>aT (dt i k) T) (3*i+k)).length+1<=_;rw[ti];omega
     refine(if_pos hlen).trans (aa (au (a:=k) (b:=1) (by omega)) ?_)
     rw[show 3*i+(k+1)=3*i+k+1 by omega,qQ,he]
     rfl
    obtain⟨d1,d2⟩:=Oh (i:=i) hk;by_cases e:i=k
    ·subst e;refine(congrArg (λz=>Option.bind z _) (aa (z:=true) (show D.truth (D.bool (D.beq (I (i:Int)) (I (i:Int))))=some true by rw[bN,decide_eq_true rfl];rfl) (jl ?c))).trans (fin (fW (tt i)) ?e)
     case c=>exact aa (wM (n+1026) (fW (tn i i)) (fW t2) (fW (tt i))) rfl
     case e=>
      unfold qR;rw[d1,d2,if_pos rfl]
    ·refine(congrArg (λz=>Option.bind z _) (aa (z:=false) (show D.truth (D.bool (D.beq (I (i:Int)) (I (k:Int))))=some false by rw[bN,decide_eq_false e];rfl) (by rw[if_neg (by decide)];rfl))).trans (fin (fW (tn i k)) ?_)
     unfold qR;rw[d1,d2,if_neg e]
   ·subst hJ;refine⟨_,aa af (aa ae (az (by decide) rfl)),?_⟩
    exact aa (au (a:=i) (b:=1) (by omega)) rfl
  ·subst hJ;refine⟨_,aa af (aa ae (az (by decide) rfl)),?_⟩
   rfl
end Sy
end
noncomputable section
namespace Sy
open Go Go.Proofs Geo
def xi{m k:Nat}(h:m<=2^k)(hk:k<=511):m<eP:=by
 have:In (m:Int):=eS hk (by rw[zxa];exact h)
 have:=bh.1 this
 rwa [zxa] at this
def Be{a b k:Nat}(ha:a<=2^k)(hb:b<=2^k):a+b<=2^(k+1):=by rw[znb];omega
def uT(q:Rat)(a k:Nat):Prop:=q.num.natAbs<=2^a/\q.den<=2^k
def dU{x d:Int}{a k:Nat}(hx:x.natAbs<=2^a)(hd:d.natAbs<=2^k)(h0:d≠0):uT (Rat.divInt x d) a k:=by
 obtain⟨h1,h2⟩:=ib x h0;exact⟨zCa h1 hx,zCa h2 hd⟩
def mf{x:Int}{a:Nat}(hx:x.natAbs<=2^a):uT (x:Rat) a 0:=⟨by simpa using hx,by simp⟩
def uT.inR{q:Rat}{a k:Nat}(h:uT q a k)(ha:a<=511:=by decide)(hk:k<=511:=by decide):ye q:=
 ⟨eS ha h.1,eS hk (by rw[zxa];exact h.2)⟩
theorem uT.fitM{x y:Rat}{a k b m:Nat}(hx:uT x a k)(hy:uT y b m)(h1:a+b<=511:=by decide)(h2:k+m<=511:=by decide):fitM x y:=
 ⟨xi (dD hx.1 hy.1 (zja _)) h1,xi (dD hx.2 hy.2 (zja _)) h2⟩
theorem uT.fitA{x y:Rat}{a k b m:Nat}(hx:uT x a k)(hy:uT y b m)(h1:a+m<=510:=by decide)(h2:b+k<=510:=by decide)(h3:k+m<=511:=by decide):fitA x y:=by
 refine⟨?_,xi (dD hx.2 hy.2 (zja _)) h3⟩;have e1:=dD hx.1 hy.2 h1;have e2:=dD hy.1 hx.2 h2;exact xi (k:=510+1) (Be e1 e2) (by decide)
def wR{A B K:Int}(hK:K≠0):Rat.divInt A K+Rat.divInt B K=Rat.divInt (A+B) K:=by
 rw[zzd _ _ hK hK,<-Int.add_mul,Rat.divInt_mul_right hK]
def Ma(A K:Int):- Rat.divInt A K=Rat.divInt (-A) K:=Rat.neg_divInt ..
def OJ(n:Nat){x y:Int}(hx:In x)(hy:In y)(h:In (x+y)):cA (n+4) 59 [aj x,aj y]=some (aj (x+y)):=by
 have:=N9 n hx hy
 rwa [eK h] at this
def OM(n:Nat){x y:Int}(hx:In x)(hy:In y)(h:In (x*y)):cA (n+4) 89 [aj x,aj y]=some (aj (x*y)):=by
 have:=JH n hx hy
 rwa [eK h] at this
def yL(t:T3):D:=.st [.st [ag t.1,ag t.2.1,ag t.2.2],aj (ru t)]
def dG(T:List T3):List D:=T.map yL
def gk(T:List T3):(dG T).length=T.length:=zoa ..
def u9{T:List T3}{i:Nat}(h:i<T.length):(dG T)[i]?=some (yL T[i]):=by simp[dG,h]
def Ds(T:List T3)(t:T3):dG (T++[t])=dG T++[yL t]:=by simp[dG]
theorem wE.take{T:List T3}{N:Nat}(h:wE T N)(i:Nat):wE (T.take i) N:=
 ⟨zCa (by rw[zbb];omega) h.1,λt ht=>h.2 t (zSa ht)⟩
def wj(g:T3->Int){T:List T3}{i:Nat}(h:i<T.length):aT g (T.take (i+1))=aT g (T.take i)+g T[i]:=by
 rw[zka h,oY]
def OK(n:Nat){t:T3}(h:bd MV t.1/\bd MV t.2.1/\bd MV t.2.2):cA (n+6) 123 [ag t.1,ag t.2.1]=some (ag (V.cross t.1 t.2.1))/\cA (n+6) 33 [ag (V.cross t.1 t.2.1),ag t.2.2]=some (aj (ru t)):=
 ⟨LW (n+5) h.1 h.2.1 (by decide),Xz n (dX h.1 h.2.1) h.2.2 (by decide) (by decide) (by decide)⟩
def ZC(n:Nat){l:List V}{F:FL}(hl:∀ x∈l,bd MV x)(hF:FIn l F)(h19:∀ m,cA (m+8) 19 [be l]=some (.sl (ao F))):cA (n+9) 58 [be l]=some (.sl (dG (gZ l F))):=by
 rw[u58];delta Pr qG qB qX qL qV qW qZ iL iR Jn;have hFl:=hF.len;refine aa (h19 n) ?_;refine ba (λi s=>s=[.sl (dG (gZ l (F.take i))),I (i:Int)]) F.length 0 (zga _) rfl (λi hi s hJ=>?_) (λs hJ=>?_)
 ·subst hJ;left;refine⟨_,?_,rfl⟩;refine aa (z:=ao F) rfl (aa af (aa ae (aC (by show((i:Int)<((ao F).length:Int));rw[aA];omega) ?_)))
  refine aa (z:=ao F) rfl (aa (z:=i) (by rw[aA];exact ak hi) (aa (cJ hi) ?_))
  have hpart:=λm (hm:m<=F[i].2.length-2)=>xv hl hF hi hm;obtain⟨k1,k2,k3⟩:=hF.ok F[i] (zla hi);rw[mG l hi];generalize F[i]=f at *;obtain⟨q,p⟩:=f;simp only at *;generalize gZ l (F.take i)=T at *;refine aa (z:=.sl (ah p)) rfl ?_;refine bT (λj s=>s=[.sl (dG (T++AG l p j)),I ((j+1:Nat):Int)]) (p.length-2) 0 (zga _) (by rw[sZ,z4b];rfl) (λj hj s hJ=>?_) (λs hJ=>?_)
  ·subst hJ;left;refine⟨_,?_,rfl⟩;have hp1:=hpart j (by omega)
   have b0:=kT hl (k3 0 (by omega))
   have b1:=kT hl (k3 (j+1) (by omega))
   have b2:=kT hl (k3 (j+2) (by omega))
   obtain⟨v1,v2⟩:=OK (n+2) (t:=(pt l (p.getD 0 0),pt l (p.getD (j+1) 0),pt l (p.getD (j+2) 0))) ⟨b0,b1,b2⟩;rw[sY,<-zOa,Ds];refine aa (au (a:=j+1) (b:=1) (by omega)) (aa (z:=ah p) rfl (aa af (aa ae (aC (by show(((j+2:Nat):Int)<((ah p).length:Int));rw[am];omega) ?_))))
   refine aa (z:=aS l) rfl (Kk (j:=0) (by omega) (k3 _ (by omega)) ?_)
   refine aa (z:=aS l) rfl (Kk (j:=j+1) (by omega) (k3 _ (by omega)) ?_)
   refine aa (z:=aS l) rfl (aa (au (a:=j+1) (b:=1) (by omega)) (Kk (j:=j+2) (by omega) (k3 _ (by omega)) ?_))
   refine aa v1 (aa v2 ?_);have hlen:List.length (D.els (.sl (dG (T++AG l p j))))+List.length [yL (pt l (p.getD 0 0),pt l (p.getD (j+1) 0),pt l (p.getD (j+2) 0))]<=1073741824:=by
    show(dG (T++AG l p j)).length+1<=_;rw[gk];have:=hp1.1;omega
   exact(if_pos hlen).trans (aa (au (a:=j+1) (b:=1) (by omega)) rfl)
  ·subst hJ;refine⟨_,aa (au (a:=p.length-2+1) (b:=1) (by omega)) (aa (z:=ah p) rfl (aa af (aa ae (az (by show ¬ (((p.length-2+1+1:Nat):Int)<((ah p).length:Int));rw[am];omega) rfl)))),?_⟩
   exact aa (au (a:=i) (b:=1) (by omega)) rfl
 ·subst hJ;refine⟨_,aa (z:=ao F) rfl (aa af (aa ae (az (by show ¬ ((F.length:Int)<((ao F).length:Int));rw[aA];omega) rfl))),?_⟩
  rw[zIa];rfl
section
variable{l:List V}{T:List T3}(hT:wE T 268435456)(h58:∀ m,cA (m+9) 58 [be l]=some (.sl (dG T)))
include hT h58
def Xx(n:Nat):cA (n+10) 24 [be l]=some (aj (aT ru T)):=by
 rw[ZU];delta Pa qB qX qL qZ iL iR Jn;have hTl:=hT.1;refine aa (h58 n) (aa (Av (n+6) (eO 0)) ?_);refine ba (λi s=>s=[I (i:Int),aj (aT ru (T.take i))]) T.length 0 (zga _) rfl (λi hi s hJ=>?_) (λs hJ=>?_)
 ·subst hJ;left;refine⟨_,?_,rfl⟩;have h1:=j8 (hT.take i);have h2:=j8 (hT.take (i+1));have h3:=qt (hT.2 _ (zla hi));rw[wj _ hi] at h2 ⊢;refine aa (z:=dG T) rfl (aa af (aa ae (aC (by show((i:Int)<((dG T).length:Int));rw[gk];omega) ?_)))
  refine aa (z:=dG T) rfl (aa (z:=i) (by rw[gk];exact ak hi) (aa (u9 hi) (aa (z:=aj (ru T[i])) rfl ?_)))
  exact aa (OJ (n+5) (fW h1) (fW h3) (fW h2)) (aa (au (a:=i) (b:=1) (by omega)) rfl)
 ·subst hJ;refine⟨_,aa (z:=dG T) rfl (aa af (aa ae (az (by show ¬ ((T.length:Int)<((dG T).length:Int));rw[gk];omega) rfl))),?_⟩
  rw[zIa];rfl
omit h58 in
def ZD(n:Nat){i k:Nat}(hi:i<3)(hk:k<3):cA (n+10) 69 [.sl (dG T),I (i:Int),I (k:Int)]=some (dn (Rat.divInt (aT (dt i k) T) 120)):=by
 rw[u69];delta Pv qG qB qX qL qZ iL iR Jn;have hTl:=hT.1;refine aa (Av (n+6) (eO 0)) ?_;refine ba (λj s=>s=[I (j:Int),aj (aT (dt i k) (T.take j))]) T.length 0 (zga _) rfl (λj hj s hJ=>?_) (λs hJ=>?_)
 ·subst hJ;left;refine⟨_,?_,rfl⟩;have h1:=fA i k (hT.take j);have h2:=fA i k (hT.take (j+1));have hb:=hT.2 _ (zla hj);have h3:=qt hb;have h4:=Br i k hb;have hql:=xy hb i k;rw[wj _ hj] at h2 ⊢;refine aa (z:=dG T) rfl (aa af (aa ae (aC (by show((j:Int)<((dG T).length:Int));rw[gk];omega) ?_)))
  have ge:∀ {β:Type} {g:D->Option β} {y:β},g (yL T[j])=some y->(Option.bind (D.asSl (.sl (dG T))) λl45=>Option.bind (D.idx (I (j:Int)) (List.length l45)) λi46=>Option.bind (l45[i46]?) g)=some y:=λh=>
   aa (z:=dG T) rfl (aa (z:=j) (by rw[gk];exact ak hj) (aa (u9 hj) h))
  refine ge ?_;generalize T[j]=t at *;obtain⟨A,B,C⟩:=t;obtain⟨b0,b1,b2⟩:=hb;simp only at b0 b1 b2;have a0:=kU b0 i;have a1:=kU b1 i;have a2:=kU b2 i;have e0:=kU b0 k;have e1:=kU b1 k;have e2:=kU b2 k;obtain⟨q1,q2,q3,q4,q5,q6⟩:=CQ ⟨b0,b1,b2⟩ i k;have hq:Gn i k (A,B,C)=(cmp i A+cmp i B+cmp i C)*(cmp k A+cmp k B+cmp k C)+cmp i A*cmp k A+cmp i B*cmp k B+cmp i C*cmp k C:=rfl;obtain⟨ST,hST⟩:∃ ST,D.st [ag A,ag B,ag C]=ST:=⟨_,rfl⟩;have g0:∀ {m:Nat},m<3->D.get ST [0,m]=some (I (cmp m A)):=λhm=>by rw[<-hST];exact iz hm A
  have g1:∀ {m:Nat},m<3->D.get ST [1,m]=some (I (cmp m B)):=λhm=>by rw[<-hST];exact iz hm B
  have g2:∀ {m:Nat},m<3->D.get ST [2,m]=some (I (cmp m C)):=λhm=>by rw[<-hST];exact iz hm C
  refine aa (z:=ST) (by rw[<-hST];rfl) ?_
  refine aa (fC hi) (aa (g0 hi) (aa (fC hi) (aa (g1 hi) (aa (av (by simp only[inR];omega)) (aa (fC hi) (aa (g2 hi) (aa (av (by simp only[inR];omega)) ?_)))))))
  refine aa (fC hk) (aa (g0 hk) (aa (fC hk) (aa (g1 hk) (aa (av (by simp only[inR];omega)) (aa (fC hk) (aa (g2 hk) (aa (av (by simp only[inR];omega)) ?_)))))))
  refine aa (bY (by simp only[inR];omega)) ?_
  refine aa (fC hi) (aa (g0 hi) (aa (fC hk) (aa (g0 hk) (aa (bY (by simp only[inR];omega)) (aa (av (by simp only[inR];omega)) ?_)))))
  refine aa (fC hi) (aa (g1 hi) (aa (fC hk) (aa (g1 hk) (aa (bY (by simp only[inR];omega)) (aa (av (by simp only[inR];omega)) ?_)))))
  refine aa (fC hi) (aa (g2 hi) (aa (fC hk) (aa (g2 hk) (aa (bY (by simp only[inR];omega)) (aa (av (by simp only[inR];omega)) ?_)))))
  refine ge (aa (z:=aj (ru (A,B,C))) rfl ?_);rw[<-hq];refine aa (Av (n+6) (by simp only[inR];omega)) ?_
  refine aa (OM (n+5) (fW h3) (fW (k:=40) (zCa hql (by decide))) (fW h4)) ?_
  exact aa (OJ (n+5) (fW h1) (fW h4) (fW h2)) (aa (au (a:=j) (b:=1) (by omega)) rfl)
 ·subst hJ;refine⟨_,aa (z:=dG T) rfl (aa af (aa ae (az (by show ¬ ((T.length:Int)<((dG T).length:Int));rw[gk];omega) rfl))),?_⟩
  rw[zIa];exact aa (Av (n+6) (eO 120)) (aa (XA (n+4) (fW (fA i k hT)) (ce (eO 120)) (by decide)) rfl)
end
end Sy
end
noncomputable section
namespace Sy
open Go Go.Proofs Geo
def FH{S:List V}(hS:EV S){F:FL}(hK:FOk S F){k:Nat}(h:jm F k=true):NC (pt S) S.length k:=by
 obtain⟨f,hf,h2⟩:=zTc.1 h;obtain⟨x,hx,hxk⟩:=zTc.1 h2;have hxk:x=k:=by simpa using hxk
 subst hxk;obtain⟨q1,q2⟩:=hK.ok f hf;obtain⟨p,p1,_,p3⟩:=q1.poly hS;rw[<-bE.eq hS q1 q2 p1] at p3;obtain⟨r1,r2⟩:=(p3 x).1 hx;exact⟨_,_,q1,r1,r2⟩
end Sy
end
noncomputable section
namespace Sy
open Go Go.Proofs Geo
section
variable{l:List V}{T:List T3}(hT:wE T 268435456)(h58:∀ m,cA (m+9) 58 [be l]=some (.sl (dG T)))
include hT h58
def Xy(n:Nat):cA (n+11) 29 [be l]=some (.st [I 3,I 3,.sl (cR (λi k=>aT (dt i k) T) 9)]):=by
 rw[ZW];delta Pc qB qC qT qV qW qZ iL iR Jn;have h2:=λi k=>fA i k hT;have hc:=λi k (hi:i<3) (hk:k<3)=>ZD hT n hi hk;have t1:=et (h2 0 0) (h2 1 1);have t2:=et t1 (jB (h2 2 2) (k:=126) (by decide))
 have tn:∀ i k,(-(aT (dt i k) T)).natAbs<=2^125:=λi k=>by rw[zBc];exact h2 i k
 have k7:(120:Int).natAbs<=2^7:=by decide
 have k0:(120:Int)≠0:=by decide
 have g1:=λi k=>dU (h2 i k) k7 k0;have g2:=dU t1 k7 k0;have g3:=dU t2 k7 k0;have g4:=λi k=>dU (tn i k) k7 k0;refine aa (h58 (n+1)) (aa (hc 0 0 (by decide) (by decide)) (aa (hc 1 1 (by decide) (by decide)) (aa (U4 (n+4) (g1 0 0).inR (g1 1 1).inR ((g1 0 0).fitA (g1 1 1))) ?_)))
 rw[wR k0];refine aa (hc 2 2 (by decide) (by decide)) (aa (U4 (n+4) g2.inR (g1 2 2).inR (g2.fitA (g1 2 2))) ?_)
 rw[wR k0];refine ba (λi s=>s=[I (i:Int),I 0,I 0,.sl [],I 3,I 3,.sl (cR (λi k=>aT (dt i k) T) (3*i))]) 3 0 (zga _) rfl (λi hi s hJ=>?_) (λs hJ=>?_)
 ·subst hJ;left;refine⟨_,?_,rfl⟩;refine aa af (aa ae (aC (by show(i:Int)<3;omega) ?_))
  refine bT (λk s=>s=[I (k:Int),I 0,I 0,.sl [],I 3,I 3,.sl (cR (λi k=>aT (dt i k) T) (3*i+k))]) 3 0 (zga _) rfl (λk hk s hJ=>?_) (λs hJ=>?_)
  ·subst hJ;left;refine⟨_,?_,rfl⟩;refine aa af (aa ae (aC (by show(k:Int)<3;omega) ?_))
   refine aa (hc i k hi hk) (aa (ZE (n+4) (g1 i k).inR) ?_);rw[Ma];have fin:∀ {v:Rat},qR (λi k=>aT (dt i k) T) (3*i+k)=v->(Option.bind (some (0,[I 0,I 0,.sl [],I 3,I 3,.sl (cR (λi k=>aT (dt i k) T) (3*i+k)),dn v])) λ(r17:Nat×List D)=>
     if List.length (D.els (gx r17.2 5))+List.length [(gx r17.2 6)]<=1073741824 then(Option.bind (D.bin .add (I (k:Int)) (D.int .i64 1)) λx18=>
     some (Sum.inl (β:=Nat×List D) [x18,(gx r17.2 0),(gx r17.2 1),(D.sl (D.els (gx r17.2 2))),(gx r17.2 3),(gx r17.2 4),(D.sl ((D.els (gx r17.2 5))++[(gx r17.2 6)]))])) else none)=some (.inl [I ((k+1:Nat):Int),I 0,I 0,.sl [],I 3,I 3,.sl (cR (λi k=>aT (dt i k) T) (3*i+(k+1)))]):=λ{v} he=>by
    refine aa (z:=_) rfl ?_;have hlen:List.length (D.els (.sl (cR (λi k=>aT (dt i k) T) (3*i+k))))+List.length [dn v]<=1073741824:=by
     show(cR (λi k=>aT (dt i k) T) (3*i+k)).length+1<=_;rw[ti];omega
    refine(if_pos hlen).trans (aa (au (a:=k) (b:=1) (by omega)) ?_)
    rw[show 3*i+(k+1)=3*i+k+1 by omega,qQ,he]
    rfl
   obtain⟨d1,d2⟩:=Oh (i:=i) hk;by_cases e:i=k
   ·subst e;refine(congrArg (λz=>Option.bind z _) (aa (z:=true) (show D.truth (D.bool (D.beq (I (i:Int)) (I (i:Int))))=some true by rw[bN,decide_eq_true rfl];rfl) (jl ?c))).trans (fin (v:=Rat.divInt (-(aT (dt i i) T)+(aT (dt 0 0) T+aT (dt 1 1) T+aT (dt 2 2) T)) 120) ?e)
    case c=>
     refine aa (U4 (n+4) g3.inR (g4 i i).inR (g3.fitA (g4 i i))) ?_;rw[wR k0,Int.add_comm (aT (dt 0 0) T+aT (dt 1 1) T+aT (dt 2 2) T)];rfl
    case e=>
     unfold qR;rw[d1,d2,if_pos rfl]
   ·refine(congrArg (λz=>Option.bind z _) (aa (z:=false) (show D.truth (D.bool (D.beq (I (i:Int)) (I (k:Int))))=some false by rw[bN,decide_eq_false e];rfl) (by rw[if_neg (by decide)];rfl))).trans (fin ?_)
    unfold qR;rw[d1,d2,if_neg e]
  ·subst hJ;refine⟨_,aa af (aa ae (az (by decide) rfl)),?_⟩
   exact aa (au (a:=i) (b:=1) (by omega)) rfl
 ·subst hJ;refine⟨_,aa af (aa ae (az (by decide) rfl)),?_⟩
  rfl
end
def XH{l:List V}(hl:∀ x∈l,bd MV x)(hlen:l.length<=64)(hs:EV l):∃ (L:List (V×Int)) (poly:V×Int->List Nat),Facets (pt l) l.length L/\(∀ q∈L,bE (pt l) l.length q.1 q.2 (poly q)) ∧
  FIn l (L.map λq=>(q,poly q))/\(∀ m,cA (m+8) 18 [be l]=some (.sl (ao (L.map λq=>(q,poly q)))))/\∀ m,cA (m+8) 19 [be l]=some (.sl (ao (L.map λq=>(q,poly q)))):=by
 obtain⟨L,poly,hL,hP,hLl,_⟩:=XK 0 hl (show l.length<=100 by omega) hs
 have hFm:∀ m,∃ F:FL,F=(L.map λq=>(q,poly q))/\cA (m+8) 18 [be l]=some (.sl (ao F))/\cA (m+8) 19 [be l]=some (.sl (ao F)):=λm=>by
  obtain⟨F,hK,h48⟩:=XB m hl (show l.length<=100 by omega) hs
  obtain⟨L',poly',hL',hP',_,h18⟩:=XK (m+1) hl (show l.length<=100 by omega) hs
  have e':L=L':=Facets.eq hL hL';subst e';have eL:F.map Prod.fst=L:=Facets.eq hK.facets hL;have eq1:∀ f∈F,poly f.1=f.2/\poly' f.1=f.2:=λf hf=>by
   obtain⟨q1,q2⟩:=hK.fok.ok f hf;have hm:f.1∈L:=by rw[<-eL];exact z5a.2 ⟨f,hf,rfl⟩
   exact⟨bE.eq hs q1 (hP f.1 hm) q2,bE.eq hs q1 (hP' f.1 hm) q2⟩
  have eF:(L.map λq=>lc q (poly' q))=ao F:=by
   rw[<-eL,List.map_map];refine zYb λf hf=>?_;simp only[Function.comp_apply,(eq1 f hf).2]
  refine⟨F,?_,by rw[h18,eF],?_⟩
  ·rw[<-eL,List.map_map];have:∀ f∈F,((λq=>(q,poly q)) ∘ Prod.fst) f=id f:=λf hf=>by
    show(f.1,poly f.1)=f;rw[(eq1 f hf).1]
   rw[zYb this,List.map_id]
  ·rw[ZR]
   delta O7 qG
   exact aa (z:=aS l) rfl (aa h48 rfl)
 refine⟨L,poly,hL,hP,⟨by rw[zoa];exact hLl,λf hf=>?_⟩,λm=>?_,λm=>?_⟩
 ·obtain⟨q,hq,rfl⟩:=z5a.1 hf;have h3:=kE hs hL hP hq;have hp:=zA hs ((hL.mem q).1 hq) (hP q hq);refine⟨h3,by show(poly q).length<=100;omega,λj hj=>hp.2.2.2 _ ?_⟩
  simp only[zKa,zca hj];exact zla hj
 ·obtain⟨F,rfl,h,_⟩:=hFm m;exact h
 ·obtain⟨F,rfl,_,h⟩:=hFm m;exact h
end Sy
end
noncomputable section
namespace Sy
open Go Go.Proofs Geo
end Sy
end
noncomputable section
namespace Sy
open Go Go.Proofs Geo
def L0(n:Nat):cA (n+3) 169 []=some (aj 1):=by
 rw[Wc];delta H5 Jn;exact aa (Ak n (eO 1)) rfl
def NM(n:Nat){x:Int}(hx:In x):cA (n+1031) 138 [aj x]=some (dn (x:Rat)):=by
 rw[VV];unfold HN;refine aa (L0 (n+1027)) (aa (JE n hx ER (by decide)) ?_)
 rw[qD]
def Hd(n:Nat){x:Int}(hx:inR x):cA (n+1032) 74 [I x]=some (dn (x:Rat)):=by
 rw[u74];unfold Py;exact aa (Ak (n+1029) hx) (aa (NM n (ce hx)) rfl)
def JA(n:Nat){q:Rat}(h:ye q):cA (n+1030) 136 [dn q]=some (.bool true):=by
 rw[OT];delta EL qG qB qT Jn;have hp:=q.den_pos;refine aa (z:=aj q.num) rfl (aa (E8 (n+1027) h.1) (aa (z:=true) rfl (aa (z:=true) (jl ?_) (aa (z:=true) rfl (aa (z:=true) (jl ?_) (aa (z:=true) rfl (aa (z:=true) (jl ?_) rfl)))))))
 ·exact aa (z:=aj (q.den:Int)) rfl (aa (E8 (n+1027) h.2) rfl)
 ·refine aa (z:=aj (q.den:Int)) rfl (aa (Di (n+1026) h.2) (aa bP ?_));rw[kK (by omega)];rfl
 ·refine aa (z:=aj q.num) rfl (aa (z:=aj (q.den:Int)) rfl (aa (LX n h.1 h.2) (aa (L0 (n+1026)) ?_)));have e:Nat.gcd q.num.natAbs (q.den:Int).natAbs=1:=q.reduced;rw[e];show D.truth (.bool (D.beq (aj 1) (aj 1)))=_;rw[KS];rfl
def wl{x y:Rat}{a b g:Nat}(ha:x.den=g*a)(hb:y.den=g*b)(hne:(a:Int)*y.den≠0):Rat.divInt (x.num*b+y.num*a) ((a:Int)*y.den)=x+y:=by
 conv=>rhs;rw[<-zpb x,<-zpb y]
 rw[zzd _ _ (cg x) (cg y),Rat.divInt_eq_divInt_iff hne (by have:=cg x;have:=cg y;exact Int.mul_ne_zero ‹_› ‹_›)]
 have k1:(x.den:Int)=g*a:=by rw[ha,zNa]
 have k2:(y.den:Int)=g*b:=by rw[hb,zNa]
 rw[k1,k2];grind
def sQ{N D:Int}(hD:0<D)(h:Nat.gcd N.natAbs D.natAbs=1):(Rat.divInt N D).num=N/\((Rat.divInt N D).den:Int)=D:=by
 obtain⟨p1,p2⟩:=fJ N (show D≠0 by omega)
 have e:((1:Nat):Int)=1:=rfl;rw[if_neg (by omega),h,e,Int.ediv_one] at p1 p2
 exact⟨p1,p2⟩
def rN(x:Int){d:Int}(hd:d≠0):(Rat.divInt x d).num.natAbs ∣ x.natAbs/\(Rat.divInt x d).den ∣ d.natAbs:=by
 obtain⟨p1,p2⟩:=fJ x hd;have e:(Rat.divInt x d).den=((Rat.divInt x d).den:Int).natAbs:=rfl;rw[e,p1,p2];have key:∀ z:Int,((Nat.gcd x.natAbs d.natAbs:Nat):Int) ∣ z->(z/(if d<0 then -(Nat.gcd x.natAbs d.natAbs:Int) else(Nat.gcd x.natAbs d.natAbs:Int))).natAbs ∣ z.natAbs:=by
  intro z hz;have hgp:0<Nat.gcd x.natAbs d.natAbs:=zpc _ (by omega)
  obtain⟨k,rfl⟩:=hz;generalize Nat.gcd x.natAbs d.natAbs=g at *;split
  ·rw[Int.ediv_neg,z0a _ (by omega),zBc,zFa];exact Nat.dvd_mul_left _ _
  ·rw[z0a _ (by omega),zFa];exact Nat.dvd_mul_left _ _
 exact⟨key x (z4a.2 (zhb _ _)),key d (z4a.2 (zwb _ _))⟩
def Uu(n:Nat){x y:Rat}(hx:ye x)(hy:ye y)(hf:fitM x y):cA (n+1031) 174 [dn x,dn y]=some (dn (x*y)):=by
 rw[MR];delta C9 qG qT qN;obtain⟨f1,f2⟩:=hf;refine aa (JA n hx) (aa (z:=.bool false) rfl (aa (z:=false) rfl (aa (z:=false) ?_ (aa (z:=false) rfl ?_))))
 ·rw[if_neg (by decide)]
  exact aa (JA n hy) (aa (z:=.bool false) rfl rfl)
 rw[if_neg (by decide)]
 obtain⟨p1,p2⟩:=ib x.num (cg y);obtain⟨q1,q2⟩:=ib y.num (cg x);obtain⟨v1,v2⟩:=rN x.num (cg y);obtain⟨w1,w2⟩:=rN y.num (cg x);have e:Rat.divInt x.num y.den*Rat.divInt y.num x.den=x*y:=by
  conv=>rhs;rw[<-zpb x,<-zpb y]
  rw[zTb,zTb,zKc (y.den:Int)]
 refine aa (z:=aj x.num) rfl (aa (z:=aj (y.den:Int)) rfl (aa (JE n hx.1 hy.2 (cg y)) (aa (z:=aj y.num) rfl (aa (z:=aj (x.den:Int)) rfl (aa (JE n hy.1 hx.2 (cg x)) ?_)))));rw[zxa] at p2 q2 v2 w2;have r1:=fg hx.1 hy.2 (cg y);have r2:=fg hy.1 hx.2 (cg x);generalize Rat.divInt x.num y.den=P at *;generalize Rat.divInt y.num x.den=Q at *;have i1:In (P.num*Q.num):=bh.2 (by rw[zFa];exact zJa (zVa p1 q1) f1)
 have i2:In ((P.den:Int)*Q.den):=bh.2 (by
  rw[<-zNa,zxa];exact zJa (zVa p2 q2) (by rw[zGa];exact f2))
 refine aa (z:=aj P.num) rfl (aa (z:=aj Q.num) rfl (aa (Dp (n+1027) r1.1 r2.1 i1) (aa (z:=aj (P.den:Int)) rfl (aa (z:=aj (Q.den:Int)) rfl (aa (Dp (n+1027) r1.2 r2.2 i2) ?_)))));refine aa (z:=.bool false) rfl (aa (z:=false) rfl (aa (z:=false) ?_ (aa (z:=false) rfl ?_)))
 ·rw[if_neg (by decide)]
  exact aa (z:=.bool false) rfl rfl
 rw[if_neg (by decide)]
 have hpos:0<(P.den:Int)*Q.den:=by
  have:=P.den_pos;have:=Q.den_pos;rw[<-zNa];have:=Nat.mul_pos ‹0<P.den› ‹0<Q.den›;omega
 have c1:Nat.Coprime P.num.natAbs P.den:=P.reduced;have c2:Nat.Coprime Q.num.natAbs Q.den:=Q.reduced;have c3:Nat.Coprime P.num.natAbs Q.den:=zCc v1 (zxc w2 x.reduced);have c4:Nat.Coprime Q.num.natAbs P.den:=zCc w1 (zxc v2 y.reduced);have hred:Nat.gcd (P.num*Q.num).natAbs ((P.den:Int)*Q.den).natAbs=1:=by
  rw[zFa,<-zNa,zxa];exact Nat.Coprime.mul_left (z8c c1 c3) (z8c c4 c2)
 obtain⟨z1,z2⟩:=sQ hpos hred;have e2:Rat.divInt (P.num*Q.num) ((P.den:Int)*Q.den)=x*y:=by
  rw[<-zTb,zpb,zpb,e]
 rw[e2] at z1 z2;unfold dn;rw[z1,z2]
def Ui(n:Nat){v:V}(h1:inR v.x)(h2:inR v.y)(h3:inR v.z):cA (n+1033) 135 [ag v]=some (Oi (RV.of v)):=by
 rw[VU];delta HM qG;exact aa (z:=I v.x) rfl (aa (Hd n h1) (aa (z:=I v.y) rfl (aa (Hd n h2) (aa (z:=I v.z) rfl (aa (Hd n h3) rfl)))))
def J1(x y:Int):(x:Rat)*(y:Rat)=((x*y:Int):Rat):=by rw[Rat.intCast_mul]
end Sy
end
noncomputable section
namespace Sy
open Go Go.Proofs Geo
def xb{x:Int}(h:x.natAbs<=2^60):inR x:=by
 rw[show(2:Nat)^60=1152921504606846976 from rfl] at h;simp only[inR];omega
def Mv(n:Nat){a b:Int}{p q:Nat}(ha:a.natAbs<=2^p)(hb:b.natAbs<=2^q)(h:p+q<=500):cA (n+1031) 174 [dn (a:Rat),dn (b:Rat)]=some (dn ((a*b:Int):Rat)):=by
 have fa:=mf ha;have fb:=mf hb;rw[Uu n (fa.inR (by omega) (by omega)) (fb.inR (by omega) (by omega)) (fa.fitM fb (by omega) (by omega)),J1]
def Gj{m g z:Int}(hm:m.natAbs<=2^60)(hg:g.natAbs<=2^60)(hz:z.natAbs<=2^60):(m*g).natAbs<=2^120/\(m*g*z).natAbs<=2^180:=
 ⟨c9 hm hg (by decide),c9 (c9 (k:=120) hm hg (by decide)) hz (by decide)⟩
def UC(n:Nat){b p:D}{m g z:Int}(hb:D.get b [2,0]=some (I m))(hp:D.get p [0,2]=some (I z))(hm:m.natAbs<=2^60)(hg:g.natAbs<=2^60)(hz:z.natAbs<=2^60) :
  cA (n+1033) 313 [b,I g,p]=some (dn ((m*g*z:Int):Rat)):=by
 rw[Ww];delta Io qG;exact aa hb (aa (Hd n (xb hm)) (aa (Hd n (xb hg)) (aa (Mv (n+1) hm hg (by decide)) (aa hp (aa (Hd n (xb hz)) (aa (Mv (n+1) (Gj hm hg hz).1 hz (by decide)) rfl))))))
end Sy
end
noncomputable section
namespace Sy
open Go Go.Proofs Geo
def UO(n:Nat){q:Rat}(h:ye q):cA (n+1031) 357 [dn q]=some (dn (-q)):=by
 rw[OY];delta EP qG qN;refine aa (JA n h) (aa (z:=.bool false) rfl (aa (z:=false) rfl ?_));rw[if_neg (by decide)]
 exact aa (z:=aj q.num) rfl (aa (z:=aj (-q.num)) (XE (n+1027) (a:=some q.num) (λx hx=>by cases hx;exact h.1)) (aa (z:=aj (q.den:Int)) rfl rfl))
structure Way(P:List D)(z:Nat->Int):Prop where
 get:∀ i (h:i<P.length),D.get P[i] [0,2]=some (I (z i))
 le:∀ i,i<P.length->(z i).natAbs<=2^60
 len:P.length<=512
end Sy
end
noncomputable section
namespace Sy
open Go Go.Proofs Geo
end Sy
end
noncomputable section
namespace Sy
open Go Go.Proofs Geo
theorem xh{body:Bd}{m:Nat}{r0:List D}(ok:Nat->Bool)(h:∀ i,i<m->body [I (i:Int)]=some (if ok i then .inl [I ((i+1:Nat):Int)] else .inr (0,r0)))(he:body [I (m:Int)]=some (.inr (1,[]))) :
  ∀ d j,j+d=m->aN body [I (j:Int)]=some (if((List.range d).all λt=>ok (j+t)) then(1,[]) else(0,r0))
 | 0,j,hj=>by
  have hj:j=m:=by omega
  subst hj;exact(cL he:aN body [I (j:Int)]=some (1,[]))
 | d+1,j,hj=>by
  have ih:=xh ok h he d (j+1) (by omega)
  have hb:=h j (by omega)
  rw[List.range_succ_eq_map];simp only[zHb,List.all_map,z2b,Function.comp_def];cases hok:ok j with
  | false=>
   rw[hok] at hb;exact(cL hb:aN body [I (j:Int)]=some (0,r0))
  | true=>
   rw[hok] at hb;rw[show aN body [I (j:Int)]=aN body [I ((j+1:Nat):Int)] from cS hb,ih];simp only[zIb,Nat.succ_eq_add_one,zBb,zGc 1]
def qk(m:Int)(x:Int):Bool:=decide (-m<x)&&decide (x<m)
def dY(v:V)(i:Nat):Int:=if i=0 then v.x else if i=1 then v.y else v.z
def oz{v:V}{i:Nat}(h:i<3):D.get (ag v) [i]=some (I (dY v i)):=by
 have:i=0\/i=1\/i=2:=by omega
 rcases this with rfl|rfl|rfl<;>rfl
def gc(v:V):Bool:=(List.range 3).all λt=>qk 1099511627776 (dY v (0+t))
def GZ{v:V}(h:gc v=true):v.x.natAbs<=2^40/\v.y.natAbs<=2^40/\v.z.natAbs<=2^40:=by
 simp[gc,qk,zxb,dY] at h;rw[show(2:Nat)^40=1099511627776 from rfl];omega
def NW(n:Nat)(v:V):cA (n+1) 327 [ag v]=some (.bool (gc v)):=by
 rw[WC];delta Iu qB qC qT qJ qZ iL iR Jn;refine nB (r:=if gc v then(1,[]) else(0,[.bool false])) (xh (m:=3) (λi=>qk 1099511627776 (dY v i)) (λi hi=>?_) ?_ 3 0 rfl) ?_
 ·have hi':D.idx (I (i:Int)) 3=some i:=ak hi;refine aa af (aa ae (aC (by show(i:Int)<3;omega) ?_))
  have hx:=oz (v:=v) hi;refine aa hi' (aa hx ?_);generalize dY v i=x at *;by_cases h1:x ≥ 1099511627776
  ·have e:qk 1099511627776 x=false:=by simp[qk];omega
   refine aa (z:=.bool true) (by simp[D.bin,h1]) (aa (z:=true) rfl (aa (z:=true) rfl (aa (z:=true) rfl ?_)))
   rw[if_pos rfl,e];rfl
  ·refine aa (z:=.bool false) (by simp[D.bin,h1]) (aa (z:=false) rfl ?_)
   by_cases h2:x<=-1099511627776
   ·have e:qk 1099511627776 x=false:=by simp[qk];omega
    refine aa (z:=true) ?_ (aa (z:=true) rfl ?_)
    ·rw[if_neg (by decide)]
     exact aa hi' (aa hx (aa (z:=.bool true) (by simp[D.bin,h2]) rfl))
    ·rw[if_pos rfl,e];rfl
   ·have e:qk 1099511627776 x=true:=by simp[qk];omega
    refine aa (z:=false) ?_ (aa (z:=false) rfl ?_)
    ·rw[if_neg (by decide)]
     exact aa hi' (aa hx (aa (z:=.bool false) (by simp[D.bin,h2]) rfl))
    ·rw[if_neg (by decide),e]
     exact aa (au (a:=i) (b:=1) (by omega)) rfl
 ·exact aa af (aa ae (az (by decide) rfl))
 ·cases gc v<;>rfl
end Sy
end
noncomputable section
namespace Sy
open Go Go.Proofs Geo
def UT(n:Nat){a b:Int}(ha:a.natAbs<=9223372036854775807)(hb:b.natAbs<=9223372036854775807):cA (n+1) 364 [I a,I b]=some (I (Nat.gcd a.natAbs b.natAbs:Nat)):=by
 rw[WY,show IQ aN (cA n) (I a) (I b)=EM aN (cA n) (I a) (I b) from rfl,<-OU];exact LZ n ha hb
def UU(n:Nat)(a:Int):cA (n+1) 365 [I a]=some (I (sg a)):=by
 rw[WZ];delta IR qC Jn;refine aa af (aa ae ?_);by_cases h:a<0
 ·refine aC h ?_;rw[show sg a=-1 by unfold sg;rw[if_pos h]]
 ·refine az h ?_;by_cases h0:0<a
  ·rw[show sg a=1 by unfold sg;rw[if_neg h,if_pos h0]]
   have e:D.min2 (I a) (I 1)=some (I 1):=by
    simp only[D.min2];split
    ·rfl
    ·rw[show a=1 by omega]
   exact aa e rfl
  ·have e0:a=0:=by omega
   subst e0;rfl
def pH(q:Nat->Int):D:=.st [I (q 0),I (q 1),I (q 2),I (q 3)]
def vo{q:Nat->Int}{i:Nat}(h:i<4):D.get (pH q) [i]=some (I (q i)):=by
 have:i=0\/i=1\/i=2\/i=3:=by omega
 rcases this with rfl|rfl|rfl|rfl<;>rfl
def zi(q:Nat->Int):Bool:=(List.range 4).all λt=>qk 65 (q (0+t))
def Cw{q:Nat->Int}(h:zi q=true):∀ i,i<4->(q i).natAbs<=64:=by
 intro i hi;have:=zra.1 h i (zLa.2 hi);simp only[qk,zaa,decide_eq_true_eq,z9a] at this;omega
def UL(n:Nat)(q:Nat->Int):cA (n+1) 348 [pH q]=some (.bool (zi q)):=by
 rw[WM];delta IE qB qC qT qJ qZ iL iR Jn;refine nB (r:=if zi q then(1,[]) else(0,[.bool false])) (xh (m:=4) (λi=>qk 65 (q i)) (λi hi=>?_) ?_ 4 0 rfl) ?_
 ·have hi':D.idx (I (i:Int)) 4=some i:=ak hi;refine aa af (aa ae (aC (by show(i:Int)<4;omega) ?_))
  have hx:=vo (q:=q) hi;refine aa hi' (aa hx ?_);generalize q i=x at *;by_cases h1:x>64
  ·have e:qk 65 x=false:=by simp[qk];omega
   refine aa (z:=.bool true) (by simp[D.bin,h1]) (aa (z:=true) rfl (aa (z:=true) rfl (aa (z:=true) rfl ?_)))
   rw[if_pos rfl,e];rfl
  ·refine aa (z:=.bool false) (by simp[D.bin,h1]) (aa (z:=false) rfl ?_)
   by_cases h2:x < -64
   ·have e:qk 65 x=false:=by simp[qk];omega
    refine aa (z:=true) ?_ (aa (z:=true) rfl ?_)
    ·rw[if_neg (by decide)]
     exact aa hi' (aa hx (aa (z:=.bool true) (by simp[D.bin,h2]) rfl))
    ·rw[if_pos rfl,e];rfl
   ·have e:qk 65 x=true:=by simp[qk];omega
    refine aa (z:=false) ?_ (aa (z:=false) rfl ?_)
    ·rw[if_neg (by decide)]
     exact aa hi' (aa hx (aa (z:=.bool false) (by simp[D.bin,h2]) rfl))
    ·rw[if_neg (by decide),e]
     exact aa (au (a:=i) (b:=1) (by omega)) rfl
 ·exact aa af (aa ae (az (by decide) rfl))
 ·cases zi q<;>rfl
end Sy
end
noncomputable section
namespace Sy
open Go Go.Proofs Geo
def Mz{body:Bd}{s0:List D}{k:Nat×List D->Option D}{Q:D->Prop}(h:∃ r,aN body s0=some r/\∃ y,k r=some y/\Q y):∃ y,Option.bind (aN body s0) k=some y/\Q y:=by
 obtain⟨r,h1,y,h2,h3⟩:=h;exact⟨y,nB h1 h2,h3⟩
def c6{α β:Type}{A:Option α}{g:α->Option β}{Q:β->Prop}{z:α}(h:A=some z)(hk:∃ y,g z=some y/\Q y):∃ y,Option.bind A g=some y/\Q y:=by
 subst h;exact hk
theorem Og{body:Bd}{q:Nat->Int}(h1:∀ (g s:Int) (k:Nat),k<4->0<=g->g<=64->s.natAbs<=1->∃ g' s':Int,body [I g,I s,I (k:Int)]=some (.inl [I g',I s',I ((k:Int)-1)])/\0<=g'/\g'<=64/\s'.natAbs<=1/\(s'≠0->s≠0\/q k≠0))
  (h2:∀ g s:Int,body [I g,I s,I (-1)]=some (.inr (0,[I g,I s]))):∀ (c:Nat),c<=4->∀ g s:Int,0<=g->g<=64->s.natAbs<=1->(s≠0->∃ i,i<4/\q i≠0) ->
   ∃ g' s':Int,aN body [I g,I s,I ((c:Int)-1)]=some (0,[I g',I s'])/\0<=g'/\g'<=64/\s'.natAbs<=1/\(s'≠0->∃ i,i<4/\q i≠0)
 | 0,_,g,s,g0,g1,s1,hz=>⟨g,s,cL (h2 g s),g0,g1,s1,hz⟩
 | c+1,hc,g,s,g0,g1,s1,hz=>by
  obtain⟨g',s',k1,k2,k3,k4,k5⟩:=h1 g s c (by omega) g0 g1 s1
  obtain⟨g2,s2,j1,j2⟩:=Og h1 h2 c (by omega) g' s' k2 k3 k4 (λh=>(k5 h).elim hz (λh=>⟨c,by omega,h⟩))
  refine⟨g2,s2,?_,j2⟩;rw[show(((c+1:Nat):Int)-1)=(c:Int) by omega]
  exact(cS k1).trans j1
def Of{body:Bd}{q:Nat->Int}{k:Nat×List D->Option D}{Q:D->Prop}(h1:∀ (g s:Int) (k:Nat),k<4->0<=g->g<=64->s.natAbs<=1->∃ g' s':Int,body [I g,I s,I (k:Int)]=some (.inl [I g',I s',I ((k:Int)-1)])/\0<=g'/\g'<=64/\s'.natAbs<=1/\(s'≠0->s≠0\/q k≠0))
  (h2:∀ g s:Int,body [I g,I s,I (-1)]=some (.inr (0,[I g,I s]))) (h3:∀ g s:Int,0<=g->g<=64->s.natAbs<=1->(s≠0->∃ i,i<4/\q i≠0)->∃ y,k (0,[I g,I s])=some y/\Q y):∃ y,Option.bind (aN body [I 0,I 0,I 3]) k=some y/\Q y:=by
 obtain⟨g,s,e,g0,g1,s1,hz⟩:=Og h1 h2 4 (zja _) 0 0 (by decide) (by decide) (by decide) (λh=>absurd rfl h)
 exact Mz ⟨_,e,h3 g s g0 g1 s1 hz⟩
def UM(n:Nat){q:Nat->Int}(hq:∀ i,i<4->(q i).natAbs<=64):∃ r,cA (n+2) 349 [pH q]=some r/\∃ y b,r=.tup [y,.bool b]/\(b=true->∃ i,i<4/\q i≠0):=by
 rw[WN];delta IF qG qB qC qT qJ qZ iL iR Jn;refine Of (q:=q) (λg s k hk g0 g1 s1=>?_) (λg s=>aa (z:=.bool false) rfl (aa (z:=false) rfl rfl)) (λg s g0 g1 s1 hz=>?_)
 ·have hi:D.idx (I (k:Int)) 4=some k:=ak hk;have hx:=vo (q:=q) hk;have hqk:=hq k hk;have hg:=UT (n) (a:=g) (b:=q k) (by omega) (by omega)
  have gle:Nat.gcd g.natAbs (q k).natAbs<=64:=pO (by omega) hqk
  refine⟨((Nat.gcd g.natAbs (q k).natAbs:Nat):Int),if q k=0 then s else sg (q k),aa (z:=.bool true) (by simp[D.bin]) (aa (z:=true) rfl (jl (aa (z:=(0,[I ((Nat.gcd g.natAbs (q k).natAbs:Nat):Int),I (if q k=0 then s else sg (q k))])) (aa hi (aa hx (aa hg (aa hi (aa hx ?_))))) (aa (z:=I ((k:Int)-1)) ?_ rfl)))),by omega,by omega,?_,?_⟩
  ·by_cases h:q k=0
   ·rw[h];exact aa (z:=false) rfl rfl
   ·rw[if_neg h];refine aa (z:=true) (by rw[bF];simp[h,D.truth]) (jl (aa hi (aa hx (aa (UU n (q k)) rfl))))
  ·have:k=0\/k=1\/k=2\/k=3:=by omega
   rcases this with rfl|rfl|rfl|rfl<;>rfl
  ·split
   ·exact s1
   ·unfold sg;split<;>(try split)<;>decide
  ·intro h;by_cases h0:q k=0
   ·left;rw[if_pos h0] at h;exact h
   ·exact .inr h0
 ·have ms:(s*g).natAbs<=64:=by
   have:=zVa s1 (show g.natAbs<=64 by omega)
   rwa [<-zFa,znc] at this
  refine c6 (pa (a:=g) (by simp only[inR];omega)) (c6 (z:=I g) ((CD (a:=g) (b:=-g)).trans (by congr 2;omega)) (c6 (bY (a:=s) (b:=g) (by simp only[inR];omega)) ?_))
  by_cases h:s*g=0
  ·rw[h];exact c6 (z:=true) rfl ⟨_,rfl,_,false,rfl,λh=>by cases h⟩
  ·have hs:s≠0:=λh0=>h (by rw[h0,Int.zero_mul])
   refine c6 (z:=false) (by rw[bF,decide_eq_false h];rfl) ?_
   have qq:∀ x:Int,∃ z,D.bin .quo (I x) (I (s*g))=some z:=λx=>⟨D.int .i64 (IntKind.i64.wrap (x.tdiv (s*g))),by simp only[D.bin,if_true,if_neg h]⟩
   obtain⟨z0,e0⟩:=qq (q 0);obtain⟨z1,e1⟩:=qq (q 1);obtain⟨z2,e2⟩:=qq (q 2);obtain⟨z3,e3⟩:=qq (q 3);rw[if_neg (by decide)]
   exact c6 (vo (i:=0) (by decide)) (c6 e0 (c6 (vo (i:=1) (by decide)) (c6 e1 (c6 (vo (i:=2) (by decide)) (c6 e2 (c6 (vo (i:=3) (by decide)) (c6 e3 ⟨_,rfl,_,true,rfl,λ_=>hz hs⟩)))))))
end Sy
end
noncomputable section
namespace Sy
open Go Go.Proofs Geo
def UF(n:Nat)(q:Nat->Int):∃ v:Bool,cA (n+3) 331 [pH q]=some (.bool v)/\(v=true->zi q=true/\∃ i,i<4/\q i≠0):=by
 rw[WD];delta Iv qT qN;have h348:=UL (n+1) q;cases hl:zi q with
 | false=>
  rw[hl] at h348;exact⟨false,aa h348 (aa (z:=.bool true) rfl (aa (z:=true) rfl (jl rfl))),λh=>by cases h⟩
 | true=>
  rw[hl] at h348;obtain⟨r,h1,y,b,rfl,h2⟩:=UM n (Cw hl);cases b with
  | false=>
   refine⟨false,aa h348 (aa (z:=.bool false) rfl (aa (z:=false) rfl ?_)),λh=>by cases h⟩
   rw[if_neg (by decide)]
   exact aa h1 (aa (z:=y) rfl (aa (z:=.bool false) rfl (aa (z:=false) rfl (aa (z:=false) rfl rfl))))
  | true=>
   refine⟨D.beq y (pH q),aa h348 (aa (z:=.bool false) rfl (aa (z:=false) rfl ?_)),λ_=>⟨rfl,h2 rfl⟩⟩;rw[if_neg (by decide)]
   exact aa h1 (aa (z:=y) rfl (aa (z:=.bool true) rfl (aa (z:=true) rfl (aa (z:=D.beq y (pH q)) (jl rfl) rfl))))
def Cc(x:V)(q:Nat->Int):D:=.st [ag x,pH q]
def AX(x:V):Bool:=(List.range 3).all λt=>qk 140737488355328 (dY x (0+t))
def Cy{x:V}(h:AX x=true):x.x.natAbs<=2^47/\x.y.natAbs<=2^47/\x.z.natAbs<=2^47:=by
 simp[AX,qk,zxb,dY] at h;rw[show(2:Nat)^47=140737488355328 from rfl];omega
def UB(n:Nat)(x:V)(q:Nat->Int):∃ v:Bool,cA (n+4) 308 [Cc x q]=some (I (if v then 0 else 1))/\(v=true->AX x=true/\zi q=true/\∃ i,i<4/\q i≠0):=by
 obtain⟨v,h1,h2⟩:=UF n q;refine⟨AX x&&v,?_,λh=>by
  simp only[zaa] at h;exact⟨h.1,h2 h.2⟩⟩
 rw[Wu];delta Il qG qB qC qT qN qZ iL iR Jn;refine nB (r:=if AX x then(1,[]) else(0,[I 1])) (xh (m:=3) (λi=>qk 140737488355328 (dY x i)) (λi hi=>?_) ?_ 3 0 rfl) ?_
 ·have hi':D.idx (I (i:Int)) 3=some i:=ak hi;refine aa af (aa ae (aC (by show(i:Int)<3;omega) ?_))
  have hx:D.get (Cc x q) [0,i]=some (I (dY x i)):=oz (v:=x) hi;refine aa hi' (aa hx ?_);generalize dY x i=y at *;by_cases h1:y ≥ 140737488355328
  ·have e:qk 140737488355328 y=false:=by simp[qk];omega
   refine aa (z:=.bool true) (by simp[D.bin,h1]) (aa (z:=true) rfl (aa (z:=true) rfl (aa (z:=true) rfl ?_)))
   rw[if_pos rfl,e];rfl
  ·refine aa (z:=.bool false) (by simp[D.bin,h1]) (aa (z:=false) rfl ?_)
   by_cases h2:y<=-140737488355328
   ·have e:qk 140737488355328 y=false:=by simp[qk];omega
    refine aa (z:=true) ?_ (aa (z:=true) rfl ?_)
    ·rw[if_neg (by decide)]
     exact aa hi' (aa hx (aa (z:=.bool true) (by simp[D.bin,h2]) rfl))
    ·rw[if_pos rfl,e];rfl
   ·have e:qk 140737488355328 y=true:=by simp[qk];omega
    refine aa (z:=false) ?_ (aa (z:=false) rfl ?_)
    ·rw[if_neg (by decide)]
     exact aa hi' (aa hx (aa (z:=.bool false) (by simp[D.bin,h2]) rfl))
    ·rw[if_neg (by decide),e]
     exact aa (au (a:=i) (b:=1) (by omega)) rfl
 ·exact aa af (aa ae (az (by decide) rfl))
 ·cases AX x with
  | false=>rfl
  | true=>
   cases v
   ·exact aa h1 (aa (z:=.bool true) rfl (aa (z:=true) rfl (jl rfl)))
   ·exact aa h1 (aa (z:=.bool false) rfl (aa (z:=false) rfl rfl))
end Sy
end
end Go.Proofs.YtpahompifldeeaaGreat
