/- Part 5 -/
import Derived.Test.YtdlipdnepadhjaaGreatAcce04
set_option linter.all false
set_option maxRecDepth 20000
namespace Go.Proofs.YtdlipdnepadhjaaGreat
noncomputable section
namespace Sy
open Go Go.Proofs Geo
section
variable{a:Option Rat}
def CE(n:Nat){a:Option Int}(b:wu a):cA (n+2) 128 [fU a]=some (.bool a.isSome):=by
 cases a with
 | some x=>exact IH n b.some
 | none=>refine fN EV ?_;delta EV Q qN qe C;exact J (.bool true)<|J (.bool false)<|J false<|J false rfl
def wG(n:Nat):cA (n+4) 130 []=some Xe:=by refine Zh SF ?_;unfold SF;exact O (IG<|n+2)<|O (Ls n) rfl
def XR(n:Nat){a b:Option Int}(f:wu a)(c:wu b):cA (n+1030) 62 [fU a,fU b]=some (bI<|nV a b):=by
 rcases mN (a:=a) (b:=b) with h|⟨x,d,rfl,rfl⟩
 ·have e:nV a b=none:=by cases a<;>cases b<;>simp at h<;>rfl
  rw[e,u62];delta W2 qN J0 bq qO qb qc C qo qz;exact O (CE (n+1027) f)<|O aD<|O ac<|O (V5 h<|CE (n+1027) c)<|J true<|J true<|J true<|fr<|O (wG<|n+1025) rfl
 ·by_cases hd:d=0
  ·subst hd;rw[u62];delta W2 qN J0 bq qO qb qc C qo qz;refine O (CE (n+1027) f)<|O aD<|J false<|O (z:=false) ?_<|J false<|O (z:=true) ?_<|J true<|fr<|O (wG<|n+1025) rfl
   ·rw[zha H];exact O (CE (n+1027) c)<|O aD rfl
   ·rw[zha H];exact O (ls (n+1026) c.some) rfl
  ·rw[BB hd];exact Lz n f.some c.some hd
def Ly(n:Nat){x y:Int}(hx:In x)(c:In y):cA (n+3) 61 [M x,M y]=some (fU<|sQ (some x)<|some y):=c61 n (a:=some x) (b:=some y) (bi hx)<|bi c
def acO(n:Nat){x d:Int}(hx:In x)(c:In d):cA (n+1030) 62 [M x,M d]=some (bI<|nV (some x)<|some d):=XR n (a:=some x) (b:=some d) (bi hx)<|bi c
def iC(n:Nat){a:Option Rat}(b:OW a):cA (n+1030) 136 [bI a]=some (.bool a.isSome):=by
 cases a with
 | some q=>exact nH n b.some
 | none=> rw[J5];delta Ct Q qT J0 bq qa qe qh C;exact J Lc<|O (CE (n+1027) (a:=none) rM)<|J false<|J false<|J false<|J false<|J false<|J false rfl
def y8(n:Nat){a b:Option Rat}(d:OW a)(f:OW b):cA (n+1031) 173 [bI a,bI b]=some (bI<|addW a b):=by
 rcases pH (a:=a) (b:=b) with h|⟨x,y,rfl,rfl⟩
 ·have e:addW a b=none:=by cases a<;>cases b<;>simp at h<;>rfl
  rw[e,WA];delta KA Q qN qO C qz;exact O (iC n d)<|O aD<|O ac<|O (H4 h<|iC n f)<|J true<|fr<|O (wG<|n+1026) rfl
 ·have hx:=d.some;have c:=f.some;rw[WA];delta KA Q qN qO C qz;refine O (iC n d)<|O aD<|J false<|O (z:=false) ?_<|J false ?_
  ·rw[zha H];exact O (iC n f)<|O aD rfl
  rw[zha H]
  obtain⟨g,p,q,i,t,hp,hq,p0,q0,s,eq⟩:=RN x y;have j:=Vx (y:=y) hx;have g0:((Nat.gcd x.den y.den:Nat):Int)≠0:=by rw[<-i];omega
  have k:=wH (n+1) hx.2 c.2;rw[zia,zia] at k;have m:=vw (n+1024) hx.2 j g0 ⟨p,by rw[<-i,hp,z1a]⟩
  have o:=vw (n+1024) c.2 j g0 ⟨q,by rw[<-i,hq,z1a]⟩
  have l:=rn hx.2 ((Nat.gcd x.den y.den:Nat):Int);have r:=rn c.2 ((Nat.gcd x.den y.den:Nat):Int);refine J (M (x.den:Int))<|J (M (y.den:Int))<|O k ?_;refine J (M (x.den:Int))<|O m<|J (M (y.den:Int))<|O o<|J (M x.num)<|O (Ly (n+1027) hx.1 r)<|J (M y.num)<|O (Ly (n+1027) c.1 l)<|O (c57 (n+1026) (oP _ _)<|oP _ _)<|J (M (y.den:Int))<|O (Ly (n+1027) l c.2) ?_;exact O (XR n (GX _ _)<|oP _ _) rfl
def Ha(n:Nat){b:Option Rat}(g:OW a)(i:OW b):cA (n+1031) 174 [bI a,bI b]=some (bI<|mulW a b):=by
 rcases pH (a:=a) (b:=b) with h|⟨x,y,rfl,rfl⟩
 ·have e:mulW a b=none:=by cases a<;>cases b<;>simp at h<;>rfl
  rw[e,WB];delta KB Q qT qN qO C qz;exact O (iC n g)<|O aD<|O ac<|O (H4 h<|iC n i)<|J true<|fr<|O (wG<|n+1026) rfl
 ·have hx:=g.some;have f:=i.some;rw[WB];delta KB Q qT qN qO C qz;refine O (iC n g)<|O aD<|J false<|O (z:=false) ?_<|J false ?_
  ·rw[zha H];exact O (iC n i)<|O aD rfl
  rw[zha H]
  obtain⟨v1,k⟩:=vL x.num<|bQ y;obtain⟨w1,l⟩:=vL y.num<|bQ x;rw[zia] at k l;have r1:=gq hx.1 f.2<|bQ y;have j:=gq f.1 hx.2<|bQ x;refine J (M x.num)<|J (M (y.den:Int))<|O (Lz n hx.1 f.2<|bQ y)<|J (M y.num)<|J (M (x.den:Int))<|O (Lz n f.1 hx.2<|bQ x) ?_;simp only[mulW,V2];generalize Rat.divInt x.num y.den=P at *;generalize Rat.divInt y.num x.den=u at *;refine J (M P.num)<|J (M u.num)<|O (Ly (n+1027) r1.1 j.1)<|J (M (P.den:Int))<|J (M (u.den:Int))<|O (Ly (n+1027) r1.2 j.2) ?_;have c:0<(P.den:Int)*u.den:=by have:=Nat.mul_pos P.den_pos u.den_pos;omega
  have m:=P.reduced;have o:=u.reduced;have p:=zHc v1<|zGc l x.reduced;have q:=zHc w1<|zGc k y.reduced;have d:Nat.gcd (P.num*u.num).natAbs ((P.den:Int)*u.den).natAbs=1:=by rw[zwa,<-z1a,zia];exact Nat.Coprime.mul_left (z9c m p)<|z9c q o
  obtain⟨r,s⟩:=wX c d;simp[sQ,lQ];by_cases t1:(P.num*u.num).natAbs<eM
  ·rw[zma t1];by_cases t2:((P.den:Int)*u.den).natAbs<eM
   ·rw[zma t2];refine J (.bool false)<|J false<|O (z:=false) ?_<|J false ?_
    ·rw[zha H]
     exact J (.bool false) rfl
    rw[zha H,BB u0]
    show some (D.st [M<|P.num*u.num,M<|(P.den:Int)*u.den])=some (D.st [M (Rat.divInt (P.num*u.num)<|(P.den:Int)*u.den).num,M ((Rat.divInt (P.num*u.num)<|(P.den:Int)*u.den).den:Int)]);rw[r,s]
   ·rw[zha t2];refine J (.bool false)<|J false<|O (z:=true) ?_<|J true<|fr<|O (wG<|n+1026) rfl;rw[zha H]
    exact J (.bool true) rfl
  ·rw[zha t1];exact J (.bool true)<|J true<|J true<|J true<|fr<|O (wG<|n+1026) rfl
def Lu(n:Nat)(b:OW a):cA (n+1031) 357 [bI a]=some (bI<|Jm a):=by
 cases a with
 | some q=>exact E6 n b.some
 | none=>refine fN KF ?_;delta KF Q C qn;exact O (iC n b)<|O aD<|J true<|fr<|O (wG<|n+1026) rfl
def Lt(n:Nat){a b:Option Rat}(d:OW a)(c:OW b):cA (n+1032) 336 [bI a,bI b]=some (bI<|Ws a b):=by refine eN Tk ?_;unfold Tk;exact O (Lu n c)<|O (y8 n d<|H0 c) rfl
def y9(n:Nat){a b:Option Rat}(d:OW a)(c:OW b):cA (n+1032) 352 [bI a,bI b]=some (bI<|wY a b):=by
 refine eN Tr ?_;delta Tr Q C qn;cases b with
 | none=>exact O (iC (n+1) c) (O aD<|J true<|fr<|O (wG<|n+1027) rfl)
 | some y=>
  refine O (iC (n+1) c)<|O aD<|J false ?_;rw[zha H]
  exact J (M (y.den:Int))<|J (M y.num)<|O (acO (n+1) c.some.2 c.some.1)<|O (Ha n d<|Bw (bi c.some.2)<|bi c.some.1) rfl
def RL:Option Rat->Int
 | some q=>sg q.num
 | none=>0
def E5(n:Nat){a:Option Rat}(h:OW a):cA (n+1031) 342 [bI a]=some (I<|RL a):=by
 refine fN Tn ?_;delta Tn Q J0 C qn;cases a with
 | none=>exact O (iC n h) (O aD<|J true<|fr rfl)
 | some q=>
  refine O (iC n h)<|O aD<|J false ?_;rw[zha H]
  exact J (M q.num)<|O (ls (n+1027) h.some.1) rfl
end
theorem xB{body:Bd}{m:Nat}{r0:List D}(ok:Nat->Bool)(h:∀ i,i<m->body [I (i:Int)]=some (if ok i then .inl [I ((i+1:Nat):Int)] else .inr (0,r0)))(c:body [I (m:Int)]=some (.inr (1,[]))) :
  ∀ d j,j+d=m->cB body [I (j:Int)]=some (if((List.range d).all λt=>ok<|j+t) then(1,[]) else(0,r0))
 | 0,j,b=>by
  have b:j=m:=u0
  subst b;exact(cT c:cB body [I (j:Int)]=some (1,[]))
 | d+1,j,b=>by
  have ih:=xB ok h c d (j+1) u0
  have a:=h j u0
  rw[zvd];simp only[zOb,List.all_map,zXb,Function.comp_def];cases hok:ok j with
  | false=> rw[hok] at a;exact(cT a:cB body [I (j:Int)]=some (0,r0))
  | true=> rw[hok] at a;rw[show cB body [I (j:Int)]=cB body [I ((j+1:Nat):Int)] from cz a,ih];grind
def wi(m:Int)(x:Int):Bool:=decide (-m<x)&&decide (x<m)
def aM(v:V)(i:Nat):Int:=if i=0 then v.x else if i=1 then v.y else v.z
def sB{v:V}{i:Nat}(h:i<3):D.get (X v) [i]=some (I<|aM v i):=by
 have:i=0\/i=1\/i=2:=u0
 rcases this with rfl|rfl|rfl<;>rfl
def acd(n:Nat){a b:Int}(c:a.natAbs<=9223372036854775807)(d:b.natAbs<=9223372036854775807):cA (n+1) 364 [I a,I b]=some (I (Nat.gcd a.natAbs b.natAbs:Nat)):=by rw[adp,show Tt cB (cA n) (I a) (I b)=OG cB (cA n) (I a) (I b) from rfl,<-YR];exact UP n c d
def ace(n:Nat)(a:Int):cA (n+1) 365 [I a]=some (I<|sg a):=by
 refine fN Tu ?_;delta Tu Jn J0 J1 qc;refine O ag<|O ac ?_;by_cases h:a<0
 ·refine au h ?_;rw[show sg a=-1 by unfold sg;rw[zma h]]
 ·refine ay h ?_;by_cases h0:0<a
  ·rw[show sg a=1 by unfold sg;rw[zha h,zma h0]]
   have e:D.min2 (I a) (I 1)=some (I 1):=by simp[D.min2];all_goals grind
   simp_all
  ·have e0:a=0:=u0
   subst e0;rfl
def gN(q:Nat->Int):D:=.st [I<|q 0,I<|q 1,I<|q 2,I<|q 3]
def jL{q:Nat->Int}{i:Nat}(h:i<4):D.get (gN q) [i]=some (I<|q i):=by
 have:i=0\/i=1\/i=2\/i=3:=u0
 rcases this with rfl|rfl|rfl|rfl<;>rfl
def ML(q:Nat->Int):Bool:=(List.range 4).all λt=>wi 65<|q<|0+t
def HO{q:Nat->Int}(h:ML q=true):∀ i,i<4->(q i).natAbs<=64:=by intro i hi;have:=zxa.1 h i<|zRa.2 hi;simp[wi,Y,zea,zbb] at this;omega
def acb(n:Nat)(q:Nat->Int):cA (n+1) 348 [gN q]=some (.bool<|ML q):=by
 refine fN Tp ?_;delta Tp qC qJ iL iR Jn J0 S bT qO qc qh qj qr qy;refine q9 (r:=if ML q then(1,[]) else(0,[.bool false])) (xB (m:=4) (λi=>wi 65<|q i) (λi hi=>?_) ?_ 4 0 rfl) ?_
 ·have c:=ai hi;refine O ag<|O ac<|au (by show(i:Int)<4;omega) ?_
  have hx:=jL (q:=q) hi;refine O c<|O hx ?_;generalize q i=x at *;by_cases h1:x>64
  ·have e:wi 65 x=false:=by simp[wi];omega
   refine O (z:=.bool true) (by simp[afA,h1])<|J true<|J true<|J true ?_
   simp_all
  ·refine O (z:=.bool false) (by simp[afA,h1])<|J false ?_
   by_cases h2:x < -64
   ·have e:wi 65 x=false:=by simp[wi];omega
    refine O (z:=true) ?_<|J true ?_
    ·rw[zha H]
     exact O c<|O hx<|O (z:=.bool true) (by simp[afA,h2]) rfl
    ·simp_all
   ·have e:wi 65 x=true:=by simp[wi];omega
    refine O (z:=false) ?_<|J false ?_
    ·rw[zha H]
     exact O c<|O hx<|O (z:=.bool false) (by simp[afA,h2]) rfl
    ·rw[zha H,e]
     exact O (av (a:=i) (b:=1) u0) rfl
 ·exact O ag<|O ac<|ay H rfl
 ·grind
section
variable{q:Nat->Int}
def eD{α β:Type}{A:Option α}{g:α->Option β}{Q:β->Prop}{z:α}(h:A=some z)(a:∃ y,g z=some y/\Q y):∃ y,Option.bind A g=some y/\Q y:=by simp_all
theorem XW{body:Bd}(d:∀ (g s:Int) (k:Nat),k<4->0<=g->g<=64->s.natAbs<=1->∃ a s':Int,body [I g,I s,I (k:Int)]=some (.inl [I a,I s',I<|(k:Int)-1])/\0<=a/\a<=64/\s'.natAbs<=1/\(s'≠0->s≠0\/q k≠0))
  (e:∀ g s:Int,body [I g,I s,I<|-1]=some (.inr (0,[I g,I s]))):∀ (c:Nat),c<=4->∀ g s:Int,0<=g->g<=64->s.natAbs<=1->(s≠0->∃ i,i<4/\q i≠0) ->
   ∃ a s':Int,cB body [I g,I s,I<|(c:Int)-1]=some (0,[I a,I s'])/\0<=a/\a<=64/\s'.natAbs<=1/\(s'≠0->∃ i,i<4/\q i≠0)
 | 0,_,g,s,g0,g1,s1,b=>⟨g,s,cT<|e g s,g0,g1,s1,b⟩
 | c+1,r,g,s,g0,g1,s1,b=>by
  obtain⟨a,s',l,m,n,o,p⟩:=d g s c u0 g0 g1 s1
  obtain⟨g2,s2,f,j⟩:=XW d e c u0 a s' m n o<|λh=>(p h).elim b<|λh=>⟨c,u0,h⟩
  refine⟨g2,s2,?_,j⟩;rw[show(((c+1:Nat):Int)-1)=(c:Int) by omega]
  exact(cz l).trans f
def XV{body:Bd}{q:Nat->Int}{k:Nat×List D->Option D}{Q:D->Prop}(b:∀ (g s:Int) (k:Nat),k<4->0<=g->g<=64->s.natAbs<=1->∃ a s':Int,body [I g,I s,I (k:Int)]=some (.inl [I a,I s',I<|(k:Int)-1])/\0<=a/\a<=64/\s'.natAbs<=1/\(s'≠0->s≠0\/q k≠0))
  (c:∀ g s:Int,body [I g,I s,I<|-1]=some (.inr (0,[I g,I s]))) (d:∀ g s:Int,0<=g->g<=64->s.natAbs<=1->(s≠0->∃ i,i<4/\q i≠0)->∃ y,k (0,[I g,I s])=some y/\Q y):∃ y,(cB body [I 0,I 0,I 3]).bind k=some y/\Q y:=by
 obtain⟨g,s,e,g0,g1,s1,f⟩:=XW b c 4 (zja _) 0 0 H H H<|λh=>z8a rfl h
 simp_all
theorem acc(n:Nat)(hq:∀ i,i<4->(q i).natAbs<=64):∃ r,cA (n+2) 349 [gN q]=some r/\∃ y b,r=.tup [y,.bool b]/\(b=true->∃ i,i<4/\q i≠0):=by
 rw[ado];delta Tq Q P qJ iL iR J0 J1 J3 S bT bq nq qb qc C qt qy;refine XV (q:=q) (λg s k c g0 g1 s1=>?_) (λg s=>J (.bool false)<|J false rfl)<|λg s g0 g1 s1 l=>?_
 ·have hi:=ai c;have hx:=jL (q:=q) c;have d:=hq k c;have f:=acd (n) (a:=g) (b:=q k) u0 u0
  have e:Nat.gcd g.natAbs (q k).natAbs<=64:=uh u0 d
  refine⟨((Nat.gcd g.natAbs (q k).natAbs:Nat):Int),if q k=0 then s else sg<|q k,O (z:=.bool true) (by simp[afA])<|J true<|fr<|O (z:=(0,[I ((Nat.gcd g.natAbs (q k).natAbs:Nat):Int),I<|if q k=0 then s else sg<|q k])) (O hi<|O hx<|O f<|O hi<|O hx ?_)<|O (z:=I<|(k:Int)-1) ?_ rfl,u0,u0,?_,?_⟩
  ·by_cases h:q k=0
   ·rw[h];exact J false rfl
   ·rw[zha h];refine O (z:=true) (by rw[cc];simp[h,D.truth])<|fr<|O hi<|O hx<|O (ace n<|q k) rfl
  ·have:k=0\/k=1\/k=2\/k=3:=u0
   rcases this with rfl|rfl|rfl|rfl<;>rfl
  ·grind [sg]
  ·omega
 ·have m:(s*g).natAbs<=64:=by
   have:=zHa s1<|show g.natAbs<=64 by omega
   rwa [<-zwa,z6c] at this
  refine eD (ny (a:=g) (by simp[inR];omega))<|eD (z:=I g) ((sM (a:=g) (b:=-g)).trans (by congr 2;omega))<|eD (cL (a:=s) (b:=g) (by simp[inR];omega)) ?_
  by_cases h:s*g=0
  ·rw[h];exact eD (z:=true) rfl ⟨_,rfl,_,false,rfl,λh=>by cases h⟩
  ·have j:s≠0:=λh0=>h (by rw[h0,zCc])
   refine eD (z:=false) (by rw[cc,zfa h];rfl) ?_
   have qq:∀ x:Int,∃ z,afA .quo (I x) (I<|s*g)=some z:=λx=>⟨D.int .i64<|IntKind.i64.wrap<|x.tdiv<|s*g,by simp[afA,if_true,zha h]⟩
   obtain⟨o,e0⟩:=qq<|q 0;obtain⟨p,e1⟩:=qq<|q 1;obtain⟨t,e2⟩:=qq<|q 2;obtain⟨u,e3⟩:=qq<|q 3;rw[zha H]
   exact eD (jL (i:=0) H)<|eD e0<|eD (jL (i:=1) H)<|eD e1<|eD (jL (i:=2) H)<|eD e2<|eD (jL (i:=3) H)<|eD e3 ⟨_,rfl,_,true,rfl,λ_=>l j⟩
end
def ab9(n:Nat)(q:Nat->Int):∃ v:Bool,cA (n+3) 331 [gN q]=some (.bool v)/\(v=true->ML q=true/\∃ i,i<4/\q i≠0):=by
 rw[adn];delta Th qT S bq qe C qn qp;have a:=acb (n+1) q;cases hl:ML q with
 | false=> rw[hl] at a;exact⟨false,O a<|J (.bool true)<|J true<|fr rfl,λh=>by cases h⟩
 | true=>
  rw[hl] at a;obtain⟨r,c,y,b,rfl,d⟩:=acc n<|HO hl;cases b with
  | false=>
   refine⟨false,O a<|J (.bool false)<|J false ?_,λh=>by cases h⟩
   rw[zha H]
   exact O c (J y<|J (.bool false)<|J false<|J false rfl)
  | true=>
   refine⟨D.beq y<|gN q,O a<|J (.bool false)<|J false ?_,λ_=>⟨rfl,d rfl⟩⟩;rw[zha H]
   exact O c<|J y<|J (.bool true)<|J true<|O (z:=D.beq y<|gN q) (fr rfl) rfl
def cD(x:V)(q:Nat->Int):D:=.st [X x,gN q]
structure Bdy where
 nm:ByteArray
 P:List (List V)
 m0:Int
 m1:Int
 r0:Int
 r1:Int
def Hi{v:V}{k:Int}(h:∀ t,t<3->aM v t<=k/\-k<=aM v t):bd k v:=by
 have a:=h 0 H;have b:=h 1 H;have c:=h 2 H
 simp only[aM,if_true,if_false,Nat.one_ne_zero,Nat.reduceEqDiff] at a b c;exact⟨⟨a.2,a.1⟩,⟨b.2,b.1⟩,⟨c.2,c.1⟩⟩
def jn{v:V}{i:Nat}(h:i<3):D.fld (X v) i=some (I<|aM v i):=by
 have:i=0\/i=1\/i=2:=u0
 rcases this with rfl|rfl|rfl<;>rfl
structure Hul(l:List V):Prop where
 len:l.length<=64
 bd:∀ x∈l,bd MV x
 srt:KS l
 vtx:∀ k,k<l.length->Xb (y l) l.length k
 ex:∃ m d,IsF (y l) l.length m d
def abZ(n:Nat){l:List V}(h:l.length<=100):(∃ e:Int,cA (n+9) 15 [bo l]=some (I e)/\e≠0)\/(cA (n+9) 15 [bo l]=some (I 0)/\Hul l):=by
 rcases c15 n (l:=l) h with⟨e,g,i⟩|⟨g,i,m,F,a,c,_,b⟩
 ·simp_all
 ·right;have d:=List.Pairwise.sublist (J6 (fd l) F)<|ye l;rw[b] at d;have j:=NS d;rw[Qz d] at a b;refine⟨g,i,m,j,λk p=>?_,?_⟩
  ·refine Mw j a.fok ?_;have e:=zEa List.length b;unfold eh at e;rw[zla] at e;have e2:((List.range l.length).filter<|lL F).length=(List.range l.length).length:=by rw[e,zec]
   exact List.length_filter_eq_length_iff.1 e2 k<|zRa.2 p
  ·obtain⟨f,o⟩:∃ f,f∈F:=zod F<|λe=>c (by rw[e];rfl)
   exact⟨_,_,(a.fok.ok f o).1⟩
def Hul.pos{l:List V}(h:Hul l):0<l.length:=by obtain⟨m,d,a⟩:=h.ex;obtain⟨i,j,k,b,c,e,_⟩:=a.ex;omega
def nbB(p:List Nat)(a b i:Nat):Bool:=(decide (p.getD i 0=a)&&decide (p.getD ((i+1)%p.length) 0=b))||(decide (p.getD i 0=b)&&decide (p.getD ((i+1)%p.length) 0=a))
def isE(p:List Nat)(a b t:Nat):Bool:=(List.range t).any<|nbB p a b
def Yk(F:FL)(a b:Nat):Bool:=F.any λf=>isE f.2 a b f.2.length
def Gi(F:FL)(a b:Nat):List (Nat×Nat):=((List.range b).filter λc=>decide (a<c)&&Yk F a c).map λc=>(a,c)
def vu(F:FL)(N a:Nat):List (Nat×Nat):=(List.range a).flatMap λa=>Gi F a N
def ND(F:FL)(a b:Nat):(Gi F a b).length<=b:=by grind [Gi,List.length_map]
def IC(F:FL)(N a:Nat):vu F N (a+1)=vu F N a++Gi F a N:=by simp_all [vu,zGb,List.flatMap_append]
def KW(F:FL)(N a:Nat):(vu F N a).length<=a*N:=by
 induction a with
 | zero=>simp[vu]
 | succ a ih=>rw[IC,zFa,Nat.succ_mul];have:=ND F a N;omega
def DC{F:FL}{N:Nat}{e:Nat×Nat}:e∈vu F N N↔e.1<N/\e.2<N/\e.1<e.2/\Yk F e.1 e.2=true:=by obtain⟨a,b⟩:=e;all_goals simp_all [vu,Gi,zqb,zRa,zmb,zKc]
def KX(F:FL)(N:Nat):(vu F N N).Pairwise DY:=by
 unfold vu;rw[List.pairwise_flatMap];refine⟨λa _=>?_,?_⟩
 ·unfold Gi;refine List.pairwise_map.2<|(List.Pairwise.filter _ List.pairwise_lt_range).imp λh=>.inr ⟨rfl,h⟩
 ·refine List.pairwise_lt_range.imp λ{a b} h x hx y e=>?_;simp[Gi,zmb] at hx e;obtain⟨c,_,rfl⟩:=hx;obtain⟨d,_,rfl⟩:=e;exact .inl h
def xD(M:List<|Nat×Nat):(M.map kN).length=M.length:=zla ..
def QX(n:Nat){l:List V}(hl:∀ x∈l,bd MV x)(c:l.length<=100)(j:KS l):∃ (F:FL) (E:List<|Nat×Nat),F.length<=2000000/\E.length<=10000/\KnF l l.length 0 0 F ∧
  cA (n+8) 18 [bo l]=some (.sl<|aW F)/\cA (n+8) 19 [bo l]=some (.sl<|aW F)/\cA (n+9) 21 [bo l]=some (.sl<|E.map kN)/\(∀ f∈F,0<f.2.length/\f.2.length<=1000000)/\E=vu F l.length l.length:=by
 obtain⟨F,A,w⟩:=c48 n hl c j;obtain⟨L,poly,hL,S,B,h18⟩:=p18 (n+1) hl c j;have g:=A.fok;have P:=g.len c;have s:=Facets.eq A.facets hL;have t:∀ f∈F,poly f.1=f.2:=λf h=>by obtain⟨q1,k⟩:=g.ok f h;exact bU.eq j q1 (S f.1 (by rw[<-s];exact zmb.2 ⟨f,h,rfl⟩)) k
 have z:(L.map λq=>o8 q<|poly q)=aW F:=by rw[<-s,zCd];refine zqc λf h=>?_;grind
 have G:∀ f∈F,0<f.2.length/\f.2.length<=1000000:=λf h=>by obtain⟨q1,k⟩:=g.ok f h;have:=xN j q1 k;omega
 have h19:cA (n+8) 19 [bo l]=some (.sl<|aW F):=by
  rw[u19]
  delta F19 Q C
  exact J (bc l)<|O w rfl
 obtain⟨E,e1,e2,h21⟩:=p21 (n+1) h18 B (λq hq=>by have p:=hq;rw[<-s] at p;obtain⟨f,h,rfl⟩:=zmb.1 p;rw[t f h];obtain⟨q1,k⟩:=g.ok f h;have:=xN j q1 k;exact⟨u0,this.2.2.1⟩)<|yU j hL S
 have K:E=vu F l.length l.length:=by
  refine oT (r:=DY) (λa=>by simp only[DY];omega) (λa b=>by simp[DY];omega) e2 (KX F l.length) λe=>?_
  obtain⟨a,b⟩:=e;rw[e1.mem_iff,EL j hL S,DC];constructor
  ·rintro⟨u,m,d,v,o⟩;have N:=(aU.1 o.2.mem).1;have M:=(aU.1 o.1).1;refine⟨M,N,u,?_⟩;have hq:(m,d)∈F.map Prod.fst:=by rw[s];exact(hL.mem (m,d)).2 v
   obtain⟨f,h,D⟩:=zmb.1 hq;obtain⟨q1,k⟩:=g.ok f h;rw[D] at q1 k;obtain⟨i,i1,H,X⟩:=(afS j q1 k).2 o;refine zsc.2 ⟨f,h,zsc.2 ⟨i,zRa.2 i1,?_⟩⟩;unfold nbB
   simp_all
  ·rintro⟨M,N,u,v⟩;refine⟨u,(Fe j).1 ?_⟩;obtain⟨f,h,o⟩:=zsc.1 v;obtain⟨i,i1,H⟩:=zsc.1 o;obtain⟨q1,k⟩:=g.ok f h;have i1:=zRa.1 i1;simp[nbB,zHb,Y,zea] at H;refine⟨f.1.1,f.1.2,q1,?_⟩;rcases H with⟨I,R⟩|⟨I,R⟩
   ·exact .inl<|(afS j q1 k).1 ⟨i,i1,I,R⟩
   ·exact .inr<|(afS j q1 k).1 ⟨i,i1,I,R⟩
 have y:E.length<=10000:=by rw[K];exact zva (KW _ _ _)<|zHa c c
 exact⟨F,E,u0,y,A,by rw[<-z];exact h18,h19,h21,G,K⟩
def pV{k:Nat}{v:V}(h:bd (k:Int) v):v.x.natAbs<=k/\v.y.natAbs<=k/\v.z.natAbs<=k:=by grind [bd]
structure BOk(b:Bdy):Prop where
 one:1<=b.P.length
 few:b.P.length<=3
 vs:∀ l∈b.P,l.length<=10
 hul:∀ l∈b.P,Hul l
 bd:∀ l∈b.P,∀ x∈l,bd 4096 x
 m0:1<=b.m0
 m1:b.m0<=b.m1
 m2:b.m1<=1099511627776
def Rz{body:Bd}{k:Nat×List D->Option D}{y:D}{l0:List D}(x:Nat->D)(h0:l0.length=3)
  (d:∀ i:Nat,i<3->∀ l:List D,l.length=3->(∀ j:Nat,i<=j->l[j]?=l0[j]?)->body [I (i:Int),.st l]=some (.inl [I ((i+1:Nat):Int),.st<|l.set i<|x i]))
  (e:∀ l,body [I ((3:Nat):Int),.st l]=some (.inr (0,[.st l]))) (g:k (0,[.st [x 0,x 1,x 2]])=some y):(cB body [I ((0:Nat):Int),.st l0]).bind k=some y:=by
 match l0,h0 with
 | [a,b,c],_=>
 have s0:=d 0 H [a,b,c] rfl (λj _=>rfl)
 have s1:=d 1 H [x 0,b,c] rfl (λj f=>by cases j with|zero=>omega|succ j=>rfl)
 have s2:=d 2 H [x 0,x 1,c] rfl (λj f=>by cases j with|zero=>omega|succ j=>cases j with|zero=>omega|succ j=>rfl)
 exact aK s0<|aK s1<|aK s2<|dT (e _) g
abbrev WV:=Nat->Option Rat
def pE(v:WV):D:=.st [bI<|v 0,bI<|v 1,bI<|v 2]
def W8(v:WV):Prop:=∀ i,OW<|v i
def YV(v:V):WV:=λi=>some (aM v i:Rat)
def Mm{i:Nat}(h:i<3)(v:WV):D.get (pE v) [i]=some (bI<|v i):=by
 have:i=0\/i=1\/i=2:=u0
 rcases this with rfl|rfl|rfl<;>rfl
def WE{v:V}(h:∀ i,inR<|aM v i):W8 (YV v):=λi=>aC<|Cu<|br<|h i
def Xs(n:Nat){v:V}(h:∀ i,inR<|aM v i):cA (n+1033) 135 [X v]=some (pE<|YV v):=abQ n (h 0) (h 1)<|h 2
def Kc{a:Option Rat}(h:OW a):addW (some 0) a=a:=by
 cases a with
 | none=>rfl
 | some x=>
  have e:addW (some 0) (some x)=some (0+x):=ji ⟨by simpa using aE.1 h.some.1,by simpa using aE.1 h.some.2⟩
  rw[e,Rat.zero_add]
def I3(u v:WV):Option Rat:=addW (addW (mulW (u 0)<|v 0)<|mulW (u 1)<|v 1)<|mulW (u 2)<|v 2
def PH(u v:WV):OW (I3 u v):=rO _ _
def Xr(n:Nat){u v:WV}(h:W8 u)(j:W8 v):cA (n+1033) 134 [pE u,pE v]=some (bI<|I3 u v):=by
 refine eN SI ?_;delta SI qJ iL iR J0 J3 qc qj C qy;refine O (EQ n<|bX 0) ?_;have st:∀ i:Nat,i<3->∀ a,OW a->((afA .lss (List.getD [I (i:Int),bI a] 0<|.bool false)<|D.int .i64 3).bind λo=>(D.truth o).bind λf=>
   if f then((D.idx (List.getD [I (i:Int),bI a] 0<|.bool false) 3).bind λk=>(D.get (pE u) [k]).bind λp=>(D.idx (List.getD [I (i:Int),bI a] 0<|.bool false) 3).bind λl=>(D.get (pE v) [l]).bind λq=> (cA (n+1032) 174 [p,q]).bind λm=>(cA (n+1032) 173 [List.getD [I (i:Int),bI a] 1<|.bool false,m]).bind λc=>(afA .add (List.getD [I (i:Int),bI a] 0<|.bool false)<|D.int .i64 1).bind λd=>some<|Sum.inl [d,c])
   else(some<|Sum.inr ((0:Nat),[List.getD [I (i:Int),bI a] 1<|.bool false])))=some (Sum.inl [I ((i+1:Nat):Int),bI<|addW a<|mulW (u i)<|v i]):=λi hi a g=>
  O ag (O ac<|au (by show(i:Int)<3;omega)<|O (ai hi)<|O (Mm hi u)<|O (ai hi)<|O (Mm hi v)<|O (Ha (n+1) (h i)<|j i)<|O (y8 (n+1) g<|BH _ _)<|O (av (a:=i) (b:=1) u0) rfl)
 have z:=aC<|Cu<|br<|bX 0;have s0:=st 0 H (some 0) z
 have s1:=st 1 H (addW (some 0)<|mulW (u 0)<|v 0)<|rO _ _
 have s2:=st 2 H (addW (addW (some 0)<|mulW (u 0)<|v 0)<|mulW (u 1)<|v 1)<|rO _ _
 have e:=Kc<|BH (u 0)<|v 0;unfold I3;rw[<-e];exact aK s0<|aK s1<|aK s2<|dT (O ag<|O ac<|ay H rfl) rfl
def XS(n:Nat){u:V}{v:WV}(a:∀ i,inR<|aM u i)(b:W8 v):cA (n+1034) 72 [X u,pE v]=some (bI<|I3 (YV u) v):=by refine eN F72 ?_;unfold F72;exact O (Xs n a)<|O (Xr n (WE a) b) rfl
def NH{l:List D}{i:Nat}{v:D}(h:i<l.length):D.set (.st l) [i] v=some (.st<|l.set i v):=by simp[D.set,zca h,zba]
section
variable{q:Nat->Int}{a c f h:Int}
def Xc(l:List D):Bd:=λ(v1:List D)=>
 (afA .add (Z v1 1)<|D.int .i64 1).bind λk=>(D.asSl<|.sl l).bind λj=>(afA .lss k<|D.int .i64<|j.length).bind λm=>(D.truth m).bind λh=>
 if h then((D.asSl<|.sl l).bind λg=>(D.idx (Z v1 1)<|g.length).bind λi=>(g[i]?).bind λn=>(afA .add (Z v1 1)<|D.int .i64 1).bind λo=>
  (D.asSl<|.sl l).bind λa=>(D.idx o<|a.length).bind λb=>(a[b]?).bind λc=>(afA .mul n c).bind λd=>(afA .add (Z v1 0) d).bind λe=>
  (afA .add (Z v1 1)<|D.int .i64 2).bind λf=>some<|Sum.inl [e,f]) else(some<|Sum.inr (0,[Z v1 0]))
def gY{l:List D}(k:Nat){s b t:Int}(hl:l.length<=100)(f:l[k]?=some (I a))(c:l[k+1]?=some (I b))(d:inR<|a*b)(e:inR<|s+a*b)(g:s+a*b=t):Xc l [I s,I (k:Int)]=some (.inl [I t,I ((k+2:Nat):Int)]):=by have h:=(zra.1 c).1;subst g;exact O (av (a:=k) (b:=1) u0)<|J l<|O ag<|O ac<|au (by show((k+1:Nat):Int)<(l.length:Int);omega)<|J l<|O (ai u0)<|O f<|O (av (a:=k) (b:=1) u0)<|J l<|O (ai h)<|O c<|O (cL d)<|O (az e)<|O (av (a:=k) (b:=2) u0) rfl
def B8{l:List D}(k:Nat){s:Int}(hl:l.length<=100)(c:l.length=k):Xc l [I s,I (k:Int)]=some (.inr (0,[I s])):=
 O (av (a:=k) (b:=1) u0) (J l<|O ag<|O ac<|ay (by show ¬ (((k+1:Nat):Int)<(l.length:Int));omega) rfl)
def tL(n:Nat){b d:Int}(e:inR<|a*b)(f:inR<|c*d)(g:inR<|a*b+c*d):cA (n+1) 394 [.sl [I a,I b,I c,I d]]=some (I<|a*b+c*d):=by refine fN EW ?_;delta EW P qX iL iR J0 J2 qj ql qy;exact aK (gY 0 (l:=[I a,I b,I c,I d]) (s:=0) (t:=a*b) j2 rfl rfl e (by rw[zvc];exact e) (zvc _))<|aK (gY 2 j2 rfl rfl f g rfl)<|dT (B8 4 j2 rfl) rfl
def Lv(n:Nat){b d e:Int}(g:inR<|a*b)(h:inR<|c*d)(i:inR<|a*b+c*d)(j:inR<|e*f)(k:inR<|a*b+c*d+e*f):cA (n+1) 394 [.sl [I a,I b,I c,I d,I e,I f]]=some (I<|a*b+c*d+e*f):=by refine fN EW ?_;delta EW P qX iL iR J0 J2 qj ql qy;exact aK (gY 0 (l:=[I a,I b,I c,I d,I e,I f]) (s:=0) (t:=a*b) j2 rfl rfl g (by rw[zvc];exact g) (zvc _))<|aK (gY 2 j2 rfl rfl h i rfl)<|aK (gY 4 j2 rfl rfl j k rfl)<|dT (B8 6 j2 rfl) rfl
def wJ(n:Nat){b d e g:Int}(i:inR<|a*b)(j:inR<|c*d)(k:inR<|a*b+c*d)(m:inR<|e*f)(o:inR<|a*b+c*d+e*f)(p:inR<|g*h)(q:inR<|a*b+c*d+e*f+g*h) :
  cA (n+1) 394 [.sl [I a,I b,I c,I d,I e,I f,I g,I h]]=some (I<|a*b+c*d+e*f+g*h):=by
 refine fN EW ?_;delta EW P qX iL iR J0 J2 qj ql qy;exact aK (gY 0 (l:=[I a,I b,I c,I d,I e,I f,I g,I h]) (s:=0) (t:=a*b) j2 rfl rfl i (by rw[zvc];exact i) (zvc _))<|aK (gY 2 j2 rfl rfl j k rfl)<|aK (gY 4 j2 rfl rfl m o rfl)<|aK (gY 6 j2 rfl rfl p q rfl)<|dT (B8 8 j2 rfl) rfl
def ft(q:Nat->Int):Nat->Int
 | 0=>q 0*q 0+q 1*q 1-q 2*q 2-q 3*q 3
 | 1=>2*(q 1*q 2-q 0*q 3)
 | 2=>2*(q 1*q 3+q 0*q 2)
 | 3=>2*(q 1*q 2+q 0*q 3)
 | 4=>q 0*q 0-q 1*q 1+q 2*q 2-q 3*q 3
 | 5=>2*(q 2*q 3-q 0*q 1)
 | 6=>2*(q 1*q 3-q 0*q 2)
 | 7=>2*(q 2*q 3+q 0*q 1)
 | _=>q 0*q 0-q 1*q 1-q 2*q 2+q 3*q 3
def Rg(m:Nat->Int):D:=.st [I<|m 0,I<|m 1,I<|m 2,I<|m 3,I<|m 4,I<|m 5,I<|m 6,I<|m 7,I<|m 8]
def ui{k:Nat}(h:k<9)(m:Nat->Int):D.get (Rg m) [k]=some (I<|m k):=by
 match k,h with
 | 0,_=>rfl
 | 1,_=>rfl
 | 2,_=>rfl
 | 3,_=>rfl
 | 4,_=>rfl
 | 5,_=>rfl
 | 6,_=>rfl
 | 7,_=>rfl
 | 8,_=>rfl
 | k+9,h=>omega
def pq(q:Nat->Int):Prop:=∀ i,i<4->(q i).natAbs<=64
def qq(h:pq q){i j:Nat}(hi:i<4)(a:j<4):-4096<=q i*q j/\q i*q j<=4096:=by
 have:(q i*q j).natAbs<=64*64:=by rw[zwa];exact zHa (h i hi)<|h j a
 omega
def aG{x:Int}(h:-4000000000<=x/\x<=4000000000):inR x:=by simp[inR];omega
theorem jS(h:pq q)(k:Nat):-16384<=ft q k/\ft q k<=16384:=by
 have a:=qq h (i:=0) (j:=0) H H;have e:=qq h (i:=1) (j:=1) H H;have l:=qq h (i:=2) (j:=2) H H;have n:=qq h (i:=3) (j:=3) H H
 have b:=qq h (i:=0) (j:=1) H H;have c:=qq h (i:=0) (j:=2) H H;have d:=qq h (i:=0) (j:=3) H H
 have f:=qq h (i:=1) (j:=2) H H;have g:=qq h (i:=1) (j:=3) H H;have m:=qq h (i:=2) (j:=3) H H
 unfold ft;grind
def G0(h:inR<|-a):afP .neg (I a)=some (I<|-a):=by simp_all [afP,Int.zero_sub,jg]
def yZ{b:Int}(c:2*a=b)(h:inR b):afA .mul (D.int .i64 2) (I a)=some (I b):=by subst c;exact cL h
def XB(n:Nat)(h:pq q):cA (n+2) 393 [gN q]=some (Rg<|ft q):=by
 have g:=qq h (i:=0) (j:=0) H H;have p:=qq h (i:=1) (j:=1) H H;have t:=qq h (i:=2) (j:=2) H H;have v:=qq h (i:=3) (j:=3) H H
 have k:=qq h (i:=0) (j:=1) H H;have l:=qq h (i:=0) (j:=2) H H;have o:=qq h (i:=0) (j:=3) H H
 have r:=qq h (i:=1) (j:=2) H H;have s:=qq h (i:=1) (j:=3) H H;have u:=qq h (i:=2) (j:=3) H H
 have h0:=h 0 H;have x:=h 1 H;have y:=h 2 H;have A:=h 3 H
 have c:afP .neg (I<|q 0)=some (I<|-(q 0)):=G0<|aG u0
 have d:afP .neg (I<|q 1)=some (I<|-(q 1)):=G0<|aG u0
 have e:afP .neg (I<|q 2)=some (I<|-(q 2)):=G0<|aG u0
 have f:afP .neg (I<|q 3)=some (I<|-(q 3)):=G0<|aG u0
 have m:∀ a b:Int,-a*b=-(a*b):=λa b=>Int.neg_mul a b;refine fN Tw ?_;delta Tw Q P J0 J2 C;refine J (I<|q 0)<|J (I<|q 1)<|J (I<|q 2)<|J (I<|q 3)<|O e<|O f ?_;refine O (wJ n (aG u0) (aG u0) (aG u0) (aG (by rw[m];omega)) (aG (by rw[m];omega)) (aG (by rw[m];omega))<|aG (by rw[m,m];omega)) ?_
 refine O c<|O (tL n (aG u0) (aG (by rw[m];omega))<|aG (by rw[m];omega))<|O (yZ (b:=ft q 1) (by show _=2*(q 1*q 2-q 0*q 3);rw[m];omega)<|aG (by have:=jS h 1;omega)) ?_
 refine O (tL n (aG u0) (aG u0)<|aG u0)<|O (yZ (b:=ft q 2) rfl (aG (by have:=jS h 2;omega))) ?_
 refine O (tL n (aG u0) (aG u0)<|aG u0)<|O (yZ (b:=ft q 3) rfl (aG (by have:=jS h 3;omega))) ?_
 refine O d<|O f<|O (wJ n (aG u0) (aG (by rw[m];omega)) (aG (by rw[m];omega)) (aG u0) (aG (by rw[m];omega)) (aG (by rw[m];omega))<|aG (by rw[m,m];omega)) ?_
 refine O c<|O (tL n (aG u0) (aG (by rw[m];omega))<|aG (by rw[m];omega))<|O (yZ (b:=ft q 5) (by show _=2*(q 2*q 3-q 0*q 1);rw[m];omega)<|aG (by have:=jS h 5;omega)) ?_
 refine O c<|O (tL n (aG u0) (aG (by rw[m];omega))<|aG (by rw[m];omega))<|O (yZ (b:=ft q 6) (by show _=2*(q 1*q 3-q 0*q 2);rw[m];omega)<|aG (by have:=jS h 6;omega)) ?_
 refine O (tL n (aG u0) (aG u0)<|aG u0)<|O (yZ (b:=ft q 7) rfl (aG (by have:=jS h 7;omega))) ?_
 refine O d<|O e<|O (wJ n (aG u0) (aG (by rw[m];omega)) (aG (by rw[m];omega)) (aG (by rw[m];omega)) (aG (by rw[m,m];omega)) (aG u0)<|aG (by rw[m,m];omega)) ?_
 have e0:q 0*q 0+q 1*q 1+-(q 2)*q 2+-(q 3)*q 3=ft q 0:=by show _=q 0*q 0+q 1*q 1-q 2*q 2-q 3*q 3;rw[m,m];omega
 have e4:q 0*q 0+-(q 1)*q 1+q 2*q 2+-(q 3)*q 3=ft q 4:=by show _=q 0*q 0-q 1*q 1+q 2*q 2-q 3*q 3;rw[m,m];omega
 have w:q 0*q 0+-(q 1)*q 1+-(q 2)*q 2+q 3*q 3=ft q 8:=by show _=q 0*q 0-q 1*q 1-q 2*q 2+q 3*q 3;rw[m,m];omega
 rw[e0,e4,w];rfl
def dX(q:Nat->Int)(v:V)(i:Nat):Int:=ft q (3*i)*v.x+ft q (3*i+1)*v.y+ft q (3*i+2)*v.z
def dV(q:Nat->Int):Int:=q 0*q 0+q 1*q 1+q 2*q 2+q 3*q 3
def Aa(h:pq q)(k:Nat){x:Int}(hx:x.natAbs<=4096):-67108864<=ft q k*x/\ft q k*x<=67108864:=by
 have:=jS h k;have:(ft q k*x).natAbs<=16384*4096:=by rw[zwa];exact zHa u0 hx
 omega
theorem mn(h:pq q){v:V}(d:bd 4096 v)(i:Nat):-201326592<=dX q v i/\dX q v i<=201326592:=by obtain⟨v1,e,f⟩:=pV (k:=4096) d;have a:=Aa h (3*i) v1;have b:=Aa h (3*i+1) e;have c:=Aa h (3*i+2) f;grind [dX]
def td(h:pq q)(h0:∃ i,i<4/\q i≠0):0<dV q/\dV q<=16384:=by
 have a:=qq h (i:=0) (j:=0) H H;have b:=qq h (i:=1) (j:=1) H H;have c:=qq h (i:=2) (j:=2) H H;have d:=qq h (i:=3) (j:=3) H H
 have p0:=oy<|q 0;have p1:=oy<|q 1;have e:=oy<|q 2;have f:=oy<|q 3;have pos:∀ x:Int,x≠0->0<x*x:=λx hx=>by
  have:=oy x;rcases zBb this with h|h
  ·exact h
  ·rcases zMc.1 h.symm with h|h<;>exact z8a h hx
 obtain⟨i,hi,hq⟩:=h0;have hp:=pos _ hq;unfold dV;refine⟨?_,u0⟩
 match i,hi with
 | 0,_=>omega
 | 1,_=>omega
 | 2,_=>omega
 | 3,_=>omega
 | k+4,h=>omega
def L2(f:Nat->Int):D:=.st [I<|f 0,I<|f 1,I<|f 2]
def I2{k:Nat}(h:k<9):D.idx (I (k:Int)) 9=some k:=ai h
def acg(n:Nat)(h:pq q){v:V}(e:bd 4096 v):cA (n+3) 386 [gN q,X v]=some (L2<|dX q v):=by
 obtain⟨v1,j,m⟩:=pV (k:=4096) e;refine eN KG ?_;delta KG Q P qJ iL iR J0 J2 J3 qc qi qj C qs qy;refine O (XB n h) ?_;refine Rz (l0:=[I 0,I 0,I 0]) (λi=>I<|dX q v i) rfl (λi hi l hl o=>?_) (λl=>O ag<|O ac<|ay H rfl) rfl
 have a:=Aa h (3*i) v1;have b:=Aa h (3*i+1) j;have c:=Aa h (3*i+2) m;have d:=pT (a:=3) (b:=i) u0
 have f:=av (a:=3*i) (b:=1) u0
 have g:=av (a:=3*i) (b:=2) u0
 refine O ag<|O ac<|au (by show(i:Int)<3;omega) ?_
 refine O d<|O (I2 u0)<|O (ui u0 _)<|J (I v.x) ?_
 refine O d<|O f<|O (I2 u0)<|O (ui u0 _)<|J (I v.y) ?_
 refine O d<|O g<|O (I2 u0)<|O (ui u0 _)<|J (I v.z) ?_
 refine O (Lv (n+1) (aG u0) (aG u0) (aG u0) (aG u0)<|aG u0) ?_
 exact O (ai hi)<|O (NH u0)<|O (av (a:=i) (b:=1) u0) rfl
def acf(n:Nat)(h:pq q):cA (n+3) 385 [gN q]=some (I<|dV q):=by
 have a:=qq h (i:=0) (j:=0) H H;have b:=qq h (i:=1) (j:=1) H H;have c:=qq h (i:=2) (j:=2) H H;have d:=qq h (i:=3) (j:=3) H H
 refine fN Tv ?_;unfold Tv;refine O (z:=I<|dV q) ?_ rfl;rw[YS];delta OH Q C;refine J (I<|q 0)<|J (I<|q 0)<|J (I<|q 1)<|J (I<|q 1)<|J (I<|q 2)<|J (I<|q 2)<|J (I<|q 3)<|J (I<|q 3) ?_;exact O (wJ n (aG u0) (aG u0) (aG u0) (aG u0) (aG u0) (aG u0)<|aG u0) rfl
end
section
variable{q:Nat->Int}
def uX{x:Int}(h:-4611686018427387904<=x/\x<=4611686018427387904):inR x:=by simp[inR];omega
def FN(h:pq q)(k:Nat){x:Int}(hx:x.natAbs<=1099511627776):-18014398509481984<=ft q k*x/\ft q k*x<=18014398509481984:=by
 have:=jS h k;have:(ft q k*x).natAbs<=16384*1099511627776:=by rw[zwa];exact zHa u0 hx
 omega
def Q3(n:Nat)(h:pq q){v:V}(e:bd 1099511627776 v):cA (n+3) 386 [gN q,X v]=some (L2<|dX q v):=by
 obtain⟨v1,j,m⟩:=pV (k:=1099511627776) e;refine eN KG ?_;delta KG Q P qJ iL iR J0 J2 J3 qc qi qj C qs qy;refine O (XB n h) ?_;refine Rz (l0:=[I 0,I 0,I 0]) (λi=>I<|dX q v i) rfl (λi hi l hl o=>?_) (λl=>O ag<|O ac<|ay H rfl) rfl
 have a:=FN h (3*i) v1;have b:=FN h (3*i+1) j;have c:=FN h (3*i+2) m;have d:=pT (a:=3) (b:=i) u0
 have f:=av (a:=3*i) (b:=1) u0
 have g:=av (a:=3*i) (b:=2) u0
 refine O ag<|O ac<|au (by show(i:Int)<3;omega) ?_
 refine O d<|O (I2 u0)<|O (ui u0 _)<|J (I v.x) ?_
 refine O d<|O f<|O (I2 u0)<|O (ui u0 _)<|J (I v.y) ?_
 refine O d<|O g<|O (I2 u0)<|O (ui u0 _)<|J (I v.z) ?_
 refine O (Lv (n+1) (uX u0) (uX u0) (uX u0) (uX u0)<|uX u0) ?_
 exact O (ai hi)<|O (NH u0)<|O (av (a:=i) (b:=1) u0) rfl
end
section
variable{q:Nat->Int}{l:List V}
def u9(x:V)(q:Nat->Int)(v:V):V:=⟨dX q v 0+dV q*x.x,dX q v 1+dV q*x.y,dX q v 2+dV q*x.z⟩
def PB:Int:=2305843009415020544
structure PoseOk(x:V)(q:Nat->Int):Prop where
 hx:bd 140737488355327 x
 hq:pq q
 h0:∃ i,i<4/\q i≠0
def Ax{x:V}(h:PoseOk x q){a:Int}(b:-140737488355327<=a/\a<=140737488355327):-2305843009213693952<=dV q*a/\dV q*a<=2305843009213693952:=by
 have s:=td h.hq h.h0;have:(dV q*a).natAbs<=16384*140737488355327:=by rw[zwa];exact zHa u0 u0
 omega
theorem Wa{x:V}(h:PoseOk x q){v:V}(a:bd 4096 v):bd PB (u9 x q v):=by have b:=mn h.hq a 0;have c:=mn h.hq a 1;have d:=mn h.hq a 2;have s0:=Ax h h.hx.1;have s1:=Ax h h.hx.2.1;have s2:=Ax h h.hx.2.2;grind [bd,u9,PB]
def jK(x:V)(q:Nat->Int)(l:List V):D:=.st [cD x q,bo l,I<|dV q,bc<|l.map<|u9 x q]
def YM{x:V}{i:Nat}(hi:i<l.length):((l.take i).map λv=>X<|u9 x q v)++[X<|u9 x q l[i]]=(l.take<|i+1).map λv=>X (u9 x q v):=by rw[List.take_add_one,zca hi];simp only[Option.toList_some,zob,z4a,zmd]
def O6(n:Nat){x:V}(h:PoseOk x q)(hl:∀ v∈l,bd 4096 v)(f:l.length<=100):cA (n+4) 433 [cD x q,bo l]=some (jK x q l):=by
 refine eN TD ?_;delta TD Q P qS qX qJ qV qW iL iR J0 J3 jl qc qi qj C qs qu qy;refine J (gN q)<|O (acf n h.hq)<|J (bc l)<|J (l.map X) ?_;obtain⟨Z,g⟩:∃ Z,D.st [D.st [I 0,I 0,I 0],D.st [I 0,I 0,I 0,I 0]]=Z:=⟨_,rfl⟩;refine c8 (λi s=>s=[I (i:Int),Z,.sl [],I 0,.sl [],cD x q,bo l,I<|dV q,.sl<|(l.take i).map λv=>X<|u9 x q v]) l.length 0 (zoa _) (by rw[<-g];rfl) (λi hi s e=>?_)<|λs e=>?_
 ·subst e;left;have d:=hl _<|zya hi;have k:=mn h.hq d 0;have m:=mn h.hq d 1;have o:=mn h.hq d 2;have s0:=Ax h h.hx.1;have s1:=Ax h h.hx.2.1;have s2:=Ax h h.hx.2.2;refine⟨_,?_,rfl⟩;refine O ag<|O ac<|au (by rw[aN];omega) ?_
  refine J (l.map X)<|O (z:=i) (by rw[aN];exact ai hi)<|O (z:=X l[i]) (by simp[hi]) ?_
  refine J (gN q)<|O (acg n h.hq d) ?_;obtain⟨L,hL⟩:∃ L,((l.take i).map λv=>X<|u9 x q v)=L:=⟨_,rfl⟩;obtain⟨v,c⟩:∃ v,l[i]=v:=⟨_,rfl⟩;rw[<-YM hi,c,hL];rw[c] at k m o;refine aK (s':=[I 1,Z,.sl [],I 0,.sl [],cD x q,bo l,I<|dV q,.sl L,.st [I (u9 x q v).x,I<|dX q v 1,I<|dX q v 2]]) ?_<|aK (s':=[I 2,Z,.sl [],I 0,.sl [],cD x q,bo l,I<|dV q,.sl L,.st [I (u9 x q v).x,I (u9 x q v).y,I<|dX q v 2]]) ?_<|aK (s':=[I 3,Z,.sl [],I 0,.sl [],cD x q,bo l,I<|dV q,.sl L,X<|u9 x q v]) ?_<|dT (r:=(0,[Z,.sl [],I 0,.sl [],cD x q,bo l,I<|dV q,.sl L,X<|u9 x q v])) ?_ ?_
  ·exact J (.bool true)<|J true<|fr<|J 0<|J (I<|dX q v 0)<|J 0<|J (I x.x)<|O (cL<|uX u0)<|O (az (by simp[inR];omega))<|J 0<|J (.st [I (u9 x q v).x,I<|dX q v 1,I<|dX q v 2])<|J (I 1) rfl
  ·exact J (.bool true)<|J true<|fr<|J 1<|J (I<|dX q v 1)<|J 1<|J (I x.y)<|O (cL<|uX u0)<|O (az (by simp[inR];omega))<|J 1<|J (.st [I (u9 x q v).x,I (u9 x q v).y,I<|dX q v 2])<|J (I 2) rfl
  ·exact J (.bool true)<|J true<|fr<|J 2<|J (I<|dX q v 2)<|J 2<|J (I x.z)<|O (cL<|uX u0)<|O (az (by simp[inR];omega))<|J 2<|J (X<|u9 x q v)<|J (I 3) rfl
  ·exact J (.bool false)<|J false rfl
  ·have j:List.length (D.els<|.sl L)+List.length [X<|u9 x q v]<=1073741824:=by
    rw[<-hL];show((l.take i).map _).length+1<=_;simp;omega
   refine(zma j).trans ?_;exact O (av (a:=i) (b:=1) u0) rfl
 ·subst e;refine⟨_,O ag (O ac<|ay (by rw[aN];omega) rfl),?_⟩
  rw[zvb<|zja _];simp[jK,bc,zCd];rfl
end
section
variable{u:V}{q:Nat->Int}{l:List V}
def NB:Int:=2305843009213693951
def zn{v:V}(c:bd NB u)(d:bd PB v):(u.x*v.x).natAbs<=2^123/\(u.y*v.y).natAbs<=2^123/\(u.z*v.z).natAbs<=2^123:=by
 have key:∀ a b:Int,(-NB<=a/\a<=NB)->(-PB<=b/\b<=PB)->(a*b).natAbs<=2^123:=λa b e f=>by rw[zwa];simp[NB,PB] at e f;exact ca (i:=61) (j:=62) (by rw[show(2:Nat)^61=2305843009213693952 from rfl];omega) (by rw[show(2:Nat)^62=4611686018427387904 from rfl];omega) H
 exact⟨key _ _ c.1 d.1,key _ _ c.2.1 d.2.1,key _ _ c.2.2 d.2.2⟩
def w7{v:V}(d:bd NB u)(e:bd PB v):In (u.x*v.x)/\In (u.y*v.y)/\In (u.z*v.z)/\In (u.x*v.x+u.y*v.y)/\In (V.dot u v):=by obtain⟨a,b,c⟩:=zn d e;have e1:=zUb (u.x*v.x)<|u.y*v.y;have e2:=zUb (u.x*v.x+u.y*v.y)<|u.z*v.z;exact⟨bD H a,bD H b,bD H c,bD (k:=130) H u0,bD (k:=130) H (by unfold V.dot;omega)⟩
def Fz(a:bd NB u):inR u.x/\inR u.y/\inR u.z:=by simp[bd,NB] at a;simp[inR];omega
def VN(a:bd PB u):inR u.x/\inR u.y/\inR u.z:=by simp[bd,PB] at a;simp[inR];omega
def U2(n:Nat){v:V}(c:bd NB u)(d:bd PB v):cA (n+6) 91 [X u,X v]=some (M<|V.dot u v):=by
 obtain⟨a1,a2,a⟩:=Fz c;obtain⟨b1,b2,b⟩:=VN d;obtain⟨i1,e,f,g,i⟩:=w7 c d;have h:=br<|bX 0;refine eN F91 ?_;unfold F91;refine O (O2 (n+2) a1 a2 a)<|O (O2 (n+2) b1 b2 b)<|O (z:=M<|V.dot u v) ?_ rfl;rw[adl];delta SS qJ iL iR J0 J3 qc qj C qy;refine O (oE (n+2)<|bX 0) ?_;refine aK (s':=[I 1,M<|u.x*v.x]) ?_<|aK (s':=[I 2,M<|u.x*v.x+u.y*v.y]) ?_<|aK (s':=[I 3,M<|V.dot u v]) ?_<|dT (r:=(0,[M<|V.dot u v])) ?_ rfl
 ·exact J (.bool true)<|J true<|fr<|J 0<|J (M u.x)<|J 0<|J (M v.x)<|O (jD (n+1) (br a1) (br b1) i1)<|O (rT n h i1 (by rw[zvc];exact i1))<|J (I 1) (by rw[zvc])
 ·exact J (.bool true)<|J true<|fr<|J 1<|J (M u.y)<|J 1<|J (M v.y)<|O (jD (n+1) (br a2) (br b2) e)<|O (rT n i1 e g)<|J (I 2) rfl
 ·exact J (.bool true)<|J true<|fr<|J 2<|J (M u.z)<|J 2<|J (M v.z)<|O (jD (n+1) (br a) (br b) f)<|O (rT n g f i)<|J (I 3) rfl
 ·exact J (.bool false)<|J false rfl
def HX(u:V)(L:List V):Nat->Int
 | 0=>V.dot u (y L 0)
 | k+1=>if V.dot u (y L<|k+1)>HX u L k then V.dot u (y L<|k+1) else HX u L k
theorem DK(u:V)(L:List V)(k:Nat):HX u L (k+1)=if V.dot u (y L<|k+1)>HX u L k then V.dot u (y L<|k+1) else HX u L k:=rfl
def lz{L:List V}{i:Nat}(h:i<L.length):y L i∈L:=by unfold y;rw[zGa,zca h];exact zya h
def BN{L:List V}{i:Nat}(h:i<L.length):(L.map X)[i]?=some (X<|y L i):=by unfold y;rw[z4b,zGa,zca h];rfl
theorem FO{L:List V}(a:bd NB u)(hL:∀ v∈L,bd PB v):∀ k,k<L.length->In (HX u L k)
 | 0,h=>(w7 a<|hL _<|lz h).2.2.2.2
 | k+1,h=>by
  unfold HX;split
  ·exact(w7 a<|hL _<|lz h).2.2.2.2
  ·exact FO a hL k u0
theorem Pi(a b:Int):decide (bf a b>0)=decide (a>b):=by grind [bf]
def ef(u x:V)(q:Nat->Int)(l:List V):Rat:=Rat.divInt (HX u (l.map<|u9 x q)<|l.length-1)<|dV q
def BM{x:V}(h:PoseOk x q)(hl:∀ v∈l,bd 4096 v):∀ v∈l.map (u9 x q),bd PB v:=λv a=>by obtain⟨w,b,rfl⟩:=zmb.1 a;exact Wa h<|hl w b
theorem Gm{x:V}(h:PoseOk x q):inR (dV q)/\dV q≠0:=by have:=td h.hq h.h0;grind [inR]
def od{x:V}(a:bd NB u)(h:PoseOk x q)(hl:∀ v∈l,bd 4096 v)(h0:0<l.length):InR (ef u x q l):=
 gq (FO a (BM h hl) _ (by simp;omega)) (br (Gm h).1) (Gm h).2
theorem Lw(n:Nat){x:V}(e:bd NB u)(h:PoseOk x q)(hl:∀ v∈l,bd 4096 v)(h0:0<l.length)(k:l.length<=100):cA (n+1031) 435 [jK x q l,X u]=some (B<|ef u x q l):=by
 have j:=Gm h;have d:=BM h hl;have c:=FO e d;unfold jK ef;obtain⟨L,hL⟩:∃ L,l.map (u9 x q)=L:=⟨_,rfl⟩;have m:L.length=l.length:=by rw[<-hL];simp
 rw[hL] at d c ⊢;refine eN TF ?_;delta TF Q qI qY qP iL iR J0 jl qb qc qj C qy;refine J (bc L)<|J (L.map X)<|O (z:=0) (by rw[aN];exact ai (i:=0) u0)<|O (BN u0) ?_
 refine O (U2 (n+1024) e<|d _<|lz u0) ?_
 refine J (bc L)<|J (L.map X)<|O (z:=(L.map X).drop 1) ?_ ?_
 ·grind [D.cut,aN]
 have f:((L.map X).drop 1).length=l.length-1:=by rw[List.length_drop,aN,m]
 refine c8 (λi s=>s=[I (i:Int),M<|HX u L i]) (l.length-1) 0 (zoa _) rfl (λi hi s g=>?_) (λs g=>?_)
 ·subst g;left;refine⟨_,?_,rfl⟩;have hm:=lz (L:=L) (i:=i+1) u0
  refine O ag<|O ac<|au (by rw[f];omega) ?_
  refine O (z:=(0,[M<|HX u L<|i+1])) ?_<|O (av (a:=i) (b:=1) u0) rfl
  refine O (z:=i) (by rw[f];exact ai hi)<|O (z:=X<|y L<|i+1) (by rw[zDb,zhc];exact BN u0) ?_
  refine O (U2 (n+1024) e<|d _ hm)<|O (Ou (n+1026) (w7 e<|d _ hm).2.2.2.2<|c i u0) ?_
  refine O (z:=.bool<|decide (V.dot u (y L<|i+1)>HX u L i)) (by rw[<-Pi];exact bR)<|O ac ?_
  all_goals grind [DK]
 ·subst g;refine⟨_,O ag (O ac<|ay (by rw[f];omega) rfl),?_⟩
  exact J (I<|dV q)<|O (oE (n+1028) j.1)<|O (Lz n (c _ u0) (br j.1) j.2) rfl
end
section
variable{y:Int}
def NW{x:Int}(b:0<y):(0<=x/\x/y=x.tdiv y/\x%y=x.tmod y/\0<=x.tmod y)\/(x<0/\x.tmod y=0/\x/y=x.tdiv y/\x%y=0)\/(x<0/\x.tmod y<0/\x/y=x.tdiv y-1/\x%y=x.tmod y+y):=by
 have e:=Int.mul_tdiv_add_tmod x y;have l:=Int.tmod_lt_of_pos x b;have d:=Int.lt_tmod_of_pos x b;by_cases hx:0<=x
 ·have h0:=Int.tmod_nonneg y hx;have:=(Int.ediv_emod_unique (a:=x) (q:=x.tdiv y) (r:=x.tmod y) b).2 ⟨u0,h0,l⟩
  exact .inl ⟨hx,this.1,this.2,h0⟩
 ·have h0:x.tmod y<=0:=by
   have c:=Int.tmod_nonneg y<|show 0<=-x by omega
   rw[Int.neg_tmod] at c;omega
  by_cases hz:x.tmod y=0
  ·have:=(Int.ediv_emod_unique (a:=x) (q:=x.tdiv y) (r:=x.tmod y) b).2 ⟨u0,u0,l⟩
   exact .inr<|.inl ⟨u0,hz,this.1,by rw[this.2,hz]⟩
  ·have e2:y*(x.tdiv y-1)=y*x.tdiv y-y:=by rw[Int.mul_sub,Int.mul_one]
   have:=(Int.ediv_emod_unique (a:=x) (q:=x.tdiv y-1) (r:=x.tmod y+y) b).2 ⟨u0,u0,u0⟩
   exact .inr<|.inr ⟨u0,u0,this.1,this.2⟩
theorem M8{x:Int}(b:0<y):(0<=x/\x/y=((x.natAbs/y.natAbs:Nat):Int)/\x%y=((x.natAbs%y.natAbs:Nat):Int))\/(x<0/\x.natAbs%y.natAbs=0/\x/y=-((x.natAbs/y.natAbs:Nat):Int)/\x%y=0) ∨
  (x<0/\0<x.natAbs%y.natAbs/\x/y=-((x.natAbs/y.natAbs:Nat):Int)-1/\x%y=((y.natAbs-x.natAbs%y.natAbs:Nat):Int)):=by
 have e:=zxb x.natAbs y.natAbs;have l:=zWa x.natAbs<|show 0<y.natAbs by omega
 have c:(y.natAbs:Int)=y:=u0
 have d:y*((x.natAbs/y.natAbs:Nat):Int)+((x.natAbs%y.natAbs:Nat):Int)=(x.natAbs:Int):=by grind
 generalize x.natAbs/y.natAbs=Q at *;generalize x.natAbs%y.natAbs=R at *;by_cases hx:0<=x
 ·have:=(Int.ediv_emod_unique (a:=x) (q:=Q) (r:=R) b).2 ⟨u0,u0,u0⟩
  omega
 ·have e2:y*-(Q:Int)=-(y*Q):=Int.mul_neg ..;by_cases hz:R=0
  ·have:=(Int.ediv_emod_unique (a:=x) (q:=-Q) (r:=0) b).2 ⟨u0,u0,u0⟩
   omega
  ·have e3:y*(-(Q:Int)-1)=-(y*Q)-y:=by rw[Int.mul_sub,Int.mul_one,e2]
   have:=(Int.ediv_emod_unique (a:=x) (q:=-Q-1) (r:=((y.natAbs-R:Nat):Int)) b).2 ⟨u0,u0,u0⟩
   omega
theorem KN{x:Int}(c:In y)(h:0<y):In (x%y):=by
 have a:=Int.emod_nonneg x<|show y≠0 by omega
 have b:=Int.emod_lt_of_pos x h;grind [In]
def oB{x:Int}(h:0<y):0<=x%y/\x%y<y:=⟨Int.emod_nonneg x u0,Int.emod_lt_of_pos x h⟩
end
section
variable{y:Int}
theorem QZ(n:Nat){x:Int}(hx:In x)(v:In y)(l:0<y):cA (n+6) 172 [M x,M y]=some (.tup [M<|x/y,M<|x%y]):=by
 have K:=Int.natAbs_ediv_le_natAbs x y;have a0:=rn hx y;have a1:=oB (x:=x) l;refine eN Kz ?_;delta Kz Q P qT qN Jn J0 J1 S bq nq qA qO qb C qp;have p:=wF (n+3) (a:=some x) (b:=some y) (bi hx)<|bi v;have d:∀ a b:Int,D.beq (I a) (.int .i64 b)=decide (a=b):=λa b=>cc;refine O p<|O aD<|J false<|O (z:=false) ?_<|J false ?_
 ·rw[zha H]
  refine O (ls (n+2) v) ?_;rw[d,zfa<|NJ u0];rfl
 rw[zha H]
 by_cases fast:(inR x/\x≠-9223372036854775808)/\inR y/\y≠-9223372036854775808
 ·obtain⟨⟨B,e⟩,R,E⟩:=fast;have k:cA (n+5) 202 [M x]=some (.tup [I x,.bool true]):=by
   rcases wI (n+1) hx with⟨_,h⟩|⟨h,_⟩
   ·exact h
   ·simp_all
  have m:cA (n+5) 202 [M y]=some (.tup [I y,.bool true]):=by
   rcases wI (n+1) v with⟨_,h⟩|⟨h,_⟩
   ·exact h
   ·simp_all
  simp[inR] at B R;have i:inR (x/y):=by simp[inR];omega
  have g:inR (x%y):=by simp[inR];omega
  refine O (z:=(0,[M<|x/y,M<|x%y])) ?_ rfl;refine O k<|J (I x)<|J (.bool true)<|J true<|O (z:=true) ?_<|J true ?_
  ·rw[zma rfl,d,zfa e];rfl
  rw[zma rfl];refine O m<|J (I y)<|J (.bool true)<|J true<|O (z:=true) ?_<|J true ?_
  ·rw[zma rfl,d,zfa E];rfl
  rw[zma rfl];have N:inR (x.tdiv y):=by
   have:(x.tdiv y).natAbs<=x.natAbs:=by rw[Int.natAbs_tdiv];exact zgc _ _
   grind [inR]
  refine O (uN u0 N)<|O (rP u0)<|O (z:=(0,[I<|x/y,I<|x%y])) ?_<|O (oE (n+3) i)<|O (oE (n+3) g) rfl
  refine O ac ?_;rw[d];rcases NW (x:=x) l with⟨h0,w,f,A⟩|⟨h0,w,f,A⟩|⟨h0,w,f,A⟩
  ·rw[w,f];refine O (z:=false) ?_<|O ac rfl;by_cases hz:x.tmod y=0
   ·simp_all
   ·rw[zfa hz];refine fr<|O ag<|O ag ?_;rw[zfa u0,zfa u0];rfl
  ·rw[f,A,w];exact J false<|O ac rfl
  ·rw[zfa<|show ¬ x.tmod y=0 by omega]
   refine O (z:=true) (fr<|O ag<|O ag ?_)<|O ac ?_
   ·rw[zka u0,zfa u0];rfl
   ·rw[f] at i ⊢;rw[A] at g ⊢;exact fr<|O (bP i)<|O (az g) rfl
 ·refine O (z:=(1,[.st [.bool false,.bool false,aw aY],.st [.bool false,.bool false,aw aY]])) ?_ ?_
  ·rcases wI (n+1) hx with⟨B,h⟩|⟨B,h⟩
   ·by_cases e:x=-9223372036854775808
    ·refine O h<|J (I x)<|J (.bool true)<|J true<|O (z:=false) ?_<|J false rfl;rw[zma rfl,d,zka e];rfl
    ·refine O h<|J (I x)<|J (.bool true)<|J true<|O (z:=true) ?_<|J true ?_
     ·rw[zma rfl,d,zfa e];rfl
     rw[zma rfl];rcases wI (n+1) v with⟨R,f⟩|⟨R,f⟩
     ·simp_all
     ·exact O f<|J (I 0)<|J (.bool false)<|J false<|J false<|J false rfl
   ·exact O h<|J (I 0)<|J (.bool false)<|J false<|J false<|J false rfl
  rw[zha H]
  have u:=aE.1 hx;have o:=aE.1 v;have s:x.natAbs/y.natAbs<eM:=zLa (zgc _ _) u;have j:x.natAbs%y.natAbs<eM:=znc (zWa _ u0) o
  refine O (jP x)<|O (jP y)<|O (UQ (n+1) u o u0)<|J (LM<|x.natAbs/y.natAbs)<|J (LM<|x.natAbs%y.natAbs)<|O (dD x)<|O (dD y) ?_
  have F:(!(D.beq (.bool<|decide (x<0))<|.bool<|decide (y<0)))=decide (x<0):=by grind [D.beq]
  rw[F,ja,ln j iS];refine O (wE (n+4) _ s) ?_;have c:∀ X:Nat,(X:Int)=x%y->X<eM->cA (n+5) 116 [.bool<|decide (y<0),LM X]=some (M<|x%y):=λX hQ L=>by rw[wE (n+4) _ L,zfa (show ¬ y<0 by omega),show sgn false X=(X:Int) from rfl,hQ]
  rcases M8 (x:=x) l with⟨e0,e1,e2⟩|⟨e0,e1,e2,e3⟩|⟨e0,e1,e2,e3⟩
  ·refine O (z:=(0,[LM<|x.natAbs%y.natAbs,M<|x/y])) ?_<|O (dD y)<|O (c _ e2.symm j) rfl;have t:sgn (decide (x<0)) (x.natAbs/y.natAbs)=x/y:=by unfold sgn;rw[zfa u0];simp[e1]
   rw[t];refine J (!decide (x.natAbs%y.natAbs=0))<|O (z:=false) ?_<|J false rfl;cases (!decide (x.natAbs%y.natAbs=0))
   ·rfl
   ·refine fr<|O (dD x)<|O (dD y) ?_;rw[F,zfa u0];rfl
  ·refine O (z:=(0,[LM<|x.natAbs%y.natAbs,M<|x/y])) ?_<|O (dD y)<|O (c _ (by rw[e1,e3];rfl) j) rfl
   have t:sgn (decide (x<0)) (x.natAbs/y.natAbs)=x/y:=by unfold sgn;rw[zka e0];simp[e2]
   rw[t,zka e1];exact J false<|J false<|J false rfl
  ·have G:=zWa x.natAbs<|show 0<y.natAbs by omega
   refine O (z:=(0,[LM<|y.natAbs-x.natAbs%y.natAbs,M<|x/y])) ?_<|O (dD y)<|O (c _ e3.symm u0) rfl
   have t:sgn (decide (x<0)) (x.natAbs/y.natAbs)=-((x.natAbs/y.natAbs:Nat):Int):=by unfold sgn;rw[zka e0];rfl
   rw[t,zfa<|show ¬ x.natAbs%y.natAbs=0 by omega]
   refine J true<|O (z:=true) ?_<|J true<|fr ?_
   ·refine fr<|O (dD x)<|O (dD y) ?_;rw[F,zka e0];rfl
   ·have i1:=br<|bX 1;have r:In (-((x.natAbs/y.natAbs:Nat):Int)):=by rw[aE,zJb,zia];exact s
    have q:cA (n+5) 203 [M<|-((x.natAbs/y.natAbs:Nat):Int),M 1]=some (M<|x/y):=by
     refine eN KD ?_;unfold KD;have hm:=br<|bX<|-1;refine O (H1 (n+1) i1)<|O (rT n r hm (by rw[show -((x.natAbs/y.natAbs:Nat):Int)+-1=x/y by rw[e2];rfl];exact a0)) ?_
     grind
    exact O (oE (n+3)<|bX 1)<|O q<|O (jP y)<|O (UO (n+4) o<|zJc G) rfl
def nc(n:Nat){x:Int}(hx:In x)(b:In y)(a:0<y):cA (n+7) 132 [M x,M y]=some (M<|x/y):=by refine eN Kw ?_;unfold Kw;exact O (QZ n hx b a)<|J (M<|x/y)<|J (M<|x%y) rfl
def y7(n:Nat){x:Int}(hx:In x)(b:In y)(a:0<y):cA (n+7) 137 [M x,M y]=some (M<|x%y):=by refine eN SK ?_;unfold SK;exact O (QZ n hx b a)<|J (M<|x/y)<|J (M<|x%y) rfl
end
section
variable{a c y:Int}
def xo{α:Type}{A B y:α}(h:B=y):(if false=true then A else B)=y:=h
def tQ(a b c d:Int):Int:=bf (a*d)<|c*b
theorem zi(x y:Int):bf y x=-bf x y:=by grind [bf]
def Hj{x:Int}(h:x<y):bf x y=-1:=by unfold bf;rw[zma h]
def CQ{x:Int}(h:y<x):bf x y=1:=by unfold bf;rw[zha u0,zma h]
def CS(x y:Int):-1<=bf x y/\bf x y<=1:=by unfold bf;split<;>(try split)<;>omega
theorem CP{x:Int}:bf x y=0↔x=y:=by grind [bf]
def LL(t x y:Int):bf (t+x) (t+y)=bf x y:=by unfold bf;all_goals omega
theorem zS{b d:Int}(f:0<b)(e:0<d)(h:a/b<c/d):a*d<c*b:=by
 have e1:=Int.mul_ediv_add_emod a b;have e2:=Int.mul_ediv_add_emod c d;have r1:=oB (x:=a) f;have g:=oB (x:=c) e;generalize a/b=Q1 at *;generalize a%b=R1 at *;generalize c/d=Q2 at *;generalize c%d=R2 at *;have i:0<=(Q2-Q1-1)*(b*d):=zRb u0<|zTa<|zub f e
 have j:0<(b-R1)*d:=zub u0 e
 have k:0<=R2*b:=zRb g.1 u0
 subst e1 e2;grind
def Ph{b d:Int}(e:0<b)(f:0<d)(h:a/b≠c/d):bf (a/b) (c/d)=tQ a b c d:=by
 unfold tQ;rcases Int.lt_or_gt_of_ne h with h|h
 ·simp_all [Hj,zS]
 ·simp_all [CQ,zS]
theorem Pg{b d:Int}(h:a/b=c/d):tQ a b c d=tQ (a%b) b (c%d) d:=by have e1:=Int.mul_ediv_add_emod a b;have e2:=Int.mul_ediv_add_emod c d;unfold tQ;rw[<-LL (b*d*(a/b)) (a%b*d) (c%d*b)];all_goals grind
theorem IS(a b c d:Int):tQ b a d c=-tQ a b c d:=by grind [tQ,zi,Int.mul_comm]
def gW{x:Int}(h:0<x):sg x=1:=by unfold sg;rw[zha u0,zma h]
def LI{b d:Int}(e:0<b)(f:0<d)(g:0<=a)(i:0<=c)(h:a=0\/c=0):sg a-sg c=tQ a b c d:=by
 unfold tQ;rcases h with rfl|rfl
 ·rw[zCc];by_cases h0:c=0
  ·subst h0;rw[zCc];rfl
  ·rw[Hj<|zub u0 e,gW (x:=c) u0];rfl
 ·rw[zCc];by_cases h0:a=0
  ·subst h0;rw[zCc];rfl
  ·rw[CQ<|zub u0 f,gW (x:=a) u0];rfl
def CJ(z:Int)(m:Nat)(st:List D):Prop:=∃ s p d q e:Int,st=[I s,.st [M p,M d],.st [M q,M e]]/\(s=1\/s=-1)/\0<d/\0<e/\In p/\In d/\In q/\In e/\m=d.natAbs/\s*tQ p d q e=z
def Lb{s:Int}(a:s=1\/s=-1)(b:-1<=c/\c<=1):afA .mul (I s) (I c)=some (I<|s*c):=
 cL (by
      have:c=-1\/c=0\/c=1:=u0
      rcases a with rfl|rfl<;>rcases this with rfl|rfl|rfl<;>exact bX _)
theorem NK(x:Int):-1<=sg x/\sg x<=1:=by grind [sg]
def jN:Option Rat->Option Rat->Int
 | some x,some y=>tQ x.num x.den y.num y.den
 | none,none=>0
 | none,some _=>-1
 | some _,none=>1
def LH{x y:Rat}(hx:InR x)(a:InR y):CJ (jN (some x)<|some y) (x.den:Int).natAbs [I 1,B x,B y]:=
 ⟨1,x.num,x.den,y.num,y.den,rfl,.inl rfl,by have:=x.den_pos;omega,by have:=y.den_pos;omega,hx.1,hx.2,a.1,a.2,rfl,Int.one_mul _⟩
def Cz(a:Int):D.beq (I a) (.int .i64 0)=decide (a=0):=cc
theorem tM(n:Nat){a b:Option Rat}(N:OW a)(E:OW b):cA (n+1031) 73 [bI a,bI b]=some (I<|jN a b):=by
 refine eN F73 ?_;delta F73 Q P qT qN iL iR Jn J0 J1 bq nq qA qO C qn qt qy qz;refine O (iC n N)<|O (iC n E)<|O aD<|O ac ?_;cases a with
 | none=>
  cases b with
  | none=>exact J true (O ac rfl)
  | some y=>exact J false (O ac<|xo<|O aD<|O ac rfl)
 | some x=>
 cases b with
 | none=>exact J false (O ac<|xo<|O aD<|O ac<|xo<|O aD<|O ac rfl)
 | some y=>
 refine J false<|O ac<|xo<|O aD<|O ac<|xo<|O aD<|O ac<|xo ?_;have hx:=N.some;have H:=E.some;refine sK (CJ<|jN (some x)<|some y) _ _ (LH hx H)<|λm s G=>?_;obtain⟨s,p,d,q,e,rfl,F,c,f,o,id,r,j,rfl,t⟩:=G;have k:=rn o d;have l:=rn r e;have w:=KN (x:=p) id c;have it:=KN (x:=q) j f;have K:=oB (x:=p) c;have wt:=oB (x:=q) f;by_cases hne:p/d=q/e
 ·have h0:=CP.2 hne;have i:∀ {A:Option<|Sum (List D)<|Nat×List D} {B y},B=some y->(if(!(D.beq (I<|bf (p/d)<|q/e)<|.int .i64 0))=true then A else B)=some y:=λh=>by
   simp_all [Cz]
  rw[Pg hne] at t;by_cases hr:p%d=0\/q%e=0
  ·right;have g:=LI c f K.1 wt.1 hr;rw[<-g] at t;refine⟨(0,[I<|jN (some x)<|some y]),?_,rfl⟩;refine J (M p)<|J (M d)<|O (nc (n+1023) o id c)<|J (M q)<|J (M e)<|O (nc (n+1023) r j f)<|O (Ou (n+1026) k l)<|O ac<|i ?_;refine J (M d)<|J (M p)<|J (M d)<|O (y7 (n+1023) o id c)<|J (M e)<|J (M q)<|J (M e)<|O (y7 (n+1023) r j f) ?_;refine O (ls (n+1027) w)<|O (ls (n+1027) it)<|O ac<|O (z:=true) ?_<|O ac<|fr ?_
   ·rw[Cz,Cz];by_cases h1:p%d=0
    ·simp_all [zka,jV]
    ·rw[zfa (by rw[jV];exact h1),zka (by rw[jV];exact hr.resolve_left h1)];rfl
   ·have s1:=NK<|p%d;have s2:=NK<|q%e;have S:-1<=sg (p%d)-sg (q%e)/\sg (p%d)-sg (q%e)<=1:=by rw[g];exact CS _ _
    refine O (bP (by simp[inR];omega))<|O (Lb F S) ?_
    rw[t]
  ·left;have u:p%d≠0:=λh=>hr<|.inl h;have v:q%e≠0:=λh=>hr<|.inr h;refine⟨(p%d).natAbs,[I<|-s,.st [M d,M<|p%d],.st [M e,M<|q%e]],u0,?_,-s,d,p%d,e,q%e,rfl,u0,u0,u0,id,w,j,it,rfl,?_⟩
   ·refine J (M p)<|J (M d)<|O (nc (n+1023) o id c)<|J (M q)<|J (M e)<|O (nc (n+1023) r j f)<|O (Ou (n+1026) k l)<|O ac<|i ?_;refine J (M d)<|J (M p)<|J (M d)<|O (y7 (n+1023) o id c)<|J (M e)<|J (M q)<|J (M e)<|O (y7 (n+1023) r j f) ?_;refine O (ls (n+1027) w)<|O (ls (n+1027) it)<|O ac<|O (z:=false) ?_<|O ac ?_
    ·rw[Cz,Cz,zfa (by rw[jV];exact u),zfa (by rw[jV];exact v)];rfl
    ·exact xo<|O (ny (a:=s) (by simp[inR];omega)) rfl
   ·grind [IS,Int.neg_mul_neg]
 ·right;have h0:bf (p/d) (q/e)≠0:=λh=>hne<|CP.1 h;rw[<-Ph c f hne] at t;refine⟨(0,[I<|jN (some x)<|some y]),?_,rfl⟩;refine J (M p)<|J (M d)<|O (nc (n+1023) o id c)<|J (M q)<|J (M e)<|O (nc (n+1023) r j f)<|O (Ou (n+1026) k l)<|O ac ?_;rw[Cz,zfa h0];refine fr<|O (Lb F<|CS _ _) ?_;rw[t]
end
section
variable{u y:V}
def DS(z:Int):lQ (-z)=(lQ z).map (λx=>-x):=by simp_all [lQ,zJb]
theorem KV(x y:Rat):IB (-x) (-y)=Jm (IB x y):=by
 unfold IB;rw[Rat.neg_num,Rat.neg_num,Rat.neg_den,Rat.neg_den];simp[sQ,Int.neg_mul,DS];generalize lQ (x.num*_)=A;generalize lQ (y.num*_)=B;generalize lQ (_*(y.den:Int))=C;cases A with
 | none=>cases C<;>rfl
 | some a=>
 cases B with
 | none=>cases C<;>rfl
 | some b=>
 simp[Cy,zYb];rw[show -a+-b=-(a+b) by omega,DS]
 generalize lQ (a+b)=S;cases S with
 | none=>cases C<;>rfl
 | some t=>
 cases C with
 | none=>rfl
 | some c=>
 all_goals grind [nV,Jm,Rat.neg_divInt]
def ko(h:bd NB u):bd NB u.neg:=by simp[bd,V.neg,NB] at *;omega
structure PairOk(x y:V)(q r:Nat->Int)(l m:List V):Prop where
 pa:PoseOk x q
 pb:PoseOk y r
 la:∀ v∈l,bd 4096 v
 lb:∀ v∈m,bd 4096 v
 na:0<l.length
 nb:0<m.length
 ka:l.length<=100
 kb:m.length<=100
 ta:l.length<=10
 tb:m.length<=10
def VY(u x y:V)(q r:Nat->Int)(l m:List V):Option Rat:=IB (-(ef u.neg y r m))<|-(ef u x q l)
def acj(n:Nat){x:V}{q r:Nat->Int}{l m:List V}(h:PairOk x y q r l m)(c:bd NB u):cA (n+1033) 434 [X u,jK x q l,jK y r m]=some (bI<|VY u x y q r l m):=by
 refine GH TE ?_;unfold TE;have d:=od c h.pa h.la h.na;have e:=od (ko c) h.pb h.lb h.nb;refine O (Q8 (n+1031) c H)<|O (Lw (n+1) (ko c) h.pb h.lb h.nb h.kb)<|O (Lw (n+1) c h.pa h.la h.na h.ka) ?_
 refine O (y8 (n+1) (a:=some<|ef u.neg y r m) (b:=some<|ef u x q l) (aC e)<|aC d)<|O (Lu (n+1)<|rO _ _) ?_;unfold VY;rw[KV];rfl
end
def kB(k:Int)(v:V):Bool:=(List.range 3).all λt=>wi k<|aM v<|0+t
def As{k:Int}{v:V}(h:kB k v=true):bd (k-1) v:=by grind [kB,wi,List.range_succ,aM,bd]
def Wq{v:V}(h:kB 2305843009213693952 v=true):bd NB v:=As h
def Pa(u:V)(a:Option Rat)(x y:V)(q r:Nat->Int)(l m:List V):Bool:=
 kB 2305843009213693952 u&&(!(decide (u=V.zero))&&(a.isSome&&(decide (jN (some<|ef u x q l) a<=0)&&decide (jN (some<|-(ef u.neg y r m)) a ≥ 0))))
def Pm{x d:Rat}:jN (some x) (some<|-d)=-jN (some<|-x) (some d):=by simp[jN,tQ,Rat.neg_num,Rat.neg_den];grind [zi,bf,Int.neg_mul]
def Rh(u:V)(a:Option Rat):D:=.st [X u,bI a]
def X9(u:V)(a:Option Rat):D.get (Rh u a) [1,0,0]=some (.bool<|!a.isSome):=by cases a<;>rfl
def CA(u:V):D.beq (X u) (D.st [.int .i64 0,.int .i64 0,.int .i64 0])=decide (u=V.zero):=kV u V.zero
def XC(n:Nat){u x y:V}{a:Option Rat}(f:OW a){q r:Nat->Int}{l m:List V}(h:PairOk x y q r l m):cA (n+1034) 421 [Rh u a,cD x q,bo l,cD y r,bo m]=some (.bool<|Pa u a x y q r l m):=by
 refine Zi Tz ?_;delta Tz Q qC qT iL iR Jn J0 J3 S bq qO qc qe qf qh qi qj C qr qy;refine J (X u) ?_;refine q9 (r:=if kB 2305843009213693952 u then(1,[]) else(0,[.bool false])) (xB (m:=3) (λi=>wi 2305843009213693952<|aM u i) (λi hi=>?_) ?_ 3 0 rfl) ?_
 ·have g:=ai hi;refine O ag<|O ac<|au (by show(i:Int)<3;omega) ?_
  refine O g<|O (jn hi)<|O fD<|O ac ?_;generalize aM u i=x at *;by_cases h1:x ≥ 2305843009213693952
  ·have e:wi 2305843009213693952 x=false:=by simp[wi];omega
   rw[zka h1,e];exact J true<|O ac rfl
  ·rw[zfa h1];refine O (z:=decide (x<=-2305843009213693952)) (xo<|O gC ac)<|O ac ?_;by_cases h2:x<=-2305843009213693952
   ·simp_all [wi,zka]
   ·have e:wi 2305843009213693952 x=true:=by simp[wi];omega
    rw[zfa h2,e];exact xo<|O (av (a:=i) (b:=1) u0) rfl
 ·exact O ag<|O ac<|ay H rfl
 unfold Pa;by_cases hs:kB 2305843009213693952 u=true
 ·rw[hs,zma rfl,zha H,zPb]
  have c:=Wq hs;refine J (X u)<|O (z:=decide (u=V.zero)) (by rw[CA];exact ac) ?_
  by_cases hz:u=V.zero
  ·rw[zka hz];exact J true<|O ac rfl
  ·rw[zfa hz,zSb,zPb];refine O (z:=!a.isSome) (xo<|O (X9 u a) ac)<|O ac ?_;cases a with
   | none=>rfl
   | some d=>
    have o:=f.some;have j:=od c h.pa h.la h.na;have k:=od (ko c) h.pb h.lb h.nb;refine xo<|O (O6 (n+1029) h.pa h.la h.ka)<|J (X u)<|O (Lw (n+2) c h.pa h.la h.na h.ka)<|J (bI<|some d)<|O (tM (n+2) (a:=some<|ef u x q l) (aC j) f)<|O gC<|O ac ?_;rw[show(some d:Option Rat).isSome=true from rfl,zPb];refine O (z:=decide (jN (some<|ef u x q l) (some d)<=0)&&decide (jN (some<|-(ef u.neg y r m)) (some d) ≥ 0)) ?_ rfl;by_cases h1:jN (some<|ef u x q l) (some d)<=0
    ·rw[zka h1,zPb];refine fr<|O (O6 (n+1029) h.pb h.lb h.kb)<|J (X u)<|O (Q8 (n+1032) c H)<|O (Lw (n+2) (ko c) h.pb h.lb h.nb h.kb)<|J (bI<|some d)<|O (Lu (n+2) f)<|O (tM (n+2) (a:=some<|ef u.neg y r m) (aC k)<|H0 f) ?_
     refine O gC ?_;rw[show Jm (some d)=some (-d) from rfl,Pm];refine Eq.trans ac<|zEa some<|decide_eq_decide.2 ?_;omega
    ·grind
 ·simp_all
def pP(q:Nat->Int)(v:V):V:=⟨dX q v 0,dX q v 1,dX q v 2⟩
def W5(F:FL):Prop:=F.length<=3000000/\∀ f∈F,bd 549755813888 f.1.1/\(f.1.2).natAbs<=281474976710656
def abF{v:V}(h:bd 549755813888 v):bd 1099511627776 v:=by simp[bd] at *;omega
def G5{A B:Int}{v:V}(h:bd A v)(a:A<=B):bd B v:=by simp[bd] at *;omega
def I5{l:List V}(hl:∀ x∈l,bd 4096 x){m:V}{d:Int}(h:IsF (y l) l.length m d):bd 549755813888 m/\d.natAbs<=281474976710656:=by
 obtain⟨i,j,k,q,r,b,s,c,f⟩:=h.ex;have hi:=hl _<|dh<|show i<l.length by omega
 have n:=hl _<|dh<|show j<l.length by omega
 have o:=hl _<|dh b;have w1:=lr n hi;have p:=lr o hi;have hp:=fP<|kc w1 p;have hm:bd 134217728 m:=by
  rcases c with rfl|rfl
  ·exact hp
  ·exact tJ hp
 refine⟨G5 hm H,?_⟩
 have a:=Ld hm hi;rw[f];have e:(3:Int)*(134217728*4096)=1649267441664:=rfl;rw[e] at a;have g:-1649267441664<=V.dot m (y l i)/\V.dot m (y l i)<=1649267441664:=a;omega
def Q4(n:Nat)(l:List V){m:Nat}(hm:m<=100):∃ v:Bool,cA (n+10) 431 [bo l,I (m:Int)]=some (.bool v)/\(v=true->l.length<=m/\(∀ x∈l,bd 4096 x)/\Hul l):=by
 suffices h:∃ y,cA (n+10) 431 [bo l,I (m:Int)]=some y/\∃ v:Bool,y=.bool v/\(v=true->l.length<=m/\(∀ x∈l,bd 4096 x)/\Hul l) by grind
 rw[adr];delta TC qC qY qP iL iR Jn J0 J3 S bq jl qO qc qf qh qi qj C qm qr qy;refine ao (z:=bc l) rfl (ao (z:=l.map X) rfl (ao bR<|ao ac ?_));by_cases hlen:l.length>m
 ·exact jc (by rw[aN];omega) ⟨.bool false,rfl,false,rfl,λh=>by cases h⟩
 refine Bf (by rw[aN];omega) ?_
 refine nU (λi s=>s=[I (i:Int)]/\∀ x∈l.take i,bd 4096 x) l.length 0 (zoa _) ⟨rfl,j2⟩ (λi hi s c=>?_)<|λs c=>?_
 ·obtain⟨rfl,c⟩:=c;refine ao (z:=bc l) rfl (ao (z:=l.map X) rfl (ao ag<|ao ac<|jc (by show(i:Int)<((l.map X).length:Int);rw[aN];omega) ?_))
  refine nU (λk s=>s=[I (k:Int)]/\∀ t,t<k->aM l[i] t<=4096/\-4096<=aM l[i] t) 3 0 (zoa _) ⟨rfl,λt h=>u0⟩ (λk o s d=>?_)<|λs d=>?_
  ·obtain⟨rfl,d⟩:=d;have r:(D.get (bo l) [0]).bind (λq=>(D.asSl q).bind λj=>(D.idx (I (i:Int)) j.length).bind λp=>j[p]?)=some (X l[i]):=
    J (bc l) (J (l.map X)<|O (z:=i) (by rw[aN];exact ai hi)<|Fu hi)
   refine ao ag<|ao ac<|jc (by show(k:Int)<3;omega) ?_
   refine ao (z:=bc l) rfl (ao (z:=l.map X) rfl (ao (z:=i) (by rw[aN];exact ai hi)<|ao (Fu hi)<|ao (z:=k) (ai o)<|ao (jn o)<|ao bR<|ao ac ?_))
   by_cases f:aM l[i] k>4096
   ·refine ao (z:=true) (by rw[zka f];rfl)<|ao (z:=true) rfl ⟨.inr (0,[.bool false]),rfl,.inr (0,[.bool false]),rfl,.bool false,rfl,false,rfl,λh=>by cases h⟩
   ·refine ao (z:=decide (aM l[i] k < -4096)) ?_<|ao ac ?_
    ·rw[zfa f,zha H]
     exact J (bc l)<|J (l.map X)<|O (z:=i) (by rw[aN];exact ai hi)<|O (Fu hi)<|O (z:=k) (ai o)<|O (jn o)<|O ag ac
    ·by_cases g:aM l[i] k < -4096
     ·exact jc g ⟨.inr (0,[.bool false]),rfl,.inr (0,[.bool false]),rfl,.bool false,rfl,false,rfl,λh=>by cases h⟩
     ·refine Bf g ⟨.inl [I ((k+1:Nat):Int)],O (av (a:=k) (b:=1) u0) rfl,rfl,λt u=>?_⟩
      by_cases e:t=k
      ·subst e;omega
      ·exact d t u0
  ·obtain⟨rfl,d⟩:=d;refine⟨.inr (1,[]),O ag<|O ac<|ay H rfl,.inl [I ((i+1:Nat):Int)],?_,rfl,?_⟩
   ·rw[zha H]
    exact O (av (a:=i) (b:=1) u0) rfl
   ·rw[zAa hi];intro x hx;rcases zJa.1 hx with hx|hx
    ·exact c x hx
    ·rw[zSa.1 hx];exact Hi d
 ·obtain⟨rfl,c⟩:=c;rw[zdb] at c;refine⟨.inr (1,[]),J (bc l) (J (l.map X)<|O ag<|O ac<|ay (by show ¬ ((l.length:Int)<((l.map X).length:Int));rw[aN];omega) rfl),?_⟩
  rcases abZ n (l:=l) u0 with⟨e,f,g⟩|⟨f,g⟩
  ·refine⟨.bool false,O f ?_,false,rfl,λh=>by cases h⟩
   rw[Cz,zfa g]
  ·refine⟨.bool true,O f ?_,true,rfl,λ_=>⟨u0,c,g⟩⟩
   rw[Cz];rfl
def aci(n:Nat)(x:V)(q:Nat->Int):∃ v:Bool,cA (n+4) 427 [cD x q]=some (.bool v)/\(v=true->PoseOk x q):=by
 obtain⟨v,d,f⟩:=ab9 n q;refine⟨kB 140737488355328 x&&v,?_,λh=>by simp[Y] at h;exact⟨As h.1,HO (f h.2).1,(f h.2).2⟩⟩
 rw[adq];delta TA Q qC iL iR Jn J0 J3 S qO qc qh qi qj C qr qy;refine q9 (r:=if kB 140737488355328 x then(1,[]) else(0,[.bool false])) (xB (m:=3) (λi=>wi 140737488355328<|aM x i) (λi hi=>?_) ?_ 3 0 rfl) ?_
 ·have c:=ai hi;refine O ag<|O ac<|au (by show(i:Int)<3;omega) ?_
  have hx:=sB (v:=x) hi;refine O c<|O hx<|O fD<|O ac ?_;generalize aM x i=y at *;by_cases d:y ≥ 140737488355328
  ·have e:wi 140737488355328 y=false:=by simp[wi];omega
   rw[zka d,e];exact J true<|O ac rfl
  ·rw[zfa d];refine O (z:=decide (y<=-140737488355328)) (xo<|O c<|O hx<|O gC ac)<|O ac ?_;by_cases f:y<=-140737488355328
   ·simp_all [wi,zka]
   ·have e:wi 140737488355328 y=true:=by simp[wi];omega
    rw[zfa f,e];exact xo<|O (av (a:=i) (b:=1) u0) rfl
 ·exact O ag<|O ac<|ay H rfl
 ·cases kB 140737488355328 x with
  | false=>rfl
  | true=>exact O d rfl
section
variable{u y:V}{q:Nat->Int}{a c:Nat}{l:List V}
def Sz(a b:Nat)(x:Rat):Prop:=x.num.natAbs<=2^a/\x.den<=2^b
def Sz.up{b d:Nat}{x:Rat}(h:Sz a b x)(e:a<=c)(f:b<=d):Sz c d x:=
 ⟨zva h.1<|zpa H e,zva h.2<|zpa H f⟩
theorem Sz.neg{b:Nat}{x:Rat}(h:Sz a b x):Sz a b (-x):=⟨by rw[Rat.neg_num,zJb];exact h.1,h.2⟩
def tG{a b:Nat}{x d:Int}(hx:x.natAbs<=2^a)(f:d.natAbs<=2^b)(h0:d≠0):Sz a b (Rat.divInt x d):=by obtain⟨c,e⟩:=gE x h0;exact⟨zva c hx,zva e f⟩
theorem Sz.add{b d k:Nat}{x y:Rat}(hx:Sz a b x)(f:Sz c d y)(g:a+d<k)(h:c+b<k):Sz k (b+d) (x+y):=by
 have e:x+y=Rat.divInt (x.num*(y.den:Int)+y.num*(x.den:Int)) ((x.den:Int)*y.den):=by
  conv=>lhs;rw[<-z7a x,<-z7a y]
  grind [Rat.divInt_add_divInt,bQ]
 rw[e];refine tG ?_ ?_<|zLc (bQ x)<|bQ y
 ·have m1:=ca (k:=k-1) hx.1 f.2 u0
  have m2:=ca (k:=k-1) f.1 hx.2 u0
  have:=zUb (x.num*(y.den:Int))<|y.num*(x.den:Int);rw[zwa,zwa,zia,zia] at this;have e2:2^k=2^(k-1)+2^(k-1):=by rw[<-Nat.two_mul,<-Nat.pow_succ'];congr 1;omega
  omega
 ·rw[<-z1a,zia];exact ca hx.2 f.2<|zja _
def Sz.mul{b d:Nat}{x y:Rat}(hx:Sz a b x)(f:Sz c d y):Sz (a+c) (b+d) (x*y):=by
 have e:x*y=Rat.divInt (x.num*y.num) ((x.den:Int)*y.den):=by
  conv=>lhs;rw[<-z7a x,<-z7a y]
  rw[z1b]
 rw[e];refine tG ?_ ?_<|zLc (bQ x)<|bQ y
 ·rw[zwa];exact ca hx.1 f.1<|zja _
 ·rw[<-z1a,zia];exact ca hx.2 f.2<|zja _
def HR{x k:Nat}(h:x<=2^k)(a:k<=511):x<eM:=by
 have:=aE.1<|bD (x:=(x:Int)) a (by rw[zia];exact h)
 rwa [zia] at this
theorem Sz.InR{b:Nat}{x:Rat}(h:Sz a b x)(c:a<=511)(d:b<=511):InR x:=⟨bD c h.1,bD d (by rw[zia];exact h.2)⟩
theorem Sz.addW{b d:Nat}{x y:Rat}(hx:Sz a b x)(e:Sz c d y)(g:a+d<511)(h:c+b<511)(f:b+d<=511):addW (some x) (some y)=some (x+y):=by
 refine ji ⟨?_,?_⟩
 ·obtain⟨k,i⟩:∃ k,k=510:=⟨_,rfl⟩;have m1:=ca (k:=k) hx.1 e.2 u0
  have m2:=ca (k:=k) e.1 hx.2 u0
  refine HR (k:=k+1) ?_ u0
  omega
 ·exact HR (ca hx.2 e.2<|zja _) f
theorem Sz.mulW{b d:Nat}{x y:Rat}(hx:Sz a b x)(e:Sz c d y)(f:a+c<=511)(g:b+d<=511):mulW (some x) (some y)=some (x*y):=
 nY ⟨HR (ca hx.1 e.1<|zja _) f,HR (ca hx.2 e.2<|zja _) g⟩
theorem vK{v:V}(a:bd NB u)(b:bd PB v):(V.dot u v).natAbs<=2^125:=by obtain⟨c,d,e⟩:=zn a b;grind [V.dot]
theorem HY{L:List V}(a:bd NB u)(hL:∀ v∈L,bd PB v):∀ k,k<L.length->(HX u L k).natAbs<=2^125
 | 0,h=>vK a (hL _<|lz h)
 | k+1,h=>by
  unfold HX;split
  ·exact vK a<|hL _<|lz h
  ·exact HY a hL k u0
def Ih{x:V}(h:PoseOk x q):(dV q).natAbs<=2^14/\dV q≠0:=by have:=td h.hq h.h0;omega
def oc{x:V}(a:bd NB u)(h:PoseOk x q)(hl:∀ v∈l,bd 4096 v)(h0:0<l.length):Sz 125 14 (ef u x q l):=
 tG (HY a (BM h hl) _ (by simp;omega)) (Ih h).1 (Ih h).2
def pL(u x y:V)(q r:Nat->Int)(l m:List V):Rat:=-(ef u.neg y r m)+-(ef u x q l)
def MO{x:V}{r:Nat->Int}{m:List V}(h:PairOk x y q r l m)(a:bd NB u):VY u x y q r l m=some (pL u x y q r l m):=
 (oc (ko a) h.pb h.lb h.nb).neg.addW (oc a h.pa h.la h.na).neg H H H
def uv{x:V}{r:Nat->Int}{m:List V}(h:PairOk x y q r l m)(a:bd NB u):Sz 140 28 (pL u x y q r l m):=
 (oc (ko a) h.pb h.lb h.nb).neg.add (oc a h.pa h.la h.na).neg H H
def EU(u x y:V)(q r:Nat->Int)(l m:List V):Rat:=pL u x y q r l m*pL u x y q r l m*Rat.divInt 1 (V.dot u u)
def GU(a:bd NB u):bd PB u:=by simp[bd,NB,PB] at *;omega
def Ht(h:u≠V.zero):0<V.dot u u:=by
 have key:∀ a:Int,0<=a*a/\(a≠0->0<a*a):=λa=>by
  rcases zKb a 0 with k|k|k
  ·have:=zZb k k;omega
  ·subst k;simp
  ·have:=zub k k;omega
 obtain⟨x,y,z⟩:=u;have hx:=key x;have b:=key y;have c:=key z;show 0<x*x+y*y+z*z;by_cases h1:x=0
 ·by_cases h2:y=0
  ·by_cases h3:z=0
   ·subst h1 h2 h3;exact z8a rfl h
   ·omega
  ·omega
 ·omega
def div_one(x:Int):Rat.divInt x 1=(x:Rat):=by
 have h:=z7a (x:Rat)
 rwa [Rat.num_intCast,Rat.den_intCast] at h
def LX{a:Option Rat}{x:Int}(h:x≠0):wY a (some (x:Rat))=mulW a (some<|Rat.divInt 1 x):=by simp_all [wY,Option.elim,Rat.num_intCast,Rat.den_intCast,BB]
def adw{x:V}{r:Nat->Int}{m:List V}(h:PairOk x y q r l m)(a:bd NB u)(h0:u≠V.zero) :
  mulW (some<|pL u x y q r l m) (some<|pL u x y q r l m)=some (pL u x y q r l m*pL u x y q r l m)/\wY (some<|pL u x y q r l m*pL u x y q r l m) (some (V.dot u u:Rat))=some (EU u x y q r l m):=by
 have s:=uv h a;have c:=Ht h0;refine⟨s.mulW s H H,?_⟩
 rw[LX u0]
 have b:Sz 0 125 (Rat.divInt 1<|V.dot u u):=tG H (vK a<|GU a) u0
 exact(s.mul s).mulW b H H
def Oa{x:V}{r:Nat->Int}{m:List V}(h:PairOk x y q r l m)(c:bd NB u)(h0:u≠V.zero):Sz 280 181 (EU u x y q r l m):=
 ((uv h c).mul<|uv h c).mul (tG (a:=0) (b:=125) H (vK c<|GU c) (by have:=Ht h0;omega))
def Y9(u x y:V)(q r:Nat->Int)(l m:List V):Rat:=ef u x q l+pL u x y q r l m*Rat.divInt 1 2
def GV:Sz 0 1 (Rat.divInt 1 2):=tG H H H
def acV{x:V}{r:Nat->Int}{m:List V}(h:PairOk x y q r l m)(a:bd NB u) :
  addW (some<|ef u x q l) (wY (some<|pL u x y q r l m)<|some ((2:Int):Rat))=some (Y9 u x y q r l m):=by
 have e:wY (some<|pL u x y q r l m) (some ((2:Int):Rat))=some (pL u x y q r l m*Rat.divInt 1 2):=by
  rw[LX H]
  exact(uv h a).mulW GV H H
 rw[e];exact(oc a h.pa h.la h.na).addW ((uv h a).mul GV) H H H
theorem Hk(x y:Rat):jN (some x) (some y)=if x<y then -1 else if y<x then 1 else 0:=by
 show bf (x.num*(y.den:Int)) (y.num*(x.den:Int))=_
 simp_all [bf,gt_iff_lt,Rat.lt_iff]
theorem tR(x y:Rat):decide (jN (some x) (some y)>0)=decide (y<x):=by all_goals grind [Hk]
def LK(x y:Rat):decide (jN (some x) (some y)<=0)=!decide (y<x):=by rw[<-tR,zBc];simp
def Gt(x:Rat):decide (RL (some x)<0)=decide (x<0):=by
 have h:x<0↔x.num<0:=by rw[Rat.lt_iff];simp
 rw[zBc,zea,zea,h];exact An
theorem EK(h:pq q){k:Nat}{v:V}(d:bd (k:Int) v):bd ((49152*k:Nat):Int) (pP q v):=by
 have key:∀ (i:Nat) (x:Int),(-(k:Int)<=x/\x<=k)->(ft q i*x).natAbs<=16384*k:=λi x hx=>by have:=jS h i;rw[zwa];exact zHa u0 u0
 have:∀ i,(dX q v i).natAbs<=49152*k:=λi=>by have a:=key (3*i) _ d.1;have b:=key (3*i+1) _ d.2.1;have c:=key (3*i+2) _ d.2.2;grind [dX]
 grind [bd,pP]
end
section
variable{u:V}
def BG{a b:Int}(c:a.natAbs<=402653184)(d:b.natAbs<=402653184):(a*b).natAbs<=162129586585337856:=by rw[zwa];exact zHa c d
theorem zl{v:V}(f:bd 402653184 u)(g:bd 402653184 v):bd NB (V.cross u v):=by obtain⟨a,b,c⟩:=pV (k:=402653184) f;obtain⟨v1,d,e⟩:=pV (k:=402653184) g;have a1:=BG b e;have a2:=BG c d;have h:=BG c v1;have i:=BG a e;have j:=BG a d;have l:=BG b v1;unfold bd NB;grind [V.cross]
def O5(n:Nat){x y:Int}(hx:In x)(b:In y)(h:In<|x-y):cA (n+5) 203 [M x,M y]=some (M<|x-y):=by
 refine eN KD ?_;unfold KD;refine O (WR (n+1) (a:=some y)<|bi b)<|O (z:=M<|x-y) ?_ rfl;have:=rT n (x:=x) (y:=-y) hx (aE.2 (by rw[zJb];exact aE.1 b)) (by rw[<-Int.sub_eq_add_neg];exact h)
 rwa [<-Int.sub_eq_add_neg] at this
def acm(n:Nat){v:V}(F:bd 402653184 u)(G:bd 402653184 v):cA (n+7) 450 [X u,X v]=some (iD<|V.cross u v):=by
 obtain⟨o,p,q⟩:=pV (k:=402653184) F;obtain⟨v1,s,t⟩:=pV (k:=402653184) G;have e:∀ {x:Int},x.natAbs<=402653184->inR x:=λ{x} h=>by simp[inR];omega
 have m:∀ {a b:Int},a.natAbs<=402653184->b.natAbs<=402653184->In (a*b):=λf g=>by have:=BG f g;exact br (by simp[inR];omega)
 have is:∀ {a b c d:Int},a.natAbs<=402653184->b.natAbs<=402653184->c.natAbs<=402653184->d.natAbs<=402653184->In (a*b-c*d):=λf g j l=>by have:=BG f g;have:=BG j l;exact br (by simp[inR];omega)
 have i:∀ {a b c d:Int},a.natAbs<=402653184->b.natAbs<=402653184->c.natAbs<=402653184->d.natAbs<=402653184->cA (n+5) 61 [M a,M b]=some (M<|a*b)/\cA (n+5) 61 [M c,M d]=some (M<|c*d)/\cA (n+5) 203 [M<|a*b,M<|c*d]=some (M<|a*b-c*d):=λf g j l=> ⟨jD (n+2) (br<|e f) (br<|e g)<|m f g,jD (n+2) (br<|e j) (br<|e l)<|m j l,O5 n (m f g) (m j l)<|is f g j l⟩
 refine eN TJ ?_;unfold TJ;refine O (O2 (n+3) (e o) (e p)<|e q)<|O (O2 (n+3) (e v1) (e s)<|e t)<|O (z:=iD<|V.cross u v) ?_ rfl;rw[ads];delta TL P qJ iL iR J0 J2 J3 S qc qi qj C qs qy;obtain⟨Z,E⟩:∃ Z,(D.st [D.bool false,D.bool false,aw aY])=Z:=⟨_,rfl⟩;rw[E];obtain⟨a1,a2,w⟩:=i p t q s;obtain⟨b1,b2,A⟩:=i q v1 o t;obtain⟨B,d2,K⟩:=i o s p v1;refine aK (s':=[I 1,.st [M (V.cross u v).x,Z,Z]]) ?_<|aK (s':=[I 2,.st [M (V.cross u v).x,M (V.cross u v).y,Z]]) ?_<|aK (s':=[I 3,iD<|V.cross u v]) ?_<|dT (r:=(0,[iD<|V.cross u v])) ?_ rfl
 ·refine J (.bool true)<|J true<|fr<|J (I 1)<|J (I 1)<|J (I 2)<|J (I 2) ?_;refine J 1<|J (M u.y)<|J 2<|J (M v.z)<|O a1 ?_;refine J 2<|J (M u.z)<|J 1<|J (M v.y)<|O a2<|O w ?_;exact J 0<|J (.st [M (V.cross u v).x,Z,Z])<|J (I 1) rfl
 ·refine J (.bool true)<|J true<|fr<|J (I 2)<|J (I 2)<|J (I 3)<|J (I 0) ?_;refine J 2<|J (M u.z)<|J 0<|J (M v.x)<|O b1 ?_;refine J 0<|J (M u.x)<|J 2<|J (M v.z)<|O b2<|O A ?_;exact J 1<|J (.st [M (V.cross u v).x,M (V.cross u v).y,Z])<|J (I 2) rfl
 ·refine J (.bool true)<|J true<|fr<|J (I 3)<|J (I 0)<|J (I 4)<|J (I 1) ?_;refine J 0<|J (M u.x)<|J 1<|J (M v.y)<|O B ?_;refine J 1<|J (M u.y)<|J 0<|J (M v.x)<|O d2<|O K ?_;exact J 2<|J (iD<|V.cross u v)<|J (I 3) rfl
 ·exact J (.bool false)<|J false rfl
def ack(n:Nat){v:V}(a:inR v.x)(b:inR v.y)(c:inR v.z):cA (n+3) 448 [X v]=some (iD v):=by refine fN TH ?_;delta TH Q C;exact O (qF v)<|O (oE n a)<|O (qH v)<|O (oE n b)<|O (qK v)<|O (oE n c) rfl
theorem XD(n:Nat){v:V}(w:bd NB v):cA (n+1030) 447 [iD v]=some (.tup [X<|aQ v,I<|if v=V.zero then 31 else 0]):=by
 obtain⟨G,R,a0⟩:=Fz w;have i0:=br<|bX 0;have m:=br G;have p:=br R;have q:=br a0;have L:∀ {x y:Int},In x->In (Nat.gcd x.natAbs y.natAbs:Nat)\/x=0:=λ{x y} hx=>by
  by_cases h:x=0
  ·omega
  ·left;rw[aE,zia];exact zLa (zfd u0<|zhb _ _)<|aE.1 hx
 have c:=wH n i0 m;rw[show(Nat.gcd (0:Int).natAbs v.x.natAbs)=v.x.natAbs by simp] at c
 have o:In (v.x.natAbs:Nat):=i4
 have d:=wH n o p;rw[show(Nat.gcd ((v.x.natAbs:Nat):Int).natAbs v.y.natAbs)=Nat.gcd v.x.natAbs v.y.natAbs by simp] at d
 have S:In (Nat.gcd v.x.natAbs v.y.natAbs:Nat):=by
  rcases L m (y:=v.y) with h|h
  ·exact h
  ·rw[h,aE,zia];simpa using aE.1 p
 have e:=wH n S q;rw[show(Nat.gcd ((Nat.gcd v.x.natAbs v.y.natAbs:Nat):Int).natAbs v.z.natAbs)=bk v by simp[bk]] at e
 have g:In (bk v:Nat):=by
  by_cases h:Nat.gcd v.x.natAbs v.y.natAbs=0
  ·unfold bk;rw[h,aE,zia];simpa using aE.1 q
  ·rw[aE,zia];exact zLa (zfd u0<|zhb _ _) (by simpa using aE.1 S)
 refine fN TG ?_;delta TG Q qN iL iR Jn J0 J3 bq qO qc qf qh qi qj C qo qp qs qt qy;refine O (oE (n+1027)<|bX 0) ?_;refine aK (s':=[I 1,M (v.x.natAbs:Nat)]) (O ag<|O ac<|au H<|O MA<|J (M v.x)<|O c<|O (az Rr) rfl) ?_
 refine aK (s':=[I 2,M (Nat.gcd v.x.natAbs v.y.natAbs:Nat)]) (O ag<|O ac<|au H<|O I6<|J (M v.y)<|O d<|O (az yA) rfl) ?_
 refine aK (s':=[I 3,M (bk v:Nat)]) (O ag<|O ac<|au H<|O MB<|J (M v.z)<|O e<|O (az Rs) rfl) ?_
 refine dT (r:=(0,[M (bk v:Nat)])) (O ag<|O ac<|ay H rfl) ?_
 refine J (.bool false)<|O ac<|xo<|O (ls (n+1026) g) ?_;by_cases hz:bk v=0
 ·have f:v=V.zero:=by
   by_cases h:v=V.zero
   ·exact h
   ·have:=kh h;omega
  rw[hz,zma f,f];exact J true<|fr rfl
 ·rw[zha (λh=>hz (by rw[h];rfl)),gW<|show(0:Int)<bk v by omega]
  refine J false<|xo ?_;have a:(bk v:Int)≠0:=u0
  have a1:=vw (n+1023) m g a<|zo v;have N:=vw (n+1023) p g a<|zp v;have P:=vw (n+1023) q g a<|zq v;obtain⟨p1,E,F⟩:=fP w;have sm:∀ {x:Int},-NB<=x/\x<=NB->cA (n+1029) 202 [M x]=some (.tup [I x,.bool true]):=λ{x} h=>by
   have u:inR x:=by simp[NB] at h;simp[inR];omega
   rcases wI (n+1025) (br u) with⟨_,h⟩|⟨h,_⟩
   ·exact h
   ·exact z8a u h
  have b:∀ {x:Int} {α:Type} {A B y:Option α},-NB<=x/\x<=NB->B=y->((if(false:Bool)=true then some true else (afA .geq (I x)<|D.int .i64 2305843009213693952).bind λs=>D.truth s).bind λi=>(D.truth<|D.bool i).bind λj=>Option.bind (if j=true then some true else (afA .leq (I x)<|D.int .i64<|-2305843009213693952).bind λt=>D.truth t) λk=>(D.truth<|D.bool k).bind λl=>if l=true then A else B)=y:=λ{x α A B y} h K=>by
   simp[NB] at h;subst K;rw[zha H,show afA .geq (I x) (D.int .i64 2305843009213693952)=some (.bool<|decide (x ≥ 2305843009213693952)) from fD,show afA .leq (I x) (D.int .i64<|-2305843009213693952)=some (.bool<|decide (x<=-2305843009213693952)) from gC,zfa u0,zfa u0]
   rfl
  refine aK (s':=[I 1,X V.zero,X ⟨v.x/(bk v:Nat),0,0⟩]) ?_<|aK (s':=[I 2,X V.zero,X ⟨v.x/(bk v:Nat),v.y/(bk v:Nat),0⟩]) ?_<|aK (s':=[I 3,X V.zero,X<|aQ v]) ?_<|dT (r:=(1,[X V.zero,X<|aQ v])) (O ag<|O ac<|ay H rfl) rfl
  ·refine O ag<|O ac<|au H<|O MA<|J (M v.x)<|O a1<|O (sm p1)<|J (I<|v.x/(bk v:Nat))<|J (.bool true)<|O aD<|O ac<|b p1 ?_
   exact O MA<|J (X ⟨v.x/(bk v:Nat),0,0⟩)<|O (az Rr) rfl
  ·refine O ag<|O ac<|au H<|O I6<|J (M v.y)<|O N<|O (sm E)<|J (I<|v.y/(bk v:Nat))<|J (.bool true)<|O aD<|O ac<|b E ?_
   exact O I6<|J (X ⟨v.x/(bk v:Nat),v.y/(bk v:Nat),0⟩)<|O (az yA) rfl
  ·refine O ag<|O ac<|au H<|O MB<|J (M v.z)<|O P<|O (sm F)<|J (I<|v.z/(bk v:Nat))<|J (.bool true)<|O aD<|O ac<|b F ?_
   exact O MB<|J (X<|aQ v)<|O (az Rs) rfl
end
end Sy
end
noncomputable section
namespace Sy
section
variable{f:Nat->Int}{a:Nat}{l:List Int}
def bH:List Int->List Int
 | []=>[]
 | x::l=>if bH l=[]/\x=0 then[] else x::bH l
theorem JW(l:List Int):∀ k,(bH l).getD k 0=l.getD k 0:=by
 induction l with
 | nil=>intro k;rfl
 | cons x l ih=>
  intro k;have e:bH (x::l)=if bH l=[]/\x=0 then[] else x::bH l:=rfl
  rw[e];split
  ·rename_i h;cases k with
   | zero=>simp[h.2]
   | succ k=> have:=ih k;grind
  ·cases k with
   | zero=>simp
   | succ k=>simpa using ih k
def oW{a b:List Int}(h:∀ k,a.getD k 0=b.getD k 0):bH a=bH b:=by
 induction a generalizing b with
 | nil=>
  induction b with
  | nil=>rfl
  | cons y b d=>
   have e:bH (y::b)=if bH b=[]/\y=0 then[] else y::bH b:=rfl
   have h0:=h 0;have f:=d λk=>by have:=h<|k+1;simpa using this
   simp at h0;rw[e,zma ⟨f.symm,h0.symm⟩];rfl
 | cons x a ih=>
  cases b with
  | nil=>
   have e:bH (x::a)=if bH a=[]/\x=0 then[] else x::bH a:=rfl
   have h0:=h 0;have c:=ih (b:=[]) λk=>by have:=h<|k+1;simpa using this
   simp at h0;rw[e,zma ⟨c,h0⟩];rfl
  | cons y b=>
   have h0:=h 0;have c:=ih (b:=b) λk=>by have:=h<|k+1;simpa using this
   simp at h0;show(if bH a=[]/\x=0 then[] else x::bH a)=(if bH b=[]/\y=0 then[] else y::bH b)
   rw[c,h0]
theorem JX(l:List Int):(bH l).length<=l.length:=by
 induction l with
 | nil=>exact zja _
 | cons x l ih=>
  show(if bH l=[]/\x=0 then[] else x::bH l).length<=_
  grind
def yn(l:List Int)(h:bH l≠[]):l.getD ((bH l).length-1) 0≠0:=by
 induction l with
 | nil=>exact z8a rfl h
 | cons x l ih=>
  have e:bH (x::l)=if bH l=[]/\x=0 then[] else x::bH l:=rfl
  rw[e] at h ⊢;split at h
  ·simp_all
  ·rename_i a;rw[zha a];by_cases hl:bH l=[]
   ·simp_all
   ·have:=ih hl;have hp:=zYc.2 hl;obtain⟨m,hm⟩:∃ m,(bH l).length=m+1:=⟨_,(Nat.succ_pred_eq_of_pos hp).symm⟩
    simp_all
def Cg(l:List Int)(x:Int):bH (l++[x])=if x=0 then bH l else l++[x]:=by
 induction l with
 | nil=> simp_all [bH]
 | cons y l ih=>
  show(if bH (l++[x])=[]/\y=0 then[] else y::bH (l++[x]))=_
  rw[ih];by_cases h:x=0
  ·simp[h,if_true];rfl
  ·simp[h]
theorem GE{m:Nat}(h:∀ k,m<=k->l.getD k 0=0):(bH l).length<=m:=by
 by_cases hn:bH l=[]
 ·simp_all
 ·have:=yn l hn;all_goals grind
theorem JY{P:Int->Prop}(h:∀ x∈l,P x):∀ x∈bH l,P x:=by
 induction l with
 | nil=>exact h
 | cons y l ih=>
  show ∀ x∈(if bH l=[]/\y=0 then[] else y::bH l),P x
  all_goals grind
theorem dt(f:Nat->Int)(n k:Nat):((List.range n).map f).getD k 0=if k<n then f k else 0:=by all_goals grind
def K(f:Nat->Int):List Int:=bH [f 0,f 1,f 2,f 3]
def F(f:Nat->Int)(d b:Nat):Prop:=(∀ k,d<k->f k=0)/\∀ k,(f k).natAbs<=2^b
def su(a b c d:Int)(k:Nat)(f:Nat->Int)(h0:f 0=a)(e:f 1=b)(g:f 2=c)(h:f 3=d)(i:∀ k,3<k->f k=0):[a,b,c,d].getD k 0=f k:=by
 match k with
 | 0=>exact h0.symm
 | 1=>exact e.symm
 | 2=>exact g.symm
 | 3=>exact h.symm
 | k+4=>rw[i (k+4) u0];rfl
def bK{d b:Nat}(h:F f d b)(a:d<=3)(k:Nat):(K f).getD k 0=f k:=by unfold K;rw[JW];exact su _ _ _ _ k f rfl rfl rfl rfl λk c=>h.1 k u0
def dJ{d b:Nat}(h:F f d b)(c:d<=3):(K f).length<=d+1:=by
 unfold K;exact GE λk a=>by
  rw[su _ _ _ _ k f rfl rfl rfl rfl λk a=>h.1 k u0]
  exact h.1 k u0
def zj{d b:Nat}(h:F f d b)(a:d<=3)(hl:∀ k,l.getD k 0=f k):bH l=K f:=
 oW λk=>by rw[hl,su _ _ _ _ k f rfl rfl rfl rfl λk c=>h.1 k u0]
def U7{d b:Nat}(h:F f d b):∀ x∈K f,x.natAbs<=2^b:=JY λx hx=>by simp[zMa,zbc,or_false] at hx;rcases hx with rfl|rfl|rfl|rfl<;>exact h.2 _
def F.mono{d b b':Nat}(h:F f d b)(e:d<=a)(c:b<=b'):F f a b':=
 ⟨λk g=>h.1 k u0,λk=>zva (h.2 k)<|zpa H c⟩
def Ia(a b:Nat):2^a+2^b<=2^(max a b+1):=by
 have c:2^a<=2^max a b:=zpa H<|Nat.le_max_left ..
 have d:2^b<=2^max a b:=zpa H<|Nat.le_max_right ..
 omega
def cU(f g:Nat->Int):Nat->Int:=λk=>f k+g k
def EA(f g:Nat->Int):Nat->Int:=λk=>f k-g k
def dG(f:Nat->Int)(z:Int):Nat->Int:=λk=>f k*z
def pB(f g:Nat->Int)(k:Nat):Nat->Int
 | 0=>0
 | i+1=>pB f g k i+f i*g (k-i)
def bg(f g:Nat->Int):Nat->Int:=λk=>pB f g k<|k+1
theorem F.add{g:Nat->Int}{d e b:Nat}(c:F f d a)(h:F g e b):F (cU f g) (max d e) (max a b+1):=
 ⟨λk i=>by show f k+g k=0;rw[c.1 k u0,h.1 k u0];rfl,λk=>by have:=c.2 k;have:=h.2 k;have:=Ia a b;have:(cU f g k).natAbs<=(f k).natAbs+(g k).natAbs:=zUb ..;omega⟩
theorem F.sub{g:Nat->Int}{d e b:Nat}(c:F f d a)(h:F g e b):F (EA f g) (max d e) (max a b+1):=
 ⟨λk i=>by show f k-g k=0;rw[c.1 k u0,h.1 k u0];rfl,λk=>by have:=c.2 k;have:=h.2 k;have:=Ia a b;have:(EA f g k).natAbs<=(f k).natAbs+(g k).natAbs:=Int.natAbs_sub_le ..;omega⟩
def afY{d b:Nat}(c:F f d a){z:Int}(g:z.natAbs<=2^b):F (dG f z) d (a+b):=
 ⟨λk e=>by show f k*z=0;rw[c.1 k e,zCc],λk=>by show(f k*z).natAbs<=_;rw[zwa,z5a];exact zHa (c.2 k) g⟩
theorem LU{g:Nat->Int}{d e b:Nat}(c:F f d a)(h:F g e b)(k i:Nat):(pB f g k i).natAbs<=i*2^(a+b):=by
 induction i with
 | zero=>exact zoa _
 | succ i ih=>
  have j:(pB f g k<|i+1).natAbs<=(pB f g k i).natAbs+(f i*g (k-i)).natAbs:=zUb ..;have l:(f i*g (k-i)).natAbs<=2^(a+b):=by rw[zwa,z5a];exact zHa (c.2 i)<|h.2 _
  grind
def wQ{g:Nat->Int}{d e b:Nat}(c:F f d a)(j:F g e b){k:Nat}(l:d+e<k):∀ i,i<=k+1->pB f g k i=0:=by
 intro i
 induction i with
 | zero=>intro _;rfl
 | succ i ih=>
  intro hi;show pB f g k i+f i*g (k-i)=0;rw[ih u0]
  by_cases h:d<i
  ·rw[c.1 i h];simp
  ·rw[j.1 (k-i) u0];simp
def F.mul{g:Nat->Int}{d e b:Nat}(c:F f d a)(i:F g e b)(h:d+e<=3):F (bg f g) (d+e) (a+b+2):=
 ⟨λk j=>wQ c i j _<|zja _,λk=>by
  by_cases j:d+e<k
  ·rw[show bg f g k=0 from wQ c i j _<|zja _];exact zoa _
  ·have l:=LU c i k<|k+1;have m:(k+1)*2^(a+b)<=4*2^(a+b):=zKa _ u0
   rw[z5a _ (a+b) 2];show(pB f g k<|k+1).natAbs<=_;omega⟩
def bE(a b:Int):Nat->Int
 | 0=>a
 | 1=>b
 | _=>0
def afX{a b:Int}{n:Nat}(c:a.natAbs<=2^n)(d:b.natAbs<=2^n):F (bE a b) 1 n:=
 ⟨λk e=>by match k,e with|k+2,_=>rfl,λk=>by match k with|0=>exact c|1=>exact d|k+2=>exact zoa _⟩
def V1(f g:Nat->Int):bg f g 0=f 0*g 0/\bg f g 1=f 0*g 1+f 1*g 0/\bg f g 2=f 0*g 2+f 1*g 1+f 2*g 0/\bg f g 3=f 0*g 3+f 1*g 2+f 2*g 1+f 3*g 0:=by simp_all [bg,pB]
end
end Sy
end
noncomputable section
namespace Sy
open Go Go.Proofs Geo
section
variable{l:List Int}{f:Nat->Int}{a:Nat}{z:Int}
def aF(l:List Int):D:=.sl<|l.map M
def aq(f:Nat->Int):D:=aF<|K f
def KM(l:List Int):Prop:=∀ x∈l,In x
def po{i:Nat}:afA .lss (I (i:Int)) (.int .i64 (l.map M).length)=some (.bool<|decide (i<l.length)):=by rw[zla];rw[show afA .lss (I (i:Int)) (.int .i64 (l.length:Int))=some (.bool<|decide ((i:Int)<l.length)) from ag];simp
def kU{i:Nat}(h:i<l.length):D.idx (I (i:Int)) (l.map M).length=some i:=ai (by rw[zla];exact h)
def j7{l:List Int}{i:Nat}(h:i<l.length):(l.map M)[i]?=some (M<|l.getD i 0):=by simp_all
def gO(h:KM l)(i:Nat):In (l.getD i 0):=by
 by_cases hi:i<l.length
 ·rw[zGa,zca hi];exact h _<|zya hi
 ·rw[zGa,zXa u0];exact br<|bX 0
def pn{d b:Nat}(h:F f d b)(a:b<=500)(k:Nat):In (f k):=bD (k:=b) u0<|h.2 k
def fC{d b:Nat}(h:F f d b)(a:b<=500):KM (K f):=λx hx=>bD (k:=b) u0<|U7 h x hx
def In0:In 0:=br<|bX 0
def eZ{body:Bd}{s0:List D}{r:Nat×List D}(J:Nat->List D->Prop)(n:Nat)(h0:J 0 s0)(e:∀ i,i<n->∀ s,J i s->∃ s',body s=some (.inl s')/\J (i+1) s')(d:∀ s,J n s->body s=some (.inr r)):cB body s0=some r:=by obtain⟨r',b,c⟩:=oO J (λx=>x=r) n 0 (zoa _) h0 (λi hi s a=>.inl<|e i hi s a)<|λs a=>⟨r,d s a,rfl⟩;rw[b,c]
def rJ:D.st [D.bool false,D.bool false,aw aY]=M 0:=by rw[jh,cg];rfl
def Lx(n:Nat){x:Int}(hx:In x):cA (n+2) 517 [M x]=some (.bool true):=by refine fN Ua ?_;delta Ua qN qe;refine J (.bool false)<|J (.bool true)<|J true<|O (z:=true) ?_ rfl;rw[zma rfl];exact O (O3 n (a:=some x)<|bi hx) rfl
def acF(n:Nat)(d:D):cA (n+1) 552 [d]=some d:=by refine fN W0 ?_;rfl
def rS(n:Nat)(h:KM l)(hl:l.length<=1000):cA (n+3) 546 [aF l]=some (.bool false):=by
 refine fN Ul ?_;delta Ul jl qc qn;refine J (l.map M) ?_;refine aV (λi s=>s=[I (i:Int)]) l.length 0 (zoa _) rfl (λi hi s a=>?_) (λs a=>?_)
 ·subst a;left;refine⟨_,?_,rfl⟩;refine O po<|O ac<|au hi<|J (l.map M)<|O (kU hi)<|O (j7 hi)<|O (Lx n<|gO h i)<|O aD<|O ac ?_;rw[zha H]
  exact O (az<|aB (i:=i) u0) rfl
 ·subst a;exact⟨(1,[]),O po<|O ac<|ay u0 rfl,rfl⟩
def AX(n:Nat)(l:List Int)(k:Nat):cA (n+1) 550 [aF l,I (k:Int)]=some (M<|l.getD k 0):=by
 refine eN Uo ?_;delta Uo qC jl qO;refine O ag<|O ac<|O (z:=decide (l.length<=k)) ?_<|O ac ?_
 ·refine ay u0<|J (l.map M)<|O fD ?_
  rw[zla,ac];simp
 ·by_cases h:l.length<=k
  ·refine au h ?_;rw[rJ,zGa,zXa h];rfl
  ·exact ay h<|J (l.map M)<|O (kU u0)<|O (j7 u0) rfl
def trB(c:Ca):Bd:=λv=>
 (D.asSl<|v.getD 0<|.bool false).bind λf=>(afA .gtr (.int .i64 f.length)<|.int .i64 0).bind λz=>(D.truth z).bind λa=>
 (if a then((D.asSl<|v.getD 0<|.bool false).bind λg=>(afA .sub (.int .i64 g.length)<|.int .i64 1).bind λn=>(D.asSl<|v.getD 0<|.bool false).bind λl=>(D.idx n l.length).bind λk=>(l[k]?).bind λo=> (c 129 [o]).bind λm=>D.truth<|D.bool<|D.beq m<|.int .i64 0) else some false).bind λb=>(D.truth<|.bool b).bind λd=>
 if d then((D.asSl<|v.getD 0<|.bool false).bind λh=>(afA .sub (.int .i64 h.length)<|.int .i64 1).bind λp=>(D.asSl<|v.getD 0<|.bool false).bind λi=>(D.natOf p).bind λe=>(D.cut i 0 e).bind λj=>some<|.inl [.sl j]) else some<|.inr (0,[v.getD 0<|.bool false])
def Xa{m:Nat}:afA .gtr (.int .i64 (m:Int)) (.int .i64 0)=some (.bool<|decide (0<m)):=by rw[show afA .gtr (.int .i64 (m:Int)) (.int .i64 0)=some (.bool<|decide ((m:Int)>0)) from bR];simp
theorem tF{m:Nat}(h:0<m)(hm:m<=1000):afA .sub (.int .i64 (m:Int)) (.int .i64 1)=some (I ((m-1:Nat):Int)):=by
 rw[show afA .sub (.int .i64 (m:Int)) (.int .i64 1)=some (I<|(m:Int)-1) from bP (by simp[inR];omega)]
 grind
def EZ(x:Int):D.beq (I<|sg x) (.int .i64 0)=decide (x=0):=by rw[show D.beq (I<|sg x) (.int .i64 0)=decide (sg x=0) from cc];simp[jV]
def W9{l:List D}{k:Nat}(h:k<=l.length):D.cut l 0 k=some (l.take k):=by simp[D.cut,h]
def ww(k:Nat):D.natOf (I (k:Int))=some k:=by simp[D.natOf]
def YO(n:Nat)(h:KM l)(hl:l.length<=1000){K:Nat×List D->Option D}{y:D}(i:K (0,[aF<|bH l])=some y) :
  (cB (trB<|cA<|n+3) [aF l]).bind K=some y:=by
 obtain⟨m,hm⟩:∃ m,m=l.length:=⟨_,rfl⟩
 induction m generalizing l with
 | zero=> have:l=[]:=z8b.1 hm.symm;subst this;exact dY (r:=(0,[aF []])) rfl i
 | succ m ih=>
  have e1:(l.map M).length=m+1:=by simp_all
  have p:l≠[]:=λe=>by rw[e] at hm;cases hm
  obtain⟨a,x,rfl⟩:∃ a x,l=a++[x]:=⟨l.dropLast,l.getLast p,(List.dropLast_concat_getLast p).symm⟩;have u:a.length=m:=by simp at hm;omega
  have hx:=h x j2
  have w:(a++[x]).getD m 0=x:=by rw[<-u];simp
  have o:D.idx (I (m:Int)) ((a++[x]).map M).length=some m:=kU (by rw[<-hm];omega)
  have j:((a++[x]).map M)[m]?=some (M x):=by rw[j7 (by rw[<-hm];omega),w]
  have b:afA .sub (.int .i64 (((a++[x]).map M).length:Int)) (.int .i64 1)=some (I (m:Int)):=by rw[e1,tF u0 u0,Nat.add_sub_cancel]
  have v:afA .gtr (.int .i64 (((a++[x]).map M).length:Int)) (.int .i64 0)=some (.bool true):=by rw[e1,Xa];rfl
  have head:∀ {α:Type} {A B Y:Option α},(if decide (x=0)=true then A else B)=Y->((D.asSl<|aF<|a++[x]).bind λC=>(afA .gtr (.int .i64 C.length)<|.int .i64 0).bind λz=>(D.truth z).bind λq=>
    (if q=true then((D.asSl<|aF<|a++[x]).bind λc=>(afA .sub (.int .i64 c.length)<|.int .i64 1).bind λf=>(D.asSl<|aF<|a++[x]).bind λl=>(D.idx f l.length).bind λk=>(l[k]?).bind λg=> (cA (n+3) 129 [g]).bind λd=>D.truth<|D.bool<|D.beq d<|.int .i64 0) else some false).bind λs=>(D.truth<|.bool s).bind λt=>if t=true then A else B)=Y:=λ{α A B Y} E=>by
   have key:((D.asSl<|aF<|a++[x]).bind λc=>(afA .sub (.int .i64 c.length)<|.int .i64 1).bind λf=>(D.asSl<|aF<|a++[x]).bind λl=>(D.idx f l.length).bind λk=>(l[k]?).bind λg=>
     (cA (n+3) 129 [g]).bind λd=>D.truth<|D.bool<|D.beq d<|.int .i64 0)=some (decide (x=0)):=
    J ((a++[x]).map M) (O b<|J ((a++[x]).map M)<|O o<|O j<|O (ls n hx) (by rw[EZ];rfl))
   rw[show D.asSl (aF<|a++[x])=some ((a++[x]).map M) from rfl,zba,v,zba,ac,zba,zma rfl];rw[show D.asSl (aF<|a++[x])=some ((a++[x]).map M) from rfl] at key;rw[key,zba,ac,zba];exact E
  rw[Cg] at i;by_cases h0:x=0
  ·rw[zma h0] at i;refine ct (s':=[aF a]) ?_<|ih (λz F=>h z (by simp[F])) u0 i u.symm
   refine head<|au h0<|J ((a++[x]).map M)<|O b<|J ((a++[x]).map M)<|O (ww m)<|O (W9 (by rw[e1];omega)) ?_
   rw[<-ztd,<-u,List.take_left];rfl
  ·rw[zha h0] at i;exact dY (r:=(0,[aF<|a++[x]])) (head<|ay h0 rfl) i
def trT(c:Ca)(d:D):Option D:=
 (cB (trB c) [d]).bind λr=>(D.asSl<|r.2.getD 0<|.bool false).bind λl=>(afA .gtr (.int .i64 l.length)<|.int .i64 25).bind λz=>(D.truth z).bind λb=>if b then((c 518 []).bind λr=>some r) else some<|r.2.getD 0<|.bool false
def Wx(n:Nat)(h:KM l)(hl:l.length<=25):trT (cA<|n+3) (aF l)=some (aF<|bH l):=by
 refine YO n h u0<|J ((bH l).map M)<|O bR<|O ac<|ay ?_ rfl
 rw[zla];have:=JX l;omega
theorem UH(n m:Nat)(g:Nat->Int)(d:∀ k,k<m->In (g k))(hm:m<=25){body:Bd}{rest:List D}
  (c:∀ i,i<m->body (aF ((List.range i).map g)::I (i:Int)::rest)=some (.inl<|aF ((List.range i).map g++[g i])::I ((i:Int)+1)::rest))
  (b:body (aF ((List.range m).map g)::I (m:Int)::rest)=some (.inr (1,[aF<|(List.range m).map g]))) :
  ((cB body<|.sl []::I 0::rest).bind λr=>if r.1=0 then some (r.2.getD 0<|.bool false) else trT (cA<|n+3)<|.sl<|(r.2.getD 0<|.bool false).els)=some (aF<|bH<|(List.range m).map g):=by
 refine aV (λi s=>s=aF ((List.range i).map g)::I (i:Int)::rest) m 0 (zoa _) rfl (λi hi s a=>?_) (λs a=>?_)
 ·simp_all [zGb,zob]
 ·subst a;refine⟨_,b,?_⟩;rw[zha<|show ¬ (1=0) by decide]
  refine Wx n (λx hx=>?_) (by simpa using hm)
  grind
def WQ(n:Nat)(g:In z)(hl:l.length<=1000){i:Nat}(hi:i<=1000)(rest:List D)(b:Option<|Sum (List D)<|Nat×List D) :
  ((cA (n+3) 552 [M z]).bind λd=>(cA (n+3) 517 [d]).bind λc=>(afP .not c).bind λz=>(D.truth z).bind λa=>if a=true then b else
   (if List.length ((aF l).els)+List.length [d]<=1073741824 then((afA .add (I (i:Int))<|.int .i64 1).bind λf=>some<|.inl<|(.sl<|(aF l).els++[d])::f::rest) else none))=some (Sum.inl<|aF (l++[z])::I ((i:Int)+1)::rest):=by
 refine O (acF (n+2) _)<|O (Lx (n+1) g)<|O aD<|O ac ?_;rw[zha H]
 have e:(aF l).els=l.map M:=rfl;rw[e,zma (by simp;omega)]
 refine O (az<|aB (i:=i) u0) ?_
 rw[show aF (l++[z])=.sl (l.map M++[M z]) from by unfold aF;rw[zob];rfl]
theorem QU(l m:List Int):D.max2 (.int .i64 (l.map M).length) (.int .i64 (m.map M).length)=some (I ((max l.length m.length:Nat):Int)):=by rw[zla,zla,show D.max2 (.int .i64 (l.length:Int)) (.int .i64 (m.length:Int))=some (I<|max (l.length:Int) (m.length:Int)) from sM];grind
def jC(k:Nat):D.max2 (I (k:Int)) (.int .i64 0)=some (I (k:Int)):=by
 rw[show D.max2 (I (k:Int)) (.int .i64 0)=some (I<|max (k:Int) 0) from sM]
 simp_all
def jB{i m:Nat}:afA .lss (I (i:Int)) (I (m:Int))=some (.bool<|decide (i<m)):=by rw[ag];simp
def U5{g:Nat->Int}{d e b:Nat}(c:F f d a)(h:F g e b)(i:d<=3)(j:e<=3) :
  bH ((List.range<|max (K f).length (K g).length).map λk=>(K f).getD k 0+(K g).getD k 0)=K (cU f g):=
 zj (F.add c h) u0 λk=>by
  rw[dt];split
  ·rw[bK c i,bK h j];rfl
  ·show 0=f k+g k;rw[<-bK c i k,<-bK h j k,zGa,zGa,zXa u0,zXa u0];rfl
def Vb{g:Nat->Int}{d e b:Nat}(c:F f d a)(h:F g e b)(i:d<=3)(j:e<=3) :
  bH ((List.range<|max (K f).length (K g).length).map λk=>(K f).getD k 0-(K g).getD k 0)=K (EA f g):=
 zj (F.sub c h) u0 λk=>by
  rw[dt];split
  ·rw[bK c i,bK h j];rfl
  ·show 0=f k-g k;rw[<-bK c i k,<-bK h j k,zGa,zGa,zXa u0,zXa u0];rfl
def Va{d b:Nat}(e:F f d a)(g:z.natAbs<=2^b)(c:d<=3) :
  bH ((List.range (K f).length).map λk=>(K f).getD k 0*z)=K (dG f z):=
 zj (afY e g) c λk=>by
  rw[dt];split
  ·rw[bK e c];rfl
  ·show 0=f k*z;rw[<-bK e c k,zGa,zXa u0];simp
def tq{c:Ca}{m:List Int}(e:c 546 [aF l]=some (.bool false))(f:c 546 [aF m]=some (.bool false)){α:Type}{A B Y:Option α}(g:B=Y) :
  ((c 546 [aF l]).bind λr1=>(D.truth r1).bind λb2=>(if b2=true then some true else((c 546 [aF m]).bind λd=>D.truth d)).bind λa=>(D.truth<|D.bool a).bind λb=>if b=true then A else B)=Y:=by
 simp_all [zba,ac,decide]
def IL(n:Nat){f g:Nat->Int}{d e b:Nat}(c:F f d a)(h:F g e b)(m:max d e<=3)(l:max a b<=480):cA (n+5) 520 [aq f,aq g]=some (aq<|cU f g):=by
 have l1:=dJ c u0;have o:=dJ h u0
 refine eN Uc ?_;delta Uc qC qT jl qA qO qc qn qr qu;refine tq (rS (n+1) (fC c u0) u0) (rS (n+1) (fC h u0) u0) ?_
 refine J ((K f).map M)<|J ((K g).map M)<|O (QU _ _)<|O (jC _)<|O (ww _) ?_;rw[zma u0]
 refine O (jC _) ?_;have j:∀ k,In (cU f g k):=λk=>pn (F.add c h) u0 k
 refine(UH (n+1) (max (K f).length (K g).length) (λk=>(K f).getD k 0+(K g).getD k 0) (λk _=>by rw[bK c u0,bK h u0];exact j k) u0 (rest:=[aq f,aq g]) (λi hi=>?_) ?_).trans ?_
 ·refine O jB<|O ac<|au hi<|O (AX (n+3) (K f) i)<|O (AX (n+3) (K g) i)<|O (rT n (gO (fC c u0) i) (gO (fC h u0) i) (by rw[bK c u0,bK h u0];exact j i)) ?_
  exact WQ (n+1) (by rw[bK c u0,bK h u0];exact j i) (by simp;omega) u0 _ _
 ·exact O jB<|O ac<|ay u0 rfl
 ·rw[U5 c h u0 u0];rfl
def O8(n:Nat){g:Nat->Int}{d e b:Nat}(c:F f d a)(h:F g e b)(m:max d e<=3)(l:max a b<=480):cA (n+6) 521 [aq f,aq g]=some (aq<|EA f g):=by
 have l1:=dJ c u0;have o:=dJ h u0
 refine eN Ud ?_;delta Ud qC qT jl qA qO qc qn qr qu;refine tq (rS (n+2) (fC c u0) u0) (rS (n+2) (fC h u0) u0) ?_
 refine J ((K f).map M)<|J ((K g).map M)<|O (QU _ _)<|O (jC _)<|O (ww _) ?_;rw[zma u0]
 refine O (jC _) ?_;have j:∀ k,In (EA f g k):=λk=>pn (F.sub c h) u0 k
 refine(UH (n+2) (max (K f).length (K g).length) (λk=>(K f).getD k 0-(K g).getD k 0) (λk _=>by rw[bK c u0,bK h u0];exact j k) u0 (rest:=[aq f,aq g]) (λi hi=>?_) ?_).trans ?_
 ·refine O jB<|O ac<|au hi<|O (AX (n+4) (K f) i)<|O (AX (n+4) (K g) i)<|O (O5 n (gO (fC c u0) i) (gO (fC h u0) i) (by rw[bK c u0,bK h u0];exact j i)) ?_
  exact WQ (n+2) (by rw[bK c u0,bK h u0];exact j i) (by simp;omega) u0 _ _
 ·exact O jB<|O ac<|ay u0 rfl
 ·rw[Vb c h u0 u0];rfl
def acy(n:Nat){x:Int}(d:D)(hx:In x)(a:In z)(h:In<|x*z):cA (n+4) 519 [M x,d,M z]=some (M<|x*z):=by refine GH Ub ?_;unfold Ub;exact O (jD n hx a h) rfl
def CG(n:Nat){d b:Nat}(c:F f d a){z:Int}(g:z.natAbs<=2^b)(l:d<=3)(j:a+b<=480):cA (n+5) 499 [aq f,M z]=some (aq<|dG f z):=by
 have l1:=dJ c u0
 have h:=bD (k:=b) u0 g
 refine eN TZ ?_;delta TZ qC qT jl qA qO qc qn qr qu;refine O (Lx (n+2) h)<|O aD<|O ac ?_;rw[zha H]
 refine tq (m:=[]) (rS (n+1) (fC c u0) u0) (rS (n+1) (λx hx=>by cases hx) j2) ?_
 refine J ((K f).map M)<|O (z:=I ((K f).length:Int)) (by rw[zla];exact jC _)<|O (jC _)<|O (ww _) ?_
 rw[zma u0]
 refine O (jC _) ?_;have e:∀ k,In (dG f z k):=λk=>pn (afY c g) u0 k
 refine(UH (n+1) (K f).length (λk=>(K f).getD k 0*z) (λk _=>by rw[bK c u0];exact e k) u0 (rest:=[M z,aq f,.sl []]) (λi hi=>?_) ?_).trans ?_
 ·refine O jB<|O ac<|au hi<|O (AX (n+3) (K f) i)<|O (AX (n+3) [] i)<|O (acy n _ (gO (fC c u0) i) h (by rw[bK c u0];exact e i)) ?_
  exact WQ (n+1) (by rw[bK c u0];exact e i) (by simp;omega) u0 _ _
 ·exact O jB<|O ac<|ay u0 rfl
 ·rw[Va c g u0];rfl
end
section
variable{a y:D}{f:Nat}
mutual
def afC:D->D->Bool
 | .int k n,.int k' n'=>decide (k=k')&&decide (n=n')
 | .bool b,.bool b'=>b==b'
 | .st l,.st l'=>afE l l'
 | .sl l,.sl l'=>afE l l'
 | .tup l,.tup l'=>afE l l'
 | _,_=>false
def afE:List D->List D->Bool
 | [],[]=>true
 | x::l,x'::l'=>afC x x'&&afE l l'
 | _,_=>false
end
mutual
theorem afD:∀ {x x':D},afC x x'=true->x=x'
 | .int k n,x',h=>by cases x'<;>simp[afC] at h;rw[h.1,h.2]
 | .bool b,x',h=>by cases x'<;>simp[afC] at h;rw[h]
 | .str _,x',h=>by cases x'<;>simp[afC] at h
 | .st l,x',h=>by cases x'<;>simp[afC] at h;rw[afF h]
 | .sl l,x',h=>by cases x'<;>simp[afC] at h;rw[afF h]
 | .tup l,x',h=>by cases x'<;>simp[afC] at h;rw[afF h]
theorem afF:∀ {l l':List D},afE l l'=true->l=l'
 | [],l',h=>by cases l'<;>simp[afE] at h;rfl
 | x::l,l',h=>by cases l'<;>simp[afE] at h;rw[afD h.1,afF h.2]
end
def PL:Nat->Nat->List D
 | 0,_=>[]
 | k+1,X=>.int .u32 ((X%4294967296:Nat):Int)::PL k (X/4294967296)
def Ff(x:Int):D:=.st [.bool false,.bool<|decide (x<0),.st<|PL 16 x.natAbs]
theorem HL:∀ k X,PL k X=(List.range k).map λi=>D.int .u32 (q X i)
 | 0,_=>rfl
 | k+1,X=>by
  rw[zvd,z4a,zCd];show _::PL k (X/4294967296)=_;rw[HL k];congr 1
  ·simp[q]
  ·apply zqc;intro i _;show D.int .u32 (q (X/4294967296) i)=D.int .u32 (q X<|i+1);congr 1;unfold q;rw[zYa,show 4294967296*2^(32*i)=2^(32*(i+1)) from by rw[zlc,z5a,zVa]]
def vM(x:Int):Ff x=M x:=by rw[cg];unfold Ff;rw[HL];rfl
def MG:List D->Nat
 | .int _ n::l=>n.toNat+4294967296*MG l
 | _=>0
def kM:D->Option Int
 | .st [.bool false,.bool s,.st l]=>let x:Int:=cond s (-((MG l:Nat):Int)) (MG l:Nat);bif Nat.blt x.natAbs eM&&afC (Ff x) (.st [.bool false,.bool s,.st l]) then some x else none
 | _=>none
def oG{d:D}{x:Int}(h:kM d=some x):In x/\d=M x:=by
 unfold kM at h;split at h
 ·rename_i s l;simp only at h;generalize cond s (-((MG l:Nat):Int)) (MG l:Nat)=y at h;cases hb:Nat.blt y.natAbs eM&&afC (Ff y) (.st [.bool false,.bool s,.st l]) with
  | false=>rw[hb] at h;cases h
  | true=> rw[hb] at h;cases h;simp only[Y,Nat.blt_eq] at hb;exact⟨aE.2 hb.1,by rw[<-vM,afD hb.2]⟩
 ·cases h
def Yj(x:Int):Option D:=bif Nat.blt x.natAbs eM then some (Ff x) else none
def FA{x:Int}{d:D}(h:Yj x=some d):In x/\d=M x:=by
 unfold Yj at h;cases hb:Nat.blt x.natAbs eM with
 | false=>rw[hb] at h;cases h
 | true=> rw[hb] at h;cases h;exact⟨aE.2 (by simpa using hb),vM x⟩
def HA(f:Nat):List D->Option D
 | [a]=>bif Nat.beq f 129 then(kM a).bind λx=>some (.int .i64<|sg x) else bif Nat.beq f 517||Nat.beq f 128 then(kM a).bind λ_=>some (.bool true) else none
 | [a,b]=>bif Nat.beq f 61 then(kM a).bind λx=>(kM b).bind λy=>Yj (x*y)
  else bif Nat.beq f 57 then(kM a).bind λx=>(kM b).bind λy=>Yj (x+y)
  else bif Nat.beq f 203 then(kM a).bind λx=>(kM b).bind λy=>Yj (x-y)
  else bif Nat.beq f 131 then(kM a).bind λx=>(kM b).bind λy=>some (Ff (Nat.gcd x.natAbs y.natAbs:Nat))
  else bif Nat.beq f 132 then(kM a).bind λx=>(kM b).bind λy=>bif decide (0<y) then some (Ff<|x/y) else none
  else bif Nat.beq f 90 then(kM a).bind λx=>(kM b).bind λy=>some (.int .i64<|bf x y) else none
 | _=>none
def oX{b:D}{g:Int->Int->Option D}(h:((kM a).bind λx=>(kM b).bind λz=>g x z)=some y):∃ x z,In x/\In z/\a=M x/\b=M z/\g x z=some y:=by
 cases ha:kM a with
 | none=>rw[ha] at h;cases h
 | some x=>
  cases hb:kM b with
  | none=>rw[ha,hb] at h;cases h
  | some z=> rw[ha,hb] at h;exact⟨x,z,(oG ha).1,(oG hb).1,(oG ha).2,(oG hb).2,h⟩
def H5{g:Int->Option D}(h:((kM a).bind λx=>g x)=some y):∃ x,In x/\a=M x/\g x=some y:=by
 cases ha:kM a with
 | none=>rw[ha] at h;cases h
 | some x=> rw[ha] at h;exact⟨x,(oG ha).1,(oG ha).2,h⟩
def AP{k:Nat}(h:Nat.beq f k=true):f=k:=z3b h
def Mc{xs:List D}(h:HA f xs=some y):∃ k,cA k f xs=some y:=by
 unfold HA at h;split at h
 ·rename_i a;cases e1:Nat.beq f 129 with
  | true=> rw[e1,cond_true] at h;have d:=H5 h;clear h;obtain⟨x,c,rfl,h⟩:=d;cases h;exact⟨3,by rw[AP e1];exact ls 0 c⟩
  | false=>
   rw[e1,cond_false] at h;cases e2:Nat.beq f 517||Nat.beq f 128 with
   | true=>
    rw[e2,cond_true] at h;have d:=H5 h;clear h;obtain⟨x,c,rfl,h⟩:=d;cases h;rw[zHb] at e2;rcases e2 with e2|e2
    ·exact⟨2,by rw[AP e2];exact Lx 0 c⟩
    ·exact⟨2,by rw[AP e2];exact IH 0 c⟩
   | false=>rw[e2] at h;cases h
 ·rename_i a b;cases e1:Nat.beq f 61 with
  | true=> rw[e1,cond_true] at h;have d:=oX h;clear h;obtain⟨x,z,c,e,rfl,rfl,h⟩:=d;obtain⟨i,rfl⟩:=FA h;exact⟨3,by rw[AP e1];exact jD 0 c e i⟩
  | false=>
  rw[e1,cond_false] at h;cases e2:Nat.beq f 57 with
  | true=> rw[e2,cond_true] at h;have d:=oX h;clear h;obtain⟨x,z,c,e,rfl,rfl,h⟩:=d;obtain⟨i,rfl⟩:=FA h;exact⟨4,by rw[AP e2];exact rT 0 c e i⟩
  | false=>
  rw[e2,cond_false] at h;cases e3:Nat.beq f 203 with
  | true=> rw[e3,cond_true] at h;have d:=oX h;clear h;obtain⟨x,z,c,e,rfl,rfl,h⟩:=d;obtain⟨i,rfl⟩:=FA h;exact⟨5,by rw[AP e3];exact O5 0 c e i⟩
  | false=>
  rw[e3,cond_false] at h;cases e4:Nat.beq f 131 with
  | true=> rw[e4,cond_true] at h;have d:=oX h;clear h;obtain⟨x,z,c,e,rfl,rfl,h⟩:=d;cases h;exact⟨1029,by rw[AP e4,vM];exact wH 0 c e⟩
  | false=>
  rw[e4,cond_false] at h;cases e5:Nat.beq f 132 with
  | true=>
   rw[e5,cond_true] at h;have d:=oX h;clear h;obtain⟨x,z,c,e,rfl,rfl,h⟩:=d;cases hz:decide (0<z) with
   | false=>rw[hz] at h;cases h
   | true=> rw[hz] at h;cases h;exact⟨7,by rw[AP e5,vM];exact nc 0 c e<|of_decide_eq_true hz⟩
  | false=>
  rw[e5,cond_false] at h;cases e6:Nat.beq f 90 with
  | true=> rw[e6,cond_true] at h;have d:=oX h;clear h;obtain⟨x,z,c,e,rfl,rfl,h⟩:=d;cases h;exact⟨4,by rw[AP e6];exact Ou 0 c e⟩
  | false=>rw[e6] at h;cases h
 ·cases h
end
end Sy
end
end Go.Proofs.YtdlipdnepadhjaaGreat
