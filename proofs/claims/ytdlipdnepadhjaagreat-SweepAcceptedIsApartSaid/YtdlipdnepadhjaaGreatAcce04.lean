/- Part 4 -/
import Derived.Test.YtdlipdnepadhjaaGreatAcce03
set_option linter.all false
set_option maxRecDepth 20000
namespace Go.Proofs.YtdlipdnepadhjaaGreat
noncomputable section
namespace Sy
open Go Go.Proofs Geo
section
variable{y z:D}{l:List D}{A B:Int}{u:V}
abbrev Bd:=List D->Option (Sum (List D)<|Nat×List D)
def ct{body:Bd}{s s':List D}{k:Nat×List D->Option D}(h:body s=some (.inl s'))(a:(cB body s').bind k=some y):(cB body s).bind k=some y:=by
 have:cB body s=cB body s':=cz h
 simp_all
def dY{body:Bd}{s:List D}{r:Nat×List D}{k:Nat×List D->Option D}(h:body s=some (.inr r))(a:k r=some y):(cB body s).bind k=some y:=by
 have:cB body s=some r:=cT h
 simp_all
def q9{body:Bd}{s:List D}{r:Nat×List D}{k:Nat×List D->Option D}(h:cB body s=some r)(a:k r=some y):(cB body s).bind k=some y:=by simp_all
def aV{body:Bd}{s0:List D}{k:Nat×List D->Option D}(J:Nat->List D->Prop)(n i0:Nat)(hi:i0<=n)(h0:J i0 s0)
  (d:∀ i,i<n->∀ s,J i s->(∃ s',body s=some (.inl s')/\J (i+1) s')\/∃ r,body s=some (.inr r)/\k r=some y) (c:∀ s,J n s->∃ r,body s=some (.inr r)/\k r=some y):(cB body s0).bind k=some y:=by
 obtain⟨m,hm⟩:∃ m,m=n-i0:=⟨_,rfl⟩
 induction m generalizing i0 s0 with
 | zero=>
  have:i0=n:=u0
  subst this;obtain⟨r,a,b⟩:=c s0 h0;exact dY a b
 | succ m ih=>
  rcases d i0 u0 s0 h0 with⟨s',a,b⟩|⟨r,a,b⟩
  ·exact ct a<|ih (i0:=i0+1) u0 b u0
  ·exact dY a b
def oO{body:Bd}{s0:List D}(J:Nat->List D->Prop)(Q:Nat×List D->Prop)(n i0:Nat)(hi:i0<=n)(h0:J i0 s0)
  (d:∀ i,i<n->∀ s,J i s->(∃ s',body s=some (.inl s')/\J (i+1) s')\/∃ r,body s=some (.inr r)/\Q r) (c:∀ s,J n s->∃ r,body s=some (.inr r)/\Q r):∃ r,cB body s0=some r/\Q r:=by
 obtain⟨m,hm⟩:∃ m,m=n-i0:=⟨_,rfl⟩
 induction m generalizing i0 s0 with
 | zero=>
  have:i0=n:=u0
  subst this;obtain⟨r,a,b⟩:=c s0 h0;exact⟨r,cT a,b⟩
 | succ m ih=>
  rcases d i0 u0 s0 h0 with⟨s',a,b⟩|⟨r,a,b⟩
  ·obtain⟨r,e,f⟩:=ih (i0:=i0+1) u0 b u0
   exact⟨r,by rw[show cB body s0=cB body s' from cz a];exact e,f⟩
  ·exact⟨r,cT a,b⟩
def ai{i n:Nat}(h:i<n):D.idx (I (i:Int)) n=some i:=by
 simp[D.idx]
 simp_all
def aB{i:Nat}(h:i<=9223372036854775806):inR ((i:Int)+1):=by simp[inR];omega
theorem g0{x:D}{d:D}:List.getD (x::l) 0 d=x:=rfl
theorem g1{x:D}{d:D}:List.getD (x::y::l) 1 d=y:=rfl
def g2{x z:D}{d:D}:List.getD (x::y::z::l) 2 d=z:=rfl
def g3{x w:D}{d:D}:List.getD (x::y::z::w::l) 3 d=w:=rfl
def adg(v:V)(a:Int):D.set (X v) [0] (I a)=some (X ⟨a,v.y,v.z⟩):=rfl
def adh(v:V)(a:Int):D.set (X v) [1] (I a)=some (X ⟨v.x,a,v.z⟩):=rfl
def adi(v:V)(a:Int):D.set (X v) [2] (I a)=some (X ⟨v.x,v.y,a⟩):=rfl
def MA:D.idx (I 0) 3=some 0:=rfl
def I6:D.idx (I 1) 3=some 1:=rfl
def MB:D.idx (I 2) 3=some 2:=rfl
def abW(n:Nat){v:V}(d:bd A u)(e:bd B v)(h:A+B<=9223372036854775807):cA (n+1) 154 [X u,X v]=some (X<|u.add v):=by
 have a:inR (u.x+v.x):=by simp[bd,inR] at *;omega
 have b:inR (u.y+v.y):=by simp[bd,inR] at *;omega
 have c:inR (u.z+v.z):=by simp[bd,inR] at *;omega
 refine eN SU ?_
 delta SU P qJ iL iR J0 J3 qc qi qj qs qy
 refine ct (s':=[I 1,X ⟨u.x+v.x,u.y,u.z⟩]) ?_<|ct (s':=[I 2,X ⟨u.x+v.x,u.y+v.y,u.z⟩]) ?_<|ct (s':=[I 3,X ⟨u.x+v.x,u.y+v.y,u.z+v.z⟩]) ?_<|dY (r:=(0,[X<|u.add v])) ?_ rfl
 ·simp only[g0,g1,ag,zba,ac,MA,qF,adg,az a,az<|show inR (0+1) from⟨H,H⟩];rfl
 ·simp only[g0,g1,ag,zba,ac,I6,qH,adh,az b,az<|show inR (1+1) from⟨H,H⟩];rfl
 ·simp only[g0,g1,ag,zba,ac,MB,qK,adi,az c,az<|show inR (2+1) from⟨H,H⟩];rfl
 ·simp[g0,g1,ag,zba,ac];rfl
theorem ON(u v:V):u.add v.neg=u.sub v:=by grind [V.add,V.neg,V.sub]
theorem Lm(n:Nat){v:V}(b:bd A u)(a:bd B v)(h:A+B<=9223372036854775807):cA (n+2) 103 [X u,X v]=some (X<|u.sub v):=by
 have c:0<=A:=by grind [bd]
 refine eN Sc ?_;simp[Sc,Q8 n a u0,zba,abW n b (tJ a) h,ON,C]
def IF(n:Nat){v:V}(d:bd A u)(e:bd B v)(h:A+B<=9223372036854775807):cA (n+1) 112 [X u,X v]=some (X<|u.sub v):=by
 have a:inR (u.x-v.x):=by simp[bd,inR] at *;omega
 have b:inR (u.y-v.y):=by simp[bd,inR] at *;omega
 have c:inR (u.z-v.z):=by simp[bd,inR] at *;omega
 refine eN Sp ?_;simp only[Sp,Q,P,qF,qH,qK,zba,bP a,bP b,bP c];rfl
def bf(a b:Int):Int:=if a<b then -1 else if a>b then 1 else 0
def abN(n:Nat)(a:Int):cA (n+1) 115 [I a]=some (.bool false):=by simp_all [adk,Sq,cc,nq]
theorem XL(n:Nat)(a b:Int):cA (n+2) 53 [I a,I b]=some (I<|bf a b):=by refine eN F53 ?_;simp only[F53,qC,qT,Jn,abN,zba,ac,zIa,if_false,ag,bR,bf,zea,J0,J1,qc,C,qt];all_goals grind
def yB:List Int->Int
 | []=>0
 | x::l=>if x=0 then yB l else x
def c52(n:Nat)(l:List Int)(hl:l.length<=1000):cA (n+1) 52 [.sl<|l.map λx=>I x]=some (I<|yB l):=by
 refine fN F52 ?_
 delta F52 qS qX iL iR J0 jl nq qc qj qr qt qy
 simp only[D.asSl,zba];refine aV (λi s=>s=[I i]/\yB l=yB (l.drop i)) l.length 0 (zoa _) ⟨rfl,rfl⟩ (λi hi s a=>?_)<|λs a=>?_
 ·obtain⟨rfl,b⟩:=a;have hx:(l.map λx=>I x)[i]?=some (I l[i]):=by simp[hi]
  simp only[g0,zla,ag,zba,ac,zea,show((i:Int)<(l.length:Int)) from by omega,if_true,ai hi,hx,cc]
  have c:=zpb hi;rw[c] at b;by_cases h0:l[i]=0
  ·left;refine⟨[I ((i+1:Nat):Int)],?_,rfl,?_⟩
   ·simp only[h0,decide_true,zmc,zIa,if_false,az<|aB (i:=i) u0,zba];rfl
   ·simp_all [yB]
  ·simp_all [yB]
 ·obtain⟨rfl,b⟩:=a;refine⟨(1,[]),?_,?_⟩
  ·simp_all [g0,zla,ag,zba,ac,zea]
  ·rw[b];simp[yB]
end
section
variable{a:Int}
def Df{body:Bd}(h0:∀ a b:Int,b≠0->body [I a,I b]=some (.inl [I b,I<|a.tmod b]))(e:∀ a:Int,body [I a,I 0]=some (.inr (0,[I a]))) :
  ∀ (m:Nat) (a b:Int),b.natAbs=m->∃ r:Int,cB body [I a,I b]=some (0,[I r])/\r.natAbs=Nat.gcd a.natAbs b.natAbs:=by
 intro m
 induction m using Nat.strongRecOn with
 | _ m ih=>
  intro a b f;by_cases d:b=0
  ·subst d;exact⟨a,cT<|e a,j2⟩
  ·have c:(a.tmod b).natAbs<m:=by
    rw[Int.natAbs_tmod,<-f];exact zWa _ u0
   obtain⟨r,g,h⟩:=ih _ c b (a.tmod b) rfl;refine⟨r,?_,?_⟩
   ·rw[show cB body [I a,I b]=cB body [I b,I<|a.tmod b] from cz<|h0 a b d];exact g
   ·rw[h,Int.natAbs_tmod,zoc a.natAbs,Nat.gcd_rec b.natAbs a.natAbs,zoc]
def uh{a b:Int}{k:Nat}(c:a.natAbs<=k)(d:b.natAbs<=k):Nat.gcd a.natAbs b.natAbs<=k:=by
 rcases zMb a.natAbs with h|h
 ·simp_all
 ·exact zva (zfd h<|zhb _ _) c
theorem UP(n:Nat){a b:Int}(f:a.natAbs<=9223372036854775807)(c:b.natAbs<=9223372036854775807):cA (n+1) 152 [I a,I b]=some (I (Nat.gcd a.natAbs b.natAbs:Nat)):=by
 rw[YR]
 delta OG P iL iR J0 nq qt qy
 obtain⟨r,d,e⟩:=Df (body:=λ(v1:List D)=>
  (D.truth<|D.bool<|!(D.beq (Z v1 1)<|D.int .i64 0)).bind λb2=>
  if b2 then((afA .rem (Z v1 0)<|Z v1 1).bind λg=>
  some (Sum.inl [Z v1 1,g])) else(some<|Sum.inr (0,[Z v1 0])))
  (λa b c=>by simp[g0,g1,cc,ac,zba,c,decide_false,zSb,if_true,rP c])
  (λa=>by simp[g0,g1,cc,ac,zba,decide_true,zmc,zIa,if_false]) _ a b rfl
 refine q9 d ?_;have h:r.natAbs<=9223372036854775807:=by rw[e];exact uh f c
 grind [inR,g0,ny,sM]
theorem iY{g:Nat}(b:0<g)(h:(g:Int) ∣ a):a.tdiv g=a/g:=by grind
def zo(v:V):(bk v:Int) ∣ v.x:=zgb.2<|zEc (zhb _ _)<|zhb _ _
def zp(v:V):(bk v:Int) ∣ v.y:=zgb.2<|zEc (zhb _ _)<|znb _ _
def zq(v:V):(bk v:Int) ∣ v.z:=zgb.2<|znb _ _
def tY{g:Nat}{k:Int}(h:-k<=a/\a<=k)(b:(g:Int) ∣ a):-k<=a/g/\a/g<=k:=by
 have d:(a/(g:Int)).natAbs<=a.natAbs:=by
  rcases zMb g with e|e
  ·subst e;simp
  ·obtain⟨c,rfl⟩:=b;rw[zZa _ u0,zwa]
   exact zjb _ u0
 omega
def fP{k:Int}{v:V}(h:bd k v):bd k (aQ v):=⟨tY h.1<|zo v,tY h.2.1<|zp v,tY h.2.2<|zq v⟩
def cM(q:V×Int):D:=.st [X q.1,I q.2]
def MV:Int:=262144
def pw{P:Nat->V}{i j:Nat}(hi:bd MV<|P i)(a:bd MV<|P j):bd 524288 (R P i j):=by have:=lr a hi;simpa [MV,R] using this
def c96(n:Nat){a b c:V}(h:bd MV a)(o:bd MV b)(p:bd MV c):cA (n+3) 96 [X a,X b,X c]=some (cM (aQ<|V.cross (b.sub a)<|c.sub a,V.dot (aQ<|V.cross (b.sub a)<|c.sub a) a)):=by
 have j:bd 524288 (b.sub a):=by have:=lr o h;simpa [MV] using this
 have l:bd 524288 (c.sub a):=by have:=lr p h;simpa [MV] using this
 refine GH F96 ?_
 delta F96 Q P J1 qb qc C
 simp[Lm n o h H,Lm n p h H,zba,Xl (n+1) j l H]
 have f:=kc j l;generalize V.cross (b.sub a) (c.sub a)=m at *;have e1:m.x.natAbs<=549755813888:=by have:=f.1;omega
 have e2:m.y.natAbs<=549755813888:=by have:=f.2.1;omega
 have e3:m.z.natAbs<=549755813888:=by have:=f.2.2;omega
 have e4:=uh e1 e2;have e5:Nat.gcd (Nat.gcd m.x.natAbs m.y.natAbs) m.z.natAbs=bk m:=rfl;simp[qF,qH,qK,zba,UP (n+1) (a:=m.x) (b:=m.y) u0 u0,UP (n+1) (a:=((Nat.gcd m.x.natAbs m.y.natAbs:Nat):Int)) (b:=m.z) (by rw[zia];omega) u0,zia,e5,bR,ac,zea]
 have q:=fP f;have fin:∀ w:V,w=aQ m->cA (n+2) 101 [X w,X a]=some (I<|V.dot w a):=λw r=>Ll (n+1) (r ▸ q) h H
 by_cases hg:(bk m:Int)>1
 ·have g:(bk m:Int)≠0:=u0
  have d:0<bk m:=u0
  have r1:inR (m.x.tdiv<|bk m):=by rw[iY d<|zo m];have:=tY f.1<|zo m;simp[inR];omega
  have s:inR (m.y.tdiv<|bk m):=by rw[iY d<|zp m];have:=tY f.2.1<|zp m;simp[inR];omega
  have t:inR (m.z.tdiv<|bk m):=by rw[iY d<|zq m];have:=tY f.2.2<|zq m;simp[inR];omega
  have i:(D.st [I<|m.x.tdiv<|bk m,I<|m.y.tdiv<|bk m,I<|m.z.tdiv<|bk m])=X (aQ m):=by rw[iY d<|zo m,iY d<|zp m,iY d<|zq m];rfl
  simp[zma hg,uN g r1,uN g s,uN g t,zba,g0,i,fin _ rfl];rfl
 ·have i:m=aQ m:=by
   rcases zua 0 (bk m) with k|k
   ·have e:bk m=1:=u0
    have:=kq m;rw[e] at this;rw[this]
    conv=>rhs;rw[<-this]
    apply V.ext'<;>simp[V.smul]
   ·have e:bk m=0:=u0
    have hm:m=V.zero:=by
     by_cases hm:m=V.zero
     ·exact hm
     ·have:=kh hm;omega
    rw[hm];rfl
  simp[zha hg,zba,g0,fin m i];rw[<-i];rfl
end
section
variable{A B:Int}{l:List V}
def ac8(a b:Int):D.sl [I a,I b]=D.sl ([a,b].map λx=>I x):=rfl
def ac9(a b c:Int):D.sl [I a,I b,I c]=D.sl ([a,b,c].map λx=>I x):=rfl
def c51(n:Nat)(a b c d:Int):cA (n+3) 51 [.st [I a,I b],.st [I c,I d]]=some (I<|yB [bf a c,bf b d]):=by
 refine eN F51 ?_
 delta F51 Q C
 simp[show ∀ a b:Int,D.get (.st [I a,I b]) [0]=some (I a) from λ_ _=>rfl,show ∀ a b:Int,D.get (.st [I a,I b]) [1]=some (I b) from λ_ _=>rfl,zba,XL,ac8,c52 (n+1) [bf a c,bf b d] j2]
def abH(n:Nat)(p q:V×Int):cA (n+3) 100 [cM p,cM q]=some (I<|yB [bf p.1.x q.1.x,bf p.1.y q.1.y,bf p.1.z q.1.z]):=by
 refine eN Sa ?_
 delta Sa Q C
 simp[show ∀ p:V×Int,D.get (cM p) [0]=some (X p.1) from λ_=>rfl,show ∀ p:V×Int,D.get (cM p) [0,0]=some (I p.1.x) from λ_=>rfl,show ∀ p:V×Int,D.get (cM p) [0,1]=some (I p.1.y) from λ_=>rfl,show ∀ p:V×Int,D.get (cM p) [0,2]=some (I p.1.z) from λ_=>rfl,qF,qH,qK,zba,XL,ac9,c52 (n+1) [bf p.1.x q.1.x,bf p.1.y q.1.y,bf p.1.z q.1.z] j2]
def A1(a:Int):bf a 0=sg a:=rfl
theorem YG(a:Int):-1<=sg a/\sg a<=1:=by grind [sg]
def uj(a b:Int):inR (sg a*sg b):=by have:=jG (A:=1) (B:=1) (YG a)<|YG b;simp[inR];omega
def Ya(v:V):D.fld (X v) 0=some (I v.x):=rfl
def Yb(v:V):D.fld (X v) 1=some (I v.y):=rfl
def Yc(v:V):D.fld (X v) 2=some (I v.z):=rfl
def Rr:inR (0+1):=⟨H,H⟩
def yA:inR (1+1):=⟨H,H⟩
def Rs:inR (2+1):=⟨H,H⟩
def abI(n:Nat){m u v:V}(a:bd A u)(b:bd B v)(h:2*(A*B)<=9223372036854775807):cA (n+3) 104 [X m,X u,X v]=some (I<|zL m<|V.cross u v):=by
 refine GH Sd ?_
 delta Sd P qJ iL iR J0 J3 nq qc qf qi qj C qr qt qy
 simp only[Xl (n+1) a b h,zba];generalize V.cross u v=c;unfold zL;by_cases hx:m.x=0
 ·refine ct (s':=[I 1]) (by simp only[g0,ag,zba,ac,MA,Ya,cc,hx,decide_true,zmc,zIa,if_false,az Rr];rfl) ?_
  by_cases hy:m.y=0
  ·refine ct (s':=[I 2]) (by simp only[g0,ag,zba,ac,I6,Yb,cc,hy,decide_true,zmc,zIa,if_false,az yA];rfl) ?_
   by_cases hz:m.z=0
   ·refine ct (s':=[I 3]) (by simp only[g0,ag,zba,ac,MB,Yc,cc,hz,decide_true,zmc,zIa,if_false,az Rs];rfl) ?_
    refine dY (r:=(1,[])) (by simp only[g0,ag,zba,ac];rfl) ?_
    simp_all
   ·refine dY (r:=(0,[I<|sg c.z*sg m.z])) ?_ (by simp[hx,hy,hz,zNc])
    simp only[g0,ag,zba,ac,MB,Yc,qK,cc,hz,decide_false,zSb,if_true,XL,A1,cL<|uj _ _];rfl
  ·refine dY (r:=(0,[I<|sg c.y*sg m.y])) ?_ (by simp[hx,hy,zNc])
   simp only[g0,ag,zba,ac,I6,Yb,qH,cc,hy,decide_false,zSb,if_true,XL,A1,cL<|uj _ _];rfl
 ·refine dY (r:=(0,[I<|sg c.x*sg m.x])) ?_ (by simp[hx,zNc])
  simp only[g0,ag,zba,ac,MA,Ya,qF,cc,hx,decide_false,zSb,if_true,XL,A1,cL<|uj _ _];rfl
theorem US(n:Nat)(a:Int):cA (n+1) 215 [I a]=some (I<|sg a):=by refine fN Tg ?_;simp only[Tg,qC,Jn,ag,bR,zba,ac,zea,sg,J0,J1,qc];all_goals grind
def ab5(n:Nat)(m c:V):cA (n+2) 188 [X m,X c]=some (I<|zL m c):=by
 refine eN S9 ?_
 delta S9 P qJ iL iR J0 J3 nq qc qj C qr qt qy zL
 by_cases hx:m.x=0
 ·refine ct (s':=[I 1]) (by simp only[g0,ag,zba,ac,MA,qF,cc,hx,decide_true,zmc,zIa,if_false,az Rr];rfl) ?_
  by_cases hy:m.y=0
  ·refine ct (s':=[I 2]) (by simp only[g0,ag,zba,ac,I6,qH,cc,hy,decide_true,zmc,zIa,if_false,az yA];rfl) ?_
   by_cases hz:m.z=0
   ·refine ct (s':=[I 3]) (by simp only[g0,ag,zba,ac,MB,qK,cc,hz,decide_true,zmc,zIa,if_false,az Rs];rfl) ?_
    refine dY (r:=(1,[])) (by simp only[g0,ag,zba,ac];rfl) ?_
    simp_all
   ·refine dY (r:=(0,[I<|sg m.z*sg c.z])) ?_ (by simp[hx,hy,hz])
    simp only[g0,ag,zba,ac,MB,qK,cc,hz,decide_false,zSb,if_true,US,cL<|uj _ _];rfl
  ·refine dY (r:=(0,[I<|sg m.y*sg c.y])) ?_ (by simp[hx,hy])
   simp only[g0,ag,zba,ac,I6,qH,cc,hy,decide_false,zSb,if_true,US,cL<|uj _ _];rfl
 ·refine dY (r:=(0,[I<|sg m.x*sg c.x])) ?_ (by simp[hx])
  simp only[g0,ag,zba,ac,MA,qF,cc,hx,decide_false,zSb,if_true,US,cL<|uj _ _];rfl
instance decLex (a b:V):Decidable (aH a b):=by unfold aH;exact inferInstance
def Xk(n:Nat)(a b:V):cA (n+1) 105 [X a,X b]=some (.bool<|decide (aH a b)):=by
 refine eN Se ?_;simp only[Se,Q,P,qT,qF,qH,qK,zba,cc,ac,ag,zCa,decide_eq_false_iff_not,nq,qt];by_cases h1:a.x=b.x
 ·by_cases h2:a.y=b.y
  ·simp[h1,h2,aH]
  ·simp_all [aH,not_true,not_false_iff,zgd,false_or,true_and]
 ·simp_all [aH,not_false_iff,false_and,or_false]
def bc(l:List V):D:=.sl<|l.map X
def uH(l:List V)(m:V)(d:Int):Bool:=l.all λx=>decide (V.dot m x<=d)
def nC(l:List V)(m:V)(d:Int):Bool:=l.any λx=>decide (V.dot m x<d)
def Fu{i:Nat}(h:i<l.length):(l.map X)[i]?=some (X l[i]):=by simp[h]
theorem abL(n:Nat){m:V}{d:Int}(hl:∀ x∈l,bd MV x)(hm:bd A m)(g:3*(A*262144)<=9223372036854775807)(b:l.length<=1000000):cA (n+2) 109 [bc l,X m,I d]=some (.bool<|uH l m d&&nC l m d):=by
 refine GH Sj ?_
 delta Sj qT qX iL iR J0 S qc qe qh qj C ql qr qy
 refine aV (λi s=>s=[.bool<|nC (l.take i) m d,I i]/\uH (l.take i) m d=true) l.length 0 (zoa _) ⟨by simp[nC],by simp[uH]⟩ (λi hi s a=>?_)<|λs a=>?_
 ·obtain⟨rfl,c⟩:=a;have f:=zAa hi;have j:=IE n hm (hl l[i]<|zya hi) g;simp only[bc,D.asSl,g0,g1,zla,ag,bR,zba,ac,zea,show((i:Int)<(l.length:Int)) from by omega,if_true,ai hi,Fu hi,j]
  by_cases hgt:V.dot m l[i]>d
  ·right;refine⟨(0,[.bool false]),by simp only[hgt,if_true],?_⟩
   have:uH l m d=false:=by rw[zpc];intro h;have:=zxa.1 h l[i]<|zya hi;grind
   simp_all
  ·left;refine⟨[.bool<|nC (l.take<|i+1) m d,I ((i+1:Nat):Int)],?_,rfl,?_⟩
   ·simp only[hgt,if_false,az<|aB (i:=i) u0,zba]
    have e:nC (l.take<|i+1) m d=(nC (l.take i) m d||decide (V.dot m l[i]<d)):=by rw[f];simp only[nC,List.any_append,List.any_cons,List.any_nil,Bool.or_false]
    grind
   ·rw[f];simp only[uH,z5c,Y] at c ⊢
    simp_all
 ·obtain⟨rfl,c⟩:=a;refine⟨(1,[.bool<|nC (l.take l.length) m d]),?_,?_⟩
  ·simp[bc,D.asSl,g0,g1,zla,ag,zba,ac,zea,zgd,if_false]
  ·simp_all
theorem c98(n:Nat){m:V}{d:Int}(hl:∀ x∈l,bd MV x)(hm:bd A m)(g:3*(A*262144)<=9223372036854775807)(b:l.length<=1000000):cA (n+2) 98 [bc l,cM (m,d)]=some (.bool<|uH l m d&&nC l m d):=by
 refine eN F98 ?_
 delta F98 Q qT qS qX iL iR J0 S bT bq jl qc qe qj C qr qy
 simp only[bc,D.asSl,zba];refine aV (λi s=>s=[.bool<|!nC (l.take i) m d,I i]/\uH (l.take i) m d=true) l.length 0 (zoa _) ⟨by simp[nC],by simp[uH]⟩ (λi hi s a=>?_)<|λs a=>?_
 ·obtain⟨rfl,c⟩:=a;have f:=zAa hi;have j:=Ll n hm (hl l[i]<|zya hi) g;simp only[g0,g1,zla,ag,bR,zba,ac,zea,show((i:Int)<(l.length:Int)) from by omega,if_true,ai hi,Fu hi,show D.get (cM (m,d)) [0]=some (X m) from rfl,show D.get (cM (m,d)) [1]=some (I d) from rfl,j,cc]
  by_cases hgt:V.dot m l[i]>d
  ·right;refine⟨(0,[.bool false]),by simp only[hgt,if_true],?_⟩
   have:uH l m d=false:=by rw[zpc];intro h;have:=zxa.1 h l[i]<|zya hi;grind
   simp_all
  ·left;refine⟨[.bool<|!nC (l.take<|i+1) m d,I ((i+1:Nat):Int)],?_,rfl,?_⟩
   ·simp only[hgt,if_false,az<|aB (i:=i) u0,zba]
    have e:(!nC (l.take<|i+1) m d)=(!nC (l.take i) m d&&decide (V.dot m l[i]=d)):=by rw[f];simp only[nC,List.any_append,List.any_cons,List.any_nil,Bool.or_false,Bool.not_or];all_goals grind
    grind
   ·rw[f];simp only[uH,z5c,Y] at c ⊢
    simp_all
 ·obtain⟨rfl,c⟩:=a;refine⟨(1,[.bool<|!nC (l.take l.length) m d]),?_,?_⟩
  ·simp_all [g0,g1,zla,ag,zba,ac]
  ·simp_all [zdb,g0,aD]
end
section
variable{l:List V}{K:List<|V×Int}{q:V×Int}{j:Nat}
def nU{α:Type}{body:Bd}{s0:List D}{k:Nat×List D->Option α}{Y:α->Prop}(J:Nat->List D->Prop)(n i0:Nat)(hi:i0<=n)(h0:J i0 s0)
  (f:∀ i,i<n->∀ s,J i s->∃ z,body s=some z/\match z with|.inl s'=>J (i+1) s'|.inr r=>∃ y,k r=some y/\Y y)
  (e:∀ s,J n s->∃ z,body s=some z/\match z with|.inl _=>False|.inr r=>∃ y,k r=some y/\Y y):∃ y,(cB body s0).bind k=some y/\Y y:=by
 obtain⟨m,hm⟩:∃ m,m=n-i0:=⟨_,rfl⟩
 induction m generalizing i0 s0 with
 | zero=>
  have:i0=n:=u0
  subst this;obtain⟨z,d,a⟩:=e s0 h0;cases z with
  | inl s'=>exact a.elim
  | inr r=>obtain⟨y,b,c⟩:=a;exact⟨y,by rw[show cB body s0=some r from cT d];exact b,c⟩
 | succ m ih=>
  obtain⟨z,d,a⟩:=f i0 u0 s0 h0
  cases z with
  | inl s'=>
   obtain⟨y,b,c⟩:=ih (i0:=i0+1) u0 a u0
   exact⟨y,by rw[show cB body s0=cB body s' from cz d];exact b,c⟩
  | inr r=>obtain⟨y,b,c⟩:=a;exact⟨y,by rw[show cB body s0=some r from cT d];exact b,c⟩
def aK{α:Type}{body:Bd}{s s':List D}{k:Nat×List D->Option α}{y:α}(h:body s=some (.inl s'))(a:(cB body s').bind k=some y):(cB body s).bind k=some y:=by
 have:cB body s=cB body s':=cz h
 simp_all
def dT{α:Type}{body:Bd}{s:List D}{r:Nat×List D}{k:Nat×List D->Option α}{y:α}(h:body s=some (.inr r))(a:k r=some y):(cB body s).bind k=some y:=by
 have:cB body s=some r:=cT h
 simp_all
def c8{α:Type}{body:Bd}{s0:List D}{k:Nat×List D->Option α}{y:α}(J:Nat->List D->Prop)(n i0:Nat)(hi:i0<=n)(h0:J i0 s0)
  (d:∀ i,i<n->∀ s,J i s->(∃ s',body s=some (.inl s')/\J (i+1) s')\/∃ r,body s=some (.inr r)/\k r=some y) (c:∀ s,J n s->∃ r,body s=some (.inr r)/\k r=some y):(cB body s0).bind k=some y:=by
 obtain⟨m,hm⟩:∃ m,m=n-i0:=⟨_,rfl⟩
 induction m generalizing i0 s0 with
 | zero=>
  have:i0=n:=u0
  subst this;obtain⟨r,a,b⟩:=c s0 h0;exact dT a b
 | succ m ih=>
  rcases d i0 u0 s0 h0 with⟨s',a,b⟩|⟨r,a,b⟩
  ·exact aK a<|ih (i0:=i0+1) u0 b u0
  ·exact dT a b
def O{α β:Type}{A:Option α}{g:α->Option β}{z:α}{y:β}(h:A=some z)(a:g z=some y):Option.bind A g=some y:=by simp_all
theorem J{α β:Type}{A:Option α}{g:α->Option β}{y:β}(z:α)(k:g z=some y)(h:A=some z:=by exact rfl):Option.bind A g=some y:=O h k
theorem kV(u v:V):D.beq (X u) (X v)=decide (u=v):=by
 simp[X,D.beq,D.beqs,decide_true,zPb,Bool.and_true];by_cases h:u=v
 ·simp_all
 ·by_cases h1:u.x=v.x<;>by_cases h2:u.y=v.y<;>by_cases h3:u.z=v.z<;>simp[h,h1,h2,h3];exact h<|V.ext' h1 h2 h3
theorem QV(p q:V×Int):D.beq (cM p) (cM q)=decide (p=q):=by have:D.beq (cM p) (cM q)=(D.beq (X p.1) (X q.1)&&(D.beq (I p.2) (I q.2)&&true)):=rfl;grind [kV,cc]
def jR(K:List<|V×Int):List D:=K.map λq=>.st [cM q,.bool true]
theorem zT:∀ (K:List<|V×Int) (q:V×Int),afH (jR K) (cM q)=if q∈K then some (.bool true) else none
 | [],q=>by simp[jR,afH]
 | p::K,q=>by have ih:=zT K q;simp[jR,z4a,afH,QV] at ih ⊢;all_goals grind
theorem zV:∀ (K:List<|V×Int) (q:V×Int),q ∉ K->afI (jR K) (cM q) (.bool true)=jR (K++[q])
 | [],q,_=>rfl
 | p::K,q,h=>by
  have ih:=zV K q<|λhq=>h<|zsa _ hq
  simp_all [jR,z4a,zrb,afI,QV,decide_false]
def I8(K:List<|V×Int):(jR K).map yK=K.map cM:=by simp[jR,yK]
def supp(l:List V)(q:V×Int):Bool:=uH l q.1 q.2&&nC l q.1 q.2
def kQ(l:List V)(K:List<|V×Int)(q:V×Int):List (V×Int):=if q∈K then K else if supp l q then K++[q] else K
theorem xK{x:V×Int}(h:x∈K):x∈kQ l K q:=by all_goals grind [kQ]
theorem DU(h:supp l q=true):q∈kQ l K q:=by all_goals grind [kQ]
theorem DT{x:V×Int}(h:x∈kQ l K q):x∈K\/(x=q/\supp l q=true):=by all_goals grind [kQ]
theorem xJ(h:K.Nodup):(kQ l K q).Nodup:=by all_goals grind [kQ,List.mem_singleton.1]
def to(a b c:V):V×Int:=(aQ<|V.cross (b.sub a)<|c.sub a,V.dot (aQ<|V.cross (b.sub a)<|c.sub a) a)
def qD(q:V×Int):V×Int:=(q.1.neg,-q.2)
def Cd(l:List V)(i j k:Nat)(q:V×Int):Prop:=(to (l.getD i V.zero) (l.getD j V.zero)<|l.getD k V.zero).1≠V.zero/\(q=to (l.getD i V.zero) (l.getD j V.zero) (l.getD k V.zero)\/q=qD (to (l.getD i V.zero) (l.getD j V.zero)<|l.getD k V.zero))
structure Known(l:List V)(i j k:Nat)(K:List<|V×Int):Prop where
 nd:K.Nodup
 ok:∀ q∈K,supp l q=true/\∃ i j k,k<j/\j<i/\i<l.length/\Cd l i j k q
 all:∀ i' j' k',k'<j'->j'<i'->i'<l.length->(i'<i\/i'=i/\(j'<j\/j'=j/\k'<k))->∀ q,Cd l i' j' k' q->supp l q=true->q∈K
theorem UF{a b c:V}(d:bd MV a)(h:bd MV b)(i:bd MV c):bd 549755813888 (to a b c).1/\inR (to a b c).2/\inR (-(to a b c).2):=by
 have e:bd 524288 (b.sub a):=by have:=lr h d;simpa [MV] using this
 have f:bd 524288 (c.sub a):=by have:=lr i d;simpa [MV] using this
 have g:=fP<|kc e f;have j:=Ld g d;grind [MV,inR,to]
def Known.step{i k:Nat}(h:Known l i j k K)(c:k<j)(b:j<i)(hi:i<l.length)(d:(to (l.getD i V.zero) (l.getD j V.zero)<|l.getD k V.zero).1≠V.zero) :
  Known l i j (k+1) (kQ l (kQ l K<|to (l.getD i V.zero) (l.getD j V.zero)<|l.getD k V.zero)<|qD<|to (l.getD i V.zero) (l.getD j V.zero)<|l.getD k V.zero):=by
 refine⟨xJ<|xJ h.nd,λq hq=>?_,λf g k' m n o p q hq a=>?_⟩
 ·rcases DT hq with hq|⟨rfl,a⟩
  ·rcases DT hq with hq|⟨rfl,a⟩
   ·exact h.ok q hq
   ·exact⟨a,i,j,k,c,b,hi,d,.inl rfl⟩
  ·exact⟨a,i,j,k,c,b,hi,d,.inr rfl⟩
 ·by_cases e:f=i/\g=j/\k'=k
  ·obtain⟨rfl,rfl,rfl⟩:=e;rcases hq.2 with rfl|rfl
   ·exact xK<|DU a
   ·exact DU a
  ·exact xK<|xK<|h.all f g k' m n o u0 q hq a
def Known.skip{i k:Nat}(h:Known l i j k K)(m:(to (l.getD i V.zero) (l.getD j V.zero)<|l.getD k V.zero).1=V.zero):Known l i j (k+1) K:=by
 refine⟨h.nd,h.ok,λa b k' c d f n q hq g=>?_⟩;by_cases e:a=i/\b=j/\k'=k
 ·obtain⟨rfl,rfl,rfl⟩:=e;exact z8a m hq.1
 ·exact h.all a b k' c d f u0 q hq g
def Known.next{i:Nat}(h:Known l i j j K):Known l i (j+1) 0 K:=
 ⟨h.nd,h.ok,λd e k' a b c f=>h.all d e k' a b c u0⟩
def Known.next2{i:Nat}(h:Known l i i 0 K):Known l (i+1) 0 0 K:=
 ⟨h.nd,h.ok,λd e k' a b c f=>h.all d e k' a b c u0⟩
theorem qR{α β:Type}{f:α->List β}{c:Nat}:∀ l:List α,(∀ x∈l,(f x).length=c)->(l.flatMap f).length=l.length*c
 | [],_=>j2
 | x::l,h=>by rw[List.flatMap_cons,zFa,h x zBa,qR l<|λy a=>h y<|zsa _ a,zOa,Nat.succ_mul];omega
def Known.len{i k:Nat}(h:Known l i j k K)(hl:l.length<=100):K.length<=2000000:=by
 have a:=zjc (l₂:=(List.range l.length).flatMap λi=>(List.range l.length).flatMap λj=>(List.range l.length).flatMap λk=>[to (l.getD i V.zero) (l.getD j V.zero)<|l.getD k V.zero,qD<|to (l.getD i V.zero) (l.getD j V.zero)<|l.getD k V.zero]) h.nd (λq hq=>by
  obtain⟨_,i,j,k,a,f,d,e⟩:=h.ok q hq;refine zqb.2 ⟨i,zRa.2 d,zqb.2 ⟨j,zRa.2 u0,zqb.2 ⟨k,zRa.2 u0,?_⟩⟩⟩
  rcases e.2 with rfl|rfl<;>simp)
 rw[qR (c:=l.length*(l.length*2)) _ (λi _=>by rw[qR (c:=l.length*2) _ (λj _=>by rw[qR (c:=2) _<|λk _=>rfl,zec]),zec]),zec] at a
 refine zva a ?_;have a1:l.length*2<=200:=u0
 have a2:=zHa hl a1;have b:=zHa hl a2;exact b
def eH{i:Nat}(h:i<l.length):(l.map X)[i]?=some (X<|l.getD i V.zero):=by simp[h,List.getD]
def dh{i:Nat}(h:i<l.length):l.getD i V.zero∈l:=by simp[List.getD,h]
def Jr{n:Nat}{K:List<|V×Int}(hl:∀ x∈l,bd MV x)(hq:bd 549755813888 q.1)(a:l.length<=1000) :
  (if(!decide (q∈K))=true then((cA (n+2) 98 [bc l,cM q]).bind λr=>D.truth r) else some false)=some (!decide (q∈K)&&supp l q):=by
 obtain⟨m,d⟩:=q;have b:=c98 n (d:=d) hl hq H u0
 simp only[b,zba,ac];cases decide ((m,d)∈K)<;>rfl
end
section
variable{l:List V}{a:V}{K:List<|V×Int}{j:Nat}{q:V×Int}
theorem Pf{b:V}(h:aH a b):yB [bf a.x b.x,bf a.y b.y,bf a.z b.z]=-1:=by all_goals grind [aH,yB,bf]
theorem Pe{b:V}(h:aH b a):yB [bf a.x b.x,bf a.y b.y,bf a.z b.z]=1:=by all_goals grind [aH,yB,bf,Int.not_lt.2,Int.le_of_lt]
def Pd(a:V):yB [bf a.x a.x,bf a.y a.y,bf a.z a.z]=0:=by simp[yB,bf]
theorem Iq{α:Type}(key:α->V):∀ (K:List α),K.Pairwise (λa b=>key a≠key b)->∃ L:List α,L.Perm K/\L.Pairwise (λa b=>aH (key a)<|key b)
 | [],_=>⟨[],.refl _,.nil⟩
 | x::K,h=>by
  obtain⟨g,i⟩:=zNa.1 h;obtain⟨L,p1,l⟩:=Iq key K i;have d:∀ y∈L,key x≠key y:=λy j=>g y<|p1.subset j;have e:∀ L:List α,L.Pairwise (λa b=>aH (key a)<|key b)->(∀ y∈L,key x≠key y)->∃ M:List α,M.Perm (x::L)/\M.Pairwise (λa b=>aH (key a)<|key b):=by
   intro L
   induction L with
   | nil=>intro _ _;exact⟨[x],.refl _,j2⟩
   | cons y L ih=>
    intro hp f;obtain⟨q1,m⟩:=zNa.1 hp;rcases ur (f y zBa) with k|k
    ·refine⟨x::y::L,.refl _,zNa.2 ⟨λz c=>?_,hp⟩⟩;rcases zMa.1 c with rfl|c
     ·exact k
     ·exact nS k<|q1 z c
    ·obtain⟨M,m1,m2⟩:=ih m<|λz c=>f z<|zsa _ c;refine⟨y::M,(m1.cons y).trans<|.swap x y L,zNa.2 ⟨λz c=>?_,m2⟩⟩;all_goals grind
  obtain⟨M,m1,m2⟩:=e L l d;exact⟨M,m1.trans<|p1.cons x,m2⟩
def Hg(n:Nat)(p q:V×Int):wO (da cB (cA<|n+3)<|kP cB<|cA<|n+3) (cj 100) (cM p) (cM q)=some (yB [bf p.1.x q.1.x,bf p.1.y q.1.y,bf p.1.z q.1.z]):=by
 unfold wO;rw[show ∀ l,(da cB (cA<|n+3)<|kP cB<|cA<|n+3).call (cj 100) l=cA (n+3) 100 l from λl=>congrFun (zEa (cA<|n+3)<|show rV (cj 100)=100 by kernel_rfl) l,abH]
 rfl
theorem LG(n:Nat):∀ (L:List<|V×Int),L.Pairwise (λa b=>aH a.1 b.1)->vz (da cB (cA<|n+3)<|kP cB<|cA<|n+3) (cj 100) (L.map cM)=true
 | [],_=>rfl
 | p::L,h=>by
  obtain⟨c,d⟩:=zNa.1 h;simp only[z4a,vz,Y,zxa,zmb];refine⟨⟨?_,?_⟩,LG n L d⟩
  ·simp_all [Ki,Hg,Pd]
  ·rintro _ ⟨q,hq,rfl⟩;simp only[uu,Ki,Hg,Pf<|c q hq,Pe<|c q hq];decide
def Qw(n:Nat){L:List<|V×Int}(hp:L.Perm K)(h:L.Pairwise<|λa b=>aH a.1 b.1):ld (da cB (cA<|n+3)<|kP cB<|cA<|n+3) (cj 100) (K.map cM)=some (L.map cM):=
 yd (LG n L h) (hp.symm.map _)
def y(l:List V)(i:Nat):V:=l.getD i V.zero
theorem sf(a b:V):V.dot a.neg b=- V.dot a b:=by simp[V.dot,V.neg];grind
def Cd.dist{i k:Nat}(h:Cd l i j k q):q.2=V.dot q.1 (l.getD i V.zero):=by
 rcases h.2 with rfl|rfl
 ·rfl
 ·simp[qD,sf];rfl
def It(h:supp l q=true){x:V}(hx:x∈l):V.dot q.1 x<=q.2:=by simp_all [supp,uH,Y,zxa,zea]
theorem Known.keys{i k:Nat}(h:Known l i j k K):K.Pairwise (λa b=>a.1≠b.1):=by refine z3c (λ{a b} n o c e=>c ?_) h.nd;obtain⟨s1,i1,q,s,_,_,g,d⟩:=h.ok a n;obtain⟨s2,p,r,t,_,_,m,f⟩:=h.ok b o;have e1:=d.dist;have e2:=f.dist;have l1:=It s1<|dh m;have u:=It s2<|dh g;grind
theorem p45(n:Nat)(hl:∀ x∈l,bd MV x)(e:l.length<=100):∃ y,cA (n+6) 45 [bc l]=some y/\∃ K L:List<|V×Int,Known l l.length 0 0 K/\L.Perm K/\L.Pairwise (λa b=>aH a.1 b.1)/\y=.sl (L.map cM):=by
 rw[u45];unfold WZ;simp only[bc,D.asSl,zba];refine nU (λi s=>∃ K,s=[I i,.sl<|jR K]/\Known l i 0 0 K) l.length 0 (zoa _) ⟨[],rfl,⟨List.nodup_nil,j2,λJ M k' _ _ _ h=>u0⟩⟩ (λi hi s d=>?_)<|λs d=>?_
 ·obtain⟨K,rfl,c⟩:=d;simp only[g0,g1,zla,ag,zba,ac,zea,show((i:Int)<(l.length:Int)) from by omega,if_true,D.els]
  refine nU (λj s=>∃ K,s=[I j,.sl<|jR K]/\Known l i j 0 K) i 0 (zoa _) ⟨K,rfl,c⟩ (λj F s d=>?_)<|λs d=>?_
  ·obtain⟨K,rfl,c⟩:=d;simp only[g0,g1,ag,zba,ac,zea,show((j:Int)<(i:Int)) from by omega,if_true,D.els]
   refine nU (λk s=>∃ K,s=[I k,.sl<|jR K]/\Known l i j k K) j 0 (zoa _) ⟨K,rfl,c⟩ (λk G s d=>?_)<|λs d=>?_
   ·obtain⟨K,rfl,c⟩:=d;have f:=UF (hl _<|dh hi) (hl _<|dh<|show j<l.length by omega)<|hl _<|dh<|show k<l.length by omega
    have B:=c96 (n+2) (hl _<|dh hi) (hl _<|dh<|show j<l.length by omega)<|hl _<|dh<|show k<l.length by omega
    rw[show(aQ<|V.cross ((l.getD j V.zero).sub<|l.getD i V.zero)<|(l.getD k V.zero).sub<|l.getD i V.zero,V.dot (aQ<|V.cross ((l.getD j V.zero).sub<|l.getD i V.zero)<|(l.getD k V.zero).sub<|l.getD i V.zero)<|l.getD i V.zero)=to (l.getD i V.zero) (l.getD j V.zero) (l.getD k V.zero) from rfl] at B;simp only[g0,g1,ag,zba,ac,zea,show((k:Int)<(j:Int)) from by omega,if_true,D.els,zla,ai hi,ai (show j<l.length by omega),ai (show k<l.length by omega),eH hi,eH (show j<l.length by omega),eH (show k<l.length by omega),B]
    by_cases hz:(to (l.getD i V.zero) (l.getD j V.zero)<|l.getD k V.zero).1=V.zero
    ·have t:D.beq (X (to (l.getD i V.zero) (l.getD j V.zero)<|l.getD k V.zero).1) (D.st [D.int .i64 0,D.int .i64 0,D.int .i64 0])=true:=by
      rw[w8,kV];exact zka hz
     simp only[show D.get (cM<|to (l.getD i V.zero) (l.getD j V.zero)<|l.getD k V.zero) [0]=some (X (to (l.getD i V.zero) (l.getD j V.zero)<|l.getD k V.zero).1) from rfl,zba,t,ac,if_true,g0,D.els,az<|aB (i:=k) u0]
     exact⟨_,rfl,K,rfl,c.skip hz⟩
    ·have t:D.beq (X (to (l.getD i V.zero) (l.getD j V.zero)<|l.getD k V.zero).1) (D.st [D.int .i64 0,D.int .i64 0,D.int .i64 0])=false:=by
      rw[w8,kV];exact zfa hz
     have step:=c.step G F hi hz;generalize hq:to (l.getD i V.zero) (l.getD j V.zero) (l.getD k V.zero)=q at *;obtain⟨b1,b2,E⟩:=f;have u:D.st [X q.1.neg,I<|-q.2]=cM (qD q):=rfl;have N:bd 549755813888 (qD q).1:=tJ b1;simp only[show D.get (cM q) [0]=some (X q.1) from rfl,show D.get (cM q) [1]=some (I q.2) from rfl,zba,t,ac,zIa,if_false,Q8 (n+4) b1 H,ny E,u]
     have one:∀ (K:List<|V×Int) (p:V×Int),bd 549755813888 p.1->((afP .not<|Option.getD (afH (jR K)<|cM p)<|D.bool false).bind λA=>(D.truth A).bind λg=>Option.bind (if g then((cA (n+5) 98 [D.sl<|l.map X,cM p]).bind λw=>D.truth w) else(some false)) λm=>
       if m then(some ((0:Nat),[D.sl [cM q,cM<|qD q],D.sl<|afI (jR K) (cM p)<|D.bool true])) else(some (0,[D.sl [cM q,cM<|qD q],D.sl<|jR K])))=some (0,[D.sl [cM q,cM<|qD q],D.sl<|jR<|kQ l K p]):=λK p hp=>by
      rw[zT];have v:=Jr (n:=n+3) (K:=K) hl hp u0
      simp only[bc] at v;by_cases hm:p∈K
      ·simp[hm,aD,ac,kQ]
      ·simp only[hm,if_false,Option.getD_none,aD,zSb,zba,ac,if_true,decide_false,zPb] at v ⊢;rw[v];simp only[zba,kQ,hm,if_false];split
       ·rw[zV K p hm]
       ·rfl
     refine⟨.inl [I ((k+1:Nat):Int),.sl<|jR<|kQ l (kQ l K q)<|qD q],?_,_,rfl,step⟩;refine O (z:=(0,[.sl<|jR<|kQ l (kQ l K q)<|qD q])) ?_ ?_
     ·refine aK (s':=[.sl [cM q,cM<|qD q],I 1,.sl<|jR<|kQ l K q]) ?_<|aK (s':=[.sl [cM q,cM<|qD q],I 2,.sl<|jR<|kQ l (kQ l K q)<|qD q]) ?_<|dT (r:=(0,[.sl<|jR<|kQ l (kQ l K q)<|qD q])) ?_ rfl
      ·simp only[g0,g1,g2,D.els,ag,zba,ac,zea,show((0:Int)<2) from by decide,if_true,zOa,zzb,show D.idx (I 0) (0+1+1)=some 0 from rfl,zAb,az Rr]
       simp_all
      ·simp only[g0,g1,g2,D.els,ag,zba,ac,zea,show((1:Int)<2) from by decide,if_true,zOa,zzb,show D.idx (I 1) (0+1+1)=some 1 from rfl,zlb,zAb,az yA]
       simp_all
      ·simp only[g0,g1,g2,D.els,ag,zba,ac];rfl
     ·simp only[g0,D.els,az<|aB (i:=k) u0,zba]
      rfl
   ·obtain⟨K,rfl,c⟩:=d;simp only[g0,g1,ag,zba,ac,zea,zgd,if_false,D.els];refine⟨_,rfl,.inl [I ((j+1:Nat):Int),.sl<|jR K],?_,K,rfl,c.next⟩
    simp only[g0,D.els,az<|aB (i:=j) u0,zba]
    rfl
  ·obtain⟨K,rfl,c⟩:=d;simp only[g0,g1,ag,zba,ac,zea,zgd,if_false,D.els];refine⟨_,rfl,.inl [I ((i+1:Nat):Int),.sl<|jR K],?_,K,rfl,c.next2⟩;simp only[g0,D.els,az<|aB (i:=i) u0,zba]
   rfl
 ·obtain⟨K,rfl,c⟩:=d;simp only[g0,g1,zla,ag,zba,ac,zea,zgd,if_false,D.els];obtain⟨L,p1,C⟩:=Iq (λq:V×Int=>q.1) K c.keys;refine⟨_,rfl,.sl<|L.map cM,?_,K,L,c,p1,C,rfl⟩;have o:(jR K).length<=1073741824:=by
   have:=c.len e;grind [jR,List.length_map]
  simp only[g0,D.els,o,decide_true,if_true,I8,Qw (n+2) p1 C,zba]
end
section
variable{l:List V}{q:V×Int}{j:Nat}
def tn:supp l q=true↔E1 (y l) l.length q.1 q.2:=by
 simp[supp,uH,nC,Y,zxa,zsc,zea,E1,y];constructor
 ·rintro⟨c,x,hx,b⟩;obtain⟨k,a,rfl⟩:=z3a hx;exact⟨λk a=>c _<|dh a,k,a,by simpa [List.getD,a] using b⟩
 ·rintro⟨c,k,a,b⟩;refine⟨λx hx=>?_,_,dh a,b⟩;obtain⟨k,a,rfl⟩:=z3a hx
  simp_all
theorem QI(P:Nat->V)(i j k:Nat):V.cross ((P j).sub<|P i) ((P k).sub<|P i)=(gz P k j i).neg:=by grind [gz,R,V.cross,V.sub,V.neg]
theorem C4{P:Nat->V}{i k:Nat}:V.dot (aQ<|gz P i j k) (P k)=V.dot (aQ<|gz P i j k) (P i):=by
 by_cases h:gz P i j k=V.zero
 ·have e0:aQ V.zero=V.zero:=by apply V.ext'<;>simp[aQ,V.zero]
  rw[h,e0];simp[V.dot,V.zero]
 ·have g:=kh h;have e:=kq<|gz P i j k;have a:V.dot (gz P i j k) (R P i k)=0:=by simp[gz,V.dot,V.cross];grind
  rw[e] at a;have:(bk (gz P i j k):Int)*V.dot (aQ<|gz P i j k) (R P i k)=0:=by rw[<-a];simp[V.dot,V.smul];grind
  have h0:=bJ u0 this
  grind [eG]
def M9{v:V}(h:v≠V.zero):v.neg≠V.zero:=λe=>by have e1:=zEa V.x e;have e2:=zEa V.y e;have e3:=zEa V.z e;simp[V.neg,V.zero] at e1 e2 e3;exact h<|V.ext' (by simp[V.zero];omega) (by simp[V.zero];omega) (by simp[V.zero];omega)
theorem QG(l:List V)(i j k:Nat):(to (y l i) (y l j)<|y l k).1=(aQ<|gz (y l) k j i).neg:=by grind [to,QI,y,D3]
def DM(v:V):v.neg.neg=v:=by apply V.ext'<;>simp[V.neg]
def Kn{i k:Nat}:Cd l i j k q↔gz (y l) k j i≠V.zero/\(q.1=aQ (gz (y l) k j i)\/q.1=(aQ<|gz (y l) k j i).neg)/\q.2=V.dot q.1 (y l k):=by
 have e:=QG l i j k;have f:V.dot (aQ<|gz (y l) k j i) (y l i)=V.dot (aQ<|gz (y l) k j i) (y l k):=C4;have n:(to (y l i) (y l j)<|y l k).1≠V.zero↔gz (y l) k j i≠V.zero:=by
  rw[e];constructor
  ·intro h h0;rw[h0] at h;exact h rfl
  ·intro h;exact M9<|v7 h
 constructor
 ·intro h;have g:=h.dist;obtain⟨d,c⟩:=h;refine⟨n.1 d,?_⟩;have hq:q.1=aQ (gz (y l) k j i)\/q.1=(aQ<|gz (y l) k j i).neg:=by
   rcases c with rfl|rfl
   ·exact .inr e
   ·left;show(to (y l i) (y l j)<|y l k).1.neg=_;rw[e,DM]
  refine⟨hq,?_⟩;rw[g];rcases hq with hq|hq
  ·rw[hq];exact f
  ·rw[hq,sf,sf];exact zEa Neg.neg f
 ·rintro⟨d,c,m⟩;refine⟨n.2 d,?_⟩;have e2:(to (y l i) (y l j)<|y l k).2=V.dot (to (y l i) (y l j)<|y l k).1 (y l i):=rfl;obtain⟨a,b⟩:=q;simp only at c m;subst m;rcases c with rfl|rfl
  ·right;show _=((to (y l i) (y l j)<|y l k).1.neg,-(to (y l i) (y l j)<|y l k).2);rw[e2,e,DM,sf,f,Int.neg_neg]
  ·left;refine Prod.ext e.symm ?_;show _=(to (y l i) (y l j)<|y l k).2
   simp_all [e2,sf]
def Known.facets{K L:List<|V×Int}(h:Known l l.length 0 0 K)(hp:L.Perm K)(p:L.Pairwise<|λa b=>aH a.1 b.1):Facets (y l) l.length L:=by
 refine⟨p,λq=>⟨λhq=>?_,λhq=>?_⟩⟩
 ·obtain⟨n,i,j,k,g,m,c,o⟩:=h.ok q<|hp.subset hq;obtain⟨d,e,f⟩:=Kn.1 o;exact⟨⟨k,j,i,g,m,c,d,e,f⟩,tn.1 n⟩
 ·obtain⟨⟨i,j,k,g,m,c,d,e,f⟩,n⟩:=hq;exact hp.symm.subset<|h.all k j i g m c (.inl c) q (Kn.2 ⟨d,e,f⟩)<|tn.2 n
end
def mH:Option Nat->D
 | none=>I (-1)
 | some b=>I (b:Int)
def VS{α:Type}{p:Prop}[Decidable p]{A B:α}(h:p):(if decide p=true then A else B)=A:=by rw[zma<|zka h]
def VU{α:Type}{p:Prop}[Decidable p]{A B:α}(h:¬ p):(if decide p=true then A else B)=B:=by rw[zha (by simpa using h)]
def au{α:Type}{p:Prop}[Decidable p]{A B y:α}(h:p)(a:A=y):(if decide p=true then A else B)=y:=by rw[zma<|zka h];exact a
def ay{α:Type}{p:Prop}[Decidable p]{A B y:α}(h:¬ p)(a:B=y):(if decide p=true then A else B)=y:=by rw[zha (by simpa using h)];exact a
def An{x:Int}:sg x<0↔x<0:=by grind [sg]
def jV{x:Int}:sg x=0↔x=0:=by grind [sg]
def dP(a b:Nat):D.beq (I (a:Int)) (I (b:Int))=decide (a=b):=by grind [cc]
def Ve(n:Nat){l:List V}(hl:∀ x∈l,bd MV x){m:V}{d:Int}{a k:Nat}{best:Option Nat}(F:m≠V.zero)(e:a<l.length)(r:k<l.length)(hb:∀ b,best=some b->b<l.length/\V.dot m (R (y l) a b)=0)(B:V.dot m (R (y l) a k)=0)(a4:D) :
  ((D.truth<|D.bool<|D.beq (I (k:Int))<|I (a:Int)).bind λs=>
  if s then(some ((0:Nat),[mH best,a4])) else((afA .lss (mH best)<|D.int .i64 0).bind λN=>
  (D.truth N).bind λt=>
  if t then(some (0,[I (k:Int),a4])) else((D.asSl<|bc l).bind λi=>
  (D.idx (I (k:Int))<|List.length i).bind λG=>
  (i[G]?).bind λa0=>
  (D.asSl<|bc l).bind λj=>
  (D.idx (I (a:Int))<|List.length j).bind λi32=>
  (j[i32]?).bind λP=>
  (cA (n+4) 103 [a0,P]).bind λf=>
  (D.asSl<|bc l).bind λo=>
  (D.idx (mH best)<|List.length o).bind λa2=>
  (o[a2]?).bind λQ=>
  (D.asSl<|bc l).bind λp=>
  (D.idx (I (a:Int))<|List.length p).bind λa1=>
  (p[a1]?).bind λa3=>
  (cA (n+4) 103 [Q,a3]).bind λg=>
  (D.get (cM (m,d)) [0]).bind λS=>
  (cA (n+4) 104 [S,g,f]).bind λq=>
  (afA .lss q<|D.int .i64 0).bind λU=>
  (D.truth U).bind λu=>
  Option.bind (if u then(some true) else((D.truth<|D.bool<|D.beq q<|D.int .i64 0).bind λv=>
  if v then((cA (n+4) 101 [f,f]).bind λK=>
  (cA (n+4) 101 [g,g]).bind λL=>
  (afA .gtr K L).bind λW=>
  D.truth W) else(some false))) λw=>
  (D.truth<|D.bool w).bind λa5=>
  if a5 then(some (0,[I (k:Int),a4])) else(some (0,[mH best,a4])))))=some (0,[mH<|dU m (y l) a best k,a4]):=by
 by_cases hka:k=a
 ·subst hka;have h0:D.beq (I (k:Int)) (I (k:Int))=true:=by rw[dP];simp
  rw[h0,show dU m (y l) k best k=best from zma rfl];exact J true<|zma rfl
 ·have h0:D.beq (I (k:Int)) (I (a:Int))=false:=by rw[dP];simp[hka]
  rw[h0];refine J false ?_;rw[zha H]
  have h:∀ b,dU m (y l) a b k=match b with
   | none=>some k
   | some b=>if tK m (y l) a b k then some k else some b:=λb=>zha hka
  rw[h];clear h h0;cases best with
  | none=>exact J (.bool true) (J true rfl)
  | some b=>
   obtain⟨c,A⟩:=hb b rfl;have Y:=Lm (n+2) (hl _<|dh r) (hl _<|dh e) H
   have Z:=Lm (n+2) (hl _<|dh c) (hl _<|dh e) H
   have w1:bd 524288 (R (y l) a k):=pw (hl _<|dh e)<|hl _<|dh r;have M:bd 524288 (R (y l) a b):=pw (hl _<|dh e)<|hl _<|dh c;have e1:(l.getD k V.zero).sub (l.getD a V.zero)=R (y l) a k:=rfl;have e2:(l.getD b V.zero).sub (l.getD a V.zero)=R (y l) a b:=rfl;rw[e1] at Y;rw[e2] at Z;have c3:=abI (n+1) (m:=m) M w1 H
   have c4:=Ll (n+3) w1 w1 H
   have c5:=Ll (n+3) M M H
   have C:=HK F<|iJ A B;rw[C] at c3;have E:¬ ((b:Int)<0):=u0
   have ll:(l.map X).length=l.length:=zla ..;refine O (z:=.bool false) (by rw[show mH (some b)=I (b:Int) from rfl,ag,zfa E])<|J false ?_
   rw[zha H]
   refine J (l.map X)<|O (z:=k) (by rw[ll];exact ai r)<|O (eH r) ?_
   refine J (l.map X)<|O (z:=a) (by rw[ll];exact ai e)<|O (eH e) ?_
   refine O Y ?_;refine J (l.map X)<|O (z:=b) (by rw[ll];exact ai c)<|O (eH c) ?_
   refine J (l.map X)<|O (z:=a) (by rw[ll];exact ai e)<|O (eH e) ?_
   refine O Z<|J (X m)<|O c3<|O ag<|O ac ?_;simp[An,cc,jV,ac,zba,c4,c5,bR,tK,T];by_cases t1:V.dot m (V.cross (R (y l) a b)<|R (y l) a k)<0
   ·simp[t1,mH]
   ·by_cases t2:V.dot m (V.cross (R (y l) a b)<|R (y l) a k)=0
    ·by_cases t3:V.dot (R (y l) a b) (R (y l) a b)<V.dot (R (y l) a k) (R (y l) a k)
     ·simp[t2,t3,mH]
     ·grind
    ·grind
section
variable{P:Nat->V}
def E(L:List Nat):List D:=L.map λ(k:Nat)=>I (k:Int)
theorem am(L:List Nat):(E L).length=L.length:=zla ..
def zu{L:List Nat}{t k:Nat}(h:L[t]?=some k):(E L)[t]?=some (I (k:Int)):=by simp[E,h]
def HH{n:Nat}(h:0<n):D.idx (D.int .i64 0) n=some 0:=ai (i:=0) h
theorem xi{m:V}{a:Nat}:∀ (L:List Nat) (best:Option Nat) (b:Nat),L.foldl (dU m P a) best=some b->b∈L\/best=some b
 | [],best,b,h=>.inr h
 | k::L,best,b,h=>by
  rw[zzc] at h;rcases xi L _ b h with c|c
  ·simp_all
  ·unfold dU at c;all_goals grind
theorem wN{body:Bd}{S:Nat->Nat->Prop}{a:Nat}{G:Nat->Prop}(i:∀ c b,G c->S c b->b≠a->G b)
  (d:∀ (c b:Nat) (out:List Nat),G c->c≠a->S c b->out.length<=1000->body [.sl<|E out,I (c:Int)]=some (.inl [.sl<|E<|out++[c],I (b:Int)]))
  (e:∀ out:List Nat,body [.sl<|E out,I (a:Int)]=some (.inr (0,[.sl<|E out]))) :
  ∀ {c:Nat} {p:List Nat},Chain S a c p->G c->c≠a->∀ out:List Nat,(out++p).length<=1000->cB body [.sl<|E out,I (c:Int)]=some (0,[.sl<|E<|out++p])
 | c,_,.done s,g,f,out,hl=>by
  have h:=d c a out g f s (by simp at hl;omega)
  rw[show cB body [.sl<|E out,I (c:Int)]=cB body [.sl<|E<|out++[c],I (a:Int)] from cz h];exact cT (e _)
 | c,_,.step (y:=y) (l:=p) s hy k,g,f,out,hl=>by
  have h:=d c y out g f s (by simp at hl;omega)
  rw[show cB body [.sl<|E out,I (c:Int)]=cB body [.sl<|E<|out++[c],I (y:Int)] from cz h];have:=wN i d e k (i c y g s hy) hy (out++[c]) (by simpa using hl)
  simp_all
theorem lS{i:Nat}{m:V}{d:Int}:bB P (i+1) m d=if V.dot m (P i)=d then bB P i m d++[i] else bB P i m d:=by all_goals grind [bB,List.range_succ]
theorem p46(n:Nat){l:List V}(hl:∀ x∈l,bd MV x)(aO:l.length<=100)(hs:∀ i j,i<j->j<l.length->aH (y l i) (y l j)){m:V}{d:Int}(Z:IsF (y l) l.length m d)(hm:bd 549755813888 m) :
  ∃ p,bU (y l) l.length m d p/\cA (n+5) 46 [bc l,cM (m,d)]=some (.sl<|E p):=by
 obtain⟨p,hp,ap,a5⟩:=Z.poly hs;refine⟨p,hp,?_⟩;have F:=Z.flat hs;obtain⟨a,v,K,T,a0,h3⟩:=Z.head hs;obtain⟨a',a6,P⟩:=hp;rw[v] at a6;cases a6;obtain⟨f,A⟩:∃ f,bB (y l) l.length m d=f:=⟨_,rfl⟩;rw[A] at F v K T a0 h3 P a5;have M:∀ k∈f,k<l.length:=λk o=>by rw[<-A] at o;exact(aU.1 o).1
 have a7:∀ k∈f,V.dot m (y l k)=d:=λk o=>by rw[<-A] at o;exact(aU.1 o).2
 have hw:∀ b∈f,∀ k∈f,V.dot m (R (y l) b k)=0:=λb b2 k o=>by rw[eG,a7 b b2,a7 k o];omega
 have a1:f.length<=100:=by grind [bB,List.length_range]
 have a3:p.length<=f.length:=zjc ap λz hz=>((a5 z).1 hz).1;have ll:(l.map X).length=l.length:=zla ..;have w:=λ(c k:Nat) (r:c∈f) (o:k∈f) (best:Option Nat) (b2:∀ b,best=some b->b∈f) (a9:D)=>Ve n hl (d:=d) Z.nz.1 (M c r) (M k o) (best:=best) (λb e=>⟨M b<|b2 b e,hw c r b<|b2 b e⟩) (hw c r k o) a9;have U:∀ c∈f,Geo.nD (y l) f c->∃ b,f.foldl (dU m (y l) c) none=some b/\Side m (y l) f c b:=λc r ec=>lO F r ec<|h3 c r;obtain⟨t0,a4⟩:∃ t0,f=a::t0:=by
  cases hx:f with
  | nil=>rw[hx] at K;simp at K
  | cons b0 t0=>rw[hx] at v;simp at v;subst v;exact⟨t0,rfl⟩
 have g:(E f)[0]?=some (I (a:Int)):=by rw[a4];rfl
 have q:0<(E f).length:=by rw[am,a4];simp
 rw[u46]
 delta F46 Q qC qS qX qV qW iL iR Jn J0 bq jl nq qO qb qc qh qi qj C qt qu qy
 refine J (l.map X) ?_;refine aV (λi s=>s=[I (i:Int),.sl<|E<|bB (y l) i m d]) l.length 0 (zoa _) rfl (λi hi s u=>?_) (λs u=>?_)
 ·subst u;left;refine⟨_,?_,rfl⟩;refine O ag<|O ac ?_;refine au (by show((i:Int)<((l.map X).length:Int));rw[ll];omega) ?_
  refine O (z:=(0,[.sl<|E<|bB (y l) (i+1) m d])) ?_<|O (az<|aB (i:=i) u0) rfl
  refine J (l.map X)<|O (z:=i) (by rw[ll];exact ai hi)<|O (eH hi)<|J (X m)<|O (Ll (n+3) hm (hl _<|dh hi) H)<|J (I d) ?_
  rw[cc];refine O ac ?_;rw[lS];by_cases hd:V.dot m (y l i)=d
  ·have L:V.dot m (l.getD i V.zero)=d:=hd;rw[zma hd,VS L,zma ?_]
   ·simp[g1,D.els,E,g0]
   ·grind [bB,g0,g1,D.els,am,List.length_cons]
  ·have L:¬ V.dot m (l.getD i V.zero)=d:=hd;rw[zha hd,VU L];rfl
 ·subst u;refine⟨(0,[.sl<|E f]),?_,?_⟩
  ·refine O ag<|O ac ?_;rw[<-A];exact ay (by show ¬ ((l.length:Int)<((l.map X).length:Int));rw[ll];omega) rfl
  refine O (HH q)<|O g<|O (HH q)<|O g ?_;obtain⟨b1,al,N⟩:=U a K T;refine aV (λt s=>s=[mH<|(f.take t).foldl (dU m (y l) a) none,.sl<|E f,I (t:Int),.sl<|E f]) f.length 0 (zoa _) rfl (λt B s u=>?_) (λs u=>?_)
  ·subst u;left;refine⟨_,?_,rfl⟩;refine O ag<|O ac ?_;refine au (by show((t:Int)<((E f).length:Int));rw[am];omega) ?_
   have o:=zca B;refine O (z:=(0,[mH<|(f.take<|t+1).foldl (dU m (y l) a) none,.sl<|E f])) ?_<|O (az<|aB (i:=t) u0) rfl
   refine J (E f)<|O (z:=t) (by rw[am];exact ai B)<|O (zu o) ?_
   rw[zAa B,List.foldl_append,zzc,List.foldl_nil];exact w a f[t] K (zya B) _ (λb b2=>by
    rcases xi _ _ b b2 with h|h
    ·grind
    ·cases h)<|.sl<|E f
  ·subst u;rw[zdb,al];refine⟨(0,[I (b1:Int),.sl<|E f]),?_,?_⟩
   ·refine O ag<|O ac ?_;refine ay (by show ¬ ((f.length:Int)<((E f).length:Int));rw[am];omega) ?_
    rfl
   obtain⟨p',W,a8,hy⟩:∃ p',p=a::p'/\Chain (Side m (y l) f) a b1 p'/\b1≠a:=by
    cases P with
    | done s=>exact z8a rfl s.ne
    | step s ax k=> have:=agl F K s N;subst this;exact⟨_,rfl,k,ax⟩
   refine q9 (wN (S:=Side m (y l) f) (a:=a) (G:=λc=>c∈f/\Geo.nD (y l) f c) (λc b r s _=>⟨s.mem,s.ext F r.1⟩) (λc b out r an aI a2=>?_) (λout=>?_) a8 ⟨N.mem,N.ext F K⟩ hy [a] ?_) ?_
   ·obtain⟨b',ad,Y⟩:=U c r.1 r.2;have:=agl F r.1 aI Y;subst this;refine J (E f)<|O (HH q)<|O g ?_;have e0:D.beq (I (c:Int)) (I (a:Int))=false:=by rw[dP];simp[an]
    refine O (z:=true) (by show D.truth (D.bool<|!(D.beq (I (c:Int))<|I (a:Int)))=_;rw[e0];rfl) ?_
    rw[zma rfl,zma (by simp[g0,D.els,am,zOa,zzb];omega)]
    refine J (E f) ?_;refine c8 (λt s=>s=[mH<|(f.take t).foldl (dU m (y l) c) none,I (t:Int)]) f.length 0 (zoa _) rfl (λt B s u=>?_) (λs u=>?_)
    ·subst u;left;refine⟨_,?_,rfl⟩;refine O ag<|O ac ?_;refine au (by show((t:Int)<((E f).length:Int));rw[am];omega) ?_
     have o:=zca B;refine O (z:=(0,[mH<|(f.take<|t+1).foldl (dU m (y l) c) none,.sl<|E f])) ?_<|O (az<|aB (i:=t) u0) rfl
     refine J (E f)<|O (z:=t) (by rw[am];exact ai B)<|O (zu o) ?_
     rw[zAa B,List.foldl_append,zzc,List.foldl_nil];exact w c f[t] r.1 (zya B) _ (λb b2=>by
      rcases xi _ _ b b2 with h|h
      ·exact zUa h
      ·cases h)<|.sl<|E f
    ·subst u;rw[zdb,ad];refine⟨(0,[I (b:Int)]),?_,?_⟩
     ·refine O ag<|O ac ?_;refine ay (by show ¬ ((f.length:Int)<((E f).length:Int));rw[am];omega) ?_
      rfl
     ·simp[g0,g1,D.els,E]
   ·refine J (E f)<|O (HH q)<|O g ?_;have e0:D.beq (I (a:Int)) (I (a:Int))=true:=by rw[dP];simp
    refine O (z:=false) (by show D.truth (D.bool<|!(D.beq (I (a:Int))<|I (a:Int)))=_;rw[e0];rfl) ?_
    rfl
   ·have:([a]++p').length=p.length:=by rw[W];rfl
    omega
   ·rw[W];rfl
end
section
variable{l:List V}{a:Nat×Nat}
def o8(q:V×Int)(p:List Nat):D:=.st [X q.1,I q.2,.sl<|E p]
def bo(l:List V):D:=.st [bc l]
def KS(l:List V):Prop:=∀ i j,i<j->j<l.length->aH (y l i) (y l j)
def VQ(hl:∀ x∈l,bd MV x){m:V}{d:Int}(h:IsF (y l) l.length m d):bd 549755813888 m:=by
 obtain⟨i,j,k,f,g,a,n,b,o⟩:=h.ex;have hi:=hl _<|dh<|show i<l.length by omega
 have c:=hl _<|dh<|show j<l.length by omega
 have e:=hl _<|dh a;have:=fP<|kc (pw (P:=y l) hi c)<|pw (P:=y l) hi e;rcases b with rfl|rfl
 ·exact this
 ·exact tJ this
theorem p18(n:Nat)(hl:∀ x∈l,bd MV x)(a:l.length<=100)(r:KS l):∃ (L:List<|V×Int) (poly:V×Int->List Nat),Facets (y l) l.length L/\(∀ q∈L,bU (y l) l.length q.1 q.2<|poly q)/\L.length<=2000000 ∧
  cA (n+7) 18 [bo l]=some (.sl<|L.map λq=>o8 q<|poly q):=by
 obtain⟨A,k,K,L,g,h,m,rfl⟩:=p45 n hl a;have c:=g.facets h m;have f:L.length<=2000000:=by rw[h.length_eq];exact g.len a
 have d:∀ q:V×Int,∃ p,q∈L->bU (y l) l.length q.1 q.2 p/\cA (n+6) 46 [bc l,cM q]=some (.sl<|E p):=λq=>by
  by_cases hq:q∈L
  ·have j:=(c.mem q).1 hq;obtain⟨p,t,u⟩:=p46 (n+1) hl a r j<|VQ hl j;grind
  ·simp_all
 obtain⟨poly,b⟩:∃ poly:V×Int->List Nat,∀ q∈L,bU (y l) l.length q.1 q.2 (poly q)/\cA (n+6) 46 [bc l,cM q]=some (.sl<|E<|poly q):=⟨λq=>Classical.choose<|d q,λq hq=>Classical.choose_spec (d q) hq⟩;refine⟨L,poly,c,λq hq=>(b q hq).1,f,?_⟩;have hp:=λq (hq:q∈L)=>(b q hq).2;rw[u18]
 delta F18 Q qS qX qV qW iL iR J0 jl qc qj C qu qy
 refine J (bc l)<|O k<|J (L.map cM) ?_;have ll:(L.map cM).length=L.length:=zla ..;refine aV (λi s=>s=[.sl<|(L.take i).map λq=>o8 q<|poly q,I (i:Int)]) L.length 0 (zoa _) rfl (λi hi s e=>?_) (λs e=>?_)
 ·subst e;left;refine⟨_,?_,rfl⟩;refine O ag<|O ac<|au (by show((i:Int)<((L.map cM).length:Int));rw[ll];omega) ?_
  have o:(L.map cM)[i]?=some (cM L[i]):=by simp[hi]
  refine J (L.map cM)<|O (z:=i) (by rw[ll];exact ai hi)<|O o ?_
  refine J (X L[i].1)<|J (I L[i].2)<|J (bc l)<|O (hp L[i]<|zya hi) ?_;rw[zma (by simp[g0,D.els,zla,zkb,zOa,zzb];omega)]
  refine O (az<|aB (i:=i) u0) ?_
  rw[zAa hi,zob];rfl
 ·subst e;refine⟨(0,[.sl<|(L.take L.length).map λq=>o8 q<|poly q]),?_,?_⟩
  ·refine O ag<|O ac<|ay (by show ¬ ((L.length:Int)<((L.map cM).length:Int));rw[ll];omega) rfl
  ·rw[zdb];rfl
def kN(e:Nat×Nat):D:=.st [I (e.1:Int),I (e.2:Int)]
theorem Pc{b:Nat×Nat}(h:DY a b):yB [bf (a.1:Int) b.1,bf (a.2:Int) b.2]=-1:=by all_goals grind [DY,yB,bf]
theorem Pb{b:Nat×Nat}(h:DY b a):yB [bf (a.1:Int) b.1,bf (a.2:Int) b.2]=1:=by all_goals grind [DY,yB,bf,Int.not_lt.2,Int.le_of_lt]
def LJ(n:Nat)(p q:Nat×Nat):wO (da cB (cA<|n+3)<|kP cB<|cA<|n+3) (cj 51) (kN p) (kN q)=some (yB [bf (p.1:Int) q.1,bf (p.2:Int) q.2]):=by
 unfold wO;rw[show ∀ l,(da cB (cA<|n+3)<|kP cB<|cA<|n+3).call (cj 51) l=cA (n+3) 51 l from λl=>congrFun (zEa (cA<|n+3)<|show rV (cj 51)=51 by kernel_rfl) l,show kN p=.st [I (p.1:Int),I (p.2:Int)] from rfl,show kN q=.st [I (q.1:Int),I (q.2:Int)] from rfl,c51]
 rfl
theorem Q9(n:Nat):∀ (L:List<|Nat×Nat),L.Pairwise DY->vz (da cB (cA<|n+3)<|kP cB<|cA<|n+3) (cj 51) (L.map kN)=true
 | [],_=>rfl
 | p::L,h=>by
  obtain⟨a,b⟩:=zNa.1 h;simp only[z4a,vz,Y,zxa,zmb];refine⟨⟨?_,?_⟩,Q9 n L b⟩
  ·simp_all [Ki,LJ,yB,bf]
  ·rintro _ ⟨q,hq,rfl⟩;simp only[uu,Ki,LJ,Pc<|a q hq,Pb<|a q hq];decide
theorem PZ{b:Nat×Nat}(h:a≠b):DY a b\/DY b a:=by all_goals grind [DY]
theorem Ew:∀ (K:List<|Nat×Nat),K.Nodup->∃ L:List<|Nat×Nat,L.Perm K/\L.Pairwise DY
 | [],_=>⟨[],.refl _,.nil⟩
 | x::K,h=>by
  obtain⟨f,c⟩:=zBd.1 h;obtain⟨L,p1,g⟩:=Ew K c;have d:∀ L:List<|Nat×Nat,L.Pairwise DY->(∀ y∈L,x≠y)->∃ M:List<|Nat×Nat,M.Perm (x::L)/\M.Pairwise DY:=by
   intro L
   induction L with
   | nil=>intro _ _;exact⟨[x],.refl _,j2⟩
   | cons y L ih=>
    intro hp b;obtain⟨q1,e⟩:=zNa.1 hp;rcases PZ (b y zBa) with k|k
    ·refine⟨x::y::L,.refl _,zNa.2 ⟨λz a=>?_,hp⟩⟩;all_goals grind [DY]
    ·obtain⟨M,m1,m2⟩:=ih e<|λz a=>b z<|zsa _ a;refine⟨y::M,(m1.cons y).trans<|.swap x y L,zNa.2 ⟨λz a=>?_,m2⟩⟩;all_goals grind
  grind
def mK{p:List Nat}{k:Nat}(h:k<p.length):(E p)[k]?=some (I (p.getD k 0:Nat)):=by simp[E,List.getD,h]
def gh(p:List Nat)(k:Nat):List (Nat×Nat):=(List.range k).filterMap λk=>if p.getD k 0<p.getD ((k+1)%p.length) 0 then some (p.getD k 0,p.getD ((k+1)%p.length) 0) else none
theorem Ba(p:List Nat)(k:Nat):gh p (k+1)=if p.getD k 0<p.getD ((k+1)%p.length) 0 then gh p k++[(p.getD k 0,p.getD ((k+1)%p.length) 0)] else gh p k:=by unfold gh;rw[zGb,List.filterMap_append];all_goals grind
theorem uS(p:List Nat)(k:Nat):(gh p k).length<=k:=by grind [gh]
theorem p21(n:Nat){L:List<|V×Int}{poly:V×Int->List Nat}(h18:cA (n+7) 18 [bo l]=some (.sl<|L.map λq=>o8 q<|poly q))(hL:L.length<=2000000)(hp:∀ q∈L,(poly q).length<=100/\0<(poly q).length)
  (g:(dF L poly).Nodup):∃ B:List<|Nat×Nat,B.Perm (dF L poly)/\B.Pairwise DY/\cA (n+8) 21 [bo l]=some (.sl<|B.map kN):=by
 obtain⟨B,e1,e2⟩:=Ew _ g;refine⟨B,e1,e2,?_⟩;rw[u21];unfold WY;refine O h18<|J (L.map λq=>o8 q<|poly q) ?_;have ll:(L.map λq=>o8 q<|poly q).length=L.length:=zla ..;have m:∀ i,i<=L.length->(dF (L.take i) poly).length<=i*100:=λi hi=>by
  induction i with
  | zero=>simp[dF]
  | succ i ih=>
   have d:i<L.length:=u0
   rw[zAa d,dF,List.flatMap_append,zFa];have o:=ih u0
   simp only[dF] at o;have x:(mG<|poly L[i]).length<=100:=zva (uS (poly L[i]) (poly L[i]).length) (hp _<|zya d).1;grind
 refine aV (λi s=>s=[.sl<|(dF (L.take i) poly).map kN,I (i:Int)]) L.length 0 (zoa _) rfl (λi hi s b=>?_) (λs b=>?_)
 ·subst b;left;refine⟨_,?_,rfl⟩;refine O ag<|O ac<|au (by show((i:Int)<((L.map λq=>o8 q<|poly q).length:Int));rw[ll];omega) ?_
  have u:(L.map λq=>o8 q<|poly q)[i]?=some (o8 L[i]<|poly L[i]):=by simp[hi]
  refine J (L.map λq=>o8 q<|poly q)<|O (z:=i) (by rw[ll];exact ai hi)<|O u<|J (.sl<|E<|poly L[i])<|J (E<|poly L[i]) ?_
  obtain⟨w,h⟩:=hp L[i]<|zya hi;have r:=m i u0
  obtain⟨M,c⟩:∃ M,M=dF (L.take i) poly:=⟨_,rfl⟩;rw[<-c] at r ⊢;have f:dF (L.take<|i+1) poly=M++gh (poly L[i]) (poly L[i]).length:=by rw[zAa hi,c,dF,List.flatMap_append];simp[dF,mG,gh]
  rw[f];generalize poly L[i]=p at *;refine c8 (λk s=>s=[.sl<|(M++gh p k).map kN,I (k:Int)]) p.length 0 (zoa _) (by simp[gh,g0,D.els]) (λk j s b=>?_)<|λs b=>?_
  ·subst b;left;refine⟨_,?_,rfl⟩;refine O ag<|O ac<|au (by show((k:Int)<((E p).length:Int));rw[am];omega) ?_
   have a:(k+1)%p.length<p.length:=zWa _ h;have e:(((k:Int)+1).tmod (p.length:Int))=(((k+1)%p.length:Nat):Int):=by grind
   refine O (z:=(0,[.sl<|(M++gh p (k+1)).map kN])) ?_<|O (az<|aB (i:=k) u0) rfl
   refine J (E p)<|O (z:=k) (by rw[am];exact ai j)<|O (mK j)<|J (.sl<|E p)<|O (az<|aB (i:=k) u0)<|J (.sl<|E p)<|J (E p) ?_
   refine O (z:=I (((k+1)%p.length:Nat):Int)) (by rw[show((E p).length:Int)=(p.length:Int) by rw[am],rP u0,e]) ?_
   refine J (E p)<|O (z:=(k+1)%p.length) (by rw[am];exact ai a)<|O (mK a)<|O ag<|O ac ?_
   rw[Ba];have t:=uS p k;by_cases hab:p.getD k 0<p.getD ((k+1)%p.length) 0
   ·refine au (by show((p.getD k 0:Nat):Int)<((p.getD ((k+1)%p.length) 0:Nat):Int);omega) ?_
    rw[zma hab,zma (by simp[g0,D.els,zla,zFa,zOa,zzb];omega)]
    simp[g0,D.els,kN]
   ·refine ay (by show ¬ ((p.getD k 0:Nat):Int)<((p.getD ((k+1)%p.length) 0:Nat):Int);omega) ?_
    rw[zha hab];rfl
  ·subst b;refine⟨(0,[.sl<|(M++gh p p.length).map kN]),?_,?_⟩
   ·refine O ag<|O ac<|ay (by show ¬ ((p.length:Int)<((E p).length:Int));rw[am];omega) rfl
   ·exact O (az<|aB (i:=i) u0) rfl
 ·subst b;refine⟨(0,[.sl<|(dF (L.take L.length) poly).map kN]),?_,?_⟩
  ·refine O ag<|O ac<|ay (by show ¬ ((L.length:Int)<((L.map λq=>o8 q<|poly q).length:Int));rw[ll];omega) rfl
  ·have v:=m L.length<|zja _;rw[zdb] at v ⊢;refine O (z:=(dF L poly).map kN) ?_<|O (yd (Q9 (n+4) B e2)<|e1.symm.map _) rfl;exact au (by show((dF L poly).map kN).length<=1073741824;rw[zla];omega) rfl
end
abbrev FL:=List<|(V×Int)×List Nat
def aW(L:FL):List D:=L.map λf=>o8 f.1 f.2
def bO(L:FL):(aW L).length=L.length:=zla ..
def jX{L:FL}{i:Nat}(h:i<L.length):(aW L)[i]?=some (o8 L[i].1 L[i].2):=by simp[aW,h]
def abK(n:Nat)(L:FL)(m:V)(hL:L.length<=3000000):cA (n+1) 108 [.sl<|aW L,X m]=some (.bool<|L.any λf=>decide (f.1.1=m)):=by
 refine eN Si ?_
 delta Si qX iL iR J0 S bT bq qf qj ql qr qt qy
 refine aV (λi s=>s=[I (i:Int)]/\(L.take i).any (λf=>decide (f.1.1=m))=false) L.length 0 (zoa _) ⟨rfl,j2⟩ (λi hi s a=>?_)<|λs a=>?_
 ·obtain⟨rfl,b⟩:=a;by_cases he:L[i].1.1=m
  ·right;refine⟨(0,[.bool true]),?_,?_⟩
   ·refine J (aW L)<|O ag<|O ac<|au (by show((i:Int)<((aW L).length:Int));rw[bO];omega) ?_
    refine J (aW L)<|O (z:=i) (by rw[bO];exact ai hi)<|O (jX hi)<|J (X L[i].1.1) ?_
    rw[kV];exact O ac<|au he rfl
   ·grind
  ·left;refine⟨[I ((i+1:Nat):Int)],?_,rfl,?_⟩
   ·refine J (aW L)<|O ag<|O ac<|au (by show((i:Int)<((aW L).length:Int));rw[bO];omega) ?_
    refine J (aW L)<|O (z:=i) (by rw[bO];exact ai hi)<|O (jX hi)<|J (X L[i].1.1) ?_
    rw[kV];exact O ac<|ay he<|O (az<|aB (i:=i) u0) rfl
   ·grind [List.take_succ_eq_append_getElem]
 ·obtain⟨rfl,b⟩:=a;rw[zdb] at b;refine⟨(1,[]),?_,by simp[b]⟩
  exact J (aW L)<|O ag<|O ac<|ay (by show ¬ ((L.length:Int)<((aW L).length:Int));rw[bO];omega) rfl
def nB(f:(V×Int)×List Nat):FL->FL
 | []=>[f]
 | x::L=>if aH f.1.1 x.1.1 then f::x::L else x::nB f L
def abM(n:Nat)(L:FL)(f:(V×Int)×List Nat)(hL:L.length<=3000000):cA (n+2) 110 [.sl<|aW L,o8 f.1 f.2]=some (.sl<|aW<|nB f L):=by
 refine eN Sl ?_
 delta Sl Q qN qX qV qW iL iR J0 S bT qA qb qf qj C ql qn qu qy
 have app:∀ (o:FL) (x:(V×Int)×List Nat),aW o++[o8 x.1 x.2]=aW (o++[x]):=λo x=>by simp[aW]
 refine aV (λi s=>∃ (out:FL) (put:Bool),s=[.sl<|aW out,.bool put,I (i:Int)]/\out.length<=2*i/\(put=false->nB f L=out++nB f (L.drop i))/\(put=true->nB f L=out++L.drop i)) L.length 0 (zoa _) ⟨[],false,rfl,j2,j2,j2⟩ (λi hi s d=>?_)<|λs d=>?_
 ·obtain⟨out,put,rfl,k,a,c⟩:=d;left;have e:=zpb hi;have l:=Xk n f.1.1 L[i].1.1;obtain⟨o,p,b,q,q1,m⟩:∃ o p,(if put=false/\aH f.1.1 L[i].1.1 then(out++[f],true) else(out,put))=(o,p)/\o.length<=2*i+1/\(p=false->nB f L=o++L[i]::nB f (L.drop<|i+1))/\(p=true->nB f L=o++L[i]::L.drop (i+1)):=by
   by_cases hput:put=false/\aH f.1.1 L[i].1.1
   ·refine⟨_,_,zma hput,by simp;omega,j2,λ_=>?_⟩
    rw[a hput.1,e];simp[nB,hput.2]
   ·refine⟨_,_,zha hput,u0,λhp=>?_,λhp=>?_⟩
    ·have j:¬ aH f.1.1 L[i].1.1:=λh=>hput ⟨hp,h⟩;rw[a hp,e];simp[nB,j]
    ·rw[c hp,e]
  refine⟨[.sl<|aW<|o++[L[i]],.bool p,I ((i+1:Nat):Int)],?_,o++[L[i]],p,rfl,by simp;omega,λhp=>by rw[q1 hp];simp,λhp=>by rw[m hp];simp⟩
  refine J (aW L)<|O ag<|O ac<|au (by show((i:Int)<((aW L).length:Int));rw[bO];omega) ?_
  refine J (X f.1.1)<|J (aW L)<|O (z:=i) (by rw[bO];exact ai hi)<|O (jX hi)<|J (X L[i].1.1)<|O l ?_
  refine O (z:=(0,[.sl<|aW o,.bool p])) ?_ ?_
  ·refine J (.bool<|!put)<|J (!put)<|O (z:=!put&&decide (aH f.1.1 L[i].1.1)) ?_<|J (!put&&decide (aH f.1.1 L[i].1.1)) ?_
   ·cases put
    ·exact ac
    ·rfl
   ·by_cases hput:put=false/\aH f.1.1 L[i].1.1
    ·rw[zma hput] at b;obtain⟨rfl,g⟩:=hput;cases b;rw[show(!false&&decide (aH f.1.1 L[i].1.1))=true by simp[g],zma rfl,zma (by simp[g0,D.els,bO,zOa,zzb];omega)]
     simp[g0,D.els,app]
    ·rw[zha hput] at b;cases b;rw[show(!put&&decide (aH f.1.1 L[i].1.1))=false by
      cases put
      ·simpa using hput
      ·rfl]
     rfl
  ·refine J (aW L)<|O (z:=i) (by rw[bO];exact ai hi)<|O (jX hi) ?_
   rw[zma (by simp[g0,D.els,bO,zOa,zzb];omega)]
   refine O (az<|aB (i:=i) u0) ?_
   simp only[g0,g1,D.els,app];rfl
 ·obtain⟨out,put,rfl,k,a,c⟩:=d;refine⟨(0,[.sl<|aW out,.bool put]),?_,?_⟩
  ·exact J (aW L)<|O ag<|O ac<|ay (by show ¬ ((L.length:Int)<((aW L).length:Int));rw[bO];omega) rfl
  ·cases put
   ·have:=a rfl;rw[zXc] at this;rw[this];refine O (z:=(0,[.sl<|aW<|out++[f]])) ?_ rfl;refine J (.bool true)<|J true ?_;rw[zma rfl,zma (by simp[g0,D.els,bO,zOa,zzb];omega)]
    simp[g0,D.els,app]
   ·have:=c rfl;rw[zXc,zic] at this;rw[this];rfl
section
variable{l:List V}{a:Nat}
def jJ(l:List V)(m:V)(a b x:Nat):Bool:=
 decide (0<=T m (R (y l) a b) (R (y l) a x))&&(!decide (T m (R (y l) a b) (R (y l) a x)=0)||(decide (0<=V.dot (R (y l) a x) (R (y l) a b))&&decide (V.dot (R (y l) a x) (R (y l) a b)<=V.dot (R (y l) a b) (R (y l) a b))))
def Gu{m:V}{b x:Nat}:jJ l m a b x=true↔(0<=T m (R (y l) a b) (R (y l) a x)/\(T m (R (y l) a b) (R (y l) a x)=0->0<=V.dot (R (y l) a x) (R (y l) a b)/\V.dot (R (y l) a x) (R (y l) a b)<=V.dot (R (y l) a b) (R (y l) a b))):=by simp[jJ,Y,zHb,zCa,zea,decide_eq_false_iff_not];omega
def Ap(l:List V)(m:V)(d:Int)(a b:Nat):Bool:=(bB (y l) l.length m d).all λx=>jJ l m a b x
def Aq{m:V}{d:Int}{b:Nat}(e:b∈bB (y l) l.length m d)(c:b≠a):Ap l m d a b=true↔Side m (y l) (bB (y l) l.length m d) a b:=by simp[Ap,zxa,Gu];exact⟨λh=>⟨e,c,h⟩,λh=>h.all⟩
def abY(n:Nat)(hl:∀ x∈l,bd MV x)(W:l.length<=100){m:V}{d:Int}(B:m≠V.zero)(hm:bd 549755813888 m){b:Nat}(k:a<l.length)(a7:b<l.length)(f:V.dot m (y l a)=d)(A:V.dot m (y l b)=d) :
  cA (n+3) 156 [bc l,X m,I d,X<|y l a,X<|y l b]=some (.bool<|Ap l m d a b):=by
 refine Zi SW ?_
 delta SW qC qX iL iR J0 S bT bq nq qO qb qc qh qj C ql qr qt qy
 have w1:bd 524288 (R (y l) a b):=pw (hl _<|dh k)<|hl _<|dh a7;refine O (z:=X<|R (y l) a b) (IF (n+1) (hl _<|dh a7) (hl _<|dh k) H) ?_
 have ll:(l.map X).length=l.length:=zla ..;have a3:V.dot m (R (y l) a b)=0:=by rw[eG,f,A];omega
 refine aV (λi s=>s=[I (i:Int)]/\(bB (y l) i m d).all (λx=>jJ l m a b x)=true) l.length 0 (zoa _) ⟨rfl,by simp[bB]⟩ (λi hi s w=>?_)<|λs w=>?_
 ·obtain⟨rfl,o⟩:=w;have U:=IE (n+1) hm (hl _<|dh hi) H
  by_cases hon:V.dot m (y l i)=d
  ·have Y:bd 524288 (R (y l) a i):=pw (hl _<|dh k)<|hl _<|dh hi;have E:V.dot m (R (y l) a i)=0:=by rw[eG,f,hon];omega
   have Z:=IF (n+1) (hl _<|dh hi) (hl _<|dh k) H
   have c2:=Xo (n+1) w1 Y H
   have Q:=ab5 n m<|V.cross (R (y l) a b)<|R (y l) a i;rw[HK B<|iJ a3 E] at Q;have a4:=IE (n+1) Y w1 H
   have c5:=IE (n+1) w1 w1 H
   have step:∀ (a6:Nat×List D),a6=(if jJ l m a b i then(0,[]) else(1,[D.bool false]))->((D.asSl<|bc l).bind λa5=>(D.idx (I (i:Int))<|List.length a5).bind λi7=>
     (a5[i7]?).bind λx8=>(cA (n+2) 107 [X m,x8]).bind λr9=>(D.truth<|D.bool<|!(D.beq r9<|I d)).bind λp=>
     if p then(some ((0:Nat),([]:List D))) else((D.asSl<|bc l).bind λg=>(D.idx (I (i:Int))<|List.length g).bind λyA=>
     (g[yA]?).bind λM=>(cA (n+2) 112 [M,X<|y l a]).bind λc=>(cA (n+2) 123 [X<|R (y l) a b,c]).bind λF=>(cA (n+2) 188 [X m,F]).bind λj=>
     (afA .lss j<|D.int .i64 0).bind λN=>(D.truth N).bind λq=>
     Option.bind (if q then(some true) else((D.truth<|D.bool<|D.beq j<|D.int .i64 0).bind λr=>
     if r then((cA (n+2) 107 [c,X<|R (y l) a b]).bind λG=>(afA .lss G<|D.int .i64 0).bind λa0=>(D.truth a0).bind λt=>
     if t then(some true) else((cA (n+2) 107 [c,X<|R (y l) a b]).bind λa2=>(cA (n+2) 107 [X<|R (y l) a b,X<|R (y l) a b]).bind λa1=>
     (afA .gtr a2 a1).bind λP=>D.truth P)) else(some false))) λu=>(D.truth<|D.bool u).bind λv=>
     if v then(some (1,[D.bool false])) else(some (0,[]))))=some a6:=by
    intro a6 hy;refine J (l.map X)<|O (z:=i) (by rw[ll];exact ai hi)<|O (eH hi)<|O U<|O (z:=false) ?_ ?_
    ·rw[cc,show V.dot m (l.getD i V.zero)=d from hon];simp[D.truth]
    rw[zha H]
    refine J (l.map X)<|O (z:=i) (by rw[ll];exact ai hi)<|O (eH hi)<|O (z:=X<|R (y l) a i) Z<|O c2<|O Q<|O ag<|O ac ?_
    rw[hy];have e:V.dot m (V.cross (R (y l) a b)<|R (y l) a i)=T m (R (y l) a b) (R (y l) a i):=rfl;rw[e];refine O (z:=!jJ l m a b i) ?_ ?_
    ·by_cases t1:T m (R (y l) a b) (R (y l) a i)<0
     ·rw[VS<|An.2 t1];have:¬ (0<=T m (R (y l) a b) (R (y l) a i)):=u0
      simp[jJ,this]
     ·rw[VU<|λh=>t1<|An.1 h];have K:0<=T m (R (y l) a b) (R (y l) a i):=u0
      by_cases t2:T m (R (y l) a b) (R (y l) a i)=0
      ·refine O (z:=true) (by rw[cc,zka<|jV.2 t2];rfl) ?_
       rw[zma rfl];refine O a4<|O ag<|O ac ?_;by_cases t3:V.dot (R (y l) a i) (R (y l) a b)<0
       ·rw[VS t3];have:¬ (0<=V.dot (R (y l) a i) (R (y l) a b)):=u0
        simp[jJ,t2,this]
       ·rw[VU t3];refine O a4<|O c5<|O bR ?_;rw[ac];have L:0<=V.dot (R (y l) a i) (R (y l) a b):=u0
        simp[jJ,t2,L,decide_true,zPb,zmc,Bool.false_or,Int.le_refl];by_cases t4:V.dot (R (y l) a i) (R (y l) a b)<=V.dot (R (y l) a b) (R (y l) a b)
        ·have:¬ (V.dot (R (y l) a i) (R (y l) a b)>V.dot (R (y l) a b) (R (y l) a b)):=u0
         simp[t4,this]
        ·have:(V.dot (R (y l) a i) (R (y l) a b)>V.dot (R (y l) a b) (R (y l) a b)):=u0
         simp[t4,this]
      ·refine O (z:=false) (by rw[cc,zfa<|λh=>t2<|jV.1 h];rfl) ?_
       simp[jJ,t2,K]
    ·refine O ac ?_;cases jJ l m a b i<;>rfl
   cases hk:jJ l m a b i
   ·right;rw[hk] at step;refine⟨(0,[.bool false]),?_,?_⟩
    ·exact J (l.map X)<|O ag<|O ac<|au (by show((i:Int)<((l.map X).length:Int));rw[ll];omega)<|O (step _ rfl) rfl
    ·have:Ap l m d a b=false:=by
      rw[zpc];intro h;have:=zxa.1 h i<|aU.2 ⟨hi,hon⟩;rw[hk] at this;exact z8a this H
     rw[this];rfl
   ·left;rw[hk] at step;refine⟨[I ((i+1:Nat):Int)],?_,rfl,?_⟩
    ·exact J (l.map X)<|O ag<|O ac<|au (by show((i:Int)<((l.map X).length:Int));rw[ll];omega)<|O (step _ rfl) (by rw[zma rfl,zma rfl];exact O (az<|aB (i:=i) u0) rfl)
    ·rw[lS,zma hon,z5c,o];simp[hk]
  ·left;refine⟨[I ((i+1:Nat):Int)],?_,rfl,?_⟩
   ·refine J (l.map X)<|O ag<|O ac<|au (by show((i:Int)<((l.map X).length:Int));rw[ll];omega)<|O (z:=(0,[])) ?_ (by rw[zma rfl];exact O (az<|aB (i:=i) u0) rfl)
    refine J (l.map X)<|O (z:=i) (by rw[ll];exact ai hi)<|O (eH hi)<|O U<|O (z:=true) ?_ rfl
    rw[cc,zfa<|show ¬ V.dot m (l.getD i V.zero)=d from hon];rfl
   ·rw[lS,zha hon];exact o
 ·obtain⟨rfl,o⟩:=w;refine⟨(1,[]),?_,?_⟩
  ·exact J (l.map X)<|O ag<|O ac<|ay (by show ¬ ((l.length:Int)<((l.map X).length:Int));rw[ll];omega) rfl
  ·have:Ap l m d a b=true:=o;rw[this];rfl
end
section
variable{N a:Nat}
def HP{body:Bd}{s0:List D}{r:Nat×List D}(h:(cB body s0).bind some=some r):cB body s0=some r:=by all_goals simp_all
theorem Nd{P:Nat->V}{m:V}{d:Int}{i:Nat}(h:(bB P i m d).head?=some a)(hi:i<=N):(bB P N m d).head?=some a:=by
 induction N with
 | zero=>
      have:i=0:=u0
      simp_all
 | succ N ih=>
  by_cases e:i=N+1
  ·simp_all
  ·have:=ih u0
   rw[lS];all_goals grind
theorem uQ{body:Bd}{S:Nat->Nat->Prop}{M:Nat}{G:Nat->Prop}(g:∀ c b,G c->S c b->G b)
  (d:∀ (c b:Nat) (out:List Nat),G c->S c b->b≠a->out.length<=M->body [.sl<|E out,I (c:Int)]=some (.inl [.sl<|E<|out++[c],I (b:Int)]))
  (e:∀ (c:Nat) (out:List Nat),G c->S c a->out.length<=M->body [.sl<|E out,I (c:Int)]=some (.inr (0,[.sl<|E<|out++[c]]))) :
  ∀ {c:Nat} {p:List Nat},Chain S a c p->G c->∀ out:List Nat,(out++p).length<=M->cB body [.sl<|E out,I (c:Int)]=some (0,[.sl<|E<|out++p])
 | c,_,.done s,f,out,hl=>cT (e c out f s (by simp at hl;omega))
 | c,_,.step (y:=y) (l:=p) s hy k,f,out,hl=>by
  have h:=d c y out f s hy (by simp at hl;omega)
  rw[show cB body [.sl<|E out,I (c:Int)]=cB body [.sl<|E<|out++[c],I (y:Int)] from cz h];have:=uQ g d e k (g c y f s) (out++[c]) (by simpa using hl)
  simp_all
theorem adc(n:Nat){l:List V}(hl:∀ x∈l,bd MV x)(a3:l.length<=100)(U:KS l){m:V}{d:Int}(L:IsF (y l) l.length m d)(hm:bd 549755813888 m){p:List Nat}(hp:bU (y l) l.length m d p) :
  cA (n+4) 111 [bc l,X m,I d]=some (.sl<|E p):=by
 have F:=L.flat U;obtain⟨p',S,v,a2⟩:=L.poly U;have e:=bU.eq U L hp S;subst e;obtain⟨a,r,P⟩:=hp;have W:a∈bB (y l) l.length m d:=List.mem_of_mem_head? (by rw[r];rfl)
 have a6:∀ k∈bB (y l) l.length m d,k<l.length:=λk Q=>(aU.1 Q).1;have B:∀ k∈bB (y l) l.length m d,V.dot m (y l k)=d:=λk Q=>(aU.1 Q).2;have K:(bB (y l) l.length m d).length<=l.length:=by unfold bB;grind
 have T:p.length<=l.length:=zva (zjc v λz Z=>((a2 z).1 Z).1) K;have ll:(l.map X).length=l.length:=zla ..;refine GH Sn ?_
 delta Sn qT qS qX qL qV qW iL iR Jn J0 bq jl nq qA qO qb qc qh qj C qt qu qy
 have j:=λ(i:Nat) (hi:i<l.length)=>IE (n+2) hm (hl _<|dh hi) H
 refine O (z:=(0,[.sl [],I (a:Int)])) ?_ ?_
 ·refine HP<|c8 (λi s=>s=[.sl [],mH<|(bB (y l) i m d).head?,I (i:Int)]) l.length 0 (zoa _) rfl (λi hi s q=>?_) (λs q=>?_)
  ·subst q;cases hh:(bB (y l) i m d).head? with
   | some a'=>
    right;have:=Nd hh<|zJc hi;rw[r] at this;cases this;refine⟨(0,[.sl [],I (a:Int)]),?_,rfl⟩;refine J (l.map X)<|O ag<|O ac<|O (z:=false) (au (by show((i:Int)<((l.map X).length:Int));rw[ll];omega) ?_)<|O ac ?_
    ·refine O ag ?_;rw[zfa u0];rfl
    ·rfl
   | none=>
    left;have a1:bB (y l) i m d=[]:=by simpa using hh
    refine⟨[.sl [],mH<|(bB (y l) (i+1) m d).head?,I ((i+1:Nat):Int)],?_,rfl⟩;refine J (l.map X)<|O ag<|O ac<|O (z:=true) (au (by show((i:Int)<((l.map X).length:Int));rw[ll];omega)<|O (ag (a:=-1) (b:=0)) rfl)<|O ac ?_
    rw[zma rfl];refine O (z:=(0,[.sl [],mH<|(bB (y l) (i+1) m d).head?])) ?_<|O (az<|aB (i:=i) u0) rfl
    refine J (l.map X)<|O (z:=i) (by rw[ll];exact ai hi)<|O (eH hi)<|O (j i hi) ?_
    rw[cc,lS,a1];by_cases f:V.dot m (y l i)=d
    ·rw[zma f,zka<|show V.dot m (l.getD i V.zero)=d from f];rfl
    ·rw[zha f,zfa<|show ¬ V.dot m (l.getD i V.zero)=d from f];rfl
  ·subst q;rw[r];refine⟨(0,[.sl [],I (a:Int)]),?_,rfl⟩;refine J (l.map X)<|O ag<|O ac<|O (z:=false) (ay (by show ¬ ((l.length:Int)<((l.map X).length:Int));rw[ll];omega) rfl)<|O ac rfl
 ·refine O (z:=(0,[.sl<|E<|[]++p])) ?_ rfl;refine uQ (M:=l.length) (G:=λc=>c∈bB (y l) l.length m d) (λc b w A=>A.mem) (λc b out w A N R=>?_) (λc out w A R=>?_) P W [] (by simpa using T)
  all_goals
   obtain⟨b',a4,g⟩:∃ b',(b'=a\/b'≠a)/\Side m (y l) (bB (y l) l.length m d) c b':=by first|exact⟨_,Classical.em _,A⟩
   refine J (l.map X)<|O gC<|O ac<|au (by show(((E out).length:Int)<=((l.map X).length:Int));rw[ll,am];omega) ?_
   rw[zma (by simp[g0,D.els,am,zOa,zzb];omega)]
   have a5:E out++[I (c:Int)]=E (out++[c]):=by simp[E]
   have a0:=a6 b' g.mem;refine O (z:=(0,[.sl<|E<|out++[c],I (b':Int)])) ?_ ?_
   ·refine HP<|c8 (λi s=>s=[.sl<|E<|out++[c],mH<|if b'<i then some b' else none,I (i:Int)]) l.length 0 (zoa _) (by simp[g0,g1,D.els,a5,mH]) (λi hi s q=>?_)<|λs q=>?_
    ·subst q;by_cases hbi:b'<i
     ·right;rw[zma hbi];refine⟨(0,[.sl<|E<|out++[c],I (b':Int)]),?_,rfl⟩;refine J (l.map X)<|O ag<|O ac<|O (z:=false) (au (by show((i:Int)<((l.map X).length:Int));rw[ll];omega) ?_)<|O ac ?_
      ·refine O ag ?_;rw[zfa u0];rfl
      ·rfl
     ·left;rw[zha hbi];refine⟨[.sl<|E<|out++[c],mH<|if b'<i+1 then some b' else none,I ((i+1:Nat):Int)],?_,rfl⟩
      refine J (l.map X)<|O ag<|O ac<|O (z:=true) (au (by show((i:Int)<((l.map X).length:Int));rw[ll];omega)<|O (ag (a:=-1) (b:=0)) rfl)<|O ac ?_
      rw[zma rfl];refine O (z:=(0,[.sl<|E<|out++[c],mH<|if b'<i+1 then some b' else none])) ?_<|O (az<|aB (i:=i) u0) rfl
      have t:=a6 c w;by_cases f:i≠c/\V.dot m (y l i)=d
      ·have o:=aU.2 ⟨hi,f.2⟩;refine O (z:=true) (by show D.truth (D.bool<|!(D.beq (I (i:Int))<|I (c:Int)))=_;rw[dP,zfa f.1];rfl)<|O (z:=true) ?_<|O ac ?_
       ·rw[zma rfl];refine J (l.map X)<|O (z:=i) (by rw[ll];exact ai hi)<|O (eH hi)<|O (j i hi) ?_
        rw[cc,zka<|show V.dot m (l.getD i V.zero)=d from f.2];rfl
       ·rw[zma rfl];refine J (l.map X)<|O (z:=c) (by rw[ll];exact ai t)<|O (eH t)<|J (l.map X)<|O (z:=i) (by rw[ll];exact ai hi)<|O (eH hi)<|O (abY n hl a3 L.nz.1 hm t hi (B c w) f.2)<|O ac ?_
        by_cases u:i=b'
        ·subst u;rw[(Aq o f.1).2 g,zma rfl,zma u0];rfl
        ·have:Ap l m d c i=false:=by
          rw[zpc];intro h;exact u<|agl F w ((Aq o f.1).1 h) g
         rw[this,zha<|show ¬ b'<i+1 by omega];rfl
      ·have u:i≠b':=λe=>f (by subst e;exact⟨g.ne,B _ g.mem⟩)
       rw[zha<|show ¬ b'<i+1 by omega]
       by_cases hic:i=c
       ·subst hic;refine O (z:=false) (by show D.truth (D.bool<|!(D.beq (I (i:Int))<|I (i:Int)))=_;rw[dP,zka rfl];rfl)<|J false<|O ac rfl
       ·have v:¬ V.dot m (l.getD i V.zero)=d:=λh=>f ⟨hic,h⟩;refine O (z:=true) (by show D.truth (D.bool<|!(D.beq (I (i:Int))<|I (c:Int)))=_;rw[dP,zfa hic];rfl)<|O (z:=false) ?_<|O ac rfl
        rw[zma rfl];refine J (l.map X)<|O (z:=i) (by rw[ll];exact ai hi)<|O (eH hi)<|O (j i hi) ?_
        rw[cc,zfa v];rfl
    ·subst q;rw[zma a0];refine⟨(0,[.sl<|E<|out++[c],I (b':Int)]),?_,rfl⟩;exact J (l.map X)<|O ag<|O ac<|O (z:=false) (ay (by show ¬ ((l.length:Int)<((l.map X).length:Int));rw[ll];omega) rfl)<|O ac rfl
   ·have Y:=agl F w A g;subst Y;first
     | exact O (z:=true) (by show D.truth (D.bool (D.beq (I (_:Int)) (I (_:Int))))=_;rw[dP,zka rfl];rfl) (J true (O ac rfl))
     | exact O (z:=false) (by show D.truth (D.bool (D.beq (I (_:Int)) (I (_:Int))))=_;rw[dP,zfa N];rfl) (O (z:=false) (by rw[zha H];refine O ag ?_;rw[zfa u0];rfl) (O ac rfl))
end
section
variable{a l:List Nat}
def bu:List Nat->Nat
 | []=>0
 | d::l=>d+65536*bu l
def dl(l:List Nat):Prop:=∀ d∈l,d<65536
def dl.cons{d:Nat}{l:List Nat}(a:d<65536)(h:dl l):dl (d::l):=λx hx=>by
 rcases zMa.1 hx with rfl|hx
 ·exact a
 ·exact h x hx
def dl.append{b:List Nat}(c:dl a)(d:dl b):dl (a++b):=λx hx=>by
 rcases zJa.1 hx with hx|hx
 ·exact c x hx
 ·exact d x hx
theorem dl.getD(h:dl l)(i:Nat):l.getD i 0<65536:=by
 simp[List.getD];cases hi:l[i]? with
 | none=>simp
 | some x=>exact h x<|zfb hi
def aR(m:Nat):List Nat:=if h:m=0 then[] else m%65536::aR (m/65536)
termination_by m
decreasing_by omega
theorem df:aR 0=[]:=by unfold aR;simp
theorem kf{m:Nat}(h:m≠0):aR m=m%65536::aR (m/65536):=by rw[aR,dif_neg h]
def zm{d v:Nat}(a:d<65536)(h:d+65536*v≠0):aR (d+65536*v)=d::aR v:=by rw[kf h,show(d+65536*v)%65536=d by omega,show(d+65536*v)/65536=v by omega]
theorem bw(m:Nat):bu (aR m)=m:=by
 induction m using Nat.strongRecOn with
 | _ m ih=>
  by_cases h:m=0
  ·subst h;rw[df];rfl
  ·rw[kf h,bu,ih _ u0];omega
def cR(m:Nat):dl (aR m):=by
 induction m using Nat.strongRecOn with
 | _ m ih=>
  by_cases h:m=0
  ·subst h;rw[df];intro d a;cases a
  ·rw[kf h];exact dl.cons u0<|ih _ u0
def wW{m:Nat}:aR m=[]↔m=0:=by
 constructor
 ·intro h;have:=bw m;rw[h] at this;exact this.symm
 ·rintro rfl;exact df
theorem tX(i:Nat):∀ m,(aR m).getD i 0=m/65536^i%65536:=by
 induction i with
 | zero=> all_goals grind [df,kf]
 | succ i ih=>
  intro m;by_cases h:m=0
  ·simp_all [df]
  ·simp_all [kf,ih,zYa,z2b,zVa]
theorem dQ(k:Nat):∀ m,m<65536^k->(aR m).length<=k:=by
 induction k with
 | zero=>
      intro m h;have:m=0:=by simpa using h
      simp_all [df]
 | succ k ih=> all_goals grind [df,kf,List.length_cons,Nat.pow_succ,Nat.mul_comm]
theorem nP(a b:List Nat):bu (a++b)=bu a+65536^a.length*bu b:=by
 induction a with
 | nil=>simp[bu]
 | cons d a ih=> simp[zrb,bu,ih,zOa,z2b];grind
def p9(l:List Nat)(n:Nat):bu (l++List.replicate n 0)=bu l:=by
 rw[nP];have:∀ n,bu (List.replicate n 0)=0:=λn=>by
  induction n with
  | zero=>rfl
  | succ n ih=>rw[List.replicate_succ,bu,ih]
 simp_all
def vt(l:List Nat):Nat->Nat
 | 0=>0
 | k+1=>vt l k+l.getD k 0*65536^k
theorem QN(d:Nat)(l:List Nat)(k:Nat):vt (d::l) (k+1)=d+65536*vt l k:=by
 induction k with
 | zero=>simp[vt]
 | succ k ih=> rw[vt,ih,vt,zlc];grind
theorem rE(l:List Nat):vt l l.length=bu l:=by
 induction l with
 | nil=>rfl
 | cons d l ih=>rw[zOa,QN,ih];rfl
def lh{k:Nat}(h:l.length<=k):vt l k=bu l:=by
 obtain⟨j,rfl⟩:∃ j,k=l.length+j:=⟨k-l.length,u0⟩
 clear h
 induction j with
 | zero=>exact rE l
 | succ j ih=>
  rw[<-zNb,vt,ih]
  simp_all
theorem yq(h:dl l)(k:Nat):vt l k<65536^k:=by
 induction k with
 | zero=>simp[vt]
 | succ k ih=>
  have a:=h.getD k;have b:l.getD k 0*65536^k<=65535*65536^k:=zKa _ u0
  grind [vt,Nat.pow_succ,Nat.mul_comm]
def oI(h:dl l):bu l<65536^l.length:=by rw[<-rE];exact yq h _
def nw:List Nat->List Nat
 | []=>[]
 | d::l=>match nw l with
  | []=>if d=0 then[] else[d]
  | x::t=>d::x::t
theorem kF(h:dl l):nw l=aR (bu l):=by
 induction l with
 | nil=>rw[bu,df];rfl
 | cons d l ih=>
  have a:=h d zBa;have ih:=ih λx hx=>h x<|zsa _ hx;rw[nw,ih,bu];by_cases hv:bu l=0
  ·rw[hv,df];by_cases h0:d=0
   ·subst h0;simp[df]
   ·rw[zm a u0,df];simp[h0]
  ·rw[zm a u0,kf hv]
def GF(h:∀ i,i<l.length->l.getD i 0=0):nw l=[]:=by
 induction l with
 | nil=>rfl
 | cons d l ih=>
  have h0:d=0:=h 0 j2
  rw[nw,ih (λi hi=>h (i+1) (by simpa using hi)),h0];simp
theorem AD:∀ {l:List Nat} {n:Nat},n<=l.length->(∀ i,n<=i->i<l.length->l.getD i 0=0)->(n=0\/l.getD (n-1) 0≠0)->l.take n=nw l
 | [],n,_,_,_=>by simp[nw]
 | d::l,0,_,b,_=>by rw[GF<|λi hi=>b i u0 hi];rfl
 | d::l,n+1,c,b,hl=>by
  have a:(d::l).getD n 0≠0:=by all_goals simp_all
  have ih:=AD (l:=l) (n:=n) (by simpa using c) (λi g f=>b (i+1) u0 (by simpa using f)) (by
   cases n with
   | zero=>exact .inl rfl
   | succ k=>exact .inr a)
  rw[zdc,ih,nw];cases ht:nw l with
  | nil=>
   rw[ht] at ih;have:n=0:=by
    cases n with
    | zero=>rfl
    | succ k=>cases l with
     | nil=>simp at c
     | cons e l=>simp at ih
   simp_all
  | cons x t=>rfl
end
section
variable{a:Nat}{l:List Nat}
def dS{l:List Nat}{i:Nat}(h:i<l.length):(E l)[i]?=some (I (l.getD i 0:Nat)):=mK h
def zt(a:List Nat)(d:Nat):E a++[I (d:Int)]=E (a++[d]):=by simp[E]
theorem E4(n:Nat){l:List Nat}(hl:l.length<=1000000):cA (n+1) 140 [.sl<|E l]=some (.sl<|E<|nw l):=by
 refine fN SM ?_
 delta SM P qC qS qX iL iR J0 J1 bq jl qA qy
 refine J (E l) ?_;have fin:∀ j:Nat,j<=l.length->(∀ i,j<=i->i<l.length->l.getD i 0=0)->(j=0\/l.getD (j-1) 0≠0)->((D.asSl<|.sl<|E l).bind λe=>(D.natOf<|I (j:Int)).bind λd=>(D.cut e 0 d).bind λf=>some<|D.sl f)=some (.sl<|E<|nw l):=by
  intro j o a m;refine J (E l)<|O (z:=j) (by simp[D.natOf])<|O (z:=E<|l.take j) ?_ (by rw[AD o a m])
  simp_all [D.cut,zoa,am,E,ztd]
 refine aV (λi s=>s=[I ((l.length-i:Nat):Int)]/\∀ k,l.length-i<=k->k<l.length->l.getD k 0=0) l.length 0 (zoa _) ⟨by rw[am];rfl,λk g h=>u0⟩ (λi hi s b=>?_)<|λs b=>?_
 ·obtain⟨rfl,a⟩:=b;have c:inR (((l.length-i:Nat):Int)-1):=by simp[inR];omega
  have e1:((l.length-i:Nat):Int)-1=((l.length-i-1:Nat):Int):=u0
  have hx:(E l)[l.length-i-1]?=some (I (l.getD (l.length-i-1) 0:Nat)):=dS u0
  by_cases h0:l.getD (l.length-i-1) 0=0
  ·left;refine⟨[I ((l.length-(i+1):Nat):Int)],?_,rfl,λk g h=>?_⟩
   ·refine O bR<|O ac<|O (z:=true) (au (by show((l.length-i:Nat):Int)>0;omega) ?_)<|O ac ?_
    ·refine O (bP c)<|J (E l)<|O (z:=l.length-i-1) (by rw[e1,am];exact ai u0)<|O hx ?_
     rw[h0];rfl
    ·rw[zma rfl];refine O (bP c) ?_;grind
   ·grind
  ·right;refine⟨(0,[I ((l.length-i:Nat):Int)]),?_,fin _ u0 a<|.inr h0⟩
   refine O bR<|O ac<|O (z:=false) (au (by show((l.length-i:Nat):Int)>0;omega) ?_)<|O ac rfl
   refine O (bP c)<|J (E l)<|O (z:=l.length-i-1) (by rw[e1,am];exact ai u0)<|O hx ?_
   rw[cc,zfa u0];rfl
 ·obtain⟨rfl,a⟩:=b;refine⟨(0,[I ((l.length-l.length:Nat):Int)]),?_,fin _ u0 a<|.inl u0⟩
  refine O bR<|O ac<|O (z:=false) (ay (by show ¬ ((l.length-l.length:Nat):Int)>0;omega) rfl)<|O ac rfl
theorem II(n:Nat)(l:List Nat)(k:Nat):cA (n+1) 141 [.sl<|E l,I (k:Int)]=some (I (l.getD k 0:Nat)):=by
 refine eN SN ?_
 delta SN qX J0 ql
 refine J (E l)<|O ag<|O ac ?_;by_cases h:k<l.length
 ·refine au (by show(k:Int)<((E l).length:Int);rw[am];omega) ?_
  exact J (E l)<|O (z:=k) (by rw[am];exact ai h)<|O (dS h) rfl
 ·grind [am,List.getD]
def fX(l:List Nat)(i:Nat):Nat:=l.getD (2*i) 0+65536*l.getD (2*i+1) 0
abbrev U(n:Nat):D:=.int .u32 (n:Int)
def fj(l:List Nat):D:=.st<|(List.range 16).map λi=>U<|fX l i
def M(x:Int):D:=.st [.bool false,.bool<|decide (x<0),fj<|aR x.natAbs]
def Bt(h:dl l)(i:Nat):fX l i<4294967296:=by have:=h.getD<|2*i;have:=h.getD<|2*i+1;unfold fX;omega
def xx{i:Nat}(h:i<16):D.fld (fj l) i=some (U<|fX l i):=by simp[fj,D.fld,h]
def dK{x:Int}{i:Nat}(h:i<16):D.get (M x) [2,i]=some (U<|fX (aR x.natAbs) i):=
 J (fj<|aR x.natAbs) (O (xx h) rfl)
theorem tv{n:Int}(h:0<=n/\n<4294967296):IntKind.wrap .u32 n=n:=by grind [IntKind.wrap,IntKind.signed,IntKind.bits]
theorem UN(a:Nat):afA .rem (U a) (.int .u32 65536)=some (U<|a%65536):=by
 simp[afA,if_true,show ¬ (65536:Int)=0 by decide,if_false]
 grind
def UM(h:a<4294967296):afA .quo (U a) (.int .u32 65536)=some (U<|a/65536):=by
 simp only[afA,if_true,show ¬ (65536:Int)=0 by decide,if_false]
 rw[show(65536:Int)=((65536:Nat):Int) from rfl,<-zId,tv u0]
def Lk{b:Nat}(h:a+b<4294967296):afA .add (U a) (U b)=some (U<|a+b):=by simp only[afA,if_true];rw[tv u0];simp
def UL{b:Nat}(h:a*b<4294967296):afA .mul (U a) (U b)=some (U<|a*b):=by simp[afA,if_true];rw[show(a:Int)*(b:Int)=((a*b:Nat):Int) by simp,tv u0]
theorem vJ(h:a<4294967296):D.conv .i64 (U a)=some (I (a:Int)):=by grind [D.conv,jg,inR]
def Hn(h:a<4294967296):D.conv .u32 (I (a:Int))=some (U a):=by simp[D.conv];rw[tv u0]
theorem Gd(l:List Nat)(k:Nat):((List.range k).map λi=>l.getD i 0)=if k<=l.length then l.take k else l++List.replicate (k-l.length) 0:=by apply zTb;all_goals grind
def N5(a:dl l){k:Nat}(b:l.length<=k):nw ((List.range k).map λi=>l.getD i 0)=aR (bu l):=by
 have e:((List.range k).map λi=>l.getD i 0)=l++List.replicate (k-l.length) 0:=by
  rw[Gd];split
  ·have:k=l.length:=u0
   simp_all
  ·rfl
 rw[e,kF (a.append<|λx hx=>by rw[zqd hx];decide),p9]
def WS(n:Nat){x:Int}(hx:x.natAbs<65536^32):cA (n+2) 77 [M x]=some (.sl<|E<|aR x.natAbs):=by
 refine fN F77 ?_
 delta F77 Q P qV qW iL iR Jn J0 qc qi qj C qu qw qy
 have c:=cR x.natAbs;have a:=dQ 32 _ hx;refine aV (λi s=>s=[.sl<|E<|(List.range<|2*i).map λi=>(aR x.natAbs).getD i 0,I (i:Int)]) 16 0 (zoa _) rfl (λi hi s b=>?_) (λs b=>?_)
 ·subst b;left;refine⟨_,?_,rfl⟩;refine O ag<|O ac<|au (by show(i:Int)<16;omega) ?_
  have d:=Bt c i;have e:=c.getD<|2*i;refine O (z:=i) (ai hi)<|O (dK hi)<|O (UN _)<|O (vJ u0)<|O (z:=i) (ai hi)<|O (dK hi)<|O (UM d)<|O (vJ u0) ?_
  rw[zma (by simp[g0,D.els,am,zla,zec,zOa,zzb];omega)]
  refine O (az<|aB (i:=i) u0) ?_
  have e1:fX (aR x.natAbs) i%65536=(aR x.natAbs).getD (2*i) 0:=by unfold fX;omega
  have e2:fX (aR x.natAbs) i/65536=(aR x.natAbs).getD (2*i+1) 0:=by unfold fX;omega
  rw[e1,e2,show 2*(i+1)=2*i+1+1 by omega,zGb,zGb]
  simp[g0,D.els,E]
 ·subst b;refine⟨(0,[.sl<|E<|(List.range<|2*16).map λi=>(aR x.natAbs).getD i 0]),?_,?_⟩
  ·exact O ag<|O ac<|ay H rfl
  ·refine O (E4 n j2) ?_
   rw[N5 c a,bw]
end
section
variable{l:List Nat}{a:D}
theorem ml(l:List Nat)(k j:Nat):(l.take k).getD j 0=if j<k then l.getD j 0 else 0:=by grind
theorem xy{l':List Nat}{q v:Nat}{b:D}(hq:q<16)(h:∀ i,fX l' i=if i=q then v else fX l i):D.set (.st [a,b,fj l]) [2,q] (U v)=some (.st [a,b,fj l']):=by
 have c:D.set (fj l) [q] (U v)=some (fj l'):=by
  have e:((List.range 16).map λi=>U<|fX l i)[q]?=some (U<|fX l q):=by simp[hq]
  refine O e<|J (U v) ?_;simp[fj,zda,D.st.injEq];apply zTb;all_goals grind
 exact J (fj l)<|O c rfl
def UE(k:Nat):afA .rem (I (k:Int)) (.int .i64 2)=some (I (k%2:Nat)):=by rw[rP H,show(2:Int)=((2:Nat):Int) from rfl,<-Int.ofNat_tmod]
def lq{a b:Nat}(d:b≠0)(c:(a:Int)<=9223372036854775807):afA .quo (I (a:Int)) (I (b:Int))=some (I (a/b:Nat)):=by
 have:((a/b:Nat):Int)<=9223372036854775807:=by have:=zgc a b;omega
 have h0:0<=((a/b:Nat):Int):=Int.natCast_nonneg _;rw[uN u0 (by rw[<-zId];simp[inR];omega),<-zId]
def j9{a b:Nat}(c:b≠0):afA .rem (I (a:Int)) (I (b:Int))=some (I (a%b:Nat)):=by rw[rP u0,<-Int.ofNat_tmod]
def Di{b:D}{i:Nat}(h:i<16):D.get (.st [a,b,fj l]) [2,i]=some (U<|fX l i):=
 J (fj l) (O (xx h) rfl)
def sgn(neg:Bool)(m:Nat):Int:=if neg then -(m:Int) else m
theorem Y7(n:Nat){neg:Bool}(j:dl l)(hl:l.length<=1000000)(p:bu l<65536^32):cA (n+2) 81 [.bool neg,.sl<|E l]=some (M<|sgn neg<|bu l):=by
 rw[u81]
 delta F81 Q P qT qS qX iL iR Jn J0 J2 S bq jl qb qc qe qh qi qj C ql qs qt qw qy
 have e:=dQ 32 _ p;have c:=cR<|bu l;have h:M (sgn neg<|bu l)=.st [.bool false,.bool<|neg&&decide (0<(aR<|bu l).length),fj<|aR<|bu l]:=by
  have e1:(sgn neg<|bu l).natAbs=bu l:=by unfold sgn;split<;>omega
  have e2:(0<(aR<|bu l).length)↔bu l≠0:=by rw[zYc];exact not_congr wW
  unfold M;rw[e1];have:decide (sgn neg (bu l)<0)=(neg&&decide (0<(aR<|bu l).length)):=by simp[e2,sgn];all_goals grind
  rw[this]
 rw[h];refine O (E4 n hl) ?_;rw[kF j];generalize aR (bu l)=d at e c;refine J (E d)<|O bR<|O ac<|ay (by show ¬ ((E d).length:Int)>32;rw[am];omega) ?_
 refine O ac<|O (z:=neg&&decide (0<d.length)) ?_ ?_
 ·cases neg
  ·rfl
  ·rw[zma rfl];refine J (E d)<|O bR ?_;rw[ac,am];simp
 refine aV (λk s=>s=[I (k:Int),.st [.bool false,.bool<|neg&&decide (0<d.length),fj<|d.take k]]) d.length 0 (zoa _) rfl (λk f s g=>?_) (λs g=>?_)
 ·subst g;left;refine⟨_,?_,rfl⟩;have o:=c.getD k;refine J (E d)<|O ag<|O ac<|au (by show(k:Int)<((E d).length:Int);rw[am];omega) ?_
  refine O (z:=(0,[.st [.bool false,.bool<|neg&&decide (0<d.length),fj<|d.take<|k+1]])) ?_<|O (az<|aB (i:=k) u0) rfl
  refine O (UE k) ?_;have q1:k/2<16:=u0
  have hq:afA .quo (I (k:Int)) (.int .i64 2)=some (I (k/2:Nat)):=lq (b:=2) H u0
  have a:fX (d.take k) (k/2)=if k%2=0 then 0 else d.getD (2*(k/2)) 0:=by simp[fX,ml];all_goals grind
  have m:=c.getD<|2*(k/2);by_cases hk2:k%2=0
  ·rw[zma hk2] at a;rw[hk2];refine J true ?_;rw[zma rfl];refine O hq<|O hq<|O (ai q1)<|O (Di q1)<|J (E d)<|O (z:=k) (by rw[am];exact ai f)<|O (dS f)<|O (Hn u0)<|O (Lk (by rw[a];omega))<|O (ai q1)<|O (xy q1 (l':=d.take<|k+1) ?_) rfl
   intro i;by_cases hi:i=k/2
   ·rw[zma hi,a,hi];simp[fX,ml];grind
   ·rw[zha hi];simp[fX,ml];grind
  ·rw[zha hk2] at a;refine O (z:=false) (by rw[show k%2=1 by omega];rfl) ?_
   rw[zha H]
   refine O hq<|O hq<|O (ai q1)<|O (Di q1)<|J (E d)<|O (z:=k) (by rw[am];exact ai f)<|O (dS f)<|O (Hn u0)<|O (UL (b:=65536) u0)<|O (Lk (by rw[a];omega))<|O (ai q1)<|O (xy q1 (l':=d.take<|k+1) ?_) rfl
   intro i;by_cases hi:i=k/2
   ·rw[zma hi,a,hi];simp[fX,ml];grind
   ·rw[zha hi];simp[fX,ml];grind
 ·subst g;refine⟨(0,[.st [.bool false,.bool<|neg&&decide (0<d.length),fj<|d.take d.length]]),?_,?_⟩
  ·exact J (E d)<|O ag<|O ac<|ay (by show ¬ (d.length:Int)<((E d).length:Int);rw[am];omega) rfl
  ·simp_all
theorem c82(n:Nat){a b:List Nat}(m:dl a)(o:dl b)(t:a.length<=900000)(u:b.length<=900000):cA (n+2) 82 [.sl<|E a,.sl<|E b]=some (.sl<|E<|aR<|bu a+bu b):=by
 refine eN F82 ?_
 delta F82 P qS qV qW iL iR Jn J0 jl qc qj C qu qy
 obtain⟨M,z⟩:∃ M,M=max a.length b.length:=⟨_,rfl⟩;have f:∀ k:Nat,D.max2 (D.int .i64 (E a).length) (D.int .i64 (E b).length)=some (I (M:Int)):=λ_=>by grind [sM,am]
 refine aV (λk s=>∃ (out:List Nat) (c:Nat),s=[.sl<|E out,I (c:Int),I (k:Int)]/\out.length=k/\dl out/\c<=1/\bu out+c*65536^k=vt a k+vt b k) (M+1) 0 (zoa _) ⟨[],0,rfl,rfl,(by intro d r;cases r),u0,by simp[bu,vt]⟩ (λk F s h=>?_)<|λs h=>?_
 ·obtain⟨out,c,rfl,j,g,p,v⟩:=h;left;have A:=m.getD k;have B:=o.getD k;refine⟨[.sl<|E<|out++[(a.getD k 0+b.getD k 0+c)%65536],I ((a.getD k 0+b.getD k 0+c)/65536:Nat),I ((k+1:Nat):Int)],?_,out++[(a.getD k 0+b.getD k 0+c)%65536],(a.getD k 0+b.getD k 0+c)/65536,rfl,by simp[j],g.append (λx hx=>by simp at hx;omega),u0,?_⟩
  ·refine J (E a)<|J (E b)<|O (f 0)<|O (az<|aB (i:=M) u0)<|O ag<|O ac<|au (by show(k:Int)<(M:Int)+1;omega) ?_
   refine O (II n a k)<|O (II n b k)<|O (az (by simp only[inR];omega))<|O (az (by simp only[inR];omega)) ?_
   rw[show(((a.getD k 0:Nat):Int)+((b.getD k 0:Nat):Int)+(c:Int))=((a.getD k 0+b.getD k 0+c:Nat):Int) by omega]
   refine O (j9 (b:=65536) H) ?_
   rw[zma (by simp[g0,D.els,am,zOa,zzb];omega)]
   refine O (lq (b:=65536) H u0)<|O (az<|aB (i:=k) u0) ?_
   simp only[g0,D.els,zt];rfl
  ·rw[nP,j,vt,vt,z2b];have e:a.getD k 0+b.getD k 0+c=(a.getD k 0+b.getD k 0+c)%65536+65536*((a.getD k 0+b.getD k 0+c)/65536):=u0
   have e2:bu [(a.getD k 0+b.getD k 0+c)%65536]=(a.getD k 0+b.getD k 0+c)%65536:=by simp[bu]
   grind
 ·obtain⟨out,c,rfl,j,g,p,v⟩:=h;refine⟨(0,[.sl<|E out]),?_,?_⟩
  ·refine J (E a)<|J (E b)<|O (f 0)<|O (az<|aB (i:=M) u0)<|O ag<|O ac<|ay (by show ¬ (((M+1:Nat):Int)<(M:Int)+1);omega) rfl
  ·refine O (E4 n (l:=out) u0) ?_
   have w:vt a (M+1)=bu a:=lh u0
   have y:vt b (M+1)=bu b:=lh u0
   have la:=yq m M;have lb:=yq o M;rw[lh<|show a.length<=M by omega] at la
   rw[lh<|show b.length<=M by omega] at lb
   have q:c=0:=by all_goals grind
   simp_all [kF,w,y]
theorem Kh(n:Nat){x:Int}(hx:inR x):cA (n+3) 34 [I x]=some (M x):=by
 refine fN F34 ?_
 delta F34 P Jn J0 J1 S bT qc qj C
 obtain⟨j,c⟩:=hx;have f:∀ m:Nat,(m:Int)<=9223372036854775807->dl [m%65536,m/65536%65536,m/4294967296%65536,m/281474976710656]:=λm hm d i=>by grind
 have d2:∀ m:Nat,bu [m%65536,m/65536%65536,m/4294967296%65536,m/281474976710656]=m:=λm=>by simp[bu];omega
 have g:∀ m:Nat,D.sl [I (m%65536:Nat),I (m/65536%65536:Nat),I (m/4294967296%65536:Nat),I (m/281474976710656:Nat)]=.sl (E [m%65536,m/65536%65536,m/4294967296%65536,m/281474976710656]):=λm=>rfl;have a:∀ m:Nat,(m:Int)<=9223372036854775808->m<65536^32:=λm hm=>by omega
 refine O fD<|O ac ?_;by_cases h:x ≥ 0
 ·refine au h ?_;obtain⟨m,rfl⟩:=zFc h;refine O (j9 (b:=65536) H)<|O (lq (b:=65536) H c)<|O (j9 (b:=65536) H)<|O (lq (b:=4294967296) H c)<|O (j9 (b:=65536) H)<|O (lq (b:=281474976710656) H c) ?_
  refine O (z:=M m) ?_ rfl;rw[g,Y7 n (f m c) j2 (by rw[d2];exact a m u0),d2];rfl
 ·refine ay h ?_;obtain⟨m,hm⟩:=zFc<|show 0<=-(x+1) by omega
  have e:(m:Int)<=9223372036854775807:=u0
  refine O (az (by simp[inR];omega))<|O (ny (by simp[inR];omega)) ?_
  rw[hm];refine O (j9 (b:=65536) H)<|O (lq (b:=65536) H e)<|O (j9 (b:=65536) H)<|O (lq (b:=4294967296) H e)<|O (j9 (b:=65536) H)<|O (lq (b:=281474976710656) H e) ?_
  rw[g];refine O (c82 n (b:=[1]) (f m e) (λd i=>by simp at i;omega) j2 j2)<|O (z:=M x) ?_ rfl
  rw[d2];have e1:bu [1]=1:=rfl;rw[e1,Y7 n (cR _) ?_ ?_,bw]
  ·grind [sgn]
  ·have:=dQ 32 _<|a (m+1) u0;omega
  ·grind [bw]
end
def In(x:Int):Prop:=x.natAbs<65536^32
def In.of{x:Int}(h:inR x):In x:=by
 have:(65536:Nat)^4<=65536^32:=zpa H H
 have e:(65536:Nat)^4=18446744073709551616:=H
 obtain⟨a,b⟩:=h;grind [In]
def j4(m i:Nat):fX (aR m) i=m/4294967296^i%4294967296:=by
 have e1:65536^(2*i)=4294967296^i:=by rw[Nat.pow_mul]
 have e2:65536^(2*i+1)=4294967296^i*65536:=by rw[z2b,e1]
 unfold fX;rw[tX,tX,e1,e2,<-zYa];omega
def Ry(m:Nat):fX (aR m) 0=m%4294967296:=by rw[j4,z1c,zid]
def MH(m:Nat):fX (aR m) 1=m/4294967296%4294967296:=by rw[j4,Nat.pow_one]
def Ys{m i:Nat}(h:m<18446744073709551616)(hi:2<=i):fX (aR m) i=0:=by
 rw[j4];have:(4294967296:Nat)^2<=4294967296^i:=zpa H hi
 rw[zcb u0]
def QW{a b:Nat}:D.beq (U a) (U b)=decide (a=b):=by simp[D.beq,decide_true,zPb];all_goals grind
def xz{m:Nat}(hm:m<65536^32)(h:∀ i,i<16->fX (aR m) i=0):m=0:=by
 have b:∀ i,i<32->(aR m).getD i 0=0:=λi hi=>by
  have:=h (i/2) u0
  unfold fX at this;all_goals grind
 have a:∀ k,k<=32->vt (aR m) k=0:=λk=>by
  induction k with
  | zero=>intro _;rfl
  | succ k ih=>intro c;rw[vt,ih u0,b k u0];simp
 have:=a 32 u0
 simp_all [lh,dQ,bw]
def zB(m i:Nat):Bool:=(List.range i).all λk=>decide (fX (aR m) k=0)
def QQ(m i:Nat):zB m (i+1)=(zB m i&&decide (fX (aR m) i=0)):=by simp_all [zB,zGb,z5c]
def abR(n:Nat){x:Int}(hx:In x):cA (n+1) 139 [M x]=some (.bool true):=by
 refine fN Kx ?_
 delta Kx Q qT qN iL iR Jn J0 bT bq qc qe qi qj qt qy qz
 have fin:∀ z:Bool,(z=true->x=0)->((D.get (M x) [0]).bind λg=>(D.truth g).bind λa=>
   if a then((D.truth<|.bool z).bind λb=>Option.bind (if b then((D.get (M x) [1]).bind λj=>(afP .not j).bind λk=>D.truth k) else(some false)) λc=>
   some (D.bool c)) else((afP .not<|.bool z).bind λl=>(D.truth l).bind λd=>
   Option.bind (if d then(some true) else((D.get (M x) [1]).bind λm=>(afP .not m).bind λo=>D.truth o)) λe=>some<|D.bool e))=some (.bool true):=by
  intro z p;refine J (.bool false)<|J false ?_;rw[zha H]
  refine J (.bool<|!z)<|J (!z) ?_;cases z with
  | false=>rfl
  | true=> have:=p rfl;subst this;rfl
 refine aV (λi s=>s=[.bool<|zB x.natAbs i,I (i:Int)]) 16 0 (zoa _) rfl (λi hi s f=>?_) (λs f=>?_)
 ·subst f;left;refine⟨_,?_,rfl⟩;refine O ag<|O ac<|au (by show(i:Int)<16;omega)<|O ac<|O (z:=zB x.natAbs<|i+1) ?_<|O (az<|aB (i:=i) u0) rfl
  rw[QQ];cases zB x.natAbs i with
  | false=>rfl
  | true=> rw[zma rfl];refine O (ai hi)<|O (dK hi) ?_;show D.truth (D.bool<|D.beq (U<|fX (aR x.natAbs) i)<|U 0)=_;rw[QW,ac];rfl
 ·subst f;refine⟨(0,[.bool<|zB x.natAbs 16]),?_,?_⟩
  ·exact O ag<|O ac<|ay H rfl
  ·refine fin _ λh=>?_;have:=xz hx<|λi hi=>of_decide_eq_true<|zxa.1 h i<|zRa.2 hi;omega
def IM(n:Nat){x:Int}(hx:In x):cA (n+2) 76 [M x]=some (.bool true):=by
 refine fN W3 ?_
 delta W3 Q qT qe C qz
 exact O (abR n hx)<|O ac rfl
def Ln(n:Nat){x:Int}(hx:x.natAbs<4611686018427387904):cA (n+3) 124 [M x]=some (.tup [I x,.bool true]):=by
 have b:In x:=In.of (by simp[inR];omega)
 rw[YQ]
 delta OF Q P qN iL iR Jn J0 J2 S bT nq qO qc qh qi qj C qt qw qy
 have l1:=MH x.natAbs;refine O (IM n b)<|O aD<|O ac<|O (z:=false) ?_<|O ac ?_
 ·rw[zha H]
  refine O (dK (i:=1) H) ?_
  rw[l1];have:afA .geq (U<|x.natAbs/4294967296%4294967296) (.int .u32 1073741824)=some (.bool false):=by simp only[afA,if_true];rw[zfa u0]
  exact O this rfl
 ·rw[zha H]
  refine aV (λi s=>s=[I (i:Int)]/\2<=i) 16 2 H ⟨rfl,H⟩ (λi hi s a=>?_)<|λs a=>?_
  ·obtain⟨rfl,c⟩:=a;left;refine⟨_,?_,rfl,u0⟩
   refine O ag<|O ac<|au (by show(i:Int)<16;omega) ?_
   refine O (ai hi)<|O (dK hi) ?_;rw[Ys u0 c]
   refine J false ?_;rw[zha H]
   exact O (az<|aB (i:=i) u0) rfl
  ·obtain⟨rfl,_⟩:=a;refine⟨(1,[]),O ag<|O ac<|ay H rfl,?_⟩
   rw[zha H]
   have e0:=Ry x.natAbs;refine O (dK (i:=1) H)<|O (vJ<|Bt (cR _) 1) ?_
   rw[l1];refine O (cL (by simp[inR];omega))<|O (dK (i:=0) H)<|O (vJ<|Bt (cR _) 0) ?_
   rw[e0];refine O (az (by simp[inR];omega))<|J (.bool<|decide (x<0))<|O ac ?_
   by_cases hx0:x<0
   ·refine au hx0 ?_;refine O (ny (by simp[inR];omega)) ?_
    grind
   ·grind
def abS(n:Nat){x:Int}(hx:In x):cA (n+3) 142 [M x]=some (M x.natAbs):=by
 refine fN SO ?_
 delta SO S C qn
 have hl:=dQ 32 _ hx;refine O (IM n hx)<|O aD<|O ac ?_;refine O (WS n hx)<|O (z:=M x.natAbs) ?_ rfl;rw[Y7 n (cR _) u0 (by rw[bw];exact hx),bw];rfl
def c78(n:Nat){a b:List Nat}(m:dl a)(o:dl b)(q:a.length<=900000)(r:b.length<=900000):cA (n+2) 78 [.sl<|E a,.sl<|E b]=some (.bool<|decide (bu a<bu b)):=by
 refine eN F78 ?_
 delta F78 P qS iL iR J0 J1 S jl nq qc C qr qt qy
 obtain⟨M,t⟩:∃ M,M=max a.length b.length:=⟨_,rfl⟩;have c:D.max2 (D.int .i64 (E a).length) (D.int .i64 (E b).length)=some (I (M:Int)):=by grind [sM,am]
 have e:vt a M=bu a:=lh u0
 have f:vt b M=bu b:=lh u0
 refine J (E a)<|J (E b)<|O c<|O (bP (by simp[inR];omega)) ?_
 refine aV (λi s=>s=[I<|(M:Int)-1-i]/\(bu a<bu b↔vt a (M-i)<vt b (M-i))) M 0 (zoa _) ⟨j2,by simp[e,f]⟩ (λi hi s d=>?_)<|λs d=>?_
 ·obtain⟨rfl,g⟩:=d;obtain⟨k,p⟩:∃ k,M-i=k+1:=⟨M-i-1,u0⟩
  rw[p,vt,vt] at g;have e1:(M:Int)-1-i=(k:Int):=u0
  rw[e1];have la:=yq m k;have lb:=yq o k;have q1:=II n a k;have j:=II n b k;by_cases hab:a.getD k 0=b.getD k 0
  ·left;refine⟨[I<|(M:Int)-1-(i+1:Nat)],?_,rfl,?_⟩
   ·refine O fD<|O ac<|au (by show(k:Int) ≥ 0;omega)<|O q1<|O j<|O (z:=false) ?_ ?_
    ·rw[hab,dP,zka rfl];rfl
    ·rw[zha H]
     refine O (bP (by simp[inR];omega)) ?_
     grind
   ·grind
  ·right;refine⟨(0,[.bool<|decide (a.getD k 0<b.getD k 0)]),?_,?_⟩
   ·refine O fD<|O ac<|au (by show(k:Int) ≥ 0;omega)<|O q1<|O j<|O (z:=true) ?_ ?_
    ·rw[dP,zfa hab];rfl
    ·rw[zma rfl];refine O q1<|O j<|O ag ?_;simp
   ·rw[zma rfl];show some (D.bool<|decide (a.getD k 0<b.getD k 0))=_;congr 3;rw[eq_iff_iff,g];generalize a.getD k 0=u at *;generalize b.getD k 0=v at *;generalize 65536^k=B at *;constructor
    ·intro h;have:(u+1)*B<=v*B:=zKa _ h;grind
    ·intro h;rcases zua u v with l|l
     ·exact l
     ·have:(v+1)*B<=u*B:=zKa _ u0
      grind
 ·obtain⟨rfl,g⟩:=d;refine⟨(1,[]),?_,?_⟩
  ·exact O fD<|O ac<|ay (by show ¬ ((M:Int)-1-(M:Nat)) ≥ 0;omega) rfl
  ·grind [decide,vt,decide_eq_false]
def c32(n:Nat){x y:Int}(hx:In x)(a:In y):cA (n+3) 32 [M x,M y]=some (I<|bf x y):=by
 rw[u32]
 delta F32 Q qN Jn J0 J1 nq qA qb C qn qt qz
 have g:=dQ 32 _ hx;have h:=dQ 32 _ a;have Z:=IM n hx;have e:=IM n a;have c:=WS n hx;have d:=WS n a;refine O Z<|O aD<|O ac<|J false<|J false ?_;rw[zha H]
 refine O Z<|O aD<|J false ?_;rw[zha H]
 refine O e<|O aD<|J false ?_;rw[zha H]
 refine J (.bool<|decide (x<0))<|J (.bool<|decide (y<0)) ?_;have l1:=c78 n (cR x.natAbs) (cR y.natAbs) u0 u0
 have b:=c78 n (cR y.natAbs) (cR x.natAbs) u0 u0
 simp[bw] at l1 b;have f:∀ p q:Bool,D.truth (.bool<|!(D.beq (.bool p)<|.bool q))=some (!(p==q)):=λp q=>rfl;rw[f];refine O rfl ?_;by_cases h1:x<0<;>by_cases h2:y<0
 ·rw[zka h1,zka h2,zha H]
  refine O c<|O d<|O (z:=(0,[.sl<|E<|aR y.natAbs,.sl<|E<|aR x.natAbs])) ?_ ?_
  ·refine O (z:=.bool true) (by rw[show D.get (M x) [1]=some (.bool<|decide (x<0)) from rfl,zka h1])<|J true ?_
   simp_all
  ·refine O b<|O l1<|O ac ?_;by_cases h3:y.natAbs<x.natAbs
   ·refine au h3 ?_;simp[bf,show x<y by omega]
   ·refine ay h3<|O ac ?_;by_cases h4:x.natAbs<y.natAbs
    ·refine au h4 ?_;simp[bf,show ¬ x<y by omega,show y<x by omega]
    ·refine ay h4 ?_;simp[bf,show ¬ x<y by omega,show ¬ y<x by omega]
 ·rw[zka h1,zfa h2,zma H]
  refine O (z:=.bool true) (by rw[show D.get (M x) [1]=some (.bool<|decide (x<0)) from rfl,zka h1])<|J true ?_
  simp[bf,show x<y by omega]
 ·rw[zfa h1,zka h2,zma H]
  refine O (z:=.bool false) (by rw[show D.get (M x) [1]=some (.bool<|decide (x<0)) from rfl,zfa h1])<|J false ?_
  simp[bf,show ¬ x<y by omega,show y<x by omega]
 ·rw[zfa h1,zfa h2,zha H]
  refine O c<|O d<|O (z:=(0,[.sl<|E<|aR x.natAbs,.sl<|E<|aR y.natAbs])) ?_ ?_
  ·refine O (z:=.bool false) (by rw[show D.get (M x) [1]=some (.bool<|decide (x<0)) from rfl,zfa h1])<|J false rfl
  ·refine O l1<|O b<|O ac ?_;by_cases h3:x.natAbs<y.natAbs
   ·refine au h3 ?_;simp[bf,show x<y by omega]
   ·refine ay h3<|O ac ?_;by_cases h4:y.natAbs<x.natAbs
    ·refine au h4 ?_;simp[bf,show ¬ x<y by omega,show y<x by omega]
    ·refine ay h4 ?_;simp[bf,show ¬ x<y by omega,show ¬ y<x by omega]
section
variable{a:Int}
def Wd(x:Int):Prop:=x.natAbs<4611686018427387904
theorem Wd.inR{x:Int}(h:Wd x):inR x:=by unfold Wd at h;simp[Sy.inR];omega
theorem Wd.In{x:Int}(h:Wd x):In x:=In.of h.inR
theorem abU(n:Nat){b:Int}(e:Wd a)(c:b≠0)(d:b ∣ a):cA (n+1) 144 [I a,I b]=some (I<|a/b):=by
 refine eN SQ ?_
 delta SQ P qT J0 J1 nq qA qb
 obtain⟨q,rfl⟩:=d;have e1:(b*q).tdiv b=q:=Int.mul_tdiv_cancel_left _ c;have e2:b*q/b=q:=zZa _ c;have e3:(b*q).tmod b=0:=Int.mul_tmod_right ..;have hq:Sy.inR q:=by
  have:q.natAbs<=(b*q).natAbs:=by rw[zwa];exact zjb _ u0
  grind [Wd,Sy.inR]
 rw[e2];refine O (uN c (by rw[e1];exact hq))<|O (z:=(0,[I q])) (O (rP c) ?_) rfl
 rw[e1,e3];exact J false<|J false<|O ac rfl
def Y8(n:Nat){b:Int}(d:Wd a)(c:Wd b):cA (n+4) 85 [M a,M b]=some (M (Nat.gcd a.natAbs b.natAbs:Nat)):=by
 refine eN W4 ?_
 delta W4 P qT qN qS iL iR J0 S jl nq qA qO qc C qp qt qy qz
 refine O (Ln n d)<|J (I a)<|J (.bool true)<|O (Ln n c)<|J (I b)<|J (.bool true)<|J true<|J true<|J true ?_;rw[zma rfl];obtain⟨r,f,g⟩:=Df (body:=λ(v1:List D)=>
  (D.truth<|D.bool<|!(D.beq (Z v1 1)<|D.int .i64 0)).bind λb2=>
  if b2 then((afA .rem (Z v1 0)<|Z v1 1).bind λh=>
  some (Sum.inl [Z v1 1,h])) else(some<|Sum.inr (0,[Z v1 0])))
  (λa b c=>by simp[g0,g1,cc,ac,zba,c,decide_false,zSb,if_true,rP c])
  (λa=>by simp[g0,g1,cc,ac,zba,decide_true,zmc,zIa,if_false]) _ a b rfl
 refine q9 f ?_;have i:Nat.gcd a.natAbs b.natAbs<=4611686018427387903:=by unfold Wd at d c;exact uh u0 u0
 have e:Sy.inR r:=by simp[Sy.inR];omega
 refine O (Kh n e)<|O (abS n<|In.of e) ?_;rw[g]
def c83(n:Nat){x:Int}(hx:In x):cA (n+3) 83 [M x]=some (I<|sg x):=by
 refine fN F83 ?_
 delta F83 Q qN qS Jn J0 J1 bq jl qO C qt
 refine O (IM n hx)<|O aD<|J false<|O (z:=decide (x=0)) ?_<|O ac ?_
 ·rw[zha H]
  refine O (WS n hx)<|J (E<|aR x.natAbs) ?_;rw[ac,am];show some (D.beq (I ((aR x.natAbs).length:Nat))<|I (0:Nat))=_;rw[dP]
  simp_all [decide_eq_decide,z8b,wW]
 ·by_cases h0:x=0
  ·refine au h0 ?_;subst h0;rfl
  ·refine ay h0<|J (.bool<|decide (x<0))<|O ac ?_;by_cases h1:x<0
   ·simp_all [Gs]
   ·refine ay h1 ?_;rw[gW u0]
theorem c87(n:Nat){b:Int}(d:Wd a)(f:Wd b)(c:b≠0)(e:b ∣ a):cA (n+4) 87 [M a,M b]=some (M<|a/b):=by
 refine eN F87 ?_
 delta F87 Q qT qN qS J0 J1 bq jl nq qA qO qa qb qh C qo qp qz
 refine O (Ln n d)<|J (I a)<|J (.bool true)<|O (Ln n f)<|J (I b)<|J (.bool true)<|J true<|J true<|J true<|O (z:=true) ?_<|J true ?_
 ·rw[zma rfl,cc,zfa c];rfl
 ·rw[zma rfl];have hq:Sy.inR (a/b):=by
   obtain⟨q,rfl⟩:=e;rw[zZa _ c];have:q.natAbs<=(b*q).natAbs:=by rw[zwa];exact zjb _ u0
   grind [Wd,Sy.inR]
  exact O (abU (n+2) d c e)<|O (Kh n hq) rfl
abbrev Y6(n:Nat):D:=.int .u64 (n:Int)
theorem eJ{n:Int}(h:0<=n/\n<18446744073709551616):IntKind.wrap .u64 n=n:=by grind [IntKind.wrap,IntKind.signed,IntKind.bits]
theorem UR(n:Nat){x:Int}(hx:Wd x):cA (n+4) 186 [M x]=some (.tup [I x,.bool true]):=by
 refine fN S7 ?_
 delta S7 Q P qC Jn J0 S bT qO qb qh C qn qt qw
 have b:x.natAbs<4611686018427387904:=hx;have i1:Sy.inR (-9223372036854775808):=⟨H,H⟩
 have a:Sy.inR 9223372036854775807:=⟨H,H⟩
 refine O (IM (n+1) hx.In)<|O aD<|J false ?_;rw[zha H]
 refine O (Kh n i1)<|O (Kh n a)<|O (c32 n hx.In<|In.of i1) ?_;rw[show bf x (-9223372036854775808)=1 by unfold bf;rw[zha u0,zma u0]]
 refine O (z:=.bool false) ag<|J false<|O (z:=false) ?_<|J false ?_
 ·rw[zha H]
  refine O (c32 n hx.In<|In.of a) ?_;rw[show bf x 9223372036854775807=-1 by unfold bf;rw[zma u0]]
  exact O (z:=.bool false) bR rfl
 ·rw[zha H]
  have l1:=MH x.natAbs;have l0:=Ry x.natAbs;refine O (dK (i:=1) H) ?_
  rw[l1];refine O (z:=Y6<|x.natAbs/4294967296%4294967296) (by simp[D.conv];rw[eJ u0]) ?_
  refine O (z:=Y6<|x.natAbs/4294967296%4294967296*4294967296) (by simp only[afA,if_true];rw[eJ u0];simp) ?_
  refine O (dK (i:=0) H) ?_
  rw[l0];refine O (z:=Y6<|x.natAbs%4294967296) (by simp[D.conv];rw[eJ u0]) ?_
  refine O (z:=Y6 x.natAbs) (by simp[afA,if_true];rw[eJ u0];congr 2;omega) ?_
  refine O (z:=I (x.natAbs:Nat)) (by simp[D.conv];rw[jg (by simp[Sy.inR];omega)]) ?_
  refine O (z:=(0,[I x])) (J (.bool<|decide (x<0))<|O ac ?_) rfl;by_cases h:x<0
  ·refine au h<|O (ny (by simp[Sy.inR];omega)) ?_
   grind
  ·grind
def ab4(n:Nat){v:V}(d:bd 2305843009213693951 v):cA (n+1) 187 [X v]=some (.bool true):=by
 refine fN S8 ?_
 delta S8 qC qJ iL iR Jn J0 J3 S bT qO qc qh qj qr qy
 have a:∀ x:Int,(-2305843009213693951<=x/\x<=2305843009213693951)->∀ (i:Nat) (hi:i<3),D.get (X v) [i]=some (I x)->((D.idx (I (i:Int)) 3).bind λj=>(D.get (X v) [j]).bind λk=>(afA .geq k<|D.int .i64 2305843009213693952).bind λl=>(D.truth l).bind λh=>
  Option.bind (if h then(some true) else((D.idx (I (i:Int)) 3).bind λi8=>(D.get (X v) [i8]).bind λm=>(afA .leq m<|D.int .i64<|-2305843009213693952).bind λe=>D.truth e)) λb=>
  (D.truth<|D.bool b).bind λc=>if c then(some<|Sum.inr (0,[D.bool false])) else((afA .add (I (i:Int))<|D.int .i64 1).bind λf=>some<|Sum.inl [f]))=some (Sum.inl [I ((i+1:Nat):Int)]:Sum (List D)<|Nat×List D):=λx hx i hi g=>by
  refine O (ai hi)<|O g<|O fD<|O ac<|O (z:=false) ?_<|J false ?_
  ·refine ay u0<|O (ai hi)<|O g<|O gC ?_
   rw[ac,zfa u0]
  ·rw[zha H]
   exact O (az<|aB (i:=i) u0) rfl
 refine ct (s':=[I (1:Nat)]) (O ag<|O ac<|au H<|a v.x d.1 0 H rfl)<|ct (s':=[I (2:Nat)]) (O ag<|O ac<|au H<|a v.y d.2.1 1 H rfl)<|ct (s':=[I (3:Nat)]) (O ag<|O ac<|au H<|a v.z d.2.2 2 H rfl)<|dY (r:=(1,[])) (O ag<|O ac<|ay H rfl) rfl
def iD(v:V):D:=.st [M v.x,M v.y,M v.z]
def c80(n:Nat){v:V}(hx:inR v.x)(a:inR v.y)(b:inR v.z):cA (n+4) 80 [X v]=some (iD v):=by
 refine fN F80 ?_
 delta F80 Q C
 exact O (qF v)<|O (Kh n hx)<|O (qH v)<|O (Kh n a)<|O (qK v)<|O (Kh n b) rfl
def Xv(n:Nat){v:V}(l:bd 2305843009213693951 v):cA (n+5) 155 [iD v]=some (.st [X<|aQ v,I<|if v=V.zero then 31 else 0]):=by
 refine fN SV ?_
 delta SV Q qJ iL iR Jn J0 J3 bq qc qi qj C qn qp qr qs qt qy
 have q:Wd v.x:=by have:=l.1;unfold Wd;omega
 have d:Wd v.y:=by have:=l.2.1;unfold Wd;omega
 have t:Wd v.z:=by have:=l.2.2;unfold Wd;omega
 have h0:Sy.inR 0:=⟨H,H⟩
 have w0:Wd 0:=by unfold Wd;decide
 have q1:Nat.gcd v.x.natAbs v.y.natAbs<=4611686018427387903:=by unfold Wd at q d;exact uh u0 u0
 have L:bk v<=4611686018427387903:=by
  unfold bk;have:=uh (a:=(Nat.gcd v.x.natAbs v.y.natAbs:Nat)) (b:=v.z) (k:=4611686018427387903) (by simpa using q1) (by unfold Wd at t;omega)
  simp_all
 have s:Wd (v.x.natAbs:Nat):=by unfold Wd at *;omega
 have w1:Wd (Nat.gcd v.x.natAbs v.y.natAbs:Nat):=by unfold Wd;omega
 have m:Wd (bk v:Nat):=by unfold Wd;omega
 have e:=Y8 n w0 q;have f:=Y8 n s d;have g:=Y8 n w1 t;rw[show(Nat.gcd (0:Int).natAbs v.x.natAbs)=v.x.natAbs by simp] at e
 rw[show(Nat.gcd ((v.x.natAbs:Nat):Int).natAbs v.y.natAbs)=Nat.gcd v.x.natAbs v.y.natAbs by simp] at f
 rw[show(Nat.gcd ((Nat.gcd v.x.natAbs v.y.natAbs:Nat):Int).natAbs v.z.natAbs)=bk v by simp[bk]] at g
 have fst:∀ {k:Nat×List D->Option D} {y:D},k (0,[M (bk v:Nat)])=some y->(cA (n+4) 34 [D.int .i64 0]).bind (λr1=>Option.bind (cB (λ(j:List D)=>
   (afA .lss (Z j 0)<|D.int .i64 3).bind λE=>(D.truth E).bind λu=>
   if u then((D.idx (Z j 0) 3).bind λA=>(D.get (iD v) [A]).bind λF=>(cA (n+4) 85 [Z j 1,F]).bind λB=>
   (afA .add (Z j 0)<|D.int .i64 1).bind λG=>some<|Sum.inl [G,B]) else(some<|Sum.inr (0,[Z j 1]))) [D.int .i64 0,r1]) k)=some y:=by
  intro k y w;refine O (Kh (n+1) h0) ?_;refine ct (s':=[I 1,M (v.x.natAbs:Nat)]) (O ag<|O ac<|au H<|O MA<|J (M v.x)<|O e<|O (az Rr) rfl) ?_
  refine ct (s':=[I 2,M (Nat.gcd v.x.natAbs v.y.natAbs:Nat)]) (O ag<|O ac<|au H<|O I6<|J (M v.y)<|O f<|O (az yA) rfl) ?_
  refine ct (s':=[I 3,M (bk v:Nat)]) (O ag<|O ac<|au H<|O MB<|J (M v.z)<|O g<|O (az Rs) rfl) ?_
  exact dY (r:=(0,[M (bk v:Nat)])) (O ag<|O ac<|ay H rfl) w
 have i:=c83 (n+1) m.In;by_cases hz:bk v=0
 ·refine fst<|J (.bool false)<|J false ?_;rw[zha H]
  refine O i ?_;rw[hz];refine J true ?_;rw[zma rfl];have p:v=V.zero:=by
   by_cases h:v=V.zero
   ·exact h
   ·have:=kh h;omega
  rw[p];rfl
 ·have c:(bk v:Int)≠0:=u0
  rw[zha<|λh=>hz (by rw[h];rfl)]
  refine fst<|J (.bool false)<|J false ?_;rw[zha H]
  refine O i ?_;rw[gW<|show(0:Int)<bk v by omega]
  refine J false ?_;rw[zha H]
  have o:=fP l;have N:=c87 n q m c<|zo v;have S:=c87 n d m c<|zp v;have K:=c87 n t m c<|zq v;have s1:=UR n (x:=v.x/(bk v:Nat)) (by have:=o.1;unfold Wd;simp[aQ] at this;omega)
  have s2:=UR n (x:=v.y/(bk v:Nat)) (by have:=o.2.1;unfold Wd;simp[aQ] at this;omega)
  have P:=UR n (x:=v.z/(bk v:Nat)) (by have:=o.2.2;unfold Wd;simp[aQ] at this;omega)
  refine ct (s':=[I 1,.st [X V.zero,I 0],.st [X ⟨v.x/(bk v:Nat),0,0⟩,I 0]]) ?_<|ct (s':=[I 2,.st [X V.zero,I 0],.st [X ⟨v.x/(bk v:Nat),v.y/(bk v:Nat),0⟩,I 0]]) ?_<|ct (s':=[I 3,.st [X V.zero,I 0],.st [X ⟨v.x/(bk v:Nat),v.y/(bk v:Nat),v.z/(bk v:Nat)⟩,I 0]]) ?_<|dY (r:=(1,[.st [X V.zero,I 0],.st [X<|aQ v,I 0]])) (O ag<|O ac<|ay H rfl) ?_
  ·refine O ag<|O ac<|au H<|O MA<|J (M v.x)<|O N<|O s1<|J (I<|v.x/(bk v:Nat))<|J (.bool true)<|J (.bool false)<|J false ?_
   rw[zha H]
   exact O MA<|J (.st [X ⟨v.x/(bk v:Nat),0,0⟩,I 0])<|O (az Rr) rfl
  ·refine O ag<|O ac<|au H<|O I6<|J (M v.y)<|O S<|O s2<|J (I<|v.y/(bk v:Nat))<|J (.bool true)<|J (.bool false)<|J false ?_
   rw[zha H]
   exact O I6<|J (.st [X ⟨v.x/(bk v:Nat),v.y/(bk v:Nat),0⟩,I 0])<|O (az yA) rfl
  ·refine O ag<|O ac<|au H<|O MB<|J (M v.z)<|O K<|O P<|J (I<|v.z/(bk v:Nat))<|J (.bool true)<|J (.bool false)<|J false ?_
   rw[zha H]
   exact O MB<|J (.st [X ⟨v.x/(bk v:Nat),v.y/(bk v:Nat),v.z/(bk v:Nat)⟩,I 0])<|O (az Rs) rfl
  ·rw[zha<|show ¬ (1:Nat)=0 by decide]
   refine J (X<|aQ v)<|O (ab4 (n+3) (v:=aQ v) ?_)<|J (.bool false)<|J false rfl;omega
def abX(n:Nat){v:V}(a:bd 549755813888 v):∃ e:Int,cA (n+5) 155 [iD v]=some (.st [X<|aQ v,I e]):=
 ⟨_,Xv n (by simp[bd] at *;omega)⟩
def abJ(n:Nat){a b c:V}(f:bd MV a)(i:bd MV b)(j:bd MV c):cA (n+6) 106 [X a,X b,X c]=some (X<|aQ<|V.cross (b.sub a)<|c.sub a):=by
 refine GH Sf ?_
 delta Sf Q C
 have g:bd 524288 (b.sub a):=by have:=lr i f;simpa [MV] using this
 have h:bd 524288 (c.sub a):=by have:=lr j f;simpa [MV] using this
 have k:=kc g h;refine O (IF (n+4) i f H)<|O (IF (n+4) j f H)<|O (Xo (n+4) g h H) ?_
 have d:=k;generalize V.cross (b.sub a) (c.sub a)=m at *;obtain⟨e,l⟩:=abX n d;refine O (c80 (n+1) ?_ ?_ ?_)<|O l rfl
 ·have:=d.1;simp[Sy.inR];omega
 ·have:=d.2.1;simp[Sy.inR];omega
 ·have:=d.2.2;simp[Sy.inR];omega
end
section
variable{l:List Nat}
theorem si:∀ {l:List Nat} {j v:Nat},j<l.length->bu (l.set j v)+65536^j*l.getD j 0=bu l+65536^j*v
 | d::l,0,v,_=>by simp[List.set_cons_zero,bu,z1c,z6c,List.getD_cons_zero];omega
 | d::l,j+1,v,h=>by
  have ih:=si (l:=l) (j:=j) (v:=v) (by simpa using h)
  simp only[List.set_cons_succ,bu,z2b,List.getD_cons_succ];rw[zVa (65536^j) 65536,zib,zib];generalize 65536^j*l.getD j 0=x at *;generalize 65536^j*v=y at *;omega
def t6(l:List Nat)(j v:Nat):(E l).set j (I (v:Int))=E (l.set j v):=by simp[E,List.map_set]
def nQ(l:List Nat)(j v i:Nat)(h:j<l.length):(l.set j v).getD i 0=if i=j then v else l.getD i 0:=by
 by_cases e:i=j
 ·subst e;simp[List.getD,h]
 ·simp[List.getD,e,List.getElem?_set,show ¬ j=i from λk=>e k.symm]
def zv(m:Nat):List.replicate m (D.int .i64 0)=E (List.replicate m 0):=by simp[E]
def pT{a b:Nat}(h:a*b<=9223372036854775807):afA .mul (I (a:Int)) (I (b:Int))=some (I ((a*b:Nat):Int)):=by rw[cL (by simp[inR];rw[<-z1a];omega),z1a]
def av{a b:Nat}(h:a+b<=9223372036854775807):afA .add (I (a:Int)) (I (b:Int))=some (I ((a+b:Nat):Int)):=by rw[az (by simp[inR];omega),zjd]
def HZ(a:Nat):D.natOf (I (a:Int))=some a:=by simp[D.natOf]
def Dn{i:Nat}(h:i<l.length):D.idx (I (i:Int)) (E l).length=some i:=by rw[am];exact ai h
def Rd(h:∀ i,i<l.length->l.getD i 0<65536):dl l:=λd a=>by obtain⟨i,hi,rfl⟩:=z3a a;have:=h i hi;simpa [List.getD,hi] using this
def abV(n:Nat){a b:List Nat}(ha:dl a)(hb:dl b)(a3:a.length<=400000)(a4:b.length<=400000):cA (n+2) 146 [.sl<|E a,.sl<|E b]=some (.sl<|E<|aR<|bu a*bu b):=by
 refine eN SR ?_
 delta SR P qS qX qV qW iL iR Jn J0 jl qc qi qj C ql qy
 obtain⟨M,hM⟩:∃ M,M=a.length+b.length+1:=⟨_,rfl⟩;refine J (E a)<|J (E b)<|O (z:=I ((a.length+b.length:Nat):Int)) (by rw[am,am];exact av u0)<|O (z:=I (M:Int)) (by rw[hM];exact av (b:=1) u0)<|O (HZ M) ?_
 rw[zma u0,zv]
 refine aV (λi s=>∃ out:List Nat,s=[I (i:Int),.sl<|E out]/\out.length=M/\dl out/\bu out=vt a i*bu b) a.length 0 (zoa _) ⟨List.replicate M 0,rfl,j2,λx hx=>by rw[zqd hx];decide,by have:=p9 [] M;rw[z7b] at this;rw[this];simp[vt,bu]⟩ (λi hi s m=>?_)<|λs m=>?_
 ·obtain⟨out,rfl,ho,t,L⟩:=m;left;have a1:=ha.getD i;obtain⟨r,h1,d,rfl,b3,u,F⟩:=oO (body:=λ(v10:List D)=>
   (D.asSl<|.sl<|E b).bind λQ=>
   (afA .lss (Z v10 0)<|D.int .i64<|List.length Q).bind λT=>
   (D.truth T).bind λa9=>
   if a9 then((afA .add (I (i:Int))<|Z v10 0).bind λU=>
   (afA .add (I (i:Int))<|Z v10 0).bind λV=>
   (D.idx V<|List.length<|D.els<|Z v10 1).bind λi16=>
   ((D.els<|Z v10 1)[i16]?).bind λW=>
   (D.asSl<|.sl<|E a).bind λB=>
   (D.idx (I (i:Int))<|List.length B).bind λN=>
   (B[N]?).bind λX=>
   (D.asSl<|.sl<|E b).bind λb1=>
   (D.idx (Z v10 0)<|List.length b1).bind λa0=>
   (b1[a0]?).bind λY=>
   (afA .mul X Y).bind λa8=>
   (afA .add W a8).bind λad=>
   (D.idx U<|List.length<|D.els<|Z v10 1).bind λy=>
   ((D.els<|Z v10 1)[y]?).bind λa6=>
   (afA .add (Z v10 0)<|D.int .i64 1).bind λal=>
   some (Sum.inl [al,D.sl<|List.set (D.els<|Z v10 1) y ad])) else(some<|Sum.inr (0,[D.sl<|D.els<|Z v10 1])))
   (s0:=[I 0,.sl<|E out])
   (λk s=>∃ o:List Nat,s=[I (k:Int),.sl<|E o]/\o.length=M/\(∀ j,j<M->o.getD j 0<=4295032831/\(i+k<=j->o.getD j 0<65536))/\bu o=bu out+65536^i*(a.getD i 0*vt b k))
   (λr=>∃ o:List Nat,r=(0,[.sl<|E o])/\o.length=M/\(∀ j,j<M->o.getD j 0<=4295032831)/\bu o=bu out+65536^i*(a.getD i 0*bu b)) b.length 0 (zoa _)
   ⟨out,rfl,ho,λj _=>by have:=t.getD j;omega,by simp[vt]⟩ (λk b0 s m=>by
    obtain⟨o,rfl,b3,u,F⟩:=m;left;have a2:=hb.getD k;have g:i+k<o.length:=u0
    have hp:a.getD i 0*b.getD k 0<=65535*65535:=zHa u0 u0
    have hx:=(u (i+k) u0).2<|zja _
    refine⟨[I ((k+1:Nat):Int),.sl<|E<|o.set (i+k)<|o.getD (i+k) 0+a.getD i 0*b.getD k 0],?_,_,rfl,by simpa using b3,λj p=>?_,?_⟩
    ·refine J (E b)<|O ag<|O ac<|au (by show(k:Int)<((E b).length:Int);rw[am];omega) ?_
     refine O (av (a:=i) (b:=k) u0)<|O (av (a:=i) (b:=k) u0)<|O (Dn g)<|O (dS g) ?_
     refine J (E a)<|O (Dn hi)<|O (dS hi)<|J (E b)<|O (Dn b0)<|O (dS b0) ?_;refine O (pT u0)<|O (av u0)<|O (Dn g)<|O (dS g)<|O (az<|aB (i:=k) u0) ?_
     show some (Sum.inl [_,D.sl<|List.set (E o) (i+k) _])=_;rw[t6];rfl
    ·rw[nQ _ _ _ _ g];have:=u j p;split
     ·omega
     ·omega
    ·have e:=si (l:=o) (j:=i+k) (v:=o.getD (i+k) 0+a.getD i 0*b.getD k 0) g;rw[vt,zlc,zlc];have e2:65536^i*(a.getD i 0*(b.getD k 0*65536^k))=65536^(i+k)*(a.getD i 0*b.getD k 0):=by
      rw[z5a,<-zib (a.getD i 0),zVa<|a.getD i 0*b.getD k 0,zib]
     rw[zlc] at e;omega) (λs m=>by
    obtain⟨o,rfl,b3,u,F⟩:=m;rw[rE] at F;exact⟨_,J (E b) (O ag<|O ac<|ay (by show ¬ ((b.length:Int)<((E b).length:Int));rw[am];omega) rfl),o,rfl,b3,λj p=>(u j p).1,F⟩)
  obtain⟨r2,h2,q,rfl,p1,p2,p3⟩:=oO (body:=λ(v30:List D)=>
   (afA .lss (Z v30 1)<|D.int .i64<|List.length<|D.els<|Z v30 2).bind λan=>
   (D.truth an).bind λK=>
   if K then((D.idx (Z v30 1)<|List.length<|D.els<|Z v30 2).bind λb2=>
   ((D.els<|Z v30 2)[b2]?).bind λap=>
   (afA .add ap<|Z v30 0).bind λG=>
   (afA .rem G<|D.int .i64 65536).bind λax=>
   (D.idx (Z v30 1)<|List.length<|D.els<|Z v30 2).bind λA=>
   ((D.els<|Z v30 2)[A]?).bind λa7=>
   (afA .quo G<|D.int .i64 65536).bind λaI=>
   (afA .add (Z v30 1)<|D.int .i64 1).bind λaO=>
   some (Sum.inl [aI,aO,D.sl<|List.set (D.els<|Z v30 2) A ax])) else(some<|Sum.inr (0,[D.sl<|D.els<|Z v30 2])))
   (s0:=[I 0,I 0,.sl<|E d])
   (λk s=>∃ (o:List Nat) (c:Nat),s=[I (c:Int),I (k:Int),.sl<|E o]/\o.length=M/\(∀ j,j<k->o.getD j 0<65536)/\(∀ j,k<=j->o.getD j 0=d.getD j 0)/\c<=131072/\bu o+65536^k*c=bu d)
   (λr=>∃ o:List Nat,r=(0,[.sl<|E o])/\o.length=M/\dl o/\∃ c,bu o+65536^M*c=bu d) M 0 (zoa _)
   ⟨d,0,rfl,b3,λj p=>z8a p<|Nat.not_lt_zero _,λj _=>rfl,u0,j2⟩ (λk b0 s m=>by
    obtain⟨o,c,rfl,q1,R,S,q4,q5⟩:=m;left;have f:k<o.length:=u0
    have hx:=u k b0;have hq:=S k<|zja _;refine⟨[I (((o.getD k 0+c)/65536:Nat):Int),I ((k+1:Nat):Int),.sl<|E<|o.set k<|(o.getD k 0+c)%65536],?_,_,_,rfl,by simpa using q1,λj p=>?_,λj p=>?_,u0,?_⟩
    ·refine O ag<|O ac<|au (by show(k:Int)<((E o).length:Int);rw[am];omega) ?_
     refine O (Dn f)<|O (dS f)<|O (av u0)<|O (j9 (b:=65536) H)<|O (Dn f)<|O (dS f)<|O (lq (b:=65536) H u0)<|O (az<|aB (i:=k) u0) ?_
     show some (Sum.inl [_,_,D.sl<|List.set (E o) k _])=_;rw[t6];rfl
    ·rw[nQ _ _ _ _ f];split
     ·omega
     ·exact R j u0
    ·rw[nQ _ _ _ _ f,zha u0];exact S j u0
    ·have e:=si (l:=o) (j:=k) (v:=(o.getD k 0+c)%65536) f;have e2:o.getD k 0+c=(o.getD k 0+c)%65536+65536*((o.getD k 0+c)/65536):=u0
     have e3:65536^k*(o.getD k 0+c)=65536^k*((o.getD k 0+c)%65536)+65536^k*(65536*((o.getD k 0+c)/65536)):=by rw[<-zlc,<-e2]
     rw[zlc] at e3;rw[z2b,zib];omega) (λs m=>by
    obtain⟨o,c,rfl,q1,R,S,q4,q5⟩:=m;exact⟨_,O ag (O ac<|ay (by show ¬ ((M:Int)<((E o).length:Int));rw[am];omega) rfl),o,rfl,q1,Rd λj p=>R j u0,c,q5⟩)
  obtain⟨c,p4⟩:=p3;refine⟨[I ((i+1:Nat):Int),.sl<|E q],?_,q,rfl,p1,p2,?_⟩
  ·refine J (E a)<|O ag<|O ac<|au (by show(i:Int)<((E a).length:Int);rw[am];omega) ?_
   refine O h1<|O h2 ?_;exact O (az<|aB (i:=i) u0) rfl
  ·have w:bu d=vt a (i+1)*bu b:=by
    rw[F,L,vt,ztb,zVa (a.getD i 0)<|65536^i,zib]
   have a5:vt a (i+1)*bu b<65536^M:=by
    have l1:=yq ha<|i+1;have l2:=oI hb;have l3:=Nat.mul_lt_mul'' l1 l2;have l4:65536^(i+1)*65536^b.length<=65536^M:=by rw[<-z5a];exact zpa H u0
    omega
   have hc:c=0:=by
    rcases zMb c with h|h
    ·exact h
    ·have:65536^M*1<=65536^M*c:=z6a _ h;omega
   subst hc;rw[<-w,<-p4];simp
 ·obtain⟨out,rfl,ho,t,L⟩:=m;refine⟨(0,[.sl<|E out]),J (E a) (O ag<|O ac<|ay (by show ¬ ((a.length:Int)<((E a).length:Int));rw[am];omega) rfl),?_⟩
  refine O (E4 n (l:=out) u0) ?_
  rw[kF t,L,rE]
def Qt(x y:Int):sgn (!(decide (decide (x<0)=decide (y<0)))) (x.natAbs*y.natAbs)=x*y:=by
 unfold sgn;rw[<-zwa];by_cases hx:x<0<;>by_cases hy:y<0
 ·have:=zZb hx hy;simp[hx,hy];omega
 ·have:=Int.mul_nonpos_of_nonpos_of_nonneg (zTa hx)<|zAc.1 hy;simp[hx,hy];omega
 ·have:=Int.mul_nonpos_of_nonneg_of_nonpos (zAc.1 hx)<|zTa hy;simp[hx,hy];omega
 ·have:=zRb (zAc.1 hx)<|zAc.1 hy;simp[hx,hy];omega
end
end Sy
end
noncomputable section
open Go
section
variable{B X Y j:Nat}
def pO(n:Nat):Nat:=2^(32*n)
def dW(n:Nat):pO n=2^(32*n):=rfl
attribute [irreducible] pO
def eM:Nat:=pO 16
def gZ:eM=pO 16:=rfl
attribute [irreducible] eM
def rB{a b:Nat}(h:a<=b):pO a<=pO b:=by rw[dW,dW];exact zpa u0 u0
def AB:pO 2=18446744073709551616:=by rw[dW]
def JU(n:Nat):0<pO n:=by rw[dW];exact zDa _
def iS:0<eM:=gZ ▸ JU 16
def B6{n:Nat}(h:n<18446744073709551616):n<eM:=by rw[gZ];rw[<-AB] at h;exact zeb h<|rB u0
def q(X k:Nat):Int:=((X/2^(32*k)%2^32:Nat):Int)
theorem p8(X k:Nat):q X k<=4294967295:=by grind [q]
theorem wV(X k:Nat):q X k<4294967296:=by grind [q]
def cV(X k:Nat):0<=q X k:=by unfold q;exact Int.natCast_nonneg _
def Jz(a b:Nat)(h:a<=b):2^b=2^a*2^(b-a):=by rw[<-z5a];congr 1;omega
theorem mE(X k j:Nat):q (X%2^(32*k)) j=if j<k then q X j else 0:=by
 unfold q;split
 ·rename_i h;congr 1;rw[Jz (32*j) (32*k) u0,Nat.mod_mul_right_div_self,show 32*k-32*j=32+(32*k-32*j-32) from by omega,z5a,Nat.mod_mul_right_mod]
 ·rename_i h;rw[zcb]
  ·simp
  ·exact zeb (zWa _<|zDa _)<|zpa H u0
theorem Bu(n:Nat):∀ (X Y:Nat),X<2^(32*n)->Y<2^(32*n)->(∀ k,k<n->q X k=q Y k)->X=Y:=by
 induction n with
 | zero=>intro X Y a b _;simp at a b;omega
 | succ n ih=>
  intro X Y a b h;have i:∀ Z:Nat,Z=Z%2^(32*n)+2^(32*n)*(Z/2^(32*n)):=λZ=>by have:=Nat.mod_add_div Z<|2^(32*n);omega
  have hm:X%2^(32*n)=Y%2^(32*n):=by refine ih _ _ (zWa _<|zDa _) (zWa _<|zDa _) λk g=>?_;grind [mE]
  have f:X/2^(32*n)=Y/2^(32*n):=by
   have c:=h n u0
   unfold q at c;have e:∀ Z,Z<2^(32*(n+1))->Z/2^(32*n)<2^32:=λZ d=>by rw[z2a<|zDa _,<-z5a,show 32+32*n=32*(n+1) from by omega];exact d
   grind
  grind
def Jb(a:X<eM)(b:Y<eM)(h:∀ k,k<16->q X k=q Y k):X=Y:=by rw[gZ,dW] at a b;exact Bu 16 X Y a b h
def yM(s V Z j:Nat):Int:=if j<s then q V j else q Z j
def zU(s V Z:Nat):yM s V Z s=q Z s:=by unfold yM;rw[zha<|Nat.lt_irrefl s]
def gr(X Y k:Nat):Nat:=(X%2^(32*k)+Y%2^(32*k))/2^(32*k)
def oF(X Y k:Nat):gr X Y k<=1:=by
 unfold gr;have h:=zDa<|32*k;have a:=zWa X h;have b:=zWa Y h;have:(X%2^(32*k)+Y%2^(32*k))/2^(32*k)<2:=(z2a h).2 u0
 omega
def uP(X Y:Nat):gr X Y 0=0:=by simp[gr,zhd]
theorem kD(X k:Nat):X=X%2^(32*k)+2^(32*k)*(X/2^(32*k)):=by have:=Nat.mod_add_div X<|2^(32*k);omega
theorem eW(k:Nat):2^(32*(k+1))=2^(32*k)*4294967296:=i4
theorem fJ(X k:Nat):X%2^(32*(k+1))=X%2^(32*k)+2^(32*k)*(X/2^(32*k)%4294967296):=by rw[eW,Nat.mod_mul]
def uO(X Y k:Nat):((gr X Y (k+1):Nat):Int)=((gr X Y k:Nat)+(q X k+q Y k))/4294967296:=by
 unfold gr q;have hp:=zDa<|32*k;rw[fJ,fJ,eW,<-zYa];generalize 2^(32*k)=p at *;have:(X%p+p*(X/p%4294967296)+(Y%p+p*(Y/p%4294967296)))/p=(X%p+Y%p)/p+(X/p%4294967296+Y/p%4294967296):=by rw[show X%p+p*(X/p%4294967296)+(Y%p+p*(Y/p%4294967296))=(X%p+Y%p)+p*(X/p%4294967296+Y/p%4294967296) from by rw[zlc];omega,zWb _ _ hp]
 omega
def Hp(X Y k:Nat):q (X+Y) k=((gr X Y k:Nat)+(q X k+q Y k))%4294967296:=by
 unfold gr q;have hp:=zDa<|32*k;have hx:=kD X k;have a:=kD Y k;generalize 2^(32*k)=p at *;have:(X+Y)/p=(X%p+Y%p)/p+(X/p+Y/p):=by rw[show X+Y=(X%p+Y%p)+p*(X/p+Y/p) from by rw[zlc];omega,zWb _ _ hp]
 omega
theorem DZ:2^(32*16)=eM:=by rw[gZ,dW 16]
def IP(a:X<eM)(b:Y<eM):gr X Y 16=if X+Y<eM then 0 else 1:=by
 have h:=oF X Y 16;unfold gr at *;rw[DZ,z0a a,z0a b] at *;split
 ·simp_all
 ·have:1<=(X+Y)/eM:=(zfc iS).2 u0
  omega
def cr(X Y k:Nat):Nat:=if X%2^(32*k)<Y%2^(32*k) then 1 else 0
def wD(X Y k:Nat):cr X Y k<=1:=by unfold cr;split<;>omega
def rR(X Y:Nat):cr X Y 0=0:=by simp[cr,zhd]
theorem rQ(X Y k:Nat):((cr X Y (k+1):Nat):Int)=if q X k-q Y k-(cr X Y k:Nat)<0 then 1 else 0:=by
 unfold cr q;have hp:=zDa<|32*k;rw[fJ,fJ];have c:=zWa X hp;have d:=zWa Y hp;simp only[show(2:Nat)^32=4294967296 from rfl];generalize 2^(32*k)=p at *;generalize X/p%4294967296=a;generalize Y/p%4294967296=b;generalize X%p=x at *;generalize Y%p=y at *;rcases zpd a b with h|h|h
 ·have:p*a+p<=p*b:=by rw[<-zAd];exact z6a _ h
  grind
 ·grind
 ·have:p*b+p<=p*a:=by rw[<-zAd];exact z6a _ h
  grind
theorem Hq(h:Y<=X)(k:Nat):q (X-Y) k=(q X k-q Y k-(cr X Y k:Nat))%4294967296:=by
 unfold cr q;have hp:=zDa<|32*k;have hx:=kD X k;have f:=kD Y k;have g:=zWa X hp;have i:=zWa Y hp;simp only[show(2:Nat)^32=4294967296 from rfl];generalize 2^(32*k)=p at *;have d:Y/p<=X/p:=Nat.div_le_div_right h;generalize hxq:X/p=a at *;generalize hyq:Y/p=b at *;generalize hxr:X%p=x at *;generalize hyr:Y%p=y at *;by_cases h3:x<y
 ·have c:b<a:=by
   all_goals grind
  have e:X-Y=(x+p-y)+p*(a-b-1):=by
   rw[hx,f,zsd,zsd];have:p*b+p<=p*a:=by rw[<-zAd];exact z6a _ c
   omega
  rw[e,zWb _ _ hp,zcb u0,zma h3]
  omega
 ·have e:X-Y=(x-y)+p*(a-b):=by
   rw[hx,f,zsd];have:p*b<=p*a:=z6a _ d;omega
  rw[e,zWb _ _ hp,zcb u0,zha h3]
  omega
theorem vp(a b:Int)(c:Nat)(a0:0<=a)(a1:a<=4294967295)(b0:0<=b)(b1:b<=4294967295)(d:c<=1) :
  IntKind.u64.wrap (IntKind.u64.wrap (a-b)-(c:Int))/9223372036854775808=(if a-b-(c:Int)<0 then 1 else 0) ∧
  IntKind.u64.wrap (IntKind.u64.wrap (a-b)-(c:Int))%4294967296=(a-b-(c:Int))%4294967296:=by
 have e:∀ n:Int,IntKind.u64.wrap n=n%18446744073709551616:=λn=>rfl;all_goals grind
def jH(X:Nat):Nat->Nat
 | 0=>0
 | k+1=>if 2^(32*k)<=X then k+1 else jH X k
def dw(X:Nat):Nat:=jH X 16
def Jq(X k:Nat):jH X k<=k:=by
 induction k with
 | zero=>exact zja _
 | succ k ih=>unfold jH;split<;>omega
theorem FS(X k:Nat)(h:jH X k≠0):2^(32*(jH X k-1))<=X:=by
 induction k with
 | zero=>exact z8a rfl h
 | succ k ih=> all_goals grind [jH]
theorem DO(X k:Nat)(h:X<2^(32*k)):X<2^(32*jH X k):=by
 induction k with
 | zero=>exact h
 | succ k ih=> all_goals grind [jH]
def lP(X:Nat):dw X<=16:=Jq X 16
def fK(h:X<eM):X<2^(32*dw X):=DO X 16 (by rw[gZ,dW] at h;exact h)
def rj{X:Nat}(h:dw X≠0):2^(32*(dw X-1))<=X:=FS X 16 h
def A8{k:Nat}(h:X<2^(32*(k+1))):q X k=0↔X<2^(32*k):=by
 unfold q;have hp:=zDa<|32*k;have a:X/2^(32*k)<2^32:=by rw[z2a hp,<-z5a,show 32+32*k=32*(k+1) from by omega];exact h
 rw[z0a a];constructor
 ·intro c;have b:X/2^(32*k)=0:=u0
  all_goals simp_all
 ·simp_all [zcb]
def sgn(a b:Nat):Int:=if a<b then -1 else if b<a then 1 else 0
def lu(X Y k:Nat):Prop:=X/2^(32*k)=Y/2^(32*k)
def I1(a:X<eM)(b:Y<eM):lu X Y 16:=by unfold lu;rw[gZ,dW] at a b;omega
def oL(X k:Nat):X/2^(32*k)=X/2^(32*(k+1))*4294967296+(X/2^(32*k))%4294967296:=by rw[eW,<-zYa];omega
def Dm{k:Nat}(h:lu X Y<|k+1)(a:q X k=q Y k):lu X Y k:=by unfold lu q at *;rw[oL X k,oL Y k,h];omega
def Ep{k:Nat}(h:lu X Y<|k+1)(b:q X k≠q Y k):sgn X Y=if q X k<q Y k then -1 else 1:=by
 unfold lu q at *;have hx:=oL X k;have e:=oL Y k;have hp:=zDa<|32*k;have f:=kD X k;have g:=kD Y k;have c:=zWa X hp;have d:=zWa Y hp;simp only[show(2:Nat)^32=4294967296 from rfl] at b ⊢;generalize 2^(32*k)=p at *;unfold sgn;by_cases hlt:X/p<Y/p
 ·have:p*(X/p)+p<=p*(Y/p):=by rw[<-zAd];exact z6a _ hlt
  omega
 ·have a:Y/p<X/p:=u0
  have:p*(Y/p)+p<=p*(X/p):=by rw[<-zAd];exact z6a _ a
  omega
def JO(h:lu X Y 0):sgn X Y=0:=by simp_all [lu,sgn]
theorem fF(X k:Nat):q X k=((X/2^(32*k)%4294967296:Nat):Int):=rfl
def gQ{n k:Nat}(h:X<2^(32*n))(a:n<=k):q X k=0:=by rw[fF,zcb<|zeb h<|zpa u0 u0];rfl
def mC(X c s j:Nat)(h:j<s):q (X+c*2^(32*s)) j=q X j:=by
 rw[fF,fF];congr 1;rw[show 32*s=32*j+(32+32*(s-j-1)) from by omega,z5a,z5a,show c*(2^(32*j)*(2^32*2^(32*(s-j-1))))=2^(32*j)*(4294967296*(c*2^(32*(s-j-1)))) from by rw[show(2:Nat)^32=4294967296 from rfl];ac_rfl,zWb _ _<|zDa _,Nat.add_mul_mod_self_left]
def js(A B i:Nat):Nat:=A%2^(32*i)*B
def rh(A B i k:Nat):Nat:=js A B i+(A/2^(32*i)%4294967296)*(B%2^(32*k))*2^(32*i)
def sO(A B i k:Nat):Nat:=rh A B i k/2^(32*(i+k))-js A B i/2^(32*(i+k))
def BE(A B i k:Nat):Nat->Int:=yM (i+k) (rh A B i k)<|js A B i
def z7(A B i:Nat):rh A B i 0=js A B i:=by simp[rh,zhd]
def zW(A B i:Nat):sO A B i 0=0:=by simp[sO,z7]
def Jk(A B i:Nat):BE A B i 0=q (js A B i):=by funext j;simp[BE,z7,yM]
theorem zZ(A B i k:Nat):rh A B i (k+1)=rh A B i k+(A/2^(32*i)%4294967296)*(B/2^(32*k)%4294967296)*2^(32*(i+k)):=by
 unfold rh;rw[fJ,show 32*(i+k)=32*i+32*k from by omega,z5a,zlc,ztb,zNb]
 grind
def PS(A B i k:Nat):js A B i<=rh A B i k:=zbd _ _
def BC(A B i k:Nat):sO A B i k+js A B i/2^(32*(i+k))=rh A B i k/2^(32*(i+k)):=by unfold sO;have:=Nat.div_le_div_right (c:=2^(32*(i+k)))<|PS A B i k;omega
theorem DJ(A B i k:Nat):rh A B i (k+1)/2^(32*(i+k))=sO A B i k+js A B i/2^(32*(i+k))+(A/2^(32*i)%4294967296)*(B/2^(32*k)%4294967296):=by rw[zZ,ztc _ _<|zDa _,BC]
theorem xG(A B i k:Nat):sO A B i (k+1)=(sO A B i k+((A/2^(32*i)%4294967296)*(B/2^(32*k)%4294967296)+js A B i/2^(32*(i+k))%4294967296))/4294967296:=by
 have a:=BC A B i<|k+1;have b:=DJ A B i k;have e:∀ X,X/2^(32*(i+(k+1)))=X/2^(32*(i+k))/4294967296:=λX=>by rw[show i+(k+1)=i+k+1 from by omega,eW,zYa]
 grind
def E8(a p q z c:Nat):(((a+(p*q+z))%c:Nat):Int)=((a:Int)+((p:Int)*q+z))%(c:Int):=by push_cast;rfl
def Jg(A B i k:Nat):((sO A B i (k+1):Nat):Int)=((sO A B i k:Nat)+(q A i*q B k+q (js A B i) (i+k)))/4294967296:=by simp_all [xG,fF]
def BD(A B i k:Nat):sO A B i k<=4294967295:=by
 induction k with
 | zero=>rw[zW];omega
 | succ k ih=>
  rw[xG];have a:A/2^(32*i)%4294967296<=4294967295:=u0
  have b:B/2^(32*k)%4294967296<=4294967295:=u0
  have c:=zHa a b;omega
def Ji(A B i k:Nat):BE A B i k (i+k)=q (js A B i) (i+k):=zU _ _ _
theorem MW(A B i k:Nat):q (rh A B i<|k+1) (i+k)=((sO A B i k:Nat)+(q A i*q B k+q (js A B i) (i+k)))%4294967296:=by grind [fF,rh,DJ]
theorem z8{A i m:Nat}(a:B<2^(32*m)):js A B (i+1)=rh A B i m:=by grind [js,rh,fJ,Nat.mod_eq_of_lt,Nat.add_mul]
def HW{A i m:Nat}(a:B<2^(32*m)):js A B i<2^(32*(i+m)):=by
 unfold js;rw[show 32*(i+m)=32*i+32*m from by omega,z5a]
 exact Nat.mul_lt_mul'' (zWa _<|zDa _) a
def Jl(A B:Nat):js A B 0=0:=by simp[js,zhd]
def MX{A n:Nat}(a:A<2^(32*n)):js A B n=A*B:=by unfold js;rw[z0a a]
def lI(k:Nat):q 0 k=0:=by simp[q]
def mD(X a k:Nat):q (X/2^(32*a)) k=q X (a+k):=by simp_all [fF,zYa,z5a,zlc]
def CZ(X a k:Nat):q (X/pO a) k=q X (a+k):=by rw[dW,mD]
def MS(a b D c:Nat):(a+b*D)%c=(a+b%c*D)%c:=by
 have h:b*D%c=b%c*D%c:=by simp_all
 simp_all [Nat.add_mod]
def jr(X D k:Nat):Nat:=X%2^(32*k)*D/2^(32*k)
def zY(X D:Nat):jr X D 0=0:=by simp[jr,zhd]
def BF(X k:Nat){D:Nat}(h:0<D):jr X D k<D:=by unfold jr;rw[z2a<|zDa _,zVa D];exact z6b (zWa _<|zDa _) h
theorem FM(X D k:Nat):jr X D (k+1)=(jr X D k+X/2^(32*k)%4294967296*D)/4294967296:=by unfold jr;grind [fJ,eW,Nat.div_div_eq_div_mul,Nat.add_mul,Nat.mul_assoc,Nat.add_mul_div_left]
def zX(X D k:Nat):((jr X D (k+1):Nat):Int)=((jr X D k:Nat)+q X k*(D:Nat))/4294967296:=by simp_all [zXb,Int.add_zero,zud,Int.cast_ofNat_Int,FM,fF]
theorem DI(X D k:Nat):q (X*D) k=((jr X D k:Nat)+q X k*(D:Nat))%4294967296:=by
 have h:=E8 (jr X D k) (X/2^(32*k)%4294967296) D 0 4294967296;simp only[zXb,Int.add_zero,zud,Int.cast_ofNat_Int] at h;rw[fF,fF];refine Eq.trans (zEa Nat.cast ?_) h;have e:X*D/2^(32*k)=jr X D k+X/2^(32*k)*D:=by grind [jr,Nat.add_mul_div_left,Nat.two_pow_pos,Nat.mul_assoc,Nat.add_mul,kD]
 rw[e,MS]
theorem MU{D:Nat}(h:X<eM):jr X D 16=X*D/eM:=by grind [jr,DZ,Nat.mod_eq_of_lt]
def L0(X n k:Nat)(a:n<=32):q (X/2^n) k=(q X (k+1)*4294967296+q X k)/((2^n:Nat):Int)%4294967296:=by
 rw[fF,fF,fF,eW,<-zYa,zYa,zVa<|2^n,<-zYa];generalize X/2^(32*k)=Y;have e:(((Y/4294967296%4294967296:Nat):Int)*4294967296+((Y%4294967296:Nat):Int))=((Y%(2^n*(2^(32-n)*4294967296)):Nat):Int):=by
  rw[<-zib,<-z5a,show n+(32-n)=32 from by omega,show(2:Nat)^32=4294967296 from rfl]
  omega
 rw[e,<-Int.natCast_ediv,Nat.mod_mul_right_div_self];generalize Y/2^n=Z;have h:Z%4294967296=Z%(2^(32-n)*4294967296)%4294967296:=(Nat.mod_mul_left_mod _ _ _).symm;rw[h];exact Int.natCast_emod _ 4294967296
def zO(X k j:Nat):q (X/2^(32*k)*2^(32*k)) j=if j<k then 0 else q X j:=by
 have h:=mC 0 (X/2^(32*k)) k j;by_cases hj:j<k
 ·simp_all [zbb,lI]
 ·rw[zha hj,show j=k+(j-k) from by omega,<-mD,Nat.mul_div_cancel _<|zDa _,mD]
def jv(X b k:Nat):Nat:=X/2^(32*k)%b
def Ee(X k:Nat){b:Nat}(h:0<b):jv X b k<b:=zWa _ h
def wZ(X k:Nat):X/2^(32*k)=X/2^(32*(k+1))*4294967296+X/2^(32*k)%4294967296:=by rw[eW,<-zYa];omega
def Gh(X b k:Nat):jv X b k=(jv X b (k+1)*4294967296+X/2^(32*k)%4294967296)%b:=by
 unfold jv
 conv=>lhs;rw[wZ X k]
 simp_all [zhc,MS]
def JP(X k:Nat){b:Nat}(a:0<b)(h:b<=4294967295):X/b/2^(32*k)%4294967296=(jv X b (k+1)*4294967296+X/2^(32*k)%4294967296)/b:=by
 have e:X/b/2^(32*k)=X/2^(32*(k+1))/b*4294967296+(jv X b (k+1)*4294967296+X/2^(32*k)%4294967296)/b:=by
  rw[zYa,zVa,<-zYa]
  conv=>lhs;rw[wZ X k]
  unfold jv;generalize X/2^(32*(k+1))=Y;generalize X/2^(32*k)%4294967296=z
  conv=>lhs;rw[show Y*4294967296+z=b*(Y/b*4294967296)+(Y%b*4294967296+z) from by
   have:=zxb Y b
   conv=>lhs;rw[<-this]
   rw[ztb,zib];omega]
  rw[Nat.mul_add_div a]
 have c:(jv X b (k+1)*4294967296+X/2^(32*k)%4294967296)/b<4294967296:=by rw[z2a a];have d:=Ee X (k+1) a;omega
 simp_all
def JJ(X b:Nat):jv X b 0=X%b:=by simp[jv]
structure Heads(W V P T F u v:Nat):Prop where
 w:W/P=T*4294967296+u
 d:V/P=F*4294967296+v
 u:u<4294967296
 v:v<4294967296
 one:1<=F
 pos:0<P
 lt:W<V*4294967296
variable{W V P T F u v:Nat}
theorem Heads.key{d r:Nat}(h:d*F+r=T):d*(F*4294967296+v)+r*4294967296=T*4294967296+d*v:=by grind
def Heads.vpos(H:Heads W V P T F u v):0<V:=by
 rcases zMb V with h|h
 ·have:=H.lt;rw[h] at this;omega
 ·exact h
theorem Heads.over(H:Heads W V P T F u v){d:Nat}(h:W/P<d*(V/P)):W/V<d:=by
 apply zdd;have a:W<(W/P+1)*P:=by have:=zxb W P;have:=zWa W H.pos;rw[ztb,zVa<|W/P];omega
 have b:(W/P+1)*P<=d*(V/P)*P:=zKa _ h;have c:d*(V/P)*P<=d*V:=by rw[zib];exact z6a _<|zcc V P
 grind
def Heads.under(H:Heads W V P T F u v){d:Nat}(h:d*(V/P)<=W/P)(j:d<4294967296):d<=W/V+1:=by
 rcases zMb d with h0|h0
 ·simp_all
 obtain⟨e,rfl⟩:∃ e,d=e+1:=⟨d-1,u0⟩
 have i:e<=V/P:=by rw[H.d];have a:1*4294967296<=F*4294967296:=zKa _ H.one;omega
 have:e<=W/V:=by
  rw[zfc H.vpos];have a:V<=(V/P+1)*P:=by have:=zxb V P;have:=zWa V H.pos;rw[ztb,zVa<|V/P];omega
  have b:e*V<=e*((V/P+1)*P):=z6a _ a;have c:e*((V/P+1)*P)<=(e+1)*(V/P)*P:=by rw[<-zib];apply zKa;rw[zlc,ztb];omega
  have f:(e+1)*(V/P)*P<=W/P*P:=zKa _ h;have g:=zcc W P;omega
 omega
def Heads.q_lt(H:Heads W V P T F u v):W/V<4294967296:=zdd (by have:=H.lt;omega)
theorem Heads.start(H:Heads W V P T F u v):W/V<=T/F:=by
 have b:W/V<T/F+1:=by
  apply H.over;rw[H.w,H.d];have a:T<(T/F+1)*F:=by have:=zxb T F;have:=zWa T<|show 0<F from H.one;rw[ztb,zVa<|T/F];omega
  have c:(T+1)*4294967296<=(T/F+1)*F*4294967296:=zKa _ a;have e:(T/F+1)*F*4294967296<=(T/F+1)*(F*4294967296+v):=i4
  have f:=H.u;omega
 omega
def Heads.step_big(H:Heads W V P T F u v){d:Nat}(h:4294967296<=d):W/V<=d-1:=Nat.le_sub_one_of_lt<|zeb H.q_lt h
theorem Heads.step(H:Heads W V P T F u v){d r:Nat}(h:d*F+r=T)(b:r*4294967296+u<d*v):W/V<=d-1/\1<=d:=by
 have a:W/V<d:=by apply H.over;rw[H.w,H.d];grind
 grind
def Heads.t_lt(H:Heads W V P T F u v):T<(F+1)*4294967296:=by
 have e:=zcc W P;have a:V<(V/P+1)*P:=by have:=zxb V P;have:=zWa V H.pos;rw[ztb,zVa<|V/P];omega
 have f:V*4294967296<(V/P+1)*P*4294967296:=z6b a u0
 have g:=H.lt;have b:W/P*P<(V/P+1)*4294967296*P:=by rw[Nat.mul_right_comm];omega
 have c:=Nat.lt_of_mul_lt_mul_right b;rw[H.w,H.d] at c;have h:=H.v;omega
def Heads.done(H:Heads W V P T F u v){d r:Nat}(h:d*F+r=T)(a:4294967296<=r\/(d<4294967296/\d*v<=r*4294967296+u)):d<4294967296/\d<=W/V+1:=by
 have c:d<4294967296:=by
  rcases a with a|a
  ·have b:=H.t_lt;rw[ztb,z6c] at b;have e:d*F<4294967296*F:=u0
   exact Nat.lt_of_mul_lt_mul_right e
  ·exact a.1
 refine⟨c,H.under ?_ c⟩;rw[H.w,H.d];have f:=Heads.key (v:=v) h;rcases a with a|a
 ·have b:d*v<=4294967295*4294967295:=zHa u0 (by have:=H.v;omega)
  omega
 ·omega
def dg(X k:Nat):Nat:=X/2^(32*k)%4294967296
def tW(X k:Nat):q X k=(dg X k:Nat):=rfl
def gD(X k:Nat):dg X k<4294967296:=zWa _ u0
def Ho(X k:Nat):dg X k<=4294967295:=Nat.le_of_lt_succ<|gD X k
def se(X k:Nat):X/2^(32*k)=X/2^(32*(k+1))*4294967296+dg X k:=wZ X k
def lJ{k:Nat}(h:X<2^(32*(k+1))):X/2^(32*k)=dg X k:=by rw[se,zcb h,zxd,zbb]
theorem Mu{U V e j:Nat}(b:V<2^(32*(e+2)))(c:2^(32*(e+1))<=V)(d:U/2^(32*j)<V*4294967296) :
  Heads (U/2^(32*j)) V (2^(32*e)) (dg U (j+e+2)*4294967296+dg U (j+e+1)) (dg V<|e+1) (dg U<|j+e) (dg V e):=by
 have f:∀ k,U/2^(32*j)/2^(32*k)=U/2^(32*(j+k)):=λk=>by rw[zYa,<-z5a,zlc]
 have a:U<2^(32*(j+e+2+1)):=by
  have g:=(z2a<|zDa<|32*j).1 d;have h:V*4294967296*2^(32*j)<2^(32*(e+2))*4294967296*2^(32*j):=z6b (z6b b u0)<|zDa _
  grind
 refine⟨?_,?_,gD _ _,gD _ _,?_,zDa _,d⟩
 ·rw[f,se,se U<|j+e+1,lJ a]
 ·rw[se,lJ b]
 ·rw[<-lJ b];exact(zfc<|zDa _).2 (by rw[z6c];exact c)
def Wz(U i k:Nat):dg U i*4294967296+dg U k<=18446744073709551615:=by have a:=Ho U i;have b:=Ho U k;omega
theorem Fw{T F D R:Nat}(h:D*F+R=T)(a:1<=D):(D-1)*F+(R+F)=T:=by
 obtain⟨E,rfl⟩:∃ E,D=E+1:=⟨D-1,u0⟩
 grind
def yD{k:Nat}(h:X%2^(32*k)=B%2^(32*k)):cr X Y k=cr B Y k:=by unfold cr;rw[h]
def gf(U Z j:Nat):Nat:=U%2^(32*j)+Z*2^(32*j)
def Ju{U Z t:Nat}(h:t<j):q (gf U Z j) t=q U t:=by simp_all [gf,mC,mE]
def FZ(U Z j i:Nat):q (gf U Z j) (j+i)=q Z i:=by
 rw[<-mD];unfold gf
 simp_all [ztc,zDa,zcb,zWa,zbb]
def yR(U Z j i:Nat):Nat->Int:=yM (j+i) (gf U Z j) U
def Av(U Z j:Nat):yR U Z j 0=q U:=by
 funext t;unfold yR yM;split
 ·rename_i h;exact Ju u0
 ·rfl
def oU(U Z j i:Nat):yR U Z j i (j+i)=q U (j+i):=zU _ _ _
def oC(W Y m:Nat):Nat:=(W+2^(32*m)-Y)%2^(32*m)
def Ka{W m i:Nat}(hi:i<m)(c:Y<=2^(32*m)):q (oC W Y m) i=(q W i-q Y i-(cr W Y i:Nat))%4294967296:=by
 have b:q (W+2^(32*m)) i=q W i:=by have:=mC W 1 m i hi;rwa [z6c] at this
 have a:cr (W+2^(32*m)) Y i=cr W Y i:=yD (by rw[show 32*m=32*i+(32*m-32*i) from by omega,z5a,Nat.add_mul_mod_self_left])
 unfold oC;rw[mE,zma hi,Hq u0,b,a]
def Oi(W Y m:Nat):oC W Y m<2^(32*m):=zWa _<|zDa _
def CC{W m:Nat}(a:W<2^(32*m))(b:Y<2^(32*m)):cr W Y m=if W<Y then 1 else 0:=by simp_all [cr,z0a]
def fB(N V j:Nat):Nat:=N/V%2^(32*j)*V+N%V
def JH(N V:Nat):fB N V 0=N%V:=by simp[fB,zhd]
def Gf{N V k:Nat}(h:N/V<2^(32*k)):fB N V k=N:=by unfold fB;rw[z0a h,zVa];exact zxb N V
theorem Ak(N V j:Nat):fB N V (j+1)=fB N V j+dg (N/V) j*V*2^(32*j):=by unfold fB dg;rw[fJ];grind
theorem BS{N V:Nat}(j:Nat)(h:0<V):fB N V j<V*2^(32*j):=by unfold fB;have a:=zWa (N/V)<|zDa<|32*j;have b:=zWa N h;have c:(N/V%2^(32*j)+1)*V<=2^(32*j)*V:=zKa _ a;grind
def sZ{N V:Nat}(j:Nat)(h:0<V):fB N V j/2^(32*j)<V:=by rw[z2a<|zDa _];exact BS j h
def uC(N V j:Nat):fB N V (j+1)/2^(32*j)=fB N V j/2^(32*j)+V*dg (N/V) j:=by rw[Ak,ztc _ _<|zDa _,zVa V]
def Ec(N V j:Nat):fB N V (j+1)%2^(32*j)=fB N V j%2^(32*j):=by rw[Ak,zkd]
def Ny{N V:Nat}(j:Nat)(h:0<V):fB N V (j+1)/2^(32*j)/V=dg (N/V) j:=by simp_all [uC,zWb,zcb,sZ,zbb]
def Nz{N V:Nat}(j:Nat)(h:0<V):fB N V (j+1)/2^(32*j)<V*4294967296:=by rw[z2a<|zDa _,zib,zVa 4294967296,<-eW];exact BS (j+1) h
theorem JG{N V n:Nat}(j:Nat)(h:0<V)(a:V<2^(32*n)):fB N V (j+1)<2^(32*(j+n+1)):=by have b:=BS (N:=N) (j+1) h;have c:V*2^(32*(j+1))<2^(32*n)*2^(32*(j+1)):=z6b a<|zDa _;grind
def Af{U:Nat}(h:U%2^(32*j)=X%2^(32*j)):gf U (X/2^(32*j)) j=X:=by unfold gf;rw[h,zVa (X/2^(32*j))<|2^(32*j)];exact Nat.mod_add_div X _
def Jv(U Z j:Nat):gf U Z j%2^(32*j)=U%2^(32*j):=by unfold gf;rw[zkd,Nat.mod_mod]
def Jt(U Z j:Nat):gf U Z j/2^(32*j)=Z:=by simp_all [gf,ztc,zDa,zcb,zWa,zbb]
theorem DW{U Z m:Nat}(a:Z<2^(32*m)):gf U Z j<2^(32*(j+m)):=by
 have b:gf U Z j<(Z+1)*2^(32*j):=by unfold gf;have:=zWa U<|zDa<|32*j;rw[ztb];omega
 have c:(Z+1)*2^(32*j)<=2^(32*m)*2^(32*j):=zKa _ a;grind
variable{N V n:Nat}
def pW(a:V<2^(32*n)):V<2^(32*(n+1)):=zeb a<|zpa u0 u0
def Cl{x y:Nat}(hx:x<B):(x+y+B-y)%B=x:=by rw[show x+y+B-y=x+B from by omega,Nat.add_mod_right,z0a hx]
def Eg(j:Nat)(h:0<V)(a:V<2^(32*n)) :
  gf (fB N V<|j+1) (oC (fB N V (j+1)/2^(32*j)) (V*dg (N/V) j)<|n+1) j=fB N V j:=by
 have e:oC (fB N V (j+1)/2^(32*j)) (V*dg (N/V) j) (n+1)=fB N V j/2^(32*j):=by unfold oC;rw[uC];exact Cl<|znc (sZ j h)<|pW a
 rw[e,Af<|Ec N V j]
def Kb(j:Nat)(h:0<V)(a:V<2^(32*n)) :
  oC (fB N V (j+1)/2^(32*j)) (V*(dg (N/V) j+1)) (n+1)=fB N V j/2^(32*j)+2^(32*(n+1))-V:=by
 have b:=sZ (N:=N) j h;have c:=pW a;unfold oC;rw[uC,zlc V (dg (N/V) j) 1,Nat.mul_one];generalize 2^(32*(n+1))=B at *;generalize fB N V j/2^(32*j)=x at *;generalize V*dg (N/V) j=y;rw[show x+y+B-(y+V)=x+B-V from by omega,z0a u0]
def Eh(j:Nat)(h:0<V)(a:V<2^(32*n)){U1:Nat}(e1:U1=gf (fB N V<|j+1) (oC (fB N V (j+1)/2^(32*j)) (V*(dg (N/V) j+1))<|n+1) j) :
  gf U1 ((U1/2^(32*j)+V)%2^(32*(n+1))) j=fB N V j:=by
 have b:=sZ (N:=N) j h;have c:=pW a;have e2:(U1/2^(32*j)+V)%2^(32*(n+1))=fB N V j/2^(32*j):=by rw[e1,Jt,Kb j h a];generalize 2^(32*(n+1))=B at *;generalize fB N V j/2^(32*j)=x at *;rw[show x+B-V+V=x+B from by omega,Nat.add_mod_right,z0a u0]
 rw[e2,Af (by rw[e1,Jv,Ec])]
end
end
noncomputable section
namespace Sy
open Go Go.Proofs Geo
section
variable{X Y:Nat}{a:Int}{f:Nat->Int}
def cH(n:Nat)(f:Nat->Int):D:=.st<|(List.range n).map λi=>.int .u32<|f i
abbrev LM(X:Nat):D:=cH 16<|q X
def bA{n i:Nat}(f:Nat->Int)(h:i<n):D.get (cH n f) [i]=some (.int .u32<|f i):=by simp[cH,D.get,D.fld,h]
def dM{n:Nat}{g:Nat->Int}(h:∀ i,i<n->f i=g i):cH n f=cH n g:=by simp_all [cH,zRa.1]
theorem oY{n i:Nat}{g:Nat->Int}{v:Int}(h:i<n)(a:∀ j,j<n->g j=if j=i then v else f j):D.set (cH n f) [i] (.int .u32 v)=some (cH n g):=by
 have e:((List.range n).map λi=>D.int .u32<|f i)[i]?=some (.int .u32<|f i):=by simp[h]
 simp[cH,D.set,e,zba];congr 2;apply zTb;all_goals grind
theorem wB(f g:Nat->Int):∀ l:List Nat,D.beqs (l.map λi=>D.int .u32<|f i) (l.map λi=>D.int .u32<|g i)=l.all λi=>decide (f i=g i)
 | []=>rfl
 | i::l=>by simp only[z4a,D.beqs,D.beq,zOb,wB f g l];simp
theorem Iz(n:Nat)(f g:Nat->Int):D.beq (cH n f) (cH n g)=decide (∀ i,i<n->f i=g i):=by simp[cH,D.beq,wB];grind
def ln(a:X<eM)(b:Y<eM):D.beq (LM X) (LM Y)=decide (X=Y):=by
 rw[Iz,decide_eq_decide];constructor
 ·exact Jb a b
 ·simp_all
theorem ja:D.st (afN (List.replicate 16<|D.int .u32 0) [])=LM 0:=by have:LM 0=cH 16 (λ_=>0):=dM λi _=>lI i;rw[this];rfl
def jh:aw aY=LM 0:=by have:LM 0=cH 16 (λ_=>0):=dM λi _=>lI i;rw[this];rfl
def V9(i:Nat):2^(32*i)=4294967296^i:=by rw[Nat.pow_mul]
def Ja(m:Nat):fj (aR m)=LM m:=by simp_all [fj,LM,cH,j4,q,V9]
theorem cg(x:Int):M x=.st [.bool false,.bool<|decide (x<0),LM x.natAbs]:=by unfold M;rw[Ja]
def Ga(a b c:Nat)(h:a*b=c):((2:Nat)^a)^b=2^c:=by rw[<-Nat.pow_mul,h]
def JV:(65536:Nat)^32=eM:=(Ga 16 32 (32*16) rfl).trans<|(dW 16).symm.trans gZ.symm
def under(X k:Nat):Prop:=X<2^(32*k)
def FE{k:Nat}(a:k=16)(h:X<eM):under X k:=by subst a;unfold under;rw[DZ];exact h
def ym{k:Nat}(a:k<=16)(h:X<2^(32*k)):X<eM:=by rw[<-dW] at h;rw[gZ];exact zeb h<|rB a
theorem aE{x:Int}:In x↔x.natAbs<eM:=by unfold In;rw[JV]
def Lc:D:=.st [.bool true,.bool false,LM 0]
def fU:Option Int->D
 | some x=>M x
 | none=>Lc
def wu(a:Option Int):Prop:=∀ x,a=some x->In x
def lQ(x:Int):Option Int:=if x.natAbs<eM then some x else none
def vS{x:Int}(h:In x):lQ x=some x:=by unfold lQ;rw[zma<|aE.1 h]
def DQ(x:Int):wu (lQ x):=λy h=>by
 unfold lQ at h;split at h
 ·cases h;exact aE.2 (by assumption)
 ·cases h
theorem wu.some{x:Int}(h:wu<|some x):In x:=h x rfl
def bi{x:Int}(h:In x):wu (some x):=λy e=>by cases e;exact h
abbrev W(n:Int):D:=.int .u64 n
def Od{k:IntKind}(h0:0<=a)(h:a<18446744073709551616):D.conv .u64 (.int k a)=some (W a):=by simp[D.conv,eJ ⟨h0,h⟩]
def yr{b:Int}(h0:0<=a+b)(h:a+b<18446744073709551616):afA .add (W a) (W b)=some (W<|a+b):=by simp[afA,if_true,eJ ⟨h0,h⟩]
def yu(a b:Int):afA .sub (W a) (W b)=some (W<|IntKind.u64.wrap<|a-b):=by simp[afA,if_true]
theorem RW{b:Int}(h0:0<=a*b)(h:a*b<18446744073709551616):afA .mul (W a) (W b)=some (W<|a*b):=by simp[afA,if_true,eJ ⟨h0,h⟩]
def jM(a:Int):D.conv .u32 (W a)=some (.int .u32<|a%4294967296):=by simp[D.conv];rfl
def yt(h:0<=a):afA .shr (W a) (.int .u64 32)=some (W<|a/4294967296):=by simp only[afA];rw[zha H,zSc _ H];rfl
def Ci:afA .shr (W a) (.int .u64 63)=some (W<|a/9223372036854775808):=by simp only[afA];rw[zha H,zSc _ H];rfl
def fZ{i n:Nat}(h:i<n):D.idx (I (i:Int)) n=some i:=ai h
def fS(X k:Nat):D.conv .u64 (.int .u32<|q X k)=some (W<|q X k):=Od (cV X k) (by have:=wV X k;omega)
theorem vH{Z k:Nat}(a:k<16):D.set (LM<|Z%2^(32*k)) [k] (.int .u32<|q Z k)=some (LM<|Z%2^(32*(k+1))):=
 oY a λj b=>by rw[mE,mE];all_goals grind
def vI(Z:Nat):LM (Z%2^(32*0))=LM 0:=by simp[zhd]
def OK(Z k:Nat)(b:k=16):LM (Z%2^(32*k))=LM Z:=dM λj a=>by rw[mE,zma u0]
def rN(Z:Nat):LM (Z%2^(32*16))=LM Z:=OK Z 16 rfl
def O3(n:Nat){a:Option Int}(b:wu a):cA (n+1) 167 [fU a]=some (.bool true):=by
 refine fN Ky ?_
 delta Ky Q qT qN bq qe qt qz
 cases a with
 | none=> refine J (LM 0)<|J (.bool true)<|J true ?_;rw[zma rfl,ja,ln iS iS,zka rfl];rfl
 | some x=>
  have hx:=aE.1 b.some;simp only[fU,cg];refine J (LM x.natAbs)<|J (.bool false)<|J false ?_;rw[zha H,ja,ln hx iS]
  refine O aD<|O ac ?_;by_cases h:x.natAbs=0
  ·rw[zka h];have:decide (x<0)=false:=zfa u0
   rw[this];rfl
  ·simp_all
theorem Xm(n:Nat){l:List<|Option Int}(hl:l.length<=1000)(h:∀ a∈l,wu a):cA (n+2) 118 [.sl<|l.map fU]=some (.bool<|l.all Option.isSome):=by
 refine fN Kv ?_
 delta Kv Q qT qS qX iL iR J0 S bT jl qO qc qj C qr qy qz
 refine J (l.map fU) ?_;refine aV (λi s=>s=[I (i:Int)]/\(l.take i).all Option.isSome=true) l.length 0 (zoa _) ⟨rfl,rfl⟩ (λi hi s e=>?_)<|λs e=>?_
 ·obtain⟨rfl,f⟩:=e;have g:(l.map fU)[i]?=some (fU l[i]):=by simp[hi]
  have d:afA .lss (I (i:Int)) (D.int .i64 (l.map fU).length)=some (.bool true):=by simp_all [ag,zka,zla]
  have c:D.idx (I (i:Int)) (l.map fU).length=some i:=ai (by rw[zla];exact hi)
  have b:=h l[i]<|zya hi;cases ha:l[i] with
  | none=>
   right;refine⟨(0,[.bool false]),?_,?_⟩
   ·refine O d<|J true ?_;rw[zma rfl];refine J (l.map fU)<|O c<|O g ?_;rw[ha];exact J (.bool true)<|J true<|J true<|J true rfl
   ·grind
  | some x=>
   left;refine⟨[I ((i+1:Nat):Int)],?_,rfl,?_⟩
   ·refine O d<|J true ?_;rw[zma rfl];refine J (l.map fU)<|O c<|O g ?_;rw[ha] at b ⊢;refine J (.bool false)<|J false<|O (z:=false) ?_<|J false ?_
    ·rw[zha H];exact O (O3 n b) rfl
    ·rw[zha H];exact O (az<|aB (i:=i) u0) rfl
   ·simp_all [zAa,z5c]
 ·obtain⟨rfl,f⟩:=e;rw[zdb] at f;refine⟨(1,[]),?_,?_⟩
  ·have d:afA .lss (I (l.length:Int)) (D.int .i64 (l.map fU).length)=some (.bool false):=by
    simp_all [ag,zfa,zla]
   exact O d<|J false rfl
  ·rw[f];rfl
def pX(n:Nat){a:Option Int}(c:wu a):cA (n+2) 118 [.sl [fU a]]=some (.bool a.isSome):=by
 have:=Xm n (l:=[a]) j2<|λb d=>by rw[zSa.1 d];exact c
 simpa using this
def wF(n:Nat){a b:Option Int}(e:wu a)(f:wu b):cA (n+2) 118 [.sl [fU a,fU b]]=some (.bool<|a.isSome&&b.isSome):=by
 have:=Xm n (l:=[a,b]) j2 (λc d=>by
  simp[zMa,zbc,or_false] at d;rcases d with rfl|rfl
  ·exact e
  ·exact f)
 simp_all
def IG(n:Nat):cA (n+1) 119 []=some Lc:=by refine Zh Su ?_;unfold Su;rw[jh];rfl
theorem vh(neg:Bool)(m:Nat):decide (sgn neg m<0)=(neg&&!(decide (m=0))):=by grind [sgn]
def B3(neg:Bool)(m:Nat):(sgn neg m).natAbs=m:=by unfold sgn;cases neg<;>simp
def wE(n:Nat)(neg:Bool){m:Nat}(h:m<eM):cA (n+1) 116 [.bool neg,LM m]=some (M<|sgn neg m):=by
 refine eN Sr ?_
 delta Sr qT S nq qe
 rw[ja,ln h iS,cg,vh,B3];refine J neg<|O (z:=neg&&!(decide (m=0))) ?_ rfl;cases neg<;>rfl
def abO(n:Nat)(c:X<eM)(d:Y<eM):cA (n+1) 120 [LM X,LM Y]=some (.tup [LM<|X+Y,.bool<|decide (X+Y<eM)]):=by
 refine eN Sw ?_
 delta Sw P qJ iL iR Jn J0 bq qc qi qj qs qw qy
 rw[jh];refine aV (λk s=>s=[W (gr X Y k:Nat),I (k:Int),LM<|(X+Y)%2^(32*k)]) 16 0 (zoa _) (by rw[uP,vI];rfl) (λk a s b=>?_)<|λs b=>?_
 ·subst b;left;refine⟨_,?_,rfl⟩;have e:=oF X Y k;have x0:=cV X k;have x1:=wV X k;have f:=cV Y k;have g:=wV Y k;refine O ag<|O ac<|au (by show(k:Int)<16;omega) ?_
  refine O (fZ a)<|O (bA _ a)<|O (fS X k)<|O (fZ a)<|O (bA _ a)<|O (fS Y k) ?_;refine O (yr u0 u0)<|O (yr u0 u0)<|O (jM _)<|O (fZ a) ?_
  rw[<-Hp];refine O (vH a)<|O (yt u0) ?_
  rw[<-uO];exact O (az<|aB (i:=k) u0) rfl
 ·subst b;refine⟨_,O ag<|O ac<|ay H rfl,?_⟩
  rw[rN,IP c d];by_cases h:X+Y<eM
  ·rw[zma h,zka h];rfl
  ·rw[zha h,zfa h];rfl
def Xy(n:Nat)(a:Int):cA (n+1) 194 [.int .u32 a]=some (.bool false):=by refine fN Ta ?_;simp[Ta,D.beq,nq]
theorem ab0(n:Nat)(a b:Int):cA (n+2) 168 [.int .u32 a,.int .u32 b]=some (I<|bf a b):=by
 refine eN SY ?_
 delta SY Jn J0 J1 qc C qt
 refine O (Xy n a)<|O (Xy n b)<|J false ?_;rw[zha H]
 refine J false ?_;rw[zha H]
 refine O (z:=.bool<|decide (a<b)) (by simp[afA,if_true])<|O ac ?_
 unfold bf;by_cases h:a<b
 ·simp_all
 ·rw[zha h];refine ay h<|O (z:=.bool<|decide (a>b)) (by simp[afA,if_true])<|O ac ?_
  all_goals grind
theorem OY(n:Nat)(g:X<eM)(h:Y<eM):cA (n+3) 121 [LM X,LM Y]=some (I<|bf X Y):=by
 refine eN Sx ?_
 delta Sx P qJ iL iR Jn J0 J1 nq qc C qr qt qy
 refine aV (λt s=>s=[I<|15-(t:Int)]/\lu X Y (16-t)) 16 0 (zoa _) ⟨rfl,I1 g h⟩ (λt j s e=>?_)<|λs e=>?_
 ·obtain⟨rfl,c⟩:=e;obtain⟨k,i⟩:∃ k,k=15-t:=⟨_,rfl⟩;have a:k<16:=u0
  have e1:(15-(t:Int))=(k:Int):=u0
  rw[show 16-t=k+1 by omega] at c
  rw[e1];have b:=fZ a;have f:afA .geq (I (k:Int)) (D.int .i64 0)=some (.bool true):=by rw[fD,zka u0]
  by_cases hd:q X k=q Y k
  ·left;refine⟨[I<|(k:Int)-1],?_,?_,?_⟩
   ·refine O f<|J true ?_;rw[zma rfl];refine O b<|O (bA _ a)<|O b<|O (bA _ a)<|O (z:=false) ?_ ?_
    ·rw[hd];simp[D.beq,D.truth]
    ·rw[zha H];exact O (bP (by simp[inR];omega)) rfl
   ·grind
   ·rw[show 16-(t+1)=k by omega];exact Dm c hd
  ·right;refine⟨(0,[I<|bf (q X k)<|q Y k]),?_,?_⟩
   ·refine O f<|J true ?_;rw[zma rfl];refine O b<|O (bA _ a)<|O b<|O (bA _ a)<|O (z:=true) ?_ ?_
    ·simp[D.beq,D.truth,hd]
    ·rw[zma rfl];exact O b<|O (bA _ a)<|O b<|O (bA _ a)<|O (ab0 n _ _) rfl
   ·have d:=Ep c hd;rw[zma rfl];show some (I<|bf (q X k)<|q Y k)=_;congr 2;unfold Go.Proofs.YtdlipdnepadhjaaGreat.sgn at d;unfold bf;repeat' split at d
    all_goals (repeat' split)<;>omega
 ·obtain⟨rfl,c⟩:=e;refine⟨(1,[]),O fD<|O ac<|ay H rfl,?_⟩
  rw[zha H]
  have d:=JO c;congr 2;unfold Go.Proofs.YtdlipdnepadhjaaGreat.sgn at d;unfold bf;repeat' split at d
  all_goals (repeat' split)<;>omega
def UO(n:Nat)(e:X<eM)(h:Y<=X):cA (n+1) 122 [LM X,LM Y]=some (LM<|X-Y):=by
 refine eN SA ?_
 delta SA P qJ iL iR Jn J0 qc qi qj qs qw qy
 rw[jh];refine aV (λk s=>s=[W (cr X Y k:Nat),I (k:Int),LM<|(X-Y)%2^(32*k)]) 16 0 (zoa _) (by rw[rR,vI];rfl) (λk a s b=>?_)<|λs b=>?_
 ·subst b;left;refine⟨_,?_,rfl⟩;have c:=wD X Y k;obtain⟨q1,d⟩:=vp (q X k) (q Y k) (cr X Y k) (cV X k) (p8 X k) (cV Y k) (p8 Y k) c;refine O ag<|O ac<|au (by show(k:Int)<16;omega) ?_
  refine O (fZ a)<|O (bA _ a)<|O (fS X k)<|O (fZ a)<|O (bA _ a)<|O (fS Y k) ?_;refine O (yu _ _)<|O (yu _ _)<|O (jM _)<|O (fZ a) ?_;rw[d,<-Hq h];refine O (vH a)<|O Ci ?_;rw[q1,<-rQ];exact O (az<|aB (i:=k) u0) rfl
 ·subst b;refine⟨_,O ag<|O ac<|ay H rfl,?_⟩
  rw[rN];rfl
def CD(n:Nat)(h:X<eM):cA (n+1) 127 [LM X]=some (I (dw X:Nat)):=by
 refine fN SD ?_
 delta SD P qC qJ iL iR Jn J0 J1 bq qA qy
 refine aV (λt s=>s=[I ((16-t:Nat):Int)]/\dw X=jH X (16-t)/\under X (16-t)) 16 0 (zoa _) ⟨rfl,rfl,FE rfl h⟩ (λt l s f=>?_)<|λs f=>?_
 ·obtain⟨rfl,d,e⟩:=f;obtain⟨k,j⟩:∃ k,k=15-t:=⟨_,rfl⟩;rw[show 16-t=k+1 by omega] at d e ⊢
  have a:k<16:=u0
  have b:afA .sub (I ((k+1:Nat):Int)) (D.int .i64 1)=some (I (k:Int)):=by rw[show(D.int .i64 1)=I 1 from rfl,bP (by simp[inR];omega)];congr 2;omega
  have g:afA .gtr (I ((k+1:Nat):Int)) (D.int .i64 0)=some (.bool true):=by rw[bR,zka u0]
  have i:=A8<|show X<2^(32*(k+1)) from e;have c:D.beq (.int .u32<|q X k) (.int .u32 0)=decide (X<2^(32*k)):=by simp[D.beq,i]
  by_cases hs:X<2^(32*k)
  ·left;refine⟨[I ((16-(t+1):Nat):Int)],?_,rfl,?_,?_⟩
   ·refine O g<|J true<|O (z:=true) ?_<|J true ?_
    ·rw[zma rfl];refine O b<|O (fZ a)<|O (bA _ a) ?_;rw[c,zka hs];rfl
    ·simp_all
   ·rw[show 16-(t+1)=k by omega,d,jH,zha u0]
   ·rw[show 16-(t+1)=k by omega];exact hs
  ·right;refine⟨(0,[I ((k+1:Nat):Int)]),?_,?_⟩
   ·refine O g<|J true<|O (z:=false) ?_<|J false rfl;rw[zma rfl];refine O b<|O (fZ a)<|O (bA _ a) ?_;rw[c,zfa hs];rfl
   ·rw[d,jH,zma u0];rfl
 ·obtain⟨rfl,d,_⟩:=f;refine⟨(0,[I 0]),O bR<|O ac<|O (z:=false) (ay H rfl)<|J false rfl,?_⟩
  rw[d];rfl
def Cy:Option Int->Option Int->Option Int
 | some x,some y=>lQ (x+y)
 | _,_=>none
def mN{a b:Option Int}:(a.isSome&&b.isSome)=false\/∃ x y,a=some x/\b=some y:=by cases a<;>cases b<;>simp
def jb{neg:Bool}{m:Nat}{z:Int}(a:sgn neg m=z)(h:m<eM):fU (lQ z)=M (sgn neg m):=by
 have:z.natAbs=m:=by rw[<-a,B3]
 unfold lQ;rw[zma (by rw[this];exact h),<-a];rfl
theorem c57(n:Nat){a b:Option Int}(f:wu a)(g:wu b):cA (n+4) 57 [fU a,fU b]=some (fU<|Cy a b):=by
 refine eN F57 ?_
 delta F57 Q J0 bq qc C qn qp qt
 refine O (wF (n+1) f g)<|O aD<|O ac ?_;rcases mN (a:=a) (b:=b) with h|⟨x,y,rfl,rfl⟩
 ·rw[h,zma H]
  refine O (IG<|n+2) ?_;cases a<;>cases b<;>simp at h<;>rfl
 rw[zha j2]
 have hx:=aE.1 f.some;have d:=aE.1 g.some;rw[show fU (some x)=_ from cg x,show fU (some y)=_ from cg y,show Cy (some x) (some y)=lQ (x+y) from rfl];refine J (.bool<|decide (x<0))<|J (.bool<|decide (y<0))<|O (z:=decide (decide (x<0)=decide (y<0))) (by simp[D.beq,D.truth]) ?_
 by_cases hs:decide (x<0)=decide (y<0)
 ·refine au hs ?_;refine J (LM x.natAbs)<|J (LM y.natAbs)<|O (abO (n+2) hx d)<|J (LM<|x.natAbs+y.natAbs)<|J (.bool<|decide (x.natAbs+y.natAbs<eM))<|O aD<|O ac ?_;have c:(x+y).natAbs=x.natAbs+y.natAbs:=by
   grind
  by_cases ht:x.natAbs+y.natAbs<eM
  ·rw[zka ht,zha H]
   rw[jb (neg:=decide (x<0)) (z:=x+y) (by unfold sgn;rw[decide_eq_decide] at hs;simp[zea];split<;>omega) ht]
   exact J (.bool<|decide (x<0))<|O (wE (n+2) _ ht) rfl
  ·rw[zfa ht,zma H]
   refine O (IG<|n+2) ?_;unfold lQ;rw[zha (by rw[c];exact ht)];rfl
 ·refine ay hs ?_;refine J (LM x.natAbs)<|J (LM y.natAbs)<|O (OY n hx d)<|O fD<|O ac ?_;have i:¬ (x<0↔y<0):=λe=>hs (by rw[decide_eq_decide];exact e)
  by_cases hge:y.natAbs<=x.natAbs
  ·refine au (by unfold bf;split<;>(try split)<;>omega) ?_
   refine J (.bool<|decide (x<0))<|J (LM x.natAbs)<|J (LM y.natAbs)<|O (UO (n+2) hx hge)<|O (wE (n+2) _<|zLa (Nat.sub_le _ _) hx) ?_;rw[jb (neg:=decide (x<0)) (m:=x.natAbs-y.natAbs) (z:=x+y) (by unfold sgn;simp[zea];split<;>omega)<|zLa (Nat.sub_le _ _) hx]
  ·refine ay (by unfold bf;split<;>(try split)<;>omega) ?_
   refine J (.bool<|decide (y<0))<|J (LM y.natAbs)<|J (LM x.natAbs)<|O (UO (n+2) d u0)<|O (wE (n+2) _<|zLa (Nat.sub_le _ _) d) ?_
   rw[jb (neg:=decide (y<0)) (m:=y.natAbs-x.natAbs) (z:=x+y) (by unfold sgn;simp[zea];split<;>omega)<|zLa (Nat.sub_le _ _) d]
def WR(n:Nat){a:Option Int}(b:wu a):cA (n+3) 68 [fU a]=some (fU<|a.map<|λx=>-x):=by
 refine fN F68 ?_
 delta F68 Q C qn
 refine O (pX n b)<|O aD<|O ac ?_;cases a with
 | none=>rw[zma H];exact O (IG<|n+1) rfl
 | some x=>
  rw[zha j2]
  have hx:=aE.1 b.some;rw[show fU (some x)=_ from cg x];show _=some (M<|-x);refine J (.bool<|decide (x<0))<|O aD<|J (LM x.natAbs)<|O (wE (n+1) _ hx) ?_;rw[cg,vh,B3];rw[cg,zJb,show((!(decide (x<0)))&&!(decide (x.natAbs=0)))=decide (-x<0) by rw[zBc];simp;omega]
def ls(n:Nat){x:Int}(hx:In x):cA (n+3) 129 [M x]=some (I<|sg x):=by
 refine fN SE ?_
 delta SE Q qN Jn J0 J1 bq qO C qt
 have a:=pX n<|bi hx;have hx:=aE.1 hx;refine O a<|O aD<|J false<|O (z:=decide (x=0)) ?_<|O ac ?_
 ·rw[zha H,cg]
  refine J (LM x.natAbs) ?_;rw[ja,ln hx iS,ac]
  simp_all
 ·by_cases h0:x=0
  ·refine au h0 ?_;subst h0;rfl
  ·refine ay h0<|J (.bool<|decide (x<0))<|O ac ?_;by_cases h1:x<0
   ·simp_all [Gs]
   ·refine ay h1 ?_;rw[gW u0]
theorem oE(n:Nat){x:Int}(hx:inR x):cA (n+2) 54 [I x]=some (M x):=by
 refine fN F54 ?_
 delta F54 P J0 qb qc C qw
 obtain⟨c,d⟩:=hx;have key:∀ m:Nat,m<18446744073709551616->D.st (afN (List.replicate 16<|D.int .u32 0) [(0,.int .u32<|(m:Int)%4294967296),(1,.int .u32<|(m:Int)/4294967296%4294967296)])=LM m:=λm hm=>by
  have e:LM m=cH 16 (λj=>if j=0 then(m:Int)%4294967296 else if j=1 then(m:Int)/4294967296%4294967296 else 0):=dM λj f=>by
   match j with
   | 0=>simp[q]
   | 1=>simp[q]
   | j+2=>
    rw[zha u0,zha u0]
    exact gQ (n:=2) (by simpa using hm) u0
  rw[e];rfl
 have w1:IntKind.u64.wrap x=if x<0 then x+18446744073709551616 else x:=by have:IntKind.u64.wrap x=x%18446744073709551616:=rfl;omega
 have b:D.conv .u64 (I x)=some (W<|if x<0 then x+18446744073709551616 else x):=by simp[D.conv,w1]
 refine O b ?_;have a:x.natAbs<18446744073709551616:=u0
 refine O (z:=(0,[W (x.natAbs:Nat)])) ?_ ?_
 ·refine O ag<|O ac ?_;by_cases h:x<0
  ·refine au h ?_;rw[zma h];have:afP .neg (W<|x+18446744073709551616)=some (W (x.natAbs:Nat)):=by
    simp[afP];have:IntKind.u64.wrap (0-(x+18446744073709551616))=(0-(x+18446744073709551616))%18446744073709551616:=rfl;grind
   simp_all
  ·grind
 ·refine O ag<|O (jM _)<|O (yt (by show(0:Int)<=(x.natAbs:Nat);omega))<|O (jM _) ?_
  have e:=key x.natAbs a;refine O (z:=M x) ?_ rfl;rw[e,wE n _<|B6 a];congr 1;congr 1;unfold sgn;simp[zea];split<;>omega
end
section
variable{A B a c:Nat}
def Jj(A B i k n:Nat)(a:i+k<n):D.set (cH n<|BE A B i k) [i+k] (.int .u32<|((sO A B i k:Nat)+(q A i*q B k+q (js A B i) (i+k)))%4294967296)=some (cH n<|BE A B i<|k+1):=by
 refine oY a λj b=>?_;unfold BE yM;by_cases h:j=i+k
 ·subst h;rw[zma u0,zma rfl,MW]
 ·rw[zha h];by_cases h2:j<i+k
  ·rw[zma u0,zma h2,zZ,mC _ _ _ _ h2]
  ·omega
def Jh{i m n:Nat}(a:B<2^(32*m))(d:i+m<n):D.set (cH n<|BE A B i m) [i+m] (.int .u32 (sO A B i m:Nat))=some (cH n<|q<|js A B<|i+1):=by
 have c:=HW (A:=A) (i:=i) a;have e:rh A B i m<2^(32*(i+m+1)):=by rw[<-z8 a];have:=HW (A:=A) (i:=i+1) a;rwa [show i+1+m=i+m+1 from by omega] at this
 refine oY d λj f=>?_;rw[z8 a];unfold BE yM;by_cases h:j=i+m
 ·subst h;rw[zma rfl,fF];have b:=BC A B i m;rw[zcb c,zXb] at b;rw[<-b,z0a<|zLa (BD A B i m) u0]
 ·rw[zha h];by_cases h2:j<i+m
  ·omega
  ·rw[zha h2,gQ e u0,gQ c u0]
theorem yp{n:Nat}(f:Nat->Int)(h:a+c<=n):D.st (List.take c<|List.drop a<|(List.range n).map λi=>D.int .u32<|f i)=cH c (λj=>f<|a+j):=by unfold cH;congr 1;apply zTb;all_goals grind
def EO:aw OI=cH 32 (q 0):=by have:cH 32 (q 0)=cH 32 (λ_=>0):=dM λi _=>lI i;rw[this];rfl
def P5{a b:Int}(d:0<=a)(e:a<=4294967295)(c:0<=b)(g:b<=4294967295):0<=a*b/\a*b<=18446744065119617025:=by refine⟨zRb d c,?_⟩;have f:=Int.mul_le_mul_of_nonneg_right e c;omega
def sQ:Option Int->Option Int->Option Int
 | some x,some y=>lQ (x*y)
 | _,_=>none
def c61(n:Nat){a b:Option Int}(w:wu a)(A:wu b):cA (n+3) 61 [fU a,fU b]=some (fU<|sQ a b):=by
 refine eN F61 ?_
 delta F61 Q P qC qN qJ qZ iL iR Jn
 refine O (wF n w A)<|O aD<|O ac ?_;rcases mN (a:=a) (b:=b) with h|⟨x,y,rfl,rfl⟩
 ·rw[h,zma H]
  refine O (IG<|n+1) ?_;cases a<;>cases b<;>simp at h<;>rfl
 rw[zha j2]
 have hx:=aE.1 w.some;have v:=aE.1 A.some;rw[show fU (some x)=_ from cg x,show fU (some y)=_ from cg y,show sQ (some x) (some y)=lQ (x*y) from rfl];generalize hX:x.natAbs=X at *;generalize hY:y.natAbs=Y at *;have E:=lP X;have F:=lP Y;have s1:=fK hx;have s2:=fK v;refine J (LM X)<|O (CD (n+1) hx)<|J (LM Y)<|O (CD (n+1) v) ?_;generalize dw X=p at *;generalize dw Y=m at *;rw[EO];refine aV (λi s=>s=[I (i:Int),cH 32<|q<|js X Y i]) p 0 (zoa _) (by rw[Jl];rfl) (λi hi s g=>?_)<|λs g=>?_
 ·subst g;left;refine⟨[I ((i+1:Nat):Int),cH 32<|q<|js X Y<|i+1],?_,rfl⟩;refine O ag<|O ac<|au (by show(i:Int)<(p:Int);omega) ?_
  refine c8 (λk s=>s=[W (sO X Y i k:Nat),I (k:Int),cH 32<|BE X Y i k]) m 0 (zoa _) (by rw[zW,Jk];rfl) (λk C s g=>?_)<|λs g=>?_
  ·subst g;left;refine⟨_,?_,rfl⟩;have d:i<16:=u0
   have f:k<16:=u0
   have c:i+k<32:=u0
   have a0:=cV X i;have a1:=p8 X i;have b0:=cV Y k;have b1:=p8 Y k;have G:=cV (js X Y i)<|i+k;have K:=p8 (js X Y i)<|i+k;have B:=BD X Y i k;obtain⟨q0,q1⟩:=P5 a0 a1 b0 b1;refine O ag<|O ac<|au (by show(k:Int)<(m:Int);omega) ?_
   refine O (fZ d)<|O (bA _ d)<|O (fS X i)<|O (fZ f)<|O (bA _ f)<|O (fS Y k) ?_;refine O (RW q0 u0)<|O (av (a:=i) (b:=k) u0)<|O (ai c)<|O (bA _ c) ?_
   rw[Ji];refine O (fS _ _)<|O (yr u0 u0)<|O (yr u0 u0)<|O (av (a:=i) (b:=k) u0)<|O (jM _)<|O (ai c)<|O (Jj X Y i k 32 c)<|O (yt u0) ?_
   rw[<-Jg];exact O (az<|aB (i:=k) u0) rfl
  ·subst g;refine⟨_,O ag (O ac<|ay (by show ¬ ((m:Int)<(m:Int));omega) rfl),?_⟩
   have o:i+m<32:=u0
   have B:=BD X Y i m;refine O (av (a:=i) (b:=m) u0)<|O (jM _)<|O (ai o) ?_
   rw[Int.emod_eq_of_lt u0 u0]
   exact O (Jh s2 o)<|O (az<|aB (i:=i) u0) rfl
 ·subst g;refine⟨(0,[cH 32<|q<|X*Y]),?_,?_⟩
  ·rw[MX s1];exact O ag<|O ac<|ay (by show ¬ ((p:Int)<(p:Int));omega) rfl
  have a2:=iS;have hq:=zdd<|Nat.mul_lt_mul'' hx v;have t:D.st (List.take 16<|List.drop 16<|(List.range 32).map λi=>D.int .u32<|q (X*Y) i)=LM (X*Y/eM):=by
   rw[yp _ u0]
   exact dM λj _=>by rw[gZ,CZ]
  have u:D.st (List.take 16<|List.drop 0<|(List.range 32).map λi=>D.int .u32<|q (X*Y) i)=LM (X*Y):=by
   rw[yp _ u0]
   simp_all
  show(if decide (16+16<=((List.range 32).map λi=>D.int .u32<|q (X*Y) i).length)=true then _ else none)=_
  rw[zma j2,t,ja,ln hq a2]
  have l:(x*y).natAbs=X*Y:=by rw[zwa,hX,hY]
  by_cases ht:X*Y<eM
  ·rw[zcb ht,zka rfl];refine J false ?_;rw[zha H]
   refine J (.bool<|decide (x<0))<|J (.bool<|decide (y<0)) ?_;show(if decide (0+16<=((List.range 32).map λi=>D.int .u32<|q (X*Y) i).length)=true then _ else none)=_
   rw[zma j2,u]
   have r:=Qt x y;rw[hX,hY] at r;rw[jb r ht];refine O (z:=M<|sgn (!(decide (decide (x<0)=decide (y<0))))<|X*Y) ?_ rfl;rw[<-wE (n+1) _ ht];congr 4
  ·rw[zfa<|λe=>ht (by have:=Nat.div_eq_zero_iff.1 e;omega)]
   refine J true ?_;rw[zma rfl];refine O (IG<|n+1) ?_;unfold lQ;rw[l,zha ht];rfl
end
section
variable{Q X a:Nat}{c:D}
def jk(x:Nat):Nat:=if x=0 then 0 else Nat.log2 x+1
def OX{x L:Nat}(c:2^L<=x)(d:x<2^(L+1)):jk x=L+1:=by
 have hx:x≠0:=λe=>u0
 unfold jk;rw[zha hx];have a:=(Nat.le_log2 hx).2 c;have b:=(Nat.log2_lt hx).2 d;omega
def fQ{x:Nat}(hx:x≠0):∃ L,jk x=L+1/\2^L<=x/\x<2^(L+1):=by refine⟨Nat.log2 x,by unfold jk;rw[zha hx],(Nat.le_log2 hx).1<|zja _,(Nat.log2_lt hx).1<|zWc _⟩
theorem wC{x m:Nat}(h:2^m<=x):jk x=m+jk (x/2^m):=by
 have hq:x/2^m≠0:=λe=>by have:=Nat.div_eq_zero_iff.1 e;grind
 obtain⟨L,a,b,c⟩:=fQ hq;rw[a,<-zNb];have hp:=zDa m;refine OX (L:=m+L) ?_ ?_
 ·rw[z5a,zVa];exact zva (zKa _ b)<|zcc _ _
 ·rw[show m+L+1=m+(L+1) by omega,z5a,zVa]
  exact(z2a hp).1 c
def B9:D:=D.str<|(tj<|LQ Tryz.f56).getD ByteArray.empty
def NU(i:Nat):Bool:=match afO B9 (.int .u8 i) with
 | some (.int .u8 v)=>decide (v=(jk i:Nat))
 | _=>false
def Wv:(List.range 256).all NU=true:=j3
theorem Wu{i:Nat}(h:i<256):afO B9 (.int .u8 i)=some (.int .u8 (jk i:Nat)):=by have:=zxa.1 Wv i<|zRa.2 h;unfold NU at this;all_goals grind
def RR{m:Nat}(b:c=.int .u64 (m:Nat))(hm:m<=32):afA .shr (U a) c=some (U<|a/2^m):=by
 subst b;simp only[afA];rw[zha u0,show min ((m:Int)).toNat (IntKind.bits .u32)=m from by simp[IntKind.bits];omega,zSc _ (by exact zTa<|Int.pow_pos H)]
 congr 2
theorem Xw(n:Nat){x:Nat}(hx:x<4294967296):cA (n+1) 165 [U x]=some (I (jk x:Nat)):=by
 refine fN SX ?_
 delta SX P Jn J0 qb qc qw
 have geq:∀ (a b:Nat) {c:D},c=.int .u32 (b:Nat)->afA .geq (U a) c=some (.bool<|decide (b<=a)):=λa b c u=>by simp_all [afA,decide_eq_decide]
 have last:∀ (y m:Nat),y<65536->m<=16->(Option.bind ((afA .geq (U y)<|D.int .u32 256).bind λo=>
   (D.truth o).bind λj=>
   if j then((afA .shr (U y)<|D.int .u64 8).bind λp=>
   (afA .add (I (m:Nat))<|D.int .i64 8).bind λq=>
   some ((0:Nat),[p,q])) else(some (0,[U y,I (m:Nat)]))) λ(i:Nat×List D)=>
   (D.conv .u8<|Z i.2 0).bind λd=>
   (afO B9 d).bind λe=>
   (D.conv .i64 e).bind λf=>
   (afA .add (Z i.2 1) f).bind λg=>
   some g)=some (I ((m+jk y:Nat):Int)):=λy m v hm=>by
  have fin:∀ (z m:Nat),z<256->m<=24->((D.conv .u8<|U z).bind λd=>
    (afO B9 d).bind λe=>
    (D.conv .i64 e).bind λf=>
    (afA .add (I (m:Nat)) f).bind λg=>some g)=some (I ((m+jk z:Nat):Int)):=λz m l hm=>by
   have t:jk z<=8:=by
    by_cases h0:z=0
    ·subst h0;decide
    ·obtain⟨L,r,s,_⟩:=fQ h0;rcases zua L 8 with h|h
     ·omega
     ·have:=zpa (show 0<2 by decide) h
      omega
   have k:D.conv .u8 (U z)=some (.int .u8 (z:Nat)):=by
    simp[D.conv]
    have:IntKind.u8.wrap (z:Int)=(z:Int)%256:=rfl;grind
   refine O k<|O (Wu l)<|O (z:=I (jk z:Nat)) ?_<|O (av u0) rfl
   grind [D.conv,jg,inR]
  by_cases h:256<=y
  ·refine O (z:=(0,[U<|y/256,I ((m+8:Nat):Int)])) ?_ ?_
   ·refine O (geq y 256 rfl)<|O ac<|au h ?_;exact O (RR (m:=8) rfl H)<|O (av (b:=8) u0) rfl
   ·have:=fin (y/256) (m+8) u0 u0
    rw[wC (m:=8) u0,<-zNb]
    exact this
  ·refine O (z:=(0,[U y,I (m:Nat)])) (O (geq y 256 rfl)<|O ac<|ay h rfl) ?_;grind
 by_cases h:65536<=x
 ·refine O (z:=(0,[U<|x/65536,I ((16:Nat):Int)])) ?_ ?_
  ·refine O (geq x 65536 rfl)<|O ac<|au h ?_;exact O (RR (m:=16) rfl H) rfl
  ·rw[wC (m:=16) u0]
   exact last (x/65536) 16 u0 H
 ·refine O (z:=(0,[U x,I ((0:Nat):Int)])) (O (geq x 65536 rfl)<|O ac<|ay h rfl) ?_;have:=last x 0 u0 H
  rw[zbb] at this;exact this
def ab7(n:Nat){x:Nat}(hx:x<4294967296):cA (n+2) 196 [U x]=some (I<|32-(jk x:Nat)):=by
 refine fN Td ?_
 delta Td P Jn C
 have c:jk x<=32:=by
  by_cases h0:x=0
  ·subst h0;decide
  ·obtain⟨L,a,b,_⟩:=fQ h0;rcases zua L 32 with h|h
   ·omega
   ·have:=zpa (show 0<2 by decide) h
    omega
 exact O (Xw n hx)<|O (bP (by simp[inR];omega)) rfl
theorem YY{b:Nat}(c:a<18446744073709551616)(d:b<18446744073709551616):afA .or (W (a:Nat)) (W (b:Nat))=some (W ((a ||| b:Nat):Int)):=by
 simp only[afA,if_true,afB];have e:(BitVec.ofInt (IntKind.bits .u64) (a:Int) ||| BitVec.ofInt (IntKind.bits .u64) (b:Int)).toNat=a ||| b:=by
  have f:(BitVec.ofInt 64 (a:Int)).toNat=a:=by simp[BitVec.toNat_ofInt];omega
  have g:(BitVec.ofInt 64 (b:Int)).toNat=b:=by simp[BitVec.toNat_ofInt];omega
  show(BitVec.ofInt 64 (a:Int) ||| BitVec.ofInt 64 (b:Int)).toNat=a ||| b;grind
 rw[e];have hl:a ||| b<2^64:=Nat.or_lt_two_pow c d;rw[eJ ⟨u0,u0⟩]
def kH{b m:Nat}(c:b<2^m)(h:a*2^m+b<18446744073709551616):afA .or (W ((a*2^m:Nat):Int)) (W (b:Nat))=some (W ((a*2^m+b:Nat):Int)):=by rw[YY u0 u0,zVa,<-Nat.two_pow_add_eq_or_of_lt c]
def J7{b m:Nat}(c:b<2^m)(h:a*2^m+b<18446744073709551616):afA .or (W (b:Nat)) (W ((a*2^m:Nat):Int))=some (W ((a*2^m+b:Nat):Int)):=by rw[YY u0 u0,Nat.or_comm,zVa,<-Nat.two_pow_add_eq_or_of_lt c]
def vn{m:Nat}{k:IntKind}(b:c=.int k (m:Nat))(hm:m<=64)(h:a*2^m<18446744073709551616):afA .shl (W (a:Nat)) c=some (W ((a*2^m:Nat):Int)):=by
 subst b;simp only[afA];rw[zha u0,show min ((m:Int)).toNat (IntKind.bits .u64)=m from by simp[IntKind.bits];omega]
 have e:(a:Int)*2^m=((a*2^m:Nat):Int):=by simp_all
 rw[e,eJ ⟨u0,u0⟩]
def WF{m:Nat}{k:IntKind}(b:c=.int k (m:Nat))(hm:m<=64):afA .shr (W (a:Nat)) c=some (W ((a/2^m:Nat):Int)):=by
 subst b;simp only[afA];rw[zha u0,show min ((m:Int)).toNat (IntKind.bits .u64)=m from by simp[IntKind.bits];omega,zSc _ (by exact zTa<|Int.pow_pos H)]
 congr 2
def RY{b:Nat}(d:b≠0)(c:a<18446744073709551616):afA .quo (W (a:Nat)) (W (b:Nat))=some (W ((a/b:Nat):Int)):=by simp only[afA,if_true];rw[zha u0,<-zId,eJ ⟨Int.natCast_nonneg _,Int.ofNat_lt.2<|zLa (zgc a b) c⟩]
theorem Of{b:Nat}(c:b≠0):afA .rem (W (a:Nat)) (W (b:Nat))=some (W ((a%b:Nat):Int)):=by simp[afA,if_true];grind
def Oc{b:Nat}(h:a+b<18446744073709551616):afA .add (W (a:Nat)) (W (b:Nat))=some (W ((a+b:Nat):Int)):=by rw[yr u0 u0,zjd]
theorem Oe{b:Nat}(h:a*b<18446744073709551616):afA .mul (W (a:Nat)) (W (b:Nat))=some (W ((a*b:Nat):Int)):=by grind [RW,Int.natCast_mul]
def Og{b:Nat}(h:b<=a)(c:a<18446744073709551616):afA .sub (W (a:Nat)) (W (b:Nat))=some (W ((a-b:Nat):Int)):=by rw[yu,eJ ⟨u0,u0⟩];congr 2;omega
def Ch(a:Nat):D.conv .u32 (W (a:Nat))=some (.int .u32 ((a%4294967296:Nat):Int)):=by rw[jM];rfl
def pg(X k:Nat):D.conv .u64 (.int .u32<|q X k)=some (W (dg X k:Nat)):=fS X k
theorem Xz(n:Nat){s:Nat}(f:X<eM)(h:s<=31):cA (n+1) 197 [LM X,I (s:Nat)]=some (.tup [LM<|X*2^s,.int .u32 ((X*2^s/eM:Nat):Int)]):=by
 refine eN Te ?_
 delta Te P qJ iL iR Jn J0 qc qi qj qs qw qy
 rw[jh];have hp:=zDa s;have g:2^s<=2^31:=zpa H h
 refine aV (λk s'=>s'=[W (jr X (2^s) k:Nat),I (k:Int),LM<|X*2^s%2^(32*k)]) 16 0 (zoa _) (by rw[zY,vI];rfl) (λk a s' b=>?_)<|λs' b=>?_
 ·subst b;left;refine⟨_,?_,rfl⟩;have c:=BF X k hp;have j:=gD X k;have hm:dg X k*2^s<=4294967295*2^s:=zKa _ u0
  have e1:=DI X (2^s) k;have e2:=zX X (2^s) k;rw[tW X k] at e1 e2;have d:((jr X (2^s) k:Nat):Int)+(dg X k:Nat)*((2^s:Nat):Int)=((dg X k*2^s+jr X (2^s) k:Nat):Int):=by rw[zjd,z1a];omega
  rw[d] at e1 e2;refine O ag<|O ac<|au (by show(k:Int)<16;omega) ?_
  refine O (fZ a)<|O (bA _ a)<|O (pg X k)<|O (vn rfl u0 u0)<|O (J7 c u0)<|O (jM _)<|O (fZ a) ?_
  rw[<-e1];refine O (vH a)<|O (yt u0) ?_
  rw[<-e2];exact O (az<|aB (i:=k) u0) rfl
 ·subst b;refine⟨_,O ag<|O ac<|ay H rfl,?_⟩
  have c:=BF X 16 hp;have e:=MU (D:=2^s) f;rw[rN,e];rw[e] at c;refine O (Ch _) ?_;grind
def ab8(n:Nat){s:Nat}(f:X<eM)(o:s<=31):cA (n+1) 201 [LM X,I (s:Nat)]=some (LM<|X/2^s):=by
 refine eN Tf ?_
 delta Tf P qJ iL iR Jn J0 qb qc qi qj qs qw qy
 rw[jh];refine aV (λk s'=>s'=[I (k:Int),LM<|X/2^s%2^(32*k)]) 16 0 (zoa _) (by rw[vI];rfl) (λk c s' d=>?_)<|λs' d=>?_
 ·subst d;left;refine⟨_,?_,rfl⟩;have l:=gD X k;have j:=gD X<|k+1;refine O ag<|O ac<|au (by show(k:Int)<16;omega) ?_
  refine O (z:=(0,[W (dg X (k+1):Nat)])) ?_ ?_
  ·refine O (av (a:=k) (b:=1) u0)<|O ag<|O ac ?_
   by_cases h:k+1<16
   ·refine au (by show((k+1:Nat):Int)<16;omega) ?_
    exact O (av (a:=k) (b:=1) u0)<|O (fZ h)<|O (bA _ h)<|O (pg X<|k+1) rfl
   ·refine ay (by show ¬ ((k+1:Nat):Int)<16;omega) ?_
    have p:q X (k+1)=0:=gQ (n:=16) (by rw[gZ,dW] at f;exact f) u0
    simp_all [tW]
  refine O (vn (m:=32) rfl H u0)<|O (fZ c)<|O (bA _ c)<|O (pg X k)<|O (kH (m:=32) u0 u0)<|O (WF rfl u0)<|O (jM _)<|O (fZ c) ?_
  have e:=L0 X s k u0
  rw[tW X<|k+1,tW X k] at e;have g:((dg X (k+1):Nat):Int)*4294967296+(dg X k:Nat)=((dg X (k+1)*2^32+dg X k:Nat):Int):=u0
  rw[g,<-Int.natCast_ediv] at e;rw[<-e];exact O (vH c)<|O (az<|aB (i:=k) u0) rfl
 ·subst d;refine⟨_,O ag<|O ac<|ay H rfl,?_⟩
  rw[rN];rfl
theorem GT{k:Nat}(a:k<16):D.set (LM<|Q/2^(32*(k+1))*2^(32*(k+1))) [k] (.int .u32<|q Q k)=some (LM<|Q/2^(32*k)*2^(32*k)):=
 oY a λj b=>by rw[zO,zO];all_goals grind
def OJ(h:Q<eM):LM (Q/2^(32*16)*2^(32*16))=LM 0:=by rw[DZ,zcb h,zxd]
theorem ab6(n:Nat){b:Nat}(h:X<eM)(d:0<b)(g:b<=4294967295):cA (n+1) 195 [LM X,U b]=some (.tup [LM<|X/b,U<|X%b]):=by
 refine eN Tc ?_
 delta Tc P qJ iL iR Jn J0 J1 qc qi qs qw qy
 rw[jh];have hq:X/b<eM:=zLa (zgc _ _) h;have e:jv X b 16=0:=by unfold jv;rw[DZ,zcb h,zyd]
 have c:D.conv .u64 (U b)=some (W (b:Nat)):=Od u0 u0
 refine aV (λt s'=>s'=[W (jv X b (16-t):Nat),I<|15-(t:Int),LM<|X/b/2^(32*(16-t))*2^(32*(16-t))]) 16 0 (zoa _) (by rw[Nat.sub_zero,e,OJ hq];rfl) (λt p s' f=>?_)<|λs' f=>?_
 ·subst f;left;obtain⟨k,l⟩:∃ k,k=15-t:=⟨_,rfl⟩;have a:k<16:=u0
  rw[show 16-t=k+1 by omega,show(15-(t:Int))=(k:Int) by omega,show 16-(t+1)=k by omega,show(15-((t+1:Nat):Int))=(k:Int)-1 by omega]
  refine⟨_,?_,rfl⟩;have o:=Ee X (k+1) d;have j:=gD X k;have e1:=JP X k d g;have e2:=Gh X b k;refine O fD<|O ac<|au (by show(k:Int) ≥ 0;omega) ?_
  refine O (vn (m:=32) rfl H u0)<|O (fZ a)<|O (bA _ a)<|O (pg X k)<|O (kH (m:=32) u0 u0) ?_
  have i:jv X b (k+1)*2^32+dg X k<18446744073709551616:=u0
  refine O c<|O (RY u0 i)<|O (Ch _)<|O (fZ a) ?_
  have e3:(((jv X b (k+1)*2^32+dg X k)/b%4294967296:Nat):Int)=q (X/b) k:=by rw[fF,e1];congr 1;refine z0a ?_;rw[z2a d];omega
  rw[e3];refine O (GT a)<|O c<|O (Of u0)<|O (bP (by simp[inR];omega)) ?_
  have e4:(jv X b (k+1)*2^32+dg X k)%b=jv X b k:=e2.symm;rw[e4]
 ·subst f;refine⟨_,O fD<|O ac<|ay H rfl,?_⟩
  have hm:X%b<b:=zWa _ d;rw[show 16-16=0 from rfl,JJ,zzd,z1c,zid,Nat.mul_one];refine O (Ch _) ?_;grind
end
section
variable{A B Z a j:Nat}{c:D}
def EC{V D i:Nat}(a:D<=4294967295):jr V D i<=4294967295/\D*dg V i<=18446744065119617025:=by
 refine⟨?_,zHa a<|Ho V i⟩;rcases zMb D with h|h
 ·simp_all [jr]
 ·have:=BF V i h;omega
def Ay{V D n:Nat}(c:V<2^(32*n))(b:D<=4294967295):V*D<2^(32*(n+1)):=by
 rw[eW];have a:V*D<=V*4294967296:=z6a _ u0
 omega
def ED{U V D n j k:Nat}(d:k<=n)(c:V<2^(32*n))(b:D<=4294967295) :
  IntKind.u64.wrap (IntKind.u64.wrap (q U (j+k)-q (V*D) k)-(cr (U/2^(32*j)) (V*D) k:Nat))/9223372036854775808=(cr (U/2^(32*j)) (V*D) (k+1):Nat) ∧
  IntKind.u64.wrap (IntKind.u64.wrap (q U (j+k)-q (V*D) k)-(cr (U/2^(32*j)) (V*D) k:Nat))%4294967296=q (oC (U/2^(32*j)) (V*D)<|n+1) k:=by
 have a:=vp (q U<|j+k) (q (V*D) k) (cr (U/2^(32*j)) (V*D) k) (cV _ _) (p8 _ _) (cV _ _) (p8 _ _)<|wD _ _ _;rw[a.1,a.2,<-mD,rQ,Ka u0<|zJc<|Ay c b]
 exact⟨rfl,rfl⟩
def NV{V D n:Nat}(b:V<2^(32*n))(a:D<=4294967295):((jr V D n:Nat):Int)=q (V*D) n:=by
 have h:=(EC (V:=V) (i:=n) a).1;have e:jr V D n=V*D/2^(32*n):=by unfold jr;rw[z0a b]
 rw[fF,<-e,z0a u0]
def Py{U j m:Nat}(a:U<2^(32*(j+m))):U/2^(32*j)<2^(32*m):=by rw[z2a<|zDa _,<-z5a,show 32*m+32*j=32*(j+m) from by omega];exact a
def oV(U Z j i n:Nat)(a:j+i<n):D.set (cH n<|yR U Z j i) [j+i] (.int .u32<|q Z i)=some (cH n<|yR U Z j<|i+1):=
 oY a λt b=>by
  unfold yR yM;by_cases h:t=j+i
  ·subst h;rw[zma u0,zma rfl,FZ]
  ·omega
def Au{U m n:Nat}(a:U<2^(32*(j+m)))(b:Z<2^(32*m)):cH n (yR U Z j m)=cH n (q<|gf U Z j):=
 dM λt _=>by
  unfold yR yM;split
  ·rfl
  ·rw[gQ a u0,gQ (DW b) u0]
def PW{n L:Nat}(c:B<2^(32*(n+1)))(b:dg B n<2^(L+1))(e:L+1<=32):B*2^(32-(L+1))<2^(32*(n+1)):=by
 have d:B/2^(32*n)=dg B n:=lJ c;have f:B<(dg B n+1)*2^(32*n):=by rw[<-z2a (zDa _)];omega
 have g:(dg B n+1)*2^(32*n)<=2^(L+1)*2^(32*n):=zKa _ b;have a:B*2^(32-(L+1))<2^(L+1)*2^(32*n)*2^(32-(L+1)):=z6b u0<|zDa _
 rw[<-z5a,<-z5a,show L+1+32*n+(32-(L+1))=32*(n+1) from by omega] at a
 exact a
def MI{n m:Nat}(hl:2^(32*(n-1))<=B)(a:B<=A)(b:A<2^(32*m)):n<=m:=by
 rcases zua m n with h|h
 ·have:2^(32*m)<=2^(32*(n-1)):=zpa u0 u0
  omega
 ·exact h
def JB{n m:Nat}(c:1<=n)(a:n<=m)(hl:2^(32*(n-1))<=B)(b:A<2^(32*m)):A/B<2^(32*(m-n+1)):=by
 apply zdd;have h:2^(32*(n-1))*2^(32*(m-n+1))<=B*2^(32*(m-n+1)):=zKa _ hl;rw[<-z5a,show 32*(n-1)+32*(m-n+1)=32*m from by omega] at h
 omega
def Ng{s:Nat}(e:A<eM)(d:s<=31):((A*2^s/eM:Nat):Int)=q (A*2^s) 16:=by
 have b:=zpa (n:=2) u0 d
 have c:A*2^s/eM<4294967296:=by rw[z2a iS,zVa 4294967296];have a:A*2^s<=A*2147483648:=z6a _ b;omega
 have a:=CZ (A*2^s) 16 0;rw[<-gZ,zXb] at a;rw[<-a,fF,zzd,z1c,zid,z0a c]
def RU{b:Nat}(d:c=.int .u64 (b:Nat)):afA .lss (W (a:Nat)) c=some (.bool<|decide (a<b)):=by simp_all [afA,decide_eq_decide]
def YW{b:Nat}(d:c=.int .u64 (b:Nat)):afA .geq (W (a:Nat)) c=some (.bool<|decide (b<=a)):=by simp_all [afA,decide_eq_decide]
def YX{b:Nat}:afA .gtr (W (a:Nat)) (W (b:Nat))=some (.bool<|decide (b<a)):=by simp_all [afA,decide_eq_decide]
def sK{α:Type}{body:Bd}{k:Nat×List D->Option α}{y:α}(J:Nat->List D->Prop) :
  ∀ (m:Nat) (s:List D),J m s->(∀ m s,J m s->(∃ a s',a<m/\body s=some (.inl s')/\J a s')\/∃ r,body s=some (.inr r)/\k r=some y)->(cB body s).bind k=some y:=by
 intro m
 induction m using Nat.strongRecOn with
 | _ m ih=>
  intro s f d;rcases d m s f with⟨a,s',b,c,e⟩|⟨r,b,c⟩
  ·exact aK c<|ih a b s' e d
  ·exact dT b c
theorem nF{b:Nat}(e:c=I (b:Nat))(h:b<=a)(d:a<=1000000):afA .sub (I (a:Nat)) c=some (I ((a-b:Nat):Int)):=by grind [bP,inR]
theorem YU(N:Nat):D.set (D.st<|List.take 0 (List.replicate 17<|D.int .u32 0)++(List.take 16 (List.drop 0<|(List.range 16).map λi=>D.int .u32<|q N i)++List.drop 16 (List.replicate 17<|D.int .u32 0))) [16] (.int .u32<|q N 16)=some (cH 17<|q N):=by
 have e:D.st (List.take 0 (List.replicate 17<|D.int .u32 0)++(List.take 16 (List.drop 0<|(List.range 16).map λi=>D.int .u32<|q N i)++List.drop 16 (List.replicate 17<|D.int .u32 0)))=cH 17 (λj=>if j<16 then q N j else 0):=by rfl
 rw[e];refine oY H λj a=>?_
 all_goals grind
theorem UQ(n:Nat)(d5:A<eM)(hB:B<eM)(ad:0<B):cA (n+4) 170 [LM A,LM B]=some (.tup [LM<|A/B,LM<|A%B]):=by
 refine eN S4 ?_
 delta S4 Q P qC qT qJ qZ iL iR Jn
 refine O (CD (n+2) hB)<|O (CD (n+2) d5)<|O (OY n d5 hB)<|O ag<|O ac ?_;by_cases hlt:A<B
 ·grind [bf,ja,Nat.div_eq_of_lt,Nat.mod_eq_of_lt]
 refine ay (by unfold bf;split<;>(try split)<;>omega) ?_
 have bY:dw B≠0:=λe=>by have:=fK hB;rw[e] at this;simp at this;omega
 have HBh:=fK hB;have HBl:=rj bY;have HAh:=fK d5;have a3:=lP B;have aO:=lP A;refine O (z:=decide (dw B=1)) (by show D.truth (D.bool<|D.beq (I (dw B:Int))<|I ((1:Nat):Int))=_;rw[dP];rfl) ?_
 by_cases K:dw B=1
 ·refine au K ?_;rw[K] at HBh;have ax:B<4294967296:=HBh;have hd:q B 0=(B:Int):=by unfold q;simp;omega
  have hm:A%B<4294967296:=znc (zWa _ ad) ax;refine O (bA _ H) ?_
  rw[hd];refine O (ab6 (n+2) d5 ad u0)<|J (LM<|A/B)<|J (U<|A%B) ?_
  have e:D.st (afN (List.replicate 16<|D.int .u32 0) [(0,U<|A%B)])=LM (A%B):=by
   have e2:LM (A%B)=cH 16 (λj=>if j=0 then((A%B:Nat):Int) else 0):=dM λj hj=>by
    by_cases h0:j=0
    ·subst h0;rw[zma rfl];unfold q;rw[zzd,z1c,zid,z0a hm]
    ·rw[zha h0];exact gQ (n:=1) hm u0
   rw[e2];rfl
  rw[e]
 refine ay K ?_;have a7:B<=A:=u0
 have S:=MI HBl a7 HAh;have HQ:=JB u0 S HBl HAh
 obtain⟨e,he⟩:∃ e,dw B=e+2:=⟨dw B-2,u0⟩
 obtain⟨m,hm⟩:∃ m,dw A=m:=⟨_,rfl⟩;rw[he] at HBh HBl S HQ a3 ⊢;rw[hm] at HAh S HQ aO ⊢;rw[show e+2-1=e+1 by omega] at HBl
 have hz:dg B (e+1)≠0:=λh0=>by
  have h:=lJ HBh;have:=(zfc<|zDa<|32*(e+1)).2<|show 1*2^(32*(e+1))<=B by omega
  omega
 obtain⟨L,hL,dp,a8⟩:=fQ hz;have bx:=gD B<|e+1;have a9:L+1<=32:=by
  rcases zua L 32 with h|h
  ·omega
  ·have:=zpa (show 0<2 by decide) h
   omega
 obtain⟨s,hs⟩:∃ s,s=32-(L+1):=⟨_,rfl⟩;have r:s<=31:=u0
 have f:=PW HBh a8 a9;rw[<-hs] at f;have hp:=zDa s;obtain⟨V,hV⟩:∃ V,V=B*2^s:=⟨_,rfl⟩;obtain⟨N,hN⟩:∃ N,N=A*2^s:=⟨_,rfl⟩;have ba:N/V=A/B:=by rw[hV,hN,Nat.mul_div_mul_right _ _ hp]
 have bh:N%V=A%B*2^s:=by rw[hV,hN,Nat.mul_mod_mul_right]
 have d8:0<V:=by simp_all
 rw[<-hV] at f;replace f:V<2^(32*(e+2)):=f;have bp:2^(32*(e+1))<=V:=by rw[hV];exact zva HBl<|zDc _ hp
 have d7:V<eM:=ym u0 f
 refine O (nF (b:=1) rfl u0 u0)<|O (fZ u0)<|O (bA _ u0) ?_
 rw[show e+2-1=e+1 by omega,tW B<|e+1]
 refine O (ab7 (n+1) bx) ?_;rw[hL,show(32-((L+1:Nat):Int))=(s:Nat) by omega]
 refine O (Xz (n+2) hB r)<|J (LM<|B*2^s)<|J (.int .u32 ((B*2^s/eM:Nat):Int)) ?_;refine O (Xz (n+2) d5 r)<|J (LM<|A*2^s)<|J (.int .u32 ((A*2^s/eM:Nat):Int)) ?_;rw[Ng d5 r,<-hV,<-hN];refine J (List.replicate 17<|D.int .u32 0)<|J ((List.range 16).map λi=>D.int .u32<|q N i)<|O (YU N)<|O (nF (b:=e+2) rfl u0 u0) ?_
 rw[jh];obtain⟨c,hc⟩:∃ c,c=m-(e+2):=⟨_,rfl⟩;rw[<-hc] at HQ ⊢;rw[<-ba] at HQ ⊢;refine aV (λt s'=>s'=[I<|(c:Int)-(t:Nat),LM<|N/V/2^(32*(c+1-t))*2^(32*(c+1-t)),cH 17<|q<|fB N V<|c+1-t]) (c+1) 0 (zoa _) ?_ (λt ht s' v=>?_)<|λs' v=>?_
 ·simp_all [Nat.sub_zero,Gf,HQ,zcb,zxd]
 ·subst v;left;obtain⟨j,hj⟩:∃ j,j=c-t:=⟨_,rfl⟩;rw[show c+1-t=j+1 by omega,show(c:Int)-(t:Nat)=(j:Nat) by omega,show c+1-(t+1)=j by omega,show(c:Int)-((t+1:Nat):Int)=(j:Int)-1 by omega]
  refine⟨[I<|(j:Int)-1,LM<|N/V/2^(32*j)*2^(32*j),cH 17<|q<|fB N V j],?_,rfl⟩;have db:j+e+2<=16:=u0
  have hU:=JG (N:=N) j d8 f;have bm:=Nz (N:=N) j d8;have b3:=Ny (N:=N) j d8;have right:=Eg (N:=N) j d8 f;have X:=λU1=>Eh (N:=N) (U1:=U1) j d8 f;generalize hUU:fB N V (j+1)=U at *;have d4:=Mu f bp bm;have hW:=Py (j:=j) (m:=e+2+1) (U:=U) (by rw[show j+(e+2+1)=j+(e+2)+1 by omega];exact hU)
  have g2:D.idx (I ((j+(e+2):Nat):Int)) 17=some (j+(e+2)):=ai u0
  have t1:=Wz U (j+e+2)<|j+e+1;have F1:=d4.one;have F2:=Ho V<|e+1;have v2:=gD V e;have u2:=gD U<|j+e;refine O fD<|O ac<|au (by show(j:Int) ≥ 0;omega) ?_
  refine O (av (a:=j) (b:=e+2) u0)<|O g2<|O (bA _ u0)<|O (pg U _)<|O (vn (m:=32) rfl H (by have:=gD U<|j+(e+2);omega)) ?_
  refine O (av (a:=j) (b:=e+2) u0)<|O (nF (b:=1) rfl u0 u0) ?_
  rw[show j+(e+2)-1=j+e+1 by omega,show j+(e+2)=j+e+2 by omega]
  refine O (ai u0)<|O (bA _ u0)<|O (pg U _)<|O (kH (m:=32) (gD _ _) u0) ?_
  refine O (nF (b:=1) rfl u0 u0)<|O (z:=e+1) (by rw[show e+2-1=e+1 by omega];exact ai u0)<|O (bA _ u0)<|O (pg V _) ?_
  have eT:dg U (j+e+2)*2^32+dg U (j+e+1)=dg U (j+e+2)*4294967296+dg U (j+e+1):=rfl;rw[eT];generalize hT:dg U (j+e+2)*4294967296+dg U (j+e+1)=T at *;generalize hF:dg V (e+1)=F at *;refine O (RY u0 u0)<|O (Of u0) ?_
  refine sK (λG s'=>∃ R,s'=[W (G:Nat),W (R:Nat),LM<|N/V/2^(32*(j+1))*2^(32*(j+1)),LM 0,LM V]/\G*F+R=T/\U/2^(32*j)/V<=G) (T/F) _ ⟨T%F,rfl,by rw[zVa];exact zxb T F,d4.start⟩<|λG s' v=>?_
  obtain⟨R,rfl,d0,b2⟩:=v;have dk:G<=G*F:=zDc _ u0
  have c3:G<=18446744073709551615:=u0
  have c5:R<=18446744073709551615:=u0
  have cond:∀ b:Bool,b=(decide (R<4294967296)&&(decide (4294967296<=G)||decide (R*4294967296+dg U (j+e)<G*dg V e)))->(b=true->1<=G/\U/2^(32*j)/V<=G-1)/\(b=false->G<4294967296/\G<=U/2^(32*j)/V+1):=λb hb=>by
   constructor
   ·intro bv;rw[bv] at hb;simp[Bool.true_eq,Y,zHb,zea] at hb;rcases hb.2 with h|h
    ·exact⟨u0,d4.step_big h⟩
    ·have:=d4.step d0 h;exact⟨this.2,this.1⟩
   ·intro bt;rw[bt] at hb;refine d4.done d0 ?_;all_goals grind
  have d3:∀ {β:Type} {g:Bool->Option β} {y:β},g (decide (R<4294967296)&&(decide (4294967296<=G)||decide (R*4294967296+dg U (j+e)<G*dg V e)))=some y->((afA .lss (W (R:Nat))<|D.int .u64 4294967296).bind λb9=>
    (D.truth b9).bind λa5=>
    Option.bind (if a5 then((afA .geq (W (G:Nat))<|D.int .u64 4294967296).bind λcd=>
    (D.truth cd).bind λa6=>
    if a6 then(some true) else((afA .sub (I ((e+2:Nat):Int))<|D.int .i64 2).bind λcf=>
    (D.idx cf 16).bind λb7=>
    (D.get (LM V) [b7]).bind λch=>
    (D.conv .u64 ch).bind λcm=>
    (afA .mul (W (G:Nat)) cm).bind λcs=>
    (afA .shl (W (R:Nat))<|D.int .u64 32).bind λcv=>
    (afA .add (I (j:Nat))<|I ((e+2:Nat):Int)).bind λcx=>
    (afA .sub cx<|D.int .i64 2).bind λcy=>
    (D.idx cy 17).bind λb8=>
    (D.get (cH 17<|q U) [b8]).bind λcI=>
    (D.conv .u64 cI).bind λcS=>
    (afA .or cv cS).bind λc0=>
    (afA .gtr cs c0).bind λc2=>
    D.truth c2)) else(some false)) g)=some y:=λ{β g y} hg=>by
   refine O (RU (b:=4294967296) rfl)<|O ac<|O ?_ hg;by_cases K:R<4294967296
   ·rw[zka K,zma rfl,zPb];refine O (YW (b:=4294967296) rfl)<|O ac ?_;by_cases h2:4294967296<=G
    ·rw[zka h2,zma rfl,Bool.true_or]
    ·rw[zfa h2,zha H,Bool.false_or]
     have dq:G*dg V e<=4294967295*4294967295:=zHa u0 u0
     refine O (nF (b:=2) rfl u0 u0)<|O (z:=e) (ai u0)<|O (bA _ u0)<|O (pg V e)<|O (Oe u0)<|O (vn (m:=32) rfl H u0) ?_
     refine O (av (a:=j) (b:=e+2) u0)<|O (nF (b:=2) rfl u0 u0)<|O (z:=j+e) (by rw[show j+(e+2)-2=j+e by omega];exact ai u0)<|O (bA _ u0)<|O (pg U<|j+e)<|O (kH (m:=32) u2 u0)<|O YX ?_
     rfl
   ·rw[zfa K,zha H,Bool.false_and]
  obtain⟨bb,E⟩:∃ bb,bb=(decide (R<4294967296)&&(decide (4294967296<=G)||decide (R*4294967296+dg U (j+e)<G*dg V e))):=⟨_,rfl⟩;obtain⟨k1,k2⟩:=cond bb E;rw[<-E] at d3;cases bb with
  | true=>
   left;obtain⟨d1,d2⟩:=k1 rfl;have c4:R<4294967296:=by have:=E.symm;simp[Y,zea] at this;exact this.1
   refine⟨G-1,[W ((G-1:Nat):Int),W ((R+F:Nat):Int),LM<|N/V/2^(32*(j+1))*2^(32*(j+1)),LM 0,LM V],u0,?_,R+F,rfl,Fw d0 d1,d2⟩
   refine d3<|O ac ?_;rw[zma rfl];exact O (Og (b:=1) u0 u0) (O (Oc u0) rfl)
  | false=>
   right;obtain⟨d1,d2⟩:=k2 rfl;refine⟨(0,[W (G:Nat),LM<|N/V/2^(32*(j+1))*2^(32*(j+1)),LM 0,LM V]),?_,?_⟩
   ·refine d3<|O ac ?_;rw[zha H];rfl
   clear d3 cond k1 k2 E;have hD:G<=4294967295:=u0
   have bs:=Ay f hD;obtain⟨Z,hZ⟩:∃ Z,Z=oC (U/2^(32*j)) (V*G) (e+2+1):=⟨_,rfl⟩;have an:Z<2^(32*(e+2+1)):=by rw[hZ];exact Oi _ _ _
   have b4:=b3;have fin:∀ {y:Sum (List D)<|Nat×List D} {d:Nat} {u:D} {g:Nat×List D->Option (Sum (List D)<|Nat×List D)},d=dg (N/V) j->u=cH 17 (q<|fB N V j)->g (0,[W (d:Nat),u])=some y->g (0,[W ((dg (N/V) j:Nat):Int),cH 17<|q<|fB N V j])=some y:=λK h2 h3=>by rw[<-K,<-h2];exact h3
   refine O (z:=(0,[W ((dg (N/V) j:Nat):Int),cH 17<|q<|fB N V j])) ?_ ?_
   ·refine c8 (λi s'=>s'=[W (jr V G i:Nat),W (cr (U/2^(32*j)) (V*G) i:Nat),I (i:Nat),LM<|N/V/2^(32*(j+1))*2^(32*(j+1)),LM 0,LM V,cH 17<|yR U Z j i]) (e+2) 0 (zoa _) (by rw[zY,rR,Av];rfl) (λi hi s' v=>?_)<|λs' v=>?_
    ·subst v;left;refine⟨_,?_,rfl⟩;have o:i<16:=u0
     have l:j+i<17:=u0
     obtain⟨m1,m2⟩:=EC (V:=V) (i:=i) hD;obtain⟨q1,q2⟩:=ED (U:=U) (j:=j) (k:=i) u0 f hD
     have s1:=DI V G i;have s2:=zX V G i;rw[tW V i] at s1 s2;have ec:((jr V G i:Nat):Int)+(dg V i:Nat)*(G:Int)=((jr V G i+G*dg V i:Nat):Int):=by rw[zjd,z1a,zNc (G:Int)]
     rw[ec] at s1 s2;refine O ag<|O ac<|au (by show(i:Int)<((e+2:Nat):Int);omega) ?_
     refine O (fZ o)<|O (bA _ o)<|O (pg V i)<|O (Oe u0)<|O (Oc u0) ?_
     refine O (av (a:=j) (b:=i) u0)<|O (ai l)<|O (bA _ l) ?_
     rw[oU];refine O (fS U<|j+i)<|O (jM _) ?_;rw[<-s1];refine O (fS (V*G) i)<|O (yu _ _)<|O (yu _ _)<|O (av (a:=j) (b:=i) u0)<|O (jM _)<|O (ai l) ?_
     rw[q2,<-hZ];refine O (oV U Z j i 17 l)<|O Ci ?_;rw[q1];refine O (yt u0) ?_
     rw[<-s2];exact O (az<|aB (i:=i) u0) rfl
    ·subst v;refine⟨_,O ag (O ac<|ay (by show ¬ (((e+2:Nat):Int)<((e+2:Nat):Int));omega) rfl),?_⟩
     have p:j+(e+2)<17:=u0
     obtain⟨q1,q2⟩:=ED (U:=U) (j:=j) (k:=e+2) (zja _) f hD;rw[<-NV f hD] at q1 q2;refine O (av (a:=j) (b:=e+2) u0)<|O (ai p)<|O (bA _ p) ?_
     rw[oU];refine O (fS U<|j+(e+2))<|O (yu _ _)<|O (yu _ _)<|O (av (a:=j) (b:=e+2) u0)<|O (jM _)<|O (ai p) ?_
     rw[q2,<-hZ];refine O (oV U Z j (e+2) 17 p)<|O Ci ?_;rw[q1,Au (m:=e+2+1) (by rw[show j+(e+2+1)=j+(e+2)+1 by omega];exact hU) an,CC hW bs]
     have a2:V*(U/2^(32*j)/V)<=U/2^(32*j):=Nat.mul_div_le _ _;have w:U/2^(32*j)<V*(U/2^(32*j)/V+1):=Nat.lt_mul_div_succ _ d8;rw[b4] at a2 w b2 d2;by_cases hDq:G=dg (N/V) j
     ·subst hDq;rw[zha u0]
      refine O (z:=false) (by rfl) ?_
      rw[zha H,hZ,right]
      rfl
     ·have M:G=dg (N/V) j+1:=u0
      rw[zma (by rw[M];exact w)]
      refine O (z:=true) (by rfl) ?_
      rw[zma rfl];refine O (Og (b:=1) u0 u0) ?_
      have b6:=X (gf U Z j) (by rw[hZ,M])
      have bl:gf U Z j<2^(32*(j+(e+2+1))):=DW an;generalize gf U Z j=U1 at *;obtain⟨Z2,d6⟩:∃ Z2,Z2=(U1/2^(32*j)+V)%2^(32*(e+2+1)):=⟨_,rfl⟩;have al:Z2<2^(32*(e+2+1)):=by rw[d6];exact zWa _<|zDa _
      have C:∀ i,i<e+2+1->q Z2 i=((gr (U1/2^(32*j)) V i:Nat)+(q U1 (j+i)+q V i))%4294967296:=λi hi=>by rw[d6,mE,zma hi,Hp,mD]
      refine c8 (λi s'=>s'=[W (gr (U1/2^(32*j)) V i:Nat),I (i:Nat),LM<|N/V/2^(32*(j+1))*2^(32*(j+1)),LM 0,LM V,cH 17<|yR U1 Z2 j i]) (e+2) 0 (zoa _) (by rw[uP,Av];rfl) (λi hi s' v=>?_)<|λs' v=>?_
      ·subst v;left;refine⟨_,?_,rfl⟩;have o:i<16:=u0
       have l:j+i<17:=u0
       have c1:=oF (U1/2^(32*j)) V i;have a0:=cV U1<|j+i;have a1:=wV U1<|j+i;have b0:=cV V i;have b1:=wV V i;have aI:=uO (U1/2^(32*j)) V i;rw[mD] at aI;refine O ag<|O ac<|au (by show(i:Int)<((e+2:Nat):Int);omega) ?_
       refine O (av (a:=j) (b:=i) u0)<|O (ai l)<|O (bA _ l) ?_
       rw[oU];refine O (fS U1<|j+i)<|O (fZ o)<|O (bA _ o)<|O (fS V i)<|O (yr u0 u0)<|O (yr u0 u0)<|O (av (a:=j) (b:=i) u0)<|O (jM _)<|O (ai l) ?_
       rw[<-C i u0]
       refine O (oV U1 Z2 j i 17 l)<|O (yt u0) ?_
       rw[<-aI];exact O (az<|aB (i:=i) u0) rfl
      ·subst v;refine⟨_,O ag (O ac<|ay (by show ¬ (((e+2:Nat):Int)<((e+2:Nat):Int));omega) rfl),?_⟩
       have c1:=oF (U1/2^(32*j)) V<|e+2;have a4:=C (e+2) u0
       rw[gQ f<|zja _,Int.add_zero] at a4;refine O (av (a:=j) (b:=e+2) u0)<|O (ai p)<|O (bA _ p) ?_
       rw[oU];refine O (jM _) ?_;have ap:afA .add (.int .u32<|q U1<|j+(e+2)) (.int .u32<|((gr (U1/2^(32*j)) V (e+2):Nat):Int)%4294967296)=some (.int .u32<|q Z2<|e+2):=by simp only[afA,if_true];have hw:∀ x:Int,IntKind.u32.wrap x=x%4294967296:=λx=>rfl;rw[hw,a4];congr 2;omega
       refine O ap<|O (ai p)<|O (oV U1 Z2 j (e+2) 17 p) ?_;rw[Au (m:=e+2+1) bl al,d6,b6];rw[show G-1=dg (N/V) j by omega]
   ·have b5:=gD (N/V) j;refine O (Ch _)<|O (ai<|show j<16 by omega) ?_
    rw[z0a b5];exact O (GT u0)<|O (bP (by simp[inR];omega)) rfl
 ·subst v;refine⟨(0,[LM<|N/V,cH 17<|q<|N%V]),?_,?_⟩
  ·rw[show c+1-(c+1)=0 by omega,JH,zzd,z1c,zid,Nat.mul_one]
   exact O fD<|O ac<|ay (by show ¬ ((c:Int)-((c+1:Nat):Int)) ≥ 0;omega) rfl
  ·have bj:N%V<eM:=znc (zWa _ d8) d7;have bz:D.st (List.take 16<|List.drop 0<|(List.range 17).map λi=>D.int .u32<|q (N%V) i)=LM (N%V):=by
    rw[yp _ u0]
    exact dM λj _=>by rw[zbb]
   show(if decide (0+16<=((List.range 17).map λi=>D.int .u32<|q (N%V) i).length)=true then _ else none)=_
   rw[zma j2,bz]
   refine O (ab8 (n+2) bj r) ?_;rw[bh,Nat.mul_div_cancel _ hp];rfl
end
section
variable{X:Nat}{y:Int}
def J4{m:Nat}(hm:m<18446744073709551616):D.st (afN (List.replicate 16<|D.int .u32 0) [(0,.int .u32<|(m:Int)%4294967296),(1,.int .u32<|(m:Int)/4294967296%4294967296)])=LM m:=by
 have e:LM m=cH 16 (λj=>if j=0 then(m:Int)%4294967296 else if j=1 then(m:Int)/4294967296%4294967296 else 0):=dM λj a=>by
  match j with
  | 0=>simp[q]
  | 1=>simp[q]
  | j+2=>
   rw[zha u0,zha u0]
   exact gQ (n:=2) (by simpa using hm) u0
 rw[e];rfl
def Ck(h:X<18446744073709551616):dg X 1*4294967296+dg X 0=X:=by unfold dg;omega
def iM(b:D)(c:D){i:Nat}(h:i<16):D.get (.st [b,c,LM X]) [2,i]=some (.int .u32<|q X i):=J (LM X)<|bA _ h
def G9(n:Nat){m:Nat}(h:m<eM):cA (n+1) 116 [.bool false,LM m]=some (M (m:Int)):=by
 rw[wE n false h];have:sgn false m=(m:Int):=zha H
 rw[this]
def Xx(n:Nat){x:Int}(hx:In x):cA (n+3) 171 [M x]=some (M (x.natAbs:Nat)):=by
 refine fN S5 ?_
 delta S5 Q S C qn
 have b:=pX n (a:=some x)<|bi hx;refine O b<|O aD<|J false ?_;rw[zha H]
 have c:D.get (M x) [2]=some (LM x.natAbs):=by rw[cg];rfl
 exact O c<|O (G9 (n+1)<|aE.1 hx) rfl
def JZ:18446744073709551616<=eM:=by
 have h:=rB (a:=2) (b:=16) H
 simp_all [AB,gZ]
def FT(b:X<eM):dw X<=2↔X<18446744073709551616:=by
 have a:=fK b;constructor
 ·intro h;exact zeb a<|zva (zpa H<|show 32*dw X<=64 by omega) H
 ·intro h;rcases zua 2 (dw X) with k|k
  ·have:=rj (X:=X) u0
   have c:2^64<=2^(32*(dw X-1)):=zpa H u0
   omega
  ·exact k
def iI{m:Nat}:In (m:Int)↔m<eM:=by rw[aE,zia]
theorem xl(n:Nat){x y:Int}(hx:In x)(p:In y)(ih:y≠0->cA (n+4) 131 [M (y.natAbs:Nat),M ((x.natAbs%y.natAbs:Nat):Int)]=some (M (Nat.gcd y.natAbs (x.natAbs%y.natAbs):Nat))) :
  cA (n+5) 131 [M x,M y]=some (M (Nat.gcd x.natAbs y.natAbs:Nat)):=by
 refine eN SG ?_
 delta SG Q P qC iL iR J2 S nq qA qh C qn qp qt qw qy
 have d:=wF (n+2) (bi hx)<|bi p;refine O d<|O aD<|O ac ?_;rw[zha j2]
 have c:=aE.1 hx;have b:=aE.1 p;rw[cg x,cg y];have l:y=0↔y.natAbs=0:=u0
 rw[Ne,l] at ih;generalize hX:x.natAbs=X at *;generalize hY:y.natAbs=Y at *;refine J (LM X)<|O (CD (n+3) c)<|O gC<|O ac ?_;refine O (z:=decide (X<18446744073709551616)&&decide (Y<18446744073709551616)) ?_<|O ac ?_
 ·by_cases h:X<18446744073709551616
  ·refine au (by have:=(FT c).2 h;omega) ?_
   refine J (LM Y)<|O (CD (n+3) b)<|O gC ?_;rw[zka h,zPb,ac];congr 1;rw[decide_eq_decide,<-FT b];omega
  ·refine ay (by intro k;exact h<|(FT c).1 u0) ?_
   grind
 by_cases hs:X<18446744073709551616/\Y<18446744073709551616
 ·rw[zka hs.1,zka hs.2,Bool.and_self,zma rfl];have q:=gD X 1;have g:=gD X 0;have r:=gD Y 1;have i:=gD Y 0;refine O (iM _ _ H)<|O (pg X 1)<|O (vn (m:=32) rfl H u0)<|O (iM _ _ H)<|O (pg X 0)<|O (kH (m:=32) g u0) ?_
  refine O (iM _ _ H)<|O (pg Y 1)<|O (vn (m:=32) rfl H u0)<|O (iM _ _ H)<|O (pg Y 0)<|O (kH (m:=32) i u0) ?_
  have ex:=Ck hs.1;have t:=Ck hs.2;rw[ex,t];refine sK (λm s=>∃ a,s=[W (a:Nat),W (m:Nat)]/\a<18446744073709551616/\m<18446744073709551616/\Nat.gcd a m=Nat.gcd X Y) Y _ ⟨X,rfl,hs.1,hs.2,rfl⟩<|λm s u=>?_;obtain⟨a,rfl,o,hm,j⟩:=u;have f:D.beq (W (m:Nat)) (.int .u64 0)=decide (m=0):=by simp only[D.beq,decide_true,zPb];rw[decide_eq_decide];omega
  by_cases h0:m=0
  ·right;subst h0;refine⟨(0,[W (a:Nat)]),?_,?_⟩
   ·refine O (z:=false) (by show D.truth (.bool<|!(D.beq (W ((0:Nat):Int))<|.int .u64 0))=_;rw[f];rfl) ?_
    rw[zha H];rfl
   ·rw[Nat.gcd_zero_right] at j;refine O (jM _)<|O (yt (by show(0:Int)<=(a:Nat);omega))<|O (jM _) ?_
    have e:=J4 o;refine O (z:=M (a:Int)) ?_ (by rw[<-j])
    rw[e];exact G9 (n+3)<|zeb o JZ
  ·left;refine⟨a%m,[W (m:Nat),W ((a%m:Nat):Int)],zWa _ u0,?_,m,rfl,hm,znc (zWa _ u0) hm,by rw[<-j,zoc a m,Nat.gcd_rec m a,zoc]⟩
   refine O (z:=true) (by show D.truth (.bool<|!(D.beq (W (m:Nat))<|.int .u64 0))=_;rw[f,zfa h0];rfl) ?_
   rw[zma rfl];exact O (Of h0) rfl
 ·have:(decide (X<18446744073709551616)&&decide (Y<18446744073709551616))=false:=by
   rw[Bool.and_eq_false_iff,decide_eq_false_iff_not,decide_eq_false_iff_not];omega
  rw[this,zha H]
  refine J (LM X)<|J (LM Y) ?_;rw[ja,ln b iS];by_cases h0:Y=0
  ·rw[zka h0];refine J false ?_;rw[zha H,h0,Nat.gcd_zero_right]
   have:=Xx (n+1) hx;rw[cg x,hX] at this;exact O this rfl
  ·rw[zfa h0];refine J true ?_;rw[zma rfl];have v:X%Y<Y:=zWa _ u0
   refine O (UQ n c b u0)<|J (LM<|X/Y)<|J (LM<|X%Y)<|O (G9 (n+3) b)<|O (G9 (n+3)<|znc v b)<|O (ih h0) ?_
   rw[zoc X Y,Nat.gcd_rec Y X,zoc (X%Y) Y]
theorem Dg:∀ (d n:Nat) {x y:Int},In x->In y->y.natAbs<2^d->cA (n+2*d+5) 131 [M x,M y]=some (M (Nat.gcd x.natAbs y.natAbs:Nat))
 | 0,n,x,y,hx,b,h=>xl n hx b λh0=>z8a u0 h0
 | d+1,n,x,y,hx,b,h=>by
  rw[show n+2*(d+1)+5=n+2*d+2+5 by omega]
  refine xl _ hx b λh0=>?_;have a:=aE.1 b;have c:x.natAbs%y.natAbs<y.natAbs:=zWa _ u0
  have e1:=xl (n+2*d+1) (x:=(y.natAbs:Nat)) (y:=((x.natAbs%y.natAbs:Nat):Int)) (iI.2 a) (iI.2<|znc c a) (λg=>by
   simp[zia];have e:y.natAbs%(x.natAbs%y.natAbs)<x.natAbs%y.natAbs:=zWa _ u0
   have f:y.natAbs%(x.natAbs%y.natAbs)<2^d:=by
    generalize x.natAbs%y.natAbs=r at *;rw[z2b] at h;rcases zua r (2^d) with k|k
    ·omega
    ·have:y.natAbs%r=y.natAbs-r:=by
      rw[Nat.mod_eq_sub_mod u0,z0a u0]
     omega
   have:=Dg d n (x:=((x.natAbs%y.natAbs:Nat):Int)) (y:=((y.natAbs%(x.natAbs%y.natAbs):Nat):Int)) (iI.2<|znc c a) (iI.2<|znc (znc e c) a) (by rw[zia];exact f)
   simp[zia] at this;exact this)
  grind
def xC{m k:Nat}(h:k=32*16):m<eM↔m<2^k:=by
 have e:pO 16=2^k:=by rw[dW,h]
 rw[gZ,e]
def Ye(k n:Nat)(b:k=32*16){x:Int}(hx:In x)(a:In y):cA (n+2*k+5) 131 [M x,M y]=some (M (Nat.gcd x.natAbs y.natAbs:Nat)):=
 Dg k n hx a ((xC b).1<|aE.1 a)
def wH(n:Nat){x:Int}(hx:In x)(a:In y):cA (n+1029) 131 [M x,M y]=some (M (Nat.gcd x.natAbs y.natAbs:Nat)):=
 Ye 512 n rfl hx a
def IJ(n:Nat){x:Int}(hx:In x):cA (n+3) 217 [M x]=some (I (jk x.natAbs:Nat)):=by
 refine fN KE ?_
 delta KE Q P qN Jn J0 J1 bq qO qi C
 have c:=pX n<|bi hx;have d:=aE.1 hx;rw[show fU (some x)=_ from cg x] at c;rw[cg x];have i:=lP x.natAbs;have f:=fK d;refine J (LM x.natAbs)<|O (CD (n+1) d)<|O c<|O aD<|J false<|O (z:=decide (dw x.natAbs=0)) (by rw[zha H];show D.truth (.bool<|D.beq (I (dw x.natAbs:Nat))<|I ((0:Nat):Int))=_;rw[dP];rfl)<|O ac ?_
 by_cases h0:dw x.natAbs=0
 ·refine au h0 ?_;rw[h0] at f;have:x.natAbs=0:=by simpa using f
  rw[this];rfl
 ·refine ay h0 ?_;have hl:=rj h0;generalize dw x.natAbs=p at *;generalize x.natAbs=X at *;have k:=lJ (by rw[show p-1+1=p by omega];exact f)
  have e:=gD X<|p-1;have j:jk (dg X<|p-1)<=32:=by
   by_cases hz:dg X (p-1)=0
   ·rw[hz];decide
   ·obtain⟨L,l,o,_⟩:=fQ hz;rcases zua L 32 with h|h
    ·omega
    ·have:=zpa (show 0<2 by decide) h
     omega
  have g:=wC (x:=X) (m:=32*(p-1)) hl;rw[k] at g;refine O (nF (b:=1) rfl u0 u0)<|O (pT (a:=32) u0)<|O (nF (b:=1) rfl u0 u0)<|O (fZ u0)<|O (iM _ _ u0)<|O (Xw (x:=dg X<|p-1) (n+1) e)<|O (av (a:=32*(p-1)) (b:=jk<|dg X<|p-1) u0) ?_
  rw[g]
def OV(X:Nat):64<jk X↔18446744073709551616<=X:=by
 by_cases h0:X=0
 ·simp_all [jk]
 ·obtain⟨L,a,b,c⟩:=fQ h0;rw[a];constructor
  ·intro h;have:=zpa (show 0<2 by decide)<|show 64<=L by omega
   omega
  ·intro h;rcases zua 64 (L+1) with k|k
   ·exact k
   ·have:=zpa (show 0<2 by decide) k
    omega
theorem wI(n:Nat){x:Int}(hx:In x):(inR x/\cA (n+4) 202 [M x]=some (.tup [I x,.bool true]))\/(¬ inR x/\cA (n+4) 202 [M x]=some (.tup [I 0,.bool false])):=by
 rw[adm]
 delta KC Q P qT qN Jn J0 S bT qA qO qh C qw
 have d:=pX (n+1)<|bi hx;have f:=IJ n hx;have u:=aE.1 hx;have first:∀ {y:D} {g:Bool->Option D},g (decide (18446744073709551616<=x.natAbs))=some y->((cA (n+3) 118 [.sl [M x]]).bind λr1=>(afP .not r1).bind λA=>(D.truth A).bind λl=>Option.bind (if l then(some true) else((cA (n+3) 217 [M x]).bind λw=>(afA .gtr w<|D.int .i64 64).bind λB=>D.truth B)) λo=>(D.truth<|D.bool o).bind g)=some y:=λ{y g} s=>by
  refine O d<|O aD<|J false<|O (z:=decide (18446744073709551616<=x.natAbs)) ?_<|O ac s;rw[zha H]
  refine O f<|O bR ?_;rw[ac];congr 1;rw[decide_eq_decide,<-OV];omega
 by_cases hbig:18446744073709551616<=x.natAbs
 ·right;refine⟨by simp[inR];omega,first ?_⟩
  simp_all
 ·have r:x.natAbs<18446744073709551616:=u0
  have w1:∀ z:Int,IntKind.u64.wrap z=z%18446744073709551616:=λz=>rfl;have i:∀ (a b:Nat) {c:D},c=.int .u64 (b:Nat)->afA .leq (W (a:Nat)) c=some (.bool<|decide (a<=b)):=λa b c E=>by simp_all [afA,decide_eq_decide]
  have q:=gD x.natAbs 1;have k:=gD x.natAbs 0;have ex:=Ck r;have p:∀ z:Int,inR z->∀ a:Int,(a-z)%18446744073709551616=0->D.conv .i64 (W a)=some (I z):=λz v a h=>by
   obtain⟨G,e⟩:=v;simp[D.conv]
   have F:IntKind.i64.wrap a=(if(true&&decide (a%18446744073709551616 ≥ 9223372036854775808))=true then a%18446744073709551616-18446744073709551616 else a%18446744073709551616):=rfl
   grind
  have go:∀ y:D,(if x<0 then(if x.natAbs<=9223372036854775808 then y=.tup [I x,.bool true] else y=.tup [I 0,.bool false]) else(if x.natAbs<9223372036854775808 then y=.tup [I x,.bool true] else y=.tup [I 0,.bool false]))->KC cB (cA<|n+3) (M x)=some y:=λy j=>by
   delta KC Q P qT qN Jn J0 S bT qA qO qh C qw
   refine first ?_
   rw[zfa hbig,zha H,cg x]
   refine O (iM _ _ H)<|O (pg x.natAbs 1)<|O (vn (m:=32) rfl H u0)<|O (iM _ _ H)<|O (pg x.natAbs 0)<|O (kH (m:=32) k u0) ?_
   rw[ex];refine J (.bool<|decide (x<0))<|O ac ?_;refine O (z:=decide (x<0)&&decide (x.natAbs<=9223372036854775808)) ?_<|O ac ?_
   ·by_cases h:x<0
    ·refine au h<|O (i _ 9223372036854775808 rfl) ?_;rw[ac,zka h,zPb]
    ·grind
   by_cases h:x<0
   ·rw[zma h] at j;rw[zka h,zPb];by_cases e:x.natAbs<=9223372036854775808
    ·rw[zma e] at j;refine au e ?_;have t:afP .neg (W (x.natAbs:Nat))=some (W<|IntKind.u64.wrap<|0-(x.natAbs:Nat)):=by simp[afP]
     refine O t<|O (p x (by simp[inR];omega) _ (by rw[w1];omega)) ?_
     rw[j]
    ·rw[zha e] at j;refine ay e<|O (z:=.bool true) (by rfl)<|J (.bool false)<|J false<|J false<|J false ?_
     simp_all
   ·rw[zha h] at j;rw[zfa h,Bool.false_and,zha H]
    refine O (z:=.bool false) (by rfl)<|J (.bool true)<|J true<|O (z:=decide (x.natAbs<9223372036854775808)) ?_<|O ac ?_
    ·rw[zma rfl];exact O (RU (b:=9223372036854775808) rfl) ac
    all_goals grind [inR]
  by_cases hr:inR x
  ·left;refine⟨hr,go _ ?_⟩;simp[inR] at hr;all_goals grind
  ·right;refine⟨hr,go _ ?_⟩;simp[inR] at hr;all_goals grind
end
section
variable{q y:Int}
theorem Qr{x:Int}(a:y≠0)(h:x=y*q):sgn (!(decide (decide (x<0)=decide (y<0)))) (x.natAbs/y.natAbs)=q:=by
 have e:x.natAbs/y.natAbs=q.natAbs:=by rw[h,zwa,Nat.mul_div_cancel_left _ u0]
 rw[e];have key:q=0\/(q<0/\(x<0↔¬ y<0))\/(0<q/\(x<0↔y<0)):=by
  rcases zKb q 0 with hq|hq|hq
  ·right;left;refine⟨hq,?_⟩;rcases Int.lt_or_gt_of_ne a with k|k
   ·have:=zZb k hq;omega
   ·have:=zCb k hq;omega
  ·omega
  ·right;right;refine⟨hq,?_⟩;rcases Int.lt_or_gt_of_ne a with k|k
   ·have:=Int.mul_neg_of_neg_of_pos k hq;omega
   ·have:=zub k hq;omega
 grind [sgn]
def dD(x:Int):D.get (M x) [1]=some (.bool<|decide (x<0)):=rfl
def jP(x:Int):D.get (M x) [2]=some (LM x.natAbs):=by rw[cg];rfl
theorem NJ{x:Int}(h:x≠0):sg x≠0:=by grind [sg]
def Uz{x:Int}(hx:In x)(h:y ∣ x):In (x/y):=by
 obtain⟨q,rfl⟩:=h;rw[aE] at *;by_cases hy:y=0
 ·simp_all
 ·rw[zZa _ hy];rw[zwa] at hx;exact zLa (zjb _ u0) hx
theorem ab1(n:Nat){x:Int}(hx:In x)(r:In y)(e:y≠0)(G:y ∣ x):cA (n+5) 172 [M x,M y]=some (.tup [M<|x/y,M 0]):=by
 have w:=Uz hx G;obtain⟨q,hq⟩:=G;have s:x/y=q:=by simp_all
 rw[s] at w ⊢;refine eN Kz ?_
 delta Kz Q P qT qN Jn J0 J1 S bq nq qA qO qb C qp
 have l:=wF (n+2) (a:=some x) (b:=some y) (bi hx)<|bi r;have c:∀ a b:Int,D.beq (I a) (.int .i64 b)=decide (a=b):=λa b=>cc;refine O l<|O aD<|J false<|O (z:=false) ?_<|J false ?_
 ·rw[zha H]
  refine O (ls (n+1) r) ?_;rw[c,zfa<|NJ e];rfl
 rw[zha H]
 by_cases fast:(inR x/\x≠-9223372036854775808)/\inR y/\y≠-9223372036854775808
 ·obtain⟨⟨t,d⟩,u,g⟩:=fast;have i:cA (n+4) 202 [M x]=some (.tup [I x,.bool true]):=by
   rcases wI n hx with⟨_,h⟩|⟨h,_⟩
   ·exact h
   ·simp_all
  have j:cA (n+4) 202 [M y]=some (.tup [I y,.bool true]):=by
   rcases wI n r with⟨_,h⟩|⟨h,_⟩
   ·exact h
   ·simp_all
  have F:q.natAbs<=x.natAbs:=by rw[hq,zwa];exact zjb _ u0
  have o:inR q:=by grind [inR]
  have e1:x.tdiv y=q:=by simp_all
  have e2:x.tmod y=0:=by simp_all
  refine O (z:=(0,[M q,M 0])) ?_ rfl;refine O i<|J (I x)<|J (.bool true)<|J true<|O (z:=true) ?_<|J true ?_
  ·rw[zma rfl,c,zfa d];rfl
  rw[zma rfl];refine O j<|J (I y)<|J (.bool true)<|J true<|O (z:=true) ?_<|J true ?_
  ·rw[zma rfl,c,zfa g];rfl
  rw[zma rfl];refine O (uN e (by rw[e1];exact o))<|O (rP e) ?_
  rw[e1,e2];refine O (z:=(0,[I q,I 0])) (J false<|J false<|J false rfl) ?_;exact O (oE (n+2) o)<|O (oE (n+2)<|show inR 0 from⟨H,H⟩) rfl
 ·refine O (z:=(1,[.st [.bool false,.bool false,aw aY],.st [.bool false,.bool false,aw aY]])) ?_ ?_
  ·rcases wI n hx with⟨t,h⟩|⟨t,h⟩
   ·by_cases d:x=-9223372036854775808
    ·refine O h<|J (I x)<|J (.bool true)<|J true<|O (z:=false) ?_<|J false rfl;rw[zma rfl,c,zka d];rfl
    ·refine O h<|J (I x)<|J (.bool true)<|J true<|O (z:=true) ?_<|J true ?_
     ·rw[zma rfl,c,zfa d];rfl
     rw[zma rfl];rcases wI n r with⟨u,v⟩|⟨u,v⟩
     ·have g:=Classical.byContradiction λk=>fast ⟨⟨t,d⟩,u,k⟩;refine O v<|J (I y)<|J (.bool true)<|J true<|O (z:=false) ?_<|J false rfl;rw[zma rfl,c,zka g];rfl
     ·exact O v<|J (I 0)<|J (.bool false)<|J false<|J false<|J false rfl
   ·exact O h<|J (I 0)<|J (.bool false)<|J false<|J false<|J false rfl
  rw[zha H]
  have p:=aE.1 hx;have B:=aE.1 r;have m:x.natAbs%y.natAbs=0:=by simp_all [zwa]
  have A:x.natAbs/y.natAbs<eM:=zLa (zgc _ _) p;have f:=UQ n p B u0
  rw[m] at f;refine O (jP x)<|O (jP y)<|O f<|J (LM<|x.natAbs/y.natAbs)<|J (LM 0)<|O (dD x)<|O (dD y) ?_;have E:(!(D.beq (.bool<|decide (x<0))<|.bool<|decide (y<0)))=!(decide (decide (x<0)=decide (y<0))):=by simp_all [D.beq]
  rw[E,ja,ln iS iS,zka rfl];refine O (wE (n+3) _ A) ?_;rw[Qr e hq];refine O (z:=(0,[LM 0,M q])) (J false<|J false<|J false rfl) ?_;refine O (dD y)<|O (wE (n+3) _ iS) ?_
  simp_all [sgn]
def vw(n:Nat){x:Int}(hx:In x)(c:In y)(a:y≠0)(b:y ∣ x):cA (n+6) 132 [M x,M y]=some (M<|x/y):=by refine eN Kw ?_;unfold Kw;exact O (ab1 n hx c a b)<|J (M<|x/y)<|J (M 0) rfl
def B(q:Rat):D:=.st [M q.num,M (q.den:Int)]
def InR(q:Rat):Prop:=In q.num/\In (q.den:Int)
def IH(n:Nat){x:Int}(hx:In x):cA (n+2) 128 [M x]=some (.bool true):=by
 refine fN EV ?_
 delta EV Q qN qe C
 have h:=O3 n (a:=some x)<|bi hx;refine J (.bool false)<|J (.bool true)<|J true<|O (z:=true) ?_ rfl;rw[zma rfl];exact O h rfl
def H1(n:Nat){x:Int}(hx:In x):cA (n+3) 68 [M x]=some (M<|-x):=WR n (a:=some x)<|bi hx
theorem jO(x:Int){d:Int}(b:d≠0):(Rat.divInt x d).num=x/(if d<0 then -(Nat.gcd x.natAbs d.natAbs:Int) else(Nat.gcd x.natAbs d.natAbs:Int))/\((Rat.divInt x d).den:Int)=d/(if d<0 then -(Nat.gcd x.natAbs d.natAbs:Int) else(Nat.gcd x.natAbs d.natAbs:Int)):=by
 have c:d.gcd x=Nat.gcd x.natAbs d.natAbs:=by unfold Int.gcd;exact zoc ..
 have e:0<Nat.gcd x.natAbs d.natAbs:=z2c _ u0
 have a:((Nat.gcd x.natAbs d.natAbs:Nat):Int) ∣ x:=zgb.2<|zhb _ _;have dd:((Nat.gcd x.natAbs d.natAbs:Nat):Int) ∣ d:=zgb.2<|znb _ _;rw[Rat.num_divInt,Rat.den_divInt,zha b,c];generalize Nat.gcd x.natAbs d.natAbs=g at *;by_cases h:d<0
 ·rw[zma h,Int.sign_eq_neg_one_of_neg h];refine⟨?_,?_⟩
  ·rw[Int.ediv_neg,show -1*x=-x by omega,z0c a]
  ·rw[Int.ediv_neg,Int.natCast_ediv,<-z0c dd];grind
 ·grind
theorem Lz(n:Nat){x d:Int}(hx:In x)(e:In d)(f:d≠0):cA (n+1030) 62 [M x,M d]=some (B<|Rat.divInt x d):=by
 rw[u62]
 delta W2 qN J0 bq qO qb qc C qo qz
 have o:∀ a b:Int,D.beq (I a) (.int .i64 b)=decide (a=b):=λa b=>cc;have q:0<Nat.gcd x.natAbs d.natAbs:=z2c _ u0
 have p:((Nat.gcd x.natAbs d.natAbs:Nat):Int) ∣ x:=zgb.2<|zhb _ _;have dd:((Nat.gcd x.natAbs d.natAbs:Nat):Int) ∣ d:=zgb.2<|znb _ _;have j:Nat.gcd x.natAbs d.natAbs<=d.natAbs:=Nat.gcd_le_right _ u0
 have i:=iI.2<|zLa j<|aE.1 e;obtain⟨p1,r⟩:=jO x f;unfold B;rw[p1,r];refine O (IH (n+1027) hx)<|J (.bool false)<|J false<|O (z:=false) ?_<|J false<|O (z:=false) ?_<|J false ?_
 ·rw[zha H];exact O (IH (n+1027) e) rfl
 ·rw[zha H]
  refine O (ls (n+1026) e) ?_;rw[o,zfa<|NJ f];rfl
 rw[zha H]
 refine O (wH n hx e) ?_;generalize Nat.gcd x.natAbs d.natAbs=g at *;refine O (z:=(0,[M<|if d<0 then -(g:Int) else(g:Int)])) ?_ ?_
 ·refine O (ls (n+1026) e)<|O ag<|O ac ?_;by_cases h:d<0
  ·rw[zma h];refine au (by rw[Gs h];decide) ?_
   exact O (H1 (n+1026) i) rfl
  ·rw[zha h];exact ay (by rw[gW u0];decide) rfl
 ·have c:In (if d<0 then -(g:Int) else(g:Int)):=by
   all_goals grind [aE,Int.natAbs_neg]
  have k:(if d<0 then -(g:Int) else(g:Int))≠0:=by split<;>omega
  have m:(if d<0 then -(g:Int) else(g:Int)) ∣ x:=by split<;>first|exact Int.neg_dvd.2 p|exact p
  have l:(if d<0 then -(g:Int) else(g:Int)) ∣ d:=by split<;>first|exact Int.neg_dvd.2 dd|exact dd
  exact O (vw (n+1023) hx c k m)<|O (vw (n+1023) e c k l) rfl
end
def WC(x:Int):D.get (M x) [2,1]=some (U<|fX (aR x.natAbs) 1):=dK (i:=1) H
def Xp(n:Nat){x:Int}(hx:In x)(h:¬ Wd x):cA (n+3) 124 [M x]=some (.tup [I 0,.bool false]):=by
 have o:4611686018427387904<=x.natAbs:=by unfold Wd at h;omega
 rw[YQ]
 delta OF Q P qN iL iR Jn J0 J2 S bT nq qO qc qh qi qj C qt qw qy
 have l1:=MH x.natAbs;refine O (IM n hx)<|O aD<|J false<|O (z:=decide (1073741824<=x.natAbs/4294967296%4294967296)) ?_<|O ac ?_
 ·rw[zha H]
  refine O (WC x) ?_;rw[l1];have:afA .geq (U<|x.natAbs/4294967296%4294967296) (.int .u32 1073741824)=some (.bool<|decide (1073741824<=x.natAbs/4294967296%4294967296)):=by simp only[afA,if_true];congr 2;rw[decide_eq_decide];omega
  exact O this rfl
 by_cases e:1073741824<=x.natAbs/4294967296%4294967296
 ·simp_all
 ·refine ay e ?_;have g:18446744073709551616<=x.natAbs:=u0
  refine aV (λi s=>s=[I (i:Int)]/\2<=i/\∀ k,2<=k->k<i->fX (aR x.natAbs) k=0) 16 2 H ⟨rfl,H,λk e j=>u0⟩ (λi hi s b=>?_)<|λs b=>?_
  ·obtain⟨rfl,j,l⟩:=b;have f:afA .lss (I (i:Int)) (D.int .i64 16)=some (.bool true):=by rw[ag,zka u0]
   by_cases h0:fX (aR x.natAbs) i=0
   ·left;refine⟨[I ((i+1:Nat):Int)],?_,rfl,u0,λk p q=>?_⟩
    ·refine O f<|J true ?_;rw[zma rfl];refine O (ai hi)<|O (dK hi) ?_;rw[h0];refine J false ?_;rw[zha H]
     exact O (az<|aB (i:=i) u0) rfl
    ·grind
   ·right;refine⟨(0,[I 0,.bool false]),?_,rfl⟩;refine O f<|J true ?_;rw[zma rfl];refine O (ai hi)<|O (dK hi)<|O (z:=true) ?_ ?_
    ·show D.truth (.bool<|!(D.beq (U<|fX (aR x.natAbs) i)<|U 0))=_;rw[QW,zfa h0];rfl
    ·rw[zma rfl]
  ·exfalso;obtain⟨_,_,l⟩:=b;have m:x.natAbs/18446744073709551616=0:=by
    have c:x.natAbs/18446744073709551616<65536^32:=zLa (zgc _ _) hx;refine xz c λi hi=>?_;rw[j4,zYa,show(18446744073709551616:Nat)=4294967296^2 from rfl,<-z5a];by_cases k:i+2<16
    ·simp_all [j4,zhc]
    ·have a:(65536:Nat)^32=4294967296^16:=by rw[show(4294967296:Nat)=65536^2 from rfl,<-Nat.pow_mul]
     have d:x.natAbs<4294967296^16:=by rw[<-a];exact hx
     rw[zcb (zeb d<|zpa H<|show 16<=2+i by omega),zyd]
   omega
def Xq(n:Nat){a b:List Nat}(r:dl a)(w:dl b)(X:a.length<=400000)(K:bu b<=bu a):cA (n+2) 126 [.sl<|E a,.sl<|E b]=some (.sl<|E<|aR<|bu a-bu b):=by
 refine eN SC ?_
 delta SC P qX qV qW iL iR Jn J0 J1 qb qc qj C ql qu qy
 refine aV (λk s=>∃ (out:List Nat) (c:Nat),s=[.sl<|E out,I (c:Int),I (k:Int)]/\out.length=k/\dl out/\c<=1/\bu out+vt b k=vt a k+c*65536^k) a.length 0 (zoa _) ⟨[],0,rfl,rfl,(by intro d F;cases F),u0,by simp[bu,vt]⟩ (λk y s p=>?_)<|λs p=>?_
 ·obtain⟨out,c,rfl,o,g,a0,A⟩:=p;left;have S:=r.getD k;have a1:=w.getD k;obtain⟨e,f,G,Q,Y⟩:∃ e f:Nat,e+b.getD k 0+c=a.getD k 0+f*65536/\e<65536/\f<=1:=by
   by_cases h:b.getD k 0+c<=a.getD k 0
   ·exact⟨a.getD k 0-(b.getD k 0+c),0,u0,u0,u0⟩
   ·exact⟨a.getD k 0+65536-(b.getD k 0+c),1,u0,u0,u0⟩
  refine⟨[.sl<|E<|out++[e],I (f:Int),I ((k+1:Nat):Int)],?_,out++[e],f,rfl,by simp[o],g.append (λx hx=>by simp at hx;omega),Y,?_⟩
  ·refine J (E a)<|O ag<|O ac<|au (by show(k:Int)<((E a).length:Int);rw[am];omega) ?_
   refine J (E a)<|O (Dn y)<|O (dS y)<|O (II n b k)<|O (bP (by simp only[inR];omega))<|O (bP (by simp only[inR];omega)) ?_
   refine O (z:=(0,[.sl<|E out,I (f:Int),I (e:Int)])) ?_ ?_
   ·refine O ag<|O ac ?_;by_cases hneg:((a.getD k 0:Nat):Int)-(b.getD k 0:Nat)-(c:Int)<0
    ·refine au hneg<|O (az (by simp only[inR];omega)) ?_
     have e1:(((a.getD k 0:Nat):Int)-(b.getD k 0:Nat)-(c:Int)+65536)=(e:Int):=u0
     have e2:f=1:=u0
     rw[e1,e2];rfl
    ·refine ay hneg ?_;have e1:(((a.getD k 0:Nat):Int)-(b.getD k 0:Nat)-(c:Int))=(e:Int):=u0
     have e2:f=0:=u0
     rw[e1,e2];rfl
   ·rw[zma (by simp[g0,D.els,am,zOa,zzb];omega)]
    refine O (az<|aB (i:=k) u0) ?_
    show some (Sum.inl [D.sl<|E out++[I (e:Int)],_,_])=_;rw[zt];rfl
  ·rw[nP,o,vt,vt,z2b];have e2:bu [e]=e:=by simp[bu]
   grind
 ·obtain⟨out,c,rfl,o,g,a0,A⟩:=p;refine⟨(0,[.sl<|E out]),J (E a) (O ag<|O ac<|ay (by show ¬ ((a.length:Int)<((E a).length:Int));rw[am];omega) rfl),?_⟩
  refine O (E4 n (l:=out) u0) ?_
  rw[rE] at A;have M:vt b a.length=bu b:=by
   rcases Nat.le_total b.length a.length with k|k
   ·exact lh k
   ·have B:=yq w b.length;have t:=oI r;have key:∀ j,bu b<65536^a.length->vt b (a.length+j)=vt b a.length:=λj L=>by
     induction j with
     | zero=>rfl
     | succ j ih=>
      rw[<-zNb,vt,ih];have N:b.getD (a.length+j) 0=0:=by
       rcases zMb (b.getD (a.length+j) 0) with h|h
       ·exact h
       ·exfalso;have m1:vt b (a.length+j+1)<=bu b:=by
         rw[<-rE b];rcases Nat.le_total (a.length+j+1) b.length with q|q
         ·obtain⟨m,hm⟩:∃ m,b.length=a.length+j+1+m:=⟨b.length-(a.length+j+1),u0⟩
          rw[hm];clear hm
          induction m with
          | zero=>exact zja _
          | succ m v=>exact zva v<|zbd _ _
         ·grind
        rw[vt] at m1;have m2:65536^a.length<=65536^(a.length+j):=zpa H u0
        have R:1*65536^(a.length+j)<=b.getD (a.length+j) 0*65536^(a.length+j):=zKa _ h;omega
      rw[N];simp
    obtain⟨m,hm⟩:∃ m,b.length=a.length+m:=⟨b.length-a.length,u0⟩
    grind [rE]
  have u:=oI g;rw[o] at u;have t:=oI r;have a2:c=0:=by all_goals grind
  grind [kF]
section
variable{A B:Nat}
def OQ(l:List Nat)(k:Int):Nat:=if k<0 then 0 else l.getD k.toNat 0
def KZ{l:List Nat}(h:dl l)(k:Int):OQ l k<65536:=by
 unfold OQ;split
 ·decide
 ·exact h.getD _
theorem GY(l:List Nat)(k:Nat):OQ l (k:Int)=l.getD k 0:=by unfold OQ;grind
def O4(n:Nat)(l:List Nat)(k:Int):cA (n+2) 175 [.sl<|E l,I k]=some (I (OQ l k:Nat)):=by
 refine eN S6 ?_
 delta S6 J0 qc C OQ
 refine O ag<|O ac ?_;by_cases h:k<0
 ·simp_all
 ·refine ay h ?_;rw[zha h];obtain⟨m,rfl⟩:=zFc<|show 0<=k by omega
  exact O (II n l m) rfl
def nA(R n:Nat):Nat:=if n=1 then R*65536 else R/65536^(n-2)
def rY(m i:Nat):(aR m).getD i 0=m/65536^i%65536:=tX i m
def C3(R:Nat){m:Nat}(hm:1<=m):R/65536^(m-1)=R/65536^m*65536+R/65536^(m-1)%65536:=by
 have e:65536^m=65536^(m-1)*65536:=by
  conv=>lhs;rw[show m=m-1+1 by omega]
  omega
 rw[e,<-zYa];omega
theorem Mv{R n:Nat}(b:1<=n)(c:R<65536^(n+1)):(aR R).getD n 0*4294967296+(aR R).getD (n-1) 0*65536+OQ (aR R) ((n:Int)-2)=nA R n:=by
 have a:R/65536^n<65536:=by simp_all [z2a,Nat.pow_pos,decide,zVa,z2b]
 have e1:=C3 R b;rw[rY,rY,z0a a];unfold nA OQ;by_cases hn1:n=1
 ·grind
 ·rw[zha hn1,zha u0,show((n:Int)-2).toNat=n-2 by omega,rY]
  have e2:=C3 R (m:=n-1) u0
  grind
def VK{n:Nat}(b:1<=n)(a:B<65536^n):(aR B).getD (n-1) 0*65536+OQ (aR B) ((n:Int)-2)=nA B n:=by
 have h:=Mv (R:=B) b<|zeb a<|zpa H<|zIc n
 rw[rY B n,zcb a,zyd,zxd,zbb] at h;exact h
def Mr{R n:Nat}(a:0<B)(d:0<nA B n)(b:R<65536*B):R/B<=min 65535 (nA R n/nA B n):=by
 have c:R/B<=65535:=by have:=(z2a a).2<|show R<65536*B from b;omega
 refine Nat.le_min.2 ⟨c,?_⟩;rw[zfc d];unfold nA;by_cases hn:n=1
 ·rw[zma hn,zma hn,<-zib];exact zKa _<|zcc R B
 ·rw[zha hn,zha hn];have hp:0<65536^(n-2):=Nat.pow_pos H
  rw[zfc hp,zib];exact zva (z6a _<|zcc B _)<|zcc R B
def pC{B:Nat}(d:0<B):1<=(aR B).length/\B<65536^(aR B).length/\0<nA B (aR B).length:=by
 have a:1<=(aR B).length:=by
  rcases zMb (aR B).length with h|h
  ·have:=z8b.1 h;have:=wW.1 this;omega
  ·exact h
 have b:B<65536^(aR B).length:=by have:=oI<|cR B;rwa [bw] at this
 refine⟨a,b,?_⟩;have c:65536^((aR B).length-1)<=B:=by
  rcases zua B (65536^((aR B).length-1)) with k|k
  ·have:=dQ _ B k;omega
  ·exact k
 unfold nA;split
 ·omega
 ·refine Nat.div_pos (zva (zpa H u0) c)<|Nat.pow_pos H
theorem abT(n:Nat)(hA:A<65536^40)(r:0<B)(K:B<65536^40):cA (n+3) 143 [.sl<|E<|aR A,.sl<|E<|aR B]=some (.tup [.sl<|E<|aR<|A/B,.sl<|E<|aR<|A%B]):=by
 refine eN SP ?_
 delta SP P qS qX qV qW iL iR Jn J0 J1 J2 jl qc qi C qt qy
 obtain⟨Y,n2,n3⟩:=pC r;have lA:=dQ 40 _ hA;have lB:=dQ 40 _ K;have Z:=cR B;obtain⟨L,hL⟩:∃ L,(aR B).length=L:=⟨_,rfl⟩;rw[hL] at Y n2 n3 lB;obtain⟨M,hM⟩:∃ M,(aR A).length=M:=⟨_,rfl⟩;rw[hM] at lA;have G:((E<|aR B).length:Int)=(L:Int):=by rw[am,hL]
 have f:((E<|aR A).length:Int)=(M:Int):=by rw[am,hM]
 refine J (E<|aR A)<|O (z:=M) (by rw[f];exact HZ M) ?_
 rw[zma u0]
 refine J (E<|aR B) ?_;rw[G];have a5:(aR B).getD (L-1) 0<65536:=Z.getD _;have p:=VK Y n2;refine O (nF (b:=1) rfl Y u0)<|J (E<|aR B)<|O (z:=L-1) (by rw[am,hL];exact ai u0)<|O (dS (l:=aR B) (i:=L-1) u0) ?_
 refine O (pT (b:=65536) u0)<|O (z:=I<|(L:Int)-2) (bP (by simp[inR];omega))<|O (O4 n (aR B)<|(L:Int)-2) ?_
 have a3:=KZ Z<|(L:Int)-2;refine O (av u0) ?_
 rw[p];have ad:nA B L<4294967296:=by rw[<-p];omega
 generalize hTB:nA B L=TB at *;refine J (E<|aR A) ?_;rw[f];refine O (z:=I<|(M:Int)-1) (bP (by simp[inR];omega)) ?_
 rw[zv];have a9:A/65536^M=0:=by have:=oI<|cR A;rw[bw,hM] at this;exact zcb this
 refine aV (λt s=>∃ q:List Nat,s=[.sl<|E<|aR<|A/65536^(M-t)%B,I<|(M:Int)-1-(t:Nat),.sl<|E q]/\q.length=M/\dl q/\(∀ i,i<M-t->q.getD i 0=0)/\bu q=A/65536^(M-t)/B*65536^(M-t)) M 0 (zoa _) ⟨List.replicate M 0,?_,j2,λx hx=>by rw[zqd hx];decide,λi _=>by simp[List.getD,List.getElem?_replicate];split<;>rfl,?_⟩ (λt ht s N=>?_)<|λs N=>?_
 ·rw[Nat.sub_zero,a9,zyd,df];congr 3;omega
 ·have:=p9 [] M;rw[z7b] at this;rw[this,Nat.sub_zero,a9,Nat.zero_div,zxd];rfl
 ·obtain⟨q,rfl,W,b0,b2,m⟩:=N;left;obtain⟨k,hk⟩:∃ k,k=M-1-t:=⟨_,rfl⟩;have aO:k<M:=u0
  rw[show M-t=k+1 by omega] at b2 m ⊢
  rw[show(M:Int)-1-(t:Nat)=(k:Nat) by omega]
  have a1:A/65536^(k+1)%B<B:=zWa _ r;have a8:A/65536^k=65536*(A/65536^(k+1))+(aR A).getD k 0:=by rw[rY,z2b,<-zYa];omega
  have ax:=(cR A).getD k;obtain⟨R,hR⟩:∃ R,R=65536*(A/65536^(k+1)%B)+(aR A).getD k 0:=⟨_,rfl⟩;have b1:R<65536*B:=by omega
  have ap:A/65536^k/B=65536*(A/65536^(k+1)/B)+R/B:=by
   have e:=zxb (A/65536^(k+1)) B;have e2:A/65536^k=R+B*(65536*(A/65536^(k+1)/B)):=by rw[a8,hR];generalize A/65536^(k+1)=X at *;grind
   rw[e2,zWb _ _ r];omega
  have an:A/65536^k%B=R%B:=by
   have e:=zxb (A/65536^(k+1)) B;have e2:A/65536^k=R+B*(65536*(A/65536^(k+1)/B)):=by rw[a8,hR];generalize A/65536^(k+1)=X at *;grind
   simp_all
  have a6:=dQ 40 _<|znc a1 K;have Q:R<65536^(L+1):=by omega
  have a0:R<65536^41:=zeb Q<|zpa H u0
  have lR:=dQ 41 _ a0;have F:=cR R;obtain⟨q',h⟩:∃ q',q'=q.set k (R/B):=⟨_,rfl⟩;have a2:R/B<=65535:=by have:=(z2a r).2 b1;omega
  refine⟨[.sl<|E<|aR<|R%B,I<|(k:Int)-1,.sl<|E q'],?_,q',by rw[show M-(t+1)=k by omega,an];congr 3;omega,by rw[h];simpa using W,?_,?_,?_⟩
  ·refine O fD<|O ac<|au (by show(k:Int) ≥ 0;omega) ?_
   refine J (E<|aR A)<|O (z:=k) (by rw[am,hM];exact ai aO)<|O (dS (l:=aR A) (i:=k) u0)<|J (E<|aR<|A/65536^(k+1)%B) ?_
   rw[zma (by rw[am];simp;omega)]
   have u:[I (((aR A).getD k 0:Nat):Int)]++E (aR<|A/65536^(k+1)%B)=E ((aR A).getD k 0::aR (A/65536^(k+1)%B)):=rfl;rw[u];have aI:dl ((aR A).getD k 0::aR (A/65536^(k+1)%B)):=dl.cons ax<|cR _;have o:=E4 (n+1) (l:=(aR A).getD k 0::aR (A/65536^(k+1)%B)) (by simp;omega)
   rw[kF aI,show bu ((aR A).getD k 0::aR (A/65536^(k+1)%B))=R by rw[bu,bw,hR];omega] at o
   refine O o ?_;have g1:=F.getD L;have g2:=F.getD<|L-1;have g3:=KZ F<|(L:Int)-2;have h3:=Mv Y Q;refine O (O4 n (aR R) (L:Int)) ?_;rw[GY];refine O (pT (b:=4294967296) u0)<|O (nF (b:=1) rfl Y u0)<|O (O4 n (aR R) ((L-1:Nat):Int)) ?_
   rw[GY];refine O (pT (b:=65536) u0)<|O (av u0)<|O (z:=I<|(L:Int)-2) (bP (by simp[inR];omega))<|O (O4 n (aR R)<|(L:Int)-2)<|O (av u0) ?_
   rw[h3];have hH:nA R L<=9223372036854775807:=by rw[<-h3];omega
   have U:=Mr (R:=R) (n:=L) r (by rw[hTB];exact n3) b1
   rw[hTB] at U;refine O (lq u0 u0)<|O (z:=I ((min 65535 (nA R L/TB):Nat):Int)) (by rw[show(D.int .i64 65535)=I ((65535:Nat):Int) from rfl,MP];congr 2;omega) ?_
   have S:min 65535 (nA R L/TB)<=65535:=Nat.min_le_left ..;generalize min 65535 (nA R L/TB)=d0 at *;have y:∀ d:Nat,d<=65535->cA (n+2) 146 [.sl<|E<|aR B,.sl [I (d:Int)]]=some (.sl<|E<|aR<|B*d):=λd hd=>by
    have:=abV n (a:=aR B) (b:=[d]) Z (λx hx=>by simp at hx;omega) u0 j2
    rw[bw,show bu [d]=d by simp[bu]] at this
    exact this
   refine O (y d0 S) ?_;refine sK (λd s=>s=[I (d:Int),.sl<|E<|aR<|B*d,.sl<|E q]/\R/B<=d/\d<=65535) d0 _ ⟨rfl,U,S⟩<|λd s N=>?_;obtain⟨rfl,k1,k2⟩:=N;have al:B*d<65536^41:=by
    have:B*d<=B*65536:=z6a _ u0
    omega
   have a7:=dQ 41 _ al;have g:=c78 n F (cR<|B*d) u0 u0
   rw[bw,bw] at g;by_cases hlt:R<B*d
   ·left;rw[zka hlt] at g;have w:R/B<d:=by rw[z2a r,zVa];exact hlt
    have a4:=zLa (zoa _) w;refine⟨d-1,[I ((d-1:Nat):Int),.sl<|E<|aR<|B*(d-1),.sl<|E q],u0,?_,rfl,Nat.le_sub_one_of_lt w,u0⟩
    refine O g<|J true ?_;rw[zma rfl];have e:B*d-B=B*(d-1):=by rw[zsd,Nat.mul_one]
    have c:=Xq n (cR<|B*d) Z u0 (by rw[bw,bw];exact zDc _ u0)
    rw[bw,bw,e] at c;exact O (nF (b:=1) rfl u0 u0)<|O c rfl
   ·right;rw[zfa hlt] at g;have w:d<=R/B:=by rw[zfc r,zVa];omega
    have T:d=R/B:=u0
    refine⟨(0,[I (d:Int),.sl<|E<|aR<|B*d,.sl<|E q]),?_,?_⟩
    ·refine O g<|J false ?_;rw[zha H];rfl
    ·have c:=Xq n F (cR<|B*d) u0 (by rw[bw,bw];omega)
     have e:R-B*d=R%B:=by rw[T];have:=zxb R B;omega
     rw[bw,bw,e] at c;have V:k<q.length:=u0
     refine O (Dn V)<|O (dS V)<|O c<|O (bP (by simp[inR];omega)) ?_
     show some (Sum.inl [_,_,D.sl<|List.set (E q) k<|I (d:Int)])=_;rw[t6,T,<-h];first|rfl|skip
  ·rw[h];refine Rd λi hi=>?_;rw[nQ _ _ _ _ u0]
   split
   ·omega
   ·exact b0.getD i
  ·intro i hi;rw[h,nQ _ _ _ _ u0,zha u0]
   exact b2 i u0
  ·have e:=si (l:=q) (j:=k) (v:=R/B) u0
   rw[b2 k u0,zzd,zXb,<-h] at e
   rw[e,m,show M-(t+1)=k by omega,ap,z2b,ztb,zVa<|R/B,zVa 65536,zib,zVa (65536^k) 65536]
 ·obtain⟨q,rfl,W,b0,_,m⟩:=N;rw[Nat.sub_self,z1c,zid,Nat.mul_one] at m;refine⟨(0,[.sl<|E<|aR<|A%B,.sl<|E q]),?_,?_⟩
  ·rw[Nat.sub_self,z1c,zid];exact O fD<|O ac<|ay (by show ¬ ((M:Int)-1-(M:Nat)) ≥ 0;omega) rfl
  ·have o:=E4 (n+1) (l:=q) u0
   rw[kF b0,m] at o;exact O o rfl
def Yi{m:Nat}(h:m<65536^32):m<65536^40:=zeb h<|zpa H H
def RZ(n:Nat){x:Int}(hx:In x):∃ w b,cA (n+3) 124 [M x]=some (.tup [I w,.bool b])/\(b=true->Wd x):=by
 by_cases h:Wd x
 ·exact⟨x,true,Ln n h,λ_=>h⟩
 ·exact⟨0,false,Xp n hx h,λe=>by cases e⟩
theorem acR(n:Nat){x y:Int}(hx:In x)(c:In y):cA (n+4) 85 [M x,M y]=some (M (Nat.gcd x.natAbs y.natAbs:Nat)):=by
 by_cases hw:Wd x/\Wd y
 ·exact Y8 n hw.1 hw.2
 ·refine eN W4 ?_
  delta W4 P qT qN qS iL iR J0 S jl nq qA qO qc C qp qt qy qz
  obtain⟨w1,b1,h,o⟩:=RZ n hx;obtain⟨l,b2,i,p⟩:=RZ n c;have k:(b1&&b2)=false:=by all_goals grind
  refine O h<|J (I w1)<|J (.bool b1)<|O i<|J (I l)<|J (.bool b2)<|J b1<|O (z:=false) (by cases b1<;>cases b2<;>simp at k<;>rfl)<|J false ?_
  rw[zha H]
  refine O (IM (n+1) hx)<|O aD<|J false<|O (z:=false) (by rw[zha H];exact O (IM (n+1) c) rfl)<|J false ?_
  rw[zha H]
  refine O (WS (n+1) hx)<|O (WS (n+1) c) ?_;have f:=hx;have g:=c;refine sK (λm s=>∃ a,s=[.sl<|E<|aR a,.sl<|E<|aR m]/\a<65536^32/\m<65536^32/\Nat.gcd a m=Nat.gcd x.natAbs y.natAbs) y.natAbs _ ⟨x.natAbs,rfl,f,g,rfl⟩<|λm s j=>?_;obtain⟨a,rfl,d,hm,e⟩:=j;by_cases h0:m=0
  ·right;subst h0;rw[Nat.gcd_zero_right] at e;rw[df];refine⟨(0,[.sl<|E<|aR a]),?_,?_⟩
   ·exact J (E [])<|J (.bool false)<|J false rfl
   ·have la:=dQ 32 _ d;refine O (Y7 (n+1) (neg:=false) (cR a) u0 (by rw[bw];exact d)) ?_
    rw[bw,e];rfl
  ·left;have b:a%m<m:=zWa _ u0
   refine⟨a%m,[.sl<|E<|aR m,.sl<|E<|aR<|a%m],b,?_,m,rfl,hm,znc b hm,by rw[<-e,zoc a m,Nat.gcd_rec m a,zoc]⟩
   have hl:=(pC (B:=m) u0).1
   refine J (E<|aR m)<|O bR<|O ac<|au (by show((E<|aR m).length:Int)>0;rw[am];omega) ?_
   exact O (abT n (Yi d) u0<|Yi hm)<|J (.sl<|E<|aR<|a/m)<|J (.sl<|E<|aR<|a%m) rfl
end
def br{x:Int}(h:inR x):In x:=by grind [In,inR]
def Cv{x y:Int}(a:In y)(h:x.natAbs<=y.natAbs):In x:=zLa h a
def bX(x:Int)(h:-9223372036854775808<=x/\x<=9223372036854775807:=by decide):inR x:=h
def abP(n:Nat):cA (n+4) 133 []=some (M 1):=by refine Zh SH ?_;delta SH J1 C;exact O (Kh n<|bX 1) rfl
def OR(n:Nat)(f:Nat->Int):D.beq (cH n f) (cH n f)=true:=by show D.beqs _ _=true;rw[wB];simp
def Xg(x:Int):D.beq (M x) (M x)=true:=by rw[cg];show(D.beq (.bool false) (.bool false)&&(D.beq (.bool<|decide (x<0)) (.bool<|decide (x<0))&&(D.beq (LM x.natAbs) (LM x.natAbs)&&true)))=true;rw[OR];simp[D.beq]
def KO:In 1:=br<|bX 1
def C0(x:Int):Rat.divInt x 1=(x:Rat):=by
 conv=>rhs;rw[<-z7a (x:Rat)]
 rfl
def gE(x:Int){d:Int}(b:d≠0):(Rat.divInt x d).num.natAbs<=x.natAbs/\(Rat.divInt x d).den<=d.natAbs:=by
 obtain⟨p1,e⟩:=jO x b;have a:0<Nat.gcd x.natAbs d.natAbs:=z2c _ u0
 have key:∀ z:Int,(z/(if d<0 then -(Nat.gcd x.natAbs d.natAbs:Int) else(Nat.gcd x.natAbs d.natAbs:Int))).natAbs<=z.natAbs\/¬ ((Nat.gcd x.natAbs d.natAbs:Nat):Int) ∣ z:=by
  intro z;by_cases c:((Nat.gcd x.natAbs d.natAbs:Nat):Int) ∣ z
  ·left;obtain⟨k,rfl⟩:=c;generalize Nat.gcd x.natAbs d.natAbs=g at *;rw[zwa,zia];have:k.natAbs<=g*k.natAbs:=zjb _ a;split
   ·rw[Int.ediv_neg,zZa _ u0,zJb];exact this
   ·rw[zZa _ u0];exact this
  ·omega
 constructor
 ·rw[p1];rcases key x with h|h
  ·exact h
  ·exact z8a (zgb.2<|zhb _ _) h
 ·have:(Rat.divInt x d).den=((Rat.divInt x d).den:Int).natAbs:=rfl;rw[this,e];rcases key d with h|h
  ·exact h
  ·exact z8a (zgb.2<|znb _ _) h
def gq{x d:Int}(hx:In x)(c:In d)(h0:d≠0):InR (Rat.divInt x d):=by obtain⟨a,b⟩:=gE x h0;exact⟨zLa a hx,zLa (by rw[zia];exact b) c⟩
theorem bQ(q:Rat):(q.den:Int)≠0:=by have:=q.den_pos;omega
def fitA(x y:Rat):Prop:=x.num.natAbs*y.den+y.num.natAbs*x.den<eM/\x.den*y.den<eM
def fitM(x y:Rat):Prop:=x.num.natAbs*y.num.natAbs<eM/\x.den*y.den<eM
def Cu{x:Int}(h:In x):InR (x:Rat):=⟨by simpa using h,by simpa using KO⟩
structure RV where
 x:Rat
 y:Rat
 z:Rat
def X0(v:RV):D:=.st [B v.x,B v.y,B v.z]
def RV.of(v:V):RV:=⟨v.x,v.y,v.z⟩
def RV.mul(k:Rat)(v:RV):RV:=⟨k*v.x,k*v.y,k*v.z⟩
end Sy
end
noncomputable section
namespace Geo
open V
section
variable{a c:Nat}
section
variable{P:Nat->V}{N:Nat}
theorem ru(hl:∀ i j,i<j->j<N->aH (P i) (P j)){f d:V}{r d2:Int}(w:IsF P N f r)(C:IsF P N d d2){b:Nat}(a1:a∈bB P N f r)(b1:b∈bB P N f r)(G:c∈bB P N f r)
  (a2:a∈bB P N d d2) (b2:b∈bB P N d d2) (H:c∈bB P N d d2) (K:T f (R P a b) (R P a c)≠0):f=d:=by
 have F1:=w.flat hl;have F2:=C.flat hl;have E:=iJ (F1.pl a a1 b b1)<|F1.pl a a1 c G;have F:=iJ (F2.pl a a2 b b2)<|F2.pl a a2 c H;have l:dot f (cross (R P a b)<|R P a c)≠0:=K;generalize cross (R P a b) (R P a c)=m at E F l;have hm:m≠zero:=λe=>l (by rw[e];simp[dot,zero])
 have g:=bL hm;have p1:=Ni E m;have o:=Ni F m;have e1:∀ v:V,dot m f*dot m v=dot m m*dot f v:=λv=>by have x1:=zEa V.x p1;have p:=zEa V.y p1;have q:=zEa V.z p1;simp[smul] at x1 p q;simp[dot] at *;grind
 have e2:∀ v:V,dot m d*dot m v=dot m m*dot d v:=λv=>by have x1:=zEa V.x o;have p:=zEa V.y o;have q:=zEa V.z o;simp[smul] at x1 p q;simp[dot] at *;grind
 have I:∀ u v:V,dot u v=dot v u:=λu v=>by simp[dot];grind
 rw[I] at l;have D:dot m d≠0:=λe=>by have:=e2 d;rw[e,zCc] at this;have O:=bJ g this.symm;exact F2.nz<|pD O
 obtain⟨z,L,M⟩:=w.supp.2;have w1:dot f (R P a z)<0:=by rw[eG,(aU.1 a1).2];omega
 have S:dot d (R P a z)<=0:=by rw[eG,(aU.1 a2).2];have:=C.supp.1 z L;omega
 have q1:=e1<|R P a z;have Q:=e2<|R P a z;have r1:dot m f*dot m (R P a z)<0:=by rw[q1];exact zCb g w1
 have X:dot m d*dot m (R P a z)<=0:=by rw[Q];exact Int.mul_nonpos_of_nonneg_of_nonpos (zTa g) S
 generalize dot m (R P a z)=t at r1 X;have fin:∀ A B:Int,0<A->0<B->smul A (smul (dot m m) f)=smul B (smul (dot m m) d)->f=d:=λA B J D h=>by refine D4 w.nz.2 C.nz.2 (zub J g) (zub D g) ?_;have x1:=zEa V.x h;have p:=zEa V.y h;have q:=zEa V.z h;simp[smul] at x1 p q;apply V.ext'<;>simp[smul]<;>grind
 rcases zKb (dot m f) 0 with s|s|s
 ·have n:0<t:=by
   rcases z5b 0 t with k|k
   ·exact k
   ·have:=Int.mul_nonneg_of_nonpos_of_nonpos (zTa s) k;omega
  have s2:dot m d<0:=by
   rcases z5b 0 (dot m d) with k|k
   ·have:=zub k n;omega
   ·omega
  refine fin (-dot m d) (-dot m f) u0 u0 ?_
  rw[<-p1,<-o];apply V.ext'<;>simp[smul]<;>grind
 ·exact z8a s l
 ·have n:t<0:=by
   rcases z5b t 0 with k|k
   ·exact k
   ·have:=zRb (zTa s) k;omega
  have s2:0<dot m d:=by
   rcases z5b (dot m d) 0 with k|k
   ·have:=zZb k n;omega
   ·omega
  refine fin (dot m d) (dot m f) s2 s ?_;rw[<-p1,<-o];apply V.ext'<;>simp[smul]<;>grind
theorem BJ(hl:∀ i j,i<j->j<N->aH (P i) (P j)){n:V}{d:Int}(h:IsF P N n d){b:Nat}(k:a∈bB P N n d)(f:Side n P (bB P N n d) a b)(g:Side n P (bB P N n d) b a):False:=by
 obtain⟨c,l,m⟩:=h.left hl k f;have:=(g.all c l).1;have e:T n (R P b a) (R P b c)=- T n (R P a b) (R P a c):=by simp[T,dot,cross,R,sub];grind
 omega
theorem MF{α:Type}[DecidableEq α]:∀ {l m:List α},l.Nodup->(∀ x∈l,x∈m)->l.length<=m.length
 | [],m,_,_=>zoa _
 | x::l,m,f,a=>by
  obtain⟨c,d⟩:=zBd.1 f;have hx:=a x zBa;have ih:=MF (l:=l) (m:=m.erase x) d λy b=>(List.mem_erase_of_ne<|λe:y=x=>c (by rw[<-e];exact b)).2<|a y<|zsa _ b
  grind
theorem four(hl:∀ i j,i<j->j<N->aH (P i) (P j)){L:List<|V×Int}(hL:Facets P N L)(y:L≠[]):4<=L.length:=by
 obtain⟨⟨n,d⟩,hq⟩:=zod L y;have h:=(hL.mem (n,d)).1 hq;have F:=h.flat hl;obtain⟨a0,_,m0,x0,_,o⟩:=h.head hl;obtain⟨a1,_,g⟩:=lO F m0 x0<|o a0 m0;have m1:=g.mem;have x1:=g.ext F m0;obtain⟨a2,_,c⟩:=lO F m1 x1<|o a1 m1;have m2:=c.mem;have H:=c.ext F m1;obtain⟨I,_,k⟩:=lO F m2 H<|o a2 m2;have K:=k.mem;have x3:=k.ext F m2;have v:a0≠a2:=λe=>BJ hl h m0 g<|e ▸ c;have w:a1≠I:=λe=>BJ hl h m1 c<|e ▸ k;have O:T n (R P a1 a0) (R P a1 a2)≠0:=λe=>v<|afR F m1 m0 m2 x1 x0 H (Ne.symm g.ne) c.ne e;have Z:T n (R P a2 a1) (R P a2 I)≠0:=λe=>w<|afR F m2 m1 K H x1 x3 (Ne.symm c.ne) k.ne e;obtain⟨A,e1,q,p1,q1,r1⟩:=mF hl h m0 g;obtain⟨D,e2,r,S,M,X⟩:=mF hl h m1 c;obtain⟨G,e3,u,U,W,Y⟩:=mF hl h m2 k;have ne:∀ {n':V} {J:Int} {a b:Nat},IsF P N n' J->a∈bB P N n d->Side n P (bB P N n d) a b->Side n' P (bB P N n' J) b a->n≠n':=λQ a3 s s' e=>by subst e;have:=h.d_eq Q;subst this;exact BJ hl h a3 s s'
 have p:=ne q m0 g r1;have t:=ne r m1 c X;have z:=ne u m2 k Y;have B:A≠D:=λe=>by subst e;have:=q.d_eq r;subst this;exact p<|ru hl h q m1 m0 m2 q1 p1 M O
 have E:D≠G:=λe=>by subst e;have:=r.d_eq u;subst this;exact t<|ru hl h r m2 m1 K M S W Z
 have C:A≠G:=λe=>by subst e;have:=q.d_eq u;subst this;exact p<|ru hl h q m1 m0 m2 q1 p1 U O
 have:=MF (l:=[n,A,D,G]) (m:=L.map (·.1)) (by simp[p,t,z,B,C,E]) (λx hx=>by
  simp[zMa,zbc,or_false] at hx;rcases hx with rfl|rfl|rfl|rfl
  ·grind
  ·exact zEb (f:=(·.1))<|(hL.mem (x,e1)).2 q
  ·exact zEb (f:=(·.1))<|(hL.mem (x,e2)).2 r
  ·exact zEb (f:=(·.1))<|(hL.mem (x,e3)).2 u)
 simp_all
end
end
section
variable{P:Nat->V}{N:Nat}
def Xb(P:Nat->V)(N:Nat)(k:Nat):Prop:=∃ n d,IsF P N n d/\k∈bB P N n d/\nD P (bB P N n d) k
end
section
variable{P:Nat->V}{N:Nat}
def dd(h u w:V):V:=cross (cross u w) h
end
abbrev T3:=V×V×V
def vol(t:T3):Int:=V.dot (V.cross t.1 t.2.1) t.2.2
def cmp(i:Nat)(v:V):Int:=if i=0 then v.x else if i=1 then v.y else v.z
def sm(i:Nat)(t:T3):Int:=cmp i t.1+cmp i t.2.1+cmp i t.2.2
def shift(d:V)(t:T3):T3:=(V.add t.1 d,V.add t.2.1 d,V.add t.2.2 d)
def gd(d u v:V):Int:=V.dot d<|V.cross u v
end Geo
end
noncomputable section
namespace Sy
open Go Go.Proofs Geo
section
variable{M N a j:Nat}
structure FIn(l:List V)(F:FL):Prop where
 len:F.length<=2000000
 ok:∀ f∈F,3<=f.2.length/\f.2.length<=100/\∀ j,j<f.2.length->f.2.getD j 0<l.length
def Kg(T:List T3)(N:Nat):Prop:=T.length<=N/\∀ t∈T,bd MV t.1/\bd MV t.2.1/\bd MV t.2.2
def Kg.append{S T:List T3}(h:Kg S M)(k:Kg T N):Kg (S++T) (M+N):=
 ⟨by rw[zFa];have:=h.1;have:=k.1;omega,λt a=>(zJa.1 a).elim (h.2 t)<|k.2 t⟩
def Kg.mono{T:List T3}(h:Kg T M)(k:M<=N):Kg T N:=⟨zva h.1 k,h.2⟩
def bD{x:Int}{k:Nat}(a:k<=511)(h:x.natAbs<=2^k):In x:=by obtain⟨m,hm⟩:∃ m,m=32*16:=⟨_,rfl⟩;exact aE.2<|(xC hm).2<|zLa h<|Nat.pow_lt_pow_right H u0
def ca{b:Nat}{i j k:Nat}(c:a<=2^i)(d:b<=2^j)(h:i+j<=k):a*b<=2^k:=
 zva (zHa c d) (by rw[<-z5a];exact zpa H h)
def bG{a b:Int}{i k:Nat}(c:a.natAbs<=2^i)(d:b.natAbs<=2^j)(h:i+j<=k):(a*b).natAbs<=2^k:=by rw[zwa];exact ca c d h
end
section
variable{l:List V}{F:FL}{f:(V×Int)×List Nat}{a c j:Nat}
def jo(x:V):List V->List V
 | []=>[x]
 | y::L=>if aH x y\/x=y then x::(y::L).filter (λz=>decide (z≠x)) else y::jo x L
def fd(l:List V):List V:=l.foldl (λo x=>jo x o) []
theorem Dq(x:V):∀ L:List V,(jo x L).length<=L.length+1
 | []=>by simp[jo]
 | y::L=>by have:=Dq x L;grind [jo]
theorem xE{x z:V}:∀ {L:List V},z∈jo x L↔z=x\/z∈L
 | []=>by simp[jo]
 | y::L=>by have ih:=xE (x:=x) (z:=z) (L:=L);grind [jo]
theorem Dr{x:V}:∀ {L:List V},L.Pairwise aH->(jo x L).Pairwise aH
 | [],_=>by simp[jo]
 | y::L,h=>by
  obtain⟨i,j⟩:=zNa.1 h;unfold jo;split
  ·rename_i c;refine zNa.2 ⟨λz f=>?_,h.filter _⟩;obtain⟨d,g⟩:=zKc.1 f;have l:z≠x:=by simpa using g
   rcases zMa.1 d with rfl|d
   ·grind
   ·rcases c with h|h
    ·exact nS h<|i z d
    ·simp_all
  ·rename_i c;refine zNa.2 ⟨λz f=>?_,Dr j⟩;rcases xE.1 f with rfl|f
   ·rcases ur (a:=z) (b:=y) (λe=>c<|.inr e) with k|k
    ·simp_all
    ·exact k
   ·exact i z f
def ye(l:List V):(fd l).Pairwise aH:=by
 unfold fd;have:∀ (l o:List V),o.Pairwise aH->(l.foldl (λo x=>jo x o) o).Pairwise aH:=by
  intro l
  induction l with
  | nil=>intro o h;exact h
  | cons x l ih=>intro o h;exact ih _<|Dr h
 simp_all
theorem DD{z:V}:z∈fd l↔z∈l:=by
 unfold fd;have:∀ (l o:List V),z∈l.foldl (λo x=>jo x o) o↔z∈l\/z∈o:=by
  intro l
  induction l with
  | nil=>intro o;simp
  | cons x l ih=> intro o;rw[zzc,ih,xE,zMa];all_goals grind
 simp_all
theorem ti(l:List V):(fd l).length<=l.length:=by
 unfold fd;have:∀ (l o:List V),(l.foldl (λo x=>jo x o) o).length<=l.length+o.length:=by
  intro l
  induction l with
  | nil=>intro o;simp
  | cons x l ih=> intro o;have a:=ih<|jo x o;have b:=Dq x o;grind
 grind
def NS(h:l.Pairwise aH):KS l:=λi j a b=>by
 have:=zIb.1 h i j u0 b a
 simpa [y,List.getD,b,show i<l.length by omega] using this
def Qz(h:l.Pairwise aH):fd l=l:=
 oT (r:=aH) oN zM (ye l) h λx=>DD
theorem c47(n:Nat)(l:List V)(w:l.length<=1000000):cA (n+2) 47 [bc l]=some (bc<|fd l):=by
 refine fN F47 ?_
 delta F47 qN qX qV qW iL iR Jn J0 S bT bq nq qA qb qc qi qj C ql qn qt qu qy
 have ll:(l.map X).length=l.length:=zla ..;refine aV (λi s=>s=[bc<|fd<|l.take i,I (i:Int)]) l.length 0 (zoa _) rfl (λi hi s g=>?_) (λs g=>?_)
 ·subst g;left;refine⟨[bc<|fd<|l.take<|i+1,I ((i+1:Nat):Int)],?_,rfl⟩;have K:fd (l.take<|i+1)=jo (l.getD i V.zero) (fd<|l.take i):=by
   grind [fd,List.take_succ_eq_append_getElem,List.getD]
  have u:(fd<|l.take i).length<=1000000:=zva (ti _) (by rw[zkb];omega)
  rw[K];obtain⟨o,B⟩:∃ o,fd (l.take i)=o:=⟨_,rfl⟩;obtain⟨x,hx⟩:∃ x,l.getD i V.zero=x:=⟨_,rfl⟩;have c:(l.map X)[i]?=some (X x):=by rw[<-hx];exact eH hi
  rw[B] at u ⊢;rw[hx];have ol:(o.map X).length=o.length:=zla ..;refine J (l.map X)<|O ag<|O ac<|au (by show((i:Int)<((l.map X).length:Int));rw[ll];omega) ?_
  refine c8 (λk s=>∃ (nx:List V) (put:Bool),s=[bc o,bc nx,.bool put,I (k:Int)]/\nx.length<=2*k/\(put=false->jo x o=nx++jo x (o.drop k))/\(put=true->jo x o=nx++(o.drop k).filter (λz=>decide (z≠x)))) o.length 0 (zoa _) ⟨[],false,rfl,j2,j2,j2⟩ (λk j s g=>?_)<|λs g=>?_
  ·obtain⟨nx,put,rfl,t,m,p⟩:=g;left;have v:o.drop k=o.getD k V.zero::o.drop (k+1):=by rw[zpb j];simp[List.getD,j]
   have d:=eH j;obtain⟨y,E⟩:∃ y,o.getD k V.zero=y:=⟨_,rfl⟩;rw[E] at v d;rw[v] at m p;obtain⟨f,p1,r,q0,q1,F⟩:∃ (f:List V) (p1:Bool),(if put=false/\(aH x y\/x=y) then(nx++[x],true) else(nx,put))=(f,p1)/\f.length<=2*k+1/\(p1=false->x≠y/\jo x o=f++y::jo x (o.drop<|k+1))/\(p1=true->jo x o=f++(y::o.drop (k+1)).filter (λz=>decide (z≠x))):=by
    by_cases hp:put=false/\(aH x y\/x=y)
    ·refine⟨_,_,zma hp,by simp;omega,j2,λ_=>?_⟩
     rw[m hp.1,jo,zma hp.2];simp
    ·refine⟨_,_,zha hp,u0,λe=>?_,λe=>p e⟩
     have A:¬ (aH x y\/x=y):=λh=>hp ⟨e,h⟩;refine⟨λh=>A<|.inr h,?_⟩;rw[m e,jo,zha A]
   refine⟨[bc o,bc<|if y≠x then f++[y] else f,.bool p1,I ((k+1:Nat):Int)],?_,_,p1,rfl,?_,?_,?_⟩
   ·refine O ag<|O ac<|au (by show((k:Int)<((o.map X).length:Int));rw[ol];omega) ?_
    have app:∀ (a:List V) (z:V),D.sl ((a.map X)++[X z])=bc (a++[z]):=λa z=>by simp[bc]
    have q:∀ a:List V,(a.map X).length=a.length:=λa=>zla ..;refine O (z:=(0,[bc o,bc<|if y≠x then f++[y] else f,.bool p1])) ?_<|O (az<|aB (i:=k) u0) rfl
    refine J (l.map X)<|O (z:=i) (by rw[ll];exact ai hi)<|O c<|O (z:=k) (by show D.idx (I (k:Int)) (o.map X).length=_;rw[ol];exact ai j)<|O d<|O (Xk n x y)<|O (z:=(0,[bc o,bc f,.bool p1])) ?_ ?_
    ·refine J (.bool<|!put)<|O ac<|O (z:=!put&&decide (aH x y\/x=y)) ?_<|O ac ?_
     ·cases put
      ·rw[show(!false)=true from rfl,zma rfl];refine O ac ?_;by_cases hlt:aH x y
       ·refine au hlt ?_;rw[zka<|.inl hlt];rfl
       ·refine ay hlt ?_;refine J (l.map X)<|O (z:=i) (by rw[ll];exact ai hi)<|O c<|O (z:=k) (by show D.idx (I (k:Int)) (o.map X).length=_;rw[ol];exact ai j)<|O d ?_
        rw[kV,ac];simp[hlt]
      ·rfl
     ·by_cases hp:put=false/\(aH x y\/x=y)
      ·rw[zma hp] at r;cases r;rw[show(!put&&decide (aH x y\/x=y))=true by rw[hp.1,zka hp.2];rfl,zma rfl]
       refine J (l.map X)<|O (z:=i) (by rw[ll];exact ai hi)<|O c ?_
       rw[zma (by show(nx.map X).length+1<=1073741824;rw[q];omega)]
       rw[<-app];rfl
      ·rw[zha hp] at r;cases r;rw[show(!put&&decide (aH x y\/x=y))=false by
        cases hput:put
        ·have:¬ (aH x y\/x=y):=λh=>hp ⟨hput,h⟩;simp[this]
        ·rfl]
       rfl
    ·refine O (z:=k) (by show D.idx (I (k:Int)) (o.map X).length=_;rw[ol];exact ai j)<|O d<|J (l.map X)<|O (z:=i) (by rw[ll];exact ai hi)<|O c ?_
     rw[kV];refine O ac ?_;by_cases b:y=x
     ·rw[zka b,zha<|show ¬ (y≠x) from λh=>h b];rfl
     ·rw[zfa b,zma<|show y≠x from b,show(!false)=true from rfl,zma rfl];refine O (z:=k) (by show D.idx (I (k:Int)) (o.map X).length=_;rw[ol];exact ai j)<|O d ?_
      rw[zma (by show(f.map X).length+1<=1073741824;rw[q];omega)]
      rw[<-app];rfl
   ·split
    ·simp;omega
    ·omega
   ·intro e;obtain⟨r1,G⟩:=q1 e;rw[zma<|λh=>r1 h.symm,G];simp
   ·intro e;rw[F e,List.filter_cons];by_cases b:y=x
    ·simp[b]
    ·simp[b]
  ·obtain⟨nx,put,rfl,t,m,p⟩:=g;refine⟨(0,[bc nx,.bool put]),?_,?_⟩
   ·exact O ag<|O ac<|ay (by show ¬ ((o.length:Int)<((o.map X).length:Int));rw[ol];omega) rfl
   ·have q:∀ a:List V,(a.map X).length=a.length:=λa=>zla ..;rw[zXc] at m p;refine O (z:=(0,[bc<|jo x o])) ?_<|O (az<|aB (i:=i) u0) rfl
    refine J (.bool<|!put)<|O ac ?_;cases put
    ·rw[show(!false)=true from rfl,zma rfl];refine J (l.map X)<|O (z:=i) (by rw[ll];exact ai hi)<|O c ?_
     rw[zma (by show(nx.map X).length+1<=1073741824;rw[q];omega)]
     rw[m rfl];simp[jo,bc,g0,D.els]
    ·have:=p rfl;simp[List.filter_nil,zic] at this;rw[this];rfl
 ·subst g;rw[zdb];refine⟨(0,[bc<|fd l]),?_,rfl⟩;exact J (l.map X)<|O ag<|O ac<|ay (by show ¬ ((l.length:Int)<((l.map X).length:Int));rw[ll];omega) rfl
structure FOk(l:List V)(F:FL):Prop where
 ord:F.Pairwise (λa b=>aH a.1.1 b.1.1)
 ok:∀ f∈F,IsF (y l) l.length f.1.1 f.1.2/\bU (y l) l.length f.1.1 f.1.2 f.2
theorem nX{f x:(V×Int)×List Nat}:∀ {L:FL},x∈nB f L↔x=f\/x∈L
 | []=>by simp[nB]
 | y::L=>by have ih:=nX (f:=f) (x:=x) (L:=L);grind [nB]
theorem Dp:∀ {L:FL},L.Pairwise (λa b=>aH a.1.1 b.1.1)->(∀ x∈L,x.1.1≠f.1.1)->(nB f L).Pairwise (λa b=>aH a.1.1 b.1.1)
 | [],_,_=>by simp[nB]
 | y::L,h,d=>by
  obtain⟨e,g⟩:=zNa.1 h;unfold nB;split
  ·rename_i k;refine zNa.2 ⟨λz c=>?_,h⟩;rcases zMa.1 c with rfl|c
   ·exact k
   ·exact nS k<|e z c
  ·rename_i k;refine zNa.2 ⟨λz c=>?_,Dp g λx hx=>d x<|zsa _ hx⟩;rcases nX.1 c with rfl|c
   ·rcases ur (d y zBa) with k'|k'
    ·exact k'
    ·simp_all
   ·grind
def Hc(l:List V):List (V×Int):=(List.range l.length).flatMap λi=>(List.range l.length).flatMap λj=>(List.range l.length).flatMap λk=>[(aQ<|gz (y l) i j k,V.dot (aQ<|gz (y l) i j k)<|y l i),((aQ<|gz (y l) i j k).neg,V.dot (aQ<|gz (y l) i j k).neg<|y l i)]
def IN(l:List V)(h:l.length<=100):(Hc l).length<=2000000:=by
 unfold Hc;rw[qR (c:=l.length*(l.length*2)) _ (λi _=>by rw[qR (c:=l.length*2) _ (λj _=>by rw[qR (c:=2) _<|λk _=>rfl,zec]),zec]),zec]
 have a1:l.length*2<=200:=u0
 have a2:=zHa h a1;exact zHa h a2
theorem I4{q:V×Int}(h:IsF (y l) l.length q.1 q.2):q∈Hc l:=by
 obtain⟨i,j,k,b,c,a,d,e,f⟩:=h.ex;refine zqb.2 ⟨i,zRa.2 u0,zqb.2 ⟨j,zRa.2 u0,zqb.2 ⟨k,zRa.2 a,?_⟩⟩⟩
 grind
def FOk.len(h:FOk l F)(hl:l.length<=100):F.length<=2000000:=by
 have nd:(F.map Prod.fst).Nodup:=by refine List.pairwise_map.2<|h.ord.imp λ{a b} c e=>?_;rw[e] at c;exact oN _ c
 have:=zjc (l₂:=Hc l) nd λq hq=>by obtain⟨f,d,rfl⟩:=zmb.1 hq;exact I4 (h.ok f d).1
 rw[zla] at this;exact zva this<|IN l hl
def FOk.insert(h:FOk l F)(a:∀ x∈F,x.1.1≠f.1.1)(b:IsF (y l) l.length f.1.1 f.1.2)(c:bU (y l) l.length f.1.1 f.1.2 f.2):FOk l (nB f F):=
 ⟨Dp h.ord a,λx hx=>by
  rcases nX.1 hx with rfl|hx
  ·simp_all
  ·exact h.ok x hx⟩
theorem xP{v:V}:aQ v=V.zero↔v=V.zero:=by
 constructor
 ·intro h;by_cases a:v=V.zero
  ·exact a
  ·exact z8a h<|v7 a
 ·simp_all [aQ,V.zero]
theorem Jo{v:V}:v.neg=V.zero↔v=V.zero:=by
 constructor
 ·intro h;by_cases a:v=V.zero
  ·exact a
  ·exact z8a h<|M9 a
 ·simp_all [V.neg,V.zero]
def ao{α β:Type}{A:Option α}{g:α->Option β}{z:α}{Y:β->Prop}(h:A=some z)(a:∃ y,g z=some y/\Y y):∃ y,Option.bind A g=some y/\Y y:=by simp_all
def jc{β:Type}{p:Prop}[Decidable p]{A B:Option β}{Y:β->Prop}(h:p)(a:∃ y,A=some y/\Y y):∃ y,(if decide p=true then A else B)=some y/\Y y:=by rw[zma<|zka h];exact a
def Bf{β:Type}{p:Prop}[Decidable p]{A B:Option β}{Y:β->Prop}(h:¬ p)(a:∃ y,B=some y/\Y y):∃ y,(if decide p=true then A else B)=some y/\Y y:=by rw[zha (by simpa using h)];exact a
theorem N9(n:Nat)(hl:∀ x∈l,bd MV x)(q:l.length<=100)(Z:KS l)(s:FOk l F){i k:Nat}(u:i<j)(v:j<k)(L:k<l.length){m:V}(hm:m=aQ (gz (y l) i j k)\/m=(aQ<|gz (y l) i j k).neg){α:Type}{g:D->Nat×List D->Option α}{Y:α->Prop}
  (t:∀ F':FL,FOk l F'->(∀ f∈F,f∈F')->(gz (y l) i j k≠V.zero->E1 (y l) l.length m (V.dot m<|y l i)->(m,V.dot m<|y l i)∈F'.map Prod.fst)->∃ a4,g (I<|V.dot m<|y l i) (0,[.sl<|aW F'])=some a4/\Y a4) :
  ∃ a4,((cA (n+4) 107 [X m,X<|y l i]).bind λo=>
  (cA (n+4) 108 [.sl<|aW F,X m]).bind λN=>
  Option.bind ((afP .not N).bind λS=>
  (D.truth S).bind λC=>
  Option.bind (if C then((afP .not<|D.bool<|D.beq (X m)<|D.st [D.int .i64 0,D.int .i64 0,D.int .i64 0]).bind λT=>
  D.truth T) else(some false)) λE=>
  (D.truth<|D.bool E).bind λG=>
  Option.bind (if G then((cA (n+4) 109 [bc l,X m,o]).bind λa0=>
  D.truth a0) else(some false)) λa2=>
  (D.truth<|D.bool a2).bind λa1=>
  if a1 then((cA (n+4) 111 [bc l,X m,o]).bind λQ=>
  (cA (n+4) 110 [.sl<|aW F,D.st [X m,o,Q]]).bind λR=>
  some (0,[R])) else(some (0,[.sl<|aW F]))) (g o))=some a4/\Y a4:=by
 have hi:i<l.length:=u0
 have U:=fP<|kc (pw (P:=y l) (hl _<|dh hi)<|hl _<|dh<|show j<l.length by omega)<|pw (P:=y l) (hl _<|dh hi)<|hl _<|dh L
 have K:bd 549755813888 m:=by
  rcases hm with rfl|rfl
  ·exact U
  ·exact tJ U
 have ad:=s.len q;have w:m=V.zero↔gz (y l) i j k=V.zero:=by all_goals grind [Jo,xP]
 refine ao (IE (n+3) K (hl _<|dh hi) H)<|ao (abK (n+3) F m u0) ?_
 obtain⟨d,hd⟩:∃ d,V.dot m (l.getD i V.zero)=d:=⟨_,rfl⟩;have c:V.dot m (y l i)=d:=hd;rw[c] at t;rw[c];by_cases hkn:(F.any λf=>decide (f.1.1=m))=true
 ·rw[hkn];refine ao (z:=(0,[.sl<|aW F])) (J (.bool false)<|J false<|J false<|J false<|J false<|J false rfl)<|t F s (λf b=>b) λB a=>?_;obtain⟨f,b,h⟩:=zsc.1 hkn;have h:f.1.1=m:=by simpa using h
  have W:=(s.ok f b).1;rw[h] at W;have h2:IsF (y l) l.length m d:=⟨⟨i,j,k,u,v,L,B,hm,c.symm⟩,a⟩;exact zmb.2 ⟨f,b,Prod.ext h<|IsF.d_eq W h2⟩
 ·rw[Bool.not_eq_true] at hkn;rw[hkn];have M:∀ f∈F,f.1.1≠m:=λf b e=>by
   grind
  by_cases hz:m=V.zero
  ·refine ao (z:=(0,[.sl<|aW F])) (J (.bool true)<|J true<|O (z:=false) ?_<|J false<|J false<|J false rfl)<|t F s (λf b=>b) λB a=>z8a (w.1 hz) B;rw[zma rfl,w8,kV,zka<|show m=⟨0,0,0⟩ from hz];rfl
  ·have B:gz (y l) i j k≠V.zero:=λe=>hz<|w.2 e;have a3:=abL (n+2) (d:=d) hl K H u0
   by_cases a:supp l (m,d)=true
   ·have r:IsF (y l) l.length m d:=⟨⟨i,j,k,u,v,L,B,hm,c.symm⟩,tn.1 a⟩;obtain⟨p,hp,_,_⟩:=r.poly Z;refine ao (z:=(0,[.sl<|aW<|nB ((m,d),p) F])) (J (.bool true)<|J true<|O (z:=true) ?_<|J true<|O (z:=true) ?_<|J true ?_)<|t _ (s.insert M r hp) (λf b=>nX.2<|.inr b) λ_ _=>zmb.2 ⟨((m,d),p),nX.2<|.inl rfl,rfl⟩
    ·rw[zma rfl,w8,kV,zfa<|show ¬ m=⟨0,0,0⟩ from hz];rfl
    ·rw[zma rfl];refine O a3 ?_;rw[ac];exact zEa some a
    ·rw[zma rfl];exact O (adc n hl q Z r K hp)<|O (abM (n+2) F ((m,d),p) u0) rfl
   ·refine ao (z:=(0,[.sl<|aW F])) (J (.bool true)<|J true<|O (z:=true) ?_<|J true<|O (z:=false) ?_<|J false rfl)<|t F s (λf b=>b) λ_ A=>z8a (tn.2 A) a
    ·rw[zma rfl,w8,kV,zfa<|show ¬ m=⟨0,0,0⟩ from hz];rfl
    ·rw[zma rfl];refine O a3 ?_;rw[ac];exact zEa some<|zpc.2 a
structure KnF(l:List V)(i j k:Nat)(F:FL):Prop where
 fok:FOk l F
 all:∀ i' j' k',i'<j'->j'<k'->k'<l.length->(i'<i\/i'=i/\(j'<j\/j'=j/\k'<k))->gz (y l) i' j' k'≠V.zero->∀ m,(m=aQ (gz (y l) i' j' k')\/m=(aQ<|gz (y l) i' j' k').neg)->E1 (y l) l.length m (V.dot m<|y l i')->(m,V.dot m<|y l i')∈F.map Prod.fst
def KnF.mono{i k m:Nat}(h:KnF l i j k F)(hm:∀ d b k',d<b->b<k'->k'<l.length->(d<a\/d=a/\(b<c\/b=c/\k'<m))->(d<i\/d=i/\(b<j\/b=j/\k'<k))):KnF l a c m F:=
 ⟨h.fok,λd b k' e f g n=>h.all d b k' e f g<|hm d b k' e f g n⟩
def KnF.facets(h:KnF l l.length 0 0 F):Facets (y l) l.length (F.map Prod.fst):=by
 refine⟨List.pairwise_map.2 h.fok.ord,λq=>⟨λhq=>?_,λhq=>?_⟩⟩
 ·obtain⟨f,p,rfl⟩:=zmb.1 hq;exact(h.fok.ok f p).1
 ·obtain⟨⟨i,j,k,g,n,o,e,a,b⟩,c⟩:=hq;obtain⟨m,d⟩:=q;simp only at a b c;subst b;exact h.all i j k g n o (.inl u0) e m a c
end
def mt(p:V):Nat->V
 | 0=>p
 | 1=>p.neg
 | _=>p
def c48(n:Nat){l:List V}(hl:∀ x∈l,bd MV x)(c:l.length<=100)(M:KS l):∃ F:FL,KnF l l.length 0 0 F/\cA (n+7) 48 [bc l]=some (.sl<|aW F):=by
 suffices h:∃ a3,cA (n+7) 48 [bc l]=some a3/\∃ F:FL,KnF l l.length 0 0 F/\a3=.sl (aW F) by grind
 rw[u48]
 delta F48 qN qX iL iR J0 J2 bq qA qa qb qc qj C ql qy qz
 have ll:(l.map X).length=l.length:=zla ..;refine nU (λi s=>∃ F:FL,s=[.sl<|aW F,I (i:Int)]/\KnF l i 0 0 F) l.length 0 (zoa _) ⟨[],rfl,⟨.nil,j2⟩,λo q k' d g r w=>u0⟩ (λi hi s a=>?_)<|λs a=>?_
 ·obtain⟨F,rfl,b⟩:=a;refine ao (z:=l.map X) rfl (ao ag<|ao ac<|jc (by show((i:Int)<((l.map X).length:Int));rw[ll];omega)<|ao (az<|aB (i:=i) u0) ?_)
  refine nU (λj s=>i+1<=j/\∃ F:FL,s=[.sl<|aW F,I (j:Int)]/\KnF l i j 0 F) l.length (i+1) u0 ⟨zja _,F,rfl,b.mono λo q k' d g r w=>u0⟩ (λj B s a=>?_)<|λs a=>?_
  ·obtain⟨E,F,rfl,b⟩:=a;refine ao (z:=l.map X) rfl (ao ag<|ao ac<|jc (by show((j:Int)<((l.map X).length:Int));rw[ll];omega)<|ao (az<|aB (i:=j) u0) ?_)
   refine nU (λk s=>j+1<=k/\∃ F:FL,s=[.sl<|aW F,I (k:Int)]/\KnF l i j k F) l.length (j+1) u0 ⟨zja _,F,rfl,b.mono λo q k' d g r w=>u0⟩ (λk v s a=>?_)<|λs a=>?_
   ·obtain⟨G,F,rfl,b⟩:=a;refine ao (z:=l.map X) rfl (ao ag<|ao ac<|jc (by show((k:Int)<((l.map X).length:Int));rw[ll];omega) ?_)
    refine ao (z:=l.map X) rfl (ao (z:=i) (by rw[ll];exact ai hi)<|ao (eH hi)<|ao (z:=l.map X) rfl (ao (z:=j) (by rw[ll];exact ai B)<|ao (eH B)<|ao (z:=l.map X) rfl (ao (z:=k) (by rw[ll];exact ai v)<|ao (eH v)<|ao (z:=X<|aQ<|gz (y l) i j k) (abJ n (hl _<|dh hi) (hl _<|dh B)<|hl _<|dh v) ?_)))
    have a1:bd 549755813888 (aQ<|gz (y l) i j k):=fP<|kc (pw (P:=y l) (hl _<|dh hi)<|hl _<|dh B)<|pw (P:=y l) (hl _<|dh hi)<|hl _<|dh v;obtain⟨p,hp⟩:∃ p,aQ (gz (y l) i j k)=p:=⟨_,rfl⟩;rw[hp] at a1 ⊢;have N:bd 0 V.zero:=by simp only[bd,V.zero];omega
    have e1:V.zero.sub p=p.neg:=by apply V.ext'<;>simp[V.sub,V.neg,V.zero]
    have e2:V.zero.sub p.neg=p:=by apply V.ext'<;>simp[V.sub,V.neg,V.zero]
    refine nU (λt s=>∃ F':FL,s=[.sl<|aW F',I (t:Int),X<|mt p t]/\FOk l F'/\(∀ f∈F,f∈F')/\(1<=t->gz (y l) i j k≠V.zero->E1 (y l) l.length p (V.dot p<|y l i)->(p,V.dot p<|y l i)∈F'.map Prod.fst)/\(2<=t->gz (y l) i j k≠V.zero->E1 (y l) l.length p.neg (V.dot p.neg<|y l i)->(p.neg,V.dot p.neg<|y l i)∈F'.map Prod.fst)) 2 0 u0 ⟨F,rfl,b.fok,λf u=>u,λh=>u0,λh=>u0⟩ (λt U s a=>?_)<|λs a=>?_
    ·obtain⟨F',rfl,A,D,a2,Q⟩:=a;refine ao ag<|ao ac<|jc (by show((t:Int)<2);omega)<|ao (z:=l.map X) rfl (ao (z:=i) (by rw[ll];exact ai hi)<|ao (eH hi) ?_)
     have a0:t=0\/t=1:=u0
     simp only[g0,g1,g2];rcases a0 with rfl|rfl
     ·rw[show mt p 0=p from rfl];refine N9 (n+2) hl c M A (show i<j by omega) (show j<k by omega) v (m:=p) (.inl hp.symm)<|λF2 Y K L=>?_
      refine⟨.inl [.sl<|aW F2,I ((0+1:Nat):Int),X p.neg],?_,?_⟩
      ·refine O (z:=X p.neg) ?_ ?_
       ·have:=IF (n+5) N a1 H
        rw[e1] at this;exact this
       ·exact O (az Rr) rfl
      ·exact⟨F2,rfl,Y,λf u=>K f<|D f u,λ_=>L,λh=>u0⟩
     ·rw[show mt p 1=p.neg from rfl];refine N9 (n+2) hl c M A (show i<j by omega) (show j<k by omega) v (m:=p.neg) (.inr (by rw[hp]))<|λF2 Y K L=>?_
      refine⟨.inl [.sl<|aW F2,I ((1+1:Nat):Int),X p],?_,F2,rfl,Y,λf u=>K f<|D f u,λ_ d g=>?_,λ_=>L⟩
      ·refine O (z:=X p) ?_ ?_
       ·have:=IF (n+5) N (tJ a1) H
        rw[e2] at this;exact this
       ·exact O (az yA) rfl
      ·grind
    ·obtain⟨F',rfl,A,D,a2,Q⟩:=a;refine⟨.inr (0,[.sl<|aW F']),O ag<|O ac<|ay H rfl,.inl [.sl<|aW F',I ((k+1:Nat):Int)],O (az<|aB (i:=k) u0) rfl,u0,F',rfl,A,λo q k' d g r w R m S T=>?_⟩
     by_cases e:o=i/\q=j/\k'=k
     ·grind
     ·obtain⟨f,u,e⟩:=zmb.1<|b.all o q k' d g r u0 R m S T
      grind
   ·obtain⟨G,F,rfl,b⟩:=a;refine⟨.inr (0,[.sl<|aW F]),?_,.inl [.sl<|aW F,I ((j+1:Nat):Int)],O (az<|aB (i:=j) u0) rfl,u0,F,rfl,b.mono λo q k' d g r w=>u0⟩
    exact J (l.map X)<|O ag<|O ac<|ay (by show ¬ ((l.length:Int)<((l.map X).length:Int));rw[ll];omega) rfl
  ·obtain⟨E,F,rfl,b⟩:=a;refine⟨.inr (0,[.sl<|aW F]),?_,.inl [.sl<|aW F,I ((i+1:Nat):Int)],O (az<|aB (i:=i) u0) rfl,F,rfl,b.mono λo q k' d g r w=>u0⟩
   exact J (l.map X)<|O ag<|O ac<|ay (by show ¬ ((l.length:Int)<((l.map X).length:Int));rw[ll];omega) rfl
 ·obtain⟨F,rfl,b⟩:=a;refine⟨.inr (0,[.sl<|aW F]),?_,.sl<|aW F,rfl,F,b,rfl⟩;exact J (l.map X)<|O ag<|O ac<|ay (by show ¬ ((l.length:Int)<((l.map X).length:Int));rw[ll];omega) rfl
section
variable{l:List V}
theorem aN(l:List V):(l.map X).length=l.length:=zla ..
theorem c13(n:Nat)(a b:List V)(t:a.length<=1000000):cA (n+1) 13 [bc a,bc b]=some (.bool<|decide (a=b)):=by
 refine eN F13 ?_
 delta F13 qS qX iL iR J0 S bT jl nq qj ql qr qt qy
 refine J (a.map X)<|J (b.map X) ?_;rw[aN,aN,dP];by_cases hab:a.length=b.length
 ·rw[zka hab];refine J false ?_;rw[zha H]
  refine aV (λi s=>s=[I (i:Int)]/\a.take i=b.take i) a.length 0 (zoa _) ⟨rfl,j2⟩ (λi hi s h=>?_)<|λs h=>?_
  ·obtain⟨rfl,j⟩:=h;have f:i<b.length:=u0
   have pre:∀ z,((D.truth<|D.bool<|!(D.beq (X<|a.getD i V.zero)<|X<|b.getD i V.zero)).bind λc=>
     if c then(some<|Sum.inr (0,[D.bool false])) else((afA .add (I (i:Int))<|D.int .i64 1).bind λd=>some<|Sum.inl [d]))=some z ->
     ((D.asSl<|bc a).bind λq=>(afA .lss (I (i:Int))<|D.int .i64<|List.length q).bind λr=>(D.truth r).bind λo=>
     if o then((D.asSl<|bc a).bind λm=>(D.idx (I (i:Int))<|List.length m).bind λp=>(m[p]?).bind λk=>(D.asSl<|bc b).bind λg=>(D.idx (I (i:Int))<|List.length g).bind λyA=>(g[yA]?).bind λl=>
     (D.truth<|D.bool<|!(D.beq k l)).bind λc=>
     if c then(some<|Sum.inr (0,[D.bool false])) else((afA .add (I (i:Int))<|D.int .i64 1).bind λd=>some<|Sum.inl [d])) else(some (Sum.inr (1,[]):Sum (List D)<|Nat×List D)))=some z:=λz j=>
    J (a.map X) (O ag<|O ac<|au (by show((i:Int)<((a.map X).length:Int));rw[aN];omega)<|J (a.map X)<|O (z:=i) (by rw[aN];exact ai hi)<|O (eH hi)<|J (b.map X)<|O (z:=i) (by rw[aN];exact ai f)<|O (eH f) j)
   rw[kV] at pre;by_cases he:a.getD i V.zero=b.getD i V.zero
   ·left;refine⟨[I ((i+1:Nat):Int)],pre _ ?_,rfl,?_⟩
    ·rw[zka he];refine J false ?_;rw[zha H]
     exact O (az<|aB (i:=i) u0) rfl
    ·grind [List.take_succ_eq_append_getElem]
   ·right;refine⟨(0,[.bool false]),pre _ ?_,?_⟩
    ·rw[zfa he];rfl
    ·rw[zfa<|λe=>he (by rw[e])];rfl
  ·obtain⟨rfl,j⟩:=h;refine⟨(1,[]),?_,?_⟩
   ·exact J (a.map X)<|O ag<|O ac<|ay (by show ¬ ((a.length:Int)<((a.map X).length:Int));rw[aN];omega) rfl
   ·grind
 ·rw[zfa hab,zfa<|λe=>hab (by rw[e])]
  rfl
instance decBd (k:Int) (v:V):Decidable (bd k v):=by unfold bd;exact inferInstance
def rX(v:V):Nat->Int
 | 0=>v.x
 | 1=>v.y
 | _=>v.z
def Mg(v:V){t:Nat}(h:t<3):D.fld (X v) t=some (I<|rX v t):=by
 have:t=0\/t=1\/t=2:=u0
 rcases this with rfl|rfl|rfl<;>rfl
theorem G4{v:V}:bd MV v↔∀ t,t<3->¬ (rX v t>262144)/\¬ (rX v t < -262144):=by
 constructor
 ·intro h t c;have:t=0\/t=1\/t=2:=u0
  grind [bd,MV,rX]
 ·intro h;have h0:=h 0 H;have a:=h 1 H;have b:=h 2 H
  simp_all [rX,bd,MV]
def lL(F:FL)(i:Nat):Bool:=F.any λf=>f.2.any λx=>decide (x=i)
def eh(S:List V)(F:FL)(k:Nat):List V:=((List.range k).filter<|lL F).map<|y S
theorem GK(S:List V)(F:FL)(k:Nat):eh S F (k+1)=if lL F k then eh S F k++[y S k] else eh S F k:=by grind [eh,List.range_succ]
theorem AF(S:List V)(F:FL)(k:Nat):(eh S F k).length<=k:=by grind [eh,List.length_map]
def Fh(e:Int):D:=.st [.st [.sl []],I e]
def HG(S:List V)(F:FL):D:=if F.length=0 then Fh 120 else if F.length>64 then Fh 2 else .st [.st [bc<|eh S F S.length],I 0]
def O0(n:Nat)(h:64<l.length):cA (n+1) 12 [bc l]=some (Fh 2):=by
 refine fN Sv ?_
 delta Sv qC qT qS qX qV qW iL iR Jn J0 J1 J2 J3 S bq jl qO qb qc qe qf qh qi qj C ql qt qu qy
 exact J (l.map X)<|O bR<|O ac<|au (by show((l.map X).length:Int)>64;rw[aN];omega) rfl
def VM{i:Nat}(hi:i<l.length){α:Type}{k:Nat×List D->Option α}{y:α}(E:k (if bd MV (l.getD i V.zero) then(1,[.sl [],I 0]) else(0,[.sl [],I 1]))=some y) :
  Option.bind (cB (λ(j:List D)=>
 (afA .lss (Z j 0)<|D.int .i64 3).bind λN=>
 (D.truth N).bind λm=>
 if m then((D.asSl<|bc l).bind λc=>
 (D.idx (I (i:Int))<|List.length c).bind λyA=>
 (c[yA]?).bind λv=>
 (D.idx (Z j 0) 3).bind λq=>
 (D.fld v q).bind λw=>
 (afA .gtr w<|D.int .i64 262144).bind λx=>
 (D.truth x).bind λn=>
 Option.bind (if n then(some true) else((D.asSl<|bc l).bind λd=>
 (D.idx (I (i:Int))<|List.length d).bind λr=>
 (d[r]?).bind λA=>
 (D.idx (Z j 0) 3).bind λu=>
 (D.fld A u).bind λB=>
 (afA .lss B<|D.int .i64<|-262144).bind λC=>
 D.truth C)) λo=>
 (D.truth<|D.bool o).bind λp=>
 if p then(some<|Sum.inr (0,[D.sl [],D.int .i64 1])) else((afA .add (Z j 0)<|D.int .i64 1).bind λf=>
 some (Sum.inl [f,D.sl<|D.els<|Z j 1,Z j 2]))) else(some<|Sum.inr (1,[D.sl<|D.els<|Z j 1,Z j 2]))) [D.int .i64 0,.sl [],I 0]) k=some y:=by
 refine c8 (λt s=>s=[I (t:Int),.sl [],I 0]/\∀ t',t'<t->¬ (rX (l.getD i V.zero) t'>262144)/\¬ (rX (l.getD i V.zero) t' < -262144)) 3 0 H ⟨rfl,λt' h=>u0⟩ (λt G s F=>?_)<|λs F=>?_
 ·obtain⟨rfl,P⟩:=F;have K:=Mg (l.getD i V.zero) G;have L:=ai G;have pre:∀ z,(if decide (rX (l.getD i V.zero) t>262144\/rX (l.getD i V.zero) t < -262144)=true then(some<|Sum.inr (0,[D.sl [],D.int .i64 1])) else((afA .add (I (t:Int))<|D.int .i64 1).bind λf=>some<|Sum.inl [f,.sl [],I 0]))=some z->_:=λ(z:Sum (List D)<|Nat×List D) hz'=>
   O (g:=λN=>(D.truth N).bind λm=>if m then((D.asSl<|bc l).bind λc=>(D.idx (I (i:Int))<|List.length c).bind λyA=>(c[yA]?).bind λv=>(D.idx (I (t:Int)) 3).bind λq=>(D.fld v q).bind λw=>(afA .gtr w<|D.int .i64 262144).bind λx=>(D.truth x).bind λn=>
    Option.bind (if n then(some true) else((D.asSl<|bc l).bind λd=>(D.idx (I (i:Int))<|List.length d).bind λr=>(d[r]?).bind λA=>(D.idx (I (t:Int)) 3).bind λu=>(D.fld A u).bind λB=>(afA .lss B<|D.int .i64<|-262144).bind λC=>D.truth C)) λo=>
    (D.truth<|D.bool o).bind λp=>
    if p then(some<|Sum.inr (0,[D.sl [],D.int .i64 1])) else((afA .add (I (t:Int))<|D.int .i64 1).bind λf=>some<|Sum.inl [f,.sl [],I 0])) else(some<|Sum.inr (1,[.sl [],I 0])))
    (ag (a:=(t:Int)) (b:=3)) (y:=z) (O ac (au u0 (J (l.map X) (O (z:=i) (by rw[aN];exact ai hi) (O (eH hi) (O L (O K (O bR (O ac (O (z:=decide (rX (l.getD i V.zero) t>262144\/rX (l.getD i V.zero) t < -262144)) (by
     by_cases h1:rX (l.getD i V.zero) t>262144
     ·refine au h1 ?_;rw[zka<|.inl h1]
     ·refine ay h1<|J (l.map X)<|O (z:=i) (by rw[aN];exact ai hi)<|O (eH hi)<|O L<|O K<|O ag ?_
      rw[ac];congr 1;rw[decide_eq_decide];exact⟨.inr,λh=>h.resolve_left h1⟩)<|O ac hz'))))))))))
  by_cases hb:rX (l.getD i V.zero) t>262144\/rX (l.getD i V.zero) t < -262144
  ·right;refine⟨_,pre _<|au hb rfl,?_⟩;rw[zha (λh=>by have:=G4.1 h t G;omega)] at E
   exact E
  ·left;refine⟨[I ((t+1:Nat):Int),.sl [],I 0],pre _<|ay hb<|O (az<|aB (i:=t) u0) rfl,rfl,λt' M=>?_⟩
   by_cases e:t'=t
   ·subst e;omega
   ·exact P t' u0
 ·obtain⟨rfl,P⟩:=F;refine⟨(1,[.sl [],I 0]),O ag<|O ac<|ay H rfl,?_⟩
  rw[zma<|G4.2 P] at E;exact E
def OZ(n:Nat)(d:l.length<=64)(e:¬ ∀ x∈l,bd MV x):cA (n+1) 12 [bc l]=some (Fh 1):=by
 refine fN Sv ?_
 delta Sv qC qT qS qX qV qW iL iR Jn J0 J1 J2 J3 S bq jl qO qb qc qe qf qh qi qj C ql qt qu qy
 refine J (l.map X)<|O bR<|O ac<|ay (by show ¬ ((l.map X).length:Int)>64;rw[aN];omega) ?_
 refine aV (λi s=>s=[I (i:Int),.sl [],I 0]/\∀ x∈l.take i,bd MV x) l.length 0 (zoa _) ⟨rfl,j2⟩ (λi hi s c=>?_)<|λs c=>?_
 ·obtain⟨rfl,b⟩:=c;by_cases hx:bd MV<|l.getD i V.zero
  ·left;refine⟨[I ((i+1:Nat):Int),.sl [],I 0],?_,rfl,λx a=>?_⟩
   ·refine J (l.map X)<|O ag<|O ac<|au (by show((i:Int)<((l.map X).length:Int));rw[aN];omega)<|VM hi ?_
    rw[zma hx,zha<|show ¬ (1:Nat)=0 by decide]
    exact O (az<|aB (i:=i) u0) rfl
   ·rw[zAa hi] at a;rcases zJa.1 a with h|h
    ·exact b x h
    ·rw[zSa.1 h];simpa [List.getD,hi] using hx
  ·right;refine⟨(0,[.sl [],I 1]),?_,rfl⟩;refine J (l.map X)<|O ag<|O ac<|au (by show((i:Int)<((l.map X).length:Int));rw[aN];omega)<|VM hi ?_
   rw[zha hx];rfl
 ·obtain⟨rfl,b⟩:=c;rw[zdb] at b;exact z8a b e
theorem Lo(n:Nat)(b:l.length<=64)(hl:∀ x∈l,bd MV x){F:FL}(t:∀ f∈F,f.2.length<=1000000)(A:F.length<=3000000)(e:cA (n+2) 48 [bc<|fd l]=some (.sl<|aW F)):cA (n+3) 12 [bc l]=some (HG (fd l) F):=by
 refine fN Sv ?_
 delta Sv qC qT qS qX qV qW iL iR Jn J0 J1 J2 J3 S bq jl qO qb qc qe qf qh qi qj C ql qt qu qy
 refine J (l.map X)<|O bR<|O ac<|ay (by show ¬ ((l.map X).length:Int)>64;rw[aN];omega) ?_
 refine aV (λi s=>s=[I (i:Int),.sl [],I 0]) l.length 0 (zoa _) rfl (λi hi s a=>?_) (λs a=>?_)
 ·subst a;left;refine⟨[I ((i+1:Nat):Int),.sl [],I 0],?_,rfl⟩;refine J (l.map X)<|O ag<|O ac<|au (by show((i:Int)<((l.map X).length:Int));rw[aN];omega)<|VM hi ?_
  rw[zma<|hl _<|dh hi,zha<|show ¬ (1:Nat)=0 by decide]
  exact O (az<|aB (i:=i) u0) rfl
 ·subst a;refine⟨(1,[.sl [],I 0]),J (l.map X) (O ag<|O ac<|ay (by show ¬ ((l.length:Int)<((l.map X).length:Int));rw[aN];omega) rfl),?_⟩
  rw[zha<|show ¬ (1:Nat)=0 by decide]
  have m:=zva (ti l) b;refine O (c47 n l u0)<|O e<|J (aW F) ?_
  obtain⟨a1,B⟩:∃ a1,fd l=a1:=⟨_,rfl⟩;rw[B] at m ⊢;rw[bO,show D.beq (D.int .i64 (F.length:Nat)) (D.int .i64 0)=decide (F.length=0) from dP F.length 0];refine O ac ?_;unfold HG;by_cases h0:F.length=0
  ·refine au h0 ?_;rw[zma h0];rfl
  refine ay h0<|J (aW F)<|O bR<|O ac ?_;rw[zha h0];by_cases h64:F.length>64
  ·refine au (by rw[bO];omega) ?_
   rw[zma h64];rfl
  refine ay (by rw[bO];omega) ?_
  rw[zha h64];refine aV (λi s=>s=[I (i:Int),.sl [],I 0,bc<|eh a1 F i,I 0]) a1.length 0 (zoa _) rfl (λi hi s a=>?_) (λs a=>?_)
  ·subst a;left;refine⟨[I ((i+1:Nat):Int),.sl [],I 0,bc<|eh a1 F<|i+1,I 0],?_,rfl⟩;have a0:=AF a1 F i;refine J (a1.map X)<|O ag<|O ac<|au (by show((i:Int)<((a1.map X).length:Int));rw[aN];omega) ?_
   refine O (z:=(0,[.sl [],I 0,bc<|eh a1 F<|i+1,I 0])) ?_<|O (az<|aB (i:=i) u0) rfl
   refine c8 (λk s=>s=[.bool<|lL (F.take k) i,I (k:Int),.sl [],I 0,bc<|eh a1 F i,I 0]) F.length 0 (zoa _) rfl (λk q s a=>?_) (λs a=>?_)
   ·subst a;left;refine⟨[.bool<|lL (F.take<|k+1) i,I ((k+1:Nat):Int),.sl [],I 0,bc<|eh a1 F i,I 0],?_,rfl⟩;have r:=t F[k]<|zya q;have e1:lL (F.take<|k+1) i=(lL (F.take k) i||F[k].2.any λx=>decide (x=i)):=by
     grind [lL,List.take_succ_eq_append_getElem]
    refine J (aW F)<|O ag<|O ac<|au (by show((k:Int)<((aW F).length:Int));rw[bO];omega) ?_
    have d:∀ {β:Type} {g:List D->Option β} {G:β},g (E F[k].2)=some G->((D.asSl<|.sl<|aW F).bind λc=>(D.idx (I (k:Int))<|List.length c).bind λu=>(c[u]?).bind λv=>(D.fld v 2).bind λw=>(D.asSl w).bind g)=some G:=λh=> J (aW F)<|O (z:=k) (by rw[bO];exact ai q)<|O (jX q)<|J (.sl<|E F[k].2)<|J (E F[k].2) h
    rw[e1];generalize lL (F.take k) i=b0;obtain⟨p,hp⟩:∃ p,F[k].2=p:=⟨_,rfl⟩;rw[hp] at r d ⊢;refine c8 (λj s=>s=[.bool<|b0||(p.take j).any λx=>decide (x=i),I (j:Int),.sl [],I 0,bc<|eh a1 F i,I 0]) p.length 0 (zoa _) (by rw[List.take_zero,List.any_nil,Bool.or_false];rfl) (λj o s a=>?_)<|λs a=>?_
    ·subst a;left;refine⟨[.bool<|b0||(p.take<|j+1).any λx=>decide (x=i),I ((j+1:Nat):Int),.sl [],I 0,bc<|eh a1 F i,I 0],?_,rfl⟩;refine d<|O ag<|O ac<|au (by show((j:Int)<((E p).length:Int));rw[am];omega)<|O ac<|O (z:=b0||(p.take<|j+1).any λx=>decide (x=i)) ?_<|O (az<|aB (i:=j) u0) rfl
     rw[zAa o,List.any_append];generalize (p.take j).any (λx=>decide (x=i))=b1;cases hb:(b0||b1)
     ·rw[<-Bool.or_assoc,hb,zha H]
      refine d<|O (z:=j) (by rw[am];exact ai o)<|O (mK o) ?_
      simp_all [dP,List.getD,ac]
     ·grind
    ·subst a;rw[zdb];refine⟨(0,[.bool<|b0||p.any λx=>decide (x=i),.sl [],I 0,bc<|eh a1 F i,I 0]),d (O ag<|O ac<|ay (by show ¬ ((p.length:Int)<((E p).length:Int));rw[am];omega) rfl),?_⟩
     exact O (az<|aB (i:=k) u0) rfl
   ·subst a;rw[zdb];refine⟨(0,[.bool<|lL F i,.sl [],I 0,bc<|eh a1 F i,I 0]),?_,?_⟩
    ·exact J (aW F)<|O ag<|O ac<|ay (by show ¬ ((F.length:Int)<((aW F).length:Int));rw[bO];omega) rfl
    ·rw[GK];refine O (z:=lL F i) ac ?_;cases lL F i
     ·rfl
     ·rw[zma rfl,zma rfl];refine J (a1.map X)<|O (z:=i) (by rw[aN];exact ai hi)<|O (eH hi) ?_
      rw[zma (by show((eh a1 F i).map X).length+1<=1073741824;rw[aN];omega)]
      have:D.sl ((eh a1 F i).map X++[X<|a1.getD i V.zero])=bc (eh a1 F i++[y a1 i]):=by simp[bc,y]
      rw[<-this];rfl
  ·subst a;refine⟨(0,[.sl [],I 0,bc<|eh a1 F a1.length,I 0]),?_,rfl⟩;exact J (a1.map X)<|O ag<|O ac<|ay (by show ¬ ((a1.length:Int)<((a1.map X).length:Int));rw[aN];omega) rfl
def xN(i:KS l){m:V}{d:Int}(f:IsF (y l) l.length m d){p:List Nat}(hp:bU (y l) l.length m d p):p.Nodup/\p.length<=l.length/\0<p.length/\∀ x∈p,x<l.length:=by
 obtain⟨k,h,c,b⟩:=f.poly i;have e:=bU.eq i f hp h;subst e;obtain⟨a,_,j,g,_,_⟩:=f.head i;have hm:=(b a).2 ⟨j,g⟩;refine⟨c,?_,zYc.2 (λe=>by rw[e] at hm;cases hm),λx hx=>(aU.1 ((b x).1 hx).1).1⟩
 have:=zjc (l₂:=List.range l.length) c λx hx=>zRa.2 (aU.1 ((b x).1 hx).1).1
 simp_all
def Qy(hl:∀ x∈l,bd MV x):∀ x∈fd l,bd MV x:=λx hx=>hl x<|DD.1 hx
def c12(n:Nat)(c:l.length<=100):(64<l.length/\cA (n+8) 12 [bc l]=some (Fh 2))\/(l.length<=64/\(¬ ∀ x∈l,bd MV x)/\cA (n+8) 12 [bc l]=some (Fh 1)) ∨
  (l.length<=64/\(∀ x∈l,bd MV x)/\∃ F:FL,KnF (fd l) (fd l).length 0 0 F/\cA (n+8) 12 [bc l]=some (HG (fd l) F)):=by
 by_cases h64:64<l.length
 ·exact .inl ⟨h64,O0 (n+7) h64⟩
 ·by_cases hb:∀ x∈l,bd MV x
  ·right;right;refine⟨u0,hb,?_⟩
   have g:=ti l;have b:=NS<|ye l;obtain⟨F,a,d⟩:=c48 n (Qy hb) u0 b
   refine⟨F,a,Lo (n+5) u0 hb (λf e=>?_) (zva (a.fok.len u0) H) d⟩
   obtain⟨q1,h⟩:=a.fok.ok f e;have:=(xN b q1 h).2.1;omega
  ·exact .inr<|.inl ⟨u0,hb,OZ (n+7) u0 hb⟩
def J6(S:List V)(F:FL):(eh S F S.length).Sublist S:=by
 have a:((List.range S.length).map<|y S)=S:=by
  apply zTb;intro i;by_cases h:i<S.length
  ·rw[z4b,List.getElem?_range h];simp[y,List.getD,h]
  ·simp_all
 have b:(eh S F S.length).Sublist ((List.range S.length).map<|y S):=List.Sublist.map _ List.filter_sublist
 simp_all
theorem c15(n:Nat){l:List V}(c:l.length<=100):(∃ e:Int,cA (n+9) 15 [bo l]=some (I e)/\e≠0)\/(cA (n+9) 15 [bo l]=some (I 0)/\l.length<=64/\(∀ x∈l,bd MV x)/\∃ F:FL,KnF (fd l) (fd l).length 0 0 F/\F.length≠0/\F.length<=64/\eh (fd l) F (fd l).length=l):=by
 rw[u15]
 delta F15 Q qT J0 J3 bq qA C qz
 have err:∀ e:Int,e≠0->cA (n+8) 12 [bc l]=some (Fh e)->∃ e:Int,((D.get (bo l) [0]).bind λx1=>
 (cA (n+8) 12 [x1]).bind λi=>
 (D.get i [1]).bind λs=>
 (D.truth<|D.bool<|D.beq s<|D.int .i64 0).bind λm=>
 Option.bind (if m then((D.get i [0,0]).bind λt=>
 (D.get (bo l) [0]).bind λu=>
 (cA (n+8) 13 [t,u]).bind λr=>
 (afP .not r).bind λv=>
 D.truth v) else(some false)) λo=>
 (D.truth<|D.bool o).bind λd=>
 if d then(some<|D.int .i64 3) else((D.get i [1]).bind λj=>
 some j))=some (I e)/\e≠0:=λe k h=>⟨e,by refine J (bc l)<|O h<|J (I e)<|O (z:=false) ?_<|J false<|J false rfl;rw[show D.beq (I e) (D.int .i64 0)=decide (e=0) from cc,zfa k];rfl,k⟩
 rcases c12 n c with⟨f,g⟩|⟨h0,f,g⟩|⟨h0,f,F,g,b⟩
 ·grind
 ·grind
 ·unfold HG at b;by_cases f0:F.length=0
  ·grind
  ·rw[zha f0] at b;by_cases f1:F.length>64
   ·grind
   ·rw[zha f1] at b;have q:=AF (fd l) F (fd l).length;have p:=ti l;have a:=c13 (n+7) (eh (fd l) F (fd l).length) l u0
    by_cases hv:eh (fd l) F (fd l).length=l
    ·rw[zka hv] at a;refine .inr ⟨?_,h0,f,F,g,f0,u0,hv⟩
     refine J (bc l)<|O b<|J (I 0)<|J true<|O (z:=false) ?_<|J false rfl;rw[zma rfl];exact J (bc<|eh (fd l) F (fd l).length)<|J (bc l)<|O a rfl
    ·rw[zfa hv] at a;refine .inl ⟨3,?_,H⟩
     refine J (bc l)<|O b<|J (I 0)<|J true<|O (z:=true) ?_<|J true rfl;rw[zma rfl];exact J (bc<|eh (fd l) F (fd l).length)<|J (bc l)<|O a rfl
end
def jD(n:Nat){x y:Int}(hx:In x)(c:In y)(h:In<|x*y):cA (n+3) 61 [M x,M y]=some (M<|x*y):=by
 have:=c61 n (a:=some x) (b:=some y) (bi hx)<|bi c
 rwa [show sQ (some x) (some y)=some (x*y) from vS h] at this
def rT(n:Nat){x y:Int}(hx:In x)(c:In y)(h:In<|x+y):cA (n+4) 57 [M x,M y]=some (M<|x+y):=by
 have:=c57 n (a:=some x) (b:=some y) (bi hx)<|bi c
 rwa [show Cy (some x) (some y)=some (x+y) from vS h] at this
def fr{α:Type}{A B y:α}(h:A=y):(if true=true then A else B)=y:=h
def O2(n:Nat){v:V}(a:inR v.x)(b:inR v.y)(c:inR v.z):cA (n+3) 148 [X v]=some (iD v):=by
 refine fN ST ?_;delta ST iL iR J0 J3 S qc qf qi qj C qs qy;obtain⟨Z,d⟩:∃ Z,(D.st [D.bool false,D.bool false,aw aY])=Z:=⟨_,rfl⟩;rw[d];refine aK (s':=[I 1,.st [M v.x,Z,Z]]) ?_<|aK (s':=[I 2,.st [M v.x,M v.y,Z]]) ?_<|aK (s':=[I 3,iD v]) ?_<|dT (r:=(0,[iD v])) ?_ rfl
 ·exact J (.bool true)<|J true<|fr<|J 0<|J (I v.x)<|O (oE n a)<|J 0<|J (.st [M v.x,Z,Z])<|J (I 1) rfl
 ·exact J (.bool true)<|J true<|fr<|J 1<|J (I v.y)<|O (oE n b)<|J 1<|J (.st [M v.x,M v.y,Z])<|J (I 2) rfl
 ·exact J (.bool true)<|J true<|fr<|J 2<|J (I v.z)<|O (oE n c)<|J 2<|J (iD v)<|J (I 3) rfl
 ·exact J (.bool false)<|J false rfl
section
variable{q y:Rat}
def Bv{m k:Nat}(h:m<=2^k)(a:k<=511):m<eM:=by
 have:In (m:Int):=bD a (by rw[zia];exact h)
 have:=aE.1 this
 rwa [zia] at this
def F9{a b k:Nat}(c:a<=2^k)(d:b<=2^k):a+b<=2^(k+1):=by rw[z2b];omega
def eY(q:Rat)(a k:Nat):Prop:=q.num.natAbs<=2^a/\q.den<=2^k
def eO{x d:Int}{a k:Nat}(hx:x.natAbs<=2^a)(e:d.natAbs<=2^k)(h0:d≠0):eY (Rat.divInt x d) a k:=by obtain⟨b,c⟩:=gE x h0;exact⟨zva b hx,zva c e⟩
def mA{x:Int}{a:Nat}(hx:x.natAbs<=2^a):eY (x:Rat) a 0:=⟨by simpa using hx,j2⟩
theorem eY.inR{a k:Nat}(h:eY q a k)(b:a<=511:=by decide)(c:k<=511:=by decide):InR q:=
 ⟨bD b h.1,bD c (by rw[zia];exact h.2)⟩
theorem eY.fitM{x:Rat}{a k b m:Nat}(hx:eY x a k)(c:eY y b m)(d:a+b<=511:=by decide)(e:k+m<=511:=by decide):fitM x y:=
 ⟨Bv (ca hx.1 c.1<|zja _) d,Bv (ca hx.2 c.2<|zja _) e⟩
theorem eY.fitA{x:Rat}{a k b m:Nat}(hx:eY x a k)(c:eY y b m)(d:a+m<=510:=by decide)(e:b+k<=510:=by decide)(f:k+m<=511:=by decide):fitA x y:=by refine⟨?_,Bv (ca hx.2 c.2<|zja _) f⟩;have e1:=ca hx.1 c.2 d;have e2:=ca c.1 hx.2 e;exact Bv (k:=510+1) (F9 e1 e2) H
def XY(t:T3):D:=.st [.st [X t.1,X t.2.1,X t.2.2],M<|vol t]
def Rj(T:List T3):List D:=T.map XY
theorem Kg.take{T:List T3}{N:Nat}(h:Kg T N)(i:Nat):Kg (T.take i) N:=
 ⟨zva (by rw[zkb];omega) h.1,λt a=>h.2 t<|zUa a⟩
end
def Mw{S:List V}(b:KS S){F:FL}(e:FOk S F){k:Nat}(h:lL F k=true):Xb (y S) S.length k:=by
 obtain⟨f,g,d⟩:=zsc.1 h;obtain⟨x,hx,a⟩:=zsc.1 d;have a:x=k:=by simpa using a
 subst a;obtain⟨q1,i⟩:=e.ok f g;obtain⟨p,p1,_,c⟩:=q1.poly b;rw[<-bU.eq b q1 i p1] at c;obtain⟨r1,j⟩:=(c x).1 hx;exact⟨_,_,q1,r1,j⟩
section
variable{q y:Rat}
def Ls(n:Nat):cA (n+3) 169 []=some (M 1):=by refine Zh SZ ?_;delta SZ J1 C;exact O (oE n<|bX 1) rfl
def O1(n:Nat){x:Int}(hx:In x):cA (n+1031) 138 [M x]=some (B (x:Rat)):=by
 refine fN SL ?_;unfold SL;refine O (Ls<|n+1027)<|O (Lz n hx KO H) ?_
 rw[C0]
def EQ(n:Nat){x:Int}(hx:inR x):cA (n+1032) 74 [I x]=some (B (x:Rat)):=by refine fN F74 ?_;unfold F74;exact O (oE (n+1029) hx)<|O (O1 n<|br hx) rfl
def nH(n:Nat)(h:InR q):cA (n+1030) 136 [B q]=some (.bool true):=by
 rw[J5];delta Ct Q qT J0 bq qa qe qh C;have hp:=q.den_pos;refine J (M q.num)<|O (IH (n+1027) h.1)<|J true<|O (z:=true) (fr ?_)<|J true<|O (z:=true) (fr ?_)<|J true<|O (z:=true) (fr ?_) rfl
 ·exact J (M (q.den:Int))<|O (IH (n+1027) h.2) rfl
 ·refine J (M (q.den:Int))<|O (ls (n+1026) h.2)<|O bR ?_;rw[gW u0];rfl
 ·refine J (M q.num)<|J (M (q.den:Int))<|O (wH n h.1 h.2)<|O (Ls<|n+1026) ?_;have e:Nat.gcd q.num.natAbs (q.den:Int).natAbs=1:=q.reduced;rw[e];show D.truth (.bool<|D.beq (M 1)<|M 1)=_;rw[Xg];rfl
theorem Aw{x:Rat}{a b g:Nat}(d:x.den=g*a)(e:y.den=g*b)(c:(a:Int)*y.den≠0):Rat.divInt (x.num*b+y.num*a) ((a:Int)*y.den)=x+y:=by
 conv=>rhs;rw[<-z7a x,<-z7a y]
 rw[zwd _ _ (bQ x)<|bQ y,Rat.divInt_eq_divInt_iff c (by have:=bQ x;have:=bQ y;exact zLc ‹_› ‹_›)]
 have f:(x.den:Int)=g*a:=by rw[d,z1a]
 have h:(y.den:Int)=g*b:=by rw[e,z1a]
 rw[f,h];grind
theorem ab2(n:Nat){x:Rat}(hx:InR x)(d:InR y)(G:fitA x y):cA (n+1031) 173 [B x,B y]=some (B<|x+y):=by
 rw[WA];delta KA Q qN qO C qz;obtain⟨D,E⟩:=G;refine O (nH n hx)<|J (.bool false)<|J false<|O (z:=false) ?_<|J false ?_
 ·rw[zha H]
  exact O (nH n d)<|J (.bool false) rfl
 rw[zha H]
 obtain⟨g,l⟩:∃ g,g=Nat.gcd x.den y.den:=⟨_,rfl⟩;have o:=x.den_pos;have hyp:=y.den_pos;have g1:g ∣ x.den:=l ▸ zhb _ _;have g2:g ∣ y.den:=l ▸ znb _ _;have q:0<g:=by simp_all
 obtain⟨a,e⟩:=g1;obtain⟨b,j⟩:=g2;have p:In (g:Int):=iI.2<|zLa (zfd o ⟨a,e⟩)<|iI.1 hx.2;have g0:(g:Int)≠0:=u0
 have A:(x.den:Int)/(g:Int)=(a:Int):=by rw[e,z1a];exact zZa _ g0
 have S:(y.den:Int)/(g:Int)=(b:Int):=by rw[j,z1a];exact zZa _ g0
 have c:a<=x.den:=by rw[e];exact zjb _ q
 have i:b<=y.den:=by rw[j];exact zjb _ q
 have a0:0<a:=Nat.pos_of_ne_zero λh=>by rw[h] at e;omega
 have f:In (a:Int):=iI.2<|zLa c<|iI.1 hx.2;have k:In (b:Int):=iI.2<|zLa i<|iI.1 d.2;have m1:x.num.natAbs*b<=x.num.natAbs*y.den:=z6a _ i;have m2:y.num.natAbs*a<=y.num.natAbs*x.den:=z6a _ c;have F:a*y.den<=x.den*y.den:=zKa _ c;have i1:In (x.num*b):=aE.2 (by rw[zwa,zia];omega)
 have u:In (y.num*a):=aE.2 (by rw[zwa,zia];omega)
 have v:In (x.num*b+y.num*a):=aE.2 (by have:=zUb (x.num*b)<|y.num*a;rw[zwa,zwa,zia,zia] at this;omega)
 have w:In ((a:Int)*y.den):=aE.2 (by rw[<-z1a,zia];omega)
 have r:=wH (n+1) hx.2 d.2;rw[zia,zia,<-l] at r;have s:=vw (n+1024) hx.2 p g0 ⟨a,by rw[e,z1a]⟩
 have t:=vw (n+1024) d.2 p g0 ⟨b,by rw[j,z1a]⟩
 rw[A] at s;rw[S] at t;refine J (M (x.den:Int))<|J (M (y.den:Int))<|O (r) ?_;refine J (M (x.den:Int))<|O (s)<|J (M (y.den:Int))<|O (t)<|J (M x.num)<|O (jD (n+1027) hx.1 k i1)<|J (M y.num)<|O (jD (n+1027) d.1 f u)<|O (rT (n+1026) i1 u v)<|J (M (y.den:Int))<|O (jD (n+1027) f d.2 w) ?_;have m:(a:Int)*y.den≠0:=by have:0<a*y.den:=Nat.mul_pos a0 hyp;omega
 refine O (Lz n v w m) ?_;grind [Aw]
theorem wX{N D:Int}(a:0<D)(h:Nat.gcd N.natAbs D.natAbs=1):(Rat.divInt N D).num=N/\((Rat.divInt N D).den:Int)=D:=by
 obtain⟨p1,b⟩:=jO N<|show D≠0 by omega
 grind
def vL(x:Int){d:Int}(a:d≠0):(Rat.divInt x d).num.natAbs ∣ x.natAbs/\(Rat.divInt x d).den ∣ d.natAbs:=by
 obtain⟨p1,f⟩:=jO x a;have e:(Rat.divInt x d).den=((Rat.divInt x d).den:Int).natAbs:=rfl;rw[e,p1,f];have key:∀ z:Int,((Nat.gcd x.natAbs d.natAbs:Nat):Int) ∣ z->(z/(if d<0 then -(Nat.gcd x.natAbs d.natAbs:Int) else(Nat.gcd x.natAbs d.natAbs:Int))).natAbs ∣ z.natAbs:=by
  intro z c;have b:0<Nat.gcd x.natAbs d.natAbs:=z2c _ u0
  obtain⟨k,rfl⟩:=c;generalize Nat.gcd x.natAbs d.natAbs=g at *;split
  ·rw[Int.ediv_neg,zZa _ u0,zJb,zwa];exact Nat.dvd_mul_left _ _
  ·rw[zZa _ u0,zwa];exact Nat.dvd_mul_left _ _
 exact⟨key x<|zgb.2<|zhb _ _,key d<|zgb.2<|znb _ _⟩
theorem ab3(n:Nat){x:Rat}(hx:InR x)(c:InR y)(q:fitM x y):cA (n+1031) 174 [B x,B y]=some (B<|x*y):=by
 rw[WB];delta KB Q qT qN qO C qz;obtain⟨o,p⟩:=q;refine O (nH n hx)<|J (.bool false)<|J false<|O (z:=false) ?_<|J false ?_
 ·rw[zha H]
  exact O (nH n c)<|J (.bool false) rfl
 rw[zha H]
 obtain⟨p1,d⟩:=gE x.num<|bQ y;obtain⟨q1,f⟩:=gE y.num<|bQ x;obtain⟨v1,h⟩:=vL x.num<|bQ y;obtain⟨w1,i⟩:=vL y.num<|bQ x;have e:Rat.divInt x.num y.den*Rat.divInt y.num x.den=x*y:=by
  conv=>rhs;rw[<-z7a x,<-z7a y]
  rw[z1b,z1b,zNc (y.den:Int)]
 refine J (M x.num)<|J (M (y.den:Int))<|O (Lz n hx.1 c.2<|bQ y)<|J (M y.num)<|J (M (x.den:Int))<|O (Lz n c.1 hx.2<|bQ x) ?_;rw[zia] at d f h i;have r1:=gq hx.1 c.2<|bQ y;have g:=gq c.1 hx.2<|bQ x;generalize Rat.divInt x.num y.den=P at *;generalize Rat.divInt y.num x.den=u at *;have i1:In (P.num*u.num):=aE.2 (by rw[zwa];exact zLa (zHa p1 q1) o)
 have r:In ((P.den:Int)*u.den):=aE.2 (by rw[<-z1a,zia];exact zLa (zHa d f) (by rw[zVa];exact p))
 refine J (M P.num)<|J (M u.num)<|O (jD (n+1027) r1.1 g.1 i1)<|J (M (P.den:Int))<|J (M (u.den:Int))<|O (jD (n+1027) r1.2 g.2 r) ?_;refine J (.bool false)<|J false<|O (z:=false) ?_<|J false ?_
 ·rw[zha H]
  exact J (.bool false) rfl
 rw[zha H]
 have a:0<(P.den:Int)*u.den:=by have:=P.den_pos;have:=u.den_pos;rw[<-z1a];have:=Nat.mul_pos ‹0<P.den› ‹0<u.den›;omega
 have j:=P.reduced;have k:=u.reduced;have l:=zHc v1<|zGc i x.reduced;have m:=zHc w1<|zGc h y.reduced;have b:Nat.gcd (P.num*u.num).natAbs ((P.den:Int)*u.den).natAbs=1:=by rw[zwa,<-z1a,zia];exact Nat.Coprime.mul_left (z9c j l)<|z9c m k
 obtain⟨s,t⟩:=wX a b;have e2:Rat.divInt (P.num*u.num) ((P.den:Int)*u.den)=x*y:=by grind [Rat.divInt_mul_divInt,Rat.num_divInt_den]
 simp_all [e2,B,s,t]
theorem Ou(n:Nat){x y:Int}(hx:In x)(d:In y):cA (n+4) 90 [M x,M y]=some (I<|bf x y):=by
 refine eN F90 ?_;delta F90 Q qN Jn J0 J1 nq qA C qn qt qz;have Z:=pX (n+1) (a:=some x)<|bi hx;have e:=pX (n+1) (a:=some y)<|bi d;have b:=aE.1 hx;have c:=aE.1 d;refine O Z<|O e<|J (.bool false)<|J false<|J false<|J false ?_;rw[zha H]
 refine J (.bool false)<|J false ?_;rw[zha H]
 refine J (.bool false)<|J false ?_;rw[zha H]
 refine O (dD x)<|O (dD y) ?_;by_cases h1:x<0<;>by_cases h2:y<0
 ·rw[zka h1,zka h2];refine J false ?_;rw[zha H]
  refine O (z:=.bool true) (by rw[dD,zka h1])<|J true<|fr ?_
  refine O (jP y)<|O (jP x)<|O (OY n c b) ?_;congr 2;unfold bf;all_goals omega
 ·rw[zka h1,zfa h2];refine J true<|fr ?_;refine O (z:=.bool true) (by rw[dD,zka h1])<|J true<|fr ?_
  unfold bf;grind
 ·rw[zfa h1,zka h2];refine J true<|fr ?_;refine O (z:=.bool false) (by rw[dD,zfa h1])<|J false ?_
  rw[zha H]
  unfold bf;grind
 ·rw[zfa h1,zfa h2];refine J false ?_;rw[zha H]
  refine O (z:=.bool false) (by rw[dD,zfa h1])<|J false ?_
  rw[zha H]
  refine O (jP x)<|O (jP y)<|O (OY n b c) ?_;all_goals grind
def abQ(n:Nat){v:V}(a:inR v.x)(b:inR v.y)(c:inR v.z):cA (n+1033) 135 [X v]=some (X0<|RV.of v):=by refine fN SJ ?_;delta SJ Q C;exact J (I v.x)<|O (EQ n a)<|J (I v.y)<|O (EQ n b)<|J (I v.z)<|O (EQ n c) rfl
end
section
variable{q:Rat}{a:Option Int}{y:Int}{f:Nat}
def Xe:D:=.st [Lc,M 1]
def bI:Option Rat->D
 | some q=>B q
 | none=>Xe
def OW(a:Option Rat):Prop:=∀ q,a=some q->InR q
theorem OW.some(h:OW<|some q):InR q:=h q rfl
def aC(h:InR q):OW (some q):=λy e=>by cases e;exact h
def kT:OW none:=λy e=>by cases e
def rM:wu none:=λy e=>by cases e
def nV:Option Int->Option Int->Option Rat
 | some n,some d=>if d=0 then none else some (Rat.divInt n d)
 | _,_=>none
def Bw{b:Option Int}(c:wu a)(d:wu b):OW (nV a b):=by
 cases a<;>cases b<;>simp[nV]<;>first|exact kT|skip
 split
 ·exact kT
 ·exact aC<|gq c.some d.some (by assumption)
def GX(a b:Option Int):wu (Cy a b):=by cases a<;>cases b<;>simp[Cy]<;>first|exact rM|exact DQ _
def oP(a b:Option Int):wu (sQ a b):=by cases a<;>cases b<;>simp[sQ]<;>first|exact rM|exact DQ _
def rn{x:Int}(hx:In x)(g:Int):In (x/g):=Cv hx<|Int.natAbs_ediv_le_natAbs x g
def IB(x y:Rat):Option Rat:=
 nV (Cy (sQ (some x.num)<|some<|(y.den:Int)/(Nat.gcd x.den y.den:Nat))<|sQ (some y.num)<|some<|(x.den:Int)/(Nat.gcd x.den y.den:Nat)) (sQ (some<|(x.den:Int)/(Nat.gcd x.den y.den:Nat))<|some (y.den:Int))
def addW:Option Rat->Option Rat->Option Rat
 | some x,some y=>IB x y
 | _,_=>none
def V2(x y:Rat):Option Rat:=
 nV (sQ (some (Rat.divInt x.num y.den).num)<|some (Rat.divInt y.num x.den).num) (sQ (some ((Rat.divInt x.num y.den).den:Int))<|some ((Rat.divInt y.num x.den).den:Int))
def mulW:Option Rat->Option Rat->Option Rat
 | some x,some y=>V2 x y
 | _,_=>none
def Jm(a:Option Rat):Option Rat:=a.map<|λx=>-x
def Ws(a b:Option Rat):Option Rat:=addW a<|Jm b
def wY(a b:Option Rat):Option Rat:=b.elim none λy=>mulW a<|nV (some (y.den:Int))<|some y.num
def rO(a b:Option Rat):OW (addW a b):=by cases a<;>cases b<;>simp[addW]<;>first|exact kT|exact Bw (GX _ _)<|oP _ _
def BH(a b:Option Rat):OW (mulW a b):=by cases a<;>cases b<;>simp[mulW]<;>first|exact kT|exact Bw (oP _ _)<|oP _ _
def H0{a:Option Rat}(h:OW a):OW (Jm a):=by
 cases a with
 | none=>exact kT
 | some x=>exact aC ⟨aE.2 (by rw[Rat.neg_num,zJb];exact aE.1 h.some.1),h.some.2⟩
def Hs(a b:Option Rat):OW (wY a b):=by
 cases b with
 | none=>exact kT
 | some y=>exact BH _ _
def RN(x y:Rat):∃ g a b:Nat,g=Nat.gcd x.den y.den/\0<g/\x.den=g*a/\y.den=g*b/\0<a/\0<b/\(x.den:Int)/(Nat.gcd x.den y.den:Nat)=a/\(y.den:Int)/(Nat.gcd x.den y.den:Nat)=b:=by
 obtain⟨g,c⟩:∃ g,g=Nat.gcd x.den y.den:=⟨_,rfl⟩;have i:=x.den_pos;have hyp:=y.den_pos;have f:0<g:=by simp_all
 obtain⟨a,d⟩:g ∣ x.den:=c ▸ zhb _ _;obtain⟨b,e⟩:g ∣ y.den:=c ▸ znb _ _;have g0:(g:Int)≠0:=u0
 refine⟨g,a,b,c,f,d,e,Nat.pos_of_ne_zero λh=>by rw[h] at d;omega,Nat.pos_of_ne_zero λh=>by rw[h] at e;omega,?_,?_⟩
 ·rw[<-c,d,z1a];exact zZa _ g0
 ·rw[<-c,e,z1a];exact zZa _ g0
def sR{x:Int}(h:In<|x*y):sQ (some x) (some y)=some (x*y):=vS h
def OM{x:Int}(h:In<|x+y):Cy (some x) (some y)=some (x+y):=vS h
theorem ji{x y:Rat}(k:fitA x y):addW (some x) (some y)=some (x+y):=by
 obtain⟨p,q⟩:=k;obtain⟨g,a,b,r,e,i,j,a0,b0,f,h⟩:=RN x y;have c:a<=x.den:=by rw[i];exact zjb _ e
 have d:b<=y.den:=by rw[j];exact zjb _ e
 have m1:x.num.natAbs*b<=x.num.natAbs*y.den:=z6a _ d;have m2:y.num.natAbs*a<=y.num.natAbs*x.den:=z6a _ c;have s:a*y.den<=x.den*y.den:=zKa _ c;have i1:In (x.num*b):=aE.2 (by rw[zwa,zia];omega)
 have m:In (y.num*a):=aE.2 (by rw[zwa,zia];omega)
 have n:In (x.num*b+y.num*a):=aE.2 (by have:=zUb (x.num*b)<|y.num*a;rw[zwa,zwa,zia,zia] at this;omega)
 have o:In ((a:Int)*y.den):=aE.2 (by rw[<-z1a,zia];omega)
 have l:(a:Int)*y.den≠0:=by have:0<a*y.den:=Nat.mul_pos a0 y.den_pos;omega
 simp[addW,IB,f,h];rw[sR i1,sR m,OM n,sR o];grind [nV,Aw]
def FK(x y:Rat):Rat.divInt x.num y.den*Rat.divInt y.num x.den=x*y:=by
 conv=>rhs;rw[<-z7a x,<-z7a y]
 rw[z1b,z1b,zNc (y.den:Int)]
def nY{x y:Rat}(f:fitM x y):mulW (some x) (some y)=some (x*y):=by
 obtain⟨c,d⟩:=f;obtain⟨p1,a⟩:=gE x.num<|bQ y;obtain⟨q1,b⟩:=gE y.num<|bQ x;rw[zia] at a b;have e:=FK x y;simp only[mulW,V2];generalize Rat.divInt x.num y.den=P at *;generalize Rat.divInt y.num x.den=Q at *;have i1:In (P.num*Q.num):=aE.2 (by rw[zwa];exact zLa (zHa p1 q1) c)
 have g:In ((P.den:Int)*Q.den):=aE.2 (by rw[<-z1a,zia];exact zLa (zHa a b) (by rw[zVa];exact d))
 rw[sR i1,sR g];simp only[nV];rw[zha<|zLc (bQ P)<|bQ Q,<-z1b,z7a,z7a,e]
def V5{n:Nat}{b:Option Int}{e:Option Int->D}(h:(a.isSome&&b.isSome)=false)(c:cA n f [e b]=some (.bool b.isSome)) :
  (if(!a.isSome)=true then some true else (cA n f [e b]).bind λr=>(afP .not r).bind λx=>D.truth x)=some true:=by
 cases hA:a.isSome with
 | false=>rfl
 | true=>
  rw[hA] at h;have:b.isSome=false:=by simpa using h
  rw[zha H,c,this];rfl
def pH{a b:Option Rat}:(a.isSome&&b.isSome)=false\/∃ x y,a=some x/\b=some y:=by cases a<;>cases b<;>simp
def H4{n:Nat}{a b:Option Rat}(h:(a.isSome&&b.isSome)=false)(c:cA n f [bI b]=some (.bool b.isSome)) :
  (if(!a.isSome)=true then some true else (cA n f [bI b]).bind λr=>(afP .not r).bind λx=>D.truth x)=some true:=by
 cases hA:a.isSome with
 | false=>rfl
 | true=>
  rw[hA] at h;have:b.isSome=false:=by simpa using h
  rw[zha H,c,this];rfl
def Vx{x y:Rat}(hx:InR x):In ((Nat.gcd x.den y.den:Nat):Int):=iI.2<|zLa (Nat.gcd_le_left _ x.den_pos)<|iI.1 hx.2
def BB{x d:Int}(h:d≠0):nV (some x) (some d)=some (Rat.divInt x d):=by simp only[nV];rw[zha h]
end
def E6(n:Nat){q:Rat}(h:InR q):cA (n+1031) 357 [B q]=some (B<|-q):=by
 refine fN KF ?_;delta KF Q C qn;refine O (nH n h)<|J (.bool false)<|J false ?_;rw[zha H]
 exact J (M q.num)<|O (z:=M<|-q.num) (WR (n+1027) (a:=some q.num)<|λx hx=>by cases hx;exact h.1)<|J (M (q.den:Int)) rfl
structure Way(P:List D)(z:Nat->Int):Prop where
 get:∀ i (h:i<P.length),D.get P[i] [0,2]=some (I<|z i)
 le:∀ i,i<P.length->(z i).natAbs<=2^60
 len:P.length<=512
end Sy
end
end Go.Proofs.YtdlipdnepadhjaaGreat
