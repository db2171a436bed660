/- Part 5 of the proof that SweepFoundIsAccepted answers true at every input -/
import Derived.Test.YtdlipdnepadhjaaGreatFoun01
import Derived.Test.YtdlipdnepadhjaaGreatFoun04
set_option linter.all false
set_option maxRecDepth 20000
namespace Go.Proofs.YtdlipdnepadhjaaGreat
noncomputable section
namespace Sy
open Go Go.Proofs Geo
section
variable{y z:D}{l:List D}{A B:Int}{u:V}
abbrev Bd:=List D->Option (Sum (List D) (Nat×List D))
def cC{body:Bd}{s s':List D}{k:Nat×List D->Option D}(h:body s=some (.inl s'))(hk:(F body s').bind k=some y):(F body s).bind k=some y:=by
 have:F body s=F body s':=cB h
 simp_all
def fg{body:Bd}{s:List D}{r:Nat×List D}{k:Nat×List D->Option D}(h:body s=some (.inr r))(hk:k r=some y):(F body s).bind k=some y:=by
 have:F body s=some r:=cT h
 simp_all
def t8{body:Bd}{s:List D}{r:Nat×List D}{k:Nat×List D->Option D}(h:F body s=some r)(hk:k r=some y):(F body s).bind k=some y:=by simp_all
def aZ{body:Bd}{s0:List D}{k:Nat×List D->Option D}(J:Nat->List D->Prop)(n i0:Nat)(hi:i0<=n)(h0:J i0 s0)
  (b:∀ i,i<n->∀ s,J i s->(∃ s',body s=some (.inl s')/\J (i+1) s')\/∃ r,body s=some (.inr r)/\k r=some y) (he:∀ s,J n s->∃ r,body s=some (.inr r)/\k r=some y):(F body s0).bind k=some y:=by
 obtain⟨m,hm⟩:∃ m,m=n-i0:=⟨_,rfl⟩
 induction m generalizing i0 s0 with
 | zero=>
  have:i0=n:=u0
  subst this;obtain⟨r,h1,a⟩:=he s0 h0;exact fg h1 a
 | succ m ih=>
  rcases b i0 u0 s0 h0 with⟨s',h1,a⟩|⟨r,h1,a⟩
  ·exact cC h1 (ih (i0:=i0+1) u0 a u0)
  ·exact fg h1 a
def ss{body:Bd}{s0:List D}(J:Nat->List D->Prop)(Q:Nat×List D->Prop)(n i0:Nat)(hi:i0<=n)(h0:J i0 s0)
  (b:∀ i,i<n->∀ s,J i s->(∃ s',body s=some (.inl s')/\J (i+1) s')\/∃ r,body s=some (.inr r)/\Q r) (he:∀ s,J n s->∃ r,body s=some (.inr r)/\Q r):∃ r,F body s0=some r/\Q r:=by
 obtain⟨m,hm⟩:∃ m,m=n-i0:=⟨_,rfl⟩
 induction m generalizing i0 s0 with
 | zero=>
  have:i0=n:=u0
  subst this;obtain⟨r,h1,a⟩:=he s0 h0;exact⟨r,cT h1,a⟩
 | succ m ih=>
  rcases b i0 u0 s0 h0 with⟨s',h1,a⟩|⟨r,h1,a⟩
  ·obtain⟨r,c,d⟩:=ih (i0:=i0+1) u0 a u0
   exact⟨r,by rw[show F body s0=F body s' from cB h1];exact c,d⟩
  ·exact⟨r,cT h1,a⟩
def aj{i n:Nat}(h:i<n):D.idx (I (i:Int)) n=some i:=by
 simp only[D.idx]
 simp_all
def aw{i:Nat}(h:i<=9223372036854775806):inR ((i:Int)+1):=by simp only[inR];omega
theorem g0{x:D}{d:D}:List.getD (x::l) 0 d=x:=rfl
theorem g1{x:D}{d:D}:List.getD (x::y::l) 1 d=y:=rfl
def g2{x z:D}{d:D}:List.getD (x::y::z::l) 2 d=z:=rfl
def g3{x w:D}{d:D}:List.getD (x::y::z::w::l) 3 d=w:=rfl
def afl(v:V)(a:Int):D.set (ag v) [0] (I a)=some (ag ⟨a,v.y,v.z⟩):=rfl
def afm(v:V)(a:Int):D.set (ag v) [1] (I a)=some (ag ⟨v.x,a,v.z⟩):=rfl
def afn(v:V)(a:Int):D.set (ag v) [2] (I a)=some (ag ⟨v.x,v.y,a⟩):=rfl
def L9:D.idx (I 0) 3=some 0:=rfl
def IC:D.idx (I 1) 3=some 1:=rfl
def Ma:D.idx (I 2) 3=some 2:=rfl
def ad2(n:Nat){v:V}(hu:bd A u)(c:bd B v)(h:A+B<=9223372036854775807):C (n+1) 154 [ag u,ag v]=some (ag (u.add v)):=by
 have h1:inR (u.x+v.x):=by simp only[bd,inR] at *;omega
 have a:inR (u.y+v.y):=by simp only[bd,inR] at *;omega
 have b:inR (u.z+v.z):=by simp only[bd,inR] at *;omega
 rw[af5]
 delta OK P qJ iL iR J0 J3 qc qi qj qs qy
 refine cC (s':=[I 1,ag ⟨u.x+v.x,u.y,u.z⟩]) ?_ (cC (s':=[I 2,ag ⟨u.x+v.x,u.y+v.y,u.z⟩]) ?_ (cC (s':=[I 3,ag ⟨u.x+v.x,u.y+v.y,u.z+v.z⟩]) ?_ (fg (r:=(0,[ag (u.add v)])) ?_ rfl)))
 ·simp only[g0,g1,ah,zba,ac,L9,pX,afl,ay h1,ay (show inR (0+1) from⟨H,H⟩)];rfl
 ·simp only[g0,g1,ah,zba,ac,IC,pY,afm,ay a,ay (show inR (1+1) from⟨H,H⟩)];rfl
 ·simp only[g0,g1,ah,zba,ac,Ma,pZ,afn,ay b,ay (show inR (2+1) from⟨H,H⟩)];rfl
 ·simp only[g0,g1,ah,zba,ac];rfl
theorem Qn(u v:V):u.add v.neg=u.sub v:=by grind [V.add,V.neg,V.sub]
theorem KP(n:Nat){v:V}(hu:bd A u)(a:bd B v)(h:A+B<=9223372036854775807):C (n+2) 103 [ag u,ag v]=some (ag (u.sub v)):=by
 have b:0<=A:=by grind [bd]
 rw[afr];simp only[N3,QL n a u0,zba,ad2 n hu (tn a) h,Qn,Z]
def Ia(n:Nat){v:V}(hu:bd A u)(c:bd B v)(h:A+B<=9223372036854775807):C (n+1) 112 [ag u,ag v]=some (ag (u.sub v)):=by
 have h1:inR (u.x-v.x):=by simp only[bd,inR] at *;omega
 have a:inR (u.y-v.y):=by simp only[bd,inR] at *;omega
 have b:inR (u.z-v.z):=by simp only[bd,inR] at *;omega
 rw[afA];simp only[Oe,Q,P,pX,pY,pZ,zba,bW h1,bW a,bW b];rfl
def bk(a b:Int):Int:=if a<b then -1 else if a>b then 1 else 0
def adT(n:Nat)(a:Int):C (n+1) 115 [I a]=some (.bool false):=by simp_all [afB,Of,ci,nq]
theorem Xn(n:Nat)(a b:Int):C (n+2) 53 [I a,I b]=some (I (bk a b)):=by rw[u53];simp only[YY,qC,qT,Jn,adT,zba,ac,zHa,if_false,ah,cn,bk,zea,J0,J1,qc,Z,qt];all_goals grind
def yd:List Int->Int
 | []=>0
 | x::l=>if x=0 then yd l else x
def c52(n:Nat)(l:List Int)(hl:l.length<=1000):C (n+1) 52 [.sl (l.map λx=>I x)]=some (I (yd l)):=by
 rw[u52]
 delta YX qS qX iL iR J0 jl nq qc qj qr qt qy
 simp only[D.asSl,zba];refine aZ (λi s=>s=[I i]/\yd l=yd (l.drop i)) l.length 0 (zoa _) ⟨rfl,rfl⟩ (λi hi s a=>?_) (λs a=>?_)
 ·obtain⟨rfl,b⟩:=a;have hx:(l.map λx=>I x)[i]?=some (I l[i]):=by simp[hi]
  simp only[g0,zka,ah,zba,ac,zea,show((i:Int)<(l.length:Int)) from by omega,if_true,aj hi,hx,ci]
  have c:=zob hi;rw[c] at b;by_cases h0:l[i]=0
  ·left;refine⟨[I ((i+1:Nat):Int)],?_,rfl,?_⟩
   ·simp only[h0,decide_true,zlc,zHa,if_false,ay (aw (i:=i) u0),zba];rfl
   ·simp_all [yd]
  ·simp_all [yd]
 ·obtain⟨rfl,b⟩:=a;refine⟨(1,[]),?_,?_⟩
  ·simp_all [g0,zka,ah,zba,ac,zea]
  ·rw[b];simp[yd]
end
section
variable{a:Int}
def CP{body:Bd}(h0:∀ a b:Int,b≠0->body [I a,I b]=some (.inl [I b,I (a.tmod b)]))(h1:∀ a:Int,body [I a,I 0]=some (.inr (0,[I a]))) :
  ∀ (m:Nat) (a b:Int),b.natAbs=m->∃ r:Int,F body [I a,I b]=some (0,[I r])/\r.natAbs=Nat.gcd a.natAbs b.natAbs:=by
 intro m
 induction m using Nat.strongRecOn with
 | _ m ih=>
  intro a b e;by_cases d:b=0
  ·subst d;exact⟨a,cT (h1 a),j2⟩
  ·have c:(a.tmod b).natAbs<m:=by
    rw[Int.natAbs_tmod,<-e];exact zVa _ u0
   obtain⟨r,f,g⟩:=ih _ c b (a.tmod b) rfl;refine⟨r,?_,?_⟩
   ·rw[show F body [I a,I b]=F body [I b,I (a.tmod b)] from cB (h0 a b d)];exact f
   ·rw[g,Int.natAbs_tmod,znc a.natAbs,Nat.gcd_rec b.natAbs a.natAbs,znc]
def tS{a b:Int}{k:Nat}(c:a.natAbs<=k)(d:b.natAbs<=k):Nat.gcd a.natAbs b.natAbs<=k:=by
 rcases zKb a.natAbs with h|h
 ·simp_all
 ·exact zva (zed h (zhb _ _)) c
theorem Uj(n:Nat){a b:Int}(e:a.natAbs<=9223372036854775807)(c:b.natAbs<=9223372036854775807):C (n+1) 152 [I a,I b]=some (I (Nat.gcd a.natAbs b.natAbs:Nat)):=by
 rw[Yt]
 delta Kb P iL iR J0 nq qt qy
 obtain⟨r,h1,d⟩:=CP (body:=λ(v1:List D)=>
  (D.truth (D.bool (!(D.beq (Y v1 1) (D.int .i64 0))))).bind λb2=>
  if b2 then((akk .rem (Y v1 0) (Y v1 1)).bind λf=>
  some (Sum.inl [(Y v1 1),f])) else(some (Sum.inr (0,[(Y v1 0)]))))
  (λa b c=>by simp only[g0,g1,ci,ac,zba,c,decide_false,zXb,if_true,ph c])
  (λa=>by simp only[g0,g1,ci,ac,zba,decide_true,zlc,zHa,if_false]) _ a b rfl
 refine t8 h1 ?_;have g:r.natAbs<=9223372036854775807:=by rw[d];exact tS e c
 grind [inR,g0,nj,sB]
theorem iO{g:Nat}(b:0<g)(h:(g:Int) ∣ a):a.tdiv g=a/g:=by grind
def yU(v:V):(br v:Int) ∣ v.x:=zfb.2 (zCc (zhb _ _) (zhb _ _))
def yV(v:V):(br v:Int) ∣ v.y:=zfb.2 (zCc (zhb _ _) (zpb _ _))
def yW(v:V):(br v:Int) ∣ v.z:=zfb.2 (zpb _ _)
def tH{g:Nat}{k:Int}(h:-k<=a/\a<=k)(b:(g:Int) ∣ a):-k<=a/g/\a/g<=k:=by
 have h1:(a/(g:Int)).natAbs<=a.natAbs:=by
  rcases zKb g with e|e
  ·subst e;simp
  ·obtain⟨c,rfl⟩:=b;rw[zZa _ u0,zwa]
   exact zlb _ u0
 omega
def fJ{k:Int}{v:V}(h:bd k v):bd k (aS v):=⟨tH h.1 (yU v),tH h.2.1 (yV v),tH h.2.2 (yW v)⟩
def cO(q:V×Int):D:=.st [ag q.1,I q.2]
def MV:Int:=262144
def pi{P:Nat->V}{i j:Nat}(hi:bd MV (P i))(a:bd MV (P j)):bd 524288 (M P i j):=by have:=k9 a hi;simpa [MV,M] using this
def c96(n:Nat){a b c:V}(h:bd MV a)(l:bd MV b)(hc:bd MV c):C (n+3) 96 [ag a,ag b,ag c]=some (cO (aS (V.cross (b.sub a) (c.sub a)),V.dot (aS (V.cross (b.sub a) (c.sub a))) a)):=by
 have h1:bd 524288 (b.sub a):=by have:=k9 l h;simpa [MV] using this
 have j:bd 524288 (c.sub a):=by have:=k9 hc h;simpa [MV] using this
 rw[u96]
 delta Zf Q P J1 qb qc Z
 simp only[KP n l h H,KP n hc h H,zba,WY (n+1) h1 j H]
 have f:=jU h1 j;generalize V.cross (b.sub a) (c.sub a)=m at *;have o:m.x.natAbs<=549755813888:=by have:=f.1;omega
 have p:m.y.natAbs<=549755813888:=by have:=f.2.1;omega
 have u:m.z.natAbs<=549755813888:=by have:=f.2.2;omega
 have v:=tS o p;have q:Nat.gcd (Nat.gcd m.x.natAbs m.y.natAbs) m.z.natAbs=br m:=rfl;simp only[pX,pY,pZ,zba,Uj (n+1) (a:=m.x) (b:=m.y) u0 u0,Uj (n+1) (a:=((Nat.gcd m.x.natAbs m.y.natAbs:Nat):Int)) (b:=m.z) (by rw[zha];omega) u0,zha,q,cn,ac,zea]
 have r:=fJ f;have fin:∀ w:V,w=aS m->C (n+2) 101 [ag w,ag a]=some (I (V.dot w a)):=λw hw=>KO (n+1) (hw ▸ r) h H
 by_cases hg:(br m:Int)>1
 ·have g:(br m:Int)≠0:=u0
  have d:0<br m:=u0
  have r1:inR (m.x.tdiv (br m)):=by rw[iO d (yU m)];have:=tH f.1 (yU m);simp only[inR];omega
  have s:inR (m.y.tdiv (br m)):=by rw[iO d (yV m)];have:=tH f.2.1 (yV m);simp only[inR];omega
  have t:inR (m.z.tdiv (br m)):=by rw[iO d (yW m)];have:=tH f.2.2 (yW m);simp only[inR];omega
  have i:(D.st [I (m.x.tdiv (br m)),I (m.y.tdiv (br m)),I (m.z.tdiv (br m))])=ag (aS m):=by rw[iO d (yU m),iO d (yV m),iO d (yW m)];rfl
  simp only[zla hg,uw g r1,uw g s,uw g t,zba,g0,i,fin _ rfl];rfl
 ·have i:m=aS m:=by
   rcases zua 0 (br m) with k|k
   ·have e:br m=1:=u0
    have:=j9 m;rw[e] at this;rw[this]
    conv=>rhs;rw[<-this]
    apply V.ext'<;>simp[V.smul]
   ·have e:br m=0:=u0
    have hm:m=V.zero:=by
     by_cases hm:m=V.zero
     ·exact hm
     ·have:=jZ hm;omega
    rw[hm];rfl
  simp only[zia hg,zba,g0,fin m i];rw[<-i];rfl
end
section
variable{A B:Int}{l:List V}
def aff(a b:Int):D.sl [I a,I b]=D.sl ([a,b].map λx=>I x):=rfl
def afg(a b c:Int):D.sl [I a,I b,I c]=D.sl ([a,b,c].map λx=>I x):=rfl
def c51(n:Nat)(a b c d:Int):C (n+3) 51 [.st [I a,I b],.st [I c,I d]]=some (I (yd [bk a c,bk b d])):=by
 rw[u51]
 delta YW Q Z
 simp only[show ∀ a b:Int,D.get (.st [I a,I b]) [0]=some (I a) from λ_ _=>rfl,show ∀ a b:Int,D.get (.st [I a,I b]) [1]=some (I b) from λ_ _=>rfl,zba,Xn,aff,c52 (n+1) [bk a c,bk b d] j2]
def adN(n:Nat)(p q:V×Int):C (n+3) 100 [cO p,cO q]=some (I (yd [bk p.1.x q.1.x,bk p.1.y q.1.y,bk p.1.z q.1.z])):=by
 rw[afp]
 delta N0 Q Z
 simp only[show ∀ p:V×Int,D.get (cO p) [0]=some (ag p.1) from λ_=>rfl,show ∀ p:V×Int,D.get (cO p) [0,0]=some (I p.1.x) from λ_=>rfl,show ∀ p:V×Int,D.get (cO p) [0,1]=some (I p.1.y) from λ_=>rfl,show ∀ p:V×Int,D.get (cO p) [0,2]=some (I p.1.z) from λ_=>rfl,pX,pY,pZ,zba,Xn,afg,c52 (n+1) [bk p.1.x q.1.x,bk p.1.y q.1.y,bk p.1.z q.1.z] j2]
def AD(a:Int):bk a 0=sg a:=rfl
theorem Yh(a:Int):-1<=sg a/\sg a<=1:=by grind [sg]
def tU(a b:Int):inR (sg a*sg b):=by have:=jx (A:=1) (B:=1) (Yh a) (Yh b);simp only[inR];omega
def XJ(v:V):D.fld (ag v) 0=some (I v.x):=rfl
def XK(v:V):D.fld (ag v) 1=some (I v.y):=rfl
def XL(v:V):D.fld (ag v) 2=some (I v.z):=rfl
def Tf:inR (0+1):=⟨H,H⟩
def yb:inR (1+1):=⟨H,H⟩
def Tg:inR (2+1):=⟨H,H⟩
def adO(n:Nat){m u v:V}(hu:bd A u)(a:bd B v)(h:2*(A*B)<=9223372036854775807):C (n+3) 104 [ag m,ag u,ag v]=some (I (zo m (V.cross u v))):=by
 rw[afs]
 delta N5 P qJ iL iR J0 J3 nq qc qf qi qj Z qr qt qy
 simp only[WY (n+1) hu a h,zba];generalize V.cross u v=c;unfold zo;by_cases hx:m.x=0
 ·refine cC (s':=[I 1]) (by simp only[g0,ah,zba,ac,L9,XJ,ci,hx,decide_true,zlc,zHa,if_false,ay Tf];rfl) ?_
  by_cases hy:m.y=0
  ·refine cC (s':=[I 2]) (by simp only[g0,ah,zba,ac,IC,XK,ci,hy,decide_true,zlc,zHa,if_false,ay yb];rfl) ?_
   by_cases hz:m.z=0
   ·refine cC (s':=[I 3]) (by simp only[g0,ah,zba,ac,Ma,XL,ci,hz,decide_true,zlc,zHa,if_false,ay Tg];rfl) ?_
    refine fg (r:=(1,[])) (by simp only[g0,ah,zba,ac];rfl) ?_
    simp_all
   ·refine fg (r:=(0,[I (sg c.z*sg m.z)])) ?_ (by simp[hx,hy,hz,zNc])
    simp only[g0,ah,zba,ac,Ma,XL,pZ,ci,hz,decide_false,zXb,if_true,Xn,AD,cN (tU _ _)];rfl
  ·refine fg (r:=(0,[I (sg c.y*sg m.y)])) ?_ (by simp[hx,hy,zNc])
   simp only[g0,ah,zba,ac,IC,XK,pY,ci,hy,decide_false,zXb,if_true,Xn,AD,cN (tU _ _)];rfl
 ·refine fg (r:=(0,[I (sg c.x*sg m.x)])) ?_ (by simp[hx,zNc])
  simp only[g0,ah,zba,ac,L9,XJ,pX,ci,hx,decide_false,zXb,if_true,Xn,AD,cN (tU _ _)];rfl
theorem Um(n:Nat)(a:Int):C (n+1) 215 [I a]=some (I (sg a)):=by rw[ago];simp only[O2,qC,Jn,ah,cn,zba,ac,zea,sg,J0,J1,qc];all_goals grind
def aeb(n:Nat)(m c:V):C (n+2) 188 [ag m,ag c]=some (I (zo m c)):=by
 rw[agh]
 delta OV P qJ iL iR J0 J3 nq qc qj Z qr qt qy zo
 by_cases hx:m.x=0
 ·refine cC (s':=[I 1]) (by simp only[g0,ah,zba,ac,L9,pX,ci,hx,decide_true,zlc,zHa,if_false,ay Tf];rfl) ?_
  by_cases hy:m.y=0
  ·refine cC (s':=[I 2]) (by simp only[g0,ah,zba,ac,IC,pY,ci,hy,decide_true,zlc,zHa,if_false,ay yb];rfl) ?_
   by_cases hz:m.z=0
   ·refine cC (s':=[I 3]) (by simp only[g0,ah,zba,ac,Ma,pZ,ci,hz,decide_true,zlc,zHa,if_false,ay Tg];rfl) ?_
    refine fg (r:=(1,[])) (by simp only[g0,ah,zba,ac];rfl) ?_
    simp_all
   ·refine fg (r:=(0,[I (sg m.z*sg c.z)])) ?_ (by simp[hx,hy,hz])
    simp only[g0,ah,zba,ac,Ma,pZ,ci,hz,decide_false,zXb,if_true,Um,cN (tU _ _)];rfl
  ·refine fg (r:=(0,[I (sg m.y*sg c.y)])) ?_ (by simp[hx,hy])
   simp only[g0,ah,zba,ac,IC,pY,ci,hy,decide_false,zXb,if_true,Um,cN (tU _ _)];rfl
 ·refine fg (r:=(0,[I (sg m.x*sg c.x)])) ?_ (by simp[hx])
  simp only[g0,ah,zba,ac,L9,pX,ci,hx,decide_false,zXb,if_true,Um,cN (tU _ _)];rfl
instance decLex (a b:V):Decidable (aP a b):=by unfold aP;exact inferInstance
def WX(n:Nat)(a b:V):C (n+1) 105 [ag a,ag b]=some (.bool (decide (aP a b))):=by
 rw[aft];simp only[N6,Q,P,qT,pX,pY,pZ,zba,ci,ac,ah,zEa,decide_eq_false_iff_not,nq,qt];by_cases h1:a.x=b.x
 ·by_cases h2:a.y=b.y
  ·simp[h1,h2,aP]
  ·simp_all [aP,not_true,not_false_iff,zfd,false_or,true_and]
 ·simp_all [aP,not_false_iff,false_and,or_false]
def bg(l:List V):D:=.sl (l.map ag)
def uo(l:List V)(m:V)(d:Int):Bool:=l.all λx=>decide (V.dot m x<=d)
def ns(l:List V)(m:V)(d:Int):Bool:=l.any λx=>decide (V.dot m x<d)
def EX{i:Nat}(h:i<l.length):(l.map ag)[i]?=some (ag l[i]):=by simp[h]
theorem adR(n:Nat){m:V}{d:Int}(hl:∀ x∈l,bd MV x)(hm:bd A m)(c:3*(A*262144)<=9223372036854775807)(hlen:l.length<=1000000):C (n+2) 109 [bg l,ag m,I d]=some (.bool (uo l m d&&ns l m d)):=by
 rw[afx]
 delta Oa qT qX iL iR J0 bF qc qe qh qj Z ql qr qy
 refine aZ (λi s=>s=[.bool (ns (l.take i) m d),I i]/\uo (l.take i) m d=true) l.length 0 (zoa _) ⟨by simp[ns],by simp[uo]⟩ (λi hi s a=>?_) (λs a=>?_)
 ·obtain⟨rfl,b⟩:=a;have ht:=zxa hi;have hc:=H9 n hm (hl l[i] (zGa hi)) c;simp only[bg,D.asSl,g0,g1,zka,ah,cn,zba,ac,zea,show((i:Int)<(l.length:Int)) from by omega,if_true,aj hi,EX hi,hc]
  by_cases hgt:V.dot m l[i]>d
  ·right;refine⟨(0,[.bool false]),by simp only[hgt,if_true],?_⟩
   have:uo l m d=false:=by rw[zoc];intro h;have:=zya.1 h l[i] (zGa hi);grind
   simp_all
  ·left;refine⟨[.bool (ns (l.take (i+1)) m d),I ((i+1:Nat):Int)],?_,rfl,?_⟩
   ·simp only[hgt,if_false,ay (aw (i:=i) u0),zba]
    have e:ns (l.take (i+1)) m d=(ns (l.take i) m d||decide (V.dot m l[i]<d)):=by rw[ht];simp only[ns,zBd,List.any_cons,List.any_nil,Bool.or_false]
    grind
   ·rw[ht];simp only[uo,z5c,X] at b ⊢
    simp_all
 ·obtain⟨rfl,b⟩:=a;refine⟨(1,[.bool (ns (l.take l.length) m d)]),?_,?_⟩
  ·simp only[bg,D.asSl,g0,g1,zka,ah,zba,ac,zea,zfd,if_false]
  ·simp_all
theorem c98(n:Nat){m:V}{d:Int}(hl:∀ x∈l,bd MV x)(hm:bd A m)(c:3*(A*262144)<=9223372036854775807)(hlen:l.length<=1000000):C (n+2) 98 [bg l,cO (m,d)]=some (.bool (uo l m d&&ns l m d)):=by
 rw[u98]
 delta Zh Q qT qS qX iL iR J0 bF bT bq jl qc qe qj Z qr qy
 simp only[bg,D.asSl,zba];refine aZ (λi s=>s=[.bool (!ns (l.take i) m d),I i]/\uo (l.take i) m d=true) l.length 0 (zoa _) ⟨by simp[ns],by simp[uo]⟩ (λi hi s a=>?_) (λs a=>?_)
 ·obtain⟨rfl,b⟩:=a;have ht:=zxa hi;have hc:=KO n hm (hl l[i] (zGa hi)) c;simp only[g0,g1,zka,ah,cn,zba,ac,zea,show((i:Int)<(l.length:Int)) from by omega,if_true,aj hi,EX hi,show D.get (cO (m,d)) [0]=some (ag m) from rfl,show D.get (cO (m,d)) [1]=some (I d) from rfl,hc,ci]
  by_cases hgt:V.dot m l[i]>d
  ·right;refine⟨(0,[.bool false]),by simp only[hgt,if_true],?_⟩
   have:uo l m d=false:=by rw[zoc];intro h;have:=zya.1 h l[i] (zGa hi);grind
   simp_all
  ·left;refine⟨[.bool (!ns (l.take (i+1)) m d),I ((i+1:Nat):Int)],?_,rfl,?_⟩
   ·simp only[hgt,if_false,ay (aw (i:=i) u0),zba]
    have e:(!ns (l.take (i+1)) m d)=(!ns (l.take i) m d&&decide (V.dot m l[i]=d)):=by rw[ht];simp only[ns,zBd,List.any_cons,List.any_nil,Bool.or_false,Bool.not_or];all_goals grind
    grind
   ·rw[ht];simp only[uo,z5c,X] at b ⊢
    simp_all
 ·obtain⟨rfl,b⟩:=a;refine⟨(1,[.bool (!ns (l.take l.length) m d)]),?_,?_⟩
  ·simp_all [g0,g1,zka,ah,zba,ac]
  ·simp_all [z8a,g0,aJ]
end
section
variable{l:List V}{K:List (V×Int)}{q:V×Int}{j:Nat}
def nK{α:Type}{body:Bd}{s0:List D}{k:Nat×List D->Option α}{Y:α->Prop}(J:Nat->List D->Prop)(n i0:Nat)(hi:i0<=n)(h0:J i0 s0)
  (d:∀ i,i<n->∀ s,J i s->∃ z,body s=some z/\match z with|.inl s'=>J (i+1) s'|.inr r=>∃ y,k r=some y/\Y y)
  (he:∀ s,J n s->∃ z,body s=some z/\match z with|.inl _=>False|.inr r=>∃ y,k r=some y/\Y y):∃ y,(F body s0).bind k=some y/\Y y:=by
 obtain⟨m,hm⟩:∃ m,m=n-i0:=⟨_,rfl⟩
 induction m generalizing i0 s0 with
 | zero=>
  have:i0=n:=u0
  subst this;obtain⟨z,h1,a⟩:=he s0 h0;cases z with
  | inl s'=>exact a.elim
  | inr r=>obtain⟨y,b,c⟩:=a;exact⟨y,by rw[show F body s0=some r from cT h1];exact b,c⟩
 | succ m ih=>
  obtain⟨z,h1,a⟩:=d i0 u0 s0 h0
  cases z with
  | inl s'=>
   obtain⟨y,b,c⟩:=ih (i0:=i0+1) u0 a u0
   exact⟨y,by rw[show F body s0=F body s' from cB h1];exact b,c⟩
  | inr r=>obtain⟨y,b,c⟩:=a;exact⟨y,by rw[show F body s0=some r from cT h1];exact b,c⟩
def aL{α:Type}{body:Bd}{s s':List D}{k:Nat×List D->Option α}{y:α}(h:body s=some (.inl s'))(hk:(F body s').bind k=some y):(F body s).bind k=some y:=by
 have:F body s=F body s':=cB h
 simp_all
def dS{α:Type}{body:Bd}{s:List D}{r:Nat×List D}{k:Nat×List D->Option α}{y:α}(h:body s=some (.inr r))(hk:k r=some y):(F body s).bind k=some y:=by
 have:F body s=some r:=cT h
 simp_all
def cH{α:Type}{body:Bd}{s0:List D}{k:Nat×List D->Option α}{y:α}(J:Nat->List D->Prop)(n i0:Nat)(hi:i0<=n)(h0:J i0 s0)
  (b:∀ i,i<n->∀ s,J i s->(∃ s',body s=some (.inl s')/\J (i+1) s')\/∃ r,body s=some (.inr r)/\k r=some y) (he:∀ s,J n s->∃ r,body s=some (.inr r)/\k r=some y):(F body s0).bind k=some y:=by
 obtain⟨m,hm⟩:∃ m,m=n-i0:=⟨_,rfl⟩
 induction m generalizing i0 s0 with
 | zero=>
  have:i0=n:=u0
  subst this;obtain⟨r,h1,a⟩:=he s0 h0;exact dS h1 a
 | succ m ih=>
  rcases b i0 u0 s0 h0 with⟨s',h1,a⟩|⟨r,h1,a⟩
  ·exact aL h1 (ih (i0:=i0+1) u0 a u0)
  ·exact dS h1 a
def O{α β:Type}{A:Option α}{g:α->Option β}{z:α}{y:β}(h:A=some z)(hk:g z=some y):Option.bind A g=some y:=by simp_all
theorem J{α β:Type}{A:Option α}{g:α->Option β}{y:β}(z:α)(k:g z=some y)(h:A=some z:=by exact rfl):Option.bind A g=some y:=O h k
theorem kH(u v:V):D.beq (ag u) (ag v)=decide (u=v):=by
 simp only[ag,D.beq,D.beqs,decide_true,z6b,Bool.and_true];by_cases h:u=v
 ·simp_all
 ·by_cases h1:u.x=v.x<;>by_cases h2:u.y=v.y<;>by_cases h3:u.z=v.z<;>simp[h,h1,h2,h3];exact h (V.ext' h1 h2 h3)
theorem SN(p q:V×Int):D.beq (cO p) (cO q)=decide (p=q):=by have:D.beq (cO p) (cO q)=(D.beq (ag p.1) (ag q.1)&&(D.beq (I p.2) (I q.2)&&true)):=rfl;grind [kH,ci]
def jH(K:List (V×Int)):List D:=K.map λq=>.st [cO q,.bool true]
theorem zw:∀ (K:List (V×Int)) (q:V×Int),akr (jH K) (cO q)=if q∈K then some (.bool true) else none
 | [],q=>by simp[jH,akr]
 | p::K,q=>by have ih:=zw K q;simp only[jH,z4a,akr,SN] at ih ⊢;all_goals grind
theorem zy:∀ (K:List (V×Int)) (q:V×Int),q ∉ K->aks (jH K) (cO q) (.bool true)=jH (K++[q])
 | [],q,_=>rfl
 | p::K,q,h=>by
  have ih:=zy K q (λhq=>h (zsa _ hq))
  simp_all [jH,z4a,zrb,aks,SN,decide_false]
def IE(K:List (V×Int)):(jH K).map yn=K.map cO:=by simp[jH,yn]
def supp(l:List V)(q:V×Int):Bool:=uo l q.1 q.2&&ns l q.1 q.2
def kC(l:List V)(K:List (V×Int))(q:V×Int):List (V×Int):=if q∈K then K else if supp l q then K++[q] else K
theorem xl{x:V×Int}(h:x∈K):x∈kC l K q:=by all_goals grind [kC]
theorem Dx(h:supp l q=true):q∈kC l K q:=by all_goals grind [kC]
theorem Dw{x:V×Int}(h:x∈kC l K q):x∈K\/(x=q/\supp l q=true):=by all_goals grind [kC]
theorem xj(h:K.Nodup):(kC l K q).Nodup:=by all_goals grind [kC,List.mem_singleton.1]
def s7(a b c:V):V×Int:=(aS (V.cross (b.sub a) (c.sub a)),V.dot (aS (V.cross (b.sub a) (c.sub a))) a)
def pV(q:V×Int):V×Int:=(q.1.neg,-q.2)
def Cd(l:List V)(i j k:Nat)(q:V×Int):Prop:=(s7 (l.getD i V.zero) (l.getD j V.zero) (l.getD k V.zero)).1≠V.zero/\(q=s7 (l.getD i V.zero) (l.getD j V.zero) (l.getD k V.zero)\/q=pV (s7 (l.getD i V.zero) (l.getD j V.zero) (l.getD k V.zero)))
structure Known(l:List V)(i j k:Nat)(K:List (V×Int)):Prop where
 nd:K.Nodup
 ok:∀ q∈K,supp l q=true/\∃ i j k,k<j/\j<i/\i<l.length/\Cd l i j k q
 all:∀ i' j' k',k'<j'->j'<i'->i'<l.length->(i'<i\/i'=i/\(j'<j\/j'=j/\k'<k))->∀ q,Cd l i' j' k' q->supp l q=true->q∈K
theorem Ua{a b c:V}(d:bd MV a)(g:bd MV b)(hc:bd MV c):bd 549755813888 (s7 a b c).1/\inR (s7 a b c).2/\inR (-(s7 a b c).2):=by
 have h1:bd 524288 (b.sub a):=by have:=k9 g d;simpa [MV] using this
 have e:bd 524288 (c.sub a):=by have:=k9 hc d;simpa [MV] using this
 have f:=fJ (jU h1 e);have h:=KE f d;grind [MV,inR,s7]
def Known.step{i k:Nat}(h:Known l i j k K)(hk:k<j)(b:j<i)(hi:i<l.length)(c:(s7 (l.getD i V.zero) (l.getD j V.zero) (l.getD k V.zero)).1≠V.zero) :
  Known l i j (k+1) (kC l (kC l K (s7 (l.getD i V.zero) (l.getD j V.zero) (l.getD k V.zero))) (pV (s7 (l.getD i V.zero) (l.getD j V.zero) (l.getD k V.zero)))):=by
 refine⟨xj (xj h.nd),λq hq=>?_,λd f g h1 m n o q hq a=>?_⟩
 ·rcases Dw hq with hq|⟨rfl,a⟩
  ·rcases Dw hq with hq|⟨rfl,a⟩
   ·exact h.ok q hq
   ·exact⟨a,i,j,k,hk,b,hi,c,.inl rfl⟩
  ·exact⟨a,i,j,k,hk,b,hi,c,.inr rfl⟩
 ·by_cases e:d=i/\f=j/\g=k
  ·obtain⟨rfl,rfl,rfl⟩:=e;rcases hq.2 with rfl|rfl
   ·exact xl (Dx a)
   ·exact Dx a
  ·exact xl (xl (h.all d f g h1 m n u0 q hq a))
def Known.skip{i k:Nat}(h:Known l i j k K)(m:(s7 (l.getD i V.zero) (l.getD j V.zero) (l.getD k V.zero)).1=V.zero):Known l i j (k+1) K:=by
 refine⟨h.nd,h.ok,λa b c h1 d f n q hq g=>?_⟩;by_cases e:a=i/\b=j/\c=k
 ·obtain⟨rfl,rfl,rfl⟩:=e;exact zgb m hq.1
 ·exact h.all a b c h1 d f u0 q hq g
def Known.next{i:Nat}(h:Known l i j j K):Known l i (j+1) 0 K:=
 ⟨h.nd,h.ok,λc d e h1 a b f=>h.all c d e h1 a b u0⟩
def Known.next2{i:Nat}(h:Known l i i 0 K):Known l (i+1) 0 0 K:=
 ⟨h.nd,h.ok,λc d e h1 a b f=>h.all c d e h1 a b u0⟩
theorem qg{α β:Type}{f:α->List β}{c:Nat}:∀ l:List α,(∀ x∈l,(f x).length=c)->(l.flatMap f).length=l.length*c
 | [],_=>j2
 | x::l,h=>by rw[List.flatMap_cons,zAa,h x zBa,qg l (λy a=>h y (zsa _ a)),zPa,Nat.succ_mul];omega
def Known.len{i k:Nat}(h:Known l i j k K)(hl:l.length<=100):K.length<=2000000:=by
 have h1:=zhc (l₂:=(List.range l.length).flatMap λi=>(List.range l.length).flatMap λj=>(List.range l.length).flatMap λk=>[s7 (l.getD i V.zero) (l.getD j V.zero) (l.getD k V.zero),pV (s7 (l.getD i V.zero) (l.getD j V.zero) (l.getD k V.zero))]) h.nd (λq hq=>by
  obtain⟨_,i,j,k,h1,d,a,b⟩:=h.ok q hq;refine zqb.2 ⟨i,zRa.2 a,zqb.2 ⟨j,zRa.2 u0,zqb.2 ⟨k,zRa.2 u0,?_⟩⟩⟩
  rcases b.2 with rfl|rfl<;>simp)
 rw[qg (c:=l.length*(l.length*2)) _ (λi _=>by rw[qg (c:=l.length*2) _ (λj _=>by rw[qg (c:=2) _ (λk _=>rfl),zcc]),zcc]),zcc] at h1
 refine zva h1 ?_;have a1:l.length*2<=200:=u0
 have a2:=zFa hl a1;have a3:=zFa hl a2;exact a3
def ew{i:Nat}(h:i<l.length):(l.map ag)[i]?=some (ag (l.getD i V.zero)):=by simp[h,List.getD]
def de{i:Nat}(h:i<l.length):l.getD i V.zero∈l:=by simp[List.getD,h]
def IY{n:Nat}{K:List (V×Int)}(hl:∀ x∈l,bd MV x)(hq:bd 549755813888 q.1)(hlen:l.length<=1000) :
  (if(!decide (q∈K))=true then((C (n+2) 98 [bg l,cO q]).bind λr=>D.truth r) else some false)=some (!decide (q∈K)&&supp l q):=by
 obtain⟨m,d⟩:=q;have hc:=c98 n (d:=d) hl hq H u0
 simp only[hc,zba,ac];cases decide ((m,d)∈K)<;>rfl
end
section
variable{l:List V}{a:V}{K:List (V×Int)}{j:Nat}{q:V×Int}
theorem QQ{b:V}(h:aP a b):yd [bk a.x b.x,bk a.y b.y,bk a.z b.z]=-1:=by all_goals grind [aP,yd,bk]
theorem QP{b:V}(h:aP b a):yd [bk a.x b.x,bk a.y b.y,bk a.z b.z]=1:=by all_goals grind [aP,yd,bk,Int.not_lt.2,Int.le_of_lt]
def QO(a:V):yd [bk a.x a.x,bk a.y a.y,bk a.z a.z]=0:=by simp[yd,bk]
theorem HS{α:Type}(key:α->V):∀ (K:List α),K.Pairwise (λa b=>key a≠key b)->∃ L:List α,L.Perm K/\L.Pairwise (λa b=>aP (key a) (key b))
 | [],_=>⟨[],.refl _,.nil⟩
 | x::K,h=>by
  obtain⟨h1,e⟩:=zNa.1 h;obtain⟨L,p1,g⟩:=HS key K e;have d:∀ y∈L,key x≠key y:=λy f=>h1 y (p1.subset f);have ins:∀ L:List α,L.Pairwise (λa b=>aP (key a) (key b))->(∀ y∈L,key x≠key y)->∃ M:List α,M.Perm (x::L)/\M.Pairwise (λa b=>aP (key a) (key b)):=by
   intro L
   induction L with
   | nil=>intro _ _;exact⟨[x],.refl _,j2⟩
   | cons y L ih=>
    intro hp hn;obtain⟨q1,i⟩:=zNa.1 hp;rcases t6 (hn y zBa) with k|k
    ·refine⟨x::y::L,.refl _,zNa.2 ⟨λz c=>?_,hp⟩⟩;rcases zOa.1 c with rfl|c
     ·exact k
     ·exact nI k (q1 z c)
    ·obtain⟨M,m1,G⟩:=ih i (λz c=>hn z (zsa _ c));refine⟨y::M,(m1.cons y).trans (.swap x y L),zNa.2 ⟨λz c=>?_,G⟩⟩;all_goals grind
  obtain⟨M,m1,G⟩:=ins L g d;exact⟨M,m1.trans (p1.cons x),G⟩
def GK(n:Nat)(p q:V×Int):ws (c7 F (C (n+3)) (kB F (C (n+3)))) (cp 100) (cO p) (cO q)=some (yd [bk p.1.x q.1.x,bk p.1.y q.1.y,bk p.1.z q.1.z]):=by
 unfold ws;rw[show ∀ l,(c7 F (C (n+3)) (kB F (C (n+3)))).call (cp 100) l=C (n+3) 100 l from λl=>congrFun (zIa (C (n+3)) (show rK (cp 100)=100 by kernel_rfl)) l,adN]
 rfl
theorem Lg(n:Nat):∀ (L:List (V×Int)),L.Pairwise (λa b=>aP a.1 b.1)->u6 (c7 F (C (n+3)) (kB F (C (n+3)))) (cp 100) (L.map cO)=true
 | [],_=>rfl
 | p::L,h=>by
  obtain⟨h1,c⟩:=zNa.1 h;simp only[z4a,u6,X,zya,zmb];refine⟨⟨?_,?_⟩,Lg n L c⟩
  ·simp_all [JR,GK,QO]
  ·rintro _ ⟨q,hq,rfl⟩;simp only[ua,JR,GK,QQ (h1 q hq),QP (h1 q hq)];decide
def Sg(n:Nat){L:List (V×Int)}(hp:L.Perm K)(h:L.Pairwise (λa b=>aP a.1 b.1)):kR (c7 F (C (n+3)) (kB F (C (n+3)))) (cp 100) (K.map cO)=some (L.map cO):=
 xG (Lg n L h) (hp.symm.map _)
def A(l:List V)(i:Nat):V:=l.getD i V.zero
theorem rS(a b:V):V.dot a.neg b=- V.dot a b:=by simp only[V.dot,V.neg];grind
def Cd.dist{i k:Nat}(h:Cd l i j k q):q.2=V.dot q.1 (l.getD i V.zero):=by
 rcases h.2 with rfl|rfl
 ·rfl
 ·simp only[pV,rS];rfl
def HU(h:supp l q=true){x:V}(hx:x∈l):V.dot q.1 x<=q.2:=by simp_all [supp,uo,X,zya,zea]
theorem Known.keys{i k:Nat}(h:Known l i j k K):K.Pairwise (λa b=>a.1≠b.1):=by refine z3c (λ{a b} f g c e=>c ?_) h.nd;obtain⟨s1,i1,o,q,_,_,h1,c1⟩:=h.ok a f;obtain⟨s2,i2,p,r,_,_,d,c2⟩:=h.ok b g;have m:=c1.dist;have n:=c2.dist;have l1:=HU s1 (de d);have s:=HU s2 (de h1);grind
theorem p45(n:Nat)(hl:∀ x∈l,bd MV x)(hlen:l.length<=100):∃ y,C (n+6) 45 [bg l]=some y/\∃ K L:List (V×Int),Known l l.length 0 0 K/\L.Perm K/\L.Pairwise (λa b=>aP a.1 b.1)/\y=.sl (L.map cO):=by
 rw[u45];unfold Wn;simp only[bg,D.asSl,zba];refine nK (λi s=>∃ K,s=[I i,.sl (jH K)]/\Known l i 0 0 K) l.length 0 (zoa _) ⟨[],rfl,⟨List.nodup_nil,j2,λE F G _ _ _ h=>u0⟩⟩ (λi hi s d=>?_) (λs d=>?_)
 ·obtain⟨K,rfl,c⟩:=d;simp only[g0,g1,zka,ah,zba,ac,zea,show((i:Int)<(l.length:Int)) from by omega,if_true,D.els]
  refine nK (λj s=>∃ K,s=[I j,.sl (jH K)]/\Known l i j 0 K) i 0 (zoa _) ⟨K,rfl,c⟩ (λj B s d=>?_) (λs d=>?_)
  ·obtain⟨K,rfl,c⟩:=d;simp only[g0,g1,ah,zba,ac,zea,show((j:Int)<(i:Int)) from by omega,if_true,D.els]
   refine nK (λk s=>∃ K,s=[I k,.sl (jH K)]/\Known l i j k K) j 0 (zoa _) ⟨K,rfl,c⟩ (λk hk s d=>?_) (λs d=>?_)
   ·obtain⟨K,rfl,c⟩:=d;have e:=Ua (hl _ (de hi)) (hl _ (de (show j<l.length by omega))) (hl _ (de (show k<l.length by omega)))
    have hc:=c96 (n+2) (hl _ (de hi)) (hl _ (de (show j<l.length by omega))) (hl _ (de (show k<l.length by omega)))
    rw[show(aS (V.cross ((l.getD j V.zero).sub (l.getD i V.zero)) ((l.getD k V.zero).sub (l.getD i V.zero))),V.dot (aS (V.cross ((l.getD j V.zero).sub (l.getD i V.zero)) ((l.getD k V.zero).sub (l.getD i V.zero)))) (l.getD i V.zero))=s7 (l.getD i V.zero) (l.getD j V.zero) (l.getD k V.zero) from rfl] at hc;simp only[g0,g1,ah,zba,ac,zea,show((k:Int)<(j:Int)) from by omega,if_true,D.els,zka,aj hi,aj (show j<l.length by omega),aj (show k<l.length by omega),ew hi,ew (show j<l.length by omega),ew (show k<l.length by omega),hc]
    by_cases hz:(s7 (l.getD i V.zero) (l.getD j V.zero) (l.getD k V.zero)).1=V.zero
    ·have o:D.beq (ag (s7 (l.getD i V.zero) (l.getD j V.zero) (l.getD k V.zero)).1) (D.st [D.int .i64 0,D.int .i64 0,D.int .i64 0])=true:=by
      rw[wI,kH];exact zna hz
     simp only[show D.get (cO (s7 (l.getD i V.zero) (l.getD j V.zero) (l.getD k V.zero))) [0]=some (ag (s7 (l.getD i V.zero) (l.getD j V.zero) (l.getD k V.zero)).1) from rfl,zba,o,ac,if_true,g0,D.els,ay (aw (i:=k) u0)]
     exact⟨_,rfl,K,rfl,c.skip hz⟩
    ·have o:D.beq (ag (s7 (l.getD i V.zero) (l.getD j V.zero) (l.getD k V.zero)).1) (D.st [D.int .i64 0,D.int .i64 0,D.int .i64 0])=false:=by
      rw[wI,kH];exact zfa hz
     have step:=c.step hk B hi hz;generalize hq:s7 (l.getD i V.zero) (l.getD j V.zero) (l.getD k V.zero)=q at *;obtain⟨b1,b2,A⟩:=e;have t:D.st [ag q.1.neg,I (-q.2)]=cO (pV q):=rfl;have M:bd 549755813888 (pV q).1:=tn b1;simp only[show D.get (cO q) [0]=some (ag q.1) from rfl,show D.get (cO q) [1]=some (I q.2) from rfl,zba,o,ac,zHa,if_false,QL (n+4) b1 H,nj A,t]
     have one:∀ (K:List (V×Int)) (p:V×Int),bd 549755813888 p.1->((akz .not (Option.getD (akr (jH K) (cO p)) (D.bool false))).bind λv=>(D.truth v).bind λf=>Option.bind (if f then((C (n+5) 98 [D.sl (l.map ag),cO p]).bind λu=>D.truth u) else(some false)) λg=>
       if g then(some ((0:Nat),[(D.sl [cO q,cO (pV q)]),(D.sl (aks (jH K) (cO p) (D.bool true)))])) else(some (0,[(D.sl [cO q,cO (pV q)]),(D.sl (jH K))])))=some (0,[D.sl [cO q,cO (pV q)],D.sl (jH (kC l K p))]):=λK p hp=>by
      rw[zw];have ht:=IY (n:=n+3) (K:=K) hl hp u0
      simp only[bg] at ht;by_cases hm:p∈K
      ·simp[hm,aJ,ac,kC]
      ·simp only[hm,if_false,Option.getD_none,aJ,zXb,zba,ac,if_true,decide_false,z6b] at ht ⊢;rw[ht];simp only[zba,kC,hm,if_false];split
       ·rw[zy K p hm]
       ·rfl
     refine⟨.inl [I ((k+1:Nat):Int),.sl (jH (kC l (kC l K q) (pV q)))],?_,_,rfl,step⟩;refine O (z:=(0,[.sl (jH (kC l (kC l K q) (pV q)))])) ?_ ?_
     ·refine aL (s':=[.sl [cO q,cO (pV q)],I 1,.sl (jH (kC l K q))]) ?_ (aL (s':=[.sl [cO q,cO (pV q)],I 2,.sl (jH (kC l (kC l K q) (pV q)))]) ?_ (dS (r:=(0,[.sl (jH (kC l (kC l K q) (pV q)))])) ?_ rfl))
      ·simp only[g0,g1,g2,D.els,ah,zba,ac,zea,show((0:Int)<2) from by decide,if_true,zPa,zzb,show D.idx (I 0) (0+1+1)=some 0 from rfl,zAb,ay Tf]
       simp_all
      ·simp only[g0,g1,g2,D.els,ah,zba,ac,zea,show((1:Int)<2) from by decide,if_true,zPa,zzb,show D.idx (I 1) (0+1+1)=some 1 from rfl,znb,zAb,ay yb]
       simp_all
      ·simp only[g0,g1,g2,D.els,ah,zba,ac];rfl
     ·simp only[g0,D.els,ay (aw (i:=k) u0),zba]
      rfl
   ·obtain⟨K,rfl,c⟩:=d;simp only[g0,g1,ah,zba,ac,zea,zfd,if_false,D.els];refine⟨_,rfl,.inl [I ((j+1:Nat):Int),.sl (jH K)],?_,K,rfl,c.next⟩
    simp only[g0,D.els,ay (aw (i:=j) u0),zba]
    rfl
  ·obtain⟨K,rfl,c⟩:=d;simp only[g0,g1,ah,zba,ac,zea,zfd,if_false,D.els];refine⟨_,rfl,.inl [I ((i+1:Nat):Int),.sl (jH K)],?_,K,rfl,c.next2⟩;simp only[g0,D.els,ay (aw (i:=i) u0),zba]
   rfl
 ·obtain⟨K,rfl,c⟩:=d;simp only[g0,g1,zka,ah,zba,ac,zea,zfd,if_false,D.els];obtain⟨L,p1,w⟩:=HS (λq:V×Int=>q.1) K c.keys;refine⟨_,rfl,.sl (L.map cO),?_,K,L,c,p1,w,rfl⟩;have m:(jH K).length<=1073741824:=by
   have:=c.len hlen;grind [jH,List.length_map]
  simp only[g0,D.els,m,decide_true,if_true,IE,Sg (n+2) p1 w,zba]
end
section
variable{l:List V}{q:V×Int}{j:Nat}
def sZ:supp l q=true↔Ey (A l) l.length q.1 q.2:=by
 simp only[supp,uo,ns,X,zya,zrc,zea,Ey,A];constructor
 ·rintro⟨h1,x,hx,a⟩;obtain⟨k,hk,rfl⟩:=z3a hx;exact⟨λk hk=>h1 _ (de hk),k,hk,by simpa [List.getD,hk] using a⟩
 ·rintro⟨h1,k,hk,a⟩;refine⟨λx hx=>?_,_,de hk,a⟩;obtain⟨k,hk,rfl⟩:=z3a hx
  simp_all
theorem SA(P:Nat->V)(i j k:Nat):V.cross ((P j).sub (P i)) ((P k).sub (P i))=(gq P k j i).neg:=by grind [gq,M,V.cross,V.sub,V.neg]
theorem CE{P:Nat->V}{i k:Nat}:V.dot (aS (gq P i j k)) (P k)=V.dot (aS (gq P i j k)) (P i):=by
 by_cases h:gq P i j k=V.zero
 ·have a:aS V.zero=V.zero:=by apply V.ext'<;>simp[aS,V.zero]
  rw[h,a];simp[V.dot,V.zero]
 ·have g:=jZ h;have e:=j9 (gq P i j k);have t2:V.dot (gq P i j k) (M P i k)=0:=by simp only[gq,V.dot,V.cross];grind
  rw[e] at t2;have:(br (gq P i j k):Int)*V.dot (aS (gq P i j k)) (M P i k)=0:=by rw[<-t2];simp only[V.dot,V.smul];grind
  have h0:=bQ u0 this
  grind [fd]
def MA{v:V}(h:v≠V.zero):v.neg≠V.zero:=λe=>by have a:=zIa V.x e;have b:=zIa V.y e;have c:=zIa V.z e;simp only[V.neg,V.zero] at a b c;exact h (V.ext' (by simp only[V.zero];omega) (by simp only[V.zero];omega) (by simp only[V.zero];omega))
theorem Sw(l:List V)(i j k:Nat):(s7 (A l i) (A l j) (A l k)).1=(aS (gq (A l) k j i)).neg:=by grind [s7,SA,A,DF]
def Dq(v:V):v.neg.neg=v:=by apply V.ext'<;>simp[V.neg]
def JW{i k:Nat}:Cd l i j k q↔gq (A l) k j i≠V.zero/\(q.1=aS (gq (A l) k j i)\/q.1=(aS (gq (A l) k j i)).neg)/\q.2=V.dot q.1 (A l k):=by
 have e:=Sw l i j k;have d:V.dot (aS (gq (A l) k j i)) (A l i)=V.dot (aS (gq (A l) k j i)) (A l k):=CE;have n:(s7 (A l i) (A l j) (A l k)).1≠V.zero↔gq (A l) k j i≠V.zero:=by
  rw[e];constructor
  ·intro h h0;rw[h0] at h;exact h rfl
  ·intro h;exact MA (vI h)
 constructor
 ·intro h;have f:=h.dist;obtain⟨h1,c⟩:=h;refine⟨n.1 h1,?_⟩;have hq:q.1=aS (gq (A l) k j i)\/q.1=(aS (gq (A l) k j i)).neg:=by
   rcases c with rfl|rfl
   ·exact .inr e
   ·left;show(s7 (A l i) (A l j) (A l k)).1.neg=_;rw[e,Dq]
  refine⟨hq,?_⟩;rw[f];rcases hq with hq|hq
  ·rw[hq];exact d
  ·rw[hq,rS,rS];exact zIa Neg.neg d
 ·rintro⟨h1,c,m⟩;refine⟨n.2 h1,?_⟩;have g:(s7 (A l i) (A l j) (A l k)).2=V.dot (s7 (A l i) (A l j) (A l k)).1 (A l i):=rfl;obtain⟨a,b⟩:=q;simp only at c m;subst m;rcases c with rfl|rfl
  ·right;show _=((s7 (A l i) (A l j) (A l k)).1.neg,-(s7 (A l i) (A l j) (A l k)).2);rw[g,e,Dq,rS,d,Int.neg_neg]
  ·left;refine Prod.ext e.symm ?_;show _=(s7 (A l i) (A l j) (A l k)).2
   simp_all [g,rS]
def Known.facets{K L:List (V×Int)}(h:Known l l.length 0 0 K)(hp:L.Perm K)(g:L.Pairwise (λa b=>aP a.1 b.1)):Facets (A l) l.length L:=by
 refine⟨g,λq=>⟨λhq=>?_,λhq=>?_⟩⟩
 ·obtain⟨f,i,j,k,h1,e,c,hc⟩:=h.ok q (hp.subset hq);obtain⟨c1,c2,d⟩:=JW.1 hc;exact⟨⟨k,j,i,h1,e,c,c1,c2,d⟩,sZ.1 f⟩
 ·obtain⟨⟨i,j,k,h1,e,c,c1,c2,d⟩,f⟩:=hq;exact hp.symm.subset (h.all k j i h1 e c (.inl c) q (JW.2 ⟨c1,c2,d⟩) (sZ.2 f))
end
def mr:Option Nat->D
 | none=>I (-1)
 | some b=>I (b:Int)
def Vp{α:Type}{p:Prop}[Decidable p]{A B:α}(h:p):(if decide p=true then A else B)=A:=by rw[zla (zna h)]
def Vq{α:Type}{p:Prop}[Decidable p]{A B:α}(h:¬ p):(if decide p=true then A else B)=B:=by rw[zia (by simpa using h)]
def au{α:Type}{p:Prop}[Decidable p]{A B y:α}(h:p)(a:A=y):(if decide p=true then A else B)=y:=by rw[zla (zna h)];exact a
def aB{α:Type}{p:Prop}[Decidable p]{A B y:α}(h:¬ p)(a:B=y):(if decide p=true then A else B)=y:=by rw[zia (by simpa using h)];exact a
def zV{x:Int}:sg x<0↔x<0:=by grind [sg]
def jL{x:Int}:sg x=0↔x=0:=by grind [sg]
def cZ(a b:Nat):D.beq (I (a:Int)) (I (b:Int))=decide (a=b):=by grind [ci]
def UJ(n:Nat){l:List V}(hl:∀ x∈l,bd MV x){m:V}{d:Int}{a k:Nat}{best:Option Nat}(a2:m≠V.zero)(e:a<l.length)(hk:k<l.length)(Y:∀ b,best=some b->b<l.length/\V.dot m (M (A l) a b)=0)(a4:V.dot m (M (A l) a k)=0)(X:D) :
  ((D.truth (D.bool (D.beq (I (k:Int)) (I (a:Int))))).bind λr=>
  if r then(some ((0:Nat),[mr best,X])) else((akk .lss (mr best) (D.int .i64 0)).bind λa1=>
  (D.truth a1).bind λs=>
  if s then(some (0,[I (k:Int),X])) else((D.asSl (bg l)).bind λi=>
  (D.idx (I (k:Int)) (List.length i)).bind λi29=>
  (i[i29]?).bind λa0=>
  (D.asSl (bg l)).bind λj=>
  (D.idx (I (a:Int)) (List.length j)).bind λi32=>
  (j[i32]?).bind λK=>
  (C (n+4) 103 [a0,K]).bind λf=>
  (D.asSl (bg l)).bind λo=>
  (D.idx (mr best) (List.length o)).bind λi36=>
  (o[i36]?).bind λL=>
  (D.asSl (bg l)).bind λp=>
  (D.idx (I (a:Int)) (List.length p)).bind λi39=>
  (p[i39]?).bind λa3=>
  (C (n+4) 103 [L,a3]).bind λg=>
  (D.get (cO (m,d)) [0]).bind λN=>
  (C (n+4) 104 [N,g,f]).bind λq=>
  (akk .lss q (D.int .i64 0)).bind λZ=>
  (D.truth Z).bind λt=>
  Option.bind (if t then(some true) else((D.truth (D.bool (D.beq q (D.int .i64 0)))).bind λu=>
  if u then((C (n+4) 101 [f,f]).bind λE=>
  (C (n+4) 101 [g,g]).bind λF=>
  (akk .gtr E F).bind λP=>
  D.truth P) else(some false))) λv=>
  (D.truth (D.bool v)).bind λw=>
  if w then(some (0,[I (k:Int),X])) else(some (0,[mr best,X])))))=some (0,[mr (dU m (A l) a best k),X]):=by
 by_cases hka:k=a
 ·subst hka;have h0:D.beq (I (k:Int)) (I (k:Int))=true:=by rw[cZ];simp
  rw[h0,show dU m (A l) k best k=best from zla rfl];exact J true (zla rfl)
 ·have h0:D.beq (I (k:Int)) (I (a:Int))=false:=by rw[cZ];simp[hka]
  rw[h0];refine J false ?_;rw[zia H]
  have h:∀ b,dU m (A l) a b k=match b with
   | none=>some k
   | some b=>if to m (A l) a b k then some k else some b:=λb=>zia hka
  rw[h];clear h h0;cases best with
  | none=>exact J (.bool true) (J true rfl)
  | some b=>
   obtain⟨c,y⟩:=Y b rfl;have c1:=KP (n+2) (hl _ (de hk)) (hl _ (de e)) H
   have c2:=KP (n+2) (hl _ (de c)) (hl _ (de e)) H
   have w1:bd 524288 (M (A l) a k):=pi (hl _ (de e)) (hl _ (de hk));have G:bd 524288 (M (A l) a b):=pi (hl _ (de e)) (hl _ (de c));have U:(l.getD k V.zero).sub (l.getD a V.zero)=M (A l) a k:=rfl;have W:(l.getD b V.zero).sub (l.getD a V.zero)=M (A l) a b:=rfl;rw[U] at c1;rw[W] at c2;have Q:=adO (n+1) (m:=m) G w1 H
   have R:=KO (n+3) w1 w1 H
   have S:=KO (n+3) G G H
   have hle:=Hi a2 (lv y a4);rw[hle] at Q;have B:¬ ((b:Int)<0):=u0
   have ll:(l.map ag).length=l.length:=zka ..;refine O (z:=.bool false) (by rw[show mr (some b)=I (b:Int) from rfl,ah,zfa B]) (J false ?_)
   rw[zia H]
   refine J (l.map ag) (O (z:=k) (by rw[ll];exact aj hk) (O (ew hk) ?_))
   refine J (l.map ag) (O (z:=a) (by rw[ll];exact aj e) (O (ew e) ?_))
   refine O c1 ?_;refine J (l.map ag) (O (z:=b) (by rw[ll];exact aj c) (O (ew c) ?_))
   refine J (l.map ag) (O (z:=a) (by rw[ll];exact aj e) (O (ew e) ?_))
   refine O c2 (J (ag m) (O Q (O ah (O ac ?_))));simp only[zV,ci,jL,ac,zba,R,S,cn,to,T];by_cases t1:V.dot m (V.cross (M (A l) a b) (M (A l) a k))<0
   ·simp[t1,mr]
   ·by_cases t2:V.dot m (V.cross (M (A l) a b) (M (A l) a k))=0
    ·by_cases t3:V.dot (M (A l) a b) (M (A l) a b)<V.dot (M (A l) a k) (M (A l) a k)
     ·simp[t2,t3,mr]
     ·grind
    ·grind
section
variable{P:Nat->V}
def u(L:List Nat):List D:=L.map λ(k:Nat)=>I (k:Int)
theorem ao(L:List Nat):(u L).length=L.length:=zka ..
def yZ{L:List Nat}{t k:Nat}(h:L[t]?=some k):(u L)[t]?=some (I (k:Int)):=by simp[u,h]
def He{n:Nat}(h:0<n):D.idx (D.int .i64 0) n=some 0:=aj (i:=0) h
theorem wR{m:V}{a:Nat}:∀ (L:List Nat) (best:Option Nat) (b:Nat),L.foldl (dU m P a) best=some b->b∈L\/best=some b
 | [],best,b,h=>.inr h
 | k::L,best,b,h=>by
  rw[zzc] at h;rcases wR L _ b h with h1|h1
  ·simp_all
  ·unfold dU at h1;all_goals grind
theorem wp{body:Bd}{S:Nat->Nat->Prop}{a:Nat}{G:Nat->Prop}(g:∀ c b,G c->S c b->b≠a->G b)
  (d:∀ (c b:Nat) (out:List Nat),G c->c≠a->S c b->out.length<=1000->body [.sl (u out),I (c:Int)]=some (.inl [.sl (u (out++[c])),I (b:Int)]))
  (e:∀ out:List Nat,body [.sl (u out),I (a:Int)]=some (.inr (0,[.sl (u out)]))) :
  ∀ {c:Nat} {p:List Nat},Chain S a c p->G c->c≠a->∀ out:List Nat,(out++p).length<=1000->F body [.sl (u out),I (c:Int)]=some (0,[.sl (u (out++p))])
 | c,_,.done s,hc,f,out,hl=>by
  have h1:=d c a out hc f s (by simp at hl;omega)
  rw[show F body [.sl (u out),I (c:Int)]=F body [.sl (u (out++[c])),I (a:Int)] from cB h1];exact cT (e _)
 | c,_,.step (y:=y) (l:=p) s hy k,hc,f,out,hl=>by
  have h1:=d c y out hc f s (by simp at hl;omega)
  rw[show F body [.sl (u out),I (c:Int)]=F body [.sl (u (out++[c])),I (y:Int)] from cB h1];have:=wp g d e k (g c y hc s hy) hy (out++[c]) (by simpa using hl)
  simp_all
theorem lJ{i:Nat}{m:V}{d:Int}:bU P (i+1) m d=if V.dot m (P i)=d then bU P i m d++[i] else bU P i m d:=by all_goals grind [bU,List.range_succ]
theorem p46(n:Nat){l:List V}(hl:∀ x∈l,bd MV x)(hlen:l.length<=100)(hs:∀ i j,i<j->j<l.length->aP (A l i) (A l j)){m:V}{d:Int}(T:IsF (A l) l.length m d)(hm:bd 549755813888 m) :
  ∃ p,bZ (A l) l.length m d p/\C (n+5) 46 [bg l,cO (m,d)]=some (.sl (u p)):=by
 obtain⟨p,hp,al,a8⟩:=T.poly hs;refine⟨p,hp,?_⟩;have F:=T.flat hs;obtain⟨a,q,a5,a0,K,h3⟩:=T.head hs;obtain⟨a',v,L⟩:=hp;rw[q] at v;cases v;obtain⟨on,a9⟩:∃ on,bU (A l) l.length m d=on:=⟨_,rfl⟩;rw[a9] at F q a5 a0 K h3 L a8;have a3:∀ k∈on,k<l.length:=λk hk=>by rw[<-a9] at hk;exact(bc.1 hk).1
 have N:∀ k∈on,V.dot m (A l k)=d:=λk hk=>by rw[<-a9] at hk;exact(bc.1 hk).2
 have hw:∀ b∈on,∀ k∈on,V.dot m (M (A l) b k)=0:=λb w k hk=>by rw[fd,N b w,N k hk];omega
 have aI:on.length<=100:=by grind [bU,List.length_range]
 have a1:p.length<=on.length:=zhc al λz hz=>((a8 z).1 hz).1;have ll:(l.map ag).length=l.length:=zka ..;have r:=λ(c k:Nat) (hc:c∈on) (hk:k∈on) (best:Option Nat) (w:∀ b,best=some b->b∈on) (X:D)=>UJ n hl (d:=d) T.nz.1 (a3 c hc) (a3 k hk) (best:=best) (λb e=>⟨a3 b (w b e),hw c hc b (w b e)⟩) (hw c hc k hk) X;have P:∀ c∈on,Geo.oh (A l) on c->∃ b,on.foldl (dU m (A l) c) none=some b/\Side m (A l) on c b:=λc hc ec=>zH F hc ec (h3 c hc);obtain⟨t0,B⟩:∃ t0,on=a::t0:=by
  cases hx:on with
  | nil=>rw[hx] at a5;simp at a5
  | cons y t0=>rw[hx] at q;simp at q;subst q;exact⟨t0,rfl⟩
 have f:(u on)[0]?=some (I (a:Int)):=by rw[B];rfl
 have g:0<(u on).length:=by rw[ao,B];simp
 rw[u46]
 delta YT Q qC qS qX qV qW iL iR Jn J0 bq jl nq qO qb qc qh qi qj Z qt qu qy
 refine J (l.map ag) ?_;refine aZ (λi s=>s=[I (i:Int),.sl (u (bU (A l) i m d))]) l.length 0 (zoa _) rfl (λi hi s o=>?_) (λs o=>?_)
 ·subst o;left;refine⟨_,?_,rfl⟩;refine O ah (O ac ?_);refine au (by show((i:Int)<((l.map ag).length:Int));rw[ll];omega) ?_
  refine O (z:=(0,[.sl (u (bU (A l) (i+1) m d))])) ?_ (O (ay (aw (i:=i) u0)) rfl)
  refine J (l.map ag) (O (z:=i) (by rw[ll];exact aj hi) (O (ew hi) (J (ag m) (O (KO (n+3) hm (hl _ (de hi)) H) (J (I d) ?_)))))
  rw[ci];refine O ac ?_;rw[lJ];by_cases hd:V.dot m (A l i)=d
  ·have E:V.dot m (l.getD i V.zero)=d:=hd;rw[zla hd,Vp E,zla ?_]
   ·simp[g1,D.els,u,g0]
   ·grind [bU,g0,g1,D.els,ao,List.length_cons]
  ·have E:¬ V.dot m (l.getD i V.zero)=d:=hd;rw[zia hd,Vq E];rfl
 ·subst o;refine⟨(0,[.sl (u on)]),?_,?_⟩
  ·refine O ah (O ac ?_);rw[<-a9];exact aB (by show ¬ ((l.length:Int)<((l.map ag).length:Int));rw[ll];omega) rfl
  refine O (He g) (O f (O (He g) (O f ?_)));obtain⟨b1,a4,a2⟩:=P a a5 a0;refine aZ (λt s=>s=[mr ((on.take t).foldl (dU m (A l) a) none),.sl (u on),I (t:Int),.sl (u on)]) on.length 0 (zoa _) rfl (λt ht s o=>?_) (λs o=>?_)
  ·subst o;left;refine⟨_,?_,rfl⟩;refine O ah (O ac ?_);refine au (by show((t:Int)<((u on).length:Int));rw[ao];omega) ?_
   have hk:=zda ht;refine O (z:=(0,[mr ((on.take (t+1)).foldl (dU m (A l) a) none),.sl (u on)])) ?_ (O (ay (aw (i:=t) u0)) rfl)
   refine J (u on) (O (z:=t) (by rw[ao];exact aj ht) (O (yZ hk) ?_))
   rw[zxa ht,List.foldl_append,zzc,List.foldl_nil];exact r a on[t] a5 (zGa ht) _ (λb w=>by
    rcases wR _ _ b w with h|h
    ·grind
    ·cases h) (.sl (u on))
  ·subst o;rw[z8a,a4];refine⟨(0,[I (b1:Int),.sl (u on)]),?_,?_⟩
   ·refine O ah (O ac ?_);refine aB (by show ¬ ((on.length:Int)<((u on).length:Int));rw[ao];omega) ?_
    rfl
   obtain⟨U,a7,a6,hy⟩:∃ U,p=a::U/\Chain (Side m (A l) on) a b1 U/\b1≠a:=by
    cases L with
    | done s=>exact zgb rfl s.ne
    | step s an k=> have:=ak4 F a5 s a2;subst this;exact⟨_,rfl,k,an⟩
   refine t8 (wp (S:=Side m (A l) on) (a:=a) (G:=λc=>c∈on/\Geo.oh (A l) on c) (λc b hc s _=>⟨s.mem,s.ext F hc.1⟩) (λc b out hc ad ax aO=>?_) (λout=>?_) a6 ⟨a2.mem,a2.ext F a5⟩ hy [a] ?_) ?_
   ·obtain⟨b',Y,R⟩:=P c hc.1 hc.2;have:=ak4 F hc.1 ax R;subst this;refine J (u on) (O (He g) (O f ?_));have W:D.beq (I (c:Int)) (I (a:Int))=false:=by rw[cZ];simp[ad]
    refine O (z:=true) (by show D.truth (D.bool (!(D.beq (I (c:Int)) (I (a:Int)))))=_;rw[W];rfl) ?_
    rw[zla rfl,zla (by simp only[g0,D.els,ao,zPa,zzb];omega)]
    refine J (u on) ?_;refine cH (λt s=>s=[mr ((on.take t).foldl (dU m (A l) c) none),I (t:Int)]) on.length 0 (zoa _) rfl (λt ht s o=>?_) (λs o=>?_)
    ·subst o;left;refine⟨_,?_,rfl⟩;refine O ah (O ac ?_);refine au (by show((t:Int)<((u on).length:Int));rw[ao];omega) ?_
     have hk:=zda ht;refine O (z:=(0,[mr ((on.take (t+1)).foldl (dU m (A l) c) none),.sl (u on)])) ?_ (O (ay (aw (i:=t) u0)) rfl)
     refine J (u on) (O (z:=t) (by rw[ao];exact aj ht) (O (yZ hk) ?_))
     rw[zxa ht,List.foldl_append,zzc,List.foldl_nil];exact r c on[t] hc.1 (zGa ht) _ (λb w=>by
      rcases wR _ _ b w with h|h
      ·exact zSa h
      ·cases h) (.sl (u on))
    ·subst o;rw[z8a,Y];refine⟨(0,[I (b:Int)]),?_,?_⟩
     ·refine O ah (O ac ?_);refine aB (by show ¬ ((on.length:Int)<((u on).length:Int));rw[ao];omega) ?_
      rfl
     ·simp[g0,g1,D.els,u]
   ·refine J (u on) (O (He g) (O f ?_));have W:D.beq (I (a:Int)) (I (a:Int))=true:=by rw[cZ];simp
    refine O (z:=false) (by show D.truth (D.bool (!(D.beq (I (a:Int)) (I (a:Int)))))=_;rw[W];rfl) ?_
    rfl
   ·have:([a]++U).length=p.length:=by rw[a7];rfl
    omega
   ·rw[a7];rfl
end
section
variable{l:List V}{a:Nat×Nat}
def oU(q:V×Int)(p:List Nat):D:=.st [ag q.1,I q.2,.sl (u p)]
def bw(l:List V):D:=.st [bg l]
def JO(l:List V):Prop:=∀ i j,i<j->j<l.length->aP (A l i) (A l j)
def Vn(hl:∀ x∈l,bd MV x){m:V}{d:Int}(h:IsF (A l) l.length m d):bd 549755813888 m:=by
 obtain⟨i,j,k,h1,e,a,f,b,g⟩:=h.ex;have hi:=hl _ (de (show i<l.length by omega))
 have c:=hl _ (de (show j<l.length by omega))
 have hk:=hl _ (de a);have:=fJ (jU (pi (P:=A l) hi c) (pi (P:=A l) hi hk));rcases b with rfl|rfl
 ·exact this
 ·exact tn this
theorem p18(n:Nat)(hl:∀ x∈l,bd MV x)(hlen:l.length<=100)(k:JO l):∃ (L:List (V×Int)) (poly:V×Int->List Nat),Facets (A l) l.length L/\(∀ q∈L,bZ (A l) l.length q.1 q.2 (poly q))/\L.length<=2000000 ∧
  C (n+7) 18 [bw l]=some (.sl (L.map λq=>oU q (poly q))):=by
 obtain⟨y,h1,K,L,e,f,h,rfl⟩:=p45 n hl hlen;have b:=e.facets f h;have d:L.length<=2000000:=by rw[f.length_eq];exact e.len hlen
 have hex:∀ q:V×Int,∃ p,q∈L->bZ (A l) l.length q.1 q.2 p/\C (n+6) 46 [bg l,cO q]=some (.sl (u p)):=λq=>by
  by_cases hq:q∈L
  ·have g:=(b.mem q).1 hq;obtain⟨p,m,o⟩:=p46 (n+1) hl hlen k g (Vn hl g);grind
  ·simp_all
 obtain⟨poly,a⟩:∃ poly:V×Int->List Nat,∀ q∈L,bZ (A l) l.length q.1 q.2 (poly q)/\C (n+6) 46 [bg l,cO q]=some (.sl (u (poly q))):=⟨λq=>Classical.choose (hex q),λq hq=>Classical.choose_spec (hex q) hq⟩;refine⟨L,poly,b,λq hq=>(a q hq).1,d,?_⟩;have hp:=λq (hq:q∈L)=>(a q hq).2;rw[u18]
 delta YO Q qS qX qV qW iL iR J0 jl qc qj Z qu qy
 refine J (bg l) (O h1 (J (L.map cO) ?_));have ll:(L.map cO).length=L.length:=zka ..;refine aZ (λi s=>s=[.sl ((L.take i).map λq=>oU q (poly q)),I (i:Int)]) L.length 0 (zoa _) rfl (λi hi s c=>?_) (λs c=>?_)
 ·subst c;left;refine⟨_,?_,rfl⟩;refine O ah (O ac (au (by show((i:Int)<((L.map cO).length:Int));rw[ll];omega) ?_))
  have j:(L.map cO)[i]?=some (cO L[i]):=by simp[hi]
  refine J (L.map cO) (O (z:=i) (by rw[ll];exact aj hi) (O j ?_))
  refine J (ag L[i].1) (J (I L[i].2) (J (bg l) (O (hp L[i] (zGa hi)) ?_)));rw[zla (by simp only[g0,D.els,zka,zjb,zPa,zzb];omega)]
  refine O (ay (aw (i:=i) u0)) ?_
  rw[zxa hi,zib];rfl
 ·subst c;refine⟨(0,[.sl ((L.take L.length).map λq=>oU q (poly q))]),?_,?_⟩
  ·refine O ah (O ac (aB (by show ¬ ((L.length:Int)<((L.map cO).length:Int));rw[ll];omega) rfl))
  ·rw[z8a];rfl
def dP(e:Nat×Nat):D:=.st [I (e.1:Int),I (e.2:Int)]
theorem QN{b:Nat×Nat}(h:DC a b):yd [bk (a.1:Int) b.1,bk (a.2:Int) b.2]=-1:=by all_goals grind [DC,yd,bk]
theorem QM{b:Nat×Nat}(h:DC b a):yd [bk (a.1:Int) b.1,bk (a.2:Int) b.2]=1:=by all_goals grind [DC,yd,bk,Int.not_lt.2,Int.le_of_lt]
def Lj(n:Nat)(p q:Nat×Nat):ws (c7 F (C (n+3)) (kB F (C (n+3)))) (cp 51) (dP p) (dP q)=some (yd [bk (p.1:Int) q.1,bk (p.2:Int) q.2]):=by
 unfold ws;rw[show ∀ l,(c7 F (C (n+3)) (kB F (C (n+3)))).call (cp 51) l=C (n+3) 51 l from λl=>congrFun (zIa (C (n+3)) (show rK (cp 51)=51 by kernel_rfl)) l,show dP p=.st [I (p.1:Int),I (p.2:Int)] from rfl,show dP q=.st [I (q.1:Int),I (q.2:Int)] from rfl,c51]
 rfl
theorem SX(n:Nat):∀ (L:List (Nat×Nat)),L.Pairwise DC->u6 (c7 F (C (n+3)) (kB F (C (n+3)))) (cp 51) (L.map dP)=true
 | [],_=>rfl
 | p::L,h=>by
  obtain⟨h1,a⟩:=zNa.1 h;simp only[z4a,u6,X,zya,zmb];refine⟨⟨?_,?_⟩,SX n L a⟩
  ·simp_all [JR,Lj,yd,bk]
  ·rintro _ ⟨q,hq,rfl⟩;simp only[ua,JR,Lj,QN (h1 q hq),QM (h1 q hq)];decide
theorem RC{b:Nat×Nat}(h:a≠b):DC a b\/DC b a:=by all_goals grind [DC]
theorem D7:∀ (K:List (Nat×Nat)),K.Nodup->∃ L:List (Nat×Nat),L.Perm K/\L.Pairwise DC
 | [],_=>⟨[],.refl _,.nil⟩
 | x::K,h=>by
  obtain⟨h1,b⟩:=List.nodup_cons.1 h;obtain⟨L,p1,d⟩:=D7 K b;have ins:∀ L:List (Nat×Nat),L.Pairwise DC->(∀ y∈L,x≠y)->∃ M:List (Nat×Nat),M.Perm (x::L)/\M.Pairwise DC:=by
   intro L
   induction L with
   | nil=>intro _ _;exact⟨[x],.refl _,j2⟩
   | cons y L ih=>
    intro hp hn;obtain⟨q1,c⟩:=zNa.1 hp;rcases RC (hn y zBa) with k|k
    ·refine⟨x::y::L,.refl _,zNa.2 ⟨λz a=>?_,hp⟩⟩;all_goals grind [DC]
    ·obtain⟨M,m1,G⟩:=ih c (λz a=>hn z (zsa _ a));refine⟨y::M,(m1.cons y).trans (.swap x y L),zNa.2 ⟨λz a=>?_,G⟩⟩;all_goals grind
  grind
def iu{p:List Nat}{k:Nat}(h:k<p.length):(u p)[k]?=some (I (p.getD k 0:Nat)):=by simp[u,List.getD,h]
def f8(p:List Nat)(k:Nat):List (Nat×Nat):=(List.range k).filterMap λk=>if p.getD k 0<p.getD ((k+1)%p.length) 0 then some (p.getD k 0,p.getD ((k+1)%p.length) 0) else none
theorem AL(p:List Nat)(k:Nat):f8 p (k+1)=if p.getD k 0<p.getD ((k+1)%p.length) 0 then f8 p k++[(p.getD k 0,p.getD ((k+1)%p.length) 0)] else f8 p k:=by unfold f8;rw[zyb,List.filterMap_append];all_goals grind
theorem uB(p:List Nat)(k:Nat):(f8 p k).length<=k:=by grind [f8]
theorem p21(n:Nat){L:List (V×Int)}{poly:V×Int->List Nat}(h18:C (n+7) 18 [bw l]=some (.sl (L.map λq=>oU q (poly q))))(hL:L.length<=2000000)(hp:∀ q∈L,(poly q).length<=100/\0<(poly q).length)
  (g:(dD L poly).Nodup):∃ E:List (Nat×Nat),E.Perm (dD L poly)/\E.Pairwise DC/\C (n+8) 21 [bw l]=some (.sl (E.map dP)):=by
 obtain⟨E,j,m⟩:=D7 _ g;refine⟨E,j,m,?_⟩;rw[u21];unfold Wm;refine O h18 (J (L.map λq=>oU q (poly q)) ?_);have ll:(L.map λq=>oU q (poly q)).length=L.length:=zka ..;have o:∀ i,i<=L.length->(dD (L.take i) poly).length<=i*100:=λi hi=>by
  induction i with
  | zero=>simp[dD]
  | succ i ih=>
   have d:i<L.length:=u0
   rw[zxa d,dD,List.flatMap_append,zAa];have h1:=ih u0
   simp only[dD] at h1;have w:(mq (poly L[i])).length<=100:=zva (uB (poly L[i]) (poly L[i]).length) (hp _ (zGa d)).1;grind
 refine aZ (λi s=>s=[.sl ((dD (L.take i) poly).map dP),I (i:Int)]) L.length 0 (zoa _) rfl (λi hi s b=>?_) (λs b=>?_)
 ·subst b;left;refine⟨_,?_,rfl⟩;refine O ah (O ac (au (by show((i:Int)<((L.map λq=>oU q (poly q)).length:Int));rw[ll];omega) ?_))
  have y:(L.map λq=>oU q (poly q))[i]?=some (oU L[i] (poly L[i])):=by simp[hi]
  refine J (L.map λq=>oU q (poly q)) (O (z:=i) (by rw[ll];exact aj hi) (O y (J (.sl (u (poly L[i]))) (J (u (poly L[i])) ?_))))
  obtain⟨v,h⟩:=hp L[i] (zGa hi);have r:=o i u0
  obtain⟨M,c⟩:∃ M,M=dD (L.take i) poly:=⟨_,rfl⟩;rw[<-c] at r ⊢;have f:dD (L.take (i+1)) poly=M++f8 (poly L[i]) (poly L[i]).length:=by rw[zxa hi,c,dD,List.flatMap_append];simp[dD,mq,f8]
  rw[f];generalize poly L[i]=p at *;refine cH (λk s=>s=[.sl ((M++f8 p k).map dP),I (k:Int)]) p.length 0 (zoa _) (by simp[f8,g0,D.els]) (λk hk s b=>?_) (λs b=>?_)
  ·subst b;left;refine⟨_,?_,rfl⟩;refine O ah (O ac (au (by show((k:Int)<((u p).length:Int));rw[ao];omega) ?_))
   have a:(k+1)%p.length<p.length:=zVa _ h;have e:(((k:Int)+1).tmod (p.length:Int))=(((k+1)%p.length:Nat):Int):=by grind
   refine O (z:=(0,[.sl ((M++f8 p (k+1)).map dP)])) ?_ (O (ay (aw (i:=k) u0)) rfl)
   refine J (u p) (O (z:=k) (by rw[ao];exact aj hk) (O (iu hk) (J (.sl (u p)) (O (ay (aw (i:=k) u0)) (J (.sl (u p)) (J (u p) ?_))))))
   refine O (z:=I (((k+1)%p.length:Nat):Int)) (by rw[show((u p).length:Int)=(p.length:Int) by rw[ao],ph u0,e]) ?_
   refine J (u p) (O (z:=(k+1)%p.length) (by rw[ao];exact aj a) (O (iu a) (O ah (O ac ?_))))
   rw[AL];have t:=uB p k;by_cases hab:p.getD k 0<p.getD ((k+1)%p.length) 0
   ·refine au (by show((p.getD k 0:Nat):Int)<((p.getD ((k+1)%p.length) 0:Nat):Int);omega) ?_
    rw[zla hab,zla (by simp only[g0,D.els,zka,zAa,zPa,zzb];omega)]
    simp[g0,D.els,dP]
   ·refine aB (by show ¬ ((p.getD k 0:Nat):Int)<((p.getD ((k+1)%p.length) 0:Nat):Int);omega) ?_
    rw[zia hab];rfl
  ·subst b;refine⟨(0,[.sl ((M++f8 p p.length).map dP)]),?_,?_⟩
   ·refine O ah (O ac (aB (by show ¬ ((p.length:Int)<((u p).length:Int));rw[ao];omega) rfl))
   ·exact O (ay (aw (i:=i) u0)) rfl
 ·subst b;refine⟨(0,[.sl ((dD (L.take L.length) poly).map dP)]),?_,?_⟩
  ·refine O ah (O ac (aB (by show ¬ ((L.length:Int)<((L.map λq=>oU q (poly q)).length:Int));rw[ll];omega) rfl))
  ·have hu:=o L.length (zja _);rw[z8a] at hu ⊢;refine O (z:=(dD L poly).map dP) ?_ (O (xG (SX (n+4) E m) (j.symm.map _)) rfl);exact au (by show((dD L poly).map dP).length<=1073741824;rw[zka];omega) rfl
end
abbrev FL:=List ((V×Int)×List Nat)
def aU(L:FL):List D:=L.map λf=>oU f.1 f.2
def bE(L:FL):(aU L).length=L.length:=zka ..
def io{L:FL}{i:Nat}(h:i<L.length):(aU L)[i]?=some (oU L[i].1 L[i].2):=by simp[aU,h]
def adQ(n:Nat)(L:FL)(m:V)(hL:L.length<=3000000):C (n+1) 108 [.sl (aU L),ag m]=some (.bool (L.any λf=>decide (f.1.1=m))):=by
 rw[afw]
 delta N9 qX iL iR J0 bF bT bq qf qj ql qr qt qy
 refine aZ (λi s=>s=[I (i:Int)]/\(L.take i).any (λf=>decide (f.1.1=m))=false) L.length 0 (zoa _) ⟨rfl,j2⟩ (λi hi s a=>?_) (λs a=>?_)
 ·obtain⟨rfl,b⟩:=a;by_cases he:L[i].1.1=m
  ·right;refine⟨(0,[.bool true]),?_,?_⟩
   ·refine J (aU L) (O ah (O ac (au (by show((i:Int)<((aU L).length:Int));rw[bE];omega) ?_)))
    refine J (aU L) (O (z:=i) (by rw[bE];exact aj hi) (O (io hi) (J (ag L[i].1.1) ?_)))
    rw[kH];exact O ac (au he rfl)
   ·grind
  ·left;refine⟨[I ((i+1:Nat):Int)],?_,rfl,?_⟩
   ·refine J (aU L) (O ah (O ac (au (by show((i:Int)<((aU L).length:Int));rw[bE];omega) ?_)))
    refine J (aU L) (O (z:=i) (by rw[bE];exact aj hi) (O (io hi) (J (ag L[i].1.1) ?_)))
    rw[kH];exact O ac (aB he (O (ay (aw (i:=i) u0)) rfl))
   ·grind [List.take_succ_eq_append_getElem]
 ·obtain⟨rfl,b⟩:=a;rw[z8a] at b;refine⟨(1,[]),?_,by simp[b]⟩
  exact J (aU L) (O ah (O ac (aB (by show ¬ ((L.length:Int)<((aU L).length:Int));rw[bE];omega) rfl)))
def nr(f:(V×Int)×List Nat):FL->FL
 | []=>[f]
 | x::L=>if aP f.1.1 x.1.1 then f::x::L else x::nr f L
def adS(n:Nat)(L:FL)(f:(V×Int)×List Nat)(hL:L.length<=3000000):C (n+2) 110 [.sl (aU L),oU f.1 f.2]=some (.sl (aU (nr f L))):=by
 rw[afy]
 delta Oc Q qN qX qV qW iL iR J0 bF bT qA qb qf qj Z ql qn qu qy
 have app:∀ (o:FL) (x:(V×Int)×List Nat),aU o++[oU x.1 x.2]=aU (o++[x]):=λo x=>by simp[aU]
 refine aZ (λi s=>∃ (out:FL) (put:Bool),s=[.sl (aU out),.bool put,I (i:Int)]/\out.length<=2*i/\(put=false->nr f L=out++nr f (L.drop i))/\(put=true->nr f L=out++L.drop i)) L.length 0 (zoa _) ⟨[],false,rfl,j2,j2,j2⟩ (λi hi s b=>?_) (λs b=>?_)
 ·obtain⟨out,put,rfl,g,h1,a⟩:=b;left;have c:=zob hi;have hc:=WX n f.1.1 L[i].1.1;obtain⟨o,p,he,k,q1,j⟩:∃ o p,(if put=false/\aP f.1.1 L[i].1.1 then(out++[f],true) else(out,put))=(o,p)/\o.length<=2*i+1/\(p=false->nr f L=o++L[i]::nr f (L.drop (i+1)))/\(p=true->nr f L=o++L[i]::L.drop (i+1)):=by
   by_cases hput:put=false/\aP f.1.1 L[i].1.1
   ·refine⟨_,_,zla hput,by simp;omega,j2,λ_=>?_⟩
    rw[h1 hput.1,c];simp[nr,hput.2]
   ·refine⟨_,_,zia hput,u0,λhp=>?_,λhp=>?_⟩
    ·have e:¬ aP f.1.1 L[i].1.1:=λh=>hput ⟨hp,h⟩;rw[h1 hp,c];simp[nr,e]
    ·rw[a hp,c]
  refine⟨[.sl (aU (o++[L[i]])),.bool p,I ((i+1:Nat):Int)],?_,o++[L[i]],p,rfl,by simp;omega,λhp=>by rw[q1 hp];simp,λhp=>by rw[j hp];simp⟩
  refine J (aU L) (O ah (O ac (au (by show((i:Int)<((aU L).length:Int));rw[bE];omega) ?_)))
  refine J (ag f.1.1) (J (aU L) (O (z:=i) (by rw[bE];exact aj hi) (O (io hi) (J (ag L[i].1.1) (O hc ?_)))))
  refine O (z:=(0,[.sl (aU o),.bool p])) ?_ ?_
  ·refine J (.bool (!put)) (J (!put) (O (z:=!put&&decide (aP f.1.1 L[i].1.1)) ?_ (J (!put&&decide (aP f.1.1 L[i].1.1)) ?_)))
   ·cases put
    ·exact ac
    ·rfl
   ·by_cases hput:put=false/\aP f.1.1 L[i].1.1
    ·rw[zla hput] at he;obtain⟨rfl,d⟩:=hput;cases he;rw[show(!false&&decide (aP f.1.1 L[i].1.1))=true by simp[d],zla rfl,zla (by simp only[g0,D.els,bE,zPa,zzb];omega)]
     simp only[g0,D.els,app]
    ·rw[zia hput] at he;cases he;rw[show(!put&&decide (aP f.1.1 L[i].1.1))=false by
      cases put
      ·simpa using hput
      ·rfl]
     rfl
  ·refine J (aU L) (O (z:=i) (by rw[bE];exact aj hi) (O (io hi) ?_))
   rw[zla (by simp only[g0,D.els,bE,zPa,zzb];omega)]
   refine O (ay (aw (i:=i) u0)) ?_
   simp only[g0,g1,D.els,app];rfl
 ·obtain⟨out,put,rfl,g,h1,a⟩:=b;refine⟨(0,[.sl (aU out),.bool put]),?_,?_⟩
  ·exact J (aU L) (O ah (O ac (aB (by show ¬ ((L.length:Int)<((aU L).length:Int));rw[bE];omega) rfl)))
  ·cases put
   ·have:=h1 rfl;rw[zFc] at this;rw[this];refine O (z:=(0,[.sl (aU (out++[f]))])) ?_ rfl;refine J (.bool true) (J true ?_);rw[zla rfl,zla (by simp only[g0,D.els,bE,zPa,zzb];omega)]
    simp only[g0,D.els,app]
   ·have:=a rfl;rw[zFc,zVb] at this;rw[this];rfl
section
variable{l:List V}{a:Nat}
def jA(l:List V)(m:V)(a b x:Nat):Bool:=
 decide (0<=T m (M (A l) a b) (M (A l) a x))&&(!decide (T m (M (A l) a b) (M (A l) a x)=0)||(decide (0<=V.dot (M (A l) a x) (M (A l) a b))&&decide (V.dot (M (A l) a x) (M (A l) a b)<=V.dot (M (A l) a b) (M (A l) a b))))
def FP{m:V}{b x:Nat}:jA l m a b x=true↔(0<=T m (M (A l) a b) (M (A l) a x)/\(T m (M (A l) a b) (M (A l) a x)=0->0<=V.dot (M (A l) a x) (M (A l) a b)/\V.dot (M (A l) a x) (M (A l) a b)<=V.dot (M (A l) a b) (M (A l) a b))):=by simp only[jA,X,zFb,zEa,zea,decide_eq_false_iff_not];omega
def zX(l:List V)(m:V)(d:Int)(a b:Nat):Bool:=(bU (A l) l.length m d).all λx=>jA l m a b x
def zY{m:V}{d:Int}{b:Nat}(e:b∈bU (A l) l.length m d)(c:b≠a):zX l m d a b=true↔Side m (A l) (bU (A l) l.length m d) a b:=by simp only[zX,zya,FP];exact⟨λh=>⟨e,c,h⟩,λh=>h.all⟩
def ad4(n:Nat)(hl:∀ x∈l,bd MV x)(hlen:l.length<=100){m:V}{d:Int}(B:m≠V.zero)(hm:bd 549755813888 m){b:Nat}(k:a<l.length)(S:b<l.length)(f:V.dot m (A l a)=d)(a6:V.dot m (A l b)=d) :
  C (n+3) 156 [bg l,ag m,I d,ag (A l a),ag (A l b)]=some (.bool (zX l m d a b)):=by
 rw[af7]
 delta OM qC qX iL iR J0 bF bT bq nq qO qb qc qh qj Z ql qr qt qy
 have w1:bd 524288 (M (A l) a b):=pi (hl _ (de k)) (hl _ (de S));refine O (z:=ag (M (A l) a b)) (Ia (n+1) (hl _ (de S)) (hl _ (de k)) H) ?_
 have ll:(l.map ag).length=l.length:=zka ..;have a4:V.dot m (M (A l) a b)=0:=by rw[fd,f,a6];omega
 refine aZ (λi s=>s=[I (i:Int)]/\(bU (A l) i m d).all (λx=>jA l m a b x)=true) l.length 0 (zoa _) ⟨rfl,by simp[bU]⟩ (λi hi s w=>?_) (λs w=>?_)
 ·obtain⟨rfl,o⟩:=w;have hc:=H9 (n+1) hm (hl _ (de hi)) H
  by_cases hon:V.dot m (A l i)=d
  ·have W:bd 524288 (M (A l) a i):=pi (hl _ (de k)) (hl _ (de hi));have E:V.dot m (M (A l) a i)=0:=by rw[fd,f,hon];omega
   have c1:=Ia (n+1) (hl _ (de hi)) (hl _ (de k)) H
   have c2:=W0 (n+1) w1 W H
   have Q:=aeb n m (V.cross (M (A l) a b) (M (A l) a i));rw[Hi B (lv a4 E)] at Q;have R:=H9 (n+1) W w1 H
   have X:=H9 (n+1) w1 w1 H
   have step:∀ (y:Nat×List D),y=(if jA l m a b i then(0,[]) else(1,[D.bool false]))->((D.asSl (bg l)).bind λU=>(D.idx (I (i:Int)) (List.length U)).bind λi7=>
     (U[i7]?).bind λx8=>(C (n+2) 107 [ag m,x8]).bind λa3=>(D.truth (D.bool (!(D.beq a3 (I d))))).bind λp=>
     if p then(some ((0:Nat),([]:List D))) else((D.asSl (bg l)).bind λg=>(D.idx (I (i:Int)) (List.length g)).bind λyb=>
     (g[yb]?).bind λa5=>(C (n+2) 112 [a5,ag (A l a)]).bind λc=>(C (n+2) 123 [ag (M (A l) a b),c]).bind λF=>(C (n+2) 188 [ag m,F]).bind λj=>
     (akk .lss j (D.int .i64 0)).bind λN=>(D.truth N).bind λq=>
     Option.bind (if q then(some true) else((D.truth (D.bool (D.beq j (D.int .i64 0)))).bind λr=>
     if r then((C (n+2) 107 [c,ag (M (A l) a b)]).bind λG=>(akk .lss G (D.int .i64 0)).bind λa0=>(D.truth a0).bind λt=>
     if t then(some true) else((C (n+2) 107 [c,ag (M (A l) a b)]).bind λa2=>(C (n+2) 107 [ag (M (A l) a b),ag (M (A l) a b)]).bind λa1=>
     (akk .gtr a2 a1).bind λP=>D.truth P)) else(some false))) λu=>(D.truth (D.bool u)).bind λv=>
     if v then(some (1,[(D.bool false)])) else(some (0,[]))))=some y:=by
    intro y Y;refine J (l.map ag) (O (z:=i) (by rw[ll];exact aj hi) (O (ew hi) (O hc (O (z:=false) ?_ ?_))))
    ·rw[ci,show V.dot m (l.getD i V.zero)=d from hon];simp[D.truth]
    rw[zia H]
    refine J (l.map ag) (O (z:=i) (by rw[ll];exact aj hi) (O (ew hi) (O (z:=ag (M (A l) a i)) c1 (O c2 (O Q (O ah (O ac ?_)))))))
    rw[Y];have e:V.dot m (V.cross (M (A l) a b) (M (A l) a i))=T m (M (A l) a b) (M (A l) a i):=rfl;rw[e];refine O (z:=!jA l m a b i) ?_ ?_
    ·by_cases t1:T m (M (A l) a b) (M (A l) a i)<0
     ·rw[Vp (zV.2 t1)];have:¬ (0<=T m (M (A l) a b) (M (A l) a i)):=u0
      simp[jA,this]
     ·rw[Vq (λh=>t1 (zV.1 h))];have K:0<=T m (M (A l) a b) (M (A l) a i):=u0
      by_cases t2:T m (M (A l) a b) (M (A l) a i)=0
      ·refine O (z:=true) (by rw[ci,zna (jL.2 t2)];rfl) ?_
       rw[zla rfl];refine O R (O ah (O ac ?_));by_cases t3:V.dot (M (A l) a i) (M (A l) a b)<0
       ·rw[Vp t3];have:¬ (0<=V.dot (M (A l) a i) (M (A l) a b)):=u0
        simp[jA,t2,this]
       ·rw[Vq t3];refine O R (O X (O cn ?_));rw[ac];have L:0<=V.dot (M (A l) a i) (M (A l) a b):=u0
        simp only[jA,t2,L,decide_true,z6b,zlc,Bool.false_or,Int.le_refl];by_cases t4:V.dot (M (A l) a i) (M (A l) a b)<=V.dot (M (A l) a b) (M (A l) a b)
        ·have:¬ (V.dot (M (A l) a i) (M (A l) a b)>V.dot (M (A l) a b) (M (A l) a b)):=u0
         simp[t4,this]
        ·have:(V.dot (M (A l) a i) (M (A l) a b)>V.dot (M (A l) a b) (M (A l) a b)):=u0
         simp[t4,this]
      ·refine O (z:=false) (by rw[ci,zfa (λh=>t2 (jL.1 h))];rfl) ?_
       simp[jA,t2,K]
    ·refine O ac ?_;cases jA l m a b i<;>rfl
   cases hk:jA l m a b i
   ·right;rw[hk] at step;refine⟨(0,[.bool false]),?_,?_⟩
    ·exact J (l.map ag) (O ah (O ac (au (by show((i:Int)<((l.map ag).length:Int));rw[ll];omega) (O (step _ rfl) rfl))))
    ·have:zX l m d a b=false:=by
      rw[zoc];intro h;have:=zya.1 h i (bc.2 ⟨hi,hon⟩);rw[hk] at this;exact zgb this H
     rw[this];rfl
   ·left;rw[hk] at step;refine⟨[I ((i+1:Nat):Int)],?_,rfl,?_⟩
    ·exact J (l.map ag) (O ah (O ac (au (by show((i:Int)<((l.map ag).length:Int));rw[ll];omega) (O (step _ rfl) (by rw[zla rfl,zla rfl];exact O (ay (aw (i:=i) u0)) rfl)))))
    ·rw[lJ,zla hon,z5c,o];simp[hk]
  ·left;refine⟨[I ((i+1:Nat):Int)],?_,rfl,?_⟩
   ·refine J (l.map ag) (O ah (O ac (au (by show((i:Int)<((l.map ag).length:Int));rw[ll];omega) (O (z:=(0,[])) ?_ (by rw[zla rfl];exact O (ay (aw (i:=i) u0)) rfl)))))
    refine J (l.map ag) (O (z:=i) (by rw[ll];exact aj hi) (O (ew hi) (O hc (O (z:=true) ?_ rfl))))
    rw[ci,zfa (show ¬ V.dot m (l.getD i V.zero)=d from hon)];rfl
   ·rw[lJ,zia hon];exact o
 ·obtain⟨rfl,o⟩:=w;refine⟨(1,[]),?_,?_⟩
  ·exact J (l.map ag) (O ah (O ac (aB (by show ¬ ((l.length:Int)<((l.map ag).length:Int));rw[ll];omega) rfl)))
  ·have:zX l m d a b=true:=o;rw[this];rfl
end
section
variable{N a:Nat}
def Hn{body:Bd}{s0:List D}{r:Nat×List D}(h:(F body s0).bind some=some r):F body s0=some r:=by all_goals simp_all
theorem ME{P:Nat->V}{m:V}{d:Int}{i:Nat}(h:(bU P i m d).head?=some a)(hi:i<=N):(bU P N m d).head?=some a:=by
 induction N with
 | zero=>
      have:i=0:=u0
      simp_all
 | succ N ih=>
  by_cases e:i=N+1
  ·simp_all
  ·have:=ih u0
   rw[lJ];all_goals grind
theorem uz{body:Bd}{S:Nat->Nat->Prop}{M:Nat}{G:Nat->Prop}(f:∀ c b,G c->S c b->G b)
  (d:∀ (c b:Nat) (out:List Nat),G c->S c b->b≠a->out.length<=M->body [.sl (u out),I (c:Int)]=some (.inl [.sl (u (out++[c])),I (b:Int)]))
  (e:∀ (c:Nat) (out:List Nat),G c->S c a->out.length<=M->body [.sl (u out),I (c:Int)]=some (.inr (0,[.sl (u (out++[c]))]))) :
  ∀ {c:Nat} {p:List Nat},Chain S a c p->G c->∀ out:List Nat,(out++p).length<=M->F body [.sl (u out),I (c:Int)]=some (0,[.sl (u (out++p))])
 | c,_,.done s,hc,out,hl=>cT (e c out hc s (by simp at hl;omega))
 | c,_,.step (y:=y) (l:=p) s hy k,hc,out,hl=>by
  have h1:=d c y out hc s hy (by simp at hl;omega)
  rw[show F body [.sl (u out),I (c:Int)]=F body [.sl (u (out++[c])),I (y:Int)] from cB h1];have:=uz f d e k (f c y hc s) (out++[c]) (by simpa using hl)
  simp_all
theorem afi(n:Nat){l:List V}(hl:∀ x∈l,bd MV x)(hlen:l.length<=100)(S:JO l){m:V}{d:Int}(K:IsF (A l) l.length m d)(hm:bd 549755813888 m){p:List Nat}(hp:bZ (A l) l.length m d p) :
  C (n+4) 111 [bg l,ag m,I d]=some (.sl (u p)):=by
 have F:=K.flat S;obtain⟨X,Q,w,E⟩:=K.poly S;have e:=bZ.eq S K hp Q;subst e;obtain⟨a,t,Y⟩:=hp;have T:a∈bU (A l) l.length m d:=List.mem_of_mem_head? (by rw[t];rfl)
 have a2:∀ k∈bU (A l) l.length m d,k<l.length:=λk hk=>(bc.1 hk).1;have B:∀ k∈bU (A l) l.length m d,V.dot m (A l k)=d:=λk hk=>(bc.1 hk).2;have a1:(bU (A l) l.length m d).length<=l.length:=by unfold bU;grind
 have R:p.length<=l.length:=zva (zhc w λz W=>((E z).1 W).1) a1;have ll:(l.map ag).length=l.length:=zka ..;rw[afz]
 delta Od qT qS qX qL qV qW iL iR Jn J0 bq jl nq qA qO qb qc qh qj Z qt qu qy
 have o:=λ(i:Nat) (hi:i<l.length)=>H9 (n+2) hm (hl _ (de hi)) H
 refine O (z:=(0,[.sl [],I (a:Int)])) ?_ ?_
 ·refine Hn (cH (λi s=>s=[.sl [],mr ((bU (A l) i m d).head?),I (i:Int)]) l.length 0 (zoa _) rfl (λi hi s r=>?_) (λs r=>?_))
  ·subst r;cases hh:(bU (A l) i m d).head? with
   | some a'=>
    right;have:=ME hh (zIc hi);rw[t] at this;cases this;refine⟨(0,[.sl [],I (a:Int)]),?_,rfl⟩;refine J (l.map ag) (O ah (O ac (O (z:=false) (au (by show((i:Int)<((l.map ag).length:Int));rw[ll];omega) ?_) (O ac ?_))))
    ·refine O ah ?_;rw[zfa u0];rfl
    ·rfl
   | none=>
    left;have a0:bU (A l) i m d=[]:=by simpa using hh
    refine⟨[.sl [],mr ((bU (A l) (i+1) m d).head?),I ((i+1:Nat):Int)],?_,rfl⟩;refine J (l.map ag) (O ah (O ac (O (z:=true) (au (by show((i:Int)<((l.map ag).length:Int));rw[ll];omega) (O (ah (a:=-1) (b:=0)) rfl)) (O ac ?_))))
    rw[zla rfl];refine O (z:=(0,[.sl [],mr ((bU (A l) (i+1) m d).head?)])) ?_ (O (ay (aw (i:=i) u0)) rfl)
    refine J (l.map ag) (O (z:=i) (by rw[ll];exact aj hi) (O (ew hi) (O (o i hi) ?_)))
    rw[ci,lJ,a0];by_cases f:V.dot m (A l i)=d
    ·rw[zla f,zna (show V.dot m (l.getD i V.zero)=d from f)];rfl
    ·rw[zia f,zfa (show ¬ V.dot m (l.getD i V.zero)=d from f)];rfl
  ·subst r;rw[t];refine⟨(0,[.sl [],I (a:Int)]),?_,rfl⟩;refine J (l.map ag) (O ah (O ac (O (z:=false) (aB (by show ¬ ((l.length:Int)<((l.map ag).length:Int));rw[ll];omega) rfl) (O ac rfl))))
 ·refine O (z:=(0,[.sl (u ([]++p))])) ?_ rfl;refine uz (M:=l.length) (G:=λc=>c∈bU (A l) l.length m d) (λc b hc a3=>a3.mem) (λc b out hc a3 L P=>?_) (λc out hc a3 P=>?_) Y T [] (by simpa using R)
  all_goals
   obtain⟨g,U,j⟩:∃ g,(g=a\/g≠a)/\Side m (A l) (bU (A l) l.length m d) c g:=by first|exact⟨_,Classical.em _,a3⟩
   refine J (l.map ag) (O ja (O ac (au (by show(((u out).length:Int)<=((l.map ag).length:Int));rw[ll,ao];omega) ?_)))
   rw[zla (by simp only[g0,D.els,ao,zPa,zzb];omega)]
   have y:u out++[I (c:Int)]=u (out++[c]):=by simp[u]
   have N:=a2 g j.mem;refine O (z:=(0,[.sl (u (out++[c])),I (g:Int)])) ?_ ?_
   ·refine Hn (cH (λi s=>s=[.sl (u (out++[c])),mr (if g<i then some g else none),I (i:Int)]) l.length 0 (zoa _) (by simp[g0,g1,D.els,y,mr]) (λi hi s r=>?_) (λs r=>?_))
    ·subst r;by_cases hbi:g<i
     ·right;rw[zla hbi];refine⟨(0,[.sl (u (out++[c])),I (g:Int)]),?_,rfl⟩;refine J (l.map ag) (O ah (O ac (O (z:=false) (au (by show((i:Int)<((l.map ag).length:Int));rw[ll];omega) ?_) (O ac ?_))))
      ·refine O ah ?_;rw[zfa u0];rfl
      ·rfl
     ·left;rw[zia hbi];refine⟨[.sl (u (out++[c])),mr (if g<i+1 then some g else none),I ((i+1:Nat):Int)],?_,rfl⟩
      refine J (l.map ag) (O ah (O ac (O (z:=true) (au (by show((i:Int)<((l.map ag).length:Int));rw[ll];omega) (O (ah (a:=-1) (b:=0)) rfl)) (O ac ?_))))
      rw[zla rfl];refine O (z:=(0,[.sl (u (out++[c])),mr (if g<i+1 then some g else none)])) ?_ (O (ay (aw (i:=i) u0)) rfl)
      have a4:=a2 c hc;by_cases f:i≠c/\V.dot m (A l i)=d
      ·have q:=bc.2 ⟨hi,f.2⟩;refine O (z:=true) (by show D.truth (D.bool (!(D.beq (I (i:Int)) (I (c:Int)))))=_;rw[cZ,zfa f.1];rfl) (O (z:=true) ?_ (O ac ?_))
       ·rw[zla rfl];refine J (l.map ag) (O (z:=i) (by rw[ll];exact aj hi) (O (ew hi) (O (o i hi) ?_)))
        rw[ci,zna (show V.dot m (l.getD i V.zero)=d from f.2)];rfl
       ·rw[zla rfl];refine J (l.map ag) (O (z:=c) (by rw[ll];exact aj a4) (O (ew a4) (J (l.map ag) (O (z:=i) (by rw[ll];exact aj hi) (O (ew hi) (O (ad4 n hl hlen K.nz.1 hm a4 hi (B c hc) f.2) (O ac ?_)))))))
        by_cases v:i=g
        ·subst v;rw[(zY q f.1).2 j,zla rfl,zla u0];rfl
        ·have:zX l m d c i=false:=by
          rw[zoc];intro h;exact v (ak4 F hc ((zY q f.1).1 h) j)
         rw[this,zia (show ¬ g<i+1 by omega)];rfl
      ·have v:i≠g:=λe=>f (by subst e;exact⟨j.ne,B _ j.mem⟩)
       rw[zia (show ¬ g<i+1 by omega)]
       by_cases hic:i=c
       ·subst hic;refine O (z:=false) (by show D.truth (D.bool (!(D.beq (I (i:Int)) (I (i:Int)))))=_;rw[cZ,zna rfl];rfl) (J false (O ac rfl))
       ·have w:¬ V.dot m (l.getD i V.zero)=d:=λh=>f ⟨hic,h⟩;refine O (z:=true) (by show D.truth (D.bool (!(D.beq (I (i:Int)) (I (c:Int)))))=_;rw[cZ,zfa hic];rfl) (O (z:=false) ?_ (O ac rfl))
        rw[zla rfl];refine J (l.map ag) (O (z:=i) (by rw[ll];exact aj hi) (O (ew hi) (O (o i hi) ?_)))
        rw[ci,zfa w];rfl
    ·subst r;rw[zla N];refine⟨(0,[.sl (u (out++[c])),I (g:Int)]),?_,rfl⟩;exact J (l.map ag) (O ah (O ac (O (z:=false) (aB (by show ¬ ((l.length:Int)<((l.map ag).length:Int));rw[ll];omega) rfl) (O ac rfl))))
   ·have hu:=ak4 F hc a3 j;subst hu;first
     | exact O (z:=true) (by show D.truth (D.bool (D.beq (I (_:Int)) (I (_:Int))))=_;rw[cZ,zna rfl];rfl) (J true (O ac rfl))
     | exact O (z:=false) (by show D.truth (D.bool (D.beq (I (_:Int)) (I (_:Int))))=_;rw[cZ,zfa L];rfl) (O (z:=false) (by rw[zia H];refine O ah ?_;rw[zfa u0];rfl) (O ac rfl))
end
section
variable{a l:List Nat}
def bC:List Nat->Nat
 | []=>0
 | d::l=>d+65536*bC l
def dl(l:List Nat):Prop:=∀ d∈l,d<65536
def dl.cons{d:Nat}{l:List Nat}(a:d<65536)(h:dl l):dl (d::l):=λx hx=>by
 rcases zOa.1 hx with rfl|hx
 ·exact a
 ·exact h x hx
def dl.append{b:List Nat}(c:dl a)(d:dl b):dl (a++b):=λx hx=>by
 rcases zKa.1 hx with hx|hx
 ·exact c x hx
 ·exact d x hx
theorem dl.getD(h:dl l)(i:Nat):l.getD i 0<65536:=by
 simp only[List.getD];cases hi:l[i]? with
 | none=>simp
 | some x=>exact h x (zeb hi)
def aT(m:Nat):List Nat:=if h:m=0 then[] else m%65536::aT (m/65536)
termination_by m
decreasing_by omega
theorem dc:aT 0=[]:=by unfold aT;simp
theorem jW{m:Nat}(h:m≠0):aT m=m%65536::aT (m/65536):=by rw[aT,dif_neg h]
def yS{d v:Nat}(a:d<65536)(h:d+65536*v≠0):aT (d+65536*v)=d::aT v:=by rw[jW h,show(d+65536*v)%65536=d by omega,show(d+65536*v)/65536=v by omega]
theorem bD(m:Nat):bC (aT m)=m:=by
 induction m using Nat.strongRecOn with
 | _ m ih=>
  by_cases h:m=0
  ·subst h;rw[dc];rfl
  ·rw[jW h,bC,ih _ u0];omega
def cR(m:Nat):dl (aT m):=by
 induction m using Nat.strongRecOn with
 | _ m ih=>
  by_cases h:m=0
  ·subst h;rw[dc];intro d a;cases a
  ·rw[jW h];exact dl.cons u0 (ih _ u0)
def wD{m:Nat}:aT m=[]↔m=0:=by
 constructor
 ·intro h;have:=bD m;rw[h] at this;exact this.symm
 ·rintro rfl;exact dc
theorem tG(i:Nat):∀ m,(aT m).getD i 0=m/65536^i%65536:=by
 induction i with
 | zero=> all_goals grind [dc,jW]
 | succ i ih=>
  intro m;by_cases h:m=0
  ·simp_all [dc]
  ·simp_all [jW,ih,zYa,z0b,zTa]
theorem dO(k:Nat):∀ m,m<65536^k->(aT m).length<=k:=by
 induction k with
 | zero=>
      intro m h;have:m=0:=by simpa using h
      simp_all [dc]
 | succ k ih=> all_goals grind [dc,jW,List.length_cons,Nat.pow_succ,Nat.mul_comm]
theorem nF(a b:List Nat):bC (a++b)=bC a+65536^a.length*bC b:=by
 induction a with
 | nil=>simp[bC]
 | cons d a ih=> simp only[zrb,bC,ih,zPa,z0b];grind
def pS(l:List Nat)(n:Nat):bC (l++List.replicate n 0)=bC l:=by
 rw[nF];have:∀ n,bC (List.replicate n 0)=0:=λn=>by
  induction n with
  | zero=>rfl
  | succ n ih=>rw[List.replicate_succ,bC,ih]
 simp_all
def vt(l:List Nat):Nat->Nat
 | 0=>0
 | k+1=>vt l k+l.getD k 0*65536^k
theorem SF(d:Nat)(l:List Nat)(k:Nat):vt (d::l) (k+1)=d+65536*vt l k:=by
 induction k with
 | zero=>simp[vt]
 | succ k ih=> rw[vt,ih,vt,zjc];grind
theorem rm(l:List Nat):vt l l.length=bC l:=by
 induction l with
 | nil=>rfl
 | cons d l ih=>rw[zPa,SF,ih];rfl
def kU{k:Nat}(h:l.length<=k):vt l k=bC l:=by
 obtain⟨j,rfl⟩:∃ j,k=l.length+j:=⟨k-l.length,u0⟩
 clear h
 induction j with
 | zero=>exact rm l
 | succ j ih=>
  rw[<-zLb,vt,ih]
  simp_all
theorem xR(h:dl l)(k:Nat):vt l k<65536^k:=by
 induction k with
 | zero=>simp[vt]
 | succ k ih=>
  have h1:=h.getD k;have a:l.getD k 0*65536^k<=65535*65536^k:=zJa _ u0
  grind [vt,Nat.pow_succ,Nat.mul_comm]
def oA(h:dl l):bC l<65536^l.length:=by rw[<-rm];exact xR h _
def ni:List Nat->List Nat
 | []=>[]
 | d::l=>match ni l with
  | []=>if d=0 then[] else[d]
  | x::t=>d::x::t
theorem ko(h:dl l):ni l=aT (bC l):=by
 induction l with
 | nil=>rw[bC,dc];rfl
 | cons d l ih=>
  have a:=h d zBa;have ih:=ih λx hx=>h x (zsa _ hx);rw[ni,ih,bC];by_cases hv:bC l=0
  ·rw[hv,dc];by_cases h0:d=0
   ·subst h0;simp[dc]
   ·rw[yS a u0,dc];simp[h0]
  ·rw[yS a u0,jW hv]
def F9(h:∀ i,i<l.length->l.getD i 0=0):ni l=[]:=by
 induction l with
 | nil=>rfl
 | cons d l ih=>
  have h0:d=0:=h 0 j2
  rw[ni,ih (λi hi=>h (i+1) (by simpa using hi)),h0];simp
theorem Ah:∀ {l:List Nat} {n:Nat},n<=l.length->(∀ i,n<=i->i<l.length->l.getD i 0=0)->(n=0\/l.getD (n-1) 0≠0)->l.take n=ni l
 | [],n,_,_,_=>by simp[ni]
 | d::l,0,_,a,_=>by rw[F9 (λi hi=>a i u0 hi)];rfl
 | d::l,n+1,hn,a,hl=>by
  have hl':(d::l).getD n 0≠0:=by all_goals simp_all
  have ih:=Ah (l:=l) (n:=n) (by simpa using hn) (λi h1 b=>a (i+1) u0 (by simpa using b)) (by
   cases n with
   | zero=>exact .inl rfl
   | succ k=>exact .inr hl')
  rw[zac,ih,ni];cases ht:ni l with
  | nil=>
   rw[ht] at ih;have:n=0:=by
    cases n with
    | zero=>rfl
    | succ k=>cases l with
     | nil=>simp at hn
     | cons e l=>simp at ih
   simp_all
  | cons x t=>rfl
end
section
variable{a:Nat}{l:List Nat}
def dQ{l:List Nat}{i:Nat}(h:i<l.length):(u l)[i]?=some (I (l.getD i 0:Nat)):=iu h
def yY(a:List Nat)(d:Nat):u a++[I (d:Int)]=u (a++[d]):=by simp[u]
theorem EC(n:Nat){l:List Nat}(hl:l.length<=1000000):C (n+1) 140 [.sl (u l)]=some (.sl (u (ni l))):=by
 rw[afV]
 delta OC P qC qS qX iL iR J0 J1 bq jl qA qy
 refine J (u l) ?_;have fin:∀ j:Nat,j<=l.length->(∀ i,j<=i->i<l.length->l.getD i 0=0)->(j=0\/l.getD (j-1) 0≠0)->((D.asSl (.sl (u l))).bind λd=>(D.natOf (I (j:Int))).bind λi14=>(D.cut d 0 i14).bind λe=>some (D.sl e))=some (.sl (u (ni l))):=by
  intro j m a h;refine J (u l) (O (z:=j) (by simp[D.natOf]) (O (z:=u (l.take j)) ?_ (by rw[Ah m a h])))
  simp_all [D.cut,zoa,ao,u,zsd]
 refine aZ (λi s=>s=[I ((l.length-i:Nat):Int)]/\∀ k,l.length-i<=k->k<l.length->l.getD k 0=0) l.length 0 (zoa _) ⟨by rw[ao];rfl,λk h1 g=>u0⟩ (λi hi s b=>?_) (λs b=>?_)
 ·obtain⟨rfl,a⟩:=b;have c:inR (((l.length-i:Nat):Int)-1):=by simp only[inR];omega
  have f:((l.length-i:Nat):Int)-1=((l.length-i-1:Nat):Int):=u0
  have hx:(u l)[l.length-i-1]?=some (I (l.getD (l.length-i-1) 0:Nat)):=dQ u0
  by_cases h0:l.getD (l.length-i-1) 0=0
  ·left;refine⟨[I ((l.length-(i+1):Nat):Int)],?_,rfl,λk h1 g=>?_⟩
   ·refine O cn (O ac (O (z:=true) (au (by show((l.length-i:Nat):Int)>0;omega) ?_) (O ac ?_)))
    ·refine O (bW c) (J (u l) (O (z:=l.length-i-1) (by rw[f,ao];exact aj u0) (O hx ?_)))
     rw[h0];rfl
    ·rw[zla rfl];refine O (bW c) ?_;grind
   ·grind
  ·right;refine⟨(0,[I ((l.length-i:Nat):Int)]),?_,fin _ u0 a (.inr h0)⟩
   refine O cn (O ac (O (z:=false) (au (by show((l.length-i:Nat):Int)>0;omega) ?_) (O ac rfl)))
   refine O (bW c) (J (u l) (O (z:=l.length-i-1) (by rw[f,ao];exact aj u0) (O hx ?_)))
   rw[ci,zfa u0];rfl
 ·obtain⟨rfl,a⟩:=b;refine⟨(0,[I ((l.length-l.length:Nat):Int)]),?_,fin _ u0 a (.inl u0)⟩
  refine O cn (O ac (O (z:=false) (aB (by show ¬ ((l.length-l.length:Nat):Int)>0;omega) rfl) (O ac rfl)))
theorem Id(n:Nat)(l:List Nat)(k:Nat):C (n+1) 141 [.sl (u l),I (k:Int)]=some (I (l.getD k 0:Nat)):=by
 rw[afW]
 delta OD qX J0 ql
 refine J (u l) (O ah (O ac ?_));by_cases h:k<l.length
 ·refine au (by show(k:Int)<((u l).length:Int);rw[ao];omega) ?_
  exact J (u l) (O (z:=k) (by rw[ao];exact aj h) (O (dQ h) rfl))
 ·grind [ao,List.getD]
def fP(l:List Nat)(i:Nat):Nat:=l.getD (2*i) 0+65536*l.getD (2*i+1) 0
abbrev U(n:Nat):D:=.int .u32 (n:Int)
def ff(l:List Nat):D:=.st ((List.range 16).map λi=>U (fP l i))
def R(x:Int):D:=.st [.bool false,.bool (decide (x<0)),ff (aT x.natAbs)]
def A6(h:dl l)(i:Nat):fP l i<4294967296:=by have:=h.getD (2*i);have:=h.getD (2*i+1);unfold fP;omega
def w9{i:Nat}(h:i<16):D.fld (ff l) i=some (U (fP l i)):=by simp[ff,D.fld,h]
def dJ{x:Int}{i:Nat}(h:i<16):D.get (R x) [2,i]=some (U (fP (aT x.natAbs) i)):=
 J (ff (aT x.natAbs)) (O (w9 h) rfl)
theorem tc{n:Int}(h:0<=n/\n<4294967296):IntKind.wrap .u32 n=n:=by grind [IntKind.wrap,IntKind.signed,IntKind.bits]
theorem Uh(a:Nat):akk .rem (U a) (.int .u32 65536)=some (U (a%65536)):=by
 simp only[akk,if_true,show ¬ (65536:Int)=0 by decide,if_false]
 grind
def Ug(h:a<4294967296):akk .quo (U a) (.int .u32 65536)=some (U (a/65536)):=by
 simp only[akk,if_true,show ¬ (65536:Int)=0 by decide,if_false]
 rw[show(65536:Int)=((65536:Nat):Int) from rfl,<-zGd,tc u0]
def KN{b:Nat}(h:a+b<4294967296):akk .add (U a) (U b)=some (U (a+b)):=by simp only[akk,if_true];rw[tc u0];simp
def Uf{b:Nat}(h:a*b<4294967296):akk .mul (U a) (U b)=some (U (a*b)):=by simp only[akk,if_true];rw[show(a:Int)*(b:Int)=((a*b:Nat):Int) by simp,tc u0]
theorem vn(h:a<4294967296):D.conv .i64 (U a)=some (I (a:Int)):=by grind [D.conv,iX,inR]
def GR(h:a<4294967296):D.conv .u32 (I (a:Int))=some (U a):=by simp only[D.conv];rw[tc u0]
theorem FC(l:List Nat)(k:Nat):((List.range k).map λi=>l.getD i 0)=if k<=l.length then l.take k else l++List.replicate (k-l.length) 0:=by apply zOb;all_goals grind
def Nw(a:dl l){k:Nat}(hk:l.length<=k):ni ((List.range k).map λi=>l.getD i 0)=aT (bC l):=by
 have e:((List.range k).map λi=>l.getD i 0)=l++List.replicate (k-l.length) 0:=by
  rw[FC];split
  ·have:k=l.length:=u0
   simp_all
  ·rfl
 rw[e,ko (a.append (λx hx=>by rw[zpd hx];decide)),pS]
def Ws(n:Nat){x:Int}(hx:x.natAbs<65536^32):C (n+2) 77 [R x]=some (.sl (u (aT x.natAbs))):=by
 rw[u77]
 delta Y6 Q P qV qW iL iR Jn J0 qc qi qj Z qu qw qy
 have b:=cR x.natAbs;have hlen:=dO 32 _ hx;refine aZ (λi s=>s=[.sl (u ((List.range (2*i)).map λi=>(aT x.natAbs).getD i 0)),I (i:Int)]) 16 0 (zoa _) rfl (λi hi s a=>?_) (λs a=>?_)
 ·subst a;left;refine⟨_,?_,rfl⟩;refine O ah (O ac (au (by show(i:Int)<16;omega) ?_))
  have c:=A6 b i;have h1:=b.getD (2*i);refine O (z:=i) (aj hi) (O (dJ hi) (O (Uh _) (O (vn u0) (O (z:=i) (aj hi) (O (dJ hi) (O (Ug c) (O (vn u0) ?_)))))))
  rw[zla (by simp only[g0,D.els,ao,zka,zcc,zPa,zzb];omega)]
  refine O (ay (aw (i:=i) u0)) ?_
  have d:fP (aT x.natAbs) i%65536=(aT x.natAbs).getD (2*i) 0:=by unfold fP;omega
  have e:fP (aT x.natAbs) i/65536=(aT x.natAbs).getD (2*i+1) 0:=by unfold fP;omega
  rw[d,e,show 2*(i+1)=2*i+1+1 by omega,zyb,zyb]
  simp[g0,D.els,u]
 ·subst a;refine⟨(0,[.sl (u ((List.range (2*16)).map λi=>(aT x.natAbs).getD i 0))]),?_,?_⟩
  ·exact O ah (O ac (aB H rfl))
  ·refine O (EC n j2) ?_
   rw[Nw b hlen,bD]
end
section
variable{l:List Nat}{a:D}
theorem lW(l:List Nat)(k j:Nat):(l.take k).getD j 0=if j<k then l.getD j 0 else 0:=by grind
theorem xa{l':List Nat}{q v:Nat}{b:D}(hq:q<16)(h:∀ i,fP l' i=if i=q then v else fP l i):D.set (.st [a,b,ff l]) [2,q] (U v)=some (.st [a,b,ff l']):=by
 have h1:D.set (ff l) [q] (U v)=some (ff l'):=by
  have e:((List.range 16).map λi=>U (fP l i))[q]?=some (U (fP l q)):=by simp[hq]
  refine O e (J (U v) ?_);simp only[ff,zca,D.st.injEq];apply zOb;all_goals grind
 exact J (ff l) (O h1 rfl)
def T9(k:Nat):akk .rem (I (k:Int)) (.int .i64 2)=some (I (k%2:Nat)):=by rw[ph H,show(2:Int)=((2:Nat):Int) from rfl,<-Int.ofNat_tmod]
def kY{a b:Nat}(d:b≠0)(c:(a:Int)<=9223372036854775807):akk .quo (I (a:Int)) (I (b:Int))=some (I (a/b:Nat)):=by
 have:((a/b:Nat):Int)<=9223372036854775807:=by have:=zfc a b;omega
 have h0:0<=((a/b:Nat):Int):=Int.natCast_nonneg _;rw[uw u0 (by rw[<-zGd];simp only[inR];omega),<-zGd]
def kZ{a b:Nat}(c:b≠0):akk .rem (I (a:Int)) (I (b:Int))=some (I (a%b:Nat)):=by rw[ph u0,<-Int.ofNat_tmod]
def CU{b:D}{i:Nat}(h:i<16):D.get (.st [a,b,ff l]) [2,i]=some (U (fP l i)):=
 J (ff l) (O (w9 h) rfl)
def sgn(neg:Bool)(m:Nat):Int:=if neg then -(m:Int) else m
theorem Zm(n:Nat){neg:Bool}(j:dl l)(hl:l.length<=1000000)(p:bC l<65536^32):C (n+2) 81 [.bool neg,.sl (u l)]=some (R (sgn neg (bC l))):=by
 rw[u81]
 delta Y9 Q P qT qS qX iL iR Jn J0 J2 bF bq jl qb qc qe qh qi qj Z ql qs qt qw qy
 have hlen:=dO 32 _ p;have c:=cR (bC l);have f:R (sgn neg (bC l))=.st [.bool false,.bool (neg&&decide (0<(aT (bC l)).length)),ff (aT (bC l))]:=by
  have g:(sgn neg (bC l)).natAbs=bC l:=by unfold sgn;split<;>omega
  have h:(0<(aT (bC l)).length)↔bC l≠0:=by rw[zYc];exact not_congr wD
  unfold R;rw[g];have:decide (sgn neg (bC l)<0)=(neg&&decide (0<(aT (bC l)).length)):=by simp only[h,sgn];all_goals grind
  rw[this]
 rw[f];refine O (EC n hl) ?_;rw[ko j];generalize aT (bC l)=d at hlen c;refine J (u d) (O cn (O ac (aB (by show ¬ ((u d).length:Int)>32;rw[ao];omega) ?_)))
 refine O ac (O (z:=neg&&decide (0<d.length)) ?_ ?_)
 ·cases neg
  ·rfl
  ·rw[zla rfl];refine J (u d) (O cn ?_);rw[ac,ao];simp
 refine aZ (λk s=>s=[I (k:Int),.st [.bool false,.bool (neg&&decide (0<d.length)),ff (d.take k)]]) d.length 0 (zoa _) rfl (λk hk s e=>?_) (λs e=>?_)
 ·subst e;left;refine⟨_,?_,rfl⟩;have o:=c.getD k;refine J (u d) (O ah (O ac (au (by show(k:Int)<((u d).length:Int);rw[ao];omega) ?_)))
  refine O (z:=(0,[.st [.bool false,.bool (neg&&decide (0<d.length)),ff (d.take (k+1))]])) ?_ (O (ay (aw (i:=k) u0)) rfl)
  refine O (T9 k) ?_;have q1:k/2<16:=u0
  have hq:akk .quo (I (k:Int)) (.int .i64 2)=some (I (k/2:Nat)):=kY (b:=2) H u0
  have a:fP (d.take k) (k/2)=if k%2=0 then 0 else d.getD (2*(k/2)) 0:=by simp only[fP,lW];all_goals grind
  have m:=c.getD (2*(k/2));by_cases hk2:k%2=0
  ·rw[zla hk2] at a;rw[hk2];refine J true ?_;rw[zla rfl];refine O hq (O hq (O (aj q1) (O (CU q1) (J (u d) (O (z:=k) (by rw[ao];exact aj hk) (O (dQ hk) (O (GR u0) (O (KN (by rw[a];omega)) (O (aj q1) (O (xa q1 (l':=d.take (k+1)) ?_) rfl))))))))))
   intro i;by_cases hi:i=k/2
   ·rw[zla hi,a,hi];simp only[fP,lW];grind
   ·rw[zia hi];simp only[fP,lW];grind
  ·rw[zia hk2] at a;refine O (z:=false) (by rw[show k%2=1 by omega];rfl) ?_
   rw[zia H]
   refine O hq (O hq (O (aj q1) (O (CU q1) (J (u d) (O (z:=k) (by rw[ao];exact aj hk) (O (dQ hk) (O (GR u0) (O (Uf (b:=65536) u0) (O (KN (by rw[a];omega)) (O (aj q1) (O (xa q1 (l':=d.take (k+1)) ?_) rfl)))))))))))
   intro i;by_cases hi:i=k/2
   ·rw[zla hi,a,hi];simp only[fP,lW];grind
   ·rw[zia hi];simp only[fP,lW];grind
 ·subst e;refine⟨(0,[.st [.bool false,.bool (neg&&decide (0<d.length)),ff (d.take d.length)]]),?_,?_⟩
  ·exact J (u d) (O ah (O ac (aB (by show ¬ (d.length:Int)<((u d).length:Int);rw[ao];omega) rfl)))
  ·simp_all
theorem c82(n:Nat){a b:List Nat}(m:dl a)(o:dl b)(r:a.length<=900000)(t:b.length<=900000):C (n+2) 82 [.sl (u a),.sl (u b)]=some (.sl (u (aT (bC a+bC b)))):=by
 rw[u82]
 delta Za P qS qV qW iL iR Jn J0 jl qc qj Z qu qy
 obtain⟨M,B⟩:∃ M,M=max a.length b.length:=⟨_,rfl⟩;have f:∀ k:Nat,D.max2 (D.int .i64 (u a).length) (D.int .i64 (u b).length)=some (I (M:Int)):=λ_=>by grind [sB,ao]
 refine aZ (λk s=>∃ (out:List Nat) (c:Nat),s=[.sl (u out),I (c:Int),I (k:Int)]/\out.length=k/\dl out/\c<=1/\bC out+c*65536^k=vt a k+vt b k) (M+1) 0 (zoa _) ⟨[],0,rfl,rfl,(by intro d q;cases q),u0,by simp[bC,vt]⟩ (λk hk s h=>?_) (λs h=>?_)
 ·obtain⟨out,c,rfl,j,g,hc,z⟩:=h;left;have h1:=m.getD k;have A:=o.getD k;refine⟨[.sl (u (out++[(a.getD k 0+b.getD k 0+c)%65536])),I ((a.getD k 0+b.getD k 0+c)/65536:Nat),I ((k+1:Nat):Int)],?_,out++[(a.getD k 0+b.getD k 0+c)%65536],(a.getD k 0+b.getD k 0+c)/65536,rfl,by simp[j],g.append (λx hx=>by simp at hx;omega),u0,?_⟩
  ·refine J (u a) (J (u b) (O (f 0) (O (ay (aw (i:=M) u0)) (O ah (O ac (au (by show(k:Int)<(M:Int)+1;omega) ?_))))))
   refine O (Id n a k) (O (Id n b k) (O (ay (by simp only[inR];omega)) (O (ay (by simp only[inR];omega)) ?_)))
   rw[show(((a.getD k 0:Nat):Int)+((b.getD k 0:Nat):Int)+(c:Int))=((a.getD k 0+b.getD k 0+c:Nat):Int) by omega]
   refine O (kZ (b:=65536) H) ?_
   rw[zla (by simp only[g0,D.els,ao,zPa,zzb];omega)]
   refine O (kY (b:=65536) H u0) (O (ay (aw (i:=k) u0)) ?_)
   simp only[g0,D.els,yY];rfl
  ·rw[nF,j,vt,vt,z0b];have e:a.getD k 0+b.getD k 0+c=(a.getD k 0+b.getD k 0+c)%65536+65536*((a.getD k 0+b.getD k 0+c)/65536):=u0
   have y:bC [(a.getD k 0+b.getD k 0+c)%65536]=(a.getD k 0+b.getD k 0+c)%65536:=by simp[bC]
   grind
 ·obtain⟨out,c,rfl,j,g,hc,z⟩:=h;refine⟨(0,[.sl (u out)]),?_,?_⟩
  ·refine J (u a) (J (u b) (O (f 0) (O (ay (aw (i:=M) u0)) (O ah (O ac (aB (by show ¬ (((M+1:Nat):Int)<(M:Int)+1);omega) rfl))))))
  ·refine O (EC n (l:=out) u0) ?_
   have v:vt a (M+1)=bC a:=kU u0
   have w:vt b (M+1)=bC b:=kU u0
   have la:=xR m M;have lb:=xR o M;rw[kU (show a.length<=M by omega)] at la
   rw[kU (show b.length<=M by omega)] at lb
   have p:c=0:=by all_goals grind
   simp_all [ko,v,w]
theorem JQ(n:Nat){x:Int}(hx:inR x):C (n+3) 34 [I x]=some (R x):=by
 rw[u34]
 delta YS P Jn J0 J1 bF bT qc qj Z
 obtain⟨h1,c⟩:=hx;have d1:∀ m:Nat,(m:Int)<=9223372036854775807->dl [m%65536,m/65536%65536,m/4294967296%65536,m/281474976710656]:=λm hm d f=>by grind
 have d2:∀ m:Nat,bC [m%65536,m/65536%65536,m/4294967296%65536,m/281474976710656]=m:=λm=>by simp only[bC];omega
 have d3:∀ m:Nat,D.sl [I (m%65536:Nat),I (m/65536%65536:Nat),I (m/4294967296%65536:Nat),I (m/281474976710656:Nat)]=.sl (u [m%65536,m/65536%65536,m/4294967296%65536,m/281474976710656]):=λm=>rfl;have a:∀ m:Nat,(m:Int)<=9223372036854775808->m<65536^32:=λm hm=>by omega
 refine O fS (O ac ?_);by_cases h:x ≥ 0
 ·refine au h ?_;obtain⟨m,rfl⟩:=zDc h;refine O (kZ (b:=65536) H) (O (kY (b:=65536) H c) (O (kZ (b:=65536) H) (O (kY (b:=4294967296) H c) (O (kZ (b:=65536) H) (O (kY (b:=281474976710656) H c) ?_)))))
  refine O (z:=R m) ?_ rfl;rw[d3,Zm n (d1 m c) j2 (by rw[d2];exact a m u0),d2];rfl
 ·refine aB h ?_;obtain⟨m,hm⟩:=zDc (show 0<=-(x+1) by omega)
  have e:(m:Int)<=9223372036854775807:=u0
  refine O (ay (by simp only[inR];omega)) (O (nj (by simp only[inR];omega)) ?_)
  rw[hm];refine O (kZ (b:=65536) H) (O (kY (b:=65536) H e) (O (kZ (b:=65536) H) (O (kY (b:=4294967296) H e) (O (kZ (b:=65536) H) (O (kY (b:=281474976710656) H e) ?_)))))
  rw[d3];refine O (c82 n (b:=[1]) (d1 m e) (λd f=>by simp at f;omega) j2 j2) (O (z:=R x) ?_ rfl)
  rw[d2];have g:bC [1]=1:=rfl;rw[g,Zm n (cR _) ?_ ?_,bD]
  ·grind [sgn]
  ·have:=dO 32 _ (a (m+1) u0);omega
  ·grind [bD]
end
def In(x:Int):Prop:=x.natAbs<65536^32
def In.of{x:Int}(h:inR x):In x:=by
 have:(65536:Nat)^4<=65536^32:=zqa H H
 have e:(65536:Nat)^4=18446744073709551616:=H
 obtain⟨h1,a⟩:=h;grind [In]
def jP(m i:Nat):fP (aT m) i=m/4294967296^i%4294967296:=by
 have a:65536^(2*i)=4294967296^i:=by rw[Nat.pow_mul]
 have b:65536^(2*i+1)=4294967296^i*65536:=by rw[z0b,a]
 unfold fP;rw[tG,tG,a,b,<-zYa];omega
def Tq(m:Nat):fP (aT m) 0=m%4294967296:=by rw[jP,z1c,zhd]
def Mf(m:Nat):fP (aT m) 1=m/4294967296%4294967296:=by rw[jP,Nat.pow_one]
def XY{m i:Nat}(h:m<18446744073709551616)(hi:2<=i):fP (aT m) i=0:=by
 rw[jP];have:(4294967296:Nat)^2<=4294967296^i:=zqa H hi
 rw[zcb u0]
def SO{a b:Nat}:D.beq (U a) (U b)=decide (a=b):=by simp only[D.beq,decide_true,z6b];all_goals grind
def xb{m:Nat}(hm:m<65536^32)(h:∀ i,i<16->fP (aT m) i=0):m=0:=by
 have b:∀ i,i<32->(aT m).getD i 0=0:=λi hi=>by
  have:=h (i/2) u0
  unfold fP at this;all_goals grind
 have a:∀ k,k<=32->vt (aT m) k=0:=λk=>by
  induction k with
  | zero=>intro _;rfl
  | succ k ih=>intro hk;rw[vt,ih u0,b k u0];simp
 have:=a 32 u0
 simp_all [kU,dO,bD]
def zB(m i:Nat):Bool:=(List.range i).all λk=>decide (fP (aT m) k=0)
def SI(m i:Nat):zB m (i+1)=(zB m i&&decide (fP (aT m) i=0)):=by simp_all [zB,zyb,z5c]
def adX(n:Nat){x:Int}(hx:In x):C (n+1) 139 [R x]=some (.bool true):=by
 rw[Ys]
 delta Ka Q qT qN iL iR Jn J0 bT bq qc qe qi qj qt qy qz
 have fin:∀ z:Bool,(z=true->x=0)->((D.get (R x) [0]).bind λg=>(D.truth g).bind λa=>
   if a then((D.truth (.bool z)).bind λb=>Option.bind (if b then((D.get (R x) [1]).bind λj=>(akz .not j).bind λk=>D.truth k) else(some false)) λc=>
   some (D.bool c)) else((akz .not (.bool z)).bind λl=>(D.truth l).bind λd=>
   Option.bind (if d then(some true) else((D.get (R x) [1]).bind λm=>(akz .not m).bind λo=>D.truth o)) λe=>some (D.bool e)))=some (.bool true):=by
  intro z p;refine J (.bool false) (J false ?_);rw[zia H]
  refine J (.bool (!z)) (J (!z) ?_);cases z with
  | false=>rfl
  | true=> have:=p rfl;subst this;rfl
 refine aZ (λi s=>s=[.bool (zB x.natAbs i),I (i:Int)]) 16 0 (zoa _) rfl (λi hi s f=>?_) (λs f=>?_)
 ·subst f;left;refine⟨_,?_,rfl⟩;refine O ah (O ac (au (by show(i:Int)<16;omega) (O ac (O (z:=zB x.natAbs (i+1)) ?_ (O (ay (aw (i:=i) u0)) rfl)))))
  rw[SI];cases zB x.natAbs i with
  | false=>rfl
  | true=> rw[zla rfl];refine O (aj hi) (O (dJ hi) ?_);show D.truth (D.bool (D.beq (U (fP (aT x.natAbs) i)) (U 0)))=_;rw[SO,ac];rfl
 ·subst f;refine⟨(0,[.bool (zB x.natAbs 16)]),?_,?_⟩
  ·exact O ah (O ac (aB H rfl))
  ·refine fin _ λh=>?_;have:=xb hx (λi hi=>of_decide_eq_true (zya.1 h i (zRa.2 hi)));omega
def Ih(n:Nat){x:Int}(hx:In x):C (n+2) 76 [R x]=some (.bool true):=by
 rw[u76]
 delta WE Q qT qe Z qz
 exact O (adX n hx) (O ac rfl)
def KQ(n:Nat){x:Int}(hx:x.natAbs<4611686018427387904):C (n+3) 124 [R x]=some (.tup [I x,.bool true]):=by
 have b:In x:=In.of (by simp only[inR];omega)
 rw[Yq]
 delta J8 Q P qN iL iR Jn J0 J2 bF bT nq qO qc qh qi qj Z qt qw qy
 have l1:=Mf x.natAbs;refine O (Ih n b) (O aJ (O ac (O (z:=false) ?_ (O ac ?_))))
 ·rw[zia H]
  refine O (dJ (i:=1) H) ?_
  rw[l1];have:akk .geq (U (x.natAbs/4294967296%4294967296)) (.int .u32 1073741824)=some (.bool false):=by simp only[akk,if_true];rw[zfa u0]
  exact O this rfl
 ·rw[zia H]
  refine aZ (λi s=>s=[I (i:Int)]/\2<=i) 16 2 H ⟨rfl,H⟩ (λi hi s a=>?_) (λs a=>?_)
  ·obtain⟨rfl,d⟩:=a;left;refine⟨_,?_,rfl,u0⟩
   refine O ah (O ac (au (by show(i:Int)<16;omega) ?_))
   refine O (aj hi) (O (dJ hi) ?_);rw[XY u0 d]
   refine J false ?_;rw[zia H]
   exact O (ay (aw (i:=i) u0)) rfl
  ·obtain⟨rfl,_⟩:=a;refine⟨(1,[]),O ah (O ac (aB H rfl)),?_⟩
   rw[zia H]
   have c:=Tq x.natAbs;refine O (dJ (i:=1) H) (O (vn (A6 (cR _) 1)) ?_)
   rw[l1];refine O (cN (by simp only[inR];omega)) (O (dJ (i:=0) H) (O (vn (A6 (cR _) 0)) ?_))
   rw[c];refine O (ay (by simp only[inR];omega)) (J (.bool (decide (x<0))) (O ac ?_))
   by_cases hx0:x<0
   ·refine au hx0 ?_;refine O (nj (by simp only[inR];omega)) ?_
    grind
   ·grind
def adY(n:Nat){x:Int}(hx:In x):C (n+3) 142 [R x]=some (R x.natAbs):=by
 rw[afX]
 delta OE bF Z qn
 have hl:=dO 32 _ hx;refine O (Ih n hx) (O aJ (O ac ?_));refine O (Ws n hx) (O (z:=R x.natAbs) ?_ rfl);rw[Zm n (cR _) u0 (by rw[bD];exact hx),bD];rfl
def c78(n:Nat){a b:List Nat}(m:dl a)(o:dl b)(p:a.length<=900000)(q:b.length<=900000):C (n+2) 78 [.sl (u a),.sl (u b)]=some (.bool (decide (bC a<bC b))):=by
 rw[u78]
 delta Y7 P qS iL iR J0 J1 bF jl nq qc Z qr qt qy
 obtain⟨M,r⟩:∃ M,M=max a.length b.length:=⟨_,rfl⟩;have c:D.max2 (D.int .i64 (u a).length) (D.int .i64 (u b).length)=some (I (M:Int)):=by grind [sB,ao]
 have e:vt a M=bC a:=kU u0
 have f:vt b M=bC b:=kU u0
 refine J (u a) (J (u b) (O c (O (bW (by simp only[inR];omega)) ?_)))
 refine aZ (λi s=>s=[I ((M:Int)-1-i)]/\(bC a<bC b↔vt a (M-i)<vt b (M-i))) M 0 (zoa _) ⟨j2,by simp[e,f]⟩ (λi hi s d=>?_) (λs d=>?_)
 ·obtain⟨rfl,g⟩:=d;obtain⟨k,hk⟩:∃ k,M-i=k+1:=⟨M-i-1,u0⟩
  rw[hk,vt,vt] at g;have l:(M:Int)-1-i=(k:Int):=u0
  rw[l];have la:=xR m k;have lb:=xR o k;have q1:=Id n a k;have j:=Id n b k;by_cases hab:a.getD k 0=b.getD k 0
  ·left;refine⟨[I ((M:Int)-1-(i+1:Nat))],?_,rfl,?_⟩
   ·refine O fS (O ac (au (by show(k:Int) ≥ 0;omega) (O q1 (O j (O (z:=false) ?_ ?_)))))
    ·rw[hab,cZ,zna rfl];rfl
    ·rw[zia H]
     refine O (bW (by simp only[inR];omega)) ?_
     grind
   ·grind
  ·right;refine⟨(0,[.bool (decide (a.getD k 0<b.getD k 0))]),?_,?_⟩
   ·refine O fS (O ac (au (by show(k:Int) ≥ 0;omega) (O q1 (O j (O (z:=true) ?_ ?_)))))
    ·rw[cZ,zfa hab];rfl
    ·rw[zla rfl];refine O q1 (O j (O ah ?_));simp
   ·rw[zla rfl];show some (D.bool (decide (a.getD k 0<b.getD k 0)))=_;congr 3;rw[eq_iff_iff,g];generalize a.getD k 0=y at *;generalize b.getD k 0=v at *;generalize 65536^k=B at *;constructor
    ·intro h;have:(y+1)*B<=v*B:=zJa _ h;grind
    ·intro h;rcases zua y v with h1|h1
     ·exact h1
     ·have:(v+1)*B<=y*B:=zJa _ u0
      grind
 ·obtain⟨rfl,g⟩:=d;refine⟨(1,[]),?_,?_⟩
  ·exact O fS (O ac (aB (by show ¬ ((M:Int)-1-(M:Nat)) ≥ 0;omega) rfl))
  ·grind [decide,vt,decide_eq_false]
def c32(n:Nat){x y:Int}(hx:In x)(a:In y):C (n+3) 32 [R x,R y]=some (I (bk x y)):=by
 rw[u32]
 delta YR Q qN Jn J0 J1 nq qA qb Z qn qt qz
 have g:=dO 32 _ hx;have h:=dO 32 _ a;have Y:=Ih n hx;have e:=Ih n a;have c:=Ws n hx;have d:=Ws n a;refine O Y (O aJ (O ac (J false (J false ?_))));rw[zia H]
 refine O Y (O aJ (J false ?_));rw[zia H]
 refine O e (O aJ (J false ?_));rw[zia H]
 refine J (.bool (decide (x<0))) (J (.bool (decide (y<0))) ?_);have l1:=c78 n (cR x.natAbs) (cR y.natAbs) u0 u0
 have b:=c78 n (cR y.natAbs) (cR x.natAbs) u0 u0
 simp only[bD] at l1 b;have f:∀ p q:Bool,D.truth (.bool (!(D.beq (.bool p) (.bool q))))=some (!(p==q)):=λp q=>rfl;rw[f];refine O rfl ?_;by_cases h1:x<0<;>by_cases h2:y<0
 ·rw[zna h1,zna h2,zia H]
  refine O c (O d (O (z:=(0,[.sl (u (aT y.natAbs)),.sl (u (aT x.natAbs))])) ?_ ?_))
  ·refine O (z:=.bool true) (by rw[show D.get (R x) [1]=some (.bool (decide (x<0))) from rfl,zna h1]) (J true ?_)
   simp_all
  ·refine O b (O l1 (O ac ?_));by_cases h3:y.natAbs<x.natAbs
   ·refine au h3 ?_;simp[bk,show x<y by omega]
   ·refine aB h3 (O ac ?_);by_cases h4:x.natAbs<y.natAbs
    ·refine au h4 ?_;simp[bk,show ¬ x<y by omega,show y<x by omega]
    ·refine aB h4 ?_;simp[bk,show ¬ x<y by omega,show ¬ y<x by omega]
 ·rw[zna h1,zfa h2,zla H]
  refine O (z:=.bool true) (by rw[show D.get (R x) [1]=some (.bool (decide (x<0))) from rfl,zna h1]) (J true ?_)
  simp[bk,show x<y by omega]
 ·rw[zfa h1,zna h2,zla H]
  refine O (z:=.bool false) (by rw[show D.get (R x) [1]=some (.bool (decide (x<0))) from rfl,zfa h1]) (J false ?_)
  simp[bk,show ¬ x<y by omega,show y<x by omega]
 ·rw[zfa h1,zfa h2,zia H]
  refine O c (O d (O (z:=(0,[.sl (u (aT x.natAbs)),.sl (u (aT y.natAbs))])) ?_ ?_))
  ·refine O (z:=.bool false) (by rw[show D.get (R x) [1]=some (.bool (decide (x<0))) from rfl,zfa h1]) (J false rfl)
  ·refine O l1 (O b (O ac ?_));by_cases h3:x.natAbs<y.natAbs
   ·refine au h3 ?_;simp[bk,show x<y by omega]
   ·refine aB h3 (O ac ?_);by_cases h4:y.natAbs<x.natAbs
    ·refine au h4 ?_;simp[bk,show ¬ x<y by omega,show y<x by omega]
    ·refine aB h4 ?_;simp[bk,show ¬ x<y by omega,show ¬ y<x by omega]
section
variable{a:Int}
def Wd(x:Int):Prop:=x.natAbs<4611686018427387904
theorem Wd.inR{x:Int}(h:Wd x):inR x:=by unfold Wd at h;simp only[Sy.inR];omega
theorem Wd.In{x:Int}(h:Wd x):In x:=In.of h.inR
theorem ad0(n:Nat){b:Int}(h:Wd a)(c:b≠0)(g:b ∣ a):C (n+1) 144 [I a,I b]=some (I (a/b)):=by
 rw[afZ]
 delta OG P qT J0 J1 nq qA qb
 obtain⟨q,rfl⟩:=g;have d:(b*q).tdiv b=q:=Int.mul_tdiv_cancel_left _ c;have e:b*q/b=q:=zZa _ c;have f:(b*q).tmod b=0:=Int.mul_tmod_right ..;have hq:Sy.inR q:=by
  have:q.natAbs<=(b*q).natAbs:=by rw[zwa];exact zlb _ u0
  grind [Wd,Sy.inR]
 rw[e];refine O (uw c (by rw[d];exact hq)) (O (z:=(0,[I q])) (O (ph c) ?_) rfl)
 rw[d,f];exact J false (J false (O ac rfl))
def Zn(n:Nat){b:Int}(d:Wd a)(c:Wd b):C (n+4) 85 [R a,R b]=some (R (Nat.gcd a.natAbs b.natAbs:Nat)):=by
 rw[u85]
 delta WF P qT qN qS iL iR J0 bF jl nq qA qO qc Z qp qt qy qz
 refine O (KQ n d) (J (I a) (J (.bool true) (O (KQ n c) (J (I b) (J (.bool true) (J true (J true (J true ?_))))))));rw[zla rfl];obtain⟨r,h1,f⟩:=CP (body:=λ(v1:List D)=>
  (D.truth (D.bool (!(D.beq (Y v1 1) (D.int .i64 0))))).bind λb2=>
  if b2 then((akk .rem (Y v1 0) (Y v1 1)).bind λg=>
  some (Sum.inl [(Y v1 1),g])) else(some (Sum.inr (0,[(Y v1 0)]))))
  (λa b c=>by simp only[g0,g1,ci,ac,zba,c,decide_false,zXb,if_true,ph c])
  (λa=>by simp only[g0,g1,ci,ac,zba,decide_true,zlc,zHa,if_false]) _ a b rfl
 refine t8 h1 ?_;have h:Nat.gcd a.natAbs b.natAbs<=4611686018427387903:=by unfold Wd at d c;exact tS u0 u0
 have e:Sy.inR r:=by simp only[Sy.inR];omega
 refine O (JQ n e) (O (adY n (In.of e)) ?_);rw[f]
def c83(n:Nat){x:Int}(hx:In x):C (n+3) 83 [R x]=some (I (sg x)):=by
 rw[u83]
 delta Zb Q qN qS Jn J0 J1 bq jl qO Z qt
 refine O (Ih n hx) (O aJ (J false (O (z:=decide (x=0)) ?_ (O ac ?_))))
 ·rw[zia H]
  refine O (Ws n hx) (J (u (aT x.natAbs)) ?_);rw[ac,ao];show some (D.beq (I ((aT x.natAbs).length:Nat)) (I (0:Nat)))=_;rw[cZ]
  simp_all [decide_eq_decide,z5b,wD]
 ·by_cases h0:x=0
  ·refine au h0 ?_;subst h0;rfl
  ·refine aB h0 (J (.bool (decide (x<0))) (O ac ?_));by_cases h1:x<0
   ·simp_all [FO]
   ·refine aB h1 ?_;rw[gQ u0]
theorem c87(n:Nat){b:Int}(d:Wd a)(f:Wd b)(c:b≠0)(e:b ∣ a):C (n+4) 87 [R a,R b]=some (R (a/b)):=by
 rw[u87]
 delta Zc Q qT qN qS J0 J1 bq jl nq qA qO qa qb qh Z qo qp qz
 refine O (KQ n d) (J (I a) (J (.bool true) (O (KQ n f) (J (I b) (J (.bool true) (J true (J true (J true (O (z:=true) ?_ (J true ?_))))))))))
 ·rw[zla rfl,ci,zfa c];rfl
 ·rw[zla rfl];have hq:Sy.inR (a/b):=by
   obtain⟨q,rfl⟩:=e;rw[zZa _ c];have:q.natAbs<=(b*q).natAbs:=by rw[zwa];exact zlb _ u0
   grind [Wd,Sy.inR]
  exact O (ad0 (n+2) d c e) (O (JQ n hq) rfl)
abbrev Zl(n:Nat):D:=.int .u64 (n:Int)
theorem eD{n:Int}(h:0<=n/\n<18446744073709551616):IntKind.wrap .u64 n=n:=by grind [IntKind.wrap,IntKind.signed,IntKind.bits]
theorem Ul(n:Nat){x:Int}(hx:Wd x):C (n+4) 186 [R x]=some (.tup [I x,.bool true]):=by
 rw[age]
 delta OT Q P qC Jn J0 bF bT qO qb qh Z qn qt qw
 have a:x.natAbs<4611686018427387904:=hx;have i1:Sy.inR (-9223372036854775808):=⟨H,H⟩
 have i2:Sy.inR 9223372036854775807:=⟨H,H⟩
 refine O (Ih (n+1) hx.In) (O aJ (J false ?_));rw[zia H]
 refine O (JQ n i1) (O (JQ n i2) (O (c32 n hx.In (In.of i1)) ?_));rw[show bk x (-9223372036854775808)=1 by unfold bk;rw[zia u0,zla u0]]
 refine O (z:=.bool false) ah (J false (O (z:=false) ?_ (J false ?_)))
 ·rw[zia H]
  refine O (c32 n hx.In (In.of i2)) ?_;rw[show bk x 9223372036854775807=-1 by unfold bk;rw[zla u0]]
  exact O (z:=.bool false) cn rfl
 ·rw[zia H]
  have l1:=Mf x.natAbs;have l0:=Tq x.natAbs;refine O (dJ (i:=1) H) ?_
  rw[l1];refine O (z:=Zl (x.natAbs/4294967296%4294967296)) (by simp only[D.conv];rw[eD u0]) ?_
  refine O (z:=Zl (x.natAbs/4294967296%4294967296*4294967296)) (by simp only[akk,if_true];rw[eD u0];simp) ?_
  refine O (dJ (i:=0) H) ?_
  rw[l0];refine O (z:=Zl (x.natAbs%4294967296)) (by simp only[D.conv];rw[eD u0]) ?_
  refine O (z:=Zl x.natAbs) (by simp only[akk,if_true];rw[eD u0];congr 2;omega) ?_
  refine O (z:=I (x.natAbs:Nat)) (by simp only[D.conv];rw[iX (by simp only[Sy.inR];omega)]) ?_
  refine O (z:=(0,[I x])) (J (.bool (decide (x<0))) (O ac ?_)) rfl;by_cases h:x<0
  ·refine au h (O (nj (by simp only[Sy.inR];omega)) ?_)
   grind
  ·grind
def aea(n:Nat){v:V}(d:bd 2305843009213693951 v):C (n+1) 187 [ag v]=some (.bool true):=by
 rw[agf]
 delta OU qC qJ iL iR Jn J0 J3 bF bT qO qc qh qj qr qy
 have a:∀ x:Int,(-2305843009213693951<=x/\x<=2305843009213693951)->∀ (i:Nat) (hi:i<3),D.get (ag v) [i]=some (I x)->((D.idx (I (i:Int)) 3).bind λi4=>(D.get (ag v) [i4]).bind λj=>(akk .geq j (D.int .i64 2305843009213693952)).bind λk=>(D.truth k).bind λh=>
  Option.bind (if h then(some true) else((D.idx (I (i:Int)) 3).bind λi8=>(D.get (ag v) [i8]).bind λl=>(akk .leq l (D.int .i64 (-2305843009213693952))).bind λe=>D.truth e)) λb=>
  (D.truth (D.bool b)).bind λc=>if c then(some (Sum.inr (0,[(D.bool false)]))) else((akk .add (I (i:Int)) (D.int .i64 1)).bind λf=>some (Sum.inl [f])))=some (Sum.inl [I ((i+1:Nat):Int)]:Sum (List D) (Nat×List D)):=λx hx i hi g=>by
  refine O (aj hi) (O g (O fS (O ac (O (z:=false) ?_ (J false ?_)))))
  ·refine aB u0 (O (aj hi) (O g (O ja ?_)))
   rw[ac,zfa u0]
  ·rw[zia H]
   exact O (ay (aw (i:=i) u0)) rfl
 refine cC (s':=[I (1:Nat)]) (O ah (O ac (au H (a v.x d.1 0 H rfl)))) (cC (s':=[I (2:Nat)]) (O ah (O ac (au H (a v.y d.2.1 1 H rfl)))) (cC (s':=[I (3:Nat)]) (O ah (O ac (au H (a v.z d.2.2 2 H rfl)))) (fg (r:=(1,[])) (O ah (O ac (aB H rfl))) rfl)))
def gZ(v:V):D:=.st [R v.x,R v.y,R v.z]
def c80(n:Nat){v:V}(hx:inR v.x)(a:inR v.y)(b:inR v.z):C (n+4) 80 [ag v]=some (gZ v):=by
 rw[u80]
 delta Y8 Q Z
 exact O (pX v) (O (JQ n hx) (O (pY v) (O (JQ n a) (O (pZ v) (O (JQ n b) rfl)))))
def W8(n:Nat){v:V}(j:bd 2305843009213693951 v):C (n+5) 155 [gZ v]=some (.st [ag (aS v),I (if v=V.zero then 31 else 0)]):=by
 rw[af6]
 delta OL Q qJ iL iR Jn J0 J3 bq qc qi qj Z qn qp qr qs qt qy
 have p:Wd v.x:=by have:=j.1;unfold Wd;omega
 have d:Wd v.y:=by have:=j.2.1;unfold Wd;omega
 have s:Wd v.z:=by have:=j.2.2;unfold Wd;omega
 have h0:Sy.inR 0:=⟨H,H⟩
 have w0:Wd 0:=by unfold Wd;decide
 have q1:Nat.gcd v.x.natAbs v.y.natAbs<=4611686018427387903:=by unfold Wd at p d;exact tS u0 u0
 have K:br v<=4611686018427387903:=by
  unfold br;have:=tS (a:=(Nat.gcd v.x.natAbs v.y.natAbs:Nat)) (b:=v.z) (k:=4611686018427387903) (by simpa using q1) (by unfold Wd at s;omega)
  simp_all
 have q:Wd (v.x.natAbs:Nat):=by unfold Wd at *;omega
 have w1:Wd (Nat.gcd v.x.natAbs v.y.natAbs:Nat):=by unfold Wd;omega
 have l:Wd (br v:Nat):=by unfold Wd;omega
 have e:=Zn n w0 p;have f:=Zn n q d;have g:=Zn n w1 s;rw[show(Nat.gcd (0:Int).natAbs v.x.natAbs)=v.x.natAbs by simp] at e
 rw[show(Nat.gcd ((v.x.natAbs:Nat):Int).natAbs v.y.natAbs)=Nat.gcd v.x.natAbs v.y.natAbs by simp] at f
 rw[show(Nat.gcd ((Nat.gcd v.x.natAbs v.y.natAbs:Nat):Int).natAbs v.z.natAbs)=br v by simp[br]] at g
 have fst:∀ {k:Nat×List D->Option D} {y:D},k (0,[R (br v:Nat)])=some y->(C (n+4) 34 [(D.int .i64 0)]).bind (λr1=>Option.bind (F (λ(v2:List D)=>
   (akk .lss (Y v2 0) (D.int .i64 3)).bind λA=>(D.truth A).bind λt=>
   if t then((D.idx (Y v2 0) 3).bind λi5=>(D.get (gZ v) [i5]).bind λB=>(C (n+4) 85 [(Y v2 1),B]).bind λu=>
   (akk .add (Y v2 0) (D.int .i64 1)).bind λG=>some (Sum.inl [G,u])) else(some (Sum.inr (0,[(Y v2 1)])))) [(D.int .i64 0),r1]) k)=some y:=by
  intro k y hk;refine O (JQ (n+1) h0) ?_;refine cC (s':=[I 1,R (v.x.natAbs:Nat)]) (O ah (O ac (au H (O L9 (J (R v.x) (O e (O (ay Tf) rfl))))))) ?_
  refine cC (s':=[I 2,R (Nat.gcd v.x.natAbs v.y.natAbs:Nat)]) (O ah (O ac (au H (O IC (J (R v.y) (O f (O (ay yb) rfl))))))) ?_
  refine cC (s':=[I 3,R (br v:Nat)]) (O ah (O ac (au H (O Ma (J (R v.z) (O g (O (ay Tg) rfl))))))) ?_
  exact fg (r:=(0,[R (br v:Nat)])) (O ah (O ac (aB H rfl))) hk
 have i:=c83 (n+1) l.In;by_cases hz:br v=0
 ·refine fst (J (.bool false) (J false ?_));rw[zia H]
  refine O i ?_;rw[hz];refine J true ?_;rw[zla rfl];have o:v=V.zero:=by
   by_cases h:v=V.zero
   ·exact h
   ·have:=jZ h;omega
  rw[o];rfl
 ·have c:(br v:Int)≠0:=u0
  rw[zia (λh=>hz (by rw[h];rfl))]
  refine fst (J (.bool false) (J false ?_));rw[zia H]
  refine O i ?_;rw[gQ (show(0:Int)<br v by omega)]
  refine J false ?_;rw[zia H]
  have m:=fJ j;have E:=c87 n p l c (yU v);have z2:=c87 n d l c (yV v);have z3:=c87 n s l c (yW v);have s1:=Ul n (x:=v.x/(br v:Nat)) (by have:=m.1;unfold Wd;simp only[aS] at this;omega)
  have s2:=Ul n (x:=v.y/(br v:Nat)) (by have:=m.2.1;unfold Wd;simp only[aS] at this;omega)
  have w:=Ul n (x:=v.z/(br v:Nat)) (by have:=m.2.2;unfold Wd;simp only[aS] at this;omega)
  refine cC (s':=[I 1,.st [ag V.zero,I 0],.st [ag ⟨v.x/(br v:Nat),0,0⟩,I 0]]) ?_ (cC (s':=[I 2,.st [ag V.zero,I 0],.st [ag ⟨v.x/(br v:Nat),v.y/(br v:Nat),0⟩,I 0]]) ?_ (cC (s':=[I 3,.st [ag V.zero,I 0],.st [ag ⟨v.x/(br v:Nat),v.y/(br v:Nat),v.z/(br v:Nat)⟩,I 0]]) ?_ (fg (r:=(1,[.st [ag V.zero,I 0],.st [ag (aS v),I 0]])) (O ah (O ac (aB H rfl))) ?_)))
  ·refine O ah (O ac (au H (O L9 (J (R v.x) (O E (O s1 (J (I (v.x/(br v:Nat))) (J (.bool true) (J (.bool false) (J false ?_))))))))))
   rw[zia H]
   exact O L9 (J (.st [ag ⟨v.x/(br v:Nat),0,0⟩,I 0]) (O (ay Tf) rfl))
  ·refine O ah (O ac (au H (O IC (J (R v.y) (O z2 (O s2 (J (I (v.y/(br v:Nat))) (J (.bool true) (J (.bool false) (J false ?_))))))))))
   rw[zia H]
   exact O IC (J (.st [ag ⟨v.x/(br v:Nat),v.y/(br v:Nat),0⟩,I 0]) (O (ay yb) rfl))
  ·refine O ah (O ac (au H (O Ma (J (R v.z) (O z3 (O w (J (I (v.z/(br v:Nat))) (J (.bool true) (J (.bool false) (J false ?_))))))))))
   rw[zia H]
   exact O Ma (J (.st [ag ⟨v.x/(br v:Nat),v.y/(br v:Nat),v.z/(br v:Nat)⟩,I 0]) (O (ay Tg) rfl))
  ·rw[zia (show ¬ (1:Nat)=0 by decide)]
   refine J (ag (aS v)) (O (aea (n+3) (v:=aS v) ?_) (J (.bool false) (J false rfl)));omega
def ad3(n:Nat){v:V}(a:bd 549755813888 v):∃ e:Int,C (n+5) 155 [gZ v]=some (.st [ag (aS v),I e]):=
 ⟨_,W8 n (by simp only[bd] at *;omega)⟩
def adP(n:Nat){a b c:V}(f:bd MV a)(h:bd MV b)(hc:bd MV c):C (n+6) 106 [ag a,ag b,ag c]=some (ag (aS (V.cross (b.sub a) (c.sub a)))):=by
 rw[afu]
 delta N7 Q Z
 have h1:bd 524288 (b.sub a):=by have:=k9 h f;simpa [MV] using this
 have g:bd 524288 (c.sub a):=by have:=k9 hc f;simpa [MV] using this
 have i:=jU h1 g;refine O (Ia (n+4) h f H) (O (Ia (n+4) hc f H) (O (W0 (n+4) h1 g H) ?_))
 have d:=i;generalize V.cross (b.sub a) (c.sub a)=m at *;obtain⟨e,he⟩:=ad3 n d;refine O (c80 (n+1) ?_ ?_ ?_) (O he rfl)
 ·have:=d.1;simp only[Sy.inR];omega
 ·have:=d.2.1;simp only[Sy.inR];omega
 ·have:=d.2.2;simp only[Sy.inR];omega
end
section
variable{l:List Nat}
theorem rT:∀ {l:List Nat} {j v:Nat},j<l.length->bC (l.set j v)+65536^j*l.getD j 0=bC l+65536^j*v
 | d::l,0,v,_=>by simp only[List.set_cons_zero,bC,z1c,z6c,List.getD_cons_zero];omega
 | d::l,j+1,v,h=>by
  have ih:=rT (l:=l) (j:=j) (v:=v) (by simpa using h)
  simp only[List.set_cons_succ,bC,z0b,List.getD_cons_succ];rw[zTa (65536^j) 65536,zkb,zkb];generalize 65536^j*l.getD j 0=x at *;generalize 65536^j*v=y at *;omega
def tK(l:List Nat)(j v:Nat):(u l).set j (I (v:Int))=u (l.set j v):=by simp[u,List.map_set]
def nG(l:List Nat)(j v i:Nat)(h:j<l.length):(l.set j v).getD i 0=if i=j then v else l.getD i 0:=by
 by_cases e:i=j
 ·subst e;simp[List.getD,h]
 ·simp[List.getD,e,List.getElem?_set,show ¬ j=i from λk=>e k.symm]
def y6(m:Nat):List.replicate m (D.int .i64 0)=u (List.replicate m 0):=by simp[u]
def pK{a b:Nat}(h:a*b<=9223372036854775807):akk .mul (I (a:Int)) (I (b:Int))=some (I ((a*b:Nat):Int)):=by rw[cN (by simp only[inR];rw[<-z1a];omega),z1a]
def aA{a b:Nat}(h:a+b<=9223372036854775807):akk .add (I (a:Int)) (I (b:Int))=some (I ((a+b:Nat):Int)):=by rw[ay (by simp only[inR];omega),zid]
def Hu(a:Nat):D.natOf (I (a:Int))=some a:=by simp[D.natOf]
def C0{i:Nat}(h:i<l.length):D.idx (I (i:Int)) (u l).length=some i:=by rw[ao];exact aj h
def S6(h:∀ i,i<l.length->l.getD i 0<65536):dl l:=λd a=>by obtain⟨i,hi,rfl⟩:=z3a a;have:=h i hi;simpa [List.getD,hi] using this
def ad1(n:Nat){a b:List Nat}(ha:dl a)(hb:dl b)(ax:a.length<=400000)(aI:b.length<=400000):C (n+2) 146 [.sl (u a),.sl (u b)]=some (.sl (u (aT (bC a*bC b)))):=by
 rw[af0]
 delta OH P qS qX qV qW iL iR Jn J0 jl qc qi qj Z ql qy
 obtain⟨M,hM⟩:∃ M,M=a.length+b.length+1:=⟨_,rfl⟩;refine J (u a) (J (u b) (O (z:=I ((a.length+b.length:Nat):Int)) (by rw[ao,ao];exact aA u0) (O (z:=I (M:Int)) (by rw[hM];exact aA (b:=1) u0) (O (Hu M) ?_))))
 rw[zla u0,y6]
 refine aZ (λi s=>∃ out:List Nat,s=[I (i:Int),.sl (u out)]/\out.length=M/\dl out/\bC out=vt a i*bC b) a.length 0 (zoa _) ⟨List.replicate M 0,rfl,j2,λx hx=>by rw[zpd hx];decide,by have:=pS [] M;rw[z4b] at this;rw[this];simp[vt,bC]⟩ (λi hi s m=>?_) (λs m=>?_)
 ·obtain⟨out,rfl,ho,t,a5⟩:=m;left;have al:=ha.getD i;obtain⟨r,h1,d,rfl,B,a9,a7⟩:=ss (body:=λ(v10:List D)=>
   (D.asSl (.sl (u b))).bind λa4=>
   (akk .lss (Y v10 0) (D.int .i64 (List.length a4))).bind λN=>
   (D.truth N).bind λF=>
   if F then((akk .add (I (i:Int)) (Y v10 0)).bind λa0=>
   (akk .add (I (i:Int)) (Y v10 0)).bind λa8=>
   (D.idx a8 (List.length (D.els (Y v10 1)))).bind λi16=>
   ((D.els (Y v10 1))[i16]?).bind λQ=>
   (D.asSl (.sl (u a))).bind λy=>
   (D.idx (I (i:Int)) (List.length y)).bind λi19=>
   (y[i19]?).bind λR=>
   (D.asSl (.sl (u b))).bind λA=>
   (D.idx (Y v10 0) (List.length A)).bind λi22=>
   (A[i22]?).bind λS=>
   (akk .mul R S).bind λT=>
   (akk .add Q T).bind λU=>
   (D.idx a0 (List.length (D.els (Y v10 1)))).bind λi26=>
   ((D.els (Y v10 1))[i26]?).bind λa1=>
   (akk .add (Y v10 0) (D.int .i64 1)).bind λV=>
   some (Sum.inl [V,(D.sl (List.set (D.els (Y v10 1)) i26 U))])) else(some (Sum.inr (0,[(D.sl (D.els (Y v10 1)))]))))
   (s0:=[I 0,.sl (u out)])
   (λk s=>∃ o:List Nat,s=[I (k:Int),.sl (u o)]/\o.length=M/\(∀ j,j<M->o.getD j 0<=4295032831/\(i+k<=j->o.getD j 0<65536))/\bC o=bC out+65536^i*(a.getD i 0*vt b k))
   (λr=>∃ o:List Nat,r=(0,[.sl (u o)])/\o.length=M/\(∀ j,j<M->o.getD j 0<=4295032831)/\bC o=bC out+65536^i*(a.getD i 0*bC b)) b.length 0 (zoa _)
   ⟨out,rfl,ho,λj _=>by have:=t.getD j;omega,by simp[vt]⟩ (λk hk s m=>by
    obtain⟨o,rfl,B,a9,a7⟩:=m;left;have an:=hb.getD k;have g:i+k<o.length:=u0
    have hp:a.getD i 0*b.getD k 0<=65535*65535:=zFa u0 u0
    have hx:=(a9 (i+k) u0).2 (zja _)
    refine⟨[I ((k+1:Nat):Int),.sl (u (o.set (i+k) (o.getD (i+k) 0+a.getD i 0*b.getD k 0)))],?_,_,rfl,by simpa using B,λj p=>?_,?_⟩
    ·refine J (u b) (O ah (O ac (au (by show(k:Int)<((u b).length:Int);rw[ao];omega) ?_)))
     refine O (aA (a:=i) (b:=k) u0) (O (aA (a:=i) (b:=k) u0) (O (C0 g) (O (dQ g) ?_)))
     refine J (u a) (O (C0 hi) (O (dQ hi) (J (u b) (O (C0 hk) (O (dQ hk) ?_)))));refine O (pK u0) (O (aA u0) (O (C0 g) (O (dQ g) (O (ay (aw (i:=k) u0)) ?_))))
     show some (Sum.inl [_,D.sl (List.set (u o) (i+k) _)])=_;rw[tK];rfl
    ·rw[nG _ _ _ _ g];have:=a9 j p;split
     ·omega
     ·omega
    ·have e:=rT (l:=o) (j:=i+k) (v:=o.getD (i+k) 0+a.getD i 0*b.getD k 0) g;rw[vt,zjc,zjc];have e2:65536^i*(a.getD i 0*(b.getD k 0*65536^k))=65536^(i+k)*(a.getD i 0*b.getD k 0):=by
      rw[z5a,<-zkb (a.getD i 0),zTa (a.getD i 0*b.getD k 0),zkb]
     rw[zjc] at e;omega) (λs m=>by
    obtain⟨o,rfl,B,a9,a7⟩:=m;rw[rm] at a7;exact⟨_,J (u b) (O ah (O ac (aB (by show ¬ ((b.length:Int)<((u b).length:Int));rw[ao];omega) rfl))),o,rfl,B,λj p=>(a9 j p).1,a7⟩)
  obtain⟨r2,h2,q,rfl,p1,p2,p3⟩:=ss (body:=λ(v30:List D)=>
   (akk .lss (Y v30 1) (D.int .i64 (List.length (D.els (Y v30 2))))).bind λW=>
   (D.truth W).bind λG=>
   if G then((D.idx (Y v30 1) (List.length (D.els (Y v30 2)))).bind λi33=>
   ((D.els (Y v30 2))[i33]?).bind λX=>
   (akk .add X (Y v30 0)).bind λE=>
   (akk .rem E (D.int .i64 65536)).bind λa3=>
   (D.idx (Y v30 1) (List.length (D.els (Y v30 2)))).bind λi37=>
   ((D.els (Y v30 2))[i37]?).bind λa2=>
   (akk .quo E (D.int .i64 65536)).bind λa6=>
   (akk .add (Y v30 1) (D.int .i64 1)).bind λad=>
   some (Sum.inl [a6,ad,(D.sl (List.set (D.els (Y v30 2)) i37 a3))])) else(some (Sum.inr (0,[(D.sl (D.els (Y v30 2)))]))))
   (s0:=[I 0,I 0,.sl (u d)])
   (λk s=>∃ (o:List Nat) (c:Nat),s=[I (c:Int),I (k:Int),.sl (u o)]/\o.length=M/\(∀ j,j<k->o.getD j 0<65536)/\(∀ j,k<=j->o.getD j 0=d.getD j 0)/\c<=131072/\bC o+65536^k*c=bC d)
   (λr=>∃ o:List Nat,r=(0,[.sl (u o)])/\o.length=M/\dl o/\∃ c,bC o+65536^M*c=bC d) M 0 (zoa _)
   ⟨d,0,rfl,B,λj p=>zgb p (Nat.not_lt_zero _),λj _=>rfl,u0,j2⟩ (λk hk s m=>by
    obtain⟨o,c,rfl,q1,K,L,q4,q5⟩:=m;left;have f:k<o.length:=u0
    have hx:=a9 k hk;have hq:=L k (zja _);refine⟨[I (((o.getD k 0+c)/65536:Nat):Int),I ((k+1:Nat):Int),.sl (u (o.set k ((o.getD k 0+c)%65536)))],?_,_,_,rfl,by simpa using q1,λj p=>?_,λj p=>?_,u0,?_⟩
    ·refine O ah (O ac (au (by show(k:Int)<((u o).length:Int);rw[ao];omega) ?_))
     refine O (C0 f) (O (dQ f) (O (aA u0) (O (kZ (b:=65536) H) (O (C0 f) (O (dQ f) (O (kY (b:=65536) H u0) (O (ay (aw (i:=k) u0)) ?_)))))))
     show some (Sum.inl [_,_,D.sl (List.set (u o) k _)])=_;rw[tK];rfl
    ·rw[nG _ _ _ _ f];split
     ·omega
     ·exact K j u0
    ·rw[nG _ _ _ _ f,zia u0];exact L j u0
    ·have e:=rT (l:=o) (j:=k) (v:=(o.getD k 0+c)%65536) f;have e2:o.getD k 0+c=(o.getD k 0+c)%65536+65536*((o.getD k 0+c)/65536):=u0
     have e3:65536^k*(o.getD k 0+c)=65536^k*((o.getD k 0+c)%65536)+65536^k*(65536*((o.getD k 0+c)/65536)):=by rw[<-zjc,<-e2]
     rw[zjc] at e3;rw[z0b,zkb];omega) (λs m=>by
    obtain⟨o,c,rfl,q1,K,L,q4,q5⟩:=m;exact⟨_,O ah (O ac (aB (by show ¬ ((M:Int)<((u o).length:Int));rw[ao];omega) rfl)),o,rfl,q1,S6 λj p=>K j u0,c,q5⟩)
  obtain⟨c,p4⟩:=p3;refine⟨[I ((i+1:Nat):Int),.sl (u q)],?_,q,rfl,p1,p2,?_⟩
  ·refine J (u a) (O ah (O ac (au (by show(i:Int)<((u a).length:Int);rw[ao];omega) ?_)))
   refine O h1 (O h2 ?_);exact O (ay (aw (i:=i) u0)) rfl
  ·have w:bC d=vt a (i+1)*bC b:=by
    rw[a7,a5,vt,ztb,zTa (a.getD i 0) (65536^i),zkb]
   have aO:vt a (i+1)*bC b<65536^M:=by
    have l1:=xR ha (i+1);have l2:=oA hb;have l3:=Nat.mul_lt_mul'' l1 l2;have l4:65536^(i+1)*65536^b.length<=65536^M:=by rw[<-z5a];exact zqa H u0
    omega
   have hc:c=0:=by
    rcases zKb c with h|h
    ·exact h
    ·have:65536^M*1<=65536^M*c:=z6a _ h;omega
   subst hc;rw[<-w,<-p4];simp
 ·obtain⟨out,rfl,ho,t,a5⟩:=m;refine⟨(0,[.sl (u out)]),J (u a) (O ah (O ac (aB (by show ¬ ((a.length:Int)<((u a).length:Int));rw[ao];omega) rfl))),?_⟩
  refine O (EC n (l:=out) u0) ?_
  rw[ko t,a5,rm]
def Sa(x y:Int):sgn (!(decide (decide (x<0)=decide (y<0)))) (x.natAbs*y.natAbs)=x*y:=by
 unfold sgn;rw[<-zwa];by_cases hx:x<0<;>by_cases hy:y<0
 ·have:=zdc hx hy;simp[hx,hy];omega
 ·have:=Int.mul_nonpos_of_nonpos_of_nonneg (zWa hx) (zAc.1 hy);simp[hx,hy];omega
 ·have:=Int.mul_nonpos_of_nonneg_of_nonpos (zAc.1 hx) (zWa hy);simp[hx,hy];omega
 ·have:=zWb (zAc.1 hx) (zAc.1 hy);simp[hx,hy];omega
end
end Sy
end
noncomputable section
open Go
section
variable{B X Y j:Nat}
def pE(n:Nat):Nat:=2^(32*n)
def dV(n:Nat):pE n=2^(32*n):=rfl
attribute [irreducible] pE
def eN:Nat:=pE 16
def gT:eN=pE 16:=rfl
attribute [irreducible] eN
def rh{a b:Nat}(h:a<=b):pE a<=pE b:=by rw[dV,dV];exact zqa u0 u0
def Ag:pE 2=18446744073709551616:=by rw[dV]
def Jv(n:Nat):0<pE n:=by rw[dV];exact zCa _
def iH:0<eN:=gT ▸ Jv 16
def BJ{n:Nat}(h:n<18446744073709551616):n<eN:=by rw[gT];rw[<-Ag] at h;exact zdb h (rh u0)
def bM(X k:Nat):Int:=((X/2^(32*k)%2^32:Nat):Int)
theorem pR(X k:Nat):bM X k<=4294967295:=by grind [bM]
theorem tF(X k:Nat):bM X k<4294967296:=by grind [bM]
def cJ(X k:Nat):0<=bM X k:=by unfold bM;exact Int.natCast_nonneg _
def I6(a b:Nat)(h:a<=b):2^b=2^a*2^(b-a):=by rw[<-z5a];congr 1;omega
theorem mn(X k j:Nat):bM (X%2^(32*k)) j=if j<k then bM X j else 0:=by
 unfold bM;split
 ·rename_i h;congr 1;rw[I6 (32*j) (32*k) u0,Nat.mod_mul_right_div_self,show 32*k-32*j=32+(32*k-32*j-32) from by omega,z5a,Nat.mod_mul_right_mod]
 ·rename_i h;rw[zcb]
  ·simp
  ·exact zdb (zVa _ (zCa _)) (zqa H u0)
theorem A7(n:Nat):∀ (X Y:Nat),X<2^(32*n)->Y<2^(32*n)->(∀ k,k<n->bM X k=bM Y k)->X=Y:=by
 induction n with
 | zero=>intro X Y a b _;simp at a b;omega
 | succ n ih=>
  intro X Y a b h;have f:∀ Z:Nat,Z=Z%2^(32*n)+2^(32*n)*(Z/2^(32*n)):=λZ=>by have:=Nat.mod_add_div Z (2^(32*n));omega
  have hm:X%2^(32*n)=Y%2^(32*n):=by refine ih _ _ (zVa _ (zCa _)) (zVa _ (zCa _)) λk hk=>?_;grind [mn]
  have d:X/2^(32*n)=Y/2^(32*n):=by
   have h1:=h n u0
   unfold bM at h1;have e:∀ Z,Z<2^(32*(n+1))->Z/2^(32*n)<2^32:=λZ c=>by rw[z2a (zCa _),<-z5a,show 32+32*n=32*(n+1) from by omega];exact c
   grind
  grind
def IH(a:X<eN)(b:Y<eN)(h:∀ k,k<16->bM X k=bM Y k):X=Y:=by rw[gT,dV] at a b;exact A7 16 X Y a b h
def yp(s V Z j:Nat):Int:=if j<s then bM V j else bM Z j
def zx(s V Z:Nat):yp s V Z s=bM Z s:=by unfold yp;rw[zia (Nat.lt_irrefl s)]
def gj(X Y k:Nat):Nat:=(X%2^(32*k)+Y%2^(32*k))/2^(32*k)
def ox(X Y k:Nat):gj X Y k<=1:=by
 unfold gj;have h:=zCa (32*k);have h1:=zVa X h;have a:=zVa Y h;have:(X%2^(32*k)+Y%2^(32*k))/2^(32*k)<2:=(z2a h).2 u0
 omega
def uy(X Y:Nat):gj X Y 0=0:=by simp[gj,zgd]
theorem kl(X k:Nat):X=X%2^(32*k)+2^(32*k)*(X/2^(32*k)):=by have:=Nat.mod_add_div X (2^(32*k));omega
theorem eM(k:Nat):2^(32*(k+1))=2^(32*k)*4294967296:=s6
theorem fD(X k:Nat):X%2^(32*(k+1))=X%2^(32*k)+2^(32*k)*(X/2^(32*k)%4294967296):=by rw[eM,Nat.mod_mul]
def ux(X Y k:Nat):((gj X Y (k+1):Nat):Int)=((gj X Y k:Nat)+(bM X k+bM Y k))/4294967296:=by
 unfold gj bM;have hp:=zCa (32*k);rw[fD,fD,eM,<-zYa];generalize 2^(32*k)=p at *;have:(X%p+p*(X/p%4294967296)+(Y%p+p*(Y/p%4294967296)))/p=(X%p+Y%p)/p+(X/p%4294967296+Y/p%4294967296):=by rw[show X%p+p*(X/p%4294967296)+(Y%p+p*(Y/p%4294967296))=(X%p+Y%p)+p*(X/p%4294967296+Y/p%4294967296) from by rw[zjc];omega,zSb _ _ hp]
 omega
def GT(X Y k:Nat):bM (X+Y) k=((gj X Y k:Nat)+(bM X k+bM Y k))%4294967296:=by
 unfold gj bM;have hp:=zCa (32*k);have hx:=kl X k;have a:=kl Y k;generalize 2^(32*k)=p at *;have:(X+Y)/p=(X%p+Y%p)/p+(X/p+Y/p):=by rw[show X+Y=(X%p+Y%p)+p*(X/p+Y/p) from by rw[zjc];omega,zSb _ _ hp]
 omega
theorem DD:2^(32*16)=eN:=by rw[gT,dV 16]
def Ij(a:X<eN)(b:Y<eN):gj X Y 16=if X+Y<eN then 0 else 1:=by
 have h:=ox X Y 16;unfold gj at *;rw[DD,z0a a,z0a b] at *;split
 ·simp_all
 ·have:1<=(X+Y)/eN:=(zec iH).2 u0
  omega
def cu(X Y k:Nat):Nat:=if X%2^(32*k)<Y%2^(32*k) then 1 else 0
def wc(X Y k:Nat):cu X Y k<=1:=by unfold cu;split<;>omega
def rF(X Y:Nat):cu X Y 0=0:=by simp[cu,zgd]
theorem rE(X Y k:Nat):((cu X Y (k+1):Nat):Int)=if bM X k-bM Y k-(cu X Y k:Nat)<0 then 1 else 0:=by
 unfold cu bM;have hp:=zCa (32*k);rw[fD,fD];have h1:=zVa X hp;have c:=zVa Y hp;simp only[show(2:Nat)^32=4294967296 from rfl];generalize 2^(32*k)=p at *;generalize X/p%4294967296=a;generalize Y/p%4294967296=b;generalize X%p=x at *;generalize Y%p=y at *;rcases zod a b with h|h|h
 ·have:p*a+p<=p*b:=by rw[<-zAd];exact z6a _ h
  grind
 ·grind
 ·have:p*b+p<=p*a:=by rw[<-zAd];exact z6a _ h
  grind
theorem GV(h:Y<=X)(k:Nat):bM (X-Y) k=(bM X k-bM Y k-(cu X Y k:Nat))%4294967296:=by
 unfold cu bM;have hp:=zCa (32*k);have hx:=kl X k;have d:=kl Y k;have h1:=zVa X hp;have f:=zVa Y hp;simp only[show(2:Nat)^32=4294967296 from rfl];generalize 2^(32*k)=p at *;have hle:Y/p<=X/p:=Nat.div_le_div_right h;generalize hxq:X/p=a at *;generalize hyq:Y/p=b at *;generalize hxr:X%p=x at *;generalize hyr:Y%p=y at *;by_cases h3:x<y
 ·have c:b<a:=by
   all_goals grind
  have e:X-Y=(x+p-y)+p*(a-b-1):=by
   rw[hx,d,zrd,zrd];have:p*b+p<=p*a:=by rw[<-zAd];exact z6a _ c
   omega
  rw[e,zSb _ _ hp,zcb u0,zla h3]
  omega
 ·have e:X-Y=(x-y)+p*(a-b):=by
   rw[hx,d,zrd];have:p*b<=p*a:=z6a _ hle;omega
  rw[e,zSb _ _ hp,zcb u0,zia h3]
  omega
theorem uY(a b:Int)(c:Nat)(a0:0<=a)(a1:a<=4294967295)(b0:0<=b)(b1:b<=4294967295)(hc:c<=1) :
  IntKind.u64.wrap (IntKind.u64.wrap (a-b)-(c:Int))/9223372036854775808=(if a-b-(c:Int)<0 then 1 else 0) ∧
  IntKind.u64.wrap (IntKind.u64.wrap (a-b)-(c:Int))%4294967296=(a-b-(c:Int))%4294967296:=by
 have e:∀ n:Int,IntKind.u64.wrap n=n%18446744073709551616:=λn=>rfl;all_goals grind
def jy(X:Nat):Nat->Nat
 | 0=>0
 | k+1=>if 2^(32*k)<=X then k+1 else jy X k
def du(X:Nat):Nat:=jy X 16
def IX(X k:Nat):jy X k<=k:=by
 induction k with
 | zero=>exact zja _
 | succ k ih=>unfold jy;split<;>omega
theorem Fo(X k:Nat)(h:jy X k≠0):2^(32*(jy X k-1))<=X:=by
 induction k with
 | zero=>exact zgb rfl h
 | succ k ih=> all_goals grind [jy]
theorem Ds(X k:Nat)(h:X<2^(32*k)):X<2^(32*jy X k):=by
 induction k with
 | zero=>exact h
 | succ k ih=> all_goals grind [jy]
def lH(X:Nat):du X<=16:=IX X 16
def fE(h:X<eN):X<2^(32*du X):=Ds X 16 (by rw[gT,dV] at h;exact h)
def qK{X:Nat}(h:du X≠0):2^(32*(du X-1))<=X:=Fo X 16 h
def AJ{k:Nat}(h:X<2^(32*(k+1))):bM X k=0↔X<2^(32*k):=by
 unfold bM;have hp:=zCa (32*k);have a:X/2^(32*k)<2^32:=by rw[z2a hp,<-z5a,show 32+32*k=32*(k+1) from by omega];exact h
 rw[z0a a];constructor
 ·intro c;have b:X/2^(32*k)=0:=u0
  all_goals simp_all
 ·simp_all [zcb]
def sgn(a b:Nat):Int:=if a<b then -1 else if b<a then 1 else 0
def ld(X Y k:Nat):Prop:=X/2^(32*k)=Y/2^(32*k)
def Iy(a:X<eN)(b:Y<eN):ld X Y 16:=by unfold ld;rw[gT,dV] at a b;omega
def oD(X k:Nat):X/2^(32*k)=X/2^(32*(k+1))*4294967296+(X/2^(32*k))%4294967296:=by rw[eM,<-zYa];omega
def CY{k:Nat}(h:ld X Y (k+1))(a:bM X k=bM Y k):ld X Y k:=by unfold ld bM at *;rw[oD X k,oD Y k,h];omega
def D1{k:Nat}(h:ld X Y (k+1))(b:bM X k≠bM Y k):sgn X Y=if bM X k<bM Y k then -1 else 1:=by
 unfold ld bM at *;have hx:=oD X k;have d:=oD Y k;have hp:=zCa (32*k);have e:=kl X k;have f:=kl Y k;have h1:=zVa X hp;have c:=zVa Y hp;simp only[show(2:Nat)^32=4294967296 from rfl] at b ⊢;generalize 2^(32*k)=p at *;unfold sgn;by_cases hlt:X/p<Y/p
 ·have:p*(X/p)+p<=p*(Y/p):=by rw[<-zAd];exact z6a _ hlt
  omega
 ·have a:Y/p<X/p:=u0
  have:p*(Y/p)+p<=p*(X/p):=by rw[<-zAd];exact z6a _ a
  omega
def Jo(h:ld X Y 0):sgn X Y=0:=by simp_all [ld,sgn]
theorem fA(X k:Nat):bM X k=((X/2^(32*k)%4294967296:Nat):Int):=rfl
def gK{n k:Nat}(h:X<2^(32*n))(hk:n<=k):bM X k=0:=by rw[fA,zcb (zdb h (zqa u0 u0))];rfl
def mh(X c s j:Nat)(h:j<s):bM (X+c*2^(32*s)) j=bM X j:=by
 rw[fA,fA];congr 1;rw[show 32*s=32*j+(32+32*(s-j-1)) from by omega,z5a,z5a,show c*(2^(32*j)*(2^32*2^(32*(s-j-1))))=2^(32*j)*(4294967296*(c*2^(32*(s-j-1)))) from by rw[show(2:Nat)^32=4294967296 from rfl];ac_rfl,zSb _ _ (zCa _),Nat.add_mul_mod_self_left]
def jg(A B i:Nat):Nat:=A%2^(32*i)*B
def qH(A B i k:Nat):Nat:=jg A B i+(A/2^(32*i)%4294967296)*(B%2^(32*k))*2^(32*i)
def sD(A B i k:Nat):Nat:=qH A B i k/2^(32*(i+k))-jg A B i/2^(32*(i+k))
def Bk(A B i k:Nat):Nat->Int:=yp (i+k) (qH A B i k) (jg A B i)
def zE(A B i:Nat):qH A B i 0=jg A B i:=by simp[qH,zgd]
def zz(A B i:Nat):sD A B i 0=0:=by simp[sD,zE]
def IR(A B i:Nat):Bk A B i 0=bM (jg A B i):=by funext j;simp[Bk,zE,yp]
theorem zD(A B i k:Nat):qH A B i (k+1)=qH A B i k+(A/2^(32*i)%4294967296)*(B/2^(32*k)%4294967296)*2^(32*(i+k)):=by
 unfold qH;rw[fD,show 32*(i+k)=32*i+32*k from by omega,z5a,zjc,ztb,zLb]
 grind
def Rr(A B i k:Nat):jg A B i<=qH A B i k:=zbd _ _
def Bi(A B i k:Nat):sD A B i k+jg A B i/2^(32*(i+k))=qH A B i k/2^(32*(i+k)):=by unfold sD;have:=Nat.div_le_div_right (c:=2^(32*(i+k))) (Rr A B i k);omega
theorem Do(A B i k:Nat):qH A B i (k+1)/2^(32*(i+k))=sD A B i k+jg A B i/2^(32*(i+k))+(A/2^(32*i)%4294967296)*(B/2^(32*k)%4294967296):=by rw[zD,zsc _ _ (zCa _),Bi]
theorem xg(A B i k:Nat):sD A B i (k+1)=(sD A B i k+((A/2^(32*i)%4294967296)*(B/2^(32*k)%4294967296)+jg A B i/2^(32*(i+k))%4294967296))/4294967296:=by
 have h1:=Bi A B i (k+1);have a:=Do A B i k;have e:∀ X,X/2^(32*(i+(k+1)))=X/2^(32*(i+k))/4294967296:=λX=>by rw[show i+(k+1)=i+k+1 from by omega,eM,zYa]
 grind
def EF(a p q z c:Nat):(((a+(p*q+z))%c:Nat):Int)=((a:Int)+((p:Int)*q+z))%(c:Int):=by push_cast;rfl
def IM(A B i k:Nat):((sD A B i (k+1):Nat):Int)=((sD A B i k:Nat)+(bM A i*bM B k+bM (jg A B i) (i+k)))/4294967296:=by simp_all [xg,fA]
def Bj(A B i k:Nat):sD A B i k<=4294967295:=by
 induction k with
 | zero=>rw[zz];omega
 | succ k ih=>
  rw[xg];have h1:A/2^(32*i)%4294967296<=4294967295:=u0
  have a:B/2^(32*k)%4294967296<=4294967295:=u0
  have b:=zFa h1 a;omega
def IP(A B i k:Nat):Bk A B i k (i+k)=bM (jg A B i) (i+k):=zx _ _ _
theorem Mu(A B i k:Nat):bM (qH A B i (k+1)) (i+k)=((sD A B i k:Nat)+(bM A i*bM B k+bM (jg A B i) (i+k)))%4294967296:=by grind [fA,qH,Do]
theorem zF{A i m:Nat}(a:B<2^(32*m)):jg A B (i+1)=qH A B i m:=by grind [jg,qH,fD,Nat.mod_eq_of_lt,Nat.add_mul]
def Hs{A i m:Nat}(a:B<2^(32*m)):jg A B i<2^(32*(i+m)):=by
 unfold jg;rw[show 32*(i+m)=32*i+32*m from by omega,z5a]
 exact Nat.mul_lt_mul'' (zVa _ (zCa _)) a
def IS(A B:Nat):jg A B 0=0:=by simp[jg,zgd]
def Mv{A n:Nat}(a:A<2^(32*n)):jg A B n=A*B:=by unfold jg;rw[z0a a]
def lw(k:Nat):bM 0 k=0:=by simp[bM]
def ml(X a k:Nat):bM (X/2^(32*a)) k=bM X (a+k):=by simp_all [fA,zYa,z5a,zjc]
def CB(X a k:Nat):bM (X/pE a) k=bM X (a+k):=by rw[dV,ml]
def Mr(a b D c:Nat):(a+b*D)%c=(a+b%c*D)%c:=by
 have h:b*D%c=b%c*D%c:=by simp_all
 simp_all [Nat.add_mod]
def jf(X D k:Nat):Nat:=X%2^(32*k)*D/2^(32*k)
def zC(X D:Nat):jf X D 0=0:=by simp[jf,zgd]
def Bl(X k:Nat){D:Nat}(h:0<D):jf X D k<D:=by unfold jf;rw[z2a (zCa _),zTa D];exact z3b (zVa _ (zCa _)) h
theorem Ff(X D k:Nat):jf X D (k+1)=(jf X D k+X/2^(32*k)%4294967296*D)/4294967296:=by unfold jf;grind [fD,eM,Nat.div_div_eq_div_mul,Nat.add_mul,Nat.mul_assoc,Nat.add_mul_div_left]
def zA(X D k:Nat):((jf X D (k+1):Nat):Int)=((jf X D k:Nat)+bM X k*(D:Nat))/4294967296:=by simp_all [zTb,Int.add_zero,ztd,Int.cast_ofNat_Int,Ff,fA]
theorem Dn(X D k:Nat):bM (X*D) k=((jf X D k:Nat)+bM X k*(D:Nat))%4294967296:=by
 have h:=EF (jf X D k) (X/2^(32*k)%4294967296) D 0 4294967296;simp only[zTb,Int.add_zero,ztd,Int.cast_ofNat_Int] at h;rw[fA,fA];refine Eq.trans (zIa Nat.cast ?_) h;have e:X*D/2^(32*k)=jf X D k+X/2^(32*k)*D:=by grind [jf,Nat.add_mul_div_left,Nat.two_pow_pos,Nat.mul_assoc,Nat.add_mul,kl]
 rw[e,Mr]
theorem Mt{D:Nat}(h:X<eN):jf X D 16=X*D/eN:=by grind [jf,DD,Nat.mod_eq_of_lt]
def Lx(X n k:Nat)(hn:n<=32):bM (X/2^n) k=(bM X (k+1)*4294967296+bM X k)/((2^n:Nat):Int)%4294967296:=by
 rw[fA,fA,fA,eM,<-zYa,zYa,zTa (2^n),<-zYa];generalize X/2^(32*k)=Y;have e:(((Y/4294967296%4294967296:Nat):Int)*4294967296+((Y%4294967296:Nat):Int))=((Y%(2^n*(2^(32-n)*4294967296)):Nat):Int):=by
  rw[<-zkb,<-z5a,show n+(32-n)=32 from by omega,show(2:Nat)^32=4294967296 from rfl]
  omega
 rw[e,<-Int.natCast_ediv,Nat.mod_mul_right_div_self];generalize Y/2^n=Z;have h:Z%4294967296=Z%(2^(32-n)*4294967296)%4294967296:=(Nat.mod_mul_left_mod _ _ _).symm;rw[h];exact Int.natCast_emod _ 4294967296
def zr(X k j:Nat):bM (X/2^(32*k)*2^(32*k)) j=if j<k then 0 else bM X j:=by
 have h:=mh 0 (X/2^(32*k)) k j;by_cases hj:j<k
 ·simp_all [zbb,lw]
 ·rw[zia hj,show j=k+(j-k) from by omega,<-ml,Nat.mul_div_cancel _ (zCa _),ml]
def jk(X b k:Nat):Nat:=X/2^(32*k)%b
def DN(X k:Nat){b:Nat}(h:0<b):jk X b k<b:=zVa _ h
def wG(X k:Nat):X/2^(32*k)=X/2^(32*(k+1))*4294967296+X/2^(32*k)%4294967296:=by rw[eM,<-zYa];omega
def FG(X b k:Nat):jk X b k=(jk X b (k+1)*4294967296+X/2^(32*k)%4294967296)%b:=by
 unfold jk
 conv=>lhs;rw[wG X k]
 simp_all [zgc,Mr]
def Jp(X k:Nat){b:Nat}(a:0<b)(h:b<=4294967295):X/b/2^(32*k)%4294967296=(jk X b (k+1)*4294967296+X/2^(32*k)%4294967296)/b:=by
 have e:X/b/2^(32*k)=X/2^(32*(k+1))/b*4294967296+(jk X b (k+1)*4294967296+X/2^(32*k)%4294967296)/b:=by
  rw[zYa,zTa,<-zYa]
  conv=>lhs;rw[wG X k]
  unfold jk;generalize X/2^(32*(k+1))=Y;generalize X/2^(32*k)%4294967296=z
  conv=>lhs;rw[show Y*4294967296+z=b*(Y/b*4294967296)+(Y%b*4294967296+z) from by
   have:=zwb Y b
   conv=>lhs;rw[<-this]
   rw[ztb,zkb];omega]
  rw[Nat.mul_add_div a]
 have c:(jk X b (k+1)*4294967296+X/2^(32*k)%4294967296)/b<4294967296:=by rw[z2a a];have h1:=DN X (k+1) a;omega
 simp_all
def Jg(X b:Nat):jk X b 0=X%b:=by simp[jk]
structure Heads(W V P T F u v:Nat):Prop where
 w:W/P=T*4294967296+u
 d:V/P=F*4294967296+v
 u:u<4294967296
 v:v<4294967296
 one:1<=F
 pos:0<P
 lt:W<V*4294967296
variable{W V P T F u v:Nat}
theorem Heads.key{d r:Nat}(h:d*F+r=T):d*(F*4294967296+v)+r*4294967296=T*4294967296+d*v:=by grind
def Heads.vpos(H:Heads W V P T F u v):0<V:=by
 rcases zKb V with h|h
 ·have:=H.lt;rw[h] at this;omega
 ·exact h
theorem Heads.over(H:Heads W V P T F u v){d:Nat}(h:W/P<d*(V/P)):W/V<d:=by
 apply zdd;have h1:W<(W/P+1)*P:=by have:=zwb W P;have:=zVa W H.pos;rw[ztb,zTa (W/P)];omega
 have a:(W/P+1)*P<=d*(V/P)*P:=zJa _ h;have b:d*(V/P)*P<=d*V:=by rw[zkb];exact z6a _ (z9b V P)
 grind
def Heads.under(H:Heads W V P T F u v){d:Nat}(h:d*(V/P)<=W/P)(i:d<4294967296):d<=W/V+1:=by
 rcases zKb d with h0|h0
 ·simp_all
 obtain⟨e,rfl⟩:∃ e,d=e+1:=⟨d-1,u0⟩
 have g:e<=V/P:=by rw[H.d];have h1:1*4294967296<=F*4294967296:=zJa _ H.one;omega
 have:e<=W/V:=by
  rw[zec H.vpos];have h1:V<=(V/P+1)*P:=by have:=zwb V P;have:=zVa V H.pos;rw[ztb,zTa (V/P)];omega
  have a:e*V<=e*((V/P+1)*P):=z6a _ h1;have b:e*((V/P+1)*P)<=(e+1)*(V/P)*P:=by rw[<-zkb];apply zJa;rw[zjc,ztb];omega
  have c:(e+1)*(V/P)*P<=W/P*P:=zJa _ h;have f:=z9b W P;omega
 omega
def Heads.q_lt(H:Heads W V P T F u v):W/V<4294967296:=zdd (by have:=H.lt;omega)
theorem Heads.start(H:Heads W V P T F u v):W/V<=T/F:=by
 have h1:W/V<T/F+1:=by
  apply H.over;rw[H.w,H.d];have a:T<(T/F+1)*F:=by have:=zwb T F;have:=zVa T (show 0<F from H.one);rw[ztb,zTa (T/F)];omega
  have b:(T+1)*4294967296<=(T/F+1)*F*4294967296:=zJa _ a;have c:(T/F+1)*F*4294967296<=(T/F+1)*(F*4294967296+v):=s6
  have e:=H.u;omega
 omega
def Heads.step_big(H:Heads W V P T F u v){d:Nat}(h:4294967296<=d):W/V<=d-1:=Nat.le_sub_one_of_lt (zdb H.q_lt h)
theorem Heads.step(H:Heads W V P T F u v){d r:Nat}(h:d*F+r=T)(ht:r*4294967296+u<d*v):W/V<=d-1/\1<=d:=by
 have h1:W/V<d:=by apply H.over;rw[H.w,H.d];grind
 grind
def Heads.t_lt(H:Heads W V P T F u v):T<(F+1)*4294967296:=by
 have h1:=z9b W P;have a:V<(V/P+1)*P:=by have:=zwb V P;have:=zVa V H.pos;rw[ztb,zTa (V/P)];omega
 have e:V*4294967296<(V/P+1)*P*4294967296:=z3b a u0
 have f:=H.lt;have b:W/P*P<(V/P+1)*4294967296*P:=by rw[Nat.mul_right_comm];omega
 have c:=Nat.lt_of_mul_lt_mul_right b;rw[H.w,H.d] at c;have g:=H.v;omega
def Heads.done(H:Heads W V P T F u v){d r:Nat}(h:d*F+r=T)(a:4294967296<=r\/(d<4294967296/\d*v<=r*4294967296+u)):d<4294967296/\d<=W/V+1:=by
 have b:d<4294967296:=by
  rcases a with a|a
  ·have h1:=H.t_lt;rw[ztb,z6c] at h1;have c:d*F<4294967296*F:=u0
   exact Nat.lt_of_mul_lt_mul_right c
  ·exact a.1
 refine⟨b,H.under ?_ b⟩;rw[H.w,H.d];have hk:=Heads.key (v:=v) h;rcases a with a|a
 ·have h1:d*v<=4294967295*4294967295:=zFa u0 (by have:=H.v;omega)
  omega
 ·omega
def dg(X k:Nat):Nat:=X/2^(32*k)%4294967296
def tD(X k:Nat):bM X k=(dg X k:Nat):=rfl
def gt(X k:Nat):dg X k<4294967296:=zVa _ u0
def GS(X k:Nat):dg X k<=4294967295:=Nat.le_of_lt_succ (gt X k)
def rR(X k:Nat):X/2^(32*k)=X/2^(32*(k+1))*4294967296+dg X k:=wG X k
def lz{k:Nat}(h:X<2^(32*(k+1))):X/2^(32*k)=dg X k:=by rw[rR,zcb h,zwd,zbb]
theorem L1{U V e j:Nat}(b:V<2^(32*(e+2)))(c:2^(32*(e+1))<=V)(d:U/2^(32*j)<V*4294967296) :
  Heads (U/2^(32*j)) V (2^(32*e)) (dg U (j+e+2)*4294967296+dg U (j+e+1)) (dg V (e+1)) (dg U (j+e)) (dg V e):=by
 have hc:∀ k,U/2^(32*j)/2^(32*k)=U/2^(32*(j+k)):=λk=>by rw[zYa,<-z5a,zjc]
 have a:U<2^(32*(j+e+2+1)):=by
  have h1:=(z2a (zCa (32*j))).1 d;have f:V*4294967296*2^(32*j)<2^(32*(e+2))*4294967296*2^(32*j):=z3b (z3b b u0) (zCa _)
  grind
 refine⟨?_,?_,gt _ _,gt _ _,?_,zCa _,d⟩
 ·rw[hc,rR,rR U (j+e+1),lz a]
 ·rw[rR,lz b]
 ·rw[<-lz b];exact(zec (zCa _)).2 (by rw[z6c];exact c)
def V7(U i k:Nat):dg U i*4294967296+dg U k<=18446744073709551615:=by have h1:=GS U i;have a:=GS U k;omega
theorem EZ{T F D R:Nat}(h:D*F+R=T)(a:1<=D):(D-1)*F+(R+F)=T:=by
 obtain⟨E,rfl⟩:∃ E,D=E+1:=⟨D-1,u0⟩
 grind
def yf{k:Nat}(h:X%2^(32*k)=B%2^(32*k)):cu X Y k=cu B Y k:=by unfold cu;rw[h]
def fY(U Z j:Nat):Nat:=U%2^(32*j)+Z*2^(32*j)
def I1{U Z t:Nat}(h:t<j):bM (fY U Z j) t=bM U t:=by simp_all [fY,mh,mn]
def Ft(U Z j i:Nat):bM (fY U Z j) (j+i)=bM Z i:=by
 rw[<-ml];unfold fY
 simp_all [zsc,zCa,zcb,zVa,zbb]
def yy(U Z j i:Nat):Nat->Int:=yp (j+i) (fY U Z j) U
def Aa(U Z j:Nat):yy U Z j 0=bM U:=by
 funext t;unfold yy yp;split
 ·rename_i h;exact I1 u0
 ·rfl
def oL(U Z j i:Nat):yy U Z j i (j+i)=bM U (j+i):=zx _ _ _
def og(W Y m:Nat):Nat:=(W+2^(32*m)-Y)%2^(32*m)
def JI{W m i:Nat}(hi:i<m)(c:Y<=2^(32*m)):bM (og W Y m) i=(bM W i-bM Y i-(cu W Y i:Nat))%4294967296:=by
 have b:bM (W+2^(32*m)) i=bM W i:=by have:=mh W 1 m i hi;rwa [z6c] at this
 have a:cu (W+2^(32*m)) Y i=cu W Y i:=yf (by rw[show 32*m=32*i+(32*m-32*i) from by omega,z5a,Nat.add_mul_mod_self_left])
 unfold og;rw[mn,zla hi,GV u0,b,a]
def NI(W Y m:Nat):og W Y m<2^(32*m):=zVa _ (zCa _)
def Ci{W m:Nat}(a:W<2^(32*m))(b:Y<2^(32*m)):cu W Y m=if W<Y then 1 else 0:=by simp_all [cu,z0a]
def fq(N V j:Nat):Nat:=N/V%2^(32*j)*V+N%V
def Je(N V:Nat):fq N V 0=N%V:=by simp[fq,zgd]
def FE{N V k:Nat}(h:N/V<2^(32*k)):fq N V k=N:=by unfold fq;rw[z0a h,zTa];exact zwb N V
theorem zS(N V j:Nat):fq N V (j+1)=fq N V j+dg (N/V) j*V*2^(32*j):=by unfold fq dg;rw[fD];grind
theorem By{N V:Nat}(j:Nat)(h:0<V):fq N V j<V*2^(32*j):=by unfold fq;have h1:=zVa (N/V) (zCa (32*j));have a:=zVa N h;have b:(N/V%2^(32*j)+1)*V<=2^(32*j)*V:=zJa _ h1;grind
def sN{N V:Nat}(j:Nat)(h:0<V):fq N V j/2^(32*j)<V:=by rw[z2a (zCa _)];exact By j h
def uj(N V j:Nat):fq N V (j+1)/2^(32*j)=fq N V j/2^(32*j)+V*dg (N/V) j:=by rw[zS,zsc _ _ (zCa _),zTa V]
def DL(N V j:Nat):fq N V (j+1)%2^(32*j)=fq N V j%2^(32*j):=by rw[zS,zjd]
def M0{N V:Nat}(j:Nat)(h:0<V):fq N V (j+1)/2^(32*j)/V=dg (N/V) j:=by simp_all [uj,zSb,zcb,sN,zbb]
def M4{N V:Nat}(j:Nat)(h:0<V):fq N V (j+1)/2^(32*j)<V*4294967296:=by rw[z2a (zCa _),zkb,zTa 4294967296,<-eM];exact By (j+1) h
theorem Jd{N V n:Nat}(j:Nat)(h:0<V)(a:V<2^(32*n)):fq N V (j+1)<2^(32*(j+n+1)):=by have h1:=By (N:=N) (j+1) h;have b:V*2^(32*(j+1))<2^(32*n)*2^(32*(j+1)):=z3b a (zCa _);grind
def zM{U:Nat}(h:U%2^(32*j)=X%2^(32*j)):fY U (X/2^(32*j)) j=X:=by unfold fY;rw[h,zTa (X/2^(32*j)) (2^(32*j))];exact Nat.mod_add_div X _
def I2(U Z j:Nat):fY U Z j%2^(32*j)=U%2^(32*j):=by unfold fY;rw[zjd,Nat.mod_mod]
def I0(U Z j:Nat):fY U Z j/2^(32*j)=Z:=by simp_all [fY,zsc,zCa,zcb,zVa,zbb]
theorem DA{U Z m:Nat}(a:Z<2^(32*m)):fY U Z j<2^(32*(j+m)):=by
 have h1:fY U Z j<(Z+1)*2^(32*j):=by unfold fY;have:=zVa U (zCa (32*j));rw[ztb];omega
 have b:(Z+1)*2^(32*j)<=2^(32*m)*2^(32*j):=zJa _ a;grind
variable{N V n:Nat}
def pN(a:V<2^(32*n)):V<2^(32*(n+1)):=zdb a (zqa u0 u0)
def BZ{x y:Nat}(hx:x<B):(x+y+B-y)%B=x:=by rw[show x+y+B-y=x+B from by omega,Nat.add_mod_right,z0a hx]
def DP(j:Nat)(h:0<V)(a:V<2^(32*n)) :
  fY (fq N V (j+1)) (og (fq N V (j+1)/2^(32*j)) (V*dg (N/V) j) (n+1)) j=fq N V j:=by
 have e:og (fq N V (j+1)/2^(32*j)) (V*dg (N/V) j) (n+1)=fq N V j/2^(32*j):=by unfold og;rw[uj];exact BZ (zmc (sN j h) (pN a))
 rw[e,zM (DL N V j)]
def JJ(j:Nat)(h:0<V)(a:V<2^(32*n)) :
  og (fq N V (j+1)/2^(32*j)) (V*(dg (N/V) j+1)) (n+1)=fq N V j/2^(32*j)+2^(32*(n+1))-V:=by
 have h1:=sN (N:=N) j h;have b:=pN a;unfold og;rw[uj,zjc V (dg (N/V) j) 1,Nat.mul_one];generalize 2^(32*(n+1))=B at *;generalize fq N V j/2^(32*j)=x at *;generalize V*dg (N/V) j=y;rw[show x+y+B-(y+V)=x+B-V from by omega,z0a u0]
def DQ(j:Nat)(h:0<V)(b:V<2^(32*n)){U1:Nat}(a:U1=fY (fq N V (j+1)) (og (fq N V (j+1)/2^(32*j)) (V*(dg (N/V) j+1)) (n+1)) j) :
  fY U1 ((U1/2^(32*j)+V)%2^(32*(n+1))) j=fq N V j:=by
 have h1:=sN (N:=N) j h;have d:=pN b;have c:(U1/2^(32*j)+V)%2^(32*(n+1))=fq N V j/2^(32*j):=by rw[a,I0,JJ j h b];generalize 2^(32*(n+1))=B at *;generalize fq N V j/2^(32*j)=x at *;rw[show x+B-V+V=x+B from by omega,Nat.add_mod_right,z0a u0]
 rw[c,zM (by rw[a,I2,DL])]
end
end
noncomputable section
namespace Sy
open Go Go.Proofs Geo
section
variable{X Y:Nat}{a:Int}{f:Nat->Int}
def cK(n:Nat)(f:Nat->Int):D:=.st ((List.range n).map λi=>.int .u32 (f i))
abbrev LM(X:Nat):D:=cK 16 (bM X)
def bG{n i:Nat}(f:Nat->Int)(h:i<n):D.get (cK n f) [i]=some (.int .u32 (f i)):=by simp[cK,D.get,D.fld,h]
def dL{n:Nat}{g:Nat->Int}(h:∀ i,i<n->f i=g i):cK n f=cK n g:=by simp_all [cK,zRa.1]
theorem oP{n i:Nat}{g:Nat->Int}{v:Int}(h:i<n)(a:∀ j,j<n->g j=if j=i then v else f j):D.set (cK n f) [i] (.int .u32 v)=some (cK n g):=by
 have e:((List.range n).map λi=>D.int .u32 (f i))[i]?=some (.int .u32 (f i)):=by simp[h]
 simp only[cK,D.set,e,zba];congr 2;apply zOb;all_goals grind
theorem vZ(f g:Nat->Int):∀ l:List Nat,D.beqs (l.map λi=>D.int .u32 (f i)) (l.map λi=>D.int .u32 (g i))=l.all λi=>decide (f i=g i)
 | []=>rfl
 | i::l=>by simp only[z4a,D.beqs,D.beq,zMb,vZ f g l];simp
theorem H0(n:Nat)(f g:Nat->Int):D.beq (cK n f) (cK n g)=decide (∀ i,i<n->f i=g i):=by simp only[cK,D.beq,vZ];grind
def kX(a:X<eN)(b:Y<eN):D.beq (LM X) (LM Y)=decide (X=Y):=by
 rw[H0,decide_eq_decide];constructor
 ·exact IH a b
 ·simp_all
theorem iQ:D.st (akx (List.replicate 16 (D.int .u32 0)) [])=LM 0:=by have:LM 0=cK 16 (λ_=>0):=dL λi _=>lw i;rw[this];rfl
def iY:az bf=LM 0:=by have:LM 0=cK 16 (λ_=>0):=dL λi _=>lw i;rw[this];rfl
def VH(i:Nat):2^(32*i)=4294967296^i:=by rw[Nat.pow_mul]
def IG(m:Nat):ff (aT m)=LM m:=by simp_all [ff,LM,cK,jP,bM,VH]
theorem bS(x:Int):R x=.st [.bool false,.bool (decide (x<0)),LM x.natAbs]:=by unfold R;rw[IG]
def Fz(a b c:Nat)(h:a*b=c):((2:Nat)^a)^b=2^c:=by rw[<-Nat.pow_mul,h]
def Jw:(65536:Nat)^32=eN:=(Fz 16 32 (32*16) rfl).trans ((dV 16).symm.trans gT.symm)
def under(X k:Nat):Prop:=X<2^(32*k)
def E9{k:Nat}(hk:k=16)(h:X<eN):under X k:=by subst hk;unfold under;rw[DD];exact h
def F7{k:Nat}(hk:k<=16)(h:X<2^(32*k)):X<eN:=by rw[<-dV] at h;rw[gT];exact zdb h (rh hk)
theorem aD{x:Int}:In x↔x.natAbs<eN:=by unfold In;rw[Jw]
def EA:D:=.st [.bool true,.bool false,LM 0]
def fM:Option Int->D
 | some x=>R x
 | none=>EA
def vV(a:Option Int):Prop:=∀ x,a=some x->In x
def lI(x:Int):Option Int:=if x.natAbs<eN then some x else none
def vB{x:Int}(h:In x):lI x=some x:=by unfold lI;rw[zla (aD.1 h)]
def Du(x:Int):vV (lI x):=λy h=>by
 unfold lI at h;split at h
 ·cases h;exact aD.2 (by assumption)
 ·cases h
theorem vV.some{x:Int}(h:vV (some x)):In x:=h x rfl
def bn{x:Int}(h:In x):vV (some x):=λy e=>by cases e;exact h
abbrev W(n:Int):D:=.int .u64 n
def ND{k:IntKind}(h0:0<=a)(h:a<18446744073709551616):D.conv .u64 (.int k a)=some (W a):=by simp only[D.conv,eD ⟨h0,h⟩]
def xS{b:Int}(h0:0<=a+b)(h:a+b<18446744073709551616):akk .add (W a) (W b)=some (W (a+b)):=by simp only[akk,if_true,eD ⟨h0,h⟩]
def xU(a b:Int):akk .sub (W a) (W b)=some (W (IntKind.u64.wrap (a-b))):=by simp only[akk,if_true]
theorem TP{b:Int}(h0:0<=a*b)(h:a*b<18446744073709551616):akk .mul (W a) (W b)=some (W (a*b)):=by simp only[akk,if_true,eD ⟨h0,h⟩]
def jD(a:Int):D.conv .u32 (W a)=some (.int .u32 (a%4294967296)):=by simp only[D.conv];rfl
def xT(h:0<=a):akk .shr (W a) (.int .u64 32)=some (W (a/4294967296)):=by simp only[akk];rw[zia H,zTc _ H];rfl
def BW:akk .shr (W a) (.int .u64 63)=some (W (a/9223372036854775808)):=by simp only[akk];rw[zia H,zTc _ H];rfl
def fU{i n:Nat}(h:i<n):D.idx (I (i:Int)) n=some i:=aj h
def fL(X k:Nat):D.conv .u64 (.int .u32 (bM X k))=some (W (bM X k)):=ND (cJ X k) (by have:=tF X k;omega)
theorem vk{Z k:Nat}(hk:k<16):D.set (LM (Z%2^(32*k))) [k] (.int .u32 (bM Z k))=some (LM (Z%2^(32*(k+1)))):=
 oP hk λj a=>by rw[mn,mn];all_goals grind
def vm(Z:Nat):LM (Z%2^(32*0))=LM 0:=by simp[zgd]
def Qk(Z k:Nat)(hk:k=16):LM (Z%2^(32*k))=LM Z:=dL λj a=>by rw[mn,zla u0]
def rC(Z:Nat):LM (Z%2^(32*16))=LM Z:=Qk Z 16 rfl
def QF(n:Nat){a:Option Int}(b:vV a):C (n+1) 167 [fM a]=some (.bool true):=by
 rw[Yu]
 delta Kc Q qT qN bq qe qt qz
 cases a with
 | none=> refine J (LM 0) (J (.bool true) (J true ?_));rw[zla rfl,iQ,kX iH iH,zna rfl];rfl
 | some x=>
  have hx:=aD.1 b.some;simp only[fM,bS];refine J (LM x.natAbs) (J (.bool false) (J false ?_));rw[zia H,iQ,kX hx iH]
  refine O aJ (O ac ?_);by_cases h:x.natAbs=0
  ·rw[zna h];have:decide (x<0)=false:=zfa u0
   rw[this];rfl
  ·simp_all
theorem WZ(n:Nat){l:List (Option Int)}(hl:l.length<=1000)(h:∀ a∈l,vV a):C (n+2) 118 [.sl (l.map fM)]=some (.bool (l.all Option.isSome)):=by
 rw[afE]
 delta Oi Q qT qS qX iL iR J0 bF bT jl qO qc qj Z qr qy qz
 refine J (l.map fM) ?_;refine aZ (λi s=>s=[I (i:Int)]/\(l.take i).all Option.isSome=true) l.length 0 (zoa _) ⟨rfl,rfl⟩ (λi hi s e=>?_) (λs e=>?_)
 ·obtain⟨rfl,ht⟩:=e;have f:(l.map fM)[i]?=some (fM l[i]):=by simp[hi]
  have d:akk .lss (I (i:Int)) (D.int .i64 (l.map fM).length)=some (.bool true):=by simp_all [ah,zna,zka]
  have c:D.idx (I (i:Int)) (l.map fM).length=some i:=aj (by rw[zka];exact hi)
  have b:=h l[i] (zGa hi);cases ha:l[i] with
  | none=>
   right;refine⟨(0,[.bool false]),?_,?_⟩
   ·refine O d (J true ?_);rw[zla rfl];refine J (l.map fM) (O c (O f ?_));rw[ha];exact J (.bool true) (J true (J true (J true rfl)))
   ·grind
  | some x=>
   left;refine⟨[I ((i+1:Nat):Int)],?_,rfl,?_⟩
   ·refine O d (J true ?_);rw[zla rfl];refine J (l.map fM) (O c (O f ?_));rw[ha] at b ⊢;refine J (.bool false) (J false (O (z:=false) ?_ (J false ?_)))
    ·rw[zia H];exact O (QF n b) rfl
    ·rw[zia H];exact O (ay (aw (i:=i) u0)) rfl
   ·simp_all [zxa,z5c]
 ·obtain⟨rfl,ht⟩:=e;rw[z8a] at ht;refine⟨(1,[]),?_,?_⟩
  ·have d:akk .lss (I (l.length:Int)) (D.int .i64 (l.map fM).length)=some (.bool false):=by
    simp_all [ah,zfa,zka]
   exact O d (J false rfl)
  ·rw[ht];rfl
def pO(n:Nat){a:Option Int}(c:vV a):C (n+2) 118 [.sl [fM a]]=some (.bool a.isSome):=by
 have:=WZ n (l:=[a]) j2 (λb d=>by rw[zUa.1 d];exact c)
 simpa using this
def we(n:Nat){a b:Option Int}(d:vV a)(e:vV b):C (n+2) 118 [.sl [fM a,fM b]]=some (.bool (a.isSome&&b.isSome)):=by
 have:=WZ n (l:=[a,b]) j2 (λc hc=>by
  simp only[zOa,zkc,or_false] at hc;rcases hc with rfl|rfl
  ·exact d
  ·exact e)
 simp_all
def Ib(n:Nat):C (n+1) 119 []=some EA:=by rw[afF];unfold Oj;rw[iY];rfl
theorem uT(neg:Bool)(m:Nat):decide (sgn neg m<0)=(neg&&!(decide (m=0))):=by grind [sgn]
def BG(neg:Bool)(m:Nat):(sgn neg m).natAbs=m:=by unfold sgn;cases neg<;>simp
def wd(n:Nat)(neg:Bool){m:Nat}(h:m<eN):C (n+1) 116 [.bool neg,LM m]=some (R (sgn neg m)):=by
 rw[afC]
 delta Og qT bF nq qe
 rw[iQ,kX h iH,bS,uT,BG];refine J neg (O (z:=neg&&!(decide (m=0))) ?_ rfl);cases neg<;>rfl
def adU(n:Nat)(b:X<eN)(c:Y<eN):C (n+1) 120 [LM X,LM Y]=some (.tup [LM (X+Y),.bool (decide (X+Y<eN))]):=by
 rw[afH]
 delta Ol P qJ iL iR Jn J0 bq qc qi qj qs qw qy
 rw[iY];refine aZ (λk s=>s=[W (gj X Y k:Nat),I (k:Int),LM ((X+Y)%2^(32*k))]) 16 0 (zoa _) (by rw[uy,vm];rfl) (λk hk s a=>?_) (λs a=>?_)
 ·subst a;left;refine⟨_,?_,rfl⟩;have hc:=ox X Y k;have x0:=cJ X k;have x1:=tF X k;have d:=cJ Y k;have e:=tF Y k;refine O ah (O ac (au (by show(k:Int)<16;omega) ?_))
  refine O (fU hk) (O (bG _ hk) (O (fL X k) (O (fU hk) (O (bG _ hk) (O (fL Y k) ?_)))));refine O (xS u0 u0) (O (xS u0 u0) (O (jD _) (O (fU hk) ?_)))
  rw[<-GT];refine O (vk hk) (O (xT u0) ?_)
  rw[<-ux];exact O (ay (aw (i:=k) u0)) rfl
 ·subst a;refine⟨_,O ah (O ac (aB H rfl)),?_⟩
  rw[rC,Ij b c];by_cases h:X+Y<eN
  ·rw[zla h,zna h];rfl
  ·rw[zia h,zfa h];rfl
def Xc(n:Nat)(a:Int):C (n+1) 194 [.int .u32 a]=some (.bool false):=by rw[agi];simp[OX,D.beq,nq]
theorem ad6(n:Nat)(a b:Int):C (n+2) 168 [.int .u32 a,.int .u32 b]=some (I (bk a b)):=by
 rw[af9]
 delta OO Jn J0 J1 qc Z qt
 refine O (Xc n a) (O (Xc n b) (J false ?_));rw[zia H]
 refine J false ?_;rw[zia H]
 refine O (z:=.bool (decide (a<b))) (by simp only[akk,if_true]) (O ac ?_)
 unfold bk;by_cases h:a<b
 ·simp_all
 ·rw[zia h];refine aB h (O (z:=.bool (decide (a>b))) (by simp only[akk,if_true]) (O ac ?_))
  all_goals grind
theorem QA(n:Nat)(g:X<eN)(h:Y<eN):C (n+3) 121 [LM X,LM Y]=some (I (bk X Y)):=by
 rw[afI]
 delta Om P qJ iL iR Jn J0 J1 nq qc Z qr qt qy
 refine aZ (λt s=>s=[I (15-(t:Int))]/\ld X Y (16-t)) 16 0 (zoa _) ⟨rfl,Iy g h⟩ (λt ht s d=>?_) (λs d=>?_)
 ·obtain⟨rfl,he⟩:=d;obtain⟨k,hk⟩:∃ k,k=15-t:=⟨_,rfl⟩;have a:k<16:=u0
  have f:(15-(t:Int))=(k:Int):=u0
  rw[show 16-t=k+1 by omega] at he
  rw[f];have b:=fU a;have e:akk .geq (I (k:Int)) (D.int .i64 0)=some (.bool true):=by rw[fS,zna u0]
  by_cases hd:bM X k=bM Y k
  ·left;refine⟨[I ((k:Int)-1)],?_,?_,?_⟩
   ·refine O e (J true ?_);rw[zla rfl];refine O b (O (bG _ a) (O b (O (bG _ a) (O (z:=false) ?_ ?_))))
    ·rw[hd];simp[D.beq,D.truth]
    ·rw[zia H];exact O (bW (by simp only[inR];omega)) rfl
   ·grind
   ·rw[show 16-(t+1)=k by omega];exact CY he hd
  ·right;refine⟨(0,[I (bk (bM X k) (bM Y k))]),?_,?_⟩
   ·refine O e (J true ?_);rw[zla rfl];refine O b (O (bG _ a) (O b (O (bG _ a) (O (z:=true) ?_ ?_))))
    ·simp[D.beq,D.truth,hd]
    ·rw[zla rfl];exact O b (O (bG _ a) (O b (O (bG _ a) (O (ad6 n _ _) rfl))))
   ·have c:=D1 he hd;rw[zla rfl];show some (I (bk (bM X k) (bM Y k)))=_;congr 2;unfold Go.Proofs.YtdlipdnepadhjaaGreat.sgn at c;unfold bk;repeat' split at c
    all_goals (repeat' split)<;>omega
 ·obtain⟨rfl,he⟩:=d;refine⟨(1,[]),O fS (O ac (aB H rfl)),?_⟩
  rw[zia H]
  have c:=Jo he;congr 2;unfold Go.Proofs.YtdlipdnepadhjaaGreat.sgn at c;unfold bk;repeat' split at c
  all_goals (repeat' split)<;>omega
def Ui(n:Nat)(c:X<eN)(h:Y<=X):C (n+1) 122 [LM X,LM Y]=some (LM (X-Y)):=by
 rw[afJ]
 delta On P qJ iL iR Jn J0 qc qi qj qs qw qy
 rw[iY];refine aZ (λk s=>s=[W (cu X Y k:Nat),I (k:Int),LM ((X-Y)%2^(32*k))]) 16 0 (zoa _) (by rw[rF,vm];rfl) (λk hk s a=>?_) (λs a=>?_)
 ·subst a;left;refine⟨_,?_,rfl⟩;have hc:=wc X Y k;obtain⟨q1,b⟩:=uY (bM X k) (bM Y k) (cu X Y k) (cJ X k) (pR X k) (cJ Y k) (pR Y k) hc;refine O ah (O ac (au (by show(k:Int)<16;omega) ?_))
  refine O (fU hk) (O (bG _ hk) (O (fL X k) (O (fU hk) (O (bG _ hk) (O (fL Y k) ?_)))));refine O (xU _ _) (O (xU _ _) (O (jD _) (O (fU hk) ?_)));rw[b,<-GV h];refine O (vk hk) (O BW ?_);rw[q1,<-rE];exact O (ay (aw (i:=k) u0)) rfl
 ·subst a;refine⟨_,O ah (O ac (aB H rfl)),?_⟩
  rw[rC];rfl
def EB(n:Nat)(g:X<eN):C (n+1) 127 [LM X]=some (I (du X:Nat)):=by
 rw[afM]
 delta Ot P qC qJ iL iR Jn J0 J1 bq qA qy
 refine aZ (λt s=>s=[I ((16-t:Nat):Int)]/\du X=jy X (16-t)/\under X (16-t)) 16 0 (zoa _) ⟨rfl,rfl,E9 rfl g⟩ (λt ht s e=>?_) (λs e=>?_)
 ·obtain⟨rfl,he,d⟩:=e;obtain⟨k,hk⟩:∃ k,k=15-t:=⟨_,rfl⟩;rw[show 16-t=k+1 by omega] at he d ⊢
  have a:k<16:=u0
  have b:akk .sub (I ((k+1:Nat):Int)) (D.int .i64 1)=some (I (k:Int)):=by rw[show(D.int .i64 1)=I 1 from rfl,bW (by simp only[inR];omega)];congr 2;omega
  have f:akk .gtr (I ((k+1:Nat):Int)) (D.int .i64 0)=some (.bool true):=by rw[cn,zna u0]
  have h:=AJ (show X<2^(32*(k+1)) from d);have c:D.beq (.int .u32 (bM X k)) (.int .u32 0)=decide (X<2^(32*k)):=by simp[D.beq,h]
  by_cases hs:X<2^(32*k)
  ·left;refine⟨[I ((16-(t+1):Nat):Int)],?_,rfl,?_,?_⟩
   ·refine O f (J true (O (z:=true) ?_ (J true ?_)))
    ·rw[zla rfl];refine O b (O (fU a) (O (bG _ a) ?_));rw[c,zna hs];rfl
    ·simp_all
   ·rw[show 16-(t+1)=k by omega,he,jy,zia u0]
   ·rw[show 16-(t+1)=k by omega];exact hs
  ·right;refine⟨(0,[I ((k+1:Nat):Int)]),?_,?_⟩
   ·refine O f (J true (O (z:=false) ?_ (J false rfl)));rw[zla rfl];refine O b (O (fU a) (O (bG _ a) ?_));rw[c,zfa hs];rfl
   ·rw[he,jy,zla u0];rfl
 ·obtain⟨rfl,he,_⟩:=e;refine⟨(0,[I 0]),O cn (O ac (O (z:=false) (aB H rfl) (J false rfl))),?_⟩
  rw[he];rfl
def Cc:Option Int->Option Int->Option Int
 | some x,some y=>lI (x+y)
 | _,_=>none
def my{a b:Option Int}:(a.isSome&&b.isSome)=false\/∃ x y,a=some x/\b=some y:=by cases a<;>cases b<;>simp
def iS{neg:Bool}{m:Nat}{z:Int}(a:sgn neg m=z)(h:m<eN):fM (lI z)=R (sgn neg m):=by
 have:z.natAbs=m:=by rw[<-a,BG]
 unfold lI;rw[zla (by rw[this];exact h),<-a];rfl
theorem c57(n:Nat){a b:Option Int}(f:vV a)(g:vV b):C (n+4) 57 [fM a,fM b]=some (fM (Cc a b)):=by
 rw[u57]
 delta Y0 Q J0 bq qc Z qn qp qt
 refine O (we (n+1) f g) (O aJ (O ac ?_));rcases my (a:=a) (b:=b) with h|⟨x,y,rfl,rfl⟩
 ·rw[h,zla H]
  refine O (Ib (n+2)) ?_;cases a<;>cases b<;>simp at h<;>rfl
 rw[zia j2]
 have hx:=aD.1 f.some;have d:=aD.1 g.some;rw[show fM (some x)=_ from bS x,show fM (some y)=_ from bS y,show Cc (some x) (some y)=lI (x+y) from rfl];refine J (.bool (decide (x<0))) (J (.bool (decide (y<0))) (O (z:=decide (decide (x<0)=decide (y<0))) (by simp[D.beq,D.truth]) ?_))
 by_cases hs:decide (x<0)=decide (y<0)
 ·refine au hs ?_;refine J (LM x.natAbs) (J (LM y.natAbs) (O (adU (n+2) hx d) (J (LM (x.natAbs+y.natAbs)) (J (.bool (decide (x.natAbs+y.natAbs<eN))) (O aJ (O ac ?_))))));have c:(x+y).natAbs=x.natAbs+y.natAbs:=by
   grind
  by_cases ht:x.natAbs+y.natAbs<eN
  ·rw[zna ht,zia H]
   rw[iS (neg:=decide (x<0)) (z:=x+y) (by unfold sgn;rw[decide_eq_decide] at hs;simp only[zea];split<;>omega) ht]
   exact J (.bool (decide (x<0))) (O (wd (n+2) _ ht) rfl)
  ·rw[zfa ht,zla H]
   refine O (Ib (n+2)) ?_;unfold lI;rw[zia (by rw[c];exact ht)];rfl
 ·refine aB hs ?_;refine J (LM x.natAbs) (J (LM y.natAbs) (O (QA n hx d) (O fS (O ac ?_))));have i:¬ (x<0↔y<0):=λe=>hs (by rw[decide_eq_decide];exact e)
  by_cases hge:y.natAbs<=x.natAbs
  ·refine au (by unfold bk;split<;>(try split)<;>omega) ?_
   refine J (.bool (decide (x<0))) (J (LM x.natAbs) (J (LM y.natAbs) (O (Ui (n+2) hx hge) (O (wd (n+2) _ (zLa (Nat.sub_le _ _) hx)) ?_))));rw[iS (neg:=decide (x<0)) (m:=x.natAbs-y.natAbs) (z:=x+y) (by unfold sgn;simp only[zea];split<;>omega) (zLa (Nat.sub_le _ _) hx)]
  ·refine aB (by unfold bk;split<;>(try split)<;>omega) ?_
   refine J (.bool (decide (y<0))) (J (LM y.natAbs) (J (LM x.natAbs) (O (Ui (n+2) d u0) (O (wd (n+2) _ (zLa (Nat.sub_le _ _) d)) ?_))))
   rw[iS (neg:=decide (y<0)) (m:=y.natAbs-x.natAbs) (z:=x+y) (by unfold sgn;simp only[zea];split<;>omega) (zLa (Nat.sub_le _ _) d)]
def Wr(n:Nat){a:Option Int}(b:vV a):C (n+3) 68 [fM a]=some (fM (a.map (λx=>-x))):=by
 rw[u68]
 delta Y2 Q Z qn
 refine O (pO n b) (O aJ (O ac ?_));cases a with
 | none=>rw[zla H];exact O (Ib (n+1)) rfl
 | some x=>
  rw[zia j2]
  have hx:=aD.1 b.some;rw[show fM (some x)=_ from bS x];show _=some (R (-x));refine J (.bool (decide (x<0))) (O aJ (J (LM x.natAbs) (O (wd (n+1) _ hx) ?_)));rw[bS,uT,BG];rw[bS,zHb,show((!(decide (x<0)))&&!(decide (x.natAbs=0)))=decide (-x<0) by rw[zOc];simp;omega]
def lc(n:Nat){x:Int}(hx:In x):C (n+3) 129 [R x]=some (I (sg x)):=by
 rw[afN]
 delta Ou Q qN Jn J0 J1 bq qO Z qt
 have a:=pO n (bn hx);have hx:=aD.1 hx;refine O a (O aJ (J false (O (z:=decide (x=0)) ?_ (O ac ?_))))
 ·rw[zia H,bS]
  refine J (LM x.natAbs) ?_;rw[iQ,kX hx iH,ac]
  simp_all
 ·by_cases h0:x=0
  ·refine au h0 ?_;subst h0;rfl
  ·refine aB h0 (J (.bool (decide (x<0))) (O ac ?_));by_cases h1:x<0
   ·simp_all [FO]
   ·refine aB h1 ?_;rw[gQ u0]
theorem ou(n:Nat){x:Int}(hx:inR x):C (n+2) 54 [I x]=some (R x):=by
 rw[u54]
 delta YZ P J0 qb qc Z qw
 obtain⟨h1,b⟩:=hx;have key:∀ m:Nat,m<18446744073709551616->D.st (akx (List.replicate 16 (D.int .u32 0)) [(0,.int .u32 ((m:Int)%4294967296)),(1,.int .u32 ((m:Int)/4294967296%4294967296))])=LM m:=λm hm=>by
  have e:LM m=cK 16 (λj=>if j=0 then(m:Int)%4294967296 else if j=1 then(m:Int)/4294967296%4294967296 else 0):=dL λj c=>by
   match j with
   | 0=>simp[bM]
   | 1=>simp[bM]
   | j+2=>
    rw[zia u0,zia u0]
    exact gK (n:=2) (by simpa using hm) u0
  rw[e];rfl
 have w1:IntKind.u64.wrap x=if x<0 then x+18446744073709551616 else x:=by have:IntKind.u64.wrap x=x%18446744073709551616:=rfl;omega
 have hc:D.conv .u64 (I x)=some (W (if x<0 then x+18446744073709551616 else x)):=by simp only[D.conv,w1]
 refine O hc ?_;have a:x.natAbs<18446744073709551616:=u0
 refine O (z:=(0,[W (x.natAbs:Nat)])) ?_ ?_
 ·refine O ah (O ac ?_);by_cases h:x<0
  ·refine au h ?_;rw[zla h];have:akz .neg (W (x+18446744073709551616))=some (W (x.natAbs:Nat)):=by
    simp only[akz];have:IntKind.u64.wrap (0-(x+18446744073709551616))=(0-(x+18446744073709551616))%18446744073709551616:=rfl;grind
   simp_all
  ·grind
 ·refine O ah (O (jD _) (O (xT (by show(0:Int)<=(x.natAbs:Nat);omega)) (O (jD _) ?_)))
  have e:=key x.natAbs a;refine O (z:=R x) ?_ rfl;rw[e,wd n _ (BJ a)];congr 1;congr 1;unfold sgn;simp only[zea];split<;>omega
end
section
variable{A B a c:Nat}
def IQ(A B i k n:Nat)(hn:i+k<n):D.set (cK n (Bk A B i k)) [i+k] (.int .u32 (((sD A B i k:Nat)+(bM A i*bM B k+bM (jg A B i) (i+k)))%4294967296))=some (cK n (Bk A B i (k+1))):=by
 refine oP hn λj a=>?_;unfold Bk yp;by_cases h:j=i+k
 ·subst h;rw[zla u0,zla rfl,Mu]
 ·rw[zia h];by_cases h2:j<i+k
  ·rw[zla u0,zla h2,zD,mh _ _ _ _ h2]
  ·omega
def IN{i m n:Nat}(a:B<2^(32*m))(hn:i+m<n):D.set (cK n (Bk A B i m)) [i+m] (.int .u32 (sD A B i m:Nat))=some (cK n (bM (jg A B (i+1)))):=by
 have b:=Hs (A:=A) (i:=i) a;have c:qH A B i m<2^(32*(i+m+1)):=by rw[<-zF a];have:=Hs (A:=A) (i:=i+1) a;rwa [show i+1+m=i+m+1 from by omega] at this
 refine oP hn λj d=>?_;rw[zF a];unfold Bk yp;by_cases h:j=i+m
 ·subst h;rw[zla rfl,fA];have h1:=Bi A B i m;rw[zcb b,zTb] at h1;rw[<-h1,z0a (zLa (Bj A B i m) u0)]
 ·rw[zia h];by_cases h2:j<i+m
  ·omega
  ·rw[zia h2,gK c u0,gK b u0]
theorem xQ{n:Nat}(f:Nat->Int)(h:a+c<=n):D.st (List.take c (List.drop a ((List.range n).map λi=>D.int .u32 (f i))))=cK c (λj=>f (a+j)):=by unfold cK;congr 1;apply zOb;all_goals grind
def Ep:az Qi=cK 32 (bM 0):=by have:cK 32 (bM 0)=cK 32 (λ_=>0):=dL λi _=>lw i;rw[this];rfl
def RF{a b:Int}(d:0<=a)(e:a<=4294967295)(c:0<=b)(f:b<=4294967295):0<=a*b/\a*b<=18446744065119617025:=by refine⟨zWb d c,?_⟩;have h1:=Int.mul_le_mul_of_nonneg_right e c;omega
def sE:Option Int->Option Int->Option Int
 | some x,some y=>lI (x*y)
 | _,_=>none
def c61(n:Nat){a b:Option Int}(w:vV a)(A:vV b):C (n+3) 61 [fM a,fM b]=some (fM (sE a b)):=by
 rw[u61]
 delta Y1 Q P qC qN qJ qZ iL iR Jn
 refine O (we n w A) (O aJ (O ac ?_));rcases my (a:=a) (b:=b) with h|⟨x,y,rfl,rfl⟩
 ·rw[h,zla H]
  refine O (Ib (n+1)) ?_;cases a<;>cases b<;>simp at h<;>rfl
 rw[zia j2]
 have hx:=aD.1 w.some;have v:=aD.1 A.some;rw[show fM (some x)=_ from bS x,show fM (some y)=_ from bS y,show sE (some x) (some y)=lI (x*y) from rfl];generalize hX:x.natAbs=X at *;generalize hY:y.natAbs=Y at *;have B:=lH X;have F:=lH Y;have s1:=fE hx;have s2:=fE v;refine J (LM X) (O (EB (n+1) hx) (J (LM Y) (O (EB (n+1) v) ?_)));generalize du X=p at *;generalize du Y=m at *;rw[Ep];refine aZ (λi s=>s=[I (i:Int),cK 32 (bM (jg X Y i))]) p 0 (zoa _) (by rw[IS];rfl) (λi hi s g=>?_) (λs g=>?_)
 ·subst g;left;refine⟨[I ((i+1:Nat):Int),cK 32 (bM (jg X Y (i+1)))],?_,rfl⟩;refine O ah (O ac (au (by show(i:Int)<(p:Int);omega) ?_))
  refine cH (λk s=>s=[W (sD X Y i k:Nat),I (k:Int),cK 32 (Bk X Y i k)]) m 0 (zoa _) (by rw[zz,IR];rfl) (λk hk s g=>?_) (λs g=>?_)
  ·subst g;left;refine⟨_,?_,rfl⟩;have d:i<16:=u0
   have f:k<16:=u0
   have c:i+k<32:=u0
   have a0:=cJ X i;have a1:=pR X i;have b0:=cJ Y k;have b1:=pR Y k;have z0:=cJ (jg X Y i) (i+k);have E:=pR (jg X Y i) (i+k);have hc:=Bj X Y i k;obtain⟨q0,q1⟩:=RF a0 a1 b0 b1;refine O ah (O ac (au (by show(k:Int)<(m:Int);omega) ?_))
   refine O (fU d) (O (bG _ d) (O (fL X i) (O (fU f) (O (bG _ f) (O (fL Y k) ?_)))));refine O (TP q0 u0) (O (aA (a:=i) (b:=k) u0) (O (aj c) (O (bG _ c) ?_)))
   rw[IP];refine O (fL _ _) (O (xS u0 u0) (O (xS u0 u0) (O (aA (a:=i) (b:=k) u0) (O (jD _) (O (aj c) (O (IQ X Y i k 32 c) (O (xT u0) ?_)))))))
   rw[<-IM];exact O (ay (aw (i:=k) u0)) rfl
  ·subst g;refine⟨_,O ah (O ac (aB (by show ¬ ((m:Int)<(m:Int));omega) rfl)),?_⟩
   have o:i+m<32:=u0
   have hc:=Bj X Y i m;refine O (aA (a:=i) (b:=m) u0) (O (jD _) (O (aj o) ?_))
   rw[Int.emod_eq_of_lt u0 u0]
   exact O (IN s2 o) (O (ay (aw (i:=i) u0)) rfl)
 ·subst g;refine⟨(0,[cK 32 (bM (X*Y))]),?_,?_⟩
  ·rw[Mv s1];exact O ah (O ac (aB (by show ¬ ((p:Int)<(p:Int));omega) rfl))
  have q:=iH;have hq:=zdd (Nat.mul_lt_mul'' hx v);have t:D.st (List.take 16 (List.drop 16 ((List.range 32).map λi=>D.int .u32 (bM (X*Y) i))))=LM (X*Y/eN):=by
   rw[xQ _ u0]
   exact dL λj _=>by rw[gT,CB]
  have u:D.st (List.take 16 (List.drop 0 ((List.range 32).map λi=>D.int .u32 (bM (X*Y) i))))=LM (X*Y):=by
   rw[xQ _ u0]
   simp_all
  show(if decide (16+16<=((List.range 32).map λi=>D.int .u32 (bM (X*Y) i)).length)=true then _ else none)=_
  rw[zla j2,t,iQ,kX hq q]
  have l:(x*y).natAbs=X*Y:=by rw[zwa,hX,hY]
  by_cases ht:X*Y<eN
  ·rw[zcb ht,zna rfl];refine J false ?_;rw[zia H]
   refine J (.bool (decide (x<0))) (J (.bool (decide (y<0))) ?_);show(if decide (0+16<=((List.range 32).map λi=>D.int .u32 (bM (X*Y) i)).length)=true then _ else none)=_
   rw[zla j2,u]
   have r:=Sa x y;rw[hX,hY] at r;rw[iS r ht];refine O (z:=R (sgn (!(decide (decide (x<0)=decide (y<0)))) (X*Y))) ?_ rfl;rw[<-wd (n+1) _ ht];congr 4
  ·rw[zfa (λe=>ht (by have:=Nat.div_eq_zero_iff.1 e;omega))]
   refine J true ?_;rw[zla rfl];refine O (Ib (n+1)) ?_;unfold lI;rw[l,zia ht];rfl
end
section
variable{Q X a:Nat}{c:D}
def kz(x:Nat):Nat:=if x=0 then 0 else Nat.log2 x+1
def Qy{x L:Nat}(h1:2^L<=x)(c:x<2^(L+1)):kz x=L+1:=by
 have hx:x≠0:=λe=>u0
 unfold kz;rw[zia hx];have a:=(Nat.le_log2 hx).2 h1;have b:=(Nat.log2_lt hx).2 c;omega
def il{x:Nat}(hx:x≠0):∃ L,kz x=L+1/\2^L<=x/\x<2^(L+1):=by refine⟨Nat.log2 x,by unfold kz;rw[zia hx],(Nat.le_log2 hx).1 (zja _),(Nat.log2_lt hx).1 (zXc _)⟩
theorem v7{x m:Nat}(h:2^m<=x):kz x=m+kz (x/2^m):=by
 have hq:x/2^m≠0:=λe=>by have:=Nat.div_eq_zero_iff.1 e;grind
 obtain⟨L,h1,a,b⟩:=il hq;rw[h1,<-zLb];have hp:=zCa m;refine Qy (L:=m+L) ?_ ?_
 ·rw[z5a,zTa];exact zva (zJa _ a) (z9b _ _)
 ·rw[show m+L+1=m+(L+1) by omega,z5a,zTa]
  exact(z2a hp).1 b
def BO:D:=D.str ((sY (Ln Tryz.f56)).getD ByteArray.empty)
def Np(i:Nat):Bool:=match aky BO (.int .u8 i) with
 | some (.int .u8 v)=>decide (v=(kz i:Nat))
 | _=>false
def V3:(List.range 256).all Np=true:=B
theorem V2{i:Nat}(h:i<256):aky BO (.int .u8 i)=some (.int .u8 (kz i:Nat)):=by have:=zya.1 V3 i (zRa.2 h);unfold Np at this;all_goals grind
def TM{m:Nat}(hc:c=.int .u64 (m:Nat))(hm:m<=32):akk .shr (U a) c=some (U (a/2^m)):=by
 subst hc;simp only[akk];rw[zia u0,show min ((m:Int)).toNat (IntKind.bits .u32)=m from by simp[IntKind.bits];omega,zTc _ (by exact zWa (Int.pow_pos H))]
 congr 2
theorem W9(n:Nat){x:Nat}(hx:x<4294967296):C (n+1) 165 [U x]=some (I (kz x:Nat)):=by
 rw[af8]
 delta ON P Jn J0 qb qc qw
 have geq:∀ (a b:Nat) {c:D},c=.int .u32 (b:Nat)->akk .geq (U a) c=some (.bool (decide (b<=a))):=λa b c hc=>by simp_all [akk,decide_eq_decide]
 have last:∀ (y m:Nat),y<65536->m<=16->(Option.bind ((akk .geq (U y) (D.int .u32 256)).bind λo=>
   (D.truth o).bind λj=>
   if j then((akk .shr (U y) (D.int .u64 8)).bind λp=>
   (akk .add (I (m:Nat)) (D.int .i64 8)).bind λq=>
   some ((0:Nat),[p,q])) else(some (0,[U y,I (m:Nat)]))) λ(i:Nat×List D)=>
   (D.conv .u8 (Y i.2 0)).bind λd=>
   (aky BO d).bind λe=>
   (D.conv .i64 e).bind λf=>
   (akk .add (Y i.2 1) f).bind λg=>
   some g)=some (I ((m+kz y:Nat):Int)):=λy m t hm=>by
  have fin:∀ (z m:Nat),z<256->m<=24->((D.conv .u8 (U z)).bind λd=>
    (aky BO d).bind λe=>
    (D.conv .i64 e).bind λf=>
    (akk .add (I (m:Nat)) f).bind λg=>some g)=some (I ((m+kz z:Nat):Int)):=λz m l hm=>by
   have s:kz z<=8:=by
    by_cases h0:z=0
    ·subst h0;decide
    ·obtain⟨L,h1,r,_⟩:=il h0;rcases zua L 8 with h|h
     ·omega
     ·have:=zqa (show 0<2 by decide) h
      omega
   have k:D.conv .u8 (U z)=some (.int .u8 (z:Nat)):=by
    simp only[D.conv]
    have:IntKind.u8.wrap (z:Int)=(z:Int)%256:=rfl;grind
   refine O k (O (V2 l) (O (z:=I (kz z:Nat)) ?_ (O (aA u0) rfl)))
   grind [D.conv,iX,inR]
  by_cases h:256<=y
  ·refine O (z:=(0,[U (y/256),I ((m+8:Nat):Int)])) ?_ ?_
   ·refine O (geq y 256 rfl) (O ac (au h ?_));exact O (TM (m:=8) rfl H) (O (aA (b:=8) u0) rfl)
   ·have:=fin (y/256) (m+8) u0 u0
    rw[v7 (m:=8) u0,<-zLb]
    exact this
  ·refine O (z:=(0,[U y,I (m:Nat)])) (O (geq y 256 rfl) (O ac (aB h rfl))) ?_;grind
 by_cases h:65536<=x
 ·refine O (z:=(0,[U (x/65536),I ((16:Nat):Int)])) ?_ ?_
  ·refine O (geq x 65536 rfl) (O ac (au h ?_));exact O (TM (m:=16) rfl H) rfl
  ·rw[v7 (m:=16) u0]
   exact last (x/65536) 16 u0 H
 ·refine O (z:=(0,[U x,I ((0:Nat):Int)])) (O (geq x 65536 rfl) (O ac (aB h rfl))) ?_;have:=last x 0 u0 H
  rw[zbb] at this;exact this
def aed(n:Nat){x:Nat}(hx:x<4294967296):C (n+2) 196 [U x]=some (I (32-(kz x:Nat))):=by
 rw[agk]
 delta OZ P Jn Z
 have b:kz x<=32:=by
  by_cases h0:x=0
  ·subst h0;decide
  ·obtain⟨L,h1,a,_⟩:=il h0;rcases zua L 32 with h|h
   ·omega
   ·have:=zqa (show 0<2 by decide) h
    omega
 exact O (W9 n hx) (O (bW (by simp only[inR];omega)) rfl)
theorem YJ{b:Nat}(c:a<18446744073709551616)(d:b<18446744073709551616):akk .or (W (a:Nat)) (W (b:Nat))=some (W ((a ||| b:Nat):Int)):=by
 simp only[akk,if_true,akl];have e:(BitVec.ofInt (IntKind.bits .u64) (a:Int) ||| BitVec.ofInt (IntKind.bits .u64) (b:Int)).toNat=a ||| b:=by
  have h1:(BitVec.ofInt 64 (a:Int)).toNat=a:=by simp[BitVec.toNat_ofInt];omega
  have f:(BitVec.ofInt 64 (b:Int)).toNat=b:=by simp[BitVec.toNat_ofInt];omega
  show(BitVec.ofInt 64 (a:Int) ||| BitVec.ofInt 64 (b:Int)).toNat=a ||| b;grind
 rw[e];have hl:a ||| b<2^64:=Nat.or_lt_two_pow c d;rw[eD ⟨u0,u0⟩]
def kq{b m:Nat}(c:b<2^m)(h:a*2^m+b<18446744073709551616):akk .or (W ((a*2^m:Nat):Int)) (W (b:Nat))=some (W ((a*2^m+b:Nat):Int)):=by rw[YJ u0 u0,zTa,<-Nat.two_pow_add_eq_or_of_lt c]
def JF{b m:Nat}(c:b<2^m)(h:a*2^m+b<18446744073709551616):akk .or (W (b:Nat)) (W ((a*2^m:Nat):Int))=some (W ((a*2^m+b:Nat):Int)):=by rw[YJ u0 u0,Nat.or_comm,zTa,<-Nat.two_pow_add_eq_or_of_lt c]
def uW{m:Nat}{k:IntKind}(hc:c=.int k (m:Nat))(hm:m<=64)(h:a*2^m<18446744073709551616):akk .shl (W (a:Nat)) c=some (W ((a*2^m:Nat):Int)):=by
 subst hc;simp only[akk];rw[zia u0,show min ((m:Int)).toNat (IntKind.bits .u64)=m from by simp[IntKind.bits];omega]
 have e:(a:Int)*2^m=((a*2^m:Nat):Int):=by simp_all
 rw[e,eD ⟨u0,u0⟩]
def Wg{m:Nat}{k:IntKind}(hc:c=.int k (m:Nat))(hm:m<=64):akk .shr (W (a:Nat)) c=some (W ((a/2^m:Nat):Int)):=by
 subst hc;simp only[akk];rw[zia u0,show min ((m:Int)).toNat (IntKind.bits .u64)=m from by simp[IntKind.bits];omega,zTc _ (by exact zWa (Int.pow_pos H))]
 congr 2
def TQ{b:Nat}(d:b≠0)(c:a<18446744073709551616):akk .quo (W (a:Nat)) (W (b:Nat))=some (W ((a/b:Nat):Int)):=by simp only[akk,if_true];rw[zia u0,<-zGd,eD ⟨Int.natCast_nonneg _,Int.ofNat_lt.2 (zLa (zfc a b) c)⟩]
theorem NF{b:Nat}(c:b≠0):akk .rem (W (a:Nat)) (W (b:Nat))=some (W ((a%b:Nat):Int)):=by simp only[akk,if_true];grind
def NC{b:Nat}(h:a+b<18446744073709551616):akk .add (W (a:Nat)) (W (b:Nat))=some (W ((a+b:Nat):Int)):=by rw[xS u0 u0,zid]
theorem NE{b:Nat}(h:a*b<18446744073709551616):akk .mul (W (a:Nat)) (W (b:Nat))=some (W ((a*b:Nat):Int)):=by grind [TP,Int.natCast_mul]
def NG{b:Nat}(h:b<=a)(c:a<18446744073709551616):akk .sub (W (a:Nat)) (W (b:Nat))=some (W ((a-b:Nat):Int)):=by rw[xU,eD ⟨u0,u0⟩];congr 2;omega
def BV(a:Nat):D.conv .u32 (W (a:Nat))=some (.int .u32 ((a%4294967296:Nat):Int)):=by rw[jD];rfl
def oX(X k:Nat):D.conv .u64 (.int .u32 (bM X k))=some (W (dg X k:Nat)):=fL X k
theorem Xd(n:Nat){s:Nat}(f:X<eN)(h:s<=31):C (n+1) 197 [LM X,I (s:Nat)]=some (.tup [LM (X*2^s),.int .u32 ((X*2^s/eN:Nat):Int)]):=by
 rw[agl]
 delta O0 P qJ iL iR Jn J0 qc qi qj qs qw qy
 rw[iY];have hp:=zCa s;have g:2^s<=2^31:=zqa H h
 refine aZ (λk s'=>s'=[W (jf X (2^s) k:Nat),I (k:Int),LM (X*2^s%2^(32*k))]) 16 0 (zoa _) (by rw[zC,vm];rfl) (λk hk s' c=>?_) (λs' c=>?_)
 ·subst c;left;refine⟨_,?_,rfl⟩;have hc:=Bl X k hp;have j:=gt X k;have hm:dg X k*2^s<=4294967295*2^s:=zJa _ u0
  have a:=Dn X (2^s) k;have b:=zA X (2^s) k;rw[tD X k] at a b;have d:((jf X (2^s) k:Nat):Int)+(dg X k:Nat)*((2^s:Nat):Int)=((dg X k*2^s+jf X (2^s) k:Nat):Int):=by rw[zid,z1a];omega
  rw[d] at a b;refine O ah (O ac (au (by show(k:Int)<16;omega) ?_))
  refine O (fU hk) (O (bG _ hk) (O (oX X k) (O (uW rfl u0 u0) (O (JF hc u0) (O (jD _) (O (fU hk) ?_))))))
  rw[<-a];refine O (vk hk) (O (xT u0) ?_)
  rw[<-b];exact O (ay (aw (i:=k) u0)) rfl
 ·subst c;refine⟨_,O ah (O ac (aB H rfl)),?_⟩
  have hc:=Bl X 16 hp;have e:=Mt (D:=2^s) f;rw[rC,e];rw[e] at hc;refine O (BV _) ?_;grind
def aee(n:Nat){s:Nat}(d:X<eN)(l:s<=31):C (n+1) 201 [LM X,I (s:Nat)]=some (LM (X/2^s)):=by
 rw[agm]
 delta O1 P qJ iL iR Jn J0 qb qc qi qj qs qw qy
 rw[iY];refine aZ (λk s'=>s'=[I (k:Int),LM (X/2^s%2^(32*k))]) 16 0 (zoa _) (by rw[vm];rfl) (λk hk s' c=>?_) (λs' c=>?_)
 ·subst c;left;refine⟨_,?_,rfl⟩;have j:=gt X k;have g:=gt X (k+1);refine O ah (O ac (au (by show(k:Int)<16;omega) ?_))
  refine O (z:=(0,[W (dg X (k+1):Nat)])) ?_ ?_
  ·refine O (aA (a:=k) (b:=1) u0) (O ah (O ac ?_))
   by_cases h:k+1<16
   ·refine au (by show((k+1:Nat):Int)<16;omega) ?_
    exact O (aA (a:=k) (b:=1) u0) (O (fU h) (O (bG _ h) (O (oX X (k+1)) rfl)))
   ·refine aB (by show ¬ ((k+1:Nat):Int)<16;omega) ?_
    have o:bM X (k+1)=0:=gK (n:=16) (by rw[gT,dV] at d;exact d) u0
    simp_all [tD]
  refine O (uW (m:=32) rfl H u0) (O (fU hk) (O (bG _ hk) (O (oX X k) (O (kq (m:=32) u0 u0) (O (Wg rfl u0) (O (jD _) (O (fU hk) ?_)))))))
  have e:=Lx X s k u0
  rw[tD X (k+1),tD X k] at e;have f:((dg X (k+1):Nat):Int)*4294967296+(dg X k:Nat)=((dg X (k+1)*2^32+dg X k:Nat):Int):=u0
  rw[f,<-Int.natCast_ediv] at e;rw[<-e];exact O (vk hk) (O (ay (aw (i:=k) u0)) rfl)
 ·subst c;refine⟨_,O ah (O ac (aB H rfl)),?_⟩
  rw[rC];rfl
theorem Gn{k:Nat}(hk:k<16):D.set (LM (Q/2^(32*(k+1))*2^(32*(k+1)))) [k] (.int .u32 (bM Q k))=some (LM (Q/2^(32*k)*2^(32*k))):=
 oP hk λj a=>by rw[zr,zr];all_goals grind
def Qj(h:Q<eN):LM (Q/2^(32*16)*2^(32*16))=LM 0:=by rw[DD,zcb h,zwd]
theorem aec(n:Nat){b:Nat}(h:X<eN)(d:0<b)(g:b<=4294967295):C (n+1) 195 [LM X,U b]=some (.tup [LM (X/b),U (X%b)]):=by
 rw[agj]
 delta OY P qJ iL iR Jn J0 J1 qc qi qs qw qy
 rw[iY];have hq:X/b<eN:=zLa (zfc _ _) h;have e:jk X b 16=0:=by unfold jk;rw[DD,zcb h,zxd]
 have c:D.conv .u64 (U b)=some (W (b:Nat)):=ND u0 u0
 refine aZ (λt s'=>s'=[W (jk X b (16-t):Nat),I (15-(t:Int)),LM (X/b/2^(32*(16-t))*2^(32*(16-t)))]) 16 0 (zoa _) (by rw[Nat.sub_zero,e,Qj hq];rfl) (λt ht s' f=>?_) (λs' f=>?_)
 ·subst f;left;obtain⟨k,hk⟩:∃ k,k=15-t:=⟨_,rfl⟩;have a:k<16:=u0
  rw[show 16-t=k+1 by omega,show(15-(t:Int))=(k:Int) by omega,show 16-(t+1)=k by omega,show(15-((t+1:Nat):Int))=(k:Int)-1 by omega]
  refine⟨_,?_,rfl⟩;have q:=DN X (k+1) d;have p:=gt X k;have i:=Jp X k d g;have j:=FG X b k;refine O fS (O ac (au (by show(k:Int) ≥ 0;omega) ?_))
  refine O (uW (m:=32) rfl H u0) (O (fU a) (O (bG _ a) (O (oX X k) (O (kq (m:=32) u0 u0) ?_))))
  have hT:jk X b (k+1)*2^32+dg X k<18446744073709551616:=u0
  refine O c (O (TQ u0 hT) (O (BV _) (O (fU a) ?_)))
  have l:(((jk X b (k+1)*2^32+dg X k)/b%4294967296:Nat):Int)=bM (X/b) k:=by rw[fA,i];congr 1;refine z0a ?_;rw[z2a d];omega
  rw[l];refine O (Gn a) (O c (O (NF u0) (O (bW (by simp only[inR];omega)) ?_)))
  have o:(jk X b (k+1)*2^32+dg X k)%b=jk X b k:=j.symm;rw[o]
 ·subst f;refine⟨_,O fS (O ac (aB H rfl)),?_⟩
  have hm:X%b<b:=zVa _ d;rw[show 16-16=0 from rfl,Jg,zzd,z1c,zhd,Nat.mul_one];refine O (BV _) ?_;grind
end
section
variable{A B Z a j:Nat}{c:D}
def Ec{V D i:Nat}(a:D<=4294967295):jf V D i<=4294967295/\D*dg V i<=18446744065119617025:=by
 refine⟨?_,zFa a (GS V i)⟩;rcases zKb D with h|h
 ·simp_all [jf]
 ·have:=Bl V i h;omega
def Ad{V D n:Nat}(b:V<2^(32*n))(a:D<=4294967295):V*D<2^(32*(n+1)):=by
 rw[eM];have h1:V*D<=V*4294967296:=z6a _ u0
 omega
def Ed{U V D n j k:Nat}(hk:k<=n)(c:V<2^(32*n))(b:D<=4294967295) :
  IntKind.u64.wrap (IntKind.u64.wrap (bM U (j+k)-bM (V*D) k)-(cu (U/2^(32*j)) (V*D) k:Nat))/9223372036854775808=(cu (U/2^(32*j)) (V*D) (k+1):Nat) ∧
  IntKind.u64.wrap (IntKind.u64.wrap (bM U (j+k)-bM (V*D) k)-(cu (U/2^(32*j)) (V*D) k:Nat))%4294967296=bM (og (U/2^(32*j)) (V*D) (n+1)) k:=by
 have a:=uY (bM U (j+k)) (bM (V*D) k) (cu (U/2^(32*j)) (V*D) k) (cJ _ _) (pR _ _) (cJ _ _) (pR _ _) (wc _ _ _);rw[a.1,a.2,<-ml,rE,JI u0 (zIc (Ad c b))]
 exact⟨rfl,rfl⟩
def Nq{V D n:Nat}(b:V<2^(32*n))(a:D<=4294967295):((jf V D n:Nat):Int)=bM (V*D) n:=by
 have h:=(Ec (V:=V) (i:=n) a).1;have e:jf V D n=V*D/2^(32*n):=by unfold jf;rw[z0a b]
 rw[fA,<-e,z0a u0]
def Ra{U j m:Nat}(a:U<2^(32*(j+m))):U/2^(32*j)<2^(32*m):=by rw[z2a (zCa _),<-z5a,show 32*m+32*j=32*(j+m) from by omega];exact a
def oM(U Z j i n:Nat)(hn:j+i<n):D.set (cK n (yy U Z j i)) [j+i] (.int .u32 (bM Z i))=some (cK n (yy U Z j (i+1))):=
 oP hn λt ht=>by
  unfold yy yp;by_cases h:t=j+i
  ·subst h;rw[zla u0,zla rfl,Ft]
  ·omega
def z8{U m n:Nat}(a:U<2^(32*(j+m)))(b:Z<2^(32*m)):cK n (yy U Z j m)=cK n (bM (fY U Z j)):=
 dL λt _=>by
  unfold yy yp;split
  ·rfl
  ·rw[gK a u0,gK (DA b) u0]
def Rv{n L:Nat}(c:B<2^(32*(n+1)))(b:dg B n<2^(L+1))(d:L+1<=32):B*2^(32-(L+1))<2^(32*(n+1)):=by
 have h1:B/2^(32*n)=dg B n:=lz c;have e:B<(dg B n+1)*2^(32*n):=by rw[<-z2a (zCa _)];omega
 have f:(dg B n+1)*2^(32*n)<=2^(L+1)*2^(32*n):=zJa _ b;have a:B*2^(32-(L+1))<2^(L+1)*2^(32*n)*2^(32-(L+1)):=z3b u0 (zCa _)
 rw[<-z5a,<-z5a,show L+1+32*n+(32-(L+1))=32*(n+1) from by omega] at a
 exact a
def Mg{n m:Nat}(hl:2^(32*(n-1))<=B)(a:B<=A)(b:A<2^(32*m)):n<=m:=by
 rcases zua m n with h|h
 ·have:2^(32*m)<=2^(32*(n-1)):=zqa u0 u0
  omega
 ·exact h
def I8{n m:Nat}(hn:1<=n)(a:n<=m)(hl:2^(32*(n-1))<=B)(b:A<2^(32*m)):A/B<2^(32*(m-n+1)):=by
 apply zdd;have h:2^(32*(n-1))*2^(32*(m-n+1))<=B*2^(32*(m-n+1)):=zJa _ hl;rw[<-z5a,show 32*(n-1)+32*(m-n+1)=32*m from by omega] at h
 omega
def MG{s:Nat}(d:A<eN)(c:s<=31):((A*2^s/eN:Nat):Int)=bM (A*2^s) 16:=by
 have b:=zqa (n:=2) u0 c
 have h1:A*2^s/eN<4294967296:=by rw[z2a iH,zTa 4294967296];have a:A*2^s<=A*2147483648:=z6a _ b;omega
 have a:=CB (A*2^s) 16 0;rw[<-gT,zTb] at a;rw[<-a,fA,zzd,z1c,zhd,z0a h1]
def TO{b:Nat}(hc:c=.int .u64 (b:Nat)):akk .lss (W (a:Nat)) c=some (.bool (decide (a<b))):=by simp_all [akk,decide_eq_decide]
def YH{b:Nat}(hc:c=.int .u64 (b:Nat)):akk .geq (W (a:Nat)) c=some (.bool (decide (b<=a))):=by simp_all [akk,decide_eq_decide]
def YI{b:Nat}:akk .gtr (W (a:Nat)) (W (b:Nat))=some (.bool (decide (b<a))):=by simp_all [akk,decide_eq_decide]
def su{α:Type}{body:Bd}{k:Nat×List D->Option α}{y:α}(J:Nat->List D->Prop) :
  ∀ (m:Nat) (s:List D),J m s->(∀ m s,J m s->(∃ a s',a<m/\body s=some (.inl s')/\J a s')\/∃ r,body s=some (.inr r)/\k r=some y)->(F body s).bind k=some y:=by
 intro m
 induction m using Nat.strongRecOn with
 | _ m ih=>
  intro s e c;rcases c m s e with⟨a,s',h1,b,d⟩|⟨r,h1,b⟩
  ·exact aL b (ih a h1 s' d c)
  ·exact dS h1 b
theorem nv{b:Nat}(hc:c=I (b:Nat))(h:b<=a)(d:a<=1000000):akk .sub (I (a:Nat)) c=some (I ((a-b:Nat):Int)):=by grind [bW,inR]
theorem YG(N:Nat):D.set (D.st (List.take 0 (List.replicate 17 (D.int .u32 0))++(List.take 16 (List.drop 0 ((List.range 16).map λi=>D.int .u32 (bM N i)))++List.drop 16 (List.replicate 17 (D.int .u32 0))))) [16] (.int .u32 (bM N 16))=some (cK 17 (bM N)):=by
 have e:D.st (List.take 0 (List.replicate 17 (D.int .u32 0))++(List.take 16 (List.drop 0 ((List.range 16).map λi=>D.int .u32 (bM N i)))++List.drop 16 (List.replicate 17 (D.int .u32 0))))=cK 17 (λj=>if j<16 then bM N j else 0):=by rfl
 rw[e];refine oP H λj a=>?_
 all_goals grind
theorem Uk(n:Nat)(d7:A<eN)(Y:B<eN)(ad:0<B):C (n+4) 170 [LM A,LM B]=some (.tup [LM (A/B),LM (A%B)]):=by
 rw[agb]
 delta OQ Q P qC qT qJ qZ iL iR Jn
 refine O (EB (n+2) Y) (O (EB (n+2) d7) (O (QA n d7 Y) (O ah (O ac ?_))));by_cases hlt:A<B
 ·grind [bk,iQ,Nat.div_eq_of_lt,Nat.mod_eq_of_lt]
 refine aB (by unfold bk;split<;>(try split)<;>omega) ?_
 have bY:du B≠0:=λe=>by have:=fE Y;rw[e] at this;simp at this;omega
 have HBh:=fE Y;have HBl:=qK bY;have HAh:=fE d7;have a3:=lH B;have a2:=lH A;refine O (z:=decide (du B=1)) (by show D.truth (D.bool (D.beq (I (du B:Int)) (I ((1:Nat):Int))))=_;rw[cZ];rfl) ?_
 by_cases h1:du B=1
 ·refine au h1 ?_;rw[h1] at HBh;have aI:B<4294967296:=HBh;have hd:bM B 0=(B:Int):=by unfold bM;simp;omega
  have hm:A%B<4294967296:=zmc (zVa _ ad) aI;refine O (bG _ H) ?_
  rw[hd];refine O (aec (n+2) d7 ad u0) (J (LM (A/B)) (J (U (A%B)) ?_))
  have e:D.st (akx (List.replicate 16 (D.int .u32 0)) [(0,U (A%B))])=LM (A%B):=by
   have e2:LM (A%B)=cK 16 (λj=>if j=0 then((A%B:Nat):Int) else 0):=dL λj hj=>by
    by_cases h0:j=0
    ·subst h0;rw[zla rfl];unfold bM;rw[zzd,z1c,zhd,z0a hm]
    ·rw[zia h0];exact gK (n:=1) hm u0
   rw[e2];rfl
  rw[e]
 refine aB h1 ?_;have a7:B<=A:=u0
 have d6:=Mg HBl a7 HAh;have HQ:=I8 u0 d6 HBl HAh
 obtain⟨e,he⟩:∃ e,du B=e+2:=⟨du B-2,u0⟩
 obtain⟨m,hm⟩:∃ m,du A=m:=⟨_,rfl⟩;rw[he] at HBh HBl d6 HQ a3 ⊢;rw[hm] at HAh d6 HQ a2 ⊢;rw[show e+2-1=e+1 by omega] at HBl
 have hz:dg B (e+1)≠0:=λh0=>by
  have h:=lz HBh;have:=(zec (zCa (32*(e+1)))).2 (show 1*2^(32*(e+1))<=B by omega)
  omega
 obtain⟨L,hL,db,a8⟩:=il hz;have bx:=gt B (e+1);have a9:L+1<=32:=by
  rcases zua L 32 with h|h
  ·omega
  ·have:=zqa (show 0<2 by decide) h
   omega
 obtain⟨s,hs⟩:∃ s,s=32-(L+1):=⟨_,rfl⟩;have r:s<=31:=u0
 have f:=Rv HBh a8 a9;rw[<-hs] at f;have hp:=zCa s;obtain⟨V,hV⟩:∃ V,V=B*2^s:=⟨_,rfl⟩;obtain⟨N,hN⟩:∃ N,N=A*2^s:=⟨_,rfl⟩;have ba:N/V=A/B:=by rw[hV,hN,Nat.mul_div_mul_right _ _ hp]
 have bh:N%V=A%B*2^s:=by rw[hV,hN,Nat.mul_mod_mul_right]
 have q:0<V:=by simp_all
 rw[<-hV] at f;replace f:V<2^(32*(e+2)):=f;have bp:2^(32*(e+1))<=V:=by rw[hV];exact zva HBl (zBc _ hp)
 have d0:V<eN:=F7 u0 f
 refine O (nv (b:=1) rfl u0 u0) (O (fU u0) (O (bG _ u0) ?_))
 rw[show e+2-1=e+1 by omega,tD B (e+1)]
 refine O (aed (n+1) bx) ?_;rw[hL,show(32-((L+1:Nat):Int))=(s:Nat) by omega]
 refine O (Xd (n+2) Y r) (J (LM (B*2^s)) (J (.int .u32 ((B*2^s/eN:Nat):Int)) ?_));refine O (Xd (n+2) d7 r) (J (LM (A*2^s)) (J (.int .u32 ((A*2^s/eN:Nat):Int)) ?_));rw[MG d7 r,<-hV,<-hN];refine J (List.replicate 17 (D.int .u32 0)) (J ((List.range 16).map λi=>D.int .u32 (bM N i)) (O (YG N) (O (nv (b:=e+2) rfl u0 u0) ?_)))
 rw[iY];obtain⟨c,hc⟩:∃ c,c=m-(e+2):=⟨_,rfl⟩;rw[<-hc] at HQ ⊢;rw[<-ba] at HQ ⊢;refine aZ (λt s'=>s'=[I ((c:Int)-(t:Nat)),LM (N/V/2^(32*(c+1-t))*2^(32*(c+1-t))),cK 17 (bM (fq N V (c+1-t)))]) (c+1) 0 (zoa _) ?_ (λt ht s' v=>?_) (λs' v=>?_)
 ·simp_all [Nat.sub_zero,FE,HQ,zcb,zwd]
 ·subst v;left;obtain⟨j,hj⟩:∃ j,j=c-t:=⟨_,rfl⟩;rw[show c+1-t=j+1 by omega,show(c:Int)-(t:Nat)=(j:Nat) by omega,show c+1-(t+1)=j by omega,show(c:Int)-((t+1:Nat):Int)=(j:Int)-1 by omega]
  refine⟨[I ((j:Int)-1),LM (N/V/2^(32*j)*2^(32*j)),cK 17 (bM (fq N V j))],?_,rfl⟩;have c5:j+e+2<=16:=u0
  have hU:=Jd (N:=N) j q f;have bm:=M4 (N:=N) j q;have b3:=M0 (N:=N) j q;have right:=DP (N:=N) j q f;have S:=λU1=>DQ (N:=N) (U1:=U1) j q f;generalize hUU:fq N V (j+1)=U at *;have d4:=L1 f bp bm;have hW:=Ra (j:=j) (m:=e+2+1) (U:=U) (by rw[show j+(e+2+1)=j+(e+2)+1 by omega];exact hU)
  have g2:D.idx (I ((j+(e+2):Nat):Int)) 17=some (j+(e+2)):=aj u0
  have t1:=V7 U (j+e+2) (j+e+1);have F1:=d4.one;have F2:=GS V (e+1);have v2:=gt V e;have u2:=gt U (j+e);refine O fS (O ac (au (by show(j:Int) ≥ 0;omega) ?_))
  refine O (aA (a:=j) (b:=e+2) u0) (O g2 (O (bG _ u0) (O (oX U _) (O (uW (m:=32) rfl H (by have:=gt U (j+(e+2));omega)) ?_))))
  refine O (aA (a:=j) (b:=e+2) u0) (O (nv (b:=1) rfl u0 u0) ?_)
  rw[show j+(e+2)-1=j+e+1 by omega,show j+(e+2)=j+e+2 by omega]
  refine O (aj u0) (O (bG _ u0) (O (oX U _) (O (kq (m:=32) (gt _ _) u0) ?_)))
  refine O (nv (b:=1) rfl u0 u0) (O (z:=e+1) (by rw[show e+2-1=e+1 by omega];exact aj u0) (O (bG _ u0) (O (oX V _) ?_)))
  have eT:dg U (j+e+2)*2^32+dg U (j+e+1)=dg U (j+e+2)*4294967296+dg U (j+e+1):=rfl;rw[eT];generalize hT:dg U (j+e+2)*4294967296+dg U (j+e+1)=T at *;generalize hF:dg V (e+1)=F at *;refine O (TQ u0 u0) (O (NF u0) ?_)
  refine su (λd9 s'=>∃ R,s'=[W (d9:Nat),W (R:Nat),LM (N/V/2^(32*(j+1))*2^(32*(j+1))),LM 0,LM V]/\d9*F+R=T/\U/2^(32*j)/V<=d9) (T/F) _ ⟨T%F,rfl,by rw[zTa];exact zwb T F,d4.start⟩ (λd9 s' v=>?_)
  obtain⟨R,rfl,M,b2⟩:=v;have da:d9<=d9*F:=zBc _ u0
  have c2:d9<=18446744073709551615:=u0
  have c4:R<=18446744073709551615:=u0
  have cond:∀ b:Bool,b=(decide (R<4294967296)&&(decide (4294967296<=d9)||decide (R*4294967296+dg U (j+e)<d9*dg V e)))->(b=true->1<=d9/\U/2^(32*j)/V<=d9-1)/\(b=false->d9<4294967296/\d9<=U/2^(32*j)/V+1):=λb hb=>by
   constructor
   ·intro bv;rw[bv] at hb;simp only[Bool.true_eq,X,zFb,zea] at hb;rcases hb.2 with h|h
    ·exact⟨u0,d4.step_big h⟩
    ·have:=d4.step M h;exact⟨this.2,this.1⟩
   ·intro bt;rw[bt] at hb;refine d4.done M ?_;all_goals grind
  have d3:∀ {β:Type} {g:Bool->Option β} {y:β},g (decide (R<4294967296)&&(decide (4294967296<=d9)||decide (R*4294967296+dg U (j+e)<d9*dg V e)))=some y->((akk .lss (W (R:Nat)) (D.int .u64 4294967296)).bind λb7=>
    (D.truth b7).bind λa5=>
    Option.bind (if a5 then((akk .geq (W (d9:Nat)) (D.int .u64 4294967296)).bind λb8=>
    (D.truth b8).bind λa6=>
    if a6 then(some true) else((akk .sub (I ((e+2:Nat):Int)) (D.int .i64 2)).bind λb9=>
    (D.idx b9 16).bind λi51=>
    (D.get (LM V) [i51]).bind λcd=>
    (D.conv .u64 cd).bind λcf=>
    (akk .mul (W (d9:Nat)) cf).bind λch=>
    (akk .shl (W (R:Nat)) (D.int .u64 32)).bind λcs=>
    (akk .add (I (j:Nat)) (I ((e+2:Nat):Int))).bind λcv=>
    (akk .sub cv (D.int .i64 2)).bind λcx=>
    (D.idx cx 17).bind λi58=>
    (D.get (cK 17 (bM U)) [i58]).bind λcy=>
    (D.conv .u64 cy).bind λcI=>
    (akk .or cs cI).bind λcS=>
    (akk .gtr ch cS).bind λc0=>
    D.truth c0)) else(some false)) g)=some y:=λ{β g y} hg=>by
   refine O (TO (b:=4294967296) rfl) (O ac (O ?_ hg));by_cases h1:R<4294967296
   ·rw[zna h1,zla rfl,z6b];refine O (YH (b:=4294967296) rfl) (O ac ?_);by_cases h2:4294967296<=d9
    ·rw[zna h2,zla rfl,Bool.true_or]
    ·rw[zfa h2,zia H,Bool.false_or]
     have dk:d9*dg V e<=4294967295*4294967295:=zFa u0 u0
     refine O (nv (b:=2) rfl u0 u0) (O (z:=e) (aj u0) (O (bG _ u0) (O (oX V e) (O (NE u0) (O (uW (m:=32) rfl H u0) ?_)))))
     refine O (aA (a:=j) (b:=e+2) u0) (O (nv (b:=2) rfl u0 u0) (O (z:=j+e) (by rw[show j+(e+2)-2=j+e by omega];exact aj u0) (O (bG _ u0) (O (oX U (j+e)) (O (kq (m:=32) u2 u0) (O YI ?_))))))
     rfl
   ·rw[zfa h1,zia H,Bool.false_and]
  obtain⟨bb,E⟩:∃ bb,bb=(decide (R<4294967296)&&(decide (4294967296<=d9)||decide (R*4294967296+dg U (j+e)<d9*dg V e))):=⟨_,rfl⟩;obtain⟨k1,k2⟩:=cond bb E;rw[<-E] at d3;cases bb with
  | true=>
   left;obtain⟨d1,d2⟩:=k1 rfl;have c3:R<4294967296:=by have:=E.symm;simp only[X,zea] at this;exact this.1
   refine⟨d9-1,[W ((d9-1:Nat):Int),W ((R+F:Nat):Int),LM (N/V/2^(32*(j+1))*2^(32*(j+1))),LM 0,LM V],u0,?_,R+F,rfl,EZ M d1,d2⟩
   refine d3 (O ac ?_);rw[zla rfl];exact O (NG (b:=1) u0 u0) (O (NC u0) rfl)
  | false=>
   right;obtain⟨d1,d2⟩:=k2 rfl;refine⟨(0,[W (d9:Nat),LM (N/V/2^(32*(j+1))*2^(32*(j+1))),LM 0,LM V]),?_,?_⟩
   ·refine d3 (O ac ?_);rw[zia H];rfl
   clear d3 cond k1 k2 E;have hD:d9<=4294967295:=u0
   have bs:=Ad f hD;obtain⟨Z,hZ⟩:∃ Z,Z=og (U/2^(32*j)) (V*d9) (e+2+1):=⟨_,rfl⟩;have an:Z<2^(32*(e+2+1)):=by rw[hZ];exact NI _ _ _
   have b4:=b3;have fin:∀ {y:Sum (List D) (Nat×List D)} {d:Nat} {u:D} {g:Nat×List D->Option (Sum (List D) (Nat×List D))},d=dg (N/V) j->u=cK 17 (bM (fq N V j))->g (0,[W (d:Nat),u])=some y->g (0,[W ((dg (N/V) j:Nat):Int),cK 17 (bM (fq N V j))])=some y:=λh1 h2 h3=>by rw[<-h1,<-h2];exact h3
   refine O (z:=(0,[W ((dg (N/V) j:Nat):Int),cK 17 (bM (fq N V j))])) ?_ ?_
   ·refine cH (λi s'=>s'=[W (jf V d9 i:Nat),W (cu (U/2^(32*j)) (V*d9) i:Nat),I (i:Nat),LM (N/V/2^(32*(j+1))*2^(32*(j+1))),LM 0,LM V,cK 17 (yy U Z j i)]) (e+2) 0 (zoa _) (by rw[zC,rF,Aa];rfl) (λi hi s' v=>?_) (λs' v=>?_)
    ·subst v;left;refine⟨_,?_,rfl⟩;have o:i<16:=u0
     have l:j+i<17:=u0
     obtain⟨m1,G⟩:=Ec (V:=V) (i:=i) hD;obtain⟨q1,q2⟩:=Ed (U:=U) (j:=j) (k:=i) u0 f hD
     have s1:=Dn V d9 i;have s2:=zA V d9 i;rw[tD V i] at s1 s2;have ec:((jf V d9 i:Nat):Int)+(dg V i:Nat)*(d9:Int)=((jf V d9 i+d9*dg V i:Nat):Int):=by rw[zid,z1a,zNc (d9:Int)]
     rw[ec] at s1 s2;refine O ah (O ac (au (by show(i:Int)<((e+2:Nat):Int);omega) ?_))
     refine O (fU o) (O (bG _ o) (O (oX V i) (O (NE u0) (O (NC u0) ?_))))
     refine O (aA (a:=j) (b:=i) u0) (O (aj l) (O (bG _ l) ?_))
     rw[oL];refine O (fL U (j+i)) (O (jD _) ?_);rw[<-s1];refine O (fL (V*d9) i) (O (xU _ _) (O (xU _ _) (O (aA (a:=j) (b:=i) u0) (O (jD _) (O (aj l) ?_)))))
     rw[q2,<-hZ];refine O (oM U Z j i 17 l) (O BW ?_);rw[q1];refine O (xT u0) ?_
     rw[<-s2];exact O (ay (aw (i:=i) u0)) rfl
    ·subst v;refine⟨_,O ah (O ac (aB (by show ¬ (((e+2:Nat):Int)<((e+2:Nat):Int));omega) rfl)),?_⟩
     have p:j+(e+2)<17:=u0
     obtain⟨q1,q2⟩:=Ed (U:=U) (j:=j) (k:=e+2) (zja _) f hD;rw[<-Nq f hD] at q1 q2;refine O (aA (a:=j) (b:=e+2) u0) (O (aj p) (O (bG _ p) ?_))
     rw[oL];refine O (fL U (j+(e+2))) (O (xU _ _) (O (xU _ _) (O (aA (a:=j) (b:=e+2) u0) (O (jD _) (O (aj p) ?_)))))
     rw[q2,<-hZ];refine O (oM U Z j (e+2) 17 p) (O BW ?_);rw[q1,z8 (m:=e+2+1) (by rw[show j+(e+2+1)=j+(e+2)+1 by omega];exact hU) an,Ci hW bs]
     have hmul:V*(U/2^(32*j)/V)<=U/2^(32*j):=Nat.mul_div_le _ _;have w:U/2^(32*j)<V*(U/2^(32*j)/V+1):=Nat.lt_mul_div_succ _ q;rw[b4] at hmul w b2 d2;by_cases hDq:d9=dg (N/V) j
     ·subst hDq;rw[zia u0]
      refine O (z:=false) (by rfl) ?_
      rw[zia H,hZ,right]
      rfl
     ·have K:d9=dg (N/V) j+1:=u0
      rw[zla (by rw[K];exact w)]
      refine O (z:=true) (by rfl) ?_
      rw[zla rfl];refine O (NG (b:=1) u0 u0) ?_
      have b6:=S (fY U Z j) (by rw[hZ,K])
      have bl:fY U Z j<2^(32*(j+(e+2+1))):=DA an;generalize fY U Z j=U1 at *;obtain⟨Z2,d8⟩:∃ Z2,Z2=(U1/2^(32*j)+V)%2^(32*(e+2+1)):=⟨_,rfl⟩;have al:Z2<2^(32*(e+2+1)):=by rw[d8];exact zVa _ (zCa _)
      have d5:∀ i,i<e+2+1->bM Z2 i=((gj (U1/2^(32*j)) V i:Nat)+(bM U1 (j+i)+bM V i))%4294967296:=λi hi=>by rw[d8,mn,zla hi,GT,ml]
      refine cH (λi s'=>s'=[W (gj (U1/2^(32*j)) V i:Nat),I (i:Nat),LM (N/V/2^(32*(j+1))*2^(32*(j+1))),LM 0,LM V,cK 17 (yy U1 Z2 j i)]) (e+2) 0 (zoa _) (by rw[uy,Aa];rfl) (λi hi s' v=>?_) (λs' v=>?_)
      ·subst v;left;refine⟨_,?_,rfl⟩;have o:i<16:=u0
       have l:j+i<17:=u0
       have c1:=ox (U1/2^(32*j)) V i;have a0:=cJ U1 (j+i);have a1:=tF U1 (j+i);have b0:=cJ V i;have b1:=tF V i;have aO:=ux (U1/2^(32*j)) V i;rw[ml] at aO;refine O ah (O ac (au (by show(i:Int)<((e+2:Nat):Int);omega) ?_))
       refine O (aA (a:=j) (b:=i) u0) (O (aj l) (O (bG _ l) ?_))
       rw[oL];refine O (fL U1 (j+i)) (O (fU o) (O (bG _ o) (O (fL V i) (O (xS u0 u0) (O (xS u0 u0) (O (aA (a:=j) (b:=i) u0) (O (jD _) (O (aj l) ?_))))))))
       rw[<-d5 i u0]
       refine O (oM U1 Z2 j i 17 l) (O (xT u0) ?_)
       rw[<-aO];exact O (ay (aw (i:=i) u0)) rfl
      ·subst v;refine⟨_,O ah (O ac (aB (by show ¬ (((e+2:Nat):Int)<((e+2:Nat):Int));omega) rfl)),?_⟩
       have c1:=ox (U1/2^(32*j)) V (e+2);have a4:=d5 (e+2) u0
       rw[gK f (zja _),Int.add_zero] at a4;refine O (aA (a:=j) (b:=e+2) u0) (O (aj p) (O (bG _ p) ?_))
       rw[oL];refine O (jD _) ?_;have ax:akk .add (.int .u32 (bM U1 (j+(e+2)))) (.int .u32 (((gj (U1/2^(32*j)) V (e+2):Nat):Int)%4294967296))=some (.int .u32 (bM Z2 (e+2))):=by simp only[akk,if_true];have hw:∀ x:Int,IntKind.u32.wrap x=x%4294967296:=λx=>rfl;rw[hw,a4];congr 2;omega
       refine O ax (O (aj p) (O (oM U1 Z2 j (e+2) 17 p) ?_));rw[z8 (m:=e+2+1) bl al,d8,b6];rw[show d9-1=dg (N/V) j by omega]
   ·have b5:=gt (N/V) j;refine O (BV _) (O (aj (show j<16 by omega)) ?_)
    rw[z0a b5];exact O (Gn u0) (O (bW (by simp only[inR];omega)) rfl)
 ·subst v;refine⟨(0,[LM (N/V),cK 17 (bM (N%V))]),?_,?_⟩
  ·rw[show c+1-(c+1)=0 by omega,Je,zzd,z1c,zhd,Nat.mul_one]
   exact O fS (O ac (aB (by show ¬ ((c:Int)-((c+1:Nat):Int)) ≥ 0;omega) rfl))
  ·have bj:N%V<eN:=zmc (zVa _ q) d0;have bz:D.st (List.take 16 (List.drop 0 ((List.range 17).map λi=>D.int .u32 (bM (N%V) i))))=LM (N%V):=by
    rw[xQ _ u0]
    exact dL λj _=>by rw[zbb]
   show(if decide (0+16<=((List.range 17).map λi=>D.int .u32 (bM (N%V) i)).length)=true then _ else none)=_
   rw[zla j2,bz]
   refine O (aee (n+2) bj r) ?_;rw[bh,Nat.mul_div_cancel _ hp];rfl
end
section
variable{X:Nat}{y:Int}
def JC{m:Nat}(hm:m<18446744073709551616):D.st (akx (List.replicate 16 (D.int .u32 0)) [(0,.int .u32 ((m:Int)%4294967296)),(1,.int .u32 ((m:Int)/4294967296%4294967296))])=LM m:=by
 have e:LM m=cK 16 (λj=>if j=0 then(m:Int)%4294967296 else if j=1 then(m:Int)/4294967296%4294967296 else 0):=dL λj a=>by
  match j with
  | 0=>simp[bM]
  | 1=>simp[bM]
  | j+2=>
   rw[zia u0,zia u0]
   exact gK (n:=2) (by simpa using hm) u0
 rw[e];rfl
def BY(h:X<18446744073709551616):dg X 1*4294967296+dg X 0=X:=by unfold dg;omega
def iD(b:D)(c:D){i:Nat}(h:i<16):D.get (.st [b,c,LM X]) [2,i]=some (.int .u32 (bM X i)):=J (LM X) (bG _ h)
def GC(n:Nat){m:Nat}(h:m<eN):C (n+1) 116 [.bool false,LM m]=some (R (m:Int)):=by
 rw[wd n false h];have:sgn false m=(m:Int):=zia H
 rw[this]
def Xb(n:Nat){x:Int}(hx:In x):C (n+3) 171 [R x]=some (R (x.natAbs:Nat)):=by
 rw[agc]
 delta OR Q bF Z qn
 have b:=pO n (a:=some x) (bn hx);refine O b (O aJ (J false ?_));rw[zia H]
 have c:D.get (R x) [2]=some (LM x.natAbs):=by rw[bS];rfl
 exact O c (O (GC (n+1) (aD.1 hx)) rfl)
def JB:18446744073709551616<=eN:=by
 have h:=rh (a:=2) (b:=16) H
 simp_all [Ag,gT]
def Fp(a:X<eN):du X<=2↔X<18446744073709551616:=by
 have h1:=fE a;constructor
 ·intro h;exact zdb h1 (zva (zqa H (show 32*du X<=64 by omega)) H)
 ·intro h;rcases zua 2 (du X) with k|k
  ·have:=qK (X:=X) u0
   have b:2^64<=2^(32*(du X-1)):=zqa H u0
   omega
  ·exact k
def ik{m:Nat}:In (m:Int)↔m<eN:=by rw[aD,zha]
theorem wT(n:Nat){x y:Int}(hx:In x)(p:In y)(ih:y≠0->C (n+4) 131 [R (y.natAbs:Nat),R ((x.natAbs%y.natAbs:Nat):Int)]=some (R (Nat.gcd y.natAbs (x.natAbs%y.natAbs):Nat))) :
  C (n+5) 131 [R x,R y]=some (R (Nat.gcd x.natAbs y.natAbs:Nat)):=by
 rw[afP]
 delta Ow Q P qC iL iR J2 bF nq qA qh Z qn qp qt qw qy
 have d:=we (n+2) (bn hx) (bn p);refine O d (O aJ (O ac ?_));rw[zia j2]
 have c:=aD.1 hx;have b:=aD.1 p;rw[bS x,bS y];have l:y=0↔y.natAbs=0:=u0
 rw[Ne,l] at ih;generalize hX:x.natAbs=X at *;generalize hY:y.natAbs=Y at *;refine J (LM X) (O (EB (n+3) c) (O ja (O ac ?_)));refine O (z:=decide (X<18446744073709551616)&&decide (Y<18446744073709551616)) ?_ (O ac ?_)
 ·by_cases h:X<18446744073709551616
  ·refine au (by have:=(Fp c).2 h;omega) ?_
   refine J (LM Y) (O (EB (n+3) b) (O ja ?_));rw[zna h,z6b,ac];congr 1;rw[decide_eq_decide,<-Fp b];omega
  ·refine aB (by intro k;exact h ((Fp c).1 u0)) ?_
   grind
 by_cases hs:X<18446744073709551616/\Y<18446744073709551616
 ·rw[zna hs.1,zna hs.2,Bool.and_self,zla rfl];have q:=gt X 1;have g:=gt X 0;have r:=gt Y 1;have i:=gt Y 0;refine O (iD _ _ H) (O (oX X 1) (O (uW (m:=32) rfl H u0) (O (iD _ _ H) (O (oX X 0) (O (kq (m:=32) g u0) ?_)))))
  refine O (iD _ _ H) (O (oX Y 1) (O (uW (m:=32) rfl H u0) (O (iD _ _ H) (O (oX Y 0) (O (kq (m:=32) i u0) ?_)))))
  have ex:=BY hs.1;have t:=BY hs.2;rw[ex,t];refine su (λm s=>∃ a,s=[W (a:Nat),W (m:Nat)]/\a<18446744073709551616/\m<18446744073709551616/\Nat.gcd a m=Nat.gcd X Y) Y _ ⟨X,rfl,hs.1,hs.2,rfl⟩ (λm s u=>?_);obtain⟨a,rfl,o,hm,j⟩:=u;have f:D.beq (W (m:Nat)) (.int .u64 0)=decide (m=0):=by simp only[D.beq,decide_true,z6b];rw[decide_eq_decide];omega
  by_cases h0:m=0
  ·right;subst h0;refine⟨(0,[W (a:Nat)]),?_,?_⟩
   ·refine O (z:=false) (by show D.truth (.bool (!(D.beq (W ((0:Nat):Int)) (.int .u64 0))))=_;rw[f];rfl) ?_
    rw[zia H];rfl
   ·rw[Nat.gcd_zero_right] at j;refine O (jD _) (O (xT (by show(0:Int)<=(a:Nat);omega)) (O (jD _) ?_))
    have e:=JC o;refine O (z:=R (a:Int)) ?_ (by rw[<-j])
    rw[e];exact GC (n+3) (zdb o JB)
  ·left;refine⟨a%m,[W (m:Nat),W ((a%m:Nat):Int)],zVa _ u0,?_,m,rfl,hm,zmc (zVa _ u0) hm,by rw[<-j,znc a m,Nat.gcd_rec m a,znc]⟩
   refine O (z:=true) (by show D.truth (.bool (!(D.beq (W (m:Nat)) (.int .u64 0))))=_;rw[f,zfa h0];rfl) ?_
   rw[zla rfl];exact O (NF h0) rfl
 ·have:(decide (X<18446744073709551616)&&decide (Y<18446744073709551616))=false:=by
   rw[Bool.and_eq_false_iff,decide_eq_false_iff_not,decide_eq_false_iff_not];omega
  rw[this,zia H]
  refine J (LM X) (J (LM Y) ?_);rw[iQ,kX b iH];by_cases h0:Y=0
  ·rw[zna h0];refine J false ?_;rw[zia H,h0,Nat.gcd_zero_right]
   have:=Xb (n+1) hx;rw[bS x,hX] at this;exact O this rfl
  ·rw[zfa h0];refine J true ?_;rw[zla rfl];have v:X%Y<Y:=zVa _ u0
   refine O (Uk n c b u0) (J (LM (X/Y)) (J (LM (X%Y)) (O (GC (n+3) b) (O (GC (n+3) (zmc v b)) (O (ih h0) ?_)))))
   rw[znc X Y,Nat.gcd_rec Y X,znc (X%Y) Y]
theorem CQ:∀ (d n:Nat) {x y:Int},In x->In y->y.natAbs<2^d->C (n+2*d+5) 131 [R x,R y]=some (R (Nat.gcd x.natAbs y.natAbs:Nat))
 | 0,n,x,y,hx,b,h=>wT n hx b λh0=>zgb u0 h0
 | d+1,n,x,y,hx,b,h=>by
  rw[show n+2*(d+1)+5=n+2*d+2+5 by omega]
  refine wT _ hx b λh0=>?_;have a:=aD.1 b;have c:x.natAbs%y.natAbs<y.natAbs:=zVa _ u0
  have g:=wT (n+2*d+1) (x:=(y.natAbs:Nat)) (y:=((x.natAbs%y.natAbs:Nat):Int)) (ik.2 a) (ik.2 (zmc c a)) (λh1=>by
   simp only[zha];have e:y.natAbs%(x.natAbs%y.natAbs)<x.natAbs%y.natAbs:=zVa _ u0
   have f:y.natAbs%(x.natAbs%y.natAbs)<2^d:=by
    generalize x.natAbs%y.natAbs=r at *;rw[z0b] at h;rcases zua r (2^d) with k|k
    ·omega
    ·have:y.natAbs%r=y.natAbs-r:=by
      rw[Nat.mod_eq_sub_mod u0,z0a u0]
     omega
   have:=CQ d n (x:=((x.natAbs%y.natAbs:Nat):Int)) (y:=((y.natAbs%(x.natAbs%y.natAbs):Nat):Int)) (ik.2 (zmc c a)) (ik.2 (zmc (zmc e c) a)) (by rw[zha];exact f)
   simp only[zha] at this;exact this)
  grind
def xd{m k:Nat}(h:k=32*16):m<eN↔m<2^k:=by
 have e:pE 16=2^k:=by rw[dV,h]
 rw[gT,e]
def XN(k n:Nat)(hk:k=32*16){x:Int}(hx:In x)(a:In y):C (n+2*k+5) 131 [R x,R y]=some (R (Nat.gcd x.natAbs y.natAbs:Nat)):=
 CQ k n hx a ((xd hk).1 (aD.1 a))
def wh(n:Nat){x:Int}(hx:In x)(a:In y):C (n+1029) 131 [R x,R y]=some (R (Nat.gcd x.natAbs y.natAbs:Nat)):=
 XN 512 n rfl hx a
def Xe(n:Nat){x:Int}(hx:In x):C (n+3) 217 [R x]=some (I (kz x.natAbs:Nat)):=by
 rw[agp]
 delta O3 Q P qN Jn J0 J1 bq qO qi Z
 have c:=pO n (bn hx);have d:=aD.1 hx;rw[show fM (some x)=_ from bS x] at c;rw[bS x];have g:=lH x.natAbs;have hh:=fE d;refine J (LM x.natAbs) (O (EB (n+1) d) (O c (O aJ (J false (O (z:=decide (du x.natAbs=0)) (by rw[zia H];show D.truth (.bool (D.beq (I (du x.natAbs:Nat)) (I ((0:Nat):Int))))=_;rw[cZ];rfl) (O ac ?_))))))
 by_cases h0:du x.natAbs=0
 ·refine au h0 ?_;rw[h0] at hh;have:x.natAbs=0:=by simpa using hh
  rw[this];rfl
 ·refine aB h0 ?_;have hl:=qK h0;generalize du x.natAbs=p at *;generalize x.natAbs=X at *;have j:=lz (by rw[show p-1+1=p by omega];exact hh)
  have e:=gt X (p-1);have i:kz (dg X (p-1))<=32:=by
   by_cases hz:dg X (p-1)=0
   ·rw[hz];decide
   ·obtain⟨L,k,l,_⟩:=il hz;rcases zua L 32 with h|h
    ·omega
    ·have:=zqa (show 0<2 by decide) h
     omega
  have f:=v7 (x:=X) (m:=32*(p-1)) hl;rw[j] at f;refine O (nv (b:=1) rfl u0 u0) (O (pK (a:=32) u0) (O (nv (b:=1) rfl u0 u0) (O (fU u0) (O (iD _ _ u0) (O (W9 (x:=dg X (p-1)) (n+1) e) (O (aA (a:=32*(p-1)) (b:=kz (dg X (p-1))) u0) ?_))))))
  rw[f]
def Qx(X:Nat):64<kz X↔18446744073709551616<=X:=by
 by_cases h0:X=0
 ·simp_all [kz]
 ·obtain⟨L,h1,a,b⟩:=il h0;rw[h1];constructor
  ·intro h;have:=zqa (show 0<2 by decide) (show 64<=L by omega)
   omega
  ·intro h;rcases zua 64 (L+1) with k|k
   ·exact k
   ·have:=zqa (show 0<2 by decide) k
    omega
theorem wi(n:Nat){x:Int}(hx:In x):(inR x/\C (n+4) 202 [R x]=some (.tup [I x,.bool true]))\/(¬ inR x/\C (n+4) 202 [R x]=some (.tup [I 0,.bool false])):=by
 rw[agn]
 delta H4 Q P qT qN Jn J0 bF bT qA qO qh Z qw
 have d:=pO (n+1) (bn hx);have f:=Xe n hx;have t:=aD.1 hx;have first:∀ {y:D} {g:Bool->Option D},g (decide (18446744073709551616<=x.natAbs))=some y->((C (n+3) 118 [.sl [R x]]).bind λr1=>(akz .not r1).bind λw=>(D.truth w).bind λl=>Option.bind (if l then(some true) else((C (n+3) 217 [R x]).bind λv=>(akk .gtr v (D.int .i64 64)).bind λA=>D.truth A)) λo=>(D.truth (D.bool o)).bind g)=some y:=λ{y g} s=>by
  refine O d (O aJ (J false (O (z:=decide (18446744073709551616<=x.natAbs)) ?_ (O ac s))));rw[zia H]
  refine O f (O cn ?_);rw[ac];congr 1;rw[decide_eq_decide,<-Qx];omega
 by_cases hbig:18446744073709551616<=x.natAbs
 ·right;refine⟨by simp only[inR];omega,first ?_⟩
  simp_all
 ·have r:x.natAbs<18446744073709551616:=u0
  have w1:∀ z:Int,IntKind.u64.wrap z=z%18446744073709551616:=λz=>rfl;have i:∀ (a b:Nat) {c:D},c=.int .u64 (b:Nat)->akk .leq (W (a:Nat)) c=some (.bool (decide (a<=b))):=λa b c hc=>by simp_all [akk,decide_eq_decide]
  have q:=gt x.natAbs 1;have k:=gt x.natAbs 0;have ex:=BY r;have p:∀ z:Int,inR z->∀ a:Int,(a-z)%18446744073709551616=0->D.conv .i64 (W a)=some (I z):=λz u a h=>by
   obtain⟨h1,e⟩:=u;simp only[D.conv]
   have hw:IntKind.i64.wrap a=(if(true&&decide (a%18446744073709551616 ≥ 9223372036854775808))=true then a%18446744073709551616-18446744073709551616 else a%18446744073709551616):=rfl
   grind
  have go:∀ y:D,(if x<0 then(if x.natAbs<=9223372036854775808 then y=.tup [I x,.bool true] else y=.tup [I 0,.bool false]) else(if x.natAbs<9223372036854775808 then y=.tup [I x,.bool true] else y=.tup [I 0,.bool false]))->H4 F (C (n+3)) (R x)=some y:=λy j=>by
   delta H4 Q P qT qN Jn J0 bF bT qA qO qh Z qw
   refine first ?_
   rw[zfa hbig,zia H,bS x]
   refine O (iD _ _ H) (O (oX x.natAbs 1) (O (uW (m:=32) rfl H u0) (O (iD _ _ H) (O (oX x.natAbs 0) (O (kq (m:=32) k u0) ?_)))))
   rw[ex];refine J (.bool (decide (x<0))) (O ac ?_);refine O (z:=decide (x<0)&&decide (x.natAbs<=9223372036854775808)) ?_ (O ac ?_)
   ·by_cases h:x<0
    ·refine au h (O (i _ 9223372036854775808 rfl) ?_);rw[ac,zna h,z6b]
    ·grind
   by_cases h:x<0
   ·rw[zla h] at j;rw[zna h,z6b];by_cases e:x.natAbs<=9223372036854775808
    ·rw[zla e] at j;refine au e ?_;have hn:akz .neg (W (x.natAbs:Nat))=some (W (IntKind.u64.wrap (0-(x.natAbs:Nat)))):=by simp only[akz]
     refine O hn (O (p x (by simp only[inR];omega) _ (by rw[w1];omega)) ?_)
     rw[j]
    ·rw[zia e] at j;refine aB e (O (z:=.bool true) (by rfl) (J (.bool false) (J false (J false (J false ?_)))))
     simp_all
   ·rw[zia h] at j;rw[zfa h,Bool.false_and,zia H]
    refine O (z:=.bool false) (by rfl) (J (.bool true) (J true (O (z:=decide (x.natAbs<9223372036854775808)) ?_ (O ac ?_))))
    ·rw[zla rfl];exact O (TO (b:=9223372036854775808) rfl) ac
    all_goals grind [inR]
  by_cases hr:inR x
  ·left;refine⟨hr,go _ ?_⟩;simp only[inR] at hr;all_goals grind
  ·right;refine⟨hr,go _ ?_⟩;simp only[inR] at hr;all_goals grind
end
section
variable{q y:Int}
theorem R8{x:Int}(a:y≠0)(h:x=y*q):sgn (!(decide (decide (x<0)=decide (y<0)))) (x.natAbs/y.natAbs)=q:=by
 have e:x.natAbs/y.natAbs=q.natAbs:=by rw[h,zwa,Nat.mul_div_cancel_left _ u0]
 rw[e];have key:q=0\/(q<0/\(x<0↔¬ y<0))\/(0<q/\(x<0↔y<0)):=by
  rcases zQb q 0 with hq|hq|hq
  ·right;left;refine⟨hq,?_⟩;rcases Int.lt_or_gt_of_ne a with k|k
   ·have:=zdc k hq;omega
   ·have:=zIb k hq;omega
  ·omega
  ·right;right;refine⟨hq,?_⟩;rcases Int.lt_or_gt_of_ne a with k|k
   ·have:=Int.mul_neg_of_neg_of_pos k hq;omega
   ·have:=zCb k hq;omega
 grind [sgn]
def dC(x:Int):D.get (R x) [1]=some (.bool (decide (x<0))):=rfl
def jF(x:Int):D.get (R x) [2]=some (LM x.natAbs):=by rw[bS];rfl
theorem Nc{x:Int}(h:x≠0):sg x≠0:=by grind [sg]
def T2{x:Int}(hx:In x)(h:y ∣ x):In (x/y):=by
 obtain⟨q,rfl⟩:=h;rw[aD] at *;by_cases hy:y=0
 ·simp_all
 ·rw[zZa _ hy];rw[zwa] at hx;exact zLa (zlb _ u0) hx
theorem ad7(n:Nat){x:Int}(hx:In x)(r:In y)(e:y≠0)(E:y ∣ x):C (n+5) 172 [R x,R y]=some (.tup [R (x/y),R 0]):=by
 have w:=T2 hx E;obtain⟨q,hq⟩:=E;have s:x/y=q:=by simp_all
 rw[s] at w ⊢;rw[Yv]
 delta Kd Q P qT qN Jn J0 J1 bF bq nq qA qO qb Z qp
 have l:=we (n+2) (a:=some x) (b:=some y) (bn hx) (bn r);have c:∀ a b:Int,D.beq (I a) (.int .i64 b)=decide (a=b):=λa b=>ci;refine O l (O aJ (J false (O (z:=false) ?_ (J false ?_))))
 ·rw[zia H]
  refine O (lc (n+1) r) ?_;rw[c,zfa (Nc e)];rfl
 rw[zia H]
 by_cases fast:(inR x/\x≠-9223372036854775808)/\inR y/\y≠-9223372036854775808
 ·obtain⟨⟨t,d⟩,u,g⟩:=fast;have i:C (n+4) 202 [R x]=some (.tup [I x,.bool true]):=by
   rcases wi n hx with⟨_,h⟩|⟨h,_⟩
   ·exact h
   ·simp_all
  have j:C (n+4) 202 [R y]=some (.tup [I y,.bool true]):=by
   rcases wi n r with⟨_,h⟩|⟨h,_⟩
   ·exact h
   ·simp_all
  have K:q.natAbs<=x.natAbs:=by rw[hq,zwa];exact zlb _ u0
  have o:inR q:=by grind [inR]
  have M:x.tdiv y=q:=by simp_all
  have F:x.tmod y=0:=by simp_all
  refine O (z:=(0,[R q,R 0])) ?_ rfl;refine O i (J (I x) (J (.bool true) (J true (O (z:=true) ?_ (J true ?_)))))
  ·rw[zla rfl,c,zfa d];rfl
  rw[zla rfl];refine O j (J (I y) (J (.bool true) (J true (O (z:=true) ?_ (J true ?_)))))
  ·rw[zla rfl,c,zfa g];rfl
  rw[zla rfl];refine O (uw e (by rw[M];exact o)) (O (ph e) ?_)
  rw[M,F];refine O (z:=(0,[I q,I 0])) (J false (J false (J false rfl))) ?_;exact O (ou (n+2) o) (O (ou (n+2) (show inR 0 from⟨H,H⟩)) rfl)
 ·refine O (z:=(1,[.st [.bool false,.bool false,az bf],.st [.bool false,.bool false,az bf]])) ?_ ?_
  ·rcases wi n hx with⟨t,h⟩|⟨t,h⟩
   ·by_cases d:x=-9223372036854775808
    ·refine O h (J (I x) (J (.bool true) (J true (O (z:=false) ?_ (J false rfl)))));rw[zla rfl,c,zna d];rfl
    ·refine O h (J (I x) (J (.bool true) (J true (O (z:=true) ?_ (J true ?_)))))
     ·rw[zla rfl,c,zfa d];rfl
     rw[zla rfl];rcases wi n r with⟨u,v⟩|⟨u,v⟩
     ·have g:=Classical.byContradiction λk=>fast ⟨⟨t,d⟩,u,k⟩;refine O v (J (I y) (J (.bool true) (J true (O (z:=false) ?_ (J false rfl)))));rw[zla rfl,c,zna g];rfl
     ·exact O v (J (I 0) (J (.bool false) (J false (J false (J false rfl)))))
   ·exact O h (J (I 0) (J (.bool false) (J false (J false (J false rfl)))))
  rw[zia H]
  have p:=aD.1 hx;have B:=aD.1 r;have m:x.natAbs%y.natAbs=0:=by simp_all [zwa]
  have A:x.natAbs/y.natAbs<eN:=zLa (zfc _ _) p;have f:=Uk n p B u0
  rw[m] at f;refine O (jF x) (O (jF y) (O f (J (LM (x.natAbs/y.natAbs)) (J (LM 0) (O (dC x) (O (dC y) ?_))))));have G:(!(D.beq (.bool (decide (x<0))) (.bool (decide (y<0)))))=!(decide (decide (x<0)=decide (y<0))):=by simp_all [D.beq]
  rw[G,iQ,kX iH iH,zna rfl];refine O (wd (n+3) _ A) ?_;rw[R8 e hq];refine O (z:=(0,[LM 0,R q])) (J false (J false (J false rfl))) ?_;refine O (dC y) (O (wd (n+3) _ iH) ?_)
  simp_all [sgn]
def u5(n:Nat){x:Int}(hx:In x)(c:In y)(a:y≠0)(b:y ∣ x):C (n+6) 132 [R x,R y]=some (R (x/y)):=by rw[Yr];unfold J9;exact O (ad7 n hx c a b) (J (R (x/y)) (J (R 0) rfl))
def av(q:Rat):D:=.st [R q.num,R (q.den:Int)]
def InR(q:Rat):Prop:=In q.num/\In (q.den:Int)
def Ic(n:Nat){x:Int}(hx:In x):C (n+2) 128 [R x]=some (.bool true):=by
 rw[V8]
 delta H1 Q qN qe Z
 have h:=QF n (a:=some x) (bn hx);refine J (.bool false) (J (.bool true) (J true (O (z:=true) ?_ rfl)));rw[zla rfl];exact O h rfl
def Hv(n:Nat){x:Int}(hx:In x):C (n+3) 68 [R x]=some (R (-x)):=Wr n (a:=some x) (bn hx)
theorem jE(x:Int){d:Int}(b:d≠0):(Rat.divInt x d).num=x/(if d<0 then -(Nat.gcd x.natAbs d.natAbs:Int) else(Nat.gcd x.natAbs d.natAbs:Int))/\((Rat.divInt x d).den:Int)=d/(if d<0 then -(Nat.gcd x.natAbs d.natAbs:Int) else(Nat.gcd x.natAbs d.natAbs:Int)):=by
 have c:d.gcd x=Nat.gcd x.natAbs d.natAbs:=by unfold Int.gcd;exact znc ..
 have e:0<Nat.gcd x.natAbs d.natAbs:=z2c _ u0
 have a:((Nat.gcd x.natAbs d.natAbs:Nat):Int) ∣ x:=zfb.2 (zhb _ _);have dd:((Nat.gcd x.natAbs d.natAbs:Nat):Int) ∣ d:=zfb.2 (zpb _ _);rw[Rat.num_divInt,Rat.den_divInt,zia b,c];generalize Nat.gcd x.natAbs d.natAbs=g at *;by_cases h:d<0
 ·rw[zla h,Int.sign_eq_neg_one_of_neg h];refine⟨?_,?_⟩
  ·rw[Int.ediv_neg,show -1*x=-x by omega,z0c a]
  ·rw[Int.ediv_neg,Int.natCast_ediv,<-z0c dd];grind
 ·grind
theorem KY(n:Nat){x d:Int}(hx:In x)(e:In d)(f:d≠0):C (n+1030) 62 [R x,R d]=some (av (Rat.divInt x d)):=by
 rw[u62]
 delta Wo qN J0 bq qO qb qc Z qo qz
 have o:∀ a b:Int,D.beq (I a) (.int .i64 b)=decide (a=b):=λa b=>ci;have q:0<Nat.gcd x.natAbs d.natAbs:=z2c _ u0
 have p:((Nat.gcd x.natAbs d.natAbs:Nat):Int) ∣ x:=zfb.2 (zhb _ _);have dd:((Nat.gcd x.natAbs d.natAbs:Nat):Int) ∣ d:=zfb.2 (zpb _ _);have j:Nat.gcd x.natAbs d.natAbs<=d.natAbs:=Nat.gcd_le_right _ u0
 have i:=ik.2 (zLa j (aD.1 e));obtain⟨p1,r⟩:=jE x f;unfold av;rw[p1,r];refine O (Ic (n+1027) hx) (J (.bool false) (J false (O (z:=false) ?_ (J false (O (z:=false) ?_ (J false ?_))))))
 ·rw[zia H];exact O (Ic (n+1027) e) rfl
 ·rw[zia H]
  refine O (lc (n+1026) e) ?_;rw[o,zfa (Nc f)];rfl
 rw[zia H]
 refine O (wh n hx e) ?_;generalize Nat.gcd x.natAbs d.natAbs=g at *;refine O (z:=(0,[R (if d<0 then -(g:Int) else(g:Int))])) ?_ ?_
 ·refine O (lc (n+1026) e) (O ah (O ac ?_));by_cases h:d<0
  ·rw[zla h];refine au (by rw[FO h];decide) ?_
   exact O (Hv (n+1026) i) rfl
  ·rw[zia h];exact aB (by rw[gQ u0];decide) rfl
 ·have c:In (if d<0 then -(g:Int) else(g:Int)):=by
   all_goals grind [aD,Int.natAbs_neg]
  have k:(if d<0 then -(g:Int) else(g:Int))≠0:=by split<;>omega
  have m:(if d<0 then -(g:Int) else(g:Int)) ∣ x:=by split<;>first|exact Int.neg_dvd.2 p|exact p
  have l:(if d<0 then -(g:Int) else(g:Int)) ∣ d:=by split<;>first|exact Int.neg_dvd.2 dd|exact dd
  exact O (u5 (n+1023) hx c k m) (O (u5 (n+1023) e c k l) rfl)
end
def Wc(x:Int):D.get (R x) [2,1]=some (U (fP (aT x.natAbs) 1)):=dJ (i:=1) H
def W2(n:Nat){x:Int}(hx:In x)(h:¬ Wd x):C (n+3) 124 [R x]=some (.tup [I 0,.bool false]):=by
 have m:4611686018427387904<=x.natAbs:=by unfold Wd at h;omega
 rw[Yq]
 delta J8 Q P qN iL iR Jn J0 J2 bF bT nq qO qc qh qi qj Z qt qw qy
 have l1:=Mf x.natAbs;refine O (Ih n hx) (O aJ (J false (O (z:=decide (1073741824<=x.natAbs/4294967296%4294967296)) ?_ (O ac ?_))))
 ·rw[zia H]
  refine O (Wc x) ?_;rw[l1];have:akk .geq (U (x.natAbs/4294967296%4294967296)) (.int .u32 1073741824)=some (.bool (decide (1073741824<=x.natAbs/4294967296%4294967296))):=by simp only[akk,if_true];congr 2;rw[decide_eq_decide];omega
  exact O this rfl
 by_cases h1:1073741824<=x.natAbs/4294967296%4294967296
 ·simp_all
 ·refine aB h1 ?_;have f:18446744073709551616<=x.natAbs:=u0
  refine aZ (λi s=>s=[I (i:Int)]/\2<=i/\∀ k,2<=k->k<i->fP (aT x.natAbs) k=0) 16 2 H ⟨rfl,H,λk h1 g=>u0⟩ (λi hi s b=>?_) (λs b=>?_)
  ·obtain⟨rfl,g,j⟩:=b;have e:akk .lss (I (i:Int)) (D.int .i64 16)=some (.bool true):=by rw[ah,zna u0]
   by_cases h0:fP (aT x.natAbs) i=0
   ·left;refine⟨[I ((i+1:Nat):Int)],?_,rfl,u0,λk o p=>?_⟩
    ·refine O e (J true ?_);rw[zla rfl];refine O (aj hi) (O (dJ hi) ?_);rw[h0];refine J false ?_;rw[zia H]
     exact O (ay (aw (i:=i) u0)) rfl
    ·grind
   ·right;refine⟨(0,[I 0,.bool false]),?_,rfl⟩;refine O e (J true ?_);rw[zla rfl];refine O (aj hi) (O (dJ hi) (O (z:=true) ?_ ?_))
    ·show D.truth (.bool (!(D.beq (U (fP (aT x.natAbs) i)) (U 0))))=_;rw[SO,zfa h0];rfl
    ·rw[zla rfl]
  ·exfalso;obtain⟨_,_,j⟩:=b;have l:x.natAbs/18446744073709551616=0:=by
    have c:x.natAbs/18446744073709551616<65536^32:=zLa (zfc _ _) hx;refine xb c λi hi=>?_;rw[jP,zYa,show(18446744073709551616:Nat)=4294967296^2 from rfl,<-z5a];by_cases k:i+2<16
    ·simp_all [jP,zgc]
    ·have a:(65536:Nat)^32=4294967296^16:=by rw[show(4294967296:Nat)=65536^2 from rfl,<-Nat.pow_mul]
     have d:x.natAbs<4294967296^16:=by rw[<-a];exact hx
     rw[zcb (zdb d (zqa H (show 16<=2+i by omega))),zxd]
   omega
def W3(n:Nat){a b:List Nat}(a1:dl a)(A:dl b)(S:a.length<=400000)(hle:bC b<=bC a):C (n+2) 126 [.sl (u a),.sl (u b)]=some (.sl (u (aT (bC a-bC b)))):=by
 rw[afL]
 delta Oq P qX qV qW iL iR Jn J0 J1 qb qc qj Z ql qu qy
 refine aZ (λk s=>∃ (out:List Nat) (c:Nat),s=[.sl (u out),I (c:Int),I (k:Int)]/\out.length=k/\dl out/\c<=1/\bC out+vt b k=vt a k+c*65536^k) a.length 0 (zoa _) ⟨[],0,rfl,rfl,(by intro d F;cases F),u0,by simp[bC,vt]⟩ (λk hk s t=>?_) (λs t=>?_)
 ·obtain⟨out,c,rfl,p,g,hc,B⟩:=t;left;have h1:=a1.getD k;have N:=A.getD k;obtain⟨e,f,a0,he,Q⟩:∃ e f:Nat,e+b.getD k 0+c=a.getD k 0+f*65536/\e<65536/\f<=1:=by
   by_cases h:b.getD k 0+c<=a.getD k 0
   ·exact⟨a.getD k 0-(b.getD k 0+c),0,u0,u0,u0⟩
   ·exact⟨a.getD k 0+65536-(b.getD k 0+c),1,u0,u0,u0⟩
  refine⟨[.sl (u (out++[e])),I (f:Int),I ((k+1:Nat):Int)],?_,out++[e],f,rfl,by simp[p],g.append (λx hx=>by simp at hx;omega),Q,?_⟩
  ·refine J (u a) (O ah (O ac (au (by show(k:Int)<((u a).length:Int);rw[ao];omega) ?_)))
   refine J (u a) (O (C0 hk) (O (dQ hk) (O (Id n b k) (O (bW (by simp only[inR];omega)) (O (bW (by simp only[inR];omega)) ?_)))))
   refine O (z:=(0,[.sl (u out),I (f:Int),I (e:Int)])) ?_ ?_
   ·refine O ah (O ac ?_);by_cases hneg:((a.getD k 0:Nat):Int)-(b.getD k 0:Nat)-(c:Int)<0
    ·refine au hneg (O (ay (by simp only[inR];omega)) ?_)
     have r:(((a.getD k 0:Nat):Int)-(b.getD k 0:Nat)-(c:Int)+65536)=(e:Int):=u0
     have o:f=1:=u0
     rw[r,o];rfl
    ·refine aB hneg ?_;have r:(((a.getD k 0:Nat):Int)-(b.getD k 0:Nat)-(c:Int))=(e:Int):=u0
     have o:f=0:=u0
     rw[r,o];rfl
   ·rw[zla (by simp only[g0,D.els,ao,zPa,zzb];omega)]
    refine O (ay (aw (i:=k) u0)) ?_
    show some (Sum.inl [D.sl (u out++[I (e:Int)]),_,_])=_;rw[yY];rfl
  ·rw[nF,p,vt,vt,z0b];have o:bC [e]=e:=by simp[bC]
   grind
 ·obtain⟨out,c,rfl,p,g,hc,B⟩:=t;refine⟨(0,[.sl (u out)]),J (u a) (O ah (O ac (aB (by show ¬ ((a.length:Int)<((u a).length:Int));rw[ao];omega) rfl))),?_⟩
  refine O (EC n (l:=out) u0) ?_
  rw[rm] at B;have L:vt b a.length=bC b:=by
   rcases Nat.le_total b.length a.length with k|k
   ·exact kU k
   ·have R:=xR A b.length;have v:=oA a1;have key:∀ j,bC b<65536^a.length->vt b (a.length+j)=vt b a.length:=λj K=>by
     induction j with
     | zero=>rfl
     | succ j ih=>
      rw[<-zLb,vt,ih];have M:b.getD (a.length+j) 0=0:=by
       rcases zKb (b.getD (a.length+j) 0) with h|h
       ·exact h
       ·exfalso;have m1:vt b (a.length+j+1)<=bC b:=by
         rw[<-rm b];rcases Nat.le_total (a.length+j+1) b.length with q|q
         ·obtain⟨m,hm⟩:∃ m,b.length=a.length+j+1+m:=⟨b.length-(a.length+j+1),u0⟩
          rw[hm];clear hm
          induction m with
          | zero=>exact zja _
          | succ m y=>exact zva y (zbd _ _)
         ·grind
        rw[vt] at m1;have G:65536^a.length<=65536^(a.length+j):=zqa H u0
        have m3:1*65536^(a.length+j)<=b.getD (a.length+j) 0*65536^(a.length+j):=zJa _ h;omega
      rw[M];simp
    obtain⟨m,hm⟩:∃ m,b.length=a.length+m:=⟨b.length-a.length,u0⟩
    grind [rm]
  have w:=oA g;rw[p] at w;have v:=oA a1;have E:c=0:=by all_goals grind
  grind [ko]
section
variable{A B:Nat}
def Qr(l:List Nat)(k:Int):Nat:=if k<0 then 0 else l.getD k.toNat 0
def KB{l:List Nat}(h:dl l)(k:Int):Qr l k<65536:=by
 unfold Qr;split
 ·decide
 ·exact h.getD _
theorem Gu(l:List Nat)(k:Nat):Qr l (k:Int)=l.getD k 0:=by unfold Qr;grind
def QG(n:Nat)(l:List Nat)(k:Int):C (n+2) 175 [.sl (u l),I k]=some (I (Qr l k:Nat)):=by
 rw[agd]
 delta OS J0 qc Z Qr
 refine O ah (O ac ?_);by_cases h:k<0
 ·simp_all
 ·refine aB h ?_;rw[zia h];obtain⟨m,rfl⟩:=zDc (show 0<=k by omega)
  exact O (Id n l m) rfl
def np(R n:Nat):Nat:=if n=1 then R*65536 else R/65536^(n-2)
def rO(m i:Nat):(aT m).getD i 0=m/65536^i%65536:=tG i m
def CD(R:Nat){m:Nat}(hm:1<=m):R/65536^(m-1)=R/65536^m*65536+R/65536^(m-1)%65536:=by
 have e:65536^m=65536^(m-1)*65536:=by
  conv=>lhs;rw[show m=m-1+1 by omega]
  omega
 rw[e,<-zYa];omega
theorem L2{R n:Nat}(hn:1<=n)(c:R<65536^(n+1)):(aT R).getD n 0*4294967296+(aT R).getD (n-1) 0*65536+Qr (aT R) ((n:Int)-2)=np R n:=by
 have h1:R/65536^n<65536:=by simp_all [z2a,Nat.pow_pos,decide,zTa,z0b]
 have a:=CD R hn;rw[rO,rO,z0a h1];unfold np Qr;by_cases hn1:n=1
 ·grind
 ·rw[zia hn1,zia u0,show((n:Int)-2).toNat=n-2 by omega,rO]
  have b:=CD R (m:=n-1) u0
  grind
def Vg{n:Nat}(hn:1<=n)(a:B<65536^n):(aT B).getD (n-1) 0*65536+Qr (aT B) ((n:Int)-2)=np B n:=by
 have h:=L2 (R:=B) hn (zdb a (zqa H (zHc n)))
 rw[rO B n,zcb a,zxd,zwd,zbb] at h;exact h
def LZ{R n:Nat}(a:0<B)(ht:0<np B n)(b:R<65536*B):R/B<=min 65535 (np R n/np B n):=by
 have h1:R/B<=65535:=by have:=(z2a a).2 (show R<65536*B from b);omega
 refine Nat.le_min.2 ⟨h1,?_⟩;rw[zec ht];unfold np;by_cases hn:n=1
 ·rw[zla hn,zla hn,<-zkb];exact zJa _ (z9b R B)
 ·rw[zia hn,zia hn];have hp:0<65536^(n-2):=Nat.pow_pos H
  rw[zec hp,zkb];exact zva (z6a _ (z9b B _)) (z9b R B)
def pq{B:Nat}(c:0<B):1<=(aT B).length/\B<65536^(aT B).length/\0<np B (aT B).length:=by
 have h1:1<=(aT B).length:=by
  rcases zKb (aT B).length with h|h
  ·have:=z5b.1 h;have:=wD.1 this;omega
  ·exact h
 have a:B<65536^(aT B).length:=by have:=oA (cR B);rwa [bD] at this
 refine⟨h1,a,?_⟩;have b:65536^((aT B).length-1)<=B:=by
  rcases zua B (65536^((aT B).length-1)) with k|k
  ·have:=dO _ B k;omega
  ·exact k
 unfold np;split
 ·omega
 ·refine Nat.div_pos (zva (zqa H u0) b) (Nat.pow_pos H)
theorem adZ(n:Nat)(hA:A<65536^40)(r:0<B)(K:B<65536^40):C (n+3) 143 [.sl (u (aT A)),.sl (u (aT B))]=some (.tup [.sl (u (aT (A/B))),.sl (u (aT (A%B)))]):=by
 rw[afY]
 delta OF P qS qX qV qW iL iR Jn J0 J1 J2 jl qc qi Z qt qy
 obtain⟨Y,n2,n3⟩:=pq r;have lA:=dO 40 _ hA;have lB:=dO 40 _ K;have b1:=cR B;obtain⟨L,hL⟩:∃ L,(aT B).length=L:=⟨_,rfl⟩;rw[hL] at Y n2 n3 lB;obtain⟨M,hM⟩:∃ M,(aT A).length=M:=⟨_,rfl⟩;rw[hM] at lA;have G:((u (aT B)).length:Int)=(L:Int):=by rw[ao,hL]
 have f:((u (aT A)).length:Int)=(M:Int):=by rw[ao,hM]
 refine J (u (aT A)) (O (z:=M) (by rw[f];exact Hu M) ?_)
 rw[zla u0]
 refine J (u (aT B)) ?_;rw[G];have a6:(aT B).getD (L-1) 0<65536:=b1.getD _;have p:=Vg Y n2;refine O (nv (b:=1) rfl Y u0) (J (u (aT B)) (O (z:=L-1) (by rw[ao,hL];exact aj u0) (O (dQ (l:=aT B) (i:=L-1) u0) ?_)))
 refine O (pK (b:=65536) u0) (O (z:=I ((L:Int)-2)) (bW (by simp only[inR];omega)) (O (QG n (aT B) ((L:Int)-2)) ?_))
 have a4:=KB b1 ((L:Int)-2);refine O (aA u0) ?_
 rw[p];have ad:np B L<4294967296:=by rw[<-p];omega
 generalize hTB:np B L=TB at *;refine J (u (aT A)) ?_;rw[f];refine O (z:=I ((M:Int)-1)) (bW (by simp only[inR];omega)) ?_
 rw[y6];have b0:A/65536^M=0:=by have:=oA (cR A);rw[bD,hM] at this;exact zcb this
 refine aZ (λt s=>∃ q:List Nat,s=[.sl (u (aT (A/65536^(M-t)%B))),I ((M:Int)-1-(t:Nat)),.sl (u q)]/\q.length=M/\dl q/\(∀ i,i<M-t->q.getD i 0=0)/\bC q=A/65536^(M-t)/B*65536^(M-t)) M 0 (zoa _) ⟨List.replicate M 0,?_,j2,λx hx=>by rw[zpd hx];decide,λi _=>by simp[List.getD,List.getElem?_replicate];split<;>rfl,?_⟩ (λt ht s N=>?_) (λs N=>?_)
 ·rw[Nat.sub_zero,b0,zxd,dc];congr 3;omega
 ·have:=pS [] M;rw[z4b] at this;rw[this,Nat.sub_zero,b0,Nat.zero_div,zwd];rfl
 ·obtain⟨q,rfl,W,b2,E,m⟩:=N;left;obtain⟨k,hk⟩:∃ k,k=M-1-t:=⟨_,rfl⟩;have a1:k<M:=u0
  rw[show M-t=k+1 by omega] at E m ⊢
  rw[show(M:Int)-1-(t:Nat)=(k:Nat) by omega]
  have a2:A/65536^(k+1)%B<B:=zVa _ r;have a9:A/65536^k=65536*(A/65536^(k+1))+(aT A).getD k 0:=by rw[rO,z0b,<-zYa];omega
  have aI:=(cR A).getD k;obtain⟨R,hR⟩:∃ R,R=65536*(A/65536^(k+1)%B)+(aT A).getD k 0:=⟨_,rfl⟩;have b3:R<65536*B:=by omega
  have ax:A/65536^k/B=65536*(A/65536^(k+1)/B)+R/B:=by
   have e:=zwb (A/65536^(k+1)) B;have e2:A/65536^k=R+B*(65536*(A/65536^(k+1)/B)):=by rw[a9,hR];generalize A/65536^(k+1)=X at *;grind
   rw[e2,zSb _ _ r];omega
  have an:A/65536^k%B=R%B:=by
   have e:=zwb (A/65536^(k+1)) B;have e2:A/65536^k=R+B*(65536*(A/65536^(k+1)/B)):=by rw[a9,hR];generalize A/65536^(k+1)=X at *;grind
   simp_all
  have a7:=dO 40 _ (zmc a2 K);have Q:R<65536^(L+1):=by omega
  have a0:R<65536^41:=zdb Q (zqa H u0)
  have lR:=dO 41 _ a0;have F:=cR R;obtain⟨q',h⟩:∃ q',q'=q.set k (R/B):=⟨_,rfl⟩;have a3:R/B<=65535:=by have:=(z2a r).2 b3;omega
  refine⟨[.sl (u (aT (R%B))),I ((k:Int)-1),.sl (u q')],?_,q',by rw[show M-(t+1)=k by omega,an];congr 3;omega,by rw[h];simpa using W,?_,?_,?_⟩
  ·refine O fS (O ac (au (by show(k:Int) ≥ 0;omega) ?_))
   refine J (u (aT A)) (O (z:=k) (by rw[ao,hM];exact aj a1) (O (dQ (l:=aT A) (i:=k) u0) (J (u (aT (A/65536^(k+1)%B))) ?_)))
   rw[zla (by rw[ao];simp;omega)]
   have b4:[I (((aT A).getD k 0:Nat):Int)]++u (aT (A/65536^(k+1)%B))=u ((aT A).getD k 0::aT (A/65536^(k+1)%B)):=rfl;rw[b4];have aO:dl ((aT A).getD k 0::aT (A/65536^(k+1)%B)):=dl.cons aI (cR _);have o:=EC (n+1) (l:=(aT A).getD k 0::aT (A/65536^(k+1)%B)) (by simp;omega)
   rw[ko aO,show bC ((aT A).getD k 0::aT (A/65536^(k+1)%B))=R by rw[bC,bD,hR];omega] at o
   refine O o ?_;have g1:=F.getD L;have g2:=F.getD (L-1);have g3:=KB F ((L:Int)-2);have h3:=L2 Y Q;refine O (QG n (aT R) (L:Int)) ?_;rw[Gu];refine O (pK (b:=4294967296) u0) (O (nv (b:=1) rfl Y u0) (O (QG n (aT R) ((L-1:Nat):Int)) ?_))
   rw[Gu];refine O (pK (b:=65536) u0) (O (aA u0) (O (z:=I ((L:Int)-2)) (bW (by simp only[inR];omega)) (O (QG n (aT R) ((L:Int)-2)) (O (aA u0) ?_))))
   rw[h3];have hH:np R L<=9223372036854775807:=by rw[<-h3];omega
   have U:=LZ (R:=R) (n:=L) r (by rw[hTB];exact n3) b3
   rw[hTB] at U;refine O (kY u0 u0) (O (z:=I ((min 65535 (np R L/TB):Nat):Int)) (by rw[show(D.int .i64 65535)=I ((65535:Nat):Int) from rfl,Mo];congr 2;omega) ?_)
   have S:min 65535 (np R L/TB)<=65535:=Nat.min_le_left ..;generalize min 65535 (np R L/TB)=d0 at *;have y:∀ d:Nat,d<=65535->C (n+2) 146 [.sl (u (aT B)),.sl [I (d:Int)]]=some (.sl (u (aT (B*d)))):=λd hd=>by
    have:=ad1 n (a:=aT B) (b:=[d]) b1 (λx hx=>by simp at hx;omega) u0 j2
    rw[bD,show bC [d]=d by simp[bC]] at this
    exact this
   refine O (y d0 S) ?_;refine su (λd s=>s=[I (d:Int),.sl (u (aT (B*d))),.sl (u q)]/\R/B<=d/\d<=65535) d0 _ ⟨rfl,U,S⟩ (λd s N=>?_);obtain⟨rfl,k1,k2⟩:=N;have al:B*d<65536^41:=by
    have:B*d<=B*65536:=z6a _ u0
    omega
   have a8:=dO 41 _ al;have g:=c78 n F (cR (B*d)) u0 u0
   rw[bD,bD] at g;by_cases hlt:R<B*d
   ·left;rw[zna hlt] at g;have w:R/B<d:=by rw[z2a r,zTa];exact hlt
    have a5:=zLa (zoa _) w;refine⟨d-1,[I ((d-1:Nat):Int),.sl (u (aT (B*(d-1)))),.sl (u q)],u0,?_,rfl,Nat.le_sub_one_of_lt w,u0⟩
    refine O g (J true ?_);rw[zla rfl];have e:B*d-B=B*(d-1):=by rw[zrd,Nat.mul_one]
    have c:=W3 n (cR (B*d)) b1 u0 (by rw[bD,bD];exact zBc _ u0)
    rw[bD,bD,e] at c;exact O (nv (b:=1) rfl u0 u0) (O c rfl)
   ·right;rw[zfa hlt] at g;have w:d<=R/B:=by rw[zec r,zTa];omega
    have T:d=R/B:=u0
    refine⟨(0,[I (d:Int),.sl (u (aT (B*d))),.sl (u q)]),?_,?_⟩
    ·refine O g (J false ?_);rw[zia H];rfl
    ·have c:=W3 n F (cR (B*d)) u0 (by rw[bD,bD];omega)
     have e:R-B*d=R%B:=by rw[T];have:=zwb R B;omega
     rw[bD,bD,e] at c;have V:k<q.length:=u0
     refine O (C0 V) (O (dQ V) (O c (O (bW (by simp only[inR];omega)) ?_)))
     show some (Sum.inl [_,_,D.sl (List.set (u q) k (I (d:Int)))])=_;rw[tK,T,<-h];first|rfl|skip
  ·rw[h];refine S6 λi hi=>?_;rw[nG _ _ _ _ u0]
   split
   ·omega
   ·exact b2.getD i
  ·intro i hi;rw[h,nG _ _ _ _ u0,zia u0]
   exact E i u0
  ·have e:=rT (l:=q) (j:=k) (v:=R/B) u0
   rw[E k u0,zzd,zTb,<-h] at e
   rw[e,m,show M-(t+1)=k by omega,ax,z0b,ztb,zTa (R/B),zTa 65536,zkb,zTa (65536^k) 65536]
 ·obtain⟨q,rfl,W,b2,_,m⟩:=N;rw[zyd,z1c,zhd,Nat.mul_one] at m;refine⟨(0,[.sl (u (aT (A%B))),.sl (u q)]),?_,?_⟩
  ·rw[zyd,z1c,zhd];exact O fS (O ac (aB (by show ¬ ((M:Int)-1-(M:Nat)) ≥ 0;omega) rfl))
  ·have o:=EC (n+1) (l:=q) u0
   rw[ko b2,m] at o;exact O o rfl
def XP{m:Nat}(h:m<65536^32):m<65536^40:=zdb h (zqa H H)
def TR(n:Nat){x:Int}(hx:In x):∃ w b,C (n+3) 124 [R x]=some (.tup [I w,.bool b])/\(b=true->Wd x):=by
 by_cases h:Wd x
 ·exact⟨x,true,KQ n h,λ_=>h⟩
 ·exact⟨0,false,W2 n hx h,λe=>by cases e⟩
theorem aeY(n:Nat){x y:Int}(hx:In x)(c:In y):C (n+4) 85 [R x,R y]=some (R (Nat.gcd x.natAbs y.natAbs:Nat)):=by
 by_cases hw:Wd x/\Wd y
 ·exact Zn n hw.1 hw.2
 ·rw[u85]
  delta WF P qT qN qS iL iR J0 bF jl nq qA qO qc Z qp qt qy qz
  obtain⟨w1,b1,h1,l⟩:=TR n hx;obtain⟨k,b2,h,o⟩:=TR n c;have j:(b1&&b2)=false:=by all_goals grind
  refine O h1 (J (I w1) (J (.bool b1) (O h (J (I k) (J (.bool b2) (J b1 (O (z:=false) (by cases b1<;>cases b2<;>simp at j<;>rfl) (J false ?_))))))))
  rw[zia H]
  refine O (Ih (n+1) hx) (O aJ (J false (O (z:=false) (by rw[zia H];exact O (Ih (n+1) c) rfl) (J false ?_))))
  rw[zia H]
  refine O (Ws (n+1) hx) (O (Ws (n+1) c) ?_);have f:=hx;have g:=c;refine su (λm s=>∃ a,s=[.sl (u (aT a)),.sl (u (aT m))]/\a<65536^32/\m<65536^32/\Nat.gcd a m=Nat.gcd x.natAbs y.natAbs) y.natAbs _ ⟨x.natAbs,rfl,f,g,rfl⟩ (λm s i=>?_);obtain⟨a,rfl,d,hm,e⟩:=i;by_cases h0:m=0
  ·right;subst h0;rw[Nat.gcd_zero_right] at e;rw[dc];refine⟨(0,[.sl (u (aT a))]),?_,?_⟩
   ·exact J (u []) (J (.bool false) (J false rfl))
   ·have la:=dO 32 _ d;refine O (Zm (n+1) (neg:=false) (cR a) u0 (by rw[bD];exact d)) ?_
    rw[bD,e];rfl
  ·left;have b:a%m<m:=zVa _ u0
   refine⟨a%m,[.sl (u (aT m)),.sl (u (aT (a%m)))],b,?_,m,rfl,hm,zmc b hm,by rw[<-e,znc a m,Nat.gcd_rec m a,znc]⟩
   have hl:=(pq (B:=m) u0).1
   refine J (u (aT m)) (O cn (O ac (au (by show((u (aT m)).length:Int)>0;rw[ao];omega) ?_)))
   exact O (adZ n (XP d) u0 (XP hm)) (J (.sl (u (aT (a/m)))) (J (.sl (u (aT (a%m)))) rfl))
end
def bB{x:Int}(h:inR x):In x:=by grind [In,inR]
def Cb{x y:Int}(a:In y)(h:x.natAbs<=y.natAbs):In x:=zLa h a
def cj(x:Int)(h:-9223372036854775808<=x/\x<=9223372036854775807:=by decide):inR x:=h
def adV(n:Nat):C (n+4) 133 []=some (R 1):=by rw[afQ];delta Ox J1 Z;exact O (JQ n (cj 1)) rfl
def Qt(n:Nat)(f:Nat->Int):D.beq (cK n f) (cK n f)=true:=by show D.beqs _ _=true;rw[vZ];simp
def WQ(x:Int):D.beq (R x) (R x)=true:=by rw[bS];show(D.beq (.bool false) (.bool false)&&(D.beq (.bool (decide (x<0))) (.bool (decide (x<0)))&&(D.beq (LM x.natAbs) (LM x.natAbs)&&true)))=true;rw[Qt];simp[D.beq]
def Kq:In 1:=bB (cj 1)
def CC(x:Int):Rat.divInt x 1=(x:Rat):=by
 conv=>rhs;rw[<-z7a (x:Rat)]
 rfl
def gv(x:Int){d:Int}(b:d≠0):(Rat.divInt x d).num.natAbs<=x.natAbs/\(Rat.divInt x d).den<=d.natAbs:=by
 obtain⟨p1,e⟩:=jE x b;have a:0<Nat.gcd x.natAbs d.natAbs:=z2c _ u0
 have key:∀ z:Int,(z/(if d<0 then -(Nat.gcd x.natAbs d.natAbs:Int) else(Nat.gcd x.natAbs d.natAbs:Int))).natAbs<=z.natAbs\/¬ ((Nat.gcd x.natAbs d.natAbs:Nat):Int) ∣ z:=by
  intro z;by_cases c:((Nat.gcd x.natAbs d.natAbs:Nat):Int) ∣ z
  ·left;obtain⟨k,rfl⟩:=c;generalize Nat.gcd x.natAbs d.natAbs=g at *;rw[zwa,zha];have:k.natAbs<=g*k.natAbs:=zlb _ a;split
   ·rw[Int.ediv_neg,zZa _ u0,zHb];exact this
   ·rw[zZa _ u0];exact this
  ·omega
 constructor
 ·rw[p1];rcases key x with h|h
  ·exact h
  ·exact zgb (zfb.2 (zhb _ _)) h
 ·have:(Rat.divInt x d).den=((Rat.divInt x d).den:Int).natAbs:=rfl;rw[this,e];rcases key d with h|h
  ·exact h
  ·exact zgb (zfb.2 (zpb _ _)) h
def gh{x d:Int}(hx:In x)(b:In d)(h0:d≠0):InR (Rat.divInt x d):=by obtain⟨h1,a⟩:=gv x h0;exact⟨zLa h1 hx,zLa (by rw[zha];exact a) b⟩
theorem bV(q:Rat):(q.den:Int)≠0:=by have:=q.den_pos;omega
def fitA(x y:Rat):Prop:=x.num.natAbs*y.den+y.num.natAbs*x.den<eN/\x.den*y.den<eN
def fitM(x y:Rat):Prop:=x.num.natAbs*y.num.natAbs<eN/\x.den*y.den<eN
def Gl{x:Int}(h:In x):InR (x:Rat):=⟨by simpa using h,by simpa using Kq⟩
structure RV where
 x:Rat
 y:Rat
 z:Rat
def XC(v:RV):D:=.st [av v.x,av v.y,av v.z]
def RV.of(v:V):RV:=⟨v.x,v.y,v.z⟩
def RV.mul(k:Rat)(v:RV):RV:=⟨k*v.x,k*v.y,k*v.z⟩
end Sy
end
noncomputable section
namespace Geo
open V
section
variable{P:Nat->V}{N:Nat}
def WN(P:Nat->V)(N:Nat)(k:Nat):Prop:=∃ n d,IsF P N n d/\k∈bU P N n d/\oh P (bU P N n d) k
end
section
variable{P:Nat->V}{N:Nat}
def dd(h u w:V):V:=cross (cross u w) h
end
abbrev T3:=V×V×V
def vol(t:T3):Int:=V.dot (V.cross t.1 t.2.1) t.2.2
def cmp(i:Nat)(v:V):Int:=if i=0 then v.x else if i=1 then v.y else v.z
def sm(i:Nat)(t:T3):Int:=cmp i t.1+cmp i t.2.1+cmp i t.2.2
def shift(d:V)(t:T3):T3:=(V.add t.1 d,V.add t.2.1 d,V.add t.2.2 d)
def gd(d u v:V):Int:=V.dot d (V.cross u v)
end Geo
end
noncomputable section
namespace Sy
open Go Go.Proofs Geo
section
variable{M N a j:Nat}
structure FIn(l:List V)(F:FL):Prop where
 len:F.length<=2000000
 ok:∀ f∈F,3<=f.2.length/\f.2.length<=100/\∀ j,j<f.2.length->f.2.getD j 0<l.length
def JP(T:List T3)(N:Nat):Prop:=T.length<=N/\∀ t∈T,bd MV t.1/\bd MV t.2.1/\bd MV t.2.2
def JP.append{S T:List T3}(h:JP S M)(k:JP T N):JP (S++T) (M+N):=
 ⟨by rw[zAa];have:=h.1;have:=k.1;omega,λt ht=>(zKa.1 ht).elim (h.2 t) (k.2 t)⟩
def JP.mono{T:List T3}(h:JP T M)(k:M<=N):JP T N:=⟨zva h.1 k,h.2⟩
def bJ{x:Int}{k:Nat}(hk:k<=511)(h:x.natAbs<=2^k):In x:=by obtain⟨m,hm⟩:∃ m,m=32*16:=⟨_,rfl⟩;exact aD.2 ((xd hm).2 (zLa h (Nat.pow_lt_pow_right H u0)))
def ce{b:Nat}{i j k:Nat}(c:a<=2^i)(d:b<=2^j)(h:i+j<=k):a*b<=2^k:=
 zva (zFa c d) (by rw[<-z5a];exact zqa H h)
def bK{a b:Int}{i k:Nat}(c:a.natAbs<=2^i)(d:b.natAbs<=2^j)(h:i+j<=k):(a*b).natAbs<=2^k:=by rw[zwa];exact ce c d h
end
end Sy
end
end Go.Proofs.YtdlipdnepadhjaaGreat
