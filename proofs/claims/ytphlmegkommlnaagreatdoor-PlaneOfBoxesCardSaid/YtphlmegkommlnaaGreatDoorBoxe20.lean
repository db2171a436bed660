/- Part 20 of the proof that PlaneOfBoxes answers true at every input -/
import Derived.Test.YtphlmegkommlnaaGreatDoorBoxe02
import Derived.Test.YtphlmegkommlnaaGreatDoorBoxe16
import Derived.Test.YtphlmegkommlnaaGreatDoorBoxe19
set_option linter.unusedVariables false
set_option linter.unusedSimpArgs false
set_option linter.unnecessarySimpa false
set_option linter.defProp false
set_option maxRecDepth 20000
namespace Go.Proofs.YtphlmegkommlnaaGreatDoor
noncomputable section
namespace Sy
open Go Go.Proofs Geo
structure Bdy where
 nm:ByteArray
 P:List (List V)
 m0:Int
 m1:Int
 r0:Int
 r1:Int
def Bx{v:V}{i:Nat}(h:i<3):D.fld (ae v) i=some (I (aC v i)):=by
 have:i=0\/i=1\/i=2:=j1
 rcases this with rfl|rfl|rfl<;>rfl
structure Hul(l:List V):Prop where
 len:l.length<=64
 bd:∀ x∈l,bd MV x
 srt:HU l
 vtx:∀ k,k<l.length->Ht (pt l) l.length k
 ex:∃ m d,IsF (pt l) l.length m d
def Hul.pos{l:List V}(h:Hul l):0<l.length:=by obtain⟨m,d,hF⟩:=h.ex;obtain⟨i,j,k,h1,h2,h3,_⟩:=hF.ex;omega
def TT(p:List Nat)(a b i:Nat):Bool:=(decide (p.getD i 0=a)&&decide (p.getD ((i+1)%p.length) 0=b))||(decide (p.getD i 0=b)&&decide (p.getD ((i+1)%p.length) 0=a))
def isE(p:List Nat)(a b t:Nat):Bool:=(List.range t).any (TT p a b)
def Sl(F:FL)(a b:Nat):Bool:=F.any λf=>isE f.2 a b f.2.length
def DT(F:FL)(a b:Nat):List (Nat×Nat):=((List.range b).filter λc=>decide (a<c)&&Sl F a c).map λc=>(a,c)
def tO(F:FL)(N a:Nat):List (Nat×Nat):=(List.range a).flatMap λa=>DT F a N
def J6(F:FL)(a b:Nat):(DT F a b).length<=b:=by unfold DT;rw[zta];exact zHa (zAc _ _) j3
def FX(F:FL)(N a:Nat):tO F N (a+1)=tO F N a++DT F a N:=by unfold tO;rw[z8b,List.flatMap_append];simp
def A1(F:FL)(N a:Nat):(tO F N a).length<=a*N:=by
 induction a with
 | zero=>simp[tO]
 | succ a ih=>rw[FX,zua,Nat.succ_mul];have:=J6 F a N;omega
def vE{F:FL}{N:Nat}{e:Nat×Nat}:e∈tO F N N↔e.1<N/\e.2<N/\e.1<e.2/\Sl F e.1 e.2=true:=by
 obtain⟨a,b⟩:=e;simp only[tO,DT,zQa,zXa,zNa,znb,zaa,zfa,Prod.mk.injEq];constructor
 ·rintro⟨c,hc,d,⟨g,h1,h2⟩,rfl,rfl⟩;exact⟨hc,g,h1,h2⟩
 ·rintro⟨h1,h2,h3,f⟩;exact⟨a,h1,b,⟨h2,h3,f⟩,rfl,rfl⟩
def HX(F:FL)(N:Nat):(tO F N N).Pairwise Cf:=by
 unfold tO;rw[List.pairwise_flatMap];refine⟨λa _=>?_,?_⟩
 ·unfold DT;refine zrd.2 ((List.Pairwise.filter _ List.pairwise_lt_range).imp λh=>.inr ⟨rfl,h⟩)
 ·refine List.pairwise_lt_range.imp λ{a b} h x hx y hy=>?_;simp only[DT,zNa] at hx hy;obtain⟨c,_,rfl⟩:=hx;obtain⟨d,_,rfl⟩:=hy;exact .inl h
def lc(M:List (Nat×Nat)):(M.map jf).length=M.length:=zta ..
def Rs(n:Nat){l:List V}(hl:∀ x∈l,bd MV x)(hlen:l.length<=100)(hs:HU l):∃ (F:FL) (E:List (Nat×Nat)),F.length<=2000000/\E.length<=10000/\KnF l l.length 0 0 F ∧
  cA (n+8) 18 [de l]=some (.sl (aS F))/\cA (n+8) 19 [de l]=some (.sl (aS F))/\cA (n+9) 21 [de l]=some (.sl (E.map jf))/\E=tO F l.length l.length:=by
 obtain⟨F,hK,p⟩:=ZK n hl hlen hs;obtain⟨L,poly,hL,hP,u,h18⟩:=p18 (n+1) hl hlen hs;have c:=hK.fok;have t:=c.len hlen;have o:F.map Prod.fst=L:=Facets.eq hK.facets hL;have j:∀ f∈F,poly f.1=f.2:=λf hf=>by obtain⟨g,h⟩:=c.ok f hf;exact bB.eq hs g (hP f.1 (by rw[<-o];exact zNa.2 ⟨f,hf,rfl⟩)) h
 have H:(L.map λq=>oy q (poly q))=aS F:=by rw[<-o,List.map_map];refine zPc λf hf=>?_;simp only[Function.comp_apply,j f hf]
 have h19:cA (n+8) 19 [de l]=some (.sl (aS F)):=by
  rw[u19]
  delta Tg qG
  exact j0 (bD l) (aa p rfl)
 obtain⟨E,D,G,h21⟩:=p21 (n+1) h18 u (λq hq=>by have k:=hq;rw[<-o] at k;obtain⟨f,hf,rfl⟩:=zNa.1 k;rw[j f hf];obtain⟨g,h⟩:=c.ok f hf;have:=Cg hs g h;exact⟨j1,this.2.2.1⟩) (xi hs hL hP)
 have A:E=tO F l.length l.length:=by
  refine sO (r:=Cf) (λa=>by simp only[Cf];omega) (λa b=>by simp only[Cf];omega) G (HX F l.length) λe=>?_
  obtain⟨a,b⟩:=e;rw[D.mem_iff,CU hs hL hP,vE];constructor
  ·rintro⟨h1,m,d,h2,h3⟩;have C:=(av.1 h3.2.mem).1;have B:=(av.1 h3.1).1;refine⟨B,C,h1,?_⟩;have hq:(m,d)∈F.map Prod.fst:=by rw[o];exact(hL.mem (m,d)).2 h2
   obtain⟨f,hf,v⟩:=zNa.1 hq;obtain⟨g,h⟩:=c.ok f hf;rw[v] at g h;obtain⟨i,i1,i2,i3⟩:=(acp hs g h).2 h3;refine zic.2 ⟨f,hf,zic.2 ⟨i,zXa.2 i1,?_⟩⟩;unfold TT;rw[zha i2,zha i3];rfl
  ·rintro⟨B,C,h1,h2⟩;refine⟨h1,(uY hs).1 ?_⟩;obtain⟨f,hf,h3⟩:=zic.1 h2;obtain⟨i,i1,i2⟩:=zic.1 h3;obtain⟨g,h⟩:=c.ok f hf;have i1:=zXa.1 i1;simp only[TT,zac,zaa,zfa] at i2;refine⟨f.1.1,f.1.2,g,?_⟩;rcases i2 with⟨w,y⟩|⟨w,y⟩
   ·exact .inl ((acp hs g h).1 ⟨i,i1,w,y⟩)
   ·exact .inr ((acp hs g h).1 ⟨i,i1,w,y⟩)
 have s:E.length<=10000:=by rw[A];exact zHa (A1 _ _ _) (z5a hlen hlen)
 rw[H] at h18;exact⟨F,E,t,s,hK,h18,h19,h21,A⟩
def mR{k:Nat}{v:V}(h:bd (k:Int) v):v.x.natAbs<=k/\v.y.natAbs<=k/\v.z.natAbs<=k:=by unfold bd at h;omega
structure BOk(b:Bdy):Prop where
 one:1<=b.P.length
 few:b.P.length<=3
 vs:∀ l∈b.P,l.length<=10
 hul:∀ l∈b.P,Hul l
 bd:∀ l∈b.P,∀ x∈l,bd 4096 x
 m0:1<=b.m0
 m1:b.m0<=b.m1
 m2:b.m1<=1099511627776
def yc{body:Bd}{k:Nat×List D->Option D}{y:D}{l0:List D}(x:Nat->D)(h0:l0.length=3)
  (hs:∀ i:Nat,i<3->∀ l:List D,l.length=3->(∀ j:Nat,i<=j->l[j]?=l0[j]?)->body [I (i:Int),.st l]=some (.inl [I ((i+1:Nat):Int),.st (l.set i (x i))]))
  (he:∀ l,body [I ((3:Nat):Int),.st l]=some (.inr (0,[.st l]))) (hk:k (0,[.st [x 0,x 1,x 2]])=some y):(bf body [I ((0:Nat):Int),.st l0]).bind k=some y:=by
 match l0,h0 with
 | [a,b,c],_=>
 have s0:=hs 0 j2 [a,b,c] rfl (λj _=>rfl)
 have s1:=hs 1 j2 [x 0,b,c] rfl (λj d=>by cases j with|zero=>omega|succ j=>rfl)
 have s2:=hs 2 j2 [x 0,x 1,c] rfl (λj d=>by cases j with|zero=>omega|succ j=>cases j with|zero=>omega|succ j=>rfl)
 exact aW s0 (aW s1 (aW s2 (dW (he _) hk)))
abbrev WV:=Nat->Option Rat
def be(v:WV):D:=.st [bo (v 0),bo (v 1),bo (v 2)]
def xl(v:WV):Prop:=∀ i,OW (v i)
def lJ(v:V):WV:=λi=>some (aC v i:Rat)
def zC{i:Nat}(h:i<3)(v:WV):D.get (be v) [i]=some (bo (v i)):=by
 have:i=0\/i=1\/i=2:=j1
 rcases this with rfl|rfl|rfl<;>rfl
def AI{v:V}(h:∀ i,inR (aC v i)):xl (lJ v):=λi=>bU (uB (bC (h i)))
def kW{v:V}(h1:inR v.x)(h2:inR v.y)(h3:inR v.z)(i:Nat):inR (aC v i):=by unfold aC;split<;>(try split)<;>assumption
def ED(n:Nat){v:V}(h:∀ i,inR (aC v i)):cA (n+1033) 135 [ae v]=some (be (lJ v)):=Xk n (h 0) (h 1) (h 2)
def Hp{a:Option Rat}(h:OW a):addW (some 0) a=a:=by
 cases a with
 | none=>rfl
 | some x=>
  have e:addW (some 0) (some x)=some (0+x):=A0 ⟨by simpa using aQ.1 h.some.1,by simpa using aQ.1 h.some.2⟩
  rw[e,Rat.zero_add]
def rW(u v:WV):Option Rat:=addW (addW (mulW (u 0) (v 0)) (mulW (u 1) (v 1))) (mulW (u 2) (v 2))
def zI(u v:WV):OW (rW u v):=lQ _ _
def Rz(n:Nat){u v:WV}(hu:xl u)(j:xl v):cA (n+1033) 134 [be u,be v]=some (bo (rW u v)):=by
 rw[Yw];delta Lr qB qC qJ qZ iL iR Jn;refine aa (OF n (ew 0)) ?_;have st:∀ i:Nat,i<3->∀ a,OW a->((ab7 .lss (List.getD [I (i:Int),bo a] 0 (.bool false)) (D.int .i64 3)).bind λl=>(D.truth l).bind λg=>
   if g then((D.idx (List.getD [I (i:Int),bo a] 0 (.bool false)) 3).bind λi5=>(D.get (be u) [i5]).bind λm=>(D.idx (List.getD [I (i:Int),bo a] 0 (.bool false)) 3).bind λi7=>(D.get (be v) [i7]).bind λo=> (cA (n+1032) 174 [m,o]).bind λk=>(cA (n+1032) 173 [(List.getD [I (i:Int),bo a] 1 (.bool false)),k]).bind λd=>(ab7 .add (List.getD [I (i:Int),bo a] 0 (.bool false)) (D.int .i64 1)).bind λf=>some (Sum.inl [f,d]))
   else(some (Sum.inr ((0:Nat),[(List.getD [I (i:Int),bo a] 1 (.bool false))]))))=some (Sum.inl [I ((i+1:Nat):Int),bo (addW a (mulW (u i) (v i)))]):=λi c a h=>
  aa af (aa ac (aO (by show(i:Int)<3;omega) (aa (aq c) (aa (zC c u) (aa (aq c) (aa (zC c v) (aa (EF (n+1) (hu i) (j i)) (aa (A6 (n+1) h (uk _ _)) (aa (bc (a:=i) (b:=1) j1) rfl)))))))))
 have z:OW (some (0:Rat)):=bU (uB (bC (ew 0)));have s0:=st 0 j2 (some 0) z
 have s1:=st 1 j2 (addW (some 0) (mulW (u 0) (v 0))) (lQ _ _)
 have s2:=st 2 j2 (addW (addW (some 0) (mulW (u 0) (v 0))) (mulW (u 1) (v 1))) (lQ _ _)
 have e:=Hp (uk (u 0) (v 0));unfold rW;rw[<-e];exact aW s0 (aW s1 (aW s2 (dW (aa af (aa ac (aU j2 rfl))) rfl)))
def PF(n:Nat){u:V}{v:WV}(hu:∀ i,inR (aC u i))(a:xl v):cA (n+1034) 72 [ae u,be v]=some (bo (rW (lJ u) v)):=by rw[u72];unfold Tv;exact aa (ED n hu) (aa (Rz n (AI hu) a) rfl)
def tB(u v:WV):WV:=λi=>addW (u i) (v i)
def JR(u v:WV):xl (tB u v):=λi=>lQ _ _
def sN{l:List D}{i:Nat}{v:D}(h:i<l.length):D.set (.st l) [i] v=some (.st (l.set i v)):=by simp only[D.set,zca h,zba]
def OC(n:Nat){u v:WV}(hu:xl u)(g:xl v):cA (n+1032) 371 [be u,be v]=some (be (tB u v)):=by
 rw[Y6];delta L7 qB qC qJ qZ iL iR Jn;refine yc (l0:=[bo (u 0),bo (u 1),bo (u 2)]) (λi=>bo (tB u v i)) rfl (λi c l hl f=>?_) (λl=>aa af (aa ac (aU j2 rfl))) rfl
 have d:D.get (.st l) [i]=some (bo (u i)):=by
  have e:=f i (zja _);have:i=0\/i=1\/i=2:=j1
  rcases this with rfl|rfl|rfl<;>simp[D.get,D.fld,e]
 exact aa af (aa ac (aO (by show(i:Int)<3;omega) (aa (aq c) (aa d (aa (aq c) (aa (zC c v) (aa (A6 n (hu i) (g i)) (aa (aq c) (aa (sN j1) (aa (bc (a:=i) (b:=1) j1) rfl))))))))))
def Rm(l:List D):Bd:=λ(v1:List D)=>
 (ab7 .add (gx v1 1) (D.int .i64 1)).bind λi=>(D.asSl (.sl l)).bind λh=>(ab7 .lss i (D.int .i64 (h.length))).bind λj=>(D.truth j).bind λg=>
 if g then((D.asSl (.sl l)).bind λf=>(D.idx (gx v1 1) (f.length)).bind λi7=>(f[i7]?).bind λk=>(ab7 .add (gx v1 1) (D.int .i64 1)).bind λm=>
  (D.asSl (.sl l)).bind λa=>(D.idx m (a.length)).bind λi11=>(a[i11]?).bind λb=>(ab7 .mul k b).bind λc=>(ab7 .add (gx v1 0) c).bind λd=>
  (ab7 .add (gx v1 1) (D.int .i64 2)).bind λe=>some (Sum.inl [d,e])) else(some (Sum.inr (0,[(gx v1 0)])))
def gF{l:List D}(k:Nat){s a b t:Int}(hl:l.length<=100)(d:l[k]?=some (I a))(c:l[k+1]?=some (I b))(h1:inR (a*b))(h2:inR (s+a*b))(ht:s+a*b=t):Rm l [I s,I (k:Int)]=some (.inl [I t,I ((k+2:Nat):Int)]):=by have e:=(zqa.1 c).1;subst ht;exact aa (bc (a:=k) (b:=1) j1) (j0 l (aa af (aa ac (aO (by show((k+1:Nat):Int)<(l.length:Int);omega) (j0 l (aa (aq j1) (aa d (aa (bc (a:=k) (b:=1) j1) (j0 l (aa (aq e) (aa c (aa (cw h1) (aa (ay h2) (aa (bc (a:=k) (b:=2) j1) rfl))))))))))))))
def AB{l:List D}(k:Nat){s:Int}(hl:l.length<=100)(hk:l.length=k):Rm l [I s,I (k:Int)]=some (.inr (0,[I s])):=
 aa (bc (a:=k) (b:=1) j1) (j0 l (aa af (aa ac (aU (by show ¬ (((k+1:Nat):Int)<(l.length:Int));omega) rfl))))
def rE(n:Nat){a b c d:Int}(h1:inR (a*b))(h2:inR (c*d))(h3:inR (a*b+c*d)):cA (n+1) 394 [.sl [I a,I b,I c,I d]]=some (I (a*b+c*d)):=by rw[QJ];delta FU qB qX qL qZ iL iR Jn;exact aW (gF 0 (l:=[I a,I b,I c,I d]) (s:=0) (t:=a*b) j3 rfl rfl h1 (by rw[zrc];exact h1) (zrc _)) (aW (gF 2 j3 rfl rfl h2 h3 rfl) (dW (AB 4 j3 rfl) rfl))
def Ip(n:Nat){a b c d e f:Int}(h1:inR (a*b))(h2:inR (c*d))(h3:inR (a*b+c*d))(g:inR (e*f))(h:inR (a*b+c*d+e*f)):cA (n+1) 394 [.sl [I a,I b,I c,I d,I e,I f]]=some (I (a*b+c*d+e*f)):=by rw[QJ];delta FU qB qX qL qZ iL iR Jn;exact aW (gF 0 (l:=[I a,I b,I c,I d,I e,I f]) (s:=0) (t:=a*b) j3 rfl rfl h1 (by rw[zrc];exact h1) (zrc _)) (aW (gF 2 j3 rfl rfl h2 h3 rfl) (aW (gF 4 j3 rfl rfl g h rfl) (dW (AB 6 j3 rfl) rfl)))
def zg(n:Nat){a b c d e f g h:Int}(h1:inR (a*b))(h2:inR (c*d))(h3:inR (a*b+c*d))(i:inR (e*f))(j:inR (a*b+c*d+e*f))(k:inR (g*h))(m:inR (a*b+c*d+e*f+g*h)) :
  cA (n+1) 394 [.sl [I a,I b,I c,I d,I e,I f,I g,I h]]=some (I (a*b+c*d+e*f+g*h)):=by
 rw[QJ];delta FU qB qX qL qZ iL iR Jn;exact aW (gF 0 (l:=[I a,I b,I c,I d,I e,I f,I g,I h]) (s:=0) (t:=a*b) j3 rfl rfl h1 (by rw[zrc];exact h1) (zrc _)) (aW (gF 2 j3 rfl rfl h2 h3 rfl) (aW (gF 4 j3 rfl rfl i j rfl) (aW (gF 6 j3 rfl rfl k m rfl) (dW (AB 8 j3 rfl) rfl))))
def dA(q:Nat->Int):Nat->Int
 | 0=>q 0*q 0+q 1*q 1-q 2*q 2-q 3*q 3
 | 1=>2*(q 1*q 2-q 0*q 3)
 | 2=>2*(q 1*q 3+q 0*q 2)
 | 3=>2*(q 1*q 2+q 0*q 3)
 | 4=>q 0*q 0-q 1*q 1+q 2*q 2-q 3*q 3
 | 5=>2*(q 2*q 3-q 0*q 1)
 | 6=>2*(q 1*q 3-q 0*q 2)
 | 7=>2*(q 2*q 3+q 0*q 1)
 | _=>q 0*q 0-q 1*q 1-q 2*q 2+q 3*q 3
def OM(m:Nat->Int):D:=.st [I (m 0),I (m 1),I (m 2),I (m 3),I (m 4),I (m 5),I (m 6),I (m 7),I (m 8)]
def rS{k:Nat}(h:k<9)(m:Nat->Int):D.get (OM m) [k]=some (I (m k)):=by
 match k,h with
 | 0,_=>rfl
 | 1,_=>rfl
 | 2,_=>rfl
 | 3,_=>rfl
 | 4,_=>rfl
 | 5,_=>rfl
 | 6,_=>rfl
 | 7,_=>rfl
 | 8,_=>rfl
 | k+9,h=>omega
def CY(q:Nat->Int):Prop:=∀ i,i<4->(q i).natAbs<=64
def qq{q:Nat->Int}(h:CY q){i j:Nat}(a:i<4)(b:j<4):-4096<=q i*q j/\q i*q j<=4096:=by
 have:(q i*q j).natAbs<=64*64:=by rw[zOa];exact z5a (h i a) (h j b)
 omega
def aM{x:Int}(h:-4000000000<=x/\x<=4000000000):inR x:=by simp only[inR];omega
def jl{q:Nat->Int}(h:CY q)(k:Nat):-16384<=dA q k/\dA q k<=16384:=by
 have a:=qq h (i:=0) (j:=0) j2 j2;have e:=qq h (i:=1) (j:=1) j2 j2;have a22:=qq h (i:=2) (j:=2) j2 j2;have a33:=qq h (i:=3) (j:=3) j2 j2
 have b:=qq h (i:=0) (j:=1) j2 j2;have c:=qq h (i:=0) (j:=2) j2 j2;have d:=qq h (i:=0) (j:=3) j2 j2
 have a12:=qq h (i:=1) (j:=2) j2 j2;have f:=qq h (i:=1) (j:=3) j2 j2;have a23:=qq h (i:=2) (j:=3) j2 j2
 unfold dA;grind
def Es{a:Int}(h:inR (-a)):acl .neg (I a)=some (I (-a)):=by simp_all [acl,Int.zero_sub,ic]
def xn{a b:Int}(c:2*a=b)(h:inR b):ab7 .mul (D.int .i64 2) (I a)=some (I b):=by subst c;exact cw h
def RL(n:Nat){q:Nat->Int}(h:CY q):cA (n+2) 393 [tU q]=some (OM (dA q)):=by
 have e:=qq h (i:=0) (j:=0) j2 j2;have l:=qq h (i:=1) (j:=1) j2 j2;have a22:=qq h (i:=2) (j:=2) j2 j2;have a33:=qq h (i:=3) (j:=3) j2 j2
 have f:=qq h (i:=0) (j:=1) j2 j2;have g:=qq h (i:=0) (j:=2) j2 j2;have k:=qq h (i:=0) (j:=3) j2 j2
 have a12:=qq h (i:=1) (j:=2) j2 j2;have o:=qq h (i:=1) (j:=3) j2 j2;have a23:=qq h (i:=2) (j:=3) j2 j2
 have h0:=h 0 j2;have h1:=h 1 j2;have h2:=h 2 j2;have h3:=h 3 j2
 have c:acl .neg (I (q 0))=some (I (-(q 0))):=Es (aM j1)
 have n1:acl .neg (I (q 1))=some (I (-(q 1))):=Es (aM j1)
 have n2:acl .neg (I (q 2))=some (I (-(q 2))):=Es (aM j1)
 have d:acl .neg (I (q 3))=some (I (-(q 3))):=Es (aM j1)
 have m:∀ a b:Int,-a*b=-(a*b):=λa b=>Int.neg_mul a b;rw[Y9];delta Md qG qB Jn;refine j0 (I (q 0)) (j0 (I (q 1)) (j0 (I (q 2)) (j0 (I (q 3)) (aa n2 (aa d ?_)))));refine aa (zg n (aM j1) (aM j1) (aM j1) (aM (by rw[m];omega)) (aM (by rw[m];omega)) (aM (by rw[m];omega)) (aM (by rw[m,m];omega))) ?_
 refine aa c (aa (rE n (aM j1) (aM (by rw[m];omega)) (aM (by rw[m];omega))) (aa (xn (b:=dA q 1) (by show _=2*(q 1*q 2-q 0*q 3);rw[m];omega) (aM (by have:=jl h 1;omega))) ?_))
 refine aa (rE n (aM j1) (aM j1) (aM j1)) (aa (xn (b:=dA q 2) rfl (aM (by have:=jl h 2;omega))) ?_)
 refine aa (rE n (aM j1) (aM j1) (aM j1)) (aa (xn (b:=dA q 3) rfl (aM (by have:=jl h 3;omega))) ?_)
 refine aa n1 (aa d (aa (zg n (aM j1) (aM (by rw[m];omega)) (aM (by rw[m];omega)) (aM j1) (aM (by rw[m];omega)) (aM (by rw[m];omega)) (aM (by rw[m,m];omega))) ?_))
 refine aa c (aa (rE n (aM j1) (aM (by rw[m];omega)) (aM (by rw[m];omega))) (aa (xn (b:=dA q 5) (by show _=2*(q 2*q 3-q 0*q 1);rw[m];omega) (aM (by have:=jl h 5;omega))) ?_))
 refine aa c (aa (rE n (aM j1) (aM (by rw[m];omega)) (aM (by rw[m];omega))) (aa (xn (b:=dA q 6) (by show _=2*(q 1*q 3-q 0*q 2);rw[m];omega) (aM (by have:=jl h 6;omega))) ?_))
 refine aa (rE n (aM j1) (aM j1) (aM j1)) (aa (xn (b:=dA q 7) rfl (aM (by have:=jl h 7;omega))) ?_)
 refine aa n1 (aa n2 (aa (zg n (aM j1) (aM (by rw[m];omega)) (aM (by rw[m];omega)) (aM (by rw[m];omega)) (aM (by rw[m,m];omega)) (aM j1) (aM (by rw[m,m];omega))) ?_))
 have p:q 0*q 0+q 1*q 1+-(q 2)*q 2+-(q 3)*q 3=dA q 0:=by show _=q 0*q 0+q 1*q 1-q 2*q 2-q 3*q 3;rw[m,m];omega
 have r:q 0*q 0+-(q 1)*q 1+q 2*q 2+-(q 3)*q 3=dA q 4:=by show _=q 0*q 0-q 1*q 1+q 2*q 2-q 3*q 3;rw[m,m];omega
 have s:q 0*q 0+-(q 1)*q 1+-(q 2)*q 2+q 3*q 3=dA q 8:=by show _=q 0*q 0-q 1*q 1-q 2*q 2+q 3*q 3;rw[m,m];omega
 rw[p,r,s];rfl
def cF(q:Nat->Int)(v:V)(i:Nat):Int:=dA q (3*i)*v.x+dA q (3*i+1)*v.y+dA q (3*i+2)*v.z
def ap(q:Nat->Int):Int:=q 0*q 0+q 1*q 1+q 2*q 2+q 3*q 3
def yr{q:Nat->Int}(h:CY q)(k:Nat){x:Int}(hx:x.natAbs<=4096):-67108864<=dA q k*x/\dA q k*x<=67108864:=by
 have:=jl h k;have:(dA q k*x).natAbs<=16384*4096:=by rw[zOa];exact z5a j1 hx
 omega
def lG{q:Nat->Int}(h:CY q){v:V}(d:bd 4096 v)(i:Nat):-201326592<=cF q v i/\cF q v i<=201326592:=by obtain⟨v1,v2,v3⟩:=mR (k:=4096) d;have a:=yr h (3*i) v1;have b:=yr h (3*i+1) v2;have c:=yr h (3*i+2) v3;grind [cF]
def ct{q:Nat->Int}(h:CY q)(h0:∃ i,i<4/\q i≠0):0<ap q/\ap q<=16384:=by
 have a:=qq h (i:=0) (j:=0) j2 j2;have b:=qq h (i:=1) (j:=1) j2 j2;have a22:=qq h (i:=2) (j:=2) j2 j2;have a33:=qq h (i:=3) (j:=3) j2 j2
 have d:=nG (q 0);have e:=nG (q 1);have f:=nG (q 2);have g:=nG (q 3);have pos:∀ x:Int,x≠0->0<x*x:=λx hx=>by
  have:=nG x;rcases zWa this with h|h
  ·exact h
  ·rcases z8a.1 h.symm with h|h<;>exact z3a h hx
 obtain⟨i,c,hq⟩:=h0;have hp:=pos _ hq;unfold ap;refine⟨?_,j1⟩
 match i,c with
 | 0,_=>omega
 | 1,_=>omega
 | 2,_=>omega
 | 3,_=>omega
 | k+4,h=>omega
def IP(f:Nat->Int):D:=.st [I (f 0),I (f 1),I (f 2)]
def Gt{k:Nat}(h:k<9):D.idx (I (k:Int)) 9=some k:=aq h
def XC(n:Nat){q:Nat->Int}(h:CY q){v:V}(f:bd 4096 v):cA (n+3) 386 [tU q,ae v]=some (IP (cF q v)):=by
 obtain⟨v1,v2,v3⟩:=mR (k:=4096) f;rw[S4];delta HL qG qB qC qJ qZ iL iR Jn;refine aa (RL n h) ?_;refine yc (l0:=[I 0,I 0,I 0]) (λi=>I (cF q v i)) rfl (λi e l hl m=>?_) (λl=>aa af (aa ac (aU j2 rfl))) rfl
 have a:=yr h (3*i) v1;have b:=yr h (3*i+1) v2;have c:=yr h (3*i+2) v3;have d:ab7 .mul (D.int .i64 3) (I (i:Int))=some (I ((3*i:Nat):Int)):=C3 (a:=3) (b:=i) j1
 have g:ab7 .add (I ((3*i:Nat):Int)) (D.int .i64 1)=some (I ((3*i+1:Nat):Int)):=bc (a:=3*i) (b:=1) j1
 have j:ab7 .add (I ((3*i:Nat):Int)) (D.int .i64 2)=some (I ((3*i+2:Nat):Int)):=bc (a:=3*i) (b:=2) j1
 refine aa af (aa ac (aO (by show(i:Int)<3;omega) ?_))
 refine aa d (aa (Gt j1) (aa (rS j1 _) (j0 (I v.x) ?_)))
 refine aa d (aa g (aa (Gt j1) (aa (rS j1 _) (j0 (I v.y) ?_))))
 refine aa d (aa j (aa (Gt j1) (aa (rS j1 _) (j0 (I v.z) ?_))))
 refine aa (Ip (n+1) (aM j1) (aM j1) (aM j1) (aM j1) (aM j1)) ?_
 exact aa (aq e) (aa (sN j1) (aa (bc (a:=i) (b:=1) j1) rfl))
def RK(n:Nat){q:Nat->Int}(h:CY q):cA (n+3) 385 [tU q]=some (I (ap q)):=by
 have a:=qq h (i:=0) (j:=0) j2 j2;have b:=qq h (i:=1) (j:=1) j2 j2;have a22:=qq h (i:=2) (j:=2) j2 j2;have a33:=qq h (i:=3) (j:=3) j2 j2
 rw[Y7];unfold L8;refine aa (z:=I (ap q)) ?_ rfl;rw[Y8];delta L9 qG;refine j0 (I (q 0)) (j0 (I (q 0)) (j0 (I (q 1)) (j0 (I (q 1)) (j0 (I (q 2)) (j0 (I (q 2)) (j0 (I (q 3)) (j0 (I (q 3)) ?_)))))));exact aa (zg n (aM j1) (aM j1) (aM j1) (aM j1) (aM j1) (aM j1) (aM j1)) rfl
def to{x:Int}(h:-4611686018427387904<=x/\x<=4611686018427387904):inR x:=by simp only[inR];omega
def sA{q:Nat->Int}(h:CY q)(k:Nat){x:Int}(hx:x.natAbs<=1099511627776):-18014398509481984<=dA q k*x/\dA q k*x<=18014398509481984:=by
 have:=jl h k;have:(dA q k*x).natAbs<=16384*1099511627776:=by rw[zOa];exact z5a j1 hx
 omega
def EG(n:Nat){q:Nat->Int}(h:CY q){v:V}(f:bd 1099511627776 v):cA (n+3) 386 [tU q,ae v]=some (IP (cF q v)):=by
 obtain⟨v1,v2,v3⟩:=mR (k:=1099511627776) f;rw[S4];delta HL qG qB qC qJ qZ iL iR Jn;refine aa (RL n h) ?_;refine yc (l0:=[I 0,I 0,I 0]) (λi=>I (cF q v i)) rfl (λi e l hl m=>?_) (λl=>aa af (aa ac (aU j2 rfl))) rfl
 have a:=sA h (3*i) v1;have b:=sA h (3*i+1) v2;have c:=sA h (3*i+2) v3;have d:ab7 .mul (D.int .i64 3) (I (i:Int))=some (I ((3*i:Nat):Int)):=C3 (a:=3) (b:=i) j1
 have g:ab7 .add (I ((3*i:Nat):Int)) (D.int .i64 1)=some (I ((3*i+1:Nat):Int)):=bc (a:=3*i) (b:=1) j1
 have j:ab7 .add (I ((3*i:Nat):Int)) (D.int .i64 2)=some (I ((3*i+2:Nat):Int)):=bc (a:=3*i) (b:=2) j1
 refine aa af (aa ac (aO (by show(i:Int)<3;omega) ?_))
 refine aa d (aa (Gt j1) (aa (rS j1 _) (j0 (I v.x) ?_)))
 refine aa d (aa g (aa (Gt j1) (aa (rS j1 _) (j0 (I v.y) ?_))))
 refine aa d (aa j (aa (Gt j1) (aa (rS j1 _) (j0 (I v.z) ?_))))
 refine aa (Ip (n+1) (to j1) (to j1) (to j1) (to j1) (to j1)) ?_
 exact aa (aq e) (aa (sN j1) (aa (bc (a:=i) (b:=1) j1) rfl))
def ls(x:V)(q:Nat->Int)(v:V):V:=⟨cF q v 0+ap q*x.x,cF q v 1+ap q*x.y,cF q v 2+ap q*x.z⟩
def PB:Int:=2305843009415020544
structure PoseOk(x:V)(q:Nat->Int):Prop where
 hx:bd 140737488355327 x
 hq:CY q
 h0:∃ i,i<4/\q i≠0
def yP{x:V}{q:Nat->Int}(h:PoseOk x q){a:Int}(b:-140737488355327<=a/\a<=140737488355327):-2305843009213693952<=ap q*a/\ap q*a<=2305843009213693952:=by
 have s:=ct h.hq h.h0;have:(ap q*a).natAbs<=16384*140737488355327:=by rw[zOa];exact z5a j1 j1
 omega
def vS{x:V}{q:Nat->Int}(h:PoseOk x q){v:V}(a:bd 4096 v):bd PB (ls x q v):=by have t0:=lG h.hq a 0;have t1:=lG h.hq a 1;have t2:=lG h.hq a 2;have s0:=yP h h.hx.1;have s1:=yP h h.hx.2.1;have s2:=yP h h.hx.2.2;simp only[bd,ls,PB];omega
def fM(x:V)(q:Nat->Int)(l:List V):D:=.st [dN x q,de l,I (ap q),bD (l.map (ls x q))]
def SP{x:V}{q:Nat->Int}{l:List V}{i:Nat}(a:i<l.length):((l.take i).map λv=>ae (ls x q v))++[ae (ls x q l[i])]=(l.take (i+1)).map λv=>ae (ls x q v):=by rw[List.take_add_one,zca a];simp only[Option.toList_some,zLb,zbb,zld]
def Ga(n:Nat){x:V}{q:Nat->Int}(h:PoseOk x q){l:List V}(hl:∀ v∈l,bd 4096 v)(hlen:l.length<=100):cA (n+4) 433 [dN x q,de l]=some (fM x q l):=by
 rw[Zg];delta Mj qG qB qC qS qX qJ qV qW qZ iL iR Jn;refine j0 (tU q) (aa (RK n h.hq) (j0 (bD l) (j0 (l.map ae) ?_)));obtain⟨Z,hZ⟩:∃ Z,D.st [D.st [I 0,I 0,I 0],D.st [I 0,I 0,I 0,I 0]]=Z:=⟨_,rfl⟩;refine cD (λi s=>s=[I (i:Int),Z,.sl [],I 0,.sl [],dN x q,de l,I (ap q),.sl ((l.take i).map λv=>ae (ls x q v))]) l.length 0 (zxa _) (by rw[<-hZ];rfl) (λi d s hs=>?_) (λs hs=>?_)
 ·subst hs;left;have e:bd 4096 l[i]:=hl _ (zDa d);have t0:=lG h.hq e 0;have t1:=lG h.hq e 1;have t2:=lG h.hq e 2;have s0:=yP h h.hx.1;have s1:=yP h h.hx.2.1;have s2:=yP h h.hx.2.2;refine⟨_,?_,rfl⟩;refine aa af (aa ac (aO (by rw[bQ];omega) ?_))
  refine j0 (l.map ae) (aa (z:=i) (by rw[bQ];exact aq d) (aa (z:=ae l[i]) (by simp[d]) ?_))
  refine j0 (tU q) (aa (XC n h.hq e) ?_);obtain⟨L,hL⟩:∃ L,((l.take i).map λv=>ae (ls x q v))=L:=⟨_,rfl⟩;obtain⟨v,c⟩:∃ v,l[i]=v:=⟨_,rfl⟩;rw[<-SP d,c,hL];rw[c] at t0 t1 t2;refine aW (s':=[I 1,Z,.sl [],I 0,.sl [],dN x q,de l,I (ap q),.sl L,.st [I (ls x q v).x,I (cF q v 1),I (cF q v 2)]]) ?_ (aW (s':=[I 2,Z,.sl [],I 0,.sl [],dN x q,de l,I (ap q),.sl L,.st [I (ls x q v).x,I (ls x q v).y,I (cF q v 2)]]) ?_ (aW (s':=[I 3,Z,.sl [],I 0,.sl [],dN x q,de l,I (ap q),.sl L,ae (ls x q v)]) ?_ (dW (r:=(0,[Z,.sl [],I 0,.sl [],dN x q,de l,I (ap q),.sl L,ae (ls x q v)])) ?_ ?_)))
  ·exact j0 (.bool true) (j0 true (gI (j0 0 (j0 (I (cF q v 0)) (j0 0 (j0 (I x.x) (aa (cw (to j1)) (aa (ay (by simp only[inR];omega)) (j0 0 (j0 (.st [I (ls x q v).x,I (cF q v 1),I (cF q v 2)]) (j0 (I 1) rfl)))))))))))
  ·exact j0 (.bool true) (j0 true (gI (j0 1 (j0 (I (cF q v 1)) (j0 1 (j0 (I x.y) (aa (cw (to j1)) (aa (ay (by simp only[inR];omega)) (j0 1 (j0 (.st [I (ls x q v).x,I (ls x q v).y,I (cF q v 2)]) (j0 (I 2) rfl)))))))))))
  ·exact j0 (.bool true) (j0 true (gI (j0 2 (j0 (I (cF q v 2)) (j0 2 (j0 (I x.z) (aa (cw (to j1)) (aa (ay (by simp only[inR];omega)) (j0 2 (j0 (ae (ls x q v)) (j0 (I 3) rfl)))))))))))
  ·exact j0 (.bool false) (j0 false rfl)
  ·have hn:List.length (D.els (.sl L))+List.length [ae (ls x q v)]<=1073741824:=by
    rw[<-hL];show((l.take i).map _).length+1<=_;simp;omega
   refine(zma hn).trans ?_;exact aa (bc (a:=i) (b:=1) j1) rfl
 ·subst hs;refine⟨_,aa af (aa ac (aU (by rw[bQ];omega) rfl)),?_⟩
  rw[zhb (zja _)];simp only[fM,bD,List.map_map];rfl
def NB:Int:=2305843009213693951
def xD{u v:V}(hu:bd NB u)(c:bd PB v):(u.x*v.x).natAbs<=2^123/\(u.y*v.y).natAbs<=2^123/\(u.z*v.z).natAbs<=2^123:=by
 have key:∀ a b:Int,(-NB<=a/\a<=NB)->(-PB<=b/\b<=PB)->(a*b).natAbs<=2^123:=λa b d e=>by rw[zOa];simp only[NB,PB] at d e;exact bu (i:=61) (j:=62) (by rw[show(2:Nat)^61=2305843009213693952 from rfl];omega) (by rw[show(2:Nat)^62=4611686018427387904 from rfl];omega) j2
 exact⟨key _ _ hu.1 c.1,key _ _ hu.2.1 c.2.1,key _ _ hu.2.2 c.2.2⟩
def uX{u v:V}(hu:bd NB u)(a:bd PB v):In (u.x*v.x)/\In (u.y*v.y)/\In (u.z*v.z)/\In (u.x*v.x+u.y*v.y)/\In (V.dot u v):=by obtain⟨h1,h2,h3⟩:=xD hu a;have b:=znc (u.x*v.x) (u.y*v.y);have c:=znc (u.x*v.x+u.y*v.y) (u.z*v.z);exact⟨ff j2 h1,ff j2 h2,ff j2 h3,ff (k:=130) j2 j1,ff (k:=130) j2 (by unfold V.dot;omega)⟩
def Dp{u:V}(hu:bd NB u):inR u.x/\inR u.y/\inR u.z:=by simp only[bd,NB] at hu;simp only[inR];omega
def Dq{u:V}(hu:bd PB u):inR u.x/\inR u.y/\inR u.z:=by simp only[bd,PB] at hu;simp only[inR];omega
def PH(n:Nat){u v:V}(hu:bd NB u)(d:bd PB v):cA (n+6) 91 [ae u,ae v]=some (ah (V.dot u v)):=by
 obtain⟨a1,a2,a3⟩:=Dp hu;obtain⟨a,b,c⟩:=Dq d;obtain⟨i1,i2,i3,e,g⟩:=uX hu d;have f:In 0:=bC (ew 0);rw[u91];unfold TJ;refine aa (MU (n+2) a1 a2 a3) (aa (MU (n+2) a b c) (aa (z:=ah (V.dot u v)) ?_ rfl));rw[YF];delta LA qB qC qJ qZ iL iR Jn;refine aa (zh (n+2) (ew 0)) ?_;refine aW (s':=[I 1,ah (u.x*v.x)]) ?_ (aW (s':=[I 2,ah (u.x*v.x+u.y*v.y)]) ?_ (aW (s':=[I 3,ah (V.dot u v)]) ?_ (dW (r:=(0,[ah (V.dot u v)])) ?_ rfl)))
 ·exact j0 (.bool true) (j0 true (gI (j0 0 (j0 (ah u.x) (j0 0 (j0 (ah v.x) (aa (ID (n+1) (bC a1) (bC a) i1) (aa (It n f i1 (by rw[zrc];exact i1)) (j0 (I 1) (by rw[zrc]))))))))))
 ·exact j0 (.bool true) (j0 true (gI (j0 1 (j0 (ah u.y) (j0 1 (j0 (ah v.y) (aa (ID (n+1) (bC a2) (bC b) i2) (aa (It n i1 i2 e) (j0 (I 2) rfl)))))))))
 ·exact j0 (.bool true) (j0 true (gI (j0 2 (j0 (ah u.z) (j0 2 (j0 (ah v.z) (aa (ID (n+1) (bC a3) (bC c) i3) (aa (It n e i3 g) (j0 (I 3) rfl)))))))))
 ·exact j0 (.bool false) (j0 false rfl)
def AT(u:V)(L:List V):Nat->Int
 | 0=>V.dot u (pt L 0)
 | k+1=>if V.dot u (pt L (k+1))>AT u L k then V.dot u (pt L (k+1)) else AT u L k
def vJ(u:V)(L:List V)(k:Nat):AT u L (k+1)=if V.dot u (pt L (k+1))>AT u L k then V.dot u (pt L (k+1)) else AT u L k:=rfl
def gD{L:List V}{i:Nat}(h:i<L.length):pt L i∈L:=by unfold pt;rw[z2a,zca h];exact zDa h
def Ah{L:List V}{i:Nat}(h:i<L.length):(L.map ae)[i]?=some (ae (pt L i)):=by unfold pt;rw[zib,z2a,zca h];rfl
theorem DA{u:V}{L:List V}(hu:bd NB u)(hL:∀ v∈L,bd PB v):∀ k,k<L.length->In (AT u L k)
 | 0,h=>(uX hu (hL _ (gD h))).2.2.2.2
 | k+1,h=>by
  unfold AT;split
  ·exact(uX hu (hL _ (gD h))).2.2.2.2
  ·exact DA hu hL k j1
def Nc(a b:Int):decide (bg a b>0)=decide (a>b):=by unfold bg;split<;>(try split)<;>simp<;>omega
def eZ(u x:V)(q:Nat->Int)(l:List V):Rat:=Rat.divInt (AT u (l.map (ls x q)) (l.length-1)) (ap q)
def Ag{x:V}{q:Nat->Int}(h:PoseOk x q){l:List V}(hl:∀ v∈l,bd 4096 v):∀ v∈l.map (ls x q),bd PB v:=λv a=>by obtain⟨w,hw,rfl⟩:=zNa.1 a;exact vS h (hl w hw)
def pC{x:V}{q:Nat->Int}(h:PoseOk x q):inR (ap q)/\ap q≠0:=by have:=ct h.hq h.h0;exact⟨by simp only[inR];omega,j1⟩
def ny{u x:V}{q:Nat->Int}(hu:bd NB u)(h:PoseOk x q){l:List V}(hl:∀ v∈l,bd 4096 v)(h0:0<l.length):InR (eZ u x q l):=
 dQ (DA hu (Ag h hl) _ (by simp;omega)) (bC (pC h).1) (pC h).2
def Iq(n:Nat){u x:V}{q:Nat->Int}(hu:bd NB u)(h:PoseOk x q){l:List V}(hl:∀ v∈l,bd 4096 v)(h0:0<l.length)(hlen:l.length<=100):cA (n+1031) 435 [fM x q l,ae u]=some (kB (eZ u x q l)):=by
 have hs:=pC h;have hP:=Ag h hl;have c:=DA hu hP;unfold fM eZ;obtain⟨L,hL⟩:∃ L,l.map (ls x q)=L:=⟨_,rfl⟩;have hk:L.length=l.length:=by rw[<-hL];simp
 rw[hL] at hP c ⊢;rw[Zi];delta Ml qG qB qC qI qY qP qZ iL iR Jn;refine j0 (bD L) (j0 (L.map ae) (aa (z:=0) (by rw[bQ];exact aq (i:=0) j1) (aa (Ah j1) ?_)))
 refine aa (PH (n+1024) hu (hP _ (gD j1))) ?_
 refine j0 (bD L) (j0 (L.map ae) (aa (z:=(L.map ae).drop 1) ?_ ?_))
 ·unfold D.cut;rw[zma ⟨by rw[bQ];omega,zja _⟩,zhb (zja _)]
 have d:((L.map ae).drop 1).length=l.length-1:=by rw[List.length_drop,bQ,hk]
 refine cD (λi s=>s=[I (i:Int),ah (AT u L i)]) (l.length-1) 0 (zxa _) rfl (λi f s e=>?_) (λs e=>?_)
 ·subst e;left;refine⟨_,?_,rfl⟩;have hm:=gD (L:=L) (i:=i+1) j1
  refine aa af (aa ac (aO (by rw[d];omega) ?_))
  refine aa (z:=(0,[ah (AT u L (i+1))])) ?_ (aa (bc (a:=i) (b:=1) j1) rfl)
  refine aa (z:=i) (by rw[d];exact aq f) (aa (z:=ae (pt L (i+1))) (by rw[z9b,zTc];exact Ah j1) ?_)
  refine aa (PH (n+1024) hu (hP _ hm)) (aa (TR (n+1026) (uX hu (hP _ hm)).2.2.2.2 (c i j1)) ?_)
  refine aa (z:=.bool (decide (V.dot u (pt L (i+1))>AT u L i))) (by rw[<-Nc];exact dM) (aa ac ?_)
  rw[vJ];by_cases hc:V.dot u (pt L (i+1))>AT u L i
  ·rw[zma hc];exact aO hc rfl
  ·rw[zia hc];exact aU hc rfl
 ·subst e;refine⟨_,aa af (aa ac (aU (by rw[d];omega) rfl)),?_⟩
  exact j0 (I (ap q)) (aa (zh (n+1028) hs.1) (aa (PD n (c _ j1) (bC hs.1) hs.2) rfl))
def Ko{x y:Int}(hy:0<y):(0<=x/\x/y=x.tdiv y/\x%y=x.tmod y/\0<=x.tmod y)\/(x<0/\x.tmod y=0/\x/y=x.tdiv y/\x%y=0)\/(x<0/\x.tmod y<0/\x/y=x.tdiv y-1/\x%y=x.tmod y+y):=by
 have e:=Int.mul_tdiv_add_tmod x y;have l:=Int.tmod_lt_of_pos x hy;have c:=Int.lt_tmod_of_pos x hy;by_cases hx:0<=x
 ·have h0:=Int.tmod_nonneg y hx;have:=(Int.ediv_emod_unique (a:=x) (q:=x.tdiv y) (r:=x.tmod y) hy).2 ⟨j1,h0,l⟩
  exact .inl ⟨hx,this.1,this.2,h0⟩
 ·have h0:x.tmod y<=0:=by
   have h1:=Int.tmod_nonneg y (show 0<=-x by omega)
   rw[Int.neg_tmod] at h1;omega
  by_cases hz:x.tmod y=0
  ·have:=(Int.ediv_emod_unique (a:=x) (q:=x.tdiv y) (r:=x.tmod y) hy).2 ⟨j1,j1,l⟩
   exact .inr (.inl ⟨j1,hz,this.1,by rw[this.2,hz]⟩)
  ·have b:y*(x.tdiv y-1)=y*x.tdiv y-y:=by rw[Int.mul_sub,Int.mul_one]
   have:=(Int.ediv_emod_unique (a:=x) (q:=x.tdiv y-1) (r:=x.tmod y+y) hy).2 ⟨j1,j1,j1⟩
   exact .inr (.inr ⟨j1,j1,this.1,this.2⟩)
def JG{x y:Int}(hy:0<y):(0<=x/\x/y=((x.natAbs/y.natAbs:Nat):Int)/\x%y=((x.natAbs%y.natAbs:Nat):Int))\/(x<0/\x.natAbs%y.natAbs=0/\x/y=-((x.natAbs/y.natAbs:Nat):Int)/\x%y=0) ∨
  (x<0/\0<x.natAbs%y.natAbs/\x/y=-((x.natAbs/y.natAbs:Nat):Int)-1/\x%y=((y.natAbs-x.natAbs%y.natAbs:Nat):Int)):=by
 have e:=zsc x.natAbs y.natAbs;have l:=z4a x.natAbs (show 0<y.natAbs by omega)
 have c:(y.natAbs:Int)=y:=j1
 have f:y*((x.natAbs/y.natAbs:Nat):Int)+((x.natAbs%y.natAbs:Nat):Int)=(x.natAbs:Int):=by rw[<-e,zXc,z1a,c,e]
 generalize x.natAbs/y.natAbs=Q at *;generalize x.natAbs%y.natAbs=R at *;by_cases hx:0<=x
 ·have:=(Int.ediv_emod_unique (a:=x) (q:=Q) (r:=R) hy).2 ⟨j1,j1,j1⟩
  exact .inl ⟨hx,this⟩
 ·have b:y*-(Q:Int)=-(y*Q):=zGb ..;by_cases hz:R=0
  ·have:=(Int.ediv_emod_unique (a:=x) (q:=-Q) (r:=0) hy).2 ⟨j1,j1,j1⟩
   exact .inr (.inl ⟨j1,hz,this⟩)
  ·have d:y*(-(Q:Int)-1)=-(y*Q)-y:=by rw[Int.mul_sub,Int.mul_one,b]
   have:=(Int.ediv_emod_unique (a:=x) (q:=-Q-1) (r:=((y.natAbs-R:Nat):Int)) hy).2 ⟨j1,j1,j1⟩
   exact .inr (.inr ⟨j1,j1,this⟩)
def HN{x y:Int}(hy:In y)(h:0<y):In (x%y):=by
 have a:=Int.emod_nonneg x (show y≠0 by omega)
 have b:=Int.emod_lt_of_pos x h;unfold In at *;omega
def lK{x y:Int}(h:0<y):0<=x%y/\x%y<y:=⟨Int.emod_nonneg x j1,Int.emod_lt_of_pos x h⟩
def OA(n:Nat){x y:Int}(hx:In x)(hy:In y)(k:0<y):cA (n+6) 172 [ah x,ah y]=some (.tup [ah (x/y),ah (x%y)]):=by
 have K:(x/y).natAbs<=x.natAbs:=Int.natAbs_ediv_le_natAbs x y;have G:In (x/y):=nv hx y;have L:=lK (x:=x) k;rw[QI];delta FS qG qB qT qN Jn;have r:cA (n+5) 118 [.sl [ah x,ah y]]=some (.bool true):=rC (n+3) (a:=some x) (b:=some y) (aY hx) (aY hy);have d:∀ a b:Int,D.beq (I a) (.int .i64 b)=decide (a=b):=λa b=>cg;refine aa r (aa bA (j0 false (aa (z:=false) ?_ (j0 false ?_))))
 ·rw[zia j2]
  refine aa (rD (n+2) hy) ?_;rw[d,zea (Kd j1)];rfl
 rw[zia j2]
 by_cases fast:(inR x/\x≠-9223372036854775808)/\inR y/\y≠-9223372036854775808
 ·obtain⟨⟨A,e⟩,B,C⟩:=fast;have j:cA (n+5) 202 [ah x]=some (.tup [I x,.bool true]):=by
   rcases zf (n+1) hx with⟨_,h⟩|⟨h,_⟩
   ·exact h
   ·simp_all
  have l:cA (n+5) 202 [ah y]=some (.tup [I y,.bool true]):=by
   rcases zf (n+1) hy with⟨_,h⟩|⟨h,_⟩
   ·exact h
   ·simp_all
  simp only[inR] at A B;have g:inR (x/y):=by simp only[inR];omega
  have f:inR (x%y):=by simp only[inR];omega
  refine aa (z:=(0,[ah (x/y),ah (x%y)])) ?_ rfl;refine aa j (j0 (I x) (j0 (.bool true) (j0 true (aa (z:=true) ?_ (j0 true ?_)))))
  ·rw[zma rfl,d,zea e];rfl
  rw[zma rfl];refine aa l (j0 (I y) (j0 (.bool true) (j0 true (aa (z:=true) ?_ (j0 true ?_)))))
  ·rw[zma rfl,d,zea C];rfl
  rw[zma rfl];have H:inR (x.tdiv y):=by
   have:(x.tdiv y).natAbs<=x.natAbs:=by rw[Int.natAbs_tdiv];exact zzc _ _
   grind [inR]
  refine aa (uD j1 H) (aa (j6 j1) (aa (z:=(0,[I (x/y),I (x%y)])) ?_ (aa (zh (n+3) g) (aa (zh (n+3) f) rfl))))
  refine aa ac ?_;rw[d];rcases Ko (x:=x) k with⟨h0,h1,h2,h3⟩|⟨h0,h1,h2,h3⟩|⟨h0,h1,h2,h3⟩
  ·rw[h1,h2];refine aa (z:=false) ?_ (aa ac rfl);by_cases hz:x.tmod y=0
   ·simp_all
   ·rw[zea hz];refine gI (aa af (aa af ?_));rw[zea j1,zea j1];rfl
  ·rw[h2,h3,h1];exact j0 false (aa ac rfl)
  ·rw[zea (show ¬ x.tmod y=0 by omega)]
   refine aa (z:=true) (gI (aa af (aa af ?_))) (aa ac ?_)
   ·rw[zha j1,zea j1];rfl
   ·rw[h2] at g ⊢;rw[h3] at f ⊢;exact gI (aa (fg g) (aa (ay f) rfl))
 ·refine aa (z:=(1,[.st [.bool false,.bool false,ar aR],.st [.bool false,.bool false,ar aR]])) ?_ ?_
  ·rcases zf (n+1) hx with⟨A,h⟩|⟨A,h⟩
   ·by_cases e:x=-9223372036854775808
    ·refine aa h (j0 (I x) (j0 (.bool true) (j0 true (aa (z:=false) ?_ (j0 false rfl)))));rw[zma rfl,d,zha e];rfl
    ·refine aa h (j0 (I x) (j0 (.bool true) (j0 true (aa (z:=true) ?_ (j0 true ?_)))))
     ·rw[zma rfl,d,zea e];rfl
     rw[zma rfl];rcases zf (n+1) hy with⟨B,h2⟩|⟨B,h2⟩
     ·simp_all
     ·exact aa h2 (j0 (I 0) (j0 (.bool false) (j0 false (j0 false (j0 false rfl)))))
   ·exact aa h (j0 (I 0) (j0 (.bool false) (j0 false (j0 false (j0 false rfl)))))
  rw[zia j2]
  have v:=aQ.1 hx;have m:=aQ.1 hy;have u:x.natAbs/y.natAbs<ed:=z0a (zzc _ _) v;have i:x.natAbs%y.natAbs<ed:=zvc (z4a _ j1) m
  refine aa (jg x) (aa (jg y) (aa (Pt (n+1) v m j1) (j0 (LM (x.natAbs/y.natAbs)) (j0 (LM (x.natAbs%y.natAbs)) (aa (c8 x) (aa (c8 y) ?_))))))
  have E:(!(D.beq (.bool (decide (x<0))) (.bool (decide (y<0)))))=decide (x<0):=by grind [D.beq]
  rw[E,jb,mP i fZ];refine aa (tQ (n+4) _ u) ?_;have c:∀ Q:Nat,(Q:Int)=x%y->Q<ed->cA (n+5) 116 [.bool (decide (y<0)),LM Q]=some (ah (x%y)):=λQ J ht=>by rw[tQ (n+4) _ ht,zea (show ¬ y<0 by omega),show sgn false Q=(Q:Int) from rfl,J]
  rcases JG (x:=x) k with⟨o,p,q⟩|⟨o,p,q,w⟩|⟨o,p,q,w⟩
  ·refine aa (z:=(0,[LM (x.natAbs%y.natAbs),ah (x/y)])) ?_ (aa (c8 y) (aa (c _ q.symm i) rfl));have hs:sgn (decide (x<0)) (x.natAbs/y.natAbs)=x/y:=by unfold sgn;rw[zea j1];simp[p]
   rw[hs];refine j0 (!decide (x.natAbs%y.natAbs=0)) (aa (z:=false) ?_ (j0 false rfl));cases (!decide (x.natAbs%y.natAbs=0))
   ·rfl
   ·refine gI (aa (c8 x) (aa (c8 y) ?_));rw[E,zea j1];rfl
  ·refine aa (z:=(0,[LM (x.natAbs%y.natAbs),ah (x/y)])) ?_ (aa (c8 y) (aa (c _ (by rw[p,w];rfl) i) rfl))
   have hs:sgn (decide (x<0)) (x.natAbs/y.natAbs)=x/y:=by unfold sgn;rw[zha o];simp[q]
   rw[hs,zha p];exact j0 false (j0 false (j0 false rfl))
  ·have F:=z4a x.natAbs (show 0<y.natAbs by omega)
   refine aa (z:=(0,[LM (y.natAbs-x.natAbs%y.natAbs),ah (x/y)])) ?_ (aa (c8 y) (aa (c _ w.symm j1) rfl))
   have hs:sgn (decide (x<0)) (x.natAbs/y.natAbs)=-((x.natAbs/y.natAbs:Nat):Int):=by unfold sgn;rw[zha o];rfl
   rw[hs,zea (show ¬ x.natAbs%y.natAbs=0 by omega)]
   refine j0 true (aa (z:=true) ?_ (j0 true (gI ?_)))
   ·refine gI (aa (c8 x) (aa (c8 y) ?_));rw[E,zha o];rfl
   ·have i1:In (1:Int):=bC (ew 1);have t:In (-((x.natAbs/y.natAbs:Nat):Int)):=by rw[aQ,zFb,zwa];exact u
    have s:cA (n+5) 203 [ah (-((x.natAbs/y.natAbs:Nat):Int)),ah 1]=some (ah (x/y)):=by
     rw[SY];unfold HJ;have hm:In (-1:Int):=bC (ew (-1));refine aa (Fg (n+1) i1) (aa (It n t hm (by rw[show -((x.natAbs/y.natAbs:Nat):Int)+-1=x/y by rw[q];rfl];exact G)) ?_)
     grind
    exact aa (zh (n+3) (ew 1)) (aa s (aa (jg y) (aa (Pr (n+4) m (zyc F)) rfl)))
def sW(n:Nat){x y:Int}(hx:In x)(hy:In y)(a:0<y):cA (n+7) 132 [ah x,ah y]=some (ah (x/y)):=by rw[QH];unfold FR;exact aa (OA n hx hy a) (j0 (ah (x/y)) (j0 (ah (x%y)) rfl))
def EE(n:Nat){x y:Int}(hx:In x)(hy:In y)(a:0<y):cA (n+7) 137 [ah x,ah y]=some (ah (x%y)):=by rw[Yy];unfold Lt;exact aa (OA n hx hy a) (j0 (ah (x/y)) (j0 (ah (x%y)) rfl))
def rT{α:Type}{A B y:α}(h:B=y):(if false=true then A else B)=y:=h
def rH(a b c d:Int):Int:=bg (a*d) (c*b)
def xw(x y:Int):bg y x=-bg x y:=by unfold bg;split<;>split<;>(try split)<;>(try split)<;>omega
def zj{x y:Int}(h:x<y):bg x y=-1:=by unfold bg;rw[zma h]
def uN{x y:Int}(h:y<x):bg x y=1:=by unfold bg;rw[zia j1,zma h]
def Bf(x y:Int):-1<=bg x y/\bg x y<=1:=by unfold bg;split<;>(try split)<;>omega
def Be{x y:Int}:bg x y=0↔x=y:=by unfold bg;split<;>(try split)<;>omega
def IC(t x y:Int):bg (t+x) (t+y)=bg x y:=by
 unfold bg;by_cases h:x<y
 ·rw[zma h,zma j1]
 ·rw[zia h,zia j1]
  by_cases h2:x>y
  ·rw[zma h2,zma j1]
  ·rw[zia h2,zia j1]
def yd{a b c d:Int}(g:0<b)(f:0<d)(h:a/b<c/d):a*d<c*b:=by
 have i:=Int.mul_ediv_add_emod a b;have j:=Int.mul_ediv_add_emod c d;have r1:=lK (x:=a) g;have k:=lK (x:=c) f;generalize a/b=Q1 at *;generalize a%b=R1 at *;generalize c/d=Q2 at *;generalize c%d=R2 at *;have l:0<=(Q2-Q1-1)*(b*d):=z9a j1 (zpa (zCa g f))
 have m:0<(b-R1)*d:=zCa j1 f
 have n:0<=R2*b:=z9a k.1 j1
 subst i j;have e:(d*Q2+R2)*b-(b*Q1+R1)*d=(Q2-Q1-1)*(b*d)+(b-R1)*d+R2*b:=h7
 omega
def M9{a b c d:Int}(e:0<b)(f:0<d)(h:a/b≠c/d):bg (a/b) (c/d)=rH a b c d:=by
 unfold rH;rcases znd h with h|h
 ·rw[zj h,zj (yd e f h)]
 ·rw[uN h,uN (yd f e h)]
def M8{a b c d:Int}(h:a/b=c/d):rH a b c d=rH (a%b) b (c%d) d:=by
 have e:=Int.mul_ediv_add_emod a b;have f:=Int.mul_ediv_add_emod c d;unfold rH;rw[<-IC (b*d*(a/b)) (a%b*d) (c%d*b)];congr 1
 ·conv=>lhs;rw[<-e]
  grind
 ·rw[h]
  conv=>lhs;rw[<-f]
  grind
def Gg(a b c d:Int):rH b a d c=-rH a b c d:=by unfold rH;rw[<-xw,zIa b c,zIa d a]
def iX{x:Int}(h:0<x):sg x=1:=by unfold sg;rw[zia j1,zma h]
def IA{a b c d:Int}(e:0<b)(f:0<d)(g:0<=a)(hc:0<=c)(h:a=0\/c=0):sg a-sg c=rH a b c d:=by
 unfold rH;rcases h with rfl|rfl
 ·rw[z7b];by_cases h0:c=0
  ·subst h0;rw[z7b];rfl
  ·rw[zj (zCa j1 e),iX (x:=c) j1];rfl
 ·rw[z7b];by_cases h0:a=0
  ·subst h0;rw[z7b];rfl
  ·rw[uN (zCa j1 f),iX (x:=a) j1];rfl
def CJ(z:Int)(m:Nat)(st:List D):Prop:=∃ s p d q e:Int,st=[I s,.st [ah p,ah d],.st [ah q,ah e]]/\(s=1\/s=-1)/\0<d/\0<e/\In p/\In d/\In q/\In e/\m=d.natAbs/\s*rH p d q e=z
def H0{s c:Int}(hs:s=1\/s=-1)(hc:-1<=c/\c<=1):ab7 .mul (I s) (I c)=some (I (s*c)):=
 cw (by
      have:c=-1\/c=0\/c=1:=j1
      rcases hs with rfl|rfl<;>rcases this with rfl|rfl|rfl<;>exact ew _)
def Ke(x:Int):-1<=sg x/\sg x<=1:=by unfold sg;split<;>(try split)<;>omega
def jd:Option Rat->Option Rat->Int
 | some x,some y=>rH x.num x.den y.num y.den
 | none,none=>0
 | none,some _=>-1
 | some _,none=>1
def Iz{x y:Rat}(hx:InR x)(hy:InR y):CJ (jd (some x) (some y)) (x.den:Int).natAbs [I 1,kB x,kB y]:=
 ⟨1,x.num,x.den,y.num,y.den,rfl,.inl rfl,by have:=x.den_pos;omega,by have:=y.den_pos;omega,hx.1,hx.2,hy.1,hy.2,rfl,z1b _⟩
def F6(a:Int):D.beq (I a) (.int .i64 0)=decide (a=0):=cg
def Is(n:Nat){a b:Option Rat}(v:OW a)(w:OW b):cA (n+1031) 73 [bo a,bo b]=some (I (jd a b)):=by
 rw[u73];delta Tw qG qB qT qN qZ iL iR Jn;refine aa (f9 n v) (aa (f9 n w) (aa bA (aa ac ?_)));cases a with
 | none=>
  cases b with
  | none=>exact j0 true (aa ac rfl)
  | some y=>exact j0 false (aa ac (rT (aa bA (aa ac rfl))))
 | some x=>
 cases b with
 | none=>exact j0 false (aa ac (rT (aa bA (aa ac (rT (aa bA (aa ac rfl)))))))
 | some y=>
 refine j0 false (aa ac (rT (aa bA (aa ac (rT (aa bA (aa ac (rT ?_))))))));have hx:=v.some;have hy:=w.some;refine zP (CJ (jd (some x) (some y))) _ _ (Iz hx hy) (λm s C=>?_);obtain⟨s,p,d,q,e,rfl,hs,c,he,ip,id,o,i,rfl,l⟩:=C;have j:In (p/d):=nv ip d;have k:In (q/e):=nv o e;have u:=HN (x:=p) id c;have it:=HN (x:=q) i he;have wr:=lK (x:=p) c;have wt:=lK (x:=q) he;by_cases hne:p/d=q/e
 ·have h0:bg (p/d) (q/e)=0:=Be.2 hne;have g:∀ {A:Option (Sum (List D) (Nat×List D))} {B y},B=some y->(if(!(D.beq (I (bg (p/d) (q/e))) (.int .i64 0)))=true then A else B)=some y:=λh=>by
   rw[F6,h0];exact h
  rw[M8 hne] at l;by_cases hr:p%d=0\/q%e=0
  ·right;have f:=IA c he wr.1 wt.1 hr;rw[<-f] at l;refine⟨(0,[I (jd (some x) (some y))]),?_,rfl⟩;refine j0 (ah p) (j0 (ah d) (aa (sW (n+1023) ip id c) (j0 (ah q) (j0 (ah e) (aa (sW (n+1023) o i he) (aa (TR (n+1026) j k) (aa ac (g ?_))))))));refine j0 (ah d) (j0 (ah p) (j0 (ah d) (aa (EE (n+1023) ip id c) (j0 (ah e) (j0 (ah q) (j0 (ah e) (aa (EE (n+1023) o i he) ?_)))))));refine aa (rD (n+1027) u) (aa (rD (n+1027) it) (aa ac (aa (z:=true) ?_ (aa ac (gI ?_)))))
   ·rw[F6,F6];by_cases h1:p%d=0
    ·rw[zha (by rw[ib];exact h1)];rfl
    ·rw[zea (by rw[ib];exact h1),zha (by rw[ib];exact hr.resolve_left h1)];rfl
   ·have s1:=Ke (p%d);have s2:=Ke (q%e);have E:-1<=sg (p%d)-sg (q%e)/\sg (p%d)-sg (q%e)<=1:=by rw[f];exact Bf _ _
    refine aa (fg (by simp only[inR];omega)) (aa (H0 hs E) ?_)
    rw[l]
  ·left;have r:p%d≠0:=λh=>hr (.inl h);have t:q%e≠0:=λh=>hr (.inr h);refine⟨(p%d).natAbs,[I (-s),.st [ah d,ah (p%d)],.st [ah e,ah (q%e)]],j1,?_,-s,d,p%d,e,q%e,rfl,j1,j1,j1,id,u,i,it,rfl,?_⟩
   ·refine j0 (ah p) (j0 (ah d) (aa (sW (n+1023) ip id c) (j0 (ah q) (j0 (ah e) (aa (sW (n+1023) o i he) (aa (TR (n+1026) j k) (aa ac (g ?_))))))));refine j0 (ah d) (j0 (ah p) (j0 (ah d) (aa (EE (n+1023) ip id c) (j0 (ah e) (j0 (ah q) (j0 (ah e) (aa (EE (n+1023) o i he) ?_)))))));refine aa (rD (n+1027) u) (aa (rD (n+1027) it) (aa ac (aa (z:=false) ?_ (aa ac ?_))))
    ·rw[F6,F6,zea (by rw[ib];exact r),zea (by rw[ib];exact t)];rfl
    ·exact rT (aa (q8 (a:=s) (by simp only[inR];omega)) rfl)
   ·rw[Gg,Int.neg_mul_neg];exact l
 ·right;have h0:bg (p/d) (q/e)≠0:=λh=>hne (Be.1 h);rw[<-M9 c he hne] at l;refine⟨(0,[I (jd (some x) (some y))]),?_,rfl⟩;refine j0 (ah p) (j0 (ah d) (aa (sW (n+1023) ip id c) (j0 (ah q) (j0 (ah e) (aa (sW (n+1023) o i he) (aa (TR (n+1026) j k) (aa ac ?_)))))));rw[F6,zea h0];refine gI (aa (H0 hs (Bf _ _)) ?_);rw[l]
def B8(z:Int):fF (-z)=(fF z).map (λx=>-x):=by unfold fF;rw[zFb];split<;>rfl
def HV(x y:Rat):AZ (-x) (-y)=GJ (AZ x y):=by
 unfold AZ;rw[Rat.neg_num,Rat.neg_num,Rat.neg_den,Rat.neg_den];simp only[oB,Int.neg_mul,B8];generalize fF (x.num*_)=A;generalize fF (y.num*_)=B;generalize fF (_*(y.den:Int))=C;cases A with
 | none=>cases C<;>rfl
 | some a=>
 cases B with
 | none=>cases C<;>rfl
 | some b=>
 simp only[wV,zJb];rw[show -a+-b=-(a+b) by omega,B8]
 generalize fF (a+b)=S;cases S with
 | none=>cases C<;>rfl
 | some t=>
 cases C with
 | none=>rfl
 | some c=>
 simp only[oA,zJb,GJ];split
 ·rfl
 ·rw[zJb,Rat.neg_divInt]
def np{u:V}(h:bd NB u):bd NB u.neg:=by simp only[bd,V.neg,NB] at *;omega
structure PairOk(x y:V)(q r:Nat->Int)(l m:List V):Prop where
 pa:PoseOk x q
 pb:PoseOk y r
 la:∀ v∈l,bd 4096 v
 lb:∀ v∈m,bd 4096 v
 na:0<l.length
 nb:0<m.length
 ka:l.length<=100
 kb:m.length<=100
 ta:l.length<=10
 tb:m.length<=10
def Qi(u x y:V)(q r:Nat->Int)(l m:List V):Option Rat:=AZ (-(eZ u.neg y r m)) (-(eZ u x q l))
def XF(n:Nat){u x y:V}{q r:Nat->Int}{l m:List V}(h:PairOk x y q r l m)(hu:bd NB u):cA (n+1033) 434 [ae u,fM x q l,fM y r m]=some (bo (Qi u x y q r l m)):=by
 rw[Zh];unfold Mk;have c:=ny hu h.pa h.la h.na;have d:=ny (np hu) h.pb h.lb h.nb;refine aa (QU (n+1031) hu j2) (aa (Iq (n+1) (np hu) h.pb h.lb h.nb h.kb) (aa (Iq (n+1) hu h.pa h.la h.na h.ka) ?_))
 refine aa (A6 (n+1) (a:=some (eZ u.neg y r m)) (b:=some (eZ u x q l)) (bU d) (bU c)) (aa (Io (n+1) (lQ _ _)) ?_);unfold Qi;rw[HV];rfl
def kI(k:Int)(v:V):Bool:=(List.range 3).all λt=>KM k (aC v (0+t))
def Ha{k:Int}{v:V}(h:kI k v=true):bd (k-1) v:=by simp[kI,KM,z8b,aC] at h;simp only[bd];omega
def QA{v:V}(h:kI 2305843009213693952 v=true):bd NB v:=Ha h
def MY(u:V)(a:Option Rat)(x y:V)(q r:Nat->Int)(l m:List V):Bool:=
 kI 2305843009213693952 u&&(!(decide (u=V.zero))&&(a.isSome&&(decide (jd (some (eZ u x q l)) a<=0)&&decide (jd (some (-(eZ u.neg y r m))) a ≥ 0))))
def Nd{x d:Rat}:jd (some x) (some (-d))=-jd (some (-x)) (some d):=by simp only[jd,rH,Rat.neg_num,Rat.neg_den];rw[<-xw];unfold bg;rw[Int.neg_mul,Int.neg_mul];generalize x.num*(d.den:Int)=A;generalize d.num*(x.den:Int)=B;split<;>split<;>(try split)<;>(try split)<;>omega
def IQ(u:V)(a:Option Rat):D:=.st [ae u,bo a]
def Sa(u:V)(a:Option Rat):D.get (IQ u a) [1,0,0]=some (.bool (!a.isSome)):=by cases a<;>rfl
def H5(u:V):D.beq (ae u) (D.st [(.int .i64 0),(.int .i64 0),(.int .i64 0)])=decide (u=V.zero):=kP u V.zero
def XE(n:Nat){u x y:V}{a:Option Rat}(c:OW a){q r:Nat->Int}{l m:List V}(h:PairOk x y q r l m):cA (n+1034) 421 [IQ u a,dN x q,de l,dN y r,de m]=some (.bool (MY u a x y q r l m)):=by
 rw[Zb];delta Mf qG qB qC qT qZ iL iR Jn;refine j0 (ae u) ?_;refine zQ (r:=if kI 2305843009213693952 u then(1,[]) else(0,[.bool false])) (Jo (m:=3) (λi=>KM 2305843009213693952 (aC u i)) (λi j=>?_) ?_ 3 0 rfl) ?_
 ·have f:D.idx (I (i:Int)) 3=some i:=aq j;refine aa af (aa ac (aO (by show(i:Int)<3;omega) ?_))
  refine aa f (aa (Bx j) (aa io (aa ac ?_)));generalize aC u i=x at *;by_cases h1:x ≥ 2305843009213693952
  ·have e:KM 2305843009213693952 x=false:=by simp[KM];omega
   rw[zha h1,e];exact j0 true (aa ac rfl)
  ·rw[zea h1];refine aa (z:=decide (x<=-2305843009213693952)) (rT (aa mQ ac)) (aa ac ?_);by_cases h2:x<=-2305843009213693952
   ·have e:KM 2305843009213693952 x=false:=by simp[KM];omega
    rw[zha h2,e];rfl
   ·have e:KM 2305843009213693952 x=true:=by simp[KM];omega
    rw[zea h2,e];exact rT (aa (bc (a:=i) (b:=1) j1) rfl)
 ·exact aa af (aa ac (aU j2 rfl))
 unfold MY;by_cases hs:kI 2305843009213693952 u=true
 ·rw[hs,zma rfl,zia j2,zDb]
  have hu:=QA hs;refine j0 (ae u) (aa (z:=decide (u=V.zero)) (by rw[H5];exact ac) ?_)
  by_cases hz:u=V.zero
  ·rw[zha hz];exact j0 true (aa ac rfl)
  ·rw[zea hz,zVb,zDb];refine aa (z:=!a.isSome) (rT (aa (Sa u a) ac)) (aa ac ?_);cases a with
   | none=>rfl
   | some d=>
    have p:=c.some;have k:=ny hu h.pa h.la h.na;have o:=ny (np hu) h.pb h.lb h.nb;refine rT (aa (Ga (n+1029) h.pa h.la h.ka) (j0 (ae u) (aa (Iq (n+2) hu h.pa h.la h.na h.ka) (j0 (bo (some d)) (aa (Is (n+2) (a:=some (eZ u x q l)) (bU k) c) (aa mQ (aa ac ?_)))))));rw[show(some d:Option Rat).isSome=true from rfl,zDb];refine aa (z:=decide (jd (some (eZ u x q l)) (some d)<=0)&&decide (jd (some (-(eZ u.neg y r m))) (some d) ≥ 0)) ?_ rfl;by_cases h1:jd (some (eZ u x q l)) (some d)<=0
    ·rw[zha h1,zDb];refine gI (aa (Ga (n+1029) h.pb h.lb h.kb) (j0 (ae u) (aa (QU (n+1032) hu j2) (aa (Iq (n+2) (np hu) h.pb h.lb h.nb h.kb) (j0 (bo (some d)) (aa (Io (n+2) c) (aa (Is (n+2) (a:=some (eZ u.neg y r m)) (bU o) (Ff c)) ?_)))))))
     refine aa mQ ?_;rw[show GJ (some d)=some (-d) from rfl,Nd];refine Eq.trans ac (zna some (decide_eq_decide.2 ?_));omega
    ·rw[zea h1];rfl
 ·have g:kI 2305843009213693952 u=false:=by cases hh:kI 2305843009213693952 u;rfl;exact z3a hh hs
  rw[g];rfl
def dX(u v:WV):WV:=λi=>CH (u i) (v i)
def so(u v:WV):xl (dX u v):=λi=>FC _ _
def Py(n:Nat){u v:WV}(hu:xl u)(g:xl v):cA (n+1033) 440 [be u,be v]=some (be (dX u v)):=by
 rw[Zj];delta Mm qB qC qJ qZ iL iR Jn;refine yc (l0:=[bo (u 0),bo (u 1),bo (u 2)]) (λi=>bo (dX u v i)) rfl (λi c l hl f=>?_) (λl=>aa af (aa ac (aU j2 rfl))) rfl
 have d:D.get (.st l) [i]=some (bo (u i)):=by
  have e:=f i (zja _);have:i=0\/i=1\/i=2:=j1
  rcases this with rfl|rfl|rfl<;>simp[D.get,D.fld,e]
 exact aa af (aa ac (aO (by show(i:Int)<3;omega) (aa (aq c) (aa d (aa (aq c) (aa (zC c v) (aa (OB n (hu i) (g i)) (aa (aq c) (aa (sN j1) (aa (bc (a:=i) (b:=1) j1) rfl))))))))))
def wW(v:WV):Bool:=!((v 0).isSome&&((v 1).isSome&&(v 2).isSome))
def R9(v:WV):D.get (be v) [0,0,0]=some (.bool (!(v 0).isSome))/\D.get (be v) [1,0,0]=some (.bool (!(v 1).isSome))/\D.get (be v) [2,0,0]=some (.bool (!(v 2).isSome)):=by
 have h:∀ a:Option Rat,D.get (bo a) [0,0]=some (.bool (!a.isSome)):=λa=>by cases a<;>rfl
 exact⟨h _,h _,h _⟩
def XK(n:Nat)(v:WV):cA (n+1) 71 [be v]=some (.bool (wW v)):=by
 rw[u71];delta Tu qG qT;obtain⟨h1,h2,h3⟩:=R9 v;unfold wW;refine aa h1 (aa ac ?_);cases (v 0).isSome
 ·exact j0 true (aa ac (j0 true rfl))
 refine aa (z:=!(v 1).isSome) (rT (aa h2 ac)) (aa ac ?_);cases (v 1).isSome
 ·exact j0 true rfl
 exact aa (z:=!(v 2).isSome) (rT (aa h3 ac)) rfl
def az(q:Nat->Int)(v:V):V:=⟨cF q v 0,cF q v 1,cF q v 2⟩
def wI{q:Nat->Int}(h:CY q){v:V}(d:bd 1099511627776 v)(i:Nat):inR (aC (az q v) i):=by
 obtain⟨v1,v2,v3⟩:=mR (k:=1099511627776) d;have key:∀ i,inR (cF q v i):=λi=>by have a:=sA h (3*i) v1;have b:=sA h (3*i+1) v2;have c:=sA h (3*i+2) v3;simp only[inR,cF];omega
 exact kW (key 0) (key 1) (key 2) i
def qe(q:Nat->Int)(p:WV)(f:(V×Int)×List Nat):Int:=jd (some ((ap q*f.1.2:Int):Rat)) (rW (lJ (az q f.1.1)) p)
def zJ(q:Nat->Int)(p:WV)(F:FL):Nat->Int
 | 0=>1
 | k+1=>min (zJ q p F k) ((F[k]?).elim 0 (qe q p))
def eN(x:V)(q:Nat->Int)(F:FL)(v:WV):Int:=if wW v then -1 else zJ q (dX v (lJ x)) F F.length
def nZ{q:Nat->Int}{p:WV}{F:FL}{k:Nat}(h:k<F.length):zJ q p F (k+1)=min (zJ q p F k) (qe q p F[k]):=by show min _ ((F[k]?).elim 0 _)=_;rw[zca h];rfl
def yZ(F:FL):Prop:=F.length<=3000000/\∀ f∈F,bd 549755813888 f.1.1/\(f.1.2).natAbs<=281474976710656
def Fw{x:V}{q:Nat->Int}(h:PoseOk x q){d:Int}(a:d.natAbs<=281474976710656):inR (ap q*d):=by
 have s:=ct h.hq h.h0;have:(ap q*d).natAbs<=16384*281474976710656:=by rw[zOa];exact z5a j1 a
 simp only[inR];omega
def FZ{v:V}(h:bd 549755813888 v):bd 1099511627776 v:=by simp only[bd] at *;omega
def MW(n:Nat){x:V}{q:Nat->Int}(h:PoseOk x q){l:List V}{F:FL}(hF:yZ F)(h18:∀ m,cA (m+8) 18 [de l]=some (.sl (aS F))){v:WV}(e:xl v):cA (n+1036) 423 [dN x q,de l,be v]=some (I (eN x q F v)):=by
 rw[Zc];delta Mg qG qB qC qT qS qX qZ iL iR Jn eN;refine aa (XK (n+1034) v) (aa ac ?_);cases wW v with
 | true=>rfl
 | false=>
 have hx:∀ i,inR (aC x i):=kW (by have:=h.hx;simp only[bd] at this;simp only[inR];omega) (by have:=h.hx;simp only[bd] at this;simp only[inR];omega) (by have:=h.hx;simp only[bd] at this;simp only[inR];omega)
 have hp:=so v (lJ x);refine rT (j0 (ae x) (aa (ED (n+2) hx) (aa (Py (n+2) e (AI hx)) (j0 (tU q) (aa (RK (n+1032) h.hq) (aa (h18 (n+1027)) (j0 (aS F) ?_)))))));refine cD (λi s=>s=[I (zJ q (dX v (lJ x)) F i),I (i:Int)]) F.length 0 (zxa _) rfl (λi c s d=>?_) (λs d=>?_)
 ·subst d;left;obtain⟨f1,f2⟩:=hF.2 F[i] (zDa c);have hl:=hF.1;refine⟨_,?_,rfl⟩;have s1:=Fw h f2;refine aa af (aa ac (aO (by rw[bh];omega) ?_))
  refine j0 (aS F) (aa (z:=i) (by rw[bh];exact aq c) (aa (gd c) ?_))
  refine j0 (I F[i].1.2) (aa (cw s1) (aa (OF (n+3) s1) (j0 (tU q) (j0 (ae F[i].1.1) (aa (z:=ae (az q F[i].1.1)) (EG (n+1032) h.hq (FZ f1)) ?_)))));refine aa (PF (n+1) (wI h.hq (FZ f1)) hp) (aa (Is (n+4) (a:=some ((ap q*F[i].1.2:Int):Rat)) (bU (uB (bC s1))) (zI _ _)) ?_);rw[nZ c];exact aa Sv (aa (bc (a:=i) (b:=1) j1) rfl)
 ·subst d;exact⟨_,aa af (aa ac (aU (by rw[bh];omega) rfl)),rfl⟩
def Ev{A B:Int}{v:V}(h:bd A v)(a:A<=B):bd B v:=by simp only[bd] at *;omega
def Gu{l:List V}(hl:∀ x∈l,bd 4096 x){m:V}{d:Int}(h:IsF (pt l) l.length m d):bd 549755813888 m/\d.natAbs<=281474976710656:=by
 obtain⟨i,j,k,h1,h2,h3,p,c,f⟩:=h.ex;have a:=hl _ (cX (show i<l.length by omega))
 have n:=hl _ (cX (show j<l.length by omega))
 have hk:=hl _ (cX h3);have w1:bd 8192 (wy (pt l) i j):=kw n a;have o:bd 8192 (wy (pt l) i k):=kw hk a;have hp:=fA (jy w1 o);have hm:bd 134217728 m:=by
  rcases c with rfl|rfl
  ·exact hp
  ·exact rA hp
 refine⟨Ev hm j2,?_⟩
 have b:=H2 hm a;rw[f];show(V.dot m (pt l i)).natAbs<=_;have e:(3:Int)*(134217728*4096)=1649267441664:=rfl;rw[e] at b;have g:-1649267441664<=V.dot m (pt l i)/\V.dot m (pt l i)<=1649267441664:=b;omega
def SG(b s:Bool)(f:Nat->Int):D:=.st [.bool b,.bool s,cU 16 f]
structure RawR where
 b:Bool
 s:Bool
 f:Nat->Int
 c:Bool
 t:Bool
 g:Nat->Int
def RawR.enc(r:RawR):D:=.st [SG r.b r.s r.f,SG r.c r.t r.g]
def RawR.ok(r:RawR):Prop:=(∀ i,i<16->0<=r.f i/\r.f i<4294967296)/\∀ i,i<16->0<=r.g i/\r.g i<4294967296
def SC{b c:Bool}{X:Option Bool}(h:X=some c):(if b=true then some true else X)=some (b||c):=by cases b<;>simp[h]
def A8(k:Nat)(f:Nat)(xs:List D):Option D:=if f=415 then Qx 415 xs else cA k f xs
def Iv(k:Nat):iP Tryz.prog (A8 k):=by
 intro f a b xs y hs hy hw;unfold A8 at hy;split at hy
 ·rename_i hf;exact NX f a b xs y hs (by rw[hf];exact hy) hw
 ·exact A7 vC k f a b xs y hs hy hw
def O9{d:D}(h:wt K1 d):∃ v:V,d=ae v:=by
 obtain⟨l,rfl,hl,h⟩:=h
 match l,hl with
 | [a,b,c],_=>
  obtain⟨x,rfl⟩:=h a j3
  obtain⟨y,rfl⟩:=h b j3
  obtain⟨z,rfl⟩:=h c j3
  exact⟨⟨x,y,z⟩,rfl⟩
def Sz(a b:Nat)(x:Rat):Prop:=x.num.natAbs<=2^a/\x.den<=2^b
def Sz.up{a b c d:Nat}{x:Rat}(h:Sz a b x)(h1:a<=c)(h2:b<=d):Sz c d x:=
 ⟨zHa h.1 (zGa j2 h1),zHa h.2 (zGa j2 h2)⟩
theorem Sz.neg{a b:Nat}{x:Rat}(h:Sz a b x):Sz a b (-x):=⟨by rw[Rat.neg_num,zFb];exact h.1,h.2⟩
def dR{a b:Nat}{x d:Int}(hx:x.natAbs<=2^a)(c:d.natAbs<=2^b)(h0:d≠0):Sz a b (Rat.divInt x d):=by obtain⟨h1,h2⟩:=nO x h0;exact⟨zHa h1 hx,zHa h2 c⟩
theorem Sz.add{a b c d k:Nat}{x y:Rat}(hx:Sz a b x)(hy:Sz c d y)(h1:a+d<k)(h2:c+b<k):Sz k (b+d) (x+y):=by
 have e:x+y=Rat.divInt (x.num*(y.den:Int)+y.num*(x.den:Int)) ((x.den:Int)*y.den):=by
  conv=>lhs;rw[<-zAb x,<-zAb y]
  rw[zwc _ _ (dc x) (dc y)]
 rw[e];refine dR ?_ ?_ (z5b (dc x) (dc y))
 ·have m1:=bu (k:=k-1) hx.1 hy.2 j1
  have m2:=bu (k:=k-1) hy.1 hx.2 j1
  have:=znc (x.num*(y.den:Int)) (y.num*(x.den:Int));rw[zOa,zOa,zwa,zwa] at this;have f:2^k=2^(k-1)+2^(k-1):=by rw[<-Nat.two_mul,<-Nat.pow_succ'];congr 1;omega
  omega
 ·rw[<-z1a,zwa];exact bu hx.2 hy.2 (zja _)
def Sz.mul{a b c d:Nat}{x y:Rat}(hx:Sz a b x)(hy:Sz c d y):Sz (a+c) (b+d) (x*y):=by
 have e:x*y=Rat.divInt (x.num*y.num) ((x.den:Int)*y.den):=by
  conv=>lhs;rw[<-zAb x,<-zAb y]
  rw[zNb]
 rw[e];refine dR ?_ ?_ (z5b (dc x) (dc y))
 ·rw[zOa];exact bu hx.1 hy.1 (zja _)
 ·rw[<-z1a,zwa];exact bu hx.2 hy.2 (zja _)
def E8{x k:Nat}(h:x<=2^k)(hk:k<=511):x<ed:=by
 have:=aQ.1 (ff (x:=(x:Int)) hk (by rw[zwa];exact h))
 rwa [zwa] at this
theorem Sz.InR{a b:Nat}{x:Rat}(h:Sz a b x)(c:a<=511)(d:b<=511):InR x:=⟨ff c h.1,ff d (by rw[zwa];exact h.2)⟩
theorem Sz.addW{a b c d:Nat}{x y:Rat}(hx:Sz a b x)(hy:Sz c d y)(h1:a+d<511)(h2:c+b<511)(h3:b+d<=511):addW (some x) (some y)=some (x+y):=by
 refine A0 ⟨?_,?_⟩
 ·obtain⟨k,hk⟩:∃ k,k=510:=⟨_,rfl⟩;have m1:=bu (k:=k) hx.1 hy.2 j1
  have m2:=bu (k:=k) hy.1 hx.2 j1
  refine E8 (k:=k+1) ?_ j1
  rw[zgc];omega
 ·exact E8 (bu hx.2 hy.2 (zja _)) h3
theorem Sz.mulW{a b c d:Nat}{x y:Rat}(hx:Sz a b x)(hy:Sz c d y)(h1:a+c<=511)(h2:b+d<=511):mulW (some x) (some y)=some (x*y):=
 JC ⟨E8 (bu hx.1 hy.1 (zja _)) h1,E8 (bu hx.2 hy.2 (zja _)) h2⟩
def W9{k:Nat}{x:Int}(h:x.natAbs<=2^k):Sz k 0 (x:Rat):=⟨by simpa using h,j3⟩
def ue{u v:V}(hu:bd NB u)(a:bd PB v):(V.dot u v).natAbs<=2^125:=by obtain⟨h1,h2,h3⟩:=xD hu a;have b:=znc (u.x*v.x) (u.y*v.y);have c:=znc (u.x*v.x+u.y*v.y) (u.z*v.z);unfold V.dot;omega
theorem Fe{u:V}{L:List V}(hu:bd NB u)(hL:∀ v∈L,bd PB v):∀ k,k<L.length->(AT u L k).natAbs<=2^125
 | 0,h=>ue hu (hL _ (gD h))
 | k+1,h=>by
  unfold AT;split
  ·exact ue hu (hL _ (gD h))
  ·exact Fe hu hL k j1
def fS{x:V}{q:Nat->Int}(h:PoseOk x q):(ap q).natAbs<=2^14/\ap q≠0:=by have:=ct h.hq h.h0;exact⟨by rw[show(2:Nat)^14=16384 from rfl];omega,j1⟩
def lu{u x:V}{q:Nat->Int}(hu:bd NB u)(h:PoseOk x q){l:List V}(hl:∀ v∈l,bd 4096 v)(h0:0<l.length):Sz 125 14 (eZ u x q l):=
 dR (Fe hu (Ag h hl) _ (by simp;omega)) (fS h).1 (fS h).2
def jk(u x y:V)(q r:Nat->Int)(l m:List V):Rat:=-(eZ u.neg y r m)+-(eZ u x q l)
def Jr{u x y:V}{q r:Nat->Int}{l m:List V}(h:PairOk x y q r l m)(hu:bd NB u):Qi u x y q r l m=some (jk u x y q r l m):=
 (lu (np hu) h.pb h.lb h.nb).neg.addW (lu hu h.pa h.la h.na).neg j2 j2 j2
def ph{u x y:V}{q r:Nat->Int}{l m:List V}(h:PairOk x y q r l m)(hu:bd NB u):Sz 140 28 (jk u x y q r l m):=
 (lu (np hu) h.pb h.lb h.nb).neg.add (lu hu h.pa h.la h.na).neg j2 j2
def AU(u x y:V)(q r:Nat->Int)(l m:List V):Rat:=jk u x y q r l m*jk u x y q r l m*Rat.divInt 1 (V.dot u u)
def En{u:V}(hu:bd NB u):bd PB u:=by simp only[bd,NB,PB] at *;omega
def zq{u:V}(h:u≠V.zero):0<V.dot u u:=by
 have key:∀ a:Int,0<=a*a/\(a≠0->0<a*a):=λa=>by
  rcases zzb a 0 with k|k|k
  ·have:=zRb k k;omega
  ·subst k;simp
  ·have:=zCa k k;omega
 obtain⟨x,y,z⟩:=u;have hx:=key x;have hy:=key y;have b:=key z;show 0<x*x+y*y+z*z;by_cases h1:x=0
 ·by_cases h2:y=0
  ·by_cases h3:z=0
   ·subst h1 h2 h3;exact z3a rfl h
   ·have:=b.2 h3;omega
  ·have:=hy.2 h2;omega
 ·have:=hx.2 h1;omega
def div_one(x:Int):Rat.divInt x 1=(x:Rat):=by
 have h:=zAb (x:Rat)
 rwa [Rat.num_intCast,Rat.den_intCast] at h
def IK{a:Option Rat}{x:Int}(h:x≠0):uV a (some (x:Rat))=mulW a (some (Rat.divInt 1 x)):=by simp only[uV,Option.elim];rw[Rat.num_intCast,Rat.den_intCast,qt h];rfl
def Zu{u x y:V}{q r:Nat->Int}{l m:List V}(h:PairOk x y q r l m)(hu:bd NB u)(h0:u≠V.zero) :
  mulW (some (jk u x y q r l m)) (some (jk u x y q r l m))=some (jk u x y q r l m*jk u x y q r l m)/\uV (some (jk u x y q r l m*jk u x y q r l m)) (some (V.dot u u:Rat))=some (AU u x y q r l m):=by
 have s:=ph h hu;have d0:=zq h0;refine⟨s.mulW s j2 j2,?_⟩
 rw[IK j1]
 have a:Sz 0 125 (Rat.divInt 1 (V.dot u u)):=dR j2 (ue hu (En hu)) j1
 exact(s.mul s).mulW a j2 j2
def KB{u x y:V}{q r:Nat->Int}{l m:List V}(h:PairOk x y q r l m)(hu:bd NB u)(h0:u≠V.zero):Sz 280 181 (AU u x y q r l m):=
 ((ph h hu).mul (ph h hu)).mul (dR (a:=0) (b:=125) j2 (ue hu (En hu)) (by have:=zq h0;omega))
def Ng(u x y:V)(q r:Nat->Int)(l m:List V):Rat:=eZ u x q l+jk u x y q r l m*Rat.divInt 1 2
def y7:Sz 0 1 (Rat.divInt 1 2):=dR j2 j2 j2
def XO{u x y:V}{q r:Nat->Int}{l m:List V}(h:PairOk x y q r l m)(hu:bd NB u) :
  addW (some (eZ u x q l)) (uV (some (jk u x y q r l m)) (some ((2:Int):Rat)))=some (Ng u x y q r l m):=by
 have e:uV (some (jk u x y q r l m)) (some ((2:Int):Rat))=some (jk u x y q r l m*Rat.divInt 1 2):=by
  rw[IK j2]
  exact(ph h hu).mulW y7 j2 j2
 rw[e];exact(lu hu h.pa h.la h.na).addW ((ph h hu).mul y7) j2 j2 j2
def PM{u x y:V}{q r:Nat->Int}{l m:List V}(h:PairOk x y q r l m)(hu:bd NB u):Sz 155 43 (Ng u x y q r l m):=
 (lu hu h.pa h.la h.na).add ((ph h hu).mul y7) j2 j2
def I3:Rat.divInt 1 2+Rat.divInt 1 2=1:=by decide +kernel
theorem j9(x y:Rat):jd (some x) (some y)=if x<y then -1 else if y<x then 1 else 0:=by show bg (x.num*(y.den:Int)) (y.num*(x.den:Int))=_;unfold bg;simp only[gt_iff_lt,<-Rat.lt_iff]
def PI(x y:Rat):decide (jd (some x) (some y)>0)=decide (y<x):=by
 rw[j9];by_cases h1:x<y
 ·have:¬ y<x:=Rat.not_lt.2 (Rat.le_of_lt h1);simp[h1,this]
 ·by_cases h2:y<x<;>simp[h1,h2]
def OH(x y:Rat):decide (jd (some x) (some y)<=0)=!decide (y<x):=by rw[<-PI,Bool.eq_iff_iff];simp
def Qz(x:Rat):decide (CA (some x)<0)=decide (x<0):=by
 have h:x<0↔x.num<0:=by rw[Rat.lt_iff];simp
 rw[Bool.eq_iff_iff,zfa,zfa,h];exact Fx
def CQ{q:Nat->Int}(h:CY q){k:Nat}{v:V}(d:bd (k:Int) v):bd ((49152*k:Nat):Int) (az q v):=by
 have key:∀ (i:Nat) (x:Int),(-(k:Int)<=x/\x<=k)->(dA q i*x).natAbs<=16384*k:=λi x hx=>by have:=jl h i;rw[zOa];exact z5a j1 j1
 have:∀ i,(cF q v i).natAbs<=49152*k:=λi=>by have a:=key (3*i) _ d.1;have b:=key (3*i+1) _ d.2.1;have c:=key (3*i+2) _ d.2.2;unfold cF;omega
 have t0:=this 0;have t1:=this 1;have t2:=this 2;simp only[bd,az];omega
def zZ{a b:Int}(c:a.natAbs<=402653184)(d:b.natAbs<=402653184):(a*b).natAbs<=162129586585337856:=by rw[zOa];exact z5a c d
def xA{u v:V}(hu:bd 402653184 u)(d:bd 402653184 v):bd NB (V.cross u v):=by obtain⟨a,b,c⟩:=mR (k:=402653184) hu;obtain⟨v1,v2,v3⟩:=mR (k:=402653184) d;have a1:=zZ b v3;have a2:=zZ c v2;have a3:=zZ c v1;have a4:=zZ a v3;have a5:=zZ a v2;have e:=zZ b v1;unfold bd NB;simp only[V.cross];omega
def XA(n:Nat){x y:Int}(hx:In x)(hy:In y)(h:In (x-y)):cA (n+5) 203 [ah x,ah y]=some (ah (x-y)):=by
 rw[SY];unfold HJ;refine aa (PE (n+1) (a:=some y) (aY hy)) (aa (z:=ah (x-y)) ?_ rfl);have:=It n (x:=x) (y:=-y) hx (aQ.2 (by rw[zFb];exact aQ.1 hy)) (by rw[<-zmd];exact h)
 rwa [<-zmd] at this
def XI(n:Nat){u v:V}(hu:bd 402653184 u)(w:bd 402653184 v):cA (n+7) 450 [ae u,ae v]=some (gJ (V.cross u v)):=by
 obtain⟨m,o,p⟩:=mR (k:=402653184) hu;obtain⟨v1,v2,v3⟩:=mR (k:=402653184) w;have e:∀ {x:Int},x.natAbs<=402653184->inR x:=λ{x} h=>by simp only[inR];omega
 have l:∀ {a b:Int},a.natAbs<=402653184->b.natAbs<=402653184->In (a*b):=λf g=>by have:=zZ f g;exact bC (by simp only[inR];omega)
 have is:∀ {a b c d:Int},a.natAbs<=402653184->b.natAbs<=402653184->c.natAbs<=402653184->d.natAbs<=402653184->In (a*b-c*d):=λf g hc j=>by have:=zZ f g;have:=zZ hc j;exact bC (by simp only[inR];omega)
 have i:∀ {a b c d:Int},a.natAbs<=402653184->b.natAbs<=402653184->c.natAbs<=402653184->d.natAbs<=402653184->cA (n+5) 61 [ah a,ah b]=some (ah (a*b))/\cA (n+5) 61 [ah c,ah d]=some (ah (c*d))/\cA (n+5) 203 [ah (a*b),ah (c*d)]=some (ah (a*b-c*d)):=λf g hc j=> ⟨ID (n+2) (bC (e f)) (bC (e g)) (l f g),ID (n+2) (bC (e hc)) (bC (e j)) (l hc j),XA n (l f g) (l hc j) (is f g hc j)⟩
 rw[Zq];unfold Mt;refine aa (MU (n+3) (e m) (e o) (e p)) (aa (MU (n+3) (e v1) (e v2) (e v3)) (aa (z:=gJ (V.cross u v)) ?_ rfl));rw[Zs];delta Mv qB qC qJ qZ iL iR Jn;obtain⟨Z,hZ⟩:∃ Z,(D.st [(D.bool false),(D.bool false),(ar aR)])=Z:=⟨_,rfl⟩;rw[hZ];obtain⟨a1,a2,a3⟩:=i o v3 p v2;obtain⟨q,s,t⟩:=i p v1 m v3;obtain⟨d1,d2,d3⟩:=i m v2 o v1;refine aW (s':=[I 1,.st [ah (V.cross u v).x,Z,Z]]) ?_ (aW (s':=[I 2,.st [ah (V.cross u v).x,ah (V.cross u v).y,Z]]) ?_ (aW (s':=[I 3,gJ (V.cross u v)]) ?_ (dW (r:=(0,[gJ (V.cross u v)])) ?_ rfl)))
 ·refine j0 (.bool true) (j0 true (gI (j0 (I 1) (j0 (I 1) (j0 (I 2) (j0 (I 2) ?_))))));refine j0 1 (j0 (ah u.y) (j0 2 (j0 (ah v.z) (aa a1 ?_))));refine j0 2 (j0 (ah u.z) (j0 1 (j0 (ah v.y) (aa a2 (aa a3 ?_)))));exact j0 0 (j0 (.st [ah (V.cross u v).x,Z,Z]) (j0 (I 1) rfl))
 ·refine j0 (.bool true) (j0 true (gI (j0 (I 2) (j0 (I 2) (j0 (I 3) (j0 (I 0) ?_))))));refine j0 2 (j0 (ah u.z) (j0 0 (j0 (ah v.x) (aa q ?_))));refine j0 0 (j0 (ah u.x) (j0 2 (j0 (ah v.z) (aa s (aa t ?_)))));exact j0 1 (j0 (.st [ah (V.cross u v).x,ah (V.cross u v).y,Z]) (j0 (I 2) rfl))
 ·refine j0 (.bool true) (j0 true (gI (j0 (I 3) (j0 (I 0) (j0 (I 4) (j0 (I 1) ?_))))));refine j0 0 (j0 (ah u.x) (j0 1 (j0 (ah v.y) (aa d1 ?_))));refine j0 1 (j0 (ah u.y) (j0 0 (j0 (ah v.x) (aa d2 (aa d3 ?_)))));exact j0 2 (j0 (gJ (V.cross u v)) (j0 (I 3) rfl))
 ·exact j0 (.bool false) (j0 false rfl)
def XG(n:Nat){v:V}(h1:inR v.x)(h2:inR v.y)(h3:inR v.z):cA (n+3) 448 [ae v]=some (gJ v):=by rw[Zo];delta Mr qG;exact aa (o9 v) (aa (zh n h1) (aa (pd v) (aa (zh n h2) (aa (pe v) (aa (zh n h3) rfl)))))
def RR(n:Nat){v:V}(u:bd NB v):cA (n+1030) 447 [gJ v]=some (.tup [ae (aJ v),I (if v=V.zero then 31 else 0)]):=by
 obtain⟨h1,h2,h3⟩:=Dp u;have i0:In 0:=bC (ew 0);have g:In v.x:=bC h1;have o:In v.y:=bC h2;have p:In v.z:=bC h3;have G:∀ {x y:Int},In x->In (Nat.gcd x.natAbs y.natAbs:Nat)\/x=0:=λ{x y} hx=>by
  by_cases h:x=0
  ·exact .inr h
  ·left;rw[aQ,zwa];exact z0a (Nat.le_of_dvd j1 (ztb _ _)) (aQ.1 hx)
 have c:=F9 n i0 g;rw[show(Nat.gcd (0:Int).natAbs v.x.natAbs)=v.x.natAbs by simp] at c
 have m:In (v.x.natAbs:Nat):=by rw[aQ,zwa];exact aQ.1 g
 have d:=F9 n m o;rw[show(Nat.gcd ((v.x.natAbs:Nat):Int).natAbs v.y.natAbs)=Nat.gcd v.x.natAbs v.y.natAbs by simp] at d
 have i2:In (Nat.gcd v.x.natAbs v.y.natAbs:Nat):=by
  rcases G g (y:=v.y) with h|h
  ·exact h
  ·rw[h,aQ,zwa];simpa using aQ.1 o
 have e:=F9 n i2 p;rw[show(Nat.gcd ((Nat.gcd v.x.natAbs v.y.natAbs:Nat):Int).natAbs v.z.natAbs)=aZ v by simp[aZ]] at e
 have i3:In (aZ v:Nat):=by
  by_cases h:Nat.gcd v.x.natAbs v.y.natAbs=0
  ·unfold aZ;rw[h,aQ,zwa];simpa using aQ.1 p
  ·rw[aQ,zwa];exact z0a (Nat.le_of_dvd j1 (ztb _ _)) (by simpa using aQ.1 i2)
 rw[Zn];delta Mq qG qB qC qT qN qZ iL iR Jn;refine aa (zh (n+1027) (ew 0)) ?_;refine aW (s':=[I 1,ah (v.x.natAbs:Nat)]) (aa af (aa ac (aO j2 (aa Je (j0 (ah v.x) (aa c (aa (ay OS) rfl))))))) ?_
 refine aW (s':=[I 2,ah (Nat.gcd v.x.natAbs v.y.natAbs:Nat)]) (aa af (aa ac (aO j2 (aa Jf (j0 (ah v.y) (aa d (aa (ay wT) rfl))))))) ?_
 refine aW (s':=[I 3,ah (aZ v:Nat)]) (aa af (aa ac (aO j2 (aa Jg (j0 (ah v.z) (aa e (aa (ay OT) rfl))))))) ?_
 refine dW (r:=(0,[ah (aZ v:Nat)])) (aa af (aa ac (aU j2 rfl))) ?_
 refine j0 (.bool false) (aa ac (rT (aa (rD (n+1026) i3) ?_)));by_cases hz:aZ v=0
 ·have f:v=V.zero:=by
   by_cases h:v=V.zero
   ·exact h
   ·have:=fk h;omega
  rw[hz,zma f,f];exact j0 true (gI rfl)
 ·rw[zia (λh=>hz (by rw[h];rfl)),iX (show(0:Int)<aZ v by omega)]
  refine j0 false (rT ?_);have a:(aZ v:Int)≠0:=j1
  have H:=C7 (n+1023) g i3 a (xE v);have z2:=C7 (n+1023) o i3 a (xF v);have z3:=C7 (n+1023) p i3 a (xG v);obtain⟨w,C,E⟩:=fA u;have sm:∀ {x:Int},-NB<=x/\x<=NB->cA (n+1029) 202 [ah x]=some (.tup [I x,.bool true]):=λ{x} h=>by
   have t:inR x:=by simp only[NB] at h;simp only[inR];omega
   rcases zf (n+1025) (bC t) with⟨_,h⟩|⟨h,_⟩
   ·exact h
   ·exact z3a t h
  have b:∀ {x:Int} {α:Type} {A B y:Option α},-NB<=x/\x<=NB->B=y->((if(false:Bool)=true then some true else (ab7 .geq (I x) (D.int .i64 2305843009213693952)).bind λq=>D.truth q).bind λi=>(D.truth (D.bool i)).bind λj=>Option.bind (if j=true then some true else (ab7 .leq (I x) (D.int .i64 (-2305843009213693952))).bind λs=>D.truth s) λk=>(D.truth (D.bool k)).bind λl=>if l=true then A else B)=y:=λ{x α A B y} h F=>by
   simp only[NB] at h;subst F;rw[zia j2,show ab7 .geq (I x) (D.int .i64 2305843009213693952)=some (.bool (decide (x ≥ 2305843009213693952))) from io,show ab7 .leq (I x) (D.int .i64 (-2305843009213693952))=some (.bool (decide (x<=-2305843009213693952))) from mQ,zea j1,zea j1]
   rfl
  refine aW (s':=[I 1,ae V.zero,ae ⟨v.x/(aZ v:Nat),0,0⟩]) ?_ (aW (s':=[I 2,ae V.zero,ae ⟨v.x/(aZ v:Nat),v.y/(aZ v:Nat),0⟩]) ?_ (aW (s':=[I 3,ae V.zero,ae (aJ v)]) ?_ (dW (r:=(1,[ae V.zero,ae (aJ v)])) (aa af (aa ac (aU j2 rfl))) rfl)))
  ·refine aa af (aa ac (aO j2 (aa Je (j0 (ah v.x) (aa H (aa (sm w) (j0 (I (v.x/(aZ v:Nat))) (j0 (.bool true) (aa bA (aa ac (b w ?_)))))))))))
   exact aa Je (j0 (ae ⟨v.x/(aZ v:Nat),0,0⟩) (aa (ay OS) rfl))
  ·refine aa af (aa ac (aO j2 (aa Jf (j0 (ah v.y) (aa z2 (aa (sm C) (j0 (I (v.y/(aZ v:Nat))) (j0 (.bool true) (aa bA (aa ac (b C ?_)))))))))))
   exact aa Jf (j0 (ae ⟨v.x/(aZ v:Nat),v.y/(aZ v:Nat),0⟩) (aa (ay wT) rfl))
  ·refine aa af (aa ac (aO j2 (aa Jg (j0 (ah v.z) (aa z3 (aa (sm E) (j0 (I (v.z/(aZ v:Nat))) (j0 (.bool true) (aa bA (aa ac (b E ?_)))))))))))
   exact aa Jg (j0 (ae (aJ v)) (aa (ay OT) rfl))
def QW(call:Nat->List D->Option D)(a0:D)(k:Int)(far c r:Nat):Option D:=
 (call 118 [.sl [a0]]).bind λr1=>(acl .not r1).bind λt=>(D.truth t).bind λm=>
 if m then((call 119 []).bind λo=>some o) else((call 129 [a0]).bind λp=>(D.truth (D.bool (D.beq p (D.int .i64 0)))).bind λn=>
 if n then(some a0) else(((call 217 [a0]).bind λq=>(ab7 .add q (D.int .i64 k)).bind λu=>(ab7 .gtr u (D.int .i64 512)).bind λv=>D.truth v).bind λd=>(D.truth (D.bool d)).bind λe=>
 if e then((call 119 []).bind λg=>some g) else((D.get a0 [2]).bind λi=>(D.stl (ar aR)).bind λa=>(D.stl i).bind λf=>
 (call 197 [D.st (List.take far a++(List.take c (List.drop 0 f)++List.drop 16 a)),D.int .i64 (r:Int)]).bind λb=>(D.tupAt b 0).bind λj=>(D.tupAt b 1).bind λs=>(D.get a0 [1]).bind λl=>(call 116 [l,j]).bind λh=>some h)))
def S5(n:Nat)(a0:D):cA (n+1) 455 [a0,D.int .i64 20]=QW (cA n) a0 20 0 16 20:=u3
def S6(n:Nat)(a0:D):cA (n+1) 455 [a0,D.int .i64 60]=QW (cA n) a0 60 1 15 28:=u3
def S7(n:Nat)(a0:D):cA (n+1) 455 [a0,D.int .i64 120]=QW (cA n) a0 120 3 13 24:=u3
def S8(n:Nat)(a0:D):cA (n+1) 455 [a0,D.int .i64 240]=QW (cA n) a0 240 7 9 16:=u3
def Nf(X f i:Nat):bG (X*2^(32*f)) i=if i<f then 0 else bG X (i-f):=by
 rw[eK];split
 ·rename_i h;obtain⟨d,rfl⟩:∃ d,f=i+(d+1):=⟨f-i-1,j1⟩
  have e:X*2^(32*(i+(d+1)))=X*2^(32*d)*4294967296*2^(32*i):=by rw[zHb,zHb,show(4294967296:Nat)=2^32 from rfl,<-zwb,<-zwb];congr 2;omega
  rw[e,zjd _ (zya _),Nat.mul_mod_left];rfl
 ·rename_i h;obtain⟨d,rfl⟩:∃ d,i=f+d:=⟨i-f,j1⟩
  rw[eK,show f+d-f=d by omega,zxc,zwb,<-z6a,zjd _ (zya _)]
def Kf(X:Nat){f c:Nat}(h:f+c=16){l m:List D}(hl:D.st l=LM 0)(hm:D.st m=LM X):D.st (List.take f l++(List.take c (List.drop 0 m)++List.drop 16 l))=LM (X*2^(32*f)):=by
 have el:l=(List.range 16).map λi=>D.int .u32 (bG 0 i):=by injection hl
 have em:m=(List.range 16).map λi=>D.int .u32 (bG X i):=by injection hm
 show D.st _=D.st ((List.range 16).map λi=>D.int .u32 (bG (X*2^(32*f)) i));congr 1;subst el em;apply List.ext_getElem
 ·simp;omega
 ·intro i h1 h2;have a:i<16:=by simpa using h2
  simp only[zOc,List.getElem_range,Nf];by_cases hf:i<f
  ·rw[List.getElem_append_left (by simp;omega)]
   simp only[List.getElem_take,zOc,List.getElem_range,zma hf,mZ]
  ·rw[List.getElem_append_right (by simp;omega),List.getElem_append_left (by simp;omega)]
   simp only[List.getElem_take,List.drop_zero,zOc,List.getElem_range,zia hf,zcb,zta,zsb];rw[show i-min f 16=i-f by omega]
def Av(n:Nat){x:Int}(hx:In x){k far c r:Nat}(hk:k=32*far+r)(hc:far+c=16)(s:r<=31):QW (cA (n+3)) (ah x) k far c r=some (fj (fF (x*2^k))):=by
 unfold QW;refine aa (mT (n+1) (a:=some x) (aY hx)) (aa bA (aa ac (rT (aa (rD n hx) ?_))));by_cases h0:x=0
 ·subst h0;rw[z7b,show fF 0=some 0 from mn (bC (ew 0))];exact j0 true (gI rfl)
 obtain⟨m,hm⟩:∃ m,m=32*16:=⟨_,rfl⟩;have q:=aQ.1 hx;obtain⟨L,j,l,o⟩:=gO (x:=x.natAbs) j1
 have hL:L<m:=by
  rcases zza L m with h|h
  ·exact h
  ·have:=(jL hm).1 q;have:=zGa (show 0<2 by decide) h
   omega
 have g:(x*2^k).natAbs=x.natAbs*2^k:=by rw[zOa,Int.natAbs_pow];rfl
 refine aa (z:=false) ?_ (rT ?_)
 ·rw[show D.beq (I (sg x)) (D.int .i64 0)=decide (sg x=0) from cg,zea (λh=>h0 (ib.1 h))];rfl
 refine aa (z:=decide (((jY x.natAbs:Nat):Int)+(k:Nat)>512)) (aa (RH n hx) (aa (ay (by rw[j];simp only[inR];omega)) (aa dM ac))) (aa ac ?_)
 by_cases hb:((jY x.natAbs:Nat):Int)+(k:Nat)>512
 ·have hn:fF (x*2^k)=none:=by
   unfold fF;rw[zia];rw[g];intro e;have h1:=(jL hm).1 e;have h2:2^(L+k)<=x.natAbs*2^k:=by rw[zwb];exact zMa _ l
   have h3:=zGa (show 0<2 by decide) (show m<=L+k by omega)
   omega
  rw[zha hb,hn];exact gI (aa (ze (n+2)) rfl)
 ·have b:x.natAbs*2^k<ed:=by
   rw[jL hm];have h1:x.natAbs*2^k<2^(L+1)*2^k:=zKb o (zya _);rw[<-zwb] at h1;have h3:=zGa (show 0<2 by decide) (show L+1+k<=m by omega)
   omega
  rw[zea hb,show fF (x*2^k)=some (x*2^k) by unfold fF;rw[zma (by rw[g];exact b)]]
  have p:x.natAbs*2^(32*far)*2^r=x.natAbs*2^k:=by rw[zHb,<-zwb,hk]
  have d:x.natAbs*2^(32*far)<ed:=by have:=zvd (x.natAbs*2^(32*far)) (zya r);omega
  refine rT (aa (z:=LM x.natAbs) (by rw[cH];rfl) ?_)
  refine aa (z:=(List.range 16).map λi=>D.int .u32 (bG 0 i)) (by rw[il];rfl) (j0 ((List.range 16).map λi=>D.int .u32 (bG x.natAbs i)) ?_)
  rw[Kf x.natAbs hc rfl rfl];refine aa (Pv (n+2) d s) (j0 (LM (x.natAbs*2^(32*far)*2^r)) (j0 _ (aa (z:=.bool (decide (x<0))) (by rw[cH];rfl) ?_)))
  rw[p];refine aa (tQ (n+2) _ b) ?_;congr 1;unfold sgn;show ah _=ah (x*2^k);congr 1;have f:((x.natAbs*2^k:Nat):Int)=(x.natAbs:Int)*2^k:=by rw[z1a,Int.natCast_pow];rfl
  by_cases hs:x<0
  ·rw[zha hs,zma rfl,f,<-Int.neg_mul];congr 1;omega
  ·rw[zea hs,zia j2,f]
   congr 1;omega
def IE(k:Nat):Prop:=k=20\/k=60\/k=120\/k=240
def PC(n:Nat){x:Int}(hx:In x){k:Nat}(hk:IE k):cA (n+4) 455 [ah x,I (k:Int)]=some (fj (fF (x*2^k))):=by
 rcases hk with rfl|rfl|rfl|rfl
 ·exact(S5 (n+3) _).trans (Av n hx (k:=20) j2 j2 j2)
 ·exact(S6 (n+3) _).trans (Av n hx (k:=60) j2 j2 j2)
 ·exact(S7 (n+3) _).trans (Av n hx (k:=120) j2 j2 j2)
 ·exact(S8 (n+3) _).trans (Av n hx (k:=240) j2 j2 j2)
def RF(n:Nat){y:Int}(hy:In y):cA (n+3) 172 [uE,ah y]=some (.tup [uE,uE]):=by rw[QI];delta FS qG qB qT qN Jn;exact aa (rC n (a:=none) (b:=some y) ij (aY hy)) (aa bA (aa ac (j0 true (aa ac (gI (aa (ze (n+1)) (aa (ze (n+1)) rfl)))))))
def Oz(n:Nat){y:Int}(hy:In y):cA (n+4) 132 [uE,ah y]=some uE:=by rw[QH];unfold FR;exact aa (RF n hy) (j0 uE (j0 uE rfl))
def tT(k:Nat)(a:Option Rat):Option Rat:=a.bind λq=>(fF (q.num*2^k)).map λs=>Rat.divInt (s/q.den) (2^k)
def Ae{k:Nat}(hk:IE k):In ((1:Int)*2^k)/\(1:Int)*2^k=2^k/\(2:Int)^k≠0/\(k:Int)<=256:=by
 refine⟨ff (k:=k) ?_ ?_,z1b _,?_,?_⟩
 ·rcases hk with rfl|rfl|rfl|rfl<;>decide
 ·rw[z1b,Int.natAbs_pow];exact zja _
 ·have:=z2c (n:=2) (m:=k) j2;omega
 ·rcases hk with rfl|rfl|rfl|rfl<;>decide
def PO{k:Nat}(hk:IE k){a:Option Rat}(e:OW a):OW (tT k a):=by
 cases a with
 | none=>exact g9
 | some q=>
  obtain⟨b,c,d,_⟩:=Ae hk;unfold tT;simp only[zba];have hn:=qx (q.num*2^k);cases h:fF (q.num*2^k) with
  | none=>exact g9
  | some s=> rw[h] at hn;exact bU (dQ (nv hn.some _) (c ▸ b) d)
def Pz(n:Nat){a:Option Rat}(i:OW a){k:Nat}(hk:IE k):∃ C,cA (n+1031) 444 [bo a,I (k:Int)]=some (.tup [bo (tT k a),C]):=by
 obtain⟨o,p,g,H⟩:=Ae hk;rw[Zl];delta Mo qG qB qT qN Jn;cases a with
 | none=> refine⟨MG,?_⟩;exact aa (f9 n (a:=none) g9) (aa bA (aa ac (j0 true (aa ac (j0 true (aa ac (gI (aa (tR (n+1026)) (aa (tR (n+1026)) rfl)))))))))
 | some q=>
 have hq:=i.some;have j:0<(q.den:Int):=by have:=q.den_pos;omega
 have hn:=qx (q.num*2^k);have head:∀ {α:Type} {A B:Option α} {Y:Option α},B=Y->((cA (n+1030) 136 [bo (some q)]).bind λr1=>(acl .not r1).bind λE=>(D.truth E).bind λr=>Option.bind (if r=true then some true else (ab7 .lss (I (k:Int)) (D.int .i64 0)).bind λF=>D.truth F) λt=>(D.truth (D.bool t)).bind λu=>
   Option.bind (if u=true then some true else (ab7 .gtr (I (k:Int)) (D.int .i64 256)).bind λG=>D.truth G) λv=>(D.truth (D.bool v)).bind λw=>if w=true then A else B)=Y:=λ{α A B Y} y=>by
  subst y;rw[show cA (n+1030) 136 [bo (some q)]=_ from f9 n i];rw[zba,bA,zba,ac,zba];rw[show(!(some q).isSome)=false from rfl,zia j2,show ab7 .lss (I (k:Int)) (D.int .i64 0)=some (.bool (decide ((k:Int)<0))) from af,zba,ac,zba,zea j1,ac,zba,zia j2,show ab7 .gtr (I (k:Int)) (D.int .i64 256)=some (.bool (decide ((k:Int)>256))) from dM,zba,ac,zba,zea j1,ac,zba,zia j2]
 have f:=PC (n+1026) (x:=1) (bC (ew 1)) hk;rw[mn o,p] at f;have c:In ((2:Int)^k):=p ▸ o;unfold tT;rw[zba];cases h:fF (q.num*2^k) with
 | none=> have d:=PC (n+1026) hq.1 hk;rw[h] at d;refine⟨MG,head (j0 (ah q.num) (aa d (aa (Ik (n+1027)) (aa f (j0 (ah (q.den:Int)) (aa (Oz (n+1026) hq.2) (aa (Gb n (a:=none) (b:=some (2^k)) ij (aY c)) ?_)))))))⟩;refine aa (PE (n+1027) (a:=none) ij) (j0 (ah (q.den:Int)) (aa (Oz (n+1026) hq.2) (aa (PE (n+1027) (a:=none) ij) (aa (Gb n (a:=none) (b:=some (2^k)) ij (aY c)) ?_))));exact aa (f9 n (a:=none) g9) (aa bA (aa ac (j0 true (aa ac (gI (aa (tR (n+1026)) (aa (tR (n+1026)) rfl)))))))
 | some s=>
  rw[h] at hn;have hs:=hn.some;have d:=PC (n+1026) hq.1 hk;rw[h] at d;have e:In (-s):=aQ.2 (by rw[zFb];exact aQ.1 hs)
  have i1:=nv hs (q.den:Int);have i2:=nv e (q.den:Int);have i3:In (-((-s)/(q.den:Int))):=aQ.2 (by rw[zFb];exact aQ.1 i2)
  have l:=Gb n (a:=some (s/(q.den:Int))) (b:=some (2^k)) (aY i1) (aY c);have m:=Gb n (a:=some (-((-s)/(q.den:Int)))) (b:=some (2^k)) (aY i3) (aY c);rw[qt g] at l m;refine⟨bo (some (Rat.divInt (-((-s)/(q.den:Int))) (2^k))),head (j0 (ah q.num) (aa d (aa (Ik (n+1027)) (aa f (j0 (ah (q.den:Int)) (aa (sW (n+1023) hs hq.2 j) (aa l ?_)))))))⟩;refine aa (PE (n+1027) (a:=some s) (aY hs)) (j0 (ah (q.den:Int)) (aa (sW (n+1023) e hq.2 j) (aa (PE (n+1027) (a:=some ((-s)/(q.den:Int))) (aY i2)) (aa m ?_))));exact aa (f9 n (a:=some _) (bU (dQ i1 c g))) (aa bA (aa ac (aa (z:=false) (rT (aa (f9 n (a:=some _) (bU (dQ i3 c g))) (aa bA ac))) (aa ac (rT rfl)))))
def D8(r:Option Rat)(v:WV):WV:=λi=>mulW r (v i)
def FG(r:Option Rat)(v:WV):xl (D8 r v):=λi=>uk _ _
def RQ(n:Nat){r:Option Rat}(g:OW r){v:WV}(h:xl v):cA (n+1032) 445 [bo r,be v]=some (be (D8 r v)):=by
 rw[Zm];delta Mp qB qC qJ qZ iL iR Jn;refine yc (l0:=[bo (v 0),bo (v 1),bo (v 2)]) (λi=>bo (D8 r v i)) rfl (λi c l hl f=>?_) (λl=>aa af (aa ac (aU j2 rfl))) rfl
 have d:D.get (.st l) [i]=some (bo (v i)):=by
  have e:=f i (zja _);have:i=0\/i=1\/i=2:=j1
  rcases this with rfl|rfl|rfl<;>simp[D.get,D.fld,e]
 exact aa af (aa ac (aO (by show(i:Int)<3;omega) (aa (aq c) (aa d (aa (EF n g (h i)) (aa (aq c) (aa (sN j1) (aa (bc (a:=i) (b:=1) j1) rfl))))))))
def RJ(n:Nat){a b:Int}(c:inR a)(d:inR b)(h0:b≠0):cA (n+1031) 333 [I a,I b]=some (kB (Rat.divInt a b)):=by rw[Y2];unfold LZ;exact aa (zh (n+1028) c) (aa (zh (n+1028) d) (aa (PD n (bC c) (bC d) h0) rfl))
def qA(x:V)(q:Nat->Int)(l:List V)(k:Nat):WV:=λi=>some (Rat.divInt (aC (ls x q (pt l k)) i) (ap q))
def Qq{x:V}{q:Nat->Int}(h:PoseOk x q){l:List V}(hl:∀ v∈l,bd 4096 v){k:Nat}(hk:k<l.length):xl (qA x q l k):=λi=>by obtain⟨h1,h2,h3⟩:=Dq (vS h (hl _ (gD hk)));exact bU (dQ (bC (kW h1 h2 h3 i)) (bC (pC h).1) (pC h).2)
def PA(n:Nat){x:V}{q:Nat->Int}(h:PoseOk x q){l:List V}(hl:∀ v∈l,bd 4096 v){k:Nat}(hk:k<l.length):cA (n+1032) 454 [fM x q l,I (k:Int)]=some (be (qA x q l k)):=by
 obtain⟨h1,h2,h3⟩:=Dq (vS h (hl _ (gD hk)));rw[Zr];delta Mu qG qB qC qY qZ iL iR Jn;have d:(((l.map (ls x q)).map ae)[k]?)=some (ae (ls x q (pt l k))):=by rw[zib,zib,zca hk];unfold pt;rw[z2a,zca hk];rfl
 refine j0 (bD (l.map (ls x q))) (j0 ((l.map (ls x q)).map ae) (aa (z:=k) (by rw[bQ,zta];exact aq hk) (aa d ?_)))
 obtain⟨Z,hZ⟩:∃ Z,D.st [D.st [D.bool false,D.bool false,ar aR],D.st [D.bool false,D.bool false,ar aR]]=Z:=⟨_,rfl⟩;rw[hZ];refine yc (l0:=[Z,Z,Z]) (λi=>bo (qA x q l k i)) rfl (λi c l' hl' e=>?_) (λl=>aa af (aa ac (aU j2 rfl))) rfl
 exact aa af (aa ac (aO (by show(i:Int)<3;omega) (aa (aq c) (aa (Bx c) (j0 (I (ap q)) (aa (RJ n (kW h1 h2 h3 i) (pC h).1 (pC h).2) (aa (aq c) (aa (sN j1) (aa (bc (a:=i) (b:=1) j1) rfl)))))))))
theorem KnF.eq{l:List V}{F G:FL}(hs:HU l)(h:KnF l l.length 0 0 F)(k:KnF l l.length 0 0 G):F=G:=by
 have e:F.map Prod.fst=G.map Prod.fst:=Facets.eq h.facets k.facets;have el:F.length=G.length:=by have:=zna List.length e;simpa using this
 refine List.ext_getElem el λi h1 h2=>?_;have b:F[i].1=G[i].1:=by
  have h3:(F.map Prod.fst)[i]?=(G.map Prod.fst)[i]?:=by rw[e]
  simpa [zib,zca h1,zca h2] using h3
 obtain⟨a1,a2⟩:=h.fok.ok F[i] (zDa h1);obtain⟨c,a⟩:=k.fok.ok G[i] (zDa h2);rw[<-b] at a;exact Prod.ext b (bB.eq hs a1 a2 a)
structure Fac(l:List V)(F:FL)(E:List (Nat×Nat)):Prop where
 kn:KnF l l.length 0 0 F
 fb:yZ F
 e:E=tO F l.length l.length
 el:E.length<=10000
 lt:∀ e∈E,e.1<l.length/\e.2<l.length
 h18:∀ m,cA (m+8) 18 [de l]=some (.sl (aS F))
 h19:∀ m,cA (m+8) 19 [de l]=some (.sl (aS F))
 h21:∀ m,cA (m+9) 21 [de l]=some (.sl (E.map jf))
def Oy{l:List V}(hl:∀ x∈l,bd 4096 x)(hlen:l.length<=64)(hs:HU l):∃ F E,Fac l F E:=by
 have hl':∀ x∈l,bd MV x:=λx hx=>Ev (hl x hx) j2
 obtain⟨F,E,f1,f2,f3,_,_,_,f4⟩:=Rs 0 hl' (show l.length<=100 by omega) hs
 have all:∀ m,cA (m+8) 18 [de l]=some (.sl (aS F))/\cA (m+8) 19 [de l]=some (.sl (aS F))/\cA (m+9) 21 [de l]=some (.sl (E.map jf)):=λm=>by
  obtain⟨F',E',g1,g2,g3,g5,g6,g7,g4⟩:=Rs m hl' (show l.length<=100 by omega) hs
  have:=f3.eq hs g3;subst this;rw[f4,<-g4];exact⟨g5,g6,g7⟩
 refine⟨F,E,f3,⟨zHa f1 j2,λf hf=>Gu hl (f3.fok.ok f hf).1⟩,f4,f2,λe he=>?_,λm=>(all m).1,λm=>(all m).2.1,λm=>(all m).2.2⟩
 rw[f4] at he;have:=vE.1 he;exact⟨this.1,this.2.1⟩
def mK(q:Nat->Int)(l:List V)(e:Nat×Nat):V:=az q ((pt l e.2).sub (pt l e.1))
def CI{l:List V}(hl:∀ x∈l,bd 4096 x){i j:Nat}(a:i<l.length)(b:j<l.length):bd 8192 ((pt l j).sub (pt l i)):=kw (hl _ (gD b)) (hl _ (gD a))
def zu{q:Nat->Int}(h:CY q){l:List V}(hl:∀ x∈l,bd 4096 x){e:Nat×Nat}(he:e.1<l.length/\e.2<l.length):bd 402653184 (mK q l e):=CQ (k:=8192) h (CI hl he.1 he.2)
def SO{α:Type}{E:List α}(g:α->D){i:Nat}(a:i<E.length):((E.take i).map g)++[g E[i]]=(E.take (i+1)).map g:=by rw[List.take_add_one,zca a];simp only[Option.toList_some,zLb,zbb,zld]
def Si{E:List (Nat×Nat)}{i:Nat}(a:i<E.length):(E.map jf)[i]?=some (jf E[i]):=by simp[a]
def RS(n:Nat){x:V}{q:Nat->Int}(h:PoseOk x q){l:List V}(hl:∀ v∈l,bd 4096 v){F:FL}{E:List (Nat×Nat)}(hF:Fac l F E):cA (n+10) 449 [fM x q l]=some (.sl (E.map λe=>ae (mK q l e))):=by
 rw[Zp];delta Ms qG qB qC qS qX qV qW qZ iL iR Jn;refine j0 (de l) (aa (hF.h21 n) (j0 (E.map jf) ?_));refine cD (λi s=>s=[.sl ((E.take i).map λe=>ae (mK q l e)),I (i:Int)]) E.length 0 (zxa _) rfl (λi c s d=>?_) (λs d=>?_)
 ·subst d;left;obtain⟨h1,h2⟩:=hF.lt E[i] (zDa c);have f:=hF.el;refine⟨_,?_,rfl⟩;rw[<-SO (λe=>ae (mK q l e)) c];refine aa af (aa ac (aO (by rw[lc];omega) ?_))
  refine j0 (E.map jf) (aa (z:=i) (by rw[lc];exact aq c) (aa (Si c) ?_))
  refine j0 (tU q) (j0 (bD l) (j0 (I (E[i].2:Int)) (j0 (l.map ae) (aa (z:=E[i].2) (by rw[bQ];exact aq h2) (aa (Ah h2) ?_)))))
  refine j0 (bD l) (j0 (I (E[i].1:Int)) (j0 (l.map ae) (aa (z:=E[i].1) (by rw[bQ];exact aq h1) (aa (Ah h1) ?_))))
  refine aa (Ig (n+7) (hl _ (gD h2)) (hl _ (gD h1)) j2) (aa (z:=ae (mK q l E[i])) (EG (n+6) h.hq (Ev (CI hl h1 h2) j2)) ?_)
  obtain⟨L,hL⟩:∃ L,((E.take i).map λe=>ae (mK q l e))=L:=⟨_,rfl⟩;rw[hL];have hn:List.length (D.els (.sl L))+List.length [ae (mK q l E[i])]<=1073741824:=by rw[<-hL];show((E.take i).map _).length+1<=_;simp;omega
  refine(zma hn).trans ?_;exact aa (bc (a:=i) (b:=1) j1) rfl
 ·subst d;refine⟨_,aa af (aa ac (aU (by rw[lc];omega) rfl)),?_⟩
  rw[zhb (zja _)];rfl
def jn(mg vl:V->Rat)(S:Option (V×Rat))(u:V):Option (V×Rat):=
 if mg u<0 then S else match S with
  | none=>some (u,vl u)
  | some p=>if p.2<vl u then some (u,vl u) else some p
def lD(mg vl:V->Rat)(T:List V×Option (V×Rat))(u:V):List V×Option (V×Rat):=if u=V.zero\/u∈T.1 then T else(T.1++[u],jn mg vl T.2 u)
def oD(mg vl:V->Rat)(R:List V):List V×Option (V×Rat):=R.foldl (lD mg vl) ([],none)
def wh(mg vl:V->Rat)(R:List V)(u:V):oD mg vl (R++[u])=lD mg vl (oD mg vl R) u:=by simp[oD]
def BT{P:List V->Prop}(h0:P [])(h1:∀ R u,P R->P (R++[u]))(R:List V):P R:=by
 have key:∀ R:List V,P R.reverse:=λR=>by
  induction R with
  | nil=>exact h0
  | cons u R ih=>rw[List.reverse_cons];exact h1 _ _ ih
 have:=key R.reverse
 rwa [List.reverse_reverse] at this
def IY(q:Nat->Int)(F:FL):List V:=F.map λf=>aJ (az q f.1.1)
def KO(q r:Nat->Int)(l m:List V)(E:List (Nat×Nat))(e:Nat×Nat):List V:=E.flatMap λf=>[aJ (V.cross (mK q l e) (mK r m f)),(aJ (V.cross (mK q l e) (mK r m f))).neg]
def vX(q r:Nat->Int)(l m:List V)(F G:FL)(E E':List (Nat×Nat)):List V:=(IY q F++(IY r G).map V.neg)++E.flatMap (KO q r l m E')
def sH{v:V}:aJ v=V.zero↔v=V.zero:=vR
def vL{v:V}:v.neg=V.zero↔v=V.zero:=by obtain⟨x,y,z⟩:=v;simp only[V.neg,V.zero,V.mk.injEq];omega
def zy{q:Nat->Int}(h:CY q){F:FL}(hF:yZ F){f:(V×Int)×List Nat}(hf:f∈F):bd NB (az q f.1.1):=
 Ev (CQ (k:=549755813888) h (hF.2 f hf).1) j2
def lY(u:V):D:=.st [ae u,.bool true]
theorem BW:∀ (K:List V) (u:V),Option.getD (ace (K.map lY) (ae u)) (D.bool false)=.bool (decide (u∈K))
 | [],u=>rfl
 | k::K,u=>by
  show Option.getD (if D.beq (ae u) (ae k)=true then some (D.bool true) else ace (K.map lY) (ae u)) (D.bool false)=_
  rw[kP];by_cases h:u=k
  ·subst h;simp
  ·rw[zia (by simpa using h),BW K u]
   simp[h]
theorem qu:∀ (K:List V) (u:V),u ∉ K->acf (K.map lY) (ae u) (.bool true)=(K++[u]).map lY
 | [],u,_=>rfl
 | k::K,u,h=>by
  simp only[zBa,not_or] at h;show(if D.beq (ae u) (ae k)=true then _ else D.st [ae k,.bool true]::acf (K.map lY) (ae u) (.bool true))=_
  rw[kP,zia (by simpa using h.1),qu K u h.2]
  rfl
def ZT:D:=.st [.st [.bool false,.bool false,ar aR],.st [.bool false,.bool false,ar aR]]
def Hq:D:=.st [ae V.zero,ZT]
def jz(a:V->Rat):Option (V×Rat)->D
 | none=>Hq
 | some p=>.st [ae p.1,kB (a p.1)]
def iG:Option (V×Rat)->D
 | none=>ZT
 | some p=>kB p.2
section
variable{x y:V}{q r:Nat->Int}{l m:List V}
def Rr(n:Nat)(h:PairOk x y q r l m){u:V}(hu:bd NB u)(h0:u≠V.zero){S:Option (V×Rat)}(L:∀ p,S=some p->InR p.2){α:Type}{A:Option α}{B:D->D->Option α}{Y:Option α}
  (G:jn (λu=>jk u x y q r l m) (λu=>AU u x y q r l m) S u=S->A=Y)
  (K:jn (λu=>jk u x y q r l m) (λu=>AU u x y q r l m) S u=some (u,AU u x y q r l m)->B (kB (Ng u x y q r l m)) (kB (AU u x y q r l m))=Y) :
  ((cA (n+1033) 434 [ae u,fM x q l,fM y r m]).bind λa=>(cA (n+1033) 342 [a]).bind λs=>(ab7 .lss s (D.int .i64 0)).bind λE=>(D.truth E).bind λi=>
   if i=true then A else (cA (n+1033) 174 [a,a]).bind λt=>(cA (n+1033) 91 [ae u,ae u]).bind λv=>(cA (n+1033) 54 [D.int .i64 1]).bind λw=>(cA (n+1033) 62 [v,w]).bind λz=>(cA (n+1033) 352 [t,z]).bind λf=>
   (D.truth (D.bool S.isSome)).bind λj=>Option.bind (if j=true then (cA (n+1033) 73 [f,iG S]).bind λC=>(ab7 .leq C (D.int .i64 0)).bind λF=>D.truth F else some false) λk=>(D.truth (D.bool k)).bind λo=>
   if o=true then A else (cA (n+1033) 435 [fM x q l,ae u]).bind λb=>(cA (n+1033) 74 [D.int .i64 2]).bind λc=>(cA (n+1033) 352 [a,c]).bind λd=>(cA (n+1033) 173 [b,d]).bind λe=>B e f)=Y:=by
 have hm:=Jr h hu;have sm:=ph h hu;have g:OW (some (jk u x y q r l m)):=bU (sm.InR j2 j2)
 have N:=KB h hu h0;have M:OW (some (AU u x y q r l m)):=bU (N.InR j2 j2)
 obtain⟨v1,v2⟩:=Zu h hu h0;have dd:=XO h hu;have Il:=XF n h hu;rw[hm] at Il;have i1:In (V.dot u u):=(uX hu (En hu)).2.2.2.2;rw[Il,zba,show cA (n+1033) 342 [bo (some (jk u x y q r l m))]=some (I (CA (some (jk u x y q r l m)))) from Px (n+2) g,zba,
  show ab7 .lss (I (CA (some (jk u x y q r l m)))) (D.int .i64 0)=some (.bool (decide (CA (some (jk u x y q r l m))<0))) from af,zba,ac,zba,Qz]
 by_cases hneg:jk u x y q r l m<0
 ·rw[zha hneg,zma rfl];exact G (by unfold jn;rw[zma hneg])
 ·rw[zea hneg,zia j2]
  have H:cA (n+1033) 62 [ah (V.dot u u),ah 1]=some (bo (some ((V.dot u u:Int):Rat))):=by
   have:=PD (n+3) i1 (bC (ew 1)) (show(1:Int)≠0 by decide)
   rw[div_one] at this;exact this
  rw[show cA (n+1033) 174 [bo (some (jk u x y q r l m)),bo (some (jk u x y q r l m))]=_ from EF (n+2) g g,v1,zba,show cA (n+1033) 91 [ae u,ae u]=_ from PH (n+1027) hu (En hu),zba,
   show cA (n+1033) 54 [D.int .i64 1]=some (ah 1) from zh (n+1031) (ew 1),zba,H,zba,
   show cA (n+1033) 352 [bo (some (jk u x y q r l m*jk u x y q r l m)),bo (some ((V.dot u u:Int):Rat))]=_ from Im (n+1) (bU ((sm.mul sm).InR j2 j2)) (bU (uB i1)),v2,zba,ac,zba]
  have tail:jn (λu=>jk u x y q r l m) (λu=>AU u x y q r l m) S u=some (u,AU u x y q r l m)->((cA (n+1033) 435 [fM x q l,ae u]).bind λb=>(cA (n+1033) 74 [D.int .i64 2]).bind λc=>(cA (n+1033) 352 [bo (some (jk u x y q r l m)),c]).bind λd=>(cA (n+1033) 173 [b,d]).bind λe=>B e (bo (some (AU u x y q r l m))))=Y:=λhs=>by
   have J:cA (n+1033) 74 [D.int .i64 2]=some (bo (some ((2:Int):Rat))):=OF (n+1) (ew 2);rw[show cA (n+1033) 435 [fM x q l,ae u]=some (bo (some (eZ u x q l))) from Iq (n+2) hu h.pa h.la h.na h.ka,zba,J,zba,
    show cA (n+1033) 352 [bo (some (jk u x y q r l m)),bo (some ((2:Int):Rat))]=_ from Im (n+1) g (bU (uB (bC (ew 2)))),zba,
    show cA (n+1033) 173 [bo (some (eZ u x q l)),bo (uV (some (jk u x y q r l m)) (some ((2:Int):Rat)))]=_ from A6 (n+2) (bU (ny hu h.pa h.la h.na)) (EP _ _),dd,zba]
   exact K hs
  cases S with
  | none=>
   rw[show(none:Option (V×Rat)).isSome=false from rfl,zia j2,zba,ac,zba,zia j2]
   exact tail (by unfold jn;rw[zia hneg])
  | some p=>
   have op:OW (some p.2):=bU (L p rfl);rw[show(some p:Option (V×Rat)).isSome=true from rfl,zma rfl,show iG (some p)=bo (some p.2) from rfl,show cA (n+1033) 73 [bo (some (AU u x y q r l m)),bo (some p.2)]=_ from Is (n+2) M op,zba,
    show ab7 .leq (I (jd (some (AU u x y q r l m)) (some p.2))) (D.int .i64 0)=some (.bool (decide (jd (some (AU u x y q r l m)) (some p.2)<=0))) from mQ,zba,ac,zba,ac,zba,OH]
   by_cases hc:p.2<AU u x y q r l m
   ·rw[zha hc,zia j2]
    exact tail (by unfold jn;rw[zia hneg];simp only[hc,if_true])
   ·rw[zea hc,zma j2]
    exact G (by unfold jn;rw[zia hneg];simp only[hc,if_false])
end
def QF{v u:V}(f:u=V.zero↔v=V.zero){K:List V}{e:D}{kn:List D}{w:D}(he:e=I (if v=V.zero then 31 else 0))(hk:kn=K.map lY)(hw:w=ae u){α:Type}{A B Y:Option α}(d:u=V.zero\/u∈K->A=Y)(g:¬ (u=V.zero\/u∈K)->B=Y) :
  ((D.truth (D.bool (!(D.beq e (D.int .i64 0))))).bind λa=>Option.bind (if a=true then some true else D.truth (Option.getD (ace kn w) (D.bool false))) λb=>(D.truth (D.bool b)).bind λc=>if c=true then A else B)=Y:=by
 subst he hk hw;rw[BW];by_cases h:v=V.zero
 ·rw[zma h];exact d (.inl (f.2 h))
 ·rw[zia h];show(if decide (u∈K)=true then A else B)=Y
  by_cases hm:u∈K
  ·rw[zha hm];exact d (.inr hm)
  ·rw[zea hm];exact g (λi=>i.elim (λj=>h (f.1 j)) hm)
def Np{α:Type}{A B y:α}(h:B=y):(if(1:Nat)=0 then A else B)=y:=h
def N3(k:Nat)(u:V):V:=if 1-2*(k:Int)<0 then u.neg else u
def J9{k:Nat}{u:V}:N3 k u=V.zero↔u=V.zero:=by
 unfold N3;split
 ·exact vL
 ·simp_all
def Ap{mg vl:V->Rat}(R:List V):(∀ u∈(oD mg vl R).1,u∈R/\u≠V.zero)/\∀ p,(oD mg vl R).2=some p->p.1∈R/\p.1≠V.zero/\¬ mg p.1<0/\p.2=vl p.1:=by
 refine BT (P:=λR=>(∀ u∈(oD mg vl R).1,u∈R/\u≠V.zero)/\∀ p,(oD mg vl R).2=some p->p.1∈R/\p.1≠V.zero/\¬ mg p.1<0/\p.2=vl p.1) ⟨λu hu=>(by cases hu),λp hp=>(by cases hp)⟩ (λR u ih=>?_) R
 obtain⟨i1,i2⟩:=ih;rw[wh];unfold lD;split
 ·exact⟨λw hw=>⟨List.mem_append_left _ (i1 w hw).1,(i1 w hw).2⟩,λp hp=>⟨List.mem_append_left _ (i2 p hp).1,(i2 p hp).2⟩⟩
 ·rename_i hn;have a:u≠V.zero:=λh=>hn (.inl h);refine⟨λw hw=>?_,λp hp=>?_⟩
  ·rcases List.mem_append.1 hw with hw|hw
   ·exact⟨List.mem_append_left _ (i1 w hw).1,(i1 w hw).2⟩
   ·rw[zKa.1 hw];exact⟨j3,a⟩
  ·have old:(oD mg vl R).2=some p->p.1∈R++[u]/\p.1≠V.zero/\¬ mg p.1<0/\p.2=vl p.1:=λh=>⟨List.mem_append_left _ (i2 p h).1,(i2 p h).2⟩;dsimp only[jn] at hp;split at hp
   ·exact old hp
   ·rename_i hm;split at hp
    ·cases hp;exact⟨j3,a,hm,rfl⟩
    ·rename_i b e;split at hp
     ·cases hp;exact⟨j3,a,hm,rfl⟩
     ·cases hp;exact old e
def jF{α β:Type}{E:List α}{g:α->List β}{k:Nat}(h:∀ e∈E,(g e).length<=k):(E.flatMap g).length<=E.length*k:=by
 induction E with
 | nil=>simp
 | cons a E ih=> rw[List.flatMap_cons,zua,zRa,zpb,z0c];grind
def nV{α β:Type}{E:List α}(g:α->List β){i:Nat}(a:i<E.length):(E.take (i+1)).flatMap g=(E.take i).flatMap g++g E[i]:=by rw[List.take_add_one,zca a];simp only[Option.toList_some,List.flatMap_append,List.flatMap_cons,List.flatMap_nil,zvb]
section
variable{x y:V}{q r:Nat->Int}{l m:List V}{F G:FL}{E E':List (Nat×Nat)}
def Fq(h:PairOk x y q r l m)(hl:Fac l F E)(hm:Fac m G E'):∀ u∈vX q r l m F G E E',bd NB u:=by
 intro u hu;rcases List.mem_append.1 hu with hu|hu
 ·rcases List.mem_append.1 hu with hu|hu
  ·obtain⟨f,hf,rfl⟩:=zNa.1 hu;exact fA (zy h.pa.hq hl.fb hf)
  ·obtain⟨w,hw,rfl⟩:=zNa.1 hu;obtain⟨f,hf,rfl⟩:=zNa.1 hw;exact np (fA (zy h.pb.hq hm.fb hf))
 ·obtain⟨e,he,hu⟩:=zQa.1 hu;obtain⟨f,hf,hu⟩:=zQa.1 hu;have a:=fA (xA (zu h.pa.hq h.la (hl.lt e he)) (zu h.pb.hq h.lb (hm.lt f hf)));simp only[zBa,zdc,or_false] at hu;rcases hu with rfl|rfl
  ·exact a
  ·exact np a
def fG(x y:V)(q r:Nat->Int)(l m:List V)(R:List V):List V×Option (V×Rat):=oD (λu=>jk u x y q r l m) (λu=>AU u x y q r l m) R
def J8(x y:V)(q r:Nat->Int)(l m:List V)(R:List V)(u:V):fG x y q r l m (R++[u])=lD (λu=>jk u x y q r l m) (λu=>AU u x y q r l m) (fG x y q r l m R) u:=wh ..
def NY(h:PairOk x y q r l m){R:List V}(a:∀ u∈R,bd NB u):∀ p,(fG x y q r l m R).2=some p->InR p.2:=λp hp=>by obtain⟨h1,h2,_,h3⟩:=(Ap R).2 p hp;rw[h3];exact(KB h (a _ h1) h2).InR j2 j2
def XD(n:Nat)(h:PairOk x y q r l m)(hl:Fac l F E)(hm:Fac m G E') :
  cA (n+1034) 416 [dN x q,de l,dN y r,de m]=some (.tup [jz (λu=>Ng u x y q r l m) (fG x y q r l m (vX q r l m F G E E')).2,.bool (fG x y q r l m (vX q r l m F G E E')).2.isSome]):=by
 rw[Za];delta Me qG qB qC qT qN qS qX qV qW qZ iL iR Jn;obtain⟨P1,e1⟩:∃ P1,P1=fM x q l:=⟨_,rfl⟩;obtain⟨P2,e2⟩:∃ P2,P2=fM y r m:=⟨_,rfl⟩;obtain⟨c,aj⟩:∃ c:V->Rat,c=λu=>Ng u x y q r l m:=⟨_,rfl⟩;rw[<-aj];obtain⟨mg,ak⟩:∃ mg:V->Rat,mg=λu=>jk u x y q r l m:=⟨_,rfl⟩;obtain⟨vl,al⟩:∃ vl:V->Rat,vl=λu=>AU u x y q r l m:=⟨_,rfl⟩;have app:∀ R u,fG x y q r l m (R++[u])=lD mg vl (fG x y q r l m R) u:=λR u=>by rw[ak,al];exact J8 ..
 refine aa (z:=P1) (by rw[e1];exact Ga (n+1029) h.pa h.la h.ka) (aa (z:=P2) (by rw[e2];exact Ga (n+1029) h.pb h.lb h.kb) ?_)
 have hR:=Fq h hl hm;obtain⟨T,hT⟩:∃ T,fG x y q r l m (vX q r l m F G E E')=T:=⟨_,rfl⟩;rw[hT];refine aa (z:=(0,[Hq,P1,P2,jz c T.2,iG T.2,.bool T.2.isSome])) ?_ rfl;have body:∀ (R:List V) (u:V),(∀ w∈R++[u],bd NB w)->∀ {α:Type} {K:List V} {S:Option (V×Rat)} {A:Option α} {B:D->D->Option α} {Y:Option α},(fG x y q r l m R)=(K,S)->u≠V.zero ->
   (jn mg vl S u=S->A=Y)->(jn mg vl S u=some (u,vl u)->B (kB (c u)) (kB (vl u))=Y) ->
   ((cA (n+1033) 434 [ae u,P1,P2]).bind λL=>(cA (n+1033) 342 [L]).bind λa9=>(ab7 .lss a9 (D.int .i64 0)).bind λbx=>(D.truth bx).bind λa0=>
   if a0=true then A else (cA (n+1033) 174 [L,L]).bind λbi=>(cA (n+1033) 91 [ae u,ae u]).bind λbj=>(cA (n+1033) 54 [D.int .i64 1]).bind λbk=>(cA (n+1033) 62 [bj,bk]).bind λbl=>(cA (n+1033) 352 [bi,bl]).bind λaI=>
   (D.truth (D.bool S.isSome)).bind λa1=>Option.bind (if a1=true then (cA (n+1033) 73 [aI,iG S]).bind λbm=>(ab7 .leq bm (D.int .i64 0)).bind λbL=>D.truth bL else some false) λa2=>(D.truth (D.bool a2)).bind λa3=>
   if a3=true then A else (cA (n+1033) 435 [P1,ae u]).bind λbn=>(cA (n+1033) 74 [D.int .i64 2]).bind λbs=>(cA (n+1033) 352 [L,bs]).bind λbt=>(cA (n+1033) 173 [bn,bt]).bind λbv=>B bv aI)=Y:=by
  intro R u M α K S A B Y e h0 hA hB;rw[e1,e2];subst ak al;rw[aj] at hB;exact Rr n h (M u j3) h0 (λp hp=>NY h (λw hw=>M w (List.mem_append_left _ hw)) p (by rw[e];exact hp)) hA hB
 obtain⟨rws,o⟩:∃ rws:Nat->List V,rws=λk=>if k=0 then[] else if k=1 then IY q F else IY q F++(IY r G).map V.neg:=⟨_,rfl⟩
 have data:∀ k,k<2->∃ (xk:V) (J:Nat->Int) (lk:List V) (Fk:FL) (Ek:List (Nat×Nat)),[P1,P2][k]?=some (fM xk J lk)/\CY J/\Fac lk Fk Ek/\rws (k+1)=rws k++Fk.map λf=>N3 k (aJ (az J f.1.1)):=λk hk=>by
  have:k=0\/k=1:=j1
  rcases this with rfl|rfl
  ·exact⟨x,q,l,F,E,by rw[e1];rfl,h.pa.hq,hl,by rw[o];rfl⟩
  ·exact⟨y,r,m,G,E',by rw[e2];rfl,h.pb.hq,hm,by rw[o];simp[IY,N3]⟩
 have sub:∀ k,k<=2->∀ w∈rws k,w∈vX q r l m F G E E':=λk hk w hw=>by
  have:k=0\/k=1\/k=2:=j1
  rw[o] at hw;rcases this with rfl|rfl|rfl
  ·cases hw
  ·exact List.mem_append_left _ (List.mem_append_left _ hw)
  ·exact List.mem_append_left _ hw
 refine cD (λk s=>s=[.sl [P1,P2],I (k:Int),Hq,P1,P2,jz c (fG x y q r l m (rws k)).2,iG (fG x y q r l m (rws k)).2,.bool (fG x y q r l m (rws k)).2.isSome,.sl ((fG x y q r l m (rws k)).1.map lY)]) 2 0 (zxa _) (by rw[o];rfl) (λk hk s hs=>?_) (λs hs=>?_)
 ·subst hs;left;obtain⟨xk,J,lk,Fk,Ek,d1,d2,d3,d4⟩:=data k hk;have hsub:=sub (k+1) j1
  rw[d4] at hsub ⊢;refine⟨_,?_,rfl⟩;refine aa af (aa ac (aO (by show(k:Int)<2;omega) (aa (z:=k) (aq hk) (aa d1 (j0 (de lk) (aa (d3.h18 (n+1025)) (j0 (aS Fk) ?_)))))))
  obtain⟨g,hg⟩:∃ g:(V×Int)×List Nat->V,g=λf=>N3 k (aJ (az J f.1.1)):=⟨_,rfl⟩;rw[<-hg] at hsub ⊢;refine cD (λi s=>s=[.sl [P1,P2],I (i:Int),Hq,P1,P2,jz c (fG x y q r l m (rws k++(Fk.take i).map g)).2,iG (fG x y q r l m (rws k++(Fk.take i).map g)).2,.bool (fG x y q r l m (rws k++(Fk.take i).map g)).2.isSome,.sl ((fG x y q r l m (rws k++(Fk.take i).map g)).1.map lY)]) Fk.length 0 (zxa _) (by rw[List.take_zero,zld,zvb];rfl) (λi H s hs=>?_) (λs hs=>?_)
  ·subst hs;left;refine⟨_,?_,rfl⟩;have hf:=d3.fb.2 _ (zDa H);have N:=zy d2 d3.fb (zDa H);have hlen:=d3.fb.1;have et:(Fk.take (i+1)).map g=(Fk.take i).map g++[g Fk[i]]:=by
    rw[List.take_add_one,zca H];simp only[Option.toList_some,zLb,zbb,zld]
   have M:∀ w∈(rws k++(Fk.take i).map g)++[g Fk[i]],bd NB w:=λw hw=>by all_goals grind
   rw[et,<-zPa,app];have bdy:=@body (rws k++(Fk.take i).map g) (g Fk[i]) M;obtain⟨R,eR⟩:∃ R,rws k++(Fk.take i).map g=R:=⟨_,rfl⟩;rw[eR] at bdy ⊢;obtain⟨⟨K,S⟩,eT⟩:∃ T,fG x y q r l m R=T:=⟨_,rfl⟩;rw[eT] at bdy ⊢;obtain⟨i1,i2,i3⟩:=Dp N;refine aa af (aa ac (aO (by rw[bh];omega) (j0 (aS Fk) (aa (z:=i) (by rw[bh];exact aq H) (aa (gd H) (j0 (tU J) (j0 (ae Fk[i].1.1) ?_)))))))
   refine aa (z:=ae (az J Fk[i].1.1)) (EG (n+1030) d2 (FZ hf.1)) (aa (XG (n+1030) i1 i2 i3) (aa (cw (by simp only[inR];omega)) (aa (fg (by simp only[inR];omega)) ?_)))
   have gu:g Fk[i]=N3 k (aJ (az J Fk[i].1.1)):=by rw[hg]
   rw[gu] at bdy ⊢;obtain⟨v,ev⟩:∃ v,az J Fk[i].1.1=v:=⟨_,rfl⟩;rw[ev] at N bdy ⊢;obtain⟨u,Q⟩:∃ u,N3 k (aJ v)=u:=⟨_,rfl⟩;have hz:u=V.zero↔v=V.zero:=by rw[<-Q,J9,sH]
   obtain⟨Pk,a4⟩:∃ Pk,fM xk J lk=Pk:=⟨_,rfl⟩;rw[a4];refine aa (z:=(0,[.bool true,Hq,P1,P2,jz c (lD mg vl (K,S) u).2,iG (lD mg vl (K,S) u).2,.bool (lD mg vl (K,S) u).2.isSome,P1,P2,.sl ((lD mg vl (K,S) u).1.map lY),Pk])) ?_ (j0 (.bool false) (j0 false (rT (aa (bc (a:=i) (b:=1) j1) (by rw[Q];rfl)))))
   refine aa (RR (n+3) N) (j0 (ae (aJ v)) (j0 (I (if v=V.zero then 31 else 0)) (aa (z:=(0,[Hq,P1,P2,jz c S,iG S,.bool S.isSome,P1,P2,.sl (K.map lY),Pk,ae u])) ?_ ?_)))
   ·refine aa af (aa ac ?_);rw[<-Q];by_cases hk2:1-2*(k:Int)<0
    ·refine aO hk2 (aa (QU (n+1032) (fA N) j2) ?_)
     rw[show N3 k (aJ v)=(aJ v).neg from zma hk2];rfl
    ·refine aU hk2 ?_;rw[show N3 k (aJ v)=aJ v from zia hk2];rfl
   rw[Q] at bdy;refine QF hz (K:=K) rfl rfl rfl (λhs=>?_) (λhs=>?_)
   ·rw[show lD mg vl (K,S) u=(K,S) from zma hs];rfl
   ·rw[show lD mg vl (K,S) u=(K++[u],jn mg vl S u) from zia hs];have d:=qu K u (λC=>hs (.inr C));refine aa (z:=(0,[jz c (jn mg vl S u),iG (jn mg vl S u),.bool (jn mg vl S u).isSome,P1,P2,.sl ((K++[u]).map lY),Pk])) ?_ rfl;refine bdy rfl (λC=>hs (.inl C)) (λe=>?_) (λe=>?_)
    ·rw[e,<-d];rfl
    ·rw[e,<-d];rfl
  ·subst hs;refine⟨_,aa af (aa ac (aU (by rw[bh];omega) rfl)),?_⟩
   rw[zhb (zja _)];exact Np (aa (bc (a:=k) (b:=1) j1) rfl)
 ·subst hs;refine⟨_,aa af (aa ac (aU j2 rfl)),Np ?_⟩
  rw[show rws 2=IY q F++(IY r G).map V.neg by rw[o];rfl] at *
  obtain⟨R0,P⟩:∃ R0,IY q F++(IY r G).map V.neg=R0:=⟨_,rfl⟩;have a6:fG x y q r l m (R0++E.flatMap (KO q r l m E'))=T:=by rw[<-hT,<-P];rfl
  have a5:∀ u∈R0++E.flatMap (KO q r l m E'),bd NB u:=by rw[<-P];exact hR
  have bM:=hl.el;have bN:=hm.el;have g1:cA (n+1033) 449 [P1]=some (.sl (E.map λe=>ae (mK q l e))):=by rw[e1];exact RS (n+1023) h.pa h.la hl
  have g2:cA (n+1033) 449 [P2]=some (.sl (E'.map λe=>ae (mK r m e))):=by rw[e2];exact RS (n+1023) h.pb h.lb hm
  rw[P];refine aa g2 (aa g1 (j0 (E.map λe=>ae (mK q l e)) ?_));refine cD (λi s=>s=[I (i:Int),Hq,P1,P2,jz c (fG x y q r l m (R0++(E.take i).flatMap (KO q r l m E'))).2,iG (fG x y q r l m (R0++(E.take i).flatMap (KO q r l m E'))).2,.bool (fG x y q r l m (R0++(E.take i).flatMap (KO q r l m E'))).2.isSome,.sl ((fG x y q r l m (R0++(E.take i).flatMap (KO q r l m E'))).1.map lY)]) E.length 0 (zxa _) (by rw[List.take_zero,List.flatMap_nil,zvb];rfl) (λi H s hs=>?_) (λs hs=>?_)
  ·subst hs;left;refine⟨_,?_,rfl⟩;have he:=hl.lt E[i] (zDa H);have W:=zu h.pa.hq h.la he;rw[nV _ H,<-zPa];obtain⟨R1,ad⟩:∃ R1,R0++(E.take i).flatMap (KO q r l m E')=R1:=⟨_,rfl⟩;have U:∀ u∈R1++KO q r l m E' E[i],bd NB u:=λu hu=>a5 u (by
    rw[<-ad,zPa] at hu;rcases List.mem_append.1 hu with hu|hu
    ·exact List.mem_append_left _ hu
    ·refine zLa _ ?_;rcases List.mem_append.1 hu with hu|hu
     ·obtain⟨a,ha,M⟩:=zQa.1 hu;exact zQa.2 ⟨a,zSa ha,M⟩
     ·exact zQa.2 ⟨_,zDa H,hu⟩)
   rw[ad];refine aa af (aa ac (aO (by rw[zta];omega) (j0 (E.map λe=>ae (mK q l e)) (aa (z:=i) (by rw[zta];exact aq H) (aa (z:=ae (mK q l E[i])) (by simp[H]) (j0 (E'.map λe=>ae (mK r m e)) ?_))))))
   obtain⟨e,ee⟩:∃ e,E[i]=e:=⟨_,rfl⟩;rw[ee] at he W U ⊢;obtain⟨c2,ax⟩:∃ c2:Nat×Nat->List V,c2=λf=>[aJ (V.cross (mK q l e) (mK r m f)),(aJ (V.cross (mK q l e) (mK r m f))).neg]:=⟨_,rfl⟩;rw[show KO q r l m E' e=E'.flatMap c2 by rw[ax];rfl] at U ⊢
   refine cD (λj s=>s=[I (j:Int),Hq,P1,P2,jz c (fG x y q r l m (R1++(E'.take j).flatMap c2)).2,iG (fG x y q r l m (R1++(E'.take j).flatMap c2)).2,.bool (fG x y q r l m (R1++(E'.take j).flatMap c2)).2.isSome,.sl ((fG x y q r l m (R1++(E'.take j).flatMap c2)).1.map lY)]) E'.length 0 (zxa _) (by rw[List.take_zero,List.flatMap_nil,zvb];rfl) (λj hj s hs=>?_) (λs hs=>?_)
   ·subst hs;left;refine⟨_,?_,rfl⟩;have hf:=hm.lt E'[j] (zDa hj);have an:=zu h.pb.hq h.lb hf;rw[nV _ hj,<-zPa];obtain⟨R,eR⟩:∃ R,R1++(E'.take j).flatMap c2=R:=⟨_,rfl⟩;have t:∀ w∈R++c2 E'[j],bd NB w:=λw hw=>U w (by
     rw[<-eR,zPa] at hw;rcases List.mem_append.1 hw with hw|hw
     ·exact List.mem_append_left _ hw
     ·refine zLa _ ?_;rcases List.mem_append.1 hw with hw|hw
      ·obtain⟨a,ha,M⟩:=zQa.1 hw;exact zQa.2 ⟨a,zSa ha,M⟩
      ·exact zQa.2 ⟨_,zDa hj,hw⟩)
    rw[eR];refine aa af (aa ac (aO (by rw[zta];omega) (j0 (E'.map λe=>ae (mK r m e)) (aa (z:=j) (by rw[zta];exact aq hj) (aa (z:=ae (mK r m E'[j])) (by simp[hj]) (aa (XI (n+1026) W an) ?_))))))
    have N:=xA W an;have ec:c2 E'[j]=[aJ (V.cross (mK q l e) (mK r m E'[j])),(aJ (V.cross (mK q l e) (mK r m E'[j]))).neg]:=by rw[ax]
    rw[ec] at t ⊢;obtain⟨v,ev⟩:∃ v,V.cross (mK q l e) (mK r m E'[j])=v:=⟨_,rfl⟩;rw[ev] at N t ⊢;obtain⟨X,eX⟩:∃ X,ae (mK q l e)=X:=⟨_,rfl⟩;rw[eX];rw[show R++[aJ v,(aJ v).neg]=(R++[aJ v])++[(aJ v).neg] by simp] at t ⊢
    have b1:=@body R (aJ v) (λw hw=>t w (List.mem_append_left _ hw));have b2:=@body (R++[aJ v]) (aJ v).neg t;rw[app _ (aJ v).neg];obtain⟨⟨K2,S2⟩,ai⟩:∃ T,fG x y q r l m (R++[aJ v])=T:=⟨_,rfl⟩;have Z:=ai;rw[app] at Z;rw[ai] at b2 ⊢;obtain⟨⟨K,S⟩,eT⟩:∃ T,fG x y q r l m R=T:=⟨_,rfl⟩;rw[eT] at b1 Z ⊢;have O:=RR (n+3) N;have a7:aJ v=V.zero↔v=V.zero:=sH;have aB:(aJ v).neg=V.zero↔v=V.zero:=by rw[vL,sH]
    have bp:=fA N;refine aa (z:=(0,[.bool true,Hq,P1,P2,jz c S2,iG S2,.bool S2.isSome,.sl (K2.map lY),X,gJ v])) ?_ (j0 (.bool false) (j0 false (rT ?_)))
    ·refine aa O (j0 (ae (aJ v)) (j0 (I (if v=V.zero then 31 else 0)) (aa (z:=(0,[Hq,P1,P2,jz c S,iG S,.bool S.isSome,.sl (K.map lY),X,gJ v,ae (aJ v)])) (aa af (aa ac (aU j2 rfl))) ?_)))
     refine QF a7 (K:=K) rfl rfl rfl (λhs=>?_) (λhs=>?_)
     ·rw[show lD mg vl (K,S) (aJ v)=(K,S) from zma hs] at Z;cases Z;rfl
     ·rw[show lD mg vl (K,S) (aJ v)=(K++[aJ v],jn mg vl S (aJ v)) from zia hs] at Z;have d:=qu K (aJ v) (λC=>hs (.inr C));obtain⟨rfl,rfl⟩:=Prod.mk.inj Z;refine aa (z:=(0,[jz c (jn mg vl S (aJ v)),iG (jn mg vl S (aJ v)),.bool (jn mg vl S (aJ v)).isSome,.sl ((K++[aJ v]).map lY),X,gJ v])) ?_ rfl;refine b1 rfl (λC=>hs (.inl C)) (λe=>?_) (λe=>?_)
      ·rw[e,<-d];rfl
      ·rw[e,<-d];rfl
    ·obtain⟨u,Q⟩:∃ u,(aJ v).neg=u:=⟨_,rfl⟩;rw[Q] at aB b2 ⊢;refine aa (z:=(0,[.bool true,Hq,P1,P2,jz c (lD mg vl (K2,S2) u).2,iG (lD mg vl (K2,S2) u).2,.bool (lD mg vl (K2,S2) u).2.isSome,.sl ((lD mg vl (K2,S2) u).1.map lY),X])) ?_ (j0 (.bool false) (j0 false (rT (aa (bc (a:=j) (b:=1) j1) rfl))))
     refine aa O (j0 (ae (aJ v)) (j0 (I (if v=V.zero then 31 else 0)) (aa (z:=(0,[Hq,P1,P2,jz c S2,iG S2,.bool S2.isSome,.sl (K2.map lY),X,ae u])) (aa af (aa ac (aO j2 (aa (QU (n+1032) bp j2) (by rw[Q];rfl))))) ?_)))
     refine QF aB (K:=K2) rfl rfl rfl (λhs=>?_) (λhs=>?_)
     ·rw[show lD mg vl (K2,S2) u=(K2,S2) from zma hs];rfl
     ·rw[show lD mg vl (K2,S2) u=(K2++[u],jn mg vl S2 u) from zia hs];have d:=qu K2 u (λC=>hs (.inr C));refine aa (z:=(0,[jz c (jn mg vl S2 u),iG (jn mg vl S2 u),.bool (jn mg vl S2 u).isSome,.sl ((K2++[u]).map lY),X])) ?_ rfl;refine b2 rfl (λC=>hs (.inl C)) (λe=>?_) (λe=>?_)
      ·rw[e,<-d];rfl
      ·rw[e,<-d];rfl
   ·subst hs;refine⟨_,aa af (aa ac (aU (by rw[zta];omega) rfl)),?_⟩
    rw[zhb (zja _)];exact Np (aa (bc (a:=i) (b:=1) j1) rfl)
  ·subst hs;refine⟨_,aa af (aa ac (aU (by rw[zta];omega) rfl)),?_⟩
   rw[zhb (zja _),a6];exact Np rfl
end
def J7{mg vl:V->Rat}(R:List V):(∀ u∈R,u≠V.zero->u∈(oD mg vl R).1)/\∀ u∈(oD mg vl R).1,¬ mg u<0->∃ p,(oD mg vl R).2=some p/\vl u<=p.2:=by
 refine BT (P:=λR=>(∀ u∈R,u≠V.zero->u∈(oD mg vl R).1)/\∀ u∈(oD mg vl R).1,¬ mg u<0->∃ p,(oD mg vl R).2=some p/\vl u<=p.2) ⟨λu hu=>(by cases hu),λu hu=>(by cases hu)⟩ (λR w ih=>?_) R
 obtain⟨i1,i2⟩:=ih;rw[wh];unfold lD;split
 ·rename_i hw;refine⟨λu hu h0=>?_,i2⟩;rcases List.mem_append.1 hu with hu|hu
  ·exact i1 u hu h0
  ·rw[zKa.1 hu] at h0 ⊢;exact hw.resolve_left h0
 ·refine⟨λu hu h0=>?_,λu hu hm=>?_⟩
  ·rcases List.mem_append.1 hu with hu|hu
   ·exact List.mem_append_left _ (i1 u hu h0)
   ·exact zLa _ hu
  ·dsimp only[jn];rcases List.mem_append.1 hu with hu|hu
   ·obtain⟨p,e,hp⟩:=i2 u hu hm;rw[e];dsimp only;by_cases hw:mg w<0
    ·rw[zma hw];exact⟨p,rfl,hp⟩
    ·rw[zia hw];by_cases a:p.2<vl w
     ·rw[zma a];exact⟨_,rfl,Rat.le_trans hp (Rat.le_of_lt a)⟩
     ·rw[zia a];exact⟨p,rfl,hp⟩
   ·rw[zKa.1 hu] at hm ⊢;rw[zia hm];cases (oD mg vl R).2 with
    | none=>exact⟨_,rfl,Rat.le_refl⟩
    | some p=>
     dsimp only;split
     ·exact⟨_,rfl,Rat.le_refl⟩
     ·rename_i a;exact⟨p,rfl,Rat.not_lt.1 a⟩
def Ql(u:V):u.neg.neg=u:=by cases u;simp[V.neg]
section
variable{x y:V}{q r:Nat->Int}{l m:List V}{F G:FL}{E E':List (Nat×Nat)}
def PairOk.swap(h:PairOk x y q r l m):PairOk y x r q m l:=⟨h.pb,h.pa,h.lb,h.la,h.nb,h.na,h.kb,h.ka,h.tb,h.ta⟩
end
def Ai{l:List V}(g:V->V){i:Nat}(h:i<l.length):pt (l.map g) i=g (pt l i):=by unfold pt;rw[z2a,z2a,zib,zca h];rfl
def jC(u b:V):V.dot u.neg b=-V.dot u b:=by cases u;simp only[V.dot,V.neg];grind
end Sy
end
end Go.Proofs.YtphlmegkommlnaaGreatDoor
