/- Part 11 of the proof that SweepChecksAsSpecified answers true at every input -/
import Derived.Test.YtmnkibhalflchaaGreatChek01
import Derived.Test.YtmnkibhalflchaaGreatChek10
set_option linter.unusedVariables false
set_option linter.unusedSimpArgs false
set_option linter.unnecessarySimpa false
set_option linter.defProp false
set_option maxRecDepth 20000
namespace Go.Proofs.YtmnkibhalflchaaGreat
noncomputable section
namespace Sy
open Go Go.Proofs Geo
def Wd(x:Int):Prop:=x.natAbs<4611686018427387904
theorem Wd.inR{x:Int}(h:Wd x):inR x:=by unfold Wd at h;simp only[Sy.inR];omega
theorem Wd.In{x:Int}(h:Wd x):In x:=In.of h.inR
def XN(n:Nat){a b:Int}(g:Wd a)(c:b≠0)(h:b ∣ a):cA (n+1) 144 [I a,I b]=some (I (a/b)):=by
 rw[QX]
 delta E9 qB qT Jn
 obtain⟨q,rfl⟩:=h;have d:(b*q).tdiv b=q:=Int.mul_tdiv_cancel_left _ c;have e:b*q/b=q:=zib _ c;have f:(b*q).tmod b=0:=Int.mul_tmod_right ..;have hq:Sy.inR q:=by
  have:q.natAbs<=(b*q).natAbs:=by rw[zSa];exact zRb _ j1
  unfold Wd at g;simp only[Sy.inR];omega
 rw[e];refine aa (oa c (by rw[d];exact hq)) (aa (z:=(0,[I q])) (aa (kD c) ?_) rfl)
 rw[d,f];exact j0 false (j0 false (aa ac rfl))
def RN(n:Nat){a b:Int}(d:Wd a)(c:Wd b):cA (n+4) 85 [ae a,ae b]=some (ae (Nat.gcd a.natAbs b.natAbs:Nat)):=by
 rw[u85]
 delta Ps qB qC qT qN qS qZ iL iR Jn
 refine aa (nk n d) (j0 (I a) (j0 (.bool true) (aa (nk n c) (j0 (I b) (j0 (.bool true) (j0 true (j0 true (j0 true ?_))))))));rw[zja rfl];obtain⟨r,h1,f⟩:=y7 (body:=λ(v1:List D)=>
  (D.truth (D.bool (!(D.beq (gx v1 1) (D.int .i64 0))))).bind λb2=>
  if b2 then((adW .rem (gx v1 0) (gx v1 1)).bind λg=>
  some (Sum.inl [(gx v1 1),g])) else(some (Sum.inr (0,[(gx v1 0)]))))
  (λa b c=>by simp only[g0,g1,cp,ac,zba,c,decide_false,zqc,if_true,kD c])
  (λa=>by simp only[g0,g1,cp,ac,zba,decide_true,z1c,zLa,if_false]) _ a b rfl
 refine nG h1 ?_;have h:Nat.gcd a.natAbs b.natAbs<=4611686018427387903:=by unfold Wd at d c;exact tg j1 j1
 have e:Sy.inR r:=by simp only[Sy.inR];omega
 refine aa (ou n e) (aa (XM n (In.of e)) ?_);rw[f]
def yD(n:Nat){x:Int}(hx:In x):cA (n+3) 83 [ae x]=some (I (sg x)):=by
 rw[u83]
 delta RB qG qT qN qS Jn
 refine aa (mH n hx) (aa aF (j0 false (aa (z:=decide (x=0)) ?_ (aa ac ?_))))
 ·rw[zga j2]
  refine aa (rI n hx) (j0 (ag (ay x.natAbs)) ?_);rw[ac,aw];show some (D.beq (I ((ay x.natAbs).length:Nat)) (I (0:Nat)))=_;rw[dn];congr 1;rw[decide_eq_decide,zec,sU];omega
 ·by_cases h0:x=0
  ·refine aA h0 ?_;subst h0;rfl
  ·refine aB h0 (j0 (.bool (decide (x<0))) (aa ac ?_));by_cases h1:x<0
   ·refine aA h1 ?_;rw[xP h1]
   ·refine aB h1 ?_;rw[f8 j1]
def RO(n:Nat){a b:Int}(d:Wd a)(f:Wd b)(c:b≠0)(e:b ∣ a):cA (n+4) 87 [ae a,ae b]=some (ae (a/b)):=by
 rw[u87]
 delta Oq qG qB qT qN qS Jn
 refine aa (nk n d) (j0 (I a) (j0 (.bool true) (aa (nk n f) (j0 (I b) (j0 (.bool true) (j0 true (j0 true (j0 true (aa (z:=true) ?_ (j0 true ?_))))))))))
 ·rw[zja rfl,cp,zca c];rfl
 ·rw[zja rfl];have hq:Sy.inR (a/b):=by
   obtain⟨q,rfl⟩:=e;rw[zib _ c];have:q.natAbs<=(b*q).natAbs:=by rw[zSa];exact zRb _ j1
   unfold Wd at d;simp only[Sy.inR];omega
  exact aa (XN (n+2) d c e) (aa (ou n hq) rfl)
abbrev RJ(n:Nat):D:=.int .u64 (n:Int)
def du{n:Int}(h:0<=n/\n<18446744073709551616):IntKind.wrap .u64 n=n:=by
 obtain⟨h1,a⟩:=h;simp only[IntKind.wrap,IntKind.signed,IntKind.bits];first
  | omega
  | (simp;omega)
def M0(n:Nat){x:Int}(hx:Wd x):cA (n+4) 186 [ae x]=some (.tup [I x,.bool true]):=by
 rw[ZC]
 delta IE qG qB qC qT qN Jn
 have a:x.natAbs<4611686018427387904:=hx;have i1:Sy.inR (-9223372036854775808):=⟨j2,j2⟩
 have i2:Sy.inR 9223372036854775807:=⟨j2,j2⟩
 refine aa (mH (n+1) hx.In) (aa aF (j0 false ?_));rw[zga j2]
 refine aa (ou n i1) (aa (ou n i2) (aa (Ow n hx.In (In.of i1)) ?_));rw[show cb x (-9223372036854775808)=1 by unfold cb;rw[zga j1,zja j1]]
 refine aa (z:=.bool false) ai (j0 false (aa (z:=false) ?_ (j0 false ?_)))
 ·rw[zga j2]
  refine aa (Ow n hx.In (In.of i2)) ?_;rw[show cb x 9223372036854775807=-1 by unfold cb;rw[zja j1]]
  exact aa (z:=.bool false) bU rfl
 ·rw[zga j2]
  have c:=GG x.natAbs;have b:=Mn x.natAbs;refine aa (c8 (i:=1) j2) ?_
  rw[c];refine aa (z:=RJ (x.natAbs/4294967296%4294967296)) (by simp only[D.conv];rw[du j1]) ?_
  refine aa (z:=RJ (x.natAbs/4294967296%4294967296*4294967296)) (by simp only[adW,if_true];rw[du j1];simp) ?_
  refine aa (c8 (i:=0) j2) ?_
  rw[b];refine aa (z:=RJ (x.natAbs%4294967296)) (by simp only[D.conv];rw[du j1]) ?_
  refine aa (z:=RJ x.natAbs) (by simp only[adW,if_true];rw[du j1];congr 2;omega) ?_
  refine aa (z:=I (x.natAbs:Nat)) (by simp only[D.conv];rw[jn (by simp only[Sy.inR];omega)]) ?_
  refine aa (z:=(0,[I x])) (j0 (.bool (decide (x<0))) (aa ac ?_)) rfl;by_cases h:x<0
  ·refine aA h (aa (ur (by simp only[Sy.inR];omega)) ?_)
   congr 4;omega
  ·refine aB h ?_;congr 4;omega
def XV(n:Nat){v:V}(e:bd 2305843009213693951 v):cA (n+1) 187 [ak v]=some (.bool true):=by
 rw[ZD]
 delta IF qB qC qT qJ qZ iL iR Jn
 have a:∀ x:Int,(-2305843009213693951<=x/\x<=2305843009213693951)->∀ (i:Nat) (d:i<3),D.get (ak v) [i]=some (I x)->((D.idx (I (i:Int)) 3).bind λi4=>(D.get (ak v) [i4]).bind λk=>(adW .geq k (D.int .i64 2305843009213693952)).bind λl=>(D.truth l).bind λj=>
  Option.bind (if j then(some true) else((D.idx (I (i:Int)) 3).bind λi8=>(D.get (ak v) [i8]).bind λm=>(adW .leq m (D.int .i64 (-2305843009213693952))).bind λf=>D.truth f)) λb=>
  (D.truth (D.bool b)).bind λc=>if c then(some (Sum.inr (0,[(D.bool false)]))) else((adW .add (I (i:Int)) (D.int .i64 1)).bind λg=>some (Sum.inl [g])))=some (Sum.inl [I ((i+1:Nat):Int)]:Sum (List D) (Nat×List D)):=λx hx i d h=>by
  refine aa (au d) (aa h (aa eU (aa ac (aa (z:=false) ?_ (j0 false ?_)))))
  ·refine aB j1 (aa (au d) (aa h (aa dY ?_)))
   rw[ac,zca j1]
  ·rw[zga j2]
   exact aa (aN (aM (i:=i) j1)) rfl
 refine de (s':=[I (1:Nat)]) (aa ai (aa ac (aA j2 (a v.x e.1 0 j2 rfl)))) (de (s':=[I (2:Nat)]) (aa ai (aa ac (aA j2 (a v.y e.2.1 1 j2 rfl)))) (de (s':=[I (3:Nat)]) (aa ai (aa ac (aA j2 (a v.z e.2.2 2 j2 rfl)))) (eX (r:=(1,[])) (aa ai (aa ac (aB j2 rfl))) rfl)))
def CD(v:V):D:=.st [ae v.x,ae v.y,ae v.z]
def c80(n:Nat){v:V}(hx:inR v.x)(a:inR v.y)(b:inR v.z):cA (n+4) 80 [ak v]=some (CD v):=by
 rw[u80]
 delta Rz qG
 exact aa (y9 v) (aa (ou n hx) (aa (za v) (aa (ou n a) (aa (zb v) (aa (ou n b) rfl)))))
def PO(n:Nat){v:V}(l:bd 2305843009213693951 v):cA (n+5) 155 [CD v]=some (.st [ak (cc v),I (if v=V.zero then 31 else 0)]):=by
 rw[Zu]
 delta Iw qG qB qC qT qN qJ qZ iL iR Jn
 have p:Wd v.x:=by have:=l.1;unfold Wd;omega
 have d:Wd v.y:=by have:=l.2.1;unfold Wd;omega
 have s:Wd v.z:=by have:=l.2.2;unfold Wd;omega
 have h0:Sy.inR 0:=⟨j2,j2⟩
 have w0:Wd 0:=by unfold Wd;decide
 have q1:Nat.gcd v.x.natAbs v.y.natAbs<=4611686018427387903:=by unfold Wd at p d;exact tg j1 j1
 have F:bX v<=4611686018427387903:=by
  unfold bX;have:=tg (a:=(Nat.gcd v.x.natAbs v.y.natAbs:Nat)) (b:=v.z) (k:=4611686018427387903) (by simpa using q1) (by unfold Wd at s;omega)
  simpa using this
 have q:Wd (v.x.natAbs:Nat):=by unfold Wd at *;omega
 have w1:Wd (Nat.gcd v.x.natAbs v.y.natAbs:Nat):=by unfold Wd;omega
 have m:Wd (bX v:Nat):=by unfold Wd;omega
 have e:=RN n w0 p;have f:=RN n q d;have g:=RN n w1 s;rw[show(Nat.gcd (0:Int).natAbs v.x.natAbs)=v.x.natAbs by simp] at e
 rw[show(Nat.gcd ((v.x.natAbs:Nat):Int).natAbs v.y.natAbs)=Nat.gcd v.x.natAbs v.y.natAbs by simp] at f
 rw[show(Nat.gcd ((Nat.gcd v.x.natAbs v.y.natAbs:Nat):Int).natAbs v.z.natAbs)=bX v by simp[bX]] at g
 have fst:∀ {k:Nat×List D->Option D} {y:D},k (0,[ae (bX v:Nat)])=some y->(cA (n+4) 34 [(D.int .i64 0)]).bind (λr1=>Option.bind (aR (λ(v2:List D)=>
   (adW .lss (gx v2 0) (D.int .i64 3)).bind λA=>(D.truth A).bind λt=>
   if t then((D.idx (gx v2 0) 3).bind λi5=>(D.get (CD v) [i5]).bind λB=>(cA (n+4) 85 [(gx v2 1),B]).bind λu=>
   (adW .add (gx v2 0) (D.int .i64 1)).bind λC=>some (Sum.inl [C,u])) else(some (Sum.inr (0,[(gx v2 1)])))) [(D.int .i64 0),r1]) k)=some y:=by
  intro k y hk;refine aa (ou (n+1) h0) ?_;refine de (s':=[I 1,ae (v.x.natAbs:Nat)]) (aa ai (aa ac (aA j2 (aa QB (j0 (ae v.x) (aa e (aa (aN RR) rfl))))))) ?_
  refine de (s':=[I 2,ae (Nat.gcd v.x.natAbs v.y.natAbs:Nat)]) (aa ai (aa ac (aA j2 (aa QC (j0 (ae v.y) (aa f (aa (aN vD) rfl))))))) ?_
  refine de (s':=[I 3,ae (bX v:Nat)]) (aa ai (aa ac (aA j2 (aa QD (j0 (ae v.z) (aa g (aa (aN Qw) rfl))))))) ?_
  exact eX (r:=(0,[ae (bX v:Nat)])) (aa ai (aa ac (aB j2 rfl))) hk
 have i:=yD (n+1) m.In;by_cases hz:bX v=0
 ·refine fst (j0 (.bool false) (j0 false ?_));rw[zga j2]
  refine aa i ?_;rw[hz];refine j0 true ?_;rw[zja rfl];have o:v=V.zero:=by
   by_cases h:v=V.zero
   ·exact h
   ·have:=oN h;omega
  rw[o];rfl
 ·have c:(bX v:Int)≠0:=j1
  rw[zga (λh=>hz (by rw[h];rfl))]
  refine fst (j0 (.bool false) (j0 false ?_));rw[zga j2]
  refine aa i ?_;rw[f8 (show(0:Int)<bX v by omega)]
  refine j0 false ?_;rw[zga j2]
  have j:=wT l;have E:=RO n p m c (L8 v);have z2:=RO n d m c (L9 v);have z3:=RO n s m c (Ma v);have s1:=M0 n (x:=v.x/(bX v:Nat)) (by have:=j.1;unfold Wd;simp only[cc] at this;omega)
  have s2:=M0 n (x:=v.y/(bX v:Nat)) (by have:=j.2.1;unfold Wd;simp only[cc] at this;omega)
  have w:=M0 n (x:=v.z/(bX v:Nat)) (by have:=j.2.2;unfold Wd;simp only[cc] at this;omega)
  refine de (s':=[I 1,.st [ak V.zero,I 0],.st [ak ⟨v.x/(bX v:Nat),0,0⟩,I 0]]) ?_ (de (s':=[I 2,.st [ak V.zero,I 0],.st [ak ⟨v.x/(bX v:Nat),v.y/(bX v:Nat),0⟩,I 0]]) ?_ (de (s':=[I 3,.st [ak V.zero,I 0],.st [ak ⟨v.x/(bX v:Nat),v.y/(bX v:Nat),v.z/(bX v:Nat)⟩,I 0]]) ?_ (eX (r:=(1,[.st [ak V.zero,I 0],.st [ak (cc v),I 0]])) (aa ai (aa ac (aB j2 rfl))) ?_)))
  ·refine aa ai (aa ac (aA j2 (aa QB (j0 (ae v.x) (aa E (aa s1 (j0 (I (v.x/(bX v:Nat))) (j0 (.bool true) (j0 (.bool false) (j0 false ?_))))))))))
   rw[zga j2]
   exact aa QB (j0 (.st [ak ⟨v.x/(bX v:Nat),0,0⟩,I 0]) (aa (aN RR) rfl))
  ·refine aa ai (aa ac (aA j2 (aa QC (j0 (ae v.y) (aa z2 (aa s2 (j0 (I (v.y/(bX v:Nat))) (j0 (.bool true) (j0 (.bool false) (j0 false ?_))))))))))
   rw[zga j2]
   exact aa QC (j0 (.st [ak ⟨v.x/(bX v:Nat),v.y/(bX v:Nat),0⟩,I 0]) (aa (aN vD) rfl))
  ·refine aa ai (aa ac (aA j2 (aa QD (j0 (ae v.z) (aa z3 (aa w (j0 (I (v.z/(bX v:Nat))) (j0 (.bool true) (j0 (.bool false) (j0 false ?_))))))))))
   rw[zga j2]
   exact aa QD (j0 (.st [ak ⟨v.x/(bX v:Nat),v.y/(bX v:Nat),v.z/(bX v:Nat)⟩,I 0]) (aa (aN Qw) rfl))
  ·rw[zga (show ¬ (1:Nat)=0 by decide)]
   refine j0 (ak (cc v)) (aa (XV (n+3) (v:=cc v) ?_) (j0 (.bool false) (j0 false rfl)));simp only[bd] at j ⊢;omega
def XP(n:Nat){v:V}(a:bd 549755813888 v):∃ e:Int,cA (n+5) 155 [CD v]=some (.st [ak (cc v),I e]):=
 ⟨_,PO n (by simp only[bd] at *;omega)⟩
def XG(n:Nat){a b c:V}(f:bd MV a)(h:bd MV b)(hc:bd MV c):cA (n+6) 106 [ak a,ak b,ak c]=some (ak (cc (V.cross (b.sub a) (c.sub a)))):=by
 rw[Y1]
 delta H3 qG
 have h1:bd 524288 (b.sub a):=by have:=AH h f;simpa [MV] using this
 have g:bd 524288 (c.sub a):=by have:=AH hc f;simpa [MV] using this
 have i:=so h1 g;refine aa (DA (n+4) h f j2) (aa (DA (n+4) hc f j2) (aa (PI (n+4) h1 g j2) ?_))
 have d:bd 549755813888 (V.cross (b.sub a) (c.sub a)):=i;generalize V.cross (b.sub a) (c.sub a)=m at *;obtain⟨e,he⟩:=XP n d;refine aa (c80 (n+1) ?_ ?_ ?_) (aa he rfl)
 ·have:=d.1;simp only[Sy.inR];omega
 ·have:=d.2.1;simp only[Sy.inR];omega
 ·have:=d.2.2;simp only[Sy.inR];omega
theorem oF:∀ {l:List Nat} {j v:Nat},j<l.length->ba (l.set j v)+65536^j*l.getD j 0=ba l+65536^j*v
 | d::l,0,v,_=>by simp only[List.set_cons_zero,ba,zlc,z2c,List.getD_cons_zero];omega
 | d::l,j+1,v,h=>by
  have ih:=oF (l:=l) (j:=j) (v:=v) (by simpa using h)
  simp only[List.set_cons_succ,ba,zob,List.getD_cons_succ];rw[zMa (65536^j) 65536,z0a,z0a];generalize 65536^j*l.getD j 0=x at *;generalize 65536^j*v=y at *;omega
def pO(l:List Nat)(j v:Nat):(ag l).set j (I (v:Int))=ag (l.set j v):=by simp[ag,List.map_set]
def lu(l:List Nat)(j v i:Nat)(h:j<l.length):(l.set j v).getD i 0=if i=j then v else l.getD i 0:=by
 by_cases e:i=j
 ·subst e;simp[List.getD,h]
 ·simp[List.getD,e,List.getElem?_set,show ¬ j=i from λk=>e k.symm]
def vn(m:Nat):List.replicate m (D.int .i64 0)=ag (List.replicate m 0):=by simp[ag]
def sm{a b:Nat}(h:a*b<=9223372036854775807):adW .mul (I (a:Int)) (I (b:Int))=some (I ((a*b:Nat):Int)):=by rw[cO (by simp only[inR];rw[<-z4a];omega),z4a]
def aC{a b:Nat}(h:a+b<=9223372036854775807):adW .add (I (a:Int)) (I (b:Int))=some (I ((a+b:Nat):Int)):=by rw[aN (by simp only[inR];omega),zGc]
def C4(a:Nat):D.natOf (I (a:Int))=some a:=by simp[D.natOf]
def zj{l:List Nat}{i:Nat}(h:i<l.length):D.idx (I (i:Int)) (ag l).length=some i:=by rw[aw];exact au h
def L7{l:List Nat}(h:∀ i,i<l.length->l.getD i 0<65536):dl l:=λd b=>by obtain⟨i,a,rfl⟩:=z2a b;have:=h i a;simpa [List.getD,a] using this
def MX(n:Nat){a b:List Nat}(ha:dl a)(hb:dl b)(ax:a.length<=400000)(aI:b.length<=400000):cA (n+2) 146 [.sl (ag a),.sl (ag b)]=some (.sl (ag (ay (ba a*ba b)))):=by
 rw[Zt]
 delta Iv qB qC qS qX qL qV qW qZ iL iR Jn
 obtain⟨M,hM⟩:∃ M,M=a.length+b.length+1:=⟨_,rfl⟩;refine j0 (ag a) (j0 (ag b) (aa (z:=I ((a.length+b.length:Nat):Int)) (by rw[aw,aw];exact aC j1) (aa (z:=I (M:Int)) (by rw[hM];exact aC (b:=1) j1) (aa (C4 M) ?_))))
 rw[zja j1,vn]
 refine aQ (λi s=>∃ out:List Nat,s=[I (i:Int),.sl (ag out)]/\out.length=M/\dl out/\ba out=vt a i*ba b) a.length 0 (zoa _) ⟨List.replicate M 0,rfl,s6,λx hx=>by rw[zsd hx];decide,by have:=nr [] M;rw[z0b] at this;rw[this];simp[vt,ba]⟩ (λi hi s m=>?_) (λs m=>?_)
 ·obtain⟨out,rfl,ho,t,H⟩:=m;left;have al:=ha.getD i;obtain⟨r,h1,d,rfl,B,u,C⟩:=xq (body:=λ(v10:List D)=>
   (D.asSl (.sl (ag b))).bind λJ=>
   (adW .lss (gx v10 0) (D.int .i64 (List.length J))).bind λN=>
   (D.truth N).bind λF=>
   if F then((adW .add (I (i:Int)) (gx v10 0)).bind λO=>
   (adW .add (I (i:Int)) (gx v10 0)).bind λP=>
   (D.idx P (List.length (D.els (gx v10 1)))).bind λi16=>
   ((D.els (gx v10 1))[i16]?).bind λQ=>
   (D.asSl (.sl (ag a))).bind λy=>
   (D.idx (I (i:Int)) (List.length y)).bind λi19=>
   (y[i19]?).bind λR=>
   (D.asSl (.sl (ag b))).bind λA=>
   (D.idx (gx v10 0) (List.length A)).bind λi22=>
   (A[i22]?).bind λS=>
   (adW .mul R S).bind λT=>
   (adW .add Q T).bind λU=>
   (D.idx O (List.length (D.els (gx v10 1)))).bind λi26=>
   ((D.els (gx v10 1))[i26]?).bind λa1=>
   (adW .add (gx v10 0) (D.int .i64 1)).bind λV=>
   some (Sum.inl [V,(D.sl (List.set (D.els (gx v10 1)) i26 U))])) else(some (Sum.inr (0,[(D.sl (D.els (gx v10 1)))]))))
   (s0:=[I 0,.sl (ag out)])
   (λk s=>∃ o:List Nat,s=[I (k:Int),.sl (ag o)]/\o.length=M/\(∀ j,j<M->o.getD j 0<=4295032831/\(i+k<=j->o.getD j 0<65536))/\ba o=ba out+65536^i*(a.getD i 0*vt b k))
   (λr=>∃ o:List Nat,r=(0,[.sl (ag o)])/\o.length=M/\(∀ j,j<M->o.getD j 0<=4295032831)/\ba o=ba out+65536^i*(a.getD i 0*ba b)) b.length 0 (zoa _)
   ⟨out,rfl,ho,λj _=>by have:=t.getD j;omega,by simp[vt]⟩ (λk hk s m=>by
    obtain⟨o,rfl,B,u,C⟩:=m;left;have an:=hb.getD k;have g:i+k<o.length:=j1
    have hp:a.getD i 0*b.getD k 0<=65535*65535:=z5a j1 j1
    have hx:=(u (i+k) j1).2 (zka _)
    refine⟨[I ((k+1:Nat):Int),.sl (ag (o.set (i+k) (o.getD (i+k) 0+a.getD i 0*b.getD k 0)))],?_,_,rfl,by simpa using B,λj p=>?_,?_⟩
    ·refine j0 (ag b) (aa ai (aa ac (aA (by show(k:Int)<((ag b).length:Int);rw[aw];omega) ?_)))
     refine aa (aC (a:=i) (b:=k) j1) (aa (aC (a:=i) (b:=k) j1) (aa (zj g) (aa (dc g) ?_)))
     refine j0 (ag a) (aa (zj hi) (aa (dc hi) (j0 (ag b) (aa (zj hk) (aa (dc hk) ?_)))));refine aa (sm j1) (aa (aC j1) (aa (zj g) (aa (dc g) (aa (aN (aM (i:=k) j1)) ?_))))
     show some (Sum.inl [_,D.sl (List.set (ag o) (i+k) _)])=_;rw[pO];rfl
    ·rw[lu _ _ _ _ g];have:=u j p;split
     ·omega
     ·omega
    ·have e:=oF (l:=o) (j:=i+k) (v:=o.getD (i+k) 0+a.getD i 0*b.getD k 0) g;rw[vt,zPb,zPb];have e2:65536^i*(a.getD i 0*(b.getD k 0*65536^k))=65536^(i+k)*(a.getD i 0*b.getD k 0):=by
      rw[z1a,<-z0a (a.getD i 0),zMa (a.getD i 0*b.getD k 0),z0a]
     rw[zPb] at e;omega) (λs m=>by
    obtain⟨o,rfl,B,u,C⟩:=m;rw[lP] at C;exact⟨_,j0 (ag b) (aa ai (aa ac (aB (by show ¬ ((b.length:Int)<((ag b).length:Int));rw[aw];omega) rfl))),o,rfl,B,λj p=>(u j p).1,C⟩)
  obtain⟨r2,h2,q,rfl,p1,p2,p3⟩:=xq (body:=λ(v30:List D)=>
   (adW .lss (gx v30 1) (D.int .i64 (List.length (D.els (gx v30 2))))).bind λW=>
   (D.truth W).bind λG=>
   if G then((D.idx (gx v30 1) (List.length (D.els (gx v30 2)))).bind λi33=>
   ((D.els (gx v30 2))[i33]?).bind λX=>
   (adW .add X (gx v30 0)).bind λE=>
   (adW .rem E (D.int .i64 65536)).bind λY=>
   (D.idx (gx v30 1) (List.length (D.els (gx v30 2)))).bind λi37=>
   ((D.els (gx v30 2))[i37]?).bind λa2=>
   (adW .quo E (D.int .i64 65536)).bind λZ=>
   (adW .add (gx v30 1) (D.int .i64 1)).bind λad=>
   some (Sum.inl [Z,ad,(D.sl (List.set (D.els (gx v30 2)) i37 Y))])) else(some (Sum.inr (0,[(D.sl (D.els (gx v30 2)))]))))
   (s0:=[I 0,I 0,.sl (ag d)])
   (λk s=>∃ (o:List Nat) (c:Nat),s=[I (c:Int),I (k:Int),.sl (ag o)]/\o.length=M/\(∀ j,j<k->o.getD j 0<65536)/\(∀ j,k<=j->o.getD j 0=d.getD j 0)/\c<=131072/\ba o+65536^k*c=ba d)
   (λr=>∃ o:List Nat,r=(0,[.sl (ag o)])/\o.length=M/\dl o/\∃ c,ba o+65536^M*c=ba d) M 0 (zoa _)
   ⟨d,0,rfl,B,λj p=>z3a p (Nat.not_lt_zero _),λj _=>rfl,j1,s6⟩ (λk hk s m=>by
    obtain⟨o,c,rfl,q1,K,L,q4,q5⟩:=m;left;have f:k<o.length:=j1
    have hx:=u k hk;have hq:=L k (zka _);refine⟨[I (((o.getD k 0+c)/65536:Nat):Int),I ((k+1:Nat):Int),.sl (ag (o.set k ((o.getD k 0+c)%65536)))],?_,_,_,rfl,by simpa using q1,λj p=>?_,λj p=>?_,j1,?_⟩
    ·refine aa ai (aa ac (aA (by show(k:Int)<((ag o).length:Int);rw[aw];omega) ?_))
     refine aa (zj f) (aa (dc f) (aa (aC j1) (aa (lc (b:=65536) j2) (aa (zj f) (aa (dc f) (aa (jr (b:=65536) j2 j1) (aa (aN (aM (i:=k) j1)) ?_)))))))
     show some (Sum.inl [_,_,D.sl (List.set (ag o) k _)])=_;rw[pO];rfl
    ·rw[lu _ _ _ _ f];split
     ·omega
     ·exact K j j1
    ·rw[lu _ _ _ _ f,zga j1];exact L j j1
    ·have e:=oF (l:=o) (j:=k) (v:=(o.getD k 0+c)%65536) f;have e2:o.getD k 0+c=(o.getD k 0+c)%65536+65536*((o.getD k 0+c)/65536):=j1
     have e3:65536^k*(o.getD k 0+c)=65536^k*((o.getD k 0+c)%65536)+65536^k*(65536*((o.getD k 0+c)/65536)):=by rw[<-zPb,<-e2]
     rw[zPb] at e3;rw[zob,z0a];omega) (λs m=>by
    obtain⟨o,c,rfl,q1,K,L,q4,q5⟩:=m;exact⟨_,aa ai (aa ac (aB (by show ¬ ((M:Int)<((ag o).length:Int));rw[aw];omega) rfl)),o,rfl,q1,L7 λj p=>K j j1,c,q5⟩)
  obtain⟨c,p4⟩:=p3;refine⟨[I ((i+1:Nat):Int),.sl (ag q)],?_,q,rfl,p1,p2,?_⟩
  ·refine j0 (ag a) (aa ai (aa ac (aA (by show(i:Int)<((ag a).length:Int);rw[aw];omega) ?_)))
   refine aa h1 (aa h2 ?_);exact aa (aN (aM (i:=i) j1)) rfl
  ·have w:ba d=vt a (i+1)*ba b:=by
    rw[C,H,vt,zdb,zMa (a.getD i 0) (65536^i),z0a]
   have a0:vt a (i+1)*ba b<65536^M:=by
    have l1:=uv ha (i+1);have l2:=kf hb;have l3:vt a (i+1)*ba b<65536^(i+1)*65536^b.length:=zQc l1 l2;have l4:65536^(i+1)*65536^b.length<=65536^M:=by rw[<-z1a];exact zqa j2 j1
    omega
   have hc:c=0:=by
    rcases zAb c with h|h
    ·exact h
    ·have:65536^M*1<=65536^M*c:=zab _ h;omega
   subst hc;rw[<-w,<-p4];simp
 ·obtain⟨out,rfl,ho,t,H⟩:=m;refine⟨(0,[.sl (ag out)]),j0 (ag a) (aa ai (aa ac (aB (by show ¬ ((a.length:Int)<((ag a).length:Int));rw[aw];omega) rfl))),?_⟩
  refine aa (yy n (l:=out) j1) ?_
  rw[gV t,H,lP]
def PN(n:Nat)(x:Int):cA (n+1) 145 [I x]=some (.bool (decide (x<2147483648)&&decide (x>-2147483648))):=by
 rw[Zs]
 delta Iu qB qC Jn
 refine aa ai (aa ac ?_);cases h:decide (x<2147483648)
 ·rfl
 ·rw[zja rfl];exact aa (aa bU rfl) rfl
def xR(x y:Int):sgn (!(decide (decide (x<0)=decide (y<0)))) (x.natAbs*y.natAbs)=x*y:=by
 unfold sgn;rw[<-zSa];by_cases hx:x<0<;>by_cases hy:y<0
 ·have:=z9b hx hy;simp[hx,hy];omega
 ·have:=Int.mul_nonpos_of_nonpos_of_nonneg (zUa hx) (zMc.1 hy);simp[hx,hy];omega
 ·have:=Int.mul_nonpos_of_nonneg_of_nonpos (zMc.1 hx) (zUa hy);simp[hx,hy];omega
 ·have:=zLb (zMc.1 hx) (zMc.1 hy);simp[hx,hy];omega
def c89(n:Nat){x y:Int}(hx:Wd x)(d:Wd y):cA (n+4) 89 [ae x,ae y]=some (ae (x*y)):=by
 rw[u89]
 delta Ot qG qB qT qN
 refine aa (nk n hx) (j0 (I x) (j0 (.bool true) (aa (nk n d) (j0 (I y) (j0 (.bool true) (j0 true (j0 true (j0 true ?_))))))));refine aa (z:=(decide (x<2147483648)&&decide (x>-2147483648))) (by rw[zja rfl];exact aa (PN (n+2) x) rfl) (aa ac ?_)
 refine aa (z:=((decide (x<2147483648)&&decide (x>-2147483648))&&(decide (y<2147483648)&&decide (y>-2147483648)))) (by
  cases (decide (x<2147483648)&&decide (x>-2147483648))
  ·rfl
  ·rw[zja rfl];exact aa (PN (n+2) y) rfl) (aa ac ?_)
 cases hb:((decide (x<2147483648)&&decide (x>-2147483648))&&(decide (y<2147483648)&&decide (y>-2147483648)))
 ·rw[zga j2]
  refine aa (mH (n+1) hx.In) (aa aF (aa ac (aa (z:=false) ?_ (aa ac ?_))))
  ·rw[zga j2];exact aa (mH (n+1) d.In) rfl
  ·rw[zga j2]
   have i:=bo 32 _ hx.In;have j:=bo 32 _ d.In;refine j0 (.bool (decide (x<0))) (j0 (.bool (decide (y<0))) (aa (rI (n+1) hx.In) (aa (rI (n+1) d.In) (aa (MX (n+1) (aT _) (aT _) j1 j1) (aa (z:=ae (x*y)) ?_ rfl)))))
   rw[aq,aq];have c:x.natAbs*y.natAbs<65536^8:=by
    have e:(65536:Nat)^8=18446744073709551616*18446744073709551616:=j2
    rw[e];unfold Wd at hx d;exact zQc j1 j1
   have h:=bo 8 _ c;have f:x.natAbs*y.natAbs<65536^32:=zQa c (zqa j2 j2)
   have:=HT (n+1) (l:=ay (x.natAbs*y.natAbs)) (neg:=!(decide (decide (x<0)=decide (y<0)))) (aT _) j1 (by rw[aq];exact f)
   rw[aq,xR] at this;rw[<-this];congr 4
 ·rw[zja rfl];simp only[zaa,zia] at hb;have:=iK (A:=2147483648) (B:=2147483648) (a:=x) (b:=y) j1 j1
  have g:inR (x*y):=by simp only[inR];omega
  exact aa (cO g) (aa (ou n g) rfl)
def c59(n:Nat){x y:Int}(hx:Wd x)(b:Wd y):cA (n+4) 59 [ae x,ae y]=some (ae (x+y)):=by
 rw[u59]
 delta Om qG qB qT qN
 refine aa (nk n hx) (j0 (I x) (j0 (.bool true) (aa (nk n b) (j0 (I y) (j0 (.bool true) (j0 true (j0 true (j0 true ?_))))))));rw[zja rfl];have a:inR (x+y):=by unfold Wd at hx b;simp only[inR];omega
 exact aa (aN a) (aa (ou n a) rfl)
end Sy
end
noncomputable section
open Go
def mZ(n:Nat):Nat:=2^(32*n)
def df(n:Nat):mZ n=2^(32*n):=rfl
attribute [irreducible] mZ
def er:Nat:=mZ 16
def ga:er=mZ 16:=rfl
attribute [irreducible] er
def nU{a b:Nat}(h:a<=b):mZ a<=mZ b:=by rw[df,df];exact zqa j1 j1
def wB:mZ 2=18446744073709551616:=by rw[df]
def EJ(n:Nat):0<mZ n:=by rw[df];exact zDa _
def fA:0<er:=ga ▸ EJ 16
def xU{n:Nat}(h:n<18446744073709551616):n<er:=by rw[ga];rw[<-wB] at h;exact zQa h (nU j1)
def bx(X k:Nat):Int:=((X/2^(32*k)%2^32:Nat):Int)
def nq(X k:Nat):bx X k<=4294967295:=by grind [bx]
def sT(X k:Nat):bx X k<4294967296:=by grind [bx]
def cD(X k:Nat):0<=bx X k:=by unfold bx;exact z0c _
def Em(a b:Nat)(h:a<=b):2^b=2^a*2^(b-a):=by rw[<-z1a];congr 1;omega
theorem kc(X k j:Nat):bx (X%2^(32*k)) j=if j<k then bx X j else 0:=by
 unfold bx;split
 ·rename_i h;congr 1;rw[Em (32*j) (32*k) j1,Nat.mod_mul_right_div_self,show 32*k-32*j=32+(32*k-32*j-32) from by omega,z1a,Nat.mod_mul_right_mod]
 ·rename_i h;rw[z6a]
  ·simp
  ·exact zQa (zVa _ (zDa _)) (zqa j2 j1)
def xp(n:Nat):∀ (X Y:Nat),X<2^(32*n)->Y<2^(32*n)->(∀ k,k<n->bx X k=bx Y k)->X=Y:=by
 induction n with
 | zero=>intro X Y a b _;simp at a b;omega
 | succ n ih=>
  intro X Y a b h;have f:∀ Z:Nat,Z=Z%2^(32*n)+2^(32*n)*(Z/2^(32*n)):=λZ=>by have:=Nat.mod_add_div Z (2^(32*n));omega
  have hm:X%2^(32*n)=Y%2^(32*n):=by refine ih _ _ (zVa _ (zDa _)) (zVa _ (zDa _)) λk hk=>?_;grind [kc]
  have d:X/2^(32*n)=Y/2^(32*n):=by
   have h1:=h n j1
   unfold bx at h1;have e:∀ Z,Z<2^(32*(n+1))->Z/2^(32*n)<2^32:=λZ c=>by rw[zYa (zDa _),<-z1a,show 32+32*n=32*(n+1) from by omega];exact c
   grind
  grind
def D2{X Y:Nat}(a:X<er)(b:Y<er)(h:∀ k,k<16->bx X k=bx Y k):X=Y:=by rw[ga,df] at a b;exact xp 16 X Y a b h
def uQ(s V Z j:Nat):Int:=if j<s then bx V j else bx Z j
def vQ(s V Z:Nat):uQ s V Z s=bx Z s:=by unfold uQ;rw[zga (Nat.lt_irrefl s)]
def fl(X Y k:Nat):Nat:=(X%2^(32*k)+Y%2^(32*k))/2^(32*k)
def lT(X Y k:Nat):fl X Y k<=1:=by
 unfold fl;have h:=zDa (32*k);have h1:=zVa X h;have a:=zVa Y h;have:(X%2^(32*k)+Y%2^(32*k))/2^(32*k)<2:=(zYa h).2 j1
 omega
def qr(X Y:Nat):fl X Y 0=0:=by simp[fl,zgd]
theorem iV(X k:Nat):X=X%2^(32*k)+2^(32*k)*(X/2^(32*k)):=by have:=Nat.mod_add_div X (2^(32*k));omega
theorem dJ(k:Nat):2^(32*(k+1))=2^(32*k)*4294967296:=k7
theorem eH(X k:Nat):X%2^(32*(k+1))=X%2^(32*k)+2^(32*k)*(X/2^(32*k)%4294967296):=by rw[dJ,Nat.mod_mul]
def qo(X Y k:Nat):((fl X Y (k+1):Nat):Int)=((fl X Y k:Nat)+(bx X k+bx Y k))/4294967296:=by
 unfold fl bx;have hp:=zDa (32*k);rw[eH,eH,dJ,<-zPa];generalize 2^(32*k)=p at *;have:(X%p+p*(X/p%4294967296)+(Y%p+p*(Y/p%4294967296)))/p=(X%p+Y%p)/p+(X/p%4294967296+Y/p%4294967296):=by rw[show X%p+p*(X/p%4294967296)+(Y%p+p*(Y/p%4294967296))=(X%p+Y%p)+p*(X/p%4294967296+Y/p%4294967296) from by rw[zPb];omega,zQb _ _ hp]
 omega
def CB(X Y k:Nat):bx (X+Y) k=((fl X Y k:Nat)+(bx X k+bx Y k))%4294967296:=by
 unfold fl bx;have hp:=zDa (32*k);have hx:=iV X k;have a:=iV Y k;generalize 2^(32*k)=p at *;have:(X+Y)/p=(X%p+Y%p)/p+(X/p+Y/p):=by rw[show X+Y=(X%p+Y%p)+p*(X/p+Y/p) from by rw[zPb];omega,zQb _ _ hp]
 omega
theorem zQ:2^(32*16)=er:=by rw[ga,df 16]
def DL{X Y:Nat}(a:X<er)(b:Y<er):fl X Y 16=if X+Y<er then 0 else 1:=by
 have h:=lT X Y 16;unfold fl at *;rw[zQ,zTa a,zTa b] at *;split
 ·simp_all
 ·have:1<=(X+Y)/er:=(zbc fA).2 j1
  omega
def ca(X Y k:Nat):Nat:=if X%2^(32*k)<Y%2^(32*k) then 1 else 0
def su(X Y k:Nat):ca X Y k<=1:=by unfold ca;split<;>omega
def oo(X Y:Nat):ca X Y 0=0:=by simp[ca,zgd]
def om(X Y k:Nat):((ca X Y (k+1):Nat):Int)=if bx X k-bx Y k-(ca X Y k:Nat)<0 then 1 else 0:=by
 unfold ca bx;have hp:=zDa (32*k);rw[eH,eH];have h1:=zVa X hp;have c:=zVa Y hp;simp only[show(2:Nat)^32=4294967296 from rfl];generalize 2^(32*k)=p at *;generalize X/p%4294967296=a;generalize Y/p%4294967296=b;generalize X%p=x at *;generalize Y%p=y at *;rcases zrd a b with h|h|h
 ·have:p*a+p<=p*b:=by rw[<-zFd];exact zab _ h
  grind
 ·grind
 ·have:p*b+p<=p*a:=by rw[<-zFd];exact zab _ h
  grind
def CC{X Y:Nat}(h:Y<=X)(k:Nat):bx (X-Y) k=(bx X k-bx Y k-(ca X Y k:Nat))%4294967296:=by
 unfold ca bx;have hp:=zDa (32*k);have hx:=iV X k;have d:=iV Y k;have h1:=zVa X hp;have f:=zVa Y hp;simp only[show(2:Nat)^32=4294967296 from rfl];generalize 2^(32*k)=p at *;have hle:Y/p<=X/p:=Nat.div_le_div_right h;generalize hxq:X/p=a at *;generalize hyq:Y/p=b at *;generalize hxr:X%p=x at *;generalize hyr:Y%p=y at *;by_cases h3:x<y
 ·have c:b<a:=by
   all_goals grind
  have e:X-Y=(x+p-y)+p*(a-b-1):=by
   rw[hx,d,Nat.mul_sub,Nat.mul_sub];have:p*b+p<=p*a:=by rw[<-zFd];exact zab _ c
   omega
  rw[e,zQb _ _ hp,z6a j1,zja h3]
  omega
 ·have e:X-Y=(x-y)+p*(a-b):=by
   rw[hx,d,Nat.mul_sub];have:p*b<=p*a:=zab _ hle;omega
  rw[e,zQb _ _ hp,z6a j1,zga h3]
  omega
def rl(a b:Int)(c:Nat)(a0:0<=a)(a1:a<=4294967295)(b0:0<=b)(b1:b<=4294967295)(hc:c<=1) :
  IntKind.u64.wrap (IntKind.u64.wrap (a-b)-(c:Int))/9223372036854775808=(if a-b-(c:Int)<0 then 1 else 0) ∧
  IntKind.u64.wrap (IntKind.u64.wrap (a-b)-(c:Int))%4294967296=(a-b-(c:Int))%4294967296:=by
 have e:∀ n:Int,IntKind.u64.wrap n=n%18446744073709551616:=λn=>rfl;all_goals grind
def g7(X:Nat):Nat->Nat
 | 0=>0
 | k+1=>if 2^(32*k)<=X then k+1 else g7 X k
def cY(X:Nat):Nat:=g7 X 16
def Ee(X k:Nat):g7 X k<=k:=by
 induction k with
 | zero=>exact zka _
 | succ k ih=>unfold g7;split<;>omega
def Bn(X k:Nat)(h:g7 X k≠0):2^(32*(g7 X k-1))<=X:=by
 induction k with
 | zero=>exact z3a rfl h
 | succ k ih=> all_goals grind [g7]
def zJ(X k:Nat)(h:X<2^(32*k)):X<2^(32*g7 X k):=by
 induction k with
 | zero=>exact h
 | succ k ih=> all_goals grind [g7]
def jO(X:Nat):cY X<=16:=Ee X 16
def eI{X:Nat}(h:X<er):X<2^(32*cY X):=zJ X 16 (by rw[ga,df] at h;exact h)
def nL{X:Nat}(h:cY X≠0):2^(32*(cY X-1))<=X:=Bn X 16 h
def xc{X k:Nat}(h:X<2^(32*(k+1))):bx X k=0↔X<2^(32*k):=by
 unfold bx;have hp:=zDa (32*k);have a:X/2^(32*k)<2^32:=by rw[zYa hp,<-z1a,show 32+32*k=32*(k+1) from by omega];exact h
 rw[zTa a];constructor
 ·intro c;have b:X/2^(32*k)=0:=j1
  all_goals simp_all
 ·simp_all [z6a]
def sgn(a b:Nat):Int:=if a<b then -1 else if b<a then 1 else 0
def ju(X Y k:Nat):Prop:=X/2^(32*k)=Y/2^(32*k)
def DX{X Y:Nat}(a:X<er)(b:Y<er):ju X Y 16:=by unfold ju;rw[ga,df] at a b;omega
def me(X k:Nat):X/2^(32*k)=X/2^(32*(k+1))*4294967296+(X/2^(32*k))%4294967296:=by rw[dJ,<-zPa];omega
def zi{X Y k:Nat}(h:ju X Y (k+1))(a:bx X k=bx Y k):ju X Y k:=by unfold ju bx at *;rw[me X k,me Y k,h];omega
def Af{X Y k:Nat}(h:ju X Y (k+1))(b:bx X k≠bx Y k):sgn X Y=if bx X k<bx Y k then -1 else 1:=by
 unfold ju bx at *;have hx:=me X k;have d:=me Y k;have hp:=zDa (32*k);have e:=iV X k;have f:=iV Y k;have h1:=zVa X hp;have c:=zVa Y hp;simp only[show(2:Nat)^32=4294967296 from rfl] at b ⊢;generalize 2^(32*k)=p at *;unfold sgn;by_cases hlt:X/p<Y/p
 ·have:p*(X/p)+p<=p*(Y/p):=by rw[<-zFd];exact zab _ hlt
  omega
 ·have a:Y/p<X/p:=j1
  have:p*(Y/p)+p<=p*(X/p):=by rw[<-zFd];exact zab _ a
  omega
def EC{X Y:Nat}(h:ju X Y 0):sgn X Y=0:=by simp_all [ju,sgn]
theorem eF(X k:Nat):bx X k=((X/2^(32*k)%4294967296:Nat):Int):=rfl
def fR{X n k:Nat}(h:X<2^(32*n))(hk:n<=k):bx X k=0:=by rw[eF,z6a (zQa h (zqa j1 j1))];rfl
def j8(X c s j:Nat)(h:j<s):bx (X+c*2^(32*s)) j=bx X j:=by
 rw[eF,eF];congr 1;rw[show 32*s=32*j+(32+32*(s-j-1)) from by omega,z1a,z1a,show c*(2^(32*j)*(2^32*2^(32*(s-j-1))))=2^(32*j)*(4294967296*(c*2^(32*(s-j-1)))) from by rw[show(2:Nat)^32=4294967296 from rfl];ac_rfl,zQb _ _ (zDa _),zod]
def gP(A B i:Nat):Nat:=A%2^(32*i)*B
def nJ(A B i k:Nat):Nat:=gP A B i+(A/2^(32*i)%4294967296)*(B%2^(32*k))*2^(32*i)
def oS(A B i k:Nat):Nat:=nJ A B i k/2^(32*(i+k))-gP A B i/2^(32*(i+k))
def xv(A B i k:Nat):Nat->Int:=uQ (i+k) (nJ A B i k) (gP A B i)
def vV(A B i:Nat):nJ A B i 0=gP A B i:=by simp[nJ,zgd]
def vR(A B i:Nat):oS A B i 0=0:=by simp[oS,vV]
def Ea(A B i:Nat):xv A B i 0=bx (gP A B i):=by funext j;simp[xv,vV,uQ]
def vU(A B i k:Nat):nJ A B i (k+1)=nJ A B i k+(A/2^(32*i)%4294967296)*(B/2^(32*k)%4294967296)*2^(32*(i+k)):=by
 unfold nJ;rw[eH,show 32*(i+k)=32*i+32*k from by omega,z1a,zPb,zdb,zEb]
 grind
def Lb(A B i k:Nat):gP A B i<=nJ A B i k:=zad _ _
def xt(A B i k:Nat):oS A B i k+gP A B i/2^(32*(i+k))=nJ A B i k/2^(32*(i+k)):=by unfold oS;have:=Nat.div_le_div_right (c:=2^(32*(i+k))) (Lb A B i k);omega
theorem zH(A B i k:Nat):nJ A B i (k+1)/2^(32*(i+k))=oS A B i k+gP A B i/2^(32*(i+k))+(A/2^(32*i)%4294967296)*(B/2^(32*k)%4294967296):=by rw[vU,znc _ _ (zDa _),xt]
def tK(A B i k:Nat):oS A B i (k+1)=(oS A B i k+((A/2^(32*i)%4294967296)*(B/2^(32*k)%4294967296)+gP A B i/2^(32*(i+k))%4294967296))/4294967296:=by
 have h1:=xt A B i (k+1);have a:=zH A B i k;have e:∀ X,X/2^(32*(i+(k+1)))=X/2^(32*(i+k))/4294967296:=λX=>by rw[show i+(k+1)=i+k+1 from by omega,dJ,zPa]
 grind
def AN(a p q z c:Nat):(((a+(p*q+z))%c:Nat):Int)=((a:Int)+((p:Int)*q+z))%(c:Int):=by push_cast;rfl
def D6(A B i k:Nat):((oS A B i (k+1):Nat):Int)=((oS A B i k:Nat)+(bx A i*bx B k+bx (gP A B i) (i+k)))/4294967296:=by simp_all [tK,eF]
def xu(A B i k:Nat):oS A B i k<=4294967295:=by
 induction k with
 | zero=>rw[vR];omega
 | succ k ih=>
  rw[tK];have h1:A/2^(32*i)%4294967296<=4294967295:=j1
  have a:B/2^(32*k)%4294967296<=4294967295:=j1
  have b:=z5a h1 a;omega
def D8(A B i k:Nat):xv A B i k (i+k)=bx (gP A B i) (i+k):=vQ _ _ _
def GR(A B i k:Nat):bx (nJ A B i (k+1)) (i+k)=((oS A B i k:Nat)+(bx A i*bx B k+bx (gP A B i) (i+k)))%4294967296:=by grind [eF,nJ,zH]
def vW{A B i m:Nat}(a:B<2^(32*m)):gP A B (i+1)=nJ A B i m:=by grind [gP,nJ,eH,Nat.mod_eq_of_lt,Nat.add_mul]
def C2{A B i m:Nat}(a:B<2^(32*m)):gP A B i<2^(32*(i+m)):=by
 unfold gP;rw[show 32*(i+m)=32*i+32*m from by omega,z1a]
 exact zQc (zVa _ (zDa _)) a
def Eb(A B:Nat):gP A B 0=0:=by simp[gP,zgd]
def GS{A B n:Nat}(a:A<2^(32*n)):gP A B n=A*B:=by unfold gP;rw[zTa a]
def iC(k:Nat):bx 0 k=0:=by simp[bx]
def j9(X a k:Nat):bx (X/2^(32*a)) k=bx X (a+k):=by simp_all [eF,zPa,z1a,zPb]
def yQ(X a k:Nat):bx (X/mZ a) k=bx X (a+k):=by rw[df,j9]
def GP(a b D c:Nat):(a+b*D)%c=(a+b%c*D)%c:=by
 have h:b*D%c=b%c*D%c:=by simp_all
 simp_all [Nat.add_mod]
def gO(X D k:Nat):Nat:=X%2^(32*k)*D/2^(32*k)
def vT(X D:Nat):gO X D 0=0:=by simp[gO,zgd]
def xw(X k:Nat){D:Nat}(h:0<D):gO X D k<D:=by unfold gO;rw[zYa (zDa _),zMa D];exact zzb (zVa _ (zDa _)) h
def Bj(X D k:Nat):gO X D (k+1)=(gO X D k+X/2^(32*k)%4294967296*D)/4294967296:=by unfold gO;grind [eH,dJ,Nat.div_div_eq_div_mul,Nat.add_mul,Nat.mul_assoc,Nat.add_mul_div_left]
def vS(X D k:Nat):((gO X D (k+1):Nat):Int)=((gO X D k:Nat)+bx X k*(D:Nat))/4294967296:=by simp_all [zWb,Int.add_zero,zCd,Int.cast_ofNat_Int,Bj,eF]
def zG(X D k:Nat):bx (X*D) k=((gO X D k:Nat)+bx X k*(D:Nat))%4294967296:=by
 have h:=AN (gO X D k) (X/2^(32*k)%4294967296) D 0 4294967296;simp only[zWb,Int.add_zero,zCd,Int.cast_ofNat_Int] at h;rw[eF,eF];refine Eq.trans (zxa Nat.cast ?_) h;have e:X*D/2^(32*k)=gO X D k+X/2^(32*k)*D:=by grind [gO,Nat.add_mul_div_left,Nat.two_pow_pos,Nat.mul_assoc,Nat.add_mul,iV]
 rw[e,GP]
def GQ{X D:Nat}(h:X<er):gO X D 16=X*D/er:=by grind [gO,zQ,Nat.mod_eq_of_lt]
def Gb(X n k:Nat)(hn:n<=32):bx (X/2^n) k=(bx X (k+1)*4294967296+bx X k)/((2^n:Nat):Int)%4294967296:=by
 rw[eF,eF,eF,dJ,<-zPa,zPa,zMa (2^n),<-zPa];generalize X/2^(32*k)=Y;have e:(((Y/4294967296%4294967296:Nat):Int)*4294967296+((Y%4294967296:Nat):Int))=((Y%(2^n*(2^(32-n)*4294967296)):Nat):Int):=by
  rw[<-z0a,<-z1a,show n+(32-n)=32 from by omega,show(2:Nat)^32=4294967296 from rfl]
  omega
 rw[e,<-zdd,Nat.mod_mul_right_div_self];generalize Y/2^n=Z;have h:Z%4294967296=Z%(2^(32-n)*4294967296)%4294967296:=(Nat.mod_mul_left_mod _ _ _).symm;rw[h];exact Int.natCast_emod _ 4294967296
def vM(X k j:Nat):bx (X/2^(32*k)*2^(32*k)) j=if j<k then 0 else bx X j:=by
 have h:=j8 0 (X/2^(32*k)) k j;by_cases hj:j<k
 ·simp_all [z8a,iC]
 ·rw[zga hj,show j=k+(j-k) from by omega,<-j9,Nat.mul_div_cancel _ (zDa _),j9]
def fJ(X b k:Nat):Nat:=X/2^(32*k)%b
def zZ(X k:Nat){b:Nat}(h:0<b):fJ X b k<b:=zVa _ h
def sV(X k:Nat):X/2^(32*k)=X/2^(32*(k+1))*4294967296+X/2^(32*k)%4294967296:=by rw[dJ,<-zPa];omega
def BB(X b k:Nat):fJ X b k=(fJ X b (k+1)*4294967296+X/2^(32*k)%4294967296)%b:=by
 unfold fJ
 conv=>lhs;rw[sV X k]
 simp_all [zxc,GP]
def ED(X k:Nat){b:Nat}(a:0<b)(h:b<=4294967295):X/b/2^(32*k)%4294967296=(fJ X b (k+1)*4294967296+X/2^(32*k)%4294967296)/b:=by
 have e:X/b/2^(32*k)=X/2^(32*(k+1))/b*4294967296+(fJ X b (k+1)*4294967296+X/2^(32*k)%4294967296)/b:=by
  rw[zPa,zMa,<-zPa]
  conv=>lhs;rw[sV X k]
  unfold fJ;generalize X/2^(32*(k+1))=Y;generalize X/2^(32*k)%4294967296=z
  conv=>lhs;rw[show Y*4294967296+z=b*(Y/b*4294967296)+(Y%b*4294967296+z) from by
   have:=zZb Y b
   conv=>lhs;rw[<-this]
   rw[zdb,z0a];omega]
  rw[Nat.mul_add_div a]
 have c:(fJ X b (k+1)*4294967296+X/2^(32*k)%4294967296)/b<4294967296:=by rw[zYa a];have h1:=zZ X (k+1) a;omega
 simp_all
def Ey(X b:Nat):fJ X b 0=X%b:=by simp[fJ]
structure Heads(W V P T F u v:Nat):Prop where
 w:W/P=T*4294967296+u
 d:V/P=F*4294967296+v
 u:u<4294967296
 v:v<4294967296
 one:1<=F
 pos:0<P
 lt:W<V*4294967296
variable{W V P T F u v:Nat}
def Heads.key{d r:Nat}(h:d*F+r=T):d*(F*4294967296+v)+r*4294967296=T*4294967296+d*v:=by grind
def Heads.vpos(H:Heads W V P T F u v):0<V:=by
 rcases zAb V with h|h
 ·have:=H.lt;rw[h] at this;omega
 ·exact h
def Heads.over(H:Heads W V P T F u v){d:Nat}(h:W/P<d*(V/P)):W/V<d:=by
 apply zsc;have h1:W<(W/P+1)*P:=by have:=zZb W P;have:=zVa W H.pos;rw[zdb,zMa (W/P)];omega
 have a:(W/P+1)*P<=d*(V/P)*P:=zEa _ h;have b:d*(V/P)*P<=d*V:=by rw[z0a];exact zab _ (zfc V P)
 grind
def Heads.under(H:Heads W V P T F u v){d:Nat}(h:d*(V/P)<=W/P)(i:d<4294967296):d<=W/V+1:=by
 rcases zAb d with h0|h0
 ·simp_all
 obtain⟨e,rfl⟩:∃ e,d=e+1:=⟨d-1,j1⟩
 have g:e<=V/P:=by rw[H.d];have h1:1*4294967296<=F*4294967296:=zEa _ H.one;omega
 have:e<=W/V:=by
  rw[zbc H.vpos];have h1:V<=(V/P+1)*P:=by have:=zZb V P;have:=zVa V H.pos;rw[zdb,zMa (V/P)];omega
  have a:e*V<=e*((V/P+1)*P):=zab _ h1;have b:e*((V/P+1)*P)<=(e+1)*(V/P)*P:=by rw[<-z0a];apply zEa;rw[zPb,zdb];omega
  have c:(e+1)*(V/P)*P<=W/P*P:=zEa _ h;have f:=zfc W P;omega
 omega
def Heads.q_lt(H:Heads W V P T F u v):W/V<4294967296:=zsc (by have:=H.lt;omega)
def Heads.start(H:Heads W V P T F u v):W/V<=T/F:=by
 have h1:W/V<T/F+1:=by
  apply H.over;rw[H.w,H.d];have a:T<(T/F+1)*F:=by have:=zZb T F;have:=zVa T (show 0<F from H.one);rw[zdb,zMa (T/F)];omega
  have b:(T+1)*4294967296<=(T/F+1)*F*4294967296:=zEa _ a;have c:(T/F+1)*F*4294967296<=(T/F+1)*(F*4294967296+v):=k7
  have e:=H.u;omega
 omega
def Heads.step_big(H:Heads W V P T F u v){d:Nat}(h:4294967296<=d):W/V<=d-1:=Nat.le_sub_one_of_lt (zQa H.q_lt h)
def Heads.step(H:Heads W V P T F u v){d r:Nat}(h:d*F+r=T)(a:r*4294967296+u<d*v):W/V<=d-1/\1<=d:=by
 have h1:W/V<d:=by apply H.over;rw[H.w,H.d];grind
 grind
def Heads.t_lt(H:Heads W V P T F u v):T<(F+1)*4294967296:=by
 have h1:W/P*P<=W:=zfc W P;have a:V<(V/P+1)*P:=by have:=zZb V P;have:=zVa V H.pos;rw[zdb,zMa (V/P)];omega
 have e:V*4294967296<(V/P+1)*P*4294967296:=zzb a j1
 have f:=H.lt;have b:W/P*P<(V/P+1)*4294967296*P:=by rw[Nat.mul_right_comm];omega
 have c:W/P<(V/P+1)*4294967296:=Nat.lt_of_mul_lt_mul_right b;rw[H.w,H.d] at c;have g:=H.v;omega
def Heads.done(H:Heads W V P T F u v){d r:Nat}(h:d*F+r=T)(a:4294967296<=r\/(d<4294967296/\d*v<=r*4294967296+u)):d<4294967296/\d<=W/V+1:=by
 have b:d<4294967296:=by
  rcases a with a|a
  ·have h1:=H.t_lt;rw[zdb,z2c] at h1;have c:d*F<4294967296*F:=j1
   exact Nat.lt_of_mul_lt_mul_right c
  ·exact a.1
 refine⟨b,H.under ?_ b⟩;rw[H.w,H.d];have hk:=Heads.key (v:=v) h;rcases a with a|a
 ·have h1:d*v<=4294967295*4294967295:=z5a j1 (by have:=H.v;omega)
  omega
 ·omega
def dg(X k:Nat):Nat:=X/2^(32*k)%4294967296
def pM(X k:Nat):bx X k=(dg X k:Nat):=rfl
def fE(X k:Nat):dg X k<4294967296:=zVa _ j1
def CA(X k:Nat):dg X k<=4294967295:=Nat.le_of_lt_succ (fE X k)
def oE(X k:Nat):X/2^(32*k)=X/2^(32*(k+1))*4294967296+dg X k:=sV X k
def jF{X k:Nat}(h:X<2^(32*(k+1))):X/2^(32*k)=dg X k:=by rw[oE,z6a h,z5c,z8a]
def Gt{U V e j:Nat}(b:V<2^(32*(e+2)))(c:2^(32*(e+1))<=V)(d:U/2^(32*j)<V*4294967296) :
  Heads (U/2^(32*j)) V (2^(32*e)) (dg U (j+e+2)*4294967296+dg U (j+e+1)) (dg V (e+1)) (dg U (j+e)) (dg V e):=by
 have hc:∀ k,U/2^(32*j)/2^(32*k)=U/2^(32*(j+k)):=λk=>by rw[zPa,<-z1a,zPb]
 have a:U<2^(32*(j+e+2+1)):=by
  have h1:=(zYa (zDa (32*j))).1 d;have f:V*4294967296*2^(32*j)<2^(32*(e+2))*4294967296*2^(32*j):=zzb (zzb b j1) (zDa _)
  grind
 refine⟨?_,?_,fE _ _,fE _ _,?_,zDa _,d⟩
 ·rw[hc,oE,oE U (j+e+1),jF a]
 ·rw[oE,jF b]
 ·rw[<-jF b];exact(zbc (zDa _)).2 (by rw[z2c];exact c)
def N3(U i k:Nat):dg U i*4294967296+dg U k<=18446744073709551615:=by have h1:=CA U i;have a:=CA U k;omega
def A7{T F D R:Nat}(h:D*F+R=T)(a:1<=D):(D-1)*F+(R+F)=T:=by
 obtain⟨E,rfl⟩:∃ E,D=E+1:=⟨D-1,j1⟩
 grind
def uH{X X' Y k:Nat}(h:X%2^(32*k)=X'%2^(32*k)):ca X Y k=ca X' Y k:=by unfold ca;rw[h]
def fc(U Z j:Nat):Nat:=U%2^(32*j)+Z*2^(32*j)
def Eh{U Z j t:Nat}(h:t<j):bx (fc U Z j) t=bx U t:=by simp_all [fc,j8,kc]
def Bp(U Z j i:Nat):bx (fc U Z j) (j+i)=bx Z i:=by
 rw[<-j9];unfold fc
 simp_all [znc,zDa,z6a,zVa,z8a]
def uV(U Z j i:Nat):Nat->Int:=uQ (j+i) (fc U Z j) U
def wu(U Z j:Nat):uV U Z j 0=bx U:=by
 funext t;unfold uV uQ;split
 ·rename_i h;exact Eh j1
 ·rfl
def my(U Z j i:Nat):uV U Z j i (j+i)=bx U (j+i):=vQ _ _ _
def lQ(W Y m:Nat):Nat:=(W+2^(32*m)-Y)%2^(32*m)
def ET{W Y m i:Nat}(a:i<m)(d:Y<=2^(32*m)):bx (lQ W Y m) i=(bx W i-bx Y i-(ca W Y i:Nat))%4294967296:=by
 have c:bx (W+2^(32*m)) i=bx W i:=by have:=j8 W 1 m i a;rwa [z2c] at this
 have b:ca (W+2^(32*m)) Y i=ca W Y i:=uH (by rw[show 32*m=32*i+(32*m-32*i) from by omega,z1a,zod])
 unfold lQ;rw[kc,zja a,CC j1,c,b]
def HJ(W Y m:Nat):lQ W Y m<2^(32*m):=zVa _ (zDa _)
def yu{W Y m:Nat}(a:W<2^(32*m))(b:Y<2^(32*m)):ca W Y m=if W<Y then 1 else 0:=by simp_all [ca,zTa]
def eD(N V j:Nat):Nat:=N/V%2^(32*j)*V+N%V
def Ev(N V:Nat):eD N V 0=N%V:=by simp[eD,zgd]
def Bz{N V k:Nat}(h:N/V<2^(32*k)):eD N V k=N:=by unfold eD;rw[zTa h,zMa];exact zZb N V
def wh(N V j:Nat):eD N V (j+1)=eD N V j+dg (N/V) j*V*2^(32*j):=by unfold eD dg;rw[eH];grind
def xI{N V:Nat}(j:Nat)(h:0<V):eD N V j<V*2^(32*j):=by unfold eD;have h1:=zVa (N/V) (zDa (32*j));have a:=zVa N h;have b:(N/V%2^(32*j)+1)*V<=2^(32*j)*V:=zEa _ h1;grind
def oZ{N V:Nat}(j:Nat)(h:0<V):eD N V j/2^(32*j)<V:=by rw[zYa (zDa _)];exact xI j h
def qf(N V j:Nat):eD N V (j+1)/2^(32*j)=eD N V j/2^(32*j)+V*dg (N/V) j:=by rw[wh,znc _ _ (zDa _),zMa V]
def zX(N V j:Nat):eD N V (j+1)%2^(32*j)=eD N V j%2^(32*j):=by rw[wh,zjd]
def Hh{N V:Nat}(j:Nat)(h:0<V):eD N V (j+1)/2^(32*j)/V=dg (N/V) j:=by simp_all [qf,zQb,z6a,oZ,z8a]
def Hi{N V:Nat}(j:Nat)(h:0<V):eD N V (j+1)/2^(32*j)<V*4294967296:=by rw[zYa (zDa _),z0a,zMa 4294967296,<-dJ];exact xI (j+1) h
def Eu{N V n:Nat}(j:Nat)(h:0<V)(a:V<2^(32*n)):eD N V (j+1)<2^(32*(j+n+1)):=by have h1:=xI (N:=N) (j+1) h;have b:V*2^(32*(j+1))<2^(32*n)*2^(32*(j+1)):=zzb a (zDa _);grind
def wa{U U' j:Nat}(h:U%2^(32*j)=U'%2^(32*j)):fc U (U'/2^(32*j)) j=U':=by unfold fc;rw[h,zMa (U'/2^(32*j)) (2^(32*j))];exact Nat.mod_add_div U' _
def Ei(U Z j:Nat):fc U Z j%2^(32*j)=U%2^(32*j):=by unfold fc;rw[zjd,Nat.mod_mod]
def Eg(U Z j:Nat):fc U Z j/2^(32*j)=Z:=by simp_all [fc,znc,zDa,z6a,zVa,z8a]
def zO{U Z j m:Nat}(a:Z<2^(32*m)):fc U Z j<2^(32*(j+m)):=by
 have h1:fc U Z j<(Z+1)*2^(32*j):=by unfold fc;have:=zVa U (zDa (32*j));rw[zdb];omega
 have b:(Z+1)*2^(32*j)<=2^(32*m)*2^(32*j):=zEa _ a;grind
variable{N V n:Nat}
def ni(a:V<2^(32*n)):V<2^(32*(n+1)):=zQa a (zqa j1 j1)
def yf{x y B:Nat}(hx:x<B):(x+y+B-y)%B=x:=by rw[show x+y+B-y=x+B from by omega,Nat.add_mod_right,zTa hx]
def z8(j:Nat)(h:0<V)(a:V<2^(32*n)) :
  fc (eD N V (j+1)) (lQ (eD N V (j+1)/2^(32*j)) (V*dg (N/V) j) (n+1)) j=eD N V j:=by
 have e:lQ (eD N V (j+1)/2^(32*j)) (V*dg (N/V) j) (n+1)=eD N V j/2^(32*j):=by unfold lQ;rw[qf];exact yf (zac (oZ j h) (ni a))
 rw[e,wa (zX N V j)]
def EU(j:Nat)(h:0<V)(a:V<2^(32*n)) :
  lQ (eD N V (j+1)/2^(32*j)) (V*(dg (N/V) j+1)) (n+1)=eD N V j/2^(32*j)+2^(32*(n+1))-V:=by
 have h1:=oZ (N:=N) j h;have b:=ni a;unfold lQ;rw[qf,zPb V (dg (N/V) j) 1,zvd];generalize 2^(32*(n+1))=B at *;generalize eD N V j/2^(32*j)=x at *;generalize V*dg (N/V) j=y;rw[show x+y+B-(y+V)=x+B-V from by omega,zTa j1]
def Aa(j:Nat)(h:0<V)(b:V<2^(32*n)){U1:Nat}(a:U1=fc (eD N V (j+1)) (lQ (eD N V (j+1)/2^(32*j)) (V*(dg (N/V) j+1)) (n+1)) j) :
  fc U1 ((U1/2^(32*j)+V)%2^(32*(n+1))) j=eD N V j:=by
 have h1:=oZ (N:=N) j h;have d:=ni b;have c:(U1/2^(32*j)+V)%2^(32*(n+1))=eD N V j/2^(32*j):=by rw[a,Eg,EU j h b];generalize 2^(32*(n+1))=B at *;generalize eD N V j/2^(32*j)=x at *;rw[show x+B-V+V=x+B from by omega,Nat.add_mod_right,zTa j1]
 rw[c,wa (by rw[a,Ei,zX])]
end
noncomputable section
namespace Sy
open Go Go.Proofs Geo
def cr(n:Nat)(f:Nat->Int):D:=.st ((List.range n).map λi=>.int .u32 (f i))
abbrev LM(X:Nat):D:=cr 16 (bx X)
def bk{n i:Nat}(f:Nat->Int)(h:i<n):D.get (cr n f) [i]=some (.int .u32 (f i)):=by simp[cr,D.get,D.fld,h]
def cU{n:Nat}{f g:Nat->Int}(h:∀ i,i<n->f i=g i):cr n f=cr n g:=by simp_all [cr,zHa.1]
def mC{n i:Nat}{f g:Nat->Int}{v:Int}(h:i<n)(a:∀ j,j<n->g j=if j=i then v else f j):D.set (cr n f) [i] (.int .u32 v)=some (cr n g):=by
 have e:((List.range n).map λi=>D.int .u32 (f i))[i]?=some (.int .u32 (f i)):=by simp[h]
 simp only[cr,D.set,e,zba];congr 2;apply zNb;all_goals grind
theorem sr(f g:Nat->Int):∀ l:List Nat,D.beqs (l.map λi=>D.int .u32 (f i)) (l.map λi=>D.int .u32 (g i))=l.all λi=>decide (f i=g i)
 | []=>rfl
 | i::l=>by simp only[znb,D.beqs,D.beq,zyb,sr f g l];simp
def Dq(n:Nat)(f g:Nat->Int):D.beq (cr n f) (cr n g)=decide (∀ i,i<n->f i=g i):=by simp only[cr,D.beq,sr];grind
def jq{X Y:Nat}(a:X<er)(b:Y<er):D.beq (LM X) (LM Y)=decide (X=Y):=by
 rw[Dq,decide_eq_decide];constructor
 ·exact D2 a b
 ·simp_all
def gB:D.st (ad9 (List.replicate 16 (D.int .u32 0)) [])=LM 0:=by have:LM 0=cr 16 (λ_=>0):=cU λi _=>iC i;rw[this];rfl
def fQ:az aZ=LM 0:=by have:LM 0=cr 16 (λ_=>0):=cU λi _=>iC i;rw[this];rfl
def NN(i:Nat):2^(32*i)=4294967296^i:=by rw[zfd]
def D1(m:Nat):dV (ay m)=LM m:=by simp_all [dV,LM,cr,iu,bx,NN]
def bQ(x:Int):ae x=.st [.bool false,.bool (decide (x<0)),LM x.natAbs]:=by unfold ae;rw[D1]
def Bu(a b c:Nat)(h:a*b=c):((2:Nat)^a)^b=2^c:=by rw[<-zfd,h]
def wC:(65536:Nat)^32=er:=(Bu 16 32 (32*16) rfl).trans ((df 16).symm.trans ga.symm)
def under(X k:Nat):Prop:=X<2^(32*k)
def Bf{X k:Nat}(hk:k=16)(h:X<er):under X k:=by subst hk;unfold under;rw[zQ];exact h
def um{X k:Nat}(hk:k<=16)(h:X<2^(32*k)):X<er:=by rw[<-df] at h;rw[ga];exact zQa h (nU hk)
def aU{x:Int}:In x↔x.natAbs<er:=by unfold In;rw[wC]
def sn:D:=.st [.bool true,.bool false,LM 0]
def cS:Option Int->D
 | some x=>ae x
 | none=>sn
def n8(a:Option Int):Prop:=∀ x,a=some x->In x
def lC(x:Int):Option Int:=if x.natAbs<er then some x else none
def km{x:Int}(h:In x):lC x=some x:=by unfold lC;rw[zja (aU.1 h)]
def zL(x:Int):n8 (lC x):=λy h=>by
 unfold lC at h;split at h
 ·cases h;exact aU.2 (by assumption)
 ·cases h
theorem n8.some{x:Int}(h:n8 (some x)):In x:=h x rfl
def br{x:Int}(h:In x):n8 (some x):=λy e=>by cases e;exact h
abbrev W(n:Int):D:=.int .u64 n
def HE{k:IntKind}{a:Int}(h0:0<=a)(h:a<18446744073709551616):D.conv .u64 (.int k a)=some (W a):=by simp only[D.conv,du ⟨h0,h⟩]
def uw{a b:Int}(h0:0<=a+b)(h:a+b<18446744073709551616):adW .add (W a) (W b)=some (W (a+b)):=by simp only[adW,if_true,du ⟨h0,h⟩]
def uy(a b:Int):adW .sub (W a) (W b)=some (W (IntKind.u64.wrap (a-b))):=by simp only[adW,if_true]
def MA{a b:Int}(h0:0<=a*b)(h:a*b<18446744073709551616):adW .mul (W a) (W b)=some (W (a*b)):=by simp only[adW,if_true,du ⟨h0,h⟩]
def ic(a:Int):D.conv .u32 (W a)=some (.int .u32 (a%4294967296)):=by simp only[D.conv];rfl
def ux{a:Int}(h:0<=a):adW .shr (W a) (.int .u64 32)=some (W (a/4294967296)):=by simp only[adW];rw[zga j2,zjc _ j2];rfl
def yd{a:Int}:adW .shr (W a) (.int .u64 63)=some (W (a/9223372036854775808)):=by simp only[adW];rw[zga j2,zjc _ j2];rfl
def eV{i n:Nat}(h:i<n):D.idx (I (i:Int)) n=some i:=au h
def eN(X k:Nat):D.conv .u64 (.int .u32 (bx X k))=some (W (bx X k)):=HE (cD X k) (by have:=sT X k;omega)
def rE{Z k:Nat}(hk:k<16):D.set (LM (Z%2^(32*k))) [k] (.int .u32 (bx Z k))=some (LM (Z%2^(32*(k+1)))):=
 mC hk λj a=>by rw[kc,kc];all_goals grind
def rF(Z:Nat):LM (Z%2^(32*0))=LM 0:=by simp[zgd]
def J9(Z k:Nat)(hk:k=16):LM (Z%2^(32*k))=LM Z:=cU λj a=>by rw[kc,zja j1]
def n9(Z:Nat):LM (Z%2^(32*16))=LM Z:=J9 Z 16 rfl
def MY(n:Nat){a:Option Int}(b:n8 a):cA (n+1) 167 [cS a]=some (.bool true):=by
 rw[QZ]
 delta Fb qG qT qN
 cases a with
 | none=> refine j0 (LM 0) (j0 (.bool true) (j0 true ?_));rw[zja rfl,gB,jq fA fA,zha rfl];rfl
 | some x=>
  have hx:=aU.1 b.some;simp only[cS,bQ];refine j0 (LM x.natAbs) (j0 (.bool false) (j0 false ?_));rw[zga j2,gB,jq hx fA]
  refine aa aF (aa ac ?_);by_cases h:x.natAbs=0
  ·rw[zha h];have:decide (x<0)=false:=zca j1
   rw[this];rfl
  ·simp_all
def PF(n:Nat){l:List (Option Int)}(hl:l.length<=1000)(h:∀ a∈l,n8 a):cA (n+2) 118 [.sl (l.map cS)]=some (.bool (l.all Option.isSome)):=by
 rw[QV]
 delta E7 qG qB qC qT qS qX qZ iL iR Jn
 refine j0 (l.map cS) ?_;refine aQ (λi s=>s=[I (i:Int)]/\(l.take i).all Option.isSome=true) l.length 0 (zoa _) ⟨rfl,rfl⟩ (λi f s e=>?_) (λs e=>?_)
 ·obtain⟨rfl,g⟩:=e;have j:(l.map cS)[i]?=some (cS l[i]):=by simp[f]
  have d:adW .lss (I (i:Int)) (D.int .i64 (l.map cS).length)=some (.bool true):=by simp_all [ai,zha,zva]
  have c:D.idx (I (i:Int)) (l.map cS).length=some i:=au (by rw[zva];exact f)
  have b:=h l[i] (zWa f);cases ha:l[i] with
  | none=>
   right;refine⟨(0,[.bool false]),?_,?_⟩
   ·refine aa d (j0 true ?_);rw[zja rfl];refine j0 (l.map cS) (aa c (aa j ?_));rw[ha];exact j0 (.bool true) (j0 true (j0 true (j0 true rfl)))
   ·grind
  | some x=>
   left;refine⟨[I ((i+1:Nat):Int)],?_,rfl,?_⟩
   ·refine aa d (j0 true ?_);rw[zja rfl];refine j0 (l.map cS) (aa c (aa j ?_));rw[ha] at b ⊢;refine j0 (.bool false) (j0 false (aa (z:=false) ?_ (j0 false ?_)))
    ·rw[zga j2];exact aa (MY n b) rfl
    ·rw[zga j2];exact aa (aN (aM (i:=i) j1)) rfl
   ·simp_all [zAa,zEc]
 ·obtain⟨rfl,g⟩:=e;rw[z7a] at g;refine⟨(1,[]),?_,?_⟩
  ·have d:adW .lss (I (l.length:Int)) (D.int .i64 (l.map cS).length)=some (.bool false):=by
    simp_all [ai,zca,zva]
   exact aa d (j0 false rfl)
  ·rw[g];rfl
def nj(n:Nat){a:Option Int}(c:n8 a):cA (n+2) 118 [.sl [cS a]]=some (.bool a.isSome):=by
 have:=PF n (l:=[a]) s6 (λb d=>by rw[zKa.1 d];exact c)
 simpa using this
def sA(n:Nat){a b:Option Int}(d:n8 a)(e:n8 b):cA (n+2) 118 [.sl [cS a,cS b]]=some (.bool (a.isSome&&b.isSome)):=by
 have:=PF n (l:=[a,b]) s6 (λc hc=>by
  simp only[zGa,zTb,or_false] at hc;rcases hc with rfl|rfl
  ·exact d
  ·exact e)
 simp_all
def DB(n:Nat):cA (n+1) 119 []=some sn:=by rw[Y9];unfold Ib;rw[fQ];rfl
def rd(neg:Bool)(m:Nat):decide (sgn neg m<0)=(neg&&!(decide (m=0))):=by grind [sgn]
def pe(neg:Bool)(m:Nat):(sgn neg m).natAbs=m:=by unfold sgn;cases neg<;>simp
def sv(n:Nat)(neg:Bool){m:Nat}(h:m<er):cA (n+1) 116 [.bool neg,LM m]=some (ae (sgn neg m)):=by
 rw[Y8]
 delta Ia qT
 rw[gB,jq h fA,bQ,rd,pe];refine j0 neg (aa (z:=neg&&!(decide (m=0))) ?_ rfl);cases neg<;>rfl
def XK(n:Nat){X Y:Nat}(b:X<er)(c:Y<er):cA (n+1) 120 [LM X,LM Y]=some (.tup [LM (X+Y),.bool (decide (X+Y<er))]):=by
 rw[Zb]
 delta Ic qB qC qJ qZ iL iR Jn
 rw[fQ];refine aQ (λk s=>s=[W (fl X Y k:Nat),I (k:Int),LM ((X+Y)%2^(32*k))]) 16 0 (zoa _) (by rw[qr,rF];rfl) (λk hk s a=>?_) (λs a=>?_)
 ·subst a;left;refine⟨_,?_,rfl⟩;have hc:=lT X Y k;have x0:=cD X k;have x1:=sT X k;have d:=cD Y k;have e:=sT Y k;refine aa ai (aa ac (aA (by show(k:Int)<16;omega) ?_))
  refine aa (eV hk) (aa (bk _ hk) (aa (eN X k) (aa (eV hk) (aa (bk _ hk) (aa (eN Y k) ?_)))));refine aa (uw j1 j1) (aa (uw j1 j1) (aa (ic _) (aa (eV hk) ?_)))
  rw[<-CB];refine aa (rE hk) (aa (ux j1) ?_)
  rw[<-qo];exact aa (aN (aM (i:=k) j1)) rfl
 ·subst a;refine⟨_,aa ai (aa ac (aB j2 rfl)),?_⟩
  rw[n9,DL b c];by_cases h:X+Y<er
  ·rw[zja h,zha h];rfl
  ·rw[zga h,zca h];rfl
def PR(n:Nat)(a:Int):cA (n+1) 194 [.int .u32 a]=some (.bool false):=by rw[ZF];simp[IH,D.beq]
def XS(n:Nat)(a b:Int):cA (n+2) 168 [.int .u32 a,.int .u32 b]=some (I (cb a b)):=by
 rw[Zx]
 delta Iz qC qT Jn
 refine aa (PR n a) (aa (PR n b) (j0 false ?_));rw[zga j2]
 refine j0 false ?_;rw[zga j2]
 refine aa (z:=.bool (decide (a<b))) (by simp only[adW,if_true]) (aa ac ?_)
 unfold cb;by_cases h:a<b
 ·simp_all
 ·rw[zga h];refine aB h (aa (z:=.bool (decide (a>b))) (by simp only[adW,if_true]) (aa ac ?_))
  all_goals grind
def Kj(n:Nat){X Y:Nat}(g:X<er)(h:Y<er):cA (n+3) 121 [LM X,LM Y]=some (I (cb X Y)):=by
 rw[Zc]
 delta Id qB qC qT qJ qZ iL iR Jn
 refine aQ (λt s=>s=[I (15-(t:Int))]/\ju X Y (16-t)) 16 0 (zoa _) ⟨rfl,DX g h⟩ (λt i s d=>?_) (λs d=>?_)
 ·obtain⟨rfl,he⟩:=d;obtain⟨k,hk⟩:∃ k,k=15-t:=⟨_,rfl⟩;have a:k<16:=j1
  have f:(15-(t:Int))=(k:Int):=j1
  rw[show 16-t=k+1 by omega] at he
  rw[f];have b:D.idx (I (k:Int)) 16=some k:=eV a;have e:adW .geq (I (k:Int)) (D.int .i64 0)=some (.bool true):=by rw[eU,zha j1]
  by_cases hd:bx X k=bx Y k
  ·left;refine⟨[I ((k:Int)-1)],?_,?_,?_⟩
   ·refine aa e (j0 true ?_);rw[zja rfl];refine aa b (aa (bk _ a) (aa b (aa (bk _ a) (aa (z:=false) ?_ ?_))))
    ·rw[hd];simp[D.beq,D.truth]
    ·rw[zga j2];exact aa (bB (by simp only[inR];omega)) rfl
   ·grind
   ·rw[show 16-(t+1)=k by omega];exact zi he hd
  ·right;refine⟨(0,[I (cb (bx X k) (bx Y k))]),?_,?_⟩
   ·refine aa e (j0 true ?_);rw[zja rfl];refine aa b (aa (bk _ a) (aa b (aa (bk _ a) (aa (z:=true) ?_ ?_))))
    ·simp[D.beq,D.truth,hd]
    ·rw[zja rfl];exact aa b (aa (bk _ a) (aa b (aa (bk _ a) (aa (XS n _ _) rfl))))
   ·have c:=Af he hd;rw[zja rfl];show some (I (cb (bx X k) (bx Y k)))=_;congr 2;unfold Go.Proofs.YtmnkibhalflchaaGreat.sgn at c;unfold cb;repeat' split at c
    all_goals (repeat' split)<;>omega
 ·obtain⟨rfl,he⟩:=d;refine⟨(1,[]),aa eU (aa ac (aB j2 rfl)),?_⟩
  rw[zga j2]
  have c:=EC he;congr 2;unfold Go.Proofs.YtmnkibhalflchaaGreat.sgn at c;unfold cb;repeat' split at c
  all_goals (repeat' split)<;>omega
def MW(n:Nat){X Y:Nat}(c:X<er)(h:Y<=X):cA (n+1) 122 [LM X,LM Y]=some (LM (X-Y)):=by
 rw[Zd]
 delta Ie qB qC qJ qZ iL iR Jn
 rw[fQ];refine aQ (λk s=>s=[W (ca X Y k:Nat),I (k:Int),LM ((X-Y)%2^(32*k))]) 16 0 (zoa _) (by rw[oo,rF];rfl) (λk hk s a=>?_) (λs a=>?_)
 ·subst a;left;refine⟨_,?_,rfl⟩;have hc:=su X Y k;obtain⟨q1,b⟩:=rl (bx X k) (bx Y k) (ca X Y k) (cD X k) (nq X k) (cD Y k) (nq Y k) hc;refine aa ai (aa ac (aA (by show(k:Int)<16;omega) ?_))
  refine aa (eV hk) (aa (bk _ hk) (aa (eN X k) (aa (eV hk) (aa (bk _ hk) (aa (eN Y k) ?_)))));refine aa (uy _ _) (aa (uy _ _) (aa (ic _) (aa (eV hk) ?_)));rw[b,<-CC h];refine aa (rE hk) (aa yd ?_);rw[q1,<-om];exact aa (aN (aM (i:=k) j1)) rfl
 ·subst a;refine⟨_,aa ai (aa ac (aB j2 rfl)),?_⟩
  rw[n9];rfl
def yv(n:Nat){X:Nat}(g:X<er):cA (n+1) 127 [LM X]=some (I (cY X:Nat)):=by
 rw[Zh]
 delta Ii qB qC qT qJ qZ iL iR Jn
 refine aQ (λt s=>s=[I ((16-t:Nat):Int)]/\cY X=g7 X (16-t)/\under X (16-t)) 16 0 (zoa _) ⟨rfl,rfl,Bf rfl g⟩ (λt i s e=>?_) (λs e=>?_)
 ·obtain⟨rfl,he,d⟩:=e;obtain⟨k,hk⟩:∃ k,k=15-t:=⟨_,rfl⟩;rw[show 16-t=k+1 by omega] at he d ⊢
  have a:k<16:=j1
  have b:adW .sub (I ((k+1:Nat):Int)) (D.int .i64 1)=some (I (k:Int)):=by rw[show(D.int .i64 1)=I 1 from rfl,bB (by simp only[inR];omega)];congr 2;omega
  have f:adW .gtr (I ((k+1:Nat):Int)) (D.int .i64 0)=some (.bool true):=by rw[bU,zha j1]
  have h:=xc (show X<2^(32*(k+1)) from d);have c:D.beq (.int .u32 (bx X k)) (.int .u32 0)=decide (X<2^(32*k)):=by simp[D.beq,h]
  by_cases hs:X<2^(32*k)
  ·left;refine⟨[I ((16-(t+1):Nat):Int)],?_,rfl,?_,?_⟩
   ·refine aa f (j0 true (aa (z:=true) ?_ (j0 true ?_)))
    ·rw[zja rfl];refine aa b (aa (eV a) (aa (bk _ a) ?_));rw[c,zha hs];rfl
    ·simp_all
   ·rw[show 16-(t+1)=k by omega,he,g7,zga j1]
   ·rw[show 16-(t+1)=k by omega];exact hs
  ·right;refine⟨(0,[I ((k+1:Nat):Int)]),?_,?_⟩
   ·refine aa f (j0 true (aa (z:=false) ?_ (j0 false rfl)));rw[zja rfl];refine aa b (aa (eV a) (aa (bk _ a) ?_));rw[c,zca hs];rfl
   ·rw[he,g7,zja j1];rfl
 ·obtain⟨rfl,he,_⟩:=e;refine⟨(0,[I 0]),aa bU (aa ac (aa (z:=false) (aB j2 rfl) (j0 false rfl))),?_⟩
  rw[he];rfl
def wQ:Option Int->Option Int->Option Int
 | some x,some y=>lC (x+y)
 | _,_=>none
def eP{a b:Option Int}:(a.isSome&&b.isSome)=false\/∃ x y,a=some x/\b=some y:=by cases a<;>cases b<;>simp
def gC{neg:Bool}{m:Nat}{z:Int}(a:sgn neg m=z)(h:m<er):cS (lC z)=ae (sgn neg m):=by
 have:z.natAbs=m:=by rw[<-a,pe]
 unfold lC;rw[zja (by rw[this];exact h),<-a];rfl
def c57(n:Nat){a b:Option Int}(f:n8 a)(g:n8 b):cA (n+4) 57 [cS a,cS b]=some (cS (wQ a b)):=by
 rw[u57]
 delta Rq qG qC qT qN Jn
 refine aa (sA (n+1) f g) (aa aF (aa ac ?_));rcases eP (a:=a) (b:=b) with h|⟨x,y,rfl,rfl⟩
 ·rw[h,zja j2]
  refine aa (DB (n+2)) ?_;cases a<;>cases b<;>simp at h<;>rfl
 rw[zga s6]
 have hx:=aU.1 f.some;have d:=aU.1 g.some;rw[show cS (some x)=_ from bQ x,show cS (some y)=_ from bQ y,show wQ (some x) (some y)=lC (x+y) from rfl];refine j0 (.bool (decide (x<0))) (j0 (.bool (decide (y<0))) (aa (z:=decide (decide (x<0)=decide (y<0))) (by simp[D.beq,D.truth]) ?_))
 by_cases hs:decide (x<0)=decide (y<0)
 ·refine aA hs ?_;refine j0 (LM x.natAbs) (j0 (LM y.natAbs) (aa (XK (n+2) hx d) (j0 (LM (x.natAbs+y.natAbs)) (j0 (.bool (decide (x.natAbs+y.natAbs<er))) (aa aF (aa ac ?_))))));have c:(x+y).natAbs=x.natAbs+y.natAbs:=by
   grind
  by_cases ht:x.natAbs+y.natAbs<er
  ·rw[zha ht,zga j2]
   rw[gC (neg:=decide (x<0)) (z:=x+y) (by unfold sgn;rw[decide_eq_decide] at hs;simp only[zia];split<;>omega) ht]
   exact j0 (.bool (decide (x<0))) (aa (sv (n+2) _ ht) rfl)
  ·rw[zca ht,zja j2]
   refine aa (DB (n+2)) ?_;unfold lC;rw[zga (by rw[c];exact ht)];rfl
 ·refine aB hs ?_;refine j0 (LM x.natAbs) (j0 (LM y.natAbs) (aa (Kj n hx d) (aa eU (aa ac ?_))));have i:¬ (x<0↔y<0):=λe=>hs (by rw[decide_eq_decide];exact e)
  by_cases hge:y.natAbs<=x.natAbs
  ·refine aA (by unfold cb;split<;>(try split)<;>omega) ?_
   refine j0 (.bool (decide (x<0))) (j0 (LM x.natAbs) (j0 (LM y.natAbs) (aa (MW (n+2) hx hge) (aa (sv (n+2) _ (zRa (Nat.sub_le _ _) hx)) ?_))));rw[gC (neg:=decide (x<0)) (m:=x.natAbs-y.natAbs) (z:=x+y) (by unfold sgn;simp only[zia];split<;>omega) (zRa (Nat.sub_le _ _) hx)]
  ·refine aB (by unfold cb;split<;>(try split)<;>omega) ?_
   refine j0 (.bool (decide (y<0))) (j0 (LM y.natAbs) (j0 (LM x.natAbs) (aa (MW (n+2) d j1) (aa (sv (n+2) _ (zRa (Nat.sub_le _ _) d)) ?_))))
   rw[gC (neg:=decide (y<0)) (m:=y.natAbs-x.natAbs) (z:=x+y) (by unfold sgn;simp only[zia];split<;>omega) (zRa (Nat.sub_le _ _) d)]
def YJ(n:Nat){a:Option Int}(b:n8 a):cA (n+3) 68 [cS a]=some (cS (a.map (λx=>-x))):=by
 rw[u68]
 delta Rs qG qN
 refine aa (nj n b) (aa aF (aa ac ?_));cases a with
 | none=>rw[zja j2];exact aa (DB (n+1)) rfl
 | some x=>
  rw[zga s6]
  have hx:=aU.1 b.some;rw[show cS (some x)=_ from bQ x];show _=some (ae (-x));refine j0 (.bool (decide (x<0))) (aa aF (j0 (LM x.natAbs) (aa (sv (n+1) _ hx) ?_)));rw[bQ,rd,pe];rw[bQ,z8b,show((!(decide (x<0)))&&!(decide (x.natAbs=0)))=decide (-x<0) by rw[zHc];simp;omega]
def mG(n:Nat){x:Int}(hx:In x):cA (n+3) 129 [ae x]=some (I (sg x)):=by
 rw[Zi]
 delta Ij qG qT qN Jn
 have a:=nj n (br hx);have hx:=aU.1 hx;refine aa a (aa aF (j0 false (aa (z:=decide (x=0)) ?_ (aa ac ?_))))
 ·rw[zga j2,bQ]
  refine j0 (LM x.natAbs) ?_;rw[gB,jq hx fA,ac]
  simp_all
 ·by_cases h0:x=0
  ·refine aA h0 ?_;subst h0;rfl
  ·refine aB h0 (j0 (.bool (decide (x<0))) (aa ac ?_));by_cases h1:x<0
   ·simp_all [xP]
   ·refine aB h1 ?_;rw[f8 j1]
def u3(n:Nat){x:Int}(hx:inR x):cA (n+2) 54 [I x]=some (ae x):=by
 rw[u54]
 delta Ro qB qC Jn
 obtain⟨h1,b⟩:=hx;have key:∀ m:Nat,m<18446744073709551616->D.st (ad9 (List.replicate 16 (D.int .u32 0)) [(0,.int .u32 ((m:Int)%4294967296)),(1,.int .u32 ((m:Int)/4294967296%4294967296))])=LM m:=λm hm=>by
  have e:LM m=cr 16 (λj=>if j=0 then(m:Int)%4294967296 else if j=1 then(m:Int)/4294967296%4294967296 else 0):=cU λj c=>by
   match j with
   | 0=>simp[bx]
   | 1=>simp[bx]
   | j+2=>
    rw[zga j1,zga j1]
    exact fR (n:=2) (by simpa using hm) j1
  rw[e];rfl
 have w1:IntKind.u64.wrap x=if x<0 then x+18446744073709551616 else x:=by have:IntKind.u64.wrap x=x%18446744073709551616:=rfl;omega
 have hc:D.conv .u64 (I x)=some (W (if x<0 then x+18446744073709551616 else x)):=by simp only[D.conv,w1]
 refine aa hc ?_;have a:x.natAbs<18446744073709551616:=j1
 refine aa (z:=(0,[W (x.natAbs:Nat)])) ?_ ?_
 ·refine aa ai (aa ac ?_);by_cases h:x<0
  ·refine aA h ?_;rw[zja h];have:aeb .neg (W (x+18446744073709551616))=some (W (x.natAbs:Nat)):=by
    simp only[aeb];have:IntKind.u64.wrap (0-(x+18446744073709551616))=(0-(x+18446744073709551616))%18446744073709551616:=rfl;grind
   simp_all
  ·grind
 ·refine aa ai (aa (ic _) (aa (ux (by show(0:Int)<=(x.natAbs:Nat);omega)) (aa (ic _) ?_)))
  have e:=key x.natAbs a;refine aa (z:=ae x) ?_ rfl;show cA (n+1) 116 [.bool (decide (x<0)),D.st (ad9 (List.replicate 16 (D.int .u32 0)) [(0,.int .u32 (((x.natAbs:Nat):Int)%4294967296)),(1,.int .u32 (((x.natAbs:Nat):Int)/4294967296%4294967296))])]=_;rw[e,sv n _ (xU a)];congr 1;congr 1;unfold sgn;simp only[zia];split<;>omega
def D9(A B i k n:Nat)(hn:i+k<n):D.set (cr n (xv A B i k)) [i+k] (.int .u32 (((oS A B i k:Nat)+(bx A i*bx B k+bx (gP A B i) (i+k)))%4294967296))=some (cr n (xv A B i (k+1))):=by
 refine mC hn λj a=>?_;unfold xv uQ;by_cases h:j=i+k
 ·subst h;rw[zja j1,zja rfl,GR]
 ·rw[zga h];by_cases h2:j<i+k
  ·rw[zja j1,zja h2,vU,j8 _ _ _ _ h2]
  ·rw[zga j1,zga h2]
def D7{A B i m n:Nat}(a:B<2^(32*m))(hn:i+m<n):D.set (cr n (xv A B i m)) [i+m] (.int .u32 (oS A B i m:Nat))=some (cr n (bx (gP A B (i+1)))):=by
 have b:=C2 (A:=A) (i:=i) a;have c:nJ A B i m<2^(32*(i+m+1)):=by rw[<-vW a];have:=C2 (A:=A) (i:=i+1) a;rwa [show i+1+m=i+m+1 from by omega] at this
 refine mC hn λj d=>?_;rw[vW a];unfold xv uQ;by_cases h:j=i+m
 ·subst h;rw[zja rfl,eF];have h1:=xt A B i m;rw[z6a b,zWb] at h1;rw[<-h1,zTa (zRa (xu A B i m) j1)]
 ·rw[zga h];by_cases h2:j<i+m
  ·rw[zja h2]
  ·rw[zga h2,fR c j1,fR b j1]
def uu{n a c:Nat}(f:Nat->Int)(h:a+c<=n):D.st (List.take c (List.drop a ((List.range n).map λi=>D.int .u32 (f i))))=cr c (λj=>f (a+j)):=by
 unfold cr;congr 1;apply zNb;intro j;by_cases b:j<c
 ·rw[zsb b,zBb];simp[b,show a+j<n by omega]
 ·rw[zBa (by simp;omega),zBa (by simp;omega)]
def Aw:az J7=cr 32 (bx 0):=by have:cr 32 (bx 0)=cr 32 (λ_=>0):=cU λi _=>iC i;rw[this];rfl
def Lf{a b:Int}(d:0<=a)(e:a<=4294967295)(c:0<=b)(f:b<=4294967295):0<=a*b/\a*b<=18446744065119617025:=by refine⟨zLb d c,?_⟩;have h1:a*b<=4294967295*b:=z7c e c;omega
def p9:Option Int->Option Int->Option Int
 | some x,some y=>lC (x*y)
 | _,_=>none
def c61(n:Nat){a b:Option Int}(w:n8 a)(A:n8 b):cA (n+3) 61 [cS a,cS b]=some (cS (p9 a b)):=by
 rw[u61]
 delta Rr qG qB qC qT qN qJ qZ iL iR Jn
 refine aa (sA n w A) (aa aF (aa ac ?_));rcases eP (a:=a) (b:=b) with h|⟨x,y,rfl,rfl⟩
 ·rw[h,zja j2]
  refine aa (DB (n+1)) ?_;cases a<;>cases b<;>simp at h<;>rfl
 rw[zga s6]
 have hx:=aU.1 w.some;have v:=aU.1 A.some;rw[show cS (some x)=_ from bQ x,show cS (some y)=_ from bQ y,show p9 (some x) (some y)=lC (x*y) from rfl];generalize hX:x.natAbs=X at *;generalize hY:y.natAbs=Y at *;have C:=jO X;have E:=jO Y;have s1:=eI hx;have s2:=eI v;refine j0 (LM X) (aa (yv (n+1) hx) (j0 (LM Y) (aa (yv (n+1) v) ?_)));generalize cY X=p at *;generalize cY Y=m at *;rw[Aw];refine aQ (λi s=>s=[I (i:Int),cr 32 (bx (gP X Y i))]) p 0 (zoa _) (by rw[Eb];rfl) (λi B s g=>?_) (λs g=>?_)
 ·subst g;left;refine⟨[I ((i+1:Nat):Int),cr 32 (bx (gP X Y (i+1)))],?_,rfl⟩;refine aa ai (aa ac (aA (by show(i:Int)<(p:Int);omega) ?_))
  refine gD (λk s=>s=[W (oS X Y i k:Nat),I (k:Int),cr 32 (xv X Y i k)]) m 0 (zoa _) (by rw[vR,Ea];rfl) (λk hk s g=>?_) (λs g=>?_)
  ·subst g;left;refine⟨_,?_,rfl⟩;have d:i<16:=j1
   have f:k<16:=j1
   have c:i+k<32:=j1
   have a0:=cD X i;have a1:=nq X i;have b0:=cD Y k;have b1:=nq Y k;have z0:=cD (gP X Y i) (i+k);have F:=nq (gP X Y i) (i+k);have hc:=xu X Y i k;obtain⟨q0,q1⟩:=Lf a0 a1 b0 b1;refine aa ai (aa ac (aA (by show(k:Int)<(m:Int);omega) ?_))
   refine aa (eV d) (aa (bk _ d) (aa (eN X i) (aa (eV f) (aa (bk _ f) (aa (eN Y k) ?_)))));refine aa (MA q0 j1) (aa (aC (a:=i) (b:=k) j1) (aa (au c) (aa (bk _ c) ?_)))
   rw[D8];refine aa (eN _ _) (aa (uw j1 j1) (aa (uw j1 j1) (aa (aC (a:=i) (b:=k) j1) (aa (ic _) (aa (au c) (aa (D9 X Y i k 32 c) (aa (ux j1) ?_)))))))
   rw[<-D6];exact aa (aN (aM (i:=k) j1)) rfl
  ·subst g;refine⟨_,aa ai (aa ac (aB (by show ¬ ((m:Int)<(m:Int));omega) rfl)),?_⟩
   have o:i+m<32:=j1
   have hc:=xu X Y i m;refine aa (aC (a:=i) (b:=m) j1) (aa (ic _) (aa (au o) ?_))
   rw[Int.emod_eq_of_lt j1 j1]
   exact aa (D7 s2 o) (aa (aN (aM (i:=i) j1)) rfl)
 ·subst g;refine⟨(0,[cr 32 (bx (X*Y))]),?_,?_⟩
  ·rw[GS s1];exact aa ai (aa ac (aB (by show ¬ ((p:Int)<(p:Int));omega) rfl))
  have q:=fA;have hq:X*Y/er<er:=zsc (zQc hx v);have t:D.st (List.take 16 (List.drop 16 ((List.range 32).map λi=>D.int .u32 (bx (X*Y) i))))=LM (X*Y/er):=by
   rw[uu _ j1]
   exact cU λj _=>by rw[ga,yQ]
  have u:D.st (List.take 16 (List.drop 0 ((List.range 32).map λi=>D.int .u32 (bx (X*Y) i))))=LM (X*Y):=by
   rw[uu _ j1]
   exact cU λj _=>by rw[z8a]
  show(if decide (16+16<=((List.range 32).map λi=>D.int .u32 (bx (X*Y) i)).length)=true then _ else none)=_
  rw[zja s6,t,gB,jq hq q]
  have l:(x*y).natAbs=X*Y:=by rw[zSa,hX,hY]
  by_cases ht:X*Y<er
  ·rw[z6a ht,zha rfl];refine j0 false ?_;rw[zga j2]
   refine j0 (.bool (decide (x<0))) (j0 (.bool (decide (y<0))) ?_);show(if decide (0+16<=((List.range 32).map λi=>D.int .u32 (bx (X*Y) i)).length)=true then _ else none)=_
   rw[zja s6,u]
   have r:=xR x y;rw[hX,hY] at r;rw[gC r ht];refine aa (z:=ae (sgn (!(decide (decide (x<0)=decide (y<0)))) (X*Y))) ?_ rfl;rw[<-sv (n+1) _ ht];congr 4
  ·rw[zca (λe=>ht (by have:=Nat.div_eq_zero_iff.1 e;omega))]
   refine j0 true ?_;rw[zja rfl];refine aa (DB (n+1)) ?_;unfold lC;rw[l,zga ht];rfl
def fk(x:Nat):Nat:=if x=0 then 0 else Nat.log2 x+1
def Cl{x L:Nat}(h1:2^L<=x)(c:x<2^(L+1)):fk x=L+1:=by
 have hx:x≠0:=λe=>by have:=zDa L;omega
 unfold fk;rw[zga hx];have a:=(Nat.le_log2 hx).2 h1;have b:=(Nat.log2_lt hx).2 c;omega
def fD{x:Nat}(hx:x≠0):∃ L,fk x=L+1/\2^L<=x/\x<2^(L+1):=by refine⟨Nat.log2 x,by unfold fk;rw[zga hx],(Nat.le_log2 hx).1 (zka _),(Nat.log2_lt hx).1 (zAd _)⟩
def ss{x m:Nat}(h:2^m<=x):fk x=m+fk (x/2^m):=by
 have hq:x/2^m≠0:=λe=>by have:=Nat.div_eq_zero_iff.1 e;have:=zDa m;omega
 obtain⟨L,h1,a,b⟩:=fD hq;rw[h1,<-zEb];have hp:=zDa m;refine Cl (L:=m+L) ?_ ?_
 ·rw[z1a,zMa];exact zNa (zEa _ a) (zfc _ _)
 ·rw[show m+L+1=m+(L+1) by omega,z1a,zMa]
  exact(zYa hp).1 b
def xV:D:=D.str ((pi (F6 Tryz.f56)).getD ByteArray.empty)
def Hu(i:Nat):Bool:=match aea xV (.int .u8 i) with
 | some (.int .u8 v)=>decide (v=(fk i:Nat))
 | _=>false
def NZ:(List.range 256).all Hu=true:=x6
def NY{i:Nat}(h:i<256):aea xV (.int .u8 i)=some (.int .u8 (fk i:Nat)):=by
 have:=zya.1 NZ i (zHa.2 h);unfold Hu at this;split at this
 ·rename_i v a;rw[a,of_decide_eq_true this]
 ·cases this
def My{a m:Nat}{c:D}(hc:c=.int .u64 (m:Nat))(hm:m<=32):adW .shr (U a) c=some (U (a/2^m)):=by
 subst hc;simp only[adW];rw[zga j1,show min ((m:Int)).toNat (IntKind.bits .u32)=m from by simp[IntKind.bits];omega,zjc _ (by exact zUa (Int.pow_pos j2))]
 congr 2
def PP(n:Nat){x:Nat}(hx:x<4294967296):cA (n+1) 165 [U x]=some (I (fk x:Nat)):=by
 rw[Zw]
 delta Iy qB qC Jn
 have geq:∀ (a b:Nat) {c:D},c=.int .u32 (b:Nat)->adW .geq (U a) c=some (.bool (decide (b<=a))):=λa b c hc=>by subst hc;simp only[adW,if_true];congr 2;rw[decide_eq_decide];omega
 have last:∀ (y m:Nat),y<65536->m<=16->(Option.bind ((adW .geq (U y) (D.int .u32 256)).bind λo=>
   (D.truth o).bind λj=>
   if j then((adW .shr (U y) (D.int .u64 8)).bind λp=>
   (adW .add (I (m:Nat)) (D.int .i64 8)).bind λq=>
   some ((0:Nat),[p,q])) else(some (0,[U y,I (m:Nat)]))) λ(i:Nat×List D)=>
   (D.conv .u8 (gx i.2 0)).bind λd=>
   (aea xV d).bind λe=>
   (D.conv .i64 e).bind λf=>
   (adW .add (gx i.2 1) f).bind λg=>
   some g)=some (I ((m+fk y:Nat):Int)):=λy m t hm=>by
  have fin:∀ (z m:Nat),z<256->m<=24->((D.conv .u8 (U z)).bind λd=>
    (aea xV d).bind λe=>
    (D.conv .i64 e).bind λf=>
    (adW .add (I (m:Nat)) f).bind λg=>some g)=some (I ((m+fk z:Nat):Int)):=λz m l hm=>by
   have s:fk z<=8:=by
    by_cases h0:z=0
    ·subst h0;decide
    ·obtain⟨L,h1,r,_⟩:=fD h0;rcases zta L 8 with h|h
     ·omega
     ·have:=zqa (show 0<2 by decide) h
      omega
   have k:D.conv .u8 (U z)=some (.int .u8 (z:Nat)):=by
    simp only[D.conv]
    have:IntKind.u8.wrap (z:Int)=(z:Int)%256:=rfl;rw[this,Int.emod_eq_of_lt j1 j1]
   refine aa k (aa (NY l) (aa (z:=I (fk z:Nat)) ?_ (aa (aC j1) rfl)))
   simp only[D.conv];rw[jn (by simp only[inR];omega)]
  by_cases h:256<=y
  ·refine aa (z:=(0,[U (y/256),I ((m+8:Nat):Int)])) ?_ ?_
   ·refine aa (geq y 256 rfl) (aa ac (aA h ?_));exact aa (My (m:=8) rfl j2) (aa (aC (b:=8) j1) rfl)
   ·have:=fin (y/256) (m+8) j1 j1
    rw[ss (m:=8) j1,<-zEb]
    exact this
  ·refine aa (z:=(0,[U y,I (m:Nat)])) (aa (geq y 256 rfl) (aa ac (aB h rfl))) ?_;exact fin y m j1 j1
 by_cases h:65536<=x
 ·refine aa (z:=(0,[U (x/65536),I ((16:Nat):Int)])) ?_ ?_
  ·refine aa (geq x 65536 rfl) (aa ac (aA h ?_));exact aa (My (m:=16) rfl j2) rfl
  ·rw[ss (m:=16) j1]
   exact last (x/65536) 16 j1 j2
 ·refine aa (z:=(0,[U x,I ((0:Nat):Int)])) (aa (geq x 65536 rfl) (aa ac (aB h rfl))) ?_;have:=last x 0 j1 j2
  rw[z8a] at this;exact this
def XY(n:Nat){x:Nat}(hx:x<4294967296):cA (n+2) 196 [U x]=some (I (32-(fk x:Nat))):=by
 rw[ZH]
 delta IJ qB Jn
 have b:fk x<=32:=by
  by_cases h0:x=0
  ·subst h0;decide
  ·obtain⟨L,h1,a,_⟩:=fD h0;rcases zta L 32 with h|h
   ·omega
   ·have:=zqa (show 0<2 by decide) h
    omega
 exact aa (PP n hx) (aa (bB (by simp only[inR];omega)) rfl)
def Rc{a b:Nat}(d:a<18446744073709551616)(f:b<18446744073709551616):adW .or (W (a:Nat)) (W (b:Nat))=some (W ((a ||| b:Nat):Int)):=by
 simp only[adW,if_true,adX];have e:(BitVec.ofInt (IntKind.bits .u64) (a:Int) ||| BitVec.ofInt (IntKind.bits .u64) (b:Int)).toNat=a ||| b:=by
  have h1:(BitVec.ofInt 64 (a:Int)).toNat=a:=by simp[BitVec.toNat_ofInt];omega
  have c:(BitVec.ofInt 64 (b:Int)).toNat=b:=by simp[BitVec.toNat_ofInt];omega
  show(BitVec.ofInt 64 (a:Int) ||| BitVec.ofInt 64 (b:Int)).toNat=a ||| b;rw[BitVec.toNat_or,h1,c]
 rw[e];have hl:a ||| b<2^64:=Nat.or_lt_two_pow d f;rw[du ⟨j1,j1⟩]
def ja{a b m:Nat}(c:b<2^m)(h:a*2^m+b<18446744073709551616):adW .or (W ((a*2^m:Nat):Int)) (W (b:Nat))=some (W ((a*2^m+b:Nat):Int)):=by rw[Rc j1 j1,zMa,<-Nat.two_pow_add_eq_or_of_lt c]
def EQ{a b m:Nat}(c:b<2^m)(h:a*2^m+b<18446744073709551616):adW .or (W (b:Nat)) (W ((a*2^m:Nat):Int))=some (W ((a*2^m+b:Nat):Int)):=by rw[Rc j1 j1,Nat.or_comm,zMa,<-Nat.two_pow_add_eq_or_of_lt c]
def ri{a m:Nat}{c:D}{k:IntKind}(hc:c=.int k (m:Nat))(hm:m<=64)(h:a*2^m<18446744073709551616):adW .shl (W (a:Nat)) c=some (W ((a*2^m:Nat):Int)):=by
 subst hc;simp only[adW];rw[zga j1,show min ((m:Int)).toNat (IntKind.bits .u64)=m from by simp[IntKind.bits];omega]
 have e:(a:Int)*2^m=((a*2^m:Nat):Int):=by rw[z4a,Int.natCast_pow];rfl
 rw[e,du ⟨j1,j1⟩]
def Oa{a m:Nat}{c:D}{k:IntKind}(hc:c=.int k (m:Nat))(hm:m<=64):adW .shr (W (a:Nat)) c=some (W ((a/2^m:Nat):Int)):=by
 subst hc;simp only[adW];rw[zga j1,show min ((m:Int)).toNat (IntKind.bits .u64)=m from by simp[IntKind.bits];omega,zjc _ (by exact zUa (Int.pow_pos j2))]
 congr 2
def MB{a b:Nat}(d:b≠0)(c:a<18446744073709551616):adW .quo (W (a:Nat)) (W (b:Nat))=some (W ((a/b:Nat):Int)):=by simp only[adW,if_true];rw[zga j1,<-zNd,du ⟨z0c _,Int.ofNat_lt.2 (zRa (zgc a b) c)⟩]
def HG{a b:Nat}(c:b≠0):adW .rem (W (a:Nat)) (W (b:Nat))=some (W ((a%b:Nat):Int)):=by simp only[adW,if_true];rw[zga j1,<-zMd]
def HD{a b:Nat}(h:a+b<18446744073709551616):adW .add (W (a:Nat)) (W (b:Nat))=some (W ((a+b:Nat):Int)):=by rw[uw j1 j1,zGc]
def HF{a b:Nat}(h:a*b<18446744073709551616):adW .mul (W (a:Nat)) (W (b:Nat))=some (W ((a*b:Nat):Int)):=by rw[MA (by rw[<-z4a];omega) (by rw[<-z4a];omega),z4a]
def HH{a b:Nat}(h:b<=a)(c:a<18446744073709551616):adW .sub (W (a:Nat)) (W (b:Nat))=some (W ((a-b:Nat):Int)):=by rw[uy,du ⟨j1,j1⟩];congr 2;omega
def yc(a:Nat):D.conv .u32 (W (a:Nat))=some (.int .u32 ((a%4294967296:Nat):Int)):=by rw[ic];rfl
def mL(X k:Nat):D.conv .u64 (.int .u32 (bx X k))=some (W (dg X k:Nat)):=eN X k
def PS(n:Nat){X s:Nat}(f:X<er)(h:s<=31):cA (n+1) 197 [LM X,I (s:Nat)]=some (.tup [LM (X*2^s),.int .u32 ((X*2^s/er:Nat):Int)]):=by
 rw[ZI]
 delta IK qB qC qJ qZ iL iR Jn
 rw[fQ];have hp:=zDa s;have g:2^s<=2^31:=zqa j2 h
 refine aQ (λk s'=>s'=[W (gO X (2^s) k:Nat),I (k:Int),LM (X*2^s%2^(32*k))]) 16 0 (zoa _) (by rw[vT,rF];rfl) (λk hk s' c=>?_) (λs' c=>?_)
 ·subst c;left;refine⟨_,?_,rfl⟩;have hc:=xw X k hp;have j:=fE X k;have hm:dg X k*2^s<=4294967295*2^s:=zEa _ j1
  have a:=zG X (2^s) k;have b:=vS X (2^s) k;rw[pM X k] at a b;have d:((gO X (2^s) k:Nat):Int)+(dg X k:Nat)*((2^s:Nat):Int)=((dg X k*2^s+gO X (2^s) k:Nat):Int):=by rw[zGc,z4a];omega
  rw[d] at a b;refine aa ai (aa ac (aA (by show(k:Int)<16;omega) ?_))
  refine aa (eV hk) (aa (bk _ hk) (aa (mL X k) (aa (ri rfl j1 j1) (aa (EQ hc j1) (aa (ic _) (aa (eV hk) ?_))))))
  rw[<-a];refine aa (rE hk) (aa (ux j1) ?_)
  rw[<-b];exact aa (aN (aM (i:=k) j1)) rfl
 ·subst c;refine⟨_,aa ai (aa ac (aB j2 rfl)),?_⟩
  have hc:=xw X 16 hp;have e:=GQ (D:=2^s) f;rw[n9,e];rw[e] at hc;refine aa (yc _) ?_;rw[zTa j1]
  rfl
def XZ(n:Nat){X s:Nat}(f:X<er)(o:s<=31):cA (n+1) 201 [LM X,I (s:Nat)]=some (LM (X/2^s)):=by
 rw[ZJ]
 delta IL qB qC qJ qZ iL iR Jn
 rw[fQ];refine aQ (λk s'=>s'=[I (k:Int),LM (X/2^s%2^(32*k))]) 16 0 (zoa _) (by rw[rF];rfl) (λk hk s' c=>?_) (λs' c=>?_)
 ·subst c;left;refine⟨_,?_,rfl⟩;have l:=fE X k;have j:=fE X (k+1);refine aa ai (aa ac (aA (by show(k:Int)<16;omega) ?_))
  refine aa (z:=(0,[W (dg X (k+1):Nat)])) ?_ ?_
  ·refine aa (aC (a:=k) (b:=1) j1) (aa ai (aa ac ?_))
   by_cases h:k+1<16
   ·refine aA (by show((k+1:Nat):Int)<16;omega) ?_
    exact aa (aC (a:=k) (b:=1) j1) (aa (eV h) (aa (bk _ h) (aa (mL X (k+1)) rfl)))
   ·refine aB (by show ¬ ((k+1:Nat):Int)<16;omega) ?_
    have d:bx X (k+1)=0:=fR (n:=16) (by rw[ga,df] at f;exact f) j1
    have d:dg X (k+1)=0:=by rw[pM] at d;omega
    rw[d];rfl
  refine aa (ri (m:=32) rfl j2 j1) (aa (eV hk) (aa (bk _ hk) (aa (mL X k) (aa (ja (m:=32) j1 j1) (aa (Oa rfl j1) (aa (ic _) (aa (eV hk) ?_)))))))
  have e:=Gb X s k j1
  rw[pM X (k+1),pM X k] at e;have g:((dg X (k+1):Nat):Int)*4294967296+(dg X k:Nat)=((dg X (k+1)*2^32+dg X k:Nat):Int):=j1
  rw[g,<-zdd] at e;rw[<-e];exact aa (rE hk) (aa (aN (aM (i:=k) j1)) rfl)
 ·subst c;refine⟨_,aa ai (aa ac (aB j2 rfl)),?_⟩
  rw[n9];rfl
def B7{Q k:Nat}(hk:k<16):D.set (LM (Q/2^(32*(k+1))*2^(32*(k+1)))) [k] (.int .u32 (bx Q k))=some (LM (Q/2^(32*k)*2^(32*k))):=
 mC hk λj a=>by
  rw[vM,vM];by_cases e:j=k
  ·subst e;simp
  ·rw[zga e];by_cases h:j<k
   ·rw[zja h,zja j1]
   ·rw[zga h,zga j1]
def J8{Q:Nat}(h:Q<er):LM (Q/2^(32*16)*2^(32*16))=LM 0:=by rw[zQ,z6a h,z5c]
def XX(n:Nat){X b:Nat}(h:X<er)(d:0<b)(g:b<=4294967295):cA (n+1) 195 [LM X,U b]=some (.tup [LM (X/b),U (X%b)]):=by
 rw[ZG]
 delta II qB qC qJ qZ iL iR Jn
 rw[fQ];have hq:X/b<er:=zRa (zgc _ _) h;have e:fJ X b 16=0:=by unfold fJ;rw[zQ,z6a h,zEd]
 have c:D.conv .u64 (U b)=some (W (b:Nat)):=HE j1 j1
 refine aQ (λt s'=>s'=[W (fJ X b (16-t):Nat),I (15-(t:Int)),LM (X/b/2^(32*(16-t))*2^(32*(16-t)))]) 16 0 (zoa _) (by rw[Nat.sub_zero,e,J8 hq];rfl) (λt r s' f=>?_) (λs' f=>?_)
 ·subst f;left;obtain⟨k,hk⟩:∃ k,k=15-t:=⟨_,rfl⟩;have a:k<16:=j1
  rw[show 16-t=k+1 by omega,show(15-(t:Int))=(k:Int) by omega,show 16-(t+1)=k by omega,show(15-((t+1:Nat):Int))=(k:Int)-1 by omega]
  refine⟨_,?_,rfl⟩;have p:=zZ X (k+1) d;have q:=fE X k;have i:=ED X k d g;have j:=BB X b k;refine aa eU (aa ac (aA (by show(k:Int) ≥ 0;omega) ?_))
  refine aa (ri (m:=32) rfl j2 j1) (aa (eV a) (aa (bk _ a) (aa (mL X k) (aa (ja (m:=32) j1 j1) ?_))))
  have hT:fJ X b (k+1)*2^32+dg X k<18446744073709551616:=j1
  refine aa c (aa (MB j1 hT) (aa (yc _) (aa (eV a) ?_)))
  have l:(((fJ X b (k+1)*2^32+dg X k)/b%4294967296:Nat):Int)=bx (X/b) k:=by rw[eF,i];show(((fJ X b (k+1)*2^32+dg X k)/b%4294967296:Nat):Int)=(((fJ X b (k+1)*4294967296+dg X k)/b:Nat):Int);congr 1;refine zTa ?_;rw[zYa d];have:(fJ X b (k+1)+1)*4294967296<=b*4294967296:=zEa _ p;omega
  rw[l];refine aa (B7 a) (aa c (aa (HG j1) (aa (bB (by simp only[inR];omega)) ?_)))
  have o:(fJ X b (k+1)*2^32+dg X k)%b=fJ X b k:=j.symm;rw[o]
 ·subst f;refine⟨_,aa eU (aa ac (aB j2 rfl)),?_⟩
  have hm:X%b<b:=zVa _ d;rw[show 16-16=0 from rfl,Ey,zkd,zlc,zSc,zvd];refine aa (yc _) ?_;rw[zTa (show X%b<4294967296 by omega)]
  rfl
def Am{V D i:Nat}(a:D<=4294967295):gO V D i<=4294967295/\D*dg V i<=18446744065119617025:=by
 refine⟨?_,z5a a (CA V i)⟩;rcases zAb D with h|h
 ·subst h;simp[gO]
 ·have:=xw V i h;omega
def wv{V D n:Nat}(a:V<2^(32*n))(c:D<=4294967295):V*D<2^(32*(n+1)):=by
 rw[dJ];have h1:V*D<=V*4294967296:=zab _ j1
 have b:V*4294967296<2^(32*n)*4294967296:=zzb a j1
 omega
def An{U V D n j k:Nat}(hk:k<=n)(c:V<2^(32*n))(b:D<=4294967295) :
  IntKind.u64.wrap (IntKind.u64.wrap (bx U (j+k)-bx (V*D) k)-(ca (U/2^(32*j)) (V*D) k:Nat))/9223372036854775808=(ca (U/2^(32*j)) (V*D) (k+1):Nat) ∧
  IntKind.u64.wrap (IntKind.u64.wrap (bx U (j+k)-bx (V*D) k)-(ca (U/2^(32*j)) (V*D) k:Nat))%4294967296=bx (lQ (U/2^(32*j)) (V*D) (n+1)) k:=by
 have a:=rl (bx U (j+k)) (bx (V*D) k) (ca (U/2^(32*j)) (V*D) k) (cD _ _) (nq _ _) (cD _ _) (nq _ _) (su _ _ _);rw[a.1,a.2,<-j9,om,ET j1 (zmc (wv c b))]
 exact⟨rfl,rfl⟩
def Hv{V D n:Nat}(b:V<2^(32*n))(a:D<=4294967295):((gO V D n:Nat):Int)=bx (V*D) n:=by
 have h:=(Am (V:=V) (i:=n) a).1;have e:gO V D n=V*D/2^(32*n):=by unfold gO;rw[zTa b]
 rw[eF,<-e,zTa j1]
def KM{U j m:Nat}(a:U<2^(32*(j+m))):U/2^(32*j)<2^(32*m):=by rw[zYa (zDa _),<-z1a,show 32*m+32*j=32*(j+m) from by omega];exact a
def mz(U Z j i n:Nat)(hn:j+i<n):D.set (cr n (uV U Z j i)) [j+i] (.int .u32 (bx Z i))=some (cr n (uV U Z j (i+1))):=
 mC hn λt a=>by
  unfold uV uQ;by_cases h:t=j+i
  ·subst h;rw[zja j1,zja rfl,Bp]
  ·rw[zga h];by_cases h2:t<j+i
   ·rw[zja j1,zja h2]
   ·rw[zga j1,zga h2]
def ws{U Z j m n:Nat}(a:U<2^(32*(j+m)))(b:Z<2^(32*m)):cr n (uV U Z j m)=cr n (bx (fc U Z j)):=
 cU λt _=>by
  unfold uV uQ;split
  ·rfl
  ·rw[fR a j1,fR (zO b) j1]
def Ld{B n L:Nat}(c:B<2^(32*(n+1)))(b:dg B n<2^(L+1))(d:L+1<=32):B*2^(32-(L+1))<2^(32*(n+1)):=by
 have h1:B/2^(32*n)=dg B n:=jF c;have e:B<(dg B n+1)*2^(32*n):=by rw[<-zYa (zDa _)];omega
 have f:(dg B n+1)*2^(32*n)<=2^(L+1)*2^(32*n):=zEa _ b;have a:B*2^(32-(L+1))<2^(L+1)*2^(32*n)*2^(32-(L+1)):=zzb j1 (zDa _)
 rw[<-z1a,<-z1a,show L+1+32*n+(32-(L+1))=32*(n+1) from by omega] at a
 exact a
def GH{A B n m:Nat}(hl:2^(32*(n-1))<=B)(a:B<=A)(b:A<2^(32*m)):n<=m:=by
 rcases zta m n with h|h
 ·have:2^(32*m)<=2^(32*(n-1)):=zqa j1 j1
  omega
 ·exact h
def Eo{A B n m:Nat}(hn:1<=n)(a:n<=m)(hl:2^(32*(n-1))<=B)(b:A<2^(32*m)):A/B<2^(32*(m-n+1)):=by
 apply zsc;have h:2^(32*(n-1))*2^(32*(m-n+1))<=B*2^(32*(m-n+1)):=zEa _ hl;rw[<-z1a,show 32*(n-1)+32*(m-n+1)=32*m from by omega] at h
 omega
def GY{A s:Nat}(e:A<er)(c:s<=31):((A*2^s/er:Nat):Int)=bx (A*2^s) 16:=by
 have b:2^s<=2147483648:=zqa (n:=2) j1 c
 have h1:A*2^s/er<4294967296:=by
  rw[zYa fA,zMa 4294967296];have a:A*2^s<=A*2147483648:=zab _ b;have d:A*2147483648<=er*2147483648:=zEa _ j1
  have:=fA;omega
 have a:=yQ (A*2^s) 16 0;rw[<-ga,zWb] at a;rw[<-a,eF,zkd,zlc,zSc,zTa h1]
def Mz{a b:Nat}{c:D}(hc:c=.int .u64 (b:Nat)):adW .lss (W (a:Nat)) c=some (.bool (decide (a<b))):=by subst hc;simp only[adW,if_true];congr 2;rw[decide_eq_decide];omega
def Ra{a b:Nat}{c:D}(hc:c=.int .u64 (b:Nat)):adW .geq (W (a:Nat)) c=some (.bool (decide (b<=a))):=by subst hc;simp only[adW,if_true];congr 2;rw[decide_eq_decide];omega
def Rb{a b:Nat}:adW .gtr (W (a:Nat)) (W (b:Nat))=some (.bool (decide (b<a))):=by simp only[adW,if_true];congr 2;rw[decide_eq_decide];omega
def mh{α:Type}{body:Bd}{k:Nat×List D->Option α}{y:α}(J:Nat->List D->Prop) :
  ∀ (m:Nat) (s:List D),J m s->(∀ m s,J m s->(∃ a s',a<m/\body s=some (.inl s')/\J a s')\/∃ r,body s=some (.inr r)/\k r=some y)->(aR body s).bind k=some y:=by
 intro m
 induction m using Nat.strongRecOn with
 | _ m ih=>
  intro s e c;rcases c m s e with⟨a,s',h1,b,d⟩|⟨r,h1,b⟩
  ·exact dN b (ih a h1 s' d c)
  ·exact mg h1 b
def kY{a b:Nat}{c:D}(hc:c=I (b:Nat))(h:b<=a)(d:a<=1000000):adW .sub (I (a:Nat)) c=some (I ((a-b:Nat):Int)):=by subst hc;rw[bB (by simp only[inR];omega)];congr 2;omega
def Q9(N:Nat):D.set (D.st (List.take 0 (List.replicate 17 (D.int .u32 0))++(List.take 16 (List.drop 0 ((List.range 16).map λi=>D.int .u32 (bx N i)))++List.drop 16 (List.replicate 17 (D.int .u32 0))))) [16] (.int .u32 (bx N 16))=some (cr 17 (bx N)):=by
 have e:D.st (List.take 0 (List.replicate 17 (D.int .u32 0))++(List.take 16 (List.drop 0 ((List.range 16).map λi=>D.int .u32 (bx N i)))++List.drop 16 (List.replicate 17 (D.int .u32 0))))=cr 17 (λj=>if j<16 then bx N j else 0):=by rfl
 rw[e];refine mC j2 λj a=>?_
 by_cases h:j=16
 ·subst h;simp
 ·rw[zga h,zja j1]
def MZ(n:Nat){A B:Nat}(Y:A<er)(hB:B<er)(M:0<B):cA (n+4) 170 [LM A,LM B]=some (.tup [LM (A/B),LM (A%B)]):=by
 rw[Zz]
 delta IB qG qB qC qT qJ qZ iL iR Jn
 refine aa (yv (n+2) hB) (aa (yv (n+2) Y) (aa (Kj n Y hB) (aa ai (aa ac ?_))));by_cases hlt:A<B
 ·refine aA (by unfold cb;split<;>omega) ?_
  rw[gB,z6a hlt,zTa hlt]
 refine aB (by unfold cb;split<;>(try split)<;>omega) ?_
 have b6:cY B≠0:=λe=>by have:=eI hB;rw[e] at this;simp at this;omega
 have HBh:=eI hB;have HBl:=nL b6;have HAh:=eI Y;have a3:=jO B;have a2:=jO A;refine aa (z:=decide (cY B=1)) (by show D.truth (D.bool (D.beq (I (cY B:Int)) (I ((1:Nat):Int))))=_;rw[dn];rfl) ?_
 by_cases h1:cY B=1
 ·refine aA h1 ?_;rw[h1] at HBh;have ax:B<4294967296:=HBh;have hd:bx B 0=(B:Int):=by unfold bx;simp;omega
  have hm:A%B<4294967296:=zac (zVa _ M) ax;refine aa (bk _ j2) ?_
  rw[hd];refine aa (XX (n+2) Y M j1) (j0 (LM (A/B)) (j0 (U (A%B)) ?_))
  have e:D.st (ad9 (List.replicate 16 (D.int .u32 0)) [(0,U (A%B))])=LM (A%B):=by
   have e2:LM (A%B)=cr 16 (λj=>if j=0 then((A%B:Nat):Int) else 0):=cU λj hj=>by
    by_cases h0:j=0
    ·subst h0;rw[zja rfl];unfold bx;rw[zkd,zlc,zSc,zTa hm]
    ·rw[zga h0];exact fR (n:=1) hm j1
   rw[e2];rfl
  rw[e]
 refine aB h1 ?_;have a8:B<=A:=j1
 have S:=GH HBl a8 HAh;have HQ:=Eo j1 S HBl HAh
 obtain⟨e,he⟩:∃ e,cY B=e+2:=⟨cY B-2,j1⟩
 obtain⟨m,hm⟩:∃ m,cY A=m:=⟨_,rfl⟩;rw[he] at HBh HBl S HQ a3 ⊢;rw[hm] at HAh S HQ a2 ⊢;rw[show e+2-1=e+1 by omega] at HBl
 have hz:dg B (e+1)≠0:=λh0=>by
  have h:=jF HBh;have:=(zbc (zDa (32*(e+1)))).2 (show 1*2^(32*(e+1))<=B by omega)
  omega
 obtain⟨L,hL,dB,a9⟩:=fD hz;have b4:=fE B (e+1);have bj:L+1<=32:=by
  rcases zta L 32 with h|h
  ·omega
  ·have:=zqa (show 0<2 by decide) h
   omega
 obtain⟨s,hs⟩:∃ s,s=32-(L+1):=⟨_,rfl⟩;have r:s<=31:=j1
 have f:=Ld HBh a9 bj;rw[<-hs] at f;have hp:=zDa s;obtain⟨V,hV⟩:∃ V,V=B*2^s:=⟨_,rfl⟩;obtain⟨N,hN⟩:∃ N,N=A*2^s:=⟨_,rfl⟩;have bl:N/V=A/B:=by rw[hV,hN,Nat.mul_div_mul_right _ _ hp]
 have bm:N%V=A%B*2^s:=by rw[hV,hN,Nat.mul_mod_mul_right]
 have q:0<V:=by rw[hV];exact Nat.mul_pos M hp
 rw[<-hV] at f;replace f:V<2^(32*(e+2)):=f;have bv:2^(32*(e+1))<=V:=by rw[hV];exact zNa HBl (zwd _ hp)
 have P:V<er:=um j1 f
 refine aa (kY (b:=1) rfl j1 j1) (aa (eV j1) (aa (bk _ j1) ?_))
 rw[show e+2-1=e+1 by omega,pM B (e+1)]
 refine aa (XY (n+1) b4) ?_;rw[hL,show(32-((L+1:Nat):Int))=(s:Nat) by omega]
 refine aa (PS (n+2) hB r) (j0 (LM (B*2^s)) (j0 (.int .u32 ((B*2^s/er:Nat):Int)) ?_));refine aa (PS (n+2) Y r) (j0 (LM (A*2^s)) (j0 (.int .u32 ((A*2^s/er:Nat):Int)) ?_));rw[GY Y r,<-hV,<-hN];refine j0 (List.replicate 17 (D.int .u32 0)) (j0 ((List.range 16).map λi=>D.int .u32 (bx N i)) (aa (Q9 N) (aa (kY (b:=e+2) rfl j1 j1) ?_)))
 rw[fQ];obtain⟨c,hc⟩:∃ c,c=m-(e+2):=⟨_,rfl⟩;rw[<-hc] at HQ ⊢;rw[<-bl] at HQ ⊢;refine aQ (λt s'=>s'=[I ((c:Int)-(t:Nat)),LM (N/V/2^(32*(c+1-t))*2^(32*(c+1-t))),cr 17 (bx (eD N V (c+1-t)))]) (c+1) 0 (zoa _) ?_ (λt ht s' v=>?_) (λs' v=>?_)
 ·rw[Nat.sub_zero,Bz HQ,z6a HQ,z5c];congr 2
 ·subst v;left;obtain⟨j,hj⟩:∃ j,j=c-t:=⟨_,rfl⟩;rw[show c+1-t=j+1 by omega,show(c:Int)-(t:Nat)=(j:Nat) by omega,show c+1-(t+1)=j by omega,show(c:Int)-((t+1:Nat):Int)=(j:Int)-1 by omega]
  refine⟨[I ((j:Int)-1),LM (N/V/2^(32*j)*2^(32*j)),cr 17 (bx (eD N V j))],?_,rfl⟩;have dy:j+e+2<=16:=j1
  have hU:=Eu (N:=N) j q f;have bt:=Hi (N:=N) j q;have b8:=Hh (N:=N) j q;have right:=z8 (N:=N) j q f;have X:=λU1=>Aa (N:=N) (U1:=U1) j q f;generalize hUU:eD N V (j+1)=U at *;have H:=Gt f bv bt;have hW:=KM (j:=j) (m:=e+2+1) (U:=U) (by rw[show j+(e+2+1)=j+(e+2)+1 by omega];exact hU)
  have g2:D.idx (I ((j+(e+2):Nat):Int)) 17=some (j+(e+2)):=au j1
  have t1:=N3 U (j+e+2) (j+e+1);have F1:=H.one;have F2:=CA V (e+1);have v2:=fE V e;have u2:=fE U (j+e);refine aa eU (aa ac (aA (by show(j:Int) ≥ 0;omega) ?_))
  refine aa (aC (a:=j) (b:=e+2) j1) (aa g2 (aa (bk _ j1) (aa (mL U _) (aa (ri (m:=32) rfl j2 (by have:=fE U (j+(e+2));omega)) ?_))))
  refine aa (aC (a:=j) (b:=e+2) j1) (aa (kY (b:=1) rfl j1 j1) ?_)
  rw[show j+(e+2)-1=j+e+1 by omega,show j+(e+2)=j+e+2 by omega]
  refine aa (au j1) (aa (bk _ j1) (aa (mL U _) (aa (ja (m:=32) (fE _ _) j1) ?_)))
  refine aa (kY (b:=1) rfl j1 j1) (aa (z:=e+1) (by rw[show e+2-1=e+1 by omega];exact au j1) (aa (bk _ j1) (aa (mL V _) ?_)))
  have eT:dg U (j+e+2)*2^32+dg U (j+e+1)=dg U (j+e+2)*4294967296+dg U (j+e+1):=rfl;rw[eT];generalize hT:dg U (j+e+2)*4294967296+dg U (j+e+1)=T at *;generalize hF:dg V (e+1)=F at *;refine aa (MB j1 j1) (aa (HG j1) ?_)
  refine mh (λG s'=>∃ R,s'=[W (G:Nat),W (R:Nat),LM (N/V/2^(32*(j+1))*2^(32*(j+1))),LM 0,LM V]/\G*F+R=T/\U/2^(32*j)/V<=G) (T/F) _ ⟨T%F,rfl,by rw[zMa];exact zZb T F,H.start⟩ (λG s' v=>?_)
  obtain⟨R,rfl,O,b7⟩:=v;have dz:G<=G*F:=zwd _ j1
  have ds:G<=18446744073709551615:=j1
  have dx:R<=18446744073709551615:=j1
  have cond:∀ b:Bool,b=(decide (R<4294967296)&&(decide (4294967296<=G)||decide (R*4294967296+dg U (j+e)<G*dg V e)))->(b=true->1<=G/\U/2^(32*j)/V<=G-1)/\(b=false->G<4294967296/\G<=U/2^(32*j)/V+1):=λb hb=>by
   constructor
   ·intro b3;rw[b3] at hb;simp only[Bool.true_eq,zaa,zKb,zia] at hb;rcases hb.2 with h|h
    ·exact⟨j1,H.step_big h⟩
    ·have:=H.step O h;exact⟨this.2,this.1⟩
   ·intro b2;rw[b2] at hb;refine H.done O ?_;by_cases h1:4294967296<=R
    ·exact .inl h1
    ·right;have a7:R<4294967296:=j1
     simp only[zha a7,zrb,Bool.false_eq,zId,decide_eq_false_iff_not] at hb;omega
  have J:∀ {β:Type} {g:Bool->Option β} {y:β},g (decide (R<4294967296)&&(decide (4294967296<=G)||decide (R*4294967296+dg U (j+e)<G*dg V e)))=some y->((adW .lss (W (R:Nat)) (D.int .u64 4294967296)).bind λcm=>
    (D.truth cm).bind λa5=>
    Option.bind (if a5 then((adW .geq (W (G:Nat)) (D.int .u64 4294967296)).bind λcs=>
    (D.truth cs).bind λa6=>
    if a6 then(some true) else((adW .sub (I ((e+2:Nat):Int)) (D.int .i64 2)).bind λcv=>
    (D.idx cv 16).bind λi51=>
    (D.get (LM V) [i51]).bind λcx=>
    (D.conv .u64 cx).bind λcy=>
    (adW .mul (W (G:Nat)) cy).bind λcI=>
    (adW .shl (W (R:Nat)) (D.int .u64 32)).bind λc0=>
    (adW .add (I (j:Nat)) (I ((e+2:Nat):Int))).bind λc2=>
    (adW .sub c2 (D.int .i64 2)).bind λc3=>
    (D.idx c3 17).bind λi58=>
    (D.get (cr 17 (bx U)) [i58]).bind λc4=>
    (D.conv .u64 c4).bind λc5=>
    (adW .or c0 c5).bind λdk=>
    (adW .gtr cI dk).bind λdr=>
    D.truth dr)) else(some false)) g)=some y:=λ{β g y} hg=>by
   refine aa (Mz (b:=4294967296) rfl) (aa ac (aa ?_ hg));by_cases h1:R<4294967296
   ·rw[zha h1,zja rfl,zrb];refine aa (Ra (b:=4294967296) rfl) (aa ac ?_);by_cases h2:4294967296<=G
    ·rw[zha h2,zja rfl,Bool.true_or]
    ·rw[zca h2,zga j2,zed]
     have dE:G*dg V e<=4294967295*4294967295:=z5a j1 j1
     refine aa (kY (b:=2) rfl j1 j1) (aa (z:=e) (au j1) (aa (bk _ j1) (aa (mL V e) (aa (HF j1) (aa (ri (m:=32) rfl j2 j1) ?_)))))
     refine aa (aC (a:=j) (b:=e+2) j1) (aa (kY (b:=2) rfl j1 j1) (aa (z:=j+e) (by rw[show j+(e+2)-2=j+e by omega];exact au j1) (aa (bk _ j1) (aa (mL U (j+e)) (aa (ja (m:=32) u2 j1) (aa Rb ?_))))))
     rfl
   ·rw[zca h1,zga j2,zqd]
  obtain⟨bb,E⟩:∃ bb,bb=(decide (R<4294967296)&&(decide (4294967296<=G)||decide (R*4294967296+dg U (j+e)<G*dg V e))):=⟨_,rfl⟩;obtain⟨k1,k2⟩:=cond bb E;rw[<-E] at J;cases bb with
  | true=>
   left;obtain⟨d1,d2⟩:=k1 rfl;have dv:R<4294967296:=by have:=E.symm;simp only[zaa,zia] at this;exact this.1
   refine⟨G-1,[W ((G-1:Nat):Int),W ((R+F:Nat):Int),LM (N/V/2^(32*(j+1))*2^(32*(j+1))),LM 0,LM V],j1,?_,R+F,rfl,A7 O d1,d2⟩
   refine J (aa ac ?_);rw[zja rfl];exact aa (HH (b:=1) j1 j1) (aa (HD j1) rfl)
  | false=>
   right;obtain⟨d1,d2⟩:=k2 rfl;refine⟨(0,[W (G:Nat),LM (N/V/2^(32*(j+1))*2^(32*(j+1))),LM 0,LM V]),?_,?_⟩
   ·refine J (aa ac ?_);rw[zga j2];rfl
   clear J cond k1 k2 E;have hD:G<=4294967295:=j1
   have bz:=wv f hD;obtain⟨Z,hZ⟩:∃ Z,Z=lQ (U/2^(32*j)) (V*G) (e+2+1):=⟨_,rfl⟩;have al:Z<2^(32*(e+2+1)):=by rw[hZ];exact HJ _ _ _
   have b9:=b8;have fin:∀ {y:Sum (List D) (Nat×List D)} {d:Nat} {u:D} {g:Nat×List D->Option (Sum (List D) (Nat×List D))},d=dg (N/V) j->u=cr 17 (bx (eD N V j))->g (0,[W (d:Nat),u])=some y->g (0,[W ((dg (N/V) j:Nat):Int),cr 17 (bx (eD N V j))])=some y:=λh1 h2 h3=>by rw[<-h1,<-h2];exact h3
   refine aa (z:=(0,[W ((dg (N/V) j:Nat):Int),cr 17 (bx (eD N V j))])) ?_ ?_
   ·refine gD (λi s'=>s'=[W (gO V G i:Nat),W (ca (U/2^(32*j)) (V*G) i:Nat),I (i:Nat),LM (N/V/2^(32*(j+1))*2^(32*(j+1))),LM 0,LM V,cr 17 (uV U Z j i)]) (e+2) 0 (zoa _) (by rw[vT,oo,wu];rfl) (λi hi s' v=>?_) (λs' v=>?_)
    ·subst v;left;refine⟨_,?_,rfl⟩;have o:i<16:=j1
     have l:j+i<17:=j1
     obtain⟨m1,m2⟩:=Am (V:=V) (i:=i) hD;obtain⟨q1,q2⟩:=An (U:=U) (j:=j) (k:=i) j1 f hD
     have s1:=zG V G i;have s2:=vS V G i;rw[pM V i] at s1 s2;have ec:((gO V G i:Nat):Int)+(dg V i:Nat)*(G:Int)=((gO V G i+G*dg V i:Nat):Int):=by rw[zGc,z4a,z8c (G:Int)]
     rw[ec] at s1 s2;refine aa ai (aa ac (aA (by show(i:Int)<((e+2:Nat):Int);omega) ?_))
     refine aa (eV o) (aa (bk _ o) (aa (mL V i) (aa (HF j1) (aa (HD j1) ?_))))
     refine aa (aC (a:=j) (b:=i) j1) (aa (au l) (aa (bk _ l) ?_))
     rw[my];refine aa (eN U (j+i)) (aa (ic _) ?_);rw[<-s1];refine aa (eN (V*G) i) (aa (uy _ _) (aa (uy _ _) (aa (aC (a:=j) (b:=i) j1) (aa (ic _) (aa (au l) ?_)))))
     rw[q2,<-hZ];refine aa (mz U Z j i 17 l) (aa yd ?_);rw[q1];refine aa (ux j1) ?_
     rw[<-s2];exact aa (aN (aM (i:=i) j1)) rfl
    ·subst v;refine⟨_,aa ai (aa ac (aB (by show ¬ (((e+2:Nat):Int)<((e+2:Nat):Int));omega) rfl)),?_⟩
     have p:j+(e+2)<17:=j1
     obtain⟨q1,q2⟩:=An (U:=U) (j:=j) (k:=e+2) (zka _) f hD;rw[<-Hv f hD] at q1 q2;refine aa (aC (a:=j) (b:=e+2) j1) (aa (au p) (aa (bk _ p) ?_))
     rw[my];refine aa (eN U (j+(e+2))) (aa (uy _ _) (aa (uy _ _) (aa (aC (a:=j) (b:=e+2) j1) (aa (ic _) (aa (au p) ?_)))))
     rw[q2,<-hZ];refine aa (mz U Z j (e+2) 17 p) (aa yd ?_);rw[q1,ws (m:=e+2+1) (by rw[show j+(e+2+1)=j+(e+2)+1 by omega];exact hU) al,yu hW bz]
     have hmul:V*(U/2^(32*j)/V)<=U/2^(32*j):=Nat.mul_div_le _ _;have w:U/2^(32*j)<V*(U/2^(32*j)/V+1):=Nat.lt_mul_div_succ _ q;rw[b9] at hmul w b7 d2;by_cases hDq:G=dg (N/V) j
     ·subst hDq;rw[zga j1]
      refine aa (z:=false) (by rfl) ?_
      rw[zga j2,hZ,right]
      rfl
     ·have K:G=dg (N/V) j+1:=j1
      rw[zja (by rw[K];exact w)]
      refine aa (z:=true) (by rfl) ?_
      rw[zja rfl];refine aa (HH (b:=1) j1 j1) ?_
      have ch:=X (fc U Z j) (by rw[hZ,K])
      have bs:fc U Z j<2^(32*(j+(e+2+1))):=zO al;generalize fc U Z j=U1 at *;obtain⟨Z2,Q⟩:∃ Z2,Z2=(U1/2^(32*j)+V)%2^(32*(e+2+1)):=⟨_,rfl⟩;have ad:Z2<2^(32*(e+2+1)):=by rw[Q];exact zVa _ (zDa _)
      have C:∀ i,i<e+2+1->bx Z2 i=((fl (U1/2^(32*j)) V i:Nat)+(bx U1 (j+i)+bx V i))%4294967296:=λi hi=>by rw[Q,kc,zja hi,CB,j9]
      refine gD (λi s'=>s'=[W (fl (U1/2^(32*j)) V i:Nat),I (i:Nat),LM (N/V/2^(32*(j+1))*2^(32*(j+1))),LM 0,LM V,cr 17 (uV U1 Z2 j i)]) (e+2) 0 (zoa _) (by rw[qr,wu];rfl) (λi hi s' v=>?_) (λs' v=>?_)
      ·subst v;left;refine⟨_,?_,rfl⟩;have o:i<16:=j1
       have l:j+i<17:=j1
       have c1:=lT (U1/2^(32*j)) V i;have a0:=cD U1 (j+i);have a1:=sT U1 (j+i);have b0:=cD V i;have b1:=sT V i;have aI:=qo (U1/2^(32*j)) V i;rw[j9] at aI;refine aa ai (aa ac (aA (by show(i:Int)<((e+2:Nat):Int);omega) ?_))
       refine aa (aC (a:=j) (b:=i) j1) (aa (au l) (aa (bk _ l) ?_))
       rw[my];refine aa (eN U1 (j+i)) (aa (eV o) (aa (bk _ o) (aa (eN V i) (aa (uw j1 j1) (aa (uw j1 j1) (aa (aC (a:=j) (b:=i) j1) (aa (ic _) (aa (au l) ?_))))))))
       rw[<-C i j1]
       refine aa (mz U1 Z2 j i 17 l) (aa (ux j1) ?_)
       rw[<-aI];exact aa (aN (aM (i:=i) j1)) rfl
      ·subst v;refine⟨_,aa ai (aa ac (aB (by show ¬ (((e+2:Nat):Int)<((e+2:Nat):Int));omega) rfl)),?_⟩
       have c1:=lT (U1/2^(32*j)) V (e+2);have a4:=C (e+2) j1
       rw[fR f (zka _),Int.add_zero] at a4;refine aa (aC (a:=j) (b:=e+2) j1) (aa (au p) (aa (bk _ p) ?_))
       rw[my];refine aa (ic _) ?_;have an:adW .add (.int .u32 (bx U1 (j+(e+2)))) (.int .u32 (((fl (U1/2^(32*j)) V (e+2):Nat):Int)%4294967296))=some (.int .u32 (bx Z2 (e+2))):=by simp only[adW,if_true];have hw:∀ x:Int,IntKind.u32.wrap x=x%4294967296:=λx=>rfl;rw[hw,a4];congr 2;omega
       refine aa an (aa (au p) (aa (mz U1 Z2 j (e+2) 17 p) ?_));rw[ws (m:=e+2+1) bs ad,Q,ch];rw[show G-1=dg (N/V) j by omega]
   ·have cf:=fE (N/V) j;refine aa (yc _) (aa (au (show j<16 by omega)) ?_)
    rw[zTa cf];exact aa (B7 j1) (aa (bB (by simp only[inR];omega)) rfl)
 ·subst v;refine⟨(0,[LM (N/V),cr 17 (bx (N%V))]),?_,?_⟩
  ·rw[show c+1-(c+1)=0 by omega,Ev,zkd,zlc,zSc,zvd]
   exact aa eU (aa ac (aB (by show ¬ ((c:Int)-((c+1:Nat):Int)) ≥ 0;omega) rfl))
  ·have bp:N%V<er:=zac (zVa _ q) P;have b5:D.st (List.take 16 (List.drop 0 ((List.range 17).map λi=>D.int .u32 (bx (N%V) i))))=LM (N%V):=by
    rw[uu _ j1]
    exact cU λj _=>by rw[z8a]
   show(if decide (0+16<=((List.range 17).map λi=>D.int .u32 (bx (N%V) i)).length)=true then _ else none)=_
   rw[zja s6,b5]
   refine aa (XZ (n+2) bp r) ?_;rw[bm,Nat.mul_div_cancel _ hp];rfl
def EN{m:Nat}(hm:m<18446744073709551616):D.st (ad9 (List.replicate 16 (D.int .u32 0)) [(0,.int .u32 ((m:Int)%4294967296)),(1,.int .u32 ((m:Int)/4294967296%4294967296))])=LM m:=by
 have e:LM m=cr 16 (λj=>if j=0 then(m:Int)%4294967296 else if j=1 then(m:Int)/4294967296%4294967296 else 0):=cU λj a=>by
  match j with
  | 0=>simp[bx]
  | 1=>simp[bx]
  | j+2=>
   rw[zga j1,zga j1]
   exact fR (n:=2) (by simpa using hm) j1
 rw[e];rfl
def ye{X:Nat}(h:X<18446744073709551616):dg X 1*4294967296+dg X 0=X:=by unfold dg;simp only[zkd,zlc,zSc,zvd];have:(2:Nat)^32=4294967296:=rfl;rw[this];omega
def gq(b:D)(c:D){X i:Nat}(h:i<16):D.get (.st [b,c,LM X]) [2,i]=some (.int .u32 (bx X i)):=j0 (LM X) (bk _ h)
def Cn(n:Nat){m:Nat}(h:m<er):cA (n+1) 116 [.bool false,LM m]=some (ae (m:Int)):=by
 rw[sv n false h];have:sgn false m=(m:Int):=zga j2
 rw[this]
def XT(n:Nat){x:Int}(hx:In x):cA (n+3) 171 [ae x]=some (ae (x.natAbs:Nat)):=by
 rw[ZA]
 delta IC qG qN
 have b:cA (n+2) 118 [.sl [ae x]]=some (.bool true):=nj n (a:=some x) (br hx);refine aa b (aa aF (j0 false ?_));rw[zga j2]
 have c:D.get (ae x) [2]=some (LM x.natAbs):=by rw[bQ];rfl
 exact aa c (aa (Cn (n+1) (aU.1 hx)) rfl)
def EM:18446744073709551616<=er:=by
 have h:=nU (a:=2) (b:=16) j2
 rw[wB] at h;rw[ga];exact h
def Bo{X:Nat}(a:X<er):cY X<=2↔X<18446744073709551616:=by
 have h1:=eI a;constructor
 ·intro h;exact zQa h1 (zNa (zqa j2 (show 32*cY X<=64 by omega)) j2)
 ·intro h;rcases zta 2 (cY X) with k|k
  ·have:=nL (X:=X) j1
   have b:2^64<=2^(32*(cY X-1)):=zqa j2 j1
   omega
  ·exact k
def kZ{m:Nat}:In (m:Int)↔m<er:=by rw[aU,zza]
def th(n:Nat){x y:Int}(hx:In x)(p:In y)(ih:y≠0->cA (n+4) 131 [ae (y.natAbs:Nat),ae ((x.natAbs%y.natAbs:Nat):Int)]=some (ae (Nat.gcd y.natAbs (x.natAbs%y.natAbs):Nat))) :
  cA (n+5) 131 [ae x,ae y]=some (ae (Nat.gcd x.natAbs y.natAbs:Nat)):=by
 rw[Zk]
 delta Il qG qB qC qT qN qZ iL iR Jn
 have d:=sA (n+2) (br hx) (br p);refine aa d (aa aF (aa ac ?_));rw[zga s6]
 have c:=aU.1 hx;have b:=aU.1 p;rw[bQ x,bQ y];have l:y=0↔y.natAbs=0:=j1
 rw[Ne,l] at ih;generalize hX:x.natAbs=X at *;generalize hY:y.natAbs=Y at *;refine j0 (LM X) (aa (yv (n+3) c) (aa dY (aa ac ?_)));refine aa (z:=decide (X<18446744073709551616)&&decide (Y<18446744073709551616)) ?_ (aa ac ?_)
 ·by_cases h:X<18446744073709551616
  ·refine aA (by have:=(Bo c).2 h;omega) ?_
   refine j0 (LM Y) (aa (yv (n+3) b) (aa dY ?_));rw[zha h,zrb,ac];congr 1;rw[decide_eq_decide,<-Bo b];omega
  ·refine aB (by intro k;exact h ((Bo c).1 j1)) ?_
   rw[zca h,zqd]
 by_cases hs:X<18446744073709551616/\Y<18446744073709551616
 ·rw[zha hs.1,zha hs.2,Bool.and_self,zja rfl];have q:=fE X 1;have g:=fE X 0;have r:=fE Y 1;have i:=fE Y 0;refine aa (gq _ _ j2) (aa (mL X 1) (aa (ri (m:=32) rfl j2 j1) (aa (gq _ _ j2) (aa (mL X 0) (aa (ja (m:=32) g j1) ?_)))))
  refine aa (gq _ _ j2) (aa (mL Y 1) (aa (ri (m:=32) rfl j2 j1) (aa (gq _ _ j2) (aa (mL Y 0) (aa (ja (m:=32) i j1) ?_)))))
  have ex:dg X 1*2^32+dg X 0=X:=ye hs.1;have t:dg Y 1*2^32+dg Y 0=Y:=ye hs.2;rw[ex,t];refine mh (λm s=>∃ a,s=[W (a:Nat),W (m:Nat)]/\a<18446744073709551616/\m<18446744073709551616/\Nat.gcd a m=Nat.gcd X Y) Y _ ⟨X,rfl,hs.1,hs.2,rfl⟩ (λm s u=>?_);obtain⟨a,rfl,o,hm,j⟩:=u;have f:D.beq (W (m:Nat)) (.int .u64 0)=decide (m=0):=by simp only[D.beq,decide_true,zrb];rw[decide_eq_decide];omega
  by_cases h0:m=0
  ·right;subst h0;refine⟨(0,[W (a:Nat)]),?_,?_⟩
   ·refine aa (z:=false) (by show D.truth (.bool (!(D.beq (W ((0:Nat):Int)) (.int .u64 0))))=_;rw[f];rfl) ?_
    rw[zga j2];rfl
   ·rw[Nat.gcd_zero_right] at j;refine aa (ic _) (aa (ux (by show(0:Int)<=(a:Nat);omega)) (aa (ic _) ?_))
    have e:=EN o;refine aa (z:=ae (a:Int)) ?_ (by rw[<-j])
    show cA (n+4) 116 [.bool false,D.st (ad9 (List.replicate 16 (D.int .u32 0)) [(0,.int .u32 ((a:Int)%4294967296)),(1,.int .u32 ((a:Int)/4294967296%4294967296))])]=_;rw[e];exact Cn (n+3) (zQa o EM)
  ·left;refine⟨a%m,[W (m:Nat),W ((a%m:Nat):Int)],zVa _ j1,?_,m,rfl,hm,zac (zVa _ j1) hm,by rw[<-j,zDc a m,Nat.gcd_rec m a,zDc]⟩
   refine aa (z:=true) (by show D.truth (.bool (!(D.beq (W (m:Nat)) (.int .u64 0))))=_;rw[f,zca h0];rfl) ?_
   rw[zja rfl];exact aa (HG h0) rfl
 ·have:(decide (X<18446744073709551616)&&decide (Y<18446744073709551616))=false:=by
   rw[Bool.and_eq_false_iff,decide_eq_false_iff_not,decide_eq_false_iff_not];omega
  rw[this,zga j2]
  refine j0 (LM X) (j0 (LM Y) ?_);rw[gB,jq b fA];by_cases h0:Y=0
  ·rw[zha h0];refine j0 false ?_;rw[zga j2,h0,Nat.gcd_zero_right]
   have:=XT (n+1) hx;rw[bQ x,hX] at this;exact aa this rfl
  ·rw[zca h0];refine j0 true ?_;rw[zja rfl];have v:X%Y<Y:=zVa _ j1
   refine aa (MZ n c b j1) (j0 (LM (X/Y)) (j0 (LM (X%Y)) (aa (Cn (n+3) b) (aa (Cn (n+3) (zac v b)) (aa (ih h0) ?_)))))
   rw[zDc X Y,Nat.gcd_rec Y X,zDc (X%Y) Y]
theorem y8:∀ (d n:Nat) {x y:Int},In x->In y->y.natAbs<2^d->cA (n+2*d+5) 131 [ae x,ae y]=some (ae (Nat.gcd x.natAbs y.natAbs:Nat))
 | 0,n,x,y,hx,b,h=>th n hx b λh0=>z3a j1 h0
 | d+1,n,x,y,hx,b,h=>by
  rw[show n+2*(d+1)+5=n+2*d+2+5 by omega]
  refine th _ hx b λh0=>?_;have a:=aU.1 b;have c:x.natAbs%y.natAbs<y.natAbs:=zVa _ j1
  have e:=th (n+2*d+1) (x:=(y.natAbs:Nat)) (y:=((x.natAbs%y.natAbs:Nat):Int)) (kZ.2 a) (kZ.2 (zac c a)) (λh1=>by
   simp only[zza];have f:y.natAbs%(x.natAbs%y.natAbs)<x.natAbs%y.natAbs:=zVa _ j1
   have g:y.natAbs%(x.natAbs%y.natAbs)<2^d:=by
    generalize x.natAbs%y.natAbs=r at *;rw[zob] at h;rcases zta r (2^d) with k|k
    ·omega
    ·have:y.natAbs%r=y.natAbs-r:=by
      rw[Nat.mod_eq_sub_mod j1,zTa j1]
     omega
   have:=y8 d n (x:=((x.natAbs%y.natAbs:Nat):Int)) (y:=((y.natAbs%(x.natAbs%y.natAbs):Nat):Int)) (kZ.2 (zac c a)) (kZ.2 (zac (zac f c) a)) (by rw[zza];exact g)
   simp only[zza] at this;exact this)
  simp only[zza] at e;exact e
def tD{m k:Nat}(h:k=32*16):m<er↔m<2^k:=by
 have e:mZ 16=2^k:=by rw[df,h]
 rw[ga,e]
def Qv(k n:Nat)(hk:k=32*16){x y:Int}(hx:In x)(a:In y):cA (n+2*k+5) 131 [ae x,ae y]=some (ae (Nat.gcd x.natAbs y.natAbs:Nat)):=
 y8 k n hx a ((tD hk).1 (aU.1 a))
def DD(n:Nat){x y:Int}(hx:In x)(a:In y):cA (n+1029) 131 [ae x,ae y]=some (ae (Nat.gcd x.natAbs y.natAbs:Nat)):=
 Qv 512 n rfl hx a
def Ks(n:Nat){x:Int}(hx:In x):cA (n+3) 217 [ae x]=some (I (fk x.natAbs:Nat)):=by
 rw[Q5]
 delta Ff qG qB qT qN Jn
 have c:=nj n (br hx);have d:=aU.1 hx;rw[show cS (some x)=_ from bQ x] at c;rw[bQ x];have i:=jO x.natAbs;have f:=eI d;refine j0 (LM x.natAbs) (aa (yv (n+1) d) (aa c (aa aF (j0 false (aa (z:=decide (cY x.natAbs=0)) (by rw[zga j2];show D.truth (.bool (D.beq (I (cY x.natAbs:Nat)) (I ((0:Nat):Int))))=_;rw[dn];rfl) (aa ac ?_))))))
 by_cases h0:cY x.natAbs=0
 ·refine aA h0 ?_;rw[h0] at f;have:x.natAbs=0:=by simpa using f
  rw[this];rfl
 ·refine aB h0 ?_;have hl:=nL h0;generalize cY x.natAbs=p at *;generalize x.natAbs=X at *;have k:X/2^(32*(p-1))=dg X (p-1):=jF (by rw[show p-1+1=p by omega];exact f)
  have e:=fE X (p-1);have j:fk (dg X (p-1))<=32:=by
   by_cases hz:dg X (p-1)=0
   ·rw[hz];decide
   ·obtain⟨L,l,o,_⟩:=fD hz;rcases zta L 32 with h|h
    ·omega
    ·have:=zqa (show 0<2 by decide) h
     omega
  have g:=ss (x:=X) (m:=32*(p-1)) hl;rw[k] at g;refine aa (kY (b:=1) rfl j1 j1) (aa (sm (a:=32) j1) (aa (kY (b:=1) rfl j1 j1) (aa (eV j1) (aa (gq _ _ j1) (aa (PP (x:=dg X (p-1)) (n+1) e) (aa (aC (a:=32*(p-1)) (b:=fk (dg X (p-1))) j1) ?_))))))
  rw[g]
def Ki(X:Nat):64<fk X↔18446744073709551616<=X:=by
 by_cases h0:X=0
 ·subst h0;simp[fk]
 ·obtain⟨L,h1,a,b⟩:=fD h0;rw[h1];constructor
  ·intro h;have:=zqa (show 0<2 by decide) (show 64<=L by omega)
   omega
  ·intro h;rcases zta 64 (L+1) with k|k
   ·exact k
   ·have:=zqa (show 0<2 by decide) k
    omega
def yz(n:Nat){x:Int}(hx:In x):(inR x/\cA (n+4) 202 [ae x]=some (.tup [I x,.bool true]))\/(¬ inR x/\cA (n+4) 202 [ae x]=some (.tup [I 0,.bool false])):=by
 rw[ZK]
 delta Dv qG qB qT qN Jn
 have f:=nj (n+1) (br hx);have i:=Ks n hx;have t:=aU.1 hx;have first:∀ {y:D} {g:Bool->Option D},g (decide (18446744073709551616<=x.natAbs))=some y->((cA (n+3) 118 [.sl [ae x]]).bind λr1=>(aeb .not r1).bind λw=>(D.truth w).bind λo=>Option.bind (if o then(some true) else((cA (n+3) 217 [ae x]).bind λv=>(adW .gtr v (D.int .i64 64)).bind λA=>D.truth A)) λp=>(D.truth (D.bool p)).bind g)=some y:=λ{y g} s=>by
  refine aa f (aa aF (j0 false (aa (z:=decide (18446744073709551616<=x.natAbs)) ?_ (aa ac s))));rw[zga j2]
  refine aa i (aa bU ?_);rw[ac];congr 1;rw[decide_eq_decide,<-Ki];omega
 by_cases hbig:18446744073709551616<=x.natAbs
 ·right;refine⟨by simp only[inR];omega,first ?_⟩
  rw[zha hbig,zja rfl]
 ·have r:x.natAbs<18446744073709551616:=j1
  have w1:∀ z:Int,IntKind.u64.wrap z=z%18446744073709551616:=λz=>rfl;have j:∀ (a b:Nat) {c:D},c=.int .u64 (b:Nat)->adW .leq (W (a:Nat)) c=some (.bool (decide (a<=b))):=λa b c hc=>by subst hc;simp only[adW,if_true];congr 2;rw[decide_eq_decide];omega
  have q:=fE x.natAbs 1;have k:=fE x.natAbs 0;have ex:dg x.natAbs 1*2^32+dg x.natAbs 0=x.natAbs:=ye r;have l:∀ z:Int,inR z->∀ a:Int,(a-z)%18446744073709551616=0->D.conv .i64 (W a)=some (I z):=λz u a h=>by
   obtain⟨h1,d⟩:=u;simp only[D.conv]
   have hw:IntKind.i64.wrap a=(if(true&&decide (a%18446744073709551616 ≥ 9223372036854775808))=true then a%18446744073709551616-18446744073709551616 else a%18446744073709551616):=rfl
   rw[hw];congr 2;simp only[zrb,zia];split<;>omega
  have go:∀ y:D,(if x<0 then(if x.natAbs<=9223372036854775808 then y=.tup [I x,.bool true] else y=.tup [I 0,.bool false]) else(if x.natAbs<9223372036854775808 then y=.tup [I x,.bool true] else y=.tup [I 0,.bool false]))->Dv aR (cA (n+3)) (ae x)=some y:=λy e=>by
   delta Dv qG qB qT qN Jn
   refine first ?_
   rw[zca hbig,zga j2,bQ x]
   refine aa (gq _ _ j2) (aa (mL x.natAbs 1) (aa (ri (m:=32) rfl j2 j1) (aa (gq _ _ j2) (aa (mL x.natAbs 0) (aa (ja (m:=32) k j1) ?_)))))
   rw[ex];refine j0 (.bool (decide (x<0))) (aa ac ?_);refine aa (z:=decide (x<0)&&decide (x.natAbs<=9223372036854775808)) ?_ (aa ac ?_)
   ·by_cases h:x<0
    ·refine aA h (aa (j _ 9223372036854775808 rfl) ?_);rw[ac,zha h,zrb]
    ·refine aB h ?_;rw[zca h,zqd]
   by_cases h:x<0
   ·rw[zja h] at e;rw[zha h,zrb];by_cases d:x.natAbs<=9223372036854775808
    ·rw[zja d] at e;refine aA d ?_;have hn:aeb .neg (W (x.natAbs:Nat))=some (W (IntKind.u64.wrap (0-(x.natAbs:Nat)))):=by simp only[aeb]
     refine aa hn (aa (l x (by simp only[inR];omega) _ (by rw[w1];omega)) ?_)
     rw[e]
    ·rw[zga d] at e;refine aB d (aa (z:=.bool true) (by rfl) (j0 (.bool false) (j0 false (j0 false (j0 false ?_)))))
     rw[zga j2,e]
   ·rw[zga h] at e;rw[zca h,zqd,zga j2]
    refine aa (z:=.bool false) (by rfl) (j0 (.bool true) (j0 true (aa (z:=decide (x.natAbs<9223372036854775808)) ?_ (aa ac ?_))))
    ·rw[zja rfl];exact aa (Mz (b:=9223372036854775808) rfl) ac
    by_cases d:x.natAbs<9223372036854775808
    ·rw[zja d] at e;refine aA d (aa (l x (by simp only[inR];omega) _ j1) ?_)
     rw[e]
    ·rw[zga d] at e;refine aB d ?_;rw[e]
  by_cases hr:inR x
  ·left;refine⟨hr,go _ ?_⟩;simp only[inR] at hr;split
   ·rw[zja j1]
   ·rw[zja j1]
  ·right;refine⟨hr,go _ ?_⟩;simp only[inR] at hr;split
   ·rw[zga j1]
   ·rw[zga j1]
def Di{x y q:Int}(a:y≠0)(h:x=y*q):sgn (!(decide (decide (x<0)=decide (y<0)))) (x.natAbs/y.natAbs)=q:=by
 have e:x.natAbs/y.natAbs=q.natAbs:=by rw[h,zSa,Nat.mul_div_cancel_left _ j1]
 rw[e];have key:q=0\/(q<0/\(x<0↔¬ y<0))\/(0<q/\(x<0↔y<0)):=by
  rcases zXb q 0 with hq|hq|hq
  ·right;left;refine⟨hq,?_⟩;rcases Int.lt_or_gt_of_ne a with k|k
   ·have:=z9b k hq;omega
   ·have:=zxb k hq;omega
  ·exact .inl hq
  ·right;right;refine⟨hq,?_⟩;rcases Int.lt_or_gt_of_ne a with k|k
   ·have:=Int.mul_neg_of_neg_of_pos k hq;omega
   ·have:=zJb k hq;omega
 unfold sgn;by_cases hx:x<0<;>by_cases hyy:y<0<;>simp[hx,hyy]<;>omega
def aL(x:Int):D.get (ae x) [1]=some (.bool (decide (x<0))):=rfl
def ig(x:Int):D.get (ae x) [2]=some (LM x.natAbs):=by rw[bQ];rfl
def Dh{x:Int}(h:x≠0):sg x≠0:=by unfold sg;split<;>(try split)<;>omega
def Fi{x y:Int}(hx:In x)(h:y ∣ x):In (x/y):=by
 obtain⟨q,rfl⟩:=h;rw[aU] at *;by_cases hy:y=0
 ·subst hy;simp;exact fA
 ·rw[zib _ hy];rw[zSa] at hx;exact zRa (zRb _ j1) hx
def XU(n:Nat){x y:Int}(hx:In x)(s:In y)(d:y≠0)(E:y ∣ x):cA (n+5) 172 [ae x,ae y]=some (.tup [ae (x/y),ae 0]):=by
 have w:=Fi hx E;obtain⟨q,hq⟩:=E;have v:x/y=q:=by rw[hq];exact zib _ d
 rw[v] at w ⊢;rw[Q0]
 delta Fc qG qB qT qN Jn
 have l:cA (n+4) 118 [.sl [ae x,ae y]]=some (.bool true):=sA (n+2) (a:=some x) (b:=some y) (br hx) (br s);have c:∀ a b:Int,D.beq (I a) (.int .i64 b)=decide (a=b):=λa b=>cp;refine aa l (aa aF (j0 false (aa (z:=false) ?_ (j0 false ?_))))
 ·rw[zga j2]
  refine aa (mG (n+1) s) ?_;rw[c,zca (Dh d)];rfl
 rw[zga j2]
 by_cases fast:(inR x/\x≠-9223372036854775808)/\inR y/\y≠-9223372036854775808
 ·obtain⟨⟨t,e⟩,u,g⟩:=fast;have i:cA (n+4) 202 [ae x]=some (.tup [I x,.bool true]):=by
   rcases yz n hx with⟨_,h⟩|⟨h,_⟩
   ·exact h
   ·exact z3a t h
  have j:cA (n+4) 202 [ae y]=some (.tup [I y,.bool true]):=by
   rcases yz n s with⟨_,h⟩|⟨h,_⟩
   ·exact h
   ·exact z3a u h
  have H:q.natAbs<=x.natAbs:=by rw[hq,zSa];exact zRb _ j1
  have p:inR q:=by simp only[inR] at *;omega
  have C:x.tdiv y=q:=by rw[hq];exact Int.mul_tdiv_cancel_left _ d
  have F:x.tmod y=0:=by rw[hq];exact Int.mul_tmod_right ..
  refine aa (z:=(0,[ae q,ae 0])) ?_ rfl;refine aa i (j0 (I x) (j0 (.bool true) (j0 true (aa (z:=true) ?_ (j0 true ?_)))))
  ·rw[zja rfl,c,zca e];rfl
  rw[zja rfl];refine aa j (j0 (I y) (j0 (.bool true) (j0 true (aa (z:=true) ?_ (j0 true ?_)))))
  ·rw[zja rfl,c,zca g];rfl
  rw[zja rfl];refine aa (oa d (by rw[C];exact p)) (aa (kD d) ?_)
  rw[C,F];refine aa (z:=(0,[I q,I 0])) (j0 false (j0 false (j0 false rfl))) ?_;exact aa (u3 (n+2) p) (aa (u3 (n+2) (show inR 0 from⟨j2,j2⟩)) rfl)
 ·refine aa (z:=(1,[.st [.bool false,.bool false,az aZ],.st [.bool false,.bool false,az aZ]])) ?_ ?_
  ·rcases yz n hx with⟨t,h⟩|⟨t,h⟩
   ·by_cases e:x=-9223372036854775808
    ·refine aa h (j0 (I x) (j0 (.bool true) (j0 true (aa (z:=false) ?_ (j0 false rfl)))));rw[zja rfl,c,zha e];rfl
    ·refine aa h (j0 (I x) (j0 (.bool true) (j0 true (aa (z:=true) ?_ (j0 true ?_)))))
     ·rw[zja rfl,c,zca e];rfl
     rw[zja rfl];rcases yz n s with⟨u,m⟩|⟨u,m⟩
     ·have g:y=-9223372036854775808:=Classical.byContradiction λk=>fast ⟨⟨t,e⟩,u,k⟩;refine aa m (j0 (I y) (j0 (.bool true) (j0 true (aa (z:=false) ?_ (j0 false rfl)))));rw[zja rfl,c,zha g];rfl
     ·exact aa m (j0 (I 0) (j0 (.bool false) (j0 false (j0 false (j0 false rfl)))))
   ·exact aa h (j0 (I 0) (j0 (.bool false) (j0 false (j0 false (j0 false rfl)))))
  rw[zga j2]
  have r:=aU.1 hx;have B:=aU.1 s;have o:x.natAbs%y.natAbs=0:=by rw[hq,zSa];exact Nat.mul_mod_right _ _
  have A:x.natAbs/y.natAbs<er:=zRa (zgc _ _) r;have f:=MZ n r B j1
  rw[o] at f;refine aa (ig x) (aa (ig y) (aa f (j0 (LM (x.natAbs/y.natAbs)) (j0 (LM 0) (aa (aL x) (aa (aL y) ?_))))));have G:(!(D.beq (.bool (decide (x<0))) (.bool (decide (y<0)))))=!(decide (decide (x<0)=decide (y<0))):=by by_cases h1:x<0<;>by_cases m:y<0<;>simp[h1,m,D.beq]
  rw[G,gB,jq fA fA,zha rfl];refine aa (sv (n+3) _ A) ?_;rw[Di d hq];refine aa (z:=(0,[LM 0,ae q])) (j0 false (j0 false (j0 false rfl))) ?_;refine aa (aL y) (aa (sv (n+3) _ fA) ?_);have:sgn (decide (y<0)) 0=0:=by unfold sgn;split<;>rfl
  rw[this];rfl
def AI(n:Nat){x y:Int}(hx:In x)(c:In y)(a:y≠0)(b:y ∣ x):cA (n+6) 132 [ae x,ae y]=some (ae (x/y)):=by rw[QW];unfold E8;exact aa (XU n hx c a b) (j0 (ae (x/y)) (j0 (ae 0) rfl))
def bh(q:Rat):D:=.st [ae q.num,ae (q.den:Int)]
def InR(q:Rat):Prop:=In q.num/\In (q.den:Int)
def DC(n:Nat){x:Int}(hx:In x):cA (n+2) 128 [ae x]=some (.bool true):=by
 rw[N6]
 delta Dt qG qN
 have h:cA (n+1) 167 [ae x]=some (.bool true):=MY n (a:=some x) (br hx);refine j0 (.bool false) (j0 (.bool true) (j0 true (aa (z:=true) ?_ rfl)));rw[zja rfl];exact aa h rfl
def C6(n:Nat){x:Int}(hx:In x):cA (n+3) 68 [ae x]=some (ae (-x)):=YJ n (a:=some x) (br hx)
def ke(x:Int){d:Int}(b:d≠0):(Rat.divInt x d).num=x/(if d<0 then -(Nat.gcd x.natAbs d.natAbs:Int) else(Nat.gcd x.natAbs d.natAbs:Int))/\((Rat.divInt x d).den:Int)=d/(if d<0 then -(Nat.gcd x.natAbs d.natAbs:Int) else(Nat.gcd x.natAbs d.natAbs:Int)):=by
 have c:d.gcd x=Nat.gcd x.natAbs d.natAbs:=by unfold Int.gcd;exact zDc ..
 have e:0<Nat.gcd x.natAbs d.natAbs:=zWc _ j1
 have a:((Nat.gcd x.natAbs d.natAbs:Nat):Int) ∣ x:=zcb.2 (zqb _ _);have dd:((Nat.gcd x.natAbs d.natAbs:Nat):Int) ∣ d:=zcb.2 (ztb _ _);rw[Rat.num_divInt,Rat.den_divInt,zga b,c];generalize Nat.gcd x.natAbs d.natAbs=g at *;by_cases h:d<0
 ·rw[zja h,Int.sign_eq_neg_one_of_neg h];refine⟨?_,?_⟩
  ·rw[Int.ediv_neg,show -1*x=-x by omega,zVc a]
  ·rw[Int.ediv_neg,zdd,<-zVc dd];congr 1;omega
 ·rw[zga h,Int.sign_eq_one_of_pos j1,Int.one_mul]
  refine⟨rfl,?_⟩;rw[zdd];congr 1;omega
def c62(n:Nat){x d:Int}(hx:In x)(f:In d)(i:d≠0):cA (n+1030) 62 [ae x,ae d]=some (bh (Rat.divInt x d)):=by
 rw[u62]
 delta On qC qT qN Jn
 have o:∀ a b:Int,D.beq (I a) (.int .i64 b)=decide (a=b):=λa b=>cp;have q:0<Nat.gcd x.natAbs d.natAbs:=zWc _ j1
 have p:((Nat.gcd x.natAbs d.natAbs:Nat):Int) ∣ x:=zcb.2 (zqb _ _);have dd:((Nat.gcd x.natAbs d.natAbs:Nat):Int) ∣ d:=zcb.2 (ztb _ _);have j:Nat.gcd x.natAbs d.natAbs<=d.natAbs:=Nat.gcd_le_right _ j1
 have c:In (Nat.gcd x.natAbs d.natAbs:Nat):=kZ.2 (zRa j (aU.1 f));obtain⟨p1,r⟩:=ke x i;unfold bh;rw[p1,r];refine aa (DC (n+1027) hx) (j0 (.bool false) (j0 false (aa (z:=false) ?_ (j0 false (aa (z:=false) ?_ (j0 false ?_))))))
 ·rw[zga j2];exact aa (DC (n+1027) f) rfl
 ·rw[zga j2]
  refine aa (mG (n+1026) f) ?_;rw[o,zca (Dh i)];rfl
 rw[zga j2]
 refine aa (DD n hx f) ?_;generalize Nat.gcd x.natAbs d.natAbs=g at *;refine aa (z:=(0,[ae (if d<0 then -(g:Int) else(g:Int))])) ?_ ?_
 ·refine aa (mG (n+1026) f) (aa ai (aa ac ?_));by_cases h:d<0
  ·rw[zja h];refine aA (by rw[xP h];decide) ?_
   exact aa (C6 (n+1026) c) rfl
  ·rw[zga h];exact aB (by rw[f8 j1];decide) rfl
 ·have e:In (if d<0 then -(g:Int) else(g:Int)):=by
   split
   ·rw[aU,z8b];exact aU.1 c
   ·exact c
  have k:(if d<0 then -(g:Int) else(g:Int))≠0:=by split<;>omega
  have m:(if d<0 then -(g:Int) else(g:Int)) ∣ x:=by split<;>first|exact Int.neg_dvd.2 p|exact p
  have l:(if d<0 then -(g:Int) else(g:Int)) ∣ d:=by split<;>first|exact Int.neg_dvd.2 dd|exact dd
  exact aa (AI (n+1023) hx e k m) (aa (AI (n+1023) f e k l) rfl)
end Sy
end
end Go.Proofs.YtmnkibhalflchaaGreat
