/- Part 20 of the proof that PlaneOfBoxes answers true at every input -/
import Derived.Test.YtphlmegkommlnaaGreatDoorBoxe02
import Derived.Test.YtphlmegkommlnaaGreatDoorBoxe16
import Derived.Test.YtphlmegkommlnaaGreatDoorBoxe19
set_option linter.unusedVariables false
set_option linter.unusedSimpArgs false
set_option linter.unnecessarySimpa false
set_option linter.defProp false
set_option maxRecDepth 20000
namespace Go.Proofs.YtphlmegkommlnaaGreatDoor
noncomputable section
namespace Sy
open Go Go.Proofs Geo
def QV(l:List D):Bd:=λ(v1:List D)=>
 (abG .add (gx v1 1) (D.int .i64 1)).bind λi=>(D.asSl (.sl l)).bind λh=>(abG .lss i (D.int .i64 (h.length))).bind λj=>(D.truth j).bind λg=>
 if g then((D.asSl (.sl l)).bind λf=>(D.idx (gx v1 1) (f.length)).bind λi7=>(f[i7]?).bind λk=>(abG .add (gx v1 1) (D.int .i64 1)).bind λm=>
  (D.asSl (.sl l)).bind λa=>(D.idx m (a.length)).bind λi11=>(a[i11]?).bind λb=>(abG .mul k b).bind λc=>(abG .add (gx v1 0) c).bind λd=>
  (abG .add (gx v1 1) (D.int .i64 2)).bind λe=>some (Sum.inl [d,e])) else(some (Sum.inr (0,[(gx v1 0)])))
def gC{l:List D}(k:Nat){s a b t:Int}(hl:l.length<=100)(d:l[k]?=some (I a))(c:l[k+1]?=some (I b))(h1:inR (a*b))(h2:inR (s+a*b))(ht:s+a*b=t):QV l [I s,I (k:Int)]=some (.inl [I t,I ((k+2:Nat):Int)]):=by have e:=(zqa.1 c).1;subst ht;exact aa (a8 (a:=k) (b:=1) j1) (j0 l (aa ah (aa ac (aY (by show((k+1:Nat):Int)<(l.length:Int);omega) (j0 l (aa (aw j1) (aa d (aa (a8 (a:=k) (b:=1) j1) (j0 l (aa (aw e) (aa c (aa (ct h1) (aa (az h2) (aa (a8 (a:=k) (b:=2) j1) rfl))))))))))))))
def Ar{l:List D}(k:Nat){s:Int}(hl:l.length<=100)(hk:l.length=k):QV l [I s,I (k:Int)]=some (.inr (0,[I s])):=
 aa (a8 (a:=k) (b:=1) j1) (j0 l (aa ah (aa ac (be (by show ¬ (((k+1:Nat):Int)<(l.length:Int));omega) rfl))))
def rq(n:Nat){a b c d:Int}(h1:inR (a*b))(h2:inR (c*d))(h3:inR (a*b+c*d)):cA (n+1) 394 [.sl [I a,I b,I c,I d]]=some (I (a*b+c*d)):=by rw[Qh];delta FF qB qX qL qZ iL iR Jn;exact aS (gC 0 (l:=[I a,I b,I c,I d]) (s:=0) (t:=a*b) j3 rfl rfl h1 (by rw[zrc];exact h1) (zrc _)) (aS (gC 2 j3 rfl rfl h2 h3 rfl) (dS (Ar 4 j3 rfl) rfl))
def H6(n:Nat){a b c d e f:Int}(h1:inR (a*b))(h2:inR (c*d))(h3:inR (a*b+c*d))(g:inR (e*f))(h:inR (a*b+c*d+e*f)):cA (n+1) 394 [.sl [I a,I b,I c,I d,I e,I f]]=some (I (a*b+c*d+e*f)):=by rw[Qh];delta FF qB qX qL qZ iL iR Jn;exact aS (gC 0 (l:=[I a,I b,I c,I d,I e,I f]) (s:=0) (t:=a*b) j3 rfl rfl h1 (by rw[zrc];exact h1) (zrc _)) (aS (gC 2 j3 rfl rfl h2 h3 rfl) (aS (gC 4 j3 rfl rfl g h rfl) (dS (Ar 6 j3 rfl) rfl)))
def yZ(n:Nat){a b c d e f g h:Int}(h1:inR (a*b))(h2:inR (c*d))(h3:inR (a*b+c*d))(i:inR (e*f))(j:inR (a*b+c*d+e*f))(k:inR (g*h))(m:inR (a*b+c*d+e*f+g*h)) :
  cA (n+1) 394 [.sl [I a,I b,I c,I d,I e,I f,I g,I h]]=some (I (a*b+c*d+e*f+g*h)):=by
 rw[Qh];delta FF qB qX qL qZ iL iR Jn;exact aS (gC 0 (l:=[I a,I b,I c,I d,I e,I f,I g,I h]) (s:=0) (t:=a*b) j3 rfl rfl h1 (by rw[zrc];exact h1) (zrc _)) (aS (gC 2 j3 rfl rfl h2 h3 rfl) (aS (gC 4 j3 rfl rfl i j rfl) (aS (gC 6 j3 rfl rfl k m rfl) (dS (Ar 8 j3 rfl) rfl))))
def dq(q:Nat->Int):Nat->Int
 | 0=>q 0*q 0+q 1*q 1-q 2*q 2-q 3*q 3
 | 1=>2*(q 1*q 2-q 0*q 3)
 | 2=>2*(q 1*q 3+q 0*q 2)
 | 3=>2*(q 1*q 2+q 0*q 3)
 | 4=>q 0*q 0-q 1*q 1+q 2*q 2-q 3*q 3
 | 5=>2*(q 2*q 3-q 0*q 1)
 | 6=>2*(q 1*q 3-q 0*q 2)
 | 7=>2*(q 2*q 3+q 0*q 1)
 | _=>q 0*q 0-q 1*q 1-q 2*q 2+q 3*q 3
def Om(m:Nat->Int):D:=.st [I (m 0),I (m 1),I (m 2),I (m 3),I (m 4),I (m 5),I (m 6),I (m 7),I (m 8)]
def rK{k:Nat}(h:k<9)(m:Nat->Int):D.get (Om m) [k]=some (I (m k)):=by
 match k,h with
 | 0,_=>rfl
 | 1,_=>rfl
 | 2,_=>rfl
 | 3,_=>rfl
 | 4,_=>rfl
 | 5,_=>rfl
 | 6,_=>rfl
 | 7,_=>rfl
 | 8,_=>rfl
 | k+9,h=>omega
def CK(q:Nat->Int):Prop:=∀ i,i<4->(q i).natAbs<=64
def qq{q:Nat->Int}(h:CK q){i j:Nat}(a:i<4)(b:j<4):-4096<=q i*q j/\q i*q j<=4096:=by
 have:(q i*q j).natAbs<=64*64:=by rw[zNa];exact z4a (h i a) (h j b)
 omega
def aK{x:Int}(h:-4000000000<=x/\x<=4000000000):inR x:=by simp only[inR];omega
def jh{q:Nat->Int}(h:CK q)(k:Nat):-16384<=dq q k/\dq q k<=16384:=by
 have a:=qq h (i:=0) (j:=0) j2 j2;have e:=qq h (i:=1) (j:=1) j2 j2;have a22:=qq h (i:=2) (j:=2) j2 j2;have a33:=qq h (i:=3) (j:=3) j2 j2
 have b:=qq h (i:=0) (j:=1) j2 j2;have c:=qq h (i:=0) (j:=2) j2 j2;have d:=qq h (i:=0) (j:=3) j2 j2
 have a12:=qq h (i:=1) (j:=2) j2 j2;have f:=qq h (i:=1) (j:=3) j2 j2;have a23:=qq h (i:=2) (j:=3) j2 j2
 unfold dq;grind
def Ed{a:Int}(h:inR (-a)):abU .neg (I a)=some (I (-a)):=by simp_all [abU,Int.zero_sub,ia]
def xb{a b:Int}(c:2*a=b)(h:inR b):abG .mul (D.int .i64 2) (I a)=some (I b):=by subst c;exact ct h
def Rh(n:Nat){q:Nat->Int}(h:CK q):cA (n+2) 393 [tM q]=some (Om (dq q)):=by
 have e:=qq h (i:=0) (j:=0) j2 j2;have l:=qq h (i:=1) (j:=1) j2 j2;have a22:=qq h (i:=2) (j:=2) j2 j2;have a33:=qq h (i:=3) (j:=3) j2 j2
 have f:=qq h (i:=0) (j:=1) j2 j2;have g:=qq h (i:=0) (j:=2) j2 j2;have k:=qq h (i:=0) (j:=3) j2 j2
 have a12:=qq h (i:=1) (j:=2) j2 j2;have o:=qq h (i:=1) (j:=3) j2 j2;have a23:=qq h (i:=2) (j:=3) j2 j2
 have h0:=h 0 j2;have h1:=h 1 j2;have h2:=h 2 j2;have h3:=h 3 j2
 have c:abU .neg (I (q 0))=some (I (-(q 0))):=Ed (aK j1)
 have n1:abU .neg (I (q 1))=some (I (-(q 1))):=Ed (aK j1)
 have n2:abU .neg (I (q 2))=some (I (-(q 2))):=Ed (aK j1)
 have d:abU .neg (I (q 3))=some (I (-(q 3))):=Ed (aK j1)
 have m:∀ a b:Int,-a*b=-(a*b):=λa b=>Int.neg_mul a b;rw[YK];delta LJ qG qB Jn;refine j0 (I (q 0)) (j0 (I (q 1)) (j0 (I (q 2)) (j0 (I (q 3)) (aa n2 (aa d ?_)))));refine aa (yZ n (aK j1) (aK j1) (aK j1) (aK (by rw[m];omega)) (aK (by rw[m];omega)) (aK (by rw[m];omega)) (aK (by rw[m,m];omega))) ?_
 refine aa c (aa (rq n (aK j1) (aK (by rw[m];omega)) (aK (by rw[m];omega))) (aa (xb (b:=dq q 1) (by show _=2*(q 1*q 2-q 0*q 3);rw[m];omega) (aK (by have:=jh h 1;omega))) ?_))
 refine aa (rq n (aK j1) (aK j1) (aK j1)) (aa (xb (b:=dq q 2) rfl (aK (by have:=jh h 2;omega))) ?_)
 refine aa (rq n (aK j1) (aK j1) (aK j1)) (aa (xb (b:=dq q 3) rfl (aK (by have:=jh h 3;omega))) ?_)
 refine aa n1 (aa d (aa (yZ n (aK j1) (aK (by rw[m];omega)) (aK (by rw[m];omega)) (aK j1) (aK (by rw[m];omega)) (aK (by rw[m];omega)) (aK (by rw[m,m];omega))) ?_))
 refine aa c (aa (rq n (aK j1) (aK (by rw[m];omega)) (aK (by rw[m];omega))) (aa (xb (b:=dq q 5) (by show _=2*(q 2*q 3-q 0*q 1);rw[m];omega) (aK (by have:=jh h 5;omega))) ?_))
 refine aa c (aa (rq n (aK j1) (aK (by rw[m];omega)) (aK (by rw[m];omega))) (aa (xb (b:=dq q 6) (by show _=2*(q 1*q 3-q 0*q 2);rw[m];omega) (aK (by have:=jh h 6;omega))) ?_))
 refine aa (rq n (aK j1) (aK j1) (aK j1)) (aa (xb (b:=dq q 7) rfl (aK (by have:=jh h 7;omega))) ?_)
 refine aa n1 (aa n2 (aa (yZ n (aK j1) (aK (by rw[m];omega)) (aK (by rw[m];omega)) (aK (by rw[m];omega)) (aK (by rw[m,m];omega)) (aK j1) (aK (by rw[m,m];omega))) ?_))
 have p:q 0*q 0+q 1*q 1+-(q 2)*q 2+-(q 3)*q 3=dq q 0:=by show _=q 0*q 0+q 1*q 1-q 2*q 2-q 3*q 3;rw[m,m];omega
 have r:q 0*q 0+-(q 1)*q 1+q 2*q 2+-(q 3)*q 3=dq q 4:=by show _=q 0*q 0-q 1*q 1+q 2*q 2-q 3*q 3;rw[m,m];omega
 have s:q 0*q 0+-(q 1)*q 1+-(q 2)*q 2+q 3*q 3=dq q 8:=by show _=q 0*q 0-q 1*q 1-q 2*q 2+q 3*q 3;rw[m,m];omega
 rw[p,r,s];rfl
def cC(q:Nat->Int)(v:V)(i:Nat):Int:=dq q (3*i)*v.x+dq q (3*i+1)*v.y+dq q (3*i+2)*v.z
def ap(q:Nat->Int):Int:=q 0*q 0+q 1*q 1+q 2*q 2+q 3*q 3
def yf{q:Nat->Int}(h:CK q)(k:Nat){x:Int}(hx:x.natAbs<=4096):-67108864<=dq q k*x/\dq q k*x<=67108864:=by
 have:=jh h k;have:(dq q k*x).natAbs<=16384*4096:=by rw[zNa];exact z4a j1 hx
 omega
def lB{q:Nat->Int}(h:CK q){v:V}(d:bd 4096 v)(i:Nat):-201326592<=cC q v i/\cC q v i<=201326592:=by obtain⟨v1,v2,v3⟩:=mK (k:=4096) d;have a:=yf h (3*i) v1;have b:=yf h (3*i+1) v2;have c:=yf h (3*i+2) v3;grind [cC]
def cq{q:Nat->Int}(h:CK q)(h0:∃ i,i<4/\q i≠0):0<ap q/\ap q<=16384:=by
 have a:=qq h (i:=0) (j:=0) j2 j2;have b:=qq h (i:=1) (j:=1) j2 j2;have a22:=qq h (i:=2) (j:=2) j2 j2;have a33:=qq h (i:=3) (j:=3) j2 j2
 have d:=nv (q 0);have e:=nv (q 1);have f:=nv (q 2);have g:=nv (q 3);have pos:∀ x:Int,x≠0->0<x*x:=λx hx=>by
  have:=nv x;rcases zVa this with h|h
  ·exact h
  ·rcases z7a.1 h.symm with h|h<;>exact z3a h hx
 obtain⟨i,c,hq⟩:=h0;have hp:=pos _ hq;unfold ap;refine⟨?_,j1⟩
 match i,c with
 | 0,_=>omega
 | 1,_=>omega
 | 2,_=>omega
 | 3,_=>omega
 | k+4,h=>omega
def Iw(f:Nat->Int):D:=.st [I (f 0),I (f 1),I (f 2)]
def Gd{k:Nat}(h:k<9):D.idx (I (k:Int)) 9=some k:=aw h
def Xd(n:Nat){q:Nat->Int}(h:CK q){v:V}(f:bd 4096 v):cA (n+3) 386 [tM q,af v]=some (Iw (cC q v)):=by
 obtain⟨v1,v2,v3⟩:=mK (k:=4096) f;rw[SA];delta Hv qG qB qC qJ qZ iL iR Jn;refine aa (Rh n h) ?_;refine xS (l0:=[I 0,I 0,I 0]) (λi=>I (cC q v i)) rfl (λi e l hl m=>?_) (λl=>aa ah (aa ac (be j2 rfl))) rfl
 have a:=yf h (3*i) v1;have b:=yf h (3*i+1) v2;have c:=yf h (3*i+2) v3;have d:abG .mul (D.int .i64 3) (I (i:Int))=some (I ((3*i:Nat):Int)):=CP (a:=3) (b:=i) j1
 have g:abG .add (I ((3*i:Nat):Int)) (D.int .i64 1)=some (I ((3*i+1:Nat):Int)):=a8 (a:=3*i) (b:=1) j1
 have j:abG .add (I ((3*i:Nat):Int)) (D.int .i64 2)=some (I ((3*i+2:Nat):Int)):=a8 (a:=3*i) (b:=2) j1
 refine aa ah (aa ac (aY (by show(i:Int)<3;omega) ?_))
 refine aa d (aa (Gd j1) (aa (rK j1 _) (j0 (I v.x) ?_)))
 refine aa d (aa g (aa (Gd j1) (aa (rK j1 _) (j0 (I v.y) ?_))))
 refine aa d (aa j (aa (Gd j1) (aa (rK j1 _) (j0 (I v.z) ?_))))
 refine aa (H6 (n+1) (aK j1) (aK j1) (aK j1) (aK j1) (aK j1)) ?_
 exact aa (aw e) (aa (so j1) (aa (a8 (a:=i) (b:=1) j1) rfl))
def Rg(n:Nat){q:Nat->Int}(h:CK q):cA (n+3) 385 [tM q]=some (I (ap q)):=by
 have a:=qq h (i:=0) (j:=0) j2 j2;have b:=qq h (i:=1) (j:=1) j2 j2;have a22:=qq h (i:=2) (j:=2) j2 j2;have a33:=qq h (i:=3) (j:=3) j2 j2
 rw[YI];unfold LH;refine aa (z:=I (ap q)) ?_ rfl;rw[YJ];delta LI qG;refine j0 (I (q 0)) (j0 (I (q 0)) (j0 (I (q 1)) (j0 (I (q 1)) (j0 (I (q 2)) (j0 (I (q 2)) (j0 (I (q 3)) (j0 (I (q 3)) ?_)))))));exact aa (yZ n (aK j1) (aK j1) (aK j1) (aK j1) (aK j1) (aK j1) (aK j1)) rfl
def sZ{x:Int}(h:-4611686018427387904<=x/\x<=4611686018427387904):inR x:=by simp only[inR];omega
def rY{q:Nat->Int}(h:CK q)(k:Nat){x:Int}(hx:x.natAbs<=1099511627776):-18014398509481984<=dq q k*x/\dq q k*x<=18014398509481984:=by
 have:=jh h k;have:(dq q k*x).natAbs<=16384*1099511627776:=by rw[zNa];exact z4a j1 hx
 omega
def Er(n:Nat){q:Nat->Int}(h:CK q){v:V}(f:bd 1099511627776 v):cA (n+3) 386 [tM q,af v]=some (Iw (cC q v)):=by
 obtain⟨v1,v2,v3⟩:=mK (k:=1099511627776) f;rw[SA];delta Hv qG qB qC qJ qZ iL iR Jn;refine aa (Rh n h) ?_;refine xS (l0:=[I 0,I 0,I 0]) (λi=>I (cC q v i)) rfl (λi e l hl m=>?_) (λl=>aa ah (aa ac (be j2 rfl))) rfl
 have a:=rY h (3*i) v1;have b:=rY h (3*i+1) v2;have c:=rY h (3*i+2) v3;have d:abG .mul (D.int .i64 3) (I (i:Int))=some (I ((3*i:Nat):Int)):=CP (a:=3) (b:=i) j1
 have g:abG .add (I ((3*i:Nat):Int)) (D.int .i64 1)=some (I ((3*i+1:Nat):Int)):=a8 (a:=3*i) (b:=1) j1
 have j:abG .add (I ((3*i:Nat):Int)) (D.int .i64 2)=some (I ((3*i+2:Nat):Int)):=a8 (a:=3*i) (b:=2) j1
 refine aa ah (aa ac (aY (by show(i:Int)<3;omega) ?_))
 refine aa d (aa (Gd j1) (aa (rK j1 _) (j0 (I v.x) ?_)))
 refine aa d (aa g (aa (Gd j1) (aa (rK j1 _) (j0 (I v.y) ?_))))
 refine aa d (aa j (aa (Gd j1) (aa (rK j1 _) (j0 (I v.z) ?_))))
 refine aa (H6 (n+1) (sZ j1) (sZ j1) (sZ j1) (sZ j1) (sZ j1)) ?_
 exact aa (aw e) (aa (so j1) (aa (a8 (a:=i) (b:=1) j1) rfl))
def li(x:V)(q:Nat->Int)(v:V):V:=⟨cC q v 0+ap q*x.x,cC q v 1+ap q*x.y,cC q v 2+ap q*x.z⟩
def PB:Int:=2305843009415020544
structure PoseOk(x:V)(q:Nat->Int):Prop where
 hx:bd 140737488355327 x
 hq:CK q
 h0:∃ i,i<4/\q i≠0
def yF{x:V}{q:Nat->Int}(h:PoseOk x q){a:Int}(b:-140737488355327<=a/\a<=140737488355327):-2305843009213693952<=ap q*a/\ap q*a<=2305843009213693952:=by
 have s:=cq h.hq h.h0;have:(ap q*a).natAbs<=16384*140737488355327:=by rw[zNa];exact z4a j1 j1
 omega
def vJ{x:V}{q:Nat->Int}(h:PoseOk x q){v:V}(a:bd 4096 v):bd PB (li x q v):=by have t0:=lB h.hq a 0;have t1:=lB h.hq a 1;have t2:=lB h.hq a 2;have s0:=yF h h.hx.1;have s1:=yF h h.hx.2.1;have s2:=yF h h.hx.2.2;simp only[bd,li,PB];omega
def fJ(x:V)(q:Nat->Int)(l:List V):D:=.st [dJ x q,db l,I (ap q),eG (l.map (li x q))]
def Sj{x:V}{q:Nat->Int}{l:List V}{i:Nat}(a:i<l.length):((l.take i).map λv=>af (li x q v))++[af (li x q l[i])]=(l.take (i+1)).map λv=>af (li x q v):=by rw[List.take_add_one,zca a];simp only[Option.toList_some,zKb,zab,zkd]
def FQ(n:Nat){x:V}{q:Nat->Int}(h:PoseOk x q){l:List V}(hl:∀ v∈l,bd 4096 v)(hlen:l.length<=100):cA (n+4) 433 [dJ x q,db l]=some (fJ x q l):=by
 rw[YR];delta LR qG qB qC qS qX qJ qV qW qZ iL iR Jn;refine j0 (tM q) (aa (Rg n h.hq) (j0 (eG l) (j0 (l.map af) ?_)));obtain⟨Z,hZ⟩:∃ Z,D.st [D.st [I 0,I 0,I 0],D.st [I 0,I 0,I 0,I 0]]=Z:=⟨_,rfl⟩;refine c6 (λi s=>s=[I (i:Int),Z,.sl [],I 0,.sl [],dJ x q,db l,I (ap q),.sl ((l.take i).map λv=>af (li x q v))]) l.length 0 (zAa _) (by rw[<-hZ];rfl) (λi d s hs=>?_) (λs hs=>?_)
 ·subst hs;left;have e:bd 4096 l[i]:=hl _ (zFa d);have t0:=lB h.hq e 0;have t1:=lB h.hq e 1;have t2:=lB h.hq e 2;have s0:=yF h h.hx.1;have s1:=yF h h.hx.2.1;have s2:=yF h h.hx.2.2;refine⟨_,?_,rfl⟩;refine aa ah (aa ac (aY (by rw[gw];omega) ?_))
  refine j0 (l.map af) (aa (z:=i) (by rw[gw];exact aw d) (aa (z:=af l[i]) (by simp[d]) ?_))
  refine j0 (tM q) (aa (Xd n h.hq e) ?_);obtain⟨L,hL⟩:∃ L,((l.take i).map λv=>af (li x q v))=L:=⟨_,rfl⟩;obtain⟨v,c⟩:∃ v,l[i]=v:=⟨_,rfl⟩;rw[<-Sj d,c,hL];rw[c] at t0 t1 t2;refine aS (s':=[I 1,Z,.sl [],I 0,.sl [],dJ x q,db l,I (ap q),.sl L,.st [I (li x q v).x,I (cC q v 1),I (cC q v 2)]]) ?_ (aS (s':=[I 2,Z,.sl [],I 0,.sl [],dJ x q,db l,I (ap q),.sl L,.st [I (li x q v).x,I (li x q v).y,I (cC q v 2)]]) ?_ (aS (s':=[I 3,Z,.sl [],I 0,.sl [],dJ x q,db l,I (ap q),.sl L,af (li x q v)]) ?_ (dS (r:=(0,[Z,.sl [],I 0,.sl [],dJ x q,db l,I (ap q),.sl L,af (li x q v)])) ?_ ?_)))
  ·exact j0 (.bool true) (j0 true (gF (j0 0 (j0 (I (cC q v 0)) (j0 0 (j0 (I x.x) (aa (ct (sZ j1)) (aa (az (by simp only[inR];omega)) (j0 0 (j0 (.st [I (li x q v).x,I (cC q v 1),I (cC q v 2)]) (j0 (I 1) rfl)))))))))))
  ·exact j0 (.bool true) (j0 true (gF (j0 1 (j0 (I (cC q v 1)) (j0 1 (j0 (I x.y) (aa (ct (sZ j1)) (aa (az (by simp only[inR];omega)) (j0 1 (j0 (.st [I (li x q v).x,I (li x q v).y,I (cC q v 2)]) (j0 (I 2) rfl)))))))))))
  ·exact j0 (.bool true) (j0 true (gF (j0 2 (j0 (I (cC q v 2)) (j0 2 (j0 (I x.z) (aa (ct (sZ j1)) (aa (az (by simp only[inR];omega)) (j0 2 (j0 (af (li x q v)) (j0 (I 3) rfl)))))))))))
  ·exact j0 (.bool false) (j0 false rfl)
  ·have hn:List.length (D.els (.sl L))+List.length [af (li x q v)]<=1073741824:=by
    rw[<-hL];show((l.take i).map _).length+1<=_;simp;omega
   refine(zna hn).trans ?_;exact aa (a8 (a:=i) (b:=1) j1) rfl
 ·subst hs;refine⟨_,aa ah (aa ac (be (by rw[gw];omega) rfl)),?_⟩
  rw[zfb (zia _)];simp only[fJ,eG,List.map_map];rfl
def NB:Int:=2305843009213693951
def xo{u v:V}(hu:bd NB u)(c:bd PB v):(u.x*v.x).natAbs<=2^123/\(u.y*v.y).natAbs<=2^123/\(u.z*v.z).natAbs<=2^123:=by
 have key:∀ a b:Int,(-NB<=a/\a<=NB)->(-PB<=b/\b<=PB)->(a*b).natAbs<=2^123:=λa b d e=>by rw[zNa];simp only[NB,PB] at d e;exact br (i:=61) (j:=62) (by rw[show(2:Nat)^61=2305843009213693952 from rfl];omega) (by rw[show(2:Nat)^62=4611686018427387904 from rfl];omega) j2
 exact⟨key _ _ hu.1 c.1,key _ _ hu.2.1 c.2.1,key _ _ hu.2.2 c.2.2⟩
def uP{u v:V}(hu:bd NB u)(a:bd PB v):In (u.x*v.x)/\In (u.y*v.y)/\In (u.z*v.z)/\In (u.x*v.x+u.y*v.y)/\In (V.dot u v):=by obtain⟨h1,h2,h3⟩:=xo hu a;have b:=znc (u.x*v.x) (u.y*v.y);have c:=znc (u.x*v.x+u.y*v.y) (u.z*v.z);exact⟨fa j2 h1,fa j2 h2,fa j2 h3,fa (k:=130) j2 j1,fa (k:=130) j2 (by unfold V.dot;omega)⟩
def Dd{u:V}(hu:bd NB u):inR u.x/\inR u.y/\inR u.z:=by simp only[bd,NB] at hu;simp only[inR];omega
def De{u:V}(hu:bd PB u):inR u.x/\inR u.y/\inR u.z:=by simp only[bd,PB] at hu;simp only[inR];omega
def Ph(n:Nat){u v:V}(hu:bd NB u)(d:bd PB v):cA (n+6) 91 [af u,af v]=some (ag (V.dot u v)):=by
 obtain⟨a1,a2,a3⟩:=Dd hu;obtain⟨a,b,c⟩:=De d;obtain⟨i1,i2,i3,e,g⟩:=uP hu d;have f:In 0:=bB (dY 0);rw[u91];unfold Tg;refine aa (Mx (n+2) a1 a2 a3) (aa (Mx (n+2) a b c) (aa (z:=ag (V.dot u v)) ?_ rfl));rw[Yg];delta Le qB qC qJ qZ iL iR Jn;refine aa (y6 (n+2) (dY 0)) ?_;refine aS (s':=[I 1,ag (u.x*v.x)]) ?_ (aS (s':=[I 2,ag (u.x*v.x+u.y*v.y)]) ?_ (aS (s':=[I 3,ag (V.dot u v)]) ?_ (dS (r:=(0,[ag (V.dot u v)])) ?_ rfl)))
 ·exact j0 (.bool true) (j0 true (gF (j0 0 (j0 (ag u.x) (j0 0 (j0 (ag v.x) (aa (Ik (n+1) (bB a1) (bB a) i1) (aa (Ia n f i1 (by rw[zrc];exact i1)) (j0 (I 1) (by rw[zrc]))))))))))
 ·exact j0 (.bool true) (j0 true (gF (j0 1 (j0 (ag u.y) (j0 1 (j0 (ag v.y) (aa (Ik (n+1) (bB a2) (bB b) i2) (aa (Ia n i1 i2 e) (j0 (I 2) rfl)))))))))
 ·exact j0 (.bool true) (j0 true (gF (j0 2 (j0 (ag u.z) (j0 2 (j0 (ag v.z) (aa (Ik (n+1) (bB a3) (bB c) i3) (aa (Ia n e i3 g) (j0 (I 3) rfl)))))))))
 ·exact j0 (.bool false) (j0 false rfl)
def AJ(u:V)(L:List V):Nat->Int
 | 0=>V.dot u (pt L 0)
 | k+1=>if V.dot u (pt L (k+1))>AJ u L k then V.dot u (pt L (k+1)) else AJ u L k
def vA(u:V)(L:List V)(k:Nat):AJ u L (k+1)=if V.dot u (pt L (k+1))>AJ u L k then V.dot u (pt L (k+1)) else AJ u L k:=rfl
def gA{L:List V}{i:Nat}(h:i<L.length):pt L i∈L:=by unfold pt;rw[z1a,zca h];exact zFa h
def zZ{L:List V}{i:Nat}(h:i<L.length):(L.map af)[i]?=some (af (pt L i)):=by unfold pt;rw[zhb,z1a,zca h];rfl
theorem Do{u:V}{L:List V}(hu:bd NB u)(hL:∀ v∈L,bd PB v):∀ k,k<L.length->In (AJ u L k)
 | 0,h=>(uP hu (hL _ (gA h))).2.2.2.2
 | k+1,h=>by
  unfold AJ;split
  ·exact(uP hu (hL _ (gA h))).2.2.2.2
  ·exact Do hu hL k j1
def MJ(a b:Int):decide (bg a b>0)=decide (a>b):=by unfold bg;split<;>(try split)<;>simp<;>omega
def eQ(u x:V)(q:Nat->Int)(l:List V):Rat:=Rat.divInt (AJ u (l.map (li x q)) (l.length-1)) (ap q)
def zY{x:V}{q:Nat->Int}(h:PoseOk x q){l:List V}(hl:∀ v∈l,bd 4096 v):∀ v∈l.map (li x q),bd PB v:=λv a=>by obtain⟨w,hw,rfl⟩:=zMa.1 a;exact vJ h (hl w hw)
def ph{x:V}{q:Nat->Int}(h:PoseOk x q):inR (ap q)/\ap q≠0:=by have:=cq h.hq h.h0;exact⟨by simp only[inR];omega,j1⟩
def nj{u x:V}{q:Nat->Int}(hu:bd NB u)(h:PoseOk x q){l:List V}(hl:∀ v∈l,bd 4096 v)(h0:0<l.length):InR (eQ u x q l):=
 dL (Do hu (zY h hl) _ (by simp;omega)) (bB (ph h).1) (ph h).2
def H7(n:Nat){u x:V}{q:Nat->Int}(hu:bd NB u)(h:PoseOk x q){l:List V}(hl:∀ v∈l,bd 4096 v)(h0:0<l.length)(hlen:l.length<=100):cA (n+1031) 435 [fJ x q l,af u]=some (ks (eQ u x q l)):=by
 have hs:=ph h;have hP:=zY h hl;have c:=Do hu hP;unfold fJ eQ;obtain⟨L,hL⟩:∃ L,l.map (li x q)=L:=⟨_,rfl⟩;have hk:L.length=l.length:=by rw[<-hL];simp
 rw[hL] at hP c ⊢;rw[YT];delta LU qG qB qC qI qY qP qZ iL iR Jn;refine j0 (eG L) (j0 (L.map af) (aa (z:=0) (by rw[gw];exact aw (i:=0) j1) (aa (zZ j1) ?_)))
 refine aa (Ph (n+1024) hu (hP _ (gA j1))) ?_
 refine j0 (eG L) (j0 (L.map af) (aa (z:=(L.map af).drop 1) ?_ ?_))
 ·unfold D.cut;rw[zna ⟨by rw[gw];omega,zia _⟩,zfb (zia _)]
 have d:((L.map af).drop 1).length=l.length-1:=by rw[List.length_drop,gw,hk]
 refine c6 (λi s=>s=[I (i:Int),ag (AJ u L i)]) (l.length-1) 0 (zAa _) rfl (λi f s e=>?_) (λs e=>?_)
 ·subst e;left;refine⟨_,?_,rfl⟩;have hm:=gA (L:=L) (i:=i+1) j1
  refine aa ah (aa ac (aY (by rw[d];omega) ?_))
  refine aa (z:=(0,[ag (AJ u L (i+1))])) ?_ (aa (a8 (a:=i) (b:=1) j1) rfl)
  refine aa (z:=i) (by rw[d];exact aw f) (aa (z:=af (pt L (i+1))) (by rw[z8b,zSc];exact zZ j1) ?_)
  refine aa (Ph (n+1024) hu (hP _ hm)) (aa (To (n+1026) (uP hu (hP _ hm)).2.2.2.2 (c i j1)) ?_)
  refine aa (z:=.bool (decide (V.dot u (pt L (i+1))>AJ u L i))) (by rw[<-MJ];exact fH) (aa ac ?_)
  rw[vA];by_cases hc:V.dot u (pt L (i+1))>AJ u L i
  ·rw[zna hc];exact aY hc rfl
  ·rw[zka hc];exact be hc rfl
 ·subst e;refine⟨_,aa ah (aa ac (be (by rw[d];omega) rfl)),?_⟩
  exact j0 (I (ap q)) (aa (y6 (n+1028) hs.1) (aa (Pd n (c _ j1) (bB hs.1) hs.2) rfl))
def J0{x y:Int}(hy:0<y):(0<=x/\x/y=x.tdiv y/\x%y=x.tmod y/\0<=x.tmod y)\/(x<0/\x.tmod y=0/\x/y=x.tdiv y/\x%y=0)\/(x<0/\x.tmod y<0/\x/y=x.tdiv y-1/\x%y=x.tmod y+y):=by
 have e:=Int.mul_tdiv_add_tmod x y;have l:=Int.tmod_lt_of_pos x hy;have c:=Int.lt_tmod_of_pos x hy;by_cases hx:0<=x
 ·have h0:=Int.tmod_nonneg y hx;have:=(Int.ediv_emod_unique (a:=x) (q:=x.tdiv y) (r:=x.tmod y) hy).2 ⟨j1,h0,l⟩
  exact .inl ⟨hx,this.1,this.2,h0⟩
 ·have h0:x.tmod y<=0:=by
   have h1:=Int.tmod_nonneg y (show 0<=-x by omega)
   rw[Int.neg_tmod] at h1;omega
  by_cases hz:x.tmod y=0
  ·have:=(Int.ediv_emod_unique (a:=x) (q:=x.tdiv y) (r:=x.tmod y) hy).2 ⟨j1,j1,l⟩
   exact .inr (.inl ⟨j1,hz,this.1,by rw[this.2,hz]⟩)
  ·have b:y*(x.tdiv y-1)=y*x.tdiv y-y:=by rw[Int.mul_sub,Int.mul_one]
   have:=(Int.ediv_emod_unique (a:=x) (q:=x.tdiv y-1) (r:=x.tmod y+y) hy).2 ⟨j1,j1,j1⟩
   exact .inr (.inr ⟨j1,j1,this.1,this.2⟩)
def Jk{x y:Int}(hy:0<y):(0<=x/\x/y=((x.natAbs/y.natAbs:Nat):Int)/\x%y=((x.natAbs%y.natAbs:Nat):Int))\/(x<0/\x.natAbs%y.natAbs=0/\x/y=-((x.natAbs/y.natAbs:Nat):Int)/\x%y=0) ∨
  (x<0/\0<x.natAbs%y.natAbs/\x/y=-((x.natAbs/y.natAbs:Nat):Int)-1/\x%y=((y.natAbs-x.natAbs%y.natAbs:Nat):Int)):=by
 have e:=zsc x.natAbs y.natAbs;have l:=z2a x.natAbs (show 0<y.natAbs by omega)
 have c:(y.natAbs:Int)=y:=j1
 have f:y*((x.natAbs/y.natAbs:Nat):Int)+((x.natAbs%y.natAbs:Nat):Int)=(x.natAbs:Int):=by rw[<-e,zXc,z0a,c,e]
 generalize x.natAbs/y.natAbs=Q at *;generalize x.natAbs%y.natAbs=R at *;by_cases hx:0<=x
 ·have:=(Int.ediv_emod_unique (a:=x) (q:=Q) (r:=R) hy).2 ⟨j1,j1,j1⟩
  exact .inl ⟨hx,this⟩
 ·have b:y*-(Q:Int)=-(y*Q):=zFb ..;by_cases hz:R=0
  ·have:=(Int.ediv_emod_unique (a:=x) (q:=-Q) (r:=0) hy).2 ⟨j1,j1,j1⟩
   exact .inr (.inl ⟨j1,hz,this⟩)
  ·have d:y*(-(Q:Int)-1)=-(y*Q)-y:=by rw[Int.mul_sub,Int.mul_one,b]
   have:=(Int.ediv_emod_unique (a:=x) (q:=-Q-1) (r:=((y.natAbs-R:Nat):Int)) hy).2 ⟨j1,j1,j1⟩
   exact .inr (.inr ⟨j1,j1,this⟩)
def Hx{x y:Int}(hy:In y)(h:0<y):In (x%y):=by
 have a:=Int.emod_nonneg x (show y≠0 by omega)
 have b:=Int.emod_lt_of_pos x h;unfold In at *;omega
def lF{x y:Int}(h:0<y):0<=x%y/\x%y<y:=⟨Int.emod_nonneg x j1,Int.emod_lt_of_pos x h⟩
def N9(n:Nat){x y:Int}(hx:In x)(hy:In y)(k:0<y):cA (n+6) 172 [ag x,ag y]=some (.tup [ag (x/y),ag (x%y)]):=by
 have K:(x/y).natAbs<=x.natAbs:=Int.natAbs_ediv_le_natAbs x y;have G:In (x/y):=ni hx y;have L:=lF (x:=x) k;rw[Qg];delta FD qG qB qT qN Jn;have r:cA (n+5) 118 [.sl [ag x,ag y]]=some (.bool true):=rn (n+3) (a:=some x) (b:=some y) (aV hx) (aV hy);have d:∀ a b:Int,D.beq (I a) (.int .i64 b)=decide (a=b):=λa b=>bZ;refine aa r (aa bz (j0 false (aa (z:=false) ?_ (j0 false ?_))))
 ·rw[zka j2]
  refine aa (rp (n+2) hy) ?_;rw[d,zea (JQ j1)];rfl
 rw[zka j2]
 by_cases fast:(inR x/\x≠-9223372036854775808)/\inR y/\y≠-9223372036854775808
 ·obtain⟨⟨A,e⟩,B,C⟩:=fast;have j:cA (n+5) 202 [ag x]=some (.tup [I x,.bool true]):=by
   rcases yY (n+1) hx with⟨_,h⟩|⟨h,_⟩
   ·exact h
   ·simp_all
  have l:cA (n+5) 202 [ag y]=some (.tup [I y,.bool true]):=by
   rcases yY (n+1) hy with⟨_,h⟩|⟨h,_⟩
   ·exact h
   ·simp_all
  simp only[inR] at A B;have g:inR (x/y):=by simp only[inR];omega
  have f:inR (x%y):=by simp only[inR];omega
  refine aa (z:=(0,[ag (x/y),ag (x%y)])) ?_ rfl;refine aa j (j0 (I x) (j0 (.bool true) (j0 true (aa (z:=true) ?_ (j0 true ?_)))))
  ·rw[zna rfl,d,zea e];rfl
  rw[zna rfl];refine aa l (j0 (I y) (j0 (.bool true) (j0 true (aa (z:=true) ?_ (j0 true ?_)))))
  ·rw[zna rfl,d,zea C];rfl
  rw[zna rfl];have H:inR (x.tdiv y):=by
   have:(x.tdiv y).natAbs<=x.natAbs:=by rw[Int.natAbs_tdiv];exact zzc _ _
   grind [inR]
  refine aa (ut j1 H) (aa (jY j1) (aa (z:=(0,[I (x/y),I (x%y)])) ?_ (aa (y6 (n+3) g) (aa (y6 (n+3) f) rfl))))
  refine aa ac ?_;rw[d];rcases J0 (x:=x) k with⟨h0,h1,h2,h3⟩|⟨h0,h1,h2,h3⟩|⟨h0,h1,h2,h3⟩
  ·rw[h1,h2];refine aa (z:=false) ?_ (aa ac rfl);by_cases hz:x.tmod y=0
   ·simp_all
   ·rw[zea hz];refine gF (aa ah (aa ah ?_));rw[zea j1,zea j1];rfl
  ·rw[h2,h3,h1];exact j0 false (aa ac rfl)
  ·rw[zea (show ¬ x.tmod y=0 by omega)]
   refine aa (z:=true) (gF (aa ah (aa ah ?_))) (aa ac ?_)
   ·rw[zha j1,zea j1];rfl
   ·rw[h2] at g ⊢;rw[h3] at f ⊢;exact gF (aa (fd g) (aa (az f) rfl))
 ·refine aa (z:=(1,[.st [.bool false,.bool false,aq aP],.st [.bool false,.bool false,aq aP]])) ?_ ?_
  ·rcases yY (n+1) hx with⟨A,h⟩|⟨A,h⟩
   ·by_cases e:x=-9223372036854775808
    ·refine aa h (j0 (I x) (j0 (.bool true) (j0 true (aa (z:=false) ?_ (j0 false rfl)))));rw[zna rfl,d,zha e];rfl
    ·refine aa h (j0 (I x) (j0 (.bool true) (j0 true (aa (z:=true) ?_ (j0 true ?_)))))
     ·rw[zna rfl,d,zea e];rfl
     rw[zna rfl];rcases yY (n+1) hy with⟨B,h2⟩|⟨B,h2⟩
     ·simp_all
     ·exact aa h2 (j0 (I 0) (j0 (.bool false) (j0 false (j0 false (j0 false rfl)))))
   ·exact aa h (j0 (I 0) (j0 (.bool false) (j0 false (j0 false (j0 false rfl)))))
  rw[zka j2]
  have v:=aO.1 hx;have m:=aO.1 hy;have u:x.natAbs/y.natAbs<dW:=zZa (zzc _ _) v;have i:x.natAbs%y.natAbs<dW:=zvc (z2a _ j1) m
  refine aa (jd x) (aa (jd y) (aa (O4 (n+1) v m j1) (j0 (LM (x.natAbs/y.natAbs)) (j0 (LM (x.natAbs%y.natAbs)) (aa (cZ x) (aa (cZ y) ?_))))))
  have E:(!(D.beq (.bool (decide (x<0))) (.bool (decide (y<0)))))=decide (x<0):=by grind [D.beq]
  rw[E,iY,mI i fW];refine aa (tI (n+4) _ u) ?_;have c:∀ Q:Nat,(Q:Int)=x%y->Q<dW->cA (n+5) 116 [.bool (decide (y<0)),LM Q]=some (ag (x%y)):=λQ J ht=>by rw[tI (n+4) _ ht,zea (show ¬ y<0 by omega),show sgn false Q=(Q:Int) from rfl,J]
  rcases Jk (x:=x) k with⟨o,p,q⟩|⟨o,p,q,w⟩|⟨o,p,q,w⟩
  ·refine aa (z:=(0,[LM (x.natAbs%y.natAbs),ag (x/y)])) ?_ (aa (cZ y) (aa (c _ q.symm i) rfl));have hs:sgn (decide (x<0)) (x.natAbs/y.natAbs)=x/y:=by unfold sgn;rw[zea j1];simp[p]
   rw[hs];refine j0 (!decide (x.natAbs%y.natAbs=0)) (aa (z:=false) ?_ (j0 false rfl));cases (!decide (x.natAbs%y.natAbs=0))
   ·rfl
   ·refine gF (aa (cZ x) (aa (cZ y) ?_));rw[E,zea j1];rfl
  ·refine aa (z:=(0,[LM (x.natAbs%y.natAbs),ag (x/y)])) ?_ (aa (cZ y) (aa (c _ (by rw[p,w];rfl) i) rfl))
   have hs:sgn (decide (x<0)) (x.natAbs/y.natAbs)=x/y:=by unfold sgn;rw[zha o];simp[q]
   rw[hs,zha p];exact j0 false (j0 false (j0 false rfl))
  ·have F:=z2a x.natAbs (show 0<y.natAbs by omega)
   refine aa (z:=(0,[LM (y.natAbs-x.natAbs%y.natAbs),ag (x/y)])) ?_ (aa (cZ y) (aa (c _ w.symm j1) rfl))
   have hs:sgn (decide (x<0)) (x.natAbs/y.natAbs)=-((x.natAbs/y.natAbs:Nat):Int):=by unfold sgn;rw[zha o];rfl
   rw[hs,zea (show ¬ x.natAbs%y.natAbs=0 by omega)]
   refine j0 true (aa (z:=true) ?_ (j0 true (gF ?_)))
   ·refine gF (aa (cZ x) (aa (cZ y) ?_));rw[E,zha o];rfl
   ·have i1:In (1:Int):=bB (dY 1);have t:In (-((x.natAbs/y.natAbs:Nat):Int)):=by rw[aO,zEb,zva];exact u
    have s:cA (n+5) 203 [ag (-((x.natAbs/y.natAbs:Nat):Int)),ag 1]=some (ag (x/y)):=by
     rw[Sw];unfold Ht;have hm:In (-1:Int):=bB (dY (-1));refine aa (E2 (n+1) i1) (aa (Ia n t hm (by rw[show -((x.natAbs/y.natAbs:Nat):Int)+-1=x/y by rw[q];rfl];exact G)) ?_)
     grind
    exact aa (y6 (n+3) (dY 1)) (aa s (aa (jd y) (aa (O2 (n+4) m (zyc F)) rfl)))
def sN(n:Nat){x y:Int}(hx:In x)(hy:In y)(a:0<y):cA (n+7) 132 [ag x,ag y]=some (ag (x/y)):=by rw[Qf];unfold FC;exact aa (N9 n hx hy a) (j0 (ag (x/y)) (j0 (ag (x%y)) rfl))
def Eo(n:Nat){x y:Int}(hx:In x)(hy:In y)(a:0<y):cA (n+7) 137 [ag x,ag y]=some (ag (x%y)):=by rw[X9];unfold KX;exact aa (N9 n hx hy a) (j0 (ag (x/y)) (j0 (ag (x%y)) rfl))
def rL{α:Type}{A B y:α}(h:B=y):(if false=true then A else B)=y:=h
def rz(a b c d:Int):Int:=bg (a*d) (c*b)
def xi(x y:Int):bg y x=-bg x y:=by unfold bg;split<;>split<;>(try split)<;>(try split)<;>omega
def y8{x y:Int}(h:x<y):bg x y=-1:=by unfold bg;rw[zna h]
def uF{x y:Int}(h:y<x):bg x y=1:=by unfold bg;rw[zka j1,zna h]
def A5(x y:Int):-1<=bg x y/\bg x y<=1:=by unfold bg;split<;>(try split)<;>omega
def A4{x y:Int}:bg x y=0↔x=y:=by unfold bg;split<;>(try split)<;>omega
def Ij(t x y:Int):bg (t+x) (t+y)=bg x y:=by
 unfold bg;by_cases h:x<y
 ·rw[zna h,zna j1]
 ·rw[zka h,zka j1]
  by_cases h2:x>y
  ·rw[zna h2,zna j1]
  ·rw[zka h2,zka j1]
def xT{a b c d:Int}(g:0<b)(f:0<d)(h:a/b<c/d):a*d<c*b:=by
 have i:=Int.mul_ediv_add_emod a b;have j:=Int.mul_ediv_add_emod c d;have r1:=lF (x:=a) g;have k:=lF (x:=c) f;generalize a/b=Q1 at *;generalize a%b=R1 at *;generalize c/d=Q2 at *;generalize c%d=R2 at *;have l:0<=(Q2-Q1-1)*(b*d):=z8a j1 (zpa (zBa g f))
 have m:0<(b-R1)*d:=zBa j1 f
 have n:0<=R2*b:=z8a k.1 j1
 subst i j;have e:(d*Q2+R2)*b-(b*Q1+R1)*d=(Q2-Q1-1)*(b*d)+(b-R1)*d+R2*b:=h7
 omega
def MI{a b c d:Int}(e:0<b)(f:0<d)(h:a/b≠c/d):bg (a/b) (c/d)=rz a b c d:=by
 unfold rz;rcases zmd h with h|h
 ·rw[y8 h,y8 (xT e f h)]
 ·rw[uF h,uF (xT f e h)]
def MH{a b c d:Int}(h:a/b=c/d):rz a b c d=rz (a%b) b (c%d) d:=by
 have e:=Int.mul_ediv_add_emod a b;have f:=Int.mul_ediv_add_emod c d;unfold rz;rw[<-Ij (b*d*(a/b)) (a%b*d) (c%d*b)];congr 1
 ·conv=>lhs;rw[<-e]
  grind
 ·rw[h]
  conv=>lhs;rw[<-f]
  grind
def FX(a b c d:Int):rz b a d c=-rz a b c d:=by unfold rz;rw[<-xi,zHa b c,zHa d a]
def iU{x:Int}(h:0<x):sg x=1:=by unfold sg;rw[zka j1,zna h]
def Ih{a b c d:Int}(e:0<b)(f:0<d)(g:0<=a)(hc:0<=c)(h:a=0\/c=0):sg a-sg c=rz a b c d:=by
 unfold rz;rcases h with rfl|rfl
 ·rw[z7b];by_cases h0:c=0
  ·subst h0;rw[z7b];rfl
  ·rw[y8 (zBa j1 e),iU (x:=c) j1];rfl
 ·rw[z7b];by_cases h0:a=0
  ·subst h0;rw[z7b];rfl
  ·rw[uF (zBa j1 f),iU (x:=a) j1];rfl
def CJ(z:Int)(m:Nat)(st:List D):Prop:=∃ s p d q e:Int,st=[I s,.st [ag p,ag d],.st [ag q,ag e]]/\(s=1\/s=-1)/\0<d/\0<e/\In p/\In d/\In q/\In e/\m=d.natAbs/\s*rz p d q e=z
def HI{s c:Int}(hs:s=1\/s=-1)(hc:-1<=c/\c<=1):abG .mul (I s) (I c)=some (I (s*c)):=
 ct (by
      have:c=-1\/c=0\/c=1:=j1
      rcases hs with rfl|rfl<;>rcases this with rfl|rfl|rfl<;>exact dY _)
def JR(x:Int):-1<=sg x/\sg x<=1:=by unfold sg;split<;>(try split)<;>omega
def ja:Option Rat->Option Rat->Int
 | some x,some y=>rz x.num x.den y.num y.den
 | none,none=>0
 | none,some _=>-1
 | some _,none=>1
def Ig{x y:Rat}(hx:InR x)(hy:InR y):CJ (ja (some x) (some y)) (x.den:Int).natAbs [I 1,ks x,ks y]:=
 ⟨1,x.num,x.den,y.num,y.den,rfl,.inl rfl,by have:=x.den_pos;omega,by have:=y.den_pos;omega,hx.1,hx.2,hy.1,hy.2,rfl,zZb _⟩
def FM(a:Int):D.beq (I a) (.int .i64 0)=decide (a=0):=bZ
def H9(n:Nat){a b:Option Rat}(v:OW a)(w:OW b):cA (n+1031) 73 [bh a,bh b]=some (I (ja a b)):=by
 rw[u73];delta S4 qG qB qT qN qZ iL iR Jn;refine aa (fX n v) (aa (fX n w) (aa bz (aa ac ?_)));cases a with
 | none=>
  cases b with
  | none=>exact j0 true (aa ac rfl)
  | some y=>exact j0 false (aa ac (rL (aa bz (aa ac rfl))))
 | some x=>
 cases b with
 | none=>exact j0 false (aa ac (rL (aa bz (aa ac (rL (aa bz (aa ac rfl)))))))
 | some y=>
 refine j0 false (aa ac (rL (aa bz (aa ac (rL (aa bz (aa ac (rL ?_))))))));have hx:=v.some;have hy:=w.some;refine zF (CJ (ja (some x) (some y))) _ _ (Ig hx hy) (λm s C=>?_);obtain⟨s,p,d,q,e,rfl,hs,c,he,ip,id,o,i,rfl,l⟩:=C;have j:In (p/d):=ni ip d;have k:In (q/e):=ni o e;have u:=Hx (x:=p) id c;have it:=Hx (x:=q) i he;have wr:=lF (x:=p) c;have wt:=lF (x:=q) he;by_cases hne:p/d=q/e
 ·have h0:bg (p/d) (q/e)=0:=A4.2 hne;have g:∀ {A:Option (Sum (List D) (Nat×List D))} {B y},B=some y->(if(!(D.beq (I (bg (p/d) (q/e))) (.int .i64 0)))=true then A else B)=some y:=λh=>by
   rw[FM,h0];exact h
  rw[MH hne] at l;by_cases hr:p%d=0\/q%e=0
  ·right;have f:=Ih c he wr.1 wt.1 hr;rw[<-f] at l;refine⟨(0,[I (ja (some x) (some y))]),?_,rfl⟩;refine j0 (ag p) (j0 (ag d) (aa (sN (n+1023) ip id c) (j0 (ag q) (j0 (ag e) (aa (sN (n+1023) o i he) (aa (To (n+1026) j k) (aa ac (g ?_))))))));refine j0 (ag d) (j0 (ag p) (j0 (ag d) (aa (Eo (n+1023) ip id c) (j0 (ag e) (j0 (ag q) (j0 (ag e) (aa (Eo (n+1023) o i he) ?_)))))));refine aa (rp (n+1027) u) (aa (rp (n+1027) it) (aa ac (aa (z:=true) ?_ (aa ac (gF ?_)))))
   ·rw[FM,FM];by_cases h1:p%d=0
    ·rw[zha (by rw[hC];exact h1)];rfl
    ·rw[zea (by rw[hC];exact h1),zha (by rw[hC];exact hr.resolve_left h1)];rfl
   ·have s1:=JR (p%d);have s2:=JR (q%e);have E:-1<=sg (p%d)-sg (q%e)/\sg (p%d)-sg (q%e)<=1:=by rw[f];exact A5 _ _
    refine aa (fd (by simp only[inR];omega)) (aa (HI hs E) ?_)
    rw[l]
  ·left;have r:p%d≠0:=λh=>hr (.inl h);have t:q%e≠0:=λh=>hr (.inr h);refine⟨(p%d).natAbs,[I (-s),.st [ag d,ag (p%d)],.st [ag e,ag (q%e)]],j1,?_,-s,d,p%d,e,q%e,rfl,j1,j1,j1,id,u,i,it,rfl,?_⟩
   ·refine j0 (ag p) (j0 (ag d) (aa (sN (n+1023) ip id c) (j0 (ag q) (j0 (ag e) (aa (sN (n+1023) o i he) (aa (To (n+1026) j k) (aa ac (g ?_))))))));refine j0 (ag d) (j0 (ag p) (j0 (ag d) (aa (Eo (n+1023) ip id c) (j0 (ag e) (j0 (ag q) (j0 (ag e) (aa (Eo (n+1023) o i he) ?_)))))));refine aa (rp (n+1027) u) (aa (rp (n+1027) it) (aa ac (aa (z:=false) ?_ (aa ac ?_))))
    ·rw[FM,FM,zea (by rw[hC];exact r),zea (by rw[hC];exact t)];rfl
    ·exact rL (aa (qE (a:=s) (by simp only[inR];omega)) rfl)
   ·rw[FX,Int.neg_mul_neg];exact l
 ·right;have h0:bg (p/d) (q/e)≠0:=λh=>hne (A4.1 h);rw[<-MI c he hne] at l;refine⟨(0,[I (ja (some x) (some y))]),?_,rfl⟩;refine j0 (ag p) (j0 (ag d) (aa (sN (n+1023) ip id c) (j0 (ag q) (j0 (ag e) (aa (sN (n+1023) o i he) (aa (To (n+1026) j k) (aa ac ?_)))))));rw[FM,zea h0];refine gF (aa (HI hs (A5 _ _)) ?_);rw[l]
def BV(z:Int):fB (-z)=(fB z).map (λx=>-x):=by unfold fB;rw[zEb];split<;>rfl
def HD(x y:Rat):AO (-x) (-y)=Gu (AO x y):=by
 unfold AO;rw[Rat.neg_num,Rat.neg_num,Rat.neg_den,Rat.neg_den];simp only[ol,Int.neg_mul,BV];generalize fB (x.num*_)=A;generalize fB (y.num*_)=B;generalize fB (_*(y.den:Int))=C;cases A with
 | none=>cases C<;>rfl
 | some a=>
 cases B with
 | none=>cases C<;>rfl
 | some b=>
 simp only[wK,zIb];rw[show -a+-b=-(a+b) by omega,BV]
 generalize fB (a+b)=S;cases S with
 | none=>cases C<;>rfl
 | some t=>
 cases C with
 | none=>rfl
 | some c=>
 simp only[oh,zIb,Gu];split
 ·rfl
 ·rw[zIb,Rat.neg_divInt]
def m9{u:V}(h:bd NB u):bd NB u.neg:=by simp only[bd,V.neg,NB] at *;omega
structure PairOk(x y:V)(q r:Nat->Int)(l m:List V):Prop where
 pa:PoseOk x q
 pb:PoseOk y r
 la:∀ v∈l,bd 4096 v
 lb:∀ v∈m,bd 4096 v
 na:0<l.length
 nb:0<m.length
 ka:l.length<=100
 kb:m.length<=100
 ta:l.length<=10
 tb:m.length<=10
def PR(u x y:V)(q r:Nat->Int)(l m:List V):Option Rat:=AO (-(eQ u.neg y r m)) (-(eQ u x q l))
def Xg(n:Nat){u x y:V}{q r:Nat->Int}{l m:List V}(h:PairOk x y q r l m)(hu:bd NB u):cA (n+1033) 434 [af u,fJ x q l,fJ y r m]=some (bh (PR u x y q r l m)):=by
 rw[YS];unfold LT;have c:=nj hu h.pa h.la h.na;have d:=nj (m9 hu) h.pb h.lb h.nb;refine aa (Qu (n+1031) hu j2) (aa (H7 (n+1) (m9 hu) h.pb h.lb h.nb h.kb) (aa (H7 (n+1) hu h.pa h.la h.na h.ka) ?_))
 refine aa (AX (n+1) (a:=some (eQ u.neg y r m)) (b:=some (eQ u x q l)) (bQ d) (bQ c)) (aa (H5 (n+1) (lK _ _)) ?_);unfold PR;rw[HD];rfl
def kE(k:Int)(v:V):Bool:=(List.range 3).all λt=>Kr k (aC v (0+t))
def GT{k:Int}{v:V}(h:kE k v=true):bd (k-1) v:=by simp[kE,Kr,zgc,aC] at h;simp only[bd];omega
def P9{v:V}(h:kE 2305843009213693952 v=true):bd NB v:=GT h
def MB(u:V)(a:Option Rat)(x y:V)(q r:Nat->Int)(l m:List V):Bool:=
 kE 2305843009213693952 u&&(!(decide (u=V.zero))&&(a.isSome&&(decide (ja (some (eQ u x q l)) a<=0)&&decide (ja (some (-(eQ u.neg y r m))) a ≥ 0))))
def MK{x d:Rat}:ja (some x) (some (-d))=-ja (some (-x)) (some d):=by simp only[ja,rz,Rat.neg_num,Rat.neg_den];rw[<-xi];unfold bg;rw[Int.neg_mul,Int.neg_mul];generalize x.num*(d.den:Int)=A;generalize d.num*(x.den:Int)=B;split<;>split<;>(try split)<;>(try split)<;>omega
def Ix(u:V)(a:Option Rat):D:=.st [af u,bh a]
def RB(u:V)(a:Option Rat):D.get (Ix u a) [1,0,0]=some (.bool (!a.isSome)):=by cases a<;>rfl
def HN(u:V):D.beq (af u) (D.st [(.int .i64 0),(.int .i64 0),(.int .i64 0)])=decide (u=V.zero):=mM u V.zero
def Xf(n:Nat){u x y:V}{a:Option Rat}(c:OW a){q r:Nat->Int}{l m:List V}(h:PairOk x y q r l m):cA (n+1034) 421 [Ix u a,dJ x q,db l,dJ y r,db m]=some (.bool (MB u a x y q r l m)):=by
 rw[YM];delta LL qG qB qC qT qZ iL iR Jn;refine j0 (af u) ?_;refine zG (r:=if kE 2305843009213693952 u then(1,[]) else(0,[.bool false])) (I3 (m:=3) (λi=>Kr 2305843009213693952 (aC u i)) (λi j=>?_) ?_ 3 0 rfl) ?_
 ·have f:D.idx (I (i:Int)) 3=some i:=aw j;refine aa ah (aa ac (aY (by show(i:Int)<3;omega) ?_))
  refine aa f (aa (Bo j) (aa ik (aa ac ?_)));generalize aC u i=x at *;by_cases h1:x ≥ 2305843009213693952
  ·have e:Kr 2305843009213693952 x=false:=by simp[Kr];omega
   rw[zha h1,e];exact j0 true (aa ac rfl)
  ·rw[zea h1];refine aa (z:=decide (x<=-2305843009213693952)) (rL (aa mJ ac)) (aa ac ?_);by_cases h2:x<=-2305843009213693952
   ·have e:Kr 2305843009213693952 x=false:=by simp[Kr];omega
    rw[zha h2,e];rfl
   ·have e:Kr 2305843009213693952 x=true:=by simp[Kr];omega
    rw[zea h2,e];exact rL (aa (a8 (a:=i) (b:=1) j1) rfl)
 ·exact aa ah (aa ac (be j2 rfl))
 unfold MB;by_cases hs:kE 2305843009213693952 u=true
 ·rw[hs,zna rfl,zka j2,zCb]
  have hu:=P9 hs;refine j0 (af u) (aa (z:=decide (u=V.zero)) (by rw[HN];exact ac) ?_)
  by_cases hz:u=V.zero
  ·rw[zha hz];exact j0 true (aa ac rfl)
  ·rw[zea hz,zTb,zCb];refine aa (z:=!a.isSome) (rL (aa (RB u a) ac)) (aa ac ?_);cases a with
   | none=>rfl
   | some d=>
    have p:=c.some;have k:=nj hu h.pa h.la h.na;have o:=nj (m9 hu) h.pb h.lb h.nb;refine rL (aa (FQ (n+1029) h.pa h.la h.ka) (j0 (af u) (aa (H7 (n+2) hu h.pa h.la h.na h.ka) (j0 (bh (some d)) (aa (H9 (n+2) (a:=some (eQ u x q l)) (bQ k) c) (aa mJ (aa ac ?_)))))));rw[show(some d:Option Rat).isSome=true from rfl,zCb];refine aa (z:=decide (ja (some (eQ u x q l)) (some d)<=0)&&decide (ja (some (-(eQ u.neg y r m))) (some d) ≥ 0)) ?_ rfl;by_cases h1:ja (some (eQ u x q l)) (some d)<=0
    ·rw[zha h1,zCb];refine gF (aa (FQ (n+1029) h.pb h.lb h.kb) (j0 (af u) (aa (Qu (n+1032) hu j2) (aa (H7 (n+2) (m9 hu) h.pb h.lb h.nb h.kb) (j0 (bh (some d)) (aa (H5 (n+2) c) (aa (H9 (n+2) (a:=some (eQ u.neg y r m)) (bQ o) (E1 c)) ?_)))))))
     refine aa mJ ?_;rw[show Gu (some d)=some (-d) from rfl,MK];refine Eq.trans ac (zma some (decide_eq_decide.2 ?_));omega
    ·rw[zea h1];rfl
 ·have g:kE 2305843009213693952 u=false:=by cases hh:kE 2305843009213693952 u;rfl;exact z3a hh hs
  rw[g];rfl
def dT(u v:WV):WV:=λi=>Cu (u i) (v i)
def rW(u v:WV):w9 (dT u v):=λi=>Fn _ _
def O9(n:Nat){u v:WV}(hu:w9 u)(g:w9 v):cA (n+1033) 440 [bc u,bc v]=some (bc (dT u v)):=by
 rw[YU];delta LV qB qC qJ qZ iL iR Jn;refine xS (l0:=[bh (u 0),bh (u 1),bh (u 2)]) (λi=>bh (dT u v i)) rfl (λi c l hl f=>?_) (λl=>aa ah (aa ac (be j2 rfl))) rfl
 have d:D.get (.st l) [i]=some (bh (u i)):=by
  have e:=f i (zia _);have:i=0\/i=1\/i=2:=j1
  rcases this with rfl|rfl|rfl<;>simp[D.get,D.fld,e]
 exact aa ah (aa ac (aY (by show(i:Int)<3;omega) (aa (aw c) (aa d (aa (aw c) (aa (zo c v) (aa (Oa n (hu i) (g i)) (aa (aw c) (aa (so j1) (aa (a8 (a:=i) (b:=1) j1) rfl))))))))))
def wL(v:WV):Bool:=!((v 0).isSome&&((v 1).isSome&&(v 2).isSome))
def RA(v:WV):D.get (bc v) [0,0,0]=some (.bool (!(v 0).isSome))/\D.get (bc v) [1,0,0]=some (.bool (!(v 1).isSome))/\D.get (bc v) [2,0,0]=some (.bool (!(v 2).isSome)):=by
 have h:∀ a:Option Rat,D.get (bh a) [0,0]=some (.bool (!a.isSome)):=λa=>by cases a<;>rfl
 exact⟨h _,h _,h _⟩
def Xl(n:Nat)(v:WV):cA (n+1) 71 [bc v]=some (.bool (wL v)):=by
 rw[u71];delta SY qG qT;obtain⟨h1,h2,h3⟩:=RA v;unfold wL;refine aa h1 (aa ac ?_);cases (v 0).isSome
 ·exact j0 true (aa ac (j0 true rfl))
 refine aa (z:=!(v 1).isSome) (rL (aa h2 ac)) (aa ac ?_);cases (v 1).isSome
 ·exact j0 true rfl
 exact aa (z:=!(v 2).isSome) (rL (aa h3 ac)) rfl
def ay(q:Nat->Int)(v:V):V:=⟨cC q v 0,cC q v 1,cC q v 2⟩
def wu{q:Nat->Int}(h:CK q){v:V}(d:bd 1099511627776 v)(i:Nat):inR (aC (ay q v) i):=by
 obtain⟨v1,v2,v3⟩:=mK (k:=1099511627776) d;have key:∀ i,inR (cC q v i):=λi=>by have a:=rY h (3*i) v1;have b:=rY h (3*i+1) v2;have c:=rY h (3*i+2) v3;simp only[inR,cC];omega
 exact kQ (key 0) (key 1) (key 2) i
def pY(q:Nat->Int)(p:WV)(f:(V×Int)×List Nat):Int:=ja (some ((ap q*f.1.2:Int):Rat)) (rO (lE (ay q f.1.1)) p)
def zy(q:Nat->Int)(p:WV)(F:FL):Nat->Int
 | 0=>1
 | k+1=>min (zy q p F k) ((F[k]?).elim 0 (pY q p))
def eH(x:V)(q:Nat->Int)(F:FL)(v:WV):Int:=if wL v then -1 else zy q (dT v (lE x)) F F.length
def nS{q:Nat->Int}{p:WV}{F:FL}{k:Nat}(h:k<F.length):zy q p F (k+1)=min (zy q p F k) (pY q p F[k]):=by show min _ ((F[k]?).elim 0 _)=_;rw[zca h];rfl
def yP(F:FL):Prop:=F.length<=3000000/\∀ f∈F,bd 549755813888 f.1.1/\(f.1.2).natAbs<=281474976710656
def Ff{x:V}{q:Nat->Int}(h:PoseOk x q){d:Int}(a:d.natAbs<=281474976710656):inR (ap q*d):=by
 have s:=cq h.hq h.h0;have:(ap q*d).natAbs<=16384*281474976710656:=by rw[zNa];exact z4a j1 a
 simp only[inR];omega
def FJ{v:V}(h:bd 549755813888 v):bd 1099511627776 v:=by simp only[bd] at *;omega
def My(n:Nat){x:V}{q:Nat->Int}(h:PoseOk x q){l:List V}{F:FL}(hF:yP F)(h18:∀ m,cA (m+8) 18 [db l]=some (.sl (ba F))){v:WV}(e:w9 v):cA (n+1036) 423 [dJ x q,db l,bc v]=some (I (eH x q F v)):=by
 rw[YN];delta LN qG qB qC qT qS qX qZ iL iR Jn eH;refine aa (Xl (n+1034) v) (aa ac ?_);cases wL v with
 | true=>rfl
 | false=>
 have hx:∀ i,inR (aC x i):=kQ (by have:=h.hx;simp only[bd] at this;simp only[inR];omega) (by have:=h.hx;simp only[bd] at this;simp only[inR];omega) (by have:=h.hx;simp only[bd] at this;simp only[inR];omega)
 have hp:=rW v (lE x);refine rL (j0 (af x) (aa (En (n+2) hx) (aa (O9 (n+2) e (Ax hx)) (j0 (tM q) (aa (Rg (n+1032) h.hq) (aa (h18 (n+1027)) (j0 (ba F) ?_)))))));refine c6 (λi s=>s=[I (zy q (dT v (lE x)) F i),I (i:Int)]) F.length 0 (zAa _) rfl (λi c s d=>?_) (λs d=>?_)
 ·subst d;left;obtain⟨f1,f2⟩:=hF.2 F[i] (zFa c);have hl:=hF.1;refine⟨_,?_,rfl⟩;have s1:=Ff h f2;refine aa ah (aa ac (aY (by rw[bF];omega) ?_))
  refine j0 (ba F) (aa (z:=i) (by rw[bF];exact aw c) (aa (gM c) ?_))
  refine j0 (I F[i].1.2) (aa (ct s1) (aa (Of (n+3) s1) (j0 (tM q) (j0 (af F[i].1.1) (aa (z:=af (ay q F[i].1.1)) (Er (n+1032) h.hq (FJ f1)) ?_)))));refine aa (Pf (n+1) (wu h.hq (FJ f1)) hp) (aa (H9 (n+4) (a:=some ((ap q*F[i].1.2:Int):Rat)) (bQ (uq (bB s1))) (zx _ _)) ?_);rw[nS c];exact aa RR (aa (a8 (a:=i) (b:=1) j1) rfl)
 ·subst d;exact⟨_,aa ah (aa ac (be (by rw[bF];omega) rfl)),rfl⟩
def Ef{A B:Int}{v:V}(h:bd A v)(a:A<=B):bd B v:=by simp only[bd] at *;omega
def Ge{l:List V}(hl:∀ x∈l,bd 4096 x){m:V}{d:Int}(h:IsF (pt l) l.length m d):bd 549755813888 m/\d.natAbs<=281474976710656:=by
 obtain⟨i,j,k,h1,h2,h3,p,c,f⟩:=h.ex;have a:=hl _ (cW (show i<l.length by omega))
 have n:=hl _ (cW (show j<l.length by omega))
 have hk:=hl _ (cW h3);have w1:bd 8192 (wy (pt l) i j):=kq n a;have o:bd 8192 (wy (pt l) i k):=kq hk a;have hp:=fp (ju w1 o);have hm:bd 134217728 m:=by
  rcases c with rfl|rfl
  ·exact hp
  ·exact rl hp
 refine⟨Ef hm j2,?_⟩
 have b:=HK hm a;rw[f];show(V.dot m (pt l i)).natAbs<=_;have e:(3:Int)*(134217728*4096)=1649267441664:=rfl;rw[e] at b;have g:-1649267441664<=V.dot m (pt l i)/\V.dot m (pt l i)<=1649267441664:=b;omega
def R8(b s:Bool)(f:Nat->Int):D:=.st [.bool b,.bool s,cR 16 f]
structure RawR where
 b:Bool
 s:Bool
 f:Nat->Int
 c:Bool
 t:Bool
 g:Nat->Int
def RawR.enc(r:RawR):D:=.st [R8 r.b r.s r.f,R8 r.c r.t r.g]
def RawR.ok(r:RawR):Prop:=(∀ i,i<16->0<=r.f i/\r.f i<4294967296)/\∀ i,i<16->0<=r.g i/\r.g i<4294967296
def RY{b c:Bool}{X:Option Bool}(h:X=some c):(if b=true then some true else X)=some (b||c):=by cases b<;>simp[h]
def AZ(k:Nat)(f:Nat)(xs:List D):Option D:=if f=415 then P6 415 xs else cA k f xs
def Ic(k:Nat):iM Tryz.prog (AZ k):=by
 intro f a b xs y hs hy hw;unfold AZ at hy;split at hy
 ·rename_i hf;exact NA f a b xs y hs (by rw[hf];exact hy) hw
 ·exact AY vp k f a b xs y hs hy hw
def OL{d:D}(h:wt K1 d):∃ v:V,d=af v:=by
 obtain⟨l,rfl,hl,h⟩:=h
 match l,hl with
 | [a,b,c],_=>
  obtain⟨x,rfl⟩:=h a j3
  obtain⟨y,rfl⟩:=h b j3
  obtain⟨z,rfl⟩:=h c j3
  exact⟨⟨x,y,z⟩,rfl⟩
def Sz(a b:Nat)(x:Rat):Prop:=x.num.natAbs<=2^a/\x.den<=2^b
def Sz.up{a b c d:Nat}{x:Rat}(h:Sz a b x)(h1:a<=c)(h2:b<=d):Sz c d x:=
 ⟨zIa h.1 (zGa j2 h1),zIa h.2 (zGa j2 h2)⟩
theorem Sz.neg{a b:Nat}{x:Rat}(h:Sz a b x):Sz a b (-x):=⟨by rw[Rat.neg_num,zEb];exact h.1,h.2⟩
def dM{a b:Nat}{x d:Int}(hx:x.natAbs<=2^a)(c:d.natAbs<=2^b)(h0:d≠0):Sz a b (Rat.divInt x d):=by obtain⟨h1,h2⟩:=nG x h0;exact⟨zIa h1 hx,zIa h2 c⟩
theorem Sz.add{a b c d k:Nat}{x y:Rat}(hx:Sz a b x)(hy:Sz c d y)(h1:a+d<k)(h2:c+b<k):Sz k (b+d) (x+y):=by
 have e:x+y=Rat.divInt (x.num*(y.den:Int)+y.num*(x.den:Int)) ((x.den:Int)*y.den):=by
  conv=>lhs;rw[<-zyb x,<-zyb y]
  rw[zwc _ _ (da x) (da y)]
 rw[e];refine dM ?_ ?_ (z5b (da x) (da y))
 ·have m1:=br (k:=k-1) hx.1 hy.2 j1
  have m2:=br (k:=k-1) hy.1 hx.2 j1
  have:=znc (x.num*(y.den:Int)) (y.num*(x.den:Int));rw[zNa,zNa,zva,zva] at this;have f:2^k=2^(k-1)+2^(k-1):=by rw[<-Nat.two_mul,<-Nat.pow_succ'];congr 1;omega
  omega
 ·rw[<-z0a,zva];exact br hx.2 hy.2 (zia _)
def Sz.mul{a b c d:Nat}{x y:Rat}(hx:Sz a b x)(hy:Sz c d y):Sz (a+c) (b+d) (x*y):=by
 have e:x*y=Rat.divInt (x.num*y.num) ((x.den:Int)*y.den):=by
  conv=>lhs;rw[<-zyb x,<-zyb y]
  rw[zMb]
 rw[e];refine dM ?_ ?_ (z5b (da x) (da y))
 ·rw[zNa];exact br hx.1 hy.1 (zia _)
 ·rw[<-z0a,zva];exact br hx.2 hy.2 (zia _)
def EU{x k:Nat}(h:x<=2^k)(hk:k<=511):x<dW:=by
 have:=aO.1 (fa (x:=(x:Int)) hk (by rw[zva];exact h))
 rwa [zva] at this
theorem Sz.InR{a b:Nat}{x:Rat}(h:Sz a b x)(c:a<=511)(d:b<=511):InR x:=⟨fa c h.1,fa d (by rw[zva];exact h.2)⟩
theorem Sz.addW{a b c d:Nat}{x y:Rat}(hx:Sz a b x)(hy:Sz c d y)(h1:a+d<511)(h2:c+b<511)(h3:b+d<=511):addW (some x) (some y)=some (x+y):=by
 refine AP ⟨?_,?_⟩
 ·obtain⟨k,hk⟩:∃ k,k=510:=⟨_,rfl⟩;have m1:=br (k:=k) hx.1 hy.2 j1
  have m2:=br (k:=k) hy.1 hx.2 j1
  refine EU (k:=k+1) ?_ j1
  rw[zfc];omega
 ·exact EU (br hx.2 hy.2 (zia _)) h3
theorem Sz.mulW{a b c d:Nat}{x y:Rat}(hx:Sz a b x)(hy:Sz c d y)(h1:a+c<=511)(h2:b+d<=511):mulW (some x) (some y)=some (x*y):=
 Jg ⟨EU (br hx.1 hy.1 (zia _)) h1,EU (br hx.2 hy.2 (zia _)) h2⟩
def WH{k:Nat}{x:Int}(h:x.natAbs<=2^k):Sz k 0 (x:Rat):=⟨by simpa using h,j3⟩
def tY{u v:V}(hu:bd NB u)(a:bd PB v):(V.dot u v).natAbs<=2^125:=by obtain⟨h1,h2,h3⟩:=xo hu a;have b:=znc (u.x*v.x) (u.y*v.y);have c:=znc (u.x*v.x+u.y*v.y) (u.z*v.z);unfold V.dot;omega
theorem E0{u:V}{L:List V}(hu:bd NB u)(hL:∀ v∈L,bd PB v):∀ k,k<L.length->(AJ u L k).natAbs<=2^125
 | 0,h=>tY hu (hL _ (gA h))
 | k+1,h=>by
  unfold AJ;split
  ·exact tY hu (hL _ (gA h))
  ·exact E0 hu hL k j1
def fP{x:V}{q:Nat->Int}(h:PoseOk x q):(ap q).natAbs<=2^14/\ap q≠0:=by have:=cq h.hq h.h0;exact⟨by rw[show(2:Nat)^14=16384 from rfl];omega,j1⟩
def lj{u x:V}{q:Nat->Int}(hu:bd NB u)(h:PoseOk x q){l:List V}(hl:∀ v∈l,bd 4096 v)(h0:0<l.length):Sz 125 14 (eQ u x q l):=
 dM (E0 hu (zY h hl) _ (by simp;omega)) (fP h).1 (fP h).2
def jg(u x y:V)(q r:Nat->Int)(l m:List V):Rat:=-(eQ u.neg y r m)+-(eQ u x q l)
def I6{u x y:V}{q r:Nat->Int}{l m:List V}(h:PairOk x y q r l m)(hu:bd NB u):PR u x y q r l m=some (jg u x y q r l m):=
 (lj (m9 hu) h.pb h.lb h.nb).neg.addW (lj hu h.pa h.la h.na).neg j2 j2 j2
def oZ{u x y:V}{q r:Nat->Int}{l m:List V}(h:PairOk x y q r l m)(hu:bd NB u):Sz 140 28 (jg u x y q r l m):=
 (lj (m9 hu) h.pb h.lb h.nb).neg.add (lj hu h.pa h.la h.na).neg j2 j2
def AK(u x y:V)(q r:Nat->Int)(l m:List V):Rat:=jg u x y q r l m*jg u x y q r l m*Rat.divInt 1 (V.dot u u)
def D9{u:V}(hu:bd NB u):bd PB u:=by simp only[bd,NB,PB] at *;omega
def zg{u:V}(h:u≠V.zero):0<V.dot u u:=by
 have key:∀ a:Int,0<=a*a/\(a≠0->0<a*a):=λa=>by
  rcases zxb a 0 with k|k|k
  ·have:=zPb k k;omega
  ·subst k;simp
  ·have:=zBa k k;omega
 obtain⟨x,y,z⟩:=u;have hx:=key x;have hy:=key y;have b:=key z;show 0<x*x+y*y+z*z;by_cases h1:x=0
 ·by_cases h2:y=0
  ·by_cases h3:z=0
   ·subst h1 h2 h3;exact z3a rfl h
   ·have:=b.2 h3;omega
  ·have:=hy.2 h2;omega
 ·have:=hx.2 h1;omega
def div_one(x:Int):Rat.divInt x 1=(x:Rat):=by
 have h:=zyb (x:Rat)
 rwa [Rat.num_intCast,Rat.den_intCast] at h
def Is{a:Option Rat}{x:Int}(h:x≠0):uN a (some (x:Rat))=mulW a (some (Rat.divInt 1 x)):=by simp only[uN,Option.elim];rw[Rat.num_intCast,Rat.den_intCast,qh h];rfl
def Y5{u x y:V}{q r:Nat->Int}{l m:List V}(h:PairOk x y q r l m)(hu:bd NB u)(h0:u≠V.zero) :
  mulW (some (jg u x y q r l m)) (some (jg u x y q r l m))=some (jg u x y q r l m*jg u x y q r l m)/\uN (some (jg u x y q r l m*jg u x y q r l m)) (some (V.dot u u:Rat))=some (AK u x y q r l m):=by
 have s:=oZ h hu;have d0:=zg h0;refine⟨s.mulW s j2 j2,?_⟩
 rw[Is j1]
 have a:Sz 0 125 (Rat.divInt 1 (V.dot u u)):=dM j2 (tY hu (D9 hu)) j1
 exact(s.mul s).mulW a j2 j2
def Ke{u x y:V}{q r:Nat->Int}{l m:List V}(h:PairOk x y q r l m)(hu:bd NB u)(h0:u≠V.zero):Sz 280 181 (AK u x y q r l m):=
 ((oZ h hu).mul (oZ h hu)).mul (dM (a:=0) (b:=125) j2 (tY hu (D9 hu)) (by have:=zg h0;omega))
def MM(u x y:V)(q r:Nat->Int)(l m:List V):Rat:=eQ u x q l+jg u x y q r l m*Rat.divInt 1 2
def yR:Sz 0 1 (Rat.divInt 1 2):=dM j2 j2 j2
def Xp{u x y:V}{q r:Nat->Int}{l m:List V}(h:PairOk x y q r l m)(hu:bd NB u) :
  addW (some (eQ u x q l)) (uN (some (jg u x y q r l m)) (some ((2:Int):Rat)))=some (MM u x y q r l m):=by
 have e:uN (some (jg u x y q r l m)) (some ((2:Int):Rat))=some (jg u x y q r l m*Rat.divInt 1 2):=by
  rw[Is j2]
  exact(oZ h hu).mulW yR j2 j2
 rw[e];exact(lj hu h.pa h.la h.na).addW ((oZ h hu).mul yR) j2 j2 j2
def Po{u x y:V}{q r:Nat->Int}{l m:List V}(h:PairOk x y q r l m)(hu:bd NB u):Sz 155 43 (MM u x y q r l m):=
 (lj hu h.pa h.la h.na).add ((oZ h hu).mul yR) j2 j2
def IJ:Rat.divInt 1 2+Rat.divInt 1 2=1:=by decide +kernel
theorem j5(x y:Rat):ja (some x) (some y)=if x<y then -1 else if y<x then 1 else 0:=by show bg (x.num*(y.den:Int)) (y.num*(x.den:Int))=_;unfold bg;simp only[gt_iff_lt,<-Rat.lt_iff]
def Pi(x y:Rat):decide (ja (some x) (some y)>0)=decide (y<x):=by
 rw[j5];by_cases h1:x<y
 ·have:¬ y<x:=Rat.not_lt.2 (Rat.le_of_lt h1);simp[h1,this]
 ·by_cases h2:y<x<;>simp[h1,h2]
def Oh(x y:Rat):decide (ja (some x) (some y)<=0)=!decide (y<x):=by rw[<-Pi,Bool.eq_iff_iff];simp
def P8(x:Rat):decide (Cn (some x)<0)=decide (x<0):=by
 have h:x<0↔x.num<0:=by rw[Rat.lt_iff];simp
 rw[Bool.eq_iff_iff,zfa,zfa,h];exact Fg
def CD{q:Nat->Int}(h:CK q){k:Nat}{v:V}(d:bd (k:Int) v):bd ((49152*k:Nat):Int) (ay q v):=by
 have key:∀ (i:Nat) (x:Int),(-(k:Int)<=x/\x<=k)->(dq q i*x).natAbs<=16384*k:=λi x hx=>by have:=jh h i;rw[zNa];exact z4a j1 j1
 have:∀ i,(cC q v i).natAbs<=49152*k:=λi=>by have a:=key (3*i) _ d.1;have b:=key (3*i+1) _ d.2.1;have c:=key (3*i+2) _ d.2.2;unfold cC;omega
 have t0:=this 0;have t1:=this 1;have t2:=this 2;simp only[bd,ay];omega
def zP{a b:Int}(c:a.natAbs<=402653184)(d:b.natAbs<=402653184):(a*b).natAbs<=162129586585337856:=by rw[zNa];exact z4a c d
def xl{u v:V}(hu:bd 402653184 u)(d:bd 402653184 v):bd NB (V.cross u v):=by obtain⟨a,b,c⟩:=mK (k:=402653184) hu;obtain⟨v1,v2,v3⟩:=mK (k:=402653184) d;have a1:=zP b v3;have a2:=zP c v2;have a3:=zP c v1;have a4:=zP a v3;have a5:=zP a v2;have e:=zP b v1;unfold bd NB;simp only[V.cross];omega
def Xb(n:Nat){x y:Int}(hx:In x)(hy:In y)(h:In (x-y)):cA (n+5) 203 [ag x,ag y]=some (ag (x-y)):=by
 rw[Sw];unfold Ht;refine aa (Pe (n+1) (a:=some y) (aV hy)) (aa (z:=ag (x-y)) ?_ rfl);have:=Ia n (x:=x) (y:=-y) hx (aO.2 (by rw[zEb];exact aO.1 hy)) (by rw[<-zld];exact h)
 rwa [<-zld] at this
def Xj(n:Nat){u v:V}(hu:bd 402653184 u)(w:bd 402653184 v):cA (n+7) 450 [af u,af v]=some (gG (V.cross u v)):=by
 obtain⟨m,o,p⟩:=mK (k:=402653184) hu;obtain⟨v1,v2,v3⟩:=mK (k:=402653184) w;have e:∀ {x:Int},x.natAbs<=402653184->inR x:=λ{x} h=>by simp only[inR];omega
 have l:∀ {a b:Int},a.natAbs<=402653184->b.natAbs<=402653184->In (a*b):=λf g=>by have:=zP f g;exact bB (by simp only[inR];omega)
 have is:∀ {a b c d:Int},a.natAbs<=402653184->b.natAbs<=402653184->c.natAbs<=402653184->d.natAbs<=402653184->In (a*b-c*d):=λf g hc j=>by have:=zP f g;have:=zP hc j;exact bB (by simp only[inR];omega)
 have i:∀ {a b c d:Int},a.natAbs<=402653184->b.natAbs<=402653184->c.natAbs<=402653184->d.natAbs<=402653184->cA (n+5) 61 [ag a,ag b]=some (ag (a*b))/\cA (n+5) 61 [ag c,ag d]=some (ag (c*d))/\cA (n+5) 203 [ag (a*b),ag (c*d)]=some (ag (a*b-c*d)):=λf g hc j=> ⟨Ik (n+2) (bB (e f)) (bB (e g)) (l f g),Ik (n+2) (bB (e hc)) (bB (e j)) (l hc j),Xb n (l f g) (l hc j) (is f g hc j)⟩
 rw[Y1];unfold L6;refine aa (Mx (n+3) (e m) (e o) (e p)) (aa (Mx (n+3) (e v1) (e v2) (e v3)) (aa (z:=gG (V.cross u v)) ?_ rfl));rw[Y3];delta L8 qB qC qJ qZ iL iR Jn;obtain⟨Z,hZ⟩:∃ Z,(D.st [(D.bool false),(D.bool false),(aq aP)])=Z:=⟨_,rfl⟩;rw[hZ];obtain⟨a1,a2,a3⟩:=i o v3 p v2;obtain⟨q,s,t⟩:=i p v1 m v3;obtain⟨d1,d2,d3⟩:=i m v2 o v1;refine aS (s':=[I 1,.st [ag (V.cross u v).x,Z,Z]]) ?_ (aS (s':=[I 2,.st [ag (V.cross u v).x,ag (V.cross u v).y,Z]]) ?_ (aS (s':=[I 3,gG (V.cross u v)]) ?_ (dS (r:=(0,[gG (V.cross u v)])) ?_ rfl)))
 ·refine j0 (.bool true) (j0 true (gF (j0 (I 1) (j0 (I 1) (j0 (I 2) (j0 (I 2) ?_))))));refine j0 1 (j0 (ag u.y) (j0 2 (j0 (ag v.z) (aa a1 ?_))));refine j0 2 (j0 (ag u.z) (j0 1 (j0 (ag v.y) (aa a2 (aa a3 ?_)))));exact j0 0 (j0 (.st [ag (V.cross u v).x,Z,Z]) (j0 (I 1) rfl))
 ·refine j0 (.bool true) (j0 true (gF (j0 (I 2) (j0 (I 2) (j0 (I 3) (j0 (I 0) ?_))))));refine j0 2 (j0 (ag u.z) (j0 0 (j0 (ag v.x) (aa q ?_))));refine j0 0 (j0 (ag u.x) (j0 2 (j0 (ag v.z) (aa s (aa t ?_)))));exact j0 1 (j0 (.st [ag (V.cross u v).x,ag (V.cross u v).y,Z]) (j0 (I 2) rfl))
 ·refine j0 (.bool true) (j0 true (gF (j0 (I 3) (j0 (I 0) (j0 (I 4) (j0 (I 1) ?_))))));refine j0 0 (j0 (ag u.x) (j0 1 (j0 (ag v.y) (aa d1 ?_))));refine j0 1 (j0 (ag u.y) (j0 0 (j0 (ag v.x) (aa d2 (aa d3 ?_)))));exact j0 2 (j0 (gG (V.cross u v)) (j0 (I 3) rfl))
 ·exact j0 (.bool false) (j0 false rfl)
def Xh(n:Nat){v:V}(h1:inR v.x)(h2:inR v.y)(h3:inR v.z):cA (n+3) 448 [af v]=some (gG v):=by rw[YZ];delta L4 qG;exact aa (oV v) (aa (y6 n h1) (aa (oW v) (aa (y6 n h2) (aa (oX v) (aa (y6 n h3) rfl)))))
def Ro(n:Nat){v:V}(u:bd NB v):cA (n+1030) 447 [gG v]=some (.tup [af (aF v),I (if v=V.zero then 31 else 0)]):=by
 obtain⟨h1,h2,h3⟩:=Dd u;have i0:In 0:=bB (dY 0);have g:In v.x:=bB h1;have o:In v.y:=bB h2;have p:In v.z:=bB h3;have G:∀ {x y:Int},In x->In (Nat.gcd x.natAbs y.natAbs:Nat)\/x=0:=λ{x y} hx=>by
  by_cases h:x=0
  ·exact .inr h
  ·left;rw[aO,zva];exact zZa (Nat.le_of_dvd j1 (ztb _ _)) (aO.1 hx)
 have c:=FP n i0 g;rw[show(Nat.gcd (0:Int).natAbs v.x.natAbs)=v.x.natAbs by simp] at c
 have m:In (v.x.natAbs:Nat):=by rw[aO,zva];exact aO.1 g
 have d:=FP n m o;rw[show(Nat.gcd ((v.x.natAbs:Nat):Int).natAbs v.y.natAbs)=Nat.gcd v.x.natAbs v.y.natAbs by simp] at d
 have i2:In (Nat.gcd v.x.natAbs v.y.natAbs:Nat):=by
  rcases G g (y:=v.y) with h|h
  ·exact h
  ·rw[h,aO,zva];simpa using aO.1 o
 have e:=FP n i2 p;rw[show(Nat.gcd ((Nat.gcd v.x.natAbs v.y.natAbs:Nat):Int).natAbs v.z.natAbs)=aW v by simp[aW]] at e
 have i3:In (aW v:Nat):=by
  by_cases h:Nat.gcd v.x.natAbs v.y.natAbs=0
  ·unfold aW;rw[h,aO,zva];simpa using aO.1 p
  ·rw[aO,zva];exact zZa (Nat.le_of_dvd j1 (ztb _ _)) (by simpa using aO.1 i2)
 rw[YY];delta LZ qG qB qC qT qN qZ iL iR Jn;refine aa (y6 (n+1027) (dY 0)) ?_;refine aS (s':=[I 1,ag (v.x.natAbs:Nat)]) (aa ah (aa ac (aY j2 (aa IU (j0 (ag v.x) (aa c (aa (az Ov) rfl))))))) ?_
 refine aS (s':=[I 2,ag (Nat.gcd v.x.natAbs v.y.natAbs:Nat)]) (aa ah (aa ac (aY j2 (aa IV (j0 (ag v.y) (aa d (aa (az AI) rfl))))))) ?_
 refine aS (s':=[I 3,ag (aW v:Nat)]) (aa ah (aa ac (aY j2 (aa IW (j0 (ag v.z) (aa e (aa (az Ow) rfl))))))) ?_
 refine dS (r:=(0,[ag (aW v:Nat)])) (aa ah (aa ac (be j2 rfl))) ?_
 refine j0 (.bool false) (aa ac (rL (aa (rp (n+1026) i3) ?_)));by_cases hz:aW v=0
 ·have f:v=V.zero:=by
   by_cases h:v=V.zero
   ·exact h
   ·have:=fh h;omega
  rw[hz,zna f,f];exact j0 true (gF rfl)
 ·rw[zka (λh=>hz (by rw[h];rfl)),iU (show(0:Int)<aW v by omega)]
  refine j0 false (rL ?_);have a:(aW v:Int)≠0:=j1
  have H:=CV (n+1023) g i3 a (xq v);have z2:=CV (n+1023) o i3 a (xr v);have z3:=CV (n+1023) p i3 a (xt v);obtain⟨w,C,E⟩:=fp u;have sm:∀ {x:Int},-NB<=x/\x<=NB->cA (n+1029) 202 [ag x]=some (.tup [I x,.bool true]):=λ{x} h=>by
   have t:inR x:=by simp only[NB] at h;simp only[inR];omega
   rcases yY (n+1025) (bB t) with⟨_,h⟩|⟨h,_⟩
   ·exact h
   ·exact z3a t h
  have b:∀ {x:Int} {α:Type} {A B y:Option α},-NB<=x/\x<=NB->B=y->((if(false:Bool)=true then some true else (abG .geq (I x) (D.int .i64 2305843009213693952)).bind λq=>D.truth q).bind λi=>(D.truth (D.bool i)).bind λj=>Option.bind (if j=true then some true else (abG .leq (I x) (D.int .i64 (-2305843009213693952))).bind λs=>D.truth s) λk=>(D.truth (D.bool k)).bind λl=>if l=true then A else B)=y:=λ{x α A B y} h F=>by
   simp only[NB] at h;subst F;rw[zka j2,show abG .geq (I x) (D.int .i64 2305843009213693952)=some (.bool (decide (x ≥ 2305843009213693952))) from ik,show abG .leq (I x) (D.int .i64 (-2305843009213693952))=some (.bool (decide (x<=-2305843009213693952))) from mJ,zea j1,zea j1]
   rfl
  refine aS (s':=[I 1,af V.zero,af ⟨v.x/(aW v:Nat),0,0⟩]) ?_ (aS (s':=[I 2,af V.zero,af ⟨v.x/(aW v:Nat),v.y/(aW v:Nat),0⟩]) ?_ (aS (s':=[I 3,af V.zero,af (aF v)]) ?_ (dS (r:=(1,[af V.zero,af (aF v)])) (aa ah (aa ac (be j2 rfl))) rfl)))
  ·refine aa ah (aa ac (aY j2 (aa IU (j0 (ag v.x) (aa H (aa (sm w) (j0 (I (v.x/(aW v:Nat))) (j0 (.bool true) (aa bz (aa ac (b w ?_)))))))))))
   exact aa IU (j0 (af ⟨v.x/(aW v:Nat),0,0⟩) (aa (az Ov) rfl))
  ·refine aa ah (aa ac (aY j2 (aa IV (j0 (ag v.y) (aa z2 (aa (sm C) (j0 (I (v.y/(aW v:Nat))) (j0 (.bool true) (aa bz (aa ac (b C ?_)))))))))))
   exact aa IV (j0 (af ⟨v.x/(aW v:Nat),v.y/(aW v:Nat),0⟩) (aa (az AI) rfl))
  ·refine aa ah (aa ac (aY j2 (aa IW (j0 (ag v.z) (aa z3 (aa (sm E) (j0 (I (v.z/(aW v:Nat))) (j0 (.bool true) (aa bz (aa ac (b E ?_)))))))))))
   exact aa IW (j0 (af (aF v)) (aa (az Ow) rfl))
def Qx(call:Nat->List D->Option D)(a0:D)(k:Int)(far c r:Nat):Option D:=
 (call 118 [.sl [a0]]).bind λr1=>(abU .not r1).bind λt=>(D.truth t).bind λm=>
 if m then((call 119 []).bind λo=>some o) else((call 129 [a0]).bind λp=>(D.truth (D.bool (D.beq p (D.int .i64 0)))).bind λn=>
 if n then(some a0) else(((call 217 [a0]).bind λq=>(abG .add q (D.int .i64 k)).bind λu=>(abG .gtr u (D.int .i64 512)).bind λv=>D.truth v).bind λd=>(D.truth (D.bool d)).bind λe=>
 if e then((call 119 []).bind λg=>some g) else((D.get a0 [2]).bind λi=>(D.stl (aq aP)).bind λa=>(D.stl i).bind λf=>
 (call 197 [D.st (List.take far a++(List.take c (List.drop 0 f)++List.drop 16 a)),D.int .i64 (r:Int)]).bind λb=>(D.tupAt b 0).bind λj=>(D.tupAt b 1).bind λs=>(D.get a0 [1]).bind λl=>(call 116 [l,j]).bind λh=>some h)))
def SB(n:Nat)(a0:D):cA (n+1) 455 [a0,D.int .i64 20]=Qx (cA n) a0 20 0 16 20:=u3
def SC(n:Nat)(a0:D):cA (n+1) 455 [a0,D.int .i64 60]=Qx (cA n) a0 60 1 15 28:=u3
def SD(n:Nat)(a0:D):cA (n+1) 455 [a0,D.int .i64 120]=Qx (cA n) a0 120 3 13 24:=u3
def SE(n:Nat)(a0:D):cA (n+1) 455 [a0,D.int .i64 240]=Qx (cA n) a0 240 7 9 16:=u3
def ML(X f i:Nat):bE (X*2^(32*f)) i=if i<f then 0 else bE X (i-f):=by
 rw[eD];split
 ·rename_i h;obtain⟨d,rfl⟩:∃ d,f=i+(d+1):=⟨f-i-1,j1⟩
  have e:X*2^(32*(i+(d+1)))=X*2^(32*d)*4294967296*2^(32*i):=by rw[zGb,zGb,show(4294967296:Nat)=2^32 from rfl,<-zub,<-zub];congr 2;omega
  rw[e,zid _ (zwa _),Nat.mul_mod_left];rfl
 ·rename_i h;obtain⟨d,rfl⟩:∃ d,i=f+d:=⟨i-f,j1⟩
  rw[eD,show f+d-f=d by omega,zxc,zub,<-z5a,zid _ (zwa _)]
def JS(X:Nat){f c:Nat}(h:f+c=16){l m:List D}(hl:D.st l=LM 0)(hm:D.st m=LM X):D.st (List.take f l++(List.take c (List.drop 0 m)++List.drop 16 l))=LM (X*2^(32*f)):=by
 have el:l=(List.range 16).map λi=>D.int .u32 (bE 0 i):=by injection hl
 have em:m=(List.range 16).map λi=>D.int .u32 (bE X i):=by injection hm
 show D.st _=D.st ((List.range 16).map λi=>D.int .u32 (bE (X*2^(32*f)) i));congr 1;subst el em;apply List.ext_getElem
 ·simp;omega
 ·intro i h1 h2;have a:i<16:=by simpa using h2
  simp only[zNc,List.getElem_range,ML];by_cases hf:i<f
  ·rw[List.getElem_append_left (by simp;omega)]
   simp only[List.getElem_take,zNc,List.getElem_range,zna hf,mT]
  ·rw[List.getElem_append_right (by simp;omega),List.getElem_append_left (by simp;omega)]
   simp only[List.getElem_take,List.drop_zero,zNc,List.getElem_range,zka hf,zgb,zya,zsb];rw[show i-min f 16=i-f by omega]
def Al(n:Nat){x:Int}(hx:In x){k far c r:Nat}(hk:k=32*far+r)(hc:far+c=16)(s:r<=31):Qx (cA (n+3)) (ag x) k far c r=some (fg (fB (x*2^k))):=by
 unfold Qx;refine aa (mO (n+1) (a:=some x) (aV hx)) (aa bz (aa ac (rL (aa (rp n hx) ?_))));by_cases h0:x=0
 ·subst h0;rw[z7b,show fB 0=some 0 from ma (bB (dY 0))];exact j0 true (gF rfl)
 obtain⟨m,hm⟩:∃ m,m=32*16:=⟨_,rfl⟩;have q:=aO.1 hx;obtain⟨L,j,l,o⟩:=gL (x:=x.natAbs) j1
 have hL:L<m:=by
  rcases zxa L m with h|h
  ·exact h
  ·have:=(jI hm).1 q;have:=zGa (show 0<2 by decide) h
   omega
 have g:(x*2^k).natAbs=x.natAbs*2^k:=by rw[zNa,Int.natAbs_pow];rfl
 refine aa (z:=false) ?_ (rL ?_)
 ·rw[show D.beq (I (sg x)) (D.int .i64 0)=decide (sg x=0) from bZ,zea (λh=>h0 (hC.1 h))];rfl
 refine aa (z:=decide (((jV x.natAbs:Nat):Int)+(k:Nat)>512)) (aa (Re n hx) (aa (az (by rw[j];simp only[inR];omega)) (aa fH ac))) (aa ac ?_)
 by_cases hb:((jV x.natAbs:Nat):Int)+(k:Nat)>512
 ·have hn:fB (x*2^k)=none:=by
   unfold fB;rw[zka];rw[g];intro e;have h1:=(jI hm).1 e;have h2:2^(L+k)<=x.natAbs*2^k:=by rw[zub];exact zKa _ l
   have h3:=zGa (show 0<2 by decide) (show m<=L+k by omega)
   omega
  rw[zha hb,hn];exact gF (aa (yX (n+2)) rfl)
 ·have b:x.natAbs*2^k<dW:=by
   rw[jI hm];have h1:x.natAbs*2^k<2^(L+1)*2^k:=zJb o (zwa _);rw[<-zub] at h1;have h3:=zGa (show 0<2 by decide) (show L+1+k<=m by omega)
   omega
  rw[zea hb,show fB (x*2^k)=some (x*2^k) by unfold fB;rw[zna (by rw[g];exact b)]]
  have p:x.natAbs*2^(32*far)*2^r=x.natAbs*2^k:=by rw[zGb,<-zub,hk]
  have d:x.natAbs*2^(32*far)<dW:=by have:=zud (x.natAbs*2^(32*far)) (zwa r);omega
  refine rL (aa (z:=LM x.natAbs) (by rw[cE];rfl) ?_)
  refine aa (z:=(List.range 16).map λi=>D.int .u32 (bE 0 i)) (by rw[ij];rfl) (j0 ((List.range 16).map λi=>D.int .u32 (bE x.natAbs i)) ?_)
  rw[JS x.natAbs hc rfl rfl];refine aa (O6 (n+2) d s) (j0 (LM (x.natAbs*2^(32*far)*2^r)) (j0 _ (aa (z:=.bool (decide (x<0))) (by rw[cE];rfl) ?_)))
  rw[p];refine aa (tI (n+2) _ b) ?_;congr 1;unfold sgn;show ag _=ag (x*2^k);congr 1;have f:((x.natAbs*2^k:Nat):Int)=(x.natAbs:Int)*2^k:=by rw[z0a,Int.natCast_pow];rfl
  by_cases hs:x<0
  ·rw[zha hs,zna rfl,f,<-Int.neg_mul];congr 1;omega
  ·rw[zea hs,zka j2,f]
   congr 1;omega
def Il(k:Nat):Prop:=k=20\/k=60\/k=120\/k=240
def Pc(n:Nat){x:Int}(hx:In x){k:Nat}(hk:Il k):cA (n+4) 455 [ag x,I (k:Int)]=some (fg (fB (x*2^k))):=by
 rcases hk with rfl|rfl|rfl|rfl
 ·exact(SB (n+3) _).trans (Al n hx (k:=20) j2 j2 j2)
 ·exact(SC (n+3) _).trans (Al n hx (k:=60) j2 j2 j2)
 ·exact(SD (n+3) _).trans (Al n hx (k:=120) j2 j2 j2)
 ·exact(SE (n+3) _).trans (Al n hx (k:=240) j2 j2 j2)
def Rc(n:Nat){y:Int}(hy:In y):cA (n+3) 172 [uw,ag y]=some (.tup [uw,uw]):=by rw[Qg];delta FD qG qB qT qN Jn;exact aa (rn n (a:=none) (b:=some y) ic (aV hy)) (aa bz (aa ac (j0 true (aa ac (gF (aa (yX (n+1)) (aa (yX (n+1)) rfl)))))))
def N8(n:Nat){y:Int}(hy:In y):cA (n+4) 132 [uw,ag y]=some uw:=by rw[Qf];unfold FC;exact aa (Rc n hy) (j0 uw (j0 uw rfl))
def tL(k:Nat)(a:Option Rat):Option Rat:=a.bind λq=>(fB (q.num*2^k)).map λs=>Rat.divInt (s/q.den) (2^k)
def zW{k:Nat}(hk:Il k):In ((1:Int)*2^k)/\(1:Int)*2^k=2^k/\(2:Int)^k≠0/\(k:Int)<=256:=by
 refine⟨fa (k:=k) ?_ ?_,zZb _,?_,?_⟩
 ·rcases hk with rfl|rfl|rfl|rfl<;>decide
 ·rw[zZb,Int.natAbs_pow];exact zia _
 ·have:=z2c (n:=2) (m:=k) j2;omega
 ·rcases hk with rfl|rfl|rfl|rfl<;>decide
def Pq{k:Nat}(hk:Il k){a:Option Rat}(e:OW a):OW (tL k a):=by
 cases a with
 | none=>exact gZ
 | some q=>
  obtain⟨b,c,d,_⟩:=zW hk;unfold tL;simp only[zba];have hn:=ql (q.num*2^k);cases h:fB (q.num*2^k) with
  | none=>exact gZ
  | some s=> rw[h] at hn;exact bQ (dL (ni hn.some _) (c ▸ b) d)
def Pa(n:Nat){a:Option Rat}(i:OW a){k:Nat}(hk:Il k):∃ C,cA (n+1031) 444 [bh a,I (k:Int)]=some (.tup [bh (tL k a),C]):=by
 obtain⟨o,p,g,H⟩:=zW hk;rw[YW];delta LX qG qB qT qN Jn;cases a with
 | none=> refine⟨Ml,?_⟩;exact aa (fX n (a:=none) gZ) (aa bz (aa ac (j0 true (aa ac (j0 true (aa ac (gF (aa (tJ (n+1026)) (aa (tJ (n+1026)) rfl)))))))))
 | some q=>
 have hq:=i.some;have j:0<(q.den:Int):=by have:=q.den_pos;omega
 have hn:=ql (q.num*2^k);have head:∀ {α:Type} {A B:Option α} {Y:Option α},B=Y->((cA (n+1030) 136 [bh (some q)]).bind λr1=>(abU .not r1).bind λE=>(D.truth E).bind λr=>Option.bind (if r=true then some true else (abG .lss (I (k:Int)) (D.int .i64 0)).bind λF=>D.truth F) λt=>(D.truth (D.bool t)).bind λu=>
   Option.bind (if u=true then some true else (abG .gtr (I (k:Int)) (D.int .i64 256)).bind λG=>D.truth G) λv=>(D.truth (D.bool v)).bind λw=>if w=true then A else B)=Y:=λ{α A B Y} y=>by
  subst y;rw[show cA (n+1030) 136 [bh (some q)]=_ from fX n i];rw[zba,bz,zba,ac,zba];rw[show(!(some q).isSome)=false from rfl,zka j2,show abG .lss (I (k:Int)) (D.int .i64 0)=some (.bool (decide ((k:Int)<0))) from ah,zba,ac,zba,zea j1,ac,zba,zka j2,show abG .gtr (I (k:Int)) (D.int .i64 256)=some (.bool (decide ((k:Int)>256))) from fH,zba,ac,zba,zea j1,ac,zba,zka j2]
 have f:=Pc (n+1026) (x:=1) (bB (dY 1)) hk;rw[ma o,p] at f;have c:In ((2:Int)^k):=p ▸ o;unfold tL;rw[zba];cases h:fB (q.num*2^k) with
 | none=> have d:=Pc (n+1026) hq.1 hk;rw[h] at d;refine⟨Ml,head (j0 (ag q.num) (aa d (aa (H2 (n+1027)) (aa f (j0 (ag (q.den:Int)) (aa (N8 (n+1026) hq.2) (aa (FR n (a:=none) (b:=some (2^k)) ic (aV c)) ?_)))))))⟩;refine aa (Pe (n+1027) (a:=none) ic) (j0 (ag (q.den:Int)) (aa (N8 (n+1026) hq.2) (aa (Pe (n+1027) (a:=none) ic) (aa (FR n (a:=none) (b:=some (2^k)) ic (aV c)) ?_))));exact aa (fX n (a:=none) gZ) (aa bz (aa ac (j0 true (aa ac (gF (aa (tJ (n+1026)) (aa (tJ (n+1026)) rfl)))))))
 | some s=>
  rw[h] at hn;have hs:=hn.some;have d:=Pc (n+1026) hq.1 hk;rw[h] at d;have e:In (-s):=aO.2 (by rw[zEb];exact aO.1 hs)
  have i1:=ni hs (q.den:Int);have i2:=ni e (q.den:Int);have i3:In (-((-s)/(q.den:Int))):=aO.2 (by rw[zEb];exact aO.1 i2)
  have l:=FR n (a:=some (s/(q.den:Int))) (b:=some (2^k)) (aV i1) (aV c);have m:=FR n (a:=some (-((-s)/(q.den:Int)))) (b:=some (2^k)) (aV i3) (aV c);rw[qh g] at l m;refine⟨bh (some (Rat.divInt (-((-s)/(q.den:Int))) (2^k))),head (j0 (ag q.num) (aa d (aa (H2 (n+1027)) (aa f (j0 (ag (q.den:Int)) (aa (sN (n+1023) hs hq.2 j) (aa l ?_)))))))⟩;refine aa (Pe (n+1027) (a:=some s) (aV hs)) (j0 (ag (q.den:Int)) (aa (sN (n+1023) e hq.2 j) (aa (Pe (n+1027) (a:=some ((-s)/(q.den:Int))) (aV i2)) (aa m ?_))));exact aa (fX n (a:=some _) (bQ (dL i1 c g))) (aa bz (aa ac (aa (z:=false) (rL (aa (fX n (a:=some _) (bQ (dL i3 c g))) (aa bz ac))) (aa ac (rL rfl)))))
def DS(r:Option Rat)(v:WV):WV:=λi=>mulW r (v i)
def Fs(r:Option Rat)(v:WV):w9 (DS r v):=λi=>uc _ _
def Rm(n:Nat){r:Option Rat}(g:OW r){v:WV}(h:w9 v):cA (n+1032) 445 [bh r,bc v]=some (bc (DS r v)):=by
 rw[YX];delta LY qB qC qJ qZ iL iR Jn;refine xS (l0:=[bh (v 0),bh (v 1),bh (v 2)]) (λi=>bh (DS r v i)) rfl (λi c l hl f=>?_) (λl=>aa ah (aa ac (be j2 rfl))) rfl
 have d:D.get (.st l) [i]=some (bh (v i)):=by
  have e:=f i (zia _);have:i=0\/i=1\/i=2:=j1
  rcases this with rfl|rfl|rfl<;>simp[D.get,D.fld,e]
 exact aa ah (aa ac (aY (by show(i:Int)<3;omega) (aa (aw c) (aa d (aa (Ep n g (h i)) (aa (aw c) (aa (so j1) (aa (a8 (a:=i) (b:=1) j1) rfl))))))))
def Rf(n:Nat){a b:Int}(c:inR a)(d:inR b)(h0:b≠0):cA (n+1031) 333 [I a,I b]=some (ks (Rat.divInt a b)):=by rw[YD];unfold LC;exact aa (y6 (n+1028) c) (aa (y6 (n+1028) d) (aa (Pd n (bB c) (bB d) h0) rfl))
def qo(x:V)(q:Nat->Int)(l:List V)(k:Nat):WV:=λi=>some (Rat.divInt (aC (li x q (pt l k)) i) (ap q))
def PZ{x:V}{q:Nat->Int}(h:PoseOk x q){l:List V}(hl:∀ v∈l,bd 4096 v){k:Nat}(hk:k<l.length):w9 (qo x q l k):=λi=>by obtain⟨h1,h2,h3⟩:=De (vJ h (hl _ (gA hk)));exact bQ (dL (bB (kQ h1 h2 h3 i)) (bB (ph h).1) (ph h).2)
def Pb(n:Nat){x:V}{q:Nat->Int}(h:PoseOk x q){l:List V}(hl:∀ v∈l,bd 4096 v){k:Nat}(hk:k<l.length):cA (n+1032) 454 [fJ x q l,I (k:Int)]=some (bc (qo x q l k)):=by
 obtain⟨h1,h2,h3⟩:=De (vJ h (hl _ (gA hk)));rw[Y2];delta L7 qG qB qC qY qZ iL iR Jn;have d:(((l.map (li x q)).map af)[k]?)=some (af (li x q (pt l k))):=by rw[zhb,zhb,zca hk];unfold pt;rw[z1a,zca hk];rfl
 refine j0 (eG (l.map (li x q))) (j0 ((l.map (li x q)).map af) (aa (z:=k) (by rw[gw,zya];exact aw hk) (aa d ?_)))
 obtain⟨Z,hZ⟩:∃ Z,D.st [D.st [D.bool false,D.bool false,aq aP],D.st [D.bool false,D.bool false,aq aP]]=Z:=⟨_,rfl⟩;rw[hZ];refine xS (l0:=[Z,Z,Z]) (λi=>bh (qo x q l k i)) rfl (λi c l' hl' e=>?_) (λl=>aa ah (aa ac (be j2 rfl))) rfl
 exact aa ah (aa ac (aY (by show(i:Int)<3;omega) (aa (aw c) (aa (Bo c) (j0 (I (ap q)) (aa (Rf n (kQ h1 h2 h3 i) (ph h).1 (ph h).2) (aa (aw c) (aa (so j1) (aa (a8 (a:=i) (b:=1) j1) rfl)))))))))
theorem KnF.eq{l:List V}{F G:FL}(hs:Ko l)(h:KnF l l.length 0 0 F)(k:KnF l l.length 0 0 G):F=G:=by
 have e:F.map Prod.fst=G.map Prod.fst:=Facets.eq h.facets k.facets;have el:F.length=G.length:=by have:=zma List.length e;simpa using this
 refine List.ext_getElem el λi h1 h2=>?_;have b:F[i].1=G[i].1:=by
  have h3:(F.map Prod.fst)[i]?=(G.map Prod.fst)[i]?:=by rw[e]
  simpa [zhb,zca h1,zca h2] using h3
 obtain⟨a1,a2⟩:=h.fok.ok F[i] (zFa h1);obtain⟨c,a⟩:=k.fok.ok G[i] (zFa h2);rw[<-b] at a;exact Prod.ext b (bA.eq hs a1 a2 a)
structure Fac(l:List V)(F:FL)(E:List (Nat×Nat)):Prop where
 kn:KnF l l.length 0 0 F
 fb:yP F
 e:E=tG F l.length l.length
 el:E.length<=10000
 lt:∀ e∈E,e.1<l.length/\e.2<l.length
 h18:∀ m,cA (m+8) 18 [db l]=some (.sl (ba F))
 h19:∀ m,cA (m+8) 19 [db l]=some (.sl (ba F))
 h21:∀ m,cA (m+9) 21 [db l]=some (.sl (E.map jc))
def N7{l:List V}(hl:∀ x∈l,bd 4096 x)(hlen:l.length<=64)(hs:Ko l):∃ F E,Fac l F E:=by
 have hl':∀ x∈l,bd MV x:=λx hx=>Ef (hl x hx) j2
 obtain⟨F,E,f1,f2,f3,_,_,_,f4⟩:=QZ 0 hl' (show l.length<=100 by omega) hs
 have all:∀ m,cA (m+8) 18 [db l]=some (.sl (ba F))/\cA (m+8) 19 [db l]=some (.sl (ba F))/\cA (m+9) 21 [db l]=some (.sl (E.map jc)):=λm=>by
  obtain⟨F',E',g1,g2,g3,g5,g6,g7,g4⟩:=QZ m hl' (show l.length<=100 by omega) hs
  have:=f3.eq hs g3;subst this;rw[f4,<-g4];exact⟨g5,g6,g7⟩
 refine⟨F,E,f3,⟨zIa f1 j2,λf hf=>Ge hl (f3.fok.ok f hf).1⟩,f4,f2,λe he=>?_,λm=>(all m).1,λm=>(all m).2.1,λm=>(all m).2.2⟩
 rw[f4] at he;have:=vr.1 he;exact⟨this.1,this.2.1⟩
def mE(q:Nat->Int)(l:List V)(e:Nat×Nat):V:=ay q ((pt l e.2).sub (pt l e.1))
def Cv{l:List V}(hl:∀ x∈l,bd 4096 x){i j:Nat}(a:i<l.length)(b:j<l.length):bd 8192 ((pt l j).sub (pt l i)):=kq (hl _ (gA b)) (hl _ (gA a))
def zi{q:Nat->Int}(h:CK q){l:List V}(hl:∀ x∈l,bd 4096 x){e:Nat×Nat}(he:e.1<l.length/\e.2<l.length):bd 402653184 (mE q l e):=CD (k:=8192) h (Cv hl he.1 he.2)
def Si{α:Type}{E:List α}(g:α->D){i:Nat}(a:i<E.length):((E.take i).map g)++[g E[i]]=(E.take (i+1)).map g:=by rw[List.take_add_one,zca a];simp only[Option.toList_some,zKb,zab,zkd]
def RH{E:List (Nat×Nat)}{i:Nat}(a:i<E.length):(E.map jc)[i]?=some (jc E[i]):=by simp[a]
def Rq(n:Nat){x:V}{q:Nat->Int}(h:PoseOk x q){l:List V}(hl:∀ v∈l,bd 4096 v){F:FL}{E:List (Nat×Nat)}(hF:Fac l F E):cA (n+10) 449 [fJ x q l]=some (.sl (E.map λe=>af (mE q l e))):=by
 rw[Y0];delta L5 qG qB qC qS qX qV qW qZ iL iR Jn;refine j0 (db l) (aa (hF.h21 n) (j0 (E.map jc) ?_));refine c6 (λi s=>s=[.sl ((E.take i).map λe=>af (mE q l e)),I (i:Int)]) E.length 0 (zAa _) rfl (λi c s d=>?_) (λs d=>?_)
 ·subst d;left;obtain⟨h1,h2⟩:=hF.lt E[i] (zFa c);have f:=hF.el;refine⟨_,?_,rfl⟩;rw[<-Si (λe=>af (mE q l e)) c];refine aa ah (aa ac (aY (by rw[kW];omega) ?_))
  refine j0 (E.map jc) (aa (z:=i) (by rw[kW];exact aw c) (aa (RH c) ?_))
  refine j0 (tM q) (j0 (eG l) (j0 (I (E[i].2:Int)) (j0 (l.map af) (aa (z:=E[i].2) (by rw[gw];exact aw h2) (aa (zZ h2) ?_)))))
  refine j0 (eG l) (j0 (I (E[i].1:Int)) (j0 (l.map af) (aa (z:=E[i].1) (by rw[gw];exact aw h1) (aa (zZ h1) ?_))))
  refine aa (HZ (n+7) (hl _ (gA h2)) (hl _ (gA h1)) j2) (aa (z:=af (mE q l E[i])) (Er (n+6) h.hq (Ef (Cv hl h1 h2) j2)) ?_)
  obtain⟨L,hL⟩:∃ L,((E.take i).map λe=>af (mE q l e))=L:=⟨_,rfl⟩;rw[hL];have hn:List.length (D.els (.sl L))+List.length [af (mE q l E[i])]<=1073741824:=by rw[<-hL];show((E.take i).map _).length+1<=_;simp;omega
  refine(zna hn).trans ?_;exact aa (a8 (a:=i) (b:=1) j1) rfl
 ·subst d;refine⟨_,aa ah (aa ac (be (by rw[kW];omega) rfl)),?_⟩
  rw[zfb (zia _)];rfl
def jk(mg vl:V->Rat)(S:Option (V×Rat))(u:V):Option (V×Rat):=
 if mg u<0 then S else match S with
  | none=>some (u,vl u)
  | some p=>if p.2<vl u then some (u,vl u) else some p
def lw(mg vl:V->Rat)(T:List V×Option (V×Rat))(u:V):List V×Option (V×Rat):=if u=V.zero\/u∈T.1 then T else(T.1++[u],jk mg vl T.2 u)
def oq(mg vl:V->Rat)(R:List V):List V×Option (V×Rat):=R.foldl (lw mg vl) ([],none)
def vV(mg vl:V->Rat)(R:List V)(u:V):oq mg vl (R++[u])=lw mg vl (oq mg vl R) u:=by simp[oq]
def BH{P:List V->Prop}(h0:P [])(h1:∀ R u,P R->P (R++[u]))(R:List V):P R:=by
 have key:∀ R:List V,P R.reverse:=λR=>by
  induction R with
  | nil=>exact h0
  | cons u R ih=>rw[List.reverse_cons];exact h1 _ _ ih
 have:=key R.reverse
 rwa [List.reverse_reverse] at this
def IF(q:Nat->Int)(F:FL):List V:=F.map λf=>aF (ay q f.1.1)
def Kt(q r:Nat->Int)(l m:List V)(E:List (Nat×Nat))(e:Nat×Nat):List V:=E.flatMap λf=>[aF (V.cross (mE q l e) (mE r m f)),(aF (V.cross (mE q l e) (mE r m f))).neg]
def vO(q r:Nat->Int)(l m:List V)(F G:FL)(E E':List (Nat×Nat)):List V:=(IF q F++(IF r G).map V.neg)++E.flatMap (Kt q r l m E')
def se{v:V}:aF v=V.zero↔v=V.zero:=vI
def vC{v:V}:v.neg=V.zero↔v=V.zero:=by obtain⟨x,y,z⟩:=v;simp only[V.neg,V.zero,V.mk.injEq];omega
def zl{q:Nat->Int}(h:CK q){F:FL}(hF:yP F){f:(V×Int)×List Nat}(hf:f∈F):bd NB (ay q f.1.1):=
 Ef (CD (k:=549755813888) h (hF.2 f hf).1) j2
def lS(u:V):D:=.st [af u,.bool true]
theorem BK:∀ (K:List V) (u:V),Option.getD (abN (K.map lS) (af u)) (D.bool false)=.bool (decide (u∈K))
 | [],u=>rfl
 | k::K,u=>by
  show Option.getD (if D.beq (af u) (af k)=true then some (D.bool true) else abN (K.map lS) (af u)) (D.bool false)=_
  rw[mM];by_cases h:u=k
  ·subst h;simp
  ·rw[zka (by simpa using h),BK K u]
   simp[h]
theorem qi:∀ (K:List V) (u:V),u ∉ K->abO (K.map lS) (af u) (.bool true)=(K++[u]).map lS
 | [],u,_=>rfl
 | k::K,u,h=>by
  simp only[zEa,not_or] at h;show(if D.beq (af u) (af k)=true then _ else D.st [af k,.bool true]::abO (K.map lS) (af u) (.bool true))=_
  rw[mM,zka (by simpa using h.1),qi K u h.2]
  rfl
def Zr:D:=.st [.st [.bool false,.bool false,aq aP],.st [.bool false,.bool false,aq aP]]
def Ha:D:=.st [af V.zero,Zr]
def jv(a:V->Rat):Option (V×Rat)->D
 | none=>Ha
 | some p=>.st [af p.1,ks (a p.1)]
def iD:Option (V×Rat)->D
 | none=>Zr
 | some p=>ks p.2
section
variable{x y:V}{q r:Nat->Int}{l m:List V}
def QY(n:Nat)(h:PairOk x y q r l m){u:V}(hu:bd NB u)(h0:u≠V.zero){S:Option (V×Rat)}(L:∀ p,S=some p->InR p.2){α:Type}{A:Option α}{B:D->D->Option α}{Y:Option α}
  (G:jk (λu=>jg u x y q r l m) (λu=>AK u x y q r l m) S u=S->A=Y)
  (K:jk (λu=>jg u x y q r l m) (λu=>AK u x y q r l m) S u=some (u,AK u x y q r l m)->B (ks (MM u x y q r l m)) (ks (AK u x y q r l m))=Y) :
  ((cA (n+1033) 434 [af u,fJ x q l,fJ y r m]).bind λa=>(cA (n+1033) 342 [a]).bind λs=>(abG .lss s (D.int .i64 0)).bind λE=>(D.truth E).bind λi=>
   if i=true then A else (cA (n+1033) 174 [a,a]).bind λt=>(cA (n+1033) 91 [af u,af u]).bind λv=>(cA (n+1033) 54 [D.int .i64 1]).bind λw=>(cA (n+1033) 62 [v,w]).bind λz=>(cA (n+1033) 352 [t,z]).bind λf=>
   (D.truth (D.bool S.isSome)).bind λj=>Option.bind (if j=true then (cA (n+1033) 73 [f,iD S]).bind λC=>(abG .leq C (D.int .i64 0)).bind λF=>D.truth F else some false) λk=>(D.truth (D.bool k)).bind λo=>
   if o=true then A else (cA (n+1033) 435 [fJ x q l,af u]).bind λb=>(cA (n+1033) 74 [D.int .i64 2]).bind λc=>(cA (n+1033) 352 [a,c]).bind λd=>(cA (n+1033) 173 [b,d]).bind λe=>B e f)=Y:=by
 have hm:=I6 h hu;have sm:=oZ h hu;have g:OW (some (jg u x y q r l m)):=bQ (sm.InR j2 j2)
 have N:=Ke h hu h0;have M:OW (some (AK u x y q r l m)):=bQ (N.InR j2 j2)
 obtain⟨v1,v2⟩:=Y5 h hu h0;have dd:=Xp h hu;have H3:=Xg n h hu;rw[hm] at H3;have i1:In (V.dot u u):=(uP hu (D9 hu)).2.2.2.2;rw[H3,zba,show cA (n+1033) 342 [bh (some (jg u x y q r l m))]=some (I (Cn (some (jg u x y q r l m)))) from O8 (n+2) g,zba,
  show abG .lss (I (Cn (some (jg u x y q r l m)))) (D.int .i64 0)=some (.bool (decide (Cn (some (jg u x y q r l m))<0))) from ah,zba,ac,zba,P8]
 by_cases hneg:jg u x y q r l m<0
 ·rw[zha hneg,zna rfl];exact G (by unfold jk;rw[zna hneg])
 ·rw[zea hneg,zka j2]
  have H:cA (n+1033) 62 [ag (V.dot u u),ag 1]=some (bh (some ((V.dot u u:Int):Rat))):=by
   have:=Pd (n+3) i1 (bB (dY 1)) (show(1:Int)≠0 by decide)
   rw[div_one] at this;exact this
  rw[show cA (n+1033) 174 [bh (some (jg u x y q r l m)),bh (some (jg u x y q r l m))]=_ from Ep (n+2) g g,v1,zba,show cA (n+1033) 91 [af u,af u]=_ from Ph (n+1027) hu (D9 hu),zba,
   show cA (n+1033) 54 [D.int .i64 1]=some (ag 1) from y6 (n+1031) (dY 1),zba,H,zba,
   show cA (n+1033) 352 [bh (some (jg u x y q r l m*jg u x y q r l m)),bh (some ((V.dot u u:Int):Rat))]=_ from H4 (n+1) (bQ ((sm.mul sm).InR j2 j2)) (bQ (uq i1)),v2,zba,ac,zba]
  have tail:jk (λu=>jg u x y q r l m) (λu=>AK u x y q r l m) S u=some (u,AK u x y q r l m)->((cA (n+1033) 435 [fJ x q l,af u]).bind λb=>(cA (n+1033) 74 [D.int .i64 2]).bind λc=>(cA (n+1033) 352 [bh (some (jg u x y q r l m)),c]).bind λd=>(cA (n+1033) 173 [b,d]).bind λe=>B e (bh (some (AK u x y q r l m))))=Y:=λhs=>by
   have J:cA (n+1033) 74 [D.int .i64 2]=some (bh (some ((2:Int):Rat))):=Of (n+1) (dY 2);rw[show cA (n+1033) 435 [fJ x q l,af u]=some (bh (some (eQ u x q l))) from H7 (n+2) hu h.pa h.la h.na h.ka,zba,J,zba,
    show cA (n+1033) 352 [bh (some (jg u x y q r l m)),bh (some ((2:Int):Rat))]=_ from H4 (n+1) g (bQ (uq (bB (dY 2)))),zba,
    show cA (n+1033) 173 [bh (some (eQ u x q l)),bh (uN (some (jg u x y q r l m)) (some ((2:Int):Rat)))]=_ from AX (n+2) (bQ (nj hu h.pa h.la h.na)) (EB _ _),dd,zba]
   exact K hs
  cases S with
  | none=>
   rw[show(none:Option (V×Rat)).isSome=false from rfl,zka j2,zba,ac,zba,zka j2]
   exact tail (by unfold jk;rw[zka hneg])
  | some p=>
   have op:OW (some p.2):=bQ (L p rfl);rw[show(some p:Option (V×Rat)).isSome=true from rfl,zna rfl,show iD (some p)=bh (some p.2) from rfl,show cA (n+1033) 73 [bh (some (AK u x y q r l m)),bh (some p.2)]=_ from H9 (n+2) M op,zba,
    show abG .leq (I (ja (some (AK u x y q r l m)) (some p.2))) (D.int .i64 0)=some (.bool (decide (ja (some (AK u x y q r l m)) (some p.2)<=0))) from mJ,zba,ac,zba,ac,zba,Oh]
   by_cases hc:p.2<AK u x y q r l m
   ·rw[zha hc,zka j2]
    exact tail (by unfold jk;rw[zka hneg];simp only[hc,if_true])
   ·rw[zea hc,zna j2]
    exact G (by unfold jk;rw[zka hneg];simp only[hc,if_false])
end
def Qd{v u:V}(f:u=V.zero↔v=V.zero){K:List V}{e:D}{kn:List D}{w:D}(he:e=I (if v=V.zero then 31 else 0))(hk:kn=K.map lS)(hw:w=af u){α:Type}{A B Y:Option α}(d:u=V.zero\/u∈K->A=Y)(g:¬ (u=V.zero\/u∈K)->B=Y) :
  ((D.truth (D.bool (!(D.beq e (D.int .i64 0))))).bind λa=>Option.bind (if a=true then some true else D.truth (Option.getD (abN kn w) (D.bool false))) λb=>(D.truth (D.bool b)).bind λc=>if c=true then A else B)=Y:=by
 subst he hk hw;rw[BK];by_cases h:v=V.zero
 ·rw[zna h];exact d (.inl (f.2 h))
 ·rw[zka h];show(if decide (u∈K)=true then A else B)=Y
  by_cases hm:u∈K
  ·rw[zha hm];exact d (.inr hm)
  ·rw[zea hm];exact g (λi=>i.elim (λj=>h (f.1 j)) hm)
def MW{α:Type}{A B y:α}(h:B=y):(if(1:Nat)=0 then A else B)=y:=h
def NE(k:Nat)(u:V):V:=if 1-2*(k:Int)<0 then u.neg else u
def JP{k:Nat}{u:V}:NE k u=V.zero↔u=V.zero:=by
 unfold NE;split
 ·exact vC
 ·simp_all
def Af{mg vl:V->Rat}(R:List V):(∀ u∈(oq mg vl R).1,u∈R/\u≠V.zero)/\∀ p,(oq mg vl R).2=some p->p.1∈R/\p.1≠V.zero/\¬ mg p.1<0/\p.2=vl p.1:=by
 refine BH (P:=λR=>(∀ u∈(oq mg vl R).1,u∈R/\u≠V.zero)/\∀ p,(oq mg vl R).2=some p->p.1∈R/\p.1≠V.zero/\¬ mg p.1<0/\p.2=vl p.1) ⟨λu hu=>(by cases hu),λp hp=>(by cases hp)⟩ (λR u ih=>?_) R
 obtain⟨i1,i2⟩:=ih;rw[vV];unfold lw;split
 ·exact⟨λw hw=>⟨List.mem_append_left _ (i1 w hw).1,(i1 w hw).2⟩,λp hp=>⟨List.mem_append_left _ (i2 p hp).1,(i2 p hp).2⟩⟩
 ·rename_i hn;have a:u≠V.zero:=λh=>hn (.inl h);refine⟨λw hw=>?_,λp hp=>?_⟩
  ·rcases List.mem_append.1 hw with hw|hw
   ·exact⟨List.mem_append_left _ (i1 w hw).1,(i1 w hw).2⟩
   ·rw[zLa.1 hw];exact⟨j3,a⟩
  ·have old:(oq mg vl R).2=some p->p.1∈R++[u]/\p.1≠V.zero/\¬ mg p.1<0/\p.2=vl p.1:=λh=>⟨List.mem_append_left _ (i2 p h).1,(i2 p h).2⟩;dsimp only[jk] at hp;split at hp
   ·exact old hp
   ·rename_i hm;split at hp
    ·cases hp;exact⟨j3,a,hm,rfl⟩
    ·rename_i b e;split at hp
     ·cases hp;exact⟨j3,a,hm,rfl⟩
     ·cases hp;exact old e
def jC{α β:Type}{E:List α}{g:α->List β}{k:Nat}(h:∀ e∈E,(g e).length<=k):(E.flatMap g).length<=E.length*k:=by
 induction E with
 | nil=>simp
 | cons a E ih=> rw[List.flatMap_cons,zta,zQa,zob,z0c];grind
def nO{α β:Type}{E:List α}(g:α->List β){i:Nat}(a:i<E.length):(E.take (i+1)).flatMap g=(E.take i).flatMap g++g E[i]:=by rw[List.take_add_one,zca a];simp only[Option.toList_some,List.flatMap_append,List.flatMap_cons,List.flatMap_nil,zBb]
section
variable{x y:V}{q r:Nat->Int}{l m:List V}{F G:FL}{E E':List (Nat×Nat)}
def Fa(h:PairOk x y q r l m)(hl:Fac l F E)(hm:Fac m G E'):∀ u∈vO q r l m F G E E',bd NB u:=by
 intro u hu;rcases List.mem_append.1 hu with hu|hu
 ·rcases List.mem_append.1 hu with hu|hu
  ·obtain⟨f,hf,rfl⟩:=zMa.1 hu;exact fp (zl h.pa.hq hl.fb hf)
  ·obtain⟨w,hw,rfl⟩:=zMa.1 hu;obtain⟨f,hf,rfl⟩:=zMa.1 hw;exact m9 (fp (zl h.pb.hq hm.fb hf))
 ·obtain⟨e,he,hu⟩:=zPa.1 hu;obtain⟨f,hf,hu⟩:=zPa.1 hu;have a:=fp (xl (zi h.pa.hq h.la (hl.lt e he)) (zi h.pb.hq h.lb (hm.lt f hf)));simp only[zEa,zcc,or_false] at hu;rcases hu with rfl|rfl
  ·exact a
  ·exact m9 a
def fC(x y:V)(q r:Nat->Int)(l m:List V)(R:List V):List V×Option (V×Rat):=oq (λu=>jg u x y q r l m) (λu=>AK u x y q r l m) R
def JO(x y:V)(q r:Nat->Int)(l m:List V)(R:List V)(u:V):fC x y q r l m (R++[u])=lw (λu=>jg u x y q r l m) (λu=>AK u x y q r l m) (fC x y q r l m R) u:=vV ..
def NC(h:PairOk x y q r l m){R:List V}(a:∀ u∈R,bd NB u):∀ p,(fC x y q r l m R).2=some p->InR p.2:=λp hp=>by obtain⟨h1,h2,_,h3⟩:=(Af R).2 p hp;rw[h3];exact(Ke h (a _ h1) h2).InR j2 j2
def Xe(n:Nat)(h:PairOk x y q r l m)(hl:Fac l F E)(hm:Fac m G E') :
  cA (n+1034) 416 [dJ x q,db l,dJ y r,db m]=some (.tup [jv (λu=>MM u x y q r l m) (fC x y q r l m (vO q r l m F G E E')).2,.bool (fC x y q r l m (vO q r l m F G E E')).2.isSome]):=by
 rw[YL];delta LK qG qB qC qT qN qS qX qV qW qZ iL iR Jn;obtain⟨P1,e1⟩:∃ P1,P1=fJ x q l:=⟨_,rfl⟩;obtain⟨P2,e2⟩:∃ P2,P2=fJ y r m:=⟨_,rfl⟩;obtain⟨c,aj⟩:∃ c:V->Rat,c=λu=>MM u x y q r l m:=⟨_,rfl⟩;rw[<-aj];obtain⟨mg,ak⟩:∃ mg:V->Rat,mg=λu=>jg u x y q r l m:=⟨_,rfl⟩;obtain⟨vl,al⟩:∃ vl:V->Rat,vl=λu=>AK u x y q r l m:=⟨_,rfl⟩;have app:∀ R u,fC x y q r l m (R++[u])=lw mg vl (fC x y q r l m R) u:=λR u=>by rw[ak,al];exact JO ..
 refine aa (z:=P1) (by rw[e1];exact FQ (n+1029) h.pa h.la h.ka) (aa (z:=P2) (by rw[e2];exact FQ (n+1029) h.pb h.lb h.kb) ?_)
 have hR:=Fa h hl hm;obtain⟨T,hT⟩:∃ T,fC x y q r l m (vO q r l m F G E E')=T:=⟨_,rfl⟩;rw[hT];refine aa (z:=(0,[Ha,P1,P2,jv c T.2,iD T.2,.bool T.2.isSome])) ?_ rfl;have body:∀ (R:List V) (u:V),(∀ w∈R++[u],bd NB w)->∀ {α:Type} {K:List V} {S:Option (V×Rat)} {A:Option α} {B:D->D->Option α} {Y:Option α},(fC x y q r l m R)=(K,S)->u≠V.zero ->
   (jk mg vl S u=S->A=Y)->(jk mg vl S u=some (u,vl u)->B (ks (c u)) (ks (vl u))=Y) ->
   ((cA (n+1033) 434 [af u,P1,P2]).bind λL=>(cA (n+1033) 342 [L]).bind λa9=>(abG .lss a9 (D.int .i64 0)).bind λbx=>(D.truth bx).bind λa0=>
   if a0=true then A else (cA (n+1033) 174 [L,L]).bind λbi=>(cA (n+1033) 91 [af u,af u]).bind λbj=>(cA (n+1033) 54 [D.int .i64 1]).bind λbk=>(cA (n+1033) 62 [bj,bk]).bind λbl=>(cA (n+1033) 352 [bi,bl]).bind λaI=>
   (D.truth (D.bool S.isSome)).bind λa1=>Option.bind (if a1=true then (cA (n+1033) 73 [aI,iD S]).bind λbm=>(abG .leq bm (D.int .i64 0)).bind λbL=>D.truth bL else some false) λa2=>(D.truth (D.bool a2)).bind λa3=>
   if a3=true then A else (cA (n+1033) 435 [P1,af u]).bind λbn=>(cA (n+1033) 74 [D.int .i64 2]).bind λbs=>(cA (n+1033) 352 [L,bs]).bind λbt=>(cA (n+1033) 173 [bn,bt]).bind λbv=>B bv aI)=Y:=by
  intro R u M α K S A B Y e h0 hA hB;rw[e1,e2];subst ak al;rw[aj] at hB;exact QY n h (M u j3) h0 (λp hp=>NC h (λw hw=>M w (List.mem_append_left _ hw)) p (by rw[e];exact hp)) hA hB
 obtain⟨rws,o⟩:∃ rws:Nat->List V,rws=λk=>if k=0 then[] else if k=1 then IF q F else IF q F++(IF r G).map V.neg:=⟨_,rfl⟩
 have data:∀ k,k<2->∃ (xk:V) (J:Nat->Int) (lk:List V) (Fk:FL) (Ek:List (Nat×Nat)),[P1,P2][k]?=some (fJ xk J lk)/\CK J/\Fac lk Fk Ek/\rws (k+1)=rws k++Fk.map λf=>NE k (aF (ay J f.1.1)):=λk hk=>by
  have:k=0\/k=1:=j1
  rcases this with rfl|rfl
  ·exact⟨x,q,l,F,E,by rw[e1];rfl,h.pa.hq,hl,by rw[o];rfl⟩
  ·exact⟨y,r,m,G,E',by rw[e2];rfl,h.pb.hq,hm,by rw[o];simp[IF,NE]⟩
 have sub:∀ k,k<=2->∀ w∈rws k,w∈vO q r l m F G E E':=λk hk w hw=>by
  have:k=0\/k=1\/k=2:=j1
  rw[o] at hw;rcases this with rfl|rfl|rfl
  ·cases hw
  ·exact List.mem_append_left _ (List.mem_append_left _ hw)
  ·exact List.mem_append_left _ hw
 refine c6 (λk s=>s=[.sl [P1,P2],I (k:Int),Ha,P1,P2,jv c (fC x y q r l m (rws k)).2,iD (fC x y q r l m (rws k)).2,.bool (fC x y q r l m (rws k)).2.isSome,.sl ((fC x y q r l m (rws k)).1.map lS)]) 2 0 (zAa _) (by rw[o];rfl) (λk hk s hs=>?_) (λs hs=>?_)
 ·subst hs;left;obtain⟨xk,J,lk,Fk,Ek,d1,d2,d3,d4⟩:=data k hk;have hsub:=sub (k+1) j1
  rw[d4] at hsub ⊢;refine⟨_,?_,rfl⟩;refine aa ah (aa ac (aY (by show(k:Int)<2;omega) (aa (z:=k) (aw hk) (aa d1 (j0 (db lk) (aa (d3.h18 (n+1025)) (j0 (ba Fk) ?_)))))))
  obtain⟨g,hg⟩:∃ g:(V×Int)×List Nat->V,g=λf=>NE k (aF (ay J f.1.1)):=⟨_,rfl⟩;rw[<-hg] at hsub ⊢;refine c6 (λi s=>s=[.sl [P1,P2],I (i:Int),Ha,P1,P2,jv c (fC x y q r l m (rws k++(Fk.take i).map g)).2,iD (fC x y q r l m (rws k++(Fk.take i).map g)).2,.bool (fC x y q r l m (rws k++(Fk.take i).map g)).2.isSome,.sl ((fC x y q r l m (rws k++(Fk.take i).map g)).1.map lS)]) Fk.length 0 (zAa _) (by rw[List.take_zero,zkd,zBb];rfl) (λi H s hs=>?_) (λs hs=>?_)
  ·subst hs;left;refine⟨_,?_,rfl⟩;have hf:=d3.fb.2 _ (zFa H);have N:=zl d2 d3.fb (zFa H);have hlen:=d3.fb.1;have et:(Fk.take (i+1)).map g=(Fk.take i).map g++[g Fk[i]]:=by
    rw[List.take_add_one,zca H];simp only[Option.toList_some,zKb,zab,zkd]
   have M:∀ w∈(rws k++(Fk.take i).map g)++[g Fk[i]],bd NB w:=λw hw=>by all_goals grind
   rw[et,<-zOa,app];have bdy:=@body (rws k++(Fk.take i).map g) (g Fk[i]) M;obtain⟨R,eR⟩:∃ R,rws k++(Fk.take i).map g=R:=⟨_,rfl⟩;rw[eR] at bdy ⊢;obtain⟨⟨K,S⟩,eT⟩:∃ T,fC x y q r l m R=T:=⟨_,rfl⟩;rw[eT] at bdy ⊢;obtain⟨i1,i2,i3⟩:=Dd N;refine aa ah (aa ac (aY (by rw[bF];omega) (j0 (ba Fk) (aa (z:=i) (by rw[bF];exact aw H) (aa (gM H) (j0 (tM J) (j0 (af Fk[i].1.1) ?_)))))))
   refine aa (z:=af (ay J Fk[i].1.1)) (Er (n+1030) d2 (FJ hf.1)) (aa (Xh (n+1030) i1 i2 i3) (aa (ct (by simp only[inR];omega)) (aa (fd (by simp only[inR];omega)) ?_)))
   have gu:g Fk[i]=NE k (aF (ay J Fk[i].1.1)):=by rw[hg]
   rw[gu] at bdy ⊢;obtain⟨v,ev⟩:∃ v,ay J Fk[i].1.1=v:=⟨_,rfl⟩;rw[ev] at N bdy ⊢;obtain⟨u,Q⟩:∃ u,NE k (aF v)=u:=⟨_,rfl⟩;have hz:u=V.zero↔v=V.zero:=by rw[<-Q,JP,se]
   obtain⟨Pk,a4⟩:∃ Pk,fJ xk J lk=Pk:=⟨_,rfl⟩;rw[a4];refine aa (z:=(0,[.bool true,Ha,P1,P2,jv c (lw mg vl (K,S) u).2,iD (lw mg vl (K,S) u).2,.bool (lw mg vl (K,S) u).2.isSome,P1,P2,.sl ((lw mg vl (K,S) u).1.map lS),Pk])) ?_ (j0 (.bool false) (j0 false (rL (aa (a8 (a:=i) (b:=1) j1) (by rw[Q];rfl)))))
   refine aa (Ro (n+3) N) (j0 (af (aF v)) (j0 (I (if v=V.zero then 31 else 0)) (aa (z:=(0,[Ha,P1,P2,jv c S,iD S,.bool S.isSome,P1,P2,.sl (K.map lS),Pk,af u])) ?_ ?_)))
   ·refine aa ah (aa ac ?_);rw[<-Q];by_cases hk2:1-2*(k:Int)<0
    ·refine aY hk2 (aa (Qu (n+1032) (fp N) j2) ?_)
     rw[show NE k (aF v)=(aF v).neg from zna hk2];rfl
    ·refine be hk2 ?_;rw[show NE k (aF v)=aF v from zka hk2];rfl
   rw[Q] at bdy;refine Qd hz (K:=K) rfl rfl rfl (λhs=>?_) (λhs=>?_)
   ·rw[show lw mg vl (K,S) u=(K,S) from zna hs];rfl
   ·rw[show lw mg vl (K,S) u=(K++[u],jk mg vl S u) from zka hs];have d:=qi K u (λC=>hs (.inr C));refine aa (z:=(0,[jv c (jk mg vl S u),iD (jk mg vl S u),.bool (jk mg vl S u).isSome,P1,P2,.sl ((K++[u]).map lS),Pk])) ?_ rfl;refine bdy rfl (λC=>hs (.inl C)) (λe=>?_) (λe=>?_)
    ·rw[e,<-d];rfl
    ·rw[e,<-d];rfl
  ·subst hs;refine⟨_,aa ah (aa ac (be (by rw[bF];omega) rfl)),?_⟩
   rw[zfb (zia _)];exact MW (aa (a8 (a:=k) (b:=1) j1) rfl)
 ·subst hs;refine⟨_,aa ah (aa ac (be j2 rfl)),MW ?_⟩
  rw[show rws 2=IF q F++(IF r G).map V.neg by rw[o];rfl] at *
  obtain⟨R0,P⟩:∃ R0,IF q F++(IF r G).map V.neg=R0:=⟨_,rfl⟩;have a6:fC x y q r l m (R0++E.flatMap (Kt q r l m E'))=T:=by rw[<-hT,<-P];rfl
  have a5:∀ u∈R0++E.flatMap (Kt q r l m E'),bd NB u:=by rw[<-P];exact hR
  have bM:=hl.el;have bN:=hm.el;have g1:cA (n+1033) 449 [P1]=some (.sl (E.map λe=>af (mE q l e))):=by rw[e1];exact Rq (n+1023) h.pa h.la hl
  have g2:cA (n+1033) 449 [P2]=some (.sl (E'.map λe=>af (mE r m e))):=by rw[e2];exact Rq (n+1023) h.pb h.lb hm
  rw[P];refine aa g2 (aa g1 (j0 (E.map λe=>af (mE q l e)) ?_));refine c6 (λi s=>s=[I (i:Int),Ha,P1,P2,jv c (fC x y q r l m (R0++(E.take i).flatMap (Kt q r l m E'))).2,iD (fC x y q r l m (R0++(E.take i).flatMap (Kt q r l m E'))).2,.bool (fC x y q r l m (R0++(E.take i).flatMap (Kt q r l m E'))).2.isSome,.sl ((fC x y q r l m (R0++(E.take i).flatMap (Kt q r l m E'))).1.map lS)]) E.length 0 (zAa _) (by rw[List.take_zero,List.flatMap_nil,zBb];rfl) (λi H s hs=>?_) (λs hs=>?_)
  ·subst hs;left;refine⟨_,?_,rfl⟩;have he:=hl.lt E[i] (zFa H);have W:=zi h.pa.hq h.la he;rw[nO _ H,<-zOa];obtain⟨R1,ad⟩:∃ R1,R0++(E.take i).flatMap (Kt q r l m E')=R1:=⟨_,rfl⟩;have U:∀ u∈R1++Kt q r l m E' E[i],bd NB u:=λu hu=>a5 u (by
    rw[<-ad,zOa] at hu;rcases List.mem_append.1 hu with hu|hu
    ·exact List.mem_append_left _ hu
    ·refine zJa _ ?_;rcases List.mem_append.1 hu with hu|hu
     ·obtain⟨a,ha,M⟩:=zPa.1 hu;exact zPa.2 ⟨a,zRa ha,M⟩
     ·exact zPa.2 ⟨_,zFa H,hu⟩)
   rw[ad];refine aa ah (aa ac (aY (by rw[zya];omega) (j0 (E.map λe=>af (mE q l e)) (aa (z:=i) (by rw[zya];exact aw H) (aa (z:=af (mE q l E[i])) (by simp[H]) (j0 (E'.map λe=>af (mE r m e)) ?_))))))
   obtain⟨e,ee⟩:∃ e,E[i]=e:=⟨_,rfl⟩;rw[ee] at he W U ⊢;obtain⟨c2,ax⟩:∃ c2:Nat×Nat->List V,c2=λf=>[aF (V.cross (mE q l e) (mE r m f)),(aF (V.cross (mE q l e) (mE r m f))).neg]:=⟨_,rfl⟩;rw[show Kt q r l m E' e=E'.flatMap c2 by rw[ax];rfl] at U ⊢
   refine c6 (λj s=>s=[I (j:Int),Ha,P1,P2,jv c (fC x y q r l m (R1++(E'.take j).flatMap c2)).2,iD (fC x y q r l m (R1++(E'.take j).flatMap c2)).2,.bool (fC x y q r l m (R1++(E'.take j).flatMap c2)).2.isSome,.sl ((fC x y q r l m (R1++(E'.take j).flatMap c2)).1.map lS)]) E'.length 0 (zAa _) (by rw[List.take_zero,List.flatMap_nil,zBb];rfl) (λj hj s hs=>?_) (λs hs=>?_)
   ·subst hs;left;refine⟨_,?_,rfl⟩;have hf:=hm.lt E'[j] (zFa hj);have an:=zi h.pb.hq h.lb hf;rw[nO _ hj,<-zOa];obtain⟨R,eR⟩:∃ R,R1++(E'.take j).flatMap c2=R:=⟨_,rfl⟩;have t:∀ w∈R++c2 E'[j],bd NB w:=λw hw=>U w (by
     rw[<-eR,zOa] at hw;rcases List.mem_append.1 hw with hw|hw
     ·exact List.mem_append_left _ hw
     ·refine zJa _ ?_;rcases List.mem_append.1 hw with hw|hw
      ·obtain⟨a,ha,M⟩:=zPa.1 hw;exact zPa.2 ⟨a,zRa ha,M⟩
      ·exact zPa.2 ⟨_,zFa hj,hw⟩)
    rw[eR];refine aa ah (aa ac (aY (by rw[zya];omega) (j0 (E'.map λe=>af (mE r m e)) (aa (z:=j) (by rw[zya];exact aw hj) (aa (z:=af (mE r m E'[j])) (by simp[hj]) (aa (Xj (n+1026) W an) ?_))))))
    have N:=xl W an;have ec:c2 E'[j]=[aF (V.cross (mE q l e) (mE r m E'[j])),(aF (V.cross (mE q l e) (mE r m E'[j]))).neg]:=by rw[ax]
    rw[ec] at t ⊢;obtain⟨v,ev⟩:∃ v,V.cross (mE q l e) (mE r m E'[j])=v:=⟨_,rfl⟩;rw[ev] at N t ⊢;obtain⟨X,eX⟩:∃ X,af (mE q l e)=X:=⟨_,rfl⟩;rw[eX];rw[show R++[aF v,(aF v).neg]=(R++[aF v])++[(aF v).neg] by simp] at t ⊢
    have b1:=@body R (aF v) (λw hw=>t w (List.mem_append_left _ hw));have b2:=@body (R++[aF v]) (aF v).neg t;rw[app _ (aF v).neg];obtain⟨⟨K2,S2⟩,ai⟩:∃ T,fC x y q r l m (R++[aF v])=T:=⟨_,rfl⟩;have Z:=ai;rw[app] at Z;rw[ai] at b2 ⊢;obtain⟨⟨K,S⟩,eT⟩:∃ T,fC x y q r l m R=T:=⟨_,rfl⟩;rw[eT] at b1 Z ⊢;have O:=Ro (n+3) N;have a7:aF v=V.zero↔v=V.zero:=se;have aB:(aF v).neg=V.zero↔v=V.zero:=by rw[vC,se]
    have bp:=fp N;refine aa (z:=(0,[.bool true,Ha,P1,P2,jv c S2,iD S2,.bool S2.isSome,.sl (K2.map lS),X,gG v])) ?_ (j0 (.bool false) (j0 false (rL ?_)))
    ·refine aa O (j0 (af (aF v)) (j0 (I (if v=V.zero then 31 else 0)) (aa (z:=(0,[Ha,P1,P2,jv c S,iD S,.bool S.isSome,.sl (K.map lS),X,gG v,af (aF v)])) (aa ah (aa ac (be j2 rfl))) ?_)))
     refine Qd a7 (K:=K) rfl rfl rfl (λhs=>?_) (λhs=>?_)
     ·rw[show lw mg vl (K,S) (aF v)=(K,S) from zna hs] at Z;cases Z;rfl
     ·rw[show lw mg vl (K,S) (aF v)=(K++[aF v],jk mg vl S (aF v)) from zka hs] at Z;have d:=qi K (aF v) (λC=>hs (.inr C));obtain⟨rfl,rfl⟩:=Prod.mk.inj Z;refine aa (z:=(0,[jv c (jk mg vl S (aF v)),iD (jk mg vl S (aF v)),.bool (jk mg vl S (aF v)).isSome,.sl ((K++[aF v]).map lS),X,gG v])) ?_ rfl;refine b1 rfl (λC=>hs (.inl C)) (λe=>?_) (λe=>?_)
      ·rw[e,<-d];rfl
      ·rw[e,<-d];rfl
    ·obtain⟨u,Q⟩:∃ u,(aF v).neg=u:=⟨_,rfl⟩;rw[Q] at aB b2 ⊢;refine aa (z:=(0,[.bool true,Ha,P1,P2,jv c (lw mg vl (K2,S2) u).2,iD (lw mg vl (K2,S2) u).2,.bool (lw mg vl (K2,S2) u).2.isSome,.sl ((lw mg vl (K2,S2) u).1.map lS),X])) ?_ (j0 (.bool false) (j0 false (rL (aa (a8 (a:=j) (b:=1) j1) rfl))))
     refine aa O (j0 (af (aF v)) (j0 (I (if v=V.zero then 31 else 0)) (aa (z:=(0,[Ha,P1,P2,jv c S2,iD S2,.bool S2.isSome,.sl (K2.map lS),X,af u])) (aa ah (aa ac (aY j2 (aa (Qu (n+1032) bp j2) (by rw[Q];rfl))))) ?_)))
     refine Qd aB (K:=K2) rfl rfl rfl (λhs=>?_) (λhs=>?_)
     ·rw[show lw mg vl (K2,S2) u=(K2,S2) from zna hs];rfl
     ·rw[show lw mg vl (K2,S2) u=(K2++[u],jk mg vl S2 u) from zka hs];have d:=qi K2 u (λC=>hs (.inr C));refine aa (z:=(0,[jv c (jk mg vl S2 u),iD (jk mg vl S2 u),.bool (jk mg vl S2 u).isSome,.sl ((K2++[u]).map lS),X])) ?_ rfl;refine b2 rfl (λC=>hs (.inl C)) (λe=>?_) (λe=>?_)
      ·rw[e,<-d];rfl
      ·rw[e,<-d];rfl
   ·subst hs;refine⟨_,aa ah (aa ac (be (by rw[zya];omega) rfl)),?_⟩
    rw[zfb (zia _)];exact MW (aa (a8 (a:=i) (b:=1) j1) rfl)
  ·subst hs;refine⟨_,aa ah (aa ac (be (by rw[zya];omega) rfl)),?_⟩
   rw[zfb (zia _),a6];exact MW rfl
end
def JN{mg vl:V->Rat}(R:List V):(∀ u∈R,u≠V.zero->u∈(oq mg vl R).1)/\∀ u∈(oq mg vl R).1,¬ mg u<0->∃ p,(oq mg vl R).2=some p/\vl u<=p.2:=by
 refine BH (P:=λR=>(∀ u∈R,u≠V.zero->u∈(oq mg vl R).1)/\∀ u∈(oq mg vl R).1,¬ mg u<0->∃ p,(oq mg vl R).2=some p/\vl u<=p.2) ⟨λu hu=>(by cases hu),λu hu=>(by cases hu)⟩ (λR w ih=>?_) R
 obtain⟨i1,i2⟩:=ih;rw[vV];unfold lw;split
 ·rename_i hw;refine⟨λu hu h0=>?_,i2⟩;rcases List.mem_append.1 hu with hu|hu
  ·exact i1 u hu h0
  ·rw[zLa.1 hu] at h0 ⊢;exact hw.resolve_left h0
 ·refine⟨λu hu h0=>?_,λu hu hm=>?_⟩
  ·rcases List.mem_append.1 hu with hu|hu
   ·exact List.mem_append_left _ (i1 u hu h0)
   ·exact zJa _ hu
  ·dsimp only[jk];rcases List.mem_append.1 hu with hu|hu
   ·obtain⟨p,e,hp⟩:=i2 u hu hm;rw[e];dsimp only;by_cases hw:mg w<0
    ·rw[zna hw];exact⟨p,rfl,hp⟩
    ·rw[zka hw];by_cases a:p.2<vl w
     ·rw[zna a];exact⟨_,rfl,Rat.le_trans hp (Rat.le_of_lt a)⟩
     ·rw[zka a];exact⟨p,rfl,hp⟩
   ·rw[zLa.1 hu] at hm ⊢;rw[zka hm];cases (oq mg vl R).2 with
    | none=>exact⟨_,rfl,Rat.le_refl⟩
    | some p=>
     dsimp only;split
     ·exact⟨_,rfl,Rat.le_refl⟩
     ·rename_i a;exact⟨p,rfl,Rat.not_lt.1 a⟩
def PU(u:V):u.neg.neg=u:=by cases u;simp[V.neg]
section
variable{x y:V}{q r:Nat->Int}{l m:List V}{F G:FL}{E E':List (Nat×Nat)}
def PairOk.swap(h:PairOk x y q r l m):PairOk y x r q m l:=⟨h.pb,h.pa,h.lb,h.la,h.nb,h.na,h.kb,h.ka,h.tb,h.ta⟩
end
def z7{l:List V}(g:V->V){i:Nat}(h:i<l.length):pt (l.map g) i=g (pt l i):=by unfold pt;rw[z1a,z1a,zhb,zca h];rfl
def jz(u b:V):V.dot u.neg b=-V.dot u b:=by cases u;simp only[V.dot,V.neg];grind
end Sy
end
end Go.Proofs.YtphlmegkommlnaaGreatDoor
