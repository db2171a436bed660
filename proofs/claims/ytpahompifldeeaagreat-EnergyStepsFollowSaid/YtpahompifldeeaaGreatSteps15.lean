/- For every yard with at most 6 things, of few parts, and three scenes, all right: each can follow itself; if the second one can follow the first one, and the third one the second one, the third one can follow the first one; two can follow each other exactly if their energies are equal. No condition. -/
import Derived.Test.YtpahompifldeeaaGreatSteps06
import Derived.Test.YtpahompifldeeaaGreatSteps14
import Derived.Test.YtpahompifldeeaaGreatRows
set_option linter.unusedVariables false
set_option linter.unusedSimpArgs false
set_option linter.unnecessarySimpa false
set_option linter.defProp false
set_option maxRecDepth 20000
namespace Go.Proofs.YtpahompifldeeaaGreat
noncomputable section
namespace Sy
open Go Go.Proofs Geo
structure Thg where
 kd:Int
 b:Bdy
 st:Po
def ef(t:Thg):D:=.st [I t.kd,eW t.b,f8 t.st]
structure Psh where
 th:Int
 at_:V
 f0:V
 f1:V
def dq(p:Psh):D:=.st [I p.th,ag p.at_,.st [ag p.f0,ag p.f1]]
structure Yrd where
 g:Int
 c0:Int
 c1:Int
 T:List Thg
 rp:D
 Pu:List Psh
def pI(y:Yrd):D:=.st [I y.g,.st [I y.c0,I y.c1],.sl (y.T.map ef),y.rp,.sl (y.Pu.map dq)]
structure Scn where
 st:List Bool
 po:List Po
 v:List V
 w:List V
 ta:List Bool
 ac:List Bool
def ji(s:Scn):D:=.st [fm s.st,.sl (s.po.map f8),.sl (s.v.map ag),.sl (s.w.map ag),fm s.ta,fm s.ac]
def eJ(l:List Thg):(l.map ef).length=l.length:=zoa ..
def c8(l:List Psh):(l.map dq).length=l.length:=zoa ..
def Le{l:List Thg}{i:Nat}(h:i<l.length):(l.map ef)[i]?=some (ef l[i]):=by simp[h]
def FD{l:List Psh}{i:Nat}(h:i<l.length):(l.map dq)[i]?=some (dq l[i]):=by simp[h]
def sW{A:Option D}{Q:Bool->Prop}(h:∃ y,A=some y/\∃ v:Bool,y=.bool v/\Q v):∃ v:Bool,A=some (.bool v)/\Q v:=by
 obtain⟨y,h,v,rfl,q⟩:=h;exact⟨v,h,q⟩
def L4(n:Nat)(v:V){m:Int}(hm:0<=m/\m<=4611686018427387904):∃ o:Bool,cA (n+1) 358 [ag v,I m]=some (.bool o)/\(o=true->bd m v):=by
 refine sW ?_;rw[WS];delta IK qB qC qT qJ qZ iL iR Jn;refine cW (λk s=>s=[I (k:Int)]/\∀ t,t<k->dY v t<=m/\-m<=dY v t) 3 0 (zga _) ⟨rfl,λt h=>by omega⟩ (λk hk s hJ=>?_) (λs hJ=>?_)
 ·obtain⟨rfl,hJ⟩:=hJ;refine ab af (ab ae (bA (by show(k:Int)<3;omega) (ab (ak hk) (ab (oz hk) (ab bP (ab ae (ab (gv (aa (ak hk) (aa (oz hk) (aa (yl (by simp only[inR];omega)) (aa af ae))))) (ab ae ?_))))))))
  cases hc:(decide (dY v k>m)||decide (dY v k < -m)) with
  | true=>exact⟨.inr (0,[.bool false]),rfl,.bool false,rfl,false,rfl,λh=>by cases h⟩
  | false=>
   simp only[zNb,decide_eq_false_iff_not] at hc;refine⟨.inl [I ((k+1:Nat):Int)],by rw[if_neg (by decide)];exact aa (au (a:=k) (b:=1) (by omega)) rfl,rfl,λt ht=>?_⟩
   by_cases e:t=k
   ·subst e;omega
   ·exact hJ t (by omega)
 ·obtain⟨rfl,hJ⟩:=hJ;exact⟨.inr (1,[]),aa af (aa ae (az (by decide) rfl)),.bool true,rfl,true,rfl,λ_=>B6 hJ⟩
structure YOk(y:Yrd):Prop where
 tl:y.T.length<=6
 pl:y.Pu.length<=16
 g0:0<=y.g
 g1:y.g<=1048576
 b:∀ t∈y.T,BOk t.b
 p:∀ p∈y.Pu,1<=p.th/\p.th<=y.T.length/\bd 4096 p.at_/\bd 1099511627776 p.f0
def UH(n:Nat)(y:Yrd)(hL:∀ t∈y.T,t.b.P.length<=9223372036854775807):∃ o:Bool,cA (n+14) 338 [pI y]=some (.bool o)/\(o=true->YOk y):=by
 refine sW ?_;rw[WH];delta Iz qG qB qC qT qN qY qM qP qZ iL iR Jn;have gT:D.get (pI y) [2]=some (.sl (y.T.map ef)):=rfl;have gP:D.get (pI y) [4]=some (.sl (y.Pu.map dq)):=rfl;have gg:D.get (pI y) [0]=some (I y.g):=rfl;refine ab gT (ab (z:=y.T.map ef) rfl (ab bP (ab ae (ab (gv (aa gP (aa (z:=y.Pu.map dq) rfl (aa bP ae)))) (ab ae (ab (gv (aa gg (aa af ae))) (ab ae (ab (gv (aa gg (aa bP ae))) (ab ae ?_)))))))));rw[eJ,c8];cases hq:(decide ((y.T.length:Int)>6)||decide ((y.Pu.length:Int)>16)||decide (y.g<0)||decide (y.g>1048576)) with
 | true=>exact⟨.bool false,rfl,false,rfl,λh=>by cases h⟩
 | false=>
 simp only[zNb,decide_eq_false_iff_not] at hq;rw[if_neg (by decide)]
 refine cW (λi s=>s=[I (i:Int)]/\∀ t∈y.T.take i,BOk t.b) y.T.length 0 (zga _) ⟨rfl,by simp⟩ (λi hi s hJ=>?_) (λs hJ=>?_)
 ·obtain⟨rfl,hJ⟩:=hJ;obtain⟨o,ho,hB⟩:=UE n y.T[i].b (hL _ (zla hi));refine ab gT (ab (z:=y.T.map ef) rfl (ab af (ab ae (bA (by show(i:Int)<((y.T.map ef).length:Int);rw[eJ];omega) (ab gT (ab (z:=y.T.map ef) rfl (ab (z:=i) (by rw[eJ];exact ak hi) (ab (Le hi) (ab (z:=eW y.T[i].b) rfl (ab ho (ab bg (ab ae ?_))))))))))))
  cases o
  ·exact⟨.inr (0,[.bool false]),rfl,.bool false,rfl,false,rfl,λh=>by cases h⟩
  ·refine⟨.inl [I ((i+1:Nat):Int)],by rw[if_neg (by decide)];exact aa (au (a:=i) (b:=1) (by omega)) rfl,rfl,?_⟩
   rw[zka hi];intro t ht;rcases zwa.1 ht with ht|ht
   ·exact hJ t ht
   ·rw[zAa.1 ht];exact hB rfl
 ·obtain⟨rfl,hJ⟩:=hJ;rw[zIa] at hJ;refine⟨.inr (1,[]),aa gT (aa (z:=y.T.map ef) rfl (aa af (aa ae (az (by show ¬ ((y.T.length:Int)<((y.T.map ef).length:Int));rw[eJ];omega) rfl)))),?_⟩
  refine oh ?_;refine cW (λi s=>s=[I (i:Int)]/\∀ p∈y.Pu.take i,1<=p.th/\p.th<=y.T.length/\bd 4096 p.at_/\bd 1099511627776 p.f0) y.Pu.length 0 (zga _) ⟨rfl,by simp⟩ (λi hi s hK=>?_) (λs hK=>?_)
  ·obtain⟨rfl,hK⟩:=hK;obtain⟨o1,h1,k1⟩:=L4 (n+12) y.Pu[i].at_ (m:=4096) (by decide)
   obtain⟨o2,h2,k2⟩:=L4 (n+12) y.Pu[i].f0 (m:=1099511627776) (by decide)
   obtain⟨o3,h3,k3⟩:=L4 (n+12) y.Pu[i].f1 (m:=1099511627776) (by decide)
   have gt:D.get (dq y.Pu[i]) [0]=some (I y.Pu[i].th):=rfl;refine ab gP (ab (z:=y.Pu.map dq) rfl (ab af (ab ae (bA (by show(i:Int)<((y.Pu.map dq).length:Int);rw[c8];omega) (ab gP (ab (z:=y.Pu.map dq) rfl (ab (z:=i) (by rw[c8];exact ak hi) (ab (FD hi) ?_))))))))
   refine ab gt (ab af (ab ae (ab (gv (aa gt (aa gT (aa (z:=y.T.map ef) rfl (aa bP ae))))) (ab ae (ab (gv (aa (z:=ag y.Pu[i].at_) rfl (aa h1 (aa bg ae)))) (ab ae (ab (gv (aa (z:=ag y.Pu[i].f0) rfl (aa h2 (aa bg ae)))) (ab ae (ab (gv (aa (z:=ag y.Pu[i].f1) rfl (aa h3 (aa bg ae)))) (ab ae ?_))))))))));rw[eJ];cases hc:(decide (y.Pu[i].th<1)||decide (y.Pu[i].th>(y.T.length:Int))||!o1||!o2||!o3) with
   | true=>exact⟨.inr (0,[.bool false]),rfl,.bool false,rfl,false,rfl,λh=>by cases h⟩
   | false=>
    simp only[zNb,decide_eq_false_iff_not,Bool.not_eq_false'] at hc;obtain⟨⟨⟨⟨c1,c2⟩,c3⟩,c4⟩,_⟩:=hc;refine⟨.inl [I ((i+1:Nat):Int)],by rw[if_neg (by decide)];exact aa (au (a:=i) (b:=1) (by omega)) rfl,rfl,?_⟩
    rw[zka hi];intro p hp;rcases zwa.1 hp with hp|hp
    ·exact hK p hp
    ·rw[zAa.1 hp];exact⟨by omega,by omega,k1 c3,k2 c4⟩
  ·obtain⟨rfl,hK⟩:=hK;rw[zIa] at hK;exact⟨.inr (1,[]),aa gP (aa (z:=y.Pu.map dq) rfl (aa af (aa ae (az (by show ¬ ((y.Pu.length:Int)<((y.Pu.map dq).length:Int));rw[c8];omega) rfl)))),.bool true,rfl,true,rfl,λ_=>⟨by omega,by omega,by omega,by omega,hJ,hK⟩⟩
def NB(p:Po):Prop:=AX p.1=true/\zi p.2=true/\∃ i,i<4/\p.2 i≠0
structure WOk(y:Yrd)(s:Scn):Prop where
 yok:YOk y
 st:s.st.length=y.T.length
 po:s.po.length=y.T.length
 v:s.v.length=y.T.length
 w:s.w.length=y.T.length
 ac:s.ac.length=y.Pu.length
 pok:∀ p∈s.po,NB p
 vok:∀ v∈s.v,gc v=true
 wok:∀ v∈s.w,gc v=true
def tB{a b:Nat}:D.truth (D.bool (!(D.beq (D.int .i64 (a:Int)) (D.int .i64 (b:Int)))))=some (!decide ((a:Int)=(b:Int))):=by
 rw[show D.beq (D.int .i64 (a:Int)) (D.int .i64 (b:Int))=_ from bF];rfl
def pZ{α:Type}{l:List α}{i:Nat}(hi:i<l.length){Q:α->Prop}(h:∀ x∈l.take i,Q x)(k:Q l[i]):∀ x∈l.take (i+1),Q x:=by
 rw[zka hi];intro x hx;rcases zwa.1 hx with hx|hx
 ·exact h x hx
 ·rw[zAa.1 hx];exact k
def L2(n:Nat)(y:Yrd)(s:Scn)(hL:∀ t∈y.T,t.b.P.length<=9223372036854775807):∃ o:Bool,cA (n+15) 315 [pI y,ji s]=some (.bool o)/\(o=true->WOk y s):=by
 refine sW ?_;rw[Wx];delta Ip qG qB qC qT qN qX qY qM qP qZ iL iR Jn;obtain⟨o,h338,hY⟩:=UH n y hL;have gP:D.get (pI y) [4]=some (.sl (y.Pu.map dq)):=rfl;refine ab h338 (ab (z:=.sl (y.T.map ef)) rfl (ab (z:=y.T.map ef) rfl (ab bg (ab ae ?_))));refine ab (gv (aa (z:=fm s.st) rfl (aa (z:=s.st.map D.bool) rfl tB))) (ab ae ?_);refine ab (gv (aa (z:=.sl (s.po.map f8)) rfl (aa (z:=s.po.map f8) rfl tB))) (ab ae ?_);refine ab (gv (aa (z:=.sl (s.v.map ag)) rfl (aa (z:=s.v.map ag) rfl tB))) (ab ae ?_);refine ab (gv (aa (z:=.sl (s.w.map ag)) rfl (aa (z:=s.w.map ag) rfl tB))) (ab ae ?_);refine ab (gv (aa (z:=fm s.ac) rfl (aa (z:=s.ac.map D.bool) rfl (aa gP (aa (z:=y.Pu.map dq) rfl tB))))) (ab ae ?_);simp only[eh,eJ,mv,aD,c8];cases hq:(!o||!decide ((s.st.length:Int)=(y.T.length:Int))||!decide ((s.po.length:Int)=(y.T.length:Int))||!decide ((s.v.length:Int)=(y.T.length:Int))||!decide ((s.w.length:Int)=(y.T.length:Int))||!decide ((s.ac.length:Int)=(y.Pu.length:Int))) with
 | true=>exact⟨.bool false,rfl,false,rfl,λh=>by cases h⟩
 | false=>
 simp only[zNb,Bool.not_eq_false',decide_eq_true_eq] at hq;obtain⟨⟨⟨⟨⟨q0,q1⟩,q2⟩,q3⟩,q4⟩,q5⟩:=hq;have hY:=hY q0;have tl:=hY.tl;have pl:=hY.pl;rw[if_neg (by decide)]
 refine cW (λi s'=>s'=[I (i:Int)]/\(∀ p∈s.po.take i,NB p)/\(∀ v∈s.v.take i,gc v=true)/\∀ v∈s.w.take i,gc v=true) y.T.length 0 (zga _) ⟨rfl,by simp,by simp,by simp⟩ (λi hi s' hJ=>?_) (λs' hJ=>?_)
 ·obtain⟨rfl,j1,j2,j3⟩:=hJ;have i1:i<s.po.length:=by omega
  have i2:i<s.v.length:=by omega
  have i3:i<s.w.length:=by omega
  obtain⟨v,h308,hv⟩:=UB (n+10) s.po[i].1 s.po[i].2;have eb:D.truth (D.bool (!(D.beq (I (if v=true then 0 else 1)) (D.int .i64 0))))=some (!v):=by cases v<;>rfl
  refine ab af (ab ae (bA (by show(i:Int)<(y.T.length:Int);omega) ?_))
  refine ab (z:=.sl (s.po.map f8)) rfl (ab (z:=s.po.map f8) rfl (ab (z:=i) (by rw[mv];exact ak i1) (ab (FC i1) (ab h308 (ab eb ?_)))))
  refine ab (gv (aa (z:=.sl (s.v.map ag)) rfl (aa (z:=s.v.map ag) rfl (aa (z:=i) (by rw[aD];exact ak i2) (aa (nw i2) (aa (NW (n+13) _) (aa bg ae))))))) (ab ae ?_)
  refine ab (gv (aa (z:=.sl (s.w.map ag)) rfl (aa (z:=s.w.map ag) rfl (aa (z:=i) (by rw[aD];exact ak i3) (aa (nw i3) (aa (NW (n+13) _) (aa bg ae))))))) (ab ae ?_)
  cases hc:(!v||!gc s.v[i]||!gc s.w[i]) with
  | true=>exact⟨.inr (0,[.bool false]),rfl,.bool false,rfl,false,rfl,λh=>by cases h⟩
  | false=>
   simp only[zNb,Bool.not_eq_false'] at hc;refine⟨.inl [I ((i+1:Nat):Int)],by rw[if_neg (by decide)];exact aa (au (a:=i) (b:=1) (by omega)) rfl,rfl,pZ i1 j1 (hv hc.1.1),pZ i2 j2 hc.1.2,pZ i3 j3 hc.2⟩
 ·obtain⟨rfl,j1,j2,j3⟩:=hJ;rw[zDb (by omega)] at j1 j2 j3
  refine⟨.inr (1,[]),aa af (aa ae (az (by show ¬ ((y.T.length:Int)<(y.T.length:Int));omega) rfl)),?_⟩
  refine oh ?_;refine cW (λi s'=>s'=[I (i:Int)]) y.Pu.length 0 (zga _) rfl (λi hi s' hK=>?_) (λs' hK=>?_)
  ·subst hK;have i1:i<s.ac.length:=by omega
   obtain⟨p1,p2,_,_⟩:=hY.p _ (zla hi);have hk:(y.Pu[i].th-1).toNat<s.st.length:=by omega
   have e1:y.Pu[i].th-1=(((y.Pu[i].th-1).toNat:Nat):Int):=by omega
   refine ab gP (ab (z:=y.Pu.map dq) rfl (ab af (ab ae (bA (by show(i:Int)<((y.Pu.map dq).length:Int);rw[c8];omega) ?_))))
   refine ab (z:=fm s.ac) rfl (ab (z:=s.ac.map D.bool) rfl (ab (z:=i) (by rw[eh];exact ak i1) (ab (vn i1) (ab ae (ab (z:=s.ac[i]&&!s.st[(y.Pu[i].th-1).toNat]) ?_ (ab ae ?_))))))
   ·cases s.ac[i]
    ·rfl
    ·rw[if_pos rfl];exact aa (z:=fm s.st) rfl (aa gP (aa (z:=y.Pu.map dq) rfl (aa (z:=i) (by rw[c8];exact ak hi) (aa (FD hi) (aa (z:=I y.Pu[i].th) rfl (aa (cV (by simp only[inR];omega)) (aa (z:=s.st.map D.bool) rfl (aa (z:=(y.Pu[i].th-1).toNat) (by rw[eh,e1];exact ak hk) (aa (vn hk) (aa bg ae))))))))))
   ·generalize (s.ac[i]&&!s.st[(y.Pu[i].th-1).toNat])=c;cases c
    ·exact⟨.inl [I ((i+1:Nat):Int)],by rw[if_neg (by decide)];exact aa (au (a:=i) (b:=1) (by omega)) rfl,rfl⟩
    ·exact⟨.inr (0,[.bool false]),rfl,.bool false,rfl,false,rfl,λh=>by cases h⟩
  ·subst hK;exact⟨.inr (1,[]),aa gP (aa (z:=y.Pu.map dq) rfl (aa af (aa ae (az (by show ¬ ((y.Pu.length:Int)<((y.Pu.map dq).length:Int));rw[c8];omega) rfl)))),.bool true,rfl,true,rfl,λ_=>⟨hY,by omega,by omega,by omega,by omega,by omega,j1,j2,j3⟩⟩
end Sy
end
noncomputable section
namespace Sy
open Go Go.Proofs Geo
def MD:Po:=(V.zero,λ_=>0)
def tu(F:Nat->Nat->Option Rat)(y:Yrd)(s:Scn)(i:Nat):Option Rat:=match y.T[i]? with|some t=>AS t.b.m0 (F i) (s.v.getD i V.zero) (s.w.getD i V.zero)|none=>none
def tR(y:Yrd)(s:Scn)(i:Nat):Option Rat:=match y.T[i]? with|some t=>some ((t.b.m0*y.g*(s.po.getD i MD).1.z:Int):Rat)|none=>none
def wc(y:Yrd)(s:Scn)(k:Nat):Option Rat:=match y.Pu[k]? with|some p=>tq (yb p.f0) (Jl (s.po.getD (p.th-1).toNat MD).1 (s.po.getD (p.th-1).toNat MD).2 p.at_)|none=>none
def qF(F:Nat->Nat->Option Rat)(y:Yrd)(s:Scn):Nat->List (Option Rat)
 | 0=>[]
 | i+1=>if s.st.getD i false=true then qF F y s i++[tu F y s i]++[tR y s i] else qF F y s i
def Am(y:Yrd)(s:Scn)(l:List (Option Rat)):Nat->List (Option Rat)
 | 0=>l
 | i+1=>if s.ac.getD i false=true then Am y s l i++[F9 (wc y s i)] else Am y s l i
def iQ(F:Nat->Nat->Option Rat)(y:Yrd)(s:Scn):Option Rat:=(Am y s (qF F y s y.T.length) y.Pu.length).foldl eC (some 0)
theorem rO(F:Nat->Nat->Option Rat)(y:Yrd)(s:Scn):∀ i,(qF F y s i).length<=2*i
 | 0=>by simp[qF]
 | i+1=>by
  have:=rO F y s i;unfold qF;split<;>simp<;>omega
theorem wV(y:Yrd)(s:Scn)(l:List (Option Rat)):∀ i,(Am y s l i).length<=l.length+i
 | 0=>by simp[Am]
 | i+1=>by
  have:=wV y s l i;unfold Am;split<;>simp<;>omega
def PP(F:Nat->Nat->Option Rat)(y:Yrd):Prop:=∀ i (h:i<y.T.length),(∀ j,OW (F i j))/\∀ v w,gc v=true->gc w=true->∀ n,cA (n+1036) 309 [eW y.T[i].b,ag v,ag w]=some (bq (AS y.T[i].b.m0 (F i) v w))
def MB{y:Yrd}(h:YOk y):∃ F,PP F y:=by
 have k:∀ i,∃ f:Nat->Option Rat,∀ h:i<y.T.length,(∀ j,OW (f j))/\∀ v w,gc v=true->gc w=true->∀ n,cA (n+1036) 309 [eW y.T[i].b,ag v,ag w]=some (bq (AS y.T[i].b.m0 f v w)):=λi=>by
  by_cases hi:i<y.T.length
  ·obtain⟨f,hf⟩:=Mw (h.b _ (zla hi));exact⟨f,λ_=>hf⟩
  ·exact⟨λ_=>none,λh=>absurd h hi⟩
 exact⟨λi=>Classical.choose (k i),λi hi=>Classical.choose_spec (k i) hi⟩
def GE(y:Yrd)(s:Scn)(k:Nat):OW (wc y s k):=by
 unfold wc;split
 ·exact rS _ _
 ·exact kl
def Lo{b:Bdy}(h:BOk b):b.m0.natAbs<=2^60:=by
 have:=h.m0;have:=h.m1;have:=h.m2;rw[show(2:Nat)^60=1152921504606846976 from rfl];omega
def MF{m g z:Int}(hm:m.natAbs<=2^60)(hg:g.natAbs<=2^60)(hz:z.natAbs<=2^60):OW (some ((m*g*z:Int):Rat)):=cY ((mf (Gj hm hg hz).2).inR (by decide) (by decide))
def Ln{p:Po}(h:NB p):p.1.z.natAbs<=2^60:=zCa (Cy h.1).2.2 (by decide)
def My{p:Po}(h:NB p)(i:Nat):inR (dY p.1 i):=by
 have:=Cy h.1;rw[show(2:Nat)^47=140737488355328 from rfl] at this;exact tj (by simp only[inR];omega) (by simp only[inR];omega) (by simp only[inR];omega) i
def Oz{p:Po}(h:NB p):EB p.2:=Cw h.2.1
def Ok{v:V}(h:bd 1099511627776 v)(i:Nat):inR (dY v i):=by
 unfold bd at h;exact tj (by simp only[inR];omega) (by simp only[inR];omega) (by simp only[inR];omega) i
def Oq{y:Yrd}(h:YOk y):y.g.natAbs<=2^60:=by
 have:=h.g0;have:=h.g1;rw[show(2:Nat)^60=1152921504606846976 from rfl];omega
theorem La{F:Nat->Nat->Option Rat}{y:Yrd}{s:Scn}(h:WOk y s):∀ i,i<=y.T.length->∀ x∈qF F y s i,OW x
 | 0,_=>by simp[qF]
 | i+1,hi=>by
  have ih:=La (F:=F) h i (by omega)
  have hk:OW (tu F y s i):=by
   unfold tu;split
   ·exact J4 _ _ _ _
   ·exact kl
  have hi':i<y.T.length:=by omega
  have hp':i<s.po.length:=by rw[h.po];exact hi'
  have hp:OW (tR y s i):=by
   unfold tR;rw[zca hi'];simp only[zKa,zca hp',zmb];exact MF (Lo (h.yok.b _ (zla hi'))) (Oq h.yok) (Ln (h.pok _ (zla hp')))
  unfold qF;split
  ·intro x hx;rcases zwa.1 hx with hx|hx
   ·rcases zwa.1 hx with hx|hx
    ·exact ih x hx
    ·rw[zAa.1 hx];exact hk
   ·rw[zAa.1 hx];exact hp
  ·exact ih
theorem Fo{y:Yrd}{s:Scn}{l:List (Option Rat)}(hl:∀ x∈l,OW x):∀ i,∀ x∈Am y s l i,OW x
 | 0=>by simpa [Am] using hl
 | i+1=>by
  have ih:=Fo (y:=y) (s:=s) hl i;unfold Am;split
  ·intro x hx;rcases zwa.1 hx with hx|hx
   ·exact ih x hx
   ·rw[zAa.1 hx];exact CJ (GE y s i)
  ·exact ih
theorem Cj:∀ {l:List (Option Rat)} {a:Option Rat},OW a->OW (l.foldl eC a)
 | [],a,h=>h
 | x::l,a,h=>Cj (l:=l) (jc a x)
def KO:OW (some (0:Rat)):=cY (yf (ce (eO 0)))
def rZ(F:Nat->Nat->Option Rat)(y:Yrd)(s:Scn):OW (iQ F y s):=Cj KO
def tK(l:List (Option Rat))(x:Option Rat):l.map bq++[bq x]=(l++[x]).map bq:=by simp
def Ld{l:List Bool}{i:Nat}(h:i<l.length):l.getD i false=l[i]:=by simp[h]
def JD(n:Nat){F:Nat->Nat->Option Rat}{y:Yrd}{s:Scn}(hF:PP F y)(h:WOk y s):cA (n+1037) 316 [pI y,ji s]=some (bq (iQ F y s)):=by
 have hY:=h.yok;have tl:=hY.tl;have pl:=hY.pl;have hst:=h.st;have hpo:=h.po;have hv:=h.v;have hw:=h.w;have hac:=h.ac;rw[Wy];delta Iq qG qB qC qT qS qX qY qV qW qZ iL iR Jn;refine aa (z:=.sl (y.T.map ef)) rfl (aa (z:=y.T.map ef) rfl ?_);refine ba (λi s'=>∃ z,s'=[I (i:Int),z,.sl ((qF F y s i).map bq)]) y.T.length 0 (zga _) ⟨_,rfl⟩ (λi hi s' hJ=>?_) (λs' hJ=>?_)
 ·obtain⟨z,rfl⟩:=hJ;left;refine⟨[I ((i+1:Nat):Int),z,.sl ((qF F y s (i+1)).map bq)],?_,z,rfl⟩;have i1:i<s.st.length:=by omega
  have i2:i<s.po.length:=by omega
  have i3:i<s.v.length:=by omega
  have i4:i<s.w.length:=by omega
  have el:=rO F y s i;refine aa af (aa ae (aC (by show(i:Int)<((y.T.map ef).length:Int);rw[eJ];omega) (aa (z:=y.T.map ef) rfl (aa (z:=i) (by rw[eJ];exact ak hi) (aa (Le hi) (aa (z:=fm s.st) rfl (aa (z:=s.st.map D.bool) rfl (aa (z:=i) (by rw[eh];exact ak i1) (aa (vn i1) (aa ae ?_))))))))))
  have eT:qF F y s (i+1)=if s.st[i]=true then qF F y s i++[tu F y s i]++[tR y s i] else qF F y s i:=by
   rw[<-Ld i1];rfl
  rw[eT];cases hb:s.st[i] with
  | false=>
   rw[if_neg (by decide),if_neg (by decide)]
   exact aa (au (a:=i) (b:=1) (by omega)) rfl
  | true=>
   rw[if_pos rfl,if_pos rfl];have hk:tu F y s i=AS y.T[i].b.m0 (F i) s.v[i] s.w[i]:=by simp[tu,hi,i3,i4]
   have hp:tR y s i=some ((y.T[i].b.m0*y.g*s.po[i].1.z:Int):Rat):=by simp only[tR,zca hi,zKa,zca i2,zmb]
   have h309:=(hF i hi).2 s.v[i] s.w[i] (h.vok _ (zla i3)) (h.wok _ (zla i4)) n;rw[<-hk] at h309;have h313:=UC (n+3) (b:=eW y.T[i].b) (p:=f8 s.po[i]) (m:=y.T[i].b.m0) (g:=y.g) (z:=s.po[i].1.z) rfl rfl (Lo (hY.b _ (zla hi))) (Oq hY) (Ln (h.pok _ (zla i2)));have h313':cA (n+1036) 313 [eW y.T[i].b,I y.g,f8 s.po[i]]=some (bq (tR y s i)):=by rw[hp];exact h313
   refine aa (z:=eW y.T[i].b) rfl (aa (z:=.sl (s.v.map ag)) rfl (aa (z:=s.v.map ag) rfl (aa (z:=i) (by rw[aD];exact ak i3) (aa (nw i3) ?_))))
   refine aa (z:=.sl (s.w.map ag)) rfl (aa (z:=s.w.map ag) rfl (aa (z:=i) (by rw[aD];exact ak i4) (aa (nw i4) (aa h309 ?_))))
   refine(if_pos (by show((qF F y s i).map bq).length+1<=1073741824;rw[zoa];omega)).trans ?_
   refine aa (z:=eW y.T[i].b) rfl (aa (z:=I y.g) rfl (aa (z:=.sl (s.po.map f8)) rfl (aa (z:=s.po.map f8) rfl (aa (z:=i) (by rw[mv];exact ak i2) (aa (FC i2) (aa h313' ?_))))))
   refine(if_pos (by show((qF F y s i).map bq++[bq (tu F y s i)]).length+1<=1073741824;rw[zua,zoa];simp;omega)).trans ?_
   rw[<-tK,<-tK];exact aa (au (a:=i) (b:=1) (by omega)) rfl
 ·obtain⟨z,rfl⟩:=hJ;refine⟨(0,[z,.sl ((qF F y s y.T.length).map bq)]),aa af (aa ae (az (by show ¬ ((y.T.length:Int)<((y.T.map ef).length:Int));rw[eJ];omega) rfl)),?_⟩
  refine aa (z:=.sl (y.Pu.map dq)) rfl (aa (z:=y.Pu.map dq) rfl ?_);refine ba (λi s'=>s'=[I (i:Int),z,.sl ((Am y s (qF F y s y.T.length) i).map bq)]) y.Pu.length 0 (zga _) rfl (λi hi s' hJ=>?_) (λs' hJ=>?_)
  ·subst hJ;left;refine⟨[I ((i+1:Nat):Int),z,.sl ((Am y s (qF F y s y.T.length) (i+1)).map bq)],?_,rfl⟩;have i1:i<s.ac.length:=by omega
   have el:=rO F y s y.T.length;have ep:=wV y s (qF F y s y.T.length) i;refine aa af (aa ae (aC (by show(i:Int)<((y.Pu.map dq).length:Int);rw[c8];omega) (aa (z:=y.Pu.map dq) rfl (aa (z:=i) (by rw[c8];exact ak hi) (aa (FD hi) (aa (z:=fm s.ac) rfl (aa (z:=s.ac.map D.bool) rfl (aa (z:=i) (by rw[eh];exact ak i1) (aa (vn i1) (aa ae ?_))))))))))
   have eT:Am y s (qF F y s y.T.length) (i+1)=if s.ac[i]=true then Am y s (qF F y s y.T.length) i++[F9 (wc y s i)] else Am y s (qF F y s y.T.length) i:=by
    rw[<-Ld i1];rfl
   rw[eT];cases hb:s.ac[i] with
   | false=>
    rw[if_neg (by decide),if_neg (by decide)]
    exact aa (au (a:=i) (b:=1) (by omega)) rfl
   | true=>
    rw[if_pos rfl,if_pos rfl];obtain⟨p1,p2,p3,p4⟩:=hY.p _ (zla hi);have hk:(y.Pu[i].th-1).toNat<s.po.length:=by omega
    have e1:y.Pu[i].th-1=(((y.Pu[i].th-1).toNat:Nat):Int):=by omega
    have pk:=h.pok _ (zla hk);have hp:wc y s i=tq (yb y.Pu[i].f0) (Jl s.po[(y.Pu[i].th-1).toNat].1 s.po[(y.Pu[i].th-1).toNat].2 y.Pu[i].at_):=by simp only[wc,zca hi,zKa,zca hk,zmb]
    have h359:=UP (n+2) (My pk) (Oz pk) pk.2.2 p3;have h72:=U7 (n+2) (u:=y.Pu[i].f0) (v:=Jl s.po[(y.Pu[i].th-1).toNat].1 s.po[(y.Pu[i].th-1).toNat].2 y.Pu[i].at_) (Ok p4) (Gi _ _);rw[<-hp] at h72;have h357:=KW (n+5) (GE y s i);refine aa (z:=ag y.Pu[i].f0) rfl (aa (z:=.sl (s.po.map f8)) rfl (aa (z:=I y.Pu[i].th) rfl (aa (cV (by simp only[inR];omega)) (aa (z:=s.po.map f8) rfl (aa (z:=(y.Pu[i].th-1).toNat) (by rw[mv,e1];exact ak hk) (aa (FC hk) (aa (z:=ag y.Pu[i].at_) rfl (aa h359 (aa h72 (aa h357 ?_))))))))))
    refine(if_pos (by show((Am y s (qF F y s y.T.length) i).map bq).length+1<=1073741824;rw[zoa];omega)).trans ?_
    rw[<-tK];exact aa (au (a:=i) (b:=1) (by omega)) rfl
  ·subst hJ;refine⟨(0,[z,.sl ((Am y s (qF F y s y.T.length) y.Pu.length).map bq)]),aa af (aa ae (az (by show ¬ ((y.Pu.length:Int)<((y.Pu.map dq).length:Int));rw[c8];omega) rfl)),?_⟩
   have el:=rO F y s y.T.length;have ep:=wV y s (qF F y s y.T.length) y.Pu.length;exact aa (NX (n+3) (by omega) (Fo (La h _ (zja _)) _)) rfl
def mQ(A B:Option Rat):Int:=match El B A with|none=>30|some q=>if sg q.num>0 then 270 else 0
def fO(s t:Scn):Bool:=decide (s.st=t.st)&&decide (s.ta=t.ta)&&decide (s.ac=t.ac)
def UD(n:Nat){F:Nat->Nat->Option Rat}{y:Yrd}{s t:Scn}(hF:PP F y)(hs:WOk y s)(ht:WOk y t):cA (n+1038) 318 [pI y,ji s,ji t]=some (bq (El (iQ F y t) (iQ F y s))):=by
 rw[Wz];unfold Ir;exact aa (JD n hF ht) (aa (JD n hF hs) (aa (NY (n+5) (rZ F y t) (rZ F y s)) rfl))
def Fa(n:Nat){F:Nat->Nat->Option Rat}{y:Yrd}{s t:Scn}(hF:PP F y)(hs:WOk y s)(ht:WOk y t)(hta:s.ta.length<=9223372036854775807):cA (n+1039) 320 [pI y,ji s,ji t]=some (I (if fO s t=true then mQ (iQ F y s) (iQ F y t) else 1)):=by
 have tl:=hs.yok.tl;have pl:=hs.yok.pl;have h1:=hs.st;have h2:=hs.ac;rw[WA];delta Is qG qC qT qN Jn;refine aa (z:=fm s.st) rfl (aa (z:=fm t.st) rfl (aa (L3 (n+1037) s.st t.st (by omega)) (aa bg (aa ae ?_))))
 refine aa (gv (aa (z:=fm s.ta) rfl (aa (z:=fm t.ta) rfl (aa (L3 (n+1037) s.ta t.ta hta) (aa bg ae))))) (aa ae ?_);refine aa (gv (aa (z:=fm s.ac) rfl (aa (z:=fm t.ac) rfl (aa (L3 (n+1037) s.ac t.ac (by omega)) (aa bg ae))))) (aa ae ?_)
 have e:(!decide (s.st=t.st)||!decide (s.ta=t.ta)||!decide (s.ac=t.ac))=!fO s t:=by simp[fO]
 rw[e];cases fO s t with
 | false=>rfl
 | true=>
  rw[if_neg (by decide),if_pos rfl]
  have hg:=Ky (iQ F y t) (iQ F y s);refine aa (UD n hF hs ht) ?_;unfold mQ;generalize El (iQ F y t) (iQ F y s)=g at *;cases g with
  | none=>exact aa (z:=.bool true) rfl (aa (z:=true) rfl (jl rfl))
  | some q=>
   refine aa (z:=.bool false) rfl (aa (z:=false) rfl ?_);rw[if_neg (by decide)]
   refine aa (UI (n+7) hg) (aa bP (aa ae ?_));by_cases h:sg q.num>0
   ·exact aC h (by simp[h])
   ·exact az h (by simp[h])
end Sy
end
noncomputable section
namespace Sy
open Go Go.Proofs Geo
def yM{x y:Int}(hx:In x)(hy:In y):D.beq (aj x) (aj y)=decide (x=y):=by
 rw[cb,cb];have e:D.beq (.st [.bool false,.bool (decide (x<0)),LM x.natAbs]) (.st [.bool false,.bool (decide (y<0)),LM y.natAbs])=(D.beq (.bool false) (.bool false)&&(D.beq (.bool (decide (x<0))) (.bool (decide (y<0)))&&(D.beq (LM x.natAbs) (LM y.natAbs)&&true))):=rfl;rw[e,lh (bh.1 hx) (bh.1 hy)];rw[z2c];simp only[D.beq,beq_self_eq_true,zIb,Bool.and_true,zaa,beq_iff_eq,decide_eq_true_eq,decide_eq_decide];omega
def LN{x y:Rat}(hx:ye x)(hy:ye y):D.beq (dn x) (dn y)=decide (x=y):=by
 have e:D.beq (dn x) (dn y)=(D.beq (aj x.num) (aj y.num)&&(D.beq (aj (x.den:Int)) (aj (y.den:Int))&&true)):=rfl;rw[e,yM hx.1 hy.1,yM hx.2 hy.2,z2c];simp only[Bool.and_true,zaa,decide_eq_true_eq];constructor
 ·rintro⟨h1,h2⟩;exact Rat.ext h1 (by omega)
 ·rintro rfl;exact⟨rfl,rfl⟩
def Kb(q:Rat):sg q.num>0↔¬ q<=0:=by
 have h1:0<=(-q).num↔0<=-q:=Rat.num_nonneg;rw[Rat.neg_num] at h1;have h2:0<=-q↔q<=0:=by constructor<;>intro h<;>grind
 rw[h2] at h1;rw[<-h1];constructor
 ·intro h;have:=CV (x:=q.num);unfold sg at h;split at h<;>(try split at h)<;>omega
 ·intro h;unfold sg;split<;>(try split)<;>omega
def mD(A B:Option Rat):(mQ A B=30)\/(∃ a b,A=some a/\B=some b/\((mQ A B=0/\b-a<=0)\/(mQ A B=270/\¬ b-a<=0))):=by
 unfold mQ;cases hg:El B A with
 | none=>exact .inl rfl
 | some q=>
  right;cases A with
  | none=>cases B<;>cases hg
  | some a=>
   cases B with
   | none=>cases hg
   | some b=>
    have e:q=b+-a:=EW (x:=b) (y:=-a) (z:=q) hg;refine⟨a,b,rfl,rfl,?_⟩;have e2:b-a=q:=by rw[e];grind
    rw[e2];have:=Kb q;by_cases h:sg q.num>0
    ·right;exact⟨by simp[h],this.1 h⟩
    ·left;exact⟨by simp[h],Classical.not_not.1 λk=>h (this.2 k)⟩
def jH(a:Int)(b:Int):D.beq (I a) (D.int .i64 b)=decide (a=b):=bF
def DD(s t:Scn):fO s t=fO t s:=by
 unfold fO;rw[z2c];simp only[zaa,decide_eq_true_eq];constructor<;>(rintro⟨⟨a,b⟩,c⟩;exact⟨⟨a.symm,b.symm⟩,c.symm⟩)
def FN{s t u:Scn}(h:fO s t=true)(k:fO t u=true):fO s u=true:=by
 unfold fO at *;simp only[zaa,decide_eq_true_eq] at *;exact⟨⟨h.1.1.trans k.1.1,h.1.2.trans k.1.2⟩,h.2.trans k.2⟩
def AW(s:Scn):fO s s=true:=by simp[fO]
def KR{b c:Bool}{X:Option Bool}(h:X=some c):(if b=true then X else some false)=some (b&&c):=by cases b<;>simp[h]
def Mx{call:Nat->List D->Option D}(n:Nat)(y:Yrd)(s t u:Scn)(hL:∀ t∈y.T,t.b.P.length<=9223372036854775807)(ls:s.ta.length<=9223372036854775807)(lt:t.ta.length<=9223372036854775807)
  (hc:∀ f xs,f≠307->call f xs=cA (n+1039) f xs) (h307:call 307 []=some (.bool true)):Ik aN call (pI y) (ji s) (ji t) (ji u)=some (.bool true):=by
 delta Ik qT qN Jn
 obtain⟨o1,h1,k1⟩:=L2 (n+1024) y s hL;obtain⟨o2,h2,k2⟩:=L2 (n+1024) y t hL;obtain⟨o3,h3,k3⟩:=L2 (n+1024) y u hL;refine aa ((hc 315 _ (by decide)).trans h1) (aa ((hc 315 _ (by decide)).trans h2) (aa ((hc 315 _ (by decide)).trans h3) (aa bg (aa ae (aa (gv (aa bg ae)) (aa ae (aa (gv (aa bg ae)) (aa ae ?_))))))))
 cases ho:(!o1||!o2||!o3) with
 | true=>exact jl (aa h307 rfl)
 | false=>
 simp only[zNb,Bool.not_eq_false'] at ho;have hs:=k1 ho.1.1;have ht:=k2 ho.1.2;have hu:=k3 ho.2;obtain⟨F,hF⟩:=MB hs.yok;rw[if_neg (by decide)]
 have css:=(hc 320 _ (by decide)).trans (Fa n hF hs hs ls)
 have cst:=(hc 320 _ (by decide)).trans (Fa n hF hs ht ls)
 have ctu:=(hc 320 _ (by decide)).trans (Fa n hF ht hu lt)
 have csu:=(hc 320 _ (by decide)).trans (Fa n hF hs hu ls)
 have cts:=(hc 320 _ (by decide)).trans (Fa n hF ht hs lt)
 have ts:=(hc 316 _ (by decide)).trans (JD (n+2) hF hs)
 have tt:=(hc 316 _ (by decide)).trans (JD (n+2) hF ht)
 have oA:=rZ F y s;have oB:=rZ F y t;have vss:=mD (iQ F y s) (iQ F y s);have vst:=mD (iQ F y s) (iQ F y t);have vtu:=mD (iQ F y t) (iQ F y u);have vsu:=mD (iQ F y s) (iQ F y u);have vts:=mD (iQ F y t) (iQ F y s);rw[AW,if_pos rfl] at css;rw[DD t s] at cts;have lk:fO s t=true->fO t u=true->fO s u=true:=FN;generalize fO s t=Lst at *;generalize fO t u=Ltu at *;generalize fO s u=Lsu at *;generalize iQ F y s=A at *;generalize iQ F y t=B at *;generalize iQ F y u=C at *;refine aa css (aa (z:=!decide (mQ A A=0)) (by rw[jH];exact ae) ?_)
 rcases vss with e|⟨a,a',rfl,e',⟨e,_⟩|⟨e,hn⟩⟩
 ·rw[e];exact jl (aa h307 (aa (z:=true) rfl (aa (z:=true) (jl (aa css (by rw[e];rfl))) rfl)))
 ·rw[e];rw[if_neg (by decide)]
  refine aa cst (aa ctu ?_);obtain⟨r,hr⟩:∃ r,(if Lst=true then mQ (some a) B else 1)=r:=⟨_,rfl⟩
  obtain⟨r',hr'⟩:∃ r',(if Ltu=true then mQ B C else 1)=r':=⟨_,rfl⟩
  obtain⟨r2,hr2⟩:∃ r2,(if Lsu=true then mQ (some a) C else 1)=r2:=⟨_,rfl⟩
  obtain⟨bk,hbk⟩:∃ bk,(if Lst=true then mQ B (some a) else 1)=bk:=⟨_,rfl⟩
  rw[hr,hr'];rw[hr2] at csu;rw[hbk] at cts;refine aa (z:=decide (r=0)) (by rw[jH];exact ae) (aa (KR (c:=decide (r'=0)) (by rw[jH];exact ae)) (aa ae (aa (KR (aa csu (by rw[jH];exact ae))) (aa ae ?_))))
  have R:r=1/\Lst=false\/Lst=true/\r=mQ (some a) B:=by cases Lst<;>simp at hr<;>simp[hr.symm]
  have R':r'=1/\Ltu=false\/Ltu=true/\r'=mQ B C:=by cases Ltu<;>simp at hr'<;>simp[hr'.symm]
  have R2:r2=1/\Lsu=false\/Lsu=true/\r2=mQ (some a) C:=by cases Lsu<;>simp at hr2<;>simp[hr2.symm]
  have K:bk=1/\Lst=false\/Lst=true/\bk=mQ B (some a):=by cases Lst<;>simp at hbk<;>simp[hbk.symm]
  by_cases hx:r=0/\r'=0/\¬ r2=0
  ·
   have e30:r2=30:=by
    obtain⟨x1,x2,x3⟩:=hx;rcases R with⟨q,_⟩|⟨q,q'⟩
    ·omega
    rcases R' with⟨p,_⟩|⟨p,p'⟩
    ·omega
    rcases R2 with⟨_,m⟩|⟨m,m'⟩
    ·rw[lk q p] at m;cases m
    rcases vsu with v|⟨a1,c1,f1,f2,⟨v,_⟩|⟨v,v'⟩⟩
    ·omega
    ·omega
    ·exfalso;cases f1;rcases vst with w|⟨a2,b2,g1,g2,⟨w,w'⟩|⟨w,_⟩⟩
     ·omega
     ·cases g1;rcases vtu with z|⟨b3,c3,i1,i2,⟨z,z'⟩|⟨z,_⟩⟩
      ·omega
      ·rw[g2] at i1;cases i1;rw[f2] at i2;cases i2;exact v' (by grind)
      ·omega
     ·omega
   have hc1:(decide (r=0)&&decide (r'=0)&&!decide (r2=0))=true:=by simp[hx.1,hx.2.1,hx.2.2]
   rw[hc1];refine jl (aa h307 (aa (z:=true) rfl (aa (z:=true) (jl (aa csu ?_)) rfl)));rw[e30];rfl
  ·have hc1:(decide (r=0)&&decide (r'=0)&&!decide (r2=0))=false:=by
    rw[zJb];intro h;simp only[zaa,decide_eq_true_eq,zMa,decide_eq_false_iff_not] at h;exact hx ⟨h.1.1,h.1.2,h.2⟩
   rw[hc1];rw[if_neg (by decide)]
   refine aa cts (aa (z:=decide (r=1)) (by rw[jH];exact ae) (aa (gv (c:=decide (r=30)) (by rw[jH];exact ae)) (aa ae (aa (gv (c:=decide (bk=30)) (by rw[jH];exact ae)) (aa ae ?_)))))
   have v30:∀ {P Q:Option Rat},mQ P Q≠1:=λ{P Q} h=>by
    rcases mD P Q with v|⟨_,_,_,_,⟨v,_⟩|⟨v,_⟩⟩<;>omega
   have e11:decide (r=1)=decide (bk=1):=by
    rw[decide_eq_decide];rcases R with⟨q,q'⟩|⟨q,q'⟩
    ·rcases K with⟨m,_⟩|⟨m,_⟩
     ·omega
     ·rw[q'] at m;cases m
    ·rcases K with⟨_,m⟩|⟨_,m⟩
     ·rw[q] at m;cases m
     ·rw[q',m];exact⟨λh=>absurd h v30,λh=>absurd h v30⟩
   cases hd:(decide (r=1)||decide (r=30)||decide (bk=30)) with
   | true=>
    refine jl (aa h307 (aa (z:=true) rfl (aa (z:=true) (jl ?_) rfl)));rw[jH,jH,e11];cases decide (bk=1)<;>rfl
   | false=>
    rw[if_neg (by decide)]
    simp only[zNb,decide_eq_false_iff_not] at hd;obtain⟨⟨d1,d2⟩,d3⟩:=hd;rcases R with⟨q,_⟩|⟨q,q'⟩
    ·omega
    rcases K with⟨_,m⟩|⟨_,m⟩
    ·rw[q] at m;cases m
    rcases vst with w|⟨a2,b,g1,rfl,hw⟩
    ·omega
    cases g1;rcases vts with w|⟨b2,a2,g1,g2,hw2⟩
    ·omega
    cases g1;cases g2;have oa:=oA.some;have ob:=oB.some;have fin:(bind_eq_ok:True)->True:=λ_=>trivial;have hb:=LN oa ob;have key:(decide (r=0)&&decide (bk=0))=decide (a=b):=by
     rw[z2c];simp only[zaa,decide_eq_true_eq];constructor
     ·rintro⟨z1,z2⟩;rcases hw with⟨_,w⟩|⟨w,_⟩
      ·rcases hw2 with⟨_,w2⟩|⟨w2,_⟩
       ·grind
       ·omega
      ·omega
     ·rintro rfl;rcases hw with⟨w,_⟩|⟨_,w⟩
      ·rcases hw2 with⟨w2,_⟩|⟨_,w2⟩
       ·exact⟨by omega,by omega⟩
       ·exact absurd (by grind) w2
      ·exact absurd (by grind) w
    have one:r=0\/bk=0:=by
     rcases hw with⟨w,_⟩|⟨_,w⟩
     ·left;omega
     ·rcases hw2 with⟨w2,_⟩|⟨_,w2⟩
      ·right;omega
      ·exact absurd (by grind) (λh:b-a<=0=>w h)
    refine aa h307 (aa (z:=true) rfl (aa (z:=true) (jl ?_) (aa (z:=true) rfl (aa (z:=true) (jl ?_) rfl))))
    ·refine aa (z:=decide (r=0)) (by rw[jH];exact ae) ?_
     have eb:D.beq (bq (some a)) (bq (some b))=decide (a=b):=hb;by_cases h0:r=0
     ·rw[decide_eq_true h0] at key ⊢;refine jl (aa ts (aa tt ?_));rw[eb,jH,<-key];cases decide (bk=0)<;>rfl
     ·rw[decide_eq_false h0] at key ⊢;rw[if_neg (by decide)]
      refine aa ts (aa tt ?_);rw[eb,<-key];rfl
    ·refine aa (z:=decide (r=0)) (by rw[jH];exact ae) ?_
     by_cases h0:r=0
     ·rw[decide_eq_true h0];rfl
     ·rw[decide_eq_false h0,if_neg (by decide),jH]
      have:bk=0:=by rcases one with h|h;exact absurd h h0;exact h
      rw[decide_eq_true this];rfl
 ·exfalso;cases e';exact hn (by grind)
end Sy
end
noncomputable section
namespace Sy
open Go Go.Proofs Geo
def BH{d:D}(h:wt Jd d):∃ l:List Bool,d=fm l:=mL (t:=.bool) (e:=D.bool) (λd h=>h) h
def M4{d:D}(h:wt PN d):∃ t:Thg,d=ef t:=by
 obtain⟨l,rfl,d1,l1,rfl,h1,d2,l2,rfl,h2,d3,l3,rfl,h3,h5⟩:=h;have h5':l3=[]:=h5;subst h5';obtain⟨k,rfl⟩:=h1;obtain⟨b,rfl⟩:=MY h2;obtain⟨p,rfl⟩:=G7 h3;exact⟨⟨k,b,p⟩,rfl⟩
def M5{d:D}(h:wt PO d):∃ p:Psh,d=dq p:=by
 obtain⟨l,rfl,d1,l1,rfl,h1,d2,l2,rfl,h2,d3,l3,rfl,h3,h5⟩:=h;have h5':l3=[]:=h5;subst h5';obtain⟨k,rfl⟩:=h1;obtain⟨v,rfl⟩:=Ai h2;obtain⟨m,rfl,hm,h4⟩:=h3
 match m,hm with
 | [a,b],_=>
  obtain⟨x,rfl⟩:=Ai (h4 a (by simp))
  obtain⟨z,rfl⟩:=Ai (h4 b (by simp))
  exact⟨⟨k,v,x,z⟩,rfl⟩
def M6{d:D}(h:wt nj d):∃ y:Yrd,d=pI y:=by
 obtain⟨l,rfl,d1,l1,rfl,h1,d2,l2,rfl,h2,d3,l3,rfl,h3,d4,l4,rfl,h4,d5,l5,rfl,h5,h6⟩:=h;have h6':l5=[]:=h6;subst h6';obtain⟨g,rfl⟩:=h1;obtain⟨a,b,rfl⟩:=G8 h2;obtain⟨T,rfl⟩:=mL (e:=ef) (λd h=>M4 h) h3;obtain⟨P,rfl⟩:=mL (e:=dq) (λd h=>M5 h) h5;exact⟨⟨g,a,b,T,d4,P⟩,rfl⟩
def BI{d:D}(h:wt ja d):∃ s:Scn,d=ji s:=by
 obtain⟨l,rfl,d1,l1,rfl,h1,d2,l2,rfl,h2,d3,l3,rfl,h3,d4,l4,rfl,h4,d5,l5,rfl,h5,d6,l6,rfl,h6,h7⟩:=h;have h7':l6=[]:=h7;subst h7';obtain⟨a,rfl⟩:=BH h1;obtain⟨p,rfl⟩:=M0 h2;obtain⟨v,rfl⟩:=G6 h3;obtain⟨w,rfl⟩:=G6 h4;obtain⟨t,rfl⟩:=BH h5;obtain⟨c,rfl⟩:=BH h6;exact⟨⟨a,p,v,w,t,c⟩,rfl⟩
def ZK{y:Yrd}(h:ED (pI y)):∀ t∈y.T,t.b.P.length<=9223372036854775807:=λt ht=>by
 have h1:uN (y.T.map ef):=h.2.2.1.2;have h2:=oM.1 h1 (ef t) (z5a.2 ⟨t,ht,rfl⟩);exact Vi h2.2.1
def XJ{s:Scn}(h:ED (ji s)):s.ta.length<=9223372036854775807:=by
 have h1:(s.ta.map D.bool).length<=maxLen:=h.2.2.2.2.1.1;rw[zoa] at h1;exact h1
def ctr304{d e g k:D}(h:wt nj d)(h':wt ja e)(h'':wt ja g)(h3:wt ja k)(ho:ED d)(ho':ED e)(ho'':ED g):Np Tryz.prog [nj,ja,ja,ja] .bool 7 [d,e,g,k] (.bool true):=by
 have hw:ff [nj,ja,ja,ja] [d,e,g,k]:=⟨_,_,rfl,h,_,_,rfl,h',_,_,rfl,h'',_,_,rfl,h3,rfl⟩;obtain⟨y,rfl⟩:=M6 h;obtain⟨s,rfl⟩:=BI h';obtain⟨t,rfl⟩:=BI h'';obtain⟨u,rfl⟩:=BI h3;refine NA tH (yu (0+1039)) (Ff _) [nj,ja,ja,ja] .bool [pI y,ji s,ji t,ji u] (.bool true) (by kernel_rfl) ?_ hw
 exact Mx 0 y s t u (ZK ho) (XJ ho') (XJ ho'') (λf xs hf=>by unfold yu;rw[if_neg hf]) (by unfold yu;rw[if_pos rfl];exact Bp)
end Sy
end
noncomputable section
open Go Go.ChangeShapes Go.WideShapes Go.ChangeAt Go.RowKit
def Vj:ownKnob Tryz.prog.godebug=none:=by kernel_rfl
def FK:laidOutB Tryz.prog=true:=by kernel_rfl
def MU:Tryz.prog.underlying 4=some .bool:=by kernel_rfl
def Kc:Tryz.f7.params=#[51,55,55,55]:=by kernel_rfl
def Ov:Sy.ze Tryz.prog [Sy.nj,Sy.ja,Sy.ja,Sy.ja] [51,55,55,55]=true:=by kernel_rfl
def OI:List.all [51,55,55,55] (λt=>Tryz.prog.readableRec t&&decide (t<Tryz.prog.types.size))=true:=by kernel_rfl
def shape{α:Type}{l:List α}(h:l.length=4):∃ d0 d1 d2 d3,l=[d0,d1,d2,d3]:=by
 match l,h with
 | [d0,d1,d2,d3],_=>exact⟨d0,d1,d2,d3,rfl⟩
set_option maxRecDepth 100000 in
def jy(os:Os)(started:os.Started)(H:Type)(enc:TypeId×Value->H) :
  ReturnsInHanded {} Tryz.checked os 7 .any (Rows.energyStepsFollowSpec.pre6 enc Tryz.prog Tryz.f7 Rows.energyStepsFollowRow.domain false) (Rows.energyStepsFollowSpec.post enc Tryz.prog Tryz.f7 false true false false):=by
 refine returnsInHanded_of_change (C:=Tryz.checked) Vj started (by kernel_rfl) (show Tryz.prog.funcs[7]?=some Tryz.f7 by kernel_rfl)
  (ChangeSpec.witness6 (enc:=enc) (C:=Tryz.checked) false ⟨#[],#[.agg #[.int .i64 0,.int .i64 0,.int .i64 0,.slice none 0 0,.slice none 0 0,.slice none 0 0],.agg #[.slice none 0 0,.slice none 0 0,.slice none 0 0,.slice none 0 0,.slice none 0 0,.slice none 0 0],.agg #[.slice none 0 0,.slice none 0 0,.slice none 0 0,.slice none 0 0,.slice none 0 0,.slice none 0 0],.agg #[.slice none 0 0,.slice none 0 0,.slice none 0 0,.slice none 0 0,.slice none 0 0,.slice none 0 0]],[]⟩ 8 (by kernel_rfl) (by kernel_rfl) (by kernel_rfl) (by kernel_rfl)) ?_
 intro W base args ds gs before hval0 hW hcnd _;have hval:∀ (j:Nat) t v,Tryz.f7.params[j]?=some t->args[j]?=some v->Value.okWide Tryz.prog W .any base t v:=hval0;have hW':=hW;obtain⟨p,q,hA0,hV,rfl,hfz,hnd⟩:=hW;have hA:DataW.TrodAll enc Tryz.prog W 0 (λ_=>true) true Tryz.f7.params.toList args.toList ds p:=hA0;rw[Kc] at hA hval;obtain⟨rfl,rfl⟩:=trodVars_none hV;clear hA0 hval0;obtain⟨xs,hx,ho,hlen,hd⟩:=Sy.Jm Ov hA (λj t v h1 h2=>hval j t v (by simpa using h1) (by simpa using h2))
 have hx':=hx;obtain⟨x0,r0,rfl,w0,x1,r1,rfl,w1,x2,r2,rfl,w2,x3,r3,rfl,w3,hn⟩:=hx';have hn':_=[]:=hn;subst hn';have hctr:=Sy.ctr304 w0 w1 w2 w3 ho.1 ho.2.1 ho.2.2.1 W (Sy.pb W) args.toList (λ_ _ h=>Sy.valid_lt h) hx hlen hd;rw[z8b] at hctr;obtain⟨d0,d1,d2,d3,rfl⟩:=shape (Sy.Mc hA);refine Go.Calls.mono hctr λe W' he=>?_;obtain⟨v,rfl,⟨os',dr,hdr,rfl⟩,_,hv⟩:=he;have hv':v=.bool true:=Sy.bool_of hv;subst hv';have hb:Below W.heap.size W (grown W os' dr):=⟨rfl,rfl,rfl,by simp[grown],λk hk=>cC W os' dr hk⟩
 have hlt:∀ x∈p,x.block<W.heap.size:=λx hx=>by simpa using hW'.lt x (by simpa using hx)
 exact⟨_,rfl,_,_,_,[],p,[],hW',trodAll_mk1 ((Go.RowKit.shut_bool (P:=Tryz.prog) MU true)),Sy.Dg FK OI hA hb hlt,rfl,hb.frame _,λh=>by cases h⟩
theorem energyStepsFollow_holds:Rows.EnergyStepsFollowSaid:=
 OpenClaim.holds_of_wide 7 Tryz.f7 rfl rfl rfl rfl rfl rfl rfl ⟨rfl,rfl,rfl,rfl,rfl⟩ rfl rfl rfl rfl rfl (by kernel_rfl) (show Tryz.prog.funcs[7]?=some Tryz.f7 by kernel_rfl) (by kernel_rfl)
  (of_decide_eq_true (by kernel_rfl)) (by unfold Func.isWrapper;first|(rw[if_pos (by decide +kernel)];kernel_rfl)|(rw[if_neg (by decide +kernel)];exact⟨rfl,rfl⟩))
  (λos started H enc _=>jy os started H enc)
end
end Go.Proofs.YtpahompifldeeaaGreat
