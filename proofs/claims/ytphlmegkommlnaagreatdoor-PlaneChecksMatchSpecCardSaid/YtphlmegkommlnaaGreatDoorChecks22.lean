/- PlaneChecksMatchSpec answers true at every input, and the input reads afterwards as it read before. -/
import Derived.Test.YtphlmegkommlnaaGreatDoorChecks02
import Derived.Test.YtphlmegkommlnaaGreatDoorChecks06
import Derived.Test.YtphlmegkommlnaaGreatDoorChecks17
import Derived.Test.YtphlmegkommlnaaGreatDoorChecks21
import Derived.Test.YtphlmegkommlnaaGreatDoorRows
import Derived.Test.YtphlmegkommlnaaGreatDoorTie
import Derived.Test.YtphlmegkommlnaaGreatDoorCards
import Derived.SevenTiedAt
import Derived.LaidLaws
import Derived.Handed
set_option linter.unusedVariables false
set_option linter.unusedSimpArgs false
set_option linter.unnecessarySimpa false
set_option linter.defProp false
set_option maxRecDepth 20000
namespace Go.Proofs.YtphlmegkommlnaaGreatDoor
noncomputable section
namespace Sy
open Go Go.Proofs Geo
def At(n:Nat){x y:Int}(hx:In x)(hy:In y)(hy0:0<y):cA (n+4) 345 [af x,af y]=some (af (x%y)):=by
 rw[UT];delta GN qG qB qT qN qS Jn;have wm:=gd (x:=x) hy0;by_cases hw:Wd x/\Wd y
 ·obtain⟨hx',hy'⟩:=hw;have e:=Int.mul_ediv_add_emod x y;unfold Wd at hx' hy';refine aa (mg n hx') (aa (z:=I x) rfl (aa (z:=.bool true) rfl (aa (mg n hy') (aa (z:=I y) rfl (aa (z:=.bool true) rfl (aa (z:=true) rfl (aa (z:=true) rfl (aa (z:=true) rfl (aa (z:=true) ?_ (aa (z:=true) rfl (dY ?_)))))))))))
  ·rw[if_pos rfl,show D.beq (I y) (D.int .i64 0)=decide (y=0) from bw,decide_eq_false (by omega)];rfl
  ·refine aa (I3 (n+2) hx' hy0) (aa (bg (by simp only[inR];omega)) (aa (bH (by simp only[inR];omega)) ?_))
   rw[show x-y*(x/y)=x%y by omega]
   exact aa (yI n (by simp only[inR];omega)) rfl
 ·obtain⟨w1,b1,h1,k1⟩:=nT n hx;obtain⟨w2,b2,h2,k2⟩:=nT n hy;have hb:(b1&&b2)=false:=by
   cases b1<;>cases b2<;>first|rfl|exact absurd ⟨k1 rfl,k2 rfl⟩ hw
  have hx':x.natAbs<65536^32:=hx;have hy':y.natAbs<65536^32:=hy;have hl:=(cQ (B:=y.natAbs) (by omega)).1
  refine aa h1 (aa (z:=I w1) rfl (aa (z:=.bool b1) rfl (aa h2 (aa (z:=I w2) rfl (aa (z:=.bool b2) rfl (aa (z:=b1) rfl (aa (z:=false) (by cases b1<;>cases b2<;>simp at hb<;>rfl) (aa (z:=false) rfl (aa (z:=false) rfl (aa (z:=false) rfl ?_))))))))))
  rw[if_neg (by decide)]
  refine aa (lQ (n+1) hx) (aa aJ (aa (z:=false) rfl (aa (z:=false) (by rw[if_neg (by decide)];exact aa (lQ (n+1) hy) rfl) (aa (z:=false) rfl (aa (z:=false) ?_ (aa (z:=false) rfl ?_))))))
  ·rw[if_neg (by decide)]
   refine aa (qf (n+1) hy) (aa (z:=ae (ar y.natAbs)) rfl ?_);show D.truth (.bool (D.beq (I ((ae (ar y.natAbs)).length:Nat)) (I ((0:Nat):Int))))=_;rw[aj,ce,decide_eq_false (by omega)];rfl
  rw[if_neg (by decide)]
  have hb':(!(D.beq (.bool (decide (x<0))) (.bool (decide (y<0)))))=decide (x<0):=by
   have h2:¬ y<0:=by omega
   by_cases h1:x<0<;>simp[h1,h2,D.beq]
  have h143:=HC n (xw hx') (B:=y.natAbs) (by omega) (xw hy')
  have hgt:∀ k:Nat,D.bin .gtr (.int .i64 ((ae (ar k)).length:Nat)) (.int .i64 0)=some (.bool (decide (0<k))):=λk=>by
   have:(ae (ar k)).length=(ar k).length:=aj _;refine ca.trans ?_;rw[this];by_cases hk:k=0
   ·subst hk;rw[bB];rfl
   ·have:=(cQ (B:=k) (by omega)).1
    rw[decide_eq_true (by omega),decide_eq_true (by omega)]
  have hrt:x.natAbs%y.natAbs<65536^32:=zNb (zIa _ (by omega)) hy'
  have hfin:∀ Q:Nat,(Q:Int)=x%y->cA (n+3) 81 [.bool (decide (y<0)),.sl (ae (ar Q))]=some (af (x%y)):=λQ hQ=>by
   have hQt:Q<65536^32:=by omega
   have:=Fz (n+1) (neg:=decide (y<0)) (aP Q) (by have:=bc 32 _ hQt;omega) (by rw[ai];exact hQt)
   rw[ai,decide_eq_false (show ¬ y<0 by omega),show sgn false Q=(Q:Int) from rfl,hQ] at this
   rw[decide_eq_false (show ¬ y<0 by omega)];exact this
  refine aa (qf (n+1) hx) (aa (qf (n+1) hy) (aa h143 (aa (z:=.sl (ae (ar (x.natAbs/y.natAbs)))) rfl (aa (z:=.sl (ae (ar (x.natAbs%y.natAbs)))) rfl ?_))));rcases rZ (x:=x) hy0 with⟨e0,e1,e2⟩|⟨e0,e1,e2,e3⟩|⟨e0,e1,e2,e3⟩
  ·have hf:=hfin (x.natAbs%y.natAbs) e2.symm;refine aa (z:=(0,[.sl (ae (ar (x.natAbs%y.natAbs)))])) ?_ (aa (aB y) ?_)
   ·refine aa (aB x) (aa (aB y) ?_);rw[hb',decide_eq_false (by omega)]
    exact aa (z:=false) rfl (aa (z:=false) rfl (aa (z:=false) rfl rfl))
   ·exact aa hf rfl
  ·have hf:=hfin (x.natAbs%y.natAbs) (by rw[e1,e3];rfl)
   refine aa (z:=(0,[.sl (ae (ar (x.natAbs%y.natAbs)))])) ?_ (aa (aB y) ?_)
   ·refine aa (aB x) (aa (aB y) ?_);rw[hb',decide_eq_true e0];refine aa (z:=true) rfl (aa (z:=false) ?_ (aa (z:=false) rfl rfl));rw[if_pos rfl,e1,bB];rfl
   ·exact aa hf rfl
  ·have hf:=hfin (y.natAbs-x.natAbs%y.natAbs) e3.symm;refine aa (z:=(0,[.sl (ae (ar (y.natAbs-x.natAbs%y.natAbs)))])) ?_ (aa (aB y) ?_)
   ·refine aa (aB x) (aa (aB y) ?_);rw[hb',decide_eq_true e0];refine aa (z:=true) rfl (aa (z:=true) ?_ (aa (z:=true) rfl ?_))
    ·rw[if_pos rfl];refine aa (z:=ae (ar (x.natAbs%y.natAbs))) rfl (aa (hgt _) ?_);rw[decide_eq_true e1];rfl
    ·rw[if_pos rfl];have ly:=bc 32 _ hy';have hlt:=zIa x.natAbs (show 0<y.natAbs by omega)
     have:=DH (n+1) (a:=ar y.natAbs) (b:=ar (x.natAbs%y.natAbs)) (aP _) (aP _) (by omega) (by rw[ai,ai];omega)
     rw[ai,ai] at this;exact aa (qf (n+1) hy) (aa this rfl)
   ·exact aa hf rfl
def I4(n:Nat){x y:Int}(hx:In x)(hy:In y)(hy0:0<y):cA (n+6) 172 [af x,af y]=some (.tup [af (x/y),af (x%y)]):=by
 have hqn:(x/y).natAbs<=x.natAbs:=Int.natAbs_ediv_le_natAbs x y;have hqi:In (x/y):=jO hx y;have wm:=gd (x:=x) hy0;rw[Na];delta Dk qG qB qT qN Jn;have h118:cA (n+5) 118 [.sl [af x,af y]]=some (.bool true):=qE (n+3) (a:=some x) (b:=some y) (ba hx) (ba hy);have hbe:∀ a b:Int,D.beq (I a) (.int .i64 b)=decide (a=b):=λa b=>bw;refine aa h118 (aa aJ (aa (z:=false) rfl (aa (z:=false) ?_ (aa (z:=false) rfl ?_))))
 ·rw[if_neg (by decide)]
  refine aa (tc (n+2) hy) ?_;rw[hbe,decide_eq_false (Bl (by omega))];rfl
 rw[if_neg (by decide)]
 by_cases fast:(inR x/\x≠-9223372036854775808)/\inR y/\y≠-9223372036854775808
 ·obtain⟨⟨fx,fx1⟩,fy,fy1⟩:=fast;have hx202:cA (n+5) 202 [af x]=some (.tup [I x,.bool true]):=by
   rcases wQ (n+1) hx with⟨_,h⟩|⟨h,_⟩
   ·exact h
   ·exact absurd fx h
  have hy202:cA (n+5) 202 [af y]=some (.tup [I y,.bool true]):=by
   rcases wQ (n+1) hy with⟨_,h⟩|⟨h,_⟩
   ·exact h
   ·exact absurd fy h
  simp only[inR] at fx fy;have hqr:inR (x/y):=by simp only[inR];omega
  have hmr:inR (x%y):=by simp only[inR];omega
  refine aa (z:=(0,[af (x/y),af (x%y)])) ?_ rfl;refine aa hx202 (aa (z:=I x) rfl (aa (z:=.bool true) rfl (aa (z:=true) rfl (aa (z:=true) ?_ (aa (z:=true) rfl ?_)))))
  ·rw[if_pos rfl,hbe,decide_eq_false fx1];rfl
  rw[if_pos rfl];refine aa hy202 (aa (z:=I y) rfl (aa (z:=.bool true) rfl (aa (z:=true) rfl (aa (z:=true) ?_ (aa (z:=true) rfl ?_)))))
  ·rw[if_pos rfl,hbe,decide_eq_false fy1];rfl
  rw[if_pos rfl];have htq:inR (x.tdiv y):=by
   have:(x.tdiv y).natAbs<=x.natAbs:=by rw[Int.natAbs_tdiv];exact z6b _ _
   simp only[inR];omega
  refine aa (kl (by omega) htq) (aa (jW (by omega)) (aa (z:=(0,[I (x/y),I (x%y)])) ?_ (aa (C3 (n+3) hqr) (aa (C3 (n+3) hmr) rfl))))
  refine aa ab ?_;rw[hbe];rcases yA (x:=x) hy0 with⟨h0,h1,h2,h3⟩|⟨h0,h1,h2,h3⟩|⟨h0,h1,h2,h3⟩
  ·rw[h1,h2];refine aa (z:=false) ?_ (aa ab rfl);by_cases hz:x.tmod y=0
   ·rw[decide_eq_true hz];rfl
   ·rw[decide_eq_false hz];refine dY (aa ah (aa ah ?_));rw[decide_eq_false (by omega),decide_eq_false (by omega)];rfl
  ·rw[h2,h3,h1];exact aa (z:=false) rfl (aa ab rfl)
  ·rw[decide_eq_false (show ¬ x.tmod y=0 by omega)]
   refine aa (z:=true) (dY (aa ah (aa ah ?_))) (aa ab ?_)
   ·rw[decide_eq_true (by omega),decide_eq_false (by omega)];rfl
   ·rw[h2] at hqr ⊢;rw[h3] at hmr ⊢;exact dY (aa (bH hqr) (aa (au hmr) rfl))
 ·refine aa (z:=(1,[.st [.bool false,.bool false,aw aS],.st [.bool false,.bool false,aw aS]])) ?_ ?_
  ·rcases wQ (n+1) hx with⟨fx,h⟩|⟨fx,h⟩
   ·by_cases fx1:x=-9223372036854775808
    ·refine aa h (aa (z:=I x) rfl (aa (z:=.bool true) rfl (aa (z:=true) rfl (aa (z:=false) ?_ (aa (z:=false) rfl rfl)))));rw[if_pos rfl,hbe,decide_eq_true fx1];rfl
    ·refine aa h (aa (z:=I x) rfl (aa (z:=.bool true) rfl (aa (z:=true) rfl (aa (z:=true) ?_ (aa (z:=true) rfl ?_)))))
     ·rw[if_pos rfl,hbe,decide_eq_false fx1];rfl
     rw[if_pos rfl];rcases wQ (n+1) hy with⟨fy,h2⟩|⟨fy,h2⟩
     ·have fy1:y=-9223372036854775808:=Classical.byContradiction λk=>fast ⟨⟨fx,fx1⟩,fy,k⟩;refine aa h2 (aa (z:=I y) rfl (aa (z:=.bool true) rfl (aa (z:=true) rfl (aa (z:=false) ?_ (aa (z:=false) rfl rfl)))));rw[if_pos rfl,hbe,decide_eq_true fy1];rfl
     ·exact aa h2 (aa (z:=I 0) rfl (aa (z:=.bool false) rfl (aa (z:=false) rfl (aa (z:=false) rfl (aa (z:=false) rfl rfl)))))
   ·exact aa h (aa (z:=I 0) rfl (aa (z:=.bool false) rfl (aa (z:=false) rfl (aa (z:=false) rfl (aa (z:=false) rfl rfl)))))
  rw[if_neg (by decide)]
  have hxt:=aZ.1 hx;have hyt:=aZ.1 hy;have hqt:x.natAbs/y.natAbs<dJ:=zFa (z6b _ _) hxt;have hrt:x.natAbs%y.natAbs<dJ:=zNb (zIa _ (by omega)) hyt
  refine aa (gv x) (aa (gv y) (aa (JQ (n+1) hxt hyt (by omega)) (aa (z:=LM (x.natAbs/y.natAbs)) rfl (aa (z:=LM (x.natAbs%y.natAbs)) rfl (aa (aB x) (aa (aB y) ?_))))))
  have hb:(!(D.beq (.bool (decide (x<0))) (.bool (decide (y<0)))))=decide (x<0):=by
   have h2:¬ y<0:=by omega
   by_cases h1:x<0<;>simp[h1,h2,D.beq]
  rw[hb,gt,jt hrt eC];refine aa (qD (n+4) _ hqt) ?_;have hlast:∀ Q:Nat,(Q:Int)=x%y->Q<dJ->cA (n+5) 116 [.bool (decide (y<0)),LM Q]=some (af (x%y)):=λQ hQ ht=>by
   rw[qD (n+4) _ ht,decide_eq_false (show ¬ y<0 by omega),show sgn false Q=(Q:Int) from rfl,hQ]
  rcases rZ (x:=x) hy0 with⟨e0,e1,e2⟩|⟨e0,e1,e2,e3⟩|⟨e0,e1,e2,e3⟩
  ·refine aa (z:=(0,[LM (x.natAbs%y.natAbs),af (x/y)])) ?_ (aa (aB y) (aa (hlast _ e2.symm hrt) rfl));have hs:sgn (decide (x<0)) (x.natAbs/y.natAbs)=x/y:=by unfold sgn;rw[decide_eq_false (by omega)];simp[e1]
   rw[hs];refine aa (z:=(!decide (x.natAbs%y.natAbs=0))) rfl (aa (z:=false) ?_ (aa (z:=false) rfl rfl));cases (!decide (x.natAbs%y.natAbs=0))
   ·rfl
   ·refine dY (aa (aB x) (aa (aB y) ?_));rw[hb,decide_eq_false (by omega)];rfl
  ·refine aa (z:=(0,[LM (x.natAbs%y.natAbs),af (x/y)])) ?_ (aa (aB y) (aa (hlast _ (by rw[e1,e3];rfl) hrt) rfl))
   have hs:sgn (decide (x<0)) (x.natAbs/y.natAbs)=x/y:=by unfold sgn;rw[decide_eq_true e0];simp[e2]
   rw[hs,decide_eq_true e1];exact aa (z:=false) rfl (aa (z:=false) rfl (aa (z:=false) rfl rfl))
  ·have hlt:=zIa x.natAbs (show 0<y.natAbs by omega)
   refine aa (z:=(0,[LM (y.natAbs-x.natAbs%y.natAbs),af (x/y)])) ?_ (aa (aB y) (aa (hlast _ e3.symm (by omega)) rfl))
   have hs:sgn (decide (x<0)) (x.natAbs/y.natAbs)=-((x.natAbs/y.natAbs:Nat):Int):=by unfold sgn;rw[decide_eq_true e0];rfl
   rw[hs,decide_eq_false (show ¬ x.natAbs%y.natAbs=0 by omega)]
   refine aa (z:=true) rfl (aa (z:=true) ?_ (aa (z:=true) rfl (dY ?_)))
   ·refine dY (aa (aB x) (aa (aB y) ?_));rw[hb,decide_eq_true e0];rfl
   ·have i1:In (1:Int):=bR (gP 1);have hqn2:In (-((x.natAbs/y.natAbs:Nat):Int)):=by rw[aZ,zec,zza];exact hqt
    have h203:cA (n+5) 203 [af (-((x.natAbs/y.natAbs:Nat):Int)),af 1]=some (af (x/y)):=by
     rw[UL];unfold GF;have hm:In (-1:Int):=bR (gP (-1));refine aa (A9 (n+1) i1) (aa (HM n hqn2 hm (by rw[show -((x.natAbs/y.natAbs:Nat):Int)+-1=x/y by rw[e2];rfl];exact hqi)) ?_)
     rw[show -((x.natAbs/y.natAbs:Nat):Int)+-1=x/y by rw[e2];rfl]
    exact aa (C3 (n+3) (gP 1)) (aa h203 (aa (gv y) (aa (JL (n+4) hyt (zbc hlt)) rfl)))
def tB(n:Nat){x y:Int}(hx:In x)(hy:In y)(hy0:0<y):cA (n+7) 132 [af x,af y]=some (af (x/y)):=by
 rw[M6];unfold Dg;exact aa (I4 n hx hy hy0) (aa (z:=af (x/y)) rfl (aa (z:=af (x%y)) rfl rfl))
def As(n:Nat){x y:Int}(hx:In x)(hy:In y)(hy0:0<y):cA (n+7) 137 [af x,af y]=some (af (x%y)):=by
 rw[Uj];unfold Gd;exact aa (I4 n hx hy hy0) (aa (z:=af (x/y)) rfl (aa (z:=af (x%y)) rfl rfl))
end Sy
end
noncomputable section
namespace Sy
open Go Go.Proofs Geo
def jE{α:Type}{A B y:α}(h:B=y):(if false=true then A else B)=y:=h
def oh(a b c d:Int):Int:=bf (a*d) (c*b)
def tJ(x y:Int):bf y x=-bf x y:=by unfold bf;split<;>split<;>(try split)<;>(try split)<;>omega
def vc{x y:Int}(h:x<y):bf x y=-1:=by unfold bf;rw[if_pos h]
def qR{x y:Int}(h:y<x):bf x y=1:=by unfold bf;rw[if_neg (by omega),if_pos h]
def mU(x y:Int):-1<=bf x y/\bf x y<=1:=by unfold bf;split<;>(try split)<;>omega
def mT{x y:Int}:bf x y=0↔x=y:=by unfold bf;split<;>(try split)<;>omega
def DV(t x y:Int):bf (t+x) (t+y)=bf x y:=by
 unfold bf;by_cases h:x<y
 ·rw[if_pos h,if_pos (by omega)]
 ·rw[if_neg h,if_neg (by omega)]
  by_cases h2:x>y
  ·rw[if_pos h2,if_pos (by omega)]
  ·rw[if_neg h2,if_neg (by omega)]
def uh{a b c d:Int}(hb:0<b)(hd:0<d)(h:a/b<c/d):a*d<c*b:=by
 have e1:=Int.mul_ediv_add_emod a b;have e2:=Int.mul_ediv_add_emod c d;have r1:=gd (x:=a) hb;have r2:=gd (x:=c) hd;generalize a/b=Q1 at *;generalize a%b=R1 at *;generalize c/d=Q2 at *;generalize c%d=R2 at *;have k1:0<=(Q2-Q1-1)*(b*d):=zoc (by omega) (z5a (zSb hb hd))
 have k2:0<(b-R1)*d:=zSb (by omega) hd
 have k3:0<=R2*b:=zoc r2.1 (by omega)
 subst e1 e2;have e:(d*Q2+R2)*b-(b*Q1+R1)*d=(Q2-Q1-1)*(b*d)+(b-R1)*d+R2*b:=by grind
 omega
def Ax{a b c d:Int}(hb:0<b)(hd:0<d)(h:a/b≠c/d):bf (a/b) (c/d)=oh a b c d:=by
 unfold oh;rcases Int.lt_or_gt_of_ne h with h|h
 ·rw[vc h,vc (uh hb hd h)]
 ·rw[qR h,qR (uh hd hb h)]
def Aw{a b c d:Int}(h:a/b=c/d):oh a b c d=oh (a%b) b (c%d) d:=by
 have e1:=Int.mul_ediv_add_emod a b;have e2:=Int.mul_ediv_add_emod c d;unfold oh;rw[<-DV (b*d*(a/b)) (a%b*d) (c%d*b)];congr 1
 ·conv=>lhs;rw[<-e1]
  grind
 ·rw[h]
  conv=>lhs;rw[<-e2]
  grind
def tI(a b c d:Int):oh b a d c=-oh a b c d:=by
 unfold oh;rw[<-tJ,zuc b c,zuc d a]
def fK{x:Int}(h:0<x):sg x=1:=by unfold sg;rw[if_neg (by omega),if_pos h]
def wY{a b c d:Int}(hb:0<b)(hd:0<d)(ha:0<=a)(hc:0<=c)(h:a=0\/c=0):sg a-sg c=oh a b c d:=by
 unfold oh;rcases h with rfl|rfl
 ·rw[zNc];by_cases h0:c=0
  ·subst h0;rw[zNc];rfl
  ·rw[vc (zSb (by omega) hb),fK (x:=c) (by omega)];rfl
 ·rw[zNc];by_cases h0:a=0
  ·subst h0;rw[zNc];rfl
  ·rw[qR (zSb (by omega) hd),fK (x:=a) (by omega)];rfl
def CJ(z:Int)(m:Nat)(st:List D):Prop:=∃ s p d q e:Int,st=[I s,.st [af p,af d],.st [af q,af e]]/\(s=1\/s=-1)/\0<d/\0<e/\In p/\In d/\In q/\In e/\m=d.natAbs/\s*oh p d q e=z
def u3{s c:Int}(hs:s=1\/s=-1)(hc:-1<=c/\c<=1):D.bin .mul (I s) (I c)=some (I (s*c)):=
 bg (by
      have:c=-1\/c=0\/c=1:=by omega
      rcases hs with rfl|rfl<;>rcases this with rfl|rfl|rfl<;>exact gP _)
def wc(x:Int):-1<=sg x/\sg x<=1:=by unfold sg;split<;>(try split)<;>omega
def iF:Option Rat->Option Rat->Int
 | some x,some y=>oh x.num x.den y.num y.den
 | none,none=>0
 | none,some _=>-1
 | some _,none=>1
def wX{x y:Rat}(hx:yL x)(hy:yL y):CJ (iF (some x) (some y)) (x.den:Int).natAbs [I 1,fV x,fV y]:=
 ⟨1,x.num,x.den,y.num,y.den,rfl,.inl rfl,by have:=x.den_pos;omega,by have:=y.den_pos;omega,hx.1,hx.2,hy.1,hy.2,rfl,Int.one_mul _⟩
def mc(a:Int):D.beq (I a) (.int .i64 0)=decide (a=0):=bw
def JX(n:Nat){a b:Option Rat}(ha:OW a)(hb:OW b):cA (n+1031) 73 [bh a,bh b]=some (I (iF a b)):=by
 rw[Yb];delta NL qG qB qT qN qZ iL iR Jn;refine aa (ko n ha) (aa (ko n hb) (aa aJ (aa ab ?_)));cases a with
 | none=>
  cases b with
  | none=>exact aa (z:=true) rfl (aa ab rfl)
  | some y=>exact aa (z:=false) rfl (aa ab (jE (aa aJ (aa ab rfl))))
 | some x=>
 cases b with
 | none=>exact aa (z:=false) rfl (aa ab (jE (aa aJ (aa ab (jE (aa aJ (aa ab rfl)))))))
 | some y=>
 refine aa (z:=false) rfl (aa ab (jE (aa aJ (aa ab (jE (aa aJ (aa ab (jE ?_))))))));have hx:=ha.some;have hy:=hb.some;refine ls (CJ (iF (some x) (some y))) _ _ (wX hx hy) (λm s hJ=>?_);obtain⟨s,p,d,q,e,rfl,hs,hd,he,ip,id,iq,ie,rfl,hz⟩:=hJ;have ip':In (p/d):=jO ip d;have iq':In (q/e):=jO iq e;have ir:=uZ (x:=p) id hd;have it:=uZ (x:=q) ie he;have wr:=gd (x:=p) hd;have wt:=gd (x:=q) he;by_cases hne:p/d=q/e
 ·have h0:bf (p/d) (q/e)=0:=mT.2 hne;have hpre:∀ {A:Option (Sum (List D) (Nat×List D))} {B y},B=some y->(if(!(D.beq (I (bf (p/d) (q/e))) (.int .i64 0)))=true then A else B)=some y:=λh=>by
   rw[mc,h0];exact h
  rw[Aw hne] at hz;by_cases hr:p%d=0\/q%e=0
  ·right;have hend:=wY hd he wr.1 wt.1 hr;rw[<-hend] at hz;refine⟨(0,[I (iF (some x) (some y))]),?_,rfl⟩;refine aa (z:=af p) rfl (aa (z:=af d) rfl (aa (tB (n+1023) ip id hd) (aa (z:=af q) rfl (aa (z:=af e) rfl (aa (tB (n+1023) iq ie he) (aa (Od (n+1026) ip' iq') (aa ab (hpre ?_))))))));refine aa (z:=af d) rfl (aa (z:=af p) rfl (aa (z:=af d) rfl (aa (As (n+1023) ip id hd) (aa (z:=af e) rfl (aa (z:=af q) rfl (aa (z:=af e) rfl (aa (As (n+1023) iq ie he) ?_)))))));refine aa (tc (n+1027) ir) (aa (tc (n+1027) it) (aa ab (aa (z:=true) ?_ (aa ab (dY ?_)))))
   ·rw[mc,mc];by_cases h1:p%d=0
    ·rw[decide_eq_true (by rw[dQ];exact h1)];rfl
    ·rw[decide_eq_false (by rw[dQ];exact h1),decide_eq_true (by rw[dQ];exact hr.resolve_left h1)];rfl
   ·have s1:=wc (p%d);have s2:=wc (q%e);have s3:-1<=sg (p%d)-sg (q%e)/\sg (p%d)-sg (q%e)<=1:=by rw[hend];exact mU _ _
    refine aa (bH (by simp only[inR];omega)) (aa (u3 hs s3) ?_)
    rw[hz]
  ·left;have hr1:p%d≠0:=λh=>hr (.inl h);have hr2:q%e≠0:=λh=>hr (.inr h);refine⟨(p%d).natAbs,[I (-s),.st [af d,af (p%d)],.st [af e,af (q%e)]],by omega,?_,-s,d,p%d,e,q%e,rfl,by omega,by omega,by omega,id,ir,ie,it,rfl,?_⟩
   ·refine aa (z:=af p) rfl (aa (z:=af d) rfl (aa (tB (n+1023) ip id hd) (aa (z:=af q) rfl (aa (z:=af e) rfl (aa (tB (n+1023) iq ie he) (aa (Od (n+1026) ip' iq') (aa ab (hpre ?_))))))));refine aa (z:=af d) rfl (aa (z:=af p) rfl (aa (z:=af d) rfl (aa (As (n+1023) ip id hd) (aa (z:=af e) rfl (aa (z:=af q) rfl (aa (z:=af e) rfl (aa (As (n+1023) iq ie he) ?_)))))));refine aa (tc (n+1027) ir) (aa (tc (n+1027) it) (aa ab (aa (z:=false) ?_ (aa ab ?_))))
    ·rw[mc,mc,decide_eq_false (by rw[dQ];exact hr1),decide_eq_false (by rw[dQ];exact hr2)];rfl
    ·exact jE (aa (kX (a:=s) (by simp only[inR];omega)) rfl)
   ·rw[tI,Int.neg_mul_neg];exact hz
 ·right;have h0:bf (p/d) (q/e)≠0:=λh=>hne (mT.1 h);rw[<-Ax hd he hne] at hz;refine⟨(0,[I (iF (some x) (some y))]),?_,rfl⟩;refine aa (z:=af p) rfl (aa (z:=af d) rfl (aa (tB (n+1023) ip id hd) (aa (z:=af q) rfl (aa (z:=af e) rfl (aa (tB (n+1023) iq ie he) (aa (Od (n+1026) ip' iq') (aa ab ?_)))))));rw[mc,decide_eq_false h0];refine dY (aa (u3 hs (mU _ _)) ?_);rw[hz]
def DL(n:Nat){a b:Option Rat}(ha:OW a)(hb:OW b)(h1:a.isSome=true\/b.isSome=true):cA (n+6) 324 [bh a,bh b]=some (I (iF a b)):=by
 rw[UO];delta GI qG qB qT qN qZ iL iR Jn;have c344:∀ (d:D) (v:Bool),cA (n+5) 344 [d,.bool v]=some (if v then af 0 else mb):=λd v=>by
  rw[US];delta GM qT Jn;cases v
  ·exact aa (z:=false) rfl (aa (DG (n+3)) rfl)
  ·exact aa (z:=true) rfl (aa (yI (n+1) (gP 0)) rfl)
 have g0':cA (n+4) 76 [af 0]=some (.bool true):=lQ (n+2) (bR (gP 0));have gb:cA (n+4) 76 [mb]=some (.bool false):=pZ (n+2) (a:=none) gJ;refine aa (qF n ha) (aa (qF n hb) (aa aJ (aa ab ?_)));cases a with
 | none=>
  cases b with
  | none=>exact absurd h1 (by simp)
  | some y=>
   refine aa (z:=true) rfl (aa ab (dY (aa (c344 _ false) (aa (c344 _ true) (aa (z:=I (-1)) ?_ rfl)))));rw[u32];delta KQ qG qT qN Jn;exact aa gb (aa aJ (aa ab (aa (z:=false) (dY (aa g0' rfl)) (aa ab (jE (aa gb (aa aJ (aa ab rfl))))))))
 | some x=>
 cases b with
 | none=>
  refine aa (z:=true) rfl (aa ab (dY (aa (c344 _ true) (aa (c344 _ false) (aa (z:=I 1) ?_ rfl)))));rw[u32];delta KQ qG qT qN Jn;exact aa g0' (aa aJ (aa ab (aa (z:=false) rfl (aa ab (jE (aa g0' (aa aJ (aa ab (jE (aa gb (aa aJ (aa ab rfl))))))))))))
 | some y=>
 refine aa (z:=false) rfl (aa ab (jE ?_));have hx:=ha.some;have hy:=hb.some;refine aa (z:=af x.num) rfl (aa (z:=af x.den) rfl (aa (z:=af y.num) rfl (aa (z:=af y.den) rfl ?_)));refine ls (CJ (iF (some x) (some y))) _ _ (wX hx hy) (λm s hJ=>?_);obtain⟨s,p,d,q,e,rfl,hs,hd,he,ip,id,iq,ie,rfl,hz⟩:=hJ;have ip':In (p/d):=jO ip d;have iq':In (q/e):=jO iq e;have ir:=uZ (x:=p) id hd;have it:=uZ (x:=q) ie he;have wr:=gd (x:=p) hd;have wt:=gd (x:=q) he;by_cases hne:p/d=q/e
 ·have h0:bf (p/d) (q/e)=0:=mT.2 hne;have hpre:∀ {A:Option (Sum (List D) (Nat×List D))} {B y},B=some y->(if(!(D.beq (I (bf (p/d) (q/e))) (.int .i64 0)))=true then A else B)=some y:=λh=>by
   rw[mc,h0];exact h
  rw[Aw hne] at hz;by_cases hr:p%d=0\/q%e=0
  ·right;have hend:=wY hd he wr.1 wt.1 hr;rw[<-hend] at hz;refine⟨(0,[I (iF (some x) (some y))]),?_,rfl⟩;refine aa (z:=af p) rfl (aa (z:=af d) rfl (aa (BJ (n+1) ip id hd) (aa (z:=af q) rfl (aa (z:=af e) rfl (aa (BJ (n+1) iq ie he) (aa (La (n+2) ip' iq') (aa ab (hpre ?_))))))));refine aa (z:=af d) rfl (aa (z:=af p) rfl (aa (z:=af d) rfl (aa (At (n+1) ip id hd) (aa (z:=af e) rfl (aa (z:=af q) rfl (aa (z:=af e) rfl (aa (At (n+1) iq ie he) ?_)))))));refine aa (BI (n+2) ir) (aa ab (aa (z:=true) ?_ (aa ab (dY (aa (BI (n+2) ir) (aa (BI (n+2) it) ?_))))))
   ·rw[mc];by_cases h1:p%d=0
    ·rw[decide_eq_true (by rw[dQ];exact h1)];rfl
    ·rw[decide_eq_false (by rw[dQ];exact h1)]
     refine jE (aa (BI (n+2) it) ?_);rw[mc,decide_eq_true (by rw[dQ];exact hr.resolve_left h1)];rfl
   ·have s1:=wc (p%d);have s2:=wc (q%e);have s3:-1<=sg (p%d)-sg (q%e)/\sg (p%d)-sg (q%e)<=1:=by rw[hend];exact mU _ _
    refine aa (bH (by simp only[inR];omega)) (aa (u3 hs s3) ?_)
    rw[hz]
  ·left;have hr1:p%d≠0:=λh=>hr (.inl h);have hr2:q%e≠0:=λh=>hr (.inr h);refine⟨(p%d).natAbs,[I (-s),.st [af d,af (p%d)],.st [af e,af (q%e)]],by omega,?_,-s,d,p%d,e,q%e,rfl,by omega,by omega,by omega,id,ir,ie,it,rfl,?_⟩
   ·refine aa (z:=af p) rfl (aa (z:=af d) rfl (aa (BJ (n+1) ip id hd) (aa (z:=af q) rfl (aa (z:=af e) rfl (aa (BJ (n+1) iq ie he) (aa (La (n+2) ip' iq') (aa ab (hpre ?_))))))));refine aa (z:=af d) rfl (aa (z:=af p) rfl (aa (z:=af d) rfl (aa (At (n+1) ip id hd) (aa (z:=af e) rfl (aa (z:=af q) rfl (aa (z:=af e) rfl (aa (At (n+1) iq ie he) ?_)))))));refine aa (BI (n+2) ir) (aa ab (aa (z:=false) ?_ (aa ab ?_)))
    ·rw[mc,decide_eq_false (by rw[dQ];exact hr1)]
     refine jE (aa (BI (n+2) it) ?_);rw[mc,decide_eq_false (by rw[dQ];exact hr2)];rfl
    ·exact jE (aa (kX (a:=s) (by simp only[inR];omega)) rfl)
   ·rw[tI,Int.neg_mul_neg];exact hz
 ·right;have h0:bf (p/d) (q/e)≠0:=λh=>hne (mT.1 h);rw[<-Ax hd he hne] at hz;refine⟨(0,[I (iF (some x) (some y))]),?_,rfl⟩;refine aa (z:=af p) rfl (aa (z:=af d) rfl (aa (BJ (n+1) ip id hd) (aa (z:=af q) rfl (aa (z:=af e) rfl (aa (BJ (n+1) iq ie he) (aa (La (n+2) ip' iq') (aa ab ?_)))))));rw[mc,decide_eq_false h0];refine dY (aa (u3 hs (mU _ _)) ?_);rw[hz]
end Sy
end
noncomputable section
namespace Sy
open Go Go.Proofs Geo
def xX(z:Int):gl (-z)=(gl z).map (λx=>-x):=by
 unfold gl;rw[zec];split<;>rfl
def Dx(x y:Rat):BC (-x) (-y)=zr (BC x y):=by
 unfold BC;rw[Rat.neg_num,Rat.neg_num,Rat.neg_den,Rat.neg_den];simp only[kG,Int.neg_mul,xX];generalize gl (x.num*_)=A;generalize gl (y.num*_)=B;generalize gl (_*(y.den:Int))=C;cases A with
 | none=>cases C<;>rfl
 | some a=>
 cases B with
 | none=>cases C<;>rfl
 | some b=>
 simp only[ta,zjb];rw[show -a+-b=-(a+b) by omega,xX]
 generalize gl (a+b)=S;cases S with
 | none=>cases C<;>rfl
 | some t=>
 cases C with
 | none=>rfl
 | some c=>
 simp only[nw,zjb,zr];split
 ·rfl
 ·rw[zjb,Rat.neg_divInt]
def kH{u:V}(h:bd NB u):bd NB u.neg:=by simp only[bd,V.neg,NB] at *;omega
structure PairOk(x y:V)(q r:Nat->Int)(l m:List V):Prop where
 pa:PoseOk x q
 pb:PoseOk y r
 la:∀ v∈l,bd 4096 v
 lb:∀ v∈m,bd 4096 v
 na:0<l.length
 nb:0<m.length
 ka:l.length<=100
 kb:m.length<=100
def If(u x y:V)(q r:Nat->Int)(l m:List V):Option Rat:=BC (-(dh u.neg y r m)) (-(dh u x q l))
def S7(n:Nat){u x y:V}{q r:Nat->Int}{l m:List V}(h:PairOk x y q r l m)(hu:bd NB u):cA (n+1034) 419 [ag u,cU x q,cF l,cU y r,cF m]=some (bh (If u x y q r l m)):=by
 rw[U7];unfold G0;refine aa (HG (n+1029) h.pa h.la h.ka) (aa (HG (n+1029) h.pb h.lb h.kb) (aa (z:=bh (If u x y q r l m)) ?_ rfl));rw[Vh];unfold Ha;have ra:=fZ hu h.pa h.la h.na;have rb:=fZ (kH hu) h.pb h.lb h.nb;refine aa (Oe (n+1031) hu (by decide)) (aa (HH (n+1) (kH hu) h.pb h.lb h.nb h.kb) (aa (HH (n+1) hu h.pa h.la h.na h.ka) ?_))
 refine aa (DK (n+1) (a:=some (dh u.neg y r m)) (b:=some (dh u x q l)) (cK rb) (cK ra)) (aa (DM (n+1) (ld _ _)) ?_);unfold If;rw[Dx];rfl
def Mr(n:Nat){u:V}(hu:bd NB u):cA (n+2) 438 [ag u]=some (ag u.neg):=by
 rw[Vk];delta Hd Jn;have hz:bd 0 V.zero:=by simp only[bd,V.zero];omega
 have:=yU n hz hu (by decide)
 rw[show V.sub V.zero u=u.neg by cases u;simp[V.sub,V.zero,V.neg]] at this
 exact aa this rfl
def S9(n:Nat){u x y:V}{q r:Nat->Int}{l m:List V}(h:PairOk x y q r l m)(hu:bd NB u):cA (n+9) 420 [ag u,cU x q,cF l,cU y r,cF m]=some (bh (If u x y q r l m)):=by
 rw[U8];unfold G1;have ra:=fZ hu h.pa h.la h.na;have rb:=fZ (kH hu) h.pb h.lb h.nb;refine aa (Mr (n+6) hu) (aa (HI n (kH hu) h.pb h.lb h.nb h.kb) (aa (JW (n+2) (a:=some (dh u.neg y r m)) (cK rb)) (aa (HI n hu h.pa h.la h.na h.ka) ?_)));exact aa (HE n (a:=some (-(dh u.neg y r m))) (b:=some (dh u x q l)) (nC (a:=some _) (cK rb)) (cK ra)) rfl
end Sy
end
noncomputable section
namespace Sy
open Go Go.Proofs Geo
def dp(k:Int)(v:V):Bool:=(List.range 3).all λt=>lX k (eO v (0+t))
def uL{k:Int}{v:V}(h:dp k v=true):bd (k-1) v:=by
 simp[dp,lX,zrc,eO] at h;simp only[bd];omega
def zP{v:V}(h:dp 2305843009213693952 v=true):bd NB v:=uL h
def I5(n:Nat)(v:V):cA (n+1) 187 [ag v]=some (.bool (dp 2305843009213693952 v)):=by
 rw[Nd];delta Dn qB qC qT qJ qZ iL iR Jn;refine kD (r:=if dp 2305843009213693952 v then(1,[]) else(0,[.bool false])) (rU (m:=3) (λi=>lX 2305843009213693952 (eO v i)) (λi hi=>?_) ?_ 3 0 rfl) ?_
 ·have hi':D.idx (I (i:Int)) 3=some i:=aq hi;refine aa ah (aa ab (aD (by show(i:Int)<3;omega) ?_))
  have hx:=xo (v:=v) hi;refine aa hi' (aa hx (aa fl (aa ab ?_)));generalize eO v i=x at *;by_cases h1:x ≥ 2305843009213693952
  ·have e:lX 2305843009213693952 x=false:=by simp[lX];omega
   rw[decide_eq_true h1,e];exact aa (z:=true) rfl (aa ab rfl)
  ·rw[decide_eq_false h1];refine aa (z:=decide (x<=-2305843009213693952)) (jE (aa hi' (aa hx (aa jV ab)))) (aa ab ?_);by_cases h2:x<=-2305843009213693952
   ·have e:lX 2305843009213693952 x=false:=by simp[lX];omega
    rw[decide_eq_true h2,e];rfl
   ·have e:lX 2305843009213693952 x=true:=by simp[lX];omega
    rw[decide_eq_false h2,e];exact jE (aa (aM (a:=i) (b:=1) (by omega)) rfl)
 ·exact aa ah (aa ab (aH (by decide) rfl))
 ·cases dp 2305843009213693952 v<;>rfl
def DU(u:V)(a:Option Rat)(x y:V)(q r:Nat->Int)(l m:List V):Bool:=
 dp 2305843009213693952 u&&(!(decide (u=V.zero))&&(a.isSome&&(decide (iF (some (dh u x q l)) a<=0)&&decide (iF (some (-(dh u.neg y r m))) a ≥ 0))))
def HS{x d:Rat}:iF (some x) (some (-d))=-iF (some (-x)) (some d):=by
 simp only[iF,oh,Rat.neg_num,Rat.neg_den];rw[<-tJ];unfold bf;rw[Int.neg_mul,Int.neg_mul];generalize x.num*(d.den:Int)=A;generalize d.num*(x.den:Int)=B;split<;>split<;>(try split)<;>(try split)<;>omega
def D2(u:V)(a:Option Rat):D:=.st [ag u,bh a]
def Jb(u:V)(a:Option Rat):D.get (D2 u a) [1,0,0]=some (.bool (!a.isSome)):=by cases a<;>rfl
def wL(u:V):D.beq (ag u) (D.st [(.int .i64 0),(.int .i64 0),(.int .i64 0)])=decide (u=V.zero):=jY u V.zero
def Ta(n:Nat){u x y:V}{a:Option Rat}(ha:OW a){q r:Nat->Int}{l m:List V}(h:PairOk x y q r l m):cA (n+1034) 421 [D2 u a,cU x q,cF l,cU y r,cF m]=some (.bool (DU u a x y q r l m)):=by
 rw[U9];delta G2 qG qB qC qT qZ iL iR Jn;refine aa (z:=ag u) rfl ?_;refine kD (r:=if dp 2305843009213693952 u then(1,[]) else(0,[.bool false])) (rU (m:=3) (λi=>lX 2305843009213693952 (eO u i)) (λi hi=>?_) ?_ 3 0 rfl) ?_
 ·have hi':D.idx (I (i:Int)) 3=some i:=aq hi;refine aa ah (aa ab (aD (by show(i:Int)<3;omega) ?_))
  refine aa hi' (aa (rD hi) (aa fl (aa ab ?_)));generalize eO u i=x at *;by_cases h1:x ≥ 2305843009213693952
  ·have e:lX 2305843009213693952 x=false:=by simp[lX];omega
   rw[decide_eq_true h1,e];exact aa (z:=true) rfl (aa ab rfl)
  ·rw[decide_eq_false h1];refine aa (z:=decide (x<=-2305843009213693952)) (jE (aa jV ab)) (aa ab ?_);by_cases h2:x<=-2305843009213693952
   ·have e:lX 2305843009213693952 x=false:=by simp[lX];omega
    rw[decide_eq_true h2,e];rfl
   ·have e:lX 2305843009213693952 x=true:=by simp[lX];omega
    rw[decide_eq_false h2,e];exact jE (aa (aM (a:=i) (b:=1) (by omega)) rfl)
 ·exact aa ah (aa ab (aH (by decide) rfl))
 unfold DU;by_cases hs:dp 2305843009213693952 u=true
 ·rw[hs,if_pos rfl,if_neg (by decide),zgb]
  have hu:=zP hs;refine aa (z:=ag u) rfl (aa (z:=decide (u=V.zero)) (by rw[wL];exact ab) ?_)
  by_cases hz:u=V.zero
  ·rw[decide_eq_true hz];exact aa (z:=true) rfl (aa ab rfl)
  ·rw[decide_eq_false hz,zxb,zgb];refine aa (z:=!a.isSome) (jE (aa (Jb u a) ab)) (aa ab ?_);cases a with
   | none=>rfl
   | some d=>
    have hd:=ha.some;have ra:=fZ hu h.pa h.la h.na;have rb:=fZ (kH hu) h.pb h.lb h.nb;refine jE (aa (HG (n+1029) h.pa h.la h.ka) (aa (z:=ag u) rfl (aa (HH (n+2) hu h.pa h.la h.na h.ka) (aa (z:=bh (some d)) rfl (aa (JX (n+2) (a:=some (dh u x q l)) (cK ra) ha) (aa jV (aa ab ?_)))))));rw[show(some d:Option Rat).isSome=true from rfl,zgb];refine aa (z:=decide (iF (some (dh u x q l)) (some d)<=0)&&decide (iF (some (-(dh u.neg y r m))) (some d) ≥ 0)) ?_ rfl;by_cases h1:iF (some (dh u x q l)) (some d)<=0
    ·rw[decide_eq_true h1,zgb];refine dY (aa (HG (n+1029) h.pb h.lb h.kb) (aa (z:=ag u) rfl (aa (Oe (n+1032) hu (by decide)) (aa (HH (n+2) (kH hu) h.pb h.lb h.nb h.kb) (aa (z:=bh (some d)) rfl (aa (DM (n+2) ha) (aa (JX (n+2) (a:=some (dh u.neg y r m)) (cK rb) (nC ha)) ?_)))))))
     refine aa jV ?_;rw[show zr (some d)=some (-d) from rfl,HS];refine Eq.trans ab (congrArg some (decide_eq_decide.2 ?_));omega
    ·rw[decide_eq_false h1];rfl
 ·have hs':dp 2305843009213693952 u=false:=by cases hh:dp 2305843009213693952 u;rfl;exact absurd hh hs
  rw[hs'];rfl
def Tb(n:Nat){u x y:V}{a:Option Rat}(ha:OW a){q r:Nat->Int}{l m:List V}(h:PairOk x y q r l m):cA (n+9) 422 [D2 u a,cU x q,cF l,cU y r,cF m]=some (.bool (DU u a x y q r l m)):=by
 rw[Va];delta G3 qG qB qC qT qN Jn;refine aa (z:=ag u) rfl (aa (I5 (n+7) u) (aa (z:=ag u) rfl (aa aJ (aa ab ?_))));unfold DU;by_cases hs:dp 2305843009213693952 u=true
 ·rw[hs,zgb];have hu:=zP hs;refine aa (z:=decide (u=V.zero)) (jE (by rw[wL];exact ab)) (aa ab ?_)
  by_cases hz:u=V.zero
  ·rw[decide_eq_true hz];exact aa (z:=true) rfl (aa ab rfl)
  ·rw[decide_eq_false hz,zxb,zgb];refine aa (z:=!a.isSome) (jE (aa (Jb u a) ab)) (aa ab ?_);cases a with
   | none=>rfl
   | some d=>
    have hd:=ha.some;have ra:=fZ hu h.pa h.la h.na;have rb:=fZ (kH hu) h.pb h.lb h.nb;refine jE (aa (z:=ag u) rfl (aa (Mr (n+6) hu) (aa (HI n (kH hu) h.pb h.lb h.nb h.kb) (aa (JW (n+2) (a:=some (dh u.neg y r m)) (cK rb)) (aa (z:=ag u) rfl (aa (HI n hu h.pa h.la h.na h.ka) (aa (z:=bh (some d)) rfl (aa (DL (n+2) (a:=some (dh u x q l)) (cK ra) ha (.inl rfl)) (aa jV (aa ab ?_))))))))));rw[show(some d:Option Rat).isSome=true from rfl,zgb];refine aa (z:=decide (iF (some (dh u x q l)) (some d)<=0)&&decide (iF (some (-(dh u.neg y r m))) (some d) ≥ 0)) ?_ rfl;by_cases h1:iF (some (dh u x q l)) (some d)<=0
    ·rw[decide_eq_true h1,zgb];exact dY (aa (z:=bh (some d)) rfl (aa (DL (n+2) (a:=some (-(dh u.neg y r m))) (nC (a:=some _) (cK rb)) ha (.inl rfl)) (aa fl ab)))
    ·rw[decide_eq_false h1];rfl
 ·have hs':dp 2305843009213693952 u=false:=by cases hh:dp 2305843009213693952 u;rfl;exact absurd hh hs
  rw[hs'];rfl
end Sy
end
noncomputable section
namespace Sy
open Go Go.Proofs Geo
def mv(u v:WV):WV:=λi=>IG (u i) (v i)
def uj(u v:WV):yO (mv u v):=λi=>IH _ _
def Th(n:Nat){u v:WV}(hu:yO u)(hv:yO v):cA (n+9) 442 [df u,df v]=some (df (mv u v)):=by
 rw[Vn];delta Hg qG;exact aa (z:=bh (u 0)) rfl (aa (z:=bh (v 0)) rfl (aa (HE n (hu 0) (hv 0)) (aa (z:=bh (u 1)) rfl (aa (z:=bh (v 1)) rfl (aa (HE n (hu 1) (hv 1)) (aa (z:=bh (u 2)) rfl (aa (z:=bh (v 2)) rfl (aa (HE n (hu 2) (hv 2)) rfl))))))))
def Tf(n:Nat){u v:WV}(hu:yO u)(hv:yO v):cA (n+1033) 440 [df u,df v]=some (df (mv u v)):=by
 rw[Vl];delta He qB qC qJ qZ iL iR Jn;refine xI (l0:=[bh (u 0),bh (u 1),bh (u 2)]) (λi=>bh (mv u v i)) rfl (λi hi l hl hj=>?_) (λl=>aa ah (aa ab (aH (by decide) rfl))) rfl
 have hg:D.get (.st l) [i]=some (bh (u i)):=by
  have e:=hj i (zha _);have:i=0\/i=1\/i=2:=by omega
  rcases this with rfl|rfl|rfl<;>simp[D.get,D.fld,e]
 exact aa ah (aa ab (aD (by show(i:Int)<3;omega) (aa (aq hi) (aa hg (aa (aq hi) (aa (jD hi v) (aa (Me n (hu i) (hv i)) (aa (aq hi) (aa (sG (by omega)) (aa (aM (a:=i) (b:=1) (by omega)) rfl))))))))))
def yT(v:WV):Bool:=!((v 0).isSome&&((v 1).isSome&&(v 2).isSome))
def Ja(v:WV):D.get (df v) [0,0,0]=some (.bool (!(v 0).isSome))/\D.get (df v) [1,0,0]=some (.bool (!(v 1).isSome))/\D.get (df v) [2,0,0]=some (.bool (!(v 2).isSome)):=by
 have h:∀ a:Option Rat,D.get (bh a) [0,0]=some (.bool (!a.isSome)):=λa=>by cases a<;>rfl
 exact⟨h _,h _,h _⟩
def To(n:Nat)(v:WV):cA (n+1) 71 [df v]=some (.bool (yT v)):=by
 rw[X9];delta NJ qG qT;obtain⟨h1,h2,h3⟩:=Ja v;unfold yT;refine aa h1 (aa ab ?_);cases (v 0).isSome
 ·exact aa (z:=true) rfl (aa ab (aa (z:=true) rfl rfl))
 refine aa (z:=!(v 1).isSome) (jE (aa h2 ab)) (aa ab ?_);cases (v 1).isSome
 ·exact aa (z:=true) rfl rfl
 exact aa (z:=!(v 2).isSome) (jE (aa h3 ab)) rfl
def Tg(n:Nat)(v:WV):cA (n+1) 441 [df v]=some (.bool (yT v)):=by
 rw[Vm];delta Hf qG qT;obtain⟨h1,h2,h3⟩:=Ja v;unfold yT;refine aa h1 (aa ab ?_);cases (v 0).isSome
 ·exact aa (z:=true) rfl (aa ab (aa (z:=true) rfl rfl))
 refine aa (z:=!(v 1).isSome) (jE (aa h2 ab)) (aa ab ?_);cases (v 1).isSome
 ·exact aa (z:=true) rfl rfl
 exact aa (z:=!(v 2).isSome) (jE (aa h3 ab)) rfl
def Bt(q:Nat->Int)(v:V):V:=⟨cC q v 0,cC q v 1,cC q v 2⟩
def yD{q:Nat->Int}(h:yH q){v:V}(hv:bd 1099511627776 v)(i:Nat):inR (eO (Bt q v) i):=by
 obtain⟨v1,v2,v3⟩:=nZ (k:=1099511627776) hv;have key:∀ i,inR (cC q v i):=λi=>by
  have a:=jI h (3*i) v1;have b:=jI h (3*i+1) v2;have c:=jI h (3*i+2) v3;simp only[inR,cC];omega
 exact rH (key 0) (key 1) (key 2) i
def MK(q:Nat->Int)(p:WV)(f:(V×Int)×List Nat):Int:=iF (some ((fk q*f.1.2:Int):Rat)) (zi (Fi (Bt q f.1.1)) p)
def B0(q:Nat->Int)(p:WV)(F:FL):Nat->Int
 | 0=>1
 | k+1=>min (B0 q p F k) ((F[k]?).elim 0 (MK q p))
def H5(x:V)(q:Nat->Int)(F:FL)(v:WV):Int:=if yT v then -1 else B0 q (mv v (Fi x)) F F.length
def tX{q:Nat->Int}{p:WV}{F:FL}{k:Nat}(h:k<F.length):B0 q p F (k+1)=min (B0 q p F k) (MK q p F[k]):=by
 show min _ ((F[k]?).elim 0 _)=_;rw[zda h];rfl
def Jy(F:FL):Prop:=F.length<=3000000/\∀ f∈F,bd 549755813888 f.1.1/\(f.1.2).natAbs<=281474976710656
def Bk{x:V}{q:Nat->Int}(h:PoseOk x q){d:Int}(hd:d.natAbs<=281474976710656):inR (fk q*d):=by
 have s:=vX h.hq h.h0;have:(fk q*d).natAbs<=16384*281474976710656:=by rw[zOa];exact zfb (by omega) hd
 simp only[inR];omega
def Hr{v:V}(h:bd 549755813888 v):bd 1099511627776 v:=by simp only[bd] at *;omega
def Tc(n:Nat){x:V}{q:Nat->Int}(h:PoseOk x q){l:List V}{F:FL}(hF:Jy F)(h18:∀ m,cA (m+8) 18 [cF l]=some (.sl (aN F))){v:WV}(hv:yO v):cA (n+1036) 423 [cU x q,cF l,df v]=some (I (H5 x q F v)):=by
 rw[Vb];delta G4 qG qB qC qT qS qX qZ iL iR Jn H5;refine aa (To (n+1034) v) (aa ab ?_);cases yT v with
 | true=>rfl
 | false=>
 have hx:∀ i,inR (eO x i):=rH (by have:=h.hx;simp only[bd] at this;simp only[inR];omega) (by have:=h.hx;simp only[bd] at this;simp only[inR];omega) (by have:=h.hx;simp only[bd] at this;simp only[inR];omega)
 have hp:=uj v (Fi x);refine jE (aa (z:=ag x) rfl (aa (I2 (n+2) hx) (aa (Tf (n+2) hv (ws hx)) (aa (z:=gh q) rfl (aa (Mk (n+1032) h.hq) (aa (h18 (n+1027)) (aa (z:=aN F) rfl ?_)))))));refine cN (λi s=>s=[I (B0 q (mv v (Fi x)) F i),I (i:Int)]) F.length 0 (zoa _) rfl (λi hi s hj=>?_) (λs hj=>?_)
 ·subst hj;left;obtain⟨f1,f2⟩:=hF.2 F[i] (zLa hi);have hl:=hF.1;refine⟨_,?_,rfl⟩;have s1:=Bk h f2;refine aa ah (aa ab (aD (by rw[a6];omega) ?_))
  refine aa (z:=aN F) rfl (aa (z:=i) (by rw[a6];exact aq hi) (aa (eG hi) ?_))
  refine aa (z:=I F[i].1.2) rfl (aa (bg s1) (aa (Mv (n+3) s1) (aa (z:=gh q) rfl (aa (z:=ag F[i].1.1) rfl (aa (z:=ag (Bt q F[i].1.1)) (Ml (n+1032) h.hq (Hr f1)) ?_)))));refine aa (Tp (n+1) (yD h.hq (Hr f1)) hp) (aa (JX (n+4) (a:=some ((fk q*F[i].1.2:Int):Rat)) (cK (Af (bR s1))) (AP _ _)) ?_);rw[tX hi];exact aa Ew (aa (aM (a:=i) (b:=1) (by omega)) rfl)
 ·subst hj;exact⟨_,aa ah (aa ab (aH (by rw[a6];omega) rfl)),rfl⟩
def Td(n:Nat){x:V}{q:Nat->Int}(h:PoseOk x q){l:List V}{F:FL}(hF:Jy F)(h19:∀ m,cA (m+8) 19 [cF l]=some (.sl (aN F))){v:WV}(hv:yO v):cA (n+11) 424 [cU x q,cF l,df v]=some (I (H5 x q F v)):=by
 rw[Vc];delta G5 qG qB qT qX qL qZ iL iR Jn H5;refine aa (Tg (n+9) v) (aa ab ?_);cases yT v with
 | true=>rfl
 | false=>
 have hx:∀ i,inR (eO x i):=rH (by have:=h.hx;simp only[bd] at this;simp only[inR];omega) (by have:=h.hx;simp only[bd] at this;simp only[inR];omega) (by have:=h.hx;simp only[bd] at this;simp only[inR];omega)
 have hp:=uj v (Fi x);refine jE (aa (z:=ag x) rfl (aa (Md (n+3) hx) (aa (Th (n+1) hv (ws hx)) (aa (h19 (n+2)) ?_))));refine cN (λi s=>s=[I (B0 q (mv v (Fi x)) F i),I (i:Int)]) F.length 0 (zoa _) rfl (λi hi s hj=>?_) (λs hj=>?_)
 ·subst hj;left;obtain⟨f1,f2⟩:=hF.2 F[i] (zLa hi);have hl:=hF.1;refine⟨_,?_,rfl⟩;have s1:=Bk h f2;refine aa (z:=aN F) rfl (aa ah (aa ab (aD (by rw[a6];omega) ?_)))
  refine aa (z:=gh q) rfl (aa (z:=aN F) rfl (aa (z:=i) (by rw[a6];exact aq hi) (aa (eG hi) (aa (z:=ag F[i].1.1) rfl (aa (z:=ag (Bt q F[i].1.1)) (Mi (n+8) h.hq (Hr f1)) ?_)))))
  refine aa (Mg (n+1) (yD h.hq (Hr f1)) hp) (aa (z:=gh q) rfl (aa (JT (n+8) h.hq) ?_));refine aa (z:=aN F) rfl (aa (z:=i) (by rw[a6];exact aq hi) (aa (eG hi) (aa (z:=I F[i].1.2) rfl (aa (bg s1) (aa (N8 (n+4) s1) ?_)))))
  refine aa (DL (n+4) (a:=some ((fk q*F[i].1.2:Int):Rat)) (cK (Af (bR s1))) (AP _ _) (.inl rfl)) ?_;rw[tX hi];exact aa Ew (aa (aM (a:=i) (b:=1) (by omega)) rfl)
 ·subst hj;exact⟨_,aa (z:=aN F) rfl (aa ah (aa ab (aH (by rw[a6];omega) rfl))),rfl⟩
end Sy
end
noncomputable section
namespace Sy
open Go Go.Proofs Geo
def IZ{A B:Int}{v:V}(h:bd A v)(hAB:A<=B):bd B v:=by simp only[bd] at *;omega
def B4{l:List V}(hl:∀ x∈l,bd 4096 x){m:V}{d:Int}(h:IsF (pt l) l.length m d):bd 549755813888 m/\d.natAbs<=281474976710656:=by
 obtain⟨i,j,k,h1,h2,h3,h4,h5,h6⟩:=h.ex;have hi:=hl _ (ct (show i<l.length by omega))
 have hj:=hl _ (ct (show j<l.length by omega))
 have hk:=hl _ (ct h3);have w1:bd 8192 (wy (pt l) i j):=jx hj hi;have w2:bd 8192 (wy (pt l) i k):=jx hk hi;have hp:=jv (gL w1 w2);have hm:bd 134217728 m:=by
  rcases h5 with rfl|rfl
  ·exact hp
  ·exact n7 hp
 refine⟨IZ hm (by decide),?_⟩
 have hd:=DB hm hi;rw[h6];show(V.dot m (pt l i)).natAbs<=_;have e:(3:Int)*(134217728*4096)=1649267441664:=rfl;rw[e] at hd;have hd':-1649267441664<=V.dot m (pt l i)/\V.dot m (pt l i)<=1649267441664:=hd;omega
def TA{l:List V}(hl:∀ x∈l,bd 4096 x)(hlen:l.length<=64)(hs:Fy l):∃ F:FL,Jy F/\(∀ m,cA (m+8) 18 [cF l]=some (.sl (aN F)))/\∀ m,cA (m+8) 19 [cF l]=some (.sl (aN F)):=by
 obtain⟨L,poly,hL,hP,hF,h18,h19⟩:=XL (l:=l) (λx hx=>IZ (hl x hx) (by decide)) hlen hs
 refine⟨_,⟨zMa hF.len (by decide),λf hf=>?_⟩,h18,h19⟩
 obtain⟨q,hq,rfl⟩:=zsb.1 hf;exact B4 hl ((hL.mem q).1 hq)
end Sy
end
noncomputable section
namespace Sy
open Go Go.Proofs Geo
def Mq(n:Nat)(l:List V):∃ v:Bool,cA (n+10) 431 [cF l,I 10]=some (.bool v)/\(v=true->l.length<=10/\(∀ x∈l,bd 4096 x)/\Hul l):=by
 suffices h:∃ y,cA (n+10) 431 [cF l,I 10]=some y/\∃ v:Bool,y=.bool v/\(v=true->l.length<=10/\(∀ x∈l,bd 4096 x)/\Hul l) by
  obtain⟨y,h,v,rfl,k⟩:=h;exact⟨v,h,k⟩
 rw[Vf];delta G8 qB qC qT qY qM qP qZ iL iR Jn;refine av (z:=aX l) rfl (av (z:=l.map ag) rfl (av ca (av ab ?_)));by_cases hlen:l.length>10
 ·exact gu (by rw[aF];omega) ⟨.bool false,rfl,false,rfl,λh=>by cases h⟩
 refine vp (by rw[aF];omega) ?_
 refine lV (λi s=>s=[I (i:Int)]/\∀ x∈l.take i,bd 4096 x) l.length 0 (zoa _) ⟨rfl,by simp⟩ (λi hi s hJ=>?_) (λs hJ=>?_)
 ·obtain⟨rfl,hJ⟩:=hJ;refine av (z:=aX l) rfl (av (z:=l.map ag) rfl (av ah (av ab (gu (by show(i:Int)<((l.map ag).length:Int);rw[aF];omega) ?_))))
  refine lV (λk s=>s=[I (k:Int)]/\∀ t,t<k->eO l[i] t<=4096/\-4096<=eO l[i] t) 3 0 (zoa _) ⟨rfl,λt h=>by omega⟩ (λk hk s hK=>?_) (λs hK=>?_)
  ·obtain⟨rfl,hK⟩:=hK;have hg:Option.bind (D.get (cF l) [0]) (λx9=>Option.bind (D.asSl x9) λl10=>Option.bind (D.idx (I (i:Int)) l10.length) λi11=>l10[i11]?)=some (ag l[i]):=
    aa (z:=aX l) rfl (aa (z:=l.map ag) rfl (aa (z:=i) (by rw[aF];exact aq hi) (Ec hi)))
   refine av ah (av ab (gu (by show(k:Int)<3;omega) ?_))
   refine av (z:=aX l) rfl (av (z:=l.map ag) rfl (av (z:=i) (by rw[aF];exact aq hi) (av (Ec hi) (av (z:=k) (aq hk) (av (rD hk) (av ca (av ab ?_)))))))
   by_cases h1:eO l[i] k>4096
   ·refine av (z:=true) (by rw[decide_eq_true h1];rfl) (av (z:=true) rfl ⟨.inr (0,[.bool false]),rfl,.inr (0,[.bool false]),rfl,.bool false,rfl,false,rfl,λh=>by cases h⟩)
   ·refine av (z:=decide (eO l[i] k < -4096)) ?_ (av ab ?_)
    ·rw[decide_eq_false h1,if_neg (by decide)]
     exact aa (z:=aX l) rfl (aa (z:=l.map ag) rfl (aa (z:=i) (by rw[aF];exact aq hi) (aa (Ec hi) (aa (z:=k) (aq hk) (aa (rD hk) (aa ah ab))))))
    ·by_cases h2:eO l[i] k < -4096
     ·exact gu h2 ⟨.inr (0,[.bool false]),rfl,.inr (0,[.bool false]),rfl,.bool false,rfl,false,rfl,λh=>by cases h⟩
     ·refine vp h2 ⟨.inl [I ((k+1:Nat):Int)],aa (aM (a:=k) (b:=1) (by omega)) rfl,rfl,λt ht=>?_⟩
      by_cases e:t=k
      ·subst e;omega
      ·exact hK t (by omega)
  ·obtain⟨rfl,hK⟩:=hK;refine⟨.inr (1,[]),aa ah (aa ab (aH (by decide) rfl)),.inl [I ((i+1:Nat):Int)],?_,rfl,?_⟩
   ·rw[if_neg (by decide)]
    exact aa (aM (a:=i) (b:=1) (by omega)) rfl
   ·rw[zEa hi];intro x hx;rcases zDa.1 hx with hx|hx
    ·exact hJ x hx
    ·rw[zKa.1 hx];exact HR hK
 ·obtain⟨rfl,hJ⟩:=hJ;rw[z3a] at hJ;refine⟨.inr (1,[]),aa (z:=aX l) rfl (aa (z:=l.map ag) rfl (aa ah (aa ab (aH (by show ¬ ((l.length:Int)<((l.map ag).length:Int));rw[aF];omega) rfl)))),?_⟩
  rcases SK n (l:=l) (by omega) with⟨e,h1,h2⟩|⟨h1,h2⟩
  ·refine⟨.bool false,aa h1 ?_,false,rfl,λh=>by cases h⟩
   rw[mc,decide_eq_false h2]
  ·refine⟨.bool true,aa h1 ?_,true,rfl,λ_=>⟨by omega,hJ,h2⟩⟩
   rw[mc];rfl
def Mp(n:Nat)(x:V)(q:Nat->Int):∃ v:Bool,cA (n+4) 427 [cU x q]=some (.bool v)/\(v=true->PoseOk x q):=by
 obtain⟨v,h1,h2⟩:=SU n q;refine⟨dp 140737488355328 x&&v,?_,λh=>by
  simp only[zaa] at h;exact⟨uL h.1,AY (h2 h.2).1,(h2 h.2).2⟩⟩
 rw[Ve];delta G7 qG qB qC qT qZ iL iR Jn;refine kD (r:=if dp 140737488355328 x then(1,[]) else(0,[.bool false])) (rU (m:=3) (λi=>lX 140737488355328 (eO x i)) (λi hi=>?_) ?_ 3 0 rfl) ?_
 ·have hi':D.idx (I (i:Int)) 3=some i:=aq hi;refine aa ah (aa ab (aD (by show(i:Int)<3;omega) ?_))
  have hx:D.get (cU x q) [0,i]=some (I (eO x i)):=xo (v:=x) hi;refine aa hi' (aa hx (aa fl (aa ab ?_)));generalize eO x i=y at *;by_cases h1:y ≥ 140737488355328
  ·have e:lX 140737488355328 y=false:=by simp[lX];omega
   rw[decide_eq_true h1,e];exact aa (z:=true) rfl (aa ab rfl)
  ·rw[decide_eq_false h1];refine aa (z:=decide (y<=-140737488355328)) (jE (aa hi' (aa hx (aa jV ab)))) (aa ab ?_);by_cases h2:y<=-140737488355328
   ·have e:lX 140737488355328 y=false:=by simp[lX];omega
    rw[decide_eq_true h2,e];rfl
   ·have e:lX 140737488355328 y=true:=by simp[lX];omega
    rw[decide_eq_false h2,e];exact jE (aa (aM (a:=i) (b:=1) (by omega)) rfl)
 ·exact aa ah (aa ab (aH (by decide) rfl))
 ·cases dp 140737488355328 x with
  | false=>rfl
  | true=>exact aa h1 rfl
def Eg{l:List V}(h:Hul l):0<l.length:=by
 obtain⟨m,d,hF⟩:=h.ex;obtain⟨i,j,k,h1,h2,h3,_⟩:=hF.ex;omega
def S6(n:Nat)(x y:V)(q r:Nat->Int)(l m:List V):∃ v:Bool,cA (n+11) 414 [cU x q,cF l,cU y r,cF m]=some (.bool v)/\(v=true->PairOk x y q r l m/\Hul l/\Hul m):=by
 obtain⟨v1,h1,k1⟩:=Mp (n+6) x q;obtain⟨v2,h2,k2⟩:=Mp (n+6) y r;obtain⟨v3,h3,k3⟩:=Mq n l;obtain⟨v4,h4,k4⟩:=Mq n m;refine⟨v1&&v2&&v3&&v4,?_,λh=>?_⟩
 ·rw[U6];delta GZ qT Jn;refine aa h1 (aa ab (aa (z:=v1&&v2) ?_ (aa ab (aa (z:=v1&&v2&&v3) ?_ (aa ab (aa (z:=v1&&v2&&v3&&v4) ?_ rfl))))))
  ·cases v1
   ·rfl
   ·exact dY (aa h2 rfl)
  ·cases (v1&&v2)
   ·rfl
   ·exact dY (aa h3 rfl)
  ·cases (v1&&v2&&v3)
   ·rfl
   ·exact dY (aa h4 rfl)
 ·simp only[zaa] at h;obtain⟨⟨⟨e1,e2⟩,e3⟩,e4⟩:=h;obtain⟨a1,a2,a3⟩:=k3 e3;obtain⟨b1,b2,b3⟩:=k4 e4;exact⟨⟨k1 e1,k2 e2,a2,b2,Eg a3,Eg b3,by omega,by omega⟩,a3,b3⟩
end Sy
end
noncomputable section
namespace Sy
open Go Go.Proofs Geo
def oX(b s:Bool)(f:Nat->Int):D:=.st [.bool b,.bool s,bT 16 f]
def zR(f:Nat->Int)(k:Nat):Bool:=(List.range k).all λi=>decide (f i=0)
def IW(f:Nat->Int)(k:Nat):zR f (k+1)=(zR f k&&decide (f k=0)):=by simp[zR,zrc]
def C6(b s:Bool)(f:Nat->Int):Bool:=if b then zR f 16&&!s else !(zR f 16)||!s
def L4(n:Nat)(b s:Bool)(f:Nat->Int):cA (n+1) 139 [oX b s f]=some (.bool (C6 b s f)):=by
 rw[KG];delta By qG qB qC qT qN qZ iL iR Jn;refine cN (λi st=>st=[.bool (zR f i),I (i:Int)]) 16 0 (zoa _) rfl (λi hi st hJ=>?_) (λst hJ=>?_)
 ·subst hJ;left;refine⟨_,?_,rfl⟩;refine aa ah (aa ab (aD (by show(i:Int)<16;omega) (aa ab (aa (z:=zR f (i+1)) ?_ (aa (au (ay (i:=i) (by omega))) rfl)))))
  rw[IW];cases zR f i with
  | false=>rfl
  | true=>
   refine dY (aa (aq hi) (aa (z:=.int .u32 (f i)) ?_ ?_))
   ·have hg:D.get (oX b s f) [2,i]=D.get (bT 16 f) [i]:=rfl;rw[hg,a8 _ hi]
   ·show D.truth (D.bool (D.beq (D.int .u32 (f i)) (D.int .u32 0)))=_;refine Eq.trans ab ?_;simp[D.beq]
 ·subst hJ;refine⟨(0,[.bool (zR f 16)]),aa ah (aa ab (aH (by decide) rfl)),?_⟩
  unfold C6;generalize zR f 16=z;cases b<;>cases s<;>cases z<;>rfl
def wh(f:Nat->Int):Nat->Nat
 | 0=>0
 | k+1=>wh f k+(f k).toNat *2^(32*k)
theorem wi{f:Nat->Int}(h:∀ i,i<16->0<=f i/\f i<4294967296):∀ k,k<=16->wh f k<2^(32*k)
 | 0,_=>by simp[wh]
 | k+1,hk=>by
  have ih:=wi h k (by omega)
  have hf:=h k (by omega)
  have e:2^(32*(k+1))=4294967296*2^(32*k):=by rw[zFb,z6a,zya]
  show wh f k+(f k).toNat *2^(32*k)<_;rw[e];have:((f k).toNat+1)*2^(32*k)<=4294967296*2^(32*k):=zwa _ (by omega)
  rw[zUa] at this;omega
theorem sO{f:Nat->Int}(h:∀ i,i<16->0<=f i/\f i<4294967296):∀ k,k<=16->∀ i,i<k->wh f k/2^(32*i)%4294967296=(f i).toNat
 | 0,_,i,hi=>by omega
 | k+1,hk,i,hi=>by
  have ih:=sO h k (by omega) i
  have hf:=h k (by omega)
  have hlt:=wi h k (by omega)
  show(wh f k+(f k).toNat *2^(32*k))/2^(32*i)%4294967296=_;by_cases e:i=k
  ·subst e;rw[zdc _ _ (Nat.pow_pos (by decide)),zSa hlt,z1a,zAa (by omega)]
  ·have e2:(f k).toNat *2^(32*k)=(f k).toNat *2^(32*(k-i-1))*4294967296*2^(32*i):=by
    rw[zNa,zNa,<-zNa (2^_),show(4294967296:Nat)=2^32 from rfl,<-z6a,<-z6a];congr 2;omega
   rw[e2,zdc _ _ (Nat.pow_pos (by decide)),z0c]
   exact ih (by omega)
def Fw(f:Nat->Int):zR f 16=true↔∀ i,i<16->f i=0:=by
 simp only[zR,zja,zWa,decide_eq_true_eq]
def II{f:Nat->Int}(h:∀ i,i<16->0<=f i/\f i<4294967296):bT 16 f=LM (wh f 16):=bV λi hi=>by
 rw[cw,sO h 16 (zha _) i hi];have:=h i hi;omega
def Kx{b s:Bool}{f:Nat->Int}(h:∀ i,i<16->0<=f i/\f i<4294967296)(hk:C6 b s f=true):∃ a:Option Int,k9 a/\oX b s f=bY a/\a.isSome=!b:=by
 cases b with
 | true=>
  simp only[C6,if_true,zaa,zxa] at hk;obtain⟨h1,rfl⟩:=hk;refine⟨none,gJ,?_,rfl⟩;show D.st [.bool true,.bool false,bT 16 f]=mb;rw[bV (g:=bi 0) λi hi=>by rw[(Fw f).1 h1 i hi,iS]]
  rfl
 | false=>
  have ht:wh f 16<dJ:=by rw[ff,cP];exact wi h 16 (zha _)
  obtain⟨X,hX⟩:∃ X,wh f 16=X:=⟨_,rfl⟩;have hv:=II h;rw[hX] at ht hv;have hz:s=true->X≠0:=λhs h0=>by
   subst hs;have:zR f 16=true:=(Fw f).2 λi hi=>by
    have e:=sO h 16 (zha _) i hi;rw[hX,h0,Nat.zero_div,zjd] at e;have:=h i hi;omega
   rw[C6,this] at hk;simp at hk
  refine⟨some (if s then -(X:Int) else X),ba ?_,?_,rfl⟩
  ·rw[aZ];cases s<;>simp[ht]
  ·show D.st [.bool false,.bool s,bT 16 f]=af _;rw[bL,hv];cases s with
   | true=>have:=hz rfl;simp;omega
   | false=>simp
end Sy
end
noncomputable section
namespace Sy
open Go Go.Proofs Geo
def JY(n:Nat)(b s:Bool)(f:Nat->Int):cA (n+2) 76 [oX b s f]=some (.bool (C6 b s f&&!b)):=by
 rw[Vs];delta KW qG qT;refine aa (L4 n b s f) (aa ab ?_);cases C6 b s f with
 | false=>rfl
 | true=>cases b<;>rfl
structure RawR where
 b:Bool
 s:Bool
 f:Nat->Int
 c:Bool
 t:Bool
 g:Nat->Int
def RawR.enc(r:RawR):D:=.st [oX r.b r.s r.f,oX r.c r.t r.g]
def RawR.ok(r:RawR):Prop:=(∀ i,i<16->0<=r.f i/\r.f i<4294967296)/\∀ i,i<16->0<=r.g i/\r.g i<4294967296
def Bf{b s:Bool}{f:Nat->Int}(h:∀ i,i<16->0<=f i/\f i<4294967296)(hk:(C6 b s f&&!b)=true):∃ x,In x/\oX b s f=af x:=by
 simp only[zaa,zxa] at hk;obtain⟨a,h1,h2,h3⟩:=Kx h hk.1;rw[hk.2] at h3;cases a with
 | none=>cases h3
 | some x=>exact⟨x,h1.some,h2⟩
def HU{x d:Int}(hd:0<d)(hg:Nat.gcd x.natAbs d.natAbs=1):∃ q:Rat,q.num=x/\(q.den:Int)=d:=by
 refine⟨⟨x,d.natAbs,by omega,hg⟩,rfl,?_⟩
 show((d.natAbs:Nat):Int)=d;omega
def JG{g:Nat}(hg:In (g:Int))(h:D.beq (af (g:Int)) (af 1)=true):g=1:=by
 rw[bL,bL] at h;simp only[D.beq,D.beqs,zaa] at h;have h3:=h.2.2.1;have i1:In (1:Int):=bR (gP 1);rw[jt (aZ.1 hg) (aZ.1 i1),decide_eq_true_eq] at h3;simpa using h3
def Tt(n:Nat){r:RawR}(h:r.ok):∃ v:Bool,cA (n+5) 88 [r.enc]=some (.bool v)/\(v=true->∃ q,yL q/\r.enc=fV q):=by
 obtain⟨b,s,f,c,t,g⟩:=r;obtain⟨hf,hg⟩:=h;by_cases k1:(C6 b s f&&!b)=true
 ·by_cases k2:(C6 c t g&&!c)=true
  ·obtain⟨x,ix,ex⟩:=Bf hf k1;obtain⟨d,id,ed⟩:=Bf hg k2;have ee:RawR.enc ⟨b,s,f,c,t,g⟩=.st [af x,af d]:=by
    show D.st [oX b s f,oX c t g]=_;rw[ex,ed]
   rw[ee];by_cases hd:0<d
   ·refine⟨D.beq (af (Nat.gcd x.natAbs d.natAbs:Nat)) (af 1),?_,λhv=>?_⟩
    ·rw[Lf];delta Hj qG qC qT qN Jn;refine aa (z:=af x) rfl (aa (lQ (n+2) ix) (aa aJ (aa ab (aa (z:=false) (jE (aa (z:=af d) rfl (aa (lQ (n+2) id) rfl))) (aa ab (jE ?_))))));refine aa (z:=af d) rfl (aa (BI (n+1) id) (aa ca (aa ab (aa (aD (by rw[fK hd];decide) (aa (z:=af x) rfl (aa (z:=af d) rfl (aa (HK n ix id) (aa (HB n) ab))))) rfl))))
    ·have hg1:=JG (by
      rw[aZ,zza];exact zFa (Nat.le_of_dvd (by omega) (zob _ _)) (aZ.1 id)) hv
     obtain⟨q,q1,q2⟩:=HU hd hg1;exact⟨q,⟨by rw[q1];exact ix,by rw[q2];exact id⟩,by unfold fV;rw[q1,q2]⟩
   ·refine⟨false,?_,λh=>by cases h⟩
    rw[Lf];delta Hj qG qC qT qN Jn;refine aa (z:=af x) rfl (aa (lQ (n+2) ix) (aa aJ (aa ab (aa (z:=false) (jE (aa (z:=af d) rfl (aa (lQ (n+2) id) rfl))) (aa ab (jE ?_))))));refine aa (z:=af d) rfl (aa (BI (n+1) id) (aa ca (aa ab (aa (aH (by unfold sg;split<;>(try split)<;>omega) rfl) rfl))))
  ·refine⟨false,?_,λh=>by cases h⟩
   have k2':(C6 c t g&&!c)=false:=by simpa using k2
   rw[Lf];delta Hj qG qC qT qN Jn;refine aa (z:=oX b s f) rfl (aa (JY (n+2) b s f) ?_);rw[k1];refine aa aJ (aa ab (aa (z:=true) (jE (aa (z:=oX c t g) rfl (aa (JY (n+2) c t g) ?_))) (aa ab rfl)));rw[k2'];rfl
 ·refine⟨false,?_,λh=>by cases h⟩
  have k1':(C6 b s f&&!b)=false:=by simpa using k1
  rw[Lf];delta Hj qG qC qT qN Jn;refine aa (z:=oX b s f) rfl (aa (JY (n+2) b s f) ?_);rw[k1'];exact aa aJ (aa ab (aa (z:=true) rfl (aa ab rfl)))
def Fx{r:RawR}(h:r.ok)(hb:D.beq r.enc u4=true):r.enc=bh none:=by
 obtain⟨b,s,f,c,t,g⟩:=r;show D.st [D.st [.bool b,.bool s,bT 16 f],D.st [.bool c,.bool t,bT 16 g]]=D.st [mb,af 1];have hb':D.beq (D.st [D.st [.bool b,.bool s,bT 16 f],D.st [.bool c,.bool t,bT 16 g]]) (D.st [D.st [.bool true,.bool false,LM 0],D.st [.bool false,.bool (decide ((1:Int)<0)),LM (1:Int).natAbs]])=true:=by
  rw[<-bL];exact hb
 simp only[D.beq,D.beqs,zaa,Bv,decide_eq_true_eq] at hb';obtain⟨⟨h1,h2,h3,_⟩,⟨h4,h5,h6,_⟩,_⟩:=hb';rw[bL,bV h3,bV h6];simp at h1 h2 h4 h5;subst h1 h2 h4 h5;rfl
def Te(n:Nat){r:RawR}(h:r.ok):∃ v:Bool,cA (n+6) 439 [r.enc]=some (.bool v)/\(v=true->∃ a,OW a/\r.enc=bh a):=by
 obtain⟨v,h1,h2⟩:=Tt n h;cases v with
 | true=>
  obtain⟨q,q1,q2⟩:=h2 rfl;refine⟨true,?_,λ_=>⟨some q,cK q1,q2⟩⟩;rw[Nj];delta Ds qT;exact aa h1 (aa ab (aa (z:=true) rfl rfl))
 | false=>
  refine⟨D.beq r.enc u4,?_,λhv=>⟨none,lc,Fx h hv⟩⟩;rw[Nj];delta Ds qT;exact aa h1 (aa ab (aa (z:=D.beq r.enc u4) (jE (aa (Lb n) ab)) rfl))
end Sy
end
noncomputable section
namespace Sy
open Go Go.Proofs Geo
def Tj(n:Nat)(l:List Nat)(k:Nat)(hk:k<=1000000):∃ z:Int,cA (n+2) 446 [.sl (ae l),I (k:Int)]=some (I z):=by
 have e1:D.bin .quo (I (k:Int)) (I 16)=some (I ((k/16:Nat):Int)):=by
  rw[kl (by decide) (by rw[Int.tdiv_eq_ediv_of_nonneg (by omega)];simp only[inR];omega),Int.tdiv_eq_ediv_of_nonneg (by omega)];rfl
 have e2:D.bin .rem (I (k:Int)) (I 16)=some (I ((k%16:Nat):Int)):=by
  rw[jW (by decide),Int.tmod_eq_emod_of_nonneg (by omega)];rfl
 have e3:∀ a:Int,∃ z,D.bin .shr (I a) (I ((k%16:Nat):Int))=some (I z):=λa=>by
  refine⟨a.fdiv (2^(min ((k%16:Nat):Int).toNat 64)),?_⟩;simp only[D.bin,show ¬ (((k%16:Nat):Int)<0) by omega,if_false]
  rfl
 obtain⟨z,hz⟩:=e3 (l.getD (k/16) 0:Nat);refine⟨z.tmod 2,?_⟩;rw[Vo];delta Hh qB Jn;exact aa e1 (aa (yX n l (k/16)) (aa e2 (aa hz (aa (jW (by decide)) rfl))))
def Mo(n:Nat){a:Option Int}(ha:k9 a):∃ z:Int,cA (n+3) 426 [bY a]=some (I z):=by
 suffices h:∃ y,cA (n+3) 426 [bY a]=some y/\∃ z:Int,y=I z by
  obtain⟨y,h,z,rfl⟩:=h;exact⟨z,h⟩
 rw[Vd];delta G6 qB qC qT qN qS qZ iL iR Jn;refine av (pZ n ha) (av aJ (av ab ?_));cases a with
 | none=>exact⟨I 0,rfl,0,rfl⟩
 | some x=>
 have hx:x.natAbs<65536^32:=ha.some;have hl:=bc 32 _ hx;have e1:D.bin .mul (I 16) (D.int .i64 ((ae (ar x.natAbs)).length:Nat))=some (I ((16*(ar x.natAbs).length:Nat):Int)):=by
  rw[show(ae (ar x.natAbs)).length=(ar x.natAbs).length from aj _];exact(bg (by simp only[inR];omega)).trans (by rw[z0a];rfl)
 refine av (qf n hx) (av (z:=ae (ar x.natAbs)) rfl (av e1 ?_));obtain⟨N,hN⟩:∃ N,16*(ar x.natAbs).length=N:=⟨_,rfl⟩;rw[hN];refine lV (λi s=>s=[I ((N-i:Nat):Int)]) N 0 (zoa _) rfl (λi hi s hJ=>?_) (λs hJ=>?_)
 ·subst hJ;obtain⟨z,hz⟩:=Tj n (ar x.natAbs) (N-i-1) (by omega)
  have e2:D.bin .sub (I ((N-i:Nat):Int)) (I 1)=some (I ((N-i-1:Nat):Int)):=by
   rw[bH (by simp only[inR];omega)];congr 2;omega
  refine av ca (av ab (av (z:=decide (z=0)) (aD (by omega) (aa e2 (aa hz ?_))) (av ab ?_)))
  ·rw[mc];exact ab
  ·by_cases h0:z=0
   ·exact gu h0 ⟨.inl [I ((N-i-1:Nat):Int)],aa e2 rfl,by rw[Nat.sub_sub]⟩
   ·exact vp h0 ⟨.inr (0,[I ((N-i:Nat):Int)]),rfl,_,rfl,_,rfl⟩
 ·subst hJ;refine⟨.inr (0,[I ((N-N:Nat):Int)]),aa ca (aa ab (aa (z:=false) (aH (by omega) rfl) (aa ab rfl))),_,rfl,_,rfl⟩
end Sy
end
noncomputable section
namespace Sy
open Go Go.Proofs Geo
def Dw{a:Option Rat}(h:OW a):∃ x y:Option Int,k9 x/\k9 y/\bh a=.st [bY x,bY y]:=by
 cases a with
 | none=>exact⟨none,some 1,gJ,ba (bR (gP 1)),rfl⟩
 | some q=>exact⟨some q.num,some q.den,ba h.some.1,ba h.some.2,rfl⟩
def HF(n:Nat){r:RawR}(h:r.ok):∃ v:Bool,cA (n+7) 418 [r.enc]=some (.bool v)/\(v=true->∃ a,OW a/\r.enc=bh a):=by
 obtain⟨v,h1,h2⟩:=Te n h;cases v with
 | false=>
  refine⟨false,?_,λh=>by cases h⟩
  rw[Ni];delta Dr qG qB qT Jn;exact aa h1 (aa ab (aa (z:=false) rfl (aa ab (aa (z:=false) rfl rfl))))
 | true=>
  obtain⟨a,ha,ea⟩:=h2 rfl;obtain⟨x,y,hx,hy,exy⟩:=Dw ha;obtain⟨z1,e1⟩:=Mo (n+3) hx;obtain⟨z2,e2⟩:=Mo (n+3) hy;refine⟨decide (z1<=100)&&decide (z2<=100),?_,λ_=>⟨a,ha,ea⟩⟩;rw[ea,exy] at h1 ⊢;rw[Ni];delta Dr qG qB qT Jn;refine aa h1 (aa ab (aa (z:=decide (z1<=100)) (dY (aa (z:=bY x) rfl (aa e1 (aa jV ab)))) (aa ab (aa (z:=decide (z1<=100)&&decide (z2<=100)) ?_ rfl))));cases decide (z1<=100)
  ·rfl
  ·exact dY (aa (z:=bY y) rfl (aa e2 (aa jV ab)))
def LV(a:Option Rat):D.beq (bh a) (bh a)=true:=by
 cases a with
 | some q=>exact LU q
 | none=>
  show D.beq u4 u4=true;unfold u4;show(D.beq mb mb&&(D.beq (af 1) (af 1)&&true))=true;rw[wK];unfold mb;show((true&&(true&&(D.beq (LM 0) (LM 0)&&true)))&&(true&&true))=true;rw[Ao];rfl
def Ik{b c:Bool}{X:Option Bool}(h:X=some c):(if b=true then some true else X)=some (b||c):=by cases b<;>simp[h]
def Ks{call:Nat->List D->Option D}(n:Nat)(x y:V)(q r:Nat->Int)(l m:List V)(u:V)(d a b c:RawR)(hd:d.ok)(ha:a.ok)(hb:b.ok)(hc':c.ok)
  (hc:∀ f xs,f≠415->call f xs=cA (n+1040) f xs) (h415:call 415 []=some (.bool true)):GY aO call (cU x q) (cF l) (cU y r) (cF m) (.st [ag u,d.enc]) (.st [a.enc,b.enc,c.enc])=some (.bool true):=by
 delta GY qG qT qN
 obtain⟨v,h1,k1⟩:=S6 (n+1029) x y q r l m;obtain⟨s0,g0,e0⟩:=HF (n+1033) hd;obtain⟨s1,g1,e1⟩:=HF (n+1033) ha;obtain⟨s2,g2,e2⟩:=HF (n+1033) hb;obtain⟨s3,g3,e3⟩:=HF (n+1033) hc';have H:=λf xs hf=>hc f xs hf;refine aa ((hc 414 _ (by decide)).trans h1) (aa aJ (aa ab (aa (Ik (aa (z:=d.enc) rfl (aa ((hc 418 _ (by decide)).trans g0) (aa aJ ab)))) (aa ab ?_))))
 refine aa (Ik (aa (z:=a.enc) rfl (aa ((hc 418 _ (by decide)).trans g1) (aa aJ ab)))) (aa ab (aa (Ik (aa (z:=b.enc) rfl (aa ((hc 418 _ (by decide)).trans g2) (aa aJ ab)))) (aa ab (aa (Ik (aa (z:=c.enc) rfl (aa ((hc 418 _ (by decide)).trans g3) (aa aJ ab)))) (aa ab ?_)))))
 cases ho:(!v||!s0||!s1||!s2||!s3) with
 | true=>exact dY (aa h415 rfl)
 | false=>
 simp only[Bool.or_eq_false_iff,Bool.not_eq_false'] at ho;obtain⟨⟨⟨⟨rfl,rfl⟩,rfl⟩,rfl⟩,rfl⟩:=ho;obtain⟨hp,hl,hm⟩:=k1 rfl;obtain⟨D0,od,ed⟩:=e0 rfl;obtain⟨A,oa,ea⟩:=e1 rfl;obtain⟨B,ob,eb⟩:=e2 rfl;obtain⟨C,oc,ec⟩:=e3 rfl;rw[ed,ea,eb,ec];obtain⟨F,hF,h18,h19⟩:=TA hp.la hl.len hl.srt;obtain⟨w,hw⟩:∃ w:WV,w=λi=>if i=0 then A else if i=1 then B else C:=⟨_,rfl⟩
 have ew:D.st [bh A,bh B,bh C]=df w:=by rw[hw];rfl
 have ow:yO w:=λi=>by rw[hw];dsimp only;split;exact oa;split;exact ob;exact oc
 rw[ew];refine jE (aa (z:=ag u) rfl (aa ((hc 187 _ (by decide)).trans (I5 (n+1039) u)) (aa ab (aa (z:=false) ?_ (aa ab (jE (aa h415 (aa ab (aa (z:=true) (dY ?_) (aa ab (aa (z:=true) (dY ?_) rfl)))))))))))
 ·cases hs:dp 2305843009213693952 u with
  | false=>rfl
  | true=>
   have hu:=zP hs;refine dY (aa (z:=ag u) rfl (aa ((hc 419 _ (by decide)).trans (S7 (n+6) hp hu)) (aa (z:=ag u) rfl (aa ((hc 420 _ (by decide)).trans (S9 (n+1031) hp hu)) ?_))))
   rw[LV];rfl
 ·refine aa ((hc 421 _ (by decide)).trans (Ta (n+6) (u:=u) od hp)) (aa ((hc 422 _ (by decide)).trans (Tb (n+1031) (u:=u) od hp)) ?_)
  cases DU u D0 x y q r l m<;>rfl
 ·refine aa ((hc 423 _ (by decide)).trans (Tc (n+4) hp.pa hF h18 ow)) (aa ((hc 424 _ (by decide)).trans (Td (n+1029) hp.pa hF h19 ow)) ?_)
  rw[bw,decide_eq_true rfl];rfl
end Sy
end
noncomputable section
namespace Sy
open Go Go.Proofs Geo
def wS(k:Nat)(f:Nat)(xs:List D):Option D:=if f=415 then KA 415 xs else cA k f xs
def DQ(k:Nat):gg Tryz.prog (wS k):=by
 intro f ptys rty xs y hs hy hw;unfold wS at hy;split at hy
 ·rename_i hf;exact Iz f ptys rty xs y hs (by rw[hf];exact hy) hw
 ·exact wR rT k f ptys rty xs y hs hy hw
def Fq{d:D}(h:wt K1 d):∃ v:V,d=ag v:=by
 obtain⟨l,rfl,hl,h⟩:=h
 match l,hl with
 | [a,b,c],_=>
  obtain⟨x,rfl⟩:=h a (by simp)
  obtain⟨y,rfl⟩:=h b (by simp)
  obtain⟨z,rfl⟩:=h c (by simp)
  exact⟨⟨x,y,z⟩,rfl⟩
def IU{α:Type}{t:Ty}{e:α->D}(he:∀ d,wt t d->∃ v,d=e v){d:D}(h:wt (.sl t) d):∃ l:List α,d=.sl (l.map e):=by
 obtain⟨l,rfl,h⟩:=h;have key:∀ l:List D,(∀ x∈l,wt t x)->∃ m:List α,l=m.map e:=by
  intro l
  induction l with
  | nil=>intro _;exact⟨[],rfl⟩
  | cons x l ih=>
   intro h;obtain⟨v,rfl⟩:=he x (h x (by simp))
   obtain⟨m,rfl⟩:=ih λy hy=>h y (by simp[hy])
   exact⟨v::m,rfl⟩
 obtain⟨m,rfl⟩:=key l h;exact⟨m,rfl⟩
def Jt{d:D}(h:wt K3 d):∃ l:List V,d=cF l:=by
 obtain⟨l,rfl,d,l',rfl,h1,h2⟩:=h;have h2':l'=[]:=h2;subst h2';obtain⟨m,rfl⟩:=IU (e:=ag) (λd h=>Fq h) h1;exact⟨m,rfl⟩
def KM{d:D}(h:wt pn d):∃ q:Nat->Int,d=gh q:=by
 obtain⟨l,rfl,hl,h⟩:=h
 match l,hl with
 | [a,b,c,e],_=>
  obtain⟨x,rfl⟩:=h a (by simp)
  obtain⟨y,rfl⟩:=h b (by simp)
  obtain⟨z,rfl⟩:=h c (by simp)
  obtain⟨w,rfl⟩:=h e (by simp)
  exact⟨λi=>[x,y,z,w].getD i 0,rfl⟩
def Ft{d:D}(h:wt ck d):∃ (x:V) (q:Nat->Int),d=cU x q:=by
 obtain⟨l,rfl,d1,l1,rfl,h1,d2,l2,rfl,h2,h5⟩:=h;have h5':l2=[]:=h5;subst h5';obtain⟨v,rfl⟩:=Fq h1;obtain⟨q,rfl⟩:=KM h2;exact⟨v,q,rfl⟩
def Fs{d:D}(h:wt aK d)(ho:C5 d):∃ b s f,d=oX b s f/\∀ i,i<16->0<=f i/\f i<4294967296:=by
 obtain⟨l,rfl,d1,l1,rfl,h1,d2,l2,rfl,h2,d3,l3,rfl,h3,h5⟩:=h;have h5':l3=[]:=h5;subst h5';obtain⟨b,rfl⟩:=h1;obtain⟨s,rfl⟩:=h2;obtain⟨m,rfl,hm,h4⟩:=h3;have ho3:tt m:=ho.2.2.1
 let f:Nat->Int:=λi=>match m[i]? with|some (.int _ k)=>k|_=>0
 have em:m=(List.range 16).map λi=>D.int .u32 (f i):=by
  apply List.ext_getElem (by simp[hm])
  intro i h1 h2;obtain⟨k,hk⟩:=h4 m[i] (zLa h1);simp only[zfd,List.getElem_range,f,zda h1,hk]
 refine⟨b,s,f,?_,λi hi=>?_⟩
 ·show D.st [.bool b,.bool s,.st m]=D.st [.bool b,.bool s,.st ((List.range 16).map λi=>D.int .u32 (f i))];rw[<-em]
 ·have hi':i<m.length:=by rw[hm];exact hi
  obtain⟨k,hk⟩:=h4 m[i] (zLa hi');have h6:=nD.1 ho3 m[i] (zLa hi');rw[hk] at h6;simp only[f,zda hi',hk];have h7:(Lit.int .u32 k).wf=true:=h6;simp only[Lit.wf,zaa,decide_eq_true_eq] at h7;have e1:IntKind.u32.min=0:=rfl;have e2:IntKind.u32.max=4294967295:=rfl;omega
def wB{d:D}(h:wt bE d)(ho:C5 d):∃ r:RawR,r.ok/\d=r.enc:=by
 obtain⟨l,rfl,d1,l1,rfl,h1,d2,l2,rfl,h2,h5⟩:=h;have h5':l2=[]:=h5;subst h5';obtain⟨b,s,f,rfl,hf⟩:=Fs h1 ho.1;obtain⟨c,t,g,rfl,hg⟩:=Fs h2 ho.2.1;exact⟨⟨b,s,f,c,t,g⟩,⟨hf,hg⟩,rfl⟩
def KL{d:D}(h:wt bM d)(ho:C5 d):∃ a b c:RawR,a.ok/\b.ok/\c.ok/\d=.st [a.enc,b.enc,c.enc]:=by
 obtain⟨l,rfl,hl,h⟩:=h
 match l,hl with
 | [a,b,c],_=>
  obtain⟨x,ox,rfl⟩:=wB (h a (by simp)) ho.1
  obtain⟨y,oy,rfl⟩:=wB (h b (by simp)) ho.2.1
  obtain⟨z,oz,rfl⟩:=wB (h c (by simp)) ho.2.2.1
  exact⟨x,y,z,ox,oy,oz,rfl⟩
def KN{d:D}(h:wt dK d)(ho:C5 d):∃ (u:V) (r:RawR),r.ok/\d=.st [ag u,r.enc]:=by
 obtain⟨l,rfl,d1,l1,rfl,h1,d2,l2,rfl,h2,h5⟩:=h;have h5':l2=[]:=h5;subst h5';obtain⟨v,rfl⟩:=Fq h1;obtain⟨r,hr,rfl⟩:=wB h2 ho.2.1;exact⟨v,r,hr,rfl⟩
def ctr409{d0 d1 d2 d3 d4 d5:D}(h0:wt ck d0)(h1:wt K3 d1)(h2:wt ck d2)(h3:wt K3 d3)(h4:wt dK d4)(h5:wt bM d5)(o4:C5 d4)(o5:C5 d5):Jx Tryz.prog [ck,K3,ck,K3,dK,bM] .bool 4 [d0,d1,d2,d3,d4,d5] (.bool true):=by
 have hw:dV [ck,K3,ck,K3,dK,bM] [d0,d1,d2,d3,d4,d5]:=⟨_,_,rfl,h0,_,_,rfl,h1,_,_,rfl,h2,_,_,rfl,h3,_,_,rfl,h4,_,_,rfl,h5,rfl⟩;obtain⟨x,q,rfl⟩:=Ft h0;obtain⟨l,rfl⟩:=Jt h1;obtain⟨y,r,rfl⟩:=Ft h2;obtain⟨m,rfl⟩:=Jt h3;obtain⟨u,d,hd,rfl⟩:=KN h4 o4;obtain⟨a,b,c,ha,hb,hc,rfl⟩:=KL h5 o5;have key:=LQ rT (wS (0+1040)) (DQ _) [ck,K3,ck,K3,dK,bM] .bool [cU x q,cF l,cU y r,cF m,.st [ag u,d.enc],.st [a.enc,b.enc,c.enc]] (.bool true) (by kernel_rfl) (Ks 0 x y q r l m u d a b c hd ha hb hc (λf xs hf=>by unfold wS;rw[if_neg hf]) (by unfold wS;rw[if_pos rfl];exact zL)) hw
 rw[show im (cc 409)=0 by kernel_rfl] at key
 exact key.1
end Sy
end
noncomputable section
set_option maxHeartbeats 1000000
open Go Go.ChangeShapes Go.WideShapes Go.ChangeAt Go.RowKit
def TF:ownKnob Tryz.prog.godebug=none:=by kernel_rfl
def En:laidOutB Tryz.prog=true:=by kernel_rfl
def KJ:Tryz.prog.underlying 4=some .bool:=by kernel_rfl
def Bb:Tryz.f4.params=#[27,30,27,30,40,47]:=by kernel_rfl
def MM:Sy.xE Tryz.prog [Sy.ck,Sy.K3,Sy.ck,Sy.K3,Sy.dK,Sy.bM] [27,30,27,30,40,47]=true:=by kernel_rfl
def MX:List.all [27,30,27,30,40,47] (λt=>Tryz.prog.readableRec t&&decide (t<Tryz.prog.types.size))=true:=by kernel_rfl
def CY{l:Array TypeId}(h:l.toList.all (λt=>!(Tryz.prog.wantsStandIn t))=true){j:Nat}{t:TypeId}(ht:l[j]?=some t):Tryz.prog.wantsStandIn t=false:=by
 have:=zja.1 h t (by have:=zYa (l:=l.toList) (i:=j) (a:=t) (by simpa using ht);exact this)
 simpa using this
def shape{α:Type}{l:List α}(h:l.length=6):∃ d0 d1 d2 d3 d4 d5,l=[d0,d1,d2,d3,d4,d5]:=by
 match l,h with
 | [d0,d1,d2,d3,d4,d5],_=>exact⟨d0,d1,d2,d3,d4,d5,rfl⟩
def t6(os:Os):World:=
 let w0:=World.holding Tryz.prog os ⟨#[],#[],[]⟩
 { w0 with heap:=w0.heap.modify 0 λ
   | .cells _ t frozen=>.cells #[.int .u8 0,.int .u8 1,.int .u8 28,.int .u8 2,.int .u8 29,.int .u8 14,.int .u8 24,.int .u8 3,.int .u8 30,.int .u8 22,.int .u8 20,.int .u8 15,.int .u8 25,.int .u8 17,.int .u8 4,.int .u8 8,.int .u8 31,.int .u8 27,.int .u8 13,.int .u8 23,.int .u8 21,.int .u8 19,.int .u8 16,.int .u8 7,.int .u8 26,.int .u8 12,.int .u8 18,.int .u8 6,.int .u8 11,.int .u8 5,.int .u8 10,.int .u8 9] t frozen
   | o=>o }
def tn(os:Os)(args:Array Value):laidMet Tryz.prog Rows.planeChecksMatchSpecRow.laid ((t6 os).forCall (λ_ _=>0) ⟨#[],args,[]⟩).memory:=
 laidMet_of_run' 8 (by kernel_rfl) (by kernel_rfl)
set_option maxRecDepth 100000 in
theorem planeChecksMatchSpec_lifted(os:Os)(started:os.Started)(H:Type)(enc:TypeId×Value->H) :
  ReturnsInHanded {} Tryz.checked os 4 .any (λw args=>(Rows.planeChecksMatchSpecSpec.pre enc Tryz.prog Tryz.f4 Rows.planeChecksMatchSpecRow.domain false w args/\laidMet Tryz.prog Rows.planeChecksMatchSpecRow.laid w)/\sizedMet enc Tryz.prog Tryz.f4 (OpenSpec.ofChange Rows.planeChecksMatchSpecSpec) false w args) (Rows.planeChecksMatchSpecSpec.post enc Tryz.prog Tryz.f4 false true false false):=by
 refine returnsInHanded_of_change_and (C:=Tryz.checked) (X:=λw _=>laidMet Tryz.prog Rows.planeChecksMatchSpecRow.laid w) (λ_ _ _ hh h=>h.of_heap hh) TF started (by kernel_rfl) (show Tryz.prog.funcs[4]?=some Tryz.f4 by kernel_rfl)
  (ChangeSpec.witness_at (enc:=enc) (C:=Tryz.checked) (os:=os) (X:=λw _=>laidMet Tryz.prog Rows.planeChecksMatchSpecRow.laid w) false (t6 os) #[.agg #[.int .i64 0,.int .i64 0,.int .i64 0,.int .i64 0,.int .i64 0,.int .i64 0,.int .i64 0],.agg #[.slice none 0 0],.agg #[.int .i64 0,.int .i64 0,.int .i64 0,.int .i64 0,.int .i64 0,.int .i64 0,.int .i64 0],.agg #[.slice none 0 0],.agg #[.int .i64 0,.int .i64 0,.int .i64 0,.bool false,.bool false,.int .u32 0,.int .u32 0,.int .u32 0,.int .u32 0,.int .u32 0,.int .u32 0,.int .u32 0,.int .u32 0,.int .u32 0,.int .u32 0,.int .u32 0,.int .u32 0,.int .u32 0,.int .u32 0,.int .u32 0,.int .u32 0,.bool false,.bool false,.int .u32 0,.int .u32 0,.int .u32 0,.int .u32 0,.int .u32 0,.int .u32 0,.int .u32 0,.int .u32 0,.int .u32 0,.int .u32 0,.int .u32 0,.int .u32 0,.int .u32 0,.int .u32 0,.int .u32 0,.int .u32 0],.agg #[.bool false,.bool false,.int .u32 0,.int .u32 0,.int .u32 0,.int .u32 0,.int .u32 0,.int .u32 0,.int .u32 0,.int .u32 0,.int .u32 0,.int .u32 0,.int .u32 0,.int .u32 0,.int .u32 0,.int .u32 0,.int .u32 0,.int .u32 0,.bool false,.bool false,.int .u32 0,.int .u32 0,.int .u32 0,.int .u32 0,.int .u32 0,.int .u32 0,.int .u32 0,.int .u32 0,.int .u32 0,.int .u32 0,.int .u32 0,.int .u32 0,.int .u32 0,.int .u32 0,.int .u32 0,.int .u32 0,.bool false,.bool false,.int .u32 0,.int .u32 0,.int .u32 0,.int .u32 0,.int .u32 0,.int .u32 0,.int .u32 0,.int .u32 0,.int .u32 0,.int .u32 0,.int .u32 0,.int .u32 0,.int .u32 0,.int .u32 0,.int .u32 0,.int .u32 0,.bool false,.bool false,.int .u32 0,.int .u32 0,.int .u32 0,.int .u32 0,.int .u32 0,.int .u32 0,.int .u32 0,.int .u32 0,.int .u32 0,.int .u32 0,.int .u32 0,.int .u32 0,.int .u32 0,.int .u32 0,.int .u32 0,.int .u32 0,.bool false,.bool false,.int .u32 0,.int .u32 0,.int .u32 0,.int .u32 0,.int .u32 0,.int .u32 0,.int .u32 0,.int .u32 0,.int .u32 0,.int .u32 0,.int .u32 0,.int .u32 0,.int .u32 0,.int .u32 0,.int .u32 0,.int .u32 0,.bool false,.bool false,.int .u32 0,.int .u32 0,.int .u32 0,.int .u32 0,.int .u32 0,.int .u32 0,.int .u32 0,.int .u32 0,.int .u32 0,.int .u32 0,.int .u32 0,.int .u32 0,.int .u32 0,.int .u32 0,.int .u32 0,.int .u32 0]] 8 rfl (by kernel_rfl) (by kernel_rfl) (by kernel_rfl) (by kernel_rfl) (by kernel_rfl) (tn os _)) ?_
 intro W base args ds gs before hval0 hW hcnd _ _ _;have hval:∀ (j:Nat) t v,Tryz.f4.params[j]?=some t->args[j]?=some v->Value.okWide Tryz.prog W .any base t v:=hval0;have hW':=hW;obtain⟨p,q,hA0,hV,rfl,hfz,hnd⟩:=hW;have hA:DataW.TrodAll enc Tryz.prog W 0 (λ_=>true) true Tryz.f4.params.toList args.toList ds p:=hA0;rw[Bb] at hA hval;obtain⟨rfl,rfl⟩:=trodVars_none hV;clear hA0 hval0;obtain⟨xs,hx,ho,hlen,hd⟩:=Sy.Hp MM hA (λj t v h1 h2=>hval j t v (by simpa using h1) (by simpa using h2))
 have hx':=hx;obtain⟨x0,r0,rfl,w0,x1,r1,rfl,w1,x2,r2,rfl,w2,x3,r3,rfl,w3,x4,r4,rfl,w4,x5,r5,rfl,w5,hn⟩:=hx';have hn':_=[]:=hn;subst hn';have hctr:=Sy.ctr409 w0 w1 w2 w3 w4 w5 ho.2.2.2.2.1 ho.2.2.2.2.2.1 W (Sy.nS W) args.toList (λ_ _ h=>Sy.valid_lt h) hx hlen hd;rw[z0b] at hctr;obtain⟨d0,d1,d2,d3,d4,d5,rfl⟩:=shape (Sy.J3 hA);refine Go.Calls.mono hctr λe W' he=>?_;obtain⟨v,rfl,⟨os',dr,hdr,rfl⟩,_,hv⟩:=he;have hv':v=.bool true:=Sy.bool_of hv;subst hv';have hb:Below W.heap.size W (grown W os' dr):=⟨rfl,rfl,rfl,by simp[grown],λk hk=>cz W os' dr hk⟩
 have hlt:∀ x∈p,x.block<W.heap.size:=λx hx=>by simpa using hW'.lt x (by simpa using hx)
 exact⟨_,rfl,_,_,_,[],p,[],hW',trodAll_mk1 ((Go.RowKit.shut_bool (P:=Tryz.prog) KJ true)),Sy.BF En MX hA hb hlt,rfl,hb.frame _,λh=>by cases h⟩
theorem planeChecksMatchSpec_row:Rows.PlaneChecksMatchSpecSaid:=
 OpenClaim.holds_of_wide 4 Tryz.f4 rfl rfl rfl rfl rfl rfl rfl ⟨rfl,rfl,rfl,rfl,rfl⟩ rfl rfl rfl rfl rfl (by kernel_rfl) (show Tryz.prog.funcs[4]?=some Tryz.f4 by kernel_rfl) (by kernel_rfl)
  (of_decide_eq_true (by kernel_rfl)) (by unfold Func.isWrapper;first|(rw[if_pos (by decide +kernel)];kernel_rfl)|(rw[if_neg (by decide +kernel)];exact⟨rfl,rfl⟩))
  (λos started H enc _=>planeChecksMatchSpec_lifted os started H enc)
theorem planeChecksMatchSpec_holds:Rows.PlaneChecksMatchSpecCardSaid:=
 Claim7.holds_tied_plain_at .later [] [.data] true (true, "af7a03bd2c7ac196ce4e3bd4e884afe91d5d9462e962db29bbf1e0f2b31f9681") false
  planeChecksMatchSpec_row (λ_ h=>by cases h) (by kernel_rfl) (λ_ h=>by cases h) planeChecksMatchSpec_row_tie rfl ⟨rfl,rfl⟩ (by kernel_rfl) rfl
  (λf fn hf hfn=>by
   obtain rfl:f=4:=zhd ((show Tryz.prog.funcNamed Rows.planeChecksMatchSpecRow.func=some 4 by kernel_rfl).symm.trans hf) |>.symm
   obtain rfl:fn=Tryz.f4:=(zhd ((show Tryz.prog.funcs[4]?=some Tryz.f4 by kernel_rfl).symm.trans hfn)).symm
   exact⟨by kernel_rfl,λj t ht=>CY (by rw[Bb];kernel_rfl) ht⟩)
  (by kernel_rfl)
end
end Go.Proofs.YtphlmegkommlnaaGreatDoor
