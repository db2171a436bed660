/- Part 21 of the proof that PlaneOrPoint answers true at every input -/
import Derived.Test.YtphlmegkommlnaaGreatDoorOrpt02
import Derived.Test.YtphlmegkommlnaaGreatDoorOrpt16
import Derived.Test.YtphlmegkommlnaaGreatDoorOrpt20
set_option linter.unusedVariables false
set_option linter.unusedSimpArgs false
set_option linter.unnecessarySimpa false
set_option linter.defProp false
set_option maxRecDepth 20000
namespace Go.Proofs.YtphlmegkommlnaaGreatDoor
noncomputable section
namespace Sy
open Go Go.Proofs Geo
def Dh{x y:Int}(hy:0<y):(0<=x/\x/y=x.tdiv y/\x%y=x.tmod y/\0<=x.tmod y)\/(x<0/\x.tmod y=0/\x/y=x.tdiv y/\x%y=0)\/(x<0/\x.tmod y<0/\x/y=x.tdiv y-1/\x%y=x.tmod y+y):=by
 have e:=Int.mul_tdiv_add_tmod x y;have l:=Int.tmod_lt_of_pos x hy;have c:=Int.lt_tmod_of_pos x hy;by_cases hx:0<=x
 ·have h0:=Int.tmod_nonneg y hx;have:=(Int.ediv_emod_unique (a:=x) (q:=x.tdiv y) (r:=x.tmod y) hy).2 ⟨j1,h0,l⟩
  exact .inl ⟨hx,this.1,this.2,h0⟩
 ·have h0:x.tmod y<=0:=by
   have h1:=Int.tmod_nonneg y (show 0<=-x by omega)
   rw[Int.neg_tmod] at h1;omega
  by_cases hz:x.tmod y=0
  ·have:=(Int.ediv_emod_unique (a:=x) (q:=x.tdiv y) (r:=x.tmod y) hy).2 ⟨j1,j1,l⟩
   exact .inr (.inl ⟨j1,hz,this.1,by rw[this.2,hz]⟩)
  ·have b:y*(x.tdiv y-1)=y*x.tdiv y-y:=by rw[Int.mul_sub,Int.mul_one]
   have:=(Int.ediv_emod_unique (a:=x) (q:=x.tdiv y-1) (r:=x.tmod y+y) hy).2 ⟨j1,j1,j1⟩
   exact .inr (.inr ⟨j1,j1,this.1,this.2⟩)
def wK{x y:Int}(hy:0<y):(0<=x/\x/y=((x.natAbs/y.natAbs:Nat):Int)/\x%y=((x.natAbs%y.natAbs:Nat):Int))\/(x<0/\x.natAbs%y.natAbs=0/\x/y=-((x.natAbs/y.natAbs:Nat):Int)/\x%y=0) ∨
  (x<0/\0<x.natAbs%y.natAbs/\x/y=-((x.natAbs/y.natAbs:Nat):Int)-1/\x%y=((y.natAbs-x.natAbs%y.natAbs:Nat):Int)):=by
 have e:=zcc x.natAbs y.natAbs;have l:=z5a x.natAbs (show 0<y.natAbs by omega)
 have c:(y.natAbs:Int)=y:=j1
 have f:y*((x.natAbs/y.natAbs:Nat):Int)+((x.natAbs%y.natAbs:Nat):Int)=(x.natAbs:Int):=by rw[<-e,z8c,zYa,c,e]
 generalize x.natAbs/y.natAbs=Q at *;generalize x.natAbs%y.natAbs=R at *;by_cases hx:0<=x
 ·have:=(Int.ediv_emod_unique (a:=x) (q:=Q) (r:=R) hy).2 ⟨j1,j1,j1⟩
  exact .inl ⟨hx,this⟩
 ·have b:y*-(Q:Int)=-(y*Q):=zKb ..;by_cases hz:R=0
  ·have:=(Int.ediv_emod_unique (a:=x) (q:=-Q) (r:=0) hy).2 ⟨j1,j1,j1⟩
   exact .inr (.inl ⟨j1,hz,this⟩)
  ·have d:y*(-(Q:Int)-1)=-(y*Q)-y:=by rw[Int.mul_sub,Int.mul_one,b]
   have:=(Int.ediv_emod_unique (a:=x) (q:=-Q-1) (r:=((y.natAbs-R:Nat):Int)) hy).2 ⟨j1,j1,j1⟩
   exact .inr (.inr ⟨j1,j1,this⟩)
def zI{x y:Int}(hy:In y)(h:0<y):In (x%y):=by
 have a:=Int.emod_nonneg x (show y≠0 by omega)
 have b:=Int.emod_lt_of_pos x h;unfold In at *;omega
def gW{x y:Int}(h:0<y):0<=x%y/\x%y<y:=⟨Int.emod_nonneg x j1,Int.emod_lt_of_pos x h⟩
def Ph(n:Nat){a b:Int}(d:Wd a)(e:0<b):cA (n+1) 144 [I a,I b]=some (I (a/b)):=by
 rw[Uc];delta H5 qB qT Jn;have hq:(a/b).natAbs<=a.natAbs:=Int.natAbs_ediv_le_natAbs a b;have i1:inR (a/b):=by unfold Wd at d;simp only[inR];omega
 have c:∀ a b:Int,D.beq (I a) (.int .i64 b)=decide (a=b):=λa b=>bY;rcases Dh (x:=a) e with⟨h0,h1,h2,h3⟩|⟨h0,h1,h2,h3⟩|⟨h0,h1,h2,h3⟩
 ·rw[h1] at i1 ⊢;refine aa (nD j1 i1) (aa (z:=(0,[I (a.tdiv b)])) (aa (lr j1) ?_) rfl)
  refine aa ac (aa (z:=false) ?_ (aa ac rfl));rw[c];by_cases hz:a.tmod b=0
  ·rw[zha hz];rfl
  ·rw[zca hz];refine dT (aa am (aa am ?_));rw[zca j1,zca j1];rfl
 ·rw[h2] at i1 ⊢;refine aa (nD j1 i1) (aa (z:=(0,[I (a.tdiv b)])) (aa (lr j1) ?_) rfl)
  refine aa ac (aa (z:=false) ?_ (aa ac rfl));rw[c,zha h1];rfl
 ·have i2:inR (a.tdiv b):=by unfold Wd at d;simp only[inR] at *;omega
  refine aa (nD j1 i2) (aa (z:=(0,[I (a/b)])) (aa (lr j1) ?_) rfl)
  refine aa ac (aa (z:=true) ?_ (aa ac ?_))
  ·rw[c,zca j1]
   refine dT (aa am (aa am ?_));rw[zha j1,zca j1];rfl
  ·rw[zja rfl];rw[h2] at i1 ⊢;exact aa (ct i1) rfl
def Oz{x y:Int}(hx:In x):(x/y).natAbs<65536^32:=zNa (Int.natAbs_ediv_le_natAbs x y) hx
def GH(n:Nat){x y:Int}(hx:In x)(hy:In y)(o:0<y):cA (n+4) 87 [af x,af y]=some (af (x/y)):=by
 rw[u87];delta RS qG qB qT qN qS Jn;by_cases hw:Wd x/\Wd y
 ·obtain⟨e,g⟩:=hw;have hq:(x/y).natAbs<=x.natAbs:=Int.natAbs_ediv_le_natAbs x y;refine aa (pL n e) (j0 (I x) (j0 (.bool true) (aa (pL n g) (j0 (I y) (j0 (.bool true) (j0 true (j0 true (j0 true (aa (z:=true) ?_ (j0 true (dT ?_)))))))))))
  ·rw[zja rfl,show D.beq (I y) (D.int .i64 0)=decide (y=0) from bY,zca j1];rfl
  ·exact aa (Ph (n+2) e o) (aa (zP n (by unfold Wd at e;simp only[inR];omega)) rfl)
 ·obtain⟨w1,l,h1,w⟩:=rV n hx;obtain⟨C,p,h2,A⟩:=rV n hy;have u:(l&&p)=false:=by
   cases l<;>cases p<;>first|rfl|exact z4a ⟨w rfl,A rfl⟩ hw
  have e:x.natAbs<65536^32:=hx;have g:y.natAbs<65536^32:=hy;have hl:=(dM (B:=y.natAbs) j1).1
  refine aa h1 (j0 (I w1) (j0 (.bool l) (aa h2 (j0 (I C) (j0 (.bool p) (j0 l (aa (z:=false) (by cases l<;>cases p<;>simp at u<;>rfl) (j0 false (j0 false (j0 false ?_))))))))))
  rw[zia j2]
  refine aa (sa (n+1) hx) (aa aV (j0 false (aa (z:=false) (by rw[zia j2];exact aa (sa (n+1) hy) rfl) (j0 false (aa (z:=false) ?_ (j0 false ?_))))))
  ·rw[zia j2]
   refine aa (uP (n+1) hy) (j0 (ah (aE y.natAbs)) ?_);show D.truth (.bool (D.beq (I ((ah (aE y.natAbs)).length:Nat)) (I ((0:Nat):Int))))=_;rw[ao,cW,zca j1];rfl
  rw[zia j2]
  have r:x.natAbs/y.natAbs<65536^32:=zNa (zwc _ _) e;have m:=NJ n (Cc e) (B:=y.natAbs) j1 (Cc g)
  have c:(!(D.beq (.bool (decide (x<0))) (.bool (decide (y<0)))))=decide (x<0):=by
   have h2:¬ y<0:=j1
   by_cases h1:x<0<;>simp[h1,h2,D.beq]
  have q:∀ k:Nat,afn .gtr (.int .i64 ((ah (aE k)).length:Nat)) (.int .i64 0)=some (.bool (decide (0<k))):=λk=>by
   have:(ah (aE k)).length=(aE k).length:=ao _;refine cK.trans ?_;rw[this];by_cases hk:k=0
   ·subst hk;rw[cm];rfl
   ·have:=(dM (B:=k) j1).1
    rw[zha j1,zha j1]
  have F:=bE 32 _ r;have f:∀ Q:Nat,Q=(x/y).natAbs->sgn (decide (x<0)) Q=x/y->(aE Q).length<=1000000->cA (n+3) 81 [.bool (decide (x<0)),.sl (ah (aE Q))]=some (af (x/y)):=λQ t hs hle=>by
   have:=Lg (n+1) (neg:=decide (x<0)) (bf Q) hle (by rw[ar,t];exact Oz hx)
   rwa [ar,hs] at this
  refine aa (uP (n+1) hx) (aa (uP (n+1) hy) (aa m (j0 (.sl (ah (aE (x.natAbs/y.natAbs)))) (j0 (.sl (ah (aE (x.natAbs%y.natAbs)))) ?_))));rcases wK (x:=x) o with⟨h,i,j⟩|⟨h,i,j,s⟩|⟨h,i,j,s⟩
  ·refine aa (z:=(0,[.sl (ah (aE (x.natAbs/y.natAbs)))])) ?_ (aa (aQ x) (aa (aQ y) ?_))
   ·refine aa (aQ x) (aa (aQ y) ?_);rw[c,zca j1]
    exact j0 false (j0 false (j0 false rfl))
   ·rw[c];exact aa (f _ (by rw[i,zsa]) (by unfold sgn;rw[zca j1];simp[i]) j1) rfl
  ·refine aa (z:=(0,[.sl (ah (aE (x.natAbs/y.natAbs)))])) ?_ (aa (aQ x) (aa (aQ y) ?_))
   ·refine aa (aQ x) (aa (aQ y) ?_);rw[c,zha h];refine j0 true (aa (z:=false) ?_ (j0 false rfl));rw[zja rfl,i,cm];rfl
   ·rw[c];exact aa (f _ (by rw[j,zCb,zsa]) (by unfold sgn;rw[zha h];simp[j]) j1) rfl
  ·refine aa (z:=(0,[.sl (ah (aE (x.natAbs/y.natAbs+1)))])) ?_ (aa (aQ x) (aa (aQ y) ?_))
   ·refine aa (aQ x) (aa (aQ y) ?_);rw[c,zha h];refine j0 true (aa (z:=true) ?_ (j0 true ?_))
    ·rw[zja rfl];refine j0 (ah (aE (x.natAbs%y.natAbs))) (aa (q _) ?_);rw[zha i];rfl
    ·rw[zja rfl];have:=Z5 (n+1) (a:=aE (x.natAbs/y.natAbs)) (b:=[1]) (bf _) (by intro d v;simp at v;omega) j1 j3
     rw[ar,show bw [1]=1 from rfl] at this;exact aa this rfl
   ·rw[c];have E:=bE 33 (x.natAbs/y.natAbs+1) (by
                              have:(65536:Nat)^32<65536^33:=j2
                              omega)
    exact aa (f _ (by rw[j];generalize x.natAbs/y.natAbs=Q;omega) (by rw[j];unfold sgn;rw[zha h];generalize x.natAbs/y.natAbs=Q;show -((Q+1:Nat):Int)=_;omega) j1) rfl
def E5(n:Nat){x y:Int}(hx:In x)(hy:In y)(h:0<y):cA (n+4) 345 [af x,af y]=some (af (x%y)):=by
 rw[abu];delta MA qG qB qT qN qS Jn;have G:=gW (x:=x) h;by_cases hw:Wd x/\Wd y
 ·obtain⟨f,c⟩:=hw;have e:=Int.mul_ediv_add_emod x y;unfold Wd at f c;refine aa (pL n f) (j0 (I x) (j0 (.bool true) (aa (pL n c) (j0 (I y) (j0 (.bool true) (j0 true (j0 true (j0 true (aa (z:=true) ?_ (j0 true (dT ?_)))))))))))
  ·rw[zja rfl,show D.beq (I y) (D.int .i64 0)=decide (y=0) from bY,zca j1];rfl
  ·refine aa (Ph (n+2) f h) (aa (bK (by simp only[inR];omega)) (aa (ct (by simp only[inR];omega)) ?_))
   rw[show x-y*(x/y)=x%y by omega]
   exact aa (zP n (by simp only[inR];omega)) rfl
 ·obtain⟨w1,m,h1,C⟩:=rV n hx;obtain⟨A,p,h2,E⟩:=rV n hy;have u:(m&&p)=false:=by
   all_goals grind
  have f:x.natAbs<65536^32:=hx;have c:y.natAbs<65536^32:=hy;have hl:=(dM (B:=y.natAbs) j1).1
  refine aa h1 (j0 (I w1) (j0 (.bool m) (aa h2 (j0 (I A) (j0 (.bool p) (j0 m (aa (z:=false) (by cases m<;>cases p<;>simp at u<;>rfl) (j0 false (j0 false (j0 false ?_))))))))))
  rw[zia j2]
  refine aa (sa (n+1) hx) (aa aV (j0 false (aa (z:=false) (by rw[zia j2];exact aa (sa (n+1) hy) rfl) (j0 false (aa (z:=false) ?_ (j0 false ?_))))))
  ·rw[zia j2]
   refine aa (uP (n+1) hy) (j0 (ah (aE y.natAbs)) ?_);show D.truth (.bool (D.beq (I ((ah (aE y.natAbs)).length:Nat)) (I ((0:Nat):Int))))=_;rw[ao,cW,zca j1];rfl
  rw[zia j2]
  have g:(!(D.beq (.bool (decide (x<0))) (.bool (decide (y<0)))))=decide (x<0):=by grind [D.beq]
  have j:=NJ n (Cc f) (B:=y.natAbs) j1 (Cc c)
  have s:∀ k:Nat,afn .gtr (.int .i64 ((ah (aE k)).length:Nat)) (.int .i64 0)=some (.bool (decide (0<k))):=λk=>by
   have:(ah (aE k)).length=(aE k).length:=ao _;refine cK.trans ?_;rw[this];by_cases hk:k=0
   ·simp_all [cm]
   ·have:=(dM (B:=k) j1).1
    rw[zha j1,zha j1]
  have w:x.natAbs%y.natAbs<65536^32:=zhc (z5a _ j1) c
  have d:∀ Q:Nat,(Q:Int)=x%y->cA (n+3) 81 [.bool (decide (y<0)),.sl (ah (aE Q))]=some (af (x%y)):=λQ t=>by
   have l:Q<65536^32:=j1
   have:=Lg (n+1) (neg:=decide (y<0)) (bf Q) (by have:=bE 32 _ l;omega) (by rw[ar];exact l)
   rw[ar,zca (show ¬ y<0 by omega),show sgn false Q=(Q:Int) from rfl,t] at this
   grind
  refine aa (uP (n+1) hx) (aa (uP (n+1) hy) (aa j (j0 (.sl (ah (aE (x.natAbs/y.natAbs)))) (j0 (.sl (ah (aE (x.natAbs%y.natAbs)))) ?_))));rcases wK (x:=x) h with⟨o,i,q⟩|⟨o,i,q,r⟩|⟨o,i,q,r⟩
  ·have hf:=d (x.natAbs%y.natAbs) q.symm;refine aa (z:=(0,[.sl (ah (aE (x.natAbs%y.natAbs)))])) ?_ (aa (aQ y) ?_)
   ·refine aa (aQ x) (aa (aQ y) ?_);rw[g,zca j1]
    exact j0 false (j0 false (j0 false rfl))
   ·simp_all
  ·have hf:=d (x.natAbs%y.natAbs) (by rw[i,r];rfl)
   refine aa (z:=(0,[.sl (ah (aE (x.natAbs%y.natAbs)))])) ?_ (aa (aQ y) ?_)
   ·refine aa (aQ x) (aa (aQ y) ?_);rw[g,zha o];refine j0 true (aa (z:=false) ?_ (j0 false rfl));rw[zja rfl,i,cm];rfl
   ·simp_all
  ·have hf:=d (y.natAbs-x.natAbs%y.natAbs) r.symm;refine aa (z:=(0,[.sl (ah (aE (y.natAbs-x.natAbs%y.natAbs)))])) ?_ (aa (aQ y) ?_)
   ·refine aa (aQ x) (aa (aQ y) ?_);rw[g,zha o];refine j0 true (aa (z:=true) ?_ (j0 true ?_))
    ·rw[zja rfl];refine j0 (ah (aE (x.natAbs%y.natAbs))) (aa (s _) ?_);rw[zha i];rfl
    ·rw[zja rfl];have F:=bE 32 _ c;have v:=z5a x.natAbs (show 0<y.natAbs by omega)
     have:=IC (n+1) (a:=aE y.natAbs) (b:=aE (x.natAbs%y.natAbs)) (bf _) (bf _) j1 (by rw[ar,ar];omega)
     rw[ar,ar] at this;exact aa (uP (n+1) hy) (aa this rfl)
   ·simp_all
def Pi(n:Nat){x y:Int}(hx:In x)(hy:In y)(k:0<y):cA (n+6) 172 [af x,af y]=some (.tup [af (x/y),af (x%y)]):=by
 have K:(x/y).natAbs<=x.natAbs:=Int.natAbs_ediv_le_natAbs x y;have G:In (x/y):=jk hx y;have L:=gW (x:=x) k;rw[RD];delta Gw qG qB qT qN Jn;have r:cA (n+5) 118 [.sl [af x,af y]]=some (.bool true):=sH (n+3) (a:=some x) (b:=some y) (aY hx) (aY hy);have d:∀ a b:Int,D.beq (I a) (.int .i64 b)=decide (a=b):=λa b=>bY;refine aa r (aa aV (j0 false (aa (z:=false) ?_ (j0 false ?_))))
 ·rw[zia j2]
  refine aa (sJ (n+2) hy) ?_;rw[d,zca (Gc j1)];rfl
 rw[zia j2]
 by_cases fast:(inR x/\x≠-9223372036854775808)/\inR y/\y≠-9223372036854775808
 ·obtain⟨⟨A,e⟩,B,C⟩:=fast;have j:cA (n+5) 202 [af x]=some (.tup [I x,.bool true]):=by
   rcases zO (n+1) hx with⟨_,h⟩|⟨h,_⟩
   ·exact h
   ·simp_all
  have l:cA (n+5) 202 [af y]=some (.tup [I y,.bool true]):=by
   rcases zO (n+1) hy with⟨_,h⟩|⟨h,_⟩
   ·exact h
   ·simp_all
  simp only[inR] at A B;have g:inR (x/y):=by simp only[inR];omega
  have f:inR (x%y):=by simp only[inR];omega
  refine aa (z:=(0,[af (x/y),af (x%y)])) ?_ rfl;refine aa j (j0 (I x) (j0 (.bool true) (j0 true (aa (z:=true) ?_ (j0 true ?_)))))
  ·rw[zja rfl,d,zca e];rfl
  rw[zja rfl];refine aa l (j0 (I y) (j0 (.bool true) (j0 true (aa (z:=true) ?_ (j0 true ?_)))))
  ·rw[zja rfl,d,zca C];rfl
  rw[zja rfl];have H:inR (x.tdiv y):=by
   have:(x.tdiv y).natAbs<=x.natAbs:=by rw[Int.natAbs_tdiv];exact zwc _ _
   grind [inR]
  refine aa (nD j1 H) (aa (lr j1) (aa (z:=(0,[I (x/y),I (x%y)])) ?_ (aa (zR (n+3) g) (aa (zR (n+3) f) rfl))))
  refine aa ac ?_;rw[d];rcases Dh (x:=x) k with⟨h0,h1,h2,h3⟩|⟨h0,h1,h2,h3⟩|⟨h0,h1,h2,h3⟩
  ·rw[h1,h2];refine aa (z:=false) ?_ (aa ac rfl);by_cases hz:x.tmod y=0
   ·simp_all
   ·rw[zca hz];refine dT (aa am (aa am ?_));rw[zca j1,zca j1];rfl
  ·rw[h2,h3,h1];exact j0 false (aa ac rfl)
  ·rw[zca (show ¬ x.tmod y=0 by omega)]
   refine aa (z:=true) (dT (aa am (aa am ?_))) (aa ac ?_)
   ·rw[zha j1,zca j1];rfl
   ·rw[h2] at g ⊢;rw[h3] at f ⊢;exact dT (aa (ct g) (aa (aC f) rfl))
 ·refine aa (z:=(1,[.st [.bool false,.bool false,aw bc],.st [.bool false,.bool false,aw bc]])) ?_ ?_
  ·rcases zO (n+1) hx with⟨A,h⟩|⟨A,h⟩
   ·by_cases e:x=-9223372036854775808
    ·refine aa h (j0 (I x) (j0 (.bool true) (j0 true (aa (z:=false) ?_ (j0 false rfl)))));rw[zja rfl,d,zha e];rfl
    ·refine aa h (j0 (I x) (j0 (.bool true) (j0 true (aa (z:=true) ?_ (j0 true ?_)))))
     ·rw[zja rfl,d,zca e];rfl
     rw[zja rfl];rcases zO (n+1) hy with⟨B,h2⟩|⟨B,h2⟩
     ·simp_all
     ·exact aa h2 (j0 (I 0) (j0 (.bool false) (j0 false (j0 false (j0 false rfl)))))
   ·exact aa h (j0 (I 0) (j0 (.bool false) (j0 false (j0 false (j0 false rfl)))))
  rw[zia j2]
  have v:=aX.1 hx;have m:=aX.1 hy;have u:x.natAbs/y.natAbs<eY:=zNa (zwc _ _) v;have i:x.natAbs%y.natAbs<eY:=zhc (z5a _ j1) m
  refine aa (jr x) (aa (jr y) (aa (Qk (n+1) v m j1) (j0 (LM (x.natAbs/y.natAbs)) (j0 (LM (x.natAbs%y.natAbs)) (aa (aQ x) (aa (aQ y) ?_))))))
  have E:(!(D.beq (.bool (decide (x<0))) (.bool (decide (y<0)))))=decide (x<0):=by grind [D.beq]
  rw[E,jp,nC i gB];refine aa (uD (n+4) _ u) ?_;have c:∀ Q:Nat,(Q:Int)=x%y->Q<eY->cA (n+5) 116 [.bool (decide (y<0)),LM Q]=some (af (x%y)):=λQ J ht=>by rw[uD (n+4) _ ht,zca (show ¬ y<0 by omega),show sgn false Q=(Q:Int) from rfl,J]
  rcases wK (x:=x) k with⟨o,p,q⟩|⟨o,p,q,w⟩|⟨o,p,q,w⟩
  ·refine aa (z:=(0,[LM (x.natAbs%y.natAbs),af (x/y)])) ?_ (aa (aQ y) (aa (c _ q.symm i) rfl));have hs:sgn (decide (x<0)) (x.natAbs/y.natAbs)=x/y:=by unfold sgn;rw[zca j1];simp[p]
   rw[hs];refine j0 (!decide (x.natAbs%y.natAbs=0)) (aa (z:=false) ?_ (j0 false rfl));cases (!decide (x.natAbs%y.natAbs=0))
   ·rfl
   ·refine dT (aa (aQ x) (aa (aQ y) ?_));rw[E,zca j1];rfl
  ·refine aa (z:=(0,[LM (x.natAbs%y.natAbs),af (x/y)])) ?_ (aa (aQ y) (aa (c _ (by rw[p,w];rfl) i) rfl))
   have hs:sgn (decide (x<0)) (x.natAbs/y.natAbs)=x/y:=by unfold sgn;rw[zha o];simp[q]
   rw[hs,zha p];exact j0 false (j0 false (j0 false rfl))
  ·have F:=z5a x.natAbs (show 0<y.natAbs by omega)
   refine aa (z:=(0,[LM (y.natAbs-x.natAbs%y.natAbs),af (x/y)])) ?_ (aa (aQ y) (aa (c _ w.symm j1) rfl))
   have hs:sgn (decide (x<0)) (x.natAbs/y.natAbs)=-((x.natAbs/y.natAbs:Nat):Int):=by unfold sgn;rw[zha o];rfl
   rw[hs,zca (show ¬ x.natAbs%y.natAbs=0 by omega)]
   refine j0 true (aa (z:=true) ?_ (j0 true (dT ?_)))
   ·refine dT (aa (aQ x) (aa (aQ y) ?_));rw[E,zha o];rfl
   ·have i1:In (1:Int):=bC (dO 1);have t:In (-((x.natAbs/y.natAbs:Nat):Int)):=by rw[aX,zCb,zsa];exact u
    have s:cA (n+5) 203 [af (-((x.natAbs/y.natAbs:Nat):Int)),af 1]=some (af (x/y)):=by
     rw[Uh];unfold Ia;have hm:In (-1:Int):=bC (dO (-1));refine aa (FT (n+1) i1) (aa (IP n t hm (by rw[show -((x.natAbs/y.natAbs:Nat):Int)+-1=x/y by rw[q];rfl];exact G)) ?_)
     grind
    exact aa (zR (n+3) (dO 1)) (aa s (aa (jr y) (aa (Qg (n+4) m (zBc F)) rfl)))
def tS(n:Nat){x y:Int}(hx:In x)(hy:In y)(a:0<y):cA (n+7) 132 [af x,af y]=some (af (x/y)):=by rw[RC];unfold Gv;exact aa (Pi n hx hy a) (j0 (af (x/y)) (j0 (af (x%y)) rfl))
def E3(n:Nat){x y:Int}(hx:In x)(hy:In y)(a:0<y):cA (n+7) 137 [af x,af y]=some (af (x%y)):=by rw[aaS];unfold LR;exact aa (Pi n hx hy a) (j0 (af (x/y)) (j0 (af (x%y)) rfl))
def jD{α:Type}{A B y:α}(h:B=y):(if false=true then A else B)=y:=h
def sO(a b c d:Int):Int:=bB (a*d) (c*b)
def yh(x y:Int):bB y x=-bB x y:=by unfold bB;split<;>split<;>(try split)<;>(try split)<;>omega
def zT{x y:Int}(h:x<y):bB x y=-1:=by unfold bB;rw[zja h]
def vE{x y:Int}(h:y<x):bB x y=1:=by unfold bB;rw[zia j1,zja h]
def qu(x y:Int):-1<=bB x y/\bB x y<=1:=by unfold bB;split<;>(try split)<;>omega
def qt{x y:Int}:bB x y=0↔x=y:=by unfold bB;split<;>(try split)<;>omega
def IW(t x y:Int):bB (t+x) (t+y)=bB x y:=by
 unfold bB;by_cases h:x<y
 ·rw[zja h,zja j1]
 ·rw[zia h,zia j1]
  by_cases h2:x>y
  ·rw[zja h2,zja j1]
  ·rw[zia h2,zia j1]
def yQ{a b c d:Int}(g:0<b)(f:0<d)(h:a/b<c/d):a*d<c*b:=by
 have i:=Int.mul_ediv_add_emod a b;have j:=Int.mul_ediv_add_emod c d;have r1:=gW (x:=a) g;have k:=gW (x:=c) f;generalize a/b=Q1 at *;generalize a%b=R1 at *;generalize c/d=Q2 at *;generalize c%d=R2 at *;have l:0<=(Q2-Q1-1)*(b*d):=zdb j1 (zpa (zGa g f))
 have m:0<(b-R1)*d:=zGa j1 f
 have n:0<=R2*b:=zdb k.1 j1
 subst i j;have e:(d*Q2+R2)*b-(b*Q1+R1)*d=(Q2-Q1-1)*(b*d)+(b-R1)*d+R2*b:=x6
 omega
def E9{a b c d:Int}(e:0<b)(f:0<d)(h:a/b≠c/d):bB (a/b) (c/d)=sO a b c d:=by
 unfold sO;rcases ztd h with h|h
 ·rw[zT h,zT (yQ e f h)]
 ·rw[vE h,vE (yQ f e h)]
def E8{a b c d:Int}(h:a/b=c/d):sO a b c d=sO (a%b) b (c%d) d:=by
 have e:=Int.mul_ediv_add_emod a b;have f:=Int.mul_ediv_add_emod c d;unfold sO;rw[<-IW (b*d*(a/b)) (a%b*d) (c%d*b)];congr 1
 ·conv=>lhs;rw[<-e]
  grind
 ·rw[h]
  conv=>lhs;rw[<-f]
  grind
def yg(a b c d:Int):sO b a d c=-sO a b c d:=by unfold sO;rw[<-yh,zMa b c,zMa d a]
def gT{x:Int}(h:0<x):sg x=1:=by unfold sg;rw[zia j1,zja h]
def BI{a b c d:Int}(e:0<b)(f:0<d)(g:0<=a)(hc:0<=c)(h:a=0\/c=0):sg a-sg c=sO a b c d:=by
 unfold sO;rcases h with rfl|rfl
 ·rw[z5b];by_cases h0:c=0
  ·subst h0;rw[z5b];rfl
  ·rw[zT (zGa j1 e),gT (x:=c) j1];rfl
 ·rw[z5b];by_cases h0:a=0
  ·subst h0;rw[z5b];rfl
  ·rw[vE (zGa j1 f),gT (x:=a) j1];rfl
def CJ(z:Int)(m:Nat)(st:List D):Prop:=∃ s p d q e:Int,st=[I s,.st [af p,af d],.st [af q,af e]]/\(s=1\/s=-1)/\0<d/\0<e/\In p/\In d/\In q/\In e/\m=d.natAbs/\s*sO p d q e=z
def zM{s c:Int}(hs:s=1\/s=-1)(hc:-1<=c/\c<=1):afn .mul (I s) (I c)=some (I (s*c)):=
 bK (by
      have:c=-1\/c=0\/c=1:=j1
      rcases hs with rfl|rfl<;>rcases this with rfl|rfl|rfl<;>exact dO _)
def AZ(x:Int):-1<=sg x/\sg x<=1:=by unfold sg;split<;>(try split)<;>omega
def gt:Option Rat->Option Rat->Int
 | some x,some y=>sO x.num x.den y.num y.den
 | none,none=>0
 | none,some _=>-1
 | some _,none=>1
def BH{x y:Rat}(hx:InR x)(hy:InR y):CJ (gt (some x) (some y)) (x.den:Int).natAbs [I 1,g8 x,g8 y]:=
 ⟨1,x.num,x.den,y.num,y.den,rfl,.inl rfl,by have:=x.den_pos;omega,by have:=y.den_pos;omega,hx.1,hx.2,hy.1,hy.2,rfl,znc _⟩
def pJ(a:Int):D.beq (I a) (.int .i64 0)=decide (a=0):=bY
def IM(n:Nat){a b:Option Rat}(v:OW a)(w:OW b):cA (n+1031) 73 [a7 a,a7 b]=some (I (gt a b)):=by
 rw[u73];delta UP qG qB qT qN qZ iL iR Jn;refine aa (gC n v) (aa (gC n w) (aa aV (aa ac ?_)));cases a with
 | none=>
  cases b with
  | none=>exact j0 true (aa ac rfl)
  | some y=>exact j0 false (aa ac (jD (aa aV (aa ac rfl))))
 | some x=>
 cases b with
 | none=>exact j0 false (aa ac (jD (aa aV (aa ac (jD (aa aV (aa ac rfl)))))))
 | some y=>
 refine j0 false (aa ac (jD (aa aV (aa ac (jD (aa aV (aa ac (jD ?_))))))));have hx:=v.some;have hy:=w.some;refine oL (CJ (gt (some x) (some y))) _ _ (BH hx hy) (λm s C=>?_);obtain⟨s,p,d,q,e,rfl,hs,c,he,ip,id,o,i,rfl,l⟩:=C;have j:In (p/d):=jk ip d;have k:In (q/e):=jk o e;have u:=zI (x:=p) id c;have it:=zI (x:=q) i he;have wr:=gW (x:=p) c;have wt:=gW (x:=q) he;by_cases hne:p/d=q/e
 ·have h0:bB (p/d) (q/e)=0:=qt.2 hne;have g:∀ {A:Option (Sum (List D) (Nat×List D))} {B y},B=some y->(if(!(D.beq (I (bB (p/d) (q/e))) (.int .i64 0)))=true then A else B)=some y:=λh=>by
   rw[pJ,h0];exact h
  rw[E8 hne] at l;by_cases hr:p%d=0\/q%e=0
  ·right;have f:=BI c he wr.1 wt.1 hr;rw[<-f] at l;refine⟨(0,[I (gt (some x) (some y))]),?_,rfl⟩;refine j0 (af p) (j0 (af d) (aa (tS (n+1023) ip id c) (j0 (af q) (j0 (af e) (aa (tS (n+1023) o i he) (aa (Vc (n+1026) j k) (aa ac (g ?_))))))));refine j0 (af d) (j0 (af p) (j0 (af d) (aa (E3 (n+1023) ip id c) (j0 (af e) (j0 (af q) (j0 (af e) (aa (E3 (n+1023) o i he) ?_)))))));refine aa (sJ (n+1027) u) (aa (sJ (n+1027) it) (aa ac (aa (z:=true) ?_ (aa ac (dT ?_)))))
   ·rw[pJ,pJ];by_cases h1:p%d=0
    ·rw[zha (by rw[eQ];exact h1)];rfl
    ·rw[zca (by rw[eQ];exact h1),zha (by rw[eQ];exact hr.resolve_left h1)];rfl
   ·have s1:=AZ (p%d);have s2:=AZ (q%e);have E:-1<=sg (p%d)-sg (q%e)/\sg (p%d)-sg (q%e)<=1:=by rw[f];exact qu _ _
    refine aa (ct (by simp only[inR];omega)) (aa (zM hs E) ?_)
    rw[l]
  ·left;have r:p%d≠0:=λh=>hr (.inl h);have t:q%e≠0:=λh=>hr (.inr h);refine⟨(p%d).natAbs,[I (-s),.st [af d,af (p%d)],.st [af e,af (q%e)]],j1,?_,-s,d,p%d,e,q%e,rfl,j1,j1,j1,id,u,i,it,rfl,?_⟩
   ·refine j0 (af p) (j0 (af d) (aa (tS (n+1023) ip id c) (j0 (af q) (j0 (af e) (aa (tS (n+1023) o i he) (aa (Vc (n+1026) j k) (aa ac (g ?_))))))));refine j0 (af d) (j0 (af p) (j0 (af d) (aa (E3 (n+1023) ip id c) (j0 (af e) (j0 (af q) (j0 (af e) (aa (E3 (n+1023) o i he) ?_)))))));refine aa (sJ (n+1027) u) (aa (sJ (n+1027) it) (aa ac (aa (z:=false) ?_ (aa ac ?_))))
    ·rw[pJ,pJ,zca (by rw[eQ];exact r),zca (by rw[eQ];exact t)];rfl
    ·exact jD (aa (ou (a:=s) (by simp only[inR];omega)) rfl)
   ·rw[yg,Int.neg_mul_neg];exact l
 ·right;have h0:bB (p/d) (q/e)≠0:=λh=>hne (qt.1 h);rw[<-E9 c he hne] at l;refine⟨(0,[I (gt (some x) (some y))]),?_,rfl⟩;refine j0 (af p) (j0 (af d) (aa (tS (n+1023) ip id c) (j0 (af q) (j0 (af e) (aa (tS (n+1023) o i he) (aa (Vc (n+1026) j k) (aa ac ?_)))))));rw[pJ,zca h0];refine dT (aa (zM hs (qu _ _)) ?_);rw[l]
def IG(n:Nat){a b:Option Rat}(F:OW a)(G:OW b)(h1:a.isSome=true\/b.isSome=true):cA (n+6) 324 [a7 a,a7 b]=some (I (gt a b)):=by
 rw[abm];delta Ms qG qB qT qN qZ iL iR Jn;have c:∀ (d:D) (v:Bool),cA (n+5) 344 [d,.bool v]=some (if v then af 0 else nF):=λd v=>by
  rw[abt];delta My qT Jn;cases v
  ·exact j0 false (aa (IB (n+3)) rfl)
  ·exact j0 true (aa (zP (n+1) (dO 0)) rfl)
 have j:cA (n+4) 76 [af 0]=some (.bool true):=sa (n+2) (bC (dO 0));have w:cA (n+4) 76 [nF]=some (.bool false):=uF (n+2) (a:=none) fZ;refine aa (vw n F) (aa (vw n G) (aa aV (aa ac ?_)));cases a with
 | none=>
  cases b with
  | none=>exact z4a h1 j3
  | some y=> refine j0 true (aa ac (dT (aa (c _ false) (aa (c _ true) (aa (z:=I (-1)) ?_ rfl)))));rw[u32];delta RN qG qT qN Jn;exact aa w (aa aV (aa ac (aa (z:=false) (dT (aa j rfl)) (aa ac (jD (aa w (aa aV (aa ac rfl))))))))
 | some x=>
 cases b with
 | none=> refine j0 true (aa ac (dT (aa (c _ true) (aa (c _ false) (aa (z:=I 1) ?_ rfl)))));rw[u32];delta RN qG qT qN Jn;exact aa j (aa aV (aa ac (j0 false (aa ac (jD (aa j (aa aV (aa ac (jD (aa w (aa aV (aa ac rfl))))))))))))
 | some y=>
 refine j0 false (aa ac (jD ?_));have hx:=F.some;have hy:=G.some;refine j0 (af x.num) (j0 (af x.den) (j0 (af y.num) (j0 (af y.den) ?_)));refine oL (CJ (gt (some x) (some y))) _ _ (BH hx hy) (λm s H=>?_);obtain⟨s,p,d,q,e,rfl,hs,f,he,ip,id,t,k,rfl,r⟩:=H;have l:In (p/d):=jk ip d;have o:In (q/e):=jk t e;have u:=zI (x:=p) id f;have it:=zI (x:=q) k he;have wr:=gW (x:=p) f;have wt:=gW (x:=q) he;by_cases hne:p/d=q/e
 ·have h0:bB (p/d) (q/e)=0:=qt.2 hne;have i:∀ {A:Option (Sum (List D) (Nat×List D))} {B y},B=some y->(if(!(D.beq (I (bB (p/d) (q/e))) (.int .i64 0)))=true then A else B)=some y:=λh=>by
   rw[pJ,h0];exact h
  rw[E8 hne] at r;by_cases hr:p%d=0\/q%e=0
  ·right;have g:=BI f he wr.1 wt.1 hr;rw[<-g] at r;refine⟨(0,[I (gt (some x) (some y))]),?_,rfl⟩;refine j0 (af p) (j0 (af d) (aa (GH (n+1) ip id f) (j0 (af q) (j0 (af e) (aa (GH (n+1) t k he) (aa (RW (n+2) l o) (aa ac (i ?_))))))));refine j0 (af d) (j0 (af p) (j0 (af d) (aa (E5 (n+1) ip id f) (j0 (af e) (j0 (af q) (j0 (af e) (aa (E5 (n+1) t k he) ?_)))))));refine aa (IN (n+2) u) (aa ac (aa (z:=true) ?_ (aa ac (dT (aa (IN (n+2) u) (aa (IN (n+2) it) ?_))))))
   ·rw[pJ];by_cases h1:p%d=0
    ·rw[zha (by rw[eQ];exact h1)];rfl
    ·rw[zca (by rw[eQ];exact h1)]
     refine jD (aa (IN (n+2) it) ?_);rw[pJ,zha (by rw[eQ];exact hr.resolve_left h1)];rfl
   ·have s1:=AZ (p%d);have s2:=AZ (q%e);have J:-1<=sg (p%d)-sg (q%e)/\sg (p%d)-sg (q%e)<=1:=by rw[g];exact qu _ _
    refine aa (ct (by simp only[inR];omega)) (aa (zM hs J) ?_)
    rw[r]
  ·left;have C:p%d≠0:=λh=>hr (.inl h);have E:q%e≠0:=λh=>hr (.inr h);refine⟨(p%d).natAbs,[I (-s),.st [af d,af (p%d)],.st [af e,af (q%e)]],j1,?_,-s,d,p%d,e,q%e,rfl,j1,j1,j1,id,u,k,it,rfl,?_⟩
   ·refine j0 (af p) (j0 (af d) (aa (GH (n+1) ip id f) (j0 (af q) (j0 (af e) (aa (GH (n+1) t k he) (aa (RW (n+2) l o) (aa ac (i ?_))))))));refine j0 (af d) (j0 (af p) (j0 (af d) (aa (E5 (n+1) ip id f) (j0 (af e) (j0 (af q) (j0 (af e) (aa (E5 (n+1) t k he) ?_)))))));refine aa (IN (n+2) u) (aa ac (aa (z:=false) ?_ (aa ac ?_)))
    ·rw[pJ,zca (by rw[eQ];exact C)]
     refine jD (aa (IN (n+2) it) ?_);rw[pJ,zca (by rw[eQ];exact E)];rfl
    ·exact jD (aa (ou (a:=s) (by simp only[inR];omega)) rfl)
   ·rw[yg,Int.neg_mul_neg];exact r
 ·right;have h0:bB (p/d) (q/e)≠0:=λh=>hne (qt.1 h);rw[<-E9 f he hne] at r;refine⟨(0,[I (gt (some x) (some y))]),?_,rfl⟩;refine j0 (af p) (j0 (af d) (aa (GH (n+1) ip id f) (j0 (af q) (j0 (af e) (aa (GH (n+1) t k he) (aa (RW (n+2) l o) (aa ac ?_)))))));rw[pJ,zca h0];refine dT (aa (zM hs (qu _ _)) ?_);rw[r]
def CE(z:Int):eN (-z)=(eN z).map (λx=>-x):=by unfold eN;rw[zCb];split<;>rfl
def Ik(x y:Rat):Bq (-x) (-y)=D8 (Bq x y):=by
 unfold Bq;rw[Rat.neg_num,Rat.neg_num,Rat.neg_den,Rat.neg_den];simp only[mI,Int.neg_mul,CE];generalize eN (x.num*_)=A;generalize eN (y.num*_)=B;generalize eN (_*(y.den:Int))=C;cases A with
 | none=>cases C<;>rfl
 | some a=>
 cases B with
 | none=>cases C<;>rfl
 | some b=>
 simp only[uA,zMb];rw[show -a+-b=-(a+b) by omega,CE]
 generalize eN (a+b)=S;cases S with
 | none=>cases C<;>rfl
 | some t=>
 cases C with
 | none=>rfl
 | some c=>
 simp only[lK,zMb,D8];split
 ·rfl
 ·rw[zMb,Rat.neg_divInt]
def kZ{u:V}(h:bd NB u):bd NB u.neg:=by simp only[bd,V.neg,NB] at *;omega
structure PairOk(x y:V)(q r:Nat->Int)(l m:List V):Prop where
 pa:PoseOk x q
 pb:PoseOk y r
 la:∀ v∈l,bd 4096 v
 lb:∀ v∈m,bd 4096 v
 na:0<l.length
 nb:0<m.length
 ka:l.length<=100
 kb:m.length<=100
 ta:l.length<=10
 tb:m.length<=10
def Rg(u x y:V)(q r:Nat->Int)(l m:List V):Option Rat:=Bq (-(da u.neg y r m)) (-(da u x q l))
def ZP(n:Nat){u x y:V}{q r:Nat->Int}{l m:List V}(h:PairOk x y q r l m)(hu:bd NB u):cA (n+1033) 434 [ae u,ga x q l,ga y r m]=some (a7 (Rg u x y q r l m)):=by
 rw[abT];unfold M4;have c:=jZ hu h.pa h.la h.na;have d:=jZ (kZ hu) h.pb h.lb h.nb;refine aa (RY (n+1031) hu j2) (aa (IK (n+1) (kZ hu) h.pb h.lb h.nb h.kb) (aa (IK (n+1) hu h.pa h.la h.na h.ka) ?_))
 refine aa (BA (n+1) (a:=some (da u.neg y r m)) (b:=some (da u x q l)) (bS d) (bS c)) (aa (II (n+1) (kr _ _)) ?_);unfold Rg;rw[Ik];rfl
def ZQ(n:Nat){u:V}(hu:bd NB u):cA (n+2) 438 [ae u]=some (ae u.neg):=by
 rw[abW];delta M7 Jn;have a:bd 0 V.zero:=by simp only[bd,V.zero];omega
 have:=Dx n a hu j2
 rw[show V.sub V.zero u=u.neg by cases u;simp[V.sub,V.zero,V.neg]] at this
 exact aa this rfl
def eV(k:Int)(v:V):Bool:=(List.range 3).all λt=>pd k (aJ v (0+t))
def zq{k:Int}{v:V}(h:eV k v=true):bd (k-1) v:=by simp[eV,pd,zkc,aJ] at h;simp only[bd];omega
def KB{v:V}(h:eV 2305843009213693952 v=true):bd NB v:=zq h
def SS(n:Nat)(v:V):cA (n+1) 187 [ae v]=some (.bool (eV 2305843009213693952 v)):=by
 rw[Ug];delta H9 qB qC qT qJ qZ iL iR Jn;refine nV (r:=if eV 2305843009213693952 v then(1,[]) else(0,[.bool false])) (wC (m:=3) (λi=>pd 2305843009213693952 (aJ v i)) (λi d=>?_) ?_ 3 0 rfl) ?_
 ·have c:D.idx (I (i:Int)) 3=some i:=aq d;refine aa am (aa ac (aK (by show(i:Int)<3;omega) ?_))
  have hx:=B5 (v:=v) d;refine aa c (aa hx (aa fR (aa ac ?_)));generalize aJ v i=x at *;by_cases h1:x ≥ 2305843009213693952
  ·have e:pd 2305843009213693952 x=false:=by simp[pd];omega
   rw[zha h1,e];exact j0 true (aa ac rfl)
  ·rw[zca h1];refine aa (z:=decide (x<=-2305843009213693952)) (jD (aa c (aa hx (aa mY ac)))) (aa ac ?_);by_cases h2:x<=-2305843009213693952
   ·have e:pd 2305843009213693952 x=false:=by simp[pd];omega
    rw[zha h2,e];rfl
   ·have e:pd 2305843009213693952 x=true:=by simp[pd];omega
    rw[zca h2,e];exact jD (aa (aH (a:=i) (b:=1) j1) rfl)
 ·exact aa am (aa ac (aO j2 rfl))
 ·cases eV 2305843009213693952 v<;>rfl
def GM(u:V)(a:Option Rat)(x y:V)(q r:Nat->Int)(l m:List V):Bool:=
 eV 2305843009213693952 u&&(!(decide (u=V.zero))&&(a.isSome&&(decide (gt (some (da u x q l)) a<=0)&&decide (gt (some (-(da u.neg y r m))) a ≥ 0))))
def NW{x d:Rat}:gt (some x) (some (-d))=-gt (some (-x)) (some d):=by simp only[gt,sO,Rat.neg_num,Rat.neg_den];rw[<-yh];unfold bB;rw[Int.neg_mul,Int.neg_mul];generalize x.num*(d.den:Int)=A;generalize d.num*(x.den:Int)=B;split<;>split<;>(try split)<;>(try split)<;>omega
def Fj(u:V)(a:Option Rat):D:=.st [ae u,a7 a]
def PC(u:V)(a:Option Rat):D.get (Fj u a) [1,0,0]=some (.bool (!a.isSome)):=by cases a<;>rfl
def Bv(u:V):D.beq (ae u) (D.st [(.int .i64 0),(.int .i64 0),(.int .i64 0)])=decide (u=V.zero):=ks u V.zero
def ZM(n:Nat){u x y:V}{a:Option Rat}(c:OW a){q r:Nat->Int}{l m:List V}(h:PairOk x y q r l m):cA (n+1034) 421 [Fj u a,cL x q,cl l,cL y r,cl m]=some (.bool (GM u a x y q r l m)):=by
 rw[abK];delta MQ qG qB qC qT qZ iL iR Jn;refine j0 (ae u) ?_;refine nV (r:=if eV 2305843009213693952 u then(1,[]) else(0,[.bool false])) (wC (m:=3) (λi=>pd 2305843009213693952 (aJ u i)) (λi j=>?_) ?_ 3 0 rfl) ?_
 ·have f:D.idx (I (i:Int)) 3=some i:=aq j;refine aa am (aa ac (aK (by show(i:Int)<3;omega) ?_))
  refine aa f (aa (qR j) (aa fR (aa ac ?_)));generalize aJ u i=x at *;by_cases h1:x ≥ 2305843009213693952
  ·have e:pd 2305843009213693952 x=false:=by simp[pd];omega
   rw[zha h1,e];exact j0 true (aa ac rfl)
  ·rw[zca h1];refine aa (z:=decide (x<=-2305843009213693952)) (jD (aa mY ac)) (aa ac ?_);by_cases h2:x<=-2305843009213693952
   ·have e:pd 2305843009213693952 x=false:=by simp[pd];omega
    rw[zha h2,e];rfl
   ·have e:pd 2305843009213693952 x=true:=by simp[pd];omega
    rw[zca h2,e];exact jD (aa (aH (a:=i) (b:=1) j1) rfl)
 ·exact aa am (aa ac (aO j2 rfl))
 unfold GM;by_cases hs:eV 2305843009213693952 u=true
 ·rw[hs,zja rfl,zia j2,zqb]
  have hu:=KB hs;refine j0 (ae u) (aa (z:=decide (u=V.zero)) (by rw[Bv];exact ac) ?_)
  by_cases hz:u=V.zero
  ·rw[zha hz];exact j0 true (aa ac rfl)
  ·rw[zca hz,zUb,zqb];refine aa (z:=!a.isSome) (jD (aa (PC u a) ac)) (aa ac ?_);cases a with
   | none=>rfl
   | some d=>
    have p:=c.some;have k:=jZ hu h.pa h.la h.na;have o:=jZ (kZ hu) h.pb h.lb h.nb;refine jD (aa (GF (n+1029) h.pa h.la h.ka) (j0 (ae u) (aa (IK (n+2) hu h.pa h.la h.na h.ka) (j0 (a7 (some d)) (aa (IM (n+2) (a:=some (da u x q l)) (bS k) c) (aa mY (aa ac ?_)))))));rw[show(some d:Option Rat).isSome=true from rfl,zqb];refine aa (z:=decide (gt (some (da u x q l)) (some d)<=0)&&decide (gt (some (-(da u.neg y r m))) (some d) ≥ 0)) ?_ rfl;by_cases h1:gt (some (da u x q l)) (some d)<=0
    ·rw[zha h1,zqb];refine dT (aa (GF (n+1029) h.pb h.lb h.kb) (j0 (ae u) (aa (RY (n+1032) hu j2) (aa (IK (n+2) (kZ hu) h.pb h.lb h.nb h.kb) (j0 (a7 (some d)) (aa (II (n+2) c) (aa (IM (n+2) (a:=some (da u.neg y r m)) (bS o) (u6 c)) ?_)))))))
     refine aa mY ?_;rw[show D8 (some d)=some (-d) from rfl,NW];refine Eq.trans ac (zna some (decide_eq_decide.2 ?_));omega
    ·rw[zca h1];rfl
 ·have g:eV 2305843009213693952 u=false:=by cases hh:eV 2305843009213693952 u;rfl;exact z4a hh hs
  rw[g];rfl
def ZN(n:Nat){u x y:V}{a:Option Rat}(b:OW a){q r:Nat->Int}{l m:List V}(h:PairOk x y q r l m):cA (n+9) 422 [Fj u a,cL x q,cl l,cL y r,cl m]=some (.bool (GM u a x y q r l m)):=by
 rw[abL];delta MR qG qB qC qT qN Jn;refine j0 (ae u) (aa (SS (n+7) u) (j0 (ae u) (aa aV (aa ac ?_))));unfold GM;by_cases hs:eV 2305843009213693952 u=true
 ·rw[hs,zqb];have hu:=KB hs;refine aa (z:=decide (u=V.zero)) (jD (by rw[Bv];exact ac)) (aa ac ?_)
  by_cases hz:u=V.zero
  ·rw[zha hz];exact j0 true (aa ac rfl)
  ·rw[zca hz,zUb,zqb];refine aa (z:=!a.isSome) (jD (aa (PC u a) ac)) (aa ac ?_);cases a with
   | none=>rfl
   | some d=>
    have g:=b.some;have f:=jZ hu h.pa h.la h.na;have e:=jZ (kZ hu) h.pb h.lb h.nb;refine jD (j0 (ae u) (aa (ZQ (n+6) hu) (aa (Te n (kZ hu) h.pb h.lb h.nb h.kb) (aa (Tm (n+2) (a:=some (da u.neg y r m)) (bS e)) (j0 (ae u) (aa (Te n hu h.pa h.la h.na h.ka) (j0 (a7 (some d)) (aa (IG (n+2) (a:=some (da u x q l)) (bS f) b (.inl rfl)) (aa mY (aa ac ?_))))))))));rw[show(some d:Option Rat).isSome=true from rfl,zqb];refine aa (z:=decide (gt (some (da u x q l)) (some d)<=0)&&decide (gt (some (-(da u.neg y r m))) (some d) ≥ 0)) ?_ rfl;by_cases h1:gt (some (da u x q l)) (some d)<=0
    ·rw[zha h1,zqb];exact dT (j0 (a7 (some d)) (aa (IG (n+2) (a:=some (-(da u.neg y r m))) (u6 (a:=some _) (bS e)) b (.inl rfl)) (aa fR ac)))
    ·rw[zca h1];rfl
 ·have c:eV 2305843009213693952 u=false:=by cases hh:eV 2305843009213693952 u;rfl;exact z4a hh hs
  rw[c];rfl
def dN(u v:WV):WV:=λi=>A7 (u i) (v i)
def oM(u v:WV):tR (dN u v):=λi=>Gi _ _
def ZS(n:Nat){u v:WV}(hu:tR u)(a:tR v):cA (n+9) 442 [a8 u,a8 v]=some (a8 (dN u v)):=by rw[abZ];delta Nc qG;exact j0 (a7 (u 0)) (j0 (a7 (v 0)) (aa (Qt n (hu 0) (a 0)) (j0 (a7 (u 1)) (j0 (a7 (v 1)) (aa (Qt n (hu 1) (a 1)) (j0 (a7 (u 2)) (j0 (a7 (v 2)) (aa (Qt n (hu 2) (a 2)) rfl))))))))
def Qv(n:Nat){u v:WV}(hu:tR u)(g:tR v):cA (n+1033) 440 [a8 u,a8 v]=some (a8 (dN u v)):=by
 rw[abX];delta M8 qB qC qJ qZ iL iR Jn;refine uf (l0:=[a7 (u 0),a7 (u 1),a7 (u 2)]) (λi=>a7 (dN u v i)) rfl (λi c l hl f=>?_) (λl=>aa am (aa ac (aO j2 rfl))) rfl
 have d:D.get (.st l) [i]=some (a7 (u i)):=by
  have e:=f i (zka _);have:i=0\/i=1\/i=2:=j1
  rcases this with rfl|rfl|rfl<;>simp[D.get,D.fld,e]
 exact aa am (aa ac (aK (by show(i:Int)<3;omega) (aa (aq c) (aa d (aa (aq c) (aa (kU c v) (aa (Pj n (hu i) (g i)) (aa (aq c) (aa (og j1) (aa (aH (a:=i) (b:=1) j1) rfl))))))))))
def sA(v:WV):Bool:=!((v 0).isSome&&((v 1).isSome&&(v 2).isSome))
def PA(v:WV):D.get (a8 v) [0,0,0]=some (.bool (!(v 0).isSome))/\D.get (a8 v) [1,0,0]=some (.bool (!(v 1).isSome))/\D.get (a8 v) [2,0,0]=some (.bool (!(v 2).isSome)):=by
 have h:∀ a:Option Rat,D.get (a7 a) [0,0]=some (.bool (!a.isSome)):=λa=>by cases a<;>rfl
 exact⟨h _,h _,h _⟩
def Z3(n:Nat)(v:WV):cA (n+1) 71 [a8 v]=some (.bool (sA v)):=by
 rw[u71];delta UN qG qT;obtain⟨h1,h2,h3⟩:=PA v;unfold sA;refine aa h1 (aa ac ?_);cases (v 0).isSome
 ·exact j0 true (aa ac (j0 true rfl))
 refine aa (z:=!(v 1).isSome) (jD (aa h2 ac)) (aa ac ?_);cases (v 1).isSome
 ·exact j0 true rfl
 exact aa (z:=!(v 2).isSome) (jD (aa h3 ac)) rfl
def ZR(n:Nat)(v:WV):cA (n+1) 441 [a8 v]=some (.bool (sA v)):=by
 rw[abY];delta M9 qG qT;obtain⟨h1,h2,h3⟩:=PA v;unfold sA;refine aa h1 (aa ac ?_);cases (v 0).isSome
 ·exact j0 true (aa ac (j0 true rfl))
 refine aa (z:=!(v 1).isSome) (jD (aa h2 ac)) (aa ac ?_);cases (v 1).isSome
 ·exact j0 true rfl
 exact aa (z:=!(v 2).isSome) (jD (aa h3 ac)) rfl
def aF(q:Nat->Int)(v:V):V:=⟨co q v 0,co q v 1,co q v 2⟩
def rT{q:Nat->Int}(h:xY q){v:V}(d:bd 1099511627776 v)(i:Nat):inR (aJ (aF q v) i):=by
 obtain⟨v1,v2,v3⟩:=kQ (k:=1099511627776) d;have key:∀ i,inR (co q v i):=λi=>by have a:=mK h (3*i) v1;have b:=mK h (3*i+1) v2;have c:=mK h (3*i+2) v3;simp only[inR,co];omega
 exact jT (key 0) (key 1) (key 2) i
def rh(q:Nat->Int)(p:WV)(f:(V×Int)×List Nat):Int:=gt (some ((ay q*f.1.2:Int):Rat)) (pV (kq (aF q f.1.1)) p)
def xL(q:Nat->Int)(p:WV)(F:FL):Nat->Int
 | 0=>1
 | k+1=>min (xL q p F k) ((F[k]?).elim 0 (rh q p))
def eI(x:V)(q:Nat->Int)(F:FL)(v:WV):Int:=if sA v then -1 else xL q (dN v (kq x)) F F.length
def lE{q:Nat->Int}{p:WV}{F:FL}{k:Nat}(h:k<F.length):xL q p F (k+1)=min (xL q p F k) (rh q p F[k]):=by show min _ ((F[k]?).elim 0 _)=_;rw[zda h];rfl
def xE(F:FL):Prop:=F.length<=3000000/\∀ f∈F,bd 549755813888 f.1.1/\(f.1.2).natAbs<=281474976710656
def AX{x:V}{q:Nat->Int}(h:PoseOk x q){d:Int}(a:d.natAbs<=281474976710656):inR (ay q*d):=by
 have s:=cJ h.hq h.h0;have:(ay q*d).natAbs<=16384*281474976710656:=by rw[zLa];exact z9a j1 a
 simp only[inR];omega
def Bt{v:V}(h:bd 549755813888 v):bd 1099511627776 v:=by simp only[bd] at *;omega
def NM(n:Nat){x:V}{q:Nat->Int}(h:PoseOk x q){l:List V}{F:FL}(hF:xE F)(h18:∀ m,cA (m+8) 18 [cl l]=some (.sl (aZ F))){v:WV}(e:tR v):cA (n+1036) 423 [cL x q,cl l,a8 v]=some (I (eI x q F v)):=by
 rw[abM];delta MS qG qB qC qT qS qX qZ iL iR Jn eI;refine aa (Z3 (n+1034) v) (aa ac ?_);cases sA v with
 | true=>rfl
 | false=>
 have hx:∀ i,inR (aJ x i):=jT (by have:=h.hx;simp only[bd] at this;simp only[inR];omega) (by have:=h.hx;simp only[bd] at this;simp only[inR];omega) (by have:=h.hx;simp only[bd] at this;simp only[inR];omega)
 have hp:=oM v (kq x);refine jD (j0 (ae x) (aa (E2 (n+2) hx) (aa (Qv (n+2) e (tO hx)) (j0 (gZ q) (aa (S6 (n+1032) h.hq) (aa (h18 (n+1027)) (j0 (aZ F) ?_)))))));refine cr (λi s=>s=[I (xL q (dN v (kq x)) F i),I (i:Int)]) F.length 0 (zqa _) rfl (λi c s d=>?_) (λs d=>?_)
 ·subst d;left;obtain⟨f1,f2⟩:=hF.2 F[i] (zBa c);have hl:=hF.1;refine⟨_,?_,rfl⟩;have s1:=AX h f2;refine aa am (aa ac (aK (by rw[bh];omega) ?_))
  refine j0 (aZ F) (aa (z:=i) (by rw[bh];exact aq c) (aa (fg c) ?_))
  refine j0 (I F[i].1.2) (aa (bK s1) (aa (Pp (n+3) s1) (j0 (gZ q) (j0 (ae F[i].1.1) (aa (z:=ae (aF q F[i].1.1)) (E6 (n+1032) h.hq (Bt f1)) ?_)))));refine aa (QC (n+1) (rT h.hq (Bt f1)) hp) (aa (IM (n+4) (a:=some ((ay q*F[i].1.2:Int):Rat)) (bS (tP (bC s1))) (uZ _ _)) ?_);rw[lE c];exact aa JP (aa (aH (a:=i) (b:=1) j1) rfl)
 ·subst d;exact⟨_,aa am (aa ac (aO (by rw[bh];omega) rfl)),rfl⟩
def S9(n:Nat){x:V}{q:Nat->Int}(h:PoseOk x q){l:List V}{F:FL}(hF:xE F)(h19:∀ m,cA (m+8) 19 [cl l]=some (.sl (aZ F))){v:WV}(e:tR v):cA (n+11) 424 [cL x q,cl l,a8 v]=some (I (eI x q F v)):=by
 rw[abN];delta MT qG qB qT qX qL qZ iL iR Jn eI;refine aa (ZR (n+9) v) (aa ac ?_);cases sA v with
 | true=>rfl
 | false=>
 have hx:∀ i,inR (aJ x i):=jT (by have:=h.hx;simp only[bd] at this;simp only[inR];omega) (by have:=h.hx;simp only[bd] at this;simp only[inR];omega) (by have:=h.hx;simp only[bd] at this;simp only[inR];omega)
 have hp:=oM v (kq x);refine jD (j0 (ae x) (aa (SV (n+3) hx) (aa (ZS (n+1) e (tO hx)) (aa (h19 (n+2)) ?_))));refine cr (λi s=>s=[I (xL q (dN v (kq x)) F i),I (i:Int)]) F.length 0 (zqa _) rfl (λi c s d=>?_) (λs d=>?_)
 ·subst d;left;obtain⟨f1,f2⟩:=hF.2 F[i] (zBa c);have hl:=hF.1;refine⟨_,?_,rfl⟩;have s1:=AX h f2;refine j0 (aZ F) (aa am (aa ac (aK (by rw[bh];omega) ?_)))
  refine j0 (gZ q) (j0 (aZ F) (aa (z:=i) (by rw[bh];exact aq c) (aa (fg c) (j0 (ae F[i].1.1) (aa (z:=ae (aF q F[i].1.1)) (S4 (n+8) h.hq (Bt f1)) ?_)))))
  refine aa (SY (n+1) (rT h.hq (Bt f1)) hp) (j0 (gZ q) (aa (Qq (n+8) h.hq) ?_));refine j0 (aZ F) (aa (z:=i) (by rw[bh];exact aq c) (aa (fg c) (j0 (I F[i].1.2) (aa (bK s1) (aa (U8 (n+4) s1) ?_)))))
  refine aa (IG (n+4) (a:=some ((ay q*F[i].1.2:Int):Rat)) (bS (tP (bC s1))) (uZ _ _) (.inl rfl)) ?_;rw[lE c];exact aa JP (aa (aH (a:=i) (b:=1) j1) rfl)
 ·subst d;exact⟨_,j0 (aZ F) (aa am (aa ac (aO (by rw[bh];omega) rfl))),rfl⟩
def EY{A B:Int}{v:V}(h:bd A v)(a:A<=B):bd B v:=by simp only[bd] at *;omega
def GW{l:List V}(hl:∀ x∈l,bd 4096 x){m:V}{d:Int}(h:IsF (pt l) l.length m d):bd 549755813888 m/\d.natAbs<=281474976710656:=by
 obtain⟨i,j,k,h1,h2,h3,p,c,f⟩:=h.ex;have a:=hl _ (df (show i<l.length by omega))
 have n:=hl _ (df (show j<l.length by omega))
 have hk:=hl _ (df h3);have w1:bd 8192 (wy (pt l) i j):=kR n a;have o:bd 8192 (wy (pt l) i k):=kR hk a;have hp:=fJ (jJ w1 o);have hm:bd 134217728 m:=by
  rcases c with rfl|rfl
  ·exact hp
  ·exact sC hp
 refine⟨EY hm j2,?_⟩
 have b:=It hm a;rw[f];show(V.dot m (pt l i)).natAbs<=_;have e:(3:Int)*(134217728*4096)=1649267441664:=rfl;rw[e] at b;have g:-1649267441664<=V.dot m (pt l i)/\V.dot m (pt l i)<=1649267441664:=b;omega
def Td(n:Nat)(l:List V):∃ v:Bool,cA (n+10) 431 [cl l,I 10]=some (.bool v)/\(v=true->l.length<=10/\(∀ x∈l,bd 4096 x)/\Hul l):=by
 suffices h:∃ y,cA (n+10) 431 [cl l,I 10]=some y/\∃ v:Bool,y=.bool v/\(v=true->l.length<=10/\(∀ x∈l,bd 4096 x)/\Hul l) by obtain⟨y,h,v,rfl,k⟩:=h;exact⟨v,h,k⟩
 rw[abR];delta MY qB qC qT qY qM qP qZ iL iR Jn;refine ap (z:=bu l) rfl (ap (z:=l.map ae) rfl (ap cK (ap ac ?_)));by_cases hlen:l.length>10
 ·exact gj (by rw[aS];omega) ⟨.bool false,rfl,false,rfl,λh=>by cases h⟩
 refine uU (by rw[aS];omega) ?_
 refine nh (λi s=>s=[I (i:Int)]/\∀ x∈l.take i,bd 4096 x) l.length 0 (zqa _) ⟨rfl,j3⟩ (λi d s c=>?_) (λs c=>?_)
 ·obtain⟨rfl,c⟩:=c;refine ap (z:=bu l) rfl (ap (z:=l.map ae) rfl (ap am (ap ac (gj (by show(i:Int)<((l.map ae).length:Int);rw[aS];omega) ?_))))
  refine nh (λk s=>s=[I (k:Int)]/\∀ t,t<k->aJ l[i] t<=4096/\-4096<=aJ l[i] t) 3 0 (zqa _) ⟨rfl,λt h=>j1⟩ (λk hk s hK=>?_) (λs hK=>?_)
  ·obtain⟨rfl,hK⟩:=hK;have j:(D.get (cl l) [0]).bind (λg=>(D.asSl g).bind λf=>(D.idx (I (i:Int)) f.length).bind λi11=>f[i11]?)=some (ae l[i]):=
    j0 (bu l) (j0 (l.map ae) (aa (z:=i) (by rw[aS];exact aq d) (Jl d)))
   refine ap am (ap ac (gj (by show(k:Int)<3;omega) ?_))
   refine ap (z:=bu l) rfl (ap (z:=l.map ae) rfl (ap (z:=i) (by rw[aS];exact aq d) (ap (Jl d) (ap (z:=k) (aq hk) (ap (qR hk) (ap cK (ap ac ?_)))))))
   by_cases h1:aJ l[i] k>4096
   ·refine ap (z:=true) (by rw[zha h1];rfl) (ap (z:=true) rfl ⟨.inr (0,[.bool false]),rfl,.inr (0,[.bool false]),rfl,.bool false,rfl,false,rfl,λh=>by cases h⟩)
   ·refine ap (z:=decide (aJ l[i] k < -4096)) ?_ (ap ac ?_)
    ·rw[zca h1,zia j2]
     exact j0 (bu l) (j0 (l.map ae) (aa (z:=i) (by rw[aS];exact aq d) (aa (Jl d) (aa (z:=k) (aq hk) (aa (qR hk) (aa am ac))))))
    ·by_cases h2:aJ l[i] k < -4096
     ·exact gj h2 ⟨.inr (0,[.bool false]),rfl,.inr (0,[.bool false]),rfl,.bool false,rfl,false,rfl,λh=>by cases h⟩
     ·refine uU h2 ⟨.inl [I ((k+1:Nat):Int)],aa (aH (a:=k) (b:=1) j1) rfl,rfl,λt ht=>?_⟩
      by_cases e:t=k
      ·subst e;omega
      ·exact hK t j1
  ·obtain⟨rfl,hK⟩:=hK;refine⟨.inr (1,[]),aa am (aa ac (aO j2 rfl)),.inl [I ((i+1:Nat):Int)],?_,rfl,?_⟩
   ·rw[zia j2]
    exact aa (aH (a:=i) (b:=1) j1) rfl
   ·rw[zJa d];intro x hx;rcases List.mem_append.1 hx with hx|hx
    ·exact c x hx
    ·rw[zKa.1 hx];exact NV hK
 ·obtain⟨rfl,c⟩:=c;rw[zub] at c;refine⟨.inr (1,[]),j0 (bu l) (j0 (l.map ae) (aa am (aa ac (aO (by show ¬ ((l.length:Int)<((l.map ae).length:Int));rw[aS];omega) rfl)))),?_⟩
  rcases Zq n (l:=l) j1 with⟨e,h1,h2⟩|⟨h1,h2⟩
  ·refine⟨.bool false,aa h1 ?_,false,rfl,λh=>by cases h⟩
   rw[pJ,zca h2]
  ·refine⟨.bool true,aa h1 ?_,true,rfl,λ_=>⟨j1,c,h2⟩⟩
   rw[pJ];rfl
def Tc(n:Nat)(x:V)(q:Nat->Int):∃ v:Bool,cA (n+4) 427 [cL x q]=some (.bool v)/\(v=true->PoseOk x q):=by
 obtain⟨v,h1,h2⟩:=ZB n q;refine⟨eV 140737488355328 x&&v,?_,λh=>by simp only[zaa] at h;exact⟨zq h.1,FG (h2 h.2).1,(h2 h.2).2⟩⟩
 rw[abQ];delta MX qG qB qC qT qZ iL iR Jn;refine nV (r:=if eV 140737488355328 x then(1,[]) else(0,[.bool false])) (wC (m:=3) (λi=>pd 140737488355328 (aJ x i)) (λi d=>?_) ?_ 3 0 rfl) ?_
 ·have c:D.idx (I (i:Int)) 3=some i:=aq d;refine aa am (aa ac (aK (by show(i:Int)<3;omega) ?_))
  have hx:D.get (cL x q) [0,i]=some (I (aJ x i)):=B5 (v:=x) d;refine aa c (aa hx (aa fR (aa ac ?_)));generalize aJ x i=y at *;by_cases h1:y ≥ 140737488355328
  ·have e:pd 140737488355328 y=false:=by simp[pd];omega
   rw[zha h1,e];exact j0 true (aa ac rfl)
  ·rw[zca h1];refine aa (z:=decide (y<=-140737488355328)) (jD (aa c (aa hx (aa mY ac)))) (aa ac ?_);by_cases h2:y<=-140737488355328
   ·have e:pd 140737488355328 y=false:=by simp[pd];omega
    rw[zha h2,e];rfl
   ·have e:pd 140737488355328 y=true:=by simp[pd];omega
    rw[zca h2,e];exact jD (aa (aH (a:=i) (b:=1) j1) rfl)
 ·exact aa am (aa ac (aO j2 rfl))
 ·cases eV 140737488355328 x with
  | false=>rfl
  | true=>exact aa h1 rfl
def Js{l:List V}(h:Hul l):0<l.length:=by obtain⟨m,d,hF⟩:=h.ex;obtain⟨i,j,k,h1,h2,h3,_⟩:=hF.ex;omega
def ZJ(n:Nat)(x y:V)(q r:Nat->Int)(l m:List V):∃ v:Bool,cA (n+11) 414 [cL x q,cl l,cL y r,cl m]=some (.bool v)/\(v=true->PairOk x y q r l m/\Hul l/\Hul m):=by
 obtain⟨v1,h1,j⟩:=Tc (n+6) x q;obtain⟨v2,h2,k⟩:=Tc (n+6) y r;obtain⟨v3,h3,o⟩:=Td n l;obtain⟨v4,i,p⟩:=Td n m;refine⟨v1&&v2&&v3&&v4,?_,λh=>?_⟩
 ·rw[abI];delta MO qT Jn;refine aa h1 (aa ac (aa (z:=v1&&v2) ?_ (aa ac (aa (z:=v1&&v2&&v3) ?_ (aa ac (aa (z:=v1&&v2&&v3&&v4) ?_ rfl))))))
  ·cases v1
   ·rfl
   ·exact dT (aa h2 rfl)
  ·cases (v1&&v2)
   ·rfl
   ·exact dT (aa h3 rfl)
  ·cases (v1&&v2&&v3)
   ·rfl
   ·exact dT (aa i rfl)
 ·simp only[zaa] at h;obtain⟨⟨⟨d,e⟩,f⟩,g⟩:=h;obtain⟨a1,a2,a3⟩:=o f;obtain⟨b,c,a⟩:=p g;exact⟨⟨j d,k e,a2,c,Js a3,Js a,j1,j1,a1,b⟩,a3,a⟩
def TU(b s:Bool)(f:Nat->Int):D:=.st [.bool b,.bool s,c9 16 f]
structure RawR where
 b:Bool
 s:Bool
 f:Nat->Int
 c:Bool
 t:Bool
 g:Nat->Int
def RawR.enc(r:RawR):D:=.st [TU r.b r.s r.f,TU r.c r.t r.g]
def RawR.ok(r:RawR):Prop:=(∀ i,i<16->0<=r.f i/\r.f i<4294967296)/\∀ i,i<16->0<=r.g i/\r.g i<4294967296
def ZT(n:Nat)(l:List Nat)(k:Nat)(hk:k<=1000000):∃ z:Int,cA (n+2) 446 [.sl (ah l),I (k:Int)]=some (I z):=by
 have b:afn .quo (I (k:Int)) (I 16)=some (I ((k/16:Nat):Int)):=by rw[nD j2 (by rw[Int.tdiv_eq_ediv_of_nonneg j1];simp only[inR];omega),Int.tdiv_eq_ediv_of_nonneg j1];rfl
 have c:afn .rem (I (k:Int)) (I 16)=some (I ((k%16:Nat):Int)):=by rw[lr j2,Int.tmod_eq_emod_of_nonneg j1];rfl
 have d:∀ a:Int,∃ z,afn .shr (I a) (I ((k%16:Nat):Int))=some (I z):=λa=>by
  refine⟨a.fdiv (2^(min ((k%16:Nat):Int).toNat 64)),?_⟩;simp only[afn,show ¬ (((k%16:Nat):Int)<0) by omega,if_false]
  rfl
 obtain⟨z,e⟩:=d (l.getD (k/16) 0:Nat);refine⟨z.tmod 2,?_⟩;rw[ab3];delta Nh qB Jn;exact aa b (aa (DA n l (k/16)) (aa c (aa e (aa (lr j2) rfl))))
def ZO(n:Nat){a:Option Int}(d:pF a):∃ z:Int,cA (n+3) 426 [cZ a]=some (I z)/\∀ x (L:Nat),a=some x->x.natAbs<65536^L->z<=16*L:=by
 suffices h:∃ y,cA (n+3) 426 [cZ a]=some y/\∃ z:Int,y=I z/\∀ x (L:Nat),a=some x->x.natAbs<65536^L->z<=16*L by obtain⟨y,h,z,rfl,k⟩:=h;exact⟨z,h,k⟩
 rw[abP];delta MW qB qC qT qN qS qZ iL iR Jn;refine ap (uF n d) (ap aV (ap ac ?_));cases a with
 | none=>exact⟨I 0,rfl,0,rfl,λx L h=>(by cases h)⟩
 | some x=>
 have hx:x.natAbs<65536^32:=d.some;have hl:=bE 32 _ hx;have f:afn .mul (I 16) (D.int .i64 ((ah (aE x.natAbs)).length:Nat))=some (I ((16*(aE x.natAbs).length:Nat):Int)):=by rw[show(ah (aE x.natAbs)).length=(aE x.natAbs).length from ao _];exact(bK (by simp only[inR];omega)).trans (by rw[zYa];rfl)
 refine ap (uP n hx) (ap (z:=ah (aE x.natAbs)) rfl (ap f ?_));obtain⟨N,g⟩:∃ N,16*(aE x.natAbs).length=N:=⟨_,rfl⟩;rw[g];have fit:∀ i:Nat,∀ z (L:Nat),some x=some z->z.natAbs<65536^L->((N-i:Nat):Int)<=16*L:=λi z L e h=>by cases e;have:=bE L _ h;omega
 refine nh (λi s=>s=[I ((N-i:Nat):Int)]) N 0 (zqa _) rfl (λi l s b=>?_) (λs b=>?_)
 ·subst b;obtain⟨z,j⟩:=ZT n (aE x.natAbs) (N-i-1) j1
  have c:afn .sub (I ((N-i:Nat):Int)) (I 1)=some (I ((N-i-1:Nat):Int)):=by rw[ct (by simp only[inR];omega)];congr 2;omega
  refine ap cK (ap ac (ap (z:=decide (z=0)) (aK j1 (aa c (aa j ?_))) (ap ac ?_)))
  ·rw[pJ];exact ac
  ·by_cases h0:z=0
   ·exact gj h0 ⟨.inl [I ((N-i-1:Nat):Int)],aa c rfl,by rw[Nat.sub_sub]⟩
   ·exact uU h0 ⟨.inr (0,[I ((N-i:Nat):Int)]),rfl,_,rfl,_,rfl,fit i⟩
 ·subst b;refine⟨.inr (0,[I ((N-N:Nat):Int)]),aa cK (aa ac (aa (z:=false) (aO j1 rfl) (aa ac rfl))),_,rfl,_,rfl,fit N⟩
def BC(k:Nat)(f:Nat)(xs:List D):Option D:=if f=415 then Rs 415 xs else cA k f xs
def IR(k:Nat):je Tryz.prog (BC k):=by
 intro f a b xs y hs hy hw;unfold BC at hy;split at hy
 ·rename_i hf;exact OK f a b xs y hs (by rw[hf];exact hy) hw
 ·exact BB wA k f a b xs y hs hy hw
def PX{d:D}(h:wt K1 d):∃ v:V,d=ae v:=by
 obtain⟨l,rfl,hl,h⟩:=h
 match l,hl with
 | [a,b,c],_=>
  obtain⟨x,rfl⟩:=h a j3
  obtain⟨y,rfl⟩:=h b j3
  obtain⟨z,rfl⟩:=h c j3
  exact⟨⟨x,y,z⟩,rfl⟩
def O7{α:Type}{t:Ty}{e:α->D}(he:∀ d,wt t d->∃ v,d=e v){d:D}(h:wt (.sl t) d):∃ l:List α,d=.sl (l.map e):=by
 obtain⟨l,rfl,h⟩:=h;have key:∀ l:List D,(∀ x∈l,wt t x)->∃ m:List α,l=m.map e:=by
  intro l
  induction l with
  | nil=>intro _;exact⟨[],rfl⟩
  | cons x l ih=>
   intro h;obtain⟨v,rfl⟩:=he x (h x j3)
   obtain⟨m,rfl⟩:=ih λy hy=>h y (by simp[hy])
   exact⟨v::m,rfl⟩
 obtain⟨m,rfl⟩:=key l h;exact⟨m,rfl⟩
def PY{d:D}(h:wt K3 d):∃ l:List V,d=cl l:=by obtain⟨l,rfl,d,l',rfl,h1,h2⟩:=h;have a:l'=[]:=h2;subst a;obtain⟨m,rfl⟩:=O7 (e:=ae) (λd h=>PX h) h1;exact⟨m,rfl⟩
def RJ{d:D}(h:wt tQ d):∃ q:Nat->Int,d=gZ q:=by
 obtain⟨l,rfl,hl,h⟩:=h
 match l,hl with
 | [a,b,c,e],_=>
  obtain⟨x,rfl⟩:=h a j3
  obtain⟨y,rfl⟩:=h b j3
  obtain⟨z,rfl⟩:=h c j3
  obtain⟨w,rfl⟩:=h e j3
  exact⟨λi=>[x,y,z,w].getD i 0,rfl⟩
def Ld{d:D}(h:wt cS d):∃ (x:V) (q:Nat->Int),d=cL x q:=by obtain⟨l,rfl,d1,e,rfl,h1,d2,c,rfl,h2,b⟩:=h;have a:c=[]:=b;subst a;obtain⟨v,rfl⟩:=PX h1;obtain⟨q,rfl⟩:=RJ h2;exact⟨v,q,rfl⟩
def Sz(a b:Nat)(x:Rat):Prop:=x.num.natAbs<=2^a/\x.den<=2^b
def Sz.up{a b c d:Nat}{x:Rat}(h:Sz a b x)(h1:a<=c)(h2:b<=d):Sz c d x:=
 ⟨zHa h.1 (zta j2 h1),zHa h.2 (zta j2 h2)⟩
theorem Sz.neg{a b:Nat}{x:Rat}(h:Sz a b x):Sz a b (-x):=⟨by rw[Rat.neg_num,zCb];exact h.1,h.2⟩
def dU{a b:Nat}{x d:Int}(hx:x.natAbs<=2^a)(c:d.natAbs<=2^b)(h0:d≠0):Sz a b (Rat.divInt x d):=by obtain⟨h1,h2⟩:=oC x h0;exact⟨zHa h1 hx,zHa h2 c⟩
theorem Sz.add{a b c d k:Nat}{x y:Rat}(hx:Sz a b x)(hy:Sz c d y)(h1:a+d<k)(h2:c+b<k):Sz k (b+d) (x+y):=by
 have e:x+y=Rat.divInt (x.num*(y.den:Int)+y.num*(x.den:Int)) ((x.den:Int)*y.den):=by
  conv=>lhs;rw[<-zEb x,<-zEb y]
  rw[zFc _ _ (cT x) (cT y)]
 rw[e];refine dU ?_ ?_ (z8b (cT x) (cT y))
 ·have m1:=bH (k:=k-1) hx.1 hy.2 j1
  have m2:=bH (k:=k-1) hy.1 hx.2 j1
  have:=zsc (x.num*(y.den:Int)) (y.num*(x.den:Int));rw[zLa,zLa,zsa,zsa] at this;have f:2^k=2^(k-1)+2^(k-1):=by rw[<-Nat.two_mul,<-Nat.pow_succ'];congr 1;omega
  omega
 ·rw[<-zYa,zsa];exact bH hx.2 hy.2 (zka _)
def Sz.mul{a b c d:Nat}{x y:Rat}(hx:Sz a b x)(hy:Sz c d y):Sz (a+c) (b+d) (x*y):=by
 have e:x*y=Rat.divInt (x.num*y.num) ((x.den:Int)*y.den):=by
  conv=>lhs;rw[<-zEb x,<-zEb y]
  rw[zOb]
 rw[e];refine dU ?_ ?_ (z8b (cT x) (cT y))
 ·rw[zLa];exact bH hx.1 hy.1 (zka _)
 ·rw[<-zYa,zsa];exact bH hx.2 hy.2 (zka _)
def FJ{x k:Nat}(h:x<=2^k)(hk:k<=511):x<eY:=by
 have:=aX.1 (fj (x:=(x:Int)) hk (by rw[zsa];exact h))
 rwa [zsa] at this
theorem Sz.InR{a b:Nat}{x:Rat}(h:Sz a b x)(c:a<=511)(d:b<=511):InR x:=⟨fj c h.1,fj d (by rw[zsa];exact h.2)⟩
theorem Sz.addW{a b c d:Nat}{x y:Rat}(hx:Sz a b x)(hy:Sz c d y)(h1:a+d<511)(h2:c+b<511)(h3:b+d<=511):addW (some x) (some y)=some (x+y):=by
 refine Br ⟨?_,?_⟩
 ·obtain⟨k,hk⟩:∃ k,k=510:=⟨_,rfl⟩;have m1:=bH (k:=k) hx.1 hy.2 j1
  have m2:=bH (k:=k) hy.1 hx.2 j1
  refine FJ (k:=k+1) ?_ j1
  rw[zAb];omega
 ·exact FJ (bH hx.2 hy.2 (zka _)) h3
theorem Sz.mulW{a b c d:Nat}{x y:Rat}(hx:Sz a b x)(hy:Sz c d y)(h1:a+c<=511)(h2:b+d<=511):mulW (some x) (some y)=some (x*y):=
 JX ⟨FJ (bH hx.1 hy.1 (zka _)) h1,FJ (bH hx.2 hy.2 (zka _)) h2⟩
def Y6{k:Nat}{x:Int}(h:x.natAbs<=2^k):Sz k 0 (x:Rat):=⟨by simpa using h,j3⟩
def uS{u v:V}(hu:bd NB u)(a:bd PB v):(V.dot u v).natAbs<=2^125:=by obtain⟨h1,h2,h3⟩:=yl hu a;have b:=zsc (u.x*v.x) (u.y*v.y);have c:=zsc (u.x*v.x+u.y*v.y) (u.z*v.z);unfold V.dot;omega
theorem FR{u:V}{L:List V}(hu:bd NB u)(hL:∀ v∈L,bd PB v):∀ k,k<L.length->(xD u L k).natAbs<=2^125
 | 0,h=>uS hu (hL _ (fW h))
 | k+1,h=>by
  unfold xD;split
  ·exact uS hu (hL _ (fW h))
  ·exact FR hu hL k j1
def gn{x:V}{q:Nat->Int}(h:PoseOk x q):(ay q).natAbs<=2^14/\ay q≠0:=by have:=cJ h.hq h.h0;exact⟨by rw[show(2:Nat)^14=16384 from rfl];omega,j1⟩
def lV{u x:V}{q:Nat->Int}(hu:bd NB u)(h:PoseOk x q){l:List V}(hl:∀ v∈l,bd 4096 v)(h0:0<l.length):Sz 125 14 (da u x q l):=
 dU (FR hu (vf h hl) _ (by simp;omega)) (gn h).1 (gn h).2
def kG(u x y:V)(q r:Nat->Int)(l m:List V):Rat:=-(da u.neg y r m)+-(da u x q l)
def JM{u x y:V}{q r:Nat->Int}{l m:List V}(h:PairOk x y q r l m)(hu:bd NB u):Rg u x y q r l m=some (kG u x y q r l m):=
 (lV (kZ hu) h.pb h.lb h.nb).neg.addW (lV hu h.pa h.la h.na).neg j2 j2 j2
def pX{u x y:V}{q r:Nat->Int}{l m:List V}(h:PairOk x y q r l m)(hu:bd NB u):Sz 140 28 (kG u x y q r l m):=
 (lV (kZ hu) h.pb h.lb h.nb).neg.add (lV hu h.pa h.la h.na).neg j2 j2
def Bn(u x y:V)(q r:Nat->Int)(l m:List V):Rat:=kG u x y q r l m*kG u x y q r l m*Rat.divInt 1 (V.dot u u)
def ER{u:V}(hu:bd NB u):bd PB u:=by simp only[bd,NB,PB] at *;omega
def z7{u:V}(h:u≠V.zero):0<V.dot u u:=by
 have key:∀ a:Int,0<=a*a/\(a≠0->0<a*a):=λa=>by
  rcases zHb a 0 with k|k|k
  ·have:=zTb k k;omega
  ·subst k;simp
  ·have:=zGa k k;omega
 obtain⟨x,y,z⟩:=u;have hx:=key x;have hy:=key y;have b:=key z;show 0<x*x+y*y+z*z;by_cases h1:x=0
 ·by_cases h2:y=0
  ·by_cases h3:z=0
   ·subst h1 h2 h3;exact z4a rfl h
   ·have:=b.2 h3;omega
  ·have:=hy.2 h2;omega
 ·have:=hx.2 h1;omega
def div_one(x:Int):Rat.divInt x 1=(x:Rat):=by
 have h:=zEb (x:Rat)
 rwa [Rat.num_intCast,Rat.den_intCast] at h
def I4{a:Option Rat}{x:Int}(h:x≠0):vN a (some (x:Rat))=mulW a (some (Rat.divInt 1 x)):=by simp only[vN,Option.elim];rw[Rat.num_intCast,Rat.den_intCast,ru h];rfl
def acf{u x y:V}{q r:Nat->Int}{l m:List V}(h:PairOk x y q r l m)(hu:bd NB u)(h0:u≠V.zero) :
  mulW (some (kG u x y q r l m)) (some (kG u x y q r l m))=some (kG u x y q r l m*kG u x y q r l m)/\vN (some (kG u x y q r l m*kG u x y q r l m)) (some (V.dot u u:Rat))=some (Bn u x y q r l m):=by
 have s:=pX h hu;have d0:=z7 h0;refine⟨s.mulW s j2 j2,?_⟩
 rw[I4 j1]
 have a:Sz 0 125 (Rat.divInt 1 (V.dot u u)):=dU j2 (uS hu (ER hu)) j1
 exact(s.mul s).mulW a j2 j2
def KV{u x y:V}{q r:Nat->Int}{l m:List V}(h:PairOk x y q r l m)(hu:bd NB u)(h0:u≠V.zero):Sz 280 181 (Bn u x y q r l m):=
 ((pX h hu).mul (pX h hu)).mul (dU (a:=0) (b:=125) j2 (uS hu (ER hu)) (by have:=z7 h0;omega))
def NY(u x y:V)(q r:Nat->Int)(l m:List V):Rat:=da u x q l+kG u x y q r l m*Rat.divInt 1 2
def zK:Sz 0 1 (Rat.divInt 1 2):=dU j2 j2 j2
def Z8{u x y:V}{q r:Nat->Int}{l m:List V}(h:PairOk x y q r l m)(hu:bd NB u) :
  addW (some (da u x q l)) (vN (some (kG u x y q r l m)) (some ((2:Int):Rat)))=some (NY u x y q r l m):=by
 have e:vN (some (kG u x y q r l m)) (some ((2:Int):Rat))=some (kG u x y q r l m*Rat.divInt 1 2):=by
  rw[I4 j2]
  exact(pX h hu).mulW zK j2 j2
 rw[e];exact(lV hu h.pa h.la h.na).addW ((pX h hu).mul zK) j2 j2 j2
def QK{u x y:V}{q r:Nat->Int}{l m:List V}(h:PairOk x y q r l m)(hu:bd NB u):Sz 155 43 (NY u x y q r l m):=
 (lV hu h.pa h.la h.na).add ((pX h hu).mul zK) j2 j2
def Jp:Rat.divInt 1 2+Rat.divInt 1 2=1:=by decide +kernel
theorem kA(x y:Rat):gt (some x) (some y)=if x<y then -1 else if y<x then 1 else 0:=by show bB (x.num*(y.den:Int)) (y.num*(x.den:Int))=_;unfold bB;simp only[gt_iff_lt,<-Rat.lt_iff]
def QG(x y:Rat):decide (gt (some x) (some y)>0)=decide (y<x):=by
 rw[kA];by_cases h1:x<y
 ·have:¬ y<x:=Rat.not_lt.2 (Rat.le_of_lt h1);simp[h1,this]
 ·by_cases h2:y<x<;>simp[h1,h2]
def Pr(x y:Rat):decide (gt (some x) (some y)<=0)=!decide (y<x):=by rw[<-QG,Bool.eq_iff_iff];simp
def Ru(x:Rat):decide (C6 (some x)<0)=decide (x<0):=by
 have h:x<0↔x.num<0:=by rw[Rat.lt_iff];simp
 rw[Bool.eq_iff_iff,zfa,zfa,h];exact Gb
def Dm{q:Nat->Int}(h:xY q){k:Nat}{v:V}(d:bd (k:Int) v):bd ((49152*k:Nat):Int) (aF q v):=by
 have key:∀ (i:Nat) (x:Int),(-(k:Int)<=x/\x<=k)->(dY q i*x).natAbs<=16384*k:=λi x hx=>by have:=eK h i;rw[zLa];exact z9a j1 j1
 have:∀ i,(co q v i).natAbs<=49152*k:=λi=>by have a:=key (3*i) _ d.1;have b:=key (3*i+1) _ d.2.1;have c:=key (3*i+2) _ d.2.2;unfold co;omega
 have t0:=this 0;have t1:=this 1;have t2:=this 2;simp only[bd,aF];omega
def AA{a b:Int}(c:a.natAbs<=402653184)(d:b.natAbs<=402653184):(a*b).natAbs<=162129586585337856:=by rw[zLa];exact z9a c d
def yj{u v:V}(hu:bd 402653184 u)(d:bd 402653184 v):bd NB (V.cross u v):=by obtain⟨a,b,c⟩:=kQ (k:=402653184) hu;obtain⟨v1,v2,v3⟩:=kQ (k:=402653184) d;have a1:=AA b v3;have a2:=AA c v2;have a3:=AA c v1;have a4:=AA a v3;have a5:=AA a v2;have e:=AA b v1;unfold bd NB;simp only[V.cross];omega
def ZA(n:Nat){x y:Int}(hx:In x)(hy:In y)(h:In (x-y)):cA (n+5) 203 [af x,af y]=some (af (x-y)):=by
 rw[Uh];unfold Ia;refine aa (QB (n+1) (a:=some y) (aY hy)) (aa (z:=af (x-y)) ?_ rfl);have:=IP n (x:=x) (y:=-y) hx (aX.2 (by rw[zCb];exact aX.1 hy)) (by rw[<-zsd];exact h)
 rwa [<-zsd] at this
def ZW(n:Nat){u v:V}(hu:bd 402653184 u)(w:bd 402653184 v):cA (n+7) 450 [ae u,ae v]=some (g9 (V.cross u v)):=by
 obtain⟨m,o,p⟩:=kQ (k:=402653184) hu;obtain⟨v1,v2,v3⟩:=kQ (k:=402653184) w;have e:∀ {x:Int},x.natAbs<=402653184->inR x:=λ{x} h=>by simp only[inR];omega
 have l:∀ {a b:Int},a.natAbs<=402653184->b.natAbs<=402653184->In (a*b):=λf g=>by have:=AA f g;exact bC (by simp only[inR];omega)
 have is:∀ {a b c d:Int},a.natAbs<=402653184->b.natAbs<=402653184->c.natAbs<=402653184->d.natAbs<=402653184->In (a*b-c*d):=λf g hc j=>by have:=AA f g;have:=AA hc j;exact bC (by simp only[inR];omega)
 have i:∀ {a b c d:Int},a.natAbs<=402653184->b.natAbs<=402653184->c.natAbs<=402653184->d.natAbs<=402653184->cA (n+5) 61 [af a,af b]=some (af (a*b))/\cA (n+5) 61 [af c,af d]=some (af (c*d))/\cA (n+5) 203 [af (a*b),af (c*d)]=some (af (a*b-c*d)):=λf g hc j=> ⟨IX (n+2) (bC (e f)) (bC (e g)) (l f g),IX (n+2) (bC (e hc)) (bC (e j)) (l hc j),ZA n (l f g) (l hc j) (is f g hc j)⟩
 rw[ab7];unfold Nl;refine aa (NK (n+3) (e m) (e o) (e p)) (aa (NK (n+3) (e v1) (e v2) (e v3)) (aa (z:=g9 (V.cross u v)) ?_ rfl));rw[aca];delta No qB qC qJ qZ iL iR Jn;obtain⟨Z,hZ⟩:∃ Z,(D.st [(D.bool false),(D.bool false),(aw bc)])=Z:=⟨_,rfl⟩;rw[hZ];obtain⟨a1,a2,a3⟩:=i o v3 p v2;obtain⟨q,s,t⟩:=i p v1 m v3;obtain⟨d1,d2,d3⟩:=i m v2 o v1;refine bg (s':=[I 1,.st [af (V.cross u v).x,Z,Z]]) ?_ (bg (s':=[I 2,.st [af (V.cross u v).x,af (V.cross u v).y,Z]]) ?_ (bg (s':=[I 3,g9 (V.cross u v)]) ?_ (eJ (r:=(0,[g9 (V.cross u v)])) ?_ rfl)))
 ·refine j0 (.bool true) (j0 true (dT (j0 (I 1) (j0 (I 1) (j0 (I 2) (j0 (I 2) ?_))))));refine j0 1 (j0 (af u.y) (j0 2 (j0 (af v.z) (aa a1 ?_))));refine j0 2 (j0 (af u.z) (j0 1 (j0 (af v.y) (aa a2 (aa a3 ?_)))));exact j0 0 (j0 (.st [af (V.cross u v).x,Z,Z]) (j0 (I 1) rfl))
 ·refine j0 (.bool true) (j0 true (dT (j0 (I 2) (j0 (I 2) (j0 (I 3) (j0 (I 0) ?_))))));refine j0 2 (j0 (af u.z) (j0 0 (j0 (af v.x) (aa q ?_))));refine j0 0 (j0 (af u.x) (j0 2 (j0 (af v.z) (aa s (aa t ?_)))));exact j0 1 (j0 (.st [af (V.cross u v).x,af (V.cross u v).y,Z]) (j0 (I 2) rfl))
 ·refine j0 (.bool true) (j0 true (dT (j0 (I 3) (j0 (I 0) (j0 (I 4) (j0 (I 1) ?_))))));refine j0 0 (j0 (af u.x) (j0 1 (j0 (af v.y) (aa d1 ?_))));refine j0 1 (j0 (af u.y) (j0 0 (j0 (af v.x) (aa d2 (aa d3 ?_)))));exact j0 2 (j0 (g9 (V.cross u v)) (j0 (I 3) rfl))
 ·exact j0 (.bool false) (j0 false rfl)
def ZU(n:Nat){v:V}(h1:inR v.x)(h2:inR v.y)(h3:inR v.z):cA (n+3) 448 [ae v]=some (g9 v):=by rw[ab5];delta Nj qG;exact aa (pS v) (aa (zR n h1) (aa (pT v) (aa (zR n h2) (aa (pU v) (aa (zR n h3) rfl)))))
def Tg(n:Nat){v:V}(u:bd NB v):cA (n+1030) 447 [g9 v]=some (.tup [ae (aR v),I (if v=V.zero then 31 else 0)]):=by
 obtain⟨h1,h2,h3⟩:=Al u;have i0:In 0:=bC (dO 0);have g:In v.x:=bC h1;have o:In v.y:=bC h2;have p:In v.z:=bC h3;have G:∀ {x y:Int},In x->In (Nat.gcd x.natAbs y.natAbs:Nat)\/x=0:=λ{x y} hx=>by
  by_cases h:x=0
  ·exact .inr h
  ·left;rw[aX,zsa];exact zNa (Nat.le_of_dvd j1 (ztb _ _)) (aX.1 hx)
 have c:=GE n i0 g;rw[show(Nat.gcd (0:Int).natAbs v.x.natAbs)=v.x.natAbs by simp] at c
 have m:In (v.x.natAbs:Nat):=by rw[aX,zsa];exact aX.1 g
 have d:=GE n m o;rw[show(Nat.gcd ((v.x.natAbs:Nat):Int).natAbs v.y.natAbs)=Nat.gcd v.x.natAbs v.y.natAbs by simp] at d
 have i2:In (Nat.gcd v.x.natAbs v.y.natAbs:Nat):=by
  rcases G g (y:=v.y) with h|h
  ·exact h
  ·rw[h,aX,zsa];simpa using aX.1 o
 have e:=GE n i2 p;rw[show(Nat.gcd ((Nat.gcd v.x.natAbs v.y.natAbs:Nat):Int).natAbs v.z.natAbs)=br v by simp[br]] at e
 have i3:In (br v:Nat):=by
  by_cases h:Nat.gcd v.x.natAbs v.y.natAbs=0
  ·unfold br;rw[h,aX,zsa];simpa using aX.1 p
  ·rw[aX,zsa];exact zNa (Nat.le_of_dvd j1 (ztb _ _)) (by simpa using aX.1 i2)
 rw[ab4];delta Ni qG qB qC qT qN qZ iL iR Jn;refine aa (zR (n+1027) (dO 0)) ?_;refine bg (s':=[I 1,af (v.x.natAbs:Nat)]) (aa am (aa ac (aK j2 (aa JD (j0 (af v.x) (aa c (aa (aC PF) rfl))))))) ?_
 refine bg (s':=[I 2,af (Nat.gcd v.x.natAbs v.y.natAbs:Nat)]) (aa am (aa ac (aK j2 (aa JE (j0 (af v.y) (aa d (aa (aC uY) rfl))))))) ?_
 refine bg (s':=[I 3,af (br v:Nat)]) (aa am (aa ac (aK j2 (aa JF (j0 (af v.z) (aa e (aa (aC PG) rfl))))))) ?_
 refine eJ (r:=(0,[af (br v:Nat)])) (aa am (aa ac (aO j2 rfl))) ?_
 refine j0 (.bool false) (aa ac (jD (aa (sJ (n+1026) i3) ?_)));by_cases hz:br v=0
 ·have f:v=V.zero:=by
   by_cases h:v=V.zero
   ·exact h
   ·have:=fD h;omega
  rw[hz,zja f,f];exact j0 true (dT rfl)
 ·rw[zia (λh=>hz (by rw[h];rfl)),gT (show(0:Int)<br v by omega)]
  refine j0 false (jD ?_);have a:(br v:Int)≠0:=j1
  have H:=Dz (n+1023) g i3 a (ym v);have z2:=Dz (n+1023) o i3 a (yn v);have z3:=Dz (n+1023) p i3 a (yo v);obtain⟨w,C,E⟩:=fJ u;have sm:∀ {x:Int},-NB<=x/\x<=NB->cA (n+1029) 202 [af x]=some (.tup [I x,.bool true]):=λ{x} h=>by
   have t:inR x:=by simp only[NB] at h;simp only[inR];omega
   rcases zO (n+1025) (bC t) with⟨_,h⟩|⟨h,_⟩
   ·exact h
   ·exact z4a t h
  have b:∀ {x:Int} {α:Type} {A B y:Option α},-NB<=x/\x<=NB->B=y->((if(false:Bool)=true then some true else (afn .geq (I x) (D.int .i64 2305843009213693952)).bind λq=>D.truth q).bind λi=>(D.truth (D.bool i)).bind λj=>Option.bind (if j=true then some true else (afn .leq (I x) (D.int .i64 (-2305843009213693952))).bind λs=>D.truth s) λk=>(D.truth (D.bool k)).bind λl=>if l=true then A else B)=y:=λ{x α A B y} h F=>by
   simp only[NB] at h;subst F;rw[zia j2,show afn .geq (I x) (D.int .i64 2305843009213693952)=some (.bool (decide (x ≥ 2305843009213693952))) from fR,show afn .leq (I x) (D.int .i64 (-2305843009213693952))=some (.bool (decide (x<=-2305843009213693952))) from mY,zca j1,zca j1]
   rfl
  refine bg (s':=[I 1,ae V.zero,ae ⟨v.x/(br v:Nat),0,0⟩]) ?_ (bg (s':=[I 2,ae V.zero,ae ⟨v.x/(br v:Nat),v.y/(br v:Nat),0⟩]) ?_ (bg (s':=[I 3,ae V.zero,ae (aR v)]) ?_ (eJ (r:=(1,[ae V.zero,ae (aR v)])) (aa am (aa ac (aO j2 rfl))) rfl)))
  ·refine aa am (aa ac (aK j2 (aa JD (j0 (af v.x) (aa H (aa (sm w) (j0 (I (v.x/(br v:Nat))) (j0 (.bool true) (aa aV (aa ac (b w ?_)))))))))))
   exact aa JD (j0 (ae ⟨v.x/(br v:Nat),0,0⟩) (aa (aC PF) rfl))
  ·refine aa am (aa ac (aK j2 (aa JE (j0 (af v.y) (aa z2 (aa (sm C) (j0 (I (v.y/(br v:Nat))) (j0 (.bool true) (aa aV (aa ac (b C ?_)))))))))))
   exact aa JE (j0 (ae ⟨v.x/(br v:Nat),v.y/(br v:Nat),0⟩) (aa (aC uY) rfl))
  ·refine aa am (aa ac (aK j2 (aa JF (j0 (af v.z) (aa z3 (aa (sm E) (j0 (I (v.z/(br v:Nat))) (j0 (.bool true) (aa aV (aa ac (b E ?_)))))))))))
   exact aa JF (j0 (ae (aR v)) (aa (aC PG) rfl))
def R7(call:Nat->List D->Option D)(a0:D)(k:Int)(far c r:Nat):Option D:=
 (call 118 [.sl [a0]]).bind λr1=>(afB .not r1).bind λt=>(D.truth t).bind λm=>
 if m then((call 119 []).bind λo=>some o) else((call 129 [a0]).bind λp=>(D.truth (D.bool (D.beq p (D.int .i64 0)))).bind λn=>
 if n then(some a0) else(((call 217 [a0]).bind λq=>(afn .add q (D.int .i64 k)).bind λu=>(afn .gtr u (D.int .i64 512)).bind λv=>D.truth v).bind λd=>(D.truth (D.bool d)).bind λe=>
 if e then((call 119 []).bind λg=>some g) else((D.get a0 [2]).bind λi=>(D.stl (aw bc)).bind λa=>(D.stl i).bind λf=>
 (call 197 [D.st (List.take far a++(List.take c (List.drop 0 f)++List.drop 16 a)),D.int .i64 (r:Int)]).bind λb=>(D.tupAt b 0).bind λj=>(D.tupAt b 1).bind λs=>(D.get a0 [1]).bind λl=>(call 116 [l,j]).bind λh=>some h)))
def Ul(n:Nat)(a0:D):cA (n+1) 455 [a0,D.int .i64 20]=R7 (cA n) a0 20 0 16 20:=u3
def Um(n:Nat)(a0:D):cA (n+1) 455 [a0,D.int .i64 60]=R7 (cA n) a0 60 1 15 28:=u3
def Un(n:Nat)(a0:D):cA (n+1) 455 [a0,D.int .i64 120]=R7 (cA n) a0 120 3 13 24:=u3
def Uo(n:Nat)(a0:D):cA (n+1) 455 [a0,D.int .i64 240]=R7 (cA n) a0 240 7 9 16:=u3
def NX(X f i:Nat):bQ (X*2^(32*f)) i=if i<f then 0 else bQ X (i-f):=by
 rw[fk];split
 ·rename_i h;obtain⟨d,rfl⟩:∃ d,f=i+(d+1):=⟨f-i-1,j1⟩
  have e:X*2^(32*(i+(d+1)))=X*2^(32*d)*4294967296*2^(32*i):=by rw[z8a,z8a,show(4294967296:Nat)=2^32 from rfl,<-zsb,<-zsb];congr 2;omega
  rw[e,zpd _ (zza _),Nat.mul_mod_left];rfl
 ·rename_i h;obtain⟨d,rfl⟩:∃ d,i=f+d:=⟨i-f,j1⟩
  rw[fk,show f+d-f=d by omega,zac,zsb,<-z2a,zpd _ (zza _)]
def Ky(X:Nat){f c:Nat}(h:f+c=16){l m:List D}(hl:D.st l=LM 0)(hm:D.st m=LM X):D.st (List.take f l++(List.take c (List.drop 0 m)++List.drop 16 l))=LM (X*2^(32*f)):=by
 have el:l=(List.range 16).map λi=>D.int .u32 (bQ 0 i):=by injection hl
 have em:m=(List.range 16).map λi=>D.int .u32 (bQ X i):=by injection hm
 show D.st _=D.st ((List.range 16).map λi=>D.int .u32 (bQ (X*2^(32*f)) i));congr 1;subst el em;apply List.ext_getElem
 ·simp;omega
 ·intro i h1 h2;have a:i<16:=by simpa using h2
  simp only[zYc,List.getElem_range,NX];by_cases hf:i<f
  ·rw[List.getElem_append_left (by simp;omega)]
   simp only[List.getElem_take,zYc,List.getElem_range,zja hf,lw]
  ·rw[List.getElem_append_right (by simp;omega),List.getElem_append_left (by simp;omega)]
   simp only[List.getElem_take,List.drop_zero,zYc,List.getElem_range,zia hf,zkb,zxa,zxb];rw[show i-min f 16=i-f by omega]
def A1(n:Nat){x:Int}(hx:In x){k far c r:Nat}(hk:k=32*far+r)(hc:far+c=16)(s:r<=31):R7 (cA (n+3)) (af x) k far c r=some (cZ (eN (x*2^k))):=by
 unfold R7;refine aa (nH (n+1) (a:=some x) (aY hx)) (aa aV (aa ac (jD (aa (sJ n hx) ?_))));by_cases h0:x=0
 ·subst h0;rw[z5b,show eN 0=some 0 from iN (bC (dO 0))];exact j0 true (dT rfl)
 obtain⟨m,hm⟩:∃ m,m=32*16:=⟨_,rfl⟩;have q:=aX.1 hx;obtain⟨L,j,l,o⟩:=ii (x:=x.natAbs) j1
 have hL:L<m:=by
  rcases zAa L m with h|h
  ·exact h
  ·have:=(jX hm).1 q;have:=zta (show 0<2 by decide) h
   omega
 have g:(x*2^k).natAbs=x.natAbs*2^k:=by rw[zLa,Int.natAbs_pow];rfl
 refine aa (z:=false) ?_ (jD ?_)
 ·rw[show D.beq (I (sg x)) (D.int .i64 0)=decide (sg x=0) from bY,zca (λh=>h0 (eQ.1 h))];rfl
 refine aa (z:=decide (((kj x.natAbs:Nat):Int)+(k:Nat)>512)) (aa (SU n hx) (aa (aC (by rw[j];simp only[inR];omega)) (aa cK ac))) (aa ac ?_)
 by_cases hb:((kj x.natAbs:Nat):Int)+(k:Nat)>512
 ·have hn:eN (x*2^k)=none:=by
   unfold eN;rw[zia];rw[g];intro e;have h1:=(jX hm).1 e;have h2:2^(L+k)<=x.natAbs*2^k:=by rw[zsb];exact zIa _ l
   have h3:=zta (show 0<2 by decide) (show m<=L+k by omega)
   omega
  rw[zha hb,hn];exact dT (aa (zN (n+2)) rfl)
 ·have b:x.natAbs*2^k<eY:=by
   rw[jX hm];have h1:x.natAbs*2^k<2^(L+1)*2^k:=zGb o (zza _);rw[<-zsb] at h1;have h3:=zta (show 0<2 by decide) (show L+1+k<=m by omega)
   omega
  rw[zca hb,show eN (x*2^k)=some (x*2^k) by unfold eN;rw[zja (by rw[g];exact b)]]
  have p:x.natAbs*2^(32*far)*2^r=x.natAbs*2^k:=by rw[z8a,<-zsb,hk]
  have d:x.natAbs*2^(32*far)<eY:=by have:=z6c (x.natAbs*2^(32*far)) (zza r);omega
  refine jD (aa (z:=LM x.natAbs) (by rw[cQ];rfl) ?_)
  refine aa (z:=(List.range 16).map λi=>D.int .u32 (bQ 0 i)) (by rw[gL];rfl) (j0 ((List.range 16).map λi=>D.int .u32 (bQ x.natAbs i)) ?_)
  rw[Ky x.natAbs hc rfl rfl];refine aa (Qm (n+2) d s) (j0 (LM (x.natAbs*2^(32*far)*2^r)) (j0 _ (aa (z:=.bool (decide (x<0))) (by rw[cQ];rfl) ?_)))
  rw[p];refine aa (uD (n+2) _ b) ?_;congr 1;unfold sgn;show af _=af (x*2^k);congr 1;have f:((x.natAbs*2^k:Nat):Int)=(x.natAbs:Int)*2^k:=by rw[zYa,Int.natCast_pow];rfl
  by_cases hs:x<0
  ·rw[zha hs,zja rfl,f,<-Int.neg_mul];congr 1;omega
  ·rw[zca hs,zia j2,f]
   congr 1;omega
def IY(k:Nat):Prop:=k=20\/k=60\/k=120\/k=240
def Qz(n:Nat){x:Int}(hx:In x){k:Nat}(hk:IY k):cA (n+4) 455 [af x,I (k:Int)]=some (cZ (eN (x*2^k))):=by
 rcases hk with rfl|rfl|rfl|rfl
 ·exact(Ul (n+3) _).trans (A1 n hx (k:=20) j2 j2 j2)
 ·exact(Um (n+3) _).trans (A1 n hx (k:=60) j2 j2 j2)
 ·exact(Un (n+3) _).trans (A1 n hx (k:=120) j2 j2 j2)
 ·exact(Uo (n+3) _).trans (A1 n hx (k:=240) j2 j2 j2)
def SR(n:Nat){y:Int}(hy:In y):cA (n+3) 172 [nF,af y]=some (.tup [nF,nF]):=by rw[RD];delta Gw qG qB qT qN Jn;exact aa (sH n (a:=none) (b:=some y) fZ (aY hy)) (aa aV (aa ac (j0 true (aa ac (dT (aa (zN (n+1)) (aa (zN (n+1)) rfl)))))))
def Pg(n:Nat){y:Int}(hy:In y):cA (n+4) 132 [nF,af y]=some nF:=by rw[RC];unfold Gv;exact aa (SR n hy) (j0 nF (j0 nF rfl))
def uH(k:Nat)(a:Option Rat):Option Rat:=a.bind λq=>(eN (q.num*2^k)).map λs=>Rat.divInt (s/q.den) (2^k)
def AK{k:Nat}(hk:IY k):In ((1:Int)*2^k)/\(1:Int)*2^k=2^k/\(2:Int)^k≠0/\(k:Int)<=256:=by
 refine⟨fj (k:=k) ?_ ?_,znc _,?_,?_⟩
 ·rcases hk with rfl|rfl|rfl|rfl<;>decide
 ·rw[znc,Int.natAbs_pow];exact zka _
 ·have:=zbd (n:=2) (m:=k) j2;omega
 ·rcases hk with rfl|rfl|rfl|rfl<;>decide
def QM{k:Nat}(hk:IY k){a:Option Rat}(e:OW a):OW (uH k a):=by
 cases a with
 | none=>exact iJ
 | some q=>
  obtain⟨b,c,d,_⟩:=AK hk;unfold uH;simp only[zba];have hn:=rD (q.num*2^k);cases h:eN (q.num*2^k) with
  | none=>exact iJ
  | some s=> rw[h] at hn;exact bS (dh (jk hn.some _) (c ▸ b) d)
def Qx(n:Nat){a:Option Rat}(i:OW a){k:Nat}(hk:IY k):∃ C,cA (n+1031) 444 [a7 a,I (k:Int)]=some (.tup [a7 (uH k a),C]):=by
 obtain⟨o,p,g,H⟩:=AK hk;rw[ab1];delta Nf qG qB qT qN Jn;cases a with
 | none=> refine⟨Ir,?_⟩;exact aa (gC n (a:=none) iJ) (aa aV (aa ac (j0 true (aa ac (j0 true (aa ac (dT (aa (uE (n+1026)) (aa (uE (n+1026)) rfl)))))))))
 | some q=>
 have hq:=i.some;have j:0<(q.den:Int):=by have:=q.den_pos;omega
 have hn:=rD (q.num*2^k);have head:∀ {α:Type} {A B:Option α} {Y:Option α},B=Y->((cA (n+1030) 136 [a7 (some q)]).bind λr1=>(afB .not r1).bind λE=>(D.truth E).bind λr=>Option.bind (if r=true then some true else (afn .lss (I (k:Int)) (D.int .i64 0)).bind λF=>D.truth F) λt=>(D.truth (D.bool t)).bind λu=>
   Option.bind (if u=true then some true else (afn .gtr (I (k:Int)) (D.int .i64 256)).bind λG=>D.truth G) λv=>(D.truth (D.bool v)).bind λw=>if w=true then A else B)=Y:=λ{α A B Y} y=>by
  subst y;rw[show cA (n+1030) 136 [a7 (some q)]=_ from gC n i];rw[zba,aV,zba,ac,zba];rw[show(!(some q).isSome)=false from rfl,zia j2,show afn .lss (I (k:Int)) (D.int .i64 0)=some (.bool (decide ((k:Int)<0))) from am,zba,ac,zba,zca j1,ac,zba,zia j2,show afn .gtr (I (k:Int)) (D.int .i64 256)=some (.bool (decide ((k:Int)>256))) from cK,zba,ac,zba,zca j1,ac,zba,zia j2]
 have f:=Qz (n+1026) (x:=1) (bC (dO 1)) hk;rw[iN o,p] at f;have c:In ((2:Int)^k):=p ▸ o;unfold uH;rw[zba];cases h:eN (q.num*2^k) with
 | none=> have d:=Qz (n+1026) hq.1 hk;rw[h] at d;refine⟨Ir,head (j0 (af q.num) (aa d (aa (IF (n+1027)) (aa f (j0 (af (q.den:Int)) (aa (Pg (n+1026) hq.2) (aa (GG n (a:=none) (b:=some (2^k)) fZ (aY c)) ?_)))))))⟩;refine aa (QB (n+1027) (a:=none) fZ) (j0 (af (q.den:Int)) (aa (Pg (n+1026) hq.2) (aa (QB (n+1027) (a:=none) fZ) (aa (GG n (a:=none) (b:=some (2^k)) fZ (aY c)) ?_))));exact aa (gC n (a:=none) iJ) (aa aV (aa ac (j0 true (aa ac (dT (aa (uE (n+1026)) (aa (uE (n+1026)) rfl)))))))
 | some s=>
  rw[h] at hn;have hs:=hn.some;have d:=Qz (n+1026) hq.1 hk;rw[h] at d;have e:In (-s):=aX.2 (by rw[zCb];exact aX.1 hs)
  have i1:=jk hs (q.den:Int);have i2:=jk e (q.den:Int);have i3:In (-((-s)/(q.den:Int))):=aX.2 (by rw[zCb];exact aX.1 i2)
  have l:=GG n (a:=some (s/(q.den:Int))) (b:=some (2^k)) (aY i1) (aY c);have m:=GG n (a:=some (-((-s)/(q.den:Int)))) (b:=some (2^k)) (aY i3) (aY c);rw[ru g] at l m;refine⟨a7 (some (Rat.divInt (-((-s)/(q.den:Int))) (2^k))),head (j0 (af q.num) (aa d (aa (IF (n+1027)) (aa f (j0 (af (q.den:Int)) (aa (tS (n+1023) hs hq.2 j) (aa l ?_)))))))⟩;refine aa (QB (n+1027) (a:=some s) (aY hs)) (j0 (af (q.den:Int)) (aa (tS (n+1023) e hq.2 j) (aa (QB (n+1027) (a:=some ((-s)/(q.den:Int))) (aY i2)) (aa m ?_))));exact aa (gC n (a:=some _) (bS (dh i1 c g))) (aa aV (aa ac (aa (z:=false) (jD (aa (gC n (a:=some _) (bS (dh i3 c g))) (aa aV ac))) (aa ac (jD rfl)))))
def ED(r:Option Rat)(v:WV):WV:=λi=>mulW r (v i)
def Gl(r:Option Rat)(v:WV):tR (ED r v):=λi=>mJ _ _
def Tf(n:Nat){r:Option Rat}(g:OW r){v:WV}(h:tR v):cA (n+1032) 445 [a7 r,a8 v]=some (a8 (ED r v)):=by
 rw[ab2];delta Ng qB qC qJ qZ iL iR Jn;refine uf (l0:=[a7 (v 0),a7 (v 1),a7 (v 2)]) (λi=>a7 (ED r v i)) rfl (λi c l hl f=>?_) (λl=>aa am (aa ac (aO j2 rfl))) rfl
 have d:D.get (.st l) [i]=some (a7 (v i)):=by
  have e:=f i (zka _);have:i=0\/i=1\/i=2:=j1
  rcases this with rfl|rfl|rfl<;>simp[D.get,D.fld,e]
 exact aa am (aa ac (aK (by show(i:Int)<3;omega) (aa (aq c) (aa d (aa (E4 n g (h i)) (aa (aq c) (aa (og j1) (aa (aH (a:=i) (b:=1) j1) rfl))))))))
def SW(n:Nat){a b:Int}(c:inR a)(d:inR b)(h0:b≠0):cA (n+1031) 333 [I a,I b]=some (g8 (Rat.divInt a b)):=by rw[abo];unfold Mu;exact aa (zR (n+1028) c) (aa (zR (n+1028) d) (aa (QA n (bC c) (bC d) h0) rfl))
def rG(x:V)(q:Nat->Int)(l:List V)(k:Nat):WV:=λi=>some (Rat.divInt (aJ (ko x q (pt l k)) i) (ay q))
def Rl{x:V}{q:Nat->Int}(h:PoseOk x q){l:List V}(hl:∀ v∈l,bd 4096 v){k:Nat}(hk:k<l.length):tR (rG x q l k):=λi=>by obtain⟨h1,h2,h3⟩:=Am (wS h (hl _ (fW hk)));exact bS (dh (bC (jT h1 h2 h3 i)) (bC (oa h).1) (oa h).2)
def Qy(n:Nat){x:V}{q:Nat->Int}(h:PoseOk x q){l:List V}(hl:∀ v∈l,bd 4096 v){k:Nat}(hk:k<l.length):cA (n+1032) 454 [ga x q l,I (k:Int)]=some (a8 (rG x q l k)):=by
 obtain⟨h1,h2,h3⟩:=Am (wS h (hl _ (fW hk)));rw[ab9];delta Nn qG qB qC qY qZ iL iR Jn;have d:(((l.map (ko x q)).map ae)[k]?)=some (ae (ko x q (pt l k))):=by rw[zmb,zmb,zda hk];unfold pt;rw[zab,zda hk];rfl
 refine j0 (bu (l.map (ko x q))) (j0 ((l.map (ko x q)).map ae) (aa (z:=k) (by rw[aS,zxa];exact aq hk) (aa d ?_)))
 obtain⟨Z,hZ⟩:∃ Z,D.st [D.st [D.bool false,D.bool false,aw bc],D.st [D.bool false,D.bool false,aw bc]]=Z:=⟨_,rfl⟩;rw[hZ];refine uf (l0:=[Z,Z,Z]) (λi=>a7 (rG x q l k i)) rfl (λi c l' hl' e=>?_) (λl=>aa am (aa ac (aO j2 rfl))) rfl
 exact aa am (aa ac (aK (by show(i:Int)<3;omega) (aa (aq c) (aa (qR c) (j0 (I (ay q)) (aa (SW n (jT h1 h2 h3 i) (oa h).1 (oa h).2) (aa (aq c) (aa (og j1) (aa (aH (a:=i) (b:=1) j1) rfl)))))))))
theorem KnF.eq{l:List V}{F G:FL}(hs:Ij l)(h:KnF l l.length 0 0 F)(k:KnF l l.length 0 0 G):F=G:=by
 have e:F.map Prod.fst=G.map Prod.fst:=Facets.eq h.facets k.facets;have el:F.length=G.length:=by have:=zna List.length e;simpa using this
 refine List.ext_getElem el λi h1 h2=>?_;have b:F[i].1=G[i].1:=by
  have h3:(F.map Prod.fst)[i]?=(G.map Prod.fst)[i]?:=by rw[e]
  simpa [zmb,zda h1,zda h2] using h3
 obtain⟨a1,a2⟩:=h.fok.ok F[i] (zBa h1);obtain⟨c,a⟩:=k.fok.ok G[i] (zBa h2);rw[<-b] at a;exact Prod.ext b (bU.eq hs a1 a2 a)
structure Fac(l:List V)(F:FL)(E:List (Nat×Nat)):Prop where
 kn:KnF l l.length 0 0 F
 fb:xE F
 e:E=uB F l.length l.length
 el:E.length<=10000
 lt:∀ e∈E,e.1<l.length/\e.2<l.length
 h18:∀ m,cA (m+8) 18 [cl l]=some (.sl (aZ F))
 h19:∀ m,cA (m+8) 19 [cl l]=some (.sl (aZ F))
 h21:∀ m,cA (m+9) 21 [cl l]=some (.sl (E.map jq))
def Pf{l:List V}(hl:∀ x∈l,bd 4096 x)(hlen:l.length<=64)(hs:Ij l):∃ F E,Fac l F E:=by
 have hl':∀ x∈l,bd MV x:=λx hx=>EY (hl x hx) j2
 obtain⟨F,E,f1,f2,f3,_,_,_,f4⟩:=SE 0 hl' (show l.length<=100 by omega) hs
 have all:∀ m,cA (m+8) 18 [cl l]=some (.sl (aZ F))/\cA (m+8) 19 [cl l]=some (.sl (aZ F))/\cA (m+9) 21 [cl l]=some (.sl (E.map jq)):=λm=>by
  obtain⟨F',E',g1,g2,g3,g5,g6,g7,g4⟩:=SE m hl' (show l.length<=100 by omega) hs
  have:=f3.eq hs g3;subst this;rw[f4,<-g4];exact⟨g5,g6,g7⟩
 refine⟨F,E,f3,⟨zHa f1 j2,λf hf=>GW hl (f3.fok.ok f hf).1⟩,f4,f2,λe he=>?_,λm=>(all m).1,λm=>(all m).2.1,λm=>(all m).2.2⟩
 rw[f4] at he;have:=wE.1 he;exact⟨this.1,this.2.1⟩
def np(q:Nat->Int)(l:List V)(e:Nat×Nat):V:=aF q ((pt l e.2).sub (pt l e.1))
def Dd{l:List V}(hl:∀ x∈l,bd 4096 x){i j:Nat}(a:i<l.length)(b:j<l.length):bd 8192 ((pt l j).sub (pt l i)):=kR (hl _ (fW b)) (hl _ (fW a))
def Aa{q:Nat->Int}(h:xY q){l:List V}(hl:∀ x∈l,bd 4096 x){e:Nat×Nat}(he:e.1<l.length/\e.2<l.length):bd 402653184 (np q l e):=Dm (k:=8192) h (Dd hl he.1 he.2)
def T5{α:Type}{E:List α}(g:α->D){i:Nat}(a:i<E.length):((E.take i).map g)++[g E[i]]=(E.take (i+1)).map g:=by rw[List.take_add_one,zda a];simp only[Option.toList_some,zXb,zjb,zrd]
def TE{E:List (Nat×Nat)}{i:Nat}(a:i<E.length):(E.map jq)[i]?=some (jq E[i]):=by simp[a]
def Th(n:Nat){x:V}{q:Nat->Int}(h:PoseOk x q){l:List V}(hl:∀ v∈l,bd 4096 v){F:FL}{E:List (Nat×Nat)}(hF:Fac l F E):cA (n+10) 449 [ga x q l]=some (.sl (E.map λe=>ae (np q l e))):=by
 rw[ab6];delta Nk qG qB qC qS qX qV qW qZ iL iR Jn;refine j0 (cl l) (aa (hF.h21 n) (j0 (E.map jq) ?_));refine cr (λi s=>s=[.sl ((E.take i).map λe=>ae (np q l e)),I (i:Int)]) E.length 0 (zqa _) rfl (λi c s d=>?_) (λs d=>?_)
 ·subst d;left;obtain⟨h1,h2⟩:=hF.lt E[i] (zBa c);have f:=hF.el;refine⟨_,?_,rfl⟩;rw[<-T5 (λe=>ae (np q l e)) c];refine aa am (aa ac (aK (by rw[lM];omega) ?_))
  refine j0 (E.map jq) (aa (z:=i) (by rw[lM];exact aq c) (aa (TE c) ?_))
  refine j0 (gZ q) (j0 (bu l) (j0 (I (E[i].2:Int)) (j0 (l.map ae) (aa (z:=E[i].2) (by rw[aS];exact aq h2) (aa (tD h2) ?_)))))
  refine j0 (bu l) (j0 (I (E[i].1:Int)) (j0 (l.map ae) (aa (z:=E[i].1) (by rw[aS];exact aq h1) (aa (tD h1) ?_))))
  refine aa (Iz (n+7) (hl _ (fW h2)) (hl _ (fW h1)) j2) (aa (z:=ae (np q l E[i])) (E6 (n+6) h.hq (EY (Dd hl h1 h2) j2)) ?_)
  obtain⟨L,hL⟩:∃ L,((E.take i).map λe=>ae (np q l e))=L:=⟨_,rfl⟩;rw[hL];have hn:List.length (D.els (.sl L))+List.length [ae (np q l E[i])]<=1073741824:=by rw[<-hL];show((E.take i).map _).length+1<=_;simp;omega
  refine(zja hn).trans ?_;exact aa (aH (a:=i) (b:=1) j1) rfl
 ·subst d;refine⟨_,aa am (aa ac (aO (by rw[lM];omega) rfl)),?_⟩
  rw[zgb (zka _)];rfl
def jx(mg vl:V->Rat)(S:Option (V×Rat))(u:V):Option (V×Rat):=
 if mg u<0 then S else match S with
  | none=>some (u,vl u)
  | some p=>if p.2<vl u then some (u,vl u) else some p
def me(mg vl:V->Rat)(T:List V×Option (V×Rat))(u:V):List V×Option (V×Rat):=if u=V.zero\/u∈T.1 then T else(T.1++[u],jx mg vl T.2 u)
def o8(mg vl:V->Rat)(R:List V):List V×Option (V×Rat):=R.foldl (me mg vl) ([],none)
def w8(mg vl:V->Rat)(R:List V)(u:V):o8 mg vl (R++[u])=me mg vl (o8 mg vl R) u:=by simp[o8]
def Cp{P:List V->Prop}(h0:P [])(h1:∀ R u,P R->P (R++[u]))(R:List V):P R:=by
 have key:∀ R:List V,P R.reverse:=λR=>by
  induction R with
  | nil=>exact h0
  | cons u R ih=>rw[List.reverse_cons];exact h1 _ _ ih
 have:=key R.reverse
 rwa [List.reverse_reverse] at this
def Jg(q:Nat->Int)(F:FL):List V:=F.map λf=>aR (aF q f.1.1)
def Li(q r:Nat->Int)(l m:List V)(E:List (Nat×Nat))(e:Nat×Nat):List V:=E.flatMap λf=>[aR (V.cross (np q l e) (np r m f)),(aR (V.cross (np q l e) (np r m f))).neg]
def xS(q r:Nat->Int)(l m:List V)(F G:FL)(E E':List (Nat×Nat)):List V:=(Jg q F++(Jg r G).map V.neg)++E.flatMap (Li q r l m E')
def tC{v:V}:aR v=V.zero↔v=V.zero:=wR
def wL{v:V}:v.neg=V.zero↔v=V.zero:=by obtain⟨x,y,z⟩:=v;simp only[V.neg,V.zero,V.mk.injEq];omega
def Ae{q:Nat->Int}(h:xY q){F:FL}(hF:xE F){f:(V×Int)×List Nat}(hf:f∈F):bd NB (aF q f.1.1):=
 EY (Dm (k:=549755813888) h (hF.2 f hf).1) j2
def mD(u:V):D:=.st [ae u,.bool true]
theorem Ct:∀ (K:List V) (u:V),Option.getD (afu (K.map mD) (ae u)) (D.bool false)=.bool (decide (u∈K))
 | [],u=>rfl
 | k::K,u=>by
  show Option.getD (if D.beq (ae u) (ae k)=true then some (D.bool true) else afu (K.map mD) (ae u)) (D.bool false)=_
  rw[ks];by_cases h:u=k
  ·subst h;simp
  ·rw[zia (by simpa using h),Ct K u]
   simp[h]
theorem rz:∀ (K:List V) (u:V),u ∉ K->afv (K.map mD) (ae u) (.bool true)=(K++[u]).map mD
 | [],u,_=>rfl
 | k::K,u,h=>by
  simp only[zEa,not_or] at h;show(if D.beq (ae u) (ae k)=true then _ else D.st [ae k,.bool true]::afv (K.map mD) (ae u) (.bool true))=_
  rw[ks,zia (by simpa using h.1),rz K u h.2]
  rfl
def zrD:D:=.st [.st [.bool false,.bool false,aw bc],.st [.bool false,.bool false,aw bc]]
def HO:D:=.st [ae V.zero,zrD]
def jK(a:V->Rat):Option (V×Rat)->D
 | none=>HO
 | some p=>.st [ae p.1,g8 (a p.1)]
def iU:Option (V×Rat)->D
 | none=>zrD
 | some p=>g8 p.2
section
variable{x y:V}{q r:Nat->Int}{l m:List V}
def SD(n:Nat)(h:PairOk x y q r l m){u:V}(hu:bd NB u)(h0:u≠V.zero){S:Option (V×Rat)}(L:∀ p,S=some p->InR p.2){α:Type}{A:Option α}{B:D->D->Option α}{Y:Option α}
  (G:jx (λu=>kG u x y q r l m) (λu=>Bn u x y q r l m) S u=S->A=Y)
  (K:jx (λu=>kG u x y q r l m) (λu=>Bn u x y q r l m) S u=some (u,Bn u x y q r l m)->B (g8 (NY u x y q r l m)) (g8 (Bn u x y q r l m))=Y) :
  ((cA (n+1033) 434 [ae u,ga x q l,ga y r m]).bind λa=>(cA (n+1033) 342 [a]).bind λs=>(afn .lss s (D.int .i64 0)).bind λE=>(D.truth E).bind λi=>
   if i=true then A else (cA (n+1033) 174 [a,a]).bind λt=>(cA (n+1033) 91 [ae u,ae u]).bind λv=>(cA (n+1033) 54 [D.int .i64 1]).bind λw=>(cA (n+1033) 62 [v,w]).bind λz=>(cA (n+1033) 352 [t,z]).bind λf=>
   (D.truth (D.bool S.isSome)).bind λj=>Option.bind (if j=true then (cA (n+1033) 73 [f,iU S]).bind λC=>(afn .leq C (D.int .i64 0)).bind λF=>D.truth F else some false) λk=>(D.truth (D.bool k)).bind λo=>
   if o=true then A else (cA (n+1033) 435 [ga x q l,ae u]).bind λb=>(cA (n+1033) 74 [D.int .i64 2]).bind λc=>(cA (n+1033) 352 [a,c]).bind λd=>(cA (n+1033) 173 [b,d]).bind λe=>B e f)=Y:=by
 have hm:=JM h hu;have sm:=pX h hu;have g:OW (some (kG u x y q r l m)):=bS (sm.InR j2 j2)
 have N:=KV h hu h0;have M:OW (some (Bn u x y q r l m)):=bS (N.InR j2 j2)
 obtain⟨v1,v2⟩:=acf h hu h0;have dd:=Z8 h hu;have zP:=ZP n h hu;rw[hm] at zP;have i1:In (V.dot u u):=(pN hu (ER hu)).2.2.2.2;rw[zP,zba,show cA (n+1033) 342 [a7 (some (kG u x y q r l m))]=some (I (C6 (some (kG u x y q r l m)))) from Qo (n+2) g,zba,
  show afn .lss (I (C6 (some (kG u x y q r l m)))) (D.int .i64 0)=some (.bool (decide (C6 (some (kG u x y q r l m))<0))) from am,zba,ac,zba,Ru]
 by_cases hneg:kG u x y q r l m<0
 ·rw[zha hneg,zja rfl];exact G (by unfold jx;rw[zja hneg])
 ·rw[zca hneg,zia j2]
  have H:cA (n+1033) 62 [af (V.dot u u),af 1]=some (a7 (some ((V.dot u u:Int):Rat))):=by
   have:=QA (n+3) i1 (bC (dO 1)) (show(1:Int)≠0 by decide)
   rw[div_one] at this;exact this
  rw[show cA (n+1033) 174 [a7 (some (kG u x y q r l m)),a7 (some (kG u x y q r l m))]=_ from E4 (n+2) g g,v1,zba,show cA (n+1033) 91 [ae u,ae u]=_ from QF (n+1027) hu (ER hu),zba,
   show cA (n+1033) 54 [D.int .i64 1]=some (af 1) from zR (n+1031) (dO 1),zba,H,zba,
   show cA (n+1033) 352 [a7 (some (kG u x y q r l m*kG u x y q r l m)),a7 (some ((V.dot u u:Int):Rat))]=_ from IH (n+1) (bS ((sm.mul sm).InR j2 j2)) (bS (tP i1)),v2,zba,ac,zba]
  have tail:jx (λu=>kG u x y q r l m) (λu=>Bn u x y q r l m) S u=some (u,Bn u x y q r l m)->((cA (n+1033) 435 [ga x q l,ae u]).bind λb=>(cA (n+1033) 74 [D.int .i64 2]).bind λc=>(cA (n+1033) 352 [a7 (some (kG u x y q r l m)),c]).bind λd=>(cA (n+1033) 173 [b,d]).bind λe=>B e (a7 (some (Bn u x y q r l m))))=Y:=λhs=>by
   have J:cA (n+1033) 74 [D.int .i64 2]=some (a7 (some ((2:Int):Rat))):=Pp (n+1) (dO 2);rw[show cA (n+1033) 435 [ga x q l,ae u]=some (a7 (some (da u x q l))) from IK (n+2) hu h.pa h.la h.na h.ka,zba,J,zba,
    show cA (n+1033) 352 [a7 (some (kG u x y q r l m)),a7 (some ((2:Int):Rat))]=_ from IH (n+1) g (bS (tP (bC (dO 2)))),zba,
    show cA (n+1033) 173 [a7 (some (da u x q l)),a7 (vN (some (kG u x y q r l m)) (some ((2:Int):Rat)))]=_ from BA (n+2) (bS (jZ hu h.pa h.la h.na)) (Fi _ _),dd,zba]
   exact K hs
  cases S with
  | none=>
   rw[show(none:Option (V×Rat)).isSome=false from rfl,zia j2,zba,ac,zba,zia j2]
   exact tail (by unfold jx;rw[zia hneg])
  | some p=>
   have op:OW (some p.2):=bS (L p rfl);rw[show(some p:Option (V×Rat)).isSome=true from rfl,zja rfl,show iU (some p)=a7 (some p.2) from rfl,show cA (n+1033) 73 [a7 (some (Bn u x y q r l m)),a7 (some p.2)]=_ from IM (n+2) M op,zba,
    show afn .leq (I (gt (some (Bn u x y q r l m)) (some p.2))) (D.int .i64 0)=some (.bool (decide (gt (some (Bn u x y q r l m)) (some p.2)<=0))) from mY,zba,ac,zba,ac,zba,Pr]
   by_cases hc:p.2<Bn u x y q r l m
   ·rw[zha hc,zia j2]
    exact tail (by unfold jx;rw[zia hneg];simp only[hc,if_true])
   ·rw[zca hc,zja j2]
    exact G (by unfold jx;rw[zia hneg];simp only[hc,if_false])
end
def Rz{v u:V}(f:u=V.zero↔v=V.zero){K:List V}{e:D}{kn:List D}{w:D}(he:e=I (if v=V.zero then 31 else 0))(hk:kn=K.map mD)(hw:w=ae u){α:Type}{A B Y:Option α}(d:u=V.zero\/u∈K->A=Y)(g:¬ (u=V.zero\/u∈K)->B=Y) :
  ((D.truth (D.bool (!(D.beq e (D.int .i64 0))))).bind λa=>Option.bind (if a=true then some true else D.truth (Option.getD (afu kn w) (D.bool false))) λb=>(D.truth (D.bool b)).bind λc=>if c=true then A else B)=Y:=by
 subst he hk hw;rw[Ct];by_cases h:v=V.zero
 ·rw[zja h];exact d (.inl (f.2 h))
 ·rw[zia h];show(if decide (u∈K)=true then A else B)=Y
  by_cases hm:u∈K
  ·rw[zha hm];exact d (.inr hm)
  ·rw[zca hm];exact g (λi=>i.elim (λj=>h (f.1 j)) hm)
def Jt{α:Type}{A B y:α}(h:B=y):(if(1:Nat)=0 then A else B)=y:=h
def ON(k:Nat)(u:V):V:=if 1-2*(k:Int)<0 then u.neg else u
def Kx{k:Nat}{u:V}:ON k u=V.zero↔u=V.zero:=by
 unfold ON;split
 ·exact wL
 ·simp_all
def Ga{mg vl:V->Rat}(R:List V):(∀ u∈(o8 mg vl R).1,u∈R/\u≠V.zero)/\∀ p,(o8 mg vl R).2=some p->p.1∈R/\p.1≠V.zero/\¬ mg p.1<0/\p.2=vl p.1:=by
 refine Cp (P:=λR=>(∀ u∈(o8 mg vl R).1,u∈R/\u≠V.zero)/\∀ p,(o8 mg vl R).2=some p->p.1∈R/\p.1≠V.zero/\¬ mg p.1<0/\p.2=vl p.1) ⟨λu hu=>(by cases hu),λp hp=>(by cases hp)⟩ (λR u ih=>?_) R
 obtain⟨i1,i2⟩:=ih;rw[w8];unfold me;split
 ·exact⟨λw hw=>⟨List.mem_append_left _ (i1 w hw).1,(i1 w hw).2⟩,λp hp=>⟨List.mem_append_left _ (i2 p hp).1,(i2 p hp).2⟩⟩
 ·rename_i hn;have a:u≠V.zero:=λh=>hn (.inl h);refine⟨λw hw=>?_,λp hp=>?_⟩
  ·rcases List.mem_append.1 hw with hw|hw
   ·exact⟨List.mem_append_left _ (i1 w hw).1,(i1 w hw).2⟩
   ·rw[zKa.1 hw];exact⟨j3,a⟩
  ·have old:(o8 mg vl R).2=some p->p.1∈R++[u]/\p.1≠V.zero/\¬ mg p.1<0/\p.2=vl p.1:=λh=>⟨List.mem_append_left _ (i2 p h).1,(i2 p h).2⟩;dsimp only[jx] at hp;split at hp
   ·exact old hp
   ·rename_i hm;split at hp
    ·cases hp;exact⟨j3,a,hm,rfl⟩
    ·rename_i b e;split at hp
     ·cases hp;exact⟨j3,a,hm,rfl⟩
     ·cases hp;exact old e
def jQ{α β:Type}{E:List α}{g:α->List β}{k:Nat}(h:∀ e∈E,(g e).length<=k):(E.flatMap g).length<=E.length*k:=by
 induction E with
 | nil=>simp
 | cons a E ih=> rw[List.flatMap_cons,zwa,zQa,zhb,zGc];grind
def oF{α β:Type}{E:List α}(g:α->List β){i:Nat}(a:i<E.length):(E.take (i+1)).flatMap g=(E.take i).flatMap g++g E[i]:=by rw[List.take_add_one,zda a];simp only[Option.toList_some,List.flatMap_append,List.flatMap_cons,List.flatMap_nil,zzb]
section
variable{x y:V}{q r:Nat->Int}{l m:List V}{F G:FL}{E E':List (Nat×Nat)}
def F5(h:PairOk x y q r l m)(hl:Fac l F E)(hm:Fac m G E'):∀ u∈xS q r l m F G E E',bd NB u:=by
 intro u hu;rcases List.mem_append.1 hu with hu|hu
 ·rcases List.mem_append.1 hu with hu|hu
  ·obtain⟨f,hf,rfl⟩:=zSa.1 hu;exact fJ (Ae h.pa.hq hl.fb hf)
  ·obtain⟨w,hw,rfl⟩:=zSa.1 hu;obtain⟨f,hf,rfl⟩:=zSa.1 hw;exact kZ (fJ (Ae h.pb.hq hm.fb hf))
 ·obtain⟨e,he,hu⟩:=zUa.1 hu;obtain⟨f,hf,hu⟩:=zUa.1 hu;have a:=fJ (yj (Aa h.pa.hq h.la (hl.lt e he)) (Aa h.pb.hq h.lb (hm.lt f hf)));simp only[zEa,zxc,or_false] at hu;rcases hu with rfl|rfl
  ·exact a
  ·exact kZ a
def fX(x y:V)(q r:Nat->Int)(l m:List V)(R:List V):List V×Option (V×Rat):=o8 (λu=>kG u x y q r l m) (λu=>Bn u x y q r l m) R
def Kw(x y:V)(q r:Nat->Int)(l m:List V)(R:List V)(u:V):fX x y q r l m (R++[u])=me (λu=>kG u x y q r l m) (λu=>Bn u x y q r l m) (fX x y q r l m R) u:=w8 ..
def OL(h:PairOk x y q r l m){R:List V}(a:∀ u∈R,bd NB u):∀ p,(fX x y q r l m R).2=some p->InR p.2:=λp hp=>by obtain⟨h1,h2,_,h3⟩:=(Ga R).2 p hp;rw[h3];exact(KV h (a _ h1) h2).InR j2 j2
def ZK(n:Nat)(h:PairOk x y q r l m)(hl:Fac l F E)(hm:Fac m G E') :
  cA (n+1034) 416 [cL x q,cl l,cL y r,cl m]=some (.tup [jK (λu=>NY u x y q r l m) (fX x y q r l m (xS q r l m F G E E')).2,.bool (fX x y q r l m (xS q r l m F G E E')).2.isSome]):=by
 rw[abJ];delta MP qG qB qC qT qN qS qX qV qW qZ iL iR Jn;obtain⟨P1,e1⟩:∃ P1,P1=ga x q l:=⟨_,rfl⟩;obtain⟨P2,e2⟩:∃ P2,P2=ga y r m:=⟨_,rfl⟩;obtain⟨c,aj⟩:∃ c:V->Rat,c=λu=>NY u x y q r l m:=⟨_,rfl⟩;rw[<-aj];obtain⟨mg,ak⟩:∃ mg:V->Rat,mg=λu=>kG u x y q r l m:=⟨_,rfl⟩;obtain⟨vl,al⟩:∃ vl:V->Rat,vl=λu=>Bn u x y q r l m:=⟨_,rfl⟩;have app:∀ R u,fX x y q r l m (R++[u])=me mg vl (fX x y q r l m R) u:=λR u=>by rw[ak,al];exact Kw ..
 refine aa (z:=P1) (by rw[e1];exact GF (n+1029) h.pa h.la h.ka) (aa (z:=P2) (by rw[e2];exact GF (n+1029) h.pb h.lb h.kb) ?_)
 have hR:=F5 h hl hm;obtain⟨T,hT⟩:∃ T,fX x y q r l m (xS q r l m F G E E')=T:=⟨_,rfl⟩;rw[hT];refine aa (z:=(0,[HO,P1,P2,jK c T.2,iU T.2,.bool T.2.isSome])) ?_ rfl;have body:∀ (R:List V) (u:V),(∀ w∈R++[u],bd NB w)->∀ {α:Type} {K:List V} {S:Option (V×Rat)} {A:Option α} {B:D->D->Option α} {Y:Option α},(fX x y q r l m R)=(K,S)->u≠V.zero ->
   (jx mg vl S u=S->A=Y)->(jx mg vl S u=some (u,vl u)->B (g8 (c u)) (g8 (vl u))=Y) ->
   ((cA (n+1033) 434 [ae u,P1,P2]).bind λL=>(cA (n+1033) 342 [L]).bind λbi=>(afn .lss bi (D.int .i64 0)).bind λbL=>(D.truth bL).bind λa0=>
   if a0=true then A else (cA (n+1033) 174 [L,L]).bind λbj=>(cA (n+1033) 91 [ae u,ae u]).bind λbk=>(cA (n+1033) 54 [D.int .i64 1]).bind λbl=>(cA (n+1033) 62 [bk,bl]).bind λbm=>(cA (n+1033) 352 [bj,bm]).bind λaI=>
   (D.truth (D.bool S.isSome)).bind λa1=>Option.bind (if a1=true then (cA (n+1033) 73 [aI,iU S]).bind λbn=>(afn .leq bn (D.int .i64 0)).bind λbM=>D.truth bM else some false) λa2=>(D.truth (D.bool a2)).bind λa3=>
   if a3=true then A else (cA (n+1033) 435 [P1,ae u]).bind λbs=>(cA (n+1033) 74 [D.int .i64 2]).bind λbt=>(cA (n+1033) 352 [L,bt]).bind λbv=>(cA (n+1033) 173 [bs,bv]).bind λbx=>B bx aI)=Y:=by
  intro R u M α K S A B Y e h0 hA hB;rw[e1,e2];subst ak al;rw[aj] at hB;exact SD n h (M u j3) h0 (λp hp=>OL h (λw hw=>M w (List.mem_append_left _ hw)) p (by rw[e];exact hp)) hA hB
 obtain⟨rws,o⟩:∃ rws:Nat->List V,rws=λk=>if k=0 then[] else if k=1 then Jg q F else Jg q F++(Jg r G).map V.neg:=⟨_,rfl⟩
 have data:∀ k,k<2->∃ (xk:V) (J:Nat->Int) (lk:List V) (Fk:FL) (Ek:List (Nat×Nat)),[P1,P2][k]?=some (ga xk J lk)/\xY J/\Fac lk Fk Ek/\rws (k+1)=rws k++Fk.map λf=>ON k (aR (aF J f.1.1)):=λk hk=>by
  have:k=0\/k=1:=j1
  rcases this with rfl|rfl
  ·exact⟨x,q,l,F,E,by rw[e1];rfl,h.pa.hq,hl,by rw[o];rfl⟩
  ·exact⟨y,r,m,G,E',by rw[e2];rfl,h.pb.hq,hm,by rw[o];simp[Jg,ON]⟩
 have sub:∀ k,k<=2->∀ w∈rws k,w∈xS q r l m F G E E':=λk hk w hw=>by
  have:k=0\/k=1\/k=2:=j1
  rw[o] at hw;rcases this with rfl|rfl|rfl
  ·cases hw
  ·exact List.mem_append_left _ (List.mem_append_left _ hw)
  ·exact List.mem_append_left _ hw
 refine cr (λk s=>s=[.sl [P1,P2],I (k:Int),HO,P1,P2,jK c (fX x y q r l m (rws k)).2,iU (fX x y q r l m (rws k)).2,.bool (fX x y q r l m (rws k)).2.isSome,.sl ((fX x y q r l m (rws k)).1.map mD)]) 2 0 (zqa _) (by rw[o];rfl) (λk hk s hs=>?_) (λs hs=>?_)
 ·subst hs;left;obtain⟨xk,J,lk,Fk,Ek,d1,d2,d3,d4⟩:=data k hk;have hsub:=sub (k+1) j1
  rw[d4] at hsub ⊢;refine⟨_,?_,rfl⟩;refine aa am (aa ac (aK (by show(k:Int)<2;omega) (aa (z:=k) (aq hk) (aa d1 (j0 (cl lk) (aa (d3.h18 (n+1025)) (j0 (aZ Fk) ?_)))))))
  obtain⟨g,hg⟩:∃ g:(V×Int)×List Nat->V,g=λf=>ON k (aR (aF J f.1.1)):=⟨_,rfl⟩;rw[<-hg] at hsub ⊢;refine cr (λi s=>s=[.sl [P1,P2],I (i:Int),HO,P1,P2,jK c (fX x y q r l m (rws k++(Fk.take i).map g)).2,iU (fX x y q r l m (rws k++(Fk.take i).map g)).2,.bool (fX x y q r l m (rws k++(Fk.take i).map g)).2.isSome,.sl ((fX x y q r l m (rws k++(Fk.take i).map g)).1.map mD)]) Fk.length 0 (zqa _) (by rw[List.take_zero,zrd,zzb];rfl) (λi H s hs=>?_) (λs hs=>?_)
  ·subst hs;left;refine⟨_,?_,rfl⟩;have hf:=d3.fb.2 _ (zBa H);have N:=Ae d2 d3.fb (zBa H);have hlen:=d3.fb.1;have et:(Fk.take (i+1)).map g=(Fk.take i).map g++[g Fk[i]]:=by
    rw[List.take_add_one,zda H];simp only[Option.toList_some,zXb,zjb,zrd]
   have M:∀ w∈(rws k++(Fk.take i).map g)++[g Fk[i]],bd NB w:=λw hw=>by all_goals grind
   rw[et,<-zTa,app];have bdy:=@body (rws k++(Fk.take i).map g) (g Fk[i]) M;obtain⟨R,eR⟩:∃ R,rws k++(Fk.take i).map g=R:=⟨_,rfl⟩;rw[eR] at bdy ⊢;obtain⟨⟨K,S⟩,eT⟩:∃ T,fX x y q r l m R=T:=⟨_,rfl⟩;rw[eT] at bdy ⊢;obtain⟨i1,i2,i3⟩:=Al N;refine aa am (aa ac (aK (by rw[bh];omega) (j0 (aZ Fk) (aa (z:=i) (by rw[bh];exact aq H) (aa (fg H) (j0 (gZ J) (j0 (ae Fk[i].1.1) ?_)))))))
   refine aa (z:=ae (aF J Fk[i].1.1)) (E6 (n+1030) d2 (Bt hf.1)) (aa (ZU (n+1030) i1 i2 i3) (aa (bK (by simp only[inR];omega)) (aa (ct (by simp only[inR];omega)) ?_)))
   have gu:g Fk[i]=ON k (aR (aF J Fk[i].1.1)):=by rw[hg]
   rw[gu] at bdy ⊢;obtain⟨v,ev⟩:∃ v,aF J Fk[i].1.1=v:=⟨_,rfl⟩;rw[ev] at N bdy ⊢;obtain⟨u,Q⟩:∃ u,ON k (aR v)=u:=⟨_,rfl⟩;have hz:u=V.zero↔v=V.zero:=by rw[<-Q,Kx,tC]
   obtain⟨Pk,a4⟩:∃ Pk,ga xk J lk=Pk:=⟨_,rfl⟩;rw[a4];refine aa (z:=(0,[.bool true,HO,P1,P2,jK c (me mg vl (K,S) u).2,iU (me mg vl (K,S) u).2,.bool (me mg vl (K,S) u).2.isSome,P1,P2,.sl ((me mg vl (K,S) u).1.map mD),Pk])) ?_ (j0 (.bool false) (j0 false (jD (aa (aH (a:=i) (b:=1) j1) (by rw[Q];rfl)))))
   refine aa (Tg (n+3) N) (j0 (ae (aR v)) (j0 (I (if v=V.zero then 31 else 0)) (aa (z:=(0,[HO,P1,P2,jK c S,iU S,.bool S.isSome,P1,P2,.sl (K.map mD),Pk,ae u])) ?_ ?_)))
   ·refine aa am (aa ac ?_);rw[<-Q];by_cases hk2:1-2*(k:Int)<0
    ·refine aK hk2 (aa (RY (n+1032) (fJ N) j2) ?_)
     rw[show ON k (aR v)=(aR v).neg from zja hk2];rfl
    ·refine aO hk2 ?_;rw[show ON k (aR v)=aR v from zia hk2];rfl
   rw[Q] at bdy;refine Rz hz (K:=K) rfl rfl rfl (λhs=>?_) (λhs=>?_)
   ·rw[show me mg vl (K,S) u=(K,S) from zja hs];rfl
   ·rw[show me mg vl (K,S) u=(K++[u],jx mg vl S u) from zia hs];have d:=rz K u (λC=>hs (.inr C));refine aa (z:=(0,[jK c (jx mg vl S u),iU (jx mg vl S u),.bool (jx mg vl S u).isSome,P1,P2,.sl ((K++[u]).map mD),Pk])) ?_ rfl;refine bdy rfl (λC=>hs (.inl C)) (λe=>?_) (λe=>?_)
    ·rw[e,<-d];rfl
    ·rw[e,<-d];rfl
  ·subst hs;refine⟨_,aa am (aa ac (aO (by rw[bh];omega) rfl)),?_⟩
   rw[zgb (zka _)];exact Jt (aa (aH (a:=k) (b:=1) j1) rfl)
 ·subst hs;refine⟨_,aa am (aa ac (aO j2 rfl)),Jt ?_⟩
  rw[show rws 2=Jg q F++(Jg r G).map V.neg by rw[o];rfl] at *
  obtain⟨R0,P⟩:∃ R0,Jg q F++(Jg r G).map V.neg=R0:=⟨_,rfl⟩;have a6:fX x y q r l m (R0++E.flatMap (Li q r l m E'))=T:=by rw[<-hT,<-P];rfl
  have a5:∀ u∈R0++E.flatMap (Li q r l m E'),bd NB u:=by rw[<-P];exact hR
  have bN:=hl.el;have bP:=hm.el;have g1:cA (n+1033) 449 [P1]=some (.sl (E.map λe=>ae (np q l e))):=by rw[e1];exact Th (n+1023) h.pa h.la hl
  have g2:cA (n+1033) 449 [P2]=some (.sl (E'.map λe=>ae (np r m e))):=by rw[e2];exact Th (n+1023) h.pb h.lb hm
  rw[P];refine aa g2 (aa g1 (j0 (E.map λe=>ae (np q l e)) ?_));refine cr (λi s=>s=[I (i:Int),HO,P1,P2,jK c (fX x y q r l m (R0++(E.take i).flatMap (Li q r l m E'))).2,iU (fX x y q r l m (R0++(E.take i).flatMap (Li q r l m E'))).2,.bool (fX x y q r l m (R0++(E.take i).flatMap (Li q r l m E'))).2.isSome,.sl ((fX x y q r l m (R0++(E.take i).flatMap (Li q r l m E'))).1.map mD)]) E.length 0 (zqa _) (by rw[List.take_zero,List.flatMap_nil,zzb];rfl) (λi H s hs=>?_) (λs hs=>?_)
  ·subst hs;left;refine⟨_,?_,rfl⟩;have he:=hl.lt E[i] (zBa H);have W:=Aa h.pa.hq h.la he;rw[oF _ H,<-zTa];obtain⟨R1,ad⟩:∃ R1,R0++(E.take i).flatMap (Li q r l m E')=R1:=⟨_,rfl⟩;have U:∀ u∈R1++Li q r l m E' E[i],bd NB u:=λu hu=>a5 u (by
    rw[<-ad,zTa] at hu;rcases List.mem_append.1 hu with hu|hu
    ·exact List.mem_append_left _ hu
    ·refine zPa _ ?_;rcases List.mem_append.1 hu with hu|hu
     ·obtain⟨a,ha,M⟩:=zUa.1 hu;exact zUa.2 ⟨a,zVa ha,M⟩
     ·exact zUa.2 ⟨_,zBa H,hu⟩)
   rw[ad];refine aa am (aa ac (aK (by rw[zxa];omega) (j0 (E.map λe=>ae (np q l e)) (aa (z:=i) (by rw[zxa];exact aq H) (aa (z:=ae (np q l E[i])) (by simp[H]) (j0 (E'.map λe=>ae (np r m e)) ?_))))))
   obtain⟨e,ee⟩:∃ e,E[i]=e:=⟨_,rfl⟩;rw[ee] at he W U ⊢;obtain⟨c2,ax⟩:∃ c2:Nat×Nat->List V,c2=λf=>[aR (V.cross (np q l e) (np r m f)),(aR (V.cross (np q l e) (np r m f))).neg]:=⟨_,rfl⟩;rw[show Li q r l m E' e=E'.flatMap c2 by rw[ax];rfl] at U ⊢
   refine cr (λj s=>s=[I (j:Int),HO,P1,P2,jK c (fX x y q r l m (R1++(E'.take j).flatMap c2)).2,iU (fX x y q r l m (R1++(E'.take j).flatMap c2)).2,.bool (fX x y q r l m (R1++(E'.take j).flatMap c2)).2.isSome,.sl ((fX x y q r l m (R1++(E'.take j).flatMap c2)).1.map mD)]) E'.length 0 (zqa _) (by rw[List.take_zero,List.flatMap_nil,zzb];rfl) (λj hj s hs=>?_) (λs hs=>?_)
   ·subst hs;left;refine⟨_,?_,rfl⟩;have hf:=hm.lt E'[j] (zBa hj);have an:=Aa h.pb.hq h.lb hf;rw[oF _ hj,<-zTa];obtain⟨R,eR⟩:∃ R,R1++(E'.take j).flatMap c2=R:=⟨_,rfl⟩;have t:∀ w∈R++c2 E'[j],bd NB w:=λw hw=>U w (by
     rw[<-eR,zTa] at hw;rcases List.mem_append.1 hw with hw|hw
     ·exact List.mem_append_left _ hw
     ·refine zPa _ ?_;rcases List.mem_append.1 hw with hw|hw
      ·obtain⟨a,ha,M⟩:=zUa.1 hw;exact zUa.2 ⟨a,zVa ha,M⟩
      ·exact zUa.2 ⟨_,zBa hj,hw⟩)
    rw[eR];refine aa am (aa ac (aK (by rw[zxa];omega) (j0 (E'.map λe=>ae (np r m e)) (aa (z:=j) (by rw[zxa];exact aq hj) (aa (z:=ae (np r m E'[j])) (by simp[hj]) (aa (ZW (n+1026) W an) ?_))))))
    have N:=yj W an;have ec:c2 E'[j]=[aR (V.cross (np q l e) (np r m E'[j])),(aR (V.cross (np q l e) (np r m E'[j]))).neg]:=by rw[ax]
    rw[ec] at t ⊢;obtain⟨v,ev⟩:∃ v,V.cross (np q l e) (np r m E'[j])=v:=⟨_,rfl⟩;rw[ev] at N t ⊢;obtain⟨X,eX⟩:∃ X,ae (np q l e)=X:=⟨_,rfl⟩;rw[eX];rw[show R++[aR v,(aR v).neg]=(R++[aR v])++[(aR v).neg] by simp] at t ⊢
    have b1:=@body R (aR v) (λw hw=>t w (List.mem_append_left _ hw));have b2:=@body (R++[aR v]) (aR v).neg t;rw[app _ (aR v).neg];obtain⟨⟨K2,S2⟩,ai⟩:∃ T,fX x y q r l m (R++[aR v])=T:=⟨_,rfl⟩;have Z:=ai;rw[app] at Z;rw[ai] at b2 ⊢;obtain⟨⟨K,S⟩,eT⟩:∃ T,fX x y q r l m R=T:=⟨_,rfl⟩;rw[eT] at b1 Z ⊢;have O:=Tg (n+3) N;have a9:aR v=V.zero↔v=V.zero:=tC;have aB:(aR v).neg=V.zero↔v=V.zero:=by rw[wL,tC]
    have bp:=fJ N;refine aa (z:=(0,[.bool true,HO,P1,P2,jK c S2,iU S2,.bool S2.isSome,.sl (K2.map mD),X,g9 v])) ?_ (j0 (.bool false) (j0 false (jD ?_)))
    ·refine aa O (j0 (ae (aR v)) (j0 (I (if v=V.zero then 31 else 0)) (aa (z:=(0,[HO,P1,P2,jK c S,iU S,.bool S.isSome,.sl (K.map mD),X,g9 v,ae (aR v)])) (aa am (aa ac (aO j2 rfl))) ?_)))
     refine Rz a9 (K:=K) rfl rfl rfl (λhs=>?_) (λhs=>?_)
     ·rw[show me mg vl (K,S) (aR v)=(K,S) from zja hs] at Z;cases Z;rfl
     ·rw[show me mg vl (K,S) (aR v)=(K++[aR v],jx mg vl S (aR v)) from zia hs] at Z;have d:=rz K (aR v) (λC=>hs (.inr C));obtain⟨rfl,rfl⟩:=Prod.mk.inj Z;refine aa (z:=(0,[jK c (jx mg vl S (aR v)),iU (jx mg vl S (aR v)),.bool (jx mg vl S (aR v)).isSome,.sl ((K++[aR v]).map mD),X,g9 v])) ?_ rfl;refine b1 rfl (λC=>hs (.inl C)) (λe=>?_) (λe=>?_)
      ·rw[e,<-d];rfl
      ·rw[e,<-d];rfl
    ·obtain⟨u,Q⟩:∃ u,(aR v).neg=u:=⟨_,rfl⟩;rw[Q] at aB b2 ⊢;refine aa (z:=(0,[.bool true,HO,P1,P2,jK c (me mg vl (K2,S2) u).2,iU (me mg vl (K2,S2) u).2,.bool (me mg vl (K2,S2) u).2.isSome,.sl ((me mg vl (K2,S2) u).1.map mD),X])) ?_ (j0 (.bool false) (j0 false (jD (aa (aH (a:=j) (b:=1) j1) rfl))))
     refine aa O (j0 (ae (aR v)) (j0 (I (if v=V.zero then 31 else 0)) (aa (z:=(0,[HO,P1,P2,jK c S2,iU S2,.bool S2.isSome,.sl (K2.map mD),X,ae u])) (aa am (aa ac (aK j2 (aa (RY (n+1032) bp j2) (by rw[Q];rfl))))) ?_)))
     refine Rz aB (K:=K2) rfl rfl rfl (λhs=>?_) (λhs=>?_)
     ·rw[show me mg vl (K2,S2) u=(K2,S2) from zja hs];rfl
     ·rw[show me mg vl (K2,S2) u=(K2++[u],jx mg vl S2 u) from zia hs];have d:=rz K2 u (λC=>hs (.inr C));refine aa (z:=(0,[jK c (jx mg vl S2 u),iU (jx mg vl S2 u),.bool (jx mg vl S2 u).isSome,.sl ((K2++[u]).map mD),X])) ?_ rfl;refine b2 rfl (λC=>hs (.inl C)) (λe=>?_) (λe=>?_)
      ·rw[e,<-d];rfl
      ·rw[e,<-d];rfl
   ·subst hs;refine⟨_,aa am (aa ac (aO (by rw[zxa];omega) rfl)),?_⟩
    rw[zgb (zka _)];exact Jt (aa (aH (a:=i) (b:=1) j1) rfl)
  ·subst hs;refine⟨_,aa am (aa ac (aO (by rw[zxa];omega) rfl)),?_⟩
   rw[zgb (zka _),a6];exact Jt rfl
end
def Kv{mg vl:V->Rat}(R:List V):(∀ u∈R,u≠V.zero->u∈(o8 mg vl R).1)/\∀ u∈(o8 mg vl R).1,¬ mg u<0->∃ p,(o8 mg vl R).2=some p/\vl u<=p.2:=by
 refine Cp (P:=λR=>(∀ u∈R,u≠V.zero->u∈(o8 mg vl R).1)/\∀ u∈(o8 mg vl R).1,¬ mg u<0->∃ p,(o8 mg vl R).2=some p/\vl u<=p.2) ⟨λu hu=>(by cases hu),λu hu=>(by cases hu)⟩ (λR w ih=>?_) R
 obtain⟨i1,i2⟩:=ih;rw[w8];unfold me;split
 ·rename_i hw;refine⟨λu hu h0=>?_,i2⟩;rcases List.mem_append.1 hu with hu|hu
  ·exact i1 u hu h0
  ·rw[zKa.1 hu] at h0 ⊢;exact hw.resolve_left h0
 ·refine⟨λu hu h0=>?_,λu hu hm=>?_⟩
  ·rcases List.mem_append.1 hu with hu|hu
   ·exact List.mem_append_left _ (i1 u hu h0)
   ·exact zPa _ hu
  ·dsimp only[jx];rcases List.mem_append.1 hu with hu|hu
   ·obtain⟨p,e,hp⟩:=i2 u hu hm;rw[e];dsimp only;by_cases hw:mg w<0
    ·rw[zja hw];exact⟨p,rfl,hp⟩
    ·rw[zia hw];by_cases a:p.2<vl w
     ·rw[zja a];exact⟨_,rfl,Rat.le_trans hp (Rat.le_of_lt a)⟩
     ·rw[zia a];exact⟨p,rfl,hp⟩
   ·rw[zKa.1 hu] at hm ⊢;rw[zia hm];cases (o8 mg vl R).2 with
    | none=>exact⟨_,rfl,Rat.le_refl⟩
    | some p=>
     dsimp only;split
     ·exact⟨_,rfl,Rat.le_refl⟩
     ·rename_i a;exact⟨p,rfl,Rat.not_lt.1 a⟩
def Ri(u:V):u.neg.neg=u:=by cases u;simp[V.neg]
section
variable{x y:V}{q r:Nat->Int}{l m:List V}{F G:FL}{E E':List (Nat×Nat)}
def PairOk.swap(h:PairOk x y q r l m):PairOk y x r q m l:=⟨h.pb,h.pa,h.lb,h.la,h.nb,h.na,h.kb,h.ka,h.tb,h.ta⟩
end
def AM{l:List V}(g:V->V){i:Nat}(h:i<l.length):pt (l.map g) i=g (pt l i):=by unfold pt;rw[zab,zab,zmb,zda h];rfl
def jM(u b:V):V.dot u.neg b=-V.dot u b:=by cases u;simp only[V.dot,V.neg];grind
end Sy
end
end Go.Proofs.YtphlmegkommlnaaGreatDoor
