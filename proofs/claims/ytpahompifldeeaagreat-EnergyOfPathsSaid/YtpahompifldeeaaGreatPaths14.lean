/- Part 14 of the proof that EnergyOfPaths answers true at every input -/
import Derived.Test.YtpahompifldeeaaGreatPaths11
import Derived.Test.YtpahompifldeeaaGreatPaths12
import Derived.Test.YtpahompifldeeaaGreatPaths13
set_option linter.unusedVariables false
set_option linter.unusedSimpArgs false
set_option linter.unnecessarySimpa false
set_option maxRecDepth 20000
namespace Go.Proofs.YtpahompifldeeaaGreat
noncomputable section
namespace Sy
open Go Go.Proofs Geo
theorem kR{x:Int}(h:inR x):In x:=by
 unfold In;have:(65536:Nat)^4<=65536^32:=Nat.pow_le_pow_right (by decide) (by decide)
 have e:(65536:Nat)^4=18446744073709551616:=rfl
 simp only[inR] at h;omega
theorem js(x:Int)(h:-9223372036854775808<=x/\x<=9223372036854775807:=by decide):inR x:=h
theorem NY(n:Nat):cA (n+4) 133 []=some (ai 1):=by
 rw[Pw];unfold Dg
 exact aa (AJ n (js 1)) rfl
theorem Ev(n:Nat)(f:Nat->Int):D.beq (cm n f) (cm n f)=true:=by
 show D.beqs _ _=true
 rw[pp]
 simp
theorem yl(x:Int):D.beq (ai x) (ai x)=true:=by
 rw[cc]
 show(D.beq (.bool false) (.bool false)&&(D.beq (.bool (decide (x<0))) (.bool (decide (x<0)))&&(D.beq (LM x.natAbs) (LM x.natAbs)&&true)))=true
 rw[Ev];simp[D.beq]
theorem Hw(n:Nat){q:Rat}(h:uJ q):cA (n+5) 88 [bU q]=some (.bool true):=by
 rw[TQ];unfold JQ
 have hp:(0:Int)<(q.den:Int):=by have:=q.den_pos;omega
 refine aa (z:=ai q.num) rfl (aa (oV (n+2) h.1) (aa (z:=.bool false) rfl (aa (z:=false) rfl (aa (z:=false) ?_ (aa (z:=false) rfl ?_)))))
 ·rw[if_neg (by decide)]
  exact aa (z:=ai (q.den:Int)) rfl (aa (oV (n+2) h.2) (aa (z:=.bool false) rfl rfl))
 rw[if_neg (by decide)]
 refine aa (z:=ai (q.den:Int)) rfl (aa (Hv (n+1) h.2) (aa (z:=.bool true) (by rw[jh hp];rfl) (aa (z:=true) rfl (aa (z:=true) ?_ rfl))))
 rw[if_pos rfl]
 refine aa (z:=ai q.num) rfl (aa (z:=ai (q.den:Int)) rfl (aa (GN n h.1 h.2) (aa (NY n) ?_)))
 have e:Nat.gcd q.num.natAbs (q.den:Int).natAbs=1:=q.reduced
 rw[e]
 show D.truth (.bool (D.beq (ai 1) (ai 1)))=_
 rw[yl];rfl
theorem th:In 1:=kR (js 1)
theorem u5(x:Int):Rat.divInt x 1=(x:Rat):=by
 conv=>rhs;rw[<-Rat.num_divInt_den (x:Rat)]
 rfl
theorem nc(x:Int){d:Int}(hd:d≠0):(Rat.divInt x d).num.natAbs<=x.natAbs/\(Rat.divInt x d).den<=d.natAbs:=by
 obtain⟨p1,p2⟩:=eK x hd
 have hgp:0<Nat.gcd x.natAbs d.natAbs:=Nat.gcd_pos_of_pos_right _ (by omega)
 have key:∀ z:Int,(z/(if d<0 then -(Nat.gcd x.natAbs d.natAbs:Int) else(Nat.gcd x.natAbs d.natAbs:Int))).natAbs<=z.natAbs\/¬ ((Nat.gcd x.natAbs d.natAbs:Nat):Int) ∣ z:=by
  intro z
  by_cases hz:((Nat.gcd x.natAbs d.natAbs:Nat):Int) ∣ z
  ·left
   obtain⟨k,rfl⟩:=hz
   generalize Nat.gcd x.natAbs d.natAbs=g at *
   rw[Int.natAbs_mul,Int.natAbs_natCast]
   have:k.natAbs<=g*k.natAbs:=Nat.le_mul_of_pos_left _ hgp
   split
   ·rw[Int.ediv_neg,Int.mul_ediv_cancel_left _ (by omega),Int.natAbs_neg];exact this
   ·rw[Int.mul_ediv_cancel_left _ (by omega)];exact this
  ·exact .inr hz
 constructor
 ·rw[p1]
  rcases key x with h|h
  ·exact h
  ·exact absurd (Int.ofNat_dvd_left.2 (Nat.gcd_dvd_left _ _)) h
 ·have:(Rat.divInt x d).den=((Rat.divInt x d).den:Int).natAbs:=rfl
  rw[this,p2]
  rcases key d with h|h
  ·exact h
  ·exact absurd (Int.ofNat_dvd_left.2 (Nat.gcd_dvd_right _ _)) h
theorem pi{x d:Int}(hx:In x)(hd:In d)(h0:d≠0):uJ (Rat.divInt x d):=by
 obtain⟨h1,h2⟩:=nc x h0
 exact⟨Nat.lt_of_le_of_lt h1 hx,Nat.lt_of_le_of_lt (by rw[Int.natAbs_natCast];exact h2) hd⟩
theorem dM(q:Rat):(q.den:Int)≠0:=by have:=q.den_pos;omega
def fitA(x y:Rat):Prop:=x.num.natAbs*y.den+y.num.natAbs*x.den<dO/\x.den*y.den<dO
def fitM(x y:Rat):Prop:=x.num.natAbs*y.num.natAbs<dO/\x.den*y.den<dO
theorem yd{x:Int}(h:In x):uJ (x:Rat):=⟨by simpa using h,by simpa using th⟩
theorem SX(n:Nat){x y:Rat}(hx:uJ x)(hy:uJ y)(hf:fitA x y):cA (n+6) 40 [bU x,bU y]=some (bU (x+y)):=by
 rw[Tp];unfold Ju
 obtain⟨f1,f2⟩:=hf
 refine aa (Hw n hx) (aa (z:=.bool false) rfl (aa (z:=false) rfl (aa (z:=false) ?_ (aa (z:=false) rfl ?_))))
 ·rw[if_neg (by decide)]
  exact aa (Hw n hy) (aa (z:=.bool false) rfl rfl)
 rw[if_neg (by decide)]
 obtain⟨g,hg⟩:∃ g,g=Nat.gcd x.den y.den:=⟨_,rfl⟩
 have hxp:=x.den_pos
 have hyp:=y.den_pos
 have g1:g ∣ x.den:=hg ▸ Nat.gcd_dvd_left _ _
 have g2:g ∣ y.den:=hg ▸ Nat.gcd_dvd_right _ _
 have gp:0<g:=by rw[hg];exact Nat.gcd_pos_of_pos_left _ hxp
 obtain⟨a,ha⟩:=g1
 obtain⟨b,hb⟩:=g2
 have gi:In (g:Int):=db.2 (Nat.lt_of_le_of_lt (Nat.le_of_dvd hxp ⟨a,ha⟩) (db.1 hx.2))
 have g0:(g:Int)≠0:=by omega
 have ea:(x.den:Int)/(g:Int)=(a:Int):=by rw[ha,Int.natCast_mul];exact Int.mul_ediv_cancel_left _ g0
 have eb:(y.den:Int)/(g:Int)=(b:Int):=by rw[hb,Int.natCast_mul];exact Int.mul_ediv_cancel_left _ g0
 have ha':a<=x.den:=by rw[ha];exact Nat.le_mul_of_pos_left _ gp
 have hb':b<=y.den:=by rw[hb];exact Nat.le_mul_of_pos_left _ gp
 have a0:0<a:=by
            rcases Nat.eq_zero_or_pos a with h|h;· rw[h] at ha;omega
            ·exact h
 have hai:In (a:Int):=db.2 (Nat.lt_of_le_of_lt ha' (db.1 hx.2))
 have hbi:In (b:Int):=db.2 (Nat.lt_of_le_of_lt hb' (db.1 hy.2))
 have m1:x.num.natAbs*b<=x.num.natAbs*y.den:=Nat.mul_le_mul_left _ hb'
 have m2:y.num.natAbs*a<=y.num.natAbs*x.den:=Nat.mul_le_mul_left _ ha'
 have m3:a*y.den<=x.den*y.den:=Nat.mul_le_mul_right _ ha'
 have i1:In (x.num*b):=a8.2 (by rw[Int.natAbs_mul,Int.natAbs_natCast];omega)
 have i2:In (y.num*a):=a8.2 (by rw[Int.natAbs_mul,Int.natAbs_natCast];omega)
 have i3:In (x.num*b+y.num*a):=a8.2 (by
  have:=Int.natAbs_add_le (x.num*b) (y.num*a)
  rw[Int.natAbs_mul,Int.natAbs_mul,Int.natAbs_natCast,Int.natAbs_natCast] at this;omega)
 have i4:In ((a:Int)*y.den):=a8.2 (by rw[<-Int.natCast_mul,Int.natAbs_natCast];omega)
 have h1:=GN (n+1) hx.2 hy.2
 rw[Int.natAbs_natCast,Int.natAbs_natCast,<-hg] at h1
 have h2:=A9 (n+1) hx.2 gi g0 ⟨a,by rw[ha,Int.natCast_mul]⟩
 have h3:=A9 (n+1) hy.2 gi g0 ⟨b,by rw[hb,Int.natCast_mul]⟩
 rw[ea] at h2
 rw[eb] at h3
 have h4:=GO (n+1) hx.1 hbi
 have h5:=GO (n+1) hy.1 hai
 rw[fX i1] at h4
 rw[fX i2] at h5
 have h6:=OJ (n+1) i1 i2
 rw[fX i3] at h6
 have h7:=GO (n+1) hai hy.2
 rw[fX i4] at h7
 refine aa (z:=ai (x.den:Int)) rfl (aa (z:=ai (y.den:Int)) rfl (aa (h1) ?_))
 refine aa (z:=ai (x.den:Int)) rfl (aa (h2) (aa (z:=ai (y.den:Int)) rfl (aa (h3) (aa (z:=ai x.num) rfl (aa (h4) (aa (z:=ai y.num) rfl (aa (h5) (aa (h6) (aa (z:=ai (y.den:Int)) rfl (aa (h7) ?_))))))))))
 have hne:(a:Int)*y.den≠0:=by
  have:0<a*y.den:=Nat.mul_pos a0 hyp
  rw[<-Int.natCast_mul];omega
 refine aa (SV n i3 i4 hne) ?_
 have e:Rat.divInt (x.num*b+y.num*a) ((a:Int)*y.den)=x+y:=by
  conv=>rhs;rw[<-Rat.num_divInt_den x,<-Rat.num_divInt_den y]
  rw[Rat.divInt_add_divInt _ _ (dM x) (dM y),Rat.divInt_eq_divInt_iff hne (by have:=dM x;have:=dM y;exact Int.mul_ne_zero ‹_› ‹_›)]
  have k1:(x.den:Int)=g*a:=by rw[ha,Int.natCast_mul]
  have k2:(y.den:Int)=g*b:=by rw[hb,Int.natCast_mul]
  rw[k1,k2]
  grind
 rw[e]
theorem S6(n:Nat){x:Rat}(hx:uJ x):cA (n+6) 70 [bU x]=some (bU (-x)):=by
 rw[TE];unfold JF
 refine aa (Hw n hx) (aa (z:=.bool false) rfl (aa (z:=false) rfl ?_))
 rw[if_neg (by decide)]
 refine aa (z:=ai x.num) rfl (aa (OL (n+2) hx.1) (aa (z:=ai (x.den:Int)) rfl ?_))
 rfl
structure RV where
 x:Rat
 y:Rat
 z:Rat
def RV.of(v:V):RV:=⟨v.x,v.y,v.z⟩
def RV.mul(k:Rat)(v:RV):RV:=⟨k*v.x,k*v.y,k*v.z⟩
end Sy
end
noncomputable section
namespace Geo
open V
section
variable{P:Nat->V}{N:Nat}
theorem Ff(hl:∀ i j,i<j->j<N->az (P i) (P j)){n:V}{d:Int}(h:IsF P N n d){a b:Nat}(ha:a∈br P N n d)(h1:Side n P (br P N n d) a b)(h2:Side n P (br P N n d) b a):False:=by
 obtain⟨c,hc,ht⟩:=h.left hl ha h1
 have:=(h2.all c hc).1
 have e:T n (wy P b a) (wy P b c)=- T n (wy P a b) (wy P a c):=by simp only[T,dot,cross,wy,sub];grind
 omega
end
end Geo
end
noncomputable section
namespace Geo
open V
section
variable{P:Nat->V}{N:Nat}
def If(P:Nat->V)(N:Nat)(k:Nat):Prop:=∃ n d,IsF P N n d/\k∈br P N n d/\jz P (br P N n d) k
end
end Geo
end
noncomputable section
namespace Geo
open V
section
variable{P P':Nat->V}{N N':Nat}
variable(hl:∀ i j,i<j->j<N->az (P i) (P j))(hl':∀ i j,i<j->j<N'->az (P' i) (P' j))
 (hsub:∀ k,k<N'->∃ j,j<N/\P j=P' k) (hsup:∀ k,If P N k->∃ j,j<N'/\P' j=P k)
include hl hl' hsub hsup
end
section
variable{P P':Nat->V}{N N':Nat}(hl:∀ i j,i<j->j<N->az (P i) (P j))(hl':∀ i j,i<j->j<N'->az (P' i) (P' j))
 (hsub:∀ k,k<N'->∃ j,j<N/\P j=P' k/\If P N j) (hsup:∀ k,If P N k->∃ j,j<N'/\P' j=P k)
include hl hl' hsub hsup
end
end Geo
end
noncomputable section
namespace Geo
open V
section
variable{P:Nat->V}{N:Nat}
def dd(h u w:V):V:=cross (cross u w) h
end
end Geo
end
noncomputable section
namespace Geo
open V
section
variable{P:Nat->V}{N:Nat}
section
variable(hl:∀ i j,i<j->j<N->az (P i) (P j)){L:List (V×Int)}(hL:Facets P N L){poly:V×Int->List Nat}(hp:∀ q∈L,cb P N q.1 q.2 (poly q))
include hl hL hp
omit hp in
theorem Ab{q:V×Int}(hq:q∈L){l:List Nat}(k:cb P N q.1 q.2 l):(∀ x∈br P N q.1 q.2,l.getD 0 0<=x)/\l.getD 0 0∈br P N q.1 q.2/\jz P (br P N q.1 q.2) (l.getD 0 0)/\(∃ x∈br P N q.1 q.2,x≠l.getD 0 0):=by
 obtain⟨a,h1,h2⟩:=k
 obtain⟨b,g1,g2,g3,g4,g5⟩:=((hL.mem q).1 hq).head hl
 rw[h1] at g1;cases g1
 obtain⟨l',e⟩:=h2.head
 have e0:l.getD 0 0=a:=by rw[e];rfl
 rw[e0]
 exact⟨g4,g2,g3,g5 a g2⟩
end
end
end Geo
end
noncomputable section
namespace Geo
open V
abbrev T3:=V×V×V
def TW(t:T3):Int:=V.dot (V.cross t.1 t.2.1) t.2.2
section
variable{P:Nat->V}{N:Nat}(hl:∀ i j,i<j->j<N->az (P i) (P j)){L:List (V×Int)}(hL:Facets P N L){poly:V×Int->List Nat}(hp:∀ q∈L,cb P N q.1 q.2 (poly q))
include hl hL hp
theorem xy{q:V×Int}(hq:q∈L):3<=(poly q).length:=by
 have hF:=(hL.mem q).1 hq
 have k:=hp q hq
 obtain⟨h1,h2,_⟩:=Ab hl hL hq k
 have hpos:0<(poly q).length:=by
  obtain⟨a,_,h⟩:=k
  obtain⟨l',e⟩:=h.head
  rw[e];simp
 have n0:=k.next hpos
 rcases Nat.lt_or_ge 1 (poly q).length with g1|g1
 ·have n1:=k.next g1
  rw[Nat.mod_eq_of_lt g1] at n0
  rcases Nat.lt_or_ge 2 (poly q).length with g2|g2
  ·exact g2
  ·have e:(poly q).length=2:=by omega
   rw[e] at n1
   exact(Ff hl hF h2 n0 n1).elim
 ·have e:(poly q).length=1:=by omega
  rw[e] at n0
  exact(n0.ne rfl).elim
end
end Geo
end
noncomputable section
namespace Geo
open V
def cmp(i:Nat)(v:V):Int:=if i=0 then v.x else if i=1 then v.y else v.z
def shift(d:V)(t:T3):T3:=(V.add t.1 d,V.add t.2.1 d,V.add t.2.2 d)
section
variable{P:Nat->V}{N:Nat}(hl:∀ i j,i<j->j<N->az (P i) (P j)){L:List (V×Int)}(hL:Facets P N L){poly:V×Int->List Nat}(hp:∀ q∈L,cb P N q.1 q.2 (poly q))
include hl hL hp
end
end Geo
end
noncomputable section
namespace Sy
open Go Go.Proofs Geo
structure FIn(l:List V)(F:FL):Prop where
 len:F.length<=2000000
 ok:∀ f∈F,3<=f.2.length/\f.2.length<=100/\∀ j,j<f.2.length->f.2.getD j 0<l.length
def AI(T:List T3)(N:Nat):Prop:=T.length<=N/\∀ t∈T,bd MV t.1/\bd MV t.2.1/\bd MV t.2.2
theorem AI.append{S T:List T3}{M N:Nat}(h:AI S M)(k:AI T N):AI (S++T) (M+N):=
 ⟨by rw[List.length_append];have:=h.1;have:=k.1;omega,fun t ht=>(List.mem_append.1 ht).elim (h.2 t) (k.2 t)⟩
theorem AI.mono{T:List T3}{M N:Nat}(h:AI T M)(k:M<=N):AI T N:=⟨Nat.le_trans h.1 k,h.2⟩
theorem mT{x:Int}{k:Nat}(hk:k<=511)(h:x.natAbs<=2^k):In x:=by
 obtain⟨m,hm⟩:∃ m,m=32*16:=⟨_,rfl⟩
 exact a8.2 ((qi hm).2 (Nat.lt_of_le_of_lt h (Nat.pow_lt_pow_right (by decide) (by omega))))
theorem fA{a b:Nat}{i j k:Nat}(ha:a<=2^i)(hb:b<=2^j)(h:i+j<=k):a*b<=2^k:=
 Nat.le_trans (Nat.mul_le_mul ha hb) (by rw[<-Nat.pow_add];exact Nat.pow_le_pow_right (by decide) h)
theorem qm{a b:Int}{k:Nat}(ha:a.natAbs<=2^k)(hb:b.natAbs<=2^k):(a+b).natAbs<=2^(k+1):=by
 have:=Int.natAbs_add_le a b
 rw[Nat.pow_succ];omega
theorem cr{a b:Int}{i j k:Nat}(ha:a.natAbs<=2^i)(hb:b.natAbs<=2^j)(h:i+j<=k):(a*b).natAbs<=2^k:=by
 rw[Int.natAbs_mul];exact fA ha hb h
theorem rp{a:Int}{i k:Nat}(ha:a.natAbs<=2^i)(h:i<=k):a.natAbs<=2^k:=Nat.le_trans ha (Nat.pow_le_pow_right (by decide) h)
end Sy
end
noncomputable section
namespace Sy
open Go Go.Proofs Geo
def fN(x:V):List V->List V
 | []=>[x]
 | y::L=>if az x y\/x=y then x::(y::L).filter (fun z=>decide (z≠x)) else y::fN x L
def c9(l:List V):List V:=l.foldl (fun o x=>fN x o) []
theorem vH(x:V):∀ L:List V,(fN x L).length<=L.length+1
 | []=>by simp[fN]
 | y::L=>by
  have:=vH x L
  unfold fN
  split
  ·rw[List.length_cons];have:=List.length_filter_le (fun z=>decide (z≠x)) (y::L);omega
  ·simp only[List.length_cons];omega
theorem qj{x z:V}:∀ {L:List V},z∈fN x L↔z=x\/z∈L
 | []=>by simp[fN]
 | y::L=>by
  have ih:=qj (x:=x) (z:=z) (L:=L)
  unfold fN
  split
  ·simp only[List.mem_cons,List.mem_filter,decide_eq_true_eq]
   by_cases h:z=x<;>simp[h]
  ·simp only[List.mem_cons,ih]
   constructor
   ·rintro(h|h|h)
    ·exact .inr (.inl h)
    ·exact .inl h
    ·exact .inr (.inr h)
   ·rintro(h|h|h)
    ·exact .inr (.inl h)
    ·exact .inl h
    ·exact .inr (.inr h)
theorem vI{x:V}:∀ {L:List V},L.Pairwise az->(fN x L).Pairwise az
 | [],_=>by simp[fN]
 | y::L,h=>by
  obtain⟨h1,h2⟩:=List.pairwise_cons.1 h
  unfold fN
  split
  ·rename_i hxy
   refine List.pairwise_cons.2 ⟨fun z hz=>?_,h.filter _⟩
   obtain⟨hz1,hz2⟩:=List.mem_filter.1 hz
   have hzx:z≠x:=by simpa using hz2
   rcases List.mem_cons.1 hz1 with rfl|hz1
   ·rcases hxy with h|h
    ·exact h
    ·exact absurd h.symm hzx
   ·rcases hxy with h|h
    ·exact jP h (h1 z hz1)
    ·rw[h];exact h1 z hz1
  ·rename_i hxy
   refine List.pairwise_cons.2 ⟨fun z hz=>?_,vI h2⟩
   rcases qj.1 hz with rfl|hz
   ·rcases nD (a:=z) (b:=y) (fun e=>hxy (.inr e)) with k|k
    ·exact absurd (.inl k) hxy
    ·exact k
   ·exact h1 z hz
theorem qM(l:List V):(c9 l).Pairwise az:=by
 unfold c9
 have:∀ (l o:List V),o.Pairwise az->(l.foldl (fun o x=>fN x o) o).Pairwise az:=by
  intro l
  induction l with
  | nil=>intro o h;exact h
  | cons x l ih=>intro o h;exact ih _ (vI h)
 exact this l [] .nil
theorem vS{l:List V}{z:V}:z∈c9 l↔z∈l:=by
 unfold c9
 have:∀ (l o:List V),z∈l.foldl (fun o x=>fN x o) o↔z∈l\/z∈o:=by
  intro l
  induction l with
  | nil=>intro o;simp
  | cons x l ih=>
   intro o
   rw[List.foldl_cons,ih,qj,List.mem_cons]
   constructor
   ·rintro(h|h|h)
    ·exact .inl (.inr h)
    ·exact .inl (.inl h)
    ·exact .inr h
   ·rintro((h|h)|h)
    ·exact .inr (.inl h)
    ·exact .inl h
    ·exact .inr (.inr h)
 rw[this];simp
theorem mG(l:List V):(c9 l).length<=l.length:=by
 unfold c9
 have:∀ (l o:List V),(l.foldl (fun o x=>fN x o) o).length<=l.length+o.length:=by
  intro l
  induction l with
  | nil=>intro o;simp
  | cons x l ih=>
   intro o
   have h1:=ih (fN x o)
   have h2:=vH x o
   rw[List.foldl_cons,List.length_cons];omega
 simpa using this l []
theorem Ck{l:List V}(h:l.Pairwise az):AX l:=fun i j hij hj=>by
 have:=List.pairwise_iff_getElem.1 h i j (by omega) hj hij
 simpa [pt,List.getD,hj,show i<l.length by omega] using this
theorem FA{l:List V}(h:l.Pairwise az):c9 l=l:=
 nP (r:=az) nC sd (qM l) h fun x=>vS
theorem SY(n:Nat)(l:List V)(hlen:l.length<=1000000):cA (n+2) 47 [aN l]=some (aN (c9 l)):=by
 rw[Tt]
 unfold Jw
 have ll:(l.map af).length=l.length:=List.length_map ..
 refine ba (fun i s=>s=[aN (c9 (l.take i)),I (i:Int)]) l.length 0 (Nat.zero_le _) rfl (fun i hi s hJ=>?_) (fun s hJ=>?_)
 ·subst hJ
  left
  refine⟨[aN (c9 (l.take (i+1))),I ((i+1:Nat):Int)],?_,rfl⟩
  have hs:c9 (l.take (i+1))=fN (l.getD i V.zero) (c9 (l.take i)):=by
   unfold c9
   rw[List.take_succ_eq_append_getElem hi,List.foldl_append]
   simp[List.getD,hi]
  have hol:(c9 (l.take i)).length<=1000000:=Nat.le_trans (mG _) (by rw[List.length_take];omega)
  rw[hs]
  obtain⟨o,ho⟩:∃ o,c9 (l.take i)=o:=⟨_,rfl⟩
  obtain⟨x,hx⟩:∃ x,l.getD i V.zero=x:=⟨_,rfl⟩
  have hxg:(l.map af)[i]?=some (af x):=by rw[<-hx];exact co hi
  rw[ho] at hol ⊢
  rw[hx]
  have ol:(o.map af).length=o.length:=List.length_map ..
  refine aa (z:=l.map af) rfl (aa ah (aa ae (aH (by show((i:Int)<((l.map af).length:Int));rw[ll];omega) ?_)))
  refine dn (fun k s=>∃ (nx:List V) (put:Bool),s=[aN o,aN nx,.bool put,I (k:Int)]/\nx.length<=2*k/\(put=false->fN x o=nx++fN x (o.drop k))/\(put=true->fN x o=nx++(o.drop k).filter (fun z=>decide (z≠x)))) o.length 0 (Nat.zero_le _) ⟨[],false,rfl,by simp,by simp,by simp⟩ (fun k hk s hJ=>?_) (fun s hJ=>?_)
  ·obtain⟨nx,put,rfl,hnl,h1,h2⟩:=hJ
   left
   have hd:o.drop k=o.getD k V.zero::o.drop (k+1):=by rw[List.drop_eq_getElem_cons hk];simp[List.getD,hk]
   have hyg:(o.map af)[k]?=some (af (o.getD k V.zero)):=co hk
   obtain⟨y,hy⟩:∃ y,o.getD k V.zero=y:=⟨_,rfl⟩
   rw[hy] at hd hyg
   rw[hd] at h1 h2
   obtain⟨n1,p1,he,q0,q1,q2⟩:∃ (n1:List V) (p1:Bool),(if put=false/\(az x y\/x=y) then(nx++[x],true) else(nx,put))=(n1,p1)/\n1.length<=2*k+1/\(p1=false->x≠y/\fN x o=n1++y::fN x (o.drop (k+1)))/\(p1=true->fN x o=n1++(y::o.drop (k+1)).filter (fun z=>decide (z≠x))):=by
    by_cases hp:put=false/\(az x y\/x=y)
    ·refine⟨_,_,if_pos hp,by simp;omega,by simp,fun _=>?_⟩
     rw[h1 hp.1,fN,if_pos hp.2];simp
    ·refine⟨_,_,if_neg hp,by omega,fun e=>?_,fun e=>h2 e⟩
     have hn:¬ (az x y\/x=y):=fun h=>hp ⟨e,h⟩
     refine⟨fun h=>hn (.inr h),?_⟩
     rw[h1 e,fN,if_neg hn]
   refine⟨[aN o,aN (if y≠x then n1++[y] else n1),.bool p1,I ((k+1:Nat):Int)],?_,_,p1,rfl,?_,?_,?_⟩
   ·refine aa ah (aa ae (aH (by show((k:Int)<((o.map af).length:Int));rw[ol];omega) ?_))
    have app:∀ (a:List V) (z:V),D.sl ((a.map af)++[af z])=aN (a++[z]):=fun a z=>by simp[aN]
    have al:∀ a:List V,(a.map af).length=a.length:=fun a=>List.length_map ..
    refine aa (z:=(0,[aN o,aN (if y≠x then n1++[y] else n1),.bool p1])) ?_ (aa (av (ar (i:=k) (by omega))) rfl)
    refine aa (z:=l.map af) rfl (aa (z:=i) (by rw[ll];exact ao hi) (aa hxg (aa (z:=k) (by show D.idx (I (k:Int)) (o.map af).length=_;rw[ol];exact ao hk) (aa hyg (aa (GF n x y) (aa (z:=(0,[aN o,aN n1,.bool p1])) ?_ ?_))))))
    ·refine aa (z:=.bool (!put)) rfl (aa ae (aa (z:=!put&&decide (az x y\/x=y)) ?_ (aa ae ?_)))
     ·cases put
      ·rw[show(!false)=true from rfl,if_pos rfl]
       refine aa ae ?_
       by_cases hlt:az x y
       ·refine aH hlt ?_
        rw[decide_eq_true (.inl hlt)];rfl
       ·refine aD hlt ?_
        refine aa (z:=l.map af) rfl (aa (z:=i) (by rw[ll];exact ao hi) (aa hxg (aa (z:=k) (by show D.idx (I (k:Int)) (o.map af).length=_;rw[ol];exact ao hk) (aa hyg ?_))))
        rw[gl,ae]
        simp[hlt]
      ·rfl
     ·by_cases hp:put=false/\(az x y\/x=y)
      ·rw[if_pos hp] at he
       cases he
       rw[show(!put&&decide (az x y\/x=y))=true by rw[hp.1,decide_eq_true hp.2];rfl,if_pos rfl]
       refine aa (z:=l.map af) rfl (aa (z:=i) (by rw[ll];exact ao hi) (aa hxg ?_))
       rw[if_pos (by show(nx.map af).length+1<=1073741824;rw[al];omega)]
       rw[<-app];rfl
      ·rw[if_neg hp] at he
       cases he
       rw[show(!put&&decide (az x y\/x=y))=false by
        cases hput:put
        ·have:¬ (az x y\/x=y):=fun h=>hp ⟨hput,h⟩
         simp[this]
        ·rfl]
       rfl
    ·refine aa (z:=k) (by show D.idx (I (k:Int)) (o.map af).length=_;rw[ol];exact ao hk) (aa hyg (aa (z:=l.map af) rfl (aa (z:=i) (by rw[ll];exact ao hi) (aa hxg ?_))))
     rw[gl]
     refine aa ae ?_
     by_cases hyx:y=x
     ·rw[decide_eq_true hyx,if_neg (show ¬ (y≠x) from fun h=>h hyx)];rfl
     ·rw[decide_eq_false hyx,if_pos (show y≠x from hyx),show(!false)=true from rfl,if_pos rfl]
      refine aa (z:=k) (by show D.idx (I (k:Int)) (o.map af).length=_;rw[ol];exact ao hk) (aa hyg ?_)
      rw[if_pos (by show(n1.map af).length+1<=1073741824;rw[al];omega)]
      rw[<-app];rfl
   ·split
    ·simp;omega
    ·omega
   ·intro e
    obtain⟨r1,r2⟩:=q1 e
    rw[if_pos (fun h=>r1 h.symm),r2];simp
   ·intro e
    rw[q2 e,List.filter_cons]
    by_cases hyx:y=x
    ·simp[hyx]
    ·simp[hyx]
  ·obtain⟨nx,put,rfl,hnl,h1,h2⟩:=hJ
   refine⟨(0,[aN nx,.bool put]),?_,?_⟩
   ·exact aa ah (aa ae (aD (by show ¬ ((o.length:Int)<((o.map af).length:Int));rw[ol];omega) rfl))
   ·have al:∀ a:List V,(a.map af).length=a.length:=fun a=>List.length_map ..
    rw[List.drop_length] at h1 h2
    refine aa (z:=(0,[aN (fN x o)])) ?_ (aa (av (ar (i:=i) (by omega))) rfl)
    refine aa (z:=.bool (!put)) rfl (aa ae ?_)
    cases put
    ·rw[show(!false)=true from rfl,if_pos rfl]
     refine aa (z:=l.map af) rfl (aa (z:=i) (by rw[ll];exact ao hi) (aa hxg ?_))
     rw[if_pos (by show(nx.map af).length+1<=1073741824;rw[al];omega)]
     rw[h1 rfl]
     simp[fN,aN,g0,D.els]
    ·have:=h2 rfl
     simp only[List.filter_nil,List.append_nil] at this
     rw[this];rfl
 ·subst hJ
  rw[List.take_length]
  refine⟨(0,[aN (c9 l)]),?_,rfl⟩
  exact aa (z:=l.map af) rfl (aa ah (aa ae (aD (by show ¬ ((l.length:Int)<((l.map af).length:Int));rw[ll];omega) rfl)))
structure FOk(l:List V)(F:FL):Prop where
 ord:F.Pairwise (fun a b=>az a.1.1 b.1.1)
 ok:∀ f∈F,IsF (pt l) l.length f.1.1 f.1.2/\cb (pt l) l.length f.1.1 f.1.2 f.2
theorem gw{f x:(V×Int)×List Nat}:∀ {L:FL},x∈eY f L↔x=f\/x∈L
 | []=>by simp[eY]
 | y::L=>by
  have ih:=gw (f:=f) (x:=x) (L:=L)
  unfold eY
  split
  ·simp
  ·simp only[List.mem_cons,ih]
   constructor
   ·rintro(h|h|h)
    ·exact .inr (.inl h)
    ·exact .inl h
    ·exact .inr (.inr h)
   ·rintro(h|h|h)
    ·exact .inr (.inl h)
    ·exact .inl h
    ·exact .inr (.inr h)
theorem vG{f:(V×Int)×List Nat}:∀ {L:FL},L.Pairwise (fun a b=>az a.1.1 b.1.1)->(∀ x∈L,x.1.1≠f.1.1)->(eY f L).Pairwise (fun a b=>az a.1.1 b.1.1)
 | [],_,_=>by simp[eY]
 | y::L,h,hn=>by
  obtain⟨h1,h2⟩:=List.pairwise_cons.1 h
  unfold eY
  split
  ·rename_i k
   refine List.pairwise_cons.2 ⟨fun z hz=>?_,h⟩
   rcases List.mem_cons.1 hz with rfl|hz
   ·exact k
   ·exact jP k (h1 z hz)
  ·rename_i k
   refine List.pairwise_cons.2 ⟨fun z hz=>?_,vG h2 fun x hx=>hn x (List.mem_cons_of_mem _ hx)⟩
   rcases gw.1 hz with rfl|hz
   ·rcases nD (hn y List.mem_cons_self) with k'|k'
    ·exact k'
    ·exact absurd k' k
   ·exact h1 z hz
def yp(l:List V):List (V×Int):=(List.range l.length).flatMap fun i=>(List.range l.length).flatMap fun j=>(List.range l.length).flatMap fun k=>[(bA (er (pt l) i j k),V.dot (bA (er (pt l) i j k)) (pt l i)),((bA (er (pt l) i j k)).neg,V.dot (bA (er (pt l) i j k)).neg (pt l i))]
theorem zp(l:List V)(h:l.length<=100):(yp l).length<=2000000:=by
 unfold yp
 rw[lh (c:=l.length*(l.length*2)) _ (fun i _=>by rw[lh (c:=l.length*2) _ (fun j _=>by rw[lh (c:=2) _ (fun k _=>rfl),List.length_range]),List.length_range]),List.length_range]
 have a1:l.length*2<=200:=by omega
 have a2:l.length*(l.length*2)<=100*200:=Nat.mul_le_mul h a1
 exact Nat.mul_le_mul h a2
theorem zE{l:List V}{q:V×Int}(h:IsF (pt l) l.length q.1 q.2):q∈yp l:=by
 obtain⟨i,j,k,h1,h2,h3,h4,h5,h6⟩:=h.ex
 refine List.mem_flatMap.2 ⟨i,List.mem_range.2 (by omega),List.mem_flatMap.2 ⟨j,List.mem_range.2 (by omega),List.mem_flatMap.2 ⟨k,List.mem_range.2 h3,?_⟩⟩⟩
 obtain⟨a,b⟩:=q
 simp only at h5 h6
 subst h6
 rcases h5 with rfl|rfl<;>simp
theorem FOk.len{l:List V}{F:FL}(h:FOk l F)(hl:l.length<=100):F.length<=2000000:=by
 have nd:(F.map Prod.fst).Nodup:=by
  refine List.pairwise_map.2 (h.ord.imp fun{a b} hab e=>?_)
  rw[e] at hab;exact nC _ hab
 have:=List.Nodup.length_le_of_subset (l₂:=yp l) nd fun q hq=>by
  obtain⟨f,hf,rfl⟩:=List.mem_map.1 hq
  exact zE (h.ok f hf).1
 rw[List.length_map] at this
 exact Nat.le_trans this (zp l hl)
theorem FOk.insert{l:List V}{F:FL}(h:FOk l F){f:(V×Int)×List Nat}(hn:∀ x∈F,x.1.1≠f.1.1)(h1:IsF (pt l) l.length f.1.1 f.1.2)(h2:cb (pt l) l.length f.1.1 f.1.2 f.2):FOk l (eY f F):=
 ⟨vG h.ord hn,fun x hx=>by
  rcases gw.1 hx with rfl|hx
  ·exact⟨h1,h2⟩
  ·exact h.ok x hx⟩
theorem jc{v:V}:bA v=V.zero↔v=V.zero:=by
 constructor
 ·intro h
  by_cases hv:v=V.zero
  ·exact hv
  ·exact absurd h (pa hv)
 ·rintro rfl
  apply V.ext'<;>simp[bA,V.zero]
theorem sB{v:V}:v.neg=V.zero↔v=V.zero:=by
 constructor
 ·intro h
  by_cases hv:v=V.zero
  ·exact hv
  ·exact absurd h (BP hv)
 ·rintro rfl
  apply V.ext'<;>simp[V.neg,V.zero]
theorem ab{α β:Type}{A:Option α}{g:α->Option β}{z:α}{Y:β->Prop}(h:A=some z)(hk:∃ y,g z=some y/\Y y):∃ y,Option.bind A g=some y/\Y y:=by
 rw[h];exact hk
theorem bE{β:Type}{p:Prop}[Decidable p]{A B:Option β}{Y:β->Prop}(h:p)(hA:∃ y,A=some y/\Y y):∃ y,(if decide p=true then A else B)=some y/\Y y:=by rw[if_pos (decide_eq_true h)];exact hA
theorem tH{β:Type}{p:Prop}[Decidable p]{A B:Option β}{Y:β->Prop}(h:¬ p)(hA:∃ y,B=some y/\Y y):∃ y,(if decide p=true then A else B)=some y/\Y y:=by rw[if_neg (by simpa using h)];exact hA
theorem Cw(n:Nat){l:List V}(hl:∀ x∈l,bd MV x)(hlen:l.length<=100)(hs:AX l){F:FL}(hF:FOk l F){i j k:Nat}(hij:i<j)(hjk:j<k)(hk:k<l.length){m:V}(hm:m=bA (er (pt l) i j k)\/m=(bA (er (pt l) i j k)).neg){α:Type}{g:D->Nat×List D->Option α}{Y:α->Prop}
  (hg:∀ F':FL,FOk l F'->(∀ f∈F,f∈F')->(er (pt l) i j k≠V.zero->qZ (pt l) l.length m (V.dot m (pt l i))->(m,V.dot m (pt l i))∈F'.map Prod.fst)->∃ y,g (I (V.dot m (pt l i))) (0,[.sl (aq F')])=some y/\Y y) :
  ∃ y,(Option.bind (cA (n+4) 107 [af m,af (pt l i)]) fun r31=>
  Option.bind (cA (n+4) 108 [.sl (aq F),af m]) fun r32=>
  Option.bind (Option.bind (D.un .not r32) fun x33=>
  Option.bind (D.truth x33) fun b34=>
  Option.bind (if b34 then(Option.bind (D.un .not (D.bool (D.beq (af m) (D.st [(D.int .i64 0),(D.int .i64 0),(D.int .i64 0)])))) fun x35=>
  D.truth x35) else(some false)) fun b36=>
  Option.bind (D.truth (D.bool b36)) fun b37=>
  Option.bind (if b37 then(Option.bind (cA (n+4) 109 [aN l,af m,r31]) fun r38=>
  D.truth r38) else(some false)) fun b39=>
  Option.bind (D.truth (D.bool b39)) fun b40=>
  if b40 then(Option.bind (cA (n+4) 111 [aN l,af m,r31]) fun r41=>
  Option.bind (cA (n+4) 110 [.sl (aq F),(D.st [af m,r31,r41])]) fun r42=>
  some (0,[r42])) else(some (0,[.sl (aq F)]))) (g r31))=some y/\Y y:=by
 have hi:i<l.length:=by omega
 have bt:bd 549755813888 (bA (er (pt l) i j k)):=gS (fL (gT (P:=pt l) (hl _ (bL hi)) (hl _ (bL (show j<l.length by omega)))) (gT (P:=pt l) (hl _ (bL hi)) (hl _ (bL hk))))
 have bm:bd 549755813888 m:=by
  rcases hm with rfl|rfl
  ·exact bt
  ·exact kU bt
 have hFl:=hF.len hlen
 have hmz:m=V.zero↔er (pt l) i j k=V.zero:=by
  rcases hm with rfl|rfl
  ·exact jc
  ·rw[sB,jc]
 refine ab (wV (n+3) bm (hl _ (bL hi)) (by decide)) (ab (Ii (n+3) F m (by omega)) ?_)
 obtain⟨d,hd⟩:∃ d,V.dot m (l.getD i V.zero)=d:=⟨_,rfl⟩
 have hdp:V.dot m (pt l i)=d:=hd
 rw[hdp] at hg
 rw[hdp]
 by_cases hkn:(F.any fun f=>decide (f.1.1=m))=true
 ·rw[hkn]
  refine ab (z:=(0,[.sl (aq F)])) (aa (z:=.bool false) rfl (aa (z:=false) rfl (aa (z:=false) rfl (aa (z:=false) rfl (aa (z:=false) rfl (aa (z:=false) rfl rfl)))))) (hg F hF (fun f hf=>hf) fun ht hsp=>?_)
  obtain⟨f,hf,hfm⟩:=List.any_eq_true.1 hkn
  have hfm:f.1.1=m:=by simpa using hfm
  have h1:=(hF.ok f hf).1
  rw[hfm] at h1
  have h2:IsF (pt l) l.length m d:=⟨⟨i,j,k,hij,hjk,hk,ht,hm,hdp.symm⟩,hsp⟩
  exact List.mem_map.2 ⟨f,hf,Prod.ext hfm (IsF.d_eq h1 h2)⟩
 ·rw[Bool.not_eq_true] at hkn
  rw[hkn]
  have hnk:∀ f∈F,f.1.1≠m:=fun f hf e=>by
   have:=List.any_eq_false.1 hkn f hf
   simp[e] at this
  by_cases hz:m=V.zero
  ·refine ab (z:=(0,[.sl (aq F)])) (aa (z:=.bool true) rfl (aa (z:=true) rfl (aa (z:=false) ?_ (aa (z:=false) rfl (aa (z:=false) rfl (aa (z:=false) rfl rfl)))))) (hg F hF (fun f hf=>hf) fun ht hsp=>absurd (hmz.1 hz) ht)
   rw[if_pos rfl,iV,gl,decide_eq_true (show m=⟨0,0,0⟩ from hz)];rfl
  ·have ht:er (pt l) i j k≠V.zero:=fun e=>hz (hmz.2 e)
   have hc:=Ij (n+2) (d:=d) hl bm (by decide) (by omega)
   by_cases hsp:supp l (m,d)=true
   ·have hFm:IsF (pt l) l.length m d:=⟨⟨i,j,k,hij,hjk,hk,ht,hm,hdp.symm⟩,iL.1 hsp⟩
    obtain⟨p,hp,_,_⟩:=hFm.poly hs
    refine ab (z:=(0,[.sl (aq (eY ((m,d),p) F))])) (aa (z:=.bool true) rfl (aa (z:=true) rfl (aa (z:=true) ?_ (aa (z:=true) rfl (aa (z:=true) ?_ (aa (z:=true) rfl ?_)))))) (hg _ (hF.insert hnk hFm hp) (fun f hf=>gw.2 (.inr hf)) fun _ _=>List.mem_map.2 ⟨((m,d),p),gw.2 (.inl rfl),rfl⟩)
    ·rw[if_pos rfl,iV,gl,decide_eq_false (show ¬ m=⟨0,0,0⟩ from hz)];rfl
    ·rw[if_pos rfl]
     refine aa hc ?_
     rw[ae];exact congrArg some hsp
    ·rw[if_pos rfl]
     exact aa (I3 n hl hlen hs hFm bm hp) (aa (NU (n+2) F ((m,d),p) (by omega)) rfl)
   ·refine ab (z:=(0,[.sl (aq F)])) (aa (z:=.bool true) rfl (aa (z:=true) rfl (aa (z:=true) ?_ (aa (z:=true) rfl (aa (z:=false) ?_ (aa (z:=false) rfl rfl)))))) (hg F hF (fun f hf=>hf) fun _ hsp'=>absurd (iL.2 hsp') hsp)
    ·rw[if_pos rfl,iV,gl,decide_eq_false (show ¬ m=⟨0,0,0⟩ from hz)];rfl
    ·rw[if_pos rfl]
     refine aa hc ?_
     rw[ae]
     exact congrArg some (Bool.eq_false_iff.2 hsp)
structure KnF(l:List V)(i j k:Nat)(F:FL):Prop where
 fok:FOk l F
 all:∀ i' j' k',i'<j'->j'<k'->k'<l.length->(i'<i\/i'=i/\(j'<j\/j'=j/\k'<k))->er (pt l) i' j' k'≠V.zero->∀ m,(m=bA (er (pt l) i' j' k')\/m=(bA (er (pt l) i' j' k')).neg)->qZ (pt l) l.length m (V.dot m (pt l i'))->(m,V.dot m (pt l i'))∈F.map Prod.fst
theorem KnF.mono{l:List V}{i j k i2 j2 k2:Nat}{F:FL}(h:KnF l i j k F)(hm:∀ i' j' k',i'<j'->j'<k'->k'<l.length->(i'<i2\/i'=i2/\(j'<j2\/j'=j2/\k'<k2))->(i'<i\/i'=i/\(j'<j\/j'=j/\k'<k))):KnF l i2 j2 k2 F:=
 ⟨h.fok,fun i' j' k' h1 h2 h3 h4=>h.all i' j' k' h1 h2 h3 (hm i' j' k' h1 h2 h3 h4)⟩
theorem KnF.facets{l:List V}{F:FL}(h:KnF l l.length 0 0 F):Facets (pt l) l.length (F.map Prod.fst):=by
 refine⟨List.pairwise_map.2 h.fok.ord,fun q=>⟨fun hq=>?_,fun hq=>?_⟩⟩
 ·obtain⟨f,hf,rfl⟩:=List.mem_map.1 hq
  exact(h.fok.ok f hf).1
 ·obtain⟨⟨i,j,k,h1,h2,h3,c1,c2,c3⟩,hs⟩:=hq
  obtain⟨m,d⟩:=q
  simp only at c2 c3 hs
  subst c3
  exact h.all i j k h1 h2 h3 (.inl (by omega)) c1 m c2 hs
end Sy
end
noncomputable section
namespace Sy
open Go Go.Proofs Geo
def mt(p:V):Nat->V
 | 0=>p
 | 1=>p.neg
 | _=>p
theorem QQ(n:Nat){l:List V}(hl:∀ x∈l,bd MV x)(hlen:l.length<=100)(hs:AX l):∃ F:FL,KnF l l.length 0 0 F/\cA (n+7) 48 [aN l]=some (.sl (aq F)):=by
 suffices h:∃ y,cA (n+7) 48 [aN l]=some y/\∃ F:FL,KnF l l.length 0 0 F/\y=.sl (aq F) by
  obtain⟨y,h1,F,h2,rfl⟩:=h
  exact⟨F,h2,h1⟩
 rw[Tu]
 unfold Jx
 have ll:(l.map af).length=l.length:=List.length_map ..
 refine dz (fun i s=>∃ F:FL,s=[.sl (aq F),I (i:Int)]/\KnF l i 0 0 F) l.length 0 (Nat.zero_le _) ⟨[],rfl,⟨.nil,by simp⟩,fun i' j' k' h1 h2 h3 h4=>by omega⟩ (fun i hi s hJ=>?_) (fun s hJ=>?_)
 ·obtain⟨F,rfl,hF⟩:=hJ
  refine ab (z:=l.map af) rfl (ab ah (ab ae (bE (by show((i:Int)<((l.map af).length:Int));rw[ll];omega) (ab (av (ar (i:=i) (by omega))) ?_))))
  refine dz (fun j s=>i+1<=j/\∃ F:FL,s=[.sl (aq F),I (j:Int)]/\KnF l i j 0 F) l.length (i+1) (by omega) ⟨Nat.le_refl _,F,rfl,hF.mono fun i' j' k' h1 h2 h3 h4=>by omega⟩ (fun j hj s hJ=>?_) (fun s hJ=>?_)
  ·obtain⟨hij,F,rfl,hF⟩:=hJ
   refine ab (z:=l.map af) rfl (ab ah (ab ae (bE (by show((j:Int)<((l.map af).length:Int));rw[ll];omega) (ab (av (ar (i:=j) (by omega))) ?_))))
   refine dz (fun k s=>j+1<=k/\∃ F:FL,s=[.sl (aq F),I (k:Int)]/\KnF l i j k F) l.length (j+1) (by omega) ⟨Nat.le_refl _,F,rfl,hF.mono fun i' j' k' h1 h2 h3 h4=>by omega⟩ (fun k hk s hJ=>?_) (fun s hJ=>?_)
   ·obtain⟨hjk,F,rfl,hF⟩:=hJ
    refine ab (z:=l.map af) rfl (ab ah (ab ae (bE (by show((k:Int)<((l.map af).length:Int));rw[ll];omega) ?_)))
    refine ab (z:=l.map af) rfl (ab (z:=i) (by rw[ll];exact ao hi) (ab (co hi) (ab (z:=l.map af) rfl (ab (z:=j) (by rw[ll];exact ao hj) (ab (co hj) (ab (z:=l.map af) rfl (ab (z:=k) (by rw[ll];exact ao hk) (ab (co hk) (ab (z:=af (bA (er (pt l) i j k))) (Ih n (hl _ (bL hi)) (hl _ (bL hj)) (hl _ (bL hk))) ?_)))))))))
    have bt:bd 549755813888 (bA (er (pt l) i j k)):=gS (fL (gT (P:=pt l) (hl _ (bL hi)) (hl _ (bL hj))) (gT (P:=pt l) (hl _ (bL hi)) (hl _ (bL hk))))
    obtain⟨p,hp⟩:∃ p,bA (er (pt l) i j k)=p:=⟨_,rfl⟩
    rw[hp] at bt ⊢
    have z0:bd 0 V.zero:=by simp only[bd,V.zero];omega
    have e1:V.zero.sub p=p.neg:=by apply V.ext'<;>simp[V.sub,V.neg,V.zero]
    have e2:V.zero.sub p.neg=p:=by apply V.ext'<;>simp[V.sub,V.neg,V.zero]
    refine dz (fun t s=>∃ F':FL,s=[.sl (aq F'),I (t:Int),af (mt p t)]/\FOk l F'/\(∀ f∈F,f∈F')/\(1<=t->er (pt l) i j k≠V.zero->qZ (pt l) l.length p (V.dot p (pt l i))->(p,V.dot p (pt l i))∈F'.map Prod.fst)/\(2<=t->er (pt l) i j k≠V.zero->qZ (pt l) l.length p.neg (V.dot p.neg (pt l i))->(p.neg,V.dot p.neg (pt l i))∈F'.map Prod.fst)) 2 0 (by omega) ⟨F,rfl,hF.fok,fun f hf=>hf,fun h=>by omega,fun h=>by omega⟩ (fun t ht s hJ=>?_) (fun s hJ=>?_)
    ·obtain⟨F',rfl,f1,f2,f3,f4⟩:=hJ
     refine ab ah (ab ae (bE (by show((t:Int)<2);omega) (ab (z:=l.map af) rfl (ab (z:=i) (by rw[ll];exact ao hi) (ab (co hi) ?_)))))
     have ht':t=0\/t=1:=by omega
     simp only[g0,g1,g2]
     rcases ht' with rfl|rfl
     ·rw[show mt p 0=p from rfl]
      refine Cw (n+2) hl hlen hs f1 (show i<j by omega) (show j<k by omega) hk (m:=p) (.inl hp.symm) (fun F2 k1 k2 k3=>?_)
      refine⟨.inl [.sl (aq F2),I ((0+1:Nat):Int),af p.neg],?_,?_⟩
      ·refine aa (z:=af p.neg) ?_ ?_
       ·have:=tn (n+5) z0 bt (by decide)
        rw[e1] at this
        exact this
       ·exact aa (av G1) rfl
      ·exact⟨F2,rfl,k1,fun f hf=>k2 f (f2 f hf),fun _=>k3,fun h=>by omega⟩
     ·rw[show mt p 1=p.neg from rfl]
      refine Cw (n+2) hl hlen hs f1 (show i<j by omega) (show j<k by omega) hk (m:=p.neg) (.inr (by rw[hp])) (fun F2 k1 k2 k3=>?_)
      refine⟨.inl [.sl (aq F2),I ((1+1:Nat):Int),af p],?_,F2,rfl,k1,fun f hf=>k2 f (f2 f hf),fun _ h1 h2=>?_,fun _=>k3⟩
      ·refine aa (z:=af p) ?_ ?_
       ·have:=tn (n+5) z0 (kU bt) (by decide)
        rw[e2] at this
        exact this
       ·exact aa (av lg) rfl
      ·obtain⟨f,hf,e⟩:=List.mem_map.1 (f3 (Nat.le_refl _) h1 h2)
       exact List.mem_map.2 ⟨f,k2 f hf,e⟩
    ·obtain⟨F',rfl,f1,f2,f3,f4⟩:=hJ
     refine⟨.inr (0,[.sl (aq F')]),aa ah (aa ae (aD (by decide) rfl)),.inl [.sl (aq F'),I ((k+1:Nat):Int)],aa (av (ar (i:=k) (by omega))) rfl,by omega,F',rfl,f1,fun i' j' k' h1 h2 h3 h4 h5 m h6 h7=>?_⟩
     by_cases e:i'=i/\j'=j/\k'=k
     ·obtain⟨rfl,rfl,rfl⟩:=e
      rw[hp] at h6
      rcases h6 with rfl|rfl
      ·exact f3 (by omega) h5 h7
      ·exact f4 (by omega) h5 h7
     ·obtain⟨f,hf,e⟩:=List.mem_map.1 (hF.all i' j' k' h1 h2 h3 (by omega) h5 m h6 h7)
      exact List.mem_map.2 ⟨f,f2 f hf,e⟩
   ·obtain⟨hjk,F,rfl,hF⟩:=hJ
    refine⟨.inr (0,[.sl (aq F)]),?_,.inl [.sl (aq F),I ((j+1:Nat):Int)],aa (av (ar (i:=j) (by omega))) rfl,by omega,F,rfl,hF.mono fun i' j' k' h1 h2 h3 h4=>by omega⟩
    exact aa (z:=l.map af) rfl (aa ah (aa ae (aD (by show ¬ ((l.length:Int)<((l.map af).length:Int));rw[ll];omega) rfl)))
  ·obtain⟨hij,F,rfl,hF⟩:=hJ
   refine⟨.inr (0,[.sl (aq F)]),?_,.inl [.sl (aq F),I ((i+1:Nat):Int)],aa (av (ar (i:=i) (by omega))) rfl,F,rfl,hF.mono fun i' j' k' h1 h2 h3 h4=>by omega⟩
   exact aa (z:=l.map af) rfl (aa ah (aa ae (aD (by show ¬ ((l.length:Int)<((l.map af).length:Int));rw[ll];omega) rfl)))
 ·obtain⟨F,rfl,hF⟩:=hJ
  refine⟨.inr (0,[.sl (aq F)]),?_,.sl (aq F),rfl,F,hF,rfl⟩
  exact aa (z:=l.map af) rfl (aa ah (aa ae (aD (by show ¬ ((l.length:Int)<((l.map af).length:Int));rw[ll];omega) rfl)))
end Sy
end
noncomputable section
namespace Sy
open Go Go.Proofs Geo
theorem aC(l:List V):(l.map af).length=l.length:=List.length_map ..
theorem SR(n:Nat)(a b:List V)(ha:a.length<=1000000):cA (n+1) 13 [aN a,aN b]=some (.bool (decide (a=b))):=by
 rw[Tf]
 unfold Jj
 refine aa (z:=a.map af) rfl (aa (z:=b.map af) rfl ?_)
 rw[aC,aC,bP]
 by_cases hab:a.length=b.length
 ·rw[decide_eq_true hab]
  refine aa (z:=false) rfl ?_
  rw[if_neg (by decide)]
  refine ba (fun i s=>s=[I (i:Int)]/\a.take i=b.take i) a.length 0 (Nat.zero_le _) ⟨rfl,by simp⟩ (fun i hi s hJ=>?_) (fun s hJ=>?_)
  ·obtain⟨rfl,hz⟩:=hJ
   have hib:i<b.length:=by omega
   have pre:∀ z,(Option.bind (D.truth (D.bool (!(D.beq (af (a.getD i V.zero)) (af (b.getD i V.zero)))))) fun b14=>
     if b14 then(some (Sum.inr (0,[(D.bool false)]))) else(Option.bind (D.bin .add (I (i:Int)) (D.int .i64 1)) fun x15=>some (Sum.inl [x15])))=some z ->
     (Option.bind (D.asSl (aN a)) fun l5=>Option.bind (D.bin .lss (I (i:Int)) (D.int .i64 (List.length l5))) fun x6=>Option.bind (D.truth x6) fun b7=>
     if b7 then(Option.bind (D.asSl (aN a)) fun l8=>Option.bind (D.idx (I (i:Int)) (List.length l8)) fun i9=>Option.bind (l8[i9]?) fun x10=>Option.bind (D.asSl (aN b)) fun l11=>Option.bind (D.idx (I (i:Int)) (List.length l11)) fun lg=>Option.bind (l11[lg]?) fun x13=>
     Option.bind (D.truth (D.bool (!(D.beq x10 x13)))) fun b14=>
     if b14 then(some (Sum.inr (0,[(D.bool false)]))) else(Option.bind (D.bin .add (I (i:Int)) (D.int .i64 1)) fun x15=>some (Sum.inl [x15]))) else(some (Sum.inr (1,[]):Sum (List D) (Nat×List D))))=some z:=fun z hz=>
    aa (z:=a.map af) rfl (aa ah (aa ae (aH (by show((i:Int)<((a.map af).length:Int));rw[aC];omega) (aa (z:=a.map af) rfl (aa (z:=i) (by rw[aC];exact ao hi) (aa (co hi) (aa (z:=b.map af) rfl (aa (z:=i) (by rw[aC];exact ao hib) (aa (co hib) hz)))))))))
   rw[gl] at pre
   by_cases he:a.getD i V.zero=b.getD i V.zero
   ·left
    refine⟨[I ((i+1:Nat):Int)],pre _ ?_,rfl,?_⟩
    ·rw[decide_eq_true he]
     refine aa (z:=false) rfl ?_
     rw[if_neg (by decide)]
     exact aa (av (ar (i:=i) (by omega))) rfl
    ·rw[List.take_succ_eq_append_getElem hi,List.take_succ_eq_append_getElem hib,hz]
     simp only[List.getD,hi,hib,List.getElem?_eq_getElem,Option.getD_some] at he
     rw[he]
   ·right
    refine⟨(0,[.bool false]),pre _ ?_,?_⟩
    ·rw[decide_eq_false he];rfl
    ·rw[decide_eq_false (fun e=>he (by rw[e]))];rfl
  ·obtain⟨rfl,hz⟩:=hJ
   refine⟨(1,[]),?_,?_⟩
   ·exact aa (z:=a.map af) rfl (aa ah (aa ae (aD (by show ¬ ((a.length:Int)<((a.map af).length:Int));rw[aC];omega) rfl)))
   ·rw[List.take_length,hab,List.take_length] at hz
    rw[decide_eq_true hz];rfl
 ·rw[decide_eq_false hab,decide_eq_false (fun e=>hab (by rw[e]))]
  rfl
instance decBd (k:Int) (v:V):Decidable (bd k v):=by unfold bd;exact inferInstance
def lP(v:V):Nat->Int
 | 0=>v.x
 | 1=>v.y
 | _=>v.z
theorem Br(v:V){t:Nat}(h:t<3):D.fld (af v) t=some (I (lP v t)):=by
 have:t=0\/t=1\/t=2:=by omega
 rcases this with rfl|rfl|rfl<;>rfl
theorem yk{v:V}:bd MV v↔∀ t,t<3->¬ (lP v t>262144)/\¬ (lP v t < -262144):=by
 constructor
 ·intro h t ht
  have:t=0\/t=1\/t=2:=by omega
  simp only[bd,MV] at h
  rcases this with rfl|rfl|rfl<;>simp only[lP]<;>omega
 ·intro h
  have h0:=h 0 (by decide);have h1:=h 1 (by decide);have h2:=h 2 (by decide)
  simp only[lP] at h0 h1 h2
  simp only[bd,MV];omega
def gW(F:FL)(i:Nat):Bool:=F.any fun f=>f.2.any fun x=>decide (x=i)
def cN(S:List V)(F:FL)(k:Nat):List V:=((List.range k).filter (gW F)).map (pt S)
theorem xW(S:List V)(F:FL)(k:Nat):cN S F (k+1)=if gW F k then cN S F k++[pt S k] else cN S F k:=by
 unfold cN
 rw[List.range_succ,List.filter_append]
 by_cases h:gW F k=true<;>simp[h]
theorem tc(S:List V)(F:FL)(k:Nat):(cN S F k).length<=k:=by
 unfold cN;rw[List.length_map];exact Nat.le_trans (List.length_filter_le _ _) (by simp)
def w9(e:Int):D:=.st [.st [.sl []],I e]
def yF(S:List V)(F:FL):D:=if F.length=0 then w9 120 else if F.length>64 then w9 2 else .st [.st [aN (cN S F S.length)],I 0]
theorem EG(n:Nat){l:List V}(h:64<l.length):cA (n+1) 12 [aN l]=some (w9 2):=by
 rw[Pi]
 unfold Hr
 exact aa (z:=l.map af) rfl (aa bS (aa ae (aH (by show((l.map af).length:Int)>64;rw[aC];omega) rfl)))
theorem G2{l:List V}{i:Nat}(hi:i<l.length){α:Type}{k:Nat×List D->Option α}{y:α}(hy:k (if bd MV (l.getD i V.zero) then(1,[.sl [],I 0]) else(0,[.sl [],I 1]))=some y) :
  Option.bind (aP (fun(v8:List D)=>
 Option.bind (D.bin .lss (gx v8 0) (D.int .i64 3)) fun x9=>
 Option.bind (D.truth x9) fun b10=>
 if b10 then(Option.bind (D.asSl (aN l)) fun l11=>
 Option.bind (D.idx (I (i:Int)) (List.length l11)) fun lg=>
 Option.bind (l11[lg]?) fun x13=>
 Option.bind (D.idx (gx v8 0) 3) fun i14=>
 Option.bind (D.fld x13 i14) fun x15=>
 Option.bind (D.bin .gtr x15 (D.int .i64 262144)) fun x16=>
 Option.bind (D.truth x16) fun b17=>
 Option.bind (if b17 then(some true) else(Option.bind (D.asSl (aN l)) fun l18=>
 Option.bind (D.idx (I (i:Int)) (List.length l18)) fun i19=>
 Option.bind (l18[i19]?) fun x20=>
 Option.bind (D.idx (gx v8 0) 3) fun i21=>
 Option.bind (D.fld x20 i21) fun x22=>
 Option.bind (D.bin .lss x22 (D.int .i64 (-262144))) fun x23=>
 D.truth x23)) fun b24=>
 Option.bind (D.truth (D.bool b24)) fun b25=>
 if b25 then(some (Sum.inr (0,[(D.sl []),(D.int .i64 1)]))) else(Option.bind (D.bin .add (gx v8 0) (D.int .i64 1)) fun x26=>
 some (Sum.inl [x26,(D.sl (D.els (gx v8 1))),(gx v8 2)]))) else(some (Sum.inr (1,[(D.sl (D.els (gx v8 1))),(gx v8 2)])))) [(D.int .i64 0),.sl [],I 0]) k=some y:=by
 refine dn (fun t s=>s=[I (t:Int),.sl [],I 0]/\∀ t',t'<t->¬ (lP (l.getD i V.zero) t'>262144)/\¬ (lP (l.getD i V.zero) t' < -262144)) 3 0 (by decide) ⟨rfl,fun t' h=>by omega⟩ (fun t ht s hJ=>?_) (fun s hJ=>?_)
 ·obtain⟨rfl,hz⟩:=hJ
  have hf:=Br (l.getD i V.zero) ht
  have ix:D.idx (I (t:Int)) 3=some t:=ao ht
  have pre:∀ z,(if decide (lP (l.getD i V.zero) t>262144\/lP (l.getD i V.zero) t < -262144)=true then(some (Sum.inr (0,[(D.sl []),(D.int .i64 1)]))) else(Option.bind (D.bin .add (I (t:Int)) (D.int .i64 1)) fun x26=>some (Sum.inl [x26,.sl [],I 0])))=some z->_:=fun(z:Sum (List D) (Nat×List D)) hz'=>
   aa (g:=fun x9=>Option.bind (D.truth x9) fun b10=>if b10 then(Option.bind (D.asSl (aN l)) fun l11=>Option.bind (D.idx (I (i:Int)) (List.length l11)) fun lg=>Option.bind (l11[lg]?) fun x13=>Option.bind (D.idx (I (t:Int)) 3) fun i14=>Option.bind (D.fld x13 i14) fun x15=>Option.bind (D.bin .gtr x15 (D.int .i64 262144)) fun x16=>Option.bind (D.truth x16) fun b17=>
    Option.bind (if b17 then(some true) else(Option.bind (D.asSl (aN l)) fun l18=>Option.bind (D.idx (I (i:Int)) (List.length l18)) fun i19=>Option.bind (l18[i19]?) fun x20=>Option.bind (D.idx (I (t:Int)) 3) fun i21=>Option.bind (D.fld x20 i21) fun x22=>Option.bind (D.bin .lss x22 (D.int .i64 (-262144))) fun x23=>D.truth x23)) fun b24=>
    Option.bind (D.truth (D.bool b24)) fun b25=>
    if b25 then(some (Sum.inr (0,[(D.sl []),(D.int .i64 1)]))) else(Option.bind (D.bin .add (I (t:Int)) (D.int .i64 1)) fun x26=>some (Sum.inl [x26,.sl [],I 0]))) else(some (Sum.inr (1,[.sl [],I 0]))))
    (ah (a:=(t:Int)) (b:=3)) (y:=z) (aa ae (aH (by omega) (aa (z:=l.map af) rfl (aa (z:=i) (by rw[aC];exact ao hi) (aa (co hi) (aa ix (aa hf (aa bS (aa ae (aa (z:=decide (lP (l.getD i V.zero) t>262144\/lP (l.getD i V.zero) t < -262144)) (by
     by_cases h1:lP (l.getD i V.zero) t>262144
     ·refine aH h1 ?_
      rw[decide_eq_true (.inl h1)]
     ·refine aD h1 (aa (z:=l.map af) rfl (aa (z:=i) (by rw[aC];exact ao hi) (aa (co hi) (aa ix (aa hf (aa ah ?_))))))
      rw[ae];congr 1;rw[decide_eq_decide];exact⟨.inr,fun h=>h.resolve_left h1⟩) (aa ae hz')))))))))))
  by_cases hb:lP (l.getD i V.zero) t>262144\/lP (l.getD i V.zero) t < -262144
  ·right
   refine⟨_,pre _ (aH hb rfl),?_⟩
   rw[if_neg (fun h=>by have:=yk.1 h t ht;omega)] at hy
   exact hy
  ·left
   refine⟨[I ((t+1:Nat):Int),.sl [],I 0],pre _ (aD hb (aa (av (ar (i:=t) (by omega))) rfl)),rfl,fun t' ht'=>?_⟩
   by_cases e:t'=t
   ·subst e;omega
   ·exact hz t' (by omega)
 ·obtain⟨rfl,hz⟩:=hJ
  refine⟨(1,[.sl [],I 0]),aa ah (aa ae (aD (by decide) rfl)),?_⟩
  rw[if_pos (yk.2 hz)] at hy
  exact hy
theorem EF(n:Nat){l:List V}(hlen:l.length<=64)(hb:¬ ∀ x∈l,bd MV x):cA (n+1) 12 [aN l]=some (w9 1):=by
 rw[Pi]
 unfold Hr
 refine aa (z:=l.map af) rfl (aa bS (aa ae (aD (by show ¬ ((l.map af).length:Int)>64;rw[aC];omega) ?_)))
 refine ba (fun i s=>s=[I (i:Int),.sl [],I 0]/\∀ x∈l.take i,bd MV x) l.length 0 (Nat.zero_le _) ⟨rfl,by simp⟩ (fun i hi s hJ=>?_) (fun s hJ=>?_)
 ·obtain⟨rfl,hz⟩:=hJ
  by_cases hx:bd MV (l.getD i V.zero)
  ·left
   refine⟨[I ((i+1:Nat):Int),.sl [],I 0],?_,rfl,fun x hx'=>?_⟩
   ·refine aa (z:=l.map af) rfl (aa ah (aa ae (aH (by show((i:Int)<((l.map af).length:Int));rw[aC];omega) (G2 hi ?_))))
    rw[if_pos hx,if_neg (show ¬ (1:Nat)=0 by decide)]
    exact aa (av (ar (i:=i) (by omega))) rfl
   ·rw[List.take_succ_eq_append_getElem hi] at hx'
    rcases List.mem_append.1 hx' with h|h
    ·exact hz x h
    ·rw[List.mem_singleton.1 h];simpa [List.getD,hi] using hx
  ·right
   refine⟨(0,[.sl [],I 1]),?_,rfl⟩
   refine aa (z:=l.map af) rfl (aa ah (aa ae (aH (by show((i:Int)<((l.map af).length:Int));rw[aC];omega) (G2 hi ?_))))
   rw[if_neg hx];rfl
 ·obtain⟨rfl,hz⟩:=hJ
  rw[List.take_length] at hz
  exact absurd hz hb
theorem A7(n:Nat){l:List V}(hlen:l.length<=64)(hl:∀ x∈l,bd MV x){F:FL}(hpl:∀ f∈F,f.2.length<=1000000)(hFl:F.length<=3000000)(h48:cA (n+2) 48 [aN (c9 l)]=some (.sl (aq F))):cA (n+3) 12 [aN l]=some (yF (c9 l) F):=by
 rw[Pi]
 unfold Hr
 refine aa (z:=l.map af) rfl (aa bS (aa ae (aD (by show ¬ ((l.map af).length:Int)>64;rw[aC];omega) ?_)))
 refine ba (fun i s=>s=[I (i:Int),.sl [],I 0]) l.length 0 (Nat.zero_le _) rfl (fun i hi s hJ=>?_) (fun s hJ=>?_)
 ·subst hJ
  left
  refine⟨[I ((i+1:Nat):Int),.sl [],I 0],?_,rfl⟩
  refine aa (z:=l.map af) rfl (aa ah (aa ae (aH (by show((i:Int)<((l.map af).length:Int));rw[aC];omega) (G2 hi ?_))))
  rw[if_pos (hl _ (bL hi)),if_neg (show ¬ (1:Nat)=0 by decide)]
  exact aa (av (ar (i:=i) (by omega))) rfl
 ·subst hJ
  refine⟨(1,[.sl [],I 0]),aa (z:=l.map af) rfl (aa ah (aa ae (aD (by show ¬ ((l.length:Int)<((l.map af).length:Int));rw[aC];omega) rfl))),?_⟩
  rw[if_neg (show ¬ (1:Nat)=0 by decide)]
  have hSl:=Nat.le_trans (mG l) hlen
  refine aa (SY n l (by omega)) (aa h48 (aa (z:=aq F) rfl ?_))
  obtain⟨S,hS⟩:∃ S,c9 l=S:=⟨_,rfl⟩
  rw[hS] at hSl ⊢
  rw[aG,show D.beq (D.int .i64 (F.length:Nat)) (D.int .i64 0)=decide (F.length=0) from bP F.length 0]
  refine aa ae ?_
  unfold yF
  by_cases h0:F.length=0
  ·refine aH h0 ?_
   rw[if_pos h0];rfl
  refine aD h0 (aa (z:=aq F) rfl (aa bS (aa ae ?_)))
  rw[if_neg h0]
  by_cases h64:F.length>64
  ·refine aH (by rw[aG];omega) ?_
   rw[if_pos h64];rfl
  refine aD (by rw[aG];omega) ?_
  rw[if_neg h64]
  refine ba (fun i s=>s=[I (i:Int),.sl [],I 0,aN (cN S F i),I 0]) S.length 0 (Nat.zero_le _) rfl (fun i hi s hJ=>?_) (fun s hJ=>?_)
  ·subst hJ
   left
   refine⟨[I ((i+1:Nat):Int),.sl [],I 0,aN (cN S F (i+1)),I 0],?_,rfl⟩
   have hvl:=tc S F i
   refine aa (z:=S.map af) rfl (aa ah (aa ae (aH (by show((i:Int)<((S.map af).length:Int));rw[aC];omega) ?_)))
   refine aa (z:=(0,[.sl [],I 0,aN (cN S F (i+1)),I 0])) ?_ (aa (av (ar (i:=i) (by omega))) rfl)
   refine dn (fun k s=>s=[.bool (gW (F.take k) i),I (k:Int),.sl [],I 0,aN (cN S F i),I 0]) F.length 0 (Nat.zero_le _) rfl (fun k hk s hJ=>?_) (fun s hJ=>?_)
   ·subst hJ
    left
    refine⟨[.bool (gW (F.take (k+1)) i),I ((k+1:Nat):Int),.sl [],I 0,aN (cN S F i),I 0],?_,rfl⟩
    have hpk:=hpl F[k] (List.getElem_mem hk)
    have e1:gW (F.take (k+1)) i=(gW (F.take k) i||F[k].2.any fun x=>decide (x=i)):=by
     unfold gW;rw[List.take_succ_eq_append_getElem hk,List.any_append];simp
    refine aa (z:=aq F) rfl (aa ah (aa ae (aH (by show((k:Int)<((aq F).length:Int));rw[aG];omega) ?_)))
    have fp:∀ {β:Type} {g:List D->Option β} {y:β},g (ag F[k].2)=some y->(Option.bind (D.asSl (.sl (aq F))) fun l46=>Option.bind (D.idx (I (k:Int)) (List.length l46)) fun i47=>Option.bind (l46[i47]?) fun x48=>Option.bind (D.fld x48 2) fun x49=>Option.bind (D.asSl x49) g)=some y:=fun h=>
     aa (z:=aq F) rfl (aa (z:=k) (by rw[aG];exact ao hk) (aa (dH hk) (aa (z:=.sl (ag F[k].2)) rfl (aa (z:=ag F[k].2) rfl h))))
    rw[e1]
    generalize gW (F.take k) i=b0
    obtain⟨p,hp⟩:∃ p,F[k].2=p:=⟨_,rfl⟩
    rw[hp] at hpk fp ⊢
    refine dn (fun j s=>s=[.bool (b0||(p.take j).any fun x=>decide (x=i)),I (j:Int),.sl [],I 0,aN (cN S F i),I 0]) p.length 0 (Nat.zero_le _) (by rw[List.take_zero,List.any_nil,Bool.or_false];rfl) (fun j hj s hJ=>?_) (fun s hJ=>?_)
    ·subst hJ
     left
     refine⟨[.bool (b0||(p.take (j+1)).any fun x=>decide (x=i)),I ((j+1:Nat):Int),.sl [],I 0,aN (cN S F i),I 0],?_,rfl⟩
     refine fp (aa ah (aa ae (aH (by show((j:Int)<((ag p).length:Int));rw[aj];omega) (aa ae (aa (z:=b0||(p.take (j+1)).any fun x=>decide (x=i)) ?_ (aa (av (ar (i:=j) (by omega))) rfl))))))
     rw[List.take_succ_eq_append_getElem hj,List.any_append]
     generalize (p.take j).any (fun x=>decide (x=i))=b1
     cases hb:(b0||b1)
     ·rw[<-Bool.or_assoc,hb,if_neg (by decide)]
      refine fp (aa (z:=j) (by rw[aj];exact ao hj) (aa (iW hj) ?_))
      have:D.beq (I ((p.getD j 0:Nat):Int)) (I (i:Int))=decide (p[j]=i):=by rw[bP];simp[List.getD,hj]
      show D.truth (D.bool (D.beq (I ((p.getD j 0:Nat):Int)) (I (i:Int))))=_
      rw[this,ae];simp
     ·rw[<-Bool.or_assoc,hb];rfl
    ·subst hJ
     rw[List.take_length]
     refine⟨(0,[.bool (b0||p.any fun x=>decide (x=i)),.sl [],I 0,aN (cN S F i),I 0]),fp (aa ah (aa ae (aD (by show ¬ ((p.length:Int)<((ag p).length:Int));rw[aj];omega) rfl))),?_⟩
     exact aa (av (ar (i:=k) (by omega))) rfl
   ·subst hJ
    rw[List.take_length]
    refine⟨(0,[.bool (gW F i),.sl [],I 0,aN (cN S F i),I 0]),?_,?_⟩
    ·exact aa (z:=aq F) rfl (aa ah (aa ae (aD (by show ¬ ((F.length:Int)<((aq F).length:Int));rw[aG];omega) rfl)))
    ·rw[xW]
     refine aa (z:=gW F i) ae ?_
     cases gW F i
     ·rfl
     ·rw[if_pos rfl,if_pos rfl]
      refine aa (z:=S.map af) rfl (aa (z:=i) (by rw[aC];exact ao hi) (aa (co hi) ?_))
      rw[if_pos (by show((cN S F i).map af).length+1<=1073741824;rw[aC];omega)]
      have:D.sl ((cN S F i).map af++[af (S.getD i V.zero)])=aN (cN S F i++[pt S i]):=by simp[aN,pt]
      rw[<-this];rfl
  ·subst hJ
   refine⟨(0,[.sl [],I 0,aN (cN S F S.length),I 0]),?_,rfl⟩
   exact aa (z:=S.map af) rfl (aa ah (aa ae (aD (by show ¬ ((S.length:Int)<((S.map af).length:Int));rw[aC];omega) rfl)))
theorem wg{l:List V}(hs:AX l){m:V}{d:Int}(hF:IsF (pt l) l.length m d){p:List Nat}(hp:cb (pt l) l.length m d p):p.Nodup/\p.length<=l.length/\0<p.length/\∀ x∈p,x<l.length:=by
 obtain⟨p',hp',hnd,hmem⟩:=hF.poly hs
 have e:=cb.eq hs hF hp hp'
 subst e
 obtain⟨a,_,ha,hea,_,_⟩:=hF.head hs
 have hm:a∈p:=(hmem a).2 ⟨ha,hea⟩
 refine⟨hnd,?_,List.length_pos_iff.2 (fun e=>by rw[e] at hm;cases hm),fun x hx=>(ca.1 ((hmem x).1 hx).1).1⟩
 have:=List.Nodup.length_le_of_subset (l₂:=List.range l.length) hnd fun x hx=>List.mem_range.2 (ca.1 ((hmem x).1 hx).1).1
 simpa using this
theorem Fz{l:List V}(hl:∀ x∈l,bd MV x):∀ x∈c9 l,bd MV x:=fun x hx=>hl x (vS.1 hx)
theorem SQ(n:Nat){l:List V}(hlen:l.length<=100):(64<l.length/\cA (n+8) 12 [aN l]=some (w9 2))\/(l.length<=64/\(¬ ∀ x∈l,bd MV x)/\cA (n+8) 12 [aN l]=some (w9 1)) ∨
  (l.length<=64/\(∀ x∈l,bd MV x)/\∃ F:FL,KnF (c9 l) (c9 l).length 0 0 F/\cA (n+8) 12 [aN l]=some (yF (c9 l) F)):=by
 by_cases h64:64<l.length
 ·exact .inl ⟨h64,EG (n+7) h64⟩
 ·by_cases hb:∀ x∈l,bd MV x
  ·right;right
   refine⟨by omega,hb,?_⟩
   have hsl:=mG l
   have hS:=Ck (qM l)
   obtain⟨F,h1,h2⟩:=QQ n (Fz hb) (by omega) hS
   refine⟨F,h1,A7 (n+5) (by omega) hb (fun f hf=>?_) (Nat.le_trans (h1.fok.len (by omega)) (by decide)) h2⟩
   obtain⟨q1,q2⟩:=h1.fok.ok f hf
   have:=(wg hS q1 q2).2.1
   omega
  ·exact .inr (.inl ⟨by omega,hb,EF (n+7) (by omega) hb⟩)
theorem AB(S:List V)(F:FL):(cN S F S.length).Sublist S:=by
 have h1:((List.range S.length).map (pt S))=S:=by
  apply List.ext_getElem?
  intro i
  by_cases h:i<S.length
  ·rw[List.getElem?_map,List.getElem?_range h];simp[pt,List.getD,h]
  ·rw[List.getElem?_map,show(List.range S.length)[i]?=none by simp;omega];simp;omega
 have h2:(cN S F S.length).Sublist ((List.range S.length).map (pt S)):=List.Sublist.map _ List.filter_sublist
 rw[h1] at h2;exact h2
theorem SS(n:Nat){l:List V}(hlen:l.length<=100):(∃ e:Int,cA (n+9) 15 [bv l]=some (I e)/\e≠0)\/(cA (n+9) 15 [bv l]=some (I 0)/\l.length<=64/\(∀ x∈l,bd MV x)/\∃ F:FL,KnF (c9 l) (c9 l).length 0 0 F/\F.length≠0/\F.length<=64/\cN (c9 l) F (c9 l).length=l):=by
 rw[Tg]
 unfold Jk
 have err:∀ e:Int,e≠0->cA (n+8) 12 [aN l]=some (w9 e)->∃ e:Int,(Option.bind (D.get (bv l) [0]) fun x1=>
 Option.bind (cA (n+8) 12 [x1]) fun r2=>
 Option.bind (D.get r2 [1]) fun x3=>
 Option.bind (D.truth (D.bool (D.beq x3 (D.int .i64 0)))) fun b4=>
 Option.bind (if b4 then(Option.bind (D.get r2 [0,0]) fun x5=>
 Option.bind (D.get (bv l) [0]) fun x6=>
 Option.bind (cA (n+8) 13 [x5,x6]) fun r7=>
 Option.bind (D.un .not r7) fun x8=>
 D.truth x8) else(some false)) fun b9=>
 Option.bind (D.truth (D.bool b9)) fun b10=>
 if b10 then(some (D.int .i64 3)) else(Option.bind (D.get r2 [1]) fun x11=>
 some x11))=some (I e)/\e≠0:=fun e he h=>⟨e,by
  refine aa (z:=aN l) rfl (aa h (aa (z:=I e) rfl (aa (z:=false) ?_ (aa (z:=false) rfl (aa (z:=false) rfl rfl)))))
  rw[show D.beq (I e) (D.int .i64 0)=decide (e=0) from bk,decide_eq_false he];rfl,he⟩
 rcases SQ n hlen with⟨h1,h2⟩|⟨h0,h1,h2⟩|⟨h0,h1,F,h2,h3⟩
 ·exact .inl (err 2 (by decide) h2)
 ·exact .inl (err 1 (by decide) h2)
 ·unfold yF at h3
  by_cases f0:F.length=0
  ·rw[if_pos f0] at h3;exact .inl (err 120 (by decide) h3)
  ·rw[if_neg f0] at h3
   by_cases f1:F.length>64
   ·rw[if_pos f1] at h3;exact .inl (err 2 (by decide) h3)
   ·rw[if_neg f1] at h3
    have hvl:=tc (c9 l) F (c9 l).length
    have hsl:=mG l
    have h13:=SR (n+7) (cN (c9 l) F (c9 l).length) l (by omega)
    by_cases hv:cN (c9 l) F (c9 l).length=l
    ·rw[decide_eq_true hv] at h13
     refine .inr ⟨?_,h0,h1,F,h2,f0,by omega,hv⟩
     refine aa (z:=aN l) rfl (aa h3 (aa (z:=I 0) rfl (aa (z:=true) rfl (aa (z:=false) ?_ (aa (z:=false) rfl rfl)))))
     rw[if_pos rfl]
     exact aa (z:=aN (cN (c9 l) F (c9 l).length)) rfl (aa (z:=aN l) rfl (aa h13 rfl))
    ·rw[decide_eq_false hv] at h13
     refine .inl ⟨3,?_,by decide⟩
     refine aa (z:=aN l) rfl (aa h3 (aa (z:=I 0) rfl (aa (z:=true) rfl (aa (z:=true) ?_ (aa (z:=true) rfl rfl)))))
     rw[if_pos rfl]
     exact aa (z:=aN (cN (c9 l) F (c9 l).length)) rfl (aa (z:=aN l) rfl (aa h13 rfl))
end Sy
end
noncomputable section
namespace Sy
open Go Go.Proofs Geo
theorem Bf(n:Nat){x y:Int}(hx:In x)(hy:In y)(h:In (x*y)):cA (n+3) 61 [ai x,ai y]=some (ai (x*y)):=by
 have:=S5 n (a:=some x) (b:=some y) (bZ hx) (bZ hy)
 rwa [show Ha (some x) (some y)=some (x*y) from fX h] at this
theorem OM(n:Nat){x y:Int}(hx:In x)(hy:In y)(h:In (x+y)):cA (n+4) 57 [ai x,ai y]=some (ai (x+y)):=by
 have:=S4 n (a:=some x) (b:=some y) (bZ hx) (bZ hy)
 rwa [show Gv (some x) (some y)=some (x+y) from fX h] at this
theorem oo{α:Type}{A B y:α}(h:A=y):(if true=true then A else B)=y:=h
end Sy
end
noncomputable section
namespace Sy
open Go Go.Proofs Geo
end Sy
end
noncomputable section
namespace Sy
open Go Go.Proofs Geo
theorem tS{m k:Nat}(h:m<=2^k)(hk:k<=511):m<dO:=by
 have:In (m:Int):=mT hk (by rw[Int.natAbs_natCast];exact h)
 have:=a8.1 this
 rwa [Int.natAbs_natCast] at this
theorem xA{a b k:Nat}(ha:a<=2^k)(hb:b<=2^k):a+b<=2^(k+1):=by rw[Nat.pow_succ];omega
def CI(q:Rat)(a k:Nat):Prop:=q.num.natAbs<=2^a/\q.den<=2^k
theorem gQ{x:Int}{a:Nat}(hx:x.natAbs<=2^a):CI (x:Rat) a 0:=⟨by simpa using hx,by simp⟩
theorem CI.inR{q:Rat}{a k:Nat}(h:CI q a k)(ha:a<=511:=by decide)(hk:k<=511:=by decide):uJ q:=
 ⟨mT ha h.1,mT hk (by rw[Int.natAbs_natCast];exact h.2)⟩
theorem CI.fitM{x y:Rat}{a k b m:Nat}(hx:CI x a k)(hy:CI y b m)(h1:a+b<=511:=by decide)(h2:k+m<=511:=by decide):fitM x y:=
 ⟨tS (fA hx.1 hy.1 (Nat.le_refl _)) h1,tS (fA hx.2 hy.2 (Nat.le_refl _)) h2⟩
theorem CI.fitA{x y:Rat}{a k b m:Nat}(hx:CI x a k)(hy:CI y b m)(h1:a+m<=510:=by decide)(h2:b+k<=510:=by decide)(h3:k+m<=511:=by decide):fitA x y:=by
 refine⟨?_,tS (fA hx.2 hy.2 (Nat.le_refl _)) h3⟩
 have e1:=fA hx.1 hy.2 h1
 have e2:=fA hy.1 hx.2 h2
 exact tS (k:=510+1) (xA e1 e2) (by decide)
def II(t:T3):D:=.st [.st [af t.1,af t.2.1,af t.2.2],ai (TW t)]
def FU(T:List T3):List D:=T.map II
theorem AI.take{T:List T3}{N:Nat}(h:AI T N)(i:Nat):AI (T.take i) N:=
 ⟨Nat.le_trans (by rw[List.length_take];omega) h.1,fun t ht=>h.2 t (List.mem_of_mem_take ht)⟩
section
variable{l:List V}{T:List T3}(hT:AI T 268435456)(h58:∀ m,cA (m+9) 58 [bv l]=some (.sl (FU T)))
include hT h58
end
end Sy
end
noncomputable section
namespace Sy
open Go Go.Proofs Geo
theorem By{S:List V}(hS:AX S){F:FL}(hK:FOk S F){k:Nat}(h:gW F k=true):If (pt S) S.length k:=by
 obtain⟨f,hf,h2⟩:=List.any_eq_true.1 h
 obtain⟨x,hx,hxk⟩:=List.any_eq_true.1 h2
 have hxk:x=k:=by simpa using hxk
 subst hxk
 obtain⟨q1,q2⟩:=hK.ok f hf
 obtain⟨p,p1,_,p3⟩:=q1.poly hS
 rw[<-cb.eq hS q1 q2 p1] at p3
 obtain⟨r1,r2⟩:=(p3 x).1 hx
 exact⟨_,_,q1,r1,r2⟩
end Sy
end
noncomputable section
namespace Sy
open Go Go.Proofs Geo
theorem Ig(q:Rat):D.beq (bU q) (bU q)=true:=by
 unfold bU
 show(D.beq (ai q.num) (ai q.num)&&(D.beq (ai q.den) (ai q.den)&&true))=true
 rw[yl,yl];rfl
section
variable{l:List V}{T:List T3}(hT:AI T 268435456)(h58:∀ m,cA (m+9) 58 [bv l]=some (.sl (FU T)))
include hT h58
end
theorem Ta{l:List V}(hl:∀ x∈l,bd MV x)(hlen:l.length<=64)(hs:AX l):∃ (L:List (V×Int)) (poly:V×Int->List Nat),Facets (pt l) l.length L/\(∀ q∈L,cb (pt l) l.length q.1 q.2 (poly q)) ∧
  FIn l (L.map fun q=>(q,poly q))/\(∀ m,cA (m+8) 18 [bv l]=some (.sl (aq (L.map fun q=>(q,poly q)))))/\∀ m,cA (m+8) 19 [bv l]=some (.sl (aq (L.map fun q=>(q,poly q)))):=by
 obtain⟨L,poly,hL,hP,hLl,_⟩:=QV 0 hl (show l.length<=100 by omega) hs
 have hFm:∀ m,∃ F:FL,F=(L.map fun q=>(q,poly q))/\cA (m+8) 18 [bv l]=some (.sl (aq F))/\cA (m+8) 19 [bv l]=some (.sl (aq F)):=fun m=>by
  obtain⟨F,hK,h48⟩:=QQ m hl (show l.length<=100 by omega) hs
  obtain⟨L',poly',hL',hP',_,h18⟩:=QV (m+1) hl (show l.length<=100 by omega) hs
  have e':L=L':=Facets.eq hL hL'
  subst e'
  have eL:F.map Prod.fst=L:=Facets.eq hK.facets hL
  have eq1:∀ f∈F,poly f.1=f.2/\poly' f.1=f.2:=fun f hf=>by
   obtain⟨q1,q2⟩:=hK.fok.ok f hf
   have hm:f.1∈L:=by rw[<-eL];exact List.mem_map.2 ⟨f,hf,rfl⟩
   exact⟨cb.eq hs q1 (hP f.1 hm) q2,cb.eq hs q1 (hP' f.1 hm) q2⟩
  have eF:(L.map fun q=>re q (poly' q))=aq F:=by
   rw[<-eL,List.map_map]
   refine List.map_congr_left fun f hf=>?_
   simp only[Function.comp_apply,(eq1 f hf).2]
  refine⟨F,?_,by rw[h18,eF],?_⟩
  ·rw[<-eL,List.map_map]
   have:∀ f∈F,((fun q=>(q,poly q)) ∘ Prod.fst) f=id f:=fun f hf=>by
    show(f.1,poly f.1)=f
    rw[(eq1 f hf).1]
   rw[List.map_congr_left this,List.map_id]
  ·rw[Tj]
   unfold Jm
   exact aa (z:=aN l) rfl (aa h48 rfl)
 refine⟨L,poly,hL,hP,⟨by rw[List.length_map];exact hLl,fun f hf=>?_⟩,fun m=>?_,fun m=>?_⟩
 ·obtain⟨q,hq,rfl⟩:=List.mem_map.1 hf
  have h3:=xy hs hL hP hq
  have hp:=wg hs ((hL.mem q).1 hq) (hP q hq)
  refine⟨h3,by show(poly q).length<=100;omega,fun j hj=>hp.2.2.2 _ ?_⟩
  simp only[List.getD_eq_getElem?_getD,List.getElem?_eq_getElem hj]
  exact List.getElem_mem hj
 ·obtain⟨F,rfl,h,_⟩:=hFm m;exact h
 ·obtain⟨F,rfl,_,h⟩:=hFm m;exact h
end Sy
end
noncomputable section
namespace Sy
open Go Go.Proofs Geo
theorem SW(n:Nat){x y:Rat}(hx:uJ x)(hy:uJ y)(hf:fitA x (-y))(hny:uJ (-y)):cA (n+7) 39 [bU x,bU y]=some (bU (x-y)):=by
 rw[To];unfold Jt
 refine aa (S6 n hy) (aa (SX n hx hny hf) ?_)
 rw[<-Rat.sub_eq_add_neg]
theorem jT{a b:Int}{k:Nat}(ha:a.natAbs<=2^k)(hb:b.natAbs<=2^k):(a-b).natAbs<=2^(k+1):=by
 rw[Int.sub_eq_add_neg];exact qm ha (by rw[Int.natAbs_neg];exact hb)
end Sy
end
noncomputable section
namespace Sy
open Go Go.Proofs Geo
theorem It(n:Nat):cA (n+3) 169 []=some (ai 1):=by
 rw[PO];unfold Dy
 exact aa (JY n (js 1)) rfl
theorem NZ(n:Nat){x:Int}(hx:In x):cA (n+1031) 138 [ai x]=some (bU (x:Rat)):=by
 rw[Pz];unfold Dj
 refine aa (It (n+1027)) (aa (J0 n hx th (by decide)) ?_)
 rw[u5]
theorem ID(n:Nat){x:Int}(hx:inR x):cA (n+1032) 74 [I x]=some (bU (x:Rat)):=by
 rw[TG];unfold JH
 exact aa (JY (n+1029) hx) (aa (NZ n (kR hx)) rfl)
theorem tt(n:Nat){q:Rat}(h:uJ q):cA (n+1030) 136 [bU q]=some (.bool true):=by
 rw[Px];unfold Dh
 have hp:=q.den_pos
 refine aa (z:=ai q.num) rfl (aa (EE (n+1027) h.1) (aa (z:=true) rfl (aa (z:=true) (oo ?_) (aa (z:=true) rfl (aa (z:=true) (oo ?_) (aa (z:=true) rfl (aa (z:=true) (oo ?_) rfl)))))))
 ·exact aa (z:=ai (q.den:Int)) rfl (aa (EE (n+1027) h.2) rfl)
 ·refine aa (z:=ai (q.den:Int)) rfl (aa (A6 (n+1026) h.2) (aa bS ?_))
  rw[jh (by omega)];rfl
 ·refine aa (z:=ai q.num) rfl (aa (z:=ai (q.den:Int)) rfl (aa (GG n h.1 h.2) (aa (It (n+1026)) ?_)))
  have e:Nat.gcd q.num.natAbs (q.den:Int).natAbs=1:=q.reduced
  rw[e]
  show D.truth (.bool (D.beq (ai 1) (ai 1)))=_
  rw[yl];rfl
theorem Aw{x y:Rat}{a b g:Nat}(ha:x.den=g*a)(hb:y.den=g*b)(hne:(a:Int)*y.den≠0):Rat.divInt (x.num*b+y.num*a) ((a:Int)*y.den)=x+y:=by
 conv=>rhs;rw[<-Rat.num_divInt_den x,<-Rat.num_divInt_den y]
 rw[Rat.divInt_add_divInt _ _ (dM x) (dM y),Rat.divInt_eq_divInt_iff hne (by have:=dM x;have:=dM y;exact Int.mul_ne_zero ‹_› ‹_›)]
 have k1:(x.den:Int)=g*a:=by rw[ha,Int.natCast_mul]
 have k2:(y.den:Int)=g*b:=by rw[hb,Int.natCast_mul]
 rw[k1,k2]
 grind
theorem Oc(n:Nat){x y:Rat}(hx:uJ x)(hy:uJ y)(hf:fitA x y):cA (n+1031) 173 [bU x,bU y]=some (bU (x+y)):=by
 rw[PS];unfold DC
 obtain⟨f1,f2⟩:=hf
 refine aa (tt n hx) (aa (z:=.bool false) rfl (aa (z:=false) rfl (aa (z:=false) ?_ (aa (z:=false) rfl ?_))))
 ·rw[if_neg (by decide)]
  exact aa (tt n hy) (aa (z:=.bool false) rfl rfl)
 rw[if_neg (by decide)]
 obtain⟨g,hg⟩:∃ g,g=Nat.gcd x.den y.den:=⟨_,rfl⟩
 have hxp:=x.den_pos
 have hyp:=y.den_pos
 have g1:g ∣ x.den:=hg ▸ Nat.gcd_dvd_left _ _
 have g2:g ∣ y.den:=hg ▸ Nat.gcd_dvd_right _ _
 have gp:0<g:=by rw[hg];exact Nat.gcd_pos_of_pos_left _ hxp
 obtain⟨a,ha⟩:=g1
 obtain⟨b,hb⟩:=g2
 have gi:In (g:Int):=db.2 (Nat.lt_of_le_of_lt (Nat.le_of_dvd hxp ⟨a,ha⟩) (db.1 hx.2))
 have g0:(g:Int)≠0:=by omega
 have ea:(x.den:Int)/(g:Int)=(a:Int):=by rw[ha,Int.natCast_mul];exact Int.mul_ediv_cancel_left _ g0
 have eb:(y.den:Int)/(g:Int)=(b:Int):=by rw[hb,Int.natCast_mul];exact Int.mul_ediv_cancel_left _ g0
 have ha':a<=x.den:=by rw[ha];exact Nat.le_mul_of_pos_left _ gp
 have hb':b<=y.den:=by rw[hb];exact Nat.le_mul_of_pos_left _ gp
 have a0:0<a:=Nat.pos_of_ne_zero fun h=>by rw[h] at ha;omega
 have hai:In (a:Int):=db.2 (Nat.lt_of_le_of_lt ha' (db.1 hx.2))
 have hbi:In (b:Int):=db.2 (Nat.lt_of_le_of_lt hb' (db.1 hy.2))
 have m1:x.num.natAbs*b<=x.num.natAbs*y.den:=Nat.mul_le_mul_left _ hb'
 have m2:y.num.natAbs*a<=y.num.natAbs*x.den:=Nat.mul_le_mul_left _ ha'
 have m3:a*y.den<=x.den*y.den:=Nat.mul_le_mul_right _ ha'
 have i1:In (x.num*b):=a8.2 (by rw[Int.natAbs_mul,Int.natAbs_natCast];omega)
 have i2:In (y.num*a):=a8.2 (by rw[Int.natAbs_mul,Int.natAbs_natCast];omega)
 have i3:In (x.num*b+y.num*a):=a8.2 (by
  have:=Int.natAbs_add_le (x.num*b) (y.num*a)
  rw[Int.natAbs_mul,Int.natAbs_mul,Int.natAbs_natCast,Int.natAbs_natCast] at this;omega)
 have i4:In ((a:Int)*y.den):=a8.2 (by rw[<-Int.natCast_mul,Int.natAbs_natCast];omega)
 have h1:=GG (n+1) hx.2 hy.2
 rw[Int.natAbs_natCast,Int.natAbs_natCast,<-hg] at h1
 have h2:=A8 (n+1024) hx.2 gi g0 ⟨a,by rw[ha,Int.natCast_mul]⟩
 have h3:=A8 (n+1024) hy.2 gi g0 ⟨b,by rw[hb,Int.natCast_mul]⟩
 rw[ea] at h2
 rw[eb] at h3
 refine aa (z:=ai (x.den:Int)) rfl (aa (z:=ai (y.den:Int)) rfl (aa (h1) ?_))
 refine aa (z:=ai (x.den:Int)) rfl (aa (h2) (aa (z:=ai (y.den:Int)) rfl (aa (h3) (aa (z:=ai x.num) rfl (aa (Bf (n+1027) hx.1 hbi i1) (aa (z:=ai y.num) rfl (aa (Bf (n+1027) hy.1 hai i2) (aa (OM (n+1026) i1 i2 i3) (aa (z:=ai (y.den:Int)) rfl (aa (Bf (n+1027) hai hy.2 i4) ?_))))))))))
 have hne:(a:Int)*y.den≠0:=by
  have:0<a*y.den:=Nat.mul_pos a0 hyp
  rw[<-Int.natCast_mul];omega
 refine aa (J0 n i3 i4 hne) ?_
 rw[Aw ha hb hne]
theorem w7{N D:Int}(hD:0<D)(h:Nat.gcd N.natAbs D.natAbs=1):(Rat.divInt N D).num=N/\((Rat.divInt N D).den:Int)=D:=by
 obtain⟨p1,p2⟩:=eK N (show D≠0 by omega)
 have e:((1:Nat):Int)=1:=rfl
 rw[if_neg (by omega),h,e,Int.ediv_one] at p1 p2
 exact⟨p1,p2⟩
theorem yz(x:Int){d:Int}(hd:d≠0):(Rat.divInt x d).num.natAbs ∣ x.natAbs/\(Rat.divInt x d).den ∣ d.natAbs:=by
 obtain⟨p1,p2⟩:=eK x hd
 have e:(Rat.divInt x d).den=((Rat.divInt x d).den:Int).natAbs:=rfl
 rw[e,p1,p2]
 have key:∀ z:Int,((Nat.gcd x.natAbs d.natAbs:Nat):Int) ∣ z->(z/(if d<0 then -(Nat.gcd x.natAbs d.natAbs:Int) else(Nat.gcd x.natAbs d.natAbs:Int))).natAbs ∣ z.natAbs:=by
  intro z hz
  have hgp:0<Nat.gcd x.natAbs d.natAbs:=Nat.gcd_pos_of_pos_right _ (by omega)
  obtain⟨k,rfl⟩:=hz
  generalize Nat.gcd x.natAbs d.natAbs=g at *
  split
  ·rw[Int.ediv_neg,Int.mul_ediv_cancel_left _ (by omega),Int.natAbs_neg,Int.natAbs_mul];exact Nat.dvd_mul_left _ _
  ·rw[Int.mul_ediv_cancel_left _ (by omega),Int.natAbs_mul];exact Nat.dvd_mul_left _ _
 exact⟨key x (Int.ofNat_dvd_left.2 (Nat.gcd_dvd_left _ _)),key d (Int.ofNat_dvd_left.2 (Nat.gcd_dvd_right _ _))⟩
theorem Od(n:Nat){x y:Rat}(hx:uJ x)(hy:uJ y)(hf:fitM x y):cA (n+1031) 174 [bU x,bU y]=some (bU (x*y)):=by
 rw[PT];unfold DD
 obtain⟨f1,f2⟩:=hf
 refine aa (tt n hx) (aa (z:=.bool false) rfl (aa (z:=false) rfl (aa (z:=false) ?_ (aa (z:=false) rfl ?_))))
 ·rw[if_neg (by decide)]
  exact aa (tt n hy) (aa (z:=.bool false) rfl rfl)
 rw[if_neg (by decide)]
 obtain⟨p1,p2⟩:=nc x.num (dM y)
 obtain⟨q1,q2⟩:=nc y.num (dM x)
 obtain⟨v1,v2⟩:=yz x.num (dM y)
 obtain⟨w1,w2⟩:=yz y.num (dM x)
 have e:Rat.divInt x.num y.den*Rat.divInt y.num x.den=x*y:=by
  conv=>rhs;rw[<-Rat.num_divInt_den x,<-Rat.num_divInt_den y]
  rw[Rat.divInt_mul_divInt,Rat.divInt_mul_divInt,Int.mul_comm (y.den:Int)]
 refine aa (z:=ai x.num) rfl (aa (z:=ai (y.den:Int)) rfl (aa (J0 n hx.1 hy.2 (dM y)) (aa (z:=ai y.num) rfl (aa (z:=ai (x.den:Int)) rfl (aa (J0 n hy.1 hx.2 (dM x)) ?_)))))
 rw[Int.natAbs_natCast] at p2 q2 v2 w2
 have r1:=pi hx.1 hy.2 (dM y)
 have r2:=pi hy.1 hx.2 (dM x)
 generalize Rat.divInt x.num y.den=P at *
 generalize Rat.divInt y.num x.den=Q at *
 have i1:In (P.num*Q.num):=a8.2 (by rw[Int.natAbs_mul];exact Nat.lt_of_le_of_lt (Nat.mul_le_mul p1 q1) f1)
 have i2:In ((P.den:Int)*Q.den):=a8.2 (by
  rw[<-Int.natCast_mul,Int.natAbs_natCast];exact Nat.lt_of_le_of_lt (Nat.mul_le_mul p2 q2) (by rw[Nat.mul_comm];exact f2))
 refine aa (z:=ai P.num) rfl (aa (z:=ai Q.num) rfl (aa (Bf (n+1027) r1.1 r2.1 i1) (aa (z:=ai (P.den:Int)) rfl (aa (z:=ai (Q.den:Int)) rfl (aa (Bf (n+1027) r1.2 r2.2 i2) ?_)))))
 refine aa (z:=.bool false) rfl (aa (z:=false) rfl (aa (z:=false) ?_ (aa (z:=false) rfl ?_)))
 ·rw[if_neg (by decide)]
  exact aa (z:=.bool false) rfl rfl
 rw[if_neg (by decide)]
 have hpos:0<(P.den:Int)*Q.den:=by
  have:=P.den_pos;have:=Q.den_pos
  rw[<-Int.natCast_mul]
  have:=Nat.mul_pos ‹0<P.den› ‹0<Q.den›
  omega
 have c1:Nat.Coprime P.num.natAbs P.den:=P.reduced
 have c2:Nat.Coprime Q.num.natAbs Q.den:=Q.reduced
 have c3:Nat.Coprime P.num.natAbs Q.den:=Nat.Coprime.coprime_dvd_left v1 (Nat.Coprime.coprime_dvd_right w2 x.reduced)
 have c4:Nat.Coprime Q.num.natAbs P.den:=Nat.Coprime.coprime_dvd_left w1 (Nat.Coprime.coprime_dvd_right v2 y.reduced)
 have hred:Nat.gcd (P.num*Q.num).natAbs ((P.den:Int)*Q.den).natAbs=1:=by
  rw[Int.natAbs_mul,<-Int.natCast_mul,Int.natAbs_natCast]
  exact Nat.Coprime.mul_left (Nat.Coprime.mul_right c1 c3) (Nat.Coprime.mul_right c4 c2)
 obtain⟨z1,z2⟩:=w7 hpos hred
 have e2:Rat.divInt (P.num*Q.num) ((P.den:Int)*Q.den)=x*y:=by
  rw[<-Rat.divInt_mul_divInt,Rat.num_divInt_den,Rat.num_divInt_den,e]
 rw[e2] at z1 z2
 unfold bU
 rw[z1,z2]
theorem S7(n:Nat){x y:Int}(hx:In x)(hy:In y):cA (n+4) 90 [ai x,ai y]=some (I (a7 x y)):=by
 rw[TR];unfold JR
 have gx:=kX (n+1) (a:=some x) (bZ hx)
 have gy:=kX (n+1) (a:=some y) (bZ hy)
 have hxt:=a8.1 hx;have hyt:=a8.1 hy
 refine aa gx (aa gy (aa (z:=.bool false) rfl (aa (z:=false) rfl (aa (z:=false) rfl (aa (z:=false) rfl ?_)))))
 rw[if_neg (by decide)]
 refine aa (z:=.bool false) rfl (aa (z:=false) rfl ?_)
 rw[if_neg (by decide)]
 refine aa (z:=.bool false) rfl (aa (z:=false) rfl ?_)
 rw[if_neg (by decide)]
 refine aa (bD x) (aa (bD y) ?_)
 by_cases h1:x<0<;>by_cases h2:y<0
 ·rw[decide_eq_true h1,decide_eq_true h2]
  refine aa (z:=false) rfl ?_
  rw[if_neg (by decide)]
  refine aa (z:=.bool true) (by rw[bD,decide_eq_true h1]) (aa (z:=true) rfl (oo ?_))
  refine aa (kl y) (aa (kl x) (aa (EC n hyt hxt) ?_))
  congr 2
  unfold a7
  by_cases c:x<y
  ·rw[if_pos c,if_pos (by omega)]
  ·rw[if_neg c,if_neg (by omega)]
   by_cases c2:x>y
   ·rw[if_pos c2,if_pos (by omega)]
   ·rw[if_neg c2,if_neg (by omega)]
 ·rw[decide_eq_true h1,decide_eq_false h2]
  refine aa (z:=true) rfl (oo ?_)
  refine aa (z:=.bool true) (by rw[bD,decide_eq_true h1]) (aa (z:=true) rfl (oo ?_))
  unfold a7
  rw[if_pos (by omega)]
 ·rw[decide_eq_false h1,decide_eq_true h2]
  refine aa (z:=true) rfl (oo ?_)
  refine aa (z:=.bool false) (by rw[bD,decide_eq_false h1]) (aa (z:=false) rfl ?_)
  rw[if_neg (by decide)]
  unfold a7
  rw[if_neg (by omega),if_pos (by omega)]
 ·rw[decide_eq_false h1,decide_eq_false h2]
  refine aa (z:=false) rfl ?_
  rw[if_neg (by decide)]
  refine aa (z:=.bool false) (by rw[bD,decide_eq_false h1]) (aa (z:=false) rfl ?_)
  rw[if_neg (by decide)]
  refine aa (kl x) (aa (kl y) (aa (EC n hxt hyt) ?_))
  congr 2
  unfold a7
  by_cases c:x<y
  ·rw[if_pos c,if_pos (by omega)]
  ·rw[if_neg c,if_neg (by omega)]
   by_cases c2:x>y
   ·rw[if_pos c2,if_pos (by omega)]
   ·rw[if_neg c2,if_neg (by omega)]
theorem vh(x:Int):bU (x:Rat)=.st [ai x,ai 1]:=rfl
theorem OK(n:Nat){x y:Int}(hx:In x)(hy:In y):cA (n+1031) 73 [bU (x:Rat),bU (y:Rat)]=some (I (a7 x y)):=by
 rw[TF];unfold JG
 refine aa (tt n (yd hx)) (aa (tt n (yd hy)) (aa (z:=.bool false) rfl (aa (z:=false) rfl (aa (z:=false) rfl (aa (z:=false) rfl ?_)))))
 rw[if_neg (by decide)]
 refine aa (z:=.bool false) rfl (aa (z:=false) rfl ?_)
 rw[if_neg (by decide)]
 refine aa (z:=.bool false) rfl (aa (z:=false) rfl ?_)
 rw[if_neg (by decide)]
 have d1:∀ z:Int,z/1=z:=fun z=>by omega
 have q:=fun{z:Int} (hz:In z)=>Iv (n+1024) hz th (by decide) ⟨z,by omega⟩
 have q132:=fun{z:Int} (hz:In z)=>A8 (n+1024) hz th (by decide) ⟨z,by omega⟩
 have q137:∀ {z:Int},In z->cA (n+1030) 137 [ai z,ai 1]=some (ai 0):=fun{z} hz=>by
  rw[Py];unfold Di
  exact aa (q hz) (aa (z:=ai (z/1)) rfl (aa (z:=ai 0) rfl rfl))
 rw[vh,vh]
 refine ef (r:=(0,[I (a7 x y)])) ?_ rfl
 refine aa (z:=ai x) rfl (aa (z:=ai 1) rfl (aa (q132 hx) (aa (z:=ai y) rfl (aa (z:=ai 1) rfl (aa (q132 hy) ?_)))))
 rw[d1,d1]
 refine aa (S7 (n+1026) hx hy) ?_
 by_cases h:a7 x y=0
 ·rw[h]
  refine aa (z:=false) rfl ?_
  rw[if_neg (by decide)]
  refine aa (z:=ai 1) rfl (aa (z:=ai x) rfl (aa (z:=ai 1) rfl (aa (q137 hx) (aa (z:=ai 1) rfl (aa (z:=ai y) rfl (aa (z:=ai 1) rfl (aa (q137 hy) ?_)))))))
  have hz:=A6 (n+1027) (kR (js 0))
  refine aa hz (aa hz ?_)
  exact aa (z:=true) rfl (aa (z:=true) rfl (aa (z:=true) rfl (oo (aa (z:=I 0) rfl (aa (z:=I 0) rfl rfl)))))
 ·have hb:D.beq (I (a7 x y)) (D.int .i64 0)=false:=by rw[show(D.int .i64 0)=I 0 from rfl,bk,decide_eq_false h]
  refine aa (z:=true) (by rw[hb];rfl) (oo (aa (cE (a:=1) ?_) ?_))
  ·rw[Int.one_mul];unfold a7;split;exact js _;split<;>exact js _
  ·rw[Int.one_mul]
theorem E4(x y:Int):(x:Rat)*(y:Rat)=((x*y:Int):Rat):=by rw[Rat.intCast_mul]
theorem E3(x y:Int):(x:Rat)+(y:Rat)=((x+y:Int):Rat):=by rw[Rat.intCast_add]
end Sy
end
noncomputable section
namespace Sy
open Go Go.Proofs Geo
theorem tM{x:Int}(h:x.natAbs<=2^60):inR x:=by
 rw[show(2:Nat)^60=1152921504606846976 from rfl] at h
 simp only[inR];omega
theorem IT(n:Nat){a b:Int}{p q:Nat}(ha:a.natAbs<=2^p)(hb:b.natAbs<=2^q)(h:p+q<=500):cA (n+1031) 174 [bU (a:Rat),bU (b:Rat)]=some (bU ((a*b:Int):Rat)):=by
 have fa:=gQ ha;have fb:=gQ hb
 rw[Od n (fa.inR (by omega) (by omega)) (fb.inR (by omega) (by omega)) (fa.fitM fb (by omega) (by omega)),E4]
theorem IS(n:Nat){a b:Int}{p q:Nat}(ha:a.natAbs<=2^p)(hb:b.natAbs<=2^q)(hp:p<=500)(hq:q<=500):cA (n+1031) 173 [bU (a:Rat),bU (b:Rat)]=some (bU ((a+b:Int):Rat)):=by
 have fa:=gQ ha;have fb:=gQ hb
 rw[Oc n (fa.inR (by omega) (by omega)) (fb.inR (by omega) (by omega)) (fa.fitA fb (by omega) (by omega) (by omega)),E3]
theorem E5(x y:Int):(x:Rat)-(y:Rat)=((x-y:Int):Rat):=by rw[Rat.intCast_sub]
theorem yH(x:Int):-(x:Rat)=((-x:Int):Rat):=by rw[Rat.intCast_neg]
theorem I6(n:Nat){a b:Int}{p q:Nat}(ha:a.natAbs<=2^p)(hb:b.natAbs<=2^q)(hp:p<=500)(hq:q<=500):cA (n+7) 39 [bU (a:Rat),bU (b:Rat)]=some (bU ((a-b:Int):Rat)):=by
 have fa:=gQ ha;have fb:=gQ hb
 have fn:CI (-(b:Rat)) q 0:=by rw[yH];exact gQ (by rw[Int.natAbs_neg];exact hb)
 rw[SW n (fa.inR (by omega) (by omega)) (fb.inR (by omega) (by omega)) (fa.fitA fn (by omega) (by omega) (by omega)) (fn.inR (by omega) (by omega)),E5]
theorem qu{m g z:Int}(hm:m.natAbs<=2^60)(hg:g.natAbs<=2^60)(hz:z.natAbs<=2^60):(m*g).natAbs<=2^120/\(m*g*z).natAbs<=2^180:=
 ⟨cr hm hg (by decide),cr (cr (k:=120) hm hg (by decide)) hz (by decide)⟩
theorem EJ(n:Nat){b p:D}{m g z:Int}(hb:D.get b [2,0]=some (I m))(hp:D.get p [0,2]=some (I z))(hm:m.natAbs<=2^60)(hg:g.natAbs<=2^60)(hz:z.natAbs<=2^60) :
  cA (n+1033) 313 [b,I g,p]=some (bU ((m*g*z:Int):Rat)):=by
 rw[Qa];unfold DU
 exact aa hb (aa (ID n (tM hm)) (aa (ID n (tM hg)) (aa (IT (n+1) hm hg (by decide)) (aa hp (aa (ID n (tM hz)) (aa (IT (n+1) (qu hm hg hz).1 hz (by decide)) rfl))))))
end Sy
end
noncomputable section
namespace Sy
open Go Go.Proofs Geo
theorem Oy(n:Nat){q:Rat}(h:uJ q):cA (n+1031) 357 [bU q]=some (bU (-q)):=by
 rw[Qo];unfold D8
 refine aa (tt n h) (aa (z:=.bool false) rfl (aa (z:=false) rfl ?_))
 rw[if_neg (by decide)]
 exact aa (z:=ai q.num) rfl (aa (z:=ai (-q.num)) (QR (n+1027) (a:=some q.num) (fun x hx=>by cases hx;exact h.1)) (aa (z:=ai (q.den:Int)) rfl rfl))
theorem oS{a:Int}{p:Nat}(ha:a.natAbs<=2^p)(hp:p<=500):uJ (a:Rat):=(gQ ha).inR (by omega) (by omega)
theorem OU(n:Nat){a b:Int}{p q:Nat}(ha:a.natAbs<=2^p)(hb:b.natAbs<=2^q)(hp:p<=500)(hq:q<=500):cA (n+1032) 336 [bU (a:Rat),bU (b:Rat)]=some (bU ((a-b:Int):Rat)):=by
 rw[Qh];unfold D1
 refine aa (Oy n (oS hb hq)) ?_
 rw[yH]
 exact aa (IS n ha (b:=-b) (by rw[Int.natAbs_neg];exact hb) hp hq) rfl
theorem OT(n:Nat){a b:Int}{p q:Nat}(ha:a.natAbs<=2^p)(hb:b.natAbs<=2^q)(hp:p<=500)(hq:q<=500):cA (n+1032) 337 [bU (a:Rat),bU (b:Rat)]=some (bU ((max a b:Int):Rat)):=by
 rw[Qi];unfold D2
 have fa:=oS ha hp;have fb:=oS hb hq
 have ia:In a:=by have:=fa.1;simpa using this
 have ib:In b:=by have:=fb.1;simpa using this
 refine aa (tt (n+1) fa) (aa (z:=.bool false) rfl (aa (z:=false) rfl (aa (z:=false) ?_ (aa (z:=false) rfl ?_))))
 ·rw[if_neg (by decide)]
  exact aa (tt (n+1) fb) (aa (z:=.bool false) rfl rfl)
 rw[if_neg (by decide)]
 refine aa (OK n ia ib) (aa ah (aa ae ?_))
 by_cases h:a<b
 ·refine aH (by unfold a7;rw[if_pos h];decide) ?_
  rw[show max a b=b by omega]
 ·refine aD (by unfold a7;rw[if_neg h];split<;>decide) ?_
  rw[show max a b=a by omega]
def cg(w:Int)(z:Nat->Int):Nat->Int
 | 0=>0
 | k+1=>cg w z k+max (w*z (k+1)-w*z k) 0
theorem pD{w:Int}{z:Nat->Int}(hw:w.natAbs<=2^120):∀ k,(∀ i,i<=k->(z i).natAbs<=2^60)->k<=512->(cg w z k).natAbs<=k*2^181
 | 0,_,_=>by simp[cg]
 | k+1,hz,hk=>by
  have ih:=pD hw k (fun i hi=>hz i (by omega)) (by omega)
  have p1:(w*z (k+1)).natAbs<=2^180:=cr hw (hz (k+1) (Nat.le_refl _)) (by decide)
  have p2:(w*z k).natAbs<=2^180:=cr hw (hz k (by omega)) (by decide)
  have e:(2:Nat)^181=2*2^180:=by rw[Nat.pow_succ,Nat.mul_comm]
  simp only[cg]
  rw[Nat.add_mul,Nat.one_mul]
  generalize w*z (k+1)=a at *
  generalize w*z k=b at *
  generalize (2:Nat)^181=T at *
  generalize (2:Nat)^180=U at *
  generalize k*T=M at *
  generalize cg w z k=c at *
  omega
structure Way(P:List D)(z:Nat->Int):Prop where
 get:∀ i (h:i<P.length),D.get P[i] [0,2]=some (I (z i))
 le:∀ i,i<P.length->(z i).natAbs<=2^60
 len:P.length<=512
theorem Iy(n:Nat){b:D}{m g:Int}{P:List D}{z:Nat->Int}(hb:D.get b [2,0]=some (I m))(hm:m.natAbs<=2^60)(hg:g.natAbs<=2^60)(h:Way P z) :
  cA (n+1034) 311 [b,I g,.sl P]=some (bU ((cg (m*g) z (P.length-1):Int):Rat)):=by
 rw[P9];unfold DT
 have hl:=h.len
 have hw:(m*g).natAbs<=2^120:=cr hm hg (by decide)
 have hc:∀ k,k<=P.length-1->0<P.length->(cg (m*g) z k).natAbs<=2^191:=fun k hk h0=>by
  have:=pD hw k (z:=z) (fun i hi=>h.le i (by omega)) (by omega)
  refine Nat.le_trans this ?_
  rw[show(2:Nat)^191=1024*2^181 from(Nat.pow_add 2 10 181).symm ▸ rfl]
  exact Nat.mul_le_mul_right _ (by omega)
 refine aa (ID (n+1) (js 0)) ?_
 refine ba (fun i s=>s=[I ((i+1:Nat):Int),bU ((cg (m*g) z i:Int):Rat)]) (P.length-1) 0 (Nat.zero_le _) rfl (fun i hi s hJ=>?_) (fun s hJ=>?_)
 ·subst hJ
  left
  refine⟨_,?_,rfl⟩
  have h1:i+1<P.length:=by omega
  have h0:i<P.length:=by omega
  have z1:=h.le _ h1;have z0:=h.le _ h0
  have p1:=(qu hm hg z1).2;have p0:=(qu hm hg z0).2
  have d:(m*g*z (i+1)-m*g*z i).natAbs<=2^181:=by
   have e:(2:Nat)^181=2*2^180:=by rw[Nat.pow_succ,Nat.mul_comm]
   generalize m*g*z (i+1)=a at *
   generalize m*g*z i=b at *
   generalize (2:Nat)^181=T at *
   generalize (2:Nat)^180=U at *
   omega
  have dm:(max (m*g*z (i+1)-m*g*z i) 0).natAbs<=2^181:=by
   generalize m*g*z (i+1)-m*g*z i=a at *
   generalize (2:Nat)^181=T at *
   omega
  refine aa (z:=P) rfl (aa ah (aa ae (aH (by show(((i+1:Nat):Int)<(P.length:Int));omega) ?_)))
  refine aa (z:=P) rfl (aa (ao h1) (aa (List.getElem?_eq_getElem h1) (aa (EJ n hb (h.get _ h1) hm hg z1) ?_)))
  refine aa (ik (a:=i+1) (b:=1) rfl (by omega) (by omega)) (aa (z:=P) rfl (aa (ao (by omega:i+1-1<P.length)) ?_))
  rw[show i+1-1=i by omega]
  refine aa (List.getElem?_eq_getElem h0) (aa (EJ n hb (h.get _ h0) hm hg z0) (aa (OU (n+1) p1 p0 (by decide) (by decide)) (aa (ID (n+1) (js 0)) ?_)))
  refine aa (OT (n+1) (b:=0) (q:=0) d (by decide) (by decide) (by decide)) ?_
  exact aa (IS (n+2) (hc i (by omega) (by omega)) dm (by decide) (by decide)) (aa (aX (a:=i+1) (b:=1) (by omega)) rfl)
 ·subst hJ
  refine⟨_,aa (z:=P) rfl (aa ah (aa ae (aD (by show ¬ (((P.length-1+1:Nat):Int)<(P.length:Int));omega) rfl))),rfl⟩
end Sy
end
noncomputable section
namespace Sy
open Go Go.Proofs Geo
theorem Om(n:Nat){a:Int}{p:Nat}(ha:a.natAbs<=2^p)(hp:p<=500):cA (n+6) 322 [bU (a:Rat)]=some (I (sg a)):=by
 rw[Qb];unfold DV
 refine aa (Hw n (oS ha hp)) (aa (z:=.bool false) rfl (aa (z:=false) rfl ?_))
 rw[if_neg (by decide)]
 exact aa (z:=ai a) rfl (aa (Hv (n+2) (mT (k:=p) (by omega) ha)) rfl)
end Sy
end
noncomputable section
namespace Sy
open Go Go.Proofs Geo
theorem tR{body:Bd}{m:Nat}{r0:List D}(ok:Nat->Bool)(h:∀ i,i<m->body [I (i:Int)]=some (if ok i then .inl [I ((i+1:Nat):Int)] else .inr (0,r0)))(he:body [I (m:Int)]=some (.inr (1,[]))) :
  ∀ d j,j+d=m->aP body [I (j:Int)]=some (if((List.range d).all fun t=>ok (j+t)) then(1,[]) else(0,r0))
 | 0,j,hj=>by
  have hj:j=m:=by omega
  subst hj
  exact(cl he:aP body [I (j:Int)]=some (1,[]))
 | d+1,j,hj=>by
  have ih:=tR ok h he d (j+1) (by omega)
  have hb:=h j (by omega)
  rw[List.range_succ_eq_map]
  simp only[List.all_cons,List.all_map,Nat.add_zero,Function.comp_def]
  cases hok:ok j with
  | false=>
   rw[hok] at hb
   exact(cl hb:aP body [I (j:Int)]=some (0,r0))
  | true=>
   rw[hok] at hb
   rw[show aP body [I (j:Int)]=aP body [I ((j+1:Nat):Int)] from cJ hb,ih]
   simp only[Bool.true_and,Nat.succ_eq_add_one,Nat.add_assoc,Nat.add_comm 1]
def oG(m:Int)(x:Int):Bool:=decide (-m<x)&&decide (x<m)
def jv(v:V)(i:Nat):Int:=if i=0 then v.x else if i=1 then v.y else v.z
theorem vu{v:V}{i:Nat}(h:i<3):D.get (af v) [i]=some (I (jv v i)):=by
 have:i=0\/i=1\/i=2:=by omega
 rcases this with rfl|rfl|rfl<;>rfl
def j8(v:V):Bool:=(List.range 3).all fun t=>oG 1099511627776 (jv v (0+t))
theorem Iz(n:Nat)(v:V):cA (n+1) 327 [af v]=some (.bool (j8 v)):=by
 rw[Qf];unfold DZ
 refine jR (r:=if j8 v then(1,[]) else(0,[.bool false])) (tR (m:=3) (fun i=>oG 1099511627776 (jv v i)) (fun i hi=>?_) ?_ 3 0 rfl) ?_
 ·have hi':D.idx (I (i:Int)) 3=some i:=ao hi
  refine aa ah (aa ae (aH (by show(i:Int)<3;omega) ?_))
  have hx:=vu (v:=v) hi
  refine aa hi' (aa hx ?_)
  generalize jv v i=x at *
  by_cases h1:x ≥ 1099511627776
  ·have e:oG 1099511627776 x=false:=by simp[oG];omega
   refine aa (z:=.bool true) (by simp[D.bin,h1]) (aa (z:=true) rfl (aa (z:=true) rfl (aa (z:=true) rfl ?_)))
   rw[if_pos rfl,e]
   rfl
  ·refine aa (z:=.bool false) (by simp[D.bin,h1]) (aa (z:=false) rfl ?_)
   by_cases h2:x<=-1099511627776
   ·have e:oG 1099511627776 x=false:=by simp[oG];omega
    refine aa (z:=true) ?_ (aa (z:=true) rfl ?_)
    ·rw[if_neg (by decide)]
     exact aa hi' (aa hx (aa (z:=.bool true) (by simp[D.bin,h2]) rfl))
    ·rw[if_pos rfl,e];rfl
   ·have e:oG 1099511627776 x=true:=by simp[oG];omega
    refine aa (z:=false) ?_ (aa (z:=false) rfl ?_)
    ·rw[if_neg (by decide)]
     exact aa hi' (aa hx (aa (z:=.bool false) (by simp[D.bin,h2]) rfl))
    ·rw[if_neg (by decide),e]
     exact aa (aX (a:=i) (b:=1) (by omega)) rfl
 ·exact aa ah (aa ae (aD (by decide) rfl))
 ·cases j8 v<;>rfl
end Sy
end
noncomputable section
namespace Sy
open Go Go.Proofs Geo
theorem OC(n:Nat){a b:Int}(ha:a.natAbs<=9223372036854775807)(hb:b.natAbs<=9223372036854775807):cA (n+1) 364 [I a,I b]=some (I (Nat.gcd a.natAbs b.natAbs:Nat)):=by
 rw[Qt,show Ec aP (cA n) (I a) (I b)=AS aP (cA n) (I a) (I b) from rfl,<-Jc]
 exact GJ n ha hb
theorem OD(n:Nat)(a:Int):cA (n+1) 365 [I a]=some (I (sg a)):=by
 rw[Qu];unfold Ed
 refine aa ah (aa ae ?_)
 by_cases h:a<0
 ·refine aH h ?_
  rw[show sg a=-1 by unfold sg;rw[if_pos h]]
 ·refine aD h ?_
  by_cases h0:0<a
  ·rw[show sg a=1 by unfold sg;rw[if_neg h,if_pos h0]]
   have e:D.min2 (I a) (I 1)=some (I 1):=by
    simp only[D.min2]
    split
    ·rfl
    ·rw[show a=1 by omega]
   exact aa e rfl
  ·have e0:a=0:=by omega
   subst e0
   rfl
def vg(q:Nat->Int):D:=.st [I (q 0),I (q 1),I (q 2),I (q 3)]
theorem rV{q:Nat->Int}{i:Nat}(h:i<4):D.get (vg q) [i]=some (I (q i)):=by
 have:i=0\/i=1\/i=2\/i=3:=by omega
 rcases this with rfl|rfl|rfl|rfl<;>rfl
def xk(q:Nat->Int):Bool:=(List.range 4).all fun t=>oG 65 (q (0+t))
theorem Fb{q:Nat->Int}(h:xk q=true):∀ i,i<4->(q i).natAbs<=64:=by
 intro i hi
 have:=List.all_eq_true.1 h i (List.mem_range.2 hi)
 simp only[oG,Bool.and_eq_true,decide_eq_true_eq,Nat.zero_add] at this
 omega
theorem Ow(n:Nat)(q:Nat->Int):cA (n+1) 348 [vg q]=some (.bool (xk q)):=by
 rw[Qm];unfold D6
 refine jR (r:=if xk q then(1,[]) else(0,[.bool false])) (tR (m:=4) (fun i=>oG 65 (q i)) (fun i hi=>?_) ?_ 4 0 rfl) ?_
 ·have hi':D.idx (I (i:Int)) 4=some i:=ao hi
  refine aa ah (aa ae (aH (by show(i:Int)<4;omega) ?_))
  have hx:=rV (q:=q) hi
  refine aa hi' (aa hx ?_)
  generalize q i=x at *
  by_cases h1:x>64
  ·have e:oG 65 x=false:=by simp[oG];omega
   refine aa (z:=.bool true) (by simp[D.bin,h1]) (aa (z:=true) rfl (aa (z:=true) rfl (aa (z:=true) rfl ?_)))
   rw[if_pos rfl,e]
   rfl
  ·refine aa (z:=.bool false) (by simp[D.bin,h1]) (aa (z:=false) rfl ?_)
   by_cases h2:x < -64
   ·have e:oG 65 x=false:=by simp[oG];omega
    refine aa (z:=true) ?_ (aa (z:=true) rfl ?_)
    ·rw[if_neg (by decide)]
     exact aa hi' (aa hx (aa (z:=.bool true) (by simp[D.bin,h2]) rfl))
    ·rw[if_pos rfl,e];rfl
   ·have e:oG 65 x=true:=by simp[oG];omega
    refine aa (z:=false) ?_ (aa (z:=false) rfl ?_)
    ·rw[if_neg (by decide)]
     exact aa hi' (aa hx (aa (z:=.bool false) (by simp[D.bin,h2]) rfl))
    ·rw[if_neg (by decide),e]
     exact aa (aX (a:=i) (b:=1) (by omega)) rfl
 ·exact aa ah (aa ae (aD (by decide) rfl))
 ·cases xk q<;>rfl
end Sy
end
noncomputable section
namespace Sy
open Go Go.Proofs Geo
theorem G9{body:Bd}{s0:List D}{k:Nat×List D->Option D}{Q:D->Prop}(h:∃ r,aP body s0=some r/\∃ y,k r=some y/\Q y):∃ y,Option.bind (aP body s0) k=some y/\Q y:=by
 obtain⟨r,h1,y,h2,h3⟩:=h
 exact⟨y,jR h1 h2,h3⟩
theorem cP{α β:Type}{A:Option α}{g:α->Option β}{Q:β->Prop}{z:α}(h:A=some z)(hk:∃ y,g z=some y/\Q y):∃ y,Option.bind A g=some y/\Q y:=by
 subst h;exact hk
theorem IH{body:Bd}{q:Nat->Int}(h1:∀ (g s:Int) (k:Nat),k<4->0<=g->g<=64->s.natAbs<=1->∃ g' s':Int,body [I g,I s,I (k:Int)]=some (.inl [I g',I s',I ((k:Int)-1)])/\0<=g'/\g'<=64/\s'.natAbs<=1/\(s'≠0->s≠0\/q k≠0))
  (h2:∀ g s:Int,body [I g,I s,I (-1)]=some (.inr (0,[I g,I s]))):∀ (c:Nat),c<=4->∀ g s:Int,0<=g->g<=64->s.natAbs<=1->(s≠0->∃ i,i<4/\q i≠0) ->
   ∃ g' s':Int,aP body [I g,I s,I ((c:Int)-1)]=some (0,[I g',I s'])/\0<=g'/\g'<=64/\s'.natAbs<=1/\(s'≠0->∃ i,i<4/\q i≠0)
 | 0,_,g,s,g0,g1,s1,hz=>⟨g,s,cl (h2 g s),g0,g1,s1,hz⟩
 | c+1,hc,g,s,g0,g1,s1,hz=>by
  obtain⟨g',s',k1,k2,k3,k4,k5⟩:=h1 g s c (by omega) g0 g1 s1
  obtain⟨g2,s2,j1,j2⟩:=IH h1 h2 c (by omega) g' s' k2 k3 k4 (fun h=>(k5 h).elim hz (fun h=>⟨c,by omega,h⟩))
  refine⟨g2,s2,?_,j2⟩
  rw[show(((c+1:Nat):Int)-1)=(c:Int) by omega]
  exact(cJ k1).trans j1
theorem IG{body:Bd}{q:Nat->Int}{k:Nat×List D->Option D}{Q:D->Prop}(h1:∀ (g s:Int) (k:Nat),k<4->0<=g->g<=64->s.natAbs<=1->∃ g' s':Int,body [I g,I s,I (k:Int)]=some (.inl [I g',I s',I ((k:Int)-1)])/\0<=g'/\g'<=64/\s'.natAbs<=1/\(s'≠0->s≠0\/q k≠0))
  (h2:∀ g s:Int,body [I g,I s,I (-1)]=some (.inr (0,[I g,I s]))) (h3:∀ g s:Int,0<=g->g<=64->s.natAbs<=1->(s≠0->∃ i,i<4/\q i≠0)->∃ y,k (0,[I g,I s])=some y/\Q y):∃ y,Option.bind (aP body [I 0,I 0,I 3]) k=some y/\Q y:=by
 obtain⟨g,s,e,g0,g1,s1,hz⟩:=IH h1 h2 4 (Nat.le_refl _) 0 0 (by decide) (by decide) (by decide) (fun h=>absurd rfl h)
 exact G9 ⟨_,e,h3 g s g0 g1 s1 hz⟩
theorem Ox(n:Nat){q:Nat->Int}(hq:∀ i,i<4->(q i).natAbs<=64):∃ r,cA (n+2) 349 [vg q]=some r/\∃ y b,r=.tup [y,.bool b]/\(b=true->∃ i,i<4/\q i≠0):=by
 rw[Qn];unfold D7
 refine IG (q:=q) (fun g s k hk g0 g1 s1=>?_) (fun g s=>aa (z:=.bool false) rfl (aa (z:=false) rfl rfl)) (fun g s g0 g1 s1 hz=>?_)
 ·have hi:D.idx (I (k:Int)) 4=some k:=ao hk
  have hx:=rV (q:=q) hk
  have hqk:=hq k hk
  have hg:=OC (n) (a:=g) (b:=q k) (by omega) (by omega)
  have gle:Nat.gcd g.natAbs (q k).natAbs<=64:=nq (by omega) hqk
  refine⟨((Nat.gcd g.natAbs (q k).natAbs:Nat):Int),if q k=0 then s else sg (q k),aa (z:=.bool true) (by simp[D.bin]) (aa (z:=true) rfl (oo (aa (z:=(0,[I ((Nat.gcd g.natAbs (q k).natAbs:Nat):Int),I (if q k=0 then s else sg (q k))])) (aa hi (aa hx (aa hg (aa hi (aa hx ?_))))) (aa (z:=I ((k:Int)-1)) ?_ rfl)))),by omega,by omega,?_,?_⟩
  ·by_cases h:q k=0
   ·rw[h];exact aa (z:=false) rfl rfl
   ·rw[if_neg h]
    refine aa (z:=true) (by rw[bk];simp[h,D.truth]) (oo (aa hi (aa hx (aa (OD n (q k)) rfl))))
  ·have:k=0\/k=1\/k=2\/k=3:=by omega
   rcases this with rfl|rfl|rfl|rfl<;>rfl
  ·split
   ·exact s1
   ·unfold sg;split<;>(try split)<;>decide
  ·intro h
   by_cases h0:q k=0
   ·left;rw[if_pos h0] at h;exact h
   ·exact .inr h0
 ·have ms:(s*g).natAbs<=64:=by
   have:=Nat.mul_le_mul s1 (show g.natAbs<=64 by omega)
   rwa [<-Int.natAbs_mul,Nat.one_mul] at this
  refine cP (mJ (a:=g) (by simp only[inR];omega)) (cP (z:=I g) ((yQ (a:=g) (b:=-g)).trans (by congr 2;omega)) (cP (cE (a:=s) (b:=g) (by simp only[inR];omega)) ?_))
  by_cases h:s*g=0
  ·rw[h]
   exact cP (z:=true) rfl ⟨_,rfl,_,false,rfl,fun h=>by cases h⟩
  ·have hs:s≠0:=fun h0=>h (by rw[h0,Int.zero_mul])
   refine cP (z:=false) (by rw[bk,decide_eq_false h];rfl) ?_
   have qq:∀ x:Int,∃ z,D.bin .quo (I x) (I (s*g))=some z:=fun x=>⟨D.int .i64 (IntKind.i64.wrap (x.tdiv (s*g))),by simp only[D.bin,if_true,if_neg h]⟩
   obtain⟨z0,e0⟩:=qq (q 0);obtain⟨z1,e1⟩:=qq (q 1);obtain⟨z2,e2⟩:=qq (q 2);obtain⟨z3,e3⟩:=qq (q 3)
   rw[if_neg (by decide)]
   exact cP (rV (i:=0) (by decide)) (cP e0 (cP (rV (i:=1) (by decide)) (cP e1 (cP (rV (i:=2) (by decide)) (cP e2 (cP (rV (i:=3) (by decide)) (cP e3 ⟨_,rfl,_,true,rfl,fun _=>hz hs⟩)))))))
end Sy
end
noncomputable section
namespace Sy
open Go Go.Proofs Geo
theorem Ot(n:Nat)(q:Nat->Int):∃ v:Bool,cA (n+3) 331 [vg q]=some (.bool v)/\(v=true->xk q=true/\∃ i,i<4/\q i≠0):=by
 rw[Qg];unfold D0
 have h348:=Ow (n+1) q
 cases hl:xk q with
 | false=>
  rw[hl] at h348
  exact⟨false,aa h348 (aa (z:=.bool true) rfl (aa (z:=true) rfl (oo rfl))),fun h=>by cases h⟩
 | true=>
  rw[hl] at h348
  obtain⟨r,h1,y,b,rfl,h2⟩:=Ox n (Fb hl)
  cases b with
  | false=>
   refine⟨false,aa h348 (aa (z:=.bool false) rfl (aa (z:=false) rfl ?_)),fun h=>by cases h⟩
   rw[if_neg (by decide)]
   exact aa h1 (aa (z:=y) rfl (aa (z:=.bool false) rfl (aa (z:=false) rfl (aa (z:=false) rfl rfl))))
  | true=>
   refine⟨D.beq y (vg q),aa h348 (aa (z:=.bool false) rfl (aa (z:=false) rfl ?_)),fun _=>⟨rfl,h2 rfl⟩⟩
   rw[if_neg (by decide)]
   exact aa h1 (aa (z:=y) rfl (aa (z:=.bool true) rfl (aa (z:=true) rfl (aa (z:=D.beq y (vg q)) (oo rfl) rfl))))
def Bk(x:V)(q:Nat->Int):D:=.st [af x,vg q]
def vP(x:V):Bool:=(List.range 3).all fun t=>oG 140737488355328 (jv x (0+t))
theorem Fc{x:V}(h:vP x=true):x.x.natAbs<=2^47/\x.y.natAbs<=2^47/\x.z.natAbs<=2^47:=by
 simp[vP,oG,List.range_succ,jv] at h
 rw[show(2:Nat)^47=140737488355328 from rfl]
 omega
theorem Ol(n:Nat)(x:V)(q:Nat->Int):∃ v:Bool,cA (n+4) 308 [Bk x q]=some (I (if v then 0 else 1))/\(v=true->vP x=true/\xk q=true/\∃ i,i<4/\q i≠0):=by
 obtain⟨v,h1,h2⟩:=Ot n q
 refine⟨vP x&&v,?_,fun h=>by
  simp only[Bool.and_eq_true] at h
  exact⟨h.1,h2 h.2⟩⟩
 rw[P8];unfold DS
 refine jR (r:=if vP x then(1,[]) else(0,[I 1])) (tR (m:=3) (fun i=>oG 140737488355328 (jv x i)) (fun i hi=>?_) ?_ 3 0 rfl) ?_
 ·have hi':D.idx (I (i:Int)) 3=some i:=ao hi
  refine aa ah (aa ae (aH (by show(i:Int)<3;omega) ?_))
  have hx:D.get (Bk x q) [0,i]=some (I (jv x i)):=vu (v:=x) hi
  refine aa hi' (aa hx ?_)
  generalize jv x i=y at *
  by_cases h1:y ≥ 140737488355328
  ·have e:oG 140737488355328 y=false:=by simp[oG];omega
   refine aa (z:=.bool true) (by simp[D.bin,h1]) (aa (z:=true) rfl (aa (z:=true) rfl (aa (z:=true) rfl ?_)))
   rw[if_pos rfl,e]
   rfl
  ·refine aa (z:=.bool false) (by simp[D.bin,h1]) (aa (z:=false) rfl ?_)
   by_cases h2:y<=-140737488355328
   ·have e:oG 140737488355328 y=false:=by simp[oG];omega
    refine aa (z:=true) ?_ (aa (z:=true) rfl ?_)
    ·rw[if_neg (by decide)]
     exact aa hi' (aa hx (aa (z:=.bool true) (by simp[D.bin,h2]) rfl))
    ·rw[if_pos rfl,e];rfl
   ·have e:oG 140737488355328 y=true:=by simp[oG];omega
    refine aa (z:=false) ?_ (aa (z:=false) rfl ?_)
    ·rw[if_neg (by decide)]
     exact aa hi' (aa hx (aa (z:=.bool false) (by simp[D.bin,h2]) rfl))
    ·rw[if_neg (by decide),e]
     exact aa (aX (a:=i) (b:=1) (by omega)) rfl
 ·exact aa ah (aa ae (aD (by decide) rfl))
 ·cases vP x with
  | false=>rfl
  | true=>
   cases v
   ·exact aa h1 (aa (z:=.bool true) rfl (aa (z:=true) rfl (oo rfl)))
   ·exact aa h1 (aa (z:=.bool false) rfl (aa (z:=false) rfl rfl))
end Sy
end
noncomputable section
namespace Sy
open Go Go.Proofs Geo
theorem OE(n:Nat)(x:Int):∃ b:Bool,cA (n+1) 375 [.int .u8 x]=some (.bool b):=by
 rw[Qv];unfold Ee
 by_cases h1:x ≥ 97<;>by_cases h2:x<=122<;>by_cases h3:x ≥ 65<;>by_cases h4:x<=90<;>exact⟨_,by simp[D.bin,D.truth,h1,h2,h3,h4];rfl⟩
end Sy
end
noncomputable section
namespace Sy
open Go Go.Proofs Geo
def G5(lp:Lp)(call:Nat->List D->Option D)(fl c1 c2 m d p:D):Option (Nat×List D):=
(lp (β:=Nat×List D) (fun(v43:List D)=>
(D.asSl (gx v43 0)).bind fun l44=>
(D.bin .lss (gx v43 3) (D.int .i64 (l44.length))).bind fun x45=>
(D.truth x45).bind fun b46=>
 if b46 then((D.asSl (gx v43 0)).bind fun l47=>
(D.idx (gx v43 3) (l47.length)).bind fun i48=>
(l47[i48]?).bind fun x49=>
(D.fld x49 0).bind fun x50=>
(call 105 [(gx v43 7),x50]).bind fun r51=>
((D.un .not (gx v43 2)).bind fun x52=>
(D.truth x52).bind fun b53=>
(if b53 then(D.truth r51) else(some false)).bind fun b54=>
(D.truth (D.bool b54)).bind fun b55=>
 if b55 then(if List.length ((gx v43 1).els)+List.length [(D.st [(gx v43 7),(gx v43 8),(gx v43 9)])]<=1073741824 then(some (0,[(D.sl (((gx v43 1).els)++[(D.st [(gx v43 7),(gx v43 8),(gx v43 9)])])),(D.bool true),(gx v43 4),(gx v43 5),(gx v43 6),(gx v43 7),(gx v43 8),(gx v43 9)])) else none) else(some (0,[(D.sl ((gx v43 1).els)),(gx v43 2),(gx v43 4),(gx v43 5),(gx v43 6),(gx v43 7),(gx v43 8),(gx v43 9)]))).bind fun(r56:Nat×List D)=>
(D.asSl (gx v43 0)).bind fun l57=>
(D.idx (gx v43 3) (l57.length)).bind fun i58=>
(l57[i58]?).bind fun x59=>
 if List.length ((gx r56.2 0).els)+List.length [x59]<=1073741824 then((D.bin .add (gx v43 3) (D.int .i64 1)).bind fun x60=>
 some (Sum.inl [(gx v43 0),(D.sl (((gx r56.2 0).els)++[x59])),(gx r56.2 1),x60,(gx r56.2 2),(gx r56.2 3),(gx r56.2 4),(gx r56.2 5),(gx r56.2 6),(gx r56.2 7)])) else none) else(some (Sum.inr (0,[(D.sl ((gx v43 1).els)),(gx v43 2),(gx v43 4),(gx v43 5),(gx v43 6),(gx v43 7),(gx v43 8),(gx v43 9)])))) [fl,(D.sl []),(D.bool false),(D.int .i64 0),c1,c2,m,m,d,p]).bind fun r61=>
((D.un .not (gx r61.2 1)).bind fun x62=>
(D.truth x62).bind fun b63=>
 if b63 then(if List.length ((gx r61.2 0).els)+List.length [(D.st [(gx r61.2 5),(gx r61.2 6),(gx r61.2 7)])]<=1073741824 then(some (0,[(D.sl (((gx r61.2 0).els)++[(D.st [(gx r61.2 5),(gx r61.2 6),(gx r61.2 7)])])),(gx r61.2 2),(gx r61.2 3),(gx r61.2 4)])) else none) else(some (0,[(D.sl ((gx r61.2 0).els)),(gx r61.2 2),(gx r61.2 3),(gx r61.2 4)]))).bind fun(r64:Nat×List D)=>
 some (0,[(D.sl ((gx r64.2 0).els)),(gx r64.2 1),(gx r64.2 2)])
def IK(lp:Lp)(call:Nat->List D->Option D)(x1 c1 c2:D):Option (Nat×List D):=
 lp (β:=Nat×List D) (fun(v2:List D)=>
(D.asSl x1).bind fun l3=>
(D.bin .lss (gx v2 1) (D.int .i64 (l3.length))).bind fun x4=>
(D.truth x4).bind fun b5=>
 if b5 then((D.bin .add (gx v2 1) (D.int .i64 1)).bind fun x6=>
(lp (β:=Nat×List D) (fun(v7:List D)=>
(D.asSl x1).bind fun l8=>
(D.bin .lss (gx v7 1) (D.int .i64 (l8.length))).bind fun x9=>
(D.truth x9).bind fun b10=>
 if b10 then((D.bin .add (gx v7 1) (D.int .i64 1)).bind fun x11=>
(lp (β:=Nat×List D) (fun(v12:List D)=>
(D.asSl x1).bind fun l13=>
(D.bin .lss (gx v12 1) (D.int .i64 (l13.length))).bind fun x14=>
(D.truth x14).bind fun b15=>
 if b15 then((D.asSl x1).bind fun l16=>
(D.idx (gx v2 1) (l16.length)).bind fun i17=>
(l16[i17]?).bind fun x18=>
(D.asSl x1).bind fun l19=>
(D.idx (gx v7 1) (l19.length)).bind fun i20=>
(l19[i20]?).bind fun x21=>
(D.asSl x1).bind fun l22=>
(D.idx (gx v12 1) (l22.length)).bind fun wP=>
(l22[wP]?).bind fun x24=>
(call 106 [x18,x21,x24]).bind fun r25=>
(lp (β:=Nat×List D) (fun(v26:List D)=>
(D.bin .lss (gx v26 1) (D.int .i64 2)).bind fun x27=>
(D.truth x27).bind fun b28=>
 if b28 then((D.asSl x1).bind fun l29=>
(D.idx (gx v2 1) (l29.length)).bind fun i30=>
(l29[i30]?).bind fun x31=>
(call 107 [(gx v26 4),x31]).bind fun r32=>
(call 108 [(D.sl ((gx v26 0).els)),(gx v26 4)]).bind fun r33=>
((D.un .not r33).bind fun x34=>
(D.truth x34).bind fun b35=>
(if b35 then((D.un .not (D.bool (D.beq (gx v26 4) (D.st [(D.int .i64 0),(D.int .i64 0),(D.int .i64 0)])))).bind fun x36=>
 D.truth x36) else(some false)).bind fun b37=>
(D.truth (D.bool b37)).bind fun b38=>
(if b38 then((call 109 [x1,(gx v26 4),r32]).bind fun r39=>
 D.truth r39) else(some false)).bind fun b40=>
(D.truth (D.bool b40)).bind fun b41=>
 if b41 then((call 111 [x1,(gx v26 4),r32]).bind fun r42=>
(lp (β:=Nat×List D) (fun(v43:List D)=>
(D.asSl (gx v43 0)).bind fun l44=>
(D.bin .lss (gx v43 3) (D.int .i64 (l44.length))).bind fun x45=>
(D.truth x45).bind fun b46=>
 if b46 then((D.asSl (gx v43 0)).bind fun l47=>
(D.idx (gx v43 3) (l47.length)).bind fun i48=>
(l47[i48]?).bind fun x49=>
(D.fld x49 0).bind fun x50=>
(call 105 [(gx v43 7),x50]).bind fun r51=>
((D.un .not (gx v43 2)).bind fun x52=>
(D.truth x52).bind fun b53=>
(if b53 then(D.truth r51) else(some false)).bind fun b54=>
(D.truth (D.bool b54)).bind fun b55=>
 if b55 then(if List.length ((gx v43 1).els)+List.length [(D.st [(gx v43 7),(gx v43 8),(gx v43 9)])]<=1073741824 then(some (0,[(D.sl (((gx v43 1).els)++[(D.st [(gx v43 7),(gx v43 8),(gx v43 9)])])),(D.bool true),(gx v43 4),(gx v43 5),(gx v43 6),(gx v43 7),(gx v43 8),(gx v43 9)])) else none) else(some (0,[(D.sl ((gx v43 1).els)),(gx v43 2),(gx v43 4),(gx v43 5),(gx v43 6),(gx v43 7),(gx v43 8),(gx v43 9)]))).bind fun(r56:Nat×List D)=>
(D.asSl (gx v43 0)).bind fun l57=>
(D.idx (gx v43 3) (l57.length)).bind fun i58=>
(l57[i58]?).bind fun x59=>
 if List.length ((gx r56.2 0).els)+List.length [x59]<=1073741824 then((D.bin .add (gx v43 3) (D.int .i64 1)).bind fun x60=>
 some (Sum.inl [(gx v43 0),(D.sl (((gx r56.2 0).els)++[x59])),(gx r56.2 1),x60,(gx r56.2 2),(gx r56.2 3),(gx r56.2 4),(gx r56.2 5),(gx r56.2 6),(gx r56.2 7)])) else none) else(some (Sum.inr (0,[(D.sl ((gx v43 1).els)),(gx v43 2),(gx v43 4),(gx v43 5),(gx v43 6),(gx v43 7),(gx v43 8),(gx v43 9)])))) [(D.sl ((gx v26 0).els)),(D.sl []),(D.bool false),(D.int .i64 0),(gx v26 2),(gx v26 3),(gx v26 4),(gx v26 4),r32,r42]).bind fun r61=>
((D.un .not (gx r61.2 1)).bind fun x62=>
(D.truth x62).bind fun b63=>
 if b63 then(if List.length ((gx r61.2 0).els)+List.length [(D.st [(gx r61.2 5),(gx r61.2 6),(gx r61.2 7)])]<=1073741824 then(some (0,[(D.sl (((gx r61.2 0).els)++[(D.st [(gx r61.2 5),(gx r61.2 6),(gx r61.2 7)])])),(gx r61.2 2),(gx r61.2 3),(gx r61.2 4)])) else none) else(some (0,[(D.sl ((gx r61.2 0).els)),(gx r61.2 2),(gx r61.2 3),(gx r61.2 4)]))).bind fun(r64:Nat×List D)=>
 some (0,[(D.sl ((gx r64.2 0).els)),(gx r64.2 1),(gx r64.2 2)])) else(some (0,[(D.sl ((gx v26 0).els)),(gx v26 2),(gx v26 3)]))).bind fun(r65:Nat×List D)=>
(call 112 [(D.st [(D.int .i64 0),(D.int .i64 0),(D.int .i64 0)]),(gx v26 4)]).bind fun r66=>
(D.bin .add (gx v26 1) (D.int .i64 1)).bind fun x67=>
 some (Sum.inl [(D.sl ((gx r65.2 0).els)),x67,(gx r65.2 1),(gx r65.2 2),r66])) else(some (Sum.inr (0,[(D.sl ((gx v26 0).els)),(gx v26 2),(gx v26 3)])))) [(D.sl ((gx v12 0).els)),(D.int .i64 0),(gx v12 2),(gx v12 3),r25]).bind fun r68=>
(D.bin .add (gx v12 1) (D.int .i64 1)).bind fun x69=>
 some (Sum.inl [(D.sl ((gx r68.2 0).els)),x69,(gx r68.2 1),(gx r68.2 2)])) else(some (Sum.inr (0,[(D.sl ((gx v12 0).els)),(gx v12 2),(gx v12 3)])))) [(D.sl ((gx v7 0).els)),x11,(gx v7 2),(gx v7 3)]).bind fun r70=>
(D.bin .add (gx v7 1) (D.int .i64 1)).bind fun x71=>
 some (Sum.inl [(D.sl ((gx r70.2 0).els)),x71,(gx r70.2 1),(gx r70.2 2)])) else(some (Sum.inr (0,[(D.sl ((gx v7 0).els)),(gx v7 2),(gx v7 3)])))) [(D.sl ((gx v2 0).els)),x6,(gx v2 2),(gx v2 3)]).bind fun r72=>
(D.bin .add (gx v2 1) (D.int .i64 1)).bind fun x73=>
 some (Sum.inl [(D.sl ((gx r72.2 0).els)),x73,(gx r72.2 1),(gx r72.2 2)])) else(some (Sum.inr (0,[(D.sl ((gx v2 0).els)),(gx v2 2),(gx v2 3)])))) [(D.sl []),(D.int .i64 0),c1,c2]
theorem E0(n:Nat)(L:FL)(f:(V×Int)×List Nat)(c1 c2:D){P:D}(hP:re f.1 f.2=.st [af f.1.1,I f.1.2,P])(hL:L.length<=3000000):G5 aP (cA (n+1)) (.sl (aq L)) c1 c2 (af f.1.1) (I f.1.2) P=some (0,[.sl (aq (eY f L)),c1,c2]):=by
 unfold G5
 have app:∀ (o:FL) (x:(V×Int)×List Nat),aq o++[re x.1 x.2]=aq (o++[x]):=fun o x=>by simp[aq]
 refine dn (fun i s=>∃ (out:FL) (put:Bool),s=[.sl (aq L),.sl (aq out),.bool put,I (i:Int),c1,c2,af f.1.1,af f.1.1,I f.1.2,P]/\out.length<=2*i/\(put=false->eY f L=out++eY f (L.drop i))/\(put=true->eY f L=out++L.drop i)) L.length 0 (Nat.zero_le _) ⟨[],false,rfl,by simp,by simp,by simp⟩ (fun i hi s hJ=>?_) (fun s hJ=>?_)
 ·obtain⟨out,put,rfl,hol,h1,h2⟩:=hJ
  left
  have hd:L.drop i=L[i]::L.drop (i+1):=List.drop_eq_getElem_cons hi
  have hc:=GF n f.1.1 L[i].1.1
  obtain⟨o,p,he,ho,q1,q2⟩:∃ o p,(if put=false/\az f.1.1 L[i].1.1 then(out++[f],true) else(out,put))=(o,p)/\o.length<=2*i+1/\(p=false->eY f L=o++L[i]::eY f (L.drop (i+1)))/\(p=true->eY f L=o++L[i]::L.drop (i+1)):=by
   by_cases hput:put=false/\az f.1.1 L[i].1.1
   ·refine⟨_,_,if_pos hput,by simp;omega,by simp,fun _=>?_⟩
    rw[h1 hput.1,hd];simp[eY,hput.2]
   ·refine⟨_,_,if_neg hput,by omega,fun hp=>?_,fun hp=>?_⟩
    ·have hnl:¬ az f.1.1 L[i].1.1:=fun h=>hput ⟨hp,h⟩
     rw[h1 hp,hd];simp[eY,hnl]
    ·rw[h2 hp,hd]
  refine⟨[.sl (aq L),.sl (aq (o++[L[i]])),.bool p,I ((i+1:Nat):Int),c1,c2,af f.1.1,af f.1.1,I f.1.2,P],?_,o++[L[i]],p,rfl,by simp;omega,fun hp=>by rw[q1 hp];simp,fun hp=>by rw[q2 hp];simp⟩
  refine aa (z:=aq L) rfl (aa ah (aa ae (aH (by show((i:Int)<((aq L).length:Int));rw[aG];omega) ?_)))
  refine(aa (z:=aq L) rfl (aa (z:=i) (by rw[aG];exact ao hi) (aa (dH hi) (aa (z:=af L[i].1.1) rfl (aa hc ?_)))))
  refine aa (z:=(0,[.sl (aq o),.bool p,c1,c2,af f.1.1,af f.1.1,I f.1.2,P])) ?_ ?_
  ·refine aa (z:=.bool (!put)) rfl (aa (z:=!put) rfl (aa (z:=!put&&decide (az f.1.1 L[i].1.1)) ?_ (aa (z:=!put&&decide (az f.1.1 L[i].1.1)) rfl ?_)))
   ·cases put
    ·exact ae
    ·rfl
   ·by_cases hput:put=false/\az f.1.1 L[i].1.1
    ·rw[if_pos hput] at he
     obtain⟨rfl,hlt⟩:=hput
     cases he
     rw[show(!false&&decide (az f.1.1 L[i].1.1))=true by simp[hlt],if_pos rfl,if_pos (by simp only[List.getD_cons_succ,List.getD_cons_zero,D.els,aG,List.length_cons,List.length_nil];omega)]
     simp only[List.getD_cons_succ,List.getD_cons_zero,D.els,<-hP,app]
    ·rw[if_neg hput] at he
     cases he
     rw[show(!put&&decide (az f.1.1 L[i].1.1))=false by
      cases put
      ·simpa using hput
      ·rfl]
     rfl
  ·refine aa (z:=aq L) rfl (aa (z:=i) (by rw[aG];exact ao hi) (aa (dH hi) ?_))
   rw[if_pos (by simp only[List.getD_cons_succ,List.getD_cons_zero,D.els,aG,List.length_cons,List.length_nil];omega)]
   refine aa (av (ar (i:=i) (by omega))) ?_
   simp only[List.getD_cons_succ,List.getD_cons_zero,D.els,<-hP,app]
   rfl
 ·obtain⟨out,put,rfl,hol,h1,h2⟩:=hJ
  refine⟨(0,[.sl (aq out),.bool put,c1,c2,af f.1.1,af f.1.1,I f.1.2,P]),?_,?_⟩
  ·exact aa (z:=aq L) rfl (aa ah (aa ae (aD (by show ¬ ((L.length:Int)<((aq L).length:Int));rw[aG];omega) rfl)))
  ·cases put
   ·have:=h1 rfl
    rw[List.drop_length] at this
    rw[this]
    refine aa (z:=(0,[.sl (aq (out++[f])),c1,c2,af f.1.1])) ?_ rfl
    refine aa (z:=.bool true) rfl (aa (z:=true) rfl ?_)
    rw[if_pos rfl,if_pos (by simp only[List.getD_cons_succ,List.getD_cons_zero,D.els,aG,List.length_cons,List.length_nil];omega)]
    simp only[List.getD_cons_succ,List.getD_cons_zero,D.els,<-hP,app]
   ·have:=h2 rfl
    rw[List.drop_length,List.append_nil] at this
    rw[this]
    rfl
theorem Gf(n:Nat)(c1 c2:D){l:List V}(hl:∀ x∈l,bd MV x)(hlen:l.length<=100)(hs:AX l){F:FL}(hF:FOk l F){i j k:Nat}(hij:i<j)(hjk:j<k)(hk:k<l.length){m:V}(hm:m=bA (er (pt l) i j k)\/m=(bA (er (pt l) i j k)).neg){α:Type}{g:D->Nat×List D->Option α}{Y:α->Prop}
  (hg:∀ F':FL,FOk l F'->(∀ f∈F,f∈F')->(er (pt l) i j k≠V.zero->qZ (pt l) l.length m (V.dot m (pt l i))->(m,V.dot m (pt l i))∈F'.map Prod.fst)->∃ y,g (I (V.dot m (pt l i))) (0,[.sl (aq F'),c1,c2])=some y/\Y y) :
  ∃ y,(Option.bind (cA (n+4) 107 [(af m),(af (pt l i))]) fun r32=>
 Option.bind (cA (n+4) 108 [(.sl (aq F)),(af m)]) fun r33=>
 Option.bind (Option.bind (D.un .not r33) fun x34=>
 Option.bind (D.truth x34) fun b35=>
 Option.bind (if b35 then(Option.bind (D.un .not (D.bool (D.beq (af m) (D.st [(D.int .i64 0),(D.int .i64 0),(D.int .i64 0)])))) fun x36=>
 D.truth x36) else(some false)) fun b37=>
 Option.bind (D.truth (D.bool b37)) fun b38=>
 Option.bind (if b38 then(Option.bind (cA (n+4) 109 [aN l,(af m),r32]) fun r39=>
 D.truth r39) else(some false)) fun b40=>
 Option.bind (D.truth (D.bool b40)) fun b41=>
 if b41 then(Option.bind (cA (n+4) 111 [aN l,(af m),r32]) fun r42=>
 G5 aP (cA (n+4)) (.sl (aq F)) c1 c2 (af m) r32 r42) else(some (0,[(.sl (aq F)),c1,c2]))) (g r32))=some y/\Y y:=by
 have hi:i<l.length:=by omega
 have bt:bd 549755813888 (bA (er (pt l) i j k)):=gS (fL (gT (P:=pt l) (hl _ (bL hi)) (hl _ (bL (show j<l.length by omega)))) (gT (P:=pt l) (hl _ (bL hi)) (hl _ (bL hk))))
 have bm:bd 549755813888 m:=by
  rcases hm with rfl|rfl
  ·exact bt
  ·exact kU bt
 have hFl:=hF.len hlen
 have hmz:m=V.zero↔er (pt l) i j k=V.zero:=by
  rcases hm with rfl|rfl
  ·exact jc
  ·rw[sB,jc]
 refine ab (wV (n+3) bm (hl _ (bL hi)) (by decide)) (ab (Ii (n+3) F m (by omega)) ?_)
 obtain⟨d,hd⟩:∃ d,V.dot m (l.getD i V.zero)=d:=⟨_,rfl⟩
 have hdp:V.dot m (pt l i)=d:=hd
 rw[hdp] at hg
 rw[hdp]
 by_cases hkn:(F.any fun f=>decide (f.1.1=m))=true
 ·rw[hkn]
  refine ab (z:=(0,[.sl (aq F),c1,c2])) (aa (z:=.bool false) rfl (aa (z:=false) rfl (aa (z:=false) rfl (aa (z:=false) rfl (aa (z:=false) rfl (aa (z:=false) rfl rfl)))))) (hg F hF (fun f hf=>hf) fun ht hsp=>?_)
  obtain⟨f,hf,hfm⟩:=List.any_eq_true.1 hkn
  have hfm:f.1.1=m:=by simpa using hfm
  have h1:=(hF.ok f hf).1
  rw[hfm] at h1
  have h2:IsF (pt l) l.length m d:=⟨⟨i,j,k,hij,hjk,hk,ht,hm,hdp.symm⟩,hsp⟩
  exact List.mem_map.2 ⟨f,hf,Prod.ext hfm (IsF.d_eq h1 h2)⟩
 ·rw[Bool.not_eq_true] at hkn
  rw[hkn]
  have hnk:∀ f∈F,f.1.1≠m:=fun f hf e=>by
   have:=List.any_eq_false.1 hkn f hf
   simp[e] at this
  by_cases hz:m=V.zero
  ·refine ab (z:=(0,[.sl (aq F),c1,c2])) (aa (z:=.bool true) rfl (aa (z:=true) rfl (aa (z:=false) ?_ (aa (z:=false) rfl (aa (z:=false) rfl (aa (z:=false) rfl rfl)))))) (hg F hF (fun f hf=>hf) fun ht hsp=>absurd (hmz.1 hz) ht)
   rw[if_pos rfl,iV,gl,decide_eq_true (show m=⟨0,0,0⟩ from hz)];rfl
  ·have ht:er (pt l) i j k≠V.zero:=fun e=>hz (hmz.2 e)
   have hc:=Ij (n+2) (d:=d) hl bm (by decide) (by omega)
   by_cases hsp:supp l (m,d)=true
   ·have hFm:IsF (pt l) l.length m d:=⟨⟨i,j,k,hij,hjk,hk,ht,hm,hdp.symm⟩,iL.1 hsp⟩
    obtain⟨p,hp,_,_⟩:=hFm.poly hs
    refine ab (z:=(0,[.sl (aq (eY ((m,d),p) F)),c1,c2])) (aa (z:=.bool true) rfl (aa (z:=true) rfl (aa (z:=true) ?_ (aa (z:=true) rfl (aa (z:=true) ?_ (aa (z:=true) rfl ?_)))))) (hg _ (hF.insert hnk hFm hp) (fun f hf=>gw.2 (.inr hf)) fun _ _=>List.mem_map.2 ⟨((m,d),p),gw.2 (.inl rfl),rfl⟩)
    ·rw[if_pos rfl,iV,gl,decide_eq_false (show ¬ m=⟨0,0,0⟩ from hz)];rfl
    ·rw[if_pos rfl]
     refine aa hc ?_
     rw[ae];exact congrArg some hsp
    ·rw[if_pos rfl]
     exact aa (I3 n hl hlen hs hFm bm hp) (E0 (n+3) F ((m,d),p) c1 c2 rfl (by omega))
   ·refine ab (z:=(0,[.sl (aq F),c1,c2])) (aa (z:=.bool true) rfl (aa (z:=true) rfl (aa (z:=true) ?_ (aa (z:=true) rfl (aa (z:=false) ?_ (aa (z:=false) rfl rfl)))))) (hg F hF (fun f hf=>hf) fun _ hsp'=>absurd (iL.2 hsp') hsp)
    ·rw[if_pos rfl,iV,gl,decide_eq_false (show ¬ m=⟨0,0,0⟩ from hz)];rfl
    ·rw[if_pos rfl]
     refine aa hc ?_
     rw[ae]
     exact congrArg some (Bool.eq_false_iff.2 hsp)
theorem Tb{x y z w:D}{l:List D}{d:D}:List.getD (x::y::z::w::l) 3 d=w:=rfl
theorem Tc{x y z w v:D}{l:List D}{d:D}:List.getD (x::y::z::w::v::l) 4 d=v:=rfl
theorem yC(n:Nat){l:List V}(hl:∀ x∈l,bd MV x)(hlen:l.length<=100)(hs:AX l)(c1 c2:D){α:Type}{K:Nat×List D->Option α}{Y:α->Prop}(hK:∀ F:FL,KnF l l.length 0 0 F->∃ y,K (0,[.sl (aq F),c1,c2])=some y/\Y y):∃ y,Option.bind (IK aP (cA (n+6)) (aN l) c1 c2) K=some y/\Y y:=by
 unfold IK
 have ll:(l.map af).length=l.length:=List.length_map ..
 refine dz (fun i s=>∃ F:FL,s=[.sl (aq F),I (i:Int),c1,c2]/\KnF l i 0 0 F) l.length 0 (Nat.zero_le _) ⟨[],rfl,⟨.nil,by simp⟩,fun i' j' k' h1 h2 h3 h4=>by omega⟩ (fun i hi s hJ=>?_) (fun s hJ=>?_)
 ·obtain⟨F,rfl,hF⟩:=hJ
  refine ab (z:=l.map af) rfl (ab ah (ab ae (bE (by show((i:Int)<((l.map af).length:Int));rw[ll];omega) (ab (av (ar (i:=i) (by omega))) ?_))))
  refine dz (fun j s=>i+1<=j/\∃ F:FL,s=[.sl (aq F),I (j:Int),c1,c2]/\KnF l i j 0 F) l.length (i+1) (by omega) ⟨Nat.le_refl _,F,rfl,hF.mono fun i' j' k' h1 h2 h3 h4=>by omega⟩ (fun j hj s hJ=>?_) (fun s hJ=>?_)
  ·obtain⟨hij,F,rfl,hF⟩:=hJ
   refine ab (z:=l.map af) rfl (ab ah (ab ae (bE (by show((j:Int)<((l.map af).length:Int));rw[ll];omega) (ab (av (ar (i:=j) (by omega))) ?_))))
   refine dz (fun k s=>j+1<=k/\∃ F:FL,s=[.sl (aq F),I (k:Int),c1,c2]/\KnF l i j k F) l.length (j+1) (by omega) ⟨Nat.le_refl _,F,rfl,hF.mono fun i' j' k' h1 h2 h3 h4=>by omega⟩ (fun k hk s hJ=>?_) (fun s hJ=>?_)
   ·obtain⟨hjk,F,rfl,hF⟩:=hJ
    refine ab (z:=l.map af) rfl (ab ah (ab ae (bE (by show((k:Int)<((l.map af).length:Int));rw[ll];omega) ?_)))
    refine ab (z:=l.map af) rfl (ab (z:=i) (by rw[ll];exact ao hi) (ab (co hi) (ab (z:=l.map af) rfl (ab (z:=j) (by rw[ll];exact ao hj) (ab (co hj) (ab (z:=l.map af) rfl (ab (z:=k) (by rw[ll];exact ao hk) (ab (co hk) (ab (z:=af (bA (er (pt l) i j k))) (Ih n (hl _ (bL hi)) (hl _ (bL hj)) (hl _ (bL hk))) ?_)))))))))
    have bt:bd 549755813888 (bA (er (pt l) i j k)):=gS (fL (gT (P:=pt l) (hl _ (bL hi)) (hl _ (bL hj))) (gT (P:=pt l) (hl _ (bL hi)) (hl _ (bL hk))))
    obtain⟨p,hp⟩:∃ p,bA (er (pt l) i j k)=p:=⟨_,rfl⟩
    rw[hp] at bt ⊢
    have z0:bd 0 V.zero:=by simp only[bd,V.zero];omega
    have e1:V.zero.sub p=p.neg:=by apply V.ext'<;>simp[V.sub,V.neg,V.zero]
    have e2:V.zero.sub p.neg=p:=by apply V.ext'<;>simp[V.sub,V.neg,V.zero]
    refine dz (fun t s=>∃ F':FL,s=[.sl (aq F'),I (t:Int),c1,c2,af (mt p t)]/\FOk l F'/\(∀ f∈F,f∈F')/\(1<=t->er (pt l) i j k≠V.zero->qZ (pt l) l.length p (V.dot p (pt l i))->(p,V.dot p (pt l i))∈F'.map Prod.fst)/\(2<=t->er (pt l) i j k≠V.zero->qZ (pt l) l.length p.neg (V.dot p.neg (pt l i))->(p.neg,V.dot p.neg (pt l i))∈F'.map Prod.fst)) 2 0 (by omega) ⟨F,rfl,hF.fok,fun f hf=>hf,fun h=>by omega,fun h=>by omega⟩ (fun t ht s hJ=>?_) (fun s hJ=>?_)
    ·obtain⟨F',rfl,f1,f2,f3,f4⟩:=hJ
     refine ab ah (ab ae (bE (by show((t:Int)<2);omega) (ab (z:=l.map af) rfl (ab (z:=i) (by rw[ll];exact ao hi) (ab (co hi) ?_)))))
     have ht':t=0\/t=1:=by omega
     simp only[g0,g1,g2,Tb,Tc]
     rcases ht' with rfl|rfl
     ·rw[show mt p 0=p from rfl]
      refine Gf (n+2) c1 c2 hl hlen hs f1 (show i<j by omega) (show j<k by omega) hk (m:=p) (.inl hp.symm) (fun F2 k1 k2 k3=>?_)
      refine⟨.inl [.sl (aq F2),I ((0+1:Nat):Int),c1,c2,af p.neg],?_,?_⟩
      ·refine aa (z:=af p.neg) ?_ ?_
       ·have:=tn (n+5) z0 bt (by decide)
        rw[e1] at this
        exact this
       ·exact aa (av G1) rfl
      ·exact⟨F2,rfl,k1,fun f hf=>k2 f (f2 f hf),fun _=>k3,fun h=>by omega⟩
     ·rw[show mt p 1=p.neg from rfl]
      refine Gf (n+2) c1 c2 hl hlen hs f1 (show i<j by omega) (show j<k by omega) hk (m:=p.neg) (.inr (by rw[hp])) (fun F2 k1 k2 k3=>?_)
      refine⟨.inl [.sl (aq F2),I ((1+1:Nat):Int),c1,c2,af p],?_,F2,rfl,k1,fun f hf=>k2 f (f2 f hf),fun _ h1 h2=>?_,fun _=>k3⟩
      ·refine aa (z:=af p) ?_ ?_
       ·have:=tn (n+5) z0 (kU bt) (by decide)
        rw[e2] at this
        exact this
       ·exact aa (av lg) rfl
      ·obtain⟨f,hf,e⟩:=List.mem_map.1 (f3 (Nat.le_refl _) h1 h2)
       exact List.mem_map.2 ⟨f,k2 f hf,e⟩
    ·obtain⟨F',rfl,f1,f2,f3,f4⟩:=hJ
     refine⟨.inr (0,[.sl (aq F'),c1,c2]),aa ah (aa ae (aD (by decide) rfl)),.inl [.sl (aq F'),I ((k+1:Nat):Int),c1,c2],aa (av (ar (i:=k) (by omega))) rfl,by omega,F',rfl,f1,fun i' j' k' h1 h2 h3 h4 h5 m h6 h7=>?_⟩
     by_cases e:i'=i/\j'=j/\k'=k
     ·obtain⟨rfl,rfl,rfl⟩:=e
      rw[hp] at h6
      rcases h6 with rfl|rfl
      ·exact f3 (by omega) h5 h7
      ·exact f4 (by omega) h5 h7
     ·obtain⟨f,hf,e⟩:=List.mem_map.1 (hF.all i' j' k' h1 h2 h3 (by omega) h5 m h6 h7)
      exact List.mem_map.2 ⟨f,f2 f hf,e⟩
   ·obtain⟨hjk,F,rfl,hF⟩:=hJ
    refine⟨.inr (0,[.sl (aq F),c1,c2]),?_,.inl [.sl (aq F),I ((j+1:Nat):Int),c1,c2],aa (av (ar (i:=j) (by omega))) rfl,by omega,F,rfl,hF.mono fun i' j' k' h1 h2 h3 h4=>by omega⟩
    exact aa (z:=l.map af) rfl (aa ah (aa ae (aD (by show ¬ ((l.length:Int)<((l.map af).length:Int));rw[ll];omega) rfl)))
  ·obtain⟨hij,F,rfl,hF⟩:=hJ
   refine⟨.inr (0,[.sl (aq F),c1,c2]),?_,.inl [.sl (aq F),I ((i+1:Nat):Int),c1,c2],aa (av (ar (i:=i) (by omega))) rfl,F,rfl,hF.mono fun i' j' k' h1 h2 h3 h4=>by omega⟩
   exact aa (z:=l.map af) rfl (aa ah (aa ae (aD (by show ¬ ((l.length:Int)<((l.map af).length:Int));rw[ll];omega) rfl)))
 ·obtain⟨F,rfl,hF⟩:=hJ
  obtain⟨y,hy,hY⟩:=hK F hF
  refine⟨.inr (0,[.sl (aq F),c1,c2]),?_,y,hy,hY⟩
  exact aa (z:=l.map af) rfl (aa ah (aa ae (aD (by show ¬ ((l.length:Int)<((l.map af).length:Int));rw[ll];omega) rfl)))
end Sy
end
end Go.Proofs.YtpahompifldeeaaGreat
