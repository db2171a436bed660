/- Part 13 of the proof that HullMassesMatchSpec answers true at every input -/
import Derived.Test.YtjjjkojfijpeeaaGreatMasses09
import Derived.Test.YtjjjkojfijpeeaaGreatMasses12
set_option linter.unusedVariables false
set_option linter.unusedSimpArgs false
set_option linter.unnecessarySimpa false
section
set_option linter.unusedVariables false
namespace Go.Proofs.YtjjjkojfijpeeaaGreat.Sy
open Go Go.Proofs Go.Proofs.YtjjjkojfijpeeaaGreat.Geo
theorem Aa{m:Nat}(hm:m<18446744073709551616):D.st (D.putParts (List.replicate 16 (D.int .u32 0)) [(0,.int .u32 ((m:Int)%4294967296)),(1,.int .u32 ((m:Int)/4294967296%4294967296))])=LM m:=by
 have e:LM m=cC 16 (fun j=>if j=0 then(m:Int)%4294967296 else if j=1 then(m:Int)/4294967296%4294967296 else 0):=de fun j hj=>by
  match j with
  | 0=>simp[bu]
  | 1=>simp[bu]
  | j+2=>
   rw[if_neg (by omega),if_neg (by omega)]
   exact fl (n:=2) (by simpa using hm) (by omega)
 rw[e];rfl
theorem tY{X:Nat}(h:X<18446744073709551616):dg X 1*4294967296+dg X 0=X:=by
 unfold dg
 simp only[Nat.mul_zero,Nat.pow_zero,Nat.div_one,Nat.mul_one]
 have:(2:Nat)^32=4294967296:=rfl
 rw[this];omega
theorem fM(b:D)(c:D){X i:Nat}(h:i<16):D.get (.st [b,c,LM X]) [2,i]=some (.int .u32 (bu X i)):=aa (z:=LM X) rfl (ba _ h)
theorem zb(n:Nat){m:Nat}(h:m<eJ):cA (n+1) 116 [.bool false,LM m]=some (ah (m:Int)):=by
 rw[tA n false h]
 have:sgn false m=(m:Int):=if_neg (by decide)
 rw[this]
theorem J9(n:Nat){x:Int}(hx:In x):cA (n+3) 171 [ah x]=some (ah (x.natAbs:Nat)):=by
 rw[Jj]
 unfold En
 have h118:cA (n+2) 118 [.sl [ah x]]=some (.bool true):=ra n (a:=some x) (cR hx)
 refine aa h118 (aa cK (aa (z:=false) rfl ?_))
 rw[if_neg (by decide)]
 have hg:D.get (ah x) [2]=some (LM x.natAbs):=by rw[cd];rfl
 exact aa hg (aa (zb (n+1) (bD.1 hx)) rfl)
theorem Ar:18446744073709551616<=eJ:=by
 have h:=qo (a:=2) (b:=16) (by decide)
 rw[rW] at h
 rw[fB];exact h
theorem wY{X:Nat}(hX:X<eJ):cM X<=2↔X<18446744073709551616:=by
 have h1:=dY hX
 constructor
 ·intro h
  exact Nat.lt_of_lt_of_le h1 (Nat.le_trans (Nat.pow_le_pow_right (by decide) (show 32*cM X<=64 by omega)) (by decide))
 ·intro h
  rcases Nat.lt_or_ge 2 (cM X) with k|k
  ·have:=ls (X:=X) (by omega)
   have h2:2^64<=2^(32*(cM X-1)):=Nat.pow_le_pow_right (by decide) (by omega)
   omega
  ·exact k
theorem gj{m:Nat}:In (m:Int)↔m<eJ:=by rw[bD,Int.natAbs_natCast]
theorem qn(n:Nat){x y:Int}(hx:In x)(hy:In y)(ih:y≠0->cA (n+4) 131 [ah (y.natAbs:Nat),ah ((x.natAbs%y.natAbs:Nat):Int)]=some (ah (Nat.gcd y.natAbs (x.natAbs%y.natAbs):Nat))) :
  cA (n+5) 131 [ah x,ah y]=some (ah (Nat.gcd x.natAbs y.natAbs:Nat)):=by
 rw[JI]
 unfold C3
 have h118:=uw (n+2) (cR hx) (cR hy)
 refine aa h118 (aa cK (aa af ?_))
 rw[if_neg (by simp)]
 have hxt:=bD.1 hx
 have hyt:=bD.1 hy
 rw[cd x,cd y]
 have hxy:y=0↔y.natAbs=0:=by omega
 rw[Ne,hxy] at ih
 generalize hX:x.natAbs=X at *
 generalize hY:y.natAbs=Y at *
 refine aa (z:=LM X) rfl (aa (xf (n+3) hxt) (aa qM (aa af ?_)))
 refine aa (z:=decide (X<18446744073709551616)&&decide (Y<18446744073709551616)) ?_ (aa af ?_)
 ·by_cases h:X<18446744073709551616
  ·refine aH (by have:=(wY hxt).2 h;omega) ?_
   refine aa (z:=LM Y) rfl (aa (xf (n+3) hyt) (aa qM ?_))
   rw[decide_eq_true h,Bool.true_and,af]
   congr 1;rw[decide_eq_decide,<-wY hyt];omega
  ·refine aJ (by intro k;exact h ((wY hxt).1 (by omega))) ?_
   rw[decide_eq_false h,Bool.false_and]
 by_cases hs:X<18446744073709551616/\Y<18446744073709551616
 ·rw[decide_eq_true hs.1,decide_eq_true hs.2,Bool.and_self,if_pos rfl]
  have dx1:=fd X 1;have dx0:=fd X 0;have dy1:=fd Y 1;have dy0:=fd Y 0
  refine aa (fM _ _ (by decide)) (aa (kQ X 1) (aa (oP (m:=32) rfl (by decide) (by omega)) (aa (fM _ _ (by decide)) (aa (kQ X 0) (aa (gQ (m:=32) dx0 (by omega)) ?_)))))
  refine aa (fM _ _ (by decide)) (aa (kQ Y 1) (aa (oP (m:=32) rfl (by decide) (by omega)) (aa (fM _ _ (by decide)) (aa (kQ Y 0) (aa (gQ (m:=32) dy0 (by omega)) ?_)))))
  have ex:dg X 1*2^32+dg X 0=X:=tY hs.1
  have ey:dg Y 1*2^32+dg Y 0=Y:=tY hs.2
  rw[ex,ey]
  refine pa (fun m s=>∃ a,s=[W (a:Nat),W (m:Nat)]/\a<18446744073709551616/\m<18446744073709551616/\Nat.gcd a m=Nat.gcd X Y) Y _ ⟨X,rfl,hs.1,hs.2,rfl⟩ (fun m s hJ=>?_)
  obtain⟨a,rfl,ha,hm,hg⟩:=hJ
  have hbq:D.beq (W (m:Nat)) (.int .u64 0)=decide (m=0):=by
   simp only[D.beq,decide_true,Bool.true_and];rw[decide_eq_decide];omega
  by_cases h0:m=0
  ·right
   subst h0
   refine⟨(0,[W (a:Nat)]),?_,?_⟩
   ·refine aa (z:=false) (by show D.truth (.bool (!(D.beq (W ((0:Nat):Int)) (.int .u64 0))))=_;rw[hbq];rfl) ?_
    rw[if_neg (by decide)];rfl
   ·rw[Nat.gcd_zero_right] at hg
    refine aa (gt _) (aa (pJ (by show(0:Int)<=(a:Nat);omega)) (aa (gt _) ?_))
    have e:=Aa ha
    refine aa (z:=ah (a:Int)) ?_ (by rw[<-hg])
    show cA (n+4) 116 [.bool false,D.st (D.putParts (List.replicate 16 (D.int .u32 0)) [(0,.int .u32 ((a:Int)%4294967296)),(1,.int .u32 ((a:Int)/4294967296%4294967296))])]=_
    rw[e]
    exact zb (n+3) (Nat.lt_of_lt_of_le ha Ar)
  ·left
   refine⟨a%m,[W (m:Nat),W ((a%m:Nat):Int)],Nat.mod_lt _ (by omega),?_,m,rfl,hm,Nat.lt_trans (Nat.mod_lt _ (by omega)) hm,by rw[<-hg,Nat.gcd_comm a m,Nat.gcd_rec m a,Nat.gcd_comm]⟩
   refine aa (z:=true) (by show D.truth (.bool (!(D.beq (W (m:Nat)) (.int .u64 0))))=_;rw[hbq,decide_eq_false h0];rfl) ?_
   rw[if_pos rfl]
   exact aa (BX h0) rfl
 ·have:(decide (X<18446744073709551616)&&decide (Y<18446744073709551616))=false:=by
   rw[Bool.and_eq_false_iff,decide_eq_false_iff_not,decide_eq_false_iff_not];omega
  rw[this,if_neg (by decide)]
  refine aa (z:=LM X) rfl (aa (z:=LM Y) rfl ?_)
  rw[iw,lw hyt fg]
  by_cases h0:Y=0
  ·rw[decide_eq_true h0]
   refine aa (z:=false) rfl ?_
   rw[if_neg (by decide),h0,Nat.gcd_zero_right]
   have:=J9 (n+1) hx
   rw[cd x,hX] at this
   exact aa this rfl
  ·rw[decide_eq_false h0]
   refine aa (z:=true) rfl ?_
   rw[if_pos rfl]
   have hr:X%Y<Y:=Nat.mod_lt _ (by omega)
   refine aa (Hv n hxt hyt (by omega)) (aa (z:=LM (X/Y)) rfl (aa (z:=LM (X%Y)) rfl (aa (zb (n+3) hyt) (aa (zb (n+3) (Nat.lt_trans hr hyt)) (aa (ih h0) ?_)))))
   rw[Nat.gcd_comm X Y,Nat.gcd_rec Y X,Nat.gcd_comm (X%Y) Y]
theorem vw:∀ (d n:Nat) {x y:Int},In x->In y->y.natAbs<2^d->cA (n+2*d+5) 131 [ah x,ah y]=some (ah (Nat.gcd x.natAbs y.natAbs:Nat))
 | 0,n,x,y,hx,hy,h=>qn n hx hy fun h0=>absurd (by omega) h0
 | d+1,n,x,y,hx,hy,h=>by
  rw[show n+2*(d+1)+5=n+2*d+2+5 by omega]
  refine qn _ hx hy fun h0=>?_
  have hyt:=bD.1 hy
  have hr:x.natAbs%y.natAbs<y.natAbs:=Nat.mod_lt _ (by omega)
  have e1:=qn (n+2*d+1) (x:=(y.natAbs:Nat)) (y:=((x.natAbs%y.natAbs:Nat):Int)) (gj.2 hyt) (gj.2 (Nat.lt_trans hr hyt)) (fun h1=>by
   simp only[Int.natAbs_natCast]
   have h2:y.natAbs%(x.natAbs%y.natAbs)<x.natAbs%y.natAbs:=Nat.mod_lt _ (by omega)
   have h3:y.natAbs%(x.natAbs%y.natAbs)<2^d:=by
    generalize x.natAbs%y.natAbs=r at *
    rw[Nat.pow_succ] at h
    rcases Nat.lt_or_ge r (2^d) with k|k
    ·omega
    ·have:y.natAbs%r=y.natAbs-r:=by
      rw[Nat.mod_eq_sub_mod (by omega),Nat.mod_eq_of_lt (by omega)]
     omega
   have:=vw d n (x:=((x.natAbs%y.natAbs:Nat):Int)) (y:=((y.natAbs%(x.natAbs%y.natAbs):Nat):Int)) (gj.2 (Nat.lt_trans hr hyt)) (gj.2 (Nat.lt_trans (Nat.lt_trans h2 hr) hyt)) (by rw[Int.natAbs_natCast];exact h3)
   simp only[Int.natAbs_natCast] at this
   exact this)
  simp only[Int.natAbs_natCast] at e1
  exact e1
theorem Dd:eJ=2^512:=by rw[fB,cT]
theorem J3(n:Nat){x y:Int}(hx:In x)(hy:In y):cA (n+1029) 131 [ah x,ah y]=some (ah (Nat.gcd x.natAbs y.natAbs:Nat)):=
 vw 512 n hx hy (by rw[<-Dd];exact bD.1 hy)
theorem Ln(n:Nat){x:Int}(hx:In x):cA (n+3) 217 [ah x]=some (I (iV x.natAbs:Nat)):=by
 rw[Lc]
 unfold C0
 have h118:=ra n (cR hx)
 have hxt:=bD.1 hx
 rw[show eM (some x)=_ from cd x] at h118
 rw[cd x]
 have h16:=jg x.natAbs
 have hh:=dY hxt
 refine aa (z:=LM x.natAbs) rfl (aa (xf (n+1) hxt) (aa h118 (aa cK (aa (z:=false) rfl (aa (z:=decide (cM x.natAbs=0)) (by rw[if_neg (by decide)];show D.truth (.bool (D.beq (I (cM x.natAbs:Nat)) (I ((0:Nat):Int))))=_;rw[bM];rfl) (aa af ?_))))))
 by_cases h0:cM x.natAbs=0
 ·refine aH h0 ?_
  rw[h0] at hh
  have:x.natAbs=0:=by simpa using hh
  rw[this];rfl
 ·refine aJ h0 ?_
  have hl:=ls h0
  generalize cM x.natAbs=p at *
  generalize x.natAbs=X at *
  have hd:X/2^(32*(p-1))=dg X (p-1):=iY (by rw[show p-1+1=p by omega];exact hh)
  have hdl:=fd X (p-1)
  have hbl:iV (dg X (p-1))<=32:=by
   by_cases hz:dg X (p-1)=0
   ·rw[hz];decide
   ·obtain⟨L,k1,k2,_⟩:=gH hz
    rcases Nat.lt_or_ge L 32 with h|h
    ·omega
    ·have:=Nat.pow_le_pow_right (show 0<2 by decide) h
     omega
  have hb:=qB (x:=X) (m:=32*(p-1)) hl
  rw[hd] at hb
  refine aa (ir (b:=1) rfl (by omega) (by omega)) (aa (pz (a:=32) (by omega)) (aa (ir (b:=1) rfl (by omega) (by omega)) (aa (eE (by omega)) (aa (fM _ _ (by omega)) (aa (Hu (x:=dg X (p-1)) (n+1) hdl) (aa (aT (a:=32*(p-1)) (b:=iV (dg X (p-1))) (by omega)) ?_))))))
  rw[hb]
theorem Ef(X:Nat):64<iV X↔18446744073709551616<=X:=by
 by_cases h0:X=0
 ·subst h0;simp[iV]
 ·obtain⟨L,h1,h2,h3⟩:=gH h0
  rw[h1]
  constructor
  ·intro h
   have:=Nat.pow_le_pow_right (show 0<2 by decide) (show 64<=L by omega)
   omega
  ·intro h
   rcases Nat.lt_or_ge 64 (L+1) with k|k
   ·exact k
   ·have:=Nat.pow_le_pow_right (show 0<2 by decide) k
    omega
theorem Dc(n:Nat){x:Int}(hx:In x):(inR x/\cA (n+4) 202 [ah x]=some (.tup [I x,.bool true]))\/(¬ inR x/\cA (n+4) 202 [ah x]=some (.tup [I 0,.bool false])):=by
 rw[LF]
 unfold Aj
 have h118:=ra (n+1) (cR hx)
 have h217:=Ln n hx
 have hxt:=bD.1 hx
 have first:∀ {y:D} {g:Bool->Option D},g (decide (18446744073709551616<=x.natAbs))=some y->(Option.bind (cA (n+3) 118 [.sl [ah x]]) fun r1=>Option.bind (D.un .not r1) fun x2=>Option.bind (D.truth x2) fun b3=>Option.bind (if b3 then(some true) else(Option.bind (cA (n+3) 217 [ah x]) fun r4=>Option.bind (D.bin .gtr r4 (D.int .i64 64)) fun x5=>D.truth x5)) fun b6=>Option.bind (D.truth (D.bool b6)) g)=some y:=fun{y g} hg=>by
  refine aa h118 (aa cK (aa (z:=false) rfl (aa (z:=decide (18446744073709551616<=x.natAbs)) ?_ (aa af hg))))
  rw[if_neg (by decide)]
  refine aa h217 (aa dL ?_)
  rw[af]
  congr 1;rw[decide_eq_decide,<-Ef];omega
 by_cases hbig:18446744073709551616<=x.natAbs
 ·right
  refine⟨by simp only[inR];omega,first ?_⟩
  rw[decide_eq_true hbig,if_pos rfl]
 ·have hX:x.natAbs<18446744073709551616:=by omega
  have w1:∀ z:Int,IntKind.u64.wrap z=z%18446744073709551616:=fun z=>rfl
  have hleq:∀ (a b:Nat) {c:D},c=.int .u64 (b:Nat)->D.bin .leq (W (a:Nat)) c=some (.bool (decide (a<=b))):=fun a b c hc=>by
   subst hc;simp only[D.bin,if_true];congr 2;rw[decide_eq_decide];omega
  have dx1:=fd x.natAbs 1;have dx0:=fd x.natAbs 0
  have ex:dg x.natAbs 1*2^32+dg x.natAbs 0=x.natAbs:=tY hX
  have cv:∀ z:Int,inR z->∀ a:Int,(a-z)%18446744073709551616=0->D.conv .i64 (W a)=some (I z):=fun z hz a h=>by
   obtain⟨h1,h2⟩:=hz
   simp only[D.conv]
   have hw:IntKind.i64.wrap a=(if(true&&decide (a%18446744073709551616 ≥ 9223372036854775808))=true then a%18446744073709551616-18446744073709551616 else a%18446744073709551616):=rfl
   rw[hw]
   congr 2
   simp only[Bool.true_and,decide_eq_true_eq]
   split<;>omega
  have go:∀ y:D,(if x<0 then(if x.natAbs<=9223372036854775808 then y=.tup [I x,.bool true] else y=.tup [I 0,.bool false]) else(if x.natAbs<9223372036854775808 then y=.tup [I x,.bool true] else y=.tup [I 0,.bool false]))->Aj aY (cA (n+3)) (ah x)=some y:=fun y hy=>by
   unfold Aj
   refine first ?_
   rw[decide_eq_false hbig,if_neg (by decide),cd x]
   refine aa (fM _ _ (by decide)) (aa (kQ x.natAbs 1) (aa (oP (m:=32) rfl (by decide) (by omega)) (aa (fM _ _ (by decide)) (aa (kQ x.natAbs 0) (aa (gQ (m:=32) dx0 (by omega)) ?_)))))
   rw[ex]
   refine aa (z:=.bool (decide (x<0))) rfl (aa af ?_)
   refine aa (z:=decide (x<0)&&decide (x.natAbs<=9223372036854775808)) ?_ (aa af ?_)
   ·by_cases h:x<0
    ·refine aH h (aa (hleq _ 9223372036854775808 rfl) ?_)
     rw[af,decide_eq_true h,Bool.true_and]
    ·refine aJ h ?_
     rw[decide_eq_false h,Bool.false_and]
   by_cases h:x<0
   ·rw[if_pos h] at hy
    rw[decide_eq_true h,Bool.true_and]
    by_cases h2:x.natAbs<=9223372036854775808
    ·rw[if_pos h2] at hy
     refine aH h2 ?_
     have hn:D.un .neg (W (x.natAbs:Nat))=some (W (IntKind.u64.wrap (0-(x.natAbs:Nat)))):=by simp only[D.un]
     refine aa hn (aa (cv x (by simp only[inR];omega) _ (by rw[w1];omega)) ?_)
     rw[hy]
    ·rw[if_neg h2] at hy
     refine aJ h2 (aa (z:=.bool true) (by rfl) (aa (z:=.bool false) rfl (aa (z:=false) rfl (aa (z:=false) rfl (aa (z:=false) rfl ?_)))))
     rw[if_neg (by decide),hy]
   ·rw[if_neg h] at hy
    rw[decide_eq_false h,Bool.false_and,if_neg (by decide)]
    refine aa (z:=.bool false) (by rfl) (aa (z:=.bool true) rfl (aa (z:=true) rfl (aa (z:=decide (x.natAbs<9223372036854775808)) ?_ (aa af ?_))))
    ·rw[if_pos rfl];exact aa (Fk (b:=9223372036854775808) rfl) af
    by_cases h2:x.natAbs<9223372036854775808
    ·rw[if_pos h2] at hy
     refine aH h2 (aa (cv x (by simp only[inR];omega) _ (by omega)) ?_)
     rw[hy]
    ·rw[if_neg h2] at hy
     refine aJ h2 ?_
     rw[hy]
  by_cases hr:inR x
  ·left
   refine⟨hr,go _ ?_⟩
   simp only[inR] at hr
   split
   ·rw[if_pos (by omega)]
   ·rw[if_pos (by omega)]
  ·right
   refine⟨hr,go _ ?_⟩
   simp only[inR] at hr
   split
   ·rw[if_neg (by omega)]
   ·rw[if_neg (by omega)]
end Go.Proofs.YtjjjkojfijpeeaaGreat.Sy
end
section
set_option linter.unusedVariables false
namespace Go.Proofs.YtjjjkojfijpeeaaGreat.Sy
open Go Go.Proofs Go.Proofs.YtjjjkojfijpeeaaGreat.Geo
theorem yh{x y q:Int}(hy:y≠0)(h:x=y*q):sgn (!(decide (decide (x<0)=decide (y<0)))) (x.natAbs/y.natAbs)=q:=by
 have e:x.natAbs/y.natAbs=q.natAbs:=by
  rw[h,Int.natAbs_mul,Nat.mul_div_cancel_left _ (by omega)]
 rw[e]
 have key:q=0\/(q<0/\(x<0↔¬ y<0))\/(0<q/\(x<0↔y<0)):=by
  rcases Int.lt_trichotomy q 0 with hq|hq|hq
  ·right;left
   refine⟨hq,?_⟩
   rcases Int.lt_or_gt_of_ne hy with k|k
   ·have:=Int.mul_pos_of_neg_of_neg k hq;omega
   ·have:=Int.mul_neg_of_pos_of_neg k hq;omega
  ·exact .inl hq
  ·right;right
   refine⟨hq,?_⟩
   rcases Int.lt_or_gt_of_ne hy with k|k
   ·have:=Int.mul_neg_of_neg_of_pos k hq;omega
   ·have:=Int.mul_pos k hq;omega
 unfold sgn
 by_cases hx:x<0<;>by_cases hyy:y<0<;>simp[hx,hyy]<;>omega
theorem du(x:Int):D.get (ah x) [1]=some (.bool (decide (x<0))):=rfl
theorem yX(x:Int):D.get (ah x) [2]=some (LM x.natAbs):=by rw[cd];rfl
theorem Ch{x:Int}(h:x≠0):sg x≠0:=by unfold sg;split<;>(try split)<;>omega
theorem BU{x y:Int}(hx:In x)(h:y ∣ x):In (x/y):=by
 obtain⟨q,rfl⟩:=h
 rw[bD] at *
 by_cases hy:y=0
 ·subst hy;simp;exact fg
 ·rw[Int.mul_ediv_cancel_left _ hy]
  rw[Int.natAbs_mul] at hx
  exact Nat.lt_of_le_of_lt (Nat.le_mul_of_pos_left _ (by omega)) hx
theorem IV(n:Nat){x y:Int}(hx:In x)(hy:In y)(hy0:y≠0)(hd:y ∣ x):cA (n+5) 172 [ah x,ah y]=some (.tup [ah (x/y),ah 0]):=by
 have hin:=BU hx hd
 obtain⟨q,hq⟩:=hd
 have exy:x/y=q:=by rw[hq];exact Int.mul_ediv_cancel_left _ hy0
 rw[exy] at hin ⊢
 rw[Mf]
 unfold EV
 have h118:cA (n+4) 118 [.sl [ah x,ah y]]=some (.bool true):=uw (n+2) (a:=some x) (b:=some y) (cR hx) (cR hy)
 have hbe:∀ a b:Int,D.beq (I a) (.int .i64 b)=decide (a=b):=fun a b=>bQ
 refine aa h118 (aa cK (aa (z:=false) rfl (aa (z:=false) ?_ (aa (z:=false) rfl ?_))))
 ·rw[if_neg (by decide)]
  refine aa (F8 (n+1) hy) ?_
  rw[hbe,decide_eq_false (Ch hy0)];rfl
 rw[if_neg (by decide)]
 by_cases fast:(inR x/\x≠-9223372036854775808)/\inR y/\y≠-9223372036854775808
 ·obtain⟨⟨fx,fx1⟩,fy,fy1⟩:=fast
  have hx202:cA (n+4) 202 [ah x]=some (.tup [I x,.bool true]):=by
   rcases Dc n hx with⟨_,h⟩|⟨h,_⟩
   ·exact h
   ·exact absurd fx h
  have hy202:cA (n+4) 202 [ah y]=some (.tup [I y,.bool true]):=by
   rcases Dc n hy with⟨_,h⟩|⟨h,_⟩
   ·exact h
   ·exact absurd fy h
  have hqa:q.natAbs<=x.natAbs:=by rw[hq,Int.natAbs_mul];exact Nat.le_mul_of_pos_left _ (by omega)
  have hqr:inR q:=by simp only[inR] at *;omega
  have e1:x.tdiv y=q:=by rw[hq];exact Int.mul_tdiv_cancel_left _ hy0
  have e2:x.tmod y=0:=by rw[hq];exact Int.mul_tmod_right ..
  refine aa (z:=(0,[ah q,ah 0])) ?_ rfl
  refine aa hx202 (aa (z:=I x) rfl (aa (z:=.bool true) rfl (aa (z:=true) rfl (aa (z:=true) ?_ (aa (z:=true) rfl ?_)))))
  ·rw[if_pos rfl,hbe,decide_eq_false fx1];rfl
  rw[if_pos rfl]
  refine aa hy202 (aa (z:=I y) rfl (aa (z:=.bool true) rfl (aa (z:=true) rfl (aa (z:=true) ?_ (aa (z:=true) rfl ?_)))))
  ·rw[if_pos rfl,hbe,decide_eq_false fy1];rfl
  rw[if_pos rfl]
  refine aa (sX hy0 (by rw[e1];exact hqr)) (aa (sK hy0) ?_)
  rw[e1,e2]
  refine aa (z:=(0,[I q,I 0])) (aa (z:=false) rfl (aa (z:=false) rfl (aa (z:=false) rfl rfl))) ?_
  exact aa (Bs (n+2) hqr) (aa (Bs (n+2) (show inR 0 from⟨by decide,by decide⟩)) rfl)
 ·refine aa (z:=(1,[.st [.bool false,.bool false,az aU],.st [.bool false,.bool false,az aU]])) ?_ ?_
  ·rcases Dc n hx with⟨fx,h⟩|⟨fx,h⟩
   ·by_cases fx1:x=-9223372036854775808
    ·refine aa h (aa (z:=I x) rfl (aa (z:=.bool true) rfl (aa (z:=true) rfl (aa (z:=false) ?_ (aa (z:=false) rfl rfl)))))
     rw[if_pos rfl,hbe,decide_eq_true fx1];rfl
    ·refine aa h (aa (z:=I x) rfl (aa (z:=.bool true) rfl (aa (z:=true) rfl (aa (z:=true) ?_ (aa (z:=true) rfl ?_)))))
     ·rw[if_pos rfl,hbe,decide_eq_false fx1];rfl
     rw[if_pos rfl]
     rcases Dc n hy with⟨fy,h2⟩|⟨fy,h2⟩
     ·have fy1:y=-9223372036854775808:=Classical.byContradiction fun k=>fast ⟨⟨fx,fx1⟩,fy,k⟩
      refine aa h2 (aa (z:=I y) rfl (aa (z:=.bool true) rfl (aa (z:=true) rfl (aa (z:=false) ?_ (aa (z:=false) rfl rfl)))))
      rw[if_pos rfl,hbe,decide_eq_true fy1];rfl
     ·exact aa h2 (aa (z:=I 0) rfl (aa (z:=.bool false) rfl (aa (z:=false) rfl (aa (z:=false) rfl (aa (z:=false) rfl rfl)))))
   ·exact aa h (aa (z:=I 0) rfl (aa (z:=.bool false) rfl (aa (z:=false) rfl (aa (z:=false) rfl (aa (z:=false) rfl rfl)))))
  rw[if_neg (by decide)]
  have hxt:=bD.1 hx
  have hyt:=bD.1 hy
  have hmod:x.natAbs%y.natAbs=0:=by rw[hq,Int.natAbs_mul];exact Nat.mul_mod_right _ _
  have hqt:x.natAbs/y.natAbs<eJ:=Nat.lt_of_le_of_lt (Nat.div_le_self _ _) hxt
  have h170:=Hv n hxt hyt (by omega)
  rw[hmod] at h170
  refine aa (yX x) (aa (yX y) (aa h170 (aa (z:=LM (x.natAbs/y.natAbs)) rfl (aa (z:=LM 0) rfl (aa (du x) (aa (du y) ?_))))))
  have hb:(!(D.beq (.bool (decide (x<0))) (.bool (decide (y<0)))))=!(decide (decide (x<0)=decide (y<0))):=by
   by_cases h1:x<0<;>by_cases h2:y<0<;>simp[h1,h2,D.beq]
  rw[hb,iw,lw fg fg,decide_eq_true rfl]
  refine aa (tA (n+3) _ hqt) ?_
  rw[yh hy0 hq]
  refine aa (z:=(0,[LM 0,ah q])) (aa (z:=false) rfl (aa (z:=false) rfl (aa (z:=false) rfl rfl))) ?_
  refine aa (du y) (aa (tA (n+3) _ fg) ?_)
  have:sgn (decide (y<0)) 0=0:=by unfold sgn;split<;>rfl
  rw[this];rfl
theorem Ho(n:Nat){x y:Int}(hx:In x)(hy:In y)(hy0:y≠0)(hd:y ∣ x):cA (n+6) 132 [ah x,ah y]=some (ah (x/y)):=by
 rw[IY]
 unfold CX
 exact aa (IV n hx hy hy0 hd) (aa (z:=ah (x/y)) rfl (aa (z:=ah 0) rfl rfl))
def bR(q:Rat):D:=.st [ah q.num,ah (q.den:Int)]
def xZ(q:Rat):Prop:=In q.num/\In (q.den:Int)
theorem G8(n:Nat){x:Int}(hx:In x):cA (n+2) 128 [ah x]=some (.bool true):=by
 rw[L6]
 unfold DE
 have h:cA (n+1) 167 [ah x]=some (.bool true):=GW n (a:=some x) (cR hx)
 refine aa (z:=.bool false) rfl (aa (z:=.bool true) rfl (aa (z:=true) rfl (aa (z:=true) ?_ rfl)))
 rw[if_pos rfl]
 exact aa h rfl
theorem yo(n:Nat){x:Int}(hx:In x):cA (n+3) 68 [ah x]=some (ah (-x)):=PG n (a:=some x) (cR hx)
theorem jH(x:Int){d:Int}(hd:d≠0):(Rat.divInt x d).num=x/(if d<0 then -(Nat.gcd x.natAbs d.natAbs:Int) else(Nat.gcd x.natAbs d.natAbs:Int))/\((Rat.divInt x d).den:Int)=d/(if d<0 then -(Nat.gcd x.natAbs d.natAbs:Int) else(Nat.gcd x.natAbs d.natAbs:Int)):=by
 have hg:d.gcd x=Nat.gcd x.natAbs d.natAbs:=by unfold Int.gcd;exact Nat.gcd_comm ..
 have hgp:0<Nat.gcd x.natAbs d.natAbs:=Nat.gcd_pos_of_pos_right _ (by omega)
 have dx:((Nat.gcd x.natAbs d.natAbs:Nat):Int) ∣ x:=Int.ofNat_dvd_left.2 (Nat.gcd_dvd_left _ _)
 have dd:((Nat.gcd x.natAbs d.natAbs:Nat):Int) ∣ d:=Int.ofNat_dvd_left.2 (Nat.gcd_dvd_right _ _)
 rw[Rat.num_divInt,Rat.den_divInt,if_neg hd,hg]
 generalize Nat.gcd x.natAbs d.natAbs=g at *
 by_cases h:d<0
 ·rw[if_pos h,Int.sign_eq_neg_one_of_neg h]
  refine⟨?_,?_⟩
  ·rw[Int.ediv_neg,show -1*x=-x by omega,Int.neg_ediv_of_dvd dx]
  ·rw[Int.ediv_neg,Int.natCast_ediv,<-Int.neg_ediv_of_dvd dd]
   congr 1;omega
 ·rw[if_neg h,Int.sign_eq_one_of_pos (by omega),Int.one_mul]
  refine⟨rfl,?_⟩
  rw[Int.natCast_ediv]
  congr 1;omega
theorem Nh(n:Nat){x d:Int}(hx:In x)(hd:In d)(hd0:d≠0):cA (n+1030) 62 [ah x,ah d]=some (bR (Rat.divInt x d)):=by
 rw[Ou]
 unfold Ix
 have hbe:∀ a b:Int,D.beq (I a) (.int .i64 b)=decide (a=b):=fun a b=>bQ
 have hgp:0<Nat.gcd x.natAbs d.natAbs:=Nat.gcd_pos_of_pos_right _ (by omega)
 have dx:((Nat.gcd x.natAbs d.natAbs:Nat):Int) ∣ x:=Int.ofNat_dvd_left.2 (Nat.gcd_dvd_left _ _)
 have dd:((Nat.gcd x.natAbs d.natAbs:Nat):Int) ∣ d:=Int.ofNat_dvd_left.2 (Nat.gcd_dvd_right _ _)
 have hgle:Nat.gcd x.natAbs d.natAbs<=d.natAbs:=Nat.gcd_le_right _ (by omega)
 have hgin:In (Nat.gcd x.natAbs d.natAbs:Nat):=gj.2 (Nat.lt_of_le_of_lt hgle (bD.1 hd))
 obtain⟨p1,p2⟩:=jH x hd0
 unfold bR
 rw[p1,p2]
 refine aa (G8 (n+1027) hx) (aa (z:=.bool false) rfl (aa (z:=false) rfl (aa (z:=false) ?_ (aa (z:=false) rfl (aa (z:=false) ?_ (aa (z:=false) rfl ?_))))))
 ·rw[if_neg (by decide)];exact aa (G8 (n+1027) hd) rfl
 ·rw[if_neg (by decide)]
  refine aa (F8 (n+1026) hd) ?_
  rw[hbe,decide_eq_false (Ch hd0)];rfl
 rw[if_neg (by decide)]
 refine aa (J3 n hx hd) ?_
 generalize Nat.gcd x.natAbs d.natAbs=g at *
 refine aa (z:=(0,[ah (if d<0 then -(g:Int) else(g:Int))])) ?_ ?_
 ·refine aa (F8 (n+1026) hd) (aa ag (aa af ?_))
  by_cases h:d<0
  ·rw[if_pos h]
   refine aH (by rw[uf h];decide) ?_
   exact aa (yo (n+1026) hgin) rfl
  ·rw[if_neg h]
   exact aJ (by rw[j9 (by omega)];decide) rfl
 ·have hin2:In (if d<0 then -(g:Int) else(g:Int)):=by
   split
   ·rw[bD,Int.natAbs_neg];exact bD.1 hgin
   ·exact hgin
  have hne:(if d<0 then -(g:Int) else(g:Int))≠0:=by split<;>omega
  have ddx:(if d<0 then -(g:Int) else(g:Int)) ∣ x:=by split<;>first|exact Int.neg_dvd.2 dx|exact dx
  have ddd:(if d<0 then -(g:Int) else(g:Int)) ∣ d:=by split<;>first|exact Int.neg_dvd.2 dd|exact dd
  exact aa (Ho (n+1023) hx hin2 hne ddx) (aa (Ho (n+1023) hd hin2 hne ddd) rfl)
end Go.Proofs.YtjjjkojfijpeeaaGreat.Sy
end
section
set_option linter.unusedVariables false
namespace Go.Proofs.YtjjjkojfijpeeaaGreat.Sy
open Go Go.Proofs Go.Proofs.YtjjjkojfijpeeaaGreat.Geo
theorem Gp(x:Int):D.get (ah x) [2,1]=some (U (ed (aB x.natAbs) 1)):=cP (i:=1) (by decide)
theorem AT(n:Nat){x:Int}(hx:In x)(h:¬ Wd x):cA (n+3) 124 [ah x]=some (.tup [I 0,.bool false]):=by
 have hW:4611686018427387904<=x.natAbs:=by unfold Wd at h;omega
 rw[Ha]
 unfold A9
 have l1:=Cj x.natAbs
 refine aa (rh n hx) (aa cK (aa (z:=false) rfl (aa (z:=decide (1073741824<=x.natAbs/4294967296%4294967296)) ?_ (aa af ?_))))
 ·rw[if_neg (by decide)]
  refine aa (Gp x) ?_
  rw[l1]
  have:D.bin .geq (U (x.natAbs/4294967296%4294967296)) (.int .u32 1073741824)=some (.bool (decide (1073741824<=x.natAbs/4294967296%4294967296))):=by
   simp only[D.bin,if_true];congr 2;rw[decide_eq_decide];omega
  exact aa this rfl
 by_cases h1:1073741824<=x.natAbs/4294967296%4294967296
 ·exact aH h1 rfl
 ·refine aJ h1 ?_
  have hbig:18446744073709551616<=x.natAbs:=by omega
  refine aW (fun i s=>s=[I (i:Int)]/\2<=i/\∀ k,2<=k->k<i->ed (aB x.natAbs) k=0) 16 2 (by decide) ⟨rfl,by decide,fun k h1 h2=>by omega⟩ (fun i hi s hJ=>?_) (fun s hJ=>?_)
  ·obtain⟨rfl,h2,hz⟩:=hJ
   have hb:D.bin .lss (I (i:Int)) (D.int .i64 16)=some (.bool true):=by rw[ag,decide_eq_true (by omega)]
   by_cases h0:ed (aB x.natAbs) i=0
   ·left
    refine⟨[I ((i+1:Nat):Int)],?_,rfl,by omega,fun k k1 k2=>?_⟩
    ·refine aa hb (aa (z:=true) rfl ?_)
     rw[if_pos rfl]
     refine aa (au hi) (aa (cP hi) ?_)
     rw[h0]
     refine aa (z:=false) rfl ?_
     rw[if_neg (by decide)]
     exact aa (aq (aC (i:=i) (by omega))) rfl
    ·by_cases e:k=i
     ·subst e;exact h0
     ·exact hz k k1 (by omega)
   ·right
    refine⟨(0,[I 0,.bool false]),?_,rfl⟩
    refine aa hb (aa (z:=true) rfl ?_)
    rw[if_pos rfl]
    refine aa (au hi) (aa (cP hi) (aa (z:=true) ?_ ?_))
    ·show D.truth (.bool (!(D.beq (U (ed (aB x.natAbs) i)) (U 0))))=_
     rw[E9,decide_eq_false h0];rfl
    ·rw[if_pos rfl]
  ·exfalso
   obtain⟨_,_,hz⟩:=hJ
   have h3:x.natAbs/18446744073709551616=0:=by
    have hlt:x.natAbs/18446744073709551616<65536^32:=Nat.lt_of_le_of_lt (Nat.div_le_self _ _) hx
    refine qg hlt fun i hi=>?_
    rw[gF,Nat.div_div_eq_div_mul,show(18446744073709551616:Nat)=4294967296^2 from rfl,<-Nat.pow_add]
    by_cases k:i+2<16
    ·have:=hz (i+2) (by omega) k
     rw[gF] at this
     rw[Nat.add_comm 2 i];exact this
    ·have e16:(65536:Nat)^32=4294967296^16:=by rw[show(4294967296:Nat)=65536^2 from rfl,<-Nat.pow_mul]
     have hx':x.natAbs<4294967296^16:=by rw[<-e16];exact hx
     rw[Nat.div_eq_of_lt (Nat.lt_of_lt_of_le hx' (Nat.pow_le_pow_right (by decide) (show 16<=2+i by omega))),Nat.zero_mod]
   omega
theorem Kd(n:Nat):cA (n+1) 125 []=some F3:=by
 rw[LO];unfold DB;rw[fr];rfl
theorem ET(n:Nat){l:List Nat}{neg:Bool}(hd:dl l)(hl:l.length<=1000000):cA (n+2) 81 [.bool neg,.sl (ab l)]=some (eM (lO (sgn neg (aP l)))):=by
 by_cases hv:aP l<65536^32
 ·rw[Fh n hd hl hv,eB (by unfold In;rw[mM];exact hv)];rfl
 ·have hno:lO (sgn neg (aP l))=none:=by
   unfold lO;rw[mM,<-rR,if_neg hv]
  rw[hno,MM]
  unfold GM
  refine aa (uY n hl) ?_
  rw[ga hd]
  have hlen:¬ (aB (aP l)).length<=32:=fun h=>hv (by
   have:=jx (aN (aP l))
   rw[ak] at this
   exact Nat.lt_of_lt_of_le this (Nat.pow_le_pow_right (by decide) h))
  refine aa (z:=ab (aB (aP l))) rfl (aa dL (aa af (aH (by show((ab (aB (aP l))).length:Int)>32;rw[ai];omega) ?_)))
  exact aa (Kd n) rfl
theorem Du(n:Nat){a b:List Nat}(ha:dl a)(hb:dl b)(hla:a.length<=400000)(hle:aP b<=aP a):cA (n+2) 126 [.sl (ab a),.sl (ab b)]=some (.sl (ab (aB (aP a-aP b)))):=by
 rw[KV]
 unfold EW
 refine aW (fun k s=>∃ (out:List Nat) (c:Nat),s=[.sl (ab out),I (c:Int),I (k:Int)]/\out.length=k/\dl out/\c<=1/\aP out+vt b k=vt a k+c*65536^k) a.length 0 (Nat.zero_le _) ⟨[],0,rfl,rfl,(by intro d hd;cases hd),by omega,by simp[aP,vt]⟩ (fun k hk s hJ=>?_) (fun s hJ=>?_)
 ·obtain⟨out,c,rfl,ho,hdo,hc,hv⟩:=hJ
  left
  have h1:=ha.getD k
  have h2:=hb.getD k
  obtain⟨e,f,hef,he,hf⟩:∃ e f:Nat,e+b.getD k 0+c=a.getD k 0+f*65536/\e<65536/\f<=1:=by
   by_cases h:b.getD k 0+c<=a.getD k 0
   ·exact⟨a.getD k 0-(b.getD k 0+c),0,by omega,by omega,by omega⟩
   ·exact⟨a.getD k 0+65536-(b.getD k 0+c),1,by omega,by omega,by omega⟩
  refine⟨[.sl (ab (out++[e])),I (f:Int),I ((k+1:Nat):Int)],?_,out++[e],f,rfl,by simp[ho],hdo.append (fun x hx=>by simp at hx;omega),hf,?_⟩
  ·refine aa (z:=ab a) rfl (aa ag (aa af (aH (by show(k:Int)<((ab a).length:Int);rw[ai];omega) ?_)))
   refine aa (z:=ab a) rfl (aa (uA hk) (aa (cS hk) (aa (Al n b k) (aa (dq (by simp only[inR];omega)) (aa (dq (by simp only[inR];omega)) ?_)))))
   refine aa (z:=(0,[.sl (ab out),I (f:Int),I (e:Int)])) ?_ ?_
   ·refine aa ag (aa af ?_)
    by_cases hneg:((a.getD k 0:Nat):Int)-(b.getD k 0:Nat)-(c:Int)<0
    ·refine aH hneg (aa (aq (by simp only[inR];omega)) ?_)
     have e1:(((a.getD k 0:Nat):Int)-(b.getD k 0:Nat)-(c:Int)+65536)=(e:Int):=by omega
     have e2:f=1:=by omega
     rw[e1,e2];rfl
    ·refine aJ hneg ?_
     have e1:(((a.getD k 0:Nat):Int)-(b.getD k 0:Nat)-(c:Int))=(e:Int):=by omega
     have e2:f=0:=by omega
     rw[e1,e2];rfl
   ·rw[if_pos (by simp only[g0,D.els,ai,List.length_cons,List.length_nil];omega)]
    refine aa (aq (aC (i:=k) (by omega))) ?_
    show some (Sum.inl [D.sl (ab out++[I (e:Int)]),_,_])=_
    rw[s9];rfl
  ·rw[j7,ho,vt,vt,Nat.pow_succ]
   have e2:aP [e]=e:=by simp[aP]
   rw[e2]
   generalize 65536^k=B at *
   have:(e+b.getD k 0+c)*B=(a.getD k 0+f*65536)*B:=by rw[hef]
   rw[Nat.add_mul,Nat.add_mul,Nat.add_mul] at this
   rw[show f*(B*65536)=f*65536*B by rw[Nat.mul_comm B,<-Nat.mul_assoc],Nat.mul_comm B e]
   omega
 ·obtain⟨out,c,rfl,ho,hdo,hc,hv⟩:=hJ
  refine⟨(0,[.sl (ab out)]),aa (z:=ab a) rfl (aa ag (aa af (aJ (by show ¬ ((a.length:Int)<((ab a).length:Int));rw[ai];omega) rfl))),?_⟩
  refine aa (uY n (l:=out) (by omega)) ?_
  rw[jS] at hv
  have hvb:vt b a.length=aP b:=by
   rcases Nat.le_total b.length a.length with k|k
   ·exact gw k
   ·have hbl:=qK hb b.length
    have hal:=jx ha
    have key:∀ j,aP b<65536^a.length->vt b (a.length+j)=vt b a.length:=fun j hlt=>by
     induction j with
     | zero=>rfl
     | succ j ih=>
      rw[<-Nat.add_assoc,vt,ih]
      have hz:b.getD (a.length+j) 0=0:=by
       rcases Nat.eq_zero_or_pos (b.getD (a.length+j) 0) with h|h
       ·exact h
       ·exfalso
        have m1:vt b (a.length+j+1)<=aP b:=by
         rw[<-jS b]
         rcases Nat.le_total (a.length+j+1) b.length with q|q
         ·obtain⟨m,hm⟩:∃ m,b.length=a.length+j+1+m:=⟨b.length-(a.length+j+1),by omega⟩
          rw[hm]
          clear hm
          induction m with
          | zero=>exact Nat.le_refl _
          | succ m ihm=>exact Nat.le_trans ihm (Nat.le_add_right _ _)
         ·rw[gw q,jS];exact Nat.le_refl _
        rw[vt] at m1
        have m2:65536^a.length<=65536^(a.length+j):=Nat.pow_le_pow_right (by decide) (by omega)
        have m3:1*65536^(a.length+j)<=b.getD (a.length+j) 0*65536^(a.length+j):=Nat.mul_le_mul_right _ h
        omega
      rw[hz];simp
    obtain⟨m,hm⟩:∃ m,b.length=a.length+m:=⟨b.length-a.length,by omega⟩
    have:=key m (Nat.lt_of_le_of_lt hle hal)
    rw[<-hm,jS] at this
    exact this.symm
  have hdl:=jx hdo
  rw[ho] at hdl
  have hal:=jx ha
  have hc0:c=0:=by
   rcases Nat.eq_zero_or_pos c with h|h
   ·exact h
   ·have:1*65536^a.length<=c*65536^a.length:=Nat.mul_le_mul_right _ h
    omega
  subst hc0
  rw[ga hdo]
  have:aP out=aP a-aP b:=by omega
  rw[this]
theorem pW(m:Int)(h:In m):(aB m.natAbs).length<=32:=bx 32 _ h
theorem Hp(n:Nat){x y:Int}(hx:In x)(hy:In y):cA (n+4) 59 [ah x,ah y]=some (eM (lO (x+y))):=by
 by_cases hw:Wd x/\Wd y
 ·have hin:In (x+y):=by
   have:Sy.inR (x+y):=by have:=hw.1;have:=hw.2;unfold Wd at *;simp only[Sy.inR];omega
   exact In.of this
  rw[Kl n hw.1 hw.2,eB hin];rfl
 ·rw[M9]
  unfold HC
  have hws:∀ z:Int,In z->∃ w b,cA (n+3) 124 [ah z]=some (.tup [I w,.bool b])/\(b=true->Wd z):=fun z hz=>by
   by_cases h:Wd z
   ·exact⟨z,true,pI n h,fun _=>h⟩
   ·exact⟨0,false,AT n hz h,fun e=>by cases e⟩
  obtain⟨w1,b1,h1,k1⟩:=hws x hx
  obtain⟨w2,b2,h2,k2⟩:=hws y hy
  have hb:(b1&&b2)=false:=by
   cases b1<;>cases b2<;>first|rfl|exact absurd ⟨k1 rfl,k2 rfl⟩ hw
  refine aa h1 (aa (z:=I w1) rfl (aa (z:=.bool b1) rfl (aa h2 (aa (z:=I w2) rfl (aa (z:=.bool b2) rfl (aa (z:=b1) rfl (aa (z:=false) (by cases b1<;>cases b2<;>simp at hb<;>rfl) (aa (z:=false) rfl ?_))))))))
  rw[if_neg (by decide)]
  refine aa (rh (n+1) hx) (aa cK (aa (z:=false) rfl (aa (z:=false) (by rw[if_neg (by decide)];exact aa (rh (n+1) hy) rfl) (aa (z:=false) rfl ?_))))
  rw[if_neg (by decide)]
  have lx:=pW x hx;have ly:=pW y hy
  refine aa (wJ (n+1) hx) (aa (wJ (n+1) hy) (aa (du x) (aa (du y) (aa (z:=decide (decide (x<0)=decide (y<0))) (by by_cases h1:x<0<;>by_cases h2:y<0<;>simp[h1,h2,D.beq,D.truth]) ?_))))
  by_cases hs:decide (x<0)=decide (y<0)
  ·refine aH hs (aa (du x) (aa (MS (n+1) (aN _) (aN _) (by omega) (by omega)) ?_))
   rw[ak,ak]
   have hlen:(aB (x.natAbs+y.natAbs)).length<=33:=bx 33 _ (by
    have e:(65536:Nat)^33=65536^32*65536:=Nat.pow_succ ..
    rw[e];unfold In at hx hy;omega)
   refine aa (ET (n+1) (aN _) (by omega)) ?_
   rw[ak]
   have:sgn (decide (x<0)) (x.natAbs+y.natAbs)=x+y:=by
    unfold sgn;rw[decide_eq_decide] at hs;simp only[decide_eq_true_eq];split<;>omega
   rw[this]
  ·refine aJ hs ?_
   have hs':¬ (x<0↔y<0):=fun e=>hs (by rw[decide_eq_decide];exact e)
   have h78:=Iq (n+1) (aN x.natAbs) (aN y.natAbs) (by omega) (by omega)
   rw[ak,ak] at h78
   refine aa h78 (aa af ?_)
   by_cases hlt:x.natAbs<y.natAbs
   ·refine aH hlt (aa (du y) (aa (Du (n+1) (aN _) (aN _) (by omega) (by rw[ak,ak];omega)) ?_))
    rw[ak,ak]
    have hlen:(aB (y.natAbs-x.natAbs)).length<=32:=bx 32 _ (by unfold In at hy;omega)
    refine aa (ET (n+1) (aN _) (by omega)) ?_
    rw[ak]
    have:sgn (decide (y<0)) (y.natAbs-x.natAbs)=x+y:=by
     unfold sgn;simp only[decide_eq_true_eq];split<;>omega
    rw[this]
   ·refine aJ hlt (aa (du x) (aa (Du (n+1) (aN _) (aN _) (by omega) (by rw[ak,ak];omega)) ?_))
    rw[ak,ak]
    have hlen:(aB (x.natAbs-y.natAbs)).length<=32:=bx 32 _ (by unfold In at hx;omega)
    refine aa (ET (n+1) (aN _) (by omega)) ?_
    rw[ak]
    have:sgn (decide (x<0)) (x.natAbs-y.natAbs)=x+y:=by
     unfold sgn;simp only[decide_eq_true_eq];split<;>omega
    rw[this]
theorem zI(n:Nat){x y:Int}(hx:In x)(hy:In y):cA (n+4) 89 [ah x,ah y]=some (eM (lO (x*y))):=by
 by_cases hw:Wd x/\Wd y
 ·have hin:In (x*y):=by
   have h1:=hw.1;have h2:=hw.2
   unfold Wd at h1 h2
   unfold In
   rw[Int.natAbs_mul]
   have hxy:x.natAbs*y.natAbs<65536^8:=by
    have e:(65536:Nat)^8=18446744073709551616*18446744073709551616:=by decide
    rw[e];exact Nat.mul_lt_mul'' (by omega) (by omega)
   exact Nat.lt_of_lt_of_le hxy (Nat.pow_le_pow_right (by decide) (by decide))
  rw[HV n hw.1 hw.2,eB hin];rfl
 ·rw[Nl]
  unfold Hc
  have hws:∀ z:Int,In z->∃ w b,cA (n+3) 124 [ah z]=some (.tup [I w,.bool b])/\(b=true->Wd z):=fun z hz=>by
   by_cases h:Wd z
   ·exact⟨z,true,pI n h,fun _=>h⟩
   ·exact⟨0,false,AT n hz h,fun e=>by cases e⟩
  obtain⟨w1,b1,h1,k1⟩:=hws x hx
  obtain⟨w2,b2,h2,k2⟩:=hws y hy
  have hb:(b1&&b2)=false:=by
   cases b1<;>cases b2<;>first|rfl|exact absurd ⟨k1 rfl,k2 rfl⟩ hw
  refine aa h1 (aa (z:=I w1) rfl (aa (z:=.bool b1) rfl (aa h2 (aa (z:=I w2) rfl (aa (z:=.bool b2) rfl (aa (z:=b1) rfl (aa (z:=false) (by cases b1<;>cases b2<;>simp at hb<;>rfl) (aa (z:=false) rfl (aa (z:=false) rfl (aa (z:=false) rfl (aa (z:=false) rfl (aa (z:=false) rfl ?_))))))))))))
  rw[if_neg (by decide)]
  refine aa (rh (n+1) hx) (aa cK (aa (z:=false) rfl (aa (z:=false) (by rw[if_neg (by decide)];exact aa (rh (n+1) hy) rfl) (aa (z:=false) rfl ?_))))
  rw[if_neg (by decide)]
  have lx:=pW x hx;have ly:=pW y hy
  refine aa (du x) (aa (du y) (aa (wJ (n+1) hx) (aa (wJ (n+1) hy) (aa (FF (n+1) (aN _) (aN _) (by omega) (by omega)) ?_))))
  rw[ak,ak]
  have hlen:(aB (x.natAbs*y.natAbs)).length<=64:=bx 64 _ (by
   have e:(65536:Nat)^64=65536^32*65536^32:=by rw[<-Nat.pow_add]
   rw[e];exact Nat.mul_lt_mul'' hx hy)
  have hb':(!(D.beq (.bool (decide (x<0))) (.bool (decide (y<0)))))=!(decide (decide (x<0)=decide (y<0))):=by
   by_cases h1:x<0<;>by_cases h2:y<0<;>simp[h1,h2,D.beq]
  rw[hb']
  refine aa (ET (n+1) (aN _) (by omega)) ?_
  rw[ak,tv]
theorem Ni(n:Nat){x:Int}(hx:In x):cA (n+3) 86 [ah x]=some (ah (-x)):=by
 rw[Qc]
 unfold IN
 have lx:=pW x hx
 refine aa (rh n hx) (aa cK (aa (z:=false) rfl ?_))
 rw[if_neg (by decide)]
 refine aa (du x) (aa cK (aa (wJ n hx) (aa (Fh n (aN _) (by omega) (by rw[ak];exact hx)) ?_)))
 rw[ak]
 have:sgn (!(decide (x<0))) x.natAbs=-x:=by
  unfold sgn;by_cases h:x<0<;>simp[h]<;>omega
 rw[this]
end Go.Proofs.YtjjjkojfijpeeaaGreat.Sy
end
section
set_option linter.unusedVariables false
namespace Go.Proofs.YtjjjkojfijpeeaaGreat.Sy
open Go Go.Proofs Go.Proofs.YtjjjkojfijpeeaaGreat.Geo
def CO(l:List Nat)(k:Int):Nat:=if k<0 then 0 else l.getD k.toNat 0
theorem Cl{l:List Nat}(h:dl l)(k:Int):CO l k<65536:=by
 unfold CO
 split
 ·decide
 ·exact h.getD _
theorem yI(l:List Nat)(k:Nat):CO l (k:Int)=l.getD k 0:=by
 unfold CO
 rw[if_neg (by omega),Int.toNat_natCast]
theorem D8(n:Nat)(l:List Nat)(k:Int):cA (n+2) 175 [.sl (ab l),I k]=some (I (CO l k:Nat)):=by
 rw[Ks]
 unfold Dw CO
 refine aa ag (aa af ?_)
 by_cases h:k<0
 ·refine aH h ?_
  rw[if_pos h];rfl
 ·refine aJ h ?_
  rw[if_neg h]
  obtain⟨m,rfl⟩:=Int.eq_ofNat_of_zero_le (show 0<=k by omega)
  exact aa (Al n l m) rfl
def kN(R n:Nat):Nat:=if n=1 then R*65536 else R/65536^(n-2)
theorem mZ(m i:Nat):(aB m).getD i 0=m/65536^i%65536:=nB i m
theorem wD(R:Nat){m:Nat}(hm:1<=m):R/65536^(m-1)=R/65536^m*65536+R/65536^(m-1)%65536:=by
 have e:65536^m=65536^(m-1)*65536:=by
  conv=>lhs;rw[show m=m-1+1 by omega]
  exact Nat.pow_succ ..
 rw[e,<-Nat.div_div_eq_div_mul];omega
theorem BH{R n:Nat}(hn:1<=n)(hR:R<65536^(n+1)):(aB R).getD n 0*4294967296+(aB R).getD (n-1) 0*65536+CO (aB R) ((n:Int)-2)=kN R n:=by
 have h1:R/65536^n<65536:=by
  rw[Nat.div_lt_iff_lt_mul (Nat.pow_pos (by decide)),Nat.mul_comm,<-Nat.pow_succ];exact hR
 have e1:=wD R hn
 rw[mZ,mZ,Nat.mod_eq_of_lt h1]
 unfold kN CO
 by_cases hn1:n=1
 ·subst hn1
  rw[if_pos rfl,if_pos (by decide)]
  simp only[Nat.sub_self,Nat.pow_zero,Nat.div_one,Nat.pow_one] at *
  omega
 ·rw[if_neg hn1,if_neg (by omega),show((n:Int)-2).toNat=n-2 by omega,mZ]
  have e2:=wD R (m:=n-1) (by omega)
  rw[show n-1-1=n-2 by omega] at e2
  omega
theorem FE{B n:Nat}(hn:1<=n)(hB:B<65536^n):(aB B).getD (n-1) 0*65536+CO (aB B) ((n:Int)-2)=kN B n:=by
 have h:=BH (R:=B) hn (Nat.lt_of_lt_of_le hB (Nat.pow_le_pow_right (by decide) (Nat.le_succ n)))
 rw[mZ B n,Nat.div_eq_of_lt hB,Nat.zero_mod,Nat.zero_mul,Nat.zero_add] at h
 exact h
theorem Bw{R B n:Nat}(hB0:0<B)(ht:0<kN B n)(hRB:R<65536*B):R/B<=min 65535 (kN R n/kN B n):=by
 have h1:R/B<=65535:=by
  have:=(Nat.div_lt_iff_lt_mul hB0).2 (show R<65536*B from hRB);omega
 refine Nat.le_min.2 ⟨h1,?_⟩
 rw[Nat.le_div_iff_mul_le ht]
 unfold kN
 by_cases hn:n=1
 ·rw[if_pos hn,if_pos hn,<-Nat.mul_assoc]
  exact Nat.mul_le_mul_right _ (Nat.div_mul_le_self R B)
 ·rw[if_neg hn,if_neg hn]
  have hp:0<65536^(n-2):=Nat.pow_pos (by decide)
  rw[Nat.le_div_iff_mul_le hp,Nat.mul_assoc]
  exact Nat.le_trans (Nat.mul_le_mul_left _ (Nat.div_mul_le_self B _)) (Nat.div_mul_le_self R B)
theorem iM{B:Nat}(hB:0<B):1<=(aB B).length/\B<65536^(aB B).length/\0<kN B (aB B).length:=by
 have h1:1<=(aB B).length:=by
  rcases Nat.eq_zero_or_pos (aB B).length with h|h
  ·have:=List.length_eq_zero_iff.1 h
   have:=qH.1 this;omega
  ·exact h
 have h2:B<65536^(aB B).length:=by
  have:=jx (aN B);rwa [ak] at this
 refine⟨h1,h2,?_⟩
 have h3:65536^((aB B).length-1)<=B:=by
  rcases Nat.lt_or_ge B (65536^((aB B).length-1)) with k|k
  ·have:=bx _ B k;omega
  ·exact k
 unfold kN
 split
 ·omega
 ·refine Nat.div_pos (Nat.le_trans (Nat.pow_le_pow_right (by decide) (by omega)) h3) (Nat.pow_pos (by decide))
theorem Hn(n:Nat){A B:Nat}(hA:A<65536^40)(hB:0<B)(hBl:B<65536^40):cA (n+3) 143 [.sl (ab (aB A)),.sl (ab (aB B))]=some (.tup [.sl (ab (aB (A/B))),.sl (ab (aB (A%B)))]):=by
 rw[Lz]
 unfold C4
 obtain⟨n1,n2,n3⟩:=iM hB
 have lA:=bx 40 _ hA
 have lB:=bx 40 _ hBl
 have dB:=aN B
 obtain⟨L,hL⟩:∃ L,(aB B).length=L:=⟨_,rfl⟩
 rw[hL] at n1 n2 n3 lB
 obtain⟨M,hM⟩:∃ M,(aB A).length=M:=⟨_,rfl⟩
 rw[hM] at lA
 have eLen:((ab (aB B)).length:Int)=(L:Int):=by rw[ai,hL]
 have eLenA:((ab (aB A)).length:Int)=(M:Int):=by rw[ai,hM]
 refine aa (z:=ab (aB A)) rfl (aa (z:=M) (by rw[eLenA];exact yQ M) ?_)
 rw[if_pos (by omega)]
 refine aa (z:=ab (aB B)) rfl ?_
 rw[eLen]
 have hb1:(aB B).getD (L-1) 0<65536:=dB.getD _
 have htop:=FE n1 n2
 refine aa (ir (b:=1) rfl n1 (by omega)) (aa (z:=ab (aB B)) rfl (aa (z:=L-1) (by rw[ai,hL];exact au (by omega)) (aa (cS (l:=aB B) (i:=L-1) (by omega)) ?_)))
 refine aa (pz (b:=65536) (by omega)) (aa (z:=I ((L:Int)-2)) (dq (by simp only[inR];omega)) (aa (D8 n (aB B) ((L:Int)-2)) ?_))
 have hb2':=Cl dB ((L:Int)-2)
 refine aa (aT (by omega)) ?_
 rw[htop]
 have htop64:kN B L<4294967296:=by rw[<-htop];omega
 generalize hTB:kN B L=TB at *
 refine aa (z:=ab (aB A)) rfl ?_
 rw[eLenA]
 refine aa (z:=I ((M:Int)-1)) (dq (by simp only[inR];omega)) ?_
 rw[rG]
 have hA0:A/65536^M=0:=by
  have:=jx (aN A);rw[ak,hM] at this;exact Nat.div_eq_of_lt this
 refine aW (fun t s=>∃ q:List Nat,s=[.sl (ab (aB (A/65536^(M-t)%B))),I ((M:Int)-1-(t:Nat)),.sl (ab q)]/\q.length=M/\dl q/\(∀ i,i<M-t->q.getD i 0=0)/\aP q=A/65536^(M-t)/B*65536^(M-t)) M 0 (Nat.zero_le _) ⟨List.replicate M 0,?_,by simp,fun x hx=>by rw[List.eq_of_mem_replicate hx];decide,fun i _=>by simp[List.getD,List.getElem?_replicate];split<;>rfl,?_⟩ (fun t ht s hJ=>?_) (fun s hJ=>?_)
 ·rw[Nat.sub_zero,hA0,Nat.zero_mod,cc]
  congr 3;omega
 ·have:=lQ [] M;rw[List.nil_append] at this
  rw[this,Nat.sub_zero,hA0,Nat.zero_div,Nat.zero_mul];rfl
 ·obtain⟨q,rfl,hql,hqd,hqz,hqv⟩:=hJ
  left
  obtain⟨k,hk⟩:∃ k,k=M-1-t:=⟨_,rfl⟩
  have hkM:k<M:=by omega
  rw[show M-t=k+1 by omega] at hqz hqv ⊢
  rw[show(M:Int)-1-(t:Nat)=(k:Nat) by omega]
  have hrB:A/65536^(k+1)%B<B:=Nat.mod_lt _ hB
  have hAk:A/65536^k=65536*(A/65536^(k+1))+(aB A).getD k 0:=by
   rw[mZ,Nat.pow_succ,<-Nat.div_div_eq_div_mul];omega
  have hdk:(aB A).getD k 0<65536:=(aN A).getD k
  obtain⟨R,hR⟩:∃ R,R=65536*(A/65536^(k+1)%B)+(aB A).getD k 0:=⟨_,rfl⟩
  have hRB:R<65536*B:=by
   have:65536*(A/65536^(k+1)%B+1)<=65536*B:=Nat.mul_le_mul_left _ hrB
   omega
  have hRq:A/65536^k/B=65536*(A/65536^(k+1)/B)+R/B:=by
   have e:=Nat.div_add_mod (A/65536^(k+1)) B
   have e2:A/65536^k=R+B*(65536*(A/65536^(k+1)/B)):=by
    rw[hAk,hR]
    generalize A/65536^(k+1)=X at *
    have:65536*X=65536*(B*(X/B)+X%B):=by rw[e]
    rw[Nat.mul_add] at this
    have c:B*(65536*(X/B))=65536*(B*(X/B)):=by rw[<-Nat.mul_assoc,Nat.mul_comm B,Nat.mul_assoc]
    omega
   rw[e2,Nat.add_mul_div_left _ _ hB];omega
  have hRm:A/65536^k%B=R%B:=by
   have e:=Nat.div_add_mod (A/65536^(k+1)) B
   have e2:A/65536^k=R+B*(65536*(A/65536^(k+1)/B)):=by
    rw[hAk,hR]
    generalize A/65536^(k+1)=X at *
    have:65536*X=65536*(B*(X/B)+X%B):=by rw[e]
    rw[Nat.mul_add] at this
    have c:B*(65536*(X/B))=65536*(B*(X/B)):=by rw[<-Nat.mul_assoc,Nat.mul_comm B,Nat.mul_assoc]
    omega
   rw[e2,Nat.add_mul_mod_self_left]
  have hlr:(aB (A/65536^(k+1)%B)).length<=40:=bx 40 _ (Nat.lt_trans hrB hBl)
  have hRl:R<65536^(L+1):=by
   rw[Nat.pow_succ,Nat.mul_comm];exact Nat.lt_of_lt_of_le hRB (Nat.mul_le_mul_left _ (Nat.le_of_lt n2))
  have hR41:R<65536^41:=Nat.lt_of_lt_of_le hRl (Nat.pow_le_pow_right (by decide) (by omega))
  have lR:=bx 41 _ hR41
  have dR:=aN R
  obtain⟨q',hq'⟩:∃ q',q'=q.set k (R/B):=⟨_,rfl⟩
  have hRB2:R/B<=65535:=by have:=(Nat.div_lt_iff_lt_mul hB).2 hRB;omega
  refine⟨[.sl (ab (aB (R%B))),I ((k:Int)-1),.sl (ab q')],?_,q',by rw[show M-(t+1)=k by omega,hRm];congr 3;omega,by rw[hq'];simpa using hql,?_,?_,?_⟩
  ·refine aa iq (aa af (aH (by show(k:Int) ≥ 0;omega) ?_))
   refine aa (z:=ab (aB A)) rfl (aa (z:=k) (by rw[ai,hM];exact au hkM) (aa (cS (l:=aB A) (i:=k) (by omega)) (aa (z:=ab (aB (A/65536^(k+1)%B))) rfl ?_)))
   rw[if_pos (by rw[ai];simp;omega)]
   have hcons:[I (((aB A).getD k 0:Nat):Int)]++ab (aB (A/65536^(k+1)%B))=ab ((aB A).getD k 0::aB (A/65536^(k+1)%B)):=rfl
   rw[hcons]
   have hdl:dl ((aB A).getD k 0::aB (A/65536^(k+1)%B)):=dl.cons hdk (aN _)
   have htr:=uY (n+1) (l:=(aB A).getD k 0::aB (A/65536^(k+1)%B)) (by simp;omega)
   rw[ga hdl,show aP ((aB A).getD k 0::aB (A/65536^(k+1)%B))=R by rw[aP,ak,hR];omega] at htr
   refine aa htr ?_
   have g1:=dR.getD L;have g2:=dR.getD (L-1)
   have g3:=Cl dR ((L:Int)-2)
   have h3:=BH n1 hRl
   refine aa (D8 n (aB R) (L:Int)) ?_
   rw[yI]
   refine aa (pz (b:=4294967296) (by omega)) (aa (ir (b:=1) rfl n1 (by omega)) (aa (D8 n (aB R) ((L-1:Nat):Int)) ?_))
   rw[yI]
   refine aa (pz (b:=65536) (by omega)) (aa (aT (by omega)) (aa (z:=I ((L:Int)-2)) (dq (by simp only[inR];omega)) (aa (D8 n (aB R) ((L:Int)-2)) (aa (aT (by omega)) ?_))))
   rw[h3]
   have hH:kN R L<=9223372036854775807:=by rw[<-h3];omega
   have hge:=Bw (R:=R) (n:=L) hB (by rw[hTB];exact n3) hRB
   rw[hTB] at hge
   refine aa (iI (by omega) (by omega)) (aa (z:=I ((min 65535 (kN R L/TB):Nat):Int)) (by rw[show(D.int .i64 65535)=I ((65535:Nat):Int) from rfl,Hd];congr 2;omega) ?_)
   have hd0:min 65535 (kN R L/TB)<=65535:=Nat.min_le_left ..
   generalize min 65535 (kN R L/TB)=d0 at *
   have hpart:∀ d:Nat,d<=65535->cA (n+2) 146 [.sl (ab (aB B)),.sl [I (d:Int)]]=some (.sl (ab (aB (B*d)))):=fun d hd=>by
    have:=FF n (a:=aB B) (b:=[d]) dB (fun x hx=>by simp at hx;omega) (by omega) (by simp)
    rw[ak,show aP [d]=d by simp[aP]] at this
    exact this
   refine aa (hpart d0 hd0) ?_
   refine pa (fun d s=>s=[I (d:Int),.sl (ab (aB (B*d))),.sl (ab q)]/\R/B<=d/\d<=65535) d0 _ ⟨rfl,hge,hd0⟩ (fun d s hJ=>?_)
   obtain⟨rfl,k1,k2⟩:=hJ
   have hBd:B*d<65536^41:=by
    have:B*d<=B*65536:=Nat.mul_le_mul_left _ (by omega)
    have e:(65536:Nat)^41=65536^40*65536:=Nat.pow_succ ..
    have:B*65536<65536^40*65536:=Nat.mul_lt_mul_of_pos_right hBl (by decide)
    omega
   have lBd:=bx 41 _ hBd
   have h78:=Iq n dR (aN (B*d)) (by omega) (by omega)
   rw[ak,ak] at h78
   by_cases hlt:R<B*d
   ·left
    rw[decide_eq_true hlt] at h78
    have hd1:R/B<d:=by rw[Nat.div_lt_iff_lt_mul hB,Nat.mul_comm];exact hlt
    have hd1p:1<=d:=Nat.lt_of_le_of_lt (Nat.zero_le _) hd1
    refine⟨d-1,[I ((d-1:Nat):Int),.sl (ab (aB (B*(d-1)))),.sl (ab q)],by omega,?_,rfl,Nat.le_sub_one_of_lt hd1,by omega⟩
    refine aa h78 (aa (z:=true) rfl ?_)
    rw[if_pos rfl]
    have e:B*d-B=B*(d-1):=by rw[Nat.mul_sub,Nat.mul_one]
    have h126:=Du n (aN (B*d)) dB (by omega) (by rw[ak,ak];exact Nat.le_mul_of_pos_right _ (by omega))
    rw[ak,ak,e] at h126
    exact aa (ir (b:=1) rfl (by omega) (by omega)) (aa h126 rfl)
   ·right
    rw[decide_eq_false hlt] at h78
    have hd1:d<=R/B:=by rw[Nat.le_div_iff_mul_le hB,Nat.mul_comm];omega
    have hdq:d=R/B:=by omega
    refine⟨(0,[I (d:Int),.sl (ab (aB (B*d))),.sl (ab q)]),?_,?_⟩
    ·refine aa h78 (aa (z:=false) rfl ?_)
     rw[if_neg (by decide)];rfl
    ·have h126:=Du n dR (aN (B*d)) (by omega) (by rw[ak,ak];omega)
     have e:R-B*d=R%B:=by rw[hdq];have:=Nat.div_add_mod R B;omega
     rw[ak,ak,e] at h126
     have hkq:k<q.length:=by omega
     refine aa (uA hkq) (aa (cS hkq) (aa h126 (aa (dq (by simp only[inR];omega)) ?_)))
     show some (Sum.inl [_,_,D.sl (List.set (ab q) k (I (d:Int)))])=_
     rw[nC,hdq,<-hq']
     first|rfl|skip
  ·rw[hq']
   refine E8 fun i hi=>?_
   rw[kj _ _ _ _ (by omega)]
   split
   ·omega
   ·exact hqd.getD i
  ·intro i hi
   rw[hq',kj _ _ _ _ (by omega),if_neg (by omega)]
   exact hqz i (by omega)
  ·have e:=mB (l:=q) (j:=k) (v:=R/B) (by omega)
   rw[hqz k (by omega),Nat.mul_zero,Nat.add_zero,<-hq'] at e
   rw[e,hqv,show M-(t+1)=k by omega,hRq,Nat.pow_succ,Nat.add_mul,Nat.mul_comm (R/B),Nat.mul_comm 65536,Nat.mul_assoc,Nat.mul_comm (65536^k) 65536]
 ·obtain⟨q,rfl,hql,hqd,_,hqv⟩:=hJ
  rw[Nat.sub_self,Nat.pow_zero,Nat.div_one,Nat.mul_one] at hqv
  refine⟨(0,[.sl (ab (aB (A%B))),.sl (ab q)]),?_,?_⟩
  ·rw[Nat.sub_self,Nat.pow_zero,Nat.div_one]
   exact aa iq (aa af (aJ (by show ¬ ((M:Int)-1-(M:Nat)) ≥ 0;omega) rfl))
  ·have htr:=uY (n+1) (l:=q) (by omega)
   rw[ga hqd,hqv] at htr
   exact aa htr rfl
theorem Ep{m:Nat}(h:m<65536^32):m<65536^40:=Nat.lt_of_lt_of_le h (Nat.pow_le_pow_right (by decide) (by decide))
theorem yz(n:Nat){x:Int}(hx:In x):∃ w b,cA (n+3) 124 [ah x]=some (.tup [I w,.bool b])/\(b=true->Wd x):=by
 by_cases h:Wd x
 ·exact⟨x,true,pI n h,fun _=>h⟩
 ·exact⟨0,false,AT n hx h,fun e=>by cases e⟩
theorem FY(n:Nat){x y:Int}(hx:In x)(hy:In y):cA (n+4) 85 [ah x,ah y]=some (ah (Nat.gcd x.natAbs y.natAbs:Nat)):=by
 by_cases hw:Wd x/\Wd y
 ·exact Ii n hw.1 hw.2
 ·rw[MU]
  unfold GO
  obtain⟨w1,b1,h1,k1⟩:=yz n hx
  obtain⟨w2,b2,h2,k2⟩:=yz n hy
  have hb:(b1&&b2)=false:=by
   cases b1<;>cases b2<;>first|rfl|exact absurd ⟨k1 rfl,k2 rfl⟩ hw
  refine aa h1 (aa (z:=I w1) rfl (aa (z:=.bool b1) rfl (aa h2 (aa (z:=I w2) rfl (aa (z:=.bool b2) rfl (aa (z:=b1) rfl (aa (z:=false) (by cases b1<;>cases b2<;>simp at hb<;>rfl) (aa (z:=false) rfl ?_))))))))
  rw[if_neg (by decide)]
  refine aa (rh (n+1) hx) (aa cK (aa (z:=false) rfl (aa (z:=false) (by rw[if_neg (by decide)];exact aa (rh (n+1) hy) rfl) (aa (z:=false) rfl ?_))))
  rw[if_neg (by decide)]
  refine aa (wJ (n+1) hx) (aa (wJ (n+1) hy) ?_)
  have hx':x.natAbs<65536^32:=hx
  have hy':y.natAbs<65536^32:=hy
  refine pa (fun m s=>∃ a,s=[.sl (ab (aB a)),.sl (ab (aB m))]/\a<65536^32/\m<65536^32/\Nat.gcd a m=Nat.gcd x.natAbs y.natAbs) y.natAbs _ ⟨x.natAbs,rfl,hx',hy',rfl⟩ (fun m s hJ=>?_)
  obtain⟨a,rfl,ha,hm,hg⟩:=hJ
  by_cases h0:m=0
  ·right
   subst h0
   rw[Nat.gcd_zero_right] at hg
   rw[cc]
   refine⟨(0,[.sl (ab (aB a))]),?_,?_⟩
   ·exact aa (z:=ab []) rfl (aa (z:=.bool false) rfl (aa (z:=false) rfl rfl))
   ·have la:=bx 32 _ ha
    refine aa (Fh (n+1) (neg:=false) (aN a) (by omega) (by rw[ak];exact ha)) ?_
    rw[ak,hg];rfl
  ·left
   have hlt:a%m<m:=Nat.mod_lt _ (by omega)
   refine⟨a%m,[.sl (ab (aB m)),.sl (ab (aB (a%m)))],hlt,?_,m,rfl,hm,Nat.lt_trans hlt hm,by rw[<-hg,Nat.gcd_comm a m,Nat.gcd_rec m a,Nat.gcd_comm]⟩
   have hl:=(iM (B:=m) (by omega)).1
   refine aa (z:=ab (aB m)) rfl (aa dL (aa af (aH (by show((ab (aB m)).length:Int)>0;rw[ai];omega) ?_)))
   exact aa (Hn n (Ep ha) (by omega) (Ep hm)) (aa (z:=.sl (ab (aB (a/m)))) rfl (aa (z:=.sl (ab (aB (a%m)))) rfl rfl))
theorem EG(n:Nat){x y:Int}(hx:In x)(hy:In y)(hy0:y≠0)(hd:y ∣ x):cA (n+4) 87 [ah x,ah y]=some (ah (x/y)):=by
 by_cases hw:Wd x/\Wd y
 ·exact It n hw.1 hw.2 hy0 hd
 ·have hin:=BU hx hd
  obtain⟨q,hq⟩:=hd
  have exy:x/y=q:=by rw[hq];exact Int.mul_ediv_cancel_left _ hy0
  rw[exy] at hin ⊢
  rw[M0]
  unfold GZ
  obtain⟨w1,b1,h1,k1⟩:=yz n hx
  obtain⟨w2,b2,h2,k2⟩:=yz n hy
  have hb:(b1&&b2)=false:=by
   cases b1<;>cases b2<;>first|rfl|exact absurd ⟨k1 rfl,k2 rfl⟩ hw
  have hx':x.natAbs<65536^32:=hx
  have hy':y.natAbs<65536^32:=hy
  have hl:=(iM (B:=y.natAbs) (by omega)).1
  refine aa h1 (aa (z:=I w1) rfl (aa (z:=.bool b1) rfl (aa h2 (aa (z:=I w2) rfl (aa (z:=.bool b2) rfl (aa (z:=b1) rfl (aa (z:=false) (by cases b1<;>cases b2<;>simp at hb<;>rfl) (aa (z:=false) rfl (aa (z:=false) rfl (aa (z:=false) rfl ?_))))))))))
  rw[if_neg (by decide)]
  refine aa (rh (n+1) hx) (aa cK (aa (z:=false) rfl (aa (z:=false) (by rw[if_neg (by decide)];exact aa (rh (n+1) hy) rfl) (aa (z:=false) rfl (aa (z:=false) ?_ (aa (z:=false) rfl ?_))))))
  ·rw[if_neg (by decide)]
   refine aa (wJ (n+1) hy) (aa (z:=ab (aB y.natAbs)) rfl ?_)
   show D.truth (.bool (D.beq (I ((ab (aB y.natAbs)).length:Nat)) (I ((0:Nat):Int))))=_
   rw[ai,bM,decide_eq_false (by omega)];rfl
  rw[if_neg (by decide)]
  have hmod:x.natAbs%y.natAbs=0:=by rw[hq,Int.natAbs_mul];exact Nat.mul_mod_right _ _
  have hqt:x.natAbs/y.natAbs<65536^32:=Nat.lt_of_le_of_lt (Nat.div_le_self _ _) hx'
  have h143:=Hn n (Ep hx') (B:=y.natAbs) (by omega) (Ep hy')
  rw[hmod,cc] at h143
  have hb':(!(D.beq (.bool (decide (x<0))) (.bool (decide (y<0)))))=!(decide (decide (x<0)=decide (y<0))):=by
   by_cases h1:x<0<;>by_cases h2:y<0<;>simp[h1,h2,D.beq]
  refine aa (wJ (n+1) hx) (aa (wJ (n+1) hy) (aa h143 (aa (z:=.sl (ab (aB (x.natAbs/y.natAbs)))) rfl (aa (z:=.sl (ab [])) rfl ?_))))
  refine aa (z:=(0,[.sl (ab (aB (x.natAbs/y.natAbs)))])) ?_ (aa (du x) (aa (du y) ?_))
  ·refine aa (du x) (aa (du y) ?_)
   rw[hb']
   refine aa (z:=!(decide (decide (x<0)=decide (y<0)))) rfl (aa (z:=false) ?_ (aa (z:=false) rfl rfl))
   cases (!(decide (decide (x<0)=decide (y<0))))<;>rfl
  ·rw[hb']
   have lq:=bx 32 _ hqt
   refine aa (Fh (n+1) (aN _) (by omega) (by rw[ak];exact hqt)) ?_
   rw[ak,yh hy0 hq]
theorem EM(n:Nat){x d:Int}(hx:In x)(hd:In d)(hd0:d≠0):cA (n+5) 37 [ah x,ah d]=some (bR (Rat.divInt x d)):=by
 rw[Ph]
 unfold IH
 have hbe:∀ a b:Int,D.beq (I a) (.int .i64 b)=decide (a=b):=fun a b=>bQ
 have hgp:0<Nat.gcd x.natAbs d.natAbs:=Nat.gcd_pos_of_pos_right _ (by omega)
 have dx:((Nat.gcd x.natAbs d.natAbs:Nat):Int) ∣ x:=Int.ofNat_dvd_left.2 (Nat.gcd_dvd_left _ _)
 have dd:((Nat.gcd x.natAbs d.natAbs:Nat):Int) ∣ d:=Int.ofNat_dvd_left.2 (Nat.gcd_dvd_right _ _)
 have hgle:Nat.gcd x.natAbs d.natAbs<=d.natAbs:=Nat.gcd_le_right _ (by omega)
 have hgin:In (Nat.gcd x.natAbs d.natAbs:Nat):=gj.2 (Nat.lt_of_le_of_lt hgle (bD.1 hd))
 obtain⟨p1,p2⟩:=jH x hd0
 unfold bR
 rw[p1,p2]
 refine aa (rh (n+2) hx) (aa (z:=.bool false) rfl (aa (z:=false) rfl (aa (z:=false) ?_ (aa (z:=false) rfl (aa (z:=false) ?_ (aa (z:=false) rfl ?_))))))
 ·rw[if_neg (by decide)];exact aa (rh (n+2) hd) rfl
 ·rw[if_neg (by decide)]
  refine aa (Ia (n+1) hd) ?_
  rw[hbe,decide_eq_false (Ch hd0)];rfl
 rw[if_neg (by decide)]
 refine aa (FY n hx hd) ?_
 generalize Nat.gcd x.natAbs d.natAbs=g at *
 refine aa (z:=(0,[ah (if d<0 then -(g:Int) else(g:Int))])) ?_ ?_
 ·refine aa (Ia (n+1) hd) (aa ag (aa af ?_))
  by_cases h:d<0
  ·rw[if_pos h]
   refine aH (by rw[uf h];decide) ?_
   exact aa (Ni (n+1) hgin) rfl
  ·rw[if_neg h]
   exact aJ (by rw[j9 (by omega)];decide) rfl
 ·have hin2:In (if d<0 then -(g:Int) else(g:Int)):=by
   split
   ·rw[bD,Int.natAbs_neg];exact bD.1 hgin
   ·exact hgin
  have hne:(if d<0 then -(g:Int) else(g:Int))≠0:=by split<;>omega
  have ddx:(if d<0 then -(g:Int) else(g:Int)) ∣ x:=by split<;>first|exact Int.neg_dvd.2 dx|exact dx
  have ddd:(if d<0 then -(g:Int) else(g:Int)) ∣ d:=by split<;>first|exact Int.neg_dvd.2 dd|exact dd
  exact aa (EG n hx hin2 hne ddx) (aa (EG n hd hin2 hne ddd) rfl)
end Go.Proofs.YtjjjkojfijpeeaaGreat.Sy
end
section
set_option linter.unusedVariables false
namespace Go.Proofs.YtjjjkojfijpeeaaGreat.Sy
open Go Go.Proofs Go.Proofs.YtjjjkojfijpeeaaGreat.Geo
theorem ft{x:Int}(h:inR x):In x:=by
 unfold In;have:(65536:Nat)^4<=65536^32:=Nat.pow_le_pow_right (by decide) (by decide)
 have e:(65536:Nat)^4=18446744073709551616:=rfl
 simp only[inR] at h;omega
theorem fI(x:Int)(h:-9223372036854775808<=x/\x<=9223372036854775807:=by decide):inR x:=h
theorem FK(n:Nat):cA (n+4) 133 []=some (ah 1):=by
 rw[Mj];unfold C8
 exact aa (uF n (fI 1)) rfl
theorem DW(n:Nat)(f:Nat->Int):D.beq (cC n f) (cC n f)=true:=by
 show D.beqs _ _=true
 rw[qP]
 simp
theorem yk(x:Int):D.beq (ah x) (ah x)=true:=by
 rw[cd]
 show(D.beq (.bool false) (.bool false)&&(D.beq (.bool (decide (x<0))) (.bool (decide (x<0)))&&(D.beq (LM x.natAbs) (LM x.natAbs)&&true)))=true
 rw[DW];simp[D.beq]
theorem Gw(n:Nat){q:Rat}(h:xZ q):cA (n+5) 88 [bR q]=some (.bool true):=by
 rw[P1];unfold Ij
 have hp:(0:Int)<(q.den:Int):=by have:=q.den_pos;omega
 refine aa (z:=ah q.num) rfl (aa (rh (n+2) h.1) (aa (z:=.bool false) rfl (aa (z:=false) rfl (aa (z:=false) ?_ (aa (z:=false) rfl ?_)))))
 ·rw[if_neg (by decide)]
  exact aa (z:=ah (q.den:Int)) rfl (aa (rh (n+2) h.2) (aa (z:=.bool false) rfl rfl))
 rw[if_neg (by decide)]
 refine aa (z:=ah (q.den:Int)) rfl (aa (Ia (n+1) h.2) (aa (z:=.bool true) (by rw[j9 hp];rfl) (aa (z:=true) rfl (aa (z:=true) ?_ rfl))))
 rw[if_pos rfl]
 refine aa (z:=ah q.num) rfl (aa (z:=ah (q.den:Int)) rfl (aa (FY n h.1 h.2) (aa (FK n) ?_)))
 have e:Nat.gcd q.num.natAbs (q.den:Int).natAbs=1:=q.reduced
 rw[e]
 show D.truth (.bool (D.beq (ah 1) (ah 1)))=_
 rw[yk];rfl
theorem Kc(n:Nat){x d:Int}(hx:inR x)(hd:inR d)(hd0:d≠0):cA (n+6) 42 [I x,I d]=some (bR (Rat.divInt x d)):=by
 rw[Pq];unfold IB
 exact aa (uF (n+2) hx) (aa (uF (n+2) hd) (aa (EM n (ft hx) (ft hd) hd0) rfl))
theorem Cs:In 1:=ft (fI 1)
theorem fZ(x:Int):Rat.divInt x 1=(x:Rat):=by
 conv=>rhs;rw[<-Rat.num_divInt_den (x:Rat)]
 rfl
theorem MX(n:Nat){x:Int}(hx:In x):cA (n+6) 63 [ah x]=some (bR (x:Rat)):=by
 rw[ON];unfold IR
 refine aa (FK (n+1)) (aa (EM n hx Cs (by decide)) ?_)
 rw[fZ]
theorem JY(n:Nat){x:Int}(hx:inR x):cA (n+6) 75 [I x]=some (bR (x:Rat)):=by
 rw[PE];unfold Ib
 refine aa (uF (n+2) hx) (aa (FK (n+1)) (aa (EM n (ft hx) Cs (by decide)) ?_))
 rw[fZ]
theorem jd(x:Int){d:Int}(hd:d≠0):(Rat.divInt x d).num.natAbs<=x.natAbs/\(Rat.divInt x d).den<=d.natAbs:=by
 obtain⟨p1,p2⟩:=jH x hd
 have hgp:0<Nat.gcd x.natAbs d.natAbs:=Nat.gcd_pos_of_pos_right _ (by omega)
 have key:∀ z:Int,(z/(if d<0 then -(Nat.gcd x.natAbs d.natAbs:Int) else(Nat.gcd x.natAbs d.natAbs:Int))).natAbs<=z.natAbs\/¬ ((Nat.gcd x.natAbs d.natAbs:Nat):Int) ∣ z:=by
  intro z
  by_cases hz:((Nat.gcd x.natAbs d.natAbs:Nat):Int) ∣ z
  ·left
   obtain⟨k,rfl⟩:=hz
   generalize Nat.gcd x.natAbs d.natAbs=g at *
   rw[Int.natAbs_mul,Int.natAbs_natCast]
   have:k.natAbs<=g*k.natAbs:=Nat.le_mul_of_pos_left _ hgp
   split
   ·rw[Int.ediv_neg,Int.mul_ediv_cancel_left _ (by omega),Int.natAbs_neg];exact this
   ·rw[Int.mul_ediv_cancel_left _ (by omega)];exact this
  ·exact .inr hz
 constructor
 ·rw[p1]
  rcases key x with h|h
  ·exact h
  ·exact absurd (Int.ofNat_dvd_left.2 (Nat.gcd_dvd_left _ _)) h
 ·have:(Rat.divInt x d).den=((Rat.divInt x d).den:Int).natAbs:=rfl
  rw[this,p2]
  rcases key d with h|h
  ·exact h
  ·exact absurd (Int.ofNat_dvd_left.2 (Nat.gcd_dvd_right _ _)) h
theorem lJ{x d:Int}(hx:In x)(hd:In d)(h0:d≠0):xZ (Rat.divInt x d):=by
 obtain⟨h1,h2⟩:=jd x h0
 exact⟨Nat.lt_of_le_of_lt h1 hx,Nat.lt_of_le_of_lt (by rw[Int.natAbs_natCast];exact h2) hd⟩
theorem gn(q:Rat):(q.den:Int)≠0:=by have:=q.den_pos;omega
def fitA(x y:Rat):Prop:=x.num.natAbs*y.den+y.num.natAbs*x.den<eJ/\x.den*y.den<eJ
def fitM(x y:Rat):Prop:=x.num.natAbs*y.num.natAbs<eJ/\x.den*y.den<eJ
theorem Gy(n:Nat){x y:Rat}(hx:xZ x)(hy:xZ y)(hf:fitA x y):cA (n+6) 40 [bR x,bR y]=some (bR (x+y)):=by
 rw[Nq];unfold HX
 obtain⟨f1,f2⟩:=hf
 refine aa (Gw n hx) (aa (z:=.bool false) rfl (aa (z:=false) rfl (aa (z:=false) ?_ (aa (z:=false) rfl ?_))))
 ·rw[if_neg (by decide)]
  exact aa (Gw n hy) (aa (z:=.bool false) rfl rfl)
 rw[if_neg (by decide)]
 obtain⟨g,hg⟩:∃ g,g=Nat.gcd x.den y.den:=⟨_,rfl⟩
 have hxp:=x.den_pos
 have hyp:=y.den_pos
 have g1:g ∣ x.den:=hg ▸ Nat.gcd_dvd_left _ _
 have g2:g ∣ y.den:=hg ▸ Nat.gcd_dvd_right _ _
 have gp:0<g:=by rw[hg];exact Nat.gcd_pos_of_pos_left _ hxp
 obtain⟨a,ha⟩:=g1
 obtain⟨b,hb⟩:=g2
 have gi:In (g:Int):=gj.2 (Nat.lt_of_le_of_lt (Nat.le_of_dvd hxp ⟨a,ha⟩) (gj.1 hx.2))
 have g0:(g:Int)≠0:=by omega
 have ea:(x.den:Int)/(g:Int)=(a:Int):=by rw[ha,Int.natCast_mul];exact Int.mul_ediv_cancel_left _ g0
 have eb:(y.den:Int)/(g:Int)=(b:Int):=by rw[hb,Int.natCast_mul];exact Int.mul_ediv_cancel_left _ g0
 have ha':a<=x.den:=by rw[ha];exact Nat.le_mul_of_pos_left _ gp
 have hb':b<=y.den:=by rw[hb];exact Nat.le_mul_of_pos_left _ gp
 have a0:0<a:=by
            rcases Nat.eq_zero_or_pos a with h|h;· rw[h] at ha;omega
            ·exact h
 have hai:In (a:Int):=gj.2 (Nat.lt_of_le_of_lt ha' (gj.1 hx.2))
 have hbi:In (b:Int):=gj.2 (Nat.lt_of_le_of_lt hb' (gj.1 hy.2))
 have m1:x.num.natAbs*b<=x.num.natAbs*y.den:=Nat.mul_le_mul_left _ hb'
 have m2:y.num.natAbs*a<=y.num.natAbs*x.den:=Nat.mul_le_mul_left _ ha'
 have m3:a*y.den<=x.den*y.den:=Nat.mul_le_mul_right _ ha'
 have i1:In (x.num*b):=bD.2 (by rw[Int.natAbs_mul,Int.natAbs_natCast];omega)
 have i2:In (y.num*a):=bD.2 (by rw[Int.natAbs_mul,Int.natAbs_natCast];omega)
 have i3:In (x.num*b+y.num*a):=bD.2 (by
  have:=Int.natAbs_add_le (x.num*b) (y.num*a)
  rw[Int.natAbs_mul,Int.natAbs_mul,Int.natAbs_natCast,Int.natAbs_natCast] at this;omega)
 have i4:In ((a:Int)*y.den):=bD.2 (by rw[<-Int.natCast_mul,Int.natAbs_natCast];omega)
 have h1:=FY (n+1) hx.2 hy.2
 rw[Int.natAbs_natCast,Int.natAbs_natCast,<-hg] at h1
 have h2:=EG (n+1) hx.2 gi g0 ⟨a,by rw[ha,Int.natCast_mul]⟩
 have h3:=EG (n+1) hy.2 gi g0 ⟨b,by rw[hb,Int.natCast_mul]⟩
 rw[ea] at h2
 rw[eb] at h3
 have h4:=zI (n+1) hx.1 hbi
 have h5:=zI (n+1) hy.1 hai
 rw[eB i1] at h4
 rw[eB i2] at h5
 have h6:=Hp (n+1) i1 i2
 rw[eB i3] at h6
 have h7:=zI (n+1) hai hy.2
 rw[eB i4] at h7
 refine aa (z:=ah (x.den:Int)) rfl (aa (z:=ah (y.den:Int)) rfl (aa (h1) ?_))
 refine aa (z:=ah (x.den:Int)) rfl (aa (h2) (aa (z:=ah (y.den:Int)) rfl (aa (h3) (aa (z:=ah x.num) rfl (aa (h4) (aa (z:=ah y.num) rfl (aa (h5) (aa (h6) (aa (z:=ah (y.den:Int)) rfl (aa (h7) ?_))))))))))
 have hne:(a:Int)*y.den≠0:=by
  have:0<a*y.den:=Nat.mul_pos a0 hyp
  rw[<-Int.natCast_mul];omega
 refine aa (EM n i3 i4 hne) ?_
 have e:Rat.divInt (x.num*b+y.num*a) ((a:Int)*y.den)=x+y:=by
  conv=>rhs;rw[<-Rat.num_divInt_den x,<-Rat.num_divInt_den y]
  rw[Rat.divInt_add_divInt _ _ (gn x) (gn y),Rat.divInt_eq_divInt_iff hne (by have:=gn x;have:=gn y;exact Int.mul_ne_zero ‹_› ‹_›)]
  have k1:(x.den:Int)=g*a:=by rw[ha,Int.natCast_mul]
  have k2:(y.den:Int)=g*b:=by rw[hb,Int.natCast_mul]
  rw[k1,k2]
  grind
 rw[e]
theorem GK(n:Nat){x y:Rat}(hx:xZ x)(hy:xZ y)(hf:fitM x y):cA (n+6) 38 [bR x,bR y]=some (bR (x*y)):=by
 rw[OC];unfold IM
 obtain⟨f1,f2⟩:=hf
 refine aa (Gw n hx) (aa (z:=.bool false) rfl (aa (z:=false) rfl (aa (z:=false) ?_ (aa (z:=false) rfl ?_))))
 ·rw[if_neg (by decide)]
  exact aa (Gw n hy) (aa (z:=.bool false) rfl rfl)
 rw[if_neg (by decide)]
 obtain⟨p1,p2⟩:=jd x.num (gn y)
 obtain⟨q1,q2⟩:=jd y.num (gn x)
 have r1:=lJ hx.1 hy.2 (gn y)
 have r2:=lJ hy.1 hx.2 (gn x)
 have e:Rat.divInt x.num y.den*Rat.divInt y.num x.den=x*y:=by
  conv=>rhs;rw[<-Rat.num_divInt_den x,<-Rat.num_divInt_den y]
  rw[Rat.divInt_mul_divInt,Rat.divInt_mul_divInt,Int.mul_comm (y.den:Int)]
 refine aa (z:=ah x.num) rfl (aa (z:=ah (y.den:Int)) rfl (aa (EM n hx.1 hy.2 (gn y)) (aa (z:=ah y.num) rfl (aa (z:=ah (x.den:Int)) rfl (aa (EM n hy.1 hx.2 (gn x)) ?_)))))
 rw[Int.natAbs_natCast] at p2 q2
 generalize Rat.divInt x.num y.den=P at *
 generalize Rat.divInt y.num x.den=Q at *
 have i1:In (P.num*Q.num):=bD.2 (by rw[Int.natAbs_mul];exact Nat.lt_of_le_of_lt (Nat.mul_le_mul p1 q1) f1)
 have i2:In ((P.den:Int)*Q.den):=bD.2 (by
  rw[<-Int.natCast_mul,Int.natAbs_natCast];exact Nat.lt_of_le_of_lt (Nat.mul_le_mul p2 q2) (by rw[Nat.mul_comm];exact f2))
 have h1:=zI (n+1) r1.1 r2.1
 rw[eB i1] at h1
 have h2:=zI (n+1) r1.2 r2.2
 rw[eB i2] at h2
 refine aa (z:=ah P.num) rfl (aa (z:=ah Q.num) rfl (aa (h1) (aa (z:=ah (P.den:Int)) rfl (aa (z:=ah (Q.den:Int)) rfl (aa (h2) ?_)))))
 refine aa (EM n i1 i2 (Int.mul_ne_zero (gn P) (gn Q))) ?_
 rw[<-Rat.divInt_mul_divInt,Rat.num_divInt_den,Rat.num_divInt_den,e]
theorem N6(n:Nat){x y:Rat}(hx:xZ x)(hy:xZ y)(hy0:y.num≠0)(h1:x.num.natAbs*y.den<eJ)(h2:x.den*y.num.natAbs<eJ):cA (n+7) 65 [bR x,bR y]=some (bR (x/y)):=by
 rw[QB];unfold IT
 refine aa (Gw (n+1) hy) (aa (z:=.bool false) rfl (aa (z:=false) rfl ?_))
 rw[if_neg (by decide)]
 obtain⟨p1,p2⟩:=jd y.den hy0
 rw[Int.natAbs_natCast] at p1
 have e:Rat.divInt y.den y.num=y⁻¹:=by
  conv=>rhs;rw[<-Rat.num_divInt_den y]
  rw[Rat.inv_divInt]
 have r1:=lJ hy.2 hy.1 hy0
 refine aa (z:=ah (y.den:Int)) rfl (aa (z:=ah y.num) rfl (aa (EM (n+1) hy.2 hy.1 hy0) ?_))
 rw[e] at p1 p2 r1 ⊢
 refine aa (GK n hx r1 ⟨Nat.lt_of_le_of_lt (Nat.mul_le_mul_left _ p1) h1,Nat.lt_of_le_of_lt (Nat.mul_le_mul_left _ p2) h2⟩) ?_
 rw[Rat.div_def]
theorem Np(n:Nat){x:Rat}(hx:xZ x):cA (n+6) 70 [bR x]=some (bR (-x)):=by
 rw[Nt];unfold HR
 refine aa (Gw n hx) (aa (z:=.bool false) rfl (aa (z:=false) rfl ?_))
 rw[if_neg (by decide)]
 refine aa (z:=ah x.num) rfl (aa (Ni (n+2) hx.1) (aa (z:=ah (x.den:Int)) rfl ?_))
 rfl
structure RV where
 x:Rat
 y:Rat
 z:Rat
def kU(v:RV):D:=.st [bR v.x,bR v.y,bR v.z]
def Gg(v:RV):Prop:=xZ v.x/\xZ v.y/\xZ v.z
def RV.of(v:V):RV:=⟨v.x,v.y,v.z⟩
def RV.add(u v:RV):RV:=⟨u.x+v.x,u.y+v.y,u.z+v.z⟩
def RV.mul(k:Rat)(v:RV):RV:=⟨k*v.x,k*v.y,k*v.z⟩
theorem Ng(n:Nat){v:V}(h1:inR v.x)(h2:inR v.y)(h3:inR v.z):cA (n+7) 31 [ae v]=some (kU (RV.of v)):=by
 rw[PZ];unfold Is
 exact aa (z:=I v.x) rfl (aa (JY n h1) (aa (z:=I v.y) rfl (aa (JY n h2) (aa (z:=I v.z) rfl (aa (JY n h3) rfl)))))
theorem QF(n:Nat){u v:RV}(hu:Gg u)(hv:Gg v)(f1:fitA u.x v.x)(f2:fitA u.y v.y)(f3:fitA u.z v.z):cA (n+7) 36 [kU u,kU v]=some (kU (u.add v)):=by
 rw[PY];unfold Iu
 exact aa (z:=bR u.x) rfl (aa (z:=bR v.x) rfl (aa (Gy n hu.1 hv.1 f1) (aa (z:=bR u.y) rfl (aa (z:=bR v.y) rfl (aa (Gy n hu.2.1 hv.2.1 f2) (aa (z:=bR u.z) rfl (aa (z:=bR v.z) rfl (aa (Gy n hu.2.2 hv.2.2 f3) rfl))))))))
theorem Qw(n:Nat){k:Rat}{v:RV}(hk:xZ k)(hv:Gg v)(f1:fitM k v.x)(f2:fitM k v.y)(f3:fitM k v.z):cA (n+7) 66 [bR k,kU v]=some (kU (RV.mul k v)):=by
 rw[Pm];unfold Ik
 exact aa (z:=bR v.x) rfl (aa (GK n hk hv.1 f1) (aa (z:=bR v.y) rfl (aa (GK n hk hv.2.1 f2) (aa (z:=bR v.z) rfl (aa (GK n hk hv.2.2 f3) rfl)))))
end Go.Proofs.YtjjjkojfijpeeaaGreat.Sy
end
section
namespace Go.Proofs.YtjjjkojfijpeeaaGreat.Geo
open V
section
variable{P:Nat->V}{N:Nat}
theorem C2(hl:∀ i j,i<j->j<N->aF (P i) (P j)){n:V}{d:Int}(h:IsF P N n d){a b:Nat}(ha:a∈bc P N n d)(h1:Side n P (bc P N n d) a b)(h2:Side n P (bc P N n d) b a):False:=by
 obtain⟨c,hc,ht⟩:=h.left hl ha h1
 have:=(h2.all c hc).1
 have e:T n (wy P b a) (wy P b c)=- T n (wy P a b) (wy P a c):=by simp only[T,dot,cross,wy,sub];grind
 omega
end
end Go.Proofs.YtjjjkojfijpeeaaGreat.Geo
end
section
namespace Go.Proofs.YtjjjkojfijpeeaaGreat.Geo
open V
section
variable{P:Nat->V}{N:Nat}
theorem vp(k:Int)(v w:V):dot (smul k v) w=k*dot v w:=by simp only[dot,smul];grind
def HN(P:Nat->V)(N:Nat)(k:Nat):Prop:=∃ n d,IsF P N n d/\k∈bc P N n d/\dQ P (bc P N n d) k
end
end Go.Proofs.YtjjjkojfijpeeaaGreat.Geo
end
section
namespace Go.Proofs.YtjjjkojfijpeeaaGreat.Geo
open V
section
variable{P P':Nat->V}{N N':Nat}
variable(hl:∀ i j,i<j->j<N->aF (P i) (P j))(hl':∀ i j,i<j->j<N'->aF (P' i) (P' j))
 (hsub:∀ k,k<N'->∃ j,j<N/\P j=P' k) (hsup:∀ k,HN P N k->∃ j,j<N'/\P' j=P k)
include hl hl' hsub hsup
end
section
variable{P P':Nat->V}{N N':Nat}(hl:∀ i j,i<j->j<N->aF (P i) (P j))(hl':∀ i j,i<j->j<N'->aF (P' i) (P' j))
 (hsub:∀ k,k<N'->∃ j,j<N/\P j=P' k/\HN P N j) (hsup:∀ k,HN P N k->∃ j,j<N'/\P' j=P k)
include hl hl' hsub hsup
end
end Go.Proofs.YtjjjkojfijpeeaaGreat.Geo
end
section
namespace Go.Proofs.YtjjjkojfijpeeaaGreat.Geo
open V
section
variable{P:Nat->V}{N:Nat}
def dd(h u w:V):V:=cross (cross u w) h
end
end Go.Proofs.YtjjjkojfijpeeaaGreat.Geo
end
section
namespace Go.Proofs.YtjjjkojfijpeeaaGreat.Geo
open V
section
variable{P:Nat->V}{N:Nat}
def qI(l:List Nat):List (Nat×Nat):=(List.range l.length).map fun k=>(l.getD k 0,l.getD ((k+1)%l.length) 0)
theorem nA{l:List Nat}{a b:Nat}:(a,b)∈qI l↔∃ i,i<l.length/\l.getD i 0=a/\l.getD ((i+1)%l.length) 0=b:=by
 simp only[qI,List.mem_map,List.mem_range,Prod.mk.injEq]
theorem ww{l:List Nat}(h:l.Nodup):(qI l).Nodup:=by
 unfold qI List.Nodup
 rw[List.pairwise_map]
 refine List.Pairwise.imp_of_mem ?_ (List.nodup_range (n:=l.length))
 intro i j hi hj hne e
 have hi:=List.mem_range.1 hi;have hj:=List.mem_range.1 hj
 have e1:=congrArg Prod.fst e
 simp only[List.getD,List.getElem?_eq_getElem hi,List.getElem?_eq_getElem hj,Option.getD_some] at e1
 rcases Nat.lt_or_gt_of_ne hne with c|c
 ·exact List.pairwise_iff_getElem.1 h i j hi hj c e1
 ·exact List.pairwise_iff_getElem.1 h j i hj hi c e1.symm
def ja(L:List (V×Int))(poly:V×Int->List Nat):List (Nat×Nat):=L.flatMap fun q=>qI (poly q)
section
variable(hl:∀ i j,i<j->j<N->aF (P i) (P j)){L:List (V×Int)}(hL:Facets P N L){poly:V×Int->List Nat}(hp:∀ q∈L,bB P N q.1 q.2 (poly q))
include hl hL hp
theorem xn{q:V×Int}(hq:q∈L):(poly q).Nodup:=by
 obtain⟨l,p1,p2,_⟩:=((hL.mem q).1 hq).poly hl
 have:=bB.eq hl ((hL.mem q).1 hq) (hp q hq) p1
 rw[this];exact p2
theorem m8{a b:Nat}:(a,b)∈ja L poly↔∃ n d,IsF P N n d/\GT P N n d a b:=by
 simp only[ja,List.mem_flatMap,nA]
 constructor
 ·rintro⟨q,hq,hi⟩
  exact⟨q.1,q.2,(hL.mem q).1 hq,(bB.dir hl ((hL.mem q).1 hq) (hp q hq)).1 hi⟩
 ·rintro⟨n,d,hF,hd⟩
  have hq:=(hL.mem (n,d)).2 hF
  exact⟨(n,d),hq,(bB.dir hl hF (hp _ hq)).2 hd⟩
theorem pQ:(ja L poly).Nodup:=by
 unfold ja List.Nodup
 rw[List.pairwise_flatMap]
 refine⟨fun q hq=>ww (xn hl hL hp hq),?_⟩
 refine List.Pairwise.imp_of_mem ?_ hL.ord
 intro q q' hq hq' hlt x hx y hy e
 subst e
 obtain⟨a,b⟩:=x
 have F:=(hL.mem q).1 hq
 have F':=(hL.mem q').1 hq'
 obtain⟨d1,d2⟩:=(bB.dir hl F (hp q hq)).1 (nA.1 hx)
 obtain⟨d1',d2'⟩:=(bB.dir hl F' (hp q' hq')).1 (nA.1 hy)
 have:=CB hl F F' d1 d1' d2 d2'
 rw[this] at hlt
 exact kF _ hlt
omit hp in
theorem Ae{q:V×Int}(hq:q∈L){l:List Nat}(k:bB P N q.1 q.2 l):(∀ x∈bc P N q.1 q.2,l.getD 0 0<=x)/\l.getD 0 0∈bc P N q.1 q.2/\dQ P (bc P N q.1 q.2) (l.getD 0 0)/\(∃ x∈bc P N q.1 q.2,x≠l.getD 0 0):=by
 obtain⟨a,h1,h2⟩:=k
 obtain⟨b,g1,g2,g3,g4,g5⟩:=((hL.mem q).1 hq).head hl
 rw[h1] at g1;cases g1
 obtain⟨l',e⟩:=h2.head
 have e0:l.getD 0 0=a:=by rw[e];rfl
 rw[e0]
 exact⟨g4,g2,g3,g5 a g2⟩
end
end
end Go.Proofs.YtjjjkojfijpeeaaGreat.Geo
end
section
namespace Go.Proofs.YtjjjkojfijpeeaaGreat.Geo
open V
abbrev T3:=V×V×V
def oQ(P:Nat->V)(p:List Nat)(m:Nat):List T3:=(List.range m).map fun i=>(P (p.getD 0 0),P (p.getD (i+1) 0),P (p.getD (i+2) 0))
def ar(g:T3->Int):List T3->Int
 | []=>0
 | t::T=>g t+ar g T
theorem ox(g:T3->Int)(S T:List T3):ar g (S++T)=ar g S+ar g T:=by
 induction S with
 | nil=>simp[ar]
 | cons t S ih=>simp only[List.cons_append,ar,ih];omega
theorem j4(g:T3->Int)(S:List T3)(t:T3):ar g (S++[t])=ar g S+g t:=by
 rw[ox];simp[ar]
theorem sd(P:Nat->V)(p:List Nat)(m:Nat):oQ P p (m+1)=oQ P p m++[(P (p.getD 0 0),P (p.getD (m+1) 0),P (p.getD (m+2) 0))]:=by
 unfold oQ;rw[List.range_succ,List.map_append];rfl
def jP(t:T3):Int:=V.dot (V.cross t.1 t.2.1) t.2.2
def jK(P:Nat->V)(L:List (V×Int))(poly:V×Int->List Nat):List T3:=L.flatMap fun q=>oQ P (poly q) ((poly q).length-2)
theorem B7(f g:T3->Int)(T:List T3):ar (fun t=>f t+g t) T=ar f T+ar g T:=by
 induction T with
 | nil=>simp[ar]
 | cons t T ih=>simp only[ar,ih];omega
theorem xz{f g:T3->Int}{T:List T3}(h:∀ t∈T,f t=g t):ar f T=ar g T:=by
 induction T with
 | nil=>rfl
 | cons t T ih=>simp only[ar,h t List.mem_cons_self,ih fun x hx=>h x (List.mem_cons_of_mem _ hx)]
theorem C7{f:T3->Int}{T:List T3}(h:∀ t∈T,0<=f t):0<=ar f T:=by
 induction T with
 | nil=>simp[ar]
 | cons t T ih=>
  have:=h t List.mem_cons_self
  have:=ih fun x hx=>h x (List.mem_cons_of_mem _ hx)
  simp only[ar];omega
theorem Ct{f:T3->Int}{T:List T3}(h:∀ t∈T,0<=f t){t:T3}(ht:t∈T)(hp:0<f t):0<ar f T:=by
 induction T with
 | nil=>cases ht
 | cons a T ih=>
  have h1:=h a List.mem_cons_self
  have h2:=fun x hx=>h x (List.mem_cons_of_mem _ hx)
  simp only[ar]
  rcases List.mem_cons.1 ht with rfl|ht
  ·have:=C7 h2;omega
  ·have:=ih h2 ht;omega
theorem vW(f:T3->Int)(h:T3->T3)(T:List T3):ar f (T.map h)=ar (fun t=>f (h t)) T:=by
 induction T with
 | nil=>rfl
 | cons t T ih=>simp only[List.map_cons,ar,ih]
def fT(g:Nat×Nat->Int):List (Nat×Nat)->Int
 | []=>0
 | e::S=>g e+fT g S
theorem jU(g:Nat×Nat->Int)(S S':List (Nat×Nat)):fT g (S++S')=fT g S+fT g S':=by
 induction S with
 | nil=>simp[fT]
 | cons t S ih=>simp only[List.cons_append,fT,ih];omega
theorem Ai(g:Nat×Nat->Int){S S':List (Nat×Nat)}(h:S.Perm S'):fT g S=fT g S':=by
 induction h with
 | nil=>rfl
 | cons x _ ih=>simp only[fT,ih]
 | swap x y l=>simp only[fT];omega
 | trans _ _ h1 h2=>exact h1.trans h2
theorem A4(g:Nat×Nat->Int)(h:Nat×Nat->Nat×Nat)(S:List (Nat×Nat)):fT g (S.map h)=fT (fun e=>g (h e)) S:=by
 induction S with
 | nil=>rfl
 | cons t T ih=>simp only[List.map_cons,fT,ih]
theorem A7(g:Nat×Nat->Int)(S:List (Nat×Nat)):fT (fun e=>- g e) S=- fT g S:=by
 induction S with
 | nil=>rfl
 | cons t T ih=>simp only[fT,ih];omega
theorem wM{f g:Nat×Nat->Int}{S:List (Nat×Nat)}(h:∀ e∈S,f e=g e):fT f S=fT g S:=by
 induction S with
 | nil=>rfl
 | cons t T ih=>simp only[fT,h t List.mem_cons_self,ih fun x hx=>h x (List.mem_cons_of_mem _ hx)]
def HJ(e:Nat×Nat):Nat×Nat:=(e.2,e.1)
theorem vC{g:Nat×Nat->Int}(hg:∀ a b,g (b,a)=- g (a,b)){S:List (Nat×Nat)}(hn:S.Nodup)(hs:∀ a b,(a,b)∈S->(b,a)∈S):fT g S=0:=by
 have nd:(S.map HJ).Nodup:=by
  unfold List.Nodup
  rw[List.pairwise_map]
  refine List.Pairwise.imp ?_ hn
  intro a b h e
  obtain⟨a1,a2⟩:=a;obtain⟨b1,b2⟩:=b
  simp only[HJ,Prod.mk.injEq] at e
  exact h (by rw[e.1,e.2])
 have hp:(S.map HJ).Perm S:=(List.perm_ext_iff_of_nodup nd hn).2 fun e=>by
  obtain⟨a,b⟩:=e
  rw[List.mem_map]
  constructor
  ·rintro⟨⟨c,d⟩,h1,h2⟩
   simp only[HJ,Prod.mk.injEq] at h2
   rw[<-h2.1,<-h2.2];exact hs _ _ h1
  ·exact fun h=>⟨(b,a),hs _ _ h,rfl⟩
 have e1:=Ai g hp
 rw[A4,wM (f:=fun e=>g (HJ e)) (g:=fun e=>- g e) (fun e _=>hg e.1 e.2),A7] at e1
 omega
def Gl(g:V->V->Int)(t:T3):Int:=g t.1 t.2.1+g t.2.1 t.2.2+g t.2.2 t.1
theorem Bp{g:V->V->Int}(hg:∀ u v,g v u=- g u v)(P:Nat->V)(p:List Nat)(m:Nat) :
  ar (Gl g) (oQ P p m)=fT (fun e=>g (P e.1) (P e.2)) ((List.range (m+1)).map fun i=>(p.getD i 0,p.getD (i+1) 0))+g (P (p.getD (m+1) 0)) (P (p.getD 0 0)):=by
 induction m with
 | zero=>simp[oQ,ar,fT];rw[hg (P (p[0]?.getD 0)) (P (p[1]?.getD 0))];omega
 | succ m ih=>
  rw[sd,j4,ih,List.range_succ (n:=m+1),List.map_append,jU]
  simp only[List.map_cons,List.map_nil,fT,Gl]
  rw[hg (P (p.getD 0 0)) (P (p.getD (m+1) 0)),show m+1+1=m+2 from rfl]
  omega
theorem zs{g:V->V->Int}(hg:∀ u v,g v u=- g u v)(P:Nat->V){p:List Nat}(hp:2<=p.length) :
  ar (Gl g) (oQ P p (p.length-2))=fT (fun e=>g (P e.1) (P e.2)) (qI p):=by
 rw[Bp hg]
 unfold qI
 obtain⟨n,hn⟩:∃ n,p.length=n+2:=⟨p.length-2,by omega⟩
 rw[hn,show n+2-2+1=n+1 by omega,List.range_succ (n:=n+1),List.map_append,jU]
 have e:((List.range (n+1)).map fun i=>(p.getD i 0,p.getD (i+1) 0))=(List.range (n+1)).map fun k=>(p.getD k 0,p.getD ((k+1)%(n+2)) 0):=List.map_congr_left fun i hi=>by
  have:=List.mem_range.1 hi
  rw[Nat.mod_eq_of_lt (by omega)]
 rw[e]
 simp only[List.map_cons,List.map_nil,fT]
 rw[show(n+1+1)%(n+2)=0 from Nat.mod_self _]
 omega
section
variable{P:Nat->V}{N:Nat}(hl:∀ i j,i<j->j<N->aF (P i) (P j)){L:List (V×Int)}(hL:Facets P N L){poly:V×Int->List Nat}(hp:∀ q∈L,bB P N q.1 q.2 (poly q))
include hl hL hp
theorem jA{q:V×Int}(hq:q∈L):3<=(poly q).length:=by
 have hF:=(hL.mem q).1 hq
 have k:=hp q hq
 obtain⟨h1,h2,_⟩:=Ae hl hL hq k
 have hpos:0<(poly q).length:=by
  obtain⟨a,_,h⟩:=k
  obtain⟨l',e⟩:=h.head
  rw[e];simp
 have n0:=k.next hpos
 rcases Nat.lt_or_ge 1 (poly q).length with g1|g1
 ·have n1:=k.next g1
  rw[Nat.mod_eq_of_lt g1] at n0
  rcases Nat.lt_or_ge 2 (poly q).length with g2|g2
  ·exact g2
  ·have e:(poly q).length=2:=by omega
   rw[e] at n1
   exact(C2 hl hF h2 n0 n1).elim
 ·have e:(poly q).length=1:=by omega
  rw[e] at n0
  exact(n0.ne rfl).elim
theorem xF{g:V->V->Int}(hg:∀ u v,g v u=- g u v):ar (Gl g) (jK P L poly)=0:=by
 have key:∀ M:List (V×Int),(∀ q∈M,q∈L)->ar (Gl g) (jK P M poly)=fT (fun e=>g (P e.1) (P e.2)) (ja M poly):=by
  intro M
  induction M with
  | nil=>intro _;rfl
  | cons q M ih=>
   intro h
   have hq:=h q List.mem_cons_self
   unfold jK ja at ih ⊢
   rw[List.flatMap_cons,List.flatMap_cons,ox,jU,ih fun x hx=>h x (List.mem_cons_of_mem _ hx),zs hg P (by have:=jA hl hL hp hq;omega)]
 rw[key L fun _ h=>h]
 refine vC (fun a b=>hg _ _) (pQ hl hL hp) fun a b h=>?_
 obtain⟨n,d,hF,hd⟩:=(m8 hl hL hp).1 h
 obtain⟨n',d',h1,h2,h3,h4⟩:=xD hl hF hd.1 hd.2
 exact(m8 hl hL hp).2 ⟨n',d',h1,h3,h4⟩
end
end Go.Proofs.YtjjjkojfijpeeaaGreat.Geo
end
section
namespace Go.Proofs.YtjjjkojfijpeeaaGreat.Geo
open V
def cmp(i:Nat)(v:V):Int:=if i=0 then v.x else if i=1 then v.y else v.z
def sm(i:Nat)(t:T3):Int:=cmp i t.1+cmp i t.2.1+cmp i t.2.2
def iO(i:Nat)(t:T3):Int:=jP t*sm i t
def A8(i k:Nat)(t:T3):Int:=sm i t*sm k t+cmp i t.1*cmp k t.1+cmp i t.2.1*cmp k t.2.1+cmp i t.2.2*cmp k t.2.2
def dD(i k:Nat)(t:T3):Int:=jP t*A8 i k t
def shift(d:V)(t:T3):T3:=(V.add t.1 d,V.add t.2.1 d,V.add t.2.2 d)
def gd(d u v:V):Int:=V.dot d (V.cross u v)
theorem Dn(d u v:V):gd d v u=- gd d u v:=by simp only[gd,dot,cross];grind
theorem Ay(d:V)(t:T3):jP (shift d t)=jP t+Gl (gd d) t:=by
 obtain⟨a,b,c⟩:=t
 simp only[jP,shift,Gl,gd,dot,cross,V.add]
 grind
theorem oB(P:Nat->V)(d:V)(L:List (V×Int))(poly:V×Int->List Nat):jK (fun k=>V.add (P k) d) L poly=(jK P L poly).map (shift d):=by
 unfold jK
 rw[List.map_flatMap]
 congr 1
 funext q
 unfold oQ
 rw[List.map_map];rfl
section
variable{P:Nat->V}{N:Nat}(hl:∀ i j,i<j->j<N->aF (P i) (P j)){L:List (V×Int)}(hL:Facets P N L){poly:V×Int->List Nat}(hp:∀ q∈L,bB P N q.1 q.2 (poly q))
include hl hL hp
theorem zT(d:V):ar jP (jK (fun k=>V.add (P k) d) L poly)=ar jP (jK P L poly):=by
 rw[oB,vW,xz (fun t _=>Ay d t),B7 jP,xF hl hL hp (fun u v=>Dn d u v)]
 omega
theorem yL{q:V×Int}(hq:q∈L){t:T3}(ht:t∈oQ P (poly q) ((poly q).length-2))(p:V) :
  ∃ a b:Int,0<a/\0<b/\a*jP (shift (V.neg p) t)=b*(q.2-V.dot q.1 p):=by
 have hF:=(hL.mem q).1 hq
 have k:=hp q hq
 obtain⟨i,hi,rfl⟩:=List.mem_map.1 ht
 have hi:=List.mem_range.1 hi
 have h3:=jA hl hL hp hq
 obtain⟨l',p1,p2,p3⟩:=hF.poly hl
 have e:=bB.eq hl hF k p1
 rw[<-e] at p2 p3
 have mem:∀ j,j<(poly q).length->(poly q).getD j 0∈bc P N q.1 q.2:=fun j hj=>by
  have:(poly q).getD j 0∈poly q:=by
   rw[List.getD_eq_getElem?_getD,List.getElem?_eq_getElem hj];exact List.getElem_mem hj
  exact((p3 _).1 this).1
 have mext:∀ j,j<(poly q).length->dQ P (bc P N q.1 q.2) ((poly q).getD j 0):=fun j hj=>by
  have:(poly q).getD j 0∈poly q:=by
   rw[List.getD_eq_getElem?_getD,List.getElem?_eq_getElem hj];exact List.getElem_mem hj
  exact((p3 _).1 this).2
 have hne:∀ j,j<(poly q).length->0<j->(poly q).getD j 0≠(poly q).getD 0 0:=fun j hj h0 e=>by
  rw[List.getD_eq_getElem?_getD,List.getD_eq_getElem?_getD,List.getElem?_eq_getElem hj,List.getElem?_eq_getElem (by omega:0<(poly q).length)] at e
  exact List.pairwise_iff_getElem.1 p2 0 j (by omega) hj h0 e.symm
 have hs:=k.next (i:=i+1) (by omega)
 rw[Nat.mod_eq_of_lt (by omega),show i+1+1=i+2 from rfl] at hs
 have ma:=mem 0 (by omega);have mb:=mem (i+1) (by omega);have mc:=mem (i+2) (by omega)
 have hT:=Side.after (hF.flat hl) ma mb (mext 0 (by omega)) (mext (i+1) (by omega)) (hne _ (by omega) (by omega)) hs (hne _ (by omega) (by omega))
 have da:=(aK.1 ma).2;have db:=(aK.1 mb).2;have dc:=(aK.1 mc).2
 generalize (poly q).getD 0 0=a at *
 generalize (poly q).getD (i+1) 0=b at *
 generalize (poly q).getD (i+2) 0=c at *
 have u0:dot q.1 (wy P a b)=0:=by rw[di,da,db];omega
 have v0:dot q.1 (wy P a c)=0:=by rw[di,da,dc];omega
 refine⟨dot q.1 q.1,T q.1 (wy P a b) (wy P a c),bi hF.nz.1,hT,?_⟩
 have cp:=gE u0 v0
 have key:smul (dot q.1 q.1) (cross (wy P a b) (wy P a c))=smul (T q.1 (wy P a b) (wy P a c)) q.1:=by
  have:=CM cp q.1
  unfold T
  exact this
 have e1:jP (shift (V.neg p) (P a,P b,P c))=dot (cross (wy P a b) (wy P a c)) (V.sub (P a) p):=by
  simp only[jP,shift,wy,dot,cross,V.add,V.neg,V.sub];grind
 rw[e1,<-vp,key,vp,<-da]
 congr 1
 simp only[dot,V.sub];grind
theorem C9{q0:V×Int}(hq0:q0∈L):0<ar jP (jK P L poly):=by
 have hF:=(hL.mem q0).1 hq0
 obtain⟨_,z,hz,hlt⟩:=hF.supp
 rw[<-zT hl hL hp (V.neg (P z)),oB,vW]
 have hnn:∀ t∈jK P L poly,0<=jP (shift (V.neg (P z)) t):=fun t ht=>by
  obtain⟨q,hq,ht⟩:=List.mem_flatMap.1 ht
  obtain⟨a,b,ha,hb,e⟩:=yL hl hL hp hq ht (P z)
  have:=((hL.mem q).1 hq).supp.1 z hz
  exact nQ ha (by rw[e];exact Int.mul_nonneg (Int.le_of_lt hb) (by omega))
 have h3:=jA hl hL hp hq0
 have ht:(P ((poly q0).getD 0 0),P ((poly q0).getD 1 0),P ((poly q0).getD 2 0))∈oQ P (poly q0) ((poly q0).length-2):=List.mem_map.2 ⟨0,List.mem_range.2 (by omega),rfl⟩
 refine Ct hnn (List.mem_flatMap.2 ⟨q0,hq0,ht⟩) ?_
 obtain⟨a,b,ha,hb,e⟩:=yL hl hL hp hq0 ht (P z)
 exact lF ha (by rw[e];exact Int.mul_pos hb (by omega))
end
end Go.Proofs.YtjjjkojfijpeeaaGreat.Geo
end
section
set_option linter.unusedVariables false
namespace Go.Proofs.YtjjjkojfijpeeaaGreat.Sy
open Go Go.Proofs Go.Proofs.YtjjjkojfijpeeaaGreat.Geo
abbrev vX(l:List V)(p:List Nat)(m:Nat):List T3:=oQ (pt l) p m
def dj(l:List V)(F:FL):List T3:=F.flatMap fun f=>vX l f.2 (f.2.length-2)
theorem Fp(l:List V)(L:List (V×Int))(poly:V×Int->List Nat):dj l (L.map fun q=>(q,poly q))=jK (pt l) L poly:=by
 unfold dj jK;rw[List.flatMap_map]
theorem nj(l:List V)(p:List Nat)(m:Nat):vX l p (m+1)=vX l p m++[(pt l (p.getD 0 0),pt l (p.getD (m+1) 0),pt l (p.getD (m+2) 0))]:=sd ..
theorem nc(l:List V)(p:List Nat):vX l p 0=[]:=rfl
theorem Eh(l:List V)(p:List Nat)(m:Nat):(vX l p m).length=m:=by simp[vX,oQ]
theorem jl(l:List V){F:FL}{i:Nat}(h:i<F.length):dj l (F.take (i+1))=dj l (F.take i)++vX l F[i].2 (F[i].2.length-2):=by
 unfold dj;rw[List.take_succ_eq_append_getElem h,List.flatMap_append];simp
structure FIn(l:List V)(F:FL):Prop where
 len:F.length<=2000000
 ok:∀ f∈F,3<=f.2.length/\f.2.length<=100/\∀ j,j<f.2.length->f.2.getD j 0<l.length
def sQ(T:List T3)(N:Nat):Prop:=T.length<=N/\∀ t∈T,bd MV t.1/\bd MV t.2.1/\bd MV t.2.2
theorem hC{l:List V}(hl:∀ x∈l,bd MV x){k:Nat}(h:k<l.length):bd MV (pt l k):=by
 unfold pt
 rw[List.getD_eq_getElem?_getD,List.getElem?_eq_getElem h]
 exact hl _ (List.getElem_mem h)
theorem sQ.append{S T:List T3}{M N:Nat}(h:sQ S M)(k:sQ T N):sQ (S++T) (M+N):=
 ⟨by rw[List.length_append];have:=h.1;have:=k.1;omega,fun t ht=>(List.mem_append.1 ht).elim (h.2 t) (k.2 t)⟩
theorem sQ.mono{T:List T3}{M N:Nat}(h:sQ T M)(k:M<=N):sQ T N:=⟨Nat.le_trans h.1 k,h.2⟩
theorem BD{l:List V}(hl:∀ x∈l,bd MV x){p:List Nat}(hp:∀ j,j<p.length->p.getD j 0<l.length){m:Nat}(hm:m+2<=p.length\/m=0)(hm2:m<=100):sQ (vX l p m) 100:=by
 refine⟨by rw[Eh];exact hm2,fun t ht=>?_⟩
 obtain⟨i,hi,rfl⟩:=List.mem_map.1 ht
 have hi:=List.mem_range.1 hi
 exact⟨hC hl (hp _ (by omega)),hC hl (hp _ (by omega)),hC hl (hp _ (by omega))⟩
theorem ye{l:List V}(hl:∀ x∈l,bd MV x){F:FL}(h:FIn l F)(i:Nat):sQ (dj l (F.take i)) (100*i):=by
 induction i with
 | zero=>exact⟨by simp[dj],fun t ht=>by simp[dj] at ht⟩
 | succ i ih=>
  by_cases hi:i<F.length
  ·rw[jl l hi]
   obtain⟨k1,k2,k3⟩:=h.ok F[i] (List.getElem_mem hi)
   exact(ih.append (BD hl k3 (by omega) (by omega))).mono (by omega)
  ·rw[List.take_of_length_le (by omega)]
   rw[List.take_of_length_le (by omega)] at ih
   exact ih.mono (by omega)
theorem oX{l:List V}(hl:∀ x∈l,bd MV x){F:FL}(h:FIn l F){i m:Nat}(hi:i<F.length)(hm:m<=F[i].2.length-2):sQ (dj l (F.take i)++vX l F[i].2 m) 268435456:=by
 obtain⟨k1,k2,k3⟩:=h.ok F[i] (List.getElem_mem hi)
 have:=h.len
 exact((ye hl h i).append (BD hl k3 (by omega) (by omega))).mono (by omega)
theorem xj{l:List V}(hl:∀ x∈l,bd MV x){F:FL}(h:FIn l F):sQ (dj l F) 268435456:=by
 have:=ye hl h F.length
 rw[List.take_length] at this
 exact this.mono (by have:=h.len;omega)
theorem uq{g:T3->Int}{T:List T3}{N B:Nat}(h:sQ T N)(hg:∀ t,bd MV t.1/\bd MV t.2.1/\bd MV t.2.2->(g t).natAbs<=B):(ar g T).natAbs<=N*B:=by
 have key:∀ T:List T3,(∀ t∈T,bd MV t.1/\bd MV t.2.1/\bd MV t.2.2)->(ar g T).natAbs<=T.length*B:=by
  intro T
  induction T with
  | nil=>intro _;simp[ar]
  | cons t T ih=>
   intro h
   have h1:=ih fun x hx=>h x (List.mem_cons_of_mem _ hx)
   have h2:=hg t (h t List.mem_cons_self)
   have:=Int.natAbs_add_le (g t) (ar g T)
   rw[List.length_cons,Nat.add_mul,Nat.one_mul]
   simp only[ar];omega
 exact Nat.le_trans (key T h.2) (Nat.mul_le_mul_right _ h.1)
theorem jq{t:T3}(h:bd MV t.1/\bd MV t.2.1/\bd MV t.2.2):(jP t).natAbs<=2^57:=by
 have:=Ci (fi h.1 h.2.1) h.2.2
 unfold jP
 have e:(3:Int)*(2*(MV*MV)*MV)=108086391056891904:=rfl
 rw[e] at this
 have e2:(2:Nat)^57=144115188075855872:=rfl
 omega
theorem gl{x:Int}{k:Nat}(hk:k<=511)(h:x.natAbs<=2^k):In x:=by
 have e:(65536:Nat)^32=2^512:=by rw[show(65536:Nat)=2^16 from rfl,<-Nat.pow_mul]
 show x.natAbs<65536^32
 rw[e]
 exact Nat.lt_of_le_of_lt h (Nat.pow_lt_pow_right (by decide) (by omega))
theorem ce{a b:Nat}{i j k:Nat}(ha:a<=2^i)(hb:b<=2^j)(h:i+j<=k):a*b<=2^k:=
 Nat.le_trans (Nat.mul_le_mul ha hb) (by rw[<-Nat.pow_add];exact Nat.pow_le_pow_right (by decide) h)
theorem gI{T:List T3}(h:sQ T 268435456):(ar jP T).natAbs<=2^85:=
 Nat.le_trans (uq h fun t=>jq) (ce (i:=28) (j:=57) (by decide) (Nat.le_refl _) (by decide))
theorem dU{a b:Int}{k:Nat}(ha:a.natAbs<=2^k)(hb:b.natAbs<=2^k):(a+b).natAbs<=2^(k+1):=by
 have:=Int.natAbs_add_le a b
 rw[Nat.pow_succ];omega
theorem fA{a b:Int}{i j k:Nat}(ha:a.natAbs<=2^i)(hb:b.natAbs<=2^j)(h:i+j<=k):(a*b).natAbs<=2^k:=by
 rw[Int.natAbs_mul];exact ce ha hb h
theorem iE{a:Int}{i k:Nat}(ha:a.natAbs<=2^i)(h:i<=k):a.natAbs<=2^k:=Nat.le_trans ha (Nat.pow_le_pow_right (by decide) h)
theorem eG{v:V}(h:bd MV v)(i:Nat):(cmp i v).natAbs<=262144:=by
 have e:MV=262144:=rfl
 simp only[bd] at h
 unfold cmp
 split
 ·omega
 ·split<;>omega
theorem sV{t:T3}(h:bd MV t.1/\bd MV t.2.1/\bd MV t.2.2)(i:Nat):(sm i t).natAbs<=786432:=by
 have a:=eG h.1 i;have b:=eG h.2.1 i;have c:=eG h.2.2 i
 unfold sm;omega
theorem tR{t:T3}(h:bd MV t.1/\bd MV t.2.1/\bd MV t.2.2)(i k:Nat):(A8 i k t).natAbs<=1099511627776:=by
 have key:∀ {a b:Int} {m:Nat},a.natAbs<=m->b.natAbs<=m->(a*b).natAbs<=m*m:=fun ha hb=>by rw[Int.natAbs_mul];exact Nat.mul_le_mul ha hb
 have q:=key (sV h i) (sV h k)
 have a:=key (eG h.1 i) (eG h.1 k);have b:=key (eG h.2.1 i) (eG h.2.1 k);have c:=key (eG h.2.2 i) (eG h.2.2 k)
 unfold A8;omega
theorem xm(i:Nat){t:T3}(h:bd MV t.1/\bd MV t.2.1/\bd MV t.2.2):(iO i t).natAbs<=2^77:=
 fA (jq h) (j:=20) (Nat.le_trans (sV h i) (by decide)) (by decide)
theorem wW(i k:Nat){t:T3}(h:bd MV t.1/\bd MV t.2.1/\bd MV t.2.2):(dD i k t).natAbs<=2^97:=
 fA (jq h) (j:=40) (Nat.le_trans (tR h i k) (by decide)) (by decide)
theorem kA(i:Nat){T:List T3}(h:sQ T 268435456):(ar (iO i) T).natAbs<=2^105:=
 Nat.le_trans (uq h fun t=>xm i) (ce (i:=28) (j:=77) (by decide) (Nat.le_refl _) (by decide))
theorem fN(i k:Nat){T:List T3}(h:sQ T 268435456):(ar (dD i k) T).natAbs<=2^125:=
 Nat.le_trans (uq h fun t=>wW i k) (ce (i:=28) (j:=97) (by decide) (Nat.le_refl _) (by decide))
end Go.Proofs.YtjjjkojfijpeeaaGreat.Sy
end
section
set_option linter.unusedVariables false
namespace Go.Proofs.YtjjjkojfijpeeaaGreat.Sy
open Go Go.Proofs Go.Proofs.YtjjjkojfijpeeaaGreat.Geo
def fV(x:V):List V->List V
 | []=>[x]
 | y::L=>if aF x y\/x=y then x::(y::L).filter (fun z=>decide (z≠x)) else y::fV x L
def dH(l:List V):List V:=l.foldl (fun o x=>fV x o) []
theorem wl(x:V):∀ L:List V,(fV x L).length<=L.length+1
 | []=>by simp[fV]
 | y::L=>by
  have:=wl x L
  unfold fV
  split
  ·rw[List.length_cons];have:=List.length_filter_le (fun z=>decide (z≠x)) (y::L);omega
  ·simp only[List.length_cons];omega
theorem p0{x z:V}:∀ {L:List V},z∈fV x L↔z=x\/z∈L
 | []=>by simp[fV]
 | y::L=>by
  have ih:=p0 (x:=x) (z:=z) (L:=L)
  unfold fV
  split
  ·simp only[List.mem_cons,List.mem_filter,decide_eq_true_eq]
   by_cases h:z=x<;>simp[h]
  ·simp only[List.mem_cons,ih]
   constructor
   ·rintro(h|h|h)
    ·exact .inr (.inl h)
    ·exact .inl h
    ·exact .inr (.inr h)
   ·rintro(h|h|h)
    ·exact .inr (.inl h)
    ·exact .inl h
    ·exact .inr (.inr h)
theorem vq{x:V}:∀ {L:List V},L.Pairwise aF->(fV x L).Pairwise aF
 | [],_=>by simp[fV]
 | y::L,h=>by
  obtain⟨h1,h2⟩:=List.pairwise_cons.1 h
  unfold fV
  split
  ·rename_i hxy
   refine List.pairwise_cons.2 ⟨fun z hz=>?_,h.filter _⟩
   obtain⟨hz1,hz2⟩:=List.mem_filter.1 hz
   have hzx:z≠x:=by simpa using hz2
   rcases List.mem_cons.1 hz1 with rfl|hz1
   ·rcases hxy with h|h
    ·exact h
    ·exact absurd h.symm hzx
   ·rcases hxy with h|h
    ·exact kf h (h1 z hz1)
    ·rw[h];exact h1 z hz1
  ·rename_i hxy
   refine List.pairwise_cons.2 ⟨fun z hz=>?_,vq h2⟩
   rcases p0.1 hz with rfl|hz
   ·rcases n9 (a:=z) (b:=y) (fun e=>hxy (.inr e)) with k|k
    ·exact absurd (.inl k) hxy
    ·exact k
   ·exact h1 z hz
theorem qe(l:List V):(dH l).Pairwise aF:=by
 unfold dH
 have:∀ (l o:List V),o.Pairwise aF->(l.foldl (fun o x=>fV x o) o).Pairwise aF:=by
  intro l
  induction l with
  | nil=>intro o h;exact h
  | cons x l ih=>intro o h;exact ih _ (vq h)
 exact this l [] .nil
theorem vL{l:List V}{z:V}:z∈dH l↔z∈l:=by
 unfold dH
 have:∀ (l o:List V),z∈l.foldl (fun o x=>fV x o) o↔z∈l\/z∈o:=by
  intro l
  induction l with
  | nil=>intro o;simp
  | cons x l ih=>
   intro o
   rw[List.foldl_cons,ih,p0,List.mem_cons]
   constructor
   ·rintro(h|h|h)
    ·exact .inl (.inr h)
    ·exact .inl (.inl h)
    ·exact .inr h
   ·rintro((h|h)|h)
    ·exact .inr (.inl h)
    ·exact .inl h
    ·exact .inr (.inr h)
 rw[this];simp
theorem mR(l:List V):(dH l).length<=l.length:=by
 unfold dH
 have:∀ (l o:List V),(l.foldl (fun o x=>fV x o) o).length<=l.length+o.length:=by
  intro l
  induction l with
  | nil=>intro o;simp
  | cons x l ih=>
   intro o
   have h1:=ih (fV x o)
   have h2:=wl x o
   rw[List.foldl_cons,List.length_cons];omega
 simpa using this l []
theorem Cb{l:List V}(h:l.Pairwise aF):EQ l:=fun i j hij hj=>by
 have:=List.pairwise_iff_getElem.1 h i j (by omega) hj hij
 simpa [pt,List.getD,hj,show i<l.length by omega] using this
theorem Db{l:List V}(h:l.Pairwise aF):dH l=l:=
 np (r:=aF) kF tb (qe l) h fun x=>vL
theorem QJ(n:Nat)(l:List V)(hlen:l.length<=1000000):cA (n+2) 47 [aQ l]=some (aQ (dH l)):=by
 rw[OU]
 unfold HU
 have ll:(l.map ae).length=l.length:=List.length_map ..
 refine aW (fun i s=>s=[aQ (dH (l.take i)),I (i:Int)]) l.length 0 (Nat.zero_le _) rfl (fun i hi s hJ=>?_) (fun s hJ=>?_)
 ·subst hJ
  left
  refine⟨[aQ (dH (l.take (i+1))),I ((i+1:Nat):Int)],?_,rfl⟩
  have hs:dH (l.take (i+1))=fV (l.getD i V.zero) (dH (l.take i)):=by
   unfold dH
   rw[List.take_succ_eq_append_getElem hi,List.foldl_append]
   simp[List.getD,hi]
  have hol:(dH (l.take i)).length<=1000000:=Nat.le_trans (mR _) (by rw[List.length_take];omega)
  rw[hs]
  obtain⟨o,ho⟩:∃ o,dH (l.take i)=o:=⟨_,rfl⟩
  obtain⟨x,hx⟩:∃ x,l.getD i V.zero=x:=⟨_,rfl⟩
  have hxg:(l.map ae)[i]?=some (ae x):=by rw[<-hx];exact dm hi
  rw[ho] at hol ⊢
  rw[hx]
  have ol:(o.map ae).length=o.length:=List.length_map ..
  refine aa (z:=l.map ae) rfl (aa ag (aa af (aH (by show((i:Int)<((l.map ae).length:Int));rw[ll];omega) ?_)))
  refine co (fun k s=>∃ (nx:List V) (put:Bool),s=[aQ o,aQ nx,.bool put,I (k:Int)]/\nx.length<=2*k/\(put=false->fV x o=nx++fV x (o.drop k))/\(put=true->fV x o=nx++(o.drop k).filter (fun z=>decide (z≠x)))) o.length 0 (Nat.zero_le _) ⟨[],false,rfl,by simp,by simp,by simp⟩ (fun k hk s hJ=>?_) (fun s hJ=>?_)
  ·obtain⟨nx,put,rfl,hnl,h1,h2⟩:=hJ
   left
   have hd:o.drop k=o.getD k V.zero::o.drop (k+1):=by rw[List.drop_eq_getElem_cons hk];simp[List.getD,hk]
   have hyg:(o.map ae)[k]?=some (ae (o.getD k V.zero)):=dm hk
   obtain⟨y,hy⟩:∃ y,o.getD k V.zero=y:=⟨_,rfl⟩
   rw[hy] at hd hyg
   rw[hd] at h1 h2
   obtain⟨n1,p1,he,q0,q1,q2⟩:∃ (n1:List V) (p1:Bool),(if put=false/\(aF x y\/x=y) then(nx++[x],true) else(nx,put))=(n1,p1)/\n1.length<=2*k+1/\(p1=false->x≠y/\fV x o=n1++y::fV x (o.drop (k+1)))/\(p1=true->fV x o=n1++(y::o.drop (k+1)).filter (fun z=>decide (z≠x))):=by
    by_cases hp:put=false/\(aF x y\/x=y)
    ·refine⟨_,_,if_pos hp,by simp;omega,by simp,fun _=>?_⟩
     rw[h1 hp.1,fV,if_pos hp.2];simp
    ·refine⟨_,_,if_neg hp,by omega,fun e=>?_,fun e=>h2 e⟩
     have hn:¬ (aF x y\/x=y):=fun h=>hp ⟨e,h⟩
     refine⟨fun h=>hn (.inr h),?_⟩
     rw[h1 e,fV,if_neg hn]
   refine⟨[aQ o,aQ (if y≠x then n1++[y] else n1),.bool p1,I ((k+1:Nat):Int)],?_,_,p1,rfl,?_,?_,?_⟩
   ·refine aa ag (aa af (aH (by show((k:Int)<((o.map ae).length:Int));rw[ol];omega) ?_))
    have app:∀ (a:List V) (z:V),D.sl ((a.map ae)++[ae z])=aQ (a++[z]):=fun a z=>by simp[aQ]
    have al:∀ a:List V,(a.map ae).length=a.length:=fun a=>List.length_map ..
    refine aa (z:=(0,[aQ o,aQ (if y≠x then n1++[y] else n1),.bool p1])) ?_ (aa (aq (aC (i:=k) (by omega))) rfl)
    refine aa (z:=l.map ae) rfl (aa (z:=i) (by rw[ll];exact au hi) (aa hxg (aa (z:=k) (by show D.idx (I (k:Int)) (o.map ae).length=_;rw[ol];exact au hk) (aa hyg (aa (Ht n x y) (aa (z:=(0,[aQ o,aQ n1,.bool p1])) ?_ ?_))))))
    ·refine aa (z:=.bool (!put)) rfl (aa af (aa (z:=!put&&decide (aF x y\/x=y)) ?_ (aa af ?_)))
     ·cases put
      ·rw[show(!false)=true from rfl,if_pos rfl]
       refine aa af ?_
       by_cases hlt:aF x y
       ·refine aH hlt ?_
        rw[decide_eq_true (.inl hlt)];rfl
       ·refine aJ hlt ?_
        refine aa (z:=l.map ae) rfl (aa (z:=i) (by rw[ll];exact au hi) (aa hxg (aa (z:=k) (by show D.idx (I (k:Int)) (o.map ae).length=_;rw[ol];exact au hk) (aa hyg ?_))))
        rw[jW,af]
        simp[hlt]
      ·rfl
     ·by_cases hp:put=false/\(aF x y\/x=y)
      ·rw[if_pos hp] at he
       cases he
       rw[show(!put&&decide (aF x y\/x=y))=true by rw[hp.1,decide_eq_true hp.2];rfl,if_pos rfl]
       refine aa (z:=l.map ae) rfl (aa (z:=i) (by rw[ll];exact au hi) (aa hxg ?_))
       rw[if_pos (by show(nx.map ae).length+1<=1073741824;rw[al];omega)]
       rw[<-app];rfl
      ·rw[if_neg hp] at he
       cases he
       rw[show(!put&&decide (aF x y\/x=y))=false by
        cases hput:put
        ·have:¬ (aF x y\/x=y):=fun h=>hp ⟨hput,h⟩
         simp[this]
        ·rfl]
       rfl
    ·refine aa (z:=k) (by show D.idx (I (k:Int)) (o.map ae).length=_;rw[ol];exact au hk) (aa hyg (aa (z:=l.map ae) rfl (aa (z:=i) (by rw[ll];exact au hi) (aa hxg ?_))))
     rw[jW]
     refine aa af ?_
     by_cases hyx:y=x
     ·rw[decide_eq_true hyx,if_neg (show ¬ (y≠x) from fun h=>h hyx)];rfl
     ·rw[decide_eq_false hyx,if_pos (show y≠x from hyx),show(!false)=true from rfl,if_pos rfl]
      refine aa (z:=k) (by show D.idx (I (k:Int)) (o.map ae).length=_;rw[ol];exact au hk) (aa hyg ?_)
      rw[if_pos (by show(n1.map ae).length+1<=1073741824;rw[al];omega)]
      rw[<-app];rfl
   ·split
    ·simp;omega
    ·omega
   ·intro e
    obtain⟨r1,r2⟩:=q1 e
    rw[if_pos (fun h=>r1 h.symm),r2];simp
   ·intro e
    rw[q2 e,List.filter_cons]
    by_cases hyx:y=x
    ·simp[hyx]
    ·simp[hyx]
  ·obtain⟨nx,put,rfl,hnl,h1,h2⟩:=hJ
   refine⟨(0,[aQ nx,.bool put]),?_,?_⟩
   ·exact aa ag (aa af (aJ (by show ¬ ((o.length:Int)<((o.map ae).length:Int));rw[ol];omega) rfl))
   ·have al:∀ a:List V,(a.map ae).length=a.length:=fun a=>List.length_map ..
    rw[List.drop_length] at h1 h2
    refine aa (z:=(0,[aQ (fV x o)])) ?_ (aa (aq (aC (i:=i) (by omega))) rfl)
    refine aa (z:=.bool (!put)) rfl (aa af ?_)
    cases put
    ·rw[show(!false)=true from rfl,if_pos rfl]
     refine aa (z:=l.map ae) rfl (aa (z:=i) (by rw[ll];exact au hi) (aa hxg ?_))
     rw[if_pos (by show(nx.map ae).length+1<=1073741824;rw[al];omega)]
     rw[h1 rfl]
     simp[fV,aQ,g0,D.els]
    ·have:=h2 rfl
     simp only[List.filter_nil,List.append_nil] at this
     rw[this];rfl
 ·subst hJ
  rw[List.take_length]
  refine⟨(0,[aQ (dH l)]),?_,rfl⟩
  exact aa (z:=l.map ae) rfl (aa ag (aa af (aJ (by show ¬ ((l.length:Int)<((l.map ae).length:Int));rw[ll];omega) rfl)))
structure FOk(l:List V)(F:FL):Prop where
 ord:F.Pairwise (fun a b=>aF a.1.1 b.1.1)
 ok:∀ f∈F,IsF (pt l) l.length f.1.1 f.1.2/\bB (pt l) l.length f.1.1 f.1.2 f.2
theorem kl{f x:(V×Int)×List Nat}:∀ {L:FL},x∈jO f L↔x=f\/x∈L
 | []=>by simp[jO]
 | y::L=>by
  have ih:=kl (f:=f) (x:=x) (L:=L)
  unfold jO
  split
  ·simp
  ·simp only[List.mem_cons,ih]
   constructor
   ·rintro(h|h|h)
    ·exact .inr (.inl h)
    ·exact .inl h
    ·exact .inr (.inr h)
   ·rintro(h|h|h)
    ·exact .inr (.inl h)
    ·exact .inl h
    ·exact .inr (.inr h)
theorem u9{f:(V×Int)×List Nat}:∀ {L:FL},L.Pairwise (fun a b=>aF a.1.1 b.1.1)->(∀ x∈L,x.1.1≠f.1.1)->(jO f L).Pairwise (fun a b=>aF a.1.1 b.1.1)
 | [],_,_=>by simp[jO]
 | y::L,h,hn=>by
  obtain⟨h1,h2⟩:=List.pairwise_cons.1 h
  unfold jO
  split
  ·rename_i k
   refine List.pairwise_cons.2 ⟨fun z hz=>?_,h⟩
   rcases List.mem_cons.1 hz with rfl|hz
   ·exact k
   ·exact kf k (h1 z hz)
  ·rename_i k
   refine List.pairwise_cons.2 ⟨fun z hz=>?_,u9 h2 fun x hx=>hn x (List.mem_cons_of_mem _ hx)⟩
   rcases kl.1 hz with rfl|hz
   ·rcases n9 (hn y List.mem_cons_self) with k'|k'
    ·exact k'
    ·exact absurd k' k
   ·exact h1 z hz
def yN(l:List V):List (V×Int):=(List.range l.length).flatMap fun i=>(List.range l.length).flatMap fun j=>(List.range l.length).flatMap fun k=>[(bk (eI (pt l) i j k),V.dot (bk (eI (pt l) i j k)) (pt l i)),((bk (eI (pt l) i j k)).neg,V.dot (bk (eI (pt l) i j k)).neg (pt l i))]
theorem At(l:List V)(h:l.length<=100):(yN l).length<=2000000:=by
 unfold yN
 rw[lm (c:=l.length*(l.length*2)) _ (fun i _=>by rw[lm (c:=l.length*2) _ (fun j _=>by rw[lm (c:=2) _ (fun k _=>rfl),List.length_range]),List.length_range]),List.length_range]
 have a1:l.length*2<=200:=by omega
 have a2:l.length*(l.length*2)<=100*200:=Nat.mul_le_mul h a1
 exact Nat.mul_le_mul h a2
theorem Ap{l:List V}{q:V×Int}(h:IsF (pt l) l.length q.1 q.2):q∈yN l:=by
 obtain⟨i,j,k,h1,h2,h3,h4,h5,h6⟩:=h.ex
 refine List.mem_flatMap.2 ⟨i,List.mem_range.2 (by omega),List.mem_flatMap.2 ⟨j,List.mem_range.2 (by omega),List.mem_flatMap.2 ⟨k,List.mem_range.2 h3,?_⟩⟩⟩
 obtain⟨a,b⟩:=q
 simp only at h5 h6
 subst h6
 rcases h5 with rfl|rfl<;>simp
theorem FOk.len{l:List V}{F:FL}(h:FOk l F)(hl:l.length<=100):F.length<=2000000:=by
 have nd:(F.map Prod.fst).Nodup:=by
  refine List.pairwise_map.2 (h.ord.imp fun{a b} hab e=>?_)
  rw[e] at hab;exact kF _ hab
 have:=List.Nodup.length_le_of_subset (l₂:=yN l) nd fun q hq=>by
  obtain⟨f,hf,rfl⟩:=List.mem_map.1 hq
  exact Ap (h.ok f hf).1
 rw[List.length_map] at this
 exact Nat.le_trans this (At l hl)
theorem FOk.insert{l:List V}{F:FL}(h:FOk l F){f:(V×Int)×List Nat}(hn:∀ x∈F,x.1.1≠f.1.1)(h1:IsF (pt l) l.length f.1.1 f.1.2)(h2:bB (pt l) l.length f.1.1 f.1.2 f.2):FOk l (jO f F):=
 ⟨u9 h.ord hn,fun x hx=>by
  rcases kl.1 hx with rfl|hx
  ·exact⟨h1,h2⟩
  ·exact h.ok x hx⟩
theorem pD{v:V}:bk v=V.zero↔v=V.zero:=by
 constructor
 ·intro h
  by_cases hv:v=V.zero
  ·exact hv
  ·exact absurd h (pj hv)
 ·rintro rfl
  apply V.ext'<;>simp[bk,V.zero]
theorem zL{v:V}:v.neg=V.zero↔v=V.zero:=by
 constructor
 ·intro h
  by_cases hv:v=V.zero
  ·exact hv
  ·exact absurd h (BB hv)
 ·rintro rfl
  apply V.ext'<;>simp[V.neg,V.zero]
theorem bf{α β:Type}{A:Option α}{g:α->Option β}{z:α}{Y:β->Prop}(h:A=some z)(hk:∃ y,g z=some y/\Y y):∃ y,Option.bind A g=some y/\Y y:=by
 rw[h];exact hk
theorem oU{β:Type}{p:Prop}[Decidable p]{A B:Option β}{Y:β->Prop}(h:p)(hA:∃ y,A=some y/\Y y):∃ y,(if decide p=true then A else B)=some y/\Y y:=by rw[if_pos (decide_eq_true h)];exact hA
theorem Cf(n:Nat){l:List V}(hl:∀ x∈l,bd MV x)(hlen:l.length<=100)(hs:EQ l){F:FL}(hF:FOk l F){i j k:Nat}(hij:i<j)(hjk:j<k)(hk:k<l.length){m:V}(hm:m=bk (eI (pt l) i j k)\/m=(bk (eI (pt l) i j k)).neg){α:Type}{g:D->Nat×List D->Option α}{Y:α->Prop}
  (hg:∀ F':FL,FOk l F'->(∀ f∈F,f∈F')->(eI (pt l) i j k≠V.zero->xX (pt l) l.length m (V.dot m (pt l i))->(m,V.dot m (pt l i))∈F'.map Prod.fst)->∃ y,g (I (V.dot m (pt l i))) (0,[.sl (aD F')])=some y/\Y y) :
  ∃ y,(Option.bind (cA (n+4) 107 [ae m,ae (pt l i)]) fun r31=>
  Option.bind (cA (n+4) 108 [.sl (aD F),ae m]) fun r32=>
  Option.bind (Option.bind (D.un .not r32) fun x33=>
  Option.bind (D.truth x33) fun b34=>
  Option.bind (if b34 then(Option.bind (D.un .not (D.bool (D.beq (ae m) (D.st [(D.int .i64 0),(D.int .i64 0),(D.int .i64 0)])))) fun x35=>
  D.truth x35) else(some false)) fun b36=>
  Option.bind (D.truth (D.bool b36)) fun b37=>
  Option.bind (if b37 then(Option.bind (cA (n+4) 109 [aQ l,ae m,r31]) fun r38=>
  D.truth r38) else(some false)) fun b39=>
  Option.bind (D.truth (D.bool b39)) fun b40=>
  if b40 then(Option.bind (cA (n+4) 111 [aQ l,ae m,r31]) fun r41=>
  Option.bind (cA (n+4) 110 [.sl (aD F),(D.st [ae m,r31,r41])]) fun r42=>
  some (0,[r42])) else(some (0,[.sl (aD F)]))) (g r31))=some y/\Y y:=by
 have hi:i<l.length:=by omega
 have bt:bd 549755813888 (bk (eI (pt l) i j k)):=kp (fi (kY (P:=pt l) (hl _ (cN hi)) (hl _ (cN (show j<l.length by omega)))) (kY (P:=pt l) (hl _ (cN hi)) (hl _ (cN hk))))
 have bm:bd 549755813888 m:=by
  rcases hm with rfl|rfl
  ·exact bt
  ·exact qh bt
 have hFl:=hF.len hlen
 have hmz:m=V.zero↔eI (pt l) i j k=V.zero:=by
  rcases hm with rfl|rfl
  ·exact pD
  ·rw[zL,pD]
 refine bf (zx (n+3) bm (hl _ (cN hi)) (by decide)) (bf (KA (n+3) F m (by omega)) ?_)
 obtain⟨d,hd⟩:∃ d,V.dot m (l.getD i V.zero)=d:=⟨_,rfl⟩
 have hdp:V.dot m (pt l i)=d:=hd
 rw[hdp] at hg
 rw[hdp]
 by_cases hkn:(F.any fun f=>decide (f.1.1=m))=true
 ·rw[hkn]
  refine bf (z:=(0,[.sl (aD F)])) (aa (z:=.bool false) rfl (aa (z:=false) rfl (aa (z:=false) rfl (aa (z:=false) rfl (aa (z:=false) rfl (aa (z:=false) rfl rfl)))))) (hg F hF (fun f hf=>hf) fun ht hsp=>?_)
  obtain⟨f,hf,hfm⟩:=List.any_eq_true.1 hkn
  have hfm:f.1.1=m:=by simpa using hfm
  have h1:=(hF.ok f hf).1
  rw[hfm] at h1
  have h2:IsF (pt l) l.length m d:=⟨⟨i,j,k,hij,hjk,hk,ht,hm,hdp.symm⟩,hsp⟩
  exact List.mem_map.2 ⟨f,hf,Prod.ext hfm (IsF.d_eq h1 h2)⟩
 ·rw[Bool.not_eq_true] at hkn
  rw[hkn]
  have hnk:∀ f∈F,f.1.1≠m:=fun f hf e=>by
   have:=List.any_eq_false.1 hkn f hf
   simp[e] at this
  by_cases hz:m=V.zero
  ·refine bf (z:=(0,[.sl (aD F)])) (aa (z:=.bool true) rfl (aa (z:=true) rfl (aa (z:=false) ?_ (aa (z:=false) rfl (aa (z:=false) rfl (aa (z:=false) rfl rfl)))))) (hg F hF (fun f hf=>hf) fun ht hsp=>absurd (hmz.1 hz) ht)
   rw[if_pos rfl,qk,jW,decide_eq_true (show m=⟨0,0,0⟩ from hz)];rfl
  ·have ht:eI (pt l) i j k≠V.zero:=fun e=>hz (hmz.2 e)
   have hc:=LC (n+2) (d:=d) hl bm (by decide) (by omega)
   by_cases hsp:supp l (m,d)=true
   ·have hFm:IsF (pt l) l.length m d:=⟨⟨i,j,k,hij,hjk,hk,ht,hm,hdp.symm⟩,mP.1 hsp⟩
    obtain⟨p,hp,_,_⟩:=hFm.poly hs
    refine bf (z:=(0,[.sl (aD (jO ((m,d),p) F))])) (aa (z:=.bool true) rfl (aa (z:=true) rfl (aa (z:=true) ?_ (aa (z:=true) rfl (aa (z:=true) ?_ (aa (z:=true) rfl ?_)))))) (hg _ (hF.insert hnk hFm hp) (fun f hf=>kl.2 (.inr hf)) fun _ _=>List.mem_map.2 ⟨((m,d),p),kl.2 (.inl rfl),rfl⟩)
    ·rw[if_pos rfl,qk,jW,decide_eq_false (show ¬ m=⟨0,0,0⟩ from hz)];rfl
    ·rw[if_pos rfl]
     refine aa hc ?_
     rw[af];exact congrArg some hsp
    ·rw[if_pos rfl]
     exact aa (Le n hl hlen hs hFm bm hp) (aa (L9 (n+2) F ((m,d),p) (by omega)) rfl)
   ·refine bf (z:=(0,[.sl (aD F)])) (aa (z:=.bool true) rfl (aa (z:=true) rfl (aa (z:=true) ?_ (aa (z:=true) rfl (aa (z:=false) ?_ (aa (z:=false) rfl rfl)))))) (hg F hF (fun f hf=>hf) fun _ hsp'=>absurd (mP.2 hsp') hsp)
    ·rw[if_pos rfl,qk,jW,decide_eq_false (show ¬ m=⟨0,0,0⟩ from hz)];rfl
    ·rw[if_pos rfl]
     refine aa hc ?_
     rw[af]
     exact congrArg some (Bool.eq_false_iff.2 hsp)
structure KnF(l:List V)(i j k:Nat)(F:FL):Prop where
 fok:FOk l F
 all:∀ i' j' k',i'<j'->j'<k'->k'<l.length->(i'<i\/i'=i/\(j'<j\/j'=j/\k'<k))->eI (pt l) i' j' k'≠V.zero->∀ m,(m=bk (eI (pt l) i' j' k')\/m=(bk (eI (pt l) i' j' k')).neg)->xX (pt l) l.length m (V.dot m (pt l i'))->(m,V.dot m (pt l i'))∈F.map Prod.fst
theorem KnF.mono{l:List V}{i j k i2 j2 k2:Nat}{F:FL}(h:KnF l i j k F)(hm:∀ i' j' k',i'<j'->j'<k'->k'<l.length->(i'<i2\/i'=i2/\(j'<j2\/j'=j2/\k'<k2))->(i'<i\/i'=i/\(j'<j\/j'=j/\k'<k))):KnF l i2 j2 k2 F:=
 ⟨h.fok,fun i' j' k' h1 h2 h3 h4=>h.all i' j' k' h1 h2 h3 (hm i' j' k' h1 h2 h3 h4)⟩
theorem KnF.facets{l:List V}{F:FL}(h:KnF l l.length 0 0 F):Facets (pt l) l.length (F.map Prod.fst):=by
 refine⟨List.pairwise_map.2 h.fok.ord,fun q=>⟨fun hq=>?_,fun hq=>?_⟩⟩
 ·obtain⟨f,hf,rfl⟩:=List.mem_map.1 hq
  exact(h.fok.ok f hf).1
 ·obtain⟨⟨i,j,k,h1,h2,h3,c1,c2,c3⟩,hs⟩:=hq
  obtain⟨m,d⟩:=q
  simp only at c2 c3 hs
  subst c3
  exact h.all i j k h1 h2 h3 (.inl (by omega)) c1 m c2 hs
end Go.Proofs.YtjjjkojfijpeeaaGreat.Sy
end
section
set_option linter.unusedVariables false
namespace Go.Proofs.YtjjjkojfijpeeaaGreat.Sy
open Go Go.Proofs Go.Proofs.YtjjjkojfijpeeaaGreat.Geo
def mt(p:V):Nat->V
 | 0=>p
 | 1=>p.neg
 | _=>p
theorem Nd(n:Nat){l:List V}(hl:∀ x∈l,bd MV x)(hlen:l.length<=100)(hs:EQ l):∃ F:FL,KnF l l.length 0 0 F/\cA (n+7) 48 [aQ l]=some (.sl (aD F)):=by
 suffices h:∃ y,cA (n+7) 48 [aQ l]=some y/\∃ F:FL,KnF l l.length 0 0 F/\y=.sl (aD F) by
  obtain⟨y,h1,F,h2,rfl⟩:=h
  exact⟨F,h2,h1⟩
 rw[P4]
 unfold If
 have ll:(l.map ae).length=l.length:=List.length_map ..
 refine pP (fun i s=>∃ F:FL,s=[.sl (aD F),I (i:Int)]/\KnF l i 0 0 F) l.length 0 (Nat.zero_le _) ⟨[],rfl,⟨.nil,by simp⟩,fun i' j' k' h1 h2 h3 h4=>by omega⟩ (fun i hi s hJ=>?_) (fun s hJ=>?_)
 ·obtain⟨F,rfl,hF⟩:=hJ
  refine bf (z:=l.map ae) rfl (bf ag (bf af (oU (by show((i:Int)<((l.map ae).length:Int));rw[ll];omega) (bf (aq (aC (i:=i) (by omega))) ?_))))
  refine pP (fun j s=>i+1<=j/\∃ F:FL,s=[.sl (aD F),I (j:Int)]/\KnF l i j 0 F) l.length (i+1) (by omega) ⟨Nat.le_refl _,F,rfl,hF.mono fun i' j' k' h1 h2 h3 h4=>by omega⟩ (fun j hj s hJ=>?_) (fun s hJ=>?_)
  ·obtain⟨hij,F,rfl,hF⟩:=hJ
   refine bf (z:=l.map ae) rfl (bf ag (bf af (oU (by show((j:Int)<((l.map ae).length:Int));rw[ll];omega) (bf (aq (aC (i:=j) (by omega))) ?_))))
   refine pP (fun k s=>j+1<=k/\∃ F:FL,s=[.sl (aD F),I (k:Int)]/\KnF l i j k F) l.length (j+1) (by omega) ⟨Nat.le_refl _,F,rfl,hF.mono fun i' j' k' h1 h2 h3 h4=>by omega⟩ (fun k hk s hJ=>?_) (fun s hJ=>?_)
   ·obtain⟨hjk,F,rfl,hF⟩:=hJ
    refine bf (z:=l.map ae) rfl (bf ag (bf af (oU (by show((k:Int)<((l.map ae).length:Int));rw[ll];omega) ?_)))
    refine bf (z:=l.map ae) rfl (bf (z:=i) (by rw[ll];exact au hi) (bf (dm hi) (bf (z:=l.map ae) rfl (bf (z:=j) (by rw[ll];exact au hj) (bf (dm hj) (bf (z:=l.map ae) rfl (bf (z:=k) (by rw[ll];exact au hk) (bf (dm hk) (bf (z:=ae (bk (eI (pt l) i j k))) (Ku n (hl _ (cN hi)) (hl _ (cN hj)) (hl _ (cN hk))) ?_)))))))))
    have bt:bd 549755813888 (bk (eI (pt l) i j k)):=kp (fi (kY (P:=pt l) (hl _ (cN hi)) (hl _ (cN hj))) (kY (P:=pt l) (hl _ (cN hi)) (hl _ (cN hk))))
    obtain⟨p,hp⟩:∃ p,bk (eI (pt l) i j k)=p:=⟨_,rfl⟩
    rw[hp] at bt ⊢
    have z0:bd 0 V.zero:=by simp only[bd,V.zero];omega
    have e1:V.zero.sub p=p.neg:=by apply V.ext'<;>simp[V.sub,V.neg,V.zero]
    have e2:V.zero.sub p.neg=p:=by apply V.ext'<;>simp[V.sub,V.neg,V.zero]
    refine pP (fun t s=>∃ F':FL,s=[.sl (aD F'),I (t:Int),ae (mt p t)]/\FOk l F'/\(∀ f∈F,f∈F')/\(1<=t->eI (pt l) i j k≠V.zero->xX (pt l) l.length p (V.dot p (pt l i))->(p,V.dot p (pt l i))∈F'.map Prod.fst)/\(2<=t->eI (pt l) i j k≠V.zero->xX (pt l) l.length p.neg (V.dot p.neg (pt l i))->(p.neg,V.dot p.neg (pt l i))∈F'.map Prod.fst)) 2 0 (by omega) ⟨F,rfl,hF.fok,fun f hf=>hf,fun h=>by omega,fun h=>by omega⟩ (fun t ht s hJ=>?_) (fun s hJ=>?_)
    ·obtain⟨F',rfl,f1,f2,f3,f4⟩:=hJ
     refine bf ag (bf af (oU (by show((t:Int)<2);omega) (bf (z:=l.map ae) rfl (bf (z:=i) (by rw[ll];exact au hi) (bf (dm hi) ?_)))))
     have ht':t=0\/t=1:=by omega
     simp only[g0,g1,g2]
     rcases ht' with rfl|rfl
     ·rw[show mt p 0=p from rfl]
      refine Cf (n+2) hl hlen hs f1 (show i<j by omega) (show j<k by omega) hk (m:=p) (.inl hp.symm) (fun F2 k1 k2 k3=>?_)
      refine⟨.inl [.sl (aD F2),I ((0+1:Nat):Int),ae p.neg],?_,?_⟩
      ·refine aa (z:=ae p.neg) ?_ ?_
       ·have:=zm (n+5) z0 bt (by decide)
        rw[e1] at this
        exact this
       ·exact aa (aq GA) rfl
      ·exact⟨F2,rfl,k1,fun f hf=>k2 f (f2 f hf),fun _=>k3,fun h=>by omega⟩
     ·rw[show mt p 1=p.neg from rfl]
      refine Cf (n+2) hl hlen hs f1 (show i<j by omega) (show j<k by omega) hk (m:=p.neg) (.inr (by rw[hp])) (fun F2 k1 k2 k3=>?_)
      refine⟨.inl [.sl (aD F2),I ((1+1:Nat):Int),ae p],?_,F2,rfl,k1,fun f hf=>k2 f (f2 f hf),fun _ h1 h2=>?_,fun _=>k3⟩
      ·refine aa (z:=ae p) ?_ ?_
       ·have:=zm (n+5) z0 (qh bt) (by decide)
        rw[e2] at this
        exact this
       ·exact aa (aq lW) rfl
      ·obtain⟨f,hf,e⟩:=List.mem_map.1 (f3 (Nat.le_refl _) h1 h2)
       exact List.mem_map.2 ⟨f,k2 f hf,e⟩
    ·obtain⟨F',rfl,f1,f2,f3,f4⟩:=hJ
     refine⟨.inr (0,[.sl (aD F')]),aa ag (aa af (aJ (by decide) rfl)),.inl [.sl (aD F'),I ((k+1:Nat):Int)],aa (aq (aC (i:=k) (by omega))) rfl,by omega,F',rfl,f1,fun i' j' k' h1 h2 h3 h4 h5 m h6 h7=>?_⟩
     by_cases e:i'=i/\j'=j/\k'=k
     ·obtain⟨rfl,rfl,rfl⟩:=e
      rw[hp] at h6
      rcases h6 with rfl|rfl
      ·exact f3 (by omega) h5 h7
      ·exact f4 (by omega) h5 h7
     ·obtain⟨f,hf,e⟩:=List.mem_map.1 (hF.all i' j' k' h1 h2 h3 (by omega) h5 m h6 h7)
      exact List.mem_map.2 ⟨f,f2 f hf,e⟩
   ·obtain⟨hjk,F,rfl,hF⟩:=hJ
    refine⟨.inr (0,[.sl (aD F)]),?_,.inl [.sl (aD F),I ((j+1:Nat):Int)],aa (aq (aC (i:=j) (by omega))) rfl,by omega,F,rfl,hF.mono fun i' j' k' h1 h2 h3 h4=>by omega⟩
    exact aa (z:=l.map ae) rfl (aa ag (aa af (aJ (by show ¬ ((l.length:Int)<((l.map ae).length:Int));rw[ll];omega) rfl)))
  ·obtain⟨hij,F,rfl,hF⟩:=hJ
   refine⟨.inr (0,[.sl (aD F)]),?_,.inl [.sl (aD F),I ((i+1:Nat):Int)],aa (aq (aC (i:=i) (by omega))) rfl,F,rfl,hF.mono fun i' j' k' h1 h2 h3 h4=>by omega⟩
   exact aa (z:=l.map ae) rfl (aa ag (aa af (aJ (by show ¬ ((l.length:Int)<((l.map ae).length:Int));rw[ll];omega) rfl)))
 ·obtain⟨F,rfl,hF⟩:=hJ
  refine⟨.inr (0,[.sl (aD F)]),?_,.sl (aD F),rfl,F,hF,rfl⟩
  exact aa (z:=l.map ae) rfl (aa ag (aa af (aJ (by show ¬ ((l.length:Int)<((l.map ae).length:Int));rw[ll];omega) rfl)))
end Go.Proofs.YtjjjkojfijpeeaaGreat.Sy
end
