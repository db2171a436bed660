/- Part 13 of the proof that HullMassesMatchSpec answers true at every input -/
import Derived.Test.YtjjjkojfijpeeaaGreatMasses09
import Derived.Test.YtjjjkojfijpeeaaGreatMasses12
set_option linter.unusedVariables false
set_option linter.unusedSimpArgs false
set_option linter.unnecessarySimpa false
section
set_option linter.unusedVariables false
namespace Go.Proofs.YtjjjkojfijpeeaaGreat.Sy
open Go Go.Proofs Go.Proofs.YtjjjkojfijpeeaaGreat.Geo
theorem AJ{m:Nat}(hm:m<18446744073709551616):D.st (D.putParts (List.replicate 16 (D.int .u32 0)) [(0,.int .u32 ((m:Int)%4294967296)),(1,.int .u32 ((m:Int)/4294967296%4294967296))])=LM m:=by
 have e:LM m=cC 16 (fun j=>if j=0 then(m:Int)%4294967296 else if j=1 then(m:Int)/4294967296%4294967296 else 0):=de fun j hj=>by
  match j with
  | 0=>simp[bu]
  | 1=>simp[bu]
  | j+2=>
   rw[if_neg (by omega),if_neg (by omega)]
   exact fr (n:=2) (by simpa using hm) (by omega)
 rw[e];rfl
theorem tI{X:Nat}(h:X<18446744073709551616):dg X 1*4294967296+dg X 0=X:=by
 unfold dg
 simp only[Nat.mul_zero,Nat.pow_zero,Nat.div_one,Nat.mul_one]
 have:(2:Nat)^32=4294967296:=rfl
 rw[this];omega
theorem fP(b:D)(c:D){X i:Nat}(h:i<16):D.get (.st [b,c,LM X]) [2,i]=some (.int .u32 (bu X i)):=aa (z:=LM X) rfl (bc _ h)
theorem yW(n:Nat){m:Nat}(h:m<eD):cA (n+1) 116 [.bool false,LM m]=some (ah (m:Int)):=by
 rw[tv n false h]
 have:sgn false m=(m:Int):=if_neg (by decide)
 rw[this]
theorem Lh(n:Nat){x:Int}(hx:In x):cA (n+3) 171 [ah x]=some (ah (x.natAbs:Nat)):=by
 rw[JQ]
 unfold E8
 have h118:cA (n+2) 118 [.sl [ah x]]=some (.bool true):=qA n (a:=some x) (cT hx)
 refine aa h118 (aa cK (aa (z:=false) rfl ?_))
 rw[if_neg (by decide)]
 have hg:D.get (ah x) [2]=some (LM x.natAbs):=by rw[cd];rfl
 exact aa hg (aa (yW (n+1) (bC.1 hx)) rfl)
theorem zJ:18446744073709551616<=eD:=by
 have h:=lP (a:=2) (b:=16) (by decide)
 rw[sD] at h
 rw[fM];exact h
theorem xK{X:Nat}(hX:X<eD):cN X<=2↔X<18446744073709551616:=by
 have h1:=dO hX
 constructor
 ·intro h
  exact Nat.lt_of_lt_of_le h1 (Nat.le_trans (Nat.pow_le_pow_right (by decide) (show 32*cN X<=64 by omega)) (by decide))
 ·intro h
  rcases Nat.lt_or_ge 2 (cN X) with k|k
  ·have:=lM (X:=X) (by omega)
   have h2:2^64<=2^(32*(cN X-1)):=Nat.pow_le_pow_right (by decide) (by omega)
   omega
  ·exact k
theorem gl{m:Nat}:In (m:Int)↔m<eD:=by rw[bC,Int.natAbs_natCast]
theorem qC(n:Nat){x y:Int}(hx:In x)(hy:In y)(ih:y≠0->cA (n+4) 131 [ah (y.natAbs:Nat),ah ((x.natAbs%y.natAbs:Nat):Int)]=some (ah (Nat.gcd y.natAbs (x.natAbs%y.natAbs):Nat))) :
  cA (n+5) 131 [ah x,ah y]=some (ah (Nat.gcd x.natAbs y.natAbs:Nat)):=by
 rw[LL]
 unfold Eu
 have h118:=uB (n+2) (cT hx) (cT hy)
 refine aa h118 (aa cK (aa af ?_))
 rw[if_neg (by simp)]
 have hxt:=bC.1 hx
 have hyt:=bC.1 hy
 rw[cd x,cd y]
 have hxy:y=0↔y.natAbs=0:=by omega
 rw[Ne,hxy] at ih
 generalize hX:x.natAbs=X at *
 generalize hY:y.natAbs=Y at *
 refine aa (z:=LM X) rfl (aa (xz (n+3) hxt) (aa pP (aa af ?_)))
 refine aa (z:=decide (X<18446744073709551616)&&decide (Y<18446744073709551616)) ?_ (aa af ?_)
 ·by_cases h:X<18446744073709551616
  ·refine aH (by have:=(xK hxt).2 h;omega) ?_
   refine aa (z:=LM Y) rfl (aa (xz (n+3) hyt) (aa pP ?_))
   rw[decide_eq_true h,Bool.true_and,af]
   congr 1;rw[decide_eq_decide,<-xK hyt];omega
  ·refine aJ (by intro k;exact h ((xK hxt).1 (by omega))) ?_
   rw[decide_eq_false h,Bool.false_and]
 by_cases hs:X<18446744073709551616/\Y<18446744073709551616
 ·rw[decide_eq_true hs.1,decide_eq_true hs.2,Bool.and_self,if_pos rfl]
  have dx1:=eY X 1;have dx0:=eY X 0;have dy1:=eY Y 1;have dy0:=eY Y 0
  refine aa (fP _ _ (by decide)) (aa (kP X 1) (aa (oE (m:=32) rfl (by decide) (by omega)) (aa (fP _ _ (by decide)) (aa (kP X 0) (aa (g9 (m:=32) dx0 (by omega)) ?_)))))
  refine aa (fP _ _ (by decide)) (aa (kP Y 1) (aa (oE (m:=32) rfl (by decide) (by omega)) (aa (fP _ _ (by decide)) (aa (kP Y 0) (aa (g9 (m:=32) dy0 (by omega)) ?_)))))
  have ex:dg X 1*2^32+dg X 0=X:=tI hs.1
  have ey:dg Y 1*2^32+dg Y 0=Y:=tI hs.2
  rw[ex,ey]
  refine pa (fun m s=>∃ a,s=[W (a:Nat),W (m:Nat)]/\a<18446744073709551616/\m<18446744073709551616/\Nat.gcd a m=Nat.gcd X Y) Y _ ⟨X,rfl,hs.1,hs.2,rfl⟩ (fun m s hJ=>?_)
  obtain⟨a,rfl,ha,hm,hg⟩:=hJ
  have hbq:D.beq (W (m:Nat)) (.int .u64 0)=decide (m=0):=by
   simp only[D.beq,decide_true,Bool.true_and];rw[decide_eq_decide];omega
  by_cases h0:m=0
  ·right
   subst h0
   refine⟨(0,[W (a:Nat)]),?_,?_⟩
   ·refine aa (z:=false) (by show D.truth (.bool (!(D.beq (W ((0:Nat):Int)) (.int .u64 0))))=_;rw[hbq];rfl) ?_
    rw[if_neg (by decide)];rfl
   ·rw[Nat.gcd_zero_right] at hg
    refine aa (gv _) (aa (qZ (by show(0:Int)<=(a:Nat);omega)) (aa (gv _) ?_))
    have e:=AJ ha
    refine aa (z:=ah (a:Int)) ?_ (by rw[<-hg])
    show cA (n+4) 116 [.bool false,D.st (D.putParts (List.replicate 16 (D.int .u32 0)) [(0,.int .u32 ((a:Int)%4294967296)),(1,.int .u32 ((a:Int)/4294967296%4294967296))])]=_
    rw[e]
    exact yW (n+3) (Nat.lt_of_lt_of_le ha zJ)
  ·left
   refine⟨a%m,[W (m:Nat),W ((a%m:Nat):Int)],Nat.mod_lt _ (by omega),?_,m,rfl,hm,Nat.lt_trans (Nat.mod_lt _ (by omega)) hm,by rw[<-hg,Nat.gcd_comm a m,Nat.gcd_rec m a,Nat.gcd_comm]⟩
   refine aa (z:=true) (by show D.truth (.bool (!(D.beq (W (m:Nat)) (.int .u64 0))))=_;rw[hbq,decide_eq_false h0];rfl) ?_
   rw[if_pos rfl]
   exact aa (CH h0) rfl
 ·have:(decide (X<18446744073709551616)&&decide (Y<18446744073709551616))=false:=by
   rw[Bool.and_eq_false_iff,decide_eq_false_iff_not,decide_eq_false_iff_not];omega
  rw[this,if_neg (by decide)]
  refine aa (z:=LM X) rfl (aa (z:=LM Y) rfl ?_)
  rw[ik,ls hyt fm]
  by_cases h0:Y=0
  ·rw[decide_eq_true h0]
   refine aa (z:=false) rfl ?_
   rw[if_neg (by decide),h0,Nat.gcd_zero_right]
   have:=Lh (n+1) hx
   rw[cd x,hX] at this
   exact aa this rfl
  ·rw[decide_eq_false h0]
   refine aa (z:=true) rfl ?_
   rw[if_pos rfl]
   have hr:X%Y<Y:=Nat.mod_lt _ (by omega)
   refine aa (HV n hxt hyt (by omega)) (aa (z:=LM (X/Y)) rfl (aa (z:=LM (X%Y)) rfl (aa (yW (n+3) hyt) (aa (yW (n+3) (Nat.lt_trans hr hyt)) (aa (ih h0) ?_)))))
   rw[Nat.gcd_comm X Y,Nat.gcd_rec Y X,Nat.gcd_comm (X%Y) Y]
theorem ws:∀ (d n:Nat) {x y:Int},In x->In y->y.natAbs<2^d->cA (n+2*d+5) 131 [ah x,ah y]=some (ah (Nat.gcd x.natAbs y.natAbs:Nat))
 | 0,n,x,y,hx,hy,h=>qC n hx hy fun h0=>absurd (by omega) h0
 | d+1,n,x,y,hx,hy,h=>by
  rw[show n+2*(d+1)+5=n+2*d+2+5 by omega]
  refine qC _ hx hy fun h0=>?_
  have hyt:=bC.1 hy
  have hr:x.natAbs%y.natAbs<y.natAbs:=Nat.mod_lt _ (by omega)
  have e1:=qC (n+2*d+1) (x:=(y.natAbs:Nat)) (y:=((x.natAbs%y.natAbs:Nat):Int)) (gl.2 hyt) (gl.2 (Nat.lt_trans hr hyt)) (fun h1=>by
   simp only[Int.natAbs_natCast]
   have h2:y.natAbs%(x.natAbs%y.natAbs)<x.natAbs%y.natAbs:=Nat.mod_lt _ (by omega)
   have h3:y.natAbs%(x.natAbs%y.natAbs)<2^d:=by
    generalize x.natAbs%y.natAbs=r at *
    rw[Nat.pow_succ] at h
    rcases Nat.lt_or_ge r (2^d) with k|k
    ·omega
    ·have:y.natAbs%r=y.natAbs-r:=by
      rw[Nat.mod_eq_sub_mod (by omega),Nat.mod_eq_of_lt (by omega)]
     omega
   have:=ws d n (x:=((x.natAbs%y.natAbs:Nat):Int)) (y:=((y.natAbs%(x.natAbs%y.natAbs):Nat):Int)) (gl.2 (Nat.lt_trans hr hyt)) (gl.2 (Nat.lt_trans (Nat.lt_trans h2 hr) hyt)) (by rw[Int.natAbs_natCast];exact h3)
   simp only[Int.natAbs_natCast] at this
   exact this)
  simp only[Int.natAbs_natCast] at e1
  exact e1
theorem qR{m k:Nat}(h:k=32*16):m<eD↔m<2^k:=by
 have e:kU 16=2^k:=by rw[dj,h]
 rw[fM,e]
theorem Hh(k n:Nat)(hk:k=32*16){x y:Int}(hx:In x)(hy:In y):cA (n+2*k+5) 131 [ah x,ah y]=some (ah (Nat.gcd x.natAbs y.natAbs:Nat)):=
 ws k n hx hy ((qR hk).1 (bC.1 hy))
theorem MI(n:Nat){x y:Int}(hx:In x)(hy:In y):cA (n+1029) 131 [ah x,ah y]=some (ah (Nat.gcd x.natAbs y.natAbs:Nat)):=
 Hh 512 n rfl hx hy
theorem LD(n:Nat){x:Int}(hx:In x):cA (n+3) 217 [ah x]=some (I (iV x.natAbs:Nat)):=by
 rw[Kd]
 unfold E5
 have h118:=qA n (cT hx)
 have hxt:=bC.1 hx
 rw[show eM (some x)=_ from cd x] at h118
 rw[cd x]
 have h16:=iS x.natAbs
 have hh:=dO hxt
 refine aa (z:=LM x.natAbs) rfl (aa (xz (n+1) hxt) (aa h118 (aa cK (aa (z:=false) rfl (aa (z:=decide (cN x.natAbs=0)) (by rw[if_neg (by decide)];show D.truth (.bool (D.beq (I (cN x.natAbs:Nat)) (I ((0:Nat):Int))))=_;rw[bK];rfl) (aa af ?_))))))
 by_cases h0:cN x.natAbs=0
 ·refine aH h0 ?_
  rw[h0] at hh
  have:x.natAbs=0:=by simpa using hh
  rw[this];rfl
 ·refine aJ h0 ?_
  have hl:=lM h0
  generalize cN x.natAbs=p at *
  generalize x.natAbs=X at *
  have hd:X/2^(32*(p-1))=dg X (p-1):=iU (by rw[show p-1+1=p by omega];exact hh)
  have hdl:=eY X (p-1)
  have hbl:iV (dg X (p-1))<=32:=by
   by_cases hz:dg X (p-1)=0
   ·rw[hz];decide
   ·obtain⟨L,k1,k2,_⟩:=gF hz
    rcases Nat.lt_or_ge L 32 with h|h
    ·omega
    ·have:=Nat.pow_le_pow_right (show 0<2 by decide) h
     omega
  have hb:=qU (x:=X) (m:=32*(p-1)) hl
  rw[hd] at hb
  refine aa (iA (b:=1) rfl (by omega) (by omega)) (aa (pq (a:=32) (by omega)) (aa (iA (b:=1) rfl (by omega) (by omega)) (aa (eG (by omega)) (aa (fP _ _ (by omega)) (aa (HB (x:=dg X (p-1)) (n+1) hdl) (aa (aS (a:=32*(p-1)) (b:=iV (dg X (p-1))) (by omega)) ?_))))))
  rw[hb]
theorem C4(X:Nat):64<iV X↔18446744073709551616<=X:=by
 by_cases h0:X=0
 ·subst h0;simp[iV]
 ·obtain⟨L,h1,h2,h3⟩:=gF h0
  rw[h1]
  constructor
  ·intro h
   have:=Nat.pow_le_pow_right (show 0<2 by decide) (show 64<=L by omega)
   omega
  ·intro h
   rcases Nat.lt_or_ge 64 (L+1) with k|k
   ·exact k
   ·have:=Nat.pow_le_pow_right (show 0<2 by decide) k
    omega
theorem DG(n:Nat){x:Int}(hx:In x):(inR x/\cA (n+4) 202 [ah x]=some (.tup [I x,.bool true]))\/(¬ inR x/\cA (n+4) 202 [ah x]=some (.tup [I 0,.bool false])):=by
 rw[LH]
 unfold Aa
 have h118:=qA (n+1) (cT hx)
 have h217:=LD n hx
 have hxt:=bC.1 hx
 have first:∀ {y:D} {g:Bool->Option D},g (decide (18446744073709551616<=x.natAbs))=some y->(Option.bind (cA (n+3) 118 [.sl [ah x]]) fun r1=>Option.bind (D.un .not r1) fun x2=>Option.bind (D.truth x2) fun b3=>Option.bind (if b3 then(some true) else(Option.bind (cA (n+3) 217 [ah x]) fun r4=>Option.bind (D.bin .gtr r4 (D.int .i64 64)) fun x5=>D.truth x5)) fun b6=>Option.bind (D.truth (D.bool b6)) g)=some y:=fun{y g} hg=>by
  refine aa h118 (aa cK (aa (z:=false) rfl (aa (z:=decide (18446744073709551616<=x.natAbs)) ?_ (aa af hg))))
  rw[if_neg (by decide)]
  refine aa h217 (aa dL ?_)
  rw[af]
  congr 1;rw[decide_eq_decide,<-C4];omega
 by_cases hbig:18446744073709551616<=x.natAbs
 ·right
  refine⟨by simp only[inR];omega,first ?_⟩
  rw[decide_eq_true hbig,if_pos rfl]
 ·have hX:x.natAbs<18446744073709551616:=by omega
  have w1:∀ z:Int,IntKind.u64.wrap z=z%18446744073709551616:=fun z=>rfl
  have hleq:∀ (a b:Nat) {c:D},c=.int .u64 (b:Nat)->D.bin .leq (W (a:Nat)) c=some (.bool (decide (a<=b))):=fun a b c hc=>by
   subst hc;simp only[D.bin,if_true];congr 2;rw[decide_eq_decide];omega
  have dx1:=eY x.natAbs 1;have dx0:=eY x.natAbs 0
  have ex:dg x.natAbs 1*2^32+dg x.natAbs 0=x.natAbs:=tI hX
  have cv:∀ z:Int,inR z->∀ a:Int,(a-z)%18446744073709551616=0->D.conv .i64 (W a)=some (I z):=fun z hz a h=>by
   obtain⟨h1,h2⟩:=hz
   simp only[D.conv]
   have hw:IntKind.i64.wrap a=(if(true&&decide (a%18446744073709551616 ≥ 9223372036854775808))=true then a%18446744073709551616-18446744073709551616 else a%18446744073709551616):=rfl
   rw[hw]
   congr 2
   simp only[Bool.true_and,decide_eq_true_eq]
   split<;>omega
  have go:∀ y:D,(if x<0 then(if x.natAbs<=9223372036854775808 then y=.tup [I x,.bool true] else y=.tup [I 0,.bool false]) else(if x.natAbs<9223372036854775808 then y=.tup [I x,.bool true] else y=.tup [I 0,.bool false]))->Aa aY (cA (n+3)) (ah x)=some y:=fun y hy=>by
   unfold Aa
   refine first ?_
   rw[decide_eq_false hbig,if_neg (by decide),cd x]
   refine aa (fP _ _ (by decide)) (aa (kP x.natAbs 1) (aa (oE (m:=32) rfl (by decide) (by omega)) (aa (fP _ _ (by decide)) (aa (kP x.natAbs 0) (aa (g9 (m:=32) dx0 (by omega)) ?_)))))
   rw[ex]
   refine aa (z:=.bool (decide (x<0))) rfl (aa af ?_)
   refine aa (z:=decide (x<0)&&decide (x.natAbs<=9223372036854775808)) ?_ (aa af ?_)
   ·by_cases h:x<0
    ·refine aH h (aa (hleq _ 9223372036854775808 rfl) ?_)
     rw[af,decide_eq_true h,Bool.true_and]
    ·refine aJ h ?_
     rw[decide_eq_false h,Bool.false_and]
   by_cases h:x<0
   ·rw[if_pos h] at hy
    rw[decide_eq_true h,Bool.true_and]
    by_cases h2:x.natAbs<=9223372036854775808
    ·rw[if_pos h2] at hy
     refine aH h2 ?_
     have hn:D.un .neg (W (x.natAbs:Nat))=some (W (IntKind.u64.wrap (0-(x.natAbs:Nat)))):=by simp only[D.un]
     refine aa hn (aa (cv x (by simp only[inR];omega) _ (by rw[w1];omega)) ?_)
     rw[hy]
    ·rw[if_neg h2] at hy
     refine aJ h2 (aa (z:=.bool true) (by rfl) (aa (z:=.bool false) rfl (aa (z:=false) rfl (aa (z:=false) rfl (aa (z:=false) rfl ?_)))))
     rw[if_neg (by decide),hy]
   ·rw[if_neg h] at hy
    rw[decide_eq_false h,Bool.false_and,if_neg (by decide)]
    refine aa (z:=.bool false) (by rfl) (aa (z:=.bool true) rfl (aa (z:=true) rfl (aa (z:=decide (x.natAbs<9223372036854775808)) ?_ (aa af ?_))))
    ·rw[if_pos rfl];exact aa (Ff (b:=9223372036854775808) rfl) af
    by_cases h2:x.natAbs<9223372036854775808
    ·rw[if_pos h2] at hy
     refine aH h2 (aa (cv x (by simp only[inR];omega) _ (by omega)) ?_)
     rw[hy]
    ·rw[if_neg h2] at hy
     refine aJ h2 ?_
     rw[hy]
  by_cases hr:inR x
  ·left
   refine⟨hr,go _ ?_⟩
   simp only[inR] at hr
   split
   ·rw[if_pos (by omega)]
   ·rw[if_pos (by omega)]
  ·right
   refine⟨hr,go _ ?_⟩
   simp only[inR] at hr
   split
   ·rw[if_neg (by omega)]
   ·rw[if_neg (by omega)]
end Go.Proofs.YtjjjkojfijpeeaaGreat.Sy
end
section
set_option linter.unusedVariables false
namespace Go.Proofs.YtjjjkojfijpeeaaGreat.Sy
open Go Go.Proofs Go.Proofs.YtjjjkojfijpeeaaGreat.Geo
theorem yU{x y q:Int}(hy:y≠0)(h:x=y*q):sgn (!(decide (decide (x<0)=decide (y<0)))) (x.natAbs/y.natAbs)=q:=by
 have e:x.natAbs/y.natAbs=q.natAbs:=by
  rw[h,Int.natAbs_mul,Nat.mul_div_cancel_left _ (by omega)]
 rw[e]
 have key:q=0\/(q<0/\(x<0↔¬ y<0))\/(0<q/\(x<0↔y<0)):=by
  rcases Int.lt_trichotomy q 0 with hq|hq|hq
  ·right;left
   refine⟨hq,?_⟩
   rcases Int.lt_or_gt_of_ne hy with k|k
   ·have:=Int.mul_pos_of_neg_of_neg k hq;omega
   ·have:=Int.mul_neg_of_pos_of_neg k hq;omega
  ·exact .inl hq
  ·right;right
   refine⟨hq,?_⟩
   rcases Int.lt_or_gt_of_ne hy with k|k
   ·have:=Int.mul_neg_of_neg_of_pos k hq;omega
   ·have:=Int.mul_pos k hq;omega
 unfold sgn
 by_cases hx:x<0<;>by_cases hyy:y<0<;>simp[hx,hyy]<;>omega
theorem dt(x:Int):D.get (ah x) [1]=some (.bool (decide (x<0))):=rfl
theorem yZ(x:Int):D.get (ah x) [2]=some (LM x.natAbs):=by rw[cd];rfl
theorem Ct{x:Int}(h:x≠0):sg x≠0:=by unfold sg;split<;>(try split)<;>omega
theorem CF{x y:Int}(hx:In x)(h:y ∣ x):In (x/y):=by
 obtain⟨q,rfl⟩:=h
 rw[bC] at *
 by_cases hy:y=0
 ·subst hy;simp;exact fm
 ·rw[Int.mul_ediv_cancel_left _ hy]
  rw[Int.natAbs_mul] at hx
  exact Nat.lt_of_le_of_lt (Nat.le_mul_of_pos_left _ (by omega)) hx
theorem I4(n:Nat){x y:Int}(hx:In x)(hy:In y)(hy0:y≠0)(hd:y ∣ x):cA (n+5) 172 [ah x,ah y]=some (.tup [ah (x/y),ah 0]):=by
 have hin:=CF hx hd
 obtain⟨q,hq⟩:=hd
 have exy:x/y=q:=by rw[hq];exact Int.mul_ediv_cancel_left _ hy0
 rw[exy] at hin ⊢
 rw[KG]
 unfold DX
 have h118:cA (n+4) 118 [.sl [ah x,ah y]]=some (.bool true):=uB (n+2) (a:=some x) (b:=some y) (cT hx) (cT hy)
 have hbe:∀ a b:Int,D.beq (I a) (.int .i64 b)=decide (a=b):=fun a b=>bP
 refine aa h118 (aa cK (aa (z:=false) rfl (aa (z:=false) ?_ (aa (z:=false) rfl ?_))))
 ·rw[if_neg (by decide)]
  refine aa (GA (n+1) hy) ?_
  rw[hbe,decide_eq_false (Ct hy0)];rfl
 rw[if_neg (by decide)]
 by_cases fast:(inR x/\x≠-9223372036854775808)/\inR y/\y≠-9223372036854775808
 ·obtain⟨⟨fx,fx1⟩,fy,fy1⟩:=fast
  have hx202:cA (n+4) 202 [ah x]=some (.tup [I x,.bool true]):=by
   rcases DG n hx with⟨_,h⟩|⟨h,_⟩
   ·exact h
   ·exact absurd fx h
  have hy202:cA (n+4) 202 [ah y]=some (.tup [I y,.bool true]):=by
   rcases DG n hy with⟨_,h⟩|⟨h,_⟩
   ·exact h
   ·exact absurd fy h
  have hqa:q.natAbs<=x.natAbs:=by rw[hq,Int.natAbs_mul];exact Nat.le_mul_of_pos_left _ (by omega)
  have hqr:inR q:=by simp only[inR] at *;omega
  have e1:x.tdiv y=q:=by rw[hq];exact Int.mul_tdiv_cancel_left _ hy0
  have e2:x.tmod y=0:=by rw[hq];exact Int.mul_tmod_right ..
  refine aa (z:=(0,[ah q,ah 0])) ?_ rfl
  refine aa hx202 (aa (z:=I x) rfl (aa (z:=.bool true) rfl (aa (z:=true) rfl (aa (z:=true) ?_ (aa (z:=true) rfl ?_)))))
  ·rw[if_pos rfl,hbe,decide_eq_false fx1];rfl
  rw[if_pos rfl]
  refine aa hy202 (aa (z:=I y) rfl (aa (z:=.bool true) rfl (aa (z:=true) rfl (aa (z:=true) ?_ (aa (z:=true) rfl ?_)))))
  ·rw[if_pos rfl,hbe,decide_eq_false fy1];rfl
  rw[if_pos rfl]
  refine aa (sf hy0 (by rw[e1];exact hqr)) (aa (sR hy0) ?_)
  rw[e1,e2]
  refine aa (z:=(0,[I q,I 0])) (aa (z:=false) rfl (aa (z:=false) rfl (aa (z:=false) rfl rfl))) ?_
  exact aa (BQ (n+2) hqr) (aa (BQ (n+2) (show inR 0 from⟨by decide,by decide⟩)) rfl)
 ·refine aa (z:=(1,[.st [.bool false,.bool false,az aU],.st [.bool false,.bool false,az aU]])) ?_ ?_
  ·rcases DG n hx with⟨fx,h⟩|⟨fx,h⟩
   ·by_cases fx1:x=-9223372036854775808
    ·refine aa h (aa (z:=I x) rfl (aa (z:=.bool true) rfl (aa (z:=true) rfl (aa (z:=false) ?_ (aa (z:=false) rfl rfl)))))
     rw[if_pos rfl,hbe,decide_eq_true fx1];rfl
    ·refine aa h (aa (z:=I x) rfl (aa (z:=.bool true) rfl (aa (z:=true) rfl (aa (z:=true) ?_ (aa (z:=true) rfl ?_)))))
     ·rw[if_pos rfl,hbe,decide_eq_false fx1];rfl
     rw[if_pos rfl]
     rcases DG n hy with⟨fy,h2⟩|⟨fy,h2⟩
     ·have fy1:y=-9223372036854775808:=Classical.byContradiction fun k=>fast ⟨⟨fx,fx1⟩,fy,k⟩
      refine aa h2 (aa (z:=I y) rfl (aa (z:=.bool true) rfl (aa (z:=true) rfl (aa (z:=false) ?_ (aa (z:=false) rfl rfl)))))
      rw[if_pos rfl,hbe,decide_eq_true fy1];rfl
     ·exact aa h2 (aa (z:=I 0) rfl (aa (z:=.bool false) rfl (aa (z:=false) rfl (aa (z:=false) rfl (aa (z:=false) rfl rfl)))))
   ·exact aa h (aa (z:=I 0) rfl (aa (z:=.bool false) rfl (aa (z:=false) rfl (aa (z:=false) rfl (aa (z:=false) rfl rfl)))))
  rw[if_neg (by decide)]
  have hxt:=bC.1 hx
  have hyt:=bC.1 hy
  have hmod:x.natAbs%y.natAbs=0:=by rw[hq,Int.natAbs_mul];exact Nat.mul_mod_right _ _
  have hqt:x.natAbs/y.natAbs<eD:=Nat.lt_of_le_of_lt (Nat.div_le_self _ _) hxt
  have h170:=HV n hxt hyt (by omega)
  rw[hmod] at h170
  refine aa (yZ x) (aa (yZ y) (aa h170 (aa (z:=LM (x.natAbs/y.natAbs)) rfl (aa (z:=LM 0) rfl (aa (dt x) (aa (dt y) ?_))))))
  have hb:(!(D.beq (.bool (decide (x<0))) (.bool (decide (y<0)))))=!(decide (decide (x<0)=decide (y<0))):=by
   by_cases h1:x<0<;>by_cases h2:y<0<;>simp[h1,h2,D.beq]
  rw[hb,ik,ls fm fm,decide_eq_true rfl]
  refine aa (tv (n+3) _ hqt) ?_
  rw[yU hy0 hq]
  refine aa (z:=(0,[LM 0,ah q])) (aa (z:=false) rfl (aa (z:=false) rfl (aa (z:=false) rfl rfl))) ?_
  refine aa (dt y) (aa (tv (n+3) _ fm) ?_)
  have:sgn (decide (y<0)) 0=0:=by unfold sgn;split<;>rfl
  rw[this];rfl
theorem HO(n:Nat){x y:Int}(hx:In x)(hy:In y)(hy0:y≠0)(hd:y ∣ x):cA (n+6) 132 [ah x,ah y]=some (ah (x/y)):=by
 rw[J4]
 unfold Do
 exact aa (I4 n hx hy hy0 hd) (aa (z:=ah (x/y)) rfl (aa (z:=ah 0) rfl rfl))
def bR(q:Rat):D:=.st [ah q.num,ah (q.den:Int)]
def yH(q:Rat):Prop:=In q.num/\In (q.den:Int)
theorem HI(n:Nat){x:Int}(hx:In x):cA (n+2) 128 [ah x]=some (.bool true):=by
 rw[Jg]
 unfold D2
 have h:cA (n+1) 167 [ah x]=some (.bool true):=GR n (a:=some x) (cT hx)
 refine aa (z:=.bool false) rfl (aa (z:=.bool true) rfl (aa (z:=true) rfl (aa (z:=true) ?_ rfl)))
 rw[if_pos rfl]
 exact aa h rfl
theorem yS(n:Nat){x:Int}(hx:In x):cA (n+3) 68 [ah x]=some (ah (-x)):=Pz n (a:=some x) (cT hx)
theorem jH(x:Int){d:Int}(hd:d≠0):(Rat.divInt x d).num=x/(if d<0 then -(Nat.gcd x.natAbs d.natAbs:Int) else(Nat.gcd x.natAbs d.natAbs:Int))/\((Rat.divInt x d).den:Int)=d/(if d<0 then -(Nat.gcd x.natAbs d.natAbs:Int) else(Nat.gcd x.natAbs d.natAbs:Int)):=by
 have hg:d.gcd x=Nat.gcd x.natAbs d.natAbs:=by unfold Int.gcd;exact Nat.gcd_comm ..
 have hgp:0<Nat.gcd x.natAbs d.natAbs:=Nat.gcd_pos_of_pos_right _ (by omega)
 have dx:((Nat.gcd x.natAbs d.natAbs:Nat):Int) ∣ x:=Int.ofNat_dvd_left.2 (Nat.gcd_dvd_left _ _)
 have dd:((Nat.gcd x.natAbs d.natAbs:Nat):Int) ∣ d:=Int.ofNat_dvd_left.2 (Nat.gcd_dvd_right _ _)
 rw[Rat.num_divInt,Rat.den_divInt,if_neg hd,hg]
 generalize Nat.gcd x.natAbs d.natAbs=g at *
 by_cases h:d<0
 ·rw[if_pos h,Int.sign_eq_neg_one_of_neg h]
  refine⟨?_,?_⟩
  ·rw[Int.ediv_neg,show -1*x=-x by omega,Int.neg_ediv_of_dvd dx]
  ·rw[Int.ediv_neg,Int.natCast_ediv,<-Int.neg_ediv_of_dvd dd]
   congr 1;omega
 ·rw[if_neg h,Int.sign_eq_one_of_pos (by omega),Int.one_mul]
  refine⟨rfl,?_⟩
  rw[Int.natCast_ediv]
  congr 1;omega
theorem MS(n:Nat){x d:Int}(hx:In x)(hd:In d)(hd0:d≠0):cA (n+1030) 62 [ah x,ah d]=some (bR (Rat.divInt x d)):=by
 rw[QY]
 unfold IX
 have hbe:∀ a b:Int,D.beq (I a) (.int .i64 b)=decide (a=b):=fun a b=>bP
 have hgp:0<Nat.gcd x.natAbs d.natAbs:=Nat.gcd_pos_of_pos_right _ (by omega)
 have dx:((Nat.gcd x.natAbs d.natAbs:Nat):Int) ∣ x:=Int.ofNat_dvd_left.2 (Nat.gcd_dvd_left _ _)
 have dd:((Nat.gcd x.natAbs d.natAbs:Nat):Int) ∣ d:=Int.ofNat_dvd_left.2 (Nat.gcd_dvd_right _ _)
 have hgle:Nat.gcd x.natAbs d.natAbs<=d.natAbs:=Nat.gcd_le_right _ (by omega)
 have hgin:In (Nat.gcd x.natAbs d.natAbs:Nat):=gl.2 (Nat.lt_of_le_of_lt hgle (bC.1 hd))
 obtain⟨p1,p2⟩:=jH x hd0
 unfold bR
 rw[p1,p2]
 refine aa (HI (n+1027) hx) (aa (z:=.bool false) rfl (aa (z:=false) rfl (aa (z:=false) ?_ (aa (z:=false) rfl (aa (z:=false) ?_ (aa (z:=false) rfl ?_))))))
 ·rw[if_neg (by decide)];exact aa (HI (n+1027) hd) rfl
 ·rw[if_neg (by decide)]
  refine aa (GA (n+1026) hd) ?_
  rw[hbe,decide_eq_false (Ct hd0)];rfl
 rw[if_neg (by decide)]
 refine aa (MI n hx hd) ?_
 generalize Nat.gcd x.natAbs d.natAbs=g at *
 refine aa (z:=(0,[ah (if d<0 then -(g:Int) else(g:Int))])) ?_ ?_
 ·refine aa (GA (n+1026) hd) (aa ag (aa af ?_))
  by_cases h:d<0
  ·rw[if_pos h]
   refine aH (by rw[tB h];decide) ?_
   exact aa (yS (n+1026) hgin) rfl
  ·rw[if_neg h]
   exact aJ (by rw[j6 (by omega)];decide) rfl
 ·have hin2:In (if d<0 then -(g:Int) else(g:Int)):=by
   split
   ·rw[bC,Int.natAbs_neg];exact bC.1 hgin
   ·exact hgin
  have hne:(if d<0 then -(g:Int) else(g:Int))≠0:=by split<;>omega
  have ddx:(if d<0 then -(g:Int) else(g:Int)) ∣ x:=by split<;>first|exact Int.neg_dvd.2 dx|exact dx
  have ddd:(if d<0 then -(g:Int) else(g:Int)) ∣ d:=by split<;>first|exact Int.neg_dvd.2 dd|exact dd
  exact aa (HO (n+1023) hx hin2 hne ddx) (aa (HO (n+1023) hd hin2 hne ddd) rfl)
end Go.Proofs.YtjjjkojfijpeeaaGreat.Sy
end
section
set_option linter.unusedVariables false
namespace Go.Proofs.YtjjjkojfijpeeaaGreat.Sy
open Go Go.Proofs Go.Proofs.YtjjjkojfijpeeaaGreat.Geo
theorem Gz(x:Int):D.get (ah x) [2,1]=some (U (ew (aB x.natAbs) 1)):=cP (i:=1) (by decide)
theorem AY(n:Nat){x:Int}(hx:In x)(h:¬ Wd x):cA (n+3) 124 [ah x]=some (.tup [I 0,.bool false]):=by
 have hW:4611686018427387904<=x.natAbs:=by unfold Wd at h;omega
 rw[G4]
 unfold A3
 have l1:=B5 x.natAbs
 refine aa (rj n hx) (aa cK (aa (z:=false) rfl (aa (z:=decide (1073741824<=x.natAbs/4294967296%4294967296)) ?_ (aa af ?_))))
 ·rw[if_neg (by decide)]
  refine aa (Gz x) ?_
  rw[l1]
  have:D.bin .geq (U (x.natAbs/4294967296%4294967296)) (.int .u32 1073741824)=some (.bool (decide (1073741824<=x.natAbs/4294967296%4294967296))):=by
   simp only[D.bin,if_true];congr 2;rw[decide_eq_decide];omega
  exact aa this rfl
 by_cases h1:1073741824<=x.natAbs/4294967296%4294967296
 ·exact aH h1 rfl
 ·refine aJ h1 ?_
  have hbig:18446744073709551616<=x.natAbs:=by omega
  refine aW (fun i s=>s=[I (i:Int)]/\2<=i/\∀ k,2<=k->k<i->ew (aB x.natAbs) k=0) 16 2 (by decide) ⟨rfl,by decide,fun k h1 h2=>by omega⟩ (fun i hi s hJ=>?_) (fun s hJ=>?_)
  ·obtain⟨rfl,h2,hz⟩:=hJ
   have hb:D.bin .lss (I (i:Int)) (D.int .i64 16)=some (.bool true):=by rw[ag,decide_eq_true (by omega)]
   by_cases h0:ew (aB x.natAbs) i=0
   ·left
    refine⟨[I ((i+1:Nat):Int)],?_,rfl,by omega,fun k k1 k2=>?_⟩
    ·refine aa hb (aa (z:=true) rfl ?_)
     rw[if_pos rfl]
     refine aa (au hi) (aa (cP hi) ?_)
     rw[h0]
     refine aa (z:=false) rfl ?_
     rw[if_neg (by decide)]
     exact aa (aq (aC (i:=i) (by omega))) rfl
    ·by_cases e:k=i
     ·subst e;exact h0
     ·exact hz k k1 (by omega)
   ·right
    refine⟨(0,[I 0,.bool false]),?_,rfl⟩
    refine aa hb (aa (z:=true) rfl ?_)
    rw[if_pos rfl]
    refine aa (au hi) (aa (cP hi) (aa (z:=true) ?_ ?_))
    ·show D.truth (.bool (!(D.beq (U (ew (aB x.natAbs) i)) (U 0))))=_
     rw[Fa,decide_eq_false h0];rfl
    ·rw[if_pos rfl]
  ·exfalso
   obtain⟨_,_,hz⟩:=hJ
   have h3:x.natAbs/18446744073709551616=0:=by
    have hlt:x.natAbs/18446744073709551616<65536^32:=Nat.lt_of_le_of_lt (Nat.div_le_self _ _) hx
    refine pQ hlt fun i hi=>?_
    rw[gC,Nat.div_div_eq_div_mul,show(18446744073709551616:Nat)=4294967296^2 from rfl,<-Nat.pow_add]
    by_cases k:i+2<16
    ·have:=hz (i+2) (by omega) k
     rw[gC] at this
     rw[Nat.add_comm 2 i];exact this
    ·have e16:(65536:Nat)^32=4294967296^16:=by rw[show(4294967296:Nat)=65536^2 from rfl,<-Nat.pow_mul]
     have hx':x.natAbs<4294967296^16:=by rw[<-e16];exact hx
     rw[Nat.div_eq_of_lt (Nat.lt_of_lt_of_le hx' (Nat.pow_le_pow_right (by decide) (show 16<=2+i by omega))),Nat.zero_mod]
   omega
theorem KP(n:Nat):cA (n+1) 125 []=some Ge:=by
 rw[L1];unfold Dz;rw[fg];rfl
theorem EW(n:Nat){l:List Nat}{neg:Bool}(hd:dl l)(hl:l.length<=1000000):cA (n+2) 81 [.bool neg,.sl (ab l)]=some (eM (lO (sgn neg (aP l)))):=by
 by_cases hv:aP l<65536^32
 ·rw[Fl n hd hl hv,er (by unfold In;rw[mQ];exact hv)];rfl
 ·have hno:lO (sgn neg (aP l))=none:=by
   unfold lO;rw[mQ,<-rR,if_neg hv]
  rw[hno,MY]
  unfold G0
  refine aa (vH n hl) ?_
  rw[gf hd]
  have hlen:¬ (aB (aP l)).length<=32:=fun h=>hv (by
   have:=jx (aN (aP l))
   rw[ak] at this
   exact Nat.lt_of_lt_of_le this (Nat.pow_le_pow_right (by decide) h))
  refine aa (z:=ab (aB (aP l))) rfl (aa dL (aa af (aH (by show((ab (aB (aP l))).length:Int)>32;rw[ai];omega) ?_)))
  exact aa (KP n) rfl
theorem Db(n:Nat){a b:List Nat}(ha:dl a)(hb:dl b)(hla:a.length<=400000)(hle:aP b<=aP a):cA (n+2) 126 [.sl (ab a),.sl (ab b)]=some (.sl (ab (aB (aP a-aP b)))):=by
 rw[Jf]
 unfold CX
 refine aW (fun k s=>∃ (out:List Nat) (c:Nat),s=[.sl (ab out),I (c:Int),I (k:Int)]/\out.length=k/\dl out/\c<=1/\aP out+vt b k=vt a k+c*65536^k) a.length 0 (Nat.zero_le _) ⟨[],0,rfl,rfl,(by intro d hd;cases hd),by omega,by simp[aP,vt]⟩ (fun k hk s hJ=>?_) (fun s hJ=>?_)
 ·obtain⟨out,c,rfl,ho,hdo,hc,hv⟩:=hJ
  left
  have h1:=ha.getD k
  have h2:=hb.getD k
  obtain⟨e,f,hef,he,hf⟩:∃ e f:Nat,e+b.getD k 0+c=a.getD k 0+f*65536/\e<65536/\f<=1:=by
   by_cases h:b.getD k 0+c<=a.getD k 0
   ·exact⟨a.getD k 0-(b.getD k 0+c),0,by omega,by omega,by omega⟩
   ·exact⟨a.getD k 0+65536-(b.getD k 0+c),1,by omega,by omega,by omega⟩
  refine⟨[.sl (ab (out++[e])),I (f:Int),I ((k+1:Nat):Int)],?_,out++[e],f,rfl,by simp[ho],hdo.append (fun x hx=>by simp at hx;omega),hf,?_⟩
  ·refine aa (z:=ab a) rfl (aa ag (aa af (aH (by show(k:Int)<((ab a).length:Int);rw[ai];omega) ?_)))
   refine aa (z:=ab a) rfl (aa (uf hk) (aa (cU hk) (aa (AI n b k) (aa (dq (by simp only[inR];omega)) (aa (dq (by simp only[inR];omega)) ?_)))))
   refine aa (z:=(0,[.sl (ab out),I (f:Int),I (e:Int)])) ?_ ?_
   ·refine aa ag (aa af ?_)
    by_cases hneg:((a.getD k 0:Nat):Int)-(b.getD k 0:Nat)-(c:Int)<0
    ·refine aH hneg (aa (aq (by simp only[inR];omega)) ?_)
     have e1:(((a.getD k 0:Nat):Int)-(b.getD k 0:Nat)-(c:Int)+65536)=(e:Int):=by omega
     have e2:f=1:=by omega
     rw[e1,e2];rfl
    ·refine aJ hneg ?_
     have e1:(((a.getD k 0:Nat):Int)-(b.getD k 0:Nat)-(c:Int))=(e:Int):=by omega
     have e2:f=0:=by omega
     rw[e1,e2];rfl
   ·rw[if_pos (by simp only[g0,D.els,ai,List.length_cons,List.length_nil];omega)]
    refine aa (aq (aC (i:=k) (by omega))) ?_
    show some (Sum.inl [D.sl (ab out++[I (e:Int)]),_,_])=_
    rw[r0];rfl
  ·rw[kl,ho,vt,vt,Nat.pow_succ]
   have e2:aP [e]=e:=by simp[aP]
   rw[e2]
   generalize 65536^k=B at *
   have:(e+b.getD k 0+c)*B=(a.getD k 0+f*65536)*B:=by rw[hef]
   rw[Nat.add_mul,Nat.add_mul,Nat.add_mul] at this
   rw[show f*(B*65536)=f*65536*B by rw[Nat.mul_comm B,<-Nat.mul_assoc],Nat.mul_comm B e]
   omega
 ·obtain⟨out,c,rfl,ho,hdo,hc,hv⟩:=hJ
  refine⟨(0,[.sl (ab out)]),aa (z:=ab a) rfl (aa ag (aa af (aJ (by show ¬ ((a.length:Int)<((ab a).length:Int));rw[ai];omega) rfl))),?_⟩
  refine aa (vH n (l:=out) (by omega)) ?_
  rw[kg] at hv
  have hvb:vt b a.length=aP b:=by
   rcases Nat.le_total b.length a.length with k|k
   ·exact gA k
   ·have hbl:=qm hb b.length
    have hal:=jx ha
    have key:∀ j,aP b<65536^a.length->vt b (a.length+j)=vt b a.length:=fun j hlt=>by
     induction j with
     | zero=>rfl
     | succ j ih=>
      rw[<-Nat.add_assoc,vt,ih]
      have hz:b.getD (a.length+j) 0=0:=by
       rcases Nat.eq_zero_or_pos (b.getD (a.length+j) 0) with h|h
       ·exact h
       ·exfalso
        have m1:vt b (a.length+j+1)<=aP b:=by
         rw[<-kg b]
         rcases Nat.le_total (a.length+j+1) b.length with q|q
         ·obtain⟨m,hm⟩:∃ m,b.length=a.length+j+1+m:=⟨b.length-(a.length+j+1),by omega⟩
          rw[hm]
          clear hm
          induction m with
          | zero=>exact Nat.le_refl _
          | succ m ihm=>exact Nat.le_trans ihm (Nat.le_add_right _ _)
         ·rw[gA q,kg];exact Nat.le_refl _
        rw[vt] at m1
        have m2:65536^a.length<=65536^(a.length+j):=Nat.pow_le_pow_right (by decide) (by omega)
        have m3:1*65536^(a.length+j)<=b.getD (a.length+j) 0*65536^(a.length+j):=Nat.mul_le_mul_right _ h
        omega
      rw[hz];simp
    obtain⟨m,hm⟩:∃ m,b.length=a.length+m:=⟨b.length-a.length,by omega⟩
    have:=key m (Nat.lt_of_le_of_lt hle hal)
    rw[<-hm,kg] at this
    exact this.symm
  have hdl:=jx hdo
  rw[ho] at hdl
  have hal:=jx ha
  have hc0:c=0:=by
   rcases Nat.eq_zero_or_pos c with h|h
   ·exact h
   ·have:1*65536^a.length<=c*65536^a.length:=Nat.mul_le_mul_right _ h
    omega
  subst hc0
  rw[gf hdo]
  have:aP out=aP a-aP b:=by omega
  rw[this]
theorem p0(m:Int)(h:In m):(aB m.natAbs).length<=32:=bw 32 _ h
theorem GQ(n:Nat){x y:Int}(hx:In x)(hy:In y):cA (n+4) 59 [ah x,ah y]=some (eM (lO (x+y))):=by
 by_cases hw:Wd x/\Wd y
 ·have hin:In (x+y):=by
   have:Sy.inR (x+y):=by have:=hw.1;have:=hw.2;unfold Wd at *;simp only[Sy.inR];omega
   exact In.of this
  rw[KE n hw.1 hw.2,er hin];rfl
 ·rw[M5]
  unfold GZ
  have hws:∀ z:Int,In z->∃ w b,cA (n+3) 124 [ah z]=some (.tup [I w,.bool b])/\(b=true->Wd z):=fun z hz=>by
   by_cases h:Wd z
   ·exact⟨z,true,pL n h,fun _=>h⟩
   ·exact⟨0,false,AY n hz h,fun e=>by cases e⟩
  obtain⟨w1,b1,h1,k1⟩:=hws x hx
  obtain⟨w2,b2,h2,k2⟩:=hws y hy
  have hb:(b1&&b2)=false:=by
   cases b1<;>cases b2<;>first|rfl|exact absurd ⟨k1 rfl,k2 rfl⟩ hw
  refine aa h1 (aa (z:=I w1) rfl (aa (z:=.bool b1) rfl (aa h2 (aa (z:=I w2) rfl (aa (z:=.bool b2) rfl (aa (z:=b1) rfl (aa (z:=false) (by cases b1<;>cases b2<;>simp at hb<;>rfl) (aa (z:=false) rfl ?_))))))))
  rw[if_neg (by decide)]
  refine aa (rj (n+1) hx) (aa cK (aa (z:=false) rfl (aa (z:=false) (by rw[if_neg (by decide)];exact aa (rj (n+1) hy) rfl) (aa (z:=false) rfl ?_))))
  rw[if_neg (by decide)]
  have lx:=p0 x hx;have ly:=p0 y hy
  refine aa (wK (n+1) hx) (aa (wK (n+1) hy) (aa (dt x) (aa (dt y) (aa (z:=decide (decide (x<0)=decide (y<0))) (by by_cases h1:x<0<;>by_cases h2:y<0<;>simp[h1,h2,D.beq,D.truth]) ?_))))
  by_cases hs:decide (x<0)=decide (y<0)
  ·refine aH hs (aa (dt x) (aa (M7 (n+1) (aN _) (aN _) (by omega) (by omega)) ?_))
   rw[ak,ak]
   have hlen:(aB (x.natAbs+y.natAbs)).length<=33:=bw 33 _ (by
    have e:(65536:Nat)^33=65536^32*65536:=Nat.pow_succ ..
    rw[e];unfold In at hx hy;omega)
   refine aa (EW (n+1) (aN _) (by omega)) ?_
   rw[ak]
   have:sgn (decide (x<0)) (x.natAbs+y.natAbs)=x+y:=by
    unfold sgn;rw[decide_eq_decide] at hs;simp only[decide_eq_true_eq];split<;>omega
   rw[this]
  ·refine aJ hs ?_
   have hs':¬ (x<0↔y<0):=fun e=>hs (by rw[decide_eq_decide];exact e)
   have h78:=Is (n+1) (aN x.natAbs) (aN y.natAbs) (by omega) (by omega)
   rw[ak,ak] at h78
   refine aa h78 (aa af ?_)
   by_cases hlt:x.natAbs<y.natAbs
   ·refine aH hlt (aa (dt y) (aa (Db (n+1) (aN _) (aN _) (by omega) (by rw[ak,ak];omega)) ?_))
    rw[ak,ak]
    have hlen:(aB (y.natAbs-x.natAbs)).length<=32:=bw 32 _ (by unfold In at hy;omega)
    refine aa (EW (n+1) (aN _) (by omega)) ?_
    rw[ak]
    have:sgn (decide (y<0)) (y.natAbs-x.natAbs)=x+y:=by
     unfold sgn;simp only[decide_eq_true_eq];split<;>omega
    rw[this]
   ·refine aJ hlt (aa (dt x) (aa (Db (n+1) (aN _) (aN _) (by omega) (by rw[ak,ak];omega)) ?_))
    rw[ak,ak]
    have hlen:(aB (x.natAbs-y.natAbs)).length<=32:=bw 32 _ (by unfold In at hx;omega)
    refine aa (EW (n+1) (aN _) (by omega)) ?_
    rw[ak]
    have:sgn (decide (x<0)) (x.natAbs-y.natAbs)=x+y:=by
     unfold sgn;simp only[decide_eq_true_eq];split<;>omega
    rw[this]
theorem zD(n:Nat){x y:Int}(hx:In x)(hy:In y):cA (n+4) 89 [ah x,ah y]=some (eM (lO (x*y))):=by
 by_cases hw:Wd x/\Wd y
 ·have hin:In (x*y):=by
   have h1:=hw.1;have h2:=hw.2
   unfold Wd at h1 h2
   unfold In
   rw[Int.natAbs_mul]
   have hxy:x.natAbs*y.natAbs<65536^8:=by
    have e:(65536:Nat)^8=18446744073709551616*18446744073709551616:=by decide
    rw[e];exact Nat.mul_lt_mul'' (by omega) (by omega)
   exact Nat.lt_of_lt_of_le hxy (Nat.pow_le_pow_right (by decide) (by decide))
  rw[IT n hw.1 hw.2,er hin];rfl
 ·rw[Nh]
  unfold GN
  have hws:∀ z:Int,In z->∃ w b,cA (n+3) 124 [ah z]=some (.tup [I w,.bool b])/\(b=true->Wd z):=fun z hz=>by
   by_cases h:Wd z
   ·exact⟨z,true,pL n h,fun _=>h⟩
   ·exact⟨0,false,AY n hz h,fun e=>by cases e⟩
  obtain⟨w1,b1,h1,k1⟩:=hws x hx
  obtain⟨w2,b2,h2,k2⟩:=hws y hy
  have hb:(b1&&b2)=false:=by
   cases b1<;>cases b2<;>first|rfl|exact absurd ⟨k1 rfl,k2 rfl⟩ hw
  refine aa h1 (aa (z:=I w1) rfl (aa (z:=.bool b1) rfl (aa h2 (aa (z:=I w2) rfl (aa (z:=.bool b2) rfl (aa (z:=b1) rfl (aa (z:=false) (by cases b1<;>cases b2<;>simp at hb<;>rfl) (aa (z:=false) rfl (aa (z:=false) rfl (aa (z:=false) rfl (aa (z:=false) rfl (aa (z:=false) rfl ?_))))))))))))
  rw[if_neg (by decide)]
  refine aa (rj (n+1) hx) (aa cK (aa (z:=false) rfl (aa (z:=false) (by rw[if_neg (by decide)];exact aa (rj (n+1) hy) rfl) (aa (z:=false) rfl ?_))))
  rw[if_neg (by decide)]
  have lx:=p0 x hx;have ly:=p0 y hy
  refine aa (dt x) (aa (dt y) (aa (wK (n+1) hx) (aa (wK (n+1) hy) (aa (FX (n+1) (aN _) (aN _) (by omega) (by omega)) ?_))))
  rw[ak,ak]
  have hlen:(aB (x.natAbs*y.natAbs)).length<=64:=bw 64 _ (by
   have e:(65536:Nat)^64=65536^32*65536^32:=by rw[<-Nat.pow_add]
   rw[e];exact Nat.mul_lt_mul'' hx hy)
  have hb':(!(D.beq (.bool (decide (x<0))) (.bool (decide (y<0)))))=!(decide (decide (x<0)=decide (y<0))):=by
   by_cases h1:x<0<;>by_cases h2:y<0<;>simp[h1,h2,D.beq]
  rw[hb']
  refine aa (EW (n+1) (aN _) (by omega)) ?_
  rw[ak,tK]
theorem MT(n:Nat){x:Int}(hx:In x):cA (n+3) 86 [ah x]=some (ah (-x)):=by
 rw[Oy]
 unfold HX
 have lx:=p0 x hx
 refine aa (rj n hx) (aa cK (aa (z:=false) rfl ?_))
 rw[if_neg (by decide)]
 refine aa (dt x) (aa cK (aa (wK n hx) (aa (Fl n (aN _) (by omega) (by rw[ak];exact hx)) ?_)))
 rw[ak]
 have:sgn (!(decide (x<0))) x.natAbs=-x:=by
  unfold sgn;by_cases h:x<0<;>simp[h]<;>omega
 rw[this]
end Go.Proofs.YtjjjkojfijpeeaaGreat.Sy
end
section
set_option linter.unusedVariables false
namespace Go.Proofs.YtjjjkojfijpeeaaGreat.Sy
open Go Go.Proofs Go.Proofs.YtjjjkojfijpeeaaGreat.Geo
def Dh(l:List Nat)(k:Int):Nat:=if k<0 then 0 else l.getD k.toNat 0
theorem AX{l:List Nat}(h:dl l)(k:Int):Dh l k<65536:=by
 unfold Dh
 split
 ·decide
 ·exact h.getD _
theorem yO(l:List Nat)(k:Nat):Dh l (k:Int)=l.getD k 0:=by
 unfold Dh
 rw[if_neg (by omega),Int.toNat_natCast]
theorem EE(n:Nat)(l:List Nat)(k:Int):cA (n+2) 175 [.sl (ab l),I k]=some (I (Dh l k:Nat)):=by
 rw[JZ]
 unfold CU Dh
 refine aa ag (aa af ?_)
 by_cases h:k<0
 ·refine aH h ?_
  rw[if_pos h];rfl
 ·refine aJ h ?_
  rw[if_neg h]
  obtain⟨m,rfl⟩:=Int.eq_ofNat_of_zero_le (show 0<=k by omega)
  exact aa (AI n l m) rfl
def kN(R n:Nat):Nat:=if n=1 then R*65536 else R/65536^(n-2)
theorem mO(m i:Nat):(aB m).getD i 0=m/65536^i%65536:=nM i m
theorem vE(R:Nat){m:Nat}(hm:1<=m):R/65536^(m-1)=R/65536^m*65536+R/65536^(m-1)%65536:=by
 have e:65536^m=65536^(m-1)*65536:=by
  conv=>lhs;rw[show m=m-1+1 by omega]
  exact Nat.pow_succ ..
 rw[e,<-Nat.div_div_eq_div_mul];omega
theorem Bl{R n:Nat}(hn:1<=n)(hR:R<65536^(n+1)):(aB R).getD n 0*4294967296+(aB R).getD (n-1) 0*65536+Dh (aB R) ((n:Int)-2)=kN R n:=by
 have h1:R/65536^n<65536:=by
  rw[Nat.div_lt_iff_lt_mul (Nat.pow_pos (by decide)),Nat.mul_comm,<-Nat.pow_succ];exact hR
 have e1:=vE R hn
 rw[mO,mO,Nat.mod_eq_of_lt h1]
 unfold kN Dh
 by_cases hn1:n=1
 ·subst hn1
  rw[if_pos rfl,if_pos (by decide)]
  simp only[Nat.sub_self,Nat.pow_zero,Nat.div_one,Nat.pow_one] at *
  omega
 ·rw[if_neg hn1,if_neg (by omega),show((n:Int)-2).toNat=n-2 by omega,mO]
  have e2:=vE R (m:=n-1) (by omega)
  rw[show n-1-1=n-2 by omega] at e2
  omega
theorem Gl{B n:Nat}(hn:1<=n)(hB:B<65536^n):(aB B).getD (n-1) 0*65536+Dh (aB B) ((n:Int)-2)=kN B n:=by
 have h:=Bl (R:=B) hn (Nat.lt_of_lt_of_le hB (Nat.pow_le_pow_right (by decide) (Nat.le_succ n)))
 rw[mO B n,Nat.div_eq_of_lt hB,Nat.zero_mod,Nat.zero_mul,Nat.zero_add] at h
 exact h
theorem Bm{R B n:Nat}(hB0:0<B)(ht:0<kN B n)(hRB:R<65536*B):R/B<=min 65535 (kN R n/kN B n):=by
 have h1:R/B<=65535:=by
  have:=(Nat.div_lt_iff_lt_mul hB0).2 (show R<65536*B from hRB);omega
 refine Nat.le_min.2 ⟨h1,?_⟩
 rw[Nat.le_div_iff_mul_le ht]
 unfold kN
 by_cases hn:n=1
 ·rw[if_pos hn,if_pos hn,<-Nat.mul_assoc]
  exact Nat.mul_le_mul_right _ (Nat.div_mul_le_self R B)
 ·rw[if_neg hn,if_neg hn]
  have hp:0<65536^(n-2):=Nat.pow_pos (by decide)
  rw[Nat.le_div_iff_mul_le hp,Nat.mul_assoc]
  exact Nat.le_trans (Nat.mul_le_mul_left _ (Nat.div_mul_le_self B _)) (Nat.div_mul_le_self R B)
theorem iE{B:Nat}(hB:0<B):1<=(aB B).length/\B<65536^(aB B).length/\0<kN B (aB B).length:=by
 have h1:1<=(aB B).length:=by
  rcases Nat.eq_zero_or_pos (aB B).length with h|h
  ·have:=List.length_eq_zero_iff.1 h
   have:=qr.1 this;omega
  ·exact h
 have h2:B<65536^(aB B).length:=by
  have:=jx (aN B);rwa [ak] at this
 refine⟨h1,h2,?_⟩
 have h3:65536^((aB B).length-1)<=B:=by
  rcases Nat.lt_or_ge B (65536^((aB B).length-1)) with k|k
  ·have:=bw _ B k;omega
  ·exact k
 unfold kN
 split
 ·omega
 ·refine Nat.div_pos (Nat.le_trans (Nat.pow_le_pow_right (by decide) (by omega)) h3) (Nat.pow_pos (by decide))
theorem G5(n:Nat){A B:Nat}(hA:A<65536^40)(hB:0<B)(hBl:B<65536^40):cA (n+3) 143 [.sl (ab (aB A)),.sl (ab (aB B))]=some (.tup [.sl (ab (aB (A/B))),.sl (ab (aB (A%B)))]):=by
 rw[KC]
 unfold Ds
 obtain⟨n1,n2,n3⟩:=iE hB
 have lA:=bw 40 _ hA
 have lB:=bw 40 _ hBl
 have dB:=aN B
 obtain⟨L,hL⟩:∃ L,(aB B).length=L:=⟨_,rfl⟩
 rw[hL] at n1 n2 n3 lB
 obtain⟨M,hM⟩:∃ M,(aB A).length=M:=⟨_,rfl⟩
 rw[hM] at lA
 have eLen:((ab (aB B)).length:Int)=(L:Int):=by rw[ai,hL]
 have eLenA:((ab (aB A)).length:Int)=(M:Int):=by rw[ai,hM]
 refine aa (z:=ab (aB A)) rfl (aa (z:=M) (by rw[eLenA];exact zi M) ?_)
 rw[if_pos (by omega)]
 refine aa (z:=ab (aB B)) rfl ?_
 rw[eLen]
 have hb1:(aB B).getD (L-1) 0<65536:=dB.getD _
 have htop:=Gl n1 n2
 refine aa (iA (b:=1) rfl n1 (by omega)) (aa (z:=ab (aB B)) rfl (aa (z:=L-1) (by rw[ai,hL];exact au (by omega)) (aa (cU (l:=aB B) (i:=L-1) (by omega)) ?_)))
 refine aa (pq (b:=65536) (by omega)) (aa (z:=I ((L:Int)-2)) (dq (by simp only[inR];omega)) (aa (EE n (aB B) ((L:Int)-2)) ?_))
 have hb2':=AX dB ((L:Int)-2)
 refine aa (aS (by omega)) ?_
 rw[htop]
 have htop64:kN B L<4294967296:=by rw[<-htop];omega
 generalize hTB:kN B L=TB at *
 refine aa (z:=ab (aB A)) rfl ?_
 rw[eLenA]
 refine aa (z:=I ((M:Int)-1)) (dq (by simp only[inR];omega)) ?_
 rw[rY]
 have hA0:A/65536^M=0:=by
  have:=jx (aN A);rw[ak,hM] at this;exact Nat.div_eq_of_lt this
 refine aW (fun t s=>∃ q:List Nat,s=[.sl (ab (aB (A/65536^(M-t)%B))),I ((M:Int)-1-(t:Nat)),.sl (ab q)]/\q.length=M/\dl q/\(∀ i,i<M-t->q.getD i 0=0)/\aP q=A/65536^(M-t)/B*65536^(M-t)) M 0 (Nat.zero_le _) ⟨List.replicate M 0,?_,by simp,fun x hx=>by rw[List.eq_of_mem_replicate hx];decide,fun i _=>by simp[List.getD,List.getElem?_replicate];split<;>rfl,?_⟩ (fun t ht s hJ=>?_) (fun s hJ=>?_)
 ·rw[Nat.sub_zero,hA0,Nat.zero_mod,cc]
  congr 3;omega
 ·have:=ld [] M;rw[List.nil_append] at this
  rw[this,Nat.sub_zero,hA0,Nat.zero_div,Nat.zero_mul];rfl
 ·obtain⟨q,rfl,hql,hqd,hqz,hqv⟩:=hJ
  left
  obtain⟨k,hk⟩:∃ k,k=M-1-t:=⟨_,rfl⟩
  have hkM:k<M:=by omega
  rw[show M-t=k+1 by omega] at hqz hqv ⊢
  rw[show(M:Int)-1-(t:Nat)=(k:Nat) by omega]
  have hrB:A/65536^(k+1)%B<B:=Nat.mod_lt _ hB
  have hAk:A/65536^k=65536*(A/65536^(k+1))+(aB A).getD k 0:=by
   rw[mO,Nat.pow_succ,<-Nat.div_div_eq_div_mul];omega
  have hdk:(aB A).getD k 0<65536:=(aN A).getD k
  obtain⟨R,hR⟩:∃ R,R=65536*(A/65536^(k+1)%B)+(aB A).getD k 0:=⟨_,rfl⟩
  have hRB:R<65536*B:=by
   have:65536*(A/65536^(k+1)%B+1)<=65536*B:=Nat.mul_le_mul_left _ hrB
   omega
  have hRq:A/65536^k/B=65536*(A/65536^(k+1)/B)+R/B:=by
   have e:=Nat.div_add_mod (A/65536^(k+1)) B
   have e2:A/65536^k=R+B*(65536*(A/65536^(k+1)/B)):=by
    rw[hAk,hR]
    generalize A/65536^(k+1)=X at *
    have:65536*X=65536*(B*(X/B)+X%B):=by rw[e]
    rw[Nat.mul_add] at this
    have c:B*(65536*(X/B))=65536*(B*(X/B)):=by rw[<-Nat.mul_assoc,Nat.mul_comm B,Nat.mul_assoc]
    omega
   rw[e2,Nat.add_mul_div_left _ _ hB];omega
  have hRm:A/65536^k%B=R%B:=by
   have e:=Nat.div_add_mod (A/65536^(k+1)) B
   have e2:A/65536^k=R+B*(65536*(A/65536^(k+1)/B)):=by
    rw[hAk,hR]
    generalize A/65536^(k+1)=X at *
    have:65536*X=65536*(B*(X/B)+X%B):=by rw[e]
    rw[Nat.mul_add] at this
    have c:B*(65536*(X/B))=65536*(B*(X/B)):=by rw[<-Nat.mul_assoc,Nat.mul_comm B,Nat.mul_assoc]
    omega
   rw[e2,Nat.add_mul_mod_self_left]
  have hlr:(aB (A/65536^(k+1)%B)).length<=40:=bw 40 _ (Nat.lt_trans hrB hBl)
  have hRl:R<65536^(L+1):=by
   rw[Nat.pow_succ,Nat.mul_comm];exact Nat.lt_of_lt_of_le hRB (Nat.mul_le_mul_left _ (Nat.le_of_lt n2))
  have hR41:R<65536^41:=Nat.lt_of_lt_of_le hRl (Nat.pow_le_pow_right (by decide) (by omega))
  have lR:=bw 41 _ hR41
  have dR:=aN R
  obtain⟨q',hq'⟩:∃ q',q'=q.set k (R/B):=⟨_,rfl⟩
  have hRB2:R/B<=65535:=by have:=(Nat.div_lt_iff_lt_mul hB).2 hRB;omega
  refine⟨[.sl (ab (aB (R%B))),I ((k:Int)-1),.sl (ab q')],?_,q',by rw[show M-(t+1)=k by omega,hRm];congr 3;omega,by rw[hq'];simpa using hql,?_,?_,?_⟩
  ·refine aa io (aa af (aH (by show(k:Int) ≥ 0;omega) ?_))
   refine aa (z:=ab (aB A)) rfl (aa (z:=k) (by rw[ai,hM];exact au hkM) (aa (cU (l:=aB A) (i:=k) (by omega)) (aa (z:=ab (aB (A/65536^(k+1)%B))) rfl ?_)))
   rw[if_pos (by rw[ai];simp;omega)]
   have hcons:[I (((aB A).getD k 0:Nat):Int)]++ab (aB (A/65536^(k+1)%B))=ab ((aB A).getD k 0::aB (A/65536^(k+1)%B)):=rfl
   rw[hcons]
   have hdl:dl ((aB A).getD k 0::aB (A/65536^(k+1)%B)):=dl.cons hdk (aN _)
   have htr:=vH (n+1) (l:=(aB A).getD k 0::aB (A/65536^(k+1)%B)) (by simp;omega)
   rw[gf hdl,show aP ((aB A).getD k 0::aB (A/65536^(k+1)%B))=R by rw[aP,ak,hR];omega] at htr
   refine aa htr ?_
   have g1:=dR.getD L;have g2:=dR.getD (L-1)
   have g3:=AX dR ((L:Int)-2)
   have h3:=Bl n1 hRl
   refine aa (EE n (aB R) (L:Int)) ?_
   rw[yO]
   refine aa (pq (b:=4294967296) (by omega)) (aa (iA (b:=1) rfl n1 (by omega)) (aa (EE n (aB R) ((L-1:Nat):Int)) ?_))
   rw[yO]
   refine aa (pq (b:=65536) (by omega)) (aa (aS (by omega)) (aa (z:=I ((L:Int)-2)) (dq (by simp only[inR];omega)) (aa (EE n (aB R) ((L:Int)-2)) (aa (aS (by omega)) ?_))))
   rw[h3]
   have hH:kN R L<=9223372036854775807:=by rw[<-h3];omega
   have hge:=Bm (R:=R) (n:=L) hB (by rw[hTB];exact n3) hRB
   rw[hTB] at hge
   refine aa (iL (by omega) (by omega)) (aa (z:=I ((min 65535 (kN R L/TB):Nat):Int)) (by rw[show(D.int .i64 65535)=I ((65535:Nat):Int) from rfl,Hj];congr 2;omega) ?_)
   have hd0:min 65535 (kN R L/TB)<=65535:=Nat.min_le_left ..
   generalize min 65535 (kN R L/TB)=d0 at *
   have hpart:∀ d:Nat,d<=65535->cA (n+2) 146 [.sl (ab (aB B)),.sl [I (d:Int)]]=some (.sl (ab (aB (B*d)))):=fun d hd=>by
    have:=FX n (a:=aB B) (b:=[d]) dB (fun x hx=>by simp at hx;omega) (by omega) (by simp)
    rw[ak,show aP [d]=d by simp[aP]] at this
    exact this
   refine aa (hpart d0 hd0) ?_
   refine pa (fun d s=>s=[I (d:Int),.sl (ab (aB (B*d))),.sl (ab q)]/\R/B<=d/\d<=65535) d0 _ ⟨rfl,hge,hd0⟩ (fun d s hJ=>?_)
   obtain⟨rfl,k1,k2⟩:=hJ
   have hBd:B*d<65536^41:=by
    have:B*d<=B*65536:=Nat.mul_le_mul_left _ (by omega)
    have e:(65536:Nat)^41=65536^40*65536:=Nat.pow_succ ..
    have:B*65536<65536^40*65536:=Nat.mul_lt_mul_of_pos_right hBl (by decide)
    omega
   have lBd:=bw 41 _ hBd
   have h78:=Is n dR (aN (B*d)) (by omega) (by omega)
   rw[ak,ak] at h78
   by_cases hlt:R<B*d
   ·left
    rw[decide_eq_true hlt] at h78
    have hd1:R/B<d:=by rw[Nat.div_lt_iff_lt_mul hB,Nat.mul_comm];exact hlt
    have hd1p:1<=d:=Nat.lt_of_le_of_lt (Nat.zero_le _) hd1
    refine⟨d-1,[I ((d-1:Nat):Int),.sl (ab (aB (B*(d-1)))),.sl (ab q)],by omega,?_,rfl,Nat.le_sub_one_of_lt hd1,by omega⟩
    refine aa h78 (aa (z:=true) rfl ?_)
    rw[if_pos rfl]
    have e:B*d-B=B*(d-1):=by rw[Nat.mul_sub,Nat.mul_one]
    have h126:=Db n (aN (B*d)) dB (by omega) (by rw[ak,ak];exact Nat.le_mul_of_pos_right _ (by omega))
    rw[ak,ak,e] at h126
    exact aa (iA (b:=1) rfl (by omega) (by omega)) (aa h126 rfl)
   ·right
    rw[decide_eq_false hlt] at h78
    have hd1:d<=R/B:=by rw[Nat.le_div_iff_mul_le hB,Nat.mul_comm];omega
    have hdq:d=R/B:=by omega
    refine⟨(0,[I (d:Int),.sl (ab (aB (B*d))),.sl (ab q)]),?_,?_⟩
    ·refine aa h78 (aa (z:=false) rfl ?_)
     rw[if_neg (by decide)];rfl
    ·have h126:=Db n dR (aN (B*d)) (by omega) (by rw[ak,ak];omega)
     have e:R-B*d=R%B:=by rw[hdq];have:=Nat.div_add_mod R B;omega
     rw[ak,ak,e] at h126
     have hkq:k<q.length:=by omega
     refine aa (uf hkq) (aa (cU hkq) (aa h126 (aa (dq (by simp only[inR];omega)) ?_)))
     show some (Sum.inl [_,_,D.sl (List.set (ab q) k (I (d:Int)))])=_
     rw[nW,hdq,<-hq']
     first|rfl|skip
  ·rw[hq']
   refine Fi fun i hi=>?_
   rw[ke _ _ _ _ (by omega)]
   split
   ·omega
   ·exact hqd.getD i
  ·intro i hi
   rw[hq',ke _ _ _ _ (by omega),if_neg (by omega)]
   exact hqz i (by omega)
  ·have e:=mP (l:=q) (j:=k) (v:=R/B) (by omega)
   rw[hqz k (by omega),Nat.mul_zero,Nat.add_zero,<-hq'] at e
   rw[e,hqv,show M-(t+1)=k by omega,hRq,Nat.pow_succ,Nat.add_mul,Nat.mul_comm (R/B),Nat.mul_comm 65536,Nat.mul_assoc,Nat.mul_comm (65536^k) 65536]
 ·obtain⟨q,rfl,hql,hqd,_,hqv⟩:=hJ
  rw[Nat.sub_self,Nat.pow_zero,Nat.div_one,Nat.mul_one] at hqv
  refine⟨(0,[.sl (ab (aB (A%B))),.sl (ab q)]),?_,?_⟩
  ·rw[Nat.sub_self,Nat.pow_zero,Nat.div_one]
   exact aa io (aa af (aJ (by show ¬ ((M:Int)-1-(M:Nat)) ≥ 0;omega) rfl))
  ·have htr:=vH (n+1) (l:=q) (by omega)
   rw[gf hqd,hqv] at htr
   exact aa htr rfl
theorem EK{m:Nat}(h:m<65536^32):m<65536^40:=Nat.lt_of_lt_of_le h (Nat.pow_le_pow_right (by decide) (by decide))
theorem ye(n:Nat){x:Int}(hx:In x):∃ w b,cA (n+3) 124 [ah x]=some (.tup [I w,.bool b])/\(b=true->Wd x):=by
 by_cases h:Wd x
 ·exact⟨x,true,pL n h,fun _=>h⟩
 ·exact⟨0,false,AY n hx h,fun e=>by cases e⟩
theorem FS(n:Nat){x y:Int}(hx:In x)(hy:In y):cA (n+4) 85 [ah x,ah y]=some (ah (Nat.gcd x.natAbs y.natAbs:Nat)):=by
 by_cases hw:Wd x/\Wd y
 ·exact Ir n hw.1 hw.2
 ·rw[Nn]
  unfold HT
  obtain⟨w1,b1,h1,k1⟩:=ye n hx
  obtain⟨w2,b2,h2,k2⟩:=ye n hy
  have hb:(b1&&b2)=false:=by
   cases b1<;>cases b2<;>first|rfl|exact absurd ⟨k1 rfl,k2 rfl⟩ hw
  refine aa h1 (aa (z:=I w1) rfl (aa (z:=.bool b1) rfl (aa h2 (aa (z:=I w2) rfl (aa (z:=.bool b2) rfl (aa (z:=b1) rfl (aa (z:=false) (by cases b1<;>cases b2<;>simp at hb<;>rfl) (aa (z:=false) rfl ?_))))))))
  rw[if_neg (by decide)]
  refine aa (rj (n+1) hx) (aa cK (aa (z:=false) rfl (aa (z:=false) (by rw[if_neg (by decide)];exact aa (rj (n+1) hy) rfl) (aa (z:=false) rfl ?_))))
  rw[if_neg (by decide)]
  refine aa (wK (n+1) hx) (aa (wK (n+1) hy) ?_)
  have hx':x.natAbs<65536^32:=hx
  have hy':y.natAbs<65536^32:=hy
  refine pa (fun m s=>∃ a,s=[.sl (ab (aB a)),.sl (ab (aB m))]/\a<65536^32/\m<65536^32/\Nat.gcd a m=Nat.gcd x.natAbs y.natAbs) y.natAbs _ ⟨x.natAbs,rfl,hx',hy',rfl⟩ (fun m s hJ=>?_)
  obtain⟨a,rfl,ha,hm,hg⟩:=hJ
  by_cases h0:m=0
  ·right
   subst h0
   rw[Nat.gcd_zero_right] at hg
   rw[cc]
   refine⟨(0,[.sl (ab (aB a))]),?_,?_⟩
   ·exact aa (z:=ab []) rfl (aa (z:=.bool false) rfl (aa (z:=false) rfl rfl))
   ·have la:=bw 32 _ ha
    refine aa (Fl (n+1) (neg:=false) (aN a) (by omega) (by rw[ak];exact ha)) ?_
    rw[ak,hg];rfl
  ·left
   have hlt:a%m<m:=Nat.mod_lt _ (by omega)
   refine⟨a%m,[.sl (ab (aB m)),.sl (ab (aB (a%m)))],hlt,?_,m,rfl,hm,Nat.lt_trans hlt hm,by rw[<-hg,Nat.gcd_comm a m,Nat.gcd_rec m a,Nat.gcd_comm]⟩
   have hl:=(iE (B:=m) (by omega)).1
   refine aa (z:=ab (aB m)) rfl (aa dL (aa af (aH (by show((ab (aB m)).length:Int)>0;rw[ai];omega) ?_)))
   exact aa (G5 n (EK ha) (by omega) (EK hm)) (aa (z:=.sl (ab (aB (a/m)))) rfl (aa (z:=.sl (ab (aB (a%m)))) rfl rfl))
theorem EN(n:Nat){x y:Int}(hx:In x)(hy:In y)(hy0:y≠0)(hd:y ∣ x):cA (n+4) 87 [ah x,ah y]=some (ah (x/y)):=by
 by_cases hw:Wd x/\Wd y
 ·exact Ih n hw.1 hw.2 hy0 hd
 ·have hin:=CF hx hd
  obtain⟨q,hq⟩:=hd
  have exy:x/y=q:=by rw[hq];exact Int.mul_ediv_cancel_left _ hy0
  rw[exy] at hin ⊢
  rw[M0]
  unfold HH
  obtain⟨w1,b1,h1,k1⟩:=ye n hx
  obtain⟨w2,b2,h2,k2⟩:=ye n hy
  have hb:(b1&&b2)=false:=by
   cases b1<;>cases b2<;>first|rfl|exact absurd ⟨k1 rfl,k2 rfl⟩ hw
  have hx':x.natAbs<65536^32:=hx
  have hy':y.natAbs<65536^32:=hy
  have hl:=(iE (B:=y.natAbs) (by omega)).1
  refine aa h1 (aa (z:=I w1) rfl (aa (z:=.bool b1) rfl (aa h2 (aa (z:=I w2) rfl (aa (z:=.bool b2) rfl (aa (z:=b1) rfl (aa (z:=false) (by cases b1<;>cases b2<;>simp at hb<;>rfl) (aa (z:=false) rfl (aa (z:=false) rfl (aa (z:=false) rfl ?_))))))))))
  rw[if_neg (by decide)]
  refine aa (rj (n+1) hx) (aa cK (aa (z:=false) rfl (aa (z:=false) (by rw[if_neg (by decide)];exact aa (rj (n+1) hy) rfl) (aa (z:=false) rfl (aa (z:=false) ?_ (aa (z:=false) rfl ?_))))))
  ·rw[if_neg (by decide)]
   refine aa (wK (n+1) hy) (aa (z:=ab (aB y.natAbs)) rfl ?_)
   show D.truth (.bool (D.beq (I ((ab (aB y.natAbs)).length:Nat)) (I ((0:Nat):Int))))=_
   rw[ai,bK,decide_eq_false (by omega)];rfl
  rw[if_neg (by decide)]
  have hmod:x.natAbs%y.natAbs=0:=by rw[hq,Int.natAbs_mul];exact Nat.mul_mod_right _ _
  have hqt:x.natAbs/y.natAbs<65536^32:=Nat.lt_of_le_of_lt (Nat.div_le_self _ _) hx'
  have h143:=G5 n (EK hx') (B:=y.natAbs) (by omega) (EK hy')
  rw[hmod,cc] at h143
  have hb':(!(D.beq (.bool (decide (x<0))) (.bool (decide (y<0)))))=!(decide (decide (x<0)=decide (y<0))):=by
   by_cases h1:x<0<;>by_cases h2:y<0<;>simp[h1,h2,D.beq]
  refine aa (wK (n+1) hx) (aa (wK (n+1) hy) (aa h143 (aa (z:=.sl (ab (aB (x.natAbs/y.natAbs)))) rfl (aa (z:=.sl (ab [])) rfl ?_))))
  refine aa (z:=(0,[.sl (ab (aB (x.natAbs/y.natAbs)))])) ?_ (aa (dt x) (aa (dt y) ?_))
  ·refine aa (dt x) (aa (dt y) ?_)
   rw[hb']
   refine aa (z:=!(decide (decide (x<0)=decide (y<0)))) rfl (aa (z:=false) ?_ (aa (z:=false) rfl rfl))
   cases (!(decide (decide (x<0)=decide (y<0))))<;>rfl
  ·rw[hb']
   have lq:=bw 32 _ hqt
   refine aa (Fl (n+1) (aN _) (by omega) (by rw[ak];exact hqt)) ?_
   rw[ak,yU hy0 hq]
theorem DL(n:Nat){x d:Int}(hx:In x)(hd:In d)(hd0:d≠0):cA (n+5) 37 [ah x,ah d]=some (bR (Rat.divInt x d)):=by
 rw[OR]
 unfold Ip
 have hbe:∀ a b:Int,D.beq (I a) (.int .i64 b)=decide (a=b):=fun a b=>bP
 have hgp:0<Nat.gcd x.natAbs d.natAbs:=Nat.gcd_pos_of_pos_right _ (by omega)
 have dx:((Nat.gcd x.natAbs d.natAbs:Nat):Int) ∣ x:=Int.ofNat_dvd_left.2 (Nat.gcd_dvd_left _ _)
 have dd:((Nat.gcd x.natAbs d.natAbs:Nat):Int) ∣ d:=Int.ofNat_dvd_left.2 (Nat.gcd_dvd_right _ _)
 have hgle:Nat.gcd x.natAbs d.natAbs<=d.natAbs:=Nat.gcd_le_right _ (by omega)
 have hgin:In (Nat.gcd x.natAbs d.natAbs:Nat):=gl.2 (Nat.lt_of_le_of_lt hgle (bC.1 hd))
 obtain⟨p1,p2⟩:=jH x hd0
 unfold bR
 rw[p1,p2]
 refine aa (rj (n+2) hx) (aa (z:=.bool false) rfl (aa (z:=false) rfl (aa (z:=false) ?_ (aa (z:=false) rfl (aa (z:=false) ?_ (aa (z:=false) rfl ?_))))))
 ·rw[if_neg (by decide)];exact aa (rj (n+2) hd) rfl
 ·rw[if_neg (by decide)]
  refine aa (H9 (n+1) hd) ?_
  rw[hbe,decide_eq_false (Ct hd0)];rfl
 rw[if_neg (by decide)]
 refine aa (FS n hx hd) ?_
 generalize Nat.gcd x.natAbs d.natAbs=g at *
 refine aa (z:=(0,[ah (if d<0 then -(g:Int) else(g:Int))])) ?_ ?_
 ·refine aa (H9 (n+1) hd) (aa ag (aa af ?_))
  by_cases h:d<0
  ·rw[if_pos h]
   refine aH (by rw[tB h];decide) ?_
   exact aa (MT (n+1) hgin) rfl
  ·rw[if_neg h]
   exact aJ (by rw[j6 (by omega)];decide) rfl
 ·have hin2:In (if d<0 then -(g:Int) else(g:Int)):=by
   split
   ·rw[bC,Int.natAbs_neg];exact bC.1 hgin
   ·exact hgin
  have hne:(if d<0 then -(g:Int) else(g:Int))≠0:=by split<;>omega
  have ddx:(if d<0 then -(g:Int) else(g:Int)) ∣ x:=by split<;>first|exact Int.neg_dvd.2 dx|exact dx
  have ddd:(if d<0 then -(g:Int) else(g:Int)) ∣ d:=by split<;>first|exact Int.neg_dvd.2 dd|exact dd
  exact aa (EN n hx hin2 hne ddx) (aa (EN n hd hin2 hne ddd) rfl)
end Go.Proofs.YtjjjkojfijpeeaaGreat.Sy
end
section
set_option linter.unusedVariables false
namespace Go.Proofs.YtjjjkojfijpeeaaGreat.Sy
open Go Go.Proofs Go.Proofs.YtjjjkojfijpeeaaGreat.Geo
theorem fB{x:Int}(h:inR x):In x:=by
 unfold In;have:(65536:Nat)^4<=65536^32:=Nat.pow_le_pow_right (by decide) (by decide)
 have e:(65536:Nat)^4=18446744073709551616:=rfl
 simp only[inR] at h;omega
theorem fF(x:Int)(h:-9223372036854775808<=x/\x<=9223372036854775807:=by decide):inR x:=h
theorem Gd(n:Nat):cA (n+4) 133 []=some (ah 1):=by
 rw[I2];unfold DA
 exact aa (uG n (fF 1)) rfl
theorem DZ(n:Nat)(f:Nat->Int):D.beq (cC n f) (cC n f)=true:=by
 show D.beqs _ _=true
 rw[rb]
 simp
theorem yL(x:Int):D.beq (ah x) (ah x)=true:=by
 rw[cd]
 show(D.beq (.bool false) (.bool false)&&(D.beq (.bool (decide (x<0))) (.bool (decide (x<0)))&&(D.beq (LM x.natAbs) (LM x.natAbs)&&true)))=true
 rw[DZ];simp[D.beq]
theorem GG(n:Nat){q:Rat}(h:yH q):cA (n+5) 88 [bR q]=some (.bool true):=by
 rw[N9];unfold Ic
 have hp:(0:Int)<(q.den:Int):=by have:=q.den_pos;omega
 refine aa (z:=ah q.num) rfl (aa (rj (n+2) h.1) (aa (z:=.bool false) rfl (aa (z:=false) rfl (aa (z:=false) ?_ (aa (z:=false) rfl ?_)))))
 ·rw[if_neg (by decide)]
  exact aa (z:=ah (q.den:Int)) rfl (aa (rj (n+2) h.2) (aa (z:=.bool false) rfl rfl))
 rw[if_neg (by decide)]
 refine aa (z:=ah (q.den:Int)) rfl (aa (H9 (n+1) h.2) (aa (z:=.bool true) (by rw[j6 hp];rfl) (aa (z:=true) rfl (aa (z:=true) ?_ rfl))))
 rw[if_pos rfl]
 refine aa (z:=ah q.num) rfl (aa (z:=ah (q.den:Int)) rfl (aa (FS n h.1 h.2) (aa (Gd n) ?_)))
 have e:Nat.gcd q.num.natAbs (q.den:Int).natAbs=1:=q.reduced
 rw[e]
 show D.truth (.bool (D.beq (ah 1) (ah 1)))=_
 rw[yL];rfl
theorem KH(n:Nat){x d:Int}(hx:inR x)(hd:inR d)(hd0:d≠0):cA (n+6) 42 [I x,I d]=some (bR (Rat.divInt x d)):=by
 rw[QO];unfold Ie
 exact aa (uG (n+2) hx) (aa (uG (n+2) hd) (aa (DL n (fB hx) (fB hd) hd0) rfl))
theorem BF:In 1:=fB (fF 1)
theorem ga(x:Int):Rat.divInt x 1=(x:Rat):=by
 conv=>rhs;rw[<-Rat.num_divInt_den (x:Rat)]
 rfl
theorem Nc(n:Nat){x:Int}(hx:In x):cA (n+6) 63 [ah x]=some (bR (x:Rat)):=by
 rw[Om];unfold IW
 refine aa (Gd (n+1)) (aa (DL n hx BF (by decide)) ?_)
 rw[ga]
theorem J7(n:Nat){x:Int}(hx:inR x):cA (n+6) 75 [I x]=some (bR (x:Rat)):=by
 rw[Pr];unfold Iv
 refine aa (uG (n+2) hx) (aa (Gd (n+1)) (aa (DL n (fB hx) BF (by decide)) ?_))
 rw[ga]
theorem ji(x:Int){d:Int}(hd:d≠0):(Rat.divInt x d).num.natAbs<=x.natAbs/\(Rat.divInt x d).den<=d.natAbs:=by
 obtain⟨p1,p2⟩:=jH x hd
 have hgp:0<Nat.gcd x.natAbs d.natAbs:=Nat.gcd_pos_of_pos_right _ (by omega)
 have key:∀ z:Int,(z/(if d<0 then -(Nat.gcd x.natAbs d.natAbs:Int) else(Nat.gcd x.natAbs d.natAbs:Int))).natAbs<=z.natAbs\/¬ ((Nat.gcd x.natAbs d.natAbs:Nat):Int) ∣ z:=by
  intro z
  by_cases hz:((Nat.gcd x.natAbs d.natAbs:Nat):Int) ∣ z
  ·left
   obtain⟨k,rfl⟩:=hz
   generalize Nat.gcd x.natAbs d.natAbs=g at *
   rw[Int.natAbs_mul,Int.natAbs_natCast]
   have:k.natAbs<=g*k.natAbs:=Nat.le_mul_of_pos_left _ hgp
   split
   ·rw[Int.ediv_neg,Int.mul_ediv_cancel_left _ (by omega),Int.natAbs_neg];exact this
   ·rw[Int.mul_ediv_cancel_left _ (by omega)];exact this
  ·exact .inr hz
 constructor
 ·rw[p1]
  rcases key x with h|h
  ·exact h
  ·exact absurd (Int.ofNat_dvd_left.2 (Nat.gcd_dvd_left _ _)) h
 ·have:(Rat.divInt x d).den=((Rat.divInt x d).den:Int).natAbs:=rfl
  rw[this,p2]
  rcases key d with h|h
  ·exact h
  ·exact absurd (Int.ofNat_dvd_left.2 (Nat.gcd_dvd_right _ _)) h
theorem lm{x d:Int}(hx:In x)(hd:In d)(h0:d≠0):yH (Rat.divInt x d):=by
 obtain⟨h1,h2⟩:=ji x h0
 exact⟨Nat.lt_of_le_of_lt h1 hx,Nat.lt_of_le_of_lt (by rw[Int.natAbs_natCast];exact h2) hd⟩
theorem gq(q:Rat):(q.den:Int)≠0:=by have:=q.den_pos;omega
def fitA(x y:Rat):Prop:=x.num.natAbs*y.den+y.num.natAbs*x.den<eD/\x.den*y.den<eD
def fitM(x y:Rat):Prop:=x.num.natAbs*y.num.natAbs<eD/\x.den*y.den<eD
theorem GB(n:Nat){x y:Rat}(hx:yH x)(hy:yH y)(hf:fitA x y):cA (n+6) 40 [bR x,bR y]=some (bR (x+y)):=by
 rw[Nw];unfold IC
 obtain⟨f1,f2⟩:=hf
 refine aa (GG n hx) (aa (z:=.bool false) rfl (aa (z:=false) rfl (aa (z:=false) ?_ (aa (z:=false) rfl ?_))))
 ·rw[if_neg (by decide)]
  exact aa (GG n hy) (aa (z:=.bool false) rfl rfl)
 rw[if_neg (by decide)]
 obtain⟨g,hg⟩:∃ g,g=Nat.gcd x.den y.den:=⟨_,rfl⟩
 have hxp:=x.den_pos
 have hyp:=y.den_pos
 have g1:g ∣ x.den:=hg ▸ Nat.gcd_dvd_left _ _
 have g2:g ∣ y.den:=hg ▸ Nat.gcd_dvd_right _ _
 have gp:0<g:=by rw[hg];exact Nat.gcd_pos_of_pos_left _ hxp
 obtain⟨a,ha⟩:=g1
 obtain⟨b,hb⟩:=g2
 have gi:In (g:Int):=gl.2 (Nat.lt_of_le_of_lt (Nat.le_of_dvd hxp ⟨a,ha⟩) (gl.1 hx.2))
 have g0:(g:Int)≠0:=by omega
 have ea:(x.den:Int)/(g:Int)=(a:Int):=by rw[ha,Int.natCast_mul];exact Int.mul_ediv_cancel_left _ g0
 have eb:(y.den:Int)/(g:Int)=(b:Int):=by rw[hb,Int.natCast_mul];exact Int.mul_ediv_cancel_left _ g0
 have ha':a<=x.den:=by rw[ha];exact Nat.le_mul_of_pos_left _ gp
 have hb':b<=y.den:=by rw[hb];exact Nat.le_mul_of_pos_left _ gp
 have a0:0<a:=by
            rcases Nat.eq_zero_or_pos a with h|h;· rw[h] at ha;omega
            ·exact h
 have hai:In (a:Int):=gl.2 (Nat.lt_of_le_of_lt ha' (gl.1 hx.2))
 have hbi:In (b:Int):=gl.2 (Nat.lt_of_le_of_lt hb' (gl.1 hy.2))
 have m1:x.num.natAbs*b<=x.num.natAbs*y.den:=Nat.mul_le_mul_left _ hb'
 have m2:y.num.natAbs*a<=y.num.natAbs*x.den:=Nat.mul_le_mul_left _ ha'
 have m3:a*y.den<=x.den*y.den:=Nat.mul_le_mul_right _ ha'
 have i1:In (x.num*b):=bC.2 (by rw[Int.natAbs_mul,Int.natAbs_natCast];omega)
 have i2:In (y.num*a):=bC.2 (by rw[Int.natAbs_mul,Int.natAbs_natCast];omega)
 have i3:In (x.num*b+y.num*a):=bC.2 (by
  have:=Int.natAbs_add_le (x.num*b) (y.num*a)
  rw[Int.natAbs_mul,Int.natAbs_mul,Int.natAbs_natCast,Int.natAbs_natCast] at this;omega)
 have i4:In ((a:Int)*y.den):=bC.2 (by rw[<-Int.natCast_mul,Int.natAbs_natCast];omega)
 have h1:=FS (n+1) hx.2 hy.2
 rw[Int.natAbs_natCast,Int.natAbs_natCast,<-hg] at h1
 have h2:=EN (n+1) hx.2 gi g0 ⟨a,by rw[ha,Int.natCast_mul]⟩
 have h3:=EN (n+1) hy.2 gi g0 ⟨b,by rw[hb,Int.natCast_mul]⟩
 rw[ea] at h2
 rw[eb] at h3
 have h4:=zD (n+1) hx.1 hbi
 have h5:=zD (n+1) hy.1 hai
 rw[er i1] at h4
 rw[er i2] at h5
 have h6:=GQ (n+1) i1 i2
 rw[er i3] at h6
 have h7:=zD (n+1) hai hy.2
 rw[er i4] at h7
 refine aa (z:=ah (x.den:Int)) rfl (aa (z:=ah (y.den:Int)) rfl (aa (h1) ?_))
 refine aa (z:=ah (x.den:Int)) rfl (aa (h2) (aa (z:=ah (y.den:Int)) rfl (aa (h3) (aa (z:=ah x.num) rfl (aa (h4) (aa (z:=ah y.num) rfl (aa (h5) (aa (h6) (aa (z:=ah (y.den:Int)) rfl (aa (h7) ?_))))))))))
 have hne:(a:Int)*y.den≠0:=by
  have:0<a*y.den:=Nat.mul_pos a0 hyp
  rw[<-Int.natCast_mul];omega
 refine aa (DL n i3 i4 hne) ?_
 have e:Rat.divInt (x.num*b+y.num*a) ((a:Int)*y.den)=x+y:=by
  conv=>rhs;rw[<-Rat.num_divInt_den x,<-Rat.num_divInt_den y]
  rw[Rat.divInt_add_divInt _ _ (gq x) (gq y),Rat.divInt_eq_divInt_iff hne (by have:=gq x;have:=gq y;exact Int.mul_ne_zero ‹_› ‹_›)]
  have k1:(x.den:Int)=g*a:=by rw[ha,Int.natCast_mul]
  have k2:(y.den:Int)=g*b:=by rw[hb,Int.natCast_mul]
  rw[k1,k2]
  grind
 rw[e]
theorem HU(n:Nat){x y:Rat}(hx:yH x)(hy:yH y)(hf:fitM x y):cA (n+6) 38 [bR x,bR y]=some (bR (x*y)):=by
 rw[Qf];unfold Iq
 obtain⟨f1,f2⟩:=hf
 refine aa (GG n hx) (aa (z:=.bool false) rfl (aa (z:=false) rfl (aa (z:=false) ?_ (aa (z:=false) rfl ?_))))
 ·rw[if_neg (by decide)]
  exact aa (GG n hy) (aa (z:=.bool false) rfl rfl)
 rw[if_neg (by decide)]
 obtain⟨p1,p2⟩:=ji x.num (gq y)
 obtain⟨q1,q2⟩:=ji y.num (gq x)
 have r1:=lm hx.1 hy.2 (gq y)
 have r2:=lm hy.1 hx.2 (gq x)
 have e:Rat.divInt x.num y.den*Rat.divInt y.num x.den=x*y:=by
  conv=>rhs;rw[<-Rat.num_divInt_den x,<-Rat.num_divInt_den y]
  rw[Rat.divInt_mul_divInt,Rat.divInt_mul_divInt,Int.mul_comm (y.den:Int)]
 refine aa (z:=ah x.num) rfl (aa (z:=ah (y.den:Int)) rfl (aa (DL n hx.1 hy.2 (gq y)) (aa (z:=ah y.num) rfl (aa (z:=ah (x.den:Int)) rfl (aa (DL n hy.1 hx.2 (gq x)) ?_)))))
 rw[Int.natAbs_natCast] at p2 q2
 generalize Rat.divInt x.num y.den=P at *
 generalize Rat.divInt y.num x.den=Q at *
 have i1:In (P.num*Q.num):=bC.2 (by rw[Int.natAbs_mul];exact Nat.lt_of_le_of_lt (Nat.mul_le_mul p1 q1) f1)
 have i2:In ((P.den:Int)*Q.den):=bC.2 (by
  rw[<-Int.natCast_mul,Int.natAbs_natCast];exact Nat.lt_of_le_of_lt (Nat.mul_le_mul p2 q2) (by rw[Nat.mul_comm];exact f2))
 have h1:=zD (n+1) r1.1 r2.1
 rw[er i1] at h1
 have h2:=zD (n+1) r1.2 r2.2
 rw[er i2] at h2
 refine aa (z:=ah P.num) rfl (aa (z:=ah Q.num) rfl (aa (h1) (aa (z:=ah (P.den:Int)) rfl (aa (z:=ah (Q.den:Int)) rfl (aa (h2) ?_)))))
 refine aa (DL n i1 i2 (Int.mul_ne_zero (gq P) (gq Q))) ?_
 rw[<-Rat.divInt_mul_divInt,Rat.num_divInt_den,Rat.num_divInt_den,e]
theorem Ph(n:Nat){x y:Rat}(hx:yH x)(hy:yH y)(hy0:y.num≠0)(h1:x.num.natAbs*y.den<eD)(h2:x.den*y.num.natAbs<eD):cA (n+7) 65 [bR x,bR y]=some (bR (x/y)):=by
 rw[O4];unfold H1
 refine aa (GG (n+1) hy) (aa (z:=.bool false) rfl (aa (z:=false) rfl ?_))
 rw[if_neg (by decide)]
 obtain⟨p1,p2⟩:=ji y.den hy0
 rw[Int.natAbs_natCast] at p1
 have e:Rat.divInt y.den y.num=y⁻¹:=by
  conv=>rhs;rw[<-Rat.num_divInt_den y]
  rw[Rat.inv_divInt]
 have r1:=lm hy.2 hy.1 hy0
 refine aa (z:=ah (y.den:Int)) rfl (aa (z:=ah y.num) rfl (aa (DL (n+1) hy.2 hy.1 hy0) ?_))
 rw[e] at p1 p2 r1 ⊢
 refine aa (HU n hx r1 ⟨Nat.lt_of_le_of_lt (Nat.mul_le_mul_left _ p1) h1,Nat.lt_of_le_of_lt (Nat.mul_le_mul_left _ p2) h2⟩) ?_
 rw[Rat.div_def]
theorem Oo(n:Nat){x:Rat}(hx:yH x):cA (n+6) 70 [bR x]=some (bR (-x)):=by
 rw[Pk];unfold H4
 refine aa (GG n hx) (aa (z:=.bool false) rfl (aa (z:=false) rfl ?_))
 rw[if_neg (by decide)]
 refine aa (z:=ah x.num) rfl (aa (MT (n+2) hx.1) (aa (z:=ah (x.den:Int)) rfl ?_))
 rfl
structure RV where
 x:Rat
 y:Rat
 z:Rat
def kX(v:RV):D:=.st [bR v.x,bR v.y,bR v.z]
def F3(v:RV):Prop:=yH v.x/\yH v.y/\yH v.z
def RV.of(v:V):RV:=⟨v.x,v.y,v.z⟩
def RV.add(u v:RV):RV:=⟨u.x+v.x,u.y+v.y,u.z+v.z⟩
def RV.mul(k:Rat)(v:RV):RV:=⟨k*v.x,k*v.y,k*v.z⟩
theorem Nl(n:Nat){v:V}(h1:inR v.x)(h2:inR v.y)(h3:inR v.z):cA (n+7) 31 [ae v]=some (kX (RV.of v)):=by
 rw[QB];unfold Ij
 exact aa (z:=I v.x) rfl (aa (J7 n h1) (aa (z:=I v.y) rfl (aa (J7 n h2) (aa (z:=I v.z) rfl (aa (J7 n h3) rfl)))))
theorem OJ(n:Nat){u v:RV}(hu:F3 u)(hv:F3 v)(f1:fitA u.x v.x)(f2:fitA u.y v.y)(f3:fitA u.z v.z):cA (n+7) 36 [kX u,kX v]=some (kX (u.add v)):=by
 rw[OM];unfold IA
 exact aa (z:=bR u.x) rfl (aa (z:=bR v.x) rfl (aa (GB n hu.1 hv.1 f1) (aa (z:=bR u.y) rfl (aa (z:=bR v.y) rfl (aa (GB n hu.2.1 hv.2.1 f2) (aa (z:=bR u.z) rfl (aa (z:=bR v.z) rfl (aa (GB n hu.2.2 hv.2.2 f3) rfl))))))))
theorem OT(n:Nat){k:Rat}{v:RV}(hk:yH k)(hv:F3 v)(f1:fitM k v.x)(f2:fitM k v.y)(f3:fitM k v.z):cA (n+7) 66 [bR k,kX v]=some (kX (RV.mul k v)):=by
 rw[NE];unfold IS
 exact aa (z:=bR v.x) rfl (aa (HU n hk hv.1 f1) (aa (z:=bR v.y) rfl (aa (HU n hk hv.2.1 f2) (aa (z:=bR v.z) rfl (aa (HU n hk hv.2.2 f3) rfl)))))
end Go.Proofs.YtjjjkojfijpeeaaGreat.Sy
end
section
namespace Go.Proofs.YtjjjkojfijpeeaaGreat.Geo
open V
section
variable{P:Nat->V}{N:Nat}
theorem EG(hl:∀ i j,i<j->j<N->aG (P i) (P j)){n:V}{d:Int}(h:IsF P N n d){a b:Nat}(ha:a∈be P N n d)(h1:Side n P (be P N n d) a b)(h2:Side n P (be P N n d) b a):False:=by
 obtain⟨c,hc,ht⟩:=h.left hl ha h1
 have:=(h2.all c hc).1
 have e:T n (wy P b a) (wy P b c)=- T n (wy P a b) (wy P a c):=by simp only[T,dot,cross,wy,sub];grind
 omega
end
end Go.Proofs.YtjjjkojfijpeeaaGreat.Geo
end
section
namespace Go.Proofs.YtjjjkojfijpeeaaGreat.Geo
open V
section
variable{P:Nat->V}{N:Nat}
theorem wC(k:Int)(v w:V):dot (smul k v) w=k*dot v w:=by simp only[dot,smul];grind
def Hk(P:Nat->V)(N:Nat)(k:Nat):Prop:=∃ n d,IsF P N n d/\k∈be P N n d/\dV P (be P N n d) k
end
end Go.Proofs.YtjjjkojfijpeeaaGreat.Geo
end
section
namespace Go.Proofs.YtjjjkojfijpeeaaGreat.Geo
open V
section
variable{P P':Nat->V}{N N':Nat}
variable(hl:∀ i j,i<j->j<N->aG (P i) (P j))(hl':∀ i j,i<j->j<N'->aG (P' i) (P' j))
 (hsub:∀ k,k<N'->∃ j,j<N/\P j=P' k) (hsup:∀ k,Hk P N k->∃ j,j<N'/\P' j=P k)
include hl hl' hsub hsup
end
section
variable{P P':Nat->V}{N N':Nat}(hl:∀ i j,i<j->j<N->aG (P i) (P j))(hl':∀ i j,i<j->j<N'->aG (P' i) (P' j))
 (hsub:∀ k,k<N'->∃ j,j<N/\P j=P' k/\Hk P N j) (hsup:∀ k,Hk P N k->∃ j,j<N'/\P' j=P k)
include hl hl' hsub hsup
end
end Go.Proofs.YtjjjkojfijpeeaaGreat.Geo
end
section
namespace Go.Proofs.YtjjjkojfijpeeaaGreat.Geo
open V
section
variable{P:Nat->V}{N:Nat}
def dd(h u w:V):V:=cross (cross u w) h
end
end Go.Proofs.YtjjjkojfijpeeaaGreat.Geo
end
section
namespace Go.Proofs.YtjjjkojfijpeeaaGreat.Geo
open V
section
variable{P:Nat->V}{N:Nat}
def qn(l:List Nat):List (Nat×Nat):=(List.range l.length).map fun k=>(l.getD k 0,l.getD ((k+1)%l.length) 0)
theorem n9{l:List Nat}{a b:Nat}:(a,b)∈qn l↔∃ i,i<l.length/\l.getD i 0=a/\l.getD ((i+1)%l.length) 0=b:=by
 simp only[qn,List.mem_map,List.mem_range,Prod.mk.injEq]
theorem wE{l:List Nat}(h:l.Nodup):(qn l).Nodup:=by
 unfold qn List.Nodup
 rw[List.pairwise_map]
 refine List.Pairwise.imp_of_mem ?_ (List.nodup_range (n:=l.length))
 intro i j hi hj hne e
 have hi:=List.mem_range.1 hi;have hj:=List.mem_range.1 hj
 have e1:=congrArg Prod.fst e
 simp only[List.getD,List.getElem?_eq_getElem hi,List.getElem?_eq_getElem hj,Option.getD_some] at e1
 rcases Nat.lt_or_gt_of_ne hne with c|c
 ·exact List.pairwise_iff_getElem.1 h i j hi hj c e1
 ·exact List.pairwise_iff_getElem.1 h j i hj hi c e1.symm
def jg(L:List (V×Int))(poly:V×Int->List Nat):List (Nat×Nat):=L.flatMap fun q=>qn (poly q)
section
variable(hl:∀ i j,i<j->j<N->aG (P i) (P j)){L:List (V×Int)}(hL:Facets P N L){poly:V×Int->List Nat}(hp:∀ q∈L,bB P N q.1 q.2 (poly q))
include hl hL hp
theorem xY{q:V×Int}(hq:q∈L):(poly q).Nodup:=by
 obtain⟨l,p1,p2,_⟩:=((hL.mem q).1 hq).poly hl
 have:=bB.eq hl ((hL.mem q).1 hq) (hp q hq) p1
 rw[this];exact p2
theorem mD{a b:Nat}:(a,b)∈jg L poly↔∃ n d,IsF P N n d/\Hp P N n d a b:=by
 simp only[jg,List.mem_flatMap,n9]
 constructor
 ·rintro⟨q,hq,hi⟩
  exact⟨q.1,q.2,(hL.mem q).1 hq,(bB.dir hl ((hL.mem q).1 hq) (hp q hq)).1 hi⟩
 ·rintro⟨n,d,hF,hd⟩
  have hq:=(hL.mem (n,d)).2 hF
  exact⟨(n,d),hq,(bB.dir hl hF (hp _ hq)).2 hd⟩
theorem pz:(jg L poly).Nodup:=by
 unfold jg List.Nodup
 rw[List.pairwise_flatMap]
 refine⟨fun q hq=>wE (xY hl hL hp hq),?_⟩
 refine List.Pairwise.imp_of_mem ?_ hL.ord
 intro q q' hq hq' hlt x hx y hy e
 subst e
 obtain⟨a,b⟩:=x
 have F:=(hL.mem q).1 hq
 have F':=(hL.mem q').1 hq'
 obtain⟨d1,d2⟩:=(bB.dir hl F (hp q hq)).1 (n9.1 hx)
 obtain⟨d1',d2'⟩:=(bB.dir hl F' (hp q' hq')).1 (n9.1 hy)
 have:=Cr hl F F' d1 d1' d2 d2'
 rw[this] at hlt
 exact kE _ hlt
omit hp in
theorem zw{q:V×Int}(hq:q∈L){l:List Nat}(k:bB P N q.1 q.2 l):(∀ x∈be P N q.1 q.2,l.getD 0 0<=x)/\l.getD 0 0∈be P N q.1 q.2/\dV P (be P N q.1 q.2) (l.getD 0 0)/\(∃ x∈be P N q.1 q.2,x≠l.getD 0 0):=by
 obtain⟨a,h1,h2⟩:=k
 obtain⟨b,g1,g2,g3,g4,g5⟩:=((hL.mem q).1 hq).head hl
 rw[h1] at g1;cases g1
 obtain⟨l',e⟩:=h2.head
 have e0:l.getD 0 0=a:=by rw[e];rfl
 rw[e0]
 exact⟨g4,g2,g3,g5 a g2⟩
end
end
end Go.Proofs.YtjjjkojfijpeeaaGreat.Geo
end
section
namespace Go.Proofs.YtjjjkojfijpeeaaGreat.Geo
open V
abbrev T3:=V×V×V
def oS(P:Nat->V)(p:List Nat)(m:Nat):List T3:=(List.range m).map fun i=>(P (p.getD 0 0),P (p.getD (i+1) 0),P (p.getD (i+2) 0))
def ar(g:T3->Int):List T3->Int
 | []=>0
 | t::T=>g t+ar g T
theorem og(g:T3->Int)(S T:List T3):ar g (S++T)=ar g S+ar g T:=by
 induction S with
 | nil=>simp[ar]
 | cons t S ih=>simp only[List.cons_append,ar,ih];omega
theorem jS(g:T3->Int)(S:List T3)(t:T3):ar g (S++[t])=ar g S+g t:=by
 rw[og];simp[ar]
theorem sn(P:Nat->V)(p:List Nat)(m:Nat):oS P p (m+1)=oS P p m++[(P (p.getD 0 0),P (p.getD (m+1) 0),P (p.getD (m+2) 0))]:=by
 unfold oS;rw[List.range_succ,List.map_append];rfl
def jP(t:T3):Int:=V.dot (V.cross t.1 t.2.1) t.2.2
def jL(P:Nat->V)(L:List (V×Int))(poly:V×Int->List Nat):List T3:=L.flatMap fun q=>oS P (poly q) ((poly q).length-2)
theorem B9(f g:T3->Int)(T:List T3):ar (fun t=>f t+g t) T=ar f T+ar g T:=by
 induction T with
 | nil=>simp[ar]
 | cons t T ih=>simp only[ar,ih];omega
theorem xd{f g:T3->Int}{T:List T3}(h:∀ t∈T,f t=g t):ar f T=ar g T:=by
 induction T with
 | nil=>rfl
 | cons t T ih=>simp only[ar,h t List.mem_cons_self,ih fun x hx=>h x (List.mem_cons_of_mem _ hx)]
theorem DF{f:T3->Int}{T:List T3}(h:∀ t∈T,0<=f t):0<=ar f T:=by
 induction T with
 | nil=>simp[ar]
 | cons t T ih=>
  have:=h t List.mem_cons_self
  have:=ih fun x hx=>h x (List.mem_cons_of_mem _ hx)
  simp only[ar];omega
theorem Cj{f:T3->Int}{T:List T3}(h:∀ t∈T,0<=f t){t:T3}(ht:t∈T)(hp:0<f t):0<ar f T:=by
 induction T with
 | nil=>cases ht
 | cons a T ih=>
  have h1:=h a List.mem_cons_self
  have h2:=fun x hx=>h x (List.mem_cons_of_mem _ hx)
  simp only[ar]
  rcases List.mem_cons.1 ht with rfl|ht
  ·have:=DF h2;omega
  ·have:=ih h2 ht;omega
theorem vh(f:T3->Int)(h:T3->T3)(T:List T3):ar f (T.map h)=ar (fun t=>f (h t)) T:=by
 induction T with
 | nil=>rfl
 | cons t T ih=>simp only[List.map_cons,ar,ih]
def fX(g:Nat×Nat->Int):List (Nat×Nat)->Int
 | []=>0
 | e::S=>g e+fX g S
theorem jT(g:Nat×Nat->Int)(S S':List (Nat×Nat)):fX g (S++S')=fX g S+fX g S':=by
 induction S with
 | nil=>simp[fX]
 | cons t S ih=>simp only[List.cons_append,fX,ih];omega
theorem zO(g:Nat×Nat->Int){S S':List (Nat×Nat)}(h:S.Perm S'):fX g S=fX g S':=by
 induction h with
 | nil=>rfl
 | cons x _ ih=>simp only[fX,ih]
 | swap x y l=>simp only[fX];omega
 | trans _ _ h1 h2=>exact h1.trans h2
theorem Cl(g:Nat×Nat->Int)(h:Nat×Nat->Nat×Nat)(S:List (Nat×Nat)):fX g (S.map h)=fX (fun e=>g (h e)) S:=by
 induction S with
 | nil=>rfl
 | cons t T ih=>simp only[List.map_cons,fX,ih]
theorem AS(g:Nat×Nat->Int)(S:List (Nat×Nat)):fX (fun e=>- g e) S=- fX g S:=by
 induction S with
 | nil=>rfl
 | cons t T ih=>simp only[fX,ih];omega
theorem xv{f g:Nat×Nat->Int}{S:List (Nat×Nat)}(h:∀ e∈S,f e=g e):fX f S=fX g S:=by
 induction S with
 | nil=>rfl
 | cons t T ih=>simp only[fX,h t List.mem_cons_self,ih fun x hx=>h x (List.mem_cons_of_mem _ hx)]
def GI(e:Nat×Nat):Nat×Nat:=(e.2,e.1)
theorem wq{g:Nat×Nat->Int}(hg:∀ a b,g (b,a)=- g (a,b)){S:List (Nat×Nat)}(hn:S.Nodup)(hs:∀ a b,(a,b)∈S->(b,a)∈S):fX g S=0:=by
 have nd:(S.map GI).Nodup:=by
  unfold List.Nodup
  rw[List.pairwise_map]
  refine List.Pairwise.imp ?_ hn
  intro a b h e
  obtain⟨a1,a2⟩:=a;obtain⟨b1,b2⟩:=b
  simp only[GI,Prod.mk.injEq] at e
  exact h (by rw[e.1,e.2])
 have hp:(S.map GI).Perm S:=(List.perm_ext_iff_of_nodup nd hn).2 fun e=>by
  obtain⟨a,b⟩:=e
  rw[List.mem_map]
  constructor
  ·rintro⟨⟨c,d⟩,h1,h2⟩
   simp only[GI,Prod.mk.injEq] at h2
   rw[<-h2.1,<-h2.2];exact hs _ _ h1
  ·exact fun h=>⟨(b,a),hs _ _ h,rfl⟩
 have e1:=zO g hp
 rw[Cl,xv (f:=fun e=>g (GI e)) (g:=fun e=>- g e) (fun e _=>hg e.1 e.2),AS] at e1
 omega
def FO(g:V->V->Int)(t:T3):Int:=g t.1 t.2.1+g t.2.1 t.2.2+g t.2.2 t.1
theorem CA{g:V->V->Int}(hg:∀ u v,g v u=- g u v)(P:Nat->V)(p:List Nat)(m:Nat) :
  ar (FO g) (oS P p m)=fX (fun e=>g (P e.1) (P e.2)) ((List.range (m+1)).map fun i=>(p.getD i 0,p.getD (i+1) 0))+g (P (p.getD (m+1) 0)) (P (p.getD 0 0)):=by
 induction m with
 | zero=>simp[oS,ar,fX];rw[hg (P (p[0]?.getD 0)) (P (p[1]?.getD 0))];omega
 | succ m ih=>
  rw[sn,jS,ih,List.range_succ (n:=m+1),List.map_append,jT]
  simp only[List.map_cons,List.map_nil,fX,FO]
  rw[hg (P (p.getD 0 0)) (P (p.getD (m+1) 0)),show m+1+1=m+2 from rfl]
  omega
theorem Al{g:V->V->Int}(hg:∀ u v,g v u=- g u v)(P:Nat->V){p:List Nat}(hp:2<=p.length) :
  ar (FO g) (oS P p (p.length-2))=fX (fun e=>g (P e.1) (P e.2)) (qn p):=by
 rw[CA hg]
 unfold qn
 obtain⟨n,hn⟩:∃ n,p.length=n+2:=⟨p.length-2,by omega⟩
 rw[hn,show n+2-2+1=n+1 by omega,List.range_succ (n:=n+1),List.map_append,jT]
 have e:((List.range (n+1)).map fun i=>(p.getD i 0,p.getD (i+1) 0))=(List.range (n+1)).map fun k=>(p.getD k 0,p.getD ((k+1)%(n+2)) 0):=List.map_congr_left fun i hi=>by
  have:=List.mem_range.1 hi
  rw[Nat.mod_eq_of_lt (by omega)]
 rw[e]
 simp only[List.map_cons,List.map_nil,fX]
 rw[show(n+1+1)%(n+2)=0 from Nat.mod_self _]
 omega
section
variable{P:Nat->V}{N:Nat}(hl:∀ i j,i<j->j<N->aG (P i) (P j)){L:List (V×Int)}(hL:Facets P N L){poly:V×Int->List Nat}(hp:∀ q∈L,bB P N q.1 q.2 (poly q))
include hl hL hp
theorem jF{q:V×Int}(hq:q∈L):3<=(poly q).length:=by
 have hF:=(hL.mem q).1 hq
 have k:=hp q hq
 obtain⟨h1,h2,_⟩:=zw hl hL hq k
 have hpos:0<(poly q).length:=by
  obtain⟨a,_,h⟩:=k
  obtain⟨l',e⟩:=h.head
  rw[e];simp
 have n0:=k.next hpos
 rcases Nat.lt_or_ge 1 (poly q).length with g1|g1
 ·have n1:=k.next g1
  rw[Nat.mod_eq_of_lt g1] at n0
  rcases Nat.lt_or_ge 2 (poly q).length with g2|g2
  ·exact g2
  ·have e:(poly q).length=2:=by omega
   rw[e] at n1
   exact(EG hl hF h2 n0 n1).elim
 ·have e:(poly q).length=1:=by omega
  rw[e] at n0
  exact(n0.ne rfl).elim
theorem xb{g:V->V->Int}(hg:∀ u v,g v u=- g u v):ar (FO g) (jL P L poly)=0:=by
 have key:∀ M:List (V×Int),(∀ q∈M,q∈L)->ar (FO g) (jL P M poly)=fX (fun e=>g (P e.1) (P e.2)) (jg M poly):=by
  intro M
  induction M with
  | nil=>intro _;rfl
  | cons q M ih=>
   intro h
   have hq:=h q List.mem_cons_self
   unfold jL jg at ih ⊢
   rw[List.flatMap_cons,List.flatMap_cons,og,jT,ih fun x hx=>h x (List.mem_cons_of_mem _ hx),Al hg P (by have:=jF hl hL hp hq;omega)]
 rw[key L fun _ h=>h]
 refine wq (fun a b=>hg _ _) (pz hl hL hp) fun a b h=>?_
 obtain⟨n,d,hF,hd⟩:=(mD hl hL hp).1 h
 obtain⟨n',d',h1,h2,h3,h4⟩:=xH hl hF hd.1 hd.2
 exact(mD hl hL hp).2 ⟨n',d',h1,h3,h4⟩
end
end Go.Proofs.YtjjjkojfijpeeaaGreat.Geo
end
section
namespace Go.Proofs.YtjjjkojfijpeeaaGreat.Geo
open V
def cmp(i:Nat)(v:V):Int:=if i=0 then v.x else if i=1 then v.y else v.z
def sm(i:Nat)(t:T3):Int:=cmp i t.1+cmp i t.2.1+cmp i t.2.2
def iP(i:Nat)(t:T3):Int:=jP t*sm i t
def A0(i k:Nat)(t:T3):Int:=sm i t*sm k t+cmp i t.1*cmp k t.1+cmp i t.2.1*cmp k t.2.1+cmp i t.2.2*cmp k t.2.2
def dD(i k:Nat)(t:T3):Int:=jP t*A0 i k t
def shift(d:V)(t:T3):T3:=(V.add t.1 d,V.add t.2.1 d,V.add t.2.2 d)
def gd(d u v:V):Int:=V.dot d (V.cross u v)
theorem DT(d u v:V):gd d v u=- gd d u v:=by simp only[gd,dot,cross];grind
theorem As(d:V)(t:T3):jP (shift d t)=jP t+FO (gd d) t:=by
 obtain⟨a,b,c⟩:=t
 simp only[jP,shift,FO,gd,dot,cross,V.add]
 grind
theorem oQ(P:Nat->V)(d:V)(L:List (V×Int))(poly:V×Int->List Nat):jL (fun k=>V.add (P k) d) L poly=(jL P L poly).map (shift d):=by
 unfold jL
 rw[List.map_flatMap]
 congr 1
 funext q
 unfold oS
 rw[List.map_map];rfl
section
variable{P:Nat->V}{N:Nat}(hl:∀ i j,i<j->j<N->aG (P i) (P j)){L:List (V×Int)}(hL:Facets P N L){poly:V×Int->List Nat}(hp:∀ q∈L,bB P N q.1 q.2 (poly q))
include hl hL hp
theorem zT(d:V):ar jP (jL (fun k=>V.add (P k) d) L poly)=ar jP (jL P L poly):=by
 rw[oQ,vh,xd (fun t _=>As d t),B9 jP,xb hl hL hp (fun u v=>DT d u v)]
 omega
theorem yN{q:V×Int}(hq:q∈L){t:T3}(ht:t∈oS P (poly q) ((poly q).length-2))(p:V) :
  ∃ a b:Int,0<a/\0<b/\a*jP (shift (V.neg p) t)=b*(q.2-V.dot q.1 p):=by
 have hF:=(hL.mem q).1 hq
 have k:=hp q hq
 obtain⟨i,hi,rfl⟩:=List.mem_map.1 ht
 have hi:=List.mem_range.1 hi
 have h3:=jF hl hL hp hq
 obtain⟨l',p1,p2,p3⟩:=hF.poly hl
 have e:=bB.eq hl hF k p1
 rw[<-e] at p2 p3
 have mem:∀ j,j<(poly q).length->(poly q).getD j 0∈be P N q.1 q.2:=fun j hj=>by
  have:(poly q).getD j 0∈poly q:=by
   rw[List.getD_eq_getElem?_getD,List.getElem?_eq_getElem hj];exact List.getElem_mem hj
  exact((p3 _).1 this).1
 have mext:∀ j,j<(poly q).length->dV P (be P N q.1 q.2) ((poly q).getD j 0):=fun j hj=>by
  have:(poly q).getD j 0∈poly q:=by
   rw[List.getD_eq_getElem?_getD,List.getElem?_eq_getElem hj];exact List.getElem_mem hj
  exact((p3 _).1 this).2
 have hne:∀ j,j<(poly q).length->0<j->(poly q).getD j 0≠(poly q).getD 0 0:=fun j hj h0 e=>by
  rw[List.getD_eq_getElem?_getD,List.getD_eq_getElem?_getD,List.getElem?_eq_getElem hj,List.getElem?_eq_getElem (by omega:0<(poly q).length)] at e
  exact List.pairwise_iff_getElem.1 p2 0 j (by omega) hj h0 e.symm
 have hs:=k.next (i:=i+1) (by omega)
 rw[Nat.mod_eq_of_lt (by omega),show i+1+1=i+2 from rfl] at hs
 have ma:=mem 0 (by omega);have mb:=mem (i+1) (by omega);have mc:=mem (i+2) (by omega)
 have hT:=Side.after (hF.flat hl) ma mb (mext 0 (by omega)) (mext (i+1) (by omega)) (hne _ (by omega) (by omega)) hs (hne _ (by omega) (by omega))
 have da:=(aK.1 ma).2;have db:=(aK.1 mb).2;have dc:=(aK.1 mc).2
 generalize (poly q).getD 0 0=a at *
 generalize (poly q).getD (i+1) 0=b at *
 generalize (poly q).getD (i+2) 0=c at *
 have u0:dot q.1 (wy P a b)=0:=by rw[dm,da,db];omega
 have v0:dot q.1 (wy P a c)=0:=by rw[dm,da,dc];omega
 refine⟨dot q.1 q.1,T q.1 (wy P a b) (wy P a c),bi hF.nz.1,hT,?_⟩
 have cp:=gD u0 v0
 have key:smul (dot q.1 q.1) (cross (wy P a b) (wy P a c))=smul (T q.1 (wy P a b) (wy P a c)) q.1:=by
  have:=CN cp q.1
  unfold T
  exact this
 have e1:jP (shift (V.neg p) (P a,P b,P c))=dot (cross (wy P a b) (wy P a c)) (V.sub (P a) p):=by
  simp only[jP,shift,wy,dot,cross,V.add,V.neg,V.sub];grind
 rw[e1,<-wC,key,wC,<-da]
 congr 1
 simp only[dot,V.sub];grind
theorem Et{q0:V×Int}(hq0:q0∈L):0<ar jP (jL P L poly):=by
 have hF:=(hL.mem q0).1 hq0
 obtain⟨_,z,hz,hlt⟩:=hF.supp
 rw[<-zT hl hL hp (V.neg (P z)),oQ,vh]
 have hnn:∀ t∈jL P L poly,0<=jP (shift (V.neg (P z)) t):=fun t ht=>by
  obtain⟨q,hq,ht⟩:=List.mem_flatMap.1 ht
  obtain⟨a,b,ha,hb,e⟩:=yN hl hL hp hq ht (P z)
  have:=((hL.mem q).1 hq).supp.1 z hz
  exact nI ha (by rw[e];exact Int.mul_nonneg (Int.le_of_lt hb) (by omega))
 have h3:=jF hl hL hp hq0
 have ht:(P ((poly q0).getD 0 0),P ((poly q0).getD 1 0),P ((poly q0).getD 2 0))∈oS P (poly q0) ((poly q0).length-2):=List.mem_map.2 ⟨0,List.mem_range.2 (by omega),rfl⟩
 refine Cj hnn (List.mem_flatMap.2 ⟨q0,hq0,ht⟩) ?_
 obtain⟨a,b,ha,hb,e⟩:=yN hl hL hp hq0 ht (P z)
 exact lS ha (by rw[e];exact Int.mul_pos hb (by omega))
end
end Go.Proofs.YtjjjkojfijpeeaaGreat.Geo
end
section
set_option linter.unusedVariables false
namespace Go.Proofs.YtjjjkojfijpeeaaGreat.Sy
open Go Go.Proofs Go.Proofs.YtjjjkojfijpeeaaGreat.Geo
abbrev vC(l:List V)(p:List Nat)(m:Nat):List T3:=oS (pt l) p m
def dh(l:List V)(F:FL):List T3:=F.flatMap fun f=>vC l f.2 (f.2.length-2)
theorem Gj(l:List V)(L:List (V×Int))(poly:V×Int->List Nat):dh l (L.map fun q=>(q,poly q))=jL (pt l) L poly:=by
 unfold dh jL;rw[List.flatMap_map]
theorem mn(l:List V)(p:List Nat)(m:Nat):vC l p (m+1)=vC l p m++[(pt l (p.getD 0 0),pt l (p.getD (m+1) 0),pt l (p.getD (m+2) 0))]:=sn ..
theorem nb(l:List V)(p:List Nat):vC l p 0=[]:=rfl
theorem C1(l:List V)(p:List Nat)(m:Nat):(vC l p m).length=m:=by simp[vC,oS]
theorem jb(l:List V){F:FL}{i:Nat}(h:i<F.length):dh l (F.take (i+1))=dh l (F.take i)++vC l F[i].2 (F[i].2.length-2):=by
 unfold dh;rw[List.take_succ_eq_append_getElem h,List.flatMap_append];simp
structure FIn(l:List V)(F:FL):Prop where
 len:F.length<=2000000
 ok:∀ f∈F,3<=f.2.length/\f.2.length<=100/\∀ j,j<f.2.length->f.2.getD j 0<l.length
def tc(T:List T3)(N:Nat):Prop:=T.length<=N/\∀ t∈T,bd MV t.1/\bd MV t.2.1/\bd MV t.2.2
theorem gN{l:List V}(hl:∀ x∈l,bd MV x){k:Nat}(h:k<l.length):bd MV (pt l k):=by
 unfold pt
 rw[List.getD_eq_getElem?_getD,List.getElem?_eq_getElem h]
 exact hl _ (List.getElem_mem h)
theorem tc.append{S T:List T3}{M N:Nat}(h:tc S M)(k:tc T N):tc (S++T) (M+N):=
 ⟨by rw[List.length_append];have:=h.1;have:=k.1;omega,fun t ht=>(List.mem_append.1 ht).elim (h.2 t) (k.2 t)⟩
theorem tc.mono{T:List T3}{M N:Nat}(h:tc T M)(k:M<=N):tc T N:=⟨Nat.le_trans h.1 k,h.2⟩
theorem BO{l:List V}(hl:∀ x∈l,bd MV x){p:List Nat}(hp:∀ j,j<p.length->p.getD j 0<l.length){m:Nat}(hm:m+2<=p.length\/m=0)(hm2:m<=100):tc (vC l p m) 100:=by
 refine⟨by rw[C1];exact hm2,fun t ht=>?_⟩
 obtain⟨i,hi,rfl⟩:=List.mem_map.1 ht
 have hi:=List.mem_range.1 hi
 exact⟨gN hl (hp _ (by omega)),gN hl (hp _ (by omega)),gN hl (hp _ (by omega))⟩
theorem yV{l:List V}(hl:∀ x∈l,bd MV x){F:FL}(h:FIn l F)(i:Nat):tc (dh l (F.take i)) (100*i):=by
 induction i with
 | zero=>exact⟨by simp[dh],fun t ht=>by simp[dh] at ht⟩
 | succ i ih=>
  by_cases hi:i<F.length
  ·rw[jb l hi]
   obtain⟨k1,k2,k3⟩:=h.ok F[i] (List.getElem_mem hi)
   exact(ih.append (BO hl k3 (by omega) (by omega))).mono (by omega)
  ·rw[List.take_of_length_le (by omega)]
   rw[List.take_of_length_le (by omega)] at ih
   exact ih.mono (by omega)
theorem pm{l:List V}(hl:∀ x∈l,bd MV x){F:FL}(h:FIn l F){i m:Nat}(hi:i<F.length)(hm:m<=F[i].2.length-2):tc (dh l (F.take i)++vC l F[i].2 m) 268435456:=by
 obtain⟨k1,k2,k3⟩:=h.ok F[i] (List.getElem_mem hi)
 have:=h.len
 exact((yV hl h i).append (BO hl k3 (by omega) (by omega))).mono (by omega)
theorem xS{l:List V}(hl:∀ x∈l,bd MV x){F:FL}(h:FIn l F):tc (dh l F) 268435456:=by
 have:=yV hl h F.length
 rw[List.take_length] at this
 exact this.mono (by have:=h.len;omega)
theorem tW{g:T3->Int}{T:List T3}{N B:Nat}(h:tc T N)(hg:∀ t,bd MV t.1/\bd MV t.2.1/\bd MV t.2.2->(g t).natAbs<=B):(ar g T).natAbs<=N*B:=by
 have key:∀ T:List T3,(∀ t∈T,bd MV t.1/\bd MV t.2.1/\bd MV t.2.2)->(ar g T).natAbs<=T.length*B:=by
  intro T
  induction T with
  | nil=>intro _;simp[ar]
  | cons t T ih=>
   intro h
   have h1:=ih fun x hx=>h x (List.mem_cons_of_mem _ hx)
   have h2:=hg t (h t List.mem_cons_self)
   have:=Int.natAbs_add_le (g t) (ar g T)
   rw[List.length_cons,Nat.add_mul,Nat.one_mul]
   simp only[ar];omega
 exact Nat.le_trans (key T h.2) (Nat.mul_le_mul_right _ h.1)
theorem jr{t:T3}(h:bd MV t.1/\bd MV t.2.1/\bd MV t.2.2):(jP t).natAbs<=2^57:=by
 have:=Bt (fo h.1 h.2.1) h.2.2
 unfold jP
 have e:(3:Int)*(2*(MV*MV)*MV)=108086391056891904:=rfl
 rw[e] at this
 have e2:(2:Nat)^57=144115188075855872:=rfl
 omega
theorem gm{x:Int}{k:Nat}(hk:k<=511)(h:x.natAbs<=2^k):In x:=by
 obtain⟨m,hm⟩:∃ m,m=32*16:=⟨_,rfl⟩
 exact bC.2 ((qR hm).2 (Nat.lt_of_le_of_lt h (Nat.pow_lt_pow_right (by decide) (by omega))))
theorem cg{a b:Nat}{i j k:Nat}(ha:a<=2^i)(hb:b<=2^j)(h:i+j<=k):a*b<=2^k:=
 Nat.le_trans (Nat.mul_le_mul ha hb) (by rw[<-Nat.pow_add];exact Nat.pow_le_pow_right (by decide) h)
theorem gJ{T:List T3}(h:tc T 268435456):(ar jP T).natAbs<=2^85:=
 Nat.le_trans (tW h fun t=>jr) (cg (i:=28) (j:=57) (by decide) (Nat.le_refl _) (by decide))
theorem dW{a b:Int}{k:Nat}(ha:a.natAbs<=2^k)(hb:b.natAbs<=2^k):(a+b).natAbs<=2^(k+1):=by
 have:=Int.natAbs_add_le a b
 rw[Nat.pow_succ];omega
theorem fk{a b:Int}{i j k:Nat}(ha:a.natAbs<=2^i)(hb:b.natAbs<=2^j)(h:i+j<=k):(a*b).natAbs<=2^k:=by
 rw[Int.natAbs_mul];exact cg ha hb h
theorem iK{a:Int}{i k:Nat}(ha:a.natAbs<=2^i)(h:i<=k):a.natAbs<=2^k:=Nat.le_trans ha (Nat.pow_le_pow_right (by decide) h)
theorem eH{v:V}(h:bd MV v)(i:Nat):(cmp i v).natAbs<=262144:=by
 have e:MV=262144:=rfl
 simp only[bd] at h
 unfold cmp
 split
 ·omega
 ·split<;>omega
theorem rL{t:T3}(h:bd MV t.1/\bd MV t.2.1/\bd MV t.2.2)(i:Nat):(sm i t).natAbs<=786432:=by
 have a:=eH h.1 i;have b:=eH h.2.1 i;have c:=eH h.2.2 i
 unfold sm;omega
theorem uE{t:T3}(h:bd MV t.1/\bd MV t.2.1/\bd MV t.2.2)(i k:Nat):(A0 i k t).natAbs<=1099511627776:=by
 have key:∀ {a b:Int} {m:Nat},a.natAbs<=m->b.natAbs<=m->(a*b).natAbs<=m*m:=fun ha hb=>by rw[Int.natAbs_mul];exact Nat.mul_le_mul ha hb
 have q:=key (rL h i) (rL h k)
 have a:=key (eH h.1 i) (eH h.1 k);have b:=key (eH h.2.1 i) (eH h.2.1 k);have c:=key (eH h.2.2 i) (eH h.2.2 k)
 unfold A0;omega
theorem xD(i:Nat){t:T3}(h:bd MV t.1/\bd MV t.2.1/\bd MV t.2.2):(iP i t).natAbs<=2^77:=
 fk (jr h) (j:=20) (Nat.le_trans (rL h i) (by decide)) (by decide)
theorem xE(i k:Nat){t:T3}(h:bd MV t.1/\bd MV t.2.1/\bd MV t.2.2):(dD i k t).natAbs<=2^97:=
 fk (jr h) (j:=40) (Nat.le_trans (uE h i k) (by decide)) (by decide)
theorem kJ(i:Nat){T:List T3}(h:tc T 268435456):(ar (iP i) T).natAbs<=2^105:=
 Nat.le_trans (tW h fun t=>xD i) (cg (i:=28) (j:=77) (by decide) (Nat.le_refl _) (by decide))
theorem fI(i k:Nat){T:List T3}(h:tc T 268435456):(ar (dD i k) T).natAbs<=2^125:=
 Nat.le_trans (tW h fun t=>xE i k) (cg (i:=28) (j:=97) (by decide) (Nat.le_refl _) (by decide))
end Go.Proofs.YtjjjkojfijpeeaaGreat.Sy
end
section
set_option linter.unusedVariables false
namespace Go.Proofs.YtjjjkojfijpeeaaGreat.Sy
open Go Go.Proofs Go.Proofs.YtjjjkojfijpeeaaGreat.Geo
def fT(x:V):List V->List V
 | []=>[x]
 | y::L=>if aG x y\/x=y then x::(y::L).filter (fun z=>decide (z≠x)) else y::fT x L
def dH(l:List V):List V:=l.foldl (fun o x=>fT x o) []
theorem vW(x:V):∀ L:List V,(fT x L).length<=L.length+1
 | []=>by simp[fT]
 | y::L=>by
  have:=vW x L
  unfold fT
  split
  ·rw[List.length_cons];have:=List.length_filter_le (fun z=>decide (z≠x)) (y::L);omega
  ·simp only[List.length_cons];omega
theorem qO{x z:V}:∀ {L:List V},z∈fT x L↔z=x\/z∈L
 | []=>by simp[fT]
 | y::L=>by
  have ih:=qO (x:=x) (z:=z) (L:=L)
  unfold fT
  split
  ·simp only[List.mem_cons,List.mem_filter,decide_eq_true_eq]
   by_cases h:z=x<;>simp[h]
  ·simp only[List.mem_cons,ih]
   constructor
   ·rintro(h|h|h)
    ·exact .inr (.inl h)
    ·exact .inl h
    ·exact .inr (.inr h)
   ·rintro(h|h|h)
    ·exact .inr (.inl h)
    ·exact .inl h
    ·exact .inr (.inr h)
theorem ww{x:V}:∀ {L:List V},L.Pairwise aG->(fT x L).Pairwise aG
 | [],_=>by simp[fT]
 | y::L,h=>by
  obtain⟨h1,h2⟩:=List.pairwise_cons.1 h
  unfold fT
  split
  ·rename_i hxy
   refine List.pairwise_cons.2 ⟨fun z hz=>?_,h.filter _⟩
   obtain⟨hz1,hz2⟩:=List.mem_filter.1 hz
   have hzx:z≠x:=by simpa using hz2
   rcases List.mem_cons.1 hz1 with rfl|hz1
   ·rcases hxy with h|h
    ·exact h
    ·exact absurd h.symm hzx
   ·rcases hxy with h|h
    ·exact jY h (h1 z hz1)
    ·rw[h];exact h1 z hz1
  ·rename_i hxy
   refine List.pairwise_cons.2 ⟨fun z hz=>?_,ww h2⟩
   rcases qO.1 hz with rfl|hz
   ·rcases nT (a:=z) (b:=y) (fun e=>hxy (.inr e)) with k|k
    ·exact absurd (.inl k) hxy
    ·exact k
   ·exact h1 z hz
theorem q9(l:List V):(dH l).Pairwise aG:=by
 unfold dH
 have:∀ (l o:List V),o.Pairwise aG->(l.foldl (fun o x=>fT x o) o).Pairwise aG:=by
  intro l
  induction l with
  | nil=>intro o h;exact h
  | cons x l ih=>intro o h;exact ih _ (ww h)
 exact this l [] .nil
theorem wm{l:List V}{z:V}:z∈dH l↔z∈l:=by
 unfold dH
 have:∀ (l o:List V),z∈l.foldl (fun o x=>fT x o) o↔z∈l\/z∈o:=by
  intro l
  induction l with
  | nil=>intro o;simp
  | cons x l ih=>
   intro o
   rw[List.foldl_cons,ih,qO,List.mem_cons]
   constructor
   ·rintro(h|h|h)
    ·exact .inl (.inr h)
    ·exact .inl (.inl h)
    ·exact .inr h
   ·rintro((h|h)|h)
    ·exact .inr (.inl h)
    ·exact .inl h
    ·exact .inr (.inr h)
 rw[this];simp
theorem mM(l:List V):(dH l).length<=l.length:=by
 unfold dH
 have:∀ (l o:List V),(l.foldl (fun o x=>fT x o) o).length<=l.length+o.length:=by
  intro l
  induction l with
  | nil=>intro o;simp
  | cons x l ih=>
   intro o
   have h1:=ih (fT x o)
   have h2:=vW x o
   rw[List.foldl_cons,List.length_cons];omega
 simpa using this l []
theorem Bq{l:List V}(h:l.Pairwise aG):E0 l:=fun i j hij hj=>by
 have:=List.pairwise_iff_getElem.1 h i j (by omega) hj hij
 simpa [pt,List.getD,hj,show i<l.length by omega] using this
theorem C8{l:List V}(h:l.Pairwise aG):dH l=l:=
 nX (r:=aG) kE ti (q9 l) h fun x=>wm
theorem PA(n:Nat)(l:List V)(hlen:l.length<=1000000):cA (n+2) 47 [aQ l]=some (aQ (dH l)):=by
 rw[OI]
 unfold IV
 have ll:(l.map ae).length=l.length:=List.length_map ..
 refine aW (fun i s=>s=[aQ (dH (l.take i)),I (i:Int)]) l.length 0 (Nat.zero_le _) rfl (fun i hi s hJ=>?_) (fun s hJ=>?_)
 ·subst hJ
  left
  refine⟨[aQ (dH (l.take (i+1))),I ((i+1:Nat):Int)],?_,rfl⟩
  have hs:dH (l.take (i+1))=fT (l.getD i V.zero) (dH (l.take i)):=by
   unfold dH
   rw[List.take_succ_eq_append_getElem hi,List.foldl_append]
   simp[List.getD,hi]
  have hol:(dH (l.take i)).length<=1000000:=Nat.le_trans (mM _) (by rw[List.length_take];omega)
  rw[hs]
  obtain⟨o,ho⟩:∃ o,dH (l.take i)=o:=⟨_,rfl⟩
  obtain⟨x,hx⟩:∃ x,l.getD i V.zero=x:=⟨_,rfl⟩
  have hxg:(l.map ae)[i]?=some (ae x):=by rw[<-hx];exact c9 hi
  rw[ho] at hol ⊢
  rw[hx]
  have ol:(o.map ae).length=o.length:=List.length_map ..
  refine aa (z:=l.map ae) rfl (aa ag (aa af (aH (by show((i:Int)<((l.map ae).length:Int));rw[ll];omega) ?_)))
  refine cn (fun k s=>∃ (nx:List V) (put:Bool),s=[aQ o,aQ nx,.bool put,I (k:Int)]/\nx.length<=2*k/\(put=false->fT x o=nx++fT x (o.drop k))/\(put=true->fT x o=nx++(o.drop k).filter (fun z=>decide (z≠x)))) o.length 0 (Nat.zero_le _) ⟨[],false,rfl,by simp,by simp,by simp⟩ (fun k hk s hJ=>?_) (fun s hJ=>?_)
  ·obtain⟨nx,put,rfl,hnl,h1,h2⟩:=hJ
   left
   have hd:o.drop k=o.getD k V.zero::o.drop (k+1):=by rw[List.drop_eq_getElem_cons hk];simp[List.getD,hk]
   have hyg:(o.map ae)[k]?=some (ae (o.getD k V.zero)):=c9 hk
   obtain⟨y,hy⟩:∃ y,o.getD k V.zero=y:=⟨_,rfl⟩
   rw[hy] at hd hyg
   rw[hd] at h1 h2
   obtain⟨n1,p1,he,q0,q1,q2⟩:∃ (n1:List V) (p1:Bool),(if put=false/\(aG x y\/x=y) then(nx++[x],true) else(nx,put))=(n1,p1)/\n1.length<=2*k+1/\(p1=false->x≠y/\fT x o=n1++y::fT x (o.drop (k+1)))/\(p1=true->fT x o=n1++(y::o.drop (k+1)).filter (fun z=>decide (z≠x))):=by
    by_cases hp:put=false/\(aG x y\/x=y)
    ·refine⟨_,_,if_pos hp,by simp;omega,by simp,fun _=>?_⟩
     rw[h1 hp.1,fT,if_pos hp.2];simp
    ·refine⟨_,_,if_neg hp,by omega,fun e=>?_,fun e=>h2 e⟩
     have hn:¬ (aG x y\/x=y):=fun h=>hp ⟨e,h⟩
     refine⟨fun h=>hn (.inr h),?_⟩
     rw[h1 e,fT,if_neg hn]
   refine⟨[aQ o,aQ (if y≠x then n1++[y] else n1),.bool p1,I ((k+1:Nat):Int)],?_,_,p1,rfl,?_,?_,?_⟩
   ·refine aa ag (aa af (aH (by show((k:Int)<((o.map ae).length:Int));rw[ol];omega) ?_))
    have app:∀ (a:List V) (z:V),D.sl ((a.map ae)++[ae z])=aQ (a++[z]):=fun a z=>by simp[aQ]
    have al:∀ a:List V,(a.map ae).length=a.length:=fun a=>List.length_map ..
    refine aa (z:=(0,[aQ o,aQ (if y≠x then n1++[y] else n1),.bool p1])) ?_ (aa (aq (aC (i:=k) (by omega))) rfl)
    refine aa (z:=l.map ae) rfl (aa (z:=i) (by rw[ll];exact au hi) (aa hxg (aa (z:=k) (by show D.idx (I (k:Int)) (o.map ae).length=_;rw[ol];exact au hk) (aa hyg (aa (Hi n x y) (aa (z:=(0,[aQ o,aQ n1,.bool p1])) ?_ ?_))))))
    ·refine aa (z:=.bool (!put)) rfl (aa af (aa (z:=!put&&decide (aG x y\/x=y)) ?_ (aa af ?_)))
     ·cases put
      ·rw[show(!false)=true from rfl,if_pos rfl]
       refine aa af ?_
       by_cases hlt:aG x y
       ·refine aH hlt ?_
        rw[decide_eq_true (.inl hlt)];rfl
       ·refine aJ hlt ?_
        refine aa (z:=l.map ae) rfl (aa (z:=i) (by rw[ll];exact au hi) (aa hxg (aa (z:=k) (by show D.idx (I (k:Int)) (o.map ae).length=_;rw[ol];exact au hk) (aa hyg ?_))))
        rw[ki,af]
        simp[hlt]
      ·rfl
     ·by_cases hp:put=false/\(aG x y\/x=y)
      ·rw[if_pos hp] at he
       cases he
       rw[show(!put&&decide (aG x y\/x=y))=true by rw[hp.1,decide_eq_true hp.2];rfl,if_pos rfl]
       refine aa (z:=l.map ae) rfl (aa (z:=i) (by rw[ll];exact au hi) (aa hxg ?_))
       rw[if_pos (by show(nx.map ae).length+1<=1073741824;rw[al];omega)]
       rw[<-app];rfl
      ·rw[if_neg hp] at he
       cases he
       rw[show(!put&&decide (aG x y\/x=y))=false by
        cases hput:put
        ·have:¬ (aG x y\/x=y):=fun h=>hp ⟨hput,h⟩
         simp[this]
        ·rfl]
       rfl
    ·refine aa (z:=k) (by show D.idx (I (k:Int)) (o.map ae).length=_;rw[ol];exact au hk) (aa hyg (aa (z:=l.map ae) rfl (aa (z:=i) (by rw[ll];exact au hi) (aa hxg ?_))))
     rw[ki]
     refine aa af ?_
     by_cases hyx:y=x
     ·rw[decide_eq_true hyx,if_neg (show ¬ (y≠x) from fun h=>h hyx)];rfl
     ·rw[decide_eq_false hyx,if_pos (show y≠x from hyx),show(!false)=true from rfl,if_pos rfl]
      refine aa (z:=k) (by show D.idx (I (k:Int)) (o.map ae).length=_;rw[ol];exact au hk) (aa hyg ?_)
      rw[if_pos (by show(n1.map ae).length+1<=1073741824;rw[al];omega)]
      rw[<-app];rfl
   ·split
    ·simp;omega
    ·omega
   ·intro e
    obtain⟨r1,r2⟩:=q1 e
    rw[if_pos (fun h=>r1 h.symm),r2];simp
   ·intro e
    rw[q2 e,List.filter_cons]
    by_cases hyx:y=x
    ·simp[hyx]
    ·simp[hyx]
  ·obtain⟨nx,put,rfl,hnl,h1,h2⟩:=hJ
   refine⟨(0,[aQ nx,.bool put]),?_,?_⟩
   ·exact aa ag (aa af (aJ (by show ¬ ((o.length:Int)<((o.map ae).length:Int));rw[ol];omega) rfl))
   ·have al:∀ a:List V,(a.map ae).length=a.length:=fun a=>List.length_map ..
    rw[List.drop_length] at h1 h2
    refine aa (z:=(0,[aQ (fT x o)])) ?_ (aa (aq (aC (i:=i) (by omega))) rfl)
    refine aa (z:=.bool (!put)) rfl (aa af ?_)
    cases put
    ·rw[show(!false)=true from rfl,if_pos rfl]
     refine aa (z:=l.map ae) rfl (aa (z:=i) (by rw[ll];exact au hi) (aa hxg ?_))
     rw[if_pos (by show(nx.map ae).length+1<=1073741824;rw[al];omega)]
     rw[h1 rfl]
     simp[fT,aQ,g0,D.els]
    ·have:=h2 rfl
     simp only[List.filter_nil,List.append_nil] at this
     rw[this];rfl
 ·subst hJ
  rw[List.take_length]
  refine⟨(0,[aQ (dH l)]),?_,rfl⟩
  exact aa (z:=l.map ae) rfl (aa ag (aa af (aJ (by show ¬ ((l.length:Int)<((l.map ae).length:Int));rw[ll];omega) rfl)))
structure FOk(l:List V)(F:FL):Prop where
 ord:F.Pairwise (fun a b=>aG a.1.1 b.1.1)
 ok:∀ f∈F,IsF (pt l) l.length f.1.1 f.1.2/\bB (pt l) l.length f.1.1 f.1.2 f.2
theorem kb{f x:(V×Int)×List Nat}:∀ {L:FL},x∈jO f L↔x=f\/x∈L
 | []=>by simp[jO]
 | y::L=>by
  have ih:=kb (f:=f) (x:=x) (L:=L)
  unfold jO
  split
  ·simp
  ·simp only[List.mem_cons,ih]
   constructor
   ·rintro(h|h|h)
    ·exact .inr (.inl h)
    ·exact .inl h
    ·exact .inr (.inr h)
   ·rintro(h|h|h)
    ·exact .inr (.inl h)
    ·exact .inl h
    ·exact .inr (.inr h)
theorem uN{f:(V×Int)×List Nat}:∀ {L:FL},L.Pairwise (fun a b=>aG a.1.1 b.1.1)->(∀ x∈L,x.1.1≠f.1.1)->(jO f L).Pairwise (fun a b=>aG a.1.1 b.1.1)
 | [],_,_=>by simp[jO]
 | y::L,h,hn=>by
  obtain⟨h1,h2⟩:=List.pairwise_cons.1 h
  unfold jO
  split
  ·rename_i k
   refine List.pairwise_cons.2 ⟨fun z hz=>?_,h⟩
   rcases List.mem_cons.1 hz with rfl|hz
   ·exact k
   ·exact jY k (h1 z hz)
  ·rename_i k
   refine List.pairwise_cons.2 ⟨fun z hz=>?_,uN h2 fun x hx=>hn x (List.mem_cons_of_mem _ hx)⟩
   rcases kb.1 hz with rfl|hz
   ·rcases nT (hn y List.mem_cons_self) with k'|k'
    ·exact k'
    ·exact absurd k' k
   ·exact h1 z hz
def zo(l:List V):List (V×Int):=(List.range l.length).flatMap fun i=>(List.range l.length).flatMap fun j=>(List.range l.length).flatMap fun k=>[(bk (eJ (pt l) i j k),V.dot (bk (eJ (pt l) i j k)) (pt l i)),((bk (eJ (pt l) i j k)).neg,V.dot (bk (eJ (pt l) i j k)).neg (pt l i))]
theorem AA(l:List V)(h:l.length<=100):(zo l).length<=2000000:=by
 unfold zo
 rw[lV (c:=l.length*(l.length*2)) _ (fun i _=>by rw[lV (c:=l.length*2) _ (fun j _=>by rw[lV (c:=2) _ (fun k _=>rfl),List.length_range]),List.length_range]),List.length_range]
 have a1:l.length*2<=200:=by omega
 have a2:l.length*(l.length*2)<=100*200:=Nat.mul_le_mul h a1
 exact Nat.mul_le_mul h a2
theorem zq{l:List V}{q:V×Int}(h:IsF (pt l) l.length q.1 q.2):q∈zo l:=by
 obtain⟨i,j,k,h1,h2,h3,h4,h5,h6⟩:=h.ex
 refine List.mem_flatMap.2 ⟨i,List.mem_range.2 (by omega),List.mem_flatMap.2 ⟨j,List.mem_range.2 (by omega),List.mem_flatMap.2 ⟨k,List.mem_range.2 h3,?_⟩⟩⟩
 obtain⟨a,b⟩:=q
 simp only at h5 h6
 subst h6
 rcases h5 with rfl|rfl<;>simp
theorem FOk.len{l:List V}{F:FL}(h:FOk l F)(hl:l.length<=100):F.length<=2000000:=by
 have nd:(F.map Prod.fst).Nodup:=by
  refine List.pairwise_map.2 (h.ord.imp fun{a b} hab e=>?_)
  rw[e] at hab;exact kE _ hab
 have:=List.Nodup.length_le_of_subset (l₂:=zo l) nd fun q hq=>by
  obtain⟨f,hf,rfl⟩:=List.mem_map.1 hq
  exact zq (h.ok f hf).1
 rw[List.length_map] at this
 exact Nat.le_trans this (AA l hl)
theorem FOk.insert{l:List V}{F:FL}(h:FOk l F){f:(V×Int)×List Nat}(hn:∀ x∈F,x.1.1≠f.1.1)(h1:IsF (pt l) l.length f.1.1 f.1.2)(h2:bB (pt l) l.length f.1.1 f.1.2 f.2):FOk l (jO f F):=
 ⟨uN h.ord hn,fun x hx=>by
  rcases kb.1 hx with rfl|hx
  ·exact⟨h1,h2⟩
  ·exact h.ok x hx⟩
theorem pT{v:V}:bk v=V.zero↔v=V.zero:=by
 constructor
 ·intro h
  by_cases hv:v=V.zero
  ·exact hv
  ·exact absurd h (pg hv)
 ·rintro rfl
  apply V.ext'<;>simp[bk,V.zero]
theorem AD{v:V}:v.neg=V.zero↔v=V.zero:=by
 constructor
 ·intro h
  by_cases hv:v=V.zero
  ·exact hv
  ·exact absurd h (CK hv)
 ·rintro rfl
  apply V.ext'<;>simp[V.neg,V.zero]
theorem bg{α β:Type}{A:Option α}{g:α->Option β}{z:α}{Y:β->Prop}(h:A=some z)(hk:∃ y,g z=some y/\Y y):∃ y,Option.bind A g=some y/\Y y:=by
 rw[h];exact hk
theorem ph{β:Type}{p:Prop}[Decidable p]{A B:Option β}{Y:β->Prop}(h:p)(hA:∃ y,A=some y/\Y y):∃ y,(if decide p=true then A else B)=some y/\Y y:=by rw[if_pos (decide_eq_true h)];exact hA
theorem CD(n:Nat){l:List V}(hl:∀ x∈l,bd MV x)(hlen:l.length<=100)(hs:E0 l){F:FL}(hF:FOk l F){i j k:Nat}(hij:i<j)(hjk:j<k)(hk:k<l.length){m:V}(hm:m=bk (eJ (pt l) i j k)\/m=(bk (eJ (pt l) i j k)).neg){α:Type}{g:D->Nat×List D->Option α}{Y:α->Prop}
  (hg:∀ F':FL,FOk l F'->(∀ f∈F,f∈F')->(eJ (pt l) i j k≠V.zero->xa (pt l) l.length m (V.dot m (pt l i))->(m,V.dot m (pt l i))∈F'.map Prod.fst)->∃ y,g (I (V.dot m (pt l i))) (0,[.sl (aD F')])=some y/\Y y) :
  ∃ y,(Option.bind (cA (n+4) 107 [ae m,ae (pt l i)]) fun r31=>
  Option.bind (cA (n+4) 108 [.sl (aD F),ae m]) fun r32=>
  Option.bind (Option.bind (D.un .not r32) fun x33=>
  Option.bind (D.truth x33) fun b34=>
  Option.bind (if b34 then(Option.bind (D.un .not (D.bool (D.beq (ae m) (D.st [(D.int .i64 0),(D.int .i64 0),(D.int .i64 0)])))) fun x35=>
  D.truth x35) else(some false)) fun b36=>
  Option.bind (D.truth (D.bool b36)) fun b37=>
  Option.bind (if b37 then(Option.bind (cA (n+4) 109 [aQ l,ae m,r31]) fun r38=>
  D.truth r38) else(some false)) fun b39=>
  Option.bind (D.truth (D.bool b39)) fun b40=>
  if b40 then(Option.bind (cA (n+4) 111 [aQ l,ae m,r31]) fun r41=>
  Option.bind (cA (n+4) 110 [.sl (aD F),(D.st [ae m,r31,r41])]) fun r42=>
  some (0,[r42])) else(some (0,[.sl (aD F)]))) (g r31))=some y/\Y y:=by
 have hi:i<l.length:=by omega
 have bt:bd 549755813888 (bk (eJ (pt l) i j k)):=kG (fo (lc (P:=pt l) (hl _ (cM hi)) (hl _ (cM (show j<l.length by omega)))) (lc (P:=pt l) (hl _ (cM hi)) (hl _ (cM hk))))
 have bm:bd 549755813888 m:=by
  rcases hm with rfl|rfl
  ·exact bt
  ·exact qq bt
 have hFl:=hF.len hlen
 have hmz:m=V.zero↔eJ (pt l) i j k=V.zero:=by
  rcases hm with rfl|rfl
  ·exact pT
  ·rw[AD,pT]
 refine bg (zs (n+3) bm (hl _ (cM hi)) (by decide)) (bg (KQ (n+3) F m (by omega)) ?_)
 obtain⟨d,hd⟩:∃ d,V.dot m (l.getD i V.zero)=d:=⟨_,rfl⟩
 have hdp:V.dot m (pt l i)=d:=hd
 rw[hdp] at hg
 rw[hdp]
 by_cases hkn:(F.any fun f=>decide (f.1.1=m))=true
 ·rw[hkn]
  refine bg (z:=(0,[.sl (aD F)])) (aa (z:=.bool false) rfl (aa (z:=false) rfl (aa (z:=false) rfl (aa (z:=false) rfl (aa (z:=false) rfl (aa (z:=false) rfl rfl)))))) (hg F hF (fun f hf=>hf) fun ht hsp=>?_)
  obtain⟨f,hf,hfm⟩:=List.any_eq_true.1 hkn
  have hfm:f.1.1=m:=by simpa using hfm
  have h1:=(hF.ok f hf).1
  rw[hfm] at h1
  have h2:IsF (pt l) l.length m d:=⟨⟨i,j,k,hij,hjk,hk,ht,hm,hdp.symm⟩,hsp⟩
  exact List.mem_map.2 ⟨f,hf,Prod.ext hfm (IsF.d_eq h1 h2)⟩
 ·rw[Bool.not_eq_true] at hkn
  rw[hkn]
  have hnk:∀ f∈F,f.1.1≠m:=fun f hf e=>by
   have:=List.any_eq_false.1 hkn f hf
   simp[e] at this
  by_cases hz:m=V.zero
  ·refine bg (z:=(0,[.sl (aD F)])) (aa (z:=.bool true) rfl (aa (z:=true) rfl (aa (z:=false) ?_ (aa (z:=false) rfl (aa (z:=false) rfl (aa (z:=false) rfl rfl)))))) (hg F hF (fun f hf=>hf) fun ht hsp=>absurd (hmz.1 hz) ht)
   rw[if_pos rfl,qw,ki,decide_eq_true (show m=⟨0,0,0⟩ from hz)];rfl
  ·have ht:eJ (pt l) i j k≠V.zero:=fun e=>hz (hmz.2 e)
   have hc:=KW (n+2) (d:=d) hl bm (by decide) (by omega)
   by_cases hsp:supp l (m,d)=true
   ·have hFm:IsF (pt l) l.length m d:=⟨⟨i,j,k,hij,hjk,hk,ht,hm,hdp.symm⟩,mJ.1 hsp⟩
    obtain⟨p,hp,_,_⟩:=hFm.poly hs
    refine bg (z:=(0,[.sl (aD (jO ((m,d),p) F))])) (aa (z:=.bool true) rfl (aa (z:=true) rfl (aa (z:=true) ?_ (aa (z:=true) rfl (aa (z:=true) ?_ (aa (z:=true) rfl ?_)))))) (hg _ (hF.insert hnk hFm hp) (fun f hf=>kb.2 (.inr hf)) fun _ _=>List.mem_map.2 ⟨((m,d),p),kb.2 (.inl rfl),rfl⟩)
    ·rw[if_pos rfl,qw,ki,decide_eq_false (show ¬ m=⟨0,0,0⟩ from hz)];rfl
    ·rw[if_pos rfl]
     refine aa hc ?_
     rw[af];exact congrArg some hsp
    ·rw[if_pos rfl]
     exact aa (JN n hl hlen hs hFm bm hp) (aa (J0 (n+2) F ((m,d),p) (by omega)) rfl)
   ·refine bg (z:=(0,[.sl (aD F)])) (aa (z:=.bool true) rfl (aa (z:=true) rfl (aa (z:=true) ?_ (aa (z:=true) rfl (aa (z:=false) ?_ (aa (z:=false) rfl rfl)))))) (hg F hF (fun f hf=>hf) fun _ hsp'=>absurd (mJ.2 hsp') hsp)
    ·rw[if_pos rfl,qw,ki,decide_eq_false (show ¬ m=⟨0,0,0⟩ from hz)];rfl
    ·rw[if_pos rfl]
     refine aa hc ?_
     rw[af]
     exact congrArg some (Bool.eq_false_iff.2 hsp)
structure KnF(l:List V)(i j k:Nat)(F:FL):Prop where
 fok:FOk l F
 all:∀ i' j' k',i'<j'->j'<k'->k'<l.length->(i'<i\/i'=i/\(j'<j\/j'=j/\k'<k))->eJ (pt l) i' j' k'≠V.zero->∀ m,(m=bk (eJ (pt l) i' j' k')\/m=(bk (eJ (pt l) i' j' k')).neg)->xa (pt l) l.length m (V.dot m (pt l i'))->(m,V.dot m (pt l i'))∈F.map Prod.fst
theorem KnF.mono{l:List V}{i j k i2 j2 k2:Nat}{F:FL}(h:KnF l i j k F)(hm:∀ i' j' k',i'<j'->j'<k'->k'<l.length->(i'<i2\/i'=i2/\(j'<j2\/j'=j2/\k'<k2))->(i'<i\/i'=i/\(j'<j\/j'=j/\k'<k))):KnF l i2 j2 k2 F:=
 ⟨h.fok,fun i' j' k' h1 h2 h3 h4=>h.all i' j' k' h1 h2 h3 (hm i' j' k' h1 h2 h3 h4)⟩
theorem KnF.facets{l:List V}{F:FL}(h:KnF l l.length 0 0 F):Facets (pt l) l.length (F.map Prod.fst):=by
 refine⟨List.pairwise_map.2 h.fok.ord,fun q=>⟨fun hq=>?_,fun hq=>?_⟩⟩
 ·obtain⟨f,hf,rfl⟩:=List.mem_map.1 hq
  exact(h.fok.ok f hf).1
 ·obtain⟨⟨i,j,k,h1,h2,h3,c1,c2,c3⟩,hs⟩:=hq
  obtain⟨m,d⟩:=q
  simp only at c2 c3 hs
  subst c3
  exact h.all i j k h1 h2 h3 (.inl (by omega)) c1 m c2 hs
end Go.Proofs.YtjjjkojfijpeeaaGreat.Sy
end
section
set_option linter.unusedVariables false
namespace Go.Proofs.YtjjjkojfijpeeaaGreat.Sy
open Go Go.Proofs Go.Proofs.YtjjjkojfijpeeaaGreat.Geo
def mt(p:V):Nat->V
 | 0=>p
 | 1=>p.neg
 | _=>p
theorem No(n:Nat){l:List V}(hl:∀ x∈l,bd MV x)(hlen:l.length<=100)(hs:E0 l):∃ F:FL,KnF l l.length 0 0 F/\cA (n+7) 48 [aQ l]=some (.sl (aD F)):=by
 suffices h:∃ y,cA (n+7) 48 [aQ l]=some y/\∃ F:FL,KnF l l.length 0 0 F/\y=.sl (aD F) by
  obtain⟨y,h1,F,h2,rfl⟩:=h
  exact⟨F,h2,h1⟩
 rw[NA]
 unfold IG
 have ll:(l.map ae).length=l.length:=List.length_map ..
 refine qP (fun i s=>∃ F:FL,s=[.sl (aD F),I (i:Int)]/\KnF l i 0 0 F) l.length 0 (Nat.zero_le _) ⟨[],rfl,⟨.nil,by simp⟩,fun i' j' k' h1 h2 h3 h4=>by omega⟩ (fun i hi s hJ=>?_) (fun s hJ=>?_)
 ·obtain⟨F,rfl,hF⟩:=hJ
  refine bg (z:=l.map ae) rfl (bg ag (bg af (ph (by show((i:Int)<((l.map ae).length:Int));rw[ll];omega) (bg (aq (aC (i:=i) (by omega))) ?_))))
  refine qP (fun j s=>i+1<=j/\∃ F:FL,s=[.sl (aD F),I (j:Int)]/\KnF l i j 0 F) l.length (i+1) (by omega) ⟨Nat.le_refl _,F,rfl,hF.mono fun i' j' k' h1 h2 h3 h4=>by omega⟩ (fun j hj s hJ=>?_) (fun s hJ=>?_)
  ·obtain⟨hij,F,rfl,hF⟩:=hJ
   refine bg (z:=l.map ae) rfl (bg ag (bg af (ph (by show((j:Int)<((l.map ae).length:Int));rw[ll];omega) (bg (aq (aC (i:=j) (by omega))) ?_))))
   refine qP (fun k s=>j+1<=k/\∃ F:FL,s=[.sl (aD F),I (k:Int)]/\KnF l i j k F) l.length (j+1) (by omega) ⟨Nat.le_refl _,F,rfl,hF.mono fun i' j' k' h1 h2 h3 h4=>by omega⟩ (fun k hk s hJ=>?_) (fun s hJ=>?_)
   ·obtain⟨hjk,F,rfl,hF⟩:=hJ
    refine bg (z:=l.map ae) rfl (bg ag (bg af (ph (by show((k:Int)<((l.map ae).length:Int));rw[ll];omega) ?_)))
    refine bg (z:=l.map ae) rfl (bg (z:=i) (by rw[ll];exact au hi) (bg (c9 hi) (bg (z:=l.map ae) rfl (bg (z:=j) (by rw[ll];exact au hj) (bg (c9 hj) (bg (z:=l.map ae) rfl (bg (z:=k) (by rw[ll];exact au hk) (bg (c9 hk) (bg (z:=ae (bk (eJ (pt l) i j k))) (Kq n (hl _ (cM hi)) (hl _ (cM hj)) (hl _ (cM hk))) ?_)))))))))
    have bt:bd 549755813888 (bk (eJ (pt l) i j k)):=kG (fo (lc (P:=pt l) (hl _ (cM hi)) (hl _ (cM hj))) (lc (P:=pt l) (hl _ (cM hi)) (hl _ (cM hk))))
    obtain⟨p,hp⟩:∃ p,bk (eJ (pt l) i j k)=p:=⟨_,rfl⟩
    rw[hp] at bt ⊢
    have z0:bd 0 V.zero:=by simp only[bd,V.zero];omega
    have e1:V.zero.sub p=p.neg:=by apply V.ext'<;>simp[V.sub,V.neg,V.zero]
    have e2:V.zero.sub p.neg=p:=by apply V.ext'<;>simp[V.sub,V.neg,V.zero]
    refine qP (fun t s=>∃ F':FL,s=[.sl (aD F'),I (t:Int),ae (mt p t)]/\FOk l F'/\(∀ f∈F,f∈F')/\(1<=t->eJ (pt l) i j k≠V.zero->xa (pt l) l.length p (V.dot p (pt l i))->(p,V.dot p (pt l i))∈F'.map Prod.fst)/\(2<=t->eJ (pt l) i j k≠V.zero->xa (pt l) l.length p.neg (V.dot p.neg (pt l i))->(p.neg,V.dot p.neg (pt l i))∈F'.map Prod.fst)) 2 0 (by omega) ⟨F,rfl,hF.fok,fun f hf=>hf,fun h=>by omega,fun h=>by omega⟩ (fun t ht s hJ=>?_) (fun s hJ=>?_)
    ·obtain⟨F',rfl,f1,f2,f3,f4⟩:=hJ
     refine bg ag (bg af (ph (by show((t:Int)<2);omega) (bg (z:=l.map ae) rfl (bg (z:=i) (by rw[ll];exact au hi) (bg (c9 hi) ?_)))))
     have ht':t=0\/t=1:=by omega
     simp only[g0,g1,g2]
     rcases ht' with rfl|rfl
     ·rw[show mt p 0=p from rfl]
      refine CD (n+2) hl hlen hs f1 (show i<j by omega) (show j<k by omega) hk (m:=p) (.inl hp.symm) (fun F2 k1 k2 k3=>?_)
      refine⟨.inl [.sl (aD F2),I ((0+1:Nat):Int),ae p.neg],?_,?_⟩
      ·refine aa (z:=ae p.neg) ?_ ?_
       ·have:=AK (n+5) z0 bt (by decide)
        rw[e1] at this
        exact this
       ·exact aa (aq GD) rfl
      ·exact⟨F2,rfl,k1,fun f hf=>k2 f (f2 f hf),fun _=>k3,fun h=>by omega⟩
     ·rw[show mt p 1=p.neg from rfl]
      refine CD (n+2) hl hlen hs f1 (show i<j by omega) (show j<k by omega) hk (m:=p.neg) (.inr (by rw[hp])) (fun F2 k1 k2 k3=>?_)
      refine⟨.inl [.sl (aD F2),I ((1+1:Nat):Int),ae p],?_,F2,rfl,k1,fun f hf=>k2 f (f2 f hf),fun _ h1 h2=>?_,fun _=>k3⟩
      ·refine aa (z:=ae p) ?_ ?_
       ·have:=AK (n+5) z0 (qq bt) (by decide)
        rw[e2] at this
        exact this
       ·exact aa (aq lZ) rfl
      ·obtain⟨f,hf,e⟩:=List.mem_map.1 (f3 (Nat.le_refl _) h1 h2)
       exact List.mem_map.2 ⟨f,k2 f hf,e⟩
    ·obtain⟨F',rfl,f1,f2,f3,f4⟩:=hJ
     refine⟨.inr (0,[.sl (aD F')]),aa ag (aa af (aJ (by decide) rfl)),.inl [.sl (aD F'),I ((k+1:Nat):Int)],aa (aq (aC (i:=k) (by omega))) rfl,by omega,F',rfl,f1,fun i' j' k' h1 h2 h3 h4 h5 m h6 h7=>?_⟩
     by_cases e:i'=i/\j'=j/\k'=k
     ·obtain⟨rfl,rfl,rfl⟩:=e
      rw[hp] at h6
      rcases h6 with rfl|rfl
      ·exact f3 (by omega) h5 h7
      ·exact f4 (by omega) h5 h7
     ·obtain⟨f,hf,e⟩:=List.mem_map.1 (hF.all i' j' k' h1 h2 h3 (by omega) h5 m h6 h7)
      exact List.mem_map.2 ⟨f,f2 f hf,e⟩
   ·obtain⟨hjk,F,rfl,hF⟩:=hJ
    refine⟨.inr (0,[.sl (aD F)]),?_,.inl [.sl (aD F),I ((j+1:Nat):Int)],aa (aq (aC (i:=j) (by omega))) rfl,by omega,F,rfl,hF.mono fun i' j' k' h1 h2 h3 h4=>by omega⟩
    exact aa (z:=l.map ae) rfl (aa ag (aa af (aJ (by show ¬ ((l.length:Int)<((l.map ae).length:Int));rw[ll];omega) rfl)))
  ·obtain⟨hij,F,rfl,hF⟩:=hJ
   refine⟨.inr (0,[.sl (aD F)]),?_,.inl [.sl (aD F),I ((i+1:Nat):Int)],aa (aq (aC (i:=i) (by omega))) rfl,F,rfl,hF.mono fun i' j' k' h1 h2 h3 h4=>by omega⟩
   exact aa (z:=l.map ae) rfl (aa ag (aa af (aJ (by show ¬ ((l.length:Int)<((l.map ae).length:Int));rw[ll];omega) rfl)))
 ·obtain⟨F,rfl,hF⟩:=hJ
  refine⟨.inr (0,[.sl (aD F)]),?_,.sl (aD F),rfl,F,hF,rfl⟩
  exact aa (z:=l.map ae) rfl (aa ag (aa af (aJ (by show ¬ ((l.length:Int)<((l.map ae).length:Int));rw[ll];omega) rfl)))
end Go.Proofs.YtjjjkojfijpeeaaGreat.Sy
end
