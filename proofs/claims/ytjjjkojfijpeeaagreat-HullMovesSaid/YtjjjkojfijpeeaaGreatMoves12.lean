/- Part 12 of the proof that HullMoves answers true at every input -/
import Derived.Test.YtjjjkojfijpeeaaGreatMoves01
import Derived.Test.YtjjjkojfijpeeaaGreatMoves11
set_option linter.unusedVariables false
set_option linter.unusedSimpArgs false
set_option linter.unnecessarySimpa false
section
set_option linter.unusedVariables false
namespace Go.Proofs.YtjjjkojfijpeeaaGreat.Sy
open Go Go.Proofs Go.Proofs.YtjjjkojfijpeeaaGreat.Geo
def In(x:Int):Prop:=x.natAbs<65536^32
theorem In.of{x:Int}(h:inR x):In x:=by
 have:(65536:Nat)^4<=65536^32:=Nat.pow_le_pow_right (by decide) (by decide)
 have e:(65536:Nat)^4=18446744073709551616:=by decide
 obtain⟨h1,h2⟩:=h
 unfold In;omega
theorem gT(m i:Nat):eC (aE m) i=m/4294967296^i%4294967296:=by
 have e1:65536^(2*i)=4294967296^i:=by rw[Nat.pow_mul]
 have e2:65536^(2*i+1)=4294967296^i*65536:=by rw[Nat.pow_succ,e1]
 unfold eC
 rw[od,od,e1,e2,<-Nat.div_div_eq_div_mul]
 generalize m/4294967296^i=q
 omega
theorem Gb(m:Nat):eC (aE m) 0=m%4294967296:=by rw[gT,Nat.pow_zero,Nat.div_one]
theorem Bw(m:Nat):eC (aE m) 1=m/4294967296%4294967296:=by rw[gT,Nat.pow_one]
theorem Im{m i:Nat}(h:m<18446744073709551616)(hi:2<=i):eC (aE m) i=0:=by
 rw[gT]
 have:(4294967296:Nat)^2<=4294967296^i:=Nat.pow_le_pow_right (by decide) hi
 rw[Nat.div_eq_of_lt (by omega)]
theorem F5{a b:Nat}:D.beq (U a) (U b)=decide (a=b):=by
 simp only[D.beq,decide_true,Bool.true_and]
 by_cases h:a=b
 ·simp[h]
 ·simp[h];omega
theorem qh{m:Nat}(hm:m<65536^32)(h:∀ i,i<16->eC (aE m) i=0):m=0:=by
 have hz:∀ i,i<32->(aE m).getD i 0=0:=fun i hi=>by
  have:=h (i/2) (by omega)
  unfold eC at this
  rcases Nat.mod_two_eq_zero_or_one i with e|e
  ·rw[show 2*(i/2)=i by omega] at this;omega
  ·rw[show 2*(i/2)+1=i by omega] at this;omega
 have hv:∀ k,k<=32->vt (aE m) k=0:=fun k=>by
  induction k with
  | zero=>intro _;rfl
  | succ k ih=>intro hk;rw[vt,ih (by omega),hz k (by omega)];simp
 have:=hv 32 (by omega)
 rw[gN (bF 32 _ hm),ao] at this
 exact this
def zB(m i:Nat):Bool:=(List.range i).all fun k=>decide (eC (aE m) k=0)
theorem EV(m i:Nat):zB m (i+1)=(zB m i&&decide (eC (aE m) i=0)):=by
 unfold zB;rw[List.range_succ,List.all_append];simp
theorem Nd(n:Nat){x:Int}(hx:In x):cA (n+1) 139 [ah x]=some (.bool true):=by
 rw[M4]
 unfold Et
 have fin:∀ z:Bool,(z=true->x=0)->(Option.bind (D.get (ah x) [0]) fun x10=>Option.bind (D.truth x10) fun b11=>
   if b11 then(Option.bind (D.truth (.bool z)) fun b12=>Option.bind (if b12 then(Option.bind (D.get (ah x) [1]) fun x13=>Option.bind (D.un .not x13) fun x14=>D.truth x14) else(some false)) fun b15=>
   some (D.bool b15)) else(Option.bind (D.un .not (.bool z)) fun x16=>Option.bind (D.truth x16) fun b17=>
   Option.bind (if b17 then(some true) else(Option.bind (D.get (ah x) [1]) fun x18=>Option.bind (D.un .not x18) fun x19=>D.truth x19)) fun b20=>some (D.bool b20)))=some (.bool true):=by
  intro z hz
  refine aa (z:=.bool false) rfl (aa (z:=false) rfl ?_)
  rw[if_neg (by decide)]
  refine aa (z:=.bool (!z)) rfl (aa (z:=!z) rfl ?_)
  cases z with
  | false=>rfl
  | true=>
   have:=hz rfl
   subst this
   rfl
 refine be (fun i s=>s=[.bool (zB x.natAbs i),I (i:Int)]) 16 0 (Nat.zero_le _) rfl (fun i hi s hJ=>?_) (fun s hJ=>?_)
 ·subst hJ
  left
  refine⟨_,?_,rfl⟩
  refine aa ag (aa af (aJ (by show(i:Int)<16;omega) (aa af (aa (z:=zB x.natAbs (i+1)) ?_ (aa (av (aF (i:=i) (by omega))) rfl)))))
  rw[EV]
  cases zB x.natAbs i with
  | false=>rfl
  | true=>
   rw[if_pos rfl]
   refine aa (aw hi) (aa (cZ hi) ?_)
   show D.truth (D.bool (D.beq (U (eC (aE x.natAbs) i)) (U 0)))=_
   rw[F5,af];rfl
 ·subst hJ
  refine⟨(0,[.bool (zB x.natAbs 16)]),?_,?_⟩
  ·exact aa ag (aa af (aM (by decide) rfl))
  ·refine fin _ fun h=>?_
   have:=qh hx (fun i hi=>of_decide_eq_true (List.all_eq_true.1 h i (List.mem_range.2 hi)))
   omega
theorem rO(n:Nat){x:Int}(hx:In x):cA (n+2) 76 [ah x]=some (.bool true):=by
 rw[Ol]
 unfold IY
 exact aa (Nd n hx) (aa af rfl)
theorem qu(n:Nat){x:Int}(hx:x.natAbs<4611686018427387904):cA (n+3) 124 [ah x]=some (.tup [I x,.bool true]):=by
 have hin:In x:=In.of (by simp only[inR];omega)
 rw[Hq]
 unfold Da
 have l1:=Bw x.natAbs
 refine aa (rO n hin) (aa cU (aa af (aa (z:=false) ?_ (aa af ?_))))
 ·rw[if_neg (by decide)]
  refine aa (cZ (i:=1) (by decide)) ?_
  rw[l1]
  have:D.bin .geq (U (x.natAbs/4294967296%4294967296)) (.int .u32 1073741824)=some (.bool false):=by
   simp only[D.bin,if_true]
   rw[decide_eq_false (by omega)]
  exact aa this rfl
 ·rw[if_neg (by decide)]
  refine be (fun i s=>s=[I (i:Int)]/\2<=i) 16 2 (by decide) ⟨rfl,by decide⟩ (fun i hi s hJ=>?_) (fun s hJ=>?_)
  ·obtain⟨rfl,h2⟩:=hJ
   left
   refine⟨_,?_,rfl,by omega⟩
   refine aa ag (aa af (aJ (by show(i:Int)<16;omega) ?_))
   refine aa (aw hi) (aa (cZ hi) ?_)
   rw[Im (by omega) h2]
   refine aa (z:=false) rfl ?_
   rw[if_neg (by decide)]
   exact aa (av (aF (i:=i) (by omega))) rfl
  ·obtain⟨rfl,_⟩:=hJ
   refine⟨(1,[]),aa ag (aa af (aM (by decide) rfl)),?_⟩
   rw[if_neg (by decide)]
   have e0:=Gb x.natAbs
   refine aa (cZ (i:=1) (by decide)) (aa (pD (uU (aO _) 1)) ?_)
   rw[l1]
   refine aa (cQ (by simp only[inR];omega)) (aa (cZ (i:=0) (by decide)) (aa (pD (uU (aO _) 0)) ?_))
   rw[e0]
   refine aa (av (by simp only[inR];omega)) (aa (z:=.bool (decide (x<0))) rfl (aa af ?_))
   by_cases hx0:x<0
   ·refine aJ hx0 ?_
    refine aa (oJ (by simp only[inR];omega)) ?_
    congr 4;omega
   ·refine aM hx0 ?_
    congr 4;omega
theorem Mr(n:Nat){x:Int}(hx:In x):cA (n+3) 142 [ah x]=some (ah x.natAbs):=by
 rw[MT]
 unfold Dy
 have hl:=bF 32 _ hx
 refine aa (rO n hx) (aa cU (aa af ?_))
 refine aa (xo n hx) (aa (z:=ah x.natAbs) ?_ rfl)
 rw[FR n (aO _) (by omega) (by rw[ao];exact hx),ao];rfl
theorem Jb(n:Nat){a b:List Nat}(ha:dl a)(hb:dl b)(hla:a.length<=900000)(hlb:b.length<=900000):cA (n+2) 78 [.sl (ab a),.sl (ab b)]=some (.bool (decide (aS a<aS b))):=by
 rw[OL]
 unfold Jt
 obtain⟨M,hM⟩:∃ M,M=max a.length b.length:=⟨_,rfl⟩
 have hmax:D.max2 (D.int .i64 (ab a).length) (D.int .i64 (ab b).length)=some (I (M:Int)):=by
  rw[CP,aj,aj,hM];congr 2;omega
 have hva:vt a M=aS a:=gN (by omega)
 have hvb:vt b M=aS b:=gN (by omega)
 refine aa (z:=ab a) rfl (aa (z:=ab b) rfl (aa hmax (aa (dH (by simp only[inR];omega)) ?_)))
 refine be (fun i s=>s=[I ((M:Int)-1-i)]/\(aS a<aS b↔vt a (M-i)<vt b (M-i))) M 0 (Nat.zero_le _) ⟨by simp,by simp[hva,hvb]⟩ (fun i hi s hJ=>?_) (fun s hJ=>?_)
 ·obtain⟨rfl,hz⟩:=hJ
  obtain⟨k,hk⟩:∃ k,M-i=k+1:=⟨M-i-1,by omega⟩
  rw[hk,vt,vt] at hz
  have e1:(M:Int)-1-i=(k:Int):=by omega
  rw[e1]
  have la:=rA ha k
  have lb:=rA hb k
  have q1:=Aj n a k
  have q2:=Aj n b k
  by_cases hab:a.getD k 0=b.getD k 0
  ·left
   refine⟨[I ((M:Int)-1-(i+1:Nat))],?_,rfl,?_⟩
   ·refine aa iD (aa af (aJ (by show(k:Int) ≥ 0;omega) (aa q1 (aa q2 (aa (z:=false) ?_ ?_)))))
    ·rw[hab,cb,decide_eq_true rfl];rfl
    ·rw[if_neg (by decide)]
     refine aa (dH (by simp only[inR];omega)) ?_
     congr 4;omega
   ·rw[hz,hab,show M-(i+1)=k by omega];omega
  ·right
   refine⟨(0,[.bool (decide (a.getD k 0<b.getD k 0))]),?_,?_⟩
   ·refine aa iD (aa af (aJ (by show(k:Int) ≥ 0;omega) (aa q1 (aa q2 (aa (z:=true) ?_ ?_)))))
    ·rw[cb,decide_eq_false hab];rfl
    ·rw[if_pos rfl]
     refine aa q1 (aa q2 (aa ag ?_))
     simp
   ·rw[if_pos rfl]
    show some (D.bool (decide (a.getD k 0<b.getD k 0)))=_
    congr 3
    rw[eq_iff_iff,hz]
    generalize a.getD k 0=u at *
    generalize b.getD k 0=v at *
    generalize 65536^k=B at *
    constructor
    ·intro h
     have:(u+1)*B<=v*B:=Nat.mul_le_mul_right _ h
     rw[Nat.add_mul] at this
     omega
    ·intro h
     rcases Nat.lt_or_ge u v with h1|h1
     ·exact h1
     ·have:(v+1)*B<=u*B:=Nat.mul_le_mul_right _ (by omega)
      rw[Nat.add_mul] at this
      omega
 ·obtain⟨rfl,hz⟩:=hJ
  refine⟨(1,[]),?_,?_⟩
  ·exact aa iD (aa af (aM (by show ¬ ((M:Int)-1-(M:Nat)) ≥ 0;omega) rfl))
  ·rw[if_neg (by decide)]
   have:¬ aS a<aS b:=by rw[hz];simp[vt]
   rw[decide_eq_false this]
theorem NY(n:Nat){x y:Int}(hx:In x)(hy:In y):cA (n+3) 32 [ah x,ah y]=some (I (cm x y)):=by
 rw[u32]
 unfold IJ
 have hlx:=bF 32 _ hx
 have hly:=bF 32 _ hy
 have gx:=rO n hx
 have gy:=rO n hy
 have dx:=xo n hx
 have dy:=xo n hy
 refine aa gx (aa cU (aa af (aa (z:=false) rfl (aa (z:=false) rfl ?_))))
 rw[if_neg (by decide)]
 refine aa gx (aa cU (aa (z:=false) rfl ?_))
 rw[if_neg (by decide)]
 refine aa gy (aa cU (aa (z:=false) rfl ?_))
 rw[if_neg (by decide)]
 refine aa (z:=.bool (decide (x<0))) rfl (aa (z:=.bool (decide (y<0))) rfl ?_)
 have l1:=Jb n (aO x.natAbs) (aO y.natAbs) (by omega) (by omega)
 have l2:=Jb n (aO y.natAbs) (aO x.natAbs) (by omega) (by omega)
 simp only[ao] at l1 l2
 have hb:∀ p q:Bool,D.truth (.bool (!(D.beq (.bool p) (.bool q))))=some (!(p==q)):=fun p q=>rfl
 rw[hb]
 refine aa rfl ?_
 by_cases h1:x<0<;>by_cases h2:y<0
 ·rw[decide_eq_true h1,decide_eq_true h2,if_neg (by decide)]
  refine aa dx (aa dy (aa (z:=(0,[.sl (ab (aE y.natAbs)),.sl (ab (aE x.natAbs))])) ?_ ?_))
  ·refine aa (z:=.bool true) (by rw[show D.get (ah x) [1]=some (.bool (decide (x<0))) from rfl,decide_eq_true h1]) (aa (z:=true) rfl ?_)
   rw[if_pos rfl]
   exact aa dy (aa dx rfl)
  ·refine aa l2 (aa l1 (aa af ?_))
   by_cases h3:y.natAbs<x.natAbs
   ·refine aJ h3 ?_
    simp[cm,show x<y by omega]
   ·refine aM h3 (aa af ?_)
    by_cases h4:x.natAbs<y.natAbs
    ·refine aJ h4 ?_
     simp[cm,show ¬ x<y by omega,show y<x by omega]
    ·refine aM h4 ?_
     simp[cm,show ¬ x<y by omega,show ¬ y<x by omega]
 ·rw[decide_eq_true h1,decide_eq_false h2,if_pos (by decide)]
  refine aa (z:=.bool true) (by rw[show D.get (ah x) [1]=some (.bool (decide (x<0))) from rfl,decide_eq_true h1]) (aa (z:=true) rfl ?_)
  simp[cm,show x<y by omega]
 ·rw[decide_eq_false h1,decide_eq_true h2,if_pos (by decide)]
  refine aa (z:=.bool false) (by rw[show D.get (ah x) [1]=some (.bool (decide (x<0))) from rfl,decide_eq_false h1]) (aa (z:=false) rfl ?_)
  simp[cm,show ¬ x<y by omega,show y<x by omega]
 ·rw[decide_eq_false h1,decide_eq_false h2,if_neg (by decide)]
  refine aa dx (aa dy (aa (z:=(0,[.sl (ab (aE x.natAbs)),.sl (ab (aE y.natAbs))])) ?_ ?_))
  ·refine aa (z:=.bool false) (by rw[show D.get (ah x) [1]=some (.bool (decide (x<0))) from rfl,decide_eq_false h1]) (aa (z:=false) rfl rfl)
  ·refine aa l1 (aa l2 (aa af ?_))
   by_cases h3:x.natAbs<y.natAbs
   ·refine aJ h3 ?_
    simp[cm,show x<y by omega]
   ·refine aM h3 (aa af ?_)
    by_cases h4:y.natAbs<x.natAbs
    ·refine aJ h4 ?_
     simp[cm,show ¬ x<y by omega,show y<x by omega]
    ·refine aM h4 ?_
     simp[cm,show ¬ x<y by omega,show ¬ y<x by omega]
end Go.Proofs.YtjjjkojfijpeeaaGreat.Sy
end
section
set_option linter.unusedVariables false
namespace Go.Proofs.YtjjjkojfijpeeaaGreat.Sy
open Go Go.Proofs Go.Proofs.YtjjjkojfijpeeaaGreat.Geo
def Wd(x:Int):Prop:=x.natAbs<4611686018427387904
theorem Wd.inR{x:Int}(h:Wd x):inR x:=by unfold Wd at h;simp only[Sy.inR];omega
theorem Wd.In{x:Int}(h:Wd x):In x:=In.of h.inR
theorem LV(n:Nat){a b:Int}(ha:Wd a)(hb:b≠0)(hd:b ∣ a):cA (n+1) 144 [I a,I b]=some (I (a/b)):=by
 rw[LK]
 unfold DF
 obtain⟨q,rfl⟩:=hd
 have e1:(b*q).tdiv b=q:=Int.mul_tdiv_cancel_left _ hb
 have e2:b*q/b=q:=Int.mul_ediv_cancel_left _ hb
 have e3:(b*q).tmod b=0:=Int.mul_tmod_right ..
 have hq:Sy.inR q:=by
  have:q.natAbs<=(b*q).natAbs:=by rw[Int.natAbs_mul];exact Nat.le_mul_of_pos_left _ (by omega)
  unfold Wd at ha;simp only[Sy.inR];omega
 rw[e2]
 refine aa (tq hb (by rw[e1];exact hq)) (aa (z:=(0,[I q])) (aa (tH hb) ?_) rfl)
 rw[e1,e3]
 exact aa (z:=false) rfl (aa (z:=false) rfl (aa af rfl))
theorem I8(n:Nat){a b:Int}(ha:Wd a)(hb:Wd b):cA (n+4) 85 [ah a,ah b]=some (ah (Nat.gcd a.natAbs b.natAbs:Nat)):=by
 rw[NG]
 unfold Ik
 refine aa (qu n ha) (aa (z:=I a) rfl (aa (z:=.bool true) rfl (aa (qu n hb) (aa (z:=I b) rfl (aa (z:=.bool true) rfl (aa (z:=true) rfl (aa (z:=true) rfl (aa (z:=true) rfl ?_))))))))
 rw[if_pos rfl]
 obtain⟨r,h1,h2⟩:=wj (body:=fun(v1:List D)=>
  Option.bind (D.truth (D.bool (!(D.beq (gx v1 1) (D.int .i64 0))))) fun b2=>
  if b2 then(Option.bind (D.bin .rem (gx v1 0) (gx v1 1)) fun x3=>
  some (Sum.inl [(gx v1 1),x3])) else(some (Sum.inr (0,[(gx v1 0)]))))
  (fun a b hb=>by simp only[g0,g1,ca,af,Option.bind_some,hb,decide_false,Bool.not_false,if_true,tH hb])
  (fun a=>by simp only[g0,g1,ca,af,Option.bind_some,decide_true,Bool.not_true,Bool.false_eq_true,if_false]) _ a b rfl
 refine yz h1 ?_
 have hg:Nat.gcd a.natAbs b.natAbs<=4611686018427387903:=by unfold Wd at ha hb;exact pP (by omega) (by omega)
 have hr:Sy.inR r:=by simp only[Sy.inR];omega
 refine aa (xq n hr) (aa (Mr n (In.of hr)) ?_)
 rw[h2]
theorem IQ(n:Nat){x:Int}(hx:In x):cA (n+3) 83 [ah x]=some (I (sg x)):=by
 rw[PF]
 unfold IG
 refine aa (rO n hx) (aa cU (aa (z:=false) rfl (aa (z:=decide (x=0)) ?_ (aa af ?_))))
 ·rw[if_neg (by decide)]
  refine aa (xo n hx) (aa (z:=ab (aE x.natAbs)) rfl ?_)
  rw[af,aj]
  show some (D.beq (I ((aE x.natAbs).length:Nat)) (I (0:Nat)))=_
  rw[cb]
  congr 1
  rw[decide_eq_decide,List.length_eq_zero_iff,pV]
  omega
 ·by_cases h0:x=0
  ·refine aJ h0 ?_
   subst h0;rfl
  ·refine aM h0 (aa (z:=.bool (decide (x<0))) rfl (aa af ?_))
   by_cases h1:x<0
   ·refine aJ h1 ?_
    rw[uW h1]
   ·refine aM h1 ?_
    rw[kg (by omega)]
theorem IS(n:Nat){a b:Int}(ha:Wd a)(hb:Wd b)(hb0:b≠0)(hd:b ∣ a):cA (n+4) 87 [ah a,ah b]=some (ah (a/b)):=by
 rw[NB]
 unfold Iu
 refine aa (qu n ha) (aa (z:=I a) rfl (aa (z:=.bool true) rfl (aa (qu n hb) (aa (z:=I b) rfl (aa (z:=.bool true) rfl (aa (z:=true) rfl (aa (z:=true) rfl (aa (z:=true) rfl (aa (z:=true) ?_ (aa (z:=true) rfl ?_))))))))))
 ·rw[if_pos rfl,ca,decide_eq_false hb0];rfl
 ·rw[if_pos rfl]
  have hq:Sy.inR (a/b):=by
   obtain⟨q,rfl⟩:=hd
   rw[Int.mul_ediv_cancel_left _ hb0]
   have:q.natAbs<=(b*q).natAbs:=by rw[Int.natAbs_mul];exact Nat.le_mul_of_pos_left _ (by omega)
   unfold Wd at ha;simp only[Sy.inR];omega
  exact aa (LV (n+2) ha hb0 hd) (aa (xq n hq) rfl)
abbrev ID(n:Nat):D:=.int .u64 (n:Int)
theorem dw{n:Int}(h:0<=n/\n<18446744073709551616):IntKind.wrap .u64 n=n:=by
 obtain⟨h1,h2⟩:=h
 simp only[IntKind.wrap,IntKind.signed,IntKind.bits]
 first
  | omega
  | (simp;omega)
theorem GR(n:Nat){x:Int}(hx:Wd x):cA (n+4) 186 [ah x]=some (.tup [I x,.bool true]):=by
 rw[LT]
 unfold Fi
 have hx':x.natAbs<4611686018427387904:=hx
 have i1:Sy.inR (-9223372036854775808):=⟨by decide,by decide⟩
 have i2:Sy.inR 9223372036854775807:=⟨by decide,by decide⟩
 refine aa (rO (n+1) hx.In) (aa cU (aa (z:=false) rfl ?_))
 rw[if_neg (by decide)]
 refine aa (xq n i1) (aa (xq n i2) (aa (NY n hx.In (In.of i1)) ?_))
 rw[show cm x (-9223372036854775808)=1 by unfold cm;rw[if_neg (by omega),if_pos (by omega)]]
 refine aa (z:=.bool false) ag (aa (z:=false) rfl (aa (z:=false) ?_ (aa (z:=false) rfl ?_)))
 ·rw[if_neg (by decide)]
  refine aa (NY n hx.In (In.of i2)) ?_
  rw[show cm x 9223372036854775807=-1 by unfold cm;rw[if_pos (by omega)]]
  exact aa (z:=.bool false) dV rfl
 ·rw[if_neg (by decide)]
  have l1:=Bw x.natAbs
  have l0:=Gb x.natAbs
  refine aa (cZ (i:=1) (by decide)) ?_
  rw[l1]
  refine aa (z:=ID (x.natAbs/4294967296%4294967296)) (by simp only[D.conv];rw[dw (by omega)]) ?_
  refine aa (z:=ID (x.natAbs/4294967296%4294967296*4294967296)) (by simp only[D.bin,if_true];rw[dw (by omega)];simp) ?_
  refine aa (cZ (i:=0) (by decide)) ?_
  rw[l0]
  refine aa (z:=ID (x.natAbs%4294967296)) (by simp only[D.conv];rw[dw (by omega)]) ?_
  refine aa (z:=ID x.natAbs) (by simp only[D.bin,if_true];rw[dw (by omega)];congr 2;omega) ?_
  refine aa (z:=I (x.natAbs:Nat)) (by simp only[D.conv];rw[iP (by simp only[Sy.inR];omega)]) ?_
  refine aa (z:=(0,[I x])) (aa (z:=.bool (decide (x<0))) rfl (aa af ?_)) rfl
  by_cases h:x<0
  ·refine aJ h (aa (oJ (by simp only[Sy.inR];omega)) ?_)
   congr 4;omega
  ·refine aM h ?_
   congr 4;omega
theorem Ke(n:Nat){v:V}(hv:bd 2305843009213693951 v):cA (n+1) 187 [ac v]=some (.bool true):=by
 rw[JR]
 unfold FG
 have stp:∀ x:Int,(-2305843009213693951<=x/\x<=2305843009213693951)->∀ (i:Nat) (hi:i<3),D.get (ac v) [i]=some (I x)->(Option.bind (D.idx (I (i:Int)) 3) fun i4=>Option.bind (D.get (ac v) [i4]) fun x5=>Option.bind (D.bin .geq x5 (D.int .i64 2305843009213693952)) fun x6=>Option.bind (D.truth x6) fun b7=>
  Option.bind (if b7 then(some true) else(Option.bind (D.idx (I (i:Int)) 3) fun i8=>Option.bind (D.get (ac v) [i8]) fun x9=>Option.bind (D.bin .leq x9 (D.int .i64 (-2305843009213693952))) fun x10=>D.truth x10)) fun b11=>
  Option.bind (D.truth (D.bool b11)) fun b12=>if b12 then(some (Sum.inr (0,[(D.bool false)]))) else(Option.bind (D.bin .add (I (i:Int)) (D.int .i64 1)) fun x13=>some (Sum.inl [x13])))=some (Sum.inl [I ((i+1:Nat):Int)]:Sum (List D) (Nat×List D)):=fun x hx i hi hg=>by
  refine aa (aw hi) (aa hg (aa iD (aa af (aa (z:=false) ?_ (aa (z:=false) rfl ?_)))))
  ·refine aM (by omega) (aa (aw hi) (aa hg (aa oH ?_)))
   rw[af,decide_eq_false (by omega)]
  ·rw[if_neg (by decide)]
   exact aa (av (aF (i:=i) (by omega))) rfl
 refine cF (s':=[I (1:Nat)]) (aa ag (aa af (aJ (by decide) (stp v.x hv.1 0 (by decide) rfl)))) (cF (s':=[I (2:Nat)]) (aa ag (aa af (aJ (by decide) (stp v.y hv.2.1 1 (by decide) rfl)))) (cF (s':=[I (3:Nat)]) (aa ag (aa af (aJ (by decide) (stp v.z hv.2.2 2 (by decide) rfl)))) (fB (r:=(1,[])) (aa ag (aa af (aM (by decide) rfl))) rfl)))
def mK(v:V):D:=.st [ah v.x,ah v.y,ah v.z]
theorem OG(n:Nat){v:V}(hx:inR v.x)(hy:inR v.y)(hz:inR v.z):cA (n+4) 80 [ac v]=some (mK v):=by
 rw[OR]
 unfold Jn
 exact aa (nh v) (aa (xq n hx) (aa (nD v) (aa (xq n hy) (aa (mQ v) (aa (xq n hz) rfl)))))
theorem JB(n:Nat){v:V}(hv:bd 549755813888 v):∃ e:Int,cA (n+5) 155 [mK v]=some (.st [ac (bv v),I e]):=by
 rw[Lj]
 unfold DY
 have wx:Wd v.x:=by have:=hv.1;unfold Wd;omega
 have wy':Wd v.y:=by have:=hv.2.1;unfold Wd;omega
 have wz:Wd v.z:=by have:=hv.2.2;unfold Wd;omega
 have h0:Sy.inR 0:=⟨by decide,by decide⟩
 have w0:Wd 0:=by unfold Wd;decide
 have q1:Nat.gcd v.x.natAbs v.y.natAbs<=4611686018427387903:=by unfold Wd at wx wy';exact pP (by omega) (by omega)
 have q2:bA v<=4611686018427387903:=by
  unfold bA
  have:=pP (a:=(Nat.gcd v.x.natAbs v.y.natAbs:Nat)) (b:=v.z) (k:=4611686018427387903) (by simpa using q1) (by unfold Wd at wz;omega)
  simpa using this
 have wxx:Wd (v.x.natAbs:Nat):=by unfold Wd at *;omega
 have w1:Wd (Nat.gcd v.x.natAbs v.y.natAbs:Nat):=by unfold Wd;omega
 have w2:Wd (bA v:Nat):=by unfold Wd;omega
 have g01:=I8 n w0 wx
 have g02:=I8 n wxx wy'
 have g03:=I8 n w1 wz
 rw[show(Nat.gcd (0:Int).natAbs v.x.natAbs)=v.x.natAbs by simp] at g01
 rw[show(Nat.gcd ((v.x.natAbs:Nat):Int).natAbs v.y.natAbs)=Nat.gcd v.x.natAbs v.y.natAbs by simp] at g02
 rw[show(Nat.gcd ((Nat.gcd v.x.natAbs v.y.natAbs:Nat):Int).natAbs v.z.natAbs)=bA v by simp[bA]] at g03
 have fst:∀ {k:Nat×List D->Option D} {y:D},k (0,[ah (bA v:Nat)])=some y->Option.bind (cA (n+4) 34 [(D.int .i64 0)]) (fun r1=>Option.bind (bc (fun(v2:List D)=>
   Option.bind (D.bin .lss (gx v2 0) (D.int .i64 3)) fun x3=>Option.bind (D.truth x3) fun b4=>
   if b4 then(Option.bind (D.idx (gx v2 0) 3) fun i5=>Option.bind (D.get (mK v) [i5]) fun x6=>Option.bind (cA (n+4) 85 [(gx v2 1),x6]) fun r7=>
   Option.bind (D.bin .add (gx v2 0) (D.int .i64 1)) fun x8=>some (Sum.inl [x8,r7])) else(some (Sum.inr (0,[(gx v2 1)])))) [(D.int .i64 0),r1]) k)=some y:=by
  intro k y hk
  refine aa (xq (n+1) h0) ?_
  refine cF (s':=[I 1,ah (v.x.natAbs:Nat)]) (aa ag (aa af (aJ (by decide) (aa FQ (aa (z:=ah v.x) rfl (aa g01 (aa (av Hi) rfl))))))) ?_
  refine cF (s':=[I 2,ah (Nat.gcd v.x.natAbs v.y.natAbs:Nat)]) (aa ag (aa af (aJ (by decide) (aa FS (aa (z:=ah v.y) rfl (aa g02 (aa (av my) rfl))))))) ?_
  refine cF (s':=[I 3,ah (bA v:Nat)]) (aa ag (aa af (aJ (by decide) (aa F7 (aa (z:=ah v.z) rfl (aa g03 (aa (av Bl) rfl))))))) ?_
  exact fB (r:=(0,[ah (bA v:Nat)])) (aa ag (aa af (aM (by decide) rfl))) hk
 have hsg:=IQ (n+1) w2.In
 by_cases hz:bA v=0
 ·refine⟨31,fst (aa (z:=.bool false) rfl (aa (z:=false) rfl ?_))⟩
  rw[if_neg (by decide)]
  refine aa hsg ?_
  rw[hz]
  refine aa (z:=true) rfl ?_
  rw[if_pos rfl]
  have hv0:v=V.zero:=by
   by_cases h:v=V.zero
   ·exact h
   ·have:=jt h;omega
  rw[hv0];rfl
 ·have hg0:(bA v:Int)≠0:=by omega
  refine⟨0,fst (aa (z:=.bool false) rfl (aa (z:=false) rfl ?_))⟩
  rw[if_neg (by decide)]
  refine aa hsg ?_
  rw[kg (show(0:Int)<bA v by omega)]
  refine aa (z:=false) rfl ?_
  rw[if_neg (by decide)]
  have bp:=kY hv
  have z1:=IS n wx w2 hg0 (vM v)
  have z2:=IS n wy' w2 hg0 (wD v)
  have z3:=IS n wz w2 hg0 (wW v)
  have s1:=GR n (x:=v.x/(bA v:Nat)) (by have:=bp.1;unfold Wd;simp only[bv] at this;omega)
  have s2:=GR n (x:=v.y/(bA v:Nat)) (by have:=bp.2.1;unfold Wd;simp only[bv] at this;omega)
  have s3:=GR n (x:=v.z/(bA v:Nat)) (by have:=bp.2.2;unfold Wd;simp only[bv] at this;omega)
  refine cF (s':=[I 1,.st [ac V.zero,I 0],.st [ac ⟨v.x/(bA v:Nat),0,0⟩,I 0]]) ?_ (cF (s':=[I 2,.st [ac V.zero,I 0],.st [ac ⟨v.x/(bA v:Nat),v.y/(bA v:Nat),0⟩,I 0]]) ?_ (cF (s':=[I 3,.st [ac V.zero,I 0],.st [ac ⟨v.x/(bA v:Nat),v.y/(bA v:Nat),v.z/(bA v:Nat)⟩,I 0]]) ?_ (fB (r:=(1,[.st [ac V.zero,I 0],.st [ac (bv v),I 0]])) (aa ag (aa af (aM (by decide) rfl))) ?_)))
  ·refine aa ag (aa af (aJ (by decide) (aa FQ (aa (z:=ah v.x) rfl (aa z1 (aa s1 (aa (z:=I (v.x/(bA v:Nat))) rfl (aa (z:=.bool true) rfl (aa (z:=.bool false) rfl (aa (z:=false) rfl ?_))))))))))
   rw[if_neg (by decide)]
   exact aa FQ (aa (z:=.st [ac ⟨v.x/(bA v:Nat),0,0⟩,I 0]) rfl (aa (av Hi) rfl))
  ·refine aa ag (aa af (aJ (by decide) (aa FS (aa (z:=ah v.y) rfl (aa z2 (aa s2 (aa (z:=I (v.y/(bA v:Nat))) rfl (aa (z:=.bool true) rfl (aa (z:=.bool false) rfl (aa (z:=false) rfl ?_))))))))))
   rw[if_neg (by decide)]
   exact aa FS (aa (z:=.st [ac ⟨v.x/(bA v:Nat),v.y/(bA v:Nat),0⟩,I 0]) rfl (aa (av my) rfl))
  ·refine aa ag (aa af (aJ (by decide) (aa F7 (aa (z:=ah v.z) rfl (aa z3 (aa s3 (aa (z:=I (v.z/(bA v:Nat))) rfl (aa (z:=.bool true) rfl (aa (z:=.bool false) rfl (aa (z:=false) rfl ?_))))))))))
   rw[if_neg (by decide)]
   exact aa F7 (aa (z:=.st [ac ⟨v.x/(bA v:Nat),v.y/(bA v:Nat),v.z/(bA v:Nat)⟩,I 0]) rfl (aa (av Bl) rfl))
  ·rw[if_neg (show ¬ (1:Nat)=0 by decide)]
   refine aa (z:=ac (bv v)) rfl (aa (Ke (n+3) (v:=bv v) ?_) (aa (z:=.bool false) rfl (aa (z:=false) rfl rfl)))
   simp only[bd] at bp ⊢;omega
theorem MK(n:Nat){a b c:V}(ha:bd MV a)(hb:bd MV b)(hc:bd MV c):cA (n+6) 106 [ac a,ac b,ac c]=some (ac (bv (V.cross (b.sub a) (c.sub a)))):=by
 rw[My]
 unfold D2
 have h1:bd 524288 (b.sub a):=by have:=lQ hb ha;simpa [MV] using this
 have h2:bd 524288 (c.sub a):=by have:=lQ hc ha;simpa [MV] using this
 have h3:=gq h1 h2
 refine aa (Be (n+4) hb ha (by decide)) (aa (Be (n+4) hc ha (by decide)) (aa (It (n+4) h1 h2 (by decide)) ?_))
 have h4:bd 549755813888 (V.cross (b.sub a) (c.sub a)):=h3
 generalize V.cross (b.sub a) (c.sub a)=m at *
 obtain⟨e,he⟩:=JB n h4
 refine aa (OG (n+1) ?_ ?_ ?_) (aa he rfl)
 ·have:=h4.1;simp only[Sy.inR];omega
 ·have:=h4.2.1;simp only[Sy.inR];omega
 ·have:=h4.2.2;simp only[Sy.inR];omega
end Go.Proofs.YtjjjkojfijpeeaaGreat.Sy
end
section
set_option linter.unusedVariables false
namespace Go.Proofs.YtjjjkojfijpeeaaGreat.Sy
open Go Go.Proofs Go.Proofs.YtjjjkojfijpeeaaGreat.Geo
theorem nC:∀ {l:List Nat} {j v:Nat},j<l.length->aS (l.set j v)+65536^j*l.getD j 0=aS l+65536^j*v
 | d::l,0,v,_=>by simp only[List.set_cons_zero,aS,Nat.pow_zero,Nat.one_mul,List.getD_cons_zero];omega
 | d::l,j+1,v,h=>by
  have ih:=nC (l:=l) (j:=j) (v:=v) (by simpa using h)
  simp only[List.set_cons_succ,aS,Nat.pow_succ,List.getD_cons_succ]
  rw[Nat.mul_comm (65536^j) 65536,Nat.mul_assoc,Nat.mul_assoc]
  generalize 65536^j*l.getD j 0=x at *
  generalize 65536^j*v=y at *
  omega
theorem nI(l:List Nat)(j v:Nat):(ab l).set j (I (v:Int))=ab (l.set j v):=by simp[ab,List.map_set]
theorem j6(l:List Nat)(j v i:Nat)(h:j<l.length):(l.set j v).getD i 0=if i=j then v else l.getD i 0:=by
 by_cases e:i=j
 ·subst e;simp[List.getD,h]
 ·simp[List.getD,e,List.getElem?_set,show ¬ j=i from fun k=>e k.symm]
theorem tJ(m:Nat):List.replicate m (D.int .i64 0)=ab (List.replicate m 0):=by simp[ab]
theorem n9{a b:Nat}(h:a*b<=9223372036854775807):D.bin .mul (I (a:Int)) (I (b:Int))=some (I ((a*b:Nat):Int)):=by
 rw[cQ (by simp only[inR];rw[<-Int.natCast_mul];omega),Int.natCast_mul]
theorem aZ{a b:Nat}(h:a+b<=9223372036854775807):D.bin .add (I (a:Int)) (I (b:Int))=some (I ((a+b:Nat):Int)):=by
 rw[av (by simp only[inR];omega),Int.natCast_add]
theorem yO(a:Nat):D.natOf (I (a:Int))=some a:=by simp[D.natOf]
theorem tT{l:List Nat}{i:Nat}(h:i<l.length):D.idx (I (i:Int)) (ab l).length=some i:=by rw[aj];exact aw h
theorem FX{l:List Nat}(h:∀ i,i<l.length->l.getD i 0<65536):dl l:=fun d hd=>by
 obtain⟨i,hi,rfl⟩:=List.getElem_of_mem hd
 have:=h i hi
 simpa [List.getD,hi] using this
theorem Gh(n:Nat){a b:List Nat}(ha:dl a)(hb:dl b)(hla:a.length<=400000)(hlb:b.length<=400000):cA (n+2) 146 [.sl (ab a),.sl (ab b)]=some (.sl (ab (aE (aS a*aS b)))):=by
 rw[Lr]
 unfold E1
 obtain⟨M,hM⟩:∃ M,M=a.length+b.length+1:=⟨_,rfl⟩
 refine aa (z:=ab a) rfl (aa (z:=ab b) rfl (aa (z:=I ((a.length+b.length:Nat):Int)) (by rw[aj,aj];exact aZ (by omega)) (aa (z:=I (M:Int)) (by rw[hM];exact aZ (b:=1) (by omega)) (aa (yO M) ?_))))
 rw[if_pos (by omega),tJ]
 refine be (fun i s=>∃ out:List Nat,s=[I (i:Int),.sl (ab out)]/\out.length=M/\dl out/\aS out=vt a i*aS b) a.length 0 (Nat.zero_le _) ⟨List.replicate M 0,rfl,by simp,fun x hx=>by rw[List.eq_of_mem_replicate hx];decide,by have:=ml [] M;rw[List.nil_append] at this;rw[this];simp[vt,aS]⟩ (fun i hi s hJ=>?_) (fun s hJ=>?_)
 ·obtain⟨out,rfl,ho,hdo,hv⟩:=hJ
  left
  have hai:=ha.getD i
  obtain⟨r,h1,out1,rfl,o1,o2,o3⟩:=pu (body:=fun(v10:List D)=>
   Option.bind (D.asSl (.sl (ab b))) fun l11=>
   Option.bind (D.bin .lss (gx v10 0) (D.int .i64 (List.length l11))) fun x12=>
   Option.bind (D.truth x12) fun b13=>
   if b13 then(Option.bind (D.bin .add (I (i:Int)) (gx v10 0)) fun x14=>
   Option.bind (D.bin .add (I (i:Int)) (gx v10 0)) fun x15=>
   Option.bind (D.idx x15 (List.length (D.els (gx v10 1)))) fun i16=>
   Option.bind ((D.els (gx v10 1))[i16]?) fun x17=>
   Option.bind (D.asSl (.sl (ab a))) fun l18=>
   Option.bind (D.idx (I (i:Int)) (List.length l18)) fun i19=>
   Option.bind (l18[i19]?) fun x20=>
   Option.bind (D.asSl (.sl (ab b))) fun l21=>
   Option.bind (D.idx (gx v10 0) (List.length l21)) fun i22=>
   Option.bind (l21[i22]?) fun x23=>
   Option.bind (D.bin .mul x20 x23) fun x24=>
   Option.bind (D.bin .add x17 x24) fun x25=>
   Option.bind (D.idx x14 (List.length (D.els (gx v10 1)))) fun i26=>
   Option.bind ((D.els (gx v10 1))[i26]?) fun x27=>
   Option.bind (D.bin .add (gx v10 0) (D.int .i64 1)) fun x28=>
   some (Sum.inl [x28,(D.sl (List.set (D.els (gx v10 1)) i26 x25))])) else(some (Sum.inr (0,[(D.sl (D.els (gx v10 1)))]))))
   (s0:=[I 0,.sl (ab out)])
   (fun k s=>∃ o:List Nat,s=[I (k:Int),.sl (ab o)]/\o.length=M/\(∀ j,j<M->o.getD j 0<=4295032831/\(i+k<=j->o.getD j 0<65536))/\aS o=aS out+65536^i*(a.getD i 0*vt b k))
   (fun r=>∃ o:List Nat,r=(0,[.sl (ab o)])/\o.length=M/\(∀ j,j<M->o.getD j 0<=4295032831)/\aS o=aS out+65536^i*(a.getD i 0*aS b)) b.length 0 (Nat.zero_le _)
   ⟨out,rfl,ho,fun j _=>by have:=hdo.getD j;omega,by simp[vt]⟩ (fun k hk s hJ=>by
    obtain⟨o,rfl,o1,o2,o3⟩:=hJ
    left
    have hbk:=hb.getD k
    have hik:i+k<o.length:=by omega
    have hp:a.getD i 0*b.getD k 0<=65535*65535:=Nat.mul_le_mul (by omega) (by omega)
    have hx:=(o2 (i+k) (by omega)).2 (Nat.le_refl _)
    refine⟨[I ((k+1:Nat):Int),.sl (ab (o.set (i+k) (o.getD (i+k) 0+a.getD i 0*b.getD k 0)))],?_,_,rfl,by simpa using o1,fun j hj=>?_,?_⟩
    ·refine aa (z:=ab b) rfl (aa ag (aa af (aJ (by show(k:Int)<((ab b).length:Int);rw[aj];omega) ?_)))
     refine aa (aZ (a:=i) (b:=k) (by omega)) (aa (aZ (a:=i) (b:=k) (by omega)) (aa (tT hik) (aa (de hik) ?_)))
     refine aa (z:=ab a) rfl (aa (tT hi) (aa (de hi) (aa (z:=ab b) rfl (aa (tT hk) (aa (de hk) ?_)))))
     refine aa (n9 (by omega)) (aa (aZ (by omega)) (aa (tT hik) (aa (de hik) (aa (av (aF (i:=k) (by omega))) ?_))))
     show some (Sum.inl [_,D.sl (List.set (ab o) (i+k) _)])=_
     rw[nI];rfl
    ·rw[j6 _ _ _ _ hik]
     have:=o2 j hj
     split
     ·omega
     ·omega
    ·have e:=nC (l:=o) (j:=i+k) (v:=o.getD (i+k) 0+a.getD i 0*b.getD k 0) hik
     rw[vt,Nat.mul_add,Nat.mul_add]
     have e2:65536^i*(a.getD i 0*(b.getD k 0*65536^k))=65536^(i+k)*(a.getD i 0*b.getD k 0):=by
      rw[Nat.pow_add,<-Nat.mul_assoc (a.getD i 0),Nat.mul_comm (a.getD i 0*b.getD k 0),Nat.mul_assoc]
     rw[Nat.mul_add] at e
     omega) (fun s hJ=>by
    obtain⟨o,rfl,o1,o2,o3⟩:=hJ
    rw[kC] at o3
    exact⟨_,aa (z:=ab b) rfl (aa ag (aa af (aM (by show ¬ ((b.length:Int)<((ab b).length:Int));rw[aj];omega) rfl))),o,rfl,o1,fun j hj=>(o2 j hj).1,o3⟩)
  obtain⟨r2,h2,out2,rfl,p1,p2,p3⟩:=pu (body:=fun(v30:List D)=>
   Option.bind (D.bin .lss (gx v30 1) (D.int .i64 (List.length (D.els (gx v30 2))))) fun x31=>
   Option.bind (D.truth x31) fun b32=>
   if b32 then(Option.bind (D.idx (gx v30 1) (List.length (D.els (gx v30 2)))) fun i33=>
   Option.bind ((D.els (gx v30 2))[i33]?) fun x34=>
   Option.bind (D.bin .add x34 (gx v30 0)) fun x35=>
   Option.bind (D.bin .rem x35 (D.int .i64 65536)) fun x36=>
   Option.bind (D.idx (gx v30 1) (List.length (D.els (gx v30 2)))) fun i37=>
   Option.bind ((D.els (gx v30 2))[i37]?) fun x38=>
   Option.bind (D.bin .quo x35 (D.int .i64 65536)) fun x39=>
   Option.bind (D.bin .add (gx v30 1) (D.int .i64 1)) fun x40=>
   some (Sum.inl [x39,x40,(D.sl (List.set (D.els (gx v30 2)) i37 x36))])) else(some (Sum.inr (0,[(D.sl (D.els (gx v30 2)))]))))
   (s0:=[I 0,I 0,.sl (ab out1)])
   (fun k s=>∃ (o:List Nat) (c:Nat),s=[I (c:Int),I (k:Int),.sl (ab o)]/\o.length=M/\(∀ j,j<k->o.getD j 0<65536)/\(∀ j,k<=j->o.getD j 0=out1.getD j 0)/\c<=131072/\aS o+65536^k*c=aS out1)
   (fun r=>∃ o:List Nat,r=(0,[.sl (ab o)])/\o.length=M/\dl o/\∃ c,aS o+65536^M*c=aS out1) M 0 (Nat.zero_le _)
   ⟨out1,0,rfl,o1,fun j hj=>absurd hj (Nat.not_lt_zero _),fun j _=>rfl,by omega,by simp⟩ (fun k hk s hJ=>by
    obtain⟨o,c,rfl,q1,q2,q3,q4,q5⟩:=hJ
    left
    have hko:k<o.length:=by omega
    have hx:=o2 k hk
    have hq:=q3 k (Nat.le_refl _)
    refine⟨[I (((o.getD k 0+c)/65536:Nat):Int),I ((k+1:Nat):Int),.sl (ab (o.set k ((o.getD k 0+c)%65536)))],?_,_,_,rfl,by simpa using q1,fun j hj=>?_,fun j hj=>?_,by omega,?_⟩
    ·refine aa ag (aa af (aJ (by show(k:Int)<((ab o).length:Int);rw[aj];omega) ?_))
     refine aa (tT hko) (aa (de hko) (aa (aZ (by omega)) (aa (j8 (b:=65536) (by decide)) (aa (tT hko) (aa (de hko) (aa (jd (b:=65536) (by decide) (by omega)) (aa (av (aF (i:=k) (by omega))) ?_)))))))
     show some (Sum.inl [_,_,D.sl (List.set (ab o) k _)])=_
     rw[nI];rfl
    ·rw[j6 _ _ _ _ hko]
     split
     ·omega
     ·exact q2 j (by omega)
    ·rw[j6 _ _ _ _ hko,if_neg (by omega)];exact q3 j (by omega)
    ·have e:=nC (l:=o) (j:=k) (v:=(o.getD k 0+c)%65536) hko
     have e2:o.getD k 0+c=(o.getD k 0+c)%65536+65536*((o.getD k 0+c)/65536):=by omega
     have e3:65536^k*(o.getD k 0+c)=65536^k*((o.getD k 0+c)%65536)+65536^k*(65536*((o.getD k 0+c)/65536)):=by rw[<-Nat.mul_add,<-e2]
     rw[Nat.mul_add] at e3
     rw[Nat.pow_succ,Nat.mul_assoc]
     omega) (fun s hJ=>by
    obtain⟨o,c,rfl,q1,q2,q3,q4,q5⟩:=hJ
    exact⟨_,aa ag (aa af (aM (by show ¬ ((M:Int)<((ab o).length:Int));rw[aj];omega) rfl)),o,rfl,q1,FX fun j hj=>q2 j (by omega),c,q5⟩)
  obtain⟨c,p4⟩:=p3
  refine⟨[I ((i+1:Nat):Int),.sl (ab out2)],?_,out2,rfl,p1,p2,?_⟩
  ·refine aa (z:=ab a) rfl (aa ag (aa af (aJ (by show(i:Int)<((ab a).length:Int);rw[aj];omega) ?_)))
   refine aa h1 (aa h2 ?_)
   exact aa (av (aF (i:=i) (by omega))) rfl
  ·have hval:aS out1=vt a (i+1)*aS b:=by
    rw[o3,hv,vt,Nat.add_mul,Nat.mul_comm (a.getD i 0) (65536^i),Nat.mul_assoc]
   have hlt:vt a (i+1)*aS b<65536^M:=by
    have l1:=rA ha (i+1)
    have l2:=jI hb
    have l3:vt a (i+1)*aS b<65536^(i+1)*65536^b.length:=Nat.mul_lt_mul'' l1 l2
    have l4:65536^(i+1)*65536^b.length<=65536^M:=by rw[<-Nat.pow_add];exact Nat.pow_le_pow_right (by decide) (by omega)
    omega
   have hc:c=0:=by
    rcases Nat.eq_zero_or_pos c with h|h
    ·exact h
    ·have:65536^M*1<=65536^M*c:=Nat.mul_le_mul_left _ h
     omega
   subst hc
   rw[<-hval,<-p4];simp
 ·obtain⟨out,rfl,ho,hdo,hv⟩:=hJ
  refine⟨(0,[.sl (ab out)]),aa (z:=ab a) rfl (aa ag (aa af (aM (by show ¬ ((a.length:Int)<((ab a).length:Int));rw[aj];omega) rfl))),?_⟩
  refine aa (wl n (l:=out) (by omega)) ?_
  rw[gc hdo,hv,kC]
theorem Ih(n:Nat)(x:Int):cA (n+1) 145 [I x]=some (.bool (decide (x<2147483648)&&decide (x>-2147483648))):=by
 rw[JI]
 unfold DT
 refine aa ag (aa af ?_)
 cases h:decide (x<2147483648)
 ·rfl
 ·rw[if_pos rfl];exact aa (aa dV rfl) rfl
theorem uR(x y:Int):sgn (!(decide (decide (x<0)=decide (y<0)))) (x.natAbs*y.natAbs)=x*y:=by
 unfold sgn
 rw[<-Int.natAbs_mul]
 by_cases hx:x<0<;>by_cases hy:y<0
 ·have:=Int.mul_pos_of_neg_of_neg hx hy;simp[hx,hy];omega
 ·have:=Int.mul_nonpos_of_nonpos_of_nonneg (Int.le_of_lt hx) (Int.not_lt.1 hy);simp[hx,hy];omega
 ·have:=Int.mul_nonpos_of_nonneg_of_nonpos (Int.not_lt.1 hx) (Int.le_of_lt hy);simp[hx,hy];omega
 ·have:=Int.mul_nonneg (Int.not_lt.1 hx) (Int.not_lt.1 hy);simp[hx,hy];omega
theorem Q7(n:Nat){x y:Int}(hx:Wd x)(hy:Wd y):cA (n+4) 89 [ah x,ah y]=some (ah (x*y)):=by
 rw[Nv]
 unfold H4
 refine aa (qu n hx) (aa (z:=I x) rfl (aa (z:=.bool true) rfl (aa (qu n hy) (aa (z:=I y) rfl (aa (z:=.bool true) rfl (aa (z:=true) rfl (aa (z:=true) rfl (aa (z:=true) rfl ?_))))))))
 refine aa (z:=(decide (x<2147483648)&&decide (x>-2147483648))) (by rw[if_pos rfl];exact aa (Ih (n+2) x) rfl) (aa af ?_)
 refine aa (z:=((decide (x<2147483648)&&decide (x>-2147483648))&&(decide (y<2147483648)&&decide (y>-2147483648)))) (by
  cases (decide (x<2147483648)&&decide (x>-2147483648))
  ·rfl
  ·rw[if_pos rfl];exact aa (Ih (n+2) y) rfl) (aa af ?_)
 cases hb:((decide (x<2147483648)&&decide (x>-2147483648))&&(decide (y<2147483648)&&decide (y>-2147483648)))
 ·rw[if_neg (by decide)]
  refine aa (rO (n+1) hx.In) (aa cU (aa af (aa (z:=false) ?_ (aa af ?_))))
  ·rw[if_neg (by decide)];exact aa (rO (n+1) hy.In) rfl
  ·rw[if_neg (by decide)]
   have lx:=bF 32 _ hx.In
   have ly:=bF 32 _ hy.In
   refine aa (z:=.bool (decide (x<0))) rfl (aa (z:=.bool (decide (y<0))) rfl (aa (xo (n+1) hx.In) (aa (xo (n+1) hy.In) (aa (Gh (n+1) (aO _) (aO _) (by omega) (by omega)) (aa (z:=ah (x*y)) ?_ rfl)))))
   rw[ao,ao]
   have hxy:x.natAbs*y.natAbs<65536^8:=by
    have e:(65536:Nat)^8=18446744073709551616*18446744073709551616:=by decide
    rw[e];unfold Wd at hx hy
    exact Nat.mul_lt_mul'' (by omega) (by omega)
   have l8:=bF 8 _ hxy
   have h32:x.natAbs*y.natAbs<65536^32:=Nat.lt_of_lt_of_le hxy (Nat.pow_le_pow_right (by decide) (by decide))
   have:=FR (n+1) (l:=aE (x.natAbs*y.natAbs)) (neg:=!(decide (decide (x<0)=decide (y<0)))) (aO _) (by omega) (by rw[ao];exact h32)
   rw[ao,uR] at this
   rw[<-this]
   congr 4
 ·rw[if_pos rfl]
  simp only[Bool.and_eq_true,decide_eq_true_eq] at hb
  have:=gu (A:=2147483648) (B:=2147483648) (a:=x) (b:=y) (by omega) (by omega)
  have hr:inR (x*y):=by simp only[inR];omega
  exact aa (cQ hr) (aa (xq n hr) rfl)
theorem OI(n:Nat){x y:Int}(hx:Wd x)(hy:Wd y):cA (n+4) 59 [ah x,ah y]=some (ah (x+y)):=by
 rw[Nz]
 unfold Is
 refine aa (qu n hx) (aa (z:=I x) rfl (aa (z:=.bool true) rfl (aa (qu n hy) (aa (z:=I y) rfl (aa (z:=.bool true) rfl (aa (z:=true) rfl (aa (z:=true) rfl (aa (z:=true) rfl ?_))))))))
 rw[if_pos rfl]
 have hr:inR (x+y):=by unfold Wd at hx hy;simp only[inR];omega
 exact aa (av hr) (aa (xq n hr) rfl)
end Go.Proofs.YtjjjkojfijpeeaaGreat.Sy
end
section
namespace Go.Proofs.YtjjjkojfijpeeaaGreat
open Go
def lu(n:Nat):Nat:=2^(32*n)
theorem dC(n:Nat):lu n=2^(32*n):=rfl
attribute [irreducible] lu
def eN:Nat:=lu 16
theorem fQ:eN=lu 16:=rfl
attribute [irreducible] eN
theorem lY{a b:Nat}(h:a<=b):lu a<=lu b:=by rw[dC,dC];exact Nat.pow_le_pow_right (by omega) (by omega)
theorem tS:lu 2=18446744073709551616:=by rw[dC]
theorem Bh(n:Nat):0<lu n:=by rw[dC];exact Nat.two_pow_pos _
theorem fI:0<eN:=fQ ▸ Bh 16
theorem uj{n:Nat}(h:n<18446744073709551616):n<eN:=by
 rw[fQ];rw[<-tS] at h;exact Nat.lt_of_lt_of_le h (lY (by omega))
def bD(X k:Nat):Int:=((X/2^(32*k)%2^32:Nat):Int)
theorem lV(X k:Nat):bD X k<=4294967295:=by
 unfold bD;have:=Nat.mod_lt (X/2^(32*k)) (show 0<2^32 by decide);omega
theorem rM(X k:Nat):bD X k<4294967296:=by
 unfold bD;have:=Nat.mod_lt (X/2^(32*k)) (show 0<2^32 by decide);omega
theorem cw(X k:Nat):0<=bD X k:=by unfold bD;exact Int.natCast_nonneg _
theorem Bi(a b:Nat)(h:a<=b):2^b=2^a*2^(b-a):=by rw[<-Nat.pow_add];congr 1;omega
theorem iL(X k j:Nat):bD (X%2^(32*k)) j=if j<k then bD X j else 0:=by
 unfold bD
 split
 ·rename_i h
  congr 1
  rw[Bi (32*j) (32*k) (by omega),Nat.mod_mul_right_div_self,show 32*k-32*j=32+(32*k-32*j-32) from by omega,Nat.pow_add,Nat.mod_mul_right_mod]
 ·rename_i h
  rw[Nat.div_eq_of_lt]
  ·simp
  ·exact Nat.lt_of_lt_of_le (Nat.mod_lt _ (Nat.two_pow_pos _)) (Nat.pow_le_pow_right (by decide) (by omega))
theorem uG(n:Nat):∀ (X Y:Nat),X<2^(32*n)->Y<2^(32*n)->(∀ k,k<n->bD X k=bD Y k)->X=Y:=by
 induction n with
 | zero=>intro X Y hX hY _;simp at hX hY;omega
 | succ n ih=>
  intro X Y hX hY h
  have hs:∀ Z:Nat,Z=Z%2^(32*n)+2^(32*n)*(Z/2^(32*n)):=fun Z=>by have:=Nat.mod_add_div Z (2^(32*n));omega
  have hm:X%2^(32*n)=Y%2^(32*n):=by
   refine ih _ _ (Nat.mod_lt _ (Nat.two_pow_pos _)) (Nat.mod_lt _ (Nat.two_pow_pos _)) fun k hk=>?_
   rw[iL,iL,if_pos hk,if_pos hk]
   exact h k (by omega)
  have hd:X/2^(32*n)=Y/2^(32*n):=by
   have h1:=h n (by omega)
   unfold bD at h1
   have e:∀ Z,Z<2^(32*(n+1))->Z/2^(32*n)<2^32:=fun Z hZ=>by
    rw[Nat.div_lt_iff_lt_mul (Nat.two_pow_pos _),<-Nat.pow_add,show 32+32*n=32*(n+1) from by omega];exact hZ
   rw[Nat.mod_eq_of_lt (e X hX),Nat.mod_eq_of_lt (e Y hY)] at h1
   exact Int.ofNat.inj h1
  rw[hs X,hs Y,hm,hd]
theorem AE{X Y:Nat}(hX:X<eN)(hY:Y<eN)(h:∀ k,k<16->bD X k=bD Y k):X=Y:=by
 rw[fQ,dC] at hX hY
 exact uG 16 X Y hX hY h
def rR(s V Z j:Nat):Int:=if j<s then bD V j else bD Z j
theorem s8(s V Z:Nat):rR s V Z s=bD Z s:=by unfold rR;rw[if_neg (Nat.lt_irrefl s)]
def ff(X Y k:Nat):Nat:=(X%2^(32*k)+Y%2^(32*k))/2^(32*k)
theorem kR(X Y k:Nat):ff X Y k<=1:=by
 unfold ff
 have h:=Nat.two_pow_pos (32*k)
 have h1:=Nat.mod_lt X h
 have h2:=Nat.mod_lt Y h
 have:(X%2^(32*k)+Y%2^(32*k))/2^(32*k)<2:=(Nat.div_lt_iff_lt_mul h).2 (by omega)
 omega
theorem oS(X Y:Nat):ff X Y 0=0:=by simp[ff,Nat.mod_one]
theorem ig(X k:Nat):X=X%2^(32*k)+2^(32*k)*(X/2^(32*k)):=by have:=Nat.mod_add_div X (2^(32*k));omega
theorem dp(k:Nat):2^(32*(k+1))=2^(32*k)*4294967296:=by rw[show 32*(k+1)=32*k+32 from by omega,Nat.pow_add]
theorem eu(X k:Nat):X%2^(32*(k+1))=X%2^(32*k)+2^(32*k)*(X/2^(32*k)%4294967296):=by rw[dp,Nat.mod_mul]
theorem oT(X Y k:Nat):((ff X Y (k+1):Nat):Int)=((ff X Y k:Nat)+(bD X k+bD Y k))/4294967296:=by
 unfold ff bD
 have hp:=Nat.two_pow_pos (32*k)
 rw[eu,eu,dp,<-Nat.div_div_eq_div_mul]
 generalize 2^(32*k)=p at *
 have:(X%p+p*(X/p%4294967296)+(Y%p+p*(Y/p%4294967296)))/p=(X%p+Y%p)/p+(X/p%4294967296+Y/p%4294967296):=by
  rw[show X%p+p*(X/p%4294967296)+(Y%p+p*(Y/p%4294967296))=(X%p+Y%p)+p*(X/p%4294967296+Y/p%4294967296) from by rw[Nat.mul_add];omega,Nat.add_mul_div_left _ _ hp]
 rw[this]
 simp only[show(2:Nat)^32=4294967296 from rfl]
 omega
theorem zx(X Y k:Nat):bD (X+Y) k=((ff X Y k:Nat)+(bD X k+bD Y k))%4294967296:=by
 unfold ff bD
 have hp:=Nat.two_pow_pos (32*k)
 have hx:=ig X k
 have hy:=ig Y k
 generalize 2^(32*k)=p at *
 have:(X+Y)/p=(X%p+Y%p)/p+(X/p+Y/p):=by
  rw[show X+Y=(X%p+Y%p)+p*(X/p+Y/p) from by rw[Nat.mul_add];omega,Nat.add_mul_div_left _ _ hp]
 rw[this]
 simp only[show(2:Nat)^32=4294967296 from rfl]
 omega
theorem vV:2^(32*16)=eN:=by rw[fQ,dC 16]
theorem Av{X Y:Nat}(hX:X<eN)(hY:Y<eN):ff X Y 16=if X+Y<eN then 0 else 1:=by
 have h:=kR X Y 16
 unfold ff at *
 rw[vV,Nat.mod_eq_of_lt hX,Nat.mod_eq_of_lt hY] at *
 split
 ·rw[Nat.div_eq_of_lt (by assumption)]
 ·have:1<=(X+Y)/eN:=(Nat.le_div_iff_mul_le fI).2 (by omega)
  omega
def bS(X Y k:Nat):Nat:=if X%2^(32*k)<Y%2^(32*k) then 1 else 0
theorem qz(X Y k:Nat):bS X Y k<=1:=by unfold bS;split<;>omega
theorem m9(X Y:Nat):bS X Y 0=0:=by simp[bS,Nat.mod_one]
theorem mO(X Y k:Nat):((bS X Y (k+1):Nat):Int)=if bD X k-bD Y k-(bS X Y k:Nat)<0 then 1 else 0:=by
 unfold bS bD
 have hp:=Nat.two_pow_pos (32*k)
 rw[eu,eu]
 have h1:=Nat.mod_lt X hp
 have h2:=Nat.mod_lt Y hp
 simp only[show(2:Nat)^32=4294967296 from rfl]
 generalize 2^(32*k)=p at *
 generalize X/p%4294967296=a
 generalize Y/p%4294967296=b
 generalize X%p=x at *
 generalize Y%p=y at *
 rcases Nat.lt_trichotomy a b with h|h|h
 ·have:p*a+p<=p*b:=by rw[<-Nat.mul_succ];exact Nat.mul_le_mul_left _ h
  rw[if_pos (by omega)]
  split<;>rw[if_pos (by omega)]<;>rfl
 ·subst h
  by_cases h3:x<y
  ·rw[if_pos (by omega),if_pos h3,if_pos (by omega)];rfl
  ·rw[if_neg (by omega),if_neg h3,if_neg (by omega)];rfl
 ·have:p*b+p<=p*a:=by rw[<-Nat.mul_succ];exact Nat.mul_le_mul_left _ h
  rw[if_neg (by omega)]
  split<;>rw[if_neg (by omega)]<;>rfl
theorem yU{X Y:Nat}(h:Y<=X)(k:Nat):bD (X-Y) k=(bD X k-bD Y k-(bS X Y k:Nat))%4294967296:=by
 unfold bS bD
 have hp:=Nat.two_pow_pos (32*k)
 have hx:=ig X k
 have hy:=ig Y k
 have h1:=Nat.mod_lt X hp
 have h2:=Nat.mod_lt Y hp
 simp only[show(2:Nat)^32=4294967296 from rfl]
 generalize 2^(32*k)=p at *
 have hle:Y/p<=X/p:=Nat.div_le_div_right h
 generalize hxq:X/p=a at *
 generalize hyq:Y/p=b at *
 generalize hxr:X%p=x at *
 generalize hyr:Y%p=y at *
 by_cases h3:x<y
 ·have hab:b<a:=by
   rcases Nat.lt_or_ge b a with h'|h'
   ·exact h'
   ·have:a=b:=by omega
    subst this;omega
  have e:X-Y=(x+p-y)+p*(a-b-1):=by
   rw[hx,hy,Nat.mul_sub,Nat.mul_sub]
   have:p*b+p<=p*a:=by rw[<-Nat.mul_succ];exact Nat.mul_le_mul_left _ hab
   omega
  rw[e,Nat.add_mul_div_left _ _ hp,Nat.div_eq_of_lt (by omega),if_pos h3]
  omega
 ·have e:X-Y=(x-y)+p*(a-b):=by
   rw[hx,hy,Nat.mul_sub]
   have:p*b<=p*a:=Nat.mul_le_mul_left _ hle
   omega
  rw[e,Nat.add_mul_div_left _ _ hp,Nat.div_eq_of_lt (by omega),if_neg h3]
  omega
theorem oG(a b:Int)(c:Nat)(a0:0<=a)(a1:a<=4294967295)(b0:0<=b)(b1:b<=4294967295)(hc:c<=1) :
  IntKind.u64.wrap (IntKind.u64.wrap (a-b)-(c:Int))/9223372036854775808=(if a-b-(c:Int)<0 then 1 else 0) ∧
  IntKind.u64.wrap (IntKind.u64.wrap (a-b)-(c:Int))%4294967296=(a-b-(c:Int))%4294967296:=by
 have e:∀ n:Int,IntKind.u64.wrap n=n%18446744073709551616:=fun n=>rfl
 rw[e,e]
 constructor
 ·split<;>omega
 ·omega
def fR(X:Nat):Nat->Nat
 | 0=>0
 | k+1=>if 2^(32*k)<=X then k+1 else fR X k
def cW(X:Nat):Nat:=fR X 16
theorem A7(X k:Nat):fR X k<=k:=by
 induction k with
 | zero=>exact Nat.le_refl _
 | succ k ih=>unfold fR;split<;>omega
theorem xQ(X k:Nat)(h:fR X k≠0):2^(32*(fR X k-1))<=X:=by
 induction k with
 | zero=>exact absurd rfl h
 | succ k ih=>
  by_cases h1:2^(32*k)<=X
  ·simp only[fR,if_pos h1] at *;simpa using h1
  ·simp only[fR,if_neg h1] at *;exact ih h
theorem wY(X k:Nat)(h:X<2^(32*k)):X<2^(32*fR X k):=by
 induction k with
 | zero=>exact h
 | succ k ih=>
  unfold fR
  split
  ·exact h
  ·exact ih (by omega)
theorem ji(X:Nat):cW X<=16:=A7 X 16
theorem eh{X:Nat}(h:X<eN):X<2^(32*cW X):=wY X 16 (by rw[fQ,dC] at h;exact h)
theorem lO{X:Nat}(h:cW X≠0):2^(32*(cW X-1))<=X:=xQ X 16 h
theorem t6{X k:Nat}(h:X<2^(32*(k+1))):bD X k=0↔X<2^(32*k):=by
 unfold bD
 have hp:=Nat.two_pow_pos (32*k)
 have h2:X/2^(32*k)<2^32:=by rw[Nat.div_lt_iff_lt_mul hp,<-Nat.pow_add,show 32+32*k=32*(k+1) from by omega];exact h
 rw[Nat.mod_eq_of_lt h2]
 constructor
 ·intro h3
  have h3':X/2^(32*k)=0:=by omega
  rcases(Nat.div_eq_zero_iff).1 h3' with h4|h4
  ·omega
  ·exact h4
 ·intro h3;rw[Nat.div_eq_of_lt h3];rfl
def sgn(a b:Nat):Int:=if a<b then -1 else if b<a then 1 else 0
def iZ(X Y k:Nat):Prop:=X/2^(32*k)=Y/2^(32*k)
theorem Aq{X Y:Nat}(hX:X<eN)(hY:Y<eN):iZ X Y 16:=by
 unfold iZ
 rw[fQ,dC] at hX hY
 rw[Nat.div_eq_of_lt hX,Nat.div_eq_of_lt hY]
theorem kV(X k:Nat):X/2^(32*k)=X/2^(32*(k+1))*4294967296+(X/2^(32*k))%4294967296:=by
 rw[dp,<-Nat.div_div_eq_div_mul];omega
theorem wq{X Y k:Nat}(h:iZ X Y (k+1))(hd:bD X k=bD Y k):iZ X Y k:=by
 unfold iZ bD at *
 rw[kV X k,kV Y k,h]
 simp only[show(2:Nat)^32=4294967296 from rfl] at hd
 omega
theorem xf{X Y k:Nat}(h:iZ X Y (k+1))(hd:bD X k≠bD Y k):sgn X Y=if bD X k<bD Y k then -1 else 1:=by
 unfold iZ bD at *
 have hx:=kV X k
 have hy:=kV Y k
 have hp:=Nat.two_pow_pos (32*k)
 have sx:=ig X k
 have sy:=ig Y k
 have h1:=Nat.mod_lt X hp
 have h2:=Nat.mod_lt Y hp
 simp only[show(2:Nat)^32=4294967296 from rfl] at hd ⊢
 generalize 2^(32*k)=p at *
 unfold sgn
 by_cases hlt:X/p<Y/p
 ·have:p*(X/p)+p<=p*(Y/p):=by rw[<-Nat.mul_succ];exact Nat.mul_le_mul_left _ hlt
  rw[if_pos (by omega),if_pos (by omega)]
 ·have hgt:Y/p<X/p:=by omega
  have:p*(Y/p)+p<=p*(X/p):=by rw[<-Nat.mul_succ];exact Nat.mul_le_mul_left _ hgt
  rw[if_neg (by omega),if_pos (by omega),if_neg (by omega)]
theorem A1{X Y:Nat}(h:iZ X Y 0):sgn X Y=0:=by
 have:X=Y:=by simpa [iZ] using h
 subst this;simp[sgn]
theorem cV(X k:Nat):bD X k=((X/2^(32*k)%4294967296:Nat):Int):=rfl
theorem fJ{X n k:Nat}(h:X<2^(32*n))(hk:n<=k):bD X k=0:=by
 rw[cV,Nat.div_eq_of_lt (Nat.lt_of_lt_of_le h (Nat.pow_le_pow_right (by omega) (by omega)))];rfl
theorem jE(X c s j:Nat)(h:j<s):bD (X+c*2^(32*s)) j=bD X j:=by
 rw[cV,cV]
 congr 1
 rw[show 32*s=32*j+(32+32*(s-j-1)) from by omega,Nat.pow_add,Nat.pow_add,show c*(2^(32*j)*(2^32*2^(32*(s-j-1))))=2^(32*j)*(4294967296*(c*2^(32*(s-j-1)))) from by
  rw[show(2:Nat)^32=4294967296 from rfl];ac_rfl,Nat.add_mul_div_left _ _ (Nat.two_pow_pos _),Nat.add_mul_mod_self_left]
def ft(A B i:Nat):Nat:=A%2^(32*i)*B
def lN(A B i k:Nat):Nat:=ft A B i+(A/2^(32*i)%4294967296)*(B%2^(32*k))*2^(32*i)
def nb(A B i k:Nat):Nat:=lN A B i k/2^(32*(i+k))-ft A B i/2^(32*(i+k))
def uN(A B i k:Nat):Nat->Int:=rR (i+k) (lN A B i k) (ft A B i)
theorem tx(A B i:Nat):lN A B i 0=ft A B i:=by simp[lN,Nat.mod_one]
theorem tf(A B i:Nat):nb A B i 0=0:=by simp[nb,tx]
theorem Ae(A B i:Nat):uN A B i 0=bD (ft A B i):=by
 funext j;simp[uN,tx,rR]
theorem td(A B i k:Nat):lN A B i (k+1)=lN A B i k+(A/2^(32*i)%4294967296)*(B/2^(32*k)%4294967296)*2^(32*(i+k)):=by
 unfold lN
 rw[eu,show 32*(i+k)=32*i+32*k from by omega,Nat.pow_add,Nat.mul_add,Nat.add_mul,Nat.add_assoc]
 congr 2
 ac_rfl
theorem EM(A B i k:Nat):ft A B i<=lN A B i k:=Nat.le_add_right _ _
theorem u6(A B i k:Nat):nb A B i k+ft A B i/2^(32*(i+k))=lN A B i k/2^(32*(i+k)):=by
 unfold nb;have:=Nat.div_le_div_right (c:=2^(32*(i+k))) (EM A B i k);omega
theorem wZ(A B i k:Nat):lN A B i (k+1)/2^(32*(i+k))=nb A B i k+ft A B i/2^(32*(i+k))+(A/2^(32*i)%4294967296)*(B/2^(32*k)%4294967296):=by
 rw[td,Nat.add_mul_div_right _ _ (Nat.two_pow_pos _),u6]
theorem qQ(A B i k:Nat):nb A B i (k+1)=(nb A B i k+((A/2^(32*i)%4294967296)*(B/2^(32*k)%4294967296)+ft A B i/2^(32*(i+k))%4294967296))/4294967296:=by
 have h1:=u6 A B i (k+1)
 have h2:=wZ A B i k
 have e:∀ X,X/2^(32*(i+(k+1)))=X/2^(32*(i+k))/4294967296:=fun X=>by
  rw[show i+(k+1)=i+k+1 from by omega,dp,Nat.div_div_eq_div_mul]
 rw[e,e,h2] at h1
 generalize A/2^(32*i)%4294967296*(B/2^(32*k)%4294967296)=p at *
 generalize ft A B i/2^(32*(i+k))=z at *
 omega
theorem tu(a p q z c:Nat):(((a+(p*q+z))/c:Nat):Int)=((a:Int)+((p:Int)*q+z))/(c:Int):=by push_cast;rfl
theorem qr(a p q z c:Nat):(((a+(p*q+z))%c:Nat):Int)=((a:Int)+((p:Int)*q+z))%(c:Int):=by push_cast;rfl
theorem A6(A B i k:Nat):((nb A B i (k+1):Nat):Int)=((nb A B i k:Nat)+(bD A i*bD B k+bD (ft A B i) (i+k)))/4294967296:=by
 rw[qQ,cV,cV,cV];exact tu _ _ _ _ 4294967296
theorem uZ(A B i k:Nat):nb A B i k<=4294967295:=by
 induction k with
 | zero=>rw[tf];omega
 | succ k ih=>
  rw[qQ]
  have h1:A/2^(32*i)%4294967296<=4294967295:=by have:=Nat.mod_lt (A/2^(32*i)) (show 0<4294967296 by omega);omega
  have h2:B/2^(32*k)%4294967296<=4294967295:=by have:=Nat.mod_lt (B/2^(32*k)) (show 0<4294967296 by omega);omega
  have h3:=Nat.mul_le_mul h1 h2
  have h4:=Nat.mod_lt (ft A B i/2^(32*(i+k))) (show 0<4294967296 by omega)
  omega
theorem AA(A B i k:Nat):uN A B i k (i+k)=bD (ft A B i) (i+k):=s8 _ _ _
theorem CQ(A B i k:Nat):bD (lN A B i (k+1)) (i+k)=((nb A B i k:Nat)+(bD A i*bD B k+bD (ft A B i) (i+k)))%4294967296:=by
 rw[cV (lN _ _ _ _),wZ,cV,cV,cV]
 refine Eq.trans (congrArg Nat.cast ?_) (qr _ _ _ _ 4294967296)
 generalize A/2^(32*i)%4294967296*(B/2^(32*k)%4294967296)=p
 generalize ft A B i/2^(32*(i+k))=z
 omega
theorem ti{A B i m:Nat}(hB:B<2^(32*m)):ft A B (i+1)=lN A B i m:=by
 unfold ft lN ft
 rw[eu,Nat.mod_eq_of_lt hB,Nat.add_mul];congr 1;ac_rfl
theorem zj{A B i m:Nat}(hB:B<2^(32*m)):ft A B i<2^(32*(i+m)):=by
 unfold ft
 rw[show 32*(i+m)=32*i+32*m from by omega,Nat.pow_add]
 exact Nat.mul_lt_mul'' (Nat.mod_lt _ (Nat.two_pow_pos _)) hB
theorem A4(A B:Nat):ft A B 0=0:=by simp[ft,Nat.mod_one]
theorem Dc{A B n:Nat}(hA:A<2^(32*n)):ft A B n=A*B:=by unfold ft;rw[Nat.mod_eq_of_lt hA]
theorem mA(k:Nat):bD 0 k=0:=by simp[bD]
theorem jT(X a k:Nat):bD (X/2^(32*a)) k=bD X (a+k):=by
 rw[cV,cV,Nat.div_div_eq_div_mul,<-Nat.pow_add,Nat.mul_add]
theorem vL(X a k:Nat):bD (X/lu a) k=bD X (a+k):=by rw[dC,jT]
theorem Cv(a b D c:Nat):(a+b*D)%c=(a+b%c*D)%c:=by
 have h:b*D%c=b%c*D%c:=by rw[Nat.mul_mod b D c,Nat.mul_mod (b%c) D c,Nat.mod_mod b c]
 rw[Nat.add_mod,h,<-Nat.add_mod]
def fW(X D k:Nat):Nat:=X%2^(32*k)*D/2^(32*k)
theorem tC(X D:Nat):fW X D 0=0:=by simp[fW,Nat.mod_one]
theorem uT(X k:Nat){D:Nat}(h:0<D):fW X D k<D:=by
 unfold fW
 rw[Nat.div_lt_iff_lt_mul (Nat.two_pow_pos _),Nat.mul_comm D]
 exact Nat.mul_lt_mul_of_pos_right (Nat.mod_lt _ (Nat.two_pow_pos _)) h
theorem xB(X D k:Nat):fW X D (k+1)=(fW X D k+X/2^(32*k)%4294967296*D)/4294967296:=by
 unfold fW
 rw[eu,dp,<-Nat.div_div_eq_div_mul,Nat.add_mul,Nat.mul_assoc,Nat.add_mul_div_left _ _ (Nat.two_pow_pos _)]
theorem tz(X D k:Nat):((fW X D (k+1):Nat):Int)=((fW X D k:Nat)+bD X k*(D:Nat))/4294967296:=by
 have h:=tu (fW X D k) (X/2^(32*k)%4294967296) D 0 4294967296
 simp only[Nat.add_zero,Int.add_zero,Int.natCast_zero,Int.cast_ofNat_Int] at h
 rw[xB,cV];exact h
theorem wB(X D k:Nat):bD (X*D) k=((fW X D k:Nat)+bD X k*(D:Nat))%4294967296:=by
 have h:=qr (fW X D k) (X/2^(32*k)%4294967296) D 0 4294967296
 simp only[Nat.add_zero,Int.add_zero,Int.natCast_zero,Int.cast_ofNat_Int] at h
 rw[cV,cV]
 refine Eq.trans (congrArg Nat.cast ?_) h
 have e:X*D/2^(32*k)=fW X D k+X/2^(32*k)*D:=by
  unfold fW
  rw[<-Nat.add_mul_div_left _ _ (Nat.two_pow_pos (32*k)),<-Nat.mul_assoc,<-Nat.add_mul,<-ig]
 rw[e,Cv]
theorem C0{X D:Nat}(h:X<eN):fW X D 16=X*D/eN:=by
 unfold fW;rw[vV,Nat.mod_eq_of_lt h]
theorem CL(X n k:Nat)(hn:n<=32):bD (X/2^n) k=(bD X (k+1)*4294967296+bD X k)/((2^n:Nat):Int)%4294967296:=by
 rw[cV,cV,cV,dp,<-Nat.div_div_eq_div_mul,Nat.div_div_eq_div_mul,Nat.mul_comm (2^n),<-Nat.div_div_eq_div_mul]
 generalize X/2^(32*k)=Y
 have e:(((Y/4294967296%4294967296:Nat):Int)*4294967296+((Y%4294967296:Nat):Int))=((Y%(2^n*(2^(32-n)*4294967296)):Nat):Int):=by
  rw[<-Nat.mul_assoc,<-Nat.pow_add,show n+(32-n)=32 from by omega,show(2:Nat)^32=4294967296 from rfl]
  omega
 rw[e,<-Int.natCast_ediv,Nat.mod_mul_right_div_self]
 generalize Y/2^n=Z
 have h:Z%4294967296=Z%(2^(32-n)*4294967296)%4294967296:=(Nat.mod_mul_left_mod _ _ _).symm
 rw[h]
 exact Int.natCast_emod _ 4294967296
theorem tG(X k j:Nat):bD (X/2^(32*k)*2^(32*k)) j=if j<k then 0 else bD X j:=by
 have h:=jE 0 (X/2^(32*k)) k j
 by_cases hj:j<k
 ·rw[if_pos hj];rw[Nat.zero_add] at h;rw[h hj,mA]
 ·rw[if_neg hj,show j=k+(j-k) from by omega,<-jT,Nat.mul_div_cancel _ (Nat.two_pow_pos _),jT]
def eX(X b k:Nat):Nat:=X/2^(32*k)%b
theorem xi(X k:Nat){b:Nat}(h:0<b):eX X b k<b:=Nat.mod_lt _ h
theorem qA(X k:Nat):X/2^(32*k)=X/2^(32*(k+1))*4294967296+X/2^(32*k)%4294967296:=by
 rw[dp,<-Nat.div_div_eq_div_mul];omega
theorem yt(X b k:Nat):eX X b k=(eX X b (k+1)*4294967296+X/2^(32*k)%4294967296)%b:=by
 unfold eX
 conv=>lhs;rw[qA X k]
 rw[Nat.add_comm,Cv,Nat.add_comm]
theorem AK(X k:Nat){b:Nat}(hb:0<b)(h:b<=4294967295):X/b/2^(32*k)%4294967296=(eX X b (k+1)*4294967296+X/2^(32*k)%4294967296)/b:=by
 have e:X/b/2^(32*k)=X/2^(32*(k+1))/b*4294967296+(eX X b (k+1)*4294967296+X/2^(32*k)%4294967296)/b:=by
  rw[Nat.div_div_eq_div_mul,Nat.mul_comm,<-Nat.div_div_eq_div_mul]
  conv=>lhs;rw[qA X k]
  unfold eX
  generalize X/2^(32*(k+1))=Y
  generalize X/2^(32*k)%4294967296=z
  conv=>lhs;rw[show Y*4294967296+z=b*(Y/b*4294967296)+(Y%b*4294967296+z) from by
   have:=Nat.div_add_mod Y b
   conv=>lhs;rw[<-this]
   rw[Nat.add_mul,Nat.mul_assoc];omega]
  rw[Nat.mul_add_div hb]
 have hlt:(eX X b (k+1)*4294967296+X/2^(32*k)%4294967296)/b<4294967296:=by
  rw[Nat.div_lt_iff_lt_mul hb]
  have h1:=xi X (k+1) hb
  have h2:=Nat.mod_lt (X/2^(32*k)) (show 0<4294967296 by omega)
  have h3:(eX X b (k+1)+1)*4294967296<=b*4294967296:=Nat.mul_le_mul_right _ h1
  omega
 rw[e,Nat.mul_comm (_/b),Nat.mul_add_mod,Nat.mod_eq_of_lt hlt]
theorem A0(X b:Nat):eX X b 0=X%b:=by simp[eX]
structure Heads(W V P T F u v:Nat):Prop where
 w:W/P=T*4294967296+u
 d:V/P=F*4294967296+v
 u:u<4294967296
 v:v<4294967296
 one:1<=F
 pos:0<P
 lt:W<V*4294967296
variable{W V P T F u v:Nat}
theorem Heads.key{d r:Nat}(h:d*F+r=T):d*(F*4294967296+v)+r*4294967296=T*4294967296+d*v:=by
 rw[<-h,Nat.mul_add,Nat.add_mul,Nat.mul_assoc];omega
theorem Heads.vpos(H:Heads W V P T F u v):0<V:=by
 rcases Nat.eq_zero_or_pos V with h|h
 ·have:=H.lt;rw[h] at this;omega
 ·exact h
theorem Heads.over(H:Heads W V P T F u v){d:Nat}(h:W/P<d*(V/P)):W/V<d:=by
 apply Nat.div_lt_of_lt_mul
 have h1:W<(W/P+1)*P:=by have:=Nat.div_add_mod W P;have:=Nat.mod_lt W H.pos;rw[Nat.add_mul,Nat.mul_comm (W/P)];omega
 have h2:(W/P+1)*P<=d*(V/P)*P:=Nat.mul_le_mul_right _ h
 have h3:d*(V/P)*P<=d*V:=by rw[Nat.mul_assoc];exact Nat.mul_le_mul_left _ (Nat.div_mul_le_self V P)
 rw[Nat.mul_comm V];omega
theorem Heads.under(H:Heads W V P T F u v){d:Nat}(h:d*(V/P)<=W/P)(hd:d<4294967296):d<=W/V+1:=by
 rcases Nat.eq_zero_or_pos d with h0|h0
 ·rw[h0];exact Nat.zero_le _
 obtain⟨e,rfl⟩:∃ e,d=e+1:=⟨d-1,by omega⟩
 have hb:e<=V/P:=by rw[H.d];have h1:1*4294967296<=F*4294967296:=Nat.mul_le_mul_right _ H.one;omega
 have:e<=W/V:=by
  rw[Nat.le_div_iff_mul_le H.vpos]
  have h1:V<=(V/P+1)*P:=by have:=Nat.div_add_mod V P;have:=Nat.mod_lt V H.pos;rw[Nat.add_mul,Nat.mul_comm (V/P)];omega
  have h2:e*V<=e*((V/P+1)*P):=Nat.mul_le_mul_left _ h1
  have h3:e*((V/P+1)*P)<=(e+1)*(V/P)*P:=by
   rw[<-Nat.mul_assoc];apply Nat.mul_le_mul_right;rw[Nat.mul_add,Nat.add_mul];omega
  have h4:(e+1)*(V/P)*P<=W/P*P:=Nat.mul_le_mul_right _ h
  have h5:=Nat.div_mul_le_self W P
  omega
 exact Nat.succ_le_succ this
theorem Heads.q_lt(H:Heads W V P T F u v):W/V<4294967296:=Nat.div_lt_of_lt_mul (by have:=H.lt;omega)
theorem Heads.start(H:Heads W V P T F u v):W/V<=T/F:=by
 have h1:W/V<T/F+1:=by
  apply H.over
  rw[H.w,H.d]
  have h2:T<(T/F+1)*F:=by have:=Nat.div_add_mod T F;have:=Nat.mod_lt T (show 0<F from H.one);rw[Nat.add_mul,Nat.mul_comm (T/F)];omega
  have h3:(T+1)*4294967296<=(T/F+1)*F*4294967296:=Nat.mul_le_mul_right _ h2
  have h4:(T/F+1)*F*4294967296<=(T/F+1)*(F*4294967296+v):=by rw[Nat.mul_assoc];exact Nat.mul_le_mul_left _ (Nat.le_add_right _ _)
  have h5:=H.u
  exact Nat.lt_of_lt_of_le (by omega) (Nat.le_trans h3 h4)
 exact Nat.le_of_lt_succ h1
theorem Heads.step_big(H:Heads W V P T F u v){d:Nat}(h:4294967296<=d):W/V<=d-1:=Nat.le_sub_one_of_lt (Nat.lt_of_lt_of_le H.q_lt h)
theorem C9{A B T r u c:Nat}(hk:A+r*c=T*c+B)(ht:r*c+u<B):T*c+u<A:=by omega
theorem Heads.step(H:Heads W V P T F u v){d r:Nat}(h:d*F+r=T)(ht:r*4294967296+u<d*v):W/V<=d-1/\1<=d:=by
 have h1:W/V<d:=by
  apply H.over
  rw[H.w,H.d]
  exact C9 (Heads.key (v:=v) h) ht
 exact⟨Nat.le_sub_one_of_lt h1,Nat.lt_of_le_of_lt (Nat.zero_le _) h1⟩
theorem Heads.t_lt(H:Heads W V P T F u v):T<(F+1)*4294967296:=by
 have h1:W/P*P<=W:=Nat.div_mul_le_self W P
 have h2:V<(V/P+1)*P:=by have:=Nat.div_add_mod V P;have:=Nat.mod_lt V H.pos;rw[Nat.add_mul,Nat.mul_comm (V/P)];omega
 have h3:V*4294967296<(V/P+1)*P*4294967296:=Nat.mul_lt_mul_of_pos_right h2 (by omega)
 have h4:=H.lt
 have h5:W/P*P<(V/P+1)*4294967296*P:=by rw[Nat.mul_right_comm];omega
 have h6:W/P<(V/P+1)*4294967296:=Nat.lt_of_mul_lt_mul_right h5
 rw[H.w,H.d] at h6
 have h7:=H.v
 rw[Nat.add_mul]
 omega
theorem Heads.done(H:Heads W V P T F u v){d r:Nat}(h:d*F+r=T)(hr:4294967296<=r\/(d<4294967296/\d*v<=r*4294967296+u)):d<4294967296/\d<=W/V+1:=by
 have hd:d<4294967296:=by
  rcases hr with hr|hr
  ·have h1:=H.t_lt
   rw[Nat.add_mul,Nat.one_mul] at h1
   have h2:d*F<4294967296*F:=by omega
   exact Nat.lt_of_mul_lt_mul_right h2
  ·exact hr.1
 refine⟨hd,H.under ?_ hd⟩
 rw[H.w,H.d]
 have hk:=Heads.key (v:=v) h
 rcases hr with hr|hr
 ·have h1:d*v<=4294967295*4294967295:=Nat.mul_le_mul (by omega) (by have:=H.v;omega)
  omega
 ·omega
def dg(X k:Nat):Nat:=X/2^(32*k)%4294967296
theorem nV(X k:Nat):bD X k=(dg X k:Nat):=rfl
theorem fj(X k:Nat):dg X k<4294967296:=Nat.mod_lt _ (by omega)
theorem zh(X k:Nat):dg X k<=4294967295:=Nat.le_of_lt_succ (fj X k)
theorem ni(X k:Nat):X/2^(32*k)=X/2^(32*(k+1))*4294967296+dg X k:=qA X k
theorem jq{X k:Nat}(h:X<2^(32*(k+1))):X/2^(32*k)=dg X k:=by
 rw[ni,Nat.div_eq_of_lt h,Nat.zero_mul,Nat.zero_add]
theorem Ci{U V e j:Nat}(hV:V<2^(32*(e+2)))(hV1:2^(32*(e+1))<=V)(hU:U/2^(32*j)<V*4294967296) :
  Heads (U/2^(32*j)) V (2^(32*e)) (dg U (j+e+2)*4294967296+dg U (j+e+1)) (dg V (e+1)) (dg U (j+e)) (dg V e):=by
 have hc:∀ k,U/2^(32*j)/2^(32*k)=U/2^(32*(j+k)):=fun k=>by rw[Nat.div_div_eq_div_mul,<-Nat.pow_add,Nat.mul_add]
 have hUl:U<2^(32*(j+e+2+1)):=by
  have h1:=(Nat.div_lt_iff_lt_mul (Nat.two_pow_pos (32*j))).1 hU
  have h2:V*4294967296*2^(32*j)<2^(32*(e+2))*4294967296*2^(32*j):=Nat.mul_lt_mul_of_pos_right (Nat.mul_lt_mul_of_pos_right hV (by omega)) (Nat.two_pow_pos _)
  have h3:2^(32*(e+2))*4294967296*2^(32*j)=2^(32*(j+e+2+1)):=by
   rw[dp (j+e+2),show 32*(j+e+2)=32*j+32*(e+2) from by omega,Nat.pow_add,Nat.mul_right_comm,Nat.mul_comm (2^(32*(e+2))) (2^(32*j))]
  rw[<-h3];exact Nat.lt_trans h1 h2
 refine⟨?_,?_,fj _ _,fj _ _,?_,Nat.two_pow_pos _,hU⟩
 ·rw[hc,ni,ni U (j+e+1),jq hUl]
 ·rw[ni,jq hV]
 ·rw[<-jq hV];exact(Nat.le_div_iff_mul_le (Nat.two_pow_pos _)).2 (by rw[Nat.one_mul];exact hV1)
theorem GG(U i k:Nat):dg U i*4294967296+dg U k<=18446744073709551615:=by
 have h1:=zh U i;have h2:=zh U k;omega
theorem yp{T F D R:Nat}(h:D*F+R=T)(hD:1<=D):(D-1)*F+(R+F)=T:=by
 obtain⟨E,rfl⟩:∃ E,D=E+1:=⟨D-1,by omega⟩
 rw[Nat.add_mul,Nat.one_mul] at h
 rw[Nat.add_sub_cancel];omega
theorem rU{X X' Y k:Nat}(h:X%2^(32*k)=X'%2^(32*k)):bS X Y k=bS X' Y k:=by unfold bS;rw[h]
def eW(U Z j:Nat):Nat:=U%2^(32*j)+Z*2^(32*j)
theorem AM{U Z j t:Nat}(h:t<j):bD (eW U Z j) t=bD U t:=by
 unfold eW;rw[jE _ _ _ _ h,iL,if_pos h]
theorem yc(U Z j i:Nat):bD (eW U Z j) (j+i)=bD Z i:=by
 rw[<-jT];unfold eW
 rw[Nat.add_mul_div_right _ _ (Nat.two_pow_pos _),Nat.div_eq_of_lt (Nat.mod_lt _ (Nat.two_pow_pos _)),Nat.zero_add]
def r0(U Z j i:Nat):Nat->Int:=rR (j+i) (eW U Z j) U
theorem tP(U Z j:Nat):r0 U Z j 0=bD U:=by
 funext t;unfold r0 rR;split
 ·rename_i h;exact AM (by omega)
 ·rfl
theorem kK(U Z j i:Nat):r0 U Z j i (j+i)=bD U (j+i):=s8 _ _ _
def kr(W Y m:Nat):Nat:=(W+2^(32*m)-Y)%2^(32*m)
theorem Am{W Y m i:Nat}(hi:i<m)(hY:Y<=2^(32*m)):bD (kr W Y m) i=(bD W i-bD Y i-(bS W Y i:Nat))%4294967296:=by
 have hd:bD (W+2^(32*m)) i=bD W i:=by
  have:=jE W 1 m i hi;rwa [Nat.one_mul] at this
 have hb:bS (W+2^(32*m)) Y i=bS W Y i:=rU (by
  rw[show 32*m=32*i+(32*m-32*i) from by omega,Nat.pow_add,Nat.add_mul_mod_self_left])
 unfold kr
 rw[iL,if_pos hi,yU (by omega),hd,hb]
theorem BW(W Y m:Nat):kr W Y m<2^(32*m):=Nat.mod_lt _ (Nat.two_pow_pos _)
theorem vw{W Y m:Nat}(hW:W<2^(32*m))(hY:Y<2^(32*m)):bS W Y m=if W<Y then 1 else 0:=by
 unfold bS;rw[Nat.mod_eq_of_lt hW,Nat.mod_eq_of_lt hY]
def dX(N V j:Nat):Nat:=N/V%2^(32*j)*V+N%V
theorem AL(N V:Nat):dX N V 0=N%V:=by simp[dX,Nat.mod_one]
theorem yy{N V k:Nat}(h:N/V<2^(32*k)):dX N V k=N:=by
 unfold dX;rw[Nat.mod_eq_of_lt h,Nat.mul_comm];exact Nat.div_add_mod N V
theorem tM(N V j:Nat):dX N V (j+1)=dX N V j+dg (N/V) j*V*2^(32*j):=by
 unfold dX dg
 rw[eu]
 generalize N/V/2^(32*j)%4294967296=t
 generalize 2^(32*j)=P
 rw[Nat.add_mul,show P*t*V=t*V*P from by rw[Nat.mul_comm P t,Nat.mul_right_comm]]
 omega
theorem uJ{N V:Nat}(j:Nat)(h:0<V):dX N V j<V*2^(32*j):=by
 unfold dX
 have h1:=Nat.mod_lt (N/V) (Nat.two_pow_pos (32*j))
 have h2:=Nat.mod_lt N h
 have h3:(N/V%2^(32*j)+1)*V<=2^(32*j)*V:=Nat.mul_le_mul_right _ h1
 rw[Nat.add_mul,Nat.one_mul] at h3
 rw[Nat.mul_comm V];omega
theorem mJ{N V:Nat}(j:Nat)(h:0<V):dX N V j/2^(32*j)<V:=by
 rw[Nat.div_lt_iff_lt_mul (Nat.two_pow_pos _)];exact uJ j h
theorem oy(N V j:Nat):dX N V (j+1)/2^(32*j)=dX N V j/2^(32*j)+V*dg (N/V) j:=by
 rw[tM,Nat.add_mul_div_right _ _ (Nat.two_pow_pos _),Nat.mul_comm V]
theorem vl(N V j:Nat):dX N V (j+1)%2^(32*j)=dX N V j%2^(32*j):=by
 rw[tM,Nat.add_mul_mod_self_right]
theorem CU{N V:Nat}(j:Nat)(h:0<V):dX N V (j+1)/2^(32*j)/V=dg (N/V) j:=by
 rw[oy,Nat.add_mul_div_left _ _ h,Nat.div_eq_of_lt (mJ j h),Nat.zero_add]
theorem Bs{N V:Nat}(j:Nat)(h:0<V):dX N V (j+1)/2^(32*j)<V*4294967296:=by
 rw[Nat.div_lt_iff_lt_mul (Nat.two_pow_pos _),Nat.mul_assoc,Nat.mul_comm 4294967296,<-dp];exact uJ (j+1) h
theorem AP{N V n:Nat}(j:Nat)(h:0<V)(hV:V<2^(32*n)):dX N V (j+1)<2^(32*(j+n+1)):=by
 have h1:=uJ (N:=N) (j+1) h
 have h2:V*2^(32*(j+1))<2^(32*n)*2^(32*(j+1)):=Nat.mul_lt_mul_of_pos_right hV (Nat.two_pow_pos _)
 rw[<-Nat.pow_add,show 32*n+32*(j+1)=32*(j+n+1) from by omega] at h2
 omega
theorem sW{U U' j:Nat}(h:U%2^(32*j)=U'%2^(32*j)):eW U (U'/2^(32*j)) j=U':=by
 unfold eW;rw[h,Nat.mul_comm (U'/2^(32*j)) (2^(32*j))];exact Nat.mod_add_div U' _
theorem Ab(U Z j:Nat):eW U Z j%2^(32*j)=U%2^(32*j):=by
 unfold eW;rw[Nat.add_mul_mod_self_right,Nat.mod_mod]
theorem zX(U Z j:Nat):eW U Z j/2^(32*j)=Z:=by
 unfold eW;rw[Nat.add_mul_div_right _ _ (Nat.two_pow_pos _),Nat.div_eq_of_lt (Nat.mod_lt _ (Nat.two_pow_pos _)),Nat.zero_add]
theorem wr{U Z j m:Nat}(hZ:Z<2^(32*m)):eW U Z j<2^(32*(j+m)):=by
 have h1:eW U Z j<(Z+1)*2^(32*j):=by unfold eW;have:=Nat.mod_lt U (Nat.two_pow_pos (32*j));rw[Nat.add_mul];omega
 have h2:(Z+1)*2^(32*j)<=2^(32*m)*2^(32*j):=Nat.mul_le_mul_right _ hZ
 rw[<-Nat.pow_add,show 32*m+32*j=32*(j+m) from by omega] at h2
 omega
variable{N V n:Nat}
theorem lM(hV:V<2^(32*n)):V<2^(32*(n+1)):=Nat.lt_of_lt_of_le hV (Nat.pow_le_pow_right (by omega) (by omega))
theorem uA{x y B:Nat}(hx:x<B):(x+y+B-y)%B=x:=by
 rw[show x+y+B-y=x+B from by omega,Nat.add_mod_right,Nat.mod_eq_of_lt hx]
theorem wf(j:Nat)(h:0<V)(hV:V<2^(32*n)) :
  eW (dX N V (j+1)) (kr (dX N V (j+1)/2^(32*j)) (V*dg (N/V) j) (n+1)) j=dX N V j:=by
 have e:kr (dX N V (j+1)/2^(32*j)) (V*dg (N/V) j) (n+1)=dX N V j/2^(32*j):=by
  unfold kr;rw[oy];exact uA (Nat.lt_trans (mJ j h) (lM hV))
 rw[e,sW (vl N V j)]
theorem AU(j:Nat)(h:0<V)(hV:V<2^(32*n)) :
  kr (dX N V (j+1)/2^(32*j)) (V*(dg (N/V) j+1)) (n+1)=dX N V j/2^(32*j)+2^(32*(n+1))-V:=by
 have h1:=mJ (N:=N) j h
 have h2:=lM hV
 unfold kr
 rw[oy,Nat.mul_add V (dg (N/V) j) 1,Nat.mul_one]
 generalize 2^(32*(n+1))=B at *
 generalize dX N V j/2^(32*j)=x at *
 generalize V*dg (N/V) j=y
 rw[show x+y+B-(y+V)=x+B-V from by omega,Nat.mod_eq_of_lt (by omega)]
theorem wc(j:Nat)(h:0<V)(hV:V<2^(32*n)){U1:Nat}(e1:U1=eW (dX N V (j+1)) (kr (dX N V (j+1)/2^(32*j)) (V*(dg (N/V) j+1)) (n+1)) j) :
  eW U1 ((U1/2^(32*j)+V)%2^(32*(n+1))) j=dX N V j:=by
 have h1:=mJ (N:=N) j h
 have h2:=lM hV
 have e2:(U1/2^(32*j)+V)%2^(32*(n+1))=dX N V j/2^(32*j):=by
  rw[e1,zX,AU j h hV]
  generalize 2^(32*(n+1))=B at *
  generalize dX N V j/2^(32*j)=x at *
  rw[show x+B-V+V=x+B from by omega,Nat.add_mod_right,Nat.mod_eq_of_lt (by omega)]
 rw[e2,sW (by rw[e1,Ab,vl])]
end Go.Proofs.YtjjjkojfijpeeaaGreat
end
section
set_option linter.unusedVariables false
namespace Go.Proofs.YtjjjkojfijpeeaaGreat.Sy
open Go Go.Proofs Go.Proofs.YtjjjkojfijpeeaaGreat.Geo
def cM(n:Nat)(f:Nat->Int):D:=.st ((List.range n).map fun i=>.int .u32 (f i))
abbrev LM(X:Nat):D:=cM 16 (bD X)
theorem bh{n i:Nat}(f:Nat->Int)(h:i<n):D.get (cM n f) [i]=some (.int .u32 (f i)):=by
 simp[cM,D.get,D.fld,h]
theorem dA{n:Nat}{f g:Nat->Int}(h:∀ i,i<n->f i=g i):cM n f=cM n g:=by
 unfold cM
 congr 1
 exact List.map_congr_left fun i hi=>by rw[h i (List.mem_range.1 hi)]
theorem kJ{n i:Nat}{f g:Nat->Int}{v:Int}(h:i<n)(hg:∀ j,j<n->g j=if j=i then v else f j):D.set (cM n f) [i] (.int .u32 v)=some (cM n g):=by
 have e:((List.range n).map fun i=>D.int .u32 (f i))[i]?=some (.int .u32 (f i)):=by simp[h]
 simp only[cM,D.set,e,Option.bind_some]
 congr 2
 apply List.ext_getElem?
 intro j
 by_cases hj:j<n
 ·rw[List.getElem?_set]
  by_cases hij:i=j
  ·subst hij;simp[h,hg i h]
  ·simp[hij,hj,hg j hj,show ¬ j=i from fun e=>hij e.symm]
 ·rw[List.getElem?_eq_none (by simp;omega),List.getElem?_eq_none (by simp;omega)]
theorem qd(f g:Nat->Int):∀ l:List Nat,D.beqs (l.map fun i=>D.int .u32 (f i)) (l.map fun i=>D.int .u32 (g i))=l.all fun i=>decide (f i=g i)
 | []=>rfl
 | i::l=>by simp only[List.map_cons,D.beqs,D.beq,List.all_cons,qd f g l];simp
theorem DE(n:Nat)(f g:Nat->Int):D.beq (cM n f) (cM n g)=decide (∀ i,i<n->f i=g i):=by
 simp only[cM,D.beq,qd]
 rw[Bool.eq_iff_iff]
 simp
theorem ms{X Y:Nat}(hX:X<eN)(hY:Y<eN):D.beq (LM X) (LM Y)=decide (X=Y):=by
 rw[DE,decide_eq_decide]
 constructor
 ·exact AE hX hY
 ·rintro rfl;exact fun _ _=>rfl
theorem iK:D.st (D.putParts (List.replicate 16 (D.int .u32 0)) [])=LM 0:=by
 have:LM 0=cM 16 (fun _=>0):=dA fun i _=>mA i
 rw[this];rfl
theorem fG:aB aU=LM 0:=by
 have:LM 0=cM 16 (fun _=>0):=dA fun i _=>mA i
 rw[this];rfl
theorem He(i:Nat):2^(32*i)=4294967296^i:=by rw[Nat.pow_mul]
theorem AB(m:Nat):dQ (aE m)=LM m:=by
 unfold dQ LM cM
 congr 1
 refine List.map_congr_left fun i _=>?_
 rw[gT]
 unfold bD
 rw[He]
theorem cn(x:Int):ah x=.st [.bool false,.bool (decide (x<0)),LM x.natAbs]:=by unfold ah;rw[AB]
theorem yq(a b c:Nat)(h:a*b=c):((2:Nat)^a)^b=2^c:=by rw[<-Nat.pow_mul,h]
theorem tQ:(65536:Nat)^32=eN:=(yq 16 32 (32*16) rfl).trans ((dC 16).symm.trans fQ.symm)
def under(X k:Nat):Prop:=X<2^(32*k)
theorem yv{X k:Nat}(hk:k=16)(h:X<eN):under X k:=by subst hk;unfold under;rw[vV];exact h
theorem xA{X k:Nat}(hk:k<=16)(h:X<2^(32*k)):X<eN:=by
 rw[<-dC] at h
 rw[fQ]
 exact Nat.lt_of_lt_of_le h (lY hk)
theorem bM{x:Int}:In x↔x.natAbs<eN:=by unfold In;rw[tQ]
def Gx:D:=.st [.bool true,.bool false,LM 0]
def eY:Option Int->D
 | some x=>ah x
 | none=>Gx
def Bj(a:Option Int):Prop:=∀ x,a=some x->In x
noncomputable def lI(x:Int):Option Int:=if x.natAbs<eN then some x else none
theorem fc{x:Int}(h:In x):lI x=some x:=by unfold lI;rw[if_pos (bM.1 h)]
theorem Bj.some{x:Int}(h:Bj (some x)):In x:=h x rfl
theorem dm{x:Int}(h:In x):Bj (some x):=fun y e=>by cases e;exact h
abbrev W(n:Int):D:=.int .u64 n
theorem B1{k:IntKind}{a:Int}(h0:0<=a)(h:a<18446744073709551616):D.conv .u64 (.int k a)=some (W a):=by simp only[D.conv,dw ⟨h0,h⟩]
theorem qJ{a b:Int}(h0:0<=a+b)(h:a+b<18446744073709551616):D.bin .add (W a) (W b)=some (W (a+b)):=by simp only[D.bin,if_true,dw ⟨h0,h⟩]
theorem pW(a b:Int):D.bin .sub (W a) (W b)=some (W (IntKind.u64.wrap (a-b))):=by simp only[D.bin,if_true]
theorem F6{a b:Int}(h0:0<=a*b)(h:a*b<18446744073709551616):D.bin .mul (W a) (W b)=some (W (a*b)):=by simp only[D.bin,if_true,dw ⟨h0,h⟩]
theorem gG(a:Int):D.conv .u32 (W a)=some (.int .u32 (a%4294967296)):=by
 simp only[D.conv];rfl
theorem qE{a:Int}(h:0<=a):D.bin .shr (W a) (.int .u64 32)=some (W (a/4294967296)):=by
 simp only[D.bin]
 rw[if_neg (by decide),Int.fdiv_eq_ediv_of_nonneg _ (by decide)];rfl
theorem uc{a:Int}:D.bin .shr (W a) (.int .u64 63)=some (W (a/9223372036854775808)):=by
 simp only[D.bin]
 rw[if_neg (by decide),Int.fdiv_eq_ediv_of_nonneg _ (by decide)];rfl
theorem eP{i n:Nat}(h:i<n):D.idx (I (i:Int)) n=some i:=aw h
theorem eH(X k:Nat):D.conv .u64 (.int .u32 (bD X k))=some (W (bD X k)):=B1 (cw X k) (by have:=rM X k;omega)
theorem pj{Z k:Nat}(hk:k<16):D.set (LM (Z%2^(32*k))) [k] (.int .u32 (bD Z k))=some (LM (Z%2^(32*(k+1)))):=
 kJ hk fun j hj=>by
  rw[iL,iL]
  by_cases e:j=k
  ·subst e;simp
  ·rw[if_neg e]
   by_cases h:j<k
   ·rw[if_pos h,if_pos (by omega)]
   ·rw[if_neg h,if_neg (by omega)]
theorem pz(Z:Nat):LM (Z%2^(32*0))=LM 0:=by simp[Nat.mod_one]
theorem Ek(Z k:Nat)(hk:k=16):LM (Z%2^(32*k))=LM Z:=dA fun j hj=>by rw[iL,if_pos (by omega)]
theorem mX(Z:Nat):LM (Z%2^(32*16))=LM Z:=Ek Z 16 rfl
theorem HH(n:Nat){a:Option Int}(ha:Bj a):cA (n+1) 167 [eY a]=some (.bool true):=by
 rw[JZ]
 unfold EG
 cases a with
 | none=>
  refine aa (z:=LM 0) rfl (aa (z:=.bool true) rfl (aa (z:=true) rfl ?_))
  rw[if_pos rfl,iK,ms fI fI,decide_eq_true rfl]
  rfl
 | some x=>
  have hx:=bM.1 ha.some
  simp only[eY,cn]
  refine aa (z:=LM x.natAbs) rfl (aa (z:=.bool false) rfl (aa (z:=false) rfl ?_))
  rw[if_neg (by decide),iK,ms hx fI]
  refine aa cU (aa af ?_)
  by_cases h:x.natAbs=0
  ·rw[decide_eq_true h]
   have:decide (x<0)=false:=decide_eq_false (by omega)
   rw[this];rfl
  ·rw[decide_eq_false h];rfl
theorem Ia(n:Nat){l:List (Option Int)}(hl:l.length<=1000)(h:∀ a∈l,Bj a):cA (n+2) 118 [.sl (l.map eY)]=some (.bool (l.all Option.isSome)):=by
 rw[JY]
 unfold ET
 refine aa (z:=l.map eY) rfl ?_
 refine be (fun i s=>s=[I (i:Int)]/\(l.take i).all Option.isSome=true) l.length 0 (Nat.zero_le _) ⟨rfl,rfl⟩ (fun i hi s hJ=>?_) (fun s hJ=>?_)
 ·obtain⟨rfl,ht⟩:=hJ
  have hg:(l.map eY)[i]?=some (eY l[i]):=by simp[hi]
  have hb:D.bin .lss (I (i:Int)) (D.int .i64 (l.map eY).length)=some (.bool true):=by
   rw[ag,decide_eq_true (by rw[List.length_map];omega)]
  have hix:D.idx (I (i:Int)) (l.map eY).length=some i:=aw (by rw[List.length_map];exact hi)
  have hin:=h l[i] (List.getElem_mem hi)
  cases ha:l[i] with
  | none=>
   right
   refine⟨(0,[.bool false]),?_,?_⟩
   ·refine aa hb (aa (z:=true) rfl ?_)
    rw[if_pos rfl]
    refine aa (z:=l.map eY) rfl (aa hix (aa hg ?_))
    rw[ha]
    exact aa (z:=.bool true) rfl (aa (z:=true) rfl (aa (z:=true) rfl (aa (z:=true) rfl rfl)))
   ·have:l.all Option.isSome=false:=by
     rw[Bool.eq_false_iff]
     intro hall
     have:=List.all_eq_true.1 hall l[i] (List.getElem_mem hi)
     rw[ha] at this;cases this
    rw[this];rfl
  | some x=>
   left
   refine⟨[I ((i+1:Nat):Int)],?_,rfl,?_⟩
   ·refine aa hb (aa (z:=true) rfl ?_)
    rw[if_pos rfl]
    refine aa (z:=l.map eY) rfl (aa hix (aa hg ?_))
    rw[ha] at hin ⊢
    refine aa (z:=.bool false) rfl (aa (z:=false) rfl (aa (z:=false) ?_ (aa (z:=false) rfl ?_)))
    ·rw[if_neg (by decide)];exact aa (HH n hin) rfl
    ·rw[if_neg (by decide)];exact aa (av (aF (i:=i) (by omega))) rfl
   ·rw[List.take_succ_eq_append_getElem hi,List.all_append,ht,ha];rfl
 ·obtain⟨rfl,ht⟩:=hJ
  rw[List.take_length] at ht
  refine⟨(1,[]),?_,?_⟩
  ·have hb:D.bin .lss (I (l.length:Int)) (D.int .i64 (l.map eY).length)=some (.bool false):=by
    rw[ag,decide_eq_false (by rw[List.length_map];omega)]
   exact aa hb (aa (z:=false) rfl rfl)
  ·rw[ht];rfl
theorem rn(n:Nat){a:Option Int}(ha:Bj a):cA (n+2) 118 [.sl [eY a]]=some (.bool a.isSome):=by
 have:=Ia n (l:=[a]) (by simp) (fun b hb=>by rw[List.mem_singleton.1 hb];exact ha)
 simpa using this
theorem uf(n:Nat){a b:Option Int}(ha:Bj a)(hb:Bj b):cA (n+2) 118 [.sl [eY a,eY b]]=some (.bool (a.isSome&&b.isSome)):=by
 have:=Ia n (l:=[a,b]) (by simp) (fun c hc=>by
  simp only[List.mem_cons,List.not_mem_nil,or_false] at hc
  rcases hc with rfl|rfl
  ·exact ha
  ·exact hb)
 simpa using this
theorem CZ(n:Nat):cA (n+1) 119 []=some Gx:=by
 rw[L5];unfold E7;rw[fG];rfl
theorem o7(neg:Bool)(m:Nat):decide (sgn neg m<0)=(neg&&!(decide (m=0))):=by
 unfold sgn
 cases neg<;>by_cases h:m=0<;>simp[h]<;>omega
theorem mW(neg:Bool)(m:Nat):(sgn neg m).natAbs=m:=by unfold sgn;cases neg<;>simp
theorem uk(n:Nat)(neg:Bool){m:Nat}(h:m<eN):cA (n+1) 116 [.bool neg,LM m]=some (ah (sgn neg m)):=by
 rw[Mp]
 unfold Fn
 rw[iK,ms h fI,cn,o7,mW]
 refine aa (z:=neg) rfl (aa (z:=neg&&!(decide (m=0))) ?_ rfl)
 cases neg<;>rfl
theorem KQ(n:Nat){X Y:Nat}(hX:X<eN)(hY:Y<eN):cA (n+1) 120 [LM X,LM Y]=some (.tup [LM (X+Y),.bool (decide (X+Y<eN))]):=by
 rw[KI]
 unfold EX
 rw[fG]
 refine be (fun k s=>s=[W (ff X Y k:Nat),I (k:Int),LM ((X+Y)%2^(32*k))]) 16 0 (Nat.zero_le _) (by rw[oS,pz];rfl) (fun k hk s hJ=>?_) (fun s hJ=>?_)
 ·subst hJ
  left
  refine⟨_,?_,rfl⟩
  have hc:=kR X Y k
  have x0:=cw X k;have x1:=rM X k
  have y0:=cw Y k;have y1:=rM Y k
  refine aa ag (aa af (aJ (by show(k:Int)<16;omega) ?_))
  refine aa (eP hk) (aa (bh _ hk) (aa (eH X k) (aa (eP hk) (aa (bh _ hk) (aa (eH Y k) ?_)))))
  refine aa (qJ (by omega) (by omega)) (aa (qJ (by omega) (by omega)) (aa (gG _) (aa (eP hk) ?_)))
  rw[<-zx]
  refine aa (pj hk) (aa (qE (by omega)) ?_)
  rw[<-oT]
  exact aa (av (aF (i:=k) (by omega))) rfl
 ·subst hJ
  refine⟨_,aa ag (aa af (aM (by decide) rfl)),?_⟩
  rw[mX,Av hX hY]
  by_cases h:X+Y<eN
  ·rw[if_pos h,decide_eq_true h];rfl
  ·rw[if_neg h,decide_eq_false h];rfl
theorem HS(n:Nat)(a:Int):cA (n+1) 194 [.int .u32 a]=some (.bool false):=by
 rw[L3];simp[Fa,D.beq]
theorem Lx(n:Nat)(a b:Int):cA (n+2) 168 [.int .u32 a,.int .u32 b]=some (I (cm a b)):=by
 rw[Ml]
 unfold Fv
 refine aa (HS n a) (aa (HS n b) (aa (z:=false) rfl ?_))
 rw[if_neg (by decide)]
 refine aa (z:=false) rfl ?_
 rw[if_neg (by decide)]
 refine aa (z:=.bool (decide (a<b))) (by simp only[D.bin,if_true]) (aa af ?_)
 unfold cm
 by_cases h:a<b
 ·rw[if_pos h];exact aJ h rfl
 ·rw[if_neg h]
  refine aM h (aa (z:=.bool (decide (a>b))) (by simp only[D.bin,if_true]) (aa af ?_))
  by_cases h2:a>b
  ·rw[if_pos h2];exact aJ h2 rfl
  ·rw[if_neg h2];exact aM h2 rfl
theorem HN(n:Nat){X Y:Nat}(hX:X<eN)(hY:Y<eN):cA (n+3) 121 [LM X,LM Y]=some (I (cm X Y)):=by
 rw[Lt]
 unfold DZ
 refine be (fun t s=>s=[I (15-(t:Int))]/\iZ X Y (16-t)) 16 0 (Nat.zero_le _) ⟨rfl,Aq hX hY⟩ (fun t ht s hJ=>?_) (fun s hJ=>?_)
 ·obtain⟨rfl,he⟩:=hJ
  obtain⟨k,hk⟩:∃ k,k=15-t:=⟨_,rfl⟩
  have hk16:k<16:=by omega
  have e1:(15-(t:Int))=(k:Int):=by omega
  rw[show 16-t=k+1 by omega] at he
  rw[e1]
  have hix:D.idx (I (k:Int)) 16=some k:=eP hk16
  have hb:D.bin .geq (I (k:Int)) (D.int .i64 0)=some (.bool true):=by rw[iD,decide_eq_true (by omega)]
  by_cases hd:bD X k=bD Y k
  ·left
   refine⟨[I ((k:Int)-1)],?_,?_,?_⟩
   ·refine aa hb (aa (z:=true) rfl ?_)
    rw[if_pos rfl]
    refine aa hix (aa (bh _ hk16) (aa hix (aa (bh _ hk16) (aa (z:=false) ?_ ?_))))
    ·rw[hd];simp[D.beq,D.truth]
    ·rw[if_neg (by decide)];exact aa (dH (by simp only[inR];omega)) rfl
   ·congr 2;omega
   ·rw[show 16-(t+1)=k by omega];exact wq he hd
  ·right
   refine⟨(0,[I (cm (bD X k) (bD Y k))]),?_,?_⟩
   ·refine aa hb (aa (z:=true) rfl ?_)
    rw[if_pos rfl]
    refine aa hix (aa (bh _ hk16) (aa hix (aa (bh _ hk16) (aa (z:=true) ?_ ?_))))
    ·simp[D.beq,D.truth,hd]
    ·rw[if_pos rfl]
     exact aa hix (aa (bh _ hk16) (aa hix (aa (bh _ hk16) (aa (Lx n _ _) rfl))))
   ·have hs:=xf he hd
    rw[if_pos rfl]
    show some (I (cm (bD X k) (bD Y k)))=_
    congr 2
    unfold Go.Proofs.YtjjjkojfijpeeaaGreat.sgn at hs
    unfold cm
    repeat' split at hs
    all_goals (repeat' split)<;>omega
 ·obtain⟨rfl,he⟩:=hJ
  refine⟨(1,[]),aa iD (aa af (aM (by decide) rfl)),?_⟩
  rw[if_neg (by decide)]
  have hs:=A1 he
  congr 2
  unfold Go.Proofs.YtjjjkojfijpeeaaGreat.sgn at hs
  unfold cm
  repeat' split at hs
  all_goals (repeat' split)<;>omega
theorem Hx(n:Nat){X Y:Nat}(hX:X<eN)(h:Y<=X):cA (n+1) 122 [LM X,LM Y]=some (LM (X-Y)):=by
 rw[KM]
 unfold D1
 rw[fG]
 refine be (fun k s=>s=[W (bS X Y k:Nat),I (k:Int),LM ((X-Y)%2^(32*k))]) 16 0 (Nat.zero_le _) (by rw[m9,pz];rfl) (fun k hk s hJ=>?_) (fun s hJ=>?_)
 ·subst hJ
  left
  refine⟨_,?_,rfl⟩
  have hc:=qz X Y k
  obtain⟨q1,q2⟩:=oG (bD X k) (bD Y k) (bS X Y k) (cw X k) (lV X k) (cw Y k) (lV Y k) hc
  refine aa ag (aa af (aJ (by show(k:Int)<16;omega) ?_))
  refine aa (eP hk) (aa (bh _ hk) (aa (eH X k) (aa (eP hk) (aa (bh _ hk) (aa (eH Y k) ?_)))))
  refine aa (pW _ _) (aa (pW _ _) (aa (gG _) (aa (eP hk) ?_)))
  rw[q2,<-yU h]
  refine aa (pj hk) (aa uc ?_)
  rw[q1,<-mO]
  exact aa (av (aF (i:=k) (by omega))) rfl
 ·subst hJ
  refine⟨_,aa ag (aa af (aM (by decide) rfl)),?_⟩
  rw[mX];rfl
theorem xR(n:Nat){X:Nat}(hX:X<eN):cA (n+1) 127 [LM X]=some (I (cW X:Nat)):=by
 rw[LB]
 unfold Ez
 refine be (fun t s=>s=[I ((16-t:Nat):Int)]/\cW X=fR X (16-t)/\under X (16-t)) 16 0 (Nat.zero_le _) ⟨rfl,rfl,yv rfl hX⟩ (fun t ht s hJ=>?_) (fun s hJ=>?_)
 ·obtain⟨rfl,he,hlt⟩:=hJ
  obtain⟨k,hk⟩:∃ k,k=15-t:=⟨_,rfl⟩
  rw[show 16-t=k+1 by omega] at he hlt ⊢
  have hk16:k<16:=by omega
  have hsub:D.bin .sub (I ((k+1:Nat):Int)) (D.int .i64 1)=some (I (k:Int)):=by
   rw[show(D.int .i64 1)=I 1 from rfl,dH (by simp only[inR];omega)];congr 2;omega
  have hb:D.bin .gtr (I ((k+1:Nat):Int)) (D.int .i64 0)=some (.bool true):=by rw[dV,decide_eq_true (by omega)]
  have hz:=t6 (show X<2^(32*(k+1)) from hlt)
  have hbq:D.beq (.int .u32 (bD X k)) (.int .u32 0)=decide (X<2^(32*k)):=by
   simp[D.beq,hz]
  by_cases hs:X<2^(32*k)
  ·left
   refine⟨[I ((16-(t+1):Nat):Int)],?_,rfl,?_,?_⟩
   ·refine aa hb (aa (z:=true) rfl (aa (z:=true) ?_ (aa (z:=true) rfl ?_)))
    ·rw[if_pos rfl]
     refine aa hsub (aa (eP hk16) (aa (bh _ hk16) ?_))
     rw[hbq,decide_eq_true hs];rfl
    ·rw[if_pos rfl,show 16-(t+1)=k by omega]
     exact aa hsub rfl
   ·rw[show 16-(t+1)=k by omega,he,fR,if_neg (by omega)]
   ·rw[show 16-(t+1)=k by omega];exact hs
  ·right
   refine⟨(0,[I ((k+1:Nat):Int)]),?_,?_⟩
   ·refine aa hb (aa (z:=true) rfl (aa (z:=false) ?_ (aa (z:=false) rfl rfl)))
    rw[if_pos rfl]
    refine aa hsub (aa (eP hk16) (aa (bh _ hk16) ?_))
    rw[hbq,decide_eq_false hs];rfl
   ·rw[he,fR,if_pos (by omega)];rfl
 ·obtain⟨rfl,he,_⟩:=hJ
  refine⟨(0,[I 0]),aa dV (aa af (aa (z:=false) (aM (by decide) rfl) (aa (z:=false) rfl rfl))),?_⟩
  rw[he];rfl
noncomputable def Gg:Option Int->Option Int->Option Int
 | some x,some y=>lI (x+y)
 | _,_=>none
theorem nc{a b:Option Int}:(a.isSome&&b.isSome)=false\/∃ x y,a=some x/\b=some y:=by
 cases a<;>cases b<;>simp
theorem fZ{neg:Bool}{m:Nat}{z:Int}(hz:sgn neg m=z)(h:m<eN):eY (lI z)=ah (sgn neg m):=by
 have:z.natAbs=m:=by rw[<-hz,mW]
 unfold lI
 rw[if_pos (by rw[this];exact h),<-hz];rfl
theorem QZ(n:Nat){a b:Option Int}(ha:Bj a)(hb:Bj b):cA (n+4) 57 [eY a,eY b]=some (eY (Gg a b)):=by
 rw[Qx]
 unfold Ja
 refine aa (uf (n+1) ha hb) (aa cU (aa af ?_))
 rcases nc (a:=a) (b:=b) with h|⟨x,y,rfl,rfl⟩
 ·rw[h,if_pos (by decide)]
  refine aa (CZ (n+2)) ?_
  cases a<;>cases b<;>simp at h<;>rfl
 rw[if_neg (by simp)]
 have hx:=bM.1 ha.some
 have hy:=bM.1 hb.some
 rw[show eY (some x)=_ from cn x,show eY (some y)=_ from cn y,show Gg (some x) (some y)=lI (x+y) from rfl]
 refine aa (z:=.bool (decide (x<0))) rfl (aa (z:=.bool (decide (y<0))) rfl (aa (z:=decide (decide (x<0)=decide (y<0))) (by simp[D.beq,D.truth]) ?_))
 by_cases hs:decide (x<0)=decide (y<0)
 ·refine aJ hs ?_
  refine aa (z:=LM x.natAbs) rfl (aa (z:=LM y.natAbs) rfl (aa (KQ (n+2) hx hy) (aa (z:=LM (x.natAbs+y.natAbs)) rfl (aa (z:=.bool (decide (x.natAbs+y.natAbs<eN))) rfl (aa cU (aa af ?_))))))
  have habs:(x+y).natAbs=x.natAbs+y.natAbs:=by
   rw[decide_eq_decide] at hs;omega
  by_cases ht:x.natAbs+y.natAbs<eN
  ·rw[decide_eq_true ht,if_neg (by decide)]
   rw[fZ (neg:=decide (x<0)) (z:=x+y) (by unfold sgn;rw[decide_eq_decide] at hs;simp only[decide_eq_true_eq];split<;>omega) ht]
   exact aa (z:=.bool (decide (x<0))) rfl (aa (uk (n+2) _ ht) rfl)
  ·rw[decide_eq_false ht,if_pos (by decide)]
   refine aa (CZ (n+2)) ?_
   unfold lI
   rw[if_neg (by rw[habs];exact ht)];rfl
 ·refine aM hs ?_
  refine aa (z:=LM x.natAbs) rfl (aa (z:=LM y.natAbs) rfl (aa (HN n hx hy) (aa iD (aa af ?_))))
  have hs':¬ (x<0↔y<0):=fun e=>hs (by rw[decide_eq_decide];exact e)
  by_cases hge:y.natAbs<=x.natAbs
  ·refine aJ (by unfold cm;split<;>(try split)<;>omega) ?_
   refine aa (z:=.bool (decide (x<0))) rfl (aa (z:=LM x.natAbs) rfl (aa (z:=LM y.natAbs) rfl (aa (Hx (n+2) hx hge) (aa (uk (n+2) _ (Nat.lt_of_le_of_lt (Nat.sub_le _ _) hx)) ?_))))
   rw[fZ (neg:=decide (x<0)) (m:=x.natAbs-y.natAbs) (z:=x+y) (by unfold sgn;simp only[decide_eq_true_eq];split<;>omega) (Nat.lt_of_le_of_lt (Nat.sub_le _ _) hx)]
  ·refine aM (by unfold cm;split<;>(try split)<;>omega) ?_
   refine aa (z:=.bool (decide (y<0))) rfl (aa (z:=LM y.natAbs) rfl (aa (z:=LM x.natAbs) rfl (aa (Hx (n+2) hy (by omega)) (aa (uk (n+2) _ (Nat.lt_of_le_of_lt (Nat.sub_le _ _) hy)) ?_))))
   rw[fZ (neg:=decide (y<0)) (m:=y.natAbs-x.natAbs) (z:=x+y) (by unfold sgn;simp only[decide_eq_true_eq];split<;>omega) (Nat.lt_of_le_of_lt (Nat.sub_le _ _) hy)]
theorem Rv(n:Nat){a:Option Int}(ha:Bj a):cA (n+3) 68 [eY a]=some (eY (a.map (fun x=>-x))):=by
 rw[Pt]
 unfold I0
 refine aa (rn n ha) (aa cU (aa af ?_))
 cases a with
 | none=>rw[if_pos (by decide)];exact aa (CZ (n+1)) rfl
 | some x=>
  rw[if_neg (by simp)]
  have hx:=bM.1 ha.some
  rw[show eY (some x)=_ from cn x]
  show _=some (ah (-x))
  refine aa (z:=.bool (decide (x<0))) rfl (aa cU (aa (z:=LM x.natAbs) rfl (aa (uk (n+1) _ hx) ?_)))
  rw[cn,o7,mW]
  rw[cn,Int.natAbs_neg,show((!(decide (x<0)))&&!(decide (x.natAbs=0)))=decide (-x<0) by rw[Bool.eq_iff_iff];simp;omega]
theorem Gk(n:Nat){x:Int}(hx:In x):cA (n+3) 129 [ah x]=some (I (sg x)):=by
 rw[Ll]
 unfold EP
 have h118:=rn n (dm hx)
 have hx:=bM.1 hx
 refine aa h118 (aa cU (aa (z:=false) rfl (aa (z:=decide (x=0)) ?_ (aa af ?_))))
 ·rw[if_neg (by decide),cn]
  refine aa (z:=LM x.natAbs) rfl ?_
  rw[iK,ms hx fI,af]
  congr 1;rw[decide_eq_decide];omega
 ·by_cases h0:x=0
  ·refine aJ h0 ?_
   subst h0;rfl
  ·refine aM h0 (aa (z:=.bool (decide (x<0))) rfl (aa af ?_))
   by_cases h1:x<0
   ·refine aJ h1 ?_
    rw[uW h1]
   ·refine aM h1 ?_
    rw[kg (by omega)]
theorem B0(n:Nat){x:Int}(hx:inR x):cA (n+2) 54 [I x]=some (ah x):=by
 rw[Q4]
 unfold IB
 obtain⟨h1,h2⟩:=hx
 have key:∀ m:Nat,m<18446744073709551616->D.st (D.putParts (List.replicate 16 (D.int .u32 0)) [(0,.int .u32 ((m:Int)%4294967296)),(1,.int .u32 ((m:Int)/4294967296%4294967296))])=LM m:=fun m hm=>by
  have e:LM m=cM 16 (fun j=>if j=0 then(m:Int)%4294967296 else if j=1 then(m:Int)/4294967296%4294967296 else 0):=dA fun j hj=>by
   match j with
   | 0=>simp[bD]
   | 1=>simp[bD]
   | j+2=>
    rw[if_neg (by omega),if_neg (by omega)]
    exact fJ (n:=2) (by simpa using hm) (by omega)
  rw[e];rfl
 have w1:IntKind.u64.wrap x=if x<0 then x+18446744073709551616 else x:=by
  have:IntKind.u64.wrap x=x%18446744073709551616:=rfl
  rw[this];split<;>omega
 have hc:D.conv .u64 (I x)=some (W (if x<0 then x+18446744073709551616 else x)):=by simp only[D.conv,w1]
 refine aa hc ?_
 have habs:x.natAbs<18446744073709551616:=by omega
 refine aa (z:=(0,[W (x.natAbs:Nat)])) ?_ ?_
 ·refine aa ag (aa af ?_)
  by_cases h:x<0
  ·refine aJ h ?_
   rw[if_pos h]
   have:D.un .neg (W (x+18446744073709551616))=some (W (x.natAbs:Nat)):=by
    simp only[D.un]
    have:IntKind.u64.wrap (0-(x+18446744073709551616))=(0-(x+18446744073709551616))%18446744073709551616:=rfl
    rw[this];congr 2;omega
   exact aa this rfl
  ·refine aM h ?_
   rw[if_neg h];congr 4;omega
 ·refine aa ag (aa (gG _) (aa (qE (by show(0:Int)<=(x.natAbs:Nat);omega)) (aa (gG _) ?_)))
  have e:=key x.natAbs habs
  refine aa (z:=ah x) ?_ rfl
  show cA (n+1) 116 [.bool (decide (x<0)),D.st (D.putParts (List.replicate 16 (D.int .u32 0)) [(0,.int .u32 (((x.natAbs:Nat):Int)%4294967296)),(1,.int .u32 (((x.natAbs:Nat):Int)/4294967296%4294967296))])]=_
  rw[e,uk n _ (uj habs)]
  congr 1
  congr 1
  unfold sgn;simp only[decide_eq_true_eq];split<;>omega
end Go.Proofs.YtjjjkojfijpeeaaGreat.Sy
end
section
set_option linter.unusedVariables false
namespace Go.Proofs.YtjjjkojfijpeeaaGreat.Sy
open Go Go.Proofs Go.Proofs.YtjjjkojfijpeeaaGreat.Geo
theorem AJ(A B i k n:Nat)(hn:i+k<n):D.set (cM n (uN A B i k)) [i+k] (.int .u32 (((nb A B i k:Nat)+(bD A i*bD B k+bD (ft A B i) (i+k)))%4294967296))=some (cM n (uN A B i (k+1))):=by
 refine kJ hn fun j hj=>?_
 unfold uN rR
 by_cases h:j=i+k
 ·subst h;rw[if_pos (by omega),if_pos rfl,CQ]
 ·rw[if_neg h]
  by_cases h2:j<i+k
  ·rw[if_pos (by omega),if_pos h2,td,jE _ _ _ _ h2]
  ·rw[if_neg (by omega),if_neg h2]
theorem AN{A B i m n:Nat}(hB:B<2^(32*m))(hn:i+m<n):D.set (cM n (uN A B i m)) [i+m] (.int .u32 (nb A B i m:Nat))=some (cM n (bD (ft A B (i+1)))):=by
 have hz:=zj (A:=A) (i:=i) hB
 have hv:lN A B i m<2^(32*(i+m+1)):=by rw[<-ti hB];have:=zj (A:=A) (i:=i+1) hB;rwa [show i+1+m=i+m+1 from by omega] at this
 refine kJ hn fun j hj=>?_
 rw[ti hB]
 unfold uN rR
 by_cases h:j=i+m
 ·subst h
  rw[if_pos rfl,cV]
  have h1:=u6 A B i m
  rw[Nat.div_eq_of_lt hz,Nat.add_zero] at h1
  rw[<-h1,Nat.mod_eq_of_lt (Nat.lt_of_le_of_lt (uZ A B i m) (by omega))]
 ·rw[if_neg h]
  by_cases h2:j<i+m
  ·rw[if_pos h2]
  ·rw[if_neg h2,fJ hv (by omega),fJ hz (by omega)]
theorem qx{n a c:Nat}(f:Nat->Int)(h:a+c<=n):D.st (List.take c (List.drop a ((List.range n).map fun i=>D.int .u32 (f i))))=cM c (fun j=>f (a+j)):=by
 unfold cM
 congr 1
 apply List.ext_getElem?
 intro j
 by_cases hj:j<c
 ·rw[List.getElem?_take_of_lt hj,List.getElem?_drop]
  simp[hj,show a+j<n by omega]
 ·rw[List.getElem?_eq_none (by simp;omega),List.getElem?_eq_none (by simp;omega)]
theorem xb:aB xL=cM 32 (bD 0):=by
 have:cM 32 (bD 0)=cM 32 (fun _=>0):=dA fun i _=>mA i
 rw[this];rfl
theorem Ec{a b:Int}(ha0:0<=a)(ha:a<=4294967295)(hb0:0<=b)(hb:b<=4294967295):0<=a*b/\a*b<=18446744065119617025:=by
 refine⟨Int.mul_nonneg ha0 hb0,?_⟩
 have h1:a*b<=4294967295*b:=Int.mul_le_mul_of_nonneg_right ha hb0
 omega
noncomputable def GX:Option Int->Option Int->Option Int
 | some x,some y=>lI (x*y)
 | _,_=>none
theorem Qf(n:Nat){a b:Option Int}(ha:Bj a)(hb:Bj b):cA (n+3) 61 [eY a,eY b]=some (eY (GX a b)):=by
 rw[O4]
 unfold Je
 refine aa (uf n ha hb) (aa cU (aa af ?_))
 rcases nc (a:=a) (b:=b) with h|⟨x,y,rfl,rfl⟩
 ·rw[h,if_pos (by decide)]
  refine aa (CZ (n+1)) ?_
  cases a<;>cases b<;>simp at h<;>rfl
 rw[if_neg (by simp)]
 have hx:=bM.1 ha.some
 have hy:=bM.1 hb.some
 rw[show eY (some x)=_ from cn x,show eY (some y)=_ from cn y,show GX (some x) (some y)=lI (x*y) from rfl]
 generalize hX:x.natAbs=X at *
 generalize hY:y.natAbs=Y at *
 have n1:=ji X;have n2:=ji Y
 have s1:=eh hx;have s2:=eh hy
 refine aa (z:=LM X) rfl (aa (xR (n+1) hx) (aa (z:=LM Y) rfl (aa (xR (n+1) hy) ?_)))
 generalize cW X=p at *
 generalize cW Y=m at *
 rw[xb]
 refine be (fun i s=>s=[I (i:Int),cM 32 (bD (ft X Y i))]) p 0 (Nat.zero_le _) (by rw[A4];rfl) (fun i hi s hJ=>?_) (fun s hJ=>?_)
 ·subst hJ
  left
  refine⟨[I ((i+1:Nat):Int),cM 32 (bD (ft X Y (i+1)))],?_,rfl⟩
  refine aa ag (aa af (aJ (by show(i:Int)<(p:Int);omega) ?_))
  refine cT (fun k s=>s=[W (nb X Y i k:Nat),I (k:Int),cM 32 (uN X Y i k)]) m 0 (Nat.zero_le _) (by rw[tf,Ae];rfl) (fun k hk s hJ=>?_) (fun s hJ=>?_)
  ·subst hJ
   left
   refine⟨_,?_,rfl⟩
   have hi16:i<16:=by omega
   have hk16:k<16:=by omega
   have hik:i+k<32:=by omega
   have a0:=cw X i;have a1:=lV X i
   have b0:=cw Y k;have b1:=lV Y k
   have z0:=cw (ft X Y i) (i+k);have z1:=lV (ft X Y i) (i+k)
   have hc:=uZ X Y i k
   obtain⟨q0,q1⟩:=Ec a0 a1 b0 b1
   refine aa ag (aa af (aJ (by show(k:Int)<(m:Int);omega) ?_))
   refine aa (eP hi16) (aa (bh _ hi16) (aa (eH X i) (aa (eP hk16) (aa (bh _ hk16) (aa (eH Y k) ?_)))))
   refine aa (F6 q0 (by omega)) (aa (aZ (a:=i) (b:=k) (by omega)) (aa (aw hik) (aa (bh _ hik) ?_)))
   rw[AA]
   refine aa (eH _ _) (aa (qJ (by omega) (by omega)) (aa (qJ (by omega) (by omega)) (aa (aZ (a:=i) (b:=k) (by omega)) (aa (gG _) (aa (aw hik) (aa (AJ X Y i k 32 hik) (aa (qE (by omega)) ?_)))))))
   rw[<-A6]
   exact aa (av (aF (i:=k) (by omega))) rfl
  ·subst hJ
   refine⟨_,aa ag (aa af (aM (by show ¬ ((m:Int)<(m:Int));omega) rfl)),?_⟩
   have him:i+m<32:=by omega
   have hc:=uZ X Y i m
   refine aa (aZ (a:=i) (b:=m) (by omega)) (aa (gG _) (aa (aw him) ?_))
   rw[Int.emod_eq_of_lt (by omega) (by omega)]
   exact aa (AN s2 him) (aa (av (aF (i:=i) (by omega))) rfl)
 ·subst hJ
  refine⟨(0,[cM 32 (bD (X*Y))]),?_,?_⟩
  ·rw[Dc s1]
   exact aa ag (aa af (aM (by show ¬ ((p:Int)<(p:Int));omega) rfl))
  have hpos:=fI
  have hq:X*Y/eN<eN:=Nat.div_lt_of_lt_mul (Nat.mul_lt_mul'' hx hy)
  have hhi:D.st (List.take 16 (List.drop 16 ((List.range 32).map fun i=>D.int .u32 (bD (X*Y) i))))=LM (X*Y/eN):=by
   rw[qx _ (by omega)]
   exact dA fun j _=>by rw[fQ,vL]
  have hlo:D.st (List.take 16 (List.drop 0 ((List.range 32).map fun i=>D.int .u32 (bD (X*Y) i))))=LM (X*Y):=by
   rw[qx _ (by omega)]
   exact dA fun j _=>by rw[Nat.zero_add]
  show(if decide (16+16<=((List.range 32).map fun i=>D.int .u32 (bD (X*Y) i)).length)=true then _ else none)=_
  rw[if_pos (by simp),hhi,iK,ms hq hpos]
  have habs:(x*y).natAbs=X*Y:=by rw[Int.natAbs_mul,hX,hY]
  by_cases ht:X*Y<eN
  ·rw[Nat.div_eq_of_lt ht,decide_eq_true rfl]
   refine aa (z:=false) rfl ?_
   rw[if_neg (by decide)]
   refine aa (z:=.bool (decide (x<0))) rfl (aa (z:=.bool (decide (y<0))) rfl ?_)
   show(if decide (0+16<=((List.range 32).map fun i=>D.int .u32 (bD (X*Y) i)).length)=true then _ else none)=_
   rw[if_pos (by simp),hlo]
   have hsg:=uR x y
   rw[hX,hY] at hsg
   rw[fZ hsg ht]
   refine aa (z:=ah (sgn (!(decide (decide (x<0)=decide (y<0)))) (X*Y))) ?_ rfl
   rw[<-uk (n+1) _ ht]
   congr 4
  ·rw[decide_eq_false (fun e=>ht (by have:=Nat.div_eq_zero_iff.1 e;omega))]
   refine aa (z:=true) rfl ?_
   rw[if_pos rfl]
   refine aa (CZ (n+1)) ?_
   unfold lI
   rw[habs,if_neg ht];rfl
end Go.Proofs.YtjjjkojfijpeeaaGreat.Sy
end
section
set_option linter.unusedVariables false
namespace Go.Proofs.YtjjjkojfijpeeaaGreat.Sy
open Go Go.Proofs Go.Proofs.YtjjjkojfijpeeaaGreat.Geo
def jm(x:Nat):Nat:=if x=0 then 0 else Nat.log2 x+1
theorem Fg{x L:Nat}(h1:2^L<=x)(h2:x<2^(L+1)):jm x=L+1:=by
 have hx:x≠0:=fun e=>by have:=Nat.two_pow_pos L;omega
 unfold jm
 rw[if_neg hx]
 have a:=(Nat.le_log2 hx).2 h1
 have b:=(Nat.log2_lt hx).2 h2
 omega
theorem gU{x:Nat}(hx:x≠0):∃ L,jm x=L+1/\2^L<=x/\x<2^(L+1):=by
 refine⟨Nat.log2 x,by unfold jm;rw[if_neg hx],(Nat.le_log2 hx).1 (Nat.le_refl _),(Nat.log2_lt hx).1 (Nat.lt_succ_self _)⟩
theorem qS{x m:Nat}(h:2^m<=x):jm x=m+jm (x/2^m):=by
 have hq:x/2^m≠0:=fun e=>by
  have:=Nat.div_eq_zero_iff.1 e
  have:=Nat.two_pow_pos m
  omega
 obtain⟨L,h1,h2,h3⟩:=gU hq
 rw[h1,<-Nat.add_assoc]
 have hp:=Nat.two_pow_pos m
 refine Fg (L:=m+L) ?_ ?_
 ·rw[Nat.pow_add,Nat.mul_comm];exact Nat.le_trans (Nat.mul_le_mul_right _ h2) (Nat.div_mul_le_self _ _)
 ·rw[show m+L+1=m+(L+1) by omega,Nat.pow_add,Nat.mul_comm]
  exact(Nat.div_lt_iff_lt_mul hp).1 h3
noncomputable def uO:D:=D.str ((nu (Bp Tryz.f165)).getD ByteArray.empty)
noncomputable def C5(i:Nat):Bool:=match D.strAt uO (.int .u8 i) with
 | some (.int .u8 v)=>decide (v=(jm i:Nat))
 | _=>false
theorem Gl:(List.range 256).all C5=true:=by kernel_rfl
theorem GQ{i:Nat}(h:i<256):D.strAt uO (.int .u8 i)=some (.int .u8 (jm i:Nat)):=by
 have:=List.all_eq_true.1 Gl i (List.mem_range.2 h)
 unfold C5 at this
 split at this
 ·rename_i v hv
  rw[hv,of_decide_eq_true this]
 ·cases this
theorem FP{a m:Nat}{c:D}(hc:c=.int .u64 (m:Nat))(hm:m<=32):D.bin .shr (U a) c=some (U (a/2^m)):=by
 subst hc
 simp only[D.bin]
 rw[if_neg (by omega),show min ((m:Int)).toNat (IntKind.bits .u32)=m from by simp[IntKind.bits];omega,Int.fdiv_eq_ediv_of_nonneg _ (by exact Int.le_of_lt (Int.pow_pos (by decide)))]
 congr 2
theorem Hp(n:Nat){x:Nat}(hx:x<4294967296):cA (n+1) 165 [U x]=some (I (jm x:Nat)):=by
 rw[Mz]
 unfold DA
 have geq:∀ (a b:Nat) {c:D},c=.int .u32 (b:Nat)->D.bin .geq (U a) c=some (.bool (decide (b<=a))):=fun a b c hc=>by
  subst hc
  simp only[D.bin,if_true]
  congr 2;rw[decide_eq_decide];omega
 have last:∀ (y m:Nat),y<65536->m<=16->(Option.bind (Option.bind (D.bin .geq (U y) (D.int .u32 256)) fun x5=>
   Option.bind (D.truth x5) fun b6=>
   if b6 then(Option.bind (D.bin .shr (U y) (D.int .u64 8)) fun x7=>
   Option.bind (D.bin .add (I (m:Nat)) (D.int .i64 8)) fun x8=>
   some ((0:Nat),[x7,x8])) else(some (0,[U y,I (m:Nat)]))) fun(r9:Nat×List D)=>
   Option.bind (D.conv .u8 (gx r9.2 0)) fun x10=>
   Option.bind (D.strAt uO x10) fun x11=>
   Option.bind (D.conv .i64 x11) fun x12=>
   Option.bind (D.bin .add (gx r9.2 1) x12) fun x13=>
   some x13)=some (I ((m+jm y:Nat):Int)):=fun y m hy hm=>by
  have fin:∀ (z m:Nat),z<256->m<=24->(Option.bind (D.conv .u8 (U z)) fun x10=>
    Option.bind (D.strAt uO x10) fun x11=>
    Option.bind (D.conv .i64 x11) fun x12=>
    Option.bind (D.bin .add (I (m:Nat)) x12) fun x13=>some x13)=some (I ((m+jm z:Nat):Int)):=fun z m hz hm=>by
   have hb:jm z<=8:=by
    by_cases h0:z=0
    ·subst h0;decide
    ·obtain⟨L,h1,h2,_⟩:=gU h0
     rcases Nat.lt_or_ge L 8 with h|h
     ·omega
     ·have:=Nat.pow_le_pow_right (show 0<2 by decide) h
      omega
   have e8:D.conv .u8 (U z)=some (.int .u8 (z:Nat)):=by
    simp only[D.conv]
    have:IntKind.u8.wrap (z:Int)=(z:Int)%256:=rfl
    rw[this,Int.emod_eq_of_lt (by omega) (by omega)]
   refine aa e8 (aa (GQ hz) (aa (z:=I (jm z:Nat)) ?_ (aa (aZ (by omega)) rfl)))
   simp only[D.conv];rw[iP (by simp only[inR];omega)]
  by_cases h:256<=y
  ·refine aa (z:=(0,[U (y/256),I ((m+8:Nat):Int)])) ?_ ?_
   ·refine aa (geq y 256 rfl) (aa af (aJ h ?_))
    exact aa (FP (m:=8) rfl (by decide)) (aa (aZ (b:=8) (by omega)) rfl)
   ·have:=fin (y/256) (m+8) (by omega) (by omega)
    rw[qS (m:=8) (by omega),<-Nat.add_assoc]
    exact this
  ·refine aa (z:=(0,[U y,I (m:Nat)])) (aa (geq y 256 rfl) (aa af (aM h rfl))) ?_
   exact fin y m (by omega) (by omega)
 by_cases h:65536<=x
 ·refine aa (z:=(0,[U (x/65536),I ((16:Nat):Int)])) ?_ ?_
  ·refine aa (geq x 65536 rfl) (aa af (aJ h ?_))
   exact aa (FP (m:=16) rfl (by decide)) rfl
  ·rw[qS (m:=16) (by omega)]
   exact last (x/65536) 16 (by omega) (by decide)
 ·refine aa (z:=(0,[U x,I ((0:Nat):Int)])) (aa (geq x 65536 rfl) (aa af (aM h rfl))) ?_
  have:=last x 0 (by omega) (by decide)
  rw[Nat.zero_add] at this
  exact this
theorem MD(n:Nat){x:Nat}(hx:x<4294967296):cA (n+2) 196 [U x]=some (I (32-(jm x:Nat))):=by
 rw[MF]
 unfold Eh
 have hb:jm x<=32:=by
  by_cases h0:x=0
  ·subst h0;decide
  ·obtain⟨L,h1,h2,_⟩:=gU h0
   rcases Nat.lt_or_ge L 32 with h|h
   ·omega
   ·have:=Nat.pow_le_pow_right (show 0<2 by decide) h
    omega
 exact aa (Hp n hx) (aa (dH (by simp only[inR];omega)) rfl)
theorem HE{a b:Nat}(ha:a<18446744073709551616)(hb:b<18446744073709551616):D.bin .or (W (a:Nat)) (W (b:Nat))=some (W ((a ||| b:Nat):Int)):=by
 simp only[D.bin,if_true,D.bitOp]
 have e:(BitVec.ofInt (IntKind.bits .u64) (a:Int) ||| BitVec.ofInt (IntKind.bits .u64) (b:Int)).toNat=a ||| b:=by
  have h1:(BitVec.ofInt 64 (a:Int)).toNat=a:=by simp[BitVec.toNat_ofInt];omega
  have h2:(BitVec.ofInt 64 (b:Int)).toNat=b:=by simp[BitVec.toNat_ofInt];omega
  show(BitVec.ofInt 64 (a:Int) ||| BitVec.ofInt 64 (b:Int)).toNat=a ||| b
  rw[BitVec.toNat_or,h1,h2]
 rw[e]
 have hl:a ||| b<2^64:=Nat.or_lt_two_pow ha hb
 rw[dw ⟨by omega,by omega⟩]
theorem ir{a b m:Nat}(hb:b<2^m)(h:a*2^m+b<18446744073709551616):D.bin .or (W ((a*2^m:Nat):Int)) (W (b:Nat))=some (W ((a*2^m+b:Nat):Int)):=by
 rw[HE (by omega) (by omega),Nat.mul_comm,<-Nat.two_pow_add_eq_or_of_lt hb]
theorem Ah{a b m:Nat}(hb:b<2^m)(h:a*2^m+b<18446744073709551616):D.bin .or (W (b:Nat)) (W ((a*2^m:Nat):Int))=some (W ((a*2^m+b:Nat):Int)):=by
 rw[HE (by omega) (by omega),Nat.or_comm,Nat.mul_comm,<-Nat.two_pow_add_eq_or_of_lt hb]
theorem o9{a m:Nat}{c:D}{k:IntKind}(hc:c=.int k (m:Nat))(hm:m<=64)(h:a*2^m<18446744073709551616):D.bin .shl (W (a:Nat)) c=some (W ((a*2^m:Nat):Int)):=by
 subst hc
 simp only[D.bin]
 rw[if_neg (by omega),show min ((m:Int)).toNat (IntKind.bits .u64)=m from by simp[IntKind.bits];omega]
 have e:(a:Int)*2^m=((a*2^m:Nat):Int):=by rw[Int.natCast_mul,Int.natCast_pow];rfl
 rw[e,dw ⟨by omega,by omega⟩]
theorem GH{a m:Nat}{c:D}{k:IntKind}(hc:c=.int k (m:Nat))(hm:m<=64):D.bin .shr (W (a:Nat)) c=some (W ((a/2^m:Nat):Int)):=by
 subst hc
 simp only[D.bin]
 rw[if_neg (by omega),show min ((m:Int)).toNat (IntKind.bits .u64)=m from by simp[IntKind.bits];omega,Int.fdiv_eq_ediv_of_nonneg _ (by exact Int.le_of_lt (Int.pow_pos (by decide)))]
 congr 2
theorem Ga{a b:Nat}(hb:b≠0)(ha:a<18446744073709551616):D.bin .quo (W (a:Nat)) (W (b:Nat))=some (W ((a/b:Nat):Int)):=by
 simp only[D.bin,if_true]
 rw[if_neg (by omega),<-Int.ofNat_tdiv,dw ⟨Int.natCast_nonneg _,Int.ofNat_lt.2 (Nat.lt_of_le_of_lt (Nat.div_le_self a b) ha)⟩]
theorem Br{a b:Nat}(hb:b≠0):D.bin .rem (W (a:Nat)) (W (b:Nat))=some (W ((a%b:Nat):Int)):=by
 simp only[D.bin,if_true]
 rw[if_neg (by omega),<-Int.ofNat_tmod]
theorem BT{a b:Nat}(h:a+b<18446744073709551616):D.bin .add (W (a:Nat)) (W (b:Nat))=some (W ((a+b:Nat):Int)):=by
 rw[qJ (by omega) (by omega),Int.natCast_add]
theorem BE{a b:Nat}(h:a*b<18446744073709551616):D.bin .mul (W (a:Nat)) (W (b:Nat))=some (W ((a*b:Nat):Int)):=by
 rw[F6 (by rw[<-Int.natCast_mul];omega) (by rw[<-Int.natCast_mul];omega),Int.natCast_mul]
theorem Bm{a b:Nat}(h:b<=a)(ha:a<18446744073709551616):D.bin .sub (W (a:Nat)) (W (b:Nat))=some (W ((a-b:Nat):Int)):=by
 rw[pW,dw ⟨by omega,by omega⟩];congr 2;omega
theorem tX(a:Nat):D.conv .u32 (W (a:Nat))=some (.int .u32 ((a%4294967296:Nat):Int)):=by rw[gG];rfl
theorem lh(X k:Nat):D.conv .u64 (.int .u32 (bD X k))=some (W (dg X k:Nat)):=eH X k
theorem H1(n:Nat){X s:Nat}(hX:X<eN)(hs:s<=31):cA (n+1) 197 [LM X,I (s:Nat)]=some (.tup [LM (X*2^s),.int .u32 ((X*2^s/eN:Nat):Int)]):=by
 rw[KA]
 unfold D7
 rw[fG]
 have hp:=Nat.two_pow_pos s
 have hp2:2^s<=2^31:=Nat.pow_le_pow_right (by decide) hs
 refine be (fun k s'=>s'=[W (fW X (2^s) k:Nat),I (k:Int),LM (X*2^s%2^(32*k))]) 16 0 (Nat.zero_le _) (by rw[tC,pz];rfl) (fun k hk s' hJ=>?_) (fun s' hJ=>?_)
 ·subst hJ
  left
  refine⟨_,?_,rfl⟩
  have hc:=uT X k hp
  have hd:=fj X k
  have hm:dg X k*2^s<=4294967295*2^s:=Nat.mul_le_mul_right _ (by omega)
  have e1:=wB X (2^s) k
  have e2:=tz X (2^s) k
  rw[nV X k] at e1 e2
  have ec:((fW X (2^s) k:Nat):Int)+(dg X k:Nat)*((2^s:Nat):Int)=((dg X k*2^s+fW X (2^s) k:Nat):Int):=by rw[Int.natCast_add,Int.natCast_mul];omega
  rw[ec] at e1 e2
  refine aa ag (aa af (aJ (by show(k:Int)<16;omega) ?_))
  refine aa (eP hk) (aa (bh _ hk) (aa (lh X k) (aa (o9 rfl (by omega) (by omega)) (aa (Ah hc (by omega)) (aa (gG _) (aa (eP hk) ?_))))))
  rw[<-e1]
  refine aa (pj hk) (aa (qE (by omega)) ?_)
  rw[<-e2]
  exact aa (av (aF (i:=k) (by omega))) rfl
 ·subst hJ
  refine⟨_,aa ag (aa af (aM (by decide) rfl)),?_⟩
  have hc:=uT X 16 hp
  have e:=C0 (D:=2^s) hX
  rw[mX,e]
  rw[e] at hc
  refine aa (tX _) ?_
  rw[Nat.mod_eq_of_lt (by omega)]
  rfl
theorem Ni(n:Nat){X s:Nat}(hX:X<eN)(hs:s<=31):cA (n+1) 201 [LM X,I (s:Nat)]=some (LM (X/2^s)):=by
 rw[LE]
 unfold Eg
 rw[fG]
 refine be (fun k s'=>s'=[I (k:Int),LM (X/2^s%2^(32*k))]) 16 0 (Nat.zero_le _) (by rw[pz];rfl) (fun k hk s' hJ=>?_) (fun s' hJ=>?_)
 ·subst hJ
  left
  refine⟨_,?_,rfl⟩
  have hd:=fj X k;have hd1:=fj X (k+1)
  refine aa ag (aa af (aJ (by show(k:Int)<16;omega) ?_))
  refine aa (z:=(0,[W (dg X (k+1):Nat)])) ?_ ?_
  ·refine aa (aZ (a:=k) (b:=1) (by omega)) (aa ag (aa af ?_))
   by_cases h:k+1<16
   ·refine aJ (by show((k+1:Nat):Int)<16;omega) ?_
    exact aa (aZ (a:=k) (b:=1) (by omega)) (aa (eP h) (aa (bh _ h) (aa (lh X (k+1)) rfl)))
   ·refine aM (by show ¬ ((k+1:Nat):Int)<16;omega) ?_
    have hz:bD X (k+1)=0:=fJ (n:=16) (by rw[fQ,dC] at hX;exact hX) (by omega)
    have hz:dg X (k+1)=0:=by rw[nV] at hz;omega
    rw[hz];rfl
  refine aa (o9 (m:=32) rfl (by decide) (by omega)) (aa (eP hk) (aa (bh _ hk) (aa (lh X k) (aa (ir (m:=32) (by omega) (by omega)) (aa (GH rfl (by omega)) (aa (gG _) (aa (eP hk) ?_)))))))
  have e:=CL X s k (by omega)
  rw[nV X (k+1),nV X k] at e
  have ec:((dg X (k+1):Nat):Int)*4294967296+(dg X k:Nat)=((dg X (k+1)*2^32+dg X k:Nat):Int):=by omega
  rw[ec,<-Int.natCast_ediv] at e
  rw[<-e]
  exact aa (pj hk) (aa (av (aF (i:=k) (by omega))) rfl)
 ·subst hJ
  refine⟨_,aa ag (aa af (aM (by decide) rfl)),?_⟩
  rw[mX];rfl
theorem zV{Q k:Nat}(hk:k<16):D.set (LM (Q/2^(32*(k+1))*2^(32*(k+1)))) [k] (.int .u32 (bD Q k))=some (LM (Q/2^(32*k)*2^(32*k))):=
 kJ hk fun j hj=>by
  rw[tG,tG]
  by_cases e:j=k
  ·subst e;simp
  ·rw[if_neg e]
   by_cases h:j<k
   ·rw[if_pos h,if_pos (by omega)]
   ·rw[if_neg h,if_neg (by omega)]
theorem EC{Q:Nat}(h:Q<eN):LM (Q/2^(32*16)*2^(32*16))=LM 0:=by
 rw[vV,Nat.div_eq_of_lt h,Nat.zero_mul]
theorem Mt(n:Nat){X b:Nat}(hX:X<eN)(hb:0<b)(hb2:b<=4294967295):cA (n+1) 195 [LM X,U b]=some (.tup [LM (X/b),U (X%b)]):=by
 rw[KD]
 unfold EI
 rw[fG]
 have hq:X/b<eN:=Nat.lt_of_le_of_lt (Nat.div_le_self _ _) hX
 have h16:eX X b 16=0:=by unfold eX;rw[vV,Nat.div_eq_of_lt hX,Nat.zero_mod]
 have hconv:D.conv .u64 (U b)=some (W (b:Nat)):=B1 (by omega) (by omega)
 refine be (fun t s'=>s'=[W (eX X b (16-t):Nat),I (15-(t:Int)),LM (X/b/2^(32*(16-t))*2^(32*(16-t)))]) 16 0 (Nat.zero_le _) (by rw[Nat.sub_zero,h16,EC hq];rfl) (fun t ht s' hJ=>?_) (fun s' hJ=>?_)
 ·subst hJ
  left
  obtain⟨k,hk⟩:∃ k,k=15-t:=⟨_,rfl⟩
  have hk16:k<16:=by omega
  rw[show 16-t=k+1 by omega,show(15-(t:Int))=(k:Int) by omega,show 16-(t+1)=k by omega,show(15-((t+1:Nat):Int))=(k:Int)-1 by omega]
  refine⟨_,?_,rfl⟩
  have hr:=xi X (k+1) hb
  have hd:=fj X k
  have e1:=AK X k hb hb2
  have e2:=yt X b k
  refine aa iD (aa af (aJ (by show(k:Int) ≥ 0;omega) ?_))
  refine aa (o9 (m:=32) rfl (by decide) (by omega)) (aa (eP hk16) (aa (bh _ hk16) (aa (lh X k) (aa (ir (m:=32) (by omega) (by omega)) ?_))))
  have hT:eX X b (k+1)*2^32+dg X k<18446744073709551616:=by omega
  refine aa hconv (aa (Ga (by omega) hT) (aa (tX _) (aa (eP hk16) ?_)))
  have e3:(((eX X b (k+1)*2^32+dg X k)/b%4294967296:Nat):Int)=bD (X/b) k:=by
   rw[cV,e1]
   show(((eX X b (k+1)*2^32+dg X k)/b%4294967296:Nat):Int)=(((eX X b (k+1)*4294967296+dg X k)/b:Nat):Int)
   congr 1
   refine Nat.mod_eq_of_lt ?_
   rw[Nat.div_lt_iff_lt_mul hb]
   have:(eX X b (k+1)+1)*4294967296<=b*4294967296:=Nat.mul_le_mul_right _ hr
   omega
  rw[e3]
  refine aa (zV hk16) (aa hconv (aa (Br (by omega)) (aa (dH (by simp only[inR];omega)) ?_)))
  have e4:(eX X b (k+1)*2^32+dg X k)%b=eX X b k:=e2.symm
  rw[e4]
 ·subst hJ
  refine⟨_,aa iD (aa af (aM (by decide) rfl)),?_⟩
  have hm:X%b<b:=Nat.mod_lt _ hb
  rw[show 16-16=0 from rfl,A0,Nat.mul_zero,Nat.pow_zero,Nat.div_one,Nat.mul_one]
  refine aa (tX _) ?_
  rw[Nat.mod_eq_of_lt (show X%b<4294967296 by omega)]
  rfl
end Go.Proofs.YtjjjkojfijpeeaaGreat.Sy
end
