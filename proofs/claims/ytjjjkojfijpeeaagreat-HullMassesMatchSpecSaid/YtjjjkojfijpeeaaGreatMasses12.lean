/- Part 12 of the proof that HullMassesMatchSpec answers true at every input -/
import Derived.Test.YtjjjkojfijpeeaaGreatMasses01
import Derived.Test.YtjjjkojfijpeeaaGreatMasses11
set_option linter.unusedVariables false
set_option linter.unusedSimpArgs false
set_option linter.unnecessarySimpa false
section
set_option linter.unusedVariables false
namespace Go.Proofs.YtjjjkojfijpeeaaGreat.Sy
open Go Go.Proofs Go.Proofs.YtjjjkojfijpeeaaGreat.Geo
def Wd(x:Int):Prop:=x.natAbs<4611686018427387904
theorem Wd.inR{x:Int}(h:Wd x):inR x:=by unfold Wd at h;simp only[Sy.inR];omega
theorem Wd.In{x:Int}(h:Wd x):In x:=In.of h.inR
theorem Me(n:Nat){a b:Int}(ha:Wd a)(hb:b≠0)(hd:b ∣ a):cA (n+1) 144 [I a,I b]=some (I (a/b)):=by
 rw[Js]
 unfold CV
 obtain⟨q,rfl⟩:=hd
 have e1:(b*q).tdiv b=q:=Int.mul_tdiv_cancel_left _ hb
 have e2:b*q/b=q:=Int.mul_ediv_cancel_left _ hb
 have e3:(b*q).tmod b=0:=Int.mul_tmod_right ..
 have hq:Sy.inR q:=by
  have:q.natAbs<=(b*q).natAbs:=by rw[Int.natAbs_mul];exact Nat.le_mul_of_pos_left _ (by omega)
  unfold Wd at ha;simp only[Sy.inR];omega
 rw[e2]
 refine aa (sf hb (by rw[e1];exact hq)) (aa (z:=(0,[I q])) (aa (sR hb) ?_) rfl)
 rw[e1,e3]
 exact aa (z:=false) rfl (aa (z:=false) rfl (aa af rfl))
theorem Ir(n:Nat){a b:Int}(ha:Wd a)(hb:Wd b):cA (n+4) 85 [ah a,ah b]=some (ah (Nat.gcd a.natAbs b.natAbs:Nat)):=by
 rw[Nn]
 unfold HT
 refine aa (pL n ha) (aa (z:=I a) rfl (aa (z:=.bool true) rfl (aa (pL n hb) (aa (z:=I b) rfl (aa (z:=.bool true) rfl (aa (z:=true) rfl (aa (z:=true) rfl (aa (z:=true) rfl ?_))))))))
 rw[if_pos rfl]
 obtain⟨r,h1,h2⟩:=wI (body:=fun(v1:List D)=>
  Option.bind (D.truth (D.bool (!(D.beq (gx v1 1) (D.int .i64 0))))) fun b2=>
  if b2 then(Option.bind (D.bin .rem (gx v1 0) (gx v1 1)) fun x3=>
  some (Sum.inl [(gx v1 1),x3])) else(some (Sum.inr (0,[(gx v1 0)]))))
  (fun a b hb=>by simp only[g0,g1,bP,af,Option.bind_some,hb,decide_false,Bool.not_false,if_true,sR hb])
  (fun a=>by simp only[g0,g1,bP,af,Option.bind_some,decide_true,Bool.not_true,Bool.false_eq_true,if_false]) _ a b rfl
 refine wT h1 ?_
 have hg:Nat.gcd a.natAbs b.natAbs<=4611686018427387903:=by unfold Wd at ha hb;exact qd (by omega) (by omega)
 have hr:Sy.inR r:=by simp only[Sy.inR];omega
 refine aa (uG n hr) (aa (Kr n (In.of hr)) ?_)
 rw[h2]
theorem H9(n:Nat){x:Int}(hx:In x):cA (n+3) 83 [ah x]=some (I (sg x)):=by
 rw[N3]
 unfold IP
 refine aa (rj n hx) (aa cK (aa (z:=false) rfl (aa (z:=decide (x=0)) ?_ (aa af ?_))))
 ·rw[if_neg (by decide)]
  refine aa (wK n hx) (aa (z:=ab (aB x.natAbs)) rfl ?_)
  rw[af,ai]
  show some (D.beq (I ((aB x.natAbs).length:Nat)) (I (0:Nat)))=_
  rw[bK]
  congr 1
  rw[decide_eq_decide,List.length_eq_zero_iff,qr]
  omega
 ·by_cases h0:x=0
  ·refine aH h0 ?_
   subst h0;rfl
  ·refine aJ h0 (aa (z:=.bool (decide (x<0))) rfl (aa af ?_))
   by_cases h1:x<0
   ·refine aH h1 ?_
    rw[tB h1]
   ·refine aJ h1 ?_
    rw[j6 (by omega)]
theorem Ih(n:Nat){a b:Int}(ha:Wd a)(hb:Wd b)(hb0:b≠0)(hd:b ∣ a):cA (n+4) 87 [ah a,ah b]=some (ah (a/b)):=by
 rw[M0]
 unfold HH
 refine aa (pL n ha) (aa (z:=I a) rfl (aa (z:=.bool true) rfl (aa (pL n hb) (aa (z:=I b) rfl (aa (z:=.bool true) rfl (aa (z:=true) rfl (aa (z:=true) rfl (aa (z:=true) rfl (aa (z:=true) ?_ (aa (z:=true) rfl ?_))))))))))
 ·rw[if_pos rfl,bP,decide_eq_false hb0];rfl
 ·rw[if_pos rfl]
  have hq:Sy.inR (a/b):=by
   obtain⟨q,rfl⟩:=hd
   rw[Int.mul_ediv_cancel_left _ hb0]
   have:q.natAbs<=(b*q).natAbs:=by rw[Int.natAbs_mul];exact Nat.le_mul_of_pos_left _ (by omega)
   unfold Wd at ha;simp only[Sy.inR];omega
  exact aa (Me (n+2) ha hb0 hd) (aa (uG n hq) rfl)
abbrev H2(n:Nat):D:=.int .u64 (n:Int)
theorem di{n:Int}(h:0<=n/\n<18446744073709551616):IntKind.wrap .u64 n=n:=by
 obtain⟨h1,h2⟩:=h
 simp only[IntKind.wrap,IntKind.signed,IntKind.bits]
 first
  | omega
  | (simp;omega)
theorem Gh(n:Nat){x:Int}(hx:Wd x):cA (n+4) 186 [ah x]=some (.tup [I x,.bool true]):=by
 rw[Mu]
 unfold Eo
 have hx':x.natAbs<4611686018427387904:=hx
 have i1:Sy.inR (-9223372036854775808):=⟨by decide,by decide⟩
 have i2:Sy.inR 9223372036854775807:=⟨by decide,by decide⟩
 refine aa (rj (n+1) hx.In) (aa cK (aa (z:=false) rfl ?_))
 rw[if_neg (by decide)]
 refine aa (uG n i1) (aa (uG n i2) (aa (Nm n hx.In (In.of i1)) ?_))
 rw[show bZ x (-9223372036854775808)=1 by unfold bZ;rw[if_neg (by omega),if_pos (by omega)]]
 refine aa (z:=.bool false) ag (aa (z:=false) rfl (aa (z:=false) ?_ (aa (z:=false) rfl ?_)))
 ·rw[if_neg (by decide)]
  refine aa (Nm n hx.In (In.of i2)) ?_
  rw[show bZ x 9223372036854775807=-1 by unfold bZ;rw[if_pos (by omega)]]
  exact aa (z:=.bool false) dL rfl
 ·rw[if_neg (by decide)]
  have l1:=B5 x.natAbs
  have l0:=Fn x.natAbs
  refine aa (cP (i:=1) (by decide)) ?_
  rw[l1]
  refine aa (z:=H2 (x.natAbs/4294967296%4294967296)) (by simp only[D.conv];rw[di (by omega)]) ?_
  refine aa (z:=H2 (x.natAbs/4294967296%4294967296*4294967296)) (by simp only[D.bin,if_true];rw[di (by omega)];simp) ?_
  refine aa (cP (i:=0) (by decide)) ?_
  rw[l0]
  refine aa (z:=H2 (x.natAbs%4294967296)) (by simp only[D.conv];rw[di (by omega)]) ?_
  refine aa (z:=H2 x.natAbs) (by simp only[D.bin,if_true];rw[di (by omega)];congr 2;omega) ?_
  refine aa (z:=I (x.natAbs:Nat)) (by simp only[D.conv];rw[iu (by simp only[Sy.inR];omega)]) ?_
  refine aa (z:=(0,[I x])) (aa (z:=.bool (decide (x<0))) rfl (aa af ?_)) rfl
  by_cases h:x<0
  ·refine aH h (aa (oO (by simp only[Sy.inR];omega)) ?_)
   congr 4;omega
  ·refine aJ h ?_
   congr 4;omega
theorem Ko(n:Nat){v:V}(hv:bd 2305843009213693951 v):cA (n+1) 187 [ae v]=some (.bool true):=by
 rw[Mp]
 unfold Es
 have stp:∀ x:Int,(-2305843009213693951<=x/\x<=2305843009213693951)->∀ (i:Nat) (hi:i<3),D.get (ae v) [i]=some (I x)->(Option.bind (D.idx (I (i:Int)) 3) fun i4=>Option.bind (D.get (ae v) [i4]) fun x5=>Option.bind (D.bin .geq x5 (D.int .i64 2305843009213693952)) fun x6=>Option.bind (D.truth x6) fun b7=>
  Option.bind (if b7 then(some true) else(Option.bind (D.idx (I (i:Int)) 3) fun i8=>Option.bind (D.get (ae v) [i8]) fun x9=>Option.bind (D.bin .leq x9 (D.int .i64 (-2305843009213693952))) fun x10=>D.truth x10)) fun b11=>
  Option.bind (D.truth (D.bool b11)) fun b12=>if b12 then(some (Sum.inr (0,[(D.bool false)]))) else(Option.bind (D.bin .add (I (i:Int)) (D.int .i64 1)) fun x13=>some (Sum.inl [x13])))=some (Sum.inl [I ((i+1:Nat):Int)]:Sum (List D) (Nat×List D)):=fun x hx i hi hg=>by
  refine aa (au hi) (aa hg (aa io (aa af (aa (z:=false) ?_ (aa (z:=false) rfl ?_)))))
  ·refine aJ (by omega) (aa (au hi) (aa hg (aa pP ?_)))
   rw[af,decide_eq_false (by omega)]
  ·rw[if_neg (by decide)]
   exact aa (aq (aC (i:=i) (by omega))) rfl
 refine cr (s':=[I (1:Nat)]) (aa ag (aa af (aH (by decide) (stp v.x hv.1 0 (by decide) rfl)))) (cr (s':=[I (2:Nat)]) (aa ag (aa af (aH (by decide) (stp v.y hv.2.1 1 (by decide) rfl)))) (cr (s':=[I (3:Nat)]) (aa ag (aa af (aH (by decide) (stp v.z hv.2.2 2 (by decide) rfl)))) (fj (r:=(1,[])) (aa ag (aa af (aJ (by decide) rfl))) rfl)))
def me(v:V):D:=.st [ah v.x,ah v.y,ah v.z]
theorem JX(n:Nat){v:V}(hx:inR v.x)(hy:inR v.y)(hz:inR v.z):cA (n+4) 80 [ae v]=some (me v):=by
 rw[OX]
 unfold Id
 exact aa (nf v) (aa (uG n hx) (aa (mE v) (aa (uG n hy) (aa (mN v) (aa (uG n hz) rfl)))))
theorem LB(n:Nat){v:V}(hv:bd 549755813888 v):∃ e:Int,cA (n+5) 155 [me v]=some (.st [ae (bk v),I e]):=by
 rw[Kc]
 unfold Da
 have wx:Wd v.x:=by have:=hv.1;unfold Wd;omega
 have wy':Wd v.y:=by have:=hv.2.1;unfold Wd;omega
 have wz:Wd v.z:=by have:=hv.2.2;unfold Wd;omega
 have h0:Sy.inR 0:=⟨by decide,by decide⟩
 have w0:Wd 0:=by unfold Wd;decide
 have q1:Nat.gcd v.x.natAbs v.y.natAbs<=4611686018427387903:=by unfold Wd at wx wy';exact qd (by omega) (by omega)
 have q2:bn v<=4611686018427387903:=by
  unfold bn
  have:=qd (a:=(Nat.gcd v.x.natAbs v.y.natAbs:Nat)) (b:=v.z) (k:=4611686018427387903) (by simpa using q1) (by unfold Wd at wz;omega)
  simpa using this
 have wxx:Wd (v.x.natAbs:Nat):=by unfold Wd at *;omega
 have w1:Wd (Nat.gcd v.x.natAbs v.y.natAbs:Nat):=by unfold Wd;omega
 have w2:Wd (bn v:Nat):=by unfold Wd;omega
 have g01:=Ir n w0 wx
 have g02:=Ir n wxx wy'
 have g03:=Ir n w1 wz
 rw[show(Nat.gcd (0:Int).natAbs v.x.natAbs)=v.x.natAbs by simp] at g01
 rw[show(Nat.gcd ((v.x.natAbs:Nat):Int).natAbs v.y.natAbs)=Nat.gcd v.x.natAbs v.y.natAbs by simp] at g02
 rw[show(Nat.gcd ((Nat.gcd v.x.natAbs v.y.natAbs:Nat):Int).natAbs v.z.natAbs)=bn v by simp[bn]] at g03
 have fst:∀ {k:Nat×List D->Option D} {y:D},k (0,[ah (bn v:Nat)])=some y->Option.bind (cA (n+4) 34 [(D.int .i64 0)]) (fun r1=>Option.bind (aY (fun(v2:List D)=>
   Option.bind (D.bin .lss (gx v2 0) (D.int .i64 3)) fun x3=>Option.bind (D.truth x3) fun b4=>
   if b4 then(Option.bind (D.idx (gx v2 0) 3) fun i5=>Option.bind (D.get (me v) [i5]) fun x6=>Option.bind (cA (n+4) 85 [(gx v2 1),x6]) fun r7=>
   Option.bind (D.bin .add (gx v2 0) (D.int .i64 1)) fun x8=>some (Sum.inl [x8,r7])) else(some (Sum.inr (0,[(gx v2 1)])))) [(D.int .i64 0),r1]) k)=some y:=by
  intro k y hk
  refine aa (uG (n+1) h0) ?_
  refine cr (s':=[I 1,ah (v.x.natAbs:Nat)]) (aa ag (aa af (aH (by decide) (aa Fk (aa (z:=ah v.x) rfl (aa g01 (aa (aq GD) rfl))))))) ?_
  refine cr (s':=[I 2,ah (Nat.gcd v.x.natAbs v.y.natAbs:Nat)]) (aa ag (aa af (aH (by decide) (aa Fo (aa (z:=ah v.y) rfl (aa g02 (aa (aq lZ) rfl))))))) ?_
  refine cr (s':=[I 3,ah (bn v:Nat)]) (aa ag (aa af (aH (by decide) (aa Fg (aa (z:=ah v.z) rfl (aa g03 (aa (aq AM) rfl))))))) ?_
  exact fj (r:=(0,[ah (bn v:Nat)])) (aa ag (aa af (aJ (by decide) rfl))) hk
 have hsg:=H9 (n+1) w2.In
 by_cases hz:bn v=0
 ·refine⟨31,fst (aa (z:=.bool false) rfl (aa (z:=false) rfl ?_))⟩
  rw[if_neg (by decide)]
  refine aa hsg ?_
  rw[hz]
  refine aa (z:=true) rfl ?_
  rw[if_pos rfl]
  have hv0:v=V.zero:=by
   by_cases h:v=V.zero
   ·exact h
   ·have:=jm h;omega
  rw[hv0];rfl
 ·have hg0:(bn v:Int)≠0:=by omega
  refine⟨0,fst (aa (z:=.bool false) rfl (aa (z:=false) rfl ?_))⟩
  rw[if_neg (by decide)]
  refine aa hsg ?_
  rw[j6 (show(0:Int)<bn v by omega)]
  refine aa (z:=false) rfl ?_
  rw[if_neg (by decide)]
  have bp:=kG hv
  have z1:=Ih n wx w2 hg0 (uP v)
  have z2:=Ih n wy' w2 hg0 (wp v)
  have z3:=Ih n wz w2 hg0 (vw v)
  have s1:=Gh n (x:=v.x/(bn v:Nat)) (by have:=bp.1;unfold Wd;simp only[bk] at this;omega)
  have s2:=Gh n (x:=v.y/(bn v:Nat)) (by have:=bp.2.1;unfold Wd;simp only[bk] at this;omega)
  have s3:=Gh n (x:=v.z/(bn v:Nat)) (by have:=bp.2.2;unfold Wd;simp only[bk] at this;omega)
  refine cr (s':=[I 1,.st [ae V.zero,I 0],.st [ae ⟨v.x/(bn v:Nat),0,0⟩,I 0]]) ?_ (cr (s':=[I 2,.st [ae V.zero,I 0],.st [ae ⟨v.x/(bn v:Nat),v.y/(bn v:Nat),0⟩,I 0]]) ?_ (cr (s':=[I 3,.st [ae V.zero,I 0],.st [ae ⟨v.x/(bn v:Nat),v.y/(bn v:Nat),v.z/(bn v:Nat)⟩,I 0]]) ?_ (fj (r:=(1,[.st [ae V.zero,I 0],.st [ae (bk v),I 0]])) (aa ag (aa af (aJ (by decide) rfl))) ?_)))
  ·refine aa ag (aa af (aH (by decide) (aa Fk (aa (z:=ah v.x) rfl (aa z1 (aa s1 (aa (z:=I (v.x/(bn v:Nat))) rfl (aa (z:=.bool true) rfl (aa (z:=.bool false) rfl (aa (z:=false) rfl ?_))))))))))
   rw[if_neg (by decide)]
   exact aa Fk (aa (z:=.st [ae ⟨v.x/(bn v:Nat),0,0⟩,I 0]) rfl (aa (aq GD) rfl))
  ·refine aa ag (aa af (aH (by decide) (aa Fo (aa (z:=ah v.y) rfl (aa z2 (aa s2 (aa (z:=I (v.y/(bn v:Nat))) rfl (aa (z:=.bool true) rfl (aa (z:=.bool false) rfl (aa (z:=false) rfl ?_))))))))))
   rw[if_neg (by decide)]
   exact aa Fo (aa (z:=.st [ae ⟨v.x/(bn v:Nat),v.y/(bn v:Nat),0⟩,I 0]) rfl (aa (aq lZ) rfl))
  ·refine aa ag (aa af (aH (by decide) (aa Fg (aa (z:=ah v.z) rfl (aa z3 (aa s3 (aa (z:=I (v.z/(bn v:Nat))) rfl (aa (z:=.bool true) rfl (aa (z:=.bool false) rfl (aa (z:=false) rfl ?_))))))))))
   rw[if_neg (by decide)]
   exact aa Fg (aa (z:=.st [ae ⟨v.x/(bn v:Nat),v.y/(bn v:Nat),v.z/(bn v:Nat)⟩,I 0]) rfl (aa (aq AM) rfl))
  ·rw[if_neg (show ¬ (1:Nat)=0 by decide)]
   refine aa (z:=ae (bk v)) rfl (aa (Ko (n+3) (v:=bk v) ?_) (aa (z:=.bool false) rfl (aa (z:=false) rfl rfl)))
   simp only[bd] at bp ⊢;omega
theorem Kq(n:Nat){a b c:V}(ha:bd MV a)(hb:bd MV b)(hc:bd MV c):cA (n+6) 106 [ae a,ae b,ae c]=some (ae (bk (V.cross (b.sub a) (c.sub a)))):=by
 rw[Ml]
 unfold DJ
 have h1:bd 524288 (b.sub a):=by have:=lG hb ha;simpa [MV] using this
 have h2:bd 524288 (c.sub a):=by have:=lG hc ha;simpa [MV] using this
 have h3:=fo h1 h2
 refine aa (AK (n+4) hb ha (by decide)) (aa (AK (n+4) hc ha (by decide)) (aa (Fu (n+4) h1 h2 (by decide)) ?_))
 have h4:bd 549755813888 (V.cross (b.sub a) (c.sub a)):=h3
 generalize V.cross (b.sub a) (c.sub a)=m at *
 obtain⟨e,he⟩:=LB n h4
 refine aa (JX (n+1) ?_ ?_ ?_) (aa he rfl)
 ·have:=h4.1;simp only[Sy.inR];omega
 ·have:=h4.2.1;simp only[Sy.inR];omega
 ·have:=h4.2.2;simp only[Sy.inR];omega
end Go.Proofs.YtjjjkojfijpeeaaGreat.Sy
end
section
set_option linter.unusedVariables false
namespace Go.Proofs.YtjjjkojfijpeeaaGreat.Sy
open Go Go.Proofs Go.Proofs.YtjjjkojfijpeeaaGreat.Geo
theorem mP:∀ {l:List Nat} {j v:Nat},j<l.length->aP (l.set j v)+65536^j*l.getD j 0=aP l+65536^j*v
 | d::l,0,v,_=>by simp only[List.set_cons_zero,aP,Nat.pow_zero,Nat.one_mul,List.getD_cons_zero];omega
 | d::l,j+1,v,h=>by
  have ih:=mP (l:=l) (j:=j) (v:=v) (by simpa using h)
  simp only[List.set_cons_succ,aP,Nat.pow_succ,List.getD_cons_succ]
  rw[Nat.mul_comm (65536^j) 65536,Nat.mul_assoc,Nat.mul_assoc]
  generalize 65536^j*l.getD j 0=x at *
  generalize 65536^j*v=y at *
  omega
theorem nW(l:List Nat)(j v:Nat):(ab l).set j (I (v:Int))=ab (l.set j v):=by simp[ab,List.map_set]
theorem ke(l:List Nat)(j v i:Nat)(h:j<l.length):(l.set j v).getD i 0=if i=j then v else l.getD i 0:=by
 by_cases e:i=j
 ·subst e;simp[List.getD,h]
 ·simp[List.getD,e,List.getElem?_set,show ¬ j=i from fun k=>e k.symm]
theorem rY(m:Nat):List.replicate m (D.int .i64 0)=ab (List.replicate m 0):=by simp[ab]
theorem pq{a b:Nat}(h:a*b<=9223372036854775807):D.bin .mul (I (a:Int)) (I (b:Int))=some (I ((a*b:Nat):Int)):=by
 rw[bY (by simp only[inR];rw[<-Int.natCast_mul];omega),Int.natCast_mul]
theorem aS{a b:Nat}(h:a+b<=9223372036854775807):D.bin .add (I (a:Int)) (I (b:Int))=some (I ((a+b:Nat):Int)):=by
 rw[aq (by simp only[inR];omega),Int.natCast_add]
theorem zi(a:Nat):D.natOf (I (a:Int))=some a:=by simp[D.natOf]
theorem uf{l:List Nat}{i:Nat}(h:i<l.length):D.idx (I (i:Int)) (ab l).length=some i:=by rw[ai];exact au h
theorem Fi{l:List Nat}(h:∀ i,i<l.length->l.getD i 0<65536):dl l:=fun d hd=>by
 obtain⟨i,hi,rfl⟩:=List.getElem_of_mem hd
 have:=h i hi
 simpa [List.getD,hi] using this
theorem FX(n:Nat){a b:List Nat}(ha:dl a)(hb:dl b)(hla:a.length<=400000)(hlb:b.length<=400000):cA (n+2) 146 [.sl (ab a),.sl (ab b)]=some (.sl (ab (aB (aP a*aP b)))):=by
 rw[LC]
 unfold EI
 obtain⟨M,hM⟩:∃ M,M=a.length+b.length+1:=⟨_,rfl⟩
 refine aa (z:=ab a) rfl (aa (z:=ab b) rfl (aa (z:=I ((a.length+b.length:Nat):Int)) (by rw[ai,ai];exact aS (by omega)) (aa (z:=I (M:Int)) (by rw[hM];exact aS (b:=1) (by omega)) (aa (zi M) ?_))))
 rw[if_pos (by omega),rY]
 refine aW (fun i s=>∃ out:List Nat,s=[I (i:Int),.sl (ab out)]/\out.length=M/\dl out/\aP out=vt a i*aP b) a.length 0 (Nat.zero_le _) ⟨List.replicate M 0,rfl,by simp,fun x hx=>by rw[List.eq_of_mem_replicate hx];decide,by have:=ld [] M;rw[List.nil_append] at this;rw[this];simp[vt,aP]⟩ (fun i hi s hJ=>?_) (fun s hJ=>?_)
 ·obtain⟨out,rfl,ho,hdo,hv⟩:=hJ
  left
  have hai:=ha.getD i
  obtain⟨r,h1,out1,rfl,o1,o2,o3⟩:=yp (body:=fun(v10:List D)=>
   Option.bind (D.asSl (.sl (ab b))) fun l11=>
   Option.bind (D.bin .lss (gx v10 0) (D.int .i64 (List.length l11))) fun x12=>
   Option.bind (D.truth x12) fun b13=>
   if b13 then(Option.bind (D.bin .add (I (i:Int)) (gx v10 0)) fun x14=>
   Option.bind (D.bin .add (I (i:Int)) (gx v10 0)) fun x15=>
   Option.bind (D.idx x15 (List.length (D.els (gx v10 1)))) fun i16=>
   Option.bind ((D.els (gx v10 1))[i16]?) fun x17=>
   Option.bind (D.asSl (.sl (ab a))) fun l18=>
   Option.bind (D.idx (I (i:Int)) (List.length l18)) fun i19=>
   Option.bind (l18[i19]?) fun x20=>
   Option.bind (D.asSl (.sl (ab b))) fun l21=>
   Option.bind (D.idx (gx v10 0) (List.length l21)) fun i22=>
   Option.bind (l21[i22]?) fun x23=>
   Option.bind (D.bin .mul x20 x23) fun x24=>
   Option.bind (D.bin .add x17 x24) fun x25=>
   Option.bind (D.idx x14 (List.length (D.els (gx v10 1)))) fun i26=>
   Option.bind ((D.els (gx v10 1))[i26]?) fun x27=>
   Option.bind (D.bin .add (gx v10 0) (D.int .i64 1)) fun x28=>
   some (Sum.inl [x28,(D.sl (List.set (D.els (gx v10 1)) i26 x25))])) else(some (Sum.inr (0,[(D.sl (D.els (gx v10 1)))]))))
   (s0:=[I 0,.sl (ab out)])
   (fun k s=>∃ o:List Nat,s=[I (k:Int),.sl (ab o)]/\o.length=M/\(∀ j,j<M->o.getD j 0<=4295032831/\(i+k<=j->o.getD j 0<65536))/\aP o=aP out+65536^i*(a.getD i 0*vt b k))
   (fun r=>∃ o:List Nat,r=(0,[.sl (ab o)])/\o.length=M/\(∀ j,j<M->o.getD j 0<=4295032831)/\aP o=aP out+65536^i*(a.getD i 0*aP b)) b.length 0 (Nat.zero_le _)
   ⟨out,rfl,ho,fun j _=>by have:=hdo.getD j;omega,by simp[vt]⟩ (fun k hk s hJ=>by
    obtain⟨o,rfl,o1,o2,o3⟩:=hJ
    left
    have hbk:=hb.getD k
    have hik:i+k<o.length:=by omega
    have hp:a.getD i 0*b.getD k 0<=65535*65535:=Nat.mul_le_mul (by omega) (by omega)
    have hx:=(o2 (i+k) (by omega)).2 (Nat.le_refl _)
    refine⟨[I ((k+1:Nat):Int),.sl (ab (o.set (i+k) (o.getD (i+k) 0+a.getD i 0*b.getD k 0)))],?_,_,rfl,by simpa using o1,fun j hj=>?_,?_⟩
    ·refine aa (z:=ab b) rfl (aa ag (aa af (aH (by show(k:Int)<((ab b).length:Int);rw[ai];omega) ?_)))
     refine aa (aS (a:=i) (b:=k) (by omega)) (aa (aS (a:=i) (b:=k) (by omega)) (aa (uf hik) (aa (cU hik) ?_)))
     refine aa (z:=ab a) rfl (aa (uf hi) (aa (cU hi) (aa (z:=ab b) rfl (aa (uf hk) (aa (cU hk) ?_)))))
     refine aa (pq (by omega)) (aa (aS (by omega)) (aa (uf hik) (aa (cU hik) (aa (aq (aC (i:=k) (by omega))) ?_))))
     show some (Sum.inl [_,D.sl (List.set (ab o) (i+k) _)])=_
     rw[nW];rfl
    ·rw[ke _ _ _ _ hik]
     have:=o2 j hj
     split
     ·omega
     ·omega
    ·have e:=mP (l:=o) (j:=i+k) (v:=o.getD (i+k) 0+a.getD i 0*b.getD k 0) hik
     rw[vt,Nat.mul_add,Nat.mul_add]
     have e2:65536^i*(a.getD i 0*(b.getD k 0*65536^k))=65536^(i+k)*(a.getD i 0*b.getD k 0):=by
      rw[Nat.pow_add,<-Nat.mul_assoc (a.getD i 0),Nat.mul_comm (a.getD i 0*b.getD k 0),Nat.mul_assoc]
     rw[Nat.mul_add] at e
     omega) (fun s hJ=>by
    obtain⟨o,rfl,o1,o2,o3⟩:=hJ
    rw[kg] at o3
    exact⟨_,aa (z:=ab b) rfl (aa ag (aa af (aJ (by show ¬ ((b.length:Int)<((ab b).length:Int));rw[ai];omega) rfl))),o,rfl,o1,fun j hj=>(o2 j hj).1,o3⟩)
  obtain⟨r2,h2,out2,rfl,p1,p2,p3⟩:=yp (body:=fun(v30:List D)=>
   Option.bind (D.bin .lss (gx v30 1) (D.int .i64 (List.length (D.els (gx v30 2))))) fun x31=>
   Option.bind (D.truth x31) fun b32=>
   if b32 then(Option.bind (D.idx (gx v30 1) (List.length (D.els (gx v30 2)))) fun i33=>
   Option.bind ((D.els (gx v30 2))[i33]?) fun x34=>
   Option.bind (D.bin .add x34 (gx v30 0)) fun x35=>
   Option.bind (D.bin .rem x35 (D.int .i64 65536)) fun x36=>
   Option.bind (D.idx (gx v30 1) (List.length (D.els (gx v30 2)))) fun i37=>
   Option.bind ((D.els (gx v30 2))[i37]?) fun x38=>
   Option.bind (D.bin .quo x35 (D.int .i64 65536)) fun x39=>
   Option.bind (D.bin .add (gx v30 1) (D.int .i64 1)) fun x40=>
   some (Sum.inl [x39,x40,(D.sl (List.set (D.els (gx v30 2)) i37 x36))])) else(some (Sum.inr (0,[(D.sl (D.els (gx v30 2)))]))))
   (s0:=[I 0,I 0,.sl (ab out1)])
   (fun k s=>∃ (o:List Nat) (c:Nat),s=[I (c:Int),I (k:Int),.sl (ab o)]/\o.length=M/\(∀ j,j<k->o.getD j 0<65536)/\(∀ j,k<=j->o.getD j 0=out1.getD j 0)/\c<=131072/\aP o+65536^k*c=aP out1)
   (fun r=>∃ o:List Nat,r=(0,[.sl (ab o)])/\o.length=M/\dl o/\∃ c,aP o+65536^M*c=aP out1) M 0 (Nat.zero_le _)
   ⟨out1,0,rfl,o1,fun j hj=>absurd hj (Nat.not_lt_zero _),fun j _=>rfl,by omega,by simp⟩ (fun k hk s hJ=>by
    obtain⟨o,c,rfl,q1,q2,q3,q4,q5⟩:=hJ
    left
    have hko:k<o.length:=by omega
    have hx:=o2 k hk
    have hq:=q3 k (Nat.le_refl _)
    refine⟨[I (((o.getD k 0+c)/65536:Nat):Int),I ((k+1:Nat):Int),.sl (ab (o.set k ((o.getD k 0+c)%65536)))],?_,_,_,rfl,by simpa using q1,fun j hj=>?_,fun j hj=>?_,by omega,?_⟩
    ·refine aa ag (aa af (aH (by show(k:Int)<((ab o).length:Int);rw[ai];omega) ?_))
     refine aa (uf hko) (aa (cU hko) (aa (aS (by omega)) (aa (jW (b:=65536) (by decide)) (aa (uf hko) (aa (cU hko) (aa (iL (b:=65536) (by decide) (by omega)) (aa (aq (aC (i:=k) (by omega))) ?_)))))))
     show some (Sum.inl [_,_,D.sl (List.set (ab o) k _)])=_
     rw[nW];rfl
    ·rw[ke _ _ _ _ hko]
     split
     ·omega
     ·exact q2 j (by omega)
    ·rw[ke _ _ _ _ hko,if_neg (by omega)];exact q3 j (by omega)
    ·have e:=mP (l:=o) (j:=k) (v:=(o.getD k 0+c)%65536) hko
     have e2:o.getD k 0+c=(o.getD k 0+c)%65536+65536*((o.getD k 0+c)/65536):=by omega
     have e3:65536^k*(o.getD k 0+c)=65536^k*((o.getD k 0+c)%65536)+65536^k*(65536*((o.getD k 0+c)/65536)):=by rw[<-Nat.mul_add,<-e2]
     rw[Nat.mul_add] at e3
     rw[Nat.pow_succ,Nat.mul_assoc]
     omega) (fun s hJ=>by
    obtain⟨o,c,rfl,q1,q2,q3,q4,q5⟩:=hJ
    exact⟨_,aa ag (aa af (aJ (by show ¬ ((M:Int)<((ab o).length:Int));rw[ai];omega) rfl)),o,rfl,q1,Fi fun j hj=>q2 j (by omega),c,q5⟩)
  obtain⟨c,p4⟩:=p3
  refine⟨[I ((i+1:Nat):Int),.sl (ab out2)],?_,out2,rfl,p1,p2,?_⟩
  ·refine aa (z:=ab a) rfl (aa ag (aa af (aH (by show(i:Int)<((ab a).length:Int);rw[ai];omega) ?_)))
   refine aa h1 (aa h2 ?_)
   exact aa (aq (aC (i:=i) (by omega))) rfl
  ·have hval:aP out1=vt a (i+1)*aP b:=by
    rw[o3,hv,vt,Nat.add_mul,Nat.mul_comm (a.getD i 0) (65536^i),Nat.mul_assoc]
   have hlt:vt a (i+1)*aP b<65536^M:=by
    have l1:=qm ha (i+1)
    have l2:=jx hb
    have l3:vt a (i+1)*aP b<65536^(i+1)*65536^b.length:=Nat.mul_lt_mul'' l1 l2
    have l4:65536^(i+1)*65536^b.length<=65536^M:=by rw[<-Nat.pow_add];exact Nat.pow_le_pow_right (by decide) (by omega)
    omega
   have hc:c=0:=by
    rcases Nat.eq_zero_or_pos c with h|h
    ·exact h
    ·have:65536^M*1<=65536^M*c:=Nat.mul_le_mul_left _ h
     omega
   subst hc
   rw[<-hval,<-p4];simp
 ·obtain⟨out,rfl,ho,hdo,hv⟩:=hJ
  refine⟨(0,[.sl (ab out)]),aa (z:=ab a) rfl (aa ag (aa af (aJ (by show ¬ ((a.length:Int)<((ab a).length:Int));rw[ai];omega) rfl))),?_⟩
  refine aa (vH n (l:=out) (by omega)) ?_
  rw[gf hdo,hv,kg]
theorem GP(n:Nat)(x:Int):cA (n+1) 145 [I x]=some (.bool (decide (x<2147483648)&&decide (x>-2147483648))):=by
 rw[Ju]
 unfold EM
 refine aa ag (aa af ?_)
 cases h:decide (x<2147483648)
 ·rfl
 ·rw[if_pos rfl];exact aa (aa dL rfl) rfl
theorem tK(x y:Int):sgn (!(decide (decide (x<0)=decide (y<0)))) (x.natAbs*y.natAbs)=x*y:=by
 unfold sgn
 rw[<-Int.natAbs_mul]
 by_cases hx:x<0<;>by_cases hy:y<0
 ·have:=Int.mul_pos_of_neg_of_neg hx hy;simp[hx,hy];omega
 ·have:=Int.mul_nonpos_of_nonpos_of_nonneg (Int.le_of_lt hx) (Int.not_lt.1 hy);simp[hx,hy];omega
 ·have:=Int.mul_nonpos_of_nonneg_of_nonpos (Int.not_lt.1 hx) (Int.le_of_lt hy);simp[hx,hy];omega
 ·have:=Int.mul_nonneg (Int.not_lt.1 hx) (Int.not_lt.1 hy);simp[hx,hy];omega
theorem IT(n:Nat){x y:Int}(hx:Wd x)(hy:Wd y):cA (n+4) 89 [ah x,ah y]=some (ah (x*y)):=by
 rw[Nh]
 unfold GN
 refine aa (pL n hx) (aa (z:=I x) rfl (aa (z:=.bool true) rfl (aa (pL n hy) (aa (z:=I y) rfl (aa (z:=.bool true) rfl (aa (z:=true) rfl (aa (z:=true) rfl (aa (z:=true) rfl ?_))))))))
 refine aa (z:=(decide (x<2147483648)&&decide (x>-2147483648))) (by rw[if_pos rfl];exact aa (GP (n+2) x) rfl) (aa af ?_)
 refine aa (z:=((decide (x<2147483648)&&decide (x>-2147483648))&&(decide (y<2147483648)&&decide (y>-2147483648)))) (by
  cases (decide (x<2147483648)&&decide (x>-2147483648))
  ·rfl
  ·rw[if_pos rfl];exact aa (GP (n+2) y) rfl) (aa af ?_)
 cases hb:((decide (x<2147483648)&&decide (x>-2147483648))&&(decide (y<2147483648)&&decide (y>-2147483648)))
 ·rw[if_neg (by decide)]
  refine aa (rj (n+1) hx.In) (aa cK (aa af (aa (z:=false) ?_ (aa af ?_))))
  ·rw[if_neg (by decide)];exact aa (rj (n+1) hy.In) rfl
  ·rw[if_neg (by decide)]
   have lx:=bw 32 _ hx.In
   have ly:=bw 32 _ hy.In
   refine aa (z:=.bool (decide (x<0))) rfl (aa (z:=.bool (decide (y<0))) rfl (aa (wK (n+1) hx.In) (aa (wK (n+1) hy.In) (aa (FX (n+1) (aN _) (aN _) (by omega) (by omega)) (aa (z:=ah (x*y)) ?_ rfl)))))
   rw[ak,ak]
   have hxy:x.natAbs*y.natAbs<65536^8:=by
    have e:(65536:Nat)^8=18446744073709551616*18446744073709551616:=by decide
    rw[e];unfold Wd at hx hy
    exact Nat.mul_lt_mul'' (by omega) (by omega)
   have l8:=bw 8 _ hxy
   have h32:x.natAbs*y.natAbs<65536^32:=Nat.lt_of_lt_of_le hxy (Nat.pow_le_pow_right (by decide) (by decide))
   have:=Fl (n+1) (l:=aB (x.natAbs*y.natAbs)) (neg:=!(decide (decide (x<0)=decide (y<0)))) (aN _) (by omega) (by rw[ak];exact h32)
   rw[ak,tK] at this
   rw[<-this]
   congr 4
 ·rw[if_pos rfl]
  simp only[Bool.and_eq_true,decide_eq_true_eq] at hb
  have:=fA (A:=2147483648) (B:=2147483648) (a:=x) (b:=y) (by omega) (by omega)
  have hr:inR (x*y):=by simp only[inR];omega
  exact aa (bY hr) (aa (uG n hr) rfl)
theorem KE(n:Nat){x y:Int}(hx:Wd x)(hy:Wd y):cA (n+4) 59 [ah x,ah y]=some (ah (x+y)):=by
 rw[M5]
 unfold GZ
 refine aa (pL n hx) (aa (z:=I x) rfl (aa (z:=.bool true) rfl (aa (pL n hy) (aa (z:=I y) rfl (aa (z:=.bool true) rfl (aa (z:=true) rfl (aa (z:=true) rfl (aa (z:=true) rfl ?_))))))))
 rw[if_pos rfl]
 have hr:inR (x+y):=by unfold Wd at hx hy;simp only[inR];omega
 exact aa (aq hr) (aa (uG n hr) rfl)
theorem PE(n:Nat){A B:Int}{u v:V}(hu:bd A u)(hv:bd B v)(hA:A<=4611686018427387903)(hB:B<=4611686018427387903)(h:3*(A*B)<=4611686018427387903):cA (n+6) 33 [ae u,ae v]=some (ah (V.dot u v)):=by
 have w:∀ {K:Int} {x:Int},K<=4611686018427387903->-K<=x/\x<=K->Wd x/\inR x:=fun h1 h2=>by unfold Wd;simp only[inR];omega
 have ux:=w hA hu.1;have uy:=w hA hu.2.1;have uz:=w hA hu.2.2
 have vx:=w hB hv.1;have vy:=w hB hv.2.1;have vz:=w hB hv.2.2
 have mx:=fA hu.1 hv.1;have my:=fA hu.2.1 hv.2.1;have mz:=fA hu.2.2 hv.2.2
 have hAB:0<=A*B:=by omega
 rw[P5]
 unfold IU
 refine aa (JX (n+1) ux.2 uy.2 uz.2) (aa (JX (n+1) vx.2 vy.2 vz.2) (aa (z:=ah (V.dot u v)) ?_ rfl))
 rw[OL]
 unfold Io
 refine aa (z:=ah u.x) rfl (aa (z:=ah v.x) rfl (aa (IT n ux.1 vx.1) (aa (z:=ah u.y) rfl (aa (z:=ah v.y) rfl (aa (IT n uy.1 vy.1) ?_)))))
 refine aa (KE n (w (K:=A*B) (by omega) mx).1 (w (K:=A*B) (by omega) my).1) (aa (z:=ah u.z) rfl (aa (z:=ah v.z) rfl (aa (IT n uz.1 vz.1) ?_)))
 refine aa (KE n ?_ (w (K:=A*B) (by omega) mz).1) rfl
 unfold Wd;omega
end Go.Proofs.YtjjjkojfijpeeaaGreat.Sy
end
section
namespace Go.Proofs.YtjjjkojfijpeeaaGreat
open Go
def kU(n:Nat):Nat:=2^(32*n)
theorem dj(n:Nat):kU n=2^(32*n):=rfl
attribute [irreducible] kU
def eD:Nat:=kU 16
theorem fM:eD=kU 16:=rfl
attribute [irreducible] eD
theorem lP{a b:Nat}(h:a<=b):kU a<=kU b:=by rw[dj,dj];exact Nat.pow_le_pow_right (by omega) (by omega)
theorem sD:kU 2=18446744073709551616:=by rw[dj]
theorem zZ(n:Nat):0<kU n:=by rw[dj];exact Nat.two_pow_pos _
theorem fm:0<eD:=fM ▸ zZ 16
theorem t7{n:Nat}(h:n<18446744073709551616):n<eD:=by
 rw[fM];rw[<-sD] at h;exact Nat.lt_of_lt_of_le h (lP (by omega))
def bu(X k:Nat):Int:=((X/2^(32*k)%2^32:Nat):Int)
theorem lj(X k:Nat):bu X k<=4294967295:=by
 unfold bu;have:=Nat.mod_lt (X/2^(32*k)) (show 0<2^32 by decide);omega
theorem qB(X k:Nat):bu X k<4294967296:=by
 unfold bu;have:=Nat.mod_lt (X/2^(32*k)) (show 0<2^32 by decide);omega
theorem cj(X k:Nat):0<=bu X k:=by unfold bu;exact Int.natCast_nonneg _
theorem zF(a b:Nat)(h:a<=b):2^b=2^a*2^(b-a):=by rw[<-Nat.pow_add];congr 1;omega
theorem iz(X k j:Nat):bu (X%2^(32*k)) j=if j<k then bu X j else 0:=by
 unfold bu
 split
 ·rename_i h
  congr 1
  rw[zF (32*j) (32*k) (by omega),Nat.mod_mul_right_div_self,show 32*k-32*j=32+(32*k-32*j-32) from by omega,Nat.pow_add,Nat.mod_mul_right_mod]
 ·rename_i h
  rw[Nat.div_eq_of_lt]
  ·simp
  ·exact Nat.lt_of_lt_of_le (Nat.mod_lt _ (Nat.two_pow_pos _)) (Nat.pow_le_pow_right (by decide) (by omega))
theorem tJ(n:Nat):∀ (X Y:Nat),X<2^(32*n)->Y<2^(32*n)->(∀ k,k<n->bu X k=bu Y k)->X=Y:=by
 induction n with
 | zero=>intro X Y hX hY _;simp at hX hY;omega
 | succ n ih=>
  intro X Y hX hY h
  have hs:∀ Z:Nat,Z=Z%2^(32*n)+2^(32*n)*(Z/2^(32*n)):=fun Z=>by have:=Nat.mod_add_div Z (2^(32*n));omega
  have hm:X%2^(32*n)=Y%2^(32*n):=by
   refine ih _ _ (Nat.mod_lt _ (Nat.two_pow_pos _)) (Nat.mod_lt _ (Nat.two_pow_pos _)) fun k hk=>?_
   rw[iz,iz,if_pos hk,if_pos hk]
   exact h k (by omega)
  have hd:X/2^(32*n)=Y/2^(32*n):=by
   have h1:=h n (by omega)
   unfold bu at h1
   have e:∀ Z,Z<2^(32*(n+1))->Z/2^(32*n)<2^32:=fun Z hZ=>by
    rw[Nat.div_lt_iff_lt_mul (Nat.two_pow_pos _),<-Nat.pow_add,show 32+32*n=32*(n+1) from by omega];exact hZ
   rw[Nat.mod_eq_of_lt (e X hX),Nat.mod_eq_of_lt (e Y hY)] at h1
   exact Int.ofNat.inj h1
  rw[hs X,hs Y,hm,hd]
theorem zS{X Y:Nat}(hX:X<eD)(hY:Y<eD)(h:∀ k,k<16->bu X k=bu Y k):X=Y:=by
 rw[fM,dj] at hX hY
 exact tJ 16 X Y hX hY h
def rC(s V Z j:Nat):Int:=if j<s then bu V j else bu Z j
theorem tg(s V Z:Nat):rC s V Z s=bu Z s:=by unfold rC;rw[if_neg (Nat.lt_irrefl s)]
def eR(X Y k:Nat):Nat:=(X%2^(32*k)+Y%2^(32*k))/2^(32*k)
theorem kr(X Y k:Nat):eR X Y k<=1:=by
 unfold eR
 have h:=Nat.two_pow_pos (32*k)
 have h1:=Nat.mod_lt X h
 have h2:=Nat.mod_lt Y h
 have:(X%2^(32*k)+Y%2^(32*k))/2^(32*k)<2:=(Nat.div_lt_iff_lt_mul h).2 (by omega)
 omega
theorem ou(X Y:Nat):eR X Y 0=0:=by simp[eR,Nat.mod_one]
theorem gV(X k:Nat):X=X%2^(32*k)+2^(32*k)*(X/2^(32*k)):=by have:=Nat.mod_add_div X (2^(32*k));omega
theorem cW(k:Nat):2^(32*(k+1))=2^(32*k)*4294967296:=by rw[show 32*(k+1)=32*k+32 from by omega,Nat.pow_add]
theorem dT(X k:Nat):X%2^(32*(k+1))=X%2^(32*k)+2^(32*k)*(X/2^(32*k)%4294967296):=by rw[cW,Nat.mod_mul]
theorem oH(X Y k:Nat):((eR X Y (k+1):Nat):Int)=((eR X Y k:Nat)+(bu X k+bu Y k))/4294967296:=by
 unfold eR bu
 have hp:=Nat.two_pow_pos (32*k)
 rw[dT,dT,cW,<-Nat.div_div_eq_div_mul]
 generalize 2^(32*k)=p at *
 have:(X%p+p*(X/p%4294967296)+(Y%p+p*(Y/p%4294967296)))/p=(X%p+Y%p)/p+(X/p%4294967296+Y/p%4294967296):=by
  rw[show X%p+p*(X/p%4294967296)+(Y%p+p*(Y/p%4294967296))=(X%p+Y%p)+p*(X/p%4294967296+Y/p%4294967296) from by rw[Nat.mul_add];omega,Nat.add_mul_div_left _ _ hp]
 rw[this]
 simp only[show(2:Nat)^32=4294967296 from rfl]
 omega
theorem yh(X Y k:Nat):bu (X+Y) k=((eR X Y k:Nat)+(bu X k+bu Y k))%4294967296:=by
 unfold eR bu
 have hp:=Nat.two_pow_pos (32*k)
 have hx:=gV X k
 have hy:=gV Y k
 generalize 2^(32*k)=p at *
 have:(X+Y)/p=(X%p+Y%p)/p+(X/p+Y/p):=by
  rw[show X+Y=(X%p+Y%p)+p*(X/p+Y/p) from by rw[Nat.mul_add];omega,Nat.add_mul_div_left _ _ hp]
 rw[this]
 simp only[show(2:Nat)^32=4294967296 from rfl]
 omega
theorem uW:2^(32*16)=eD:=by rw[fM,dj 16]
theorem zv{X Y:Nat}(hX:X<eD)(hY:Y<eD):eR X Y 16=if X+Y<eD then 0 else 1:=by
 have h:=kr X Y 16
 unfold eR at *
 rw[uW,Nat.mod_eq_of_lt hX,Nat.mod_eq_of_lt hY] at *
 split
 ·rw[Nat.div_eq_of_lt (by assumption)]
 ·have:1<=(X+Y)/eD:=(Nat.le_div_iff_mul_le fm).2 (by omega)
  omega
def bI(X Y k:Nat):Nat:=if X%2^(32*k)<Y%2^(32*k) then 1 else 0
theorem qW(X Y k:Nat):bI X Y k<=1:=by unfold bI;split<;>omega
theorem mT(X Y:Nat):bI X Y 0=0:=by simp[bI,Nat.mod_one]
theorem mw(X Y k:Nat):((bI X Y (k+1):Nat):Int)=if bu X k-bu Y k-(bI X Y k:Nat)<0 then 1 else 0:=by
 unfold bI bu
 have hp:=Nat.two_pow_pos (32*k)
 rw[dT,dT]
 have h1:=Nat.mod_lt X hp
 have h2:=Nat.mod_lt Y hp
 simp only[show(2:Nat)^32=4294967296 from rfl]
 generalize 2^(32*k)=p at *
 generalize X/p%4294967296=a
 generalize Y/p%4294967296=b
 generalize X%p=x at *
 generalize Y%p=y at *
 rcases Nat.lt_trichotomy a b with h|h|h
 ·have:p*a+p<=p*b:=by rw[<-Nat.mul_succ];exact Nat.mul_le_mul_left _ h
  rw[if_pos (by omega)]
  split<;>rw[if_pos (by omega)]<;>rfl
 ·subst h
  by_cases h3:x<y
  ·rw[if_pos (by omega),if_pos h3,if_pos (by omega)];rfl
  ·rw[if_neg (by omega),if_neg h3,if_neg (by omega)];rfl
 ·have:p*b+p<=p*a:=by rw[<-Nat.mul_succ];exact Nat.mul_le_mul_left _ h
  rw[if_neg (by omega)]
  split<;>rw[if_neg (by omega)]<;>rfl
theorem yC{X Y:Nat}(h:Y<=X)(k:Nat):bu (X-Y) k=(bu X k-bu Y k-(bI X Y k:Nat))%4294967296:=by
 unfold bI bu
 have hp:=Nat.two_pow_pos (32*k)
 have hx:=gV X k
 have hy:=gV Y k
 have h1:=Nat.mod_lt X hp
 have h2:=Nat.mod_lt Y hp
 simp only[show(2:Nat)^32=4294967296 from rfl]
 generalize 2^(32*k)=p at *
 have hle:Y/p<=X/p:=Nat.div_le_div_right h
 generalize hxq:X/p=a at *
 generalize hyq:Y/p=b at *
 generalize hxr:X%p=x at *
 generalize hyr:Y%p=y at *
 by_cases h3:x<y
 ·have hab:b<a:=by
   rcases Nat.lt_or_ge b a with h'|h'
   ·exact h'
   ·have:a=b:=by omega
    subst this;omega
  have e:X-Y=(x+p-y)+p*(a-b-1):=by
   rw[hx,hy,Nat.mul_sub,Nat.mul_sub]
   have:p*b+p<=p*a:=by rw[<-Nat.mul_succ];exact Nat.mul_le_mul_left _ hab
   omega
  rw[e,Nat.add_mul_div_left _ _ hp,Nat.div_eq_of_lt (by omega),if_pos h3]
  omega
 ·have e:X-Y=(x-y)+p*(a-b):=by
   rw[hx,hy,Nat.mul_sub]
   have:p*b<=p*a:=Nat.mul_le_mul_left _ hle
   omega
  rw[e,Nat.add_mul_div_left _ _ hp,Nat.div_eq_of_lt (by omega),if_neg h3]
  omega
theorem ot(a b:Int)(c:Nat)(a0:0<=a)(a1:a<=4294967295)(b0:0<=b)(b1:b<=4294967295)(hc:c<=1) :
  IntKind.u64.wrap (IntKind.u64.wrap (a-b)-(c:Int))/9223372036854775808=(if a-b-(c:Int)<0 then 1 else 0) ∧
  IntKind.u64.wrap (IntKind.u64.wrap (a-b)-(c:Int))%4294967296=(a-b-(c:Int))%4294967296:=by
 have e:∀ n:Int,IntKind.u64.wrap n=n%18446744073709551616:=fun n=>rfl
 rw[e,e]
 constructor
 ·split<;>omega
 ·omega
def fN(X:Nat):Nat->Nat
 | 0=>0
 | k+1=>if 2^(32*k)<=X then k+1 else fN X k
def cN(X:Nat):Nat:=fN X 16
theorem AH(X k:Nat):fN X k<=k:=by
 induction k with
 | zero=>exact Nat.le_refl _
 | succ k ih=>unfold fN;split<;>omega
theorem xR(X k:Nat)(h:fN X k≠0):2^(32*(fN X k-1))<=X:=by
 induction k with
 | zero=>exact absurd rfl h
 | succ k ih=>
  by_cases h1:2^(32*k)<=X
  ·simp only[fN,if_pos h1] at *;simpa using h1
  ·simp only[fN,if_neg h1] at *;exact ih h
theorem uM(X k:Nat)(h:X<2^(32*k)):X<2^(32*fN X k):=by
 induction k with
 | zero=>exact h
 | succ k ih=>
  unfold fN
  split
  ·exact h
  ·exact ih (by omega)
theorem iS(X:Nat):cN X<=16:=AH X 16
theorem dO{X:Nat}(h:X<eD):X<2^(32*cN X):=uM X 16 (by rw[fM,dj] at h;exact h)
theorem lM{X:Nat}(h:cN X≠0):2^(32*(cN X-1))<=X:=xR X 16 h
theorem ua{X k:Nat}(h:X<2^(32*(k+1))):bu X k=0↔X<2^(32*k):=by
 unfold bu
 have hp:=Nat.two_pow_pos (32*k)
 have h2:X/2^(32*k)<2^32:=by rw[Nat.div_lt_iff_lt_mul hp,<-Nat.pow_add,show 32+32*k=32*(k+1) from by omega];exact h
 rw[Nat.mod_eq_of_lt h2]
 constructor
 ·intro h3
  have h3':X/2^(32*k)=0:=by omega
  rcases(Nat.div_eq_zero_iff).1 h3' with h4|h4
  ·omega
  ·exact h4
 ·intro h3;rw[Nat.div_eq_of_lt h3];rfl
def sgn(a b:Nat):Int:=if a<b then -1 else if b<a then 1 else 0
def iI(X Y k:Nat):Prop:=X/2^(32*k)=Y/2^(32*k)
theorem Ah{X Y:Nat}(hX:X<eD)(hY:Y<eD):iI X Y 16:=by
 unfold iI
 rw[fM,dj] at hX hY
 rw[Nat.div_eq_of_lt hX,Nat.div_eq_of_lt hY]
theorem kp(X k:Nat):X/2^(32*k)=X/2^(32*(k+1))*4294967296+(X/2^(32*k))%4294967296:=by
 rw[cW,<-Nat.div_div_eq_div_mul];omega
theorem vS{X Y k:Nat}(h:iI X Y (k+1))(hd:bu X k=bu Y k):iI X Y k:=by
 unfold iI bu at *
 rw[kp X k,kp Y k,h]
 simp only[show(2:Nat)^32=4294967296 from rfl] at hd
 omega
theorem wn{X Y k:Nat}(h:iI X Y (k+1))(hd:bu X k≠bu Y k):sgn X Y=if bu X k<bu Y k then -1 else 1:=by
 unfold iI bu at *
 have hx:=kp X k
 have hy:=kp Y k
 have hp:=Nat.two_pow_pos (32*k)
 have sx:=gV X k
 have sy:=gV Y k
 have h1:=Nat.mod_lt X hp
 have h2:=Nat.mod_lt Y hp
 simp only[show(2:Nat)^32=4294967296 from rfl] at hd ⊢
 generalize 2^(32*k)=p at *
 unfold sgn
 by_cases hlt:X/p<Y/p
 ·have:p*(X/p)+p<=p*(Y/p):=by rw[<-Nat.mul_succ];exact Nat.mul_le_mul_left _ hlt
  rw[if_pos (by omega),if_pos (by omega)]
 ·have hgt:Y/p<X/p:=by omega
  have:p*(Y/p)+p<=p*(X/p):=by rw[<-Nat.mul_succ];exact Nat.mul_le_mul_left _ hgt
  rw[if_neg (by omega),if_pos (by omega),if_neg (by omega)]
theorem AE{X Y:Nat}(h:iI X Y 0):sgn X Y=0:=by
 have:X=Y:=by simpa [iI] using h
 subst this;simp[sgn]
theorem cL(X k:Nat):bu X k=((X/2^(32*k)%4294967296:Nat):Int):=rfl
theorem fr{X n k:Nat}(h:X<2^(32*n))(hk:n<=k):bu X k=0:=by
 rw[cL,Nat.div_eq_of_lt (Nat.lt_of_lt_of_le h (Nat.pow_le_pow_right (by omega) (by omega)))];rfl
theorem jE(X c s j:Nat)(h:j<s):bu (X+c*2^(32*s)) j=bu X j:=by
 rw[cL,cL]
 congr 1
 rw[show 32*s=32*j+(32+32*(s-j-1)) from by omega,Nat.pow_add,Nat.pow_add,show c*(2^(32*j)*(2^32*2^(32*(s-j-1))))=2^(32*j)*(4294967296*(c*2^(32*(s-j-1)))) from by
  rw[show(2:Nat)^32=4294967296 from rfl];ac_rfl,Nat.add_mul_div_left _ _ (Nat.two_pow_pos _),Nat.add_mul_mod_self_left]
def fe(A B i:Nat):Nat:=A%2^(32*i)*B
def lu(A B i k:Nat):Nat:=fe A B i+(A/2^(32*i)%4294967296)*(B%2^(32*k))*2^(32*i)
def nk(A B i k:Nat):Nat:=lu A B i k/2^(32*(i+k))-fe A B i/2^(32*(i+k))
def uo(A B i k:Nat):Nat->Int:=rC (i+k) (lu A B i k) (fe A B i)
theorem sE(A B i:Nat):lu A B i 0=fe A B i:=by simp[lu,Nat.mod_one]
theorem sN(A B i:Nat):nk A B i 0=0:=by simp[nk,sE]
theorem zr(A B i:Nat):uo A B i 0=bu (fe A B i):=by
 funext j;simp[uo,sE,rC]
theorem sJ(A B i k:Nat):lu A B i (k+1)=lu A B i k+(A/2^(32*i)%4294967296)*(B/2^(32*k)%4294967296)*2^(32*(i+k)):=by
 unfold lu
 rw[dT,show 32*(i+k)=32*i+32*k from by omega,Nat.pow_add,Nat.mul_add,Nat.add_mul,Nat.add_assoc]
 congr 2
 ac_rfl
theorem Ej(A B i k:Nat):fe A B i<=lu A B i k:=Nat.le_add_right _ _
theorem ul(A B i k:Nat):nk A B i k+fe A B i/2^(32*(i+k))=lu A B i k/2^(32*(i+k)):=by
 unfold nk;have:=Nat.div_le_div_right (c:=2^(32*(i+k))) (Ej A B i k);omega
theorem wD(A B i k:Nat):lu A B i (k+1)/2^(32*(i+k))=nk A B i k+fe A B i/2^(32*(i+k))+(A/2^(32*i)%4294967296)*(B/2^(32*k)%4294967296):=by
 rw[sJ,Nat.add_mul_div_right _ _ (Nat.two_pow_pos _),ul]
theorem pU(A B i k:Nat):nk A B i (k+1)=(nk A B i k+((A/2^(32*i)%4294967296)*(B/2^(32*k)%4294967296)+fe A B i/2^(32*(i+k))%4294967296))/4294967296:=by
 have h1:=ul A B i (k+1)
 have h2:=wD A B i k
 have e:∀ X,X/2^(32*(i+(k+1)))=X/2^(32*(i+k))/4294967296:=fun X=>by
  rw[show i+(k+1)=i+k+1 from by omega,cW,Nat.div_div_eq_div_mul]
 rw[e,e,h2] at h1
 generalize A/2^(32*i)%4294967296*(B/2^(32*k)%4294967296)=p at *
 generalize fe A B i/2^(32*(i+k))=z at *
 omega
theorem rS(a p q z c:Nat):(((a+(p*q+z))/c:Nat):Int)=((a:Int)+((p:Int)*q+z))/(c:Int):=by push_cast;rfl
theorem qQ(a p q z c:Nat):(((a+(p*q+z))%c:Nat):Int)=((a:Int)+((p:Int)*q+z))%(c:Int):=by push_cast;rfl
theorem zK(A B i k:Nat):((nk A B i (k+1):Nat):Int)=((nk A B i k:Nat)+(bu A i*bu B k+bu (fe A B i) (i+k)))/4294967296:=by
 rw[pU,cL,cL,cL];exact rS _ _ _ _ 4294967296
theorem uA(A B i k:Nat):nk A B i k<=4294967295:=by
 induction k with
 | zero=>rw[sN];omega
 | succ k ih=>
  rw[pU]
  have h1:A/2^(32*i)%4294967296<=4294967295:=by have:=Nat.mod_lt (A/2^(32*i)) (show 0<4294967296 by omega);omega
  have h2:B/2^(32*k)%4294967296<=4294967295:=by have:=Nat.mod_lt (B/2^(32*k)) (show 0<4294967296 by omega);omega
  have h3:=Nat.mul_le_mul h1 h2
  have h4:=Nat.mod_lt (fe A B i/2^(32*(i+k))) (show 0<4294967296 by omega)
  omega
theorem Ay(A B i k:Nat):uo A B i k (i+k)=bu (fe A B i) (i+k):=tg _ _ _
theorem Cz(A B i k:Nat):bu (lu A B i (k+1)) (i+k)=((nk A B i k:Nat)+(bu A i*bu B k+bu (fe A B i) (i+k)))%4294967296:=by
 rw[cL (lu _ _ _ _),wD,cL,cL,cL]
 refine Eq.trans (congrArg Nat.cast ?_) (qQ _ _ _ _ 4294967296)
 generalize A/2^(32*i)%4294967296*(B/2^(32*k)%4294967296)=p
 generalize fe A B i/2^(32*(i+k))=z
 omega
theorem td{A B i m:Nat}(hB:B<2^(32*m)):fe A B (i+1)=lu A B i m:=by
 unfold fe lu fe
 rw[dT,Nat.mod_eq_of_lt hB,Nat.add_mul];congr 1;ac_rfl
theorem zb{A B i m:Nat}(hB:B<2^(32*m)):fe A B i<2^(32*(i+m)):=by
 unfold fe
 rw[show 32*(i+m)=32*i+32*m from by omega,Nat.pow_add]
 exact Nat.mul_lt_mul'' (Nat.mod_lt _ (Nat.two_pow_pos _)) hB
theorem Ao(A B:Nat):fe A B 0=0:=by simp[fe,Nat.mod_one]
theorem A9{A B n:Nat}(hA:A<2^(32*n)):fe A B n=A*B:=by unfold fe;rw[Nat.mod_eq_of_lt hA]
theorem mY(k:Nat):bu 0 k=0:=by simp[bu]
theorem ju(X a k:Nat):bu (X/2^(32*a)) k=bu X (a+k):=by
 rw[cL,cL,Nat.div_div_eq_div_mul,<-Nat.pow_add,Nat.mul_add]
theorem u6(X a k:Nat):bu (X/kU a) k=bu X (a+k):=by rw[dj,ju]
theorem BM(a b D c:Nat):(a+b*D)%c=(a+b%c*D)%c:=by
 have h:b*D%c=b%c*D%c:=by rw[Nat.mul_mod b D c,Nat.mul_mod (b%c) D c,Nat.mod_mod b c]
 rw[Nat.add_mod,h,<-Nat.add_mod]
def fK(X D k:Nat):Nat:=X%2^(32*k)*D/2^(32*k)
theorem su(X D:Nat):fK X D 0=0:=by simp[fK,Nat.mod_one]
theorem tD(X k:Nat){D:Nat}(h:0<D):fK X D k<D:=by
 unfold fK
 rw[Nat.div_lt_iff_lt_mul (Nat.two_pow_pos _),Nat.mul_comm D]
 exact Nat.mul_lt_mul_of_pos_right (Nat.mod_lt _ (Nat.two_pow_pos _)) h
theorem xV(X D k:Nat):fK X D (k+1)=(fK X D k+X/2^(32*k)%4294967296*D)/4294967296:=by
 unfold fK
 rw[dT,cW,<-Nat.div_div_eq_div_mul,Nat.add_mul,Nat.mul_assoc,Nat.add_mul_div_left _ _ (Nat.two_pow_pos _)]
theorem rZ(X D k:Nat):((fK X D (k+1):Nat):Int)=((fK X D k:Nat)+bu X k*(D:Nat))/4294967296:=by
 have h:=rS (fK X D k) (X/2^(32*k)%4294967296) D 0 4294967296
 simp only[Nat.add_zero,Int.add_zero,Int.natCast_zero,Int.cast_ofNat_Int] at h
 rw[xV,cL];exact h
theorem vr(X D k:Nat):bu (X*D) k=((fK X D k:Nat)+bu X k*(D:Nat))%4294967296:=by
 have h:=qQ (fK X D k) (X/2^(32*k)%4294967296) D 0 4294967296
 simp only[Nat.add_zero,Int.add_zero,Int.natCast_zero,Int.cast_ofNat_Int] at h
 rw[cL,cL]
 refine Eq.trans (congrArg Nat.cast ?_) h
 have e:X*D/2^(32*k)=fK X D k+X/2^(32*k)*D:=by
  unfold fK
  rw[<-Nat.add_mul_div_left _ _ (Nat.two_pow_pos (32*k)),<-Nat.mul_assoc,<-Nat.add_mul,<-gV]
 rw[e,BM]
theorem A8{X D:Nat}(h:X<eD):fK X D 16=X*D/eD:=by
 unfold fK;rw[uW,Nat.mod_eq_of_lt h]
theorem Bf(X n k:Nat)(hn:n<=32):bu (X/2^n) k=(bu X (k+1)*4294967296+bu X k)/((2^n:Nat):Int)%4294967296:=by
 rw[cL,cL,cL,cW,<-Nat.div_div_eq_div_mul,Nat.div_div_eq_div_mul,Nat.mul_comm (2^n),<-Nat.div_div_eq_div_mul]
 generalize X/2^(32*k)=Y
 have e:(((Y/4294967296%4294967296:Nat):Int)*4294967296+((Y%4294967296:Nat):Int))=((Y%(2^n*(2^(32-n)*4294967296)):Nat):Int):=by
  rw[<-Nat.mul_assoc,<-Nat.pow_add,show n+(32-n)=32 from by omega,show(2:Nat)^32=4294967296 from rfl]
  omega
 rw[e,<-Int.natCast_ediv,Nat.mod_mul_right_div_self]
 generalize Y/2^n=Z
 have h:Z%4294967296=Z%(2^(32-n)*4294967296)%4294967296:=(Nat.mod_mul_left_mod _ _ _).symm
 rw[h]
 exact Int.natCast_emod _ 4294967296
theorem sX(X k j:Nat):bu (X/2^(32*k)*2^(32*k)) j=if j<k then 0 else bu X j:=by
 have h:=jE 0 (X/2^(32*k)) k j
 by_cases hj:j<k
 ·rw[if_pos hj];rw[Nat.zero_add] at h;rw[h hj,mY]
 ·rw[if_neg hj,show j=k+(j-k) from by omega,<-ju,Nat.mul_div_cancel _ (Nat.two_pow_pos _),ju]
def eN(X b k:Nat):Nat:=X/2^(32*k)%b
theorem vK(X k:Nat){b:Nat}(h:0<b):eN X b k<b:=Nat.mod_lt _ h
theorem pF(X k:Nat):X/2^(32*k)=X/2^(32*(k+1))*4294967296+X/2^(32*k)%4294967296:=by
 rw[cW,<-Nat.div_div_eq_div_mul];omega
theorem xc(X b k:Nat):eN X b k=(eN X b (k+1)*4294967296+X/2^(32*k)%4294967296)%b:=by
 unfold eN
 conv=>lhs;rw[pF X k]
 rw[Nat.add_comm,BM,Nat.add_comm]
theorem zR(X k:Nat){b:Nat}(hb:0<b)(h:b<=4294967295):X/b/2^(32*k)%4294967296=(eN X b (k+1)*4294967296+X/2^(32*k)%4294967296)/b:=by
 have e:X/b/2^(32*k)=X/2^(32*(k+1))/b*4294967296+(eN X b (k+1)*4294967296+X/2^(32*k)%4294967296)/b:=by
  rw[Nat.div_div_eq_div_mul,Nat.mul_comm,<-Nat.div_div_eq_div_mul]
  conv=>lhs;rw[pF X k]
  unfold eN
  generalize X/2^(32*(k+1))=Y
  generalize X/2^(32*k)%4294967296=z
  conv=>lhs;rw[show Y*4294967296+z=b*(Y/b*4294967296)+(Y%b*4294967296+z) from by
   have:=Nat.div_add_mod Y b
   conv=>lhs;rw[<-this]
   rw[Nat.add_mul,Nat.mul_assoc];omega]
  rw[Nat.mul_add_div hb]
 have hlt:(eN X b (k+1)*4294967296+X/2^(32*k)%4294967296)/b<4294967296:=by
  rw[Nat.div_lt_iff_lt_mul hb]
  have h1:=vK X (k+1) hb
  have h2:=Nat.mod_lt (X/2^(32*k)) (show 0<4294967296 by omega)
  have h3:(eN X b (k+1)+1)*4294967296<=b*4294967296:=Nat.mul_le_mul_right _ h1
  omega
 rw[e,Nat.mul_comm (_/b),Nat.mul_add_mod,Nat.mod_eq_of_lt hlt]
theorem zP(X b:Nat):eN X b 0=X%b:=by simp[eN]
structure Heads(W V P T F u v:Nat):Prop where
 w:W/P=T*4294967296+u
 d:V/P=F*4294967296+v
 u:u<4294967296
 v:v<4294967296
 one:1<=F
 pos:0<P
 lt:W<V*4294967296
variable{W V P T F u v:Nat}
theorem Heads.key{d r:Nat}(h:d*F+r=T):d*(F*4294967296+v)+r*4294967296=T*4294967296+d*v:=by
 rw[<-h,Nat.mul_add,Nat.add_mul,Nat.mul_assoc];omega
theorem Heads.vpos(H:Heads W V P T F u v):0<V:=by
 rcases Nat.eq_zero_or_pos V with h|h
 ·have:=H.lt;rw[h] at this;omega
 ·exact h
theorem Heads.over(H:Heads W V P T F u v){d:Nat}(h:W/P<d*(V/P)):W/V<d:=by
 apply Nat.div_lt_of_lt_mul
 have h1:W<(W/P+1)*P:=by have:=Nat.div_add_mod W P;have:=Nat.mod_lt W H.pos;rw[Nat.add_mul,Nat.mul_comm (W/P)];omega
 have h2:(W/P+1)*P<=d*(V/P)*P:=Nat.mul_le_mul_right _ h
 have h3:d*(V/P)*P<=d*V:=by rw[Nat.mul_assoc];exact Nat.mul_le_mul_left _ (Nat.div_mul_le_self V P)
 rw[Nat.mul_comm V];omega
theorem Heads.under(H:Heads W V P T F u v){d:Nat}(h:d*(V/P)<=W/P)(hd:d<4294967296):d<=W/V+1:=by
 rcases Nat.eq_zero_or_pos d with h0|h0
 ·rw[h0];exact Nat.zero_le _
 obtain⟨e,rfl⟩:∃ e,d=e+1:=⟨d-1,by omega⟩
 have hb:e<=V/P:=by rw[H.d];have h1:1*4294967296<=F*4294967296:=Nat.mul_le_mul_right _ H.one;omega
 have:e<=W/V:=by
  rw[Nat.le_div_iff_mul_le H.vpos]
  have h1:V<=(V/P+1)*P:=by have:=Nat.div_add_mod V P;have:=Nat.mod_lt V H.pos;rw[Nat.add_mul,Nat.mul_comm (V/P)];omega
  have h2:e*V<=e*((V/P+1)*P):=Nat.mul_le_mul_left _ h1
  have h3:e*((V/P+1)*P)<=(e+1)*(V/P)*P:=by
   rw[<-Nat.mul_assoc];apply Nat.mul_le_mul_right;rw[Nat.mul_add,Nat.add_mul];omega
  have h4:(e+1)*(V/P)*P<=W/P*P:=Nat.mul_le_mul_right _ h
  have h5:=Nat.div_mul_le_self W P
  omega
 exact Nat.succ_le_succ this
theorem Heads.q_lt(H:Heads W V P T F u v):W/V<4294967296:=Nat.div_lt_of_lt_mul (by have:=H.lt;omega)
theorem Heads.start(H:Heads W V P T F u v):W/V<=T/F:=by
 have h1:W/V<T/F+1:=by
  apply H.over
  rw[H.w,H.d]
  have h2:T<(T/F+1)*F:=by have:=Nat.div_add_mod T F;have:=Nat.mod_lt T (show 0<F from H.one);rw[Nat.add_mul,Nat.mul_comm (T/F)];omega
  have h3:(T+1)*4294967296<=(T/F+1)*F*4294967296:=Nat.mul_le_mul_right _ h2
  have h4:(T/F+1)*F*4294967296<=(T/F+1)*(F*4294967296+v):=by rw[Nat.mul_assoc];exact Nat.mul_le_mul_left _ (Nat.le_add_right _ _)
  have h5:=H.u
  exact Nat.lt_of_lt_of_le (by omega) (Nat.le_trans h3 h4)
 exact Nat.le_of_lt_succ h1
theorem Heads.step_big(H:Heads W V P T F u v){d:Nat}(h:4294967296<=d):W/V<=d-1:=Nat.le_sub_one_of_lt (Nat.lt_of_lt_of_le H.q_lt h)
theorem B6{A B T r u c:Nat}(hk:A+r*c=T*c+B)(ht:r*c+u<B):T*c+u<A:=by omega
theorem Heads.step(H:Heads W V P T F u v){d r:Nat}(h:d*F+r=T)(ht:r*4294967296+u<d*v):W/V<=d-1/\1<=d:=by
 have h1:W/V<d:=by
  apply H.over
  rw[H.w,H.d]
  exact B6 (Heads.key (v:=v) h) ht
 exact⟨Nat.le_sub_one_of_lt h1,Nat.lt_of_le_of_lt (Nat.zero_le _) h1⟩
theorem Heads.t_lt(H:Heads W V P T F u v):T<(F+1)*4294967296:=by
 have h1:W/P*P<=W:=Nat.div_mul_le_self W P
 have h2:V<(V/P+1)*P:=by have:=Nat.div_add_mod V P;have:=Nat.mod_lt V H.pos;rw[Nat.add_mul,Nat.mul_comm (V/P)];omega
 have h3:V*4294967296<(V/P+1)*P*4294967296:=Nat.mul_lt_mul_of_pos_right h2 (by omega)
 have h4:=H.lt
 have h5:W/P*P<(V/P+1)*4294967296*P:=by rw[Nat.mul_right_comm];omega
 have h6:W/P<(V/P+1)*4294967296:=Nat.lt_of_mul_lt_mul_right h5
 rw[H.w,H.d] at h6
 have h7:=H.v
 rw[Nat.add_mul]
 omega
theorem Heads.done(H:Heads W V P T F u v){d r:Nat}(h:d*F+r=T)(hr:4294967296<=r\/(d<4294967296/\d*v<=r*4294967296+u)):d<4294967296/\d<=W/V+1:=by
 have hd:d<4294967296:=by
  rcases hr with hr|hr
  ·have h1:=H.t_lt
   rw[Nat.add_mul,Nat.one_mul] at h1
   have h2:d*F<4294967296*F:=by omega
   exact Nat.lt_of_mul_lt_mul_right h2
  ·exact hr.1
 refine⟨hd,H.under ?_ hd⟩
 rw[H.w,H.d]
 have hk:=Heads.key (v:=v) h
 rcases hr with hr|hr
 ·have h1:d*v<=4294967295*4294967295:=Nat.mul_le_mul (by omega) (by have:=H.v;omega)
  omega
 ·omega
def dg(X k:Nat):Nat:=X/2^(32*k)%4294967296
theorem nC(X k:Nat):bu X k=(dg X k:Nat):=rfl
theorem eY(X k:Nat):dg X k<4294967296:=Nat.mod_lt _ (by omega)
theorem yM(X k:Nat):dg X k<=4294967295:=Nat.le_of_lt_succ (eY X k)
theorem mv(X k:Nat):X/2^(32*k)=X/2^(32*(k+1))*4294967296+dg X k:=pF X k
theorem iU{X k:Nat}(h:X<2^(32*(k+1))):X/2^(32*k)=dg X k:=by
 rw[mv,Nat.div_eq_of_lt h,Nat.zero_mul,Nat.zero_add]
theorem B4{U V e j:Nat}(hV:V<2^(32*(e+2)))(hV1:2^(32*(e+1))<=V)(hU:U/2^(32*j)<V*4294967296) :
  Heads (U/2^(32*j)) V (2^(32*e)) (dg U (j+e+2)*4294967296+dg U (j+e+1)) (dg V (e+1)) (dg U (j+e)) (dg V e):=by
 have hc:∀ k,U/2^(32*j)/2^(32*k)=U/2^(32*(j+k)):=fun k=>by rw[Nat.div_div_eq_div_mul,<-Nat.pow_add,Nat.mul_add]
 have hUl:U<2^(32*(j+e+2+1)):=by
  have h1:=(Nat.div_lt_iff_lt_mul (Nat.two_pow_pos (32*j))).1 hU
  have h2:V*4294967296*2^(32*j)<2^(32*(e+2))*4294967296*2^(32*j):=Nat.mul_lt_mul_of_pos_right (Nat.mul_lt_mul_of_pos_right hV (by omega)) (Nat.two_pow_pos _)
  have h3:2^(32*(e+2))*4294967296*2^(32*j)=2^(32*(j+e+2+1)):=by
   rw[cW (j+e+2),show 32*(j+e+2)=32*j+32*(e+2) from by omega,Nat.pow_add,Nat.mul_right_comm,Nat.mul_comm (2^(32*(e+2))) (2^(32*j))]
  rw[<-h3];exact Nat.lt_trans h1 h2
 refine⟨?_,?_,eY _ _,eY _ _,?_,Nat.two_pow_pos _,hU⟩
 ·rw[hc,mv,mv U (j+e+1),iU hUl]
 ·rw[mv,iU hV]
 ·rw[<-iU hV];exact(Nat.le_div_iff_mul_le (Nat.two_pow_pos _)).2 (by rw[Nat.one_mul];exact hV1)
theorem FR(U i k:Nat):dg U i*4294967296+dg U k<=18446744073709551615:=by
 have h1:=yM U i;have h2:=yM U k;omega
theorem wO{T F D R:Nat}(h:D*F+R=T)(hD:1<=D):(D-1)*F+(R+F)=T:=by
 obtain⟨E,rfl⟩:∃ E,D=E+1:=⟨D-1,by omega⟩
 rw[Nat.add_mul,Nat.one_mul] at h
 rw[Nat.add_sub_cancel];omega
theorem rn{X X' Y k:Nat}(h:X%2^(32*k)=X'%2^(32*k)):bI X Y k=bI X' Y k:=by unfold bI;rw[h]
def eK(U Z j:Nat):Nat:=U%2^(32*j)+Z*2^(32*j)
theorem Ag{U Z j t:Nat}(h:t<j):bu (eK U Z j) t=bu U t:=by
 unfold eK;rw[jE _ _ _ _ h,iz,if_pos h]
theorem xm(U Z j i:Nat):bu (eK U Z j) (j+i)=bu Z i:=by
 rw[<-ju];unfold eK
 rw[Nat.add_mul_div_right _ _ (Nat.two_pow_pos _),Nat.div_eq_of_lt (Nat.mod_lt _ (Nat.two_pow_pos _)),Nat.zero_add]
def rl(U Z j i:Nat):Nat->Int:=rC (j+i) (eK U Z j) U
theorem sr(U Z j:Nat):rl U Z j 0=bu U:=by
 funext t;unfold rl rC;split
 ·rename_i h;exact Ag (by omega)
 ·rfl
theorem ko(U Z j i:Nat):rl U Z j i (j+i)=bu U (j+i):=tg _ _ _
def j8(W Y m:Nat):Nat:=(W+2^(32*m)-Y)%2^(32*m)
theorem Aj{W Y m i:Nat}(hi:i<m)(hY:Y<=2^(32*m)):bu (j8 W Y m) i=(bu W i-bu Y i-(bI W Y i:Nat))%4294967296:=by
 have hd:bu (W+2^(32*m)) i=bu W i:=by
  have:=jE W 1 m i hi;rwa [Nat.one_mul] at this
 have hb:bI (W+2^(32*m)) Y i=bI W Y i:=rn (by
  rw[show 32*m=32*i+(32*m-32*i) from by omega,Nat.pow_add,Nat.add_mul_mod_self_left])
 unfold j8
 rw[iz,if_pos hi,yC (by omega),hd,hb]
theorem Bu(W Y m:Nat):j8 W Y m<2^(32*m):=Nat.mod_lt _ (Nat.two_pow_pos _)
theorem vY{W Y m:Nat}(hW:W<2^(32*m))(hY:Y<2^(32*m)):bI W Y m=if W<Y then 1 else 0:=by
 unfold bI;rw[Nat.mod_eq_of_lt hW,Nat.mod_eq_of_lt hY]
def dM(N V j:Nat):Nat:=N/V%2^(32*j)*V+N%V
theorem zH(N V:Nat):dM N V 0=N%V:=by simp[dM,Nat.mod_one]
theorem xo{N V k:Nat}(h:N/V<2^(32*k)):dM N V k=N:=by
 unfold dM;rw[Nat.mod_eq_of_lt h,Nat.mul_comm];exact Nat.div_add_mod N V
theorem sQ(N V j:Nat):dM N V (j+1)=dM N V j+dg (N/V) j*V*2^(32*j):=by
 unfold dM dg
 rw[dT]
 generalize N/V/2^(32*j)%4294967296=t
 generalize 2^(32*j)=P
 rw[Nat.add_mul,show P*t*V=t*V*P from by rw[Nat.mul_comm P t,Nat.mul_right_comm]]
 omega
theorem tp{N V:Nat}(j:Nat)(h:0<V):dM N V j<V*2^(32*j):=by
 unfold dM
 have h1:=Nat.mod_lt (N/V) (Nat.two_pow_pos (32*j))
 have h2:=Nat.mod_lt N h
 have h3:(N/V%2^(32*j)+1)*V<=2^(32*j)*V:=Nat.mul_le_mul_right _ h1
 rw[Nat.add_mul,Nat.one_mul] at h3
 rw[Nat.mul_comm V];omega
theorem mI{N V:Nat}(j:Nat)(h:0<V):dM N V j/2^(32*j)<V:=by
 rw[Nat.div_lt_iff_lt_mul (Nat.two_pow_pos _)];exact tp j h
theorem nJ(N V j:Nat):dM N V (j+1)/2^(32*j)=dM N V j/2^(32*j)+V*dg (N/V) j:=by
 rw[sQ,Nat.add_mul_div_right _ _ (Nat.two_pow_pos _),Nat.mul_comm V]
theorem wl(N V j:Nat):dM N V (j+1)%2^(32*j)=dM N V j%2^(32*j):=by
 rw[sQ,Nat.add_mul_mod_self_right]
theorem B2{N V:Nat}(j:Nat)(h:0<V):dM N V (j+1)/2^(32*j)/V=dg (N/V) j:=by
 rw[nJ,Nat.add_mul_div_left _ _ h,Nat.div_eq_of_lt (mI j h),Nat.zero_add]
theorem B8{N V:Nat}(j:Nat)(h:0<V):dM N V (j+1)/2^(32*j)<V*4294967296:=by
 rw[Nat.div_lt_iff_lt_mul (Nat.two_pow_pos _),Nat.mul_assoc,Nat.mul_comm 4294967296,<-cW];exact tp (j+1) h
theorem Am{N V n:Nat}(j:Nat)(h:0<V)(hV:V<2^(32*n)):dM N V (j+1)<2^(32*(j+n+1)):=by
 have h1:=tp (N:=N) (j+1) h
 have h2:V*2^(32*(j+1))<2^(32*n)*2^(32*(j+1)):=Nat.mul_lt_mul_of_pos_right hV (Nat.two_pow_pos _)
 rw[<-Nat.pow_add,show 32*n+32*(j+1)=32*(j+n+1) from by omega] at h2
 omega
theorem sH{U U' j:Nat}(h:U%2^(32*j)=U'%2^(32*j)):eK U (U'/2^(32*j)) j=U':=by
 unfold eK;rw[h,Nat.mul_comm (U'/2^(32*j)) (2^(32*j))];exact Nat.mod_add_div U' _
theorem zu(U Z j:Nat):eK U Z j%2^(32*j)=U%2^(32*j):=by
 unfold eK;rw[Nat.add_mul_mod_self_right,Nat.mod_mod]
theorem At(U Z j:Nat):eK U Z j/2^(32*j)=Z:=by
 unfold eK;rw[Nat.add_mul_div_right _ _ (Nat.two_pow_pos _),Nat.div_eq_of_lt (Nat.mod_lt _ (Nat.two_pow_pos _)),Nat.zero_add]
theorem wr{U Z j m:Nat}(hZ:Z<2^(32*m)):eK U Z j<2^(32*(j+m)):=by
 have h1:eK U Z j<(Z+1)*2^(32*j):=by unfold eK;have:=Nat.mod_lt U (Nat.two_pow_pos (32*j));rw[Nat.add_mul];omega
 have h2:(Z+1)*2^(32*j)<=2^(32*m)*2^(32*j):=Nat.mul_le_mul_right _ hZ
 rw[<-Nat.pow_add,show 32*m+32*j=32*(j+m) from by omega] at h2
 omega
variable{N V n:Nat}
theorem lF(hV:V<2^(32*n)):V<2^(32*(n+1)):=Nat.lt_of_lt_of_le hV (Nat.pow_le_pow_right (by omega) (by omega))
theorem tN{x y B:Nat}(hx:x<B):(x+y+B-y)%B=x:=by
 rw[show x+y+B-y=x+B from by omega,Nat.add_mod_right,Nat.mod_eq_of_lt hx]
theorem vD(j:Nat)(h:0<V)(hV:V<2^(32*n)) :
  eK (dM N V (j+1)) (j8 (dM N V (j+1)/2^(32*j)) (V*dg (N/V) j) (n+1)) j=dM N V j:=by
 have e:j8 (dM N V (j+1)/2^(32*j)) (V*dg (N/V) j) (n+1)=dM N V j/2^(32*j):=by
  unfold j8;rw[nJ];exact tN (Nat.lt_trans (mI j h) (lF hV))
 rw[e,sH (wl N V j)]
theorem zz(j:Nat)(h:0<V)(hV:V<2^(32*n)) :
  j8 (dM N V (j+1)/2^(32*j)) (V*(dg (N/V) j+1)) (n+1)=dM N V j/2^(32*j)+2^(32*(n+1))-V:=by
 have h1:=mI (N:=N) j h
 have h2:=lF hV
 unfold j8
 rw[nJ,Nat.mul_add V (dg (N/V) j) 1,Nat.mul_one]
 generalize 2^(32*(n+1))=B at *
 generalize dM N V j/2^(32*j)=x at *
 generalize V*dg (N/V) j=y
 rw[show x+y+B-(y+V)=x+B-V from by omega,Nat.mod_eq_of_lt (by omega)]
theorem uK(j:Nat)(h:0<V)(hV:V<2^(32*n)){U1:Nat}(e1:U1=eK (dM N V (j+1)) (j8 (dM N V (j+1)/2^(32*j)) (V*(dg (N/V) j+1)) (n+1)) j) :
  eK U1 ((U1/2^(32*j)+V)%2^(32*(n+1))) j=dM N V j:=by
 have h1:=mI (N:=N) j h
 have h2:=lF hV
 have e2:(U1/2^(32*j)+V)%2^(32*(n+1))=dM N V j/2^(32*j):=by
  rw[e1,At,zz j h hV]
  generalize 2^(32*(n+1))=B at *
  generalize dM N V j/2^(32*j)=x at *
  rw[show x+B-V+V=x+B from by omega,Nat.add_mod_right,Nat.mod_eq_of_lt (by omega)]
 rw[e2,sH (by rw[e1,zu,wl])]
end Go.Proofs.YtjjjkojfijpeeaaGreat
end
section
set_option linter.unusedVariables false
namespace Go.Proofs.YtjjjkojfijpeeaaGreat.Sy
open Go Go.Proofs Go.Proofs.YtjjjkojfijpeeaaGreat.Geo
def cC(n:Nat)(f:Nat->Int):D:=.st ((List.range n).map fun i=>.int .u32 (f i))
abbrev LM(X:Nat):D:=cC 16 (bu X)
theorem bc{n i:Nat}(f:Nat->Int)(h:i<n):D.get (cC n f) [i]=some (.int .u32 (f i)):=by
 simp[cC,D.get,D.fld,h]
theorem de{n:Nat}{f g:Nat->Int}(h:∀ i,i<n->f i=g i):cC n f=cC n g:=by
 unfold cC
 congr 1
 exact List.map_congr_left fun i hi=>by rw[h i (List.mem_range.1 hi)]
theorem kH{n i:Nat}{f g:Nat->Int}{v:Int}(h:i<n)(hg:∀ j,j<n->g j=if j=i then v else f j):D.set (cC n f) [i] (.int .u32 v)=some (cC n g):=by
 have e:((List.range n).map fun i=>D.int .u32 (f i))[i]?=some (.int .u32 (f i)):=by simp[h]
 simp only[cC,D.set,e,Option.bind_some]
 congr 2
 apply List.ext_getElem?
 intro j
 by_cases hj:j<n
 ·rw[List.getElem?_set]
  by_cases hij:i=j
  ·subst hij;simp[h,hg i h]
  ·simp[hij,hj,hg j hj,show ¬ j=i from fun e=>hij e.symm]
 ·rw[List.getElem?_eq_none (by simp;omega),List.getElem?_eq_none (by simp;omega)]
theorem rb(f g:Nat->Int):∀ l:List Nat,D.beqs (l.map fun i=>D.int .u32 (f i)) (l.map fun i=>D.int .u32 (g i))=l.all fun i=>decide (f i=g i)
 | []=>rfl
 | i::l=>by simp only[List.map_cons,D.beqs,D.beq,List.all_cons,rb f g l];simp
theorem E2(n:Nat)(f g:Nat->Int):D.beq (cC n f) (cC n g)=decide (∀ i,i<n->f i=g i):=by
 simp only[cC,D.beq,rb]
 rw[Bool.eq_iff_iff]
 simp
theorem ls{X Y:Nat}(hX:X<eD)(hY:Y<eD):D.beq (LM X) (LM Y)=decide (X=Y):=by
 rw[E2,decide_eq_decide]
 constructor
 ·exact zS hX hY
 ·rintro rfl;exact fun _ _=>rfl
theorem ik:D.st (D.putParts (List.replicate 16 (D.int .u32 0)) [])=LM 0:=by
 have:LM 0=cC 16 (fun _=>0):=de fun i _=>mY i
 rw[this];rfl
theorem fg:az aU=LM 0:=by
 have:LM 0=cC 16 (fun _=>0):=de fun i _=>mY i
 rw[this];rfl
theorem FB(i:Nat):2^(32*i)=4294967296^i:=by rw[Nat.pow_mul]
theorem zV(m:Nat):dK (aB m)=LM m:=by
 unfold dK LM cC
 congr 1
 refine List.map_congr_left fun i _=>?_
 rw[gC]
 unfold bu
 rw[FB]
theorem cd(x:Int):ah x=.st [.bool false,.bool (decide (x<0)),LM x.natAbs]:=by unfold ah;rw[zV]
theorem wV(a b c:Nat)(h:a*b=c):((2:Nat)^a)^b=2^c:=by rw[<-Nat.pow_mul,h]
theorem rR:(65536:Nat)^32=eD:=(wV 16 32 (32*16) rfl).trans ((dj 16).symm.trans fM.symm)
def under(X k:Nat):Prop:=X<2^(32*k)
theorem yb{X k:Nat}(hk:k=16)(h:X<eD):under X k:=by subst hk;unfold under;rw[uW];exact h
theorem wW{X k:Nat}(hk:k<=16)(h:X<2^(32*k)):X<eD:=by
 rw[<-dj] at h
 rw[fM]
 exact Nat.lt_of_lt_of_le h (lP hk)
theorem bC{x:Int}:In x↔x.natAbs<eD:=by unfold In;rw[rR]
def Ge:D:=.st [.bool true,.bool false,LM 0]
def eM:Option Int->D
 | some x=>ah x
 | none=>Ge
def Au(a:Option Int):Prop:=∀ x,a=some x->In x
noncomputable def lO(x:Int):Option Int:=if x.natAbs<eD then some x else none
theorem er{x:Int}(h:In x):lO x=some x:=by unfold lO;rw[if_pos (bC.1 h)]
theorem Au.some{x:Int}(h:Au (some x)):In x:=h x rfl
theorem cT{x:Int}(h:In x):Au (some x):=fun y e=>by cases e;exact h
abbrev W(n:Int):D:=.int .u64 n
theorem AZ{k:IntKind}{a:Int}(h0:0<=a)(h:a<18446744073709551616):D.conv .u64 (.int k a)=some (W a):=by simp only[D.conv,di ⟨h0,h⟩]
theorem pv{a b:Int}(h0:0<=a+b)(h:a+b<18446744073709551616):D.bin .add (W a) (W b)=some (W (a+b)):=by simp only[D.bin,if_true,di ⟨h0,h⟩]
theorem pu(a b:Int):D.bin .sub (W a) (W b)=some (W (IntKind.u64.wrap (a-b))):=by simp only[D.bin,if_true]
theorem Fe{a b:Int}(h0:0<=a*b)(h:a*b<18446744073709551616):D.bin .mul (W a) (W b)=some (W (a*b)):=by simp only[D.bin,if_true,di ⟨h0,h⟩]
theorem gv(a:Int):D.conv .u32 (W a)=some (.int .u32 (a%4294967296)):=by
 simp only[D.conv];rfl
theorem qZ{a:Int}(h:0<=a):D.bin .shr (W a) (.int .u64 32)=some (W (a/4294967296)):=by
 simp only[D.bin]
 rw[if_neg (by decide),Int.fdiv_eq_ediv_of_nonneg _ (by decide)];rfl
theorem um{a:Int}:D.bin .shr (W a) (.int .u64 63)=some (W (a/9223372036854775808)):=by
 simp only[D.bin]
 rw[if_neg (by decide),Int.fdiv_eq_ediv_of_nonneg _ (by decide)];rfl
theorem eG{i n:Nat}(h:i<n):D.idx (I (i:Int)) n=some i:=au h
theorem et(X k:Nat):D.conv .u64 (.int .u32 (bu X k))=some (W (bu X k)):=AZ (cj X k) (by have:=qB X k;omega)
theorem pb{Z k:Nat}(hk:k<16):D.set (LM (Z%2^(32*k))) [k] (.int .u32 (bu Z k))=some (LM (Z%2^(32*(k+1)))):=
 kH hk fun j hj=>by
  rw[iz,iz]
  by_cases e:j=k
  ·subst e;simp
  ·rw[if_neg e]
   by_cases h:j<k
   ·rw[if_pos h,if_pos (by omega)]
   ·rw[if_neg h,if_neg (by omega)]
theorem oZ(Z:Nat):LM (Z%2^(32*0))=LM 0:=by simp[Nat.mod_one]
theorem EF(Z k:Nat)(hk:k=16):LM (Z%2^(32*k))=LM Z:=de fun j hj=>by rw[iz,if_pos (by omega)]
theorem mX(Z:Nat):LM (Z%2^(32*16))=LM Z:=EF Z 16 rfl
theorem GR(n:Nat){a:Option Int}(ha:Au a):cA (n+1) 167 [eM a]=some (.bool true):=by
 rw[Ke]
 unfold Ee
 cases a with
 | none=>
  refine aa (z:=LM 0) rfl (aa (z:=.bool true) rfl (aa (z:=true) rfl ?_))
  rw[if_pos rfl,ik,ls fm fm,decide_eq_true rfl]
  rfl
 | some x=>
  have hx:=bC.1 ha.some
  simp only[eM,cd]
  refine aa (z:=LM x.natAbs) rfl (aa (z:=.bool false) rfl (aa (z:=false) rfl ?_))
  rw[if_neg (by decide),ik,ls hx fm]
  refine aa cK (aa af ?_)
  by_cases h:x.natAbs=0
  ·rw[decide_eq_true h]
   have:decide (x<0)=false:=decide_eq_false (by omega)
   rw[this];rfl
  ·rw[decide_eq_false h];rfl
theorem Hy(n:Nat){l:List (Option Int)}(hl:l.length<=1000)(h:∀ a∈l,Au a):cA (n+2) 118 [.sl (l.map eM)]=some (.bool (l.all Option.isSome)):=by
 rw[KR]
 unfold Dc
 refine aa (z:=l.map eM) rfl ?_
 refine aW (fun i s=>s=[I (i:Int)]/\(l.take i).all Option.isSome=true) l.length 0 (Nat.zero_le _) ⟨rfl,rfl⟩ (fun i hi s hJ=>?_) (fun s hJ=>?_)
 ·obtain⟨rfl,ht⟩:=hJ
  have hg:(l.map eM)[i]?=some (eM l[i]):=by simp[hi]
  have hb:D.bin .lss (I (i:Int)) (D.int .i64 (l.map eM).length)=some (.bool true):=by
   rw[ag,decide_eq_true (by rw[List.length_map];omega)]
  have hix:D.idx (I (i:Int)) (l.map eM).length=some i:=au (by rw[List.length_map];exact hi)
  have hin:=h l[i] (List.getElem_mem hi)
  cases ha:l[i] with
  | none=>
   right
   refine⟨(0,[.bool false]),?_,?_⟩
   ·refine aa hb (aa (z:=true) rfl ?_)
    rw[if_pos rfl]
    refine aa (z:=l.map eM) rfl (aa hix (aa hg ?_))
    rw[ha]
    exact aa (z:=.bool true) rfl (aa (z:=true) rfl (aa (z:=true) rfl (aa (z:=true) rfl rfl)))
   ·have:l.all Option.isSome=false:=by
     rw[Bool.eq_false_iff]
     intro hall
     have:=List.all_eq_true.1 hall l[i] (List.getElem_mem hi)
     rw[ha] at this;cases this
    rw[this];rfl
  | some x=>
   left
   refine⟨[I ((i+1:Nat):Int)],?_,rfl,?_⟩
   ·refine aa hb (aa (z:=true) rfl ?_)
    rw[if_pos rfl]
    refine aa (z:=l.map eM) rfl (aa hix (aa hg ?_))
    rw[ha] at hin ⊢
    refine aa (z:=.bool false) rfl (aa (z:=false) rfl (aa (z:=false) ?_ (aa (z:=false) rfl ?_)))
    ·rw[if_neg (by decide)];exact aa (GR n hin) rfl
    ·rw[if_neg (by decide)];exact aa (aq (aC (i:=i) (by omega))) rfl
   ·rw[List.take_succ_eq_append_getElem hi,List.all_append,ht,ha];rfl
 ·obtain⟨rfl,ht⟩:=hJ
  rw[List.take_length] at ht
  refine⟨(1,[]),?_,?_⟩
  ·have hb:D.bin .lss (I (l.length:Int)) (D.int .i64 (l.map eM).length)=some (.bool false):=by
    rw[ag,decide_eq_false (by rw[List.length_map];omega)]
   exact aa hb (aa (z:=false) rfl rfl)
  ·rw[ht];rfl
theorem qA(n:Nat){a:Option Int}(ha:Au a):cA (n+2) 118 [.sl [eM a]]=some (.bool a.isSome):=by
 have:=Hy n (l:=[a]) (by simp) (fun b hb=>by rw[List.mem_singleton.1 hb];exact ha)
 simpa using this
theorem uB(n:Nat){a b:Option Int}(ha:Au a)(hb:Au b):cA (n+2) 118 [.sl [eM a,eM b]]=some (.bool (a.isSome&&b.isSome)):=by
 have:=Hy n (l:=[a,b]) (by simp) (fun c hc=>by
  simp only[List.mem_cons,List.not_mem_nil,or_false] at hc
  rcases hc with rfl|rfl
  ·exact ha
  ·exact hb)
 simpa using this
theorem Cg(n:Nat):cA (n+1) 119 []=some Ge:=by
 rw[J6];unfold Dv;rw[fg];rfl
theorem oI(neg:Bool)(m:Nat):decide (sgn neg m<0)=(neg&&!(decide (m=0))):=by
 unfold sgn
 cases neg<;>by_cases h:m=0<;>simp[h]<;>omega
theorem mQ(neg:Bool)(m:Nat):(sgn neg m).natAbs=m:=by unfold sgn;cases neg<;>simp
theorem tv(n:Nat)(neg:Bool){m:Nat}(h:m<eD):cA (n+1) 116 [.bool neg,LM m]=some (ah (sgn neg m)):=by
 rw[Mi]
 unfold Dn
 rw[ik,ls h fm,cd,oI,mQ]
 refine aa (z:=neg) rfl (aa (z:=neg&&!(decide (m=0))) ?_ rfl)
 cases neg<;>rfl
theorem JJ(n:Nat){X Y:Nat}(hX:X<eD)(hY:Y<eD):cA (n+1) 120 [LM X,LM Y]=some (.tup [LM (X+Y),.bool (decide (X+Y<eD))]):=by
 rw[LO]
 unfold Dr
 rw[fg]
 refine aW (fun k s=>s=[W (eR X Y k:Nat),I (k:Int),LM ((X+Y)%2^(32*k))]) 16 0 (Nat.zero_le _) (by rw[ou,oZ];rfl) (fun k hk s hJ=>?_) (fun s hJ=>?_)
 ·subst hJ
  left
  refine⟨_,?_,rfl⟩
  have hc:=kr X Y k
  have x0:=cj X k;have x1:=qB X k
  have y0:=cj Y k;have y1:=qB Y k
  refine aa ag (aa af (aH (by show(k:Int)<16;omega) ?_))
  refine aa (eG hk) (aa (bc _ hk) (aa (et X k) (aa (eG hk) (aa (bc _ hk) (aa (et Y k) ?_)))))
  refine aa (pv (by omega) (by omega)) (aa (pv (by omega) (by omega)) (aa (gv _) (aa (eG hk) ?_)))
  rw[<-yh]
  refine aa (pb hk) (aa (qZ (by omega)) ?_)
  rw[<-oH]
  exact aa (aq (aC (i:=k) (by omega))) rfl
 ·subst hJ
  refine⟨_,aa ag (aa af (aJ (by decide) rfl)),?_⟩
  rw[mX,zv hX hY]
  by_cases h:X+Y<eD
  ·rw[if_pos h,decide_eq_true h];rfl
  ·rw[if_neg h,decide_eq_false h];rfl
theorem G9(n:Nat)(a:Int):cA (n+1) 194 [.int .u32 a]=some (.bool false):=by
 rw[Jk];simp[El,D.beq]
theorem KF(n:Nat)(a b:Int):cA (n+2) 168 [.int .u32 a,.int .u32 b]=some (I (bZ a b)):=by
 rw[L8]
 unfold DE
 refine aa (G9 n a) (aa (G9 n b) (aa (z:=false) rfl ?_))
 rw[if_neg (by decide)]
 refine aa (z:=false) rfl ?_
 rw[if_neg (by decide)]
 refine aa (z:=.bool (decide (a<b))) (by simp only[D.bin,if_true]) (aa af ?_)
 unfold bZ
 by_cases h:a<b
 ·rw[if_pos h];exact aH h rfl
 ·rw[if_neg h]
  refine aJ h (aa (z:=.bool (decide (a>b))) (by simp only[D.bin,if_true]) (aa af ?_))
  by_cases h2:a>b
  ·rw[if_pos h2];exact aH h2 rfl
  ·rw[if_neg h2];exact aJ h2 rfl
theorem GL(n:Nat){X Y:Nat}(hX:X<eD)(hY:Y<eD):cA (n+3) 121 [LM X,LM Y]=some (I (bZ X Y)):=by
 rw[JV]
 unfold Ei
 refine aW (fun t s=>s=[I (15-(t:Int))]/\iI X Y (16-t)) 16 0 (Nat.zero_le _) ⟨rfl,Ah hX hY⟩ (fun t ht s hJ=>?_) (fun s hJ=>?_)
 ·obtain⟨rfl,he⟩:=hJ
  obtain⟨k,hk⟩:∃ k,k=15-t:=⟨_,rfl⟩
  have hk16:k<16:=by omega
  have e1:(15-(t:Int))=(k:Int):=by omega
  rw[show 16-t=k+1 by omega] at he
  rw[e1]
  have hix:D.idx (I (k:Int)) 16=some k:=eG hk16
  have hb:D.bin .geq (I (k:Int)) (D.int .i64 0)=some (.bool true):=by rw[io,decide_eq_true (by omega)]
  by_cases hd:bu X k=bu Y k
  ·left
   refine⟨[I ((k:Int)-1)],?_,?_,?_⟩
   ·refine aa hb (aa (z:=true) rfl ?_)
    rw[if_pos rfl]
    refine aa hix (aa (bc _ hk16) (aa hix (aa (bc _ hk16) (aa (z:=false) ?_ ?_))))
    ·rw[hd];simp[D.beq,D.truth]
    ·rw[if_neg (by decide)];exact aa (dq (by simp only[inR];omega)) rfl
   ·congr 2;omega
   ·rw[show 16-(t+1)=k by omega];exact vS he hd
  ·right
   refine⟨(0,[I (bZ (bu X k) (bu Y k))]),?_,?_⟩
   ·refine aa hb (aa (z:=true) rfl ?_)
    rw[if_pos rfl]
    refine aa hix (aa (bc _ hk16) (aa hix (aa (bc _ hk16) (aa (z:=true) ?_ ?_))))
    ·simp[D.beq,D.truth,hd]
    ·rw[if_pos rfl]
     exact aa hix (aa (bc _ hk16) (aa hix (aa (bc _ hk16) (aa (KF n _ _) rfl))))
   ·have hs:=wn he hd
    rw[if_pos rfl]
    show some (I (bZ (bu X k) (bu Y k)))=_
    congr 2
    unfold Go.Proofs.YtjjjkojfijpeeaaGreat.sgn at hs
    unfold bZ
    repeat' split at hs
    all_goals (repeat' split)<;>omega
 ·obtain⟨rfl,he⟩:=hJ
  refine⟨(1,[]),aa io (aa af (aJ (by decide) rfl)),?_⟩
  rw[if_neg (by decide)]
  have hs:=AE he
  congr 2
  unfold Go.Proofs.YtjjjkojfijpeeaaGreat.sgn at hs
  unfold bZ
  repeat' split at hs
  all_goals (repeat' split)<;>omega
theorem HW(n:Nat){X Y:Nat}(hX:X<eD)(h:Y<=X):cA (n+1) 122 [LM X,LM Y]=some (LM (X-Y)):=by
 rw[LI]
 unfold DK
 rw[fg]
 refine aW (fun k s=>s=[W (bI X Y k:Nat),I (k:Int),LM ((X-Y)%2^(32*k))]) 16 0 (Nat.zero_le _) (by rw[mT,oZ];rfl) (fun k hk s hJ=>?_) (fun s hJ=>?_)
 ·subst hJ
  left
  refine⟨_,?_,rfl⟩
  have hc:=qW X Y k
  obtain⟨q1,q2⟩:=ot (bu X k) (bu Y k) (bI X Y k) (cj X k) (lj X k) (cj Y k) (lj Y k) hc
  refine aa ag (aa af (aH (by show(k:Int)<16;omega) ?_))
  refine aa (eG hk) (aa (bc _ hk) (aa (et X k) (aa (eG hk) (aa (bc _ hk) (aa (et Y k) ?_)))))
  refine aa (pu _ _) (aa (pu _ _) (aa (gv _) (aa (eG hk) ?_)))
  rw[q2,<-yC h]
  refine aa (pb hk) (aa um ?_)
  rw[q1,<-mw]
  exact aa (aq (aC (i:=k) (by omega))) rfl
 ·subst hJ
  refine⟨_,aa ag (aa af (aJ (by decide) rfl)),?_⟩
  rw[mX];rfl
theorem xz(n:Nat){X:Nat}(hX:X<eD):cA (n+1) 127 [LM X]=some (I (cN X:Nat)):=by
 rw[Lc]
 unfold C0
 refine aW (fun t s=>s=[I ((16-t:Nat):Int)]/\cN X=fN X (16-t)/\under X (16-t)) 16 0 (Nat.zero_le _) ⟨rfl,rfl,yb rfl hX⟩ (fun t ht s hJ=>?_) (fun s hJ=>?_)
 ·obtain⟨rfl,he,hlt⟩:=hJ
  obtain⟨k,hk⟩:∃ k,k=15-t:=⟨_,rfl⟩
  rw[show 16-t=k+1 by omega] at he hlt ⊢
  have hk16:k<16:=by omega
  have hsub:D.bin .sub (I ((k+1:Nat):Int)) (D.int .i64 1)=some (I (k:Int)):=by
   rw[show(D.int .i64 1)=I 1 from rfl,dq (by simp only[inR];omega)];congr 2;omega
  have hb:D.bin .gtr (I ((k+1:Nat):Int)) (D.int .i64 0)=some (.bool true):=by rw[dL,decide_eq_true (by omega)]
  have hz:=ua (show X<2^(32*(k+1)) from hlt)
  have hbq:D.beq (.int .u32 (bu X k)) (.int .u32 0)=decide (X<2^(32*k)):=by
   simp[D.beq,hz]
  by_cases hs:X<2^(32*k)
  ·left
   refine⟨[I ((16-(t+1):Nat):Int)],?_,rfl,?_,?_⟩
   ·refine aa hb (aa (z:=true) rfl (aa (z:=true) ?_ (aa (z:=true) rfl ?_)))
    ·rw[if_pos rfl]
     refine aa hsub (aa (eG hk16) (aa (bc _ hk16) ?_))
     rw[hbq,decide_eq_true hs];rfl
    ·rw[if_pos rfl,show 16-(t+1)=k by omega]
     exact aa hsub rfl
   ·rw[show 16-(t+1)=k by omega,he,fN,if_neg (by omega)]
   ·rw[show 16-(t+1)=k by omega];exact hs
  ·right
   refine⟨(0,[I ((k+1:Nat):Int)]),?_,?_⟩
   ·refine aa hb (aa (z:=true) rfl (aa (z:=false) ?_ (aa (z:=false) rfl rfl)))
    rw[if_pos rfl]
    refine aa hsub (aa (eG hk16) (aa (bc _ hk16) ?_))
    rw[hbq,decide_eq_false hs];rfl
   ·rw[he,fN,if_pos (by omega)];rfl
 ·obtain⟨rfl,he,_⟩:=hJ
  refine⟨(0,[I 0]),aa dL (aa af (aa (z:=false) (aJ (by decide) rfl) (aa (z:=false) rfl rfl))),?_⟩
  rw[he];rfl
noncomputable def Gp:Option Int->Option Int->Option Int
 | some x,some y=>lO (x+y)
 | _,_=>none
theorem nj{a b:Option Int}:(a.isSome&&b.isSome)=false\/∃ x y,a=some x/\b=some y:=by
 cases a<;>cases b<;>simp
theorem fS{neg:Bool}{m:Nat}{z:Int}(hz:sgn neg m=z)(h:m<eD):eM (lO z)=ah (sgn neg m):=by
 have:z.natAbs=m:=by rw[<-hz,mQ]
 unfold lO
 rw[if_pos (by rw[this];exact h),<-hz];rfl
theorem Oe(n:Nat){a b:Option Int}(ha:Au a)(hb:Au b):cA (n+4) 57 [eM a,eM b]=some (eM (Gp a b)):=by
 rw[Pb]
 unfold IM
 refine aa (uB (n+1) ha hb) (aa cK (aa af ?_))
 rcases nj (a:=a) (b:=b) with h|⟨x,y,rfl,rfl⟩
 ·rw[h,if_pos (by decide)]
  refine aa (Cg (n+2)) ?_
  cases a<;>cases b<;>simp at h<;>rfl
 rw[if_neg (by simp)]
 have hx:=bC.1 ha.some
 have hy:=bC.1 hb.some
 rw[show eM (some x)=_ from cd x,show eM (some y)=_ from cd y,show Gp (some x) (some y)=lO (x+y) from rfl]
 refine aa (z:=.bool (decide (x<0))) rfl (aa (z:=.bool (decide (y<0))) rfl (aa (z:=decide (decide (x<0)=decide (y<0))) (by simp[D.beq,D.truth]) ?_))
 by_cases hs:decide (x<0)=decide (y<0)
 ·refine aH hs ?_
  refine aa (z:=LM x.natAbs) rfl (aa (z:=LM y.natAbs) rfl (aa (JJ (n+2) hx hy) (aa (z:=LM (x.natAbs+y.natAbs)) rfl (aa (z:=.bool (decide (x.natAbs+y.natAbs<eD))) rfl (aa cK (aa af ?_))))))
  have habs:(x+y).natAbs=x.natAbs+y.natAbs:=by
   rw[decide_eq_decide] at hs;omega
  by_cases ht:x.natAbs+y.natAbs<eD
  ·rw[decide_eq_true ht,if_neg (by decide)]
   rw[fS (neg:=decide (x<0)) (z:=x+y) (by unfold sgn;rw[decide_eq_decide] at hs;simp only[decide_eq_true_eq];split<;>omega) ht]
   exact aa (z:=.bool (decide (x<0))) rfl (aa (tv (n+2) _ ht) rfl)
  ·rw[decide_eq_false ht,if_pos (by decide)]
   refine aa (Cg (n+2)) ?_
   unfold lO
   rw[if_neg (by rw[habs];exact ht)];rfl
 ·refine aJ hs ?_
  refine aa (z:=LM x.natAbs) rfl (aa (z:=LM y.natAbs) rfl (aa (GL n hx hy) (aa io (aa af ?_))))
  have hs':¬ (x<0↔y<0):=fun e=>hs (by rw[decide_eq_decide];exact e)
  by_cases hge:y.natAbs<=x.natAbs
  ·refine aH (by unfold bZ;split<;>(try split)<;>omega) ?_
   refine aa (z:=.bool (decide (x<0))) rfl (aa (z:=LM x.natAbs) rfl (aa (z:=LM y.natAbs) rfl (aa (HW (n+2) hx hge) (aa (tv (n+2) _ (Nat.lt_of_le_of_lt (Nat.sub_le _ _) hx)) ?_))))
   rw[fS (neg:=decide (x<0)) (m:=x.natAbs-y.natAbs) (z:=x+y) (by unfold sgn;simp only[decide_eq_true_eq];split<;>omega) (Nat.lt_of_le_of_lt (Nat.sub_le _ _) hx)]
  ·refine aJ (by unfold bZ;split<;>(try split)<;>omega) ?_
   refine aa (z:=.bool (decide (y<0))) rfl (aa (z:=LM y.natAbs) rfl (aa (z:=LM x.natAbs) rfl (aa (HW (n+2) hy (by omega)) (aa (tv (n+2) _ (Nat.lt_of_le_of_lt (Nat.sub_le _ _) hy)) ?_))))
   rw[fS (neg:=decide (y<0)) (m:=y.natAbs-x.natAbs) (z:=x+y) (by unfold sgn;simp only[decide_eq_true_eq];split<;>omega) (Nat.lt_of_le_of_lt (Nat.sub_le _ _) hy)]
theorem Pz(n:Nat){a:Option Int}(ha:Au a):cA (n+3) 68 [eM a]=some (eM (a.map (fun x=>-x))):=by
 rw[OS]
 unfold Il
 refine aa (qA n ha) (aa cK (aa af ?_))
 cases a with
 | none=>rw[if_pos (by decide)];exact aa (Cg (n+1)) rfl
 | some x=>
  rw[if_neg (by simp)]
  have hx:=bC.1 ha.some
  rw[show eM (some x)=_ from cd x]
  show _=some (ah (-x))
  refine aa (z:=.bool (decide (x<0))) rfl (aa cK (aa (z:=LM x.natAbs) rfl (aa (tv (n+1) _ hx) ?_)))
  rw[cd,oI,mQ]
  rw[cd,Int.natAbs_neg,show((!(decide (x<0)))&&!(decide (x.natAbs=0)))=decide (-x<0) by rw[Bool.eq_iff_iff];simp;omega]
theorem GA(n:Nat){x:Int}(hx:In x):cA (n+3) 129 [ah x]=some (I (sg x)):=by
 rw[MF]
 unfold EY
 have h118:=qA n (cT hx)
 have hx:=bC.1 hx
 refine aa h118 (aa cK (aa (z:=false) rfl (aa (z:=decide (x=0)) ?_ (aa af ?_))))
 ·rw[if_neg (by decide),cd]
  refine aa (z:=LM x.natAbs) rfl ?_
  rw[ik,ls hx fm,af]
  congr 1;rw[decide_eq_decide];omega
 ·by_cases h0:x=0
  ·refine aH h0 ?_
   subst h0;rfl
  ·refine aJ h0 (aa (z:=.bool (decide (x<0))) rfl (aa af ?_))
   by_cases h1:x<0
   ·refine aH h1 ?_
    rw[tB h1]
   ·refine aJ h1 ?_
    rw[j6 (by omega)]
theorem BQ(n:Nat){x:Int}(hx:inR x):cA (n+2) 54 [I x]=some (ah x):=by
 rw[NF]
 unfold H6
 obtain⟨h1,h2⟩:=hx
 have key:∀ m:Nat,m<18446744073709551616->D.st (D.putParts (List.replicate 16 (D.int .u32 0)) [(0,.int .u32 ((m:Int)%4294967296)),(1,.int .u32 ((m:Int)/4294967296%4294967296))])=LM m:=fun m hm=>by
  have e:LM m=cC 16 (fun j=>if j=0 then(m:Int)%4294967296 else if j=1 then(m:Int)/4294967296%4294967296 else 0):=de fun j hj=>by
   match j with
   | 0=>simp[bu]
   | 1=>simp[bu]
   | j+2=>
    rw[if_neg (by omega),if_neg (by omega)]
    exact fr (n:=2) (by simpa using hm) (by omega)
  rw[e];rfl
 have w1:IntKind.u64.wrap x=if x<0 then x+18446744073709551616 else x:=by
  have:IntKind.u64.wrap x=x%18446744073709551616:=rfl
  rw[this];split<;>omega
 have hc:D.conv .u64 (I x)=some (W (if x<0 then x+18446744073709551616 else x)):=by simp only[D.conv,w1]
 refine aa hc ?_
 have habs:x.natAbs<18446744073709551616:=by omega
 refine aa (z:=(0,[W (x.natAbs:Nat)])) ?_ ?_
 ·refine aa ag (aa af ?_)
  by_cases h:x<0
  ·refine aH h ?_
   rw[if_pos h]
   have:D.un .neg (W (x+18446744073709551616))=some (W (x.natAbs:Nat)):=by
    simp only[D.un]
    have:IntKind.u64.wrap (0-(x+18446744073709551616))=(0-(x+18446744073709551616))%18446744073709551616:=rfl
    rw[this];congr 2;omega
   exact aa this rfl
  ·refine aJ h ?_
   rw[if_neg h];congr 4;omega
 ·refine aa ag (aa (gv _) (aa (qZ (by show(0:Int)<=(x.natAbs:Nat);omega)) (aa (gv _) ?_)))
  have e:=key x.natAbs habs
  refine aa (z:=ah x) ?_ rfl
  show cA (n+1) 116 [.bool (decide (x<0)),D.st (D.putParts (List.replicate 16 (D.int .u32 0)) [(0,.int .u32 (((x.natAbs:Nat):Int)%4294967296)),(1,.int .u32 (((x.natAbs:Nat):Int)/4294967296%4294967296))])]=_
  rw[e,tv n _ (t7 habs)]
  congr 1
  congr 1
  unfold sgn;simp only[decide_eq_true_eq];split<;>omega
end Go.Proofs.YtjjjkojfijpeeaaGreat.Sy
end
section
set_option linter.unusedVariables false
namespace Go.Proofs.YtjjjkojfijpeeaaGreat.Sy
open Go Go.Proofs Go.Proofs.YtjjjkojfijpeeaaGreat.Geo
theorem zC(A B i k n:Nat)(hn:i+k<n):D.set (cC n (uo A B i k)) [i+k] (.int .u32 (((nk A B i k:Nat)+(bu A i*bu B k+bu (fe A B i) (i+k)))%4294967296))=some (cC n (uo A B i (k+1))):=by
 refine kH hn fun j hj=>?_
 unfold uo rC
 by_cases h:j=i+k
 ·subst h;rw[if_pos (by omega),if_pos rfl,Cz]
 ·rw[if_neg h]
  by_cases h2:j<i+k
  ·rw[if_pos (by omega),if_pos h2,sJ,jE _ _ _ _ h2]
  ·rw[if_neg (by omega),if_neg h2]
theorem zy{A B i m n:Nat}(hB:B<2^(32*m))(hn:i+m<n):D.set (cC n (uo A B i m)) [i+m] (.int .u32 (nk A B i m:Nat))=some (cC n (bu (fe A B (i+1)))):=by
 have hz:=zb (A:=A) (i:=i) hB
 have hv:lu A B i m<2^(32*(i+m+1)):=by rw[<-td hB];have:=zb (A:=A) (i:=i+1) hB;rwa [show i+1+m=i+m+1 from by omega] at this
 refine kH hn fun j hj=>?_
 rw[td hB]
 unfold uo rC
 by_cases h:j=i+m
 ·subst h
  rw[if_pos rfl,cL]
  have h1:=ul A B i m
  rw[Nat.div_eq_of_lt hz,Nat.add_zero] at h1
  rw[<-h1,Nat.mod_eq_of_lt (Nat.lt_of_le_of_lt (uA A B i m) (by omega))]
 ·rw[if_neg h]
  by_cases h2:j<i+m
  ·rw[if_pos h2]
  ·rw[if_neg h2,fr hv (by omega),fr hz (by omega)]
theorem qH{n a c:Nat}(f:Nat->Int)(h:a+c<=n):D.st (List.take c (List.drop a ((List.range n).map fun i=>D.int .u32 (f i))))=cC c (fun j=>f (a+j)):=by
 unfold cC
 congr 1
 apply List.ext_getElem?
 intro j
 by_cases hj:j<c
 ·rw[List.getElem?_take_of_lt hj,List.getElem?_drop]
  simp[hj,show a+j<n by omega]
 ·rw[List.getElem?_eq_none (by simp;omega),List.getElem?_eq_none (by simp;omega)]
theorem vX:az wY=cC 32 (bu 0):=by
 have:cC 32 (bu 0)=cC 32 (fun _=>0):=de fun i _=>mY i
 rw[this];rfl
theorem DH{a b:Int}(ha0:0<=a)(ha:a<=4294967295)(hb0:0<=b)(hb:b<=4294967295):0<=a*b/\a*b<=18446744065119617025:=by
 refine⟨Int.mul_nonneg ha0 hb0,?_⟩
 have h1:a*b<=4294967295*b:=Int.mul_le_mul_of_nonneg_right ha hb0
 omega
noncomputable def FE:Option Int->Option Int->Option Int
 | some x,some y=>lO (x*y)
 | _,_=>none
theorem Nz(n:Nat){a b:Option Int}(ha:Au a)(hb:Au b):cA (n+3) 61 [eM a,eM b]=some (eM (FE a b)):=by
 rw[OV]
 unfold IK
 refine aa (uB n ha hb) (aa cK (aa af ?_))
 rcases nj (a:=a) (b:=b) with h|⟨x,y,rfl,rfl⟩
 ·rw[h,if_pos (by decide)]
  refine aa (Cg (n+1)) ?_
  cases a<;>cases b<;>simp at h<;>rfl
 rw[if_neg (by simp)]
 have hx:=bC.1 ha.some
 have hy:=bC.1 hb.some
 rw[show eM (some x)=_ from cd x,show eM (some y)=_ from cd y,show FE (some x) (some y)=lO (x*y) from rfl]
 generalize hX:x.natAbs=X at *
 generalize hY:y.natAbs=Y at *
 have n1:=iS X;have n2:=iS Y
 have s1:=dO hx;have s2:=dO hy
 refine aa (z:=LM X) rfl (aa (xz (n+1) hx) (aa (z:=LM Y) rfl (aa (xz (n+1) hy) ?_)))
 generalize cN X=p at *
 generalize cN Y=m at *
 rw[vX]
 refine aW (fun i s=>s=[I (i:Int),cC 32 (bu (fe X Y i))]) p 0 (Nat.zero_le _) (by rw[Ao];rfl) (fun i hi s hJ=>?_) (fun s hJ=>?_)
 ·subst hJ
  left
  refine⟨[I ((i+1:Nat):Int),cC 32 (bu (fe X Y (i+1)))],?_,rfl⟩
  refine aa ag (aa af (aH (by show(i:Int)<(p:Int);omega) ?_))
  refine cn (fun k s=>s=[W (nk X Y i k:Nat),I (k:Int),cC 32 (uo X Y i k)]) m 0 (Nat.zero_le _) (by rw[sN,zr];rfl) (fun k hk s hJ=>?_) (fun s hJ=>?_)
  ·subst hJ
   left
   refine⟨_,?_,rfl⟩
   have hi16:i<16:=by omega
   have hk16:k<16:=by omega
   have hik:i+k<32:=by omega
   have a0:=cj X i;have a1:=lj X i
   have b0:=cj Y k;have b1:=lj Y k
   have z0:=cj (fe X Y i) (i+k);have z1:=lj (fe X Y i) (i+k)
   have hc:=uA X Y i k
   obtain⟨q0,q1⟩:=DH a0 a1 b0 b1
   refine aa ag (aa af (aH (by show(k:Int)<(m:Int);omega) ?_))
   refine aa (eG hi16) (aa (bc _ hi16) (aa (et X i) (aa (eG hk16) (aa (bc _ hk16) (aa (et Y k) ?_)))))
   refine aa (Fe q0 (by omega)) (aa (aS (a:=i) (b:=k) (by omega)) (aa (au hik) (aa (bc _ hik) ?_)))
   rw[Ay]
   refine aa (et _ _) (aa (pv (by omega) (by omega)) (aa (pv (by omega) (by omega)) (aa (aS (a:=i) (b:=k) (by omega)) (aa (gv _) (aa (au hik) (aa (zC X Y i k 32 hik) (aa (qZ (by omega)) ?_)))))))
   rw[<-zK]
   exact aa (aq (aC (i:=k) (by omega))) rfl
  ·subst hJ
   refine⟨_,aa ag (aa af (aJ (by show ¬ ((m:Int)<(m:Int));omega) rfl)),?_⟩
   have him:i+m<32:=by omega
   have hc:=uA X Y i m
   refine aa (aS (a:=i) (b:=m) (by omega)) (aa (gv _) (aa (au him) ?_))
   rw[Int.emod_eq_of_lt (by omega) (by omega)]
   exact aa (zy s2 him) (aa (aq (aC (i:=i) (by omega))) rfl)
 ·subst hJ
  refine⟨(0,[cC 32 (bu (X*Y))]),?_,?_⟩
  ·rw[A9 s1]
   exact aa ag (aa af (aJ (by show ¬ ((p:Int)<(p:Int));omega) rfl))
  have hpos:=fm
  have hq:X*Y/eD<eD:=Nat.div_lt_of_lt_mul (Nat.mul_lt_mul'' hx hy)
  have hhi:D.st (List.take 16 (List.drop 16 ((List.range 32).map fun i=>D.int .u32 (bu (X*Y) i))))=LM (X*Y/eD):=by
   rw[qH _ (by omega)]
   exact de fun j _=>by rw[fM,u6]
  have hlo:D.st (List.take 16 (List.drop 0 ((List.range 32).map fun i=>D.int .u32 (bu (X*Y) i))))=LM (X*Y):=by
   rw[qH _ (by omega)]
   exact de fun j _=>by rw[Nat.zero_add]
  show(if decide (16+16<=((List.range 32).map fun i=>D.int .u32 (bu (X*Y) i)).length)=true then _ else none)=_
  rw[if_pos (by simp),hhi,ik,ls hq hpos]
  have habs:(x*y).natAbs=X*Y:=by rw[Int.natAbs_mul,hX,hY]
  by_cases ht:X*Y<eD
  ·rw[Nat.div_eq_of_lt ht,decide_eq_true rfl]
   refine aa (z:=false) rfl ?_
   rw[if_neg (by decide)]
   refine aa (z:=.bool (decide (x<0))) rfl (aa (z:=.bool (decide (y<0))) rfl ?_)
   show(if decide (0+16<=((List.range 32).map fun i=>D.int .u32 (bu (X*Y) i)).length)=true then _ else none)=_
   rw[if_pos (by simp),hlo]
   have hsg:=tK x y
   rw[hX,hY] at hsg
   rw[fS hsg ht]
   refine aa (z:=ah (sgn (!(decide (decide (x<0)=decide (y<0)))) (X*Y))) ?_ rfl
   rw[<-tv (n+1) _ ht]
   congr 4
  ·rw[decide_eq_false (fun e=>ht (by have:=Nat.div_eq_zero_iff.1 e;omega))]
   refine aa (z:=true) rfl ?_
   rw[if_pos rfl]
   refine aa (Cg (n+1)) ?_
   unfold lO
   rw[habs,if_neg ht];rfl
end Go.Proofs.YtjjjkojfijpeeaaGreat.Sy
end
section
set_option linter.unusedVariables false
namespace Go.Proofs.YtjjjkojfijpeeaaGreat.Sy
open Go Go.Proofs Go.Proofs.YtjjjkojfijpeeaaGreat.Geo
def iV(x:Nat):Nat:=if x=0 then 0 else Nat.log2 x+1
theorem C3{x L:Nat}(h1:2^L<=x)(h2:x<2^(L+1)):iV x=L+1:=by
 have hx:x≠0:=fun e=>by have:=Nat.two_pow_pos L;omega
 unfold iV
 rw[if_neg hx]
 have a:=(Nat.le_log2 hx).2 h1
 have b:=(Nat.log2_lt hx).2 h2
 omega
theorem gF{x:Nat}(hx:x≠0):∃ L,iV x=L+1/\2^L<=x/\x<2^(L+1):=by
 refine⟨Nat.log2 x,by unfold iV;rw[if_neg hx],(Nat.le_log2 hx).1 (Nat.le_refl _),(Nat.log2_lt hx).1 (Nat.lt_succ_self _)⟩
theorem qU{x m:Nat}(h:2^m<=x):iV x=m+iV (x/2^m):=by
 have hq:x/2^m≠0:=fun e=>by
  have:=Nat.div_eq_zero_iff.1 e
  have:=Nat.two_pow_pos m
  omega
 obtain⟨L,h1,h2,h3⟩:=gF hq
 rw[h1,<-Nat.add_assoc]
 have hp:=Nat.two_pow_pos m
 refine C3 (L:=m+L) ?_ ?_
 ·rw[Nat.pow_add,Nat.mul_comm];exact Nat.le_trans (Nat.mul_le_mul_right _ h2) (Nat.div_mul_le_self _ _)
 ·rw[show m+L+1=m+(L+1) by omega,Nat.pow_add,Nat.mul_comm]
  exact(Nat.div_lt_iff_lt_mul hp).1 h3
noncomputable def ur:D:=D.str ((mg (AU Tryz.f165)).getD ByteArray.empty)
noncomputable def BL(i:Nat):Bool:=match D.strAt ur (.int .u8 i) with
 | some (.int .u8 v)=>decide (v=(iV i:Nat))
 | _=>false
theorem Fz:(List.range 256).all BL=true:=by kernel_rfl
theorem Gr{i:Nat}(h:i<256):D.strAt ur (.int .u8 i)=some (.int .u8 (iV i:Nat)):=by
 have:=List.all_eq_true.1 Fz i (List.mem_range.2 h)
 unfold BL at this
 split at this
 ·rename_i v hv
  rw[hv,of_decide_eq_true this]
 ·cases this
theorem E9{a m:Nat}{c:D}(hc:c=.int .u64 (m:Nat))(hm:m<=32):D.bin .shr (U a) c=some (U (a/2^m)):=by
 subst hc
 simp only[D.bin]
 rw[if_neg (by omega),show min ((m:Int)).toNat (IntKind.bits .u32)=m from by simp[IntKind.bits];omega,Int.fdiv_eq_ediv_of_nonneg _ (by exact Int.le_of_lt (Int.pow_pos (by decide)))]
 congr 2
theorem HB(n:Nat){x:Nat}(hx:x<4294967296):cA (n+1) 165 [U x]=some (I (iV x:Nat)):=by
 rw[ML]
 unfold De
 have geq:∀ (a b:Nat) {c:D},c=.int .u32 (b:Nat)->D.bin .geq (U a) c=some (.bool (decide (b<=a))):=fun a b c hc=>by
  subst hc
  simp only[D.bin,if_true]
  congr 2;rw[decide_eq_decide];omega
 have last:∀ (y m:Nat),y<65536->m<=16->(Option.bind (Option.bind (D.bin .geq (U y) (D.int .u32 256)) fun x5=>
   Option.bind (D.truth x5) fun b6=>
   if b6 then(Option.bind (D.bin .shr (U y) (D.int .u64 8)) fun x7=>
   Option.bind (D.bin .add (I (m:Nat)) (D.int .i64 8)) fun x8=>
   some ((0:Nat),[x7,x8])) else(some (0,[U y,I (m:Nat)]))) fun(r9:Nat×List D)=>
   Option.bind (D.conv .u8 (gx r9.2 0)) fun x10=>
   Option.bind (D.strAt ur x10) fun x11=>
   Option.bind (D.conv .i64 x11) fun x12=>
   Option.bind (D.bin .add (gx r9.2 1) x12) fun x13=>
   some x13)=some (I ((m+iV y:Nat):Int)):=fun y m hy hm=>by
  have fin:∀ (z m:Nat),z<256->m<=24->(Option.bind (D.conv .u8 (U z)) fun x10=>
    Option.bind (D.strAt ur x10) fun x11=>
    Option.bind (D.conv .i64 x11) fun x12=>
    Option.bind (D.bin .add (I (m:Nat)) x12) fun x13=>some x13)=some (I ((m+iV z:Nat):Int)):=fun z m hz hm=>by
   have hb:iV z<=8:=by
    by_cases h0:z=0
    ·subst h0;decide
    ·obtain⟨L,h1,h2,_⟩:=gF h0
     rcases Nat.lt_or_ge L 8 with h|h
     ·omega
     ·have:=Nat.pow_le_pow_right (show 0<2 by decide) h
      omega
   have e8:D.conv .u8 (U z)=some (.int .u8 (z:Nat)):=by
    simp only[D.conv]
    have:IntKind.u8.wrap (z:Int)=(z:Int)%256:=rfl
    rw[this,Int.emod_eq_of_lt (by omega) (by omega)]
   refine aa e8 (aa (Gr hz) (aa (z:=I (iV z:Nat)) ?_ (aa (aS (by omega)) rfl)))
   simp only[D.conv];rw[iu (by simp only[inR];omega)]
  by_cases h:256<=y
  ·refine aa (z:=(0,[U (y/256),I ((m+8:Nat):Int)])) ?_ ?_
   ·refine aa (geq y 256 rfl) (aa af (aH h ?_))
    exact aa (E9 (m:=8) rfl (by decide)) (aa (aS (b:=8) (by omega)) rfl)
   ·have:=fin (y/256) (m+8) (by omega) (by omega)
    rw[qU (m:=8) (by omega),<-Nat.add_assoc]
    exact this
  ·refine aa (z:=(0,[U y,I (m:Nat)])) (aa (geq y 256 rfl) (aa af (aJ h rfl))) ?_
   exact fin y m (by omega) (by omega)
 by_cases h:65536<=x
 ·refine aa (z:=(0,[U (x/65536),I ((16:Nat):Int)])) ?_ ?_
  ·refine aa (geq x 65536 rfl) (aa af (aH h ?_))
   exact aa (E9 (m:=16) rfl (by decide)) rfl
  ·rw[qU (m:=16) (by omega)]
   exact last (x/65536) 16 (by omega) (by decide)
 ·refine aa (z:=(0,[U x,I ((0:Nat):Int)])) (aa (geq x 65536 rfl) (aa af (aJ h rfl))) ?_
  have:=last x 0 (by omega) (by decide)
  rw[Nat.zero_add] at this
  exact this
theorem JM(n:Nat){x:Nat}(hx:x<4294967296):cA (n+2) 196 [U x]=some (I (32-(iV x:Nat))):=by
 rw[LQ]
 unfold Eh
 have hb:iV x<=32:=by
  by_cases h0:x=0
  ·subst h0;decide
  ·obtain⟨L,h1,h2,_⟩:=gF h0
   rcases Nat.lt_or_ge L 32 with h|h
   ·omega
   ·have:=Nat.pow_le_pow_right (show 0<2 by decide) h
    omega
 exact aa (HB n hx) (aa (dq (by simp only[inR];omega)) rfl)
theorem HJ{a b:Nat}(ha:a<18446744073709551616)(hb:b<18446744073709551616):D.bin .or (W (a:Nat)) (W (b:Nat))=some (W ((a ||| b:Nat):Int)):=by
 simp only[D.bin,if_true,D.bitOp]
 have e:(BitVec.ofInt (IntKind.bits .u64) (a:Int) ||| BitVec.ofInt (IntKind.bits .u64) (b:Int)).toNat=a ||| b:=by
  have h1:(BitVec.ofInt 64 (a:Int)).toNat=a:=by simp[BitVec.toNat_ofInt];omega
  have h2:(BitVec.ofInt 64 (b:Int)).toNat=b:=by simp[BitVec.toNat_ofInt];omega
  show(BitVec.ofInt 64 (a:Int) ||| BitVec.ofInt 64 (b:Int)).toNat=a ||| b
  rw[BitVec.toNat_or,h1,h2]
 rw[e]
 have hl:a ||| b<2^64:=Nat.or_lt_two_pow ha hb
 rw[di ⟨by omega,by omega⟩]
theorem g9{a b m:Nat}(hb:b<2^m)(h:a*2^m+b<18446744073709551616):D.bin .or (W ((a*2^m:Nat):Int)) (W (b:Nat))=some (W ((a*2^m+b:Nat):Int)):=by
 rw[HJ (by omega) (by omega),Nat.mul_comm,<-Nat.two_pow_add_eq_or_of_lt hb]
theorem zN{a b m:Nat}(hb:b<2^m)(h:a*2^m+b<18446744073709551616):D.bin .or (W (b:Nat)) (W ((a*2^m:Nat):Int))=some (W ((a*2^m+b:Nat):Int)):=by
 rw[HJ (by omega) (by omega),Nat.or_comm,Nat.mul_comm,<-Nat.two_pow_add_eq_or_of_lt hb]
theorem oE{a m:Nat}{c:D}{k:IntKind}(hc:c=.int k (m:Nat))(hm:m<=64)(h:a*2^m<18446744073709551616):D.bin .shl (W (a:Nat)) c=some (W ((a*2^m:Nat):Int)):=by
 subst hc
 simp only[D.bin]
 rw[if_neg (by omega),show min ((m:Int)).toNat (IntKind.bits .u64)=m from by simp[IntKind.bits];omega]
 have e:(a:Int)*2^m=((a*2^m:Nat):Int):=by rw[Int.natCast_mul,Int.natCast_pow];rfl
 rw[e,di ⟨by omega,by omega⟩]
theorem Gb{a m:Nat}{c:D}{k:IntKind}(hc:c=.int k (m:Nat))(hm:m<=64):D.bin .shr (W (a:Nat)) c=some (W ((a/2^m:Nat):Int)):=by
 subst hc
 simp only[D.bin]
 rw[if_neg (by omega),show min ((m:Int)).toNat (IntKind.bits .u64)=m from by simp[IntKind.bits];omega,Int.fdiv_eq_ediv_of_nonneg _ (by exact Int.le_of_lt (Int.pow_pos (by decide)))]
 congr 2
theorem Fd{a b:Nat}(hb:b≠0)(ha:a<18446744073709551616):D.bin .quo (W (a:Nat)) (W (b:Nat))=some (W ((a/b:Nat):Int)):=by
 simp only[D.bin,if_true]
 rw[if_neg (by omega),<-Int.ofNat_tdiv,di ⟨Int.natCast_nonneg _,Int.ofNat_lt.2 (Nat.lt_of_le_of_lt (Nat.div_le_self a b) ha)⟩]
theorem CH{a b:Nat}(hb:b≠0):D.bin .rem (W (a:Nat)) (W (b:Nat))=some (W ((a%b:Nat):Int)):=by
 simp only[D.bin,if_true]
 rw[if_neg (by omega),<-Int.ofNat_tmod]
theorem Bz{a b:Nat}(h:a+b<18446744073709551616):D.bin .add (W (a:Nat)) (W (b:Nat))=some (W ((a+b:Nat):Int)):=by
 rw[pv (by omega) (by omega),Int.natCast_add]
theorem Bi{a b:Nat}(h:a*b<18446744073709551616):D.bin .mul (W (a:Nat)) (W (b:Nat))=some (W ((a*b:Nat):Int)):=by
 rw[Fe (by rw[<-Int.natCast_mul];omega) (by rw[<-Int.natCast_mul];omega),Int.natCast_mul]
theorem BX{a b:Nat}(h:b<=a)(ha:a<18446744073709551616):D.bin .sub (W (a:Nat)) (W (b:Nat))=some (W ((a-b:Nat):Int)):=by
 rw[pu,di ⟨by omega,by omega⟩];congr 2;omega
theorem tY(a:Nat):D.conv .u32 (W (a:Nat))=some (.int .u32 ((a%4294967296:Nat):Int)):=by rw[gv];rfl
theorem kP(X k:Nat):D.conv .u64 (.int .u32 (bu X k))=some (W (dg X k:Nat)):=et X k
theorem HP(n:Nat){X s:Nat}(hX:X<eD)(hs:s<=31):cA (n+1) 197 [LM X,I (s:Nat)]=some (.tup [LM (X*2^s),.int .u32 ((X*2^s/eD:Nat):Int)]):=by
 rw[LT]
 unfold DO
 rw[fg]
 have hp:=Nat.two_pow_pos s
 have hp2:2^s<=2^31:=Nat.pow_le_pow_right (by decide) hs
 refine aW (fun k s'=>s'=[W (fK X (2^s) k:Nat),I (k:Int),LM (X*2^s%2^(32*k))]) 16 0 (Nat.zero_le _) (by rw[su,oZ];rfl) (fun k hk s' hJ=>?_) (fun s' hJ=>?_)
 ·subst hJ
  left
  refine⟨_,?_,rfl⟩
  have hc:=tD X k hp
  have hd:=eY X k
  have hm:dg X k*2^s<=4294967295*2^s:=Nat.mul_le_mul_right _ (by omega)
  have e1:=vr X (2^s) k
  have e2:=rZ X (2^s) k
  rw[nC X k] at e1 e2
  have ec:((fK X (2^s) k:Nat):Int)+(dg X k:Nat)*((2^s:Nat):Int)=((dg X k*2^s+fK X (2^s) k:Nat):Int):=by rw[Int.natCast_add,Int.natCast_mul];omega
  rw[ec] at e1 e2
  refine aa ag (aa af (aH (by show(k:Int)<16;omega) ?_))
  refine aa (eG hk) (aa (bc _ hk) (aa (kP X k) (aa (oE rfl (by omega) (by omega)) (aa (zN hc (by omega)) (aa (gv _) (aa (eG hk) ?_))))))
  rw[<-e1]
  refine aa (pb hk) (aa (qZ (by omega)) ?_)
  rw[<-e2]
  exact aa (aq (aC (i:=k) (by omega))) rfl
 ·subst hJ
  refine⟨_,aa ag (aa af (aJ (by decide) rfl)),?_⟩
  have hc:=tD X 16 hp
  have e:=A8 (D:=2^s) hX
  rw[mX,e]
  rw[e] at hc
  refine aa (tY _) ?_
  rw[Nat.mod_eq_of_lt (by omega)]
  rfl
theorem LZ(n:Nat){X s:Nat}(hX:X<eD)(hs:s<=31):cA (n+1) 201 [LM X,I (s:Nat)]=some (LM (X/2^s)):=by
 rw[I5]
 unfold ER
 rw[fg]
 refine aW (fun k s'=>s'=[I (k:Int),LM (X/2^s%2^(32*k))]) 16 0 (Nat.zero_le _) (by rw[oZ];rfl) (fun k hk s' hJ=>?_) (fun s' hJ=>?_)
 ·subst hJ
  left
  refine⟨_,?_,rfl⟩
  have hd:=eY X k;have hd1:=eY X (k+1)
  refine aa ag (aa af (aH (by show(k:Int)<16;omega) ?_))
  refine aa (z:=(0,[W (dg X (k+1):Nat)])) ?_ ?_
  ·refine aa (aS (a:=k) (b:=1) (by omega)) (aa ag (aa af ?_))
   by_cases h:k+1<16
   ·refine aH (by show((k+1:Nat):Int)<16;omega) ?_
    exact aa (aS (a:=k) (b:=1) (by omega)) (aa (eG h) (aa (bc _ h) (aa (kP X (k+1)) rfl)))
   ·refine aJ (by show ¬ ((k+1:Nat):Int)<16;omega) ?_
    have hz:bu X (k+1)=0:=fr (n:=16) (by rw[fM,dj] at hX;exact hX) (by omega)
    have hz:dg X (k+1)=0:=by rw[nC] at hz;omega
    rw[hz];rfl
  refine aa (oE (m:=32) rfl (by decide) (by omega)) (aa (eG hk) (aa (bc _ hk) (aa (kP X k) (aa (g9 (m:=32) (by omega) (by omega)) (aa (Gb rfl (by omega)) (aa (gv _) (aa (eG hk) ?_)))))))
  have e:=Bf X s k (by omega)
  rw[nC X (k+1),nC X k] at e
  have ec:((dg X (k+1):Nat):Int)*4294967296+(dg X k:Nat)=((dg X (k+1)*2^32+dg X k:Nat):Int):=by omega
  rw[ec,<-Int.natCast_ediv] at e
  rw[<-e]
  exact aa (pb hk) (aa (aq (aC (i:=k) (by omega))) rfl)
 ·subst hJ
  refine⟨_,aa ag (aa af (aJ (by decide) rfl)),?_⟩
  rw[mX];rfl
theorem yJ{Q k:Nat}(hk:k<16):D.set (LM (Q/2^(32*(k+1))*2^(32*(k+1)))) [k] (.int .u32 (bu Q k))=some (LM (Q/2^(32*k)*2^(32*k))):=
 kH hk fun j hj=>by
  rw[sX,sX]
  by_cases e:j=k
  ·subst e;simp
  ·rw[if_neg e]
   by_cases h:j<k
   ·rw[if_pos h,if_pos (by omega)]
   ·rw[if_neg h,if_neg (by omega)]
theorem EA{Q:Nat}(h:Q<eD):LM (Q/2^(32*16)*2^(32*16))=LM 0:=by
 rw[uW,Nat.div_eq_of_lt h,Nat.zero_mul]
theorem Kh(n:Nat){X b:Nat}(hX:X<eD)(hb:0<b)(hb2:b<=4294967295):cA (n+1) 195 [LM X,U b]=some (.tup [LM (X/b),U (X%b)]):=by
 rw[I9]
 unfold DC
 rw[fg]
 have hq:X/b<eD:=Nat.lt_of_le_of_lt (Nat.div_le_self _ _) hX
 have h16:eN X b 16=0:=by unfold eN;rw[uW,Nat.div_eq_of_lt hX,Nat.zero_mod]
 have hconv:D.conv .u64 (U b)=some (W (b:Nat)):=AZ (by omega) (by omega)
 refine aW (fun t s'=>s'=[W (eN X b (16-t):Nat),I (15-(t:Int)),LM (X/b/2^(32*(16-t))*2^(32*(16-t)))]) 16 0 (Nat.zero_le _) (by rw[Nat.sub_zero,h16,EA hq];rfl) (fun t ht s' hJ=>?_) (fun s' hJ=>?_)
 ·subst hJ
  left
  obtain⟨k,hk⟩:∃ k,k=15-t:=⟨_,rfl⟩
  have hk16:k<16:=by omega
  rw[show 16-t=k+1 by omega,show(15-(t:Int))=(k:Int) by omega,show 16-(t+1)=k by omega,show(15-((t+1:Nat):Int))=(k:Int)-1 by omega]
  refine⟨_,?_,rfl⟩
  have hr:=vK X (k+1) hb
  have hd:=eY X k
  have e1:=zR X k hb hb2
  have e2:=xc X b k
  refine aa io (aa af (aH (by show(k:Int) ≥ 0;omega) ?_))
  refine aa (oE (m:=32) rfl (by decide) (by omega)) (aa (eG hk16) (aa (bc _ hk16) (aa (kP X k) (aa (g9 (m:=32) (by omega) (by omega)) ?_))))
  have hT:eN X b (k+1)*2^32+dg X k<18446744073709551616:=by omega
  refine aa hconv (aa (Fd (by omega) hT) (aa (tY _) (aa (eG hk16) ?_)))
  have e3:(((eN X b (k+1)*2^32+dg X k)/b%4294967296:Nat):Int)=bu (X/b) k:=by
   rw[cL,e1]
   show(((eN X b (k+1)*2^32+dg X k)/b%4294967296:Nat):Int)=(((eN X b (k+1)*4294967296+dg X k)/b:Nat):Int)
   congr 1
   refine Nat.mod_eq_of_lt ?_
   rw[Nat.div_lt_iff_lt_mul hb]
   have:(eN X b (k+1)+1)*4294967296<=b*4294967296:=Nat.mul_le_mul_right _ hr
   omega
  rw[e3]
  refine aa (yJ hk16) (aa hconv (aa (CH (by omega)) (aa (dq (by simp only[inR];omega)) ?_)))
  have e4:(eN X b (k+1)*2^32+dg X k)%b=eN X b k:=e2.symm
  rw[e4]
 ·subst hJ
  refine⟨_,aa io (aa af (aJ (by decide) rfl)),?_⟩
  have hm:X%b<b:=Nat.mod_lt _ hb
  rw[show 16-16=0 from rfl,zP,Nat.mul_zero,Nat.pow_zero,Nat.div_one,Nat.mul_one]
  refine aa (tY _) ?_
  rw[Nat.mod_eq_of_lt (show X%b<4294967296 by omega)]
  rfl
end Go.Proofs.YtjjjkojfijpeeaaGreat.Sy
end
section
set_option linter.unusedVariables false
namespace Go.Proofs.YtjjjkojfijpeeaaGreat.Sy
open Go Go.Proofs Go.Proofs.YtjjjkojfijpeeaaGreat.Geo
theorem wc{V D i:Nat}(hD:D<=4294967295):fK V D i<=4294967295/\D*dg V i<=18446744065119617025:=by
 refine⟨?_,Nat.mul_le_mul hD (yM V i)⟩
 rcases Nat.eq_zero_or_pos D with h|h
 ·subst h;simp[fK]
 ·have:=tD V i h;omega
theorem tj{V D n:Nat}(hV:V<2^(32*n))(hD:D<=4294967295):V*D<2^(32*(n+1)):=by
 rw[cW]
 have h1:V*D<=V*4294967296:=Nat.mul_le_mul_left _ (by omega)
 have h2:V*4294967296<2^(32*n)*4294967296:=Nat.mul_lt_mul_of_pos_right hV (by omega)
 omega
theorem wf{U V D n j k:Nat}(hk:k<=n)(hV:V<2^(32*n))(hD:D<=4294967295) :
  IntKind.u64.wrap (IntKind.u64.wrap (bu U (j+k)-bu (V*D) k)-(bI (U/2^(32*j)) (V*D) k:Nat))/9223372036854775808=(bI (U/2^(32*j)) (V*D) (k+1):Nat) ∧
  IntKind.u64.wrap (IntKind.u64.wrap (bu U (j+k)-bu (V*D) k)-(bI (U/2^(32*j)) (V*D) k:Nat))%4294967296=bu (j8 (U/2^(32*j)) (V*D) (n+1)) k:=by
 have wb:=ot (bu U (j+k)) (bu (V*D) k) (bI (U/2^(32*j)) (V*D) k) (cj _ _) (lj _ _) (cj _ _) (lj _ _) (qW _ _ _)
 rw[wb.1,wb.2,<-ju,mw,Aj (by omega) (Nat.le_of_lt (tj hV hD))]
 exact⟨rfl,rfl⟩
theorem CE{V D n:Nat}(hV:V<2^(32*n))(hD:D<=4294967295):((fK V D n:Nat):Int)=bu (V*D) n:=by
 have h:=(wc (V:=V) (i:=n) hD).1
 have e:fK V D n=V*D/2^(32*n):=by unfold fK;rw[Nat.mod_eq_of_lt hV]
 rw[cL,<-e,Nat.mod_eq_of_lt (by omega)]
theorem Eb{U j m:Nat}(hU:U<2^(32*(j+m))):U/2^(32*j)<2^(32*m):=by
 rw[Nat.div_lt_iff_lt_mul (Nat.two_pow_pos _),<-Nat.pow_add,show 32*m+32*j=32*(j+m) from by omega];exact hU
theorem ku(U Z j i n:Nat)(hn:j+i<n):D.set (cC n (rl U Z j i)) [j+i] (.int .u32 (bu Z i))=some (cC n (rl U Z j (i+1))):=
 kH hn fun t ht=>by
  unfold rl rC
  by_cases h:t=j+i
  ·subst h;rw[if_pos (by omega),if_pos rfl,xm]
  ·rw[if_neg h]
   by_cases h2:t<j+i
   ·rw[if_pos (by omega),if_pos h2]
   ·rw[if_neg (by omega),if_neg h2]
theorem sI{U Z j m n:Nat}(hU:U<2^(32*(j+m)))(hZ:Z<2^(32*m)):cC n (rl U Z j m)=cC n (bu (eK U Z j)):=
 de fun t _=>by
  unfold rl rC
  split
  ·rfl
  ·rw[fr hU (by omega),fr (wr hZ) (by omega)]
theorem C6{B n L:Nat}(hB:B<2^(32*(n+1)))(h2:dg B n<2^(L+1))(h3:L+1<=32):B*2^(32-(L+1))<2^(32*(n+1)):=by
 have h1:B/2^(32*n)=dg B n:=iU hB
 have h4:B<(dg B n+1)*2^(32*n):=by rw[<-Nat.div_lt_iff_lt_mul (Nat.two_pow_pos _)];omega
 have h5:(dg B n+1)*2^(32*n)<=2^(L+1)*2^(32*n):=Nat.mul_le_mul_right _ h2
 have h6:B*2^(32-(L+1))<2^(L+1)*2^(32*n)*2^(32-(L+1)):=Nat.mul_lt_mul_of_pos_right (by omega) (Nat.two_pow_pos _)
 rw[<-Nat.pow_add,<-Nat.pow_add,show L+1+32*n+(32-(L+1))=32*(n+1) from by omega] at h6
 exact h6
theorem BH{A B n m:Nat}(hl:2^(32*(n-1))<=B)(hAB:B<=A)(hA:A<2^(32*m)):n<=m:=by
 rcases Nat.lt_or_ge m n with h|h
 ·have:2^(32*m)<=2^(32*(n-1)):=Nat.pow_le_pow_right (by omega) (by omega)
  omega
 ·exact h
theorem AG{A B n m:Nat}(hn:1<=n)(hnm:n<=m)(hl:2^(32*(n-1))<=B)(hA:A<2^(32*m)):A/B<2^(32*(m-n+1)):=by
 apply Nat.div_lt_of_lt_mul
 have h:2^(32*(n-1))*2^(32*(m-n+1))<=B*2^(32*(m-n+1)):=Nat.mul_le_mul_right _ hl
 rw[<-Nat.pow_add,show 32*(n-1)+32*(m-n+1)=32*m from by omega] at h
 omega
theorem CG{A s:Nat}(hA:A<eD)(hs:s<=31):((A*2^s/eD:Nat):Int)=bu (A*2^s) 16:=by
 have h31:2^s<=2147483648:=Nat.pow_le_pow_right (n:=2) (by omega) hs
 have h1:A*2^s/eD<4294967296:=by
  rw[Nat.div_lt_iff_lt_mul fm,Nat.mul_comm 4294967296]
  have h2:A*2^s<=A*2147483648:=Nat.mul_le_mul_left _ h31
  have h3:A*2147483648<=eD*2147483648:=Nat.mul_le_mul_right _ (by omega)
  have:=fm
  omega
 have h2:=u6 (A*2^s) 16 0
 rw[<-fM,Nat.add_zero] at h2
 rw[<-h2,cL,Nat.mul_zero,Nat.pow_zero,Nat.div_one,Nat.mod_eq_of_lt h1]
theorem Ff{a b:Nat}{c:D}(hc:c=.int .u64 (b:Nat)):D.bin .lss (W (a:Nat)) c=some (.bool (decide (a<b))):=by
 subst hc;simp only[D.bin,if_true];congr 2;rw[decide_eq_decide];omega
theorem Hz{a b:Nat}{c:D}(hc:c=.int .u64 (b:Nat)):D.bin .geq (W (a:Nat)) c=some (.bool (decide (b<=a))):=by
 subst hc;simp only[D.bin,if_true];congr 2;rw[decide_eq_decide];omega
theorem GS{a b:Nat}:D.bin .gtr (W (a:Nat)) (W (b:Nat))=some (.bool (decide (b<a))):=by
 simp only[D.bin,if_true];congr 2;rw[decide_eq_decide];omega
theorem pa{α:Type}{body:Bd}{k:Nat×List D->Option α}{y:α}(J:Nat->List D->Prop) :
  ∀ (m:Nat) (s:List D),J m s->(∀ m s,J m s->(∃ m' s',m'<m/\body s=some (.inl s')/\J m' s')\/∃ r,body s=some (.inr r)/\k r=some y)->Option.bind (aY body s) k=some y:=by
 intro m
 induction m using Nat.strongRecOn with
 | _ m ih=>
  intro s hJ hs
  rcases hs m s hJ with⟨m',s',h1,h2,h3⟩|⟨r,h1,h2⟩
  ·exact cl h2 (ih m' h1 s' h3 hs)
  ·exact iC h1 h2
theorem iA{a b:Nat}{c:D}(hc:c=I (b:Nat))(h:b<=a)(ha:a<=1000000):D.bin .sub (I (a:Nat)) c=some (I ((a-b:Nat):Int)):=by
 subst hc;rw[dq (by simp only[inR];omega)];congr 2;omega
theorem HD(N:Nat):D.set (D.st (List.take 0 (List.replicate 17 (D.int .u32 0))++(List.take 16 (List.drop 0 ((List.range 16).map fun i=>D.int .u32 (bu N i)))++List.drop 16 (List.replicate 17 (D.int .u32 0))))) [16] (.int .u32 (bu N 16))=some (cC 17 (bu N)):=by
 have e:D.st (List.take 0 (List.replicate 17 (D.int .u32 0))++(List.take 16 (List.drop 0 ((List.range 16).map fun i=>D.int .u32 (bu N i)))++List.drop 16 (List.replicate 17 (D.int .u32 0))))=cC 17 (fun j=>if j<16 then bu N j else 0):=by rfl
 rw[e]
 refine kH (by decide) fun j hj=>?_
 by_cases h:j=16
 ·subst h;simp
 ·rw[if_neg h,if_pos (by omega)]
theorem HV(n:Nat){A B:Nat}(hA:A<eD)(hB:B<eD)(hB0:0<B):cA (n+4) 170 [LM A,LM B]=some (.tup [LM (A/B),LM (A%B)]):=by
 rw[J8]
 unfold DS
 refine aa (xz (n+2) hB) (aa (xz (n+2) hA) (aa (GL n hA hB) (aa ag (aa af ?_))))
 by_cases hlt:A<B
 ·refine aH (by unfold bZ;split<;>omega) ?_
  rw[ik,Nat.div_eq_of_lt hlt,Nat.mod_eq_of_lt hlt]
 refine aJ (by unfold bZ;split<;>(try split)<;>omega) ?_
 have hn0:cN B≠0:=fun e=>by have:=dO hB;rw[e] at this;simp at this;omega
 have HBh:=dO hB
 have HBl:=lM hn0
 have HAh:=dO hA
 have hn16:=iS B
 have hm16:=iS A
 refine aa (z:=decide (cN B=1)) (by rw[show(D.int .i64 1)=I ((1:Nat):Int) from rfl,bK];rfl) ?_
 by_cases h1:cN B=1
 ·refine aH h1 ?_
  rw[h1] at HBh
  have hb32:B<4294967296:=HBh
  have hd:bu B 0=(B:Int):=by unfold bu;simp;omega
  have hm:A%B<4294967296:=Nat.lt_trans (Nat.mod_lt _ hB0) hb32
  refine aa (bc _ (by decide)) ?_
  rw[hd]
  refine aa (Kh (n+2) hA hB0 (by omega)) (aa (z:=LM (A/B)) rfl (aa (z:=U (A%B)) rfl ?_))
  have e:D.st (D.putParts (List.replicate 16 (D.int .u32 0)) [(0,U (A%B))])=LM (A%B):=by
   have e2:LM (A%B)=cC 16 (fun j=>if j=0 then((A%B:Nat):Int) else 0):=de fun j hj=>by
    by_cases h0:j=0
    ·subst h0;rw[if_pos rfl];unfold bu;rw[Nat.mul_zero,Nat.pow_zero,Nat.div_one,Nat.mod_eq_of_lt hm]
    ·rw[if_neg h0];exact fr (n:=1) hm (by omega)
   rw[e2];rfl
  rw[e]
 refine aJ h1 ?_
 have hBA:B<=A:=by omega
 have hnm:=BH HBl hBA HAh
 have HQ:=AG (by omega) hnm HBl HAh
 obtain⟨e,he⟩:∃ e,cN B=e+2:=⟨cN B-2,by omega⟩
 obtain⟨m,hm⟩:∃ m,cN A=m:=⟨_,rfl⟩
 rw[he] at HBh HBl hnm HQ hn16 ⊢
 rw[hm] at HAh hnm HQ hm16 ⊢
 rw[show e+2-1=e+1 by omega] at HBl
 have hz:dg B (e+1)≠0:=fun h0=>by
  have h:=iU HBh
  have:=(Nat.le_div_iff_mul_le (Nat.two_pow_pos (32*(e+1)))).2 (show 1*2^(32*(e+1))<=B by omega)
  omega
 obtain⟨L,hL,hL1,hL2⟩:=gF hz
 have hdl:=eY B (e+1)
 have hL3:L+1<=32:=by
  rcases Nat.lt_or_ge L 32 with h|h
  ·omega
  ·have:=Nat.pow_le_pow_right (show 0<2 by decide) h
   omega
 obtain⟨s,hs⟩:∃ s,s=32-(L+1):=⟨_,rfl⟩
 have hs31:s<=31:=by omega
 have hVn:=C6 HBh hL2 hL3
 rw[<-hs] at hVn
 have hp:=Nat.two_pow_pos s
 obtain⟨V,hV⟩:∃ V,V=B*2^s:=⟨_,rfl⟩
 obtain⟨N,hN⟩:∃ N,N=A*2^s:=⟨_,rfl⟩
 have hQN:N/V=A/B:=by rw[hV,hN,Nat.mul_div_mul_right _ _ hp]
 have hRN:N%V=A%B*2^s:=by rw[hV,hN,Nat.mul_mod_mul_right]
 have hV0:0<V:=by rw[hV];exact Nat.mul_pos hB0 hp
 rw[<-hV] at hVn
 replace hVn:V<2^(32*(e+2)):=hVn
 have hV1:2^(32*(e+1))<=V:=by rw[hV];exact Nat.le_trans HBl (Nat.le_mul_of_pos_right _ hp)
 have hVtop:V<eD:=wW (by omega) hVn
 refine aa (iA (b:=1) rfl (by omega) (by omega)) (aa (eG (by omega)) (aa (bc _ (by omega)) ?_))
 rw[show e+2-1=e+1 by omega,nC B (e+1)]
 refine aa (JM (n+1) hdl) ?_
 rw[hL,show(32-((L+1:Nat):Int))=(s:Nat) by omega]
 refine aa (HP (n+2) hB hs31) (aa (z:=LM (B*2^s)) rfl (aa (z:=.int .u32 ((B*2^s/eD:Nat):Int)) rfl ?_))
 refine aa (HP (n+2) hA hs31) (aa (z:=LM (A*2^s)) rfl (aa (z:=.int .u32 ((A*2^s/eD:Nat):Int)) rfl ?_))
 rw[CG hA hs31,<-hV,<-hN]
 refine aa (z:=List.replicate 17 (D.int .u32 0)) rfl (aa (z:=(List.range 16).map fun i=>D.int .u32 (bu N i)) rfl (aa (HD N) (aa (iA (b:=e+2) rfl (by omega) (by omega)) ?_)))
 rw[fg]
 obtain⟨c,hc⟩:∃ c,c=m-(e+2):=⟨_,rfl⟩
 rw[<-hc] at HQ ⊢
 rw[<-hQN] at HQ ⊢
 refine aW (fun t s'=>s'=[I ((c:Int)-(t:Nat)),LM (N/V/2^(32*(c+1-t))*2^(32*(c+1-t))),cC 17 (bu (dM N V (c+1-t)))]) (c+1) 0 (Nat.zero_le _) ?_ (fun t ht s' hJ=>?_) (fun s' hJ=>?_)
 ·rw[Nat.sub_zero,xo HQ,Nat.div_eq_of_lt HQ,Nat.zero_mul]
  congr 2
 ·subst hJ
  left
  obtain⟨j,hj⟩:∃ j,j=c-t:=⟨_,rfl⟩
  rw[show c+1-t=j+1 by omega,show(c:Int)-(t:Nat)=(j:Nat) by omega,show c+1-(t+1)=j by omega,show(c:Int)-((t+1:Nat):Int)=(j:Int)-1 by omega]
  refine⟨[I ((j:Int)-1),LM (N/V/2^(32*j)*2^(32*j)),cC 17 (bu (dM N V j))],?_,rfl⟩
  have hj16:j+e+2<=16:=by omega
  have hU:=Am (N:=N) j hV0 hVn
  have hUt:=B8 (N:=N) j hV0
  have hqd:=B2 (N:=N) j hV0
  have right:=vD (N:=N) j hV0 hVn
  have wrong:=fun U1=>uK (N:=N) (U1:=U1) j hV0 hVn
  generalize hUU:dM N V (j+1)=U at *
  have H:=B4 hVn hV1 hUt
  have hW:=Eb (j:=j) (m:=e+2+1) (U:=U) (by rw[show j+(e+2+1)=j+(e+2)+1 by omega];exact hU)
  have g2:D.idx (I ((j+(e+2):Nat):Int)) 17=some (j+(e+2)):=au (by omega)
  have t1:=FR U (j+e+2) (j+e+1)
  have F1:=H.one
  have F2:=yM V (e+1)
  have v2:=eY V e
  have u2:=eY U (j+e)
  refine aa io (aa af (aH (by show(j:Int) ≥ 0;omega) ?_))
  refine aa (aS (a:=j) (b:=e+2) (by omega)) (aa g2 (aa (bc _ (by omega)) (aa (kP U _) (aa (oE (m:=32) rfl (by decide) (by have:=eY U (j+(e+2));omega)) ?_))))
  refine aa (aS (a:=j) (b:=e+2) (by omega)) (aa (iA (b:=1) rfl (by omega) (by omega)) ?_)
  rw[show j+(e+2)-1=j+e+1 by omega,show j+(e+2)=j+e+2 by omega]
  refine aa (au (by omega)) (aa (bc _ (by omega)) (aa (kP U _) (aa (g9 (m:=32) (eY _ _) (by omega)) ?_)))
  refine aa (iA (b:=1) rfl (by omega) (by omega)) (aa (z:=e+1) (by rw[show e+2-1=e+1 by omega];exact au (by omega)) (aa (bc _ (by omega)) (aa (kP V _) ?_)))
  have eT:dg U (j+e+2)*2^32+dg U (j+e+1)=dg U (j+e+2)*4294967296+dg U (j+e+1):=rfl
  rw[eT]
  generalize hT:dg U (j+e+2)*4294967296+dg U (j+e+1)=T at *
  generalize hF:dg V (e+1)=F at *
  refine aa (Fd (by omega) (by omega)) (aa (CH (by omega)) ?_)
  refine pa (fun G s'=>∃ R,s'=[W (G:Nat),W (R:Nat),LM (N/V/2^(32*(j+1))*2^(32*(j+1))),LM 0,LM V]/\G*F+R=T/\U/2^(32*j)/V<=G) (T/F) _ ⟨T%F,rfl,by rw[Nat.mul_comm];exact Nat.div_add_mod T F,H.start⟩ (fun G s' hJ=>?_)
  obtain⟨R,rfl,hDR,hqD⟩:=hJ
  have hDF:G<=G*F:=Nat.le_mul_of_pos_right _ (by omega)
  have hD64:G<=18446744073709551615:=by omega
  have hR64:R<=18446744073709551615:=by omega
  have cond:∀ b:Bool,b=(decide (R<4294967296)&&(decide (4294967296<=G)||decide (R*4294967296+dg U (j+e)<G*dg V e)))->(b=true->1<=G/\U/2^(32*j)/V<=G-1)/\(b=false->G<4294967296/\G<=U/2^(32*j)/V+1):=fun b hb=>by
   constructor
   ·intro hbt
    rw[hbt] at hb
    simp only[Bool.true_eq,Bool.and_eq_true,Bool.or_eq_true,decide_eq_true_eq] at hb
    rcases hb.2 with h|h
    ·exact⟨by omega,H.step_big h⟩
    ·have:=H.step hDR h;exact⟨this.2,this.1⟩
   ·intro hbf
    rw[hbf] at hb
    refine H.done hDR ?_
    by_cases h1:4294967296<=R
    ·exact .inl h1
    ·right
     have h1':R<4294967296:=by omega
     simp only[decide_eq_true h1',Bool.true_and,Bool.false_eq,Bool.or_eq_false_iff,decide_eq_false_iff_not] at hb
     omega
  have hcv:∀ {β:Type} {g:Bool->Option β} {y:β},g (decide (R<4294967296)&&(decide (4294967296<=G)||decide (R*4294967296+dg U (j+e)<G*dg V e)))=some y->(Option.bind (D.bin .lss (W (R:Nat)) (D.int .u64 4294967296)) fun x46=>
    Option.bind (D.truth x46) fun b47=>
    Option.bind (if b47 then(Option.bind (D.bin .geq (W (G:Nat)) (D.int .u64 4294967296)) fun x48=>
    Option.bind (D.truth x48) fun b49=>
    if b49 then(some true) else(Option.bind (D.bin .sub (I ((e+2:Nat):Int)) (D.int .i64 2)) fun x50=>
    Option.bind (D.idx x50 16) fun i51=>
    Option.bind (D.get (LM V) [i51]) fun x52=>
    Option.bind (D.conv .u64 x52) fun x53=>
    Option.bind (D.bin .mul (W (G:Nat)) x53) fun x54=>
    Option.bind (D.bin .shl (W (R:Nat)) (D.int .u64 32)) fun x55=>
    Option.bind (D.bin .add (I (j:Nat)) (I ((e+2:Nat):Int))) fun x56=>
    Option.bind (D.bin .sub x56 (D.int .i64 2)) fun x57=>
    Option.bind (D.idx x57 17) fun i58=>
    Option.bind (D.get (cC 17 (bu U)) [i58]) fun x59=>
    Option.bind (D.conv .u64 x59) fun x60=>
    Option.bind (D.bin .or x55 x60) fun x61=>
    Option.bind (D.bin .gtr x54 x61) fun x62=>
    D.truth x62)) else(some false)) g)=some y:=fun{β g y} hg=>by
   refine aa (Ff (b:=4294967296) rfl) (aa af (aa ?_ hg))
   by_cases h1:R<4294967296
   ·rw[decide_eq_true h1,if_pos rfl,Bool.true_and]
    refine aa (Hz (b:=4294967296) rfl) (aa af ?_)
    by_cases h2:4294967296<=G
    ·rw[decide_eq_true h2,if_pos rfl,Bool.true_or]
    ·rw[decide_eq_false h2,if_neg (by decide),Bool.false_or]
     have hm1:G*dg V e<=4294967295*4294967295:=Nat.mul_le_mul (by omega) (by omega)
     refine aa (iA (b:=2) rfl (by omega) (by omega)) (aa (z:=e) (au (by omega)) (aa (bc _ (by omega)) (aa (kP V e) (aa (Bi (by omega)) (aa (oE (m:=32) rfl (by decide) (by omega)) ?_)))))
     refine aa (aS (a:=j) (b:=e+2) (by omega)) (aa (iA (b:=2) rfl (by omega) (by omega)) (aa (z:=j+e) (by rw[show j+(e+2)-2=j+e by omega];exact au (by omega)) (aa (bc _ (by omega)) (aa (kP U (j+e)) (aa (g9 (m:=32) u2 (by omega)) (aa GS ?_))))))
     rfl
   ·rw[decide_eq_false h1,if_neg (by decide),Bool.false_and]
  obtain⟨bb,hbb⟩:∃ bb,bb=(decide (R<4294967296)&&(decide (4294967296<=G)||decide (R*4294967296+dg U (j+e)<G*dg V e))):=⟨_,rfl⟩
  obtain⟨k1,k2⟩:=cond bb hbb
  rw[<-hbb] at hcv
  cases bb with
  | true=>
   left
   obtain⟨d1,d2⟩:=k1 rfl
   have hR32:R<4294967296:=by
    have:=hbb.symm
    simp only[Bool.and_eq_true,decide_eq_true_eq] at this
    exact this.1
   refine⟨G-1,[W ((G-1:Nat):Int),W ((R+F:Nat):Int),LM (N/V/2^(32*(j+1))*2^(32*(j+1))),LM 0,LM V],by omega,?_,R+F,rfl,wO hDR d1,d2⟩
   refine hcv (aa af ?_)
   rw[if_pos rfl]
   exact aa (BX (b:=1) (by omega) (by omega)) (aa (Bz (by omega)) rfl)
  | false=>
   right
   obtain⟨d1,d2⟩:=k2 rfl
   refine⟨(0,[W (G:Nat),LM (N/V/2^(32*(j+1))*2^(32*(j+1))),LM 0,LM V]),?_,?_⟩
   ·refine hcv (aa af ?_)
    rw[if_neg (by decide)];rfl
   clear hcv cond k1 k2 hbb
   have hD:G<=4294967295:=by omega
   have hVD:=tj hVn hD
   obtain⟨Z,hZ⟩:∃ Z,Z=j8 (U/2^(32*j)) (V*G) (e+2+1):=⟨_,rfl⟩
   have hZl:Z<2^(32*(e+2+1)):=by rw[hZ];exact Bu _ _ _
   have hqj:=hqd
   have fin:∀ {y:Sum (List D) (Nat×List D)} {d:Nat} {u:D} {g:Nat×List D->Option (Sum (List D) (Nat×List D))},d=dg (N/V) j->u=cC 17 (bu (dM N V j))->g (0,[W (d:Nat),u])=some y->g (0,[W ((dg (N/V) j:Nat):Int),cC 17 (bu (dM N V j))])=some y:=fun h1 h2 h3=>by rw[<-h1,<-h2];exact h3
   refine aa (z:=(0,[W ((dg (N/V) j:Nat):Int),cC 17 (bu (dM N V j))])) ?_ ?_
   ·refine cn (fun i s'=>s'=[W (fK V G i:Nat),W (bI (U/2^(32*j)) (V*G) i:Nat),I (i:Nat),LM (N/V/2^(32*(j+1))*2^(32*(j+1))),LM 0,LM V,cC 17 (rl U Z j i)]) (e+2) 0 (Nat.zero_le _) (by rw[su,mT,sr];rfl) (fun i hi s' hJ=>?_) (fun s' hJ=>?_)
    ·subst hJ
     left
     refine⟨_,?_,rfl⟩
     have hi16:i<16:=by omega
     have hji:j+i<17:=by omega
     obtain⟨m1,m2⟩:=wc (V:=V) (i:=i) hD
     obtain⟨q1,q2⟩:=wf (U:=U) (j:=j) (k:=i) (by omega) hVn hD
     have s1:=vr V G i
     have s2:=rZ V G i
     rw[nC V i] at s1 s2
     have ec:((fK V G i:Nat):Int)+(dg V i:Nat)*(G:Int)=((fK V G i+G*dg V i:Nat):Int):=by rw[Int.natCast_add,Int.natCast_mul,Int.mul_comm (G:Int)]
     rw[ec] at s1 s2
     refine aa ag (aa af (aH (by show(i:Int)<((e+2:Nat):Int);omega) ?_))
     refine aa (eG hi16) (aa (bc _ hi16) (aa (kP V i) (aa (Bi (by omega)) (aa (Bz (by omega)) ?_))))
     refine aa (aS (a:=j) (b:=i) (by omega)) (aa (au hji) (aa (bc _ hji) ?_))
     rw[ko]
     refine aa (et U (j+i)) (aa (gv _) ?_)
     rw[<-s1]
     refine aa (et (V*G) i) (aa (pu _ _) (aa (pu _ _) (aa (aS (a:=j) (b:=i) (by omega)) (aa (gv _) (aa (au hji) ?_)))))
     rw[q2,<-hZ]
     refine aa (ku U Z j i 17 hji) (aa um ?_)
     rw[q1]
     refine aa (qZ (by omega)) ?_
     rw[<-s2]
     exact aa (aq (aC (i:=i) (by omega))) rfl
    ·subst hJ
     refine⟨_,aa ag (aa af (aJ (by show ¬ (((e+2:Nat):Int)<((e+2:Nat):Int));omega) rfl)),?_⟩
     have hjn:j+(e+2)<17:=by omega
     obtain⟨q1,q2⟩:=wf (U:=U) (j:=j) (k:=e+2) (Nat.le_refl _) hVn hD
     rw[<-CE hVn hD] at q1 q2
     refine aa (aS (a:=j) (b:=e+2) (by omega)) (aa (au hjn) (aa (bc _ hjn) ?_))
     rw[ko]
     refine aa (et U (j+(e+2))) (aa (pu _ _) (aa (pu _ _) (aa (aS (a:=j) (b:=e+2) (by omega)) (aa (gv _) (aa (au hjn) ?_)))))
     rw[q2,<-hZ]
     refine aa (ku U Z j (e+2) 17 hjn) (aa um ?_)
     rw[q1,sI (m:=e+2+1) (by rw[show j+(e+2+1)=j+(e+2)+1 by omega];exact hU) hZl,vY hW hVD]
     have hmul:V*(U/2^(32*j)/V)<=U/2^(32*j):=Nat.mul_div_le _ _
     have hmul2:U/2^(32*j)<V*(U/2^(32*j)/V+1):=Nat.lt_mul_div_succ _ hV0
     rw[hqj] at hmul hmul2 hqD d2
     by_cases hDq:G=dg (N/V) j
     ·subst hDq
      rw[if_neg (by omega)]
      refine aa (z:=false) (by rfl) ?_
      rw[if_neg (by decide),hZ,right]
      rfl
     ·have hDq':G=dg (N/V) j+1:=by omega
      rw[if_pos (by rw[hDq'];exact hmul2)]
      refine aa (z:=true) (by rfl) ?_
      rw[if_pos rfl]
      refine aa (BX (b:=1) (by omega) (by omega)) ?_
      have hwr:=wrong (eK U Z j) (by rw[hZ,hDq'])
      have hU1:eK U Z j<2^(32*(j+(e+2+1))):=wr hZl
      generalize eK U Z j=U1 at *
      obtain⟨Z2,hZ2⟩:∃ Z2,Z2=(U1/2^(32*j)+V)%2^(32*(e+2+1)):=⟨_,rfl⟩
      have hZ2l:Z2<2^(32*(e+2+1)):=by rw[hZ2];exact Nat.mod_lt _ (Nat.two_pow_pos _)
      have hstep:∀ i,i<e+2+1->bu Z2 i=((eR (U1/2^(32*j)) V i:Nat)+(bu U1 (j+i)+bu V i))%4294967296:=fun i hi=>by
       rw[hZ2,iz,if_pos hi,yh,ju]
      refine cn (fun i s'=>s'=[W (eR (U1/2^(32*j)) V i:Nat),I (i:Nat),LM (N/V/2^(32*(j+1))*2^(32*(j+1))),LM 0,LM V,cC 17 (rl U1 Z2 j i)]) (e+2) 0 (Nat.zero_le _) (by rw[ou,sr];rfl) (fun i hi s' hJ=>?_) (fun s' hJ=>?_)
      ·subst hJ
       left
       refine⟨_,?_,rfl⟩
       have hi16:i<16:=by omega
       have hji:j+i<17:=by omega
       have c1:=kr (U1/2^(32*j)) V i
       have a0:=cj U1 (j+i);have a1:=qB U1 (j+i)
       have b0:=cj V i;have b1:=qB V i
       have hcs:=oH (U1/2^(32*j)) V i
       rw[ju] at hcs
       refine aa ag (aa af (aH (by show(i:Int)<((e+2:Nat):Int);omega) ?_))
       refine aa (aS (a:=j) (b:=i) (by omega)) (aa (au hji) (aa (bc _ hji) ?_))
       rw[ko]
       refine aa (et U1 (j+i)) (aa (eG hi16) (aa (bc _ hi16) (aa (et V i) (aa (pv (by omega) (by omega)) (aa (pv (by omega) (by omega)) (aa (aS (a:=j) (b:=i) (by omega)) (aa (gv _) (aa (au hji) ?_))))))))
       rw[<-hstep i (by omega)]
       refine aa (ku U1 Z2 j i 17 hji) (aa (qZ (by omega)) ?_)
       rw[<-hcs]
       exact aa (aq (aC (i:=i) (by omega))) rfl
      ·subst hJ
       refine⟨_,aa ag (aa af (aJ (by show ¬ (((e+2:Nat):Int)<((e+2:Nat):Int));omega) rfl)),?_⟩
       have c1:=kr (U1/2^(32*j)) V (e+2)
       have hst:=hstep (e+2) (by omega)
       rw[fr hVn (Nat.le_refl _),Int.add_zero] at hst
       refine aa (aS (a:=j) (b:=e+2) (by omega)) (aa (au hjn) (aa (bc _ hjn) ?_))
       rw[ko]
       refine aa (gv _) ?_
       have hadd:D.bin .add (.int .u32 (bu U1 (j+(e+2)))) (.int .u32 (((eR (U1/2^(32*j)) V (e+2):Nat):Int)%4294967296))=some (.int .u32 (bu Z2 (e+2))):=by
        simp only[D.bin,if_true]
        have hw:∀ x:Int,IntKind.u32.wrap x=x%4294967296:=fun x=>rfl
        rw[hw,hst];congr 2;omega
       refine aa hadd (aa (au hjn) (aa (ku U1 Z2 j (e+2) 17 hjn) ?_))
       rw[sI (m:=e+2+1) hU1 hZ2l,hZ2,hwr]
       rw[show G-1=dg (N/V) j by omega]
   ·have hqq:=eY (N/V) j
    refine aa (tY _) (aa (au (show j<16 by omega)) ?_)
    rw[Nat.mod_eq_of_lt hqq]
    exact aa (yJ (by omega)) (aa (dq (by simp only[inR];omega)) rfl)
 ·subst hJ
  refine⟨(0,[LM (N/V),cC 17 (bu (N%V))]),?_,?_⟩
  ·rw[show c+1-(c+1)=0 by omega,zH,Nat.mul_zero,Nat.pow_zero,Nat.div_one,Nat.mul_one]
   exact aa io (aa af (aJ (by show ¬ ((c:Int)-((c+1:Nat):Int)) ≥ 0;omega) rfl))
  ·have hRt:N%V<eD:=Nat.lt_trans (Nat.mod_lt _ hV0) hVtop
   have hlo:D.st (List.take 16 (List.drop 0 ((List.range 17).map fun i=>D.int .u32 (bu (N%V) i))))=LM (N%V):=by
    rw[qH _ (by omega)]
    exact de fun j _=>by rw[Nat.zero_add]
   show(if decide (0+16<=((List.range 17).map fun i=>D.int .u32 (bu (N%V) i)).length)=true then _ else none)=_
   rw[if_pos (by simp),hlo]
   refine aa (LZ (n+2) hRt hs31) ?_
   rw[hRN,Nat.mul_div_cancel _ hp]
   rfl
end Go.Proofs.YtjjjkojfijpeeaaGreat.Sy
end
