/- Part 11 of the proof that HullContainsPoints answers true at every input -/
import Derived.Test.YtjjjkojfijpeeaaGreatPoints01
import Derived.Test.YtjjjkojfijpeeaaGreatPoints10
set_option linter.unusedVariables false
set_option linter.unusedSimpArgs false
set_option linter.unnecessarySimpa false
section
set_option linter.unusedVariables false
namespace Go.Proofs.YtjjjkojfijpeeaaGreat.Sy
open Go Go.Proofs Go.Proofs.YtjjjkojfijpeeaaGreat.Geo
def Wd(x:Int):Prop:=x.natAbs<4611686018427387904
theorem Wd.inR{x:Int}(h:Wd x):inR x:=by unfold Wd at h;simp only[Sy.inR];omega
theorem Wd.In{x:Int}(h:Wd x):In x:=In.of h.inR
theorem JH(n:Nat){a b:Int}(ha:Wd a)(hb:b≠0)(hd:b ∣ a):cA (n+1) 144 [I a,I b]=some (I (a/b)):=by
 rw[LC]
 unfold Dm
 obtain⟨q,rfl⟩:=hd
 have e1:(b*q).tdiv b=q:=Int.mul_tdiv_cancel_left _ hb
 have e2:b*q/b=q:=Int.mul_ediv_cancel_left _ hb
 have e3:(b*q).tmod b=0:=Int.mul_tmod_right ..
 have hq:Sy.inR q:=by
  have:q.natAbs<=(b*q).natAbs:=by rw[Int.natAbs_mul];exact Nat.le_mul_of_pos_left _ (by omega)
  unfold Wd at ha;simp only[Sy.inR];omega
 rw[e2]
 refine aa (sq hb (by rw[e1];exact hq)) (aa (z:=(0,[I q])) (aa (rG hb) ?_) rfl)
 rw[e1,e3]
 exact aa (z:=false) rfl (aa (z:=false) rfl (aa ag rfl))
theorem ND(n:Nat){a b:Int}(ha:Wd a)(hb:Wd b):cA (n+4) 85 [ai a,ai b]=some (ai (Nat.gcd a.natAbs b.natAbs:Nat)):=by
 rw[Mj]
 unfold HP
 refine aa (Ch n ha) (aa (z:=I a) rfl (aa (z:=.bool true) rfl (aa (Ch n hb) (aa (z:=I b) rfl (aa (z:=.bool true) rfl (aa (z:=true) rfl (aa (z:=true) rfl (aa (z:=true) rfl ?_))))))))
 rw[if_pos rfl]
 obtain⟨r,h1,h2⟩:=vJ (body:=fun(v1:List D)=>
  Option.bind (D.truth (D.bool (!(D.beq (gx v1 1) (D.int .i64 0))))) fun b2=>
  if b2 then(Option.bind (D.bin .rem (gx v1 0) (gx v1 1)) fun x3=>
  some (Sum.inl [(gx v1 1),x3])) else(some (Sum.inr (0,[(gx v1 0)]))))
  (fun a b hb=>by simp only[g0,g1,cV,ag,Option.bind_some,hb,decide_false,Bool.not_false,if_true,rG hb])
  (fun a=>by simp only[g0,g1,cV,ag,Option.bind_some,decide_true,Bool.not_true,Bool.false_eq_true,if_false]) _ a b rfl
 refine xP h1 ?_
 have hg:Nat.gcd a.natAbs b.natAbs<=4611686018427387903:=by unfold Wd at ha hb;exact xe (by omega) (by omega)
 have hr:Sy.inR r:=by simp only[Sy.inR];omega
 refine aa (If n hr) (aa (LE n (In.of hr)) ?_)
 rw[h2]
theorem Md(n:Nat){x:Int}(hx:In x):cA (n+3) 83 [ai x]=some (I (sg x)):=by
 rw[OL]
 unfold HY
 refine aa (AH n hx) (aa cO (aa (z:=false) rfl (aa (z:=decide (x=0)) ?_ (aa ag ?_))))
 ·rw[if_neg (by decide)]
  refine aa (Da n hx) (aa (z:=ab (av x.natAbs)) rfl ?_)
  rw[ag,ah]
  show some (D.beq (I ((av x.natAbs).length:Nat)) (I (0:Nat)))=_
  rw[fe]
  congr 1
  rw[decide_eq_decide,List.length_eq_zero_iff,qy]
  omega
 ·by_cases h0:x=0
  ·refine aZ h0 ?_
   subst h0;rfl
  ·refine aY h0 (aa (z:=.bool (decide (x<0))) rfl (aa ag ?_))
   by_cases h1:x<0
   ·refine aZ h1 ?_
    rw[uE h1]
   ·refine aY h1 ?_
    rw[lm (by omega)]
theorem M7(n:Nat){a b:Int}(ha:Wd a)(hb:Wd b)(hb0:b≠0)(hd:b ∣ a):cA (n+4) 87 [ai a,ai b]=some (ai (a/b)):=by
 rw[L5]
 unfold Ho
 refine aa (Ch n ha) (aa (z:=I a) rfl (aa (z:=.bool true) rfl (aa (Ch n hb) (aa (z:=I b) rfl (aa (z:=.bool true) rfl (aa (z:=true) rfl (aa (z:=true) rfl (aa (z:=true) rfl (aa (z:=true) ?_ (aa (z:=true) rfl ?_))))))))))
 ·rw[if_pos rfl,cV,decide_eq_false hb0];rfl
 ·rw[if_pos rfl]
  have hq:Sy.inR (a/b):=by
   obtain⟨q,rfl⟩:=hd
   rw[Int.mul_ediv_cancel_left _ hb0]
   have:q.natAbs<=(b*q).natAbs:=by rw[Int.natAbs_mul];exact Nat.le_mul_of_pos_left _ (by omega)
   unfold Wd at ha;simp only[Sy.inR];omega
  exact aa (JH (n+2) ha hb0 hd) (aa (If n hq) rfl)
theorem fE{n:Int}(h:0<=n/\n<18446744073709551616):IntKind.wrap .u64 n=n:=by
 obtain⟨h1,h2⟩:=h
 simp only[IntKind.wrap,IntKind.signed,IntKind.bits]
 first
  | omega
  | (simp;omega)
def s8(v:V):D:=.st [ai v.x,ai v.y,ai v.z]
end Go.Proofs.YtjjjkojfijpeeaaGreat.Sy
end
section
set_option linter.unusedVariables false
namespace Go.Proofs.YtjjjkojfijpeeaaGreat.Sy
open Go Go.Proofs Go.Proofs.YtjjjkojfijpeeaaGreat.Geo
theorem mX:∀ {l:List Nat} {j v:Nat},j<l.length->aL (l.set j v)+65536^j*l.getD j 0=aL l+65536^j*v
 | d::l,0,v,_=>by simp only[List.set_cons_zero,aL,Nat.pow_zero,Nat.one_mul,List.getD_cons_zero];omega
 | d::l,j+1,v,h=>by
  have ih:=mX (l:=l) (j:=j) (v:=v) (by simpa using h)
  simp only[List.set_cons_succ,aL,Nat.pow_succ,List.getD_cons_succ]
  rw[Nat.mul_comm (65536^j) 65536,Nat.mul_assoc,Nat.mul_assoc]
  generalize 65536^j*l.getD j 0=x at *
  generalize 65536^j*v=y at *
  omega
theorem nr(l:List Nat)(j v:Nat):(ab l).set j (I (v:Int))=ab (l.set j v):=by simp[ab,List.map_set]
theorem jL(l:List Nat)(j v i:Nat)(h:j<l.length):(l.set j v).getD i 0=if i=j then v else l.getD i 0:=by
 by_cases e:i=j
 ·subst e;simp[List.getD,h]
 ·simp[List.getD,e,List.getElem?_set,show ¬ j=i from fun k=>e k.symm]
theorem rI(m:Nat):List.replicate m (D.int .i64 0)=ab (List.replicate m 0):=by simp[ab]
theorem qa{a b:Nat}(h:a*b<=9223372036854775807):D.bin .mul (I (a:Int)) (I (b:Int))=some (I ((a*b:Nat):Int)):=by
 rw[gL (by simp only[inR];rw[<-Int.natCast_mul];omega),Int.natCast_mul]
theorem bn{a b:Nat}(h:a+b<=9223372036854775807):D.bin .add (I (a:Int)) (I (b:Int))=some (I ((a+b:Nat):Int)):=by
 rw[aS (by simp only[inR];omega),Int.natCast_add]
theorem oY(a:Nat):D.natOf (I (a:Int))=some a:=by simp[D.natOf]
theorem uw{l:List Nat}{i:Nat}(h:i<l.length):D.idx (I (i:Int)) (ab l).length=some i:=by rw[ah];exact aE h
theorem FQ{l:List Nat}(h:∀ i,i<l.length->l.getD i 0<65536):dl l:=fun d hd=>by
 obtain⟨i,hi,rfl⟩:=List.getElem_of_mem hd
 have:=h i hi
 simpa [List.getD,hi] using this
theorem Lo(n:Nat){a b:List Nat}(ha:dl a)(hb:dl b)(hla:a.length<=400000)(hlb:b.length<=400000):cA (n+2) 146 [.sl (ab a),.sl (ab b)]=some (.sl (ab (av (aL a*aL b)))):=by
 rw[L3]
 unfold Ft
 obtain⟨M,hM⟩:∃ M,M=a.length+b.length+1:=⟨_,rfl⟩
 refine aa (z:=ab a) rfl (aa (z:=ab b) rfl (aa (z:=I ((a.length+b.length:Nat):Int)) (by rw[ah,ah];exact bn (by omega)) (aa (z:=I (M:Int)) (by rw[hM];exact bn (b:=1) (by omega)) (aa (oY M) ?_))))
 rw[if_pos (by omega),rI]
 refine bq (fun i s=>∃ out:List Nat,s=[I (i:Int),.sl (ab out)]/\out.length=M/\dl out/\aL out=vt a i*aL b) a.length 0 (Nat.zero_le _) ⟨List.replicate M 0,rfl,by simp,fun x hx=>by rw[List.eq_of_mem_replicate hx];decide,by have:=lH [] M;rw[List.nil_append] at this;rw[this];simp[vt,aL]⟩ (fun i hi s hJ=>?_) (fun s hJ=>?_)
 ·obtain⟨out,rfl,ho,hdo,hv⟩:=hJ
  left
  have hai:=ha.getD i
  obtain⟨r,h1,out1,rfl,o1,o2,o3⟩:=tx (body:=fun(v10:List D)=>
   Option.bind (D.asSl (.sl (ab b))) fun l11=>
   Option.bind (D.bin .lss (gx v10 0) (D.int .i64 (List.length l11))) fun x12=>
   Option.bind (D.truth x12) fun b13=>
   if b13 then(Option.bind (D.bin .add (I (i:Int)) (gx v10 0)) fun x14=>
   Option.bind (D.bin .add (I (i:Int)) (gx v10 0)) fun x15=>
   Option.bind (D.idx x15 (List.length (D.els (gx v10 1)))) fun i16=>
   Option.bind ((D.els (gx v10 1))[i16]?) fun x17=>
   Option.bind (D.asSl (.sl (ab a))) fun l18=>
   Option.bind (D.idx (I (i:Int)) (List.length l18)) fun i19=>
   Option.bind (l18[i19]?) fun x20=>
   Option.bind (D.asSl (.sl (ab b))) fun l21=>
   Option.bind (D.idx (gx v10 0) (List.length l21)) fun i22=>
   Option.bind (l21[i22]?) fun x23=>
   Option.bind (D.bin .mul x20 x23) fun x24=>
   Option.bind (D.bin .add x17 x24) fun x25=>
   Option.bind (D.idx x14 (List.length (D.els (gx v10 1)))) fun i26=>
   Option.bind ((D.els (gx v10 1))[i26]?) fun x27=>
   Option.bind (D.bin .add (gx v10 0) (D.int .i64 1)) fun x28=>
   some (Sum.inl [x28,(D.sl (List.set (D.els (gx v10 1)) i26 x25))])) else(some (Sum.inr (0,[(D.sl (D.els (gx v10 1)))]))))
   (s0:=[I 0,.sl (ab out)])
   (fun k s=>∃ o:List Nat,s=[I (k:Int),.sl (ab o)]/\o.length=M/\(∀ j,j<M->o.getD j 0<=4295032831/\(i+k<=j->o.getD j 0<65536))/\aL o=aL out+65536^i*(a.getD i 0*vt b k))
   (fun r=>∃ o:List Nat,r=(0,[.sl (ab o)])/\o.length=M/\(∀ j,j<M->o.getD j 0<=4295032831)/\aL o=aL out+65536^i*(a.getD i 0*aL b)) b.length 0 (Nat.zero_le _)
   ⟨out,rfl,ho,fun j _=>by have:=hdo.getD j;omega,by simp[vt]⟩ (fun k hk s hJ=>by
    obtain⟨o,rfl,o1,o2,o3⟩:=hJ
    left
    have hbk:=hb.getD k
    have hik:i+k<o.length:=by omega
    have hp:a.getD i 0*b.getD k 0<=65535*65535:=Nat.mul_le_mul (by omega) (by omega)
    have hx:=(o2 (i+k) (by omega)).2 (Nat.le_refl _)
    refine⟨[I ((k+1:Nat):Int),.sl (ab (o.set (i+k) (o.getD (i+k) 0+a.getD i 0*b.getD k 0)))],?_,_,rfl,by simpa using o1,fun j hj=>?_,?_⟩
    ·refine aa (z:=ab b) rfl (aa am (aa ag (aZ (by show(k:Int)<((ab b).length:Int);rw[ah];omega) ?_)))
     refine aa (bn (a:=i) (b:=k) (by omega)) (aa (bn (a:=i) (b:=k) (by omega)) (aa (uw hik) (aa (cG hik) ?_)))
     refine aa (z:=ab a) rfl (aa (uw hi) (aa (cG hi) (aa (z:=ab b) rfl (aa (uw hk) (aa (cG hk) ?_)))))
     refine aa (qa (by omega)) (aa (bn (by omega)) (aa (uw hik) (aa (cG hik) (aa (aS (aK (i:=k) (by omega))) ?_))))
     show some (Sum.inl [_,D.sl (List.set (ab o) (i+k) _)])=_
     rw[nr];rfl
    ·rw[jL _ _ _ _ hik]
     have:=o2 j hj
     split
     ·omega
     ·omega
    ·have e:=mX (l:=o) (j:=i+k) (v:=o.getD (i+k) 0+a.getD i 0*b.getD k 0) hik
     rw[vt,Nat.mul_add,Nat.mul_add]
     have e2:65536^i*(a.getD i 0*(b.getD k 0*65536^k))=65536^(i+k)*(a.getD i 0*b.getD k 0):=by
      rw[Nat.pow_add,<-Nat.mul_assoc (a.getD i 0),Nat.mul_comm (a.getD i 0*b.getD k 0),Nat.mul_assoc]
     rw[Nat.mul_add] at e
     omega) (fun s hJ=>by
    obtain⟨o,rfl,o1,o2,o3⟩:=hJ
    rw[jF] at o3
    exact⟨_,aa (z:=ab b) rfl (aa am (aa ag (aY (by show ¬ ((b.length:Int)<((ab b).length:Int));rw[ah];omega) rfl))),o,rfl,o1,fun j hj=>(o2 j hj).1,o3⟩)
  obtain⟨r2,h2,out2,rfl,p1,p2,p3⟩:=tx (body:=fun(v30:List D)=>
   Option.bind (D.bin .lss (gx v30 1) (D.int .i64 (List.length (D.els (gx v30 2))))) fun x31=>
   Option.bind (D.truth x31) fun b32=>
   if b32 then(Option.bind (D.idx (gx v30 1) (List.length (D.els (gx v30 2)))) fun i33=>
   Option.bind ((D.els (gx v30 2))[i33]?) fun x34=>
   Option.bind (D.bin .add x34 (gx v30 0)) fun x35=>
   Option.bind (D.bin .rem x35 (D.int .i64 65536)) fun x36=>
   Option.bind (D.idx (gx v30 1) (List.length (D.els (gx v30 2)))) fun i37=>
   Option.bind ((D.els (gx v30 2))[i37]?) fun x38=>
   Option.bind (D.bin .quo x35 (D.int .i64 65536)) fun x39=>
   Option.bind (D.bin .add (gx v30 1) (D.int .i64 1)) fun x40=>
   some (Sum.inl [x39,x40,(D.sl (List.set (D.els (gx v30 2)) i37 x36))])) else(some (Sum.inr (0,[(D.sl (D.els (gx v30 2)))]))))
   (s0:=[I 0,I 0,.sl (ab out1)])
   (fun k s=>∃ (o:List Nat) (c:Nat),s=[I (c:Int),I (k:Int),.sl (ab o)]/\o.length=M/\(∀ j,j<k->o.getD j 0<65536)/\(∀ j,k<=j->o.getD j 0=out1.getD j 0)/\c<=131072/\aL o+65536^k*c=aL out1)
   (fun r=>∃ o:List Nat,r=(0,[.sl (ab o)])/\o.length=M/\dl o/\∃ c,aL o+65536^M*c=aL out1) M 0 (Nat.zero_le _)
   ⟨out1,0,rfl,o1,fun j hj=>absurd hj (Nat.not_lt_zero _),fun j _=>rfl,by omega,by simp⟩ (fun k hk s hJ=>by
    obtain⟨o,c,rfl,q1,q2,q3,q4,q5⟩:=hJ
    left
    have hko:k<o.length:=by omega
    have hx:=o2 k hk
    have hq:=q3 k (Nat.le_refl _)
    refine⟨[I (((o.getD k 0+c)/65536:Nat):Int),I ((k+1:Nat):Int),.sl (ab (o.set k ((o.getD k 0+c)%65536)))],?_,_,_,rfl,by simpa using q1,fun j hj=>?_,fun j hj=>?_,by omega,?_⟩
    ·refine aa am (aa ag (aZ (by show(k:Int)<((ab o).length:Int);rw[ah];omega) ?_))
     refine aa (uw hko) (aa (cG hko) (aa (bn (by omega)) (aa (jf (b:=65536) (by decide)) (aa (uw hko) (aa (cG hko) (aa (il (b:=65536) (by decide) (by omega)) (aa (aS (aK (i:=k) (by omega))) ?_)))))))
     show some (Sum.inl [_,_,D.sl (List.set (ab o) k _)])=_
     rw[nr];rfl
    ·rw[jL _ _ _ _ hko]
     split
     ·omega
     ·exact q2 j (by omega)
    ·rw[jL _ _ _ _ hko,if_neg (by omega)];exact q3 j (by omega)
    ·have e:=mX (l:=o) (j:=k) (v:=(o.getD k 0+c)%65536) hko
     have e2:o.getD k 0+c=(o.getD k 0+c)%65536+65536*((o.getD k 0+c)/65536):=by omega
     have e3:65536^k*(o.getD k 0+c)=65536^k*((o.getD k 0+c)%65536)+65536^k*(65536*((o.getD k 0+c)/65536)):=by rw[<-Nat.mul_add,<-e2]
     rw[Nat.mul_add] at e3
     rw[Nat.pow_succ,Nat.mul_assoc]
     omega) (fun s hJ=>by
    obtain⟨o,c,rfl,q1,q2,q3,q4,q5⟩:=hJ
    exact⟨_,aa am (aa ag (aY (by show ¬ ((M:Int)<((ab o).length:Int));rw[ah];omega) rfl)),o,rfl,q1,FQ fun j hj=>q2 j (by omega),c,q5⟩)
  obtain⟨c,p4⟩:=p3
  refine⟨[I ((i+1:Nat):Int),.sl (ab out2)],?_,out2,rfl,p1,p2,?_⟩
  ·refine aa (z:=ab a) rfl (aa am (aa ag (aZ (by show(i:Int)<((ab a).length:Int);rw[ah];omega) ?_)))
   refine aa h1 (aa h2 ?_)
   exact aa (aS (aK (i:=i) (by omega))) rfl
  ·have hval:aL out1=vt a (i+1)*aL b:=by
    rw[o3,hv,vt,Nat.add_mul,Nat.mul_comm (a.getD i 0) (65536^i),Nat.mul_assoc]
   have hlt:vt a (i+1)*aL b<65536^M:=by
    have l1:=qm ha (i+1)
    have l2:=kq hb
    have l3:vt a (i+1)*aL b<65536^(i+1)*65536^b.length:=Nat.mul_lt_mul'' l1 l2
    have l4:65536^(i+1)*65536^b.length<=65536^M:=by rw[<-Nat.pow_add];exact Nat.pow_le_pow_right (by decide) (by omega)
    omega
   have hc:c=0:=by
    rcases Nat.eq_zero_or_pos c with h|h
    ·exact h
    ·have:65536^M*1<=65536^M*c:=Nat.mul_le_mul_left _ h
     omega
   subst hc
   rw[<-hval,<-p4];simp
 ·obtain⟨out,rfl,ho,hdo,hv⟩:=hJ
  refine⟨(0,[.sl (ab out)]),aa (z:=ab a) rfl (aa am (aa ag (aY (by show ¬ ((a.length:Int)<((ab a).length:Int));rw[ah];omega) rfl))),?_⟩
  refine aa (xU n (l:=out) (by omega)) ?_
  rw[gH hdo,hv,jF]
theorem E8(x y:Int):sgn (!(decide (decide (x<0)=decide (y<0)))) (x.natAbs*y.natAbs)=x*y:=by
 unfold sgn
 rw[<-Int.natAbs_mul]
 by_cases hx:x<0<;>by_cases hy:y<0
 ·have:=Int.mul_pos_of_neg_of_neg hx hy;simp[hx,hy];omega
 ·have:=Int.mul_nonpos_of_nonpos_of_nonneg (Int.le_of_lt hx) (Int.not_lt.1 hy);simp[hx,hy];omega
 ·have:=Int.mul_nonpos_of_nonneg_of_nonpos (Int.not_lt.1 hx) (Int.le_of_lt hy);simp[hx,hy];omega
 ·have:=Int.mul_nonneg (Int.not_lt.1 hx) (Int.not_lt.1 hy);simp[hx,hy];omega
end Go.Proofs.YtjjjkojfijpeeaaGreat.Sy
end
section
namespace Go.Proofs.YtjjjkojfijpeeaaGreat
open Go
def kR(n:Nat):Nat:=2^(32*n)
theorem cM(n:Nat):kR n=2^(32*n):=rfl
attribute [irreducible] kR
def dT:Nat:=kR 16
theorem fD:dT=kR 16:=rfl
attribute [irreducible] dT
theorem ld{a b:Nat}(h:a<=b):kR a<=kR b:=by rw[cM,cM];exact Nat.pow_le_pow_right (by omega) (by omega)
theorem rR:kR 2=18446744073709551616:=by rw[cM]
theorem AE(n:Nat):0<kR n:=by rw[cM];exact Nat.two_pow_pos _
theorem eZ:0<dT:=fD ▸ AE 16
theorem tW{n:Nat}(h:n<18446744073709551616):n<dT:=by
 rw[fD];rw[<-rR] at h;exact Nat.lt_of_lt_of_le h (ld (by omega))
def bh(X k:Nat):Int:=((X/2^(32*k)%2^32:Nat):Int)
theorem lI(X k:Nat):bh X k<=4294967295:=by
 unfold bh;have:=Nat.mod_lt (X/2^(32*k)) (show 0<2^32 by decide);omega
theorem qh(X k:Nat):bh X k<4294967296:=by
 unfold bh;have:=Nat.mod_lt (X/2^(32*k)) (show 0<2^32 by decide);omega
theorem bS(X k:Nat):0<=bh X k:=by unfold bh;exact Int.natCast_nonneg _
theorem Aa(a b:Nat)(h:a<=b):2^b=2^a*2^(b-a):=by rw[<-Nat.pow_add];congr 1;omega
theorem g9(X k j:Nat):bh (X%2^(32*k)) j=if j<k then bh X j else 0:=by
 unfold bh
 split
 ·rename_i h
  congr 1
  rw[Aa (32*j) (32*k) (by omega),Nat.mod_mul_right_div_self,show 32*k-32*j=32+(32*k-32*j-32) from by omega,Nat.pow_add,Nat.mod_mul_right_mod]
 ·rename_i h
  rw[Nat.div_eq_of_lt]
  ·simp
  ·exact Nat.lt_of_lt_of_le (Nat.mod_lt _ (Nat.two_pow_pos _)) (Nat.pow_le_pow_right (by decide) (by omega))
theorem uq(n:Nat):∀ (X Y:Nat),X<2^(32*n)->Y<2^(32*n)->(∀ k,k<n->bh X k=bh Y k)->X=Y:=by
 induction n with
 | zero=>intro X Y hX hY _;simp at hX hY;omega
 | succ n ih=>
  intro X Y hX hY h
  have hs:∀ Z:Nat,Z=Z%2^(32*n)+2^(32*n)*(Z/2^(32*n)):=fun Z=>by have:=Nat.mod_add_div Z (2^(32*n));omega
  have hm:X%2^(32*n)=Y%2^(32*n):=by
   refine ih _ _ (Nat.mod_lt _ (Nat.two_pow_pos _)) (Nat.mod_lt _ (Nat.two_pow_pos _)) fun k hk=>?_
   rw[g9,g9,if_pos hk,if_pos hk]
   exact h k (by omega)
  have hd:X/2^(32*n)=Y/2^(32*n):=by
   have h1:=h n (by omega)
   unfold bh at h1
   have e:∀ Z,Z<2^(32*(n+1))->Z/2^(32*n)<2^32:=fun Z hZ=>by
    rw[Nat.div_lt_iff_lt_mul (Nat.two_pow_pos _),<-Nat.pow_add,show 32+32*n=32*(n+1) from by omega];exact hZ
   rw[Nat.mod_eq_of_lt (e X hX),Nat.mod_eq_of_lt (e Y hY)] at h1
   exact Int.ofNat.inj h1
  rw[hs X,hs Y,hm,hd]
theorem AW{X Y:Nat}(hX:X<dT)(hY:Y<dT)(h:∀ k,k<16->bh X k=bh Y k):X=Y:=by
 rw[fD,cM] at hX hY
 exact uq 16 X Y hX hY h
def rF(s V Z j:Nat):Int:=if j<s then bh V j else bh Z j
theorem sN(s V Z:Nat):rF s V Z s=bh Z s:=by unfold rF;rw[if_neg (Nat.lt_irrefl s)]
def em(X Y k:Nat):Nat:=(X%2^(32*k)+Y%2^(32*k))/2^(32*k)
theorem km(X Y k:Nat):em X Y k<=1:=by
 unfold em
 have h:=Nat.two_pow_pos (32*k)
 have h1:=Nat.mod_lt X h
 have h2:=Nat.mod_lt Y h
 have:(X%2^(32*k)+Y%2^(32*k))/2^(32*k)<2:=(Nat.div_lt_iff_lt_mul h).2 (by omega)
 omega
theorem oG(X Y:Nat):em X Y 0=0:=by simp[em,Nat.mod_one]
theorem gJ(X k:Nat):X=X%2^(32*k)+2^(32*k)*(X/2^(32*k)):=by have:=Nat.mod_add_div X (2^(32*k));omega
theorem cH(k:Nat):2^(32*(k+1))=2^(32*k)*4294967296:=by rw[show 32*(k+1)=32*k+32 from by omega,Nat.pow_add]
theorem dm(X k:Nat):X%2^(32*(k+1))=X%2^(32*k)+2^(32*k)*(X/2^(32*k)%4294967296):=by rw[cH,Nat.mod_mul]
theorem oe(X Y k:Nat):((em X Y (k+1):Nat):Int)=((em X Y k:Nat)+(bh X k+bh Y k))/4294967296:=by
 unfold em bh
 have hp:=Nat.two_pow_pos (32*k)
 rw[dm,dm,cH,<-Nat.div_div_eq_div_mul]
 generalize 2^(32*k)=p at *
 have:(X%p+p*(X/p%4294967296)+(Y%p+p*(Y/p%4294967296)))/p=(X%p+Y%p)/p+(X/p%4294967296+Y/p%4294967296):=by
  rw[show X%p+p*(X/p%4294967296)+(Y%p+p*(Y/p%4294967296))=(X%p+Y%p)+p*(X/p%4294967296+Y/p%4294967296) from by rw[Nat.mul_add];omega,Nat.add_mul_div_left _ _ hp]
 rw[this]
 simp only[show(2:Nat)^32=4294967296 from rfl]
 omega
theorem zx(X Y k:Nat):bh (X+Y) k=((em X Y k:Nat)+(bh X k+bh Y k))%4294967296:=by
 unfold em bh
 have hp:=Nat.two_pow_pos (32*k)
 have hx:=gJ X k
 have hy:=gJ Y k
 generalize 2^(32*k)=p at *
 have:(X+Y)/p=(X%p+Y%p)/p+(X/p+Y/p):=by
  rw[show X+Y=(X%p+Y%p)+p*(X/p+Y/p) from by rw[Nat.mul_add];omega,Nat.add_mul_div_left _ _ hp]
 rw[this]
 simp only[show(2:Nat)^32=4294967296 from rfl]
 omega
theorem vX:2^(32*16)=dT:=by rw[fD,cM 16]
theorem AN{X Y:Nat}(hX:X<dT)(hY:Y<dT):em X Y 16=if X+Y<dT then 0 else 1:=by
 have h:=km X Y 16
 unfold em at *
 rw[vX,Nat.mod_eq_of_lt hX,Nat.mod_eq_of_lt hY] at *
 split
 ·rw[Nat.div_eq_of_lt (by assumption)]
 ·have:1<=(X+Y)/dT:=(Nat.le_div_iff_mul_le eZ).2 (by omega)
  omega
def bz(X Y k:Nat):Nat:=if X%2^(32*k)<Y%2^(32*k) then 1 else 0
theorem po(X Y k:Nat):bz X Y k<=1:=by unfold bz;split<;>omega
theorem mt(X Y:Nat):bz X Y 0=0:=by simp[bz,Nat.mod_one]
theorem mh(X Y k:Nat):((bz X Y (k+1):Nat):Int)=if bh X k-bh Y k-(bz X Y k:Nat)<0 then 1 else 0:=by
 unfold bz bh
 have hp:=Nat.two_pow_pos (32*k)
 rw[dm,dm]
 have h1:=Nat.mod_lt X hp
 have h2:=Nat.mod_lt Y hp
 simp only[show(2:Nat)^32=4294967296 from rfl]
 generalize 2^(32*k)=p at *
 generalize X/p%4294967296=a
 generalize Y/p%4294967296=b
 generalize X%p=x at *
 generalize Y%p=y at *
 rcases Nat.lt_trichotomy a b with h|h|h
 ·have:p*a+p<=p*b:=by rw[<-Nat.mul_succ];exact Nat.mul_le_mul_left _ h
  rw[if_pos (by omega)]
  split<;>rw[if_pos (by omega)]<;>rfl
 ·subst h
  by_cases h3:x<y
  ·rw[if_pos (by omega),if_pos h3,if_pos (by omega)];rfl
  ·rw[if_neg (by omega),if_neg h3,if_neg (by omega)];rfl
 ·have:p*b+p<=p*a:=by rw[<-Nat.mul_succ];exact Nat.mul_le_mul_left _ h
  rw[if_neg (by omega)]
  split<;>rw[if_neg (by omega)]<;>rfl
theorem yR{X Y:Nat}(h:Y<=X)(k:Nat):bh (X-Y) k=(bh X k-bh Y k-(bz X Y k:Nat))%4294967296:=by
 unfold bz bh
 have hp:=Nat.two_pow_pos (32*k)
 have hx:=gJ X k
 have hy:=gJ Y k
 have h1:=Nat.mod_lt X hp
 have h2:=Nat.mod_lt Y hp
 simp only[show(2:Nat)^32=4294967296 from rfl]
 generalize 2^(32*k)=p at *
 have hle:Y/p<=X/p:=Nat.div_le_div_right h
 generalize hxq:X/p=a at *
 generalize hyq:Y/p=b at *
 generalize hxr:X%p=x at *
 generalize hyr:Y%p=y at *
 by_cases h3:x<y
 ·have hab:b<a:=by
   rcases Nat.lt_or_ge b a with h'|h'
   ·exact h'
   ·have:a=b:=by omega
    subst this;omega
  have e:X-Y=(x+p-y)+p*(a-b-1):=by
   rw[hx,hy,Nat.mul_sub,Nat.mul_sub]
   have:p*b+p<=p*a:=by rw[<-Nat.mul_succ];exact Nat.mul_le_mul_left _ hab
   omega
  rw[e,Nat.add_mul_div_left _ _ hp,Nat.div_eq_of_lt (by omega),if_pos h3]
  omega
 ·have e:X-Y=(x-y)+p*(a-b):=by
   rw[hx,hy,Nat.mul_sub]
   have:p*b<=p*a:=Nat.mul_le_mul_left _ hle
   omega
  rw[e,Nat.add_mul_div_left _ _ hp,Nat.div_eq_of_lt (by omega),if_neg h3]
  omega
theorem oo(a b:Int)(c:Nat)(a0:0<=a)(a1:a<=4294967295)(b0:0<=b)(b1:b<=4294967295)(hc:c<=1) :
  IntKind.u64.wrap (IntKind.u64.wrap (a-b)-(c:Int))/9223372036854775808=(if a-b-(c:Int)<0 then 1 else 0) ∧
  IntKind.u64.wrap (IntKind.u64.wrap (a-b)-(c:Int))%4294967296=(a-b-(c:Int))%4294967296:=by
 have e:∀ n:Int,IntKind.u64.wrap n=n%18446744073709551616:=fun n=>rfl
 rw[e,e]
 constructor
 ·split<;>omega
 ·omega
def fA(X:Nat):Nat->Nat
 | 0=>0
 | k+1=>if 2^(32*k)<=X then k+1 else fA X k
def cB(X:Nat):Nat:=fA X 16
theorem Af(X k:Nat):fA X k<=k:=by
 induction k with
 | zero=>exact Nat.le_refl _
 | succ k ih=>unfold fA;split<;>omega
theorem xK(X k:Nat)(h:fA X k≠0):2^(32*(fA X k-1))<=X:=by
 induction k with
 | zero=>exact absurd rfl h
 | succ k ih=>
  by_cases h1:2^(32*k)<=X
  ·simp only[fA,if_pos h1] at *;simpa using h1
  ·simp only[fA,if_neg h1] at *;exact ih h
theorem vY(X k:Nat)(h:X<2^(32*k)):X<2^(32*fA X k):=by
 induction k with
 | zero=>exact h
 | succ k ih=>
  unfold fA
  split
  ·exact h
  ·exact ih (by omega)
theorem iN(X:Nat):cB X<=16:=Af X 16
theorem dq{X:Nat}(h:X<dT):X<2^(32*cB X):=vY X 16 (by rw[fD,cM] at h;exact h)
theorem lK{X:Nat}(h:cB X≠0):2^(32*(cB X-1))<=X:=xK X 16 h
theorem tL{X k:Nat}(h:X<2^(32*(k+1))):bh X k=0↔X<2^(32*k):=by
 unfold bh
 have hp:=Nat.two_pow_pos (32*k)
 have h2:X/2^(32*k)<2^32:=by rw[Nat.div_lt_iff_lt_mul hp,<-Nat.pow_add,show 32+32*k=32*(k+1) from by omega];exact h
 rw[Nat.mod_eq_of_lt h2]
 constructor
 ·intro h3
  have h3':X/2^(32*k)=0:=by omega
  rcases(Nat.div_eq_zero_iff).1 h3' with h4|h4
  ·omega
  ·exact h4
 ·intro h3;rw[Nat.div_eq_of_lt h3];rfl
def sgn(a b:Nat):Int:=if a<b then -1 else if b<a then 1 else 0
def ir(X Y k:Nat):Prop:=X/2^(32*k)=Y/2^(32*k)
theorem zO{X Y:Nat}(hX:X<dT)(hY:Y<dT):ir X Y 16:=by
 unfold ir
 rw[fD,cM] at hX hY
 rw[Nat.div_eq_of_lt hX,Nat.div_eq_of_lt hY]
theorem ki(X k:Nat):X/2^(32*k)=X/2^(32*(k+1))*4294967296+(X/2^(32*k))%4294967296:=by
 rw[cH,<-Nat.div_div_eq_div_mul];omega
theorem wp{X Y k:Nat}(h:ir X Y (k+1))(hd:bh X k=bh Y k):ir X Y k:=by
 unfold ir bh at *
 rw[ki X k,ki Y k,h]
 simp only[show(2:Nat)^32=4294967296 from rfl] at hd
 omega
theorem uI{X Y k:Nat}(h:ir X Y (k+1))(hd:bh X k≠bh Y k):sgn X Y=if bh X k<bh Y k then -1 else 1:=by
 unfold ir bh at *
 have hx:=ki X k
 have hy:=ki Y k
 have hp:=Nat.two_pow_pos (32*k)
 have sx:=gJ X k
 have sy:=gJ Y k
 have h1:=Nat.mod_lt X hp
 have h2:=Nat.mod_lt Y hp
 simp only[show(2:Nat)^32=4294967296 from rfl] at hd ⊢
 generalize 2^(32*k)=p at *
 unfold sgn
 by_cases hlt:X/p<Y/p
 ·have:p*(X/p)+p<=p*(Y/p):=by rw[<-Nat.mul_succ];exact Nat.mul_le_mul_left _ hlt
  rw[if_pos (by omega),if_pos (by omega)]
 ·have hgt:Y/p<X/p:=by omega
  have:p*(Y/p)+p<=p*(X/p):=by rw[<-Nat.mul_succ];exact Nat.mul_le_mul_left _ hgt
  rw[if_neg (by omega),if_pos (by omega),if_neg (by omega)]
theorem zW{X Y:Nat}(h:ir X Y 0):sgn X Y=0:=by
 have:X=Y:=by simpa [ir] using h
 subst this;simp[sgn]
theorem cz(X k:Nat):bh X k=((X/2^(32*k)%4294967296:Nat):Int):=rfl
theorem eW{X n k:Nat}(h:X<2^(32*n))(hk:n<=k):bh X k=0:=by
 rw[cz,Nat.div_eq_of_lt (Nat.lt_of_lt_of_le h (Nat.pow_le_pow_right (by omega) (by omega)))];rfl
theorem iY(X c s j:Nat)(h:j<s):bh (X+c*2^(32*s)) j=bh X j:=by
 rw[cz,cz]
 congr 1
 rw[show 32*s=32*j+(32+32*(s-j-1)) from by omega,Nat.pow_add,Nat.pow_add,show c*(2^(32*j)*(2^32*2^(32*(s-j-1))))=2^(32*j)*(4294967296*(c*2^(32*(s-j-1)))) from by
  rw[show(2:Nat)^32=4294967296 from rfl];ac_rfl,Nat.add_mul_div_left _ _ (Nat.two_pow_pos _),Nat.add_mul_mod_self_left]
def eO(A B i:Nat):Nat:=A%2^(32*i)*B
def li(A B i k:Nat):Nat:=eO A B i+(A/2^(32*i)%4294967296)*(B%2^(32*k))*2^(32*i)
def mI(A B i k:Nat):Nat:=li A B i k/2^(32*(i+k))-eO A B i/2^(32*(i+k))
def uv(A B i k:Nat):Nat->Int:=rF (i+k) (li A B i k) (eO A B i)
theorem rZ(A B i:Nat):li A B i 0=eO A B i:=by simp[li,Nat.mod_one]
theorem sP(A B i:Nat):mI A B i 0=0:=by simp[mI,rZ]
theorem Ax(A B i:Nat):uv A B i 0=bh (eO A B i):=by
 funext j;simp[uv,rZ,rF]
theorem sS(A B i k:Nat):li A B i (k+1)=li A B i k+(A/2^(32*i)%4294967296)*(B/2^(32*k)%4294967296)*2^(32*(i+k)):=by
 unfold li
 rw[dm,show 32*(i+k)=32*i+32*k from by omega,Nat.pow_add,Nat.mul_add,Nat.add_mul,Nat.add_assoc]
 congr 2
 ac_rfl
theorem Fg(A B i k:Nat):eO A B i<=li A B i k:=Nat.le_add_right _ _
theorem tq(A B i k:Nat):mI A B i k+eO A B i/2^(32*(i+k))=li A B i k/2^(32*(i+k)):=by
 unfold mI;have:=Nat.div_le_div_right (c:=2^(32*(i+k))) (Fg A B i k);omega
theorem vu(A B i k:Nat):li A B i (k+1)/2^(32*(i+k))=mI A B i k+eO A B i/2^(32*(i+k))+(A/2^(32*i)%4294967296)*(B/2^(32*k)%4294967296):=by
 rw[sS,Nat.add_mul_div_right _ _ (Nat.two_pow_pos _),tq]
theorem pm(A B i k:Nat):mI A B i (k+1)=(mI A B i k+((A/2^(32*i)%4294967296)*(B/2^(32*k)%4294967296)+eO A B i/2^(32*(i+k))%4294967296))/4294967296:=by
 have h1:=tq A B i (k+1)
 have h2:=vu A B i k
 have e:∀ X,X/2^(32*(i+(k+1)))=X/2^(32*(i+k))/4294967296:=fun X=>by
  rw[show i+(k+1)=i+k+1 from by omega,cH,Nat.div_div_eq_div_mul]
 rw[e,e,h2] at h1
 generalize A/2^(32*i)%4294967296*(B/2^(32*k)%4294967296)=p at *
 generalize eO A B i/2^(32*(i+k))=z at *
 omega
theorem sU(a p q z c:Nat):(((a+(p*q+z))/c:Nat):Int)=((a:Int)+((p:Int)*q+z))/(c:Int):=by push_cast;rfl
theorem qT(a p q z c:Nat):(((a+(p*q+z))%c:Nat):Int)=((a:Int)+((p:Int)*q+z))%(c:Int):=by push_cast;rfl
theorem A2(A B i k:Nat):((mI A B i (k+1):Nat):Int)=((mI A B i k:Nat)+(bh A i*bh B k+bh (eO A B i) (i+k)))/4294967296:=by
 rw[pm,cz,cz,cz];exact sU _ _ _ _ 4294967296
theorem uC(A B i k:Nat):mI A B i k<=4294967295:=by
 induction k with
 | zero=>rw[sP];omega
 | succ k ih=>
  rw[pm]
  have h1:A/2^(32*i)%4294967296<=4294967295:=by have:=Nat.mod_lt (A/2^(32*i)) (show 0<4294967296 by omega);omega
  have h2:B/2^(32*k)%4294967296<=4294967295:=by have:=Nat.mod_lt (B/2^(32*k)) (show 0<4294967296 by omega);omega
  have h3:=Nat.mul_le_mul h1 h2
  have h4:=Nat.mod_lt (eO A B i/2^(32*(i+k))) (show 0<4294967296 by omega)
  omega
theorem AJ(A B i k:Nat):uv A B i k (i+k)=bh (eO A B i) (i+k):=sN _ _ _
theorem Cc(A B i k:Nat):bh (li A B i (k+1)) (i+k)=((mI A B i k:Nat)+(bh A i*bh B k+bh (eO A B i) (i+k)))%4294967296:=by
 rw[cz (li _ _ _ _),vu,cz,cz,cz]
 refine Eq.trans (congrArg Nat.cast ?_) (qT _ _ _ _ 4294967296)
 generalize A/2^(32*i)%4294967296*(B/2^(32*k)%4294967296)=p
 generalize eO A B i/2^(32*(i+k))=z
 omega
theorem sd{A B i m:Nat}(hB:B<2^(32*m)):eO A B (i+1)=li A B i m:=by
 unfold eO li eO
 rw[dm,Nat.mod_eq_of_lt hB,Nat.add_mul];congr 1;ac_rfl
theorem za{A B i m:Nat}(hB:B<2^(32*m)):eO A B i<2^(32*(i+m)):=by
 unfold eO
 rw[show 32*(i+m)=32*i+32*m from by omega,Nat.pow_add]
 exact Nat.mul_lt_mul'' (Nat.mod_lt _ (Nat.two_pow_pos _)) hB
theorem AD(A B:Nat):eO A B 0=0:=by simp[eO,Nat.mod_one]
theorem BT{A B n:Nat}(hA:A<2^(32*n)):eO A B n=A*B:=by unfold eO;rw[Nat.mod_eq_of_lt hA]
theorem mW(k:Nat):bh 0 k=0:=by simp[bh]
theorem jp(X a k:Nat):bh (X/2^(32*a)) k=bh X (a+k):=by
 rw[cz,cz,Nat.div_div_eq_div_mul,<-Nat.pow_add,Nat.mul_add]
theorem vF(X a k:Nat):bh (X/kR a) k=bh X (a+k):=by rw[cM,jp]
theorem BF(a b D c:Nat):(a+b*D)%c=(a+b%c*D)%c:=by
 have h:b*D%c=b%c*D%c:=by rw[Nat.mul_mod b D c,Nat.mul_mod (b%c) D c,Nat.mod_mod b c]
 rw[Nat.add_mod,h,<-Nat.add_mod]
def fH(X D k:Nat):Nat:=X%2^(32*k)*D/2^(32*k)
theorem sJ(X D:Nat):fH X D 0=0:=by simp[fH,Nat.mod_one]
theorem tI(X k:Nat){D:Nat}(h:0<D):fH X D k<D:=by
 unfold fH
 rw[Nat.div_lt_iff_lt_mul (Nat.two_pow_pos _),Nat.mul_comm D]
 exact Nat.mul_lt_mul_of_pos_right (Nat.mod_lt _ (Nat.two_pow_pos _)) h
theorem xa(X D k:Nat):fH X D (k+1)=(fH X D k+X/2^(32*k)%4294967296*D)/4294967296:=by
 unfold fH
 rw[dm,cH,<-Nat.div_div_eq_div_mul,Nat.add_mul,Nat.mul_assoc,Nat.add_mul_div_left _ _ (Nat.two_pow_pos _)]
theorem sr(X D k:Nat):((fH X D (k+1):Nat):Int)=((fH X D k:Nat)+bh X k*(D:Nat))/4294967296:=by
 have h:=sU (fH X D k) (X/2^(32*k)%4294967296) D 0 4294967296
 simp only[Nat.add_zero,Int.add_zero,Int.natCast_zero,Int.cast_ofNat_Int] at h
 rw[xa,cz];exact h
theorem vo(X D k:Nat):bh (X*D) k=((fH X D k:Nat)+bh X k*(D:Nat))%4294967296:=by
 have h:=qT (fH X D k) (X/2^(32*k)%4294967296) D 0 4294967296
 simp only[Nat.add_zero,Int.add_zero,Int.natCast_zero,Int.cast_ofNat_Int] at h
 rw[cz,cz]
 refine Eq.trans (congrArg Nat.cast ?_) h
 have e:X*D/2^(32*k)=fH X D k+X/2^(32*k)*D:=by
  unfold fH
  rw[<-Nat.add_mul_div_left _ _ (Nat.two_pow_pos (32*k)),<-Nat.mul_assoc,<-Nat.add_mul,<-gJ]
 rw[e,BF]
theorem Cm{X D:Nat}(h:X<dT):fH X D 16=X*D/dT:=by
 unfold fH;rw[vX,Nat.mod_eq_of_lt h]
theorem Cl(X n k:Nat)(hn:n<=32):bh (X/2^n) k=(bh X (k+1)*4294967296+bh X k)/((2^n:Nat):Int)%4294967296:=by
 rw[cz,cz,cz,cH,<-Nat.div_div_eq_div_mul,Nat.div_div_eq_div_mul,Nat.mul_comm (2^n),<-Nat.div_div_eq_div_mul]
 generalize X/2^(32*k)=Y
 have e:(((Y/4294967296%4294967296:Nat):Int)*4294967296+((Y%4294967296:Nat):Int))=((Y%(2^n*(2^(32-n)*4294967296)):Nat):Int):=by
  rw[<-Nat.mul_assoc,<-Nat.pow_add,show n+(32-n)=32 from by omega,show(2:Nat)^32=4294967296 from rfl]
  omega
 rw[e,<-Int.natCast_ediv,Nat.mod_mul_right_div_self]
 generalize Y/2^n=Z
 have h:Z%4294967296=Z%(2^(32-n)*4294967296)%4294967296:=(Nat.mod_mul_left_mod _ _ _).symm
 rw[h]
 exact Int.natCast_emod _ 4294967296
theorem rO(X k j:Nat):bh (X/2^(32*k)*2^(32*k)) j=if j<k then 0 else bh X j:=by
 have h:=iY 0 (X/2^(32*k)) k j
 by_cases hj:j<k
 ·rw[if_pos hj];rw[Nat.zero_add] at h;rw[h hj,mW]
 ·rw[if_neg hj,show j=k+(j-k) from by omega,<-jp,Nat.mul_div_cancel _ (Nat.two_pow_pos _),jp]
def dV(X b k:Nat):Nat:=X/2^(32*k)%b
theorem wl(X k:Nat){b:Nat}(h:0<b):dV X b k<b:=Nat.mod_lt _ h
theorem qR(X k:Nat):X/2^(32*k)=X/2^(32*(k+1))*4294967296+X/2^(32*k)%4294967296:=by
 rw[cH,<-Nat.div_div_eq_div_mul];omega
theorem wY(X b k:Nat):dV X b k=(dV X b (k+1)*4294967296+X/2^(32*k)%4294967296)%b:=by
 unfold dV
 conv=>lhs;rw[qR X k]
 rw[Nat.add_comm,BF,Nat.add_comm]
theorem zS(X k:Nat){b:Nat}(hb:0<b)(h:b<=4294967295):X/b/2^(32*k)%4294967296=(dV X b (k+1)*4294967296+X/2^(32*k)%4294967296)/b:=by
 have e:X/b/2^(32*k)=X/2^(32*(k+1))/b*4294967296+(dV X b (k+1)*4294967296+X/2^(32*k)%4294967296)/b:=by
  rw[Nat.div_div_eq_div_mul,Nat.mul_comm,<-Nat.div_div_eq_div_mul]
  conv=>lhs;rw[qR X k]
  unfold dV
  generalize X/2^(32*(k+1))=Y
  generalize X/2^(32*k)%4294967296=z
  conv=>lhs;rw[show Y*4294967296+z=b*(Y/b*4294967296)+(Y%b*4294967296+z) from by
   have:=Nat.div_add_mod Y b
   conv=>lhs;rw[<-this]
   rw[Nat.add_mul,Nat.mul_assoc];omega]
  rw[Nat.mul_add_div hb]
 have hlt:(dV X b (k+1)*4294967296+X/2^(32*k)%4294967296)/b<4294967296:=by
  rw[Nat.div_lt_iff_lt_mul hb]
  have h1:=wl X (k+1) hb
  have h2:=Nat.mod_lt (X/2^(32*k)) (show 0<4294967296 by omega)
  have h3:(dV X b (k+1)+1)*4294967296<=b*4294967296:=Nat.mul_le_mul_right _ h1
  omega
 rw[e,Nat.mul_comm (_/b),Nat.mul_add_mod,Nat.mod_eq_of_lt hlt]
theorem zV(X b:Nat):dV X b 0=X%b:=by simp[dV]
structure Heads(W V P T F u v:Nat):Prop where
 w:W/P=T*4294967296+u
 d:V/P=F*4294967296+v
 u:u<4294967296
 v:v<4294967296
 one:1<=F
 pos:0<P
 lt:W<V*4294967296
variable{W V P T F u v:Nat}
theorem Heads.key{d r:Nat}(h:d*F+r=T):d*(F*4294967296+v)+r*4294967296=T*4294967296+d*v:=by
 rw[<-h,Nat.mul_add,Nat.add_mul,Nat.mul_assoc];omega
theorem Heads.vpos(H:Heads W V P T F u v):0<V:=by
 rcases Nat.eq_zero_or_pos V with h|h
 ·have:=H.lt;rw[h] at this;omega
 ·exact h
theorem Heads.over(H:Heads W V P T F u v){d:Nat}(h:W/P<d*(V/P)):W/V<d:=by
 apply Nat.div_lt_of_lt_mul
 have h1:W<(W/P+1)*P:=by have:=Nat.div_add_mod W P;have:=Nat.mod_lt W H.pos;rw[Nat.add_mul,Nat.mul_comm (W/P)];omega
 have h2:(W/P+1)*P<=d*(V/P)*P:=Nat.mul_le_mul_right _ h
 have h3:d*(V/P)*P<=d*V:=by rw[Nat.mul_assoc];exact Nat.mul_le_mul_left _ (Nat.div_mul_le_self V P)
 rw[Nat.mul_comm V];omega
theorem Heads.under(H:Heads W V P T F u v){d:Nat}(h:d*(V/P)<=W/P)(hd:d<4294967296):d<=W/V+1:=by
 rcases Nat.eq_zero_or_pos d with h0|h0
 ·rw[h0];exact Nat.zero_le _
 obtain⟨e,rfl⟩:∃ e,d=e+1:=⟨d-1,by omega⟩
 have hb:e<=V/P:=by rw[H.d];have h1:1*4294967296<=F*4294967296:=Nat.mul_le_mul_right _ H.one;omega
 have:e<=W/V:=by
  rw[Nat.le_div_iff_mul_le H.vpos]
  have h1:V<=(V/P+1)*P:=by have:=Nat.div_add_mod V P;have:=Nat.mod_lt V H.pos;rw[Nat.add_mul,Nat.mul_comm (V/P)];omega
  have h2:e*V<=e*((V/P+1)*P):=Nat.mul_le_mul_left _ h1
  have h3:e*((V/P+1)*P)<=(e+1)*(V/P)*P:=by
   rw[<-Nat.mul_assoc];apply Nat.mul_le_mul_right;rw[Nat.mul_add,Nat.add_mul];omega
  have h4:(e+1)*(V/P)*P<=W/P*P:=Nat.mul_le_mul_right _ h
  have h5:=Nat.div_mul_le_self W P
  omega
 exact Nat.succ_le_succ this
theorem Heads.q_lt(H:Heads W V P T F u v):W/V<4294967296:=Nat.div_lt_of_lt_mul (by have:=H.lt;omega)
theorem Heads.start(H:Heads W V P T F u v):W/V<=T/F:=by
 have h1:W/V<T/F+1:=by
  apply H.over
  rw[H.w,H.d]
  have h2:T<(T/F+1)*F:=by have:=Nat.div_add_mod T F;have:=Nat.mod_lt T (show 0<F from H.one);rw[Nat.add_mul,Nat.mul_comm (T/F)];omega
  have h3:(T+1)*4294967296<=(T/F+1)*F*4294967296:=Nat.mul_le_mul_right _ h2
  have h4:(T/F+1)*F*4294967296<=(T/F+1)*(F*4294967296+v):=by rw[Nat.mul_assoc];exact Nat.mul_le_mul_left _ (Nat.le_add_right _ _)
  have h5:=H.u
  exact Nat.lt_of_lt_of_le (by omega) (Nat.le_trans h3 h4)
 exact Nat.le_of_lt_succ h1
theorem Heads.step_big(H:Heads W V P T F u v){d:Nat}(h:4294967296<=d):W/V<=d-1:=Nat.le_sub_one_of_lt (Nat.lt_of_lt_of_le H.q_lt h)
theorem B4{A B T r u c:Nat}(hk:A+r*c=T*c+B)(ht:r*c+u<B):T*c+u<A:=by omega
theorem Heads.step(H:Heads W V P T F u v){d r:Nat}(h:d*F+r=T)(ht:r*4294967296+u<d*v):W/V<=d-1/\1<=d:=by
 have h1:W/V<d:=by
  apply H.over
  rw[H.w,H.d]
  exact B4 (Heads.key (v:=v) h) ht
 exact⟨Nat.le_sub_one_of_lt h1,Nat.lt_of_le_of_lt (Nat.zero_le _) h1⟩
theorem Heads.t_lt(H:Heads W V P T F u v):T<(F+1)*4294967296:=by
 have h1:W/P*P<=W:=Nat.div_mul_le_self W P
 have h2:V<(V/P+1)*P:=by have:=Nat.div_add_mod V P;have:=Nat.mod_lt V H.pos;rw[Nat.add_mul,Nat.mul_comm (V/P)];omega
 have h3:V*4294967296<(V/P+1)*P*4294967296:=Nat.mul_lt_mul_of_pos_right h2 (by omega)
 have h4:=H.lt
 have h5:W/P*P<(V/P+1)*4294967296*P:=by rw[Nat.mul_right_comm];omega
 have h6:W/P<(V/P+1)*4294967296:=Nat.lt_of_mul_lt_mul_right h5
 rw[H.w,H.d] at h6
 have h7:=H.v
 rw[Nat.add_mul]
 omega
theorem Heads.done(H:Heads W V P T F u v){d r:Nat}(h:d*F+r=T)(hr:4294967296<=r\/(d<4294967296/\d*v<=r*4294967296+u)):d<4294967296/\d<=W/V+1:=by
 have hd:d<4294967296:=by
  rcases hr with hr|hr
  ·have h1:=H.t_lt
   rw[Nat.add_mul,Nat.one_mul] at h1
   have h2:d*F<4294967296*F:=by omega
   exact Nat.lt_of_mul_lt_mul_right h2
  ·exact hr.1
 refine⟨hd,H.under ?_ hd⟩
 rw[H.w,H.d]
 have hk:=Heads.key (v:=v) h
 rcases hr with hr|hr
 ·have h1:d*v<=4294967295*4294967295:=Nat.mul_le_mul (by omega) (by have:=H.v;omega)
  omega
 ·omega
def dg(X k:Nat):Nat:=X/2^(32*k)%4294967296
theorem nq(X k:Nat):bh X k=(dg X k:Nat):=rfl
theorem eE(X k:Nat):dg X k<4294967296:=Nat.mod_lt _ (by omega)
theorem yM(X k:Nat):dg X k<=4294967295:=Nat.le_of_lt_succ (eE X k)
theorem mQ(X k:Nat):X/2^(32*k)=X/2^(32*(k+1))*4294967296+dg X k:=qR X k
theorem iG{X k:Nat}(h:X<2^(32*(k+1))):X/2^(32*k)=dg X k:=by
 rw[mQ,Nat.div_eq_of_lt h,Nat.zero_mul,Nat.zero_add]
theorem CC{U V e j:Nat}(hV:V<2^(32*(e+2)))(hV1:2^(32*(e+1))<=V)(hU:U/2^(32*j)<V*4294967296) :
  Heads (U/2^(32*j)) V (2^(32*e)) (dg U (j+e+2)*4294967296+dg U (j+e+1)) (dg V (e+1)) (dg U (j+e)) (dg V e):=by
 have hc:∀ k,U/2^(32*j)/2^(32*k)=U/2^(32*(j+k)):=fun k=>by rw[Nat.div_div_eq_div_mul,<-Nat.pow_add,Nat.mul_add]
 have hUl:U<2^(32*(j+e+2+1)):=by
  have h1:=(Nat.div_lt_iff_lt_mul (Nat.two_pow_pos (32*j))).1 hU
  have h2:V*4294967296*2^(32*j)<2^(32*(e+2))*4294967296*2^(32*j):=Nat.mul_lt_mul_of_pos_right (Nat.mul_lt_mul_of_pos_right hV (by omega)) (Nat.two_pow_pos _)
  have h3:2^(32*(e+2))*4294967296*2^(32*j)=2^(32*(j+e+2+1)):=by
   rw[cH (j+e+2),show 32*(j+e+2)=32*j+32*(e+2) from by omega,Nat.pow_add,Nat.mul_right_comm,Nat.mul_comm (2^(32*(e+2))) (2^(32*j))]
  rw[<-h3];exact Nat.lt_trans h1 h2
 refine⟨?_,?_,eE _ _,eE _ _,?_,Nat.two_pow_pos _,hU⟩
 ·rw[hc,mQ,mQ U (j+e+1),iG hUl]
 ·rw[mQ,iG hV]
 ·rw[<-iG hV];exact(Nat.le_div_iff_mul_le (Nat.two_pow_pos _)).2 (by rw[Nat.one_mul];exact hV1)
theorem GC(U i k:Nat):dg U i*4294967296+dg U k<=18446744073709551615:=by
 have h1:=yM U i;have h2:=yM U k;omega
theorem xC{T F D R:Nat}(h:D*F+R=T)(hD:1<=D):(D-1)*F+(R+F)=T:=by
 obtain⟨E,rfl⟩:∃ E,D=E+1:=⟨D-1,by omega⟩
 rw[Nat.add_mul,Nat.one_mul] at h
 rw[Nat.add_sub_cancel];omega
theorem rE{X X' Y k:Nat}(h:X%2^(32*k)=X'%2^(32*k)):bz X Y k=bz X' Y k:=by unfold bz;rw[h]
def dU(U Z j:Nat):Nat:=U%2^(32*j)+Z*2^(32*j)
theorem zZ{U Z j t:Nat}(h:t<j):bh (dU U Z j) t=bh U t:=by
 unfold dU;rw[iY _ _ _ _ h,g9,if_pos h]
theorem yp(U Z j i:Nat):bh (dU U Z j) (j+i)=bh Z i:=by
 rw[<-jp];unfold dU
 rw[Nat.add_mul_div_right _ _ (Nat.two_pow_pos _),Nat.div_eq_of_lt (Nat.mod_lt _ (Nat.two_pow_pos _)),Nat.zero_add]
def re(U Z j i:Nat):Nat->Int:=rF (j+i) (dU U Z j) U
theorem te(U Z j:Nat):re U Z j 0=bh U:=by
 funext t;unfold re rF;split
 ·rename_i h;exact zZ (by omega)
 ·rfl
theorem kw(U Z j i:Nat):re U Z j i (j+i)=bh U (j+i):=sN _ _ _
def jW(W Y m:Nat):Nat:=(W+2^(32*m)-Y)%2^(32*m)
theorem AX{W Y m i:Nat}(hi:i<m)(hY:Y<=2^(32*m)):bh (jW W Y m) i=(bh W i-bh Y i-(bz W Y i:Nat))%4294967296:=by
 have hd:bh (W+2^(32*m)) i=bh W i:=by
  have:=iY W 1 m i hi;rwa [Nat.one_mul] at this
 have hb:bz (W+2^(32*m)) Y i=bz W Y i:=rE (by
  rw[show 32*m=32*i+(32*m-32*i) from by omega,Nat.pow_add,Nat.add_mul_mod_self_left])
 unfold jW
 rw[g9,if_pos hi,yR (by omega),hd,hb]
theorem B8(W Y m:Nat):jW W Y m<2^(32*m):=Nat.mod_lt _ (Nat.two_pow_pos _)
theorem uH{W Y m:Nat}(hW:W<2^(32*m))(hY:Y<2^(32*m)):bz W Y m=if W<Y then 1 else 0:=by
 unfold bz;rw[Nat.mod_eq_of_lt hW,Nat.mod_eq_of_lt hY]
def de(N V j:Nat):Nat:=N/V%2^(32*j)*V+N%V
theorem Ag(N V:Nat):de N V 0=N%V:=by simp[de,Nat.mod_one]
theorem yi{N V k:Nat}(h:N/V<2^(32*k)):de N V k=N:=by
 unfold de;rw[Nat.mod_eq_of_lt h,Nat.mul_comm];exact Nat.div_add_mod N V
theorem sf(N V j:Nat):de N V (j+1)=de N V j+dg (N/V) j*V*2^(32*j):=by
 unfold de dg
 rw[dm]
 generalize N/V/2^(32*j)%4294967296=t
 generalize 2^(32*j)=P
 rw[Nat.add_mul,show P*t*V=t*V*P from by rw[Nat.mul_comm P t,Nat.mul_right_comm]]
 omega
theorem ub{N V:Nat}(j:Nat)(h:0<V):de N V j<V*2^(32*j):=by
 unfold de
 have h1:=Nat.mod_lt (N/V) (Nat.two_pow_pos (32*j))
 have h2:=Nat.mod_lt N h
 have h3:(N/V%2^(32*j)+1)*V<=2^(32*j)*V:=Nat.mul_le_mul_right _ h1
 rw[Nat.add_mul,Nat.one_mul] at h3
 rw[Nat.mul_comm V];omega
theorem mN{N V:Nat}(j:Nat)(h:0<V):de N V j/2^(32*j)<V:=by
 rw[Nat.div_lt_iff_lt_mul (Nat.two_pow_pos _)];exact ub j h
theorem nW(N V j:Nat):de N V (j+1)/2^(32*j)=de N V j/2^(32*j)+V*dg (N/V) j:=by
 rw[sf,Nat.add_mul_div_right _ _ (Nat.two_pow_pos _),Nat.mul_comm V]
theorem vr(N V j:Nat):de N V (j+1)%2^(32*j)=de N V j%2^(32*j):=by
 rw[sf,Nat.add_mul_mod_self_right]
theorem Bl{N V:Nat}(j:Nat)(h:0<V):de N V (j+1)/2^(32*j)/V=dg (N/V) j:=by
 rw[nW,Nat.add_mul_div_left _ _ h,Nat.div_eq_of_lt (mN j h),Nat.zero_add]
theorem Bt{N V:Nat}(j:Nat)(h:0<V):de N V (j+1)/2^(32*j)<V*4294967296:=by
 rw[Nat.div_lt_iff_lt_mul (Nat.two_pow_pos _),Nat.mul_assoc,Nat.mul_comm 4294967296,<-cH];exact ub (j+1) h
theorem A1{N V n:Nat}(j:Nat)(h:0<V)(hV:V<2^(32*n)):de N V (j+1)<2^(32*(j+n+1)):=by
 have h1:=ub (N:=N) (j+1) h
 have h2:V*2^(32*(j+1))<2^(32*n)*2^(32*(j+1)):=Nat.mul_lt_mul_of_pos_right hV (Nat.two_pow_pos _)
 rw[<-Nat.pow_add,show 32*n+32*(j+1)=32*(j+n+1) from by omega] at h2
 omega
theorem rY{U U' j:Nat}(h:U%2^(32*j)=U'%2^(32*j)):dU U (U'/2^(32*j)) j=U':=by
 unfold dU;rw[h,Nat.mul_comm (U'/2^(32*j)) (2^(32*j))];exact Nat.mod_add_div U' _
theorem Ah(U Z j:Nat):dU U Z j%2^(32*j)=U%2^(32*j):=by
 unfold dU;rw[Nat.add_mul_mod_self_right,Nat.mod_mod]
theorem Av(U Z j:Nat):dU U Z j/2^(32*j)=Z:=by
 unfold dU;rw[Nat.add_mul_div_right _ _ (Nat.two_pow_pos _),Nat.div_eq_of_lt (Nat.mod_lt _ (Nat.two_pow_pos _)),Nat.zero_add]
theorem vn{U Z j m:Nat}(hZ:Z<2^(32*m)):dU U Z j<2^(32*(j+m)):=by
 have h1:dU U Z j<(Z+1)*2^(32*j):=by unfold dU;have:=Nat.mod_lt U (Nat.two_pow_pos (32*j));rw[Nat.add_mul];omega
 have h2:(Z+1)*2^(32*j)<=2^(32*m)*2^(32*j):=Nat.mul_le_mul_right _ hZ
 rw[<-Nat.pow_add,show 32*m+32*j=32*(j+m) from by omega] at h2
 omega
variable{N V n:Nat}
theorem lQ(hV:V<2^(32*n)):V<2^(32*(n+1)):=Nat.lt_of_lt_of_le hV (Nat.pow_le_pow_right (by omega) (by omega))
theorem uA{x y B:Nat}(hx:x<B):(x+y+B-y)%B=x:=by
 rw[show x+y+B-y=x+B from by omega,Nat.add_mod_right,Nat.mod_eq_of_lt hx]
theorem vK(j:Nat)(h:0<V)(hV:V<2^(32*n)) :
  dU (de N V (j+1)) (jW (de N V (j+1)/2^(32*j)) (V*dg (N/V) j) (n+1)) j=de N V j:=by
 have e:jW (de N V (j+1)/2^(32*j)) (V*dg (N/V) j) (n+1)=de N V j/2^(32*j):=by
  unfold jW;rw[nW];exact uA (Nat.lt_trans (mN j h) (lQ hV))
 rw[e,rY (vr N V j)]
theorem Ak(j:Nat)(h:0<V)(hV:V<2^(32*n)) :
  jW (de N V (j+1)/2^(32*j)) (V*(dg (N/V) j+1)) (n+1)=de N V j/2^(32*j)+2^(32*(n+1))-V:=by
 have h1:=mN (N:=N) j h
 have h2:=lQ hV
 unfold jW
 rw[nW,Nat.mul_add V (dg (N/V) j) 1,Nat.mul_one]
 generalize 2^(32*(n+1))=B at *
 generalize de N V j/2^(32*j)=x at *
 generalize V*dg (N/V) j=y
 rw[show x+y+B-(y+V)=x+B-V from by omega,Nat.mod_eq_of_lt (by omega)]
theorem wE(j:Nat)(h:0<V)(hV:V<2^(32*n)){U1:Nat}(e1:U1=dU (de N V (j+1)) (jW (de N V (j+1)/2^(32*j)) (V*(dg (N/V) j+1)) (n+1)) j) :
  dU U1 ((U1/2^(32*j)+V)%2^(32*(n+1))) j=de N V j:=by
 have h1:=mN (N:=N) j h
 have h2:=lQ hV
 have e2:(U1/2^(32*j)+V)%2^(32*(n+1))=de N V j/2^(32*j):=by
  rw[e1,Av,Ak j h hV]
  generalize 2^(32*(n+1))=B at *
  generalize de N V j/2^(32*j)=x at *
  rw[show x+B-V+V=x+B from by omega,Nat.add_mod_right,Nat.mod_eq_of_lt (by omega)]
 rw[e2,rY (by rw[e1,Ah,vr])]
end Go.Proofs.YtjjjkojfijpeeaaGreat
end
section
set_option linter.unusedVariables false
namespace Go.Proofs.YtjjjkojfijpeeaaGreat.Sy
open Go Go.Proofs Go.Proofs.YtjjjkojfijpeeaaGreat.Geo
def ck(n:Nat)(f:Nat->Int):D:=.st ((List.range n).map fun i=>.int .u32 (f i))
abbrev LM(X:Nat):D:=ck 16 (bh X)
theorem aV{n i:Nat}(f:Nat->Int)(h:i<n):D.get (ck n f) [i]=some (.int .u32 (f i)):=by
 simp[ck,D.get,D.fld,h]
theorem cK{n:Nat}{f g:Nat->Int}(h:∀ i,i<n->f i=g i):ck n f=ck n g:=by
 unfold ck
 congr 1
 exact List.map_congr_left fun i hi=>by rw[h i (List.mem_range.1 hi)]
theorem kr{n i:Nat}{f g:Nat->Int}{v:Int}(h:i<n)(hg:∀ j,j<n->g j=if j=i then v else f j):D.set (ck n f) [i] (.int .u32 v)=some (ck n g):=by
 have e:((List.range n).map fun i=>D.int .u32 (f i))[i]?=some (.int .u32 (f i)):=by simp[h]
 simp only[ck,D.set,e,Option.bind_some]
 congr 2
 apply List.ext_getElem?
 intro j
 by_cases hj:j<n
 ·rw[List.getElem?_set]
  by_cases hij:i=j
  ·subst hij;simp[h,hg i h]
  ·simp[hij,hj,hg j hj,show ¬ j=i from fun e=>hij e.symm]
 ·rw[List.getElem?_eq_none (by simp;omega),List.getElem?_eq_none (by simp;omega)]
theorem qP(f g:Nat->Int):∀ l:List Nat,D.beqs (l.map fun i=>D.int .u32 (f i)) (l.map fun i=>D.int .u32 (g i))=l.all fun i=>decide (f i=g i)
 | []=>rfl
 | i::l=>by simp only[List.map_cons,D.beqs,D.beq,List.all_cons,qP f g l];simp
theorem D4(n:Nat)(f g:Nat->Int):D.beq (ck n f) (ck n g)=decide (∀ i,i<n->f i=g i):=by
 simp only[ck,D.beq,qP]
 rw[Bool.eq_iff_iff]
 simp
theorem lz{X Y:Nat}(hX:X<dT)(hY:Y<dT):D.beq (LM X) (LM Y)=decide (X=Y):=by
 rw[D4,decide_eq_decide]
 constructor
 ·exact AW hX hY
 ·rintro rfl;exact fun _ _=>rfl
theorem ib:D.st (D.putParts (List.replicate 16 (D.int .u32 0)) [])=LM 0:=by
 have:LM 0=ck 16 (fun _=>0):=cK fun i _=>mW i
 rw[this];rfl
theorem gP:aC aP=LM 0:=by
 have:LM 0=ck 16 (fun _=>0):=cK fun i _=>mW i
 rw[this];rfl
theorem F4(i:Nat):2^(32*i)=4294967296^i:=by rw[Nat.pow_mul]
theorem AI(m:Nat):cZ (av m)=LM m:=by
 unfold cZ LM ck
 congr 1
 refine List.map_congr_left fun i _=>?_
 rw[gz]
 unfold bh
 rw[F4]
theorem ca(x:Int):ai x=.st [.bool false,.bool (decide (x<0)),LM x.natAbs]:=by unfold ai;rw[AI]
theorem xh(a b c:Nat)(h:a*b=c):((2:Nat)^a)^b=2^c:=by rw[<-Nat.pow_mul,h]
theorem zK:(65536:Nat)^32=dT:=(xh 16 32 (32*16) rfl).trans ((cM 16).symm.trans fD.symm)
def under(X k:Nat):Prop:=X<2^(32*k)
theorem xE{X k:Nat}(hk:k=16)(h:X<dT):under X k:=by subst hk;unfold under;rw[vX];exact h
theorem xX{X k:Nat}(hk:k<=16)(h:X<2^(32*k)):X<dT:=by
 rw[<-cM] at h
 rw[fD]
 exact Nat.lt_of_lt_of_le h (ld hk)
theorem bm{x:Int}:In x↔x.natAbs<dT:=by unfold In;rw[zK]
def GU:D:=.st [.bool true,.bool false,LM 0]
def fh:Option Int->D
 | some x=>ai x
 | none=>GU
def AY(a:Option Int):Prop:=∀ x,a=some x->In x
noncomputable def rp(x:Int):Option Int:=if x.natAbs<dT then some x else none
theorem yL{x:Int}(h:In x):rp x=some x:=by unfold rp;rw[if_pos (bm.1 h)]
theorem AY.some{x:Int}(h:AY (some x)):In x:=h x rfl
theorem bU{x:Int}(h:In x):AY (some x):=fun y e=>by cases e;exact h
abbrev W(n:Int):D:=.int .u64 n
theorem Bh{k:IntKind}{a:Int}(h0:0<=a)(h:a<18446744073709551616):D.conv .u64 (.int k a)=some (W a):=by simp only[D.conv,fE ⟨h0,h⟩]
theorem qX{a b:Int}(h0:0<=a+b)(h:a+b<18446744073709551616):D.bin .add (W a) (W b)=some (W (a+b)):=by simp only[D.bin,if_true,fE ⟨h0,h⟩]
theorem q9(a b:Int):D.bin .sub (W a) (W b)=some (W (IntKind.u64.wrap (a-b))):=by simp only[D.bin,if_true]
theorem FH{a b:Int}(h0:0<=a*b)(h:a*b<18446744073709551616):D.bin .mul (W a) (W b)=some (W (a*b)):=by simp only[D.bin,if_true,fE ⟨h0,h⟩]
theorem gf(a:Int):D.conv .u32 (W a)=some (.int .u32 (a%4294967296)):=by
 simp only[D.conv];rfl
theorem qi{a:Int}(h:0<=a):D.bin .shr (W a) (.int .u64 32)=some (W (a/4294967296)):=by
 simp only[D.bin]
 rw[if_neg (by decide),Int.fdiv_eq_ediv_of_nonneg _ (by decide)];rfl
theorem uz{a:Int}:D.bin .shr (W a) (.int .u64 63)=some (W (a/9223372036854775808)):=by
 simp only[D.bin]
 rw[if_neg (by decide),Int.fdiv_eq_ediv_of_nonneg _ (by decide)];rfl
theorem dM{i n:Nat}(h:i<n):D.idx (I (i:Int)) n=some i:=aE h
theorem dD(X k:Nat):D.conv .u64 (.int .u32 (bh X k))=some (W (bh X k)):=Bh (bS X k) (by have:=qh X k;omega)
theorem oO{Z k:Nat}(hk:k<16):D.set (LM (Z%2^(32*k))) [k] (.int .u32 (bh Z k))=some (LM (Z%2^(32*(k+1)))):=
 kr hk fun j hj=>by
  rw[g9,g9]
  by_cases e:j=k
  ·subst e;simp
  ·rw[if_neg e]
   by_cases h:j<k
   ·rw[if_pos h,if_pos (by omega)]
   ·rw[if_neg h,if_neg (by omega)]
theorem o7(Z:Nat):LM (Z%2^(32*0))=LM 0:=by simp[Nat.mod_one]
theorem EA(Z k:Nat)(hk:k=16):LM (Z%2^(32*k))=LM Z:=cK fun j hj=>by rw[g9,if_pos (by omega)]
theorem lZ(Z:Nat):LM (Z%2^(32*16))=LM Z:=EA Z 16 rfl
theorem Hx(n:Nat){a:Option Int}(ha:AY a):cA (n+1) 167 [fh a]=some (.bool true):=by
 rw[Lc]
 unfold D1
 cases a with
 | none=>
  refine aa (z:=LM 0) rfl (aa (z:=.bool true) rfl (aa (z:=true) rfl ?_))
  rw[if_pos rfl,ib,lz eZ eZ,decide_eq_true rfl]
  rfl
 | some x=>
  have hx:=bm.1 ha.some
  simp only[fh,ca]
  refine aa (z:=LM x.natAbs) rfl (aa (z:=.bool false) rfl (aa (z:=false) rfl ?_))
  rw[if_neg (by decide),ib,lz hx eZ]
  refine aa cO (aa ag ?_)
  by_cases h:x.natAbs=0
  ·rw[decide_eq_true h]
   have:decide (x<0)=false:=decide_eq_false (by omega)
   rw[this];rfl
  ·rw[decide_eq_false h];rfl
theorem Hd(n:Nat){l:List (Option Int)}(hl:l.length<=1000)(h:∀ a∈l,AY a):cA (n+2) 118 [.sl (l.map fh)]=some (.bool (l.all Option.isSome)):=by
 rw[Kg]
 unfold Dx
 refine aa (z:=l.map fh) rfl ?_
 refine bq (fun i s=>s=[I (i:Int)]/\(l.take i).all Option.isSome=true) l.length 0 (Nat.zero_le _) ⟨rfl,rfl⟩ (fun i hi s hJ=>?_) (fun s hJ=>?_)
 ·obtain⟨rfl,ht⟩:=hJ
  have hg:(l.map fh)[i]?=some (fh l[i]):=by simp[hi]
  have hb:D.bin .lss (I (i:Int)) (D.int .i64 (l.map fh).length)=some (.bool true):=by
   rw[am,decide_eq_true (by rw[List.length_map];omega)]
  have hix:D.idx (I (i:Int)) (l.map fh).length=some i:=aE (by rw[List.length_map];exact hi)
  have hin:=h l[i] (List.getElem_mem hi)
  cases ha:l[i] with
  | none=>
   right
   refine⟨(0,[.bool false]),?_,?_⟩
   ·refine aa hb (aa (z:=true) rfl ?_)
    rw[if_pos rfl]
    refine aa (z:=l.map fh) rfl (aa hix (aa hg ?_))
    rw[ha]
    exact aa (z:=.bool true) rfl (aa (z:=true) rfl (aa (z:=true) rfl (aa (z:=true) rfl rfl)))
   ·have:l.all Option.isSome=false:=by
     rw[Bool.eq_false_iff]
     intro hall
     have:=List.all_eq_true.1 hall l[i] (List.getElem_mem hi)
     rw[ha] at this;cases this
    rw[this];rfl
  | some x=>
   left
   refine⟨[I ((i+1:Nat):Int)],?_,rfl,?_⟩
   ·refine aa hb (aa (z:=true) rfl ?_)
    rw[if_pos rfl]
    refine aa (z:=l.map fh) rfl (aa hix (aa hg ?_))
    rw[ha] at hin ⊢
    refine aa (z:=.bool false) rfl (aa (z:=false) rfl (aa (z:=false) ?_ (aa (z:=false) rfl ?_)))
    ·rw[if_neg (by decide)];exact aa (Hx n hin) rfl
    ·rw[if_neg (by decide)];exact aa (aS (aK (i:=i) (by omega))) rfl
   ·rw[List.take_succ_eq_append_getElem hi,List.all_append,ht,ha];rfl
 ·obtain⟨rfl,ht⟩:=hJ
  rw[List.take_length] at ht
  refine⟨(1,[]),?_,?_⟩
  ·have hb:D.bin .lss (I (l.length:Int)) (D.int .i64 (l.map fh).length)=some (.bool false):=by
    rw[am,decide_eq_false (by rw[List.length_map];omega)]
   exact aa hb (aa (z:=false) rfl rfl)
  ·rw[ht];rfl
theorem kZ(n:Nat){a:Option Int}(ha:AY a):cA (n+2) 118 [.sl [fh a]]=some (.bool a.isSome):=by
 have:=Hd n (l:=[a]) (by simp) (fun b hb=>by rw[List.mem_singleton.1 hb];exact ha)
 simpa using this
theorem tO(n:Nat){a b:Option Int}(ha:AY a)(hb:AY b):cA (n+2) 118 [.sl [fh a,fh b]]=some (.bool (a.isSome&&b.isSome)):=by
 have:=Hd n (l:=[a,b]) (by simp) (fun c hc=>by
  simp only[List.mem_cons,List.not_mem_nil,or_false] at hc
  rcases hc with rfl|rfl
  ·exact ha
  ·exact hb)
 simpa using this
theorem Bg(n:Nat):cA (n+1) 119 []=some GU:=by
 rw[Kj];unfold Ee;rw[gP];rfl
theorem ol(neg:Bool)(m:Nat):decide (sgn neg m<0)=(neg&&!(decide (m=0))):=by
 unfold sgn
 cases neg<;>by_cases h:m=0<;>simp[h]<;>omega
theorem tg(neg:Bool)(m:Nat):(sgn neg m).natAbs=m:=by unfold sgn;cases neg<;>simp
theorem ul(n:Nat)(neg:Bool){m:Nat}(h:m<dT):cA (n+1) 116 [.bool neg,LM m]=some (ai (sgn neg m)):=by
 rw[Ju]
 unfold DW
 rw[ib,lz h eZ,ca,ol,tg]
 refine aa (z:=neg) rfl (aa (z:=neg&&!(decide (m=0))) ?_ rfl)
 cases neg<;>rfl
theorem J5(n:Nat){X Y:Nat}(hX:X<dT)(hY:Y<dT):cA (n+1) 120 [LM X,LM Y]=some (.tup [LM (X+Y),.bool (decide (X+Y<dT))]):=by
 rw[JV]
 unfold Ea
 rw[gP]
 refine bq (fun k s=>s=[W (em X Y k:Nat),I (k:Int),LM ((X+Y)%2^(32*k))]) 16 0 (Nat.zero_le _) (by rw[oG,o7];rfl) (fun k hk s hJ=>?_) (fun s hJ=>?_)
 ·subst hJ
  left
  refine⟨_,?_,rfl⟩
  have hc:=km X Y k
  have x0:=bS X k;have x1:=qh X k
  have y0:=bS Y k;have y1:=qh Y k
  refine aa am (aa ag (aZ (by show(k:Int)<16;omega) ?_))
  refine aa (dM hk) (aa (aV _ hk) (aa (dD X k) (aa (dM hk) (aa (aV _ hk) (aa (dD Y k) ?_)))))
  refine aa (qX (by omega) (by omega)) (aa (qX (by omega) (by omega)) (aa (gf _) (aa (dM hk) ?_)))
  rw[<-zx]
  refine aa (oO hk) (aa (qi (by omega)) ?_)
  rw[<-oe]
  exact aa (aS (aK (i:=k) (by omega))) rfl
 ·subst hJ
  refine⟨_,aa am (aa ag (aY (by decide) rfl)),?_⟩
  rw[lZ,AN hX hY]
  by_cases h:X+Y<dT
  ·rw[if_pos h,decide_eq_true h];rfl
  ·rw[if_neg h,decide_eq_false h];rfl
theorem GX(n:Nat)(a:Int):cA (n+1) 194 [.int .u32 a]=some (.bool false):=by
 rw[Lu];simp[DP,D.beq]
theorem LR(n:Nat)(a b:Int):cA (n+2) 168 [.int .u32 a,.int .u32 b]=some (I (ba a b)):=by
 rw[JL]
 unfold Di
 refine aa (GX n a) (aa (GX n b) (aa (z:=false) rfl ?_))
 rw[if_neg (by decide)]
 refine aa (z:=false) rfl ?_
 rw[if_neg (by decide)]
 refine aa (z:=.bool (decide (a<b))) (by simp only[D.bin,if_true]) (aa ag ?_)
 unfold ba
 by_cases h:a<b
 ·rw[if_pos h];exact aZ h rfl
 ·rw[if_neg h]
  refine aY h (aa (z:=.bool (decide (a>b))) (by simp only[D.bin,if_true]) (aa ag ?_))
  by_cases h2:a>b
  ·rw[if_pos h2];exact aZ h2 rfl
  ·rw[if_neg h2];exact aY h2 rfl
theorem Ds(n:Nat){X Y:Nat}(hX:X<dT)(hY:Y<dT):cA (n+3) 121 [LM X,LM Y]=some (I (ba X Y)):=by
 rw[JM]
 unfold Eh
 refine bq (fun t s=>s=[I (15-(t:Int))]/\ir X Y (16-t)) 16 0 (Nat.zero_le _) ⟨rfl,zO hX hY⟩ (fun t ht s hJ=>?_) (fun s hJ=>?_)
 ·obtain⟨rfl,he⟩:=hJ
  obtain⟨k,hk⟩:∃ k,k=15-t:=⟨_,rfl⟩
  have hk16:k<16:=by omega
  have e1:(15-(t:Int))=(k:Int):=by omega
  rw[show 16-t=k+1 by omega] at he
  rw[e1]
  have hix:D.idx (I (k:Int)) 16=some k:=dM hk16
  have hb:D.bin .geq (I (k:Int)) (D.int .i64 0)=some (.bool true):=by rw[iU,decide_eq_true (by omega)]
  by_cases hd:bh X k=bh Y k
  ·left
   refine⟨[I ((k:Int)-1)],?_,?_,?_⟩
   ·refine aa hb (aa (z:=true) rfl ?_)
    rw[if_pos rfl]
    refine aa hix (aa (aV _ hk16) (aa hix (aa (aV _ hk16) (aa (z:=false) ?_ ?_))))
    ·rw[hd];simp[D.beq,D.truth]
    ·rw[if_neg (by decide)];exact aa (ew (by simp only[inR];omega)) rfl
   ·congr 2;omega
   ·rw[show 16-(t+1)=k by omega];exact wp he hd
  ·right
   refine⟨(0,[I (ba (bh X k) (bh Y k))]),?_,?_⟩
   ·refine aa hb (aa (z:=true) rfl ?_)
    rw[if_pos rfl]
    refine aa hix (aa (aV _ hk16) (aa hix (aa (aV _ hk16) (aa (z:=true) ?_ ?_))))
    ·simp[D.beq,D.truth,hd]
    ·rw[if_pos rfl]
     exact aa hix (aa (aV _ hk16) (aa hix (aa (aV _ hk16) (aa (LR n _ _) rfl))))
   ·have hs:=uI he hd
    rw[if_pos rfl]
    show some (I (ba (bh X k) (bh Y k)))=_
    congr 2
    unfold Go.Proofs.YtjjjkojfijpeeaaGreat.sgn at hs
    unfold ba
    repeat' split at hs
    all_goals (repeat' split)<;>omega
 ·obtain⟨rfl,he⟩:=hJ
  refine⟨(1,[]),aa iU (aa ag (aY (by decide) rfl)),?_⟩
  rw[if_neg (by decide)]
  have hs:=zW he
  congr 2
  unfold Go.Proofs.YtjjjkojfijpeeaaGreat.sgn at hs
  unfold ba
  repeat' split at hs
  all_goals (repeat' split)<;>omega
theorem HJ(n:Nat){X Y:Nat}(hX:X<dT)(h:Y<=X):cA (n+1) 122 [LM X,LM Y]=some (LM (X-Y)):=by
 rw[Li]
 unfold EP
 rw[gP]
 refine bq (fun k s=>s=[W (bz X Y k:Nat),I (k:Int),LM ((X-Y)%2^(32*k))]) 16 0 (Nat.zero_le _) (by rw[mt,o7];rfl) (fun k hk s hJ=>?_) (fun s hJ=>?_)
 ·subst hJ
  left
  refine⟨_,?_,rfl⟩
  have hc:=po X Y k
  obtain⟨q1,q2⟩:=oo (bh X k) (bh Y k) (bz X Y k) (bS X k) (lI X k) (bS Y k) (lI Y k) hc
  refine aa am (aa ag (aZ (by show(k:Int)<16;omega) ?_))
  refine aa (dM hk) (aa (aV _ hk) (aa (dD X k) (aa (dM hk) (aa (aV _ hk) (aa (dD Y k) ?_)))))
  refine aa (q9 _ _) (aa (q9 _ _) (aa (gf _) (aa (dM hk) ?_)))
  rw[q2,<-yR h]
  refine aa (oO hk) (aa uz ?_)
  rw[q1,<-mh]
  exact aa (aS (aK (i:=k) (by omega))) rfl
 ·subst hJ
  refine⟨_,aa am (aa ag (aY (by decide) rfl)),?_⟩
  rw[lZ];rfl
theorem xD(n:Nat){X:Nat}(hX:X<dT):cA (n+1) 127 [LM X]=some (I (cB X:Nat)):=by
 rw[JN]
 unfold DG
 refine bq (fun t s=>s=[I ((16-t:Nat):Int)]/\cB X=fA X (16-t)/\under X (16-t)) 16 0 (Nat.zero_le _) ⟨rfl,rfl,xE rfl hX⟩ (fun t ht s hJ=>?_) (fun s hJ=>?_)
 ·obtain⟨rfl,he,hlt⟩:=hJ
  obtain⟨k,hk⟩:∃ k,k=15-t:=⟨_,rfl⟩
  rw[show 16-t=k+1 by omega] at he hlt ⊢
  have hk16:k<16:=by omega
  have hsub:D.bin .sub (I ((k+1:Nat):Int)) (D.int .i64 1)=some (I (k:Int)):=by
   rw[show(D.int .i64 1)=I 1 from rfl,ew (by simp only[inR];omega)];congr 2;omega
  have hb:D.bin .gtr (I ((k+1:Nat):Int)) (D.int .i64 0)=some (.bool true):=by rw[ff,decide_eq_true (by omega)]
  have hz:=tL (show X<2^(32*(k+1)) from hlt)
  have hbq:D.beq (.int .u32 (bh X k)) (.int .u32 0)=decide (X<2^(32*k)):=by
   simp[D.beq,hz]
  by_cases hs:X<2^(32*k)
  ·left
   refine⟨[I ((16-(t+1):Nat):Int)],?_,rfl,?_,?_⟩
   ·refine aa hb (aa (z:=true) rfl (aa (z:=true) ?_ (aa (z:=true) rfl ?_)))
    ·rw[if_pos rfl]
     refine aa hsub (aa (dM hk16) (aa (aV _ hk16) ?_))
     rw[hbq,decide_eq_true hs];rfl
    ·rw[if_pos rfl,show 16-(t+1)=k by omega]
     exact aa hsub rfl
   ·rw[show 16-(t+1)=k by omega,he,fA,if_neg (by omega)]
   ·rw[show 16-(t+1)=k by omega];exact hs
  ·right
   refine⟨(0,[I ((k+1:Nat):Int)]),?_,?_⟩
   ·refine aa hb (aa (z:=true) rfl (aa (z:=false) ?_ (aa (z:=false) rfl rfl)))
    rw[if_pos rfl]
    refine aa hsub (aa (dM hk16) (aa (aV _ hk16) ?_))
    rw[hbq,decide_eq_false hs];rfl
   ·rw[he,fA,if_pos (by omega)];rfl
 ·obtain⟨rfl,he,_⟩:=hJ
  refine⟨(0,[I 0]),aa ff (aa ag (aa (z:=false) (aY (by decide) rfl) (aa (z:=false) rfl rfl))),?_⟩
  rw[he];rfl
noncomputable def F7:Option Int->Option Int->Option Int
 | some x,some y=>rp (x+y)
 | _,_=>none
theorem mK{a b:Option Int}:(a.isSome&&b.isSome)=false\/∃ x y,a=some x/\b=some y:=by
 cases a<;>cases b<;>simp
theorem fK{neg:Bool}{m:Nat}{z:Int}(hz:sgn neg m=z)(h:m<dT):fh (rp z)=ai (sgn neg m):=by
 have:z.natAbs=m:=by rw[<-hz,tg]
 unfold rp
 rw[if_pos (by rw[this];exact h),<-hz];rfl
theorem NF(n:Nat){a b:Option Int}(ha:AY a)(hb:AY b):cA (n+4) 57 [fh a,fh b]=some (fh (F7 a b)):=by
 rw[NP]
 unfold HW
 refine aa (tO (n+1) ha hb) (aa cO (aa ag ?_))
 rcases mK (a:=a) (b:=b) with h|⟨x,y,rfl,rfl⟩
 ·rw[h,if_pos (by decide)]
  refine aa (Bg (n+2)) ?_
  cases a<;>cases b<;>simp at h<;>rfl
 rw[if_neg (by simp)]
 have hx:=bm.1 ha.some
 have hy:=bm.1 hb.some
 rw[show fh (some x)=_ from ca x,show fh (some y)=_ from ca y,show F7 (some x) (some y)=rp (x+y) from rfl]
 refine aa (z:=.bool (decide (x<0))) rfl (aa (z:=.bool (decide (y<0))) rfl (aa (z:=decide (decide (x<0)=decide (y<0))) (by simp[D.beq,D.truth]) ?_))
 by_cases hs:decide (x<0)=decide (y<0)
 ·refine aZ hs ?_
  refine aa (z:=LM x.natAbs) rfl (aa (z:=LM y.natAbs) rfl (aa (J5 (n+2) hx hy) (aa (z:=LM (x.natAbs+y.natAbs)) rfl (aa (z:=.bool (decide (x.natAbs+y.natAbs<dT))) rfl (aa cO (aa ag ?_))))))
  have habs:(x+y).natAbs=x.natAbs+y.natAbs:=by
   rw[decide_eq_decide] at hs;omega
  by_cases ht:x.natAbs+y.natAbs<dT
  ·rw[decide_eq_true ht,if_neg (by decide)]
   rw[fK (neg:=decide (x<0)) (z:=x+y) (by unfold sgn;rw[decide_eq_decide] at hs;simp only[decide_eq_true_eq];split<;>omega) ht]
   exact aa (z:=.bool (decide (x<0))) rfl (aa (ul (n+2) _ ht) rfl)
  ·rw[decide_eq_false ht,if_pos (by decide)]
   refine aa (Bg (n+2)) ?_
   unfold rp
   rw[if_neg (by rw[habs];exact ht)];rfl
 ·refine aY hs ?_
  refine aa (z:=LM x.natAbs) rfl (aa (z:=LM y.natAbs) rfl (aa (Ds n hx hy) (aa iU (aa ag ?_))))
  have hs':¬ (x<0↔y<0):=fun e=>hs (by rw[decide_eq_decide];exact e)
  by_cases hge:y.natAbs<=x.natAbs
  ·refine aZ (by unfold ba;split<;>(try split)<;>omega) ?_
   refine aa (z:=.bool (decide (x<0))) rfl (aa (z:=LM x.natAbs) rfl (aa (z:=LM y.natAbs) rfl (aa (HJ (n+2) hx hge) (aa (ul (n+2) _ (Nat.lt_of_le_of_lt (Nat.sub_le _ _) hx)) ?_))))
   rw[fK (neg:=decide (x<0)) (m:=x.natAbs-y.natAbs) (z:=x+y) (by unfold sgn;simp only[decide_eq_true_eq];split<;>omega) (Nat.lt_of_le_of_lt (Nat.sub_le _ _) hx)]
  ·refine aY (by unfold ba;split<;>(try split)<;>omega) ?_
   refine aa (z:=.bool (decide (y<0))) rfl (aa (z:=LM y.natAbs) rfl (aa (z:=LM x.natAbs) rfl (aa (HJ (n+2) hy (by omega)) (aa (ul (n+2) _ (Nat.lt_of_le_of_lt (Nat.sub_le _ _) hy)) ?_))))
   rw[fK (neg:=decide (y<0)) (m:=y.natAbs-x.natAbs) (z:=x+y) (by unfold sgn;simp only[decide_eq_true_eq];split<;>omega) (Nat.lt_of_le_of_lt (Nat.sub_le _ _) hy)]
theorem Ni(n:Nat){a:Option Int}(ha:AY a):cA (n+3) 68 [fh a]=some (fh (a.map (fun x=>-x))):=by
 rw[Oy]
 unfold Iu
 refine aa (kZ n ha) (aa cO (aa ag ?_))
 cases a with
 | none=>rw[if_pos (by decide)];exact aa (Bg (n+1)) rfl
 | some x=>
  rw[if_neg (by simp)]
  have hx:=bm.1 ha.some
  rw[show fh (some x)=_ from ca x]
  show _=some (ai (-x))
  refine aa (z:=.bool (decide (x<0))) rfl (aa cO (aa (z:=LM x.natAbs) rfl (aa (ul (n+1) _ hx) ?_)))
  rw[ca,ol,tg]
  rw[ca,Int.natAbs_neg,show((!(decide (x<0)))&&!(decide (x.natAbs=0)))=decide (-x<0) by rw[Bool.eq_iff_iff];simp;omega]
theorem B9(n:Nat){x:Int}(hx:In x):cA (n+3) 129 [ai x]=some (I (sg x)):=by
 rw[Jv]
 unfold EK
 have h118:=kZ n (bU hx)
 have hx:=bm.1 hx
 refine aa h118 (aa cO (aa (z:=false) rfl (aa (z:=decide (x=0)) ?_ (aa ag ?_))))
 ·rw[if_neg (by decide),ca]
  refine aa (z:=LM x.natAbs) rfl ?_
  rw[ib,lz hx eZ,ag]
  congr 1;rw[decide_eq_decide];omega
 ·by_cases h0:x=0
  ·refine aZ h0 ?_
   subst h0;rfl
  ·refine aY h0 (aa (z:=.bool (decide (x<0))) rfl (aa ag ?_))
   by_cases h1:x<0
   ·refine aZ h1 ?_
    rw[uE h1]
   ·refine aY h1 ?_
    rw[lm (by omega)]
theorem DO(n:Nat){x:Int}(hx:inR x):cA (n+2) 54 [I x]=some (ai x):=by
 rw[M0]
 unfold Is
 obtain⟨h1,h2⟩:=hx
 have key:∀ m:Nat,m<18446744073709551616->D.st (D.putParts (List.replicate 16 (D.int .u32 0)) [(0,.int .u32 ((m:Int)%4294967296)),(1,.int .u32 ((m:Int)/4294967296%4294967296))])=LM m:=fun m hm=>by
  have e:LM m=ck 16 (fun j=>if j=0 then(m:Int)%4294967296 else if j=1 then(m:Int)/4294967296%4294967296 else 0):=cK fun j hj=>by
   match j with
   | 0=>simp[bh]
   | 1=>simp[bh]
   | j+2=>
    rw[if_neg (by omega),if_neg (by omega)]
    exact eW (n:=2) (by simpa using hm) (by omega)
  rw[e];rfl
 have w1:IntKind.u64.wrap x=if x<0 then x+18446744073709551616 else x:=by
  have:IntKind.u64.wrap x=x%18446744073709551616:=rfl
  rw[this];split<;>omega
 have hc:D.conv .u64 (I x)=some (W (if x<0 then x+18446744073709551616 else x)):=by simp only[D.conv,w1]
 refine aa hc ?_
 have habs:x.natAbs<18446744073709551616:=by omega
 refine aa (z:=(0,[W (x.natAbs:Nat)])) ?_ ?_
 ·refine aa am (aa ag ?_)
  by_cases h:x<0
  ·refine aZ h ?_
   rw[if_pos h]
   have:D.un .neg (W (x+18446744073709551616))=some (W (x.natAbs:Nat)):=by
    simp only[D.un]
    have:IntKind.u64.wrap (0-(x+18446744073709551616))=(0-(x+18446744073709551616))%18446744073709551616:=rfl
    rw[this];congr 2;omega
   exact aa this rfl
  ·refine aY h ?_
   rw[if_neg h];congr 4;omega
 ·refine aa am (aa (gf _) (aa (qi (by show(0:Int)<=(x.natAbs:Nat);omega)) (aa (gf _) ?_)))
  have e:=key x.natAbs habs
  refine aa (z:=ai x) ?_ rfl
  show cA (n+1) 116 [.bool (decide (x<0)),D.st (D.putParts (List.replicate 16 (D.int .u32 0)) [(0,.int .u32 (((x.natAbs:Nat):Int)%4294967296)),(1,.int .u32 (((x.natAbs:Nat):Int)/4294967296%4294967296))])]=_
  rw[e,ul n _ (tW habs)]
  congr 1
  congr 1
  unfold sgn;simp only[decide_eq_true_eq];split<;>omega
end Go.Proofs.YtjjjkojfijpeeaaGreat.Sy
end
section
set_option linter.unusedVariables false
namespace Go.Proofs.YtjjjkojfijpeeaaGreat.Sy
open Go Go.Proofs Go.Proofs.YtjjjkojfijpeeaaGreat.Geo
theorem zY(A B i k n:Nat)(hn:i+k<n):D.set (ck n (uv A B i k)) [i+k] (.int .u32 (((mI A B i k:Nat)+(bh A i*bh B k+bh (eO A B i) (i+k)))%4294967296))=some (ck n (uv A B i (k+1))):=by
 refine kr hn fun j hj=>?_
 unfold uv rF
 by_cases h:j=i+k
 ·subst h;rw[if_pos (by omega),if_pos rfl,Cc]
 ·rw[if_neg h]
  by_cases h2:j<i+k
  ·rw[if_pos (by omega),if_pos h2,sS,iY _ _ _ _ h2]
  ·rw[if_neg (by omega),if_neg h2]
theorem AK{A B i m n:Nat}(hB:B<2^(32*m))(hn:i+m<n):D.set (ck n (uv A B i m)) [i+m] (.int .u32 (mI A B i m:Nat))=some (ck n (bh (eO A B (i+1)))):=by
 have hz:=za (A:=A) (i:=i) hB
 have hv:li A B i m<2^(32*(i+m+1)):=by rw[<-sd hB];have:=za (A:=A) (i:=i+1) hB;rwa [show i+1+m=i+m+1 from by omega] at this
 refine kr hn fun j hj=>?_
 rw[sd hB]
 unfold uv rF
 by_cases h:j=i+m
 ·subst h
  rw[if_pos rfl,cz]
  have h1:=tq A B i m
  rw[Nat.div_eq_of_lt hz,Nat.add_zero] at h1
  rw[<-h1,Nat.mod_eq_of_lt (Nat.lt_of_le_of_lt (uC A B i m) (by omega))]
 ·rw[if_neg h]
  by_cases h2:j<i+m
  ·rw[if_pos h2]
  ·rw[if_neg h2,eW hv (by omega),eW hz (by omega)]
theorem qJ{n a c:Nat}(f:Nat->Int)(h:a+c<=n):D.st (List.take c (List.drop a ((List.range n).map fun i=>D.int .u32 (f i))))=ck c (fun j=>f (a+j)):=by
 unfold ck
 congr 1
 apply List.ext_getElem?
 intro j
 by_cases hj:j<c
 ·rw[List.getElem?_take_of_lt hj,List.getElem?_drop]
  simp[hj,show a+j<n by omega]
 ·rw[List.getElem?_eq_none (by simp;omega),List.getElem?_eq_none (by simp;omega)]
theorem wo:aC xq=ck 32 (bh 0):=by
 have:ck 32 (bh 0)=ck 32 (fun _=>0):=cK fun i _=>mW i
 rw[this];rfl
theorem DT{a b:Int}(ha0:0<=a)(ha:a<=4294967295)(hb0:0<=b)(hb:b<=4294967295):0<=a*b/\a*b<=18446744065119617025:=by
 refine⟨Int.mul_nonneg ha0 hb0,?_⟩
 have h1:a*b<=4294967295*b:=Int.mul_le_mul_of_nonneg_right ha hb0
 omega
noncomputable def GJ:Option Int->Option Int->Option Int
 | some x,some y=>rp (x*y)
 | _,_=>none
theorem OS(n:Nat){a b:Option Int}(ha:AY a)(hb:AY b):cA (n+3) 61 [fh a,fh b]=some (fh (GJ a b)):=by
 rw[Nw]
 unfold Ih
 refine aa (tO n ha hb) (aa cO (aa ag ?_))
 rcases mK (a:=a) (b:=b) with h|⟨x,y,rfl,rfl⟩
 ·rw[h,if_pos (by decide)]
  refine aa (Bg (n+1)) ?_
  cases a<;>cases b<;>simp at h<;>rfl
 rw[if_neg (by simp)]
 have hx:=bm.1 ha.some
 have hy:=bm.1 hb.some
 rw[show fh (some x)=_ from ca x,show fh (some y)=_ from ca y,show GJ (some x) (some y)=rp (x*y) from rfl]
 generalize hX:x.natAbs=X at *
 generalize hY:y.natAbs=Y at *
 have n1:=iN X;have n2:=iN Y
 have s1:=dq hx;have s2:=dq hy
 refine aa (z:=LM X) rfl (aa (xD (n+1) hx) (aa (z:=LM Y) rfl (aa (xD (n+1) hy) ?_)))
 generalize cB X=p at *
 generalize cB Y=m at *
 rw[wo]
 refine bq (fun i s=>s=[I (i:Int),ck 32 (bh (eO X Y i))]) p 0 (Nat.zero_le _) (by rw[AD];rfl) (fun i hi s hJ=>?_) (fun s hJ=>?_)
 ·subst hJ
  left
  refine⟨[I ((i+1:Nat):Int),ck 32 (bh (eO X Y (i+1)))],?_,rfl⟩
  refine aa am (aa ag (aZ (by show(i:Int)<(p:Int);omega) ?_))
  refine fJ (fun k s=>s=[W (mI X Y i k:Nat),I (k:Int),ck 32 (uv X Y i k)]) m 0 (Nat.zero_le _) (by rw[sP,Ax];rfl) (fun k hk s hJ=>?_) (fun s hJ=>?_)
  ·subst hJ
   left
   refine⟨_,?_,rfl⟩
   have hi16:i<16:=by omega
   have hk16:k<16:=by omega
   have hik:i+k<32:=by omega
   have a0:=bS X i;have a1:=lI X i
   have b0:=bS Y k;have b1:=lI Y k
   have z0:=bS (eO X Y i) (i+k);have z1:=lI (eO X Y i) (i+k)
   have hc:=uC X Y i k
   obtain⟨q0,q1⟩:=DT a0 a1 b0 b1
   refine aa am (aa ag (aZ (by show(k:Int)<(m:Int);omega) ?_))
   refine aa (dM hi16) (aa (aV _ hi16) (aa (dD X i) (aa (dM hk16) (aa (aV _ hk16) (aa (dD Y k) ?_)))))
   refine aa (FH q0 (by omega)) (aa (bn (a:=i) (b:=k) (by omega)) (aa (aE hik) (aa (aV _ hik) ?_)))
   rw[AJ]
   refine aa (dD _ _) (aa (qX (by omega) (by omega)) (aa (qX (by omega) (by omega)) (aa (bn (a:=i) (b:=k) (by omega)) (aa (gf _) (aa (aE hik) (aa (zY X Y i k 32 hik) (aa (qi (by omega)) ?_)))))))
   rw[<-A2]
   exact aa (aS (aK (i:=k) (by omega))) rfl
  ·subst hJ
   refine⟨_,aa am (aa ag (aY (by show ¬ ((m:Int)<(m:Int));omega) rfl)),?_⟩
   have him:i+m<32:=by omega
   have hc:=uC X Y i m
   refine aa (bn (a:=i) (b:=m) (by omega)) (aa (gf _) (aa (aE him) ?_))
   rw[Int.emod_eq_of_lt (by omega) (by omega)]
   exact aa (AK s2 him) (aa (aS (aK (i:=i) (by omega))) rfl)
 ·subst hJ
  refine⟨(0,[ck 32 (bh (X*Y))]),?_,?_⟩
  ·rw[BT s1]
   exact aa am (aa ag (aY (by show ¬ ((p:Int)<(p:Int));omega) rfl))
  have hpos:=eZ
  have hq:X*Y/dT<dT:=Nat.div_lt_of_lt_mul (Nat.mul_lt_mul'' hx hy)
  have hhi:D.st (List.take 16 (List.drop 16 ((List.range 32).map fun i=>D.int .u32 (bh (X*Y) i))))=LM (X*Y/dT):=by
   rw[qJ _ (by omega)]
   exact cK fun j _=>by rw[fD,vF]
  have hlo:D.st (List.take 16 (List.drop 0 ((List.range 32).map fun i=>D.int .u32 (bh (X*Y) i))))=LM (X*Y):=by
   rw[qJ _ (by omega)]
   exact cK fun j _=>by rw[Nat.zero_add]
  show(if decide (16+16<=((List.range 32).map fun i=>D.int .u32 (bh (X*Y) i)).length)=true then _ else none)=_
  rw[if_pos (by simp),hhi,ib,lz hq hpos]
  have habs:(x*y).natAbs=X*Y:=by rw[Int.natAbs_mul,hX,hY]
  by_cases ht:X*Y<dT
  ·rw[Nat.div_eq_of_lt ht,decide_eq_true rfl]
   refine aa (z:=false) rfl ?_
   rw[if_neg (by decide)]
   refine aa (z:=.bool (decide (x<0))) rfl (aa (z:=.bool (decide (y<0))) rfl ?_)
   show(if decide (0+16<=((List.range 32).map fun i=>D.int .u32 (bh (X*Y) i)).length)=true then _ else none)=_
   rw[if_pos (by simp),hlo]
   have hsg:=E8 x y
   rw[hX,hY] at hsg
   rw[fK hsg ht]
   refine aa (z:=ai (sgn (!(decide (decide (x<0)=decide (y<0)))) (X*Y))) ?_ rfl
   rw[<-ul (n+1) _ ht]
   congr 4
  ·rw[decide_eq_false (fun e=>ht (by have:=Nat.div_eq_zero_iff.1 e;omega))]
   refine aa (z:=true) rfl ?_
   rw[if_pos rfl]
   refine aa (Bg (n+1)) ?_
   unfold rp
   rw[habs,if_neg ht];rfl
end Go.Proofs.YtjjjkojfijpeeaaGreat.Sy
end
section
set_option linter.unusedVariables false
namespace Go.Proofs.YtjjjkojfijpeeaaGreat.Sy
open Go Go.Proofs Go.Proofs.YtjjjkojfijpeeaaGreat.Geo
def iQ(x:Nat):Nat:=if x=0 then 0 else Nat.log2 x+1
theorem Fo{x L:Nat}(h1:2^L<=x)(h2:x<2^(L+1)):iQ x=L+1:=by
 have hx:x≠0:=fun e=>by have:=Nat.two_pow_pos L;omega
 unfold iQ
 rw[if_neg hx]
 have a:=(Nat.le_log2 hx).2 h1
 have b:=(Nat.log2_lt hx).2 h2
 omega
theorem gt{x:Nat}(hx:x≠0):∃ L,iQ x=L+1/\2^L<=x/\x<2^(L+1):=by
 refine⟨Nat.log2 x,by unfold iQ;rw[if_neg hx],(Nat.le_log2 hx).1 (Nat.le_refl _),(Nat.log2_lt hx).1 (Nat.lt_succ_self _)⟩
theorem qz{x m:Nat}(h:2^m<=x):iQ x=m+iQ (x/2^m):=by
 have hq:x/2^m≠0:=fun e=>by
  have:=Nat.div_eq_zero_iff.1 e
  have:=Nat.two_pow_pos m
  omega
 obtain⟨L,h1,h2,h3⟩:=gt hq
 rw[h1,<-Nat.add_assoc]
 have hp:=Nat.two_pow_pos m
 refine Fo (L:=m+L) ?_ ?_
 ·rw[Nat.pow_add,Nat.mul_comm];exact Nat.le_trans (Nat.mul_le_mul_right _ h2) (Nat.div_mul_le_self _ _)
 ·rw[show m+L+1=m+(L+1) by omega,Nat.pow_add,Nat.mul_comm]
  exact(Nat.div_lt_iff_lt_mul hp).1 h3
noncomputable def tQ:D:=D.str ((ms (CF Tryz.f165)).getD ByteArray.empty)
noncomputable def Cp(i:Nat):Bool:=match D.strAt tQ (.int .u8 i) with
 | some (.int .u8 v)=>decide (v=(iQ i:Nat))
 | _=>false
theorem F5:(List.range 256).all Cp=true:=by kernel_rfl
theorem Gk{i:Nat}(h:i<256):D.strAt tQ (.int .u8 i)=some (.int .u8 (iQ i:Nat)):=by
 have:=List.all_eq_true.1 F5 i (List.mem_range.2 h)
 unfold Cp at this
 split at this
 ·rename_i v hv
  rw[hv,of_decide_eq_true this]
 ·cases this
theorem Fy{a m:Nat}{c:D}(hc:c=.int .u64 (m:Nat))(hm:m<=32):D.bin .shr (U a) c=some (U (a/2^m)):=by
 subst hc
 simp only[D.bin]
 rw[if_neg (by omega),show min ((m:Int)).toNat (IntKind.bits .u32)=m from by simp[IntKind.bits];omega,Int.fdiv_eq_ediv_of_nonneg _ (by exact Int.le_of_lt (Int.pow_pos (by decide)))]
 congr 2
theorem Hi(n:Nat){x:Nat}(hx:x<4294967296):cA (n+1) 165 [U x]=some (I (iQ x:Nat)):=by
 rw[JX]
 unfold Du
 have geq:∀ (a b:Nat) {c:D},c=.int .u32 (b:Nat)->D.bin .geq (U a) c=some (.bool (decide (b<=a))):=fun a b c hc=>by
  subst hc
  simp only[D.bin,if_true]
  congr 2;rw[decide_eq_decide];omega
 have last:∀ (y m:Nat),y<65536->m<=16->(Option.bind (Option.bind (D.bin .geq (U y) (D.int .u32 256)) fun x5=>
   Option.bind (D.truth x5) fun b6=>
   if b6 then(Option.bind (D.bin .shr (U y) (D.int .u64 8)) fun x7=>
   Option.bind (D.bin .add (I (m:Nat)) (D.int .i64 8)) fun x8=>
   some ((0:Nat),[x7,x8])) else(some (0,[U y,I (m:Nat)]))) fun(r9:Nat×List D)=>
   Option.bind (D.conv .u8 (gx r9.2 0)) fun x10=>
   Option.bind (D.strAt tQ x10) fun x11=>
   Option.bind (D.conv .i64 x11) fun x12=>
   Option.bind (D.bin .add (gx r9.2 1) x12) fun x13=>
   some x13)=some (I ((m+iQ y:Nat):Int)):=fun y m hy hm=>by
  have fin:∀ (z m:Nat),z<256->m<=24->(Option.bind (D.conv .u8 (U z)) fun x10=>
    Option.bind (D.strAt tQ x10) fun x11=>
    Option.bind (D.conv .i64 x11) fun x12=>
    Option.bind (D.bin .add (I (m:Nat)) x12) fun x13=>some x13)=some (I ((m+iQ z:Nat):Int)):=fun z m hz hm=>by
   have hb:iQ z<=8:=by
    by_cases h0:z=0
    ·subst h0;decide
    ·obtain⟨L,h1,h2,_⟩:=gt h0
     rcases Nat.lt_or_ge L 8 with h|h
     ·omega
     ·have:=Nat.pow_le_pow_right (show 0<2 by decide) h
      omega
   have e8:D.conv .u8 (U z)=some (.int .u8 (z:Nat)):=by
    simp only[D.conv]
    have:IntKind.u8.wrap (z:Int)=(z:Int)%256:=rfl
    rw[this,Int.emod_eq_of_lt (by omega) (by omega)]
   refine aa e8 (aa (Gk hz) (aa (z:=I (iQ z:Nat)) ?_ (aa (bn (by omega)) rfl)))
   simp only[D.conv];rw[ie (by simp only[inR];omega)]
  by_cases h:256<=y
  ·refine aa (z:=(0,[U (y/256),I ((m+8:Nat):Int)])) ?_ ?_
   ·refine aa (geq y 256 rfl) (aa ag (aZ h ?_))
    exact aa (Fy (m:=8) rfl (by decide)) (aa (bn (b:=8) (by omega)) rfl)
   ·have:=fin (y/256) (m+8) (by omega) (by omega)
    rw[qz (m:=8) (by omega),<-Nat.add_assoc]
    exact this
  ·refine aa (z:=(0,[U y,I (m:Nat)])) (aa (geq y 256 rfl) (aa ag (aY h rfl))) ?_
   exact fin y m (by omega) (by omega)
 by_cases h:65536<=x
 ·refine aa (z:=(0,[U (x/65536),I ((16:Nat):Int)])) ?_ ?_
  ·refine aa (geq x 65536 rfl) (aa ag (aZ h ?_))
   exact aa (Fy (m:=16) rfl (by decide)) rfl
  ·rw[qz (m:=16) (by omega)]
   exact last (x/65536) 16 (by omega) (by decide)
 ·refine aa (z:=(0,[U x,I ((0:Nat):Int)])) (aa (geq x 65536 rfl) (aa ag (aY h rfl))) ?_
  have:=last x 0 (by omega) (by decide)
  rw[Nat.zero_add] at this
  exact this
theorem IK(n:Nat){x:Nat}(hx:x<4294967296):cA (n+2) 196 [U x]=some (I (32-(iQ x:Nat))):=by
 rw[Ks]
 unfold D8
 have hb:iQ x<=32:=by
  by_cases h0:x=0
  ·subst h0;decide
  ·obtain⟨L,h1,h2,_⟩:=gt h0
   rcases Nat.lt_or_ge L 32 with h|h
   ·omega
   ·have:=Nat.pow_le_pow_right (show 0<2 by decide) h
    omega
 exact aa (Hi n hx) (aa (ew (by simp only[inR];omega)) rfl)
theorem Hh{a b:Nat}(ha:a<18446744073709551616)(hb:b<18446744073709551616):D.bin .or (W (a:Nat)) (W (b:Nat))=some (W ((a ||| b:Nat):Int)):=by
 simp only[D.bin,if_true,D.bitOp]
 have e:(BitVec.ofInt (IntKind.bits .u64) (a:Int) ||| BitVec.ofInt (IntKind.bits .u64) (b:Int)).toNat=a ||| b:=by
  have h1:(BitVec.ofInt 64 (a:Int)).toNat=a:=by simp[BitVec.toNat_ofInt];omega
  have h2:(BitVec.ofInt 64 (b:Int)).toNat=b:=by simp[BitVec.toNat_ofInt];omega
  show(BitVec.ofInt 64 (a:Int) ||| BitVec.ofInt 64 (b:Int)).toNat=a ||| b
  rw[BitVec.toNat_or,h1,h2]
 rw[e]
 have hl:a ||| b<2^64:=Nat.or_lt_two_pow ha hb
 rw[fE ⟨by omega,by omega⟩]
theorem gW{a b m:Nat}(hb:b<2^m)(h:a*2^m+b<18446744073709551616):D.bin .or (W ((a*2^m:Nat):Int)) (W (b:Nat))=some (W ((a*2^m+b:Nat):Int)):=by
 rw[Hh (by omega) (by omega),Nat.mul_comm,<-Nat.two_pow_add_eq_or_of_lt hb]
theorem Ac{a b m:Nat}(hb:b<2^m)(h:a*2^m+b<18446744073709551616):D.bin .or (W (b:Nat)) (W ((a*2^m:Nat):Int))=some (W ((a*2^m+b:Nat):Int)):=by
 rw[Hh (by omega) (by omega),Nat.or_comm,Nat.mul_comm,<-Nat.two_pow_add_eq_or_of_lt hb]
theorem oq{a m:Nat}{c:D}{k:IntKind}(hc:c=.int k (m:Nat))(hm:m<=64)(h:a*2^m<18446744073709551616):D.bin .shl (W (a:Nat)) c=some (W ((a*2^m:Nat):Int)):=by
 subst hc
 simp only[D.bin]
 rw[if_neg (by omega),show min ((m:Int)).toNat (IntKind.bits .u64)=m from by simp[IntKind.bits];omega]
 have e:(a:Int)*2^m=((a*2^m:Nat):Int):=by rw[Int.natCast_mul,Int.natCast_pow];rfl
 rw[e,fE ⟨by omega,by omega⟩]
theorem Gp{a m:Nat}{c:D}{k:IntKind}(hc:c=.int k (m:Nat))(hm:m<=64):D.bin .shr (W (a:Nat)) c=some (W ((a/2^m:Nat):Int)):=by
 subst hc
 simp only[D.bin]
 rw[if_neg (by omega),show min ((m:Int)).toNat (IntKind.bits .u64)=m from by simp[IntKind.bits];omega,Int.fdiv_eq_ediv_of_nonneg _ (by exact Int.le_of_lt (Int.pow_pos (by decide)))]
 congr 2
theorem FM{a b:Nat}(hb:b≠0)(ha:a<18446744073709551616):D.bin .quo (W (a:Nat)) (W (b:Nat))=some (W ((a/b:Nat):Int)):=by
 simp only[D.bin,if_true]
 rw[if_neg (by omega),<-Int.ofNat_tdiv,fE ⟨Int.natCast_nonneg _,Int.ofNat_lt.2 (Nat.lt_of_le_of_lt (Nat.div_le_self a b) ha)⟩]
theorem BZ{a b:Nat}(hb:b≠0):D.bin .rem (W (a:Nat)) (W (b:Nat))=some (W ((a%b:Nat):Int)):=by
 simp only[D.bin,if_true]
 rw[if_neg (by omega),<-Int.ofNat_tmod]
theorem BU{a b:Nat}(h:a+b<18446744073709551616):D.bin .add (W (a:Nat)) (W (b:Nat))=some (W ((a+b:Nat):Int)):=by
 rw[qX (by omega) (by omega),Int.natCast_add]
theorem CZ{a b:Nat}(h:a*b<18446744073709551616):D.bin .mul (W (a:Nat)) (W (b:Nat))=some (W ((a*b:Nat):Int)):=by
 rw[FH (by rw[<-Int.natCast_mul];omega) (by rw[<-Int.natCast_mul];omega),Int.natCast_mul]
theorem By{a b:Nat}(h:b<=a)(ha:a<18446744073709551616):D.bin .sub (W (a:Nat)) (W (b:Nat))=some (W ((a-b:Nat):Int)):=by
 rw[q9,fE ⟨by omega,by omega⟩];congr 2;omega
theorem tj(a:Nat):D.conv .u32 (W (a:Nat))=some (.int .u32 ((a%4294967296:Nat):Int)):=by rw[gf];rfl
theorem kH(X k:Nat):D.conv .u64 (.int .u32 (bh X k))=some (W (dg X k:Nat)):=dD X k
theorem HO(n:Nat){X s:Nat}(hX:X<dT)(hs:s<=31):cA (n+1) 197 [LM X,I (s:Nat)]=some (.tup [LM (X*2^s),.int .u32 ((X*2^s/dT:Nat):Int)]):=by
 rw[Ll]
 unfold D9
 rw[gP]
 have hp:=Nat.two_pow_pos s
 have hp2:2^s<=2^31:=Nat.pow_le_pow_right (by decide) hs
 refine bq (fun k s'=>s'=[W (fH X (2^s) k:Nat),I (k:Int),LM (X*2^s%2^(32*k))]) 16 0 (Nat.zero_le _) (by rw[sJ,o7];rfl) (fun k hk s' hJ=>?_) (fun s' hJ=>?_)
 ·subst hJ
  left
  refine⟨_,?_,rfl⟩
  have hc:=tI X k hp
  have hd:=eE X k
  have hm:dg X k*2^s<=4294967295*2^s:=Nat.mul_le_mul_right _ (by omega)
  have e1:=vo X (2^s) k
  have e2:=sr X (2^s) k
  rw[nq X k] at e1 e2
  have ec:((fH X (2^s) k:Nat):Int)+(dg X k:Nat)*((2^s:Nat):Int)=((dg X k*2^s+fH X (2^s) k:Nat):Int):=by rw[Int.natCast_add,Int.natCast_mul];omega
  rw[ec] at e1 e2
  refine aa am (aa ag (aZ (by show(k:Int)<16;omega) ?_))
  refine aa (dM hk) (aa (aV _ hk) (aa (kH X k) (aa (oq rfl (by omega) (by omega)) (aa (Ac hc (by omega)) (aa (gf _) (aa (dM hk) ?_))))))
  rw[<-e1]
  refine aa (oO hk) (aa (qi (by omega)) ?_)
  rw[<-e2]
  exact aa (aS (aK (i:=k) (by omega))) rfl
 ·subst hJ
  refine⟨_,aa am (aa ag (aY (by decide) rfl)),?_⟩
  have hc:=tI X 16 hp
  have e:=Cm (D:=2^s) hX
  rw[lZ,e]
  rw[e] at hc
  refine aa (tj _) ?_
  rw[Nat.mod_eq_of_lt (by omega)]
  rfl
theorem LK(n:Nat){X s:Nat}(hX:X<dT)(hs:s<=31):cA (n+1) 201 [LM X,I (s:Nat)]=some (LM (X/2^s)):=by
 rw[Kk]
 unfold D5
 rw[gP]
 refine bq (fun k s'=>s'=[I (k:Int),LM (X/2^s%2^(32*k))]) 16 0 (Nat.zero_le _) (by rw[o7];rfl) (fun k hk s' hJ=>?_) (fun s' hJ=>?_)
 ·subst hJ
  left
  refine⟨_,?_,rfl⟩
  have hd:=eE X k;have hd1:=eE X (k+1)
  refine aa am (aa ag (aZ (by show(k:Int)<16;omega) ?_))
  refine aa (z:=(0,[W (dg X (k+1):Nat)])) ?_ ?_
  ·refine aa (bn (a:=k) (b:=1) (by omega)) (aa am (aa ag ?_))
   by_cases h:k+1<16
   ·refine aZ (by show((k+1:Nat):Int)<16;omega) ?_
    exact aa (bn (a:=k) (b:=1) (by omega)) (aa (dM h) (aa (aV _ h) (aa (kH X (k+1)) rfl)))
   ·refine aY (by show ¬ ((k+1:Nat):Int)<16;omega) ?_
    have hz:bh X (k+1)=0:=eW (n:=16) (by rw[fD,cM] at hX;exact hX) (by omega)
    have hz:dg X (k+1)=0:=by rw[nq] at hz;omega
    rw[hz];rfl
  refine aa (oq (m:=32) rfl (by decide) (by omega)) (aa (dM hk) (aa (aV _ hk) (aa (kH X k) (aa (gW (m:=32) (by omega) (by omega)) (aa (Gp rfl (by omega)) (aa (gf _) (aa (dM hk) ?_)))))))
  have e:=Cl X s k (by omega)
  rw[nq X (k+1),nq X k] at e
  have ec:((dg X (k+1):Nat):Int)*4294967296+(dg X k:Nat)=((dg X (k+1)*2^32+dg X k:Nat):Int):=by omega
  rw[ec,<-Int.natCast_ediv] at e
  rw[<-e]
  exact aa (oO hk) (aa (aS (aK (i:=k) (by omega))) rfl)
 ·subst hJ
  refine⟨_,aa am (aa ag (aY (by decide) rfl)),?_⟩
  rw[lZ];rfl
theorem yV{Q k:Nat}(hk:k<16):D.set (LM (Q/2^(32*(k+1))*2^(32*(k+1)))) [k] (.int .u32 (bh Q k))=some (LM (Q/2^(32*k)*2^(32*k))):=
 kr hk fun j hj=>by
  rw[rO,rO]
  by_cases e:j=k
  ·subst e;simp
  ·rw[if_neg e]
   by_cases h:j<k
   ·rw[if_pos h,if_pos (by omega)]
   ·rw[if_neg h,if_neg (by omega)]
theorem Ey{Q:Nat}(h:Q<dT):LM (Q/2^(32*16)*2^(32*16))=LM 0:=by
 rw[vX,Nat.div_eq_of_lt h,Nat.zero_mul]
theorem Lk(n:Nat){X b:Nat}(hX:X<dT)(hb:0<b)(hb2:b<=4294967295):cA (n+1) 195 [LM X,U b]=some (.tup [LM (X/b),U (X%b)]):=by
 rw[IH]
 unfold Fb
 rw[gP]
 have hq:X/b<dT:=Nat.lt_of_le_of_lt (Nat.div_le_self _ _) hX
 have h16:dV X b 16=0:=by unfold dV;rw[vX,Nat.div_eq_of_lt hX,Nat.zero_mod]
 have hconv:D.conv .u64 (U b)=some (W (b:Nat)):=Bh (by omega) (by omega)
 refine bq (fun t s'=>s'=[W (dV X b (16-t):Nat),I (15-(t:Int)),LM (X/b/2^(32*(16-t))*2^(32*(16-t)))]) 16 0 (Nat.zero_le _) (by rw[Nat.sub_zero,h16,Ey hq];rfl) (fun t ht s' hJ=>?_) (fun s' hJ=>?_)
 ·subst hJ
  left
  obtain⟨k,hk⟩:∃ k,k=15-t:=⟨_,rfl⟩
  have hk16:k<16:=by omega
  rw[show 16-t=k+1 by omega,show(15-(t:Int))=(k:Int) by omega,show 16-(t+1)=k by omega,show(15-((t+1:Nat):Int))=(k:Int)-1 by omega]
  refine⟨_,?_,rfl⟩
  have hr:=wl X (k+1) hb
  have hd:=eE X k
  have e1:=zS X k hb hb2
  have e2:=wY X b k
  refine aa iU (aa ag (aZ (by show(k:Int) ≥ 0;omega) ?_))
  refine aa (oq (m:=32) rfl (by decide) (by omega)) (aa (dM hk16) (aa (aV _ hk16) (aa (kH X k) (aa (gW (m:=32) (by omega) (by omega)) ?_))))
  have hT:dV X b (k+1)*2^32+dg X k<18446744073709551616:=by omega
  refine aa hconv (aa (FM (by omega) hT) (aa (tj _) (aa (dM hk16) ?_)))
  have e3:(((dV X b (k+1)*2^32+dg X k)/b%4294967296:Nat):Int)=bh (X/b) k:=by
   rw[cz,e1]
   show(((dV X b (k+1)*2^32+dg X k)/b%4294967296:Nat):Int)=(((dV X b (k+1)*4294967296+dg X k)/b:Nat):Int)
   congr 1
   refine Nat.mod_eq_of_lt ?_
   rw[Nat.div_lt_iff_lt_mul hb]
   have:(dV X b (k+1)+1)*4294967296<=b*4294967296:=Nat.mul_le_mul_right _ hr
   omega
  rw[e3]
  refine aa (yV hk16) (aa hconv (aa (BZ (by omega)) (aa (ew (by simp only[inR];omega)) ?_)))
  have e4:(dV X b (k+1)*2^32+dg X k)%b=dV X b k:=e2.symm
  rw[e4]
 ·subst hJ
  refine⟨_,aa iU (aa ag (aY (by decide) rfl)),?_⟩
  have hm:X%b<b:=Nat.mod_lt _ hb
  rw[show 16-16=0 from rfl,zV,Nat.mul_zero,Nat.pow_zero,Nat.div_one,Nat.mul_one]
  refine aa (tj _) ?_
  rw[Nat.mod_eq_of_lt (show X%b<4294967296 by omega)]
  rfl
end Go.Proofs.YtjjjkojfijpeeaaGreat.Sy
end
section
set_option linter.unusedVariables false
namespace Go.Proofs.YtjjjkojfijpeeaaGreat.Sy
open Go Go.Proofs Go.Proofs.YtjjjkojfijpeeaaGreat.Geo
theorem wA{V D i:Nat}(hD:D<=4294967295):fH V D i<=4294967295/\D*dg V i<=18446744065119617025:=by
 refine⟨?_,Nat.mul_le_mul hD (yM V i)⟩
 rcases Nat.eq_zero_or_pos D with h|h
 ·subst h;simp[fH]
 ·have:=tI V i h;omega
theorem rM{V D n:Nat}(hV:V<2^(32*n))(hD:D<=4294967295):V*D<2^(32*(n+1)):=by
 rw[cH]
 have h1:V*D<=V*4294967296:=Nat.mul_le_mul_left _ (by omega)
 have h2:V*4294967296<2^(32*n)*4294967296:=Nat.mul_lt_mul_of_pos_right hV (by omega)
 omega
theorem vp{U V D n j k:Nat}(hk:k<=n)(hV:V<2^(32*n))(hD:D<=4294967295) :
  IntKind.u64.wrap (IntKind.u64.wrap (bh U (j+k)-bh (V*D) k)-(bz (U/2^(32*j)) (V*D) k:Nat))/9223372036854775808=(bz (U/2^(32*j)) (V*D) (k+1):Nat) ∧
  IntKind.u64.wrap (IntKind.u64.wrap (bh U (j+k)-bh (V*D) k)-(bz (U/2^(32*j)) (V*D) k:Nat))%4294967296=bh (jW (U/2^(32*j)) (V*D) (n+1)) k:=by
 have wb:=oo (bh U (j+k)) (bh (V*D) k) (bz (U/2^(32*j)) (V*D) k) (bS _ _) (lI _ _) (bS _ _) (lI _ _) (po _ _ _)
 rw[wb.1,wb.2,<-jp,mh,AX (by omega) (Nat.le_of_lt (rM hV hD))]
 exact⟨rfl,rfl⟩
theorem Bo{V D n:Nat}(hV:V<2^(32*n))(hD:D<=4294967295):((fH V D n:Nat):Int)=bh (V*D) n:=by
 have h:=(wA (V:=V) (i:=n) hD).1
 have e:fH V D n=V*D/2^(32*n):=by unfold fH;rw[Nat.mod_eq_of_lt hV]
 rw[cz,<-e,Nat.mod_eq_of_lt (by omega)]
theorem EH{U j m:Nat}(hU:U<2^(32*(j+m))):U/2^(32*j)<2^(32*m):=by
 rw[Nat.div_lt_iff_lt_mul (Nat.two_pow_pos _),<-Nat.pow_add,show 32*m+32*j=32*(j+m) from by omega];exact hU
theorem kB(U Z j i n:Nat)(hn:j+i<n):D.set (ck n (re U Z j i)) [j+i] (.int .u32 (bh Z i))=some (ck n (re U Z j (i+1))):=
 kr hn fun t ht=>by
  unfold re rF
  by_cases h:t=j+i
  ·subst h;rw[if_pos (by omega),if_pos rfl,yp]
  ·rw[if_neg h]
   by_cases h2:t<j+i
   ·rw[if_pos (by omega),if_pos h2]
   ·rw[if_neg (by omega),if_neg h2]
theorem rU{U Z j m n:Nat}(hU:U<2^(32*(j+m)))(hZ:Z<2^(32*m)):ck n (re U Z j m)=ck n (bh (dU U Z j)):=
 cK fun t _=>by
  unfold re rF
  split
  ·rfl
  ·rw[eW hU (by omega),eW (vn hZ) (by omega)]
theorem Fj{B n L:Nat}(hB:B<2^(32*(n+1)))(h2:dg B n<2^(L+1))(h3:L+1<=32):B*2^(32-(L+1))<2^(32*(n+1)):=by
 have h1:B/2^(32*n)=dg B n:=iG hB
 have h4:B<(dg B n+1)*2^(32*n):=by rw[<-Nat.div_lt_iff_lt_mul (Nat.two_pow_pos _)];omega
 have h5:(dg B n+1)*2^(32*n)<=2^(L+1)*2^(32*n):=Nat.mul_le_mul_right _ h2
 have h6:B*2^(32-(L+1))<2^(L+1)*2^(32*n)*2^(32-(L+1)):=Nat.mul_lt_mul_of_pos_right (by omega) (Nat.two_pow_pos _)
 rw[<-Nat.pow_add,<-Nat.pow_add,show L+1+32*n+(32-(L+1))=32*(n+1) from by omega] at h6
 exact h6
theorem Bi{A B n m:Nat}(hl:2^(32*(n-1))<=B)(hAB:B<=A)(hA:A<2^(32*m)):n<=m:=by
 rcases Nat.lt_or_ge m n with h|h
 ·have:2^(32*m)<=2^(32*(n-1)):=Nat.pow_le_pow_right (by omega) (by omega)
  omega
 ·exact h
theorem zL{A B n m:Nat}(hn:1<=n)(hnm:n<=m)(hl:2^(32*(n-1))<=B)(hA:A<2^(32*m)):A/B<2^(32*(m-n+1)):=by
 apply Nat.div_lt_of_lt_mul
 have h:2^(32*(n-1))*2^(32*(m-n+1))<=B*2^(32*(m-n+1)):=Nat.mul_le_mul_right _ hl
 rw[<-Nat.pow_add,show 32*(n-1)+32*(m-n+1)=32*m from by omega] at h
 omega
theorem C1{A s:Nat}(hA:A<dT)(hs:s<=31):((A*2^s/dT:Nat):Int)=bh (A*2^s) 16:=by
 have h31:2^s<=2147483648:=Nat.pow_le_pow_right (n:=2) (by omega) hs
 have h1:A*2^s/dT<4294967296:=by
  rw[Nat.div_lt_iff_lt_mul eZ,Nat.mul_comm 4294967296]
  have h2:A*2^s<=A*2147483648:=Nat.mul_le_mul_left _ h31
  have h3:A*2147483648<=dT*2147483648:=Nat.mul_le_mul_right _ (by omega)
  have:=eZ
  omega
 have h2:=vF (A*2^s) 16 0
 rw[<-fD,Nat.add_zero] at h2
 rw[<-h2,cz,Nat.mul_zero,Nat.pow_zero,Nat.div_one,Nat.mod_eq_of_lt h1]
theorem FC{a b:Nat}{c:D}(hc:c=.int .u64 (b:Nat)):D.bin .lss (W (a:Nat)) c=some (.bool (decide (a<b))):=by
 subst hc;simp only[D.bin,if_true];congr 2;rw[decide_eq_decide];omega
theorem Hu{a b:Nat}{c:D}(hc:c=.int .u64 (b:Nat)):D.bin .geq (W (a:Nat)) c=some (.bool (decide (b<=a))):=by
 subst hc;simp only[D.bin,if_true];congr 2;rw[decide_eq_decide];omega
theorem G4{a b:Nat}:D.bin .gtr (W (a:Nat)) (W (b:Nat))=some (.bool (decide (b<a))):=by
 simp only[D.bin,if_true];congr 2;rw[decide_eq_decide];omega
theorem oX{α:Type}{body:Bd}{k:Nat×List D->Option α}{y:α}(J:Nat->List D->Prop) :
  ∀ (m:Nat) (s:List D),J m s->(∀ m s,J m s->(∃ m' s',m'<m/\body s=some (.inl s')/\J m' s')\/∃ r,body s=some (.inr r)/\k r=some y)->Option.bind (bg body s) k=some y:=by
 intro m
 induction m using Nat.strongRecOn with
 | _ m ih=>
  intro s hJ hs
  rcases hs m s hJ with⟨m',s',h1,h2,h3⟩|⟨r,h1,h2⟩
  ·exact cL h2 (ih m' h1 s' h3 hs)
  ·exact jd h1 h2
theorem jz{a b:Nat}{c:D}(hc:c=I (b:Nat))(h:b<=a)(ha:a<=1000000):D.bin .sub (I (a:Nat)) c=some (I ((a-b:Nat):Int)):=by
 subst hc;rw[ew (by simp only[inR];omega)];congr 2;omega
theorem Hl(N:Nat):D.set (D.st (List.take 0 (List.replicate 17 (D.int .u32 0))++(List.take 16 (List.drop 0 ((List.range 16).map fun i=>D.int .u32 (bh N i)))++List.drop 16 (List.replicate 17 (D.int .u32 0))))) [16] (.int .u32 (bh N 16))=some (ck 17 (bh N)):=by
 have e:D.st (List.take 0 (List.replicate 17 (D.int .u32 0))++(List.take 16 (List.drop 0 ((List.range 16).map fun i=>D.int .u32 (bh N i)))++List.drop 16 (List.replicate 17 (D.int .u32 0))))=ck 17 (fun j=>if j<16 then bh N j else 0):=by rfl
 rw[e]
 refine kr (by decide) fun j hj=>?_
 by_cases h:j=16
 ·subst h;simp
 ·rw[if_neg h,if_pos (by omega)]
theorem HD(n:Nat){A B:Nat}(hA:A<dT)(hB:B<dT)(hB0:0<B):cA (n+4) 170 [LM A,LM B]=some (.tup [LM (A/B),LM (A%B)]):=by
 rw[I7]
 unfold ET
 refine aa (xD (n+2) hB) (aa (xD (n+2) hA) (aa (Ds n hA hB) (aa am (aa ag ?_))))
 by_cases hlt:A<B
 ·refine aZ (by unfold ba;split<;>omega) ?_
  rw[ib,Nat.div_eq_of_lt hlt,Nat.mod_eq_of_lt hlt]
 refine aY (by unfold ba;split<;>(try split)<;>omega) ?_
 have hn0:cB B≠0:=fun e=>by have:=dq hB;rw[e] at this;simp at this;omega
 have HBh:=dq hB
 have HBl:=lK hn0
 have HAh:=dq hA
 have hn16:=iN B
 have hm16:=iN A
 refine aa (z:=decide (cB B=1)) (by rw[show(D.int .i64 1)=I ((1:Nat):Int) from rfl,fe];rfl) ?_
 by_cases h1:cB B=1
 ·refine aZ h1 ?_
  rw[h1] at HBh
  have hb32:B<4294967296:=HBh
  have hd:bh B 0=(B:Int):=by unfold bh;simp;omega
  have hm:A%B<4294967296:=Nat.lt_trans (Nat.mod_lt _ hB0) hb32
  refine aa (aV _ (by decide)) ?_
  rw[hd]
  refine aa (Lk (n+2) hA hB0 (by omega)) (aa (z:=LM (A/B)) rfl (aa (z:=U (A%B)) rfl ?_))
  have e:D.st (D.putParts (List.replicate 16 (D.int .u32 0)) [(0,U (A%B))])=LM (A%B):=by
   have e2:LM (A%B)=ck 16 (fun j=>if j=0 then((A%B:Nat):Int) else 0):=cK fun j hj=>by
    by_cases h0:j=0
    ·subst h0;rw[if_pos rfl];unfold bh;rw[Nat.mul_zero,Nat.pow_zero,Nat.div_one,Nat.mod_eq_of_lt hm]
    ·rw[if_neg h0];exact eW (n:=1) hm (by omega)
   rw[e2];rfl
  rw[e]
 refine aY h1 ?_
 have hBA:B<=A:=by omega
 have hnm:=Bi HBl hBA HAh
 have HQ:=zL (by omega) hnm HBl HAh
 obtain⟨e,he⟩:∃ e,cB B=e+2:=⟨cB B-2,by omega⟩
 obtain⟨m,hm⟩:∃ m,cB A=m:=⟨_,rfl⟩
 rw[he] at HBh HBl hnm HQ hn16 ⊢
 rw[hm] at HAh hnm HQ hm16 ⊢
 rw[show e+2-1=e+1 by omega] at HBl
 have hz:dg B (e+1)≠0:=fun h0=>by
  have h:=iG HBh
  have:=(Nat.le_div_iff_mul_le (Nat.two_pow_pos (32*(e+1)))).2 (show 1*2^(32*(e+1))<=B by omega)
  omega
 obtain⟨L,hL,hL1,hL2⟩:=gt hz
 have hdl:=eE B (e+1)
 have hL3:L+1<=32:=by
  rcases Nat.lt_or_ge L 32 with h|h
  ·omega
  ·have:=Nat.pow_le_pow_right (show 0<2 by decide) h
   omega
 obtain⟨s,hs⟩:∃ s,s=32-(L+1):=⟨_,rfl⟩
 have hs31:s<=31:=by omega
 have hVn:=Fj HBh hL2 hL3
 rw[<-hs] at hVn
 have hp:=Nat.two_pow_pos s
 obtain⟨V,hV⟩:∃ V,V=B*2^s:=⟨_,rfl⟩
 obtain⟨N,hN⟩:∃ N,N=A*2^s:=⟨_,rfl⟩
 have hQN:N/V=A/B:=by rw[hV,hN,Nat.mul_div_mul_right _ _ hp]
 have hRN:N%V=A%B*2^s:=by rw[hV,hN,Nat.mul_mod_mul_right]
 have hV0:0<V:=by rw[hV];exact Nat.mul_pos hB0 hp
 rw[<-hV] at hVn
 replace hVn:V<2^(32*(e+2)):=hVn
 have hV1:2^(32*(e+1))<=V:=by rw[hV];exact Nat.le_trans HBl (Nat.le_mul_of_pos_right _ hp)
 have hVtop:V<dT:=xX (by omega) hVn
 refine aa (jz (b:=1) rfl (by omega) (by omega)) (aa (dM (by omega)) (aa (aV _ (by omega)) ?_))
 rw[show e+2-1=e+1 by omega,nq B (e+1)]
 refine aa (IK (n+1) hdl) ?_
 rw[hL,show(32-((L+1:Nat):Int))=(s:Nat) by omega]
 refine aa (HO (n+2) hB hs31) (aa (z:=LM (B*2^s)) rfl (aa (z:=.int .u32 ((B*2^s/dT:Nat):Int)) rfl ?_))
 refine aa (HO (n+2) hA hs31) (aa (z:=LM (A*2^s)) rfl (aa (z:=.int .u32 ((A*2^s/dT:Nat):Int)) rfl ?_))
 rw[C1 hA hs31,<-hV,<-hN]
 refine aa (z:=List.replicate 17 (D.int .u32 0)) rfl (aa (z:=(List.range 16).map fun i=>D.int .u32 (bh N i)) rfl (aa (Hl N) (aa (jz (b:=e+2) rfl (by omega) (by omega)) ?_)))
 rw[gP]
 obtain⟨c,hc⟩:∃ c,c=m-(e+2):=⟨_,rfl⟩
 rw[<-hc] at HQ ⊢
 rw[<-hQN] at HQ ⊢
 refine bq (fun t s'=>s'=[I ((c:Int)-(t:Nat)),LM (N/V/2^(32*(c+1-t))*2^(32*(c+1-t))),ck 17 (bh (de N V (c+1-t)))]) (c+1) 0 (Nat.zero_le _) ?_ (fun t ht s' hJ=>?_) (fun s' hJ=>?_)
 ·rw[Nat.sub_zero,yi HQ,Nat.div_eq_of_lt HQ,Nat.zero_mul]
  congr 2
 ·subst hJ
  left
  obtain⟨j,hj⟩:∃ j,j=c-t:=⟨_,rfl⟩
  rw[show c+1-t=j+1 by omega,show(c:Int)-(t:Nat)=(j:Nat) by omega,show c+1-(t+1)=j by omega,show(c:Int)-((t+1:Nat):Int)=(j:Int)-1 by omega]
  refine⟨[I ((j:Int)-1),LM (N/V/2^(32*j)*2^(32*j)),ck 17 (bh (de N V j))],?_,rfl⟩
  have hj16:j+e+2<=16:=by omega
  have hU:=A1 (N:=N) j hV0 hVn
  have hUt:=Bt (N:=N) j hV0
  have hqd:=Bl (N:=N) j hV0
  have right:=vK (N:=N) j hV0 hVn
  have wrong:=fun U1=>wE (N:=N) (U1:=U1) j hV0 hVn
  generalize hUU:de N V (j+1)=U at *
  have H:=CC hVn hV1 hUt
  have hW:=EH (j:=j) (m:=e+2+1) (U:=U) (by rw[show j+(e+2+1)=j+(e+2)+1 by omega];exact hU)
  have g2:D.idx (I ((j+(e+2):Nat):Int)) 17=some (j+(e+2)):=aE (by omega)
  have t1:=GC U (j+e+2) (j+e+1)
  have F1:=H.one
  have F2:=yM V (e+1)
  have v2:=eE V e
  have u2:=eE U (j+e)
  refine aa iU (aa ag (aZ (by show(j:Int) ≥ 0;omega) ?_))
  refine aa (bn (a:=j) (b:=e+2) (by omega)) (aa g2 (aa (aV _ (by omega)) (aa (kH U _) (aa (oq (m:=32) rfl (by decide) (by have:=eE U (j+(e+2));omega)) ?_))))
  refine aa (bn (a:=j) (b:=e+2) (by omega)) (aa (jz (b:=1) rfl (by omega) (by omega)) ?_)
  rw[show j+(e+2)-1=j+e+1 by omega,show j+(e+2)=j+e+2 by omega]
  refine aa (aE (by omega)) (aa (aV _ (by omega)) (aa (kH U _) (aa (gW (m:=32) (eE _ _) (by omega)) ?_)))
  refine aa (jz (b:=1) rfl (by omega) (by omega)) (aa (z:=e+1) (by rw[show e+2-1=e+1 by omega];exact aE (by omega)) (aa (aV _ (by omega)) (aa (kH V _) ?_)))
  have eT:dg U (j+e+2)*2^32+dg U (j+e+1)=dg U (j+e+2)*4294967296+dg U (j+e+1):=rfl
  rw[eT]
  generalize hT:dg U (j+e+2)*4294967296+dg U (j+e+1)=T at *
  generalize hF:dg V (e+1)=F at *
  refine aa (FM (by omega) (by omega)) (aa (BZ (by omega)) ?_)
  refine oX (fun G s'=>∃ R,s'=[W (G:Nat),W (R:Nat),LM (N/V/2^(32*(j+1))*2^(32*(j+1))),LM 0,LM V]/\G*F+R=T/\U/2^(32*j)/V<=G) (T/F) _ ⟨T%F,rfl,by rw[Nat.mul_comm];exact Nat.div_add_mod T F,H.start⟩ (fun G s' hJ=>?_)
  obtain⟨R,rfl,hDR,hqD⟩:=hJ
  have hDF:G<=G*F:=Nat.le_mul_of_pos_right _ (by omega)
  have hD64:G<=18446744073709551615:=by omega
  have hR64:R<=18446744073709551615:=by omega
  have cond:∀ b:Bool,b=(decide (R<4294967296)&&(decide (4294967296<=G)||decide (R*4294967296+dg U (j+e)<G*dg V e)))->(b=true->1<=G/\U/2^(32*j)/V<=G-1)/\(b=false->G<4294967296/\G<=U/2^(32*j)/V+1):=fun b hb=>by
   constructor
   ·intro hbt
    rw[hbt] at hb
    simp only[Bool.true_eq,Bool.and_eq_true,Bool.or_eq_true,decide_eq_true_eq] at hb
    rcases hb.2 with h|h
    ·exact⟨by omega,H.step_big h⟩
    ·have:=H.step hDR h;exact⟨this.2,this.1⟩
   ·intro hbf
    rw[hbf] at hb
    refine H.done hDR ?_
    by_cases h1:4294967296<=R
    ·exact .inl h1
    ·right
     have h1':R<4294967296:=by omega
     simp only[decide_eq_true h1',Bool.true_and,Bool.false_eq,Bool.or_eq_false_iff,decide_eq_false_iff_not] at hb
     omega
  have hcv:∀ {β:Type} {g:Bool->Option β} {y:β},g (decide (R<4294967296)&&(decide (4294967296<=G)||decide (R*4294967296+dg U (j+e)<G*dg V e)))=some y->(Option.bind (D.bin .lss (W (R:Nat)) (D.int .u64 4294967296)) fun x46=>
    Option.bind (D.truth x46) fun b47=>
    Option.bind (if b47 then(Option.bind (D.bin .geq (W (G:Nat)) (D.int .u64 4294967296)) fun x48=>
    Option.bind (D.truth x48) fun b49=>
    if b49 then(some true) else(Option.bind (D.bin .sub (I ((e+2:Nat):Int)) (D.int .i64 2)) fun x50=>
    Option.bind (D.idx x50 16) fun i51=>
    Option.bind (D.get (LM V) [i51]) fun x52=>
    Option.bind (D.conv .u64 x52) fun x53=>
    Option.bind (D.bin .mul (W (G:Nat)) x53) fun x54=>
    Option.bind (D.bin .shl (W (R:Nat)) (D.int .u64 32)) fun x55=>
    Option.bind (D.bin .add (I (j:Nat)) (I ((e+2:Nat):Int))) fun x56=>
    Option.bind (D.bin .sub x56 (D.int .i64 2)) fun x57=>
    Option.bind (D.idx x57 17) fun i58=>
    Option.bind (D.get (ck 17 (bh U)) [i58]) fun x59=>
    Option.bind (D.conv .u64 x59) fun x60=>
    Option.bind (D.bin .or x55 x60) fun x61=>
    Option.bind (D.bin .gtr x54 x61) fun x62=>
    D.truth x62)) else(some false)) g)=some y:=fun{β g y} hg=>by
   refine aa (FC (b:=4294967296) rfl) (aa ag (aa ?_ hg))
   by_cases h1:R<4294967296
   ·rw[decide_eq_true h1,if_pos rfl,Bool.true_and]
    refine aa (Hu (b:=4294967296) rfl) (aa ag ?_)
    by_cases h2:4294967296<=G
    ·rw[decide_eq_true h2,if_pos rfl,Bool.true_or]
    ·rw[decide_eq_false h2,if_neg (by decide),Bool.false_or]
     have hm1:G*dg V e<=4294967295*4294967295:=Nat.mul_le_mul (by omega) (by omega)
     refine aa (jz (b:=2) rfl (by omega) (by omega)) (aa (z:=e) (aE (by omega)) (aa (aV _ (by omega)) (aa (kH V e) (aa (CZ (by omega)) (aa (oq (m:=32) rfl (by decide) (by omega)) ?_)))))
     refine aa (bn (a:=j) (b:=e+2) (by omega)) (aa (jz (b:=2) rfl (by omega) (by omega)) (aa (z:=j+e) (by rw[show j+(e+2)-2=j+e by omega];exact aE (by omega)) (aa (aV _ (by omega)) (aa (kH U (j+e)) (aa (gW (m:=32) u2 (by omega)) (aa G4 ?_))))))
     rfl
   ·rw[decide_eq_false h1,if_neg (by decide),Bool.false_and]
  obtain⟨bb,hbb⟩:∃ bb,bb=(decide (R<4294967296)&&(decide (4294967296<=G)||decide (R*4294967296+dg U (j+e)<G*dg V e))):=⟨_,rfl⟩
  obtain⟨k1,k2⟩:=cond bb hbb
  rw[<-hbb] at hcv
  cases bb with
  | true=>
   left
   obtain⟨d1,d2⟩:=k1 rfl
   have hR32:R<4294967296:=by
    have:=hbb.symm
    simp only[Bool.and_eq_true,decide_eq_true_eq] at this
    exact this.1
   refine⟨G-1,[W ((G-1:Nat):Int),W ((R+F:Nat):Int),LM (N/V/2^(32*(j+1))*2^(32*(j+1))),LM 0,LM V],by omega,?_,R+F,rfl,xC hDR d1,d2⟩
   refine hcv (aa ag ?_)
   rw[if_pos rfl]
   exact aa (By (b:=1) (by omega) (by omega)) (aa (BU (by omega)) rfl)
  | false=>
   right
   obtain⟨d1,d2⟩:=k2 rfl
   refine⟨(0,[W (G:Nat),LM (N/V/2^(32*(j+1))*2^(32*(j+1))),LM 0,LM V]),?_,?_⟩
   ·refine hcv (aa ag ?_)
    rw[if_neg (by decide)];rfl
   clear hcv cond k1 k2 hbb
   have hD:G<=4294967295:=by omega
   have hVD:=rM hVn hD
   obtain⟨Z,hZ⟩:∃ Z,Z=jW (U/2^(32*j)) (V*G) (e+2+1):=⟨_,rfl⟩
   have hZl:Z<2^(32*(e+2+1)):=by rw[hZ];exact B8 _ _ _
   have hqj:=hqd
   have fin:∀ {y:Sum (List D) (Nat×List D)} {d:Nat} {u:D} {g:Nat×List D->Option (Sum (List D) (Nat×List D))},d=dg (N/V) j->u=ck 17 (bh (de N V j))->g (0,[W (d:Nat),u])=some y->g (0,[W ((dg (N/V) j:Nat):Int),ck 17 (bh (de N V j))])=some y:=fun h1 h2 h3=>by rw[<-h1,<-h2];exact h3
   refine aa (z:=(0,[W ((dg (N/V) j:Nat):Int),ck 17 (bh (de N V j))])) ?_ ?_
   ·refine fJ (fun i s'=>s'=[W (fH V G i:Nat),W (bz (U/2^(32*j)) (V*G) i:Nat),I (i:Nat),LM (N/V/2^(32*(j+1))*2^(32*(j+1))),LM 0,LM V,ck 17 (re U Z j i)]) (e+2) 0 (Nat.zero_le _) (by rw[sJ,mt,te];rfl) (fun i hi s' hJ=>?_) (fun s' hJ=>?_)
    ·subst hJ
     left
     refine⟨_,?_,rfl⟩
     have hi16:i<16:=by omega
     have hji:j+i<17:=by omega
     obtain⟨m1,m2⟩:=wA (V:=V) (i:=i) hD
     obtain⟨q1,q2⟩:=vp (U:=U) (j:=j) (k:=i) (by omega) hVn hD
     have s1:=vo V G i
     have s2:=sr V G i
     rw[nq V i] at s1 s2
     have ec:((fH V G i:Nat):Int)+(dg V i:Nat)*(G:Int)=((fH V G i+G*dg V i:Nat):Int):=by rw[Int.natCast_add,Int.natCast_mul,Int.mul_comm (G:Int)]
     rw[ec] at s1 s2
     refine aa am (aa ag (aZ (by show(i:Int)<((e+2:Nat):Int);omega) ?_))
     refine aa (dM hi16) (aa (aV _ hi16) (aa (kH V i) (aa (CZ (by omega)) (aa (BU (by omega)) ?_))))
     refine aa (bn (a:=j) (b:=i) (by omega)) (aa (aE hji) (aa (aV _ hji) ?_))
     rw[kw]
     refine aa (dD U (j+i)) (aa (gf _) ?_)
     rw[<-s1]
     refine aa (dD (V*G) i) (aa (q9 _ _) (aa (q9 _ _) (aa (bn (a:=j) (b:=i) (by omega)) (aa (gf _) (aa (aE hji) ?_)))))
     rw[q2,<-hZ]
     refine aa (kB U Z j i 17 hji) (aa uz ?_)
     rw[q1]
     refine aa (qi (by omega)) ?_
     rw[<-s2]
     exact aa (aS (aK (i:=i) (by omega))) rfl
    ·subst hJ
     refine⟨_,aa am (aa ag (aY (by show ¬ (((e+2:Nat):Int)<((e+2:Nat):Int));omega) rfl)),?_⟩
     have hjn:j+(e+2)<17:=by omega
     obtain⟨q1,q2⟩:=vp (U:=U) (j:=j) (k:=e+2) (Nat.le_refl _) hVn hD
     rw[<-Bo hVn hD] at q1 q2
     refine aa (bn (a:=j) (b:=e+2) (by omega)) (aa (aE hjn) (aa (aV _ hjn) ?_))
     rw[kw]
     refine aa (dD U (j+(e+2))) (aa (q9 _ _) (aa (q9 _ _) (aa (bn (a:=j) (b:=e+2) (by omega)) (aa (gf _) (aa (aE hjn) ?_)))))
     rw[q2,<-hZ]
     refine aa (kB U Z j (e+2) 17 hjn) (aa uz ?_)
     rw[q1,rU (m:=e+2+1) (by rw[show j+(e+2+1)=j+(e+2)+1 by omega];exact hU) hZl,uH hW hVD]
     have hmul:V*(U/2^(32*j)/V)<=U/2^(32*j):=Nat.mul_div_le _ _
     have hmul2:U/2^(32*j)<V*(U/2^(32*j)/V+1):=Nat.lt_mul_div_succ _ hV0
     rw[hqj] at hmul hmul2 hqD d2
     by_cases hDq:G=dg (N/V) j
     ·subst hDq
      rw[if_neg (by omega)]
      refine aa (z:=false) (by rfl) ?_
      rw[if_neg (by decide),hZ,right]
      rfl
     ·have hDq':G=dg (N/V) j+1:=by omega
      rw[if_pos (by rw[hDq'];exact hmul2)]
      refine aa (z:=true) (by rfl) ?_
      rw[if_pos rfl]
      refine aa (By (b:=1) (by omega) (by omega)) ?_
      have hwr:=wrong (dU U Z j) (by rw[hZ,hDq'])
      have hU1:dU U Z j<2^(32*(j+(e+2+1))):=vn hZl
      generalize dU U Z j=U1 at *
      obtain⟨Z2,hZ2⟩:∃ Z2,Z2=(U1/2^(32*j)+V)%2^(32*(e+2+1)):=⟨_,rfl⟩
      have hZ2l:Z2<2^(32*(e+2+1)):=by rw[hZ2];exact Nat.mod_lt _ (Nat.two_pow_pos _)
      have hstep:∀ i,i<e+2+1->bh Z2 i=((em (U1/2^(32*j)) V i:Nat)+(bh U1 (j+i)+bh V i))%4294967296:=fun i hi=>by
       rw[hZ2,g9,if_pos hi,zx,jp]
      refine fJ (fun i s'=>s'=[W (em (U1/2^(32*j)) V i:Nat),I (i:Nat),LM (N/V/2^(32*(j+1))*2^(32*(j+1))),LM 0,LM V,ck 17 (re U1 Z2 j i)]) (e+2) 0 (Nat.zero_le _) (by rw[oG,te];rfl) (fun i hi s' hJ=>?_) (fun s' hJ=>?_)
      ·subst hJ
       left
       refine⟨_,?_,rfl⟩
       have hi16:i<16:=by omega
       have hji:j+i<17:=by omega
       have c1:=km (U1/2^(32*j)) V i
       have a0:=bS U1 (j+i);have a1:=qh U1 (j+i)
       have b0:=bS V i;have b1:=qh V i
       have hcs:=oe (U1/2^(32*j)) V i
       rw[jp] at hcs
       refine aa am (aa ag (aZ (by show(i:Int)<((e+2:Nat):Int);omega) ?_))
       refine aa (bn (a:=j) (b:=i) (by omega)) (aa (aE hji) (aa (aV _ hji) ?_))
       rw[kw]
       refine aa (dD U1 (j+i)) (aa (dM hi16) (aa (aV _ hi16) (aa (dD V i) (aa (qX (by omega) (by omega)) (aa (qX (by omega) (by omega)) (aa (bn (a:=j) (b:=i) (by omega)) (aa (gf _) (aa (aE hji) ?_))))))))
       rw[<-hstep i (by omega)]
       refine aa (kB U1 Z2 j i 17 hji) (aa (qi (by omega)) ?_)
       rw[<-hcs]
       exact aa (aS (aK (i:=i) (by omega))) rfl
      ·subst hJ
       refine⟨_,aa am (aa ag (aY (by show ¬ (((e+2:Nat):Int)<((e+2:Nat):Int));omega) rfl)),?_⟩
       have c1:=km (U1/2^(32*j)) V (e+2)
       have hst:=hstep (e+2) (by omega)
       rw[eW hVn (Nat.le_refl _),Int.add_zero] at hst
       refine aa (bn (a:=j) (b:=e+2) (by omega)) (aa (aE hjn) (aa (aV _ hjn) ?_))
       rw[kw]
       refine aa (gf _) ?_
       have hadd:D.bin .add (.int .u32 (bh U1 (j+(e+2)))) (.int .u32 (((em (U1/2^(32*j)) V (e+2):Nat):Int)%4294967296))=some (.int .u32 (bh Z2 (e+2))):=by
        simp only[D.bin,if_true]
        have hw:∀ x:Int,IntKind.u32.wrap x=x%4294967296:=fun x=>rfl
        rw[hw,hst];congr 2;omega
       refine aa hadd (aa (aE hjn) (aa (kB U1 Z2 j (e+2) 17 hjn) ?_))
       rw[rU (m:=e+2+1) hU1 hZ2l,hZ2,hwr]
       rw[show G-1=dg (N/V) j by omega]
   ·have hqq:=eE (N/V) j
    refine aa (tj _) (aa (aE (show j<16 by omega)) ?_)
    rw[Nat.mod_eq_of_lt hqq]
    exact aa (yV (by omega)) (aa (ew (by simp only[inR];omega)) rfl)
 ·subst hJ
  refine⟨(0,[LM (N/V),ck 17 (bh (N%V))]),?_,?_⟩
  ·rw[show c+1-(c+1)=0 by omega,Ag,Nat.mul_zero,Nat.pow_zero,Nat.div_one,Nat.mul_one]
   exact aa iU (aa ag (aY (by show ¬ ((c:Int)-((c+1:Nat):Int)) ≥ 0;omega) rfl))
  ·have hRt:N%V<dT:=Nat.lt_trans (Nat.mod_lt _ hV0) hVtop
   have hlo:D.st (List.take 16 (List.drop 0 ((List.range 17).map fun i=>D.int .u32 (bh (N%V) i))))=LM (N%V):=by
    rw[qJ _ (by omega)]
    exact cK fun j _=>by rw[Nat.zero_add]
   show(if decide (0+16<=((List.range 17).map fun i=>D.int .u32 (bh (N%V) i)).length)=true then _ else none)=_
   rw[if_pos (by simp),hlo]
   refine aa (LK (n+2) hRt hs31) ?_
   rw[hRN,Nat.mul_div_cancel _ hp]
   rfl
end Go.Proofs.YtjjjkojfijpeeaaGreat.Sy
end
section
set_option linter.unusedVariables false
namespace Go.Proofs.YtjjjkojfijpeeaaGreat.Sy
open Go Go.Proofs Go.Proofs.YtjjjkojfijpeeaaGreat.Geo
theorem zH{m:Nat}(hm:m<18446744073709551616):D.st (D.putParts (List.replicate 16 (D.int .u32 0)) [(0,.int .u32 ((m:Int)%4294967296)),(1,.int .u32 ((m:Int)/4294967296%4294967296))])=LM m:=by
 have e:LM m=ck 16 (fun j=>if j=0 then(m:Int)%4294967296 else if j=1 then(m:Int)/4294967296%4294967296 else 0):=cK fun j hj=>by
  match j with
  | 0=>simp[bh]
  | 1=>simp[bh]
  | j+2=>
   rw[if_neg (by omega),if_neg (by omega)]
   exact eW (n:=2) (by simpa using hm) (by omega)
 rw[e];rfl
theorem ut{X:Nat}(h:X<18446744073709551616):dg X 1*4294967296+dg X 0=X:=by
 unfold dg
 simp only[Nat.mul_zero,Nat.pow_zero,Nat.div_one,Nat.mul_one]
 have:(2:Nat)^32=4294967296:=rfl
 rw[this];omega
theorem fC(b:D)(c:D){X i:Nat}(h:i<16):D.get (.st [b,c,LM X]) [2,i]=some (.int .u32 (bh X i)):=aa (z:=LM X) rfl (aV _ h)
theorem yv(n:Nat){m:Nat}(h:m<dT):cA (n+1) 116 [.bool false,LM m]=some (ai (m:Int)):=by
 rw[ul n false h]
 have:sgn false m=(m:Int):=if_neg (by decide)
 rw[this]
theorem Ls(n:Nat){x:Int}(hx:In x):cA (n+3) 171 [ai x]=some (ai (x.natAbs:Nat)):=by
 rw[Le]
 unfold Fq
 have h118:cA (n+2) 118 [.sl [ai x]]=some (.bool true):=kZ n (a:=some x) (bU hx)
 refine aa h118 (aa cO (aa (z:=false) rfl ?_))
 rw[if_neg (by decide)]
 have hg:D.get (ai x) [2]=some (LM x.natAbs):=by rw[ca];rfl
 exact aa hg (aa (yv (n+1) (bm.1 hx)) rfl)
theorem At:18446744073709551616<=dT:=by
 have h:=ld (a:=2) (b:=16) (by decide)
 rw[rR] at h
 rw[fD];exact h
theorem xl{X:Nat}(hX:X<dT):cB X<=2↔X<18446744073709551616:=by
 have h1:=dq hX
 constructor
 ·intro h
  exact Nat.lt_of_lt_of_le h1 (Nat.le_trans (Nat.pow_le_pow_right (by decide) (show 32*cB X<=64 by omega)) (by decide))
 ·intro h
  rcases Nat.lt_or_ge 2 (cB X) with k|k
  ·have:=lK (X:=X) (by omega)
   have h2:2^64<=2^(32*(cB X-1)):=Nat.pow_le_pow_right (by decide) (by omega)
   omega
  ·exact k
theorem fZ{m:Nat}:In (m:Int)↔m<dT:=by rw[bm,Int.natAbs_natCast]
theorem pL(n:Nat){x y:Int}(hx:In x)(hy:In y)(ih:y≠0->cA (n+4) 131 [ai (y.natAbs:Nat),ai ((x.natAbs%y.natAbs:Nat):Int)]=some (ai (Nat.gcd y.natAbs (x.natAbs%y.natAbs):Nat))) :
  cA (n+5) 131 [ai x,ai y]=some (ai (Nat.gcd x.natAbs y.natAbs:Nat)):=by
 rw[IJ]
 unfold Es
 have h118:=tO (n+2) (bU hx) (bU hy)
 refine aa h118 (aa cO (aa ag ?_))
 rw[if_neg (by simp)]
 have hxt:=bm.1 hx
 have hyt:=bm.1 hy
 rw[ca x,ca y]
 have hxy:y=0↔y.natAbs=0:=by omega
 rw[Ne,hxy] at ih
 generalize hX:x.natAbs=X at *
 generalize hY:y.natAbs=Y at *
 refine aa (z:=LM X) rfl (aa (xD (n+3) hxt) (aa Bw (aa ag ?_)))
 refine aa (z:=decide (X<18446744073709551616)&&decide (Y<18446744073709551616)) ?_ (aa ag ?_)
 ·by_cases h:X<18446744073709551616
  ·refine aZ (by have:=(xl hxt).2 h;omega) ?_
   refine aa (z:=LM Y) rfl (aa (xD (n+3) hyt) (aa Bw ?_))
   rw[decide_eq_true h,Bool.true_and,ag]
   congr 1;rw[decide_eq_decide,<-xl hyt];omega
  ·refine aY (by intro k;exact h ((xl hxt).1 (by omega))) ?_
   rw[decide_eq_false h,Bool.false_and]
 by_cases hs:X<18446744073709551616/\Y<18446744073709551616
 ·rw[decide_eq_true hs.1,decide_eq_true hs.2,Bool.and_self,if_pos rfl]
  have dx1:=eE X 1;have dx0:=eE X 0;have dy1:=eE Y 1;have dy0:=eE Y 0
  refine aa (fC _ _ (by decide)) (aa (kH X 1) (aa (oq (m:=32) rfl (by decide) (by omega)) (aa (fC _ _ (by decide)) (aa (kH X 0) (aa (gW (m:=32) dx0 (by omega)) ?_)))))
  refine aa (fC _ _ (by decide)) (aa (kH Y 1) (aa (oq (m:=32) rfl (by decide) (by omega)) (aa (fC _ _ (by decide)) (aa (kH Y 0) (aa (gW (m:=32) dy0 (by omega)) ?_)))))
  have ex:dg X 1*2^32+dg X 0=X:=ut hs.1
  have ey:dg Y 1*2^32+dg Y 0=Y:=ut hs.2
  rw[ex,ey]
  refine oX (fun m s=>∃ a,s=[W (a:Nat),W (m:Nat)]/\a<18446744073709551616/\m<18446744073709551616/\Nat.gcd a m=Nat.gcd X Y) Y _ ⟨X,rfl,hs.1,hs.2,rfl⟩ (fun m s hJ=>?_)
  obtain⟨a,rfl,ha,hm,hg⟩:=hJ
  have hbq:D.beq (W (m:Nat)) (.int .u64 0)=decide (m=0):=by
   simp only[D.beq,decide_true,Bool.true_and];rw[decide_eq_decide];omega
  by_cases h0:m=0
  ·right
   subst h0
   refine⟨(0,[W (a:Nat)]),?_,?_⟩
   ·refine aa (z:=false) (by show D.truth (.bool (!(D.beq (W ((0:Nat):Int)) (.int .u64 0))))=_;rw[hbq];rfl) ?_
    rw[if_neg (by decide)];rfl
   ·rw[Nat.gcd_zero_right] at hg
    refine aa (gf _) (aa (qi (by show(0:Int)<=(a:Nat);omega)) (aa (gf _) ?_))
    have e:=zH ha
    refine aa (z:=ai (a:Int)) ?_ (by rw[<-hg])
    show cA (n+4) 116 [.bool false,D.st (D.putParts (List.replicate 16 (D.int .u32 0)) [(0,.int .u32 ((a:Int)%4294967296)),(1,.int .u32 ((a:Int)/4294967296%4294967296))])]=_
    rw[e]
    exact yv (n+3) (Nat.lt_of_lt_of_le ha At)
  ·left
   refine⟨a%m,[W (m:Nat),W ((a%m:Nat):Int)],Nat.mod_lt _ (by omega),?_,m,rfl,hm,Nat.lt_trans (Nat.mod_lt _ (by omega)) hm,by rw[<-hg,Nat.gcd_comm a m,Nat.gcd_rec m a,Nat.gcd_comm]⟩
   refine aa (z:=true) (by show D.truth (.bool (!(D.beq (W (m:Nat)) (.int .u64 0))))=_;rw[hbq,decide_eq_false h0];rfl) ?_
   rw[if_pos rfl]
   exact aa (BZ h0) rfl
 ·have:(decide (X<18446744073709551616)&&decide (Y<18446744073709551616))=false:=by
   rw[Bool.and_eq_false_iff,decide_eq_false_iff_not,decide_eq_false_iff_not];omega
  rw[this,if_neg (by decide)]
  refine aa (z:=LM X) rfl (aa (z:=LM Y) rfl ?_)
  rw[ib,lz hyt eZ]
  by_cases h0:Y=0
  ·rw[decide_eq_true h0]
   refine aa (z:=false) rfl ?_
   rw[if_neg (by decide),h0,Nat.gcd_zero_right]
   have:=Ls (n+1) hx
   rw[ca x,hX] at this
   exact aa this rfl
  ·rw[decide_eq_false h0]
   refine aa (z:=true) rfl ?_
   rw[if_pos rfl]
   have hr:X%Y<Y:=Nat.mod_lt _ (by omega)
   refine aa (HD n hxt hyt (by omega)) (aa (z:=LM (X/Y)) rfl (aa (z:=LM (X%Y)) rfl (aa (yv (n+3) hyt) (aa (yv (n+3) (Nat.lt_trans hr hyt)) (aa (ih h0) ?_)))))
   rw[Nat.gcd_comm X Y,Nat.gcd_rec Y X,Nat.gcd_comm (X%Y) Y]
theorem we:∀ (d n:Nat) {x y:Int},In x->In y->y.natAbs<2^d->cA (n+2*d+5) 131 [ai x,ai y]=some (ai (Nat.gcd x.natAbs y.natAbs:Nat))
 | 0,n,x,y,hx,hy,h=>pL n hx hy fun h0=>absurd (by omega) h0
 | d+1,n,x,y,hx,hy,h=>by
  rw[show n+2*(d+1)+5=n+2*d+2+5 by omega]
  refine pL _ hx hy fun h0=>?_
  have hyt:=bm.1 hy
  have hr:x.natAbs%y.natAbs<y.natAbs:=Nat.mod_lt _ (by omega)
  have e1:=pL (n+2*d+1) (x:=(y.natAbs:Nat)) (y:=((x.natAbs%y.natAbs:Nat):Int)) (fZ.2 hyt) (fZ.2 (Nat.lt_trans hr hyt)) (fun h1=>by
   simp only[Int.natAbs_natCast]
   have h2:y.natAbs%(x.natAbs%y.natAbs)<x.natAbs%y.natAbs:=Nat.mod_lt _ (by omega)
   have h3:y.natAbs%(x.natAbs%y.natAbs)<2^d:=by
    generalize x.natAbs%y.natAbs=r at *
    rw[Nat.pow_succ] at h
    rcases Nat.lt_or_ge r (2^d) with k|k
    ·omega
    ·have:y.natAbs%r=y.natAbs-r:=by
      rw[Nat.mod_eq_sub_mod (by omega),Nat.mod_eq_of_lt (by omega)]
     omega
   have:=we d n (x:=((x.natAbs%y.natAbs:Nat):Int)) (y:=((y.natAbs%(x.natAbs%y.natAbs):Nat):Int)) (fZ.2 (Nat.lt_trans hr hyt)) (fZ.2 (Nat.lt_trans (Nat.lt_trans h2 hr) hyt)) (by rw[Int.natAbs_natCast];exact h3)
   simp only[Int.natAbs_natCast] at this
   exact this)
  simp only[Int.natAbs_natCast] at e1
  exact e1
theorem pR{m k:Nat}(h:k=32*16):m<dT↔m<2^k:=by
 have e:kR 16=2^k:=by rw[cM,h]
 rw[fD,e]
theorem G0(k n:Nat)(hk:k=32*16){x y:Int}(hx:In x)(hy:In y):cA (n+2*k+5) 131 [ai x,ai y]=some (ai (Nat.gcd x.natAbs y.natAbs:Nat)):=
 we k n hx hy ((pR hk).1 (bm.1 hy))
theorem Gd(n:Nat){x y:Int}(hx:In x)(hy:In y):cA (n+1029) 131 [ai x,ai y]=some (ai (Nat.gcd x.natAbs y.natAbs:Nat)):=
 G0 512 n rfl hx hy
theorem Jo(n:Nat){x:Int}(hx:In x):cA (n+3) 217 [ai x]=some (I (iQ x.natAbs:Nat)):=by
 rw[Ji]
 unfold Eu
 have h118:=kZ n (bU hx)
 have hxt:=bm.1 hx
 rw[show fh (some x)=_ from ca x] at h118
 rw[ca x]
 have h16:=iN x.natAbs
 have hh:=dq hxt
 refine aa (z:=LM x.natAbs) rfl (aa (xD (n+1) hxt) (aa h118 (aa cO (aa (z:=false) rfl (aa (z:=decide (cB x.natAbs=0)) (by rw[if_neg (by decide)];show D.truth (.bool (D.beq (I (cB x.natAbs:Nat)) (I ((0:Nat):Int))))=_;rw[fe];rfl) (aa ag ?_))))))
 by_cases h0:cB x.natAbs=0
 ·refine aZ h0 ?_
  rw[h0] at hh
  have:x.natAbs=0:=by simpa using hh
  rw[this];rfl
 ·refine aY h0 ?_
  have hl:=lK h0
  generalize cB x.natAbs=p at *
  generalize x.natAbs=X at *
  have hd:X/2^(32*(p-1))=dg X (p-1):=iG (by rw[show p-1+1=p by omega];exact hh)
  have hdl:=eE X (p-1)
  have hbl:iQ (dg X (p-1))<=32:=by
   by_cases hz:dg X (p-1)=0
   ·rw[hz];decide
   ·obtain⟨L,k1,k2,_⟩:=gt hz
    rcases Nat.lt_or_ge L 32 with h|h
    ·omega
    ·have:=Nat.pow_le_pow_right (show 0<2 by decide) h
     omega
  have hb:=qz (x:=X) (m:=32*(p-1)) hl
  rw[hd] at hb
  refine aa (jz (b:=1) rfl (by omega) (by omega)) (aa (qa (a:=32) (by omega)) (aa (jz (b:=1) rfl (by omega) (by omega)) (aa (dM (by omega)) (aa (fC _ _ (by omega)) (aa (Hi (x:=dg X (p-1)) (n+1) hdl) (aa (bn (a:=32*(p-1)) (b:=iQ (dg X (p-1))) (by omega)) ?_))))))
  rw[hb]
theorem E6(X:Nat):64<iQ X↔18446744073709551616<=X:=by
 by_cases h0:X=0
 ·subst h0;simp[iQ]
 ·obtain⟨L,h1,h2,h3⟩:=gt h0
  rw[h1]
  constructor
  ·intro h
   have:=Nat.pow_le_pow_right (show 0<2 by decide) (show 64<=L by omega)
   omega
  ·intro h
   rcases Nat.lt_or_ge 64 (L+1) with k|k
   ·exact k
   ·have:=Nat.pow_le_pow_right (show 0<2 by decide) k
    omega
theorem Ek(n:Nat){x:Int}(hx:In x):(inR x/\cA (n+4) 202 [ai x]=some (.tup [I x,.bool true]))\/(¬ inR x/\cA (n+4) 202 [ai x]=some (.tup [I 0,.bool false])):=by
 rw[Jz]
 unfold Am
 have h118:=kZ (n+1) (bU hx)
 have h217:=Jo n hx
 have hxt:=bm.1 hx
 have first:∀ {y:D} {g:Bool->Option D},g (decide (18446744073709551616<=x.natAbs))=some y->(Option.bind (cA (n+3) 118 [.sl [ai x]]) fun r1=>Option.bind (D.un .not r1) fun x2=>Option.bind (D.truth x2) fun b3=>Option.bind (if b3 then(some true) else(Option.bind (cA (n+3) 217 [ai x]) fun r4=>Option.bind (D.bin .gtr r4 (D.int .i64 64)) fun x5=>D.truth x5)) fun b6=>Option.bind (D.truth (D.bool b6)) g)=some y:=fun{y g} hg=>by
  refine aa h118 (aa cO (aa (z:=false) rfl (aa (z:=decide (18446744073709551616<=x.natAbs)) ?_ (aa ag hg))))
  rw[if_neg (by decide)]
  refine aa h217 (aa ff ?_)
  rw[ag]
  congr 1;rw[decide_eq_decide,<-E6];omega
 by_cases hbig:18446744073709551616<=x.natAbs
 ·right
  refine⟨by simp only[inR];omega,first ?_⟩
  rw[decide_eq_true hbig,if_pos rfl]
 ·have hX:x.natAbs<18446744073709551616:=by omega
  have w1:∀ z:Int,IntKind.u64.wrap z=z%18446744073709551616:=fun z=>rfl
  have hleq:∀ (a b:Nat) {c:D},c=.int .u64 (b:Nat)->D.bin .leq (W (a:Nat)) c=some (.bool (decide (a<=b))):=fun a b c hc=>by
   subst hc;simp only[D.bin,if_true];congr 2;rw[decide_eq_decide];omega
  have dx1:=eE x.natAbs 1;have dx0:=eE x.natAbs 0
  have ex:dg x.natAbs 1*2^32+dg x.natAbs 0=x.natAbs:=ut hX
  have cv:∀ z:Int,inR z->∀ a:Int,(a-z)%18446744073709551616=0->D.conv .i64 (W a)=some (I z):=fun z hz a h=>by
   obtain⟨h1,h2⟩:=hz
   simp only[D.conv]
   have hw:IntKind.i64.wrap a=(if(true&&decide (a%18446744073709551616 ≥ 9223372036854775808))=true then a%18446744073709551616-18446744073709551616 else a%18446744073709551616):=rfl
   rw[hw]
   congr 2
   simp only[Bool.true_and,decide_eq_true_eq]
   split<;>omega
  have go:∀ y:D,(if x<0 then(if x.natAbs<=9223372036854775808 then y=.tup [I x,.bool true] else y=.tup [I 0,.bool false]) else(if x.natAbs<9223372036854775808 then y=.tup [I x,.bool true] else y=.tup [I 0,.bool false]))->Am bg (cA (n+3)) (ai x)=some y:=fun y hy=>by
   unfold Am
   refine first ?_
   rw[decide_eq_false hbig,if_neg (by decide),ca x]
   refine aa (fC _ _ (by decide)) (aa (kH x.natAbs 1) (aa (oq (m:=32) rfl (by decide) (by omega)) (aa (fC _ _ (by decide)) (aa (kH x.natAbs 0) (aa (gW (m:=32) dx0 (by omega)) ?_)))))
   rw[ex]
   refine aa (z:=.bool (decide (x<0))) rfl (aa ag ?_)
   refine aa (z:=decide (x<0)&&decide (x.natAbs<=9223372036854775808)) ?_ (aa ag ?_)
   ·by_cases h:x<0
    ·refine aZ h (aa (hleq _ 9223372036854775808 rfl) ?_)
     rw[ag,decide_eq_true h,Bool.true_and]
    ·refine aY h ?_
     rw[decide_eq_false h,Bool.false_and]
   by_cases h:x<0
   ·rw[if_pos h] at hy
    rw[decide_eq_true h,Bool.true_and]
    by_cases h2:x.natAbs<=9223372036854775808
    ·rw[if_pos h2] at hy
     refine aZ h2 ?_
     have hn:D.un .neg (W (x.natAbs:Nat))=some (W (IntKind.u64.wrap (0-(x.natAbs:Nat)))):=by simp only[D.un]
     refine aa hn (aa (cv x (by simp only[inR];omega) _ (by rw[w1];omega)) ?_)
     rw[hy]
    ·rw[if_neg h2] at hy
     refine aY h2 (aa (z:=.bool true) (by rfl) (aa (z:=.bool false) rfl (aa (z:=false) rfl (aa (z:=false) rfl (aa (z:=false) rfl ?_)))))
     rw[if_neg (by decide),hy]
   ·rw[if_neg h] at hy
    rw[decide_eq_false h,Bool.false_and,if_neg (by decide)]
    refine aa (z:=.bool false) (by rfl) (aa (z:=.bool true) rfl (aa (z:=true) rfl (aa (z:=decide (x.natAbs<9223372036854775808)) ?_ (aa ag ?_))))
    ·rw[if_pos rfl];exact aa (FC (b:=9223372036854775808) rfl) ag
    by_cases h2:x.natAbs<9223372036854775808
    ·rw[if_pos h2] at hy
     refine aZ h2 (aa (cv x (by simp only[inR];omega) _ (by omega)) ?_)
     rw[hy]
    ·rw[if_neg h2] at hy
     refine aY h2 ?_
     rw[hy]
  by_cases hr:inR x
  ·left
   refine⟨hr,go _ ?_⟩
   simp only[inR] at hr
   split
   ·rw[if_pos (by omega)]
   ·rw[if_pos (by omega)]
  ·right
   refine⟨hr,go _ ?_⟩
   simp only[inR] at hr
   split
   ·rw[if_neg (by omega)]
   ·rw[if_neg (by omega)]
end Go.Proofs.YtjjjkojfijpeeaaGreat.Sy
end
