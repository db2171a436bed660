/- Part 12 of the proof that HullContainsPoints answers true at every input -/
import Derived.Test.YtjjjkojfijpeeaaGreatPoints08
import Derived.Test.YtjjjkojfijpeeaaGreatPoints09
import Derived.Test.YtjjjkojfijpeeaaGreatPoints11
set_option linter.unusedVariables false
set_option linter.unusedSimpArgs false
set_option linter.unnecessarySimpa false
section
set_option linter.unusedVariables false
namespace Go.Proofs.YtjjjkojfijpeeaaGreat.Sy
open Go Go.Proofs Go.Proofs.YtjjjkojfijpeeaaGreat.Geo
theorem yN{x y q:Int}(hy:y≠0)(h:x=y*q):sgn (!(decide (decide (x<0)=decide (y<0)))) (x.natAbs/y.natAbs)=q:=by
 have e:x.natAbs/y.natAbs=q.natAbs:=by
  rw[h,Int.natAbs_mul,Nat.mul_div_cancel_left _ (by omega)]
 rw[e]
 have key:q=0\/(q<0/\(x<0↔¬ y<0))\/(0<q/\(x<0↔y<0)):=by
  rcases Int.lt_trichotomy q 0 with hq|hq|hq
  ·right;left
   refine⟨hq,?_⟩
   rcases Int.lt_or_gt_of_ne hy with k|k
   ·have:=Int.mul_pos_of_neg_of_neg k hq;omega
   ·have:=Int.mul_neg_of_pos_of_neg k hq;omega
  ·exact .inl hq
  ·right;right
   refine⟨hq,?_⟩
   rcases Int.lt_or_gt_of_ne hy with k|k
   ·have:=Int.mul_neg_of_neg_of_pos k hq;omega
   ·have:=Int.mul_pos k hq;omega
 unfold sgn
 by_cases hx:x<0<;>by_cases hyy:y<0<;>simp[hx,hyy]<;>omega
theorem c9(x:Int):D.get (ai x) [1]=some (.bool (decide (x<0))):=rfl
theorem kE(x:Int):D.get (ai x) [2]=some (LM x.natAbs):=by rw[ca];rfl
theorem Bz{x:Int}(h:x≠0):sg x≠0:=by unfold sg;split<;>(try split)<;>omega
theorem CY{x y:Int}(hx:In x)(h:y ∣ x):In (x/y):=by
 obtain⟨q,rfl⟩:=h
 rw[bm] at *
 by_cases hy:y=0
 ·subst hy;simp;exact eZ
 ·rw[Int.mul_ediv_cancel_left _ hy]
  rw[Int.natAbs_mul] at hx
  exact Nat.lt_of_le_of_lt (Nat.le_mul_of_pos_left _ (by omega)) hx
theorem Hw(n:Nat){x y:Int}(hx:In x)(hy:In y)(hy0:y≠0)(hd:y ∣ x):cA (n+5) 172 [ai x,ai y]=some (.tup [ai (x/y),ai 0]):=by
 have hin:=CY hx hd
 obtain⟨q,hq⟩:=hd
 have exy:x/y=q:=by rw[hq];exact Int.mul_ediv_cancel_left _ hy0
 rw[exy] at hin ⊢
 rw[JJ]
 unfold DY
 have h118:cA (n+4) 118 [.sl [ai x,ai y]]=some (.bool true):=tO (n+2) (a:=some x) (b:=some y) (bU hx) (bU hy)
 have hbe:∀ a b:Int,D.beq (I a) (.int .i64 b)=decide (a=b):=fun a b=>cV
 refine aa h118 (aa cO (aa (z:=false) rfl (aa (z:=false) ?_ (aa (z:=false) rfl ?_))))
 ·rw[if_neg (by decide)]
  refine aa (B9 (n+1) hy) ?_
  rw[hbe,decide_eq_false (Bz hy0)];rfl
 rw[if_neg (by decide)]
 by_cases fast:(inR x/\x≠-9223372036854775808)/\inR y/\y≠-9223372036854775808
 ·obtain⟨⟨fx,fx1⟩,fy,fy1⟩:=fast
  have hx202:cA (n+4) 202 [ai x]=some (.tup [I x,.bool true]):=by
   rcases Ek n hx with⟨_,h⟩|⟨h,_⟩
   ·exact h
   ·exact absurd fx h
  have hy202:cA (n+4) 202 [ai y]=some (.tup [I y,.bool true]):=by
   rcases Ek n hy with⟨_,h⟩|⟨h,_⟩
   ·exact h
   ·exact absurd fy h
  have hqa:q.natAbs<=x.natAbs:=by rw[hq,Int.natAbs_mul];exact Nat.le_mul_of_pos_left _ (by omega)
  have hqr:inR q:=by simp only[inR] at *;omega
  have e1:x.tdiv y=q:=by rw[hq];exact Int.mul_tdiv_cancel_left _ hy0
  have e2:x.tmod y=0:=by rw[hq];exact Int.mul_tmod_right ..
  refine aa (z:=(0,[ai q,ai 0])) ?_ rfl
  refine aa hx202 (aa (z:=I x) rfl (aa (z:=.bool true) rfl (aa (z:=true) rfl (aa (z:=true) ?_ (aa (z:=true) rfl ?_)))))
  ·rw[if_pos rfl,hbe,decide_eq_false fx1];rfl
  rw[if_pos rfl]
  refine aa hy202 (aa (z:=I y) rfl (aa (z:=.bool true) rfl (aa (z:=true) rfl (aa (z:=true) ?_ (aa (z:=true) rfl ?_)))))
  ·rw[if_pos rfl,hbe,decide_eq_false fy1];rfl
  rw[if_pos rfl]
  refine aa (sq hy0 (by rw[e1];exact hqr)) (aa (rG hy0) ?_)
  rw[e1,e2]
  refine aa (z:=(0,[I q,I 0])) (aa (z:=false) rfl (aa (z:=false) rfl (aa (z:=false) rfl rfl))) ?_
  exact aa (DO (n+2) hqr) (aa (DO (n+2) (show inR 0 from⟨by decide,by decide⟩)) rfl)
 ·refine aa (z:=(1,[.st [.bool false,.bool false,aC aP],.st [.bool false,.bool false,aC aP]])) ?_ ?_
  ·rcases Ek n hx with⟨fx,h⟩|⟨fx,h⟩
   ·by_cases fx1:x=-9223372036854775808
    ·refine aa h (aa (z:=I x) rfl (aa (z:=.bool true) rfl (aa (z:=true) rfl (aa (z:=false) ?_ (aa (z:=false) rfl rfl)))))
     rw[if_pos rfl,hbe,decide_eq_true fx1];rfl
    ·refine aa h (aa (z:=I x) rfl (aa (z:=.bool true) rfl (aa (z:=true) rfl (aa (z:=true) ?_ (aa (z:=true) rfl ?_)))))
     ·rw[if_pos rfl,hbe,decide_eq_false fx1];rfl
     rw[if_pos rfl]
     rcases Ek n hy with⟨fy,h2⟩|⟨fy,h2⟩
     ·have fy1:y=-9223372036854775808:=Classical.byContradiction fun k=>fast ⟨⟨fx,fx1⟩,fy,k⟩
      refine aa h2 (aa (z:=I y) rfl (aa (z:=.bool true) rfl (aa (z:=true) rfl (aa (z:=false) ?_ (aa (z:=false) rfl rfl)))))
      rw[if_pos rfl,hbe,decide_eq_true fy1];rfl
     ·exact aa h2 (aa (z:=I 0) rfl (aa (z:=.bool false) rfl (aa (z:=false) rfl (aa (z:=false) rfl (aa (z:=false) rfl rfl)))))
   ·exact aa h (aa (z:=I 0) rfl (aa (z:=.bool false) rfl (aa (z:=false) rfl (aa (z:=false) rfl (aa (z:=false) rfl rfl)))))
  rw[if_neg (by decide)]
  have hxt:=bm.1 hx
  have hyt:=bm.1 hy
  have hmod:x.natAbs%y.natAbs=0:=by rw[hq,Int.natAbs_mul];exact Nat.mul_mod_right _ _
  have hqt:x.natAbs/y.natAbs<dT:=Nat.lt_of_le_of_lt (Nat.div_le_self _ _) hxt
  have h170:=HD n hxt hyt (by omega)
  rw[hmod] at h170
  refine aa (kE x) (aa (kE y) (aa h170 (aa (z:=LM (x.natAbs/y.natAbs)) rfl (aa (z:=LM 0) rfl (aa (c9 x) (aa (c9 y) ?_))))))
  have hb:(!(D.beq (.bool (decide (x<0))) (.bool (decide (y<0)))))=!(decide (decide (x<0)=decide (y<0))):=by
   by_cases h1:x<0<;>by_cases h2:y<0<;>simp[h1,h2,D.beq]
  rw[hb,ib,lz eZ eZ,decide_eq_true rfl]
  refine aa (ul (n+3) _ hqt) ?_
  rw[yN hy0 hq]
  refine aa (z:=(0,[LM 0,ai q])) (aa (z:=false) rfl (aa (z:=false) rfl (aa (z:=false) rfl rfl))) ?_
  refine aa (c9 y) (aa (ul (n+3) _ eZ) ?_)
  have:sgn (decide (y<0)) 0=0:=by unfold sgn;split<;>rfl
  rw[this];rfl
theorem BK(n:Nat){x y:Int}(hx:In x)(hy:In y)(hy0:y≠0)(hd:y ∣ x):cA (n+6) 132 [ai x,ai y]=some (ai (x/y)):=by
 rw[I5]
 unfold Dy
 exact aa (Hw n hx hy hy0 hd) (aa (z:=ai (x/y)) rfl (aa (z:=ai 0) rfl rfl))
def cR(q:Rat):D:=.st [ai q.num,ai (q.den:Int)]
def FD(q:Rat):Prop:=In q.num/\In (q.den:Int)
theorem Dl(n:Nat){x:Int}(hx:In x):cA (n+2) 128 [ai x]=some (.bool true):=by
 rw[Kb]
 unfold Fe
 have h:cA (n+1) 167 [ai x]=some (.bool true):=Hx n (a:=some x) (bU hx)
 refine aa (z:=.bool false) rfl (aa (z:=.bool true) rfl (aa (z:=true) rfl (aa (z:=true) ?_ rfl)))
 rw[if_pos rfl]
 exact aa h rfl
theorem DD(n:Nat){x:Int}(hx:In x):cA (n+3) 68 [ai x]=some (ai (-x)):=Ni n (a:=some x) (bU hx)
theorem fi(x:Int){d:Int}(hd:d≠0):(Rat.divInt x d).num=x/(if d<0 then -(Nat.gcd x.natAbs d.natAbs:Int) else(Nat.gcd x.natAbs d.natAbs:Int))/\((Rat.divInt x d).den:Int)=d/(if d<0 then -(Nat.gcd x.natAbs d.natAbs:Int) else(Nat.gcd x.natAbs d.natAbs:Int)):=by
 have hg:d.gcd x=Nat.gcd x.natAbs d.natAbs:=by unfold Int.gcd;exact Nat.gcd_comm ..
 have hgp:0<Nat.gcd x.natAbs d.natAbs:=Nat.gcd_pos_of_pos_right _ (by omega)
 have dx:((Nat.gcd x.natAbs d.natAbs:Nat):Int) ∣ x:=Int.ofNat_dvd_left.2 (Nat.gcd_dvd_left _ _)
 have dd:((Nat.gcd x.natAbs d.natAbs:Nat):Int) ∣ d:=Int.ofNat_dvd_left.2 (Nat.gcd_dvd_right _ _)
 rw[Rat.num_divInt,Rat.den_divInt,if_neg hd,hg]
 generalize Nat.gcd x.natAbs d.natAbs=g at *
 by_cases h:d<0
 ·rw[if_pos h,Int.sign_eq_neg_one_of_neg h]
  refine⟨?_,?_⟩
  ·rw[Int.ediv_neg,show -1*x=-x by omega,Int.neg_ediv_of_dvd dx]
  ·rw[Int.ediv_neg,Int.natCast_ediv,<-Int.neg_ediv_of_dvd dd]
   congr 1;omega
 ·rw[if_neg h,Int.sign_eq_one_of_pos (by omega),Int.one_mul]
  refine⟨rfl,?_⟩
  rw[Int.natCast_ediv]
  congr 1;omega
theorem HX(n:Nat){x d:Int}(hx:In x)(hd:In d)(hd0:d≠0):cA (n+1030) 62 [ai x,ai d]=some (cR (Rat.divInt x d)):=by
 rw[Nb]
 unfold Ie
 have hbe:∀ a b:Int,D.beq (I a) (.int .i64 b)=decide (a=b):=fun a b=>cV
 have hgp:0<Nat.gcd x.natAbs d.natAbs:=Nat.gcd_pos_of_pos_right _ (by omega)
 have dx:((Nat.gcd x.natAbs d.natAbs:Nat):Int) ∣ x:=Int.ofNat_dvd_left.2 (Nat.gcd_dvd_left _ _)
 have dd:((Nat.gcd x.natAbs d.natAbs:Nat):Int) ∣ d:=Int.ofNat_dvd_left.2 (Nat.gcd_dvd_right _ _)
 have hgle:Nat.gcd x.natAbs d.natAbs<=d.natAbs:=Nat.gcd_le_right _ (by omega)
 have hgin:In (Nat.gcd x.natAbs d.natAbs:Nat):=fZ.2 (Nat.lt_of_le_of_lt hgle (bm.1 hd))
 obtain⟨p1,p2⟩:=fi x hd0
 unfold cR
 rw[p1,p2]
 refine aa (Dl (n+1027) hx) (aa (z:=.bool false) rfl (aa (z:=false) rfl (aa (z:=false) ?_ (aa (z:=false) rfl (aa (z:=false) ?_ (aa (z:=false) rfl ?_))))))
 ·rw[if_neg (by decide)];exact aa (Dl (n+1027) hd) rfl
 ·rw[if_neg (by decide)]
  refine aa (B9 (n+1026) hd) ?_
  rw[hbe,decide_eq_false (Bz hd0)];rfl
 rw[if_neg (by decide)]
 refine aa (Gd n hx hd) ?_
 generalize Nat.gcd x.natAbs d.natAbs=g at *
 refine aa (z:=(0,[ai (if d<0 then -(g:Int) else(g:Int))])) ?_ ?_
 ·refine aa (B9 (n+1026) hd) (aa am (aa ag ?_))
  by_cases h:d<0
  ·rw[if_pos h]
   refine aZ (by rw[uE h];decide) ?_
   exact aa (DD (n+1026) hgin) rfl
  ·rw[if_neg h]
   exact aY (by rw[lm (by omega)];decide) rfl
 ·have hin2:In (if d<0 then -(g:Int) else(g:Int)):=by
   split
   ·rw[bm,Int.natAbs_neg];exact bm.1 hgin
   ·exact hgin
  have hne:(if d<0 then -(g:Int) else(g:Int))≠0:=by split<;>omega
  have ddx:(if d<0 then -(g:Int) else(g:Int)) ∣ x:=by split<;>first|exact Int.neg_dvd.2 dx|exact dx
  have ddd:(if d<0 then -(g:Int) else(g:Int)) ∣ d:=by split<;>first|exact Int.neg_dvd.2 dd|exact dd
  exact aa (BK (n+1023) hx hin2 hne ddx) (aa (BK (n+1023) hd hin2 hne ddd) rfl)
end Go.Proofs.YtjjjkojfijpeeaaGreat.Sy
end
section
set_option linter.unusedVariables false
namespace Go.Proofs.YtjjjkojfijpeeaaGreat.Sy
open Go Go.Proofs Go.Proofs.YtjjjkojfijpeeaaGreat.Geo
theorem Gi(x:Int):D.get (ai x) [2,1]=some (U (dA (av x.natAbs) 1)):=cX (i:=1) (by decide)
theorem HC(n:Nat){x:Int}(hx:In x)(h:¬ Wd x):cA (n+3) 124 [ai x]=some (.tup [I 0,.bool false]):=by
 have hW:4611686018427387904<=x.natAbs:=by unfold Wd at h;omega
 rw[G1]
 unfold BE
 have l1:=Fw x.natAbs
 refine aa (AH n hx) (aa cO (aa (z:=false) rfl (aa (z:=decide (1073741824<=x.natAbs/4294967296%4294967296)) ?_ (aa ag ?_))))
 ·rw[if_neg (by decide)]
  refine aa (Gi x) ?_
  rw[l1]
  have:D.bin .geq (U (x.natAbs/4294967296%4294967296)) (.int .u32 1073741824)=some (.bool (decide (1073741824<=x.natAbs/4294967296%4294967296))):=by
   simp only[D.bin,if_true];congr 2;rw[decide_eq_decide];omega
  exact aa this rfl
 by_cases h1:1073741824<=x.natAbs/4294967296%4294967296
 ·exact aZ h1 rfl
 ·refine aY h1 ?_
  have hbig:18446744073709551616<=x.natAbs:=by omega
  refine bq (fun i s=>s=[I (i:Int)]/\2<=i/\∀ k,2<=k->k<i->dA (av x.natAbs) k=0) 16 2 (by decide) ⟨rfl,by decide,fun k h1 h2=>by omega⟩ (fun i hi s hJ=>?_) (fun s hJ=>?_)
  ·obtain⟨rfl,h2,hz⟩:=hJ
   have hb:D.bin .lss (I (i:Int)) (D.int .i64 16)=some (.bool true):=by rw[am,decide_eq_true (by omega)]
   by_cases h0:dA (av x.natAbs) i=0
   ·left
    refine⟨[I ((i+1:Nat):Int)],?_,rfl,by omega,fun k k1 k2=>?_⟩
    ·refine aa hb (aa (z:=true) rfl ?_)
     rw[if_pos rfl]
     refine aa (aE hi) (aa (cX hi) ?_)
     rw[h0]
     refine aa (z:=false) rfl ?_
     rw[if_neg (by decide)]
     exact aa (aS (aK (i:=i) (by omega))) rfl
    ·by_cases e:k=i
     ·subst e;exact h0
     ·exact hz k k1 (by omega)
   ·right
    refine⟨(0,[I 0,.bool false]),?_,rfl⟩
    refine aa hb (aa (z:=true) rfl ?_)
    rw[if_pos rfl]
    refine aa (aE hi) (aa (cX hi) (aa (z:=true) ?_ ?_))
    ·show D.truth (.bool (!(D.beq (U (dA (av x.natAbs) i)) (U 0))))=_
     rw[FR,decide_eq_false h0];rfl
    ·rw[if_pos rfl]
  ·exfalso
   obtain⟨_,_,hz⟩:=hJ
   have h3:x.natAbs/18446744073709551616=0:=by
    have hlt:x.natAbs/18446744073709551616<65536^32:=Nat.lt_of_le_of_lt (Nat.div_le_self _ _) hx
    refine qV hlt fun i hi=>?_
    rw[gz,Nat.div_div_eq_div_mul,show(18446744073709551616:Nat)=4294967296^2 from rfl,<-Nat.pow_add]
    by_cases k:i+2<16
    ·have:=hz (i+2) (by omega) k
     rw[gz] at this
     rw[Nat.add_comm 2 i];exact this
    ·have e16:(65536:Nat)^32=4294967296^16:=by rw[show(4294967296:Nat)=65536^2 from rfl,<-Nat.pow_mul]
     have hx':x.natAbs<4294967296^16:=by rw[<-e16];exact hx
     rw[Nat.div_eq_of_lt (Nat.lt_of_lt_of_le hx' (Nat.pow_le_pow_right (by decide) (show 16<=2+i by omega))),Nat.zero_mod]
   omega
theorem Hp(n:Nat){a b:List Nat}(ha:dl a)(hb:dl b)(hla:a.length<=400000)(hle:aL b<=aL a):cA (n+2) 126 [.sl (ab a),.sl (ab b)]=some (.sl (ab (av (aL a-aL b)))):=by
 rw[Lr]
 unfold El
 refine bq (fun k s=>∃ (out:List Nat) (c:Nat),s=[.sl (ab out),I (c:Int),I (k:Int)]/\out.length=k/\dl out/\c<=1/\aL out+vt b k=vt a k+c*65536^k) a.length 0 (Nat.zero_le _) ⟨[],0,rfl,rfl,(by intro d hd;cases hd),by omega,by simp[aL,vt]⟩ (fun k hk s hJ=>?_) (fun s hJ=>?_)
 ·obtain⟨out,c,rfl,ho,hdo,hc,hv⟩:=hJ
  left
  have h1:=ha.getD k
  have h2:=hb.getD k
  obtain⟨e,f,hef,he,hf⟩:∃ e f:Nat,e+b.getD k 0+c=a.getD k 0+f*65536/\e<65536/\f<=1:=by
   by_cases h:b.getD k 0+c<=a.getD k 0
   ·exact⟨a.getD k 0-(b.getD k 0+c),0,by omega,by omega,by omega⟩
   ·exact⟨a.getD k 0+65536-(b.getD k 0+c),1,by omega,by omega,by omega⟩
  refine⟨[.sl (ab (out++[e])),I (f:Int),I ((k+1:Nat):Int)],?_,out++[e],f,rfl,by simp[ho],hdo.append (fun x hx=>by simp at hx;omega),hf,?_⟩
  ·refine aa (z:=ab a) rfl (aa am (aa ag (aZ (by show(k:Int)<((ab a).length:Int);rw[ah];omega) ?_)))
   refine aa (z:=ab a) rfl (aa (uw hk) (aa (cG hk) (aa (Ap n b k) (aa (ew (by simp only[inR];omega)) (aa (ew (by simp only[inR];omega)) ?_)))))
   refine aa (z:=(0,[.sl (ab out),I (f:Int),I (e:Int)])) ?_ ?_
   ·refine aa am (aa ag ?_)
    by_cases hneg:((a.getD k 0:Nat):Int)-(b.getD k 0:Nat)-(c:Int)<0
    ·refine aZ hneg (aa (aS (by simp only[inR];omega)) ?_)
     have e1:(((a.getD k 0:Nat):Int)-(b.getD k 0:Nat)-(c:Int)+65536)=(e:Int):=by omega
     have e2:f=1:=by omega
     rw[e1,e2];rfl
    ·refine aY hneg ?_
     have e1:(((a.getD k 0:Nat):Int)-(b.getD k 0:Nat)-(c:Int))=(e:Int):=by omega
     have e2:f=0:=by omega
     rw[e1,e2];rfl
   ·rw[if_pos (by simp only[g0,D.els,ah,List.length_cons,List.length_nil];omega)]
    refine aa (aS (aK (i:=k) (by omega))) ?_
    show some (Sum.inl [D.sl (ab out++[I (e:Int)]),_,_])=_
    rw[sC];rfl
  ·rw[jZ,ho,vt,vt,Nat.pow_succ]
   have e2:aL [e]=e:=by simp[aL]
   rw[e2]
   generalize 65536^k=B at *
   have:(e+b.getD k 0+c)*B=(a.getD k 0+f*65536)*B:=by rw[hef]
   rw[Nat.add_mul,Nat.add_mul,Nat.add_mul] at this
   rw[show f*(B*65536)=f*65536*B by rw[Nat.mul_comm B,<-Nat.mul_assoc],Nat.mul_comm B e]
   omega
 ·obtain⟨out,c,rfl,ho,hdo,hc,hv⟩:=hJ
  refine⟨(0,[.sl (ab out)]),aa (z:=ab a) rfl (aa am (aa ag (aY (by show ¬ ((a.length:Int)<((ab a).length:Int));rw[ah];omega) rfl))),?_⟩
  refine aa (xU n (l:=out) (by omega)) ?_
  rw[jF] at hv
  have hvb:vt b a.length=aL b:=by
   rcases Nat.le_total b.length a.length with k|k
   ·exact gm k
   ·have hbl:=qm hb b.length
    have hal:=kq ha
    have key:∀ j,aL b<65536^a.length->vt b (a.length+j)=vt b a.length:=fun j hlt=>by
     induction j with
     | zero=>rfl
     | succ j ih=>
      rw[<-Nat.add_assoc,vt,ih]
      have hz:b.getD (a.length+j) 0=0:=by
       rcases Nat.eq_zero_or_pos (b.getD (a.length+j) 0) with h|h
       ·exact h
       ·exfalso
        have m1:vt b (a.length+j+1)<=aL b:=by
         rw[<-jF b]
         rcases Nat.le_total (a.length+j+1) b.length with q|q
         ·obtain⟨m,hm⟩:∃ m,b.length=a.length+j+1+m:=⟨b.length-(a.length+j+1),by omega⟩
          rw[hm]
          clear hm
          induction m with
          | zero=>exact Nat.le_refl _
          | succ m ihm=>exact Nat.le_trans ihm (Nat.le_add_right _ _)
         ·rw[gm q,jF];exact Nat.le_refl _
        rw[vt] at m1
        have m2:65536^a.length<=65536^(a.length+j):=Nat.pow_le_pow_right (by decide) (by omega)
        have m3:1*65536^(a.length+j)<=b.getD (a.length+j) 0*65536^(a.length+j):=Nat.mul_le_mul_right _ h
        omega
      rw[hz];simp
    obtain⟨m,hm⟩:∃ m,b.length=a.length+m:=⟨b.length-a.length,by omega⟩
    have:=key m (Nat.lt_of_le_of_lt hle hal)
    rw[<-hm,jF] at this
    exact this.symm
  have hdl:=kq hdo
  rw[ho] at hdl
  have hal:=kq ha
  have hc0:c=0:=by
   rcases Nat.eq_zero_or_pos c with h|h
   ·exact h
   ·have:1*65536^a.length<=c*65536^a.length:=Nat.mul_le_mul_right _ h
    omega
  subst hc0
  rw[gH hdo]
  have:aL out=aL a-aL b:=by omega
  rw[this]
theorem Ga(m:Int)(h:In m):(av m.natAbs).length<=32:=bX 32 _ h
theorem OU(n:Nat){x:Int}(hx:In x):cA (n+3) 86 [ai x]=some (ai (-x)):=by
 rw[Oh]
 unfold IA
 have lx:=Ga x hx
 refine aa (AH n hx) (aa cO (aa (z:=false) rfl ?_))
 rw[if_neg (by decide)]
 refine aa (c9 x) (aa cO (aa (Da n hx) (aa (GO n (bH _) (by omega) (by rw[aG];exact hx)) ?_)))
 rw[aG]
 have:sgn (!(decide (x<0))) x.natAbs=-x:=by
  unfold sgn;by_cases h:x<0<;>simp[h]<;>omega
 rw[this]
end Go.Proofs.YtjjjkojfijpeeaaGreat.Sy
end
section
set_option linter.unusedVariables false
namespace Go.Proofs.YtjjjkojfijpeeaaGreat.Sy
open Go Go.Proofs Go.Proofs.YtjjjkojfijpeeaaGreat.Geo
def Fa(l:List Nat)(k:Int):Nat:=if k<0 then 0 else l.getD k.toNat 0
theorem Bb{l:List Nat}(h:dl l)(k:Int):Fa l k<65536:=by
 unfold Fa
 split
 ·decide
 ·exact h.getD _
theorem zj(l:List Nat)(k:Nat):Fa l (k:Int)=l.getD k 0:=by
 unfold Fa
 rw[if_neg (by omega),Int.toNat_natCast]
theorem Dg(n:Nat)(l:List Nat)(k:Int):cA (n+2) 175 [.sl (ab l),I k]=some (I (Fa l k:Nat)):=by
 rw[IW]
 unfold DH Fa
 refine aa am (aa ag ?_)
 by_cases h:k<0
 ·refine aZ h ?_
  rw[if_pos h];rfl
 ·refine aY h ?_
  rw[if_neg h]
  obtain⟨m,rfl⟩:=Int.eq_ofNat_of_zero_le (show 0<=k by omega)
  exact aa (Ap n l m) rfl
def kJ(R n:Nat):Nat:=if n=1 then R*65536 else R/65536^(n-2)
theorem mq(m i:Nat):(av m).getD i 0=m/65536^i%65536:=np i m
theorem wu(R:Nat){m:Nat}(hm:1<=m):R/65536^(m-1)=R/65536^m*65536+R/65536^(m-1)%65536:=by
 have e:65536^m=65536^(m-1)*65536:=by
  conv=>lhs;rw[show m=m-1+1 by omega]
  exact Nat.pow_succ ..
 rw[e,<-Nat.div_div_eq_div_mul];omega
theorem CL{R n:Nat}(hn:1<=n)(hR:R<65536^(n+1)):(av R).getD n 0*4294967296+(av R).getD (n-1) 0*65536+Fa (av R) ((n:Int)-2)=kJ R n:=by
 have h1:R/65536^n<65536:=by
  rw[Nat.div_lt_iff_lt_mul (Nat.pow_pos (by decide)),Nat.mul_comm,<-Nat.pow_succ];exact hR
 have e1:=wu R hn
 rw[mq,mq,Nat.mod_eq_of_lt h1]
 unfold kJ Fa
 by_cases hn1:n=1
 ·subst hn1
  rw[if_pos rfl,if_pos (by decide)]
  simp only[Nat.sub_self,Nat.pow_zero,Nat.div_one,Nat.pow_one] at *
  omega
 ·rw[if_neg hn1,if_neg (by omega),show((n:Int)-2).toNat=n-2 by omega,mq]
  have e2:=wu R (m:=n-1) (by omega)
  rw[show n-1-1=n-2 by omega] at e2
  omega
theorem Gy{B n:Nat}(hn:1<=n)(hB:B<65536^n):(av B).getD (n-1) 0*65536+Fa (av B) ((n:Int)-2)=kJ B n:=by
 have h:=CL (R:=B) hn (Nat.lt_of_lt_of_le hB (Nat.pow_le_pow_right (by decide) (Nat.le_succ n)))
 rw[mq B n,Nat.div_eq_of_lt hB,Nat.zero_mod,Nat.zero_mul,Nat.zero_add] at h
 exact h
theorem Cy{R B n:Nat}(hB0:0<B)(ht:0<kJ B n)(hRB:R<65536*B):R/B<=min 65535 (kJ R n/kJ B n):=by
 have h1:R/B<=65535:=by
  have:=(Nat.div_lt_iff_lt_mul hB0).2 (show R<65536*B from hRB);omega
 refine Nat.le_min.2 ⟨h1,?_⟩
 rw[Nat.le_div_iff_mul_le ht]
 unfold kJ
 by_cases hn:n=1
 ·rw[if_pos hn,if_pos hn,<-Nat.mul_assoc]
  exact Nat.mul_le_mul_right _ (Nat.div_mul_le_self R B)
 ·rw[if_neg hn,if_neg hn]
  have hp:0<65536^(n-2):=Nat.pow_pos (by decide)
  rw[Nat.le_div_iff_mul_le hp,Nat.mul_assoc]
  exact Nat.le_trans (Nat.mul_le_mul_left _ (Nat.div_mul_le_self B _)) (Nat.div_mul_le_self R B)
theorem ik{B:Nat}(hB:0<B):1<=(av B).length/\B<65536^(av B).length/\0<kJ B (av B).length:=by
 have h1:1<=(av B).length:=by
  rcases Nat.eq_zero_or_pos (av B).length with h|h
  ·have:=List.length_eq_zero_iff.1 h
   have:=qy.1 this;omega
  ·exact h
 have h2:B<65536^(av B).length:=by
  have:=kq (bH B);rwa [aG] at this
 refine⟨h1,h2,?_⟩
 have h3:65536^((av B).length-1)<=B:=by
  rcases Nat.lt_or_ge B (65536^((av B).length-1)) with k|k
  ·have:=bX _ B k;omega
  ·exact k
 unfold kJ
 split
 ·omega
 ·refine Nat.div_pos (Nat.le_trans (Nat.pow_le_pow_right (by decide) (by omega)) h3) (Nat.pow_pos (by decide))
theorem GR(n:Nat){A B:Nat}(hA:A<65536^40)(hB:0<B)(hBl:B<65536^40):cA (n+3) 143 [.sl (ab (av A)),.sl (ab (av B))]=some (.tup [.sl (ab (av (A/B))),.sl (ab (av (A%B)))]):=by
 rw[LB]
 unfold Fu
 obtain⟨n1,n2,n3⟩:=ik hB
 have lA:=bX 40 _ hA
 have lB:=bX 40 _ hBl
 have dB:=bH B
 obtain⟨L,hL⟩:∃ L,(av B).length=L:=⟨_,rfl⟩
 rw[hL] at n1 n2 n3 lB
 obtain⟨M,hM⟩:∃ M,(av A).length=M:=⟨_,rfl⟩
 rw[hM] at lA
 have eLen:((ab (av B)).length:Int)=(L:Int):=by rw[ah,hL]
 have eLenA:((ab (av A)).length:Int)=(M:Int):=by rw[ah,hM]
 refine aa (z:=ab (av A)) rfl (aa (z:=M) (by rw[eLenA];exact oY M) ?_)
 rw[if_pos (by omega)]
 refine aa (z:=ab (av B)) rfl ?_
 rw[eLen]
 have hb1:(av B).getD (L-1) 0<65536:=dB.getD _
 have htop:=Gy n1 n2
 refine aa (jz (b:=1) rfl n1 (by omega)) (aa (z:=ab (av B)) rfl (aa (z:=L-1) (by rw[ah,hL];exact aE (by omega)) (aa (cG (l:=av B) (i:=L-1) (by omega)) ?_)))
 refine aa (qa (b:=65536) (by omega)) (aa (z:=I ((L:Int)-2)) (ew (by simp only[inR];omega)) (aa (Dg n (av B) ((L:Int)-2)) ?_))
 have hb2':=Bb dB ((L:Int)-2)
 refine aa (bn (by omega)) ?_
 rw[htop]
 have htop64:kJ B L<4294967296:=by rw[<-htop];omega
 generalize hTB:kJ B L=TB at *
 refine aa (z:=ab (av A)) rfl ?_
 rw[eLenA]
 refine aa (z:=I ((M:Int)-1)) (ew (by simp only[inR];omega)) ?_
 rw[rI]
 have hA0:A/65536^M=0:=by
  have:=kq (bH A);rw[aG,hM] at this;exact Nat.div_eq_of_lt this
 refine bq (fun t s=>∃ q:List Nat,s=[.sl (ab (av (A/65536^(M-t)%B))),I ((M:Int)-1-(t:Nat)),.sl (ab q)]/\q.length=M/\dl q/\(∀ i,i<M-t->q.getD i 0=0)/\aL q=A/65536^(M-t)/B*65536^(M-t)) M 0 (Nat.zero_le _) ⟨List.replicate M 0,?_,by simp,fun x hx=>by rw[List.eq_of_mem_replicate hx];decide,fun i _=>by simp[List.getD,List.getElem?_replicate];split<;>rfl,?_⟩ (fun t ht s hJ=>?_) (fun s hJ=>?_)
 ·rw[Nat.sub_zero,hA0,Nat.zero_mod,bQ]
  congr 3;omega
 ·have:=lH [] M;rw[List.nil_append] at this
  rw[this,Nat.sub_zero,hA0,Nat.zero_div,Nat.zero_mul];rfl
 ·obtain⟨q,rfl,hql,hqd,hqz,hqv⟩:=hJ
  left
  obtain⟨k,hk⟩:∃ k,k=M-1-t:=⟨_,rfl⟩
  have hkM:k<M:=by omega
  rw[show M-t=k+1 by omega] at hqz hqv ⊢
  rw[show(M:Int)-1-(t:Nat)=(k:Nat) by omega]
  have hrB:A/65536^(k+1)%B<B:=Nat.mod_lt _ hB
  have hAk:A/65536^k=65536*(A/65536^(k+1))+(av A).getD k 0:=by
   rw[mq,Nat.pow_succ,<-Nat.div_div_eq_div_mul];omega
  have hdk:(av A).getD k 0<65536:=(bH A).getD k
  obtain⟨R,hR⟩:∃ R,R=65536*(A/65536^(k+1)%B)+(av A).getD k 0:=⟨_,rfl⟩
  have hRB:R<65536*B:=by
   have:65536*(A/65536^(k+1)%B+1)<=65536*B:=Nat.mul_le_mul_left _ hrB
   omega
  have hRq:A/65536^k/B=65536*(A/65536^(k+1)/B)+R/B:=by
   have e:=Nat.div_add_mod (A/65536^(k+1)) B
   have e2:A/65536^k=R+B*(65536*(A/65536^(k+1)/B)):=by
    rw[hAk,hR]
    generalize A/65536^(k+1)=X at *
    have:65536*X=65536*(B*(X/B)+X%B):=by rw[e]
    rw[Nat.mul_add] at this
    have c:B*(65536*(X/B))=65536*(B*(X/B)):=by rw[<-Nat.mul_assoc,Nat.mul_comm B,Nat.mul_assoc]
    omega
   rw[e2,Nat.add_mul_div_left _ _ hB];omega
  have hRm:A/65536^k%B=R%B:=by
   have e:=Nat.div_add_mod (A/65536^(k+1)) B
   have e2:A/65536^k=R+B*(65536*(A/65536^(k+1)/B)):=by
    rw[hAk,hR]
    generalize A/65536^(k+1)=X at *
    have:65536*X=65536*(B*(X/B)+X%B):=by rw[e]
    rw[Nat.mul_add] at this
    have c:B*(65536*(X/B))=65536*(B*(X/B)):=by rw[<-Nat.mul_assoc,Nat.mul_comm B,Nat.mul_assoc]
    omega
   rw[e2,Nat.add_mul_mod_self_left]
  have hlr:(av (A/65536^(k+1)%B)).length<=40:=bX 40 _ (Nat.lt_trans hrB hBl)
  have hRl:R<65536^(L+1):=by
   rw[Nat.pow_succ,Nat.mul_comm];exact Nat.lt_of_lt_of_le hRB (Nat.mul_le_mul_left _ (Nat.le_of_lt n2))
  have hR41:R<65536^41:=Nat.lt_of_lt_of_le hRl (Nat.pow_le_pow_right (by decide) (by omega))
  have lR:=bX 41 _ hR41
  have dR:=bH R
  obtain⟨q',hq'⟩:∃ q',q'=q.set k (R/B):=⟨_,rfl⟩
  have hRB2:R/B<=65535:=by have:=(Nat.div_lt_iff_lt_mul hB).2 hRB;omega
  refine⟨[.sl (ab (av (R%B))),I ((k:Int)-1),.sl (ab q')],?_,q',by rw[show M-(t+1)=k by omega,hRm];congr 3;omega,by rw[hq'];simpa using hql,?_,?_,?_⟩
  ·refine aa iU (aa ag (aZ (by show(k:Int) ≥ 0;omega) ?_))
   refine aa (z:=ab (av A)) rfl (aa (z:=k) (by rw[ah,hM];exact aE hkM) (aa (cG (l:=av A) (i:=k) (by omega)) (aa (z:=ab (av (A/65536^(k+1)%B))) rfl ?_)))
   rw[if_pos (by rw[ah];simp;omega)]
   have hcons:[I (((av A).getD k 0:Nat):Int)]++ab (av (A/65536^(k+1)%B))=ab ((av A).getD k 0::av (A/65536^(k+1)%B)):=rfl
   rw[hcons]
   have hdl:dl ((av A).getD k 0::av (A/65536^(k+1)%B)):=dl.cons hdk (bH _)
   have htr:=xU (n+1) (l:=(av A).getD k 0::av (A/65536^(k+1)%B)) (by simp;omega)
   rw[gH hdl,show aL ((av A).getD k 0::av (A/65536^(k+1)%B))=R by rw[aL,aG,hR];omega] at htr
   refine aa htr ?_
   have g1:=dR.getD L;have g2:=dR.getD (L-1)
   have g3:=Bb dR ((L:Int)-2)
   have h3:=CL n1 hRl
   refine aa (Dg n (av R) (L:Int)) ?_
   rw[zj]
   refine aa (qa (b:=4294967296) (by omega)) (aa (jz (b:=1) rfl n1 (by omega)) (aa (Dg n (av R) ((L-1:Nat):Int)) ?_))
   rw[zj]
   refine aa (qa (b:=65536) (by omega)) (aa (bn (by omega)) (aa (z:=I ((L:Int)-2)) (ew (by simp only[inR];omega)) (aa (Dg n (av R) ((L:Int)-2)) (aa (bn (by omega)) ?_))))
   rw[h3]
   have hH:kJ R L<=9223372036854775807:=by rw[<-h3];omega
   have hge:=Cy (R:=R) (n:=L) hB (by rw[hTB];exact n3) hRB
   rw[hTB] at hge
   refine aa (il (by omega) (by omega)) (aa (z:=I ((min 65535 (kJ R L/TB):Nat):Int)) (by rw[show(D.int .i64 65535)=I ((65535:Nat):Int) from rfl,HK];congr 2;omega) ?_)
   have hd0:min 65535 (kJ R L/TB)<=65535:=Nat.min_le_left ..
   generalize min 65535 (kJ R L/TB)=d0 at *
   have hpart:∀ d:Nat,d<=65535->cA (n+2) 146 [.sl (ab (av B)),.sl [I (d:Int)]]=some (.sl (ab (av (B*d)))):=fun d hd=>by
    have:=Lo n (a:=av B) (b:=[d]) dB (fun x hx=>by simp at hx;omega) (by omega) (by simp)
    rw[aG,show aL [d]=d by simp[aL]] at this
    exact this
   refine aa (hpart d0 hd0) ?_
   refine oX (fun d s=>s=[I (d:Int),.sl (ab (av (B*d))),.sl (ab q)]/\R/B<=d/\d<=65535) d0 _ ⟨rfl,hge,hd0⟩ (fun d s hJ=>?_)
   obtain⟨rfl,k1,k2⟩:=hJ
   have hBd:B*d<65536^41:=by
    have:B*d<=B*65536:=Nat.mul_le_mul_left _ (by omega)
    have e:(65536:Nat)^41=65536^40*65536:=Nat.pow_succ ..
    have:B*65536<65536^40*65536:=Nat.mul_lt_mul_of_pos_right hBl (by decide)
    omega
   have lBd:=bX 41 _ hBd
   have h78:=KU n dR (bH (B*d)) (by omega) (by omega)
   rw[aG,aG] at h78
   by_cases hlt:R<B*d
   ·left
    rw[decide_eq_true hlt] at h78
    have hd1:R/B<d:=by rw[Nat.div_lt_iff_lt_mul hB,Nat.mul_comm];exact hlt
    have hd1p:1<=d:=Nat.lt_of_le_of_lt (Nat.zero_le _) hd1
    refine⟨d-1,[I ((d-1:Nat):Int),.sl (ab (av (B*(d-1)))),.sl (ab q)],by omega,?_,rfl,Nat.le_sub_one_of_lt hd1,by omega⟩
    refine aa h78 (aa (z:=true) rfl ?_)
    rw[if_pos rfl]
    have e:B*d-B=B*(d-1):=by rw[Nat.mul_sub,Nat.mul_one]
    have h126:=Hp n (bH (B*d)) dB (by omega) (by rw[aG,aG];exact Nat.le_mul_of_pos_right _ (by omega))
    rw[aG,aG,e] at h126
    exact aa (jz (b:=1) rfl (by omega) (by omega)) (aa h126 rfl)
   ·right
    rw[decide_eq_false hlt] at h78
    have hd1:d<=R/B:=by rw[Nat.le_div_iff_mul_le hB,Nat.mul_comm];omega
    have hdq:d=R/B:=by omega
    refine⟨(0,[I (d:Int),.sl (ab (av (B*d))),.sl (ab q)]),?_,?_⟩
    ·refine aa h78 (aa (z:=false) rfl ?_)
     rw[if_neg (by decide)];rfl
    ·have h126:=Hp n dR (bH (B*d)) (by omega) (by rw[aG,aG];omega)
     have e:R-B*d=R%B:=by rw[hdq];have:=Nat.div_add_mod R B;omega
     rw[aG,aG,e] at h126
     have hkq:k<q.length:=by omega
     refine aa (uw hkq) (aa (cG hkq) (aa h126 (aa (ew (by simp only[inR];omega)) ?_)))
     show some (Sum.inl [_,_,D.sl (List.set (ab q) k (I (d:Int)))])=_
     rw[nr,hdq,<-hq']
     first|rfl|skip
  ·rw[hq']
   refine FQ fun i hi=>?_
   rw[jL _ _ _ _ (by omega)]
   split
   ·omega
   ·exact hqd.getD i
  ·intro i hi
   rw[hq',jL _ _ _ _ (by omega),if_neg (by omega)]
   exact hqz i (by omega)
  ·have e:=mX (l:=q) (j:=k) (v:=R/B) (by omega)
   rw[hqz k (by omega),Nat.mul_zero,Nat.add_zero,<-hq'] at e
   rw[e,hqv,show M-(t+1)=k by omega,hRq,Nat.pow_succ,Nat.add_mul,Nat.mul_comm (R/B),Nat.mul_comm 65536,Nat.mul_assoc,Nat.mul_comm (65536^k) 65536]
 ·obtain⟨q,rfl,hql,hqd,_,hqv⟩:=hJ
  rw[Nat.sub_self,Nat.pow_zero,Nat.div_one,Nat.mul_one] at hqv
  refine⟨(0,[.sl (ab (av (A%B))),.sl (ab q)]),?_,?_⟩
  ·rw[Nat.sub_self,Nat.pow_zero,Nat.div_one]
   exact aa iU (aa ag (aY (by show ¬ ((M:Int)-1-(M:Nat)) ≥ 0;omega) rfl))
  ·have htr:=xU (n+1) (l:=q) (by omega)
   rw[gH hqd,hqv] at htr
   exact aa htr rfl
theorem Fc{m:Nat}(h:m<65536^32):m<65536^40:=Nat.lt_of_lt_of_le h (Nat.pow_le_pow_right (by decide) (by decide))
theorem zD(n:Nat){x:Int}(hx:In x):∃ w b,cA (n+3) 124 [ai x]=some (.tup [I w,.bool b])/\(b=true->Wd x):=by
 by_cases h:Wd x
 ·exact⟨x,true,Ch n h,fun _=>h⟩
 ·exact⟨0,false,HC n hx h,fun e=>by cases e⟩
theorem LW(n:Nat){x y:Int}(hx:In x)(hy:In y):cA (n+4) 85 [ai x,ai y]=some (ai (Nat.gcd x.natAbs y.natAbs:Nat)):=by
 by_cases hw:Wd x/\Wd y
 ·exact ND n hw.1 hw.2
 ·rw[Mj]
  unfold HP
  obtain⟨w1,b1,h1,k1⟩:=zD n hx
  obtain⟨w2,b2,h2,k2⟩:=zD n hy
  have hb:(b1&&b2)=false:=by
   cases b1<;>cases b2<;>first|rfl|exact absurd ⟨k1 rfl,k2 rfl⟩ hw
  refine aa h1 (aa (z:=I w1) rfl (aa (z:=.bool b1) rfl (aa h2 (aa (z:=I w2) rfl (aa (z:=.bool b2) rfl (aa (z:=b1) rfl (aa (z:=false) (by cases b1<;>cases b2<;>simp at hb<;>rfl) (aa (z:=false) rfl ?_))))))))
  rw[if_neg (by decide)]
  refine aa (AH (n+1) hx) (aa cO (aa (z:=false) rfl (aa (z:=false) (by rw[if_neg (by decide)];exact aa (AH (n+1) hy) rfl) (aa (z:=false) rfl ?_))))
  rw[if_neg (by decide)]
  refine aa (Da (n+1) hx) (aa (Da (n+1) hy) ?_)
  have hx':x.natAbs<65536^32:=hx
  have hy':y.natAbs<65536^32:=hy
  refine oX (fun m s=>∃ a,s=[.sl (ab (av a)),.sl (ab (av m))]/\a<65536^32/\m<65536^32/\Nat.gcd a m=Nat.gcd x.natAbs y.natAbs) y.natAbs _ ⟨x.natAbs,rfl,hx',hy',rfl⟩ (fun m s hJ=>?_)
  obtain⟨a,rfl,ha,hm,hg⟩:=hJ
  by_cases h0:m=0
  ·right
   subst h0
   rw[Nat.gcd_zero_right] at hg
   rw[bQ]
   refine⟨(0,[.sl (ab (av a))]),?_,?_⟩
   ·exact aa (z:=ab []) rfl (aa (z:=.bool false) rfl (aa (z:=false) rfl rfl))
   ·have la:=bX 32 _ ha
    refine aa (GO (n+1) (neg:=false) (bH a) (by omega) (by rw[aG];exact ha)) ?_
    rw[aG,hg];rfl
  ·left
   have hlt:a%m<m:=Nat.mod_lt _ (by omega)
   refine⟨a%m,[.sl (ab (av m)),.sl (ab (av (a%m)))],hlt,?_,m,rfl,hm,Nat.lt_trans hlt hm,by rw[<-hg,Nat.gcd_comm a m,Nat.gcd_rec m a,Nat.gcd_comm]⟩
   have hl:=(ik (B:=m) (by omega)).1
   refine aa (z:=ab (av m)) rfl (aa ff (aa ag (aZ (by show((ab (av m)).length:Int)>0;rw[ah];omega) ?_)))
   exact aa (GR n (Fc ha) (by omega) (Fc hm)) (aa (z:=.sl (ab (av (a/m)))) rfl (aa (z:=.sl (ab (av (a%m)))) rfl rfl))
theorem HA(n:Nat){x y:Int}(hx:In x)(hy:In y)(hy0:y≠0)(hd:y ∣ x):cA (n+4) 87 [ai x,ai y]=some (ai (x/y)):=by
 by_cases hw:Wd x/\Wd y
 ·exact M7 n hw.1 hw.2 hy0 hd
 ·have hin:=CY hx hd
  obtain⟨q,hq⟩:=hd
  have exy:x/y=q:=by rw[hq];exact Int.mul_ediv_cancel_left _ hy0
  rw[exy] at hin ⊢
  rw[L5]
  unfold Ho
  obtain⟨w1,b1,h1,k1⟩:=zD n hx
  obtain⟨w2,b2,h2,k2⟩:=zD n hy
  have hb:(b1&&b2)=false:=by
   cases b1<;>cases b2<;>first|rfl|exact absurd ⟨k1 rfl,k2 rfl⟩ hw
  have hx':x.natAbs<65536^32:=hx
  have hy':y.natAbs<65536^32:=hy
  have hl:=(ik (B:=y.natAbs) (by omega)).1
  refine aa h1 (aa (z:=I w1) rfl (aa (z:=.bool b1) rfl (aa h2 (aa (z:=I w2) rfl (aa (z:=.bool b2) rfl (aa (z:=b1) rfl (aa (z:=false) (by cases b1<;>cases b2<;>simp at hb<;>rfl) (aa (z:=false) rfl (aa (z:=false) rfl (aa (z:=false) rfl ?_))))))))))
  rw[if_neg (by decide)]
  refine aa (AH (n+1) hx) (aa cO (aa (z:=false) rfl (aa (z:=false) (by rw[if_neg (by decide)];exact aa (AH (n+1) hy) rfl) (aa (z:=false) rfl (aa (z:=false) ?_ (aa (z:=false) rfl ?_))))))
  ·rw[if_neg (by decide)]
   refine aa (Da (n+1) hy) (aa (z:=ab (av y.natAbs)) rfl ?_)
   show D.truth (.bool (D.beq (I ((ab (av y.natAbs)).length:Nat)) (I ((0:Nat):Int))))=_
   rw[ah,fe,decide_eq_false (by omega)];rfl
  rw[if_neg (by decide)]
  have hmod:x.natAbs%y.natAbs=0:=by rw[hq,Int.natAbs_mul];exact Nat.mul_mod_right _ _
  have hqt:x.natAbs/y.natAbs<65536^32:=Nat.lt_of_le_of_lt (Nat.div_le_self _ _) hx'
  have h143:=GR n (Fc hx') (B:=y.natAbs) (by omega) (Fc hy')
  rw[hmod,bQ] at h143
  have hb':(!(D.beq (.bool (decide (x<0))) (.bool (decide (y<0)))))=!(decide (decide (x<0)=decide (y<0))):=by
   by_cases h1:x<0<;>by_cases h2:y<0<;>simp[h1,h2,D.beq]
  refine aa (Da (n+1) hx) (aa (Da (n+1) hy) (aa h143 (aa (z:=.sl (ab (av (x.natAbs/y.natAbs)))) rfl (aa (z:=.sl (ab [])) rfl ?_))))
  refine aa (z:=(0,[.sl (ab (av (x.natAbs/y.natAbs)))])) ?_ (aa (c9 x) (aa (c9 y) ?_))
  ·refine aa (c9 x) (aa (c9 y) ?_)
   rw[hb']
   refine aa (z:=!(decide (decide (x<0)=decide (y<0)))) rfl (aa (z:=false) ?_ (aa (z:=false) rfl rfl))
   cases (!(decide (decide (x<0)=decide (y<0))))<;>rfl
  ·rw[hb']
   have lq:=bX 32 _ hqt
   refine aa (GO (n+1) (bH _) (by omega) (by rw[aG];exact hqt)) ?_
   rw[aG,yN hy0 hq]
theorem Nv(n:Nat){x d:Int}(hx:In x)(hd:In d)(hd0:d≠0):cA (n+5) 37 [ai x,ai d]=some (cR (Rat.divInt x d)):=by
 rw[Mu]
 unfold Iw
 have hbe:∀ a b:Int,D.beq (I a) (.int .i64 b)=decide (a=b):=fun a b=>cV
 have hgp:0<Nat.gcd x.natAbs d.natAbs:=Nat.gcd_pos_of_pos_right _ (by omega)
 have dx:((Nat.gcd x.natAbs d.natAbs:Nat):Int) ∣ x:=Int.ofNat_dvd_left.2 (Nat.gcd_dvd_left _ _)
 have dd:((Nat.gcd x.natAbs d.natAbs:Nat):Int) ∣ d:=Int.ofNat_dvd_left.2 (Nat.gcd_dvd_right _ _)
 have hgle:Nat.gcd x.natAbs d.natAbs<=d.natAbs:=Nat.gcd_le_right _ (by omega)
 have hgin:In (Nat.gcd x.natAbs d.natAbs:Nat):=fZ.2 (Nat.lt_of_le_of_lt hgle (bm.1 hd))
 obtain⟨p1,p2⟩:=fi x hd0
 unfold cR
 rw[p1,p2]
 refine aa (AH (n+2) hx) (aa (z:=.bool false) rfl (aa (z:=false) rfl (aa (z:=false) ?_ (aa (z:=false) rfl (aa (z:=false) ?_ (aa (z:=false) rfl ?_))))))
 ·rw[if_neg (by decide)];exact aa (AH (n+2) hd) rfl
 ·rw[if_neg (by decide)]
  refine aa (Md (n+1) hd) ?_
  rw[hbe,decide_eq_false (Bz hd0)];rfl
 rw[if_neg (by decide)]
 refine aa (LW n hx hd) ?_
 generalize Nat.gcd x.natAbs d.natAbs=g at *
 refine aa (z:=(0,[ai (if d<0 then -(g:Int) else(g:Int))])) ?_ ?_
 ·refine aa (Md (n+1) hd) (aa am (aa ag ?_))
  by_cases h:d<0
  ·rw[if_pos h]
   refine aZ (by rw[uE h];decide) ?_
   exact aa (OU (n+1) hgin) rfl
  ·rw[if_neg h]
   exact aY (by rw[lm (by omega)];decide) rfl
 ·have hin2:In (if d<0 then -(g:Int) else(g:Int)):=by
   split
   ·rw[bm,Int.natAbs_neg];exact bm.1 hgin
   ·exact hgin
  have hne:(if d<0 then -(g:Int) else(g:Int))≠0:=by split<;>omega
  have ddx:(if d<0 then -(g:Int) else(g:Int)) ∣ x:=by split<;>first|exact Int.neg_dvd.2 dx|exact dx
  have ddd:(if d<0 then -(g:Int) else(g:Int)) ∣ d:=by split<;>first|exact Int.neg_dvd.2 dd|exact dd
  exact aa (HA n hx hin2 hne ddx) (aa (HA n hd hin2 hne ddd) rfl)
end Go.Proofs.YtjjjkojfijpeeaaGreat.Sy
end
section
set_option linter.unusedVariables false
namespace Go.Proofs.YtjjjkojfijpeeaaGreat.Sy
open Go Go.Proofs Go.Proofs.YtjjjkojfijpeeaaGreat.Geo
theorem gc{x:Int}(h:inR x):In x:=by
 unfold In;have:(65536:Nat)^4<=65536^32:=Nat.pow_le_pow_right (by decide) (by decide)
 have e:(65536:Nat)^4=18446744073709551616:=rfl
 simp only[inR] at h;omega
theorem kP(x:Int)(h:-9223372036854775808<=x/\x<=9223372036854775807:=by decide):inR x:=h
theorem Kv(n:Nat):cA (n+4) 133 []=some (ai 1):=by
 rw[Kx];unfold Eo
 exact aa (If n (kP 1)) rfl
theorem DC(n:Nat)(f:Nat->Int):D.beq (ck n f) (ck n f)=true:=by
 show D.beqs _ _=true
 rw[qP]
 simp
theorem HB(x:Int):D.beq (ai x) (ai x)=true:=by
 rw[ca]
 show(D.beq (.bool false) (.bool false)&&(D.beq (.bool (decide (x<0))) (.bool (decide (x<0)))&&(D.beq (LM x.natAbs) (LM x.natAbs)&&true)))=true
 rw[DC];simp[D.beq]
theorem qw:In 1:=gc (kP 1)
theorem oy(x:Int):Rat.divInt x 1=(x:Rat):=by
 conv=>rhs;rw[<-Rat.num_divInt_den (x:Rat)]
 rfl
theorem LJ(n:Nat){x:Int}(hx:inR x):cA (n+6) 75 [I x]=some (cR (x:Rat)):=by
 rw[Ny];unfold Ik
 refine aa (If (n+2) hx) (aa (Kv (n+1)) (aa (Nv n (gc hx) qw (by decide)) ?_))
 rw[oy]
theorem ns(x:Int){d:Int}(hd:d≠0):(Rat.divInt x d).num.natAbs<=x.natAbs/\(Rat.divInt x d).den<=d.natAbs:=by
 obtain⟨p1,p2⟩:=fi x hd
 have hgp:0<Nat.gcd x.natAbs d.natAbs:=Nat.gcd_pos_of_pos_right _ (by omega)
 have key:∀ z:Int,(z/(if d<0 then -(Nat.gcd x.natAbs d.natAbs:Int) else(Nat.gcd x.natAbs d.natAbs:Int))).natAbs<=z.natAbs\/¬ ((Nat.gcd x.natAbs d.natAbs:Nat):Int) ∣ z:=by
  intro z
  by_cases hz:((Nat.gcd x.natAbs d.natAbs:Nat):Int) ∣ z
  ·left
   obtain⟨k,rfl⟩:=hz
   generalize Nat.gcd x.natAbs d.natAbs=g at *
   rw[Int.natAbs_mul,Int.natAbs_natCast]
   have:k.natAbs<=g*k.natAbs:=Nat.le_mul_of_pos_left _ hgp
   split
   ·rw[Int.ediv_neg,Int.mul_ediv_cancel_left _ (by omega),Int.natAbs_neg];exact this
   ·rw[Int.mul_ediv_cancel_left _ (by omega)];exact this
  ·exact .inr hz
 constructor
 ·rw[p1]
  rcases key x with h|h
  ·exact h
  ·exact absurd (Int.ofNat_dvd_left.2 (Nat.gcd_dvd_left _ _)) h
 ·have:(Rat.divInt x d).den=((Rat.divInt x d).den:Int).natAbs:=rfl
  rw[this,p2]
  rcases key d with h|h
  ·exact h
  ·exact absurd (Int.ofNat_dvd_left.2 (Nat.gcd_dvd_right _ _)) h
theorem qK{x d:Int}(hx:In x)(hd:In d)(h0:d≠0):FD (Rat.divInt x d):=by
 obtain⟨h1,h2⟩:=ns x h0
 exact⟨Nat.lt_of_le_of_lt h1 hx,Nat.lt_of_le_of_lt (by rw[Int.natAbs_natCast];exact h2) hd⟩
theorem fX(q:Rat):(q.den:Int)≠0:=by have:=q.den_pos;omega
def fitA(x y:Rat):Prop:=x.num.natAbs*y.den+y.num.natAbs*x.den<dT/\x.den*y.den<dT
def fitM(x y:Rat):Prop:=x.num.natAbs*y.num.natAbs<dT/\x.den*y.den<dT
theorem Fz{x:Int}(h:In x):FD (x:Rat):=⟨by simpa using h,by simpa using qw⟩
structure RV where
 x:Rat
 y:Rat
 z:Rat
def n9(v:RV):D:=.st [cR v.x,cR v.y,cR v.z]
def RV.of(v:V):RV:=⟨v.x,v.y,v.z⟩
def RV.mul(k:Rat)(v:RV):RV:=⟨k*v.x,k*v.y,k*v.z⟩
theorem Oq(n:Nat){v:V}(h1:inR v.x)(h2:inR v.y)(h3:inR v.z):cA (n+7) 31 [aj v]=some (n9 (RV.of v)):=by
 rw[Na];unfold H9
 exact aa (z:=I v.x) rfl (aa (LJ n h1) (aa (z:=I v.y) rfl (aa (LJ n h2) (aa (z:=I v.z) rfl (aa (LJ n h3) rfl)))))
end Go.Proofs.YtjjjkojfijpeeaaGreat.Sy
end
section
namespace Go.Proofs.YtjjjkojfijpeeaaGreat.Geo
open V
section
variable{P:Nat->V}{N:Nat}
theorem yU(hl:∀ i j,i<j->j<N->ar (P i) (P j)){n:V}{d:Int}(h:IsF P N n d){a b:Nat}(ha:a∈aU P N n d)(h1:Side n P (aU P N n d) a b)(h2:Side n P (aU P N n d) b a):False:=by
 obtain⟨c,hc,ht⟩:=h.left hl ha h1
 have:=(h2.all c hc).1
 have e:T n (wy P b a) (wy P b c)=- T n (wy P a b) (wy P a c):=by simp only[T,dot,cross,wy,sub];grind
 omega
end
end Go.Proofs.YtjjjkojfijpeeaaGreat.Geo
end
section
namespace Go.Proofs.YtjjjkojfijpeeaaGreat.Geo
open V
section
variable{P:Nat->V}{N:Nat}
theorem qx(k:Int)(v w:V):dot (smul k v) w=k*dot v w:=by simp only[dot,smul];grind
theorem oR{u v:V}(h:cross u v=zero)(f w:V):dot f u*dot v w=dot f v*dot u w:=by
 have:=congrArg (fun z=>dot z w) (yu h f)
 simpa only[qx] using this
theorem j8(a:Nat):wy P a a=zero:=by apply V.ext'<;>simp[wy,sub,zero]
theorem mM(v:V):dot v zero=0:=by simp[dot,zero]
theorem uK{n0:V}{d0:Int}(h0:IsF P N n0 d0)(a:Nat){m:V}(hm:m≠zero):∃ x,x<N/\dot m (wy P a x)≠0:=by
 apply Classical.byContradiction
 intro hno
 have hz:∀ x,x<N->dot m (wy P a x)=0:=fun x hx=>Classical.byContradiction fun h=>hno ⟨x,hx,h⟩
 obtain⟨i,j,k,hij,hjk,hk,mi,mj,mk,ht⟩:=h0.three
 obtain⟨z,hzN,hzd⟩:=h0.supp.2
 have sh:∀ x,x<N->dot m (wy P i x)=0:=fun x hx=>by
  have e:dot m (wy P i x)=dot m (wy P a x)-dot m (wy P a i):=by simp only[dot,wy,sub];grind
  rw[e,hz x hx,hz i (by omega)];omega
 have hn:∀ x,x∈aU P N n0 d0->dot n0 (wy P i x)=0:=fun x hx=>by
  rw[bO,(ac.1 hx).2,(ac.1 mi).2];omega
 have c1:=dC (sh j (by omega)) (sh k hk)
 have c2:=dC (hn j mj) (hn k mk)
 have ht':cross (wy P i j) (wy P i k)≠zero:=ht
 generalize cross (wy P i j) (wy P i k)=t at c1 c2 ht'
 have hmm:=aH hm;have htt:=aH ht'
 have hv:=sh z hzN
 have hw:dot n0 (wy P i z)<0:=by rw[bO,(ac.1 mi).2];omega
 generalize wy P i z=v at hv hw
 have e1:=oR c1 m v
 have e2:=oR c2 t v
 rw[hv,Int.mul_zero] at e1
 have tv:=aJ hmm e1
 rw[tv,Int.mul_zero] at e2
 have:=Int.mul_neg_of_pos_of_neg htt hw
 omega
theorem rK{a:Nat}(nf:∀ {m:V},m≠zero->∃ x,x<N/\dot m (wy P a x)≠0)(haN:a<N){f:V}(hf:∀ x,x<N->x≠a->0<dot f (wy P a x)):∃ n d,IsF P N n d/\a∈aU P N n d:=by
 have self:∀ u v:V,dot u (cross v v)=0:=fun u v=>by simp only[dot,cross];grind
 have done:∀ q r:Nat,q<N->r<N->a≠q->a≠r->q≠r->dW P a q r≠zero->(∀ x,x<N->dot (dW P a q r) (wy P a x)<=0)->∃ n d,IsF P N n d/\a∈aU P N n d:=fun q r hq hr h1 h2 h3 hne hle=>by
  obtain⟨x,hx,hx0⟩:=nf hne
  have:=hle x hx
  obtain⟨n',g,_,_,hF⟩:=xc haN hq hr h1 h2 h3 rfl hle ⟨x,hx,by omega⟩
  exact⟨n',_,hF,ac.2 ⟨haN,rfl⟩⟩
 obtain⟨e,he0,hfe⟩:∃ e:V,e≠zero/\dot f e=0:=by
  by_cases hxy:f.x=0/\f.y=0
  ·exact⟨⟨1,0,0⟩,fun h=>by simp[zero] at h,by simp[dot,hxy.1]⟩
  ·refine⟨⟨-f.y,f.x,0⟩,fun h=>hxy ?_,by simp only[dot];grind⟩
   simp only[zero,V.mk.injEq] at h;omega
 obtain⟨b,hbN,hb0⟩:=nf he0
 have hba:b≠a:=fun h=>hb0 (by rw[h,j8,mM])
 have hfn:dot (neg f) e=0:=by simp only[dot,neg] at *;grind
 obtain⟨y,hy,hfar⟩:=far (w:=wy P a) hfn ((List.range N).filter fun k=>decide (k≠a)) (List.ne_nil_of_mem (a:=b) (by simp[hbN,hba])) (fun y hy=>by
  have:=List.mem_filter.1 hy
  have h1:=hf y (by simpa using this.1) (by simpa using this.2)
  have e:dot (neg f) (wy P a y)=- dot f (wy P a y):=by simp only[dot,neg];grind
  omega)
 have hyN:y<N:=by simpa using(List.mem_filter.1 hy).1
 have hya:y≠a:=by simpa using(List.mem_filter.1 hy).2
 have fy:=hf y hyN hya
 obtain⟨m,hm⟩:∃ m,m=cross (wy P a y) e:=⟨_,rfl⟩
 have mle:∀ x,x<N->dot m (wy P a x)<=0:=fun x hx=>by
  by_cases hxa:x=a
  ·rw[hxa,j8,mM];omega
  ·have h1:=hfar x (by simp[hx,hxa])
   have e2:dot m (wy P a x)=- dot e (cross (wy P a y) (wy P a x)):=by rw[hm];simp only[dot,cross];grind
   omega
 have m0:m≠zero:=fun h=>by
  have p:=yu (hm ▸ h) f
  rw[hfe] at p
  have x1:=congrArg V.x p;have x2:=congrArg V.y p;have x3:=congrArg V.z p
  simp only[smul,Int.zero_mul] at x1 x2 x3
  exact he0 (V.ext' (aJ fy x1) (aJ fy x2) (aJ fy x3))
 have my:dot m (wy P a y)=0:=by rw[hm];simp only[dot,cross];grind
 have mm:=aH m0
 clear hfar hm he0 hfe hfn
 by_cases hx:∃ x,x<N/\dot m (wy P a x)=0/\cross (wy P a y) (wy P a x)≠zero
 ·obtain⟨x,hxN,hxm,hxc⟩:=hx
  have hxa:a≠x:=fun h=>hxc (by rw[<-h,j8];apply V.ext'<;>simp[cross,zero])
  have hyx:y≠x:=fun h=>hxc (by rw[<-h];apply V.ext'<;>simp only[cross,zero]<;>grind)
  have c:=dC my hxm
  have ev:=oR c m
  rcases Int.lt_trichotomy 0 (dot m (cross (wy P a y) (wy P a x))) with s|s|s
  ·refine done y x hyN hxN (Ne.symm hya) hxa hyx hxc fun u hu=>?_
   have h1:=ev (wy P a u)
   have h2:dot m (cross (wy P a y) (wy P a x))*dot m (wy P a u)<=0:=Int.mul_nonpos_of_nonneg_of_nonpos (Int.le_of_lt s) (mle u hu)
   rcases Int.lt_or_le 0 (dot (cross (wy P a y) (wy P a x)) (wy P a u)) with k|k
   ·have:=Int.mul_pos mm k;omega
   ·exact k
  ·exfalso
   have h1:=ev (cross (wy P a y) (wy P a x))
   rw[<-s,Int.zero_mul] at h1
   exact hxc (kN (aJ mm h1))
  ·have sw:∀ v:V,dot (cross (wy P a x) (wy P a y)) v=- dot (cross (wy P a y) (wy P a x)) v:=fun v=>by simp only[dot,cross];grind
   refine done x y hxN hyN hxa (Ne.symm hya) (Ne.symm hyx) (fun h=>hxc ?_) fun u hu=>?_
   ·have h':cross (wy P a x) (wy P a y)=zero:=h
    have x1:=congrArg V.x h';have x2:=congrArg V.y h';have x3:=congrArg V.z h'
    simp only[cross,zero] at x1 x2 x3
    apply V.ext'<;>simp only[cross,zero]<;>grind
   ·have h1:=ev (wy P a u)
    have h2:0<=dot m (cross (wy P a y) (wy P a x))*dot m (wy P a u):=Int.mul_nonneg_of_nonpos_of_nonpos (Int.le_of_lt s) (mle u hu)
    show dot (cross (wy P a x) (wy P a y)) (wy P a u)<=0
    rw[sw]
    have:=ko mm (h1 ▸ h2)
    omega
 ·have hcol:∀ x,x<N->dot m (wy P a x)=0->cross (wy P a y) (wy P a x)=zero:=fun x h1 h2=>Classical.byContradiction fun h3=>hx ⟨x,h1,h2,h3⟩
  obtain⟨z0,hz0N,hz0⟩:=nf m0
  have hz0':=mle z0 hz0N
  obtain⟨z,hz,hfar⟩:=far (w:=wy P a) my ((List.range N).filter fun k=>decide (dot m (wy P a k)<0)) (List.ne_nil_of_mem (a:=z0) (by simp[hz0N];omega)) (fun y hy=>by simpa using(List.mem_filter.1 hy).2)
  have hzN:z<N:=by simpa using(List.mem_filter.1 hz).1
  have hzm:dot m (wy P a z)<0:=by simpa using(List.mem_filter.1 hz).2
  have haz:a≠z:=fun h=>by rw[<-h,j8,mM] at hzm;omega
  have hzy:z≠y:=fun h=>by rw[h] at hzm;omega
  refine done z y hzN hyN haz (Ne.symm hya) hzy (fun h=>?_) fun u hu=>?_
  ·have p:=yu (h:cross (wy P a z) (wy P a y)=zero) m
   rw[my] at p
   have hf0:dot (wy P a y) f=dot f (wy P a y):=by simp only[dot];grind
   have x1:=congrArg V.x p;have x2:=congrArg V.y p;have x3:=congrArg V.z p
   simp only[smul,Int.zero_mul] at x1 x2 x3
   have y1:(wy P a y).x=0:=(Int.mul_eq_zero.1 x1).resolve_left (by omega)
   have y2:(wy P a y).y=0:=(Int.mul_eq_zero.1 x2).resolve_left (by omega)
   have y3:(wy P a y).z=0:=(Int.mul_eq_zero.1 x3).resolve_left (by omega)
   have:dot f (wy P a y)=0:=by simp only[dot,y1,y2,y3];omega
   omega
  ·show dot (cross (wy P a z) (wy P a y)) (wy P a u)<=0
   rcases Int.lt_or_eq_of_le (mle u hu) with k|k
   ·have h1:=hfar u (by simp[hu,k])
    have e2:dot (cross (wy P a z) (wy P a y)) (wy P a u)=- dot (wy P a y) (cross (wy P a z) (wy P a u)):=by simp only[dot,cross];grind
    omega
   ·have h1:=hcol u hu k
    have e2:dot (cross (wy P a z) (wy P a y)) (wy P a u)=dot (wy P a z) (cross (wy P a y) (wy P a u)):=by simp only[dot,cross];grind
    rw[e2,h1,mM];omega
theorem BH{n0:V}{d0:Int}(h0:IsF P N n0 d0){a:Nat}(haN:a<N){f:V}(hf:∀ x,x<N->x≠a->0<dot f (wy P a x)):∃ n d,IsF P N n d/\a∈aU P N n d:=rK (fun hm=>uK h0 a hm) haN hf
def uF(P:Nat->V)(N:Nat)(k:Nat):Prop:=∃ n d,IsF P N n d/\k∈aU P N n d/\cY P (aU P N n d) k
theorem BI(φ:Nat->Int):∀ N,0<N->∃ a,a<N/\(∀ x,x<N->φ x<=φ a)/\∀ x,x<a->φ x<φ a
 | 0,h=>absurd h (by omega)
 | 1,_=>⟨0,by omega,fun x hx=>by
                    have:x=0:=by omega
                    subst this;omega,fun x hx=>by omega⟩
 | N+2,_=>by
  obtain⟨a,h1,h2,h3⟩:=BI φ (N+1) (by omega)
  by_cases h:φ (N+1)<=φ a
  ·refine⟨a,by omega,fun x hx=>?_,h3⟩
   rcases Nat.lt_or_ge x (N+1) with k|k
   ·exact h2 x k
   ·rw[show x=N+1 by omega];exact h
  ·refine⟨N+1,by omega,fun x hx=>?_,fun x hx=>?_⟩
   ·rcases Nat.lt_or_ge x (N+1) with k|k
    ·have:=h2 x k;omega
    ·rw[show x=N+1 by omega];omega
   ·have:=h2 x hx;omega
theorem ua(hl:∀ i j,i<j->j<N->ar (P i) (P j)){n0:V}{d0:Int}(h0:IsF P N n0 d0)(n:V):∃ a,uF P N a/\∀ x,x<N->dot n (P x)<=dot n (P a):=by
 obtain⟨i,j,k,_,_,hk,_⟩:=h0.ex
 obtain⟨a,haN,hmax,hfst⟩:=BI (fun x=>dot n (P x)) N (by omega)
 obtain⟨g,hg⟩:cY P ((List.range N).filter fun x=>decide (dot n (P x)=dot n (P a))) a:=sI fun x hx hxa=>by
  have h1:=List.mem_filter.1 hx
  have hxN:x<N:=by simpa using h1.1
  have hxe:dot n (P x)=dot n (P a):=by simpa using h1.2
  rcases Nat.lt_trichotomy x a with c|c|c
  ·have:=hfst x c;omega
  ·exact absurd c hxa
  ·exact hl a x c hxN
 obtain⟨K,hK,hb⟩:=cU (fun x=>dot g (wy P a x)) (List.range N)
 have hf:∀ x,x<N->x≠a->0<dot (add (smul (-K) n) g) (wy P a x):=fun x hx hxa=>by
  have e:dot (add (smul (-K) n) g) (wy P a x)=-K*dot n (wy P a x)+dot g (wy P a x):=by simp only[dot,add,smul];grind
  rw[e,bO]
  have h1:=hmax x hx
  by_cases hxe:dot n (P x)=dot n (P a)
  ·have:=hg x (by simp[hx,hxe]) hxa
   rw[hxe,Int.sub_self,Int.mul_zero];omega
  ·have h2:=(hb x (by simp[hx])).1
   have h3:K*1<=K*(dot n (P a)-dot n (P x)):=Int.mul_le_mul_of_nonneg_left (by omega) (by omega)
   have h4:-K*(dot n (P x)-dot n (P a))=K*(dot n (P a)-dot n (P x)):=by rw[Int.neg_mul,<-Int.mul_neg];congr 1;omega
   rw[h4]
   omega
 obtain⟨n',d',hF,hm⟩:=BH h0 haN hf
 exact⟨a,⟨n',d',hF,hm,_,fun x hx hxa=>hf x (ac.1 hx).1 hxa⟩,fun x hx=>hmax x hx⟩
end
end Go.Proofs.YtjjjkojfijpeeaaGreat.Geo
end
section
namespace Go.Proofs.YtjjjkojfijpeeaaGreat.Geo
open V
section
variable{P P':Nat->V}{N N':Nat}
theorem mU{a b a' b':Nat}(h1:P a=P' a')(h2:P b=P' b'):wy P a b=wy P' a' b':=by simp only[wy,h1,h2]
theorem im(hl:∀ i j,i<j->j<N->ar (P i) (P j)){i j:Nat}(hi:i<N)(hj:j<N)(h:P i=P j):i=j:=by
 rcases Nat.lt_trichotomy i j with c|c|c
 ·have:=hl i j c hj;rw[h] at this;exact absurd this (dG _)
 ·exact c
 ·have:=hl j i c hi;rw[h] at this;exact absurd this (dG _)
theorem eB(hl:∀ i j,i<j->j<N->ar (P i) (P j)){i j:Nat}(hi:i<N)(hj:j<N)(h:ar (P i) (P j)):i<j:=by
 rcases Nat.lt_trichotomy i j with c|c|c
 ·exact c
 ·subst c;exact absurd h (dG _)
 ·exact absurd (hl j i c hi) (iK _ _ h)
theorem IsF.corners(hl:∀ i j,i<j->j<N->ar (P i) (P j)){n:V}{d:Int}(h:IsF P N n d):∃ a b c,a∈aU P N n d/\b∈aU P N n d/\c∈aU P N n d/\uF P N a/\uF P N b/\uF P N c/\0<T n (wy P a b) (wy P a c):=by
 have F:=h.flat hl
 obtain⟨a0,_,m0,x0,_,hoth⟩:=h.head hl
 obtain⟨a1,_,s01⟩:=iR F m0 x0 (hoth a0 m0)
 have m1:=s01.mem;have x1:=s01.ext F m0
 obtain⟨a2,_,s12⟩:=iR F m1 x1 (hoth a1 m1)
 have m2:=s12.mem;have x2:=s12.ext F m1
 have d02:a0≠a2:=fun e=>yU hl h m0 s01 (e ▸ s12)
 have t1:T n (wy P a1 a2) (wy P a1 a0)≠0:=fun e=>d02 (cY.ray F m1 m2 m0 x1 x2 x0 s12.ne (Ne.symm s01.ne) e).symm
 have:=(s12.all a0 m0).1
 exact⟨a1,a2,a0,m1,m2,m0,⟨n,d,h,m1,x1⟩,⟨n,d,h,m2,x2⟩,⟨n,d,h,m0,x0⟩,by omega⟩
variable(hl:∀ i j,i<j->j<N->ar (P i) (P j))(hl':∀ i j,i<j->j<N'->ar (P' i) (P' j))
 (hsub:∀ k,k<N'->∃ j,j<N/\P j=P' k) (hsup:∀ k,uF P N k->∃ j,j<N'/\P' j=P k)
include hl hl' hsub hsup
theorem tJ{n:V}{d:Int}(h:IsF P N n d):IsF P' N' n d:=by
 have _:=hl'
 obtain⟨a,b,c,ma,mb,mc,va,vb,vc,ht⟩:=h.corners hl
 have F:=h.flat hl
 obtain⟨a',ha',ea⟩:=hsup a va
 obtain⟨b',hb',eb⟩:=hsup b vb
 obtain⟨c',hc',ec⟩:=hsup c vc
 have w1:wy P' a' b'=wy P a b:=mU ea eb
 have w2:wy P' a' c'=wy P a c:=mU ea ec
 have ct:cross n (cross (wy P a b) (wy P a c))=zero:=dC (F.pl a ma b mb) (F.pl a ma c mc)
 have tn:0<dot n (cross (wy P a b) (wy P a c)):=ht
 have hm:dW P' a' b' c'=cross (wy P a b) (wy P a c):=by unfold dW;rw[w1,w2]
 have nn:=aH F.nz
 have ev:=fun v=>oR ct n v
 have hab:a'≠b':=fun e=>by
  have:wy P a b=zero:=by rw[<-w1,e,j8]
  rw[this] at tn;simp[cross,dot,zero] at tn
 have hac:a'≠c':=fun e=>by
  have:wy P a c=zero:=by rw[<-w2,e,j8]
  rw[this] at tn;simp[cross,dot,zero] at tn
 have hbc:b'≠c':=fun e=>by
  have:wy P a c=wy P a b:=by rw[<-w2,<-e,w1]
  rw[this] at tn
  have:dot n (cross (wy P a b) (wy P a b))=0:=by simp only[dot,cross];grind
  omega
 have low:∀ x,x<N'->dot n (wy P' a' x)<=0/\∀ j,j<N->P j=P' x->dot n (wy P' a' x)=dot n (P j)-d:=fun x hx=>by
  obtain⟨j,hj,ej⟩:=hsub x hx
  have e1:dot n (P' a')=d:=by rw[ea];exact(ac.1 ma).2
  refine⟨?_,fun j _ ej=>by rw[bO,e1,ej]⟩
  rw[bO,e1,<-ej];have:=h.supp.1 j hj;omega
 obtain⟨z,hz,hzd⟩:=h.supp.2
 obtain⟨y,vy,hy⟩:=ua hl h (neg n)
 obtain⟨y',hy',ey⟩:=hsup y vy
 have hyl:dot n (P y)<d:=by
  have:=hy z hz
  have e1:dot (neg n) (P z)=- dot n (P z):=by simp only[dot,neg];grind
  have e2:dot (neg n) (P y)=- dot n (P y):=by simp only[dot,neg];grind
  omega
 have hle:∀ x,x<N'->dot (cross (wy P a b) (wy P a c)) (wy P' a' x)<=0:=fun x hx=>by
  have h1:=ev (wy P' a' x)
  have h2:dot n (cross (wy P a b) (wy P a c))*dot n (wy P' a' x)<=0:=Int.mul_nonpos_of_nonneg_of_nonpos (Int.le_of_lt tn) (low x hx).1
  rcases Int.lt_or_le 0 (dot (cross (wy P a b) (wy P a c)) (wy P' a' x)) with k|k
  ·have:=Int.mul_pos nn k;omega
  ·exact k
 have hlt:dot (cross (wy P a b) (wy P a c)) (wy P' a' y')<0:=by
  have h1:=ev (wy P' a' y')
  have h3:dot n (wy P' a' y')<0:=by
   obtain⟨n1,d1,f1,my,_⟩:=vy
   have:=(low y' hy').2 y (ac.1 my).1 ey.symm
   omega
  have h2:dot n (cross (wy P a b) (wy P a c))*dot n (wy P' a' y')<0:=Int.mul_neg_of_pos_of_neg tn h3
  rcases Int.lt_or_le (dot (cross (wy P a b) (wy P a c)) (wy P' a' y')) 0 with k|k
  ·exact k
  ·have:=Int.mul_nonneg (Int.le_of_lt nn) k;omega
 obtain⟨n',g,hg,hmg,hF⟩:=xc (P:=P') ha' hb' hc' hab hac hbc hm.symm hle ⟨y',hy',hlt⟩
 have hnn:n=n':=by
  refine wq h.nz.2 hF.nz.2 tn (Int.mul_pos nn hg) ?_
  have p:=yu ct n
  rw[<-p,hmg]
  apply V.ext'<;>simp only[smul]<;>grind
 subst hnn
 have:dot n (P' a')=d:=by rw[ea];exact(ac.1 ma).2
 rw[this] at hF
 exact hF
theorem tG{n0:V}{d0:Int}(h0:IsF P N n0 d0){n:V}{d:Int}(h:IsF P' N' n d):IsF P N n d:=by
 obtain⟨i,j,k,hij,hjk,hk,h1,h2,h3⟩:=h.ex
 obtain⟨i',hi',ei⟩:=hsub i (by omega)
 obtain⟨j',hj',ej⟩:=hsub j (by omega)
 obtain⟨k',hk',ek⟩:=hsub k hk
 have ht:dW P i' j' k'=dW P' i j k:=by unfold dW;rw[mU ei ej,mU ei ek]
 refine⟨⟨i',j',k',eB hl hi' hj' (by rw[ei,ej];exact hl' i j hij (by omega)),eB hl hj' hk' (by rw[ej,ek];exact hl' j k hjk hk),hk',by rw[ht];exact h1,by rw[ht];exact h2,by rw[ei];exact h3⟩,fun x hx=>?_,?_⟩
 ·obtain⟨a,va,hmax⟩:=ua hl h0 n
  obtain⟨a',ha',ea⟩:=hsup a va
  have h4:=h.supp.1 a' ha'
  rw[ea] at h4
  have:=hmax x hx
  omega
 ·obtain⟨z,hz,hzd⟩:=h.supp.2
  obtain⟨z',hz',ez⟩:=hsub z hz
  exact⟨z',hz',by rw[ez];exact hzd⟩
end
section
variable{P P':Nat->V}{N N':Nat}(hl:∀ i j,i<j->j<N->ar (P i) (P j))(hl':∀ i j,i<j->j<N'->ar (P' i) (P' j))
 (hsub:∀ k,k<N'->∃ j,j<N/\P j=P' k/\uF P N j) (hsup:∀ k,uF P N k->∃ j,j<N'/\P' j=P k)
include hl hl' hsub hsup
end
end Go.Proofs.YtjjjkojfijpeeaaGreat.Geo
end
section
namespace Go.Proofs.YtjjjkojfijpeeaaGreat.Geo
open V
section
variable{P:Nat->V}{N:Nat}
theorem GE(hl:∀ i j,i<j->j<N->ar (P i) (P j)):∃ h:V,∀ i j,i<j->j<N->0<dot h (wy P i j):=by
 obtain⟨N1,p1,b1⟩:=cU (fun x=>(P x).y) (List.range N)
 obtain⟨N2,p2,b2⟩:=cU (fun x=>(P x).z) (List.range N)
 refine⟨⟨(2*(N1+N2))*(2*(N1+N2))+2*(N1+N2),2*(N1+N2),1⟩,fun i j hij hj=>?_⟩
 have ci:=b1 i (by simp;omega)
 have cj:=b1 j (by simp;omega)
 have di:=b2 i (by simp;omega)
 have dj:=b2 j (by simp;omega)
 have hl:=hl i j hij hj
 simp only[wy,sub,ar,dot] at *
 generalize hX:(P j).x-(P i).x=X at *
 generalize hY:(P j).y-(P i).y=Y at *
 generalize hZ:(P j).z-(P i).z=Z at *
 generalize hN:2*(N1+N2)=K
 have hN0:0<K:=by omega
 have hY1:-K+1<=Y:=by omega
 have hZ1:-K+1<=Z:=by omega
 have m1:K*(-K+1)<=K*Y:=Int.mul_le_mul_of_nonneg_left hY1 (Int.le_of_lt hN0)
 have m2:K*(-K+1)=-(K*K)+K:=by grind
 have hNN:0<K*K:=Int.mul_pos hN0 hN0
 rcases hl with hl|⟨h1,hl|⟨h2,hl⟩⟩
 ·have hX1:1<=X:=by omega
  have m3:(K*K+K)*1<=(K*K+K)*X:=Int.mul_le_mul_of_nonneg_left hX1 (by omega)
  omega
 ·have hX0:X=0:=by omega
  have hY3:1<=Y:=by omega
  have m3:K*1<=K*Y:=Int.mul_le_mul_of_nonneg_left hY3 (by omega)
  subst hX0
  simp only[Int.mul_zero]
  omega
 ·have hX0:X=0:=by omega
  have hY0:Y=0:=by omega
  subst hX0;subst hY0
  simp only[Int.mul_zero]
  omega
def dd(h u w:V):V:=cross (cross u w) h
theorem uF.front{k:Nat}(hv:uF P N k):∃ f:V,∀ x,x<N->x≠k->0<dot f (wy P k x):=by
 obtain⟨n,d,hF,hm,g,hg⟩:=hv
 obtain⟨K,hK,hb⟩:=cU (fun x=>dot g (wy P k x)) (List.range N)
 refine⟨add (smul (-K) n) g,fun x hx hxa=>?_⟩
 have e:dot (add (smul (-K) n) g) (wy P k x)=-K*dot n (wy P k x)+dot g (wy P k x):=by simp only[dot,add,smul];grind
 rw[e,bO]
 have h1:=hF.supp.1 x hx
 have h0:=(ac.1 hm).2
 by_cases hxe:dot n (P x)=d
 ·have:=hg x (ac.2 ⟨hx,hxe⟩) hxa
  rw[hxe,h0,Int.sub_self,Int.mul_zero];omega
 ·have h2:=(hb x (by simp[hx])).1
  have h3:K*1<=K*(d-dot n (P x)):=Int.mul_le_mul_of_nonneg_left (by omega) (by omega)
  have h4:-K*(dot n (P x)-d)=K*(d-dot n (P x)):=by rw[Int.neg_mul,<-Int.mul_neg];congr 1;omega
  rw[h0,h4]
  omega
end
end Go.Proofs.YtjjjkojfijpeeaaGreat.Geo
end
section
namespace Go.Proofs.YtjjjkojfijpeeaaGreat.Geo
open V
section
variable{P:Nat->V}{N:Nat}
def gh(l:List Nat):List (Nat×Nat):=(List.range l.length).map fun k=>(l.getD k 0,l.getD ((k+1)%l.length) 0)
theorem fG{l:List Nat}{a b:Nat}:(a,b)∈gh l↔∃ i,i<l.length/\l.getD i 0=a/\l.getD ((i+1)%l.length) 0=b:=by
 simp only[gh,List.mem_map,List.mem_range,Prod.mk.injEq]
theorem jE{l:List Nat}(h:l.Nodup):(gh l).Nodup:=by
 unfold gh List.Nodup
 rw[List.pairwise_map]
 refine List.Pairwise.imp_of_mem ?_ (List.nodup_range (n:=l.length))
 intro i j hi hj hne e
 have hi:=List.mem_range.1 hi;have hj:=List.mem_range.1 hj
 have e1:=congrArg Prod.fst e
 simp only[List.getD,List.getElem?_eq_getElem hi,List.getElem?_eq_getElem hj,Option.getD_some] at e1
 rcases Nat.lt_or_gt_of_ne hne with c|c
 ·exact List.pairwise_iff_getElem.1 h i j hi hj c e1
 ·exact List.pairwise_iff_getElem.1 h j i hj hi c e1.symm
def iC(L:List (V×Int))(poly:V×Int->List Nat):List (Nat×Nat):=L.flatMap fun q=>gh (poly q)
section
variable(hl:∀ i j,i<j->j<N->ar (P i) (P j)){L:List (V×Int)}(hL:Facets P N L){poly:V×Int->List Nat}(hp:∀ q∈L,aN P N q.1 q.2 (poly q))
include hl hL hp
theorem gK{q:V×Int}(hq:q∈L):(poly q).Nodup:=by
 obtain⟨l,p1,p2,_⟩:=((hL.mem q).1 hq).poly hl
 have:=aN.eq hl ((hL.mem q).1 hq) (hp q hq) p1
 rw[this];exact p2
theorem mG{a b:Nat}:(a,b)∈iC L poly↔∃ n d,IsF P N n d/\oK P N n d a b:=by
 simp only[iC,List.mem_flatMap,fG]
 constructor
 ·rintro⟨q,hq,hi⟩
  exact⟨q.1,q.2,(hL.mem q).1 hq,(aN.dir hl ((hL.mem q).1 hq) (hp q hq)).1 hi⟩
 ·rintro⟨n,d,hF,hd⟩
  have hq:=(hL.mem (n,d)).2 hF
  exact⟨(n,d),hq,(aN.dir hl hF (hp _ hq)).2 hd⟩
theorem qW:(iC L poly).Nodup:=by
 unfold iC List.Nodup
 rw[List.pairwise_flatMap]
 refine⟨fun q hq=>jE (gK hl hL hp hq),?_⟩
 refine List.Pairwise.imp_of_mem ?_ hL.ord
 intro q q' hq hq' hlt x hx y hy e
 subst e
 obtain⟨a,b⟩:=x
 have F:=(hL.mem q).1 hq
 have F':=(hL.mem q').1 hq'
 obtain⟨d1,d2⟩:=(aN.dir hl F (hp q hq)).1 (fG.1 hx)
 obtain⟨d1',d2'⟩:=(aN.dir hl F' (hp q' hq')).1 (fG.1 hy)
 have:=Ca hl F F' d1 d1' d2 d2'
 rw[this] at hlt
 exact dG _ hlt
omit hp in
theorem nD{q:V×Int}(hq:q∈L){l:List Nat}(k:aN P N q.1 q.2 l):(∀ x∈aU P N q.1 q.2,l.getD 0 0<=x)/\l.getD 0 0∈aU P N q.1 q.2/\cY P (aU P N q.1 q.2) (l.getD 0 0)/\(∃ x∈aU P N q.1 q.2,x≠l.getD 0 0):=by
 obtain⟨a,h1,h2⟩:=k
 obtain⟨b,g1,g2,g3,g4,g5⟩:=((hL.mem q).1 hq).head hl
 rw[h1] at g1;cases g1
 obtain⟨l',e⟩:=h2.head
 have e0:l.getD 0 0=a:=by rw[e];rfl
 rw[e0]
 exact⟨g4,g2,g3,g5 a g2⟩
end
end
end Go.Proofs.YtjjjkojfijpeeaaGreat.Geo
end
section
namespace Go.Proofs.YtjjjkojfijpeeaaGreat.Geo
open V
abbrev T3:=V×V×V
def lr(P:Nat->V)(p:List Nat)(m:Nat):List T3:=(List.range m).map fun i=>(P (p.getD 0 0),P (p.getD (i+1) 0),P (p.getD (i+2) 0))
def bJ(g:T3->Int):List T3->Int
 | []=>0
 | t::T=>g t+bJ g T
theorem jG(g:T3->Int)(S T:List T3):bJ g (S++T)=bJ g S+bJ g T:=by
 induction S with
 | nil=>simp[bJ]
 | cons t S ih=>simp only[List.cons_append,bJ,ih];omega
theorem wT(g:T3->Int)(S:List T3)(t:T3):bJ g (S++[t])=bJ g S+g t:=by
 rw[jG];simp[bJ]
theorem sT(P:Nat->V)(p:List Nat)(m:Nat):lr P p (m+1)=lr P p m++[(P (p.getD 0 0),P (p.getD (m+1) 0),P (p.getD (m+2) 0))]:=by
 unfold lr;rw[List.range_succ,List.map_append];rfl
def lU(t:T3):Int:=V.dot (V.cross t.1 t.2.1) t.2.2
def eU(P:Nat->V)(L:List (V×Int))(poly:V×Int->List Nat):List T3:=L.flatMap fun q=>lr P (poly q) ((poly q).length-2)
theorem CQ(f g:T3->Int)(T:List T3):bJ (fun t=>f t+g t) T=bJ f T+bJ g T:=by
 induction T with
 | nil=>simp[bJ]
 | cons t T ih=>simp only[bJ,ih];omega
theorem BO(k:Int)(f:T3->Int)(T:List T3):bJ (fun t=>k*f t) T=k*bJ f T:=by
 induction T with
 | nil=>simp[bJ]
 | cons t T ih=>simp only[bJ,ih,Int.mul_add]
theorem lF{f g:T3->Int}{T:List T3}(h:∀ t∈T,f t=g t):bJ f T=bJ g T:=by
 induction T with
 | nil=>rfl
 | cons t T ih=>simp only[bJ,h t List.mem_cons_self,ih fun x hx=>h x (List.mem_cons_of_mem _ hx)]
theorem yC{f:T3->Int}{T:List T3}(h:∀ t∈T,0<=f t):0<=bJ f T:=by
 induction T with
 | nil=>simp[bJ]
 | cons t T ih=>
  have:=h t List.mem_cons_self
  have:=ih fun x hx=>h x (List.mem_cons_of_mem _ hx)
  simp only[bJ];omega
theorem pU(f:T3->Int)(h:T3->T3)(T:List T3):bJ f (T.map h)=bJ (fun t=>f (h t)) T:=by
 induction T with
 | nil=>rfl
 | cons t T ih=>simp only[List.map_cons,bJ,ih]
def fk(g:Nat×Nat->Int):List (Nat×Nat)->Int
 | []=>0
 | e::S=>g e+fk g S
theorem jP(g:Nat×Nat->Int)(S S':List (Nat×Nat)):fk g (S++S')=fk g S+fk g S':=by
 induction S with
 | nil=>simp[fk]
 | cons t S ih=>simp only[List.cons_append,fk,ih];omega
theorem AZ(g:Nat×Nat->Int){S S':List (Nat×Nat)}(h:S.Perm S'):fk g S=fk g S':=by
 induction h with
 | nil=>rfl
 | cons x _ ih=>simp only[fk,ih]
 | swap x y l=>simp only[fk];omega
 | trans _ _ h1 h2=>exact h1.trans h2
theorem CD(g:Nat×Nat->Int)(h:Nat×Nat->Nat×Nat)(S:List (Nat×Nat)):fk g (S.map h)=fk (fun e=>g (h e)) S:=by
 induction S with
 | nil=>rfl
 | cons t T ih=>simp only[List.map_cons,fk,ih]
theorem BC(g:Nat×Nat->Int)(S:List (Nat×Nat)):fk (fun e=>- g e) S=- fk g S:=by
 induction S with
 | nil=>rfl
 | cons t T ih=>simp only[fk,ih];omega
theorem xG{f g:Nat×Nat->Int}{S:List (Nat×Nat)}(h:∀ e∈S,f e=g e):fk f S=fk g S:=by
 induction S with
 | nil=>rfl
 | cons t T ih=>simp only[fk,h t List.mem_cons_self,ih fun x hx=>h x (List.mem_cons_of_mem _ hx)]
def HV(e:Nat×Nat):Nat×Nat:=(e.2,e.1)
theorem vk{g:Nat×Nat->Int}(hg:∀ a b,g (b,a)=- g (a,b)){S:List (Nat×Nat)}(hn:S.Nodup)(hs:∀ a b,(a,b)∈S->(b,a)∈S):fk g S=0:=by
 have nd:(S.map HV).Nodup:=by
  unfold List.Nodup
  rw[List.pairwise_map]
  refine List.Pairwise.imp ?_ hn
  intro a b h e
  obtain⟨a1,a2⟩:=a;obtain⟨b1,b2⟩:=b
  simp only[HV,Prod.mk.injEq] at e
  exact h (by rw[e.1,e.2])
 have hp:(S.map HV).Perm S:=(List.perm_ext_iff_of_nodup nd hn).2 fun e=>by
  obtain⟨a,b⟩:=e
  rw[List.mem_map]
  constructor
  ·rintro⟨⟨c,d⟩,h1,h2⟩
   simp only[HV,Prod.mk.injEq] at h2
   rw[<-h2.1,<-h2.2];exact hs _ _ h1
  ·exact fun h=>⟨(b,a),hs _ _ h,rfl⟩
 have e1:=AZ g hp
 rw[CD,xG (f:=fun e=>g (HV e)) (g:=fun e=>- g e) (fun e _=>hg e.1 e.2),BC] at e1
 omega
def FF(g:V->V->Int)(t:T3):Int:=g t.1 t.2.1+g t.2.1 t.2.2+g t.2.2 t.1
theorem CO{g:V->V->Int}(hg:∀ u v,g v u=- g u v)(P:Nat->V)(p:List Nat)(m:Nat) :
  bJ (FF g) (lr P p m)=fk (fun e=>g (P e.1) (P e.2)) ((List.range (m+1)).map fun i=>(p.getD i 0,p.getD (i+1) 0))+g (P (p.getD (m+1) 0)) (P (p.getD 0 0)):=by
 induction m with
 | zero=>simp[lr,bJ,fk];rw[hg (P (p[0]?.getD 0)) (P (p[1]?.getD 0))];omega
 | succ m ih=>
  rw[sT,wT,ih,List.range_succ (n:=m+1),List.map_append,jP]
  simp only[List.map_cons,List.map_nil,fk,FF]
  rw[hg (P (p.getD 0 0)) (P (p.getD (m+1) 0)),show m+1+1=m+2 from rfl]
  omega
theorem tc{g:V->V->Int}(hg:∀ u v,g v u=- g u v)(P:Nat->V){p:List Nat}(hp:2<=p.length) :
  bJ (FF g) (lr P p (p.length-2))=fk (fun e=>g (P e.1) (P e.2)) (gh p):=by
 rw[CO hg]
 unfold gh
 obtain⟨n,hn⟩:∃ n,p.length=n+2:=⟨p.length-2,by omega⟩
 rw[hn,show n+2-2+1=n+1 by omega,List.range_succ (n:=n+1),List.map_append,jP]
 have e:((List.range (n+1)).map fun i=>(p.getD i 0,p.getD (i+1) 0))=(List.range (n+1)).map fun k=>(p.getD k 0,p.getD ((k+1)%(n+2)) 0):=List.map_congr_left fun i hi=>by
  have:=List.mem_range.1 hi
  rw[Nat.mod_eq_of_lt (by omega)]
 rw[e]
 simp only[List.map_cons,List.map_nil,fk]
 rw[show(n+1+1)%(n+2)=0 from Nat.mod_self _]
 omega
section
variable{P:Nat->V}{N:Nat}(hl:∀ i j,i<j->j<N->ar (P i) (P j)){L:List (V×Int)}(hL:Facets P N L){poly:V×Int->List Nat}(hp:∀ q∈L,aN P N q.1 q.2 (poly q))
include hl hL hp
theorem et{q:V×Int}(hq:q∈L):3<=(poly q).length:=by
 have hF:=(hL.mem q).1 hq
 have k:=hp q hq
 obtain⟨h1,h2,_⟩:=nD hl hL hq k
 have hpos:0<(poly q).length:=by
  obtain⟨a,_,h⟩:=k
  obtain⟨l',e⟩:=h.head
  rw[e];simp
 have n0:=k.next hpos
 rcases Nat.lt_or_ge 1 (poly q).length with g1|g1
 ·have n1:=k.next g1
  rw[Nat.mod_eq_of_lt g1] at n0
  rcases Nat.lt_or_ge 2 (poly q).length with g2|g2
  ·exact g2
  ·have e:(poly q).length=2:=by omega
   rw[e] at n1
   exact(yU hl hF h2 n0 n1).elim
 ·have e:(poly q).length=1:=by omega
  rw[e] at n0
  exact(n0.ne rfl).elim
theorem xS{g:V->V->Int}(hg:∀ u v,g v u=- g u v):bJ (FF g) (eU P L poly)=0:=by
 have key:∀ M:List (V×Int),(∀ q∈M,q∈L)->bJ (FF g) (eU P M poly)=fk (fun e=>g (P e.1) (P e.2)) (iC M poly):=by
  intro M
  induction M with
  | nil=>intro _;rfl
  | cons q M ih=>
   intro h
   have hq:=h q List.mem_cons_self
   unfold eU iC at ih ⊢
   rw[List.flatMap_cons,List.flatMap_cons,jG,jP,ih fun x hx=>h x (List.mem_cons_of_mem _ hx),tc hg P (by have:=et hl hL hp hq;omega)]
 rw[key L fun _ h=>h]
 refine vk (fun a b=>hg _ _) (qW hl hL hp) fun a b h=>?_
 obtain⟨n,d,hF,hd⟩:=(mG hl hL hp).1 h
 obtain⟨n',d',h1,h2,h3,h4⟩:=xY hl hF hd.1 hd.2
 exact(mG hl hL hp).2 ⟨n',d',h1,h3,h4⟩
end
end Go.Proofs.YtjjjkojfijpeeaaGreat.Geo
end
section
namespace Go.Proofs.YtjjjkojfijpeeaaGreat.Geo
open V
def cmp(i:Nat)(v:V):Int:=if i=0 then v.x else if i=1 then v.y else v.z
def sm(i:Nat)(t:T3):Int:=cmp i t.1+cmp i t.2.1+cmp i t.2.2
def shift(d:V)(t:T3):T3:=(V.add t.1 d,V.add t.2.1 d,V.add t.2.2 d)
def gd(d u v:V):Int:=V.dot d (V.cross u v)
theorem zw(d u v:V):gd d v u=- gd d u v:=by simp only[gd,dot,cross];grind
theorem Ao(d:V)(t:T3):lU (shift d t)=lU t+FF (gd d) t:=by
 obtain⟨a,b,c⟩:=t
 simp only[lU,shift,FF,gd,dot,cross,V.add]
 grind
theorem jX(P:Nat->V)(d:V)(L:List (V×Int))(poly:V×Int->List Nat):eU (fun k=>V.add (P k) d) L poly=(eU P L poly).map (shift d):=by
 unfold eU
 rw[List.map_flatMap]
 congr 1
 funext q
 unfold lr
 rw[List.map_map];rfl
section
variable{P:Nat->V}{N:Nat}(hl:∀ i j,i<j->j<N->ar (P i) (P j)){L:List (V×Int)}(hL:Facets P N L){poly:V×Int->List Nat}(hp:∀ q∈L,aN P N q.1 q.2 (poly q))
include hl hL hp
theorem s9(d:V):bJ lU (eU (fun k=>V.add (P k) d) L poly)=bJ lU (eU P L poly):=by
 rw[jX,pU,lF (fun t _=>Ao d t),CQ lU,xS hl hL hp (fun u v=>zw d u v)]
 omega
theorem zu{q:V×Int}(hq:q∈L){t:T3}(ht:t∈lr P (poly q) ((poly q).length-2))(p:V) :
  ∃ a b:Int,0<a/\0<b/\a*lU (shift (V.neg p) t)=b*(q.2-V.dot q.1 p):=by
 have hF:=(hL.mem q).1 hq
 have k:=hp q hq
 obtain⟨i,hi,rfl⟩:=List.mem_map.1 ht
 have hi:=List.mem_range.1 hi
 have h3:=et hl hL hp hq
 obtain⟨l',p1,p2,p3⟩:=hF.poly hl
 have e:=aN.eq hl hF k p1
 rw[<-e] at p2 p3
 have mem:∀ j,j<(poly q).length->(poly q).getD j 0∈aU P N q.1 q.2:=fun j hj=>by
  have:(poly q).getD j 0∈poly q:=by
   rw[List.getD_eq_getElem?_getD,List.getElem?_eq_getElem hj];exact List.getElem_mem hj
  exact((p3 _).1 this).1
 have mext:∀ j,j<(poly q).length->cY P (aU P N q.1 q.2) ((poly q).getD j 0):=fun j hj=>by
  have:(poly q).getD j 0∈poly q:=by
   rw[List.getD_eq_getElem?_getD,List.getElem?_eq_getElem hj];exact List.getElem_mem hj
  exact((p3 _).1 this).2
 have hne:∀ j,j<(poly q).length->0<j->(poly q).getD j 0≠(poly q).getD 0 0:=fun j hj h0 e=>by
  rw[List.getD_eq_getElem?_getD,List.getD_eq_getElem?_getD,List.getElem?_eq_getElem hj,List.getElem?_eq_getElem (by omega:0<(poly q).length)] at e
  exact List.pairwise_iff_getElem.1 p2 0 j (by omega) hj h0 e.symm
 have hs:=k.next (i:=i+1) (by omega)
 rw[Nat.mod_eq_of_lt (by omega),show i+1+1=i+2 from rfl] at hs
 have ma:=mem 0 (by omega);have mb:=mem (i+1) (by omega);have mc:=mem (i+2) (by omega)
 have hT:=Side.after (hF.flat hl) ma mb (mext 0 (by omega)) (mext (i+1) (by omega)) (hne _ (by omega) (by omega)) hs (hne _ (by omega) (by omega))
 have da:=(ac.1 ma).2;have db:=(ac.1 mb).2;have dc:=(ac.1 mc).2
 generalize (poly q).getD 0 0=a at *
 generalize (poly q).getD (i+1) 0=b at *
 generalize (poly q).getD (i+2) 0=c at *
 have u0:dot q.1 (wy P a b)=0:=by rw[bO,da,db];omega
 have v0:dot q.1 (wy P a c)=0:=by rw[bO,da,dc];omega
 refine⟨dot q.1 q.1,T q.1 (wy P a b) (wy P a c),aH hF.nz.1,hT,?_⟩
 have cp:=dC u0 v0
 have key:smul (dot q.1 q.1) (cross (wy P a b) (wy P a c))=smul (T q.1 (wy P a b) (wy P a c)) q.1:=by
  have:=yu cp q.1
  unfold T
  exact this
 have e1:lU (shift (V.neg p) (P a,P b,P c))=dot (cross (wy P a b) (wy P a c)) (V.sub (P a) p):=by
  simp only[lU,shift,wy,dot,cross,V.add,V.neg,V.sub];grind
 rw[e1,<-qx,key,qx,<-da]
 congr 1
 simp only[dot,V.sub];grind
end
end Go.Proofs.YtjjjkojfijpeeaaGreat.Geo
end
section
set_option linter.unusedVariables false
namespace Go.Proofs.YtjjjkojfijpeeaaGreat.Sy
open Go Go.Proofs Go.Proofs.YtjjjkojfijpeeaaGreat.Geo
abbrev De(l:List V)(p:List Nat)(m:Nat):List T3:=lr (pt l) p m
def mr(l:List V)(F:FL):List T3:=F.flatMap fun f=>De l f.2 (f.2.length-2)
theorem Cw(l:List V)(L:List (V×Int))(poly:V×Int->List Nat):mr l (L.map fun q=>(q,poly q))=eU (pt l) L poly:=by
 unfold mr eU;rw[List.flatMap_map]
theorem C7(l:List V)(p:List Nat)(m:Nat):De l p (m+1)=De l p m++[(pt l (p.getD 0 0),pt l (p.getD (m+1) 0),pt l (p.getD (m+2) 0))]:=sT ..
theorem Ba(l:List V)(p:List Nat):De l p 0=[]:=rfl
theorem Ev(l:List V)(p:List Nat)(m:Nat):(De l p m).length=m:=by simp[De,lr]
theorem se(l:List V){F:FL}{i:Nat}(h:i<F.length):mr l (F.take (i+1))=mr l (F.take i)++De l F[i].2 (F[i].2.length-2):=by
 unfold mr;rw[List.take_succ_eq_append_getElem h,List.flatMap_append];simp
structure FIn(l:List V)(F:FL):Prop where
 len:F.length<=2000000
 ok:∀ f∈F,3<=f.2.length/\f.2.length<=100/\∀ j,j<f.2.length->f.2.getD j 0<l.length
def uG(T:List T3)(N:Nat):Prop:=T.length<=N/\∀ t∈T,bd MV t.1/\bd MV t.2.1/\bd MV t.2.2
theorem ta{l:List V}(hl:∀ x∈l,bd MV x){k:Nat}(h:k<l.length):bd MV (pt l k):=by
 unfold pt
 rw[List.getD_eq_getElem?_getD,List.getElem?_eq_getElem h]
 exact hl _ (List.getElem_mem h)
theorem uG.append{S T:List T3}{M N:Nat}(h:uG S M)(k:uG T N):uG (S++T) (M+N):=
 ⟨by rw[List.length_append];have:=h.1;have:=k.1;omega,fun t ht=>(List.mem_append.1 ht).elim (h.2 t) (k.2 t)⟩
theorem uG.mono{T:List T3}{M N:Nat}(h:uG T M)(k:M<=N):uG T N:=⟨Nat.le_trans h.1 k,h.2⟩
theorem A8{l:List V}(hl:∀ x∈l,bd MV x){p:List Nat}(hp:∀ j,j<p.length->p.getD j 0<l.length){m:Nat}(hm:m+2<=p.length\/m=0)(hm2:m<=100):uG (De l p m) 100:=by
 refine⟨by rw[Ev];exact hm2,fun t ht=>?_⟩
 obtain⟨i,hi,rfl⟩:=List.mem_map.1 ht
 have hi:=List.mem_range.1 hi
 exact⟨ta hl (hp _ (by omega)),ta hl (hp _ (by omega)),ta hl (hp _ (by omega))⟩
theorem zp{l:List V}(hl:∀ x∈l,bd MV x){F:FL}(h:FIn l F)(i:Nat):uG (mr l (F.take i)) (100*i):=by
 induction i with
 | zero=>exact⟨by simp[mr],fun t ht=>by simp[mr] at ht⟩
 | succ i ih=>
  by_cases hi:i<F.length
  ·rw[se l hi]
   obtain⟨k1,k2,k3⟩:=h.ok F[i] (List.getElem_mem hi)
   exact(ih.append (A8 hl k3 (by omega) (by omega))).mono (by omega)
  ·rw[List.take_of_length_le (by omega)]
   rw[List.take_of_length_le (by omega)] at ih
   exact ih.mono (by omega)
theorem EG{l:List V}(hl:∀ x∈l,bd MV x){F:FL}(h:FIn l F){i m:Nat}(hi:i<F.length)(hm:m<=F[i].2.length-2):uG (mr l (F.take i)++De l F[i].2 m) 268435456:=by
 obtain⟨k1,k2,k3⟩:=h.ok F[i] (List.getElem_mem hi)
 have:=h.len
 exact((zp hl h i).append (A8 hl k3 (by omega) (by omega))).mono (by omega)
theorem CM{l:List V}(hl:∀ x∈l,bd MV x){F:FL}(h:FIn l F):uG (mr l F) 268435456:=by
 have:=zp hl h F.length
 rw[List.take_length] at this
 exact this.mono (by have:=h.len;omega)
theorem E5{g:T3->Int}{T:List T3}{N B:Nat}(h:uG T N)(hg:∀ t,bd MV t.1/\bd MV t.2.1/\bd MV t.2.2->(g t).natAbs<=B):(bJ g T).natAbs<=N*B:=by
 have key:∀ T:List T3,(∀ t∈T,bd MV t.1/\bd MV t.2.1/\bd MV t.2.2)->(bJ g T).natAbs<=T.length*B:=by
  intro T
  induction T with
  | nil=>intro _;simp[bJ]
  | cons t T ih=>
   intro h
   have h1:=ih fun x hx=>h x (List.mem_cons_of_mem _ hx)
   have h2:=hg t (h t List.mem_cons_self)
   have:=Int.natAbs_add_le (g t) (bJ g T)
   rw[List.length_cons,Nat.add_mul,Nat.one_mul]
   simp only[bJ];omega
 exact Nat.le_trans (key T h.2) (Nat.mul_le_mul_right _ h.1)
theorem BP{t:T3}(h:bd MV t.1/\bd MV t.2.1/\bd MV t.2.2):(lU t).natAbs<=2^57:=by
 have:=uD (jR h.1 h.2.1) h.2.2
 unfold lU
 have e:(3:Int)*(2*(MV*MV)*MV)=108086391056891904:=rfl
 rw[e] at this
 have e2:(2:Nat)^57=144115188075855872:=rfl
 omega
theorem fT{x:Int}{k:Nat}(hk:k<=511)(h:x.natAbs<=2^k):In x:=by
 obtain⟨m,hm⟩:∃ m,m=32*16:=⟨_,rfl⟩
 exact bm.2 ((pR hm).2 (Nat.lt_of_le_of_lt h (Nat.pow_lt_pow_right (by decide) (by omega))))
theorem dt{a b:Nat}{i j k:Nat}(ha:a<=2^i)(hb:b<=2^j)(h:i+j<=k):a*b<=2^k:=
 Nat.le_trans (Nat.mul_le_mul ha hb) (by rw[<-Nat.pow_add];exact Nat.pow_le_pow_right (by decide) h)
theorem kb{T:List T3}(h:uG T 268435456):(bJ lU T).natAbs<=2^85:=
 Nat.le_trans (E5 h fun t=>BP) (dt (i:=28) (j:=57) (by decide) (Nat.le_refl _) (by decide))
theorem jS{a b:Int}{k:Nat}(ha:a.natAbs<=2^k)(hb:b.natAbs<=2^k):(a+b).natAbs<=2^(k+1):=by
 have:=Int.natAbs_add_le a b
 rw[Nat.pow_succ];omega
theorem pN{a b:Int}{i j k:Nat}(ha:a.natAbs<=2^i)(hb:b.natAbs<=2^j)(h:i+j<=k):(a*b).natAbs<=2^k:=by
 rw[Int.natAbs_mul];exact dt ha hb h
theorem rt{a:Int}{i k:Nat}(ha:a.natAbs<=2^i)(h:i<=k):a.natAbs<=2^k:=Nat.le_trans ha (Nat.pow_le_pow_right (by decide) h)
end Go.Proofs.YtjjjkojfijpeeaaGreat.Sy
end
section
set_option linter.unusedVariables false
namespace Go.Proofs.YtjjjkojfijpeeaaGreat.Sy
open Go Go.Proofs Go.Proofs.YtjjjkojfijpeeaaGreat.Geo
def ln(x:V):List V->List V
 | []=>[x]
 | y::L=>if ar x y\/x=y then x::(y::L).filter (fun z=>decide (z≠x)) else y::ln x L
def bt(l:List V):List V:=l.foldl (fun o x=>ln x o) []
theorem vi(x:V):∀ L:List V,(ln x L).length<=L.length+1
 | []=>by simp[ln]
 | y::L=>by
  have:=vi x L
  unfold ln
  split
  ·rw[List.length_cons];have:=List.length_filter_le (fun z=>decide (z≠x)) (y::L);omega
  ·simp only[List.length_cons];omega
theorem pW{x z:V}:∀ {L:List V},z∈ln x L↔z=x\/z∈L
 | []=>by simp[ln]
 | y::L=>by
  have ih:=pW (x:=x) (z:=z) (L:=L)
  unfold ln
  split
  ·simp only[List.mem_cons,List.mem_filter,decide_eq_true_eq]
   by_cases h:z=x<;>simp[h]
  ·simp only[List.mem_cons,ih]
   constructor
   ·rintro(h|h|h)
    ·exact .inr (.inl h)
    ·exact .inl h
    ·exact .inr (.inr h)
   ·rintro(h|h|h)
    ·exact .inr (.inl h)
    ·exact .inl h
    ·exact .inr (.inr h)
theorem uO{x:V}:∀ {L:List V},L.Pairwise ar->(ln x L).Pairwise ar
 | [],_=>by simp[ln]
 | y::L,h=>by
  obtain⟨h1,h2⟩:=List.pairwise_cons.1 h
  unfold ln
  split
  ·rename_i hxy
   refine List.pairwise_cons.2 ⟨fun z hz=>?_,h.filter _⟩
   obtain⟨hz1,hz2⟩:=List.mem_filter.1 hz
   have hzx:z≠x:=by simpa using hz2
   rcases List.mem_cons.1 hz1 with rfl|hz1
   ·rcases hxy with h|h
    ·exact h
    ·exact absurd h.symm hzx
   ·rcases hxy with h|h
    ·exact ii h (h1 z hz1)
    ·rw[h];exact h1 z hz1
  ·rename_i hxy
   refine List.pairwise_cons.2 ⟨fun z hz=>?_,uO h2⟩
   rcases pW.1 hz with rfl|hz
   ·rcases gw (a:=z) (b:=y) (fun e=>hxy (.inr e)) with k|k
    ·exact absurd (.inl k) hxy
    ·exact k
   ·exact h1 z hz
theorem cW(l:List V):(bt l).Pairwise ar:=by
 unfold bt
 have:∀ (l o:List V),o.Pairwise ar->(l.foldl (fun o x=>ln x o) o).Pairwise ar:=by
  intro l
  induction l with
  | nil=>intro o h;exact h
  | cons x l ih=>intro o h;exact ih _ (uO h)
 exact this l [] .nil
theorem eX{l:List V}{z:V}:z∈bt l↔z∈l:=by
 unfold bt
 have:∀ (l o:List V),z∈l.foldl (fun o x=>ln x o) o↔z∈l\/z∈o:=by
  intro l
  induction l with
  | nil=>intro o;simp
  | cons x l ih=>
   intro o
   rw[List.foldl_cons,ih,pW,List.mem_cons]
   constructor
   ·rintro(h|h|h)
    ·exact .inl (.inr h)
    ·exact .inl (.inl h)
    ·exact .inr h
   ·rintro((h|h)|h)
    ·exact .inr (.inl h)
    ·exact .inl h
    ·exact .inr (.inr h)
 rw[this];simp
theorem mE(l:List V):(bt l).length<=l.length:=by
 unfold bt
 have:∀ (l o:List V),(l.foldl (fun o x=>ln x o) o).length<=l.length+o.length:=by
  intro l
  induction l with
  | nil=>intro o;simp
  | cons x l ih=>
   intro o
   have h1:=ih (ln x o)
   have h2:=vi x o
   rw[List.foldl_cons,List.length_cons];omega
 simpa using this l []
theorem iZ{l:List V}(h:l.Pairwise ar):C9 l:=fun i j hij hj=>by
 have:=List.pairwise_iff_getElem.1 h i j (by omega) hj hij
 simpa [pt,List.getD,hj,show i<l.length by omega] using this
structure FOk(l:List V)(F:FL):Prop where
 ord:F.Pairwise (fun a b=>ar a.1.1 b.1.1)
 ok:∀ f∈F,IsF (pt l) l.length f.1.1 f.1.2/\aN (pt l) l.length f.1.1 f.1.2 f.2
def zg(l:List V):List (V×Int):=(List.range l.length).flatMap fun i=>(List.range l.length).flatMap fun j=>(List.range l.length).flatMap fun k=>[(bw (dW (pt l) i j k),V.dot (bw (dW (pt l) i j k)) (pt l i)),((bw (dW (pt l) i j k)).neg,V.dot (bw (dW (pt l) i j k)).neg (pt l i))]
theorem AM(l:List V)(h:l.length<=100):(zg l).length<=2000000:=by
 unfold zg
 rw[lP (c:=l.length*(l.length*2)) _ (fun i _=>by rw[lP (c:=l.length*2) _ (fun j _=>by rw[lP (c:=2) _ (fun k _=>rfl),List.length_range]),List.length_range]),List.length_range]
 have a1:l.length*2<=200:=by omega
 have a2:l.length*(l.length*2)<=100*200:=Nat.mul_le_mul h a1
 exact Nat.mul_le_mul h a2
theorem An{l:List V}{q:V×Int}(h:IsF (pt l) l.length q.1 q.2):q∈zg l:=by
 obtain⟨i,j,k,h1,h2,h3,h4,h5,h6⟩:=h.ex
 refine List.mem_flatMap.2 ⟨i,List.mem_range.2 (by omega),List.mem_flatMap.2 ⟨j,List.mem_range.2 (by omega),List.mem_flatMap.2 ⟨k,List.mem_range.2 h3,?_⟩⟩⟩
 obtain⟨a,b⟩:=q
 simp only at h5 h6
 subst h6
 rcases h5 with rfl|rfl<;>simp
theorem FOk.len{l:List V}{F:FL}(h:FOk l F)(hl:l.length<=100):F.length<=2000000:=by
 have nd:(F.map Prod.fst).Nodup:=by
  refine List.pairwise_map.2 (h.ord.imp fun{a b} hab e=>?_)
  rw[e] at hab;exact dG _ hab
 have:=List.Nodup.length_le_of_subset (l₂:=zg l) nd fun q hq=>by
  obtain⟨f,hf,rfl⟩:=List.mem_map.1 hq
  exact An (h.ok f hf).1
 rw[List.length_map] at this
 exact Nat.le_trans this (AM l hl)
theorem mT{α β:Type}{A:Option α}{g:α->Option β}{z:α}{Y:β->Prop}(h:A=some z)(hk:∃ y,g z=some y/\Y y):∃ y,Option.bind A g=some y/\Y y:=by
 rw[h];exact hk
structure KnF(l:List V)(i j k:Nat)(F:FL):Prop where
 fok:FOk l F
 all:∀ i' j' k',i'<j'->j'<k'->k'<l.length->(i'<i\/i'=i/\(j'<j\/j'=j/\k'<k))->dW (pt l) i' j' k'≠V.zero->∀ m,(m=bw (dW (pt l) i' j' k')\/m=(bw (dW (pt l) i' j' k')).neg)->Dp (pt l) l.length m (V.dot m (pt l i'))->(m,V.dot m (pt l i'))∈F.map Prod.fst
theorem KnF.mono{l:List V}{i j k i2 j2 k2:Nat}{F:FL}(h:KnF l i j k F)(hm:∀ i' j' k',i'<j'->j'<k'->k'<l.length->(i'<i2\/i'=i2/\(j'<j2\/j'=j2/\k'<k2))->(i'<i\/i'=i/\(j'<j\/j'=j/\k'<k))):KnF l i2 j2 k2 F:=
 ⟨h.fok,fun i' j' k' h1 h2 h3 h4=>h.all i' j' k' h1 h2 h3 (hm i' j' k' h1 h2 h3 h4)⟩
theorem KnF.facets{l:List V}{F:FL}(h:KnF l l.length 0 0 F):Facets (pt l) l.length (F.map Prod.fst):=by
 refine⟨List.pairwise_map.2 h.fok.ord,fun q=>⟨fun hq=>?_,fun hq=>?_⟩⟩
 ·obtain⟨f,hf,rfl⟩:=List.mem_map.1 hq
  exact(h.fok.ok f hf).1
 ·obtain⟨⟨i,j,k,h1,h2,h3,c1,c2,c3⟩,hs⟩:=hq
  obtain⟨m,d⟩:=q
  simp only at c2 c3 hs
  subst c3
  exact h.all i j k h1 h2 h3 (.inl (by omega)) c1 m c2 hs
end Go.Proofs.YtjjjkojfijpeeaaGreat.Sy
end
section
set_option linter.unusedVariables false
namespace Go.Proofs.YtjjjkojfijpeeaaGreat.Sy
open Go Go.Proofs Go.Proofs.YtjjjkojfijpeeaaGreat.Geo
end Go.Proofs.YtjjjkojfijpeeaaGreat.Sy
end
section
set_option linter.unusedVariables false
namespace Go.Proofs.YtjjjkojfijpeeaaGreat.Sy
open Go Go.Proofs Go.Proofs.YtjjjkojfijpeeaaGreat.Geo
theorem aB(l:List V):(l.map aj).length=l.length:=List.length_map ..
theorem NO(n:Nat)(a b:List V)(ha:a.length<=1000000):cA (n+1) 13 [bA a,bA b]=some (.bool (decide (a=b))):=by
 rw[OT]
 unfold Id
 refine aa (z:=a.map aj) rfl (aa (z:=b.map aj) rfl ?_)
 rw[aB,aB,fe]
 by_cases hab:a.length=b.length
 ·rw[decide_eq_true hab]
  refine aa (z:=false) rfl ?_
  rw[if_neg (by decide)]
  refine bq (fun i s=>s=[I (i:Int)]/\a.take i=b.take i) a.length 0 (Nat.zero_le _) ⟨rfl,by simp⟩ (fun i hi s hJ=>?_) (fun s hJ=>?_)
  ·obtain⟨rfl,hz⟩:=hJ
   have hib:i<b.length:=by omega
   have pre:∀ z,(Option.bind (D.truth (D.bool (!(D.beq (aj (a.getD i V.zero)) (aj (b.getD i V.zero)))))) fun b14=>
     if b14 then(some (Sum.inr (0,[(D.bool false)]))) else(Option.bind (D.bin .add (I (i:Int)) (D.int .i64 1)) fun x15=>some (Sum.inl [x15])))=some z ->
     (Option.bind (D.asSl (bA a)) fun l5=>Option.bind (D.bin .lss (I (i:Int)) (D.int .i64 (List.length l5))) fun x6=>Option.bind (D.truth x6) fun b7=>
     if b7 then(Option.bind (D.asSl (bA a)) fun l8=>Option.bind (D.idx (I (i:Int)) (List.length l8)) fun i9=>Option.bind (l8[i9]?) fun x10=>Option.bind (D.asSl (bA b)) fun l11=>Option.bind (D.idx (I (i:Int)) (List.length l11)) fun yX=>Option.bind (l11[yX]?) fun x13=>
     Option.bind (D.truth (D.bool (!(D.beq x10 x13)))) fun b14=>
     if b14 then(some (Sum.inr (0,[(D.bool false)]))) else(Option.bind (D.bin .add (I (i:Int)) (D.int .i64 1)) fun x15=>some (Sum.inl [x15]))) else(some (Sum.inr (1,[]):Sum (List D) (Nat×List D))))=some z:=fun z hz=>
    aa (z:=a.map aj) rfl (aa am (aa ag (aZ (by show((i:Int)<((a.map aj).length:Int));rw[aB];omega) (aa (z:=a.map aj) rfl (aa (z:=i) (by rw[aB];exact aE hi) (aa (hG hi) (aa (z:=b.map aj) rfl (aa (z:=i) (by rw[aB];exact aE hib) (aa (hG hib) hz)))))))))
   rw[u7] at pre
   by_cases he:a.getD i V.zero=b.getD i V.zero
   ·left
    refine⟨[I ((i+1:Nat):Int)],pre _ ?_,rfl,?_⟩
    ·rw[decide_eq_true he]
     refine aa (z:=false) rfl ?_
     rw[if_neg (by decide)]
     exact aa (aS (aK (i:=i) (by omega))) rfl
    ·rw[List.take_succ_eq_append_getElem hi,List.take_succ_eq_append_getElem hib,hz]
     simp only[List.getD,hi,hib,List.getElem?_eq_getElem,Option.getD_some] at he
     rw[he]
   ·right
    refine⟨(0,[.bool false]),pre _ ?_,?_⟩
    ·rw[decide_eq_false he];rfl
    ·rw[decide_eq_false (fun e=>he (by rw[e]))];rfl
  ·obtain⟨rfl,hz⟩:=hJ
   refine⟨(1,[]),?_,?_⟩
   ·exact aa (z:=a.map aj) rfl (aa am (aa ag (aY (by show ¬ ((a.length:Int)<((a.map aj).length:Int));rw[aB];omega) rfl)))
   ·rw[List.take_length,hab,List.take_length] at hz
    rw[decide_eq_true hz];rfl
 ·rw[decide_eq_false hab,decide_eq_false (fun e=>hab (by rw[e]))]
  rfl
instance decBd (k:Int) (v:V):Decidable (bd k v):=by unfold bd;exact inferInstance
def mC(v:V):Nat->Int
 | 0=>v.x
 | 1=>v.y
 | _=>v.z
theorem Bx(v:V){t:Nat}(h:t<3):D.fld (aj v) t=some (I (mC v t)):=by
 have:t=0\/t=1\/t=2:=by omega
 rcases this with rfl|rfl|rfl<;>rfl
theorem yz{v:V}:bd MV v↔∀ t,t<3->¬ (mC v t>262144)/\¬ (mC v t < -262144):=by
 constructor
 ·intro h t ht
  have:t=0\/t=1\/t=2:=by omega
  simp only[bd,MV] at h
  rcases this with rfl|rfl|rfl<;>simp only[mC]<;>omega
 ·intro h
  have h0:=h 0 (by decide);have h1:=h 1 (by decide);have h2:=h 2 (by decide)
  simp only[mC] at h0 h1 h2
  simp only[bd,MV];omega
def fp(F:FL)(i:Nat):Bool:=F.any fun f=>f.2.any fun x=>decide (x=i)
def cq(S:List V)(F:FL)(k:Nat):List V:=((List.range k).filter (fp F)).map (pt S)
theorem yg(S:List V)(F:FL)(k:Nat):cq S F (k+1)=if fp F k then cq S F k++[pt S k] else cq S F k:=by
 unfold cq
 rw[List.range_succ,List.filter_append]
 by_cases h:fp F k=true<;>simp[h]
theorem zM(S:List V)(F:FL)(k:Nat):(cq S F k).length<=k:=by
 unfold cq;rw[List.length_map];exact Nat.le_trans (List.length_filter_le _ _) (by simp)
theorem uS{l:List V}(hs:C9 l){m:V}{d:Int}(hF:IsF (pt l) l.length m d){p:List Nat}(hp:aN (pt l) l.length m d p):p.Nodup/\p.length<=l.length/\0<p.length/\∀ x∈p,x<l.length:=by
 obtain⟨p',hp',hnd,hmem⟩:=hF.poly hs
 have e:=aN.eq hs hF hp hp'
 subst e
 obtain⟨a,_,ha,hea,_,_⟩:=hF.head hs
 have hm:a∈p:=(hmem a).2 ⟨ha,hea⟩
 refine⟨hnd,?_,List.length_pos_iff.2 (fun e=>by rw[e] at hm;cases hm),fun x hx=>(ac.1 ((hmem x).1 hx).1).1⟩
 have:=List.Nodup.length_le_of_subset (l₂:=List.range l.length) hnd fun x hx=>List.mem_range.2 (ac.1 ((hmem x).1 hx).1).1
 simpa using this
theorem oP{l:List V}(hl:∀ x∈l,bd MV x):∀ x∈bt l,bd MV x:=fun x hx=>hl x (eX.1 hx)
theorem gu(S:List V)(F:FL):(cq S F S.length).Sublist S:=by
 have h1:((List.range S.length).map (pt S))=S:=by
  apply List.ext_getElem?
  intro i
  by_cases h:i<S.length
  ·rw[List.getElem?_map,List.getElem?_range h];simp[pt,List.getD,h]
  ·rw[List.getElem?_map,show(List.range S.length)[i]?=none by simp;omega];simp;omega
 have h2:(cq S F S.length).Sublist ((List.range S.length).map (pt S)):=List.Sublist.map _ List.filter_sublist
 rw[h1] at h2;exact h2
end Go.Proofs.YtjjjkojfijpeeaaGreat.Sy
end
section
set_option linter.unusedVariables false
namespace Go.Proofs.YtjjjkojfijpeeaaGreat.Sy
open Go Go.Proofs Go.Proofs.YtjjjkojfijpeeaaGreat.Geo
theorem wf(n:Nat){x y:Int}(hx:In x)(hy:In y)(h:In (x*y)):cA (n+3) 61 [ai x,ai y]=some (ai (x*y)):=by
 have:=OS n (a:=some x) (b:=some y) (bU hx) (bU hy)
 rwa [show GJ (some x) (some y)=some (x*y) from yL h] at this
theorem Cu(n:Nat){x y:Int}(hx:In x)(hy:In y)(h:In (x+y)):cA (n+4) 57 [ai x,ai y]=some (ai (x+y)):=by
 have:=NF n (a:=some x) (b:=some y) (bU hx) (bU hy)
 rwa [show F7 (some x) (some y)=some (x+y) from yL h] at this
theorem rd{α:Type}{A B y:α}(h:A=y):(if true=true then A else B)=y:=h
theorem Ht(n:Nat){v:V}(h1:inR v.x)(h2:inR v.y)(h3:inR v.z):cA (n+3) 148 [aj v]=some (s8 v):=by
 rw[Kt];unfold D6
 obtain⟨Z,hZ⟩:∃ Z,(D.st [(D.bool false),(D.bool false),(aC aP)])=Z:=⟨_,rfl⟩
 rw[hZ]
 refine cL (s':=[I 1,.st [ai v.x,Z,Z]]) ?_ (cL (s':=[I 2,.st [ai v.x,ai v.y,Z]]) ?_ (cL (s':=[I 3,s8 v]) ?_ (jd (r:=(0,[s8 v])) ?_ rfl)))
 ·exact aa (z:=.bool true) rfl (aa (z:=true) rfl (rd (aa (z:=0) rfl (aa (z:=I v.x) rfl (aa (DO n h1) (aa (z:=0) rfl (aa (z:=.st [ai v.x,Z,Z]) rfl (aa (z:=I 1) rfl rfl))))))))
 ·exact aa (z:=.bool true) rfl (aa (z:=true) rfl (rd (aa (z:=1) rfl (aa (z:=I v.y) rfl (aa (DO n h2) (aa (z:=1) rfl (aa (z:=.st [ai v.x,ai v.y,Z]) rfl (aa (z:=I 2) rfl rfl))))))))
 ·exact aa (z:=.bool true) rfl (aa (z:=true) rfl (rd (aa (z:=2) rfl (aa (z:=I v.z) rfl (aa (DO n h3) (aa (z:=2) rfl (aa (z:=s8 v) rfl (aa (z:=I 3) rfl rfl))))))))
 ·exact aa (z:=.bool false) rfl (aa (z:=false) rfl rfl)
theorem IN(n:Nat){u v:V}(hu:In u.x/\In u.y/\In u.z)(hv:In v.x/\In v.y/\In v.z)(h1:(u.x*v.x).natAbs<=2^100)(h2:(u.y*v.y).natAbs<=2^100)(h3:(u.z*v.z).natAbs<=2^100):cA (n+5) 147 [s8 u,s8 v]=some (ai (V.dot u v)):=by
 rw[Lb];unfold Dt
 have i1:In (u.x*v.x):=fT (by decide) h1
 have i2:In (u.y*v.y):=fT (by decide) h2
 have i3:In (u.z*v.z):=fT (by decide) h3
 have e1:=Int.natAbs_add_le (u.x*v.x) (u.y*v.y)
 have e2:=Int.natAbs_add_le (u.x*v.x+u.y*v.y) (u.z*v.z)
 have j2:In (u.x*v.x+u.y*v.y):=fT (k:=110) (by decide) (by omega)
 have j3:In (V.dot u v):=fT (k:=110) (by decide) (by unfold V.dot;omega)
 have j0:In 0:=gc (kP 0)
 refine aa (DO (n+2) (kP 0)) ?_
 refine cL (s':=[I 1,ai (u.x*v.x)]) ?_ (cL (s':=[I 2,ai (u.x*v.x+u.y*v.y)]) ?_ (cL (s':=[I 3,ai (V.dot u v)]) ?_ (jd (r:=(0,[ai (V.dot u v)])) ?_ rfl)))
 ·exact aa (z:=.bool true) rfl (aa (z:=true) rfl (rd (aa (z:=0) rfl (aa (z:=ai u.x) rfl (aa (z:=0) rfl (aa (z:=ai v.x) rfl (aa (wf (n+1) hu.1 hv.1 i1) (aa (Cu n j0 i1 (by rw[Int.zero_add];exact i1)) (aa (z:=I 1) rfl (by rw[Int.zero_add]))))))))))
 ·exact aa (z:=.bool true) rfl (aa (z:=true) rfl (rd (aa (z:=1) rfl (aa (z:=ai u.y) rfl (aa (z:=1) rfl (aa (z:=ai v.y) rfl (aa (wf (n+1) hu.2.1 hv.2.1 i2) (aa (Cu n i1 i2 j2) (aa (z:=I 2) rfl rfl)))))))))
 ·exact aa (z:=.bool true) rfl (aa (z:=true) rfl (rd (aa (z:=2) rfl (aa (z:=ai u.z) rfl (aa (z:=2) rfl (aa (z:=ai v.z) rfl (aa (wf (n+1) hu.2.2 hv.2.2 i3) (aa (Cu n j2 i3 j3) (aa (z:=I 3) rfl rfl)))))))))
 ·exact aa (z:=.bool false) rfl (aa (z:=false) rfl rfl)
theorem MI(n:Nat){u v:V}(hu:bd 1152921504606846976 u)(hv:bd 1152921504606846976 v)(h1:(u.x*v.x).natAbs<=2^100)(h2:(u.y*v.y).natAbs<=2^100)(h3:(u.z*v.z).natAbs<=2^100):cA (n+6) 91 [aj u,aj v]=some (ai (V.dot u v)):=by
 rw[Mx];unfold Ia
 simp only[bd] at hu hv
 have a1:inR u.x:=by simp only[inR];omega
 have a2:inR u.y:=by simp only[inR];omega
 have a3:inR u.z:=by simp only[inR];omega
 have b1:inR v.x:=by simp only[inR];omega
 have b2:inR v.y:=by simp only[inR];omega
 have b3:inR v.z:=by simp only[inR];omega
 exact aa (Ht (n+2) a1 a2 a3) (aa (Ht (n+2) b1 b2 b3) (aa (IN n ⟨gc a1,gc a2,gc a3⟩ ⟨gc b1,gc b2,gc b3⟩ h1 h2 h3) rfl))
theorem LO(n:Nat){t:T3}(h:bd MV t.1/\bd MV t.2.1/\bd MV t.2.2):cA (n+6) 117 [aj t.1,aj t.2.1]=some (aj (V.cross t.1 t.2.1))/\cA (n+6) 91 [aj (V.cross t.1 t.2.1),aj t.2.2]=some (ai (lU t)):=by
 have hc:=jR h.1 h.2.1
 have h3:=h.2.2
 refine⟨Gr (n+5) h.1 h.2.1 (by decide),?_⟩
 have e:(2:Int)*(MV*MV)=137438953472:=rfl
 rw[e] at hc
 have hm:MV=262144:=rfl
 have key:∀ a b:Int,(-137438953472<=a/\a<=137438953472)->(-MV<=b/\b<=MV)->(a*b).natAbs<=2^100:=fun a b ha hb=>by
  rw[Int.natAbs_mul]
  exact dt (i:=37) (j:=18) (by rw[show(2:Nat)^37=137438953472 from rfl];omega) (by rw[show(2:Nat)^18=262144 from rfl];omega) (by decide)
 refine MI n ?_ ?_ (key _ _ hc.1 h3.1) (key _ _ hc.2.1 h3.2.1) (key _ _ hc.2.2 h3.2.2)
 ·simp only[bd] at *;omega
 ·simp only[bd] at *;omega
theorem Jj{α:Type}{l:List V}{p:List Nat}{j:Nat}{K:D->Option α}{y:α}(hj:j<p.length)(hk:p.getD j 0<l.length)(h:K (aj (pt l (p.getD j 0)))=some y) :
  (Option.bind (D.asSl (.sl (ab p))) fun l17=>Option.bind (D.idx (I (j:Int)) (List.length l17)) fun i18=>Option.bind (l17[i18]?) fun x19=>Option.bind (D.asSl (bA l)) fun l20=>Option.bind (D.idx x19 (List.length l20)) fun i21=>Option.bind (l20[i21]?) K)=some y:=by
 refine aa (z:=ab p) rfl (aa (uw hj) (aa (lu hj) (aa (z:=l.map aj) rfl (aa (z:=p.getD j 0) (by rw[aB];exact aE hk) (aa (z:=aj (pt l (p.getD j 0))) ?_ h)))))
 generalize p.getD j 0=k at *
 unfold pt
 rw[List.getElem?_map,List.getD_eq_getElem?_getD,List.getElem?_eq_getElem hk];rfl
theorem Mr(n:Nat){l:List V}{F:FL}(hl:∀ x∈l,bd MV x)(hF:FIn l F)(h18:cA (n+9) 18 [lG l]=some (.sl (kV F))):cA (n+10) 23 [lG l]=some (ai (bJ lU (mr l F))):=by
 rw[MJ];unfold H4
 have hFl:=hF.len
 refine aa (DO (n+7) (kP 0)) (aa h18 (aa (z:=kV F) rfl ?_))
 obtain⟨Z,hZ⟩:∃ Z,(D.st [(D.bool false),(D.bool false),(aC aP)])=Z:=⟨_,rfl⟩
 rw[hZ]
 refine bq (fun i s=>s=[I (i:Int),lG l,Z,ai (bJ lU (mr l (F.take i)))]) F.length 0 (Nat.zero_le _) (by simp[mr,bJ]) (fun i hi s hJ=>?_) (fun s hJ=>?_)
 ·subst hJ
  left
  refine⟨_,?_,rfl⟩
  refine aa am (aa ag (aZ (by show((i:Int)<((kV F).length:Int));rw[nP];omega) ?_))
  refine aa (z:=kV F) rfl (aa (z:=i) (by rw[nP];exact aE hi) (aa (Az hi) ?_))
  have hpart:=fun m (hm:m<=F[i].2.length-2)=>EG hl hF hi hm
  obtain⟨k1,k2,k3⟩:=hF.ok F[i] (List.getElem_mem hi)
  rw[se l hi]
  generalize F[i]=f at *
  obtain⟨q,p⟩:=f
  simp only at *
  generalize mr l (F.take i)=T at *
  refine fJ (fun j s=>s=[I ((j+2:Nat):Int),lG l,Z,ai (bJ lU (T++De l p j))]) (p.length-2) 0 (Nat.zero_le _) (by rw[Ba,List.append_nil];rfl) (fun j hj s hJ=>?_) (fun s hJ=>?_)
  ·subst hJ
   left
   refine⟨_,?_,rfl⟩
   have hp1:=hpart j (by omega)
   have hp2:=hpart (j+1) (by omega)
   have b0:=ta hl (k3 0 (by omega))
   have b1:=ta hl (k3 (j+1) (by omega))
   have b2:=ta hl (k3 (j+2) (by omega))
   obtain⟨v1,v2⟩:=LO (n+3) (t:=(pt l (p.getD 0 0),pt l (p.getD (j+1) 0),pt l (p.getD (j+2) 0))) ⟨b0,b1,b2⟩
   have hs1:=kb hp1
   have hs2:=kb hp2
   rw[C7,<-List.append_assoc,wT] at hs2 ⊢
   have hv:=BP (t:=(pt l (p.getD 0 0),pt l (p.getD (j+1) 0),pt l (p.getD (j+2) 0))) ⟨b0,b1,b2⟩
   refine aa (z:=.sl (ab p)) rfl (aa (z:=ab p) rfl (aa am (aa ag (aZ (by show(((j+2:Nat):Int)<((ab p).length:Int));rw[ah];omega) ?_))))
   refine aa (z:=bA l) rfl (aa (z:=.sl (ab p)) rfl (Jj (j:=0) (by omega) (k3 _ (by omega)) ?_))
   refine aa (z:=bA l) rfl (aa (z:=.sl (ab p)) rfl (aa (jz (a:=j+2) (b:=1) rfl (by omega) (by omega)) (Jj (j:=j+1) (by omega) (k3 _ (by omega)) ?_)))
   refine aa (z:=bA l) rfl (aa (z:=.sl (ab p)) rfl (Jj (j:=j+2) (by omega) (k3 _ (by omega)) ?_))
   exact aa v1 (aa v2 (aa (Cu (n+5) (fT (by decide) hs1) (fT (by decide) hv) (fT (by decide) hs2)) (aa (bn (a:=j+2) (b:=1) (by omega)) rfl)))
  ·subst hJ
   refine⟨_,aa (z:=.sl (ab p)) rfl (aa (z:=ab p) rfl (aa am (aa ag (aY (by show ¬ (((p.length-2+2:Nat):Int)<((ab p).length:Int));rw[ah];omega) rfl)))),?_⟩
   exact aa (bn (a:=i) (b:=1) (by omega)) rfl
 ·subst hJ
  refine⟨_,aa am (aa ag (aY (by show ¬ ((F.length:Int)<((kV F).length:Int));rw[nP];omega) rfl)),?_⟩
  rw[List.take_length];rfl
end Go.Proofs.YtjjjkojfijpeeaaGreat.Sy
end
section
set_option linter.unusedVariables false
namespace Go.Proofs.YtjjjkojfijpeeaaGreat.Sy
open Go Go.Proofs Go.Proofs.YtjjjkojfijpeeaaGreat.Geo
theorem Gz{x:Int}{k:Nat}(h:x.natAbs<=2^k)(hk:k<=511:=by decide):In x:=fT hk h
end Go.Proofs.YtjjjkojfijpeeaaGreat.Sy
end
section
set_option linter.unusedVariables false
namespace Go.Proofs.YtjjjkojfijpeeaaGreat.Sy
open Go Go.Proofs Go.Proofs.YtjjjkojfijpeeaaGreat.Geo
theorem tK{m k:Nat}(h:m<=2^k)(hk:k<=511):m<dT:=by
 have:In (m:Int):=fT hk (by rw[Int.natAbs_natCast];exact h)
 have:=bm.1 this
 rwa [Int.natAbs_natCast] at this
theorem yl{a b k:Nat}(ha:a<=2^k)(hb:b<=2^k):a+b<=2^(k+1):=by rw[Nat.pow_succ];omega
def ER(q:Rat)(a k:Nat):Prop:=q.num.natAbs<=2^a/\q.den<=2^k
theorem o9{x:Int}{a:Nat}(hx:x.natAbs<=2^a):ER (x:Rat) a 0:=⟨by simpa using hx,by simp⟩
theorem ER.inR{q:Rat}{a k:Nat}(h:ER q a k)(ha:a<=511:=by decide)(hk:k<=511:=by decide):FD q:=
 ⟨fT ha h.1,fT hk (by rw[Int.natAbs_natCast];exact h.2)⟩
theorem ER.fitM{x y:Rat}{a k b m:Nat}(hx:ER x a k)(hy:ER y b m)(h1:a+b<=511:=by decide)(h2:k+m<=511:=by decide):fitM x y:=
 ⟨tK (dt hx.1 hy.1 (Nat.le_refl _)) h1,tK (dt hx.2 hy.2 (Nat.le_refl _)) h2⟩
theorem ER.fitA{x y:Rat}{a k b m:Nat}(hx:ER x a k)(hy:ER y b m)(h1:a+m<=510:=by decide)(h2:b+k<=510:=by decide)(h3:k+m<=511:=by decide):fitA x y:=by
 refine⟨?_,tK (dt hx.2 hy.2 (Nat.le_refl _)) h3⟩
 have e1:=dt hx.1 hy.2 h1
 have e2:=dt hy.1 hx.2 h2
 exact tK (k:=510+1) (yl e1 e2) (by decide)
def G3(t:T3):D:=.st [.st [aj t.1,aj t.2.1,aj t.2.2],ai (lU t)]
def FJ(T:List T3):List D:=T.map G3
theorem uG.take{T:List T3}{N:Nat}(h:uG T N)(i:Nat):uG (T.take i) N:=
 ⟨Nat.le_trans (by rw[List.length_take];omega) h.1,fun t ht=>h.2 t (List.mem_of_mem_take ht)⟩
section
variable{l:List V}{T:List T3}(hT:uG T 268435456)(h58:∀ m,cA (m+9) 58 [lG l]=some (.sl (FJ T)))
include hT h58
end
end Go.Proofs.YtjjjkojfijpeeaaGreat.Sy
end
section
set_option linter.unusedVariables false
namespace Go.Proofs.YtjjjkojfijpeeaaGreat.Sy
open Go Go.Proofs Go.Proofs.YtjjjkojfijpeeaaGreat.Geo
end Go.Proofs.YtjjjkojfijpeeaaGreat.Sy
end
section
set_option linter.unusedVariables false
namespace Go.Proofs.YtjjjkojfijpeeaaGreat.Sy
open Go Go.Proofs Go.Proofs.YtjjjkojfijpeeaaGreat.Geo
section
variable{l:List V}{T:List T3}(hT:uG T 268435456)(h58:∀ m,cA (m+9) 58 [lG l]=some (.sl (FJ T)))
include hT h58
end
end Go.Proofs.YtjjjkojfijpeeaaGreat.Sy
end
section
set_option linter.unusedVariables false
namespace Go.Proofs.YtjjjkojfijpeeaaGreat.Sy
open Go Go.Proofs Go.Proofs.YtjjjkojfijpeeaaGreat.Geo
theorem Ns{α β:Type}{A:Option α}{g:α->Option β}{Q:α->Prop}{Y:β->Prop}(h:∃ r,A=some r/\Q r)(hk:∀ r,Q r->∃ y,g r=some y/\Y y):∃ y,Option.bind A g=some y/\Y y:=by
 obtain⟨r,rfl,hq⟩:=h
 exact hk r hq
end Go.Proofs.YtjjjkojfijpeeaaGreat.Sy
end
section
set_option linter.unusedVariables false
namespace Go.Proofs.YtjjjkojfijpeeaaGreat.Sy
open Go Go.Proofs Go.Proofs.YtjjjkojfijpeeaaGreat.Geo
theorem Hy(n:Nat):cA (n+3) 169 []=some (ai 1):=by
 rw[Kf];unfold Dq
 exact aa (DO n (kP 1)) rfl
theorem JR(n:Nat){x:Int}(hx:In x):cA (n+1031) 138 [ai x]=some (cR (x:Rat)):=by
 rw[LL];unfold Do
 refine aa (Hy (n+1027)) (aa (HX n hx qw (by decide)) ?_)
 rw[oy]
theorem Hr(n:Nat){x:Int}(hx:inR x):cA (n+1032) 74 [I x]=some (cR (x:Rat)):=by
 rw[NM];unfold H5
 exact aa (DO (n+1029) hx) (aa (JR n (gc hx)) rfl)
theorem zN(n:Nat){q:Rat}(h:FD q):cA (n+1030) 136 [cR q]=some (.bool true):=by
 rw[KY];unfold DS
 have hp:=q.den_pos
 refine aa (z:=ai q.num) rfl (aa (Dl (n+1027) h.1) (aa (z:=true) rfl (aa (z:=true) (rd ?_) (aa (z:=true) rfl (aa (z:=true) (rd ?_) (aa (z:=true) rfl (aa (z:=true) (rd ?_) rfl)))))))
 ·exact aa (z:=ai (q.den:Int)) rfl (aa (Dl (n+1027) h.2) rfl)
 ·refine aa (z:=ai (q.den:Int)) rfl (aa (B9 (n+1026) h.2) (aa ff ?_))
  rw[lm (by omega)];rfl
 ·refine aa (z:=ai q.num) rfl (aa (z:=ai (q.den:Int)) rfl (aa (Gd n h.1 h.2) (aa (Hy (n+1026)) ?_)))
  have e:Nat.gcd q.num.natAbs (q.den:Int).natAbs=1:=q.reduced
  rw[e]
  show D.truth (.bool (D.beq (ai 1) (ai 1)))=_
  rw[HB];rfl
theorem zT{x y:Rat}{a b g:Nat}(ha:x.den=g*a)(hb:y.den=g*b)(hne:(a:Int)*y.den≠0):Rat.divInt (x.num*b+y.num*a) ((a:Int)*y.den)=x+y:=by
 conv=>rhs;rw[<-Rat.num_divInt_den x,<-Rat.num_divInt_den y]
 rw[Rat.divInt_add_divInt _ _ (fX x) (fX y),Rat.divInt_eq_divInt_iff hne (by have:=fX x;have:=fX y;exact Int.mul_ne_zero ‹_› ‹_›)]
 have k1:(x.den:Int)=g*a:=by rw[ha,Int.natCast_mul]
 have k2:(y.den:Int)=g*b:=by rw[hb,Int.natCast_mul]
 rw[k1,k2]
 grind
theorem Ku(n:Nat){x y:Rat}(hx:FD x)(hy:FD y)(hf:fitA x y):cA (n+1031) 173 [cR x,cR y]=some (cR (x+y)):=by
 rw[Jx];unfold EX
 obtain⟨f1,f2⟩:=hf
 refine aa (zN n hx) (aa (z:=.bool false) rfl (aa (z:=false) rfl (aa (z:=false) ?_ (aa (z:=false) rfl ?_))))
 ·rw[if_neg (by decide)]
  exact aa (zN n hy) (aa (z:=.bool false) rfl rfl)
 rw[if_neg (by decide)]
 obtain⟨g,hg⟩:∃ g,g=Nat.gcd x.den y.den:=⟨_,rfl⟩
 have hxp:=x.den_pos
 have hyp:=y.den_pos
 have g1:g ∣ x.den:=hg ▸ Nat.gcd_dvd_left _ _
 have g2:g ∣ y.den:=hg ▸ Nat.gcd_dvd_right _ _
 have gp:0<g:=by rw[hg];exact Nat.gcd_pos_of_pos_left _ hxp
 obtain⟨a,ha⟩:=g1
 obtain⟨b,hb⟩:=g2
 have gi:In (g:Int):=fZ.2 (Nat.lt_of_le_of_lt (Nat.le_of_dvd hxp ⟨a,ha⟩) (fZ.1 hx.2))
 have g0:(g:Int)≠0:=by omega
 have ea:(x.den:Int)/(g:Int)=(a:Int):=by rw[ha,Int.natCast_mul];exact Int.mul_ediv_cancel_left _ g0
 have eb:(y.den:Int)/(g:Int)=(b:Int):=by rw[hb,Int.natCast_mul];exact Int.mul_ediv_cancel_left _ g0
 have ha':a<=x.den:=by rw[ha];exact Nat.le_mul_of_pos_left _ gp
 have hb':b<=y.den:=by rw[hb];exact Nat.le_mul_of_pos_left _ gp
 have a0:0<a:=Nat.pos_of_ne_zero fun h=>by rw[h] at ha;omega
 have hai:In (a:Int):=fZ.2 (Nat.lt_of_le_of_lt ha' (fZ.1 hx.2))
 have hbi:In (b:Int):=fZ.2 (Nat.lt_of_le_of_lt hb' (fZ.1 hy.2))
 have m1:x.num.natAbs*b<=x.num.natAbs*y.den:=Nat.mul_le_mul_left _ hb'
 have m2:y.num.natAbs*a<=y.num.natAbs*x.den:=Nat.mul_le_mul_left _ ha'
 have m3:a*y.den<=x.den*y.den:=Nat.mul_le_mul_right _ ha'
 have i1:In (x.num*b):=bm.2 (by rw[Int.natAbs_mul,Int.natAbs_natCast];omega)
 have i2:In (y.num*a):=bm.2 (by rw[Int.natAbs_mul,Int.natAbs_natCast];omega)
 have i3:In (x.num*b+y.num*a):=bm.2 (by
  have:=Int.natAbs_add_le (x.num*b) (y.num*a)
  rw[Int.natAbs_mul,Int.natAbs_mul,Int.natAbs_natCast,Int.natAbs_natCast] at this;omega)
 have i4:In ((a:Int)*y.den):=bm.2 (by rw[<-Int.natCast_mul,Int.natAbs_natCast];omega)
 have h1:=Gd (n+1) hx.2 hy.2
 rw[Int.natAbs_natCast,Int.natAbs_natCast,<-hg] at h1
 have h2:=BK (n+1024) hx.2 gi g0 ⟨a,by rw[ha,Int.natCast_mul]⟩
 have h3:=BK (n+1024) hy.2 gi g0 ⟨b,by rw[hb,Int.natCast_mul]⟩
 rw[ea] at h2
 rw[eb] at h3
 refine aa (z:=ai (x.den:Int)) rfl (aa (z:=ai (y.den:Int)) rfl (aa (h1) ?_))
 refine aa (z:=ai (x.den:Int)) rfl (aa (h2) (aa (z:=ai (y.den:Int)) rfl (aa (h3) (aa (z:=ai x.num) rfl (aa (wf (n+1027) hx.1 hbi i1) (aa (z:=ai y.num) rfl (aa (wf (n+1027) hy.1 hai i2) (aa (Cu (n+1026) i1 i2 i3) (aa (z:=ai (y.den:Int)) rfl (aa (wf (n+1027) hai hy.2 i4) ?_))))))))))
 have hne:(a:Int)*y.den≠0:=by
  have:0<a*y.den:=Nat.mul_pos a0 hyp
  rw[<-Int.natCast_mul];omega
 refine aa (HX n i3 i4 hne) ?_
 rw[zT ha hb hne]
theorem xR{N D:Int}(hD:0<D)(h:Nat.gcd N.natAbs D.natAbs=1):(Rat.divInt N D).num=N/\((Rat.divInt N D).den:Int)=D:=by
 obtain⟨p1,p2⟩:=fi N (show D≠0 by omega)
 have e:((1:Nat):Int)=1:=rfl
 rw[if_neg (by omega),h,e,Int.ediv_one] at p1 p2
 exact⟨p1,p2⟩
theorem zr(x:Int){d:Int}(hd:d≠0):(Rat.divInt x d).num.natAbs ∣ x.natAbs/\(Rat.divInt x d).den ∣ d.natAbs:=by
 obtain⟨p1,p2⟩:=fi x hd
 have e:(Rat.divInt x d).den=((Rat.divInt x d).den:Int).natAbs:=rfl
 rw[e,p1,p2]
 have key:∀ z:Int,((Nat.gcd x.natAbs d.natAbs:Nat):Int) ∣ z->(z/(if d<0 then -(Nat.gcd x.natAbs d.natAbs:Int) else(Nat.gcd x.natAbs d.natAbs:Int))).natAbs ∣ z.natAbs:=by
  intro z hz
  have hgp:0<Nat.gcd x.natAbs d.natAbs:=Nat.gcd_pos_of_pos_right _ (by omega)
  obtain⟨k,rfl⟩:=hz
  generalize Nat.gcd x.natAbs d.natAbs=g at *
  split
  ·rw[Int.ediv_neg,Int.mul_ediv_cancel_left _ (by omega),Int.natAbs_neg,Int.natAbs_mul];exact Nat.dvd_mul_left _ _
  ·rw[Int.mul_ediv_cancel_left _ (by omega),Int.natAbs_mul];exact Nat.dvd_mul_left _ _
 exact⟨key x (Int.ofNat_dvd_left.2 (Nat.gcd_dvd_left _ _)),key d (Int.ofNat_dvd_left.2 (Nat.gcd_dvd_right _ _))⟩
theorem Kr(n:Nat){x y:Rat}(hx:FD x)(hy:FD y)(hf:fitM x y):cA (n+1031) 174 [cR x,cR y]=some (cR (x*y)):=by
 rw[I3];unfold ED
 obtain⟨f1,f2⟩:=hf
 refine aa (zN n hx) (aa (z:=.bool false) rfl (aa (z:=false) rfl (aa (z:=false) ?_ (aa (z:=false) rfl ?_))))
 ·rw[if_neg (by decide)]
  exact aa (zN n hy) (aa (z:=.bool false) rfl rfl)
 rw[if_neg (by decide)]
 obtain⟨p1,p2⟩:=ns x.num (fX y)
 obtain⟨q1,q2⟩:=ns y.num (fX x)
 obtain⟨v1,v2⟩:=zr x.num (fX y)
 obtain⟨w1,w2⟩:=zr y.num (fX x)
 have e:Rat.divInt x.num y.den*Rat.divInt y.num x.den=x*y:=by
  conv=>rhs;rw[<-Rat.num_divInt_den x,<-Rat.num_divInt_den y]
  rw[Rat.divInt_mul_divInt,Rat.divInt_mul_divInt,Int.mul_comm (y.den:Int)]
 refine aa (z:=ai x.num) rfl (aa (z:=ai (y.den:Int)) rfl (aa (HX n hx.1 hy.2 (fX y)) (aa (z:=ai y.num) rfl (aa (z:=ai (x.den:Int)) rfl (aa (HX n hy.1 hx.2 (fX x)) ?_)))))
 rw[Int.natAbs_natCast] at p2 q2 v2 w2
 have r1:=qK hx.1 hy.2 (fX y)
 have r2:=qK hy.1 hx.2 (fX x)
 generalize Rat.divInt x.num y.den=P at *
 generalize Rat.divInt y.num x.den=Q at *
 have i1:In (P.num*Q.num):=bm.2 (by rw[Int.natAbs_mul];exact Nat.lt_of_le_of_lt (Nat.mul_le_mul p1 q1) f1)
 have i2:In ((P.den:Int)*Q.den):=bm.2 (by
  rw[<-Int.natCast_mul,Int.natAbs_natCast];exact Nat.lt_of_le_of_lt (Nat.mul_le_mul p2 q2) (by rw[Nat.mul_comm];exact f2))
 refine aa (z:=ai P.num) rfl (aa (z:=ai Q.num) rfl (aa (wf (n+1027) r1.1 r2.1 i1) (aa (z:=ai (P.den:Int)) rfl (aa (z:=ai (Q.den:Int)) rfl (aa (wf (n+1027) r1.2 r2.2 i2) ?_)))))
 refine aa (z:=.bool false) rfl (aa (z:=false) rfl (aa (z:=false) ?_ (aa (z:=false) rfl ?_)))
 ·rw[if_neg (by decide)]
  exact aa (z:=.bool false) rfl rfl
 rw[if_neg (by decide)]
 have hpos:0<(P.den:Int)*Q.den:=by
  have:=P.den_pos;have:=Q.den_pos
  rw[<-Int.natCast_mul]
  have:=Nat.mul_pos ‹0<P.den› ‹0<Q.den›
  omega
 have c1:Nat.Coprime P.num.natAbs P.den:=P.reduced
 have c2:Nat.Coprime Q.num.natAbs Q.den:=Q.reduced
 have c3:Nat.Coprime P.num.natAbs Q.den:=Nat.Coprime.coprime_dvd_left v1 (Nat.Coprime.coprime_dvd_right w2 x.reduced)
 have c4:Nat.Coprime Q.num.natAbs P.den:=Nat.Coprime.coprime_dvd_left w1 (Nat.Coprime.coprime_dvd_right v2 y.reduced)
 have hred:Nat.gcd (P.num*Q.num).natAbs ((P.den:Int)*Q.den).natAbs=1:=by
  rw[Int.natAbs_mul,<-Int.natCast_mul,Int.natAbs_natCast]
  exact Nat.Coprime.mul_left (Nat.Coprime.mul_right c1 c3) (Nat.Coprime.mul_right c4 c2)
 obtain⟨z1,z2⟩:=xR hpos hred
 have e2:Rat.divInt (P.num*Q.num) ((P.den:Int)*Q.den)=x*y:=by
  rw[<-Rat.divInt_mul_divInt,Rat.num_divInt_den,Rat.num_divInt_den,e]
 rw[e2] at z1 z2
 unfold cR
 rw[z1,z2]
theorem ML(n:Nat){x y:Int}(hx:In x)(hy:In y):cA (n+4) 90 [ai x,ai y]=some (I (ba x y)):=by
 rw[NS];unfold H1
 have gx:=kZ (n+1) (a:=some x) (bU hx)
 have gy:=kZ (n+1) (a:=some y) (bU hy)
 have hxt:=bm.1 hx;have hyt:=bm.1 hy
 refine aa gx (aa gy (aa (z:=.bool false) rfl (aa (z:=false) rfl (aa (z:=false) rfl (aa (z:=false) rfl ?_)))))
 rw[if_neg (by decide)]
 refine aa (z:=.bool false) rfl (aa (z:=false) rfl ?_)
 rw[if_neg (by decide)]
 refine aa (z:=.bool false) rfl (aa (z:=false) rfl ?_)
 rw[if_neg (by decide)]
 refine aa (c9 x) (aa (c9 y) ?_)
 by_cases h1:x<0<;>by_cases h2:y<0
 ·rw[decide_eq_true h1,decide_eq_true h2]
  refine aa (z:=false) rfl ?_
  rw[if_neg (by decide)]
  refine aa (z:=.bool true) (by rw[c9,decide_eq_true h1]) (aa (z:=true) rfl (rd ?_))
  refine aa (kE y) (aa (kE x) (aa (Ds n hyt hxt) ?_))
  congr 2
  unfold ba
  by_cases c:x<y
  ·rw[if_pos c,if_pos (by omega)]
  ·rw[if_neg c,if_neg (by omega)]
   by_cases c2:x>y
   ·rw[if_pos c2,if_pos (by omega)]
   ·rw[if_neg c2,if_neg (by omega)]
 ·rw[decide_eq_true h1,decide_eq_false h2]
  refine aa (z:=true) rfl (rd ?_)
  refine aa (z:=.bool true) (by rw[c9,decide_eq_true h1]) (aa (z:=true) rfl (rd ?_))
  unfold ba
  rw[if_pos (by omega)]
 ·rw[decide_eq_false h1,decide_eq_true h2]
  refine aa (z:=true) rfl (rd ?_)
  refine aa (z:=.bool false) (by rw[c9,decide_eq_false h1]) (aa (z:=false) rfl ?_)
  rw[if_neg (by decide)]
  unfold ba
  rw[if_neg (by omega),if_pos (by omega)]
 ·rw[decide_eq_false h1,decide_eq_false h2]
  refine aa (z:=false) rfl ?_
  rw[if_neg (by decide)]
  refine aa (z:=.bool false) (by rw[c9,decide_eq_false h1]) (aa (z:=false) rfl ?_)
  rw[if_neg (by decide)]
  refine aa (kE x) (aa (kE y) (aa (Ds n hxt hyt) ?_))
  congr 2
  unfold ba
  by_cases c:x<y
  ·rw[if_pos c,if_pos (by omega)]
  ·rw[if_neg c,if_neg (by omega)]
   by_cases c2:x>y
   ·rw[if_pos c2,if_pos (by omega)]
   ·rw[if_neg c2,if_neg (by omega)]
theorem uQ(x:Int):cR (x:Rat)=.st [ai x,ai 1]:=rfl
theorem LQ(n:Nat){x y:Int}(hx:In x)(hy:In y):cA (n+1031) 73 [cR (x:Rat),cR (y:Rat)]=some (I (ba x y)):=by
 rw[OC];unfold Ic
 refine aa (zN n (Fz hx)) (aa (zN n (Fz hy)) (aa (z:=.bool false) rfl (aa (z:=false) rfl (aa (z:=false) rfl (aa (z:=false) rfl ?_)))))
 rw[if_neg (by decide)]
 refine aa (z:=.bool false) rfl (aa (z:=false) rfl ?_)
 rw[if_neg (by decide)]
 refine aa (z:=.bool false) rfl (aa (z:=false) rfl ?_)
 rw[if_neg (by decide)]
 have d1:∀ z:Int,z/1=z:=fun z=>by omega
 have q:=fun{z:Int} (hz:In z)=>Hw (n+1024) hz qw (by decide) ⟨z,by omega⟩
 have q132:=fun{z:Int} (hz:In z)=>BK (n+1024) hz qw (by decide) ⟨z,by omega⟩
 have q137:∀ {z:Int},In z->cA (n+1030) 137 [ai z,ai 1]=some (ai 0):=fun{z} hz=>by
  rw[KH];unfold DQ
  exact aa (q hz) (aa (z:=ai (z/1)) rfl (aa (z:=ai 0) rfl rfl))
 rw[uQ,uQ]
 refine j6 (r:=(0,[I (ba x y)])) ?_ rfl
 refine aa (z:=ai x) rfl (aa (z:=ai 1) rfl (aa (q132 hx) (aa (z:=ai y) rfl (aa (z:=ai 1) rfl (aa (q132 hy) ?_)))))
 rw[d1,d1]
 refine aa (ML (n+1026) hx hy) ?_
 by_cases h:ba x y=0
 ·rw[h]
  refine aa (z:=false) rfl ?_
  rw[if_neg (by decide)]
  refine aa (z:=ai 1) rfl (aa (z:=ai x) rfl (aa (z:=ai 1) rfl (aa (q137 hx) (aa (z:=ai 1) rfl (aa (z:=ai y) rfl (aa (z:=ai 1) rfl (aa (q137 hy) ?_)))))))
  have hz:=B9 (n+1027) (gc (kP 0))
  refine aa hz (aa hz ?_)
  exact aa (z:=true) rfl (aa (z:=true) rfl (aa (z:=true) rfl (rd (aa (z:=I 0) rfl (aa (z:=I 0) rfl rfl)))))
 ·have hb:D.beq (I (ba x y)) (D.int .i64 0)=false:=by rw[show(D.int .i64 0)=I 0 from rfl,cV,decide_eq_false h]
  refine aa (z:=true) (by rw[hb];rfl) (rd (aa (gL (a:=1) ?_) ?_))
  ·rw[Int.one_mul];unfold ba;split;exact kP _;split<;>exact kP _
  ·rw[Int.one_mul]
theorem Ly(n:Nat){v:V}(h1:inR v.x)(h2:inR v.y)(h3:inR v.z):cA (n+1033) 135 [aj v]=some (n9 (RV.of v)):=by
 rw[Ka];unfold Dv
 exact aa (z:=I v.x) rfl (aa (Hr n h1) (aa (z:=I v.y) rfl (aa (Hr n h2) (aa (z:=I v.z) rfl (aa (Hr n h3) rfl)))))
theorem EW(x y:Int):(x:Rat)*(y:Rat)=((x*y:Int):Rat):=by rw[Rat.intCast_mul]
theorem Dn(x y:Int):(x:Rat)+(y:Rat)=((x+y:Int):Rat):=by rw[Rat.intCast_add]
theorem Lf(n:Nat){u v:V}(hu:u.x.natAbs<=2^100/\u.y.natAbs<=2^100/\u.z.natAbs<=2^100)(hv:v.x.natAbs<=2^100/\v.y.natAbs<=2^100/\v.z.natAbs<=2^100) :
  cA (n+1033) 134 [n9 (RV.of u),n9 (RV.of v)]=some (cR ((V.dot u v:Int):Rat)):=by
 rw[Jr];unfold E7
 have m:=fun{a b:Int} (ha:a.natAbs<=2^100) (hb:b.natAbs<=2^100)=>pN (k:=200) ha hb (by decide)
 have b1:=m hu.1 hv.1;have b2:=m hu.2.1 hv.2.1;have b3:=m hu.2.2 hv.2.2
 have s2:=jS b1 b2
 have s3:=jS s2 (rt b3 (by decide))
 have pr:∀ {a b:Int},a.natAbs<=2^100->b.natAbs<=2^100->cA (n+1032) 174 [cR (a:Rat),cR (b:Rat)]=some (cR ((a*b:Int):Rat)):=fun{a b} ha hb=>by
  have fa:=o9 ha;have fb:=o9 hb
  rw[Kr (n+1) fa.inR fb.inR (fa.fitM fb),EW]
 have ad:∀ {a b:Int} {p q:Nat},a.natAbs<=2^p->b.natAbs<=2^q->p<=300->q<=300->cA (n+1032) 173 [cR (a:Rat),cR (b:Rat)]=some (cR ((a+b:Int):Rat)):=fun{a b p q} ha hb hp hq=>by
  have fa:=o9 ha;have fb:=o9 hb
  rw[Ku (n+1) (fa.inR (by omega) (by omega)) (fb.inR (by omega) (by omega)) (fa.fitA fb (by omega) (by omega) (by omega)),Dn]
 refine aa (Hr n (kP 0)) ?_
 have z1:(0:Int)+u.x*v.x=u.x*v.x:=by omega
 refine cL (s':=[I 1,cR ((u.x*v.x:Int):Rat)]) ?_ (cL (s':=[I 2,cR ((u.x*v.x+u.y*v.y:Int):Rat)]) ?_ (cL (s':=[I 3,cR ((V.dot u v:Int):Rat)]) ?_ (jd (r:=(0,[cR ((V.dot u v:Int):Rat)])) ?_ rfl)))
 ·refine aa (z:=.bool true) rfl (aa (z:=true) rfl (rd (aa (z:=0) rfl (aa (z:=cR ((u.x:Int):Rat)) rfl (aa (z:=0) rfl (aa (z:=cR ((v.x:Int):Rat)) rfl (aa (pr hu.1 hv.1) (aa (ad (a:=0) (p:=0) (by decide) b1 (by decide) (by decide)) (aa (z:=I 1) rfl ?_)))))))))
  rw[z1]
 ·exact aa (z:=.bool true) rfl (aa (z:=true) rfl (rd (aa (z:=1) rfl (aa (z:=cR ((u.y:Int):Rat)) rfl (aa (z:=1) rfl (aa (z:=cR ((v.y:Int):Rat)) rfl (aa (pr hu.2.1 hv.2.1) (aa (ad b1 b2 (by decide) (by decide)) (aa (z:=I 2) rfl rfl)))))))))
 ·exact aa (z:=.bool true) rfl (aa (z:=true) rfl (rd (aa (z:=2) rfl (aa (z:=cR ((u.z:Int):Rat)) rfl (aa (z:=2) rfl (aa (z:=cR ((v.z:Int):Rat)) rfl (aa (pr hu.2.2 hv.2.2) (aa (ad s2 b3 (by decide) (by decide)) (aa (z:=I 3) rfl rfl)))))))))
 ·exact aa (z:=.bool false) rfl (aa (z:=false) rfl rfl)
theorem MR(n:Nat){u v:V}(hu:bd 549755813888 u)(hv:bd MV v):cA (n+1034) 72 [aj u,n9 (RV.of v)]=some (cR ((V.dot u v:Int):Rat)):=by
 rw[Oi];unfold Ip
 simp only[bd,show MV=262144 from rfl] at hu hv
 have p:∀ {a:Int},a.natAbs<=549755813888->a.natAbs<=2^100:=fun h=>Nat.le_trans h (by decide)
 exact aa (Ly n (by simp only[inR];omega) (by simp only[inR];omega) (by simp only[inR];omega)) (aa (Lf n ⟨p (by omega),p (by omega),p (by omega)⟩ ⟨p (by omega),p (by omega),p (by omega)⟩) rfl)
theorem N0(n:Nat)(v:V):cA (n+1) 71 [n9 (RV.of v)]=some (.bool false):=by
 rw[M1];unfold Ig
 exact aa (z:=.bool false) rfl (aa (z:=false) rfl (aa (z:=false) rfl (aa (z:=false) rfl (aa (z:=false) rfl rfl))))
theorem Mv(n:Nat){l:List V}{L:List (V×Int)}{v:V}(hv:bd MV v)(hL:L.length<=2000000)(hb:∀ q∈L,bd 549755813888 q.1/\inR q.2/\V.dot q.1 v<=q.2)(h45:cA (n+1034) 45 [bA l]=some (.sl (L.map bi))) :
  ∃ r,cA (n+1035) 30 [lG l,n9 (RV.of v)]=some (I r)/\0<=r:=by
 have h:∃ y,GS bg (cA (n+1034)) (lG l) (n9 (RV.of v))=some y/\∃ r,y=I r/\0<=r:=by
  unfold GS
  have hlen:(L.map bi).length=L.length:=List.length_map ..
  refine mT (N0 (n+1033) v) (mT (z:=false) rfl ?_)
  rw[if_neg (by decide)]
  refine mT (z:=bA l) rfl (mT h45 (mT (z:=L.map bi) rfl ?_))
  refine Ns (Q:=fun r=>∃ k:Int,r=(1,[I k])/\0<=k) (tx (fun i s=>∃ k:Int,s=[I k,I (i:Int)]/\0<=k/\k<=1) _ L.length 0 (Nat.zero_le _) ⟨1,rfl,by decide,by decide⟩ (fun i hi s hJ=>?_) (fun s hJ=>?_)) ?_
  ·obtain⟨k,rfl,k0,k1⟩:=hJ
   left
   have hg:(L.map bi)[i]?=some (bi L[i]):=by simp[hi]
   obtain⟨q1,q2,q3⟩:=hb L[i] (List.getElem_mem hi)
   generalize L[i]=q at *
   have hd:(V.dot q.1 v).natAbs<=2^60:=by
    have:=uD q1 hv
    have e1:(3:Int)*(549755813888*MV)=432345564227567616:=rfl
    rw[e1] at this
    have e2:(2:Nat)^60=1152921504606846976:=rfl
    omega
   have hc:0<=ba q.2 (V.dot q.1 v)/\ba q.2 (V.dot q.1 v)<=1:=by
    unfold ba
    rw[if_neg (by omega)]
    split<;>decide
   refine⟨[I (if ba q.2 (V.dot q.1 v)<k then ba q.2 (V.dot q.1 v) else k),I ((i+1:Nat):Int)],?_,_,rfl,by split<;>omega,by split<;>omega⟩
   refine aa am (aa ag (aZ (by show((i:Int)<((L.map bi).length:Int));rw[hlen];omega) ?_))
   refine aa (z:=L.map bi) rfl (aa (z:=i) (by rw[hlen];exact aE hi) (aa hg (aa (z:=aj q.1) rfl (aa (MR n q1 hv) (aa (z:=.bool false) rfl (aa (z:=false) rfl ?_))))))
   rw[if_neg (by decide)]
   refine aa (z:=I q.2) rfl (aa (Hr (n+2) q2) (aa (LQ (n+3) (gc q2) (Gz hd)) (aa (z:=I (if ba q.2 (V.dot q.1 v)<k then ba q.2 (V.dot q.1 v) else k)) rfl (aa (bn (a:=i) (b:=1) (by omega)) rfl))))
  ·obtain⟨k,rfl,k0,k1⟩:=hJ
   exact⟨_,aa am (aa ag (aY (by show ¬ ((L.length:Int)<((L.map bi).length:Int));rw[hlen];omega) rfl)),k,rfl,k0⟩
  ·rintro r ⟨k,rfl,k0⟩
   rw[if_neg (show ¬ (1:Nat)=0 by decide)]
   exact⟨_,rfl,k,rfl,k0⟩
 obtain⟨y,h1,r,rfl,h2⟩:=h
 exact⟨r,by rw[MN];exact h1,h2⟩
end Go.Proofs.YtjjjkojfijpeeaaGreat.Sy
end
