/- Part 13 of the proof that HullOfBoxes answers true at every input -/
import Derived.Test.YtjjjkojfijpeeaaGreatBoxes09
import Derived.Test.YtjjjkojfijpeeaaGreatBoxes11
import Derived.Test.YtjjjkojfijpeeaaGreatBoxes12
set_option linter.unusedVariables false
set_option linter.unusedSimpArgs false
set_option linter.unnecessarySimpa false
section
set_option linter.unusedVariables false
namespace Go.Proofs.YtjjjkojfijpeeaaGreat.Sy
open Go Go.Proofs Go.Proofs.YtjjjkojfijpeeaaGreat.Geo
theorem G6(x:Int):D.get (ah x) [2,1]=some (U (dZ (aC x.natAbs) 1)):=du (i:=1) (by decide)
theorem Ed(n:Nat){x:Int}(hx:In x)(h:¬ Wd x):cA (n+3) 124 [ah x]=some (.tup [I 0,.bool false]):=by
 have hW:4611686018427387904<=x.natAbs:=by unfold Wd at h;omega
 rw[Ir]
 unfold Cc
 have l1:=GM x.natAbs
 refine aa (vJ n hx) (aa dc (aa (z:=false) rfl (aa (z:=decide (1073741824<=x.natAbs/4294967296%4294967296)) ?_ (aa ag ?_))))
 ·rw[if_neg (by decide)]
  refine aa (G6 x) ?_
  rw[l1]
  have:D.bin .geq (U (x.natAbs/4294967296%4294967296)) (.int .u32 1073741824)=some (.bool (decide (1073741824<=x.natAbs/4294967296%4294967296))):=by
   simp only[D.bin,if_true];congr 2;rw[decide_eq_decide];omega
  exact aa this rfl
 by_cases h1:1073741824<=x.natAbs/4294967296%4294967296
 ·exact aX h1 rfl
 ·refine ba h1 ?_
  have hbig:18446744073709551616<=x.natAbs:=by omega
  refine br (fun i s=>s=[I (i:Int)]/\2<=i/\∀ k,2<=k->k<i->dZ (aC x.natAbs) k=0) 16 2 (by decide) ⟨rfl,by decide,fun k h1 h2=>by omega⟩ (fun i hi s hJ=>?_) (fun s hJ=>?_)
  ·obtain⟨rfl,h2,hz⟩:=hJ
   have hb:D.bin .lss (I (i:Int)) (D.int .i64 16)=some (.bool true):=by rw[aj,decide_eq_true (by omega)]
   by_cases h0:dZ (aC x.natAbs) i=0
   ·left
    refine⟨[I ((i+1:Nat):Int)],?_,rfl,by omega,fun k k1 k2=>?_⟩
    ·refine aa hb (aa (z:=true) rfl ?_)
     rw[if_pos rfl]
     refine aa (aK hi) (aa (du hi) ?_)
     rw[h0]
     refine aa (z:=false) rfl ?_
     rw[if_neg (by decide)]
     exact aa (aH (aS (i:=i) (by omega))) rfl
    ·by_cases e:k=i
     ·subst e;exact h0
     ·exact hz k k1 (by omega)
   ·right
    refine⟨(0,[I 0,.bool false]),?_,rfl⟩
    refine aa hb (aa (z:=true) rfl ?_)
    rw[if_pos rfl]
    refine aa (aK hi) (aa (du hi) (aa (z:=true) ?_ ?_))
    ·show D.truth (.bool (!(D.beq (U (dZ (aC x.natAbs) i)) (U 0))))=_
     rw[GC,decide_eq_false h0];rfl
    ·rw[if_pos rfl]
  ·exfalso
   obtain⟨_,_,hz⟩:=hJ
   have h3:x.natAbs/18446744073709551616=0:=by
    have hlt:x.natAbs/18446744073709551616<65536^32:=Nat.lt_of_le_of_lt (Nat.div_le_self _ _) hx
    refine qr hlt fun i hi=>?_
    rw[gL,Nat.div_div_eq_div_mul,show(18446744073709551616:Nat)=4294967296^2 from rfl,<-Nat.pow_add]
    by_cases k:i+2<16
    ·have:=hz (i+2) (by omega) k
     rw[gL] at this
     rw[Nat.add_comm 2 i];exact this
    ·have e16:(65536:Nat)^32=4294967296^16:=by rw[show(4294967296:Nat)=65536^2 from rfl,<-Nat.pow_mul]
     have hx':x.natAbs<4294967296^16:=by rw[<-e16];exact hx
     rw[Nat.div_eq_of_lt (Nat.lt_of_lt_of_le hx' (Nat.pow_le_pow_right (by decide) (show 16<=2+i by omega))),Nat.zero_mod]
   omega
theorem MP(n:Nat):cA (n+1) 125 []=some GU:=by
 rw[LI];unfold Fo;rw[fr];rfl
theorem EE(n:Nat){l:List Nat}{neg:Bool}(hd:dl l)(hl:l.length<=1000000):cA (n+2) 81 [.bool neg,.sl (ab l)]=some (eD (mC (sgn neg (aQ l)))):=by
 by_cases hv:aQ l<65536^32
 ·rw[GT n hd hl hv,gG (by unfold In;rw[nw];exact hv)];rfl
 ·have hno:mC (sgn neg (aQ l))=none:=by
   unfold mC;rw[nw,<-sI,if_neg hv]
  rw[hno,M9]
  unfold Ij
  refine aa (xa n hl) ?_
  rw[gb hd]
  have hlen:¬ (aC (aQ l)).length<=32:=fun h=>hv (by
   have:=jz (aV (aQ l))
   rw[am] at this
   exact Nat.lt_of_lt_of_le this (Nat.pow_le_pow_right (by decide) h))
  refine aa (z:=ab (aC (aQ l))) rfl (aa fK (aa ag (aX (by show((ab (aC (aQ l))).length:Int)>32;rw[ae];omega) ?_)))
  exact aa (MP n) rfl
theorem EY(n:Nat){a b:List Nat}(ha:dl a)(hb:dl b)(hla:a.length<=400000)(hle:aQ b<=aQ a):cA (n+2) 126 [.sl (ab a),.sl (ab b)]=some (.sl (ab (aC (aQ a-aQ b)))):=by
 rw[JX]
 unfold Fe
 refine br (fun k s=>∃ (out:List Nat) (c:Nat),s=[.sl (ab out),I (c:Int),I (k:Int)]/\out.length=k/\dl out/\c<=1/\aQ out+vt b k=vt a k+c*65536^k) a.length 0 (Nat.zero_le _) ⟨[],0,rfl,rfl,(by intro d hd;cases hd),by omega,by simp[aQ,vt]⟩ (fun k hk s hJ=>?_) (fun s hJ=>?_)
 ·obtain⟨out,c,rfl,ho,hdo,hc,hv⟩:=hJ
  left
  have h1:=ha.getD k
  have h2:=hb.getD k
  obtain⟨e,f,hef,he,hf⟩:∃ e f:Nat,e+b.getD k 0+c=a.getD k 0+f*65536/\e<65536/\f<=1:=by
   by_cases h:b.getD k 0+c<=a.getD k 0
   ·exact⟨a.getD k 0-(b.getD k 0+c),0,by omega,by omega,by omega⟩
   ·exact⟨a.getD k 0+65536-(b.getD k 0+c),1,by omega,by omega,by omega⟩
  refine⟨[.sl (ab (out++[e])),I (f:Int),I ((k+1:Nat):Int)],?_,out++[e],f,rfl,by simp[ho],hdo.append (fun x hx=>by simp at hx;omega),hf,?_⟩
  ·refine aa (z:=ab a) rfl (aa aj (aa ag (aX (by show(k:Int)<((ab a).length:Int);rw[ae];omega) ?_)))
   refine aa (z:=ab a) rfl (aa (vF hk) (aa (cR hk) (aa (BY n b k) (aa (fi (by simp only[inR];omega)) (aa (fi (by simp only[inR];omega)) ?_)))))
   refine aa (z:=(0,[.sl (ab out),I (f:Int),I (e:Int)])) ?_ ?_
   ·refine aa aj (aa ag ?_)
    by_cases hneg:((a.getD k 0:Nat):Int)-(b.getD k 0:Nat)-(c:Int)<0
    ·refine aX hneg (aa (aH (by simp only[inR];omega)) ?_)
     have e1:(((a.getD k 0:Nat):Int)-(b.getD k 0:Nat)-(c:Int)+65536)=(e:Int):=by omega
     have e2:f=1:=by omega
     rw[e1,e2];rfl
    ·refine ba hneg ?_
     have e1:(((a.getD k 0:Nat):Int)-(b.getD k 0:Nat)-(c:Int))=(e:Int):=by omega
     have e2:f=0:=by omega
     rw[e1,e2];rfl
   ·rw[if_pos (by simp only[g0,D.els,ae,List.length_cons,List.length_nil];omega)]
    refine aa (aH (aS (i:=k) (by omega))) ?_
    show some (Sum.inl [D.sl (ab out++[I (e:Int)]),_,_])=_
    rw[tF];rfl
  ·rw[kn,ho,vt,vt,Nat.pow_succ]
   have e2:aQ [e]=e:=by simp[aQ]
   rw[e2]
   generalize 65536^k=B at *
   have:(e+b.getD k 0+c)*B=(a.getD k 0+f*65536)*B:=by rw[hef]
   rw[Nat.add_mul,Nat.add_mul,Nat.add_mul] at this
   rw[show f*(B*65536)=f*65536*B by rw[Nat.mul_comm B,<-Nat.mul_assoc],Nat.mul_comm B e]
   omega
 ·obtain⟨out,c,rfl,ho,hdo,hc,hv⟩:=hJ
  refine⟨(0,[.sl (ab out)]),aa (z:=ab a) rfl (aa aj (aa ag (ba (by show ¬ ((a.length:Int)<((ab a).length:Int));rw[ae];omega) rfl))),?_⟩
  refine aa (xa n (l:=out) (by omega)) ?_
  rw[j7] at hv
  have hvb:vt b a.length=aQ b:=by
   rcases Nat.le_total b.length a.length with k|k
   ·exact gF k
   ·have hbl:=qL hb b.length
    have hal:=jz ha
    have key:∀ j,aQ b<65536^a.length->vt b (a.length+j)=vt b a.length:=fun j hlt=>by
     induction j with
     | zero=>rfl
     | succ j ih=>
      rw[<-Nat.add_assoc,vt,ih]
      have hz:b.getD (a.length+j) 0=0:=by
       rcases Nat.eq_zero_or_pos (b.getD (a.length+j) 0) with h|h
       ·exact h
       ·exfalso
        have m1:vt b (a.length+j+1)<=aQ b:=by
         rw[<-j7 b]
         rcases Nat.le_total (a.length+j+1) b.length with q|q
         ·obtain⟨m,hm⟩:∃ m,b.length=a.length+j+1+m:=⟨b.length-(a.length+j+1),by omega⟩
          rw[hm]
          clear hm
          induction m with
          | zero=>exact Nat.le_refl _
          | succ m ihm=>exact Nat.le_trans ihm (Nat.le_add_right _ _)
         ·rw[gF q,j7];exact Nat.le_refl _
        rw[vt] at m1
        have m2:65536^a.length<=65536^(a.length+j):=Nat.pow_le_pow_right (by decide) (by omega)
        have m3:1*65536^(a.length+j)<=b.getD (a.length+j) 0*65536^(a.length+j):=Nat.mul_le_mul_right _ h
        omega
      rw[hz];simp
    obtain⟨m,hm⟩:∃ m,b.length=a.length+m:=⟨b.length-a.length,by omega⟩
    have:=key m (Nat.lt_of_le_of_lt hle hal)
    rw[<-hm,j7] at this
    exact this.symm
  have hdl:=jz hdo
  rw[ho] at hdl
  have hal:=jz ha
  have hc0:c=0:=by
   rcases Nat.eq_zero_or_pos c with h|h
   ·exact h
   ·have:1*65536^a.length<=c*65536^a.length:=Nat.mul_le_mul_right _ h
    omega
  subst hc0
  rw[gb hdo]
  have:aQ out=aQ a-aQ b:=by omega
  rw[this]
theorem pW(m:Int)(h:In m):(aC m.natAbs).length<=32:=bx 32 _ h
theorem L1(n:Nat){x y:Int}(hx:In x)(hy:In y):cA (n+4) 59 [ah x,ah y]=some (eD (mC (x+y))):=by
 by_cases hw:Wd x/\Wd y
 ·have hin:In (x+y):=by
   have:Sy.inR (x+y):=by have:=hw.1;have:=hw.2;unfold Wd at *;simp only[Sy.inR];omega
   exact In.of this
  rw[Ow n hw.1 hw.2,gG hin];rfl
 ·rw[Ni]
  unfold IT
  have hws:∀ z:Int,In z->∃ w b,cA (n+3) 124 [ah z]=some (.tup [I w,.bool b])/\(b=true->Wd z):=fun z hz=>by
   by_cases h:Wd z
   ·exact⟨z,true,rL n h,fun _=>h⟩
   ·exact⟨0,false,Ed n hz h,fun e=>by cases e⟩
  obtain⟨w1,b1,h1,k1⟩:=hws x hx
  obtain⟨w2,b2,h2,k2⟩:=hws y hy
  have hb:(b1&&b2)=false:=by
   cases b1<;>cases b2<;>first|rfl|exact absurd ⟨k1 rfl,k2 rfl⟩ hw
  refine aa h1 (aa (z:=I w1) rfl (aa (z:=.bool b1) rfl (aa h2 (aa (z:=I w2) rfl (aa (z:=.bool b2) rfl (aa (z:=b1) rfl (aa (z:=false) (by cases b1<;>cases b2<;>simp at hb<;>rfl) (aa (z:=false) rfl ?_))))))))
  rw[if_neg (by decide)]
  refine aa (vJ (n+1) hx) (aa dc (aa (z:=false) rfl (aa (z:=false) (by rw[if_neg (by decide)];exact aa (vJ (n+1) hy) rfl) (aa (z:=false) rfl ?_))))
  rw[if_neg (by decide)]
  have lx:=pW x hx;have ly:=pW y hy
  refine aa (Am (n+1) hx) (aa (Am (n+1) hy) (aa (dn x) (aa (dn y) (aa (z:=decide (decide (x<0)=decide (y<0))) (by by_cases h1:x<0<;>by_cases h2:y<0<;>simp[h1,h2,D.beq,D.truth]) ?_))))
  by_cases hs:decide (x<0)=decide (y<0)
  ·refine aX hs (aa (dn x) (aa (Ns (n+1) (aV _) (aV _) (by omega) (by omega)) ?_))
   rw[am,am]
   have hlen:(aC (x.natAbs+y.natAbs)).length<=33:=bx 33 _ (by
    have e:(65536:Nat)^33=65536^32*65536:=Nat.pow_succ ..
    rw[e];unfold In at hx hy;omega)
   refine aa (EE (n+1) (aV _) (by omega)) ?_
   rw[am]
   have:sgn (decide (x<0)) (x.natAbs+y.natAbs)=x+y:=by
    unfold sgn;rw[decide_eq_decide] at hs;simp only[decide_eq_true_eq];split<;>omega
   rw[this]
  ·refine ba hs ?_
   have hs':¬ (x<0↔y<0):=fun e=>hs (by rw[decide_eq_decide];exact e)
   have h78:=Nm (n+1) (aV x.natAbs) (aV y.natAbs) (by omega) (by omega)
   rw[am,am] at h78
   refine aa h78 (aa ag ?_)
   by_cases hlt:x.natAbs<y.natAbs
   ·refine aX hlt (aa (dn y) (aa (EY (n+1) (aV _) (aV _) (by omega) (by rw[am,am];omega)) ?_))
    rw[am,am]
    have hlen:(aC (y.natAbs-x.natAbs)).length<=32:=bx 32 _ (by unfold In at hy;omega)
    refine aa (EE (n+1) (aV _) (by omega)) ?_
    rw[am]
    have:sgn (decide (y<0)) (y.natAbs-x.natAbs)=x+y:=by
     unfold sgn;simp only[decide_eq_true_eq];split<;>omega
    rw[this]
   ·refine ba hlt (aa (dn x) (aa (EY (n+1) (aV _) (aV _) (by omega) (by rw[am,am];omega)) ?_))
    rw[am,am]
    have hlen:(aC (x.natAbs-y.natAbs)).length<=32:=bx 32 _ (by unfold In at hx;omega)
    refine aa (EE (n+1) (aV _) (by omega)) ?_
    rw[am]
    have:sgn (decide (x<0)) (x.natAbs-y.natAbs)=x+y:=by
     unfold sgn;simp only[decide_eq_true_eq];split<;>omega
    rw[this]
theorem HF(n:Nat){x y:Int}(hx:In x)(hy:In y):cA (n+4) 89 [ah x,ah y]=some (eD (mC (x*y))):=by
 by_cases hw:Wd x/\Wd y
 ·have hin:In (x*y):=by
   have h1:=hw.1;have h2:=hw.2
   unfold Wd at h1 h2
   unfold In
   rw[Int.natAbs_mul]
   have hxy:x.natAbs*y.natAbs<65536^8:=by
    have e:(65536:Nat)^8=18446744073709551616*18446744073709551616:=by decide
    rw[e];exact Nat.mul_lt_mul'' (by omega) (by omega)
   exact Nat.lt_of_lt_of_le hxy (Nat.pow_le_pow_right (by decide) (by decide))
  rw[NK n hw.1 hw.2,gG hin];rfl
 ·rw[Nh]
  unfold H4
  have hws:∀ z:Int,In z->∃ w b,cA (n+3) 124 [ah z]=some (.tup [I w,.bool b])/\(b=true->Wd z):=fun z hz=>by
   by_cases h:Wd z
   ·exact⟨z,true,rL n h,fun _=>h⟩
   ·exact⟨0,false,Ed n hz h,fun e=>by cases e⟩
  obtain⟨w1,b1,h1,k1⟩:=hws x hx
  obtain⟨w2,b2,h2,k2⟩:=hws y hy
  have hb:(b1&&b2)=false:=by
   cases b1<;>cases b2<;>first|rfl|exact absurd ⟨k1 rfl,k2 rfl⟩ hw
  refine aa h1 (aa (z:=I w1) rfl (aa (z:=.bool b1) rfl (aa h2 (aa (z:=I w2) rfl (aa (z:=.bool b2) rfl (aa (z:=b1) rfl (aa (z:=false) (by cases b1<;>cases b2<;>simp at hb<;>rfl) (aa (z:=false) rfl (aa (z:=false) rfl (aa (z:=false) rfl (aa (z:=false) rfl (aa (z:=false) rfl ?_))))))))))))
  rw[if_neg (by decide)]
  refine aa (vJ (n+1) hx) (aa dc (aa (z:=false) rfl (aa (z:=false) (by rw[if_neg (by decide)];exact aa (vJ (n+1) hy) rfl) (aa (z:=false) rfl ?_))))
  rw[if_neg (by decide)]
  have lx:=pW x hx;have ly:=pW y hy
  refine aa (dn x) (aa (dn y) (aa (Am (n+1) hx) (aa (Am (n+1) hy) (aa (GZ (n+1) (aV _) (aV _) (by omega) (by omega)) ?_))))
  rw[am,am]
  have hlen:(aC (x.natAbs*y.natAbs)).length<=64:=bx 64 _ (by
   have e:(65536:Nat)^64=65536^32*65536^32:=by rw[<-Nat.pow_add]
   rw[e];exact Nat.mul_lt_mul'' hx hy)
  have hb':(!(D.beq (.bool (decide (x<0))) (.bool (decide (y<0)))))=!(decide (decide (x<0)=decide (y<0))):=by
   by_cases h1:x<0<;>by_cases h2:y<0<;>simp[h1,h2,D.beq]
  rw[hb']
  refine aa (EE (n+1) (aV _) (by omega)) ?_
  rw[am,u0]
theorem Pe(n:Nat){x:Int}(hx:In x):cA (n+3) 86 [ah x]=some (ah (-x)):=by
 rw[Ou]
 unfold Jk
 have lx:=pW x hx
 refine aa (vJ n hx) (aa dc (aa (z:=false) rfl ?_))
 rw[if_neg (by decide)]
 refine aa (dn x) (aa dc (aa (Am n hx) (aa (GT n (aV _) (by omega) (by rw[am];exact hx)) ?_)))
 rw[am]
 have:sgn (!(decide (x<0))) x.natAbs=-x:=by
  unfold sgn;by_cases h:x<0<;>simp[h]<;>omega
 rw[this]
end Go.Proofs.YtjjjkojfijpeeaaGreat.Sy
end
section
set_option linter.unusedVariables false
namespace Go.Proofs.YtjjjkojfijpeeaaGreat.Sy
open Go Go.Proofs Go.Proofs.YtjjjkojfijpeeaaGreat.Geo
def Fn(l:List Nat)(k:Int):Nat:=if k<0 then 0 else l.getD k.toNat 0
theorem Cv{l:List Nat}(h:dl l)(k:Int):Fn l k<65536:=by
 unfold Fn
 split
 ·decide
 ·exact h.getD _
theorem Ak(l:List Nat)(k:Nat):Fn l (k:Int)=l.getD k 0:=by
 unfold Fn
 rw[if_neg (by omega),Int.toNat_natCast]
theorem F6(n:Nat)(l:List Nat)(k:Int):cA (n+2) 175 [.sl (ab l),I k]=some (I (Fn l k:Nat)):=by
 rw[MR]
 unfold EF Fn
 refine aa aj (aa ag ?_)
 by_cases h:k<0
 ·refine aX h ?_
  rw[if_pos h];rfl
 ·refine ba h ?_
  rw[if_neg h]
  obtain⟨m,rfl⟩:=Int.eq_ofNat_of_zero_le (show 0<=k by omega)
  exact aa (BY n l m) rfl
def fF(R n:Nat):Nat:=if n=1 then R*65536 else R/65536^(n-2)
theorem m8(m i:Nat):(aC m).getD i 0=m/65536^i%65536:=oz i m
theorem xQ(R:Nat){m:Nat}(hm:1<=m):R/65536^(m-1)=R/65536^m*65536+R/65536^(m-1)%65536:=by
 have e:65536^m=65536^(m-1)*65536:=by
  conv=>lhs;rw[show m=m-1+1 by omega]
  exact Nat.pow_succ ..
 rw[e,<-Nat.div_div_eq_div_mul];omega
theorem Ch{R n:Nat}(hn:1<=n)(hR:R<65536^(n+1)):(aC R).getD n 0*4294967296+(aC R).getD (n-1) 0*65536+Fn (aC R) ((n:Int)-2)=fF R n:=by
 have h1:R/65536^n<65536:=by
  rw[Nat.div_lt_iff_lt_mul (Nat.pow_pos (by decide)),Nat.mul_comm,<-Nat.pow_succ];exact hR
 have e1:=xQ R hn
 rw[m8,m8,Nat.mod_eq_of_lt h1]
 unfold fF Fn
 by_cases hn1:n=1
 ·subst hn1
  rw[if_pos rfl,if_pos (by decide)]
  simp only[Nat.sub_self,Nat.pow_zero,Nat.div_one,Nat.pow_one] at *
  omega
 ·rw[if_neg hn1,if_neg (by omega),show((n:Int)-2).toNat=n-2 by omega,m8]
  have e2:=xQ R (m:=n-1) (by omega)
  rw[show n-1-1=n-2 by omega] at e2
  omega
theorem G4{B n:Nat}(hn:1<=n)(hB:B<65536^n):(aC B).getD (n-1) 0*65536+Fn (aC B) ((n:Int)-2)=fF B n:=by
 have h:=Ch (R:=B) hn (Nat.lt_of_lt_of_le hB (Nat.pow_le_pow_right (by decide) (Nat.le_succ n)))
 rw[m8 B n,Nat.div_eq_of_lt hB,Nat.zero_mod,Nat.zero_mul,Nat.zero_add] at h
 exact h
theorem Di{R B n:Nat}(hB0:0<B)(ht:0<fF B n)(hRB:R<65536*B):R/B<=min 65535 (fF R n/fF B n):=by
 have h1:R/B<=65535:=by
  have:=(Nat.div_lt_iff_lt_mul hB0).2 (show R<65536*B from hRB);omega
 refine Nat.le_min.2 ⟨h1,?_⟩
 rw[Nat.le_div_iff_mul_le ht]
 unfold fF
 by_cases hn:n=1
 ·rw[if_pos hn,if_pos hn,<-Nat.mul_assoc]
  exact Nat.mul_le_mul_right _ (Nat.div_mul_le_self R B)
 ·rw[if_neg hn,if_neg hn]
  have hp:0<65536^(n-2):=Nat.pow_pos (by decide)
  rw[Nat.le_div_iff_mul_le hp,Nat.mul_assoc]
  exact Nat.le_trans (Nat.mul_le_mul_left _ (Nat.div_mul_le_self B _)) (Nat.div_mul_le_self R B)
theorem iS{B:Nat}(hB:0<B):1<=(aC B).length/\B<65536^(aC B).length/\0<fF B (aC B).length:=by
 have h1:1<=(aC B).length:=by
  rcases Nat.eq_zero_or_pos (aC B).length with h|h
  ·have:=List.length_eq_zero_iff.1 h
   have:=rU.1 this;omega
  ·exact h
 have h2:B<65536^(aC B).length:=by
  have:=jz (aV B);rwa [am] at this
 refine⟨h1,h2,?_⟩
 have h3:65536^((aC B).length-1)<=B:=by
  rcases Nat.lt_or_ge B (65536^((aC B).length-1)) with k|k
  ·have:=bx _ B k;omega
  ·exact k
 unfold fF
 split
 ·omega
 ·refine Nat.div_pos (Nat.le_trans (Nat.pow_le_pow_right (by decide) (by omega)) h3) (Nat.pow_pos (by decide))
theorem II(n:Nat){A B:Nat}(hA:A<65536^40)(hB:0<B)(hBl:B<65536^40):cA (n+3) 143 [.sl (ab (aC A)),.sl (ab (aC B))]=some (.tup [.sl (ab (aC (A/B))),.sl (ab (aC (A%B)))]):=by
 rw[La]
 unfold Ew
 obtain⟨n1,n2,n3⟩:=iS hB
 have lA:=bx 40 _ hA
 have lB:=bx 40 _ hBl
 have dB:=aV B
 obtain⟨L,hL⟩:∃ L,(aC B).length=L:=⟨_,rfl⟩
 rw[hL] at n1 n2 n3 lB
 obtain⟨M,hM⟩:∃ M,(aC A).length=M:=⟨_,rfl⟩
 rw[hM] at lA
 have eLen:((ab (aC B)).length:Int)=(L:Int):=by rw[ae,hL]
 have eLenA:((ab (aC A)).length:Int)=(M:Int):=by rw[ae,hM]
 refine aa (z:=ab (aC A)) rfl (aa (z:=M) (by rw[eLenA];exact Ah M) ?_)
 rw[if_pos (by omega)]
 refine aa (z:=ab (aC B)) rfl ?_
 rw[eLen]
 have hb1:(aC B).getD (L-1) 0<65536:=dB.getD _
 have htop:=G4 n1 n2
 refine aa (iD (b:=1) rfl n1 (by omega)) (aa (z:=ab (aC B)) rfl (aa (z:=L-1) (by rw[ae,hL];exact aK (by omega)) (aa (cR (l:=aC B) (i:=L-1) (by omega)) ?_)))
 refine aa (mr (b:=65536) (by omega)) (aa (z:=I ((L:Int)-2)) (fi (by simp only[inR];omega)) (aa (F6 n (aC B) ((L:Int)-2)) ?_))
 have hb2':=Cv dB ((L:Int)-2)
 refine aa (aZ (by omega)) ?_
 rw[htop]
 have htop64:fF B L<4294967296:=by rw[<-htop];omega
 generalize hTB:fF B L=TB at *
 refine aa (z:=ab (aC A)) rfl ?_
 rw[eLenA]
 refine aa (z:=I ((M:Int)-1)) (fi (by simp only[inR];omega)) ?_
 rw[ud]
 have hA0:A/65536^M=0:=by
  have:=jz (aV A);rw[am,hM] at this;exact Nat.div_eq_of_lt this
 refine br (fun t s=>∃ q:List Nat,s=[.sl (ab (aC (A/65536^(M-t)%B))),I ((M:Int)-1-(t:Nat)),.sl (ab q)]/\q.length=M/\dl q/\(∀ i,i<M-t->q.getD i 0=0)/\aQ q=A/65536^(M-t)/B*65536^(M-t)) M 0 (Nat.zero_le _) ⟨List.replicate M 0,?_,by simp,fun x hx=>by rw[List.eq_of_mem_replicate hx];decide,fun i _=>by simp[List.getD,List.getElem?_replicate];split<;>rfl,?_⟩ (fun t ht s hJ=>?_) (fun s hJ=>?_)
 ·rw[Nat.sub_zero,hA0,Nat.zero_mod,bU]
  congr 3;omega
 ·have:=lT [] M;rw[List.nil_append] at this
  rw[this,Nat.sub_zero,hA0,Nat.zero_div,Nat.zero_mul];rfl
 ·obtain⟨q,rfl,hql,hqd,hqz,hqv⟩:=hJ
  left
  obtain⟨k,hk⟩:∃ k,k=M-1-t:=⟨_,rfl⟩
  have hkM:k<M:=by omega
  rw[show M-t=k+1 by omega] at hqz hqv ⊢
  rw[show(M:Int)-1-(t:Nat)=(k:Nat) by omega]
  have hrB:A/65536^(k+1)%B<B:=Nat.mod_lt _ hB
  have hAk:A/65536^k=65536*(A/65536^(k+1))+(aC A).getD k 0:=by
   rw[m8,Nat.pow_succ,<-Nat.div_div_eq_div_mul];omega
  have hdk:(aC A).getD k 0<65536:=(aV A).getD k
  obtain⟨R,hR⟩:∃ R,R=65536*(A/65536^(k+1)%B)+(aC A).getD k 0:=⟨_,rfl⟩
  have hRB:R<65536*B:=by
   have:65536*(A/65536^(k+1)%B+1)<=65536*B:=Nat.mul_le_mul_left _ hrB
   omega
  have hRq:A/65536^k/B=65536*(A/65536^(k+1)/B)+R/B:=by
   have e:=Nat.div_add_mod (A/65536^(k+1)) B
   have e2:A/65536^k=R+B*(65536*(A/65536^(k+1)/B)):=by
    rw[hAk,hR]
    generalize A/65536^(k+1)=X at *
    have:65536*X=65536*(B*(X/B)+X%B):=by rw[e]
    rw[Nat.mul_add] at this
    have c:B*(65536*(X/B))=65536*(B*(X/B)):=by rw[<-Nat.mul_assoc,Nat.mul_comm B,Nat.mul_assoc]
    omega
   rw[e2,Nat.add_mul_div_left _ _ hB];omega
  have hRm:A/65536^k%B=R%B:=by
   have e:=Nat.div_add_mod (A/65536^(k+1)) B
   have e2:A/65536^k=R+B*(65536*(A/65536^(k+1)/B)):=by
    rw[hAk,hR]
    generalize A/65536^(k+1)=X at *
    have:65536*X=65536*(B*(X/B)+X%B):=by rw[e]
    rw[Nat.mul_add] at this
    have c:B*(65536*(X/B))=65536*(B*(X/B)):=by rw[<-Nat.mul_assoc,Nat.mul_comm B,Nat.mul_assoc]
    omega
   rw[e2,Nat.add_mul_mod_self_left]
  have hlr:(aC (A/65536^(k+1)%B)).length<=40:=bx 40 _ (Nat.lt_trans hrB hBl)
  have hRl:R<65536^(L+1):=by
   rw[Nat.pow_succ,Nat.mul_comm];exact Nat.lt_of_lt_of_le hRB (Nat.mul_le_mul_left _ (Nat.le_of_lt n2))
  have hR41:R<65536^41:=Nat.lt_of_lt_of_le hRl (Nat.pow_le_pow_right (by decide) (by omega))
  have lR:=bx 41 _ hR41
  have dR:=aV R
  obtain⟨q',hq'⟩:∃ q',q'=q.set k (R/B):=⟨_,rfl⟩
  have hRB2:R/B<=65535:=by have:=(Nat.div_lt_iff_lt_mul hB).2 hRB;omega
  refine⟨[.sl (ab (aC (R%B))),I ((k:Int)-1),.sl (ab q')],?_,q',by rw[show M-(t+1)=k by omega,hRm];congr 3;omega,by rw[hq'];simpa using hql,?_,?_,?_⟩
  ·refine aa je (aa ag (aX (by show(k:Int) ≥ 0;omega) ?_))
   refine aa (z:=ab (aC A)) rfl (aa (z:=k) (by rw[ae,hM];exact aK hkM) (aa (cR (l:=aC A) (i:=k) (by omega)) (aa (z:=ab (aC (A/65536^(k+1)%B))) rfl ?_)))
   rw[if_pos (by rw[ae];simp;omega)]
   have hcons:[I (((aC A).getD k 0:Nat):Int)]++ab (aC (A/65536^(k+1)%B))=ab ((aC A).getD k 0::aC (A/65536^(k+1)%B)):=rfl
   rw[hcons]
   have hdl:dl ((aC A).getD k 0::aC (A/65536^(k+1)%B)):=dl.cons hdk (aV _)
   have htr:=xa (n+1) (l:=(aC A).getD k 0::aC (A/65536^(k+1)%B)) (by simp;omega)
   rw[gb hdl,show aQ ((aC A).getD k 0::aC (A/65536^(k+1)%B))=R by rw[aQ,am,hR];omega] at htr
   refine aa htr ?_
   have g1:=dR.getD L;have g2:=dR.getD (L-1)
   have g3:=Cv dR ((L:Int)-2)
   have h3:=Ch n1 hRl
   refine aa (F6 n (aC R) (L:Int)) ?_
   rw[Ak]
   refine aa (mr (b:=4294967296) (by omega)) (aa (iD (b:=1) rfl n1 (by omega)) (aa (F6 n (aC R) ((L-1:Nat):Int)) ?_))
   rw[Ak]
   refine aa (mr (b:=65536) (by omega)) (aa (aZ (by omega)) (aa (z:=I ((L:Int)-2)) (fi (by simp only[inR];omega)) (aa (F6 n (aC R) ((L:Int)-2)) (aa (aZ (by omega)) ?_))))
   rw[h3]
   have hH:fF R L<=9223372036854775807:=by rw[<-h3];omega
   have hge:=Di (R:=R) (n:=L) hB (by rw[hTB];exact n3) hRB
   rw[hTB] at hge
   refine aa (gu (by omega) (by omega)) (aa (z:=I ((min 65535 (fF R L/TB):Nat):Int)) (by rw[show(D.int .i64 65535)=I ((65535:Nat):Int) from rfl,Iz];congr 2;omega) ?_)
   have hd0:min 65535 (fF R L/TB)<=65535:=Nat.min_le_left ..
   generalize min 65535 (fF R L/TB)=d0 at *
   have hpart:∀ d:Nat,d<=65535->cA (n+2) 146 [.sl (ab (aC B)),.sl [I (d:Int)]]=some (.sl (ab (aC (B*d)))):=fun d hd=>by
    have:=GZ n (a:=aC B) (b:=[d]) dB (fun x hx=>by simp at hx;omega) (by omega) (by simp)
    rw[am,show aQ [d]=d by simp[aQ]] at this
    exact this
   refine aa (hpart d0 hd0) ?_
   refine pC (fun d s=>s=[I (d:Int),.sl (ab (aC (B*d))),.sl (ab q)]/\R/B<=d/\d<=65535) d0 _ ⟨rfl,hge,hd0⟩ (fun d s hJ=>?_)
   obtain⟨rfl,k1,k2⟩:=hJ
   have hBd:B*d<65536^41:=by
    have:B*d<=B*65536:=Nat.mul_le_mul_left _ (by omega)
    have e:(65536:Nat)^41=65536^40*65536:=Nat.pow_succ ..
    have:B*65536<65536^40*65536:=Nat.mul_lt_mul_of_pos_right hBl (by decide)
    omega
   have lBd:=bx 41 _ hBd
   have h78:=Nm n dR (aV (B*d)) (by omega) (by omega)
   rw[am,am] at h78
   by_cases hlt:R<B*d
   ·left
    rw[decide_eq_true hlt] at h78
    have hd1:R/B<d:=by rw[Nat.div_lt_iff_lt_mul hB,Nat.mul_comm];exact hlt
    have hd1p:1<=d:=Nat.lt_of_le_of_lt (Nat.zero_le _) hd1
    refine⟨d-1,[I ((d-1:Nat):Int),.sl (ab (aC (B*(d-1)))),.sl (ab q)],by omega,?_,rfl,Nat.le_sub_one_of_lt hd1,by omega⟩
    refine aa h78 (aa (z:=true) rfl ?_)
    rw[if_pos rfl]
    have e:B*d-B=B*(d-1):=by rw[Nat.mul_sub,Nat.mul_one]
    have h126:=EY n (aV (B*d)) dB (by omega) (by rw[am,am];exact Nat.le_mul_of_pos_right _ (by omega))
    rw[am,am,e] at h126
    exact aa (iD (b:=1) rfl (by omega) (by omega)) (aa h126 rfl)
   ·right
    rw[decide_eq_false hlt] at h78
    have hd1:d<=R/B:=by rw[Nat.le_div_iff_mul_le hB,Nat.mul_comm];omega
    have hdq:d=R/B:=by omega
    refine⟨(0,[I (d:Int),.sl (ab (aC (B*d))),.sl (ab q)]),?_,?_⟩
    ·refine aa h78 (aa (z:=false) rfl ?_)
     rw[if_neg (by decide)];rfl
    ·have h126:=EY n dR (aV (B*d)) (by omega) (by rw[am,am];omega)
     have e:R-B*d=R%B:=by rw[hdq];have:=Nat.div_add_mod R B;omega
     rw[am,am,e] at h126
     have hkq:k<q.length:=by omega
     refine aa (vF hkq) (aa (cR hkq) (aa h126 (aa (fi (by simp only[inR];omega)) ?_)))
     show some (Sum.inl [_,_,D.sl (List.set (ab q) k (I (d:Int)))])=_
     rw[oL,hdq,<-hq']
     first|rfl|skip
  ·rw[hq']
   refine GA fun i hi=>?_
   rw[ke _ _ _ _ (by omega)]
   split
   ·omega
   ·exact hqd.getD i
  ·intro i hi
   rw[hq',ke _ _ _ _ (by omega),if_neg (by omega)]
   exact hqz i (by omega)
  ·have e:=nI (l:=q) (j:=k) (v:=R/B) (by omega)
   rw[hqz k (by omega),Nat.mul_zero,Nat.add_zero,<-hq'] at e
   rw[e,hqv,show M-(t+1)=k by omega,hRq,Nat.pow_succ,Nat.add_mul,Nat.mul_comm (R/B),Nat.mul_comm 65536,Nat.mul_assoc,Nat.mul_comm (65536^k) 65536]
 ·obtain⟨q,rfl,hql,hqd,_,hqv⟩:=hJ
  rw[Nat.sub_self,Nat.pow_zero,Nat.div_one,Nat.mul_one] at hqv
  refine⟨(0,[.sl (ab (aC (A%B))),.sl (ab q)]),?_,?_⟩
  ·rw[Nat.sub_self,Nat.pow_zero,Nat.div_one]
   exact aa je (aa ag (ba (by show ¬ ((M:Int)-1-(M:Nat)) ≥ 0;omega) rfl))
  ·have htr:=xa (n+1) (l:=q) (by omega)
   rw[gb hqd,hqv] at htr
   exact aa htr rfl
theorem EB{m:Nat}(h:m<65536^32):m<65536^40:=Nat.lt_of_lt_of_le h (Nat.pow_le_pow_right (by decide) (by decide))
theorem zR(n:Nat){x:Int}(hx:In x):∃ w b,cA (n+3) 124 [ah x]=some (.tup [I w,.bool b])/\(b=true->Wd x):=by
 by_cases h:Wd x
 ·exact⟨x,true,rL n h,fun _=>h⟩
 ·exact⟨0,false,Ed n hx h,fun e=>by cases e⟩
theorem HH(n:Nat){x y:Int}(hx:In x)(hy:In y):cA (n+4) 85 [ah x,ah y]=some (ah (Nat.gcd x.natAbs y.natAbs:Nat)):=by
 by_cases hw:Wd x/\Wd y
 ·exact Ok n hw.1 hw.2
 ·rw[Nw]
  unfold H8
  obtain⟨w1,b1,h1,k1⟩:=zR n hx
  obtain⟨w2,b2,h2,k2⟩:=zR n hy
  have hb:(b1&&b2)=false:=by
   cases b1<;>cases b2<;>first|rfl|exact absurd ⟨k1 rfl,k2 rfl⟩ hw
  refine aa h1 (aa (z:=I w1) rfl (aa (z:=.bool b1) rfl (aa h2 (aa (z:=I w2) rfl (aa (z:=.bool b2) rfl (aa (z:=b1) rfl (aa (z:=false) (by cases b1<;>cases b2<;>simp at hb<;>rfl) (aa (z:=false) rfl ?_))))))))
  rw[if_neg (by decide)]
  refine aa (vJ (n+1) hx) (aa dc (aa (z:=false) rfl (aa (z:=false) (by rw[if_neg (by decide)];exact aa (vJ (n+1) hy) rfl) (aa (z:=false) rfl ?_))))
  rw[if_neg (by decide)]
  refine aa (Am (n+1) hx) (aa (Am (n+1) hy) ?_)
  have hx':x.natAbs<65536^32:=hx
  have hy':y.natAbs<65536^32:=hy
  refine pC (fun m s=>∃ a,s=[.sl (ab (aC a)),.sl (ab (aC m))]/\a<65536^32/\m<65536^32/\Nat.gcd a m=Nat.gcd x.natAbs y.natAbs) y.natAbs _ ⟨x.natAbs,rfl,hx',hy',rfl⟩ (fun m s hJ=>?_)
  obtain⟨a,rfl,ha,hm,hg⟩:=hJ
  by_cases h0:m=0
  ·right
   subst h0
   rw[Nat.gcd_zero_right] at hg
   rw[bU]
   refine⟨(0,[.sl (ab (aC a))]),?_,?_⟩
   ·exact aa (z:=ab []) rfl (aa (z:=.bool false) rfl (aa (z:=false) rfl rfl))
   ·have la:=bx 32 _ ha
    refine aa (GT (n+1) (neg:=false) (aV a) (by omega) (by rw[am];exact ha)) ?_
    rw[am,hg];rfl
  ·left
   have hlt:a%m<m:=Nat.mod_lt _ (by omega)
   refine⟨a%m,[.sl (ab (aC m)),.sl (ab (aC (a%m)))],hlt,?_,m,rfl,hm,Nat.lt_trans hlt hm,by rw[<-hg,Nat.gcd_comm a m,Nat.gcd_rec m a,Nat.gcd_comm]⟩
   have hl:=(iS (B:=m) (by omega)).1
   refine aa (z:=ab (aC m)) rfl (aa fK (aa ag (aX (by show((ab (aC m)).length:Int)>0;rw[ae];omega) ?_)))
   exact aa (II n (EB ha) (by omega) (EB hm)) (aa (z:=.sl (ab (aC (a/m)))) rfl (aa (z:=.sl (ab (aC (a%m)))) rfl rfl))
theorem FB(n:Nat){x y:Int}(hx:In x)(hy:In y)(hy0:y≠0)(hd:y ∣ x):cA (n+4) 87 [ah x,ah y]=some (ah (x/y)):=by
 by_cases hw:Wd x/\Wd y
 ·exact N0 n hw.1 hw.2 hy0 hd
 ·have hin:=DD hx hd
  obtain⟨q,hq⟩:=hd
  have exy:x/y=q:=by rw[hq];exact Int.mul_ediv_cancel_left _ hy0
  rw[exy] at hin ⊢
  rw[Nx]
  unfold H7
  obtain⟨w1,b1,h1,k1⟩:=zR n hx
  obtain⟨w2,b2,h2,k2⟩:=zR n hy
  have hb:(b1&&b2)=false:=by
   cases b1<;>cases b2<;>first|rfl|exact absurd ⟨k1 rfl,k2 rfl⟩ hw
  have hx':x.natAbs<65536^32:=hx
  have hy':y.natAbs<65536^32:=hy
  have hl:=(iS (B:=y.natAbs) (by omega)).1
  refine aa h1 (aa (z:=I w1) rfl (aa (z:=.bool b1) rfl (aa h2 (aa (z:=I w2) rfl (aa (z:=.bool b2) rfl (aa (z:=b1) rfl (aa (z:=false) (by cases b1<;>cases b2<;>simp at hb<;>rfl) (aa (z:=false) rfl (aa (z:=false) rfl (aa (z:=false) rfl ?_))))))))))
  rw[if_neg (by decide)]
  refine aa (vJ (n+1) hx) (aa dc (aa (z:=false) rfl (aa (z:=false) (by rw[if_neg (by decide)];exact aa (vJ (n+1) hy) rfl) (aa (z:=false) rfl (aa (z:=false) ?_ (aa (z:=false) rfl ?_))))))
  ·rw[if_neg (by decide)]
   refine aa (Am (n+1) hy) (aa (z:=ab (aC y.natAbs)) rfl ?_)
   show D.truth (.bool (D.beq (I ((ab (aC y.natAbs)).length:Nat)) (I ((0:Nat):Int))))=_
   rw[ae,eK,decide_eq_false (by omega)];rfl
  rw[if_neg (by decide)]
  have hmod:x.natAbs%y.natAbs=0:=by rw[hq,Int.natAbs_mul];exact Nat.mul_mod_right _ _
  have hqt:x.natAbs/y.natAbs<65536^32:=Nat.lt_of_le_of_lt (Nat.div_le_self _ _) hx'
  have h143:=II n (EB hx') (B:=y.natAbs) (by omega) (EB hy')
  rw[hmod,bU] at h143
  have hb':(!(D.beq (.bool (decide (x<0))) (.bool (decide (y<0)))))=!(decide (decide (x<0)=decide (y<0))):=by
   by_cases h1:x<0<;>by_cases h2:y<0<;>simp[h1,h2,D.beq]
  refine aa (Am (n+1) hx) (aa (Am (n+1) hy) (aa h143 (aa (z:=.sl (ab (aC (x.natAbs/y.natAbs)))) rfl (aa (z:=.sl (ab [])) rfl ?_))))
  refine aa (z:=(0,[.sl (ab (aC (x.natAbs/y.natAbs)))])) ?_ (aa (dn x) (aa (dn y) ?_))
  ·refine aa (dn x) (aa (dn y) ?_)
   rw[hb']
   refine aa (z:=!(decide (decide (x<0)=decide (y<0)))) rfl (aa (z:=false) ?_ (aa (z:=false) rfl rfl))
   cases (!(decide (decide (x<0)=decide (y<0))))<;>rfl
  ·rw[hb']
   have lq:=bx 32 _ hqt
   refine aa (GT (n+1) (aV _) (by omega) (by rw[am];exact hqt)) ?_
   rw[am,Aw hy0 hq]
theorem Nb(n:Nat){x d:Int}(hx:In x)(hd:In d)(hd0:d≠0):cA (n+5) 37 [ah x,ah d]=some (fB (Rat.divInt x d)):=by
 rw[NS]
 unfold JK
 have hbe:∀ a b:Int,D.beq (I a) (.int .i64 b)=decide (a=b):=fun a b=>dN
 have hgp:0<Nat.gcd x.natAbs d.natAbs:=Nat.gcd_pos_of_pos_right _ (by omega)
 have dx:((Nat.gcd x.natAbs d.natAbs:Nat):Int) ∣ x:=Int.ofNat_dvd_left.2 (Nat.gcd_dvd_left _ _)
 have dd:((Nat.gcd x.natAbs d.natAbs:Nat):Int) ∣ d:=Int.ofNat_dvd_left.2 (Nat.gcd_dvd_right _ _)
 have hgle:Nat.gcd x.natAbs d.natAbs<=d.natAbs:=Nat.gcd_le_right _ (by omega)
 have hgin:In (Nat.gcd x.natAbs d.natAbs:Nat):=gw.2 (Nat.lt_of_le_of_lt hgle (bC.1 hd))
 obtain⟨p1,p2⟩:=jN x hd0
 unfold fB
 rw[p1,p2]
 refine aa (vJ (n+2) hx) (aa (z:=.bool false) rfl (aa (z:=false) rfl (aa (z:=false) ?_ (aa (z:=false) rfl (aa (z:=false) ?_ (aa (z:=false) rfl ?_))))))
 ·rw[if_neg (by decide)];exact aa (vJ (n+2) hd) rfl
 ·rw[if_neg (by decide)]
  refine aa (KI (n+1) hd) ?_
  rw[hbe,decide_eq_false (Dw hd0)];rfl
 rw[if_neg (by decide)]
 refine aa (HH n hx hd) ?_
 generalize Nat.gcd x.natAbs d.natAbs=g at *
 refine aa (z:=(0,[ah (if d<0 then -(g:Int) else(g:Int))])) ?_ ?_
 ·refine aa (KI (n+1) hd) (aa aj (aa ag ?_))
  by_cases h:d<0
  ·rw[if_pos h]
   refine aX (by rw[uS h];decide) ?_
   exact aa (Pe (n+1) hgin) rfl
  ·rw[if_neg h]
   exact ba (by rw[lU (by omega)];decide) rfl
 ·have hin2:In (if d<0 then -(g:Int) else(g:Int)):=by
   split
   ·rw[bC,Int.natAbs_neg];exact bC.1 hgin
   ·exact hgin
  have hne:(if d<0 then -(g:Int) else(g:Int))≠0:=by split<;>omega
  have ddx:(if d<0 then -(g:Int) else(g:Int)) ∣ x:=by split<;>first|exact Int.neg_dvd.2 dx|exact dx
  have ddd:(if d<0 then -(g:Int) else(g:Int)) ∣ d:=by split<;>first|exact Int.neg_dvd.2 dd|exact dd
  exact aa (FB n hx hin2 hne ddx) (aa (FB n hd hin2 hne ddd) rfl)
end Go.Proofs.YtjjjkojfijpeeaaGreat.Sy
end
section
set_option linter.unusedVariables false
namespace Go.Proofs.YtjjjkojfijpeeaaGreat.Sy
open Go Go.Proofs Go.Proofs.YtjjjkojfijpeeaaGreat.Geo
theorem ir{x:Int}(h:inR x):In x:=by
 unfold In;have:(65536:Nat)^4<=65536^32:=Nat.pow_le_pow_right (by decide) (by decide)
 have e:(65536:Nat)^4=18446744073709551616:=rfl
 simp only[inR] at h;omega
theorem jX(x:Int)(h:-9223372036854775808<=x/\x<=9223372036854775807:=by decide):inR x:=h
theorem KE(n:Nat):cA (n+4) 133 []=some (ah 1):=by
 rw[Ld];unfold Fh
 exact aa (GS n (jX 1)) rfl
theorem FP(n:Nat)(f:Nat->Int):D.beq (cE n f) (cE n f)=true:=by
 show D.beqs _ _=true
 rw[qT]
 simp
theorem zI(x:Int):D.beq (ah x) (ah x)=true:=by
 rw[bY]
 show(D.beq (.bool false) (.bool false)&&(D.beq (.bool (decide (x<0))) (.bool (decide (x<0)))&&(D.beq (LM x.natAbs) (LM x.natAbs)&&true)))=true
 rw[FP];simp[D.beq]
theorem Nd(n:Nat){q:Rat}(h:JF q):cA (n+5) 88 [fB q]=some (.bool true):=by
 rw[N5];unfold JA
 have hp:(0:Int)<(q.den:Int):=by have:=q.den_pos;omega
 refine aa (z:=ah q.num) rfl (aa (vJ (n+2) h.1) (aa (z:=.bool false) rfl (aa (z:=false) rfl (aa (z:=false) ?_ (aa (z:=false) rfl ?_)))))
 ·rw[if_neg (by decide)]
  exact aa (z:=ah (q.den:Int)) rfl (aa (vJ (n+2) h.2) (aa (z:=.bool false) rfl rfl))
 rw[if_neg (by decide)]
 refine aa (z:=ah (q.den:Int)) rfl (aa (KI (n+1) h.2) (aa (z:=.bool true) (by rw[lU hp];rfl) (aa (z:=true) rfl (aa (z:=true) ?_ rfl))))
 rw[if_pos rfl]
 refine aa (z:=ah q.num) rfl (aa (z:=ah (q.den:Int)) rfl (aa (HH n h.1 h.2) (aa (KE n) ?_)))
 have e:Nat.gcd q.num.natAbs (q.den:Int).natAbs=1:=q.reduced
 rw[e]
 show D.truth (.bool (D.beq (ah 1) (ah 1)))=_
 rw[zI];rfl
theorem E7(n:Nat){x d:Int}(hx:inR x)(hd:inR d)(hd0:d≠0):cA (n+6) 42 [I x,I d]=some (fB (Rat.divInt x d)):=by
 rw[PO];unfold JI
 exact aa (GS (n+2) hx) (aa (GS (n+2) hd) (aa (Nb n (ir hx) (ir hd) hd0) rfl))
theorem BK(x:Int){d:Int}(hd:d≠0):(Rat.divInt x d).num.natAbs<=x.natAbs/\(Rat.divInt x d).den<=d.natAbs:=by
 obtain⟨p1,p2⟩:=jN x hd
 have hgp:0<Nat.gcd x.natAbs d.natAbs:=Nat.gcd_pos_of_pos_right _ (by omega)
 have key:∀ z:Int,(z/(if d<0 then -(Nat.gcd x.natAbs d.natAbs:Int) else(Nat.gcd x.natAbs d.natAbs:Int))).natAbs<=z.natAbs\/¬ ((Nat.gcd x.natAbs d.natAbs:Nat):Int) ∣ z:=by
  intro z
  by_cases hz:((Nat.gcd x.natAbs d.natAbs:Nat):Int) ∣ z
  ·left
   obtain⟨k,rfl⟩:=hz
   generalize Nat.gcd x.natAbs d.natAbs=g at *
   rw[Int.natAbs_mul,Int.natAbs_natCast]
   have:k.natAbs<=g*k.natAbs:=Nat.le_mul_of_pos_left _ hgp
   split
   ·rw[Int.ediv_neg,Int.mul_ediv_cancel_left _ (by omega),Int.natAbs_neg];exact this
   ·rw[Int.mul_ediv_cancel_left _ (by omega)];exact this
  ·exact .inr hz
 constructor
 ·rw[p1]
  rcases key x with h|h
  ·exact h
  ·exact absurd (Int.ofNat_dvd_left.2 (Nat.gcd_dvd_left _ _)) h
 ·have:(Rat.divInt x d).den=((Rat.divInt x d).den:Int).natAbs:=rfl
  rw[this,p2]
  rcases key d with h|h
  ·exact h
  ·exact absurd (Int.ofNat_dvd_left.2 (Nat.gcd_dvd_right _ _)) h
theorem uv(q:Rat):(q.den:Int)≠0:=by have:=q.den_pos;omega
def fitA(x y:Rat):Prop:=x.num.natAbs*y.den+y.num.natAbs*x.den<eI/\x.den*y.den<eI
theorem Pn(n:Nat){x y:Rat}(hx:JF x)(hy:JF y)(hf:fitA x y):cA (n+6) 40 [fB x,fB y]=some (fB (x+y)):=by
 rw[Oh];unfold JB
 obtain⟨f1,f2⟩:=hf
 refine aa (Nd n hx) (aa (z:=.bool false) rfl (aa (z:=false) rfl (aa (z:=false) ?_ (aa (z:=false) rfl ?_))))
 ·rw[if_neg (by decide)]
  exact aa (Nd n hy) (aa (z:=.bool false) rfl rfl)
 rw[if_neg (by decide)]
 obtain⟨g,hg⟩:∃ g,g=Nat.gcd x.den y.den:=⟨_,rfl⟩
 have hxp:=x.den_pos
 have hyp:=y.den_pos
 have g1:g ∣ x.den:=hg ▸ Nat.gcd_dvd_left _ _
 have g2:g ∣ y.den:=hg ▸ Nat.gcd_dvd_right _ _
 have gp:0<g:=by rw[hg];exact Nat.gcd_pos_of_pos_left _ hxp
 obtain⟨a,ha⟩:=g1
 obtain⟨b,hb⟩:=g2
 have gi:In (g:Int):=gw.2 (Nat.lt_of_le_of_lt (Nat.le_of_dvd hxp ⟨a,ha⟩) (gw.1 hx.2))
 have g0:(g:Int)≠0:=by omega
 have ea:(x.den:Int)/(g:Int)=(a:Int):=by rw[ha,Int.natCast_mul];exact Int.mul_ediv_cancel_left _ g0
 have eb:(y.den:Int)/(g:Int)=(b:Int):=by rw[hb,Int.natCast_mul];exact Int.mul_ediv_cancel_left _ g0
 have ha':a<=x.den:=by rw[ha];exact Nat.le_mul_of_pos_left _ gp
 have hb':b<=y.den:=by rw[hb];exact Nat.le_mul_of_pos_left _ gp
 have a0:0<a:=by
            rcases Nat.eq_zero_or_pos a with h|h;· rw[h] at ha;omega
            ·exact h
 have hai:In (a:Int):=gw.2 (Nat.lt_of_le_of_lt ha' (gw.1 hx.2))
 have hbi:In (b:Int):=gw.2 (Nat.lt_of_le_of_lt hb' (gw.1 hy.2))
 have m1:x.num.natAbs*b<=x.num.natAbs*y.den:=Nat.mul_le_mul_left _ hb'
 have m2:y.num.natAbs*a<=y.num.natAbs*x.den:=Nat.mul_le_mul_left _ ha'
 have m3:a*y.den<=x.den*y.den:=Nat.mul_le_mul_right _ ha'
 have i1:In (x.num*b):=bC.2 (by rw[Int.natAbs_mul,Int.natAbs_natCast];omega)
 have i2:In (y.num*a):=bC.2 (by rw[Int.natAbs_mul,Int.natAbs_natCast];omega)
 have i3:In (x.num*b+y.num*a):=bC.2 (by
  have:=Int.natAbs_add_le (x.num*b) (y.num*a)
  rw[Int.natAbs_mul,Int.natAbs_mul,Int.natAbs_natCast,Int.natAbs_natCast] at this;omega)
 have i4:In ((a:Int)*y.den):=bC.2 (by rw[<-Int.natCast_mul,Int.natAbs_natCast];omega)
 have h1:=HH (n+1) hx.2 hy.2
 rw[Int.natAbs_natCast,Int.natAbs_natCast,<-hg] at h1
 have h2:=FB (n+1) hx.2 gi g0 ⟨a,by rw[ha,Int.natCast_mul]⟩
 have h3:=FB (n+1) hy.2 gi g0 ⟨b,by rw[hb,Int.natCast_mul]⟩
 rw[ea] at h2
 rw[eb] at h3
 have h4:=HF (n+1) hx.1 hbi
 have h5:=HF (n+1) hy.1 hai
 rw[gG i1] at h4
 rw[gG i2] at h5
 have h6:=L1 (n+1) i1 i2
 rw[gG i3] at h6
 have h7:=HF (n+1) hai hy.2
 rw[gG i4] at h7
 refine aa (z:=ah (x.den:Int)) rfl (aa (z:=ah (y.den:Int)) rfl (aa (h1) ?_))
 refine aa (z:=ah (x.den:Int)) rfl (aa (h2) (aa (z:=ah (y.den:Int)) rfl (aa (h3) (aa (z:=ah x.num) rfl (aa (h4) (aa (z:=ah y.num) rfl (aa (h5) (aa (h6) (aa (z:=ah (y.den:Int)) rfl (aa (h7) ?_))))))))))
 have hne:(a:Int)*y.den≠0:=by
  have:0<a*y.den:=Nat.mul_pos a0 hyp
  rw[<-Int.natCast_mul];omega
 refine aa (Nb n i3 i4 hne) ?_
 have e:Rat.divInt (x.num*b+y.num*a) ((a:Int)*y.den)=x+y:=by
  conv=>rhs;rw[<-Rat.num_divInt_den x,<-Rat.num_divInt_den y]
  rw[Rat.divInt_add_divInt _ _ (uv x) (uv y),Rat.divInt_eq_divInt_iff hne (by have:=uv x;have:=uv y;exact Int.mul_ne_zero ‹_› ‹_›)]
  have k1:(x.den:Int)=g*a:=by rw[ha,Int.natCast_mul]
  have k2:(y.den:Int)=g*b:=by rw[hb,Int.natCast_mul]
  rw[k1,k2]
  grind
 rw[e]
structure RV where
 x:Rat
 y:Rat
 z:Rat
def RV.of(v:V):RV:=⟨v.x,v.y,v.z⟩
def RV.mul(k:Rat)(v:RV):RV:=⟨k*v.x,k*v.y,k*v.z⟩
end Go.Proofs.YtjjjkojfijpeeaaGreat.Sy
end
section
namespace Go.Proofs.YtjjjkojfijpeeaaGreat.Geo
open V
section
variable{P:Nat->V}{N:Nat}
theorem yS(hl:∀ i j,i<j->j<N->aB (P i) (P j)){n1 n2:V}{d1 d2:Int}(h1:IsF P N n1 d1)(h2:IsF P N n2 d2){a b c:Nat}(a1:a∈aJ P N n1 d1)(b1:b∈aJ P N n1 d1)(c1:c∈aJ P N n1 d1)
  (a2:a∈aJ P N n2 d2) (b2:b∈aJ P N n2 d2) (c2:c∈aJ P N n2 d2) (ht:T n1 (wy P a b) (wy P a c)≠0):n1=n2:=by
 have F1:=h1.flat hl;have F2:=h2.flat hl
 have k1:=dw (F1.pl a a1 b b1) (F1.pl a a1 c c1)
 have k2:=dw (F2.pl a a2 b b2) (F2.pl a a2 c c2)
 have ht':dot n1 (cross (wy P a b) (wy P a c))≠0:=ht
 generalize cross (wy P a b) (wy P a c)=m at k1 k2 ht'
 have hm:m≠zero:=fun e=>ht' (by rw[e];simp[dot,zero])
 have hmm:=aM hm
 have p1:=Ca k1 m;have p2:=Ca k2 m
 have e1:∀ v:V,dot m n1*dot m v=dot m m*dot n1 v:=fun v=>by
  have x1:=congrArg V.x p1;have x2:=congrArg V.y p1;have x3:=congrArg V.z p1
  simp only[smul] at x1 x2 x3
  simp only[dot] at *;grind
 have e2:∀ v:V,dot m n2*dot m v=dot m m*dot n2 v:=fun v=>by
  have x1:=congrArg V.x p2;have x2:=congrArg V.y p2;have x3:=congrArg V.z p2
  simp only[smul] at x1 x2 x3
  simp only[dot] at *;grind
 have cm:∀ u v:V,dot u v=dot v u:=fun u v=>by simp only[dot];grind
 rw[cm] at ht'
 have hB:dot m n2≠0:=fun e=>by
  have:=e2 n2
  rw[e,Int.zero_mul] at this
  have n0:=aO hmm this.symm
  exact F2.nz (lL n0)
 obtain⟨z,hz,hzd⟩:=h1.supp.2
 have w1:dot n1 (wy P a z)<0:=by rw[cr,(ap.1 a1).2];omega
 have w2:dot n2 (wy P a z)<=0:=by rw[cr,(ap.1 a2).2];have:=h2.supp.1 z hz;omega
 have q1:=e1 (wy P a z);have q2:=e2 (wy P a z)
 have r1:dot m n1*dot m (wy P a z)<0:=by rw[q1];exact Int.mul_neg_of_pos_of_neg hmm w1
 have r2:dot m n2*dot m (wy P a z)<=0:=by rw[q2];exact Int.mul_nonpos_of_nonneg_of_nonpos (Int.le_of_lt hmm) w2
 generalize dot m (wy P a z)=t at r1 r2
 have fin:∀ A B:Int,0<A->0<B->smul A (smul (dot m m) n1)=smul B (smul (dot m m) n2)->n1=n2:=fun A B hA hB h=>by
  refine rO h1.nz.2 h2.nz.2 (Int.mul_pos hA hmm) (Int.mul_pos hB hmm) ?_
  have x1:=congrArg V.x h;have x2:=congrArg V.y h;have x3:=congrArg V.z h
  simp only[smul] at x1 x2 x3
  apply V.ext'<;>simp only[smul]<;>grind
 rcases Int.lt_trichotomy (dot m n1) 0 with s|s|s
 ·have ht0:0<t:=by
   rcases Int.lt_or_le 0 t with k|k
   ·exact k
   ·have:=Int.mul_nonneg_of_nonpos_of_nonpos (Int.le_of_lt s) k;omega
  have s2:dot m n2<0:=by
   rcases Int.lt_or_le 0 (dot m n2) with k|k
   ·have:=Int.mul_pos k ht0;omega
   ·omega
  refine fin (-dot m n2) (-dot m n1) (by omega) (by omega) ?_
  rw[<-p1,<-p2]
  apply V.ext'<;>simp only[smul]<;>grind
 ·exact absurd s ht'
 ·have ht0:t<0:=by
   rcases Int.lt_or_le t 0 with k|k
   ·exact k
   ·have:=Int.mul_nonneg (Int.le_of_lt s) k;omega
  have s2:0<dot m n2:=by
   rcases Int.lt_or_le (dot m n2) 0 with k|k
   ·have:=Int.mul_pos_of_neg_of_neg k ht0;omega
   ·omega
  refine fin (dot m n2) (dot m n1) s2 s ?_
  rw[<-p1,<-p2]
  apply V.ext'<;>simp only[smul]<;>grind
theorem uu(hl:∀ i j,i<j->j<N->aB (P i) (P j)){n:V}{d:Int}(h:IsF P N n d){a b:Nat}(ha:a∈aJ P N n d)(h1:Side n P (aJ P N n d) a b)(h2:Side n P (aJ P N n d) b a):False:=by
 obtain⟨c,hc,ht⟩:=h.left hl ha h1
 have:=(h2.all c hc).1
 have e:T n (wy P b a) (wy P b c)=- T n (wy P a b) (wy P a c):=by simp only[T,dot,cross,wy,sub];grind
 omega
theorem vA{α:Type}[DecidableEq α]:∀ {l m:List α},l.Nodup->(∀ x∈l,x∈m)->l.length<=m.length
 | [],m,_,_=>Nat.zero_le _
 | x::l,m,hn,hs=>by
  obtain⟨h1,h2⟩:=List.nodup_cons.1 hn
  have hx:=hs x List.mem_cons_self
  have ih:=vA (l:=l) (m:=m.erase x) h2 fun y hy=>(List.mem_erase_of_ne (fun e:y=x=>h1 (by rw[<-e];exact hy))).2 (hs y (List.mem_cons_of_mem _ hy))
  rw[List.length_erase_of_mem hx] at ih
  have:=List.length_pos_of_mem hx
  simp only[List.length_cons];omega
end
end Go.Proofs.YtjjjkojfijpeeaaGreat.Geo
end
section
namespace Go.Proofs.YtjjjkojfijpeeaaGreat.Geo
open V
section
variable{P:Nat->V}{N:Nat}
theorem kb(k:Int)(v w:V):dot (smul k v) w=k*dot v w:=by simp only[dot,smul];grind
theorem pF{u v:V}(h:cross u v=zero)(f w:V):dot f u*dot v w=dot f v*dot u w:=by
 have:=congrArg (fun z=>dot z w) (Ca h f)
 simpa only[kb] using this
theorem nE(a:Nat):wy P a a=zero:=by apply V.ext'<;>simp[wy,sub,zero]
theorem ku(v:V):dot v zero=0:=by simp[dot,zero]
theorem DT{n0:V}{d0:Int}(h0:IsF P N n0 d0)(a:Nat){m:V}(hm:m≠zero):∃ x,x<N/\dot m (wy P a x)≠0:=by
 apply Classical.byContradiction
 intro hno
 have hz:∀ x,x<N->dot m (wy P a x)=0:=fun x hx=>Classical.byContradiction fun h=>hno ⟨x,hx,h⟩
 obtain⟨i,j,k,hij,hjk,hk,mi,mj,mk,ht⟩:=h0.three
 obtain⟨z,hzN,hzd⟩:=h0.supp.2
 have sh:∀ x,x<N->dot m (wy P i x)=0:=fun x hx=>by
  have e:dot m (wy P i x)=dot m (wy P a x)-dot m (wy P a i):=by simp only[dot,wy,sub];grind
  rw[e,hz x hx,hz i (by omega)];omega
 have hn:∀ x,x∈aJ P N n0 d0->dot n0 (wy P i x)=0:=fun x hx=>by
  rw[cr,(ap.1 hx).2,(ap.1 mi).2];omega
 have c1:=dw (sh j (by omega)) (sh k hk)
 have c2:=dw (hn j mj) (hn k mk)
 have ht':cross (wy P i j) (wy P i k)≠zero:=ht
 generalize cross (wy P i j) (wy P i k)=t at c1 c2 ht'
 have hmm:=aM hm;have htt:=aM ht'
 have hv:=sh z hzN
 have hw:dot n0 (wy P i z)<0:=by rw[cr,(ap.1 mi).2];omega
 generalize wy P i z=v at hv hw
 have e1:=pF c1 m v
 have e2:=pF c2 t v
 rw[hv,Int.mul_zero] at e1
 have tv:=aO hmm e1
 rw[tv,Int.mul_zero] at e2
 have:=Int.mul_neg_of_pos_of_neg htt hw
 omega
def Cb(P:Nat->V)(N:Nat)(k:Nat):Prop:=∃ n d,IsF P N n d/\k∈aJ P N n d/\dF P (aJ P N n d) k
end
end Go.Proofs.YtjjjkojfijpeeaaGreat.Geo
end
section
namespace Go.Proofs.YtjjjkojfijpeeaaGreat.Geo
open V
section
variable{P P':Nat->V}{N N':Nat}
variable(hl:∀ i j,i<j->j<N->aB (P i) (P j))(hl':∀ i j,i<j->j<N'->aB (P' i) (P' j))
 (hsub:∀ k,k<N'->∃ j,j<N/\P j=P' k) (hsup:∀ k,Cb P N k->∃ j,j<N'/\P' j=P k)
include hl hl' hsub hsup
end
section
variable{P P':Nat->V}{N N':Nat}(hl:∀ i j,i<j->j<N->aB (P i) (P j))(hl':∀ i j,i<j->j<N'->aB (P' i) (P' j))
 (hsub:∀ k,k<N'->∃ j,j<N/\P j=P' k/\Cb P N j) (hsup:∀ k,Cb P N k->∃ j,j<N'/\P' j=P k)
include hl hl' hsub hsup
end
end Go.Proofs.YtjjjkojfijpeeaaGreat.Geo
end
section
namespace Go.Proofs.YtjjjkojfijpeeaaGreat.Geo
open V
section
variable{P:Nat->V}{N:Nat}
theorem ye(hl:∀ i j,i<j->j<N->aB (P i) (P j)):∃ h:V,∀ i j,i<j->j<N->0<dot h (wy P i j):=by
 obtain⟨N1,p1,b1⟩:=dI (fun x=>(P x).y) (List.range N)
 obtain⟨N2,p2,b2⟩:=dI (fun x=>(P x).z) (List.range N)
 refine⟨⟨(2*(N1+N2))*(2*(N1+N2))+2*(N1+N2),2*(N1+N2),1⟩,fun i j hij hj=>?_⟩
 have ci:=b1 i (by simp;omega)
 have cj:=b1 j (by simp;omega)
 have di:=b2 i (by simp;omega)
 have dj:=b2 j (by simp;omega)
 have hl:=hl i j hij hj
 simp only[wy,sub,aB,dot] at *
 generalize hX:(P j).x-(P i).x=X at *
 generalize hY:(P j).y-(P i).y=Y at *
 generalize hZ:(P j).z-(P i).z=Z at *
 generalize hN:2*(N1+N2)=K
 have hN0:0<K:=by omega
 have hY1:-K+1<=Y:=by omega
 have hZ1:-K+1<=Z:=by omega
 have m1:K*(-K+1)<=K*Y:=Int.mul_le_mul_of_nonneg_left hY1 (Int.le_of_lt hN0)
 have m2:K*(-K+1)=-(K*K)+K:=by grind
 have hNN:0<K*K:=Int.mul_pos hN0 hN0
 rcases hl with hl|⟨h1,hl|⟨h2,hl⟩⟩
 ·have hX1:1<=X:=by omega
  have m3:(K*K+K)*1<=(K*K+K)*X:=Int.mul_le_mul_of_nonneg_left hX1 (by omega)
  omega
 ·have hX0:X=0:=by omega
  have hY3:1<=Y:=by omega
  have m3:K*1<=K*Y:=Int.mul_le_mul_of_nonneg_left hY3 (by omega)
  subst hX0
  simp only[Int.mul_zero]
  omega
 ·have hX0:X=0:=by omega
  have hY0:Y=0:=by omega
  subst hX0;subst hY0
  simp only[Int.mul_zero]
  omega
theorem uz(h:V)(i j:Nat):dot h (wy P j i)=- dot h (wy P i j):=by simp only[dot,wy,sub];grind
theorem cone{n:V}{on:List Nat}(F:Flat n P on){a v c x:Nat}(ha:a∈on)(hv:v∈on)(hx:x∈on)(s1:Side n P on a v)(s2:Side n P on v c)(hne:a≠c) :
  0<T n (wy P v c) (wy P v a)/\0<=T n (wy P v x) (wy P v a)/\0<=T n (wy P v c) (wy P v x) ∧
  ∀ h,T n (wy P v c) (wy P v a)*dot h (wy P v x)=T n (wy P v x) (wy P v a)*dot h (wy P v c)+T n (wy P v c) (wy P v x)*dot h (wy P v a):=by
 have q1:0<=T n (wy P v x) (wy P v a):=by rw[Hi];exact(s1.all x hx).1
 have q2:=(s2.all x hx).1
 have q3:=(s2.all a ha).1
 refine⟨?_,q1,q2,fun h=>?_⟩
 ·rcases Int.lt_or_eq_of_le q3 with k|k
  ·exact k
  ·exact absurd (dF.ray F hv s2.mem ha (s2.start F hv) (s2.ext F hv) (s1.start F ha) s2.ne (Ne.symm s1.ne) k.symm).symm hne
 ·have p:=vi F.nz h (F.pl v hv x hx) (F.pl v hv c s2.mem) (F.pl v hv a ha)
  have e1:T n (wy P v a) (wy P v x)=- T n (wy P v x) (wy P v a):=wE ..
  have e2:T n (wy P v x) (wy P v c)=- T n (wy P v c) (wy P v x):=wE ..
  rw[e1,e2] at p
  grind
def Up(P:Nat->V)(N:Nat)(n:V)(d:Int)(v:Nat):Prop:=∃ a c,a<v/\v<c/\Ep P N n d a v/\Ep P N n d v c
theorem HP{a b m n:Int}(hb:0<b)(ha:0<a)(h:a*m=b*n)(hn:n<=0):m<=0/\(m=0->n=0):=by
 constructor
 ·have h1:=Int.mul_nonpos_of_nonneg_of_nonpos (Int.le_of_lt hb) hn
  rcases Int.lt_or_le 0 m with k|k
  ·have:=Int.mul_pos ha k;omega
  ·exact k
 ·intro e
  rw[e,Int.mul_zero] at h
  exact aO hb h.symm
theorem gH(hl:∀ i j,i<j->j<N->aB (P i) (P j)){n:V}{d:Int}(hF:IsF P N n d){a v c:Nat}(ma:a∈aJ P N n d)(mv:v∈aJ P N n d)(mc:c∈aJ P N n d)(ht:0<T n (wy P v c) (wy P v a)){x:Nat}(hx:x<N) :
  dot (cross (wy P v c) (wy P v a)) (wy P v x)<=0/\(dot (cross (wy P v c) (wy P v a)) (wy P v x)=0->x∈aJ P N n d):=by
 have F:=hF.flat hl
 have ct:=dw (F.pl v mv c mc) (F.pl v mv a ma)
 have k:=pF ct n (wy P v x)
 have h1:=hF.supp.1 x hx
 have h2:=(ap.1 mv).2
 obtain⟨r1,r2⟩:=HP ht (aM F.nz) k (by rw[cr];omega)
 refine⟨r1,fun e=>ap.2 ⟨hx,?_⟩⟩
 have:=r2 e
 rw[cr] at this;omega
theorem DK(h u1 w1 u2 w2:V):dot h u2*dot (cross u1 w1) w2-dot h w2*dot (cross u1 w1) u2+dot h u1*dot (cross u2 w2) w1-dot h w1*dot (cross u2 w2) u1=0:=by
 simp only[dot,cross];grind
theorem G1(hl:∀ i j,i<j->j<N->aB (P i) (P j)){n1 n2:V}{d1 d2:Int}(h1:IsF P N n1 d1)(h2:IsF P N n2 d2){v:Nat}(u1:Up P N n1 d1 v)(u2:Up P N n2 d2 v):n1=n2:=by
 obtain⟨a1,c1,av1,vc1,⟨ma1,s1⟩,mv1,t1⟩:=u1
 obtain⟨a2,c2,av2,vc2,⟨ma2,s2⟩,mv2,t2⟩:=u2
 have F1:=h1.flat hl;have F2:=h2.flat hl
 obtain⟨h,hh⟩:=ye hl
 have g1:=(cone F1 ma1 mv1 ma1 s1 t1 (by omega)).1
 have g2:=(cone F2 ma2 mv2 ma2 s2 t2 (by omega)).1
 have mc1:=t1.mem;have mc2:=t2.mem
 have ca2:=(ap.1 ma2).1;have cc2:=(ap.1 mc2).1
 have ca1:=(ap.1 ma1).1;have cc1:=(ap.1 mc1).1
 obtain⟨x1,y1⟩:=gH hl h1 ma1 mv1 mc1 g1 ca2
 obtain⟨x2,y2⟩:=gH hl h1 ma1 mv1 mc1 g1 cc2
 obtain⟨x3,y3⟩:=gH hl h2 ma2 mv2 mc2 g2 ca1
 obtain⟨x4,y4⟩:=gH hl h2 ma2 mv2 mc2 g2 cc1
 have hc1:=hh v c1 vc1 cc1;have hc2:=hh v c2 vc2 cc2
 have ha1:=hh a1 v av1 (ap.1 mv1).1;have ha2:=hh a2 v av2 (ap.1 mv1).1
 rw[uz] at ha1 ha2
 have id:=DK h (wy P v c1) (wy P v a1) (wy P v c2) (wy P v a2)
 have z1:=Int.mul_nonpos_of_nonneg_of_nonpos (Int.le_of_lt hc2) x1
 have z2:=Int.mul_nonpos_of_nonneg_of_nonpos (Int.le_of_lt ha2) x2
 have z3:=Int.mul_nonpos_of_nonneg_of_nonpos (Int.le_of_lt hc1) x3
 have z4:=Int.mul_nonpos_of_nonneg_of_nonpos (Int.le_of_lt ha1) x4
 rw[Int.neg_mul] at z2 z4
 have m2a:=y1 (aO hc2 (by omega))
 have m2c:=y2 (aO ha2 (by rw[Int.neg_mul];omega))
 exact yS hl h1 h2 mv1 m2c m2a mv2 mc2 ma2 (fun e=>by
  have c0:=de F1.nz (F1.pl v mv1 c2 m2c) (F1.pl v mv1 a2 m2a) e
  unfold T at g2
  rw[c0] at g2
  simp[dot,zero] at g2)
def dd(h u w:V):V:=cross (cross u w) h
theorem uy(f h u w:V):dot f (dd h u w)=dot h u*dot f w-dot h w*dot f u:=by simp only[dd,dot,cross];grind
theorem IK(h u w:V):dot h (dd h u w)=0:=by simp only[dd,dot,cross];grind
theorem Dd(h m e:V):dot h (cross (cross m h) e)=dot h h*dot m e-dot h m*dot h e:=by simp only[dot,cross];grind
theorem L6(f k h:V):dot f (cross k h)=dot k (cross h f):=by simp only[dot,cross];grind
theorem AY(u v:V):dot u v=dot v u:=by simp only[dot];grind
theorem Cb.front{k:Nat}(hv:Cb P N k):∃ f:V,∀ x,x<N->x≠k->0<dot f (wy P k x):=by
 obtain⟨n,d,hF,hm,g,hg⟩:=hv
 obtain⟨K,hK,hb⟩:=dI (fun x=>dot g (wy P k x)) (List.range N)
 refine⟨add (smul (-K) n) g,fun x hx hxa=>?_⟩
 have e:dot (add (smul (-K) n) g) (wy P k x)=-K*dot n (wy P k x)+dot g (wy P k x):=by simp only[dot,add,smul];grind
 rw[e,cr]
 have h1:=hF.supp.1 x hx
 have h0:=(ap.1 hm).2
 by_cases hxe:dot n (P x)=d
 ·have:=hg x (ap.2 ⟨hx,hxe⟩) hxa
  rw[hxe,h0,Int.sub_self,Int.mul_zero];omega
 ·have h2:=(hb x (by simp[hx])).1
  have h3:K*1<=K*(d-dot n (P x)):=Int.mul_le_mul_of_nonneg_left (by omega) (by omega)
  have h4:-K*(dot n (P x)-d)=K*(d-dot n (P x)):=by rw[Int.neg_mul,<-Int.mul_neg];congr 1;omega
  rw[h0,h4]
  omega
theorem tb(hl:∀ i j,i<j->j<N->aB (P i) (P j)){n:V}{d:Int}(h:IsF P N n d){v:Nat}(hv:v∈aJ P N n d)(ev:dF P (aJ P N n d) v):∃ b,b∈aJ P N n d/\Side n P (aJ P N n d) b v:=by
 obtain⟨l,p1,p2,p3⟩:=h.poly hl
 obtain⟨i,hi,e⟩:=List.getElem_of_mem ((p3 v).2 ⟨hv,ev⟩)
 have ei:l.getD i 0=v:=by simp[List.getD,List.getElem?_eq_getElem hi,e]
 have hj:(i+l.length-1)%l.length<l.length:=Nat.mod_lt _ (by omega)
 have s:=p1.next hj
 have e2:((i+l.length-1)%l.length+1)%l.length=i:=by
  rw[Nat.mod_add_mod,show i+l.length-1+1=i+l.length by omega,Nat.add_mod_right,Nat.mod_eq_of_lt hi]
 rw[e2,ei] at s
 refine⟨_,((p3 _).1 ?_).1,s⟩
 simp[List.getD,List.getElem?_eq_getElem hj]
theorem IC(hl:∀ i j,i<j->j<N->aB (P i) (P j)){n0:V}{d0:Int}(h0:IsF P N n0 d0){v:Nat}(hv:Cb P N v)(v0:0<v)(v1:v+1<N):∃ n d,IsF P N n d/\Up P N n d v:=by
 obtain⟨f,hf⟩:=hv.front
 obtain⟨h,hh⟩:=ye hl
 have hup:∀ x,v<x->x<N->0<dot h (wy P v x):=fun x h1 h2=>hh v x h1 h2
 have hdn:∀ x,x<v->dot h (wy P v x)<0:=fun x h1=>by have:=hh x v h1 (by omega);rw[uz] at this;omega
 have hh0:h≠zero:=fun e=>by have:=hup (v+1) (by omega) v1;rw[e] at this;simp[dot,zero] at this
 have hhp:=aM hh0
 have fpos:∀ c a,v<c->c<N->a<v->0<dot f (dd h (wy P v c) (wy P v a)):=fun c a h1 h2 h3=>by
  rw[uy]
  have q1:=Int.mul_pos (hup c h1 h2) (hf a (by omega) (by omega))
  have q2:=Int.mul_neg_of_neg_of_pos (hdn a h3) (hf c h2 (by omega))
  omega
 obtain⟨y,hy,hfar⟩:=far (n:=sub (smul (dot f h) h) (smul (dot h h) f)) (e:=neg h) (by simp only[dot,sub,smul,neg];grind) (w:=fun k=>dd h (wy P v (k/N)) (wy P v (k%N)))
  ((List.range (N*N)).filter fun k=>decide (v<k/N)&&decide (k%N<v)) (by
   intro e
   have:(v+1)*N+0∈(List.range (N*N)).filter fun k=>decide (v<k/N)&&decide (k%N<v):=by
    rw[List.mem_filter]
    refine⟨List.mem_range.2 ?_,?_⟩
    ·rw[Nat.add_zero];exact Nat.mul_lt_mul_of_pos_right v1 (by omega)
    ·have d1:((v+1)*N+0)/N=v+1:=by rw[Nat.add_zero,Nat.mul_div_cancel _ (by omega)]
     have d2:((v+1)*N+0)%N=0:=by rw[Nat.add_zero,Nat.mul_mod_left]
     rw[d1,d2];simp;omega
   rw[e] at this;simp at this) (fun k hk=>by
   simp only[List.mem_filter,List.mem_range,Bool.and_eq_true,decide_eq_true_eq] at hk
   have hc:k/N<N:=Nat.div_lt_of_lt_mul hk.1
   have:=fpos (k/N) (k%N) hk.2.1 hc hk.2.2
   have e:=IK h (wy P v (k/N)) (wy P v (k%N))
   generalize dd h (wy P v (k/N)) (wy P v (k%N))=D at *
   have e2:dot (sub (smul (dot f h) h) (smul (dot h h) f)) D=dot f h*dot h D-dot h h*dot f D:=by simp only[dot,sub,smul];grind
   rw[e2,e,Int.mul_zero]
   have:=Int.mul_pos hhp this
   omega)
 simp only[List.mem_filter,List.mem_range,Bool.and_eq_true,decide_eq_true_eq] at hy
 obtain⟨hyN,hyc,hya⟩:=hy
 have hcN:y/N<N:=Nat.div_lt_of_lt_mul hyN
 have hfar':∀ c a,v<c->c<N->a<v->dot (cross (wy P v (y/N)) (wy P v (y%N))) (dd h (wy P v c) (wy P v a))<=0:=fun c a h1 h2 h3=>by
  have d1:(c*N+a)/N=c:=by rw[Nat.mul_comm,Nat.mul_add_div (by omega),Nat.div_eq_of_lt (by omega)];omega
  have d2:(c*N+a)%N=a:=by rw[Nat.mul_comm,Nat.mul_add_mod];exact Nat.mod_eq_of_lt (by omega)
  have:=hfar (c*N+a) (by
   rw[List.mem_filter]
   refine⟨List.mem_range.2 ?_,by rw[d1,d2];simp[h1,h3]⟩
   have:(c+1)*N<=N*N:=Nat.mul_le_mul_right _ (by omega)
   rw[Nat.succ_mul] at this
   omega)
  simp only[d1,d2] at this
  have e1:dot (neg h) (cross (dd h (wy P v (y/N)) (wy P v (y%N))) (dd h (wy P v c) (wy P v a)))=- dot h (cross (cross (cross (wy P v (y/N)) (wy P v (y%N))) h) (dd h (wy P v c) (wy P v a))):=by simp only[dd,dot,neg];grind
  rw[e1,Dd,IK,Int.mul_zero] at this
  rcases Int.lt_or_le 0 (dot (cross (wy P v (y/N)) (wy P v (y%N))) (dd h (wy P v c) (wy P v a))) with k|k
  ·have:=Int.mul_pos hhp k;omega
  ·exact k
 generalize hC:y/N=c at *
 generalize hA:y%N=a at *
 have fd:=fpos c a hyc hcN hya
 have m1:dot (cross (wy P v c) (wy P v a)) (wy P v a)=0:=by simp only[dot,cross];grind
 have m2:dot (cross (wy P v c) (wy P v a)) (wy P v c)=0:=by simp only[dot,cross];grind
 have hle:∀ x,x<N->dot (cross (wy P v c) (wy P v a)) (wy P v x)<=0:=fun x hx=>by
  rcases Nat.lt_trichotomy x v with k|k|k
  ·have:=hfar' c x hyc hcN k
   rw[uy,m2,Int.mul_zero,Int.sub_zero] at this
   rcases Int.lt_or_le 0 (dot (cross (wy P v c) (wy P v a)) (wy P v x)) with q|q
   ·have:=Int.mul_pos (hup c hyc hcN) q;omega
   ·exact q
  ·subst k
   have:dot (cross (wy P x c) (wy P x a)) (wy P x x)=0:=by rw[nE,ku]
   omega
  ·have:=hfar' x a k hx hya
   rw[uy,m1,Int.mul_zero,Int.zero_sub] at this
   rcases Int.lt_or_le 0 (dot (cross (wy P v c) (wy P v a)) (wy P v x)) with q|q
   ·have:=Int.mul_neg_of_neg_of_pos (hdn a hya) q;omega
   ·exact q
 have hm0:cross (wy P v c) (wy P v a)≠zero:=fun e=>by
  unfold dd at fd
  rw[e] at fd;simp[dot,cross,zero] at fd
 obtain⟨n',g,hg,hmg,hF⟩:=yi (P:=P) (N:=N) (p:=v) (q:=c) (r:=a) (m:=cross (wy P v c) (wy P v a)) (by omega) hcN (by omega) (by omega) (by omega) (by omega) rfl hle (by
  obtain⟨x,hx,h2⟩:=DT h0 v hm0
  have:=hle x hx
  exact⟨x,hx,by omega⟩)
 have mv:v∈aJ P N n' (dot n' (P v)):=ap.2 ⟨by omega,rfl⟩
 have on_of:∀ x,x<N->dot (cross (wy P v c) (wy P v a)) (wy P v x)=0->x∈aJ P N n' (dot n' (P v)):=fun x hx e=>by
  rw[hmg,kb] at e
  have:=aO hg e
  rw[cr] at this
  exact ap.2 ⟨hx,by omega⟩
 have mc:=on_of c hcN m2
 have ma:=on_of a (by omega) m1
 have F:=hF.flat hl
 have ev:dF P (aJ P N n' (dot n' (P v))) v:=⟨f,fun x hx hne=>hf x (ap.1 hx).1 hne⟩
 obtain⟨b1,_,s1⟩:=lm F mv ev ⟨c,mc,by omega⟩
 obtain⟨b0,mb0,s0⟩:=tb hl hF mv ev
 have mb1:=s1.mem
 have hb:b0≠b1:=fun e=>by subst e;exact uu hl hF mv s1 s0
 have nb0:=s0.ne;have nb1:=s1.ne
 have lb0:=(ap.1 mb0).1;have lb1:=(ap.1 mb1).1
 obtain⟨k1,k2,k3,k4⟩:=cone F mb0 mv ma s0 s1 hb
 obtain⟨_,j2,j3,j4⟩:=cone F mb0 mv mc s0 s1 hb
 have k5:=k4 h;have j5:=j4 h
 refine⟨n',_,hF,b0,b1,?_⟩
 rcases Nat.lt_or_gt_of_ne nb1 with c1|c1<;>rcases Nat.lt_or_gt_of_ne nb0 with c0|c0
 ·
  exfalso
  have e1:=hdn b1 c1;have e0:=hup b0 c0 lb0
  have EH:dot f (dd h (wy P v b1) (wy P v b0))<0:=by
   rw[uy]
   have q1:=Int.mul_neg_of_neg_of_pos e1 (hf b0 lb0 (by omega))
   have q2:=Int.mul_pos e0 (hf b1 lb1 (by omega))
   omega
  unfold dd at EH fd
  rw[L6] at EH fd
  rw[hmg,kb] at fd
  have f1:=lM hg fd
  have ct:=dw (F.pl v mv b1 mb1) (F.pl v mv b0 mb0)
  have p:=pF ct n' (cross h f)
  have q1:=Int.mul_pos (show 0<dot n' (cross (wy P v b1) (wy P v b0)) from k1) f1
  have q2:=Int.mul_neg_of_pos_of_neg (aM F.nz) EH
  omega
 ·
  exfalso
  have e1:=hdn b1 c1;have e0:=hdn b0 c0
  have q1:=Int.mul_nonpos_of_nonneg_of_nonpos j2 (Int.le_of_lt e1)
  have q2:=Int.mul_nonpos_of_nonneg_of_nonpos j3 (Int.le_of_lt e0)
  have q3:=Int.mul_pos k1 (hup c hyc hcN)
  omega
 ·exfalso
  have e1:=hup b1 c1 lb1;have e0:=hup b0 c0 lb0
  have q1:=Int.mul_nonneg k2 (Int.le_of_lt e1)
  have q2:=Int.mul_nonneg k3 (Int.le_of_lt e0)
  have q3:=Int.mul_neg_of_pos_of_neg k1 (hdn a hya)
  omega
 ·exact⟨c0,c1,⟨mb0,s0⟩,mv,s1⟩
end
end Go.Proofs.YtjjjkojfijpeeaaGreat.Geo
end
section
namespace Go.Proofs.YtjjjkojfijpeeaaGreat.Geo
open V
section
variable{P:Nat->V}{N:Nat}
def pZ(l:List Nat):List (Nat×Nat):=(List.range l.length).map fun k=>(l.getD k 0,l.getD ((k+1)%l.length) 0)
theorem nU{l:List Nat}{a b:Nat}:(a,b)∈pZ l↔∃ i,i<l.length/\l.getD i 0=a/\l.getD ((i+1)%l.length) 0=b:=by
 simp only[pZ,List.mem_map,List.mem_range,Prod.mk.injEq]
theorem xL{l:List Nat}(h:l.Nodup):(pZ l).Nodup:=by
 unfold pZ List.Nodup
 rw[List.pairwise_map]
 refine List.Pairwise.imp_of_mem ?_ (List.nodup_range (n:=l.length))
 intro i j hi hj hne e
 have hi:=List.mem_range.1 hi;have hj:=List.mem_range.1 hj
 have e1:=congrArg Prod.fst e
 simp only[List.getD,List.getElem?_eq_getElem hi,List.getElem?_eq_getElem hj,Option.getD_some] at e1
 rcases Nat.lt_or_gt_of_ne hne with c|c
 ·exact List.pairwise_iff_getElem.1 h i j hi hj c e1
 ·exact List.pairwise_iff_getElem.1 h j i hj hi c e1.symm
def jv(L:List (V×Int))(poly:V×Int->List Nat):List (Nat×Nat):=L.flatMap fun q=>pZ (poly q)
section
variable(hl:∀ i j,i<j->j<N->aB (P i) (P j)){L:List (V×Int)}(hL:Facets P N L){poly:V×Int->List Nat}(hp:∀ q∈L,aN P N q.1 q.2 (poly q))
include hl hL hp
theorem yd{q:V×Int}(hq:q∈L):(poly q).Nodup:=by
 obtain⟨l,p1,p2,_⟩:=((hL.mem q).1 hq).poly hl
 have:=aN.eq hl ((hL.mem q).1 hq) (hp q hq) p1
 rw[this];exact p2
theorem nJ{a b:Nat}:(a,b)∈jv L poly↔∃ n d,IsF P N n d/\Ep P N n d a b:=by
 simp only[jv,List.mem_flatMap,nU]
 constructor
 ·rintro⟨q,hq,hi⟩
  exact⟨q.1,q.2,(hL.mem q).1 hq,(aN.dir hl ((hL.mem q).1 hq) (hp q hq)).1 hi⟩
 ·rintro⟨n,d,hF,hd⟩
  have hq:=(hL.mem (n,d)).2 hF
  exact⟨(n,d),hq,(aN.dir hl hF (hp _ hq)).2 hd⟩
theorem qq:(jv L poly).Nodup:=by
 unfold jv List.Nodup
 rw[List.pairwise_flatMap]
 refine⟨fun q hq=>xL (yd hl hL hp hq),?_⟩
 refine List.Pairwise.imp_of_mem ?_ hL.ord
 intro q q' hq hq' hlt x hx y hy e
 subst e
 obtain⟨a,b⟩:=x
 have F:=(hL.mem q).1 hq
 have F':=(hL.mem q').1 hq'
 obtain⟨d1,d2⟩:=(aN.dir hl F (hp q hq)).1 (nU.1 hx)
 obtain⟨d1',d2'⟩:=(aN.dir hl F' (hp q' hq')).1 (nU.1 hy)
 have:=xD hl F F' d1 d1' d2 d2'
 rw[this] at hlt
 exact ff _ hlt
omit hl hL hp in
theorem sK{α:Type}(p:α->Bool):∀ l:List α,l.length=(l.filter p).length+(l.filter fun x=>!p x).length
 | []=>rfl
 | x::l=>by
  have ih:=sK p l
  cases h:p x<;>simp[List.filter_cons,h]<;>omega
def sE(l:List Nat):List Nat:=((dX l).filter fun e=>decide (e.1≠l.getD 0 0)).map Prod.fst
omit hp in
theorem oe{q:V×Int}(hq:q∈L){l:List Nat}(k:aN P N q.1 q.2 l):(∀ x∈aJ P N q.1 q.2,l.getD 0 0<=x)/\l.getD 0 0∈aJ P N q.1 q.2/\dF P (aJ P N q.1 q.2) (l.getD 0 0)/\(∃ x∈aJ P N q.1 q.2,x≠l.getD 0 0):=by
 obtain⟨a,h1,h2⟩:=k
 obtain⟨b,g1,g2,g3,g4,g5⟩:=((hL.mem q).1 hq).head hl
 rw[h1] at g1;cases g1
 obtain⟨l',e⟩:=h2.head
 have e0:l.getD 0 0=a:=by rw[e];rfl
 rw[e0]
 exact⟨g4,g2,g3,g5 a g2⟩
omit hp in
theorem zp{q:V×Int}(hq:q∈L){l:List Nat}(k:aN P N q.1 q.2 l):(dX l).length=1+(sE l).length:=by
 have hF:=(hL.mem q).1 hq
 have F:=hF.flat hl
 obtain⟨h1,h2,h3,h4⟩:=oe hl hL hq k
 obtain⟨l2,p1,p2,_⟩:=hF.poly hl
 have:=aN.eq hl hF k p1
 subst this
 obtain⟨b,_,sb⟩:=lm F h2 h3 h4
 have hb:=h1 b sb.mem
 have hne:=sb.ne
 have one:((dX l).filter fun e=>!decide (e.1≠l.getD 0 0)).length=1:=by
  have nd:((dX l).filter fun e=>!decide (e.1≠l.getD 0 0)).Nodup:=(iV p2).sublist List.filter_sublist
  have mem:∀ e,e∈((dX l).filter fun e=>!decide (e.1≠l.getD 0 0))↔e=(l.getD 0 0,b):=fun e=>by
   obtain⟨x,y⟩:=e
   rw[List.mem_filter,dP,aN.dir hl hF k]
   constructor
   ·rintro⟨⟨_,d1,d2⟩,hx⟩
    have hx:x=l.getD 0 0:=by simpa using hx
    subst hx
    rw[Side.unique F h2 d2 sb]
   ·intro e
    simp only[Prod.mk.injEq] at e
    obtain⟨rfl,rfl⟩:=e
    exact⟨⟨by omega,h2,sb⟩,by simp⟩
  have l1:=vA (m:=[(l.getD 0 0,b)]) nd (fun x hx=>by rw[(mem x).1 hx];exact List.mem_cons_self)
  have l2:=List.length_pos_of_mem ((mem _).2 rfl)
  simp only[List.length_singleton] at l1
  omega
 have tot:=sK (fun e:Nat×Nat=>decide (e.1≠l.getD 0 0)) (dX l)
 unfold sE
 rw[List.length_map]
 omega
omit hp in
theorem nl{q:V×Int}(hq:q∈L){l:List Nat}(k:aN P N q.1 q.2 l){v:Nat}:v∈sE l↔Up P N q.1 q.2 v:=by
 have hF:=(hL.mem q).1 hq
 have F:=hF.flat hl
 obtain⟨h1,h2,h3,h4⟩:=oe hl hL hq k
 simp only[sE,List.mem_map,List.mem_filter,decide_eq_true_eq]
 constructor
 ·rintro⟨⟨x,c⟩,⟨he,hne⟩,rfl⟩
  obtain⟨hlt,hd⟩:=dP.1 he
  obtain⟨mv,sc⟩:=(aN.dir hl hF k).1 hd
  obtain⟨a,ma,sa⟩:=tb hl hF mv (sc.start F mv)
  refine⟨a,c,?_,hlt,⟨ma,sa⟩,mv,sc⟩
  obtain⟨h,hh⟩:=ye hl
  have hx:=h1 x mv
  have hac:a≠c:=fun e=>by subst e;exact uu hl hF mv sc sa
  obtain⟨k1,k2,k3,k4⟩:=cone F ma mv h2 sa sc hac
  have k5:=k4 h
  have nva:=sa.ne
  simp only at hne
  rcases Nat.lt_or_ge a x with q|q
  ·exact q
  ·exfalso
   have e1:=hh x a (by omega) (ap.1 ma).1
   have e2:=hh x c hlt (ap.1 sc.mem).1
   have e3:=hh (l.getD 0 0) x (by omega) (ap.1 mv).1
   rw[uz] at e3
   have q1:=Int.mul_nonneg k2 (Int.le_of_lt e2)
   have q2:=Int.mul_nonneg k3 (Int.le_of_lt e1)
   have q3:=Int.mul_neg_of_pos_of_neg k1 (show dot h (wy P x (l.getD 0 0))<0 by omega)
   omega
 ·rintro⟨a,c,hav,hvc,d1,d2⟩
  refine⟨(v,c),⟨dP.2 ⟨hvc,(aN.dir hl hF k).2 d2⟩,?_⟩,rfl⟩
  have:=h1 a d1.1
  simp only;omega
omit hp in
theorem ze{q:V×Int}(hq:q∈L){l:List Nat}(k:aN P N q.1 q.2 l):(sE l).Nodup:=by
 have hF:=(hL.mem q).1 hq
 obtain⟨l2,p1,p2,_⟩:=hF.poly hl
 have:=aN.eq hl hF k p1
 subst this
 unfold sE List.Nodup
 rw[List.pairwise_map]
 refine List.Pairwise.imp_of_mem ?_ ((iV p2).sublist (List.filter_sublist (p:=fun e:Nat×Nat=>decide (e.1≠l.getD 0 0))))
 intro x y hx hy hne e
 apply hne
 obtain⟨x1,x2⟩:=x
 obtain⟨y1,y2⟩:=y
 simp only at e
 subst e
 have dx:=(aN.dir hl hF k).1 (dP.1 (List.mem_filter.1 hx).1).2
 have dy:=(aN.dir hl hF k).1 (dP.1 (List.mem_filter.1 hy).1).2
 rw[Side.unique (hF.flat hl) dx.1 dx.2 dy.2]
theorem wi:∀ M:List (V×Int),(∀ q∈M,q∈L)->(cp M poly).length=M.length+(M.flatMap fun q=>sE (poly q)).length
 | [],_=>rfl
 | q::M,h=>by
  have ih:=wi M fun x hx=>h x (List.mem_cons_of_mem _ hx)
  have hq:=h q List.mem_cons_self
  have e:=zp hl hL hq (hp q hq)
  unfold cp at *
  rw[List.flatMap_cons,List.flatMap_cons,List.length_append,List.length_append,List.length_cons,ih,e]
  omega
theorem Iu(hne:L≠[])(hv:∀ k,k<N->Cb P N k):N+L.length=(cp L poly).length+2:=by
 rw[wi hl hL hp L fun q hq=>hq]
 obtain⟨q0,hq0⟩:=List.exists_mem_of_ne_nil L hne
 have h0:=(hL.mem q0).1 hq0
 have hN:2<=N:=by obtain⟨i,j,k,_,_,_,_⟩:=h0.ex;omega
 have nd:(L.flatMap fun q=>sE (poly q)).Nodup:=by
  unfold List.Nodup
  rw[List.pairwise_flatMap]
  refine⟨fun q hq=>ze hl hL hq (hp q hq),?_⟩
  refine List.Pairwise.imp_of_mem ?_ hL.ord
  intro q q' hq hq' hlt x hx y hy e
  subst e
  have:=G1 hl ((hL.mem q).1 hq) ((hL.mem q').1 hq') ((nl hl hL hq (hp q hq)).1 hx) ((nl hl hL hq' (hp q' hq')).1 hy)
  rw[this] at hlt
  exact ff _ hlt
 have mem:∀ v,v∈(L.flatMap fun q=>sE (poly q))↔0<v/\v+1<N:=fun v=>by
  rw[List.mem_flatMap]
  constructor
  ·rintro⟨q,hq,hx⟩
   obtain⟨a,c,h1,h2,h3,h4⟩:=(nl hl hL hq (hp q hq)).1 hx
   have:=(ap.1 h4.2.mem).1
   omega
  ·rintro⟨h1,h2⟩
   obtain⟨n,d,hF,hU⟩:=IC hl h0 (hv v (by omega)) h1 h2
   have hq:=(hL.mem (n,d)).2 hF
   exact⟨(n,d),hq,(nl hl hL hq (hp _ hq)).2 hU⟩
 have l1:=vA (m:=(List.range (N-2)).map (·+1)) nd (fun v hv=>by
  have:=(mem v).1 hv
  exact List.mem_map.2 ⟨v-1,List.mem_range.2 (by omega),by omega⟩)
 have l2:=vA (l:=(List.range (N-2)).map (·+1)) (m:=L.flatMap fun q=>sE (poly q)) (by
  unfold List.Nodup
  rw[List.pairwise_map]
  exact List.Pairwise.imp (fun{a b} h e=>h (by omega)) (List.nodup_range (n:=N-2))) (fun v hv=>by
  obtain⟨u,hu,rfl⟩:=List.mem_map.1 hv
  have:=List.mem_range.1 hu
  exact(mem _).2 (by omega))
 rw[List.length_map,List.length_range] at l1 l2
 omega
end
end
end Go.Proofs.YtjjjkojfijpeeaaGreat.Geo
end
section
namespace Go.Proofs.YtjjjkojfijpeeaaGreat.Geo
open V
abbrev T3:=V×V×V
def ji(P:Nat->V)(p:List Nat)(m:Nat):List T3:=(List.range m).map fun i=>(P (p.getD 0 0),P (p.getD (i+1) 0),P (p.getD (i+2) 0))
def ar(g:T3->Int):List T3->Int
 | []=>0
 | t::T=>g t+ar g T
theorem kw(g:T3->Int)(S T:List T3):ar g (S++T)=ar g S+ar g T:=by
 induction S with
 | nil=>simp[ar]
 | cons t S ih=>simp only[List.cons_append,ar,ih];omega
theorem nL(g:T3->Int)(S:List T3)(t:T3):ar g (S++[t])=ar g S+g t:=by
 rw[kw];simp[ar]
theorem sO(P:Nat->V)(p:List Nat)(m:Nat):ji P p (m+1)=ji P p m++[(P (p.getD 0 0),P (p.getD (m+1) 0),P (p.getD (m+2) 0))]:=by
 unfold ji;rw[List.range_succ,List.map_append];rfl
def lv(t:T3):Int:=V.dot (V.cross t.1 t.2.1) t.2.2
def da(P:Nat->V)(L:List (V×Int))(poly:V×Int->List Nat):List T3:=L.flatMap fun q=>ji P (poly q) ((poly q).length-2)
theorem io(f g:T3->Int)(T:List T3):ar (fun t=>f t+g t) T=ar f T+ar g T:=by
 induction T with
 | nil=>simp[ar]
 | cons t T ih=>simp only[ar,ih];omega
theorem mL(k:Int)(f:T3->Int)(T:List T3):ar (fun t=>k*f t) T=k*ar f T:=by
 induction T with
 | nil=>simp[ar]
 | cons t T ih=>simp only[ar,ih,Int.mul_add]
theorem my{f g:T3->Int}{T:List T3}(h:∀ t∈T,f t=g t):ar f T=ar g T:=by
 induction T with
 | nil=>rfl
 | cons t T ih=>simp only[ar,h t List.mem_cons_self,ih fun x hx=>h x (List.mem_cons_of_mem _ hx)]
theorem qK(f:T3->Int)(h:T3->T3)(T:List T3):ar f (T.map h)=ar (fun t=>f (h t)) T:=by
 induction T with
 | nil=>rfl
 | cons t T ih=>simp only[List.map_cons,ar,ih]
def fY(g:Nat×Nat->Int):List (Nat×Nat)->Int
 | []=>0
 | e::S=>g e+fY g S
theorem j9(g:Nat×Nat->Int)(S S':List (Nat×Nat)):fY g (S++S')=fY g S+fY g S':=by
 induction S with
 | nil=>simp[fY]
 | cons t S ih=>simp only[List.cons_append,fY,ih];omega
theorem A6(g:Nat×Nat->Int){S S':List (Nat×Nat)}(h:S.Perm S'):fY g S=fY g S':=by
 induction h with
 | nil=>rfl
 | cons x _ ih=>simp only[fY,ih]
 | swap x y l=>simp only[fY];omega
 | trans _ _ h1 h2=>exact h1.trans h2
theorem DU(g:Nat×Nat->Int)(h:Nat×Nat->Nat×Nat)(S:List (Nat×Nat)):fY g (S.map h)=fY (fun e=>g (h e)) S:=by
 induction S with
 | nil=>rfl
 | cons t T ih=>simp only[List.map_cons,fY,ih]
theorem C6(g:Nat×Nat->Int)(S:List (Nat×Nat)):fY (fun e=>- g e) S=- fY g S:=by
 induction S with
 | nil=>rfl
 | cons t T ih=>simp only[fY,ih];omega
theorem yM{f g:Nat×Nat->Int}{S:List (Nat×Nat)}(h:∀ e∈S,f e=g e):fY f S=fY g S:=by
 induction S with
 | nil=>rfl
 | cons t T ih=>simp only[fY,h t List.mem_cons_self,ih fun x hx=>h x (List.mem_cons_of_mem _ hx)]
def Ic(e:Nat×Nat):Nat×Nat:=(e.2,e.1)
theorem wF{g:Nat×Nat->Int}(hg:∀ a b,g (b,a)=- g (a,b)){S:List (Nat×Nat)}(hn:S.Nodup)(hs:∀ a b,(a,b)∈S->(b,a)∈S):fY g S=0:=by
 have nd:(S.map Ic).Nodup:=by
  unfold List.Nodup
  rw[List.pairwise_map]
  refine List.Pairwise.imp ?_ hn
  intro a b h e
  obtain⟨a1,a2⟩:=a;obtain⟨b1,b2⟩:=b
  simp only[Ic,Prod.mk.injEq] at e
  exact h (by rw[e.1,e.2])
 have hp:(S.map Ic).Perm S:=(List.perm_ext_iff_of_nodup nd hn).2 fun e=>by
  obtain⟨a,b⟩:=e
  rw[List.mem_map]
  constructor
  ·rintro⟨⟨c,d⟩,h1,h2⟩
   simp only[Ic,Prod.mk.injEq] at h2
   rw[<-h2.1,<-h2.2];exact hs _ _ h1
  ·exact fun h=>⟨(b,a),hs _ _ h,rfl⟩
 have e1:=A6 g hp
 rw[DU,yM (f:=fun e=>g (Ic e)) (g:=fun e=>- g e) (fun e _=>hg e.1 e.2),C6] at e1
 omega
def Ce(g:V->V->Int)(t:T3):Int:=g t.1 t.2.1+g t.2.1 t.2.2+g t.2.2 t.1
theorem Cz{g:V->V->Int}(hg:∀ u v,g v u=- g u v)(P:Nat->V)(p:List Nat)(m:Nat) :
  ar (Ce g) (ji P p m)=fY (fun e=>g (P e.1) (P e.2)) ((List.range (m+1)).map fun i=>(p.getD i 0,p.getD (i+1) 0))+g (P (p.getD (m+1) 0)) (P (p.getD 0 0)):=by
 induction m with
 | zero=>simp[ji,ar,fY];rw[hg (P (p[0]?.getD 0)) (P (p[1]?.getD 0))];omega
 | succ m ih=>
  rw[sO,nL,ih,List.range_succ (n:=m+1),List.map_append,j9]
  simp only[List.map_cons,List.map_nil,fY,Ce]
  rw[hg (P (p.getD 0 0)) (P (p.getD (m+1) 0)),show m+1+1=m+2 from rfl]
  omega
theorem B0{g:V->V->Int}(hg:∀ u v,g v u=- g u v)(P:Nat->V){p:List Nat}(hp:2<=p.length) :
  ar (Ce g) (ji P p (p.length-2))=fY (fun e=>g (P e.1) (P e.2)) (pZ p):=by
 rw[Cz hg]
 unfold pZ
 obtain⟨n,hn⟩:∃ n,p.length=n+2:=⟨p.length-2,by omega⟩
 rw[hn,show n+2-2+1=n+1 by omega,List.range_succ (n:=n+1),List.map_append,j9]
 have e:((List.range (n+1)).map fun i=>(p.getD i 0,p.getD (i+1) 0))=(List.range (n+1)).map fun k=>(p.getD k 0,p.getD ((k+1)%(n+2)) 0):=List.map_congr_left fun i hi=>by
  have:=List.mem_range.1 hi
  rw[Nat.mod_eq_of_lt (by omega)]
 rw[e]
 simp only[List.map_cons,List.map_nil,fY]
 rw[show(n+1+1)%(n+2)=0 from Nat.mod_self _]
 omega
section
variable{P:Nat->V}{N:Nat}(hl:∀ i j,i<j->j<N->aB (P i) (P j)){L:List (V×Int)}(hL:Facets P N L){poly:V×Int->List Nat}(hp:∀ q∈L,aN P N q.1 q.2 (poly q))
include hl hL hp
theorem qz{q:V×Int}(hq:q∈L):3<=(poly q).length:=by
 have hF:=(hL.mem q).1 hq
 have k:=hp q hq
 obtain⟨h1,h2,_⟩:=oe hl hL hq k
 have hpos:0<(poly q).length:=by
  obtain⟨a,_,h⟩:=k
  obtain⟨l',e⟩:=h.head
  rw[e];simp
 have n0:=k.next hpos
 rcases Nat.lt_or_ge 1 (poly q).length with g1|g1
 ·have n1:=k.next g1
  rw[Nat.mod_eq_of_lt g1] at n0
  rcases Nat.lt_or_ge 2 (poly q).length with g2|g2
  ·exact g2
  ·have e:(poly q).length=2:=by omega
   rw[e] at n1
   exact(uu hl hF h2 n0 n1).elim
 ·have e:(poly q).length=1:=by omega
  rw[e] at n0
  exact(n0.ne rfl).elim
theorem ms{g:V->V->Int}(hg:∀ u v,g v u=- g u v):ar (Ce g) (da P L poly)=0:=by
 have key:∀ M:List (V×Int),(∀ q∈M,q∈L)->ar (Ce g) (da P M poly)=fY (fun e=>g (P e.1) (P e.2)) (jv M poly):=by
  intro M
  induction M with
  | nil=>intro _;rfl
  | cons q M ih=>
   intro h
   have hq:=h q List.mem_cons_self
   unfold da jv at ih ⊢
   rw[List.flatMap_cons,List.flatMap_cons,kw,j9,ih fun x hx=>h x (List.mem_cons_of_mem _ hx),B0 hg P (by have:=qz hl hL hp hq;omega)]
 rw[key L fun _ h=>h]
 refine wF (fun a b=>hg _ _) (qq hl hL hp) fun a b h=>?_
 obtain⟨n,d,hF,hd⟩:=(nJ hl hL hp).1 h
 obtain⟨n',d',h1,h2,h3,h4⟩:=yU hl hF hd.1 hd.2
 exact(nJ hl hL hp).2 ⟨n',d',h1,h3,h4⟩
end
end Go.Proofs.YtjjjkojfijpeeaaGreat.Geo
end
section
namespace Go.Proofs.YtjjjkojfijpeeaaGreat.Geo
open V
def cmp(i:Nat)(v:V):Int:=if i=0 then v.x else if i=1 then v.y else v.z
def sm(i:Nat)(t:T3):Int:=cmp i t.1+cmp i t.2.1+cmp i t.2.2
def fV(i:Nat)(t:T3):Int:=lv t*sm i t
def Bb(i k:Nat)(t:T3):Int:=sm i t*sm k t+cmp i t.1*cmp k t.1+cmp i t.2.1*cmp k t.2.1+cmp i t.2.2*cmp k t.2.2
def dD(i k:Nat)(t:T3):Int:=lv t*Bb i k t
def shift(d:V)(t:T3):T3:=(V.add t.1 d,V.add t.2.1 d,V.add t.2.2 d)
def gd(d u v:V):Int:=V.dot d (V.cross u v)
theorem uo(d u v:V):gd d v u=- gd d u v:=by simp only[gd,dot,cross];grind
theorem zX(i:Nat)(u v:V):cmp i (V.add u v)=cmp i u+cmp i v:=by
 unfold cmp V.add;split
 ·rfl
 ·split<;>rfl
theorem yH(i:Nat)(d:V)(t:T3):lv t*cmp i d=gd d t.2.1 t.2.2*cmp i t.1+gd d t.2.2 t.1*cmp i t.2.1+gd d t.1 t.2.1*cmp i t.2.2:=by
 obtain⟨a,b,c⟩:=t
 unfold cmp lv gd
 simp only[dot,cross]
 split
 ·grind
 ·split<;>grind
theorem ol(d:V)(t:T3):lv (shift d t)=lv t+Ce (gd d) t:=by
 obtain⟨a,b,c⟩:=t
 simp only[lv,shift,Ce,gd,dot,cross,V.add]
 grind
theorem rE(i:Nat)(d:V)(t:T3):sm i (shift d t)=sm i t+3*cmp i d:=by
 unfold sm shift;simp only[zX];omega
theorem Bp(i:Nat)(d:V)(t:T3):fV i (shift d t)=fV i t+4*cmp i d*lv t+Ce (fun u v=>gd d u v*(cmp i u+cmp i v+3*cmp i d)) t:=by
 have hC:=yH i d t
 unfold fV
 rw[ol,rE]
 unfold Ce sm
 obtain⟨a,b,c⟩:=t
 simp only at hC ⊢
 generalize lv (a,b,c)=D at *
 generalize gd d a b=z at *
 generalize gd d b c=x at *
 generalize gd d c a=y at *
 generalize cmp i a=ai at *
 generalize cmp i b=bi at *
 generalize cmp i c=ci at *
 generalize cmp i d=di at *
 grind
theorem Es{D x y z ai bi ci ak bk ck di dk:Int}(hi:D*di=x*ai+y*bi+z*ci)(hk:D*dk=x*ak+y*bk+z*ck) :
  (D+(z+x+y))*((ai+bi+ci+3*di)*(ak+bk+ck+3*dk)+(ai+di)*(ak+dk)+(bi+di)*(bk+dk)+(ci+di)*(ck+dk)) =
  D*((ai+bi+ci)*(ak+bk+ck)+ai*ak+bi*bk+ci*ck)+5*di*(D*(ak+bk+ck))+5*dk*(D*(ai+bi+ci))+20*di*dk*D +
  (z*((ai+bi)*(ak+bk)+ai*ak+bi*bk+4*di*(ak+bk)+4*dk*(ai+bi)+12*di*dk)+x*((bi+ci)*(bk+ck)+bi*bk+ci*ck+4*di*(bk+ck)+4*dk*(bi+ci)+12*di*dk)+y*((ci+ai)*(ck+ak)+ci*ck+ai*ak+4*di*(ck+ak)+4*dk*(ci+ai)+12*di*dk)):=by
 have h1:(ak+bk+ck)*(D*di)=(ak+bk+ck)*(x*ai+y*bi+z*ci):=by rw[hi]
 have h2:(ai+bi+ci)*(D*dk)=(ai+bi+ci)*(x*ak+y*bk+z*ck):=by rw[hk]
 have h3:dk*(D*di)=dk*(x*ai+y*bi+z*ci):=by rw[hi]
 have h4:di*(D*dk)=di*(x*ak+y*bk+z*ck):=by rw[hk]
 clear hi hk
 grind
theorem A3(i k:Nat)(d:V)(t:T3):dD i k (shift d t)=dD i k t+5*cmp i d*fV k t+5*cmp k d*fV i t+20*cmp i d*cmp k d*lv t +
  Ce (fun u v=>gd d u v*((cmp i u+cmp i v)*(cmp k u+cmp k v)+cmp i u*cmp k u+cmp i v*cmp k v+4*cmp i d*(cmp k u+cmp k v)+4*cmp k d*(cmp i u+cmp i v)+12*cmp i d*cmp k d)) t:=by
 have hi:=yH i d t
 have hk:=yH k d t
 have e:=Es hi hk
 unfold dD fV
 rw[ol]
 unfold Ce Bb
 rw[rE,rE]
 unfold sm
 simp only[shift,zX]
 exact e
theorem kc(P:Nat->V)(d:V)(L:List (V×Int))(poly:V×Int->List Nat):da (fun k=>V.add (P k) d) L poly=(da P L poly).map (shift d):=by
 unfold da
 rw[List.map_flatMap]
 congr 1
 funext q
 unfold ji
 rw[List.map_map];rfl
section
variable{P:Nat->V}{N:Nat}(hl:∀ i j,i<j->j<N->aB (P i) (P j)){L:List (V×Int)}(hL:Facets P N L){poly:V×Int->List Nat}(hp:∀ q∈L,aN P N q.1 q.2 (poly q))
include hl hL hp
theorem AW(d:V):ar lv (da (fun k=>V.add (P k) d) L poly)=ar lv (da P L poly):=by
 rw[kc,qK,my (fun t _=>ol d t),io lv,ms hl hL hp (fun u v=>uo d u v)]
 omega
theorem Bf(i:Nat)(d:V):ar (fV i) (da (fun k=>V.add (P k) d) L poly)=ar (fV i) (da P L poly)+4*cmp i d*ar lv (da P L poly):=by
 rw[kc,qK,my (fun t _=>Bp i d t),io (fun t=>fV i t+4*cmp i d*lv t),ms hl hL hp (fun u v=>?_),io (fV i),mL]
 ·omega
 ·rw[uo];grind
theorem B7(i k:Nat)(d:V):ar (dD i k) (da (fun k=>V.add (P k) d) L poly)=ar (dD i k) (da P L poly)+5*cmp i d*ar (fV k) (da P L poly)+5*cmp k d*ar (fV i) (da P L poly)+20*cmp i d*cmp k d*ar lv (da P L poly):=by
 rw[kc,qK,my (fun t _=>A3 i k d t),io (fun t=>dD i k t+5*cmp i d*fV k t+5*cmp k d*fV i t+20*cmp i d*cmp k d*lv t),ms hl hL hp (fun u v=>?_),io (fun t=>dD i k t+5*cmp i d*fV k t+5*cmp k d*fV i t),io (fun t=>dD i k t+5*cmp i d*fV k t),io (dD i k),mL,mL,mL]
 ·omega
 ·rw[uo];grind
end
end Go.Proofs.YtjjjkojfijpeeaaGreat.Geo
end
section
set_option linter.unusedVariables false
namespace Go.Proofs.YtjjjkojfijpeeaaGreat.Sy
open Go Go.Proofs Go.Proofs.YtjjjkojfijpeeaaGreat.Geo
abbrev Ad(l:List V)(p:List Nat)(m:Nat):List T3:=ji (pt l) p m
def c9(l:List V)(F:FL):List T3:=F.flatMap fun f=>Ad l f.2 (f.2.length-2)
theorem HM(l:List V)(L:List (V×Int))(poly:V×Int->List Nat):c9 l (L.map fun q=>(q,poly q))=da (pt l) L poly:=by
 unfold c9 da;rw[List.flatMap_map]
theorem qC(l:List V)(p:List Nat)(m:Nat):Ad l p (m+1)=Ad l p m++[(pt l (p.getD 0 0),pt l (p.getD (m+1) 0),pt l (p.getD (m+2) 0))]:=sO ..
theorem qn(l:List V)(p:List Nat):Ad l p 0=[]:=rfl
theorem EM(l:List V)(p:List Nat)(m:Nat):(Ad l p m).length=m:=by simp[Ad,ji]
theorem kV(l:List V){F:FL}{i:Nat}(h:i<F.length):c9 l (F.take (i+1))=c9 l (F.take i)++Ad l F[i].2 (F[i].2.length-2):=by
 unfold c9;rw[List.take_succ_eq_append_getElem h,List.flatMap_append];simp
structure FIn(l:List V)(F:FL):Prop where
 len:F.length<=2000000
 ok:∀ f∈F,3<=f.2.length/\f.2.length<=100/\∀ j,j<f.2.length->f.2.getD j 0<l.length
def uc(T:List T3)(N:Nat):Prop:=T.length<=N/\∀ t∈T,bd MV t.1/\bd MV t.2.1/\bd MV t.2.2
theorem jW{l:List V}(hl:∀ x∈l,bd MV x){k:Nat}(h:k<l.length):bd MV (pt l k):=by
 unfold pt
 rw[List.getD_eq_getElem?_getD,List.getElem?_eq_getElem h]
 exact hl _ (List.getElem_mem h)
theorem uc.append{S T:List T3}{M N:Nat}(h:uc S M)(k:uc T N):uc (S++T) (M+N):=
 ⟨by rw[List.length_append];have:=h.1;have:=k.1;omega,fun t ht=>(List.mem_append.1 ht).elim (h.2 t) (k.2 t)⟩
theorem uc.mono{T:List T3}{M N:Nat}(h:uc T M)(k:M<=N):uc T N:=⟨Nat.le_trans h.1 k,h.2⟩
theorem CO{l:List V}(hl:∀ x∈l,bd MV x){p:List Nat}(hp:∀ j,j<p.length->p.getD j 0<l.length){m:Nat}(hm:m+2<=p.length\/m=0)(hm2:m<=100):uc (Ad l p m) 100:=by
 refine⟨by rw[EM];exact hm2,fun t ht=>?_⟩
 obtain⟨i,hi,rfl⟩:=List.mem_map.1 ht
 have hi:=List.mem_range.1 hi
 exact⟨jW hl (hp _ (by omega)),jW hl (hp _ (by omega)),jW hl (hp _ (by omega))⟩
theorem As{l:List V}(hl:∀ x∈l,bd MV x){F:FL}(h:FIn l F)(i:Nat):uc (c9 l (F.take i)) (100*i):=by
 induction i with
 | zero=>exact⟨by simp[c9],fun t ht=>by simp[c9] at ht⟩
 | succ i ih=>
  by_cases hi:i<F.length
  ·rw[kV l hi]
   obtain⟨k1,k2,k3⟩:=h.ok F[i] (List.getElem_mem hi)
   exact(ih.append (CO hl k3 (by omega) (by omega))).mono (by omega)
  ·rw[List.take_of_length_le (by omega)]
   rw[List.take_of_length_le (by omega)] at ih
   exact ih.mono (by omega)
theorem uR{l:List V}(hl:∀ x∈l,bd MV x){F:FL}(h:FIn l F){i m:Nat}(hi:i<F.length)(hm:m<=F[i].2.length-2):uc (c9 l (F.take i)++Ad l F[i].2 m) 268435456:=by
 obtain⟨k1,k2,k3⟩:=h.ok F[i] (List.getElem_mem hi)
 have:=h.len
 exact((As hl h i).append (CO hl k3 (by omega) (by omega))).mono (by omega)
theorem zo{l:List V}(hl:∀ x∈l,bd MV x){F:FL}(h:FIn l F):uc (c9 l F) 268435456:=by
 have:=As hl h F.length
 rw[List.take_length] at this
 exact this.mono (by have:=h.len;omega)
theorem uQ{g:T3->Int}{T:List T3}{N B:Nat}(h:uc T N)(hg:∀ t,bd MV t.1/\bd MV t.2.1/\bd MV t.2.2->(g t).natAbs<=B):(ar g T).natAbs<=N*B:=by
 have key:∀ T:List T3,(∀ t∈T,bd MV t.1/\bd MV t.2.1/\bd MV t.2.2)->(ar g T).natAbs<=T.length*B:=by
  intro T
  induction T with
  | nil=>intro _;simp[ar]
  | cons t T ih=>
   intro h
   have h1:=ih fun x hx=>h x (List.mem_cons_of_mem _ hx)
   have h2:=hg t (h t List.mem_cons_self)
   have:=Int.natAbs_add_le (g t) (ar g T)
   rw[List.length_cons,Nat.add_mul,Nat.one_mul]
   simp only[ar];omega
 exact Nat.le_trans (key T h.2) (Nat.mul_le_mul_right _ h.1)
theorem oy{t:T3}(h:bd MV t.1/\bd MV t.2.1/\bd MV t.2.2):(lv t).natAbs<=2^57:=by
 have:=Ci (ki h.1 h.2.1) h.2.2
 unfold lv
 have e:(3:Int)*(2*(MV*MV)*MV)=108086391056891904:=rfl
 rw[e] at this
 have e2:(2:Nat)^57=144115188075855872:=rfl
 omega
theorem gr{x:Int}{k:Nat}(hk:k<=511)(h:x.natAbs<=2^k):In x:=by
 obtain⟨m,hm⟩:∃ m,m=32*16:=⟨_,rfl⟩
 exact bC.2 ((rh hm).2 (Nat.lt_of_le_of_lt h (Nat.pow_lt_pow_right (by decide) (by omega))))
theorem dK{a b:Nat}{i j k:Nat}(ha:a<=2^i)(hb:b<=2^j)(h:i+j<=k):a*b<=2^k:=
 Nat.le_trans (Nat.mul_le_mul ha hb) (by rw[<-Nat.pow_add];exact Nat.pow_le_pow_right (by decide) h)
theorem og{T:List T3}(h:uc T 268435456):(ar lv T).natAbs<=2^85:=
 Nat.le_trans (uQ h fun t=>oy) (dK (i:=28) (j:=57) (by decide) (Nat.le_refl _) (by decide))
theorem gU{a b:Int}{k:Nat}(ha:a.natAbs<=2^k)(hb:b.natAbs<=2^k):(a+b).natAbs<=2^(k+1):=by
 have:=Int.natAbs_add_le a b
 rw[Nat.pow_succ];omega
theorem il{a b:Int}{i j k:Nat}(ha:a.natAbs<=2^i)(hb:b.natAbs<=2^j)(h:i+j<=k):(a*b).natAbs<=2^k:=by
 rw[Int.natAbs_mul];exact dK ha hb h
theorem lH{a:Int}{i k:Nat}(ha:a.natAbs<=2^i)(h:i<=k):a.natAbs<=2^k:=Nat.le_trans ha (Nat.pow_le_pow_right (by decide) h)
theorem et{v:V}(h:bd MV v)(i:Nat):(cmp i v).natAbs<=262144:=by
 have e:MV=262144:=rfl
 simp only[bd] at h
 unfold cmp
 split
 ·omega
 ·split<;>omega
theorem tf{t:T3}(h:bd MV t.1/\bd MV t.2.1/\bd MV t.2.2)(i:Nat):(sm i t).natAbs<=786432:=by
 have a:=et h.1 i;have b:=et h.2.1 i;have c:=et h.2.2 i
 unfold sm;omega
theorem AI{t:T3}(h:bd MV t.1/\bd MV t.2.1/\bd MV t.2.2)(i k:Nat):(Bb i k t).natAbs<=1099511627776:=by
 have key:∀ {a b:Int} {m:Nat},a.natAbs<=m->b.natAbs<=m->(a*b).natAbs<=m*m:=fun ha hb=>by rw[Int.natAbs_mul];exact Nat.mul_le_mul ha hb
 have q:=key (tf h i) (tf h k)
 have a:=key (et h.1 i) (et h.1 k);have b:=key (et h.2.1 i) (et h.2.1 k);have c:=key (et h.2.2 i) (et h.2.2 k)
 unfold Bb;omega
theorem Ec(i:Nat){t:T3}(h:bd MV t.1/\bd MV t.2.1/\bd MV t.2.2):(fV i t).natAbs<=2^77:=
 il (oy h) (j:=20) (Nat.le_trans (tf h i) (by decide)) (by decide)
theorem Du(i k:Nat){t:T3}(h:bd MV t.1/\bd MV t.2.1/\bd MV t.2.2):(dD i k t).natAbs<=2^97:=
 il (oy h) (j:=40) (Nat.le_trans (AI h i k) (by decide)) (by decide)
theorem oo(i:Nat){T:List T3}(h:uc T 268435456):(ar (fV i) T).natAbs<=2^105:=
 Nat.le_trans (uQ h fun t=>Ec i) (dK (i:=28) (j:=77) (by decide) (Nat.le_refl _) (by decide))
theorem kR(i k:Nat){T:List T3}(h:uc T 268435456):(ar (dD i k) T).natAbs<=2^125:=
 Nat.le_trans (uQ h fun t=>Du i k) (dK (i:=28) (j:=97) (by decide) (Nat.le_refl _) (by decide))
end Go.Proofs.YtjjjkojfijpeeaaGreat.Sy
end
section
set_option linter.unusedVariables false
namespace Go.Proofs.YtjjjkojfijpeeaaGreat.Sy
open Go Go.Proofs Go.Proofs.YtjjjkojfijpeeaaGreat.Geo
def mA(x:V):List V->List V
 | []=>[x]
 | y::L=>if aB x y\/x=y then x::(y::L).filter (fun z=>decide (z≠x)) else y::mA x L
def mq(l:List V):List V:=l.foldl (fun o x=>mA x o) []
theorem vY(x:V):∀ L:List V,(mA x L).length<=L.length+1
 | []=>by simp[mA]
 | y::L=>by
  have:=vY x L
  unfold mA
  split
  ·rw[List.length_cons];have:=List.length_filter_le (fun z=>decide (z≠x)) (y::L);omega
  ·simp only[List.length_cons];omega
theorem qO{x z:V}:∀ {L:List V},z∈mA x L↔z=x\/z∈L
 | []=>by simp[mA]
 | y::L=>by
  have ih:=qO (x:=x) (z:=z) (L:=L)
  unfold mA
  split
  ·simp only[List.mem_cons,List.mem_filter,decide_eq_true_eq]
   by_cases h:z=x<;>simp[h]
  ·simp only[List.mem_cons,ih]
   constructor
   ·rintro(h|h|h)
    ·exact .inr (.inl h)
    ·exact .inl h
    ·exact .inr (.inr h)
   ·rintro(h|h|h)
    ·exact .inr (.inl h)
    ·exact .inl h
    ·exact .inr (.inr h)
theorem xg{x:V}:∀ {L:List V},L.Pairwise aB->(mA x L).Pairwise aB
 | [],_=>by simp[mA]
 | y::L,h=>by
  obtain⟨h1,h2⟩:=List.pairwise_cons.1 h
  unfold mA
  split
  ·rename_i hxy
   refine List.pairwise_cons.2 ⟨fun z hz=>?_,h.filter _⟩
   obtain⟨hz1,hz2⟩:=List.mem_filter.1 hz
   have hzx:z≠x:=by simpa using hz2
   rcases List.mem_cons.1 hz1 with rfl|hz1
   ·rcases hxy with h|h
    ·exact h
    ·exact absurd h.symm hzx
   ·rcases hxy with h|h
    ·exact iO h (h1 z hz1)
    ·rw[h];exact h1 z hz1
  ·rename_i hxy
   refine List.pairwise_cons.2 ⟨fun z hz=>?_,xg h2⟩
   rcases qO.1 hz with rfl|hz
   ·rcases lr (a:=z) (b:=y) (fun e=>hxy (.inr e)) with k|k
    ·exact absurd (.inl k) hxy
    ·exact k
   ·exact h1 z hz
theorem mQ(l:List V):(mq l).Pairwise aB:=by
 unfold mq
 have:∀ (l o:List V),o.Pairwise aB->(l.foldl (fun o x=>mA x o) o).Pairwise aB:=by
  intro l
  induction l with
  | nil=>intro o h;exact h
  | cons x l ih=>intro o h;exact ih _ (xg h)
 exact this l [] .nil
theorem rV{l:List V}{z:V}:z∈mq l↔z∈l:=by
 unfold mq
 have:∀ (l o:List V),z∈l.foldl (fun o x=>mA x o) o↔z∈l\/z∈o:=by
  intro l
  induction l with
  | nil=>intro o;simp
  | cons x l ih=>
   intro o
   rw[List.foldl_cons,ih,qO,List.mem_cons]
   constructor
   ·rintro(h|h|h)
    ·exact .inl (.inr h)
    ·exact .inl (.inl h)
    ·exact .inr h
   ·rintro((h|h)|h)
    ·exact .inr (.inl h)
    ·exact .inl h
    ·exact .inr (.inr h)
 rw[this];simp
theorem Cg(l:List V):(mq l).length<=l.length:=by
 unfold mq
 have:∀ (l o:List V),(l.foldl (fun o x=>mA x o) o).length<=l.length+o.length:=by
  intro l
  induction l with
  | nil=>intro o;simp
  | cons x l ih=>
   intro o
   have h1:=ih (mA x o)
   have h2:=vY x o
   rw[List.foldl_cons,List.length_cons];omega
 simpa using this l []
theorem HG{l:List V}(h:l.Pairwise aB):HI l:=fun i j hij hj=>by
 have:=List.pairwise_iff_getElem.1 h i j (by omega) hj hij
 simpa [pt,List.getD,hj,show i<l.length by omega] using this
structure FOk(l:List V)(F:FL):Prop where
 ord:F.Pairwise (fun a b=>aB a.1.1 b.1.1)
 ok:∀ f∈F,IsF (pt l) l.length f.1.1 f.1.2/\aN (pt l) l.length f.1.1 f.1.2 f.2
def An(l:List V):List (V×Int):=(List.range l.length).flatMap fun i=>(List.range l.length).flatMap fun j=>(List.range l.length).flatMap fun k=>[(bF (eZ (pt l) i j k),V.dot (bF (eZ (pt l) i j k)) (pt l i)),((bF (eZ (pt l) i j k)).neg,V.dot (bF (eZ (pt l) i j k)).neg (pt l i))]
theorem A1(l:List V)(h:l.length<=100):(An l).length<=2000000:=by
 unfold An
 rw[lX (c:=l.length*(l.length*2)) _ (fun i _=>by rw[lX (c:=l.length*2) _ (fun j _=>by rw[lX (c:=2) _ (fun k _=>rfl),List.length_range]),List.length_range]),List.length_range]
 have a1:l.length*2<=200:=by omega
 have a2:l.length*(l.length*2)<=100*200:=Nat.mul_le_mul h a1
 exact Nat.mul_le_mul h a2
theorem B6{l:List V}{q:V×Int}(h:IsF (pt l) l.length q.1 q.2):q∈An l:=by
 obtain⟨i,j,k,h1,h2,h3,h4,h5,h6⟩:=h.ex
 refine List.mem_flatMap.2 ⟨i,List.mem_range.2 (by omega),List.mem_flatMap.2 ⟨j,List.mem_range.2 (by omega),List.mem_flatMap.2 ⟨k,List.mem_range.2 h3,?_⟩⟩⟩
 obtain⟨a,b⟩:=q
 simp only at h5 h6
 subst h6
 rcases h5 with rfl|rfl<;>simp
theorem FOk.len{l:List V}{F:FL}(h:FOk l F)(hl:l.length<=100):F.length<=2000000:=by
 have nd:(F.map Prod.fst).Nodup:=by
  refine List.pairwise_map.2 (h.ord.imp fun{a b} hab e=>?_)
  rw[e] at hab;exact ff _ hab
 have:=List.Nodup.length_le_of_subset (l₂:=An l) nd fun q hq=>by
  obtain⟨f,hf,rfl⟩:=List.mem_map.1 hq
  exact B6 (h.ok f hf).1
 rw[List.length_map] at this
 exact Nat.le_trans this (A1 l hl)
structure KnF(l:List V)(i j k:Nat)(F:FL):Prop where
 fok:FOk l F
 all:∀ i' j' k',i'<j'->j'<k'->k'<l.length->(i'<i\/i'=i/\(j'<j\/j'=j/\k'<k))->eZ (pt l) i' j' k'≠V.zero->∀ m,(m=bF (eZ (pt l) i' j' k')\/m=(bF (eZ (pt l) i' j' k')).neg)->FI (pt l) l.length m (V.dot m (pt l i'))->(m,V.dot m (pt l i'))∈F.map Prod.fst
theorem KnF.mono{l:List V}{i j k i2 j2 k2:Nat}{F:FL}(h:KnF l i j k F)(hm:∀ i' j' k',i'<j'->j'<k'->k'<l.length->(i'<i2\/i'=i2/\(j'<j2\/j'=j2/\k'<k2))->(i'<i\/i'=i/\(j'<j\/j'=j/\k'<k))):KnF l i2 j2 k2 F:=
 ⟨h.fok,fun i' j' k' h1 h2 h3 h4=>h.all i' j' k' h1 h2 h3 (hm i' j' k' h1 h2 h3 h4)⟩
theorem KnF.facets{l:List V}{F:FL}(h:KnF l l.length 0 0 F):Facets (pt l) l.length (F.map Prod.fst):=by
 refine⟨List.pairwise_map.2 h.fok.ord,fun q=>⟨fun hq=>?_,fun hq=>?_⟩⟩
 ·obtain⟨f,hf,rfl⟩:=List.mem_map.1 hq
  exact(h.fok.ok f hf).1
 ·obtain⟨⟨i,j,k,h1,h2,h3,c1,c2,c3⟩,hs⟩:=hq
  obtain⟨m,d⟩:=q
  simp only at c2 c3 hs
  subst c3
  exact h.all i j k h1 h2 h3 (.inl (by omega)) c1 m c2 hs
end Go.Proofs.YtjjjkojfijpeeaaGreat.Sy
end
section
set_option linter.unusedVariables false
namespace Go.Proofs.YtjjjkojfijpeeaaGreat.Sy
open Go Go.Proofs Go.Proofs.YtjjjkojfijpeeaaGreat.Geo
end Go.Proofs.YtjjjkojfijpeeaaGreat.Sy
end
section
set_option linter.unusedVariables false
namespace Go.Proofs.YtjjjkojfijpeeaaGreat.Sy
open Go Go.Proofs Go.Proofs.YtjjjkojfijpeeaaGreat.Geo
theorem eH(l:List V):(l.map aq).length=l.length:=List.length_map ..
instance decBd (k:Int) (v:V):Decidable (bd k v):=by unfold bd;exact inferInstance
def nj(v:V):Nat->Int
 | 0=>v.x
 | 1=>v.y
 | _=>v.z
theorem Cu(v:V){t:Nat}(h:t<3):D.fld (aq v) t=some (I (nj v t)):=by
 have:t=0\/t=1\/t=2:=by omega
 rcases this with rfl|rfl|rfl<;>rfl
theorem zS{v:V}:bd MV v↔∀ t,t<3->¬ (nj v t>262144)/\¬ (nj v t < -262144):=by
 constructor
 ·intro h t ht
  have:t=0\/t=1\/t=2:=by omega
  simp only[bd,MV] at h
  rcases this with rfl|rfl|rfl<;>simp only[nj]<;>omega
 ·intro h
  have h0:=h 0 (by decide);have h1:=h 1 (by decide);have h2:=h 2 (by decide)
  simp only[nj] at h0 h1 h2
  simp only[bd,MV];omega
def gf(F:FL)(i:Nat):Bool:=F.any fun f=>f.2.any fun x=>decide (x=i)
def gA(S:List V)(F:FL)(k:Nat):List V:=((List.range k).filter (gf F)).map (pt S)
theorem zn(S:List V)(F:FL)(k:Nat):gA S F (k+1)=if gf F k then gA S F k++[pt S k] else gA S F k:=by
 unfold gA
 rw[List.range_succ,List.filter_append]
 by_cases h:gf F k=true<;>simp[h]
theorem Bn(S:List V)(F:FL)(k:Nat):(gA S F k).length<=k:=by
 unfold gA;rw[List.length_map];exact Nat.le_trans (List.length_filter_le _ _) (by simp)
theorem rm{l:List V}(hs:HI l){m:V}{d:Int}(hF:IsF (pt l) l.length m d){p:List Nat}(hp:aN (pt l) l.length m d p):p.Nodup/\p.length<=l.length/\0<p.length/\∀ x∈p,x<l.length:=by
 obtain⟨p',hp',hnd,hmem⟩:=hF.poly hs
 have e:=aN.eq hs hF hp hp'
 subst e
 obtain⟨a,_,ha,hea,_,_⟩:=hF.head hs
 have hm:a∈p:=(hmem a).2 ⟨ha,hea⟩
 refine⟨hnd,?_,List.length_pos_iff.2 (fun e=>by rw[e] at hm;cases hm),fun x hx=>(ap.1 ((hmem x).1 hx).1).1⟩
 have:=List.Nodup.length_le_of_subset (l₂:=List.range l.length) hnd fun x hx=>List.mem_range.2 (ap.1 ((hmem x).1 hx).1).1
 simpa using this
theorem EZ{l:List V}(hl:∀ x∈l,bd MV x):∀ x∈mq l,bd MV x:=fun x hx=>hl x (rV.1 hx)
end Go.Proofs.YtjjjkojfijpeeaaGreat.Sy
end
section
set_option linter.unusedVariables false
namespace Go.Proofs.YtjjjkojfijpeeaaGreat.Sy
open Go Go.Proofs Go.Proofs.YtjjjkojfijpeeaaGreat.Geo
theorem AZ(n:Nat){x y:Int}(hx:In x)(hy:In y)(h:In (x*y)):cA (n+3) 61 [ah x,ah y]=some (ah (x*y)):=by
 have:=Oo n (a:=some x) (b:=some y) (cQ hx) (cQ hy)
 rwa [show HE (some x) (some y)=some (x*y) from gG h] at this
theorem u7(n:Nat){x y:Int}(hx:In x)(hy:In y)(h:In (x+y)):cA (n+4) 57 [ah x,ah y]=some (ah (x+y)):=by
 have:=O3 n (a:=some x) (b:=some y) (cQ hx) (cQ hy)
 rwa [show He (some x) (some y)=some (x+y) from gG h] at this
theorem BF{α:Type}{A B y:α}(h:A=y):(if true=true then A else B)=y:=h
theorem IX(n:Nat){v:V}(h1:inR v.x)(h2:inR v.y)(h3:inR v.z):cA (n+3) 148 [aq v]=some (tI v):=by
 rw[Ko];unfold Gh
 obtain⟨Z,hZ⟩:∃ Z,(D.st [(D.bool false),(D.bool false),(aA aU)])=Z:=⟨_,rfl⟩
 rw[hZ]
 refine cn (s':=[I 1,.st [ah v.x,Z,Z]]) ?_ (cn (s':=[I 2,.st [ah v.x,ah v.y,Z]]) ?_ (cn (s':=[I 3,tI v]) ?_ (iJ (r:=(0,[tI v])) ?_ rfl)))
 ·exact aa (z:=.bool true) rfl (aa (z:=true) rfl (BF (aa (z:=0) rfl (aa (z:=I v.x) rfl (aa (C2 n h1) (aa (z:=0) rfl (aa (z:=.st [ah v.x,Z,Z]) rfl (aa (z:=I 1) rfl rfl))))))))
 ·exact aa (z:=.bool true) rfl (aa (z:=true) rfl (BF (aa (z:=1) rfl (aa (z:=I v.y) rfl (aa (C2 n h2) (aa (z:=1) rfl (aa (z:=.st [ah v.x,ah v.y,Z]) rfl (aa (z:=I 2) rfl rfl))))))))
 ·exact aa (z:=.bool true) rfl (aa (z:=true) rfl (BF (aa (z:=2) rfl (aa (z:=I v.z) rfl (aa (C2 n h3) (aa (z:=2) rfl (aa (z:=tI v) rfl (aa (z:=I 3) rfl rfl))))))))
 ·exact aa (z:=.bool false) rfl (aa (z:=false) rfl rfl)
theorem JT(n:Nat){u v:V}(hu:In u.x/\In u.y/\In u.z)(hv:In v.x/\In v.y/\In v.z)(h1:(u.x*v.x).natAbs<=2^100)(h2:(u.y*v.y).natAbs<=2^100)(h3:(u.z*v.z).natAbs<=2^100):cA (n+5) 147 [tI u,tI v]=some (ah (V.dot u v)):=by
 rw[MC];unfold Fd
 have i1:In (u.x*v.x):=gr (by decide) h1
 have i2:In (u.y*v.y):=gr (by decide) h2
 have i3:In (u.z*v.z):=gr (by decide) h3
 have e1:=Int.natAbs_add_le (u.x*v.x) (u.y*v.y)
 have e2:=Int.natAbs_add_le (u.x*v.x+u.y*v.y) (u.z*v.z)
 have j2:In (u.x*v.x+u.y*v.y):=gr (k:=110) (by decide) (by omega)
 have j3:In (V.dot u v):=gr (k:=110) (by decide) (by unfold V.dot;omega)
 have j0:In 0:=ir (jX 0)
 refine aa (C2 (n+2) (jX 0)) ?_
 refine cn (s':=[I 1,ah (u.x*v.x)]) ?_ (cn (s':=[I 2,ah (u.x*v.x+u.y*v.y)]) ?_ (cn (s':=[I 3,ah (V.dot u v)]) ?_ (iJ (r:=(0,[ah (V.dot u v)])) ?_ rfl)))
 ·exact aa (z:=.bool true) rfl (aa (z:=true) rfl (BF (aa (z:=0) rfl (aa (z:=ah u.x) rfl (aa (z:=0) rfl (aa (z:=ah v.x) rfl (aa (AZ (n+1) hu.1 hv.1 i1) (aa (u7 n j0 i1 (by rw[Int.zero_add];exact i1)) (aa (z:=I 1) rfl (by rw[Int.zero_add]))))))))))
 ·exact aa (z:=.bool true) rfl (aa (z:=true) rfl (BF (aa (z:=1) rfl (aa (z:=ah u.y) rfl (aa (z:=1) rfl (aa (z:=ah v.y) rfl (aa (AZ (n+1) hu.2.1 hv.2.1 i2) (aa (u7 n i1 i2 j2) (aa (z:=I 2) rfl rfl)))))))))
 ·exact aa (z:=.bool true) rfl (aa (z:=true) rfl (BF (aa (z:=2) rfl (aa (z:=ah u.z) rfl (aa (z:=2) rfl (aa (z:=ah v.z) rfl (aa (AZ (n+1) hu.2.2 hv.2.2 i3) (aa (u7 n j2 i3 j3) (aa (z:=I 3) rfl rfl)))))))))
 ·exact aa (z:=.bool false) rfl (aa (z:=false) rfl rfl)
theorem PQ(n:Nat){u v:V}(hu:bd 1152921504606846976 u)(hv:bd 1152921504606846976 v)(h1:(u.x*v.x).natAbs<=2^100)(h2:(u.y*v.y).natAbs<=2^100)(h3:(u.z*v.z).natAbs<=2^100):cA (n+6) 91 [aq u,aq v]=some (ah (V.dot u v)):=by
 rw[Pp];unfold Je
 simp only[bd] at hu hv
 have a1:inR u.x:=by simp only[inR];omega
 have a2:inR u.y:=by simp only[inR];omega
 have a3:inR u.z:=by simp only[inR];omega
 have b1:inR v.x:=by simp only[inR];omega
 have b2:inR v.y:=by simp only[inR];omega
 have b3:inR v.z:=by simp only[inR];omega
 exact aa (IX (n+2) a1 a2 a3) (aa (IX (n+2) b1 b2 b3) (aa (JT n ⟨ir a1,ir a2,ir a3⟩ ⟨ir b1,ir b2,ir b3⟩ h1 h2 h3) rfl))
theorem HA(n:Nat){t:T3}(h:bd MV t.1/\bd MV t.2.1/\bd MV t.2.2):cA (n+6) 117 [aq t.1,aq t.2.1]=some (aq (V.cross t.1 t.2.1))/\cA (n+6) 91 [aq (V.cross t.1 t.2.1),aq t.2.2]=some (ah (lv t)):=by
 have hc:=ki h.1 h.2.1
 have h3:=h.2.2
 refine⟨Hs (n+5) h.1 h.2.1 (by decide),?_⟩
 have e:(2:Int)*(MV*MV)=137438953472:=rfl
 rw[e] at hc
 have hm:MV=262144:=rfl
 have key:∀ a b:Int,(-137438953472<=a/\a<=137438953472)->(-MV<=b/\b<=MV)->(a*b).natAbs<=2^100:=fun a b ha hb=>by
  rw[Int.natAbs_mul]
  exact dK (i:=37) (j:=18) (by rw[show(2:Nat)^37=137438953472 from rfl];omega) (by rw[show(2:Nat)^18=262144 from rfl];omega) (by decide)
 refine PQ n ?_ ?_ (key _ _ hc.1 h3.1) (key _ _ hc.2.1 h3.2.1) (key _ _ hc.2.2 h3.2.2)
 ·simp only[bd] at *;omega
 ·simp only[bd] at *;omega
theorem Fq{α:Type}{l:List V}{p:List Nat}{j:Nat}{K:D->Option α}{y:α}(hj:j<p.length)(hk:p.getD j 0<l.length)(h:K (aq (pt l (p.getD j 0)))=some y) :
  (Option.bind (D.asSl (.sl (ab p))) fun l17=>Option.bind (D.idx (I (j:Int)) (List.length l17)) fun i18=>Option.bind (l17[i18]?) fun x19=>Option.bind (D.asSl (cT l)) fun l20=>Option.bind (D.idx x19 (List.length l20)) fun i21=>Option.bind (l20[i21]?) K)=some y:=by
 refine aa (z:=ab p) rfl (aa (vF hj) (aa (ib hj) (aa (z:=l.map aq) rfl (aa (z:=p.getD j 0) (by rw[eH];exact aK hk) (aa (z:=aq (pt l (p.getD j 0))) ?_ h)))))
 generalize p.getD j 0=k at *
 unfold pt
 rw[List.getElem?_map,List.getD_eq_getElem?_getD,List.getElem?_eq_getElem hk];rfl
theorem Nv(n:Nat){l:List V}{F:FL}(hl:∀ x∈l,bd MV x)(hF:FIn l F)(h18:cA (n+9) 18 [dq l]=some (.sl (er F))):cA (n+10) 23 [dq l]=some (ah (ar lv (c9 l F))):=by
 rw[ND];unfold Jx
 have hFl:=hF.len
 refine aa (C2 (n+7) (jX 0)) (aa h18 (aa (z:=er F) rfl ?_))
 obtain⟨Z,hZ⟩:∃ Z,(D.st [(D.bool false),(D.bool false),(aA aU)])=Z:=⟨_,rfl⟩
 rw[hZ]
 refine br (fun i s=>s=[I (i:Int),dq l,Z,ah (ar lv (c9 l (F.take i)))]) F.length 0 (Nat.zero_le _) (by simp[c9,ar]) (fun i hi s hJ=>?_) (fun s hJ=>?_)
 ·subst hJ
  left
  refine⟨_,?_,rfl⟩
  refine aa aj (aa ag (aX (by show((i:Int)<((er F).length:Int));rw[ed];omega) ?_))
  refine aa (z:=er F) rfl (aa (z:=i) (by rw[ed];exact aK hi) (aa (nX hi) ?_))
  have hpart:=fun m (hm:m<=F[i].2.length-2)=>uR hl hF hi hm
  obtain⟨k1,k2,k3⟩:=hF.ok F[i] (List.getElem_mem hi)
  rw[kV l hi]
  generalize F[i]=f at *
  obtain⟨q,p⟩:=f
  simp only at *
  generalize c9 l (F.take i)=T at *
  refine cV (fun j s=>s=[I ((j+2:Nat):Int),dq l,Z,ah (ar lv (T++Ad l p j))]) (p.length-2) 0 (Nat.zero_le _) (by rw[qn,List.append_nil];rfl) (fun j hj s hJ=>?_) (fun s hJ=>?_)
  ·subst hJ
   left
   refine⟨_,?_,rfl⟩
   have hp1:=hpart j (by omega)
   have hp2:=hpart (j+1) (by omega)
   have b0:=jW hl (k3 0 (by omega))
   have b1:=jW hl (k3 (j+1) (by omega))
   have b2:=jW hl (k3 (j+2) (by omega))
   obtain⟨v1,v2⟩:=HA (n+3) (t:=(pt l (p.getD 0 0),pt l (p.getD (j+1) 0),pt l (p.getD (j+2) 0))) ⟨b0,b1,b2⟩
   have hs1:=og hp1
   have hs2:=og hp2
   rw[qC,<-List.append_assoc,nL] at hs2 ⊢
   have hv:=oy (t:=(pt l (p.getD 0 0),pt l (p.getD (j+1) 0),pt l (p.getD (j+2) 0))) ⟨b0,b1,b2⟩
   refine aa (z:=.sl (ab p)) rfl (aa (z:=ab p) rfl (aa aj (aa ag (aX (by show(((j+2:Nat):Int)<((ab p).length:Int));rw[ae];omega) ?_))))
   refine aa (z:=cT l) rfl (aa (z:=.sl (ab p)) rfl (Fq (j:=0) (by omega) (k3 _ (by omega)) ?_))
   refine aa (z:=cT l) rfl (aa (z:=.sl (ab p)) rfl (aa (iD (a:=j+2) (b:=1) rfl (by omega) (by omega)) (Fq (j:=j+1) (by omega) (k3 _ (by omega)) ?_)))
   refine aa (z:=cT l) rfl (aa (z:=.sl (ab p)) rfl (Fq (j:=j+2) (by omega) (k3 _ (by omega)) ?_))
   exact aa v1 (aa v2 (aa (u7 (n+5) (gr (by decide) hs1) (gr (by decide) hv) (gr (by decide) hs2)) (aa (aZ (a:=j+2) (b:=1) (by omega)) rfl)))
  ·subst hJ
   refine⟨_,aa (z:=.sl (ab p)) rfl (aa (z:=ab p) rfl (aa aj (aa ag (ba (by show ¬ (((p.length-2+2:Nat):Int)<((ab p).length:Int));rw[ae];omega) rfl)))),?_⟩
   exact aa (aZ (a:=i) (b:=1) (by omega)) rfl
 ·subst hJ
  refine⟨_,aa aj (aa ag (ba (by show ¬ ((F.length:Int)<((er F).length:Int));rw[ed];omega) rfl)),?_⟩
  rw[List.take_length];rfl
end Go.Proofs.YtjjjkojfijpeeaaGreat.Sy
end
