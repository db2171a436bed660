/- Part 13 of the proof that HullMoves answers true at every input -/
import Derived.Test.YtjjjkojfijpeeaaGreatMoves09
import Derived.Test.YtjjjkojfijpeeaaGreatMoves12
set_option linter.unusedVariables false
set_option linter.unusedSimpArgs false
set_option linter.unnecessarySimpa false
section
set_option linter.unusedVariables false
namespace Go.Proofs.YtjjjkojfijpeeaaGreat.Sy
open Go Go.Proofs Go.Proofs.YtjjjkojfijpeeaaGreat.Geo
theorem wM{V D i:Nat}(hD:D<=4294967295):fW V D i<=4294967295/\D*dg V i<=18446744065119617025:=by
 refine⟨?_,Nat.mul_le_mul hD (zh V i)⟩
 rcases Nat.eq_zero_or_pos D with h|h
 ·subst h;simp[fW]
 ·have:=uT V i h;omega
theorem sT{V D n:Nat}(hV:V<2^(32*n))(hD:D<=4294967295):V*D<2^(32*(n+1)):=by
 rw[dp]
 have h1:V*D<=V*4294967296:=Nat.mul_le_mul_left _ (by omega)
 have h2:V*4294967296<2^(32*n)*4294967296:=Nat.mul_lt_mul_of_pos_right hV (by omega)
 omega
theorem vr{U V D n j k:Nat}(hk:k<=n)(hV:V<2^(32*n))(hD:D<=4294967295) :
  IntKind.u64.wrap (IntKind.u64.wrap (bD U (j+k)-bD (V*D) k)-(bS (U/2^(32*j)) (V*D) k:Nat))/9223372036854775808=(bS (U/2^(32*j)) (V*D) (k+1):Nat) ∧
  IntKind.u64.wrap (IntKind.u64.wrap (bD U (j+k)-bD (V*D) k)-(bS (U/2^(32*j)) (V*D) k:Nat))%4294967296=bD (kr (U/2^(32*j)) (V*D) (n+1)) k:=by
 have wb:=oG (bD U (j+k)) (bD (V*D) k) (bS (U/2^(32*j)) (V*D) k) (cw _ _) (lV _ _) (cw _ _) (lV _ _) (qz _ _ _)
 rw[wb.1,wb.2,<-jT,mO,Am (by omega) (Nat.le_of_lt (sT hV hD))]
 exact⟨rfl,rfl⟩
theorem C7{V D n:Nat}(hV:V<2^(32*n))(hD:D<=4294967295):((fW V D n:Nat):Int)=bD (V*D) n:=by
 have h:=(wM (V:=V) (i:=n) hD).1
 have e:fW V D n=V*D/2^(32*n):=by unfold fW;rw[Nat.mod_eq_of_lt hV]
 rw[cV,<-e,Nat.mod_eq_of_lt (by omega)]
theorem DU{U j m:Nat}(hU:U<2^(32*(j+m))):U/2^(32*j)<2^(32*m):=by
 rw[Nat.div_lt_iff_lt_mul (Nat.two_pow_pos _),<-Nat.pow_add,show 32*m+32*j=32*(j+m) from by omega];exact hU
theorem kN(U Z j i n:Nat)(hn:j+i<n):D.set (cM n (r0 U Z j i)) [j+i] (.int .u32 (bD Z i))=some (cM n (r0 U Z j (i+1))):=
 kJ hn fun t ht=>by
  unfold r0 rR
  by_cases h:t=j+i
  ·subst h;rw[if_pos (by omega),if_pos rfl,yc]
  ·rw[if_neg h]
   by_cases h2:t<j+i
   ·rw[if_pos (by omega),if_pos h2]
   ·rw[if_neg (by omega),if_neg h2]
theorem so{U Z j m n:Nat}(hU:U<2^(32*(j+m)))(hZ:Z<2^(32*m)):cM n (r0 U Z j m)=cM n (bD (eW U Z j)):=
 dA fun t _=>by
  unfold r0 rR
  split
  ·rfl
  ·rw[fJ hU (by omega),fJ (wr hZ) (by omega)]
theorem E2{B n L:Nat}(hB:B<2^(32*(n+1)))(h2:dg B n<2^(L+1))(h3:L+1<=32):B*2^(32-(L+1))<2^(32*(n+1)):=by
 have h1:B/2^(32*n)=dg B n:=jq hB
 have h4:B<(dg B n+1)*2^(32*n):=by rw[<-Nat.div_lt_iff_lt_mul (Nat.two_pow_pos _)];omega
 have h5:(dg B n+1)*2^(32*n)<=2^(L+1)*2^(32*n):=Nat.mul_le_mul_right _ h2
 have h6:B*2^(32-(L+1))<2^(L+1)*2^(32*n)*2^(32-(L+1)):=Nat.mul_lt_mul_of_pos_right (by omega) (Nat.two_pow_pos _)
 rw[<-Nat.pow_add,<-Nat.pow_add,show L+1+32*n+(32-(L+1))=32*(n+1) from by omega] at h6
 exact h6
theorem By{A B n m:Nat}(hl:2^(32*(n-1))<=B)(hAB:B<=A)(hA:A<2^(32*m)):n<=m:=by
 rcases Nat.lt_or_ge m n with h|h
 ·have:2^(32*m)<=2^(32*(n-1)):=Nat.pow_le_pow_right (by omega) (by omega)
  omega
 ·exact h
theorem Aw{A B n m:Nat}(hn:1<=n)(hnm:n<=m)(hl:2^(32*(n-1))<=B)(hA:A<2^(32*m)):A/B<2^(32*(m-n+1)):=by
 apply Nat.div_lt_of_lt_mul
 have h:2^(32*(n-1))*2^(32*(m-n+1))<=B*2^(32*(m-n+1)):=Nat.mul_le_mul_right _ hl
 rw[<-Nat.pow_add,show 32*(n-1)+32*(m-n+1)=32*m from by omega] at h
 omega
theorem Bo{A s:Nat}(hA:A<eN)(hs:s<=31):((A*2^s/eN:Nat):Int)=bD (A*2^s) 16:=by
 have h31:2^s<=2147483648:=Nat.pow_le_pow_right (n:=2) (by omega) hs
 have h1:A*2^s/eN<4294967296:=by
  rw[Nat.div_lt_iff_lt_mul fI,Nat.mul_comm 4294967296]
  have h2:A*2^s<=A*2147483648:=Nat.mul_le_mul_left _ h31
  have h3:A*2147483648<=eN*2147483648:=Nat.mul_le_mul_right _ (by omega)
  have:=fI
  omega
 have h2:=vL (A*2^s) 16 0
 rw[<-fQ,Nat.add_zero] at h2
 rw[<-h2,cV,Nat.mul_zero,Nat.pow_zero,Nat.div_one,Nat.mod_eq_of_lt h1]
theorem FT{a b:Nat}{c:D}(hc:c=.int .u64 (b:Nat)):D.bin .lss (W (a:Nat)) c=some (.bool (decide (a<b))):=by
 subst hc;simp only[D.bin,if_true];congr 2;rw[decide_eq_decide];omega
theorem HC{a b:Nat}{c:D}(hc:c=.int .u64 (b:Nat)):D.bin .geq (W (a:Nat)) c=some (.bool (decide (b<=a))):=by
 subst hc;simp only[D.bin,if_true];congr 2;rw[decide_eq_decide];omega
theorem Iw{a b:Nat}:D.bin .gtr (W (a:Nat)) (W (b:Nat))=some (.bool (decide (b<a))):=by
 simp only[D.bin,if_true];congr 2;rw[decide_eq_decide];omega
theorem pv{α:Type}{body:Bd}{k:Nat×List D->Option α}{y:α}(J:Nat->List D->Prop) :
  ∀ (m:Nat) (s:List D),J m s->(∀ m s,J m s->(∃ m' s',m'<m/\body s=some (.inl s')/\J m' s')\/∃ r,body s=some (.inr r)/\k r=some y)->Option.bind (bc body s) k=some y:=by
 intro m
 induction m using Nat.strongRecOn with
 | _ m ih=>
  intro s hJ hs
  rcases hs m s hJ with⟨m',s',h1,h2,h3⟩|⟨r,h1,h2⟩
  ·exact cD h2 (ih m' h1 s' h3 hs)
  ·exact iS h1 h2
theorem iR{a b:Nat}{c:D}(hc:c=I (b:Nat))(h:b<=a)(ha:a<=1000000):D.bin .sub (I (a:Nat)) c=some (I ((a-b:Nat):Int)):=by
 subst hc;rw[dH (by simp only[inR];omega)];congr 2;omega
theorem Hm(N:Nat):D.set (D.st (List.take 0 (List.replicate 17 (D.int .u32 0))++(List.take 16 (List.drop 0 ((List.range 16).map fun i=>D.int .u32 (bD N i)))++List.drop 16 (List.replicate 17 (D.int .u32 0))))) [16] (.int .u32 (bD N 16))=some (cM 17 (bD N)):=by
 have e:D.st (List.take 0 (List.replicate 17 (D.int .u32 0))++(List.take 16 (List.drop 0 ((List.range 16).map fun i=>D.int .u32 (bD N i)))++List.drop 16 (List.replicate 17 (D.int .u32 0))))=cM 17 (fun j=>if j<16 then bD N j else 0):=by rfl
 rw[e]
 refine kJ (by decide) fun j hj=>?_
 by_cases h:j=16
 ·subst h;simp
 ·rw[if_neg h,if_pos (by omega)]
theorem H5(n:Nat){A B:Nat}(hA:A<eN)(hB:B<eN)(hB0:0<B):cA (n+4) 170 [LM A,LM B]=some (.tup [LM (A/B),LM (A%B)]):=by
 rw[Ky]
 unfold E3
 refine aa (xR (n+2) hB) (aa (xR (n+2) hA) (aa (HN n hA hB) (aa ag (aa af ?_))))
 by_cases hlt:A<B
 ·refine aJ (by unfold cm;split<;>omega) ?_
  rw[iK,Nat.div_eq_of_lt hlt,Nat.mod_eq_of_lt hlt]
 refine aM (by unfold cm;split<;>(try split)<;>omega) ?_
 have hn0:cW B≠0:=fun e=>by have:=eh hB;rw[e] at this;simp at this;omega
 have HBh:=eh hB
 have HBl:=lO hn0
 have HAh:=eh hA
 have hn16:=ji B
 have hm16:=ji A
 refine aa (z:=decide (cW B=1)) (by rw[show(D.int .i64 1)=I ((1:Nat):Int) from rfl,cb];rfl) ?_
 by_cases h1:cW B=1
 ·refine aJ h1 ?_
  rw[h1] at HBh
  have hb32:B<4294967296:=HBh
  have hd:bD B 0=(B:Int):=by unfold bD;simp;omega
  have hm:A%B<4294967296:=Nat.lt_trans (Nat.mod_lt _ hB0) hb32
  refine aa (bh _ (by decide)) ?_
  rw[hd]
  refine aa (Mt (n+2) hA hB0 (by omega)) (aa (z:=LM (A/B)) rfl (aa (z:=U (A%B)) rfl ?_))
  have e:D.st (D.putParts (List.replicate 16 (D.int .u32 0)) [(0,U (A%B))])=LM (A%B):=by
   have e2:LM (A%B)=cM 16 (fun j=>if j=0 then((A%B:Nat):Int) else 0):=dA fun j hj=>by
    by_cases h0:j=0
    ·subst h0;rw[if_pos rfl];unfold bD;rw[Nat.mul_zero,Nat.pow_zero,Nat.div_one,Nat.mod_eq_of_lt hm]
    ·rw[if_neg h0];exact fJ (n:=1) hm (by omega)
   rw[e2];rfl
  rw[e]
 refine aM h1 ?_
 have hBA:B<=A:=by omega
 have hnm:=By HBl hBA HAh
 have HQ:=Aw (by omega) hnm HBl HAh
 obtain⟨e,he⟩:∃ e,cW B=e+2:=⟨cW B-2,by omega⟩
 obtain⟨m,hm⟩:∃ m,cW A=m:=⟨_,rfl⟩
 rw[he] at HBh HBl hnm HQ hn16 ⊢
 rw[hm] at HAh hnm HQ hm16 ⊢
 rw[show e+2-1=e+1 by omega] at HBl
 have hz:dg B (e+1)≠0:=fun h0=>by
  have h:=jq HBh
  have:=(Nat.le_div_iff_mul_le (Nat.two_pow_pos (32*(e+1)))).2 (show 1*2^(32*(e+1))<=B by omega)
  omega
 obtain⟨L,hL,hL1,hL2⟩:=gU hz
 have hdl:=fj B (e+1)
 have hL3:L+1<=32:=by
  rcases Nat.lt_or_ge L 32 with h|h
  ·omega
  ·have:=Nat.pow_le_pow_right (show 0<2 by decide) h
   omega
 obtain⟨s,hs⟩:∃ s,s=32-(L+1):=⟨_,rfl⟩
 have hs31:s<=31:=by omega
 have hVn:=E2 HBh hL2 hL3
 rw[<-hs] at hVn
 have hp:=Nat.two_pow_pos s
 obtain⟨V,hV⟩:∃ V,V=B*2^s:=⟨_,rfl⟩
 obtain⟨N,hN⟩:∃ N,N=A*2^s:=⟨_,rfl⟩
 have hQN:N/V=A/B:=by rw[hV,hN,Nat.mul_div_mul_right _ _ hp]
 have hRN:N%V=A%B*2^s:=by rw[hV,hN,Nat.mul_mod_mul_right]
 have hV0:0<V:=by rw[hV];exact Nat.mul_pos hB0 hp
 rw[<-hV] at hVn
 replace hVn:V<2^(32*(e+2)):=hVn
 have hV1:2^(32*(e+1))<=V:=by rw[hV];exact Nat.le_trans HBl (Nat.le_mul_of_pos_right _ hp)
 have hVtop:V<eN:=xA (by omega) hVn
 refine aa (iR (b:=1) rfl (by omega) (by omega)) (aa (eP (by omega)) (aa (bh _ (by omega)) ?_))
 rw[show e+2-1=e+1 by omega,nV B (e+1)]
 refine aa (MD (n+1) hdl) ?_
 rw[hL,show(32-((L+1:Nat):Int))=(s:Nat) by omega]
 refine aa (H1 (n+2) hB hs31) (aa (z:=LM (B*2^s)) rfl (aa (z:=.int .u32 ((B*2^s/eN:Nat):Int)) rfl ?_))
 refine aa (H1 (n+2) hA hs31) (aa (z:=LM (A*2^s)) rfl (aa (z:=.int .u32 ((A*2^s/eN:Nat):Int)) rfl ?_))
 rw[Bo hA hs31,<-hV,<-hN]
 refine aa (z:=List.replicate 17 (D.int .u32 0)) rfl (aa (z:=(List.range 16).map fun i=>D.int .u32 (bD N i)) rfl (aa (Hm N) (aa (iR (b:=e+2) rfl (by omega) (by omega)) ?_)))
 rw[fG]
 obtain⟨c,hc⟩:∃ c,c=m-(e+2):=⟨_,rfl⟩
 rw[<-hc] at HQ ⊢
 rw[<-hQN] at HQ ⊢
 refine be (fun t s'=>s'=[I ((c:Int)-(t:Nat)),LM (N/V/2^(32*(c+1-t))*2^(32*(c+1-t))),cM 17 (bD (dX N V (c+1-t)))]) (c+1) 0 (Nat.zero_le _) ?_ (fun t ht s' hJ=>?_) (fun s' hJ=>?_)
 ·rw[Nat.sub_zero,yy HQ,Nat.div_eq_of_lt HQ,Nat.zero_mul]
  congr 2
 ·subst hJ
  left
  obtain⟨j,hj⟩:∃ j,j=c-t:=⟨_,rfl⟩
  rw[show c+1-t=j+1 by omega,show(c:Int)-(t:Nat)=(j:Nat) by omega,show c+1-(t+1)=j by omega,show(c:Int)-((t+1:Nat):Int)=(j:Int)-1 by omega]
  refine⟨[I ((j:Int)-1),LM (N/V/2^(32*j)*2^(32*j)),cM 17 (bD (dX N V j))],?_,rfl⟩
  have hj16:j+e+2<=16:=by omega
  have hU:=AP (N:=N) j hV0 hVn
  have hUt:=Bs (N:=N) j hV0
  have hqd:=CU (N:=N) j hV0
  have right:=wf (N:=N) j hV0 hVn
  have wrong:=fun U1=>wc (N:=N) (U1:=U1) j hV0 hVn
  generalize hUU:dX N V (j+1)=U at *
  have H:=Ci hVn hV1 hUt
  have hW:=DU (j:=j) (m:=e+2+1) (U:=U) (by rw[show j+(e+2+1)=j+(e+2)+1 by omega];exact hU)
  have g2:D.idx (I ((j+(e+2):Nat):Int)) 17=some (j+(e+2)):=aw (by omega)
  have t1:=GG U (j+e+2) (j+e+1)
  have F1:=H.one
  have F2:=zh V (e+1)
  have v2:=fj V e
  have u2:=fj U (j+e)
  refine aa iD (aa af (aJ (by show(j:Int) ≥ 0;omega) ?_))
  refine aa (aZ (a:=j) (b:=e+2) (by omega)) (aa g2 (aa (bh _ (by omega)) (aa (lh U _) (aa (o9 (m:=32) rfl (by decide) (by have:=fj U (j+(e+2));omega)) ?_))))
  refine aa (aZ (a:=j) (b:=e+2) (by omega)) (aa (iR (b:=1) rfl (by omega) (by omega)) ?_)
  rw[show j+(e+2)-1=j+e+1 by omega,show j+(e+2)=j+e+2 by omega]
  refine aa (aw (by omega)) (aa (bh _ (by omega)) (aa (lh U _) (aa (ir (m:=32) (fj _ _) (by omega)) ?_)))
  refine aa (iR (b:=1) rfl (by omega) (by omega)) (aa (z:=e+1) (by rw[show e+2-1=e+1 by omega];exact aw (by omega)) (aa (bh _ (by omega)) (aa (lh V _) ?_)))
  have eT:dg U (j+e+2)*2^32+dg U (j+e+1)=dg U (j+e+2)*4294967296+dg U (j+e+1):=rfl
  rw[eT]
  generalize hT:dg U (j+e+2)*4294967296+dg U (j+e+1)=T at *
  generalize hF:dg V (e+1)=F at *
  refine aa (Ga (by omega) (by omega)) (aa (Br (by omega)) ?_)
  refine pv (fun G s'=>∃ R,s'=[W (G:Nat),W (R:Nat),LM (N/V/2^(32*(j+1))*2^(32*(j+1))),LM 0,LM V]/\G*F+R=T/\U/2^(32*j)/V<=G) (T/F) _ ⟨T%F,rfl,by rw[Nat.mul_comm];exact Nat.div_add_mod T F,H.start⟩ (fun G s' hJ=>?_)
  obtain⟨R,rfl,hDR,hqD⟩:=hJ
  have hDF:G<=G*F:=Nat.le_mul_of_pos_right _ (by omega)
  have hD64:G<=18446744073709551615:=by omega
  have hR64:R<=18446744073709551615:=by omega
  have cond:∀ b:Bool,b=(decide (R<4294967296)&&(decide (4294967296<=G)||decide (R*4294967296+dg U (j+e)<G*dg V e)))->(b=true->1<=G/\U/2^(32*j)/V<=G-1)/\(b=false->G<4294967296/\G<=U/2^(32*j)/V+1):=fun b hb=>by
   constructor
   ·intro hbt
    rw[hbt] at hb
    simp only[Bool.true_eq,Bool.and_eq_true,Bool.or_eq_true,decide_eq_true_eq] at hb
    rcases hb.2 with h|h
    ·exact⟨by omega,H.step_big h⟩
    ·have:=H.step hDR h;exact⟨this.2,this.1⟩
   ·intro hbf
    rw[hbf] at hb
    refine H.done hDR ?_
    by_cases h1:4294967296<=R
    ·exact .inl h1
    ·right
     have h1':R<4294967296:=by omega
     simp only[decide_eq_true h1',Bool.true_and,Bool.false_eq,Bool.or_eq_false_iff,decide_eq_false_iff_not] at hb
     omega
  have hcv:∀ {β:Type} {g:Bool->Option β} {y:β},g (decide (R<4294967296)&&(decide (4294967296<=G)||decide (R*4294967296+dg U (j+e)<G*dg V e)))=some y->(Option.bind (D.bin .lss (W (R:Nat)) (D.int .u64 4294967296)) fun x46=>
    Option.bind (D.truth x46) fun b47=>
    Option.bind (if b47 then(Option.bind (D.bin .geq (W (G:Nat)) (D.int .u64 4294967296)) fun x48=>
    Option.bind (D.truth x48) fun b49=>
    if b49 then(some true) else(Option.bind (D.bin .sub (I ((e+2:Nat):Int)) (D.int .i64 2)) fun x50=>
    Option.bind (D.idx x50 16) fun i51=>
    Option.bind (D.get (LM V) [i51]) fun x52=>
    Option.bind (D.conv .u64 x52) fun x53=>
    Option.bind (D.bin .mul (W (G:Nat)) x53) fun x54=>
    Option.bind (D.bin .shl (W (R:Nat)) (D.int .u64 32)) fun x55=>
    Option.bind (D.bin .add (I (j:Nat)) (I ((e+2:Nat):Int))) fun x56=>
    Option.bind (D.bin .sub x56 (D.int .i64 2)) fun x57=>
    Option.bind (D.idx x57 17) fun i58=>
    Option.bind (D.get (cM 17 (bD U)) [i58]) fun x59=>
    Option.bind (D.conv .u64 x59) fun x60=>
    Option.bind (D.bin .or x55 x60) fun x61=>
    Option.bind (D.bin .gtr x54 x61) fun x62=>
    D.truth x62)) else(some false)) g)=some y:=fun{β g y} hg=>by
   refine aa (FT (b:=4294967296) rfl) (aa af (aa ?_ hg))
   by_cases h1:R<4294967296
   ·rw[decide_eq_true h1,if_pos rfl,Bool.true_and]
    refine aa (HC (b:=4294967296) rfl) (aa af ?_)
    by_cases h2:4294967296<=G
    ·rw[decide_eq_true h2,if_pos rfl,Bool.true_or]
    ·rw[decide_eq_false h2,if_neg (by decide),Bool.false_or]
     have hm1:G*dg V e<=4294967295*4294967295:=Nat.mul_le_mul (by omega) (by omega)
     refine aa (iR (b:=2) rfl (by omega) (by omega)) (aa (z:=e) (aw (by omega)) (aa (bh _ (by omega)) (aa (lh V e) (aa (BE (by omega)) (aa (o9 (m:=32) rfl (by decide) (by omega)) ?_)))))
     refine aa (aZ (a:=j) (b:=e+2) (by omega)) (aa (iR (b:=2) rfl (by omega) (by omega)) (aa (z:=j+e) (by rw[show j+(e+2)-2=j+e by omega];exact aw (by omega)) (aa (bh _ (by omega)) (aa (lh U (j+e)) (aa (ir (m:=32) u2 (by omega)) (aa Iw ?_))))))
     rfl
   ·rw[decide_eq_false h1,if_neg (by decide),Bool.false_and]
  obtain⟨bb,hbb⟩:∃ bb,bb=(decide (R<4294967296)&&(decide (4294967296<=G)||decide (R*4294967296+dg U (j+e)<G*dg V e))):=⟨_,rfl⟩
  obtain⟨k1,k2⟩:=cond bb hbb
  rw[<-hbb] at hcv
  cases bb with
  | true=>
   left
   obtain⟨d1,d2⟩:=k1 rfl
   have hR32:R<4294967296:=by
    have:=hbb.symm
    simp only[Bool.and_eq_true,decide_eq_true_eq] at this
    exact this.1
   refine⟨G-1,[W ((G-1:Nat):Int),W ((R+F:Nat):Int),LM (N/V/2^(32*(j+1))*2^(32*(j+1))),LM 0,LM V],by omega,?_,R+F,rfl,yp hDR d1,d2⟩
   refine hcv (aa af ?_)
   rw[if_pos rfl]
   exact aa (Bm (b:=1) (by omega) (by omega)) (aa (BT (by omega)) rfl)
  | false=>
   right
   obtain⟨d1,d2⟩:=k2 rfl
   refine⟨(0,[W (G:Nat),LM (N/V/2^(32*(j+1))*2^(32*(j+1))),LM 0,LM V]),?_,?_⟩
   ·refine hcv (aa af ?_)
    rw[if_neg (by decide)];rfl
   clear hcv cond k1 k2 hbb
   have hD:G<=4294967295:=by omega
   have hVD:=sT hVn hD
   obtain⟨Z,hZ⟩:∃ Z,Z=kr (U/2^(32*j)) (V*G) (e+2+1):=⟨_,rfl⟩
   have hZl:Z<2^(32*(e+2+1)):=by rw[hZ];exact BW _ _ _
   have hqj:=hqd
   have fin:∀ {y:Sum (List D) (Nat×List D)} {d:Nat} {u:D} {g:Nat×List D->Option (Sum (List D) (Nat×List D))},d=dg (N/V) j->u=cM 17 (bD (dX N V j))->g (0,[W (d:Nat),u])=some y->g (0,[W ((dg (N/V) j:Nat):Int),cM 17 (bD (dX N V j))])=some y:=fun h1 h2 h3=>by rw[<-h1,<-h2];exact h3
   refine aa (z:=(0,[W ((dg (N/V) j:Nat):Int),cM 17 (bD (dX N V j))])) ?_ ?_
   ·refine cT (fun i s'=>s'=[W (fW V G i:Nat),W (bS (U/2^(32*j)) (V*G) i:Nat),I (i:Nat),LM (N/V/2^(32*(j+1))*2^(32*(j+1))),LM 0,LM V,cM 17 (r0 U Z j i)]) (e+2) 0 (Nat.zero_le _) (by rw[tC,m9,tP];rfl) (fun i hi s' hJ=>?_) (fun s' hJ=>?_)
    ·subst hJ
     left
     refine⟨_,?_,rfl⟩
     have hi16:i<16:=by omega
     have hji:j+i<17:=by omega
     obtain⟨m1,m2⟩:=wM (V:=V) (i:=i) hD
     obtain⟨q1,q2⟩:=vr (U:=U) (j:=j) (k:=i) (by omega) hVn hD
     have s1:=wB V G i
     have s2:=tz V G i
     rw[nV V i] at s1 s2
     have ec:((fW V G i:Nat):Int)+(dg V i:Nat)*(G:Int)=((fW V G i+G*dg V i:Nat):Int):=by rw[Int.natCast_add,Int.natCast_mul,Int.mul_comm (G:Int)]
     rw[ec] at s1 s2
     refine aa ag (aa af (aJ (by show(i:Int)<((e+2:Nat):Int);omega) ?_))
     refine aa (eP hi16) (aa (bh _ hi16) (aa (lh V i) (aa (BE (by omega)) (aa (BT (by omega)) ?_))))
     refine aa (aZ (a:=j) (b:=i) (by omega)) (aa (aw hji) (aa (bh _ hji) ?_))
     rw[kK]
     refine aa (eH U (j+i)) (aa (gG _) ?_)
     rw[<-s1]
     refine aa (eH (V*G) i) (aa (pW _ _) (aa (pW _ _) (aa (aZ (a:=j) (b:=i) (by omega)) (aa (gG _) (aa (aw hji) ?_)))))
     rw[q2,<-hZ]
     refine aa (kN U Z j i 17 hji) (aa uc ?_)
     rw[q1]
     refine aa (qE (by omega)) ?_
     rw[<-s2]
     exact aa (av (aF (i:=i) (by omega))) rfl
    ·subst hJ
     refine⟨_,aa ag (aa af (aM (by show ¬ (((e+2:Nat):Int)<((e+2:Nat):Int));omega) rfl)),?_⟩
     have hjn:j+(e+2)<17:=by omega
     obtain⟨q1,q2⟩:=vr (U:=U) (j:=j) (k:=e+2) (Nat.le_refl _) hVn hD
     rw[<-C7 hVn hD] at q1 q2
     refine aa (aZ (a:=j) (b:=e+2) (by omega)) (aa (aw hjn) (aa (bh _ hjn) ?_))
     rw[kK]
     refine aa (eH U (j+(e+2))) (aa (pW _ _) (aa (pW _ _) (aa (aZ (a:=j) (b:=e+2) (by omega)) (aa (gG _) (aa (aw hjn) ?_)))))
     rw[q2,<-hZ]
     refine aa (kN U Z j (e+2) 17 hjn) (aa uc ?_)
     rw[q1,so (m:=e+2+1) (by rw[show j+(e+2+1)=j+(e+2)+1 by omega];exact hU) hZl,vw hW hVD]
     have hmul:V*(U/2^(32*j)/V)<=U/2^(32*j):=Nat.mul_div_le _ _
     have hmul2:U/2^(32*j)<V*(U/2^(32*j)/V+1):=Nat.lt_mul_div_succ _ hV0
     rw[hqj] at hmul hmul2 hqD d2
     by_cases hDq:G=dg (N/V) j
     ·subst hDq
      rw[if_neg (by omega)]
      refine aa (z:=false) (by rfl) ?_
      rw[if_neg (by decide),hZ,right]
      rfl
     ·have hDq':G=dg (N/V) j+1:=by omega
      rw[if_pos (by rw[hDq'];exact hmul2)]
      refine aa (z:=true) (by rfl) ?_
      rw[if_pos rfl]
      refine aa (Bm (b:=1) (by omega) (by omega)) ?_
      have hwr:=wrong (eW U Z j) (by rw[hZ,hDq'])
      have hU1:eW U Z j<2^(32*(j+(e+2+1))):=wr hZl
      generalize eW U Z j=U1 at *
      obtain⟨Z2,hZ2⟩:∃ Z2,Z2=(U1/2^(32*j)+V)%2^(32*(e+2+1)):=⟨_,rfl⟩
      have hZ2l:Z2<2^(32*(e+2+1)):=by rw[hZ2];exact Nat.mod_lt _ (Nat.two_pow_pos _)
      have hstep:∀ i,i<e+2+1->bD Z2 i=((ff (U1/2^(32*j)) V i:Nat)+(bD U1 (j+i)+bD V i))%4294967296:=fun i hi=>by
       rw[hZ2,iL,if_pos hi,zx,jT]
      refine cT (fun i s'=>s'=[W (ff (U1/2^(32*j)) V i:Nat),I (i:Nat),LM (N/V/2^(32*(j+1))*2^(32*(j+1))),LM 0,LM V,cM 17 (r0 U1 Z2 j i)]) (e+2) 0 (Nat.zero_le _) (by rw[oS,tP];rfl) (fun i hi s' hJ=>?_) (fun s' hJ=>?_)
      ·subst hJ
       left
       refine⟨_,?_,rfl⟩
       have hi16:i<16:=by omega
       have hji:j+i<17:=by omega
       have c1:=kR (U1/2^(32*j)) V i
       have a0:=cw U1 (j+i);have a1:=rM U1 (j+i)
       have b0:=cw V i;have b1:=rM V i
       have hcs:=oT (U1/2^(32*j)) V i
       rw[jT] at hcs
       refine aa ag (aa af (aJ (by show(i:Int)<((e+2:Nat):Int);omega) ?_))
       refine aa (aZ (a:=j) (b:=i) (by omega)) (aa (aw hji) (aa (bh _ hji) ?_))
       rw[kK]
       refine aa (eH U1 (j+i)) (aa (eP hi16) (aa (bh _ hi16) (aa (eH V i) (aa (qJ (by omega) (by omega)) (aa (qJ (by omega) (by omega)) (aa (aZ (a:=j) (b:=i) (by omega)) (aa (gG _) (aa (aw hji) ?_))))))))
       rw[<-hstep i (by omega)]
       refine aa (kN U1 Z2 j i 17 hji) (aa (qE (by omega)) ?_)
       rw[<-hcs]
       exact aa (av (aF (i:=i) (by omega))) rfl
      ·subst hJ
       refine⟨_,aa ag (aa af (aM (by show ¬ (((e+2:Nat):Int)<((e+2:Nat):Int));omega) rfl)),?_⟩
       have c1:=kR (U1/2^(32*j)) V (e+2)
       have hst:=hstep (e+2) (by omega)
       rw[fJ hVn (Nat.le_refl _),Int.add_zero] at hst
       refine aa (aZ (a:=j) (b:=e+2) (by omega)) (aa (aw hjn) (aa (bh _ hjn) ?_))
       rw[kK]
       refine aa (gG _) ?_
       have hadd:D.bin .add (.int .u32 (bD U1 (j+(e+2)))) (.int .u32 (((ff (U1/2^(32*j)) V (e+2):Nat):Int)%4294967296))=some (.int .u32 (bD Z2 (e+2))):=by
        simp only[D.bin,if_true]
        have hw:∀ x:Int,IntKind.u32.wrap x=x%4294967296:=fun x=>rfl
        rw[hw,hst];congr 2;omega
       refine aa hadd (aa (aw hjn) (aa (kN U1 Z2 j (e+2) 17 hjn) ?_))
       rw[so (m:=e+2+1) hU1 hZ2l,hZ2,hwr]
       rw[show G-1=dg (N/V) j by omega]
   ·have hqq:=fj (N/V) j
    refine aa (tX _) (aa (aw (show j<16 by omega)) ?_)
    rw[Nat.mod_eq_of_lt hqq]
    exact aa (zV (by omega)) (aa (dH (by simp only[inR];omega)) rfl)
 ·subst hJ
  refine⟨(0,[LM (N/V),cM 17 (bD (N%V))]),?_,?_⟩
  ·rw[show c+1-(c+1)=0 by omega,AL,Nat.mul_zero,Nat.pow_zero,Nat.div_one,Nat.mul_one]
   exact aa iD (aa af (aM (by show ¬ ((c:Int)-((c+1:Nat):Int)) ≥ 0;omega) rfl))
  ·have hRt:N%V<eN:=Nat.lt_trans (Nat.mod_lt _ hV0) hVtop
   have hlo:D.st (List.take 16 (List.drop 0 ((List.range 17).map fun i=>D.int .u32 (bD (N%V) i))))=LM (N%V):=by
    rw[qx _ (by omega)]
    exact dA fun j _=>by rw[Nat.zero_add]
   show(if decide (0+16<=((List.range 17).map fun i=>D.int .u32 (bD (N%V) i)).length)=true then _ else none)=_
   rw[if_pos (by simp),hlo]
   refine aa (Ni (n+2) hRt hs31) ?_
   rw[hRN,Nat.mul_div_cancel _ hp]
   rfl
end Go.Proofs.YtjjjkojfijpeeaaGreat.Sy
end
section
set_option linter.unusedVariables false
namespace Go.Proofs.YtjjjkojfijpeeaaGreat.Sy
open Go Go.Proofs Go.Proofs.YtjjjkojfijpeeaaGreat.Geo
theorem zY{m:Nat}(hm:m<18446744073709551616):D.st (D.putParts (List.replicate 16 (D.int .u32 0)) [(0,.int .u32 ((m:Int)%4294967296)),(1,.int .u32 ((m:Int)/4294967296%4294967296))])=LM m:=by
 have e:LM m=cM 16 (fun j=>if j=0 then(m:Int)%4294967296 else if j=1 then(m:Int)/4294967296%4294967296 else 0):=dA fun j hj=>by
  match j with
  | 0=>simp[bD]
  | 1=>simp[bD]
  | j+2=>
   rw[if_neg (by omega),if_neg (by omega)]
   exact fJ (n:=2) (by simpa using hm) (by omega)
 rw[e];rfl
theorem u9{X:Nat}(h:X<18446744073709551616):dg X 1*4294967296+dg X 0=X:=by
 unfold dg
 simp only[Nat.mul_zero,Nat.pow_zero,Nat.div_one,Nat.mul_one]
 have:(2:Nat)^32=4294967296:=rfl
 rw[this];omega
theorem fV(b:D)(c:D){X i:Nat}(h:i<16):D.get (.st [b,c,LM X]) [2,i]=some (.int .u32 (bD X i)):=aa (z:=LM X) rfl (bh _ h)
theorem yP(n:Nat){m:Nat}(h:m<eN):cA (n+1) 116 [.bool false,LM m]=some (ah (m:Int)):=by
 rw[uk n false h]
 have:sgn false m=(m:Int):=if_neg (by decide)
 rw[this]
theorem MC(n:Nat){x:Int}(hx:In x):cA (n+3) 171 [ah x]=some (ah (x.natAbs:Nat)):=by
 rw[MX]
 unfold EQ
 have h118:cA (n+2) 118 [.sl [ah x]]=some (.bool true):=rn n (a:=some x) (dm hx)
 refine aa h118 (aa cU (aa (z:=false) rfl ?_))
 rw[if_neg (by decide)]
 have hg:D.get (ah x) [2]=some (LM x.natAbs):=by rw[cn];rfl
 exact aa hg (aa (yP (n+1) (bM.1 hx)) rfl)
theorem zZ:18446744073709551616<=eN:=by
 have h:=lY (a:=2) (b:=16) (by decide)
 rw[tS] at h
 rw[fQ];exact h
theorem xW{X:Nat}(hX:X<eN):cW X<=2↔X<18446744073709551616:=by
 have h1:=eh hX
 constructor
 ·intro h
  exact Nat.lt_of_lt_of_le h1 (Nat.le_trans (Nat.pow_le_pow_right (by decide) (show 32*cW X<=64 by omega)) (by decide))
 ·intro h
  rcases Nat.lt_or_ge 2 (cW X) with k|k
  ·have:=lO (X:=X) (by omega)
   have h2:2^64<=2^(32*(cW X-1)):=Nat.pow_le_pow_right (by decide) (by omega)
   omega
  ·exact k
theorem gv{m:Nat}:In (m:Int)↔m<eN:=by rw[bM,Int.natAbs_natCast]
theorem rp(n:Nat){x y:Int}(hx:In x)(hy:In y)(ih:y≠0->cA (n+4) 131 [ah (y.natAbs:Nat),ah ((x.natAbs%y.natAbs:Nat):Int)]=some (ah (Nat.gcd y.natAbs (x.natAbs%y.natAbs):Nat))) :
  cA (n+5) 131 [ah x,ah y]=some (ah (Nat.gcd x.natAbs y.natAbs:Nat)):=by
 rw[LY]
 unfold EN
 have h118:=uf (n+2) (dm hx) (dm hy)
 refine aa h118 (aa cU (aa af ?_))
 rw[if_neg (by simp)]
 have hxt:=bM.1 hx
 have hyt:=bM.1 hy
 rw[cn x,cn y]
 have hxy:y=0↔y.natAbs=0:=by omega
 rw[Ne,hxy] at ih
 generalize hX:x.natAbs=X at *
 generalize hY:y.natAbs=Y at *
 refine aa (z:=LM X) rfl (aa (xR (n+3) hxt) (aa oH (aa af ?_)))
 refine aa (z:=decide (X<18446744073709551616)&&decide (Y<18446744073709551616)) ?_ (aa af ?_)
 ·by_cases h:X<18446744073709551616
  ·refine aJ (by have:=(xW hxt).2 h;omega) ?_
   refine aa (z:=LM Y) rfl (aa (xR (n+3) hyt) (aa oH ?_))
   rw[decide_eq_true h,Bool.true_and,af]
   congr 1;rw[decide_eq_decide,<-xW hyt];omega
  ·refine aM (by intro k;exact h ((xW hxt).1 (by omega))) ?_
   rw[decide_eq_false h,Bool.false_and]
 by_cases hs:X<18446744073709551616/\Y<18446744073709551616
 ·rw[decide_eq_true hs.1,decide_eq_true hs.2,Bool.and_self,if_pos rfl]
  have dx1:=fj X 1;have dx0:=fj X 0;have dy1:=fj Y 1;have dy0:=fj Y 0
  refine aa (fV _ _ (by decide)) (aa (lh X 1) (aa (o9 (m:=32) rfl (by decide) (by omega)) (aa (fV _ _ (by decide)) (aa (lh X 0) (aa (ir (m:=32) dx0 (by omega)) ?_)))))
  refine aa (fV _ _ (by decide)) (aa (lh Y 1) (aa (o9 (m:=32) rfl (by decide) (by omega)) (aa (fV _ _ (by decide)) (aa (lh Y 0) (aa (ir (m:=32) dy0 (by omega)) ?_)))))
  have ex:dg X 1*2^32+dg X 0=X:=u9 hs.1
  have ey:dg Y 1*2^32+dg Y 0=Y:=u9 hs.2
  rw[ex,ey]
  refine pv (fun m s=>∃ a,s=[W (a:Nat),W (m:Nat)]/\a<18446744073709551616/\m<18446744073709551616/\Nat.gcd a m=Nat.gcd X Y) Y _ ⟨X,rfl,hs.1,hs.2,rfl⟩ (fun m s hJ=>?_)
  obtain⟨a,rfl,ha,hm,hg⟩:=hJ
  have hbq:D.beq (W (m:Nat)) (.int .u64 0)=decide (m=0):=by
   simp only[D.beq,decide_true,Bool.true_and];rw[decide_eq_decide];omega
  by_cases h0:m=0
  ·right
   subst h0
   refine⟨(0,[W (a:Nat)]),?_,?_⟩
   ·refine aa (z:=false) (by show D.truth (.bool (!(D.beq (W ((0:Nat):Int)) (.int .u64 0))))=_;rw[hbq];rfl) ?_
    rw[if_neg (by decide)];rfl
   ·rw[Nat.gcd_zero_right] at hg
    refine aa (gG _) (aa (qE (by show(0:Int)<=(a:Nat);omega)) (aa (gG _) ?_))
    have e:=zY ha
    refine aa (z:=ah (a:Int)) ?_ (by rw[<-hg])
    show cA (n+4) 116 [.bool false,D.st (D.putParts (List.replicate 16 (D.int .u32 0)) [(0,.int .u32 ((a:Int)%4294967296)),(1,.int .u32 ((a:Int)/4294967296%4294967296))])]=_
    rw[e]
    exact yP (n+3) (Nat.lt_of_lt_of_le ha zZ)
  ·left
   refine⟨a%m,[W (m:Nat),W ((a%m:Nat):Int)],Nat.mod_lt _ (by omega),?_,m,rfl,hm,Nat.lt_trans (Nat.mod_lt _ (by omega)) hm,by rw[<-hg,Nat.gcd_comm a m,Nat.gcd_rec m a,Nat.gcd_comm]⟩
   refine aa (z:=true) (by show D.truth (.bool (!(D.beq (W (m:Nat)) (.int .u64 0))))=_;rw[hbq,decide_eq_false h0];rfl) ?_
   rw[if_pos rfl]
   exact aa (Br h0) rfl
 ·have:(decide (X<18446744073709551616)&&decide (Y<18446744073709551616))=false:=by
   rw[Bool.and_eq_false_iff,decide_eq_false_iff_not,decide_eq_false_iff_not];omega
  rw[this,if_neg (by decide)]
  refine aa (z:=LM X) rfl (aa (z:=LM Y) rfl ?_)
  rw[iK,ms hyt fI]
  by_cases h0:Y=0
  ·rw[decide_eq_true h0]
   refine aa (z:=false) rfl ?_
   rw[if_neg (by decide),h0,Nat.gcd_zero_right]
   have:=MC (n+1) hx
   rw[cn x,hX] at this
   exact aa this rfl
  ·rw[decide_eq_false h0]
   refine aa (z:=true) rfl ?_
   rw[if_pos rfl]
   have hr:X%Y<Y:=Nat.mod_lt _ (by omega)
   refine aa (H5 n hxt hyt (by omega)) (aa (z:=LM (X/Y)) rfl (aa (z:=LM (X%Y)) rfl (aa (yP (n+3) hyt) (aa (yP (n+3) (Nat.lt_trans hr hyt)) (aa (ih h0) ?_)))))
   rw[Nat.gcd_comm X Y,Nat.gcd_rec Y X,Nat.gcd_comm (X%Y) Y]
theorem vF:∀ (d n:Nat) {x y:Int},In x->In y->y.natAbs<2^d->cA (n+2*d+5) 131 [ah x,ah y]=some (ah (Nat.gcd x.natAbs y.natAbs:Nat))
 | 0,n,x,y,hx,hy,h=>rp n hx hy fun h0=>absurd (by omega) h0
 | d+1,n,x,y,hx,hy,h=>by
  rw[show n+2*(d+1)+5=n+2*d+2+5 by omega]
  refine rp _ hx hy fun h0=>?_
  have hyt:=bM.1 hy
  have hr:x.natAbs%y.natAbs<y.natAbs:=Nat.mod_lt _ (by omega)
  have e1:=rp (n+2*d+1) (x:=(y.natAbs:Nat)) (y:=((x.natAbs%y.natAbs:Nat):Int)) (gv.2 hyt) (gv.2 (Nat.lt_trans hr hyt)) (fun h1=>by
   simp only[Int.natAbs_natCast]
   have h2:y.natAbs%(x.natAbs%y.natAbs)<x.natAbs%y.natAbs:=Nat.mod_lt _ (by omega)
   have h3:y.natAbs%(x.natAbs%y.natAbs)<2^d:=by
    generalize x.natAbs%y.natAbs=r at *
    rw[Nat.pow_succ] at h
    rcases Nat.lt_or_ge r (2^d) with k|k
    ·omega
    ·have:y.natAbs%r=y.natAbs-r:=by
      rw[Nat.mod_eq_sub_mod (by omega),Nat.mod_eq_of_lt (by omega)]
     omega
   have:=vF d n (x:=((x.natAbs%y.natAbs:Nat):Int)) (y:=((y.natAbs%(x.natAbs%y.natAbs):Nat):Int)) (gv.2 (Nat.lt_trans hr hyt)) (gv.2 (Nat.lt_trans (Nat.lt_trans h2 hr) hyt)) (by rw[Int.natAbs_natCast];exact h3)
   simp only[Int.natAbs_natCast] at this
   exact this)
  simp only[Int.natAbs_natCast] at e1
  exact e1
theorem rF{m k:Nat}(h:k=32*16):m<eN↔m<2^k:=by
 have e:lu 16=2^k:=by rw[dC,h]
 rw[fQ,e]
theorem HP(k n:Nat)(hk:k=32*16){x y:Int}(hx:In x)(hy:In y):cA (n+2*k+5) 131 [ah x,ah y]=some (ah (Nat.gcd x.natAbs y.natAbs:Nat)):=
 vF k n hx hy ((rF hk).1 (bM.1 hy))
theorem ME(n:Nat){x y:Int}(hx:In x)(hy:In y):cA (n+1029) 131 [ah x,ah y]=some (ah (Nat.gcd x.natAbs y.natAbs:Nat)):=
 HP 512 n rfl hx hy
theorem Ls(n:Nat){x:Int}(hx:In x):cA (n+3) 217 [ah x]=some (I (jm x.natAbs:Nat)):=by
 rw[JP]
 unfold Fp
 have h118:=rn n (dm hx)
 have hxt:=bM.1 hx
 rw[show eY (some x)=_ from cn x] at h118
 rw[cn x]
 have h16:=ji x.natAbs
 have hh:=eh hxt
 refine aa (z:=LM x.natAbs) rfl (aa (xR (n+1) hxt) (aa h118 (aa cU (aa (z:=false) rfl (aa (z:=decide (cW x.natAbs=0)) (by rw[if_neg (by decide)];show D.truth (.bool (D.beq (I (cW x.natAbs:Nat)) (I ((0:Nat):Int))))=_;rw[cb];rfl) (aa af ?_))))))
 by_cases h0:cW x.natAbs=0
 ·refine aJ h0 ?_
  rw[h0] at hh
  have:x.natAbs=0:=by simpa using hh
  rw[this];rfl
 ·refine aM h0 ?_
  have hl:=lO h0
  generalize cW x.natAbs=p at *
  generalize x.natAbs=X at *
  have hd:X/2^(32*(p-1))=dg X (p-1):=jq (by rw[show p-1+1=p by omega];exact hh)
  have hdl:=fj X (p-1)
  have hbl:jm (dg X (p-1))<=32:=by
   by_cases hz:dg X (p-1)=0
   ·rw[hz];decide
   ·obtain⟨L,k1,k2,_⟩:=gU hz
    rcases Nat.lt_or_ge L 32 with h|h
    ·omega
    ·have:=Nat.pow_le_pow_right (show 0<2 by decide) h
     omega
  have hb:=qS (x:=X) (m:=32*(p-1)) hl
  rw[hd] at hb
  refine aa (iR (b:=1) rfl (by omega) (by omega)) (aa (n9 (a:=32) (by omega)) (aa (iR (b:=1) rfl (by omega) (by omega)) (aa (eP (by omega)) (aa (fV _ _ (by omega)) (aa (Hp (x:=dg X (p-1)) (n+1) hdl) (aa (aZ (a:=32*(p-1)) (b:=jm (dg X (p-1))) (by omega)) ?_))))))
  rw[hb]
theorem FE(X:Nat):64<jm X↔18446744073709551616<=X:=by
 by_cases h0:X=0
 ·subst h0;simp[jm]
 ·obtain⟨L,h1,h2,h3⟩:=gU h0
  rw[h1]
  constructor
  ·intro h
   have:=Nat.pow_le_pow_right (show 0<2 by decide) (show 64<=L by omega)
   omega
  ·intro h
   rcases Nat.lt_or_ge 64 (L+1) with k|k
   ·exact k
   ·have:=Nat.pow_le_pow_right (show 0<2 by decide) k
    omega
theorem Ea(n:Nat){x:Int}(hx:In x):(inR x/\cA (n+4) 202 [ah x]=some (.tup [I x,.bool true]))\/(¬ inR x/\cA (n+4) 202 [ah x]=some (.tup [I 0,.bool false])):=by
 rw[Lh]
 unfold Ak
 have h118:=rn (n+1) (dm hx)
 have h217:=Ls n hx
 have hxt:=bM.1 hx
 have first:∀ {y:D} {g:Bool->Option D},g (decide (18446744073709551616<=x.natAbs))=some y->(Option.bind (cA (n+3) 118 [.sl [ah x]]) fun r1=>Option.bind (D.un .not r1) fun x2=>Option.bind (D.truth x2) fun b3=>Option.bind (if b3 then(some true) else(Option.bind (cA (n+3) 217 [ah x]) fun r4=>Option.bind (D.bin .gtr r4 (D.int .i64 64)) fun x5=>D.truth x5)) fun b6=>Option.bind (D.truth (D.bool b6)) g)=some y:=fun{y g} hg=>by
  refine aa h118 (aa cU (aa (z:=false) rfl (aa (z:=decide (18446744073709551616<=x.natAbs)) ?_ (aa af hg))))
  rw[if_neg (by decide)]
  refine aa h217 (aa dV ?_)
  rw[af]
  congr 1;rw[decide_eq_decide,<-FE];omega
 by_cases hbig:18446744073709551616<=x.natAbs
 ·right
  refine⟨by simp only[inR];omega,first ?_⟩
  rw[decide_eq_true hbig,if_pos rfl]
 ·have hX:x.natAbs<18446744073709551616:=by omega
  have w1:∀ z:Int,IntKind.u64.wrap z=z%18446744073709551616:=fun z=>rfl
  have hleq:∀ (a b:Nat) {c:D},c=.int .u64 (b:Nat)->D.bin .leq (W (a:Nat)) c=some (.bool (decide (a<=b))):=fun a b c hc=>by
   subst hc;simp only[D.bin,if_true];congr 2;rw[decide_eq_decide];omega
  have dx1:=fj x.natAbs 1;have dx0:=fj x.natAbs 0
  have ex:dg x.natAbs 1*2^32+dg x.natAbs 0=x.natAbs:=u9 hX
  have cv:∀ z:Int,inR z->∀ a:Int,(a-z)%18446744073709551616=0->D.conv .i64 (W a)=some (I z):=fun z hz a h=>by
   obtain⟨h1,h2⟩:=hz
   simp only[D.conv]
   have hw:IntKind.i64.wrap a=(if(true&&decide (a%18446744073709551616 ≥ 9223372036854775808))=true then a%18446744073709551616-18446744073709551616 else a%18446744073709551616):=rfl
   rw[hw]
   congr 2
   simp only[Bool.true_and,decide_eq_true_eq]
   split<;>omega
  have go:∀ y:D,(if x<0 then(if x.natAbs<=9223372036854775808 then y=.tup [I x,.bool true] else y=.tup [I 0,.bool false]) else(if x.natAbs<9223372036854775808 then y=.tup [I x,.bool true] else y=.tup [I 0,.bool false]))->Ak bc (cA (n+3)) (ah x)=some y:=fun y hy=>by
   unfold Ak
   refine first ?_
   rw[decide_eq_false hbig,if_neg (by decide),cn x]
   refine aa (fV _ _ (by decide)) (aa (lh x.natAbs 1) (aa (o9 (m:=32) rfl (by decide) (by omega)) (aa (fV _ _ (by decide)) (aa (lh x.natAbs 0) (aa (ir (m:=32) dx0 (by omega)) ?_)))))
   rw[ex]
   refine aa (z:=.bool (decide (x<0))) rfl (aa af ?_)
   refine aa (z:=decide (x<0)&&decide (x.natAbs<=9223372036854775808)) ?_ (aa af ?_)
   ·by_cases h:x<0
    ·refine aJ h (aa (hleq _ 9223372036854775808 rfl) ?_)
     rw[af,decide_eq_true h,Bool.true_and]
    ·refine aM h ?_
     rw[decide_eq_false h,Bool.false_and]
   by_cases h:x<0
   ·rw[if_pos h] at hy
    rw[decide_eq_true h,Bool.true_and]
    by_cases h2:x.natAbs<=9223372036854775808
    ·rw[if_pos h2] at hy
     refine aJ h2 ?_
     have hn:D.un .neg (W (x.natAbs:Nat))=some (W (IntKind.u64.wrap (0-(x.natAbs:Nat)))):=by simp only[D.un]
     refine aa hn (aa (cv x (by simp only[inR];omega) _ (by rw[w1];omega)) ?_)
     rw[hy]
    ·rw[if_neg h2] at hy
     refine aM h2 (aa (z:=.bool true) (by rfl) (aa (z:=.bool false) rfl (aa (z:=false) rfl (aa (z:=false) rfl (aa (z:=false) rfl ?_)))))
     rw[if_neg (by decide),hy]
   ·rw[if_neg h] at hy
    rw[decide_eq_false h,Bool.false_and,if_neg (by decide)]
    refine aa (z:=.bool false) (by rfl) (aa (z:=.bool true) rfl (aa (z:=true) rfl (aa (z:=decide (x.natAbs<9223372036854775808)) ?_ (aa af ?_))))
    ·rw[if_pos rfl];exact aa (FT (b:=9223372036854775808) rfl) af
    by_cases h2:x.natAbs<9223372036854775808
    ·rw[if_pos h2] at hy
     refine aJ h2 (aa (cv x (by simp only[inR];omega) _ (by omega)) ?_)
     rw[hy]
    ·rw[if_neg h2] at hy
     refine aM h2 ?_
     rw[hy]
  by_cases hr:inR x
  ·left
   refine⟨hr,go _ ?_⟩
   simp only[inR] at hr
   split
   ·rw[if_pos (by omega)]
   ·rw[if_pos (by omega)]
  ·right
   refine⟨hr,go _ ?_⟩
   simp only[inR] at hr
   split
   ·rw[if_neg (by omega)]
   ·rw[if_neg (by omega)]
end Go.Proofs.YtjjjkojfijpeeaaGreat.Sy
end
section
set_option linter.unusedVariables false
namespace Go.Proofs.YtjjjkojfijpeeaaGreat.Sy
open Go Go.Proofs Go.Proofs.YtjjjkojfijpeeaaGreat.Geo
theorem zq{x y q:Int}(hy:y≠0)(h:x=y*q):sgn (!(decide (decide (x<0)=decide (y<0)))) (x.natAbs/y.natAbs)=q:=by
 have e:x.natAbs/y.natAbs=q.natAbs:=by
  rw[h,Int.natAbs_mul,Nat.mul_div_cancel_left _ (by omega)]
 rw[e]
 have key:q=0\/(q<0/\(x<0↔¬ y<0))\/(0<q/\(x<0↔y<0)):=by
  rcases Int.lt_trichotomy q 0 with hq|hq|hq
  ·right;left
   refine⟨hq,?_⟩
   rcases Int.lt_or_gt_of_ne hy with k|k
   ·have:=Int.mul_pos_of_neg_of_neg k hq;omega
   ·have:=Int.mul_neg_of_pos_of_neg k hq;omega
  ·exact .inl hq
  ·right;right
   refine⟨hq,?_⟩
   rcases Int.lt_or_gt_of_ne hy with k|k
   ·have:=Int.mul_neg_of_neg_of_pos k hq;omega
   ·have:=Int.mul_pos k hq;omega
 unfold sgn
 by_cases hx:x<0<;>by_cases hyy:y<0<;>simp[hx,hyy]<;>omega
theorem dK(x:Int):D.get (ah x) [1]=some (.bool (decide (x<0))):=rfl
theorem zb(x:Int):D.get (ah x) [2]=some (LM x.natAbs):=by rw[cn];rfl
theorem CM{x:Int}(h:x≠0):sg x≠0:=by unfold sg;split<;>(try split)<;>omega
theorem BL{x y:Int}(hx:In x)(h:y ∣ x):In (x/y):=by
 obtain⟨q,rfl⟩:=h
 rw[bM] at *
 by_cases hy:y=0
 ·subst hy;simp;exact fI
 ·rw[Int.mul_ediv_cancel_left _ hy]
  rw[Int.natAbs_mul] at hx
  exact Nat.lt_of_le_of_lt (Nat.le_mul_of_pos_left _ (by omega)) hx
theorem L4(n:Nat){x y:Int}(hx:In x)(hy:In y)(hy0:y≠0)(hd:y ∣ x):cA (n+5) 172 [ah x,ah y]=some (.tup [ah (x/y),ah 0]):=by
 have hin:=BL hx hd
 obtain⟨q,hq⟩:=hd
 have exy:x/y=q:=by rw[hq];exact Int.mul_ediv_cancel_left _ hy0
 rw[exy] at hin ⊢
 rw[MZ]
 unfold Ey
 have h118:cA (n+4) 118 [.sl [ah x,ah y]]=some (.bool true):=uf (n+2) (a:=some x) (b:=some y) (dm hx) (dm hy)
 have hbe:∀ a b:Int,D.beq (I a) (.int .i64 b)=decide (a=b):=fun a b=>ca
 refine aa h118 (aa cU (aa (z:=false) rfl (aa (z:=false) ?_ (aa (z:=false) rfl ?_))))
 ·rw[if_neg (by decide)]
  refine aa (Gk (n+1) hy) ?_
  rw[hbe,decide_eq_false (CM hy0)];rfl
 rw[if_neg (by decide)]
 by_cases fast:(inR x/\x≠-9223372036854775808)/\inR y/\y≠-9223372036854775808
 ·obtain⟨⟨fx,fx1⟩,fy,fy1⟩:=fast
  have hx202:cA (n+4) 202 [ah x]=some (.tup [I x,.bool true]):=by
   rcases Ea n hx with⟨_,h⟩|⟨h,_⟩
   ·exact h
   ·exact absurd fx h
  have hy202:cA (n+4) 202 [ah y]=some (.tup [I y,.bool true]):=by
   rcases Ea n hy with⟨_,h⟩|⟨h,_⟩
   ·exact h
   ·exact absurd fy h
  have hqa:q.natAbs<=x.natAbs:=by rw[hq,Int.natAbs_mul];exact Nat.le_mul_of_pos_left _ (by omega)
  have hqr:inR q:=by simp only[inR] at *;omega
  have e1:x.tdiv y=q:=by rw[hq];exact Int.mul_tdiv_cancel_left _ hy0
  have e2:x.tmod y=0:=by rw[hq];exact Int.mul_tmod_right ..
  refine aa (z:=(0,[ah q,ah 0])) ?_ rfl
  refine aa hx202 (aa (z:=I x) rfl (aa (z:=.bool true) rfl (aa (z:=true) rfl (aa (z:=true) ?_ (aa (z:=true) rfl ?_)))))
  ·rw[if_pos rfl,hbe,decide_eq_false fx1];rfl
  rw[if_pos rfl]
  refine aa hy202 (aa (z:=I y) rfl (aa (z:=.bool true) rfl (aa (z:=true) rfl (aa (z:=true) ?_ (aa (z:=true) rfl ?_)))))
  ·rw[if_pos rfl,hbe,decide_eq_false fy1];rfl
  rw[if_pos rfl]
  refine aa (tq hy0 (by rw[e1];exact hqr)) (aa (tH hy0) ?_)
  rw[e1,e2]
  refine aa (z:=(0,[I q,I 0])) (aa (z:=false) rfl (aa (z:=false) rfl (aa (z:=false) rfl rfl))) ?_
  exact aa (B0 (n+2) hqr) (aa (B0 (n+2) (show inR 0 from⟨by decide,by decide⟩)) rfl)
 ·refine aa (z:=(1,[.st [.bool false,.bool false,aB aU],.st [.bool false,.bool false,aB aU]])) ?_ ?_
  ·rcases Ea n hx with⟨fx,h⟩|⟨fx,h⟩
   ·by_cases fx1:x=-9223372036854775808
    ·refine aa h (aa (z:=I x) rfl (aa (z:=.bool true) rfl (aa (z:=true) rfl (aa (z:=false) ?_ (aa (z:=false) rfl rfl)))))
     rw[if_pos rfl,hbe,decide_eq_true fx1];rfl
    ·refine aa h (aa (z:=I x) rfl (aa (z:=.bool true) rfl (aa (z:=true) rfl (aa (z:=true) ?_ (aa (z:=true) rfl ?_)))))
     ·rw[if_pos rfl,hbe,decide_eq_false fx1];rfl
     rw[if_pos rfl]
     rcases Ea n hy with⟨fy,h2⟩|⟨fy,h2⟩
     ·have fy1:y=-9223372036854775808:=Classical.byContradiction fun k=>fast ⟨⟨fx,fx1⟩,fy,k⟩
      refine aa h2 (aa (z:=I y) rfl (aa (z:=.bool true) rfl (aa (z:=true) rfl (aa (z:=false) ?_ (aa (z:=false) rfl rfl)))))
      rw[if_pos rfl,hbe,decide_eq_true fy1];rfl
     ·exact aa h2 (aa (z:=I 0) rfl (aa (z:=.bool false) rfl (aa (z:=false) rfl (aa (z:=false) rfl (aa (z:=false) rfl rfl)))))
   ·exact aa h (aa (z:=I 0) rfl (aa (z:=.bool false) rfl (aa (z:=false) rfl (aa (z:=false) rfl (aa (z:=false) rfl rfl)))))
  rw[if_neg (by decide)]
  have hxt:=bM.1 hx
  have hyt:=bM.1 hy
  have hmod:x.natAbs%y.natAbs=0:=by rw[hq,Int.natAbs_mul];exact Nat.mul_mod_right _ _
  have hqt:x.natAbs/y.natAbs<eN:=Nat.lt_of_le_of_lt (Nat.div_le_self _ _) hxt
  have h170:=H5 n hxt hyt (by omega)
  rw[hmod] at h170
  refine aa (zb x) (aa (zb y) (aa h170 (aa (z:=LM (x.natAbs/y.natAbs)) rfl (aa (z:=LM 0) rfl (aa (dK x) (aa (dK y) ?_))))))
  have hb:(!(D.beq (.bool (decide (x<0))) (.bool (decide (y<0)))))=!(decide (decide (x<0)=decide (y<0))):=by
   by_cases h1:x<0<;>by_cases h2:y<0<;>simp[h1,h2,D.beq]
  rw[hb,iK,ms fI fI,decide_eq_true rfl]
  refine aa (uk (n+3) _ hqt) ?_
  rw[zq hy0 hq]
  refine aa (z:=(0,[LM 0,ah q])) (aa (z:=false) rfl (aa (z:=false) rfl (aa (z:=false) rfl rfl))) ?_
  refine aa (dK y) (aa (uk (n+3) _ fI) ?_)
  have:sgn (decide (y<0)) 0=0:=by unfold sgn;split<;>rfl
  rw[this];rfl
theorem Hu(n:Nat){x y:Int}(hx:In x)(hy:In y)(hy0:y≠0)(hd:y ∣ x):cA (n+6) 132 [ah x,ah y]=some (ah (x/y)):=by
 rw[LC]
 unfold EU
 exact aa (L4 n hx hy hy0 hd) (aa (z:=ah (x/y)) rfl (aa (z:=ah 0) rfl rfl))
def bw(q:Rat):D:=.st [ah q.num,ah (q.den:Int)]
def w9(q:Rat):Prop:=In q.num/\In (q.den:Int)
theorem Iy(n:Nat){x:Int}(hx:In x):cA (n+2) 128 [ah x]=some (.bool true):=by
 rw[JV]
 unfold Fj
 have h:cA (n+1) 167 [ah x]=some (.bool true):=HH n (a:=some x) (dm hx)
 refine aa (z:=.bool false) rfl (aa (z:=.bool true) rfl (aa (z:=true) rfl (aa (z:=true) ?_ rfl)))
 rw[if_pos rfl]
 exact aa h rfl
theorem yN(n:Nat){x:Int}(hx:In x):cA (n+3) 68 [ah x]=some (ah (-x)):=Rv n (a:=some x) (dm hx)
theorem jQ(x:Int){d:Int}(hd:d≠0):(Rat.divInt x d).num=x/(if d<0 then -(Nat.gcd x.natAbs d.natAbs:Int) else(Nat.gcd x.natAbs d.natAbs:Int))/\((Rat.divInt x d).den:Int)=d/(if d<0 then -(Nat.gcd x.natAbs d.natAbs:Int) else(Nat.gcd x.natAbs d.natAbs:Int)):=by
 have hg:d.gcd x=Nat.gcd x.natAbs d.natAbs:=by unfold Int.gcd;exact Nat.gcd_comm ..
 have hgp:0<Nat.gcd x.natAbs d.natAbs:=Nat.gcd_pos_of_pos_right _ (by omega)
 have dx:((Nat.gcd x.natAbs d.natAbs:Nat):Int) ∣ x:=Int.ofNat_dvd_left.2 (Nat.gcd_dvd_left _ _)
 have dd:((Nat.gcd x.natAbs d.natAbs:Nat):Int) ∣ d:=Int.ofNat_dvd_left.2 (Nat.gcd_dvd_right _ _)
 rw[Rat.num_divInt,Rat.den_divInt,if_neg hd,hg]
 generalize Nat.gcd x.natAbs d.natAbs=g at *
 by_cases h:d<0
 ·rw[if_pos h,Int.sign_eq_neg_one_of_neg h]
  refine⟨?_,?_⟩
  ·rw[Int.ediv_neg,show -1*x=-x by omega,Int.neg_ediv_of_dvd dx]
  ·rw[Int.ediv_neg,Int.natCast_ediv,<-Int.neg_ediv_of_dvd dd]
   congr 1;omega
 ·rw[if_neg h,Int.sign_eq_one_of_pos (by omega),Int.one_mul]
  refine⟨rfl,?_⟩
  rw[Int.natCast_ediv]
  congr 1;omega
theorem Oa(n:Nat){x d:Int}(hx:In x)(hd:In d)(hd0:d≠0):cA (n+1030) 62 [ah x,ah d]=some (bw (Rat.divInt x d)):=by
 rw[Oq]
 unfold IM
 have hbe:∀ a b:Int,D.beq (I a) (.int .i64 b)=decide (a=b):=fun a b=>ca
 have hgp:0<Nat.gcd x.natAbs d.natAbs:=Nat.gcd_pos_of_pos_right _ (by omega)
 have dx:((Nat.gcd x.natAbs d.natAbs:Nat):Int) ∣ x:=Int.ofNat_dvd_left.2 (Nat.gcd_dvd_left _ _)
 have dd:((Nat.gcd x.natAbs d.natAbs:Nat):Int) ∣ d:=Int.ofNat_dvd_left.2 (Nat.gcd_dvd_right _ _)
 have hgle:Nat.gcd x.natAbs d.natAbs<=d.natAbs:=Nat.gcd_le_right _ (by omega)
 have hgin:In (Nat.gcd x.natAbs d.natAbs:Nat):=gv.2 (Nat.lt_of_le_of_lt hgle (bM.1 hd))
 obtain⟨p1,p2⟩:=jQ x hd0
 unfold bw
 rw[p1,p2]
 refine aa (Iy (n+1027) hx) (aa (z:=.bool false) rfl (aa (z:=false) rfl (aa (z:=false) ?_ (aa (z:=false) rfl (aa (z:=false) ?_ (aa (z:=false) rfl ?_))))))
 ·rw[if_neg (by decide)];exact aa (Iy (n+1027) hd) rfl
 ·rw[if_neg (by decide)]
  refine aa (Gk (n+1026) hd) ?_
  rw[hbe,decide_eq_false (CM hd0)];rfl
 rw[if_neg (by decide)]
 refine aa (ME n hx hd) ?_
 generalize Nat.gcd x.natAbs d.natAbs=g at *
 refine aa (z:=(0,[ah (if d<0 then -(g:Int) else(g:Int))])) ?_ ?_
 ·refine aa (Gk (n+1026) hd) (aa ag (aa af ?_))
  by_cases h:d<0
  ·rw[if_pos h]
   refine aJ (by rw[uW h];decide) ?_
   exact aa (yN (n+1026) hgin) rfl
  ·rw[if_neg h]
   exact aM (by rw[kg (by omega)];decide) rfl
 ·have hin2:In (if d<0 then -(g:Int) else(g:Int)):=by
   split
   ·rw[bM,Int.natAbs_neg];exact bM.1 hgin
   ·exact hgin
  have hne:(if d<0 then -(g:Int) else(g:Int))≠0:=by split<;>omega
  have ddx:(if d<0 then -(g:Int) else(g:Int)) ∣ x:=by split<;>first|exact Int.neg_dvd.2 dx|exact dx
  have ddd:(if d<0 then -(g:Int) else(g:Int)) ∣ d:=by split<;>first|exact Int.neg_dvd.2 dd|exact dd
  exact aa (Hu (n+1023) hx hin2 hne ddx) (aa (Hu (n+1023) hd hin2 hne ddd) rfl)
end Go.Proofs.YtjjjkojfijpeeaaGreat.Sy
end
section
set_option linter.unusedVariables false
namespace Go.Proofs.YtjjjkojfijpeeaaGreat.Sy
open Go Go.Proofs Go.Proofs.YtjjjkojfijpeeaaGreat.Geo
theorem GD(x:Int):D.get (ah x) [2,1]=some (U (eC (aE x.natAbs) 1)):=cZ (i:=1) (by decide)
theorem B4(n:Nat){x:Int}(hx:In x)(h:¬ Wd x):cA (n+3) 124 [ah x]=some (.tup [I 0,.bool false]):=by
 have hW:4611686018427387904<=x.natAbs:=by unfold Wd at h;omega
 rw[Hq]
 unfold Da
 have l1:=Bw x.natAbs
 refine aa (rO n hx) (aa cU (aa (z:=false) rfl (aa (z:=decide (1073741824<=x.natAbs/4294967296%4294967296)) ?_ (aa af ?_))))
 ·rw[if_neg (by decide)]
  refine aa (GD x) ?_
  rw[l1]
  have:D.bin .geq (U (x.natAbs/4294967296%4294967296)) (.int .u32 1073741824)=some (.bool (decide (1073741824<=x.natAbs/4294967296%4294967296))):=by
   simp only[D.bin,if_true];congr 2;rw[decide_eq_decide];omega
  exact aa this rfl
 by_cases h1:1073741824<=x.natAbs/4294967296%4294967296
 ·exact aJ h1 rfl
 ·refine aM h1 ?_
  have hbig:18446744073709551616<=x.natAbs:=by omega
  refine be (fun i s=>s=[I (i:Int)]/\2<=i/\∀ k,2<=k->k<i->eC (aE x.natAbs) k=0) 16 2 (by decide) ⟨rfl,by decide,fun k h1 h2=>by omega⟩ (fun i hi s hJ=>?_) (fun s hJ=>?_)
  ·obtain⟨rfl,h2,hz⟩:=hJ
   have hb:D.bin .lss (I (i:Int)) (D.int .i64 16)=some (.bool true):=by rw[ag,decide_eq_true (by omega)]
   by_cases h0:eC (aE x.natAbs) i=0
   ·left
    refine⟨[I ((i+1:Nat):Int)],?_,rfl,by omega,fun k k1 k2=>?_⟩
    ·refine aa hb (aa (z:=true) rfl ?_)
     rw[if_pos rfl]
     refine aa (aw hi) (aa (cZ hi) ?_)
     rw[h0]
     refine aa (z:=false) rfl ?_
     rw[if_neg (by decide)]
     exact aa (av (aF (i:=i) (by omega))) rfl
    ·by_cases e:k=i
     ·subst e;exact h0
     ·exact hz k k1 (by omega)
   ·right
    refine⟨(0,[I 0,.bool false]),?_,rfl⟩
    refine aa hb (aa (z:=true) rfl ?_)
    rw[if_pos rfl]
    refine aa (aw hi) (aa (cZ hi) (aa (z:=true) ?_ ?_))
    ·show D.truth (.bool (!(D.beq (U (eC (aE x.natAbs) i)) (U 0))))=_
     rw[F5,decide_eq_false h0];rfl
    ·rw[if_pos rfl]
  ·exfalso
   obtain⟨_,_,hz⟩:=hJ
   have h3:x.natAbs/18446744073709551616=0:=by
    have hlt:x.natAbs/18446744073709551616<65536^32:=Nat.lt_of_le_of_lt (Nat.div_le_self _ _) hx
    refine qh hlt fun i hi=>?_
    rw[gT,Nat.div_div_eq_div_mul,show(18446744073709551616:Nat)=4294967296^2 from rfl,<-Nat.pow_add]
    by_cases k:i+2<16
    ·have:=hz (i+2) (by omega) k
     rw[gT] at this
     rw[Nat.add_comm 2 i];exact this
    ·have e16:(65536:Nat)^32=4294967296^16:=by rw[show(4294967296:Nat)=65536^2 from rfl,<-Nat.pow_mul]
     have hx':x.natAbs<4294967296^16:=by rw[<-e16];exact hx
     rw[Nat.div_eq_of_lt (Nat.lt_of_lt_of_le hx' (Nat.pow_le_pow_right (by decide) (show 16<=2+i by omega))),Nat.zero_mod]
   omega
theorem Ks(n:Nat):cA (n+1) 125 []=some Gx:=by
 rw[Mj];unfold DV;rw[fG];rfl
theorem Fw(n:Nat){l:List Nat}{neg:Bool}(hd:dl l)(hl:l.length<=1000000):cA (n+2) 81 [.bool neg,.sl (ab l)]=some (eY (lI (sgn neg (aS l)))):=by
 by_cases hv:aS l<65536^32
 ·rw[FR n hd hl hv,fc (by unfold In;rw[mW];exact hv)];rfl
 ·have hno:lI (sgn neg (aS l))=none:=by
   unfold lI;rw[mW,<-tQ,if_neg hv]
  rw[hno,ND]
  unfold H2
  refine aa (wl n hl) ?_
  rw[gc hd]
  have hlen:¬ (aE (aS l)).length<=32:=fun h=>hv (by
   have:=jI (aO (aS l))
   rw[ao] at this
   exact Nat.lt_of_lt_of_le this (Nat.pow_le_pow_right (by decide) h))
  refine aa (z:=ab (aE (aS l))) rfl (aa dV (aa af (aJ (by show((ab (aE (aS l))).length:Int)>32;rw[aj];omega) ?_)))
  exact aa (Ks n) rfl
theorem Fc(n:Nat){a b:List Nat}(ha:dl a)(hb:dl b)(hla:a.length<=400000)(hle:aS b<=aS a):cA (n+2) 126 [.sl (ab a),.sl (ab b)]=some (.sl (ab (aE (aS a-aS b)))):=by
 rw[Ko]
 unfold Du
 refine be (fun k s=>∃ (out:List Nat) (c:Nat),s=[.sl (ab out),I (c:Int),I (k:Int)]/\out.length=k/\dl out/\c<=1/\aS out+vt b k=vt a k+c*65536^k) a.length 0 (Nat.zero_le _) ⟨[],0,rfl,rfl,(by intro d hd;cases hd),by omega,by simp[aS,vt]⟩ (fun k hk s hJ=>?_) (fun s hJ=>?_)
 ·obtain⟨out,c,rfl,ho,hdo,hc,hv⟩:=hJ
  left
  have h1:=ha.getD k
  have h2:=hb.getD k
  obtain⟨e,f,hef,he,hf⟩:∃ e f:Nat,e+b.getD k 0+c=a.getD k 0+f*65536/\e<65536/\f<=1:=by
   by_cases h:b.getD k 0+c<=a.getD k 0
   ·exact⟨a.getD k 0-(b.getD k 0+c),0,by omega,by omega,by omega⟩
   ·exact⟨a.getD k 0+65536-(b.getD k 0+c),1,by omega,by omega,by omega⟩
  refine⟨[.sl (ab (out++[e])),I (f:Int),I ((k+1:Nat):Int)],?_,out++[e],f,rfl,by simp[ho],hdo.append (fun x hx=>by simp at hx;omega),hf,?_⟩
  ·refine aa (z:=ab a) rfl (aa ag (aa af (aJ (by show(k:Int)<((ab a).length:Int);rw[aj];omega) ?_)))
   refine aa (z:=ab a) rfl (aa (tT hk) (aa (de hk) (aa (Aj n b k) (aa (dH (by simp only[inR];omega)) (aa (dH (by simp only[inR];omega)) ?_)))))
   refine aa (z:=(0,[.sl (ab out),I (f:Int),I (e:Int)])) ?_ ?_
   ·refine aa ag (aa af ?_)
    by_cases hneg:((a.getD k 0:Nat):Int)-(b.getD k 0:Nat)-(c:Int)<0
    ·refine aJ hneg (aa (av (by simp only[inR];omega)) ?_)
     have e1:(((a.getD k 0:Nat):Int)-(b.getD k 0:Nat)-(c:Int)+65536)=(e:Int):=by omega
     have e2:f=1:=by omega
     rw[e1,e2];rfl
    ·refine aM hneg ?_
     have e1:(((a.getD k 0:Nat):Int)-(b.getD k 0:Nat)-(c:Int))=(e:Int):=by omega
     have e2:f=0:=by omega
     rw[e1,e2];rfl
   ·rw[if_pos (by simp only[g0,D.els,aj,List.length_cons,List.length_nil];omega)]
    refine aa (av (aF (i:=k) (by omega))) ?_
    show some (Sum.inl [D.sl (ab out++[I (e:Int)]),_,_])=_
    rw[tA];rfl
  ·rw[kw,ho,vt,vt,Nat.pow_succ]
   have e2:aS [e]=e:=by simp[aS]
   rw[e2]
   generalize 65536^k=B at *
   have:(e+b.getD k 0+c)*B=(a.getD k 0+f*65536)*B:=by rw[hef]
   rw[Nat.add_mul,Nat.add_mul,Nat.add_mul] at this
   rw[show f*(B*65536)=f*65536*B by rw[Nat.mul_comm B,<-Nat.mul_assoc],Nat.mul_comm B e]
   omega
 ·obtain⟨out,c,rfl,ho,hdo,hc,hv⟩:=hJ
  refine⟨(0,[.sl (ab out)]),aa (z:=ab a) rfl (aa ag (aa af (aM (by show ¬ ((a.length:Int)<((ab a).length:Int));rw[aj];omega) rfl))),?_⟩
  refine aa (wl n (l:=out) (by omega)) ?_
  rw[kC] at hv
  have hvb:vt b a.length=aS b:=by
   rcases Nat.le_total b.length a.length with k|k
   ·exact gN k
   ·have hbl:=rA hb b.length
    have hal:=jI ha
    have key:∀ j,aS b<65536^a.length->vt b (a.length+j)=vt b a.length:=fun j hlt=>by
     induction j with
     | zero=>rfl
     | succ j ih=>
      rw[<-Nat.add_assoc,vt,ih]
      have hz:b.getD (a.length+j) 0=0:=by
       rcases Nat.eq_zero_or_pos (b.getD (a.length+j) 0) with h|h
       ·exact h
       ·exfalso
        have m1:vt b (a.length+j+1)<=aS b:=by
         rw[<-kC b]
         rcases Nat.le_total (a.length+j+1) b.length with q|q
         ·obtain⟨m,hm⟩:∃ m,b.length=a.length+j+1+m:=⟨b.length-(a.length+j+1),by omega⟩
          rw[hm]
          clear hm
          induction m with
          | zero=>exact Nat.le_refl _
          | succ m ihm=>exact Nat.le_trans ihm (Nat.le_add_right _ _)
         ·rw[gN q,kC];exact Nat.le_refl _
        rw[vt] at m1
        have m2:65536^a.length<=65536^(a.length+j):=Nat.pow_le_pow_right (by decide) (by omega)
        have m3:1*65536^(a.length+j)<=b.getD (a.length+j) 0*65536^(a.length+j):=Nat.mul_le_mul_right _ h
        omega
      rw[hz];simp
    obtain⟨m,hm⟩:∃ m,b.length=a.length+m:=⟨b.length-a.length,by omega⟩
    have:=key m (Nat.lt_of_le_of_lt hle hal)
    rw[<-hm,kC] at this
    exact this.symm
  have hdl:=jI hdo
  rw[ho] at hdl
  have hal:=jI ha
  have hc0:c=0:=by
   rcases Nat.eq_zero_or_pos c with h|h
   ·exact h
   ·have:1*65536^a.length<=c*65536^a.length:=Nat.mul_le_mul_right _ h
    omega
  subst hc0
  rw[gc hdo]
  have:aS out=aS a-aS b:=by omega
  rw[this]
theorem qs(m:Int)(h:In m):(aE m.natAbs).length<=32:=bF 32 _ h
theorem Hn(n:Nat){x y:Int}(hx:In x)(hy:In y):cA (n+4) 59 [ah x,ah y]=some (eY (lI (x+y))):=by
 by_cases hw:Wd x/\Wd y
 ·have hin:In (x+y):=by
   have:Sy.inR (x+y):=by have:=hw.1;have:=hw.2;unfold Wd at *;simp only[Sy.inR];omega
   exact In.of this
  rw[OI n hw.1 hw.2,fc hin];rfl
 ·rw[Nz]
  unfold Is
  have hws:∀ z:Int,In z->∃ w b,cA (n+3) 124 [ah z]=some (.tup [I w,.bool b])/\(b=true->Wd z):=fun z hz=>by
   by_cases h:Wd z
   ·exact⟨z,true,qu n h,fun _=>h⟩
   ·exact⟨0,false,B4 n hz h,fun e=>by cases e⟩
  obtain⟨w1,b1,h1,k1⟩:=hws x hx
  obtain⟨w2,b2,h2,k2⟩:=hws y hy
  have hb:(b1&&b2)=false:=by
   cases b1<;>cases b2<;>first|rfl|exact absurd ⟨k1 rfl,k2 rfl⟩ hw
  refine aa h1 (aa (z:=I w1) rfl (aa (z:=.bool b1) rfl (aa h2 (aa (z:=I w2) rfl (aa (z:=.bool b2) rfl (aa (z:=b1) rfl (aa (z:=false) (by cases b1<;>cases b2<;>simp at hb<;>rfl) (aa (z:=false) rfl ?_))))))))
  rw[if_neg (by decide)]
  refine aa (rO (n+1) hx) (aa cU (aa (z:=false) rfl (aa (z:=false) (by rw[if_neg (by decide)];exact aa (rO (n+1) hy) rfl) (aa (z:=false) rfl ?_))))
  rw[if_neg (by decide)]
  have lx:=qs x hx;have ly:=qs y hy
  refine aa (xo (n+1) hx) (aa (xo (n+1) hy) (aa (dK x) (aa (dK y) (aa (z:=decide (decide (x<0)=decide (y<0))) (by by_cases h1:x<0<;>by_cases h2:y<0<;>simp[h1,h2,D.beq,D.truth]) ?_))))
  by_cases hs:decide (x<0)=decide (y<0)
  ·refine aJ hs (aa (dK x) (aa (NR (n+1) (aO _) (aO _) (by omega) (by omega)) ?_))
   rw[ao,ao]
   have hlen:(aE (x.natAbs+y.natAbs)).length<=33:=bF 33 _ (by
    have e:(65536:Nat)^33=65536^32*65536:=Nat.pow_succ ..
    rw[e];unfold In at hx hy;omega)
   refine aa (Fw (n+1) (aO _) (by omega)) ?_
   rw[ao]
   have:sgn (decide (x<0)) (x.natAbs+y.natAbs)=x+y:=by
    unfold sgn;rw[decide_eq_decide] at hs;simp only[decide_eq_true_eq];split<;>omega
   rw[this]
  ·refine aM hs ?_
   have hs':¬ (x<0↔y<0):=fun e=>hs (by rw[decide_eq_decide];exact e)
   have h78:=Jb (n+1) (aO x.natAbs) (aO y.natAbs) (by omega) (by omega)
   rw[ao,ao] at h78
   refine aa h78 (aa af ?_)
   by_cases hlt:x.natAbs<y.natAbs
   ·refine aJ hlt (aa (dK y) (aa (Fc (n+1) (aO _) (aO _) (by omega) (by rw[ao,ao];omega)) ?_))
    rw[ao,ao]
    have hlen:(aE (y.natAbs-x.natAbs)).length<=32:=bF 32 _ (by unfold In at hy;omega)
    refine aa (Fw (n+1) (aO _) (by omega)) ?_
    rw[ao]
    have:sgn (decide (y<0)) (y.natAbs-x.natAbs)=x+y:=by
     unfold sgn;simp only[decide_eq_true_eq];split<;>omega
    rw[this]
   ·refine aM hlt (aa (dK x) (aa (Fc (n+1) (aO _) (aO _) (by omega) (by rw[ao,ao];omega)) ?_))
    rw[ao,ao]
    have hlen:(aE (x.natAbs-y.natAbs)).length<=32:=bF 32 _ (by unfold In at hx;omega)
    refine aa (Fw (n+1) (aO _) (by omega)) ?_
    rw[ao]
    have:sgn (decide (x<0)) (x.natAbs-y.natAbs)=x+y:=by
     unfold sgn;simp only[decide_eq_true_eq];split<;>omega
    rw[this]
theorem Bx(n:Nat){x y:Int}(hx:In x)(hy:In y):cA (n+4) 89 [ah x,ah y]=some (eY (lI (x*y))):=by
 by_cases hw:Wd x/\Wd y
 ·have hin:In (x*y):=by
   have h1:=hw.1;have h2:=hw.2
   unfold Wd at h1 h2
   unfold In
   rw[Int.natAbs_mul]
   have hxy:x.natAbs*y.natAbs<65536^8:=by
    have e:(65536:Nat)^8=18446744073709551616*18446744073709551616:=by decide
    rw[e];exact Nat.mul_lt_mul'' (by omega) (by omega)
   exact Nat.lt_of_lt_of_le hxy (Nat.pow_le_pow_right (by decide) (by decide))
  rw[Q7 n hw.1 hw.2,fc hin];rfl
 ·rw[Nv]
  unfold H4
  have hws:∀ z:Int,In z->∃ w b,cA (n+3) 124 [ah z]=some (.tup [I w,.bool b])/\(b=true->Wd z):=fun z hz=>by
   by_cases h:Wd z
   ·exact⟨z,true,qu n h,fun _=>h⟩
   ·exact⟨0,false,B4 n hz h,fun e=>by cases e⟩
  obtain⟨w1,b1,h1,k1⟩:=hws x hx
  obtain⟨w2,b2,h2,k2⟩:=hws y hy
  have hb:(b1&&b2)=false:=by
   cases b1<;>cases b2<;>first|rfl|exact absurd ⟨k1 rfl,k2 rfl⟩ hw
  refine aa h1 (aa (z:=I w1) rfl (aa (z:=.bool b1) rfl (aa h2 (aa (z:=I w2) rfl (aa (z:=.bool b2) rfl (aa (z:=b1) rfl (aa (z:=false) (by cases b1<;>cases b2<;>simp at hb<;>rfl) (aa (z:=false) rfl (aa (z:=false) rfl (aa (z:=false) rfl (aa (z:=false) rfl (aa (z:=false) rfl ?_))))))))))))
  rw[if_neg (by decide)]
  refine aa (rO (n+1) hx) (aa cU (aa (z:=false) rfl (aa (z:=false) (by rw[if_neg (by decide)];exact aa (rO (n+1) hy) rfl) (aa (z:=false) rfl ?_))))
  rw[if_neg (by decide)]
  have lx:=qs x hx;have ly:=qs y hy
  refine aa (dK x) (aa (dK y) (aa (xo (n+1) hx) (aa (xo (n+1) hy) (aa (Gh (n+1) (aO _) (aO _) (by omega) (by omega)) ?_))))
  rw[ao,ao]
  have hlen:(aE (x.natAbs*y.natAbs)).length<=64:=bF 64 _ (by
   have e:(65536:Nat)^64=65536^32*65536^32:=by rw[<-Nat.pow_add]
   rw[e];exact Nat.mul_lt_mul'' hx hy)
  have hb':(!(D.beq (.bool (decide (x<0))) (.bool (decide (y<0)))))=!(decide (decide (x<0)=decide (y<0))):=by
   by_cases h1:x<0<;>by_cases h2:y<0<;>simp[h1,h2,D.beq]
  rw[hb']
  refine aa (Fw (n+1) (aO _) (by omega)) ?_
  rw[ao,uR]
theorem NT(n:Nat){x:Int}(hx:In x):cA (n+3) 86 [ah x]=some (ah (-x)):=by
 rw[Ov]
 unfold Jw
 have lx:=qs x hx
 refine aa (rO n hx) (aa cU (aa (z:=false) rfl ?_))
 rw[if_neg (by decide)]
 refine aa (dK x) (aa cU (aa (xo n hx) (aa (FR n (aO _) (by omega) (by rw[ao];exact hx)) ?_)))
 rw[ao]
 have:sgn (!(decide (x<0))) x.natAbs=-x:=by
  unfold sgn;by_cases h:x<0<;>simp[h]<;>omega
 rw[this]
end Go.Proofs.YtjjjkojfijpeeaaGreat.Sy
end
section
set_option linter.unusedVariables false
namespace Go.Proofs.YtjjjkojfijpeeaaGreat.Sy
open Go Go.Proofs Go.Proofs.YtjjjkojfijpeeaaGreat.Geo
def D9(l:List Nat)(k:Int):Nat:=if k<0 then 0 else l.getD k.toNat 0
theorem Ct{l:List Nat}(h:dl l)(k:Int):D9 l k<65536:=by
 unfold D9
 split
 ·decide
 ·exact h.getD _
theorem zS(l:List Nat)(k:Nat):D9 l (k:Int)=l.getD k 0:=by
 unfold D9
 rw[if_neg (by omega),Int.toNat_natCast]
theorem DP(n:Nat)(l:List Nat)(k:Int):cA (n+2) 175 [.sl (ab l),I k]=some (I (D9 l k:Nat)):=by
 rw[LF]
 unfold FC D9
 refine aa ag (aa af ?_)
 by_cases h:k<0
 ·refine aJ h ?_
  rw[if_pos h];rfl
 ·refine aM h ?_
  rw[if_neg h]
  obtain⟨m,rfl⟩:=Int.eq_ofNat_of_zero_le (show 0<=k by omega)
  exact aa (Aj n l m) rfl
def lm(R n:Nat):Nat:=if n=1 then R*65536 else R/65536^(n-2)
theorem mM(m i:Nat):(aE m).getD i 0=m/65536^i%65536:=od i m
theorem vY(R:Nat){m:Nat}(hm:1<=m):R/65536^(m-1)=R/65536^m*65536+R/65536^(m-1)%65536:=by
 have e:65536^m=65536^(m-1)*65536:=by
  conv=>lhs;rw[show m=m-1+1 by omega]
  exact Nat.pow_succ ..
 rw[e,<-Nat.div_div_eq_div_mul];omega
theorem BQ{R n:Nat}(hn:1<=n)(hR:R<65536^(n+1)):(aE R).getD n 0*4294967296+(aE R).getD (n-1) 0*65536+D9 (aE R) ((n:Int)-2)=lm R n:=by
 have h1:R/65536^n<65536:=by
  rw[Nat.div_lt_iff_lt_mul (Nat.pow_pos (by decide)),Nat.mul_comm,<-Nat.pow_succ];exact hR
 have e1:=vY R hn
 rw[mM,mM,Nat.mod_eq_of_lt h1]
 unfold lm D9
 by_cases hn1:n=1
 ·subst hn1
  rw[if_pos rfl,if_pos (by decide)]
  simp only[Nat.sub_self,Nat.pow_zero,Nat.div_one,Nat.pow_one] at *
  omega
 ·rw[if_neg hn1,if_neg (by omega),show((n:Int)-2).toNat=n-2 by omega,mM]
  have e2:=vY R (m:=n-1) (by omega)
  rw[show n-1-1=n-2 by omega] at e2
  omega
theorem GS{B n:Nat}(hn:1<=n)(hB:B<65536^n):(aE B).getD (n-1) 0*65536+D9 (aE B) ((n:Int)-2)=lm B n:=by
 have h:=BQ (R:=B) hn (Nat.lt_of_lt_of_le hB (Nat.pow_le_pow_right (by decide) (Nat.le_succ n)))
 rw[mM B n,Nat.div_eq_of_lt hB,Nat.zero_mod,Nat.zero_mul,Nat.zero_add] at h
 exact h
theorem Co{R B n:Nat}(hB0:0<B)(ht:0<lm B n)(hRB:R<65536*B):R/B<=min 65535 (lm R n/lm B n):=by
 have h1:R/B<=65535:=by
  have:=(Nat.div_lt_iff_lt_mul hB0).2 (show R<65536*B from hRB);omega
 refine Nat.le_min.2 ⟨h1,?_⟩
 rw[Nat.le_div_iff_mul_le ht]
 unfold lm
 by_cases hn:n=1
 ·rw[if_pos hn,if_pos hn,<-Nat.mul_assoc]
  exact Nat.mul_le_mul_right _ (Nat.div_mul_le_self R B)
 ·rw[if_neg hn,if_neg hn]
  have hp:0<65536^(n-2):=Nat.pow_pos (by decide)
  rw[Nat.le_div_iff_mul_le hp,Nat.mul_assoc]
  exact Nat.le_trans (Nat.mul_le_mul_left _ (Nat.div_mul_le_self B _)) (Nat.div_mul_le_self R B)
theorem iY{B:Nat}(hB:0<B):1<=(aE B).length/\B<65536^(aE B).length/\0<lm B (aE B).length:=by
 have h1:1<=(aE B).length:=by
  rcases Nat.eq_zero_or_pos (aE B).length with h|h
  ·have:=List.length_eq_zero_iff.1 h
   have:=pV.1 this;omega
  ·exact h
 have h2:B<65536^(aE B).length:=by
  have:=jI (aO B);rwa [ao] at this
 refine⟨h1,h2,?_⟩
 have h3:65536^((aE B).length-1)<=B:=by
  rcases Nat.lt_or_ge B (65536^((aE B).length-1)) with k|k
  ·have:=bF _ B k;omega
  ·exact k
 unfold lm
 split
 ·omega
 ·refine Nat.div_pos (Nat.le_trans (Nat.pow_le_pow_right (by decide) (by omega)) h3) (Nat.pow_pos (by decide))
theorem Hv(n:Nat){A B:Nat}(hA:A<65536^40)(hB:0<B)(hBl:B<65536^40):cA (n+3) 143 [.sl (ab (aE A)),.sl (ab (aE B))]=some (.tup [.sl (ab (aE (A/B))),.sl (ab (aE (A%B)))]):=by
 rw[Lk]
 unfold EJ
 obtain⟨n1,n2,n3⟩:=iY hB
 have lA:=bF 40 _ hA
 have lB:=bF 40 _ hBl
 have dB:=aO B
 obtain⟨L,hL⟩:∃ L,(aE B).length=L:=⟨_,rfl⟩
 rw[hL] at n1 n2 n3 lB
 obtain⟨M,hM⟩:∃ M,(aE A).length=M:=⟨_,rfl⟩
 rw[hM] at lA
 have eLen:((ab (aE B)).length:Int)=(L:Int):=by rw[aj,hL]
 have eLenA:((ab (aE A)).length:Int)=(M:Int):=by rw[aj,hM]
 refine aa (z:=ab (aE A)) rfl (aa (z:=M) (by rw[eLenA];exact yO M) ?_)
 rw[if_pos (by omega)]
 refine aa (z:=ab (aE B)) rfl ?_
 rw[eLen]
 have hb1:(aE B).getD (L-1) 0<65536:=dB.getD _
 have htop:=GS n1 n2
 refine aa (iR (b:=1) rfl n1 (by omega)) (aa (z:=ab (aE B)) rfl (aa (z:=L-1) (by rw[aj,hL];exact aw (by omega)) (aa (de (l:=aE B) (i:=L-1) (by omega)) ?_)))
 refine aa (n9 (b:=65536) (by omega)) (aa (z:=I ((L:Int)-2)) (dH (by simp only[inR];omega)) (aa (DP n (aE B) ((L:Int)-2)) ?_))
 have hb2':=Ct dB ((L:Int)-2)
 refine aa (aZ (by omega)) ?_
 rw[htop]
 have htop64:lm B L<4294967296:=by rw[<-htop];omega
 generalize hTB:lm B L=TB at *
 refine aa (z:=ab (aE A)) rfl ?_
 rw[eLenA]
 refine aa (z:=I ((M:Int)-1)) (dH (by simp only[inR];omega)) ?_
 rw[tJ]
 have hA0:A/65536^M=0:=by
  have:=jI (aO A);rw[ao,hM] at this;exact Nat.div_eq_of_lt this
 refine be (fun t s=>∃ q:List Nat,s=[.sl (ab (aE (A/65536^(M-t)%B))),I ((M:Int)-1-(t:Nat)),.sl (ab q)]/\q.length=M/\dl q/\(∀ i,i<M-t->q.getD i 0=0)/\aS q=A/65536^(M-t)/B*65536^(M-t)) M 0 (Nat.zero_le _) ⟨List.replicate M 0,?_,by simp,fun x hx=>by rw[List.eq_of_mem_replicate hx];decide,fun i _=>by simp[List.getD,List.getElem?_replicate];split<;>rfl,?_⟩ (fun t ht s hJ=>?_) (fun s hJ=>?_)
 ·rw[Nat.sub_zero,hA0,Nat.zero_mod,cq]
  congr 3;omega
 ·have:=ml [] M;rw[List.nil_append] at this
  rw[this,Nat.sub_zero,hA0,Nat.zero_div,Nat.zero_mul];rfl
 ·obtain⟨q,rfl,hql,hqd,hqz,hqv⟩:=hJ
  left
  obtain⟨k,hk⟩:∃ k,k=M-1-t:=⟨_,rfl⟩
  have hkM:k<M:=by omega
  rw[show M-t=k+1 by omega] at hqz hqv ⊢
  rw[show(M:Int)-1-(t:Nat)=(k:Nat) by omega]
  have hrB:A/65536^(k+1)%B<B:=Nat.mod_lt _ hB
  have hAk:A/65536^k=65536*(A/65536^(k+1))+(aE A).getD k 0:=by
   rw[mM,Nat.pow_succ,<-Nat.div_div_eq_div_mul];omega
  have hdk:(aE A).getD k 0<65536:=(aO A).getD k
  obtain⟨R,hR⟩:∃ R,R=65536*(A/65536^(k+1)%B)+(aE A).getD k 0:=⟨_,rfl⟩
  have hRB:R<65536*B:=by
   have:65536*(A/65536^(k+1)%B+1)<=65536*B:=Nat.mul_le_mul_left _ hrB
   omega
  have hRq:A/65536^k/B=65536*(A/65536^(k+1)/B)+R/B:=by
   have e:=Nat.div_add_mod (A/65536^(k+1)) B
   have e2:A/65536^k=R+B*(65536*(A/65536^(k+1)/B)):=by
    rw[hAk,hR]
    generalize A/65536^(k+1)=X at *
    have:65536*X=65536*(B*(X/B)+X%B):=by rw[e]
    rw[Nat.mul_add] at this
    have c:B*(65536*(X/B))=65536*(B*(X/B)):=by rw[<-Nat.mul_assoc,Nat.mul_comm B,Nat.mul_assoc]
    omega
   rw[e2,Nat.add_mul_div_left _ _ hB];omega
  have hRm:A/65536^k%B=R%B:=by
   have e:=Nat.div_add_mod (A/65536^(k+1)) B
   have e2:A/65536^k=R+B*(65536*(A/65536^(k+1)/B)):=by
    rw[hAk,hR]
    generalize A/65536^(k+1)=X at *
    have:65536*X=65536*(B*(X/B)+X%B):=by rw[e]
    rw[Nat.mul_add] at this
    have c:B*(65536*(X/B))=65536*(B*(X/B)):=by rw[<-Nat.mul_assoc,Nat.mul_comm B,Nat.mul_assoc]
    omega
   rw[e2,Nat.add_mul_mod_self_left]
  have hlr:(aE (A/65536^(k+1)%B)).length<=40:=bF 40 _ (Nat.lt_trans hrB hBl)
  have hRl:R<65536^(L+1):=by
   rw[Nat.pow_succ,Nat.mul_comm];exact Nat.lt_of_lt_of_le hRB (Nat.mul_le_mul_left _ (Nat.le_of_lt n2))
  have hR41:R<65536^41:=Nat.lt_of_lt_of_le hRl (Nat.pow_le_pow_right (by decide) (by omega))
  have lR:=bF 41 _ hR41
  have dR:=aO R
  obtain⟨q',hq'⟩:∃ q',q'=q.set k (R/B):=⟨_,rfl⟩
  have hRB2:R/B<=65535:=by have:=(Nat.div_lt_iff_lt_mul hB).2 hRB;omega
  refine⟨[.sl (ab (aE (R%B))),I ((k:Int)-1),.sl (ab q')],?_,q',by rw[show M-(t+1)=k by omega,hRm];congr 3;omega,by rw[hq'];simpa using hql,?_,?_,?_⟩
  ·refine aa iD (aa af (aJ (by show(k:Int) ≥ 0;omega) ?_))
   refine aa (z:=ab (aE A)) rfl (aa (z:=k) (by rw[aj,hM];exact aw hkM) (aa (de (l:=aE A) (i:=k) (by omega)) (aa (z:=ab (aE (A/65536^(k+1)%B))) rfl ?_)))
   rw[if_pos (by rw[aj];simp;omega)]
   have hcons:[I (((aE A).getD k 0:Nat):Int)]++ab (aE (A/65536^(k+1)%B))=ab ((aE A).getD k 0::aE (A/65536^(k+1)%B)):=rfl
   rw[hcons]
   have hdl:dl ((aE A).getD k 0::aE (A/65536^(k+1)%B)):=dl.cons hdk (aO _)
   have htr:=wl (n+1) (l:=(aE A).getD k 0::aE (A/65536^(k+1)%B)) (by simp;omega)
   rw[gc hdl,show aS ((aE A).getD k 0::aE (A/65536^(k+1)%B))=R by rw[aS,ao,hR];omega] at htr
   refine aa htr ?_
   have g1:=dR.getD L;have g2:=dR.getD (L-1)
   have g3:=Ct dR ((L:Int)-2)
   have h3:=BQ n1 hRl
   refine aa (DP n (aE R) (L:Int)) ?_
   rw[zS]
   refine aa (n9 (b:=4294967296) (by omega)) (aa (iR (b:=1) rfl n1 (by omega)) (aa (DP n (aE R) ((L-1:Nat):Int)) ?_))
   rw[zS]
   refine aa (n9 (b:=65536) (by omega)) (aa (aZ (by omega)) (aa (z:=I ((L:Int)-2)) (dH (by simp only[inR];omega)) (aa (DP n (aE R) ((L:Int)-2)) (aa (aZ (by omega)) ?_))))
   rw[h3]
   have hH:lm R L<=9223372036854775807:=by rw[<-h3];omega
   have hge:=Co (R:=R) (n:=L) hB (by rw[hTB];exact n3) hRB
   rw[hTB] at hge
   refine aa (jd (by omega) (by omega)) (aa (z:=I ((min 65535 (lm R L/TB):Nat):Int)) (by rw[show(D.int .i64 65535)=I ((65535:Nat):Int) from rfl,Id];congr 2;omega) ?_)
   have hd0:min 65535 (lm R L/TB)<=65535:=Nat.min_le_left ..
   generalize min 65535 (lm R L/TB)=d0 at *
   have hpart:∀ d:Nat,d<=65535->cA (n+2) 146 [.sl (ab (aE B)),.sl [I (d:Int)]]=some (.sl (ab (aE (B*d)))):=fun d hd=>by
    have:=Gh n (a:=aE B) (b:=[d]) dB (fun x hx=>by simp at hx;omega) (by omega) (by simp)
    rw[ao,show aS [d]=d by simp[aS]] at this
    exact this
   refine aa (hpart d0 hd0) ?_
   refine pv (fun d s=>s=[I (d:Int),.sl (ab (aE (B*d))),.sl (ab q)]/\R/B<=d/\d<=65535) d0 _ ⟨rfl,hge,hd0⟩ (fun d s hJ=>?_)
   obtain⟨rfl,k1,k2⟩:=hJ
   have hBd:B*d<65536^41:=by
    have:B*d<=B*65536:=Nat.mul_le_mul_left _ (by omega)
    have e:(65536:Nat)^41=65536^40*65536:=Nat.pow_succ ..
    have:B*65536<65536^40*65536:=Nat.mul_lt_mul_of_pos_right hBl (by decide)
    omega
   have lBd:=bF 41 _ hBd
   have h78:=Jb n dR (aO (B*d)) (by omega) (by omega)
   rw[ao,ao] at h78
   by_cases hlt:R<B*d
   ·left
    rw[decide_eq_true hlt] at h78
    have hd1:R/B<d:=by rw[Nat.div_lt_iff_lt_mul hB,Nat.mul_comm];exact hlt
    have hd1p:1<=d:=Nat.lt_of_le_of_lt (Nat.zero_le _) hd1
    refine⟨d-1,[I ((d-1:Nat):Int),.sl (ab (aE (B*(d-1)))),.sl (ab q)],by omega,?_,rfl,Nat.le_sub_one_of_lt hd1,by omega⟩
    refine aa h78 (aa (z:=true) rfl ?_)
    rw[if_pos rfl]
    have e:B*d-B=B*(d-1):=by rw[Nat.mul_sub,Nat.mul_one]
    have h126:=Fc n (aO (B*d)) dB (by omega) (by rw[ao,ao];exact Nat.le_mul_of_pos_right _ (by omega))
    rw[ao,ao,e] at h126
    exact aa (iR (b:=1) rfl (by omega) (by omega)) (aa h126 rfl)
   ·right
    rw[decide_eq_false hlt] at h78
    have hd1:d<=R/B:=by rw[Nat.le_div_iff_mul_le hB,Nat.mul_comm];omega
    have hdq:d=R/B:=by omega
    refine⟨(0,[I (d:Int),.sl (ab (aE (B*d))),.sl (ab q)]),?_,?_⟩
    ·refine aa h78 (aa (z:=false) rfl ?_)
     rw[if_neg (by decide)];rfl
    ·have h126:=Fc n dR (aO (B*d)) (by omega) (by rw[ao,ao];omega)
     have e:R-B*d=R%B:=by rw[hdq];have:=Nat.div_add_mod R B;omega
     rw[ao,ao,e] at h126
     have hkq:k<q.length:=by omega
     refine aa (tT hkq) (aa (de hkq) (aa h126 (aa (dH (by simp only[inR];omega)) ?_)))
     show some (Sum.inl [_,_,D.sl (List.set (ab q) k (I (d:Int)))])=_
     rw[nI,hdq,<-hq']
     first|rfl|skip
  ·rw[hq']
   refine FX fun i hi=>?_
   rw[j6 _ _ _ _ (by omega)]
   split
   ·omega
   ·exact hqd.getD i
  ·intro i hi
   rw[hq',j6 _ _ _ _ (by omega),if_neg (by omega)]
   exact hqz i (by omega)
  ·have e:=nC (l:=q) (j:=k) (v:=R/B) (by omega)
   rw[hqz k (by omega),Nat.mul_zero,Nat.add_zero,<-hq'] at e
   rw[e,hqv,show M-(t+1)=k by omega,hRq,Nat.pow_succ,Nat.add_mul,Nat.mul_comm (R/B),Nat.mul_comm 65536,Nat.mul_assoc,Nat.mul_comm (65536^k) 65536]
 ·obtain⟨q,rfl,hql,hqd,_,hqv⟩:=hJ
  rw[Nat.sub_self,Nat.pow_zero,Nat.div_one,Nat.mul_one] at hqv
  refine⟨(0,[.sl (ab (aE (A%B))),.sl (ab q)]),?_,?_⟩
  ·rw[Nat.sub_self,Nat.pow_zero,Nat.div_one]
   exact aa iD (aa af (aM (by show ¬ ((M:Int)-1-(M:Nat)) ≥ 0;omega) rfl))
  ·have htr:=wl (n+1) (l:=q) (by omega)
   rw[gc hqd,hqv] at htr
   exact aa htr rfl
theorem E5{m:Nat}(h:m<65536^32):m<65536^40:=Nat.lt_of_lt_of_le h (Nat.pow_le_pow_right (by decide) (by decide))
theorem zK(n:Nat){x:Int}(hx:In x):∃ w b,cA (n+3) 124 [ah x]=some (.tup [I w,.bool b])/\(b=true->Wd x):=by
 by_cases h:Wd x
 ·exact⟨x,true,qu n h,fun _=>h⟩
 ·exact⟨0,false,B4 n hx h,fun e=>by cases e⟩
theorem G1(n:Nat){x y:Int}(hx:In x)(hy:In y):cA (n+4) 85 [ah x,ah y]=some (ah (Nat.gcd x.natAbs y.natAbs:Nat)):=by
 by_cases hw:Wd x/\Wd y
 ·exact I8 n hw.1 hw.2
 ·rw[NG]
  unfold Ik
  obtain⟨w1,b1,h1,k1⟩:=zK n hx
  obtain⟨w2,b2,h2,k2⟩:=zK n hy
  have hb:(b1&&b2)=false:=by
   cases b1<;>cases b2<;>first|rfl|exact absurd ⟨k1 rfl,k2 rfl⟩ hw
  refine aa h1 (aa (z:=I w1) rfl (aa (z:=.bool b1) rfl (aa h2 (aa (z:=I w2) rfl (aa (z:=.bool b2) rfl (aa (z:=b1) rfl (aa (z:=false) (by cases b1<;>cases b2<;>simp at hb<;>rfl) (aa (z:=false) rfl ?_))))))))
  rw[if_neg (by decide)]
  refine aa (rO (n+1) hx) (aa cU (aa (z:=false) rfl (aa (z:=false) (by rw[if_neg (by decide)];exact aa (rO (n+1) hy) rfl) (aa (z:=false) rfl ?_))))
  rw[if_neg (by decide)]
  refine aa (xo (n+1) hx) (aa (xo (n+1) hy) ?_)
  have hx':x.natAbs<65536^32:=hx
  have hy':y.natAbs<65536^32:=hy
  refine pv (fun m s=>∃ a,s=[.sl (ab (aE a)),.sl (ab (aE m))]/\a<65536^32/\m<65536^32/\Nat.gcd a m=Nat.gcd x.natAbs y.natAbs) y.natAbs _ ⟨x.natAbs,rfl,hx',hy',rfl⟩ (fun m s hJ=>?_)
  obtain⟨a,rfl,ha,hm,hg⟩:=hJ
  by_cases h0:m=0
  ·right
   subst h0
   rw[Nat.gcd_zero_right] at hg
   rw[cq]
   refine⟨(0,[.sl (ab (aE a))]),?_,?_⟩
   ·exact aa (z:=ab []) rfl (aa (z:=.bool false) rfl (aa (z:=false) rfl rfl))
   ·have la:=bF 32 _ ha
    refine aa (FR (n+1) (neg:=false) (aO a) (by omega) (by rw[ao];exact ha)) ?_
    rw[ao,hg];rfl
  ·left
   have hlt:a%m<m:=Nat.mod_lt _ (by omega)
   refine⟨a%m,[.sl (ab (aE m)),.sl (ab (aE (a%m)))],hlt,?_,m,rfl,hm,Nat.lt_trans hlt hm,by rw[<-hg,Nat.gcd_comm a m,Nat.gcd_rec m a,Nat.gcd_comm]⟩
   have hl:=(iY (B:=m) (by omega)).1
   refine aa (z:=ab (aE m)) rfl (aa dV (aa af (aJ (by show((ab (aE m)).length:Int)>0;rw[aj];omega) ?_)))
   exact aa (Hv n (E5 ha) (by omega) (E5 hm)) (aa (z:=.sl (ab (aE (a/m)))) rfl (aa (z:=.sl (ab (aE (a%m)))) rfl rfl))
theorem DO(n:Nat){x y:Int}(hx:In x)(hy:In y)(hy0:y≠0)(hd:y ∣ x):cA (n+4) 87 [ah x,ah y]=some (ah (x/y)):=by
 by_cases hw:Wd x/\Wd y
 ·exact IS n hw.1 hw.2 hy0 hd
 ·have hin:=BL hx hd
  obtain⟨q,hq⟩:=hd
  have exy:x/y=q:=by rw[hq];exact Int.mul_ediv_cancel_left _ hy0
  rw[exy] at hin ⊢
  rw[NB]
  unfold Iu
  obtain⟨w1,b1,h1,k1⟩:=zK n hx
  obtain⟨w2,b2,h2,k2⟩:=zK n hy
  have hb:(b1&&b2)=false:=by
   cases b1<;>cases b2<;>first|rfl|exact absurd ⟨k1 rfl,k2 rfl⟩ hw
  have hx':x.natAbs<65536^32:=hx
  have hy':y.natAbs<65536^32:=hy
  have hl:=(iY (B:=y.natAbs) (by omega)).1
  refine aa h1 (aa (z:=I w1) rfl (aa (z:=.bool b1) rfl (aa h2 (aa (z:=I w2) rfl (aa (z:=.bool b2) rfl (aa (z:=b1) rfl (aa (z:=false) (by cases b1<;>cases b2<;>simp at hb<;>rfl) (aa (z:=false) rfl (aa (z:=false) rfl (aa (z:=false) rfl ?_))))))))))
  rw[if_neg (by decide)]
  refine aa (rO (n+1) hx) (aa cU (aa (z:=false) rfl (aa (z:=false) (by rw[if_neg (by decide)];exact aa (rO (n+1) hy) rfl) (aa (z:=false) rfl (aa (z:=false) ?_ (aa (z:=false) rfl ?_))))))
  ·rw[if_neg (by decide)]
   refine aa (xo (n+1) hy) (aa (z:=ab (aE y.natAbs)) rfl ?_)
   show D.truth (.bool (D.beq (I ((ab (aE y.natAbs)).length:Nat)) (I ((0:Nat):Int))))=_
   rw[aj,cb,decide_eq_false (by omega)];rfl
  rw[if_neg (by decide)]
  have hmod:x.natAbs%y.natAbs=0:=by rw[hq,Int.natAbs_mul];exact Nat.mul_mod_right _ _
  have hqt:x.natAbs/y.natAbs<65536^32:=Nat.lt_of_le_of_lt (Nat.div_le_self _ _) hx'
  have h143:=Hv n (E5 hx') (B:=y.natAbs) (by omega) (E5 hy')
  rw[hmod,cq] at h143
  have hb':(!(D.beq (.bool (decide (x<0))) (.bool (decide (y<0)))))=!(decide (decide (x<0)=decide (y<0))):=by
   by_cases h1:x<0<;>by_cases h2:y<0<;>simp[h1,h2,D.beq]
  refine aa (xo (n+1) hx) (aa (xo (n+1) hy) (aa h143 (aa (z:=.sl (ab (aE (x.natAbs/y.natAbs)))) rfl (aa (z:=.sl (ab [])) rfl ?_))))
  refine aa (z:=(0,[.sl (ab (aE (x.natAbs/y.natAbs)))])) ?_ (aa (dK x) (aa (dK y) ?_))
  ·refine aa (dK x) (aa (dK y) ?_)
   rw[hb']
   refine aa (z:=!(decide (decide (x<0)=decide (y<0)))) rfl (aa (z:=false) ?_ (aa (z:=false) rfl rfl))
   cases (!(decide (decide (x<0)=decide (y<0))))<;>rfl
  ·rw[hb']
   have lq:=bF 32 _ hqt
   refine aa (FR (n+1) (aO _) (by omega) (by rw[ao];exact hqt)) ?_
   rw[ao,zq hy0 hq]
theorem FH(n:Nat){x d:Int}(hx:In x)(hd:In d)(hd0:d≠0):cA (n+5) 37 [ah x,ah d]=some (bw (Rat.divInt x d)):=by
 rw[QE]
 unfold Jc
 have hbe:∀ a b:Int,D.beq (I a) (.int .i64 b)=decide (a=b):=fun a b=>ca
 have hgp:0<Nat.gcd x.natAbs d.natAbs:=Nat.gcd_pos_of_pos_right _ (by omega)
 have dx:((Nat.gcd x.natAbs d.natAbs:Nat):Int) ∣ x:=Int.ofNat_dvd_left.2 (Nat.gcd_dvd_left _ _)
 have dd:((Nat.gcd x.natAbs d.natAbs:Nat):Int) ∣ d:=Int.ofNat_dvd_left.2 (Nat.gcd_dvd_right _ _)
 have hgle:Nat.gcd x.natAbs d.natAbs<=d.natAbs:=Nat.gcd_le_right _ (by omega)
 have hgin:In (Nat.gcd x.natAbs d.natAbs:Nat):=gv.2 (Nat.lt_of_le_of_lt hgle (bM.1 hd))
 obtain⟨p1,p2⟩:=jQ x hd0
 unfold bw
 rw[p1,p2]
 refine aa (rO (n+2) hx) (aa (z:=.bool false) rfl (aa (z:=false) rfl (aa (z:=false) ?_ (aa (z:=false) rfl (aa (z:=false) ?_ (aa (z:=false) rfl ?_))))))
 ·rw[if_neg (by decide)];exact aa (rO (n+2) hd) rfl
 ·rw[if_neg (by decide)]
  refine aa (IQ (n+1) hd) ?_
  rw[hbe,decide_eq_false (CM hd0)];rfl
 rw[if_neg (by decide)]
 refine aa (G1 n hx hd) ?_
 generalize Nat.gcd x.natAbs d.natAbs=g at *
 refine aa (z:=(0,[ah (if d<0 then -(g:Int) else(g:Int))])) ?_ ?_
 ·refine aa (IQ (n+1) hd) (aa ag (aa af ?_))
  by_cases h:d<0
  ·rw[if_pos h]
   refine aJ (by rw[uW h];decide) ?_
   exact aa (NT (n+1) hgin) rfl
  ·rw[if_neg h]
   exact aM (by rw[kg (by omega)];decide) rfl
 ·have hin2:In (if d<0 then -(g:Int) else(g:Int)):=by
   split
   ·rw[bM,Int.natAbs_neg];exact bM.1 hgin
   ·exact hgin
  have hne:(if d<0 then -(g:Int) else(g:Int))≠0:=by split<;>omega
  have ddx:(if d<0 then -(g:Int) else(g:Int)) ∣ x:=by split<;>first|exact Int.neg_dvd.2 dx|exact dx
  have ddd:(if d<0 then -(g:Int) else(g:Int)) ∣ d:=by split<;>first|exact Int.neg_dvd.2 dd|exact dd
  exact aa (DO n hx hin2 hne ddx) (aa (DO n hd hin2 hne ddd) rfl)
end Go.Proofs.YtjjjkojfijpeeaaGreat.Sy
end
section
set_option linter.unusedVariables false
namespace Go.Proofs.YtjjjkojfijpeeaaGreat.Sy
open Go Go.Proofs Go.Proofs.YtjjjkojfijpeeaaGreat.Geo
theorem fC{x:Int}(h:inR x):In x:=by
 unfold In;have:(65536:Nat)^4<=65536^32:=Nat.pow_le_pow_right (by decide) (by decide)
 have e:(65536:Nat)^4=18446744073709551616:=rfl
 simp only[inR] at h;omega
theorem gk(x:Int)(h:-9223372036854775808<=x/\x<=9223372036854775807:=by decide):inR x:=h
theorem Gm(n:Nat):cA (n+4) 133 []=some (ah 1):=by
 rw[Mg];unfold Fh
 exact aa (xq n (gk 1)) rfl
theorem E9(n:Nat)(f:Nat->Int):D.beq (cM n f) (cM n f)=true:=by
 show D.beqs _ _=true
 rw[qd]
 simp
theorem za(x:Int):D.beq (ah x) (ah x)=true:=by
 rw[cn]
 show(D.beq (.bool false) (.bool false)&&(D.beq (.bool (decide (x<0))) (.bool (decide (x<0)))&&(D.beq (LM x.natAbs) (LM x.natAbs)&&true)))=true
 rw[E9];simp[D.beq]
theorem Hl(n:Nat){q:Rat}(h:w9 q):cA (n+5) 88 [bw q]=some (.bool true):=by
 rw[P3];unfold Jx
 have hp:(0:Int)<(q.den:Int):=by have:=q.den_pos;omega
 refine aa (z:=ah q.num) rfl (aa (rO (n+2) h.1) (aa (z:=.bool false) rfl (aa (z:=false) rfl (aa (z:=false) ?_ (aa (z:=false) rfl ?_)))))
 ·rw[if_neg (by decide)]
  exact aa (z:=ah (q.den:Int)) rfl (aa (rO (n+2) h.2) (aa (z:=.bool false) rfl rfl))
 rw[if_neg (by decide)]
 refine aa (z:=ah (q.den:Int)) rfl (aa (IQ (n+1) h.2) (aa (z:=.bool true) (by rw[kg hp];rfl) (aa (z:=true) rfl (aa (z:=true) ?_ rfl))))
 rw[if_pos rfl]
 refine aa (z:=ah q.num) rfl (aa (z:=ah (q.den:Int)) rfl (aa (G1 n h.1 h.2) (aa (Gm n) ?_)))
 have e:Nat.gcd q.num.natAbs (q.den:Int).natAbs=1:=q.reduced
 rw[e]
 show D.truth (.bool (D.beq (ah 1) (ah 1)))=_
 rw[za];rfl
theorem MP(n:Nat){x d:Int}(hx:inR x)(hd:inR d)(hd0:d≠0):cA (n+6) 42 [I x,I d]=some (bw (Rat.divInt x d)):=by
 rw[RE];unfold IF
 exact aa (xq (n+2) hx) (aa (xq (n+2) hd) (aa (FH n (fC hx) (fC hd) hd0) rfl))
theorem C1:In 1:=fC (gk 1)
theorem fm(x:Int):Rat.divInt x 1=(x:Rat):=by
 conv=>rhs;rw[<-Rat.num_divInt_den (x:Rat)]
 rfl
theorem N6(n:Nat){x:Int}(hx:In x):cA (n+6) 63 [ah x]=some (bw (x:Rat)):=by
 rw[Ro];unfold IE
 refine aa (Gm (n+1)) (aa (FH n hx C1 (by decide)) ?_)
 rw[fm]
theorem M9(n:Nat){x:Int}(hx:inR x):cA (n+6) 75 [I x]=some (bw (x:Rat)):=by
 rw[Pn];unfold Jp
 refine aa (xq (n+2) hx) (aa (Gm (n+1)) (aa (FH n (fC hx) C1 (by decide)) ?_))
 rw[fm]
theorem jx(x:Int){d:Int}(hd:d≠0):(Rat.divInt x d).num.natAbs<=x.natAbs/\(Rat.divInt x d).den<=d.natAbs:=by
 obtain⟨p1,p2⟩:=jQ x hd
 have hgp:0<Nat.gcd x.natAbs d.natAbs:=Nat.gcd_pos_of_pos_right _ (by omega)
 have key:∀ z:Int,(z/(if d<0 then -(Nat.gcd x.natAbs d.natAbs:Int) else(Nat.gcd x.natAbs d.natAbs:Int))).natAbs<=z.natAbs\/¬ ((Nat.gcd x.natAbs d.natAbs:Nat):Int) ∣ z:=by
  intro z
  by_cases hz:((Nat.gcd x.natAbs d.natAbs:Nat):Int) ∣ z
  ·left
   obtain⟨k,rfl⟩:=hz
   generalize Nat.gcd x.natAbs d.natAbs=g at *
   rw[Int.natAbs_mul,Int.natAbs_natCast]
   have:k.natAbs<=g*k.natAbs:=Nat.le_mul_of_pos_left _ hgp
   split
   ·rw[Int.ediv_neg,Int.mul_ediv_cancel_left _ (by omega),Int.natAbs_neg];exact this
   ·rw[Int.mul_ediv_cancel_left _ (by omega)];exact this
  ·exact .inr hz
 constructor
 ·rw[p1]
  rcases key x with h|h
  ·exact h
  ·exact absurd (Int.ofNat_dvd_left.2 (Nat.gcd_dvd_left _ _)) h
 ·have:(Rat.divInt x d).den=((Rat.divInt x d).den:Int).natAbs:=rfl
  rw[this,p2]
  rcases key d with h|h
  ·exact h
  ·exact absurd (Int.ofNat_dvd_left.2 (Nat.gcd_dvd_right _ _)) h
theorem lW{x d:Int}(hx:In x)(hd:In d)(h0:d≠0):w9 (Rat.divInt x d):=by
 obtain⟨h1,h2⟩:=jx x h0
 exact⟨Nat.lt_of_le_of_lt h1 hx,Nat.lt_of_le_of_lt (by rw[Int.natAbs_natCast];exact h2) hd⟩
theorem gC(q:Rat):(q.den:Int)≠0:=by have:=q.den_pos;omega
def fitA(x y:Rat):Prop:=x.num.natAbs*y.den+y.num.natAbs*x.den<eN/\x.den*y.den<eN
def fitM(x y:Rat):Prop:=x.num.natAbs*y.num.natAbs<eN/\x.den*y.den<eN
theorem Hj(n:Nat){x y:Rat}(hx:w9 x)(hy:w9 y)(hf:fitA x y):cA (n+6) 40 [bw x,bw y]=some (bw (x+y)):=by
 rw[QR];unfold Js
 obtain⟨f1,f2⟩:=hf
 refine aa (Hl n hx) (aa (z:=.bool false) rfl (aa (z:=false) rfl (aa (z:=false) ?_ (aa (z:=false) rfl ?_))))
 ·rw[if_neg (by decide)]
  exact aa (Hl n hy) (aa (z:=.bool false) rfl rfl)
 rw[if_neg (by decide)]
 obtain⟨g,hg⟩:∃ g,g=Nat.gcd x.den y.den:=⟨_,rfl⟩
 have hxp:=x.den_pos
 have hyp:=y.den_pos
 have g1:g ∣ x.den:=hg ▸ Nat.gcd_dvd_left _ _
 have g2:g ∣ y.den:=hg ▸ Nat.gcd_dvd_right _ _
 have gp:0<g:=by rw[hg];exact Nat.gcd_pos_of_pos_left _ hxp
 obtain⟨a,ha⟩:=g1
 obtain⟨b,hb⟩:=g2
 have gi:In (g:Int):=gv.2 (Nat.lt_of_le_of_lt (Nat.le_of_dvd hxp ⟨a,ha⟩) (gv.1 hx.2))
 have g0:(g:Int)≠0:=by omega
 have ea:(x.den:Int)/(g:Int)=(a:Int):=by rw[ha,Int.natCast_mul];exact Int.mul_ediv_cancel_left _ g0
 have eb:(y.den:Int)/(g:Int)=(b:Int):=by rw[hb,Int.natCast_mul];exact Int.mul_ediv_cancel_left _ g0
 have ha':a<=x.den:=by rw[ha];exact Nat.le_mul_of_pos_left _ gp
 have hb':b<=y.den:=by rw[hb];exact Nat.le_mul_of_pos_left _ gp
 have a0:0<a:=by
            rcases Nat.eq_zero_or_pos a with h|h;· rw[h] at ha;omega
            ·exact h
 have hai:In (a:Int):=gv.2 (Nat.lt_of_le_of_lt ha' (gv.1 hx.2))
 have hbi:In (b:Int):=gv.2 (Nat.lt_of_le_of_lt hb' (gv.1 hy.2))
 have m1:x.num.natAbs*b<=x.num.natAbs*y.den:=Nat.mul_le_mul_left _ hb'
 have m2:y.num.natAbs*a<=y.num.natAbs*x.den:=Nat.mul_le_mul_left _ ha'
 have m3:a*y.den<=x.den*y.den:=Nat.mul_le_mul_right _ ha'
 have i1:In (x.num*b):=bM.2 (by rw[Int.natAbs_mul,Int.natAbs_natCast];omega)
 have i2:In (y.num*a):=bM.2 (by rw[Int.natAbs_mul,Int.natAbs_natCast];omega)
 have i3:In (x.num*b+y.num*a):=bM.2 (by
  have:=Int.natAbs_add_le (x.num*b) (y.num*a)
  rw[Int.natAbs_mul,Int.natAbs_mul,Int.natAbs_natCast,Int.natAbs_natCast] at this;omega)
 have i4:In ((a:Int)*y.den):=bM.2 (by rw[<-Int.natCast_mul,Int.natAbs_natCast];omega)
 have h1:=G1 (n+1) hx.2 hy.2
 rw[Int.natAbs_natCast,Int.natAbs_natCast,<-hg] at h1
 have h2:=DO (n+1) hx.2 gi g0 ⟨a,by rw[ha,Int.natCast_mul]⟩
 have h3:=DO (n+1) hy.2 gi g0 ⟨b,by rw[hb,Int.natCast_mul]⟩
 rw[ea] at h2
 rw[eb] at h3
 have h4:=Bx (n+1) hx.1 hbi
 have h5:=Bx (n+1) hy.1 hai
 rw[fc i1] at h4
 rw[fc i2] at h5
 have h6:=Hn (n+1) i1 i2
 rw[fc i3] at h6
 have h7:=Bx (n+1) hai hy.2
 rw[fc i4] at h7
 refine aa (z:=ah (x.den:Int)) rfl (aa (z:=ah (y.den:Int)) rfl (aa (h1) ?_))
 refine aa (z:=ah (x.den:Int)) rfl (aa (h2) (aa (z:=ah (y.den:Int)) rfl (aa (h3) (aa (z:=ah x.num) rfl (aa (h4) (aa (z:=ah y.num) rfl (aa (h5) (aa (h6) (aa (z:=ah (y.den:Int)) rfl (aa (h7) ?_))))))))))
 have hne:(a:Int)*y.den≠0:=by
  have:0<a*y.den:=Nat.mul_pos a0 hyp
  rw[<-Int.natCast_mul];omega
 refine aa (FH n i3 i4 hne) ?_
 have e:Rat.divInt (x.num*b+y.num*a) ((a:Int)*y.den)=x+y:=by
  conv=>rhs;rw[<-Rat.num_divInt_den x,<-Rat.num_divInt_den y]
  rw[Rat.divInt_add_divInt _ _ (gC x) (gC y),Rat.divInt_eq_divInt_iff hne (by have:=gC x;have:=gC y;exact Int.mul_ne_zero ‹_› ‹_›)]
  have k1:(x.den:Int)=g*a:=by rw[ha,Int.natCast_mul]
  have k2:(y.den:Int)=g*b:=by rw[hb,Int.natCast_mul]
  rw[k1,k2]
  grind
 rw[e]
theorem GM(n:Nat){x y:Rat}(hx:w9 x)(hy:w9 y)(hf:fitM x y):cA (n+6) 38 [bw x,bw y]=some (bw (x*y)):=by
 rw[RI];unfold IX
 obtain⟨f1,f2⟩:=hf
 refine aa (Hl n hx) (aa (z:=.bool false) rfl (aa (z:=false) rfl (aa (z:=false) ?_ (aa (z:=false) rfl ?_))))
 ·rw[if_neg (by decide)]
  exact aa (Hl n hy) (aa (z:=.bool false) rfl rfl)
 rw[if_neg (by decide)]
 obtain⟨p1,p2⟩:=jx x.num (gC y)
 obtain⟨q1,q2⟩:=jx y.num (gC x)
 have r1:=lW hx.1 hy.2 (gC y)
 have r2:=lW hy.1 hx.2 (gC x)
 have e:Rat.divInt x.num y.den*Rat.divInt y.num x.den=x*y:=by
  conv=>rhs;rw[<-Rat.num_divInt_den x,<-Rat.num_divInt_den y]
  rw[Rat.divInt_mul_divInt,Rat.divInt_mul_divInt,Int.mul_comm (y.den:Int)]
 refine aa (z:=ah x.num) rfl (aa (z:=ah (y.den:Int)) rfl (aa (FH n hx.1 hy.2 (gC y)) (aa (z:=ah y.num) rfl (aa (z:=ah (x.den:Int)) rfl (aa (FH n hy.1 hx.2 (gC x)) ?_)))))
 rw[Int.natAbs_natCast] at p2 q2
 generalize Rat.divInt x.num y.den=P at *
 generalize Rat.divInt y.num x.den=Q at *
 have i1:In (P.num*Q.num):=bM.2 (by rw[Int.natAbs_mul];exact Nat.lt_of_le_of_lt (Nat.mul_le_mul p1 q1) f1)
 have i2:In ((P.den:Int)*Q.den):=bM.2 (by
  rw[<-Int.natCast_mul,Int.natAbs_natCast];exact Nat.lt_of_le_of_lt (Nat.mul_le_mul p2 q2) (by rw[Nat.mul_comm];exact f2))
 have h1:=Bx (n+1) r1.1 r2.1
 rw[fc i1] at h1
 have h2:=Bx (n+1) r1.2 r2.2
 rw[fc i2] at h2
 refine aa (z:=ah P.num) rfl (aa (z:=ah Q.num) rfl (aa (h1) (aa (z:=ah (P.den:Int)) rfl (aa (z:=ah (Q.den:Int)) rfl (aa (h2) ?_)))))
 refine aa (FH n i1 i2 (Int.mul_ne_zero (gC P) (gC Q))) ?_
 rw[<-Rat.divInt_mul_divInt,Rat.num_divInt_den,Rat.num_divInt_den,e]
theorem Ok(n:Nat){x y:Rat}(hx:w9 x)(hy:w9 y)(hy0:y.num≠0)(h1:x.num.natAbs*y.den<eN)(h2:x.den*y.num.natAbs<eN):cA (n+7) 65 [bw x,bw y]=some (bw (x/y)):=by
 rw[P9];unfold I2
 refine aa (Hl (n+1) hy) (aa (z:=.bool false) rfl (aa (z:=false) rfl ?_))
 rw[if_neg (by decide)]
 obtain⟨p1,p2⟩:=jx y.den hy0
 rw[Int.natAbs_natCast] at p1
 have e:Rat.divInt y.den y.num=y⁻¹:=by
  conv=>rhs;rw[<-Rat.num_divInt_den y]
  rw[Rat.inv_divInt]
 have r1:=lW hy.2 hy.1 hy0
 refine aa (z:=ah (y.den:Int)) rfl (aa (z:=ah y.num) rfl (aa (FH (n+1) hy.2 hy.1 hy0) ?_))
 rw[e] at p1 p2 r1 ⊢
 refine aa (GM n hx r1 ⟨Nat.lt_of_le_of_lt (Nat.mul_le_mul_left _ p1) h1,Nat.lt_of_le_of_lt (Nat.mul_le_mul_left _ p2) h2⟩) ?_
 rw[Rat.div_def]
theorem PT(n:Nat){x:Rat}(hx:w9 x):cA (n+6) 70 [bw x]=some (bw (-x)):=by
 rw[PO];unfold Jv
 refine aa (Hl n hx) (aa (z:=.bool false) rfl (aa (z:=false) rfl ?_))
 rw[if_neg (by decide)]
 refine aa (z:=ah x.num) rfl (aa (NT (n+2) hx.1) (aa (z:=ah (x.den:Int)) rfl ?_))
 rfl
structure RV where
 x:Rat
 y:Rat
 z:Rat
def kj(v:RV):D:=.st [bw v.x,bw v.y,bw v.z]
def Gq(v:RV):Prop:=w9 v.x/\w9 v.y/\w9 v.z
def RV.of(v:V):RV:=⟨v.x,v.y,v.z⟩
def RV.add(u v:RV):RV:=⟨u.x+v.x,u.y+v.y,u.z+v.z⟩
def RV.mul(k:Rat)(v:RV):RV:=⟨k*v.x,k*v.y,k*v.z⟩
theorem Mf(n:Nat){v:V}(h1:inR v.x)(h2:inR v.y)(h3:inR v.z):cA (n+7) 31 [ac v]=some (kj (RV.of v)):=by
 rw[OB];unfold IN
 exact aa (z:=I v.x) rfl (aa (M9 n h1) (aa (z:=I v.y) rfl (aa (M9 n h2) (aa (z:=I v.z) rfl (aa (M9 n h3) rfl)))))
theorem NO(n:Nat){u v:RV}(hu:Gq u)(hv:Gq v)(f1:fitA u.x v.x)(f2:fitA u.y v.y)(f3:fitA u.z v.z):cA (n+7) 36 [kj u,kj v]=some (kj (u.add v)):=by
 rw[Pg];unfold Ji
 exact aa (z:=bw u.x) rfl (aa (z:=bw v.x) rfl (aa (Hj n hu.1 hv.1 f1) (aa (z:=bw u.y) rfl (aa (z:=bw v.y) rfl (aa (Hj n hu.2.1 hv.2.1 f2) (aa (z:=bw u.z) rfl (aa (z:=bw v.z) rfl (aa (Hj n hu.2.2 hv.2.2 f3) rfl))))))))
theorem PC(n:Nat){k:Rat}{v:RV}(hk:w9 k)(hv:Gq v)(f1:fitM k v.x)(f2:fitM k v.y)(f3:fitM k v.z):cA (n+7) 66 [bw k,kj v]=some (kj (RV.mul k v)):=by
 rw[O7];unfold IW
 exact aa (z:=bw v.x) rfl (aa (GM n hk hv.1 f1) (aa (z:=bw v.y) rfl (aa (GM n hk hv.2.1 f2) (aa (z:=bw v.z) rfl (aa (GM n hk hv.2.2 f3) rfl)))))
end Go.Proofs.YtjjjkojfijpeeaaGreat.Sy
end
section
namespace Go.Proofs.YtjjjkojfijpeeaaGreat.Geo
open V
section
variable{P:Nat->V}{N:Nat}
theorem Ff(hl:∀ i j,i<j->j<N->aC (P i) (P j)){n:V}{d:Int}(h:IsF P N n d){a b:Nat}(ha:a∈aY P N n d)(h1:Side n P (aY P N n d) a b)(h2:Side n P (aY P N n d) b a):False:=by
 obtain⟨c,hc,ht⟩:=h.left hl ha h1
 have:=(h2.all c hc).1
 have e:T n (wy P b a) (wy P b c)=- T n (wy P a b) (wy P a c):=by simp only[T,dot,cross,wy,sub];grind
 omega
end
end Go.Proofs.YtjjjkojfijpeeaaGreat.Geo
end
section
namespace Go.Proofs.YtjjjkojfijpeeaaGreat.Geo
open V
section
variable{P:Nat->V}{N:Nat}
theorem wC(k:Int)(v w:V):dot (smul k v) w=k*dot v w:=by simp only[dot,smul];grind
def Gu(P:Nat->V)(N:Nat)(k:Nat):Prop:=∃ n d,IsF P N n d/\k∈aY P N n d/\ed P (aY P N n d) k
end
end Go.Proofs.YtjjjkojfijpeeaaGreat.Geo
end
section
namespace Go.Proofs.YtjjjkojfijpeeaaGreat.Geo
open V
section
variable{P P':Nat->V}{N N':Nat}
variable(hl:∀ i j,i<j->j<N->aC (P i) (P j))(hl':∀ i j,i<j->j<N'->aC (P' i) (P' j))
 (hsub:∀ k,k<N'->∃ j,j<N/\P j=P' k) (hsup:∀ k,Gu P N k->∃ j,j<N'/\P' j=P k)
include hl hl' hsub hsup
end
section
variable{P P':Nat->V}{N N':Nat}(hl:∀ i j,i<j->j<N->aC (P i) (P j))(hl':∀ i j,i<j->j<N'->aC (P' i) (P' j))
 (hsub:∀ k,k<N'->∃ j,j<N/\P j=P' k/\Gu P N j) (hsup:∀ k,Gu P N k->∃ j,j<N'/\P' j=P k)
include hl hl' hsub hsup
end
end Go.Proofs.YtjjjkojfijpeeaaGreat.Geo
end
section
namespace Go.Proofs.YtjjjkojfijpeeaaGreat.Geo
open V
section
variable{P:Nat->V}{N:Nat}
def dd(h u w:V):V:=cross (cross u w) h
end
end Go.Proofs.YtjjjkojfijpeeaaGreat.Geo
end
section
namespace Go.Proofs.YtjjjkojfijpeeaaGreat.Geo
open V
section
variable{P:Nat->V}{N:Nat}
def pM(l:List Nat):List (Nat×Nat):=(List.range l.length).map fun k=>(l.getD k 0,l.getD ((k+1)%l.length) 0)
theorem nK{l:List Nat}{a b:Nat}:(a,b)∈pM l↔∃ i,i<l.length/\l.getD i 0=a/\l.getD ((i+1)%l.length) 0=b:=by
 simp only[pM,List.mem_map,List.mem_range,Prod.mk.injEq]
theorem ws{l:List Nat}(h:l.Nodup):(pM l).Nodup:=by
 unfold pM List.Nodup
 rw[List.pairwise_map]
 refine List.Pairwise.imp_of_mem ?_ (List.nodup_range (n:=l.length))
 intro i j hi hj hne e
 have hi:=List.mem_range.1 hi;have hj:=List.mem_range.1 hj
 have e1:=congrArg Prod.fst e
 simp only[List.getD,List.getElem?_eq_getElem hi,List.getElem?_eq_getElem hj,Option.getD_some] at e1
 rcases Nat.lt_or_gt_of_ne hne with c|c
 ·exact List.pairwise_iff_getElem.1 h i j hi hj c e1
 ·exact List.pairwise_iff_getElem.1 h j i hj hi c e1.symm
def jk(L:List (V×Int))(poly:V×Int->List Nat):List (Nat×Nat):=L.flatMap fun q=>pM (poly q)
section
variable(hl:∀ i j,i<j->j<N->aC (P i) (P j)){L:List (V×Int)}(hL:Facets P N L){poly:V×Int->List Nat}(hp:∀ q∈L,bu P N q.1 q.2 (poly q))
include hl hL hp
theorem xz{q:V×Int}(hq:q∈L):(poly q).Nodup:=by
 obtain⟨l,p1,p2,_⟩:=((hL.mem q).1 hq).poly hl
 have:=bu.eq hl ((hL.mem q).1 hq) (hp q hq) p1
 rw[this];exact p2
theorem nk{a b:Nat}:(a,b)∈jk L poly↔∃ n d,IsF P N n d/\Ip P N n d a b:=by
 simp only[jk,List.mem_flatMap,nK]
 constructor
 ·rintro⟨q,hq,hi⟩
  exact⟨q.1,q.2,(hL.mem q).1 hq,(bu.dir hl ((hL.mem q).1 hq) (hp q hq)).1 hi⟩
 ·rintro⟨n,d,hF,hd⟩
  have hq:=(hL.mem (n,d)).2 hF
  exact⟨(n,d),hq,(bu.dir hl hF (hp _ hq)).2 hd⟩
theorem pS:(jk L poly).Nodup:=by
 unfold jk List.Nodup
 rw[List.pairwise_flatMap]
 refine⟨fun q hq=>ws (xz hl hL hp hq),?_⟩
 refine List.Pairwise.imp_of_mem ?_ hL.ord
 intro q q' hq hq' hlt x hx y hy e
 subst e
 obtain⟨a,b⟩:=x
 have F:=(hL.mem q).1 hq
 have F':=(hL.mem q').1 hq'
 obtain⟨d1,d2⟩:=(bu.dir hl F (hp q hq)).1 (nK.1 hx)
 obtain⟨d1',d2'⟩:=(bu.dir hl F' (hp q' hq')).1 (nK.1 hy)
 have:=BY hl F F' d1 d1' d2 d2'
 rw[this] at hlt
 exact kQ _ hlt
omit hp in
theorem Ao{q:V×Int}(hq:q∈L){l:List Nat}(k:bu P N q.1 q.2 l):(∀ x∈aY P N q.1 q.2,l.getD 0 0<=x)/\l.getD 0 0∈aY P N q.1 q.2/\ed P (aY P N q.1 q.2) (l.getD 0 0)/\(∃ x∈aY P N q.1 q.2,x≠l.getD 0 0):=by
 obtain⟨a,h1,h2⟩:=k
 obtain⟨b,g1,g2,g3,g4,g5⟩:=((hL.mem q).1 hq).head hl
 rw[h1] at g1;cases g1
 obtain⟨l',e⟩:=h2.head
 have e0:l.getD 0 0=a:=by rw[e];rfl
 rw[e0]
 exact⟨g4,g2,g3,g5 a g2⟩
end
end
end Go.Proofs.YtjjjkojfijpeeaaGreat.Geo
end
section
namespace Go.Proofs.YtjjjkojfijpeeaaGreat.Geo
open V
abbrev T3:=V×V×V
def nv(P:Nat->V)(p:List Nat)(m:Nat):List T3:=(List.range m).map fun i=>(P (p.getD 0 0),P (p.getD (i+1) 0),P (p.getD (i+2) 0))
def ar(g:T3->Int):List T3->Int
 | []=>0
 | t::T=>g t+ar g T
theorem oU(g:T3->Int)(S T:List T3):ar g (S++T)=ar g S+ar g T:=by
 induction S with
 | nil=>simp[ar]
 | cons t S ih=>simp only[List.cons_append,ar,ih];omega
theorem ki(g:T3->Int)(S:List T3)(t:T3):ar g (S++[t])=ar g S+g t:=by
 rw[oU];simp[ar]
theorem tg(P:Nat->V)(p:List Nat)(m:Nat):nv P p (m+1)=nv P p m++[(P (p.getD 0 0),P (p.getD (m+1) 0),P (p.getD (m+2) 0))]:=by
 unfold nv;rw[List.range_succ,List.map_append];rfl
def gw(t:T3):Int:=V.dot (V.cross t.1 t.2.1) t.2.2
def dW(P:Nat->V)(L:List (V×Int))(poly:V×Int->List Nat):List T3:=L.flatMap fun q=>nv P (poly q) ((poly q).length-2)
theorem iC(f g:T3->Int)(T:List T3):ar (fun t=>f t+g t) T=ar f T+ar g T:=by
 induction T with
 | nil=>simp[ar]
 | cons t T ih=>simp only[ar,ih];omega
theorem mD(k:Int)(f:T3->Int)(T:List T3):ar (fun t=>k*f t) T=k*ar f T:=by
 induction T with
 | nil=>simp[ar]
 | cons t T ih=>simp only[ar,ih,Int.mul_add]
theorem mh{f g:T3->Int}{T:List T3}(h:∀ t∈T,f t=g t):ar f T=ar g T:=by
 induction T with
 | nil=>rfl
 | cons t T ih=>simp only[ar,h t List.mem_cons_self,ih fun x hx=>h x (List.mem_cons_of_mem _ hx)]
theorem E4{f:T3->Int}{T:List T3}(h:∀ t∈T,0<=f t):0<=ar f T:=by
 induction T with
 | nil=>simp[ar]
 | cons t T ih=>
  have:=h t List.mem_cons_self
  have:=ih fun x hx=>h x (List.mem_cons_of_mem _ hx)
  simp only[ar];omega
theorem Bv{f:T3->Int}{T:List T3}(h:∀ t∈T,0<=f t){t:T3}(ht:t∈T)(hp:0<f t):0<ar f T:=by
 induction T with
 | nil=>cases ht
 | cons a T ih=>
  have h1:=h a List.mem_cons_self
  have h2:=fun x hx=>h x (List.mem_cons_of_mem _ hx)
  simp only[ar]
  rcases List.mem_cons.1 ht with rfl|ht
  ·have:=E4 h2;omega
  ·have:=ih h2 ht;omega
theorem mF(f:T3->Int)(h:T3->T3)(T:List T3):ar f (T.map h)=ar (fun t=>f (h t)) T:=by
 induction T with
 | nil=>rfl
 | cons t T ih=>simp only[List.map_cons,ar,ih]
def gj(g:Nat×Nat->Int):List (Nat×Nat)->Int
 | []=>0
 | e::S=>g e+gj g S
theorem ks(g:Nat×Nat->Int)(S S':List (Nat×Nat)):gj g (S++S')=gj g S+gj g S':=by
 induction S with
 | nil=>simp[gj]
 | cons t S ih=>simp only[List.cons_append,gj,ih];omega
theorem A3(g:Nat×Nat->Int){S S':List (Nat×Nat)}(h:S.Perm S'):gj g S=gj g S':=by
 induction h with
 | nil=>rfl
 | cons x _ ih=>simp only[gj,ih]
 | swap x y l=>simp only[gj];omega
 | trans _ _ h1 h2=>exact h1.trans h2
theorem B2(g:Nat×Nat->Int)(h:Nat×Nat->Nat×Nat)(S:List (Nat×Nat)):gj g (S.map h)=gj (fun e=>g (h e)) S:=by
 induction S with
 | nil=>rfl
 | cons t T ih=>simp only[List.map_cons,gj,ih]
theorem CW(g:Nat×Nat->Int)(S:List (Nat×Nat)):gj (fun e=>- g e) S=- gj g S:=by
 induction S with
 | nil=>rfl
 | cons t T ih=>simp only[gj,ih];omega
theorem xP{f g:Nat×Nat->Int}{S:List (Nat×Nat)}(h:∀ e∈S,f e=g e):gj f S=gj g S:=by
 induction S with
 | nil=>rfl
 | cons t T ih=>simp only[gj,h t List.mem_cons_self,ih fun x hx=>h x (List.mem_cons_of_mem _ hx)]
def HU(e:Nat×Nat):Nat×Nat:=(e.2,e.1)
theorem wP{g:Nat×Nat->Int}(hg:∀ a b,g (b,a)=- g (a,b)){S:List (Nat×Nat)}(hn:S.Nodup)(hs:∀ a b,(a,b)∈S->(b,a)∈S):gj g S=0:=by
 have nd:(S.map HU).Nodup:=by
  unfold List.Nodup
  rw[List.pairwise_map]
  refine List.Pairwise.imp ?_ hn
  intro a b h e
  obtain⟨a1,a2⟩:=a;obtain⟨b1,b2⟩:=b
  simp only[HU,Prod.mk.injEq] at e
  exact h (by rw[e.1,e.2])
 have hp:(S.map HU).Perm S:=(List.perm_ext_iff_of_nodup nd hn).2 fun e=>by
  obtain⟨a,b⟩:=e
  rw[List.mem_map]
  constructor
  ·rintro⟨⟨c,d⟩,h1,h2⟩
   simp only[HU,Prod.mk.injEq] at h2
   rw[<-h2.1,<-h2.2];exact hs _ _ h1
  ·exact fun h=>⟨(b,a),hs _ _ h,rfl⟩
 have e1:=A3 g hp
 rw[B2,xP (f:=fun e=>g (HU e)) (g:=fun e=>- g e) (fun e _=>hg e.1 e.2),CW] at e1
 omega
def CC(g:V->V->Int)(t:T3):Int:=g t.1 t.2.1+g t.2.1 t.2.2+g t.2.2 t.1
theorem BG{g:V->V->Int}(hg:∀ u v,g v u=- g u v)(P:Nat->V)(p:List Nat)(m:Nat) :
  ar (CC g) (nv P p m)=gj (fun e=>g (P e.1) (P e.2)) ((List.range (m+1)).map fun i=>(p.getD i 0,p.getD (i+1) 0))+g (P (p.getD (m+1) 0)) (P (p.getD 0 0)):=by
 induction m with
 | zero=>simp[nv,ar,gj];rw[hg (P (p[0]?.getD 0)) (P (p[1]?.getD 0))];omega
 | succ m ih=>
  rw[tg,ki,ih,List.range_succ (n:=m+1),List.map_append,ks]
  simp only[List.map_cons,List.map_nil,gj,CC]
  rw[hg (P (p.getD 0 0)) (P (p.getD (m+1) 0)),show m+1+1=m+2 from rfl]
  omega
theorem At{g:V->V->Int}(hg:∀ u v,g v u=- g u v)(P:Nat->V){p:List Nat}(hp:2<=p.length) :
  ar (CC g) (nv P p (p.length-2))=gj (fun e=>g (P e.1) (P e.2)) (pM p):=by
 rw[BG hg]
 unfold pM
 obtain⟨n,hn⟩:∃ n,p.length=n+2:=⟨p.length-2,by omega⟩
 rw[hn,show n+2-2+1=n+1 by omega,List.range_succ (n:=n+1),List.map_append,ks]
 have e:((List.range (n+1)).map fun i=>(p.getD i 0,p.getD (i+1) 0))=(List.range (n+1)).map fun k=>(p.getD k 0,p.getD ((k+1)%(n+2)) 0):=List.map_congr_left fun i hi=>by
  have:=List.mem_range.1 hi
  rw[Nat.mod_eq_of_lt (by omega)]
 rw[e]
 simp only[List.map_cons,List.map_nil,gj]
 rw[show(n+1+1)%(n+2)=0 from Nat.mod_self _]
 omega
section
variable{P:Nat->V}{N:Nat}(hl:∀ i j,i<j->j<N->aC (P i) (P j)){L:List (V×Int)}(hL:Facets P N L){poly:V×Int->List Nat}(hp:∀ q∈L,bu P N q.1 q.2 (poly q))
include hl hL hp
theorem ie{q:V×Int}(hq:q∈L):3<=(poly q).length:=by
 have hF:=(hL.mem q).1 hq
 have k:=hp q hq
 obtain⟨h1,h2,_⟩:=Ao hl hL hq k
 have hpos:0<(poly q).length:=by
  obtain⟨a,_,h⟩:=k
  obtain⟨l',e⟩:=h.head
  rw[e];simp
 have n0:=k.next hpos
 rcases Nat.lt_or_ge 1 (poly q).length with g1|g1
 ·have n1:=k.next g1
  rw[Nat.mod_eq_of_lt g1] at n0
  rcases Nat.lt_or_ge 2 (poly q).length with g2|g2
  ·exact g2
  ·have e:(poly q).length=2:=by omega
   rw[e] at n1
   exact(Ff hl hF h2 n0 n1).elim
 ·have e:(poly q).length=1:=by omega
  rw[e] at n0
  exact(n0.ne rfl).elim
theorem mo{g:V->V->Int}(hg:∀ u v,g v u=- g u v):ar (CC g) (dW P L poly)=0:=by
 have key:∀ M:List (V×Int),(∀ q∈M,q∈L)->ar (CC g) (dW P M poly)=gj (fun e=>g (P e.1) (P e.2)) (jk M poly):=by
  intro M
  induction M with
  | nil=>intro _;rfl
  | cons q M ih=>
   intro h
   have hq:=h q List.mem_cons_self
   unfold dW jk at ih ⊢
   rw[List.flatMap_cons,List.flatMap_cons,oU,ks,ih fun x hx=>h x (List.mem_cons_of_mem _ hx),At hg P (by have:=ie hl hL hp hq;omega)]
 rw[key L fun _ h=>h]
 refine wP (fun a b=>hg _ _) (pS hl hL hp) fun a b h=>?_
 obtain⟨n,d,hF,hd⟩:=(nk hl hL hp).1 h
 obtain⟨n',d',h1,h2,h3,h4⟩:=xv hl hF hd.1 hd.2
 exact(nk hl hL hp).2 ⟨n',d',h1,h3,h4⟩
end
end Go.Proofs.YtjjjkojfijpeeaaGreat.Geo
end
section
namespace Go.Proofs.YtjjjkojfijpeeaaGreat.Geo
open V
def cmp(i:Nat)(v:V):Int:=if i=0 then v.x else if i=1 then v.y else v.z
def sm(i:Nat)(t:T3):Int:=cmp i t.1+cmp i t.2.1+cmp i t.2.2
def eV(i:Nat)(t:T3):Int:=gw t*sm i t
def CE(i k:Nat)(t:T3):Int:=sm i t*sm k t+cmp i t.1*cmp k t.1+cmp i t.2.1*cmp k t.2.1+cmp i t.2.2*cmp k t.2.2
def dU(i k:Nat)(t:T3):Int:=gw t*CE i k t
def shift(d:V)(t:T3):T3:=(V.add t.1 d,V.add t.2.1 d,V.add t.2.2 d)
def gd(d u v:V):Int:=V.dot d (V.cross u v)
theorem ur(d u v:V):gd d v u=- gd d u v:=by simp only[gd,dot,cross];grind
theorem zJ(i:Nat)(u v:V):cmp i (V.add u v)=cmp i u+cmp i v:=by
 unfold cmp V.add;split
 ·rfl
 ·split<;>rfl
theorem ym(i:Nat)(d:V)(t:T3):gw t*cmp i d=gd d t.2.1 t.2.2*cmp i t.1+gd d t.2.2 t.1*cmp i t.2.1+gd d t.1 t.2.1*cmp i t.2.2:=by
 obtain⟨a,b,c⟩:=t
 unfold cmp gw gd
 simp only[dot,cross]
 split
 ·grind
 ·split<;>grind
theorem oC(d:V)(t:T3):gw (shift d t)=gw t+CC (gd d) t:=by
 obtain⟨a,b,c⟩:=t
 simp only[gw,shift,CC,gd,dot,cross,V.add]
 grind
theorem qR(i:Nat)(d:V)(t:T3):sm i (shift d t)=sm i t+3*cmp i d:=by
 unfold sm shift;simp only[zJ];omega
theorem AY(i:Nat)(d:V)(t:T3):eV i (shift d t)=eV i t+4*cmp i d*gw t+CC (fun u v=>gd d u v*(cmp i u+cmp i v+3*cmp i d)) t:=by
 have hC:=ym i d t
 unfold eV
 rw[oC,qR]
 unfold CC sm
 obtain⟨a,b,c⟩:=t
 simp only at hC ⊢
 generalize gw (a,b,c)=D at *
 generalize gd d a b=z at *
 generalize gd d b c=x at *
 generalize gd d c a=y at *
 generalize cmp i a=ai at *
 generalize cmp i b=bi at *
 generalize cmp i c=ci at *
 generalize cmp i d=di at *
 grind
theorem Ft{D x y z ai bi ci ak bk ck di dk:Int}(hi:D*di=x*ai+y*bi+z*ci)(hk:D*dk=x*ak+y*bk+z*ck) :
  (D+(z+x+y))*((ai+bi+ci+3*di)*(ak+bk+ck+3*dk)+(ai+di)*(ak+dk)+(bi+di)*(bk+dk)+(ci+di)*(ck+dk)) =
  D*((ai+bi+ci)*(ak+bk+ck)+ai*ak+bi*bk+ci*ck)+5*di*(D*(ak+bk+ck))+5*dk*(D*(ai+bi+ci))+20*di*dk*D +
  (z*((ai+bi)*(ak+bk)+ai*ak+bi*bk+4*di*(ak+bk)+4*dk*(ai+bi)+12*di*dk)+x*((bi+ci)*(bk+ck)+bi*bk+ci*ck+4*di*(bk+ck)+4*dk*(bi+ci)+12*di*dk)+y*((ci+ai)*(ck+ak)+ci*ck+ai*ak+4*di*(ck+ak)+4*dk*(ci+ai)+12*di*dk)):=by
 have h1:(ak+bk+ck)*(D*di)=(ak+bk+ck)*(x*ai+y*bi+z*ci):=by rw[hi]
 have h2:(ai+bi+ci)*(D*dk)=(ai+bi+ci)*(x*ak+y*bk+z*ck):=by rw[hk]
 have h3:dk*(D*di)=dk*(x*ai+y*bi+z*ci):=by rw[hi]
 have h4:di*(D*dk)=di*(x*ak+y*bk+z*ck):=by rw[hk]
 clear hi hk
 grind
theorem AX(i k:Nat)(d:V)(t:T3):dU i k (shift d t)=dU i k t+5*cmp i d*eV k t+5*cmp k d*eV i t+20*cmp i d*cmp k d*gw t +
  CC (fun u v=>gd d u v*((cmp i u+cmp i v)*(cmp k u+cmp k v)+cmp i u*cmp k u+cmp i v*cmp k v+4*cmp i d*(cmp k u+cmp k v)+4*cmp k d*(cmp i u+cmp i v)+12*cmp i d*cmp k d)) t:=by
 have hi:=ym i d t
 have hk:=ym k d t
 have e:=Ft hi hk
 unfold dU eV
 rw[oC]
 unfold CC CE
 rw[qR,qR]
 unfold sm
 simp only[shift,zJ]
 exact e
theorem iI(P:Nat->V)(d:V)(L:List (V×Int))(poly:V×Int->List Nat):dW (fun k=>V.add (P k) d) L poly=(dW P L poly).map (shift d):=by
 unfold dW
 rw[List.map_flatMap]
 congr 1
 funext q
 unfold nv
 rw[List.map_map];rfl
section
variable{P:Nat->V}{N:Nat}(hl:∀ i j,i<j->j<N->aC (P i) (P j)){L:List (V×Int)}(hL:Facets P N L){poly:V×Int->List Nat}(hp:∀ q∈L,bu P N q.1 q.2 (poly q))
include hl hL hp
theorem sA(d:V):ar gw (dW (fun k=>V.add (P k) d) L poly)=ar gw (dW P L poly):=by
 rw[iI,mF,mh (fun t _=>oC d t),iC gw,mo hl hL hp (fun u v=>ur d u v)]
 omega
theorem AW(i:Nat)(d:V):ar (eV i) (dW (fun k=>V.add (P k) d) L poly)=ar (eV i) (dW P L poly)+4*cmp i d*ar gw (dW P L poly):=by
 rw[iI,mF,mh (fun t _=>AY i d t),iC (fun t=>eV i t+4*cmp i d*gw t),mo hl hL hp (fun u v=>?_),iC (eV i),mD]
 ·omega
 ·rw[ur];grind
theorem Ad(i k:Nat)(d:V):ar (dU i k) (dW (fun k=>V.add (P k) d) L poly)=ar (dU i k) (dW P L poly)+5*cmp i d*ar (eV k) (dW P L poly)+5*cmp k d*ar (eV i) (dW P L poly)+20*cmp i d*cmp k d*ar gw (dW P L poly):=by
 rw[iI,mF,mh (fun t _=>AX i k d t),iC (fun t=>dU i k t+5*cmp i d*eV k t+5*cmp k d*eV i t+20*cmp i d*cmp k d*gw t),mo hl hL hp (fun u v=>?_),iC (fun t=>dU i k t+5*cmp i d*eV k t+5*cmp k d*eV i t),iC (fun t=>dU i k t+5*cmp i d*eV k t),iC (dU i k),mD,mD,mD]
 ·omega
 ·rw[ur];grind
theorem zP{q:V×Int}(hq:q∈L){t:T3}(ht:t∈nv P (poly q) ((poly q).length-2))(p:V) :
  ∃ a b:Int,0<a/\0<b/\a*gw (shift (V.neg p) t)=b*(q.2-V.dot q.1 p):=by
 have hF:=(hL.mem q).1 hq
 have k:=hp q hq
 obtain⟨i,hi,rfl⟩:=List.mem_map.1 ht
 have hi:=List.mem_range.1 hi
 have h3:=ie hl hL hp hq
 obtain⟨l',p1,p2,p3⟩:=hF.poly hl
 have e:=bu.eq hl hF k p1
 rw[<-e] at p2 p3
 have mem:∀ j,j<(poly q).length->(poly q).getD j 0∈aY P N q.1 q.2:=fun j hj=>by
  have:(poly q).getD j 0∈poly q:=by
   rw[List.getD_eq_getElem?_getD,List.getElem?_eq_getElem hj];exact List.getElem_mem hj
  exact((p3 _).1 this).1
 have mext:∀ j,j<(poly q).length->ed P (aY P N q.1 q.2) ((poly q).getD j 0):=fun j hj=>by
  have:(poly q).getD j 0∈poly q:=by
   rw[List.getD_eq_getElem?_getD,List.getElem?_eq_getElem hj];exact List.getElem_mem hj
  exact((p3 _).1 this).2
 have hne:∀ j,j<(poly q).length->0<j->(poly q).getD j 0≠(poly q).getD 0 0:=fun j hj h0 e=>by
  rw[List.getD_eq_getElem?_getD,List.getD_eq_getElem?_getD,List.getElem?_eq_getElem hj,List.getElem?_eq_getElem (by omega:0<(poly q).length)] at e
  exact List.pairwise_iff_getElem.1 p2 0 j (by omega) hj h0 e.symm
 have hs:=k.next (i:=i+1) (by omega)
 rw[Nat.mod_eq_of_lt (by omega),show i+1+1=i+2 from rfl] at hs
 have ma:=mem 0 (by omega);have mb:=mem (i+1) (by omega);have mc:=mem (i+2) (by omega)
 have hT:=Side.after (hF.flat hl) ma mb (mext 0 (by omega)) (mext (i+1) (by omega)) (hne _ (by omega) (by omega)) hs (hne _ (by omega) (by omega))
 have da:=(aL.1 ma).2;have db:=(aL.1 mb).2;have dc:=(aL.1 mc).2
 generalize (poly q).getD 0 0=a at *
 generalize (poly q).getD (i+1) 0=b at *
 generalize (poly q).getD (i+2) 0=c at *
 have u0:dot q.1 (wy P a b)=0:=by rw[dD,da,db];omega
 have v0:dot q.1 (wy P a c)=0:=by rw[dD,da,dc];omega
 refine⟨dot q.1 q.1,T q.1 (wy P a b) (wy P a c),br hF.nz.1,hT,?_⟩
 have cp:=gR u0 v0
 have key:smul (dot q.1 q.1) (cross (wy P a b) (wy P a c))=smul (T q.1 (wy P a b) (wy P a c)) q.1:=by
  have:=Dq cp q.1
  unfold T
  exact this
 have e1:gw (shift (V.neg p) (P a,P b,P c))=dot (cross (wy P a b) (wy P a c)) (V.sub (P a) p):=by
  simp only[gw,shift,wy,dot,cross,V.add,V.neg,V.sub];grind
 rw[e1,<-wC,key,wC,<-da]
 congr 1
 simp only[dot,V.sub];grind
theorem Es{q0:V×Int}(hq0:q0∈L):0<ar gw (dW P L poly):=by
 have hF:=(hL.mem q0).1 hq0
 obtain⟨_,z,hz,hlt⟩:=hF.supp
 rw[<-sA hl hL hp (V.neg (P z)),iI,mF]
 have hnn:∀ t∈dW P L poly,0<=gw (shift (V.neg (P z)) t):=fun t ht=>by
  obtain⟨q,hq,ht⟩:=List.mem_flatMap.1 ht
  obtain⟨a,b,ha,hb,e⟩:=zP hl hL hp hq ht (P z)
  have:=((hL.mem q).1 hq).supp.1 z hz
  exact ou ha (by rw[e];exact Int.mul_nonneg (Int.le_of_lt hb) (by omega))
 have h3:=ie hl hL hp hq0
 have ht:(P ((poly q0).getD 0 0),P ((poly q0).getD 1 0),P ((poly q0).getD 2 0))∈nv P (poly q0) ((poly q0).length-2):=List.mem_map.2 ⟨0,List.mem_range.2 (by omega),rfl⟩
 refine Bv hnn (List.mem_flatMap.2 ⟨q0,hq0,ht⟩) ?_
 obtain⟨a,b,ha,hb,e⟩:=zP hl hL hp hq0 ht (P z)
 exact lL ha (by rw[e];exact Int.mul_pos hb (by omega))
end
end Go.Proofs.YtjjjkojfijpeeaaGreat.Geo
end
section
set_option linter.unusedVariables false
namespace Go.Proofs.YtjjjkojfijpeeaaGreat.Sy
open Go Go.Proofs Go.Proofs.YtjjjkojfijpeeaaGreat.Geo
abbrev zA(l:List V)(p:List Nat)(m:Nat):List T3:=nv (pt l) p m
def cc(l:List V)(F:FL):List T3:=F.flatMap fun f=>zA l f.2 (f.2.length-2)
theorem qX(l:List V)(L:List (V×Int))(poly:V×Int->List Nat):cc l (L.map fun q=>(q,poly q))=dW (pt l) L poly:=by
 unfold cc dW;rw[List.flatMap_map]
theorem qI(l:List V)(p:List Nat)(m:Nat):zA l p (m+1)=zA l p m++[(pt l (p.getD 0 0),pt l (p.getD (m+1) 0),pt l (p.getD (m+2) 0))]:=tg ..
theorem qB(l:List V)(p:List Nat):zA l p 0=[]:=rfl
theorem FM(l:List V)(p:List Nat)(m:Nat):(zA l p m).length=m:=by simp[zA,nv]
theorem kH(l:List V){F:FL}{i:Nat}(h:i<F.length):cc l (F.take (i+1))=cc l (F.take i)++zA l F[i].2 (F[i].2.length-2):=by
 unfold cc;rw[List.take_succ_eq_append_getElem h,List.flatMap_append];simp
structure FIn(l:List V)(F:FL):Prop where
 len:F.length<=2000000
 ok:∀ f∈F,3<=f.2.length/\f.2.length<=100/\∀ j,j<f.2.length->f.2.getD j 0<l.length
def sB(T:List T3)(N:Nat):Prop:=T.length<=N/\∀ t∈T,bd MV t.1/\bd MV t.2.1/\bd MV t.2.2
theorem jZ{l:List V}(hl:∀ x∈l,bd MV x){k:Nat}(h:k<l.length):bd MV (pt l k):=by
 unfold pt
 rw[List.getD_eq_getElem?_getD,List.getElem?_eq_getElem h]
 exact hl _ (List.getElem_mem h)
theorem sB.append{S T:List T3}{M N:Nat}(h:sB S M)(k:sB T N):sB (S++T) (M+N):=
 ⟨by rw[List.length_append];have:=h.1;have:=k.1;omega,fun t ht=>(List.mem_append.1 ht).elim (h.2 t) (k.2 t)⟩
theorem sB.mono{T:List T3}{M N:Nat}(h:sB T M)(k:M<=N):sB T N:=⟨Nat.le_trans h.1 k,h.2⟩
theorem Cj{l:List V}(hl:∀ x∈l,bd MV x){p:List Nat}(hp:∀ j,j<p.length->p.getD j 0<l.length){m:Nat}(hm:m+2<=p.length\/m=0)(hm2:m<=100):sB (zA l p m) 100:=by
 refine⟨by rw[FM];exact hm2,fun t ht=>?_⟩
 obtain⟨i,hi,rfl⟩:=List.mem_map.1 ht
 have hi:=List.mem_range.1 hi
 exact⟨jZ hl (hp _ (by omega)),jZ hl (hp _ (by omega)),jZ hl (hp _ (by omega))⟩
theorem zd{l:List V}(hl:∀ x∈l,bd MV x){F:FL}(h:FIn l F)(i:Nat):sB (cc l (F.take i)) (100*i):=by
 induction i with
 | zero=>exact⟨by simp[cc],fun t ht=>by simp[cc] at ht⟩
 | succ i ih=>
  by_cases hi:i<F.length
  ·rw[kH l hi]
   obtain⟨k1,k2,k3⟩:=h.ok F[i] (List.getElem_mem hi)
   exact(ih.append (Cj hl k3 (by omega) (by omega))).mono (by omega)
  ·rw[List.take_of_length_le (by omega)]
   rw[List.take_of_length_le (by omega)] at ih
   exact ih.mono (by omega)
theorem vf{l:List V}(hl:∀ x∈l,bd MV x){F:FL}(h:FIn l F){i m:Nat}(hi:i<F.length)(hm:m<=F[i].2.length-2):sB (cc l (F.take i)++zA l F[i].2 m) 268435456:=by
 obtain⟨k1,k2,k3⟩:=h.ok F[i] (List.getElem_mem hi)
 have:=h.len
 exact((zd hl h i).append (Cj hl k3 (by omega) (by omega))).mono (by omega)
theorem uw{l:List V}(hl:∀ x∈l,bd MV x){F:FL}(h:FIn l F):sB (cc l F) 268435456:=by
 have:=zd hl h F.length
 rw[List.take_length] at this
 exact this.mono (by have:=h.len;omega)
theorem vg{g:T3->Int}{T:List T3}{N B:Nat}(h:sB T N)(hg:∀ t,bd MV t.1/\bd MV t.2.1/\bd MV t.2.2->(g t).natAbs<=B):(ar g T).natAbs<=N*B:=by
 have key:∀ T:List T3,(∀ t∈T,bd MV t.1/\bd MV t.2.1/\bd MV t.2.2)->(ar g T).natAbs<=T.length*B:=by
  intro T
  induction T with
  | nil=>intro _;simp[ar]
  | cons t T ih=>
   intro h
   have h1:=ih fun x hx=>h x (List.mem_cons_of_mem _ hx)
   have h2:=hg t (h t List.mem_cons_self)
   have:=Int.natAbs_add_le (g t) (ar g T)
   rw[List.length_cons,Nat.add_mul,Nat.one_mul]
   simp only[ar];omega
 exact Nat.le_trans (key T h.2) (Nat.mul_le_mul_right _ h.1)
theorem kq{t:T3}(h:bd MV t.1/\bd MV t.2.1/\bd MV t.2.2):(gw t).natAbs<=2^57:=by
 have:=B6 (gq h.1 h.2.1) h.2.2
 unfold gw
 have e:(3:Int)*(2*(MV*MV)*MV)=108086391056891904:=rfl
 rw[e] at this
 have e2:(2:Nat)^57=144115188075855872:=rfl
 omega
theorem gz{x:Int}{k:Nat}(hk:k<=511)(h:x.natAbs<=2^k):In x:=by
 obtain⟨m,hm⟩:∃ m,m=32*16:=⟨_,rfl⟩
 exact bM.2 ((rF hm).2 (Nat.lt_of_le_of_lt h (Nat.pow_lt_pow_right (by decide) (by omega))))
theorem ct{a b:Nat}{i j k:Nat}(ha:a<=2^i)(hb:b<=2^j)(h:i+j<=k):a*b<=2^k:=
 Nat.le_trans (Nat.mul_le_mul ha hb) (by rw[<-Nat.pow_add];exact Nat.pow_le_pow_right (by decide) h)
theorem fP{T:List T3}(h:sB T 268435456):(ar gw T).natAbs<=2^85:=
 Nat.le_trans (vg h fun t=>kq) (ct (i:=28) (j:=57) (by decide) (Nat.le_refl _) (by decide))
theorem bG{a b:Int}{k:Nat}(ha:a.natAbs<=2^k)(hb:b.natAbs<=2^k):(a+b).natAbs<=2^(k+1):=by
 have:=Int.natAbs_add_le a b
 rw[Nat.pow_succ];omega
theorem aX{a b:Int}{i j k:Nat}(ha:a.natAbs<=2^i)(hb:b.natAbs<=2^j)(h:i+j<=k):(a*b).natAbs<=2^k:=by
 rw[Int.natAbs_mul];exact ct ha hb h
theorem bI{a:Int}{i k:Nat}(ha:a.natAbs<=2^i)(h:i<=k):a.natAbs<=2^k:=Nat.le_trans ha (Nat.pow_le_pow_right (by decide) h)
theorem eS{v:V}(h:bd MV v)(i:Nat):(cmp i v).natAbs<=262144:=by
 have e:MV=262144:=rfl
 simp only[bd] at h
 unfold cmp
 split
 ·omega
 ·split<;>omega
theorem tR{t:T3}(h:bd MV t.1/\bd MV t.2.1/\bd MV t.2.2)(i:Nat):(sm i t).natAbs<=786432:=by
 have a:=eS h.1 i;have b:=eS h.2.1 i;have c:=eS h.2.2 i
 unfold sm;omega
theorem yZ{t:T3}(h:bd MV t.1/\bd MV t.2.1/\bd MV t.2.2)(i k:Nat):(CE i k t).natAbs<=1099511627776:=by
 have key:∀ {a b:Int} {m:Nat},a.natAbs<=m->b.natAbs<=m->(a*b).natAbs<=m*m:=fun ha hb=>by rw[Int.natAbs_mul];exact Nat.mul_le_mul ha hb
 have q:=key (tR h i) (tR h k)
 have a:=key (eS h.1 i) (eS h.1 k);have b:=key (eS h.2.1 i) (eS h.2.1 k);have c:=key (eS h.2.2 i) (eS h.2.2 k)
 unfold CE;omega
theorem xK(i:Nat){t:T3}(h:bd MV t.1/\bd MV t.2.1/\bd MV t.2.2):(eV i t).natAbs<=2^77:=
 aX (kq h) (j:=20) (Nat.le_trans (tR h i) (by decide)) (by decide)
theorem Dd(i k:Nat){t:T3}(h:bd MV t.1/\bd MV t.2.1/\bd MV t.2.2):(dU i k t).natAbs<=2^97:=
 aX (kq h) (j:=40) (Nat.le_trans (yZ h i k) (by decide)) (by decide)
theorem gP(i:Nat){T:List T3}(h:sB T 268435456):(ar (eV i) T).natAbs<=2^105:=
 Nat.le_trans (vg h fun t=>xK i) (ct (i:=28) (j:=77) (by decide) (Nat.le_refl _) (by decide))
theorem kZ(i k:Nat){T:List T3}(h:sB T 268435456):(ar (dU i k) T).natAbs<=2^125:=
 Nat.le_trans (vg h fun t=>Dd i k) (ct (i:=28) (j:=97) (by decide) (Nat.le_refl _) (by decide))
end Go.Proofs.YtjjjkojfijpeeaaGreat.Sy
end
