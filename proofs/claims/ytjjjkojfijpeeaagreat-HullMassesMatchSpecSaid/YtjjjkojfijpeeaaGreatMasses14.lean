/- HullMassesMatchSpec answers true at every input, and the input reads afterwards as it read before (HullMassesMatchSpecSaid). No condition. -/
import Derived.Test.YtjjjkojfijpeeaaGreatMasses01
import Derived.Test.YtjjjkojfijpeeaaGreatMasses11
import Derived.Test.YtjjjkojfijpeeaaGreatMasses12
import Derived.Test.YtjjjkojfijpeeaaGreatMasses13
import Derived.Test.YtjjjkojfijpeeaaGreatRows
import Derived.ProofKit
set_option linter.unusedVariables false
set_option linter.unusedSimpArgs false
set_option linter.unnecessarySimpa false
section
set_option linter.unusedVariables false
namespace Go.Proofs.YtjjjkojfijpeeaaGreat.Sy
open Go Go.Proofs Go.Proofs.YtjjjkojfijpeeaaGreat.Geo
theorem bw(l:List V):(l.map ae).length=l.length:=List.length_map ..
theorem Oi(n:Nat)(a b:List V)(ha:a.length<=1000000):cA (n+1) 13 [aQ a,aQ b]=some (.bool (decide (a=b))):=by
 rw[Qm]
 unfold HT
 refine aa (z:=a.map ae) rfl (aa (z:=b.map ae) rfl ?_)
 rw[bw,bw,bM]
 by_cases hab:a.length=b.length
 ·rw[decide_eq_true hab]
  refine aa (z:=false) rfl ?_
  rw[if_neg (by decide)]
  refine aW (fun i s=>s=[I (i:Int)]/\a.take i=b.take i) a.length 0 (Nat.zero_le _) ⟨rfl,by simp⟩ (fun i hi s hJ=>?_) (fun s hJ=>?_)
  ·obtain⟨rfl,hz⟩:=hJ
   have hib:i<b.length:=by omega
   have pre:∀ z,(Option.bind (D.truth (D.bool (!(D.beq (ae (a.getD i V.zero)) (ae (b.getD i V.zero)))))) fun b14=>
     if b14 then(some (Sum.inr (0,[(D.bool false)]))) else(Option.bind (D.bin .add (I (i:Int)) (D.int .i64 1)) fun x15=>some (Sum.inl [x15])))=some z ->
     (Option.bind (D.asSl (aQ a)) fun l5=>Option.bind (D.bin .lss (I (i:Int)) (D.int .i64 (List.length l5))) fun x6=>Option.bind (D.truth x6) fun b7=>
     if b7 then(Option.bind (D.asSl (aQ a)) fun l8=>Option.bind (D.idx (I (i:Int)) (List.length l8)) fun i9=>Option.bind (l8[i9]?) fun x10=>Option.bind (D.asSl (aQ b)) fun l11=>Option.bind (D.idx (I (i:Int)) (List.length l11)) fun lW=>Option.bind (l11[lW]?) fun x13=>
     Option.bind (D.truth (D.bool (!(D.beq x10 x13)))) fun b14=>
     if b14 then(some (Sum.inr (0,[(D.bool false)]))) else(Option.bind (D.bin .add (I (i:Int)) (D.int .i64 1)) fun x15=>some (Sum.inl [x15]))) else(some (Sum.inr (1,[]):Sum (List D) (Nat×List D))))=some z:=fun z hz=>
    aa (z:=a.map ae) rfl (aa ag (aa af (aH (by show((i:Int)<((a.map ae).length:Int));rw[bw];omega) (aa (z:=a.map ae) rfl (aa (z:=i) (by rw[bw];exact au hi) (aa (dm hi) (aa (z:=b.map ae) rfl (aa (z:=i) (by rw[bw];exact au hib) (aa (dm hib) hz)))))))))
   rw[jW] at pre
   by_cases he:a.getD i V.zero=b.getD i V.zero
   ·left
    refine⟨[I ((i+1:Nat):Int)],pre _ ?_,rfl,?_⟩
    ·rw[decide_eq_true he]
     refine aa (z:=false) rfl ?_
     rw[if_neg (by decide)]
     exact aa (aq (aC (i:=i) (by omega))) rfl
    ·rw[List.take_succ_eq_append_getElem hi,List.take_succ_eq_append_getElem hib,hz]
     simp only[List.getD,hi,hib,List.getElem?_eq_getElem,Option.getD_some] at he
     rw[he]
   ·right
    refine⟨(0,[.bool false]),pre _ ?_,?_⟩
    ·rw[decide_eq_false he];rfl
    ·rw[decide_eq_false (fun e=>he (by rw[e]))];rfl
  ·obtain⟨rfl,hz⟩:=hJ
   refine⟨(1,[]),?_,?_⟩
   ·exact aa (z:=a.map ae) rfl (aa ag (aa af (aJ (by show ¬ ((a.length:Int)<((a.map ae).length:Int));rw[bw];omega) rfl)))
   ·rw[List.take_length,hab,List.take_length] at hz
    rw[decide_eq_true hz];rfl
 ·rw[decide_eq_false hab,decide_eq_false (fun e=>hab (by rw[e]))]
  rfl
instance decBd (k:Int) (v:V):Decidable (bd k v):=by unfold bd;exact inferInstance
def ms(v:V):Nat->Int
 | 0=>v.x
 | 1=>v.y
 | _=>v.z
theorem Bq(v:V){t:Nat}(h:t<3):D.fld (ae v) t=some (I (ms v t)):=by
 have:t=0\/t=1\/t=2:=by omega
 rcases this with rfl|rfl|rfl<;>rfl
theorem yb{v:V}:bd MV v↔∀ t,t<3->¬ (ms v t>262144)/\¬ (ms v t < -262144):=by
 constructor
 ·intro h t ht
  have:t=0\/t=1\/t=2:=by omega
  simp only[bd,MV] at h
  rcases this with rfl|rfl|rfl<;>simp only[ms]<;>omega
 ·intro h
  have h0:=h 0 (by decide);have h1:=h 1 (by decide);have h2:=h 2 (by decide)
  simp only[ms] at h0 h1 h2
  simp only[bd,MV];omega
def iA(F:FL)(i:Nat):Bool:=F.any fun f=>f.2.any fun x=>decide (x=i)
def cY(S:List V)(F:FL)(k:Nat):List V:=((List.range k).filter (iA F)).map (pt S)
theorem xI(S:List V)(F:FL)(k:Nat):cY S F (k+1)=if iA F k then cY S F k++[pt S k] else cY S F k:=by
 unfold cY
 rw[List.range_succ,List.filter_append]
 by_cases h:iA F k=true<;>simp[h]
theorem sa(S:List V)(F:FL)(k:Nat):(cY S F k).length<=k:=by
 unfold cY;rw[List.length_map];exact Nat.le_trans (List.length_filter_le _ _) (by simp)
def wO(e:Int):D:=.st [.st [.sl []],I e]
def yx(S:List V)(F:FL):D:=if F.length=0 then wO 120 else if F.length>64 then wO 2 else .st [.st [aQ (cY S F S.length)],I 0]
theorem DD(n:Nat){l:List V}(h:64<l.length):cA (n+1) 12 [aQ l]=some (wO 2):=by
 rw[GG]
 unfold Gx
 exact aa (z:=l.map ae) rfl (aa dL (aa af (aH (by show((l.map ae).length:Int)>64;rw[bw];omega) rfl)))
theorem FB{l:List V}{i:Nat}(hi:i<l.length){α:Type}{k:Nat×List D->Option α}{y:α}(hy:k (if bd MV (l.getD i V.zero) then(1,[.sl [],I 0]) else(0,[.sl [],I 1]))=some y) :
  Option.bind (aY (fun(v8:List D)=>
 Option.bind (D.bin .lss (gx v8 0) (D.int .i64 3)) fun x9=>
 Option.bind (D.truth x9) fun b10=>
 if b10 then(Option.bind (D.asSl (aQ l)) fun l11=>
 Option.bind (D.idx (I (i:Int)) (List.length l11)) fun lW=>
 Option.bind (l11[lW]?) fun x13=>
 Option.bind (D.idx (gx v8 0) 3) fun i14=>
 Option.bind (D.fld x13 i14) fun x15=>
 Option.bind (D.bin .gtr x15 (D.int .i64 262144)) fun x16=>
 Option.bind (D.truth x16) fun b17=>
 Option.bind (if b17 then(some true) else(Option.bind (D.asSl (aQ l)) fun l18=>
 Option.bind (D.idx (I (i:Int)) (List.length l18)) fun i19=>
 Option.bind (l18[i19]?) fun x20=>
 Option.bind (D.idx (gx v8 0) 3) fun i21=>
 Option.bind (D.fld x20 i21) fun x22=>
 Option.bind (D.bin .lss x22 (D.int .i64 (-262144))) fun x23=>
 D.truth x23)) fun b24=>
 Option.bind (D.truth (D.bool b24)) fun b25=>
 if b25 then(some (Sum.inr (0,[(D.sl []),(D.int .i64 1)]))) else(Option.bind (D.bin .add (gx v8 0) (D.int .i64 1)) fun x26=>
 some (Sum.inl [x26,(D.sl (D.els (gx v8 1))),(gx v8 2)]))) else(some (Sum.inr (1,[(D.sl (D.els (gx v8 1))),(gx v8 2)])))) [(D.int .i64 0),.sl [],I 0]) k=some y:=by
 refine co (fun t s=>s=[I (t:Int),.sl [],I 0]/\∀ t',t'<t->¬ (ms (l.getD i V.zero) t'>262144)/\¬ (ms (l.getD i V.zero) t' < -262144)) 3 0 (by decide) ⟨rfl,fun t' h=>by omega⟩ (fun t ht s hJ=>?_) (fun s hJ=>?_)
 ·obtain⟨rfl,hz⟩:=hJ
  have hf:=Bq (l.getD i V.zero) ht
  have ix:D.idx (I (t:Int)) 3=some t:=au ht
  have pre:∀ z,(if decide (ms (l.getD i V.zero) t>262144\/ms (l.getD i V.zero) t < -262144)=true then(some (Sum.inr (0,[(D.sl []),(D.int .i64 1)]))) else(Option.bind (D.bin .add (I (t:Int)) (D.int .i64 1)) fun x26=>some (Sum.inl [x26,.sl [],I 0])))=some z->_:=fun(z:Sum (List D) (Nat×List D)) hz'=>
   aa (g:=fun x9=>Option.bind (D.truth x9) fun b10=>if b10 then(Option.bind (D.asSl (aQ l)) fun l11=>Option.bind (D.idx (I (i:Int)) (List.length l11)) fun lW=>Option.bind (l11[lW]?) fun x13=>Option.bind (D.idx (I (t:Int)) 3) fun i14=>Option.bind (D.fld x13 i14) fun x15=>Option.bind (D.bin .gtr x15 (D.int .i64 262144)) fun x16=>Option.bind (D.truth x16) fun b17=>
    Option.bind (if b17 then(some true) else(Option.bind (D.asSl (aQ l)) fun l18=>Option.bind (D.idx (I (i:Int)) (List.length l18)) fun i19=>Option.bind (l18[i19]?) fun x20=>Option.bind (D.idx (I (t:Int)) 3) fun i21=>Option.bind (D.fld x20 i21) fun x22=>Option.bind (D.bin .lss x22 (D.int .i64 (-262144))) fun x23=>D.truth x23)) fun b24=>
    Option.bind (D.truth (D.bool b24)) fun b25=>
    if b25 then(some (Sum.inr (0,[(D.sl []),(D.int .i64 1)]))) else(Option.bind (D.bin .add (I (t:Int)) (D.int .i64 1)) fun x26=>some (Sum.inl [x26,.sl [],I 0]))) else(some (Sum.inr (1,[.sl [],I 0]))))
    (ag (a:=(t:Int)) (b:=3)) (y:=z) (aa af (aH (by omega) (aa (z:=l.map ae) rfl (aa (z:=i) (by rw[bw];exact au hi) (aa (dm hi) (aa ix (aa hf (aa dL (aa af (aa (z:=decide (ms (l.getD i V.zero) t>262144\/ms (l.getD i V.zero) t < -262144)) (by
     by_cases h1:ms (l.getD i V.zero) t>262144
     ·refine aH h1 ?_
      rw[decide_eq_true (.inl h1)]
     ·refine aJ h1 (aa (z:=l.map ae) rfl (aa (z:=i) (by rw[bw];exact au hi) (aa (dm hi) (aa ix (aa hf (aa ag ?_))))))
      rw[af];congr 1;rw[decide_eq_decide];exact⟨.inr,fun h=>h.resolve_left h1⟩) (aa af hz')))))))))))
  by_cases hb:ms (l.getD i V.zero) t>262144\/ms (l.getD i V.zero) t < -262144
  ·right
   refine⟨_,pre _ (aH hb rfl),?_⟩
   rw[if_neg (fun h=>by have:=yb.1 h t ht;omega)] at hy
   exact hy
  ·left
   refine⟨[I ((t+1:Nat):Int),.sl [],I 0],pre _ (aJ hb (aa (aq (aC (i:=t) (by omega))) rfl)),rfl,fun t' ht'=>?_⟩
   by_cases e:t'=t
   ·subst e;omega
   ·exact hz t' (by omega)
 ·obtain⟨rfl,hz⟩:=hJ
  refine⟨(1,[.sl [],I 0]),aa ag (aa af (aJ (by decide) rfl)),?_⟩
  rw[if_pos (yb.2 hz)] at hy
  exact hy
theorem D2(n:Nat){l:List V}(hlen:l.length<=64)(hb:¬ ∀ x∈l,bd MV x):cA (n+1) 12 [aQ l]=some (wO 1):=by
 rw[GG]
 unfold Gx
 refine aa (z:=l.map ae) rfl (aa dL (aa af (aJ (by show ¬ ((l.map ae).length:Int)>64;rw[bw];omega) ?_)))
 refine aW (fun i s=>s=[I (i:Int),.sl [],I 0]/\∀ x∈l.take i,bd MV x) l.length 0 (Nat.zero_le _) ⟨rfl,by simp⟩ (fun i hi s hJ=>?_) (fun s hJ=>?_)
 ·obtain⟨rfl,hz⟩:=hJ
  by_cases hx:bd MV (l.getD i V.zero)
  ·left
   refine⟨[I ((i+1:Nat):Int),.sl [],I 0],?_,rfl,fun x hx'=>?_⟩
   ·refine aa (z:=l.map ae) rfl (aa ag (aa af (aH (by show((i:Int)<((l.map ae).length:Int));rw[bw];omega) (FB hi ?_))))
    rw[if_pos hx,if_neg (show ¬ (1:Nat)=0 by decide)]
    exact aa (aq (aC (i:=i) (by omega))) rfl
   ·rw[List.take_succ_eq_append_getElem hi] at hx'
    rcases List.mem_append.1 hx' with h|h
    ·exact hz x h
    ·rw[List.mem_singleton.1 h];simpa [List.getD,hi] using hx
  ·right
   refine⟨(0,[.sl [],I 1]),?_,rfl⟩
   refine aa (z:=l.map ae) rfl (aa ag (aa af (aH (by show((i:Int)<((l.map ae).length:Int));rw[bw];omega) (FB hi ?_))))
   rw[if_neg hx];rfl
 ·obtain⟨rfl,hz⟩:=hJ
  rw[List.take_length] at hz
  exact absurd hz hb
theorem AL(n:Nat){l:List V}(hlen:l.length<=64)(hl:∀ x∈l,bd MV x){F:FL}(hpl:∀ f∈F,f.2.length<=1000000)(hFl:F.length<=3000000)(h48:cA (n+2) 48 [aQ (dH l)]=some (.sl (aD F))):cA (n+3) 12 [aQ l]=some (yx (dH l) F):=by
 rw[GG]
 unfold Gx
 refine aa (z:=l.map ae) rfl (aa dL (aa af (aJ (by show ¬ ((l.map ae).length:Int)>64;rw[bw];omega) ?_)))
 refine aW (fun i s=>s=[I (i:Int),.sl [],I 0]) l.length 0 (Nat.zero_le _) rfl (fun i hi s hJ=>?_) (fun s hJ=>?_)
 ·subst hJ
  left
  refine⟨[I ((i+1:Nat):Int),.sl [],I 0],?_,rfl⟩
  refine aa (z:=l.map ae) rfl (aa ag (aa af (aH (by show((i:Int)<((l.map ae).length:Int));rw[bw];omega) (FB hi ?_))))
  rw[if_pos (hl _ (cN hi)),if_neg (show ¬ (1:Nat)=0 by decide)]
  exact aa (aq (aC (i:=i) (by omega))) rfl
 ·subst hJ
  refine⟨(1,[.sl [],I 0]),aa (z:=l.map ae) rfl (aa ag (aa af (aJ (by show ¬ ((l.length:Int)<((l.map ae).length:Int));rw[bw];omega) rfl))),?_⟩
  rw[if_neg (show ¬ (1:Nat)=0 by decide)]
  have hSl:=Nat.le_trans (mR l) hlen
  refine aa (QJ n l (by omega)) (aa h48 (aa (z:=aD F) rfl ?_))
  obtain⟨S,hS⟩:∃ S,dH l=S:=⟨_,rfl⟩
  rw[hS] at hSl ⊢
  rw[aL,show D.beq (D.int .i64 (F.length:Nat)) (D.int .i64 0)=decide (F.length=0) from bM F.length 0]
  refine aa af ?_
  unfold yx
  by_cases h0:F.length=0
  ·refine aH h0 ?_
   rw[if_pos h0];rfl
  refine aJ h0 (aa (z:=aD F) rfl (aa dL (aa af ?_)))
  rw[if_neg h0]
  by_cases h64:F.length>64
  ·refine aH (by rw[aL];omega) ?_
   rw[if_pos h64];rfl
  refine aJ (by rw[aL];omega) ?_
  rw[if_neg h64]
  refine aW (fun i s=>s=[I (i:Int),.sl [],I 0,aQ (cY S F i),I 0]) S.length 0 (Nat.zero_le _) rfl (fun i hi s hJ=>?_) (fun s hJ=>?_)
  ·subst hJ
   left
   refine⟨[I ((i+1:Nat):Int),.sl [],I 0,aQ (cY S F (i+1)),I 0],?_,rfl⟩
   have hvl:=sa S F i
   refine aa (z:=S.map ae) rfl (aa ag (aa af (aH (by show((i:Int)<((S.map ae).length:Int));rw[bw];omega) ?_)))
   refine aa (z:=(0,[.sl [],I 0,aQ (cY S F (i+1)),I 0])) ?_ (aa (aq (aC (i:=i) (by omega))) rfl)
   refine co (fun k s=>s=[.bool (iA (F.take k) i),I (k:Int),.sl [],I 0,aQ (cY S F i),I 0]) F.length 0 (Nat.zero_le _) rfl (fun k hk s hJ=>?_) (fun s hJ=>?_)
   ·subst hJ
    left
    refine⟨[.bool (iA (F.take (k+1)) i),I ((k+1:Nat):Int),.sl [],I 0,aQ (cY S F i),I 0],?_,rfl⟩
    have hpk:=hpl F[k] (List.getElem_mem hk)
    have e1:iA (F.take (k+1)) i=(iA (F.take k) i||F[k].2.any fun x=>decide (x=i)):=by
     unfold iA;rw[List.take_succ_eq_append_getElem hk,List.any_append];simp
    refine aa (z:=aD F) rfl (aa ag (aa af (aH (by show((k:Int)<((aD F).length:Int));rw[aL];omega) ?_)))
    have fp:∀ {β:Type} {g:List D->Option β} {y:β},g (ab F[k].2)=some y->(Option.bind (D.asSl (.sl (aD F))) fun l46=>Option.bind (D.idx (I (k:Int)) (List.length l46)) fun i47=>Option.bind (l46[i47]?) fun x48=>Option.bind (D.fld x48 2) fun x49=>Option.bind (D.asSl x49) g)=some y:=fun h=>
     aa (z:=aD F) rfl (aa (z:=k) (by rw[aL];exact au hk) (aa (ew hk) (aa (z:=.sl (ab F[k].2)) rfl (aa (z:=ab F[k].2) rfl h))))
    rw[e1]
    generalize iA (F.take k) i=b0
    obtain⟨p,hp⟩:∃ p,F[k].2=p:=⟨_,rfl⟩
    rw[hp] at hpk fp ⊢
    refine co (fun j s=>s=[.bool (b0||(p.take j).any fun x=>decide (x=i)),I (j:Int),.sl [],I 0,aQ (cY S F i),I 0]) p.length 0 (Nat.zero_le _) (by rw[List.take_zero,List.any_nil,Bool.or_false];rfl) (fun j hj s hJ=>?_) (fun s hJ=>?_)
    ·subst hJ
     left
     refine⟨[.bool (b0||(p.take (j+1)).any fun x=>decide (x=i)),I ((j+1:Nat):Int),.sl [],I 0,aQ (cY S F i),I 0],?_,rfl⟩
     refine fp (aa ag (aa af (aH (by show((j:Int)<((ab p).length:Int));rw[ai];omega) (aa af (aa (z:=b0||(p.take (j+1)).any fun x=>decide (x=i)) ?_ (aa (aq (aC (i:=j) (by omega))) rfl))))))
     rw[List.take_succ_eq_append_getElem hj,List.any_append]
     generalize (p.take j).any (fun x=>decide (x=i))=b1
     cases hb:(b0||b1)
     ·rw[<-Bool.or_assoc,hb,if_neg (by decide)]
      refine fp (aa (z:=j) (by rw[ai];exact au hj) (aa (lC hj) ?_))
      have:D.beq (I ((p.getD j 0:Nat):Int)) (I (i:Int))=decide (p[j]=i):=by rw[bM];simp[List.getD,hj]
      show D.truth (D.bool (D.beq (I ((p.getD j 0:Nat):Int)) (I (i:Int))))=_
      rw[this,af];simp
     ·rw[<-Bool.or_assoc,hb];rfl
    ·subst hJ
     rw[List.take_length]
     refine⟨(0,[.bool (b0||p.any fun x=>decide (x=i)),.sl [],I 0,aQ (cY S F i),I 0]),fp (aa ag (aa af (aJ (by show ¬ ((p.length:Int)<((ab p).length:Int));rw[ai];omega) rfl))),?_⟩
     exact aa (aq (aC (i:=k) (by omega))) rfl
   ·subst hJ
    rw[List.take_length]
    refine⟨(0,[.bool (iA F i),.sl [],I 0,aQ (cY S F i),I 0]),?_,?_⟩
    ·exact aa (z:=aD F) rfl (aa ag (aa af (aJ (by show ¬ ((F.length:Int)<((aD F).length:Int));rw[aL];omega) rfl)))
    ·rw[xI]
     refine aa (z:=iA F i) af ?_
     cases iA F i
     ·rfl
     ·rw[if_pos rfl,if_pos rfl]
      refine aa (z:=S.map ae) rfl (aa (z:=i) (by rw[bw];exact au hi) (aa (dm hi) ?_))
      rw[if_pos (by show((cY S F i).map ae).length+1<=1073741824;rw[bw];omega)]
      have:D.sl ((cY S F i).map ae++[ae (S.getD i V.zero)])=aQ (cY S F i++[pt S i]):=by simp[aQ,pt]
      rw[<-this];rfl
  ·subst hJ
   refine⟨(0,[.sl [],I 0,aQ (cY S F S.length),I 0]),?_,rfl⟩
   exact aa (z:=S.map ae) rfl (aa ag (aa af (aJ (by show ¬ ((S.length:Int)<((S.map ae).length:Int));rw[bw];omega) rfl)))
theorem vr{l:List V}(hs:EQ l){m:V}{d:Int}(hF:IsF (pt l) l.length m d){p:List Nat}(hp:bB (pt l) l.length m d p):p.Nodup/\p.length<=l.length/\0<p.length/\∀ x∈p,x<l.length:=by
 obtain⟨p',hp',hnd,hmem⟩:=hF.poly hs
 have e:=bB.eq hs hF hp hp'
 subst e
 obtain⟨a,_,ha,hea,_,_⟩:=hF.head hs
 have hm:a∈p:=(hmem a).2 ⟨ha,hea⟩
 refine⟨hnd,?_,List.length_pos_iff.2 (fun e=>by rw[e] at hm;cases hm),fun x hx=>(aK.1 ((hmem x).1 hx).1).1⟩
 have:=List.Nodup.length_le_of_subset (l₂:=List.range l.length) hnd fun x hx=>List.mem_range.2 (aK.1 ((hmem x).1 hx).1).1
 simpa using this
theorem Df{l:List V}(hl:∀ x∈l,bd MV x):∀ x∈dH l,bd MV x:=fun x hx=>hl x (vL.1 hx)
theorem Ot(n:Nat){l:List V}(hlen:l.length<=100):(64<l.length/\cA (n+8) 12 [aQ l]=some (wO 2))\/(l.length<=64/\(¬ ∀ x∈l,bd MV x)/\cA (n+8) 12 [aQ l]=some (wO 1)) ∨
  (l.length<=64/\(∀ x∈l,bd MV x)/\∃ F:FL,KnF (dH l) (dH l).length 0 0 F/\cA (n+8) 12 [aQ l]=some (yx (dH l) F)):=by
 by_cases h64:64<l.length
 ·exact .inl ⟨h64,DD (n+7) h64⟩
 ·by_cases hb:∀ x∈l,bd MV x
  ·right;right
   refine⟨by omega,hb,?_⟩
   have hsl:=mR l
   have hS:=Cb (qe l)
   obtain⟨F,h1,h2⟩:=Nd n (Df hb) (by omega) hS
   refine⟨F,h1,AL (n+5) (by omega) hb (fun f hf=>?_) (Nat.le_trans (h1.fok.len (by omega)) (by decide)) h2⟩
   obtain⟨q1,q2⟩:=h1.fok.ok f hf
   have:=(vr hS q1 q2).2.1
   omega
  ·exact .inr (.inl ⟨by omega,hb,D2 (n+7) (by omega) hb⟩)
theorem zX(S:List V)(F:FL):(cY S F S.length).Sublist S:=by
 have h1:((List.range S.length).map (pt S))=S:=by
  apply List.ext_getElem?
  intro i
  by_cases h:i<S.length
  ·rw[List.getElem?_map,List.getElem?_range h];simp[pt,List.getD,h]
  ·rw[List.getElem?_map,show(List.range S.length)[i]?=none by simp;omega];simp;omega
 have h2:(cY S F S.length).Sublist ((List.range S.length).map (pt S)):=List.Sublist.map _ List.filter_sublist
 rw[h1] at h2;exact h2
theorem PF(n:Nat){l:List V}(hlen:l.length<=100):(∃ e:Int,cA (n+9) 15 [bY l]=some (I e)/\e≠0)\/(cA (n+9) 15 [bY l]=some (I 0)/\l.length<=64/\(∀ x∈l,bd MV x)/\∃ F:FL,KnF (dH l) (dH l).length 0 0 F/\F.length≠0/\F.length<=64/\cY (dH l) F (dH l).length=l):=by
 rw[NK]
 unfold Im
 have err:∀ e:Int,e≠0->cA (n+8) 12 [aQ l]=some (wO e)->∃ e:Int,(Option.bind (D.get (bY l) [0]) fun x1=>
 Option.bind (cA (n+8) 12 [x1]) fun r2=>
 Option.bind (D.get r2 [1]) fun x3=>
 Option.bind (D.truth (D.bool (D.beq x3 (D.int .i64 0)))) fun b4=>
 Option.bind (if b4 then(Option.bind (D.get r2 [0,0]) fun x5=>
 Option.bind (D.get (bY l) [0]) fun x6=>
 Option.bind (cA (n+8) 13 [x5,x6]) fun r7=>
 Option.bind (D.un .not r7) fun x8=>
 D.truth x8) else(some false)) fun b9=>
 Option.bind (D.truth (D.bool b9)) fun b10=>
 if b10 then(some (D.int .i64 3)) else(Option.bind (D.get r2 [1]) fun x11=>
 some x11))=some (I e)/\e≠0:=fun e he h=>⟨e,by
  refine aa (z:=aQ l) rfl (aa h (aa (z:=I e) rfl (aa (z:=false) ?_ (aa (z:=false) rfl (aa (z:=false) rfl rfl)))))
  rw[show D.beq (I e) (D.int .i64 0)=decide (e=0) from bQ,decide_eq_false he];rfl,he⟩
 rcases Ot n hlen with⟨h1,h2⟩|⟨h0,h1,h2⟩|⟨h0,h1,F,h2,h3⟩
 ·exact .inl (err 2 (by decide) h2)
 ·exact .inl (err 1 (by decide) h2)
 ·unfold yx at h3
  by_cases f0:F.length=0
  ·rw[if_pos f0] at h3;exact .inl (err 120 (by decide) h3)
  ·rw[if_neg f0] at h3
   by_cases f1:F.length>64
   ·rw[if_pos f1] at h3;exact .inl (err 2 (by decide) h3)
   ·rw[if_neg f1] at h3
    have hvl:=sa (dH l) F (dH l).length
    have hsl:=mR l
    have h13:=Oi (n+7) (cY (dH l) F (dH l).length) l (by omega)
    by_cases hv:cY (dH l) F (dH l).length=l
    ·rw[decide_eq_true hv] at h13
     refine .inr ⟨?_,h0,h1,F,h2,f0,by omega,hv⟩
     refine aa (z:=aQ l) rfl (aa h3 (aa (z:=I 0) rfl (aa (z:=true) rfl (aa (z:=false) ?_ (aa (z:=false) rfl rfl)))))
     rw[if_pos rfl]
     exact aa (z:=aQ (cY (dH l) F (dH l).length)) rfl (aa (z:=aQ l) rfl (aa h13 rfl))
    ·rw[decide_eq_false hv] at h13
     refine .inl ⟨3,?_,by decide⟩
     refine aa (z:=aQ l) rfl (aa h3 (aa (z:=I 0) rfl (aa (z:=true) rfl (aa (z:=true) ?_ (aa (z:=true) rfl rfl)))))
     rw[if_pos rfl]
     exact aa (z:=aQ (cY (dH l) F (dH l).length)) rfl (aa (z:=aQ l) rfl (aa h13 rfl))
end Go.Proofs.YtjjjkojfijpeeaaGreat.Sy
end
section
set_option linter.unusedVariables false
namespace Go.Proofs.YtjjjkojfijpeeaaGreat.Sy
open Go Go.Proofs Go.Proofs.YtjjjkojfijpeeaaGreat.Geo
theorem Am(n:Nat){x y:Int}(hx:In x)(hy:In y)(h:In (x*y)):cA (n+3) 61 [ah x,ah y]=some (ah (x*y)):=by
 have:=OW n (a:=some x) (b:=some y) (cR hx) (cR hy)
 rwa [show FC (some x) (some y)=some (x*y) from eB h] at this
theorem uv(n:Nat){x y:Int}(hx:In x)(hy:In y)(h:In (x+y)):cA (n+4) 57 [ah x,ah y]=some (ah (x+y)):=by
 have:=P3 n (a:=some x) (b:=some y) (cR hx) (cR hy)
 rwa [show FV (some x) (some y)=some (x+y) from eB h] at this
theorem vi{α:Type}{A B y:α}(h:A=y):(if true=true then A else B)=y:=h
theorem HB(n:Nat){v:V}(h1:inR v.x)(h2:inR v.y)(h3:inR v.z):cA (n+3) 148 [ae v]=some (mI v):=by
 rw[Lx];unfold Dp
 obtain⟨Z,hZ⟩:∃ Z,(D.st [(D.bool false),(D.bool false),(az aU)])=Z:=⟨_,rfl⟩
 rw[hZ]
 refine cl (s':=[I 1,.st [ah v.x,Z,Z]]) ?_ (cl (s':=[I 2,.st [ah v.x,ah v.y,Z]]) ?_ (cl (s':=[I 3,mI v]) ?_ (iC (r:=(0,[mI v])) ?_ rfl)))
 ·exact aa (z:=.bool true) rfl (aa (z:=true) rfl (vi (aa (z:=0) rfl (aa (z:=I v.x) rfl (aa (Bs n h1) (aa (z:=0) rfl (aa (z:=.st [ah v.x,Z,Z]) rfl (aa (z:=I 1) rfl rfl))))))))
 ·exact aa (z:=.bool true) rfl (aa (z:=true) rfl (vi (aa (z:=1) rfl (aa (z:=I v.y) rfl (aa (Bs n h2) (aa (z:=1) rfl (aa (z:=.st [ah v.x,ah v.y,Z]) rfl (aa (z:=I 2) rfl rfl))))))))
 ·exact aa (z:=.bool true) rfl (aa (z:=true) rfl (vi (aa (z:=2) rfl (aa (z:=I v.z) rfl (aa (Bs n h3) (aa (z:=2) rfl (aa (z:=mI v) rfl (aa (z:=I 3) rfl rfl))))))))
 ·exact aa (z:=.bool false) rfl (aa (z:=false) rfl rfl)
theorem LT(n:Nat){u v:V}(hu:In u.x/\In u.y/\In u.z)(hv:In v.x/\In v.y/\In v.z)(h1:(u.x*v.x).natAbs<=2^100)(h2:(u.y*v.y).natAbs<=2^100)(h3:(u.z*v.z).natAbs<=2^100):cA (n+5) 147 [mI u,mI v]=some (ah (V.dot u v)):=by
 rw[Jh];unfold Dj
 have i1:In (u.x*v.x):=gl (by decide) h1
 have i2:In (u.y*v.y):=gl (by decide) h2
 have i3:In (u.z*v.z):=gl (by decide) h3
 have e1:=Int.natAbs_add_le (u.x*v.x) (u.y*v.y)
 have e2:=Int.natAbs_add_le (u.x*v.x+u.y*v.y) (u.z*v.z)
 have j2:In (u.x*v.x+u.y*v.y):=gl (k:=110) (by decide) (by omega)
 have j3:In (V.dot u v):=gl (k:=110) (by decide) (by unfold V.dot;omega)
 have j0:In 0:=ft (fI 0)
 refine aa (Bs (n+2) (fI 0)) ?_
 refine cl (s':=[I 1,ah (u.x*v.x)]) ?_ (cl (s':=[I 2,ah (u.x*v.x+u.y*v.y)]) ?_ (cl (s':=[I 3,ah (V.dot u v)]) ?_ (iC (r:=(0,[ah (V.dot u v)])) ?_ rfl)))
 ·exact aa (z:=.bool true) rfl (aa (z:=true) rfl (vi (aa (z:=0) rfl (aa (z:=ah u.x) rfl (aa (z:=0) rfl (aa (z:=ah v.x) rfl (aa (Am (n+1) hu.1 hv.1 i1) (aa (uv n j0 i1 (by rw[Int.zero_add];exact i1)) (aa (z:=I 1) rfl (by rw[Int.zero_add]))))))))))
 ·exact aa (z:=.bool true) rfl (aa (z:=true) rfl (vi (aa (z:=1) rfl (aa (z:=ah u.y) rfl (aa (z:=1) rfl (aa (z:=ah v.y) rfl (aa (Am (n+1) hu.2.1 hv.2.1 i2) (aa (uv n i1 i2 j2) (aa (z:=I 2) rfl rfl)))))))))
 ·exact aa (z:=.bool true) rfl (aa (z:=true) rfl (vi (aa (z:=2) rfl (aa (z:=ah u.z) rfl (aa (z:=2) rfl (aa (z:=ah v.z) rfl (aa (Am (n+1) hu.2.2 hv.2.2 i3) (aa (uv n j2 i3 j3) (aa (z:=I 3) rfl rfl)))))))))
 ·exact aa (z:=.bool false) rfl (aa (z:=false) rfl rfl)
theorem NH(n:Nat){u v:V}(hu:bd 1152921504606846976 u)(hv:bd 1152921504606846976 v)(h1:(u.x*v.x).natAbs<=2^100)(h2:(u.y*v.y).natAbs<=2^100)(h3:(u.z*v.z).natAbs<=2^100):cA (n+6) 91 [ae u,ae v]=some (ah (V.dot u v)):=by
 rw[PK];unfold ID
 simp only[bd] at hu hv
 have a1:inR u.x:=by simp only[inR];omega
 have a2:inR u.y:=by simp only[inR];omega
 have a3:inR u.z:=by simp only[inR];omega
 have b1:inR v.x:=by simp only[inR];omega
 have b2:inR v.y:=by simp only[inR];omega
 have b3:inR v.z:=by simp only[inR];omega
 exact aa (HB (n+2) a1 a2 a3) (aa (HB (n+2) b1 b2 b3) (aa (LT n ⟨ft a1,ft a2,ft a3⟩ ⟨ft b1,ft b2,ft b3⟩ h1 h2 h3) rfl))
theorem Fw(n:Nat){t:T3}(h:bd MV t.1/\bd MV t.2.1/\bd MV t.2.2):cA (n+6) 117 [ae t.1,ae t.2.1]=some (ae (V.cross t.1 t.2.1))/\cA (n+6) 91 [ae (V.cross t.1 t.2.1),ae t.2.2]=some (ah (jP t)):=by
 have hc:=fi h.1 h.2.1
 have h3:=h.2.2
 refine⟨FG (n+5) h.1 h.2.1 (by decide),?_⟩
 have e:(2:Int)*(MV*MV)=137438953472:=rfl
 rw[e] at hc
 have hm:MV=262144:=rfl
 have key:∀ a b:Int,(-137438953472<=a/\a<=137438953472)->(-MV<=b/\b<=MV)->(a*b).natAbs<=2^100:=fun a b ha hb=>by
  rw[Int.natAbs_mul]
  exact ce (i:=37) (j:=18) (by rw[show(2:Nat)^37=137438953472 from rfl];omega) (by rw[show(2:Nat)^18=262144 from rfl];omega) (by decide)
 refine NH n ?_ ?_ (key _ _ hc.1 h3.1) (key _ _ hc.2.1 h3.2.1) (key _ _ hc.2.2 h3.2.2)
 ·simp only[bd] at *;omega
 ·simp only[bd] at *;omega
theorem AH{α:Type}{l:List V}{p:List Nat}{j:Nat}{K:D->Option α}{y:α}(hj:j<p.length)(hk:p.getD j 0<l.length)(h:K (ae (pt l (p.getD j 0)))=some y) :
  (Option.bind (D.asSl (.sl (ab p))) fun l17=>Option.bind (D.idx (I (j:Int)) (List.length l17)) fun i18=>Option.bind (l17[i18]?) fun x19=>Option.bind (D.asSl (aQ l)) fun l20=>Option.bind (D.idx x19 (List.length l20)) fun i21=>Option.bind (l20[i21]?) K)=some y:=by
 refine aa (z:=ab p) rfl (aa (uA hj) (aa (lC hj) (aa (z:=l.map ae) rfl (aa (z:=p.getD j 0) (by rw[bw];exact au hk) (aa (z:=ae (pt l (p.getD j 0))) ?_ h)))))
 generalize p.getD j 0=k at *
 unfold pt
 rw[List.getElem?_map,List.getD_eq_getElem?_getD,List.getElem?_eq_getElem hk];rfl
theorem Nk(n:Nat){l:List V}{F:FL}(hl:∀ x∈l,bd MV x)(hF:FIn l F)(h18:cA (n+9) 18 [bY l]=some (.sl (aD F))):cA (n+10) 23 [bY l]=some (ah (ar jP (dj l F))):=by
 rw[PO];unfold IE
 have hFl:=hF.len
 refine aa (Bs (n+7) (fI 0)) (aa h18 (aa (z:=aD F) rfl ?_))
 obtain⟨Z,hZ⟩:∃ Z,(D.st [(D.bool false),(D.bool false),(az aU)])=Z:=⟨_,rfl⟩
 rw[hZ]
 refine aW (fun i s=>s=[I (i:Int),bY l,Z,ah (ar jP (dj l (F.take i)))]) F.length 0 (Nat.zero_le _) (by simp[dj,ar]) (fun i hi s hJ=>?_) (fun s hJ=>?_)
 ·subst hJ
  left
  refine⟨_,?_,rfl⟩
  refine aa ag (aa af (aH (by show((i:Int)<((aD F).length:Int));rw[aL];omega) ?_))
  refine aa (z:=aD F) rfl (aa (z:=i) (by rw[aL];exact au hi) (aa (ew hi) ?_))
  have hpart:=fun m (hm:m<=F[i].2.length-2)=>oX hl hF hi hm
  obtain⟨k1,k2,k3⟩:=hF.ok F[i] (List.getElem_mem hi)
  rw[jl l hi]
  generalize F[i]=f at *
  obtain⟨q,p⟩:=f
  simp only at *
  generalize dj l (F.take i)=T at *
  refine co (fun j s=>s=[I ((j+2:Nat):Int),bY l,Z,ah (ar jP (T++vX l p j))]) (p.length-2) 0 (Nat.zero_le _) (by rw[nc,List.append_nil];rfl) (fun j hj s hJ=>?_) (fun s hJ=>?_)
  ·subst hJ
   left
   refine⟨_,?_,rfl⟩
   have hp1:=hpart j (by omega)
   have hp2:=hpart (j+1) (by omega)
   have b0:=hC hl (k3 0 (by omega))
   have b1:=hC hl (k3 (j+1) (by omega))
   have b2:=hC hl (k3 (j+2) (by omega))
   obtain⟨v1,v2⟩:=Fw (n+3) (t:=(pt l (p.getD 0 0),pt l (p.getD (j+1) 0),pt l (p.getD (j+2) 0))) ⟨b0,b1,b2⟩
   have hs1:=gI hp1
   have hs2:=gI hp2
   rw[nj,<-List.append_assoc,j4] at hs2 ⊢
   have hv:=jq (t:=(pt l (p.getD 0 0),pt l (p.getD (j+1) 0),pt l (p.getD (j+2) 0))) ⟨b0,b1,b2⟩
   refine aa (z:=.sl (ab p)) rfl (aa (z:=ab p) rfl (aa ag (aa af (aH (by show(((j+2:Nat):Int)<((ab p).length:Int));rw[ai];omega) ?_))))
   refine aa (z:=aQ l) rfl (aa (z:=.sl (ab p)) rfl (AH (j:=0) (by omega) (k3 _ (by omega)) ?_))
   refine aa (z:=aQ l) rfl (aa (z:=.sl (ab p)) rfl (aa (ir (a:=j+2) (b:=1) rfl (by omega) (by omega)) (AH (j:=j+1) (by omega) (k3 _ (by omega)) ?_)))
   refine aa (z:=aQ l) rfl (aa (z:=.sl (ab p)) rfl (AH (j:=j+2) (by omega) (k3 _ (by omega)) ?_))
   exact aa v1 (aa v2 (aa (uv (n+5) (gl (by decide) hs1) (gl (by decide) hv) (gl (by decide) hs2)) (aa (aT (a:=j+2) (b:=1) (by omega)) rfl)))
  ·subst hJ
   refine⟨_,aa (z:=.sl (ab p)) rfl (aa (z:=ab p) rfl (aa ag (aa af (aJ (by show ¬ (((p.length-2+2:Nat):Int)<((ab p).length:Int));rw[ai];omega) rfl)))),?_⟩
   exact aa (aT (a:=i) (b:=1) (by omega)) rfl
 ·subst hJ
  refine⟨_,aa ag (aa af (aJ (by show ¬ ((F.length:Int)<((aD F).length:Int));rw[aL];omega) rfl)),?_⟩
  rw[List.take_length];rfl
end Go.Proofs.YtjjjkojfijpeeaaGreat.Sy
end
section
set_option linter.unusedVariables false
namespace Go.Proofs.YtjjjkojfijpeeaaGreat.Sy
open Go Go.Proofs Go.Proofs.YtjjjkojfijpeeaaGreat.Geo
def gr(f:Nat->Int):D:=.st [ah (f 0),ah (f 1),ah (f 2)]
def dJ(f:Nat->Nat->Int):D:=.st [gr (f 0),gr (f 1),gr (f 2)]
def jh(f:Nat->Rat):D:=.st [bR (f 0),bR (f 1),bR (f 2)]
theorem GC{k:Nat}(h:k<3):k=0\/k=1\/k=2:=by omega
theorem fG{k:Nat}(h:k<3)(v:V):D.get (ae v) [k]=some (I (cmp k v)):=by rcases GC h with rfl|rfl|rfl<;>rfl
theorem F9{k:Nat}(h:k<3)(f:Nat->Int):D.get (gr f) [k]=some (ah (f k)):=by rcases GC h with rfl|rfl|rfl<;>rfl
theorem AZ{k:Nat}(h:k<3){f g:Nat->Int}{v:Int}(hg:∀ j,j<3->g j=if j=k then v else f j):D.set (gr f) [k] (ah v)=some (gr g):=by
 have g0:=hg 0 (by decide);have g1:=hg 1 (by decide);have g2:=hg 2 (by decide)
 unfold gr
 rcases GC h with rfl|rfl|rfl
 ·rw[if_pos rfl] at g0;rw[if_neg (by decide)] at g1;rw[if_neg (by decide)] at g2
  rw[g0,g1,g2];rfl
 ·rw[if_neg (by decide)] at g0;rw[if_pos rfl] at g1;rw[if_neg (by decide)] at g2
  rw[g0,g1,g2];rfl
 ·rw[if_neg (by decide)] at g0;rw[if_neg (by decide)] at g1;rw[if_pos rfl] at g2
  rw[g0,g1,g2];rfl
theorem yt{i k:Nat}(hi:i<3)(hk:k<3)(f:Nat->Nat->Int):D.get (dJ f) [i,k]=some (ah (f i k)):=by
 rcases GC hi with rfl|rfl|rfl<;>rcases GC hk with rfl|rfl|rfl<;>rfl
theorem DA{i k:Nat}(hi:i<3)(hk:k<3){f g:Nat->Nat->Int}{v:Int}(hg:∀ a b,a<3->b<3->g a b=if a=i/\b=k then v else f a b):D.set (dJ f) [i,k] (ah v)=some (dJ g):=by
 have e:∀ a,a<3->a≠i->gr (f a)=gr (g a):=fun a ha hne=>by
  unfold gr
  rw[hg a 0 ha (by decide),hg a 1 ha (by decide),hg a 2 ha (by decide),if_neg (fun h=>hne h.1),if_neg (fun h=>hne h.1),if_neg (fun h=>hne h.1)]
 have s:=AZ hk (f:=f i) (g:=g i) (v:=v) fun j hj=>by
  rw[hg i j hi hj]
  by_cases h:j=k
  ·rw[if_pos ⟨rfl,h⟩,if_pos h]
  ·rw[if_neg (fun c=>h c.2),if_neg h]
 unfold dJ
 rcases GC hi with rfl|rfl|rfl
 ·rw[<-e 1 (by decide) (by decide),<-e 2 (by decide) (by decide)]
  simp only[D.set,List.getElem?_cons_zero,Option.bind_some,s,List.set_cons_zero]
 ·rw[<-e 0 (by decide) (by decide),<-e 2 (by decide) (by decide)]
  simp only[D.set,List.getElem?_cons_zero,List.getElem?_cons_succ,Option.bind_some,s,List.set_cons_zero,List.set_cons_succ]
 ·rw[<-e 0 (by decide) (by decide),<-e 1 (by decide) (by decide)]
  simp only[D.set,List.getElem?_cons_zero,List.getElem?_cons_succ,Option.bind_some,s,List.set_cons_zero,List.set_cons_succ]
theorem B0:D.st [D.bool false,D.bool false,az aU]=ah 0:=by rw[fr,cd];rfl
theorem dW{k:Nat}(h:k<3):D.idx (I (k:Int)) 3=some k:=au h
theorem hG{v:V}(h:bd MV v)(i:Nat):-262144<=cmp i v/\cmp i v<=262144:=by have:=eG h i;omega
theorem dn{x:Int}{k:Nat}(h:x.natAbs<=2^k)(hk:k<=511:=by decide):In x:=gl hk h
theorem OP(n:Nat){l:List V}{F:FL}(hl:∀ x∈l,bd MV x)(hF:FIn l F)(h18:∀ m,cA (m+8) 18 [bY l]=some (.sl (aD F)))(hV:ar jP (dj l F)≠0) :
  cA (n+1031) 25 [bY l]=some (jh fun i=>Rat.divInt (ar (iO i) (dj l F)) (4*ar jP (dj l F))):=by
 rw[NC];unfold IJ
 have hFl:=hF.len
 rw[B0]
 refine aa (h18 (n+1022)) (aa (z:=aD F) rfl ?_)
 obtain⟨Z,hZ⟩:∃ Z,(D.st [D.st [ah 0,ah 0],D.st [ah 0,ah 0],D.st [ah 0,ah 0]])=Z:=⟨_,rfl⟩
 rw[hZ]
 refine aW (fun i s=>s=[I (i:Int),bY l,Z,gr fun j=>ar (iO j) (dj l (F.take i))]) F.length 0 (Nat.zero_le _) (by simp[dj,ar];rfl) (fun i hi s hJ=>?_) (fun s hJ=>?_)
 ·subst hJ
  left
  refine⟨_,?_,rfl⟩
  refine aa ag (aa af (aH (by show((i:Int)<((aD F).length:Int));rw[aL];omega) ?_))
  refine aa (z:=aD F) rfl (aa (z:=i) (by rw[aL];exact au hi) (aa (ew hi) ?_))
  have hpart:=fun m (hm:m<=F[i].2.length-2)=>oX hl hF hi hm
  obtain⟨k1,k2,k3⟩:=hF.ok F[i] (List.getElem_mem hi)
  rw[jl l hi]
  generalize F[i]=f at *
  obtain⟨q,p⟩:=f
  simp only at *
  generalize dj l (F.take i)=T at *
  refine co (fun j s=>s=[I ((j+2:Nat):Int),bY l,Z,gr fun a=>ar (iO a) (T++vX l p j)]) (p.length-2) 0 (Nat.zero_le _) (by rw[nc,List.append_nil];rfl) (fun j hj s hJ=>?_) (fun s hJ=>?_)
  ·subst hJ
   left
   refine⟨_,?_,rfl⟩
   have hp1:=hpart j (by omega)
   have hp2:=hpart (j+1) (by omega)
   have b0:=hC hl (k3 0 (by omega))
   have b1:=hC hl (k3 (j+1) (by omega))
   have b2:=hC hl (k3 (j+2) (by omega))
   obtain⟨v1,v2⟩:=Fw (n+1024) (t:=(pt l (p.getD 0 0),pt l (p.getD (j+1) 0),pt l (p.getD (j+2) 0))) ⟨b0,b1,b2⟩
   have hs1:=fun a=>kA a hp1
   have hs2:=fun a=>kA a hp2
   have hv:=jq (t:=(pt l (p.getD 0 0),pt l (p.getD (j+1) 0),pt l (p.getD (j+2) 0))) ⟨b0,b1,b2⟩
   have hm:=fun a=>xm a (t:=(pt l (p.getD 0 0),pt l (p.getD (j+1) 0),pt l (p.getD (j+2) 0))) ⟨b0,b1,b2⟩
   rw[nj,<-List.append_assoc] at hs2 ⊢
   simp only[j4] at hs2 ⊢
   refine aa (z:=.sl (ab p)) rfl (aa (z:=ab p) rfl (aa ag (aa af (aH (by show(((j+2:Nat):Int)<((ab p).length:Int));rw[ai];omega) ?_))))
   refine aa (z:=aQ l) rfl (aa (z:=.sl (ab p)) rfl (AH (j:=0) (by omega) (k3 _ (by omega)) ?_))
   refine aa (z:=aQ l) rfl (aa (z:=.sl (ab p)) rfl (aa (ir (a:=j+2) (b:=1) rfl (by omega) (by omega)) (AH (j:=j+1) (by omega) (k3 _ (by omega)) ?_)))
   refine aa (z:=aQ l) rfl (aa (z:=.sl (ab p)) rfl (AH (j:=j+2) (by omega) (k3 _ (by omega)) ?_))
   refine aa v1 (aa v2 ?_)
   generalize pt l (p.getD 0 0)=A at *
   generalize pt l (p.getD (j+1) 0)=B at *
   generalize pt l (p.getD (j+2) 0)=C at *
   generalize T++vX l p j=S at *
   refine co (fun k s=>s=[I (k:Int),bY l,Z,gr (fun a=>if a<k then ar (iO a) S+iO a (A,B,C) else ar (iO a) S),bY l,jQ q p,.st [ae A,ae B,ae C]]) 3 0 (Nat.zero_le _) rfl (fun k hk s hJ=>?_) (fun s hJ=>?_)
   ·subst hJ
    left
    refine⟨[I ((k+1:Nat):Int),bY l,Z,gr (fun a=>if a<k+1 then ar (iO a) S+iO a (A,B,C) else ar (iO a) S),bY l,jQ q p,.st [ae A,ae B,ae C]],?_,rfl⟩
    have a0:=hG b0 k;have a1:=hG b1 k;have a2:=hG b2 k
    refine aa ag (aa af (aH (by show(k:Int)<3;omega) ?_))
    refine aa (dW hk) (aa (show D.get (gr fun a=>if a<k then ar (iO a) S+iO a (A,B,C) else ar (iO a) S) [k]=_ from F9 hk _) (aa (dW hk) (aa (fG hk A) (aa (dW hk) (aa (fG hk B) ?_)))))
    refine aa (aq (by simp only[inR];omega)) (aa (dW hk) (aa (fG hk C) (aa (aq (by simp only[inR];omega)) ?_)))
    refine aa (Bs (n+1028) (by simp only[inR];omega)) ?_
    rw[if_neg (Nat.lt_irrefl k)]
    have hsm:=sV (t:=(A,B,C)) ⟨b0,b1,b2⟩ k
    refine aa (Am (n+1027) (dn hv) (dn (k:=20) (Nat.le_trans hsm (by decide))) (dn (hm k))) ?_
    refine aa (uv (n+1026) (dn (hs1 k)) (dn (hm k)) (dn (hs2 k))) ?_
    refine aa (dW hk) (aa (AZ hk (f:=fun a=>if a<k then ar (iO a) S+iO a (A,B,C) else ar (iO a) S) (g:=fun a=>if a<k+1 then ar (iO a) S+iO a (A,B,C) else ar (iO a) S) fun j hj=>?_) (aa (aT (a:=k) (b:=1) (by omega)) rfl))
    by_cases e:j=k
    ·subst e;rw[if_pos (Nat.lt_succ_self _),if_pos rfl];rfl
    ·rw[if_neg e]
     by_cases h:j<k
     ·rw[if_pos h,if_pos (by omega)]
     ·rw[if_neg h,if_neg (by omega)]
   ·subst hJ
    refine⟨_,aa ag (aa af (aJ (by decide) rfl)),?_⟩
    exact aa (aT (a:=j+2) (b:=1) (by omega)) rfl
  ·subst hJ
   refine⟨_,aa (z:=.sl (ab p)) rfl (aa (z:=ab p) rfl (aa ag (aa af (aJ (by show ¬ (((p.length-2+2:Nat):Int)<((ab p).length:Int));rw[ai];omega) rfl)))),?_⟩
   exact aa (aT (a:=i) (b:=1) (by omega)) rfl
 ·subst hJ
  refine⟨_,aa ag (aa af (aJ (by show ¬ ((F.length:Int)<((aD F).length:Int));rw[aL];omega) rfl)),?_⟩
  rw[List.take_length]
  have hT:=xj hl hF
  have h1:=gI hT
  have h2:=fun i=>kA i hT
  have h3:=Nk (n+1020) hl hF (h18 _)
  generalize ar jP (dj l F)=W at *
  have i4:In 4:=ft (fI 4)
  have h4:(4*W).natAbs<=2^87:=fA (i:=2) (by decide) h1 (by decide)
  refine aa (Bs (n+1028) (fI 4)) (aa h3 (aa (Am (n+1027) i4 (dn h1) (dn h4)) ?_))
  have hq:=fun i=>Nh n (dn (h2 i)) (dn h4) (by omega)
  subst hZ
  obtain⟨z,hz⟩:∃ z,ah 0=z:=⟨_,rfl⟩
  rw[hz]
  refine cl (s':=[I 1,.st [bR (Rat.divInt (ar (iO 0) (dj l F)) (4*W)),.st [z,z],.st [z,z]]]) ?_ (cl (s':=[I 2,.st [bR (Rat.divInt (ar (iO 0) (dj l F)) (4*W)),bR (Rat.divInt (ar (iO 1) (dj l F)) (4*W)),.st [z,z]]]) ?_ (cl (s':=[I 3,jh fun i=>Rat.divInt (ar (iO i) (dj l F)) (4*W)]) ?_ (iC (r:=(0,[jh fun i=>Rat.divInt (ar (iO i) (dj l F)) (4*W)])) ?_ rfl)))
  ·exact aa (z:=.bool true) rfl (aa (z:=true) rfl (vi (aa (z:=0) rfl (aa (z:=ah (ar (iO 0) (dj l F))) rfl (aa (hq 0) (aa (z:=0) rfl (aa (z:=.st [bR (Rat.divInt (ar (iO 0) (dj l F)) (4*W)),.st [z,z],.st [z,z]]) rfl (aa (z:=I 1) rfl rfl))))))))
  ·exact aa (z:=.bool true) rfl (aa (z:=true) rfl (vi (aa (z:=1) rfl (aa (z:=ah (ar (iO 1) (dj l F))) rfl (aa (hq 1) (aa (z:=1) rfl (aa (z:=.st [bR (Rat.divInt (ar (iO 0) (dj l F)) (4*W)),bR (Rat.divInt (ar (iO 1) (dj l F)) (4*W)),.st [z,z]]) rfl (aa (z:=I 2) rfl rfl))))))))
  ·exact aa (z:=.bool true) rfl (aa (z:=true) rfl (vi (aa (z:=2) rfl (aa (z:=ah (ar (iO 2) (dj l F))) rfl (aa (hq 2) (aa (z:=2) rfl (aa (z:=jh fun i=>Rat.divInt (ar (iO i) (dj l F)) (4*W)) rfl (aa (z:=I 3) rfl rfl))))))))
  ·exact aa (z:=.bool false) rfl (aa (z:=false) rfl rfl)
theorem JW(n:Nat){x:Int}(hx:In x):cA (n+3) 68 [ah x]=some (ah (-x)):=yo n hx
def lY(f:Nat->Nat->Int)(m:Nat):Rat:=Rat.divInt (if m/3=m%3 then -(f (m/3) (m%3))+(f 0 0+f 1 1+f 2 2) else -(f (m/3) (m%3))) 120
def cn(f:Nat->Nat->Int)(m:Nat):List D:=(List.range m).map fun j=>bR (lY f j)
theorem oy(f:Nat->Nat->Int)(m:Nat):cn f (m+1)=cn f m++[bR (lY f m)]:=by unfold cn;rw[List.range_succ,List.map_append];rfl
theorem lG(f:Nat->Nat->Int)(m:Nat):(cn f m).length=m:=by simp[cn]
theorem HF{i k:Nat}(h:k<3):(3*i+k)/3=i/\(3*i+k)%3=k:=by omega
theorem yS{A B C:V}(h:bd MV A/\bd MV B/\bd MV C)(i k:Nat) :
  (-786432<=cmp i A+cmp i B+cmp i C/\cmp i A+cmp i B+cmp i C<=786432)/\(-786432<=cmp k A+cmp k B+cmp k C/\cmp k A+cmp k B+cmp k C<=786432) ∧
  ((cmp i A+cmp i B+cmp i C)*(cmp k A+cmp k B+cmp k C)).natAbs<=618475290624/\(cmp i A*cmp k A).natAbs<=68719476736/\(cmp i B*cmp k B).natAbs<=68719476736/\(cmp i C*cmp k C).natAbs<=68719476736:=by
 have key:∀ {a b:Int} {m:Nat},a.natAbs<=m->b.natAbs<=m->(a*b).natAbs<=m*m:=fun ha hb=>by rw[Int.natAbs_mul];exact Nat.mul_le_mul ha hb
 have s1:=sV (t:=(A,B,C)) h i;have s2:=sV (t:=(A,B,C)) h k
 unfold sm at s1 s2
 simp only at s1 s2
 refine⟨by omega,by omega,key s1 s2,key (eG h.1 i) (eG h.1 k),key (eG h.2.1 i) (eG h.2.1 k),key (eG h.2.2 i) (eG h.2.2 k)⟩
theorem Qr(n:Nat){l:List V}{F:FL}(hl:∀ x∈l,bd MV x)(hF:FIn l F)(h18:∀ m,cA (m+8) 18 [bY l]=some (.sl (aD F))) :
  cA (n+1031) 28 [bY l]=some (.st [I 3,I 3,.sl (cn (fun i k=>ar (dD i k) (dj l F)) 9)]):=by
 rw[NN];unfold Id
 have hFl:=hF.len
 rw[B0]
 refine aa (h18 (n+1022)) (aa (z:=aD F) rfl ?_)
 refine aW (fun i s=>s=[I (i:Int),bY l,I 0,I 0,.sl [],dJ fun a b=>ar (dD a b) (dj l (F.take i))]) F.length 0 (Nat.zero_le _) (by simp[dj,ar];rfl) (fun i hi s hJ=>?_) (fun s hJ=>?_)
 ·subst hJ
  left
  refine⟨_,?_,rfl⟩
  refine aa ag (aa af (aH (by show((i:Int)<((aD F).length:Int));rw[aL];omega) ?_))
  refine aa (z:=aD F) rfl (aa (z:=i) (by rw[aL];exact au hi) (aa (ew hi) ?_))
  have hpart:=fun m (hm:m<=F[i].2.length-2)=>oX hl hF hi hm
  obtain⟨k1,k2,k3⟩:=hF.ok F[i] (List.getElem_mem hi)
  rw[jl l hi]
  generalize F[i]=f at *
  obtain⟨q,p⟩:=f
  simp only at *
  generalize dj l (F.take i)=T at *
  refine co (fun j s=>s=[I ((j+2:Nat):Int),bY l,I 0,I 0,.sl [],dJ fun a b=>ar (dD a b) (T++vX l p j)]) (p.length-2) 0 (Nat.zero_le _) (by rw[nc,List.append_nil];rfl) (fun j hj s hJ=>?_) (fun s hJ=>?_)
  ·subst hJ
   left
   refine⟨_,?_,rfl⟩
   have hp1:=hpart j (by omega)
   have hp2:=hpart (j+1) (by omega)
   have b0:=hC hl (k3 0 (by omega))
   have b1:=hC hl (k3 (j+1) (by omega))
   have b2:=hC hl (k3 (j+2) (by omega))
   obtain⟨v1,v2⟩:=Fw (n+1024) (t:=(pt l (p.getD 0 0),pt l (p.getD (j+1) 0),pt l (p.getD (j+2) 0))) ⟨b0,b1,b2⟩
   have hs1:=fun a b=>fN a b hp1
   have hs2:=fun a b=>fN a b hp2
   have hv:=jq (t:=(pt l (p.getD 0 0),pt l (p.getD (j+1) 0),pt l (p.getD (j+2) 0))) ⟨b0,b1,b2⟩
   have hm:=fun a b=>wW a b (t:=(pt l (p.getD 0 0),pt l (p.getD (j+1) 0),pt l (p.getD (j+2) 0))) ⟨b0,b1,b2⟩
   rw[nj,<-List.append_assoc] at hs2 ⊢
   simp only[j4] at hs2 ⊢
   refine aa (z:=.sl (ab p)) rfl (aa (z:=ab p) rfl (aa ag (aa af (aH (by show(((j+2:Nat):Int)<((ab p).length:Int));rw[ai];omega) ?_))))
   refine aa (z:=aQ l) rfl (aa (z:=.sl (ab p)) rfl (AH (j:=0) (by omega) (k3 _ (by omega)) ?_))
   refine aa (z:=aQ l) rfl (aa (z:=.sl (ab p)) rfl (aa (ir (a:=j+2) (b:=1) rfl (by omega) (by omega)) (AH (j:=j+1) (by omega) (k3 _ (by omega)) ?_)))
   refine aa (z:=aQ l) rfl (aa (z:=.sl (ab p)) rfl (AH (j:=j+2) (by omega) (k3 _ (by omega)) ?_))
   refine aa v1 (aa v2 ?_)
   generalize pt l (p.getD 0 0)=A at *
   generalize pt l (p.getD (j+1) 0)=B at *
   generalize pt l (p.getD (j+2) 0)=C at *
   generalize T++vX l p j=S at *
   obtain⟨ST,hST⟩:∃ ST,D.st [ae A,ae B,ae C]=ST:=⟨_,rfl⟩
   rw[hST]
   refine co (fun i s=>s=[I (i:Int),bY l,I 0,I 0,.sl [],dJ (fun a b=>if a<i then ar (dD a b) S+dD a b (A,B,C) else ar (dD a b) S),bY l,jQ q p,ST]) 3 0 (Nat.zero_le _) rfl (fun i hi s hJ=>?_) (fun s hJ=>?_)
   ·subst hJ
    left
    refine⟨[I ((i+1:Nat):Int),bY l,I 0,I 0,.sl [],dJ (fun a b=>if a<i+1 then ar (dD a b) S+dD a b (A,B,C) else ar (dD a b) S),bY l,jQ q p,ST],?_,rfl⟩
    refine aa ag (aa af (aH (by show(i:Int)<3;omega) ?_))
    refine co (fun k s=>s=[I (k:Int),bY l,I 0,I 0,.sl [],dJ (fun a b=>if a<i\/a=i/\b<k then ar (dD a b) S+dD a b (A,B,C) else ar (dD a b) S),bY l,jQ q p,ST]) 3 0 (Nat.zero_le _) (by
     have e0:dJ (fun a b=>if a<i then ar (dD a b) S+dD a b (A,B,C) else ar (dD a b) S)=dJ (fun a b=>if a<i\/a=i/\b<0 then ar (dD a b) S+dD a b (A,B,C) else ar (dD a b) S):=by
      congr 1;funext a b;simp
     rw[<-e0];rfl) (fun k hk s hJ=>?_) (fun s hJ=>?_)
    ·subst hJ
     left
     refine⟨[I ((k+1:Nat):Int),bY l,I 0,I 0,.sl [],dJ (fun a b=>if a<i\/a=i/\b<k+1 then ar (dD a b) S+dD a b (A,B,C) else ar (dD a b) S),bY l,jQ q p,ST],?_,rfl⟩
     have a0:=hG b0 i;have a1:=hG b1 i;have a2:=hG b2 i
     have e0:=hG b0 k;have e1:=hG b1 k;have e2:=hG b2 k
     obtain⟨q1,q2,q3,q4,q5,q6⟩:=yS ⟨b0,b1,b2⟩ i k
     have hq:A8 i k (A,B,C)=(cmp i A+cmp i B+cmp i C)*(cmp k A+cmp k B+cmp k C)+cmp i A*cmp k A+cmp i B*cmp k B+cmp i C*cmp k C:=rfl
     have hql:=tR (t:=(A,B,C)) ⟨b0,b1,b2⟩ i k
     refine aa ag (aa af (aH (by show(k:Int)<3;omega) ?_))
     refine aa (dW hi) (aa (fG hi A) (aa (dW hi) (aa (fG hi B) (aa (aq (by simp only[inR];omega)) (aa (dW hi) (aa (fG hi C) (aa (aq (by simp only[inR];omega)) ?_)))))))
     refine aa (dW hk) (aa (fG hk A) (aa (dW hk) (aa (fG hk B) (aa (aq (by simp only[inR];omega)) (aa (dW hk) (aa (fG hk C) (aa (aq (by simp only[inR];omega)) ?_)))))))
     refine aa (bW (by simp only[inR];omega)) ?_
     obtain⟨M,hM⟩:∃ M,dJ (fun a b=>if a<i\/a=i/\b<k then ar (dD a b) S+dD a b (A,B,C) else ar (dD a b) S)=M:=⟨_,rfl⟩
     have gM:D.get M [i,k]=some (ah (ar (dD i k) S)):=by
      rw[<-hM,yt hi hk]
      rw[if_neg (by omega)]
     have sM:∀ v,v=ar (dD i k) S+dD i k (A,B,C)->D.set M [i,k] (ah v)=some (dJ (fun a b=>if a<i\/a=i/\b<k+1 then ar (dD a b) S+dD a b (A,B,C) else ar (dD a b) S)):=fun v hv=>by
      rw[<-hM]
      refine DA hi hk fun a b ha hb=>?_
      by_cases h:a=i/\b=k
      ·obtain⟨rfl,rfl⟩:=h
       rw[if_pos (.inr ⟨rfl,Nat.lt_succ_self _⟩),if_pos ⟨rfl,rfl⟩,hv]
      ·rw[if_neg h]
       by_cases h2:a<i\/a=i/\b<k
       ·rw[if_pos h2,if_pos (by omega)]
       ·rw[if_neg h2,if_neg (by omega)]
     rw[hM]
     generalize (cmp i A+cmp i B+cmp i C)*(cmp k A+cmp k B+cmp k C)=x0 at *
     generalize hx1:cmp i A*cmp k A=x1 at *
     generalize hx2:cmp i B*cmp k B=x2 at *
     generalize hx3:cmp i C*cmp k C=x3 at *
     refine cl (s':=[I (x0+x1),I 1,bY l,I 0,I 0,.sl [],bY l,jQ q p,ST]) ?_ (cl (s':=[I (x0+x1+x2),I 2,bY l,I 0,I 0,.sl [],bY l,jQ q p,ST]) ?_ (cl (s':=[I (x0+x1+x2+x3),I 3,bY l,I 0,I 0,.sl [],bY l,jQ q p,ST]) ?_ (iC (r:=(0,[I (x0+x1+x2+x3),bY l,I 0,I 0,.sl [],bY l,jQ q p,ST])) ?_ ?_)))
     ·refine aa (z:=.bool true) rfl (aa (z:=true) rfl (vi (aa (z:=0) rfl (aa (z:=ae A) (show D.fld ST 0=_ by rw[<-hST];rfl) (aa (dW hi) (aa (fG hi A) (aa (dW hk) (aa (fG hk A) (aa (bW (by simp only[inR];omega)) ?_)))))))))
      rw[hx1]
      exact aa (aq (by simp only[inR];omega)) (aa (z:=I 1) rfl rfl)
     ·refine aa (z:=.bool true) rfl (aa (z:=true) rfl (vi (aa (z:=1) rfl (aa (z:=ae B) (show D.fld ST 1=_ by rw[<-hST];rfl) (aa (dW hi) (aa (fG hi B) (aa (dW hk) (aa (fG hk B) (aa (bW (by simp only[inR];omega)) ?_)))))))))
      rw[hx2]
      exact aa (aq (by simp only[inR];omega)) (aa (z:=I 2) rfl rfl)
     ·refine aa (z:=.bool true) rfl (aa (z:=true) rfl (vi (aa (z:=2) rfl (aa (z:=ae C) (show D.fld ST 2=_ by rw[<-hST];rfl) (aa (dW hi) (aa (fG hi C) (aa (dW hk) (aa (fG hk C) (aa (bW (by simp only[inR];omega)) ?_)))))))))
      rw[hx3]
      exact aa (aq (by simp only[inR];omega)) (aa (z:=I 3) rfl rfl)
     ·exact aa (z:=.bool false) rfl (aa (z:=false) rfl rfl)
     ·refine aa (dW hi) (aa (dW hk) (aa gM (aa (Bs (n+1028) (by simp only[inR];omega)) ?_)))
      rw[<-hq]
      refine aa (Am (n+1027) (dn hv) (dn (k:=40) (Nat.le_trans hql (by decide))) (dn (hm i k))) ?_
      refine aa (uv (n+1026) (dn (hs1 i k)) (dn (hm i k)) (dn (hs2 i k))) ?_
      exact aa (dW hi) (aa (dW hk) (aa (sM _ rfl) (aa (aT (a:=k) (b:=1) (by omega)) rfl)))
    ·subst hJ
     refine⟨_,aa ag (aa af (aJ (by decide) rfl)),?_⟩
     refine aa (aT (a:=i) (b:=1) (by omega)) ?_
     have:dJ (fun a b=>if a<i\/a=i/\b<3 then ar (dD a b) S+dD a b (A,B,C) else ar (dD a b) S)=dJ (fun a b=>if a<i+1 then ar (dD a b) S+dD a b (A,B,C) else ar (dD a b) S):=by
      have e:∀ a b,b<3->(if a<i\/a=i/\b<3 then ar (dD a b) S+dD a b (A,B,C) else ar (dD a b) S)=(if a<i+1 then ar (dD a b) S+dD a b (A,B,C) else ar (dD a b) S):=fun a b hb=>by
       by_cases h:a<i+1
       ·rw[if_pos h,if_pos (by omega)]
       ·rw[if_neg h,if_neg (by omega)]
      simp only[dJ,gr]
      rw[e 0 0 (by decide),e 0 1 (by decide),e 0 2 (by decide),e 1 0 (by decide),e 1 1 (by decide),e 1 2 (by decide),e 2 0 (by decide),e 2 1 (by decide),e 2 2 (by decide)]
     rw[<-this];rfl
   ·subst hJ
    refine⟨_,aa ag (aa af (aJ (by decide) rfl)),?_⟩
    exact aa (aT (a:=j+2) (b:=1) (by omega)) rfl
  ·subst hJ
   refine⟨_,aa (z:=.sl (ab p)) rfl (aa (z:=ab p) rfl (aa ag (aa af (aJ (by show ¬ (((p.length-2+2:Nat):Int)<((ab p).length:Int));rw[ai];omega) rfl)))),?_⟩
   exact aa (aT (a:=i) (b:=1) (by omega)) rfl
 ·subst hJ
  refine⟨_,aa ag (aa af (aJ (by show ¬ ((F.length:Int)<((aD F).length:Int));rw[aL];omega) rfl)),?_⟩
  rw[List.take_length]
  have hT:=xj hl hF
  have h2:=fun i k=>fN i k hT
  generalize dj l F=T at *
  have t1:=dU (h2 0 0) (h2 1 1)
  have t2:=dU t1 (iE (h2 2 2) (k:=126) (by decide))
  have tn:∀ i k,(-(ar (dD i k) T)).natAbs<=2^125:=fun i k=>by rw[Int.natAbs_neg];exact h2 i k
  have tt:∀ i,(-(ar (dD i i) T)+(ar (dD 0 0) T+ar (dD 1 1) T+ar (dD 2 2) T)).natAbs<=2^128:=fun i=>dU (iE (tn i i) (k:=127) (by decide)) t2
  refine aa (z:=ah (ar (dD 0 0) T)) rfl (aa (z:=ah (ar (dD 1 1) T)) rfl (aa (uv (n+1026) (dn (h2 0 0)) (dn (h2 1 1)) (dn t1)) (aa (z:=ah (ar (dD 2 2) T)) rfl (aa (uv (n+1026) (dn t1) (dn (h2 2 2)) (dn t2)) ?_))))
  refine aW (fun i s=>s=[I (i:Int),I 0,I 0,.sl [],I 3,I 3,.sl (cn (fun i k=>ar (dD i k) T) (3*i))]) 3 0 (Nat.zero_le _) rfl (fun i hi s hJ=>?_) (fun s hJ=>?_)
  ·subst hJ
   left
   refine⟨_,?_,rfl⟩
   refine aa ag (aa af (aH (by show(i:Int)<3;omega) ?_))
   refine co (fun k s=>s=[I (k:Int),I 0,I 0,.sl [],I 3,I 3,.sl (cn (fun i k=>ar (dD i k) T) (3*i+k))]) 3 0 (Nat.zero_le _) rfl (fun k hk s hJ=>?_) (fun s hJ=>?_)
   ·subst hJ
    left
    refine⟨_,?_,rfl⟩
    refine aa ag (aa af (aH (by show(k:Int)<3;omega) ?_))
    refine aa (dW hi) (aa (dW hk) (aa (show D.get (dJ fun a b=>ar (dD a b) T) [i,k]=_ from yt hi hk _) (aa (JW (n+1027) (dn (h2 i k))) ?_)))
    have fin:∀ {v:Int},In v->lY (fun i k=>ar (dD i k) T) (3*i+k)=Rat.divInt v 120->(Option.bind (some (0,[I 0,I 0,.sl [],I 3,I 3,.sl (cn (fun i k=>ar (dD i k) T) (3*i+k)),ah v])) fun(r111:Nat×List D)=>
      Option.bind (cA (n+1030) 54 [(D.int .i64 120)]) fun r112=>
      Option.bind (cA (n+1030) 62 [(gx r111.2 6),r112]) fun r113=>
      if List.length (D.els (gx r111.2 5))+List.length [r113]<=1073741824 then(Option.bind (D.bin .add (I (k:Int)) (D.int .i64 1)) fun x114=>
      some (Sum.inl (β:=Nat×List D) [x114,(gx r111.2 0),(gx r111.2 1),(D.sl (D.els (gx r111.2 2))),(gx r111.2 3),(gx r111.2 4),(D.sl ((D.els (gx r111.2 5))++[r113]))])) else none)=some (.inl [I ((k+1:Nat):Int),I 0,I 0,.sl [],I 3,I 3,.sl (cn (fun i k=>ar (dD i k) T) (3*i+(k+1)))]):=fun{v} hv he=>by
     have i120:In 120:=ft (fI 120)
     refine aa (z:=_) rfl (aa (Bs (n+1028) (fI 120)) (aa (Nh n hv i120 (by decide)) ?_))
     have hlen:List.length (D.els (.sl (cn (fun i k=>ar (dD i k) T) (3*i+k))))+List.length [bR (Rat.divInt v 120)]<=1073741824:=by
      show(cn (fun i k=>ar (dD i k) T) (3*i+k)).length+1<=_
      rw[lG];omega
     refine(if_pos hlen).trans (aa (aT (a:=k) (b:=1) (by omega)) ?_)
     rw[show 3*i+(k+1)=3*i+k+1 by omega,oy,he]
     rfl
    obtain⟨d1,d2⟩:=HF (i:=i) hk
    by_cases e:i=k
    ·subst e
     refine(congrArg (fun z=>Option.bind z _) (aa (z:=true) (show D.truth (D.bool (D.beq (I (i:Int)) (I (i:Int))))=some true by rw[bM,decide_eq_true rfl];rfl) (vi ?c))).trans (fin (dn (tt i)) ?e)
     case c=>exact aa (uv (n+1026) (dn (tn i i)) (dn t2) (dn (tt i))) rfl
     case e=>
      unfold lY
      rw[d1,d2,if_pos rfl]
    ·refine(congrArg (fun z=>Option.bind z _) (aa (z:=false) (show D.truth (D.bool (D.beq (I (i:Int)) (I (k:Int))))=some false by rw[bM,decide_eq_false e];rfl) (by rw[if_neg (by decide)];rfl))).trans (fin (dn (tn i k)) ?_)
     unfold lY
     rw[d1,d2,if_neg e]
   ·subst hJ
    refine⟨_,aa ag (aa af (aJ (by decide) rfl)),?_⟩
    exact aa (aT (a:=i) (b:=1) (by omega)) rfl
  ·subst hJ
   refine⟨_,aa ag (aa af (aJ (by decide) rfl)),?_⟩
   rfl
end Go.Proofs.YtjjjkojfijpeeaaGreat.Sy
end
section
set_option linter.unusedVariables false
namespace Go.Proofs.YtjjjkojfijpeeaaGreat.Sy
open Go Go.Proofs Go.Proofs.YtjjjkojfijpeeaaGreat.Geo
theorem nu{m k:Nat}(h:m<=2^k)(hk:k<=511):m<eJ:=by
 have:In (m:Int):=gl hk (by rw[Int.natAbs_natCast];exact h)
 have:=bD.1 this
 rwa [Int.natAbs_natCast] at this
def wI(q:Rat)(a k:Nat):Prop:=q.num.natAbs<=2^a/\q.den<=2^k
theorem dC{x d:Int}{a k:Nat}(hx:x.natAbs<=2^a)(hd:d.natAbs<=2^k)(h0:d≠0):wI (Rat.divInt x d) a k:=by
 obtain⟨h1,h2⟩:=jd x h0
 exact⟨Nat.le_trans h1 hx,Nat.le_trans h2 hd⟩
theorem tP{x:Int}{a:Nat}(hx:x.natAbs<=2^a):wI (x:Rat) a 0:=⟨by simpa using hx,by simp⟩
theorem wI.inR{q:Rat}{a k:Nat}(h:wI q a k)(ha:a<=511:=by decide)(hk:k<=511:=by decide):xZ q:=
 ⟨gl ha h.1,gl hk (by rw[Int.natAbs_natCast];exact h.2)⟩
theorem wI.fitM{x y:Rat}{a k b m:Nat}(hx:wI x a k)(hy:wI y b m)(h1:a+b<=511:=by decide)(h2:k+m<=511:=by decide):fitM x y:=
 ⟨nu (ce hx.1 hy.1 (Nat.le_refl _)) h1,nu (ce hx.2 hy.2 (Nat.le_refl _)) h2⟩
theorem wI.fitA{x y:Rat}{a k b m:Nat}(hx:wI x a k)(hy:wI y b m)(h1:a+m<=510:=by decide)(h2:b+k<=510:=by decide)(h3:k+m<=511:=by decide):fitA x y:=by
 refine⟨?_,nu (ce hx.2 hy.2 (Nat.le_refl _)) h3⟩
 have e1:=ce hx.1 hy.2 h1
 have e2:=ce hy.1 hx.2 h2
 exact nu (k:=511) (by rw[Nat.pow_succ];omega) (by decide)
theorem tU{A B K:Int}(hK:K≠0):Rat.divInt A K+Rat.divInt B K=Rat.divInt (A+B) K:=by
 rw[Rat.divInt_add_divInt _ _ hK hK,<-Int.add_mul,Rat.divInt_mul_right hK]
theorem FA(A K:Int):- Rat.divInt A K=Rat.divInt (-A) K:=Rat.neg_divInt ..
theorem FD(x w:Int):(x:Rat)/(w:Rat)=Rat.divInt x w:=by
 rw[<-fZ x,<-fZ w,Rat.div_def,Rat.inv_divInt,Rat.divInt_mul_divInt,Int.mul_one,Int.one_mul]
theorem FS(A K x:Int):Rat.divInt A K*(x:Rat)=Rat.divInt (A*x) K:=by
 rw[<-fZ x,Rat.divInt_mul_divInt,Int.mul_one]
theorem GY(n:Nat){x y:Int}(hx:In x)(hy:In y)(h:In (x+y)):cA (n+4) 59 [ah x,ah y]=some (ah (x+y)):=by
 have:=Hp n hx hy
 rwa [eB h] at this
theorem Hz(n:Nat){x y:Int}(hx:In x)(hy:In y)(h:In (x*y)):cA (n+4) 89 [ah x,ah y]=some (ah (x*y)):=by
 have:=zI n hx hy
 rwa [eB h] at this
def sJ(t:T3):D:=.st [.st [ae t.1,ae t.2.1,ae t.2.2],ah (jP t)]
def cF(T:List T3):List D:=T.map sJ
theorem dI(T:List T3):(cF T).length=T.length:=List.length_map ..
theorem nJ{T:List T3}{i:Nat}(h:i<T.length):(cF T)[i]?=some (sJ T[i]):=by simp[cF,h]
theorem zU(T:List T3)(t:T3):cF (T++[t])=cF T++[sJ t]:=by simp[cF]
theorem sQ.take{T:List T3}{N:Nat}(h:sQ T N)(i:Nat):sQ (T.take i) N:=
 ⟨Nat.le_trans (by rw[List.length_take];omega) h.1,fun t ht=>h.2 t (List.mem_of_mem_take ht)⟩
theorem nL(g:T3->Int){T:List T3}{i:Nat}(h:i<T.length):ar g (T.take (i+1))=ar g (T.take i)+g T[i]:=by
 rw[List.take_succ_eq_append_getElem h,j4]
theorem HH(n:Nat){t:T3}(h:bd MV t.1/\bd MV t.2.1/\bd MV t.2.2):cA (n+6) 123 [ae t.1,ae t.2.1]=some (ae (V.cross t.1 t.2.1))/\cA (n+6) 33 [ae (V.cross t.1 t.2.1),ae t.2.2]=some (ah (jP t)):=
 ⟨Gv (n+5) h.1 h.2.1 (by decide),O8 n (fi h.1 h.2.1) h.2.2 (by decide) (by decide) (by decide)⟩
theorem Ny(n:Nat){l:List V}{F:FL}(hl:∀ x∈l,bd MV x)(hF:FIn l F)(h19:∀ m,cA (m+8) 19 [bY l]=some (.sl (aD F))):cA (n+9) 58 [bY l]=some (.sl (cF (dj l F))):=by
 rw[Oq];unfold Iw
 have hFl:=hF.len
 refine aa (h19 n) ?_
 refine aW (fun i s=>s=[.sl (cF (dj l (F.take i))),I (i:Int)]) F.length 0 (Nat.zero_le _) rfl (fun i hi s hJ=>?_) (fun s hJ=>?_)
 ·subst hJ
  left
  refine⟨_,?_,rfl⟩
  refine aa (z:=aD F) rfl (aa ag (aa af (aH (by show((i:Int)<((aD F).length:Int));rw[aL];omega) ?_)))
  refine aa (z:=aD F) rfl (aa (z:=i) (by rw[aL];exact au hi) (aa (ew hi) ?_))
  have hpart:=fun m (hm:m<=F[i].2.length-2)=>oX hl hF hi hm
  obtain⟨k1,k2,k3⟩:=hF.ok F[i] (List.getElem_mem hi)
  rw[jl l hi]
  generalize F[i]=f at *
  obtain⟨q,p⟩:=f
  simp only at *
  generalize dj l (F.take i)=T at *
  refine aa (z:=.sl (ab p)) rfl ?_
  refine co (fun j s=>s=[.sl (cF (T++vX l p j)),I ((j+1:Nat):Int)]) (p.length-2) 0 (Nat.zero_le _) (by rw[nc,List.append_nil];rfl) (fun j hj s hJ=>?_) (fun s hJ=>?_)
  ·subst hJ
   left
   refine⟨_,?_,rfl⟩
   have hp1:=hpart j (by omega)
   have b0:=hC hl (k3 0 (by omega))
   have b1:=hC hl (k3 (j+1) (by omega))
   have b2:=hC hl (k3 (j+2) (by omega))
   obtain⟨v1,v2⟩:=HH (n+2) (t:=(pt l (p.getD 0 0),pt l (p.getD (j+1) 0),pt l (p.getD (j+2) 0))) ⟨b0,b1,b2⟩
   rw[nj,<-List.append_assoc,zU]
   refine aa (aT (a:=j+1) (b:=1) (by omega)) (aa (z:=ab p) rfl (aa ag (aa af (aH (by show(((j+2:Nat):Int)<((ab p).length:Int));rw[ai];omega) ?_))))
   refine aa (z:=aQ l) rfl (AH (j:=0) (by omega) (k3 _ (by omega)) ?_)
   refine aa (z:=aQ l) rfl (AH (j:=j+1) (by omega) (k3 _ (by omega)) ?_)
   refine aa (z:=aQ l) rfl (aa (aT (a:=j+1) (b:=1) (by omega)) (AH (j:=j+2) (by omega) (k3 _ (by omega)) ?_))
   refine aa v1 (aa v2 ?_)
   have hlen:List.length (D.els (.sl (cF (T++vX l p j))))+List.length [sJ (pt l (p.getD 0 0),pt l (p.getD (j+1) 0),pt l (p.getD (j+2) 0))]<=1073741824:=by
    show(cF (T++vX l p j)).length+1<=_
    rw[dI];have:=hp1.1;omega
   exact(if_pos hlen).trans (aa (aT (a:=j+1) (b:=1) (by omega)) rfl)
  ·subst hJ
   refine⟨_,aa (aT (a:=p.length-2+1) (b:=1) (by omega)) (aa (z:=ab p) rfl (aa ag (aa af (aJ (by show ¬ (((p.length-2+1+1:Nat):Int)<((ab p).length:Int));rw[ai];omega) rfl)))),?_⟩
   exact aa (aT (a:=i) (b:=1) (by omega)) rfl
 ·subst hJ
  refine⟨_,aa (z:=aD F) rfl (aa ag (aa af (aJ (by show ¬ ((F.length:Int)<((aD F).length:Int));rw[aL];omega) rfl))),?_⟩
  rw[List.take_length];rfl
section
variable{l:List V}{T:List T3}(hT:sQ T 268435456)(h58:∀ m,cA (m+9) 58 [bY l]=some (.sl (cF T)))
include hT h58
theorem Nb(n:Nat):cA (n+10) 24 [bY l]=some (ah (ar jP T)):=by
 rw[NS];unfold Ig
 have hTl:=hT.1
 refine aa (h58 n) (aa (uF (n+6) (fI 0)) ?_)
 refine aW (fun i s=>s=[I (i:Int),ah (ar jP (T.take i))]) T.length 0 (Nat.zero_le _) rfl (fun i hi s hJ=>?_) (fun s hJ=>?_)
 ·subst hJ
  left
  refine⟨_,?_,rfl⟩
  have h1:=gI (hT.take i)
  have h2:=gI (hT.take (i+1))
  have h3:=jq (hT.2 _ (List.getElem_mem hi))
  rw[nL _ hi] at h2 ⊢
  refine aa (z:=cF T) rfl (aa ag (aa af (aH (by show((i:Int)<((cF T).length:Int));rw[dI];omega) ?_)))
  refine aa (z:=cF T) rfl (aa (z:=i) (by rw[dI];exact au hi) (aa (nJ hi) (aa (z:=ah (jP T[i])) rfl ?_)))
  exact aa (GY (n+5) (dn h1) (dn h3) (dn h2)) (aa (aT (a:=i) (b:=1) (by omega)) rfl)
 ·subst hJ
  refine⟨_,aa (z:=cF T) rfl (aa ag (aa af (aJ (by show ¬ ((T.length:Int)<((cF T).length:Int));rw[dI];omega) rfl))),?_⟩
  rw[List.take_length];rfl
omit h58 in
theorem NQ(n:Nat){i k:Nat}(hi:i<3)(hk:k<3):cA (n+10) 69 [.sl (cF T),I (i:Int),I (k:Int)]=some (bR (Rat.divInt (ar (dD i k) T) 120)):=by
 rw[O4];unfold IA
 have hTl:=hT.1
 refine aa (uF (n+6) (fI 0)) ?_
 refine aW (fun j s=>s=[I (j:Int),ah (ar (dD i k) (T.take j))]) T.length 0 (Nat.zero_le _) rfl (fun j hj s hJ=>?_) (fun s hJ=>?_)
 ·subst hJ
  left
  refine⟨_,?_,rfl⟩
  have h1:=fN i k (hT.take j)
  have h2:=fN i k (hT.take (j+1))
  have hb:=hT.2 _ (List.getElem_mem hj)
  have h3:=jq hb
  have h4:=wW i k hb
  have hql:=tR hb i k
  rw[nL _ hj] at h2 ⊢
  refine aa (z:=cF T) rfl (aa ag (aa af (aH (by show((j:Int)<((cF T).length:Int));rw[dI];omega) ?_)))
  have ge:∀ {β:Type} {g:D->Option β} {y:β},g (sJ T[j])=some y->(Option.bind (D.asSl (.sl (cF T))) fun l45=>Option.bind (D.idx (I (j:Int)) (List.length l45)) fun i46=>Option.bind (l45[i46]?) g)=some y:=fun h=>
   aa (z:=cF T) rfl (aa (z:=j) (by rw[dI];exact au hj) (aa (nJ hj) h))
  refine ge ?_
  generalize T[j]=t at *
  obtain⟨A,B,C⟩:=t
  obtain⟨b0,b1,b2⟩:=hb
  simp only at b0 b1 b2
  have a0:=hG b0 i;have a1:=hG b1 i;have a2:=hG b2 i
  have e0:=hG b0 k;have e1:=hG b1 k;have e2:=hG b2 k
  obtain⟨q1,q2,q3,q4,q5,q6⟩:=yS ⟨b0,b1,b2⟩ i k
  have hq:A8 i k (A,B,C)=(cmp i A+cmp i B+cmp i C)*(cmp k A+cmp k B+cmp k C)+cmp i A*cmp k A+cmp i B*cmp k B+cmp i C*cmp k C:=rfl
  obtain⟨ST,hST⟩:∃ ST,D.st [ae A,ae B,ae C]=ST:=⟨_,rfl⟩
  have g0:∀ {m:Nat},m<3->D.get ST [0,m]=some (I (cmp m A)):=fun hm=>by rw[<-hST];exact fG hm A
  have g1:∀ {m:Nat},m<3->D.get ST [1,m]=some (I (cmp m B)):=fun hm=>by rw[<-hST];exact fG hm B
  have g2:∀ {m:Nat},m<3->D.get ST [2,m]=some (I (cmp m C)):=fun hm=>by rw[<-hST];exact fG hm C
  refine aa (z:=ST) (by rw[<-hST];rfl) ?_
  refine aa (dW hi) (aa (g0 hi) (aa (dW hi) (aa (g1 hi) (aa (aq (by simp only[inR];omega)) (aa (dW hi) (aa (g2 hi) (aa (aq (by simp only[inR];omega)) ?_)))))))
  refine aa (dW hk) (aa (g0 hk) (aa (dW hk) (aa (g1 hk) (aa (aq (by simp only[inR];omega)) (aa (dW hk) (aa (g2 hk) (aa (aq (by simp only[inR];omega)) ?_)))))))
  refine aa (bW (by simp only[inR];omega)) ?_
  refine aa (dW hi) (aa (g0 hi) (aa (dW hk) (aa (g0 hk) (aa (bW (by simp only[inR];omega)) (aa (aq (by simp only[inR];omega)) ?_)))))
  refine aa (dW hi) (aa (g1 hi) (aa (dW hk) (aa (g1 hk) (aa (bW (by simp only[inR];omega)) (aa (aq (by simp only[inR];omega)) ?_)))))
  refine aa (dW hi) (aa (g2 hi) (aa (dW hk) (aa (g2 hk) (aa (bW (by simp only[inR];omega)) (aa (aq (by simp only[inR];omega)) ?_)))))
  refine ge (aa (z:=ah (jP (A,B,C))) rfl ?_)
  rw[<-hq]
  refine aa (uF (n+6) (by simp only[inR];omega)) ?_
  refine aa (Hz (n+5) (dn h3) (dn (k:=40) (Nat.le_trans hql (by decide))) (dn h4)) ?_
  exact aa (GY (n+5) (dn h1) (dn h4) (dn h2)) (aa (aT (a:=j) (b:=1) (by omega)) rfl)
 ·subst hJ
  refine⟨_,aa (z:=cF T) rfl (aa ag (aa af (aJ (by show ¬ ((T.length:Int)<((cF T).length:Int));rw[dI];omega) rfl))),?_⟩
  rw[List.take_length]
  exact aa (uF (n+6) (fI 120)) (aa (EM (n+4) (dn (fN i k hT)) (ft (fI 120)) (by decide)) rfl)
end
end Go.Proofs.YtjjjkojfijpeeaaGreat.Sy
end
section
set_option linter.unusedVariables false
namespace Go.Proofs.YtjjjkojfijpeeaaGreat.Sy
open Go Go.Proofs Go.Proofs.YtjjjkojfijpeeaaGreat.Geo
theorem Cg{S:List V}(hS:EQ S){F:FL}(hK:FOk S F){k:Nat}(h:iA F k=true):HN (pt S) S.length k:=by
 obtain⟨f,hf,h2⟩:=List.any_eq_true.1 h
 obtain⟨x,hx,hxk⟩:=List.any_eq_true.1 h2
 have hxk:x=k:=by simpa using hxk
 subst hxk
 obtain⟨q1,q2⟩:=hK.ok f hf
 obtain⟨p,p1,_,p3⟩:=q1.poly hS
 rw[<-bB.eq hS q1 q2 p1] at p3
 obtain⟨r1,r2⟩:=(p3 x).1 hx
 exact⟨_,_,q1,r1,r2⟩
theorem Lf(n:Nat)(l:List V):cA (n+10) 16 [bY l]=some (.bool false)\/(cA (n+10) 16 [bY l]=some (.bool true)/\l.length<=16/\(∀ x∈l,bd MV x)/\EQ l/\(∀ k,k<l.length->HN (pt l) l.length k)/\∃ m d,IsF (pt l) l.length m d):=by
 rw[OZ]
 unfold IF
 by_cases h:l.length<=16
 ·rcases PF n (l:=l) (by omega) with⟨e,h1,h2⟩|⟨h1,_,h3,F,h4,hne,_,h5⟩
  ·left
   refine aa (z:=aQ l) rfl (aa (z:=l.map ae) rfl (aa qM (aa af (aa (z:=false) (aH (by show((l.map ae).length:Int)<=16;rw[bw];omega) (aa h1 ?_)) rfl))))
   rw[show D.beq (I e) (D.int .i64 0)=decide (e=0) from bQ,decide_eq_false h2];rfl
  ·right
   have ho:=List.Pairwise.sublist (zX (dH l) F) (qe l)
   rw[h5] at ho
   have hs:=Cb ho
   rw[Db ho] at h4 h5
   refine⟨?_,h,h3,hs,fun k hk=>?_,?_⟩
   ·exact aa (z:=aQ l) rfl (aa (z:=l.map ae) rfl (aa qM (aa af (aa (z:=true) (aH (by show((l.map ae).length:Int)<=16;rw[bw];omega) (aa h1 rfl)) rfl))))
   ·refine Cg hs h4.fok ?_
    have e:=congrArg List.length h5
    unfold cY at e
    rw[List.length_map] at e
    have e2:((List.range l.length).filter (iA F)).length=(List.range l.length).length:=by rw[e,List.length_range]
    exact List.length_filter_eq_length_iff.1 e2 k (List.mem_range.2 hk)
   ·obtain⟨f,hf⟩:∃ f,f∈F:=List.exists_mem_of_ne_nil F (fun e=>hne (by rw[e];rfl))
    exact⟨_,_,(h4.fok.ok f hf).1⟩
 ·left
  exact aa (z:=aQ l) rfl (aa (z:=l.map ae) rfl (aa qM (aa af (aa (z:=false) (aJ (by show ¬ ((l.map ae).length:Int)<=16;rw[bw];omega) rfl) rfl))))
end Go.Proofs.YtjjjkojfijpeeaaGreat.Sy
end
section
set_option linter.unusedVariables false
namespace Go.Proofs.YtjjjkojfijpeeaaGreat.Sy
open Go Go.Proofs Go.Proofs.YtjjjkojfijpeeaaGreat.Geo
theorem M5(n:Nat){u v:V}(h1:inR (u.x+v.x))(h2:inR (u.y+v.y))(h3:inR (u.z+v.z)):cA (n+1) 64 [ae u,ae v]=some (ae (V.add u v)):=by
 rw[u64];unfold HY
 exact aa (z:=I u.x) rfl (aa (z:=I v.x) rfl (aa (aq h1) (aa (z:=I u.y) rfl (aa (z:=I v.y) rfl (aa (aq h2) (aa (z:=I u.z) rfl (aa (z:=I v.z) rfl (aa (aq h3) rfl))))))))
theorem zk(q:Rat):D.beq (bR q) (bR q)=true:=by
 unfold bR
 show(D.beq (ah q.num) (ah q.num)&&(D.beq (ah q.den) (ah q.den)&&true))=true
 rw[yk,yk];rfl
theorem FU(f:Nat->Rat):D.beq (jh f) (jh f)=true:=by
 unfold jh
 show(D.beq (bR (f 0)) (bR (f 0))&&(D.beq (bR (f 1)) (bR (f 1))&&(D.beq (bR (f 2)) (bR (f 2))&&true)))=true
 rw[zk,zk,zk];rfl
theorem Ck(f:Nat->Rat):jh f=kU ⟨f 0,f 1,f 2⟩:=rfl
section
variable{l:List V}{T:List T3}(hT:sQ T 268435456)(h58:∀ m,cA (m+9) 58 [bY l]=some (.sl (cF T)))
include hT h58
theorem A0(n:Nat)(hW:ar jP T≠0):cA (n+11) 26 [bY l]=some (jh fun i=>Rat.divInt (ar (iO i) T) (4*ar jP T)):=by
 rw[QQ];unfold IU
 have hTl:=hT.1
 have hw:=gI hT
 have h24:=Nb hT h58 n
 have hM:=fun i j=>kA i (hT.take j)
 obtain⟨W,hWe⟩:∃ W,ar jP T=W:=⟨_,rfl⟩
 rw[hWe] at hW hw h24 ⊢
 have hK:(4*W).natAbs<=2^87:=fA (i:=2) (by decide) hw (by decide)
 have hK0:4*W≠0:=by omega
 refine aa (h58 (n+1)) (aa h24 (aa (MX (n+4) (dn hw)) (aa (Ng (n+3) (v:=V.zero) (fI 0) (fI 0) (fI 0)) ?_)))
 have e0:kU (RV.of V.zero)=jh fun i=>Rat.divInt (ar (iO i) (T.take 0)) (4*W):=by
  have z:∀ i,Rat.divInt (ar (iO i) (T.take 0)) (4*W)=((0:Int):Rat):=fun i=>by
   show Rat.divInt 0 (4*W)=_
   rw[Rat.zero_divInt];rfl
  rw[Ck,z,z,z];rfl
 rw[e0]
 refine aW (fun j s=>s=[I (j:Int),jh fun i=>Rat.divInt (ar (iO i) (T.take j)) (4*W)]) T.length 0 (Nat.zero_le _) rfl (fun j hj s hJ=>?_) (fun s hJ=>?_)
 ·subst hJ
  left
  refine⟨_,?_,rfl⟩
  have hb:=hT.2 _ (List.getElem_mem hj)
  have h3:=jq hb
  have hm:=fun i=>xm i hb
  have e1:(jh fun i=>Rat.divInt (ar (iO i) (T.take (j+1))) (4*W))=jh fun i=>Rat.divInt (ar (iO i) (T.take j)) (4*W)+Rat.divInt (iO i T[j]) (4*W):=by
   congr 1;funext i
   rw[nL _ hj,tU hK0]
  rw[e1]
  refine aa (z:=cF T) rfl (aa ag (aa af (aH (by show((j:Int)<((cF T).length:Int));rw[dI];omega) ?_)))
  have ge:∀ {β:Type} {g:D->Option β} {y:β},g (sJ T[j])=some y->(Option.bind (D.asSl (.sl (cF T))) fun l45=>Option.bind (D.idx (I (j:Int)) (List.length l45)) fun i46=>Option.bind (l45[i46]?) g)=some y:=fun h=>
   aa (z:=cF T) rfl (aa (z:=j) (by rw[dI];exact au hj) (aa (nJ hj) h))
  have hMj:=fun i=>dC (hM i j) hK hK0
  have hmj:=fun i=>dC (hm i) hK hK0
  generalize T[j]=t at *
  obtain⟨A,B,C⟩:=t
  obtain⟨b0,b1,b2⟩:=hb
  simp only[bd,show MV=262144 from rfl] at b0 b1 b2
  refine ge (aa (z:=.st [ae A,ae B,ae C]) rfl (aa (z:=ae A) rfl (ge (aa (z:=.st [ae A,ae B,ae C]) rfl (aa (z:=ae B) rfl ?_)))))
  refine aa (M5 (n+9) (by simp only[inR];omega) (by simp only[inR];omega) (by simp only[inR];omega)) ?_
  refine ge (aa (z:=.st [ae A,ae B,ae C]) rfl (aa (z:=ae C) rfl ?_))
  refine aa (M5 (n+9) (by simp only[inR,V.add];omega) (by simp only[inR,V.add];omega) (by simp only[inR,V.add];omega)) ?_
  refine ge (aa (z:=ah (jP (A,B,C))) rfl ?_)
  have r1:wI ((jP (A,B,C):Int):Rat) 57 0:=tP h3
  have r2:wI ((W:Int):Rat) 85 0:=tP hw
  refine aa (MX (n+4) (dn h3)) ?_
  refine aa (N6 (n+3) r1.inR r2.inR (by simpa using hW) (nu (ce r1.1 r2.2 (Nat.le_refl _)) (by decide)) (nu (ce r1.2 r2.1 (Nat.le_refl _)) (by decide))) ?_
  rw[FD]
  have r3:wI (Rat.divInt (jP (A,B,C)) W) 57 85:=dC h3 hw hW
  have r4:wI (Rat.divInt 1 4) 0 2:=dC (by decide) (by decide) (by decide)
  refine aa (Kc (n+4) (fI 1) (fI 4) (by decide)) (aa (GK (n+4) r3.inR r4.inR (r3.fitM r4)) ?_)
  rw[Rat.divInt_mul_divInt,Int.mul_one,Int.mul_comm W 4]
  have r5:wI (Rat.divInt (jP (A,B,C)) (4*W)) 57 87:=dC h3 hK hK0
  have s:∀ a b c:Int,(-262144<=a/\a<=262144)->(-262144<=b/\b<=262144)->(-262144<=c/\c<=262144)->inR (a+b+c)/\wI ((a+b+c:Int):Rat) 20 0:=fun a b c ha hb hc=>⟨by simp only[inR];omega,tP (by omega)⟩
  obtain⟨s1,f1⟩:=s _ _ _ b0.1 b1.1 b2.1
  obtain⟨s2,f2⟩:=s _ _ _ b0.2.1 b1.2.1 b2.2.1
  obtain⟨s3,f3⟩:=s _ _ _ b0.2.2 b1.2.2 b2.2.2
  refine aa (Ng (n+3) (v:=V.add (V.add A B) C) s1 s2 s3) ?_
  refine aa (Qw (n+3) (v:=RV.of (V.add (V.add A B) C)) r5.inR ⟨f1.inR,f2.inR,f3.inR⟩ (r5.fitM f1) (r5.fitM f2) (r5.fitM f3)) ?_
  have em:kU (RV.mul (Rat.divInt (jP (A,B,C)) (4*W)) (RV.of (V.add (V.add A B) C)))=kU ⟨Rat.divInt (iO 0 (A,B,C)) (4*W),Rat.divInt (iO 1 (A,B,C)) (4*W),Rat.divInt (iO 2 (A,B,C)) (4*W)⟩:=by
   unfold RV.mul RV.of
   simp only[FS]
   rfl
  rw[em]
  refine aa (QF (n+3) (u:=⟨_,_,_⟩) (v:=⟨_,_,_⟩) ⟨(hMj 0).inR,(hMj 1).inR,(hMj 2).inR⟩ ⟨(hmj 0).inR,(hmj 1).inR,(hmj 2).inR⟩ ((hMj 0).fitA (hmj 0)) ((hMj 1).fitA (hmj 1)) ((hMj 2).fitA (hmj 2))) ?_
  exact aa (aT (a:=j) (b:=1) (by omega)) rfl
 ·subst hJ
  refine⟨_,aa (z:=cF T) rfl (aa ag (aa af (aJ (by show ¬ ((T.length:Int)<((cF T).length:Int));rw[dI];omega) rfl))),?_⟩
  rw[List.take_length];rfl
theorem Nx(n:Nat):cA (n+11) 29 [bY l]=some (.st [I 3,I 3,.sl (cn (fun i k=>ar (dD i k) T) 9)]):=by
 rw[Pn];unfold H1
 have h2:=fun i k=>fN i k hT
 have hc:=fun i k (hi:i<3) (hk:k<3)=>NQ hT n hi hk
 have t1:=dU (h2 0 0) (h2 1 1)
 have t2:=dU t1 (iE (h2 2 2) (k:=126) (by decide))
 have tn:∀ i k,(-(ar (dD i k) T)).natAbs<=2^125:=fun i k=>by rw[Int.natAbs_neg];exact h2 i k
 have k7:(120:Int).natAbs<=2^7:=by decide
 have k0:(120:Int)≠0:=by decide
 have g1:=fun i k=>dC (h2 i k) k7 k0
 have g2:=dC t1 k7 k0
 have g3:=dC t2 k7 k0
 have g4:=fun i k=>dC (tn i k) k7 k0
 refine aa (h58 (n+1)) (aa (hc 0 0 (by decide) (by decide)) (aa (hc 1 1 (by decide) (by decide)) (aa (Gy (n+4) (g1 0 0).inR (g1 1 1).inR ((g1 0 0).fitA (g1 1 1))) ?_)))
 rw[tU k0]
 refine aa (hc 2 2 (by decide) (by decide)) (aa (Gy (n+4) g2.inR (g1 2 2).inR (g2.fitA (g1 2 2))) ?_)
 rw[tU k0]
 refine aW (fun i s=>s=[I (i:Int),I 0,I 0,.sl [],I 3,I 3,.sl (cn (fun i k=>ar (dD i k) T) (3*i))]) 3 0 (Nat.zero_le _) rfl (fun i hi s hJ=>?_) (fun s hJ=>?_)
 ·subst hJ
  left
  refine⟨_,?_,rfl⟩
  refine aa ag (aa af (aH (by show(i:Int)<3;omega) ?_))
  refine co (fun k s=>s=[I (k:Int),I 0,I 0,.sl [],I 3,I 3,.sl (cn (fun i k=>ar (dD i k) T) (3*i+k))]) 3 0 (Nat.zero_le _) rfl (fun k hk s hJ=>?_) (fun s hJ=>?_)
  ·subst hJ
   left
   refine⟨_,?_,rfl⟩
   refine aa ag (aa af (aH (by show(k:Int)<3;omega) ?_))
   refine aa (hc i k hi hk) (aa (Np (n+4) (g1 i k).inR) ?_)
   rw[FA]
   have fin:∀ {v:Rat},lY (fun i k=>ar (dD i k) T) (3*i+k)=v->(Option.bind (some (0,[I 0,I 0,.sl [],I 3,I 3,.sl (cn (fun i k=>ar (dD i k) T) (3*i+k)),bR v])) fun(r17:Nat×List D)=>
     if List.length (D.els (gx r17.2 5))+List.length [(gx r17.2 6)]<=1073741824 then(Option.bind (D.bin .add (I (k:Int)) (D.int .i64 1)) fun x18=>
     some (Sum.inl (β:=Nat×List D) [x18,(gx r17.2 0),(gx r17.2 1),(D.sl (D.els (gx r17.2 2))),(gx r17.2 3),(gx r17.2 4),(D.sl ((D.els (gx r17.2 5))++[(gx r17.2 6)]))])) else none)=some (.inl [I ((k+1:Nat):Int),I 0,I 0,.sl [],I 3,I 3,.sl (cn (fun i k=>ar (dD i k) T) (3*i+(k+1)))]):=fun{v} he=>by
    refine aa (z:=_) rfl ?_
    have hlen:List.length (D.els (.sl (cn (fun i k=>ar (dD i k) T) (3*i+k))))+List.length [bR v]<=1073741824:=by
     show(cn (fun i k=>ar (dD i k) T) (3*i+k)).length+1<=_
     rw[lG];omega
    refine(if_pos hlen).trans (aa (aT (a:=k) (b:=1) (by omega)) ?_)
    rw[show 3*i+(k+1)=3*i+k+1 by omega,oy,he]
    rfl
   obtain⟨d1,d2⟩:=HF (i:=i) hk
   by_cases e:i=k
   ·subst e
    refine(congrArg (fun z=>Option.bind z _) (aa (z:=true) (show D.truth (D.bool (D.beq (I (i:Int)) (I (i:Int))))=some true by rw[bM,decide_eq_true rfl];rfl) (vi ?c))).trans (fin (v:=Rat.divInt (-(ar (dD i i) T)+(ar (dD 0 0) T+ar (dD 1 1) T+ar (dD 2 2) T)) 120) ?e)
    case c=>
     refine aa (Gy (n+4) g3.inR (g4 i i).inR (g3.fitA (g4 i i))) ?_
     rw[tU k0,Int.add_comm (ar (dD 0 0) T+ar (dD 1 1) T+ar (dD 2 2) T)]
     rfl
    case e=>
     unfold lY
     rw[d1,d2,if_pos rfl]
   ·refine(congrArg (fun z=>Option.bind z _) (aa (z:=false) (show D.truth (D.bool (D.beq (I (i:Int)) (I (k:Int))))=some false by rw[bM,decide_eq_false e];rfl) (by rw[if_neg (by decide)];rfl))).trans (fin ?_)
    unfold lY
    rw[d1,d2,if_neg e]
  ·subst hJ
   refine⟨_,aa ag (aa af (aJ (by decide) rfl)),?_⟩
   exact aa (aT (a:=i) (b:=1) (by omega)) rfl
 ·subst hJ
  refine⟨_,aa ag (aa af (aJ (by decide) rfl)),?_⟩
  rfl
end
theorem PJ(n:Nat)(f:Nat->Nat->Int):cA (n+1) 27 [.st [I 3,I 3,.sl (cn f 9)],.st [I 3,I 3,.sl (cn f 9)]]=some (.bool true):=by
 rw[Qh];unfold Iv
 have hl:=lG f 9
 have hg:∀ i,i<9->(cn f 9)[i]?=some (bR (lY f i)):=fun i hi=>by simp[cn,hi]
 generalize cn f 9=L at *
 refine aa (z:=I 3) rfl (aa (z:=I 3) rfl (aa (z:=false) rfl (aa (z:=false) ?_ (aa (z:=false) rfl (aa (z:=false) ?_ (aa (z:=false) rfl ?_))))))
 ·rw[if_neg (by decide)]
  exact aa (z:=I 3) rfl (aa (z:=I 3) rfl rfl)
 ·rw[if_neg (by decide)]
  refine aa (z:=.sl L) rfl (aa (z:=L) rfl (aa (z:=.sl L) rfl (aa (z:=L) rfl ?_)))
  rw[show D.beq (D.int .i64 (L.length:Int)) (D.int .i64 (L.length:Int))=true by rw[bM,decide_eq_true rfl]]
  rfl
 rw[if_neg (by decide)]
 refine aW (fun i s=>s=[I (i:Int)]) 9 0 (Nat.zero_le _) rfl (fun i hi s hJ=>?_) (fun s hJ=>?_)
 ·subst hJ
  left
  refine⟨_,?_,rfl⟩
  refine aa (z:=.sl L) rfl (aa (z:=L) rfl (aa ag (aa af (aH (by show((i:Int)<(L.length:Int));omega) ?_))))
  refine aa (z:=.sl L) rfl (aa (z:=L) rfl (aa (z:=i) (by rw[hl];exact au hi) (aa (hg i hi) ?_)))
  refine aa (z:=.sl L) rfl (aa (z:=L) rfl (aa (z:=i) (by rw[hl];exact au hi) (aa (hg i hi) ?_)))
  refine aa (z:=false) (by rw[zk];rfl) ?_
  rw[if_neg (by decide)]
  exact aa (aT (a:=i) (b:=1) (by omega)) rfl
 ·subst hJ
  refine⟨(1,[]),aa (z:=.sl L) rfl (aa (z:=L) rfl (aa ag (aa af (aJ (by show ¬ ((9:Int)<(L.length:Int));omega) rfl)))),rfl⟩
theorem PH{l:List V}(hl:∀ x∈l,bd MV x)(hlen:l.length<=64)(hs:EQ l):∃ (L:List (V×Int)) (poly:V×Int->List Nat),Facets (pt l) l.length L/\(∀ q∈L,bB (pt l) l.length q.1 q.2 (poly q)) ∧
  FIn l (L.map fun q=>(q,poly q))/\(∀ m,cA (m+8) 18 [bY l]=some (.sl (aD (L.map fun q=>(q,poly q)))))/\∀ m,cA (m+8) 19 [bY l]=some (.sl (aD (L.map fun q=>(q,poly q)))):=by
 obtain⟨L,poly,hL,hP,hLl,_⟩:=H4 0 hl (show l.length<=100 by omega) hs
 have hFm:∀ m,∃ F:FL,F=(L.map fun q=>(q,poly q))/\cA (m+8) 18 [bY l]=some (.sl (aD F))/\cA (m+8) 19 [bY l]=some (.sl (aD F)):=fun m=>by
  obtain⟨F,hK,h48⟩:=Nd m hl (show l.length<=100 by omega) hs
  obtain⟨L',poly',hL',hP',_,h18⟩:=H4 (m+1) hl (show l.length<=100 by omega) hs
  have e':L=L':=Facets.eq hL hL'
  subst e'
  have eL:F.map Prod.fst=L:=Facets.eq hK.facets hL
  have eq1:∀ f∈F,poly f.1=f.2/\poly' f.1=f.2:=fun f hf=>by
   obtain⟨q1,q2⟩:=hK.fok.ok f hf
   have hm:f.1∈L:=by rw[<-eL];exact List.mem_map.2 ⟨f,hf,rfl⟩
   exact⟨bB.eq hs q1 (hP f.1 hm) q2,bB.eq hs q1 (hP' f.1 hm) q2⟩
  have eF:(L.map fun q=>jQ q (poly' q))=aD F:=by
   rw[<-eL,List.map_map]
   refine List.map_congr_left fun f hf=>?_
   simp only[Function.comp_apply,(eq1 f hf).2]
  refine⟨F,?_,by rw[h18,eF],?_⟩
  ·rw[<-eL,List.map_map]
   have:∀ f∈F,((fun q=>(q,poly q)) ∘ Prod.fst) f=id f:=fun f hf=>by
    show(f.1,poly f.1)=f
    rw[(eq1 f hf).1]
   rw[List.map_congr_left this,List.map_id]
  ·rw[Qv]
   unfold Ir
   exact aa (z:=aQ l) rfl (aa h48 rfl)
 refine⟨L,poly,hL,hP,⟨by rw[List.length_map];exact hLl,fun f hf=>?_⟩,fun m=>?_,fun m=>?_⟩
 ·obtain⟨q,hq,rfl⟩:=List.mem_map.1 hf
  have h3:=jA hs hL hP hq
  have hp:=vr hs ((hL.mem q).1 hq) (hP q hq)
  refine⟨h3,by show(poly q).length<=100;omega,fun j hj=>hp.2.2.2 _ ?_⟩
  simp only[List.getD_eq_getElem?_getD,List.getElem?_eq_getElem hj]
  exact List.getElem_mem hj
 ·obtain⟨F,rfl,h,_⟩:=hFm m;exact h
 ·obtain⟨F,rfl,_,h⟩:=hFm m;exact h
theorem Ma{call:Nat->List D->Option D}(n:Nat)(l:List V)(hc:∀ f xs,f≠10->call f xs=cA (n+1031) f xs)(h10:call 10 []=some (.bool true)):F5 aY call (bY l)=some (.bool true):=by
 unfold F5
 rcases Lf (n+1021) l with h|⟨h,hlen,hl,hs,hv,m0,d0,hF0⟩
 ·exact aa (z:=.bool false) ((hc 16 _ (by decide)).trans h) (aa (z:=.bool true) rfl (aa (z:=true) rfl (aa h10 rfl)))
 obtain⟨L,poly,hL,hP,hF,h18,h19⟩:=PH hl (by omega) hs
 have hpos:=C9 hs hL hP ((hL.mem (m0,d0)).2 hF0)
 rw[<-Fp] at hpos
 have h58:=fun m=>Ny m hl hF h19
 have hT:=xj hl hF
 have b1:=Nk (n+1021) hl hF (h18 _)
 have b2:=Nb hT h58 (n+1021)
 have b3:=OP n hl hF h18 (by omega)
 have b4:=A0 hT h58 (n+1020) (by omega)
 have b5:=Qr n hl hF h18
 have b6:=Nx hT h58 (n+1020)
 refine aa (z:=.bool true) ((hc 16 _ (by decide)).trans h) (aa (z:=.bool false) rfl (aa (z:=false) rfl ?_))
 rw[if_neg (by decide)]
 refine aa h10 (aa (z:=true) rfl (aa (z:=true) (vi ?_) (aa (z:=true) rfl (aa (z:=true) (vi ?_) (aa (z:=true) rfl (aa (z:=true) (vi ?_) rfl))))))
 ·refine aa ((hc 23 _ (by decide)).trans b1) (aa ((hc 24 _ (by decide)).trans b2) ?_)
  rw[yk];rfl
 ·refine aa ((hc 25 _ (by decide)).trans b3) (aa ((hc 26 _ (by decide)).trans b4) ?_)
  rw[FU];rfl
 ·exact aa ((hc 28 _ (by decide)).trans b5) (aa ((hc 29 _ (by decide)).trans b6) (aa ((hc 27 _ (by decide)).trans (PJ (n+1030) _)) rfl))
end Go.Proofs.YtjjjkojfijpeeaaGreat.Sy
end
section
namespace Go.Proofs.YtjjjkojfijpeeaaGreat.Sy
open Go Go.Proofs Go.Proofs.YtjjjkojfijpeeaaGreat.Geo
theorem Mc:mE 5=some ([K3],.bool):=by kernel_rfl
theorem ctr5{d:D}(h:wt K3 d):CI Tryz.prog [K3] .bool 5 [d] (.bool true):=by
 obtain⟨l,rfl⟩:=Hh h
 refine L5 lU (uG (0+1031)) (Cv _) [K3] .bool [bY l] (.bool true) Mc ?_ ⟨_,[],rfl,h,rfl⟩
 exact Ma 0 l (fun f xs hf=>by unfold uG;rw[if_neg hf]) (by unfold uG;rw[if_pos rfl];exact w9)
end Go.Proofs.YtjjjkojfijpeeaaGreat.Sy
end
section
namespace Go.Proofs.YtjjjkojfijpeeaaGreat
open Go Go.ChangeShapes Go.WideShapes Go.ChangeAt Go.RowKit
namespace Sy
theorem lay25:br Tryz.prog K3 25=true:=by kernel_rfl
theorem under4:Tryz.prog.underlying 4=some .bool:=by kernel_rfl
theorem DR0_of{W:World}{S:Nat->Nat->Prop}{d:D}{cs:Array Value}(h:wt K3 d)(k:cJ W S d.flat (Value.agg cs).cells.toList):eR W S d (.agg cs):=by
 obtain⟨l,rfl,_⟩:=h
 exact⟨⟨_,rfl⟩,k⟩
theorem bool_of{W:World}{S:Nat->Nat->Prop}{b:Bool}{v:Value}(h:DR W S (.bool b) v):v=.bool b:=by
 obtain⟨h1,h2⟩:=(h:eR W S (.bool b) v)
 have h3:=(bz (by intro d hd;simp only[D.flat,List.mem_singleton] at hd;subst hd;rfl)).1 h2
 exact ao h1 (by simpa [D.flat,bg] using h3)
theorem agg_of{P:Program}{ts:List Ty}{t:TypeId}(hl:br P (.st ts) t=true){W:World}{base:Nat}{v:Value}(h:Value.okWide P W .any base t v):∃ cs,v=.agg cs:=by
 obtain⟨fs,hu,_⟩:=ic hl
 obtain⟨cs,h1,_⟩:=okWide_struct hu h
 exact⟨cs,h1⟩
end Sy
theorem JU:ownKnob Tryz.prog.godebug=none:=by kernel_rfl
theorem Bk:laidOutB Tryz.prog=true:=by kernel_rfl
theorem Bj:Tryz.f5.params=#[25]:=by kernel_rfl
set_option maxRecDepth 100000 in
theorem rl(os:Os)(started:os.Started)(H:Type)(enc:TypeId×Value->H) :
  ReturnsInHanded {} Tryz.checked os 5 .any (Rows.hullMassesMatchSpecSpec.pre6 enc Tryz.prog Tryz.f5 Rows.hullMassesMatchSpecRow.domain false) (Rows.hullMassesMatchSpecSpec.post enc Tryz.prog Tryz.f5 false true false false):=by
 refine returnsInHanded_of_change (C:=Tryz.checked) JU started (by kernel_rfl) (show Tryz.prog.funcs[5]?=some Tryz.f5 by kernel_rfl)
  (ChangeSpec.witness6 (enc:=enc) (C:=Tryz.checked) false ⟨#[],#[.agg #[.slice none 0 0]],[]⟩ 8 (by kernel_rfl) (by kernel_rfl) (by kernel_rfl) (by kernel_rfl)) ?_
 intro W base args ds gs before hval0 hW hcnd _
 have hval:∀ (j:Nat) t v,Tryz.f5.params[j]?=some t->args[j]?=some v->Value.okWide Tryz.prog W .any base t v:=hval0
 have hW':=hW
 obtain⟨p,q,hA0,hV,rfl,hfz,hnd⟩:=hW
 have hA:DataW.TrodAll enc Tryz.prog W 0 (fun _=>true) true Tryz.f5.params.toList args.toList ds p:=hA0
 rw[Bj] at hA hval
 obtain⟨v0,d0,rfl,rfl,h0⟩:=trodAll_one hA
 obtain⟨rfl,rfl⟩:=trodVars_none hV
 clear hA0 hval0
 obtain⟨cs,rfl⟩:∃ cs,v0=.agg cs:=Sy.agg_of (P:=Tryz.prog) (t:=25) Sy.lay25 (hval 0 25 v0 rfl rfl)
 have h0':=h0
 obtain⟨fuel,hf⟩:=h0
 obtain⟨d,hd1,hd2⟩:=Sy.tB (W:=W) Sy.K3 25 fuel _ _ Sy.lay25 (by rfl) hf
 have hctr:=Sy.ctr5 hd1 W (Sy.pG W) [.agg cs] (fun _ _ h=>Sy.valid_lt h) ⟨_,[],rfl,hd1,rfl⟩ rfl (fun i x v hx hv=>by
  cases i with
  | zero=>simp at hx hv;subst hx;subst hv;exact Sy.DR0_of hd1 hd2
  | succ i=>simp at hx)
 refine Go.Calls.mono hctr fun e W' he=>?_
 obtain⟨v,rfl,⟨os',dr,hdr,rfl⟩,_,hv⟩:=he
 have hv':v=.bool true:=Sy.bool_of hv
 subst hv'
 have hb:Below W.heap.size W (ay W os' dr):=⟨rfl,rfl,rfl,by simp[ay],fun k hk=>cE W os' dr hk⟩
 have hlt:∀ x∈p,x.block<W.heap.size:=fun x hx=>by simpa using hW'.lt x (by simpa using hx)
 exact⟨_,rfl,_,_,_,[],p,[],hW',trodAll_mk1 ((Go.RowKit.shut_bool (P:=Tryz.prog) Sy.under4 true)),trodAll_mk1 (Below.trod Bk (by kernel_rfl) (of_decide_eq_true (by kernel_rfl)) h0' hb hlt),rfl,hb.frame _,fun h=>by cases h⟩
theorem hullMassesMatchSpec_holds:Rows.HullMassesMatchSpecSaid:=
 OpenClaim.holds_of_wide 5 Tryz.f5 rfl rfl rfl rfl rfl rfl rfl ⟨rfl,rfl,rfl,rfl,rfl⟩ rfl rfl rfl rfl rfl (by kernel_rfl) (show Tryz.prog.funcs[5]?=some Tryz.f5 by kernel_rfl) (by kernel_rfl)
  (of_decide_eq_true (by kernel_rfl)) (by unfold Func.isWrapper;first|(rw[if_pos (by decide +kernel)];kernel_rfl)|(rw[if_neg (by decide +kernel)];exact⟨rfl,rfl⟩))
  (fun os started H enc _=>rl os started H enc)
end Go.Proofs.YtjjjkojfijpeeaaGreat
end
