/- HullMassesMatchSpec answers true at every input, and the input reads afterwards as it read before (HullMassesMatchSpecSaid). No condition. -/
import Derived.Test.YtjjjkojfijpeeaaGreatMasses01
import Derived.Test.YtjjjkojfijpeeaaGreatMasses11
import Derived.Test.YtjjjkojfijpeeaaGreatMasses12
import Derived.Test.YtjjjkojfijpeeaaGreatMasses13
import Derived.Test.YtjjjkojfijpeeaaGreatRows
import Derived.ProofKit
set_option linter.unusedVariables false
set_option linter.unusedSimpArgs false
set_option linter.unnecessarySimpa false
section
set_option linter.unusedVariables false
namespace Go.Proofs.YtjjjkojfijpeeaaGreat.Sy
open Go Go.Proofs Go.Proofs.YtjjjkojfijpeeaaGreat.Geo
theorem bv(l:List V):(l.map ae).length=l.length:=List.length_map ..
theorem NI(n:Nat)(a b:List V)(ha:a.length<=1000000):cA (n+1) 13 [aQ a,aQ b]=some (.bool (decide (a=b))):=by
 rw[PB]
 unfold If
 refine aa (z:=a.map ae) rfl (aa (z:=b.map ae) rfl ?_)
 rw[bv,bv,bK]
 by_cases hab:a.length=b.length
 ·rw[decide_eq_true hab]
  refine aa (z:=false) rfl ?_
  rw[if_neg (by decide)]
  refine aW (fun i s=>s=[I (i:Int)]/\a.take i=b.take i) a.length 0 (Nat.zero_le _) ⟨rfl,by simp⟩ (fun i hi s hJ=>?_) (fun s hJ=>?_)
  ·obtain⟨rfl,hz⟩:=hJ
   have hib:i<b.length:=by omega
   have pre:∀ z,(Option.bind (D.truth (D.bool (!(D.beq (ae (a.getD i V.zero)) (ae (b.getD i V.zero)))))) fun b14=>
     if b14 then(some (Sum.inr (0,[(D.bool false)]))) else(Option.bind (D.bin .add (I (i:Int)) (D.int .i64 1)) fun x15=>some (Sum.inl [x15])))=some z ->
     (Option.bind (D.asSl (aQ a)) fun l5=>Option.bind (D.bin .lss (I (i:Int)) (D.int .i64 (List.length l5))) fun x6=>Option.bind (D.truth x6) fun b7=>
     if b7 then(Option.bind (D.asSl (aQ a)) fun l8=>Option.bind (D.idx (I (i:Int)) (List.length l8)) fun i9=>Option.bind (l8[i9]?) fun x10=>Option.bind (D.asSl (aQ b)) fun l11=>Option.bind (D.idx (I (i:Int)) (List.length l11)) fun lZ=>Option.bind (l11[lZ]?) fun x13=>
     Option.bind (D.truth (D.bool (!(D.beq x10 x13)))) fun b14=>
     if b14 then(some (Sum.inr (0,[(D.bool false)]))) else(Option.bind (D.bin .add (I (i:Int)) (D.int .i64 1)) fun x15=>some (Sum.inl [x15]))) else(some (Sum.inr (1,[]):Sum (List D) (Nat×List D))))=some z:=fun z hz=>
    aa (z:=a.map ae) rfl (aa ag (aa af (aH (by show((i:Int)<((a.map ae).length:Int));rw[bv];omega) (aa (z:=a.map ae) rfl (aa (z:=i) (by rw[bv];exact au hi) (aa (c9 hi) (aa (z:=b.map ae) rfl (aa (z:=i) (by rw[bv];exact au hib) (aa (c9 hib) hz)))))))))
   rw[ki] at pre
   by_cases he:a.getD i V.zero=b.getD i V.zero
   ·left
    refine⟨[I ((i+1:Nat):Int)],pre _ ?_,rfl,?_⟩
    ·rw[decide_eq_true he]
     refine aa (z:=false) rfl ?_
     rw[if_neg (by decide)]
     exact aa (aq (aC (i:=i) (by omega))) rfl
    ·rw[List.take_succ_eq_append_getElem hi,List.take_succ_eq_append_getElem hib,hz]
     simp only[List.getD,hi,hib,List.getElem?_eq_getElem,Option.getD_some] at he
     rw[he]
   ·right
    refine⟨(0,[.bool false]),pre _ ?_,?_⟩
    ·rw[decide_eq_false he];rfl
    ·rw[decide_eq_false (fun e=>he (by rw[e]))];rfl
  ·obtain⟨rfl,hz⟩:=hJ
   refine⟨(1,[]),?_,?_⟩
   ·exact aa (z:=a.map ae) rfl (aa ag (aa af (aJ (by show ¬ ((a.length:Int)<((a.map ae).length:Int));rw[bv];omega) rfl)))
   ·rw[List.take_length,hab,List.take_length] at hz
    rw[decide_eq_true hz];rfl
 ·rw[decide_eq_false hab,decide_eq_false (fun e=>hab (by rw[e]))]
  rfl
instance decBd (k:Int) (v:V):Decidable (bd k v):=by unfold bd;exact inferInstance
def mS(v:V):Nat->Int
 | 0=>v.x
 | 1=>v.y
 | _=>v.z
theorem BA(v:V){t:Nat}(h:t<3):D.fld (ae v) t=some (I (mS v t)):=by
 have:t=0\/t=1\/t=2:=by omega
 rcases this with rfl|rfl|rfl<;>rfl
theorem yQ{v:V}:bd MV v↔∀ t,t<3->¬ (mS v t>262144)/\¬ (mS v t < -262144):=by
 constructor
 ·intro h t ht
  have:t=0\/t=1\/t=2:=by omega
  simp only[bd,MV] at h
  rcases this with rfl|rfl|rfl<;>simp only[mS]<;>omega
 ·intro h
  have h0:=h 0 (by decide);have h1:=h 1 (by decide);have h2:=h 2 (by decide)
  simp only[mS] at h0 h1 h2
  simp only[bd,MV];omega
def im(F:FL)(i:Nat):Bool:=F.any fun f=>f.2.any fun x=>decide (x=i)
def cX(S:List V)(F:FL)(k:Nat):List V:=((List.range k).filter (im F)).map (pt S)
theorem xG(S:List V)(F:FL)(k:Nat):cX S F (k+1)=if im F k then cX S F k++[pt S k] else cX S F k:=by
 unfold cX
 rw[List.range_succ,List.filter_append]
 by_cases h:im F k=true<;>simp[h]
theorem sd(S:List V)(F:FL)(k:Nat):(cX S F k).length<=k:=by
 unfold cX;rw[List.length_map];exact Nat.le_trans (List.length_filter_le _ _) (by simp)
def xT(e:Int):D:=.st [.st [.sl []],I e]
def yv(S:List V)(F:FL):D:=if F.length=0 then xT 120 else if F.length>64 then xT 2 else .st [.st [aQ (cX S F S.length)],I 0]
theorem Df(n:Nat){l:List V}(h:64<l.length):cA (n+1) 12 [aQ l]=some (xT 2):=by
 rw[G7]
 unfold GC
 exact aa (z:=l.map ae) rfl (aa dL (aa af (aH (by show((l.map ae).length:Int)>64;rw[bv];omega) rfl)))
theorem Gx{l:List V}{i:Nat}(hi:i<l.length){α:Type}{k:Nat×List D->Option α}{y:α}(hy:k (if bd MV (l.getD i V.zero) then(1,[.sl [],I 0]) else(0,[.sl [],I 1]))=some y) :
  Option.bind (aY (fun(v8:List D)=>
 Option.bind (D.bin .lss (gx v8 0) (D.int .i64 3)) fun x9=>
 Option.bind (D.truth x9) fun b10=>
 if b10 then(Option.bind (D.asSl (aQ l)) fun l11=>
 Option.bind (D.idx (I (i:Int)) (List.length l11)) fun lZ=>
 Option.bind (l11[lZ]?) fun x13=>
 Option.bind (D.idx (gx v8 0) 3) fun i14=>
 Option.bind (D.fld x13 i14) fun x15=>
 Option.bind (D.bin .gtr x15 (D.int .i64 262144)) fun x16=>
 Option.bind (D.truth x16) fun b17=>
 Option.bind (if b17 then(some true) else(Option.bind (D.asSl (aQ l)) fun l18=>
 Option.bind (D.idx (I (i:Int)) (List.length l18)) fun i19=>
 Option.bind (l18[i19]?) fun x20=>
 Option.bind (D.idx (gx v8 0) 3) fun i21=>
 Option.bind (D.fld x20 i21) fun x22=>
 Option.bind (D.bin .lss x22 (D.int .i64 (-262144))) fun x23=>
 D.truth x23)) fun b24=>
 Option.bind (D.truth (D.bool b24)) fun b25=>
 if b25 then(some (Sum.inr (0,[(D.sl []),(D.int .i64 1)]))) else(Option.bind (D.bin .add (gx v8 0) (D.int .i64 1)) fun x26=>
 some (Sum.inl [x26,(D.sl (D.els (gx v8 1))),(gx v8 2)]))) else(some (Sum.inr (1,[(D.sl (D.els (gx v8 1))),(gx v8 2)])))) [(D.int .i64 0),.sl [],I 0]) k=some y:=by
 refine cn (fun t s=>s=[I (t:Int),.sl [],I 0]/\∀ t',t'<t->¬ (mS (l.getD i V.zero) t'>262144)/\¬ (mS (l.getD i V.zero) t' < -262144)) 3 0 (by decide) ⟨rfl,fun t' h=>by omega⟩ (fun t ht s hJ=>?_) (fun s hJ=>?_)
 ·obtain⟨rfl,hz⟩:=hJ
  have hf:=BA (l.getD i V.zero) ht
  have ix:D.idx (I (t:Int)) 3=some t:=au ht
  have pre:∀ z,(if decide (mS (l.getD i V.zero) t>262144\/mS (l.getD i V.zero) t < -262144)=true then(some (Sum.inr (0,[(D.sl []),(D.int .i64 1)]))) else(Option.bind (D.bin .add (I (t:Int)) (D.int .i64 1)) fun x26=>some (Sum.inl [x26,.sl [],I 0])))=some z->_:=fun(z:Sum (List D) (Nat×List D)) hz'=>
   aa (g:=fun x9=>Option.bind (D.truth x9) fun b10=>if b10 then(Option.bind (D.asSl (aQ l)) fun l11=>Option.bind (D.idx (I (i:Int)) (List.length l11)) fun lZ=>Option.bind (l11[lZ]?) fun x13=>Option.bind (D.idx (I (t:Int)) 3) fun i14=>Option.bind (D.fld x13 i14) fun x15=>Option.bind (D.bin .gtr x15 (D.int .i64 262144)) fun x16=>Option.bind (D.truth x16) fun b17=>
    Option.bind (if b17 then(some true) else(Option.bind (D.asSl (aQ l)) fun l18=>Option.bind (D.idx (I (i:Int)) (List.length l18)) fun i19=>Option.bind (l18[i19]?) fun x20=>Option.bind (D.idx (I (t:Int)) 3) fun i21=>Option.bind (D.fld x20 i21) fun x22=>Option.bind (D.bin .lss x22 (D.int .i64 (-262144))) fun x23=>D.truth x23)) fun b24=>
    Option.bind (D.truth (D.bool b24)) fun b25=>
    if b25 then(some (Sum.inr (0,[(D.sl []),(D.int .i64 1)]))) else(Option.bind (D.bin .add (I (t:Int)) (D.int .i64 1)) fun x26=>some (Sum.inl [x26,.sl [],I 0]))) else(some (Sum.inr (1,[.sl [],I 0]))))
    (ag (a:=(t:Int)) (b:=3)) (y:=z) (aa af (aH (by omega) (aa (z:=l.map ae) rfl (aa (z:=i) (by rw[bv];exact au hi) (aa (c9 hi) (aa ix (aa hf (aa dL (aa af (aa (z:=decide (mS (l.getD i V.zero) t>262144\/mS (l.getD i V.zero) t < -262144)) (by
     by_cases h1:mS (l.getD i V.zero) t>262144
     ·refine aH h1 ?_
      rw[decide_eq_true (.inl h1)]
     ·refine aJ h1 (aa (z:=l.map ae) rfl (aa (z:=i) (by rw[bv];exact au hi) (aa (c9 hi) (aa ix (aa hf (aa ag ?_))))))
      rw[af];congr 1;rw[decide_eq_decide];exact⟨.inr,fun h=>h.resolve_left h1⟩) (aa af hz')))))))))))
  by_cases hb:mS (l.getD i V.zero) t>262144\/mS (l.getD i V.zero) t < -262144
  ·right
   refine⟨_,pre _ (aH hb rfl),?_⟩
   rw[if_neg (fun h=>by have:=yQ.1 h t ht;omega)] at hy
   exact hy
  ·left
   refine⟨[I ((t+1:Nat):Int),.sl [],I 0],pre _ (aJ hb (aa (aq (aC (i:=t) (by omega))) rfl)),rfl,fun t' ht'=>?_⟩
   by_cases e:t'=t
   ·subst e;omega
   ·exact hz t' (by omega)
 ·obtain⟨rfl,hz⟩:=hJ
  refine⟨(1,[.sl [],I 0]),aa ag (aa af (aJ (by decide) rfl)),?_⟩
  rw[if_pos (yQ.2 hz)] at hy
  exact hy
theorem Dq(n:Nat){l:List V}(hlen:l.length<=64)(hb:¬ ∀ x∈l,bd MV x):cA (n+1) 12 [aQ l]=some (xT 1):=by
 rw[G7]
 unfold GC
 refine aa (z:=l.map ae) rfl (aa dL (aa af (aJ (by show ¬ ((l.map ae).length:Int)>64;rw[bv];omega) ?_)))
 refine aW (fun i s=>s=[I (i:Int),.sl [],I 0]/\∀ x∈l.take i,bd MV x) l.length 0 (Nat.zero_le _) ⟨rfl,by simp⟩ (fun i hi s hJ=>?_) (fun s hJ=>?_)
 ·obtain⟨rfl,hz⟩:=hJ
  by_cases hx:bd MV (l.getD i V.zero)
  ·left
   refine⟨[I ((i+1:Nat):Int),.sl [],I 0],?_,rfl,fun x hx'=>?_⟩
   ·refine aa (z:=l.map ae) rfl (aa ag (aa af (aH (by show((i:Int)<((l.map ae).length:Int));rw[bv];omega) (Gx hi ?_))))
    rw[if_pos hx,if_neg (show ¬ (1:Nat)=0 by decide)]
    exact aa (aq (aC (i:=i) (by omega))) rfl
   ·rw[List.take_succ_eq_append_getElem hi] at hx'
    rcases List.mem_append.1 hx' with h|h
    ·exact hz x h
    ·rw[List.mem_singleton.1 h];simpa [List.getD,hi] using hx
  ·right
   refine⟨(0,[.sl [],I 1]),?_,rfl⟩
   refine aa (z:=l.map ae) rfl (aa ag (aa af (aH (by show((i:Int)<((l.map ae).length:Int));rw[bv];omega) (Gx hi ?_))))
   rw[if_neg hx];rfl
 ·obtain⟨rfl,hz⟩:=hJ
  rw[List.take_length] at hz
  exact absurd hz hb
theorem BI(n:Nat){l:List V}(hlen:l.length<=64)(hl:∀ x∈l,bd MV x){F:FL}(hpl:∀ f∈F,f.2.length<=1000000)(hFl:F.length<=3000000)(h48:cA (n+2) 48 [aQ (dH l)]=some (.sl (aD F))):cA (n+3) 12 [aQ l]=some (yv (dH l) F):=by
 rw[G7]
 unfold GC
 refine aa (z:=l.map ae) rfl (aa dL (aa af (aJ (by show ¬ ((l.map ae).length:Int)>64;rw[bv];omega) ?_)))
 refine aW (fun i s=>s=[I (i:Int),.sl [],I 0]) l.length 0 (Nat.zero_le _) rfl (fun i hi s hJ=>?_) (fun s hJ=>?_)
 ·subst hJ
  left
  refine⟨[I ((i+1:Nat):Int),.sl [],I 0],?_,rfl⟩
  refine aa (z:=l.map ae) rfl (aa ag (aa af (aH (by show((i:Int)<((l.map ae).length:Int));rw[bv];omega) (Gx hi ?_))))
  rw[if_pos (hl _ (cM hi)),if_neg (show ¬ (1:Nat)=0 by decide)]
  exact aa (aq (aC (i:=i) (by omega))) rfl
 ·subst hJ
  refine⟨(1,[.sl [],I 0]),aa (z:=l.map ae) rfl (aa ag (aa af (aJ (by show ¬ ((l.length:Int)<((l.map ae).length:Int));rw[bv];omega) rfl))),?_⟩
  rw[if_neg (show ¬ (1:Nat)=0 by decide)]
  have hSl:=Nat.le_trans (mM l) hlen
  refine aa (PA n l (by omega)) (aa h48 (aa (z:=aD F) rfl ?_))
  obtain⟨S,hS⟩:∃ S,dH l=S:=⟨_,rfl⟩
  rw[hS] at hSl ⊢
  rw[aL,show D.beq (D.int .i64 (F.length:Nat)) (D.int .i64 0)=decide (F.length=0) from bK F.length 0]
  refine aa af ?_
  unfold yv
  by_cases h0:F.length=0
  ·refine aH h0 ?_
   rw[if_pos h0];rfl
  refine aJ h0 (aa (z:=aD F) rfl (aa dL (aa af ?_)))
  rw[if_neg h0]
  by_cases h64:F.length>64
  ·refine aH (by rw[aL];omega) ?_
   rw[if_pos h64];rfl
  refine aJ (by rw[aL];omega) ?_
  rw[if_neg h64]
  refine aW (fun i s=>s=[I (i:Int),.sl [],I 0,aQ (cX S F i),I 0]) S.length 0 (Nat.zero_le _) rfl (fun i hi s hJ=>?_) (fun s hJ=>?_)
  ·subst hJ
   left
   refine⟨[I ((i+1:Nat):Int),.sl [],I 0,aQ (cX S F (i+1)),I 0],?_,rfl⟩
   have hvl:=sd S F i
   refine aa (z:=S.map ae) rfl (aa ag (aa af (aH (by show((i:Int)<((S.map ae).length:Int));rw[bv];omega) ?_)))
   refine aa (z:=(0,[.sl [],I 0,aQ (cX S F (i+1)),I 0])) ?_ (aa (aq (aC (i:=i) (by omega))) rfl)
   refine cn (fun k s=>s=[.bool (im (F.take k) i),I (k:Int),.sl [],I 0,aQ (cX S F i),I 0]) F.length 0 (Nat.zero_le _) rfl (fun k hk s hJ=>?_) (fun s hJ=>?_)
   ·subst hJ
    left
    refine⟨[.bool (im (F.take (k+1)) i),I ((k+1:Nat):Int),.sl [],I 0,aQ (cX S F i),I 0],?_,rfl⟩
    have hpk:=hpl F[k] (List.getElem_mem hk)
    have e1:im (F.take (k+1)) i=(im (F.take k) i||F[k].2.any fun x=>decide (x=i)):=by
     unfold im;rw[List.take_succ_eq_append_getElem hk,List.any_append];simp
    refine aa (z:=aD F) rfl (aa ag (aa af (aH (by show((k:Int)<((aD F).length:Int));rw[aL];omega) ?_)))
    have fp:∀ {β:Type} {g:List D->Option β} {y:β},g (ab F[k].2)=some y->(Option.bind (D.asSl (.sl (aD F))) fun l46=>Option.bind (D.idx (I (k:Int)) (List.length l46)) fun i47=>Option.bind (l46[i47]?) fun x48=>Option.bind (D.fld x48 2) fun x49=>Option.bind (D.asSl x49) g)=some y:=fun h=>
     aa (z:=aD F) rfl (aa (z:=k) (by rw[aL];exact au hk) (aa (eB hk) (aa (z:=.sl (ab F[k].2)) rfl (aa (z:=ab F[k].2) rfl h))))
    rw[e1]
    generalize im (F.take k) i=b0
    obtain⟨p,hp⟩:∃ p,F[k].2=p:=⟨_,rfl⟩
    rw[hp] at hpk fp ⊢
    refine cn (fun j s=>s=[.bool (b0||(p.take j).any fun x=>decide (x=i)),I (j:Int),.sl [],I 0,aQ (cX S F i),I 0]) p.length 0 (Nat.zero_le _) (by rw[List.take_zero,List.any_nil,Bool.or_false];rfl) (fun j hj s hJ=>?_) (fun s hJ=>?_)
    ·subst hJ
     left
     refine⟨[.bool (b0||(p.take (j+1)).any fun x=>decide (x=i)),I ((j+1:Nat):Int),.sl [],I 0,aQ (cX S F i),I 0],?_,rfl⟩
     refine fp (aa ag (aa af (aH (by show((j:Int)<((ab p).length:Int));rw[ai];omega) (aa af (aa (z:=b0||(p.take (j+1)).any fun x=>decide (x=i)) ?_ (aa (aq (aC (i:=j) (by omega))) rfl))))))
     rw[List.take_succ_eq_append_getElem hj,List.any_append]
     generalize (p.take j).any (fun x=>decide (x=i))=b1
     cases hb:(b0||b1)
     ·rw[<-Bool.or_assoc,hb,if_neg (by decide)]
      refine fp (aa (z:=j) (by rw[ai];exact au hj) (aa (lU hj) ?_))
      have:D.beq (I ((p.getD j 0:Nat):Int)) (I (i:Int))=decide (p[j]=i):=by rw[bK];simp[List.getD,hj]
      show D.truth (D.bool (D.beq (I ((p.getD j 0:Nat):Int)) (I (i:Int))))=_
      rw[this,af];simp
     ·rw[<-Bool.or_assoc,hb];rfl
    ·subst hJ
     rw[List.take_length]
     refine⟨(0,[.bool (b0||p.any fun x=>decide (x=i)),.sl [],I 0,aQ (cX S F i),I 0]),fp (aa ag (aa af (aJ (by show ¬ ((p.length:Int)<((ab p).length:Int));rw[ai];omega) rfl))),?_⟩
     exact aa (aq (aC (i:=k) (by omega))) rfl
   ·subst hJ
    rw[List.take_length]
    refine⟨(0,[.bool (im F i),.sl [],I 0,aQ (cX S F i),I 0]),?_,?_⟩
    ·exact aa (z:=aD F) rfl (aa ag (aa af (aJ (by show ¬ ((F.length:Int)<((aD F).length:Int));rw[aL];omega) rfl)))
    ·rw[xG]
     refine aa (z:=im F i) af ?_
     cases im F i
     ·rfl
     ·rw[if_pos rfl,if_pos rfl]
      refine aa (z:=S.map ae) rfl (aa (z:=i) (by rw[bv];exact au hi) (aa (c9 hi) ?_))
      rw[if_pos (by show((cX S F i).map ae).length+1<=1073741824;rw[bv];omega)]
      have:D.sl ((cX S F i).map ae++[ae (S.getD i V.zero)])=aQ (cX S F i++[pt S i]):=by simp[aQ,pt]
      rw[<-this];rfl
  ·subst hJ
   refine⟨(0,[.sl [],I 0,aQ (cX S F S.length),I 0]),?_,rfl⟩
   exact aa (z:=S.map ae) rfl (aa ag (aa af (aJ (by show ¬ ((S.length:Int)<((S.map ae).length:Int));rw[bv];omega) rfl)))
theorem uU{l:List V}(hs:E0 l){m:V}{d:Int}(hF:IsF (pt l) l.length m d){p:List Nat}(hp:bB (pt l) l.length m d p):p.Nodup/\p.length<=l.length/\0<p.length/\∀ x∈p,x<l.length:=by
 obtain⟨p',hp',hnd,hmem⟩:=hF.poly hs
 have e:=bB.eq hs hF hp hp'
 subst e
 obtain⟨a,_,ha,hea,_,_⟩:=hF.head hs
 have hm:a∈p:=(hmem a).2 ⟨ha,hea⟩
 refine⟨hnd,?_,List.length_pos_iff.2 (fun e=>by rw[e] at hm;cases hm),fun x hx=>(aK.1 ((hmem x).1 hx).1).1⟩
 have:=List.Nodup.length_le_of_subset (l₂:=List.range l.length) hnd fun x hx=>List.mem_range.2 (aK.1 ((hmem x).1 hx).1).1
 simpa using this
theorem D1{l:List V}(hl:∀ x∈l,bd MV x):∀ x∈dH l,bd MV x:=fun x hx=>hl x (wm.1 hx)
theorem Ps(n:Nat){l:List V}(hlen:l.length<=100):(64<l.length/\cA (n+8) 12 [aQ l]=some (xT 2))\/(l.length<=64/\(¬ ∀ x∈l,bd MV x)/\cA (n+8) 12 [aQ l]=some (xT 1)) ∨
  (l.length<=64/\(∀ x∈l,bd MV x)/\∃ F:FL,KnF (dH l) (dH l).length 0 0 F/\cA (n+8) 12 [aQ l]=some (yv (dH l) F)):=by
 by_cases h64:64<l.length
 ·exact .inl ⟨h64,Df (n+7) h64⟩
 ·by_cases hb:∀ x∈l,bd MV x
  ·right;right
   refine⟨by omega,hb,?_⟩
   have hsl:=mM l
   have hS:=Bq (q9 l)
   obtain⟨F,h1,h2⟩:=No n (D1 hb) (by omega) hS
   refine⟨F,h1,BI (n+5) (by omega) hb (fun f hf=>?_) (Nat.le_trans (h1.fok.len (by omega)) (by decide)) h2⟩
   obtain⟨q1,q2⟩:=h1.fok.ok f hf
   have:=(uU hS q1 q2).2.1
   omega
  ·exact .inr (.inl ⟨by omega,hb,Dq (n+7) (by omega) hb⟩)
theorem Ax(S:List V)(F:FL):(cX S F S.length).Sublist S:=by
 have h1:((List.range S.length).map (pt S))=S:=by
  apply List.ext_getElem?
  intro i
  by_cases h:i<S.length
  ·rw[List.getElem?_map,List.getElem?_range h];simp[pt,List.getD,h]
  ·rw[List.getElem?_map,show(List.range S.length)[i]?=none by simp;omega];simp;omega
 have h2:(cX S F S.length).Sublist ((List.range S.length).map (pt S)):=List.Sublist.map _ List.filter_sublist
 rw[h1] at h2;exact h2
theorem NU(n:Nat){l:List V}(hlen:l.length<=100):(∃ e:Int,cA (n+9) 15 [bW l]=some (I e)/\e≠0)\/(cA (n+9) 15 [bW l]=some (I 0)/\l.length<=64/\(∀ x∈l,bd MV x)/\∃ F:FL,KnF (dH l) (dH l).length 0 0 F/\F.length≠0/\F.length<=64/\cX (dH l) F (dH l).length=l):=by
 rw[QE]
 unfold IN
 have err:∀ e:Int,e≠0->cA (n+8) 12 [aQ l]=some (xT e)->∃ e:Int,(Option.bind (D.get (bW l) [0]) fun x1=>
 Option.bind (cA (n+8) 12 [x1]) fun r2=>
 Option.bind (D.get r2 [1]) fun x3=>
 Option.bind (D.truth (D.bool (D.beq x3 (D.int .i64 0)))) fun b4=>
 Option.bind (if b4 then(Option.bind (D.get r2 [0,0]) fun x5=>
 Option.bind (D.get (bW l) [0]) fun x6=>
 Option.bind (cA (n+8) 13 [x5,x6]) fun r7=>
 Option.bind (D.un .not r7) fun x8=>
 D.truth x8) else(some false)) fun b9=>
 Option.bind (D.truth (D.bool b9)) fun b10=>
 if b10 then(some (D.int .i64 3)) else(Option.bind (D.get r2 [1]) fun x11=>
 some x11))=some (I e)/\e≠0:=fun e he h=>⟨e,by
  refine aa (z:=aQ l) rfl (aa h (aa (z:=I e) rfl (aa (z:=false) ?_ (aa (z:=false) rfl (aa (z:=false) rfl rfl)))))
  rw[show D.beq (I e) (D.int .i64 0)=decide (e=0) from bP,decide_eq_false he];rfl,he⟩
 rcases Ps n hlen with⟨h1,h2⟩|⟨h0,h1,h2⟩|⟨h0,h1,F,h2,h3⟩
 ·exact .inl (err 2 (by decide) h2)
 ·exact .inl (err 1 (by decide) h2)
 ·unfold yv at h3
  by_cases f0:F.length=0
  ·rw[if_pos f0] at h3;exact .inl (err 120 (by decide) h3)
  ·rw[if_neg f0] at h3
   by_cases f1:F.length>64
   ·rw[if_pos f1] at h3;exact .inl (err 2 (by decide) h3)
   ·rw[if_neg f1] at h3
    have hvl:=sd (dH l) F (dH l).length
    have hsl:=mM l
    have h13:=NI (n+7) (cX (dH l) F (dH l).length) l (by omega)
    by_cases hv:cX (dH l) F (dH l).length=l
    ·rw[decide_eq_true hv] at h13
     refine .inr ⟨?_,h0,h1,F,h2,f0,by omega,hv⟩
     refine aa (z:=aQ l) rfl (aa h3 (aa (z:=I 0) rfl (aa (z:=true) rfl (aa (z:=false) ?_ (aa (z:=false) rfl rfl)))))
     rw[if_pos rfl]
     exact aa (z:=aQ (cX (dH l) F (dH l).length)) rfl (aa (z:=aQ l) rfl (aa h13 rfl))
    ·rw[decide_eq_false hv] at h13
     refine .inl ⟨3,?_,by decide⟩
     refine aa (z:=aQ l) rfl (aa h3 (aa (z:=I 0) rfl (aa (z:=true) rfl (aa (z:=true) ?_ (aa (z:=true) rfl rfl)))))
     rw[if_pos rfl]
     exact aa (z:=aQ (cX (dH l) F (dH l).length)) rfl (aa (z:=aQ l) rfl (aa h13 rfl))
end Go.Proofs.YtjjjkojfijpeeaaGreat.Sy
end
section
set_option linter.unusedVariables false
namespace Go.Proofs.YtjjjkojfijpeeaaGreat.Sy
open Go Go.Proofs Go.Proofs.YtjjjkojfijpeeaaGreat.Geo
theorem Az(n:Nat){x y:Int}(hx:In x)(hy:In y)(h:In (x*y)):cA (n+3) 61 [ah x,ah y]=some (ah (x*y)):=by
 have:=Nz n (a:=some x) (b:=some y) (cT hx) (cT hy)
 rwa [show FE (some x) (some y)=some (x*y) from er h] at this
theorem ug(n:Nat){x y:Int}(hx:In x)(hy:In y)(h:In (x+y)):cA (n+4) 57 [ah x,ah y]=some (ah (x+y)):=by
 have:=Oe n (a:=some x) (b:=some y) (cT hx) (cT hy)
 rwa [show Gp (some x) (some y)=some (x+y) from er h] at this
theorem u9{α:Type}{A B y:α}(h:A=y):(if true=true then A else B)=y:=h
theorem Hx(n:Nat){v:V}(h1:inR v.x)(h2:inR v.y)(h3:inR v.z):cA (n+3) 148 [ae v]=some (me v):=by
 rw[KA];unfold EX
 obtain⟨Z,hZ⟩:∃ Z,(D.st [(D.bool false),(D.bool false),(az aU)])=Z:=⟨_,rfl⟩
 rw[hZ]
 refine cl (s':=[I 1,.st [ah v.x,Z,Z]]) ?_ (cl (s':=[I 2,.st [ah v.x,ah v.y,Z]]) ?_ (cl (s':=[I 3,me v]) ?_ (iC (r:=(0,[me v])) ?_ rfl)))
 ·exact aa (z:=.bool true) rfl (aa (z:=true) rfl (u9 (aa (z:=0) rfl (aa (z:=I v.x) rfl (aa (BQ n h1) (aa (z:=0) rfl (aa (z:=.st [ah v.x,Z,Z]) rfl (aa (z:=I 1) rfl rfl))))))))
 ·exact aa (z:=.bool true) rfl (aa (z:=true) rfl (u9 (aa (z:=1) rfl (aa (z:=I v.y) rfl (aa (BQ n h2) (aa (z:=1) rfl (aa (z:=.st [ah v.x,ah v.y,Z]) rfl (aa (z:=I 2) rfl rfl))))))))
 ·exact aa (z:=.bool true) rfl (aa (z:=true) rfl (u9 (aa (z:=2) rfl (aa (z:=I v.z) rfl (aa (BQ n h3) (aa (z:=2) rfl (aa (z:=me v) rfl (aa (z:=I 3) rfl rfl))))))))
 ·exact aa (z:=.bool false) rfl (aa (z:=false) rfl rfl)
theorem Mj(n:Nat){u v:V}(hu:In u.x/\In u.y/\In u.z)(hv:In v.x/\In v.y/\In v.z)(h1:(u.x*v.x).natAbs<=2^100)(h2:(u.y*v.y).natAbs<=2^100)(h3:(u.z*v.z).natAbs<=2^100):cA (n+5) 147 [me u,me v]=some (ah (V.dot u v)):=by
 rw[L9];unfold EB
 have i1:In (u.x*v.x):=gm (by decide) h1
 have i2:In (u.y*v.y):=gm (by decide) h2
 have i3:In (u.z*v.z):=gm (by decide) h3
 have e1:=Int.natAbs_add_le (u.x*v.x) (u.y*v.y)
 have e2:=Int.natAbs_add_le (u.x*v.x+u.y*v.y) (u.z*v.z)
 have j2:In (u.x*v.x+u.y*v.y):=gm (k:=110) (by decide) (by omega)
 have j3:In (V.dot u v):=gm (k:=110) (by decide) (by unfold V.dot;omega)
 have j0:In 0:=fB (fF 0)
 refine aa (BQ (n+2) (fF 0)) ?_
 refine cl (s':=[I 1,ah (u.x*v.x)]) ?_ (cl (s':=[I 2,ah (u.x*v.x+u.y*v.y)]) ?_ (cl (s':=[I 3,ah (V.dot u v)]) ?_ (iC (r:=(0,[ah (V.dot u v)])) ?_ rfl)))
 ·exact aa (z:=.bool true) rfl (aa (z:=true) rfl (u9 (aa (z:=0) rfl (aa (z:=ah u.x) rfl (aa (z:=0) rfl (aa (z:=ah v.x) rfl (aa (Az (n+1) hu.1 hv.1 i1) (aa (ug n j0 i1 (by rw[Int.zero_add];exact i1)) (aa (z:=I 1) rfl (by rw[Int.zero_add]))))))))))
 ·exact aa (z:=.bool true) rfl (aa (z:=true) rfl (u9 (aa (z:=1) rfl (aa (z:=ah u.y) rfl (aa (z:=1) rfl (aa (z:=ah v.y) rfl (aa (Az (n+1) hu.2.1 hv.2.1 i2) (aa (ug n i1 i2 j2) (aa (z:=I 2) rfl rfl)))))))))
 ·exact aa (z:=.bool true) rfl (aa (z:=true) rfl (u9 (aa (z:=2) rfl (aa (z:=ah u.z) rfl (aa (z:=2) rfl (aa (z:=ah v.z) rfl (aa (Az (n+1) hu.2.2 hv.2.2 i3) (aa (ug n j2 i3 j3) (aa (z:=I 3) rfl rfl)))))))))
 ·exact aa (z:=.bool false) rfl (aa (z:=false) rfl rfl)
theorem Ny(n:Nat){u v:V}(hu:bd 1152921504606846976 u)(hv:bd 1152921504606846976 v)(h1:(u.x*v.x).natAbs<=2^100)(h2:(u.y*v.y).natAbs<=2^100)(h3:(u.z*v.z).natAbs<=2^100):cA (n+6) 91 [ae u,ae v]=some (ah (V.dot u v)):=by
 rw[N5];unfold IE
 simp only[bd] at hu hv
 have a1:inR u.x:=by simp only[inR];omega
 have a2:inR u.y:=by simp only[inR];omega
 have a3:inR u.z:=by simp only[inR];omega
 have b1:inR v.x:=by simp only[inR];omega
 have b2:inR v.y:=by simp only[inR];omega
 have b3:inR v.z:=by simp only[inR];omega
 exact aa (Hx (n+2) a1 a2 a3) (aa (Hx (n+2) b1 b2 b3) (aa (Mj n ⟨fB a1,fB a2,fB a3⟩ ⟨fB b1,fB b2,fB b3⟩ h1 h2 h3) rfl))
theorem Gg(n:Nat){t:T3}(h:bd MV t.1/\bd MV t.2.1/\bd MV t.2.2):cA (n+6) 117 [ae t.1,ae t.2.1]=some (ae (V.cross t.1 t.2.1))/\cA (n+6) 91 [ae (V.cross t.1 t.2.1),ae t.2.2]=some (ah (jP t)):=by
 have hc:=fo h.1 h.2.1
 have h3:=h.2.2
 refine⟨FY (n+5) h.1 h.2.1 (by decide),?_⟩
 have e:(2:Int)*(MV*MV)=137438953472:=rfl
 rw[e] at hc
 have hm:MV=262144:=rfl
 have key:∀ a b:Int,(-137438953472<=a/\a<=137438953472)->(-MV<=b/\b<=MV)->(a*b).natAbs<=2^100:=fun a b ha hb=>by
  rw[Int.natAbs_mul]
  exact cg (i:=37) (j:=18) (by rw[show(2:Nat)^37=137438953472 from rfl];omega) (by rw[show(2:Nat)^18=262144 from rfl];omega) (by decide)
 refine Ny n ?_ ?_ (key _ _ hc.1 h3.1) (key _ _ hc.2.1 h3.2.1) (key _ _ hc.2.2 h3.2.2)
 ·simp only[bd] at *;omega
 ·simp only[bd] at *;omega
theorem AL{α:Type}{l:List V}{p:List Nat}{j:Nat}{K:D->Option α}{y:α}(hj:j<p.length)(hk:p.getD j 0<l.length)(h:K (ae (pt l (p.getD j 0)))=some y) :
  (Option.bind (D.asSl (.sl (ab p))) fun l17=>Option.bind (D.idx (I (j:Int)) (List.length l17)) fun i18=>Option.bind (l17[i18]?) fun x19=>Option.bind (D.asSl (aQ l)) fun l20=>Option.bind (D.idx x19 (List.length l20)) fun i21=>Option.bind (l20[i21]?) K)=some y:=by
 refine aa (z:=ab p) rfl (aa (uf hj) (aa (lU hj) (aa (z:=l.map ae) rfl (aa (z:=p.getD j 0) (by rw[bv];exact au hk) (aa (z:=ae (pt l (p.getD j 0))) ?_ h)))))
 generalize p.getD j 0=k at *
 unfold pt
 rw[List.getElem?_map,List.getD_eq_getElem?_getD,List.getElem?_eq_getElem hk];rfl
theorem Ng(n:Nat){l:List V}{F:FL}(hl:∀ x∈l,bd MV x)(hF:FIn l F)(h18:cA (n+9) 18 [bW l]=some (.sl (aD F))):cA (n+10) 23 [bW l]=some (ah (ar jP (dh l F))):=by
 rw[NC];unfold HY
 have hFl:=hF.len
 refine aa (BQ (n+7) (fF 0)) (aa h18 (aa (z:=aD F) rfl ?_))
 obtain⟨Z,hZ⟩:∃ Z,(D.st [(D.bool false),(D.bool false),(az aU)])=Z:=⟨_,rfl⟩
 rw[hZ]
 refine aW (fun i s=>s=[I (i:Int),bW l,Z,ah (ar jP (dh l (F.take i)))]) F.length 0 (Nat.zero_le _) (by simp[dh,ar]) (fun i hi s hJ=>?_) (fun s hJ=>?_)
 ·subst hJ
  left
  refine⟨_,?_,rfl⟩
  refine aa ag (aa af (aH (by show((i:Int)<((aD F).length:Int));rw[aL];omega) ?_))
  refine aa (z:=aD F) rfl (aa (z:=i) (by rw[aL];exact au hi) (aa (eB hi) ?_))
  have hpart:=fun m (hm:m<=F[i].2.length-2)=>pm hl hF hi hm
  obtain⟨k1,k2,k3⟩:=hF.ok F[i] (List.getElem_mem hi)
  rw[jb l hi]
  generalize F[i]=f at *
  obtain⟨q,p⟩:=f
  simp only at *
  generalize dh l (F.take i)=T at *
  refine cn (fun j s=>s=[I ((j+2:Nat):Int),bW l,Z,ah (ar jP (T++vC l p j))]) (p.length-2) 0 (Nat.zero_le _) (by rw[nb,List.append_nil];rfl) (fun j hj s hJ=>?_) (fun s hJ=>?_)
  ·subst hJ
   left
   refine⟨_,?_,rfl⟩
   have hp1:=hpart j (by omega)
   have hp2:=hpart (j+1) (by omega)
   have b0:=gN hl (k3 0 (by omega))
   have b1:=gN hl (k3 (j+1) (by omega))
   have b2:=gN hl (k3 (j+2) (by omega))
   obtain⟨v1,v2⟩:=Gg (n+3) (t:=(pt l (p.getD 0 0),pt l (p.getD (j+1) 0),pt l (p.getD (j+2) 0))) ⟨b0,b1,b2⟩
   have hs1:=gJ hp1
   have hs2:=gJ hp2
   rw[mn,<-List.append_assoc,jS] at hs2 ⊢
   have hv:=jr (t:=(pt l (p.getD 0 0),pt l (p.getD (j+1) 0),pt l (p.getD (j+2) 0))) ⟨b0,b1,b2⟩
   refine aa (z:=.sl (ab p)) rfl (aa (z:=ab p) rfl (aa ag (aa af (aH (by show(((j+2:Nat):Int)<((ab p).length:Int));rw[ai];omega) ?_))))
   refine aa (z:=aQ l) rfl (aa (z:=.sl (ab p)) rfl (AL (j:=0) (by omega) (k3 _ (by omega)) ?_))
   refine aa (z:=aQ l) rfl (aa (z:=.sl (ab p)) rfl (aa (iA (a:=j+2) (b:=1) rfl (by omega) (by omega)) (AL (j:=j+1) (by omega) (k3 _ (by omega)) ?_)))
   refine aa (z:=aQ l) rfl (aa (z:=.sl (ab p)) rfl (AL (j:=j+2) (by omega) (k3 _ (by omega)) ?_))
   exact aa v1 (aa v2 (aa (ug (n+5) (gm (by decide) hs1) (gm (by decide) hv) (gm (by decide) hs2)) (aa (aS (a:=j+2) (b:=1) (by omega)) rfl)))
  ·subst hJ
   refine⟨_,aa (z:=.sl (ab p)) rfl (aa (z:=ab p) rfl (aa ag (aa af (aJ (by show ¬ (((p.length-2+2:Nat):Int)<((ab p).length:Int));rw[ai];omega) rfl)))),?_⟩
   exact aa (aS (a:=i) (b:=1) (by omega)) rfl
 ·subst hJ
  refine⟨_,aa ag (aa af (aJ (by show ¬ ((F.length:Int)<((aD F).length:Int));rw[aL];omega) rfl)),?_⟩
  rw[List.take_length];rfl
end Go.Proofs.YtjjjkojfijpeeaaGreat.Sy
end
section
set_option linter.unusedVariables false
namespace Go.Proofs.YtjjjkojfijpeeaaGreat.Sy
open Go Go.Proofs Go.Proofs.YtjjjkojfijpeeaaGreat.Geo
def gu(f:Nat->Int):D:=.st [ah (f 0),ah (f 1),ah (f 2)]
def dJ(f:Nat->Nat->Int):D:=.st [gu (f 0),gu (f 1),gu (f 2)]
def iT(f:Nat->Rat):D:=.st [bR (f 0),bR (f 1),bR (f 2)]
theorem GH{k:Nat}(h:k<3):k=0\/k=1\/k=2:=by omega
theorem fE{k:Nat}(h:k<3)(v:V):D.get (ae v) [k]=some (I (cmp k v)):=by rcases GH h with rfl|rfl|rfl<;>rfl
theorem Gq{k:Nat}(h:k<3)(f:Nat->Int):D.get (gu f) [k]=some (ah (f k)):=by rcases GH h with rfl|rfl|rfl<;>rfl
theorem CC{k:Nat}(h:k<3){f g:Nat->Int}{v:Int}(hg:∀ j,j<3->g j=if j=k then v else f j):D.set (gu f) [k] (ah v)=some (gu g):=by
 have g0:=hg 0 (by decide);have g1:=hg 1 (by decide);have g2:=hg 2 (by decide)
 unfold gu
 rcases GH h with rfl|rfl|rfl
 ·rw[if_pos rfl] at g0;rw[if_neg (by decide)] at g1;rw[if_neg (by decide)] at g2
  rw[g0,g1,g2];rfl
 ·rw[if_neg (by decide)] at g0;rw[if_pos rfl] at g1;rw[if_neg (by decide)] at g2
  rw[g0,g1,g2];rfl
 ·rw[if_neg (by decide)] at g0;rw[if_neg (by decide)] at g1;rw[if_pos rfl] at g2
  rw[g0,g1,g2];rfl
theorem zn{i k:Nat}(hi:i<3)(hk:k<3)(f:Nat->Nat->Int):D.get (dJ f) [i,k]=some (ah (f i k)):=by
 rcases GH hi with rfl|rfl|rfl<;>rcases GH hk with rfl|rfl|rfl<;>rfl
theorem En{i k:Nat}(hi:i<3)(hk:k<3){f g:Nat->Nat->Int}{v:Int}(hg:∀ a b,a<3->b<3->g a b=if a=i/\b=k then v else f a b):D.set (dJ f) [i,k] (ah v)=some (dJ g):=by
 have e:∀ a,a<3->a≠i->gu (f a)=gu (g a):=fun a ha hne=>by
  unfold gu
  rw[hg a 0 ha (by decide),hg a 1 ha (by decide),hg a 2 ha (by decide),if_neg (fun h=>hne h.1),if_neg (fun h=>hne h.1),if_neg (fun h=>hne h.1)]
 have s:=CC hk (f:=f i) (g:=g i) (v:=v) fun j hj=>by
  rw[hg i j hi hj]
  by_cases h:j=k
  ·rw[if_pos ⟨rfl,h⟩,if_pos h]
  ·rw[if_neg (fun c=>h c.2),if_neg h]
 unfold dJ
 rcases GH hi with rfl|rfl|rfl
 ·rw[<-e 1 (by decide) (by decide),<-e 2 (by decide) (by decide)]
  simp only[D.set,List.getElem?_cons_zero,Option.bind_some,s,List.set_cons_zero]
 ·rw[<-e 0 (by decide) (by decide),<-e 2 (by decide) (by decide)]
  simp only[D.set,List.getElem?_cons_zero,List.getElem?_cons_succ,Option.bind_some,s,List.set_cons_zero,List.set_cons_succ]
 ·rw[<-e 0 (by decide) (by decide),<-e 1 (by decide) (by decide)]
  simp only[D.set,List.getElem?_cons_zero,List.getElem?_cons_succ,Option.bind_some,s,List.set_cons_zero,List.set_cons_succ]
theorem Ci:D.st [D.bool false,D.bool false,az aU]=ah 0:=by rw[fg,cd];rfl
theorem dX{k:Nat}(h:k<3):D.idx (I (k:Int)) 3=some k:=au h
theorem hG{v:V}(h:bd MV v)(i:Nat):-262144<=cmp i v/\cmp i v<=262144:=by have:=eH h i;omega
theorem dn{x:Int}{k:Nat}(h:x.natAbs<=2^k)(hk:k<=511:=by decide):In x:=gm hk h
theorem Pu(n:Nat){l:List V}{F:FL}(hl:∀ x∈l,bd MV x)(hF:FIn l F)(h18:∀ m,cA (m+8) 18 [bW l]=some (.sl (aD F)))(hV:ar jP (dh l F)≠0) :
  cA (n+1031) 25 [bW l]=some (iT fun i=>Rat.divInt (ar (iP i) (dh l F)) (4*ar jP (dh l F))):=by
 rw[Qm];unfold Iz
 have hFl:=hF.len
 rw[Ci]
 refine aa (h18 (n+1022)) (aa (z:=aD F) rfl ?_)
 obtain⟨Z,hZ⟩:∃ Z,(D.st [D.st [ah 0,ah 0],D.st [ah 0,ah 0],D.st [ah 0,ah 0]])=Z:=⟨_,rfl⟩
 rw[hZ]
 refine aW (fun i s=>s=[I (i:Int),bW l,Z,gu fun j=>ar (iP j) (dh l (F.take i))]) F.length 0 (Nat.zero_le _) (by simp[dh,ar];rfl) (fun i hi s hJ=>?_) (fun s hJ=>?_)
 ·subst hJ
  left
  refine⟨_,?_,rfl⟩
  refine aa ag (aa af (aH (by show((i:Int)<((aD F).length:Int));rw[aL];omega) ?_))
  refine aa (z:=aD F) rfl (aa (z:=i) (by rw[aL];exact au hi) (aa (eB hi) ?_))
  have hpart:=fun m (hm:m<=F[i].2.length-2)=>pm hl hF hi hm
  obtain⟨k1,k2,k3⟩:=hF.ok F[i] (List.getElem_mem hi)
  rw[jb l hi]
  generalize F[i]=f at *
  obtain⟨q,p⟩:=f
  simp only at *
  generalize dh l (F.take i)=T at *
  refine cn (fun j s=>s=[I ((j+2:Nat):Int),bW l,Z,gu fun a=>ar (iP a) (T++vC l p j)]) (p.length-2) 0 (Nat.zero_le _) (by rw[nb,List.append_nil];rfl) (fun j hj s hJ=>?_) (fun s hJ=>?_)
  ·subst hJ
   left
   refine⟨_,?_,rfl⟩
   have hp1:=hpart j (by omega)
   have hp2:=hpart (j+1) (by omega)
   have b0:=gN hl (k3 0 (by omega))
   have b1:=gN hl (k3 (j+1) (by omega))
   have b2:=gN hl (k3 (j+2) (by omega))
   obtain⟨v1,v2⟩:=Gg (n+1024) (t:=(pt l (p.getD 0 0),pt l (p.getD (j+1) 0),pt l (p.getD (j+2) 0))) ⟨b0,b1,b2⟩
   have hs1:=fun a=>kJ a hp1
   have hs2:=fun a=>kJ a hp2
   have hv:=jr (t:=(pt l (p.getD 0 0),pt l (p.getD (j+1) 0),pt l (p.getD (j+2) 0))) ⟨b0,b1,b2⟩
   have hm:=fun a=>xD a (t:=(pt l (p.getD 0 0),pt l (p.getD (j+1) 0),pt l (p.getD (j+2) 0))) ⟨b0,b1,b2⟩
   rw[mn,<-List.append_assoc] at hs2 ⊢
   simp only[jS] at hs2 ⊢
   refine aa (z:=.sl (ab p)) rfl (aa (z:=ab p) rfl (aa ag (aa af (aH (by show(((j+2:Nat):Int)<((ab p).length:Int));rw[ai];omega) ?_))))
   refine aa (z:=aQ l) rfl (aa (z:=.sl (ab p)) rfl (AL (j:=0) (by omega) (k3 _ (by omega)) ?_))
   refine aa (z:=aQ l) rfl (aa (z:=.sl (ab p)) rfl (aa (iA (a:=j+2) (b:=1) rfl (by omega) (by omega)) (AL (j:=j+1) (by omega) (k3 _ (by omega)) ?_)))
   refine aa (z:=aQ l) rfl (aa (z:=.sl (ab p)) rfl (AL (j:=j+2) (by omega) (k3 _ (by omega)) ?_))
   refine aa v1 (aa v2 ?_)
   generalize pt l (p.getD 0 0)=A at *
   generalize pt l (p.getD (j+1) 0)=B at *
   generalize pt l (p.getD (j+2) 0)=C at *
   generalize T++vC l p j=S at *
   refine cn (fun k s=>s=[I (k:Int),bW l,Z,gu (fun a=>if a<k then ar (iP a) S+iP a (A,B,C) else ar (iP a) S),bW l,jQ q p,.st [ae A,ae B,ae C]]) 3 0 (Nat.zero_le _) rfl (fun k hk s hJ=>?_) (fun s hJ=>?_)
   ·subst hJ
    left
    refine⟨[I ((k+1:Nat):Int),bW l,Z,gu (fun a=>if a<k+1 then ar (iP a) S+iP a (A,B,C) else ar (iP a) S),bW l,jQ q p,.st [ae A,ae B,ae C]],?_,rfl⟩
    have a0:=hG b0 k;have a1:=hG b1 k;have a2:=hG b2 k
    refine aa ag (aa af (aH (by show(k:Int)<3;omega) ?_))
    refine aa (dX hk) (aa (show D.get (gu fun a=>if a<k then ar (iP a) S+iP a (A,B,C) else ar (iP a) S) [k]=_ from Gq hk _) (aa (dX hk) (aa (fE hk A) (aa (dX hk) (aa (fE hk B) ?_)))))
    refine aa (aq (by simp only[inR];omega)) (aa (dX hk) (aa (fE hk C) (aa (aq (by simp only[inR];omega)) ?_)))
    refine aa (BQ (n+1028) (by simp only[inR];omega)) ?_
    rw[if_neg (Nat.lt_irrefl k)]
    have hsm:=rL (t:=(A,B,C)) ⟨b0,b1,b2⟩ k
    refine aa (Az (n+1027) (dn hv) (dn (k:=20) (Nat.le_trans hsm (by decide))) (dn (hm k))) ?_
    refine aa (ug (n+1026) (dn (hs1 k)) (dn (hm k)) (dn (hs2 k))) ?_
    refine aa (dX hk) (aa (CC hk (f:=fun a=>if a<k then ar (iP a) S+iP a (A,B,C) else ar (iP a) S) (g:=fun a=>if a<k+1 then ar (iP a) S+iP a (A,B,C) else ar (iP a) S) fun j hj=>?_) (aa (aS (a:=k) (b:=1) (by omega)) rfl))
    by_cases e:j=k
    ·subst e;rw[if_pos (Nat.lt_succ_self _),if_pos rfl];rfl
    ·rw[if_neg e]
     by_cases h:j<k
     ·rw[if_pos h,if_pos (by omega)]
     ·rw[if_neg h,if_neg (by omega)]
   ·subst hJ
    refine⟨_,aa ag (aa af (aJ (by decide) rfl)),?_⟩
    exact aa (aS (a:=j+2) (b:=1) (by omega)) rfl
  ·subst hJ
   refine⟨_,aa (z:=.sl (ab p)) rfl (aa (z:=ab p) rfl (aa ag (aa af (aJ (by show ¬ (((p.length-2+2:Nat):Int)<((ab p).length:Int));rw[ai];omega) rfl)))),?_⟩
   exact aa (aS (a:=i) (b:=1) (by omega)) rfl
 ·subst hJ
  refine⟨_,aa ag (aa af (aJ (by show ¬ ((F.length:Int)<((aD F).length:Int));rw[aL];omega) rfl)),?_⟩
  rw[List.take_length]
  have hT:=xS hl hF
  have h1:=gJ hT
  have h2:=fun i=>kJ i hT
  have h3:=Ng (n+1020) hl hF (h18 _)
  generalize ar jP (dh l F)=W at *
  have i4:In 4:=fB (fF 4)
  have h4:(4*W).natAbs<=2^87:=fk (i:=2) (by decide) h1 (by decide)
  refine aa (BQ (n+1028) (fF 4)) (aa h3 (aa (Az (n+1027) i4 (dn h1) (dn h4)) ?_))
  have hq:=fun i=>MS n (dn (h2 i)) (dn h4) (by omega)
  subst hZ
  obtain⟨z,hz⟩:∃ z,ah 0=z:=⟨_,rfl⟩
  rw[hz]
  refine cl (s':=[I 1,.st [bR (Rat.divInt (ar (iP 0) (dh l F)) (4*W)),.st [z,z],.st [z,z]]]) ?_ (cl (s':=[I 2,.st [bR (Rat.divInt (ar (iP 0) (dh l F)) (4*W)),bR (Rat.divInt (ar (iP 1) (dh l F)) (4*W)),.st [z,z]]]) ?_ (cl (s':=[I 3,iT fun i=>Rat.divInt (ar (iP i) (dh l F)) (4*W)]) ?_ (iC (r:=(0,[iT fun i=>Rat.divInt (ar (iP i) (dh l F)) (4*W)])) ?_ rfl)))
  ·exact aa (z:=.bool true) rfl (aa (z:=true) rfl (u9 (aa (z:=0) rfl (aa (z:=ah (ar (iP 0) (dh l F))) rfl (aa (hq 0) (aa (z:=0) rfl (aa (z:=.st [bR (Rat.divInt (ar (iP 0) (dh l F)) (4*W)),.st [z,z],.st [z,z]]) rfl (aa (z:=I 1) rfl rfl))))))))
  ·exact aa (z:=.bool true) rfl (aa (z:=true) rfl (u9 (aa (z:=1) rfl (aa (z:=ah (ar (iP 1) (dh l F))) rfl (aa (hq 1) (aa (z:=1) rfl (aa (z:=.st [bR (Rat.divInt (ar (iP 0) (dh l F)) (4*W)),bR (Rat.divInt (ar (iP 1) (dh l F)) (4*W)),.st [z,z]]) rfl (aa (z:=I 2) rfl rfl))))))))
  ·exact aa (z:=.bool true) rfl (aa (z:=true) rfl (u9 (aa (z:=2) rfl (aa (z:=ah (ar (iP 2) (dh l F))) rfl (aa (hq 2) (aa (z:=2) rfl (aa (z:=iT fun i=>Rat.divInt (ar (iP i) (dh l F)) (4*W)) rfl (aa (z:=I 3) rfl rfl))))))))
  ·exact aa (z:=.bool false) rfl (aa (z:=false) rfl rfl)
theorem Mm(n:Nat){x:Int}(hx:In x):cA (n+3) 68 [ah x]=some (ah (-x)):=yS n hx
def m8(f:Nat->Nat->Int)(m:Nat):Rat:=Rat.divInt (if m/3=m%3 then -(f (m/3) (m%3))+(f 0 0+f 1 1+f 2 2) else -(f (m/3) (m%3))) 120
def ct(f:Nat->Nat->Int)(m:Nat):List D:=(List.range m).map fun j=>bR (m8 f j)
theorem oD(f:Nat->Nat->Int)(m:Nat):ct f (m+1)=ct f m++[bR (m8 f m)]:=by unfold ct;rw[List.range_succ,List.map_append];rfl
theorem lH(f:Nat->Nat->Int)(m:Nat):(ct f m).length=m:=by simp[ct]
theorem GJ{i k:Nat}(h:k<3):(3*i+k)/3=i/\(3*i+k)%3=k:=by omega
theorem yR{A B C:V}(h:bd MV A/\bd MV B/\bd MV C)(i k:Nat) :
  (-786432<=cmp i A+cmp i B+cmp i C/\cmp i A+cmp i B+cmp i C<=786432)/\(-786432<=cmp k A+cmp k B+cmp k C/\cmp k A+cmp k B+cmp k C<=786432) ∧
  ((cmp i A+cmp i B+cmp i C)*(cmp k A+cmp k B+cmp k C)).natAbs<=618475290624/\(cmp i A*cmp k A).natAbs<=68719476736/\(cmp i B*cmp k B).natAbs<=68719476736/\(cmp i C*cmp k C).natAbs<=68719476736:=by
 have key:∀ {a b:Int} {m:Nat},a.natAbs<=m->b.natAbs<=m->(a*b).natAbs<=m*m:=fun ha hb=>by rw[Int.natAbs_mul];exact Nat.mul_le_mul ha hb
 have s1:=rL (t:=(A,B,C)) h i;have s2:=rL (t:=(A,B,C)) h k
 unfold sm at s1 s2
 simp only at s1 s2
 refine⟨by omega,by omega,key s1 s2,key (eH h.1 i) (eH h.1 k),key (eH h.2.1 i) (eH h.2.1 k),key (eH h.2.2 i) (eH h.2.2 k)⟩
theorem Pq(n:Nat){l:List V}{F:FL}(hl:∀ x∈l,bd MV x)(hF:FIn l F)(h18:∀ m,cA (m+8) 18 [bW l]=some (.sl (aD F))) :
  cA (n+1031) 28 [bW l]=some (.st [I 3,I 3,.sl (ct (fun i k=>ar (dD i k) (dh l F)) 9)]):=by
 rw[NR];unfold Iy
 have hFl:=hF.len
 rw[Ci]
 refine aa (h18 (n+1022)) (aa (z:=aD F) rfl ?_)
 refine aW (fun i s=>s=[I (i:Int),bW l,I 0,I 0,.sl [],dJ fun a b=>ar (dD a b) (dh l (F.take i))]) F.length 0 (Nat.zero_le _) (by simp[dh,ar];rfl) (fun i hi s hJ=>?_) (fun s hJ=>?_)
 ·subst hJ
  left
  refine⟨_,?_,rfl⟩
  refine aa ag (aa af (aH (by show((i:Int)<((aD F).length:Int));rw[aL];omega) ?_))
  refine aa (z:=aD F) rfl (aa (z:=i) (by rw[aL];exact au hi) (aa (eB hi) ?_))
  have hpart:=fun m (hm:m<=F[i].2.length-2)=>pm hl hF hi hm
  obtain⟨k1,k2,k3⟩:=hF.ok F[i] (List.getElem_mem hi)
  rw[jb l hi]
  generalize F[i]=f at *
  obtain⟨q,p⟩:=f
  simp only at *
  generalize dh l (F.take i)=T at *
  refine cn (fun j s=>s=[I ((j+2:Nat):Int),bW l,I 0,I 0,.sl [],dJ fun a b=>ar (dD a b) (T++vC l p j)]) (p.length-2) 0 (Nat.zero_le _) (by rw[nb,List.append_nil];rfl) (fun j hj s hJ=>?_) (fun s hJ=>?_)
  ·subst hJ
   left
   refine⟨_,?_,rfl⟩
   have hp1:=hpart j (by omega)
   have hp2:=hpart (j+1) (by omega)
   have b0:=gN hl (k3 0 (by omega))
   have b1:=gN hl (k3 (j+1) (by omega))
   have b2:=gN hl (k3 (j+2) (by omega))
   obtain⟨v1,v2⟩:=Gg (n+1024) (t:=(pt l (p.getD 0 0),pt l (p.getD (j+1) 0),pt l (p.getD (j+2) 0))) ⟨b0,b1,b2⟩
   have hs1:=fun a b=>fI a b hp1
   have hs2:=fun a b=>fI a b hp2
   have hv:=jr (t:=(pt l (p.getD 0 0),pt l (p.getD (j+1) 0),pt l (p.getD (j+2) 0))) ⟨b0,b1,b2⟩
   have hm:=fun a b=>xE a b (t:=(pt l (p.getD 0 0),pt l (p.getD (j+1) 0),pt l (p.getD (j+2) 0))) ⟨b0,b1,b2⟩
   rw[mn,<-List.append_assoc] at hs2 ⊢
   simp only[jS] at hs2 ⊢
   refine aa (z:=.sl (ab p)) rfl (aa (z:=ab p) rfl (aa ag (aa af (aH (by show(((j+2:Nat):Int)<((ab p).length:Int));rw[ai];omega) ?_))))
   refine aa (z:=aQ l) rfl (aa (z:=.sl (ab p)) rfl (AL (j:=0) (by omega) (k3 _ (by omega)) ?_))
   refine aa (z:=aQ l) rfl (aa (z:=.sl (ab p)) rfl (aa (iA (a:=j+2) (b:=1) rfl (by omega) (by omega)) (AL (j:=j+1) (by omega) (k3 _ (by omega)) ?_)))
   refine aa (z:=aQ l) rfl (aa (z:=.sl (ab p)) rfl (AL (j:=j+2) (by omega) (k3 _ (by omega)) ?_))
   refine aa v1 (aa v2 ?_)
   generalize pt l (p.getD 0 0)=A at *
   generalize pt l (p.getD (j+1) 0)=B at *
   generalize pt l (p.getD (j+2) 0)=C at *
   generalize T++vC l p j=S at *
   obtain⟨ST,hST⟩:∃ ST,D.st [ae A,ae B,ae C]=ST:=⟨_,rfl⟩
   rw[hST]
   refine cn (fun i s=>s=[I (i:Int),bW l,I 0,I 0,.sl [],dJ (fun a b=>if a<i then ar (dD a b) S+dD a b (A,B,C) else ar (dD a b) S),bW l,jQ q p,ST]) 3 0 (Nat.zero_le _) rfl (fun i hi s hJ=>?_) (fun s hJ=>?_)
   ·subst hJ
    left
    refine⟨[I ((i+1:Nat):Int),bW l,I 0,I 0,.sl [],dJ (fun a b=>if a<i+1 then ar (dD a b) S+dD a b (A,B,C) else ar (dD a b) S),bW l,jQ q p,ST],?_,rfl⟩
    refine aa ag (aa af (aH (by show(i:Int)<3;omega) ?_))
    refine cn (fun k s=>s=[I (k:Int),bW l,I 0,I 0,.sl [],dJ (fun a b=>if a<i\/a=i/\b<k then ar (dD a b) S+dD a b (A,B,C) else ar (dD a b) S),bW l,jQ q p,ST]) 3 0 (Nat.zero_le _) (by
     have e0:dJ (fun a b=>if a<i then ar (dD a b) S+dD a b (A,B,C) else ar (dD a b) S)=dJ (fun a b=>if a<i\/a=i/\b<0 then ar (dD a b) S+dD a b (A,B,C) else ar (dD a b) S):=by
      congr 1;funext a b;simp
     rw[<-e0];rfl) (fun k hk s hJ=>?_) (fun s hJ=>?_)
    ·subst hJ
     left
     refine⟨[I ((k+1:Nat):Int),bW l,I 0,I 0,.sl [],dJ (fun a b=>if a<i\/a=i/\b<k+1 then ar (dD a b) S+dD a b (A,B,C) else ar (dD a b) S),bW l,jQ q p,ST],?_,rfl⟩
     have a0:=hG b0 i;have a1:=hG b1 i;have a2:=hG b2 i
     have e0:=hG b0 k;have e1:=hG b1 k;have e2:=hG b2 k
     obtain⟨q1,q2,q3,q4,q5,q6⟩:=yR ⟨b0,b1,b2⟩ i k
     have hq:A0 i k (A,B,C)=(cmp i A+cmp i B+cmp i C)*(cmp k A+cmp k B+cmp k C)+cmp i A*cmp k A+cmp i B*cmp k B+cmp i C*cmp k C:=rfl
     have hql:=uE (t:=(A,B,C)) ⟨b0,b1,b2⟩ i k
     refine aa ag (aa af (aH (by show(k:Int)<3;omega) ?_))
     refine aa (dX hi) (aa (fE hi A) (aa (dX hi) (aa (fE hi B) (aa (aq (by simp only[inR];omega)) (aa (dX hi) (aa (fE hi C) (aa (aq (by simp only[inR];omega)) ?_)))))))
     refine aa (dX hk) (aa (fE hk A) (aa (dX hk) (aa (fE hk B) (aa (aq (by simp only[inR];omega)) (aa (dX hk) (aa (fE hk C) (aa (aq (by simp only[inR];omega)) ?_)))))))
     refine aa (bY (by simp only[inR];omega)) ?_
     obtain⟨M,hM⟩:∃ M,dJ (fun a b=>if a<i\/a=i/\b<k then ar (dD a b) S+dD a b (A,B,C) else ar (dD a b) S)=M:=⟨_,rfl⟩
     have gM:D.get M [i,k]=some (ah (ar (dD i k) S)):=by
      rw[<-hM,zn hi hk]
      rw[if_neg (by omega)]
     have sM:∀ v,v=ar (dD i k) S+dD i k (A,B,C)->D.set M [i,k] (ah v)=some (dJ (fun a b=>if a<i\/a=i/\b<k+1 then ar (dD a b) S+dD a b (A,B,C) else ar (dD a b) S)):=fun v hv=>by
      rw[<-hM]
      refine En hi hk fun a b ha hb=>?_
      by_cases h:a=i/\b=k
      ·obtain⟨rfl,rfl⟩:=h
       rw[if_pos (.inr ⟨rfl,Nat.lt_succ_self _⟩),if_pos ⟨rfl,rfl⟩,hv]
      ·rw[if_neg h]
       by_cases h2:a<i\/a=i/\b<k
       ·rw[if_pos h2,if_pos (by omega)]
       ·rw[if_neg h2,if_neg (by omega)]
     rw[hM]
     generalize (cmp i A+cmp i B+cmp i C)*(cmp k A+cmp k B+cmp k C)=x0 at *
     generalize hx1:cmp i A*cmp k A=x1 at *
     generalize hx2:cmp i B*cmp k B=x2 at *
     generalize hx3:cmp i C*cmp k C=x3 at *
     refine cl (s':=[I (x0+x1),I 1,bW l,I 0,I 0,.sl [],bW l,jQ q p,ST]) ?_ (cl (s':=[I (x0+x1+x2),I 2,bW l,I 0,I 0,.sl [],bW l,jQ q p,ST]) ?_ (cl (s':=[I (x0+x1+x2+x3),I 3,bW l,I 0,I 0,.sl [],bW l,jQ q p,ST]) ?_ (iC (r:=(0,[I (x0+x1+x2+x3),bW l,I 0,I 0,.sl [],bW l,jQ q p,ST])) ?_ ?_)))
     ·refine aa (z:=.bool true) rfl (aa (z:=true) rfl (u9 (aa (z:=0) rfl (aa (z:=ae A) (show D.fld ST 0=_ by rw[<-hST];rfl) (aa (dX hi) (aa (fE hi A) (aa (dX hk) (aa (fE hk A) (aa (bY (by simp only[inR];omega)) ?_)))))))))
      rw[hx1]
      exact aa (aq (by simp only[inR];omega)) (aa (z:=I 1) rfl rfl)
     ·refine aa (z:=.bool true) rfl (aa (z:=true) rfl (u9 (aa (z:=1) rfl (aa (z:=ae B) (show D.fld ST 1=_ by rw[<-hST];rfl) (aa (dX hi) (aa (fE hi B) (aa (dX hk) (aa (fE hk B) (aa (bY (by simp only[inR];omega)) ?_)))))))))
      rw[hx2]
      exact aa (aq (by simp only[inR];omega)) (aa (z:=I 2) rfl rfl)
     ·refine aa (z:=.bool true) rfl (aa (z:=true) rfl (u9 (aa (z:=2) rfl (aa (z:=ae C) (show D.fld ST 2=_ by rw[<-hST];rfl) (aa (dX hi) (aa (fE hi C) (aa (dX hk) (aa (fE hk C) (aa (bY (by simp only[inR];omega)) ?_)))))))))
      rw[hx3]
      exact aa (aq (by simp only[inR];omega)) (aa (z:=I 3) rfl rfl)
     ·exact aa (z:=.bool false) rfl (aa (z:=false) rfl rfl)
     ·refine aa (dX hi) (aa (dX hk) (aa gM (aa (BQ (n+1028) (by simp only[inR];omega)) ?_)))
      rw[<-hq]
      refine aa (Az (n+1027) (dn hv) (dn (k:=40) (Nat.le_trans hql (by decide))) (dn (hm i k))) ?_
      refine aa (ug (n+1026) (dn (hs1 i k)) (dn (hm i k)) (dn (hs2 i k))) ?_
      exact aa (dX hi) (aa (dX hk) (aa (sM _ rfl) (aa (aS (a:=k) (b:=1) (by omega)) rfl)))
    ·subst hJ
     refine⟨_,aa ag (aa af (aJ (by decide) rfl)),?_⟩
     refine aa (aS (a:=i) (b:=1) (by omega)) ?_
     have:dJ (fun a b=>if a<i\/a=i/\b<3 then ar (dD a b) S+dD a b (A,B,C) else ar (dD a b) S)=dJ (fun a b=>if a<i+1 then ar (dD a b) S+dD a b (A,B,C) else ar (dD a b) S):=by
      have e:∀ a b,b<3->(if a<i\/a=i/\b<3 then ar (dD a b) S+dD a b (A,B,C) else ar (dD a b) S)=(if a<i+1 then ar (dD a b) S+dD a b (A,B,C) else ar (dD a b) S):=fun a b hb=>by
       by_cases h:a<i+1
       ·rw[if_pos h,if_pos (by omega)]
       ·rw[if_neg h,if_neg (by omega)]
      simp only[dJ,gu]
      rw[e 0 0 (by decide),e 0 1 (by decide),e 0 2 (by decide),e 1 0 (by decide),e 1 1 (by decide),e 1 2 (by decide),e 2 0 (by decide),e 2 1 (by decide),e 2 2 (by decide)]
     rw[<-this];rfl
   ·subst hJ
    refine⟨_,aa ag (aa af (aJ (by decide) rfl)),?_⟩
    exact aa (aS (a:=j+2) (b:=1) (by omega)) rfl
  ·subst hJ
   refine⟨_,aa (z:=.sl (ab p)) rfl (aa (z:=ab p) rfl (aa ag (aa af (aJ (by show ¬ (((p.length-2+2:Nat):Int)<((ab p).length:Int));rw[ai];omega) rfl)))),?_⟩
   exact aa (aS (a:=i) (b:=1) (by omega)) rfl
 ·subst hJ
  refine⟨_,aa ag (aa af (aJ (by show ¬ ((F.length:Int)<((aD F).length:Int));rw[aL];omega) rfl)),?_⟩
  rw[List.take_length]
  have hT:=xS hl hF
  have h2:=fun i k=>fI i k hT
  generalize dh l F=T at *
  have t1:=dW (h2 0 0) (h2 1 1)
  have t2:=dW t1 (iK (h2 2 2) (k:=126) (by decide))
  have tn:∀ i k,(-(ar (dD i k) T)).natAbs<=2^125:=fun i k=>by rw[Int.natAbs_neg];exact h2 i k
  have tt:∀ i,(-(ar (dD i i) T)+(ar (dD 0 0) T+ar (dD 1 1) T+ar (dD 2 2) T)).natAbs<=2^128:=fun i=>dW (iK (tn i i) (k:=127) (by decide)) t2
  refine aa (z:=ah (ar (dD 0 0) T)) rfl (aa (z:=ah (ar (dD 1 1) T)) rfl (aa (ug (n+1026) (dn (h2 0 0)) (dn (h2 1 1)) (dn t1)) (aa (z:=ah (ar (dD 2 2) T)) rfl (aa (ug (n+1026) (dn t1) (dn (h2 2 2)) (dn t2)) ?_))))
  refine aW (fun i s=>s=[I (i:Int),I 0,I 0,.sl [],I 3,I 3,.sl (ct (fun i k=>ar (dD i k) T) (3*i))]) 3 0 (Nat.zero_le _) rfl (fun i hi s hJ=>?_) (fun s hJ=>?_)
  ·subst hJ
   left
   refine⟨_,?_,rfl⟩
   refine aa ag (aa af (aH (by show(i:Int)<3;omega) ?_))
   refine cn (fun k s=>s=[I (k:Int),I 0,I 0,.sl [],I 3,I 3,.sl (ct (fun i k=>ar (dD i k) T) (3*i+k))]) 3 0 (Nat.zero_le _) rfl (fun k hk s hJ=>?_) (fun s hJ=>?_)
   ·subst hJ
    left
    refine⟨_,?_,rfl⟩
    refine aa ag (aa af (aH (by show(k:Int)<3;omega) ?_))
    refine aa (dX hi) (aa (dX hk) (aa (show D.get (dJ fun a b=>ar (dD a b) T) [i,k]=_ from zn hi hk _) (aa (Mm (n+1027) (dn (h2 i k))) ?_)))
    have fin:∀ {v:Int},In v->m8 (fun i k=>ar (dD i k) T) (3*i+k)=Rat.divInt v 120->(Option.bind (some (0,[I 0,I 0,.sl [],I 3,I 3,.sl (ct (fun i k=>ar (dD i k) T) (3*i+k)),ah v])) fun(r111:Nat×List D)=>
      Option.bind (cA (n+1030) 54 [(D.int .i64 120)]) fun r112=>
      Option.bind (cA (n+1030) 62 [(gx r111.2 6),r112]) fun r113=>
      if List.length (D.els (gx r111.2 5))+List.length [r113]<=1073741824 then(Option.bind (D.bin .add (I (k:Int)) (D.int .i64 1)) fun x114=>
      some (Sum.inl (β:=Nat×List D) [x114,(gx r111.2 0),(gx r111.2 1),(D.sl (D.els (gx r111.2 2))),(gx r111.2 3),(gx r111.2 4),(D.sl ((D.els (gx r111.2 5))++[r113]))])) else none)=some (.inl [I ((k+1:Nat):Int),I 0,I 0,.sl [],I 3,I 3,.sl (ct (fun i k=>ar (dD i k) T) (3*i+(k+1)))]):=fun{v} hv he=>by
     have i120:In 120:=fB (fF 120)
     refine aa (z:=_) rfl (aa (BQ (n+1028) (fF 120)) (aa (MS n hv i120 (by decide)) ?_))
     have hlen:List.length (D.els (.sl (ct (fun i k=>ar (dD i k) T) (3*i+k))))+List.length [bR (Rat.divInt v 120)]<=1073741824:=by
      show(ct (fun i k=>ar (dD i k) T) (3*i+k)).length+1<=_
      rw[lH];omega
     refine(if_pos hlen).trans (aa (aS (a:=k) (b:=1) (by omega)) ?_)
     rw[show 3*i+(k+1)=3*i+k+1 by omega,oD,he]
     rfl
    obtain⟨d1,d2⟩:=GJ (i:=i) hk
    by_cases e:i=k
    ·subst e
     refine(congrArg (fun z=>Option.bind z _) (aa (z:=true) (show D.truth (D.bool (D.beq (I (i:Int)) (I (i:Int))))=some true by rw[bK,decide_eq_true rfl];rfl) (u9 ?c))).trans (fin (dn (tt i)) ?e)
     case c=>exact aa (ug (n+1026) (dn (tn i i)) (dn t2) (dn (tt i))) rfl
     case e=>
      unfold m8
      rw[d1,d2,if_pos rfl]
    ·refine(congrArg (fun z=>Option.bind z _) (aa (z:=false) (show D.truth (D.bool (D.beq (I (i:Int)) (I (k:Int))))=some false by rw[bK,decide_eq_false e];rfl) (by rw[if_neg (by decide)];rfl))).trans (fin (dn (tn i k)) ?_)
     unfold m8
     rw[d1,d2,if_neg e]
   ·subst hJ
    refine⟨_,aa ag (aa af (aJ (by decide) rfl)),?_⟩
    exact aa (aS (a:=i) (b:=1) (by omega)) rfl
  ·subst hJ
   refine⟨_,aa ag (aa af (aJ (by decide) rfl)),?_⟩
   rfl
end Go.Proofs.YtjjjkojfijpeeaaGreat.Sy
end
section
set_option linter.unusedVariables false
namespace Go.Proofs.YtjjjkojfijpeeaaGreat.Sy
open Go Go.Proofs Go.Proofs.YtjjjkojfijpeeaaGreat.Geo
theorem nU{m k:Nat}(h:m<=2^k)(hk:k<=511):m<eD:=by
 have:In (m:Int):=gm hk (by rw[Int.natAbs_natCast];exact h)
 have:=bC.1 this
 rwa [Int.natAbs_natCast] at this
theorem xx{a b k:Nat}(ha:a<=2^k)(hb:b<=2^k):a+b<=2^(k+1):=by rw[Nat.pow_succ];omega
def wJ(q:Rat)(a k:Nat):Prop:=q.num.natAbs<=2^a/\q.den<=2^k
theorem dA{x d:Int}{a k:Nat}(hx:x.natAbs<=2^a)(hd:d.natAbs<=2^k)(h0:d≠0):wJ (Rat.divInt x d) a k:=by
 obtain⟨h1,h2⟩:=ji x h0
 exact⟨Nat.le_trans h1 hx,Nat.le_trans h2 hd⟩
theorem tX{x:Int}{a:Nat}(hx:x.natAbs<=2^a):wJ (x:Rat) a 0:=⟨by simpa using hx,by simp⟩
theorem wJ.inR{q:Rat}{a k:Nat}(h:wJ q a k)(ha:a<=511:=by decide)(hk:k<=511:=by decide):yH q:=
 ⟨gm ha h.1,gm hk (by rw[Int.natAbs_natCast];exact h.2)⟩
theorem wJ.fitM{x y:Rat}{a k b m:Nat}(hx:wJ x a k)(hy:wJ y b m)(h1:a+b<=511:=by decide)(h2:k+m<=511:=by decide):fitM x y:=
 ⟨nU (cg hx.1 hy.1 (Nat.le_refl _)) h1,nU (cg hx.2 hy.2 (Nat.le_refl _)) h2⟩
theorem wJ.fitA{x y:Rat}{a k b m:Nat}(hx:wJ x a k)(hy:wJ y b m)(h1:a+m<=510:=by decide)(h2:b+k<=510:=by decide)(h3:k+m<=511:=by decide):fitA x y:=by
 refine⟨?_,nU (cg hx.2 hy.2 (Nat.le_refl _)) h3⟩
 have e1:=cg hx.1 hy.2 h1
 have e2:=cg hy.1 hx.2 h2
 exact nU (k:=510+1) (xx e1 e2) (by decide)
theorem uD{A B K:Int}(hK:K≠0):Rat.divInt A K+Rat.divInt B K=Rat.divInt (A+B) K:=by
 rw[Rat.divInt_add_divInt _ _ hK hK,<-Int.add_mul,Rat.divInt_mul_right hK]
theorem FT(A K:Int):- Rat.divInt A K=Rat.divInt (-A) K:=Rat.neg_divInt ..
theorem Gs(x w:Int):(x:Rat)/(w:Rat)=Rat.divInt x w:=by
 rw[<-ga x,<-ga w,Rat.div_def,Rat.inv_divInt,Rat.divInt_mul_divInt,Int.mul_one,Int.one_mul]
theorem Gm(A K x:Int):Rat.divInt A K*(x:Rat)=Rat.divInt (A*x) K:=by
 rw[<-ga x,Rat.divInt_mul_divInt,Int.mul_one]
theorem G2(n:Nat){x y:Int}(hx:In x)(hy:In y)(h:In (x+y)):cA (n+4) 59 [ah x,ah y]=some (ah (x+y)):=by
 have:=GQ n hx hy
 rwa [er h] at this
theorem Hd(n:Nat){x y:Int}(hx:In x)(hy:In y)(h:In (x*y)):cA (n+4) 89 [ah x,ah y]=some (ah (x*y)):=by
 have:=zD n hx hy
 rwa [er h] at this
def th(t:T3):D:=.st [.st [ae t.1,ae t.2.1,ae t.2.2],ah (jP t)]
def cE(T:List T3):List D:=T.map th
theorem dI(T:List T3):(cE T).length=T.length:=List.length_map ..
theorem nG{T:List T3}{i:Nat}(h:i<T.length):(cE T)[i]?=some (th T[i]):=by simp[cE,h]
theorem zW(T:List T3)(t:T3):cE (T++[t])=cE T++[th t]:=by simp[cE]
theorem tc.take{T:List T3}{N:Nat}(h:tc T N)(i:Nat):tc (T.take i) N:=
 ⟨Nat.le_trans (by rw[List.length_take];omega) h.1,fun t ht=>h.2 t (List.mem_of_mem_take ht)⟩
theorem ny(g:T3->Int){T:List T3}{i:Nat}(h:i<T.length):ar g (T.take (i+1))=ar g (T.take i)+g T[i]:=by
 rw[List.take_succ_eq_append_getElem h,jS]
theorem HC(n:Nat){t:T3}(h:bd MV t.1/\bd MV t.2.1/\bd MV t.2.2):cA (n+6) 123 [ae t.1,ae t.2.1]=some (ae (V.cross t.1 t.2.1))/\cA (n+6) 33 [ae (V.cross t.1 t.2.1),ae t.2.2]=some (ah (jP t)):=
 ⟨Fu (n+5) h.1 h.2.1 (by decide),PE n (fo h.1 h.2.1) h.2.2 (by decide) (by decide) (by decide)⟩
theorem Pt(n:Nat){l:List V}{F:FL}(hl:∀ x∈l,bd MV x)(hF:FIn l F)(h19:∀ m,cA (m+8) 19 [bW l]=some (.sl (aD F))):cA (n+9) 58 [bW l]=some (.sl (cE (dh l F))):=by
 rw[PC];unfold H7
 have hFl:=hF.len
 refine aa (h19 n) ?_
 refine aW (fun i s=>s=[.sl (cE (dh l (F.take i))),I (i:Int)]) F.length 0 (Nat.zero_le _) rfl (fun i hi s hJ=>?_) (fun s hJ=>?_)
 ·subst hJ
  left
  refine⟨_,?_,rfl⟩
  refine aa (z:=aD F) rfl (aa ag (aa af (aH (by show((i:Int)<((aD F).length:Int));rw[aL];omega) ?_)))
  refine aa (z:=aD F) rfl (aa (z:=i) (by rw[aL];exact au hi) (aa (eB hi) ?_))
  have hpart:=fun m (hm:m<=F[i].2.length-2)=>pm hl hF hi hm
  obtain⟨k1,k2,k3⟩:=hF.ok F[i] (List.getElem_mem hi)
  rw[jb l hi]
  generalize F[i]=f at *
  obtain⟨q,p⟩:=f
  simp only at *
  generalize dh l (F.take i)=T at *
  refine aa (z:=.sl (ab p)) rfl ?_
  refine cn (fun j s=>s=[.sl (cE (T++vC l p j)),I ((j+1:Nat):Int)]) (p.length-2) 0 (Nat.zero_le _) (by rw[nb,List.append_nil];rfl) (fun j hj s hJ=>?_) (fun s hJ=>?_)
  ·subst hJ
   left
   refine⟨_,?_,rfl⟩
   have hp1:=hpart j (by omega)
   have b0:=gN hl (k3 0 (by omega))
   have b1:=gN hl (k3 (j+1) (by omega))
   have b2:=gN hl (k3 (j+2) (by omega))
   obtain⟨v1,v2⟩:=HC (n+2) (t:=(pt l (p.getD 0 0),pt l (p.getD (j+1) 0),pt l (p.getD (j+2) 0))) ⟨b0,b1,b2⟩
   rw[mn,<-List.append_assoc,zW]
   refine aa (aS (a:=j+1) (b:=1) (by omega)) (aa (z:=ab p) rfl (aa ag (aa af (aH (by show(((j+2:Nat):Int)<((ab p).length:Int));rw[ai];omega) ?_))))
   refine aa (z:=aQ l) rfl (AL (j:=0) (by omega) (k3 _ (by omega)) ?_)
   refine aa (z:=aQ l) rfl (AL (j:=j+1) (by omega) (k3 _ (by omega)) ?_)
   refine aa (z:=aQ l) rfl (aa (aS (a:=j+1) (b:=1) (by omega)) (AL (j:=j+2) (by omega) (k3 _ (by omega)) ?_))
   refine aa v1 (aa v2 ?_)
   have hlen:List.length (D.els (.sl (cE (T++vC l p j))))+List.length [th (pt l (p.getD 0 0),pt l (p.getD (j+1) 0),pt l (p.getD (j+2) 0))]<=1073741824:=by
    show(cE (T++vC l p j)).length+1<=_
    rw[dI];have:=hp1.1;omega
   exact(if_pos hlen).trans (aa (aS (a:=j+1) (b:=1) (by omega)) rfl)
  ·subst hJ
   refine⟨_,aa (aS (a:=p.length-2+1) (b:=1) (by omega)) (aa (z:=ab p) rfl (aa ag (aa af (aJ (by show ¬ (((p.length-2+1+1:Nat):Int)<((ab p).length:Int));rw[ai];omega) rfl)))),?_⟩
   exact aa (aS (a:=i) (b:=1) (by omega)) rfl
 ·subst hJ
  refine⟨_,aa (z:=aD F) rfl (aa ag (aa af (aJ (by show ¬ ((F.length:Int)<((aD F).length:Int));rw[aL];omega) rfl))),?_⟩
  rw[List.take_length];rfl
section
variable{l:List V}{T:List T3}(hT:tc T 268435456)(h58:∀ m,cA (m+9) 58 [bW l]=some (.sl (cE T)))
include hT h58
theorem Nf(n:Nat):cA (n+10) 24 [bW l]=some (ah (ar jP T)):=by
 rw[ON];unfold IR
 have hTl:=hT.1
 refine aa (h58 n) (aa (uG (n+6) (fF 0)) ?_)
 refine aW (fun i s=>s=[I (i:Int),ah (ar jP (T.take i))]) T.length 0 (Nat.zero_le _) rfl (fun i hi s hJ=>?_) (fun s hJ=>?_)
 ·subst hJ
  left
  refine⟨_,?_,rfl⟩
  have h1:=gJ (hT.take i)
  have h2:=gJ (hT.take (i+1))
  have h3:=jr (hT.2 _ (List.getElem_mem hi))
  rw[ny _ hi] at h2 ⊢
  refine aa (z:=cE T) rfl (aa ag (aa af (aH (by show((i:Int)<((cE T).length:Int));rw[dI];omega) ?_)))
  refine aa (z:=cE T) rfl (aa (z:=i) (by rw[dI];exact au hi) (aa (nG hi) (aa (z:=ah (jP T[i])) rfl ?_)))
  exact aa (G2 (n+5) (dn h1) (dn h3) (dn h2)) (aa (aS (a:=i) (b:=1) (by omega)) rfl)
 ·subst hJ
  refine⟨_,aa (z:=cE T) rfl (aa ag (aa af (aJ (by show ¬ ((T.length:Int)<((cE T).length:Int));rw[dI];omega) rfl))),?_⟩
  rw[List.take_length];rfl
omit h58 in
theorem OA(n:Nat){i k:Nat}(hi:i<3)(hk:k<3):cA (n+10) 69 [.sl (cE T),I (i:Int),I (k:Int)]=some (bR (Rat.divInt (ar (dD i k) T) 120)):=by
 rw[OE];unfold IZ
 have hTl:=hT.1
 refine aa (uG (n+6) (fF 0)) ?_
 refine aW (fun j s=>s=[I (j:Int),ah (ar (dD i k) (T.take j))]) T.length 0 (Nat.zero_le _) rfl (fun j hj s hJ=>?_) (fun s hJ=>?_)
 ·subst hJ
  left
  refine⟨_,?_,rfl⟩
  have h1:=fI i k (hT.take j)
  have h2:=fI i k (hT.take (j+1))
  have hb:=hT.2 _ (List.getElem_mem hj)
  have h3:=jr hb
  have h4:=xE i k hb
  have hql:=uE hb i k
  rw[ny _ hj] at h2 ⊢
  refine aa (z:=cE T) rfl (aa ag (aa af (aH (by show((j:Int)<((cE T).length:Int));rw[dI];omega) ?_)))
  have ge:∀ {β:Type} {g:D->Option β} {y:β},g (th T[j])=some y->(Option.bind (D.asSl (.sl (cE T))) fun l45=>Option.bind (D.idx (I (j:Int)) (List.length l45)) fun i46=>Option.bind (l45[i46]?) g)=some y:=fun h=>
   aa (z:=cE T) rfl (aa (z:=j) (by rw[dI];exact au hj) (aa (nG hj) h))
  refine ge ?_
  generalize T[j]=t at *
  obtain⟨A,B,C⟩:=t
  obtain⟨b0,b1,b2⟩:=hb
  simp only at b0 b1 b2
  have a0:=hG b0 i;have a1:=hG b1 i;have a2:=hG b2 i
  have e0:=hG b0 k;have e1:=hG b1 k;have e2:=hG b2 k
  obtain⟨q1,q2,q3,q4,q5,q6⟩:=yR ⟨b0,b1,b2⟩ i k
  have hq:A0 i k (A,B,C)=(cmp i A+cmp i B+cmp i C)*(cmp k A+cmp k B+cmp k C)+cmp i A*cmp k A+cmp i B*cmp k B+cmp i C*cmp k C:=rfl
  obtain⟨ST,hST⟩:∃ ST,D.st [ae A,ae B,ae C]=ST:=⟨_,rfl⟩
  have g0:∀ {m:Nat},m<3->D.get ST [0,m]=some (I (cmp m A)):=fun hm=>by rw[<-hST];exact fE hm A
  have g1:∀ {m:Nat},m<3->D.get ST [1,m]=some (I (cmp m B)):=fun hm=>by rw[<-hST];exact fE hm B
  have g2:∀ {m:Nat},m<3->D.get ST [2,m]=some (I (cmp m C)):=fun hm=>by rw[<-hST];exact fE hm C
  refine aa (z:=ST) (by rw[<-hST];rfl) ?_
  refine aa (dX hi) (aa (g0 hi) (aa (dX hi) (aa (g1 hi) (aa (aq (by simp only[inR];omega)) (aa (dX hi) (aa (g2 hi) (aa (aq (by simp only[inR];omega)) ?_)))))))
  refine aa (dX hk) (aa (g0 hk) (aa (dX hk) (aa (g1 hk) (aa (aq (by simp only[inR];omega)) (aa (dX hk) (aa (g2 hk) (aa (aq (by simp only[inR];omega)) ?_)))))))
  refine aa (bY (by simp only[inR];omega)) ?_
  refine aa (dX hi) (aa (g0 hi) (aa (dX hk) (aa (g0 hk) (aa (bY (by simp only[inR];omega)) (aa (aq (by simp only[inR];omega)) ?_)))))
  refine aa (dX hi) (aa (g1 hi) (aa (dX hk) (aa (g1 hk) (aa (bY (by simp only[inR];omega)) (aa (aq (by simp only[inR];omega)) ?_)))))
  refine aa (dX hi) (aa (g2 hi) (aa (dX hk) (aa (g2 hk) (aa (bY (by simp only[inR];omega)) (aa (aq (by simp only[inR];omega)) ?_)))))
  refine ge (aa (z:=ah (jP (A,B,C))) rfl ?_)
  rw[<-hq]
  refine aa (uG (n+6) (by simp only[inR];omega)) ?_
  refine aa (Hd (n+5) (dn h3) (dn (k:=40) (Nat.le_trans hql (by decide))) (dn h4)) ?_
  exact aa (G2 (n+5) (dn h1) (dn h4) (dn h2)) (aa (aS (a:=j) (b:=1) (by omega)) rfl)
 ·subst hJ
  refine⟨_,aa (z:=cE T) rfl (aa ag (aa af (aJ (by show ¬ ((T.length:Int)<((cE T).length:Int));rw[dI];omega) rfl))),?_⟩
  rw[List.take_length]
  exact aa (uG (n+6) (fF 120)) (aa (DL (n+4) (dn (fI i k hT)) (fB (fF 120)) (by decide)) rfl)
end
end Go.Proofs.YtjjjkojfijpeeaaGreat.Sy
end
section
set_option linter.unusedVariables false
namespace Go.Proofs.YtjjjkojfijpeeaaGreat.Sy
open Go Go.Proofs Go.Proofs.YtjjjkojfijpeeaaGreat.Geo
theorem Bj{S:List V}(hS:E0 S){F:FL}(hK:FOk S F){k:Nat}(h:im F k=true):Hk (pt S) S.length k:=by
 obtain⟨f,hf,h2⟩:=List.any_eq_true.1 h
 obtain⟨x,hx,hxk⟩:=List.any_eq_true.1 h2
 have hxk:x=k:=by simpa using hxk
 subst hxk
 obtain⟨q1,q2⟩:=hK.ok f hf
 obtain⟨p,p1,_,p3⟩:=q1.poly hS
 rw[<-bB.eq hS q1 q2 p1] at p3
 obtain⟨r1,r2⟩:=(p3 x).1 hx
 exact⟨_,_,q1,r1,r2⟩
theorem Jv(n:Nat)(l:List V):cA (n+10) 16 [bW l]=some (.bool false)\/(cA (n+10) 16 [bW l]=some (.bool true)/\l.length<=16/\(∀ x∈l,bd MV x)/\E0 l/\(∀ k,k<l.length->Hk (pt l) l.length k)/\∃ m d,IsF (pt l) l.length m d):=by
 rw[PJ]
 unfold Ia
 by_cases h:l.length<=16
 ·rcases NU n (l:=l) (by omega) with⟨e,h1,h2⟩|⟨h1,_,h3,F,h4,hne,_,h5⟩
  ·left
   refine aa (z:=aQ l) rfl (aa (z:=l.map ae) rfl (aa pP (aa af (aa (z:=false) (aH (by show((l.map ae).length:Int)<=16;rw[bv];omega) (aa h1 ?_)) rfl))))
   rw[show D.beq (I e) (D.int .i64 0)=decide (e=0) from bP,decide_eq_false h2];rfl
  ·right
   have ho:=List.Pairwise.sublist (Ax (dH l) F) (q9 l)
   rw[h5] at ho
   have hs:=Bq ho
   rw[C8 ho] at h4 h5
   refine⟨?_,h,h3,hs,fun k hk=>?_,?_⟩
   ·exact aa (z:=aQ l) rfl (aa (z:=l.map ae) rfl (aa pP (aa af (aa (z:=true) (aH (by show((l.map ae).length:Int)<=16;rw[bv];omega) (aa h1 rfl)) rfl))))
   ·refine Bj hs h4.fok ?_
    have e:=congrArg List.length h5
    unfold cX at e
    rw[List.length_map] at e
    have e2:((List.range l.length).filter (im F)).length=(List.range l.length).length:=by rw[e,List.length_range]
    exact List.length_filter_eq_length_iff.1 e2 k (List.mem_range.2 hk)
   ·obtain⟨f,hf⟩:∃ f,f∈F:=List.exists_mem_of_ne_nil F (fun e=>hne (by rw[e];rfl))
    exact⟨_,_,(h4.fok.ok f hf).1⟩
 ·left
  exact aa (z:=aQ l) rfl (aa (z:=l.map ae) rfl (aa pP (aa af (aa (z:=false) (aJ (by show ¬ ((l.map ae).length:Int)<=16;rw[bv];omega) rfl) rfl))))
end Go.Proofs.YtjjjkojfijpeeaaGreat.Sy
end
section
set_option linter.unusedVariables false
namespace Go.Proofs.YtjjjkojfijpeeaaGreat.Sy
open Go Go.Proofs Go.Proofs.YtjjjkojfijpeeaaGreat.Geo
theorem Nr(n:Nat){u v:V}(h1:inR (u.x+v.x))(h2:inR (u.y+v.y))(h3:inR (u.z+v.z)):cA (n+1) 64 [ae u,ae v]=some (ae (V.add u v)):=by
 rw[u64];unfold H5
 exact aa (z:=I u.x) rfl (aa (z:=I v.x) rfl (aa (aq h1) (aa (z:=I u.y) rfl (aa (z:=I v.y) rfl (aa (aq h2) (aa (z:=I u.z) rfl (aa (z:=I v.z) rfl (aa (aq h3) rfl))))))))
theorem yg(q:Rat):D.beq (bR q) (bR q)=true:=by
 unfold bR
 show(D.beq (ah q.num) (ah q.num)&&(D.beq (ah q.den) (ah q.den)&&true))=true
 rw[yL,yL];rfl
theorem FG(f:Nat->Rat):D.beq (iT f) (iT f)=true:=by
 unfold iT
 show(D.beq (bR (f 0)) (bR (f 0))&&(D.beq (bR (f 1)) (bR (f 1))&&(D.beq (bR (f 2)) (bR (f 2))&&true)))=true
 rw[yg,yg,yg];rfl
theorem Cf(f:Nat->Rat):iT f=kX ⟨f 0,f 1,f 2⟩:=rfl
section
variable{l:List V}{T:List T3}(hT:tc T 268435456)(h58:∀ m,cA (m+9) 58 [bW l]=some (.sl (cE T)))
include hT h58
theorem A7(n:Nat)(hW:ar jP T≠0):cA (n+11) 26 [bW l]=some (iT fun i=>Rat.divInt (ar (iP i) T) (4*ar jP T)):=by
 rw[Qn];unfold It
 have hTl:=hT.1
 have hw:=gJ hT
 have h24:=Nf hT h58 n
 have hM:=fun i j=>kJ i (hT.take j)
 obtain⟨W,hWe⟩:∃ W,ar jP T=W:=⟨_,rfl⟩
 rw[hWe] at hW hw h24 ⊢
 have hK:(4*W).natAbs<=2^87:=fk (i:=2) (by decide) hw (by decide)
 have hK0:4*W≠0:=by omega
 refine aa (h58 (n+1)) (aa h24 (aa (Nc (n+4) (dn hw)) (aa (Nl (n+3) (v:=V.zero) (fF 0) (fF 0) (fF 0)) ?_)))
 have e0:kX (RV.of V.zero)=iT fun i=>Rat.divInt (ar (iP i) (T.take 0)) (4*W):=by
  have z:∀ i,Rat.divInt (ar (iP i) (T.take 0)) (4*W)=((0:Int):Rat):=fun i=>by
   show Rat.divInt 0 (4*W)=_
   rw[Rat.zero_divInt];rfl
  rw[Cf,z,z,z];rfl
 rw[e0]
 refine aW (fun j s=>s=[I (j:Int),iT fun i=>Rat.divInt (ar (iP i) (T.take j)) (4*W)]) T.length 0 (Nat.zero_le _) rfl (fun j hj s hJ=>?_) (fun s hJ=>?_)
 ·subst hJ
  left
  refine⟨_,?_,rfl⟩
  have hb:=hT.2 _ (List.getElem_mem hj)
  have h3:=jr hb
  have hm:=fun i=>xD i hb
  have e1:(iT fun i=>Rat.divInt (ar (iP i) (T.take (j+1))) (4*W))=iT fun i=>Rat.divInt (ar (iP i) (T.take j)) (4*W)+Rat.divInt (iP i T[j]) (4*W):=by
   congr 1;funext i
   rw[ny _ hj,uD hK0]
  rw[e1]
  refine aa (z:=cE T) rfl (aa ag (aa af (aH (by show((j:Int)<((cE T).length:Int));rw[dI];omega) ?_)))
  have ge:∀ {β:Type} {g:D->Option β} {y:β},g (th T[j])=some y->(Option.bind (D.asSl (.sl (cE T))) fun l45=>Option.bind (D.idx (I (j:Int)) (List.length l45)) fun i46=>Option.bind (l45[i46]?) g)=some y:=fun h=>
   aa (z:=cE T) rfl (aa (z:=j) (by rw[dI];exact au hj) (aa (nG hj) h))
  have hMj:=fun i=>dA (hM i j) hK hK0
  have hmj:=fun i=>dA (hm i) hK hK0
  generalize T[j]=t at *
  obtain⟨A,B,C⟩:=t
  obtain⟨b0,b1,b2⟩:=hb
  simp only[bd,show MV=262144 from rfl] at b0 b1 b2
  refine ge (aa (z:=.st [ae A,ae B,ae C]) rfl (aa (z:=ae A) rfl (ge (aa (z:=.st [ae A,ae B,ae C]) rfl (aa (z:=ae B) rfl ?_)))))
  refine aa (Nr (n+9) (by simp only[inR];omega) (by simp only[inR];omega) (by simp only[inR];omega)) ?_
  refine ge (aa (z:=.st [ae A,ae B,ae C]) rfl (aa (z:=ae C) rfl ?_))
  refine aa (Nr (n+9) (by simp only[inR,V.add];omega) (by simp only[inR,V.add];omega) (by simp only[inR,V.add];omega)) ?_
  refine ge (aa (z:=ah (jP (A,B,C))) rfl ?_)
  have r1:wJ ((jP (A,B,C):Int):Rat) 57 0:=tX h3
  have r2:wJ ((W:Int):Rat) 85 0:=tX hw
  refine aa (Nc (n+4) (dn h3)) ?_
  refine aa (Ph (n+3) r1.inR r2.inR (by simpa using hW) (nU (cg r1.1 r2.2 (Nat.le_refl _)) (by decide)) (nU (cg r1.2 r2.1 (Nat.le_refl _)) (by decide))) ?_
  rw[Gs]
  have r3:wJ (Rat.divInt (jP (A,B,C)) W) 57 85:=dA h3 hw hW
  have r4:wJ (Rat.divInt 1 4) 0 2:=dA (by decide) (by decide) (by decide)
  refine aa (KH (n+4) (fF 1) (fF 4) (by decide)) (aa (HU (n+4) r3.inR r4.inR (r3.fitM r4)) ?_)
  rw[Rat.divInt_mul_divInt,Int.mul_one,Int.mul_comm W 4]
  have r5:wJ (Rat.divInt (jP (A,B,C)) (4*W)) 57 87:=dA h3 hK hK0
  have s:∀ a b c:Int,(-262144<=a/\a<=262144)->(-262144<=b/\b<=262144)->(-262144<=c/\c<=262144)->inR (a+b+c)/\wJ ((a+b+c:Int):Rat) 20 0:=fun a b c ha hb hc=>⟨by simp only[inR];omega,tX (by omega)⟩
  obtain⟨s1,f1⟩:=s _ _ _ b0.1 b1.1 b2.1
  obtain⟨s2,f2⟩:=s _ _ _ b0.2.1 b1.2.1 b2.2.1
  obtain⟨s3,f3⟩:=s _ _ _ b0.2.2 b1.2.2 b2.2.2
  refine aa (Nl (n+3) (v:=V.add (V.add A B) C) s1 s2 s3) ?_
  refine aa (OT (n+3) (v:=RV.of (V.add (V.add A B) C)) r5.inR ⟨f1.inR,f2.inR,f3.inR⟩ (r5.fitM f1) (r5.fitM f2) (r5.fitM f3)) ?_
  have em:kX (RV.mul (Rat.divInt (jP (A,B,C)) (4*W)) (RV.of (V.add (V.add A B) C)))=kX ⟨Rat.divInt (iP 0 (A,B,C)) (4*W),Rat.divInt (iP 1 (A,B,C)) (4*W),Rat.divInt (iP 2 (A,B,C)) (4*W)⟩:=by
   unfold RV.mul RV.of
   simp only[Gm]
   rfl
  rw[em]
  refine aa (OJ (n+3) (u:=⟨_,_,_⟩) (v:=⟨_,_,_⟩) ⟨(hMj 0).inR,(hMj 1).inR,(hMj 2).inR⟩ ⟨(hmj 0).inR,(hmj 1).inR,(hmj 2).inR⟩ ((hMj 0).fitA (hmj 0)) ((hMj 1).fitA (hmj 1)) ((hMj 2).fitA (hmj 2))) ?_
  exact aa (aS (a:=j) (b:=1) (by omega)) rfl
 ·subst hJ
  refine⟨_,aa (z:=cE T) rfl (aa ag (aa af (aJ (by show ¬ ((T.length:Int)<((cE T).length:Int));rw[dI];omega) rfl))),?_⟩
  rw[List.take_length];rfl
theorem QT(n:Nat):cA (n+11) 29 [bW l]=some (.st [I 3,I 3,.sl (ct (fun i k=>ar (dD i k) T) 9)]):=by
 rw[PW];unfold Iu
 have h2:=fun i k=>fI i k hT
 have hc:=fun i k (hi:i<3) (hk:k<3)=>OA hT n hi hk
 have t1:=dW (h2 0 0) (h2 1 1)
 have t2:=dW t1 (iK (h2 2 2) (k:=126) (by decide))
 have tn:∀ i k,(-(ar (dD i k) T)).natAbs<=2^125:=fun i k=>by rw[Int.natAbs_neg];exact h2 i k
 have k7:(120:Int).natAbs<=2^7:=by decide
 have k0:(120:Int)≠0:=by decide
 have g1:=fun i k=>dA (h2 i k) k7 k0
 have g2:=dA t1 k7 k0
 have g3:=dA t2 k7 k0
 have g4:=fun i k=>dA (tn i k) k7 k0
 refine aa (h58 (n+1)) (aa (hc 0 0 (by decide) (by decide)) (aa (hc 1 1 (by decide) (by decide)) (aa (GB (n+4) (g1 0 0).inR (g1 1 1).inR ((g1 0 0).fitA (g1 1 1))) ?_)))
 rw[uD k0]
 refine aa (hc 2 2 (by decide) (by decide)) (aa (GB (n+4) g2.inR (g1 2 2).inR (g2.fitA (g1 2 2))) ?_)
 rw[uD k0]
 refine aW (fun i s=>s=[I (i:Int),I 0,I 0,.sl [],I 3,I 3,.sl (ct (fun i k=>ar (dD i k) T) (3*i))]) 3 0 (Nat.zero_le _) rfl (fun i hi s hJ=>?_) (fun s hJ=>?_)
 ·subst hJ
  left
  refine⟨_,?_,rfl⟩
  refine aa ag (aa af (aH (by show(i:Int)<3;omega) ?_))
  refine cn (fun k s=>s=[I (k:Int),I 0,I 0,.sl [],I 3,I 3,.sl (ct (fun i k=>ar (dD i k) T) (3*i+k))]) 3 0 (Nat.zero_le _) rfl (fun k hk s hJ=>?_) (fun s hJ=>?_)
  ·subst hJ
   left
   refine⟨_,?_,rfl⟩
   refine aa ag (aa af (aH (by show(k:Int)<3;omega) ?_))
   refine aa (hc i k hi hk) (aa (Oo (n+4) (g1 i k).inR) ?_)
   rw[FT]
   have fin:∀ {v:Rat},m8 (fun i k=>ar (dD i k) T) (3*i+k)=v->(Option.bind (some (0,[I 0,I 0,.sl [],I 3,I 3,.sl (ct (fun i k=>ar (dD i k) T) (3*i+k)),bR v])) fun(r17:Nat×List D)=>
     if List.length (D.els (gx r17.2 5))+List.length [(gx r17.2 6)]<=1073741824 then(Option.bind (D.bin .add (I (k:Int)) (D.int .i64 1)) fun x18=>
     some (Sum.inl (β:=Nat×List D) [x18,(gx r17.2 0),(gx r17.2 1),(D.sl (D.els (gx r17.2 2))),(gx r17.2 3),(gx r17.2 4),(D.sl ((D.els (gx r17.2 5))++[(gx r17.2 6)]))])) else none)=some (.inl [I ((k+1:Nat):Int),I 0,I 0,.sl [],I 3,I 3,.sl (ct (fun i k=>ar (dD i k) T) (3*i+(k+1)))]):=fun{v} he=>by
    refine aa (z:=_) rfl ?_
    have hlen:List.length (D.els (.sl (ct (fun i k=>ar (dD i k) T) (3*i+k))))+List.length [bR v]<=1073741824:=by
     show(ct (fun i k=>ar (dD i k) T) (3*i+k)).length+1<=_
     rw[lH];omega
    refine(if_pos hlen).trans (aa (aS (a:=k) (b:=1) (by omega)) ?_)
    rw[show 3*i+(k+1)=3*i+k+1 by omega,oD,he]
    rfl
   obtain⟨d1,d2⟩:=GJ (i:=i) hk
   by_cases e:i=k
   ·subst e
    refine(congrArg (fun z=>Option.bind z _) (aa (z:=true) (show D.truth (D.bool (D.beq (I (i:Int)) (I (i:Int))))=some true by rw[bK,decide_eq_true rfl];rfl) (u9 ?c))).trans (fin (v:=Rat.divInt (-(ar (dD i i) T)+(ar (dD 0 0) T+ar (dD 1 1) T+ar (dD 2 2) T)) 120) ?e)
    case c=>
     refine aa (GB (n+4) g3.inR (g4 i i).inR (g3.fitA (g4 i i))) ?_
     rw[uD k0,Int.add_comm (ar (dD 0 0) T+ar (dD 1 1) T+ar (dD 2 2) T)]
     rfl
    case e=>
     unfold m8
     rw[d1,d2,if_pos rfl]
   ·refine(congrArg (fun z=>Option.bind z _) (aa (z:=false) (show D.truth (D.bool (D.beq (I (i:Int)) (I (k:Int))))=some false by rw[bK,decide_eq_false e];rfl) (by rw[if_neg (by decide)];rfl))).trans (fin ?_)
    unfold m8
    rw[d1,d2,if_neg e]
  ·subst hJ
   refine⟨_,aa ag (aa af (aJ (by decide) rfl)),?_⟩
   exact aa (aS (a:=i) (b:=1) (by omega)) rfl
 ·subst hJ
  refine⟨_,aa ag (aa af (aJ (by decide) rfl)),?_⟩
  rfl
end
theorem QF(n:Nat)(f:Nat->Nat->Int):cA (n+1) 27 [.st [I 3,I 3,.sl (ct f 9)],.st [I 3,I 3,.sl (ct f 9)]]=some (.bool true):=by
 rw[PM];unfold H0
 have hl:=lH f 9
 have hg:∀ i,i<9->(ct f 9)[i]?=some (bR (m8 f i)):=fun i hi=>by simp[ct,hi]
 generalize ct f 9=L at *
 refine aa (z:=I 3) rfl (aa (z:=I 3) rfl (aa (z:=false) rfl (aa (z:=false) ?_ (aa (z:=false) rfl (aa (z:=false) ?_ (aa (z:=false) rfl ?_))))))
 ·rw[if_neg (by decide)]
  exact aa (z:=I 3) rfl (aa (z:=I 3) rfl rfl)
 ·rw[if_neg (by decide)]
  refine aa (z:=.sl L) rfl (aa (z:=L) rfl (aa (z:=.sl L) rfl (aa (z:=L) rfl ?_)))
  rw[show D.beq (D.int .i64 (L.length:Int)) (D.int .i64 (L.length:Int))=true by rw[bK,decide_eq_true rfl]]
  rfl
 rw[if_neg (by decide)]
 refine aW (fun i s=>s=[I (i:Int)]) 9 0 (Nat.zero_le _) rfl (fun i hi s hJ=>?_) (fun s hJ=>?_)
 ·subst hJ
  left
  refine⟨_,?_,rfl⟩
  refine aa (z:=.sl L) rfl (aa (z:=L) rfl (aa ag (aa af (aH (by show((i:Int)<(L.length:Int));omega) ?_))))
  refine aa (z:=.sl L) rfl (aa (z:=L) rfl (aa (z:=i) (by rw[hl];exact au hi) (aa (hg i hi) ?_)))
  refine aa (z:=.sl L) rfl (aa (z:=L) rfl (aa (z:=i) (by rw[hl];exact au hi) (aa (hg i hi) ?_)))
  refine aa (z:=false) (by rw[yg];rfl) ?_
  rw[if_neg (by decide)]
  exact aa (aS (a:=i) (b:=1) (by omega)) rfl
 ·subst hJ
  refine⟨(1,[]),aa (z:=.sl L) rfl (aa (z:=L) rfl (aa ag (aa af (aJ (by show ¬ ((9:Int)<(L.length:Int));omega) rfl)))),rfl⟩
theorem O7{l:List V}(hl:∀ x∈l,bd MV x)(hlen:l.length<=64)(hs:E0 l):∃ (L:List (V×Int)) (poly:V×Int->List Nat),Facets (pt l) l.length L/\(∀ q∈L,bB (pt l) l.length q.1 q.2 (poly q)) ∧
  FIn l (L.map fun q=>(q,poly q))/\(∀ m,cA (m+8) 18 [bW l]=some (.sl (aD (L.map fun q=>(q,poly q)))))/\∀ m,cA (m+8) 19 [bW l]=some (.sl (aD (L.map fun q=>(q,poly q)))):=by
 obtain⟨L,poly,hL,hP,hLl,_⟩:=Iw 0 hl (show l.length<=100 by omega) hs
 have hFm:∀ m,∃ F:FL,F=(L.map fun q=>(q,poly q))/\cA (m+8) 18 [bW l]=some (.sl (aD F))/\cA (m+8) 19 [bW l]=some (.sl (aD F)):=fun m=>by
  obtain⟨F,hK,h48⟩:=No m hl (show l.length<=100 by omega) hs
  obtain⟨L',poly',hL',hP',_,h18⟩:=Iw (m+1) hl (show l.length<=100 by omega) hs
  have e':L=L':=Facets.eq hL hL'
  subst e'
  have eL:F.map Prod.fst=L:=Facets.eq hK.facets hL
  have eq1:∀ f∈F,poly f.1=f.2/\poly' f.1=f.2:=fun f hf=>by
   obtain⟨q1,q2⟩:=hK.fok.ok f hf
   have hm:f.1∈L:=by rw[<-eL];exact List.mem_map.2 ⟨f,hf,rfl⟩
   exact⟨bB.eq hs q1 (hP f.1 hm) q2,bB.eq hs q1 (hP' f.1 hm) q2⟩
  have eF:(L.map fun q=>jQ q (poly' q))=aD F:=by
   rw[<-eL,List.map_map]
   refine List.map_congr_left fun f hf=>?_
   simp only[Function.comp_apply,(eq1 f hf).2]
  refine⟨F,?_,by rw[h18,eF],?_⟩
  ·rw[<-eL,List.map_map]
   have:∀ f∈F,((fun q=>(q,poly q)) ∘ Prod.fst) f=id f:=fun f hf=>by
    show(f.1,poly f.1)=f
    rw[(eq1 f hf).1]
   rw[List.map_congr_left this,List.map_id]
  ·rw[P2]
   unfold IH
   exact aa (z:=aQ l) rfl (aa h48 rfl)
 refine⟨L,poly,hL,hP,⟨by rw[List.length_map];exact hLl,fun f hf=>?_⟩,fun m=>?_,fun m=>?_⟩
 ·obtain⟨q,hq,rfl⟩:=List.mem_map.1 hf
  have h3:=jF hs hL hP hq
  have hp:=uU hs ((hL.mem q).1 hq) (hP q hq)
  refine⟨h3,by show(poly q).length<=100;omega,fun j hj=>hp.2.2.2 _ ?_⟩
  simp only[List.getD_eq_getElem?_getD,List.getElem?_eq_getElem hj]
  exact List.getElem_mem hj
 ·obtain⟨F,rfl,h,_⟩:=hFm m;exact h
 ·obtain⟨F,rfl,_,h⟩:=hFm m;exact h
theorem Jh{call:Nat->List D->Option D}(n:Nat)(l:List V)(hc:∀ f xs,f≠10->call f xs=cA (n+1031) f xs)(h10:call 10 []=some (.bool true)):F5 aY call (bW l)=some (.bool true):=by
 unfold F5
 rcases Jv (n+1021) l with h|⟨h,hlen,hl,hs,hv,m0,d0,hF0⟩
 ·exact aa (z:=.bool false) ((hc 16 _ (by decide)).trans h) (aa (z:=.bool true) rfl (aa (z:=true) rfl (aa h10 rfl)))
 obtain⟨L,poly,hL,hP,hF,h18,h19⟩:=O7 hl (by omega) hs
 have hpos:=Et hs hL hP ((hL.mem (m0,d0)).2 hF0)
 rw[<-Gj] at hpos
 have h58:=fun m=>Pt m hl hF h19
 have hT:=xS hl hF
 have b1:=Ng (n+1021) hl hF (h18 _)
 have b2:=Nf hT h58 (n+1021)
 have b3:=Pu n hl hF h18 (by omega)
 have b4:=A7 hT h58 (n+1020) (by omega)
 have b5:=Pq n hl hF h18
 have b6:=QT hT h58 (n+1020)
 refine aa (z:=.bool true) ((hc 16 _ (by decide)).trans h) (aa (z:=.bool false) rfl (aa (z:=false) rfl ?_))
 rw[if_neg (by decide)]
 refine aa h10 (aa (z:=true) rfl (aa (z:=true) (u9 ?_) (aa (z:=true) rfl (aa (z:=true) (u9 ?_) (aa (z:=true) rfl (aa (z:=true) (u9 ?_) rfl))))))
 ·refine aa ((hc 23 _ (by decide)).trans b1) (aa ((hc 24 _ (by decide)).trans b2) ?_)
  rw[yL];rfl
 ·refine aa ((hc 25 _ (by decide)).trans b3) (aa ((hc 26 _ (by decide)).trans b4) ?_)
  rw[FG];rfl
 ·exact aa ((hc 28 _ (by decide)).trans b5) (aa ((hc 29 _ (by decide)).trans b6) (aa ((hc 27 _ (by decide)).trans (QF (n+1030) _)) rfl))
end Go.Proofs.YtjjjkojfijpeeaaGreat.Sy
end
section
namespace Go.Proofs.YtjjjkojfijpeeaaGreat.Sy
open Go Go.Proofs Go.Proofs.YtjjjkojfijpeeaaGreat.Geo
theorem LP:mo 5=some ([K3],.bool):=by kernel_rfl
theorem ctr5{d:D}(h:wt K3 d):CQ Tryz.prog [K3] .bool 5 [d] (.bool true):=by
 obtain⟨l,rfl⟩:=GY h
 refine L5 li (uS (0+1031)) (BJ _) [K3] .bool [bW l] (.bool true) LP ?_ ⟨_,[],rfl,h,rfl⟩
 exact Jh 0 l (fun f xs hf=>by unfold uS;rw[if_neg hf]) (by unfold uS;rw[if_pos rfl];exact xj)
end Go.Proofs.YtjjjkojfijpeeaaGreat.Sy
end
section
namespace Go.Proofs.YtjjjkojfijpeeaaGreat
open Go Go.ChangeShapes Go.WideShapes Go.ChangeAt Go.RowKit
namespace Sy
theorem lay25:bq Tryz.prog K3 25=true:=by kernel_rfl
theorem under4:Tryz.prog.underlying 4=some .bool:=by kernel_rfl
theorem DR0_of{W:World}{S:Nat->Nat->Prop}{d:D}{cs:Array Value}(h:wt K3 d)(k:cJ W S d.flat (Value.agg cs).cells.toList):eW W S d (.agg cs):=by
 obtain⟨l,rfl,_⟩:=h
 exact⟨⟨_,rfl⟩,k⟩
theorem bool_of{W:World}{S:Nat->Nat->Prop}{b:Bool}{v:Value}(h:DR W S (.bool b) v):v=.bool b:=by
 obtain⟨h1,h2⟩:=(h:eW W S (.bool b) v)
 have h3:=(bz (by intro d hd;simp only[D.flat,List.mem_singleton] at hd;subst hd;rfl)).1 h2
 exact ao h1 (by simpa [D.flat,bf] using h3)
theorem agg_of{P:Program}{ts:List Ty}{t:TypeId}(hl:bq P (.st ts) t=true){W:World}{base:Nat}{v:Value}(h:Value.okWide P W .any base t v):∃ cs,v=.agg cs:=by
 obtain⟨fs,hu,_⟩:=hC hl
 obtain⟨cs,h1,_⟩:=okWide_struct hu h
 exact⟨cs,h1⟩
end Sy
theorem Lr:ownKnob Tryz.prog.godebug=none:=by kernel_rfl
theorem Cn:laidOutB Tryz.prog=true:=by kernel_rfl
theorem Co:Tryz.f5.params=#[25]:=by kernel_rfl
set_option maxRecDepth 100000 in
theorem rq(os:Os)(started:os.Started)(H:Type)(enc:TypeId×Value->H) :
  ReturnsInHanded {} Tryz.checked os 5 .any (Rows.hullMassesMatchSpecSpec.pre6 enc Tryz.prog Tryz.f5 Rows.hullMassesMatchSpecRow.domain false) (Rows.hullMassesMatchSpecSpec.post enc Tryz.prog Tryz.f5 false true false false):=by
 refine returnsInHanded_of_change (C:=Tryz.checked) Lr started (by kernel_rfl) (show Tryz.prog.funcs[5]?=some Tryz.f5 by kernel_rfl)
  (ChangeSpec.witness6 (enc:=enc) (C:=Tryz.checked) false ⟨#[],#[.agg #[.slice none 0 0]],[]⟩ 8 (by kernel_rfl) (by kernel_rfl) (by kernel_rfl) (by kernel_rfl)) ?_
 intro W base args ds gs before hval0 hW hcnd _
 have hval:∀ (j:Nat) t v,Tryz.f5.params[j]?=some t->args[j]?=some v->Value.okWide Tryz.prog W .any base t v:=hval0
 have hW':=hW
 obtain⟨p,q,hA0,hV,rfl,hfz,hnd⟩:=hW
 have hA:DataW.TrodAll enc Tryz.prog W 0 (fun _=>true) true Tryz.f5.params.toList args.toList ds p:=hA0
 rw[Co] at hA hval
 obtain⟨v0,d0,rfl,rfl,h0⟩:=trodAll_one hA
 obtain⟨rfl,rfl⟩:=trodVars_none hV
 clear hA0 hval0
 obtain⟨cs,rfl⟩:∃ cs,v0=.agg cs:=Sy.agg_of (P:=Tryz.prog) (t:=25) Sy.lay25 (hval 0 25 v0 rfl rfl)
 have h0':=h0
 obtain⟨fuel,hf⟩:=h0
 obtain⟨d,hd1,hd2⟩:=Sy.tM (W:=W) Sy.K3 25 fuel _ _ Sy.lay25 (by rfl) hf
 have hctr:=Sy.ctr5 hd1 W (Sy.qf W) [.agg cs] (fun _ _ h=>Sy.valid_lt h) ⟨_,[],rfl,hd1,rfl⟩ rfl (fun i x v hx hv=>by
  cases i with
  | zero=>simp at hx hv;subst hx;subst hv;exact Sy.DR0_of hd1 hd2
  | succ i=>simp at hx)
 refine Go.Calls.mono hctr fun e W' he=>?_
 obtain⟨v,rfl,⟨os',dr,hdr,rfl⟩,_,hv⟩:=he
 have hv':v=.bool true:=Sy.bool_of hv
 subst hv'
 have hb:Below W.heap.size W (ay W os' dr):=⟨rfl,rfl,rfl,by simp[ay],fun k hk=>cG W os' dr hk⟩
 have hlt:∀ x∈p,x.block<W.heap.size:=fun x hx=>by simpa using hW'.lt x (by simpa using hx)
 exact⟨_,rfl,_,_,_,[],p,[],hW',trodAll_mk1 ((Go.RowKit.shut_bool (P:=Tryz.prog) Sy.under4 true)),trodAll_mk1 (Below.trod Cn (by kernel_rfl) (of_decide_eq_true (by kernel_rfl)) h0' hb hlt),rfl,hb.frame _,fun h=>by cases h⟩
theorem hullMassesMatchSpec_holds:Rows.HullMassesMatchSpecSaid:=
 OpenClaim.holds_of_wide 5 Tryz.f5 rfl rfl rfl rfl rfl rfl rfl ⟨rfl,rfl,rfl,rfl,rfl⟩ rfl rfl rfl rfl rfl (by kernel_rfl) (show Tryz.prog.funcs[5]?=some Tryz.f5 by kernel_rfl) (by kernel_rfl)
  (of_decide_eq_true (by kernel_rfl)) (by unfold Func.isWrapper;first|(rw[if_pos (by decide +kernel)];kernel_rfl)|(rw[if_neg (by decide +kernel)];exact⟨rfl,rfl⟩))
  (fun os started H enc _=>rq os started H enc)
end Go.Proofs.YtjjjkojfijpeeaaGreat
end
