/- Part 14 of the proof that HullMoves answers true at every input -/
import Derived.Test.YtjjjkojfijpeeaaGreatMoves11
import Derived.Test.YtjjjkojfijpeeaaGreatMoves12
import Derived.Test.YtjjjkojfijpeeaaGreatMoves13
set_option linter.unusedVariables false
set_option linter.unusedSimpArgs false
set_option linter.unnecessarySimpa false
section
set_option linter.unusedVariables false
namespace Go.Proofs.YtjjjkojfijpeeaaGreat.Sy
open Go Go.Proofs Go.Proofs.YtjjjkojfijpeeaaGreat.Geo
def gm(x:V):List V->List V
 | []=>[x]
 | y::L=>if aC x y\/x=y then x::(y::L).filter (fun z=>decide (z≠x)) else y::gm x L
def dN(l:List V):List V:=l.foldl (fun o x=>gm x o) []
theorem wv(x:V):∀ L:List V,(gm x L).length<=L.length+1
 | []=>by simp[gm]
 | y::L=>by
  have:=wv x L
  unfold gm
  split
  ·rw[List.length_cons];have:=List.length_filter_le (fun z=>decide (z≠x)) (y::L);omega
  ·simp only[List.length_cons];omega
theorem ri{x z:V}:∀ {L:List V},z∈gm x L↔z=x\/z∈L
 | []=>by simp[gm]
 | y::L=>by
  have ih:=ri (x:=x) (z:=z) (L:=L)
  unfold gm
  split
  ·simp only[List.mem_cons,List.mem_filter,decide_eq_true_eq]
   by_cases h:z=x<;>simp[h]
  ·simp only[List.mem_cons,ih]
   constructor
   ·rintro(h|h|h)
    ·exact .inr (.inl h)
    ·exact .inl h
    ·exact .inr (.inr h)
   ·rintro(h|h|h)
    ·exact .inr (.inl h)
    ·exact .inl h
    ·exact .inr (.inr h)
theorem wK{x:V}:∀ {L:List V},L.Pairwise aC->(gm x L).Pairwise aC
 | [],_=>by simp[gm]
 | y::L,h=>by
  obtain⟨h1,h2⟩:=List.pairwise_cons.1 h
  unfold gm
  split
  ·rename_i hxy
   refine List.pairwise_cons.2 ⟨fun z hz=>?_,h.filter _⟩
   obtain⟨hz1,hz2⟩:=List.mem_filter.1 hz
   have hzx:z≠x:=by simpa using hz2
   rcases List.mem_cons.1 hz1 with rfl|hz1
   ·rcases hxy with h|h
    ·exact h
    ·exact absurd h.symm hzx
   ·rcases hxy with h|h
    ·exact ku h (h1 z hz1)
    ·rw[h];exact h1 z hz1
  ·rename_i hxy
   refine List.pairwise_cons.2 ⟨fun z hz=>?_,wK h2⟩
   rcases ri.1 hz with rfl|hz
   ·rcases nL (a:=z) (b:=y) (fun e=>hxy (.inr e)) with k|k
    ·exact absurd (.inl k) hxy
    ·exact k
   ·exact h1 z hz
theorem pT(l:List V):(dN l).Pairwise aC:=by
 unfold dN
 have:∀ (l o:List V),o.Pairwise aC->(l.foldl (fun o x=>gm x o) o).Pairwise aC:=by
  intro l
  induction l with
  | nil=>intro o h;exact h
  | cons x l ih=>intro o h;exact ih _ (wK h)
 exact this l [] .nil
theorem vz{l:List V}{z:V}:z∈dN l↔z∈l:=by
 unfold dN
 have:∀ (l o:List V),z∈l.foldl (fun o x=>gm x o) o↔z∈l\/z∈o:=by
  intro l
  induction l with
  | nil=>intro o;simp
  | cons x l ih=>
   intro o
   rw[List.foldl_cons,ih,ri,List.mem_cons]
   constructor
   ·rintro(h|h|h)
    ·exact .inl (.inr h)
    ·exact .inl (.inl h)
    ·exact .inr h
   ·rintro((h|h)|h)
    ·exact .inr (.inl h)
    ·exact .inl h
    ·exact .inr (.inr h)
 rw[this];simp
theorem mT(l:List V):(dN l).length<=l.length:=by
 unfold dN
 have:∀ (l o:List V),(l.foldl (fun o x=>gm x o) o).length<=l.length+o.length:=by
  intro l
  induction l with
  | nil=>intro o;simp
  | cons x l ih=>
   intro o
   have h1:=ih (gm x o)
   have h2:=wv x o
   rw[List.foldl_cons,List.length_cons];omega
 simpa using this l []
theorem Bz{l:List V}(h:l.Pairwise aC):BO l:=fun i j hij hj=>by
 have:=List.pairwise_iff_getElem.1 h i j (by omega) hj hij
 simpa [pt,List.getD,hj,show i<l.length by omega] using this
theorem E8{l:List V}(h:l.Pairwise aC):dN l=l:=
 nM (r:=aC) kQ tF (pT l) h fun x=>vz
theorem Oe(n:Nat)(l:List V)(hlen:l.length<=1000000):cA (n+2) 47 [aP l]=some (aP (dN l)):=by
 rw[Ow]
 unfold IL
 have ll:(l.map ac).length=l.length:=List.length_map ..
 refine be (fun i s=>s=[aP (dN (l.take i)),I (i:Int)]) l.length 0 (Nat.zero_le _) rfl (fun i hi s hJ=>?_) (fun s hJ=>?_)
 ·subst hJ
  left
  refine⟨[aP (dN (l.take (i+1))),I ((i+1:Nat):Int)],?_,rfl⟩
  have hs:dN (l.take (i+1))=gm (l.getD i V.zero) (dN (l.take i)):=by
   unfold dN
   rw[List.take_succ_eq_append_getElem hi,List.foldl_append]
   simp[List.getD,hi]
  have hol:(dN (l.take i)).length<=1000000:=Nat.le_trans (mT _) (by rw[List.length_take];omega)
  rw[hs]
  obtain⟨o,ho⟩:∃ o,dN (l.take i)=o:=⟨_,rfl⟩
  obtain⟨x,hx⟩:∃ x,l.getD i V.zero=x:=⟨_,rfl⟩
  have hxg:(l.map ac)[i]?=some (ac x):=by rw[<-hx];exact dF hi
  rw[ho] at hol ⊢
  rw[hx]
  have ol:(o.map ac).length=o.length:=List.length_map ..
  refine aa (z:=l.map ac) rfl (aa ag (aa af (aJ (by show((i:Int)<((l.map ac).length:Int));rw[ll];omega) ?_)))
  refine cT (fun k s=>∃ (nx:List V) (put:Bool),s=[aP o,aP nx,.bool put,I (k:Int)]/\nx.length<=2*k/\(put=false->gm x o=nx++gm x (o.drop k))/\(put=true->gm x o=nx++(o.drop k).filter (fun z=>decide (z≠x)))) o.length 0 (Nat.zero_le _) ⟨[],false,rfl,by simp,by simp,by simp⟩ (fun k hk s hJ=>?_) (fun s hJ=>?_)
  ·obtain⟨nx,put,rfl,hnl,h1,h2⟩:=hJ
   left
   have hd:o.drop k=o.getD k V.zero::o.drop (k+1):=by rw[List.drop_eq_getElem_cons hk];simp[List.getD,hk]
   have hyg:(o.map ac)[k]?=some (ac (o.getD k V.zero)):=dF hk
   obtain⟨y,hy⟩:∃ y,o.getD k V.zero=y:=⟨_,rfl⟩
   rw[hy] at hd hyg
   rw[hd] at h1 h2
   obtain⟨n1,p1,he,q0,q1,q2⟩:∃ (n1:List V) (p1:Bool),(if put=false/\(aC x y\/x=y) then(nx++[x],true) else(nx,put))=(n1,p1)/\n1.length<=2*k+1/\(p1=false->x≠y/\gm x o=n1++y::gm x (o.drop (k+1)))/\(p1=true->gm x o=n1++(y::o.drop (k+1)).filter (fun z=>decide (z≠x))):=by
    by_cases hp:put=false/\(aC x y\/x=y)
    ·refine⟨_,_,if_pos hp,by simp;omega,by simp,fun _=>?_⟩
     rw[h1 hp.1,gm,if_pos hp.2];simp
    ·refine⟨_,_,if_neg hp,by omega,fun e=>?_,fun e=>h2 e⟩
     have hn:¬ (aC x y\/x=y):=fun h=>hp ⟨e,h⟩
     refine⟨fun h=>hn (.inr h),?_⟩
     rw[h1 e,gm,if_neg hn]
   refine⟨[aP o,aP (if y≠x then n1++[y] else n1),.bool p1,I ((k+1:Nat):Int)],?_,_,p1,rfl,?_,?_,?_⟩
   ·refine aa ag (aa af (aJ (by show((k:Int)<((o.map ac).length:Int));rw[ol];omega) ?_))
    have app:∀ (a:List V) (z:V),D.sl ((a.map ac)++[ac z])=aP (a++[z]):=fun a z=>by simp[aP]
    have al:∀ a:List V,(a.map ac).length=a.length:=fun a=>List.length_map ..
    refine aa (z:=(0,[aP o,aP (if y≠x then n1++[y] else n1),.bool p1])) ?_ (aa (av (aF (i:=k) (by omega))) rfl)
    refine aa (z:=l.map ac) rfl (aa (z:=i) (by rw[ll];exact aw hi) (aa hxg (aa (z:=k) (by show D.idx (I (k:Int)) (o.map ac).length=_;rw[ol];exact aw hk) (aa hyg (aa (Ib n x y) (aa (z:=(0,[aP o,aP n1,.bool p1])) ?_ ?_))))))
    ·refine aa (z:=.bool (!put)) rfl (aa af (aa (z:=!put&&decide (aC x y\/x=y)) ?_ (aa af ?_)))
     ·cases put
      ·rw[show(!false)=true from rfl,if_pos rfl]
       refine aa af ?_
       by_cases hlt:aC x y
       ·refine aJ hlt ?_
        rw[decide_eq_true (.inl hlt)];rfl
       ·refine aM hlt ?_
        refine aa (z:=l.map ac) rfl (aa (z:=i) (by rw[ll];exact aw hi) (aa hxg (aa (z:=k) (by show D.idx (I (k:Int)) (o.map ac).length=_;rw[ol];exact aw hk) (aa hyg ?_))))
        rw[kb,af]
        simp[hlt]
      ·rfl
     ·by_cases hp:put=false/\(aC x y\/x=y)
      ·rw[if_pos hp] at he
       cases he
       rw[show(!put&&decide (aC x y\/x=y))=true by rw[hp.1,decide_eq_true hp.2];rfl,if_pos rfl]
       refine aa (z:=l.map ac) rfl (aa (z:=i) (by rw[ll];exact aw hi) (aa hxg ?_))
       rw[if_pos (by show(nx.map ac).length+1<=1073741824;rw[al];omega)]
       rw[<-app];rfl
      ·rw[if_neg hp] at he
       cases he
       rw[show(!put&&decide (aC x y\/x=y))=false by
        cases hput:put
        ·have:¬ (aC x y\/x=y):=fun h=>hp ⟨hput,h⟩
         simp[this]
        ·rfl]
       rfl
    ·refine aa (z:=k) (by show D.idx (I (k:Int)) (o.map ac).length=_;rw[ol];exact aw hk) (aa hyg (aa (z:=l.map ac) rfl (aa (z:=i) (by rw[ll];exact aw hi) (aa hxg ?_))))
     rw[kb]
     refine aa af ?_
     by_cases hyx:y=x
     ·rw[decide_eq_true hyx,if_neg (show ¬ (y≠x) from fun h=>h hyx)];rfl
     ·rw[decide_eq_false hyx,if_pos (show y≠x from hyx),show(!false)=true from rfl,if_pos rfl]
      refine aa (z:=k) (by show D.idx (I (k:Int)) (o.map ac).length=_;rw[ol];exact aw hk) (aa hyg ?_)
      rw[if_pos (by show(n1.map ac).length+1<=1073741824;rw[al];omega)]
      rw[<-app];rfl
   ·split
    ·simp;omega
    ·omega
   ·intro e
    obtain⟨r1,r2⟩:=q1 e
    rw[if_pos (fun h=>r1 h.symm),r2];simp
   ·intro e
    rw[q2 e,List.filter_cons]
    by_cases hyx:y=x
    ·simp[hyx]
    ·simp[hyx]
  ·obtain⟨nx,put,rfl,hnl,h1,h2⟩:=hJ
   refine⟨(0,[aP nx,.bool put]),?_,?_⟩
   ·exact aa ag (aa af (aM (by show ¬ ((o.length:Int)<((o.map ac).length:Int));rw[ol];omega) rfl))
   ·have al:∀ a:List V,(a.map ac).length=a.length:=fun a=>List.length_map ..
    rw[List.drop_length] at h1 h2
    refine aa (z:=(0,[aP (gm x o)])) ?_ (aa (av (aF (i:=i) (by omega))) rfl)
    refine aa (z:=.bool (!put)) rfl (aa af ?_)
    cases put
    ·rw[show(!false)=true from rfl,if_pos rfl]
     refine aa (z:=l.map ac) rfl (aa (z:=i) (by rw[ll];exact aw hi) (aa hxg ?_))
     rw[if_pos (by show(nx.map ac).length+1<=1073741824;rw[al];omega)]
     rw[h1 rfl]
     simp[gm,aP,g0,D.els]
    ·have:=h2 rfl
     simp only[List.filter_nil,List.append_nil] at this
     rw[this];rfl
 ·subst hJ
  rw[List.take_length]
  refine⟨(0,[aP (dN l)]),?_,rfl⟩
  exact aa (z:=l.map ac) rfl (aa ag (aa af (aM (by show ¬ ((l.length:Int)<((l.map ac).length:Int));rw[ll];omega) rfl)))
structure FOk(l:List V)(F:FL):Prop where
 ord:F.Pairwise (fun a b=>aC a.1.1 b.1.1)
 ok:∀ f∈F,IsF (pt l) l.length f.1.1 f.1.2/\bu (pt l) l.length f.1.1 f.1.2 f.2
theorem ke{f x:(V×Int)×List Nat}:∀ {L:FL},x∈j5 f L↔x=f\/x∈L
 | []=>by simp[j5]
 | y::L=>by
  have ih:=ke (f:=f) (x:=x) (L:=L)
  unfold j5
  split
  ·simp
  ·simp only[List.mem_cons,ih]
   constructor
   ·rintro(h|h|h)
    ·exact .inr (.inl h)
    ·exact .inl h
    ·exact .inr (.inr h)
   ·rintro(h|h|h)
    ·exact .inr (.inl h)
    ·exact .inl h
    ·exact .inr (.inr h)
theorem wp{f:(V×Int)×List Nat}:∀ {L:FL},L.Pairwise (fun a b=>aC a.1.1 b.1.1)->(∀ x∈L,x.1.1≠f.1.1)->(j5 f L).Pairwise (fun a b=>aC a.1.1 b.1.1)
 | [],_,_=>by simp[j5]
 | y::L,h,hn=>by
  obtain⟨h1,h2⟩:=List.pairwise_cons.1 h
  unfold j5
  split
  ·rename_i k
   refine List.pairwise_cons.2 ⟨fun z hz=>?_,h⟩
   rcases List.mem_cons.1 hz with rfl|hz
   ·exact k
   ·exact ku k (h1 z hz)
  ·rename_i k
   refine List.pairwise_cons.2 ⟨fun z hz=>?_,wp h2 fun x hx=>hn x (List.mem_cons_of_mem _ hx)⟩
   rcases ke.1 hz with rfl|hz
   ·rcases nL (hn y List.mem_cons_self) with k'|k'
    ·exact k'
    ·exact absurd k' k
   ·exact h1 z hz
def zp(l:List V):List (V×Int):=(List.range l.length).flatMap fun i=>(List.range l.length).flatMap fun j=>(List.range l.length).flatMap fun k=>[(bv (eE (pt l) i j k),V.dot (bv (eE (pt l) i j k)) (pt l i)),((bv (eE (pt l) i j k)).neg,V.dot (bv (eE (pt l) i j k)).neg (pt l i))]
theorem Bg(l:List V)(h:l.length<=100):(zp l).length<=2000000:=by
 unfold zp
 rw[me (c:=l.length*(l.length*2)) _ (fun i _=>by rw[me (c:=l.length*2) _ (fun j _=>by rw[me (c:=2) _ (fun k _=>rfl),List.length_range]),List.length_range]),List.length_range]
 have a1:l.length*2<=200:=by omega
 have a2:l.length*(l.length*2)<=100*200:=Nat.mul_le_mul h a1
 exact Nat.mul_le_mul h a2
theorem Ba{l:List V}{q:V×Int}(h:IsF (pt l) l.length q.1 q.2):q∈zp l:=by
 obtain⟨i,j,k,h1,h2,h3,h4,h5,h6⟩:=h.ex
 refine List.mem_flatMap.2 ⟨i,List.mem_range.2 (by omega),List.mem_flatMap.2 ⟨j,List.mem_range.2 (by omega),List.mem_flatMap.2 ⟨k,List.mem_range.2 h3,?_⟩⟩⟩
 obtain⟨a,b⟩:=q
 simp only at h5 h6
 subst h6
 rcases h5 with rfl|rfl<;>simp
theorem FOk.len{l:List V}{F:FL}(h:FOk l F)(hl:l.length<=100):F.length<=2000000:=by
 have nd:(F.map Prod.fst).Nodup:=by
  refine List.pairwise_map.2 (h.ord.imp fun{a b} hab e=>?_)
  rw[e] at hab;exact kQ _ hab
 have:=List.Nodup.length_le_of_subset (l₂:=zp l) nd fun q hq=>by
  obtain⟨f,hf,rfl⟩:=List.mem_map.1 hq
  exact Ba (h.ok f hf).1
 rw[List.length_map] at this
 exact Nat.le_trans this (Bg l hl)
theorem FOk.insert{l:List V}{F:FL}(h:FOk l F){f:(V×Int)×List Nat}(hn:∀ x∈F,x.1.1≠f.1.1)(h1:IsF (pt l) l.length f.1.1 f.1.2)(h2:bu (pt l) l.length f.1.1 f.1.2 f.2):FOk l (j5 f F):=
 ⟨wp h.ord hn,fun x hx=>by
  rcases ke.1 hx with rfl|hx
  ·exact⟨h1,h2⟩
  ·exact h.ok x hx⟩
theorem rj{v:V}:bv v=V.zero↔v=V.zero:=by
 constructor
 ·intro h
  by_cases hv:v=V.zero
  ·exact hv
  ·exact absurd h (pE hv)
 ·rintro rfl
  apply V.ext'<;>simp[bv,V.zero]
theorem Ac{v:V}:v.neg=V.zero↔v=V.zero:=by
 constructor
 ·intro h
  by_cases hv:v=V.zero
  ·exact hv
  ·exact absurd h (BC hv)
 ·rintro rfl
  apply V.ext'<;>simp[V.neg,V.zero]
theorem bj{α β:Type}{A:Option α}{g:α->Option β}{z:α}{Y:β->Prop}(h:A=some z)(hk:∃ y,g z=some y/\Y y):∃ y,Option.bind A g=some y/\Y y:=by
 rw[h];exact hk
theorem pF{β:Type}{p:Prop}[Decidable p]{A B:Option β}{Y:β->Prop}(h:p)(hA:∃ y,A=some y/\Y y):∃ y,(if decide p=true then A else B)=some y/\Y y:=by rw[if_pos (decide_eq_true h)];exact hA
theorem CJ(n:Nat){l:List V}(hl:∀ x∈l,bd MV x)(hlen:l.length<=100)(hs:BO l){F:FL}(hF:FOk l F){i j k:Nat}(hij:i<j)(hjk:j<k)(hk:k<l.length){m:V}(hm:m=bv (eE (pt l) i j k)\/m=(bv (eE (pt l) i j k)).neg){α:Type}{g:D->Nat×List D->Option α}{Y:α->Prop}
  (hg:∀ F':FL,FOk l F'->(∀ f∈F,f∈F')->(eE (pt l) i j k≠V.zero->xG (pt l) l.length m (V.dot m (pt l i))->(m,V.dot m (pt l i))∈F'.map Prod.fst)->∃ y,g (I (V.dot m (pt l i))) (0,[.sl (aI F')])=some y/\Y y) :
  ∃ y,(Option.bind (cA (n+4) 107 [ac m,ac (pt l i)]) fun r31=>
  Option.bind (cA (n+4) 108 [.sl (aI F),ac m]) fun r32=>
  Option.bind (Option.bind (D.un .not r32) fun x33=>
  Option.bind (D.truth x33) fun b34=>
  Option.bind (if b34 then(Option.bind (D.un .not (D.bool (D.beq (ac m) (D.st [(D.int .i64 0),(D.int .i64 0),(D.int .i64 0)])))) fun x35=>
  D.truth x35) else(some false)) fun b36=>
  Option.bind (D.truth (D.bool b36)) fun b37=>
  Option.bind (if b37 then(Option.bind (cA (n+4) 109 [aP l,ac m,r31]) fun r38=>
  D.truth r38) else(some false)) fun b39=>
  Option.bind (D.truth (D.bool b39)) fun b40=>
  if b40 then(Option.bind (cA (n+4) 111 [aP l,ac m,r31]) fun r41=>
  Option.bind (cA (n+4) 110 [.sl (aI F),(D.st [ac m,r31,r41])]) fun r42=>
  some (0,[r42])) else(some (0,[.sl (aI F)]))) (g r31))=some y/\Y y:=by
 have hi:i<l.length:=by omega
 have bt:bd 549755813888 (bv (eE (pt l) i j k)):=kY (gq (lv (P:=pt l) (hl _ (cY hi)) (hl _ (cY (show j<l.length by omega)))) (lv (P:=pt l) (hl _ (cY hi)) (hl _ (cY hk))))
 have bm:bd 549755813888 m:=by
  rcases hm with rfl|rfl
  ·exact bt
  ·exact qL bt
 have hFl:=hF.len hlen
 have hmz:m=V.zero↔eE (pt l) i j k=V.zero:=by
  rcases hm with rfl|rfl
  ·exact rj
  ·rw[Ac,rj]
 refine bj (An (n+3) bm (hl _ (cY hi)) (by decide)) (bj (Mi (n+3) F m (by omega)) ?_)
 obtain⟨d,hd⟩:∃ d,V.dot m (l.getD i V.zero)=d:=⟨_,rfl⟩
 have hdp:V.dot m (pt l i)=d:=hd
 rw[hdp] at hg
 rw[hdp]
 by_cases hkn:(F.any fun f=>decide (f.1.1=m))=true
 ·rw[hkn]
  refine bj (z:=(0,[.sl (aI F)])) (aa (z:=.bool false) rfl (aa (z:=false) rfl (aa (z:=false) rfl (aa (z:=false) rfl (aa (z:=false) rfl (aa (z:=false) rfl rfl)))))) (hg F hF (fun f hf=>hf) fun ht hsp=>?_)
  obtain⟨f,hf,hfm⟩:=List.any_eq_true.1 hkn
  have hfm:f.1.1=m:=by simpa using hfm
  have h1:=(hF.ok f hf).1
  rw[hfm] at h1
  have h2:IsF (pt l) l.length m d:=⟨⟨i,j,k,hij,hjk,hk,ht,hm,hdp.symm⟩,hsp⟩
  exact List.mem_map.2 ⟨f,hf,Prod.ext hfm (IsF.d_eq h1 h2)⟩
 ·rw[Bool.not_eq_true] at hkn
  rw[hkn]
  have hnk:∀ f∈F,f.1.1≠m:=fun f hf e=>by
   have:=List.any_eq_false.1 hkn f hf
   simp[e] at this
  by_cases hz:m=V.zero
  ·refine bj (z:=(0,[.sl (aI F)])) (aa (z:=.bool true) rfl (aa (z:=true) rfl (aa (z:=false) ?_ (aa (z:=false) rfl (aa (z:=false) rfl (aa (z:=false) rfl rfl)))))) (hg F hF (fun f hf=>hf) fun ht hsp=>absurd (hmz.1 hz) ht)
   rw[if_pos rfl,qC,kb,decide_eq_true (show m=⟨0,0,0⟩ from hz)];rfl
  ·have ht:eE (pt l) i j k≠V.zero:=fun e=>hz (hmz.2 e)
   have hc:=LU (n+2) (d:=d) hl bm (by decide) (by omega)
   by_cases hsp:supp l (m,d)=true
   ·have hFm:IsF (pt l) l.length m d:=⟨⟨i,j,k,hij,hjk,hk,ht,hm,hdp.symm⟩,mP.1 hsp⟩
    obtain⟨p,hp,_,_⟩:=hFm.poly hs
    refine bj (z:=(0,[.sl (aI (j5 ((m,d),p) F))])) (aa (z:=.bool true) rfl (aa (z:=true) rfl (aa (z:=true) ?_ (aa (z:=true) rfl (aa (z:=true) ?_ (aa (z:=true) rfl ?_)))))) (hg _ (hF.insert hnk hFm hp) (fun f hf=>ke.2 (.inr hf)) fun _ _=>List.mem_map.2 ⟨((m,d),p),ke.2 (.inl rfl),rfl⟩)
    ·rw[if_pos rfl,qC,kb,decide_eq_false (show ¬ m=⟨0,0,0⟩ from hz)];rfl
    ·rw[if_pos rfl]
     refine aa hc ?_
     rw[af];exact congrArg some hsp
    ·rw[if_pos rfl]
     exact aa (MH n hl hlen hs hFm bm hp) (aa (MS (n+2) F ((m,d),p) (by omega)) rfl)
   ·refine bj (z:=(0,[.sl (aI F)])) (aa (z:=.bool true) rfl (aa (z:=true) rfl (aa (z:=true) ?_ (aa (z:=true) rfl (aa (z:=false) ?_ (aa (z:=false) rfl rfl)))))) (hg F hF (fun f hf=>hf) fun _ hsp'=>absurd (mP.2 hsp') hsp)
    ·rw[if_pos rfl,qC,kb,decide_eq_false (show ¬ m=⟨0,0,0⟩ from hz)];rfl
    ·rw[if_pos rfl]
     refine aa hc ?_
     rw[af]
     exact congrArg some (Bool.eq_false_iff.2 hsp)
structure KnF(l:List V)(i j k:Nat)(F:FL):Prop where
 fok:FOk l F
 all:∀ i' j' k',i'<j'->j'<k'->k'<l.length->(i'<i\/i'=i/\(j'<j\/j'=j/\k'<k))->eE (pt l) i' j' k'≠V.zero->∀ m,(m=bv (eE (pt l) i' j' k')\/m=(bv (eE (pt l) i' j' k')).neg)->xG (pt l) l.length m (V.dot m (pt l i'))->(m,V.dot m (pt l i'))∈F.map Prod.fst
theorem KnF.mono{l:List V}{i j k i2 j2 k2:Nat}{F:FL}(h:KnF l i j k F)(hm:∀ i' j' k',i'<j'->j'<k'->k'<l.length->(i'<i2\/i'=i2/\(j'<j2\/j'=j2/\k'<k2))->(i'<i\/i'=i/\(j'<j\/j'=j/\k'<k))):KnF l i2 j2 k2 F:=
 ⟨h.fok,fun i' j' k' h1 h2 h3 h4=>h.all i' j' k' h1 h2 h3 (hm i' j' k' h1 h2 h3 h4)⟩
theorem KnF.facets{l:List V}{F:FL}(h:KnF l l.length 0 0 F):Facets (pt l) l.length (F.map Prod.fst):=by
 refine⟨List.pairwise_map.2 h.fok.ord,fun q=>⟨fun hq=>?_,fun hq=>?_⟩⟩
 ·obtain⟨f,hf,rfl⟩:=List.mem_map.1 hq
  exact(h.fok.ok f hf).1
 ·obtain⟨⟨i,j,k,h1,h2,h3,c1,c2,c3⟩,hs⟩:=hq
  obtain⟨m,d⟩:=q
  simp only at c2 c3 hs
  subst c3
  exact h.all i j k h1 h2 h3 (.inl (by omega)) c1 m c2 hs
end Go.Proofs.YtjjjkojfijpeeaaGreat.Sy
end
section
set_option linter.unusedVariables false
namespace Go.Proofs.YtjjjkojfijpeeaaGreat.Sy
open Go Go.Proofs Go.Proofs.YtjjjkojfijpeeaaGreat.Geo
def mt(p:V):Nat->V
 | 0=>p
 | 1=>p.neg
 | _=>p
theorem NF(n:Nat){l:List V}(hl:∀ x∈l,bd MV x)(hlen:l.length<=100)(hs:BO l):∃ F:FL,KnF l l.length 0 0 F/\cA (n+7) 48 [aP l]=some (.sl (aI F)):=by
 suffices h:∃ y,cA (n+7) 48 [aP l]=some y/\∃ F:FL,KnF l l.length 0 0 F/\y=.sl (aI F) by
  obtain⟨y,h1,F,h2,rfl⟩:=h
  exact⟨F,h2,h1⟩
 rw[OD]
 unfold Jg
 have ll:(l.map ac).length=l.length:=List.length_map ..
 refine q8 (fun i s=>∃ F:FL,s=[.sl (aI F),I (i:Int)]/\KnF l i 0 0 F) l.length 0 (Nat.zero_le _) ⟨[],rfl,⟨.nil,by simp⟩,fun i' j' k' h1 h2 h3 h4=>by omega⟩ (fun i hi s hJ=>?_) (fun s hJ=>?_)
 ·obtain⟨F,rfl,hF⟩:=hJ
  refine bj (z:=l.map ac) rfl (bj ag (bj af (pF (by show((i:Int)<((l.map ac).length:Int));rw[ll];omega) (bj (av (aF (i:=i) (by omega))) ?_))))
  refine q8 (fun j s=>i+1<=j/\∃ F:FL,s=[.sl (aI F),I (j:Int)]/\KnF l i j 0 F) l.length (i+1) (by omega) ⟨Nat.le_refl _,F,rfl,hF.mono fun i' j' k' h1 h2 h3 h4=>by omega⟩ (fun j hj s hJ=>?_) (fun s hJ=>?_)
  ·obtain⟨hij,F,rfl,hF⟩:=hJ
   refine bj (z:=l.map ac) rfl (bj ag (bj af (pF (by show((j:Int)<((l.map ac).length:Int));rw[ll];omega) (bj (av (aF (i:=j) (by omega))) ?_))))
   refine q8 (fun k s=>j+1<=k/\∃ F:FL,s=[.sl (aI F),I (k:Int)]/\KnF l i j k F) l.length (j+1) (by omega) ⟨Nat.le_refl _,F,rfl,hF.mono fun i' j' k' h1 h2 h3 h4=>by omega⟩ (fun k hk s hJ=>?_) (fun s hJ=>?_)
   ·obtain⟨hjk,F,rfl,hF⟩:=hJ
    refine bj (z:=l.map ac) rfl (bj ag (bj af (pF (by show((k:Int)<((l.map ac).length:Int));rw[ll];omega) ?_)))
    refine bj (z:=l.map ac) rfl (bj (z:=i) (by rw[ll];exact aw hi) (bj (dF hi) (bj (z:=l.map ac) rfl (bj (z:=j) (by rw[ll];exact aw hj) (bj (dF hj) (bj (z:=l.map ac) rfl (bj (z:=k) (by rw[ll];exact aw hk) (bj (dF hk) (bj (z:=ac (bv (eE (pt l) i j k))) (MK n (hl _ (cY hi)) (hl _ (cY hj)) (hl _ (cY hk))) ?_)))))))))
    have bt:bd 549755813888 (bv (eE (pt l) i j k)):=kY (gq (lv (P:=pt l) (hl _ (cY hi)) (hl _ (cY hj))) (lv (P:=pt l) (hl _ (cY hi)) (hl _ (cY hk))))
    obtain⟨p,hp⟩:∃ p,bv (eE (pt l) i j k)=p:=⟨_,rfl⟩
    rw[hp] at bt ⊢
    have z0:bd 0 V.zero:=by simp only[bd,V.zero];omega
    have e1:V.zero.sub p=p.neg:=by apply V.ext'<;>simp[V.sub,V.neg,V.zero]
    have e2:V.zero.sub p.neg=p:=by apply V.ext'<;>simp[V.sub,V.neg,V.zero]
    refine q8 (fun t s=>∃ F':FL,s=[.sl (aI F'),I (t:Int),ac (mt p t)]/\FOk l F'/\(∀ f∈F,f∈F')/\(1<=t->eE (pt l) i j k≠V.zero->xG (pt l) l.length p (V.dot p (pt l i))->(p,V.dot p (pt l i))∈F'.map Prod.fst)/\(2<=t->eE (pt l) i j k≠V.zero->xG (pt l) l.length p.neg (V.dot p.neg (pt l i))->(p.neg,V.dot p.neg (pt l i))∈F'.map Prod.fst)) 2 0 (by omega) ⟨F,rfl,hF.fok,fun f hf=>hf,fun h=>by omega,fun h=>by omega⟩ (fun t ht s hJ=>?_) (fun s hJ=>?_)
    ·obtain⟨F',rfl,f1,f2,f3,f4⟩:=hJ
     refine bj ag (bj af (pF (by show((t:Int)<2);omega) (bj (z:=l.map ac) rfl (bj (z:=i) (by rw[ll];exact aw hi) (bj (dF hi) ?_)))))
     have ht':t=0\/t=1:=by omega
     simp only[g0,g1,g2]
     rcases ht' with rfl|rfl
     ·rw[show mt p 0=p from rfl]
      refine CJ (n+2) hl hlen hs f1 (show i<j by omega) (show j<k by omega) hk (m:=p) (.inl hp.symm) (fun F2 k1 k2 k3=>?_)
      refine⟨.inl [.sl (aI F2),I ((0+1:Nat):Int),ac p.neg],?_,?_⟩
      ·refine aa (z:=ac p.neg) ?_ ?_
       ·have:=Be (n+5) z0 bt (by decide)
        rw[e1] at this
        exact this
       ·exact aa (av Hi) rfl
      ·exact⟨F2,rfl,k1,fun f hf=>k2 f (f2 f hf),fun _=>k3,fun h=>by omega⟩
     ·rw[show mt p 1=p.neg from rfl]
      refine CJ (n+2) hl hlen hs f1 (show i<j by omega) (show j<k by omega) hk (m:=p.neg) (.inr (by rw[hp])) (fun F2 k1 k2 k3=>?_)
      refine⟨.inl [.sl (aI F2),I ((1+1:Nat):Int),ac p],?_,F2,rfl,k1,fun f hf=>k2 f (f2 f hf),fun _ h1 h2=>?_,fun _=>k3⟩
      ·refine aa (z:=ac p) ?_ ?_
       ·have:=Be (n+5) z0 (qL bt) (by decide)
        rw[e2] at this
        exact this
       ·exact aa (av my) rfl
      ·obtain⟨f,hf,e⟩:=List.mem_map.1 (f3 (Nat.le_refl _) h1 h2)
       exact List.mem_map.2 ⟨f,k2 f hf,e⟩
    ·obtain⟨F',rfl,f1,f2,f3,f4⟩:=hJ
     refine⟨.inr (0,[.sl (aI F')]),aa ag (aa af (aM (by decide) rfl)),.inl [.sl (aI F'),I ((k+1:Nat):Int)],aa (av (aF (i:=k) (by omega))) rfl,by omega,F',rfl,f1,fun i' j' k' h1 h2 h3 h4 h5 m h6 h7=>?_⟩
     by_cases e:i'=i/\j'=j/\k'=k
     ·obtain⟨rfl,rfl,rfl⟩:=e
      rw[hp] at h6
      rcases h6 with rfl|rfl
      ·exact f3 (by omega) h5 h7
      ·exact f4 (by omega) h5 h7
     ·obtain⟨f,hf,e⟩:=List.mem_map.1 (hF.all i' j' k' h1 h2 h3 (by omega) h5 m h6 h7)
      exact List.mem_map.2 ⟨f,f2 f hf,e⟩
   ·obtain⟨hjk,F,rfl,hF⟩:=hJ
    refine⟨.inr (0,[.sl (aI F)]),?_,.inl [.sl (aI F),I ((j+1:Nat):Int)],aa (av (aF (i:=j) (by omega))) rfl,by omega,F,rfl,hF.mono fun i' j' k' h1 h2 h3 h4=>by omega⟩
    exact aa (z:=l.map ac) rfl (aa ag (aa af (aM (by show ¬ ((l.length:Int)<((l.map ac).length:Int));rw[ll];omega) rfl)))
  ·obtain⟨hij,F,rfl,hF⟩:=hJ
   refine⟨.inr (0,[.sl (aI F)]),?_,.inl [.sl (aI F),I ((i+1:Nat):Int)],aa (av (aF (i:=i) (by omega))) rfl,F,rfl,hF.mono fun i' j' k' h1 h2 h3 h4=>by omega⟩
   exact aa (z:=l.map ac) rfl (aa ag (aa af (aM (by show ¬ ((l.length:Int)<((l.map ac).length:Int));rw[ll];omega) rfl)))
 ·obtain⟨F,rfl,hF⟩:=hJ
  refine⟨.inr (0,[.sl (aI F)]),?_,.sl (aI F),rfl,F,hF,rfl⟩
  exact aa (z:=l.map ac) rfl (aa ag (aa af (aM (by show ¬ ((l.length:Int)<((l.map ac).length:Int));rw[ll];omega) rfl)))
end Go.Proofs.YtjjjkojfijpeeaaGreat.Sy
end
section
set_option linter.unusedVariables false
namespace Go.Proofs.YtjjjkojfijpeeaaGreat.Sy
open Go Go.Proofs Go.Proofs.YtjjjkojfijpeeaaGreat.Geo
theorem bq(l:List V):(l.map ac).length=l.length:=List.length_map ..
theorem Pd(n:Nat)(a b:List V)(ha:a.length<=1000000):cA (n+1) 13 [aP a,aP b]=some (.bool (decide (a=b))):=by
 rw[PL]
 unfold Jq
 refine aa (z:=a.map ac) rfl (aa (z:=b.map ac) rfl ?_)
 rw[bq,bq,cb]
 by_cases hab:a.length=b.length
 ·rw[decide_eq_true hab]
  refine aa (z:=false) rfl ?_
  rw[if_neg (by decide)]
  refine be (fun i s=>s=[I (i:Int)]/\a.take i=b.take i) a.length 0 (Nat.zero_le _) ⟨rfl,by simp⟩ (fun i hi s hJ=>?_) (fun s hJ=>?_)
  ·obtain⟨rfl,hz⟩:=hJ
   have hib:i<b.length:=by omega
   have pre:∀ z,(Option.bind (D.truth (D.bool (!(D.beq (ac (a.getD i V.zero)) (ac (b.getD i V.zero)))))) fun b14=>
     if b14 then(some (Sum.inr (0,[(D.bool false)]))) else(Option.bind (D.bin .add (I (i:Int)) (D.int .i64 1)) fun x15=>some (Sum.inl [x15])))=some z ->
     (Option.bind (D.asSl (aP a)) fun l5=>Option.bind (D.bin .lss (I (i:Int)) (D.int .i64 (List.length l5))) fun x6=>Option.bind (D.truth x6) fun b7=>
     if b7 then(Option.bind (D.asSl (aP a)) fun l8=>Option.bind (D.idx (I (i:Int)) (List.length l8)) fun i9=>Option.bind (l8[i9]?) fun x10=>Option.bind (D.asSl (aP b)) fun l11=>Option.bind (D.idx (I (i:Int)) (List.length l11)) fun my=>Option.bind (l11[my]?) fun x13=>
     Option.bind (D.truth (D.bool (!(D.beq x10 x13)))) fun b14=>
     if b14 then(some (Sum.inr (0,[(D.bool false)]))) else(Option.bind (D.bin .add (I (i:Int)) (D.int .i64 1)) fun x15=>some (Sum.inl [x15]))) else(some (Sum.inr (1,[]):Sum (List D) (Nat×List D))))=some z:=fun z hz=>
    aa (z:=a.map ac) rfl (aa ag (aa af (aJ (by show((i:Int)<((a.map ac).length:Int));rw[bq];omega) (aa (z:=a.map ac) rfl (aa (z:=i) (by rw[bq];exact aw hi) (aa (dF hi) (aa (z:=b.map ac) rfl (aa (z:=i) (by rw[bq];exact aw hib) (aa (dF hib) hz)))))))))
   rw[kb] at pre
   by_cases he:a.getD i V.zero=b.getD i V.zero
   ·left
    refine⟨[I ((i+1:Nat):Int)],pre _ ?_,rfl,?_⟩
    ·rw[decide_eq_true he]
     refine aa (z:=false) rfl ?_
     rw[if_neg (by decide)]
     exact aa (av (aF (i:=i) (by omega))) rfl
    ·rw[List.take_succ_eq_append_getElem hi,List.take_succ_eq_append_getElem hib,hz]
     simp only[List.getD,hi,hib,List.getElem?_eq_getElem,Option.getD_some] at he
     rw[he]
   ·right
    refine⟨(0,[.bool false]),pre _ ?_,?_⟩
    ·rw[decide_eq_false he];rfl
    ·rw[decide_eq_false (fun e=>he (by rw[e]))];rfl
  ·obtain⟨rfl,hz⟩:=hJ
   refine⟨(1,[]),?_,?_⟩
   ·exact aa (z:=a.map ac) rfl (aa ag (aa af (aM (by show ¬ ((a.length:Int)<((a.map ac).length:Int));rw[bq];omega) rfl)))
   ·rw[List.take_length,hab,List.take_length] at hz
    rw[decide_eq_true hz];rfl
 ·rw[decide_eq_false hab,decide_eq_false (fun e=>hab (by rw[e]))]
  rfl
instance decBd (k:Int) (v:V):Decidable (bd k v):=by unfold bd;exact inferInstance
def mZ(v:V):Nat->Int
 | 0=>v.x
 | 1=>v.y
 | _=>v.z
theorem Bn(v:V){t:Nat}(h:t<3):D.fld (ac v) t=some (I (mZ v t)):=by
 have:t=0\/t=1\/t=2:=by omega
 rcases this with rfl|rfl|rfl<;>rfl
theorem zD{v:V}:bd MV v↔∀ t,t<3->¬ (mZ v t>262144)/\¬ (mZ v t < -262144):=by
 constructor
 ·intro h t ht
  have:t=0\/t=1\/t=2:=by omega
  simp only[bd,MV] at h
  rcases this with rfl|rfl|rfl<;>simp only[mZ]<;>omega
 ·intro h
  have h0:=h 0 (by decide);have h1:=h 1 (by decide);have h2:=h 2 (by decide)
  simp only[mZ] at h0 h1 h2
  simp only[bd,MV];omega
def iO(F:FL)(i:Nat):Bool:=F.any fun f=>f.2.any fun x=>decide (x=i)
def dq(S:List V)(F:FL)(k:Nat):List V:=((List.range k).filter (iO F)).map (pt S)
theorem yx(S:List V)(F:FL)(k:Nat):dq S F (k+1)=if iO F k then dq S F k++[pt S k] else dq S F k:=by
 unfold dq
 rw[List.range_succ,List.filter_append]
 by_cases h:iO F k=true<;>simp[h]
theorem ta(S:List V)(F:FL)(k:Nat):(dq S F k).length<=k:=by
 unfold dq;rw[List.length_map];exact Nat.le_trans (List.length_filter_le _ _) (by simp)
def yn(e:Int):D:=.st [.st [.sl []],I e]
def ze(S:List V)(F:FL):D:=if F.length=0 then yn 120 else if F.length>64 then yn 2 else .st [.st [aP (dq S F S.length)],I 0]
theorem Fb(n:Nat){l:List V}(h:64<l.length):cA (n+1) 12 [aP l]=some (yn 2):=by
 rw[If]
 unfold Hk
 exact aa (z:=l.map ac) rfl (aa dV (aa af (aJ (by show((l.map ac).length:Int)>64;rw[bq];omega) rfl)))
theorem GO{l:List V}{i:Nat}(hi:i<l.length){α:Type}{k:Nat×List D->Option α}{y:α}(hy:k (if bd MV (l.getD i V.zero) then(1,[.sl [],I 0]) else(0,[.sl [],I 1]))=some y) :
  Option.bind (bc (fun(v8:List D)=>
 Option.bind (D.bin .lss (gx v8 0) (D.int .i64 3)) fun x9=>
 Option.bind (D.truth x9) fun b10=>
 if b10 then(Option.bind (D.asSl (aP l)) fun l11=>
 Option.bind (D.idx (I (i:Int)) (List.length l11)) fun my=>
 Option.bind (l11[my]?) fun x13=>
 Option.bind (D.idx (gx v8 0) 3) fun i14=>
 Option.bind (D.fld x13 i14) fun x15=>
 Option.bind (D.bin .gtr x15 (D.int .i64 262144)) fun x16=>
 Option.bind (D.truth x16) fun b17=>
 Option.bind (if b17 then(some true) else(Option.bind (D.asSl (aP l)) fun l18=>
 Option.bind (D.idx (I (i:Int)) (List.length l18)) fun i19=>
 Option.bind (l18[i19]?) fun x20=>
 Option.bind (D.idx (gx v8 0) 3) fun i21=>
 Option.bind (D.fld x20 i21) fun x22=>
 Option.bind (D.bin .lss x22 (D.int .i64 (-262144))) fun x23=>
 D.truth x23)) fun b24=>
 Option.bind (D.truth (D.bool b24)) fun b25=>
 if b25 then(some (Sum.inr (0,[(D.sl []),(D.int .i64 1)]))) else(Option.bind (D.bin .add (gx v8 0) (D.int .i64 1)) fun x26=>
 some (Sum.inl [x26,(D.sl (D.els (gx v8 1))),(gx v8 2)]))) else(some (Sum.inr (1,[(D.sl (D.els (gx v8 1))),(gx v8 2)])))) [(D.int .i64 0),.sl [],I 0]) k=some y:=by
 refine cT (fun t s=>s=[I (t:Int),.sl [],I 0]/\∀ t',t'<t->¬ (mZ (l.getD i V.zero) t'>262144)/\¬ (mZ (l.getD i V.zero) t' < -262144)) 3 0 (by decide) ⟨rfl,fun t' h=>by omega⟩ (fun t ht s hJ=>?_) (fun s hJ=>?_)
 ·obtain⟨rfl,hz⟩:=hJ
  have hf:=Bn (l.getD i V.zero) ht
  have ix:D.idx (I (t:Int)) 3=some t:=aw ht
  have pre:∀ z,(if decide (mZ (l.getD i V.zero) t>262144\/mZ (l.getD i V.zero) t < -262144)=true then(some (Sum.inr (0,[(D.sl []),(D.int .i64 1)]))) else(Option.bind (D.bin .add (I (t:Int)) (D.int .i64 1)) fun x26=>some (Sum.inl [x26,.sl [],I 0])))=some z->_:=fun(z:Sum (List D) (Nat×List D)) hz'=>
   aa (g:=fun x9=>Option.bind (D.truth x9) fun b10=>if b10 then(Option.bind (D.asSl (aP l)) fun l11=>Option.bind (D.idx (I (i:Int)) (List.length l11)) fun my=>Option.bind (l11[my]?) fun x13=>Option.bind (D.idx (I (t:Int)) 3) fun i14=>Option.bind (D.fld x13 i14) fun x15=>Option.bind (D.bin .gtr x15 (D.int .i64 262144)) fun x16=>Option.bind (D.truth x16) fun b17=>
    Option.bind (if b17 then(some true) else(Option.bind (D.asSl (aP l)) fun l18=>Option.bind (D.idx (I (i:Int)) (List.length l18)) fun i19=>Option.bind (l18[i19]?) fun x20=>Option.bind (D.idx (I (t:Int)) 3) fun i21=>Option.bind (D.fld x20 i21) fun x22=>Option.bind (D.bin .lss x22 (D.int .i64 (-262144))) fun x23=>D.truth x23)) fun b24=>
    Option.bind (D.truth (D.bool b24)) fun b25=>
    if b25 then(some (Sum.inr (0,[(D.sl []),(D.int .i64 1)]))) else(Option.bind (D.bin .add (I (t:Int)) (D.int .i64 1)) fun x26=>some (Sum.inl [x26,.sl [],I 0]))) else(some (Sum.inr (1,[.sl [],I 0]))))
    (ag (a:=(t:Int)) (b:=3)) (y:=z) (aa af (aJ (by omega) (aa (z:=l.map ac) rfl (aa (z:=i) (by rw[bq];exact aw hi) (aa (dF hi) (aa ix (aa hf (aa dV (aa af (aa (z:=decide (mZ (l.getD i V.zero) t>262144\/mZ (l.getD i V.zero) t < -262144)) (by
     by_cases h1:mZ (l.getD i V.zero) t>262144
     ·refine aJ h1 ?_
      rw[decide_eq_true (.inl h1)]
     ·refine aM h1 (aa (z:=l.map ac) rfl (aa (z:=i) (by rw[bq];exact aw hi) (aa (dF hi) (aa ix (aa hf (aa ag ?_))))))
      rw[af];congr 1;rw[decide_eq_decide];exact⟨.inr,fun h=>h.resolve_left h1⟩) (aa af hz')))))))))))
  by_cases hb:mZ (l.getD i V.zero) t>262144\/mZ (l.getD i V.zero) t < -262144
  ·right
   refine⟨_,pre _ (aJ hb rfl),?_⟩
   rw[if_neg (fun h=>by have:=zD.1 h t ht;omega)] at hy
   exact hy
  ·left
   refine⟨[I ((t+1:Nat):Int),.sl [],I 0],pre _ (aM hb (aa (av (aF (i:=t) (by omega))) rfl)),rfl,fun t' ht'=>?_⟩
   by_cases e:t'=t
   ·subst e;omega
   ·exact hz t' (by omega)
 ·obtain⟨rfl,hz⟩:=hJ
  refine⟨(1,[.sl [],I 0]),aa ag (aa af (aM (by decide) rfl)),?_⟩
  rw[if_pos (zD.2 hz)] at hy
  exact hy
theorem Fs(n:Nat){l:List V}(hlen:l.length<=64)(hb:¬ ∀ x∈l,bd MV x):cA (n+1) 12 [aP l]=some (yn 1):=by
 rw[If]
 unfold Hk
 refine aa (z:=l.map ac) rfl (aa dV (aa af (aM (by show ¬ ((l.map ac).length:Int)>64;rw[bq];omega) ?_)))
 refine be (fun i s=>s=[I (i:Int),.sl [],I 0]/\∀ x∈l.take i,bd MV x) l.length 0 (Nat.zero_le _) ⟨rfl,by simp⟩ (fun i hi s hJ=>?_) (fun s hJ=>?_)
 ·obtain⟨rfl,hz⟩:=hJ
  by_cases hx:bd MV (l.getD i V.zero)
  ·left
   refine⟨[I ((i+1:Nat):Int),.sl [],I 0],?_,rfl,fun x hx'=>?_⟩
   ·refine aa (z:=l.map ac) rfl (aa ag (aa af (aJ (by show((i:Int)<((l.map ac).length:Int));rw[bq];omega) (GO hi ?_))))
    rw[if_pos hx,if_neg (show ¬ (1:Nat)=0 by decide)]
    exact aa (av (aF (i:=i) (by omega))) rfl
   ·rw[List.take_succ_eq_append_getElem hi] at hx'
    rcases List.mem_append.1 hx' with h|h
    ·exact hz x h
    ·rw[List.mem_singleton.1 h];simpa [List.getD,hi] using hx
  ·right
   refine⟨(0,[.sl [],I 1]),?_,rfl⟩
   refine aa (z:=l.map ac) rfl (aa ag (aa af (aJ (by show((i:Int)<((l.map ac).length:Int));rw[bq];omega) (GO hi ?_))))
   rw[if_neg hx];rfl
 ·obtain⟨rfl,hz⟩:=hJ
  rw[List.take_length] at hz
  exact absurd hz hb
theorem Cy(n:Nat){l:List V}(hlen:l.length<=64)(hl:∀ x∈l,bd MV x){F:FL}(hpl:∀ f∈F,f.2.length<=1000000)(hFl:F.length<=3000000)(h48:cA (n+2) 48 [aP (dN l)]=some (.sl (aI F))):cA (n+3) 12 [aP l]=some (ze (dN l) F):=by
 rw[If]
 unfold Hk
 refine aa (z:=l.map ac) rfl (aa dV (aa af (aM (by show ¬ ((l.map ac).length:Int)>64;rw[bq];omega) ?_)))
 refine be (fun i s=>s=[I (i:Int),.sl [],I 0]) l.length 0 (Nat.zero_le _) rfl (fun i hi s hJ=>?_) (fun s hJ=>?_)
 ·subst hJ
  left
  refine⟨[I ((i+1:Nat):Int),.sl [],I 0],?_,rfl⟩
  refine aa (z:=l.map ac) rfl (aa ag (aa af (aJ (by show((i:Int)<((l.map ac).length:Int));rw[bq];omega) (GO hi ?_))))
  rw[if_pos (hl _ (cY hi)),if_neg (show ¬ (1:Nat)=0 by decide)]
  exact aa (av (aF (i:=i) (by omega))) rfl
 ·subst hJ
  refine⟨(1,[.sl [],I 0]),aa (z:=l.map ac) rfl (aa ag (aa af (aM (by show ¬ ((l.length:Int)<((l.map ac).length:Int));rw[bq];omega) rfl))),?_⟩
  rw[if_neg (show ¬ (1:Nat)=0 by decide)]
  have hSl:=Nat.le_trans (mT l) hlen
  refine aa (Oe n l (by omega)) (aa h48 (aa (z:=aI F) rfl ?_))
  obtain⟨S,hS⟩:∃ S,dN l=S:=⟨_,rfl⟩
  rw[hS] at hSl ⊢
  rw[aW,show D.beq (D.int .i64 (F.length:Nat)) (D.int .i64 0)=decide (F.length=0) from cb F.length 0]
  refine aa af ?_
  unfold ze
  by_cases h0:F.length=0
  ·refine aJ h0 ?_
   rw[if_pos h0];rfl
  refine aM h0 (aa (z:=aI F) rfl (aa dV (aa af ?_)))
  rw[if_neg h0]
  by_cases h64:F.length>64
  ·refine aJ (by rw[aW];omega) ?_
   rw[if_pos h64];rfl
  refine aM (by rw[aW];omega) ?_
  rw[if_neg h64]
  refine be (fun i s=>s=[I (i:Int),.sl [],I 0,aP (dq S F i),I 0]) S.length 0 (Nat.zero_le _) rfl (fun i hi s hJ=>?_) (fun s hJ=>?_)
  ·subst hJ
   left
   refine⟨[I ((i+1:Nat):Int),.sl [],I 0,aP (dq S F (i+1)),I 0],?_,rfl⟩
   have hvl:=ta S F i
   refine aa (z:=S.map ac) rfl (aa ag (aa af (aJ (by show((i:Int)<((S.map ac).length:Int));rw[bq];omega) ?_)))
   refine aa (z:=(0,[.sl [],I 0,aP (dq S F (i+1)),I 0])) ?_ (aa (av (aF (i:=i) (by omega))) rfl)
   refine cT (fun k s=>s=[.bool (iO (F.take k) i),I (k:Int),.sl [],I 0,aP (dq S F i),I 0]) F.length 0 (Nat.zero_le _) rfl (fun k hk s hJ=>?_) (fun s hJ=>?_)
   ·subst hJ
    left
    refine⟨[.bool (iO (F.take (k+1)) i),I ((k+1:Nat):Int),.sl [],I 0,aP (dq S F i),I 0],?_,rfl⟩
    have hpk:=hpl F[k] (List.getElem_mem hk)
    have e1:iO (F.take (k+1)) i=(iO (F.take k) i||F[k].2.any fun x=>decide (x=i)):=by
     unfold iO;rw[List.take_succ_eq_append_getElem hk,List.any_append];simp
    refine aa (z:=aI F) rfl (aa ag (aa af (aJ (by show((k:Int)<((aI F).length:Int));rw[aW];omega) ?_)))
    have fp:∀ {β:Type} {g:List D->Option β} {y:β},g (ab F[k].2)=some y->(Option.bind (D.asSl (.sl (aI F))) fun l46=>Option.bind (D.idx (I (k:Int)) (List.length l46)) fun i47=>Option.bind (l46[i47]?) fun x48=>Option.bind (D.fld x48 2) fun x49=>Option.bind (D.asSl x49) g)=some y:=fun h=>
     aa (z:=aI F) rfl (aa (z:=k) (by rw[aW];exact aw hk) (aa (fk hk) (aa (z:=.sl (ab F[k].2)) rfl (aa (z:=ab F[k].2) rfl h))))
    rw[e1]
    generalize iO (F.take k) i=b0
    obtain⟨p,hp⟩:∃ p,F[k].2=p:=⟨_,rfl⟩
    rw[hp] at hpk fp ⊢
    refine cT (fun j s=>s=[.bool (b0||(p.take j).any fun x=>decide (x=i)),I (j:Int),.sl [],I 0,aP (dq S F i),I 0]) p.length 0 (Nat.zero_le _) (by rw[List.take_zero,List.any_nil,Bool.or_false];rfl) (fun j hj s hJ=>?_) (fun s hJ=>?_)
    ·subst hJ
     left
     refine⟨[.bool (b0||(p.take (j+1)).any fun x=>decide (x=i)),I ((j+1:Nat):Int),.sl [],I 0,aP (dq S F i),I 0],?_,rfl⟩
     refine fp (aa ag (aa af (aJ (by show((j:Int)<((ab p).length:Int));rw[aj];omega) (aa af (aa (z:=b0||(p.take (j+1)).any fun x=>decide (x=i)) ?_ (aa (av (aF (i:=j) (by omega))) rfl))))))
     rw[List.take_succ_eq_append_getElem hj,List.any_append]
     generalize (p.take j).any (fun x=>decide (x=i))=b1
     cases hb:(b0||b1)
     ·rw[<-Bool.or_assoc,hb,if_neg (by decide)]
      refine fp (aa (z:=j) (by rw[aj];exact aw hj) (aa (lT hj) ?_))
      have:D.beq (I ((p.getD j 0:Nat):Int)) (I (i:Int))=decide (p[j]=i):=by rw[cb];simp[List.getD,hj]
      show D.truth (D.bool (D.beq (I ((p.getD j 0:Nat):Int)) (I (i:Int))))=_
      rw[this,af];simp
     ·rw[<-Bool.or_assoc,hb];rfl
    ·subst hJ
     rw[List.take_length]
     refine⟨(0,[.bool (b0||p.any fun x=>decide (x=i)),.sl [],I 0,aP (dq S F i),I 0]),fp (aa ag (aa af (aM (by show ¬ ((p.length:Int)<((ab p).length:Int));rw[aj];omega) rfl))),?_⟩
     exact aa (av (aF (i:=k) (by omega))) rfl
   ·subst hJ
    rw[List.take_length]
    refine⟨(0,[.bool (iO F i),.sl [],I 0,aP (dq S F i),I 0]),?_,?_⟩
    ·exact aa (z:=aI F) rfl (aa ag (aa af (aM (by show ¬ ((F.length:Int)<((aI F).length:Int));rw[aW];omega) rfl)))
    ·rw[yx]
     refine aa (z:=iO F i) af ?_
     cases iO F i
     ·rfl
     ·rw[if_pos rfl,if_pos rfl]
      refine aa (z:=S.map ac) rfl (aa (z:=i) (by rw[bq];exact aw hi) (aa (dF hi) ?_))
      rw[if_pos (by show((dq S F i).map ac).length+1<=1073741824;rw[bq];omega)]
      have:D.sl ((dq S F i).map ac++[ac (S.getD i V.zero)])=aP (dq S F i++[pt S i]):=by simp[aP,pt]
      rw[<-this];rfl
  ·subst hJ
   refine⟨(0,[.sl [],I 0,aP (dq S F S.length),I 0]),?_,rfl⟩
   exact aa (z:=S.map ac) rfl (aa ag (aa af (aM (by show ¬ ((S.length:Int)<((S.map ac).length:Int));rw[bq];omega) rfl)))
theorem vP{l:List V}(hs:BO l){m:V}{d:Int}(hF:IsF (pt l) l.length m d){p:List Nat}(hp:bu (pt l) l.length m d p):p.Nodup/\p.length<=l.length/\0<p.length/\∀ x∈p,x<l.length:=by
 obtain⟨p',hp',hnd,hmem⟩:=hF.poly hs
 have e:=bu.eq hs hF hp hp'
 subst e
 obtain⟨a,_,ha,hea,_,_⟩:=hF.head hs
 have hm:a∈p:=(hmem a).2 ⟨ha,hea⟩
 refine⟨hnd,?_,List.length_pos_iff.2 (fun e=>by rw[e] at hm;cases hm),fun x hx=>(aL.1 ((hmem x).1 hx).1).1⟩
 have:=List.Nodup.length_le_of_subset (l₂:=List.range l.length) hnd fun x hx=>List.mem_range.2 (aL.1 ((hmem x).1 hx).1).1
 simpa using this
theorem Ew{l:List V}(hl:∀ x∈l,bd MV x):∀ x∈dN l,bd MV x:=fun x hx=>hl x (vz.1 hx)
theorem O5(n:Nat){l:List V}(hlen:l.length<=100):(64<l.length/\cA (n+8) 12 [aP l]=some (yn 2))\/(l.length<=64/\(¬ ∀ x∈l,bd MV x)/\cA (n+8) 12 [aP l]=some (yn 1)) ∨
  (l.length<=64/\(∀ x∈l,bd MV x)/\∃ F:FL,KnF (dN l) (dN l).length 0 0 F/\cA (n+8) 12 [aP l]=some (ze (dN l) F)):=by
 by_cases h64:64<l.length
 ·exact .inl ⟨h64,Fb (n+7) h64⟩
 ·by_cases hb:∀ x∈l,bd MV x
  ·right;right
   refine⟨by omega,hb,?_⟩
   have hsl:=mT l
   have hS:=Bz (pT l)
   obtain⟨F,h1,h2⟩:=NF n (Ew hb) (by omega) hS
   refine⟨F,h1,Cy (n+5) (by omega) hb (fun f hf=>?_) (Nat.le_trans (h1.fok.len (by omega)) (by decide)) h2⟩
   obtain⟨q1,q2⟩:=h1.fok.ok f hf
   have:=(vP hS q1 q2).2.1
   omega
  ·exact .inr (.inl ⟨by omega,hb,Fs (n+7) (by omega) hb⟩)
theorem AS(S:List V)(F:FL):(dq S F S.length).Sublist S:=by
 have h1:((List.range S.length).map (pt S))=S:=by
  apply List.ext_getElem?
  intro i
  by_cases h:i<S.length
  ·rw[List.getElem?_map,List.getElem?_range h];simp[pt,List.getD,h]
  ·rw[List.getElem?_map,show(List.range S.length)[i]?=none by simp;omega];simp;omega
 have h2:(dq S F S.length).Sublist ((List.range S.length).map (pt S)):=List.Sublist.map _ List.filter_sublist
 rw[h1] at h2;exact h2
theorem Qz(n:Nat){l:List V}(hlen:l.length<=100):(∃ e:Int,cA (n+9) 15 [cd l]=some (I e)/\e≠0)\/(cA (n+9) 15 [cd l]=some (I 0)/\l.length<=64/\(∀ x∈l,bd MV x)/\∃ F:FL,KnF (dN l) (dN l).length 0 0 F/\F.length≠0/\F.length<=64/\dq (dN l) F (dN l).length=l):=by
 rw[QN]
 unfold IT
 have err:∀ e:Int,e≠0->cA (n+8) 12 [aP l]=some (yn e)->∃ e:Int,(Option.bind (D.get (cd l) [0]) fun x1=>
 Option.bind (cA (n+8) 12 [x1]) fun r2=>
 Option.bind (D.get r2 [1]) fun x3=>
 Option.bind (D.truth (D.bool (D.beq x3 (D.int .i64 0)))) fun b4=>
 Option.bind (if b4 then(Option.bind (D.get r2 [0,0]) fun x5=>
 Option.bind (D.get (cd l) [0]) fun x6=>
 Option.bind (cA (n+8) 13 [x5,x6]) fun r7=>
 Option.bind (D.un .not r7) fun x8=>
 D.truth x8) else(some false)) fun b9=>
 Option.bind (D.truth (D.bool b9)) fun b10=>
 if b10 then(some (D.int .i64 3)) else(Option.bind (D.get r2 [1]) fun x11=>
 some x11))=some (I e)/\e≠0:=fun e he h=>⟨e,by
  refine aa (z:=aP l) rfl (aa h (aa (z:=I e) rfl (aa (z:=false) ?_ (aa (z:=false) rfl (aa (z:=false) rfl rfl)))))
  rw[show D.beq (I e) (D.int .i64 0)=decide (e=0) from ca,decide_eq_false he];rfl,he⟩
 rcases O5 n hlen with⟨h1,h2⟩|⟨h0,h1,h2⟩|⟨h0,h1,F,h2,h3⟩
 ·exact .inl (err 2 (by decide) h2)
 ·exact .inl (err 1 (by decide) h2)
 ·unfold ze at h3
  by_cases f0:F.length=0
  ·rw[if_pos f0] at h3;exact .inl (err 120 (by decide) h3)
  ·rw[if_neg f0] at h3
   by_cases f1:F.length>64
   ·rw[if_pos f1] at h3;exact .inl (err 2 (by decide) h3)
   ·rw[if_neg f1] at h3
    have hvl:=ta (dN l) F (dN l).length
    have hsl:=mT l
    have h13:=Pd (n+7) (dq (dN l) F (dN l).length) l (by omega)
    by_cases hv:dq (dN l) F (dN l).length=l
    ·rw[decide_eq_true hv] at h13
     refine .inr ⟨?_,h0,h1,F,h2,f0,by omega,hv⟩
     refine aa (z:=aP l) rfl (aa h3 (aa (z:=I 0) rfl (aa (z:=true) rfl (aa (z:=false) ?_ (aa (z:=false) rfl rfl)))))
     rw[if_pos rfl]
     exact aa (z:=aP (dq (dN l) F (dN l).length)) rfl (aa (z:=aP l) rfl (aa h13 rfl))
    ·rw[decide_eq_false hv] at h13
     refine .inl ⟨3,?_,by decide⟩
     refine aa (z:=aP l) rfl (aa h3 (aa (z:=I 0) rfl (aa (z:=true) rfl (aa (z:=true) ?_ (aa (z:=true) rfl rfl)))))
     rw[if_pos rfl]
     exact aa (z:=aP (dq (dN l) F (dN l).length)) rfl (aa (z:=aP l) rfl (aa h13 rfl))
end Go.Proofs.YtjjjkojfijpeeaaGreat.Sy
end
section
set_option linter.unusedVariables false
namespace Go.Proofs.YtjjjkojfijpeeaaGreat.Sy
open Go Go.Proofs Go.Proofs.YtjjjkojfijpeeaaGreat.Geo
theorem AF(n:Nat){x y:Int}(hx:In x)(hy:In y)(h:In (x*y)):cA (n+3) 61 [ah x,ah y]=some (ah (x*y)):=by
 have:=Qf n (a:=some x) (b:=some y) (dm hx) (dm hy)
 rwa [show GX (some x) (some y)=some (x*y) from fc h] at this
theorem uD(n:Nat){x y:Int}(hx:In x)(hy:In y)(h:In (x+y)):cA (n+4) 57 [ah x,ah y]=some (ah (x+y)):=by
 have:=QZ n (a:=some x) (b:=some y) (dm hx) (dm hy)
 rwa [show Gg (some x) (some y)=some (x+y) from fc h] at this
theorem xn{α:Type}{A B y:α}(h:A=y):(if true=true then A else B)=y:=h
theorem HM(n:Nat){v:V}(h1:inR v.x)(h2:inR v.y)(h3:inR v.z):cA (n+3) 148 [ac v]=some (mK v):=by
 rw[Nk];unfold ED
 obtain⟨Z,hZ⟩:∃ Z,(D.st [(D.bool false),(D.bool false),(aB aU)])=Z:=⟨_,rfl⟩
 rw[hZ]
 refine cD (s':=[I 1,.st [ah v.x,Z,Z]]) ?_ (cD (s':=[I 2,.st [ah v.x,ah v.y,Z]]) ?_ (cD (s':=[I 3,mK v]) ?_ (iS (r:=(0,[mK v])) ?_ rfl)))
 ·exact aa (z:=.bool true) rfl (aa (z:=true) rfl (xn (aa (z:=0) rfl (aa (z:=I v.x) rfl (aa (B0 n h1) (aa (z:=0) rfl (aa (z:=.st [ah v.x,Z,Z]) rfl (aa (z:=I 1) rfl rfl))))))))
 ·exact aa (z:=.bool true) rfl (aa (z:=true) rfl (xn (aa (z:=1) rfl (aa (z:=I v.y) rfl (aa (B0 n h2) (aa (z:=1) rfl (aa (z:=.st [ah v.x,ah v.y,Z]) rfl (aa (z:=I 2) rfl rfl))))))))
 ·exact aa (z:=.bool true) rfl (aa (z:=true) rfl (xn (aa (z:=2) rfl (aa (z:=I v.z) rfl (aa (B0 n h3) (aa (z:=2) rfl (aa (z:=mK v) rfl (aa (z:=I 3) rfl rfl))))))))
 ·exact aa (z:=.bool false) rfl (aa (z:=false) rfl rfl)
theorem KK(n:Nat){u v:V}(hu:In u.x/\In u.y/\In u.z)(hv:In v.x/\In v.y/\In v.z)(h1:(u.x*v.x).natAbs<=2^100)(h2:(u.y*v.y).natAbs<=2^100)(h3:(u.z*v.z).natAbs<=2^100):cA (n+5) 147 [mK u,mK v]=some (ah (V.dot u v)):=by
 rw[Ly];unfold EA
 have i1:In (u.x*v.x):=gz (by decide) h1
 have i2:In (u.y*v.y):=gz (by decide) h2
 have i3:In (u.z*v.z):=gz (by decide) h3
 have e1:=Int.natAbs_add_le (u.x*v.x) (u.y*v.y)
 have e2:=Int.natAbs_add_le (u.x*v.x+u.y*v.y) (u.z*v.z)
 have j2:In (u.x*v.x+u.y*v.y):=gz (k:=110) (by decide) (by omega)
 have j3:In (V.dot u v):=gz (k:=110) (by decide) (by unfold V.dot;omega)
 have j0:In 0:=fC (gk 0)
 refine aa (B0 (n+2) (gk 0)) ?_
 refine cD (s':=[I 1,ah (u.x*v.x)]) ?_ (cD (s':=[I 2,ah (u.x*v.x+u.y*v.y)]) ?_ (cD (s':=[I 3,ah (V.dot u v)]) ?_ (iS (r:=(0,[ah (V.dot u v)])) ?_ rfl)))
 ·exact aa (z:=.bool true) rfl (aa (z:=true) rfl (xn (aa (z:=0) rfl (aa (z:=ah u.x) rfl (aa (z:=0) rfl (aa (z:=ah v.x) rfl (aa (AF (n+1) hu.1 hv.1 i1) (aa (uD n j0 i1 (by rw[Int.zero_add];exact i1)) (aa (z:=I 1) rfl (by rw[Int.zero_add]))))))))))
 ·exact aa (z:=.bool true) rfl (aa (z:=true) rfl (xn (aa (z:=1) rfl (aa (z:=ah u.y) rfl (aa (z:=1) rfl (aa (z:=ah v.y) rfl (aa (AF (n+1) hu.2.1 hv.2.1 i2) (aa (uD n i1 i2 j2) (aa (z:=I 2) rfl rfl)))))))))
 ·exact aa (z:=.bool true) rfl (aa (z:=true) rfl (xn (aa (z:=2) rfl (aa (z:=ah u.z) rfl (aa (z:=2) rfl (aa (z:=ah v.z) rfl (aa (AF (n+1) hu.2.2 hv.2.2 i3) (aa (uD n j2 i3 j3) (aa (z:=I 3) rfl rfl)))))))))
 ·exact aa (z:=.bool false) rfl (aa (z:=false) rfl rfl)
theorem Q9(n:Nat){u v:V}(hu:bd 1152921504606846976 u)(hv:bd 1152921504606846976 v)(h1:(u.x*v.x).natAbs<=2^100)(h2:(u.y*v.y).natAbs<=2^100)(h3:(u.z*v.z).natAbs<=2^100):cA (n+6) 91 [ac u,ac v]=some (ah (V.dot u v)):=by
 rw[Qv];unfold II
 simp only[bd] at hu hv
 have a1:inR u.x:=by simp only[inR];omega
 have a2:inR u.y:=by simp only[inR];omega
 have a3:inR u.z:=by simp only[inR];omega
 have b1:inR v.x:=by simp only[inR];omega
 have b2:inR v.y:=by simp only[inR];omega
 have b3:inR v.z:=by simp only[inR];omega
 exact aa (HM (n+2) a1 a2 a3) (aa (HM (n+2) b1 b2 b3) (aa (KK n ⟨fC a1,fC a2,fC a3⟩ ⟨fC b1,fC b2,fC b3⟩ h1 h2 h3) rfl))
theorem GY(n:Nat){t:T3}(h:bd MV t.1/\bd MV t.2.1/\bd MV t.2.2):cA (n+6) 117 [ac t.1,ac t.2.1]=some (ac (V.cross t.1 t.2.1))/\cA (n+6) 91 [ac (V.cross t.1 t.2.1),ac t.2.2]=some (ah (gw t)):=by
 have hc:=gq h.1 h.2.1
 have h3:=h.2.2
 refine⟨GL (n+5) h.1 h.2.1 (by decide),?_⟩
 have e:(2:Int)*(MV*MV)=137438953472:=rfl
 rw[e] at hc
 have hm:MV=262144:=rfl
 have key:∀ a b:Int,(-137438953472<=a/\a<=137438953472)->(-MV<=b/\b<=MV)->(a*b).natAbs<=2^100:=fun a b ha hb=>by
  rw[Int.natAbs_mul]
  exact ct (i:=37) (j:=18) (by rw[show(2:Nat)^37=137438953472 from rfl];omega) (by rw[show(2:Nat)^18=262144 from rfl];omega) (by decide)
 refine Q9 n ?_ ?_ (key _ _ hc.1 h3.1) (key _ _ hc.2.1 h3.2.1) (key _ _ hc.2.2 h3.2.2)
 ·simp only[bd] at *;omega
 ·simp only[bd] at *;omega
theorem DI{α:Type}{l:List V}{p:List Nat}{j:Nat}{K:D->Option α}{y:α}(hj:j<p.length)(hk:p.getD j 0<l.length)(h:K (ac (pt l (p.getD j 0)))=some y) :
  (Option.bind (D.asSl (.sl (ab p))) fun l17=>Option.bind (D.idx (I (j:Int)) (List.length l17)) fun i18=>Option.bind (l17[i18]?) fun x19=>Option.bind (D.asSl (aP l)) fun l20=>Option.bind (D.idx x19 (List.length l20)) fun i21=>Option.bind (l20[i21]?) K)=some y:=by
 refine aa (z:=ab p) rfl (aa (tT hj) (aa (lT hj) (aa (z:=l.map ac) rfl (aa (z:=p.getD j 0) (by rw[bq];exact aw hk) (aa (z:=ac (pt l (p.getD j 0))) ?_ h)))))
 generalize p.getD j 0=k at *
 unfold pt
 rw[List.getElem?_map,List.getD_eq_getElem?_getD,List.getElem?_eq_getElem hk];rfl
theorem Mc(n:Nat){l:List V}{F:FL}(hl:∀ x∈l,bd MV x)(hF:FIn l F)(h18:cA (n+9) 18 [cd l]=some (.sl (aI F))):cA (n+10) 23 [cd l]=some (ah (ar gw (cc l F))):=by
 rw[PJ];unfold Jd
 have hFl:=hF.len
 refine aa (B0 (n+7) (gk 0)) (aa h18 (aa (z:=aI F) rfl ?_))
 obtain⟨Z,hZ⟩:∃ Z,(D.st [(D.bool false),(D.bool false),(aB aU)])=Z:=⟨_,rfl⟩
 rw[hZ]
 refine be (fun i s=>s=[I (i:Int),cd l,Z,ah (ar gw (cc l (F.take i)))]) F.length 0 (Nat.zero_le _) (by simp[cc,ar]) (fun i hi s hJ=>?_) (fun s hJ=>?_)
 ·subst hJ
  left
  refine⟨_,?_,rfl⟩
  refine aa ag (aa af (aJ (by show((i:Int)<((aI F).length:Int));rw[aW];omega) ?_))
  refine aa (z:=aI F) rfl (aa (z:=i) (by rw[aW];exact aw hi) (aa (fk hi) ?_))
  have hpart:=fun m (hm:m<=F[i].2.length-2)=>vf hl hF hi hm
  obtain⟨k1,k2,k3⟩:=hF.ok F[i] (List.getElem_mem hi)
  rw[kH l hi]
  generalize F[i]=f at *
  obtain⟨q,p⟩:=f
  simp only at *
  generalize cc l (F.take i)=T at *
  refine cT (fun j s=>s=[I ((j+2:Nat):Int),cd l,Z,ah (ar gw (T++zA l p j))]) (p.length-2) 0 (Nat.zero_le _) (by rw[qB,List.append_nil];rfl) (fun j hj s hJ=>?_) (fun s hJ=>?_)
  ·subst hJ
   left
   refine⟨_,?_,rfl⟩
   have hp1:=hpart j (by omega)
   have hp2:=hpart (j+1) (by omega)
   have b0:=jZ hl (k3 0 (by omega))
   have b1:=jZ hl (k3 (j+1) (by omega))
   have b2:=jZ hl (k3 (j+2) (by omega))
   obtain⟨v1,v2⟩:=GY (n+3) (t:=(pt l (p.getD 0 0),pt l (p.getD (j+1) 0),pt l (p.getD (j+2) 0))) ⟨b0,b1,b2⟩
   have hs1:=fP hp1
   have hs2:=fP hp2
   rw[qI,<-List.append_assoc,ki] at hs2 ⊢
   have hv:=kq (t:=(pt l (p.getD 0 0),pt l (p.getD (j+1) 0),pt l (p.getD (j+2) 0))) ⟨b0,b1,b2⟩
   refine aa (z:=.sl (ab p)) rfl (aa (z:=ab p) rfl (aa ag (aa af (aJ (by show(((j+2:Nat):Int)<((ab p).length:Int));rw[aj];omega) ?_))))
   refine aa (z:=aP l) rfl (aa (z:=.sl (ab p)) rfl (DI (j:=0) (by omega) (k3 _ (by omega)) ?_))
   refine aa (z:=aP l) rfl (aa (z:=.sl (ab p)) rfl (aa (iR (a:=j+2) (b:=1) rfl (by omega) (by omega)) (DI (j:=j+1) (by omega) (k3 _ (by omega)) ?_)))
   refine aa (z:=aP l) rfl (aa (z:=.sl (ab p)) rfl (DI (j:=j+2) (by omega) (k3 _ (by omega)) ?_))
   exact aa v1 (aa v2 (aa (uD (n+5) (gz (by decide) hs1) (gz (by decide) hv) (gz (by decide) hs2)) (aa (aZ (a:=j+2) (b:=1) (by omega)) rfl)))
  ·subst hJ
   refine⟨_,aa (z:=.sl (ab p)) rfl (aa (z:=ab p) rfl (aa ag (aa af (aM (by show ¬ (((p.length-2+2:Nat):Int)<((ab p).length:Int));rw[aj];omega) rfl)))),?_⟩
   exact aa (aZ (a:=i) (b:=1) (by omega)) rfl
 ·subst hJ
  refine⟨_,aa ag (aa af (aM (by show ¬ ((F.length:Int)<((aI F).length:Int));rw[aW];omega) rfl)),?_⟩
  rw[List.take_length];rfl
end Go.Proofs.YtjjjkojfijpeeaaGreat.Sy
end
section
set_option linter.unusedVariables false
namespace Go.Proofs.YtjjjkojfijpeeaaGreat.Sy
open Go Go.Proofs Go.Proofs.YtjjjkojfijpeeaaGreat.Geo
def gJ(f:Nat->Int):D:=.st [ah (f 0),ah (f 1),ah (f 2)]
def dT(f:Nat->Nat->Int):D:=.st [gJ (f 0),gJ (f 1),gJ (f 2)]
def ga(f:Nat->Rat):D:=.st [bw (f 0),bw (f 1),bw (f 2)]
theorem GZ{k:Nat}(h:k<3):k=0\/k=1\/k=2:=by omega
theorem gg{k:Nat}(h:k<3)(v:V):D.get (ac v) [k]=some (I (cmp k v)):=by rcases GZ h with rfl|rfl|rfl<;>rfl
theorem G9{k:Nat}(h:k<3)(f:Nat->Int):D.get (gJ f) [k]=some (ah (f k)):=by rcases GZ h with rfl|rfl|rfl<;>rfl
theorem BH{k:Nat}(h:k<3){f g:Nat->Int}{v:Int}(hg:∀ j,j<3->g j=if j=k then v else f j):D.set (gJ f) [k] (ah v)=some (gJ g):=by
 have g0:=hg 0 (by decide);have g1:=hg 1 (by decide);have g2:=hg 2 (by decide)
 unfold gJ
 rcases GZ h with rfl|rfl|rfl
 ·rw[if_pos rfl] at g0;rw[if_neg (by decide)] at g1;rw[if_neg (by decide)] at g2
  rw[g0,g1,g2];rfl
 ·rw[if_neg (by decide)] at g0;rw[if_pos rfl] at g1;rw[if_neg (by decide)] at g2
  rw[g0,g1,g2];rfl
 ·rw[if_neg (by decide)] at g0;rw[if_neg (by decide)] at g1;rw[if_pos rfl] at g2
  rw[g0,g1,g2];rfl
theorem zU{i k:Nat}(hi:i<3)(hk:k<3)(f:Nat->Nat->Int):D.get (dT f) [i,k]=some (ah (f i k)):=by
 rcases GZ hi with rfl|rfl|rfl<;>rcases GZ hk with rfl|rfl|rfl<;>rfl
theorem EO{i k:Nat}(hi:i<3)(hk:k<3){f g:Nat->Nat->Int}{v:Int}(hg:∀ a b,a<3->b<3->g a b=if a=i/\b=k then v else f a b):D.set (dT f) [i,k] (ah v)=some (dT g):=by
 have e:∀ a,a<3->a≠i->gJ (f a)=gJ (g a):=fun a ha hne=>by
  unfold gJ
  rw[hg a 0 ha (by decide),hg a 1 ha (by decide),hg a 2 ha (by decide),if_neg (fun h=>hne h.1),if_neg (fun h=>hne h.1),if_neg (fun h=>hne h.1)]
 have s:=BH hk (f:=f i) (g:=g i) (v:=v) fun j hj=>by
  rw[hg i j hi hj]
  by_cases h:j=k
  ·rw[if_pos ⟨rfl,h⟩,if_pos h]
  ·rw[if_neg (fun c=>h c.2),if_neg h]
 unfold dT
 rcases GZ hi with rfl|rfl|rfl
 ·rw[<-e 1 (by decide) (by decide),<-e 2 (by decide) (by decide)]
  simp only[D.set,List.getElem?_cons_zero,Option.bind_some,s,List.set_cons_zero]
 ·rw[<-e 0 (by decide) (by decide),<-e 2 (by decide) (by decide)]
  simp only[D.set,List.getElem?_cons_zero,List.getElem?_cons_succ,Option.bind_some,s,List.set_cons_zero,List.set_cons_succ]
 ·rw[<-e 0 (by decide) (by decide),<-e 1 (by decide) (by decide)]
  simp only[D.set,List.getElem?_cons_zero,List.getElem?_cons_succ,Option.bind_some,s,List.set_cons_zero,List.set_cons_succ]
theorem CK:D.st [D.bool false,D.bool false,aB aU]=ah 0:=by rw[fG,cn];rfl
theorem fE{k:Nat}(h:k<3):D.idx (I (k:Int)) 3=some k:=aw h
theorem nl{v:V}(h:bd MV v)(i:Nat):-262144<=cmp i v/\cmp i v<=262144:=by have:=eS h i;omega
theorem eI{x:Int}{k:Nat}(h:x.natAbs<=2^k)(hk:k<=511:=by decide):In x:=gz hk h
theorem Nx(n:Nat){l:List V}{F:FL}(hl:∀ x∈l,bd MV x)(hF:FIn l F)(h18:∀ m,cA (m+8) 18 [cd l]=some (.sl (aI F)))(hV:ar gw (cc l F)≠0) :
  cA (n+1031) 25 [cd l]=some (ga fun i=>Rat.divInt (ar (eV i) (cc l F)) (4*ar gw (cc l F))):=by
 rw[Pk];unfold Jk
 have hFl:=hF.len
 rw[CK]
 refine aa (h18 (n+1022)) (aa (z:=aI F) rfl ?_)
 obtain⟨Z,hZ⟩:∃ Z,(D.st [D.st [ah 0,ah 0],D.st [ah 0,ah 0],D.st [ah 0,ah 0]])=Z:=⟨_,rfl⟩
 rw[hZ]
 refine be (fun i s=>s=[I (i:Int),cd l,Z,gJ fun j=>ar (eV j) (cc l (F.take i))]) F.length 0 (Nat.zero_le _) (by simp[cc,ar];rfl) (fun i hi s hJ=>?_) (fun s hJ=>?_)
 ·subst hJ
  left
  refine⟨_,?_,rfl⟩
  refine aa ag (aa af (aJ (by show((i:Int)<((aI F).length:Int));rw[aW];omega) ?_))
  refine aa (z:=aI F) rfl (aa (z:=i) (by rw[aW];exact aw hi) (aa (fk hi) ?_))
  have hpart:=fun m (hm:m<=F[i].2.length-2)=>vf hl hF hi hm
  obtain⟨k1,k2,k3⟩:=hF.ok F[i] (List.getElem_mem hi)
  rw[kH l hi]
  generalize F[i]=f at *
  obtain⟨q,p⟩:=f
  simp only at *
  generalize cc l (F.take i)=T at *
  refine cT (fun j s=>s=[I ((j+2:Nat):Int),cd l,Z,gJ fun a=>ar (eV a) (T++zA l p j)]) (p.length-2) 0 (Nat.zero_le _) (by rw[qB,List.append_nil];rfl) (fun j hj s hJ=>?_) (fun s hJ=>?_)
  ·subst hJ
   left
   refine⟨_,?_,rfl⟩
   have hp1:=hpart j (by omega)
   have hp2:=hpart (j+1) (by omega)
   have b0:=jZ hl (k3 0 (by omega))
   have b1:=jZ hl (k3 (j+1) (by omega))
   have b2:=jZ hl (k3 (j+2) (by omega))
   obtain⟨v1,v2⟩:=GY (n+1024) (t:=(pt l (p.getD 0 0),pt l (p.getD (j+1) 0),pt l (p.getD (j+2) 0))) ⟨b0,b1,b2⟩
   have hs1:=fun a=>gP a hp1
   have hs2:=fun a=>gP a hp2
   have hv:=kq (t:=(pt l (p.getD 0 0),pt l (p.getD (j+1) 0),pt l (p.getD (j+2) 0))) ⟨b0,b1,b2⟩
   have hm:=fun a=>xK a (t:=(pt l (p.getD 0 0),pt l (p.getD (j+1) 0),pt l (p.getD (j+2) 0))) ⟨b0,b1,b2⟩
   rw[qI,<-List.append_assoc] at hs2 ⊢
   simp only[ki] at hs2 ⊢
   refine aa (z:=.sl (ab p)) rfl (aa (z:=ab p) rfl (aa ag (aa af (aJ (by show(((j+2:Nat):Int)<((ab p).length:Int));rw[aj];omega) ?_))))
   refine aa (z:=aP l) rfl (aa (z:=.sl (ab p)) rfl (DI (j:=0) (by omega) (k3 _ (by omega)) ?_))
   refine aa (z:=aP l) rfl (aa (z:=.sl (ab p)) rfl (aa (iR (a:=j+2) (b:=1) rfl (by omega) (by omega)) (DI (j:=j+1) (by omega) (k3 _ (by omega)) ?_)))
   refine aa (z:=aP l) rfl (aa (z:=.sl (ab p)) rfl (DI (j:=j+2) (by omega) (k3 _ (by omega)) ?_))
   refine aa v1 (aa v2 ?_)
   generalize pt l (p.getD 0 0)=A at *
   generalize pt l (p.getD (j+1) 0)=B at *
   generalize pt l (p.getD (j+2) 0)=C at *
   generalize T++zA l p j=S at *
   refine cT (fun k s=>s=[I (k:Int),cd l,Z,gJ (fun a=>if a<k then ar (eV a) S+eV a (A,B,C) else ar (eV a) S),cd l,j4 q p,.st [ac A,ac B,ac C]]) 3 0 (Nat.zero_le _) rfl (fun k hk s hJ=>?_) (fun s hJ=>?_)
   ·subst hJ
    left
    refine⟨[I ((k+1:Nat):Int),cd l,Z,gJ (fun a=>if a<k+1 then ar (eV a) S+eV a (A,B,C) else ar (eV a) S),cd l,j4 q p,.st [ac A,ac B,ac C]],?_,rfl⟩
    have a0:=nl b0 k;have a1:=nl b1 k;have a2:=nl b2 k
    refine aa ag (aa af (aJ (by show(k:Int)<3;omega) ?_))
    refine aa (fE hk) (aa (show D.get (gJ fun a=>if a<k then ar (eV a) S+eV a (A,B,C) else ar (eV a) S) [k]=_ from G9 hk _) (aa (fE hk) (aa (gg hk A) (aa (fE hk) (aa (gg hk B) ?_)))))
    refine aa (av (by simp only[inR];omega)) (aa (fE hk) (aa (gg hk C) (aa (av (by simp only[inR];omega)) ?_)))
    refine aa (B0 (n+1028) (by simp only[inR];omega)) ?_
    rw[if_neg (Nat.lt_irrefl k)]
    have hsm:=tR (t:=(A,B,C)) ⟨b0,b1,b2⟩ k
    refine aa (AF (n+1027) (eI hv) (eI (k:=20) (Nat.le_trans hsm (by decide))) (eI (hm k))) ?_
    refine aa (uD (n+1026) (eI (hs1 k)) (eI (hm k)) (eI (hs2 k))) ?_
    refine aa (fE hk) (aa (BH hk (f:=fun a=>if a<k then ar (eV a) S+eV a (A,B,C) else ar (eV a) S) (g:=fun a=>if a<k+1 then ar (eV a) S+eV a (A,B,C) else ar (eV a) S) fun j hj=>?_) (aa (aZ (a:=k) (b:=1) (by omega)) rfl))
    by_cases e:j=k
    ·subst e;rw[if_pos (Nat.lt_succ_self _),if_pos rfl];rfl
    ·rw[if_neg e]
     by_cases h:j<k
     ·rw[if_pos h,if_pos (by omega)]
     ·rw[if_neg h,if_neg (by omega)]
   ·subst hJ
    refine⟨_,aa ag (aa af (aM (by decide) rfl)),?_⟩
    exact aa (aZ (a:=j+2) (b:=1) (by omega)) rfl
  ·subst hJ
   refine⟨_,aa (z:=.sl (ab p)) rfl (aa (z:=ab p) rfl (aa ag (aa af (aM (by show ¬ (((p.length-2+2:Nat):Int)<((ab p).length:Int));rw[aj];omega) rfl)))),?_⟩
   exact aa (aZ (a:=i) (b:=1) (by omega)) rfl
 ·subst hJ
  refine⟨_,aa ag (aa af (aM (by show ¬ ((F.length:Int)<((aI F).length:Int));rw[aW];omega) rfl)),?_⟩
  rw[List.take_length]
  have hT:=uw hl hF
  have h1:=fP hT
  have h2:=fun i=>gP i hT
  have h3:=Mc (n+1020) hl hF (h18 _)
  generalize ar gw (cc l F)=W at *
  have i4:In 4:=fC (gk 4)
  have h4:(4*W).natAbs<=2^87:=aX (i:=2) (by decide) h1 (by decide)
  refine aa (B0 (n+1028) (gk 4)) (aa h3 (aa (AF (n+1027) i4 (eI h1) (eI h4)) ?_))
  have hq:=fun i=>Oa n (eI (h2 i)) (eI h4) (by omega)
  subst hZ
  obtain⟨z,hz⟩:∃ z,ah 0=z:=⟨_,rfl⟩
  rw[hz]
  refine cD (s':=[I 1,.st [bw (Rat.divInt (ar (eV 0) (cc l F)) (4*W)),.st [z,z],.st [z,z]]]) ?_ (cD (s':=[I 2,.st [bw (Rat.divInt (ar (eV 0) (cc l F)) (4*W)),bw (Rat.divInt (ar (eV 1) (cc l F)) (4*W)),.st [z,z]]]) ?_ (cD (s':=[I 3,ga fun i=>Rat.divInt (ar (eV i) (cc l F)) (4*W)]) ?_ (iS (r:=(0,[ga fun i=>Rat.divInt (ar (eV i) (cc l F)) (4*W)])) ?_ rfl)))
  ·exact aa (z:=.bool true) rfl (aa (z:=true) rfl (xn (aa (z:=0) rfl (aa (z:=ah (ar (eV 0) (cc l F))) rfl (aa (hq 0) (aa (z:=0) rfl (aa (z:=.st [bw (Rat.divInt (ar (eV 0) (cc l F)) (4*W)),.st [z,z],.st [z,z]]) rfl (aa (z:=I 1) rfl rfl))))))))
  ·exact aa (z:=.bool true) rfl (aa (z:=true) rfl (xn (aa (z:=1) rfl (aa (z:=ah (ar (eV 1) (cc l F))) rfl (aa (hq 1) (aa (z:=1) rfl (aa (z:=.st [bw (Rat.divInt (ar (eV 0) (cc l F)) (4*W)),bw (Rat.divInt (ar (eV 1) (cc l F)) (4*W)),.st [z,z]]) rfl (aa (z:=I 2) rfl rfl))))))))
  ·exact aa (z:=.bool true) rfl (aa (z:=true) rfl (xn (aa (z:=2) rfl (aa (z:=ah (ar (eV 2) (cc l F))) rfl (aa (hq 2) (aa (z:=2) rfl (aa (z:=ga fun i=>Rat.divInt (ar (eV i) (cc l F)) (4*W)) rfl (aa (z:=I 3) rfl rfl))))))))
  ·exact aa (z:=.bool false) rfl (aa (z:=false) rfl rfl)
theorem KO(n:Nat){x:Int}(hx:In x):cA (n+3) 68 [ah x]=some (ah (-x)):=yN n hx
def jW(f:Nat->Nat->Int)(m:Nat):Rat:=Rat.divInt (if m/3=m%3 then -(f (m/3) (m%3))+(f 0 0+f 1 1+f 2 2) else -(f (m/3) (m%3))) 120
def eR(f:Nat->Nat->Int)(m:Nat):List D:=(List.range m).map fun j=>bw (jW f j)
theorem wh(f:Nat->Nat->Int)(m:Nat):eR f (m+1)=eR f m++[bw (jW f m)]:=by unfold eR;rw[List.range_succ,List.map_append];rfl
theorem rE(f:Nat->Nat->Int)(m:Nat):(eR f m).length=m:=by simp[eR]
theorem H8{i k:Nat}(h:k<3):(3*i+k)/3=i/\(3*i+k)%3=k:=by omega
theorem EZ{A B C:V}(h:bd MV A/\bd MV B/\bd MV C)(i k:Nat) :
  (-786432<=cmp i A+cmp i B+cmp i C/\cmp i A+cmp i B+cmp i C<=786432)/\(-786432<=cmp k A+cmp k B+cmp k C/\cmp k A+cmp k B+cmp k C<=786432) ∧
  ((cmp i A+cmp i B+cmp i C)*(cmp k A+cmp k B+cmp k C)).natAbs<=618475290624/\(cmp i A*cmp k A).natAbs<=68719476736/\(cmp i B*cmp k B).natAbs<=68719476736/\(cmp i C*cmp k C).natAbs<=68719476736:=by
 have key:∀ {a b:Int} {m:Nat},a.natAbs<=m->b.natAbs<=m->(a*b).natAbs<=m*m:=fun ha hb=>by rw[Int.natAbs_mul];exact Nat.mul_le_mul ha hb
 have s1:=tR (t:=(A,B,C)) h i;have s2:=tR (t:=(A,B,C)) h k
 unfold sm at s1 s2
 simp only at s1 s2
 refine⟨by omega,by omega,key s1 s2,key (eS h.1 i) (eS h.1 k),key (eS h.2.1 i) (eS h.2.1 k),key (eS h.2.2 i) (eS h.2.2 k)⟩
theorem NC(n:Nat){l:List V}{F:FL}(hl:∀ x∈l,bd MV x)(hF:FIn l F)(h18:∀ m,cA (m+8) 18 [cd l]=some (.sl (aI F))) :
  cA (n+1031) 28 [cd l]=some (.st [I 3,I 3,.sl (eR (fun i k=>ar (dU i k) (cc l F)) 9)]):=by
 rw[Qw];unfold Jr
 have hFl:=hF.len
 rw[CK]
 refine aa (h18 (n+1022)) (aa (z:=aI F) rfl ?_)
 refine be (fun i s=>s=[I (i:Int),cd l,I 0,I 0,.sl [],dT fun a b=>ar (dU a b) (cc l (F.take i))]) F.length 0 (Nat.zero_le _) (by simp[cc,ar];rfl) (fun i hi s hJ=>?_) (fun s hJ=>?_)
 ·subst hJ
  left
  refine⟨_,?_,rfl⟩
  refine aa ag (aa af (aJ (by show((i:Int)<((aI F).length:Int));rw[aW];omega) ?_))
  refine aa (z:=aI F) rfl (aa (z:=i) (by rw[aW];exact aw hi) (aa (fk hi) ?_))
  have hpart:=fun m (hm:m<=F[i].2.length-2)=>vf hl hF hi hm
  obtain⟨k1,k2,k3⟩:=hF.ok F[i] (List.getElem_mem hi)
  rw[kH l hi]
  generalize F[i]=f at *
  obtain⟨q,p⟩:=f
  simp only at *
  generalize cc l (F.take i)=T at *
  refine cT (fun j s=>s=[I ((j+2:Nat):Int),cd l,I 0,I 0,.sl [],dT fun a b=>ar (dU a b) (T++zA l p j)]) (p.length-2) 0 (Nat.zero_le _) (by rw[qB,List.append_nil];rfl) (fun j hj s hJ=>?_) (fun s hJ=>?_)
  ·subst hJ
   left
   refine⟨_,?_,rfl⟩
   have hp1:=hpart j (by omega)
   have hp2:=hpart (j+1) (by omega)
   have b0:=jZ hl (k3 0 (by omega))
   have b1:=jZ hl (k3 (j+1) (by omega))
   have b2:=jZ hl (k3 (j+2) (by omega))
   obtain⟨v1,v2⟩:=GY (n+1024) (t:=(pt l (p.getD 0 0),pt l (p.getD (j+1) 0),pt l (p.getD (j+2) 0))) ⟨b0,b1,b2⟩
   have hs1:=fun a b=>kZ a b hp1
   have hs2:=fun a b=>kZ a b hp2
   have hv:=kq (t:=(pt l (p.getD 0 0),pt l (p.getD (j+1) 0),pt l (p.getD (j+2) 0))) ⟨b0,b1,b2⟩
   have hm:=fun a b=>Dd a b (t:=(pt l (p.getD 0 0),pt l (p.getD (j+1) 0),pt l (p.getD (j+2) 0))) ⟨b0,b1,b2⟩
   rw[qI,<-List.append_assoc] at hs2 ⊢
   simp only[ki] at hs2 ⊢
   refine aa (z:=.sl (ab p)) rfl (aa (z:=ab p) rfl (aa ag (aa af (aJ (by show(((j+2:Nat):Int)<((ab p).length:Int));rw[aj];omega) ?_))))
   refine aa (z:=aP l) rfl (aa (z:=.sl (ab p)) rfl (DI (j:=0) (by omega) (k3 _ (by omega)) ?_))
   refine aa (z:=aP l) rfl (aa (z:=.sl (ab p)) rfl (aa (iR (a:=j+2) (b:=1) rfl (by omega) (by omega)) (DI (j:=j+1) (by omega) (k3 _ (by omega)) ?_)))
   refine aa (z:=aP l) rfl (aa (z:=.sl (ab p)) rfl (DI (j:=j+2) (by omega) (k3 _ (by omega)) ?_))
   refine aa v1 (aa v2 ?_)
   generalize pt l (p.getD 0 0)=A at *
   generalize pt l (p.getD (j+1) 0)=B at *
   generalize pt l (p.getD (j+2) 0)=C at *
   generalize T++zA l p j=S at *
   obtain⟨ST,hST⟩:∃ ST,D.st [ac A,ac B,ac C]=ST:=⟨_,rfl⟩
   rw[hST]
   refine cT (fun i s=>s=[I (i:Int),cd l,I 0,I 0,.sl [],dT (fun a b=>if a<i then ar (dU a b) S+dU a b (A,B,C) else ar (dU a b) S),cd l,j4 q p,ST]) 3 0 (Nat.zero_le _) rfl (fun i hi s hJ=>?_) (fun s hJ=>?_)
   ·subst hJ
    left
    refine⟨[I ((i+1:Nat):Int),cd l,I 0,I 0,.sl [],dT (fun a b=>if a<i+1 then ar (dU a b) S+dU a b (A,B,C) else ar (dU a b) S),cd l,j4 q p,ST],?_,rfl⟩
    refine aa ag (aa af (aJ (by show(i:Int)<3;omega) ?_))
    refine cT (fun k s=>s=[I (k:Int),cd l,I 0,I 0,.sl [],dT (fun a b=>if a<i\/a=i/\b<k then ar (dU a b) S+dU a b (A,B,C) else ar (dU a b) S),cd l,j4 q p,ST]) 3 0 (Nat.zero_le _) (by
     have e0:dT (fun a b=>if a<i then ar (dU a b) S+dU a b (A,B,C) else ar (dU a b) S)=dT (fun a b=>if a<i\/a=i/\b<0 then ar (dU a b) S+dU a b (A,B,C) else ar (dU a b) S):=by
      congr 1;funext a b;simp
     rw[<-e0];rfl) (fun k hk s hJ=>?_) (fun s hJ=>?_)
    ·subst hJ
     left
     refine⟨[I ((k+1:Nat):Int),cd l,I 0,I 0,.sl [],dT (fun a b=>if a<i\/a=i/\b<k+1 then ar (dU a b) S+dU a b (A,B,C) else ar (dU a b) S),cd l,j4 q p,ST],?_,rfl⟩
     have a0:=nl b0 i;have a1:=nl b1 i;have a2:=nl b2 i
     have e0:=nl b0 k;have e1:=nl b1 k;have e2:=nl b2 k
     obtain⟨q1,q2,q3,q4,q5,q6⟩:=EZ ⟨b0,b1,b2⟩ i k
     have hq:CE i k (A,B,C)=(cmp i A+cmp i B+cmp i C)*(cmp k A+cmp k B+cmp k C)+cmp i A*cmp k A+cmp i B*cmp k B+cmp i C*cmp k C:=rfl
     have hql:=yZ (t:=(A,B,C)) ⟨b0,b1,b2⟩ i k
     refine aa ag (aa af (aJ (by show(k:Int)<3;omega) ?_))
     refine aa (fE hi) (aa (gg hi A) (aa (fE hi) (aa (gg hi B) (aa (av (by simp only[inR];omega)) (aa (fE hi) (aa (gg hi C) (aa (av (by simp only[inR];omega)) ?_)))))))
     refine aa (fE hk) (aa (gg hk A) (aa (fE hk) (aa (gg hk B) (aa (av (by simp only[inR];omega)) (aa (fE hk) (aa (gg hk C) (aa (av (by simp only[inR];omega)) ?_)))))))
     refine aa (cQ (by simp only[inR];omega)) ?_
     obtain⟨M,hM⟩:∃ M,dT (fun a b=>if a<i\/a=i/\b<k then ar (dU a b) S+dU a b (A,B,C) else ar (dU a b) S)=M:=⟨_,rfl⟩
     have gM:D.get M [i,k]=some (ah (ar (dU i k) S)):=by
      rw[<-hM,zU hi hk]
      rw[if_neg (by omega)]
     have sM:∀ v,v=ar (dU i k) S+dU i k (A,B,C)->D.set M [i,k] (ah v)=some (dT (fun a b=>if a<i\/a=i/\b<k+1 then ar (dU a b) S+dU a b (A,B,C) else ar (dU a b) S)):=fun v hv=>by
      rw[<-hM]
      refine EO hi hk fun a b ha hb=>?_
      by_cases h:a=i/\b=k
      ·obtain⟨rfl,rfl⟩:=h
       rw[if_pos (.inr ⟨rfl,Nat.lt_succ_self _⟩),if_pos ⟨rfl,rfl⟩,hv]
      ·rw[if_neg h]
       by_cases h2:a<i\/a=i/\b<k
       ·rw[if_pos h2,if_pos (by omega)]
       ·rw[if_neg h2,if_neg (by omega)]
     rw[hM]
     generalize (cmp i A+cmp i B+cmp i C)*(cmp k A+cmp k B+cmp k C)=x0 at *
     generalize hx1:cmp i A*cmp k A=x1 at *
     generalize hx2:cmp i B*cmp k B=x2 at *
     generalize hx3:cmp i C*cmp k C=x3 at *
     refine cD (s':=[I (x0+x1),I 1,cd l,I 0,I 0,.sl [],cd l,j4 q p,ST]) ?_ (cD (s':=[I (x0+x1+x2),I 2,cd l,I 0,I 0,.sl [],cd l,j4 q p,ST]) ?_ (cD (s':=[I (x0+x1+x2+x3),I 3,cd l,I 0,I 0,.sl [],cd l,j4 q p,ST]) ?_ (iS (r:=(0,[I (x0+x1+x2+x3),cd l,I 0,I 0,.sl [],cd l,j4 q p,ST])) ?_ ?_)))
     ·refine aa (z:=.bool true) rfl (aa (z:=true) rfl (xn (aa (z:=0) rfl (aa (z:=ac A) (show D.fld ST 0=_ by rw[<-hST];rfl) (aa (fE hi) (aa (gg hi A) (aa (fE hk) (aa (gg hk A) (aa (cQ (by simp only[inR];omega)) ?_)))))))))
      rw[hx1]
      exact aa (av (by simp only[inR];omega)) (aa (z:=I 1) rfl rfl)
     ·refine aa (z:=.bool true) rfl (aa (z:=true) rfl (xn (aa (z:=1) rfl (aa (z:=ac B) (show D.fld ST 1=_ by rw[<-hST];rfl) (aa (fE hi) (aa (gg hi B) (aa (fE hk) (aa (gg hk B) (aa (cQ (by simp only[inR];omega)) ?_)))))))))
      rw[hx2]
      exact aa (av (by simp only[inR];omega)) (aa (z:=I 2) rfl rfl)
     ·refine aa (z:=.bool true) rfl (aa (z:=true) rfl (xn (aa (z:=2) rfl (aa (z:=ac C) (show D.fld ST 2=_ by rw[<-hST];rfl) (aa (fE hi) (aa (gg hi C) (aa (fE hk) (aa (gg hk C) (aa (cQ (by simp only[inR];omega)) ?_)))))))))
      rw[hx3]
      exact aa (av (by simp only[inR];omega)) (aa (z:=I 3) rfl rfl)
     ·exact aa (z:=.bool false) rfl (aa (z:=false) rfl rfl)
     ·refine aa (fE hi) (aa (fE hk) (aa gM (aa (B0 (n+1028) (by simp only[inR];omega)) ?_)))
      rw[<-hq]
      refine aa (AF (n+1027) (eI hv) (eI (k:=40) (Nat.le_trans hql (by decide))) (eI (hm i k))) ?_
      refine aa (uD (n+1026) (eI (hs1 i k)) (eI (hm i k)) (eI (hs2 i k))) ?_
      exact aa (fE hi) (aa (fE hk) (aa (sM _ rfl) (aa (aZ (a:=k) (b:=1) (by omega)) rfl)))
    ·subst hJ
     refine⟨_,aa ag (aa af (aM (by decide) rfl)),?_⟩
     refine aa (aZ (a:=i) (b:=1) (by omega)) ?_
     have:dT (fun a b=>if a<i\/a=i/\b<3 then ar (dU a b) S+dU a b (A,B,C) else ar (dU a b) S)=dT (fun a b=>if a<i+1 then ar (dU a b) S+dU a b (A,B,C) else ar (dU a b) S):=by
      have e:∀ a b,b<3->(if a<i\/a=i/\b<3 then ar (dU a b) S+dU a b (A,B,C) else ar (dU a b) S)=(if a<i+1 then ar (dU a b) S+dU a b (A,B,C) else ar (dU a b) S):=fun a b hb=>by
       by_cases h:a<i+1
       ·rw[if_pos h,if_pos (by omega)]
       ·rw[if_neg h,if_neg (by omega)]
      simp only[dT,gJ]
      rw[e 0 0 (by decide),e 0 1 (by decide),e 0 2 (by decide),e 1 0 (by decide),e 1 1 (by decide),e 1 2 (by decide),e 2 0 (by decide),e 2 1 (by decide),e 2 2 (by decide)]
     rw[<-this];rfl
   ·subst hJ
    refine⟨_,aa ag (aa af (aM (by decide) rfl)),?_⟩
    exact aa (aZ (a:=j+2) (b:=1) (by omega)) rfl
  ·subst hJ
   refine⟨_,aa (z:=.sl (ab p)) rfl (aa (z:=ab p) rfl (aa ag (aa af (aM (by show ¬ (((p.length-2+2:Nat):Int)<((ab p).length:Int));rw[aj];omega) rfl)))),?_⟩
   exact aa (aZ (a:=i) (b:=1) (by omega)) rfl
 ·subst hJ
  refine⟨_,aa ag (aa af (aM (by show ¬ ((F.length:Int)<((aI F).length:Int));rw[aW];omega) rfl)),?_⟩
  rw[List.take_length]
  have hT:=uw hl hF
  have h2:=fun i k=>kZ i k hT
  generalize cc l F=T at *
  have t1:=bG (h2 0 0) (h2 1 1)
  have t2:=bG t1 (bI (h2 2 2) (k:=126) (by decide))
  have tn:∀ i k,(-(ar (dU i k) T)).natAbs<=2^125:=fun i k=>by rw[Int.natAbs_neg];exact h2 i k
  have tt:∀ i,(-(ar (dU i i) T)+(ar (dU 0 0) T+ar (dU 1 1) T+ar (dU 2 2) T)).natAbs<=2^128:=fun i=>bG (bI (tn i i) (k:=127) (by decide)) t2
  refine aa (z:=ah (ar (dU 0 0) T)) rfl (aa (z:=ah (ar (dU 1 1) T)) rfl (aa (uD (n+1026) (eI (h2 0 0)) (eI (h2 1 1)) (eI t1)) (aa (z:=ah (ar (dU 2 2) T)) rfl (aa (uD (n+1026) (eI t1) (eI (h2 2 2)) (eI t2)) ?_))))
  refine be (fun i s=>s=[I (i:Int),I 0,I 0,.sl [],I 3,I 3,.sl (eR (fun i k=>ar (dU i k) T) (3*i))]) 3 0 (Nat.zero_le _) rfl (fun i hi s hJ=>?_) (fun s hJ=>?_)
  ·subst hJ
   left
   refine⟨_,?_,rfl⟩
   refine aa ag (aa af (aJ (by show(i:Int)<3;omega) ?_))
   refine cT (fun k s=>s=[I (k:Int),I 0,I 0,.sl [],I 3,I 3,.sl (eR (fun i k=>ar (dU i k) T) (3*i+k))]) 3 0 (Nat.zero_le _) rfl (fun k hk s hJ=>?_) (fun s hJ=>?_)
   ·subst hJ
    left
    refine⟨_,?_,rfl⟩
    refine aa ag (aa af (aJ (by show(k:Int)<3;omega) ?_))
    refine aa (fE hi) (aa (fE hk) (aa (show D.get (dT fun a b=>ar (dU a b) T) [i,k]=_ from zU hi hk _) (aa (KO (n+1027) (eI (h2 i k))) ?_)))
    have fin:∀ {v:Int},In v->jW (fun i k=>ar (dU i k) T) (3*i+k)=Rat.divInt v 120->(Option.bind (some (0,[I 0,I 0,.sl [],I 3,I 3,.sl (eR (fun i k=>ar (dU i k) T) (3*i+k)),ah v])) fun(r111:Nat×List D)=>
      Option.bind (cA (n+1030) 54 [(D.int .i64 120)]) fun r112=>
      Option.bind (cA (n+1030) 62 [(gx r111.2 6),r112]) fun r113=>
      if List.length (D.els (gx r111.2 5))+List.length [r113]<=1073741824 then(Option.bind (D.bin .add (I (k:Int)) (D.int .i64 1)) fun x114=>
      some (Sum.inl (β:=Nat×List D) [x114,(gx r111.2 0),(gx r111.2 1),(D.sl (D.els (gx r111.2 2))),(gx r111.2 3),(gx r111.2 4),(D.sl ((D.els (gx r111.2 5))++[r113]))])) else none)=some (.inl [I ((k+1:Nat):Int),I 0,I 0,.sl [],I 3,I 3,.sl (eR (fun i k=>ar (dU i k) T) (3*i+(k+1)))]):=fun{v} hv he=>by
     have i120:In 120:=fC (gk 120)
     refine aa (z:=_) rfl (aa (B0 (n+1028) (gk 120)) (aa (Oa n hv i120 (by decide)) ?_))
     have hlen:List.length (D.els (.sl (eR (fun i k=>ar (dU i k) T) (3*i+k))))+List.length [bw (Rat.divInt v 120)]<=1073741824:=by
      show(eR (fun i k=>ar (dU i k) T) (3*i+k)).length+1<=_
      rw[rE];omega
     refine(if_pos hlen).trans (aa (aZ (a:=k) (b:=1) (by omega)) ?_)
     rw[show 3*i+(k+1)=3*i+k+1 by omega,wh,he]
     rfl
    obtain⟨d1,d2⟩:=H8 (i:=i) hk
    by_cases e:i=k
    ·subst e
     refine(congrArg (fun z=>Option.bind z _) (aa (z:=true) (show D.truth (D.bool (D.beq (I (i:Int)) (I (i:Int))))=some true by rw[cb,decide_eq_true rfl];rfl) (xn ?c))).trans (fin (eI (tt i)) ?e)
     case c=>exact aa (uD (n+1026) (eI (tn i i)) (eI t2) (eI (tt i))) rfl
     case e=>
      unfold jW
      rw[d1,d2,if_pos rfl]
    ·refine(congrArg (fun z=>Option.bind z _) (aa (z:=false) (show D.truth (D.bool (D.beq (I (i:Int)) (I (k:Int))))=some false by rw[cb,decide_eq_false e];rfl) (by rw[if_neg (by decide)];rfl))).trans (fin (eI (tn i k)) ?_)
     unfold jW
     rw[d1,d2,if_neg e]
   ·subst hJ
    refine⟨_,aa ag (aa af (aM (by decide) rfl)),?_⟩
    exact aa (aZ (a:=i) (b:=1) (by omega)) rfl
  ·subst hJ
   refine⟨_,aa ag (aa af (aM (by decide) rfl)),?_⟩
   rfl
end Go.Proofs.YtjjjkojfijpeeaaGreat.Sy
end
section
set_option linter.unusedVariables false
namespace Go.Proofs.YtjjjkojfijpeeaaGreat.Sy
open Go Go.Proofs Go.Proofs.YtjjjkojfijpeeaaGreat.Geo
theorem oz{m k:Nat}(h:m<=2^k)(hk:k<=511):m<eN:=by
 have:In (m:Int):=gz hk (by rw[Int.natAbs_natCast];exact h)
 have:=bM.1 this
 rwa [Int.natAbs_natCast] at this
theorem xZ{a b k:Nat}(ha:a<=2^k)(hb:b<=2^k):a+b<=2^(k+1):=by rw[Nat.pow_succ];omega
def rY(q:Rat)(a k:Nat):Prop:=q.num.natAbs<=2^a/\q.den<=2^k
theorem bH{x d:Int}{a k:Nat}(hx:x.natAbs<=2^a)(hd:d.natAbs<=2^k)(h0:d≠0):rY (Rat.divInt x d) a k:=by
 obtain⟨h1,h2⟩:=jx x h0
 exact⟨Nat.le_trans h1 hx,Nat.le_trans h2 hd⟩
theorem pm{x:Int}{a:Nat}(hx:x.natAbs<=2^a):rY (x:Rat) a 0:=⟨by simpa using hx,by simp⟩
theorem rY.inR{q:Rat}{a k:Nat}(h:rY q a k)(ha:a<=511:=by decide)(hk:k<=511:=by decide):w9 q:=
 ⟨gz ha h.1,gz hk (by rw[Int.natAbs_natCast];exact h.2)⟩
theorem rY.fitM{x y:Rat}{a k b m:Nat}(hx:rY x a k)(hy:rY y b m)(h1:a+b<=511:=by decide)(h2:k+m<=511:=by decide):fitM x y:=
 ⟨oz (ct hx.1 hy.1 (Nat.le_refl _)) h1,oz (ct hx.2 hy.2 (Nat.le_refl _)) h2⟩
theorem rY.fitA{x y:Rat}{a k b m:Nat}(hx:rY x a k)(hy:rY y b m)(h1:a+m<=510:=by decide)(h2:b+k<=510:=by decide)(h3:k+m<=511:=by decide):fitA x y:=by
 refine⟨?_,oz (ct hx.2 hy.2 (Nat.le_refl _)) h3⟩
 have e1:=ct hx.1 hy.2 h1
 have e2:=ct hy.1 hx.2 h2
 exact oz (k:=510+1) (xZ e1 e2) (by decide)
theorem qw{A B K:Int}(hK:K≠0):Rat.divInt A K+Rat.divInt B K=Rat.divInt (A+B) K:=by
 rw[Rat.divInt_add_divInt _ _ hK hK,<-Int.add_mul,Rat.divInt_mul_right hK]
theorem Dg(A K:Int):- Rat.divInt A K=Rat.divInt (-A) K:=Rat.neg_divInt ..
theorem G6{A B K:Int}(hK:K≠0):Rat.divInt A K-Rat.divInt B K=Rat.divInt (A-B) K:=by
 rw[Rat.sub_eq_add_neg,Dg,qw hK,Int.sub_eq_add_neg]
theorem G3(x w:Int):(x:Rat)/(w:Rat)=Rat.divInt x w:=by
 rw[<-fm x,<-fm w,Rat.div_def,Rat.inv_divInt,Rat.divInt_mul_divInt,Int.mul_one,Int.one_mul]
theorem GP(A K x:Int):Rat.divInt A K*(x:Rat)=Rat.divInt (A*x) K:=by
 rw[<-fm x,Rat.divInt_mul_divInt,Int.mul_one]
theorem Me(n:Nat){x y:Int}(hx:In x)(hy:In y)(h:In (x+y)):cA (n+4) 59 [ah x,ah y]=some (ah (x+y)):=by
 have:=Hn n hx hy
 rwa [fc h] at this
def Di(t:T3):D:=.st [.st [ac t.1,ac t.2.1,ac t.2.2],ah (gw t)]
def gH(T:List T3):List D:=T.map Di
theorem gV(T:List T3):(gH T).length=T.length:=List.length_map ..
theorem sr{T:List T3}{i:Nat}(h:i<T.length):(gH T)[i]?=some (Di T[i]):=by simp[gH,h]
theorem sB.take{T:List T3}{N:Nat}(h:sB T N)(i:Nat):sB (T.take i) N:=
 ⟨Nat.le_trans (by rw[List.length_take];omega) h.1,fun t ht=>h.2 t (List.mem_of_mem_take ht)⟩
theorem sU(g:T3->Int){T:List T3}{i:Nat}(h:i<T.length):ar g (T.take (i+1))=ar g (T.take i)+g T[i]:=by
 rw[List.take_succ_eq_append_getElem h,ki]
section
variable{l:List V}{T:List T3}(hT:sB T 268435456)(h58:∀ m,cA (m+9) 58 [cd l]=some (.sl (gH T)))
include hT h58
theorem Pw(n:Nat):cA (n+10) 24 [cd l]=some (ah (ar gw T)):=by
 rw[OP];unfold IK
 have hTl:=hT.1
 refine aa (h58 n) (aa (xq (n+6) (gk 0)) ?_)
 refine be (fun i s=>s=[I (i:Int),ah (ar gw (T.take i))]) T.length 0 (Nat.zero_le _) rfl (fun i hi s hJ=>?_) (fun s hJ=>?_)
 ·subst hJ
  left
  refine⟨_,?_,rfl⟩
  have h1:=fP (hT.take i)
  have h2:=fP (hT.take (i+1))
  have h3:=kq (hT.2 _ (List.getElem_mem hi))
  rw[sU _ hi] at h2 ⊢
  refine aa (z:=gH T) rfl (aa ag (aa af (aJ (by show((i:Int)<((gH T).length:Int));rw[gV];omega) ?_)))
  refine aa (z:=gH T) rfl (aa (z:=i) (by rw[gV];exact aw hi) (aa (sr hi) (aa (z:=ah (gw T[i])) rfl ?_)))
  exact aa (Me (n+5) (eI h1) (eI h3) (eI h2)) (aa (aZ (a:=i) (b:=1) (by omega)) rfl)
 ·subst hJ
  refine⟨_,aa (z:=gH T) rfl (aa ag (aa af (aM (by show ¬ ((T.length:Int)<((gH T).length:Int));rw[gV];omega) rfl))),?_⟩
  rw[List.take_length];rfl
end
end Go.Proofs.YtjjjkojfijpeeaaGreat.Sy
end
section
set_option linter.unusedVariables false
namespace Go.Proofs.YtjjjkojfijpeeaaGreat.Sy
open Go Go.Proofs Go.Proofs.YtjjjkojfijpeeaaGreat.Geo
theorem CN{S:List V}(hS:BO S){F:FL}(hK:FOk S F){k:Nat}(h:iO F k=true):Gu (pt S) S.length k:=by
 obtain⟨f,hf,h2⟩:=List.any_eq_true.1 h
 obtain⟨x,hx,hxk⟩:=List.any_eq_true.1 h2
 have hxk:x=k:=by simpa using hxk
 subst hxk
 obtain⟨q1,q2⟩:=hK.ok f hf
 obtain⟨p,p1,_,p3⟩:=q1.poly hS
 rw[<-bu.eq hS q1 q2 p1] at p3
 obtain⟨r1,r2⟩:=(p3 x).1 hx
 exact⟨_,_,q1,r1,r2⟩
theorem Kw(n:Nat)(l:List V):cA (n+10) 16 [cd l]=some (.bool false)\/(cA (n+10) 16 [cd l]=some (.bool true)/\l.length<=16/\(∀ x∈l,bd MV x)/\BO l/\(∀ k,k<l.length->Gu (pt l) l.length k)/\∃ m d,IsF (pt l) l.length m d):=by
 rw[QH]
 unfold Jj
 by_cases h:l.length<=16
 ·rcases Qz n (l:=l) (by omega) with⟨e,h1,h2⟩|⟨h1,_,h3,F,h4,hne,_,h5⟩
  ·left
   refine aa (z:=aP l) rfl (aa (z:=l.map ac) rfl (aa oH (aa af (aa (z:=false) (aJ (by show((l.map ac).length:Int)<=16;rw[bq];omega) (aa h1 ?_)) rfl))))
   rw[show D.beq (I e) (D.int .i64 0)=decide (e=0) from ca,decide_eq_false h2];rfl
  ·right
   have ho:=List.Pairwise.sublist (AS (dN l) F) (pT l)
   rw[h5] at ho
   have hs:=Bz ho
   rw[E8 ho] at h4 h5
   refine⟨?_,h,h3,hs,fun k hk=>?_,?_⟩
   ·exact aa (z:=aP l) rfl (aa (z:=l.map ac) rfl (aa oH (aa af (aa (z:=true) (aJ (by show((l.map ac).length:Int)<=16;rw[bq];omega) (aa h1 rfl)) rfl))))
   ·refine CN hs h4.fok ?_
    have e:=congrArg List.length h5
    unfold dq at e
    rw[List.length_map] at e
    have e2:((List.range l.length).filter (iO F)).length=(List.range l.length).length:=by rw[e,List.length_range]
    exact List.length_filter_eq_length_iff.1 e2 k (List.mem_range.2 hk)
   ·obtain⟨f,hf⟩:∃ f,f∈F:=List.exists_mem_of_ne_nil F (fun e=>hne (by rw[e];rfl))
    exact⟨_,_,(h4.fok.ok f hf).1⟩
 ·left
  exact aa (z:=aP l) rfl (aa (z:=l.map ac) rfl (aa oH (aa af (aa (z:=false) (aM (by show ¬ ((l.map ac).length:Int)<=16;rw[bq];omega) rfl) rfl))))
end Go.Proofs.YtjjjkojfijpeeaaGreat.Sy
end
section
set_option linter.unusedVariables false
namespace Go.Proofs.YtjjjkojfijpeeaaGreat.Sy
open Go Go.Proofs Go.Proofs.YtjjjkojfijpeeaaGreat.Geo
theorem Nt(n:Nat){u v:V}(h1:inR (u.x+v.x))(h2:inR (u.y+v.y))(h3:inR (u.z+v.z)):cA (n+1) 64 [ac u,ac v]=some (ac (V.add u v)):=by
 rw[u64];unfold Jy
 exact aa (z:=I u.x) rfl (aa (z:=I v.x) rfl (aa (av h1) (aa (z:=I u.y) rfl (aa (z:=I v.y) rfl (aa (av h2) (aa (z:=I u.z) rfl (aa (z:=I v.z) rfl (aa (av h3) rfl))))))))
theorem zT(q:Rat):D.beq (bw q) (bw q)=true:=by
 unfold bw
 show(D.beq (ah q.num) (ah q.num)&&(D.beq (ah q.den) (ah q.den)&&true))=true
 rw[za,za];rfl
theorem GN(f:Nat->Rat):D.beq (ga f) (ga f)=true:=by
 unfold ga
 show(D.beq (bw (f 0)) (bw (f 0))&&(D.beq (bw (f 1)) (bw (f 1))&&(D.beq (bw (f 2)) (bw (f 2))&&true)))=true
 rw[zT,zT,zT];rfl
theorem BD(f:Nat->Rat):ga f=kj ⟨f 0,f 1,f 2⟩:=rfl
section
variable{l:List V}{T:List T3}(hT:sB T 268435456)(h58:∀ m,cA (m+9) 58 [cd l]=some (.sl (gH T)))
include hT h58
theorem Do(n:Nat)(hW:ar gw T≠0):cA (n+11) 26 [cd l]=some (ga fun i=>Rat.divInt (ar (eV i) T) (4*ar gw T)):=by
 rw[Q2];unfold IV
 have hTl:=hT.1
 have hw:=fP hT
 have h24:=Pw hT h58 n
 have hM:=fun i j=>gP i (hT.take j)
 obtain⟨W,hWe⟩:∃ W,ar gw T=W:=⟨_,rfl⟩
 rw[hWe] at hW hw h24 ⊢
 have hK:(4*W).natAbs<=2^87:=aX (i:=2) (by decide) hw (by decide)
 have hK0:4*W≠0:=by omega
 refine aa (h58 (n+1)) (aa h24 (aa (N6 (n+4) (eI hw)) (aa (Mf (n+3) (v:=V.zero) (gk 0) (gk 0) (gk 0)) ?_)))
 have e0:kj (RV.of V.zero)=ga fun i=>Rat.divInt (ar (eV i) (T.take 0)) (4*W):=by
  have z:∀ i,Rat.divInt (ar (eV i) (T.take 0)) (4*W)=((0:Int):Rat):=fun i=>by
   show Rat.divInt 0 (4*W)=_
   rw[Rat.zero_divInt];rfl
  rw[BD,z,z,z];rfl
 rw[e0]
 refine be (fun j s=>s=[I (j:Int),ga fun i=>Rat.divInt (ar (eV i) (T.take j)) (4*W)]) T.length 0 (Nat.zero_le _) rfl (fun j hj s hJ=>?_) (fun s hJ=>?_)
 ·subst hJ
  left
  refine⟨_,?_,rfl⟩
  have hb:=hT.2 _ (List.getElem_mem hj)
  have h3:=kq hb
  have hm:=fun i=>xK i hb
  have e1:(ga fun i=>Rat.divInt (ar (eV i) (T.take (j+1))) (4*W))=ga fun i=>Rat.divInt (ar (eV i) (T.take j)) (4*W)+Rat.divInt (eV i T[j]) (4*W):=by
   congr 1;funext i
   rw[sU _ hj,qw hK0]
  rw[e1]
  refine aa (z:=gH T) rfl (aa ag (aa af (aJ (by show((j:Int)<((gH T).length:Int));rw[gV];omega) ?_)))
  have ge:∀ {β:Type} {g:D->Option β} {y:β},g (Di T[j])=some y->(Option.bind (D.asSl (.sl (gH T))) fun l45=>Option.bind (D.idx (I (j:Int)) (List.length l45)) fun i46=>Option.bind (l45[i46]?) g)=some y:=fun h=>
   aa (z:=gH T) rfl (aa (z:=j) (by rw[gV];exact aw hj) (aa (sr hj) h))
  have hMj:=fun i=>bH (hM i j) hK hK0
  have hmj:=fun i=>bH (hm i) hK hK0
  generalize T[j]=t at *
  obtain⟨A,B,C⟩:=t
  obtain⟨b0,b1,b2⟩:=hb
  simp only[bd,show MV=262144 from rfl] at b0 b1 b2
  refine ge (aa (z:=.st [ac A,ac B,ac C]) rfl (aa (z:=ac A) rfl (ge (aa (z:=.st [ac A,ac B,ac C]) rfl (aa (z:=ac B) rfl ?_)))))
  refine aa (Nt (n+9) (by simp only[inR];omega) (by simp only[inR];omega) (by simp only[inR];omega)) ?_
  refine ge (aa (z:=.st [ac A,ac B,ac C]) rfl (aa (z:=ac C) rfl ?_))
  refine aa (Nt (n+9) (by simp only[inR,V.add];omega) (by simp only[inR,V.add];omega) (by simp only[inR,V.add];omega)) ?_
  refine ge (aa (z:=ah (gw (A,B,C))) rfl ?_)
  have r1:rY ((gw (A,B,C):Int):Rat) 57 0:=pm h3
  have r2:rY ((W:Int):Rat) 85 0:=pm hw
  refine aa (N6 (n+4) (eI h3)) ?_
  refine aa (Ok (n+3) r1.inR r2.inR (by simpa using hW) (oz (ct r1.1 r2.2 (Nat.le_refl _)) (by decide)) (oz (ct r1.2 r2.1 (Nat.le_refl _)) (by decide))) ?_
  rw[G3]
  have r3:rY (Rat.divInt (gw (A,B,C)) W) 57 85:=bH h3 hw hW
  have r4:rY (Rat.divInt 1 4) 0 2:=bH (by decide) (by decide) (by decide)
  refine aa (MP (n+4) (gk 1) (gk 4) (by decide)) (aa (GM (n+4) r3.inR r4.inR (r3.fitM r4)) ?_)
  rw[Rat.divInt_mul_divInt,Int.mul_one,Int.mul_comm W 4]
  have r5:rY (Rat.divInt (gw (A,B,C)) (4*W)) 57 87:=bH h3 hK hK0
  have s:∀ a b c:Int,(-262144<=a/\a<=262144)->(-262144<=b/\b<=262144)->(-262144<=c/\c<=262144)->inR (a+b+c)/\rY ((a+b+c:Int):Rat) 20 0:=fun a b c ha hb hc=>⟨by simp only[inR];omega,pm (by omega)⟩
  obtain⟨s1,f1⟩:=s _ _ _ b0.1 b1.1 b2.1
  obtain⟨s2,f2⟩:=s _ _ _ b0.2.1 b1.2.1 b2.2.1
  obtain⟨s3,f3⟩:=s _ _ _ b0.2.2 b1.2.2 b2.2.2
  refine aa (Mf (n+3) (v:=V.add (V.add A B) C) s1 s2 s3) ?_
  refine aa (PC (n+3) (v:=RV.of (V.add (V.add A B) C)) r5.inR ⟨f1.inR,f2.inR,f3.inR⟩ (r5.fitM f1) (r5.fitM f2) (r5.fitM f3)) ?_
  have em:kj (RV.mul (Rat.divInt (gw (A,B,C)) (4*W)) (RV.of (V.add (V.add A B) C)))=kj ⟨Rat.divInt (eV 0 (A,B,C)) (4*W),Rat.divInt (eV 1 (A,B,C)) (4*W),Rat.divInt (eV 2 (A,B,C)) (4*W)⟩:=by
   unfold RV.mul RV.of
   simp only[GP]
   rfl
  rw[em]
  refine aa (NO (n+3) (u:=⟨_,_,_⟩) (v:=⟨_,_,_⟩) ⟨(hMj 0).inR,(hMj 1).inR,(hMj 2).inR⟩ ⟨(hmj 0).inR,(hmj 1).inR,(hmj 2).inR⟩ ((hMj 0).fitA (hmj 0)) ((hMj 1).fitA (hmj 1)) ((hMj 2).fitA (hmj 2))) ?_
  exact aa (aZ (a:=j) (b:=1) (by omega)) rfl
 ·subst hJ
  refine⟨_,aa (z:=gH T) rfl (aa ag (aa af (aM (by show ¬ ((T.length:Int)<((gH T).length:Int));rw[gV];omega) rfl))),?_⟩
  rw[List.take_length];rfl
end
theorem N9{l:List V}(hl:∀ x∈l,bd MV x)(hlen:l.length<=64)(hs:BO l):∃ (L:List (V×Int)) (poly:V×Int->List Nat),Facets (pt l) l.length L/\(∀ q∈L,bu (pt l) l.length q.1 q.2 (poly q)) ∧
  FIn l (L.map fun q=>(q,poly q))/\(∀ m,cA (m+8) 18 [cd l]=some (.sl (aI (L.map fun q=>(q,poly q)))))/\∀ m,cA (m+8) 19 [cd l]=some (.sl (aI (L.map fun q=>(q,poly q)))):=by
 obtain⟨L,poly,hL,hP,hLl,_⟩:=Jh 0 hl (show l.length<=100 by omega) hs
 have hFm:∀ m,∃ F:FL,F=(L.map fun q=>(q,poly q))/\cA (m+8) 18 [cd l]=some (.sl (aI F))/\cA (m+8) 19 [cd l]=some (.sl (aI F)):=fun m=>by
  obtain⟨F,hK,h48⟩:=NF m hl (show l.length<=100 by omega) hs
  obtain⟨L',poly',hL',hP',_,h18⟩:=Jh (m+1) hl (show l.length<=100 by omega) hs
  have e':L=L':=Facets.eq hL hL'
  subst e'
  have eL:F.map Prod.fst=L:=Facets.eq hK.facets hL
  have eq1:∀ f∈F,poly f.1=f.2/\poly' f.1=f.2:=fun f hf=>by
   obtain⟨q1,q2⟩:=hK.fok.ok f hf
   have hm:f.1∈L:=by rw[<-eL];exact List.mem_map.2 ⟨f,hf,rfl⟩
   exact⟨bu.eq hs q1 (hP f.1 hm) q2,bu.eq hs q1 (hP' f.1 hm) q2⟩
  have eF:(L.map fun q=>j4 q (poly' q))=aI F:=by
   rw[<-eL,List.map_map]
   refine List.map_congr_left fun f hf=>?_
   simp only[Function.comp_apply,(eq1 f hf).2]
  refine⟨F,?_,by rw[h18,eF],?_⟩
  ·rw[<-eL,List.map_map]
   have:∀ f∈F,((fun q=>(q,poly q)) ∘ Prod.fst) f=id f:=fun f hf=>by
    show(f.1,poly f.1)=f
    rw[(eq1 f hf).1]
   rw[List.map_congr_left this,List.map_id]
  ·rw[QT]
   unfold Jm
   exact aa (z:=aP l) rfl (aa h48 rfl)
 refine⟨L,poly,hL,hP,⟨by rw[List.length_map];exact hLl,fun f hf=>?_⟩,fun m=>?_,fun m=>?_⟩
 ·obtain⟨q,hq,rfl⟩:=List.mem_map.1 hf
  have h3:=ie hs hL hP hq
  have hp:=vP hs ((hL.mem q).1 hq) (hP q hq)
  refine⟨h3,by show(poly q).length<=100;omega,fun j hj=>hp.2.2.2 _ ?_⟩
  simp only[List.getD_eq_getElem?_getD,List.getElem?_eq_getElem hj]
  exact List.getElem_mem hj
 ·obtain⟨F,rfl,h,_⟩:=hFm m;exact h
 ·obtain⟨F,rfl,_,h⟩:=hFm m;exact h
end Go.Proofs.YtjjjkojfijpeeaaGreat.Sy
end
section
set_option linter.unusedVariables false
namespace Go.Proofs.YtjjjkojfijpeeaaGreat.Sy
open Go Go.Proofs Go.Proofs.YtjjjkojfijpeeaaGreat.Geo
theorem QG(n:Nat){x y:Rat}(hx:w9 x)(hy:w9 y)(hf:fitA x (-y))(hny:w9 (-y)):cA (n+7) 39 [bw x,bw y]=some (bw (x-y)):=by
 rw[QV];unfold I4
 refine aa (PT n hy) (aa (Hj n hx hny hf) ?_)
 rw[<-Rat.sub_eq_add_neg]
theorem IA(n:Nat){a b k:Int}{p q:Nat}(ha:a.natAbs<=2^p)(hb:b.natAbs<=2^p)(hk:k.natAbs<=2^q)(k0:k≠0)(h1:p+q<=510:=by decide)(h2:q+q<=511:=by decide) :
  cA (n+7) 39 [bw (Rat.divInt a k),bw (Rat.divInt b k)]=some (bw (Rat.divInt (a-b) k)):=by
 have f1:=bH ha hk k0
 have f2:=bH hb hk k0
 have f3:=bH (x:=-b) (by rw[Int.natAbs_neg];exact hb) hk k0
 rw[<-Dg] at f3
 rw[QG n (f1.inR (by omega) (by omega)) (f2.inR (by omega) (by omega)) (f1.fitA f3 h1 h1 h2) (f3.inR (by omega) (by omega)),G6 k0]
theorem G7(n:Nat){a b k:Int}{p q:Nat}(ha:a.natAbs<=2^p)(hb:b.natAbs<=2^p)(hk:k.natAbs<=2^q)(k0:k≠0)(h1:p+q<=510:=by decide)(h2:q+q<=511:=by decide) :
  cA (n+6) 40 [bw (Rat.divInt a k),bw (Rat.divInt b k)]=some (bw (Rat.divInt (a+b) k)):=by
 have f1:=bH ha hk k0
 have f2:=bH hb hk k0
 rw[Hj n (f1.inR (by omega) (by omega)) (f2.inR (by omega) (by omega)) (f1.fitA f2 h1 h1 h2),qw k0]
theorem GI(n:Nat){a b k m:Int}{p p' q q':Nat}(ha:a.natAbs<=2^p)(hb:b.natAbs<=2^p')(hk:k.natAbs<=2^q)(hm:m.natAbs<=2^q')(k0:k≠0)(m0:m≠0)(h1:p+p'<=511:=by decide)(h2:q+q'<=511:=by decide) :
  cA (n+6) 38 [bw (Rat.divInt a k),bw (Rat.divInt b m)]=some (bw (Rat.divInt (a*b) (k*m))):=by
 have f1:=bH ha hk k0
 have f2:=bH hb hm m0
 rw[GM n (f1.inR (by omega) (by omega)) (f2.inR (by omega) (by omega)) (f1.fitM f2 h1 h2),Rat.divInt_mul_divInt]
theorem NX(n:Nat){A:Nat->Int}{K:Int}(hA:∀ i,(A i).natAbs<=2^106)(hK:K.natAbs<=2^87)(k0:K≠0) :
  cA (n+7) 41 [ga fun i=>Rat.divInt (A i) K,ga fun i=>Rat.divInt (A i) K]=some (bw (Rat.divInt (A 0*A 0+A 1*A 1+A 2*A 2) (K*K))):=by
 rw[Rn];unfold IC
 have m:=fun i=>GI n (hA i) (hA i) hK hK k0 k0
 have b:=fun i=>aX (k:=212) (hA i) (hA i) (by decide)
 have bK:=aX (k:=174) hK hK (by decide)
 have kk:K*K≠0:=Int.mul_ne_zero k0 k0
 have s1:=bG (b 0) (b 1)
 exact aa (z:=bw (Rat.divInt (A 0) K)) rfl (aa (z:=bw (Rat.divInt (A 0) K)) rfl (aa (m 0) (aa (z:=bw (Rat.divInt (A 1) K)) rfl (aa (z:=bw (Rat.divInt (A 1) K)) rfl (aa (m 1) (aa (G7 n (b 0) (b 1) bK kk) (aa (z:=bw (Rat.divInt (A 2) K)) rfl (aa (z:=bw (Rat.divInt (A 2) K)) rfl (aa (m 2) (aa (G7 n s1 (bI (b 2) (by decide)) bK kk) rfl))))))))))
def ln(b:Bool)(v:V):Nat->Bool
 | 0=>b
 | k+1=>ln b v k&&decide (cmp k v<=262144)&&decide (cmp k v ≥ -262144)
theorem wN{b:Bool}{v:V}(h:ln b v 3=true):b=true/\bd MV v:=by
 have e:ln b v 3=(b&&decide (v.x<=262144)&&decide (v.x ≥ -262144)&&decide (v.y<=262144)&&decide (v.y ≥ -262144)&&decide (v.z<=262144)&&decide (v.z ≥ -262144)):=rfl
 rw[e] at h
 simp only[Bool.and_eq_true,decide_eq_true_eq] at h
 obtain⟨⟨⟨⟨⟨⟨h0,h1⟩,h2⟩,h3⟩,h4⟩,h5⟩,h6⟩:=h
 refine⟨h0,?_⟩
 simp only[bd,show MV=262144 from rfl]
 omega
theorem H6(v:V)(b:Bool)(X Y:List D) :
  ∃ r,bc (fun(v1:List D)=>
  Option.bind (D.bin .lss (gx v1 1) (D.int .i64 3)) fun x2=>
  Option.bind (D.truth x2) fun b3=>
  if b3 then(Option.bind (D.truth (gx v1 0)) fun b4=>
  Option.bind (if b4 then(Option.bind (D.idx (gx v1 1) 3) fun i5=>
  Option.bind (D.get (ac v) [i5]) fun x6=>
  Option.bind (D.bin .leq x6 (D.int .i64 262144)) fun x7=>
  D.truth x7) else(some false)) fun b8=>
  Option.bind (D.truth (D.bool b8)) fun b9=>
  Option.bind (if b9 then(Option.bind (D.idx (gx v1 1) 3) fun i10=>
  Option.bind (D.get (ac v) [i10]) fun x11=>
  Option.bind (D.bin .geq x11 (D.int .i64 (-262144))) fun x12=>
  D.truth x12) else(some false)) fun b13=>
  Option.bind (D.bin .add (gx v1 1) (D.int .i64 1)) fun x14=>
  some (Sum.inl [(D.bool b13),x14,(D.sl (D.els (gx v1 2))),(D.sl (D.els (gx v1 3)))])) else(some (Sum.inr (0,[(gx v1 0),(D.sl (D.els (gx v1 2))),(D.sl (D.els (gx v1 3)))])))) [.bool b,I 0,.sl X,.sl Y]=some r/\r=(0,[.bool (ln b v 3),.sl X,.sl Y]):=by
 refine pu (fun k s=>s=[.bool (ln b v k),I (k:Int),.sl X,.sl Y]) _ 3 0 (Nat.zero_le _) rfl (fun k hk s hJ=>?_) (fun s hJ=>?_)
 ·subst hJ
  left
  refine⟨_,?_,rfl⟩
  refine aa ag (aa af (aJ (by show(k:Int)<3;omega) ?_))
  refine aa (z:=ln b v k) rfl (aa (z:=ln b v k&&decide (cmp k v<=262144)) ?_ (aa (z:=ln b v k&&decide (cmp k v<=262144)) rfl (aa (z:=ln b v (k+1)) ?_ (aa (aZ (a:=k) (b:=1) (by omega)) rfl))))
  ·cases ln b v k with
   | false=>rfl
   | true=>
    refine(if_pos rfl).trans (aa (fE hk) (aa (gg hk v) (aa oH ?_)))
    rw[Bool.true_and];rfl
  ·have e:ln b v (k+1)=(ln b v k&&decide (cmp k v<=262144)&&decide (cmp k v ≥ -262144)):=rfl
   rw[e]
   cases (ln b v k&&decide (cmp k v<=262144)) with
   | false=>rfl
   | true=>
    refine(if_pos rfl).trans (aa (fE hk) (aa (gg hk v) (aa iD ?_)))
    rw[Bool.true_and];rfl
 ·subst hJ
  exact⟨_,aa ag (aa af (aM (by decide) rfl)),rfl⟩
theorem HW{α β:Type}{A:Option α}{g:α->Option β}{z:α}{y:β}(h:∃ r,A=some r/\r=z)(hk:g z=some y):Option.bind A g=some y:=by
 obtain⟨r,rfl,rfl⟩:=h
 exact hk
theorem NI{α β:Type}{A:Option α}{g:α->Option β}{Q:α->Prop}{Y:β->Prop}(h:∃ r,A=some r/\Q r)(hk:∀ r,Q r->∃ y,g r=some y/\Y y):∃ y,Option.bind A g=some y/\Y y:=by
 obtain⟨r,rfl,hq⟩:=h
 exact hk r hq
theorem Rj(n:Nat){l:List V}(hl:∀ x∈l,bd MV x)(hlen:l.length<=64)(d:V):∃ (m:List V) (ok:Bool),cA (n+2) 35 [cd l,ac d]=some (.tup [cd m,.bool ok]) ∧
  (ok=true->bd MV d/\m=l.map (fun v=>V.add v d)/\∀ x∈m,bd MV x):=by
 have h:∃ y,Hw bc (cA (n+1)) (cd l) (ac d)=some y/\∃ (m:List V) (ok:Bool),y=.tup [cd m,.bool ok]/\(ok=true->bd MV d/\m=l.map (fun v=>V.add v d)/\∀ x∈m,bd MV x):=by
  unfold Hw
  refine NI (H6 d true [] []) ?_
  rintro r rfl
  refine NI (Q:=fun r=>∃ (m:List V) (ok:Bool),r=(0,[.bool ok,.sl [],.sl (m.map ac)])/\(ok=true->bd MV d/\m=l.map (fun v=>V.add v d)/\∀ x∈m,bd MV x))
   (pu (fun i s=>∃ (out:List V) (ok:Bool),s=[.bool ok,I (i:Int),.sl [],.sl (out.map ac)]/\out.length=i/\(ok=true->bd MV d/\out=(l.take i).map (fun v=>V.add v d)/\∀ x∈out,bd MV x)) _ l.length 0 (Nat.zero_le _)
    ⟨[],ln true d 3,rfl,rfl,fun h=>⟨(wN h).2,by simp,by simp⟩⟩ (fun i hi s hJ=>?_) (fun s hJ=>?_)) ?_
  ·obtain⟨out,ok,rfl,hol,hok⟩:=hJ
   have hc:D.bin .lss (I (i:Int)) (D.int .i64 (l.map ac).length)=some (.bool true):=by
    rw[ag,decide_eq_true (by rw[bq];omega)]
   cases ok with
   | false=>
    right
    exact⟨_,aa (z:=aP l) rfl (aa (z:=l.map ac) rfl (aa hc (aa (z:=true) rfl (aa (z:=false) rfl (aa (z:=false) rfl rfl))))),out,false,rfl,fun h=>by cases h⟩
   | true=>
    left
    obtain⟨hbd,ho,hx⟩:=hok rfl
    have hb:=hl l[i] (List.getElem_mem hi)
    have hg:(l.map ac)[i]?=some (ac l[i]):=by simp[hi]
    have ht:(l.take (i+1)).map (fun v=>V.add v d)=(l.take i).map (fun v=>V.add v d)++[V.add l[i] d]:=by
     rw[List.take_succ_eq_append_getElem hi,List.map_append];rfl
    generalize l[i]=v at *
    simp only[bd,show MV=262144 from rfl] at hb hbd
    refine⟨[.bool (ln true (V.add v d) 3),I ((i+1:Nat):Int),.sl [],.sl ((out++[V.add v d]).map ac)],?_,out++[V.add v d],ln true (V.add v d) 3,rfl,by simp[hol],fun h=>⟨by simp only[bd,show MV=262144 from rfl];exact hbd,by rw[ht,ho],fun x hx'=>?_⟩⟩
    ·refine aa (z:=aP l) rfl (aa (z:=l.map ac) rfl (aa hc (aa (z:=true) rfl (aa (z:=true) rfl (aa (z:=true) rfl (xn ?_))))))
     refine aa (z:=aP l) rfl (aa (z:=l.map ac) rfl (aa (z:=i) (by rw[bq];exact aw hi) (aa hg ?_)))
     refine aa (Nt n (by simp only[inR];omega) (by simp only[inR];omega) (by simp only[inR];omega)) ?_
     refine HW (H6 (V.add v d) true [] (out.map ac)) ?_
     have hlen2:List.length (D.els (.sl (out.map ac)))+List.length [ac (V.add v d)]<=1073741824:=by
      show(out.map ac).length+1<=_
      rw[List.length_map];omega
     refine(if_pos hlen2).trans (aa (aZ (a:=i) (b:=1) (by omega)) ?_)
     rw[List.map_append];rfl
    ·rcases List.mem_append.1 hx' with h'|h'
     ·exact hx x h'
     ·rw[List.mem_singleton.1 h'];exact(wN h).2
  ·obtain⟨out,ok,rfl,hol,hok⟩:=hJ
   have hc:D.bin .lss (I (l.length:Int)) (D.int .i64 (l.map ac).length)=some (.bool false):=by
    rw[ag,decide_eq_false (by rw[bq];omega)]
   rw[List.take_length] at hok
   exact⟨_,aa (z:=aP l) rfl (aa (z:=l.map ac) rfl (aa hc (aa (z:=false) rfl (aa (z:=false) rfl (aa (z:=false) rfl rfl))))),out,ok,rfl,hok⟩
  ·rintro r ⟨m,ok,rfl,hok⟩
   exact⟨_,rfl,m,ok,rfl,hok⟩
 obtain⟨y,h1,m,ok,rfl,h2⟩:=h
 exact⟨m,ok,by rw[Rt];exact h1,h2⟩
end Go.Proofs.YtjjjkojfijpeeaaGreat.Sy
end
section
namespace Go.Proofs.YtjjjkojfijpeeaaGreat.Geo
open V
section
variable{P P':Nat->V}{N N':Nat}(hl:∀ i j,i<j->j<N->aC (P i) (P j))(hl':∀ i j,i<j->j<N'->aC (P' i) (P' j))
 (hsub:∀ k,k<N'->∃ j,j<N/\P j=P' k) (hsup:∀ k,Gu P N k->∃ j,j<N'/\P' j=P k)
include hl hl' hsub hsup
end
def part(P:Nat->V)(p:List Nat)(z:V):Int:=ar (fun t=>gw (shift (V.neg z) t)) (nv P p (p.length-2))
section
variable{P Q:Nat->V}{N M:Nat}(hl:∀ i j,i<j->j<N->aC (P i) (P j))(hl':∀ i j,i<j->j<M->aC (Q i) (Q j))
include hl hl'
variable(hsub:∀ k,k<N->∃ j,j<M/\Q j=P k)
include hsub
end
section
variable{P P':Nat->V}{N N':Nat}(hl:∀ i j,i<j->j<N->aC (P i) (P j))(hl':∀ i j,i<j->j<N'->aC (P' i) (P' j))
 (hsub:∀ k,k<N'->∃ j,j<N/\P j=P' k) (hsup:∀ k,Gu P N k->∃ j,j<N'/\P' j=P k)
include hl hl' hsub hsup
end
end Go.Proofs.YtjjjkojfijpeeaaGreat.Geo
end
section
namespace Go.Proofs.YtjjjkojfijpeeaaGreat.Geo
open V
theorem qy{α β:Type}{f g:α->List β}:∀ {l:List α},(∀ x∈l,f x=g x)->l.flatMap f=l.flatMap g
 | [],_=>rfl
 | a::l,h=>by rw[List.flatMap_cons,List.flatMap_cons,h a List.mem_cons_self,qy fun x hx=>h x (List.mem_cons_of_mem _ hx)]
section
variable{P Q:Nat->V}{N:Nat}{d:V}(hm:∀ k,k<N->Q k=V.add (P k) d)
include hm
theorem tV{a b:Nat}(ha:a<N)(hb:b<N):wy Q a b=wy P a b:=by
 unfold wy;rw[hm a ha,hm b hb]
 apply V.ext'<;>simp only[V.sub,V.add]<;>omega
theorem pp(n:V){a:Nat}(ha:a<N):dot n (Q a)=dot n (P a)+dot n d:=by
 rw[hm a ha];simp only[dot,V.add];grind
theorem ux{n:V}{e:Int}(h:IsF P N n e):IsF Q N n (e+dot n d):=by
 obtain⟨i,j,k,hij,hjk,hk,h1,h2,h3⟩:=h.ex
 have ht:eE Q i j k=eE P i j k:=by unfold eE;rw[tV hm (by omega) (by omega),tV hm (by omega) hk]
 refine⟨⟨i,j,k,hij,hjk,hk,by rw[ht];exact h1,by rw[ht];exact h2,by rw[pp hm n (by omega),h3]⟩,fun x hx=>?_,?_⟩
 ·rw[pp hm n hx];have:=h.supp.1 x hx;omega
 ·obtain⟨z,hz,hzd⟩:=h.supp.2
  exact⟨z,hz,by rw[pp hm n hz];omega⟩
theorem wn(n:V)(e:Int):aY Q N n (e+dot n d)=aY P N n e:=by
 unfold aY
 refine List.filter_congr fun k hk=>?_
 rw[pp hm n (List.mem_range.1 hk),decide_eq_decide]
 omega
theorem xy{n:V}{e:Int}{p:List Nat}(h:bu P N n e p):bu Q N n (e+dot n d) p:=by
 obtain⟨a,h1,h2⟩:=h
 refine⟨a,by rw[wn hm];exact h1,?_⟩
 rw[wn hm]
 have hlt:∀ x∈aY P N n e,x<N:=fun x hx=>(aL.1 hx).1
 have side:∀ {x y:Nat},x<N->Side n P (aY P N n e) x y->Side n Q (aY P N n e) x y:=fun{x y} hx s=>
  ⟨s.mem,s.ne,fun z hz=>by rw[tV hm hx (hlt y s.mem),tV hm hx (hlt z hz)];exact s.all z hz⟩
 have ha:a<N:=hlt a (List.mem_of_mem_head? h1)
 have key:∀ {c:Nat} {l:List Nat},c<N->Chain (Side n P (aY P N n e)) a c l->Chain (Side n Q (aY P N n e)) a c l:=by
  intro c l hc k
  induction k with
  | done s=>exact .done (side hc s)
  | step s hne _ ih=>exact .step (side hc s) hne (ih (hlt _ s.mem))
 exact key ha h2
end
section
variable{P Q:Nat->V}{N:Nat}{d:V}(hm:∀ k,k<N->Q k=V.add (P k) d)
 (hl:∀ i j,i<j->j<N->aC (P i) (P j))
include hm hl
theorem zn:∀ i j,i<j->j<N->aC (Q i) (Q j):=fun i j hij hj=>by
 have:=hl i j hij hj
 rw[hm i (by omega),hm j hj]
 simp only[aC,V.add] at *
 omega
theorem CD{L L':List (V×Int)}(hL:Facets P N L)(hL':Facets Q N L'){poly poly':V×Int->List Nat}(hp:∀ q∈L,bu P N q.1 q.2 (poly q))(hp':∀ q∈L',bu Q N q.1 q.2 (poly' q)) :
  dW Q L' poly'=dW (fun k=>V.add (P k) d) L poly:=by
 have hl':=zn hm hl
 have hm':∀ k,k<N->P k=V.add (Q k) (V.neg d):=fun k hk=>by
  rw[hm k hk];apply V.ext'<;>simp only[V.add,V.neg]<;>omega
 have eL:L.map (fun q=>(q.1,q.2+dot q.1 d))=L':=by
  refine Facets.eq (P:=Q) (N:=N) ⟨?_,fun q=>?_⟩ hL'
  ·rw[List.pairwise_map];exact hL.ord
  ·rw[List.mem_map]
   constructor
   ·rintro⟨q0,h,rfl⟩
    exact ux hm ((hL.mem q0).1 h)
   ·intro h
    refine⟨(q.1,q.2-dot q.1 d),(hL.mem _).2 ?_,?_⟩
    ·have:=ux hm' h
     have e:q.2+dot q.1 (V.neg d)=q.2-dot q.1 d:=by simp only[dot,V.neg];grind
     rw[e] at this;exact this
    ·simp
 subst eL
 unfold dW
 rw[List.flatMap_map]
 refine qy fun q hq=>?_
 have hF:=(hL.mem q).1 hq
 have hF':=ux hm hF
 have e:poly' (q.1,q.2+dot q.1 d)=poly q:=bu.eq hl' hF' (hp' _ (List.mem_map.2 ⟨q,hq,rfl⟩)) (xy hm (hp q hq))
 rw[e]
 obtain⟨l',p1,_,p3⟩:=hF.poly hl
 have e2:=bu.eq hl hF (hp q hq) p1
 rw[<-e2] at p3
 have hlt:∀ j,j<(poly q).length->(poly q).getD j 0<N:=fun j hj=>by
  have:(poly q).getD j 0∈poly q:=by
   rw[List.getD_eq_getElem?_getD,List.getElem?_eq_getElem hj];exact List.getElem_mem hj
  exact(aL.1 ((p3 _).1 this).1).1
 have h3:=ie hl hL hp hq
 unfold nv
 refine List.map_congr_left fun i hi=>?_
 have hi:=List.mem_range.1 hi
 rw[hm _ (hlt 0 (by omega)),hm _ (hlt (i+1) (by omega)),hm _ (hlt (i+2) (by omega))]
end
end Go.Proofs.YtjjjkojfijpeeaaGreat.Geo
end
section
set_option linter.unusedVariables false
namespace Go.Proofs.YtjjjkojfijpeeaaGreat.Sy
open Go Go.Proofs Go.Proofs.YtjjjkojfijpeeaaGreat.Geo
theorem g8{a b:Int}{k:Nat}(ha:a.natAbs<=2^k)(hb:b.natAbs<=2^k):(a-b).natAbs<=2^(k+1):=by
 rw[Int.sub_eq_add_neg];exact bG ha (by rw[Int.natAbs_neg];exact hb)
theorem uK{k:Nat}(h:k<3)(f:Nat->Rat):D.get (ga f) [k]=some (bw (f k)):=by rcases GZ h with rfl|rfl|rfl<;>rfl
theorem AO{S:Nat->Nat->Int}(h:∀ i k,(S i k).natAbs<=2^125)(m:Nat):rY (jW S m) 128 7:=by
 have t1:=bG (h 0 0) (h 1 1)
 have t2:=bG t1 (bI (h 2 2) (k:=126) (by decide))
 have tn:∀ i k,(-(S i k)).natAbs<=2^125:=fun i k=>by rw[Int.natAbs_neg];exact h i k
 unfold jW
 refine bH ?_ (by decide) (by decide)
 split
 ·exact bG (bI (tn _ _) (k:=127) (by decide)) t2
 ·exact bI (tn _ _) (by decide)
theorem GK{W E:Int}(hW:W≠0):Rat.divInt (W*(4*W*E)) (6*(4*W*(4*W)))=Rat.divInt (5*E) 120:=by
 have h1:6*(4*W*(4*W))≠0:=by
  have:=Int.mul_ne_zero hW hW
  have e:6*(4*W*(4*W))=96*(W*W):=by grind
  rw[e];omega
 rw[Rat.divInt_eq_divInt_iff h1 (by decide)]
 grind
theorem MI{call:Nat->List D->Option D}(n:Nat)(l:List V)(d:V)(hc:∀ f xs,f≠10->call f xs=cA (n+1031) f xs)(h10:call 10 []=some (.bool true)):F8 bc call (cd l) (ac d)=some (.bool true):=by
 unfold F8
 rcases Kw (n+1021) l with h|⟨h,hlen,hl,hs,hv,m0,d0,hF0⟩
 ·exact aa (z:=.bool false) ((hc 16 _ (by decide)).trans h) (aa (z:=.bool true) rfl (aa (z:=true) rfl (aa h10 rfl)))
 obtain⟨m,ok,h35,hok⟩:=Rj (n+1029) hl (by omega) d
 refine aa (z:=.bool true) ((hc 16 _ (by decide)).trans h) (aa (z:=.bool false) rfl (aa (z:=false) rfl ?_))
 rw[if_neg (by decide)]
 refine aa ((hc 35 _ (by decide)).trans h35) (aa (z:=cd m) rfl (aa (z:=.bool ok) rfl ?_))
 cases ok with
 | false=>exact aa (z:=.bool true) rfl (aa (z:=true) rfl (xn (aa h10 rfl)))
 | true=>
 refine aa (z:=.bool false) rfl (aa (z:=false) rfl ?_)
 rw[if_neg (by decide)]
 obtain⟨hbd,hm,hml⟩:=hok rfl
 have hlm:m.length=l.length:=by rw[hm,List.length_map]
 have hmov:∀ k,k<l.length->pt m k=V.add (pt l k) d:=fun k hk=>by
  unfold pt
  simp only[hm,List.getD_eq_getElem?_getD,List.getElem?_map,List.getElem?_eq_getElem hk,Option.map_some,Option.getD_some]
 have hsm:BO m:=by unfold BO;rw[hlm];exact zn hmov hs
 obtain⟨L,poly,hL,hP,hF,h18,_⟩:=N9 hl (by omega) hs
 obtain⟨L',poly',hL',hP',hF',h18',_⟩:=N9 hml (by omega) hsm
 have hL2:=hL';have hP2:=hP'
 rw[hlm] at hL2 hP2
 have eT:cc m (L'.map fun q=>(q,poly' q))=dW (fun k=>V.add (pt l k) d) L poly:=by
  rw[qX];exact CD hmov hs hL hL2 hP hP2
 have hpos:=Es hs hL hP ((hL.mem (m0,d0)).2 hF0)
 have hV:ar gw (cc m (L'.map fun q=>(q,poly' q)))=ar gw (cc l (L.map fun q=>(q,poly q))):=by
  rw[eT,qX];exact sA hs hL hP d
 have hM:∀ i,ar (eV i) (cc m (L'.map fun q=>(q,poly' q)))=ar (eV i) (cc l (L.map fun q=>(q,poly q)))+4*cmp i d*ar gw (cc l (L.map fun q=>(q,poly q))):=fun i=>by
  rw[eT,qX];exact AW hs hL hP i d
 have hS:∀ i k,ar (dU i k) (cc m (L'.map fun q=>(q,poly' q)))=ar (dU i k) (cc l (L.map fun q=>(q,poly q)))+5*cmp i d*ar (eV k) (cc l (L.map fun q=>(q,poly q)))+5*cmp k d*ar (eV i) (cc l (L.map fun q=>(q,poly q)))+20*cmp i d*cmp k d*ar gw (cc l (L.map fun q=>(q,poly q))):=fun i k=>by
  rw[eT,qX];exact Ad hs hL hP i k d
 rw[<-qX] at hpos
 have hT:=uw hl hF
 have hT':=uw hml hF'
 have b23:=Mc (n+1021) hl hF (h18 _)
 have b23':=Mc (n+1021) hml hF' (h18' _)
 have b25:=Nx n hl hF h18 (by omega)
 have b25':=Nx n hml hF' h18' (by rw[hV];omega)
 have b28:=NC n hl hF h18
 have b28':=NC n hml hF' h18'
 have vW:=fP hT
 have vA:=fun i=>gP i hT
 have vA':=fun i=>gP i hT'
 have vS:=fun i k=>kZ i k hT
 rw[hV] at b23' b25'
 clear h18 h18' hL hL' hP hP' hL2 hP2 eT hF hF' hT hT'
 have hSf:(fun i k=>ar (dU i k) (cc m (L'.map fun q=>(q,poly' q))))=fun i k=>ar (dU i k) (cc l (L.map fun q=>(q,poly q)))+5*cmp i d*ar (eV k) (cc l (L.map fun q=>(q,poly q)))+5*cmp k d*ar (eV i) (cc l (L.map fun q=>(q,poly q)))+20*cmp i d*cmp k d*ar gw (cc l (L.map fun q=>(q,poly q))):=by
  funext i k;exact hS i k
 rw[hSf] at b28'
 simp only[hM] at b25' vA'
 clear hSf hS hM hV
 generalize cc m (L'.map fun q=>(q,poly' q))=T' at *
 generalize cc l (L.map fun q=>(q,poly q))=T at *
 obtain⟨A,hA⟩:∃ A:Nat->Int,A=fun i=>ar (eV i) T:=⟨_,rfl⟩
 obtain⟨S,hS⟩:∃ S:Nat->Nat->Int,S=fun i k=>ar (dU i k) T:=⟨_,rfl⟩
 have hA':∀ i,ar (eV i) T=A i:=fun i=>by rw[hA]
 have hS':∀ i k,ar (dU i k) T=S i k:=fun i k=>by rw[hS]
 simp only[hA',hS'] at *
 clear hA hS hA' hS'
 generalize ar gw T=W at *
 have hW:W≠0:=by omega
 have hK:(4*W).natAbs<=2^87:=aX (i:=2) (by decide) vW (by decide)
 have hK0:4*W≠0:=by omega
 have hKK:(4*W*(4*W)).natAbs<=2^174:=aX hK hK (by decide)
 have hKK0:4*W*(4*W)≠0:=Int.mul_ne_zero hK0 hK0
 simp only[bd,show MV=262144 from rfl] at hbd
 refine aa ((hc 25 _ (by decide)).trans b25) (aa ((hc 25 _ (by decide)).trans b25') (aa ((hc 23 _ (by decide)).trans b23') (aa ((hc 23 _ (by decide)).trans b23) (aa (z:=false) (by rw[za];rfl) (aa (z:=false) ?_ (aa (z:=false) rfl ?_))))))
 ·rw[if_neg (by decide)]
  have f1:=fun i=>bH (vA i) hK hK0
  have f2:∀ a:Int,(-262144<=a/\a<=262144)->rY (a:Rat) 20 0:=fun a h=>pm (by omega)
  have g1:=f2 _ hbd.1;have g2:=f2 _ hbd.2.1;have g3:=f2 _ hbd.2.2
  refine aa ((hc 31 _ (by decide)).trans (Mf (n+1024) (v:=d) (by simp only[inR];omega) (by simp only[inR];omega) (by simp only[inR];omega))) ?_
  refine aa ((hc 36 _ (by decide)).trans (NO (n+1024) (u:=⟨Rat.divInt (A 0) (4*W),Rat.divInt (A 1) (4*W),Rat.divInt (A 2) (4*W)⟩) (v:=RV.of d) ⟨(f1 0).inR,(f1 1).inR,(f1 2).inR⟩ ⟨g1.inR,g2.inR,g3.inR⟩ ((f1 0).fitA g1) ((f1 1).fitA g2) ((f1 2).fitA g3))) ?_
  have e:∀ (i:Nat) (x:Int),cmp i d=x->Rat.divInt (A i) (4*W)+(x:Rat)=Rat.divInt (A i+4*cmp i d*W) (4*W):=fun i x hx=>by
   have:(x:Rat)=Rat.divInt (4*x*W) (4*W):=by
    rw[<-fm x,Rat.divInt_eq_divInt_iff (by decide) hK0];grind
   rw[this,qw hK0,hx]
  have e2:kj (RV.add ⟨Rat.divInt (A 0) (4*W),Rat.divInt (A 1) (4*W),Rat.divInt (A 2) (4*W)⟩ (RV.of d))=ga fun i=>Rat.divInt (A i+4*cmp i d*W) (4*W):=by
   unfold RV.add RV.of
   simp only[e 0 d.x rfl,e 1 d.y rfl,e 2 d.z rfl]
   rfl
  rw[e2,GN];rfl
 rw[if_neg (by decide)]
 refine aa ((hc 23 _ (by decide)).trans b23) (aa ((hc 34 _ (by decide)).trans (xq (n+1028) (gk 6))) (aa ((hc 37 _ (by decide)).trans (FH (n+1026) (eI vW) (fC (gk 6)) (by decide))) (aa ((hc 28 _ (by decide)).trans b28) (aa ((hc 28 _ (by decide)).trans b28') ?_))))
 have hg:∀ (f:Nat->Nat->Int) i,i<9->(eR f 9)[i]?=some (bw (jW f i)):=fun f i hi=>by simp[eR,hi]
 have hn:=fun f=>rE f 9
 obtain⟨S',hS'⟩:∃ S':Nat->Nat->Int,S'=fun i k=>S i k+5*cmp i d*A k+5*cmp k d*A i+20*cmp i d*cmp k d*W:=⟨_,rfl⟩
 rw[<-hS']
 have gS:=hg S;have gS':=hg S';have nS:=hn S;have nS':=hn S'
 generalize eR S 9=Q at *
 generalize eR S' 9=Q' at *
 refine aa (z:=.sl Q) rfl (aa (z:=Q) rfl (aa (z:=false) (by rw[nS];rfl) (aa (z:=false) ?_ (aa (z:=false) rfl ?_))))
 ·rw[if_neg (by decide)]
  exact aa (z:=.sl Q') rfl (aa (z:=Q') rfl (by rw[nS'];rfl))
 rw[if_neg (by decide)]
 have vB:∀ i,(A i+4*cmp i d*W).natAbs<=2^106:=fun i=>bI (vA' i) (by decide)
 have vA2:∀ i,(A i).natAbs<=2^106:=fun i=>bI (vA i) (by decide)
 obtain⟨B,hB⟩:∃ B:Nat->Int,B=fun i=>A i+4*cmp i d*W:=⟨_,rfl⟩
 have hB':∀ i,A i+4*cmp i d*W=B i:=fun i=>by rw[hB]
 simp only[hB'] at vB ⊢
 refine be (fun i s=>s=[I (i:Int)]) 3 0 (Nat.zero_le _) rfl (fun i hi s hJ=>?_) (fun s hJ=>?_)
 ·subst hJ
  left
  refine⟨_,?_,rfl⟩
  refine aa ag (aa af (aJ (by show(i:Int)<3;omega) ?_))
  refine cT (fun k s=>s=[I (k:Int)]) 3 0 (Nat.zero_le _) rfl (fun k hk s hJ=>?_) (fun s hJ=>?_)
  ·subst hJ
   left
   refine⟨[I ((k+1:Nat):Int)],?_,rfl⟩
   refine aa ag (aa af (aJ (by show(k:Int)<3;omega) ?_))
   have pA:=aX (k:=212) (vA2 i) (vA2 k) (by decide)
   have pB:=aX (k:=212) (vB i) (vB k) (by decide)
   refine aa (fE hi) (aa (uK hi _) (aa (fE hk) (aa (uK hk _) (aa ((hc 38 _ (by decide)).trans (GI (n+1025) (vB i) (vB k) hK hK hK0 hK0)) ?_))))
   refine aa (fE hi) (aa (uK hi _) (aa (fE hk) (aa (uK hk _) (aa ((hc 38 _ (by decide)).trans (GI (n+1025) (vA2 i) (vA2 k) hK hK hK0 hK0)) ?_))))
   refine aa ((hc 39 _ (by decide)).trans (IA (n+1024) pA pB hKK hKK0)) ?_
   have pC:=g8 pA pB
   obtain⟨d1,d2⟩:=H8 (i:=i) hk
   have fin:∀ {C:Int},C.natAbs<=2^216->jW S (3*i+k)+Rat.divInt (W*C) (6*(4*W*(4*W)))=jW S' (3*i+k)->∀ {X:Option (Nat×List D)},X=some (0,[bw (Rat.divInt C (4*W*(4*W)))])->(Option.bind X fun(r54:Nat×List D)=>
     Option.bind (D.get (.st [I 3,I 3,.sl Q]) [2]) fun x55=>
     Option.bind (D.bin .mul (D.int .i64 3) (I (i:Int))) fun x56=>
     Option.bind (D.bin .add x56 (I (k:Int))) fun x57=>
     Option.bind (D.asSl x55) fun l58=>
     Option.bind (D.idx x57 (List.length l58)) fun i59=>
     Option.bind (l58[i59]?) fun x60=>
     Option.bind (call 38 [bw (Rat.divInt W 6),(gx r54.2 0)]) fun r61=>
     Option.bind (call 40 [x60,r61]) fun r62=>
     Option.bind (D.get (.st [I 3,I 3,.sl Q']) [2]) fun x63=>
     Option.bind (D.bin .mul (D.int .i64 3) (I (i:Int))) fun x64=>
     Option.bind (D.bin .add x64 (I (k:Int))) fun x65=>
     Option.bind (D.asSl x63) fun l66=>
     Option.bind (D.idx x65 (List.length l66)) fun i67=>
     Option.bind (l66[i67]?) fun x68=>
     Option.bind (D.truth (D.bool (!(D.beq x68 r62)))) fun b69=>
     if b69 then(some (Sum.inr (0,[(D.bool false)]))) else(Option.bind (D.bin .add (I (k:Int)) (D.int .i64 1)) fun x70=>
     some (Sum.inl (β:=Nat×List D) [x70])))=some (.inl [I ((k+1:Nat):Int)]):=fun{C} hC he {X} hX=>by
    subst hX
    have m1:D.bin .mul (D.int .i64 3) (I (i:Int))=some (I ((3*i:Nat):Int)):=n9 (a:=3) (b:=i) (by omega)
    have m2:D.bin .add (I ((3*i:Nat):Int)) (I (k:Int))=some (I ((3*i+k:Nat):Int)):=aZ (by omega)
    have r1:rY (Rat.divInt W 6) 85 3:=bH vW (by decide) (by decide)
    have r2:rY (Rat.divInt C (4*W*(4*W))) 216 174:=bH hC hKK hKK0
    obtain⟨x,hx⟩:∃ x,x=301:=⟨_,rfl⟩
    have r3:rY (Rat.divInt (W*C) (6*(4*W*(4*W)))) x 177:=bH (aX vW hC (by omega)) (aX (i:=3) (by decide) hKK (by decide)) (Int.mul_ne_zero (by decide) hKK0)
    have r4:=AO vS (3*i+k)
    refine aa (z:=_) rfl (aa (z:=.sl Q) rfl (aa m1 (aa m2 (aa (z:=Q) rfl (aa (z:=3*i+k) (by rw[nS];exact aw (by omega)) (aa (gS _ (by omega)) ?_))))))
    refine aa (z:=bw (Rat.divInt (W*C) (6*(4*W*(4*W))))) ?_ ?_
    ·refine(hc 38 _ (by decide)).trans ((GM (n+1025) r1.inR r2.inR (r1.fitM r2)).trans ?_)
     rw[Rat.divInt_mul_divInt]
    refine aa ((hc 40 _ (by decide)).trans (Hj (n+1025) r4.inR (r3.inR (by omega) (by decide)) (r4.fitA r3 (by decide) (by omega) (by decide)))) ?_
    rw[he]
    refine aa (z:=.sl Q') rfl (aa m1 (aa m2 (aa (z:=Q') rfl (aa (z:=3*i+k) (by rw[nS'];exact aw (by omega)) (aa (gS' _ (by omega)) ?_)))))
    refine aa (z:=false) (by rw[zT];rfl) ?_
    rw[if_neg (by decide)]
    exact aa (aZ (a:=k) (b:=1) (by omega)) rfl
   have alg:∀ C E X Y:Int,C=4*W*E->Y=X+5*E->Rat.divInt X 120+Rat.divInt (W*C) (6*(4*W*(4*W)))=Rat.divInt Y 120:=fun C E X Y h1 h2=>by
    rw[h1,GK hW,qw (by decide),h2]
   by_cases e:i=k
   ·subst e
    have q1:=NX (n+1024) vB hK hK0
    have q2:=NX (n+1024) vA2 hK hK0
    have s1:∀ {Z:Nat->Int},(∀ i,(Z i).natAbs<=2^106)->(Z 0*Z 0+Z 1*Z 1+Z 2*Z 2).natAbs<=2^214:=fun hZ=>
     bG (bG (k:=212) (aX (hZ 0) (hZ 0) (by decide)) (aX (hZ 1) (hZ 1) (by decide))) (bI (aX (k:=212) (hZ 2) (hZ 2) (by decide)) (by decide))
    refine fin (C:=A i*A i-B i*B i+(B 0*B 0+B 1*B 1+B 2*B 2-(A 0*A 0+A 1*A 1+A 2*A 2))) (bG (bI pC (k:=215) (by decide)) (g8 (s1 vB) (s1 vA2))) ?_ ?_
    ·unfold jW
     rw[d1,d2,if_pos rfl,if_pos rfl]
     refine alg _ (-(2*cmp i d*A i+4*W*(cmp i d*cmp i d))+(2*cmp 0 d*A 0+4*W*(cmp 0 d*cmp 0 d))+(2*cmp 1 d*A 1+4*W*(cmp 1 d*cmp 1 d))+(2*cmp 2 d*A 2+4*W*(cmp 2 d*cmp 2 d))) _ _ ?_ ?_
     ·rw[hB];grind
     ·rw[hS'];grind
    ·refine aa (z:=true) (show D.truth (D.bool (D.beq (I (i:Int)) (I (i:Int))))=some true by rw[cb,decide_eq_true rfl];rfl) (xn ?_)
     refine aa ((hc 41 _ (by decide)).trans q1) (aa ((hc 41 _ (by decide)).trans q2) (aa ((hc 39 _ (by decide)).trans (IA (n+1024) (s1 vB) (s1 vA2) hKK hKK0)) ?_))
     exact aa ((hc 40 _ (by decide)).trans (G7 (n+1025) (bI pC (k:=215) (by decide)) (g8 (s1 vB) (s1 vA2)) hKK hKK0)) rfl
   ·refine fin (C:=A i*A k-B i*B k) (bI pC (by decide)) ?_ ?_
    ·unfold jW
     rw[d1,d2,if_neg e,if_neg e]
     refine alg _ (-(cmp k d*A i+cmp i d*A k+4*W*(cmp i d*cmp k d))) _ _ ?_ ?_
     ·rw[hB];grind
     ·rw[hS'];grind
    ·refine aa (z:=false) (show D.truth (D.bool (D.beq (I (i:Int)) (I (k:Int))))=some false by rw[cb,decide_eq_false e];rfl) ?_
     rw[if_neg (by decide)]
  ·subst hJ
   refine⟨(1,[]),aa ag (aa af (aM (by decide) rfl)),?_⟩
   rw[if_neg (show ¬ (1:Nat)=0 by decide)]
   exact aa (aZ (a:=i) (b:=1) (by omega)) rfl
 ·subst hJ
  refine⟨(1,[]),aa ag (aa af (aM (by decide) rfl)),?_⟩
  rw[if_neg (show ¬ (1:Nat)=0 by decide)]
  exact aa h10 rfl
end Go.Proofs.YtjjjkojfijpeeaaGreat.Sy
end
section
namespace Go.Proofs.YtjjjkojfijpeeaaGreat.Sy
open Go Go.Proofs Go.Proofs.YtjjjkojfijpeeaaGreat.Geo
theorem JK:ns 8=some ([K3,K1],.bool):=by kernel_rfl
theorem ctr8{d e:D}(h:wt K3 d)(h':wt K1 e):Dr Tryz.prog [K3,K1] .bool 8 [d,e] (.bool true):=by
 obtain⟨l,rfl⟩:=HX h
 obtain⟨v,rfl⟩:=F9 h'
 refine L8 lJ (wg (0+1031)) (Dl _) [K3,K1] .bool [cd l,ac v] (.bool true) JK ?_ ⟨_,_,rfl,h,_,[],rfl,h',rfl⟩
 exact MI 0 l v (fun f xs hf=>by unfold wg;rw[if_neg hf]) (by unfold wg;rw[if_pos rfl];exact yl)
end Go.Proofs.YtjjjkojfijpeeaaGreat.Sy
end
