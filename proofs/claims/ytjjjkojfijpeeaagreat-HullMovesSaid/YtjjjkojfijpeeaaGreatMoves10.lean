/- Part 10 of the proof that HullMoves answers true at every input -/
import Derived.Test.YtjjjkojfijpeeaaGreatMoves09
import Derived.RangeFuncRecord
import Derived.RangeFuncLeaves
import Derived.RangeFuncSeq
import Derived.KernelRfl
set_option linter.unusedVariables false
set_option linter.unusedSimpArgs false
set_option linter.unnecessarySimpa false
section
set_option linter.unusedVariables false
namespace Go.Proofs.YtjjjkojfijpeeaaGreat.Sy
open Go Go.Proofs Go.Proofs.YtjjjkojfijpeeaaGreat.Geo
theorem q8{α:Type}{body:Bd}{s0:List D}{k:Nat×List D->Option α}{Y:α->Prop}(J:Nat->List D->Prop)(n i0:Nat)(hi:i0<=n)(h0:J i0 s0)
  (hs:∀ i,i<n->∀ s,J i s->∃ z,body s=some z/\match z with|.inl s'=>J (i+1) s'|.inr r=>∃ y,k r=some y/\Y y)
  (he:∀ s,J n s->∃ z,body s=some z/\match z with|.inl _=>False|.inr r=>∃ y,k r=some y/\Y y):∃ y,Option.bind (bc body s0) k=some y/\Y y:=by
 obtain⟨m,hm⟩:∃ m,m=n-i0:=⟨_,rfl⟩
 induction m generalizing i0 s0 with
 | zero=>
  have:i0=n:=by omega
  subst this
  obtain⟨z,h1,h2⟩:=he s0 h0
  cases z with
  | inl s'=>exact h2.elim
  | inr r=>obtain⟨y,h3,h4⟩:=h2;exact⟨y,by rw[show bc body s0=some r from eG h1];exact h3,h4⟩
 | succ m ih=>
  obtain⟨z,h1,h2⟩:=hs i0 (by omega) s0 h0
  cases z with
  | inl s'=>
   obtain⟨y,h3,h4⟩:=ih (i0:=i0+1) (by omega) h2 (by omega)
   exact⟨y,by rw[show bc body s0=bc body s' from dY h1];exact h3,h4⟩
  | inr r=>obtain⟨y,h3,h4⟩:=h2;exact⟨y,by rw[show bc body s0=some r from eG h1];exact h3,h4⟩
theorem cD{α:Type}{body:Bd}{s s':List D}{k:Nat×List D->Option α}{y:α}(h:body s=some (.inl s'))(hk:Option.bind (bc body s') k=some y):Option.bind (bc body s) k=some y:=by
 have:bc body s=bc body s':=dY h
 rw[this];exact hk
theorem iS{α:Type}{body:Bd}{s:List D}{r:Nat×List D}{k:Nat×List D->Option α}{y:α}(h:body s=some (.inr r))(hk:k r=some y):Option.bind (bc body s) k=some y:=by
 have:bc body s=some r:=eG h
 rw[this];exact hk
theorem cT{α:Type}{body:Bd}{s0:List D}{k:Nat×List D->Option α}{y:α}(J:Nat->List D->Prop)(n i0:Nat)(hi:i0<=n)(h0:J i0 s0)
  (hs:∀ i,i<n->∀ s,J i s->(∃ s',body s=some (.inl s')/\J (i+1) s')\/∃ r,body s=some (.inr r)/\k r=some y) (he:∀ s,J n s->∃ r,body s=some (.inr r)/\k r=some y):Option.bind (bc body s0) k=some y:=by
 obtain⟨m,hm⟩:∃ m,m=n-i0:=⟨_,rfl⟩
 induction m generalizing i0 s0 with
 | zero=>
  have:i0=n:=by omega
  subst this
  obtain⟨r,h1,h2⟩:=he s0 h0
  exact iS h1 h2
 | succ m ih=>
  rcases hs i0 (by omega) s0 h0 with⟨s',h1,h2⟩|⟨r,h1,h2⟩
  ·exact cD h1 (ih (i0:=i0+1) (by omega) h2 (by omega))
  ·exact iS h1 h2
theorem aa{α β:Type}{A:Option α}{g:α->Option β}{z:α}{y:β}(h:A=some z)(hk:g z=some y):Option.bind A g=some y:=by
 rw[h];exact hk
theorem kb(u v:V):D.beq (ac u) (ac v)=decide (u=v):=by
 simp only[ac,D.beq,D.beqs,decide_true,Bool.true_and,Bool.and_true]
 by_cases h:u=v
 ·subst h;simp
 ·by_cases h1:u.x=v.x<;>by_cases h2:u.y=v.y<;>by_cases h3:u.z=v.z<;>simp[h,h1,h2,h3]
  exact h (V.ext' h1 h2 h3)
theorem FU(p q:V×Int):D.beq (cg p) (cg q)=decide (p=q):=by
 have:D.beq (cg p) (cg q)=(D.beq (ac p.1) (ac q.1)&&(D.beq (I p.2) (I q.2)&&true)):=rfl
 rw[this,kb,ca]
 obtain⟨a,b⟩:=p
 obtain⟨c,d⟩:=q
 by_cases h1:a=c<;>by_cases h2:b=d<;>simp[h1,h2]
def gL(K:List (V×Int)):List D:=K.map fun q=>.st [cg q,.bool true]
theorem tc:∀ (K:List (V×Int)) (q:V×Int),D.mget (gL K) (cg q)=if q∈K then some (.bool true) else none
 | [],q=>by simp[gL,D.mget]
 | p::K,q=>by
  have ih:=tc K q
  simp only[gL,List.map_cons,D.mget,FU] at ih ⊢
  by_cases h:q=p
  ·simp[h]
  ·rw[ih];simp[h]
theorem sN:∀ (K:List (V×Int)) (q:V×Int),q ∉ K->D.mput (gL K) (cg q) (.bool true)=gL (K++[q])
 | [],q,_=>rfl
 | p::K,q,h=>by
  have ih:=sN K q (fun hq=>h (List.mem_cons_of_mem _ hq))
  have hne:¬ q=p:=fun e=>h (by rw[e];exact List.mem_cons_self)
  simp only[gL,List.map_cons,List.cons_append,D.mput,FU,hne,decide_false,Bool.false_eq_true,if_false] at ih ⊢
  rw[ih]
theorem AG(K:List (V×Int)):(gL K).map rP=K.map cg:=by simp[gL,rP]
def supp(l:List V)(q:V×Int):Bool:=nT l q.1 q.2&&jz l q.1 q.2
def ik(l:List V)(K:List (V×Int))(q:V×Int):List (V×Int):=if q∈K then K else if supp l q then K++[q] else K
theorem rH{l:List V}{K:List (V×Int)}{q x:V×Int}(h:x∈K):x∈ik l K q:=by
 unfold ik
 split
 ·exact h
 ·split
  ·exact List.mem_append_left _ h
  ·exact h
theorem wd{l:List V}{K:List (V×Int)}{q:V×Int}(h:supp l q=true):q∈ik l K q:=by
 unfold ik
 split
 ·assumption
 ·simp
theorem vI{l:List V}{K:List (V×Int)}{q x:V×Int}(h:x∈ik l K q):x∈K\/(x=q/\supp l q=true):=by
 unfold ik at h
 split at h
 ·exact .inl h
 ·split at h
  ·rename_i hs
   rcases List.mem_append.1 h with h|h
   ·exact .inl h
   ·exact .inr ⟨List.mem_singleton.1 h,hs⟩
  ·exact .inl h
theorem pL{l:List V}{K:List (V×Int)}{q:V×Int}(h:K.Nodup):(ik l K q).Nodup:=by
 unfold ik
 split
 ·exact h
 ·rename_i hq
  split
  ·exact List.nodup_append.2 ⟨h,by simp,fun x hx y hy e=>hq (by rw[List.mem_singleton.1 hy] at e;exact e ▸ hx)⟩
  ·exact h
def mH(a b c:V):V×Int:=(bv (V.cross (b.sub a) (c.sub a)),V.dot (bv (V.cross (b.sub a) (c.sub a))) a)
def lj(q:V×Int):V×Int:=(q.1.neg,-q.2)
def Cd(l:List V)(i j k:Nat)(q:V×Int):Prop:=(mH (l.getD i V.zero) (l.getD j V.zero) (l.getD k V.zero)).1≠V.zero/\(q=mH (l.getD i V.zero) (l.getD j V.zero) (l.getD k V.zero)\/q=lj (mH (l.getD i V.zero) (l.getD j V.zero) (l.getD k V.zero)))
structure Known(l:List V)(i j k:Nat)(K:List (V×Int)):Prop where
 nd:K.Nodup
 ok:∀ q∈K,supp l q=true/\∃ i j k,k<j/\j<i/\i<l.length/\Cd l i j k q
 all:∀ i' j' k',k'<j'->j'<i'->i'<l.length->(i'<i\/i'=i/\(j'<j\/j'=j/\k'<k))->∀ q,Cd l i' j' k' q->supp l q=true->q∈K
theorem G5{a b c:V}(ha:bd MV a)(hb:bd MV b)(hc:bd MV c):bd 549755813888 (mH a b c).1/\inR (mH a b c).2/\inR (-(mH a b c).2):=by
 have h1:bd 524288 (b.sub a):=by have:=lQ hb ha;simpa [MV] using this
 have h2:bd 524288 (c.sub a):=by have:=lQ hc ha;simpa [MV] using this
 have h3:=kY (gq h1 h2)
 have h4:=B6 h3 ha
 simp only[MV] at h4
 refine⟨h3,?_,?_⟩<;>simp only[inR,mH]<;>omega
theorem Known.step{l:List V}{i j k:Nat}{K:List (V×Int)}(h:Known l i j k K)(hk:k<j)(hj:j<i)(hi:i<l.length)(hz:(mH (l.getD i V.zero) (l.getD j V.zero) (l.getD k V.zero)).1≠V.zero) :
  Known l i j (k+1) (ik l (ik l K (mH (l.getD i V.zero) (l.getD j V.zero) (l.getD k V.zero))) (lj (mH (l.getD i V.zero) (l.getD j V.zero) (l.getD k V.zero)))):=by
 refine⟨pL (pL h.nd),fun q hq=>?_,fun i' j' k' h1 h2 h3 h4 q hq hs=>?_⟩
 ·rcases vI hq with hq|⟨rfl,hs⟩
  ·rcases vI hq with hq|⟨rfl,hs⟩
   ·exact h.ok q hq
   ·exact⟨hs,i,j,k,hk,hj,hi,hz,.inl rfl⟩
  ·exact⟨hs,i,j,k,hk,hj,hi,hz,.inr rfl⟩
 ·by_cases e:i'=i/\j'=j/\k'=k
  ·obtain⟨rfl,rfl,rfl⟩:=e
   rcases hq.2 with rfl|rfl
   ·exact rH (wd hs)
   ·exact wd hs
  ·exact rH (rH (h.all i' j' k' h1 h2 h3 (by omega) q hq hs))
theorem Known.skip{l:List V}{i j k:Nat}{K:List (V×Int)}(h:Known l i j k K)(hz:(mH (l.getD i V.zero) (l.getD j V.zero) (l.getD k V.zero)).1=V.zero):Known l i j (k+1) K:=by
 refine⟨h.nd,h.ok,fun i' j' k' h1 h2 h3 h4 q hq hs=>?_⟩
 by_cases e:i'=i/\j'=j/\k'=k
 ·obtain⟨rfl,rfl,rfl⟩:=e
  exact absurd hz hq.1
 ·exact h.all i' j' k' h1 h2 h3 (by omega) q hq hs
theorem Known.next{l:List V}{i j:Nat}{K:List (V×Int)}(h:Known l i j j K):Known l i (j+1) 0 K:=
 ⟨h.nd,h.ok,fun i' j' k' h1 h2 h3 h4=>h.all i' j' k' h1 h2 h3 (by omega)⟩
theorem Known.next2{l:List V}{i:Nat}{K:List (V×Int)}(h:Known l i i 0 K):Known l (i+1) 0 0 K:=
 ⟨h.nd,h.ok,fun i' j' k' h1 h2 h3 h4=>h.all i' j' k' h1 h2 h3 (by omega)⟩
theorem me{α β:Type}{f:α->List β}{c:Nat}:∀ l:List α,(∀ x∈l,(f x).length=c)->(l.flatMap f).length=l.length*c
 | [],_=>by simp
 | x::l,h=>by
  rw[List.flatMap_cons,List.length_append,h x List.mem_cons_self,me l (fun y hy=>h y (List.mem_cons_of_mem _ hy)),List.length_cons,Nat.succ_mul]
  omega
theorem Known.len{l:List V}{i j k:Nat}{K:List (V×Int)}(h:Known l i j k K)(hl:l.length<=100):K.length<=2000000:=by
 have h1:=List.Nodup.length_le_of_subset (l₂:=(List.range l.length).flatMap fun i=>(List.range l.length).flatMap fun j=>(List.range l.length).flatMap fun k=>[mH (l.getD i V.zero) (l.getD j V.zero) (l.getD k V.zero),lj (mH (l.getD i V.zero) (l.getD j V.zero) (l.getD k V.zero))]) h.nd (fun q hq=>by
  obtain⟨_,i,j,k,h1,h2,h3,h4⟩:=h.ok q hq
  refine List.mem_flatMap.2 ⟨i,List.mem_range.2 h3,List.mem_flatMap.2 ⟨j,List.mem_range.2 (by omega),List.mem_flatMap.2 ⟨k,List.mem_range.2 (by omega),?_⟩⟩⟩
  rcases h4.2 with rfl|rfl<;>simp)
 rw[me (c:=l.length*(l.length*2)) _ (fun i _=>by rw[me (c:=l.length*2) _ (fun j _=>by rw[me (c:=2) _ (fun k _=>rfl),List.length_range]),List.length_range]),List.length_range] at h1
 refine Nat.le_trans h1 ?_
 have a1:l.length*2<=200:=by omega
 have a2:l.length*(l.length*2)<=100*200:=Nat.mul_le_mul hl a1
 have a3:l.length*(l.length*(l.length*2))<=100*(100*200):=Nat.mul_le_mul hl a2
 exact a3
theorem dF{l:List V}{i:Nat}(h:i<l.length):(l.map ac)[i]?=some (ac (l.getD i V.zero)):=by simp[h,List.getD]
theorem cY{l:List V}{i:Nat}(h:i<l.length):l.getD i V.zero∈l:=by simp[List.getD,h]
theorem A5{n:Nat}{l:List V}{K:List (V×Int)}{q:V×Int}(hl:∀ x∈l,bd MV x)(hq:bd 549755813888 q.1)(hlen:l.length<=1000) :
  (if(!decide (q∈K))=true then(Option.bind (cA (n+2) 98 [aP l,cg q]) fun r=>D.truth r) else some false)=some (!decide (q∈K)&&supp l q):=by
 obtain⟨m,d⟩:=q
 have hc:=QY n (d:=d) hl hq (by decide) (by omega)
 simp only[hc,Option.bind_some,af]
 cases decide ((m,d)∈K)<;>rfl
end Go.Proofs.YtjjjkojfijpeeaaGreat.Sy
end
section
set_option linter.unusedVariables false
namespace Go.Proofs.YtjjjkojfijpeeaaGreat.Sy
open Go Go.Proofs Go.Proofs.YtjjjkojfijpeeaaGreat.Geo
theorem EF{a b:V}(h:aC a b):us [cm a.x b.x,cm a.y b.y,cm a.z b.z]=-1:=by
 simp only[aC] at h
 rcases h with h|⟨h1,h|⟨h2,h⟩⟩
 ·simp[us,cm,h]
 ·simp[us,cm,h1,h]
 ·simp[us,cm,h1,h2,h]
theorem FD{a b:V}(h:aC b a):us [cm a.x b.x,cm a.y b.y,cm a.z b.z]=1:=by
 simp only[aC] at h
 rcases h with h|⟨h1,h|⟨h2,h⟩⟩
 ·simp[us,cm,h,Int.not_lt.2 (Int.le_of_lt h)]
 ·simp[us,cm,h1,h,Int.not_lt.2 (Int.le_of_lt h)]
 ·simp[us,cm,h1,h2,h,Int.not_lt.2 (Int.le_of_lt h)]
theorem DL(a:V):us [cm a.x a.x,cm a.y a.y,cm a.z a.z]=0:=by simp[us,cm]
theorem zQ{α:Type}(key:α->V):∀ (K:List α),K.Pairwise (fun a b=>key a≠key b)->∃ L:List α,L.Perm K/\L.Pairwise (fun a b=>aC (key a) (key b))
 | [],_=>⟨[],.refl _,.nil⟩
 | x::K,h=>by
  obtain⟨h1,h2⟩:=List.pairwise_cons.1 h
  obtain⟨L,p1,p2⟩:=zQ key K h2
  have hne:∀ y∈L,key x≠key y:=fun y hy=>h1 y (p1.subset hy)
  have ins:∀ L:List α,L.Pairwise (fun a b=>aC (key a) (key b))->(∀ y∈L,key x≠key y)->∃ M:List α,M.Perm (x::L)/\M.Pairwise (fun a b=>aC (key a) (key b)):=by
   intro L
   induction L with
   | nil=>intro _ _;exact⟨[x],.refl _,by simp⟩
   | cons y L ih=>
    intro hp hn
    obtain⟨q1,q2⟩:=List.pairwise_cons.1 hp
    rcases nL (hn y List.mem_cons_self) with k|k
    ·refine⟨x::y::L,.refl _,List.pairwise_cons.2 ⟨fun z hz=>?_,hp⟩⟩
     rcases List.mem_cons.1 hz with rfl|hz
     ·exact k
     ·exact ku k (q1 z hz)
    ·obtain⟨M,m1,m2⟩:=ih q2 (fun z hz=>hn z (List.mem_cons_of_mem _ hz))
     refine⟨y::M,(m1.cons y).trans (.swap x y L),List.pairwise_cons.2 ⟨fun z hz=>?_,m2⟩⟩
     rcases List.mem_cons.1 (m1.subset hz) with rfl|hz
     ·exact k
     ·exact q1 z hz
  obtain⟨M,m1,m2⟩:=ins L p2 hne
  exact⟨M,m1.trans (p1.cons x),m2⟩
theorem zl(n:Nat)(p q:V×Int):sd (dO bc (cA (n+3)) (iG bc (cA (n+3)))) 100 (cg p) (cg q)=some (us [cm p.1.x q.1.x,cm p.1.y q.1.y,cm p.1.z q.1.z]):=by
 unfold sd
 rw[show(dO bc (cA (n+3)) (iG bc (cA (n+3)))).call=cA (n+3) from rfl,Ld]
 rfl
theorem BU(n:Nat):∀ (L:List (V×Int)),L.Pairwise (fun a b=>aC a.1 b.1)->kp (dO bc (cA (n+3)) (iG bc (cA (n+3)))) 100 (L.map cg)=true
 | [],_=>rfl
 | p::L,h=>by
  obtain⟨h1,h2⟩:=List.pairwise_cons.1 h
  simp only[List.map_cons,kp,Bool.and_eq_true,List.all_eq_true,List.mem_map]
  refine⟨⟨?_,?_⟩,BU n L h2⟩
  ·simp only[Dn,zl,DL];decide
  ·rintro _ ⟨q,hq,rfl⟩
   simp only[mw,Dn,zl,EF (h1 q hq),FD (h1 q hq)];decide
theorem Dz(n:Nat){K L:List (V×Int)}(hp:L.Perm K)(h:L.Pairwise (fun a b=>aC a.1 b.1)):iN (dO bc (cA (n+3)) (iG bc (cA (n+3)))) 100 (K.map cg)=some (L.map cg):=
 wA (BU n L h) (hp.symm.map _)
def pt(l:List V)(i:Nat):V:=l.getD i V.zero
theorem kL(a b:V):V.dot a.neg b=- V.dot a b:=by simp only[V.dot,V.neg];grind
theorem Cd.dist{l:List V}{i j k:Nat}{q:V×Int}(h:Cd l i j k q):q.2=V.dot q.1 (l.getD i V.zero):=by
 rcases h.2 with rfl|rfl
 ·rfl
 ·simp only[lj,kL];rfl
theorem zm{l:List V}{q:V×Int}(h:supp l q=true){x:V}(hx:x∈l):V.dot q.1 x<=q.2:=by
 simp only[supp,nT,Bool.and_eq_true,List.all_eq_true,decide_eq_true_eq] at h
 exact h.1 x hx
theorem Known.keys{l:List V}{i j k:Nat}{K:List (V×Int)}(h:Known l i j k K):K.Pairwise (fun a b=>a.1≠b.1):=by
 refine List.Pairwise.imp_of_mem (fun{a b} ha hb hab e=>hab ?_) h.nd
 obtain⟨s1,i1,j1,k1,_,_,h1,c1⟩:=h.ok a ha
 obtain⟨s2,i2,j2,k2,_,_,h2,c2⟩:=h.ok b hb
 have e1:=c1.dist
 have e2:=c2.dist
 have l1:=zm s1 (cY h2)
 have l2:=zm s2 (cY h1)
 rw[e] at e1 l1
 exact Prod.ext e (by omega)
theorem Rl(n:Nat){l:List V}(hl:∀ x∈l,bd MV x)(hlen:l.length<=100):∃ y,cA (n+6) 45 [aP l]=some y/\∃ K L:List (V×Int),Known l l.length 0 0 K/\L.Perm K/\L.Pairwise (fun a b=>aC a.1 b.1)/\y=.sl (L.map cg):=by
 rw[Pu]
 unfold Hh
 simp only[aP,D.asSl,Option.bind_some]
 refine q8 (fun i s=>∃ K,s=[I i,.sl (gL K)]/\Known l i 0 0 K) l.length 0 (Nat.zero_le _) ⟨[],rfl,⟨List.nodup_nil,by simp,fun i' j' k' _ _ _ h=>by omega⟩⟩ (fun i hi s hJ=>?_) (fun s hJ=>?_)
 ·obtain⟨K,rfl,hK⟩:=hJ
  simp only[g0,g1,List.length_map,ag,Option.bind_some,af,decide_eq_true_eq,show((i:Int)<(l.length:Int)) from by omega,if_true,D.els]
  refine q8 (fun j s=>∃ K,s=[I j,.sl (gL K)]/\Known l i j 0 K) i 0 (Nat.zero_le _) ⟨K,rfl,hK⟩ (fun j hj s hJ=>?_) (fun s hJ=>?_)
  ·obtain⟨K,rfl,hK⟩:=hJ
   simp only[g0,g1,ag,Option.bind_some,af,decide_eq_true_eq,show((j:Int)<(i:Int)) from by omega,if_true,D.els]
   refine q8 (fun k s=>∃ K,s=[I k,.sl (gL K)]/\Known l i j k K) j 0 (Nat.zero_le _) ⟨K,rfl,hK⟩ (fun k hk s hJ=>?_) (fun s hJ=>?_)
   ·obtain⟨K,rfl,hK⟩:=hJ
    have hthr:=G5 (hl _ (cY hi)) (hl _ (cY (show j<l.length by omega))) (hl _ (cY (show k<l.length by omega)))
    have hc:=Qu (n+2) (hl _ (cY hi)) (hl _ (cY (show j<l.length by omega))) (hl _ (cY (show k<l.length by omega)))
    rw[show(bv (V.cross ((l.getD j V.zero).sub (l.getD i V.zero)) ((l.getD k V.zero).sub (l.getD i V.zero))),V.dot (bv (V.cross ((l.getD j V.zero).sub (l.getD i V.zero)) ((l.getD k V.zero).sub (l.getD i V.zero)))) (l.getD i V.zero))=mH (l.getD i V.zero) (l.getD j V.zero) (l.getD k V.zero) from rfl] at hc
    simp only[g0,g1,ag,Option.bind_some,af,decide_eq_true_eq,show((k:Int)<(j:Int)) from by omega,if_true,D.els,List.length_map,aw hi,aw (show j<l.length by omega),aw (show k<l.length by omega),dF hi,dF (show j<l.length by omega),dF (show k<l.length by omega),hc]
    by_cases hz:(mH (l.getD i V.zero) (l.getD j V.zero) (l.getD k V.zero)).1=V.zero
    ·have hb:D.beq (ac (mH (l.getD i V.zero) (l.getD j V.zero) (l.getD k V.zero)).1) (D.st [D.int .i64 0,D.int .i64 0,D.int .i64 0])=true:=by
      rw[qC,kb];exact decide_eq_true hz
     simp only[show D.get (cg (mH (l.getD i V.zero) (l.getD j V.zero) (l.getD k V.zero))) [0]=some (ac (mH (l.getD i V.zero) (l.getD j V.zero) (l.getD k V.zero)).1) from rfl,Option.bind_some,hb,af,if_true,g0,D.els,av (aF (i:=k) (by omega))]
     exact⟨_,rfl,K,rfl,hK.skip hz⟩
    ·have hb:D.beq (ac (mH (l.getD i V.zero) (l.getD j V.zero) (l.getD k V.zero)).1) (D.st [D.int .i64 0,D.int .i64 0,D.int .i64 0])=false:=by
      rw[qC,kb];exact decide_eq_false hz
     have step:=hK.step hk hj hi hz
     generalize hq:mH (l.getD i V.zero) (l.getD j V.zero) (l.getD k V.zero)=q at *
     obtain⟨b1,b2,b3⟩:=hthr
     have hfl:D.st [ac q.1.neg,I (-q.2)]=cg (lj q):=rfl
     have b4:bd 549755813888 (lj q).1:=qL b1
     simp only[show D.get (cg q) [0]=some (ac q.1) from rfl,show D.get (cg q) [1]=some (I q.2) from rfl,Option.bind_some,hb,af,Bool.false_eq_true,if_false,N7 (n+4) b1 (by decide),oJ b3,hfl]
     have one:∀ (K:List (V×Int)) (p:V×Int),bd 549755813888 p.1->(Option.bind (D.un .not (Option.getD (D.mget (gL K) (cg p)) (D.bool false))) fun x32=>Option.bind (D.truth x32) fun b33=>Option.bind (if b33 then(Option.bind (cA (n+5) 98 [D.sl (l.map ac),cg p]) fun r34=>D.truth r34) else(some false)) fun b36=>
       if b36 then(some ((0:Nat),[(D.sl [cg q,cg (lj q)]),(D.sl (D.mput (gL K) (cg p) (D.bool true)))])) else(some (0,[(D.sl [cg q,cg (lj q)]),(D.sl (gL K))])))=some (0,[D.sl [cg q,cg (lj q)],D.sl (gL (ik l K p))]):=fun K p hp=>by
      rw[tc]
      have ht:=A5 (n:=n+3) (K:=K) hl hp (by omega)
      simp only[aP] at ht
      by_cases hm:p∈K
      ·simp[hm,cU,af,ik]
      ·simp only[hm,if_false,Option.getD_none,cU,Bool.not_false,Option.bind_some,af,if_true,decide_false,Bool.true_and] at ht ⊢
       rw[ht]
       simp only[Option.bind_some,ik,hm,if_false]
       split
       ·rw[sN K p hm]
       ·rfl
     refine⟨.inl [I ((k+1:Nat):Int),.sl (gL (ik l (ik l K q) (lj q)))],?_,_,rfl,step⟩
     refine aa (z:=(0,[.sl (gL (ik l (ik l K q) (lj q)))])) ?_ ?_
     ·refine cD (s':=[.sl [cg q,cg (lj q)],I 1,.sl (gL (ik l K q))]) ?_ (cD (s':=[.sl [cg q,cg (lj q)],I 2,.sl (gL (ik l (ik l K q) (lj q)))]) ?_ (iS (r:=(0,[.sl (gL (ik l (ik l K q) (lj q)))])) ?_ rfl))
      ·simp only[g0,g1,g2,D.els,ag,Option.bind_some,af,decide_eq_true_eq,show((0:Int)<2) from by decide,if_true,List.length_cons,List.length_nil,show D.idx (I 0) (0+1+1)=some 0 from rfl,List.getElem?_cons_zero,av Hi]
       exact aa (one K q b1) rfl
      ·simp only[g0,g1,g2,D.els,ag,Option.bind_some,af,decide_eq_true_eq,show((1:Int)<2) from by decide,if_true,List.length_cons,List.length_nil,show D.idx (I 1) (0+1+1)=some 1 from rfl,List.getElem?_cons_succ,List.getElem?_cons_zero,av my]
       exact aa (one (ik l K q) (lj q) b4) rfl
      ·simp only[g0,g1,g2,D.els,ag,Option.bind_some,af];rfl
     ·simp only[g0,D.els,av (aF (i:=k) (by omega)),Option.bind_some]
      rfl
   ·obtain⟨K,rfl,hK⟩:=hJ
    simp only[g0,g1,ag,Option.bind_some,af,decide_eq_true_eq,Int.lt_irrefl,if_false,D.els]
    refine⟨_,rfl,.inl [I ((j+1:Nat):Int),.sl (gL K)],?_,K,rfl,hK.next⟩
    simp only[g0,D.els,av (aF (i:=j) (by omega)),Option.bind_some]
    rfl
  ·obtain⟨K,rfl,hK⟩:=hJ
   simp only[g0,g1,ag,Option.bind_some,af,decide_eq_true_eq,Int.lt_irrefl,if_false,D.els]
   refine⟨_,rfl,.inl [I ((i+1:Nat):Int),.sl (gL K)],?_,K,rfl,hK.next2⟩
   simp only[g0,D.els,av (aF (i:=i) (by omega)),Option.bind_some]
   rfl
 ·obtain⟨K,rfl,hK⟩:=hJ
  simp only[g0,g1,List.length_map,ag,Option.bind_some,af,decide_eq_true_eq,Int.lt_irrefl,if_false,D.els]
  obtain⟨L,p1,p2⟩:=zQ (fun q:V×Int=>q.1) K hK.keys
  refine⟨_,rfl,.sl (L.map cg),?_,K,L,hK,p1,p2,rfl⟩
  have hKl:(gL K).length<=1073741824:=by
   have:=hK.len hlen
   simp only[gL,List.length_map];omega
  simp only[g0,D.els,hKl,decide_true,if_true,AG,Dz (n+2) p1 p2,Option.bind_some]
end Go.Proofs.YtjjjkojfijpeeaaGreat.Sy
end
section
set_option linter.unusedVariables false
namespace Go.Proofs.YtjjjkojfijpeeaaGreat.Sy
open Go Go.Proofs Go.Proofs.YtjjjkojfijpeeaaGreat.Geo
theorem mP{l:List V}{q:V×Int}:supp l q=true↔xG (pt l) l.length q.1 q.2:=by
 simp only[supp,nT,jz,Bool.and_eq_true,List.all_eq_true,List.any_eq_true,decide_eq_true_eq,xG,pt]
 constructor
 ·rintro⟨h1,x,hx,h2⟩
  obtain⟨k,hk,rfl⟩:=List.getElem_of_mem hx
  exact⟨fun k hk=>h1 _ (cY hk),k,hk,by simpa [List.getD,hk] using h2⟩
 ·rintro⟨h1,k,hk,h2⟩
  refine⟨fun x hx=>?_,_,cY hk,h2⟩
  obtain⟨k,hk,rfl⟩:=List.getElem_of_mem hx
  simpa [List.getD,hk] using h1 k hk
theorem EB(P:Nat->V)(i j k:Nat):V.cross ((P j).sub (P i)) ((P k).sub (P i))=(eE P k j i).neg:=by
 apply V.ext'<;>simp only[eE,wy,V.cross,V.sub,V.neg]<;>grind
theorem vQ{P:Nat->V}{i j k:Nat}:V.dot (bv (eE P i j k)) (P k)=V.dot (bv (eE P i j k)) (P i):=by
 by_cases h:eE P i j k=V.zero
 ·have e0:bv V.zero=V.zero:=by apply V.ext'<;>simp[bv,V.zero]
  rw[h,e0];simp[V.dot,V.zero]
 ·have g:=jt h
  have e:=iE (eE P i j k)
  have t2:V.dot (eE P i j k) (wy P i k)=0:=by simp only[eE,V.dot,V.cross];grind
  rw[e] at t2
  have:(bA (eE P i j k):Int)*V.dot (bv (eE P i j k)) (wy P i k)=0:=by rw[<-t2];simp only[V.dot,V.smul];grind
  have h0:=bB (by omega) this
  rw[dD] at h0
  omega
theorem BC{v:V}(h:v≠V.zero):v.neg≠V.zero:=fun e=>by
 have e1:=congrArg V.x e;have e2:=congrArg V.y e;have e3:=congrArg V.z e
 simp only[V.neg,V.zero] at e1 e2 e3
 exact h (V.ext' (by simp only[V.zero];omega) (by simp only[V.zero];omega) (by simp only[V.zero];omega))
theorem El(l:List V)(i j k:Nat):(mH (pt l i) (pt l j) (pt l k)).1=(bv (eE (pt l) k j i)).neg:=by
 simp only[mH,EB (pt l) i j k,xl]
theorem we(v:V):v.neg.neg=v:=by apply V.ext'<;>simp[V.neg]
theorem BA{l:List V}{i j k:Nat}{q:V×Int}:Cd l i j k q↔eE (pt l) k j i≠V.zero/\(q.1=bv (eE (pt l) k j i)\/q.1=(bv (eE (pt l) k j i)).neg)/\q.2=V.dot q.1 (pt l k):=by
 have e:=El l i j k
 have hd:V.dot (bv (eE (pt l) k j i)) (pt l i)=V.dot (bv (eE (pt l) k j i)) (pt l k):=vQ
 have hz:(mH (pt l i) (pt l j) (pt l k)).1≠V.zero↔eE (pt l) k j i≠V.zero:=by
  rw[e]
  constructor
  ·intro h h0;rw[h0] at h;exact h rfl
  ·intro h;exact BC (pE h)
 constructor
 ·intro h
  have hds:=h.dist
  obtain⟨h1,h2⟩:=h
  refine⟨hz.1 h1,?_⟩
  have hq:q.1=bv (eE (pt l) k j i)\/q.1=(bv (eE (pt l) k j i)).neg:=by
   rcases h2 with rfl|rfl
   ·exact .inr e
   ·left
    show(mH (pt l i) (pt l j) (pt l k)).1.neg=_
    rw[e,we]
  refine⟨hq,?_⟩
  rw[hds]
  rcases hq with hq|hq
  ·rw[hq];exact hd
  ·rw[hq,kL,kL];exact congrArg Neg.neg hd
 ·rintro⟨h1,h2,h3⟩
  refine⟨hz.2 h1,?_⟩
  have e2:(mH (pt l i) (pt l j) (pt l k)).2=V.dot (mH (pt l i) (pt l j) (pt l k)).1 (pt l i):=rfl
  obtain⟨a,b⟩:=q
  simp only at h2 h3
  subst h3
  rcases h2 with rfl|rfl
  ·right
   show _=((mH (pt l i) (pt l j) (pt l k)).1.neg,-(mH (pt l i) (pt l j) (pt l k)).2)
   rw[e2,e,we,kL,hd,Int.neg_neg]
  ·left
   refine Prod.ext e.symm ?_
   show _=(mH (pt l i) (pt l j) (pt l k)).2
   rw[e2,e,kL,kL,hd]
theorem Known.facets{l:List V}{K L:List (V×Int)}(h:Known l l.length 0 0 K)(hp:L.Perm K)(ho:L.Pairwise (fun a b=>aC a.1 b.1)):Facets (pt l) l.length L:=by
 refine⟨ho,fun q=>⟨fun hq=>?_,fun hq=>?_⟩⟩
 ·obtain⟨hs,i,j,k,h1,h2,h3,hc⟩:=h.ok q (hp.subset hq)
  obtain⟨c1,c2,c3⟩:=BA.1 hc
  exact⟨⟨k,j,i,h1,h2,h3,c1,c2,c3⟩,mP.1 hs⟩
 ·obtain⟨⟨i,j,k,h1,h2,h3,c1,c2,c3⟩,hs⟩:=hq
  exact hp.symm.subset (h.all k j i h1 h2 h3 (.inl h3) q (BA.2 ⟨c1,c2,c3⟩) (mP.2 hs))
end Go.Proofs.YtjjjkojfijpeeaaGreat.Sy
end
section
set_option linter.unusedVariables false
namespace Go.Proofs.YtjjjkojfijpeeaaGreat.Sy
open Go Go.Proofs Go.Proofs.YtjjjkojfijpeeaaGreat.Geo
def iW:Option Nat->D
 | none=>I (-1)
 | some b=>I (b:Int)
theorem GE{α:Type}{p:Prop}[Decidable p]{A B:α}(h:p):(if decide p=true then A else B)=A:=by rw[if_pos (decide_eq_true h)]
theorem GF{α:Type}{p:Prop}[Decidable p]{A B:α}(h:¬ p):(if decide p=true then A else B)=B:=by rw[if_neg (by simpa using h)]
theorem aJ{α:Type}{p:Prop}[Decidable p]{A B y:α}(h:p)(hA:A=y):(if decide p=true then A else B)=y:=by rw[if_pos (decide_eq_true h)];exact hA
theorem aM{α:Type}{p:Prop}[Decidable p]{A B y:α}(h:¬ p)(hA:B=y):(if decide p=true then A else B)=y:=by rw[if_neg (by simpa using h)];exact hA
theorem Cr{x:Int}:sg x<0↔x<0:=by unfold sg;split<;>(try split)<;>omega
theorem tU{x:Int}:sg x=0↔x=0:=by unfold sg;split<;>(try split)<;>omega
theorem cb(a b:Nat):D.beq (I (a:Int)) (I (b:Int))=decide (a=b):=by
 rw[ca];by_cases h:a=b<;>simp[h];omega
theorem G0(n:Nat){l:List V}(hl:∀ x∈l,bd MV x){m:V}{d:Int}{a k:Nat}{best:Option Nat}(hm0:m≠V.zero)(ha:a<l.length)(hk:k<l.length)(hb:∀ b,best=some b->b<l.length/\V.dot m (wy (pt l) a b)=0)(hk0:V.dot m (wy (pt l) a k)=0)(X:D) :
  (Option.bind (D.truth (D.bool (D.beq (I (k:Int)) (I (a:Int))))) fun b25=>
  if b25 then(some ((0:Nat),[iW best,X])) else(Option.bind (D.bin .lss (iW best) (D.int .i64 0)) fun x26=>
  Option.bind (D.truth x26) fun b27=>
  if b27 then(some (0,[I (k:Int),X])) else(Option.bind (D.asSl (aP l)) fun l28=>
  Option.bind (D.idx (I (k:Int)) (List.length l28)) fun i29=>
  Option.bind (l28[i29]?) fun x30=>
  Option.bind (D.asSl (aP l)) fun l31=>
  Option.bind (D.idx (I (a:Int)) (List.length l31)) fun i32=>
  Option.bind (l31[i32]?) fun x33=>
  Option.bind (cA (n+4) 103 [x30,x33]) fun r34=>
  Option.bind (D.asSl (aP l)) fun l35=>
  Option.bind (D.idx (iW best) (List.length l35)) fun i36=>
  Option.bind (l35[i36]?) fun x37=>
  Option.bind (D.asSl (aP l)) fun l38=>
  Option.bind (D.idx (I (a:Int)) (List.length l38)) fun i39=>
  Option.bind (l38[i39]?) fun x40=>
  Option.bind (cA (n+4) 103 [x37,x40]) fun r41=>
  Option.bind (D.get (cg (m,d)) [0]) fun x42=>
  Option.bind (cA (n+4) 104 [x42,r41,r34]) fun r43=>
  Option.bind (D.bin .lss r43 (D.int .i64 0)) fun x44=>
  Option.bind (D.truth x44) fun b45=>
  Option.bind (if b45 then(some true) else(Option.bind (D.truth (D.bool (D.beq r43 (D.int .i64 0)))) fun b46=>
  if b46 then(Option.bind (cA (n+4) 101 [r34,r34]) fun r47=>
  Option.bind (cA (n+4) 101 [r41,r41]) fun r48=>
  Option.bind (D.bin .gtr r47 r48) fun x49=>
  D.truth x49) else(some false))) fun b50=>
  Option.bind (D.truth (D.bool b50)) fun b51=>
  if b51 then(some (0,[I (k:Int),X])) else(some (0,[iW best,X])))))=some (0,[iW (dj m (pt l) a best k),X]):=by
 by_cases hka:k=a
 ·subst hka
  have h0:D.beq (I (k:Int)) (I (k:Int))=true:=by rw[cb];simp
  rw[h0,show dj m (pt l) k best k=best from if_pos rfl]
  exact aa (z:=true) rfl (if_pos rfl)
 ·have h0:D.beq (I (k:Int)) (I (a:Int))=false:=by rw[cb];simp[hka]
  rw[h0]
  refine aa (z:=false) rfl ?_
  rw[if_neg (by decide)]
  have hns:∀ b,dj m (pt l) a b k=match b with
   | none=>some k
   | some b=>if oh m (pt l) a b k then some k else some b:=fun b=>if_neg hka
  rw[hns]
  clear hns h0
  cases best with
  | none=>exact aa (z:=.bool true) rfl (aa (z:=true) rfl rfl)
  | some b=>
   obtain⟨hb1,hb2⟩:=hb b rfl
   have c1:=DN (n+2) (hl _ (cY hk)) (hl _ (cY ha)) (by decide)
   have c2:=DN (n+2) (hl _ (cY hb1)) (hl _ (cY ha)) (by decide)
   have w1:bd 524288 (wy (pt l) a k):=lv (hl _ (cY ha)) (hl _ (cY hk))
   have w2:bd 524288 (wy (pt l) a b):=lv (hl _ (cY ha)) (hl _ (cY hb1))
   have e1:(l.getD k V.zero).sub (l.getD a V.zero)=wy (pt l) a k:=rfl
   have e2:(l.getD b V.zero).sub (l.getD a V.zero)=wy (pt l) a b:=rfl
   rw[e1] at c1;rw[e2] at c2
   have c3:=L0 (n+1) (m:=m) w2 w1 (by decide)
   have c4:=Cg (n+3) w1 w1 (by decide)
   have c5:=Cg (n+3) w2 w2 (by decide)
   have hle:=zF hm0 (gR hb2 hk0)
   rw[hle] at c3
   have hlt:¬ ((b:Int)<0):=by omega
   have ll:(l.map ac).length=l.length:=List.length_map ..
   refine aa (z:=.bool false) (by rw[show iW (some b)=I (b:Int) from rfl,ag,decide_eq_false hlt]) (aa (z:=false) rfl ?_)
   rw[if_neg (by decide)]
   refine aa (z:=l.map ac) rfl (aa (z:=k) (by rw[ll];exact aw hk) (aa (dF hk) ?_))
   refine aa (z:=l.map ac) rfl (aa (z:=a) (by rw[ll];exact aw ha) (aa (dF ha) ?_))
   refine aa c1 ?_
   refine aa (z:=l.map ac) rfl (aa (z:=b) (by rw[ll];exact aw hb1) (aa (dF hb1) ?_))
   refine aa (z:=l.map ac) rfl (aa (z:=a) (by rw[ll];exact aw ha) (aa (dF ha) ?_))
   refine aa c2 (aa (z:=ac m) rfl (aa c3 (aa ag (aa af ?_))))
   simp only[Cr,ca,tU,af,Option.bind_some,c4,c5,dV,oh,T]
   by_cases t1:V.dot m (V.cross (wy (pt l) a b) (wy (pt l) a k))<0
   ·simp[t1,iW]
   ·by_cases t2:V.dot m (V.cross (wy (pt l) a b) (wy (pt l) a k))=0
    ·by_cases t3:V.dot (wy (pt l) a b) (wy (pt l) a b)<V.dot (wy (pt l) a k) (wy (pt l) a k)
     ·simp[t2,t3,iW]
     ·simp[t2,t3,iW]
    ·simp[t1,t2,iW]
end Go.Proofs.YtjjjkojfijpeeaaGreat.Sy
end
section
set_option linter.unusedVariables false
namespace Go.Proofs.YtjjjkojfijpeeaaGreat.Sy
open Go Go.Proofs Go.Proofs.YtjjjkojfijpeeaaGreat.Geo
def ab(L:List Nat):List D:=L.map fun(k:Nat)=>I (k:Int)
theorem aj(L:List Nat):(ab L).length=L.length:=List.length_map ..
theorem te{L:List Nat}{t k:Nat}(h:L[t]?=some k):(ab L)[t]?=some (I (k:Int)):=by simp[ab,h]
theorem zC{n:Nat}(h:0<n):D.idx (D.int .i64 0) n=some 0:=aw (i:=0) h
theorem rr{m:V}{P:Nat->V}{a:Nat}:∀ (L:List Nat) (best:Option Nat) (b:Nat),L.foldl (dj m P a) best=some b->b∈L\/best=some b
 | [],best,b,h=>.inr h
 | k::L,best,b,h=>by
  rw[List.foldl_cons] at h
  rcases rr L _ b h with h1|h1
  ·exact .inl (List.mem_cons_of_mem _ h1)
  ·unfold dj at h1
   split at h1
   ·exact .inr h1
   ·split at h1
    ·cases h1;exact .inl List.mem_cons_self
    ·split at h1<;>cases h1
     ·exact .inl List.mem_cons_self
     ·exact .inr rfl
theorem qm{body:Bd}{S:Nat->Nat->Prop}{a:Nat}{G:Nat->Prop}(hS:∀ c b,G c->S c b->b≠a->G b)
  (hstep:∀ (c b:Nat) (out:List Nat),G c->c≠a->S c b->out.length<=1000->body [.sl (ab out),I (c:Int)]=some (.inl [.sl (ab (out++[c])),I (b:Int)]))
  (hend:∀ out:List Nat,body [.sl (ab out),I (a:Int)]=some (.inr (0,[.sl (ab out)]))) :
  ∀ {c:Nat} {p:List Nat},Chain S a c p->G c->c≠a->∀ out:List Nat,(out++p).length<=1000->bc body [.sl (ab out),I (c:Int)]=some (0,[.sl (ab (out++p))])
 | c,_,.done s,hc,hca,out,hl=>by
  have h1:=hstep c a out hc hca s (by simp at hl;omega)
  rw[show bc body [.sl (ab out),I (c:Int)]=bc body [.sl (ab (out++[c])),I (a:Int)] from dY h1]
  exact eG (hend _)
 | c,_,.step (y:=y) (l:=p) s hy k,hc,hca,out,hl=>by
  have h1:=hstep c y out hc hca s (by simp at hl;omega)
  rw[show bc body [.sl (ab out),I (c:Int)]=bc body [.sl (ab (out++[c])),I (y:Int)] from dY h1]
  have:=qm hS hstep hend k (hS c y hc s hy) hy (out++[c]) (by simpa using hl)
  rw[this];simp
theorem jf{P:Nat->V}{i:Nat}{m:V}{d:Int}:aY P (i+1) m d=if V.dot m (P i)=d then aY P i m d++[i] else aY P i m d:=by
 unfold aY
 rw[List.range_succ,List.filter_append]
 by_cases h:V.dot m (P i)=d
 ·simp[h]
 ·simp[h]
theorem Rg(n:Nat){l:List V}(hl:∀ x∈l,bd MV x)(hlen:l.length<=100)(hs:∀ i j,i<j->j<l.length->aC (pt l i) (pt l j)){m:V}{d:Int}(hF:IsF (pt l) l.length m d)(hm:bd 549755813888 m) :
  ∃ p,bu (pt l) l.length m d p/\cA (n+5) 46 [aP l,cg (m,d)]=some (.sl (ab p)):=by
 obtain⟨p,hp,hnd,hmem⟩:=hF.poly hs
 refine⟨p,hp,?_⟩
 have F:=hF.flat hs
 obtain⟨a,ha1,ha,hea,hale,h3⟩:=hF.head hs
 obtain⟨a',ha1',hch⟩:=hp
 rw[ha1] at ha1';cases ha1'
 obtain⟨on,hon⟩:∃ on,aY (pt l) l.length m d=on:=⟨_,rfl⟩
 rw[hon] at F ha1 ha hea hale h3 hch hmem
 have hlt:∀ k∈on,k<l.length:=fun k hk=>by rw[<-hon] at hk;exact(aL.1 hk).1
 have hdk:∀ k∈on,V.dot m (pt l k)=d:=fun k hk=>by rw[<-hon] at hk;exact(aL.1 hk).2
 have hw:∀ b∈on,∀ k∈on,V.dot m (wy (pt l) b k)=0:=fun b hb k hk=>by rw[dD,hdk b hb,hdk k hk];omega
 have honl:on.length<=100:=by
  rw[<-hon];unfold aY
  exact Nat.le_trans (List.length_filter_le _ _) (by rw[List.length_range];exact hlen)
 have hpl:p.length<=on.length:=List.Nodup.length_le_of_subset hnd fun z hz=>((hmem z).1 hz).1
 have ll:(l.map ac).length=l.length:=List.length_map ..
 have hcore:=fun(c k:Nat) (hc:c∈on) (hk:k∈on) (best:Option Nat) (hb:∀ b,best=some b->b∈on) (X:D)=>G0 n hl (d:=d) hF.nz.1 (hlt c hc) (hlt k hk) (best:=best) (fun b e=>⟨hlt b (hb b e),hw c hc b (hb b e)⟩) (hw c hc k hk) X
 have hnx:∀ c∈on,Geo.ed (pt l) on c->∃ b,on.foldl (dj m (pt l) c) none=some b/\Side m (pt l) on c b:=fun c hc ec=>tp F hc ec (h3 c hc)
 obtain⟨t0,hon0⟩:∃ t0,on=a::t0:=by
  cases hx:on with
  | nil=>rw[hx] at ha;simp at ha
  | cons y t0=>rw[hx] at ha1;simp at ha1;subst ha1;exact⟨t0,rfl⟩
 have hget0:(ab on)[0]?=some (I (a:Int)):=by rw[hon0];rfl
 have hpos:0<(ab on).length:=by rw[aj,hon0];simp
 rw[PQ]
 unfold Jl
 refine aa (z:=l.map ac) rfl ?_
 refine be (fun i s=>s=[I (i:Int),.sl (ab (aY (pt l) i m d))]) l.length 0 (Nat.zero_le _) rfl (fun i hi s hJ=>?_) (fun s hJ=>?_)
 ·subst hJ
  left
  refine⟨_,?_,rfl⟩
  refine aa ag (aa af ?_)
  refine aJ (by show((i:Int)<((l.map ac).length:Int));rw[ll];omega) ?_
  refine aa (z:=(0,[.sl (ab (aY (pt l) (i+1) m d))])) ?_ (aa (av (aF (i:=i) (by omega))) rfl)
  refine aa (z:=l.map ac) rfl (aa (z:=i) (by rw[ll];exact aw hi) (aa (dF hi) (aa (z:=ac m) rfl (aa (Cg (n+3) hm (hl _ (cY hi)) (by decide)) (aa (z:=I d) rfl ?_)))))
  rw[ca]
  refine aa af ?_
  rw[jf]
  by_cases hd:V.dot m (pt l i)=d
  ·have hd':V.dot m (l.getD i V.zero)=d:=hd
   rw[if_pos hd,GE hd',if_pos ?_]
   ·simp[g1,D.els,ab,g0]
   ·have:(aY (pt l) i m d).length<=i:=by unfold aY;exact Nat.le_trans (List.length_filter_le _ _) (by simp)
    simp only[g0,g1,D.els,aj,List.length_cons,List.length_nil];omega
  ·have hd':¬ V.dot m (l.getD i V.zero)=d:=hd
   rw[if_neg hd,GF hd']
   rfl
 ·subst hJ
  refine⟨(0,[.sl (ab on)]),?_,?_⟩
  ·refine aa ag (aa af ?_)
   rw[<-hon]
   exact aM (by show ¬ ((l.length:Int)<((l.map ac).length:Int));rw[ll];omega) rfl
  refine aa (zC hpos) (aa hget0 (aa (zC hpos) (aa hget0 ?_)))
  obtain⟨b1,hb1,hs1⟩:=hnx a ha hea
  refine be (fun t s=>s=[iW ((on.take t).foldl (dj m (pt l) a) none),.sl (ab on),I (t:Int),.sl (ab on)]) on.length 0 (Nat.zero_le _) rfl (fun t ht s hJ=>?_) (fun s hJ=>?_)
  ·subst hJ
   left
   refine⟨_,?_,rfl⟩
   refine aa ag (aa af ?_)
   refine aJ (by show((t:Int)<((ab on).length:Int));rw[aj];omega) ?_
   have hk:on[t]?=some on[t]:=List.getElem?_eq_getElem ht
   refine aa (z:=(0,[iW ((on.take (t+1)).foldl (dj m (pt l) a) none),.sl (ab on)])) ?_ (aa (av (aF (i:=t) (by omega))) rfl)
   refine aa (z:=ab on) rfl (aa (z:=t) (by rw[aj];exact aw ht) (aa (te hk) ?_))
   rw[List.take_succ_eq_append_getElem ht,List.foldl_append,List.foldl_cons,List.foldl_nil]
   exact hcore a on[t] ha (List.getElem_mem ht) _ (fun b hb=>by
    rcases rr _ _ b hb with h|h
    ·exact List.mem_of_mem_take h
    ·cases h) (.sl (ab on))
  ·subst hJ
   rw[List.take_length,hb1]
   refine⟨(0,[I (b1:Int),.sl (ab on)]),?_,?_⟩
   ·refine aa ag (aa af ?_)
    refine aM (by show ¬ ((on.length:Int)<((ab on).length:Int));rw[aj];omega) ?_
    rfl
   obtain⟨p',hpp,hch',hy⟩:∃ p',p=a::p'/\Chain (Side m (pt l) on) a b1 p'/\b1≠a:=by
    cases hch with
    | done s=>exact absurd rfl s.ne
    | step s hne k=>
     have:=Side.unique F ha s hs1
     subst this
     exact⟨_,rfl,k,hne⟩
   refine yz (qm (S:=Side m (pt l) on) (a:=a) (G:=fun c=>c∈on/\Geo.ed (pt l) on c) (fun c b hc s _=>⟨s.mem,s.ext F hc.1⟩) (fun c b out hc hca hsd hol=>?_) (fun out=>?_) hch' ⟨hs1.mem,hs1.ext F ha⟩ hy [a] ?_) ?_
   ·obtain⟨b',hb',hsb'⟩:=hnx c hc.1 hc.2
    have:=Side.unique F hc.1 hsd hsb'
    subst this
    refine aa (z:=ab on) rfl (aa (zC hpos) (aa hget0 ?_))
    have e0:D.beq (I (c:Int)) (I (a:Int))=false:=by rw[cb];simp[hca]
    refine aa (z:=true) (by show D.truth (D.bool (!(D.beq (I (c:Int)) (I (a:Int)))))=_;rw[e0];rfl) ?_
    rw[if_pos rfl,if_pos (by simp only[g0,D.els,aj,List.length_cons,List.length_nil];omega)]
    refine aa (z:=ab on) rfl ?_
    refine cT (fun t s=>s=[iW ((on.take t).foldl (dj m (pt l) c) none),I (t:Int)]) on.length 0 (Nat.zero_le _) rfl (fun t ht s hJ=>?_) (fun s hJ=>?_)
    ·subst hJ
     left
     refine⟨_,?_,rfl⟩
     refine aa ag (aa af ?_)
     refine aJ (by show((t:Int)<((ab on).length:Int));rw[aj];omega) ?_
     have hk:on[t]?=some on[t]:=List.getElem?_eq_getElem ht
     refine aa (z:=(0,[iW ((on.take (t+1)).foldl (dj m (pt l) c) none),.sl (ab on)])) ?_ (aa (av (aF (i:=t) (by omega))) rfl)
     refine aa (z:=ab on) rfl (aa (z:=t) (by rw[aj];exact aw ht) (aa (te hk) ?_))
     rw[List.take_succ_eq_append_getElem ht,List.foldl_append,List.foldl_cons,List.foldl_nil]
     exact hcore c on[t] hc.1 (List.getElem_mem ht) _ (fun b hb=>by
      rcases rr _ _ b hb with h|h
      ·exact List.mem_of_mem_take h
      ·cases h) (.sl (ab on))
    ·subst hJ
     rw[List.take_length,hb']
     refine⟨(0,[I (b:Int)]),?_,?_⟩
     ·refine aa ag (aa af ?_)
      refine aM (by show ¬ ((on.length:Int)<((ab on).length:Int));rw[aj];omega) ?_
      rfl
     ·simp[g0,g1,D.els,ab]
   ·refine aa (z:=ab on) rfl (aa (zC hpos) (aa hget0 ?_))
    have e0:D.beq (I (a:Int)) (I (a:Int))=true:=by rw[cb];simp
    refine aa (z:=false) (by show D.truth (D.bool (!(D.beq (I (a:Int)) (I (a:Int)))))=_;rw[e0];rfl) ?_
    rfl
   ·have:([a]++p').length=p.length:=by rw[hpp];rfl
    omega
   ·rw[hpp];rfl
end Go.Proofs.YtjjjkojfijpeeaaGreat.Sy
end
section
set_option linter.unusedVariables false
namespace Go.Proofs.YtjjjkojfijpeeaaGreat.Sy
open Go Go.Proofs Go.Proofs.YtjjjkojfijpeeaaGreat.Geo
def j4(q:V×Int)(p:List Nat):D:=.st [ac q.1,I q.2,.sl (ab p)]
def cd(l:List V):D:=.st [aP l]
def BO(l:List V):Prop:=∀ i j,i<j->j<l.length->aC (pt l i) (pt l j)
theorem GA{l:List V}(hl:∀ x∈l,bd MV x){m:V}{d:Int}(h:IsF (pt l) l.length m d):bd 549755813888 m:=by
 obtain⟨i,j,k,h1,h2,h3,h4,h5,h6⟩:=h.ex
 have hi:=hl _ (cY (show i<l.length by omega))
 have hj:=hl _ (cY (show j<l.length by omega))
 have hk:=hl _ (cY h3)
 have:=kY (gq (lv (P:=pt l) hi hj) (lv (P:=pt l) hi hk))
 rcases h5 with rfl|rfl
 ·exact this
 ·exact qL this
theorem Jh(n:Nat){l:List V}(hl:∀ x∈l,bd MV x)(hlen:l.length<=100)(hs:BO l):∃ (L:List (V×Int)) (poly:V×Int->List Nat),Facets (pt l) l.length L/\(∀ q∈L,bu (pt l) l.length q.1 q.2 (poly q))/\L.length<=2000000 ∧
  cA (n+7) 18 [cd l]=some (.sl (L.map fun q=>j4 q (poly q))):=by
 obtain⟨y,h1,K,L,h2,h3,h4,rfl⟩:=Rl n hl hlen
 have hLF:=h2.facets h3 h4
 have hLl:L.length<=2000000:=by rw[h3.length_eq];exact h2.len hlen
 have hex:∀ q:V×Int,∃ p,q∈L->bu (pt l) l.length q.1 q.2 p/\cA (n+6) 46 [aP l,cg q]=some (.sl (ab p)):=fun q=>by
  by_cases hq:q∈L
  ·have hF:=(hLF.mem q).1 hq
   obtain⟨p,k1,k2⟩:=Rg (n+1) hl hlen hs hF (GA hl hF)
   exact⟨p,fun _=>⟨k1,k2⟩⟩
  ·exact⟨[],fun h=>absurd h hq⟩
 obtain⟨poly,hpoly⟩:∃ poly:V×Int->List Nat,∀ q∈L,bu (pt l) l.length q.1 q.2 (poly q)/\cA (n+6) 46 [aP l,cg q]=some (.sl (ab (poly q))):=⟨fun q=>Classical.choose (hex q),fun q hq=>Classical.choose_spec (hex q) hq⟩
 refine⟨L,poly,hLF,fun q hq=>(hpoly q hq).1,hLl,?_⟩
 have hp:=fun q (hq:q∈L)=>(hpoly q hq).2
 rw[Re]
 unfold IU
 refine aa (z:=aP l) rfl (aa h1 (aa (z:=L.map cg) rfl ?_))
 have ll:(L.map cg).length=L.length:=List.length_map ..
 refine be (fun i s=>s=[.sl ((L.take i).map fun q=>j4 q (poly q)),I (i:Int)]) L.length 0 (Nat.zero_le _) rfl (fun i hi s hJ=>?_) (fun s hJ=>?_)
 ·subst hJ
  left
  refine⟨_,?_,rfl⟩
  refine aa ag (aa af (aJ (by show((i:Int)<((L.map cg).length:Int));rw[ll];omega) ?_))
  have hg:(L.map cg)[i]?=some (cg L[i]):=by simp[hi]
  refine aa (z:=L.map cg) rfl (aa (z:=i) (by rw[ll];exact aw hi) (aa hg ?_))
  refine aa (z:=ac L[i].1) rfl (aa (z:=I L[i].2) rfl (aa (z:=aP l) rfl (aa (hp L[i] (List.getElem_mem hi)) ?_)))
  rw[if_pos (by simp only[g0,D.els,List.length_map,List.length_take,List.length_cons,List.length_nil];omega)]
  refine aa (av (aF (i:=i) (by omega))) ?_
  rw[List.take_succ_eq_append_getElem hi,List.map_append]
  rfl
 ·subst hJ
  refine⟨(0,[.sl ((L.take L.length).map fun q=>j4 q (poly q))]),?_,?_⟩
  ·refine aa ag (aa af (aM (by show ¬ ((L.length:Int)<((L.map cg).length:Int));rw[ll];omega) rfl))
  ·rw[List.take_length];rfl
theorem lT{p:List Nat}{k:Nat}(h:k<p.length):(ab p)[k]?=some (I (p.getD k 0:Nat)):=by simp[ab,List.getD,h]
end Go.Proofs.YtjjjkojfijpeeaaGreat.Sy
end
section
set_option linter.unusedVariables false
namespace Go.Proofs.YtjjjkojfijpeeaaGreat.Sy
open Go Go.Proofs
def dS(nt:Nat)(lk:List Nat)(f:Nat->AV):St:={ tm:=f,ob:=fun _=>none,fresh:=0,dead:=[],nt:=nt,lkS:=lk,lkO:=[] }
section
variable{P:Program}{E:Env}{w0:Root}{S S':Nat->Nat->Prop}{γ:Nat->Option Nat}{β:Nat->Option (Nat×Nat)}{s:St}{a:Act}{w w':World}
theorem Cn(hS:∀ b o,S b o->b<w.heap.size){nt:Nat}{lk:List Nat}{f:Nat->AV}(hsz:a.tmps.size=nt)(hdf:a.defers=[])
  (hf:∀ t,t<nt->AR ⟨w,S,fun _=>none,fun _=>none,fun _=>none,[]⟩ (f t) (a.tmps.getD t undef)) (hu:∀ t,nt<=t->f t=.undef):Rp (cE w S) S (fun _=>none) (fun _=>none) (dS nt lk f) a w:=
 ⟨⟨rfl,rfl,rfl,Nat.le_refl _,Nat.le_refl _,fun _ _=>rfl⟩,fun t ht=>hf t (by rw[<-hsz];exact ht),hsz,hu,fun id o b ho=>(by cases ho),fun id b hb=>(by cases hb),fun id id' b hb=>(by cases hb),fun _ _=>rfl,fun v b e _ hb=>(by cases hb),fun v v' b e e' _ _ hb=>(by cases hb),fun v id b e _ hb=>(by cases hb),fun _ _=>rfl,hS,fun b o hb _=>hb,hdf⟩
theorem Rp.slot(h:Rp w0 S γ β s a w){t:Nat}{x:AV}(hx:s.tm t=x)(hne:x≠.undef):t<a.tmps.size/\AR ⟨w,S,γ,β,s.ob,s.dead⟩ x (a.tmps.getD t undef):=by
 have ht:t<s.nt:=by
  rcases Nat.lt_or_ge t s.nt with k|k
  ·exact k
  ·rw[h.tmu t k] at hx;exact absurd hx.symm hne
 have:=h.tms t (by rw[h.nt];exact ht)
 rw[hx] at this
 exact⟨by rw[h.nt];exact ht,this⟩
theorem zz{c:Cx}{t:Ty}{x:D}{v:Value}(hc:ba t=true)(hl:gI x=true)(h:AR c (.d t x) v):v=bn x:=by
 simp only[AR] at h
 rcases h with⟨_,_,h1,h2⟩|⟨ts,rfl,_⟩
 ·have:D.flat x=[x]:=by cases x<;>simp only[gI] at hl<;>first|(cases hl;done)|rfl
  rw[this] at h2
  have h3:=(bJ (ds:=[x]) (by intro d hd;rw[List.mem_singleton.1 hd];exact hl)).1 h2
  have hs:∀ cs,v≠.agg cs:=by
   cases x<;>simp only[gI] at hl<;>first|(cases hl;done)|exact h1
  exact aq hs h3
 ·simp[ba] at hc
def ox(s:St):List (Nat×Ty)->Option (List D)
 | []=>some []
 | (t,ty)::l=>match s.tm t with
  | .d ty' x=>if ty'.beq ty&&gI x then(ox s l).bind fun r=>some (x::r) else none
  | _=>none
theorem rl:∀ {l:List (Nat×Ty)} {xs:List D},ox s l=some xs->∀ (i t:Nat) (ty:Ty) (x:D),l[i]?=some (t,ty)->xs[i]?=some x->s.tm t=.d ty x/\gI x=true
 | [],xs,h,i,t,ty,x,hi,_=>by simp at hi
 | (t0,ty0)::l,xs,h,i,t,ty,x,hi,hx=>by
  simp only[ox] at h
  split at h<;>first|(cases h;done)|skip
  rename_i ty' x' htm
  split at h<;>first|(cases h;done)|skip
  rename_i hc
  simp only[Bool.and_eq_true] at hc
  have he:=Ty.eq_of_beq _ _ hc.1
  subst he
  obtain⟨r,h1,h2⟩:=bind_some_inv h
  cases h2
  cases i with
  | zero=>simp at hi hx;obtain⟨rfl,rfl⟩:=hi;subst hx;exact⟨htm,hc.2⟩
  | succ i=>exact rl h1 i t ty x (by simpa using hi) (by simpa using hx)
theorem Rp.word(h:Rp w0 S γ β s a w){l:List (Nat×Ty)}{xs:List D}(hs:ox s l=some xs){i t:Nat}{ty:Ty}{x:D}(hi:l[i]?=some (t,ty))(hx:xs[i]?=some x)(hc:ba ty=true):a.tmps.getD t undef=bn x:=by
 obtain⟨h1,h2⟩:=rl hs i t ty x hi hx
 exact zz hc h2 (h.slot h1 (by simp)).2
end
theorem ed.trans{r:Root}{w w':World}{S:Nat->Nat->Prop}(h:ed r w)(k:ed (cE w S) w'):ed r w':=
 ⟨k.tape.trans h.tape,k.os.trans h.os,k.output.trans h.output,Nat.le_trans h.sz k.sz,Nat.le_trans h.dr k.dr,fun b hb=>(k.old b ⟨Nat.lt_of_lt_of_le hb.1 h.sz,fun hf=>hf⟩).trans (h.old b hb)⟩
theorem xj{w W:World}{S0 S:Nat->Nat->Prop}(h:ed (cE w S0) W)(hS:∀ b o,S b o->b<w.heap.size):∀ b o,S b o->W.cell? ⟨b,o,none⟩=w.cell? ⟨b,o,none⟩:=fun b o hb=>by
 have:=h.old b ⟨hS b o hb,fun hf=>hf⟩
 simp only[World.cell?,this];rfl
abbrev i64(n:Int):Value:=.int .i64 n
def rV(e:Ty)(l:List D)(k:Nat)(lk:List Nat):St:=dS 16 lk (fun i=>if i=5 then .d (.sl e) (.sl l) else if i=6 then .d (.int .i64) (.int .i64 (l.length:Nat)) else if i=7 then .d (.int .i64) (.int .i64 (k:Nat)) else .undef)
def kW(l:List (Nat×Ty))(e:Ex)(s:St):Option D:=match e with|.normal=>(ox s l).bind fun r=>some (.tup r)|_=>none
def Au(e:Ty)(x:Ex)(s:St):Option D:=match x with
 | .normal=>match s.tm 4 with
  | .ptr t id []=>match s.ob id with
   | some (.one t' (.d t'' y))=>if t.beq e&&t'.beq e&&t''.beq e then some y else none
   | _=>none
  | _=>none
 | _=>none
theorem ui{l:List (Nat×Ty)}{x:Ex}{s:St}{r:List D}(h:kW l x s=some (.tup r)):x=.normal/\ox s l=some r:=by
 unfold kW at h
 split at h<;>first|(cases h;done)|skip
 obtain⟨r',h1,h2⟩:=bind_some_inv h
 cases h2
 exact⟨rfl,h1⟩
theorem BR{e:Ty}{x:Ex}{s:St}{y:D}(h:Au e x s=some y):x=.normal/\∃ id,s.tm 4=.ptr e id []/\s.ob id=some (.one e (.d e y)):=by
 unfold Au at h
 split at h<;>first|(cases h;done)|skip
 split at h<;>first|(cases h;done)|skip
 rename_i t id htm
 split at h<;>first|(cases h;done)|skip
 rename_i t' t'' y' hob
 split at h<;>first|(cases h;done)|skip
 rename_i hc
 simp only[Bool.and_eq_true] at hc
 cases h
 have e1:=Ty.eq_of_beq _ _ hc.1.1;have e2:=Ty.eq_of_beq _ _ hc.1.2;have e3:=Ty.eq_of_beq _ _ hc.2
 subst e1;subst e2;subst e3
 exact⟨rfl,id,htm,hob⟩
theorem cJ{a:Act}{t:Nat}{v:Value}(h:t<a.tmps.size):(a.put (some t) v).tmps.getD t undef=v:=by
 simp[Act.put,Array.getD,h]
theorem dG{a:Act}{t u:Nat}{v:Value}(h:u≠t):(a.put (some u) v).tmps.getD t undef=a.tmps.getD t undef:=bV (fun e=>h (by cases e;rfl))
theorem aT{a:Act}{d:Option Nat}{v:Value}:(a.put d v).defers=a.defers:=by cases d<;>rfl
theorem lX{n:Int}(h1:0<=n)(h2:n<9223372036854775807):IntKind.wrap .i64 n=n:=by
 simp only[IntKind.wrap,IntKind.signed,IntKind.bits]
 first
  | omega
  | (simp;omega)
theorem gF{P:Program}{ro:Option Nat}{nn:Nat}{ops:Array Oper}{o:Oper}{rest:List Oper}{a:Act}{w:World}{K:Value->World->Prop}{Q:Exit->Act->World->Prop}(hg:o.guard=none)(h:cN P o a w K)
  (hk:∀ v w',K v w'->wpListIn (FW ro) nn P ops Q rest (a.put o.dst v) w'):wpListIn (FW ro) nn P ops Q (o::rest) a w:=by
 simp only[wpListIn,Region.wanted,hg,if_true]
 exact bg h hk
theorem BX{P:Program}{ro:Option Nat}{nn:Nat}{ops:Array Oper}{o:Oper}{rest:List Oper}{a:Act}{w:World}{Q:Exit->Act->World->Prop}(hg:o.guard=none)(h:o.wpIn (FW ro) nn P a w (wpListIn (FW ro) nn P ops Q rest) Q):wpListIn (FW ro) nn P ops Q (o::rest) a w:=by
 simp only[wpListIn,Region.wanted,hg,if_true]
 exact h
set_option maxHeartbeats 1000000 in
theorem CH{P:Program}{E:Env}(hE:EnvOk P E){nn:Nat}{e:Ty}(hce:ba e=true)(hne:am e=true){l:List D}(hwt:∀ x∈l,wt e x)(hlen:l.length<=1073741824){w:World}{S S0:Nat->Nat->Prop}(hS:∀ b o,S b o->b<w.heap.size)
  {f151 L B:Nat} {fn:Func} {sv:Value} (hB:∀ W,ed (cE w S0) W->W.cell? ⟨B,0,none⟩=some sv) (hsv:CR w S (.sl l) sv) (J:Nat->World->Prop) (hJe:∀ k W,J k W->ed (cE w S0) W) (hJ:∀ k W os d,J k W->W.drawn<=d->J k (aA W os d))
  (hY:∀ k x W v,l[k]?=some x->J k W->(∀ c:Cx,AR c (.d e x) v)->YieldAt (FW none) (nn-1) P L #[v] W fun en W'=>en=.returned (.bool true)/\J (k+1) W')
  (hfn:P.funcs[f151]?=some fn) {i0 i1 i2 i3 i4 b0 b1:Nat} {R0 R1 R2 R3 R4:Array Oper} (hbody:fn.body=some (.seq (.region i0 R0 false) (.block b0 (.loop (.seq (.region i1 R1 false) (.seq (.cond (.tmp 8) .skip (.exit b0)) (.seq (.block b1 (.seq (.region i2 R2 false) (.seq (.region i3 R3 false) (.cond (.tmp 14) .ret .skip)))) (.region i4 R4 false))))))))
  (hnt:fn.ntmps=16) (hres:fn.results=#[])
  {Ts Te:Nat} (hTs:E.L Ts=some (.sl e)) (hTe:E.L Te=some e) {y1 y11 y12 y13 y14:TypeId} {p1 p11 p12 p13 p14:String} {f1 f11 f12 f13 f14:Array Edge} {rest0:List Oper} {ats:Array TypeId} {Tb:TypeId}
  (hR0:R0.toList=⟨some 5,.load Ts (.tmp 1),y1,p1,f1,none⟩::rest0) (hr0:∀ x∈rest0,x.guard=none)
  (hR3:R3.toList=[⟨some 11,.move (.tmp 0),y11,p11,f11,none⟩,⟨some 12,.load Te (.tmp 4),y12,p12,f12,none⟩,⟨some 13,.call ⟨.value (.tmp 11),#[.tmp 12],ats⟩,y13,p13,f13,none⟩,⟨some 14,.unOp .not Tb (.tmp 13),y14,p14,f14,none⟩])
  (hv0:ev E (.region 0 rest0.toArray false) .leaf D (dS 16 [0,5] (fun i=>if i=5 then .d (.sl e) (.sl l) else .undef)) (kW [(6,.int .i64),(7,.int .i64)])=some (.tup [.int .i64 (l.length:Nat),.int .i64 0]))
  (hv1:∀ k:Nat,ev E (.region i1 R1 false) .leaf D (rV e l k [0,5,6,7]) (kW [(7,.int .i64),(8,.bool)])=some (.tup [.int .i64 (k:Nat),.bool (decide ((k:Int)<(l.length:Nat)))]))
  (hv2:∀ k:Nat,ev E (.region i2 R2 false) .leaf D (rV e l k [0,5,6,7]) (Au e)=(D.idx (.int .i64 (k:Nat)) l.length).bind fun i=>l[i]?)
  (hv4:∀ k:Nat,ev E (.region i4 R4 false) .leaf D (rV e l k [0,5,6]) (kW [(7,.int .i64)])=(D.bin .add (.int .i64 (k:Nat)) (.int .i64 1)).bind fun x=>some (.tup [x]))
  {W0:World} (h0:J 0 W0):CallsIn (FW none) nn P f151 #[.func (.yield L) #[] #[],.pointer (some ⟨B,0,none⟩)] W0 fun en W'=>(∃ v,en=.returned v)/\J l.length W':=by
 refine callsIn_of_wp hfn hbody trivial ?_
 generalize ha0:Act.mk _ _=a0
 have hsz0:a0.tmps.size=16:=by rw[<-ha0];simp[hnt]
 have e0:a0.tmps.getD 0 undef=.func (.yield L) #[] #[]:=by rw[<-ha0,hnt];rfl
 have e1:a0.tmps.getD 1 undef=.pointer (some ⟨B,0,none⟩):=by rw[<-ha0,hnt];rfl
 have hd0:a0.defers=[]:=by rw[<-ha0]
 clear ha0
 have hcr:∀ W,ed (cE w S0) W->CR W S (.sl l) sv:=fun W hW=>hsv.mono (xj hW hS) fun _ _ hb=>hb
 obtain⟨ad,cap,svb,svo,rfl,_,_,_⟩:=hsv.elems
 have ARsv:∀ (W:World),ed (cE w S0) W->AR ⟨W,S,fun _=>none,fun _=>none,fun _=>none,[]⟩ (.d (.sl e) (.sl l)) (.slice ad l.length cap):=fun W hW=>.inl ⟨by simp only[am];exact hne,⟨l,rfl,hwt⟩,jG (hcr W hW)⟩
 have hSW:∀ (W:World),ed (cE w S0) W->∀ b o,S b o->b<W.heap.size:=fun W hW b o hb=>Nat.lt_of_lt_of_le (hS b o hb) hW.sz
 have ARint:∀ (c:Cx) (n:Int),AR c (.d (.int .i64) (.int .i64 n)) (.int .i64 n):=fun c n=>.inl ⟨rfl,⟨n,rfl⟩,fun _ h=>(by cases h),(bJ (ds:=[.int .i64 n]) (by intro d hd;rw[List.mem_singleton.1 hd];rfl)).2 rfl⟩
 have hX0:=hJe 0 W0 h0
 have lay:=fun T t h=>(hE.lay T t h).resolve_left
 refine wpIn_seq (wpIn_region_list ?_)
 rw[hR0]
 have hls:bx P (.sl e) Ts=true:=(hE.lay Ts _ hTs).resolve_left (by rintro⟨ts,h⟩;cases h)
 obtain⟨v5,hrun5,hv5⟩:=dZ (P:=P) hls (w:=W0) (b:=B) (off:=0) (cs:=[.slice ad l.length cap]) rfl (by intro v hv;rw[List.mem_singleton.1 hv];rfl) (fun i c hi=>by
  cases i with
  | zero=>simp at hi;subst hi;exact hB W0 hX0
  | succ i=>simp at hi)
 have hv5':v5=.slice ad l.length cap:=aq (hv5.2.2 rfl) hv5.1
 subst hv5'
 refine gF (K:=fun v w1=>v=.slice ad l.length cap/\W0=w1) rfl (cN.value (et (m:=Instr.loadAt Ts (.pointer (some ⟨B,0,none⟩))) ?_ hrun5) ⟨rfl,rfl⟩) ?_
 ·show(Instr.loadAt Ts (a0.eval (.tmp 1)) >>= fun r=>pure (Next.value r))=_
  rw[show a0.eval (.tmp 1)=.pointer (some ⟨B,0,none⟩) from e1]
 rintro _ _ ⟨rfl,rfl⟩
 obtain⟨a1,ha1⟩:∃ a1,a0.put (some 5) (.slice ad l.length cap)=a1:=⟨_,rfl⟩
 have q1:a1.tmps.size=16:=by rw[<-ha1,ap];exact hsz0
 have q2:a1.tmps.getD 0 undef=.func (.yield L) #[] #[]:=by rw[<-ha1,dG (by decide)];exact e0
 have q3:a1.tmps.getD 5 undef=.slice ad l.length cap:=by rw[<-ha1];exact cJ (by rw[hsz0];decide)
 have q4:a1.defers=[]:=by rw[<-ha1,aT];exact hd0
 show wpListIn (FW none) nn P R0 _ rest0 (a0.put (some 5) (.slice ad l.length cap)) W0
 rw[ha1]
 clear ha1 e0 e1 hd0 hsz0
 refine lH (ops:=rest0.toArray) rest0 _ _ hr0 ?_
 have RA:=Cn (lk:=[0,5]) (f:=fun i=>if i=5 then .d (.sl e) (.sl l) else .undef) (hSW _ hX0) q1 q4 (fun t ht=>by
  by_cases h5:t=5
  ·subst h5;rw[if_pos rfl,q3];exact ARsv _ hX0
  ·rw[if_neg h5];simp only[AR]) (fun t ht=>by rw[if_neg (by omega)])
 have key:=zO (ro:=none) (nn:=nn) hE (Q:=Exit.then ((Code.block b0 (.loop (.seq (.region i1 R1 false) (.seq (.cond (.tmp 8) .skip (.exit b0)) (.seq (.block b1 (.seq (.region i2 R2 false) (.seq (.region i3 R3 false) (.cond (.tmp 14) .ret .skip)))) (.region i4 R4 false)))))).wpIn (FW none) nn P (bodyPost P fn fun en W'=>(∃ v,en=.returned v)/\J l.length W')) (bodyPost P fn fun en W'=>(∃ v,en=.returned v)/\J l.length W')) RA hv0 ?_
 ·simpa using key
 clear RA
 intro x s' S' γ' β' a2 w2 g1 g2 g3 g4
 obtain⟨rfl,g5⟩:=ui g4
 obtain⟨os,dd,hdd,rfl⟩:=cj g1.ext (fun _ hf=>hf)
 have hJ2:=hJ 0 _ os dd h0 hdd
 have w6:=g1.word g5 (i:=0) (t:=6) rfl rfl rfl
 have w7:=g1.word g5 (i:=1) (t:=7) rfl rfl rfl
 have w0':a2.tmps.getD 0 undef=.func (.yield L) #[] #[]:=(g2.slots 0 (by simp[dS])).trans q2
 have w5:a2.tmps.getD 5 undef=.slice ad l.length cap:=(g2.slots 5 (by simp[dS])).trans q3
 have hsz2:a2.tmps.size=16:=by rw[g1.nt,g3.nt];rfl
 have hdf2:=g1.df
 clear g1 g2 g3 g4 g5 q1 q2 q3 q4
 show Code.wpIn (FW none) nn P _ _ a2 (aA W0 os dd)
 refine wpIn_block ?_
 refine js (m:=l.length) (fun m a W=>∃ k,m+k=l.length/\J k W/\a.tmps.size=16/\a.defers=[]/\a.tmps.getD 0 undef=.func (.yield L) #[] #[]/\a.tmps.getD 5 undef=.slice ad l.length cap/\a.tmps.getD 6 undef=.int .i64 (l.length:Nat)/\a.tmps.getD 7 undef=.int .i64 (k:Nat))
  ⟨0,rfl,hJ2,hsz2,hdf2,w0',w5,w6,w7⟩ ?_
 clear w0' w5 w6 w7 hsz2 hdf2 hJ2 hdd
 rintro m a W ⟨k,hmk,hJk,c1,c2,c3,c4,c5,c6⟩
 have hX:=hJe k W hJk
 have mk:∀ (a:Act) (W:World) (lk:List Nat),ed (cE w S0) W->a.tmps.size=16->a.defers=[]->a.tmps.getD 5 undef=.slice ad l.length cap->a.tmps.getD 6 undef=.int .i64 (l.length:Nat)->a.tmps.getD 7 undef=.int .i64 (k:Nat)->Rp (cE W S) S (fun _=>none) (fun _=>none) (rV e l k lk) a W:=fun a W lk hX c1 c2 c4 c5 c6=>
  Cn (hSW W hX) c1 c2 (fun t ht=>by
   by_cases h5:t=5
   ·subst h5;rw[if_pos rfl,c4];exact ARsv W hX
   ·rw[if_neg h5]
    by_cases h6:t=6
    ·subst h6;rw[if_pos rfl,c5];exact ARint _ _
    ·rw[if_neg h6]
     by_cases h7:t=7
     ·subst h7;rw[if_pos rfl,c6];exact ARint _ _
     ·rw[if_neg h7];simp only[AR]) (fun t ht=>by rw[if_neg (by omega),if_neg (by omega),if_neg (by omega)])
 refine wpIn_seq (eO hE _ .leaf D _ _ (mk a W _ hX c1 c2 c4 c5 c6) (hv1 k) fun x s' S' γ' β' a3 w3 g1 g2 g3 g4=>?_)
 obtain⟨rfl,g5⟩:=ui g4
 obtain⟨os3,d3,hd3,rfl⟩:=cj g1.ext (fun _ hf=>hf)
 have hJ3:=hJ k _ os3 d3 hJk hd3
 have hX3:=hJe k _ hJ3
 have w7:=g1.word g5 (i:=0) (t:=7) rfl rfl rfl
 have w8:=g1.word g5 (i:=1) (t:=8) rfl rfl rfl
 have w0':a3.tmps.getD 0 undef=.func (.yield L) #[] #[]:=(g2.slots 0 (by simp[rV,dS])).trans c3
 have w5:a3.tmps.getD 5 undef=.slice ad l.length cap:=(g2.slots 5 (by simp[rV,dS])).trans c4
 have w6:a3.tmps.getD 6 undef=.int .i64 (l.length:Nat):=(g2.slots 6 (by simp[rV,dS])).trans c5
 have hsz3:a3.tmps.size=16:=by rw[g1.nt,g3.nt];rfl
 have hdf3:=g1.df
 clear g1 g2 g3 g4 g5
 simp only[uY,Exit.then]
 by_cases hk:k<l.length
 rotate_left
 ·
  have hkl:k=l.length:=by omega
  subst hkl
  refine wpIn_seq (wpIn_cond_false (w8.trans (by rw[decide_eq_false (by omega)];rfl)) (wpIn_exit ?_))
  simp only[Exit.then,Exit.inBlock,if_true]
  exact⟨hdf3,_,results_none hres _ _ _,⟨_,rfl⟩,hJ3⟩
 refine wpIn_seq (wpIn_cond_true (w8.trans (by rw[decide_eq_true (by omega)];rfl)) (wpIn_skip ?_))
 simp only[Exit.then]
 have hx:=List.getElem?_eq_getElem hk
 obtain⟨x,hxd⟩:∃ x,l[k]=x:=⟨_,rfl⟩
 rw[hxd] at hx
 have hv2':ev E (.region i2 R2 false) .leaf D (rV e l k [0,5,6,7]) (Au e)=some x:=by
  rw[hv2 k]
  simp only[D.idx]
  rw[if_pos (by omega)]
  simpa using hx
 refine wpIn_seq (wpIn_block (wpIn_seq (eO hE _ .leaf D _ _ (mk a3 _ _ hX3 hsz3 hdf3 w5 w6 w7) hv2' fun y s' S' γ' β' a4 w4 g1 g2 g3 g4=>?_)))
 obtain⟨rfl,id,g5,g6⟩:=BR g4
 obtain⟨os4,d4,hd4,hw4⟩:=cj g1.ext (fun _ hf=>hf)
 have hJ4:=hJ k _ os4 d4 hJ3 hd4
 have v0:a4.tmps.getD 0 undef=.func (.yield L) #[] #[]:=(g2.slots 0 (by simp[rV,dS])).trans w0'
 have v5:a4.tmps.getD 5 undef=.slice ad l.length cap:=(g2.slots 5 (by simp[rV,dS])).trans w5
 have v6:a4.tmps.getD 6 undef=.int .i64 (l.length:Nat):=(g2.slots 6 (by simp[rV,dS])).trans w6
 have hsz4:a4.tmps.size=16:=by rw[g1.nt,g3.nt];rfl
 have v7:a4.tmps.getD 7 undef=.int .i64 (k:Nat):=(g2.slots 7 (by simp[rV,dS])).trans w7
 have hnt4:s'.nt=16:=by rw[g3.nt];rfl
 have hlk4:s'.lkS=[0,5,6,7]:=g3.lkS
 have hdf4:=g1.df
 clear g2 g4
 simp only[uY,Exit.then]
 refine wpIn_seq (wpIn_region_list ?_)
 rw[hR3]
 refine gF (K:=fun v w1=>v=.func (.yield L) #[] #[]/\w4=w1) rfl (cN.value (v:=a4.eval (.tmp 0)) (w':=w4) rfl ⟨v0,rfl⟩) ?_
 rintro _ _ ⟨rfl,rfl⟩
 have R5:=g1.put (v:=.undef) (val:=.func (.yield L) #[] #[]) (by simp[AR]) (some 11)
 have pf:=St.put_fields s' (some 11) .undef
 have hev:nG E (s'.put (some 11) .undef) ⟨some 12,.load Te (.tmp 4),y12,p12,f12,none⟩ some=some ((s'.put (some 11) .undef).put (some 12) (.d e x)):=by
  have t4:(s'.put (some 11) .undef).tm 4=.ptr e id []:=(qG (by simp)).trans g5
  have hee:e.beq e=true:=Ty.beq_refl' e
  simp only[nG,qv,hTe,Option.bind_some,St.opA,t4,hee,if_true,pf.1,g6,gD,sa]
 obtain⟨s5,k1,k2⟩:=uM hE R5 (o:=⟨some 12,.load Te (.tmp 4),y12,p12,f12,none⟩) (ut rfl) (fun T t h=>by rcases h with h|⟨y,h⟩<;>cases h) (fun t ht=>by rw[pf.2.2.2.2.1,hlk4] at ht;intro h;cases h;simp at ht) (fun T x y h=>by cases h) hev
 cases k1
 obtain⟨_,_,_,_,_,r6⟩:=k2
 refine gF rfl r6 ?_
 rintro v w5 ⟨S5,γ5,β5,m1,m2,_⟩
 have hax:=(m1.slot (t:=12) (x:=.d e x) (kT (by rw[pf.2.2.2.1,hnt4];decide)) (by simp)).2
 have hsz5:(a4.put (some 11) (.func (.yield L) #[] #[])).tmps.size=16:=by rw[ap];exact hsz4
 rw[show((a4.put (some 11) (.func (.yield L) #[] #[])).put (some 12) v).tmps.getD 12 undef=v from cJ (by rw[hsz5];decide)] at hax
 have ARx:∀ c:Cx,AR c (.d e x) v:=fun c=>by
  simp only[AR] at hax ⊢
  rcases hax with⟨z1,z2,z3⟩|⟨ts,rfl,_⟩
  ·exact .inl ⟨z1,z2,po hce z2 z3⟩
  ·simp[ba] at hce
 obtain⟨os5,d5,hd5,hw5⟩:=cj m1.ext (fun _ hf=>hf)
 have hJ5:J k w5:=by rw[hw5];exact hJ k _ os5 d5 hJ3 hd5
 obtain⟨a5,ha5⟩:∃ a5,(a4.put (some 11) (.func (.yield L) #[] #[])).put (some 12) v=a5:=⟨_,rfl⟩
 have u11:a5.tmps.getD 11 undef=.func (.yield L) #[] #[]:=by rw[<-ha5,dG (by decide)];exact cJ (by rw[hsz4];decide)
 have If:a5.tmps.getD 12 undef=v:=by rw[<-ha5];exact cJ (by rw[hsz5];decide)
 have u:∀ t,t≠11->t≠12->a5.tmps.getD t undef=a4.tmps.getD t undef:=fun t h1 h2=>by rw[<-ha5,dG (Ne.symm h2),dG (Ne.symm h1)]
 have usz:a5.tmps.size=16:=by rw[<-ha5,ap];exact hsz5
 have udf:a5.defers=[]:=by rw[<-ha5,aT,aT];exact hdf4
 show wpListIn (FW none) nn P R3 _ _ ((a4.put (some 11) (.func (.yield L) #[] #[])).put (some 12) v) w5
 rw[ha5]
 clear ha5 m1 m2 r6 hev R5 g1 hax
 obtain⟨fn',tmps',as',bd',hy,hR⟩:=hY k x w5 v hx hJ5 ARx
 refine BX rfl ⟨fun _ _=>trivial,?_⟩
 have hrun:((⟨some 13,.call ⟨.value (.tmp 11),#[.tmp 12],ats⟩,y13,p13,f13,none⟩:Oper).semAt (FW none).round a5.eval).run P w5=.ok (.round L fn' tmps' as' bd') w5:=by
  have e11:a5.eval (.tmp 11)=.func (.yield L) #[] #[]:=u11
  have e12:a5.eval (.tmp 12)=v:=If
  show(execOp a5.eval ⟨some 13,.call ⟨.value (.tmp 11),#[.tmp 12],ats⟩,y13,p13,f13,none⟩).run P w5=_
  simp only[execOp,resolve,e11,e12,List.map_toArray,List.map_cons,List.map_nil]
  simpa [Deferred.ofValue,invoke,go_sem] using hy
 rw[hrun]
 simp only[Oper.uponIn]
 refine⟨fun h=>(by cases h),hR.mono ?_⟩
 rintro en w6 ⟨rfl,hJ6⟩
 have hX6:=hJe _ _ hJ6
 obtain⟨a6,ha6⟩:∃ a6,a5.put (some 13) (.bool true)=a6:=⟨_,rfl⟩
 have t13:a6.tmps.getD 13 undef=.bool true:=by rw[<-ha6];exact cJ (by rw[usz];decide)
 have tt:∀ t,t≠13->a6.tmps.getD t undef=a5.tmps.getD t undef:=fun t h=>by rw[<-ha6,dG (Ne.symm h)]
 have tsz:a6.tmps.size=16:=by rw[<-ha6,ap];exact usz
 have tdf:a6.defers=[]:=by rw[<-ha6,aT];exact udf
 show wpListIn (FW none) nn P R3 _ _ (a5.put (some 13) (.bool true)) w6
 rw[ha6]
 have R7:=Cn (lk:=[]) (f:=fun i=>if i=13 then .d .bool (.bool true) else .undef) (hSW _ hX6) tsz tdf (fun t ht=>by
  by_cases h5:t=13
  ·subst h5;rw[if_pos rfl,t13];exact .inl ⟨rfl,⟨true,rfl⟩,fun _ h=>(by cases h),(bJ (ds:=[.bool true]) (by intro d hd;rw[List.mem_singleton.1 hd];rfl)).2 rfl⟩
  ·rw[if_neg h5];simp only[AR]) (fun t ht=>by rw[if_neg (by omega)])
 obtain⟨s7,k1,k2⟩:=uM hE R7 (o:=⟨some 14,.unOp .not Tb (.tmp 13),y14,p14,f14,none⟩) (ut rfl) (fun T t h=>by rcases h with h|⟨y,h⟩<;>cases h) (fun t ht=>by simp[dS] at ht) (fun T x y h=>by cases h) (K:=some)
  (r:=(dS 16 [] (fun i=>if i=13 then .d .bool (.bool true) else .undef)).put (some 14) (.d .bool (.bool false))) rfl
 cases k1
 obtain⟨_,_,_,_,_,r7⟩:=k2
 refine gF rfl r7 ?_
 rintro v w7 ⟨S7,γ7,β7,m1,m2,_⟩
 have hb:=zz rfl rfl (m1.slot (t:=14) (x:=.d .bool (.bool false)) (kT (by decide)) (by simp)).2
 obtain⟨os7,d7,hd7,hw7⟩:=cj m1.ext (fun _ hf=>hf)
 have hJ7:J (k+1) w7:=by rw[hw7];exact hJ _ _ os7 d7 hJ6 hd7
 have hX7:=hJe _ _ hJ7
 obtain⟨a7,ha7⟩:∃ a7,a6.put (some 14) v=a7:=⟨_,rfl⟩
 have z:∀ t,t≠14->a7.tmps.getD t undef=a6.tmps.getD t undef:=fun t h=>by rw[<-ha7,dG (Ne.symm h)]
 have zsz:a7.tmps.size=16:=by rw[<-ha7,ap];exact tsz
 have zdf:a7.defers=[]:=by rw[<-ha7,aT];exact tdf
 show Exit.then _ _ .normal (a6.put (some 14) v) w7
 rw[show(a6.put (some 14) v).tmps.getD 14 undef=a7.tmps.getD 14 undef by rw[ha7]] at hb
 rw[ha7]
 simp only[Exit.then]
 refine wpIn_cond_false hb (wpIn_skip ?_)
 simp only[Exit.inBlock,Exit.then]
 have keep:∀ t,t≠11->t≠12->t≠13->t≠14->a7.tmps.getD t undef=a4.tmps.getD t undef:=fun t h1 h2 h3 h4=>(z t h4).trans ((tt t h3).trans (u t h1 h2))
 clear m1 m2 R7 r7 ha7 ha6
 have hv4':ev E (.region i4 R4 false) .leaf D (rV e l k [0,5,6]) (kW [(7,.int .i64)])=some (.tup [.int .i64 ((k+1:Nat):Int)]):=by
  rw[hv4 k]
  simp only[D.bin,if_true]
  rw[show IntKind.wrap .i64 ((k:Int)+1)=((k+1:Nat):Int) from by rw[show((k:Int)+1)=((k+1:Nat):Int) by omega];exact lX (by omega) (by omega)]
  rfl
 refine eO hE _ .leaf D _ _ (mk a7 w7 [0,5,6] hX7 zsz zdf ((keep 5 (by decide) (by decide) (by decide) (by decide)).trans v5) ((keep 6 (by decide) (by decide) (by decide) (by decide)).trans v6) ((keep 7 (by decide) (by decide) (by decide) (by decide)).trans v7))
  hv4' fun y s' S' γ' β' a8 w8 g1 g2 g3 g4=>?_
 obtain⟨rfl,g5⟩:=ui g4
 obtain⟨os8,d8,hd8,rfl⟩:=cj g1.ext (fun _ hf=>hf)
 have w7':=g1.word g5 (i:=0) (t:=7) rfl rfl rfl
 simp only[uY]
 refine⟨m-1,by omega,k+1,by omega,hJ _ _ os8 d8 hJ7 hd8,by rw[g1.nt,g3.nt];rfl,g1.df,?_,?_,?_,w7'⟩
 ·exact(g2.slots 0 (by simp[rV,dS])).trans ((keep 0 (by decide) (by decide) (by decide) (by decide)).trans v0)
 ·exact(g2.slots 5 (by simp[rV,dS])).trans ((keep 5 (by decide) (by decide) (by decide) (by decide)).trans v5)
 ·exact(g2.slots 6 (by simp[rV,dS])).trans ((keep 6 (by decide) (by decide) (by decide) (by decide)).trans v6)
end Go.Proofs.YtjjjkojfijpeeaaGreat.Sy
end
section
set_option linter.unusedVariables false
namespace Go.Proofs.YtjjjkojfijpeeaaGreat.Sy
open Go Go.Proofs
open Go.ChangeMaps (setBlock)
def mv(s:St)(e:Ty)(id:Nat):Option (List D):=match s.ob id with
 | some (.one t X)=>if t.beq (.sl e) then(match X with
  | .own e' v l=>if e'.beq e&&!(s.dead.contains v) then some l else none
  | .nils=>some []
  | _=>none) else none
 | _=>none
theorem rB{s:St}{e:Ty}{id:Nat}{L:List D}(h:mv s e id=some L):∃ X,s.ob id=some (.one (.sl e) X)/\((X=.nils/\L=[])\/∃ v,X=.own e v L/\v ∉ s.dead):=by
 unfold mv at h
 split at h<;>first|(cases h;done)|skip
 rename_i t X hob
 split at h<;>first|(cases h;done)|skip
 rename_i ht
 have:=Ty.eq_of_beq _ _ ht;subst this
 split at h<;>first|(cases h;done)|skip
 ·rename_i e' v l
  split at h<;>first|(cases h;done)|skip
  rename_i hb
  simp only[Bool.and_eq_true,Bool.not_eq_true'] at hb
  have:=Ty.eq_of_beq _ _ hb.1;subst this
  cases h
  exact⟨_,hob,.inr ⟨v,rfl,by simpa using hb.2⟩⟩
 ·cases h
  exact⟨_,hob,.inl ⟨rfl,rfl⟩⟩
def γR(L K B:Nat):Nat->Option Nat:=fun i=>if i=0 then some L else if i=1 then some K else if i=2 then some B else none
theorem uo{L K B id b:Nat}(h:γR L K B id=some b):(id=0/\b=L)\/(id=1/\b=K)\/(id=2/\b=B):=by
 unfold γR at h
 split at h
 ·rename_i e;cases h;exact .inl ⟨e,rfl⟩
 ·split at h
  ·rename_i e;cases h;exact .inr (.inl ⟨e,rfl⟩)
  ·split at h
   ·rename_i e;cases h;exact .inr (.inr ⟨e,rfl⟩)
   ·cases h
def σR(nt t:Nat)(e:Ty)(X:AV):St:={ tm:=fun i=>if i=t then .ptr (.sl e) 2 [] else .undef,ob:=fun i=>if i=2 then some (.one (.sl e) X) else none,fresh:=0,dead:=[],nt:=nt,lkS:=[],lkO:=[0,1] }
def ld(dead:List Nat):AV->Bool
 | .d t _=>ba t
 | .own t v _=>ba t&&!(dead.contains v)
 | .ptr ..=>true
 | .nils=>true
 | .undef=>true
 | _=>false
section
variable{P:Program}{E:Env}{r:Root}
theorem CG{w:World}{S:Nat->Nat->Prop}{e:Ty}(hce:ba e=true){l:List D}(hwt:∀ x∈l,wt e x){ad:Option Addr}{n cap L K:Nat}(h:CR w S (.sl l) (.slice ad n cap))(hb:∀ b off,ad=some ⟨b,off,none⟩->b≠L/\b≠K) :
  CR w (fun b i=>S b i/\b≠L/\b≠K) (.sl l) (.slice ad n cap):=by
 obtain⟨ad',cap',b',off',e1,e2,e3,cs,e4,e5⟩:=h.elems
 cases e1
 by_cases hL:l=[]
 ·subst hL;exact CR.of_elems (b:=0) (off:=0) (.inl rfl) e3 ⟨[],cR.nil,by simp⟩
 ·have e2:ad=some ⟨b',off',none⟩:=e2.resolve_left hL
  have hb':=hb _ _ e2
  have lf:=fl hce l hwt
  exact CR.of_elems (.inr e2) e3 ⟨cs,(bJ lf).2 ((bJ lf).1 e4),fun i c hc=>⟨⟨(e5 i c hc).1,hb'⟩,(e5 i c hc).2⟩⟩
theorem Bq{c:Cx}{ob':Nat->Option Ob}{L K:Nat}(hβ:∀ v b e,v ∉ c.dead->c.β v=some (b,e)->b≠L/\b≠K)(hob:∀ i o,ob' i=some o->c.ob i=some o){a:AV}{cs:List Value}(hp:ld c.dead a=true)(h:AC c a cs) :
  AC ⟨c.w,fun b i=>c.S b i/\b≠L/\b≠K,c.γ,c.β,ob',c.dead⟩ a cs:=by
 cases a<;>simp only[ld] at hp<;>first|(cases hp;done)|skip
 case d t x=>
  simp only[AC] at h ⊢
  have lf:=fo t x hp h.1
  exact⟨h.1,h.2.1,(bJ lf).2 ((bJ lf).1 h.2.2)⟩
 case own t v l=>
  simp only[Bool.and_eq_true,Bool.not_eq_true'] at hp
  have hd:v ∉ c.dead:=by simpa using hp.2
  simp only[AC] at h ⊢
  obtain⟨n0,n1,ad,cap,rfl,n4,n5⟩:=h
  refine⟨n0,n1,ad,cap,rfl,CG hp.1 n1 n4 fun b off hb=>?_,n5⟩
  rcases n5 hd with q|⟨b',off',q1,q2,q3⟩
  ·rw[q.1] at hb;cases hb
  ·rw[q1] at hb;cases hb;exact hβ v _ _ hd q2
 case nils=>simpa only[AC] using h
 case ptr t id p=>
  simp only[AC] at h ⊢
  obtain⟨b,off,rfl,k1,k2⟩:=h
  exact⟨b,off,rfl,k1,fun o ho=>k2 o (hob _ _ ho)⟩
 case undef=>simp only[AC]
theorem G4{c:Cx}{ob':Nat->Option Ob}{L K:Nat}(hβ:∀ v b e,v ∉ c.dead->c.β v=some (b,e)->b≠L/\b≠K)(hob:∀ i o,ob' i=some o->c.ob i=some o){a:AV}{v:Value}(hp:ld c.dead a=true)(h:AR c a v) :
  AR ⟨c.w,fun b i=>c.S b i/\b≠L/\b≠K,c.γ,c.β,ob',c.dead⟩ a v:=by
 have hp':=hp
 cases a<;>simp only[ld] at hp<;>first|(cases hp;done)|skip
 case d t x=>
  simp only[AR] at h ⊢
  rcases h with⟨k1,k2,k3⟩|⟨ts,rfl,_⟩
  ·exact .inl ⟨k1,k2,po hp k2 k3⟩
  ·simp[ba] at hp
 case undef=>simp only[AR]
 all_goals
  simp only[AR] at h ⊢
  exact⟨h.1,Bq hβ hob hp' h.2⟩
def St.only(s:St)(ids:List Nat):St:={ s with ob:=fun i=>if ids.contains i then s.ob i else none }
def zy(dead:List Nat):Option Ob->Bool
 | some (.one _ X)=>ld dead X
 | none=>true
 | _=>false
def mN(s:St)(ids:List Nat):Bool:=(List.range s.nt).all (fun t=>ld s.dead (s.tm t))&&ids.all fun i=>zy s.dead (s.ob i)
theorem Rp.shrink{S:Nat->Nat->Prop}{γ:Nat->Option Nat}{β:Nat->Option (Nat×Nat)}{s:St}{a:Act}{w:World}(h:Rp r S γ β s a w){L K:Nat}(hβ:∀ v b e,v ∉ s.dead->β v=some (b,e)->b≠L/\b≠K){ids:List Nat}(hp:mN s ids=true) :
  Rp r (fun b i=>S b i/\b≠L/\b≠K) γ β (s.only ids) a w:=by
 simp only[mN,Bool.and_eq_true,List.all_eq_true,List.mem_range] at hp
 have hob:∀ i o,(s.only ids).ob i=some o->s.ob i=some o/\i∈ids:=fun i o ho=>by
  simp only[St.only] at ho
  split at ho
  ·rename_i hc;exact⟨ho,by simpa using hc⟩
  ·cases ho
 refine⟨h.ext,fun t ht=>G4 (c:=⟨w,S,γ,β,s.ob,s.dead⟩) hβ (fun i o ho=>(hob i o ho).1) (hp.1 t (by rw[<-h.nt];exact ht)) (h.tms t ht),h.nt,h.tmu,fun id o b ho hb=>?_,h.γn,h.γi,h.γf,fun v b e hv hb=>⟨(h.βn v b e hv hb).1,(h.βn v b e hv hb).2.1,fun o ho hs=>(h.βn v b e hv hb).2.2 o ho hs.1⟩,h.βi,h.βγ,h.βf,fun b o hb=>h.Sb b o hb.1,fun b o hb=>h.So b o hb.1,h.df⟩
 obtain⟨h1,h2⟩:=hob id o ho
 have hO:=h.obs id o b h1 hb
 have hpo:=hp.2 id h2
 rw[h1] at hpo
 cases o<;>simp only[zy] at hpo<;>first|(cases hpo;done)|skip
 simp only[ip] at hO ⊢
 obtain⟨q1,q2,q3,cs,q4,q5,q6⟩:=hO
 exact⟨q1,q2,fun o hs=>q3 o hs.1,cs,q4,Bq (c:=⟨w,S,γ,β,s.ob,s.dead⟩) hβ (fun i o ho=>(hob i o ho).1) hpo q5,q6⟩
theorem Rp.stdO{S:Nat->Nat->Prop}{γ:Nat->Option Nat}{β:Nat->Option (Nat×Nat)}{s:St}{a:Act}{w:World}(h:Rp r S γ β s a w){L K B id:Nat}(hL:¬ r.Old L/\L<w.heap.size)(hK:¬ r.Old K/\K<w.heap.size)(hLK:L≠K)
  (hβ:∀ v b e,v ∉ s.dead->β v=some (b,e)->b≠L/\b≠K) {e:Ty} (hce:ba e=true) (hid:γ id=some B) (hB:B≠L/\B≠K) {l:List D} (hv:mv s e id=some l)
  {aR:Act} {nt t:Nat} (hsz:aR.tmps.size=nt) (ht:t<nt) (hp:aR.tmps.getD t undef=.pointer (some ⟨B,0,none⟩)) (hdf:aR.defers=[]) :
  ∃ β' X,xM e l X/\Rp r (fun b i=>S b i/\b≠L/\b≠K) (γR L K B) β' (σR nt t e X) aR w:=by
 obtain⟨X0,ho,hX0⟩:=rB hv
 have hO:=h.obs id _ B ho hid
 simp only[ip] at hO
 obtain⟨q1,q2,q3,cs,q4,q5,q6⟩:=hO
 have hBn:=h.γn id B hid
 have γn':∀ id b,γR L K B id=some b->¬ r.Old b/\b<w.heap.size:=fun id b hb=>by
  rcases uo hb with⟨_,rfl⟩|⟨_,rfl⟩|⟨_,rfl⟩
  ·exact hL
  ·exact hK
  ·exact hBn
 have γi':∀ id id' b,γR L K B id=some b->γR L K B id'=some b->id=id':=fun id id' b hb hb'=>by
  rcases uo hb with⟨k1,k2⟩|⟨k1,k2⟩|⟨k1,k2⟩<;>rcases uo hb' with⟨k3,k4⟩|⟨k3,k4⟩|⟨k3,k4⟩<;>first
   | omega
   | (exfalso;have:=hB.1;have:=hB.2;omega)
 have γf':∀ id,0*4096+4096<=id->γR L K B id=none:=fun id hid=>by
  unfold γR;rw[if_neg (by omega),if_neg (by omega),if_neg (by omega)]
 have tms':∀ (β':Nat->Option (Nat×Nat)) (X:AV),∀ t',t'<aR.tmps.size->AR ⟨w,fun b i=>S b i/\b≠L/\b≠K,γR L K B,β',(σR nt t e X).ob,[]⟩ ((σR nt t e X).tm t') (aR.tmps.getD t' undef):=fun β' X t' ht'=>by
  show AR _ (if t'=t then AV.ptr (.sl e) 2 [] else .undef) _
  by_cases hh:t'=t
  ·subst hh
   rw[if_pos rfl,hp]
   simp only[AR,AC]
   refine⟨fun cs hcs=>(by cases hcs),B,0,rfl,rfl,fun o ho'=>?_⟩
   have:(σR nt t' e X).ob 2=some (.one (.sl e) X):=rfl
   rw[this] at ho'
   cases ho'
   exact⟨rfl,rfl⟩
  ·rw[if_neg hh];simp only[AR]
 have tmu':∀ X t',nt<=t'->(σR nt t e X).tm t'=.undef:=fun X t' ht'=>by
  show(if t'=t then AV.ptr (.sl e) 2 [] else .undef)=_
  rw[if_neg (by omega)]
 have ob':∀ X i o,(σR nt t e X).ob i=some o->i=2/\o=.one (.sl e) X:=fun X i o ho'=>by
  have:(if i=2 then some (Ob.one (.sl e) X) else none)=some o:=ho'
  split at this
  ·rename_i hi;cases this;exact⟨hi,rfl⟩
  ·cases this
 have γ2:∀ b,γR L K B 2=some b->b=B:=fun b hb=>by cases hb;rfl
 rcases hX0 with⟨rfl,rfl⟩|⟨v,rfl,hd⟩
 ·refine⟨fun _=>none,.nils,.inl ⟨rfl,rfl⟩,h.ext,tms' _ _,hsz,tmu' _,fun i o b ho' hb=>?_,γn',γi',γf',fun v b e _ hb=>(by cases hb),fun v v' b e e' _ _ hb=>(by cases hb),fun v id b e _ hb=>(by cases hb),fun _ _=>rfl,fun b i hb=>h.Sb b i hb.1,fun b i hb=>h.So b i hb.1,hdf⟩
  obtain⟨rfl,rfl⟩:=ob' _ i o ho'
  have:=γ2 b hb;subst this
  simp only[ip]
  exact⟨q1,q2,fun o hs=>q3 o hs.1,cs,q4,by simpa only[AC] using q5,q6⟩
 ·simp only[AC] at q5
  obtain⟨n0,n1,ad,cap,rfl,n4,n5⟩:=q5
  refine⟨fun i=>if i=5 then β v else none,.own e 5 l,.inr rfl,h.ext,tms' _ _,hsz,tmu' _,fun i o b ho' hb=>?_,γn',γi',γf',fun u b e' _ hb=>?_,fun u u' b e' e'' _ _ hb hb'=>?_,fun u id' b e' _ hb hid'=>?_,fun u hu=>?_,fun b i hb=>h.Sb b i hb.1,fun b i hb=>h.So b i hb.1,hdf⟩
  ·obtain⟨rfl,rfl⟩:=ob' _ i o ho'
   have:=γ2 b hb;subst this
   simp only[ip]
   refine⟨q1,q2,fun o hs=>q3 o hs.1,_,q4,?_,q6⟩
   simp only[AC]
   refine⟨n0,n1,ad,cap,rfl,CG hce n1 n4 fun b' off hb'=>?_,fun _=>?_⟩
   ·rcases n5 hd with q|⟨b2,off',k1,k2,k3⟩
    ·rw[q.1] at hb';cases hb'
    ·rw[k1] at hb';cases hb';exact hβ v _ _ hd k2
   ·rcases n5 hd with q|⟨b2,off',k1,k2,k3⟩
    ·exact .inl q
    ·exact .inr ⟨b2,off',k1,by simpa using k2,k3⟩
  ·have hb:(if u=5 then β v else none)=some (b,e'):=hb
   split at hb
   ·obtain⟨k1,k2,k3⟩:=h.βn v b e' hd hb
    exact⟨k1,k2,fun i hi hs=>k3 i hi hs.1⟩
   ·cases hb
  ·have hb:(if u=5 then β v else none)=some (b,e'):=hb
   have hb':(if u'=5 then β v else none)=some (b,e''):=hb'
   split at hb<;>split at hb'<;>first|(cases hb;done)|(cases hb';done)|omega
  ·have hb:(if u=5 then β v else none)=some (b,e'):=hb
   split at hb
   ·have:=hβ v b e' hd hb
    rcases uo hid' with⟨_,q⟩|⟨_,q⟩|⟨_,q⟩
    ·exact this.1 q
    ·exact this.2 q
    ·exact h.βγ v id b e' hd hb (q ▸ hid)
   ·cases hb
  ·have hu':4096<=u:=by simpa [σR,St.base] using hu
   show(if u=5 then β v else none)=none
   rw[if_neg (by omega)]
def kO(e:Ty)(t:Nat)(x:Ex)(s:St):Option D:=match x with
 | .normal=>match s.tm t with
  | .ptr ty id []=>if ty.beq (.sl e) then(mv s e id).bind fun l=>some (.sl l) else none
  | _=>none
 | _=>none
theorem Gy{e:Ty}{t:Nat}{x:Ex}{s:St}{l:List D}(h:kO e t x s=some (.sl l)):x=.normal/\∃ id,s.tm t=.ptr (.sl e) id []/\mv s e id=some l:=by
 unfold kO at h
 split at h<;>first|(cases h;done)|skip
 split at h<;>first|(cases h;done)|skip
 rename_i ty id htm
 split at h<;>first|(cases h;done)|skip
 rename_i ht
 have:=Ty.eq_of_beq _ _ ht;subst this
 obtain⟨l',h1,h2⟩:=bind_some_inv h
 cases h2
 exact⟨rfl,id,htm,h1⟩
def kI(e:Ty)(x:Ex)(s:St):Option D:=match x with|.normal=>(mv s e 2).bind fun l=>some (.sl l)|_=>none
theorem Hd{e:Ty}{x:Ex}{s:St}{l:List D}(h:kI e x s=some (.sl l)):x=.normal/\mv s e 2=some l:=by
 unfold kI at h
 split at h<;>first|(cases h;done)|skip
 obtain⟨l',h1,h2⟩:=bind_some_inv h
 cases h2
 exact⟨rfl,h1⟩
def ph(s:St)(t:Nat):List Nat:=match s.tm t with|.ptr _ id _=>[2,id]|_=>[2]
def BM(P:Program)(r:Root)(e:Ty)(l:List D)(g:Nat)(lb:Array Value):Prop:=
 ∀ (nn L:Nat) (J:Nat->World->Prop),(∀ k W,J k W->ed r W)->(∀ k W os d,J k W->W.drawn<=d->J k (aA W os d)) ->
  (∀ k x W v,l[k]?=some x->J k W->(∀ c:Cx,AR c (.d e x) v)->YieldAt (FW none) (nn-1) P L #[v] W fun en W'=>en=.returned (.bool true)/\J (k+1) W') ->
  ∀ W0,J 0 W0->CallsIn (FW none) nn P g (#[.func (.yield L) #[] #[]]++lb) W0 fun en W'=>(∃ v,en=.returned v)/\J l.length W'
def nX(r:Root)(e:Ty)(l:List D)(v:Value)(W:World):Prop:=
 ∃ X S β,xM e l X/\Rp r S (fun _=>none) β (dS 1 [] (fun i=>if i=0 then X else .undef)) ⟨#[v],[]⟩ W
theorem HA{a:Act}{w:World}(hX:ed r w){nt:Nat}{lk:List Nat}{f:Nat->AV}(hsz:a.tmps.size=nt)(hdf:a.defers=[])
  (hf:∀ t,t<nt->AR ⟨w,fun _ _=>False,fun _=>none,fun _=>none,fun _=>none,[]⟩ (f t) (a.tmps.getD t undef)) (hu:∀ t,nt<=t->f t=.undef):Rp r (fun _ _=>False) (fun _=>none) (fun _=>none) (dS nt lk f) a w:=
 ⟨hX,fun t ht=>hf t (by rw[<-hsz];exact ht),hsz,hu,fun id o b ho=>(by cases ho),fun id b hb=>(by cases hb),fun id id' b hb=>(by cases hb),fun _ _=>rfl,fun v b e _ hb=>(by cases hb),fun v v' b e e' _ _ hb=>(by cases hb),fun v id b e _ hb=>(by cases hb),fun _ _=>rfl,fun b o hb=>hb.elim,fun b o hb _=>hb.elim,hdf⟩
end
end Go.Proofs.YtjjjkojfijpeeaaGreat.Sy
end
section
set_option linter.unusedVariables false
namespace Go.Proofs.YtjjjkojfijpeeaaGreat.Sy
open Go Go.Proofs
open Go.ChangeMaps (setBlock)
open Go.RowKit
section
variable{P:Program}{E:Env}{r:Root}
set_option maxHeartbeats 1000000 in
theorem rQ(hE:EnvOk P E){nn:Nat}{e:Ty}(hce:ba e=true){l:List D}(hwt:∀ x∈l,wt e x)(hlen:l.length<=1073741824){g:Nat}{lb:Array Value}(hIt:BM P r e l g lb)
  (eg:∀ args w,(callFunc g args).run P w=.ok (.enter g args) w)
  {f:Nat} {fn:Func} (hfn:P.funcs[f]?=some fn) {i0 i1 i4 b0:Nat} {R0 R1 R4:Array Oper} {asg bdy:Code} (hbody:fn.body=some (.seq (.region i0 R0 false) (.seq (.seq (.region i1 R1 false) (.block b0 (.rangeFunc (.tmp 6) #[7] asg bdy))) (.seq (.region i4 R4 false) .ret))))
  (hnt:fn.ntmps=13) (hres:fn.results=#[.tmp 4])
  {Ts:Nat} (hTs:E.L Ts=some (.sl e)) {y6 y12 y4:TypeId} {p6 p12 p4:String} {f6 f12 f4:Array Edge}
  (hR1:R1.toList=[⟨some 6,.move (.tmp 1),y6,p6,f6,none⟩]) (hR4:R4.toList=[⟨some 12,.load Ts (.tmp 2),y12,p12,f12,none⟩,⟨some 4,.assign (.tmp 12),y4,p4,f4,none⟩])
  (hv0:ev E (.region i0 R0 false) .leaf D (dS 13 [1] (fun i=>if i=0 then .nils else .undef)) (kO e 2)=some (.sl []))
  (hround:∀ X L k,xM e L X->L.length<1073741824->ev E asg .leaf D ((σR 13 2 e X).put (some 7) (.d e k)) (fun x s'=>match x with
   | .normal=>if mN s' (ph s' 5) then ev E bdy .leaf D (s'.only (ph s' 5)) (kI e) else none
   | _=>none)=some (.sl (L++[k])))
  {W0:World} (h0:ed r W0):CallsIn (FW none) nn P f #[.slice none 0 0,.func (.func g) #[] lb] W0 fun en W'=>∃ v,en=.returned v/\nX r e l v W':=by
 refine callsIn_of_wp_marks hfn hbody trivial ?_
 generalize ha0:Act.mk _ _=a0
 have hsz0:a0.tmps.size=13:=by rw[<-ha0];simp[hnt]
 have e0:a0.tmps.getD 0 undef=.slice none 0 0:=by rw[<-ha0,hnt];rfl
 have e1:a0.tmps.getD 1 undef=.func (.func g) #[] lb:=by rw[<-ha0,hnt];rfl
 have hd0:a0.defers=[]:=by rw[<-ha0]
 clear ha0
 have RA:=HA (r:=r) (lk:=[1]) (f:=fun i=>if i=0 then .nils else .undef) h0 hsz0 hd0 (fun t ht=>by
  by_cases h5:t=0
  ·subst h5;rw[if_pos rfl,e0];simp only[AR,AC];exact⟨fun cs h=>(by cases h),rfl⟩
  ·rw[if_neg h5];simp only[AR]) (fun t ht=>by rw[if_neg (by omega)])
 refine wpIn_seq (eO hE _ .leaf D _ _ RA hv0 fun x s1 S1 γ1 β1 a1 w1 g1 g2 g3 g4=>?_)
 obtain⟨rfl,id,htm,hfr⟩:=Gy g4
 simp only[uY,Exit.then]
 have hlt2:=(g1.slot htm (by simp)).1
 have hA:=(g1.slot htm (by simp)).2
 simp only[AR,AC] at hA
 obtain⟨_,B,off,hB1,hγB,hB2⟩:=hA
 have hv2:a1.tmps.getD 2 undef=.pointer (some ⟨B,off,none⟩):=aq (by assumption) hB1
 obtain⟨X0,hX0,_⟩:=rB hfr
 have hoff:off=0:=(hB2 _ hX0).2
 subst hoff
 have hv1:a1.tmps.getD 1 undef=.func (.func g) #[] lb:=(g2.slots 1 (by simp[dS])).trans e1
 have hsz1:a1.tmps.size=13:=by rw[g1.nt,g3.nt];rfl
 refine wpIn_seq (wpIn_seq (wpIn_region_list ?_))
 rw[hR1]
 refine gF (K:=fun v w'=>v=.func (.func g) #[] lb/\w1=w') rfl (cN.value (v:=a1.eval (.tmp 1)) (w':=w1) rfl ⟨hv1,rfl⟩) ?_
 rintro _ _ ⟨rfl,rfl⟩
 obtain⟨a2,ha2⟩:∃ a2,a1.put (some 6) (.func (.func g) #[] lb)=a2:=⟨_,rfl⟩
 show Exit.then _ _ .normal (a1.put (some 6) (.func (.func g) #[] lb)) w1
 rw[ha2]
 have k6:a2.eval (.tmp 6)=.func (.func g) #[] lb:=by rw[<-ha2];exact cJ (by rw[hsz1];decide)
 have k2:a2.tmps.getD 2 undef=.pointer (some ⟨B,0,none⟩):=by rw[<-ha2,dG (by decide)];exact hv2
 have ksz:a2.tmps.size=13:=by rw[<-ha2,ap];exact hsz1
 have kdf:a2.defers=[]:=by rw[<-ha2,aT];exact g1.df
 clear ha2
 simp only[Exit.then]
 refine wpIn_block (wpIn_rangeFunc ?_)
 intro fid hfid
 obtain⟨K,hK⟩:∃ K,K=w1.heap.size:=⟨_,rfl⟩
 obtain⟨L,hL⟩:∃ L,L=w1.heap.size+1:=⟨_,rfl⟩
 obtain⟨rec,hrec⟩:∃ rec:LoopState->Option Code->Loop,rec=fun st pe=>{ state:=st,pending:=pe,fn:=fid,tmps:=a2.tmps,params:=#[7],assign:=asg,body:=bdy,defers:=K }:=⟨_,rfl⟩
 obtain⟨W1,hW1⟩:∃ W1,(w1.alloc (.deferred (some []))).alloc (.loop (rec .ready none))=W1:=⟨_,rfl⟩
 have hgr:W1=aA w1 [.deferred (some []),.loop (rec .ready none)] w1.drawn:=by
  rw[<-hW1]
  unfold aA
  show({ w1 with heap:=(w1.heap.push _).push _ }:World)=_
  congr 1<;>(apply Array.ext';simp)
 have hL1:W1.heap[L]?=some (.loop (rec .ready none)):=by
  rw[<-hW1,hL];have:=World.alloc_heap_new (w1.alloc (.deferred (some []))) (.loop (rec .ready none));rwa [World.size_alloc] at this
 have hK1:W1.heap[K]?=some (.deferred (some [])):=by
  rw[<-hW1,hK];exact(Below.heap_alloc _ _ _ (by simp)).trans (World.alloc_heap_new w1 _)
 have hLK:L≠K:=by omega
 obtain⟨aR,haR⟩:∃ aR:Act,aR=⟨a2.tmps,[]⟩:=⟨_,rfl⟩
 have r1:aR.tmps.size=13:=by rw[haR];exact ksz
 have r2:aR.tmps.getD 2 undef=.pointer (some ⟨B,0,none⟩):=by rw[haR];exact k2
 have r3:aR.defers=[]:=by rw[haR]
 obtain⟨J,hJdef⟩:∃ J:Nat->World->Prop,J=fun k W=>∃ S1 β1 X,xM e (l.take k) X/\Rp r S1 (γR L K B) β1 (σR 13 2 e X) aR W/\(∀ o,¬ S1 L o)/\(∀ o,¬ S1 K o)/\W.heap[L]?=some (.loop (rec .ready none))/\W.heap[K]?=some (.deferred (some [])):=⟨_,rfl⟩
 have hJ0:J 0 W1:=by
  have G:=(g1.grow (os:=[.deferred (some []),.loop (rec .ready none)]) (d:=w1.drawn) (Nat.le_refl _) (S':=S1) (fun _ _ hb=>hb) (fun _ _ hb=>.inl hb)).1
  rw[<-hgr] at G
  have hBn:=g1.γn id B hγB
  have hs:w1.heap.size+1<W1.heap.size:=by rw[hgr];simp[aA]
  have hold:∀ b,w1.heap.size<=b->¬ r.Old b:=fun b hb ho=>by have:=ho.1;have:=g1.ext.sz;omega
  obtain⟨β',X,hX,hR⟩:=G.stdO (L:=L) (K:=K) (B:=B) (id:=id) ⟨hold L (by omega),by omega⟩ ⟨hold K (by omega),by omega⟩ hLK (fun v b e' hd hb=>by have:=(g1.βn v b e' hd hb).2.1;omega) hce hγB (by have:=hBn.2;omega) hfr r1 (t:=2) (by decide) r2 r3
  rw[hJdef]
  exact⟨_,β',X,by simpa using hX,hR,fun o h=>h.2.1 rfl,fun o h=>h.2.2 rfl,hL1,hK1⟩
 have hJe:∀ k W,J k W->ed r W:=fun k W h=>by
  rw[hJdef] at h
  obtain⟨_,_,_,_,hR,_⟩:=h
  exact hR.ext
 have hJg:∀ k W os d,J k W->W.drawn<=d->J k (aA W os d):=fun k W os d h hd=>by
  rw[hJdef] at h ⊢
  obtain⟨S,β,X,hX,hR,h1,h2,h3,h4⟩:=h
  refine⟨S,β,X,hX,(hR.grow hd (S':=S) (fun _ _ hb=>hb) (fun _ _ hb=>.inl hb)).1,h1,h2,?_,?_⟩
  ·rw[co (Array.getElem?_eq_some_iff.1 h3).1];exact h3
  ·rw[co (Array.getElem?_eq_some_iff.1 h4).1];exact h4
 clear g1 g2 g3 g4 RA
 refine⟨L,[{ target:=.collected K,args:=#[] }],W1,{ target:=.fn (.func g) lb,args:=#[.func (.yield L) #[] #[]] },W1,g,#[.func (.yield L) #[] #[]]++lb,W1,?_,?_,fun _ _=>trivial,?_,fun h=>(by cases h),?_⟩
 ·rw[<-hW1,hrec,hL,hK];exact run_enterLoop_outer _ _ _ _ _
 ·simp only[resolve,k6]
  simp[go_sem]
 ·simp[invoke,go_sem,eg]
 refine(hIt (nn-1) L J hJe hJg ?_ W1 hJ0).mono ?_
 ·
  intro k x W v hx hJ hAR
  rw[hJdef] at hJ
  obtain⟨S,β,X,hX,hR,hSL,hSK,hl,hk⟩:=hJ
  have hkl:k<l.length:=(List.getElem?_eq_some_iff.1 hx).1
  have hy:=run_yield (P:=P) (args:=#[v]) hl (by rw[hrec];rfl)
  rw[hrec] at hy
  refine⟨fid,_,asg,bdy,hy,roundIn_of_wpIn trivial ?_⟩
  have hact:({ tmps:=((#[7]:Array Tmp).zip #[v]).foldl (fun tmps (t,a)=>tmps.setIfInBounds t a) a2.tmps,defers:=[] }:Act)=aR.put (some 7) v:=by
   rw[haR];simp[Act.put]
  show Code.wpIn (FW (some L)) _ P asg _ { tmps:=((#[7]:Array Tmp).zip #[v]).foldl (fun tmps (t,a)=>tmps.setIfInBounds t a) a2.tmps,defers:=[] } W
  rw[hact]
  have RP:=hR.put (v:=.d e x) (val:=v) (hAR _) (some 7)
  have hlk:((σR 13 2 e X).put (some 7) (.d e x)).lkO=[0,1]:=(St.put_fields _ _ _).2.2.2.2.2.1
  have hnt7:((σR 13 2 e X).put (some 7) (.d e x)).nt=13:=(St.put_fields _ _ _).2.2.2.1
  refine eO hE asg .leaf D _ _ RP (hround X (l.take k) x hX (by rw[List.length_take];omega)) fun ex s' S' γ' β' a' w' n1 n2 n3 n4=>?_
  cases ex with
  | ret=>cases n4
  | exit i=>cases n4
  | normal=>
  simp only at n4
  split at n4<;>first|(cases n4;done)|skip
  rename_i hpl
  obtain⟨m1,m2⟩:=n2.objs 0 (by rw[hlk];simp) L rfl
  obtain⟨m3,m4⟩:=n2.objs 1 (by rw[hlk];simp) K rfl
  have m5:=n2.gam 2 B rfl
  have hl':w'.heap[L]?=some (.loop (rec .ready none)):=m2.trans hl
  have hk':w'.heap[K]?=some (.deferred (some [])):=m4.trans hk
  have N1:=n1.shrink (L:=L) (K:=K) (fun v b e' hd hb=>⟨fun h=>n1.βγ v 0 b e' hd hb (h ▸ m1),fun h=>n1.βγ v 1 b e' hd hb (h ▸ m3)⟩) hpl
  refine⟨_,run_beginRound hl' (by rw[hrec]),?_⟩
  have hob:∀ i,i≠2->(∀ id,(∃ t p,s'.tm 5=.ptr t id p)->i≠id)->(s'.only (ph s' 5)).ob i=none:=fun i h1 h2=>by
   simp only[St.only]
   rw[if_neg]
   simp only[ph]
   split
   ·rename_i t id p htm5
    have:=h2 id ⟨t,p,htm5⟩
    simp[h1,this]
   ·simp[h1]
  have h05:∀ id,(∃ t p,s'.tm 5=.ptr t id p)->(∃ o,s'.ob id=some o)->(0≠id/\1≠id)\/True:=fun _ _ _=>.inr trivial
  by_cases hob0:(s'.only (ph s' 5)).ob 0=none
  rotate_left
  ·
   exfalso
   cases hq:(s'.only (ph s' 5)).ob 0 with
   | none=>exact hob0 hq
   | some o=>
    have hO:=N1.obs 0 o L hq m1
    cases o with
    | one t v=>simp only[ip] at hO;obtain⟨_,_,_,cs,h4,_⟩:=hO;simp[bE,hl'] at h4
    | many t v=>simp only[ip] at hO;obtain⟨_,_,_,cs,h4,_⟩:=hO;simp[bE,hl'] at h4
    | mp kt vt v=>simp only[ip] at hO;obtain⟨_,_,_,es,h4,_⟩:=hO;rw[hl'] at h4;cases h4
  have N2:=N1.setB hob0 m1 (fun o h=>h.2.1 rfl) (.loop { rec .ready none with state:=.busy })
  have hsL:L<w'.heap.size:=(Array.getElem?_eq_some_iff.1 hl').1
  have hput:w'.putObj L (.loop { rec .ready none with state:=.busy })=setBlock w' L (.loop { rec .ready none with state:=.busy }):=rfl
  rw[hput]
  have hl2:(setBlock w' L (.loop { rec .ready none with state:=.busy })).heap[L]?=some (.loop { rec .ready none with state:=.busy }):=World.putObj_heap_same hsL
  have hk2:(setBlock w' L (.loop { rec .ready none with state:=.busy })).heap[K]?=some (.deferred (some [])):=(World.putObj_heap_other (Ne.symm hLK)).trans hk'
  have hlk':(s'.only (ph s' 5)).lkO=[0,1]:=n3.lkO.trans hlk
  have hnt':(s'.only (ph s' 5)).nt=13:=n3.nt.trans hnt7
  refine eO hE bdy .leaf D _ _ N2 n4 fun ex s2 S2 γ2 β2 a3 w3 o1 o2 o3 o4=>?_
  obtain⟨rfl,hfr2⟩:=Hd o4
  obtain⟨u1,u2⟩:=o2.objs 0 (by rw[hlk'];simp) L m1
  obtain⟨u3,u4⟩:=o2.objs 1 (by rw[hlk'];simp) K m3
  have u5:=o2.gam 2 B m5
  have hl3:=u2.trans hl2
  have hk3:=u4.trans hk2
  refine⟨_,_,run_endRound none hl3,rfl,?_⟩
  have hBne:B≠L/\B≠K:=⟨fun h=>by have:=o1.γi 2 0 B u5 (h ▸ u1);omega,fun h=>by have:=o1.γi 2 1 B u5 (h ▸ u3);omega⟩
  obtain⟨β6,X6,hX6,R6⟩:=o1.stdO (L:=L) (K:=K) (B:=B) (id:=2) (o1.γn 0 L u1) (o1.γn 1 K u3) hLK (fun v b e' hd hb=>⟨fun h=>o1.βγ v 0 b e' hd hb (h ▸ u1),fun h=>o1.βγ v 1 b e' hd hb (h ▸ u3)⟩) hce u5 hBne hfr2 r1 (t:=2) (by decide) r2 r3
  have R7:=R6.setB (id:=0) (b:=L) rfl rfl (fun o h=>h.2.1 rfl) (.loop (rec .ready none))
  have hsL3:L<w3.heap.size:=(Array.getElem?_eq_some_iff.1 hl3).1
  have hw:w3.putObj L (.loop { ({ rec .ready none with state:=.busy }:Loop) with state:=if(none:Option Code).isNone then .ready else .done,pending:=none })=setBlock w3 L (.loop (rec .ready none)):=by
   rw[hrec];rfl
  rw[hw,hJdef]
  refine⟨_,β6,X6,?_,R7,fun o h=>h.2.1 rfl,fun o h=>h.2.2 rfl,World.putObj_heap_same hsL3,(World.putObj_heap_other (Ne.symm hLK)).trans hk3⟩
  have:l.take k++[x]=l.take (k+1):=by rw[List.take_add_one,hx];rfl
  rw[<-this];exact hX6
 ·
  rintro en W2 ⟨⟨v,rfl⟩,hJ⟩
  rw[hJdef] at hJ
  obtain⟨S,β,X,hX,hR,hSL,hSK,hl,hk⟩:=hJ
  rw[List.take_of_length_le (Nat.le_refl _)] at hX
  refine⟨none,_,by have:=run_endLoop (P:=P) hl (by rw[hrec];simp);rw[hrec] at this;exact this,?_⟩
  obtain⟨o3,ho3⟩:∃ o3:Obj,o3=.loop { ({ state:=.ready,pending:=none,fn:=fid,tmps:=a2.tmps,params:=#[7],assign:=asg,body:=bdy,defers:=K }:Loop) with state:=.exhausted }:=⟨_,rfl⟩
  have hR3:=hR.setB (id:=0) (b:=L) rfl rfl hSL o3
  have hk3:(setBlock W2 L o3).heap[K]?=some (.deferred (some [])):=(World.putObj_heap_other (Ne.symm hLK)).trans hk
  rw[ho3] at hR3 hk3
  show Exit.inBlock _ _ .normal _ (setBlock W2 L _)
  generalize setBlock W2 L _=W3 at hR3 hk3 ⊢
  have hO:=hR3.obs 2 _ B rfl rfl
  simp only[ip] at hO
  obtain⟨q1,q2,q3,cs,q4,q5,q6⟩:=hO
  have hval:∃ sv,cs=[sv]/\(∀ xs,sv≠.agg xs)/\sv.oneCell'=true/\AR ⟨W3,S,γR L K B,β,(σR 13 2 e X).ob,[]⟩ X sv:=by
   rcases hX with⟨rfl,_⟩|rfl
   ·simp only[AC] at q5
    subst q5
    exact⟨_,rfl,fun _ h=>(by cases h),rfl,by simp only[AR,AC];exact⟨fun _ h=>(by cases h),rfl⟩⟩
   ·have q5':=q5
    simp only[AC] at q5
    obtain⟨_,_,ad,cap,rfl,_⟩:=q5
    exact⟨_,rfl,fun _ h=>(by cases h),rfl,by simp only[AR];exact⟨fun _ h=>(by cases h),q5'⟩⟩
  obtain⟨sv,rfl,hna,hone,hAX⟩:=hval
  have hls:bx P (.sl e) Ts=true:=(hE.lay Ts _ hTs).resolve_left (by rintro⟨ts,h⟩;cases h)
  obtain⟨v5,hrun5,hv5⟩:=dZ (P:=P) hls (w:=W3) (b:=B) (off:=0) (cs:=[sv]) rfl (by intro v hv;rw[List.mem_singleton.1 hv];exact hone) (fun i c hi=>by
   cases i with
   | zero=>simp at hi;subst hi;rw[bQ W3 q4];rfl
   | succ i=>simp at hi)
  have hv5':v5=sv:=aq (hv5.2.2 rfl) hv5.1
  subst hv5'
  simp only[Exit.inBlock,Exit.then]
  obtain⟨a4,ha4⟩:∃ a4:Act,a4={ a2 with defers:=[{ target:=.collected K,args:=#[] }]++a2.defers }:=⟨_,rfl⟩
  rw[<-ha4]
  have t2:a4.eval (.tmp 2)=.pointer (some ⟨B,0,none⟩):=by rw[ha4];exact k2
  have tsz:a4.tmps.size=13:=by rw[ha4];exact ksz
  have tdf:a4.defers=[{ target:=.collected K,args:=#[] }]:=by rw[ha4];show[_]++a2.defers=_;rw[kdf];rfl
  refine wpIn_seq (wpIn_region_list ?_)
  rw[hR4]
  refine gF (K:=fun v w'=>v=v5/\W3=w') rfl (cN.value (et (m:=Instr.loadAt Ts (.pointer (some ⟨B,0,none⟩))) ?_ hrun5) ⟨rfl,rfl⟩) ?_
  ·show(Instr.loadAt Ts (a4.eval (.tmp 2)) >>= fun r=>pure (Next.value r))=_
   rw[t2]
  rintro v5 _ ⟨rfl,rfl⟩
  refine gF (K:=fun v w'=>v=v5/\W3=w') rfl (cN.value (v:=(a4.put (some 12) v5).eval (.tmp 12)) (w':=W3) rfl ⟨iz (by rw[tsz];decide),rfl⟩) ?_
  rintro v5 _ ⟨rfl,rfl⟩
  show Exit.then _ _ .normal _ W3
  simp only[Exit.then]
  have t4:((a4.put (some 12) v5).put (some 4) v5).tmps.getD 4 undef=v5:=cJ (by rw[ap,tsz];decide)
  refine wpIn_ret ?_
  show LeavesInM _ _ P fn ((a4.put (some 12) v5).put (some 4) v5).tmps _ ((a4.put (some 12) v5).put (some 4) v5).defers .returning W3
  rw[aT,aT,tdf]
  refine⟨by simp,.inl ⟨K,_,rfl,run_takeDeferred hk3,v5,?_,v5,rfl,?_⟩⟩
  ·exact(results_tmp hres _ _ _).trans (by rw[t4])
  ·have hR4:=hR3.setB (id:=1) (b:=K) rfl rfl hSK (.deferred none)
   have hle:=hR4
   refine⟨X,S,β,hX,hR4.ext,fun t ht=>?_,rfl,fun t ht=>?_,fun id o b ho=>(by cases ho),fun id b hb=>(by cases hb),fun id id' b hb=>(by cases hb),fun _ _=>rfl,hR4.βn,hR4.βi,fun v id b e _ hb hq=>(by cases hq),hR4.βf,hR4.Sb,hR4.So,rfl⟩
   ·have ht0:t=0:=by have:t<1:=ht;omega
    subst ht0
    have hO:=hR4.obs 2 _ B rfl rfl
    simp only[ip] at hO
    obtain⟨_,_,_,cs,z4,z5,_⟩:=hO
    have hBK:B≠K:=fun h=>by
     have:=hR4.γi 2 1 B rfl (by rw[h];rfl)
     omega
    have hrow:bE (setBlock W3 K (.deferred none)) B=bE W3 B:=by
     simp only[bE,setBlock];rw[Array.getElem?_setIfInBounds_ne (Ne.symm hBK)]
    rw[hrow,q4] at z4
    have hcs:cs=[v5]:=by
     have:=congrArg (Option.map Array.toList) z4
     simpa using this.symm
    subst hcs
    show AR _ X v5
    rcases hX with⟨rfl,_⟩|rfl
    ·simp only[AR,AC] at hAX ⊢;exact hAX
    ·simp only[AR,AC] at hAX z5 ⊢
     refine⟨hAX.1,?_⟩
     obtain⟨z1,z2,ad,cap,z3,z6⟩:=z5
     refine⟨z1,z2,ad,cap,?_,z6⟩
     obtain⟨_,_,ad',cap',z7,_⟩:=hAX.2
     cases z3
     rfl
   ·show(if t=0 then X else .undef)=_
    rw[if_neg (by have:1<=t:=ht;omega)]
end
end Go.Proofs.YtjjjkojfijpeeaaGreat.Sy
end
section
set_option linter.unusedVariables false
namespace Go.Proofs.YtjjjkojfijpeeaaGreat.Sy
open Go Go.Proofs Go.Sort Go.Lib
section
variable{P:Program}{E:Env}{r:Root}
theorem Ar {f : Nat} (hf : ∃ fn, P.funcs[f]? = some fn /\ (fn.name == "runtime.NumGoroutine") = false /\ fn.body.isSome = true) (a : Act) (w : World) (d : Option Nat) (args : Array Operand) (ats : Array TypeId) (y : TypeId) (p : String) (fs : Array Edge) :
  (execOp a.eval ⟨d,.call ⟨.value (.func f),args,ats⟩,y,p,fs,none⟩).run P w=.ok (.enter f (args.map a.eval)) w:=by
 obtain⟨fn,f1,f2,f3⟩:=hf
 have hb:¬ fn.body=none:=by intro hh;rw[hh] at f3;cases f3
 have f2' : ¬ fn.name = "runtime.NumGoroutine" := by simpa using f2
 have e2:a.eval (.func f)=.func (.func f) #[] #[]:=rfl
 simp[execOp,resolve,Deferred.ofValue,invoke,callFunc,f1,f2',hb,e2]
theorem yg {f : Nat} (hf : ∃ fn, P.funcs[f]? = some fn /\ (fn.name == "runtime.NumGoroutine") = false /\ fn.body.isSome = true) (args : Array Value) (w : World) : (callFunc f args).run P w = .ok (.enter f args) w := by
 obtain⟨fn,f1,f2,f3⟩:=hf
 have hb:¬ fn.body=none:=by intro hh;rw[hh] at f3;cases f3
 have f2' : ¬ fn.name = "runtime.NumGoroutine" := by simpa using f2
 simp[callFunc,f1,f2',hb]
theorem nX.at{e:Ty}{l:List D}{v:Value}{W:World}(h:nX r e l v W){a:Act}{nt t:Nat}(hsz:a.tmps.size=nt)(ht:t<nt)(hv:a.tmps.getD t undef=v)(hd:a.defers=[]) :
  ∃ X S β,xM e l X/\Rp r S (fun _=>none) β (dS nt [] (fun i=>if i=t then X else .undef)) a W:=by
 obtain⟨X,S,β,hX,h⟩:=h
 refine⟨X,S,β,hX,h.ext,fun t' ht'=>?_,hsz,fun t' ht'=>?_,fun id o b ho=>(by cases ho),h.γn,h.γi,h.γf,h.βn,h.βi,h.βγ,h.βf,h.Sb,h.So,hd⟩
 ·show AR _ (if t'=t then X else .undef) _
  by_cases hh:t'=t
  ·subst hh
   rw[if_pos rfl,hv]
   exact h.tms 0 Nat.one_pos
  ·rw[if_neg hh];simp only[AR]
 ·show(if t'=t then X else .undef)=_
  rw[if_neg (by have:nt<=t':=ht';omega)]
theorem As{e:Ty}{l:List D}{X:AV}(hX:xM e l X)(hlen:l.length<=1073741824){nt t:Nat}:cu (dS nt [] (fun i=>if i=t then X else .undef)) e t=some l:=by
 rcases hX with⟨rfl,rfl⟩|rfl
 ·simp[cu,dS]
 ·simp[cu,dS,Ty.beq_refl',hlen]
def yV(e:Ty)(t:Nat)(x:Ex)(s:St):Option D:=match x with
 | .normal=>match s.tm t with
  | .ptr t id []=>match s.ob id with
   | some (.one t' (.d t'' y))=>if t.beq e&&t'.beq e&&t''.beq e then some y else none
   | _=>none
  | _=>none
 | _=>none
theorem Bb{e:Ty}{t:Nat}{x:Ex}{s:St}{y:D}(h:yV e t x s=some y):x=.normal/\∃ id,s.tm t=.ptr e id []/\s.ob id=some (.one e (.d e y)):=by
 unfold yV at h
 split at h<;>first|(cases h;done)|skip
 split at h<;>first|(cases h;done)|skip
 rename_i t id htm
 split at h<;>first|(cases h;done)|skip
 rename_i t' t'' y' hob
 split at h<;>first|(cases h;done)|skip
 rename_i hc
 simp only[Bool.and_eq_true] at hc
 cases h
 have e1:=Ty.eq_of_beq _ _ hc.1.1;have e2:=Ty.eq_of_beq _ _ hc.1.2;have e3:=Ty.eq_of_beq _ _ hc.2
 subst e1;subst e2;subst e3
 exact⟨rfl,id,htm,hob⟩
end
end Go.Proofs.YtjjjkojfijpeeaaGreat.Sy
end
section
set_option linter.unusedVariables false
namespace Go.Proofs.YtjjjkojfijpeeaaGreat.Sy
open Go Go.Proofs Go.Sort Go.Lib
section
variable{r:Root}{lp:Lp}{call:Nat->List D->Option D}
noncomputable abbrev fM(lp:Lp)(call:Nat->List D->Option D):Env:=dO lp call (iG lp call)
theorem Io : ∃ fn, Tryz.prog.funcs[149]? = some fn /\ (fn.name == "runtime.NumGoroutine") = false /\ fn.body.isSome = true := uC (by kernel_rfl)
theorem Iz : ∃ fn, Tryz.prog.funcs[176]? = some fn /\ (fn.name == "runtime.NumGoroutine") = false /\ fn.body.isSome = true := uC (by kernel_rfl)
theorem JF : ∃ fn, Tryz.prog.funcs[92]? = some fn /\ (fn.name == "runtime.NumGoroutine") = false /\ fn.body.isSome = true := uC (by kernel_rfl)
theorem Mo : ∃ fn, Tryz.prog.funcs[93]? = some fn /\ (fn.name == "runtime.NumGoroutine") = false /\ fn.body.isSome = true := uC (by kernel_rfl)
theorem Ht : ∃ fn, Tryz.prog.funcs[151]? = some fn /\ (fn.name == "runtime.NumGoroutine") = false /\ fn.body.isSome = true := uC (by kernel_rfl)
noncomputable def C3:Code:=match kc Tryz.f176 with|.seq _ (.seq (.seq _ (.block _ (.rangeFunc _ _ a _))) _)=>a|c=>c
noncomputable def Cs:Code:=match kc Tryz.f176 with|.seq _ (.seq (.seq _ (.block _ (.rangeFunc _ _ _ b))) _)=>b|c=>c
theorem CS:∀ X L k,xM K1 L X->L.length<1073741824->ev (fM lp call) C3 .leaf D ((σR 13 2 K1 X).put (some 7) (.d K1 k)) (fun x s'=>match x with
   | .normal=>if mN s' (ph s' 5) then ev (fM lp call) Cs .leaf D (s'.only (ph s' 5)) (kI K1) else none
   | _=>none)=some (.sl (L++[k])):=by
 intro X L k hX hL
 rcases hX with⟨rfl,rfl⟩|rfl
 ·kernel_rfl
 ·have key:ev (fM lp call) C3 .leaf D ((σR 13 2 K1 (.own K1 5 L)).put (some 7) (.d K1 k)) (fun x s'=>match x with
   | .normal=>if mN s' (ph s' 5) then ev (fM lp call) Cs .leaf D (s'.only (ph s' 5)) (kI K1) else none
   | _=>none)=(if List.length L+List.length [k]<=1073741824 then some (.sl (L++[k])) else none):=by kernel_rfl
  rw[key,if_pos (by simp;omega)]
theorem HZ:ev (fM lp call) (pG (kc Tryz.f176)) .leaf D (dS 13 [1] (fun i=>if i=0 then .nils else .undef)) (kO K1 2)=some (.sl []):=by kernel_rfl
theorem uy(hE:EnvOk Tryz.prog (fM lp call)){nn:Nat}{l:List D}(hwt:∀ x∈l,wt K1 x)(hlen:l.length<=1073741824){lb:Array Value}(hIt:BM Tryz.prog r K1 l 151 lb){W0:World}(h0:ed r W0) :
  CallsIn (FW none) nn Tryz.prog 176 #[.slice none 0 0,.func (.func 151) #[] lb] W0 fun en W'=>∃ v,en=.returned v/\nX r K1 l v W':=
 rQ hE rfl hwt hlen hIt (yg Ht) (fn:=Tryz.f176) (by kernel_rfl) rfl rfl rfl (Ts:=22) (by kernel_rfl) rfl rfl HZ CS h0
end
end Go.Proofs.YtjjjkojfijpeeaaGreat.Sy
end
section
set_option linter.unusedVariables false
namespace Go.Proofs.YtjjjkojfijpeeaaGreat.Sy
open Go Go.Proofs Go.Sort Go.Lib
section
variable{r:Root}{lp:Lp}{call:Nat->List D->Option D}
theorem kX{P:Program}{ro:Option Nat}{nn:Nat}{ops:Array Oper}{rest:List Oper}{a:Act}{w:World}{K:Value->World->Prop}{Q:Exit->Act->World->Prop}{d:Option Nat}{args:Array Operand}{ats:Array TypeId}{y:TypeId}{p:String}{fs:Array Edge}{f:Nat}
  (hf : ∃ fn, P.funcs[f]? = some fn /\ (fn.name == "runtime.NumGoroutine") = false /\ fn.body.isSome = true) (vs : Array Value) (h : args.map a.eval = vs) (hc : Calls P f vs w fun en w' => ∃ v, en = .returned v /\ K v w')
  (hk:∀ v w',K v w'->wpListIn (FW ro) nn P ops Q rest (a.put d v) w'):wpListIn (FW ro) nn P ops Q (⟨d,.call ⟨.value (.func f),args,ats⟩,y,p,fs,none⟩::rest) a w:=
 gF rfl (cN.enter (h ▸ Ar hf a w d args ats y p fs) hc) hk
theorem zW{l:List Oper}(h:(l.all fun o=>o.guard.isNone)=true):∀ x∈l,x.guard=none:=fun x hx=>by
 have:=List.all_eq_true.1 h x hx
 cases hg:x.guard with
 | none=>rfl
 | some g=>rw[hg] at this;cases this
theorem DS{l:List D}:ev (fM lp call) (.region 0 ((FY (pG (kc Tryz.f151))).tail).toArray false) .leaf D (dS 16 [0,5] (fun i=>if i=5 then .d (.sl K1) (.sl l) else .undef)) (kW [(6,.int .i64),(7,.int .i64)])=some (.tup [.int .i64 (l.length:Nat),.int .i64 0]):=by kernel_rfl
noncomputable def mI:Code:=inLoop (mU (m8 (kc Tryz.f151)))
theorem D4{l:List D}(k:Nat):ev (fM lp call) (pG mI) .leaf D (rV K1 l k [0,5,6,7]) (kW [(7,.int .i64),(8,.bool)])=some (.tup [.int .i64 (k:Nat),.bool (decide ((k:Int)<(l.length:Nat)))]):=by kernel_rfl
theorem ER{l:List D}(k:Nat):ev (fM lp call) (pG (mU (pG (m8 (m8 mI))))) .leaf D (rV K1 l k [0,5,6,7]) (Au K1)=(D.idx (.int .i64 (k:Nat)) l.length).bind fun i=>l[i]?:=by
 have:ev (fM lp call) (pG (mU (pG (m8 (m8 mI))))) .leaf D (rV K1 l k [0,5,6,7]) (Au K1)=(D.idx (.int .i64 (k:Nat)) l.length).bind fun i=>(l[i]?).bind fun x=>some x:=by kernel_rfl
 rw[this]
 simp
theorem Fy{l:List D}(k:Nat):ev (fM lp call) (m8 (m8 (m8 mI))) .leaf D (rV K1 l k [0,5,6]) (kW [(7,.int .i64)])=(D.bin .add (.int .i64 (k:Nat)) (.int .i64 1)).bind fun x=>some (.tup [x]):=by
 have:ev (fM lp call) (m8 (m8 (m8 mI))) .leaf D (rV K1 l k [0,5,6]) (kW [(7,.int .i64)])=some (.tup [.int .i64 (IntKind.wrap .i64 ((k:Int)+1))]):=by kernel_rfl
 rw[this];rfl
theorem DJ(hE:EnvOk Tryz.prog (fM lp call)){l:List D}(hwt:∀ x∈l,wt K1 x)(hlen:l.length<=1073741824){w:World}{S S0:Nat->Nat->Prop}(hS:∀ b o,S b o->b<w.heap.size){B:Nat}{sv:Value}(hB:∀ W,ed (cE w S0) W->W.cell? ⟨B,0,none⟩=some sv)(hsv:CR w S (.sl l) sv) :
  BM Tryz.prog (cE w S0) K1 l 151 #[.pointer (some ⟨B,0,none⟩)]:=by
 intro nn L J hJe hJ hY W0 h0
 exact CH hE (e:=K1) rfl rfl hwt hlen hS hB hsv J hJe hJ hY (fn:=Tryz.f151) (by kernel_rfl) rfl rfl rfl (Ts:=22) (Te:=60) (by kernel_rfl) (by kernel_rfl) rfl (zW rfl) rfl DS D4 ER Fy h0
theorem az{a:Act}{t u:Nat}{v:Value}(h:t<a.tmps.size):(a.put (some t) v).tmps.getD u undef=if u=t then v else a.tmps.getD u undef:=by
 by_cases hh:u=t
 ·subst hh;rw[if_pos rfl,cJ h]
 ·rw[if_neg hh,dG fun e=>hh e.symm]
theorem aH{a:Act}{t:Nat}:a.eval (.tmp t)=a.tmps.getD t undef:=rfl
theorem bW{a:Act}{v:Value}:a.eval (.const v)=v:=rfl
theorem AZ{a:Act}{f:Nat}:a.eval (.func f)=.func (.func f) #[] #[]:=rfl
section
variable{P:Program}{ro:Option Nat}{nn:Nat}{ops:Array Oper}{rest:List Oper}{a:Act}{w:World}{Q:Exit->Act->World->Prop}{d:Option Nat}{x:Operand}{y:TypeId}{p:String}{fs:Array Edge}
theorem cG(h:wpListIn (FW ro) nn P ops Q rest (a.put d (a.eval x)) w):wpListIn (FW ro) nn P ops Q (⟨d,.move x,y,p,fs,none⟩::rest) a w:=by
 refine gF (K:=fun v w'=>v=a.eval x/\w=w') rfl (cN.value (v:=a.eval x) (w':=w) rfl ⟨rfl,rfl⟩) ?_
 rintro _ _ ⟨rfl,rfl⟩
 exact h
theorem bY(h:wpListIn (FW ro) nn P ops Q rest (a.put d (a.eval x)) w):wpListIn (FW ro) nn P ops Q (⟨d,.assign x,y,p,fs,none⟩::rest) a w:=by
 refine gF (K:=fun v w'=>v=a.eval x/\w=w') rfl (cN.value (v:=a.eval x) (w':=w) rfl ⟨rfl,rfl⟩) ?_
 rintro _ _ ⟨rfl,rfl⟩
 exact h
theorem dJ(h:Q .normal a w):wpListIn (FW ro) nn P ops Q [] a w:=h
end
theorem vu{P:Program}{f g:Nat}{fn:Func}(hfn:P.funcs[f]?=some fn){i0 i1:Nat}{R0 R1:Array Oper}(hbody:fn.body=some (.seq (.region i0 R0 false) (.seq (.region i1 R1 false) .ret)))(hnt:fn.ntmps=5)(hres:fn.results=#[.tmp 2])
  {y2 y3 y4 y5:TypeId} {p2 p3 p4 p5:String} {f2 f3 f4 f5:Array Edge} {ats:Array TypeId} (hR0:R0.toList=[⟨some 2,.assign (.const (.slice none 0 0)),y2,p2,f2,none⟩])
  (hR1:R1.toList=[⟨some 3,.move (.tmp 0),y3,p3,f3,none⟩,⟨some 4,.call ⟨.value (.func g),#[.const (.slice none 0 0),.tmp 3],ats⟩,y4,p4,f4,none⟩,⟨some 2,.assign (.tmp 4),y5,p5,f5,none⟩])
  (hg : ∃ fn, P.funcs[g]? = some fn /\ (fn.name == "runtime.NumGoroutine") = false /\ fn.body.isSome = true) {fv : Value} {R : Value -> World -> Prop} {W0 : World} (hc : Calls P g #[.slice none 0 0, fv] W0 fun en W' => ∃ v, en = .returned v /\ R v W') :
  Calls P f #[fv] W0 fun en W'=>∃ v,en=.returned v/\R v W':=by
 refine dh hfn hbody ?_
 generalize ha0:Act.mk _ _=a0
 have hsz0:a0.tmps.size=5:=by rw[<-ha0];simp[hnt]
 have e0:a0.tmps.getD 0 undef=fv:=by rw[<-ha0,hnt];rfl
 have hd0:a0.defers=[]:=by rw[<-ha0]
 clear ha0
 refine wpIn_seq (wpIn_region_list ?_)
 rw[hR0]
 refine bY (dJ ?_)
 refine wpIn_seq (wpIn_region_list ?_)
 rw[hR1]
 refine cG (kX hg _ ?_ hc fun v w1 hv=>bY (dJ ?_))
 ·simp only[List.map_toArray,List.map_cons,List.map_nil,aH,bW,az,ap,hsz0,e0,reduceIte,Nat.reduceLT,Nat.reduceEqDiff]
 ·refine wpIn_ret ⟨by simp only[aT,hd0],v,(results_tmp hres _ _ _).trans ?_,v,rfl,hv⟩
  simp only[aH,bW,az,ap,hsz0,e0,reduceIte,Nat.reduceLT,Nat.reduceEqDiff]
theorem yF(hE:EnvOk Tryz.prog (fM lp call)){l:List D}(hwt:∀ x∈l,wt K1 x)(hlen:l.length<=1073741824){lb:Array Value}(hIt:BM Tryz.prog r K1 l 151 lb){W0:World}(h0:ed r W0) :
  Calls Tryz.prog 149 #[.func (.func 151) #[] lb] W0 fun en W'=>∃ v,en=.returned v/\nX r K1 l v W':=
 vu (fn:=Tryz.f149) (by kernel_rfl) rfl rfl rfl rfl rfl Iz (callsIn_wide.1 (uy hE (nn:=0) hwt hlen hIt h0))
end
end Go.Proofs.YtjjjkojfijpeeaaGreat.Sy
end
section
set_option linter.unusedVariables false
namespace Go.Proofs.YtjjjkojfijpeeaaGreat.Sy
open Go Go.Proofs Go.Sort Go.Lib
section
variable{P:Program}{E:Env}{r:Root}
theorem Hz{ro:Option Nat}{nn:Nat}{ops:Array Oper}{rest:List Oper}{a:Act}{w:World}{Q:Exit->Act->World->Prop}{d:Option Nat}{y:TypeId}{p:String}{fs:Array Edge}{g t:Nat}
  (h:wpListIn (FW ro) nn P ops Q rest (a.put d (.func (.func g) #[] #[a.tmps.getD t undef])) w):wpListIn (FW ro) nn P ops Q (⟨d,.makeFunc (.func g) #[] #[.tmp t],y,p,fs,none⟩::rest) a w:=by
 refine gF (K:=fun v w'=>v=.func (.func g) #[] #[a.tmps.getD t undef]/\w=w') rfl (cN.value (v:=.func (.func g) #[] #[a.tmps.getD t undef]) (w':=w) ?_ ⟨rfl,rfl⟩) ?_
 ·simp[execOp,Instr.makeFunc,aH]
 rintro _ _ ⟨rfl,rfl⟩
 exact h
theorem qT {f150 g : Nat} (hf : ∃ fn, P.funcs[f150]? = some fn /\ (fn.name == "runtime.NumGoroutine") = false /\ fn.body.isSome = true) {K0 K : Value -> World -> Prop} (hsort : ∀ v w, K0 v w -> Calls P f150 #[v, .func (.func g) #[] #[]] w fun en w' => ∃ u, en = .returned u /\ K v w')
  {f f149:Nat} {fn:Func} (hfn:P.funcs[f]?=some fn) {i0 i1 i2 i3:Nat} {R0 R1 R2 R3:Array Oper} (hbody:fn.body=some (.seq (.region i0 R0 false) (.seq (.region i1 R1 false) (.seq (.region i2 R2 false) (.seq (.region i3 R3 false) .ret))))) (hnt:fn.ntmps=12) (hres:fn.results=#[.tmp 4])
  {y2 y3 y4 y5 y6 y7 y8 y9 y10:TypeId} {p2 p3 p4 p5 p6 p7 p8 p9 p10:String} {f2 f3 f4 f5 f6 f7 f8 f9 f10:Array Edge} {ats ats2:Array TypeId} (hR0:R0.toList=[⟨some 4,.assign (.const (.slice none 0 0)),y2,p2,f2,none⟩])
  (hR1:R1.toList=[⟨some 6,.move (.tmp 0),y3,p3,f3,none⟩,⟨some 7,.call ⟨.value (.func f149),#[.tmp 6],ats⟩,y4,p4,f4,none⟩,⟨some 5,.assign (.tmp 7),y5,p5,f5,none⟩])
  (hR2:R2.toList=[⟨some 8,.move (.tmp 5),y6,p6,f6,none⟩,⟨some 9,.move (.tmp 1),y7,p7,f7,none⟩,⟨some 10,.call ⟨.value (.func f150),#[.tmp 8,.tmp 9],ats2⟩,y8,p8,f8,none⟩])
  (hR3:R3.toList=[⟨some 11,.move (.tmp 5),y9,p9,f9,none⟩,⟨some 4,.assign (.tmp 11),y10,p10,f10,none⟩])
  (hg : ∃ fn, P.funcs[f149]? = some fn /\ (fn.name == "runtime.NumGoroutine") = false /\ fn.body.isSome = true) {fv : Value} {W0 : World} (hc : Calls P f149 #[fv] W0 fun en W' => ∃ v, en = .returned v /\ K0 v W') :
  Calls P f #[fv,.func (.func g) #[] #[]] W0 fun en W'=>∃ v,en=.returned v/\K v W':=by
 refine dh hfn hbody ?_
 generalize ha0:Act.mk _ _=a0
 have hsz0:a0.tmps.size=12:=by rw[<-ha0];simp[hnt]
 have e0:a0.tmps.getD 0 undef=fv:=by rw[<-ha0,hnt];rfl
 have e1:a0.tmps.getD 1 undef=.func (.func g) #[] #[]:=by rw[<-ha0,hnt];rfl
 have hd0:a0.defers=[]:=by rw[<-ha0]
 clear ha0
 refine wpIn_seq (wpIn_region_list ?_)
 rw[hR0]
 refine bY (dJ ?_)
 refine wpIn_seq (wpIn_region_list ?_)
 rw[hR1]
 refine cG (kX hg _ ?_ hc fun v w1 hv=>bY (dJ ?_))
 ·simp only[List.map_toArray,List.map_cons,List.map_nil,aH,bW,az,ap,hsz0,e0,reduceIte,Nat.reduceLT,Nat.reduceEqDiff]
 generalize ha2:Act.put _ (some 5) _=a2
 have hsz2:a2.tmps.size=12:=by rw[<-ha2];simp only[ap,hsz0]
 have e5:a2.tmps.getD 5 undef=v:=by rw[<-ha2];simp only[aH,bW,az,ap,hsz0,reduceIte,Nat.reduceLT,Nat.reduceEqDiff]
 have e1':a2.tmps.getD 1 undef=.func (.func g) #[] #[]:=by rw[<-ha2];simp only[aH,bW,az,ap,hsz0,e1,reduceIte,Nat.reduceLT,Nat.reduceEqDiff]
 have hd2:a2.defers=[]:=by rw[<-ha2];simp only[aT,hd0]
 clear ha2
 have hcs':=hsort v w1 hv
 refine wpIn_seq (wpIn_region_list ?_)
 rw[hR2]
 refine cG (cG (kX hf _ ?_ hcs' fun u w2 hu=>dJ ?_))
 ·simp only[List.map_toArray,List.map_cons,List.map_nil,aH,bW,az,ap,hsz2,e5,e1',reduceIte,Nat.reduceLT,Nat.reduceEqDiff]
 generalize ha3:Act.put _ (some 10) _=a3
 have hsz3:a3.tmps.size=12:=by rw[<-ha3];simp only[ap,hsz2]
 have e5':a3.tmps.getD 5 undef=v:=by rw[<-ha3];simp only[aH,bW,az,ap,hsz2,e5,reduceIte,Nat.reduceLT,Nat.reduceEqDiff]
 have hd3:a3.defers=[]:=by rw[<-ha3];simp only[aT,hd2]
 clear ha3
 refine wpIn_seq (wpIn_region_list ?_)
 rw[hR3]
 refine cG (bY (dJ (wpIn_ret ⟨by simp only[aT,hd3],v,(results_tmp hres _ _ _).trans ?_,v,rfl,hu⟩)))
 simp only[aH,bW,az,ap,hsz3,e5',reduceIte,Nat.reduceLT,Nat.reduceEqDiff]
def yW(w:World)(S:Nat->Nat->Prop)(l:List D)(g:Nat)(v:Value)(w1:World):Prop:=
 ∃ B S1 sv,v=.func (.func g) #[] #[.pointer (some ⟨B,0,none⟩)]/\ed (cE w S) w1/\w1.cell? ⟨B,0,none⟩=some sv/\B<w1.heap.size/\CR w1 S1 (.sl l) sv/\(∀ b o,S1 b o->b<w1.heap.size)/\(∀ b o,S1 b o->b<w.heap.size->S b o)
theorem yo(hE:EnvOk P E){e:Ty}(hne:am e=true){l:List D}(hwt:∀ x∈l,wt e x){g:Nat}
  {f:Nat} {fn:Func} (hfn:P.funcs[f]?=some fn) {i0 i1:Nat} {R0 R1:Array Oper} (hbody:fn.body=some (.seq (.region i0 R0 false) (.seq (.region i1 R1 false) .ret))) (hnt:fn.ntmps=4) (hres:fn.results=#[.tmp 2])
  {y2 y3:TypeId} {p2 p3:String} {f2 f3:Array Edge} (hR1:R1.toList=[⟨some 3,.makeFunc (.func g) #[] #[.tmp 1],y2,p2,f2,none⟩,⟨some 2,.assign (.tmp 3),y3,p3,f3,none⟩])
  (hv0:ev E (.region i0 R0 false) .leaf D (dS 4 [] (fun i=>if i=0 then .d (.sl e) (.sl l) else .undef)) (yV (.sl e) 1)=some (.sl l))
  {w:World} {S:Nat->Nat->Prop} (hS:∀ b o,S b o->b<w.heap.size) {v0:Value} (hv:eZ w S (.sl l) v0):Calls P f #[v0] w fun en w1=>∃ v,en=.returned v/\yW w S l g v w1:=by
 refine dh hfn hbody ?_
 generalize ha0:Act.mk _ _=a0
 have hsz0:a0.tmps.size=4:=by rw[<-ha0];simp[hnt]
 have e0:a0.tmps.getD 0 undef=v0:=by rw[<-ha0,hnt];rfl
 have hd0:a0.defers=[]:=by rw[<-ha0]
 clear ha0
 have RA:=Cn (lk:=[]) (f:=fun i=>if i=0 then .d (.sl e) (.sl l) else .undef) hS hsz0 hd0 (fun t ht=>by
  by_cases h5:t=0
  ·subst h5;rw[if_pos rfl,e0];exact .inl ⟨by simp only[am];exact hne,⟨l,rfl,hwt⟩,hv⟩
  ·rw[if_neg h5];simp only[AR]) (fun t ht=>by rw[if_neg (by omega)])
 refine wpIn_seq (eO hE _ .leaf D _ _ RA hv0 fun x s1 S1 γ1 β1 a1 w1 g1 g2 g3 g4=>?_)
 obtain⟨rfl,id,htm,hob⟩:=Bb g4
 have hA:=(g1.slot htm (by simp)).2
 simp only[AR,AC] at hA
 obtain⟨hna,B,off,hB1,hγB,hB2⟩:=hA
 have hv1:a1.tmps.getD 1 undef=.pointer (some ⟨B,off,none⟩):=aq hna hB1
 have hoff:off=0:=(hB2 _ hob).2
 subst hoff
 have hO:=g1.obs id _ B hob hγB
 simp only[ip] at hO
 obtain⟨_,_,_,cs,q4,q5,q6⟩:=hO
 simp only[AC] at q5
 obtain⟨_,_,q7⟩:=q5
 have hl1:cs.length=1:=q6
 obtain⟨sv,rfl⟩:∃ sv,cs=[sv]:=by
  match cs,hl1 with
  | [sv],_=>exact⟨sv,rfl⟩
 have hcr:CR w1 S1 (.sl l) sv:=q7.2 0 _ sv (by simp[D.flat]) rfl
 have hsz1:a1.tmps.size=4:=by rw[g1.nt,g3.nt];rfl
 have hd1:=g1.df
 simp only[uY,Exit.then]
 refine wpIn_seq (wpIn_region_list ?_)
 rw[hR1]
 refine Hz (bY (dJ (wpIn_ret ⟨by simp only[aT,hd1],_,(results_tmp hres _ _ _).trans ?_,_,rfl,B,S1,sv,rfl,g1.ext,?_,(g1.γn id B hγB).2,hcr,g1.Sb,fun b o hb hlt=>g1.So b o hb ⟨hlt,fun hf=>hf⟩⟩)))
 ·simp only[aH,bW,az,ap,hsz1,hv1,reduceIte,Nat.reduceLT,Nat.reduceEqDiff]
 ·rw[bQ w1 q4];rfl
theorem xr{f f93 f92 f95 g:Nat}{fn:Func}(hfn:P.funcs[f]?=some fn){i0 i1 i2:Nat}{R0 R1 R2:Array Oper}(hbody:fn.body=some (.seq (.region i0 R0 false) (.seq (.region i1 R1 false) (.seq (.region i2 R2 false) .ret))))(hnt:fn.ntmps=9)(hres:fn.results=#[.tmp 2])
  {y2 y3 y4 y5 y6 y7 y8 y9:TypeId} {p2 p3 p4 p5 p6 p7 p8 p9:String} {f2 f3 f4 f5 f6 f7 f8 f9:Array Edge} {ats ats2 ats3:Array TypeId} (hR0:R0.toList=[⟨some 2,.assign (.const (.slice none 0 0)),y2,p2,f2,none⟩])
  (hR1:R1.toList=[⟨some 4,.move (.tmp 0),y3,p3,f3,none⟩,⟨some 5,.call ⟨.value (.func f93),#[.tmp 4],ats⟩,y4,p4,f4,none⟩,⟨some 6,.call ⟨.value (.func f92),#[.tmp 5,.func g],ats2⟩,y5,p5,f5,none⟩,⟨some 3,.assign (.tmp 6),y6,p6,f6,none⟩])
  (hR2:R2.toList=[⟨some 7,.move (.tmp 3),y7,p7,f7,none⟩,⟨some 8,.call ⟨.value (.func f95),#[.tmp 7],ats3⟩,y8,p8,f8,none⟩,⟨some 2,.assign (.tmp 8),y9,p9,f9,none⟩])
  (hg93 : ∃ fn, P.funcs[f93]? = some fn /\ (fn.name == "runtime.NumGoroutine") = false /\ fn.body.isSome = true) (hg92 : ∃ fn, P.funcs[f92]? = some fn /\ (fn.name == "runtime.NumGoroutine") = false /\ fn.body.isSome = true) (hg95 : ∃ fn, P.funcs[f95]? = some fn /\ (fn.name == "runtime.NumGoroutine") = false /\ fn.body.isSome = true)
  {v0:Value} {w:World} {K1 K2 K3:Value->World->Prop} (h93:Calls P f93 #[v0] w fun en w1=>∃ v,en=.returned v/\K1 v w1) (h92:∀ v w1,K1 v w1->Calls P f92 #[v,.func (.func g) #[] #[]] w1 fun en w2=>∃ v,en=.returned v/\K2 v w2)
  (h95:∀ v w2,K2 v w2->Calls P f95 #[v] w2 fun en w3=>∃ v,en=.returned v/\K3 v w3):Calls P f #[v0] w fun en w3=>∃ v,en=.returned v/\K3 v w3:=by
 refine dh hfn hbody ?_
 generalize ha0:Act.mk _ _=a0
 have hsz0:a0.tmps.size=9:=by rw[<-ha0];simp[hnt]
 have e0:a0.tmps.getD 0 undef=v0:=by rw[<-ha0,hnt];rfl
 have hd0:a0.defers=[]:=by rw[<-ha0]
 clear ha0
 refine wpIn_seq (wpIn_region_list ?_)
 rw[hR0]
 refine bY (dJ ?_)
 refine wpIn_seq (wpIn_region_list ?_)
 rw[hR1]
 refine cG (kX hg93 _ ?_ h93 fun v w1 hv=>kX hg92 _ ?_ (h92 v w1 hv) fun v2 w2 hv2=>bY (dJ ?_))
 ·simp only[List.map_toArray,List.map_cons,List.map_nil,aH,bW,az,ap,hsz0,e0,reduceIte,Nat.reduceLT,Nat.reduceEqDiff]
 ·simp only[List.map_toArray,List.map_cons,List.map_nil,aH,bW,AZ,az,ap,hsz0,e0,reduceIte,Nat.reduceLT,Nat.reduceEqDiff]
 generalize ha2:Act.put _ (some 3) _=a2
 have hsz2:a2.tmps.size=9:=by rw[<-ha2];simp only[ap,hsz0]
 have e3:a2.tmps.getD 3 undef=v2:=by rw[<-ha2];simp only[aH,bW,az,ap,hsz0,reduceIte,Nat.reduceLT,Nat.reduceEqDiff]
 have hd2:a2.defers=[]:=by rw[<-ha2];simp only[aT,hd0]
 clear ha2
 refine wpIn_seq (wpIn_region_list ?_)
 rw[hR2]
 refine cG (kX hg95 _ ?_ (h95 v2 w2 hv2) fun v3 w3 hv3=>bY (dJ (wpIn_ret ⟨by simp only[aT,hd2],v3,(results_tmp hres _ _ _).trans ?_,v3,rfl,hv3⟩)))
 ·simp only[List.map_toArray,List.map_cons,List.map_nil,aH,bW,az,ap,hsz2,e3,reduceIte,Nat.reduceLT,Nat.reduceEqDiff]
 ·simp only[aH,bW,az,ap,hsz2,reduceIte,Nat.reduceLT,Nat.reduceEqDiff]
end
end Go.Proofs.YtjjjkojfijpeeaaGreat.Sy
end
