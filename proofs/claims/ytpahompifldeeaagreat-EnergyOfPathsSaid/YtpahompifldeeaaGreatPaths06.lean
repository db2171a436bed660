/- Part 6 of the proof that EnergyOfPaths answers true at every input -/
import Derived.Test.YtpahompifldeeaaGreatPaths01
import Derived.Test.YtpahompifldeeaaGreatPaths02
import Derived.Test.YtpahompifldeeaaGreatPaths04
import Derived.Test.YtpahompifldeeaaGreatPaths05
import Derived.Scope
import Derived.RangeFuncLeaves
import Derived.Shelf.SlSortCmp.InsertionK
import Derived.ProofKit
import Derived.Carry
import Derived.Test.YtpahompifldeeaaGreatProg
set_option linter.unusedVariables false
set_option linter.unusedSimpArgs false
set_option linter.unnecessarySimpa false
set_option maxRecDepth 20000
namespace Go.Proofs.YtpahompifldeeaaGreat
noncomputable section
namespace Sy
open Go
variable{ro:Option Nat}{nn:Nat}
section
variable{ops:Array Oper}
theorem kA:∀ n,(qU ops n).length=n
 | 0=>rfl
 | n+1=>by simp[qU,kA n]
def nV(ops:Array Oper)(t:Nat):Nat:=match ops[t]? with
 | some o=>o.after.toList.foldl (fun m e=>if Region.binds .any e&&decide (e.on<t) then(m ||| 2^e.on) ||| (qU ops t).getD e.on 0 else m) 0
 | none=>0
theorem kz{t:Nat}:∀ {n:Nat},t<n->(qU ops n).getD t 0=nV ops t
 | 0,h=>by omega
 | n+1,h=>by
  show(qU ops n++[nV ops n]).getD t 0=_
  by_cases e:t=n
  ·subst e
   rw[List.getD_eq_getElem?_getD,List.getElem?_append_right (by rw[kA];exact Nat.le_refl _),kA,Nat.sub_self]
   rfl
  ·rw[List.getD_eq_getElem?_getD,List.getElem?_append_left (by rw[kA];omega),<-List.getD_eq_getElem?_getD]
   exact kz (by omega)
theorem rT{t i:Nat}{l:List Nat}:∀ (es:List Edge) (m:Nat),Nat.testBit (es.foldl (fun m e=>if Region.binds .any e&&decide (e.on<t) then(m ||| 2^e.on) ||| l.getD e.on 0 else m) m) i=true ->
  Nat.testBit m i=true\/∃ e∈es,Region.binds .any e=true/\e.on<t/\(e.on=i\/Nat.testBit (l.getD e.on 0) i=true)
 | [],m,h=>.inl h
 | e::es,m,h=>by
  simp only[List.foldl_cons] at h
  rcases rT es _ h with k|⟨e',h1,h2⟩
  ·split at k
   ·rename_i hc
    simp only[Bool.and_eq_true,decide_eq_true_eq] at hc
    rw[Nat.testBit_or,Nat.testBit_or,Nat.testBit_two_pow] at k
    simp only[Bool.or_eq_true,decide_eq_true_eq] at k
    rcases k with(k|k)|k
    ·exact .inl k
    ·exact .inr ⟨e,by simp,hc.1,hc.2,.inl k⟩
    ·exact .inr ⟨e,by simp,hc.1,hc.2,.inr k⟩
   ·exact .inl k
  ·exact .inr ⟨e',by simp[h1],h2⟩
theorem jl{listed:Array Bool}(hcl:∀ j oj,ops[j]?=some oj->listed.getD j false=true->∀ e∈oj.after,Region.binds .any e=true->listed.getD e.on false=true) :
  ∀ (t:Nat) (o:Oper),ops[t]?=some o->(∀ e∈o.after,Region.binds .any e=true->listed.getD e.on false=true)->∀ i,Nat.testBit (nV ops t) i=true->listed.getD i false=true:=by
 intro t
 induction t using Nat.strongRecOn with
 | _ t ih=>
  intro o ho hd i hi
  unfold nV at hi
  rw[ho] at hi
  simp only at hi
  rcases rT _ _ hi with k|⟨e,h1,h2,h3,h4⟩
  ·simp at k
  ·have he:=hd e (by simpa using h1) h2
   rcases h4 with rfl|h4
   ·exact he
   ·rw[kz h3] at h4
    have hlt:e.on<ops.size:=by have:=(Array.getElem?_eq_some_iff.1 ho).1;omega
    exact ih e.on h3 _ (Array.getElem?_eq_getElem hlt) (hcl _ _ (Array.getElem?_eq_getElem hlt) he) i h4
end
section
variable{E:Env}{ops:Array Oper}
theorem kM{i:Nat}{o:Oper}:∀ (f j0:Nat),jZ E ops i o f j0=true->∀ j oj,j0<=j->j<j0+f->(∀ q oq,j0<=q->q<=j->ops[q]?=some oq->io E oq=true)->ops[j]?=some oj->(∀ e∈oj.after,Region.binds .any e=true->e.on≠i)->o.apart ops oj=true
 | 0,j0,_,j,oj,h1,h2,_,_,_=>by omega
 | f+1,j0,h,j,oj,h1,h2,h3,h4,h5=>by
  have hlt:j0<ops.size:=by have:=(Array.getElem?_eq_some_iff.1 h4).1;omega
  have h0:=Array.getElem?_eq_getElem hlt
  simp only[jZ,h0] at h
  rw[if_pos (h3 j0 _ (Nat.le_refl _) h1 h0)] at h
  simp only[Bool.and_eq_true,Bool.or_eq_true] at h
  by_cases e:j=j0
  ·subst e
   rw[h0] at h4
   cases h4
   rcases h.1 with k|k
   ·obtain⟨e,he,hb⟩:=Array.any_eq_true'.1 k
    simp only[Bool.and_eq_true,beq_iff_eq] at hb
    exact absurd hb.2 (h5 e he hb.1)
   ·exact k
  ·exact kM f (j0+1) h.2 j oj (by omega) (by omega) (fun q oq q1 q2=>h3 q oq (by omega) q2) h4 h5
theorem iG(h:fT E ops=true){i:Nat}{o:Oper}(ho:ops[i]?=some o) :
  (∀ e∈o.after,Region.binds .any e=true->e.on<i)/\(io E o=true->jZ E ops i o ops.size (i+1)=true) ∧
  (io E o=false->(∀ j,j<i->Nat.testBit (nV ops i) j=true)/\∀ j,i<j->j<ops.size->Nat.testBit (nV ops j) i=true):=by
 have hi:=(Array.getElem?_eq_some_iff.1 ho).1
 simp only[fT,List.all_eq_true,List.mem_range] at h
 have h1:=h i hi
 rw[ho] at h1
 simp only[Bool.and_eq_true,List.all_eq_true,Bool.or_eq_true,Bool.not_eq_true',decide_eq_true_eq] at h1
 refine⟨fun e he hb=>?_,fun hc=>?_,fun hc=>⟨fun j hj=>?_,fun j hj hlt=>?_⟩⟩
 ·rcases h1.1 e (by simpa using he) with k|k
  ·rw[hb] at k;cases k
  ·exact k
 ·have:=h1.2;rw[if_pos hc] at this;exact this
 ·have:=h1.2;rw[if_neg (by simp[hc])] at this
  simp only[List.all_eq_true,List.mem_range] at this
  have h2:=this j (by omega)
  rw[if_pos hj,kz hi] at h2
  exact h2
 ·have:=h1.2;rw[if_neg (by simp[hc])] at this
  simp only[List.all_eq_true,List.mem_range] at this
  have h2:=this j hlt
  rw[if_neg (by omega),kz hlt] at h2
  simp only[Bool.or_eq_true,decide_eq_true_eq] at h2
  rcases h2 with h2|h2
  ·omega
  ·exact h2
structure Full(ops:Array Oper)(k:Nat)(listed:Array Bool):Prop where
 size:listed.size=ops.size
 done:∀ j,j<k->j<ops.size->listed.getD j false=true
 rest:∀ j,k<=j->j<ops.size->listed.getD j true=false
theorem Full.set{k:Nat}{listed:Array Bool}(h:Full ops k listed)(hk:k<ops.size):Full ops (k+1) (listed.setIfInBounds k true):=by
 refine⟨by simp[h.size],fun j hj hlt=>?_,fun j hj hlt=>?_⟩
 ·by_cases e:j=k
  ·subst e
   have:j<listed.size:=by rw[h.size];exact hk
   simp[this]
  ·exact getD_set_true (h.done j (by omega) hlt)
 ·rw[getD_set_ne true (by omega)];exact h.rest j (by omega) hlt
theorem Full.inv{k n:Nat}{listed:Array Bool}(hr:fT E ops=true)(h:Full ops k listed)(hkn:k<=n):HeadInv .any ops n listed:=by
 refine⟨h.size,fun j oj hj hl e he hb=>?_,fun t ht hlt=>h.rest t (by omega) hlt⟩
 have hlt:=(Array.getElem?_eq_some_iff.1 hj).1
 have h1:=(iG hr hj).1 e he hb
 rcases Nat.lt_or_ge j k with hk|hk
 ·exact h.done e.on (by omega) (by omega)
 ·have:=getD_both (h.rest j hk hlt)
  rw[this] at hl;cases hl
theorem Full.ready{k:Nat}{listed:Array Bool}(hr:fT E ops=true)(h:Full ops k listed)(hk:k<ops.size):k∈Region.ready .any ops listed:=
 mem_ready.2 ⟨h.rest k (Nat.le_refl _) hk,_,Array.getElem?_eq_getElem hk,fun e he hb=>by
  have:=(iG hr (Array.getElem?_eq_getElem hk)).1 e he hb
  exact h.done e.on this (by omega)⟩
theorem Full.later{k:Nat}{listed:Array Bool}(h:Full ops k listed):∀ j∈Region.ready .any ops listed,k<=j:=by
 intro j hj
 obtain⟨hun,o,ho,_⟩:=mem_ready.1 hj
 have hlt:=(Array.getElem?_eq_some_iff.1 ho).1
 rcases Nat.lt_or_ge j k with hk|hk
 ·have:=h.done j hk hlt
  rw[getD_both hun] at this;cases this
 ·exact hk
theorem AE(hr:fT E ops=true){n:Nat}{o:Oper}(ho:ops[n]?=some o)(hc:io E o=false):jA .any ops n:=by
 intro listed i inv hin hun t ht hrd
 have hn:=(Array.getElem?_eq_some_iff.1 ho).1
 obtain⟨_,ot,hot,hdeps⟩:=mem_ready.1 hrd
 have htlt:=(Array.getElem?_eq_some_iff.1 hot).1
 have h3:=(iG hr ho).2.2 hc
 rcases Nat.lt_or_ge n t with h|h
 ·have h1:=jl inv.closed t ot hot hdeps n (h3.2 t h htlt)
  have h2:=inv.tail n (Nat.le_refl _) hn
  rw[getD_both h2] at h1;cases h1
 ·have e:t=n:=by omega
  subst e
  have h1:=jl inv.closed t ot hot hdeps i (h3.1 i hin)
  rw[getD_both hun] at h1;cases h1
theorem AF:jA .any ops ops.size:=fun listed i _ _ _ t ht hrd=>by
 obtain⟨_,ot,hot,_⟩:=mem_ready.1 hrd
 have:=(Array.getElem?_eq_some_iff.1 hot).1
 omega
theorem BT(hr:fT E ops=true){k:Nat}{o:Oper}{listed:Array Bool}(h:Full ops k listed)(ho:ops[k]?=some o)(hc:io E o=false):∀ j∈Region.ready .any ops listed,j=k:=by
 intro j hj
 have h1:=h.later j hj
 obtain⟨_,oj,hoj,hdeps⟩:=mem_ready.1 hj
 have hlt:=(Array.getElem?_eq_some_iff.1 hoj).1
 rcases Nat.lt_or_ge k j with h2|h2
 ·exfalso
  have h3:=jl (h.inv hr (Nat.le_refl _)).closed j oj hoj hdeps k (((iG hr ho).2.2 hc).2 j h2 hlt)
  have h4:=h.rest k (Nat.le_refl _) (by omega)
  rw[getD_both h4] at h3;cases h3
 ·omega
def gF(E:Env)(ops:Array Oper):Nat->Nat->Nat
 | 0,k=>k
 | f+1,k=>match ops[k]? with
  | some o=>if io E o then gF E ops f (k+1) else k
  | none=>k
theorem oD:∀ (f k:Nat),k+f=ops.size->k<=gF E ops f k/\gF E ops f k<=ops.size/\(∀ j oj,k<=j->j<gF E ops f k->ops[j]?=some oj->io E oj=true)/\(gF E ops f k=ops.size\/∃ o,ops[gF E ops f k]?=some o/\io E o=false)
 | 0,k,h=>⟨Nat.le_refl _,by simp only[gF];omega,fun j oj h1 h2=>by simp only[gF] at h2;omega,.inl (by simpa [gF] using h)⟩
 | f+1,k,h=>by
  have hk:k<ops.size:=by omega
  have h0:=Array.getElem?_eq_getElem hk
  simp only[gF,h0]
  split
  ·rename_i hc
   obtain⟨q1,q2,q3,q4⟩:=oD f (k+1) (by omega)
   refine⟨by omega,q2,fun j oj h1 h2 h3=>?_,q4⟩
   by_cases e:j=k
   ·subst e;rw[h0] at h3;cases h3;exact hc
   ·exact q3 j oj (by omega) h2 h3
  ·rename_i hc
   exact⟨Nat.le_refl _,by omega,fun j oj h1 h2=>by omega,.inr ⟨_,h0,by simpa using hc⟩⟩
theorem vC(hr:fT E ops=true){n:Nat}{L:Array Bool->St->Prop}(hW:jA .any ops n)(hdone:∀ listed s,L listed s->∀ j∈Region.ready .any ops listed,n<=j)(hn:n<=ops.size) :
  ∀ (l:List Oper) (k:Nat) (listed:Array Bool) (s s':St),(∀ j,j<l.length->l[j]?=ops[k+j]?)->k+l.length=n->Full ops k listed->(∀ j oj,k<=j->j<n->ops[j]?=some oj->io E oj=true) ->
  seqV E ops l s=some s'->(∀ listed',Full ops n listed'->L listed' s')->zA E .any ops n L l.length listed s
 | [],k,listed,s,s',_,hk,hF,_,h,hL=>by
  have:k=n:=by simpa using hk
  subst this
  simp only[seqV,Option.some.injEq] at h
  subst h
  exact hL listed hF
 | o::l,k,listed,s,s',hl,hk,hF,hcm,h,hL=>by
  have h0:ops[k]?=some o:=by simpa using(hl 0 (by simp)).symm
  have hkn:k<n:=by simp only[List.length_cons] at hk;omega
  have hks:k<ops.size:=by omega
  simp only[seqV] at h
  obtain⟨v,h1,h2⟩:=bind_some_inv h
  refine pY h0 hW hkn hdone l.length listed s (hF.inv hr (Nat.le_of_lt hkn)) (fun j oj hjn hj hne hun hno=>?_) (hF.ready hr hks) h1
   (vC hr hW hdone hn l (k+1) _ _ s' (fun j hj=>by have:=hl (j+1) (by simp;omega);simpa [Nat.add_assoc,Nat.add_comm 1 j] using this) (by simp only[List.length_cons] at hk;omega) (hF.set hks) (fun j oj h1=>hcm j oj (by omega)) h2 hL)
  have hjlt:=(Array.getElem?_eq_some_iff.1 hj).1
  have hkj:k<j:=by
   rcases Nat.lt_or_ge j k with h3|h3
   ·have:=hF.done j h3 hjlt
    rw[getD_both hun] at this;cases this
   ·omega
  exact kM ops.size (k+1) ((iG hr h0).2.1 (hcm k o (Nat.le_refl _) hkn h0)) j oj (by omega) (by omega) (fun q oq q1 q2=>hcm q oq (by omega) (by omega)) hj hno
end
section
variable{P:Program}{E:Env}{w0:Root}{ops:Array Oper}
theorem Bn(hE:EnvOk P E){N:Nat}{R:Type}{i:Nat}{o:Oper}{l:List (Nat×Oper)}{S:Nat->Nat->Prop}{γ:Nat->Option Nat}{β:Nat->Option (Nat×Nat)}{s:St}{a:Act}{w:World}{k:St->Option R}{r:R}{an:Ann}
  (h:Rp w0 S γ β s a w) (hst:∀ T x y,o.op=.store T x y->o.dst=none) (hf:Fr E s γ β o) (hfl:zh E s γ β (l.map Prod.snd)) (hd:∀ o'∈l.map Prod.snd,∀ d,o'.dst=some d->o.dst≠some d) (hsg:o.guard=none->j4 E s i o l=false)
  (hev:dD E (N+1) R ops an ((i,o)::l) s k=some r) {next:Act->World->Prop} {Q:Exit->Act->World->Prop}
  (hk:∀ u an' s' S' γ' β' w',dD E N R ops an' l s' k=some r->Rp w0 S' γ' β' s' (a.put o.dst u) w'->Fm s S γ a w S' γ' (a.put o.dst u) w'->Sk s s'->zh E s' γ' β' (l.map Prod.snd)->next (a.put o.dst u) w') :
  if Region.wanted o (yielded ops a.tmps) then o.wpIn (FW ro) nn P a w next Q else(∀ f,o.about P w a.eval=some f->(FW ro).fn f)/\next (a.put o.dst undef) w:=by
 have run:¬ ij s o=true->xb E an l s o (fun s'=>dD E N R ops (o9 E o an) l s' k)=some r->o.wpIn (FW ro) nn P a w next Q:=by
  intro hlk he
  have hlk':∀ t∈s.lkS,o.dst≠some t:=fun t ht e=>hlk (by simp[ij,e];exact ht)
  unfold xb at he
  split at he
  ·split at he
   rename_i hcr
   refine tE (K:=fun s1=>dD E N R ops (o9 E o an) l s1 k) hE h hlk' he fun u s' S' γ' β' w' m0 m1 m2 m3=>?_
   exact hk u _ s' S' γ' β' w' m0 m1 m2 m3 fun o' ho'=>by
    obtain⟨p,hp,rfl⟩:=List.mem_map.1 ho'
    have:=List.all_eq_true.1 hcr p hp
    exact yc (by simpa using this)
   split at he<;>first|(cases he;done)|skip
   rename_i hna
   refine tE (K:=fun s1=>dD E N R ops (o9 E o an) l (tj s1) k) hE h hlk' he fun u s' S' γ' β' w' m0 m1 m2 m3=>?_
   exact hk u _ (tj s') S' γ' β' w' m0 m1.later m2 ⟨m3.lkS,m3.lkO,m3.nt⟩ (yn m1 hna hfl)
  obtain⟨s',h1,h2⟩:=tD hE h hf (fun T t _ ht=>hE.flat T t ht) hlk' hst he
  obtain⟨f1,f2,f3,f4,f5,f6⟩:=h2
  refine aV f6 fun u w' ⟨S',γ',β',m1,m2,m3⟩=>?_
  exact hk u _ s' S' γ' β' w' h1 m1 m2 ⟨f1,f2,f4⟩ fun o' ho'=>(hfl o' ho').keep (hd o' ho') f3 f5 m3
 obtain⟨w1,w2,w3⟩:=nW (ops:=ops) (o:=o) h
 cases hg:o.guard with
 | some jw=>
  obtain⟨j,want⟩:=jw
  simp only[dD,hg] at hev
  split at hev<;>first|(cases hev;done)|skip
  rename_i g hgd
  split at hev<;>first|(cases hev;done)|skip
  rename_i hlk
  have hlk':∀ t∈s.lkS,o.dst≠some t:=fun t ht e=>hlk (by simp[ij,e];exact ht)
  have p:=St.put_fields s o.dst .gone
  have alt:(Region.wanted o (yielded ops a.tmps)=true/\(xb E an l s o fun s'=>dD E N R ops (o9 E o an) l s' k)=some r)\/(Region.wanted o (yielded ops a.tmps)=false/\dD E N R ops (o9 E o an) l (s.put o.dst .gone) k=some r):=by
   by_cases hgo:s.tm g=.gone
   ·rw[hgo,dw] at hev
    exact .inr ⟨w3 j want g hg hgd hgo,hev⟩
   rw[eu hgo] at hev
   obtain⟨c,h1,h2⟩:=bind_some_inv hev
   replace h2:=jL (A:=fun s=>xb E an l s o fun s'=>dD E N R ops (o9 E o an) l s' k) (B:=fun s=>dD E N R ops (o9 E o an) l (s.put o.dst .gone) k) h1 h2
   have hw:=w2 j want g c hg hgd h1
   split at h2
   ·rename_i hc;exact .inl ⟨by rw[hw];exact hc,h2⟩
   ·rename_i hc;exact .inr ⟨by rw[hw];simpa using hc,h2⟩
  rcases alt with⟨hw,h2⟩|⟨hw,h2⟩
  ·rw[if_pos hw];exact run hlk h2
  ·rw[if_neg (by simp[hw])]
   refine⟨fun _ _=>trivial,?_⟩
   exact hk undef _ _ S γ β w h2 (h.put (v:=.gone) (val:=undef) (by simp[AR]) o.dst) ⟨fun _ _ hb=>hb,fun _ _ _=>rfl,fun t ht=>bB (hlk' t ht),fun _ _ _ hb=>⟨hb,gN.refl _ _⟩,Nat.le_refl _,fun _ _ hb=>hb,iR.same bf (cC.refl _)⟩ (Sm.put s o.dst .gone).sk
    fun o' ho'=>(hfl o' ho').keep (hd o' ho') p.2.1 (fun id _ _=>by rw[p.1]) fun id _=>⟨rfl,rfl⟩
 | none=>
  rw[if_pos (w1 hg)]
  simp only[dD,hg,hsg hg,Bool.false_eq_true,if_false] at hev
  split at hev<;>first|(cases hev;done)|skip
  rename_i hlk
  exact run hlk hev
theorem jU:∀ (l:List Oper) (i m:Nat),(aJ i l).drop m=aJ (i+m) (l.drop m)
 | l,i,0=>by simp
 | [],i,m+1=>by simp[aJ]
 | o::l,i,m+1=>by
  simp only[aJ,List.drop_succ_cons]
  rw[jU l (i+1) m,show i+1+m=i+(m+1) by omega]
theorem oP{l:List Oper}{i m:Nat}{p:Nat×Oper}(h:p∈(aJ i l).take m):∃ j,j<m/\l[j]?=some p.2:=by
 obtain⟨j,hj,he⟩:=List.getElem_of_mem h
 have h1:((aJ i l).take m)[j]?=some p:=by rw[List.getElem?_eq_getElem hj,he]
 have hjm:j<m:=by simp only[List.length_take] at hj;omega
 rw[List.getElem?_take_of_lt hjm] at h1
 have h2:((aJ i l).map Prod.snd)[j]?=some p.2:=by rw[List.getElem?_map,h1];rfl
 rw[aS] at h2
 exact⟨j,hjm,h2⟩
theorem Ap(hE:EnvOk P E)(hr:fT E ops=true)(hm1:cK (ops.toList.filterMap (·.dst))=true)(hst:∀ o∈ops.toList,∀ T x y,o.op=.store T x y->o.dst=none){Q:Exit->Act->World->Prop}{R:Type}{k:St->Option R}{r:R} :
  ∀ (g:Nat) (k0:Nat) (listed:Array Bool) (N:Nat) (an:Ann) {S:Nat->Nat->Prop} {γ:Nat->Option Nat} {β:Nat->Option (Nat×Nat)} {s:St} {a:Act} {w:World},k0+g=ops.size->Full ops k0 listed->Rp w0 S γ β s a w ->
   (∀ j oj,ops[j]?=some oj->k0<=j->Fr E s γ β oj)->dD E N R ops an (aJ k0 (ops.toList.drop k0)) s k=some r ->
   (∀ s' S' γ' β' a' w',Rp w0 S' γ' β' s' a' w'->Fm s S γ a w S' γ' a' w'->Sk s s'->k s'=some r->Q .normal a' w')->wpAnyIn (FW ro) nn P .any ops Q g listed a w:=by
 intro g
 induction g using Nat.strongRecOn with
 | _ g ih=>
 intro k0 listed N an S γ β s a w hkg hF h hfr hev hQ
 cases g with
 | zero=>
  have hk:k0=ops.size:=by omega
  subst hk
  rw[List.drop_of_length_le (by simp)] at hev
  cases N with
  | zero=>simp[dD] at hev
  | succ N=>
   simp only[aJ,dD] at hev
   refine⟨?_,hQ s S γ β a w h (Fm.refl _ _ _ _ _) (Sk.refl s) hev⟩
   cases hrd:Region.ready .any ops listed with
   | nil=>rfl
   | cons j l=>
    exfalso
    have hj:j∈Region.ready .any ops listed:=by rw[hrd];simp
    have h1:=hF.later j hj
    obtain⟨_,o,ho,_⟩:=mem_ready.1 hj
    have:=(Array.getElem?_eq_some_iff.1 ho).1
    omega
 | succ g=>
 have hk0:k0<ops.size:=by omega
 have ho:=Array.getElem?_eq_getElem hk0
 obtain⟨o,hoe⟩:∃ o,o=ops[k0]:=⟨_,rfl⟩
 rw[<-hoe] at ho
 clear hoe
 have hdr:ops.toList.drop k0=o::ops.toList.drop (k0+1):=by
  have hlt:k0<ops.toList.length:=by simpa using hk0
  rw[List.drop_eq_getElem_cons hlt]
  congr 1
  have:ops.toList[k0]?=some o:=by rw[Array.getElem?_toList];exact ho
  rw[List.getElem?_eq_getElem hlt] at this
  exact Option.some.inj this
 cases hc:io E o with
 | false=>
  refine⟨fun h0=>(by have:=hF.ready hr hk0;rw[h0] at this;cases this),fun i hi=>?_⟩
  have hik:=BT hr hF ho hc i hi
  subst hik
  unfold wpOpIn
  rw[ho]
  simp only
  rw[hdr] at hev
  simp only[aJ] at hev
  cases N with
  | zero=>simp[dD] at hev
  | succ N=>
  have hmap:(aJ (i+1) (ops.toList.drop (i+1))).map Prod.snd=ops.toList.drop (i+1):=aS _ _
  have hidx:∀ o'∈ops.toList.drop (i+1),∃ j,i<j/\ops[j]?=some o':=fun o' ho'=>by
   obtain⟨j,hj,he⟩:=List.getElem_of_mem ho'
   refine⟨i+1+j,by omega,?_⟩
   have:(ops.toList.drop (i+1))[j]?=some o':=by rw[List.getElem?_eq_getElem hj,he]
   rwa [List.getElem?_drop,Array.getElem?_toList] at this
  refine Bn hE h (hst o (Array.mem_toList_iff.2 (Array.mem_of_getElem? ho))) (hfr i o ho (Nat.le_refl _)) (fun o' ho'=>?_) (fun o' ho' d hd=>?_) (fun _=>?_) hev fun u an' s' S' γ' β' w' m0 m1 m2 m3 m4=>?_
  ·rw[hmap] at ho'
   obtain⟨j,hj,hoj⟩:=hidx o' ho'
   exact hfr j o' hoj (by omega)
  ·rw[hmap] at ho'
   obtain⟨j,hj,hoj⟩:=hidx o' ho'
   exact fM hm1 (show i≠j by omega) (by rw[Array.getElem?_toList];exact ho) (by rw[Array.getElem?_toList];exact hoj) d hd
  ·cases hsg:j4 E s i o (aJ (i+1) (ops.toList.drop (i+1))) with
   | false=>rfl
   | true=>
    exfalso
    simp only[j4,Bool.and_eq_true] at hsg
    have h2:=hsg.2
    split at h2<;>first|(cases h2;done)|skip
    simp only[Bool.and_eq_true,Bool.not_eq_true'] at h2
    have h3:io E o=true:=by simp[io,h2.1.1.1.2,h2.1.1.2]
    rw[h3] at hc;cases hc
  ·refine ih g (Nat.lt_succ_self _) (i+1) _ N an' (by omega) (hF.set hk0) m1 (fun j oj hj hij=>m4 oj ?_) m0 fun s2 S2 γ2 β2 a2 w2 n1 n2 n3 n4=>hQ s2 S2 γ2 β2 a2 w2 n1 (m2.trans n2 m3.lkS m3.lkO) (m3.trans n3) n4
   rw[hmap]
   refine List.mem_of_getElem? (i:=j-(i+1)) ?_
   rw[List.getElem?_drop,Array.getElem?_toList,show i+1+(j-(i+1))=j by omega]
   exact hj
 | true=>
  obtain⟨m,hm⟩:∃ m,m=gF E ops (g+1) k0:=⟨_,rfl⟩
  obtain⟨e1,e2,e3,e4⟩:=oD (E:=E) (ops:=ops) (g+1) k0 hkg
  rw[<-hm] at e1 e2 e3 e4
  have hkm:k0<m:=by
   rcases Nat.lt_or_ge k0 m with q|q
   ·exact q
   ·exfalso
    have:m=k0:=by omega
    rw[this] at e4
    rcases e4 with e4|⟨o',q1,q2⟩
    ·omega
    ·rw[ho] at q1;cases q1;rw[hc] at q2;cases q2
  have hW:jA .any ops m:=by
   rcases e4 with e4|⟨o',q1,q2⟩
   ·rw[e4];exact AF
   ·exact AE hr q1 q2
  have hlen:(aJ k0 (ops.toList.drop k0)).length=ops.size-k0:=by rw[fH];simp
  have calmOf:∀ o',io E o'=true->fo o'=true/\iu E o'=false:=fun o' hc'=>by
   simp only[io,Bool.and_eq_true,Bool.not_eq_true'] at hc'
   exact hc'
  obtain⟨s',s'',N',q1,q2,q3⟩:=pO N R (aJ k0 (ops.toList.drop k0)) s k r (m-k0) an (by rw[hlen];omega) (fun p hp=>by
    obtain⟨j,hj,hoj⟩:=oP hp
    rw[List.getElem?_drop,Array.getElem?_toList] at hoj
    exact calmOf _ (e3 (k0+j) p.2 (by omega) (by omega) hoj)) (.inr fun p q hpq=>by
    rw[jU,List.drop_drop,show k0+(m-k0)=m by omega] at hpq
    rcases e4 with e4|⟨o',z1,z2⟩
    ·rw[e4,List.drop_of_length_le (by simp)] at hpq
     simp[aJ] at hpq
    ·have hmlt:=(Array.getElem?_eq_some_iff.1 z1).1
     have:p.2=o':=by
      have h1:(aJ m (ops.toList.drop m)).map Prod.snd=ops.toList.drop m:=aS _ _
      rw[hpq] at h1
      have h2:(ops.toList.drop m)[0]?=some p.2:=by rw[<-h1];rfl
      rw[List.getElem?_drop,Array.getElem?_toList,Nat.add_zero,z1] at h2
      exact(Option.some.inj h2).symm
     rw[this];exact z2) hev
  rw[jU,List.drop_drop,show k0+(m-k0)=m by omega] at q3
  rw[List.map_take,aS] at q1
  have hll:((ops.toList.drop k0).take (m-k0)).length=m-k0:=by simp;omega
  have H:=vC (E:=E) hr (n:=m) (L:=fun listed' s2=>Full ops m listed'/\s2=s') hW (fun listed' s2 hL=>hL.1.later) e2 ((ops.toList.drop k0).take (m-k0)) k0 listed s s' (fun j hj=>by
   rw[hll] at hj
   rw[List.getElem?_take_of_lt hj,List.getElem?_drop,Array.getElem?_toList]) (by rw[hll];omega) hF e3 q1 (fun listed' hF'=>⟨hF',rfl⟩)
  have:=fI (ro:=ro) (nn:=nn) (Q:=Q) (g:=ops.size-m) hE (s0:=s) (S0:=S) (γ0:=γ) (a0:=a) (w1:=w) (fun i j oi oj hij hi hj d hd=>fM hm1 hij (by rw[Array.getElem?_toList];exact hi) (by rw[Array.getElem?_toList];exact hj) d hd)
   (fun listed' s2 S2 γ2 β2 a2 w2 m1 m2 m3 m4 m5=>by
    obtain⟨m5,m6⟩:=m5
    subst m6
    refine ih (ops.size-m) (by omega) m listed' N' an (by omega) m5 (m1.wk q2) (fun j oj hj hmj=>?_) q3 fun s3 S3 γ3 β3 a3 w3 n1 n2 n3 n4=>hQ s3 S3 γ3 β3 a3 w3 n1 (m2.trans n2 (q2.lkS.trans m3.lkS) (q2.lkO.trans m3.lkO)) ((m3.trans (Sm.wk q2)).sk.trans n3) n4
    have hjlt:=(Array.getElem?_eq_some_iff.1 hj).1
    have:=m4 j oj hj (m5.rest j hmj hjlt)
    intro hc d hd
    obtain⟨r1,r2,r3,r4⟩:=this hc d hd
    rw[q2.base_eq,q2.ob]
    exact⟨r1,r2,r3,r4⟩)
   ((ops.toList.drop k0).take (m-k0)).length listed s S γ β a w h (Fm.refl _ _ _ _ _) (Sm.refl s) (fun j oj hj hun=>by
    have hjlt:=(Array.getElem?_eq_some_iff.1 hj).1
    refine hfr j oj hj ?_
    rcases Nat.lt_or_ge j k0 with q|q
    ·have:=hF.done j q hjlt
     rw[getD_both hun] at this;cases this
    ·exact q) H
  rw[hll,show m-k0+(ops.size-m)=g+1 by omega] at this
  exact this
theorem qA(hE:EnvOk P E){id:Nat}{Q:Exit->Act->World->Prop}{S:Nat->Nat->Prop}{γ:Nat->Option Nat}{β:Nat->Option (Nat×Nat)}{s:St}{a:Act}{w:World}{R:Type}{k:St->Option R}{r:R}{N:Nat}
  (h:Rp w0 S γ β s a w) (hf:zh E s γ β ops.toList) (hm:bz ops.toList=true) (hr:fT E ops=true) {an:Ann} (hev:dD E N R ops an (aJ 0 ops.toList) s k=some r)
  (hQ:∀ s' S' γ' β' a' w',Rp w0 S' γ' β' s' a' w'->Fm s S γ a w S' γ' a' w'->Sk s s'->k s'=some r->Q .normal a' w'):(Code.region id ops true).wpIn (FW ro) nn P Q a w:=by
 simp only[bz,Bool.and_eq_true] at hm
 obtain⟨⟨hm1,_⟩,hm3⟩:=hm
 have hstores:∀ o∈ops.toList,∀ T x y,o.op=.store T x y->o.dst=none:=fun o ho T x y e=>by
  have:=List.all_eq_true.1 hm3 o ho
  rw[e] at this
  simpa using this
 refine wpIn_region_any hE.mixed ?_
 have hg:({ w with drawn:=w.drawn+1 }:World)=grown w [] (w.drawn+1):=by simp[grown]
 obtain⟨g1,g2⟩:=h.grow (os:=[]) (d:=w.drawn+1) (Nat.le_succ _) (S':=S) (fun _ _ hb=>hb) (fun _ _ hb=>.inl hb)
 rw[hg]
 have f0:Fm s S γ a w S γ a (grown w [] (w.drawn+1)):=⟨fun _ _ hb=>hb,g2.cell,fun _ _=>rfl,fun id hid b hb=>⟨hb,.inl (bW (h.γn id b hb).2)⟩,by simp,fun _ _ hb=>hb,iR.same rfl cC.grown⟩
 refine Ap (ro:=ro) (nn:=nn) hE hr hm1 hstores ops.size 0 _ N an (by omega) ⟨by simp,fun j hj=>by omega,fun j _ hj=>getD_in (by simpa using hj) (getD_replicate_false _ _)⟩ g1 (fun j oj hj _=>hf oj (Array.mem_toList_iff.2 (Array.mem_of_getElem? hj))) (by simpa using hev) fun s' S' γ' β' a' w' n1 n2 n3 n4=>hQ s' S' γ' β' a' w' n1 (f0.trans n2 rfl rfl) n3 n4
end
end Sy
end
noncomputable section
namespace Sy
open Go
variable{ro:Option Nat}{nn:Nat}
section
variable{P:Program}{E:Env}{w0:Root}
theorem rR{id:Nat}{ops:Array Oper}{dr:Bool}{ann:Ann}{R:Type}{s s1:St}(hs1:s1={ eO s ann.fz with fresh:=s.fresh+1 }){k:Ex->St->Option R}{r:R}(h:ev E (.region id ops dr) ann R s k=some r) :
  bz ops.toList=true/\(((!dr||ni E ops (ann.heads ops.size))=true/\dD E (ops.size+1) R ops ann.inner (aJ 0 ops.toList) (fZ E ops.toList s1) (fun s'=>k .normal s')=some r) ∨
   (dr=true/\qa ops (ann.heads ops.size)=true/\GV E ops (ann.heads ops.size) (iZ ops (ann.heads ops.size) (fZ E ops.toList s1)) (ann.heads ops.size) 0 (fZ E ops.toList s1) (fun s2=>if p8 ops (ann.heads ops.size) s2=some (iZ ops (ann.heads ops.size) (fZ E ops.toList s1)) then dD E (ops.size+1) R ops ann.inner ((aJ 0 ops.toList).drop (ann.heads ops.size)) s2 (fun s'=>k .normal s') else none)=some r) ∨
   (dr=true/\uO E ops (ann.heads ops.size) (lJ ops)=true/\FV E ops (lJ ops) (ann.heads ops.size) 0 (fZ E ops.toList s1) (fun s2=>dD E (ops.size+1) R ops ann.inner ((aJ 0 ops.toList).drop (ann.heads ops.size)) { s2 with dead:=jS s2 (zk ops (lJ ops)) } (fun s'=>k .normal s'))=some r) ∨
   (dr=true/\fT E ops=true/\dD E (ops.size+1) R ops ann.inner (aJ 0 ops.toList) (fZ E ops.toList s1) (fun s'=>k .normal s')=some r)):=by
 have key:(if bz ops.toList&&(!dr||ni E ops (ann.heads ops.size)) then dD E (ops.size+1) R ops ann.inner (aJ 0 ops.toList) (fZ E ops.toList s1) (fun s'=>k .normal s')
  else if bz ops.toList&&qa ops (ann.heads ops.size) then GV E ops (ann.heads ops.size) (iZ ops (ann.heads ops.size) (fZ E ops.toList s1)) (ann.heads ops.size) 0 (fZ E ops.toList s1) (fun s2=>if p8 ops (ann.heads ops.size) s2=some (iZ ops (ann.heads ops.size) (fZ E ops.toList s1)) then dD E (ops.size+1) R ops ann.inner ((aJ 0 ops.toList).drop (ann.heads ops.size)) s2 (fun s'=>k .normal s') else none)
  else if bz ops.toList&&(dr&&uO E ops (ann.heads ops.size) (lJ ops)) then FV E ops (lJ ops) (ann.heads ops.size) 0 (fZ E ops.toList s1) (fun s2=>dD E (ops.size+1) R ops ann.inner ((aJ 0 ops.toList).drop (ann.heads ops.size)) { s2 with dead:=jS s2 (zk ops (lJ ops)) } (fun s'=>k .normal s'))
  else if bz ops.toList&&(dr&&fT E ops) then dD E (ops.size+1) R ops ann.inner (aJ 0 ops.toList) (fZ E ops.toList s1) (fun s'=>k .normal s')
  else none)=some r:=by
  subst hs1
  cases ann<;>exact h
 split at key
 ·rename_i hc
  simp only[Bool.and_eq_true] at hc
  exact⟨hc.1,.inl ⟨hc.2,key⟩⟩
 ·rename_i hn
  split at key
  ·rename_i hc
   simp only[Bool.and_eq_true] at hc
   refine⟨hc.1,.inr (.inl ⟨?_,hc.2,key⟩)⟩
   cases dr
   ·exfalso;exact hn (by simp[hc.1])
   ·rfl
  ·split at key
   ·rename_i hc
    simp only[Bool.and_eq_true] at hc
    exact⟨hc.1,.inr (.inr (.inl ⟨hc.2.1,hc.2.2,key⟩))⟩
   ·split at key<;>first|(cases key;done)|skip
    rename_i hc
    simp only[Bool.and_eq_true] at hc
    exact⟨hc.1,.inr (.inr (.inr ⟨hc.2.1,hc.2.2,key⟩))⟩
theorem Ai(hE:EnvOk P E){Q:Exit->Act->World->Prop}{id:Nat}{ops:Array Oper}{dr:Bool}{ann:Ann}{R:Type}{S:Nat->Nat->Prop}{γ:Nat->Option Nat}{β:Nat->Option (Nat×Nat)}{s:St}{a:Act}{w:World}{k:Ex->St->Option R}{r:R}
  (h:Rp w0 S γ β s a w) (hev:ev E (.region id ops dr) ann R s k=some r) (hQ:Kp Q w0 s S γ a w k r):(Code.region id ops dr).wpIn (FW ro) nn P Q a w:=by
 obtain⟨S1,f1,f2,f3⟩:=np ann.fz h
 obtain⟨s1,hs1⟩:∃ s1,s1={ eO s ann.fz with fresh:=s.fresh+1 }:=⟨_,rfl⟩
 obtain⟨h1,h23⟩:=rR hs1 hev
 have hb1:s1.base=s.base+4096:=by rw[hs1];simp only[St.base];omega
 have hfb:(eO s ann.fz).base=s.base:=f3.base_eq
 have r1:Rp w0 S1 γ β s1 a w:=by
  rw[hs1]
  have q1:∀ id,({ eO s ann.fz with fresh:=s.fresh+1 }:St).base+4096<=id->s.base+4096<=id:=fun id hid=>by
   have e:({ eO s ann.fz with fresh:=s.fresh+1 }:St).base=s.base+4096:=by simp only[St.base];omega
   rw[e] at hid
   exact Nat.le_trans (Nat.le_add_right _ _) hid
  exact⟨f1.ext,f1.tms,f1.nt,f1.tmu,f1.obs,f1.γn,f1.γi,fun id hid=>h.γf id (q1 id hid),f1.βn,f1.βi,f1.βγ,fun v hv=>h.βf v (q1 v hv),f1.Sb,f1.So⟩
 have hle1:∀ d,s.base+4096<=s1.base+d:=fun d=>by have:=Nat.le_add_right s1.base d;rw[hb1] at this ⊢;exact this
 have hg:∀ d,γ (s1.base+d)=none:=fun d=>h.γf (s1.base+d) (hle1 d)
 have hgb:∀ d,β (s1.base+d)=none:=fun d=>h.βf (s1.base+d) (hle1 d)
 obtain⟨r2,m2⟩:=yY (E:=E) ops.toList r1 hg
 have hmk:=h1
 simp only[bz,Bool.and_eq_true,List.all_eq_true] at hmk
 obtain⟨⟨hm1,hm2⟩,_⟩:=hmk
 have hfr:zh E (fZ E ops.toList s1) γ β ops.toList:=by
  intro o ho hc d hd
  rw[m2.base_eq]
  have hd4:=hm2 o ho
  rw[hd] at hd4
  simp only[decide_eq_true_eq] at hd4
  exact⟨hd4,hg d,hgb d,fun T t e1 e2=>ua ops.toList hm1 ho e1 hd e2⟩
 have hsk:Sk s (fZ E ops.toList s1):=by
  refine⟨m2.lkS.trans ?_,m2.lkO.trans ?_,m2.nt.trans ?_⟩<;>rw[hs1]
  ·exact f3.lkS
  ·exact f3.lkO
  ·exact f3.nt
 rcases h23 with⟨h2,h3⟩|⟨hdr,h2,h3⟩|⟨hdr,h2,h3⟩|⟨hdr,h2,h3⟩
 rotate_right
 ·subst hdr
  exact qA hE r2 hfr h1 h2 h3 fun s' S' γ' β' a' w' n1 n2 n3 n4=>hQ .normal s' S' γ' β' a' w' n1 (f2.tr n2 hsk) (hsk.trans n3) n4
 rotate_right
 ·subst hdr
  exact ru hE r2 hfr h1 h2 h3 fun s' S' γ' β' a' w' n1 n2 n3 n4=>hQ .normal s' S' γ' β' a' w' n1 (f2.tr n2 hsk) (hsk.trans n3) n4
 rotate_left
 ·subst hdr
  exact qz hE r2 hfr h1 h2 h3 fun s' S' γ' β' a' w' n1 n2 n3 n4=>hQ .normal s' S' γ' β' a' w' n1 (f2.tr n2 hsk) (hsk.trans n3) n4
 refine Aj hE r2 hfr h1 h2 h3 fun s' S' γ' β' a' w' n1 n2 n3 n4=>?_
 exact hQ .normal s' S' γ' β' a' w' n1 (f2.tr n2 hsk) (hsk.trans n3) n4
theorem Cv{S:Nat->Nat->Prop}{γ:Nat->Option Nat}{β:Nat->Option (Nat×Nat)}{s:St}{a:Act}{w:World}(h:Rp w0 S γ β s a w){c:Operand}{t:Bool}(ht:(s.opA c).truth=some t):a.eval c=.bool t:=
 (lw ht (aM h c)).1
theorem OS{S S':Nat->Nat->Prop}{γ γ':Nat->Option Nat}{s:St}{a a':Act}{w w':World}(hro:∀ l,ro=some l->∃ r0,w.heap[l]?=some (Obj.loop r0))(F:Fm s S γ a w S' γ' a' w'):∀ l,ro=some l->∃ r0,w'.heap[l]?=some (Obj.loop r0):=fun l hl=>(F.dfs.1 l).2 (hro l hl)
def qg(E:Env)(c:Code)(h:Shape)(exits:List (Ex×Shape))(a:Ann)(s:St)(v:List D):Option (Sum (List D) (Nat×List D)):=
 ev E c a (Sum (List D) (Nat×List D)) (h.mk' s v (h.keepS++s.lkS) (bM h.objs++s.lkO)) fun e s'=>match e with
    | .normal=>(h.dec s s').bind fun v'=>some (.inl v')
    | e=>(Ax s exits e s').bind fun r=>some (.inr r)
theorem gn(hE:EnvOk P E):∀ (c:Code) (ann:Ann) (R:Type) {Q:Exit->Act->World->Prop} {S:Nat->Nat->Prop} {γ:Nat->Option Nat} {β:Nat->Option (Nat×Nat)} {s:St} {a:Act} {w:World} (k:Ex->St->Option R) (r:R),
  (∀ l,ro=some l->∃ r0,w.heap[l]?=some (Obj.loop r0))->Rp w0 S γ β s a w->ev E c ann R s k=some r->Kp Q w0 s S γ a w k r->c.wpIn (FW ro) nn P Q a w
 | .skip,ann,R,Q,S,γ,β,s,a,w,k,r,hro,h,hev,hQ=>by
  simp only[ev] at hev
  exact wpIn_skip (hQ .normal s S γ β a w h (Fm.refl _ _ _ _ _) (Sk.refl s) hev)
 | .label l,ann,R,Q,S,γ,β,s,a,w,k,r,hro,h,hev,hQ=>by
  simp only[ev] at hev
  exact wpIn_label (hQ .normal s S γ β a w h (Fm.refl _ _ _ _ _) (Sk.refl s) hev)
 | .exit id,ann,R,Q,S,γ,β,s,a,w,k,r,hro,h,hev,hQ=>by
  simp only[ev] at hev
  exact wpIn_exit (hQ (.exit id) s S γ β a w h (Fm.refl _ _ _ _ _) (Sk.refl s) hev)
 | .ret,ann,R,Q,S,γ,β,s,a,w,k,r,hro,h,hev,hQ=>by
  simp only[ev] at hev
  exact wpIn_ret (hQ .ret s S γ β a w h (Fm.refl _ _ _ _ _) (Sk.refl s) hev)
 | .region id ops dr,ann,R,Q,S,γ,β,s,a,w,k,r,hro,h,hev,hQ=>Ai hE h hev hQ
 | .cond c x y,ann,R,Q,S,γ,β,s,a,w,k,r,hro,h,hev,hQ=>by
  simp only[ev] at hev
  obtain⟨t,ht,hev⟩:=bind_some_inv hev
  refine wpIn_cond (Cv h ht) ?_
  cases t
  ·exact gn hE y _ R k r hro h (by simpa using hev) hQ
  ·exact gn hE x _ R k r hro h (by simpa using hev) hQ
 | .block id c,ann,R,Q,S,γ,β,s,a,w,k,r,hro,h,hev,hQ=>by
  simp only[ev] at hev
  refine wpIn_block (gn hE c _ R _ r hro h hev fun e s' S' γ' β' a' w' n1 n2 n3 n4=>?_)
  cases e with
  | normal=>exact hQ .normal s' S' γ' β' a' w' n1 n2 n3 n4
  | ret=>exact hQ .ret s' S' γ' β' a' w' n1 n2 n3 n4
  | exit j=>
   simp only[Bo,Exit.inBlock]
   simp only at n4
   split at n4
   ·rename_i hj;rw[if_pos hj];exact hQ .normal s' S' γ' β' a' w' n1 n2 n3 n4
   ·rename_i hj;rw[if_neg hj];exact hQ (.exit j) s' S' γ' β' a' w' n1 n2 n3 n4
 | .seq c d,ann,R,Q,S,γ,β,s,a,w,k,r,hro,h,hev,hQ=>by
  have plain:(ev E c ann.fst R s fun e s'=>match e with|.normal=>ev E d ann.snd R s' k|e=>k e s')=some r->(Code.seq c d).wpIn (FW ro) nn P Q a w:=fun hev=>by
   refine wpIn_seq (gn hE c _ R _ r hro h hev fun e s' S' γ' β' a' w' n1 n2 n3 n4=>?_)
   cases e with
   | normal=>
    exact gn hE d _ R k r (OS hro n2) n1 n4 fun e2 s2 S2 γ2 β2 a2 w2 m1 m2 m3 m4=>hQ e2 s2 S2 γ2 β2 a2 w2 m1 (n2.tr m2 n3) (n3.trans m3) m4
   | ret=>exact hQ .ret s' S' γ' β' a' w' n1 n2 n3 n4
   | exit j=>exact hQ (.exit j) s' S' γ' β' a' w' n1 n2 n3 n4
  cases ann with
  | leaf=>simp only[ev] at hev;exact plain hev
  | reg fz n=>simp only[ev] at hev;exact plain hev
  | regI fz n x=>simp only[ev] at hev;exact plain hev
  | two x y=>simp only[ev] at hev;exact plain hev
  | loop x y z=>simp only[ev] at hev;exact plain hev
  | cut exits kS kO x y=>
   clear plain
   simp only[ev] at hev
   obtain⟨⟨j,v⟩,h1,h2⟩:=bind_some_inv hev
   refine wpIn_seq (gn hE c x _ _ (j,v) hro (h.lk (kS++s.lkS) (kO++s.lkO)) h1 fun e s' S' γ' β' a' w' n1 n2 n3 n4=>?_)
   obtain⟨sh,q1,q2⟩:=s7 n4
   simp only at q1 q2
   obtain⟨c1,c2,c3⟩:=jG (Nat.zero_le j) (by simpa using q1) h2
   obtain⟨γ'',β'',p1,p2⟩:=mE h n1 n2.sub n2.cell n3.nt (h:=sh) (fun t ht=>n2.slots t (List.mem_append_left _ (g7 c2 t ht))) n2.gam (fun id hid=>n2.objs id (List.mem_append_left _ (g7 c3 id hid))) q2 s.lkS s.lkO
   have F:Fm s S γ a w S' γ'' a' w':=(n2.less (s2:=s) (fun t ht=>List.mem_append_right _ ht) (fun t ht=>List.mem_append_right _ ht)).shape h p2
   cases e with
   | normal=>
    exact gn hE d y R k r (OS hro F) p1 c1 fun e2 s2 S2 γ2 β2 a2 w2 m1 m2 m3 m4=>hQ e2 s2 S2 γ2 β2 a2 w2 m1 (F.tr m2 ⟨rfl,rfl,rfl⟩) (Sk.trans (b:=sh.mk' s v s.lkS s.lkO) ⟨rfl,rfl,rfl⟩ m3) m4
   | ret=>exact hQ .ret _ S' γ'' β'' a' w' p1 F ⟨rfl,rfl,rfl⟩ c1
   | exit i=>exact hQ (.exit i) _ S' γ'' β'' a' w' p1 F ⟨rfl,rfl,rfl⟩ c1
 | .loop c,ann,R,Q,S,γ,β,s,a,w,k,r,hro,h,hev,hQ=>by
  cases ann with
  | loop sh exits x=>
   have hev':(sh.dec s s).bind (fun v0=>(E.lp (qg E c sh exits x s) v0).bind fun r=>kY s k sh.keepS (bM sh.objs) exits 0 r)=some r:=hev
   obtain⟨v0,h1,hev'⟩:=bind_some_inv hev'
   obtain⟨⟨j,vj⟩,h2,h3⟩:=bind_some_inv hev'
   obtain⟨n,hn⟩:=hE.lp _ _ _ _ _ h2
   obtain⟨sL,hsL⟩:∃ sL:St,sL={ s with lkS:=sh.keepS++s.lkS,lkO:=bM sh.objs++s.lkO }:=⟨_,rfl⟩
   obtain⟨γ0,β0,p1,p2⟩:=mE h h (fun _ _ hb=>hb) (fun _ _ _=>rfl) rfl (h:=sh) (fun _ _=>rfl) (fun _ _ hb=>hb) (fun _ _ _ hb=>⟨hb,gN.refl _ _⟩) h1 (sh.keepS++s.lkS) (bM sh.objs++s.lkO)
   have F0:Fm sL S γ a w S γ0 a w:=(Fm.refl sL S γ a w).shape h p2
   refine te (fun n a1 w1=>∃ v S1 γ1 β1,Rp w0 S1 γ1 β1 (sh.mk' s v (sh.keepS++s.lkS) (bM sh.objs++s.lkO)) a1 w1/\Fm sL S γ a w S1 γ1 a1 w1/\mo (qg E c sh exits x s) n v=some (j,vj)) (m:=n) ⟨v0,S,γ0,β0,p1,F0,hn⟩ ?_
   rintro n a1 w1 ⟨v,S1,γ1,β1,g1,g2,g3⟩
   cases n with
   | zero=>simp[nB] at g3
   | succ m=>
    simp only[iw] at g3
    cases hb:qg E c sh exits x s v with
    | none=>rw[hb] at g3;cases g3
    | some res=>
     rw[hb] at g3
     refine gn hE c x _ _ res (OS hro g2) g1 hb fun e s' S' γ' β' a' w' n1 n2 n3 n4=>?_
     have F:Fm sL S γ a w S' γ' a' w':=g2.tr n2 (by rw[hsL];exact⟨rfl,rfl,rfl⟩)
     have hnt:s'.nt=s.nt:=n3.nt
     have sl:∀ t∈sh.keepS,a'.tmps.getD t undef=a.tmps.getD t undef:=fun t ht=>F.slots t (by rw[hsL];exact List.mem_append_left _ ht)
     have ob:∀ id∈bM sh.objs,∀ b,γ id=some b->γ' id=some b/\gN w w' b:=fun id hid=>F.objs id (by rw[hsL];exact List.mem_append_left _ hid)
     have fin:∀ e,Ax s exits e s'=some (j,vj)->Q (Bo e) a' w':=fun e he=>by
      obtain⟨sh2,q1,q2⟩:=s7 he
      simp only at q1 q2
      obtain⟨c1,c2,c3⟩:=jG (Nat.zero_le j) (by simpa using q1) h3
      obtain⟨γ'',β'',o1,o2⟩:=mE h n1 F.sub F.cell hnt (h:=sh2) (fun t ht=>sl t (g7 c2 t ht)) F.gam (fun id hid=>ob id (g7 c3 id hid)) q2 s.lkS s.lkO
      exact hQ e _ S' γ'' β'' a' w' o1 ((F.less (s2:=s) (fun t ht=>by rw[hsL];exact List.mem_append_right _ ht) (fun t ht=>by rw[hsL];exact List.mem_append_right _ ht)).shape h o2) ⟨rfl,rfl,rfl⟩ c1
     cases e with
     | normal=>
      simp only at n4
      obtain⟨v',q1,q2⟩:=bind_some_inv n4
      simp only[Option.some.injEq] at q2
      subst q2
      obtain⟨γ'',β'',o1,o2⟩:=mE h n1 F.sub F.cell hnt (h:=sh) sl F.gam ob q1 (sh.keepS++s.lkS) (bM sh.objs++s.lkO)
      exact⟨m,Nat.lt_succ_self m,v',S',γ'',β'',o1,F.shape h o2,g3⟩
     | ret=>
      simp only at n4
      obtain⟨v',q1,q2⟩:=bind_some_inv n4
      simp only[Option.some.injEq] at q2
      subst q2
      simp only[Option.some.injEq] at g3
      subst g3
      exact fin .ret q1
     | exit i=>
      simp only at n4
      obtain⟨v',q1,q2⟩:=bind_some_inv n4
      simp only[Option.some.injEq] at q2
      subst q2
      simp only[Option.some.injEq] at g3
      subst g3
      exact fin (.exit i) q1
  | leaf=>simp[ev] at hev
  | reg fz n=>simp[ev] at hev
  | regI fz n x=>simp[ev] at hev
  | two x y=>simp[ev] at hev
  | cut exits kS kO x y=>simp[ev] at hev
 | .goto l,ann,R,Q,S,γ,β,s,a,w,k,r,hro,h,hev,hQ=>by
  have:(none:Option R)=some r:=by cases ann<;>exact hev
  cases this
 | .scope c,ann,R,Q,S,γ,β,s,a,w,k,r,hro,h,hev,hQ=>by
  simp only[ev] at hev
  refine kH (gn hE c _ R k r hro h hev fun e s' S' γ' β' a' w' n1 n2 n3 n4=>?_)
  cases e<;>exact hQ _ s' S' γ' β' a' w' n1 n2 n3 n4
 | .rangeFunc f ps x y,ann,R,Q,S,γ,β,s,a,w,k,r,hro,h,hev,hQ=>GW hE (an:=ann) hro h (by cases ann<;>exact hev) hQ
theorem yB(hE:EnvOk P E)(c:Code)(ann:Ann)(R:Type){Q:Exit->Act->World->Prop}{S:Nat->Nat->Prop}{γ:Nat->Option Nat}{β:Nat->Option (Nat×Nat)}{s:St}{a:Act}{w:World}(k:Ex->St->Option R)(r:R)
  (h:Rp w0 S γ β s a w) (hev:ev E c ann R s k=some r) (hQ:Kp Q w0 s S γ a w k r):c.wpIn (FW none) nn P Q a w:=
 gn hE c ann R k r (fun _ h=>by cases h) h hev hQ
end
theorem GP{P:Program}{E:Env}(hE:EnvOk P E):AN P (ev E):=fun _ _ _ c ann R _ _ _ _ _ _ _ k r hro h hev hQ=>gn hE c ann R k r hro h hev hQ
end Sy
end
noncomputable section
namespace Sy
open Go
open Go.ChangeMaps (setBlock)
open Go.RowKit
variable{ro:Option Nat}{nn:Nat}
section
variable{P:Program}{E:Env}{w0:Root}{S:Nat->Nat->Prop}{γ:Nat->Option Nat}{β:Nat->Option (Nat×Nat)}{s:St}{a:Act}{w:World}
def nM(tmps:Array Value):ResultVar->Sem Value
 | .tmp t=>pure (tmps.getD t undef)
 | .cell a t=>do loadVar t (<-asAddr (tmps.getD a undef))
theorem lu(fn:Func)(tmps:Array Value):Go.results fn tmps=(do
  let vs <-fn.results.mapM (nM tmps)
  pure (if h:vs.size=1 then vs[0] else .tuple vs)):=by
 unfold Go.results
 congr 1
theorem Bq{t t':Ty}{a:AV}(h:AV.fits t a=true)(h':AV.fits t' a=true):cn t=cn t':=by
 cases a
 case d u x=>rw[nk h,nk h']
 all_goals (cases t<;>cases t'<;>simp_all [AV.fits,cn])
theorem yZ(hE:EnvOk P E)(h:Rp w0 S γ β s a w){R:Type}{t:Ty}(hn:am t=true){k:D->Option R}{r:ResultVar}{y:R}(hq:Cc E s t k r=some y) :
  ∃ x v,k x=some y/\(nM a.tmps r).run P w=.ok v w/\wt t x/\eZ w S x v:=by
 cases r with
 | tmp i=>
  simp only[Cc] at hq
  obtain⟨x,h1,h2⟩:=bind_some_inv hq
  have hi:i<a.tmps.size:=by
   rcases Nat.lt_or_ge i a.tmps.size with hlt|hge
   ·exact hlt
   ·rw[h.tmu i (by rw[<-h.nt];exact hge)] at h1
    simp[AV.toD] at h1
  obtain⟨k1,k2⟩:=kQ hn (h.tms i hi) h1
  exact⟨x,a.tmps.getD i undef,h2,rfl,k1,k2⟩
 | cell i T=>
  simp only[Cc] at hq
  obtain⟨u,hu,hq⟩:=bind_some_inv hq
  split at hq<;>first|(cases hq;done)|skip
  rename_i t' id p htm
  split at hq<;>first|(cases hq;done)|skip
  rename_i hb
  have:=Ty.eq_of_beq _ _ hb
  subst this
  obtain⟨o,ho,hq⟩:=bind_some_inv hq
  have hi:i<a.tmps.size:=by
   rcases Nat.lt_or_ge i a.tmps.size with hlt|hge
   ·exact hlt
   ·have:=h.tmu i (by rw[<-h.nt];exact hge)
    rw[htm] at this;cases this
  have hx:=h.tms i hi
  rw[htm] at hx
  obtain⟨b,off,hv,hγ,hob⟩:=mR hx
  obtain⟨k1,rfl⟩:=hob o ho
  obtain⟨a',cs,m1,m2,m3,m4,m5⟩:=nK (h.obs id o b ho hγ) k1 hq
  obtain⟨m6,m7⟩:=fS _ _ _ m3 m2
  obtain⟨v,hrun,hval⟩:=g6 (gX hE hu m4) (w:=w) (b:=b) (off:=ci o p) m6 m7 m5
  obtain⟨x,h1,h2⟩:=bind_some_inv m1
  obtain⟨q1,q2,q3⟩:=nT _ _ _ _ h1 m2
  have hag:=Bq (qO _ _ _ h1) m3
  refine⟨x,v,h2,?_,q1,q3 v ⟨hval.1,by rw[hag];exact hval.2.1,by rw[hag];exact hval.2.2⟩ hn⟩
  rw[<-hrun]
  simp only[nM,Instr.loadAt,Instr.sureAddr,pure_bind]
  rw[show a.tmps.getD i undef=.pointer (some ⟨b,ci o p,none⟩) from hv]
  rfl
theorem qC(hE:EnvOk P E)(h:Rp w0 S γ β s a w){R:Type}:∀ (ts:List Ty) (rs:List ResultVar) (k:List D->Option R) (y:R),aY ts=true->qB E s ts rs k=some y ->
  ∃ xs vs,k xs=some y/\(rs.mapM (nM a.tmps)).run P w=.ok vs w/\dU ts xs/\vs.length=rs.length/\xs.length=vs.length/\∀ (i:Nat) (d:D) (u:Value),xs[i]?=some d->vs[i]?=some u->eZ w S d u
 | [],[],k,y,_,hq=>by
  simp only[qB] at hq
  exact⟨[],[],hq,rfl,rfl,rfl,rfl,fun i d u h=>by simp at h⟩
 | [],_::_,k,y,_,hq=>by simp[qB] at hq
 | _::_,[],k,y,_,hq=>by simp[qB] at hq
 | t::ts,r::rs,k,y,hn,hq=>by
  simp only[qB] at hq
  simp only[aY,Bool.and_eq_true] at hn
  obtain⟨x,v,h1,h2,h3,h4⟩:=yZ hE h hn.1 hq
  obtain⟨xs,vs,k1,k2,k3,k4,k5,k6⟩:=qC hE h ts rs _ y hn.2 h1
  refine⟨x::xs,v::vs,k1,?_,⟨x,xs,rfl,h3,k3⟩,by simp[k4],by simp[k5],fun i d u hd hu=>?_⟩
  ·simp only[List.mapM_cons,Sem.run_bind,h2,Result.andThen_ok,k2,Sem.run_pure]
  ·cases i with
   | zero=>simp at hd hu;subst hd;subst hu;exact h4
   | succ i=>simp at hd hu;exact k6 i d u hd hu
def gD(n:Nat)(rty:Ty):Bool:=if n=1 then am rty else match rty with|.tup ts=>aY ts|_=>false
theorem jf(hE:EnvOk P E)(h:Rp w0 S γ β s a w){fn:Func}{rty:Ty}{y:D}(hr:gD fn.results.size rty=true)(hq:results E s rty fn.results.toList=some y) :
  ∃ v,(Go.results fn a.tmps).run P w=.ok v w/\wt rty y/\DR w S y v:=by
 rw[lu]
 have hm:fn.results.mapM (nM a.tmps)=Functor.map List.toArray (fn.results.toList.mapM (nM a.tmps)):=by
  rw[Array.mapM_eq_mapM_toList]
 rw[hm]
 have hsz:fn.results.size=fn.results.toList.length:=by simp
 rw[hsz] at hr
 generalize fn.results.toList=rs at *
 match rs,hr,hq with
 | [r],hr,hq=>
  have hr':am rty=true:=by simpa [gD] using hr
  simp only[results] at hq
  obtain⟨x,v,h1,h2,h3,h4⟩:=yZ hE h hr' hq
  simp only[Option.some.injEq] at h1
  subst h1
  refine⟨v,?_,h3,DR.of0 h4⟩
  simp[List.mapM_cons,h2]
 | [],hr,hq=>
  simp only[gD,List.length_nil] at hr
  obtain⟨ts,rfl⟩:∃ ts,rty=.tup ts:=by
   cases rty<;>first|exact⟨_,rfl⟩|(simp[results] at hq;done)
  simp only[results] at hq
  obtain⟨xs,vs,k1,k2,k3,k4,k5,k6⟩:=qC hE h ts [] _ y (by simpa using hr) hq
  simp only[Option.some.injEq] at k1
  subst k1
  refine⟨.tuple vs.toArray,?_,by simp only[wt];exact⟨xs,rfl,k3⟩,vs,rfl,k5,k6⟩
  have:vs=[]:=List.length_eq_zero_iff.1 k4
  subst this
  simp
 | r::r'::rs,hr,hq=>
  simp only[gD,List.length_cons] at hr
  rw[if_neg (by omega)] at hr
  obtain⟨ts,rfl⟩:∃ ts,rty=.tup ts:=by
   cases rty<;>first|exact⟨_,rfl⟩|(simp[results] at hq;done)
  simp only[results] at hq
  obtain⟨xs,vs,k1,k2,k3,k4,k5,k6⟩:=qC hE h ts (r::r'::rs) _ y hr hq
  simp only[Option.some.injEq] at k1
  subst k1
  refine⟨.tuple vs.toArray,?_,by simp only[wt];exact⟨xs,rfl,k3⟩,vs,rfl,k5,k6⟩
  have:vs.length≠1:=by rw[k4];simp
  have k2':((List.mapM (nM a.tmps) (r::r'::rs)).run P w)=.ok vs w:=k2
  simp only[Sem.run_bind,map_eq_pure_bind,k2',Result.andThen_ok,Sem.run_pure]
  simp[this]
theorem iY{r:Root}{w:World}(h:jz r w)(hs:∀ b,¬ r.sh b):∃ os d,r.w.drawn<=d/\w=grown r.w os d:=by
 obtain⟨w0,S0,sh⟩:=r
 obtain⟨h1,h2,h3,h4,hdr,h5⟩:=h
 simp only[Root.heap,Root.Old] at *
 refine⟨(w.heap.toList.drop w0.heap.size),w.drawn,hdr,?_⟩
 have e:w.heap=w0.heap++(w.heap.toList.drop w0.heap.size).toArray:=by
  apply Array.ext'
  rw[Array.toList_append]
  conv=>lhs;rw[<-List.take_append_drop w0.heap.size w.heap.toList]
  congr 1
  apply List.ext_getElem?
  intro i
  by_cases hi:i<w0.heap.size
  ·rw[List.getElem?_take_of_lt hi,Array.getElem?_toList,h5 i ⟨hi,hs i⟩,Array.getElem?_toList]
  ·rw[List.getElem?_eq_none (by simp;omega),List.getElem?_eq_none (by simpa using hi)]
 cases w
 simp only[grown] at *
 subst h1;subst h2;subst h3
 congr 1
theorem Ch{K:Nat}{ds:Option (List Deferred)}{x:Option (List Deferred)}(hk:w.heap[K]?=some (.deferred ds))(b:Nat):bw (setBlock w K (.deferred x)) b=bw w b:=by
 by_cases e:b=K
 ·subst e
  simp only[bw,hk,fB (Array.getElem?_eq_some_iff.1 hk).1]
 ·simp only[bw,c8 e]
theorem sP{K:Nat}{ds:Option (List Deferred)}{x:Option (List Deferred)}(hk:w.heap[K]?=some (.deferred ds))(b o:Nat):(setBlock w K (.deferred x)).cell? ⟨b,o,none⟩=w.cell? ⟨b,o,none⟩:=by
 by_cases e:b=K
 ·subst e
  simp only[World.cell?,hk,fB (Array.getElem?_eq_some_iff.1 hk).1]
 ·simp only[World.cell?,c8 e]
theorem Rp.shut(h:Rp w0 S γ β s a w){K:Nat}{ds:Option (List Deferred)}(hk:w.heap[K]?=some (.deferred ds))(hK:¬ w0.Old K)(x:Option (List Deferred)):Rp w0 S γ β s a (setBlock w K (.deferred x)):=by
 have hle:Cx.le ⟨w,S,γ,β,s.ob,s.dead⟩ ⟨setBlock w K (.deferred x),S,γ,β,s.ob,s.dead⟩:=
  ⟨fun b o _=>sP hk b o,fun _ _ hb=>hb,fun _ _ hb=>hb,fun i y hy _=>⟨y,hy,fun p=>⟨rfl,rfl⟩,fun t l e=>⟨l,e,rfl⟩,fun _ _ l e=>⟨l,e⟩⟩,fun v hv=>⟨hv,fun b' e he=>⟨he,fun n hn=>by
   have hn':kF w b'=some n:=hn
   show kF (setBlock w K (.deferred x)) b'=some n
   simp only[kF,Ch hk] at hn' ⊢
   exact hn'⟩⟩⟩
 refine⟨lc h.ext rfl rfl rfl (by rw[da];exact Nat.le_refl _) (Nat.le_refl _) (fun b' hb'=>c8 fun e=>hK (e ▸ hb')),fun t ht=>(h.tms t ht).mono hle,h.nt,h.tmu,fun i y b' hy hb'=>?_,fun i b' hb'=>by rw[da];exact h.γn i b' hb',h.γi,h.γf,
  fun v b' e hv he=>by rw[da];exact h.βn v b' e hv he,h.βi,h.βγ,h.βf,fun b' o hb=>by rw[da];exact h.Sb b' o hb,h.So⟩
 have hO:=h.obs i y b' hy hb'
 refine hO.mono hle (c8 fun e=>?_) fun _ hh=>hh
 subst e
 cases y<;>simp only[fK] at hO
 case one=>obtain⟨_,_,_,cs,k,_⟩:=hO;simp[bw,hk] at k
 case many=>obtain⟨_,_,_,cs,k,_⟩:=hO;simp[bw,hk] at k
 case mp=>obtain⟨_,_,_,es,k,_⟩:=hO;rw[hk] at k;cases k
 case lp=>obtain⟨r,k,_⟩:=hO;rw[hk] at k;cases k
theorem bV.set{lo:Nat}:∀ {l:List Deferred} {hi K:Nat} {x:Option (List Deferred)},hi<=K->bV lo w hi l->bV lo (setBlock w K (.deferred x)) hi l
 | [],_,_,_,_,_=>trivial
 | d::l,hi,K,x,hh,⟨J,h1,h2,h3,h4,h5⟩=>⟨J,h1,h2,h3,by rw[c8 (by omega)];exact h4,bV.set (by omega) h5⟩
theorem rZ{fn:Func}{tmps:Array Value}{Rn:Ending->World->Prop}{J:World->Prop}{lo:Nat}(hJ:∀ w K,J w->lo<=K->w.heap[K]?=some (.deferred (some []))->J (setBlock w K (.deferred none)))
  (hR:∀ w,J w->∃ v,(Go.results fn tmps).run P w=.ok v w/\Rn (.returned v) w):∀ (m:List Deferred) (hi:Nat) (w:World),bV lo w hi m->J w->LeavesInM (FW none) 0 P fn tmps Rn m .returning w
 | [],_,w,_,hw=>hR w hw
 | d::m,hi,w,⟨K,h1,h2,_,h4,h5⟩,hw=>by
  refine⟨by simp,.inl ⟨K,_,by rw[h1],run_takeDeferred h4,rZ hJ hR m K _ (bV.set (Nat.le_refl _) h5) (hJ w K hw h2 h4)⟩⟩
theorem jD(hE:EnvOk P E){f:FuncId}{fn:Func}{c:Code}(hf:P.funcs[f]?=some fn)(hb:fn.body=some c){args:Array Value}{ann:Ann}{R:Type}{k:Ex->St->Option R}{r:R}{Rn:Ending->World->Prop}
  (ha:a={ tmps:=args++Array.replicate (fn.ntmps-args.size) undef,defers:=[] }) (h:Rp w0 S γ β s a w) (hev:ev E c ann R s k=some r) (hk:∀ i s',k (.exit i) s'≠some r)
  (fin:∀ e s' S' γ' β' a' w',Rp w0 S' γ' β' s' a' w'->Fm s S γ a w S' γ' a' w'->Sk s s'->k e s'=some r->∃ v,(Go.results fn a'.tmps).run P w'=.ok v w'/\Rn (.returned v) w'):Calls P f args w Rn:=by
 refine callsIn_wide.1 (callsIn_of_wp_marks (F:=FW none) (n:=0) hf hb trivial ?_)
 rw[<-ha]
 refine yB hE c ann R k r h hev fun e s' S' γ' β' a' w' n1 n2 n3 n4=>?_
 have hd:a.defers=[]:=by rw[ha]
 have key:LeavesInM (FW none) 0 P fn a'.tmps Rn a'.defers .returning w':=by
  obtain⟨q1,m,q2,q3,_⟩:=n2.dfs
  rw[hd,List.append_nil] at q2
  rw[q2]
  refine rZ (J:=fun w2=>Rp w0 S' γ' β' s' { a' with defers:=a.defers } w2/\Fm s S γ a w S' γ' { a' with defers:=a.defers } w2) (lo:=w.heap.size) (fun w2 K ⟨j1,j2⟩ hlo h4=>?_) (fun w2 ⟨j1,j2⟩=>fin e s' S' γ' β' _ w2 j1 j2 n3 n4) m _ w' q3 ⟨n1.act rfl,⟨n2.sub,n2.cell,n2.slots,n2.objs,n2.sz,n2.gam,iR.same rfl q1⟩⟩
  have hold:¬ w0.Old K:=fun ho=>by have:=ho.1;have:=h.ext.sz;omega
  refine⟨j1.shut h4 hold none,j2.sub,fun b o hbo=>(sP h4 b o).trans (j2.cell b o hbo),j2.slots,fun i hi b hb=>?_,by rw[da];exact j2.sz,j2.gam,iR.same rfl fun b=>?_⟩
  ·obtain⟨z1,z2⟩:=j2.objs i hi b hb
   have hlt:=(h.γn i b hb).2
   exact⟨z1,z2.trans (.inl (c8 (by omega)))⟩
  ·obtain⟨z1,z2⟩:=j2.dfs.1 b
   have hne:b<w.heap.size->b≠K:=fun _=>by omega
   refine⟨fun hb=>?_,fun⟨r,hb⟩=>?_⟩
   ·rw[c8 (hne (Array.getElem?_eq_some_iff.1 hb).1)];exact z1 hb
   ·rw[c8 (hne (Array.getElem?_eq_some_iff.1 hb).1)];exact z2 ⟨r,hb⟩
 cases e with
 | normal=>exact key
 | ret=>exact key
 | exit i=>exact absurd n4 (hk i s')
theorem zu(hE:EnvOk P E){f:FuncId}{fn:Func}{ann:Ann}{ptys:List Ty}{rty:Ty}{xs:List D}{y:D}(hf:P.funcs[f]?=some fn)(hsz:ptys.length<=fn.ntmps)(hn:aY ptys=true)(hr:gD fn.results.size rty=true)
  (h:OO E fn ann ptys rty xs=some y):HY P ptys rty f xs y:=by
 intro w S vs hS hwt hlen hvs
 unfold OO at h
 split at h<;>first|(cases h;done)|skip
 rename_i c hb
 have hxl:xs.length=ptys.length:=jn hwt
 have hntm:(vs.toArray++Array.replicate (fn.ntmps-vs.toArray.size) undef).size=fn.ntmps:=by
  simp;omega
 refine jD (w0:=⟨w,S,fun _=>False⟩) (S:=S) (γ:=fun _=>none) (β:=fun _=>none) hE hf hb rfl ?_ h (fun _ _ hh=>by cases hh) fun e s' S' γ' β' a' w' n1 n2 n3 n4=>?_
 ·refine⟨⟨rfl,rfl,rfl,Nat.le_refl _,Nat.le_refl _,fun _ _=>rfl⟩,fun t ht=>?_,hntm,fun t ht=>?_,fun id o b ho=>(by cases ho),fun id b hb=>(by cases hb),fun id id' b hb=>(by cases hb),fun _ _=>rfl,fun v b e _ hb=>(by cases hb),fun v v' b e e' _ _ hb=>(by cases hb),fun v id b e _ hb=>(by cases hb),fun _ _=>rfl,hS,fun b o hb _=>hb⟩
  ·simp only[jM]
   split
   ·rename_i ty x e1 e2
    have hlt:=(List.getElem?_eq_some_iff.1 e2).1
    have hlt':t<vs.length:=by omega
    have hv:(vs.toArray++Array.replicate (fn.ntmps-vs.toArray.size) undef).getD t undef=vs[t]:=by
     simp[Array.getD,Array.getElem_append,hlt']
     omega
    show AR _ _ ((vs.toArray++Array.replicate (fn.ntmps-vs.toArray.size) undef).getD t undef)
    rw[hv]
    obtain⟨x',hx',hw'⟩:=ga hwt e1
    rw[e2] at hx';cases hx'
    exact df (bH hn e1) hw' (hvs t x _ e2 (List.getElem?_eq_getElem hlt'))
   ·simp only[AR]
  ·have ht':fn.ntmps<=t:=ht
   simp only[jM]
   rw[List.getElem?_eq_none (by omega)]
 ·have hres:results E s' rty fn.results.toList=some y->(∃ v,(Go.results fn a'.tmps).run P w'=.ok v w'/\∃ v',Ending.returned v=.returned v'/\(∃ os d,w.drawn<=d/\w'=grown w os d)/\wt rty y/\DR w' (fun b o=>S b o\/(w.heap.size<=b/\b<w'.heap.size)) y v'):=fun hq=>by
   obtain⟨v,k1,k2,k3⟩:=jf hE n1 hr hq
   refine⟨v,k1,v,rfl,iY n1.ext (fun _ hf=>hf),k2,k3.mono (fun _ _ _=>rfl) fun b o hb=>?_⟩
   rcases Nat.lt_or_ge b w.heap.size with hlt|hge
   ·exact .inl (n1.So b o hb ⟨hlt,fun hf=>hf⟩)
   ·exact .inr ⟨hge,n1.Sb b o hb⟩
  cases e with
  | normal=>exact hres n4
  | ret=>exact hres n4
  | exit i=>cases n4
def vF(tys:List Ty)(k:Nat)(args:List D)(i:Nat):AV:=
 if i+k<tys.length then jM tys args i else match tys[i]? with
  | some t=>.ptr t (i+k-tys.length) []
  | none=>.undef
def Hy(tys:List Ty)(k:Nat)(args:List D)(j:Nat):Option Ob:=
 if j<k then match tys[tys.length-k+j]?,args[tys.length-k+j]? with
  | some t,some x=>some (.one t (.d t x))
  | _,_=>none
 else none
def jN:Option Ob->Bool
 | some (.one _ _)=>true
 | _=>false
def GT(E:Env)(fn:Func)(ann:Ann)(tys:List Ty)(k:Nat)(rty:Ty)(args:List D):Option D:=
 match fn.body with
 | none=>none
 | some c=>ev E c ann D { tm:=vF tys k args,ob:=Hy tys k args,fresh:=0,dead:=[],nt:=fn.ntmps,lkS:=[],lkO:=List.range k } fun e s=>match e with
  | .exit _=>none
  | _=>if(List.range k).all (fun j=>jN (s.ob j)) then results E s rty fn.results.toList else none
theorem wZ(hE:EnvOk P E){f:FuncId}{fn:Func}{ann:Ann}{ptys:List Ty}{k:Nat}{rty:Ty}{xs:List D}{y:D}(hf:P.funcs[f]?=some fn)(hsz:ptys.length<=fn.ntmps)(hn:aY ptys=true)(hk:k<=ptys.length)(hk4:k<=4095)(hr:gD fn.results.size rty=true)
  (h:GT E fn ann ptys k rty xs=some y):HZ P ptys rty f xs y k:=by
 intro w S vs bs hS hwt hbl hlen hnd hvs hbs
 unfold GT at h
 split at h<;>first|(cases h;done)|skip
 rename_i c hb
 have hxl:xs.length=ptys.length:=jn hwt
 have hvl:vs.length=ptys.length-k:=by omega
 obtain⟨l,hl⟩:∃ l,l=vs++bs.map Ad:=⟨_,rfl⟩
 have hll:l.length=ptys.length:=by rw[hl];simp;omega
 rw[<-hl]
 have hntm:(l.toArray++Array.replicate (fn.ntmps-l.toArray.size) undef).size=fn.ntmps:=by
  simp;omega
 have hget:∀ t,t<l.length->(l.toArray++Array.replicate (fn.ntmps-l.toArray.size) undef).getD t undef=l.getD t undef:=fun t ht=>by
  simp[Array.getD,Array.getElem_append,ht]
  omega
 have cap:∀ j b,bs[j]?=some b->j<k/\∃ t x,ptys[ptys.length-k+j]?=some t/\xs[ptys.length-k+j]?=some x/\wt t x/\Gp w S x b:=fun j b hj=>by
  have hjk:j<k:=by rw[<-hbl];exact(List.getElem?_eq_some_iff.1 hj).1
  have h1:ptys.length-k+j<ptys.length:=by omega
  obtain⟨x,hx,hw⟩:=ga hwt (List.getElem?_eq_getElem h1)
  exact⟨hjk,_,x,List.getElem?_eq_getElem h1,hx,hw,hbs j x b (by rw[hvl];exact hx) hj⟩
 have capn:∀ j b,bs[j]?=some b->b<w.heap.size:=fun j b hj=>by
  obtain⟨_,t,x,_,_,_,_,cs,q,_⟩:=cap j b hj
  simp only[bw] at q
  split at q<;>first|(cases q;done)|skip
  rename_i hh
  exact(Array.getElem?_eq_some_iff.1 hh).1
 have key:∀ t,AR ⟨w,S,fun id=>bs[id]?,fun _=>none,Hy ptys k xs,[]⟩ (vF ptys k xs t) ((l.toArray++Array.replicate (fn.ntmps-l.toArray.size) undef).getD t undef):=fun t=>by
  simp only[vF]
  split
  ·rename_i hlt
   rw[hget t (by omega)]
   simp only[jM]
   split
   ·rename_i ty x e1 e2
    have hlt':t<vs.length:=by omega
    have hv:l.getD t undef=vs[t]:=by
     rw[hl,List.getD_eq_getElem?_getD,List.getElem?_append_left hlt',List.getElem?_eq_getElem hlt'];rfl
    rw[hv]
    obtain⟨x',hx',hw'⟩:=ga hwt e1
    rw[e2] at hx';cases hx'
    exact df (bH hn e1) hw' (hvs t x _ e2 (List.getElem?_eq_getElem hlt'))
   ·simp only[AR]
  ·rename_i hge
   split
   ·rename_i ty e1
    have hlt:=(List.getElem?_eq_some_iff.1 e1).1
    obtain⟨j,hj⟩:∃ j,j=t+k-ptys.length:=⟨_,rfl⟩
    have hjk:j<bs.length:=by omega
    have ht':t=ptys.length-k+j:=by omega
    rw[hget t (by omega),<-hj]
    have hv:l.getD t undef=Ad bs[j]:=by
     rw[hl,List.getD_eq_getElem?_getD,List.getElem?_append_right (by omega),show t-vs.length=j by omega,List.getElem?_map,List.getElem?_eq_getElem hjk];rfl
    rw[hv]
    refine gb (List.getElem?_eq_getElem hjk) fun o ho=>?_
    have ho':Hy ptys k xs j=some o:=ho
    unfold Hy at ho'
    split at ho'<;>first|(cases ho';done)|skip
    split at ho'<;>first|(cases ho';done)|skip
    rename_i u x q1 q2
    cases ho'
    rw[<-ht',e1] at q1
    cases q1
    exact⟨rfl,rfl⟩
   ·simp only[AR]
 refine jD (w0:=⟨w,S,fun b=>b∈bs⟩) (S:=S) (γ:=fun id=>bs[id]?) (β:=fun _=>none) hE hf hb rfl ?_ h (fun _ _ hh=>by cases hh) fun e s' S' γ' β' a' w' n1 n2 n3 n4=>?_
 ·refine⟨⟨rfl,rfl,rfl,Nat.le_refl _,Nat.le_refl _,fun _ _=>rfl⟩,fun t ht=>?_,hntm,fun t ht=>?_,fun id o b ho hb=>?_,fun id b hb=>⟨fun ho=>ho.2 (List.mem_of_getElem? hb),capn id b hb⟩,fun id id' b hb hb'=>hnd id id' b hb hb',fun id hid=>List.getElem?_eq_none ?_,fun v b e _ hb=>(by cases hb),fun v v' b e e' _ _ hb=>(by cases hb),fun v id b e _ hb=>(by cases hb),fun _ _=>rfl,hS,fun b o hb _=>hb⟩
  ·exact key t
  ·have ht':fn.ntmps<=t:=ht
   show vF ptys k xs t=.undef
   unfold vF
   rw[if_neg (by omega),List.getElem?_eq_none (by omega)]
  ·have ho':Hy ptys k xs id=some o:=ho
   obtain⟨hjk,t,x,q1,q2,q3,q4,cs,q5,q6⟩:=cap id b hb
   unfold Hy at ho'
   rw[if_pos hjk,q1,q2] at ho'
   cases ho'
   have q0:=bH hn q1
   simp only[fK,AV.fits,AC]
   exact⟨q0,Ty.beq_refl' t,q4,cs,q5,⟨q3,q0,q6⟩,by rw[<-q6.1];exact bT _ _ q3 q0⟩
  ·have hid':0*4096+4096<=id:=hid
   omega
 ·have stay:∀ b∈bs,w'.heap[b]?=w.heap[b]?/\((List.range k).all (fun j=>jN (s'.ob j))=true->∀ o,¬ S' b o):=fun b hb=>by
   obtain⟨j,hj⟩:=List.getElem?_of_mem hb
   obtain⟨hjk,t,x,q1,q2,q3,q4,cs,q5,q6⟩:=cap j b hj
   obtain⟨z1,z2⟩:=n2.objs j (List.mem_range.2 hjk) b hj
   refine⟨z2.row q5,fun hall=>?_⟩
   have:=List.all_eq_true.1 hall j (List.mem_range.2 hjk)
   cases ho:s'.ob j with
   | none=>rw[ho] at this;cases this
   | some o=>
    rw[ho] at this
    have hO:=n1.obs j o b ho z1
    cases o<;>simp only[jN] at this<;>first|(cases this;done)|skip
    simp only[fK] at hO
    exact hO.2.2.1
  have hres:(if(List.range k).all (fun j=>jN (s'.ob j)) then results E s' rty fn.results.toList else none)=some y->(∃ v,(Go.results fn a'.tmps).run P w'=.ok v w'/\∃ v',Ending.returned v=.returned v'/\(∃ os d,w.drawn<=d/\w'=grown w os d)/\wt rty y/\DR w' (fun b o=>S b o\/(w.heap.size<=b/\b<w'.heap.size)) y v'):=fun hq=>by
   split at hq<;>first|(cases hq;done)|skip
   rename_i hall
   obtain⟨v,k1,k2,k3⟩:=jf hE n1 hr hq
   refine⟨v,k1,v,rfl,iY (r:=⟨w,S,fun _=>False⟩) ⟨n1.ext.tape,n1.ext.os,n1.ext.output,n1.ext.sz,n1.ext.dr,fun b hb=>?_⟩ (fun _ hf=>hf),k2,k3.mono (fun _ _ _=>rfl) fun b o hb=>?_⟩
   ·by_cases hm:b∈bs
    ·exact(stay b hm).1
    ·exact n1.ext.old b ⟨hb.1,hm⟩
   ·rcases Nat.lt_or_ge b w.heap.size with hlt|hge
    ·by_cases hm:b∈bs
     ·exact absurd hb ((stay b hm).2 hall o)
     ·exact .inl (n1.So b o hb ⟨hlt,hm⟩)
    ·exact .inr ⟨hge,n1.Sb b o hb⟩
  cases e with
  | normal=>exact hres n4
  | ret=>exact hres n4
  | exit i=>cases n4
end
end Sy
end
noncomputable section
namespace Sy
open Go Go.Proofs Go.Sort Go.Lib
def tw(E:Env)(g:Nat)(x y:D):Option Int:=(E.call g [x,y]).bind fun r=>match r with|.int .i64 n=>some n|_=>none
def oz(E:Env)(g:Nat)(x y:D):Bool:=match tw E g x y with|some n=>decide (n<0)|none=>false
def CJ(E:Env)(g:Nat)(x y:D):Bool:=match tw E g x y with|some n=>decide (0<=n)|none=>false
def xg(lt:D->D->Bool)(x:D):List D->List D
 | []=>[x]
 | y::l=>if lt x y then x::y::l else y::xg lt x l
def ju(lt:D->D->Bool):List D->List D
 | []=>[]
 | x::l=>xg lt x (ju lt l)
def rb(E:Env)(g:Nat):List D->Bool
 | []=>true
 | x::l=>CJ E g x x&&l.all (fun y=>oz E g x y&&CJ E g y x)&&rb E g l
def iK(E:Env)(g:Nat)(l:List D):Option (List D):=if rb E g (ju (oz E g) l) then some (ju (oz E g) l) else none
theorem ny(lt:D->D->Bool)(x:D):∀ l:List D,(xg lt x l).Perm (x::l)
 | []=>.refl _
 | y::l=>by
  simp only[xg]
  split
  ·exact .refl _
  ·exact((ny lt x l).cons y).trans (.swap x y l)
theorem fC(lt:D->D->Bool):∀ l:List D,(ju lt l).Perm l
 | []=>.refl _
 | x::l=>(ny lt x _).trans ((fC lt l).cons x)
section
variable{E:Env}{g:Nat}
theorem ip:∀ {l:List D},rb E g l=true->l.Pairwise (fun x y=>oz E g x y=true/\CJ E g y x=true)/\∀ x∈l,CJ E g x x=true
 | [],_=>⟨.nil,by simp⟩
 | x::l,h=>by
  simp only[rb,Bool.and_eq_true,List.all_eq_true] at h
  obtain⟨⟨h1,h2⟩,h3⟩:=h
  obtain⟨k1,k2⟩:=ip h3
  exact⟨List.pairwise_cons.2 ⟨h2,k1⟩,fun y hy=>by
   rcases List.mem_cons.1 hy with rfl|hy
   ·exact h1
   ·exact k2 y hy⟩
theorem Bs{x y:D}(h:CJ E g x y=true):oz E g x y=false:=by
 unfold CJ at h
 unfold oz
 split at h
 ·rename_i n hn
  simp only[decide_eq_true_eq] at h
  simp only[decide_eq_false_iff_not];omega
 ·cases h
theorem Hd{x y:D}(h:oz E g x y=true\/CJ E g x y=true):∃ n,tw E g x y=some n:=by
 rcases h with h|h
 ·unfold oz at h;split at h
  ·exact⟨_,by assumption⟩
  ·cases h
 ·unfold CJ at h;split at h
  ·exact⟨_,by assumption⟩
  ·cases h
variable{l:List D}(hc:rb E g l=true)
include hc
theorem dF{i j:Nat}{x y:D}(hi:l[i]?=some x)(hj:l[j]?=some y):(oz E g x y=true↔i<j)/\∃ n,tw E g x y=some n:=by
 obtain⟨h1,h2⟩:=ip hc
 obtain⟨hi',rfl⟩:=List.getElem?_eq_some_iff.1 hi
 obtain⟨hj',rfl⟩:=List.getElem?_eq_some_iff.1 hj
 rcases Nat.lt_trichotomy i j with k|k|k
 ·have:=List.pairwise_iff_getElem.1 h1 i j hi' hj' k
  exact⟨⟨fun _=>k,fun _=>this.1⟩,Hd (.inl this.1)⟩
 ·subst k
  have:=h2 _ (List.getElem_mem hi')
  exact⟨⟨fun h=>(by rw[Bs this] at h;cases h),fun h=>absurd h (Nat.lt_irrefl _)⟩,Hd (.inr this)⟩
 ·have:=List.pairwise_iff_getElem.1 h1 j i hj' hi' k
  exact⟨⟨fun h=>(by rw[Bs this.2] at h;cases h),fun h=>by omega⟩,Hd (.inr this.2)⟩
theorem rH:l.Nodup:=by
 obtain⟨h1,h2⟩:=ip hc
 refine h1.imp fun{x y} h e=>?_
 subst e
 rw[Bs h.2] at h;cases h.1
def AK(E:Env)(g:Nat)(l:List D)(x y:{d:D // d∈l}):Int:=(tw E g x.1 y.1).getD 0
omit hc in
theorem vQ{x y:{d:D // d∈l}}:ltOf (AK E g l) x y=oz E g x.1 y.1:=by
 unfold ltOf AK oz
 cases tw E g x.1 y.1<;>simp
theorem FB:SWO (ltOf (AK E g l)):=by
 have ix:∀ x:{d:D // d∈l},∃ i,l[i]?=some x.1:=fun x=>by
  obtain⟨i,h1,h2⟩:=List.getElem_of_mem x.2
  exact⟨i,by rw[List.getElem?_eq_getElem h1,h2]⟩
 have key:∀ (x y:{d:D // d∈l}) (i j:Nat),l[i]?=some x.1->l[j]?=some y.1->(ltOf (AK E g l) x y=true↔i<j):=fun x y i j hi hj=>by rw[vQ];exact(dF hc hi hj).1
 refine⟨fun x=>?_,fun x y z h1 h2=>?_,fun x y z h1 h2=>?_⟩
 ·obtain⟨i,hi⟩:=ix x
  cases h:ltOf (AK E g l) x x with
  | false=>rfl
  | true=>exact absurd ((key x x i i hi hi).1 h) (Nat.lt_irrefl _)
 ·obtain⟨i,hi⟩:=ix x;obtain⟨j,hj⟩:=ix y;obtain⟨k,hk⟩:=ix z
  have a:=(key x y i j hi hj).1 h1;have b:=(key y z j k hj hk).1 h2
  exact(key x z i k hi hk).2 (by omega)
 ·obtain⟨i,hi⟩:=ix x;obtain⟨j,hj⟩:=ix y;obtain⟨k,hk⟩:=ix z
  have a:¬ i<j:=fun h=>by rw[(key x y i j hi hj).2 h] at h1;cases h1
  have b:¬ j<k:=fun h=>by rw[(key y z j k hj hk).2 h] at h2;cases h2
  cases h:ltOf (AK E g l) x z with
  | false=>rfl
  | true=>have:=(key x z i k hi hk).1 h;omega
theorem Av[Inhabited {d:D // d∈l}]{d d':Array {d:D // d∈l}}(hd:(d.toList.map (·.1)).Perm l)(hp:PermIn 0 d.size d d')(hs:SortedIn (ltOf (AK E g l)) 0 d.size d'):d'.toList.map (·.1)=l:=by
 obtain⟨p1,_,p3⟩:=hp
 have q:d'.toList.Perm d.toList:=by
  have e1:d'.extract 0 d.size=d':=by rw[<-p1];simp
  rw[e1] at p3
  simpa using p3
 have qp:(d'.toList.map (·.1)).Perm l:=(q.map _).trans hd
 have hlen:(d'.toList.map (·.1)).length=l.length:=qp.length_eq
 have nd:=qp.symm.nodup (rH hc)
 have asc:(d'.toList.map (·.1)).Pairwise (fun x y=>oz E g x y=true):=by
  rw[List.pairwise_iff_getElem]
  intro i j hi hj hij
  simp only[List.length_map,Array.length_toList] at hi hj
  have h1:=hs i j (Nat.zero_le _) hij (by omega)
  rw[getElem!_pos d' j hj,getElem!_pos d' i hi,vQ] at h1
  simp only[List.getElem_map,Array.getElem_toList]
  obtain⟨a,ha1,ha2⟩:=List.getElem_of_mem (d'[i]).2
  obtain⟨b,hb1,hb2⟩:=List.getElem_of_mem (d'[j]).2
  have ea:l[a]?=some (d'[i]).1:=by rw[List.getElem?_eq_getElem ha1,ha2]
  have eb:l[b]?=some (d'[j]).1:=by rw[List.getElem?_eq_getElem hb1,hb2]
  have k1:¬ b<a:=fun h=>by rw[(dF hc eb ea).1.2 h] at h1;cases h1
  have k2:a≠b:=fun e=>by
   subst e
   have:(d'[i]).1=(d'[j]).1:=by rw[<-ha2,<-hb2]
   have:=List.pairwise_iff_getElem.1 nd i j (by simpa using hi) (by simpa using hj) hij
   simp only[List.getElem_map,Array.getElem_toList] at this
   contradiction
  exact(dF hc ea eb).1.2 (by omega)
 have key:∀ {a b:List D},a.Pairwise (fun x y=>oz E g x y=true)->b.Pairwise (fun x y=>oz E g x y=true)->a.Perm b->(∀ x∈a,x∈l)->a=b:=by
  intro a
  induction a with
  | nil=>intro b _ _ hp _;exact hp.symm.eq_nil.symm ▸ rfl
  | cons x a ih=>
   intro b ha hb hp hm
   cases b with
   | nil=>exact absurd hp.eq_nil (by simp)
   | cons y b=>
    obtain⟨a1,a2⟩:=List.pairwise_cons.1 ha
    obtain⟨b1,b2⟩:=List.pairwise_cons.1 hb
    have e:x=y:=by
     rcases List.mem_cons.1 (hp.subset List.mem_cons_self) with e|m1
     ·exact e
     ·rcases List.mem_cons.1 (hp.symm.subset (List.mem_cons_self (a:=y))) with e|m2
      ·exact e.symm
      ·exfalso
       have h1:=b1 x m1
       have h2:=a1 y m2
       obtain⟨i,hi1,hi2⟩:=List.getElem_of_mem (hm x List.mem_cons_self)
       obtain⟨j,hj1,hj2⟩:=List.getElem_of_mem (hm y (List.mem_cons_of_mem _ m2))
       have ei:l[i]?=some x:=by rw[List.getElem?_eq_getElem hi1,hi2]
       have ej:l[j]?=some y:=by rw[List.getElem?_eq_getElem hj1,hj2]
       have:=(dF hc ei ej).1.1 h2
       have:=(dF hc ej ei).1.1 h1
       omega
    subst e
    rw[ih a2 b2 ((List.perm_cons x).1 hp) (fun z hz=>hm z (List.mem_cons_of_mem _ hz))]
 exact key asc ((ip hc).1.imp fun h=>h.1) qp fun x hx=>qp.subset hx
end
end Sy
end
noncomputable section
namespace Sy
open Go Go.Proofs Go.Sort Go.Lib
def oy:D->Bool
 | .int ..=>true
 | .bool _=>true
 | _=>false
def eC:D->Value
 | .int k n=>.int k n
 | .bool b=>.bool b
 | _=>undef
mutual
theorem iA:∀ (t:Ty) (x:D),bu t=true->wt t x->∀ d∈x.flat,oy d=true
 | .int k,x,_,h=>by simp only[wt] at h;obtain⟨n,rfl⟩:=h;intro d hd;simp only[D.flat,List.mem_singleton] at hd;subst hd;rfl
 | .bool,x,_,h=>by simp only[wt] at h;obtain⟨n,rfl⟩:=h;intro d hd;simp only[D.flat,List.mem_singleton] at hd;subst hd;rfl
 | .str,x,hc,h=>by simp[bu] at hc
 | .st ts,x,hc,h=>by
  simp only[wt] at h
  obtain⟨l,rfl,hl⟩:=h
  simp only[bu] at hc
  simp only[D.flat]
  exact qc ts l hc hl
 | .arr n t,x,hc,h=>by
  simp only[wt] at h
  obtain⟨l,rfl,hn,hl⟩:=h
  clear hn
  simp only[bu] at hc
  simp only[D.flat]
  induction l with
  | nil=>intro d hd;simp[D.flats] at hd
  | cons y l ih=>
   intro d hd
   simp only[D.flats,List.mem_append] at hd
   rcases hd with hd|hd
   ·exact iA t y hc (hl y List.mem_cons_self) d hd
   ·exact ih (fun z hz=>hl z (List.mem_cons_of_mem _ hz)) d hd
 | .sl t,x,hc,h=>by simp[bu] at hc
 | .tup l,x,hc,h=>by simp[bu] at hc
 | .fn,x,hc,h=>by simp[bu] at hc
theorem qc:∀ (ts:List Ty) (l:List D),jF ts=true->dU ts l->∀ d∈D.flats l,oy d=true
 | [],l,_,h=>by simp only[dU] at h;subst h;intro d hd;simp[D.flats] at hd
 | t::ts,l,hc,h=>by
  simp only[dU] at h
  obtain⟨y,l',rfl,h1,h2⟩:=h
  simp only[jF,Bool.and_eq_true] at hc
  intro d hd
  simp only[D.flats,List.mem_append] at hd
  rcases hd with hd|hd
  ·exact iA t y hc.1 h1 d hd
  ·exact qc ts l' hc.2 h2 d hd
end
theorem ya{w:World}{S:Nat->Nat->Prop}{d:D}{c:Value}(hl:oy d=true):CR w S d c↔c=eC d:=by
 cases d<;>simp only[oy] at hl<;>first|(cases hl;done)|skip
 ·exact⟨fun h=>h.int_inv,fun h=>by subst h;exact .int _ _⟩
 ·exact⟨fun h=>h.bool_inv,fun h=>by subst h;exact .bool _⟩
theorem eI{w:World}{S:Nat->Nat->Prop}{ds:List D}{cs:List Value}(hl:∀ d∈ds,oy d=true):cw w S ds cs↔cs=ds.map eC:=by
 constructor
 ·rintro⟨h1,h2⟩
  apply List.ext_getElem?
  intro i
  rw[List.getElem?_map]
  rcases Nat.lt_or_ge i ds.length with k|k
  ·have a:=List.getElem?_eq_getElem k
   have b:cs[i]?=some cs[i]:=List.getElem?_eq_getElem (h1 ▸ k)
   rw[a,b]
   simp only[Option.map_some,Option.some.injEq]
   exact(ya (hl _ (List.getElem_mem k))).1 (h2 i _ _ a b)
  ·rw[List.getElem?_eq_none k,List.getElem?_eq_none (by omega)];rfl
 ·rintro rfl
  refine⟨by simp,fun i d c hd hc=>?_⟩
  rw[List.getElem?_map,hd] at hc
  simp only[Option.map_some,Option.some.injEq] at hc
  exact(ya (hl d (List.mem_of_getElem? hd))).2 hc.symm
theorem rS{k:Nat}(hk:0<k):∀ (l:List D),(∀ x∈l,x.flat.length=k)->∀ t,(D.flats l)[t]?=(l[t/k]?).bind fun x=>x.flat[t%k]?
 | [],_,t=>by simp[D.flats]
 | x::l,h,t=>by
  have hx:=h x List.mem_cons_self
  simp only[D.flats]
  rcases Nat.lt_or_ge t k with c|c
  ·rw[List.getElem?_append_left (by omega),Nat.div_eq_of_lt c,Nat.mod_eq_of_lt c];rfl
  ·rw[List.getElem?_append_right (by omega),hx,rS hk l (fun y hy=>h y (List.mem_cons_of_mem _ hy)) (t-k)]
   have e1:t/k=(t-k)/k+1:=by rw[Nat.div_eq_sub_div hk c]
   have e2:t%k=(t-k)%k:=Nat.mod_eq_sub_mod c
   rw[e1,e2];rfl
structure SortOk(P:Program)(f:Nat)(e:Ty):Prop where
 cmp:bu e=true
 agg:cn e=true
 pos:0<e.size
 nt:am e=true
 fn : ∃ fn, P.funcs[f]? = some fn /\ (fn.name == "runtime.NumGoroutine") = false /\ fn.body.isSome = true
 empty:∀ (p:Option Addr) (cap:Nat) (fv:Value) (w:World),Calls P f #[.slice p 0 cap,fv] w fun en w'=>en=.returned (.tuple #[])/\w'=w
 whole:∀ (α:Type) [Inhabited α] (enc:α->List Value) (_:∀ x,(enc x).length=e.size) (_:∀ x,∀ v∈enc x,v.oneCell'=true) (cf:α->α->Int) (_:SWO (ltOf cf)) (g:Nat) (blk off cap:Nat) (d:Array α) (w:World)
  (_:∀ args w,(callFunc g args).run P w=.ok (.enter g args) w) (_:CmpLays P g #[] enc e.size cf blk off d.size w) (_:HoldsK enc e.size w blk off d) (_:blk<w.heap.size) (_:d.size<4611686018427387904),
  Calls P f #[.slice (some ⟨blk,off,none⟩) d.size cap,.func (.func g) #[] #[]] w fun en w'=>en=.returned (.tuple #[])/\∃ d' n os,PermIn 0 d.size d d'/\SortedIn (ltOf cf) 0 d.size d'/\w'=sortWorldK enc e.size w blk off n d' os
section
variable{P:Program}{E:Env}
theorem w8(hE:EnvOk P E){g:Nat}{ptys:List Ty}{rty:Ty}(h:E.sig g=some (ptys,rty))(args:Array Value)(w:World):(callFunc g args).run P w=.ok (.enter g args) w:=by
 obtain⟨_,_,fn,f1,f2,f3⟩:=hE.sig g ptys rty h
 have f2' : ¬ fn.name = "runtime.NumGoroutine" := by simpa using f2
 have hb':¬ fn.body=none:=by intro hh;rw[hh] at f3;cases f3
 simp[callFunc,f1,f2',hb']
theorem At(hE:EnvOk P E){f:Nat}{e:Ty}(hf:SortOk P f e){g:Nat}(hsig:E.sig g=some ([e,e],.int .i64)/\E.free g=0){l l':List D}(hwt:∀ x∈l,wt e x)(hs:iK E g l=some l')(hne:l≠[]){w:World}{b off cap:Nat}{row:Array Value}
  (hr:bw w b=some row) (hc:∀ (i:Nat) (d:D),(D.flats l)[i]?=some d->w.cell? ⟨b,off+i,none⟩=some (eC d)) (hlen:l.length<4611686018427387904) :
  Calls P f #[.slice (some ⟨b,off,none⟩) l.length cap,.func (.func g) #[] #[]] w fun en w'=>en=.returned (.tuple #[])/\l'.Perm l/\w.drawn<=w'.drawn/\w'.tape=w.tape/\w'.os=w.os/\w'.output=w.output/\w.heap.size<=w'.heap.size ∧
   (∀ b',b'≠b->b'<w.heap.size->w'.heap[b']?=w.heap[b']?)/\∀ (i:Nat) (d:D),(D.flats l')[i]?=some d->w'.cell? ⟨b,off+i,none⟩=some (eC d):=by
 have hsd:rb E g l'=true/\l'=ju (oz E g) l:=by
  unfold iK at hs
  split at hs
  ·rename_i h;cases hs;exact⟨h,rfl⟩
  ·cases hs
 obtain⟨hchk,hl'⟩:=hsd
 have hperm:l'.Perm l:=hl' ▸ fC _ l
 have hmem:∀ x∈l,x∈l':=fun x hx=>hperm.symm.subset hx
 have hwt':∀ x∈l',wt e x:=fun x hx=>hwt x (hperm.subset hx)
 obtain⟨x0,hx0⟩:∃ x0,x0∈l':=by
  cases l with
  | nil=>exact absurd rfl hne
  | cons x l=>exact⟨x,hmem x List.mem_cons_self⟩
 have hinh:Inhabited {d:D // d∈l'}:=⟨⟨x0,hx0⟩⟩
 have hfl:∀ x:{d:D // d∈l'},x.1.flat.length=e.size:=fun x=>bT e x.1 (hwt' x.1 x.2) hf.nt
 have hleaf:∀ x:{d:D // d∈l'},∀ d∈x.1.flat,oy d=true:=fun x=>iA e x.1 hf.cmp (hwt' x.1 x.2)
 obtain⟨d,hd⟩:∃ d:Array {d:D // d∈l'},d.toList.map (·.1)=l:=⟨(l.pmap Subtype.mk hmem).toArray,by simp[List.map_pmap]⟩
 have hds:d.size=l.length:=by rw[<-hd];simp
 have hbs:b<w.heap.size:=by
  unfold bw at hr
  cases hb:w.heap[b]? with
  | none=>rw[hb] at hr;cases hr
  | some o=>exact(Array.getElem?_eq_some_iff.1 hb).1
 have hfro:∀ o,w.frozen? ⟨b,o,none⟩=false:=fun o=>by
  unfold bw at hr
  split at hr
  ·rename_i c t hb
   unfold World.frozen?
   simp[hb]
  ·cases hr
 have at_:∀ (dd:Array {d:D // d∈l'}) (t:Nat),t<dd.size*e.size->(D.flats (dd.toList.map (·.1)))[t]?.map eC=some ((flatK (fun x:{d:D // d∈l'}=>x.1.flat.map eC) e.size dd)[t]!):=fun dd t ht=>by
  rw[get_flatK _ _ _ _ ht,rS hf.pos _ (fun x hx=>by
   obtain⟨y,_,rfl⟩:=List.mem_map.1 hx
   exact hfl y)]
  have h1:t/e.size<dd.size:=(Nat.div_lt_iff_lt_mul hf.pos).2 ht
  have h2:t%e.size<e.size:=Nat.mod_lt _ hf.pos
  rw[List.getElem?_map,Array.getElem?_toList,Array.getElem?_eq_getElem h1,getElem!_pos dd _ h1]
  simp only[Option.map_some,Option.bind_some]
  have h3:t%e.size<(dd[t/e.size]).1.flat.length:=by rw[hfl];exact h2
  rw[List.getElem?_eq_getElem h3,getElem!_pos _ _ (by simpa using h3)]
  simp
 have hH:HoldsK (fun x:{d:D // d∈l'}=>x.1.flat.map eC) e.size w b off d:=by
  intro j hj
  rw[size_flatK] at hj
  refine⟨?_,hfro _⟩
  have:=at_ d j hj
  rw[hd] at this
  cases hq:(D.flats l)[j]? with
  | none=>rw[hq] at this;cases this
  | some q=>
   rw[hq] at this
   simp only[Option.map_some,Option.some.injEq] at this
   rw[hc j q hq,this];rfl
 have hcmp:CmpLays P g #[] (fun x:{d:D // d∈l'}=>x.1.flat.map eC) e.size (AK E g l') b off d.size w:=by
  intro m os dk _ x y
  obtain⟨i,hi1,hi2⟩:=List.getElem_of_mem x.2
  obtain⟨j,hj1,hj2⟩:=List.getElem_of_mem y.2
  obtain⟨_,n,hn⟩:=dF hchk (i:=i) (j:=j) (x:=x.1) (y:=y.1) (by rw[List.getElem?_eq_getElem hi1,hi2]) (by rw[List.getElem?_eq_getElem hj1,hj2])
  have hcall:E.call g [x.1,y.1]=some (.int .i64 n):=by
   unfold tw at hn
   obtain⟨r,h1,h2⟩:=bind_some_inv hn
   rw[h1]
   split at h2
   ·cases h2;rfl
   ·cases h2
  have hcf:AK E g l' x y=n:=by simp[AK,hn]
  rw[hcf]
  have shpa:∀ z:{d:D // d∈l'},∀ (w:World) (S:Nat->Nat->Prop),eZ w S z.1 (.agg (z.1.flat.map eC).toArray):=fun z w S=>by
   refine⟨?_,?_⟩
   ·have hz:=hwt' z.1 z.2
    have ha:=hf.agg
    cases e<;>simp only[cn] at ha<;>first|(cases ha;done)|skip
    ·simp only[wt] at hz;obtain⟨ll,h1,_⟩:=hz;rw[h1];exact⟨_,rfl⟩
    ·simp only[wt] at hz;obtain⟨ll,h1,_⟩:=hz;rw[h1];exact⟨_,rfl⟩
   ·exact(eI (hleaf z)).2 (by simp[Value.cells])
  have hw2:dU [e,e] [x.1,y.1]:=⟨x.1,[y.1],rfl,hwt' _ x.2,⟨y.1,[],rfl,hwt' _ y.2,rfl⟩⟩
  have hctr0:=hE.call g [e,e] (.int .i64) [x.1,y.1] (.int .i64 n) hsig.1 hcall hw2
  rw[hsig.2] at hctr0
  have hctr:=hctr0
   (sortWorldK (fun x:{d:D // d∈l'}=>x.1.flat.map eC) e.size w b off m dk os) (fun _ _=>False) [.agg (x.1.flat.map eC).toArray,.agg (y.1.flat.map eC).toArray] (fun _ _ h=>h.elim) hw2 rfl
   (fun i z v hz hv=>by
    cases i with
    | zero=>simp at hz hv;subst hz;subst hv;exact shpa x _ _
    | succ i=>cases i with
     | zero=>simp at hz hv;subst hz;subst hv;exact shpa y _ _
     | succ i=>simp at hz)
  refine hctr.mono ?_
  rintro en w' ⟨v,rfl,⟨os',dr,hdr,rfl⟩,_,hv⟩
  have hv':v=.int .i64 n:=by
   obtain⟨c1,c2⟩:=(hv:eZ _ _ _ _)
   have:=(eI (by intro d hd;simp only[D.flat,List.mem_singleton] at hd;subst hd;rfl)).1 c2
   exact au c1 (by simpa [D.flat,eC] using this)
  refine⟨by rw[hv'],dr-(sortWorldK (fun x:{d:D // d∈l'}=>x.1.flat.map eC) e.size w b off m dk os).drawn,os'.toArray,?_⟩
  unfold grown grow World.drewN
  simp only[show ∀ a b:Nat,a<=b->a+(b-a)=b from fun a b h=>by omega,hdr]
 have hO:SWO (ltOf (AK E g l')):=FB hchk
 have key:=hf.whole {d:D // d∈l'} (fun x=>x.1.flat.map eC) (fun x=>by simp[hfl x]) (fun x v hv=>by
   obtain⟨q,hq,rfl⟩:=List.mem_map.1 hv
   have:=hleaf x q hq
   cases q<;>simp only[oy] at this<;>first|(cases this;done)|rfl) (AK E g l') hO g b off cap d w (w8 hE hsig.1) hcmp hH hbs (by omega)
 rw[hds] at key
 refine key.mono ?_
 rintro en w' ⟨rfl,d',n,os,hp,hso,rfl⟩
 rw[<-hds] at hp hso
 have hd'l:d'.toList.map (·.1)=l':=Av hchk (d:=d) (by rw[hd];exact hperm.symm) hp hso
 have hd's:d'.size=d.size:=hp.1
 have hH':=holdsK_sortWorldK_c (fun x:{d:D // d∈l'}=>x.1.flat.map eC) e.size w b off d d' n os hH hbs hd's
 refine⟨rfl,hperm,?_,rfl,rfl,rfl,?_,fun b' hb hb'=>?_,fun i q hq=>?_⟩
 ·show w.drawn<=w.drawn+n;omega
 ·simp only[sortWorldK,grow,putRowK,putRow,mapBlock,Go.Sort.ahead,Array.size_append,Array.size_modify];omega
 ·simp only[sortWorldK,grow,putRowK,putRow,mapBlock,Go.Sort.ahead]
  rw[Array.getElem?_append_left (by simpa using hb'),Array.getElem?_modify,if_neg (Ne.symm hb)]
 ·have hi:i<d'.size*e.size:=by
   have h1:=(List.getElem?_eq_some_iff.1 hq).1
   rw[aA hf.nt l' hwt'] at h1
   rw[hd's,hds,<-hperm.length_eq];exact h1
  have h2:=at_ d' i hi
  rw[hd'l,hq] at h2
  simp only[Option.map_some,Option.some.injEq] at h2
  have h3:=(hH' i (by rw[size_flatK];exact hi)).1
  rw[h3,<-h2];rfl
end
end Sy
end
noncomputable section
namespace Sy
open Go Go.ChangeShapes Go.WideShapes Go.ChangeAt Go.RowKit
theorem bool_of{W:World}{S:Nat->Nat->Prop}{b:Bool}{v:Value}(h:DR W S (.bool b) v):v=.bool b:=by
 obtain⟨h1,h2⟩:=(h:eZ W S (.bool b) v)
 have h3:=(eI (by intro d hd;simp only[D.flat,List.mem_singleton] at hd;subst hd;rfl)).1 h2
 exact au h1 (by simpa [D.flat,eC] using h3)
section
variable{H:Type}{enc:TypeId×Value->H}{P:Program}{W:World}
theorem Gw{ty:Ty}{T:TypeId}(hl:bh P ty T=true)(hp:mv ty=true){base:Nat}{v:Value}(hv:Value.okWide P W .any base T v){d0:DataW H}{p0:List MemPlace}{spare:Nat->Bool}{held:Bool}(h:DataW.Trod enc P W 0 spare held T v d0 p0) :
  ∃ d,wt ty d/\Gb d/\eZ W (mK W) d v:=by
 obtain⟨fuel,hf⟩:=h
 obtain⟨d,h1,h2,h3⟩:=pe (W:=W) ty T fuel _ _ hl hp hf
 refine⟨d,h1,h2,?_,h3⟩
 have na:∀ {u:TypeDesc},P.underlying T=some u->(match u with|.struct _=>False|.array _ _=>False|_=>True)->∀ cs,v≠.agg cs:=fun{u} hu hn cs e=>by
  subst e
  simp only[Value.okWide,hu] at hv
  cases u<;>simp only[Cell.okWide,Cell.ok,hu] at hv<;>first|exact hn|(cases hv;done)|exact hv
 cases ty with
 | int k=>obtain⟨n,rfl⟩:=h1;exact na (gY hl) trivial
 | bool=>obtain⟨b,rfl⟩:=h1;exact na (u:=.bool) (by simp only[bh,Bool.and_eq_true] at hl;have h2:=hl.2;split at h2<;>first|assumption|cases h2) trivial
 | str=>obtain⟨s,rfl⟩:=h1;exact na (u:=.string) (by simp only[bh,Bool.and_eq_true] at hl;have h2:=hl.2;split at h2<;>first|assumption|cases h2) trivial
 | st ts=>
  obtain⟨l,rfl,_⟩:=h1
  obtain⟨fs,hu,_⟩:=gu hl
  obtain⟨cs,h,_⟩:=okWide_struct hu hv
  exact⟨cs,h⟩
 | arr n e=>
  obtain⟨l,rfl,_⟩:=h1
  obtain⟨u,hu,_⟩:=dj hl
  simp only[Value.okWide,hu] at hv
  obtain⟨cs,h,_⟩:=hv
  exact⟨cs,h⟩
 | sl e=>
  obtain⟨l,rfl,_⟩:=h1
  obtain⟨u,hu,_⟩:=gt hl
  exact na hu trivial
 | tup l=>simp[bh] at hl
 | fn=>simp[bh] at hl
def vM(P:Program):List Ty->List TypeId->Bool
 | [],[]=>true
 | ty::tys,T::Ts=>bh P ty T&&mv ty&&vM P tys Ts
 | _,_=>false
theorem Es:∀ {tys:List Ty} {Ts:List TypeId},vM P tys Ts=true->∀ {vs:List Value} {ds:List (DataW H)} {ps:List MemPlace} {base:Nat} {spare:Nat->Bool} {held:Bool},DataW.TrodAll enc P W 0 spare held Ts vs ds ps ->
  (∀ (j:Nat) t v,Ts[j]?=some t->vs[j]?=some v->Value.okWide P W .any base t v)->∃ xs,dU tys xs/\tZ xs/\vs.length=xs.length/\∀ (i:Nat) (x:D) (v:Value),xs[i]?=some x->vs[i]?=some v->eZ W (mK W) x v
 | [],[],_,vs,ds,ps,base,spare,held,h,hv=>by
  obtain⟨rfl,rfl,rfl⟩:=trodAll_nil h
  exact⟨[],rfl,trivial,rfl,by simp⟩
 | ty::tys,T::Ts,hl,vs,ds,ps,base,spare,held,h,hv=>by
  simp only[vM,Bool.and_eq_true] at hl
  obtain⟨v,vs',d,ds',p,q,rfl,rfl,rfl,h0,h1⟩:=trodAll_cons h
  obtain⟨x,x1,x2,x3⟩:=Gw hl.1.1 hl.1.2 (hv 0 T v rfl rfl) h0
  obtain⟨xs,y1,y2,y3,y4⟩:=Es hl.2 h1 (fun j t u a b=>hv (j+1) t u (by simpa using a) (by simpa using b))
  refine⟨x::xs,⟨x,xs,rfl,x1,y1⟩,⟨x2,y2⟩,by simp[y3],fun i z u hz hu=>?_⟩
  cases i with
  | zero=>simp at hz hu;subst hz;subst hu;exact x3
  | succ i=>exact y4 i z u (by simpa using hz) (by simpa using hu)
 | [],_::_,h,_,_,_,_,_,_,_,_=>by simp[vM] at h
 | _::_,[],h,_,_,_,_,_,_,_,_=>by simp[vM] at h
theorem GR:∀ {Ts:List TypeId} {vs:List Value} {ds:List (DataW H)} {ps:List MemPlace} {base:Nat} {spare:Nat->Bool} {held:Bool},DataW.TrodAll enc P W base spare held Ts vs ds ps->ds.length=Ts.length
 | [],vs,ds,ps,_,_,_,h=>by obtain⟨rfl,rfl,rfl⟩:=trodAll_nil h;rfl
 | T::Ts,vs,ds,ps,_,_,_,h=>by
  obtain⟨v,vs',d,ds',p,q,rfl,rfl,rfl,h0,h1⟩:=trodAll_cons h
  simp[GR h1]
theorem zm{W':World}(hl:laidOutB P=true):∀ {Ts:List TypeId},Ts.all (fun t=>P.readableRec t&&decide (t<P.types.size))=true->∀ {vs:List Value} {ds:List (DataW H)} {ps:List MemPlace},
  DataW.TrodAll enc P W 0 (fun _=>true) true Ts vs ds ps->Below W.heap.size W W'->(∀ x∈ps,x.block<W.heap.size)->DataW.TrodAll enc P W' 0 (fun b=>decide (b<W.heap.size)) true Ts vs ds ps
 | [],_,vs,ds,ps,h,_,_=>by
  obtain⟨rfl,rfl,rfl⟩:=trodAll_nil h
  exact trodAll_mk0
 | T::Ts,ht,vs,ds,ps,h,hb,hlt=>by
  simp only[List.all_cons,Bool.and_eq_true,decide_eq_true_eq] at ht
  obtain⟨v,vs',d,ds',p,q,rfl,rfl,rfl,h0,h1⟩:=trodAll_cons h
  exact⟨p,q,Below.trod hl ht.1.1 ht.1.2 h0 hb (fun x hx=>hlt x (by simp[hx])),zm hl ht.2 h1 hb (fun x hx=>hlt x (by simp[hx])),rfl⟩
end
end Sy
end
noncomputable section
namespace Sy
open Go
variable{ro:Option Nat}{nn:Nat}
def wX(s:St):List ResultVar->Option (Nat×List AV)
 | [.tmp i]=>match s.tm i with
  | .clo f l=>some (f,l)
  | _=>none
 | _=>none
def xw(s:St)(t:Ty):List ResultVar->Option (Nat×List D)
 | [.tmp i]=>match s.tm i with
  | .own t' v l=>if t'.beq t&&!(s.dead.contains v) then some (v,l) else none
  | _=>none
 | _=>none
def EY{R:Type}(E:Env)(s sc:St)(rs:List ResultVar)(K:AV->St->Option R):Ty->Option R
 | .fn=>(wX sc rs).bind fun q=>K (.clo q.1 q.2) (lL s sc)
 | .sl t=>match xw sc t rs with
  | some q=>K (.own t q.1 q.2) (lL s sc)
  | none=>(results E sc (.sl t) rs).bind fun y=>K (.d (.sl t) y) (lL s sc)
 | rty=>(results E sc rty rs).bind fun y=>K (.d rty y) (lL s sc)
def G3(E:Env)(fn:Func)(rty:Ty)(ann:Ann)(R:Type)(s:St)(avs:List AV)(K:AV->St->Option R):Option R:=
 match fn.body with
 | none=>none
 | some c=>if avs.length<=fn.ntmps/\(cR s).length<=4096 then ev E c ann R (E6 s fn.ntmps avs) fun e sc=>match e with
   | .exit _=>none
   | _=>EY E s sc fn.results.toList K rty
  else none
def xJ(n:Nat)(rty:Ty):Bool:=match rty with|.fn=>decide (n=1)|rty=>gD n rty
section
variable{P:Program}{E:Env}{w0:Root}{S S':Nat->Nat->Prop}{γ γ':Nat->Option Nat}{β β' β'':Nat->Option (Nat×Nat)}{s sc:St}{a:Act}{w w':World}
theorem Gm{c:Cx}{rty:Ty}{n:Nat}{y:D}{v:Value}(hr:gD n rty=true)(hwt:wt rty y)(h:DR c.w c.S y v):AR c (.d rty y) v:=by
 simp only[AR]
 have key:am rty=true\/∃ ts,rty=.tup ts/\aY ts=true:=by
  unfold gD at hr
  split at hr
  ·exact .inl hr
  ·split at hr
   ·exact .inr ⟨_,rfl,hr⟩
   ·cases hr
 rcases key with n2|⟨ts,rfl,n2⟩
 ·refine .inl ⟨n2,hwt,?_⟩
  cases rty<;>simp only[wt] at hwt<;>first
   | (obtain⟨m,rfl⟩:=hwt;exact h)
   | (obtain⟨m,rfl,_⟩:=hwt;exact h)
   | (exact hwt.elim)
   | (simp[am] at n2)
 ·exact .inr ⟨ts,rfl,n2,hwt,h⟩
theorem zt(h:Rp w0 S γ β s a w){fn:Func}{q:Nat×List AV}(hq:wX s fn.results.toList=some q):∃ v,(Go.results fn a.tmps).run P w=.ok v w/\AR ⟨w,S,γ,β,s.ob,s.dead⟩ (.clo q.1 q.2) v:=by
 rw[lu]
 have hm:fn.results.mapM (nM a.tmps)=Functor.map List.toArray (fn.results.toList.mapM (nM a.tmps)):=by
  rw[Array.mapM_eq_mapM_toList]
 rw[hm]
 generalize fn.results.toList=rs at *
 unfold wX at hq
 split at hq<;>first|(cases hq;done)|skip
 rename_i i
 split at hq<;>first|(cases hq;done)|skip
 rename_i f l htm
 cases hq
 have hi:i<a.tmps.size:=by
  rcases Nat.lt_or_ge i a.tmps.size with hlt|hge
  ·exact hlt
  ·have:=h.tmu i (by rw[<-h.nt];exact hge)
   rw[htm] at this;cases this
 have:=h.tms i hi
 rw[htm] at this
 exact⟨a.tmps.getD i undef,by simp[List.mapM_cons,nM],this⟩
theorem zY(h:Rp w0 S γ β s a w){fn:Func}{t:Ty}{q:Nat×List D}(hq:xw s t fn.results.toList=some q):∃ v,(Go.results fn a.tmps).run P w=.ok v w/\AR ⟨w,S,γ,β,s.ob,s.dead⟩ (.own t q.1 q.2) v:=by
 rw[lu]
 have hm:fn.results.mapM (nM a.tmps)=Functor.map List.toArray (fn.results.toList.mapM (nM a.tmps)):=by
  rw[Array.mapM_eq_mapM_toList]
 rw[hm]
 generalize fn.results.toList=rs at *
 unfold xw at hq
 split at hq<;>first|(cases hq;done)|skip
 rename_i i
 split at hq<;>first|(cases hq;done)|skip
 rename_i t' v l htm
 split at hq<;>first|(cases hq;done)|skip
 rename_i hb
 simp only[Bool.and_eq_true] at hb
 have:=Ty.eq_of_beq _ _ hb.1
 subst this
 cases hq
 have hi:i<a.tmps.size:=by
  rcases Nat.lt_or_ge i a.tmps.size with hlt|hge
  ·exact hlt
  ·have:=h.tmu i (by rw[<-h.nt];exact hge)
   rw[htm] at this;cases this
 have:=h.tms i hi
 rw[htm] at this
 exact⟨a.tmps.getD i undef,by simp[List.mapM_cons,nM],this⟩
theorem EZ(hE:EnvOk P E){a':Act}(n1:Rp w0 S γ β sc a' w'){fn:Func}{rty:Ty}(hr:xJ fn.results.size rty=true){R:Type}{K:AV->St->Option R}{r:R}(hq:EY E s sc fn.results.toList K rty=some r) :
  ∃ v x,(Go.results fn a'.tmps).run P w'=.ok v w'/\AR ⟨w',S,γ,β,sc.ob,sc.dead⟩ x v/\K x (lL s sc)=some r:=by
 have plain:gD fn.results.size rty=true->(results E sc rty fn.results.toList).bind (fun y=>K (.d rty y) (lL s sc))=some r->∃ v x,(Go.results fn a'.tmps).run P w'=.ok v w'/\AR ⟨w',S,γ,β,sc.ob,sc.dead⟩ x v/\K x (lL s sc)=some r:=fun hr hq=>by
  obtain⟨y,h1,h2⟩:=bind_some_inv hq
  obtain⟨v,k1,k2,k3⟩:=jf hE n1 hr h1
  exact⟨v,_,k1,Gm hr k2 k3,h2⟩
 cases rty
 case fn=>
  obtain⟨q,h1,h2⟩:=bind_some_inv hq
  obtain⟨v,k1,k2⟩:=zt (P:=P) n1 h1
  exact⟨v,_,k1,k2,h2⟩
 case sl t=>
  simp only[EY] at hq
  split at hq
  ·rename_i q h1
   obtain⟨v,k1,k2⟩:=zY (P:=P) n1 h1
   exact⟨v,_,k1,k2,hq⟩
  ·exact plain hr hq
 all_goals exact plain hr hq
theorem EX(hE:EnvOk P E){f:FuncId}{fn:Func}{rty:Ty}(hf:P.funcs[f]?=some fn)(hr:xJ fn.results.size rty=true):AU P f (G3 E fn rty):=by
 intro ann R w0 S γ β s a w avs vs K r h hlen hAR hev
 unfold G3 at hev
 split at hev<;>first|(cases hev;done)|skip
 rename_i c hb
 split at hev<;>first|(cases hev;done)|skip
 rename_i hcond
 obtain⟨hnt,htk⟩:=hcond
 obtain⟨tk,htkd⟩:∃ tk,tk=cR s:=⟨_,rfl⟩
 obtain⟨sh,hsh⟩:∃ sh:Nat->Prop,sh=fun b=>(∃ id,γ id=some b)\/∃ v e,v ∉ tk++s.dead/\β v=some (b,e):=⟨_,rfl⟩
 have hvl:vs.length<=fn.ntmps:=by omega
 have hntm:(vs.toArray++Array.replicate (fn.ntmps-vs.toArray.size) undef).size=fn.ntmps:=by
  simp;omega
 have le0:Cx.le ⟨w,S,γ,β,s.ob,s.dead⟩ ⟨w,S,γ,β,s.ob,tk++s.dead⟩:=
  ⟨fun _ _ _=>rfl,fun _ _ hb=>hb,fun _ _ hb=>hb,fun id o ho _=>⟨o,ho,fun p=>⟨rfl,rfl⟩,fun t l e=>⟨l,e,rfl⟩,fun _ _ l e=>⟨l,e⟩⟩,fun u hu=>⟨fun hh=>hu (List.mem_append_right _ hh),fun b e he=>⟨he,fun n hn=>hn⟩⟩⟩
 have hI:Rp ⟨w,S,sh⟩ S γ β (E6 s fn.ntmps avs) { tmps:=vs.toArray++Array.replicate (fn.ntmps-vs.toArray.size) undef,defers:=[] } w:=by
  refine yJ h htkd hsh (fun _ _ hh=>hh) rfl (by rw[htkd];rfl) hntm (fun t ht=>?_) fun t ht=>?_
  ·have ht':fn.ntmps<=t:=ht
   simp only[E6]
   rw[List.getD_eq_getElem?_getD,List.getElem?_eq_none (by omega)]
   rfl
  ·simp only[E6]
   by_cases hlt:t<vs.length
   ·have hlt':t<avs.length:=by omega
    have hv:(vs.toArray++Array.replicate (fn.ntmps-vs.toArray.size) undef).getD t undef=vs[t]:=by
     simp[Array.getD,Array.getElem_append,hlt]
     omega
    rw[hv,List.getD_eq_getElem?_getD,List.getElem?_eq_getElem hlt']
    exact(hAR t _ _ (List.getElem?_eq_getElem hlt') (List.getElem?_eq_getElem hlt)).mono le0
   ·rw[List.getD_eq_getElem?_getD,List.getElem?_eq_none (by omega)]
    simp only[Option.getD_none,AR]
 refine jD hE hf hb rfl hI hev (fun _ _ hh=>by cases hh) fun e sc S' γ' β' a' w' n1 n2 n3 n4=>?_
 have hres:EY E s sc fn.results.toList K rty=some r->(∃ v,(Go.results fn a'.tmps).run P w'=.ok v w'/\∃ v' y s' S' γ' β',Ending.returned v=.returned v'/\K y s'=some r/\Rp w0 S' γ' β' s' a w'/\AR ⟨w',S',γ',β',s'.ob,s'.dead⟩ y v'/\Fm s S γ a w S' γ' a w'/\Sk s s'):=fun hq=>by
  obtain⟨v,x,k1,k2,k3⟩:=EZ hE n1 hr hq
  obtain⟨β'',q1,q2⟩:=yj h htkd hsh (by rw[htkd];exact htk) n1 n2.sub n2.cell n2.gam n2.sz
  exact⟨v,k1,v,x,lL s sc,S',γ',β'',rfl,k3,q1,k2.mono q2,⟨n2.sub,n2.cell,fun _ _=>rfl,n2.objs,n2.sz,n2.gam,iR.same rfl n2.dfs.1⟩,⟨rfl,rfl,rfl⟩⟩
 cases e with
 | normal=>exact hres n4
 | ret=>exact hres n4
 | exit i=>cases n4
end
end Sy
end
noncomputable section
namespace Sy
abbrev K0:Ty:=Ty.st [Ty.int .i64,Ty.int .i64,Ty.bool,Ty.int .u8]
abbrev K1:Ty:=Ty.arr 3 (Ty.int .i64)
abbrev K2:Ty:=Ty.sl (K1)
abbrev K3:Ty:=Ty.st [K2]
abbrev K4:Ty:=Ty.st [K3,Ty.int .i64]
abbrev K5:Ty:=Ty.sl (Ty.int .i64)
abbrev K6:Ty:=Ty.st [K1,Ty.int .i64,K5]
abbrev K7:Ty:=Ty.sl (K6)
abbrev K8:Ty:=Ty.arr 2 (Ty.int .i64)
abbrev K9:Ty:=Ty.sl (K8)
abbrev aW:Ty:=Ty.arr 16 (Ty.int .u32)
abbrev aw:Ty:=Ty.st [Ty.bool,Ty.bool,aW]
abbrev aL:Ty:=Ty.st [aw,aw]
abbrev fc:Ty:=Ty.arr 3 (aL)
abbrev eH:Ty:=Ty.sl (aL)
abbrev be:Ty:=Ty.st [Ty.int .i64,Ty.int .i64,eH]
abbrev cM:Ty:=Ty.st [K1,Ty.int .i64]
abbrev Ht:Ty:=Ty.sl (cM)
abbrev FP:Ty:=Ty.sl (Ty.bool)
abbrev ye:Ty:=Ty.arr 3 (K1)
abbrev Lr:Ty:=Ty.st [ye,aw]
abbrev Ls:Ty:=Ty.sl (Lr)
abbrev lE:Ty:=Ty.arr 3 (aw)
abbrev jx:Ty:=Ty.arr 3 (lE)
abbrev wQ:Ty:=Ty.arr 32 (Ty.int .u32)
abbrev RG:Ty:=Ty.sl (Ty.int .u32)
abbrev QI:Ty:=Ty.sl (aw)
abbrev nY:Ty:=Ty.arr 17 (Ty.int .u32)
abbrev RH:Ty:=Ty.tup [aW,Ty.bool]
abbrev Lt:Ty:=Ty.tup [Ty.int .i64,Ty.bool]
abbrev RJ:Ty:=Ty.tup [K5,K5]
abbrev RK:Ty:=Ty.tup [aW,aW]
abbrev RL:Ty:=Ty.tup [aw,aw]
abbrev QJ:Ty:=Ty.tup [aW,Ty.int .u32]
abbrev Gr:Ty:=Ty.tup []
abbrev Ib:Ty:=Ty.sl (K3)
abbrev fd:Ty:=Ty.st [Ty.str,Ib,K8,K8]
abbrev ke:Ty:=Ty.arr 4 (Ty.int .i64)
abbrev uK:Ty:=Ty.st [K1,ke]
abbrev zj:Ty:=Ty.sl (uK)
abbrev Lu:Ty:=Ty.st [Ty.int .i64,fd,uK]
abbrev QK:Ty:=Ty.sl (Lu)
abbrev Lv:Ty:=Ty.st [Ty.int .i64,Ty.int .i64,K1,K1]
abbrev QL:Ty:=Ty.sl (Lv)
abbrev QM:Ty:=Ty.arr 2 (K1)
abbrev Lw:Ty:=Ty.st [Ty.int .i64,K1,QM]
abbrev QN:Ty:=Ty.sl (Lw)
abbrev uL:Ty:=Ty.st [Ty.int .i64,K8,QK,QL,QN]
abbrev mO:Ty:=Ty.st [FP,zj,K2,K2,FP,FP]
abbrev Gs:Ty:=Ty.arr 2 (aw)
abbrev Ic:Ty:=Ty.st [be,Ty.int .i64]
abbrev QO:Ty:=Ty.sl (be)
abbrev Id:Ty:=Ty.arr 9 (Ty.int .i64)
abbrev RM:Ty:=Ty.tup [ke,Ty.bool]
abbrev Lx:Ty:=Ty.tup [be,Ty.int .i64]
def CL:Nat:=293
def As:Nat:=286
def Ja(t:Nat):Option Ty:=bif Nat.blt t CL then(bif Nat.blt t 146 then(bif Nat.blt t 73 then(bif Nat.blt t 36 then(bif Nat.blt t 18 then(bif Nat.blt t 9 then(bif Nat.blt t 4 then(bif Nat.blt t 2 then none else(bif Nat.blt t 3 then some (Ty.int .i64) else some (Ty.int .i64))) else(bif Nat.blt t 6 then(bif Nat.blt t 5 then some (Ty.bool) else some (Ty.int .u8)) else(bif Nat.blt t 7 then some (Ty.int .u8) else(bif Nat.blt t 8 then some (K0) else some (K0))))) else(bif Nat.blt t 13 then(bif Nat.blt t 11 then(bif Nat.blt t 10 then some (Ty.str) else some (Ty.str)) else(bif Nat.blt t 12 then some (Ty.str) else some (Ty.int .u64))) else none)) else(bif Nat.blt t 27 then(bif Nat.blt t 22 then(bif Nat.blt t 20 then none else(bif Nat.blt t 21 then none else some (Ty.int .i32))) else(bif Nat.blt t 24 then(bif Nat.blt t 23 then some (Ib) else some (K8)) else(bif Nat.blt t 25 then some (fd) else(bif Nat.blt t 26 then some (fd) else some (K1))))) else(bif Nat.blt t 31 then(bif Nat.blt t 29 then(bif Nat.blt t 28 then some (K1) else some (zj)) else none) else(bif Nat.blt t 33 then(bif Nat.blt t 32 then some (Ty.int .i64) else none) else(bif Nat.blt t 34 then some (ke) else(bif Nat.blt t 35 then some (ke) else some (uK))))))) else(bif Nat.blt t 54 then(bif Nat.blt t 45 then(bif Nat.blt t 40 then(bif Nat.blt t 38 then(bif Nat.blt t 37 then some (uK) else some (Ty.int .u32)) else(bif Nat.blt t 39 then some (aW) else some (aw))) else(bif Nat.blt t 42 then(bif Nat.blt t 41 then some (aw) else some (aL)) else(bif Nat.blt t 43 then some (aL) else none))) else(bif Nat.blt t 49 then(bif Nat.blt t 47 then none else(bif Nat.blt t 48 then some (QK) else some (QL))) else(bif Nat.blt t 51 then(bif Nat.blt t 50 then some (QN) else some (uL)) else(bif Nat.blt t 52 then some (uL) else(bif Nat.blt t 53 then some (FP) else some (K2)))))) else(bif Nat.blt t 63 then(bif Nat.blt t 58 then(bif Nat.blt t 56 then(bif Nat.blt t 55 then some (mO) else some (mO)) else none) else none) else(bif Nat.blt t 68 then none else(bif Nat.blt t 70 then none else(bif Nat.blt t 71 then some (QM) else(bif Nat.blt t 72 then some (Lw) else some (Lw)))))))) else(bif Nat.blt t 109 then(bif Nat.blt t 91 then(bif Nat.blt t 82 then(bif Nat.blt t 77 then none else(bif Nat.blt t 79 then(bif Nat.blt t 78 then some (Lu) else some (Lu)) else(bif Nat.blt t 80 then none else(bif Nat.blt t 81 then none else some (eH))))) else(bif Nat.blt t 86 then(bif Nat.blt t 84 then(bif Nat.blt t 83 then some (be) else some (be)) else none) else(bif Nat.blt t 88 then(bif Nat.blt t 87 then some (fc) else some (fc)) else none))) else none) else(bif Nat.blt t 127 then(bif Nat.blt t 118 then(bif Nat.blt t 113 then(bif Nat.blt t 111 then(bif Nat.blt t 110 then some (Gs) else none) else(bif Nat.blt t 112 then some (K3) else some (K3))) else none) else(bif Nat.blt t 122 then(bif Nat.blt t 120 then none else(bif Nat.blt t 121 then none else some (Ic))) else(bif Nat.blt t 124 then(bif Nat.blt t 123 then some (Ic) else none) else none))) else(bif Nat.blt t 136 then(bif Nat.blt t 131 then(bif Nat.blt t 129 then none else(bif Nat.blt t 130 then none else some (K5))) else none) else none)))) else(bif Nat.blt t 219 then(bif Nat.blt t 182 then(bif Nat.blt t 164 then(bif Nat.blt t 155 then(bif Nat.blt t 150 then(bif Nat.blt t 148 then(bif Nat.blt t 147 then none else some (Ty.int .u64)) else(bif Nat.blt t 149 then none else some (Ty.int .u64))) else(bif Nat.blt t 152 then(bif Nat.blt t 151 then some (lE) else some (jx)) else(bif Nat.blt t 153 then none else(bif Nat.blt t 154 then some (ye) else none)))) else(bif Nat.blt t 159 then none else(bif Nat.blt t 161 then(bif Nat.blt t 160 then none else some (wQ)) else(bif Nat.blt t 162 then none else(bif Nat.blt t 163 then some (RG) else some (Ls)))))) else none) else(bif Nat.blt t 200 then(bif Nat.blt t 191 then(bif Nat.blt t 186 then(bif Nat.blt t 184 then(bif Nat.blt t 183 then some (K4) else some (K4)) else none) else(bif Nat.blt t 188 then(bif Nat.blt t 187 then some (K7) else none) else(bif Nat.blt t 189 then none else(bif Nat.blt t 190 then some (K6) else some (K6))))) else(bif Nat.blt t 195 then none else(bif Nat.blt t 197 then(bif Nat.blt t 196 then some (QO) else none) else(bif Nat.blt t 198 then none else(bif Nat.blt t 199 then none else some (QI)))))) else(bif Nat.blt t 209 then(bif Nat.blt t 204 then(bif Nat.blt t 202 then(bif Nat.blt t 201 then some (Lr) else some (Lr)) else none) else(bif Nat.blt t 206 then none else(bif Nat.blt t 207 then some (nY) else none))) else(bif Nat.blt t 214 then(bif Nat.blt t 211 then none else(bif Nat.blt t 212 then none else(bif Nat.blt t 213 then none else some (Id)))) else(bif Nat.blt t 216 then none else(bif Nat.blt t 217 then none else(bif Nat.blt t 218 then none else some (aL)))))))) else(bif Nat.blt t 256 then(bif Nat.blt t 237 then(bif Nat.blt t 228 then(bif Nat.blt t 223 then(bif Nat.blt t 221 then(bif Nat.blt t 220 then some (aL) else none) else(bif Nat.blt t 222 then some (K9) else none)) else(bif Nat.blt t 225 then none else(bif Nat.blt t 226 then some (Ht) else(bif Nat.blt t 227 then none else some (cM))))) else(bif Nat.blt t 232 then(bif Nat.blt t 230 then(bif Nat.blt t 229 then some (cM) else none) else none) else none)) else(bif Nat.blt t 246 then none else(bif Nat.blt t 251 then none else(bif Nat.blt t 253 then(bif Nat.blt t 252 then none else some (cM)) else(bif Nat.blt t 254 then some (cM) else none))))) else(bif Nat.blt t 274 then(bif Nat.blt t 265 then(bif Nat.blt t 260 then(bif Nat.blt t 258 then none else(bif Nat.blt t 259 then none else some (Ty.int .i64))) else none) else(bif Nat.blt t 269 then(bif Nat.blt t 267 then(bif Nat.blt t 266 then none else some (Ty.int .u64)) else none) else none)) else(bif Nat.blt t 283 then(bif Nat.blt t 278 then none else(bif Nat.blt t 280 then none else(bif Nat.blt t 281 then none else(bif Nat.blt t 282 then none else some (Ty.int .u8))))) else(bif Nat.blt t 288 then(bif Nat.blt t 285 then(bif Nat.blt t 284 then some (Ty.int .u8) else none) else(bif Nat.blt t 286 then none else(bif Nat.blt t 287 then some (Ty.int .i32) else some (Ty.int .i32)))) else(bif Nat.blt t 290 then none else(bif Nat.blt t 291 then some (Lv) else(bif Nat.blt t 292 then some (Lv) else none))))))))) else none
def Fw(t:Nat):Option (Nat×List Ty×Ty):=bif Nat.blt t As then(bif Nat.blt t 143 then(bif Nat.blt t 71 then(bif Nat.blt t 35 then(bif Nat.blt t 17 then(bif Nat.blt t 8 then(bif Nat.blt t 4 then(bif Nat.blt t 2 then none else(bif Nat.blt t 3 then none else some (300,[fd,K1,K1,Ty.int .i64,zj],Ty.bool))) else(bif Nat.blt t 6 then(bif Nat.blt t 5 then some (301,[uL,mO,mO],Ty.bool) else some (302,[fd,K1,K1],Ty.bool)) else(bif Nat.blt t 7 then some (303,[fd,Ty.int .i64,zj],Ty.bool) else some (304,[uL,mO,mO,mO],Ty.bool)))) else(bif Nat.blt t 12 then(bif Nat.blt t 10 then(bif Nat.blt t 9 then some (305,[uL,mO],Ty.bool) else some (306,[fd,K1,K1],Ty.bool)) else(bif Nat.blt t 11 then some (307,[],Ty.bool) else some (308,[uK],Ty.int .i64))) else(bif Nat.blt t 14 then(bif Nat.blt t 13 then some (309,[fd,K1,K1],aL) else some (310,[fd,K1,K1],aL)) else(bif Nat.blt t 15 then some (311,[fd,Ty.int .i64,zj],aL) else(bif Nat.blt t 16 then some (312,[fd,Ty.int .i64,zj],aL) else some (313,[fd,Ty.int .i64,uK],aL)))))) else(bif Nat.blt t 26 then(bif Nat.blt t 21 then(bif Nat.blt t 19 then(bif Nat.blt t 18 then some (314,[fd,Ty.int .i64,uK],aL) else some (315,[uL,mO],Ty.bool)) else(bif Nat.blt t 20 then some (316,[uL,mO],aL) else some (317,[uL,mO],aL))) else(bif Nat.blt t 23 then(bif Nat.blt t 22 then some (318,[uL,mO,mO],aL) else some (319,[uL,mO,mO],aL)) else(bif Nat.blt t 24 then some (320,[uL,mO,mO],Ty.int .i64) else(bif Nat.blt t 25 then some (321,[uL,mO,mO],Ty.int .i64) else some (64,[K1,K1],K1))))) else(bif Nat.blt t 30 then(bif Nat.blt t 28 then(bif Nat.blt t 27 then some (112,[K1,K1],K1) else some (322,[aL],Ty.int .i64)) else(bif Nat.blt t 29 then some (38,[aL,aL],aL) else some (75,[Ty.int .i64],aL))) else(bif Nat.blt t 32 then(bif Nat.blt t 31 then some (323,[zj],zj) else some (39,[aL,aL],aL)) else(bif Nat.blt t 33 then some (324,[aL,aL],Ty.int .i64) else(bif Nat.blt t 34 then some (325,[mO],mO) else some (40,[aL,aL],aL))))))) else(bif Nat.blt t 53 then(bif Nat.blt t 44 then(bif Nat.blt t 39 then(bif Nat.blt t 37 then(bif Nat.blt t 36 then some (326,[fd],Ty.bool) else some (327,[K1],Ty.bool)) else(bif Nat.blt t 38 then some (328,[],fd) else some (329,[Ty.int .i64],uK))) else(bif Nat.blt t 41 then(bif Nat.blt t 40 then some (330,[K1],mO) else some (331,[ke],Ty.bool)) else(bif Nat.blt t 42 then some (74,[Ty.int .i64],aL) else(bif Nat.blt t 43 then some (332,[fd,aL],be) else some (130,[],aL))))) else(bif Nat.blt t 48 then(bif Nat.blt t 46 then(bif Nat.blt t 45 then some (135,[K1],fc) else some (134,[fc,fc],aL)) else(bif Nat.blt t 47 then some (174,[aL,aL],aL) else some (333,[Ty.int .i64,Ty.int .i64],aL))) else(bif Nat.blt t 50 then(bif Nat.blt t 49 then some (334,[eH],aL) else some (335,[fd,aL],be)) else(bif Nat.blt t 51 then some (84,[],aL) else(bif Nat.blt t 52 then some (31,[K1],fc) else some (41,[fc,fc],aL)))))) else(bif Nat.blt t 62 then(bif Nat.blt t 57 then(bif Nat.blt t 55 then(bif Nat.blt t 54 then some (42,[Ty.int .i64,Ty.int .i64],aL) else some (336,[aL,aL],aL)) else(bif Nat.blt t 56 then some (173,[aL,aL],aL) else some (337,[aL,aL],aL))) else(bif Nat.blt t 59 then(bif Nat.blt t 58 then some (338,[uL],Ty.bool) else none) else(bif Nat.blt t 60 then none else(bif Nat.blt t 61 then some (339,[uK,K1],fc) else some (340,[K1,fc],aL))))) else(bif Nat.blt t 66 then(bif Nat.blt t 64 then(bif Nat.blt t 63 then some (341,[FP,FP],Ty.bool) else some (342,[aL],Ty.int .i64)) else(bif Nat.blt t 65 then some (343,[FP,FP],Ty.bool) else some (88,[aL],Ty.bool))) else(bif Nat.blt t 68 then(bif Nat.blt t 67 then some (83,[aw],Ty.int .i64) else some (37,[aw,aw],aL)) else(bif Nat.blt t 69 then some (89,[aw,aw],aw) else(bif Nat.blt t 70 then some (34,[Ty.int .i64],aw) else some (133,[],aw)))))))) else(bif Nat.blt t 107 then(bif Nat.blt t 89 then(bif Nat.blt t 80 then(bif Nat.blt t 75 then(bif Nat.blt t 73 then(bif Nat.blt t 72 then some (70,[aL],aL) else some (32,[aw,aw],Ty.int .i64)) else(bif Nat.blt t 74 then some (344,[aL,Ty.bool],aw) else some (87,[aw,aw],aw))) else(bif Nat.blt t 77 then(bif Nat.blt t 76 then some (345,[aw,aw],aw) else some (85,[aw,aw],aw)) else(bif Nat.blt t 78 then some (59,[aw,aw],aw) else(bif Nat.blt t 79 then some (346,[fd],Ty.bool) else some (347,[fd],Ty.int .i64))))) else(bif Nat.blt t 84 then(bif Nat.blt t 82 then(bif Nat.blt t 81 then some (348,[ke],Ty.bool) else some (349,[ke],RM)) else(bif Nat.blt t 83 then some (138,[aw],aL) else some (54,[Ty.int .i64],aw))) else(bif Nat.blt t 86 then(bif Nat.blt t 85 then some (28,[K3],be) else some (350,[be,be],Lx)) else(bif Nat.blt t 87 then some (351,[be,aL],Lx) else(bif Nat.blt t 88 then some (352,[aL,aL],aL) else some (353,[fd],aw)))))) else(bif Nat.blt t 98 then(bif Nat.blt t 93 then(bif Nat.blt t 91 then(bif Nat.blt t 90 then some (119,[],aw) else some (169,[],aw)) else(bif Nat.blt t 92 then some (136,[aL],Ty.bool) else some (62,[aw,aw],aL))) else(bif Nat.blt t 95 then(bif Nat.blt t 94 then some (61,[aw,aw],aw) else some (29,[K3],be)) else(bif Nat.blt t 96 then some (354,[be,be],Ic) else(bif Nat.blt t 97 then some (65,[aL,aL],aL) else some (63,[aw],aL))))) else(bif Nat.blt t 102 then(bif Nat.blt t 100 then(bif Nat.blt t 99 then some (355,[fd],aw) else some (356,[be,aL],Ic)) else(bif Nat.blt t 101 then some (125,[],aw) else some (357,[aL],aL))) else(bif Nat.blt t 104 then(bif Nat.blt t 103 then some (131,[aw,aw],aw) else some (132,[aw,aw],aw)) else(bif Nat.blt t 105 then some (57,[aw,aw],aw) else(bif Nat.blt t 106 then some (73,[aL,aL],Ty.int .i64) else some (358,[K1,Ty.int .i64],Ty.bool))))))) else(bif Nat.blt t 125 then(bif Nat.blt t 116 then(bif Nat.blt t 111 then(bif Nat.blt t 109 then none else(bif Nat.blt t 110 then some (72,[K1,fc],aL) else some (359,[uK,K1],fc))) else(bif Nat.blt t 113 then(bif Nat.blt t 112 then some (36,[fc,fc],fc) else some (360,[ke,K1],fc)) else(bif Nat.blt t 114 then some (129,[aw],Ty.int .i64) else(bif Nat.blt t 115 then some (76,[aw],Ty.bool) else some (77,[aw],K5))))) else(bif Nat.blt t 120 then(bif Nat.blt t 118 then(bif Nat.blt t 117 then some (86,[aw],aw) else some (124,[aw],Lt)) else(bif Nat.blt t 119 then some (145,[Ty.int .i64],Ty.bool) else some (81,[Ty.bool,K5],aw))) else(bif Nat.blt t 122 then(bif Nat.blt t 121 then some (146,[K5,K5],K5) else some (82,[K5,K5],K5)) else(bif Nat.blt t 123 then some (78,[K5,K5],Ty.bool) else(bif Nat.blt t 124 then some (144,[Ty.int .i64,Ty.int .i64],Ty.int .i64) else some (143,[K5,K5],RJ)))))) else(bif Nat.blt t 134 then(bif Nat.blt t 129 then(bif Nat.blt t 127 then(bif Nat.blt t 126 then some (126,[K5,K5],K5) else some (142,[aw],aw)) else(bif Nat.blt t 128 then some (361,[Ty.str],Ty.bool) else some (15,[K3],Ty.int .i64))) else(bif Nat.blt t 131 then(bif Nat.blt t 130 then some (362,[K3],Ty.bool) else some (363,[K3,K3],Ty.bool)) else(bif Nat.blt t 132 then some (364,[Ty.int .i64,Ty.int .i64],Ty.int .i64) else(bif Nat.blt t 133 then some (365,[Ty.int .i64],Ty.int .i64) else some (116,[Ty.bool,aW],aw))))) else(bif Nat.blt t 138 then(bif Nat.blt t 136 then(bif Nat.blt t 135 then none else some (67,[aw,ye,jx],Gr)) else(bif Nat.blt t 137 then some (68,[aw],aw) else some (366,[QO],Ty.bool))) else(bif Nat.blt t 140 then(bif Nat.blt t 139 then none else some (407,[Ty.int .i64,Ty.int .i64,be,be],aL)) else(bif Nat.blt t 141 then some (367,[be,Ty.int .i64,Ty.int .i64],aL) else(bif Nat.blt t 142 then some (402,[Ty.int .i64,Ty.int .i64,be,aL],aL) else some (23,[K3],aw))))))))) else(bif Nat.blt t 214 then(bif Nat.blt t 178 then(bif Nat.blt t 160 then(bif Nat.blt t 151 then(bif Nat.blt t 147 then(bif Nat.blt t 145 then(bif Nat.blt t 144 then some (128,[aw],Ty.bool) else some (118,[QI],Ty.bool)) else(bif Nat.blt t 146 then some (127,[aW],Ty.int .i64) else some (58,[K3],Ls))) else(bif Nat.blt t 149 then(bif Nat.blt t 148 then some (69,[Ls,Ty.int .i64,Ty.int .i64],aL) else some (368,[be],Ty.bool)) else(bif Nat.blt t 150 then some (369,[Ty.int .i64,Ty.int .i64],be) else some (370,[be],Ic)))) else(bif Nat.blt t 155 then(bif Nat.blt t 153 then(bif Nat.blt t 152 then some (24,[K3],aw) else some (170,[aW,aW],RK)) else(bif Nat.blt t 154 then some (171,[aw],aw) else some (172,[aw,aw],RL))) else(bif Nat.blt t 157 then(bif Nat.blt t 156 then some (120,[aW,aW],RH) else some (121,[aW,aW],Ty.int .i64)) else(bif Nat.blt t 158 then some (122,[aW,aW],aW) else(bif Nat.blt t 159 then some (90,[aw,aw],Ty.int .i64) else some (137,[aw,aw],aw)))))) else(bif Nat.blt t 169 then(bif Nat.blt t 164 then(bif Nat.blt t 162 then(bif Nat.blt t 161 then some (371,[fc,fc],fc) else some (372,[ke,K1],fc)) else(bif Nat.blt t 163 then some (373,[ke,K1],K1) else some (374,[ke],Ty.int .i64))) else(bif Nat.blt t 166 then(bif Nat.blt t 165 then some (139,[aw],Ty.bool) else some (140,[K5],K5)) else(bif Nat.blt t 167 then some (141,[K5,Ty.int .i64],Ty.int .i64) else(bif Nat.blt t 168 then some (175,[K5,Ty.int .i64],Ty.int .i64) else some (375,[Ty.int .u8],Ty.bool))))) else(bif Nat.blt t 173 then(bif Nat.blt t 171 then(bif Nat.blt t 170 then some (12,[K2],K4) else some (13,[K2,K2],Ty.bool)) else(bif Nat.blt t 172 then some (19,[K3],K7) else some (376,[K3,K3,K1],Ty.bool))) else(bif Nat.blt t 175 then(bif Nat.blt t 174 then some (377,[K3],K2) else some (378,[lE],K1)) else(bif Nat.blt t 176 then some (379,[K1,K1],lE) else(bif Nat.blt t 177 then some (18,[K3],K7) else some (91,[K1,K1],aw))))))) else(bif Nat.blt t 196 then(bif Nat.blt t 187 then(bif Nat.blt t 182 then(bif Nat.blt t 180 then(bif Nat.blt t 179 then some (117,[K1,K1],K1) else none) else(bif Nat.blt t 181 then some (380,[be],Ty.bool) else some (381,[be],Ty.int .i64))) else(bif Nat.blt t 184 then(bif Nat.blt t 183 then some (382,[eH],Ty.bool) else some (56,[aw,ye,aw],Gr)) else(bif Nat.blt t 185 then some (167,[aw],Ty.bool) else(bif Nat.blt t 186 then some (33,[K1,K1],aw) else some (123,[K1,K1],K1))))) else(bif Nat.blt t 191 then(bif Nat.blt t 189 then(bif Nat.blt t 188 then some (383,[be],Ty.int .i64) else some (384,[eH],Ty.bool)) else(bif Nat.blt t 190 then some (195,[aW,Ty.int .u32],QJ) else some (196,[Ty.int .u32],Ty.int .i64))) else(bif Nat.blt t 193 then(bif Nat.blt t 192 then some (197,[aW,Ty.int .i64],QJ) else none) else(bif Nat.blt t 194 then none else(bif Nat.blt t 195 then none else some (201,[aW,Ty.int .i64],aW)))))) else(bif Nat.blt t 205 then(bif Nat.blt t 200 then(bif Nat.blt t 198 then(bif Nat.blt t 197 then some (202,[aw],Lt) else some (203,[aw,aw],aw)) else(bif Nat.blt t 199 then some (168,[Ty.int .u32,Ty.int .u32],Ty.int .i64) else some (385,[ke],Ty.int .i64))) else(bif Nat.blt t 202 then(bif Nat.blt t 201 then some (386,[ke,K1],K1) else some (387,[ke],Id)) else(bif Nat.blt t 203 then some (388,[ke,ke],Ty.int .i64) else(bif Nat.blt t 204 then some (47,[K2],K2) else some (48,[K2],K7))))) else(bif Nat.blt t 209 then(bif Nat.blt t 207 then(bif Nat.blt t 206 then some (389,[K3,K1],aL) else some (22,[K3],K9)) else(bif Nat.blt t 208 then some (186,[aw],Lt) else some (390,[lE,lE],lE))) else(bif Nat.blt t 211 then(bif Nat.blt t 210 then some (80,[K1],lE) else some (45,[K2],Ht)) else(bif Nat.blt t 212 then some (46,[K2,cM],K5) else(bif Nat.blt t 213 then some (147,[lE,lE],aw) else some (148,[K1],lE)))))))) else(bif Nat.blt t 250 then(bif Nat.blt t 232 then(bif Nat.blt t 223 then(bif Nat.blt t 218 then(bif Nat.blt t 216 then none else(bif Nat.blt t 217 then some (391,[aL],Ty.bool) else some (79,[lE,lE],aw))) else(bif Nat.blt t 220 then(bif Nat.blt t 219 then some (165,[Ty.int .u32],Ty.int .i64) else some (217,[aw],Ty.int .i64)) else(bif Nat.blt t 221 then some (194,[Ty.int .u32],Ty.bool) else(bif Nat.blt t 222 then some (392,[ke,ke],Ty.int .i64) else some (393,[ke],Id))))) else(bif Nat.blt t 227 then(bif Nat.blt t 225 then(bif Nat.blt t 224 then some (394,[K5],Ty.int .i64) else some (105,[K1,K1],Ty.bool)) else(bif Nat.blt t 226 then some (106,[K1,K1,K1],K1) else some (107,[K1,K1],Ty.int .i64))) else(bif Nat.blt t 229 then(bif Nat.blt t 228 then some (108,[K7,K1],Ty.bool) else some (109,[K2,K1,Ty.int .i64],Ty.bool)) else(bif Nat.blt t 230 then some (110,[K7,K6],K7) else(bif Nat.blt t 231 then some (111,[K2,K1,Ty.int .i64],K5) else some (395,[aw,aw,aw,aw],aw)))))) else(bif Nat.blt t 241 then(bif Nat.blt t 236 then(bif Nat.blt t 234 then(bif Nat.blt t 233 then some (96,[K1,K1,K1],cM) else some (97,[K1],K1)) else(bif Nat.blt t 235 then some (98,[K2,cM],Ty.bool) else none)) else(bif Nat.blt t 238 then(bif Nat.blt t 237 then some (100,[cM,cM],Ty.int .i64) else some (52,[K5],Ty.int .i64)) else(bif Nat.blt t 239 then some (53,[Ty.int .i64,Ty.int .i64],Ty.int .i64) else(bif Nat.blt t 240 then some (101,[K1,K1],Ty.int .i64) else some (102,[Ty.int .i64,K5,K2,cM],Ty.int .i64))))) else(bif Nat.blt t 245 then(bif Nat.blt t 243 then(bif Nat.blt t 242 then some (103,[K1,K1],K1) else some (104,[K1,K1,K1],Ty.int .i64)) else(bif Nat.blt t 244 then none else some (155,[lE],cM))) else(bif Nat.blt t 247 then(bif Nat.blt t 246 then some (156,[K2,K1,Ty.int .i64,K1,K1],Ty.bool) else some (396,[aw,aw],aw)) else(bif Nat.blt t 248 then some (152,[Ty.int .i64,Ty.int .i64],Ty.int .i64) else(bif Nat.blt t 249 then none else some (114,[Ty.int .u64],Ty.int .i64))))))) else(bif Nat.blt t 268 then(bif Nat.blt t 259 then(bif Nat.blt t 254 then(bif Nat.blt t 252 then(bif Nat.blt t 251 then some (115,[Ty.int .i64],Ty.bool) else some (154,[K1,K1],K1)) else(bif Nat.blt t 253 then some (187,[K1],Ty.bool) else some (188,[K1,K1],Ty.int .i64))) else none) else(bif Nat.blt t 263 then(bif Nat.blt t 261 then none else(bif Nat.blt t 262 then none else some (166,[Ty.int .u64],Ty.int .i64))) else(bif Nat.blt t 265 then(bif Nat.blt t 264 then some (215,[Ty.int .i64],Ty.int .i64) else none) else(bif Nat.blt t 266 then some (190,[Ty.int .i64],Ty.int .u64) else none)))) else none)))) else none
def nO(t:Nat):Option (List Ty×Ty):=match Fw t with|some p=>some p.2|none=>none
def q9(t:Nat):Nat:=match Fw t with|some p=>p.1|none=>0
def kK(t:Nat):Nat:=(bif Nat.blt t 143 then(bif Nat.blt t 71 then 0 else(bif Nat.blt t 107 then 0 else(bif Nat.blt t 125 then 0 else(bif Nat.blt t 134 then 0 else(bif Nat.blt t 138 then(bif Nat.blt t 136 then(bif Nat.blt t 135 then 0 else 1) else 0) else(bif Nat.blt t 140 then(bif Nat.blt t 139 then 0 else 2) else(bif Nat.blt t 141 then 0 else(bif Nat.blt t 142 then 2 else 0)))))))) else(bif Nat.blt t 214 then(bif Nat.blt t 178 then 0 else(bif Nat.blt t 196 then(bif Nat.blt t 187 then(bif Nat.blt t 182 then 0 else(bif Nat.blt t 184 then(bif Nat.blt t 183 then 0 else 1) else 0)) else 0) else 0)) else(bif Nat.blt t 250 then(bif Nat.blt t 232 then 0 else(bif Nat.blt t 241 then(bif Nat.blt t 236 then 0 else(bif Nat.blt t 238 then 0 else(bif Nat.blt t 239 then 0 else(bif Nat.blt t 240 then 0 else 3)))) else 0)) else 0)))
def BG(t:Nat):Option (Ty×Ty):=bif Nat.blt t CL then(bif Nat.blt t 146 then none else(bif Nat.blt t 219 then none else(bif Nat.blt t 256 then(bif Nat.blt t 237 then none else(bif Nat.blt t 246 then(bif Nat.blt t 241 then none else(bif Nat.blt t 243 then none else(bif Nat.blt t 244 then none else(bif Nat.blt t 245 then some (cM,Ty.bool) else none)))) else none)) else none))) else none
def NQ:List Nat:=[0,1,2,0,0,0,0,0,0,0,0,0,169,170,0,128,0,0,176,171,0,0,206,142,151,0,0,0,84,94,0,51,72,185,69,0,111,67,28,31,34,52,53,0,0,210,211,203,204,0,0,0,237,238,83,134,183,104,146,77,0,93,92,97,25,96,0,135,136,147,71,0,109,105,41,29,114,115,122,217,209,119,121,66,50,76,116,74,65,68,158,177,0,0,0,0,232,233,234,235,236,239,240,241,242,224,225,226,227,228,229,230,26,0,249,250,133,178,144,89,155,156,157,186,117,100,125,145,143,113,43,102,103,70,45,44,91,159,82,164,165,166,126,124,123,118,120,212,213,0,0,0,247,248,251,244,245,0,0,0,0,0,0,0,0,218,262,184,198,90,152,153,154,55,46,167,0,0,254,255,256,257,258,259,260,261,207,252,253,0,265,266,0,0,220,189,190,191,192,193,194,195,196,197,0,0,0,0,0,0,0,0,264,267,268,263,0,219,0,0,0,269,0,270,271,272,273,274,275,276,277,278,279,280,281,282,283,284,285,0,0,0,0,0,0,0,0,0,0,0,0,0,0,0,0,0,0,0,0,0,0,0,0,0,0,0,0,0,0,0,0,0,0,0,0,0,0,0,0,0,0,0,0,0,0,0,0,0,0,0,0,0,0,0,0,0,0,0,0,0,3,4,5,6,7,8,9,10,11,12,13,14,15,16,17,18,19,20,21,22,23,24,27,30,32,33,35,36,37,38,39,40,42,47,48,49,54,56,57,60,61,62,63,64,73,75,78,79,80,81,85,86,87,88,95,98,99,101,106,110,112,127,129,130,131,132,137,140,148,149,150,160,161,162,163,168,172,173,174,175,180,181,182,187,188,199,200,201,202,205,208,216,221,222,223,231,246,215,59,138,107,58,141,214,243,108,179,139]
def dE(k:Nat):Nat:=NQ.getD k 0
def dQ(lp:{α β:Type}->(α->Option (Sum α β))->α->Option β)(call:Nat->List D->Option D)(inl:Inl):Env:={ L:=Ja,sig:=nO,call:=fun f=>call (q9 f),mapL:=BG,lp:=lp,inl:=inl.f,cod:=inl.cod,free:=kK,pv:=inl.pv }
def yN:List (Nat×(Func×Ty))->Nat->Option (Func×Ty)
 | [],_=>none
 | p::l,f=>bif Nat.beq f p.1 then some p.2 else yN l f
theorem nE:∀ {l:List (Nat×(Func×Ty))} {f:Nat} {p:Func×Ty},yN l f=some p->(f,p)∈l
 | [],_,_,h=>by cases h
 | q::l,f,p,h=>by
  simp only[yN] at h
  cases hb:Nat.beq f q.1
  ·rw[hb] at h;exact List.mem_cons_of_mem _ (nE h)
  ·rw[hb] at h;cases h;rw[Nat.eq_of_beq_eq_true hb];exact List.mem_cons_self
open Go.Proofs in
def He:List (Nat×(Func×Ty)):=[(58,(Tryz.f58,eH)),(59,(Tryz.f59,Ty.fn)),(107,(Tryz.f107,eH)),(108,(Tryz.f108,Gr)),(134,(Tryz.f134,Gr)),(135,(Tryz.f135,Gr)),(138,(Tryz.f138,Lx)),(139,(Tryz.f139,aL)),(141,(Tryz.f141,aL)),(179,(Tryz.f179,Ty.bool)),(180,(Tryz.f180,Ty.bool)),(183,(Tryz.f183,Gr)),(192,(Tryz.f192,Ty.int .u64)),(193,(Tryz.f193,Ty.bool)),(194,(Tryz.f194,Gr)),(214,(Tryz.f214,Ty.int .i64)),(215,(Tryz.f215,Ty.bool)),(216,(Tryz.f216,Ty.bool)),(236,(Tryz.f236,Ty.int .i64)),(240,(Tryz.f240,Ty.int .i64)),(243,(Tryz.f243,Ty.int .i64))]
open Go.Proofs in
def FF:List (Nat×(Func×Ty)):=He++[(171,(Tryz.f171,K7)),(204,(Tryz.f204,K7)),(229,(Tryz.f229,K7))]
def FD(v f:Nat):Option (Func×Ty):=yN (bif Nat.beq v 2 then FF else He) f
theorem Cn{v f:Nat}{p:Func×Ty}(h:FD v f=some p):(f,p)∈FF:=by
 unfold FD at h
 cases hb:Nat.beq v 2
 ·rw[hb] at h;exact List.mem_append_left _ (nE h)
 ·rw[hb] at h;exact nE h
end Sy
end
end Go.Proofs.YtpahompifldeeaaGreat
