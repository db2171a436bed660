/- Part 4 of the proof that HullContainsPoints answers true at every input -/
import Derived.Test.YtjjjkojfijpeeaaGreatPoints03
set_option linter.unusedVariables false
set_option linter.unusedSimpArgs false
set_option linter.unnecessarySimpa false
section
namespace Go.Proofs.YtjjjkojfijpeeaaGreat.Sy
open Go
def fY(o:Oper):Bool:=fL o||(match o.op with|.alloc _=>true|_=>false)
theorem mn{R:Type}(E:Env)(s:St){o:Oper}(h:fY o=true)(K:St->Option R):lV E s o K=qv E s o fun v=>K (s.put o.dst v):=by
 obtain⟨dst,op,ty,pos,after,guard⟩:=o
 cases op<;>first|rfl|(simp[fY,fL] at h;done)|skip
 rename_i c
 obtain⟨callee,args,argTypes⟩:=c
 cases callee<;>first|rfl|skip
 rename_i b
 cases b<;>first|rfl|(simp[fY,fL] at h)
theorem eR{R:Type}{E:Env}{s:St}{o:Oper}{K:AV->Option R}{r:R}(h:qv E s o K=some r):∃ v,qv E s o some=some v/\K v=some r:=by
 rw[B3] at h
 exact bind_some_inv h
theorem gM(d:Option Nat):∀ (l:List (Nat×Oper)),l=(dF d l).1++(dF d l).2/\∀ p q,(dF d l).2=p::q->lW d p.2=true
 | []=>⟨rfl,fun p q h=>by simp[dF] at h⟩
 | p::l=>by
  simp only[dF]
  split
  ·rename_i hp
   exact⟨rfl,fun p' q h=>by cases h;exact hp⟩
  ·obtain⟨h1,h2⟩:=gM d l
   exact⟨by simp only[List.cons_append];rw[<-h1],h2⟩
theorem qB{s:St}{d:Nat}{v:AV}(h:s.tm d=v):s.put (some d) v=s:=by
 simp only[St.put]
 split
 ·have:(fun i=>if i=d then v else s.tm i)=s.tm:=by
   funext i
   by_cases e:i=d
   ·subst e;simp[h]
   ·simp[e]
  rw[this]
 ·rfl
theorem ke{s:St}{d:Nat}{v:AV}(h:d<s.nt):(s.put (some d) v).tm d=v:=by simp[St.put,h]
theorem gR{v:AV}{b:Bool}(h:v.truth=some b):v=.d .bool (.bool b):=by
 cases v<;>simp only[AV.truth] at h<;>first|(cases h;done)|skip
 split at h<;>first|(cases h;done)|skip
 rename_i ht
 rw[Ty.eq_of_beq _ _ ht,sj h]
theorem og{R:Type}{s:St}{g:Nat}{c want:Bool}(hc:(s.tm g).truth=some c){A B:St->Option R}{r:R}
  (h:(if c then(if want then A (s.put (some g) (.d .bool (.bool true))) else B (s.put (some g) (.d .bool (.bool true)))) else(if want then B (s.put (some g) (.d .bool (.bool false))) else A (s.put (some g) (.d .bool (.bool false)))))=some r):(if c==want then A s else B s)=some r:=by
 have e:=qB (gR hc)
 cases c<;>cases want<;>simp only[Bool.false_eq_true,if_true,if_false] at h<;>rw[e] at h<;>simpa using h
theorem ot{d:Option Nat}{o:Oper}(h:lW d o=true):∃ c x y,o.op=.pick c x y:=by
 cases hop:o.op<;>first|exact⟨_,_,_,rfl⟩|(simp[lW,hop] at h)
theorem jc{o:Oper}(h:fL o=true):fY o=true:=by simp[fY,h]
theorem AQ{o:Oper}{c x y:Operand}(h:o.op=.pick c x y):fY o=true:=by simp[fY,fL,h]
theorem wO{E:Env}{ops:Array Oper}:∀ (N:Nat) (R:Type) (l:List (Nat×Oper)) (s:St) (k:St->Option R) (r:R) (m:Nat) (an:Ann),m<=l.length->(∀ p∈l.take m,fY p.2=true/\mY E p.2=false) ->
  (∀ p∈l.drop m,p.2.guard=none/\∀ c x y,p.2.op≠.pick c x y)->fV E N R ops an l s k=some r ->
  ∃ s' s'' N',seqV E ops ((l.take m).map Prod.snd) s=some s'/\Wk s' s''/\fV E N' R ops an (l.drop m) s'' k=some r:=by
 intro N
 induction N with
 | zero=>intro R l s k r m an _ _ _ h;simp[fV] at h
 | succ N ih=>
  intro R l s k r m an hm hq ht h
  cases m with
  | zero=>exact⟨s,s,N+1,rfl,Wk.refl s,by simpa using h⟩
  | succ m=>
   cases l with
   | nil=>simp at hm
   | cons p l=>
    obtain⟨i,o⟩:=p
    simp only[List.length_cons,Nat.add_le_add_iff_right] at hm
    obtain⟨ho,hin⟩:=hq (i,o) (by simp)
    simp only at ho hin
    have hq':∀ p∈l.take m,fY p.2=true/\mY E p.2=false:=fun p hp=>hq p (by simp[hp])
    have ht':∀ p∈l.drop m,p.2.guard=none/\∀ c x y,p.2.op≠.pick c x y:=fun p hp=>ht p (by simpa using hp)
    simp only[fV] at h
    have step:∀ {v:AV},val E ops s o=some v->fV E N R ops an l (s.put o.dst v) k=some r->∃ s' s'' N',seqV E ops (((i,o)::l).take (m+1) |>.map Prod.snd) s=some s'/\Wk s' s''/\fV E N' R ops an (((i,o)::l).drop (m+1)) s'' k=some r:=by
     intro v hv hr
     obtain⟨s',s'',N',h1,h2,h3⟩:=ih R l (s.put o.dst v) k r m an hm hq' ht' hr
     refine⟨s',s'',N',?_,h2,by simpa using h3⟩
     simp only[List.take_succ_cons,List.map_cons,seqV,hv,Option.bind_some]
     exact h1
    cases hg:o.guard with
    | some jw=>
     obtain⟨j,want⟩:=jw
     rw[hg] at h
     simp only at h
     split at h<;>first|(cases h;done)|skip
     rename_i g hgd
     split at h<;>first|(cases h;done)|skip
     rename_i hlk
     by_cases hgo:s.tm g=.gone
     ·rw[hgo,eN] at h
      exact step (by unfold val;rw[if_neg hlk,hg];simp only;rw[hgd,Option.bind_some,hgo,eN]) h
     rw[fB hgo] at h
     obtain⟨c,h1,h2⟩:=bind_some_inv h
     replace h2:=og (A:=fun s=>lV E s o fun s'=>fV E N R ops an l s' k) (B:=fun s=>fV E N R ops an l (s.put o.dst .gone) k) h1 h2
     split at h2
     ·rename_i hc
      rw[mn E s ho] at h2
      obtain⟨v,h3,h4⟩:=eR h2
      exact step (by unfold val;rw[if_neg hlk,hg];simp only;rw[hgd,Option.bind_some,fB hgo,h1,Option.bind_some,if_pos hc];exact h3) h4
     ·rename_i hc
      exact step (by unfold val;rw[if_neg hlk,hg];simp only;rw[hgd,Option.bind_some,fB hgo,h1,Option.bind_some,if_neg hc]) h2
    | none=>
     rw[hg] at h
     simp only at h
     split at h
     ·
      rename_i hgu
      obtain⟨e1,e2⟩:=gM o.dst l
      generalize dF o.dst l=sp at *
      obtain⟨seg,rest⟩:=sp
      simp only at h e1 e2
      split at h<;>first|(cases h;done)|skip
      rename_i _ _ jj pk l'' d hd
      split at h<;>first|(cases h;done)|skip
      rename_i hcond
      simp only[Bool.and_eq_true,decide_eq_true_eq,Bool.not_eq_true',List.all_eq_true] at hcond
      obtain⟨⟨⟨⟨⟨c1,c2⟩,c3⟩,cI⟩,c4⟩,c5⟩:=hcond
      have hpk:=e2 _ _ rfl
      obtain⟨pc,px,py,hop⟩:=ot hpk
      have hseg:seg.length<m:=by
       rcases Nat.lt_or_ge seg.length m with h0|h0
       ·exact h0
       ·exfalso
        have:(jj,pk)∈l.drop m:=by
         rw[e1,List.drop_append_of_le_length h0]
         simp
        exact(ht' _ this).2 _ _ _ hop
      unfold yn at h
      split at h<;>first|(cases h;done)|skip
      rename_i hlk
      rw[mn E s ho] at h
      obtain⟨v,h3,h4⟩:=eR h
      rw[hd] at h4
      obtain⟨c,h5,h6⟩:=bind_some_inv h4
      rw[ke c1] at h5
      have hv:=gR h5
      subst hv
      obtain⟨x,h7,h8⟩:=bind_some_inv h6
      have hsame:∀ b,b=c->(s.put (some d) (.d .bool (.bool c))).put (some d) (.d .bool (.bool b))=s.put (some d) (.d .bool (.bool c)):=fun b hb=>qB (by rw[ke c1,hb])
      have hsegv:∃ k2:St->Option Bool,(∀ s2,k2 s2=qv E s2 pk AV.truth)/\fV E N Bool ops .leaf seg (s.put (some d) (.d .bool (.bool c))) k2=some x:=by
       cases c
       ·simp only[Bool.false_eq_true,if_false] at h7
        rw[hsame false rfl] at h7
        exact⟨_,fun _=>rfl,h7⟩
       ·simp only[if_true] at h7
        rw[hsame true rfl] at h7
        exact⟨_,fun _=>rfl,h7⟩
      obtain⟨k2,hk2,h7⟩:=hsegv
      obtain⟨s2,s2',N2,h9,h10,h11⟩:=ih Bool seg _ k2 x seg.length .leaf (Nat.le_refl _) (fun p hp=>by
       rw[List.take_length] at hp
       exact⟨jc (c4 p hp).1.1,(c4 p hp).2⟩) (fun p hp=>by simp at hp) h7
      rw[List.drop_length] at h11
      rw[List.take_length] at h9
      have h12:k2 s2'=some x:=by cases N2<;>simpa [fV] using h11
      rw[hk2] at h12
      obtain⟨v2,h13,h14⟩:=eR h12
      have hv2:=gR h14
      obtain⟨v3,h15,h16⟩:=h10.qv h13
      have hv3:v3=.d .bool (.bool x):=by
       rcases h16 with e|e
       ·rw[<-e];exact hv2
       ·rw[hv2] at e;cases e
      subst hv3
      have hwk:Wk (s2.put pk.dst (.d .bool (.bool x))) ((killD (s.put (some d) (.d .bool (.bool c))) (seg.map Prod.snd)).put pk.dst (.d .bool (.bool x))):=(iS _ h9).put pk.dst (.inl rfl)
      have hlen:l.length=seg.length+1+l''.length:=by rw[e1];simp;omega
      obtain⟨s4,s4',N4,h17,h18,h19⟩:=ih R l'' _ k r (m-seg.length-1) an (by omega) (fun p hp=>hq' p (by
       rw[e1,List.take_append,List.mem_append]
       right
       rw[show m-seg.length=(m-seg.length-1)+1 by omega,List.take_succ_cons]
       exact List.mem_cons_of_mem _ hp)) (fun p hp=>ht' p (by
       rw[e1,List.drop_append,List.mem_append]
       right
       rw[show m-seg.length=(m-seg.length-1)+1 by omega,List.drop_succ_cons]
       exact hp)) h8
      obtain⟨s5,h20,h21⟩:=Wk.seqV _ hwk h17
      refine⟨s5,s4',N4,?_,h21.trans h18,?_⟩
      ·have etake:l.take m=seg++(jj,pk)::l''.take (m-seg.length-1):=by
        conv=>lhs;rw[e1,List.take_append,List.take_of_length_le (by omega),show m-seg.length=(m-seg.length-1)+1 by omega,List.take_succ_cons]
       have hval:val E ops s o=some (.d .bool (.bool c)):=by unfold val;rw[if_neg hlk,hg];exact h3
       have hlk2:¬ iX s2 pk=true:=by
        have:s2.lkS=s.lkS:=by
         have w1:=(iS _ h9).lkS
         have w2:∀ (l:List Oper) (s:St),(killD s l).lkS=s.lkS:=by
          intro l
          induction l with
          | nil=>intro s;rfl
          | cons o l ih=>intro s;rw[killD,ih];exact(St.put_fields s o.dst .undef).2.2.2.2.1
         rw[<-w1,w2]
         exact(St.put_fields s (some d) _).2.2.2.2.1
        simp only[iX,this]
        have:=c5
        simp only[iX] at this
        rw[this];simp
       have hval2:val E ops s2 pk=some (.d .bool (.bool x)):=by
        unfold val
        rw[if_neg hlk2]
        have:pk.guard=none:=by simpa using c2
        rw[this];exact h15
       simp only[List.take_succ_cons,List.map_cons,seqV,hval,Option.bind_some,etake,List.map_append,jY,hd,h9,hval2]
       exact h20
      ·have edrop:l.drop m=l''.drop (m-seg.length-1):=by
        conv=>lhs;rw[e1,List.drop_append,List.drop_of_length_le (by omega),List.nil_append,show m-seg.length=(m-seg.length-1)+1 by omega,List.drop_succ_cons]
       simp only[List.drop_succ_cons,edrop]
       exact h19
     ·rw[hin] at h
      simp only[Bool.false_eq_true,if_false] at h
      unfold yn at h
      split at h<;>first|(cases h;done)|skip
      rename_i hlk
      rw[mn E s ho] at h
      obtain⟨v,h3,h4⟩:=eR h
      exact step (by unfold val;rw[if_neg hlk,hg];exact h3) h4
end Go.Proofs.YtjjjkojfijpeeaaGreat.Sy
end
section
namespace Go.Proofs.YtjjjkojfijpeeaaGreat.Sy
open Go
variable{ro:Option Nat}{nn:Nat}
theorem Em{E:Env}{ops:Array Oper}{N:Nat}{R:Type}{i:Nat}{o:Oper}{l:List (Nat×Oper)}{s:St}{k:St->Option R}{r:R}(hg:o.guard=none)(hgu:gv i l=true){an:Ann}(h:fV E (N+1) R ops an ((i,o)::l) s k=some r) :
  ∃ seg jj pk l'' s5 s3,l=seg++(jj,pk)::l''/\fY o=true/\(∀ p∈seg,fY p.2=true)/\fY pk=true/\seqV E ops (o::(seg.map Prod.snd++[pk])) s=some s5/\Wk s5 s3/\fV E N R ops an l'' s3 k=some r:=by
 simp only[fV,hg,hgu,if_true] at h
 obtain⟨e1,e2⟩:=gM o.dst l
 generalize dF o.dst l=sp at *
 obtain⟨seg,rest⟩:=sp
 simp only at h e1 e2
 split at h<;>first|(cases h;done)|skip
 rename_i _ _ jj pk l'' d hd
 split at h<;>first|(cases h;done)|skip
 rename_i hcond
 simp only[Bool.and_eq_true,decide_eq_true_eq,Bool.not_eq_true',List.all_eq_true] at hcond
 obtain⟨⟨⟨⟨⟨c1,c2⟩,c3⟩,cI⟩,c4⟩,c5⟩:=hcond
 have ho:=jc c3
 have hpk:=e2 _ _ rfl
 obtain⟨pc,px,py,hop⟩:=ot hpk
 unfold yn at h
 split at h<;>first|(cases h;done)|skip
 rename_i hlk
 rw[mn E s ho] at h
 obtain⟨v,h3,h4⟩:=eR h
 rw[hd] at h4
 obtain⟨c,h5,h6⟩:=bind_some_inv h4
 rw[ke c1] at h5
 have hv:=gR h5
 subst hv
 obtain⟨x,h7,h8⟩:=bind_some_inv h6
 have hsame:∀ b,b=c->(s.put (some d) (.d .bool (.bool c))).put (some d) (.d .bool (.bool b))=s.put (some d) (.d .bool (.bool c)):=fun b hb=>qB (by rw[ke c1,hb])
 have hsegv:∃ k2:St->Option Bool,(∀ s2,k2 s2=qv E s2 pk AV.truth)/\fV E N Bool ops .leaf seg (s.put (some d) (.d .bool (.bool c))) k2=some x:=by
  cases c
  ·simp only[Bool.false_eq_true,if_false] at h7
   rw[hsame false rfl] at h7
   exact⟨_,fun _=>rfl,h7⟩
  ·simp only[if_true] at h7
   rw[hsame true rfl] at h7
   exact⟨_,fun _=>rfl,h7⟩
 obtain⟨k2,hk2,h7⟩:=hsegv
 obtain⟨s2,s2',N2,h9,h10,h11⟩:=wO N Bool seg _ k2 x seg.length .leaf (Nat.le_refl _) (fun p hp=>by
  rw[List.take_length] at hp
  exact⟨jc (c4 p hp).1.1,(c4 p hp).2⟩) (fun p hp=>by simp at hp) h7
 rw[List.drop_length] at h11
 rw[List.take_length] at h9
 have h12:k2 s2'=some x:=by cases N2<;>simpa [fV] using h11
 rw[hk2] at h12
 obtain⟨v2,h13,h14⟩:=eR h12
 have hv2:=gR h14
 obtain⟨v3,h15,h16⟩:=h10.qv h13
 have hv3:v3=.d .bool (.bool x):=by
  rcases h16 with e|e
  ·rw[<-e];exact hv2
  ·rw[hv2] at e;cases e
 subst hv3
 have hwk:Wk (s2.put pk.dst (.d .bool (.bool x))) ((killD (s.put (some d) (.d .bool (.bool c))) (seg.map Prod.snd)).put pk.dst (.d .bool (.bool x))):=(iS _ h9).put pk.dst (.inl rfl)
 have hval:val E ops s o=some (.d .bool (.bool c)):=by unfold val;rw[if_neg hlk,hg];exact h3
 have hlk2:¬ iX s2 pk=true:=by
  have:s2.lkS=s.lkS:=by
   have w1:=(iS _ h9).lkS
   have w2:∀ (l:List Oper) (s:St),(killD s l).lkS=s.lkS:=by
    intro l
    induction l with
    | nil=>intro s;rfl
    | cons o l ih=>intro s;rw[killD,ih];exact(St.put_fields s o.dst .undef).2.2.2.2.1
   rw[<-w1,w2]
   exact(St.put_fields s (some d) _).2.2.2.2.1
  simp only[iX,this]
  have:=c5
  simp only[iX] at this
  rw[this];simp
 have hval2:val E ops s2 pk=some (.d .bool (.bool x)):=by
  unfold val
  rw[if_neg hlk2]
  have:pk.guard=none:=by simpa using c2
  rw[this];exact h15
 refine⟨seg,jj,pk,l'',_,_,e1,ho,fun p hp=>jc (c4 p hp).1.1,AQ hop,?_,hwk,h8⟩
 simp only[seqV,hval,Option.bind_some,jY,hd,h9,hval2]
section
variable{P:Program}{E:Env}{w0:Root}{S:Nat->Nat->Prop}{γ:Nat->Option Nat}{β:Nat->Option (Nat×Nat)}{s:St}{a:Act}{w:World}{ops:Array Oper}
theorem sM{o:Oper}(h:Rp w0 S γ β s a w):(o.guard=none->Region.wanted o (yielded ops a.tmps)=true) ∧
  (∀ j want g c,o.guard=some (j,want)->(ops[j]?).bind (·.dst)=some g->(s.tm g).truth=some c->Region.wanted o (yielded ops a.tmps)=(c==want)) ∧
  ∀ j want g,o.guard=some (j,want)->(ops[j]?).bind (·.dst)=some g->s.tm g=.gone->Region.wanted o (yielded ops a.tmps)=false:=by
 refine⟨fun hg=>by simp[Region.wanted,hg],fun j want g c hg h1 h2=>?_,fun j want g hg h1 h2=>?_⟩
 rotate_left
 ·have h3:AR ⟨w,S,γ,β,s.ob,s.dead⟩ (s.tm g) (a.eval (.tmp g)):=aF h (.tmp g)
  rw[h2] at h3
  have h3':a.eval (.tmp g)=undef:=h3
  simp only[Act.eval] at h3'
  simp only[Region.wanted,hg,yielded,h1,Option.bind_some]
  by_cases hlt:g<a.tmps.size
  ·have h4:a.tmps[g]?=some undef:=by
    rw[Array.getElem?_eq_getElem hlt]
    simpa [Array.getD,hlt] using h3'
   rw[h4];rfl
  ·have h4:a.tmps[g]?=none:=Array.getElem?_eq_none (Nat.le_of_not_lt hlt)
   rw[h4];rfl
 obtain⟨h3,_⟩:=lL h2 (aF h (.tmp g))
 have h4:a.tmps[g]?=some (.bool c):=by
  simp only[Act.eval] at h3
  by_cases hlt:g<a.tmps.size
  ·rw[Array.getElem?_eq_getElem hlt]
   simpa [Array.getD,hlt] using h3
  ·exfalso
   have:s.tm g=.undef:=h.tmu g (by rw[<-h.nt];exact Nat.le_of_not_lt hlt)
   rw[this] at h2;cases h2
 simp only[Region.wanted,hg,yielded,h1,Option.bind_some,h4]
 cases c<;>cases want<;>rfl
theorem tf(hE:EnvOk P E)(h:Rp w0 S γ β s a w){o:Oper}(hf:Fr E s γ β o){v:AV}(hq:val E ops s o=some v) :
  (Region.wanted o (yielded ops a.tmps)=true->cl P o a w fun u w'=>∃ S' γ' β',Rp w0 S' γ' β' (s.put o.dst v) (a.put o.dst u) w'/\Fm s S γ a w S' γ' (a.put o.dst u) w'/\(∀ id,o.dst≠some (id-s.base)\/id<s.base->γ' id=γ id/\β' id=β id)) ∧
  (Region.wanted o (yielded ops a.tmps)=false->Rp w0 S γ β (s.put o.dst v) (a.put o.dst undef) w/\Fm s S γ a w S γ (a.put o.dst undef) w):=by
 unfold val at hq
 split at hq<;>first|(cases hq;done)|skip
 rename_i hlk
 have hlk':∀ t∈s.lkS,o.dst≠some t:=fun t ht e=>hlk (by simp[iX,e];exact ht)
 have main:qv E s o some=some v->cl P o a w fun u w'=>∃ S' γ' β',Rp w0 S' γ' β' (s.put o.dst v) (a.put o.dst u) w'/\Fm s S γ a w S' γ' (a.put o.dst u) w'/\(∀ id,o.dst≠some (id-s.base)\/id<s.base->γ' id=γ id/\β' id=β id):=by
  intro hq
  obtain⟨s',h1,h2⟩:=rH hE h hf (fun T t _ ht=>hE.flat T t ht) hlk' (K:=some) (r:=s.put o.dst v) (by rw[B3,hq];rfl)
  cases h1
  exact h2.2.2.2.2.2
 have skip:Rp w0 S γ β (s.put o.dst .gone) (a.put o.dst undef) w/\Fm s S γ a w S γ (a.put o.dst undef) w:=
  ⟨h.put (by simp[AR]) o.dst,fun _ _ hb=>hb,fun _ _ _=>rfl,fun t ht=>bE (hlk' t ht),fun _ _ _ hb=>⟨hb,rfl⟩,Nat.le_refl _,fun _ _ hb=>hb⟩
 obtain⟨w1,w2,w3⟩:=sM (ops:=ops) (o:=o) h
 cases hg:o.guard with
 | none=>
  rw[hg] at hq
  exact⟨fun _=>main hq,fun hw=>by rw[w1 hg] at hw;cases hw⟩
 | some p=>
  obtain⟨j,want⟩:=p
  rw[hg] at hq
  simp only at hq
  obtain⟨g,h1,h2⟩:=bind_some_inv hq
  by_cases hgo:s.tm g=.gone
  ·rw[hgo,eN] at h2
   have hw:=w3 j want g hg h1 hgo
   cases h2
   exact⟨fun hh=>(by rw[hw] at hh;cases hh),fun _=>skip⟩
  rw[fB hgo] at h2
  obtain⟨c,h3,h4⟩:=bind_some_inv h2
  have hw:=w2 j want g c hg h1 h3
  split at h4
  ·rename_i hc
   exact⟨fun _=>main h4,fun hh=>by rw[hw,hc] at hh;cases hh⟩
  ·rename_i hc
   cases h4
   exact⟨fun hh=>by rw[hw] at hh;exact absurd hh hc,fun _=>skip⟩
def Dd(E:Env)(s:St)(γ:Nat->Option Nat)(β:Nat->Option (Nat×Nat))(l:List Oper):Prop:=∀ o∈l,Fr E s γ β o
theorem Fr.keep{o o':Oper}{s':St}{γ':Nat->Option Nat}{β':Nat->Option (Nat×Nat)}(h:Fr E s γ β o')(hd:∀ d,o'.dst=some d->o.dst≠some d)(hfr:s'.fresh=s.fresh)
  (hob:∀ id,γ id=none->o.dst≠some (id-s.base)\/id<s.base->s'.ob id=s.ob id) (hk:∀ id,o.dst≠some (id-s.base)\/id<s.base->γ' id=γ id/\β' id=β id):Fr E s' γ' β' o':=by
 intro hc d hd'
 obtain⟨h1,h2,h3,h4⟩:=h hc d hd'
 have hb:s'.base=s.base:=by simp only[St.base,hfr]
 have hne:o.dst≠some (s.base+d-s.base):=by rw[Nat.add_sub_cancel_left];exact hd d hd'
 obtain⟨k1,k2⟩:=hk (s.base+d) (.inl hne)
 rw[hb]
 exact⟨h1,k1.trans h2,k2.trans h3,fun T t e1 e2=>(hob _ h2 (.inl hne)).trans (h4 T t e1 e2)⟩
structure Sm(s s':St):Prop where
 lkS:s'.lkS=s.lkS
 lkO:s'.lkO=s.lkO
 fresh:s'.fresh=s.fresh
 nt:s'.nt=s.nt
theorem Sm.sk{s s':St}(h:Sm s s'):Sk s s':=⟨h.lkS,h.lkO,h.nt⟩
theorem Sm.refl(s:St):Sm s s:=⟨rfl,rfl,rfl,rfl⟩
theorem Sm.trans{a b c:St}(h:Sm a b)(k:Sm b c):Sm a c:=⟨k.lkS.trans h.lkS,k.lkO.trans h.lkO,k.fresh.trans h.fresh,k.nt.trans h.nt⟩
theorem Sm.put(s:St)(d:Option Nat)(v:AV):Sm s (s.put d v):=by
 obtain⟨p1,p2,p3,p4,p5,p6,p7⟩:=St.put_fields s d v
 exact⟨p5,p6,p2,p4⟩
theorem Sm.wk{s s':St}(h:Wk s s'):Sm s s':=⟨h.lkS,h.lkO,h.fresh,h.nt⟩
theorem uB(hE:EnvOk P E){Q:Exit->Act->World->Prop}:∀ (l l2:List Oper) {S:Nat->Nat->Prop} {γ:Nat->Option Nat} {β:Nat->Option (Nat×Nat)} {s:St} {a:Act} {w:World} {s':St},Rp w0 S γ β s a w->Dd E s γ β (l++l2)->(∀ (A B:List Oper) o o',l++l2=A++o::B->o'∈B->∀ d,o'.dst=some d->o.dst≠some d)->seqV E ops l s=some s' ->
  (∀ S' γ' β' a' w',Rp w0 S' γ' β' s' a' w'->Fm s S γ a w S' γ' a' w'->Sm s s'->Dd E s' γ' β' l2->wpListIn (FW ro) nn P ops Q l2 a' w')->wpListIn (FW ro) nn P ops Q (l++l2) a w
 | [],l2,S,γ,β,s,a,w,s',h,hf,_,hq,hk=>by
  simp only[seqV,Option.some.injEq] at hq
  subst hq
  exact hk S γ β a w h (Fm.refl _ _ _ _ _) (Sm.refl s) (by simpa using hf)
 | o::l,l2,S,γ,β,s,a,w,s',h,hf,hd,hq,hk=>by
  simp only[seqV] at hq
  obtain⟨v,h1,h2⟩:=bind_some_inv hq
  have hfo:Fr E s γ β o:=hf o (by simp)
  obtain⟨k1,k2⟩:=tf hE h hfo h1
  have hdo:∀ o'∈l++l2,∀ d,o'.dst=some d->o.dst≠some d:=fun o' ho'=>hd [] (l++l2) o o' rfl ho'
  have hd':∀ (A B:List Oper) x x',l++l2=A++x::B->x'∈B->∀ d,x'.dst=some d->x.dst≠some d:=fun A B x x' e hx=>hd (o::A) B x x' (by simp[e]) hx
  have p:=St.put_fields s o.dst v
  have frn:∀ {γ':Nat->Option Nat} {β':Nat->Option (Nat×Nat)},(∀ id,o.dst≠some (id-s.base)\/id<s.base->γ' id=γ id/\β' id=β id)->Dd E (s.put o.dst v) γ' β' (l++l2):=fun hk o' ho'=>
   (hf o' (by simp only[List.cons_append,List.mem_cons];exact .inr ho')).keep (hdo o' ho') p.2.1 (fun id _ _=>by rw[p.1]) hk
  simp only[List.cons_append,wpListIn]
  split
  ·rename_i hw
   refine(aM (k1 hw) fun u w' ⟨S',γ',β',m1,m2,m3⟩=>?_)
   exact uB hE l l2 m1 (frn m3) hd' h2 fun S2 γ2 β2 a2 w2 n1 n2 n3 n4=>hk S2 γ2 β2 a2 w2 n1 (m2.trans n2 p.2.2.2.2.1 p.2.2.2.2.2.1) ((Sm.put s o.dst v).trans n3) n4
  ·rename_i hw
   obtain⟨m1,m2⟩:=k2 (by simpa using hw)
   exact⟨fun _ _=>trivial,uB hE l l2 m1 (frn fun id _=>⟨rfl,rfl⟩) hd' h2 fun S2 γ2 β2 a2 w2 n1 n2 n3 n4=>hk S2 γ2 β2 a2 w2 n1 (m2.trans n2 p.2.2.2.2.1 p.2.2.2.2.2.1) ((Sm.put s o.dst v).trans n3) n4⟩
theorem ls(h:Rp w0 S γ β s a w):∀ (l:List Operand) (i:Nat) (x:AV) (v:Value),(l.map s.opA)[i]?=some x->(l.map a.eval)[i]?=some v->AR ⟨w,S,γ,β,s.ob,s.dead⟩ x v
 | [],i,x,v,hx,_=>by simp at hx
 | y::l,0,x,v,hx,hv=>by simp at hx hv;subst hx;subst hv;exact aF h y
 | y::l,i+1,x,v,hx,hv=>by simp only[List.map_cons,List.getElem?_cons_succ] at hx hv;exact ls h l i x v hx hv
theorem nZ{c:Cx}:∀ (l:List AV) (caps:List Value),l.all kT=true->ra c l caps->l.length=caps.length/\∀ (i:Nat) (x:AV) (v:Value),l[i]?=some x->caps[i]?=some v->AR c x v
 | [],caps,_,h=>by simp only[ra] at h;subst h;exact⟨rfl,fun i x v hx=>by simp at hx⟩
 | y::l,caps,hp,h=>by
  simp only[ra] at h
  obtain⟨v0,c2,rfl,h1,h2⟩:=h
  simp only[List.all_cons,Bool.and_eq_true] at hp
  obtain⟨k1,k2⟩:=nZ l c2 hp.2 h2
  refine⟨by simp[k1],fun i x v hx hv=>?_⟩
  cases i with
  | zero=>
   simp at hx hv;subst hx;subst hv
   cases y<;>simp only[kT] at hp<;>first|(cases hp.1;done)|skip
   simp only[AC] at h1
   obtain⟨b,off,e,h3⟩:=h1
   simp only[List.cons.injEq,and_true] at e
   subst e
   simp only[AR,AC,Value.cells]
   exact⟨by simp,b,off,rfl,h3⟩
  | succ i=>simp only[List.getElem?_cons_succ] at hx hv;exact k2 i x v hx hv
theorem F9(hE:EnvOk P E)(h:Rp w0 S γ β s a w){o:Oper}{c:Call}(hop:o.op=.call c)(hlk:∀ t∈s.lkS,o.dst≠some t){R:Type}{K:St->Option R}{r:R}{an:Ann}
  (hev:((ny s c).bind fun q=>(E.inl q.1).bind fun g=>g an.fst R s q.2 fun v s'=>K (s'.put o.dst v))=some r) :
  cl P o a w fun u w'=>∃ s' S' γ' β',K s'=some r/\Rp w0 S' γ' β' s' (a.put o.dst u) w'/\Fm s S γ a w S' γ' (a.put o.dst u) w'/\Sk s s':=by
 obtain⟨⟨f,avs⟩,h1,hev1⟩:=bind_some_inv hev
 clear hev
 obtain⟨g,h2,hev2⟩:=bind_some_inv hev1
 clear hev1
 simp only at h2 hev2
 obtain⟨⟨fn,f1,f2,f3⟩,hI⟩:=hE.inl f g h2
 have key:∃ vs:List Value,avs.length=vs.length/\(∀ (i:Nat) (x:AV) (v:Value),avs[i]?=some x->vs[i]?=some v->AR ⟨w,S,γ,β,s.ob,s.dead⟩ x v)/\(execOp a.eval o).run P w=.ok (.enter f vs.toArray) w:=by
  clear hev2 hI h2
  have hb:¬ fn.body=none:=by intro hh;rw[hh] at f3;cases f3
  have f2' : ¬ fn.name = "runtime.NumGoroutine" := by simpa using f2
  obtain⟨dst,op,ty,pos,after,guard⟩:=o
  simp only at hop
  subst hop
  obtain⟨callee,args,argTypes⟩:=c
  simp only[ny] at h1
  split at h1<;>first|(cases h1;done)|skip
  ·rename_i f'
   simp only[Option.some.injEq,Prod.mk.injEq] at h1
   obtain⟨rfl,rfl⟩:=h1
   refine⟨args.toList.map a.eval,by simp,ls h _,?_⟩
   have hm:args.map a.eval=(args.toList.map a.eval).toArray:=Array.ext' (by simp)
   simp[execOp,resolve,Act.eval,Deferred.ofValue,invoke,callFunc,f1,f2',hb,hm]
  ·rename_i t
   split at h1<;>first|(cases h1;done)|skip
   rename_i f' l ht
   split at h1<;>first|(cases h1;done)|skip
   rename_i hp
   simp only[Option.some.injEq,Prod.mk.injEq] at h1
   obtain⟨rfl,rfl⟩:=h1
   have hA:=aF h (.tmp t)
   have hA':AR ⟨w,S,γ,β,s.ob,s.dead⟩ (.clo f' l) (a.eval (.tmp t)):=by rw[<-ht];exact hA
   simp only[AR,AC] at hA'
   obtain⟨na,caps,hcs,hcap⟩:=hA'
   have hv:=al na hcs
   obtain⟨k1,k2⟩:=nZ l caps hp hcap
   refine⟨args.toList.map a.eval++caps,by simp[k1],fun i x v hx hv'=>?_,?_⟩
   ·rcases Nat.lt_or_ge i (args.toList.map s.opA).length with hi|hi
    ·rw[List.getElem?_append_left hi] at hx
     rw[List.getElem?_append_left (by simpa using hi)] at hv'
     exact ls h _ i x v hx hv'
    ·rw[List.getElem?_append_right hi] at hx
     rw[List.getElem?_append_right (by simpa using hi)] at hv'
     refine k2 _ x v hx ?_
     simpa using hv'
   ·have hm:args.map a.eval=(args.toList.map a.eval).toArray:=Array.ext' (by simp)
    simp[execOp,resolve,hv,Deferred.ofValue,invoke,callFunc,f1,f2',hb,hm]
 obtain⟨vs,k1,k2,k3⟩:=key
 have hc:=hI an.fst R w0 S γ β s a w avs vs _ r h k1 k2 hev2
 unfold cl
 rw[k3]
 refine hc.mono fun e w' ⟨v,y,s',S',γ',β',e1,e2,e3,e4,e5,e6⟩=>⟨v,e1,s'.put o.dst y,S',γ',β',e2,e3.put e4 o.dst,⟨e5.sub,e5.cell,fun t ht=>bE (hlk t ht),e5.objs,e5.sz,e5.gam⟩,?_⟩
 have p:=St.put_fields s' o.dst y
 exact⟨p.2.2.2.2.1.trans e6.lkS,p.2.2.2.2.2.1.trans e6.lkO,p.2.2.2.1.trans e6.nt⟩
theorem pY(hE:EnvOk P E){Q:Exit->Act->World->Prop}(hops:(ops.toList.all fun o=>match o.op with|.store ..=>o.dst.isNone|_=>true)=true):∀ (N:Nat) (R:Type) (l:List (Nat×Oper)) {S:Nat->Nat->Prop} {γ:Nat->Option Nat} {β:Nat->Option (Nat×Nat)} {s:St} {a:Act} {w:World} (k:St->Option R) (r:R) (an:Ann),
  Rp w0 S γ β s a w->Dd E s γ β (l.map Prod.snd)->(∀ (A B:List Oper) o o',l.map Prod.snd=A++o::B->o'∈B->∀ d,o'.dst=some d->o.dst≠some d)->(∀ p∈l,p.2∈ops.toList)->fV E N R ops an l s k=some r ->
  (∀ s' S' γ' β' a' w',Rp w0 S' γ' β' s' a' w'->Fm s S γ a w S' γ' a' w'->Sk s s'->k s'=some r->Q .normal a' w')->wpListIn (FW ro) nn P ops Q (l.map Prod.snd) a w:=by
 intro N
 induction N with
 | zero=>intro R l S γ β s a w k r an _ _ _ _ h;simp[fV] at h
 | succ N ih=>
  intro R l S γ β s a w k r an h hf hd hmem hev hQ
  cases l with
  | nil=>
   simp only[fV] at hev
   exact hQ s S γ β a w h (Fm.refl _ _ _ _ _) (Sk.refl s) hev
  | cons p l=>
   obtain⟨i,o⟩:=p
   have hfo:Fr E s γ β o:=hf o (by simp)
   have hst:∀ T x y,o.op=.store T x y->o.dst=none:=fun T x y e=>by
    have:=List.all_eq_true.1 hops o (hmem (i,o) (by simp))
    rw[e] at this
    simpa using this
   have hdo:∀ o'∈l.map Prod.snd,∀ d,o'.dst=some d->o.dst≠some d:=fun o' ho'=>hd [] (l.map Prod.snd) o o' rfl ho'
   have hd':∀ (A B:List Oper) x x',l.map Prod.snd=A++x::B->x'∈B->∀ d,x'.dst=some d->x.dst≠some d:=fun A B x x' e hx=>hd (o::A) B x x' (by simp[e]) hx
   have hmem':∀ p∈l,p.2∈ops.toList:=fun p hp=>hmem p (by simp[hp])
   have run:¬ iX s o=true->lV E s o (fun s'=>fV E N R ops an l s' k)=some r->o.wpIn (FW ro) nn P a w (wpListIn (FW ro) nn P ops Q (l.map Prod.snd)) Q:=by
    intro hlk he
    have hlk':∀ t∈s.lkS,o.dst≠some t:=fun t ht e=>hlk (by simp[iX,e];exact ht)
    obtain⟨s',h1,h2⟩:=pD hE h hfo (fun T t _ ht=>hE.flat T t ht) hlk' hst he
    obtain⟨f1,f2,f3,f4,f5,f6⟩:=h2
    refine aM f6 fun u w' ⟨S',γ',β',m1,m2,m3⟩=>?_
    exact ih R l k r an m1 (fun o' ho'=>(hf o' (by simp only[List.map_cons,List.mem_cons];exact .inr ho')).keep (hdo o' ho') f3 f5 m3) hd' hmem' h1 fun s2 S2 γ2 β2 a2 w2 n1 n2 n3 n4=>hQ s2 S2 γ2 β2 a2 w2 n1 (m2.trans n2 f1 f2) (Sk.trans ⟨f1,f2,f4⟩ n3) n4
   obtain⟨w1,w2,w3⟩:=sM (ops:=ops) (o:=o) h
   cases hg:o.guard with
   | some jw=>
    obtain⟨j,want⟩:=jw
    simp only[fV,hg] at hev
    split at hev<;>first|(cases hev;done)|skip
    rename_i g hgd
    split at hev<;>first|(cases hev;done)|skip
    rename_i hlk
    have hlk':∀ t∈s.lkS,o.dst≠some t:=fun t ht e=>hlk (by simp[iX,e];exact ht)
    have p:=St.put_fields s o.dst .gone
    have alt:(Region.wanted o (yielded ops a.tmps)=true/\(lV E s o fun s'=>fV E N R ops an l s' k)=some r)\/(Region.wanted o (yielded ops a.tmps)=false/\fV E N R ops an l (s.put o.dst .gone) k=some r):=by
     by_cases hgo:s.tm g=.gone
     ·rw[hgo,eN] at hev
      exact .inr ⟨w3 j want g hg hgd hgo,hev⟩
     rw[fB hgo] at hev
     obtain⟨c,h1,h2⟩:=bind_some_inv hev
     replace h2:=og (A:=fun s=>lV E s o fun s'=>fV E N R ops an l s' k) (B:=fun s=>fV E N R ops an l (s.put o.dst .gone) k) h1 h2
     have hw:=w2 j want g c hg hgd h1
     split at h2
     ·rename_i hc;exact .inl ⟨by rw[hw];exact hc,h2⟩
     ·rename_i hc;exact .inr ⟨by rw[hw];simpa using hc,h2⟩
    rcases alt with⟨hw,h2⟩|⟨hw,h2⟩
    ·simp only[List.map_cons,wpListIn,hw,if_true]
     exact run hlk h2
    ·simp only[List.map_cons,wpListIn,hw,Bool.false_eq_true,if_false]
     refine⟨fun _ _=>trivial,?_⟩
     exact ih R l k r an (h.put (v:=.gone) (val:=undef) (by simp[AR]) o.dst) (fun o' ho'=>(hf o' (by simp only[List.map_cons,List.mem_cons];exact .inr ho')).keep (hdo o' ho') p.2.1 (fun id _ _=>by rw[p.1]) fun id _=>⟨rfl,rfl⟩) hd' hmem' h2 fun s2 S2 γ2 β2 a2 w2 n1 n2 n3 n4=>hQ s2 S2 γ2 β2 a2 w2 n1 (Fm.trans (s1:=s.put o.dst .gone) ⟨fun _ _ hb=>hb,fun _ _ _=>rfl,fun t ht=>bE (hlk' t ht),fun _ _ _ hb=>⟨hb,rfl⟩,Nat.le_refl _,fun _ _ hb=>hb⟩ n2 p.2.2.2.2.1 p.2.2.2.2.2.1) ((Sm.put s o.dst .gone).sk.trans n3) n4
   | none=>
    by_cases hgu:gv i l=true
    ·obtain⟨seg,jj,pk,l'',s5,s3,e1,q1,q2,q3,q4,q5,q6⟩:=Em hg hgu hev
     subst e1
     have el:((i,o)::(seg++(jj,pk)::l'')).map Prod.snd=(o::(seg.map Prod.snd++[pk]))++l''.map Prod.snd:=by simp
     rw[el] at hf hd ⊢
     refine uB hE _ _ h hf hd q4 fun S2 γ2 β2 a2 w2 n1 n2 n3 n4=>?_
     refine ih R l'' k r an (n1.wk q5) (fun o' ho'=>?_) (fun A B x x' e hx=>hd ((o::(seg.map Prod.snd++[pk]))++A) B x x' (by rw[e];simp) hx) (fun p hp=>hmem p (by simp[hp])) q6 fun s2 S3 γ3 β3 a3 w3 m1 m2 m3 m4=>hQ s2 S3 γ3 β3 a3 w3 m1 (n2.trans m2 (q5.lkS.trans n3.lkS) (q5.lkO.trans n3.lkO)) ((n3.trans (Sm.wk q5)).sk.trans m3) m4
     have:=n4 o' ho'
     intro hc d hd2
     obtain⟨r1,r2,r3,r4⟩:=this hc d hd2
     rw[q5.base_eq,q5.ob]
     exact⟨r1,r2,r3,r4⟩
    ·have hgu':gv i l=false:=by simpa using hgu
     simp only[fV,hg,hgu',Bool.false_eq_true,if_false] at hev
     split at hev
     ·
      split at hev<;>first|(cases hev;done)|skip
      rename_i hcr
      simp only[Bool.or_eq_true,Bool.not_eq_true',not_or,Bool.not_eq_false] at hcr
      obtain⟨hlk,hcr⟩:=hcr
      split at hev<;>first|(cases hev;done)|skip
      rename_i c hop
      simp only[List.map_cons,wpListIn,w1 hg,if_true]
      have hlk':∀ t∈s.lkS,o.dst≠some t:=fun t ht e=>hlk (by simp[iX,e];exact ht)
      refine(aM (F9 (an:=an) (K:=fun s1=>fV E N R ops an.snd l s1 k) hE h hop hlk' hev) fun u w' ⟨s',S',γ',β',m0,m1,m2,m3⟩=>?_)
      have frn:Dd E s' γ' β' (l.map Prod.snd):=fun o' ho'=>by
       obtain⟨p,hp,rfl⟩:=List.mem_map.1 ho'
       have:=List.all_eq_true.1 hcr p hp
       exact ue (by simpa using this)
      exact ih R l k r an.snd m1 frn hd' hmem' m0 fun s2 S2 γ2 β2 a2 w2 n1 n2 n3 n4=>hQ s2 S2 γ2 β2 a2 w2 n1 (m2.trans n2 m3.lkS m3.lkO) (m3.trans n3) n4
     unfold yn at hev
     split at hev<;>first|(cases hev;done)|skip
     rename_i hlk
     simp only[List.map_cons,wpListIn,w1 hg,if_true]
     exact run hlk hev
end
end Go.Proofs.YtjjjkojfijpeeaaGreat.Sy
end
section
namespace Go.Proofs.YtjjjkojfijpeeaaGreat.Sy
open Go
theorem kA{s:St}{d:Option Nat}{v:AV}{x:Operand}(h:∀ t,d=some t->x≠.tmp t):(s.put d v).opA x=s.opA x:=by
 cases x with
 | tmp t=>
  cases d with
  | none=>rfl
  | some d=>
   have hne:t≠d:=fun e=>h d rfl (by rw[e])
   simp only[St.opA,St.put]
   split
   ·simp[hne]
   ·rfl
 | const v=>rfl
 | global g=>rfl
 | func f=>rfl
section
variable{E:Env}{s s':St}
theorem jq(hob:s'.ob=s.ob)(ty:Nat->Option Ty):∀ (l:List (Nat×Operand)),(∀ p∈l,s'.opA p.2=s.opA p.2)->partsD s'.ob s' ty l=partsD s.ob s ty l
 | [],_=>rfl
 | (i,x)::l,h=>by
  have ih:=jq hob ty l (fun p hp=>h p (by simp[hp]))
  have hx:=h (i,x) (by simp)
  simp only at hx
  simp only[partsD,hx,ih]
  rw[hob]
theorem mo(ts:List Ty):∀ (l:List (Nat×Operand)),(∀ p∈l,s'.opA p.2=s.opA p.2)->l.all (eV s' ts)=l.all (eV s ts)
 | [],_=>rfl
 | p::l,h=>by
  simp only[List.all_cons,mo ts l (fun q hq=>h q (by simp[hq])),eV,h p (by simp)]
theorem xm:∀ (l:List (Nat×Operand)),(∀ p∈l,s'.opA p.2=s.opA p.2)->(l.map fun p=>(p.1,s'.opA p.2))=l.map fun p=>(p.1,s.opA p.2):=fun l h=>
 List.map_congr_left fun p hp=>by rw[h p hp]
theorem jM{o:Oper}(hob:s'.ob=s.ob)(hf:s'.fresh=s.fresh)(h:∀ x∈o.op.operands,s'.opA x=s.opA x):qv E s' o some=qv E s o some:=by
 have hb:s'.base=s.base:=by simp only[St.base,hf]
 obtain⟨dst,op,ty,pos,after,guard⟩:=o
 have parts:∀ ps:Array (Nat×Operand),(∀ x∈(ps.toList.map Prod.snd).toArray,s'.opA x=s.opA x)->∀ p∈ps.toList,s'.opA p.2=s.opA p.2:=fun ps hp p hm=>hp p.2 (by rw[List.mem_toArray];exact List.mem_map_of_mem hm)
 cases op
 case move x=>simp only[qv,h x (by simp[Op.operands])]
 case assign x=>simp only[qv,h x (by simp[Op.operands])]
 case pick c x y=>simp only[qv,h c (by simp[Op.operands]),h x (by simp[Op.operands]),h y (by simp[Op.operands])]
 case alloc T=>simp only[qv,hb]
 case build T ps=>
  have hp:=parts ps h
  simp only[qv,jq hob _ _ hp,mo _ _ hp,xm _ hp]
 case buildSlice T n ps=>
  have hp:=parts ps h
  simp only[qv,jq hob _ _ hp,hb]
 case load T x=>simp only[qv,h x (by simp[Op.operands]),hob]
 case lookup T x i c=>simp only[qv,h x (by simp[Op.operands]),h i (by simp[Op.operands]),hob]
 case nilCheck x=>simp only[qv,h x (by simp[Op.operands])]
 case binOp op T x y T'=>simp only[qv,h x (by simp[Op.operands]),h y (by simp[Op.operands])]
 case unOp op T x=>simp only[qv,h x (by simp[Op.operands])]
 case convert U T x=>simp only[qv,h x (by simp[Op.operands])]
 case makeFunc fn x y=>
  have hy:∀ z∈y.toList,s'.opA z=s.opA z:=fun z hz=>h z (by simp only[Op.operands,Array.mem_append];exact .inr (by simpa using hz))
  have e1:(y.toList.all fun z=>kT (s'.opA z))=y.toList.all fun z=>kT (s.opA z):=by
   rw[Bool.eq_iff_iff,List.all_eq_true,List.all_eq_true]
   exact⟨fun hh z hz=>by rw[<-hy z hz];exact hh z hz,fun hh z hz=>by rw[hy z hz];exact hh z hz⟩
  have e2:y.toList.map s'.opA=y.toList.map s.opA:=List.map_congr_left hy
  simp only[qv,e1,e2]
 case slice T x lo hi mx=>
  have e0:=h x (by simp[Op.operands])
  cases mx with
  | some m=>simp only[qv]
  | none=>
   cases lo with
   | none=>
    cases hi with
    | none=>simp only[qv,e0,hob]
    | some j=>simp only[qv,e0,hob,h j (by simp[Op.operands])]
   | some i=>
    cases hi with
    | none=>simp only[qv,e0,hob,h i (by simp[Op.operands])]
    | some j=>simp only[qv,e0,hob,h i (by simp[Op.operands]),h j (by simp[Op.operands])]
 case sliceToArrayPointer T x=>simp only[qv,h x (by simp[Op.operands])]
 case fieldAddr T x f=>simp only[qv,h x (by simp[Op.operands])]
 case field T x f=>simp only[qv,h x (by simp[Op.operands])]
 case indexAddr T x i=>simp only[qv,h x (by simp[Op.operands]),h i (by simp[Op.operands]),hob]
 case index T x i=>simp only[qv,h x (by simp[Op.operands]),h i (by simp[Op.operands])]
 case extract x i=>simp only[qv,h x (by simp[Op.operands])]
 case call c=>
  obtain⟨callee,args,argTypes⟩:=c
  have ha:∀ z∈args.toList,s'.opA z=s.opA z:=fun z hz=>h z (by simp only[Op.operands,Call.operands,Array.mem_append];exact .inr (by simpa using hz))
  have e2:args.toList.map s'.opA=args.toList.map s.opA:=List.map_congr_left ha
  cases callee with
  | invoke r m=>rfl
  | value f=>cases f<;>first|rfl|simp only[qv,e2,hob]
  | builtin b=>
   cases b<;>first|rfl|skip
   case len=>
    simp only[qv]
    cases hT:argTypes[0]? with
    | none=>rfl
    | some T=>
     cases hx:args[0]? with
     | none=>rfl
     | some x=>
      have:=ha x (Array.mem_toList_iff.2 (Array.mem_of_getElem? hx))
      simp only[Option.bind_some,hob]
      cases E.L T with
      | none=>rfl
      | some t=>cases t<;>simp only[Option.bind_some,this]
   case min=>
    simp only[qv]
    split
    ·rename_i x y he
     rw[ha x (by rw[he];simp),ha y (by rw[he];simp)]
    ·rfl
   case max=>
    simp only[qv]
    split
    ·rename_i x y he
     rw[ha x (by rw[he];simp),ha y (by rw[he];simp)]
    ·rfl
 all_goals rfl
theorem nH{s:St}{d:Option Nat}{v:AV}{t:Nat}(h:d≠some t):(s.put d v).tm t=s.tm t:=by
 have:=kA (s:=s) (d:=d) (v:=v) (x:=.tmp t) (fun u hu e=>h (by cases e;exact hu))
 exact this
theorem zz{ops:Array Oper}{o:Oper}{d:Option Nat}{v:AV}(h:∀ t,d=some t->t ∉ o.looksAt ops):val E ops (s.put d v) o=val E ops s o:=by
 obtain⟨p1,p2,p3,p4,p5,p6,p7⟩:=St.put_fields s d v
 have e1:iX (s.put d v) o=iX s o:=by simp only[iX,p5]
 have e2:qv E (s.put d v) o some=qv E s o some:=jM p1 p2 fun x hx=>kA fun t ht e=>h t ht (by
  subst e
  exact List.mem_append_left _ (List.mem_filterMap.2 ⟨.tmp t,by simpa using hx,rfl⟩))
 unfold val
 rw[e1,e2]
 cases hg:o.guard with
 | none=>rfl
 | some p=>
  obtain⟨j,want⟩:=p
  simp only
  cases hgd:(ops[j]?).bind (·.dst) with
  | none=>rfl
  | some g=>
   have e3:(s.put d v).tm g=s.tm g:=nH fun e=>h g e (by
    unfold Oper.looksAt
    rw[hg]
    exact List.mem_append_right _ (by simp[hgd]))
   simp only[Option.bind_some,e3]
theorem vP{s:St}{x y:Option Nat}(v u:AV)(h:∀ d,x=some d->y≠some d):(s.put x v).put y u=(s.put y u).put x v:=by
 cases x with
 | none=>rfl
 | some d=>
  cases y with
  | none=>rfl
  | some e=>
   have hne:d≠e:=fun he=>h d rfl (he ▸ rfl)
   by_cases h1:d<s.nt
   ·by_cases h2:e<s.nt
    ·simp only[St.put,h1,h2,if_true]
     congr 1
     funext i
     by_cases i1:i=d
     ·subst i1;simp[hne]
     ·by_cases i2:i=e
      ·subst i2;simp[i1]
      ·simp[i1,i2]
    ·simp only[St.put,h1,h2,if_true,if_false]
   ·by_cases h2:e<s.nt<;>simp only[St.put,h1,h2,if_true,if_false]
end
end Go.Proofs.YtjjjkojfijpeeaaGreat.Sy
end
section
namespace Go.Proofs.YtjjjkojfijpeeaaGreat.Sy
open Go
variable{ro:Option Nat}{nn:Nat}
section
variable{E:Env}{ops:Array Oper}{md:Region.Mode}
def wa(E:Env)(ops:Array Oper)(i:Nat)(K:St->Prop)(s:St):Prop:=
 match ops[i]? with
 | none=>K s
 | some o=>∃ v,val E ops s o=some v/\K (s.put o.dst v)
def Cz(E:Env)(md:Region.Mode)(ops:Array Oper)(n:Nat)(L:Array Bool->St->Prop):Nat->Array Bool->St->Prop
 | 0,listed,s=>L listed s
 | f+1,listed,s=>Region.ready md ops listed≠[]/\∀ i∈Region.ready md ops listed,i<n/\wa E ops i (Cz E md ops n L f (listed.setIfInBounds i true)) s
def pJ(md:Region.Mode)(ops:Array Oper)(n:Nat):Prop:=∀ listed i,HeadInv md ops n listed->i<n->listed.getD i true=false->∀ t,n<=t->t ∉ Region.ready md ops listed
theorem ya{n i:Nat}{oi:Oper}{v:AV}{L:Array Bool->St->Prop}(hi:ops[i]?=some oi)(hW:pJ md ops n)(hin:i<n)
  (hdone:∀ listed s,L listed s->∀ j∈Region.ready md ops listed,n<=j) :
  ∀ (f:Nat) (listed:Array Bool) (s:St),HeadInv md ops n listed ->
   (∀ j oj,ops[j]?=some oj->j≠i->listed.getD j true=false->(∀ e∈oj.after,Region.binds md e=true->e.on≠i)->oi.apart ops oj=true) ->
   i∈Region.ready md ops listed->val E ops s oi=some v ->
   Cz E md ops n L f (listed.setIfInBounds i true) (s.put oi.dst v)->Cz E md ops n L (f+1) listed s:=by
 intro f
 induction f with
 | zero=>
  intro listed s inv _ hr hy H
  have hun:=(mem_ready.1 hr).1
  refine⟨fun h=>(by rw[h] at hr;cases hr),fun j hj=>?_⟩
  have hjn:j<n:=by
   rcases Nat.lt_or_ge j n with h|h
   ·exact h
   ·exact absurd hj (hW _ _ inv hin hun j h)
  refine⟨hjn,?_⟩
  by_cases hji:j=i
  ·subst hji;unfold wa;rw[hi];exact⟨v,hy,H⟩
  ·have:=hdone _ _ H j (ready_mono hj hji)
   omega
 | succ f ih=>
  intro listed s inv hfree hr hy H
  have hun:=(mem_ready.1 hr).1
  refine⟨fun h=>(by rw[h] at hr;cases hr),fun j hj=>?_⟩
  have hjn:j<n:=by
   rcases Nat.lt_or_ge j n with h|h
   ·exact h
   ·exact absurd hj (hW _ _ inv hin hun j h)
  refine⟨hjn,?_⟩
  by_cases hji:j=i
  ·subst hji;unfold wa;rw[hi];exact⟨v,hy,H⟩
  ·have h1:=(H.2 j (ready_mono hj hji)).2
   obtain⟨hjun,oj,hoj,hall⟩:=mem_ready.1 hj
   have hnot:∀ e∈oj.after,Region.binds md e=true->e.on≠i:=fun e he hb heq=>by
    have h1:=hall e he hb
    rw[heq,getD_both hun] at h1
    cases h1
   obtain⟨a1,a2,a3⟩:=Oper.apart_spec (hfree j oj hoj hji hjun hnot)
   unfold wa at h1 ⊢
   rw[hoj] at h1 ⊢
   obtain⟨u,k1,k2⟩:=h1
   rw[zz a1] at k1
   refine⟨u,k1,ih (listed.setIfInBounds j true) (s.put oj.dst u) (inv.set hj hjn) (fun k ok hk hki hun hno=>?_) (ready_mono hr (Ne.symm hji)) ?_ ?_⟩
   ·refine hfree k ok hk hki ?_ hno
    by_cases hjk:j=k
    ·subst hjk;exact hjun
    ·rw[getD_set_ne true hjk] at hun;exact hun
   ·rw[zz a3];exact hy
   ·rw[Array.setIfInBounds_comm _ _ hji,vP u v (fun d hd he=>a2 d he hd)]
    exact k2
theorem uL{n g:Nat}{Lq:St->Prop}(hW:pJ md ops n) :
  ∀ (l:List Oper) (k:Nat) (listed:Array Bool) (s s':St),(∀ j,j<l.length->l[j]?=ops[k+j]?)->k+l.length=n->HeadInv md ops n listed ->
  Region.lexHead md ops g l.length k listed=true->seqV E ops l s=some s'->Lq s' ->
  Cz E md ops n (fun listed' s'=>Region.seqB md ops g n listed'=true/\Lq s') l.length listed s
 | [],k,listed,s,s',_,hk,_,hB,h,hL=>by
  have:k=n:=by simpa using hk
  subst this
  simp only[seqV,Option.some.injEq] at h
  subst h
  exact⟨by simpa [Region.lexHead] using hB,hL⟩
 | o::l,k,listed,s,s',hl,hk,inv,hB,h,hL=>by
  have h0:ops[k]?=some o:=by simpa using(hl 0 (by simp)).symm
  simp only[List.length_cons,Region.lexHead,Bool.and_eq_true] at hB
  obtain⟨⟨hr,hf⟩,hB'⟩:=hB
  have hkn:k<n:=by simp only[List.length_cons] at hk;omega
  have hr':k∈Region.ready md ops listed:=by simpa using hr
  simp only[seqV] at h
  obtain⟨v,h1,h2⟩:=bind_some_inv h
  exact ya h0 hW hkn (fun listed' s' hL=>seqB_ready hL.1) l.length listed s inv (Region.free_spec h0 hf) hr' h1
   (uL hW l (k+1) _ _ s' (fun j hj=>by have:=hl (j+1) (by simp;omega);simpa [Nat.add_assoc,Nat.add_comm 1 j] using this) (by simp only[List.length_cons] at hk;omega) (inv.set hr' hkn) hB' h2 hL)
end
section
variable{P:Program}{E:Env}{w0:Root}{ops:Array Oper}
theorem io(hE:EnvOk P E){md:Region.Mode}{n g:Nat}{L:Array Bool->St->Prop}{Q:Exit->Act->World->Prop}{s0:St}{S0:Nat->Nat->Prop}{γ0:Nat->Option Nat}{a0:Act}{w1:World}
  (hd:∀ (i j:Nat) (oi oj:Oper),i≠j->ops[i]?=some oi->ops[j]?=some oj->∀ d,oj.dst=some d->oi.dst≠some d)
  (hL:∀ listed s S γ β a w,Rp w0 S γ β s a w->Fm s0 S0 γ0 a0 w1 S γ a w->Sm s0 s->(∀ j oj,ops[j]?=some oj->listed.getD j true=false->Fr E s γ β oj)->L listed s->wpAnyIn (FW ro) nn P md ops Q g listed a w) :
  ∀ (f:Nat) (listed:Array Bool) (s:St) (S:Nat->Nat->Prop) (γ:Nat->Option Nat) (β:Nat->Option (Nat×Nat)) (a:Act) (w:World),Rp w0 S γ β s a w->Fm s0 S0 γ0 a0 w1 S γ a w->Sm s0 s ->
   (∀ j oj,ops[j]?=some oj->listed.getD j true=false->Fr E s γ β oj)->Cz E md ops n L f listed s->wpAnyIn (FW ro) nn P md ops Q (f+g) listed a w
 | 0,listed,s,S,γ,β,a,w,h,hF,hS,hfr,hh=>by rw[Nat.zero_add];exact hL _ _ _ _ _ _ _ h hF hS hfr hh
 | f+1,listed,s,S,γ,β,a,w,h,hF,hS,hfr,hh=>by
  rw[show f+1+g=(f+g)+1 by omega]
  refine⟨fun h0=>absurd h0 hh.1,fun i hi=>?_⟩
  obtain⟨_,hst⟩:=hh.2 i hi
  have hun:=(mem_ready.1 hi).1
  unfold wa at hst
  unfold wpOpIn
  cases ho:ops[i]? with
  | none=>
   obtain⟨_,o,ho',_⟩:=mem_ready.1 hi
   rw[ho] at ho';cases ho'
  | some o=>
   rw[ho] at hst
   simp only at hst ⊢
   obtain⟨v,h1,h2⟩:=hst
   obtain⟨k1,k2⟩:=tf hE h (hfr i o ho hun) h1
   have p:=St.put_fields s o.dst v
   have frn:∀ {γ':Nat->Option Nat} {β':Nat->Option (Nat×Nat)},(∀ id,o.dst≠some (id-s.base)\/id<s.base->γ' id=γ id/\β' id=β id)->∀ j oj,ops[j]?=some oj->(listed.setIfInBounds i true).getD j true=false->Fr E (s.put o.dst v) γ' β' oj:=fun hk j oj hj hu=>by
    by_cases hij:i=j
    ·subst hij
     exfalso
     rcases Nat.lt_or_ge i listed.size with hlt|hge
     ·simp[Array.getD,hlt] at hu
     ·simp[Array.getD,hge,Nat.not_lt.2 hge] at hu
    ·rw[getD_set_ne true hij] at hu
     exact(hfr j oj hj hu).keep (fun d hdj=>hd i j o oj hij ho hj d hdj) p.2.1 (fun id _ _=>by rw[p.1]) hk
   split
   ·rename_i hw
    refine(aM (k1 hw) fun u w' ⟨S',γ',β',m1,m2,m3⟩=>?_)
    exact io hE hd hL f _ _ S' γ' β' _ _ m1 (hF.trans m2 hS.lkS hS.lkO) (hS.trans (Sm.put s o.dst v)) (frn m3) h2
   ·rename_i hw
    obtain⟨m1,m2⟩:=k2 (by simpa using hw)
    refine⟨fun _ _=>trivial,?_⟩
    exact io hE hd hL f _ _ S γ β _ _ m1 (hF.trans m2 hS.lkS hS.lkO) (hS.trans (Sm.put s o.dst v)) (frn fun id _=>⟨rfl,rfl⟩) h2
theorem qe:∀ {l:List Nat},ed l=true->∀ A B x y,l=A++x::B->y∈B->y≠x
 | [],_,A,B,x,y,e,_=>by simp at e
 | a::l,h,A,B,x,y,e,hy=>by
  simp only[ed,Bool.and_eq_true,Bool.not_eq_true'] at h
  cases A with
  | nil=>
   simp only[List.nil_append,List.cons.injEq] at e
   obtain⟨rfl,rfl⟩:=e
   intro hyx
   subst hyx
   have:l.contains y=true:=by simpa using hy
   rw[this] at h;cases h.1
  | cons a' A=>
   simp only[List.cons_append,List.cons.injEq] at e
   exact qe h.2 A B x y e.2 hy
theorem dn{l:List Oper}(h:ed (l.filterMap (·.dst))=true)(A B:List Oper)(o o':Oper)(e:l=A++o::B)(ho:o'∈B)(d:Nat)(hd:o'.dst=some d):o.dst≠some d:=by
 intro hod
 subst e
 have e2:(A++o::B).filterMap (·.dst)=A.filterMap (·.dst)++d::B.filterMap (·.dst):=by
  rw[List.filterMap_append,List.filterMap_cons]
  simp[hod]
 exact qe h _ _ d d e2 (List.mem_filterMap.2 ⟨o',ho,hd⟩) rfl
theorem jK{l:List Oper}(h:ed (l.filterMap (·.dst))=true){i j:Nat}{oi oj:Oper}(hij:i≠j)(hi:l[i]?=some oi)(hj:l[j]?=some oj)(d:Nat)(hd:oj.dst=some d):oi.dst≠some d:=by
 obtain⟨hi1,hi2⟩:=List.getElem?_eq_some_iff.1 hi
 obtain⟨hj1,hj2⟩:=List.getElem?_eq_some_iff.1 hj
 rcases Nat.lt_or_ge i j with hlt|hge
 ·refine dn h (l.take i) (l.drop (i+1)) oi oj ?_ ?_ d hd
  ·rw[<-hi2,<-List.drop_eq_getElem_cons hi1,List.take_append_drop]
  ·refine List.mem_of_getElem? (i:=j-(i+1)) ?_
   rw[List.getElem?_drop,show i+1+(j-(i+1))=j by omega]
   exact hj
 ·intro hod
  refine dn h (l.take j) (l.drop (j+1)) oj oi ?_ ?_ d hod hd
  ·rw[<-hj2,<-List.drop_eq_getElem_cons hj1,List.take_append_drop]
  ·refine List.mem_of_getElem? (i:=i-(j+1)) ?_
   rw[List.getElem?_drop,show j+1+(i-(j+1))=i by omega]
   exact hi
theorem aQ:∀ (l:List Oper) (i:Nat),(bf i l).map Prod.snd=l
 | [],_=>rfl
 | o::l,i=>by simp only[bf,List.map_cons,aQ l (i+1)]
theorem gD{l:List Oper}{i:Nat}{p:Nat×Oper}(h:p∈bf i l):p.2∈l:=by
 have:p.2∈(bf i l).map Prod.snd:=List.mem_map_of_mem h
 rwa [aQ] at this
theorem iu:∀ (l:List Oper) (i:Nat),(bf i l).length=l.length
 | [],_=>rfl
 | o::l,i=>by simp only[bf,List.length_cons,iu l (i+1)]
theorem Ae(hE:EnvOk P E){id:Nat}{dr:Bool}{n:Nat}{Q:Exit->Act->World->Prop}{S:Nat->Nat->Prop}{γ:Nat->Option Nat}{β:Nat->Option (Nat×Nat)}{s:St}{a:Act}{w:World}{R:Type}{k:St->Option R}{r:R}{N:Nat}
  (h:Rp w0 S γ β s a w) (hf:Dd E s γ β ops.toList) (hm:bW ops.toList=true) (hdr:(!dr||nI E ops n)=true) {an:Ann} (hev:fV E N R ops an (bf 0 ops.toList) s k=some r)
  (hQ:∀ s' S' γ' β' a' w',Rp w0 S' γ' β' s' a' w'->Fm s S γ a w S' γ' a' w'->Sk s s'->k s'=some r->Q .normal a' w'):(Code.region id ops dr).wpIn (FW ro) nn P Q a w:=by
 simp only[bW,Bool.and_eq_true] at hm
 obtain⟨⟨hm1,hm2⟩,hm3⟩:=hm
 have hstores:(ops.toList.all fun o=>match o.op with|.store ..=>o.dst.isNone|_=>true)=true:=hm3
 cases dr with
 | false=>
  refine wpIn_region_list ?_
  have:=pY (ro:=ro) (nn:=nn) (ops:=ops) hE hstores N R (bf 0 ops.toList) k r an h (by rw[aQ];exact hf) (by rw[aQ];exact fun A B o o' e ho d hd=>dn hm1 A B o o' e ho d hd) (fun p hp=>gD hp) hev hQ
  rwa [aQ] at this
 | true=>
  simp only[Bool.not_true,Bool.false_or,nI,Bool.and_eq_true] at hdr
  obtain⟨⟨⟨⟨⟨d0,d1⟩,d2⟩,d3⟩,d4⟩,d5⟩:=hdr
  have hn:n<=ops.size:=by
   simp only[Bool.or_eq_true,decide_eq_true_eq,Bool.and_eq_true] at d3
   rcases d3 with d3|d3
   ·omega
   ·omega
  have hW:pJ .any ops n:=by
   intro listed i inv hin hun t ht hr
   simp only[Bool.or_eq_true,decide_eq_true_eq,Bool.and_eq_true] at d3
   rcases d3 with d3|⟨⟨d3,d6⟩,d7⟩
   ·obtain⟨_,o,ho,_⟩:=mem_ready.1 hr
    have:=(Array.getElem?_eq_some_iff.1 ho).1
    omega
   ·exact tail_waits d6 d7 d3 inv _ i rfl hin hun t ht hr
  obtain⟨s',s'',N',q1,q2,q3⟩:=wO N R (bf 0 ops.toList) s k r n an (by rw[iu,Array.length_toList];exact hn) (fun p hp=>by
    have hp':p.2∈ops.toList.take n:=by
     have:p.2∈((bf 0 ops.toList).take n).map Prod.snd:=List.mem_map_of_mem hp
     rwa [List.map_take,aQ] at this
    exact⟨List.all_eq_true.1 d4 _ hp',by simpa using List.all_eq_true.1 d0 _ hp'⟩) (fun p hp=>by
    have hp':p.2∈ops.toList.drop n:=by
     have:p.2∈((bf 0 ops.toList).drop n).map Prod.snd:=List.mem_map_of_mem hp
     rwa [List.map_drop,aQ] at this
    have:=List.all_eq_true.1 d5 _ hp'
    simp only[Bool.and_eq_true] at this
    refine⟨by simpa using this.1,fun c x y e=>?_⟩
    have h2:=this.2
    rw[e] at h2
    cases h2) hev
  rw[List.map_take,aQ] at q1
  refine wpIn_region_any hE.mixed ?_
  have hg:∃ os d,w.drawn<=d/\({ w with drawn:=w.drawn+1 }:World)=ao w os d:=⟨[],w.drawn+1,Nat.le_succ _,by simp[ao]⟩
  obtain⟨os,d,hdr,hg⟩:=hg
  obtain⟨g1,g2⟩:=h.grow (os:=os) (d:=d) hdr (S':=S) (fun _ _ hb=>hb) (fun _ _ hb=>.inl hb)
  rw[hg]
  have hlen:(ops.toList.take n).length=n:=by simp;omega
  have inv0:HeadInv .any ops n (Array.replicate ops.size false):=
   ⟨by simp,fun j oj _ hl=>(by rw[getD_replicate_false] at hl;cases hl),fun t _ ht=>getD_in (by simpa using ht) (getD_replicate_false _ _)⟩
  have H:=uL (E:=E) (md:=.any) (g:=ops.size-n) (Lq:=fun s=>s=s') hW (ops.toList.take n) 0 (Array.replicate ops.size false) s s' (fun j hj=>by
   rw[hlen] at hj
   rw[List.getElem?_take_of_lt hj,Nat.zero_add,Array.getElem?_toList]) (by rw[hlen,Nat.zero_add]) inv0 (by rw[hlen];exact d2) q1 rfl
  have hdl:(ops.toList.drop n).length=ops.size-n:=by simp
  have:=io (ro:=ro) (nn:=nn) (Q:=Q) (g:=ops.size-n) hE (s0:=s) (S0:=S) (γ0:=γ) (a0:=a) (w1:=ao w os d) (fun i j oi oj hij hi hj d hd=>jK hm1 hij (by rw[Array.getElem?_toList];exact hi) (by rw[Array.getElem?_toList];exact hj) d hd)
   (fun listed s2 S2 γ2 β2 a2 w2 m1 m2 m3 m4 m5=>by
    obtain⟨m5,m6⟩:=m5
    subst m6
    have hseq:=fd (F:=FW ro) (n:=nn) (P:=P) (md:=.any) (ops:=ops) (Q':=Q) (ops.toList.drop n) n listed a2 w2 (fun j=>by rw[List.getElem?_drop,Array.getElem?_toList]) (by rw[hdl];exact m5) ?_
    ·rwa [hdl] at hseq
    have hunl:∀ j oj,ops[j]?=some oj->n<=j->listed.getD j true=false:=by
     intro j oj hj hnj
     have key:∀ (g k:Nat) (listed:Array Bool),Region.seqB .any ops g k listed=true->∀ j,k<=j->j<k+g->listed.getD j true=false:=by
      intro g
      induction g with
      | zero=>intro k listed _ j h1 h2;omega
      | succ g ih=>
       intro k listed hB j h1 h2
       simp only[Region.seqB,Bool.and_eq_true,decide_eq_true_eq] at hB
       by_cases hjk:j=k
       ·subst hjk
        have:j∈Region.ready .any ops listed:=by rw[hB.1];simp
        exact(mem_ready.1 this).1
       ·have:=ih (k+1) _ hB.2 j (by omega) (by omega)
        rwa [getD_set_ne true (Ne.symm hjk)] at this
     have hjlt:=(Array.getElem?_eq_some_iff.1 hj).1
     exact key _ _ _ m5 j hnj (by omega)
    have hsub:∀ o∈ops.toList.drop n,Fr E s'' γ2 β2 o:=fun o ho=>by
     obtain⟨i,hi,he⟩:=List.getElem_of_mem ho
     have hi2:ops[n+i]?=some o:=by
      have:(ops.toList.drop n)[i]?=some o:=by rw[List.getElem?_eq_getElem hi,he]
      rwa [List.getElem?_drop,Array.getElem?_toList] at this
     have:=m4 (n+i) o hi2 (hunl _ _ hi2 (by omega))
     intro hc d hd
     obtain⟨r1,r2,r3,r4⟩:=this hc d hd
     rw[q2.base_eq,q2.ob]
     exact⟨r1,r2,r3,r4⟩
    have fin:=pY (ro:=ro) (nn:=nn) (ops:=ops) hE (Q:=Q) hstores N' R ((bf 0 ops.toList).drop n) k r an (m1.wk q2) (by rw[List.map_drop,aQ];exact hsub)
     (by
      rw[List.map_drop,aQ]
      intro A B o o' e ho d hd
      exact dn hm1 (ops.toList.take n++A) B o o' (by rw[List.append_assoc,<-e,List.take_append_drop]) ho d hd)
     (fun p hp=>gD (List.mem_of_mem_drop hp)) q3 (fun s3 S3 γ3 β3 a3 w3 n1 n2 n3 n4=>by
      refine hQ s3 S3 γ3 β3 a3 w3 n1 ?_ ((m3.trans (Sm.wk q2)).sk.trans n3) n4
      have f0:Fm s S γ a w S γ a (ao w os d):=⟨fun _ _ hb=>hb,g2.cell,fun _ _=>rfl,fun id hid b hb=>⟨hb,bI (h.γn id b hb).2⟩,by simp,fun _ _ hb=>hb⟩
      exact(f0.trans m2 rfl rfl).trans n2 (q2.lkS.trans m3.lkS) (q2.lkO.trans m3.lkO))
    rwa [List.map_drop,aQ] at fin)
   (ops.toList.take n).length (Array.replicate ops.size false) s S γ β a (ao w os d) g1 (Fm.refl _ _ _ _ _) (Sm.refl s) (fun j oj hj _=>hf oj (Array.mem_toList_iff.2 (Array.mem_of_getElem? hj))) H
  rw[hlen,show n+(ops.size-n)=ops.size by omega] at this
  exact this
end
end Go.Proofs.YtjjjkojfijpeeaaGreat.Sy
end
section
namespace Go.Proofs.YtjjjkojfijpeeaaGreat.Sy
open Go
mutual
theorem tB:∀ (a a':AV),AV.same a a'=true->a=a'
 | .ptr t id p,a',h=>by
  cases a'<;>simp only[AV.same,Bool.and_eq_true,decide_eq_true_eq] at h<;>first|(cases h;done)|skip
  obtain⟨⟨h1,rfl⟩,rfl⟩:=h
  rw[Ty.eq_of_beq _ _ h1]
 | .mem t id,a',h=>by
  cases a'<;>simp only[AV.same,Bool.and_eq_true,decide_eq_true_eq] at h<;>first|(cases h;done)|skip
  obtain⟨h1,rfl⟩:=h
  rw[Ty.eq_of_beq _ _ h1]
 | .clo f l,a',h=>by
  cases a'<;>simp only[AV.same,Bool.and_eq_true,decide_eq_true_eq] at h<;>first|(cases h;done)|skip
  obtain⟨rfl,h1⟩:=h
  rw[wh _ _ h1]
 | .map kt vt id,a',h=>by
  cases a'<;>simp only[AV.same,Bool.and_eq_true,decide_eq_true_eq] at h<;>first|(cases h;done)|skip
  obtain⟨⟨h1,h2⟩,rfl⟩:=h
  rw[Ty.eq_of_beq _ _ h1,Ty.eq_of_beq _ _ h2]
 | .d ..,a',h=>by simp[AV.same] at h
 | .own ..,a',h=>by simp[AV.same] at h
 | .nils,a',h=>by simp[AV.same] at h
 | .fptr ..,a',h=>by simp[AV.same] at h
 | .st ..,a',h=>by simp[AV.same] at h
 | .undef,a',h=>by simp[AV.same] at h
theorem wh:∀ (l l':List AV),AV.sames l l'=true->l=l'
 | [],l',h=>by cases l'<;>simp[AV.sames] at h;rfl
 | a::l,l',h=>by
  cases l' with
  | nil=>simp[AV.sames] at h
  | cons a' l'=>
   simp only[AV.sames,Bool.and_eq_true] at h
   rw[tB _ _ h.1,wh _ _ h.2]
end
structure Two(n:Nat)(c c':Cx):Prop where
 w:c'.w=c.w
 S:c'.S=c.S
 γ:∀ id,id<n->c'.γ id=c.γ id
 ob:∀ id,id<n->∀ o',c'.ob id=some o'->∃ o,c.ob id=some o/\(∀ p,eS o' p=eS o p/\ce o' p=ce o p)/\(∀ t l,o=.many t l->∃ l',o'=.many t l'/\l'.length=l.length)/\∀ kt vt l,o=.mp kt vt l->∃ l',o'=.mp kt vt l'
mutual
theorem Ck{n:Nat}{c c':Cx}(h:Two n c c'):∀ (a:AV) (cs:List Value),AV.old n a=true->AC c a cs->AC c' a cs
 | .ptr t id p,cs,ho,k=>by
  simp only[AV.old,decide_eq_true_eq] at ho
  simp only[AC] at k ⊢
  obtain⟨b,off,rfl,k1,k2⟩:=k
  refine⟨b,off,rfl,by rw[h.γ id ho];exact k1,fun o' ho'=>?_⟩
  obtain⟨o,h1,h2,_⟩:=h.ob id ho o' ho'
  rw[(h2 p).1,(h2 p).2];exact k2 o h1
 | .mem t id,cs,ho,k=>by
  simp only[AV.old,decide_eq_true_eq] at ho
  simp only[AC] at k ⊢
  obtain⟨k0,b,k1,k2⟩:=k
  refine⟨k0,b,by rw[h.γ id ho];exact k1,fun o' ho'=>?_⟩
  obtain⟨o,h1,_,h3,_⟩:=h.ob id ho o' ho'
  obtain⟨l,rfl,h4⟩:=k2 o h1
  obtain⟨l',rfl,h5⟩:=h3 _ _ rfl
  exact⟨l',rfl,by rw[h5];exact h4⟩
 | .map kt vt id,cs,ho,k=>by
  simp only[AV.old,decide_eq_true_eq] at ho
  simp only[AC] at k ⊢
  obtain⟨b,e,k1,k2,k3,k4⟩:=k
  refine⟨b,e,by rw[h.γ id ho];exact k1,k2,k3,fun o' ho'=>?_⟩
  obtain⟨o,h1,_,_,h3⟩:=h.ob id ho o' ho'
  obtain⟨l,rfl⟩:=k4 o h1
  exact h3 _ _ _ rfl
 | .clo f l,cs,ho,k=>by
  simp only[AV.old] at ho
  simp only[AC] at k ⊢
  obtain⟨caps,rfl,k1⟩:=k
  exact⟨caps,rfl,yZ h l caps ho k1⟩
 | .d ..,_,ho,_=>by simp[AV.old] at ho
 | .own ..,_,ho,_=>by simp[AV.old] at ho
 | .nils,_,ho,_=>by simp[AV.old] at ho
 | .fptr ..,_,ho,_=>by simp[AV.old] at ho
 | .st ..,_,ho,_=>by simp[AV.old] at ho
 | .undef,_,ho,_=>by simp[AV.old] at ho
theorem yZ{n:Nat}{c c':Cx}(h:Two n c c'):∀ (l:List AV) (cs:List Value),AV.olds n l=true->ra c l cs->ra c' l cs
 | [],cs,_,k=>by simpa only[ra] using k
 | a::l,cs,ho,k=>by
  simp only[AV.olds,Bool.and_eq_true] at ho
  simp only[ra] at k ⊢
  obtain⟨v,c2,rfl,k1,k2⟩:=k
  exact⟨v,c2,rfl,Ck h a _ ho.1 k1,yZ h l c2 ho.2 k2⟩
end
mutual
def Sh.tkp:Sh->AV->Nat->List (Nat×Nat)
 | .ow _,.own _ v _,j=>[(j,v)]
 | .st _ l,.st _ l',j=>Sh.tkps l l' j
 | _,_,_=>[]
def Sh.tkps:List Sh->List AV->Nat->List (Nat×Nat)
 | h::l,a::l',j=>Sh.tkp h a j++Sh.tkps l l' (j+h.cnt)
 | _,_,_=>[]
end
mutual
theorem tN:∀ (h:Sh) (a:AV) (j:Nat),(Sh.tkp h a j).map Prod.snd=Sh.toks h a
 | .ow _,a,j=>by cases a<;>rfl
 | .st _ l,a,j=>by cases a<;>first|rfl|exact vS l _ j
 | .dv _,a,j=>by cases a<;>rfl
 | .same _,a,j=>by cases a<;>rfl
theorem vS:∀ (l:List Sh) (l':List AV) (j:Nat),(Sh.tkps l l' j).map Prod.snd=Sh.tokss l l'
 | [],l',j=>by cases l'<;>rfl
 | h::l,[],j=>rfl
 | h::l,a::l',j=>by
  simp only[Sh.tkps,Sh.tokss,List.map_append,tN h a j,vS l l' _]
end
def Pl(l:List (Nat×Nat))(i j:Nat):Prop:=(∀ p∈l,i<=p.1/\p.1<j)/\∀ p∈l,∀ q∈l,p.1=q.1->p=q
theorem Pl.nil(i j:Nat):Pl [] i j:=⟨fun p h=>(by cases h),fun p h=>(by cases h)⟩
theorem Pl.append{l l':List (Nat×Nat)}{i j k:Nat}(h:Pl l i j)(h':Pl l' j k)(h1:i<=j)(h2:j<=k):Pl (l++l') i k:=by
 refine⟨fun p hp=>?_,fun p hp q hq e=>?_⟩
 ·rcases List.mem_append.1 hp with hp|hp
  ·have:=h.1 p hp;omega
  ·have:=h'.1 p hp;omega
 ·rcases List.mem_append.1 hp with hp|hp<;>rcases List.mem_append.1 hq with hq|hq
  ·exact h.2 p hp q hq e
  ·have:=h.1 p hp;have:=h'.1 q hq;omega
  ·have:=h'.1 p hp;have:=h.1 q hq;omega
  ·exact h'.2 p hp q hq e
mutual
theorem yd:∀ (h:Sh) (a:AV) (j:Nat),Pl (Sh.tkp h a j) j (j+h.cnt)
 | .ow _,a,j=>by
  cases a<;>first
   | exact Pl.nil _ _
   | exact⟨fun p hp=>by simp[Sh.tkp] at hp;subst hp;simp[Sh.cnt],fun p hp q hq _=>by simp[Sh.tkp] at hp hq;rw[hp,hq]⟩
 | .st _ l,a,j=>by
  cases a<;>first
   | exact Pl.nil _ _
   | (simp only[Sh.tkp,Sh.cnt];exact yS l _ j)
 | .dv _,a,j=>by cases a<;>exact Pl.nil _ _
 | .same _,a,j=>by cases a<;>exact Pl.nil _ _
theorem yS:∀ (l:List Sh) (l':List AV) (j:Nat),Pl (Sh.tkps l l' j) j (j+Sh.cnts l)
 | [],l',j=>by cases l'<;>exact Pl.nil _ _
 | h::l,[],j=>Pl.nil _ _
 | h::l,a::l',j=>by
  simp only[Sh.tkps,Sh.cnts]
  rw[show j+(h.cnt+Sh.cnts l)=j+h.cnt+Sh.cnts l by omega]
  exact(yd h a j).append (yS l l' _) (by omega) (by omega)
end
mutual
theorem ks{ob:Nat->Option Ob}{dead:List Nat}:∀ (h:Sh) (a:AV) (x:List D),Sh.dec ob dead h a=some x->x.length=h.cnt
 | .dv t,a,x,e=>by
  have e':((AV.toD ob t a).bind fun x=>some [x])=some x:=by cases a<;>exact e
  obtain⟨y,_,h2⟩:=bind_some_inv e'
  simp only[Option.some.injEq] at h2
  subst h2;rfl
 | .ow t,a,x,e=>by
  cases a<;>simp only[Sh.dec] at e<;>first|(cases e;done)|skip
  ·split at e<;>first|(cases e;done)|skip
   simp only[Option.some.injEq] at e;subst e;rfl
  ·simp only[Option.some.injEq] at e;subst e;rfl
 | .same b,a,x,e=>by
  have e':(if AV.same b a then some ([]:List D) else none)=some x:=by cases a<;>exact e
  split at e'<;>first|(cases e';done)|skip
  simp only[Option.some.injEq] at e';subst e';rfl
 | .st ts l,a,x,e=>by
  cases a<;>simp only[Sh.dec] at e<;>first|(cases e;done)|skip
  split at e<;>first|(cases e;done)|skip
  exact vZ l _ x e
theorem vZ{ob:Nat->Option Ob}{dead:List Nat}:∀ (l:List Sh) (l':List AV) (x:List D),Sh.decs ob dead l l'=some x->x.length=Sh.cnts l
 | [],l',x,e=>by
  cases l'<;>simp only[Sh.decs] at e<;>first|(cases e;done)|skip
  simp only[Option.some.injEq] at e;subst e;rfl
 | h::l,[],x,e=>by simp[Sh.decs] at e
 | h::l,a::l',x,e=>by
  simp only[Sh.decs] at e
  obtain⟨y,h1,e⟩:=bind_some_inv e
  obtain⟨z,h2,e⟩:=bind_some_inv e
  simp only[Option.some.injEq] at e
  subst e
  simp only[List.length_append,ks h a y h1,vZ l l' z h2,Sh.cnts]
end
mutual
theorem nG{ob:Nat->Option Ob}{dead:List Nat}:∀ (h:Sh) (a:AV) (x:List D),Sh.dec ob dead h a=some x->∀ v∈Sh.toks h a,v ∉ dead
 | .dv t,a,x,e=>by intro v hv;cases a<;>simp[Sh.toks] at hv
 | .ow t,a,x,e=>by
  intro v hv
  cases a<;>simp only[Sh.toks,List.not_mem_nil,List.mem_singleton] at hv
  subst hv
  simp only[Sh.dec] at e
  split at e<;>first|(cases e;done)|skip
  rename_i h
  simp only[Bool.and_eq_true,Bool.not_eq_true'] at h
  simpa using h.2
 | .same b,a,x,e=>by intro v hv;cases a<;>simp[Sh.toks] at hv
 | .st ts l,a,x,e=>by
  intro v hv
  cases a<;>simp only[Sh.toks,List.not_mem_nil] at hv
  simp only[Sh.dec] at e
  split at e<;>first|(cases e;done)|skip
  exact qE l _ x e v hv
theorem qE{ob:Nat->Option Ob}{dead:List Nat}:∀ (l:List Sh) (l':List AV) (x:List D),Sh.decs ob dead l l'=some x->∀ v∈Sh.tokss l l',v ∉ dead
 | [],l',x,e=>by intro v hv;cases l'<;>simp[Sh.tokss] at hv
 | h::l,[],x,e=>by simp[Sh.decs] at e
 | h::l,a::l',x,e=>by
  intro v hv
  simp only[Sh.decs] at e
  obtain⟨y,h1,e⟩:=bind_some_inv e
  obtain⟨z,h2,e⟩:=bind_some_inv e
  simp only[Sh.tokss] at hv
  rcases List.mem_append.1 hv with hv|hv
  ·exact nG h a y h1 v hv
  ·exact qE l l' z h2 v hv
end
mutual
theorem nB(b:Nat):∀ (h:Sh) (j:Nat) (s:List D),(Sh.mk b h j s).2=j+h.cnt
 | .dv t,j,s=>rfl
 | .ow t,j,s=>rfl
 | .same a,j,s=>rfl
 | .st ts l,j,s=>by simp only[Sh.mk,Sh.cnt];exact yB b l j s
theorem yB(b:Nat):∀ (l:List Sh) (j:Nat) (s:List D),(Sh.mks b l j s).2=j+Sh.cnts l
 | [],j,s=>rfl
 | h::l,j,s=>by simp only[Sh.mks,Sh.cnts,nB b h j s,yB b l,Nat.add_assoc]
end
mutual
theorem yF(b:Nat):∀ (h:Sh) (t:Ty) (j:Nat) (s:List D),Sh.fits t h=true->AV.fits t (Sh.mk b h j s).1=true
 | .dv t',t,j,s,h=>by
  have h':t.beq t'=true:=by cases t<;>exact h
  rw[Ty.eq_of_beq _ _ h']
  exact bp _ _
 | .ow e,t,j,s,h=>by
  have h':t.beq (.sl e)=true:=by cases t<;>exact h
  rw[Ty.eq_of_beq _ _ h']
  simp only[Sh.mk,AV.fits]
  exact Ty.beq_refl' _
 | .same a,t,j,s,h=>by cases t<;>simp[Sh.fits] at h
 | .st ts l,t,j,s,h=>by
  have h':(t.beq (.st ts)&&Sh.fitss ts l)=true:=by cases t<;>exact h
  simp only[Bool.and_eq_true] at h'
  rw[Ty.eq_of_beq _ _ h'.1]
  simp only[Sh.mk,AV.fits,Bool.and_eq_true]
  have:=Ty.beq_refl' (.st ts)
  simp only[Ty.beq] at this
  exact⟨this,qZ b l ts j s h'.2⟩
theorem qZ(b:Nat):∀ (l:List Sh) (ts:List Ty) (j:Nat) (s:List D),Sh.fitss ts l=true->AV.fitss ts (Sh.mks b l j s).1=true
 | [],ts,j,s,h=>by cases ts<;>simp only[Sh.fitss] at h<;>first|(cases h;done)|rfl
 | h::l,[],j,s,e=>by simp[Sh.fitss] at e
 | h::l,t::ts,j,s,e=>by
  simp only[Sh.fitss,Bool.and_eq_true] at e
  simp only[Sh.mks,AV.fitss,Bool.and_eq_true]
  exact⟨yF b h t j s e.1,qZ b l ts _ s e.2⟩
end
def yw(s x:List D)(j:Nat):Prop:=∀ i,i<x.length->s[j+i]?=x[i]?
theorem yw.left{s x y:List D}{j:Nat}(h:yw s (x++y) j):yw s x j:=fun i hi=>by
 rw[h i (by simp;omega),List.getElem?_append_left hi]
theorem yw.right{s x y:List D}{j:Nat}(h:yw s (x++y) j):yw s y (j+x.length):=fun i hi=>by
 rw[Nat.add_assoc,h (x.length+i) (by simp;omega),List.getElem?_append_right (by omega),Nat.add_sub_cancel_left]
mutual
theorem wm{n b:Nat}{c c':Cx}(T:Two n c c'):∀ (h:Sh) (a:AV) (j:Nat) (s x:List D) (cs:List Value),Sh.dec c.ob c.dead h a=some x->yw s x j->Sh.fine n h=true ->
  (∀ p∈Sh.tkp h a j,c'.β (b+p.1)=c.β p.2)->AC c a cs->AC c' (Sh.mk b h j s).1 cs
 | .dv t,a,j,s,x,cs,e,hs,hf,hb,k=>by
  have e':((AV.toD c.ob t a).bind fun x=>some [x])=some x:=by cases a<;>exact e
  obtain⟨y,h1,h2⟩:=bind_some_inv e'
  simp only[Option.some.injEq] at h2
  subst h2
  obtain⟨k1,k2,_⟩:=qQ _ _ _ _ h1 k
  have hj:s[j]?=some y:=by have:=hs 0 (by simp);simpa using this
  simp only[Sh.mk,AC,List.getD,hj,Option.getD_some,T.w,T.S]
  exact⟨k1,hf,k2⟩
 | .ow t,a,j,s,x,cs,e,hs,hf,hb,k=>by
  cases a<;>simp only[Sh.dec] at e<;>first|(cases e;done)|skip
  ·rename_i t' v l
   split at e<;>first|(cases e;done)|skip
   rename_i hd
   simp only[Bool.and_eq_true,Bool.not_eq_true'] at hd
   simp only[Option.some.injEq] at e;subst e
   have hj:s[j]?=some (.sl l):=by have:=hs 0 (by simp);simpa using this
   have he:=Ty.eq_of_beq _ _ hd.1
   subst he
   simp only[AC] at k
   obtain⟨k0,k1,ad,cap,rfl,k2,k3⟩:=k
   simp only[Sh.mk,AC,List.getD,hj,Option.getD_some,D.els,T.w,T.S]
   refine⟨k0,k1,ad,cap,rfl,k2,fun _=>?_⟩
   rcases k3 (by simpa using hd.2) with h3|⟨bb,off,h3,h4,m,h5,h6⟩
   ·exact .inl h3
   ·refine .inr ⟨bb,off,h3,?_,m,by rw[T.w];exact h5,h6⟩
    have:=hb (j,v) (by simp[Sh.tkp])
    rw[<-h4];exact this
  ·simp only[Option.some.injEq] at e;subst e
   have hj:s[j]?=some (.sl []):=by have:=hs 0 (by simp);simpa using this
   simp only[AC] at k
   subst k
   simp only[Sh.mk,AC,List.getD,hj,Option.getD_some,D.els]
   refine⟨hf,fun x hx=>(by cases hx),none,0,rfl,?_,fun _=>.inl ⟨rfl,rfl⟩⟩
   exact CR.of_elems (b:=0) (off:=0) (.inl rfl) (Nat.zero_le _) ⟨[],cw.nil,fun i c hc=>by simp at hc⟩
 | .same a',a,j,s,x,cs,e,hs,hf,hb,k=>by
  have e':(if AV.same a' a then some ([]:List D) else none)=some x:=by cases a<;>exact e
  split at e'<;>first|(cases e';done)|skip
  rename_i hsm
  have:=tB _ _ hsm
  subst this
  simp only[Sh.fine] at hf
  exact Ck T _ _ hf k
 | .st ts l,a,j,s,x,cs,e,hs,hf,hb,k=>by
  cases a<;>simp only[Sh.dec] at e<;>first|(cases e;done)|skip
  rename_i ts' l'
  split at e<;>first|(cases e;done)|skip
  simp only[Sh.fine,Bool.and_eq_true] at hf
  simp only[AC] at k
  simp only[Sh.mk,AC]
  exact⟨hf.1.1,qZ b l ts j s hf.1.2,Br T l l' j s x cs e hs hf.2 hb k.2.2⟩
theorem Br{n b:Nat}{c c':Cx}(T:Two n c c'):∀ (l:List Sh) (l':List AV) (j:Nat) (s x:List D) (cs:List Value),Sh.decs c.ob c.dead l l'=some x->yw s x j->Sh.fines n l=true ->
  (∀ p∈Sh.tkps l l' j,c'.β (b+p.1)=c.β p.2)->kQ c l' cs->kQ c' (Sh.mks b l j s).1 cs
 | [],l',j,s,x,cs,e,_,_,_,k=>by
  cases l'<;>simp only[Sh.decs] at e<;>first|(cases e;done)|skip
  simpa only[Sh.mks,kQ] using k
 | h::l,[],j,s,x,cs,e,_,_,_,k=>by simp[Sh.decs] at e
 | h::l,a::l',j,s,x,cs,e,hs,hf,hb,k=>by
  simp only[Sh.decs] at e
  obtain⟨y,h1,e⟩:=bind_some_inv e
  obtain⟨z,h2,e⟩:=bind_some_inv e
  simp only[Option.some.injEq] at e
  subst e
  simp only[Sh.fines,Bool.and_eq_true] at hf
  simp only[kQ] at k
  obtain⟨c1,c2,rfl,k1,k2⟩:=k
  simp only[Sh.mks,kQ,nB]
  simp only[Sh.tkps,List.mem_append] at hb
  have hr:=hs.right
  rw[ks h a y h1] at hr
  exact⟨c1,c2,rfl,wm T h a j s y c1 h1 hs.left hf.1 (fun p hp=>hb p (.inl hp)) k1,Br T l l' _ s z c2 h2 hr hf.2 (fun p hp=>hb p (.inr hp)) k2⟩
end
theorem HF{n b:Nat}{c c':Cx}(T:Two n c c')(h:Sh)(a:AV)(j:Nat)(s x:List D)(v:Value)(e:Sh.dec c.ob c.dead h a=some x)(hs:yw s x j)(hf:Sh.fine n h=true)
  (hb:∀ p∈Sh.tkp h a j,c'.β (b+p.1)=c.β p.2) (k:AR c a v):AR c' (Sh.mk b h j s).1 v:=by
 cases h with
 | dv t=>
  have e':((AV.toD c.ob t a).bind fun x=>some [x])=some x:=by cases a<;>exact e
  obtain⟨y,h1,h2⟩:=bind_some_inv e'
  simp only[Option.some.injEq] at h2
  subst h2
  have hj:s[j]?=some y:=by have:=hs 0 (by simp);simpa using this
  obtain⟨k1,k2⟩:=lS hf k h1
  simp only[Sh.mk,List.getD,hj,Option.getD_some]
  exact dK hf k1 (by rw[T.w,T.S];exact k2)
 | ow t=>
  have key:=fun cs=>wm T (.ow t) a j s x cs e hs hf hb
  cases a<;>simp only[Sh.dec] at e<;>first|(cases e;done)|skip
  all_goals
   simp only[AR] at k
   exact⟨k.1,key _ k.2⟩
 | same a'=>
  have key:=fun cs=>wm T (.same a') a j s x cs e hs hf hb
  have e':(if AV.same a' a then some ([]:List D) else none)=some x:=by cases a<;>exact e
  split at e'<;>first|(cases e';done)|skip
  rename_i hsm
  have:=tB _ _ hsm
  subst this
  simp only[Sh.mk] at key ⊢
  cases a'<;>simp only[Sh.fine,AV.old] at hf<;>first|(cases hf;done)|skip
  all_goals
   simp only[AR] at k ⊢
   exact⟨k.1,key _ k.2⟩
 | st ts l=>
  have key:=fun cs=>wm T (.st ts l) a j s x cs e hs hf hb
  cases a<;>simp only[Sh.dec] at e<;>first|(cases e;done)|skip
  simp only[Sh.mk] at key ⊢
  simp only[AR] at k ⊢
  exact⟨k.1,key _ k.2⟩
end Go.Proofs.YtjjjkojfijpeeaaGreat.Sy
end
section
namespace Go.Proofs.YtjjjkojfijpeeaaGreat.Sy
open Go
def Fv(s:St):List (Nat×Sh)->Nat->List (Nat×Nat)
 | [],_=>[]
 | (t,h)::l,j=>Sh.tkp h (s.tm t) j++Fv s l (j+h.cnt)
def BM(h:Sh)(o:Option Ob)(j:Nat):List (Nat×Nat):=match o with|some (.one _ v)=>Sh.tkp h v j|_=>[]
def wL(s:St):List (Nat×ShO)->Nat->List (Nat×Nat)
 | [],_=>[]
 | (id,.one _ h)::l,j=>BM h (s.ob id) j++wL s l (j+h.cnt)
 | (_,.many _)::l,j=>wL s l (j+1)
 | (_,.mp ..)::l,j=>wL s l (j+1)
 | (_,.keep ..)::l,j=>wL s l j
theorem tR(s:St):∀ (l:List (Nat×Sh)) (j:Nat),(Fv s l j).map Prod.snd=Shape.toksS s l
 | [],_=>rfl
 | (t,h)::l,j=>by simp only[Fv,Shape.toksS,List.map_append,tN,tR s l]
theorem kG(s:St):∀ (l:List (Nat×ShO)) (j:Nat),(wL s l j).map Prod.snd=Shape.toksO s l
 | [],_=>rfl
 | (id,.one t h)::l,j=>by
  simp only[wL,Shape.toksO,List.map_append,kG s l]
  congr 1
  unfold BM
  split
  ·rename_i e;simp only[tN,e]
  ·rename_i e
   split
   ·rename_i u v e';exact absurd e' (e _ _)
   ·rfl
 | (_,.many _)::l,j=>by simp only[wL,Shape.toksO,kG s l]
 | (_,.mp ..)::l,j=>by simp only[wL,Shape.toksO,kG s l]
 | (_,.keep ..)::l,j=>by simp only[wL,Shape.toksO,kG s l]
theorem B2(s:St):∀ (l:List (Nat×Sh)) (j:Nat),Pl (Fv s l j) j (j+Shape.cntS l)
 | [],_=>Pl.nil _ _
 | (t,h)::l,j=>by
  simp only[Fv,Shape.cntS]
  rw[show j+(h.cnt+Shape.cntS l)=j+h.cnt+Shape.cntS l by omega]
  exact(yd h _ j).append (B2 s l _) (by omega) (by omega)
theorem EY(h:Sh)(o:Option Ob)(j:Nat):Pl (BM h o j) j (j+h.cnt):=by
 unfold BM
 split
 ·exact yd h _ j
 ·exact Pl.nil _ _
theorem pO(s:St):∀ (l:List (Nat×ShO)) (j:Nat),Pl (wL s l j) j (j+Shape.cntO l)
 | [],_=>Pl.nil _ _
 | (id,.one t h)::l,j=>by
  simp only[wL,Shape.cntO,ShO.cnt]
  rw[show j+(h.cnt+Shape.cntO l)=j+h.cnt+Shape.cntO l by omega]
  exact(EY h _ j).append (pO s l _) (by omega) (by omega)
 | (_,.many _)::l,j=>by
  simp only[wL,Shape.cntO,ShO.cnt]
  rw[show j+(1+Shape.cntO l)=j+1+Shape.cntO l by omega]
  exact(Pl.nil j (j+1)).append (pO s l _) (by omega) (by omega)
 | (_,.mp ..)::l,j=>by
  simp only[wL,Shape.cntO,ShO.cnt]
  rw[show j+(1+Shape.cntO l)=j+1+Shape.cntO l by omega]
  exact(Pl.nil j (j+1)).append (pO s l _) (by omega) (by omega)
 | (_,.keep ..)::l,j=>by
  simp only[wL,Shape.cntO,ShO.cnt,Nat.zero_add]
  exact pO s l j
theorem wF(s:St):∀ (l:List (Nat×Sh)) (x:List D),Shape.decS s l=some x->x.length=Shape.cntS l
 | [],x,e=>by simp only[Shape.decS,Option.some.injEq] at e;subst e;rfl
 | (t,h)::l,x,e=>by
  simp only[Shape.decS] at e
  obtain⟨y,h1,e⟩:=bind_some_inv e
  obtain⟨z,h2,e⟩:=bind_some_inv e
  simp only[Option.some.injEq] at e
  subst e
  simp only[List.length_append,ks h _ y h1,wF s l z h2,Shape.cntS]
theorem pg(s:St):∀ (l:List (Nat×Sh)) (x:List D),Shape.decS s l=some x->∀ v∈Shape.toksS s l,v ∉ s.dead
 | [],x,_=>by intro v hv;simp[Shape.toksS] at hv
 | (t,h)::l,x,e=>by
  intro v hv
  simp only[Shape.decS] at e
  obtain⟨y,h1,e⟩:=bind_some_inv e
  obtain⟨z,h2,e⟩:=bind_some_inv e
  simp only[Shape.toksS] at hv
  rcases List.mem_append.1 hv with hv|hv
  ·exact nG h _ y h1 v hv
  ·exact pg s l z h2 v hv
theorem qN{s:St}{id:Nat}{t:Ty}{h:Sh}{l:List (Nat×ShO)}{x:List D}(e:Shape.decO s ((id,.one t h)::l)=some x):∃ v y z,s.ob id=some (.one t v)/\Sh.dec s.ob s.dead h v=some y/\Shape.decO s l=some z/\x=y++z:=by
 simp only[Shape.decO] at e
 split at e<;>first|(cases e;done)|skip
 rename_i t' v ho
 split at e<;>first|(cases e;done)|skip
 rename_i ht
 obtain⟨y,h1,e⟩:=bind_some_inv e
 obtain⟨z,h2,e⟩:=bind_some_inv e
 simp only[Option.some.injEq] at e
 rw[<-Ty.eq_of_beq _ _ ht] at ho
 exact⟨v,y,z,ho,h1,h2,e.symm⟩
theorem nk{s:St}{id:Nat}{t:Ty}{l:List (Nat×ShO)}{x:List D}(e:Shape.decO s ((id,.many t)::l)=some x):∃ v z,s.ob id=some (.many t v)/\Shape.decO s l=some z/\x=[.sl v]++z:=by
 simp only[Shape.decO] at e
 split at e<;>first|(cases e;done)|skip
 rename_i t' v ho
 split at e<;>first|(cases e;done)|skip
 rename_i ht
 obtain⟨z,h2,e⟩:=bind_some_inv e
 simp only[Option.some.injEq] at e
 rw[<-Ty.eq_of_beq _ _ ht] at ho
 exact⟨v,z,ho,h2,e.symm⟩
theorem t7{s:St}{id:Nat}{kt vt:Ty}{l:List (Nat×ShO)}{x:List D}(e:Shape.decO s ((id,.mp kt vt)::l)=some x):∃ v z,s.ob id=some (.mp kt vt v)/\Shape.decO s l=some z/\x=[.sl v]++z:=by
 simp only[Shape.decO] at e
 split at e<;>first|(cases e;done)|skip
 rename_i t' u' v ho
 split at e<;>first|(cases e;done)|skip
 rename_i ht
 obtain⟨z,h2,e⟩:=bind_some_inv e
 simp only[Option.some.injEq] at e
 simp only[Bool.and_eq_true] at ht
 rw[<-Ty.eq_of_beq _ _ ht.1,<-Ty.eq_of_beq _ _ ht.2] at ho
 exact⟨v,z,ho,h2,e.symm⟩
theorem nL{s:St}{id:Nat}{t:Ty}{wit:Nat}{l:List (Nat×ShO)}{x:List D}(e:Shape.decO s ((id,.keep t wit)::l)=some x):∃ v,s.ob id=some (.one t v)/\Shape.decO s l=some x:=by
 simp only[Shape.decO] at e
 split at e<;>first|(cases e;done)|skip
 rename_i t' v ho
 split at e<;>first|(cases e;done)|skip
 rename_i ht
 rw[<-Ty.eq_of_beq _ _ ht] at ho
 exact⟨v,ho,e⟩
theorem gV(s:St):∀ (l:List (Nat×ShO)) (x:List D),Shape.decO s l=some x->∀ v∈Shape.toksO s l,v ∉ s.dead
 | [],x,_=>by intro v hv;simp[Shape.toksO] at hv
 | (id,.one t h)::l,x,e=>by
  intro v hv
  obtain⟨u,y,z,ho,h1,h2,_⟩:=qN e
  simp only[Shape.toksO,ho] at hv
  rcases List.mem_append.1 hv with hv|hv
  ·exact nG h _ y h1 v hv
  ·exact gV s l z h2 v hv
 | (id,.many t)::l,x,e=>by
  obtain⟨u,z,_,h2,_⟩:=nk e
  exact gV s l z h2
 | (id,.mp kt vt)::l,x,e=>by
  obtain⟨u,z,_,h2,_⟩:=t7 e
  exact gV s l z h2
 | (id,.keep t wit)::l,x,e=>by
  obtain⟨u,_,h2⟩:=nL e
  exact gV s l x h2
theorem zl(b:Nat):∀ (l:List (Nat×Sh)) (j:Nat) (s:List D) (f:Nat->AV),(Shape.mkS b l j s f).2=j+Shape.cntS l
 | [],j,s,f=>rfl
 | (t,h)::l,j,s,f=>by simp only[Shape.mkS,zl b l,nB,Shape.cntS,Nat.add_assoc]
theorem CN{n b:Nat}{c c':Cx}(T:Two n c c'){s':St}(e1:c.ob=s'.ob)(e2:c.dead=s'.dead):∀ (l:List (Nat×Sh)) (j:Nat) (s x:List D) (f:Nat->AV),Shape.decS s' l=some x->yw s x j->(∀ p∈l,Sh.fine n p.2=true) ->
  (∀ p∈Fv s' l j,c'.β (b+p.1)=c.β p.2)->∀ i,(i∈l.map (·.1)/\∀ v,AR c (s'.tm i) v->AR c' ((Shape.mkS b l j s f).1 i) v)\/(i ∉ l.map (·.1)/\(Shape.mkS b l j s f).1 i=f i)
 | [],j,s,x,f,e,hs,hf,hb,i=>.inr ⟨by simp,rfl⟩
 | (t,h)::l,j,s,x,f,e,hs,hf,hb,i=>by
  simp only[Shape.decS] at e
  obtain⟨y,h1,e⟩:=bind_some_inv e
  obtain⟨z,h2,e⟩:=bind_some_inv e
  simp only[Option.some.injEq] at e
  subst e
  simp only[Fv,List.mem_append] at hb
  have hr:=hs.right
  rw[ks h _ y h1] at hr
  simp only[Shape.mkS,nB]
  rcases CN T e1 e2 l (j+h.cnt) s z (fun i=>if i=t then(Sh.mk b h j s).1 else f i) h2 hr (fun p hp=>hf p (by simp[hp])) (fun p hp=>hb p (.inr hp)) i with⟨k1,k2⟩|⟨k1,k2⟩
  ·exact .inl ⟨by simp only[List.map_cons,List.mem_cons];exact .inr k1,k2⟩
  ·by_cases hit:i=t
   ·subst hit
    refine .inl ⟨by simp,fun v hv=>?_⟩
    rw[k2,if_pos rfl]
    exact HF T h _ j s y v (by rw[e1,e2];exact h1) hs.left (hf (i,h) (by simp)) (fun p hp=>hb p (.inl hp)) hv
   ·refine .inr ⟨by simp only[List.map_cons,List.mem_cons];rintro(h|h);exact hit h;exact k1 h,?_⟩
    rw[k2,if_neg hit]
def Hv(o' o:Ob):Prop:=(∀ p,eS o' p=eS o p/\ce o' p=ce o p)/\(∀ t l,o=.many t l->∃ l',o'=.many t l'/\l'.length=l.length)/\∀ kt vt l,o=.mp kt vt l->∃ l',o'=.mp kt vt l'
theorem vf{t:Ty}{a b:AV}:Hv (.one t a) (.one t b):=⟨fun p=>⟨rfl,rfl⟩,(fun u l e=>by cases e),fun _ _ l e=>by cases e⟩
theorem pS{t:Ty}{o:Option Ob}{o':Ob}(h:Ob.still t o=some o'):∃ u x,o=some (.one t (.d u x))/\o'=.one t (.d u x):=by
 unfold Ob.still at h
 split at h<;>first|(cases h;done)|skip
 split at h<;>first|(cases h;done)|skip
 rename_i ht
 simp only[Option.some.injEq] at h
 have:=Ty.eq_of_beq _ _ ht
 subst this
 exact⟨_,_,rfl,h.symm⟩
theorem qF{b:Nat}{base:Nat->Option Ob}{s':St}:∀ (l:List (Nat×ShO)) (j:Nat) (s x:List D) (f:Nat->Option Ob),Shape.decO s' l=some x->yw s x j ->
  ∀ id o',Shape.mkO b base l j s f id=some o'->f id=some o'\/(id∈l.map (·.1)/\∃ o,s'.ob id=some o/\Hv o' o)
 | [],j,s,x,f,e,hs,id,o',ho=>.inl ho
 | (t,.one u h)::l,j,s,x,f,e,hs,id,o',ho=>by
  obtain⟨v,y,z,h0,h1,h2,rfl⟩:=qN e
  have hr:=hs.right
  rw[ks h _ y h1] at hr
  simp only[Shape.mkO,nB] at ho
  rcases qF l _ s z _ h2 hr id o' ho with k|⟨k1,k2⟩
  ·split at k
   ·rename_i hit;subst hit
    simp only[Option.some.injEq] at k;subst k
    exact .inr ⟨by simp,_,h0,vf⟩
   ·exact .inl k
  ·exact .inr ⟨by simp only[List.map_cons,List.mem_cons];exact .inr k1,k2⟩
 | (t,.many u)::l,j,s,x,f,e,hs,id,o',ho=>by
  obtain⟨v,z,h0,h2,rfl⟩:=nk e
  have hj:s[j]?=some (.sl v):=by have:=hs 0 (by simp);simpa using this
  have hr:=hs.right
  simp only[Shape.mkO] at ho
  rcases qF l _ s z _ h2 hr id o' ho with k|⟨k1,k2⟩
  ·split at k
   ·rename_i hit;subst hit
    simp only[Option.some.injEq,List.getD,hj,Option.getD_some,D.els] at k;subst k
    exact .inr ⟨by simp,_,h0,fun p=>⟨by cases p<;>rfl,by cases p<;>rfl⟩,(fun u l e=>by cases e;exact⟨_,rfl,rfl⟩),fun _ _ l e=>by cases e⟩
   ·exact .inl k
  ·exact .inr ⟨by simp only[List.map_cons,List.mem_cons];exact .inr k1,k2⟩
 | (t,.mp u u')::l,j,s,x,f,e,hs,id,o',ho=>by
  obtain⟨v,z,h0,h2,rfl⟩:=t7 e
  have hj:s[j]?=some (.sl v):=by have:=hs 0 (by simp);simpa using this
  have hr:=hs.right
  simp only[Shape.mkO] at ho
  rcases qF l _ s z _ h2 hr id o' ho with k|⟨k1,k2⟩
  ·split at k
   ·rename_i hit;subst hit
    simp only[Option.some.injEq,List.getD,hj,Option.getD_some,D.els] at k;subst k
    exact .inr ⟨by simp,_,h0,fun p=>⟨rfl,rfl⟩,(fun u l e=>by cases e),fun _ _ l e=>by cases e;exact⟨_,rfl⟩⟩
   ·exact .inl k
  ·exact .inr ⟨by simp only[List.map_cons,List.mem_cons];exact .inr k1,k2⟩
 | (t,.keep u wit)::l,j,s,x,f,e,hs,id,o',ho=>by
  obtain⟨v,h0,h2⟩:=nL e
  simp only[Shape.mkO] at ho
  rcases qF l _ s x _ h2 hs id o' ho with k|⟨k1,k2⟩
  ·split at k
   ·rename_i hit;subst hit
    obtain⟨u',y,_,rfl⟩:=pS k
    exact .inr ⟨by simp,_,h0,vf⟩
   ·exact .inl k
  ·exact .inr ⟨by simp only[List.map_cons,List.mem_cons];exact .inr k1,k2⟩
theorem qD{n b:Nat}{c c':Cx}(T:Two n c c'){s' base:St}(e1:c.ob=s'.ob)(e2:c.dead=s'.dead):∀ (l:List (Nat×ShO)) (j:Nat) (s x:List D) (f:Nat->Option Ob),Shape.decO s' l=some x->yw s x j->(∀ p∈l,ShO.fine n base p.1 p.2=true) ->
  (∀ p∈wL s' l j,c'.β (b+p.1)=c.β p.2)->∀ id o',Shape.mkO b base.ob l j s f id=some o'->f id=some o' ∨
   ∃ o,s'.ob id=some o/\((∀ bl,gT c bl o->gT c' bl o')\/∃ t wit,(id,ShO.keep t wit)∈l/\Ob.still t (base.ob id)=some o')
 | [],j,s,x,f,e,hs,hf,hb,id,o',ho=>.inl ho
 | (t,.one u h)::l,j,s,x,f,e,hs,hf,hb,id,o',ho=>by
  obtain⟨v,y,z,h0,h1,h2,rfl⟩:=qN e
  have hr:=hs.right
  rw[ks h _ y h1] at hr
  simp only[Shape.mkO,nB] at ho
  simp only[wL,List.mem_append] at hb
  rcases qD T e1 e2 l _ s z _ h2 hr (fun p hp=>hf p (by simp[hp])) (fun p hp=>hb p (.inr hp)) id o' ho with k|⟨o,k1,k2⟩
  ·split at k
   ·rename_i hit;subst hit
    simp only[Option.some.injEq] at k;subst k
    refine .inr ⟨_,h0,.inl fun bl k=>?_⟩
    have hfi:=hf (id,.one u h) (by simp)
    simp only[ShO.fine,Bool.and_eq_true] at hfi
    simp only[gT] at k ⊢
    obtain⟨k1,k2,k3,cs,k4,k5,k6⟩:=k
    rw[T.w,T.S]
    refine⟨k1,yF b h u j s hfi.2,k3,cs,k4,wm T h v j s y cs (by rw[e1,e2];exact h1) hs.left hfi.1 (fun p hp=>hb p (.inl ?_)) k5,k6⟩
    simp only[BM,h0];exact hp
   ·exact .inl k
  ·refine .inr ⟨o,k1,k2.imp (fun k=>k) fun⟨t,wit,q1,q2⟩=>⟨t,wit,by simp[q1],q2⟩⟩
 | (t,.many u)::l,j,s,x,f,e,hs,hf,hb,id,o',ho=>by
  obtain⟨v,z,h0,h2,rfl⟩:=nk e
  have hj:s[j]?=some (.sl v):=by have:=hs 0 (by simp);simpa using this
  have hr:=hs.right
  simp only[Shape.mkO] at ho
  rcases qD T e1 e2 l _ s z _ h2 hr (fun p hp=>hf p (by simp[hp])) (fun p hp=>hb p hp) id o' ho with k|⟨o,k1,k2⟩
  ·split at k
   ·rename_i hit;subst hit
    simp only[Option.some.injEq,List.getD,hj,Option.getD_some,D.els] at k;subst k
    refine .inr ⟨_,h0,.inl fun bl k=>?_⟩
    simp only[gT] at k ⊢
    rw[T.w,T.S];exact k
   ·exact .inl k
  ·refine .inr ⟨o,k1,k2.imp (fun k=>k) fun⟨t,wit,q1,q2⟩=>⟨t,wit,by simp[q1],q2⟩⟩
 | (t,.mp u u')::l,j,s,x,f,e,hs,hf,hb,id,o',ho=>by
  obtain⟨v,z,h0,h2,rfl⟩:=t7 e
  have hj:s[j]?=some (.sl v):=by have:=hs 0 (by simp);simpa using this
  have hr:=hs.right
  simp only[Shape.mkO] at ho
  rcases qD T e1 e2 l _ s z _ h2 hr (fun p hp=>hf p (by simp[hp])) (fun p hp=>hb p hp) id o' ho with k|⟨o,k1,k2⟩
  ·split at k
   ·rename_i hit;subst hit
    simp only[Option.some.injEq,List.getD,hj,Option.getD_some,D.els] at k;subst k
    refine .inr ⟨_,h0,.inl fun bl k=>?_⟩
    simp only[gT] at k ⊢
    obtain⟨q1,q2,q3,es,q4,q5⟩:=k
    rw[T.w,T.S]
    exact⟨q1,q2,q3,es,q4,iB.same T.w T.S q5⟩
   ·exact .inl k
  ·refine .inr ⟨o,k1,k2.imp (fun k=>k) fun⟨t,wit,q1,q2⟩=>⟨t,wit,by simp[q1],q2⟩⟩
 | (t,.keep u wit)::l,j,s,x,f,e,hs,hf,hb,id,o',ho=>by
  obtain⟨v,h0,h2⟩:=nL e
  simp only[Shape.mkO] at ho
  rcases qD T e1 e2 l _ s x _ h2 hs (fun p hp=>hf p (by simp[hp])) (fun p hp=>hb p hp) id o' ho with k|⟨o,k1,k2⟩
  ·split at k
   ·rename_i hit;subst hit
    exact .inr ⟨_,h0,.inr ⟨u,wit,by simp,k⟩⟩
   ·exact .inl k
  ·refine .inr ⟨o,k1,k2.imp (fun k=>k) fun⟨t,wit,q1,q2⟩=>⟨t,wit,by simp[q1],q2⟩⟩
theorem so:∀ {l:List (Nat×Nat)},ed (l.map Prod.snd)=true->∀ p∈l,∀ q∈l,p.2=q.2->p=q
 | [],_,p,hp,_,_,_=>by cases hp
 | x::l,h,p,hp,q,hq,e=>by
  simp only[List.map_cons,ed,Bool.and_eq_true,Bool.not_eq_true'] at h
  have hx:∀ y∈l,y.2≠x.2:=fun y hy hxy=>by
   have:(l.map Prod.snd).contains x.2=true:=by rw[List.contains_iff_mem];exact hxy ▸ List.mem_map_of_mem hy
   rw[this] at h;cases h.1
  rcases List.mem_cons.1 hp with rfl|hp'
  ·rcases List.mem_cons.1 hq with rfl|hq'
   ·rfl
   ·exact absurd e.symm (hx q hq')
  ·rcases List.mem_cons.1 hq with rfl|hq'
   ·exact absurd e (hx p hp')
   ·exact so h.2 p hp' q hq' e
theorem oz:∀ {l:List (Nat×ShO)} {id:Nat} {t:Ty} {wit:Nat},(id,ShO.keep t wit)∈l->id∈cu l
 | [],_,_,_,h=>by cases h
 | (i,o)::l,id,t,wit,h=>by
  rcases List.mem_cons.1 h with k|k
  ·cases k;simp[cu]
  ·have ih:=oz k
   cases o<;>simp only[cu]<;>first
    | exact ih
    | exact List.mem_cons_of_mem _ ih
theorem mO{c c':Cx}(hw:∀ b o,c.S b o->c'.w.cell? ⟨b,o,none⟩=c.w.cell? ⟨b,o,none⟩)(hS:∀ b o,c.S b o->c'.S b o){x:AV}{v:Value}(h:AR c x v):AR c' x.still v:=by
 cases x<;>simp only[AV.still]<;>try (simp only[AR];done)
 case d t x=>
  simp only[AR] at h ⊢
  rcases h with⟨k1,k2,k3⟩|⟨ts,k1,k0,k2,k3⟩
  ·exact .inl ⟨k1,k2,k3.mono hw hS⟩
  ·exact .inr ⟨ts,k1,k0,k2,k3.mono hw hS⟩
 case own t u l=>
  simp only[AR,AC] at h
  obtain⟨h0,hn,h1,a,cap,h2,h3,_⟩:=h
  refine dK (by simpa only[af] using hn) (by simp only[wt];exact⟨l,rfl,h1⟩) ?_
  have hv:v=.slice a l.length cap:=al h0 h2
  subst hv
  exact dY.of_CR (h3.mono hw hS)
 case fptr t x=>
  simp only[AR,AC] at h ⊢
  obtain⟨h0,h1,h2,b,off,h3,h4⟩:=h
  exact⟨h0,h1,h2,b,off,h3,h4.mono hw hS⟩
section
variable{w0:Root}{w w':World}{S S':Nat->Nat->Prop}{γ γ':Nat->Option Nat}{β β':Nat->Option (Nat×Nat)}{s s':St}{a a':Act}
theorem mL(h0:Rp w0 S γ β s a w)(h1:Rp w0 S' γ' β' s' a' w')(hsub:∀ b o,S b o->S' b o)(hcell:∀ b o,S b o->w'.cell? ⟨b,o,none⟩=w.cell? ⟨b,o,none⟩)(hnt:s'.nt=s.nt){h:Shape}
  (hs:∀ t∈h.keepS,a'.tmps.getD t undef=a.tmps.getD t undef) (ho:∀ id∈cu h.objs,∀ b,γ id=some b->γ' id=some b/\w'.heap[b]?=w.heap[b]?) {v:List D} (hd:h.dec s s'=some v) (lkS lkO:List Nat) :
  ∃ γ'' β'',Rp w0 S' γ'' β'' (h.mk' s v lkS lkO) a' w'/\∀ id,id<s.base+4096->γ'' id=γ' id:=by
 unfold Shape.dec at hd
 split at hd<;>first|(cases hd;done)|skip
 rename_i hg
 simp only[Bool.and_eq_true] at hg
 obtain⟨hg,htok⟩:=hg
 obtain⟨x,hx,hd⟩:=bind_some_inv hd
 obtain⟨y,hy,hd⟩:=bind_some_inv hd
 simp only[Option.some.injEq] at hd
 subst hd
 simp only[Shape.good,Bool.and_eq_true,List.all_eq_true,decide_eq_true_eq] at hg
 obtain⟨⟨⟨⟨hg1,hg2⟩,hg3⟩,hg4⟩,hg5⟩:=hg
 have hlx:=wF s' h.slots x hx
 obtain⟨n,hn⟩:∃ n,n=(s.fresh+1)*4096:=⟨_,rfl⟩
 have hbase:s.base+4096=n:=by rw[hn];simp only[St.base];omega
 rw[<-hn] at hg3 hg4
 obtain⟨tl,htl⟩:∃ tl,tl=Fv s' h.slots 0++wL s' h.objs (Shape.cntS h.slots):=⟨_,rfl⟩
 have hpl:Pl tl 0 (Shape.cntS h.slots+Shape.cntO h.objs):=by
  rw[htl]
  have p1:=B2 s' h.slots 0
  rw[Nat.zero_add] at p1
  exact p1.append (pO s' h.objs _) (by omega) (by omega)
 have hsnd:ed (tl.map Prod.snd)=true:=by rw[htl,List.map_append,tR,kG];exact htok
 have halive:∀ p∈tl,p.2 ∉ s'.dead:=fun p hp=>by
  rw[htl] at hp
  rcases List.mem_append.1 hp with hp|hp
  ·exact pg s' _ x hx _ (by rw[<-tR s' _ 0];exact List.mem_map_of_mem hp)
  ·exact gV s' _ y hy _ (by rw[<-kG s' _ (Shape.cntS h.slots)];exact List.mem_map_of_mem hp)
 obtain⟨γ'',hγ⟩:∃ γ'':Nat->Option Nat,γ''=fun id=>if id<n then γ' id else none:=⟨_,rfl⟩
 obtain⟨β'',hβ⟩:∃ β'':Nat->Option (Nat×Nat),β''=fun u=>if n<=u then(tl.find? fun p=>p.1==u-n).bind fun p=>β' p.2 else none:=⟨_,rfl⟩
 have hγ1:∀ id,id<n->γ'' id=γ' id:=fun id hi=>by rw[hγ];simp[hi]
 have hγ2:∀ id b,γ'' id=some b->id<n/\γ' id=some b:=fun id b hb=>by
  rw[hγ] at hb
  simp only at hb
  split at hb
  ·rename_i hi;exact⟨hi,hb⟩
  ·cases hb
 have hβ1:∀ p∈tl,β'' (n+p.1)=β' p.2:=fun p hp=>by
  rw[hβ]
  simp only[Nat.le_add_right,if_true,Nat.add_sub_cancel_left]
  cases hfd:tl.find? fun q=>q.1==p.1 with
  | none=>
   have:=List.find?_eq_none.1 hfd p hp
   simp at this
  | some q=>
   have h1:=List.find?_some hfd
   have h2:=List.mem_of_find?_eq_some hfd
   rw[hpl.2 q h2 p hp (by simpa using h1)]
   rfl
 have hβ2:∀ u b,β'' u=some b->∃ p∈tl,u=n+p.1/\β' p.2=some b:=fun u b hb=>by
  rw[hβ] at hb
  simp only at hb
  split at hb<;>first|(cases hb;done)|skip
  rename_i hu
  obtain⟨p,h1,h2⟩:=bind_some_inv hb
  refine⟨p,List.mem_of_find?_eq_some h1,?_,h2⟩
  have:=List.find?_some h1
  simp only[beq_iff_eq] at this
  omega
 have hat1:yw (x++y) x 0:=fun i hi=>by rw[Nat.zero_add,List.getElem?_append_left hi]
 have hat2:yw (x++y) y (Shape.cntS h.slots):=fun i hi=>by rw[<-hlx,List.getElem?_append_right (by omega),Nat.add_sub_cancel_left]
 obtain⟨ob'',hob⟩:∃ ob'',ob''=(h.mk' s (x++y) lkS lkO).ob:=⟨_,rfl⟩
 have hob':ob''=Shape.mkO n s.ob h.objs (Shape.cntS h.slots) (x++y) (fun _=>none):=by
  rw[hob]
  simp only[Shape.mk',zl,Nat.zero_add,<-hn]
 have T:Two n ⟨w',S',γ',β',s'.ob,s'.dead⟩ ⟨w',S',γ'',β'',ob'',[]⟩:=by
  refine⟨rfl,rfl,hγ1,fun id hi o' ho'=>?_⟩
  rw[hob'] at ho'
  rcases qF h.objs _ _ y _ hy hat2 id o' ho' with k|⟨_,o,k1,k2⟩
  ·cases k
  ·exact⟨o,k1,k2.1,k2.2⟩
 have hszeq:a'.tmps.size=a.tmps.size:=by rw[h1.nt,hnt,h0.nt]
 have htm:(h.mk' s (x++y) lkS lkO).tm=(Shape.mkS n h.slots 0 (x++y) (fun i=>if h.keepS.contains i then(s.tm i).still else .undef)).1:=by
  simp only[Shape.mk',<-hn]
 have hkeep:=CN (b:=n) T (s':=s') rfl rfl h.slots 0 (x++y) x (fun i=>if h.keepS.contains i then(s.tm i).still else .undef) hx hat1 (fun p hp=>(hg4 p hp).2) (fun p hp=>hβ1 p (by rw[htl];exact List.mem_append_left _ hp))
 refine⟨γ'',β'',⟨h1.ext,fun t ht=>?_,?_,fun t ht=>?_,fun id o b hio hb=>?_,fun id b hb=>h1.γn id b (hγ2 id b hb).2,fun id id' b hb hb'=>h1.γi id id' b (hγ2 id b hb).2 (hγ2 id' b hb').2,fun id hi=>?_,fun u b e _ hb=>?_,fun u u' b e e' _ _ hb hb'=>?_,fun u id b e _ hb hid=>?_,fun u hu=>?_,h1.Sb,h1.So,h1.df⟩,fun id hi=>hγ1 id (by omega)⟩
 ·rw[htm,<-hob]
  rcases hkeep t with⟨k1,k2⟩|⟨k1,k2⟩
  ·exact k2 _ (h1.tms t ht)
  ·rw[k2]
   by_cases hk:h.keepS.contains t=true
   ·have hk':t∈h.keepS:=by simpa using hk
    rw[if_pos hk,hs t hk']
    exact mO (c:=⟨w,S,γ,β,s.ob,s.dead⟩) hcell hsub (h0.tms t (by rw[<-hszeq];exact ht))
   ·rw[if_neg hk];simp only[AR]
 ·show a'.tmps.size=s.nt
  rw[h1.nt,hnt]
 ·have ht':s.nt<=t:=ht
  rw[htm]
  rcases hkeep t with⟨k1,k2⟩|⟨k1,k2⟩
  ·obtain⟨p,hp,rfl⟩:=List.mem_map.1 k1
   have:=(hg4 p hp).1
   omega
  ·rw[k2]
   split
   ·rw[h0.tmu t ht'];rfl
   ·rfl
 ·have hb':=(hγ2 id b hb).2
  rw[<-hob] at hio ⊢
  have hio':=hio
  rw[hob'] at hio'
  rcases qD (b:=n) (base:=s) T (s':=s') rfl rfl h.objs (Shape.cntS h.slots) (x++y) y _ hy hat2 (fun p hp=>(hg3 p hp).2) (fun p hp=>hβ1 p (by rw[htl];exact List.mem_append_right _ hp)) id o hio' with k|⟨o0,k1,k2|⟨t,wit,k2,k3⟩⟩
  ·cases k
  ·exact k2 b (h1.obs id o0 b k1 hb')
  ·have hfi:=(hg3 _ k2).2
   simp only[ShO.fine] at hfi
   split at hfi<;>first|(cases hfi;done)|skip
   rename_i u id' p hw
   simp only[Bool.and_eq_true,decide_eq_true_eq] at hfi
   obtain⟨rfl,hwn⟩:=hfi
   have hA:=h0.tms wit (by rw[h0.nt];exact hwn)
   rw[hw] at hA
   simp only[AR,AC] at hA
   obtain⟨_,b0,off,_,hγ0,_⟩:=hA
   obtain⟨q1,q2⟩:=ho id (oz k2) b0 hγ0
   rw[hb'] at q1
   simp only[Option.some.injEq] at q1
   subst q1
   obtain⟨u',x',hob0,rfl⟩:=pS k3
   have hO:=h0.obs id _ b hob0 hγ0
   have hO1:=h1.obs id o0 b k1 hb'
   have hnS:∀ o,¬ S' b o:=by
    cases o0<;>simp only[gT] at hO1<;>exact hO1.2.2.1
   simp only[gT,AC] at hO ⊢
   obtain⟨r1,r2,_,cs,r3,⟨r4,r5,r6⟩,r7⟩:=hO
   refine⟨r1,r2,hnS,cs,?_,⟨r4,r5,r6.mono hcell hsub⟩,r7⟩
   simp only[bk,q2];exact r3
 ·have hi':(s.fresh+1)*4096+4096<=id:=hi
  rw[hγ];simp only;rw[if_neg (by omega)]
 ·obtain⟨p,hp,_,hb'⟩:=hβ2 u _ hb
  exact h1.βn _ b e (halive p hp) hb'
 ·obtain⟨p,hp,rfl,k⟩:=hβ2 u _ hb
  obtain⟨q,hq,rfl,k'⟩:=hβ2 u' _ hb'
  have:=h1.βi _ _ b e e' (halive p hp) (halive q hq) k k'
  rw[so hsnd p hp q hq this]
 ·obtain⟨p,hp,_,hb'⟩:=hβ2 u _ hb
  exact h1.βγ _ id b e (halive p hp) hb' (hγ2 id b hid).2
 ·have hu':(s.fresh+1)*4096+4096<=u:=hu
  cases hc:β'' u with
  | none=>rfl
  | some b=>
   obtain⟨p,hp,e,_⟩:=hβ2 u b hc
   have:=(hpl.1 p hp).2
   omega
end
end Go.Proofs.YtjjjkojfijpeeaaGreat.Sy
end
section
namespace Go.Proofs.YtjjjkojfijpeeaaGreat.Sy
open Go
variable{ro:Option Nat}{nn:Nat}
section
variable{P:Program}{E:Env}{w0:Root}{S:Nat->Nat->Prop}{γ:Nat->Option Nat}{β:Nat->Option (Nat×Nat)}{s:St}{a:Act}{w:World}
theorem Fm.tr{s s1:St}{S S1 S2:Nat->Nat->Prop}{γ γ1 γ2:Nat->Option Nat}{a a1 a2:Act}{w w1 w2:World}(h:Fm s S γ a w S1 γ1 a1 w1)(k:Fm s1 S1 γ1 a1 w1 S2 γ2 a2 w2)(e:Sk s s1):Fm s S γ a w S2 γ2 a2 w2:=h.trans k e.lkS e.lkO
def oT(s:St)(t:Nat):St:=
 match s.tm t with
  | .mem t' id=>match s.ob id with
   | some (.many u l)=>if t'.beq u&&!(s.lkO.contains id) then{ s.setOb id none with tm:=fun i=>if i=t then .d (.sl u) (.sl l) else s.tm i } else s
   | _=>s
  | _=>s
theorem vg(s:St)(t:Nat)(l:List Nat):fg s (t::l)=fg (oT s t) l:=rfl
theorem xH(h:Rp w0 S γ β s a w)(t:Nat):∃ S',Rp w0 S' γ β (oT s t) a w/\Fm s S γ a w S' γ a w/\Sm s (oT s t):=by
 have triv:∃ S',Rp w0 S' γ β s a w/\Fm s S γ a w S' γ a w/\Sm s s:=⟨S,h,Fm.refl _ _ _ _ _,Sm.refl s⟩
 unfold oT
 split
 ·rename_i t' id hm
  split
  ·rename_i u l ho
   split
   ·rename_i hc
    simp only[Bool.and_eq_true,Bool.not_eq_true'] at hc
    obtain⟨hc1,hc2⟩:=hc
    have hu:=Ty.eq_of_beq _ _ hc1
    subst hu
    have ht:t<a.tmps.size:=by
     rcases Nat.lt_or_ge t a.tmps.size with k|k
     ·exact k
     ·have:=h.tmu t (by rw[<-h.nt];exact k)
      rw[hm] at this;cases this
    have hA:=h.tms t ht
    rw[hm] at hA
    simp only[AR,AC] at hA
    obtain⟨hna,hnt,b,hγ,hA⟩:=hA
    obtain⟨l',e1,hv⟩:=hA _ ho
    simp only[Ob.many.injEq,true_and] at e1
    subst e1
    have hO:=h.obs id _ b ho hγ
    simp only[gT] at hO
    obtain⟨_,hwt,hnS,cs,hrow,hcs⟩:=hO
    obtain⟨S',hS'⟩:∃ S':Nat->Nat->Prop,S'=fun b' o=>S b' o\/b'=b:=⟨_,rfl⟩
    have hsub:∀ b' o,S b' o->S' b' o:=fun b' o hb=>by rw[hS'];exact .inl hb
    have hle:Cx.le ⟨w,S,γ,β,s.ob,s.dead⟩ ⟨w,S',γ,β,(s.setOb id none).ob,s.dead⟩:=by
     refine⟨fun _ _ _=>rfl,hsub,fun _ _ k=>k,fun i o hi _=>?_,fun v hv=>⟨hv,fun b e he=>⟨he,fun n hn=>hn⟩⟩⟩
     simp only[St.setOb] at hi
     split at hi<;>first|(cases hi;done)|skip
     exact⟨o,hi,fun p=>⟨rfl,rfl⟩,fun t l e=>⟨l,e,rfl⟩,fun _ _ l e=>⟨l,e⟩⟩
    refine⟨S',⟨h.ext,fun i hi=>?_,h.nt,fun i hi=>?_,fun i o b' hi hb'=>?_,h.γn,h.γi,h.γf,fun v b' e hvd he=>?_,h.βi,h.βγ,h.βf,fun b' o hb=>?_,fun b' o hb hlt=>?_,h.df⟩,⟨hsub,fun _ _ _=>rfl,fun _ _=>rfl,fun _ _ _ hb=>⟨hb,rfl⟩,Nat.le_refl _,fun _ _ hb=>hb⟩,⟨rfl,rfl,rfl,rfl⟩⟩
    ·by_cases hit:i=t
     ·subst hit
      simp only[if_true]
      have hval:=al hna hv
      rw[hval]
      refine dK (by simpa only[af] using hnt) (by simp only[wt];exact⟨l,rfl,hwt⟩) (dY.of_CR ?_)
      refine CR.of_elems (b:=b) (off:=0) (.inr rfl) (Nat.le_refl _) ⟨cs,hcs.mono (fun _ _ _=>rfl) hsub,fun i c hc=>⟨by rw[hS'];exact .inr rfl,?_⟩⟩
      rw[Nat.zero_add,bv w hrow]
      simpa using hc
     ·simp only[if_neg hit]
      exact(h.tms i hi).mono hle
    ·have hi':s.nt<=i:=hi
     have hit:i≠t:=fun e=>by rw[h.nt] at ht;omega
     simp only[if_neg hit]
     exact h.tmu i hi'
    ·simp only[St.setOb] at hi
     split at hi<;>first|(cases hi;done)|skip
     rename_i hne
     refine(h.obs i o b' hi hb').mono hle rfl fun o ho'=>?_
     have ho2:S' b' o:=ho'
     rw[hS'] at ho2
     rcases ho2 with k|k
     ·exact k
     ·subst k
      exact absurd (h.γi i id b' hb' hγ) hne
    ·obtain⟨k1,k2,k3⟩:=h.βn v b' e hvd he
     refine⟨k1,k2,fun o ho' hs=>?_⟩
     rw[hS'] at hs
     rcases hs with k|k
     ·exact k3 o ho' k
     ·subst k
      exact h.βγ v id b' e hvd he hγ
    ·rw[hS'] at hb
     rcases hb with k|k
     ·exact h.Sb b' o k
     ·subst k;exact(h.γn id b' hγ).2
    ·rw[hS'] at hb
     rcases hb with k|k
     ·exact h.So b' o k hlt
     ·subst k
      exact absurd hlt (h.γn id b' hγ).1
   ·exact triv
  ·exact triv
 ·exact triv
theorem ni:∀ (l:List Nat) {S:Nat->Nat->Prop} {s:St},Rp w0 S γ β s a w->∃ S',Rp w0 S' γ β (fg s l) a w/\Fm s S γ a w S' γ a w/\Sm s (fg s l)
 | [],S,s,h=>⟨S,h,Fm.refl _ _ _ _ _,Sm.refl s⟩
 | t::l,S,s,h=>by
  obtain⟨S1,h1,f1,m1⟩:=xH h t
  obtain⟨S2,h2,f2,m2⟩:=ni l h1
  rw[vg]
  exact⟨S2,h2,f1.trans f2 m1.lkS m1.lkO,m1.trans m2⟩
def oA(E:Env)(s:St)(o:Oper):St:=match o.op,o.dst with
  | .alloc T,some d=>match E.L T with
   | some t=>s.setOb (s.base+d) (some (.one t (fq t)))
   | none=>s
  | _,_=>s
theorem nw(E:Env)(o:Oper)(l:List Oper)(s:St):gY E (o::l) s=gY E l (oA E s o):=rfl
theorem Rp.freeOb(h:Rp w0 S γ β s a w){id:Nat}(hγ:γ id=none)(o:Option Ob):Rp w0 S γ β (s.setOb id o) a w:=by
 have hle:Cx.le ⟨w,S,γ,β,s.ob,s.dead⟩ ⟨w,S,γ,β,(s.setOb id o).ob,s.dead⟩:=by
  refine⟨fun _ _ _=>rfl,fun _ _ k=>k,fun _ _ k=>k,fun i x hx hb=>?_,fun v hv=>⟨hv,fun b e he=>⟨he,fun n hn=>hn⟩⟩⟩
  simp only[St.setOb] at hx
  split at hx
  ·rename_i e;subst e
   obtain⟨b,hb⟩:=hb
   simp only[hγ] at hb;cases hb
  ·exact⟨x,hx,fun p=>⟨rfl,rfl⟩,fun t l e=>⟨l,e,rfl⟩,fun _ _ l e=>⟨l,e⟩⟩
 refine⟨h.ext,fun i hi=>(h.tms i hi).mono hle,h.nt,h.tmu,fun i x b hx hb=>?_,h.γn,h.γi,h.γf,h.βn,h.βi,h.βγ,h.βf,h.Sb,h.So,h.df⟩
 simp only[St.setOb] at hx
 split at hx
 ·rename_i e;subst e;rw[hγ] at hb;cases hb
 ·exact(h.obs i x b hx hb).mono hle rfl fun _ k=>k
theorem jH(E:Env)(s:St)(o:Oper):oA E s o=s\/∃ T d t,o.op=.alloc T/\o.dst=some d/\E.L T=some t/\oA E s o=s.setOb (s.base+d) (some (.one t (fq t))):=by
 unfold oA
 split
 ·rename_i T d e1 e2
  split
  ·rename_i t e3;exact .inr ⟨T,d,t,e1,e2,e3,rfl⟩
  ·exact .inl rfl
 ·exact .inl rfl
theorem B5(h:Rp w0 S γ β s a w)(hg:∀ d,γ (s.base+d)=none)(o:Oper):Rp w0 S γ β (oA E s o) a w/\Sm s (oA E s o):=by
 rcases jH E s o with e|⟨T,d,t,_,_,_,e⟩
 ·rw[e];exact⟨h,Sm.refl s⟩
 ·rw[e];exact⟨h.freeOb (hg d) _,rfl,rfl,rfl,rfl⟩
theorem Sm.base_eq{s s':St}(h:Sm s s'):s'.base=s.base:=by simp only[St.base,h.fresh]
theorem yD(l:List Oper){s:St}(h:Rp w0 S γ β s a w)(hg:∀ d,γ (s.base+d)=none):Rp w0 S γ β (gY E l s) a w/\Sm s (gY E l s):=by
 induction l generalizing s with
 | nil=>exact And.intro h (Sm.refl s)
 | cons o l ih=>
  rw[nw]
  obtain⟨h1,h2⟩:=B5 (E:=E) h hg o
  obtain⟨k1,k2⟩:=ih h1 (by rw[h2.base_eq];exact hg)
  exact⟨k1,h2.trans k2⟩
theorem lD:∀ (l:List Oper) {s:St} {d:Nat},(∀ o∈l,o.dst≠some d)->(gY E l s).ob (s.base+d)=s.ob (s.base+d)
 | [],s,d,_=>rfl
 | o::l,s,d,h=>by
  rw[nw]
  rcases jH E s o with e|⟨T,d',t,_,e2,_,e⟩
  ·rw[e];exact lD l fun o ho=>h o (by simp[ho])
  ·rw[e]
   have:=lD l (s:=s.setOb (s.base+d') (some (.one t (fq t)))) (d:=d) fun o ho=>h o (by simp[ho])
   have hb:(s.setOb (s.base+d') (some (.one t (fq t)))).base=s.base:=rfl
   rw[hb] at this
   rw[this]
   have hne:d'≠d:=fun e=>h o (by simp) (by rw[e2,e])
   simp only[St.setOb]
   rw[if_neg fun e=>hne (Nat.add_left_cancel e).symm]
theorem t6:∀ (l:List Oper) {s:St} {o:Oper} {T:TypeId} {d:Nat} {t:Ty},ed (l.filterMap (·.dst))=true->o∈l->o.op=.alloc T->o.dst=some d->E.L T=some t->(gY E l s).ob (s.base+d)=some (.one t (fq t))
 | [],_,_,_,_,_,_,h,_,_,_=>by cases h
 | x::l,s,o,T,d,t,hn,ho,e1,e2,e3=>by
  have hn':ed (l.filterMap (·.dst))=true:=by
   rw[List.filterMap_cons] at hn
   split at hn
   ·exact hn
   ·simp only[ed,Bool.and_eq_true] at hn;exact hn.2
  rw[nw]
  have hb:(oA E s x).base=s.base:=by rcases jH E s x with e|⟨_,_,_,_,_,_,e⟩<;>rw[e]<;>rfl
  rcases List.mem_cons.1 ho with rfl|ho'
  ·rw[<-hb,lD l fun o' ho'=>fun e=>dn hn [] l o o' rfl ho' d e e2]
   rw[hb]
   simp only[oA,e1,e2,e3,St.setOb,if_true]
  ·rw[<-hb]
   exact t6 l hn' ho' e1 e2 e3
theorem HU{e e':Ex}(h:e.is e'=true):e=e':=by
 cases e<;>cases e'<;>simp only[Ex.is,decide_eq_true_eq] at h<;>first|rfl|(cases h;done)|(rw[h])
theorem ox{e:Ex}:∀ {l:List (Ex×Shape)} {i j:Nat} {h:Shape},qI e l i=some (j,h)->i<=j/\l[j-i]?=some (e,h)
 | [],_,_,_,k=>by simp[qI] at k
 | (e',h')::l,i,j,h,k=>by
  simp only[qI] at k
  split at k
  ·rename_i he
   simp only[Option.some.injEq,Prod.mk.injEq] at k
   obtain⟨rfl,rfl⟩:=k
   exact⟨Nat.le_refl _,by simp[HU he]⟩
  ·obtain⟨k1,k2⟩:=ox k
   refine⟨by omega,?_⟩
   rw[show j-i=(j-(i+1))+1 by omega]
   simpa using k2
theorem j4{R:Type}{base:St}{k:Ex->St->Option R}{kS kO:List Nat}{r:R}{e:Ex}{h:Shape}{v:List D}:∀ {l:List (Ex×Shape)} {i j:Nat},i<=j->l[j-i]?=some (e,h)->lO base k kS kO l i (j,v)=some r ->
  k e (h.mk' base v base.lkS base.lkO)=some r/\subset h.keepS kS=true/\subset (cu h.objs) kO=true
 | [],_,_,_,hl,_=>by simp at hl
 | [(e',h')],i,j,hij,hl,hc=>by
  have:j-i=0:=by
   have:=(List.getElem?_eq_some_iff.1 hl).1
   simpa using this
  rw[this] at hl
  simp only[List.getElem?_cons_zero,Option.some.injEq,Prod.mk.injEq] at hl
  obtain⟨rfl,rfl⟩:=hl
  simp only[lO] at hc
  split at hc<;>first|(cases hc;done)|skip
  rename_i hs
  simp only[Bool.and_eq_true] at hs
  exact⟨hc,hs⟩
 | (e',h')::x::l,i,j,hij,hl,hc=>by
  simp only[lO] at hc
  split at hc<;>first|(cases hc;done)|skip
  rename_i hs
  simp only[Bool.and_eq_true] at hs
  split at hc
  ·rename_i hji
   subst hji
   simp only[Nat.sub_self,List.getElem?_cons_zero,Option.some.injEq,Prod.mk.injEq] at hl
   obtain⟨rfl,rfl⟩:=hl
   exact⟨hc,hs⟩
  ·rename_i hji
   refine j4 (i:=i+1) (by omega) ?_ hc
   rw[show j-i=(j-(i+1))+1 by omega] at hl
   simpa using hl
theorem g8{l l':List Nat}(h:subset l l'=true):∀ x∈l,x∈l':=fun x hx=>by
 have:=List.all_eq_true.1 h x hx
 simpa using this
def tu:Ex->Exit
 | .normal=>.normal
 | .exit i=>.exit i
 | .ret=>.ret
theorem Rp.lk(h:Rp w0 S γ β s a w)(lkS lkO:List Nat):Rp w0 S γ β { s with lkS:=lkS,lkO:=lkO } a w:=
 ⟨h.ext,h.tms,h.nt,h.tmu,h.obs,h.γn,h.γi,h.γf,h.βn,h.βi,h.βγ,h.βf,h.Sb,h.So,h.df⟩
theorem Fm.less{s s2:St}{S':Nat->Nat->Prop}{γ':Nat->Option Nat}{a':Act}{w':World}(h:Fm s S γ a w S' γ' a' w')(e1:∀ t∈s2.lkS,t∈s.lkS)(e2:∀ t∈s2.lkO,t∈s.lkO):Fm s2 S γ a w S' γ' a' w':=
 ⟨h.sub,h.cell,fun t ht=>h.slots t (e1 t ht),fun id hid=>h.objs id (e2 id hid),h.sz,h.gam⟩
theorem Fm.shape{s2:St}{S':Nat->Nat->Prop}{γ' γ'':Nat->Option Nat}{a':Act}{w':World}(h0:Rp w0 S γ β s a w)(h:Fm s2 S γ a w S' γ' a' w')(hg:∀ id,id<s.base+4096->γ'' id=γ' id):Fm s2 S γ a w S' γ'' a' w':=
 ⟨h.sub,h.cell,h.slots,fun id hid b hb=>by
  obtain⟨k1,k2⟩:=h.objs id hid b hb
  refine⟨?_,k2⟩
  rw[hg id ?_]
  ·exact k1
  ·rcases Nat.lt_or_ge id (s.base+4096) with k|k
   ·exact k
   ·rw[h0.γf id k] at hb
    exact absurd hb (by simp),h.sz,fun id b hb=>by
  rw[hg id ?_]
  ·exact h.gam id b hb
  ·rcases Nat.lt_or_ge id (s.base+4096) with k|k
   ·exact k
   ·rw[h0.γf id k] at hb
    exact absurd hb (by simp)⟩
theorem sR{base:St}{exits:List (Ex×Shape)}{e:Ex}{s':St}{r:Nat×List D}(h:Ai base exits e s'=some r):∃ sh,exits[r.1]?=some (e,sh)/\sh.dec base s'=some r.2:=by
 unfold Ai at h
 obtain⟨q,h1,h⟩:=bind_some_inv h
 obtain⟨v,h2,h⟩:=bind_some_inv h
 simp only[Option.some.injEq] at h
 subst h
 obtain⟨_,h3⟩:=ox h1
 exact⟨q.2,by simpa using h3,h2⟩
end
end Go.Proofs.YtjjjkojfijpeeaaGreat.Sy
end
