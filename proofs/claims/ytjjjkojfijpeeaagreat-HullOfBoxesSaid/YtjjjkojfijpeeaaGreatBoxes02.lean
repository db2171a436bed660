/- Part 2 of the proof that HullOfBoxes answers true at every input -/
import Derived.Test.YtjjjkojfijpeeaaGreatBoxes01
import Derived.OrdersIn
import Derived.TacticsIn
import Derived.RangeFuncIn
import Derived.RangeFuncCalls
import Derived.Scope
import Derived.StillTail
import Derived.ChangeKeysEq
import Derived.MapKept
set_option linter.unusedVariables false
set_option linter.unusedSimpArgs false
set_option linter.unnecessarySimpa false
section
namespace Go.Proofs.YtjjjkojfijpeeaaGreat.Sy
open Go
def cD(P:Program)(o:Oper)(a:Act)(w:World)(K:Value->World->Prop):Prop:=
 match (execOp a.eval o).run P w with
 | .ok (.value v) w'=>K v w'
 | .ok .skip w'=>K undef w'
 | .ok (.enter f args) w'=>Calls P f args w' fun e w''=>∃ v,e=.returned v/\K v w''
 | _=>False
abbrev FW(ro:Option Nat):Fence:={ Fence.wide with round:=ro }
variable{ro:Option Nat}{nn:Nat}
theorem cD.plain{P:Program}{o:Oper}{a:Act}{w:World}{K:Value->World->Prop}(h:cD P o a w K)(c:Call):o.op≠.defer c:=by
 intro hc
 unfold cD at h
 obtain⟨dst,op,ty,pos,after,guard⟩:=o
 simp only at hc
 subst hc
 have e:execOp a.eval ⟨dst,.defer c,ty,pos,after,guard⟩=(resolve a.eval c ty >>= fun d=>pure (Next.defer d)):=rfl
 rw[e,Sem.run_bind] at h
 cases hr:(resolve a.eval c ty).run P w with
 | ok d w'=>rw[hr] at h;exact h
 | halt x w'=>rw[hr] at h;exact h
theorem Ea{P:Program}{f:FuncId}{args:Array Value}{w:World}{R:Ending->World->Prop}{m:Nat}(h:Calls P f args w R):CallsIn (FW ro) m P f args w R:=by
 have h1:CallsIn Fence.wide m P f args w R:=callsIn_wide.2 h
 cases ro with
 | none=>exact h1
 | some l=>exact CallsIn.inRound l h1
theorem be{P:Program}{o:Oper}{a:Act}{w:World}{K:Value->World->Prop}{next:Act->World->Prop}{Q:Exit->Act->World->Prop}(h:cD P o a w K)(hk:∀ v w',K v w'->next (a.put o.dst v) w'):o.wpIn (FW ro) nn P a w next Q:=by
 refine⟨fun _ _=>trivial,?_⟩
 rw[Oper.semAt_eq _ _ _ h.plain]
 unfold cD at h
 generalize (execOp a.eval o).run P w=r at *
 cases r with
 | ok n w'=>
  cases n<;>simp only at h<;>simp only[Oper.uponIn]
  case value v=>exact hk _ _ h
  case skip=>exact hk _ _ h
  case enter f args=>exact⟨fun hd=>(by cases hd),Ea (h.mono fun e w'' ⟨v,he,hv⟩=>by subst he;exact hk _ _ hv)⟩
 | halt x w'=>simp only at h
theorem cO{P:Program}{f:FuncId}{fn:Func}{c:Code}{args:Array Value}{w:World}{R:Ending->World->Prop}(hf:P.funcs[f]?=some fn)(hb:fn.body=some c)
  (h:c.wpIn (FW none) 0 P (bodyPost P fn R) { tmps:=args++Array.replicate (fn.ntmps-args.size) undef,defers:=[] } w):Calls P f args w R:=
 calls_of_wp hf hb (wpIn_wide.1 h)
section
variable{P:Program}{Q:Exit->Act->World->Prop}{a:Act}{w:World}{F:Fence}{n:Nat}
theorem iw{md:Region.Mode}{ops:Array Oper}{Q':Exit->Act->World->Prop}:∀ (l:List Oper) (k:Nat) (listed:Array Bool) (a:Act) (w:World),(∀ j,l[j]?=ops[k+j]?) ->
  Region.seqB md ops l.length k listed=true->wpListIn F n P ops Q' l a w->wpAnyIn F n P md ops Q' l.length listed a w
 | [],_,_,_,_,_,hB,h=>⟨by simpa [Region.seqB] using hB,h⟩
 | o::l,k,listed,a,w,hl,hB,h=>by
  have h0:ops[k]?=some o:=by simpa using(hl 0).symm
  simp only[List.length_cons,Region.seqB,Bool.and_eq_true,decide_eq_true_eq] at hB
  refine⟨fun h1=>(by rw[hB.1] at h1;cases h1),fun i hi=>?_⟩
  rw[hB.1] at hi
  have hik:i=k:=by simpa using hi
  subst hik
  have hw:wpOpIn F n P ops Q' i (wpListIn F n P ops Q' l) a w:=by unfold wpOpIn;simp only[h0];exact h
  exact wpOpIn_mono (fun a' w' h'=>iw l (i+1) _ a' w' (fun j=>by have:=hl (j+1);simpa [Nat.add_assoc,Nat.add_comm 1 j] using this) hB.2 h') hw
theorem eY{b:Frame}{k:List Item}{cs:List Frame}{c:Code}:step P (lone (b.atR a (.code (.scope c)::k)) cs w)=.next (lone (b.atR a (.code c::.inScope c::k)) cs w):=
 step_lone_go (by simp[stepG,stepG.exec,Frame.atR])
theorem sC{b:Frame}{k:List Item}{cs:List Frame}{c:Code}:step P (lone (b.atR a (.inScope c::k)) cs w)=.next (lone (b.atR a k) cs w):=
 step_lone_go (by simp[stepG,stepG.exec,Frame.atR])
theorem lC{c:Code}(h:c.wpIn F n P (Exit.noGoto Q) a w):(Code.scope c).wpIn F n P Q a w:=by
 intro b k cs hro hb hr
 have h0:(lone (b.atR a (.code (.scope c)::k)) cs w).fenced P F:=fenced_calm hb hr rfl
 obtain⟨e,a₁,w₁,hq,harr⟩:=h b (.inScope c::k) cs hro hb hr
 cases e with
 | normal=>exact⟨.normal,a₁,w₁,hq,.head h0 eY (StepsIn.trans harr (.one (fenced_calm hb hr rfl) sC))⟩
 | exit id'=>
  have hx:exitTo id' (.inScope c::k)=exitTo id' k:=by simp[exitTo]
  exact⟨.exit id',a₁,w₁,hq,fun k' hk=>.head h0 eY (harr.1 k' (by rw[hx];exact hk)),
   fun hr' hk=>let ⟨k₁,h1,h2⟩:=harr.2 hr' (by rw[hx];exact hk);⟨k₁,h1,.head h0 eY h2⟩⟩
 | goto l=>exact hq.elim
 | ret=>exact⟨_,a₁,w₁,hq,.of_steps (.one h0 eY) harr⟩
 | panic ch=>exact⟨_,a₁,w₁,hq,.of_steps (.one h0 eY) harr⟩
 | outgrown=>exact⟨_,a₁,w₁,hq,.of_steps (.one h0 eY) harr⟩
theorem jo{c:Code}(J:Nat->Act->World->Prop){m:Nat}(h₀:J m a w)
  (round:∀ m a w,J m a w->c.wpIn F n P (Exit.then (fun a' w'=>∃ m',m'<m/\J m' a' w') Q) a w):(Code.loop c).wpIn F n P Q a w:=by
 intro b k cs hro hb hr
 have key:∀ m a w,J m a w->∃ e a' w',Q e a' w'/\ArrivesIn (Machine.fenced P F) P (lone (b.atR a (.code c::.inLoop c::k)) cs w) b k cs e a' w':=by
  intro m
  induction m using Nat.strongRecOn with
  | _ m ih=>
   intro a w hI
   obtain⟨e,a₁,w₁,hq,harr⟩:=round m a w hI b (.inLoop c::k) cs hro hb hr
   cases e with
   | normal=>
    obtain⟨m',hlt,hI₁⟩:=hq
    obtain⟨e₂,a₂,w₂,hq₂,harr₂⟩:=ih m' hlt a₁ w₁ hI₁
    exact⟨e₂,a₂,w₂,hq₂,.of_steps (StepsIn.trans harr (.one (fenced_calm hb hr rfl) stepR_inLoop)) harr₂⟩
   | exit id=>exact⟨_,a₁,w₁,hq,.pass (x:=.inLoop c) rfl (fun _ _=>.inl (by simp)) harr⟩
   | goto l=>exact⟨_,a₁,w₁,hq,.pass (x:=.inLoop c) rfl (fun _ _=>.inl (by simp)) harr⟩
   | ret=>exact⟨_,a₁,w₁,hq,.pass (x:=.inLoop c) rfl (fun _ _=>.inl (by simp)) harr⟩
   | panic ch=>exact⟨_,a₁,w₁,hq,.pass (x:=.inLoop c) rfl (fun _ _=>.inl (by simp)) harr⟩
   | outgrown=>exact⟨_,a₁,w₁,hq,.pass (x:=.inLoop c) rfl (fun _ _=>.inl (by simp)) harr⟩
 obtain⟨e,a',w',hq,harr⟩:=key m a w h₀
 exact⟨e,a',w',hq,.of_steps (.one (fenced_calm hb hr rfl) stepR_loop) harr⟩
end
theorem cD.value{P:Program}{o:Oper}{a:Act}{w w':World}{v:Value}{K:Value->World->Prop}(h:(execOp a.eval o).run P w=.ok (.value v) w')(hk:K v w'):cD P o a w K:=by
 unfold cD;rw[h];exact hk
theorem cD.skip{P:Program}{o:Oper}{a:Act}{w w':World}{K:Value->World->Prop}(h:(execOp a.eval o).run P w=.ok .skip w')(hk:K undef w'):cD P o a w K:=by
 unfold cD;rw[h];exact hk
theorem cD.enter{P:Program}{o:Oper}{a:Act}{w w':World}{f:FuncId}{args:Array Value}{K:Value->World->Prop}(h:(execOp a.eval o).run P w=.ok (.enter f args) w')(hk:Calls P f args w' fun e w''=>∃ v,e=.returned v/\K v w''):cD P o a w K:=by
 unfold cD;rw[h];exact hk
theorem cD.mono{P:Program}{o:Oper}{a:Act}{w:World}{K K':Value->World->Prop}(h:cD P o a w K)(hk:∀ v w',K v w'->K' v w'):cD P o a w K':=by
 unfold cD at *
 generalize (execOp a.eval o).run P w=r at *
 cases r with
 | ok n w'=>
  cases n<;>simp only at h ⊢
  case value v=>exact hk _ _ h
  case skip=>exact hk _ _ h
  case enter f args=>exact h.mono fun e w'' ⟨v,he,hv⟩=>⟨v,he,hk _ _ hv⟩
 | halt x w'=>simp only at h
section
variable{w0:Root}{S:Nat->Nat->Prop}{γ:Nat->Option Nat}{β:Nat->Option (Nat×Nat)}{s:St}{a:Act}{w:World}
theorem aP(h:Rp w0 S γ β s a w):∀ x:Operand,AR ⟨w,S,γ,β,s.ob,s.dead⟩ (s.opA x) (a.eval x)
 | .tmp t=>by
  simp only[St.opA,Act.eval]
  by_cases ht:t<a.tmps.size
  ·exact h.tms t ht
  ·rw[h.tmu t (h.nt ▸ Nat.le_of_not_lt ht)];simp[AR]
 | .const v=>by
  simp only[St.opA,Act.eval]
  cases v<;>simp only[Cw]<;>first
   | exact cN _ _
   | exact g9 _
   | exact dW rfl (by simp only[wt];exact⟨_,rfl⟩) (eN.of_CR (.str _))
   | (simp only[AR];done)
   | skip
  case slice a len cap=>
   match a,len,cap with
   | none,0,0=>simp[AR,AC,Value.cells]
   | some _,_,_=>simp only[AR]
   | none,_+1,_=>simp only[AR]
   | none,0,_+1=>simp only[AR]
 | .global g=>by simp[St.opA,AR]
 | .func f=>by simp[St.opA,AR]
theorem Rp.put(h:Rp w0 S γ β s a w){v:AV}{val:Value}(hv:AR ⟨w,S,γ,β,s.ob,s.dead⟩ v val)(dst:Option Nat):Rp w0 S γ β (s.put dst v) (a.put dst val) w:=by
 cases dst with
 | none=>simpa [St.put,Act.put] using h
 | some t=>
  simp only[St.put,Act.put]
  by_cases ht:t<s.nt
  ·rw[if_pos ht]
   refine⟨h.ext,fun i hi=>?_,by simpa using h.nt,fun i hi=>?_,h.obs,h.γn,h.γi,h.γf,h.βn,h.βi,h.βγ,h.βf,h.Sb,h.So,h.df⟩
   ·simp only[Array.size_setIfInBounds] at hi
    by_cases hit:i=t
    ·subst hit
     simp only[if_true]
     rw[show(a.tmps.setIfInBounds i val).getD i undef=val by simp[Array.getD,hi]]
     exact hv
    ·simp only[if_neg hit]
     have:=h.tms i hi
     rwa [show(a.tmps.setIfInBounds t val).getD i undef=a.tmps.getD i undef by simp[Array.getD,hi,Array.getElem_setIfInBounds_ne hi (Ne.symm hit)]]
   ·have hi':s.nt<=i:=hi
    show(if i=t then v else s.tm i)=_
    rw[if_neg (by omega)];exact h.tmu i hi'
  ·rw[if_neg ht]
   have:a.tmps.setIfInBounds t val=a.tmps:=by
    apply Array.setIfInBounds_eq_of_size_le;rw[h.nt];omega
   rw[this]
   exact h
theorem uk{w':World}{S':Nat->Nat->Prop}{γ':Nat->Option Nat}{β':Nat->Option (Nat×Nat)}{ob:Nat->Option Ob}{dead:List Nat}
  (hc:∀ b o,S b o->w'.cell? ⟨b,o,none⟩=w.cell? ⟨b,o,none⟩) (hS:∀ b o,S b o->S' b o) (hγ:∀ id b,γ id=some b->γ' id=some b)
  (hβ:∀ v b e,v ∉ dead->β v=some (b,e)->β' v=some (b,e)/\∀ n,nR w b=some n->nR w' b=some n):Cx.le ⟨w,S,γ,β,ob,dead⟩ ⟨w',S',γ',β',ob,dead⟩:=
 ⟨hc,hS,hγ,fun id o ho _=>⟨o,ho,fun p=>⟨rfl,rfl⟩,fun t l e=>⟨l,e,rfl⟩,fun _ _ l e=>⟨l,e⟩⟩,fun v hv=>⟨hv,fun b e he=>hβ v b e hv he⟩⟩
theorem dm{os:List Obj}{d:Nat}{b o:Nat}(h:b<w.heap.size):(aw w os d).cell? ⟨b,o,none⟩=w.cell? ⟨b,o,none⟩:=by
 simp only[World.cell?,cG w os d h]
theorem to{os:List Obj}{d:Nat}{b:Nat}(h:b<w.heap.size):nR (aw w os d) b=nR w b:=by
 simp only[nR,bp,cG w os d h]
theorem BA{os:List Obj}{d:Nat}{b:Nat}(h:b<w.heap.size):bp (aw w os d) b=bp w b:=by
 simp only[bp,cG w os d h]
theorem ja.mono{c c':Cx}(h:c.le c'){kt vt:Ty}:∀ {j:Nat} {l:List D} {es:List MapEntry},ja c kt vt j l es->ja c' kt vt j l es
 | _,[],[],_=>trivial
 | _,[],_::_,k=>k.elim
 | _,_::_,[],k=>k.elim
 | j,x::l,e::es,k=>by
  simp only[ja] at k ⊢
  obtain⟨⟨q1,kd,vd,q2,q3,q4,q5,q6⟩,k2⟩:=k
  exact⟨⟨q1,kd,vd,q2,q3,q4,q5.mono h.cell h.S,q6.mono h.cell h.S⟩,ja.mono h k2⟩
theorem ja.same{c c':Cx}(hw:c'.w=c.w)(hS:c'.S=c.S){kt vt:Ty}:∀ {j:Nat} {l:List D} {es:List MapEntry},ja c kt vt j l es->ja c' kt vt j l es
 | _,[],[],_=>trivial
 | _,[],_::_,k=>k.elim
 | _,_::_,[],k=>k.elim
 | j,x::l,e::es,k=>by
  simp only[ja] at k ⊢
  rw[hw,hS]
  exact⟨k.1,ja.same hw hS k.2⟩
theorem ii.mono{c c':Cx}(h:c.le c'){b:Nat}{o:Ob}(hr:c'.w.heap[b]?=c.w.heap[b]?)(hS:∀ o,c'.S b o->c.S b o)(k:ii c b o):ii c' b o:=by
 have hr':bp c'.w b=bp c.w b:=by simp only[bp,hr]
 cases o<;>simp only[ii] at k ⊢
 case one t v=>
  obtain⟨k1,k2,k3,cs,k4,k5,k6⟩:=k
  exact⟨k1,k2,fun o ho=>k3 o (hS o ho),cs,by rw[hr'];exact k4,AC.mono h _ _ k5,k6⟩
 case many t l=>
  obtain⟨k1,k2,k3,cs,k4,k5⟩:=k
  exact⟨k1,k2,fun o ho=>k3 o (hS o ho),cs,by rw[hr'];exact k4,k5.mono h.cell h.S⟩
 case mp kt vt l=>
  obtain⟨k1,k2,k3,es,k4,k5⟩:=k
  exact⟨k1,k2,fun o ho=>k3 o (hS o ho),es,by rw[hr];exact k4,k5.mono h⟩
theorem Rp.grow(h:Rp w0 S γ β s a w){os:List Obj}{d:Nat}(hd:w.drawn<=d){S':Nat->Nat->Prop}(hS:∀ b o,S b o->S' b o)(hS':∀ b o,S' b o->S b o\/(w.heap.size<=b/\b<(aw w os d).heap.size)) :
  Rp w0 S' γ β s a (aw w os d)/\Cx.le ⟨w,S,γ,β,s.ob,s.dead⟩ ⟨aw w os d,S',γ,β,s.ob,s.dead⟩:=by
 have hsz:w.heap.size<=(aw w os d).heap.size:=by simp
 have hle:Cx.le ⟨w,S,γ,β,s.ob,s.dead⟩ ⟨aw w os d,S',γ,β,s.ob,s.dead⟩:=
  uk (fun b o hb=>dm (h.Sb b o hb)) hS (fun _ _ k=>k) (fun v b e hv he=>⟨he,fun n hn=>by rw[to (h.βn v b e hv he).2.1];exact hn⟩)
 refine⟨⟨?_,fun t ht=>(h.tms t ht).mono hle,h.nt,h.tmu,fun id o b ho hb=>?_,fun id b hb=>⟨(h.γn id b hb).1,by have:=(h.γn id b hb).2;omega⟩,h.γi,h.γf,fun v b e hv he=>?_,h.βi,h.βγ,h.βf,fun b o hb=>?_,fun b o hb hlt=>?_,h.df⟩,hle⟩
 ·exact⟨h.ext.tape,h.ext.os,h.ext.output,Nat.le_trans h.ext.sz hsz,Nat.le_trans h.ext.dr hd,fun b hb=>(cG w os d (Nat.lt_of_lt_of_le hb.1 h.ext.sz)).trans (h.ext.old b hb)⟩
 ·have hb':=(h.γn id b hb).2
  refine(h.obs id o b ho hb).mono hle (cG w os d hb') fun i hi=>?_
  rcases hS' b i hi with k|k
  ·exact k
  ·omega
 ·obtain⟨k1,k2,k3⟩:=h.βn v b e hv he
  refine⟨k1,by omega,fun o ho hs=>?_⟩
  rcases hS' b o hs with k|k
  ·exact k3 o ho k
  ·omega
 ·rcases hS' b o hb with k|k
  ·have:=h.Sb b o k;omega
  ·exact k.2
 ·rcases hS' b o hb with k|k
  ·exact h.So b o k hlt
  ·exfalso
   have:=h.ext.sz
   have h2:=hlt.1
   omega
def pB{α:Type}(f:Nat->Option α)(i:Nat)(x:α):Nat->Option α:=fun j=>if j=i then some x else f j
theorem bG{α:Type}(f:Nat->Option α)(i:Nat)(x:α):pB f i x i=some x:=by simp[pB]
theorem bL{α:Type}(f:Nat->Option α){i j:Nat}(x:α)(h:j≠i):pB f i x j=f j:=by simp[pB,h]
theorem fQ{α:Type}{f:Nat->Option α}{i:Nat}{x:α}(h:f i=none){j:Nat}{y:α}(hj:f j=some y):pB f i x j=some y:=by
 by_cases e:j=i
 ·subst e;rw[h] at hj;cases hj
 ·rw[bL f x e,hj]
theorem Rp.newOb(h:Rp w0 S γ β s a w){id b:Nat}(hid:γ id=none)(hb1:¬ w0.Old b)(hb2:b<w.heap.size)(hγ:∀ id,γ id≠some b)(hβ:∀ v e,v ∉ s.dead->β v≠some (b,e))(hi:id<s.base+4096)
  (hob:∀ o,s.ob id=some o->ii ⟨w,S,pB γ id b,β,s.ob,s.dead⟩ b o):Rp w0 S (pB γ id b) β s a w/\Cx.le ⟨w,S,γ,β,s.ob,s.dead⟩ ⟨w,S,pB γ id b,β,s.ob,s.dead⟩:=by
 have hle:Cx.le ⟨w,S,γ,β,s.ob,s.dead⟩ ⟨w,S,pB γ id b,β,s.ob,s.dead⟩:=
  uk (fun _ _ _=>rfl) (fun _ _ k=>k) (fun _ _ k=>fQ hid k) (fun v b e hv he=>⟨he,fun n hn=>hn⟩)
 refine⟨⟨h.ext,fun t ht=>(h.tms t ht).mono hle,h.nt,h.tmu,fun i o c ho hc=>?_,fun i c hc=>?_,fun i j c hc hc'=>?_,fun i hi'=>?_,h.βn,h.βi,fun v i c e hv he hc=>?_,h.βf,h.Sb,h.So,h.df⟩,hle⟩
 ·by_cases e:i=id
  ·subst e;rw[bG] at hc;cases hc;exact hob o ho
  ·rw[bL γ b e] at hc
   exact(h.obs i o c ho hc).mono hle rfl fun _ k=>k
 ·by_cases e:i=id
  ·subst e;rw[bG] at hc;cases hc;exact⟨hb1,hb2⟩
  ·rw[bL γ b e] at hc;exact h.γn i c hc
 ·by_cases e:i=id
  ·by_cases e':j=id
   ·rw[e,e']
   ·subst e;rw[bG] at hc;cases hc;rw[bL γ b e'] at hc';exact absurd hc' (hγ j)
  ·by_cases e':j=id
   ·subst e';rw[bG] at hc';cases hc';rw[bL γ b e] at hc;exact absurd hc (hγ i)
   ·rw[bL γ b e] at hc;rw[bL γ b e'] at hc';exact h.γi i j c hc hc'
 ·rw[bL γ b (by omega)];exact h.γf i hi'
 ·by_cases e':i=id
  ·subst e';rw[bG] at hc;cases hc;exact hβ v e hv he
  ·rw[bL γ b e'] at hc;exact h.βγ v i c e hv he hc
theorem Rp.newTok(h:Rp w0 S γ β s a w){v b e:Nat}(hv:β v=none)(hb1:¬ w0.Old b)(hb2:b<w.heap.size)(hγ:∀ id,γ id≠some b)(hβ:∀ v e,v ∉ s.dead->β v≠some (b,e))(hi:v<s.base+4096)(hS:∀ o,e<=o->¬ S b o) :
  Rp w0 S γ (pB β v (b,e)) s a w/\Cx.le ⟨w,S,γ,β,s.ob,s.dead⟩ ⟨w,S,γ,pB β v (b,e),s.ob,s.dead⟩:=by
 have hle:Cx.le ⟨w,S,γ,β,s.ob,s.dead⟩ ⟨w,S,γ,pB β v (b,e),s.ob,s.dead⟩:=
  uk (fun _ _ _=>rfl) (fun _ _ k=>k) (fun _ _ k=>k) (fun v b e hv' he=>⟨fQ hv he,fun n hn=>hn⟩)
 refine⟨⟨h.ext,fun t ht=>(h.tms t ht).mono hle,h.nt,h.tmu,fun i o c ho hc=>(h.obs i o c ho hc).mono hle rfl fun _ k=>k,h.γn,h.γi,h.γf,fun u c f hu hc=>?_,fun u u' c f f' hu hu' hc hc'=>?_,fun u i c f hu hc hi=>?_,fun u hu=>?_,h.Sb,h.So,h.df⟩,hle⟩
 ·by_cases e':u=v
  ·subst e';rw[bG] at hc;cases hc;exact⟨hb1,hb2,hS⟩
  ·rw[bL β _ e'] at hc;exact h.βn u c f hu hc
 ·by_cases e1:u=v
  ·by_cases e2:u'=v
   ·rw[e1,e2]
   ·subst e1;rw[bG] at hc;cases hc;rw[bL β _ e2] at hc';exact absurd hc' (hβ u' _ hu')
  ·by_cases e2:u'=v
   ·subst e2;rw[bG] at hc';cases hc';rw[bL β _ e1] at hc;exact absurd hc (hβ u _ hu)
   ·rw[bL β _ e1] at hc;rw[bL β _ e2] at hc';exact h.βi u u' c f f' hu hu' hc hc'
 ·by_cases e':u=v
  ·subst e';rw[bG] at hc;cases hc;exact hγ i hi
  ·rw[bL β _ e'] at hc;exact h.βγ u i c f hu hc hi
 ·rw[bL β _ (by omega)];exact h.βf u hu
end
def Qp(w0:Root)(S:Nat->Nat->Prop)(γ:Nat->Option Nat)(β:Nat->Option (Nat×Nat))(s:St)(a:Act)(w:World)(dst:Option Nat)(v:AV)(val:Value)(w':World):Prop:=
 ∃ S' γ' β',Rp w0 S' γ' β' s a w'/\AR ⟨w',S',γ',β',s.ob,s.dead⟩ v val/\(∀ b o,S b o->S' b o)/\(∃ os d,w'=aw w os d) ∧
  (∀ id b,γ id=some b->γ' id=some b)/\(∀ id,dst≠some (id-s.base)\/id<s.base->γ' id=γ id/\β' id=β id)
section
variable{w0:Root}{S:Nat->Nat->Prop}{γ:Nat->Option Nat}{β:Nat->Option (Nat×Nat)}{s:St}{a:Act}{w:World}
theorem Qp.same(h:Rp w0 S γ β s a w){v:AV}{val:Value}(hv:AR ⟨w,S,γ,β,s.ob,s.dead⟩ v val)(dst:Option Nat):Qp w0 S γ β s a w dst v val w:=
 ⟨S,γ,β,h,hv,fun _ _ k=>k,⟨[],_,(A0 w).symm⟩,fun _ _ k=>k,fun _ _=>⟨rfl,rfl⟩⟩
end
end Go.Proofs.YtjjjkojfijpeeaaGreat.Sy
end
section
namespace Go.Proofs.YtjjjkojfijpeeaaGreat.Sy
open Go
def Fr(E:Env)(s:St)(γ:Nat->Option Nat)(β:Nat->Option (Nat×Nat))(o:Oper):Prop:=
 ve o=true->∀ d:Nat,o.dst=some d->d<4096/\γ (s.base+d)=none/\β (s.base+d)=none/\∀ T t,o.op=.alloc T->E.L T=some t->s.ob (s.base+d)=some (.one t (fI t))
theorem vz{E:Env}{s:St}{γ:Nat->Option Nat}{β:Nat->Option (Nat×Nat)}{o:Oper}(h:ve o=false):Fr E s γ β o:=fun hc=>by rw[h] at hc;cases hc
theorem dV{x:AV}{p:Ty×D}(h:isD x=some p):x=.d p.1 p.2:=by
 cases x<;>simp[isD] at h
 subst h;rfl
theorem sS{x:D}{b:Bool}(h:x.truth=some b):x=.bool b:=by
 cases x<;>simp[D.truth] at h
 subst h;rfl
theorem lW{c:Cx}{x:AV}{b:Bool}{v:Value}(h:x.truth=some b)(k:AR c x v):v=.bool b/\∃ t,x=.d t (.bool b):=by
 cases x<;>simp only[AV.truth] at h<;>first|cases h|skip
 split at h<;>first|(cases h;done)|skip
 have:=sS h
 subst this
 exact⟨zQ k,_,rfl⟩
theorem nA{x:D}{n k:Nat}(h:x.idx n=some k):∃ kk,x=.int kk k/\k<n:=by
 cases x<;>simp only[D.idx] at h<;>first|cases h|skip
 rename_i kk i
 split at h
 ·rename_i hh
  simp only[Option.some.injEq] at h
  refine⟨kk,?_,by omega⟩
  rw[<-h];congr 1;omega
 ·cases h
theorem tQ{x:D}{k:Nat}(h:x.natOf=some k):∃ kk,x=.int kk k:=by
 cases x<;>simp only[D.natOf] at h<;>first|cases h|skip
 rename_i kk i
 split at h
 ·simp only[Option.some.injEq] at h
  refine⟨kk,?_⟩
  rw[<-h];congr 1;omega
 ·cases h
theorem CE{x:D}{l:List D}(h:x.asSl=some l):x=.sl l:=by
 cases x<;>simp[D.asSl] at h
 subst h;rfl
section
variable{P:Program}{E:Env}{w0:Root}{S:Nat->Nat->Prop}{γ:Nat->Option Nat}{β:Nat->Option (Nat×Nat)}{s:St}{a:Act}{w:World}
def iz(P:Program)(E:Env)(w0:Root)(S:Nat->Nat->Prop)(γ:Nat->Option Nat)(β:Nat->Option (Nat×Nat))(s:St)(a:Act)(w:World)(o:Oper):Prop:=
 ∀ (R:Type) (K:AV->Option R) (r:R),qv E s o K=some r->∃ v,K v=some r/\cD P o a w (Qp w0 S γ β s a w o.dst v)
theorem jD(a:Addr):(Instr.sureAddr (.pointer (some a))).run P w=.ok a w:=rfl
theorem Gk(h:Rp w0 S γ β s a w){dst x ty pos after guard}:iz P E w0 S γ β s a w ⟨dst,.move x,ty,pos,after,guard⟩:=by
 intro R K r hq
 exact⟨_,hq,.value (v:=a.eval x) (w':=w) (by simp[execOp]) (Qp.same h (aP h x) _)⟩
theorem By(h:Rp w0 S γ β s a w){dst x ty pos after guard}:iz P E w0 S γ β s a w ⟨dst,.assign x,ty,pos,after,guard⟩:=by
 intro R K r hq
 exact⟨_,hq,.value (v:=a.eval x) (w':=w) (by simp[execOp]) (Qp.same h (aP h x) _)⟩
theorem Gd(h:Rp w0 S γ β s a w){dst c x y ty pos after guard}:iz P E w0 S γ β s a w ⟨dst,.pick c x y,ty,pos,after,guard⟩:=by
 intro R K r hq
 simp only[qv] at hq
 obtain⟨b,h1,h2⟩:=bind_some_inv hq
 obtain⟨h3,_⟩:=lW h1 (aP h c)
 cases b
 ·exact⟨_,by simpa using h2,.value (v:=a.eval y) (w':=w) (by simp[execOp,h3,asBool]) (Qp.same h (aP h y) _)⟩
 ·exact⟨_,by simpa using h2,.value (v:=a.eval x) (w':=w) (by simp[execOp,h3,asBool]) (Qp.same h (aP h x) _)⟩
theorem wV(h:Rp w0 S γ β s a w){dst x ty pos after guard}:iz P E w0 S γ β s a w ⟨dst,.nilCheck x,ty,pos,after,guard⟩:=by
 intro R K r hq
 simp only[qv] at hq
 have hx:=aP h x
 generalize s.opA x=y at *
 cases y<;>(try simp only at hq)<;>first|cases hq|skip
 rename_i t id p
 refine⟨_,hq,?_⟩
 have hx':=hx
 simp only[AR,AC] at hx
 obtain⟨h1,b,off,h2,h3⟩:=hx
 have hv:=ao h1 h2
 exact .value (v:=a.eval x) (w':=w) (by simp[execOp,hv]) (Qp.same h hx' _)
mutual
theorem qQ:∀ (t:Ty),af t=true->AV.fits t (fI t)=true
 | .int k,_=>bv _ _
 | .bool,_=>bv _ _
 | .str,_=>bv _ _
 | .st ts,hn=>by
  simp only[fI]
  split
  ·simp only[AV.fits,Bool.and_eq_true]
   exact⟨by have:=Ty.beq_refl' (.st ts);simpa [Ty.beq] using this,iK ts (by simpa [af] using hn)⟩
  ·exact bv _ _
 | .arr n t,_=>bv _ _
 | .sl t,_=>rfl
 | .tup _,h=>by simp[af] at h
 | .fn,h=>by simp[af] at h
theorem iK:∀ (ts:List Ty),aY ts=true->AV.fitss ts (iX ts)=true
 | [],_=>rfl
 | t::ts,h=>by
  simp only[aY,Bool.and_eq_true] at h
  simp only[iX,AV.fitss,Bool.and_eq_true]
  exact⟨qQ t h.1,iK ts h.2⟩
end
mutual
theorem cl:∀ (t:Ty),af t=true->wt t (aA t)
 | .int k,_=>by simp only[wt,aA];exact⟨0,rfl⟩
 | .bool,_=>by simp only[wt,aA];exact⟨false,rfl⟩
 | .str,_=>by simp only[wt,aA];exact⟨_,rfl⟩
 | .st ts,hn=>by simp only[wt,aA];exact⟨_,rfl,lO ts (by simpa [af] using hn)⟩
 | .arr n t,hn=>by
  simp only[wt,aA]
  refine⟨_,rfl,by simp,fun x hx=>?_⟩
  rw[(List.mem_replicate.1 hx).2]
  exact cl t (by simpa [af] using hn)
 | .sl t,_=>by simp only[wt,aA];exact⟨[],rfl,fun x hx=>by simp at hx⟩
 | .tup _,h=>by simp[af] at h
 | .fn,h=>by simp[af] at h
theorem lO:∀ (ts:List Ty),aY ts=true->gn ts (fD ts)
 | [],_=>by simp[gn,fD]
 | t::ts,h=>by
  simp only[aY,Bool.and_eq_true] at h
  simp only[fD,gn]
  exact⟨_,_,rfl,cl t h.1,lO ts h.2⟩
end
theorem Gi{w:World}{S:Nat->Nat->Prop}{d:D}{v:Value}(h:yB d v=true):CR w S d v:=by
 cases d<;>cases v<;>simp only[yB] at h<;>first|cases h|skip
 case int.int k n k' n'=>simp at h;rw[h.1,h.2];exact .int _ _
 case bool.bool b b'=>simp at h;rw[h];exact .bool _
 case str.string x y=>
  have:x=y:=by simpa using h
  rw[this];exact .str _
 case sl.slice l a len cap=>
  simp only[Bool.and_eq_true,List.isEmpty_iff,Option.isNone_iff_eq_none,decide_eq_true_eq] at h
  obtain⟨⟨⟨rfl,rfl⟩,rfl⟩,rfl⟩:=h
  exact .sl [] none 0 0 0 (fun _=>undef) (.inl rfl) (Nat.le_refl 0) (fun i d hd=>by simp[D.flats] at hd) (fun i d hd=>by simp[D.flats] at hd)
theorem bX{w:World}{S:Nat->Nat->Prop}:∀ {ds:List D} {cs:List Value},bP ds cs=true->cH w S ds cs
 | [],[],_=>cH.nil
 | [],_::_,h=>by simp[bP] at h
 | _::_,[],h=>by simp[bP] at h
 | d::ds,v::cs,h=>by
  simp only[bP,Bool.and_eq_true] at h
  exact cH.append (cH.single.2 (Gi h.1)) (bX h.2)
theorem oP:∀ {a b:List D} {cs:List Value},bP (a++b) cs=true->bP a (cs.take a.length)=true/\bP b (cs.drop a.length)=true
 | [],b,cs,h=>by simpa [bP] using h
 | d::a,b,[],h=>by simp[bP] at h
 | d::a,b,v::cs,h=>by
  simp only[List.cons_append,bP,Bool.and_eq_true] at h
  obtain⟨h1,h2⟩:=oP h.2
  simp only[List.length_cons,List.take_succ_cons,List.drop_succ_cons,bP,Bool.and_eq_true]
  exact⟨⟨h.1,h1⟩,h2⟩
mutual
theorem wR{c:Cx}:∀ (t:Ty) (cs:List Value),af t=true->bP (aA t).flat cs=true->AC c (fI t) cs
 | .int k,cs,hn,h=>by simp only[fI,AC];exact⟨cl _ hn,hn,bX h⟩
 | .bool,cs,hn,h=>by simp only[fI,AC];exact⟨cl _ hn,hn,bX h⟩
 | .str,cs,hn,h=>by simp only[fI,AC];exact⟨cl _ hn,hn,bX h⟩
 | .st ts,cs,hn,h=>by
  simp only[fI]
  split
  ·simp only[af] at hn
   simp only[AC]
   exact⟨hn,iK ts hn,jL ts cs hn (by simpa [aA,D.flat] using h)⟩
  ·simp only[AC];exact⟨cl _ hn,hn,bX h⟩
 | .arr n t,cs,hn,h=>by simp only[fI,AC];exact⟨cl _ hn,hn,bX h⟩
 | .sl t,cs,hn,h=>by
  simp only[fI,AC]
  simp only[aA,D.flat] at h
  match cs,h with
  | [],h=>simp[bP] at h
  | [v],h=>
   simp only[bP,Bool.and_eq_true] at h
   have h1:=h.1
   cases v<;>simp only[yB] at h1<;>first|cases h1|skip
   simp only[Bool.and_eq_true,List.isEmpty_iff,Option.isNone_iff_eq_none,decide_eq_true_eq] at h1
   obtain⟨⟨⟨_,rfl⟩,rfl⟩,rfl⟩:=h1
   rfl
  | v::u::cs,h=>simp[bP] at h
 | .tup _,_,h,_=>by simp[af] at h
 | .fn,_,h,_=>by simp[af] at h
theorem jL{c:Cx}:∀ (ts:List Ty) (cs:List Value),aY ts=true->bP (D.flats (fD ts)) cs=true->lI c (iX ts) cs
 | [],cs,_,h=>by
  simp only[fD,D.flats] at h
  cases cs with
  | nil=>simp[iX,lI]
  | cons v cs=>simp[bP] at h
 | t::ts,cs,hn,h=>by
  simp only[aY,Bool.and_eq_true] at hn
  simp only[fD,D.flats] at h
  obtain⟨h1,h2⟩:=oP h
  simp only[iX,lI]
  exact⟨_,_,(List.take_append_drop _ _).symm,wR t _ hn.1 h1,jL ts _ hn.2 h2⟩
end
end
end Go.Proofs.YtjjjkojfijpeeaaGreat.Sy
end
section
namespace Go.Proofs.YtjjjkojfijpeeaaGreat.Sy
open Go
theorem ou{R:Type}{c:Cx}{b:Nat}{o:Ob}{p:List Nat}{t:Ty}{K:AV->Option R}{r:R}(ho:ii c b o)(ht:fo o p=some t)(h:gt o p K=some r) :
  ∃ a' cs,K a'=some r/\AC c a' cs/\AV.fits t a'=true/\af t=true/\∀ (i:Nat) (v:Value),cs[i]?=some v->c.w.cell? ⟨b,cB o p+i,none⟩=some v:=by
 cases o
 case mp=>simp[fo] at ht
 case one T v=>
  simp only[ii] at ho
  obtain⟨h1,h2,_,cs,h4,h5,h6⟩:=ho
  simp only[fo] at ht
  simp only[gt] at h
  obtain⟨a',pre,mid,post,k1,rfl,k2,k3,k4⟩:=AE p h2 h1 ht h5 h
  refine⟨a',mid,k1,k3,k4,dp p h1 ht,fun i v hv=>?_⟩
  rw[bE _ h4]
  simp only[cB,<-k2]
  have hi:=(List.getElem?_eq_some_iff.1 hv).1
  simp only[List.getElem?_toArray]
  rw[List.getElem?_append_right (by omega),Nat.add_sub_cancel_left,List.getElem?_append_left hi]
  exact hv
 case many T l=>
  simp only[ii] at ho
  obtain⟨h1,h2,_,cs,h4,h5⟩:=ho
  cases p with
  | nil=>simp[fo] at ht
  | cons i p=>
   simp only[fo] at ht
   simp only[gt] at h
   obtain⟨x,k1,k2⟩:=bind_some_inv h
   rw[bO k1] at h5
   obtain⟨h6,h7⟩:=h5.split
   obtain⟨h8,h9⟩:=h7.split
   have hx:=h2 x (List.mem_of_getElem? k1)
   obtain⟨a',pre,mid,post,m1,m2,m3,m4,m5⟩:=AE (c:=c) (cs:=(cs.drop (D.flats (l.take i)).length).take x.flat.length) p (bv T x) h1 ht (by simp only[AC];exact⟨hx,h1,h8⟩) k2
   refine⟨a',mid,m1,m4,m5,dp p h1 ht,fun j v hv=>?_⟩
   rw[bE _ h4]
   have hlen:(D.flats (l.take i)).length=i*T.size:=by
    rw[au h1 _ (fun x hx=>h2 x (List.mem_of_mem_take hx))]
    have:=(List.getElem?_eq_some_iff.1 k1).1
    simp[Nat.min_eq_left (Nat.le_of_lt this)]
   simp only[cB,<-m3,List.getElem?_toArray]
   have hj:=(List.getElem?_eq_some_iff.1 hv).1
   have h10:((cs.drop (D.flats (l.take i)).length).take x.flat.length)[pre.length+j]?=some v:=by
    rw[m2,List.getElem?_append_right (by omega),Nat.add_sub_cancel_left,List.getElem?_append_left hj];exact hv
   have h11:=(List.getElem?_eq_some_iff.1 h10).1
   rw[List.length_take] at h11
   rw[List.getElem?_take_of_lt (by omega),List.getElem?_drop,hlen] at h10
   rw[show i*T.size+pre.length+j=i*T.size+(pre.length+j) by omega]
   exact h10
section
variable{P:Program}{E:Env}{w0:Root}{S:Nat->Nat->Prop}{γ:Nat->Option Nat}{β:Nat->Option (Nat×Nat)}{s:St}{a:Act}{w:World}
theorem iH(hE:EnvOk P E){T:TypeId}{t:Ty}(h:E.L T=some t)(hn:af t=true):bh P t T=true:=by
 rcases hE.lay T t h with⟨ts,rfl⟩|h
 ·simp[af] at hn
 ·exact h
theorem oh{c:Cx}{t:Ty}{id:Nat}{p:List Nat}{v:Value}(h:AR c (.ptr t id p) v):∃ b off,v=.pointer (some ⟨b,off,none⟩)/\c.γ id=some b/\∀ o,c.ob id=some o->fo o p=some t/\off=cB o p:=by
 simp only[AR,AC] at h
 obtain⟨h1,b,off,h2,h3⟩:=h
 exact⟨b,off,ao h1 h2,h3⟩
theorem jd{c:Cx}{t:Ty}{id:Nat}{p:List Nat}{b off:Nat}(h:c.γ id=some b)(h2:∀ o,c.ob id=some o->fo o p=some t/\off=cB o p):AR c (.ptr t id p) (.pointer (some ⟨b,off,none⟩)):=by
 simp only[AR,AC]
 exact⟨by simp,b,off,rfl,h,h2⟩
theorem uT{c:Cx}{t:Ty}{x:D}{v:Value}(h:AR c (.fptr t x) v):wt t x/\af t=true/\∃ b off,v=.pointer (some ⟨b,off,none⟩)/\oK c.w c.S b off x.flat:=by
 simp only[AR,AC] at h
 obtain⟨h1,h2,h0,b,off,h3,h4⟩:=h
 exact⟨h2,h0,b,off,ao h1 h3,h4⟩
theorem mb{c:Cx}{t:Ty}{x:D}{b off:Nat}(h:wt t x)(hn:af t=true)(h2:oK c.w c.S b off x.flat):AR c (.fptr t x) (.pointer (some ⟨b,off,none⟩)):=by
 simp only[AR,AC]
 exact⟨by simp,h,hn,b,off,rfl,h2⟩
theorem Gv(hE:EnvOk P E)(h:Rp w0 S γ β s a w){dst T x ty pos after guard}:iz P E w0 S γ β s a w ⟨dst,.load T x,ty,pos,after,guard⟩:=by
 intro R K r hq
 simp only[qv] at hq
 replace hq:=bind_some_inv hq;obtain⟨t,ht,hq⟩:=hq
 have hx:=aP h x
 generalize s.opA x=y at *
 cases y<;>(try simp only at hq)<;>first|cases hq|skip
 case ptr t' id p=>
  split at hq<;>first|cases hq|skip
  rename_i hb
  have:=Ty.eq_of_beq _ _ hb;subst this
  replace hq:=bind_some_inv hq;obtain⟨o,ho,hq⟩:=hq
  obtain⟨b,off,hv,hγ,hob⟩:=oh hx
  obtain⟨k1,rfl⟩:=hob o ho
  obtain⟨a',cs,m1,m2,m3,m4,m5⟩:=ou (h.obs id o b ho hγ) k1 hq
  obtain⟨m6,m7⟩:=gq _ _ _ m3 m2
  obtain⟨v,hrun,hval⟩:=dO (iH hE ht m4) (w:=w) (b:=b) (off:=cB o p) m6 m7 m5
  exact⟨a',m1,.value (v:=v) (w':=w) (by simp[execOp,hv,hrun]) (Qp.same h (te m3 m2 hval) _)⟩
 case fptr t' z=>
  split at hq<;>first|cases hq|skip
  rename_i hb
  have:=Ty.eq_of_beq _ _ hb;subst this
  obtain⟨k1,k0,b,off,hv,cs,k2,k3⟩:=uT hx
  obtain⟨v,hrun,hval⟩:=dO (iH hE ht k0) (w:=w) (b:=b) (off:=off) (cs:=cs) (by rw[<-k2.1];exact bu _ _ k1 k0) k2.nag (fun i c hc=>(k3 i c hc).2)
  exact⟨_,hq,.value (v:=v) (w':=w) (by simp[execOp,hv,hrun]) (Qp.same h (te (bv _ _) (by simp only[AC];exact⟨k1,k0,k2⟩) hval) _)⟩
 case sub sl e id p lo n=>
  split at hq<;>first|cases hq|skip
  rename_i hb
  simp only[Bool.and_eq_true,Bool.not_eq_true'] at hb
  obtain⟨hsl,hb⟩:=hb
  subst hsl
  have:=Ty.eq_of_beq _ _ hb;subst this
  replace hq:=bind_some_inv hq;obtain⟨o,ho,hq⟩:=hq
  simp only[AR,AC] at hx
  obtain⟨hna,hne,b,off,cap,hcs,hγ,hob⟩:=hx
  simp only[Bool.false_eq_true,if_false] at hcs
  have hv:=ao hna hcs
  obtain⟨m,k1,k2,rfl⟩:=hob o ho
  obtain⟨a',cs,m1,m2,m3,m4,m5⟩:=ou (h.obs id o b ho hγ) k1 hq
  split at m1<;>first|(cases m1;done)|skip
  rename_i m' e' l
  split at m1<;>first|(cases m1;done)|skip
  rename_i hb2
  simp only[Bool.and_eq_true,decide_eq_true_eq] at hb2
  have he:=Ty.eq_of_beq _ _ hb2.1;subst he
  have hm:=oB m3
  simp only[Ty.arr.injEq] at hm
  simp only[AC] at m2
  obtain⟨q1,q2,q3⟩:=m2
  simp only[wt] at q1
  obtain⟨l0,e0,q4,q5⟩:=q1
  cases e0
  have hl1:l=l.take lo++((l.drop lo).take n++(l.drop lo).drop n):=by rw[List.take_append_drop,List.take_append_drop]
  have hfl:D.flats l=D.flats (l.take lo)++(D.flats ((l.drop lo).take n)++D.flats ((l.drop lo).drop n)):=by
   conv=>lhs;rw[hl1]
   rw[bA,bA]
  simp only[D.flat] at q3
  rw[hfl] at q3
  obtain⟨_,r2⟩:=q3.split
  obtain⟨r3,_⟩:=r2.split
  have len1:(D.flats (l.take lo)).length=lo*e'.size:=by
   rw[au hne _ (fun x hx=>q5 x (List.mem_of_mem_take hx)),List.length_take,Nat.min_eq_left (by omega)]
  have len2:(D.flats ((l.drop lo).take n)).length=n*e'.size:=by
   rw[au hne _ (fun x hx=>q5 x (List.mem_of_mem_drop (List.mem_of_mem_take hx))),List.length_take,List.length_drop,Nat.min_eq_left (by omega)]
  have hwt:wt (.arr n e') (.st ((l.drop lo).take n)):=by
   simp only[wt]
   exact⟨_,rfl,by rw[List.length_take,List.length_drop,Nat.min_eq_left (by omega)],fun x hx=>q5 x (List.mem_of_mem_drop (List.mem_of_mem_take hx))⟩
  have hnt:af (.arr n e')=true:=by simp only[af];exact hne
  obtain⟨v,hrun,hval⟩:=dO (iH hE ht hnt) (w:=w) (b:=b) (off:=cB o p+lo*e'.size) (cs:=(cs.drop (D.flats (l.take lo)).length).take (D.flats ((l.drop lo).take n)).length) (by rw[<-r3.1,len2];rfl) r3.nag (fun i c hc=>by
   have hi:i<(D.flats ((l.drop lo).take n)).length:=by
    have:=(List.getElem?_eq_some_iff.1 hc).1
    rw[List.length_take] at this;omega
   rw[List.getElem?_take_of_lt hi,List.getElem?_drop] at hc
   have:=m5 _ c hc
   rw[len1,<-Nat.add_assoc] at this
   exact this)
  exact⟨_,m1,.value (v:=v) (w':=w) (by simp[execOp,hv,hrun]) (Qp.same h (te (bv _ _) (by simp only[AC];exact⟨hwt,hnt,by simp only[D.flat];exact r3⟩) hval) _)⟩
theorem oW{T:TypeId}{ts:List Ty}{f:Nat}{u:Ty}(hl:bh P (.st ts) T=true)(hf:ts[f]?=some u)(b off:Nat)(w:World) :
  (Instr.fieldAt T (.pointer (some ⟨b,off,none⟩)) f).run P w=.ok (.pointer (some ⟨b,off+Ty.sizes (ts.take f),none⟩)) w:=by
 obtain⟨fs,h1,h2⟩:=iT hl
 obtain⟨g,h3,h4,h5,h6⟩:=pL h2 hf
 have h3':fs[f]?=some g:=by simpa using h3
 have hne:u.size≠0:=by omega
 simp only[Instr.fieldAt,Sem.run_bind,run_underlying h1,Result.andThen_ok,h3',jD,fieldPlace,bJ h6,hne,if_false,Sem.run_pure,h4,bR,Nat.zero_add]
theorem iM:∀ (p:List Nat) {t u v:Ty} {i:Nat},aI t p=some u->aI u [i]=some v->aI t (p++[i])=some v
 | [],t,u,v,i,h,k=>by
  have:t=u:=by cases t<;>simpa [aI] using h
  subst this;exact k
 | j::p,.st ts,u,v,i,h,k=>by
  simp only[aI,List.cons_append] at h ⊢
  obtain⟨z,h1,h2⟩:=bind_some_inv h
  rw[h1];exact iM p h2 k
 | j::p,.arr n t,u,v,i,h,k=>by
  simp only[aI,List.cons_append] at h ⊢
  exact iM p h k
 | j::p,.int _,u,v,i,h,k=>by simp[aI] at h
 | j::p,.bool,u,v,i,h,k=>by simp[aI] at h
 | j::p,.str,u,v,i,h,k=>by simp[aI] at h
 | j::p,.sl _,u,v,i,h,k=>by simp[aI] at h
 | j::p,.tup _,u,v,i,h,k=>by simp[aI] at h
 | j::p,.fn,u,v,i,h,k=>by simp[aI] at h
theorem gI:∀ (p:List Nat) {t u:Ty} {i:Nat},aI t p=some u->aL t (p++[i])=aL t p+aL u [i]
 | [],t,u,i,h=>by
  have:t=u:=by cases t<;>simpa [aI] using h
  subst this
  cases t<;>simp[aL]
 | j::p,.st ts,u,i,h=>by
  simp only[aI,List.cons_append] at h ⊢
  obtain⟨z,h1,h2⟩:=bind_some_inv h
  simp only[aL]
  rw[show ts.getD j .bool=z by simp[List.getD,h1],gI p h2,Nat.add_assoc]
 | j::p,.arr n t,u,i,h=>by
  simp only[aI,List.cons_append] at h ⊢
  simp only[aL]
  rw[gI p h,Nat.add_assoc]
 | j::p,.int _,u,i,h=>by simp[aI] at h
 | j::p,.bool,u,i,h=>by simp[aI] at h
 | j::p,.str,u,i,h=>by simp[aI] at h
 | j::p,.sl _,u,i,h=>by simp[aI] at h
 | j::p,.tup _,u,i,h=>by simp[aI] at h
 | j::p,.fn,u,i,h=>by simp[aI] at h
theorem tG{o:Ob}{p:List Nat}{t u:Ty}{i:Nat}(h:fo o p=some t)(k:aI t [i]=some u):fo o (p++[i])=some u/\cB o (p++[i])=cB o p+aL t [i]:=by
 cases o with
 | one T v=>simp only[fo,cB] at h ⊢;exact⟨iM p h k,gI p h⟩
 | many T l=>
  cases p with
  | nil=>simp[fo] at h
  | cons j p=>simp only[fo,cB,List.cons_append] at h ⊢;exact⟨iM p h k,by rw[gI p h,Nat.add_assoc]⟩
 | mp kt vt l=>simp[fo] at h
theorem uI(hE:EnvOk P E)(h:Rp w0 S γ β s a w){dst T x f ty pos after guard}:iz P E w0 S γ β s a w ⟨dst,.fieldAddr T x f,ty,pos,after,guard⟩:=by
 intro R K r hq
 simp only[qv] at hq
 replace hq:=bind_some_inv hq;obtain⟨t,ht,hq⟩:=hq
 have hx:=aP h x
 generalize s.opA x=y at *
 cases t<;>(try simp only at hq)<;>first|cases hq|skip
 rename_i ts
 cases y<;>(try simp only at hq)<;>first|cases hq|skip
 case ptr t' id p=>
  split at hq<;>first|cases hq|skip
  rename_i hb
  have:=Ty.eq_of_beq _ _ hb;subst this
  replace hq:=bind_some_inv hq;obtain⟨u,hu,hq⟩:=hq
  obtain⟨b,off,hv,hγ,hob⟩:=oh hx
  rcases hE.lay T _ ht with⟨ts',hts⟩|hl
  ·cases hts
  refine⟨_,hq,.value (v:=.pointer (some ⟨b,off+Ty.sizes (ts.take f),none⟩)) (w':=w) (by simp only[execOp,hv,Sem.run_bind,oW hl hu,Result.andThen_ok,Sem.run_pure]) (Qp.same h (jd hγ fun o ho=>?_) _)⟩
  obtain⟨k1,rfl⟩:=hob o ho
  have:=tG (i:=f) (u:=u) k1 (by simp[aI,hu])
  exact⟨this.1,by rw[this.2];simp[aL]⟩
 case fptr t' z=>
  split at hq<;>first|cases hq|skip
  rename_i hb
  have:=Ty.eq_of_beq _ _ hb;subst this
  replace hq:=bind_some_inv hq;obtain⟨u,hu,hq⟩:=hq
  replace hq:=bind_some_inv hq;obtain⟨z',hz,hq⟩:=hq
  obtain⟨k1,k0,b,off,hv,k2⟩:=uT hx
  rcases hE.lay T _ ht with⟨ts',hts⟩|hl
  ·cases hts
  have hg:z.get [f]=some z':=by simp[D.get,hz]
  obtain⟨m1,A,B,m2,m3⟩:=ig [f] k1 k0 (show aI (.st ts) [f]=some u by simp[aI,hu]) hg
  rw[m2] at k2
  have k3:=k2.part
  rw[m3] at k3
  refine⟨_,hq,.value (v:=.pointer (some ⟨b,off+Ty.sizes (ts.take f),none⟩)) (w':=w) (by simp only[execOp,hv,Sem.run_bind,oW hl hu,Result.andThen_ok,Sem.run_pure]) (Qp.same h (mb m1 (cc (by simpa [af] using k0) hu) ?_) _)⟩
  simpa [aL] using k3
theorem jT{T:TypeId}{n:Nat}{e:Ty}(hl:bh P (.arr n e) T=true){kk:IntKind}{k:Nat}(hk:k<n)(b off:Nat)(w:World) :
  (Instr.indexAt T (.pointer (some ⟨b,off,none⟩)) (.int kk k)).run P w=.ok (.pointer (some ⟨b,off+k*e.size,none⟩)) w:=by
 obtain⟨u,h1,h2⟩:=dT hl
 have hk':(0:Int)<=(k:Int)/\(k:Int)<(n:Int):=by omega
 simp only[Instr.indexAt,asIntOf,pure_bind,Sem.run_bind,run_underlying h1,Result.andThen_ok,jD,Sem.run_pure,hk',and_self,if_true,bJ h2,bR,Int.toNat_natCast]
theorem gX{T:TypeId}{e:Ty}(hl:bh P (.sl e) T=true){kk:IntKind}{k len cap:Nat}(hk:k<len)(b off:Nat)(w:World) :
  (Instr.indexAt T (.slice (some ⟨b,off,none⟩) len cap) (.int kk k)).run P w=.ok (.pointer (some ⟨b,off+k*e.size,none⟩)) w:=by
 obtain⟨u,h1,h2⟩:=im hl
 have hk':(0:Int)<=(k:Int)/\(k:Int)<(len:Int):=by omega
 simp only[Instr.indexAt,asIntOf,pure_bind,Sem.run_bind,run_underlying h1,Result.andThen_ok,Sem.run_pure,hk',and_self,if_true,bJ h2,bR,Int.toNat_natCast]
theorem DJ{c:Cx}{t:Ty}{id:Nat}{v:Value}(h:AR c (.mem t id) v):af t=true/\∃ b,c.γ id=some b/\∀ o,c.ob id=some o->∃ l,o=.many t l/\v=.slice (some ⟨b,0,none⟩) l.length l.length:=by
 simp only[AR,AC] at h
 obtain⟨h1,h2,b,h3,h4⟩:=h
 refine⟨h2,b,h3,fun o ho=>?_⟩
 obtain⟨l,k1,k2⟩:=h4 o ho
 exact⟨l,k1,ao h1 k2⟩
theorem lh{c:Cx}{ob:Nat->Option Ob}{e:Ty}{y:AV}{v:Value}{l:List D}(hn:af e=true)(h:AR c y v)(hl:y.asList ob e=some l):(∀ x∈l,wt e x)/\CR c.w c.S (.sl l) v:=by
 unfold AV.asList at hl
 obtain⟨x,h1,h2⟩:=bind_some_inv hl
 have:=CE h2;subst this
 obtain⟨k1,k2⟩:=mn (t:=.sl e) (by simpa [af] using hn) h h1
 simp only[wt] at k1
 obtain⟨l',e1,k3⟩:=k1
 cases e1
 exact⟨k3,k2.sl_inv⟩
theorem uJ(hE:EnvOk P E)(h:Rp w0 S γ β s a w){dst T x i ty pos after guard}:iz P E w0 S γ β s a w ⟨dst,.indexAddr T x i,ty,pos,after,guard⟩:=by
 intro R K r hq
 simp only[qv] at hq
 replace hq:=bind_some_inv hq;obtain⟨t,ht,hq⟩:=hq
 replace hq:=bind_some_inv hq;obtain⟨ix,hix,hq⟩:=hq
 have hi:=dV hix
 have hi2:=aP h i
 rw[hi] at hi2
 have hx:=aP h x
 generalize s.opA x=y at *
 cases t<;>(try simp only at hq)<;>first|cases hq|skip
 case arr n e=>
  rcases hE.lay T _ ht with⟨ts',hts⟩|hl
  ·cases hts
  cases y<;>(try simp only at hq)<;>first|cases hq|skip
  case ptr t' id p=>
   split at hq<;>first|cases hq|skip
   rename_i hb
   have:=Ty.eq_of_beq _ _ hb;subst this
   replace hq:=bind_some_inv hq;obtain⟨k,hk,hq⟩:=hq
   obtain⟨kk,hk1,hk2⟩:=nA hk
   rw[hk1] at hi2
   obtain⟨fF,_⟩:=eu hi2
   obtain⟨b,off,hv,hγ,hob⟩:=oh hx
   refine⟨_,hq,.value (v:=.pointer (some ⟨b,off+k*e.size,none⟩)) (w':=w) (by simp only[execOp,hv,fF,Sem.run_bind,jT hl hk2,Result.andThen_ok,Sem.run_pure]) (Qp.same h (jd hγ fun o ho=>?_) _)⟩
   obtain⟨k1,rfl⟩:=hob o ho
   have:=tG (i:=k) (u:=e) k1 (by cases e<;>simp[aI])
   exact⟨this.1,by rw[this.2];cases e<;>simp[aL]⟩
  case fptr t' z=>
   split at hq<;>first|cases hq|skip
   rename_i hb
   have:=Ty.eq_of_beq _ _ hb;subst this
   replace hq:=bind_some_inv hq;obtain⟨k,hk,hq⟩:=hq
   replace hq:=bind_some_inv hq;obtain⟨z',hz,hq⟩:=hq
   obtain⟨kk,hk1,hk2⟩:=nA hk
   rw[hk1] at hi2
   obtain⟨fF,_⟩:=eu hi2
   obtain⟨k1,k0,b,off,hv,k2⟩:=uT hx
   have hg:z.get [k]=some z':=by simp[D.get,hz]
   obtain⟨m1,A,B,m2,m3⟩:=ig [k] k1 k0 (show aI (.arr n e) [k]=some e by cases e<;>simp[aI]) hg
   rw[m2] at k2
   have k3:=k2.part
   rw[m3] at k3
   refine⟨_,hq,.value (v:=.pointer (some ⟨b,off+k*e.size,none⟩)) (w':=w) (by simp only[execOp,hv,fF,Sem.run_bind,jT hl hk2,Result.andThen_ok,Sem.run_pure]) (Qp.same h (mb m1 (by simpa [af] using k0) ?_) _)⟩
   have:aL (.arr n e) [k]=k*e.size:=by cases e<;>simp[aL]
   rwa [this] at k3
 case sl e=>
  rcases hE.lay T _ ht with⟨ts',hts⟩|hl
  ·cases hts
  have hne:af e=true:=by have:=aD _ _ hl;simpa [af] using this
  by_cases hm:∃ t' id,y=.mem t' id
  ·obtain⟨t',id,rfl⟩:=hm
   simp only at hq
   split at hq<;>first|cases hq|skip
   rename_i hb
   have:=Ty.eq_of_beq _ _ hb;subst this
   split at hq<;>first|cases hq|skip
   rename_i u l hob
   replace hq:=bind_some_inv hq;obtain⟨k,hk,hq⟩:=hq
   obtain⟨kk,hk1,hk2⟩:=nA hk
   rw[hk1] at hi2
   obtain⟨fF,_⟩:=eu hi2
   obtain⟨_,b,hγ,hob2⟩:=DJ hx
   obtain⟨l',e1,hv⟩:=hob2 _ hob
   cases e1
   refine⟨_,hq,.value (v:=.pointer (some ⟨b,0+k*t'.size,none⟩)) (w':=w) (by simp only[execOp,hv,fF,Sem.run_bind,gX hl hk2,Result.andThen_ok,Sem.run_pure]) (Qp.same h (jd hγ fun o ho=>?_) _)⟩
   have:o=.many t' l:=by have:=hob.symm.trans ho;cases this;rfl
   subst this
   exact⟨by cases t'<;>simp[fo,aI],by cases t'<;>simp[cB,aL]⟩
  ·have hq':(y.asList s.ob e).bind (fun l=>(ix.2.idx l.length).bind fun k=>(l[k]?).bind fun y=>K (.fptr e y))=some r:=by
    cases y<;>first|exact hq|exact absurd ⟨_,_,rfl⟩ hm
   obtain⟨l,h1,hq⟩:=bind_some_inv hq'
   replace hq:=bind_some_inv hq;obtain⟨k,hk,hq⟩:=hq
   replace hq:=bind_some_inv hq;obtain⟨z,hz,hq⟩:=hq
   obtain⟨kk,hk1,hk2⟩:=nA hk
   rw[hk1] at hi2
   obtain⟨fF,_⟩:=eu hi2
   obtain⟨k1,k2⟩:=lh hne hx h1
   obtain⟨A,cap,b,off,hv,k3,k4,k5⟩:=k2.elems
   have hA:A=some ⟨b,off,none⟩:=by
    rcases k3 with rfl|k3
    ·simp at hz
    ·exact k3
   rw[bO hz] at k5
   have k6:=k5.part
   rw[au hne _ (fun x hx=>k1 x (List.mem_of_mem_take hx)),List.length_take,Nat.min_eq_left (Nat.le_of_lt hk2)] at k6
   exact⟨_,hq,.value (v:=.pointer (some ⟨b,off+k*e.size,none⟩)) (w':=w) (by simp only[execOp,hv,hA,fF,Sem.run_bind,gX hl hk2,Result.andThen_ok,Sem.run_pure]) (Qp.same h (mb (k1 z (List.mem_of_getElem? hz)) hne k6) _)⟩
theorem gh{T:TypeId}{t:Ty}(hl:bh P t T=true){cs:Array Value}{pre mid post:List Value}(hcs:cs.toList=pre++(mid++post))(hm:mid.length=t.size)(hn:nag mid)(w:World) :
  ∃ v,(part T cs pre.length).run P w=.ok v w/\fa t mid v:=by
 have e:cs=(pre++(mid++post)).toArray:=by rw[<-hcs]
 subst e
 unfold part
 rw[Sem.run_bind,Ac hl,Result.andThen_ok]
 cases ha:cz t
 ·have h1:mid.length=1:=by
   rw[hm]
   cases t<;>simp[cz] at ha<;>first|rfl|(exfalso;exact tY hl (.inl ⟨_,rfl⟩))
  match mid,h1 with
  | [c],_=>
   have h2:=hn c (by simp)
   refine⟨c,?_,?_,?_,?_⟩
   ·simp
   ·cases c<;>simp_all [Value.cells,Value.oneCell']
   ·rw[ha];intro h;cases h
   ·intro _ xs h;subst h;simp[Value.oneCell'] at h2
 ·refine⟨.agg mid.toArray,?_,rfl,fun _=>⟨_,rfl⟩,by rw[ha];intro h;cases h⟩
  simp only[if_true,Sem.run_bind,bJ hl,Result.andThen_ok,Sem.run_pure]
  congr 2
  rw[<-hm]
  simp
theorem C8(hE:EnvOk P E)(h:Rp w0 S γ β s a w){dst T x f ty pos after guard}:iz P E w0 S γ β s a w ⟨dst,.field T x f,ty,pos,after,guard⟩:=by
 intro R K r hq
 simp only[qv] at hq
 replace hq:=bind_some_inv hq;obtain⟨t,ht,hq⟩:=hq
 have hx:=aP h x
 generalize s.opA x=y at *
 cases t<;>(try simp only at hq)<;>first|cases hq|skip
 rename_i ts
 cases y<;>(try simp only at hq)<;>first|cases hq|skip
 rename_i t' z
 split at hq<;>first|cases hq|skip
 rename_i hb
 have:=Ty.eq_of_beq _ _ hb;subst this
 replace hq:=bind_some_inv hq;obtain⟨u,hu,hq⟩:=hq
 replace hq:=bind_some_inv hq;obtain⟨z',hz,hq⟩:=hq
 rcases hE.lay T _ ht with⟨ts',hts⟩|hl
 ·cases hts
 have hn:=aD _ _ hl
 obtain⟨k1,k2⟩:=yV hx hn
 have hg:z.get [f]=some z':=by simp[D.get,hz]
 obtain⟨m1,A,B,m2,m3⟩:=ig [f] k1 hn (show aI (.st ts) [f]=some u by simp[aI,hu]) hg
 obtain⟨k3,k4⟩:=k2
 rw[m2] at k4
 obtain⟨k5,k6⟩:=k4.split
 obtain⟨k7,k8⟩:=k6.split
 obtain⟨fs,h1,h2⟩:=iT hl
 obtain⟨g,h3,h4,_,h6⟩:=pL h2 hu
 have hnu:=aD _ _ h6
 obtain⟨cs,hcs⟩:∃ cs,a.eval x=.agg cs:=by
  simp only[wt] at k1;obtain⟨l,rfl,_⟩:=k1;exact k3
 rw[hcs] at k5 k6 k7 k8
 simp only[Value.cells] at k5 k6 k7 k8
 obtain⟨v,hrun,hval⟩:=gh h6 (cs:=cs) (pre:=cs.toList.take A.length) (mid:=(cs.toList.drop A.length).take z'.flat.length) (post:=(cs.toList.drop A.length).drop z'.flat.length)
  (by simp only[List.take_append_drop]) (by rw[<-k7.1];exact bu _ _ m1 hnu) k7.nag w
 have hoff:g.offset=(cs.toList.take A.length).length:=by rw[<-k5.1,m3,h4];simp[aL]
 have h3':fs[f]?=some g:=by simpa using h3
 exact⟨_,hq,.value (v:=v) (w':=w) (by simp only[execOp,hcs,Instr.field,Sem.run_bind,run_underlying h1,Result.andThen_ok,h3',asAgg,Sem.run_pure,hoff,hrun]) (Qp.same h (te (bv _ _) (by simp only[AC];exact⟨m1,hnu,k7⟩) hval) _)⟩
theorem D7(hE:EnvOk P E)(h:Rp w0 S γ β s a w){dst T x i ty pos after guard}:iz P E w0 S γ β s a w ⟨dst,.index T x i,ty,pos,after,guard⟩:=by
 intro R K r hq
 simp only[qv] at hq
 replace hq:=bind_some_inv hq;obtain⟨t,ht,hq⟩:=hq
 replace hq:=bind_some_inv hq;obtain⟨ix,hix,hq⟩:=hq
 have hi:=dV hix
 have hi2:=aP h i
 rw[hi] at hi2
 have hx:=aP h x
 generalize s.opA x=y at *
 cases t<;>(try simp only at hq)<;>first|cases hq|skip
 case str=>
  cases y<;>(try simp only at hq)<;>first|cases hq|skip
  rename_i t' z
  split at hq<;>first|cases hq|skip
  rename_i hb
  have:=Ty.eq_of_beq _ _ hb;subst this
  replace hq:=bind_some_inv hq;obtain⟨z',hz,hq⟩:=hq
  rcases hE.lay T _ ht with⟨ts',hts⟩|hl
  ·cases hts
  obtain⟨k1,k2⟩:=yV hx rfl
  simp only[wt] at k1
  obtain⟨sb,rfl⟩:=k1
  obtain⟨kt,kx⟩:=ix
  cases kx<;>(try simp only[D.strAt] at hz)<;>first|cases hz|skip
  rename_i k n
  obtain⟨bb,hb1,hb2⟩:=bind_some_inv hz
  simp only[Option.some.injEq] at hb2
  subst hb2
  obtain⟨fF,_⟩:=eu hi2
  have hsv:a.eval x=.string sb:=by
   obtain⟨c1,c2⟩:=k2
   obtain⟨c,e,h⟩:=cH.single' c2
   have:=ao c1 e
   rw[this];cases h;rfl
  have hu:P.underlying T=some .string:=by
   simp only[bh,Bool.and_eq_true] at hl
   have h2:=hl.2
   split at h2
   ·assumption
   ·cases h2
  exact⟨_,hq,.value (v:=.int .u8 bb.toNat) (w':=w) (by simp only[execOp,hsv,fF,Instr.index,asIntOf,pure_bind,Sem.run_bind,run_underlying hu,Result.andThen_ok,hb1,Sem.run_pure]) (Qp.same h (cN _ _) _)⟩
 rename_i n e
 cases y<;>(try simp only at hq)<;>first|cases hq|skip
 rename_i t' z
 split at hq<;>first|cases hq|skip
 rename_i hb
 have:=Ty.eq_of_beq _ _ hb;subst this
 replace hq:=bind_some_inv hq;obtain⟨k,hk,hq⟩:=hq
 replace hq:=bind_some_inv hq;obtain⟨z',hz,hq⟩:=hq
 obtain⟨kk,hk1,hk2⟩:=nA hk
 rw[hk1] at hi2
 obtain⟨fF,_⟩:=eu hi2
 rcases hE.lay T _ ht with⟨ts',hts⟩|hl
 ·cases hts
 have hn:=aD _ _ hl
 obtain⟨k1,k2⟩:=yV hx hn
 have hg:z.get [k]=some z':=by simp[D.get,hz]
 obtain⟨m1,A,B,m2,m3⟩:=ig [k] k1 hn (show aI (.arr n e) [k]=some e by cases e<;>simp[aI]) hg
 obtain⟨k3,k4⟩:=k2
 rw[m2] at k4
 obtain⟨k5,k6⟩:=k4.split
 obtain⟨k7,k8⟩:=k6.split
 obtain⟨u,h1,h6⟩:=dT hl
 have hnu:=aD _ _ h6
 obtain⟨cs,hcs⟩:∃ cs,a.eval x=.agg cs:=by
  simp only[wt] at k1;obtain⟨l,rfl,_⟩:=k1;exact k3
 rw[hcs] at k5 k6 k7 k8
 simp only[Value.cells] at k5 k6 k7 k8
 obtain⟨v,hrun,hval⟩:=gh h6 (cs:=cs) (pre:=cs.toList.take A.length) (mid:=(cs.toList.drop A.length).take z'.flat.length) (post:=(cs.toList.drop A.length).drop z'.flat.length)
  (by simp only[List.take_append_drop]) (by rw[<-k7.1];exact bu _ _ m1 hnu) k7.nag w
 have hoff:k*e.size=(cs.toList.take A.length).length:=by rw[<-k5.1,m3];cases e<;>simp[aL]
 have hk':(0:Int)<=(k:Int)/\(k:Int)<(n:Int):=by omega
 exact⟨_,hq,.value (v:=v) (w':=w) (by simp only[execOp,hcs,fF,Instr.index,asIntOf,pure_bind,Sem.run_bind,run_underlying h1,Result.andThen_ok,hk',and_self,if_true,bJ h6,Int.toNat_natCast,hoff,hrun,Sem.run_pure]) (Qp.same h (te (bv _ _) (by simp only[AC];exact⟨m1,hnu,k7⟩) hval) _)⟩
end
end Go.Proofs.YtjjjkojfijpeeaaGreat.Sy
end
section
namespace Go.Proofs.YtjjjkojfijpeeaaGreat.Sy
open Go
def zJ:BinOp->Bool
 | .eql|.neq|.lss|.leq|.gtr|.geq=>true
 | _=>false
section
variable{P:Program}{E:Env}{w0:Root}{S:Nat->Nat->Prop}{γ:Nat->Option Nat}{β:Nat->Option (Nat×Nat)}{s:St}{a:Act}{w:World}
theorem Gw{op:BinOp}{k k':IntKind}{x y:Int}{z:D}(T:TypeId)(w:World)(h:D.bin op (.int k x) (.int k' y)=some z) :
  (zJ op=true/\∃ c,z=.bool c/\(binOp op T (.int k x) (.int k' y)).run P w=.ok (.bool c) w)\/(zJ op=false/\∃ n,z=.int k n/\(binOp op T (.int k x) (.int k' y)).run P w=.ok (.int k n) w):=by
 cases op<;>simp only[D.bin,D.bitOp] at h
 case shl=>
     split at h<;>first|(cases h;done)|skip
     rename_i hy
     simp only[Option.some.injEq] at h
     exact .inr ⟨rfl,_,h.symm,by simp[binOp,Op.shift,hy]⟩
 case shr=>
     split at h<;>first|(cases h;done)|skip
     rename_i hy
     simp only[Option.some.injEq] at h
     exact .inr ⟨rfl,_,h.symm,by simp[binOp,Op.shift,hy]⟩
 case quo=>
  split at h<;>first|(cases h;done)|skip
  rename_i hk;subst hk
  split at h<;>first|(cases h;done)|skip
  rename_i hy;simp only[Option.some.injEq] at h
  exact .inr ⟨rfl,_,h.symm,by simp[binOp,Op.intDiv,hy]⟩
 case rem=>
  split at h<;>first|(cases h;done)|skip
  rename_i hk;subst hk
  split at h<;>first|(cases h;done)|skip
  rename_i hy;simp only[Option.some.injEq] at h
  exact .inr ⟨rfl,_,h.symm,by simp[binOp,Op.intDiv,hy]⟩
 all_goals (split at h<;>first|(cases h;done)|skip)
 all_goals (rename_i hk;subst hk)
 all_goals (simp only[Option.some.injEq] at h)
 all_goals first
  | (refine .inl ⟨rfl,_,h.symm,?_⟩;simp[binOp,Op.intCmp];done)
  | (refine .inr ⟨rfl,_,h.symm,?_⟩;simp[binOp,Op.intArith];done)
  | (refine .inr ⟨rfl,_,h.symm,?_⟩;simp only[binOp,ne_eq,not_true_eq_false,if_false];rfl)
theorem eJ(op:BinOp)(T:TypeId)(x y:Operand)(k k':IntKind)(u v:Int)(w:World):(eqGuard op T x y (.int k u) (.int k' v)).run P w=.ok () w:=by cases op<;>simp[eqGuard]
theorem jc(op:BinOp)(T:TypeId)(x y:Operand)(u v:Bool)(w:World):(eqGuard op T x y (.bool u) (.bool v)).run P w=.ok () w:=by cases op<;>simp[eqGuard]
theorem ef{t:Ty}{c v:Value}(h:fa t [c] v)(ha:cz t=false):v=c:=ao (h.2.2 ha) h.1
theorem gN{t:Ty}{cs:List Value}{v:Value}(h:fa t cs v)(ha:cz t=true):v=.agg cs.toArray:=by
 obtain⟨xs,rfl⟩:=h.2.1 ha
 have:=h.1
 simp only[Value.cells] at this
 rw[<-this]
theorem xf:∀ (n:Nat) {l l':List D},l.length=n->l'.length=n->D.beqs l l'=(List.range n).all fun j=>D.beq (l.getD j (.bool false)) (l'.getD j (.bool false))
 | 0,[],[],_,_=>rfl
 | n+1,x::l,y::l',h,h'=>by
  simp only[D.beqs,List.range_succ_eq_map,List.all_cons,List.all_map]
  rw[xf n (by simpa using h) (by simpa using h')]
  rfl
mutual
theorem nM:∀ (ty:Ty) (T:TypeId) (x y:D) (cx cy:List Value) (vx vy:Value) (d:Nat),bh P ty T=true->aW ty=true->ty.high<=d->wt ty x->wt ty y->cH w S x.flat cx->cH w S y.flat cy->fa ty cx vx->fa ty cy vy ->
  ∀ w',(Op.equalIn d T vx vy).run P w'=.ok (D.beq x y) w'
 | .int k,T,x,y,cx,cy,vx,vy,d,hl,_,hd,hx,hy,rx,ry,ix,iy,w'=>by
  simp only[wt] at hx hy
  obtain⟨n,rfl⟩:=hx
  obtain⟨m,rfl⟩:=hy
  obtain⟨c1,rfl,r1⟩:=rx.single'
  obtain⟨c2,rfl,r2⟩:=ry.single'
  rw[ef ix rfl,ef iy rfl,r1.int_inv,r2.int_inv]
  obtain⟨d,rfl⟩:∃ e,d=e+1:=⟨d-1,by simp only[Ty.high] at hd;omega⟩
  rw[run_equalIn_int w' d T k k n m (jG hl)]
  simp only[D.beq,decide_true,Bool.true_and]
  rfl
 | .bool,T,x,y,cx,cy,vx,vy,d,hl,_,hd,hx,hy,rx,ry,ix,iy,w'=>by
  simp only[wt] at hx hy
  obtain⟨n,rfl⟩:=hx
  obtain⟨m,rfl⟩:=hy
  obtain⟨c1,rfl,r1⟩:=rx.single'
  obtain⟨c2,rfl,r2⟩:=ry.single'
  rw[ef ix rfl,ef iy rfl,r1.bool_inv,r2.bool_inv]
  obtain⟨d,rfl⟩:∃ e,d=e+1:=⟨d-1,by simp only[Ty.high] at hd;omega⟩
  have hu:P.underlying T=some .bool:=by
   simp only[bh,Bool.and_eq_true] at hl
   have h2:=hl.2
   split at h2
   ·rename_i hu;exact hu
   ·cases h2
  rw[run_equalIn_bool' w' d T n m hu]
  rfl
 | .st ts,T,x,y,cx,cy,vx,vy,d,hl,hc,hd,hx,hy,rx,ry,ix,iy,w'=>by
  simp only[wt] at hx hy
  obtain⟨l,rfl,hx⟩:=hx
  obtain⟨l',rfl,hy⟩:=hy
  rw[gN ix rfl,gN iy rfl]
  obtain⟨fs,h1,h2⟩:=iT hl
  have h3:P.fieldsOf T=fs:=by simp[Program.fieldsOf,h1]
  have h4:P.stoodInHeld T=false:=by
   simp only[bh,Bool.and_eq_true,Bool.not_eq_true'] at hl;exact hl.1.1.2
  simp only[Ty.high] at hd
  obtain⟨d,rfl⟩:∃ e,d=e+1:=⟨d-1,by omega⟩
  rw[run_equalIn_struct w' d T _ _ (by rw[h3];exact h1) h4,h3]
  simp only[aW] at hc
  simp only[D.beq]
  simp only[D.flat] at rx ry
  exact o8 ts fs.toList 0 l l' [] cx [] cy _ _ d h2 hc (by omega) hx hy rx ry rfl rfl rfl rfl w'
 | .arr n t,T,x,y,cx,cy,vx,vy,d,hl,hc,hd,hx,hy,rx,ry,ix,iy,w'=>by
  simp only[wt] at hx hy
  obtain⟨l,rfl,hxl,hx⟩:=hx
  obtain⟨l',rfl,hyl,hy⟩:=hy
  rw[gN ix rfl,gN iy rfl]
  obtain⟨u,h1,h2⟩:=dT hl
  obtain⟨i,z,h3,h4,_⟩:=eR (fM h2)
  simp only[Ty.high] at hd
  obtain⟨d,rfl⟩:∃ e,d=e+1:=⟨d-1,by omega⟩
  rw[run_equalIn_array w' d _ _ h1 h3]
  simp only[aW] at hc
  simp only[D.beq]
  simp only[D.flat] at rx ry
  have hcell:P.cellsOf u=t.size:=by simp[Program.cellsOf,h3,h4]
  have hn:=aD _ _ h2
  rw[xf n hxl hyl]
  have key:∀ (is:List Nat) (w':World),(∀ j∈is,j<n)->(Op.eqItems d u (P.cellsOf u) cx.toArray cy.toArray is).run P w'=.ok (is.all fun j=>D.beq (l.getD j (.bool false)) (l'.getD j (.bool false))) w':=by
   intro is
   induction is with
   | nil=>intro w' _;simp[Op.eqItems]
   | cons j is ih=>
    intro w' hj
    have hjn:=hj j (by simp)
    have e1:l[j]?=some (l.getD j (.bool false)):=by simp[List.getD,List.getElem?_eq_getElem (hxl ▸ hjn)]
    have e2:l'[j]?=some (l'.getD j (.bool false)):=by simp[List.getD,List.getElem?_eq_getElem (hyl ▸ hjn)]
    generalize l.getD j (.bool false)=dx at *
    generalize l'.getD j (.bool false)=dy at *
    have wx:=hx dx (List.mem_of_getElem? e1)
    have wy:=hy dy (List.mem_of_getElem? e2)
    have rx':=rx
    have ry':=ry
    rw[bO e1] at rx'
    rw[bO e2] at ry'
    obtain⟨p1,p2⟩:=rx'.split
    obtain⟨p3,p4⟩:=p2.split
    obtain⟨q1,q2⟩:=ry'.split
    obtain⟨q3,q4⟩:=q2.split
    have o1:(cx.take (D.flats (l.take j)).length).length=j*t.size:=by
     rw[<-p1.1,au hn _ (fun x hx'=>hx x (List.mem_of_mem_take hx')),List.length_take,Nat.min_eq_left (by omega)]
    have o2:(cy.take (D.flats (l'.take j)).length).length=j*t.size:=by
     rw[<-q1.1,au hn _ (fun x hx'=>hy x (List.mem_of_mem_take hx')),List.length_take,Nat.min_eq_left (by omega)]
    obtain⟨v1,r1,i1⟩:=gh h2 (cs:=cx.toArray) (pre:=cx.take (D.flats (l.take j)).length) (mid:=(cx.drop (D.flats (l.take j)).length).take dx.flat.length) (post:=(cx.drop (D.flats (l.take j)).length).drop dx.flat.length)
     (by simp only[List.take_append_drop]) (by rw[<-p3.1];exact bu _ _ wx hn) p3.nag w'
    obtain⟨v2,r2,i2⟩:=gh h2 (cs:=cy.toArray) (pre:=cy.take (D.flats (l'.take j)).length) (mid:=(cy.drop (D.flats (l'.take j)).length).take dy.flat.length) (post:=(cy.drop (D.flats (l'.take j)).length).drop dy.flat.length)
     (by simp only[List.take_append_drop]) (by rw[<-q3.1];exact bu _ _ wy hn) q3.nag w'
    rw[o1,<-hcell] at r1
    rw[o2,<-hcell] at r2
    have r3:=nM t u dx dy _ _ v1 v2 d h2 hc (by omega) wx wy p3 q3 i1 i2 w'
    simp only[Op.eqItems,Sem.run_bind,r1,r2,r3,Result.andThen_ok,List.all_cons]
    have e1':l[j]?.getD (.bool false)=dx:=by rw[e1];rfl
    have e2':l'[j]?.getD (.bool false)=dy:=by rw[e2];rfl
    have ih':=ih w' (fun k hk=>hj k (by simp[hk]))
    simp only[List.getD,e1',e2']
    cases D.beq dx dy
    ·simp
    ·simpa [List.getD] using ih'
  exact key _ w' (fun j hj=>by simpa using hj)
 | .str,_,_,_,_,_,_,_,_,_,hc,_,_,_,_,_,_,_,_=>by simp[aW] at hc
 | .sl _,_,_,_,_,_,_,_,_,_,hc,_,_,_,_,_,_,_,_=>by simp[aW] at hc
 | .tup _,_,_,_,_,_,_,_,_,_,hc,_,_,_,_,_,_,_,_=>by simp[aW] at hc
 | .fn,_,_,_,_,_,_,_,_,_,hc,_,_,_,_,_,_,_,_=>by simp[aW] at hc
theorem o8:∀ (ts:List Ty) (fs:List Field) (off:Nat) (l l':List D) (px cx py cy:List Value) (xs ys:Array Value) (d:Nat),fq P ts fs off=true->kz ts=true->Ty.highs ts<=d->gn ts l->gn ts l'->cH w S (D.flats l) cx->cH w S (D.flats l') cy ->
  xs.toList=px++cx->px.length=off->ys.toList=py++cy->py.length=off->∀ w',(Op.eqFields d xs ys fs).run P w'=.ok (D.beqs l l') w'
 | [],fs,off,l,l',px,cx,py,cy,xs,ys,d,hf,_,_,hx,hy,_,_,_,_,_,_,w'=>by
  simp only[gn] at hx hy
  subst hx;subst hy
  cases fs with
  | nil=>simp[Op.eqFields,D.beqs]
  | cons f fs=>simp[fq] at hf
 | t::ts,[],off,l,l',px,cx,py,cy,xs,ys,d,hf,_,_,hx,hy,_,_,_,_,_,_,w'=>by simp[fq] at hf
 | t::ts,f::fs,off,l,l',px,cx,py,cy,xs,ys,d,hf,hc,hd,hx,hy,rx,ry,ex,lx,ey,ly,w'=>by
  simp only[fq,Bool.and_eq_true,decide_eq_true_eq] at hf
  obtain⟨⟨⟨⟨h1,h2⟩,h3⟩,h4⟩,h5⟩:=hf
  simp only[gn] at hx hy
  obtain⟨dx,l,rfl,hx1,hx2⟩:=hx
  obtain⟨dy,l',rfl,hy1,hy2⟩:=hy
  simp only[D.flats] at rx ry
  obtain⟨p3,p4⟩:=rx.split
  obtain⟨q3,q4⟩:=ry.split
  have hn:=aD _ _ h4
  simp only[kz,Bool.and_eq_true] at hc
  simp only[Ty.highs] at hd
  obtain⟨v1,r1,i1⟩:=gh h4 (cs:=xs) (pre:=px) (mid:=cx.take dx.flat.length) (post:=cx.drop dx.flat.length) (by rw[ex,List.take_append_drop]) (by rw[<-p3.1];exact bu _ _ hx1 hn) p3.nag w'
  obtain⟨v2,r2,i2⟩:=gh h4 (cs:=ys) (pre:=py) (mid:=cy.take dy.flat.length) (post:=cy.drop dy.flat.length) (by rw[ey,List.take_append_drop]) (by rw[<-q3.1];exact bu _ _ hy1 hn) q3.nag w'
  rw[lx,<-h1] at r1
  rw[ly,<-h1] at r2
  have r3:=nM t f.type dx dy _ _ v1 v2 d h4 hc.1 (by omega) hx1 hy1 p3 q3 i1 i2 w'
  have hs1:(cx.take dx.flat.length).length=t.size:=by rw[<-p3.1];exact bu _ _ hx1 hn
  have hs2:(cy.take dy.flat.length).length=t.size:=by rw[<-q3.1];exact bu _ _ hy1 hn
  have ih:=o8 ts fs (off+t.size) l l' (px++cx.take dx.flat.length) (cx.drop dx.flat.length) (py++cy.take dy.flat.length) (cy.drop dy.flat.length) xs ys d h5 hc.2 (by omega) hx2 hy2 p4 q4
   (by rw[List.append_assoc,List.take_append_drop];exact ex) (by rw[List.length_append,lx,hs1]) (by rw[List.append_assoc,List.take_append_drop];exact ey) (by rw[List.length_append,ly,hs2]) w'
  simp only[Op.eqFields,h2,ne_eq,not_false_eq_true,if_true,Sem.run_bind,r1,r2,r3,Result.andThen_ok,D.beqs]
  cases D.beq dx dy
  ·simp
  ·simpa using ih
end
theorem CU(hE:EnvOk P E)(h:Rp w0 S γ β s a w){dst op T x y T' ty pos after guard}:iz P E w0 S γ β s a w ⟨dst,.binOp op T x y T',ty,pos,after,guard⟩:=by
 intro R K r hq
 simp only[qv] at hq
 replace hq:=bind_some_inv hq;obtain⟨t,ht,hq⟩:=hq
 replace hq:=bind_some_inv hq;obtain⟨u,hu,hq⟩:=hq
 replace hq:=bind_some_inv hq;obtain⟨v,hv,hq⟩:=hq
 have hx:=aP h x
 have hy:=aP h y
 rw[dV hu] at hx
 rw[dV hv] at hy
 have eqc:∀ (ng:Bool),(u.1.beq t&&v.1.beq t&&aW t)=true->∀ (o:BinOp),(o=.eql/\ng=false)\/(o=.neq/\ng=true) ->
   (execOp a.eval ⟨dst,.binOp o T x y T',ty,pos,after,guard⟩).run P w=.ok (.value (.bool (xor ng (D.beq u.2 v.2)))) w:=by
  intro ng hb o ho
  simp only[Bool.and_eq_true] at hb
  obtain⟨⟨h1,h2⟩,h3⟩:=hb
  have e1:=Ty.eq_of_beq _ _ h1
  have e2:=Ty.eq_of_beq _ _ h2
  rw[e1] at hx
  rw[e2] at hy
  have hl:bh P t T=true:=by
   rcases hE.lay T _ ht with⟨ts',rfl⟩|hl
   ·simp[aW] at h3
   ·exact hl
  have hn:=aD _ _ hl
  obtain⟨k1,k2⟩:=yV hx hn
  obtain⟨m1,m2⟩:=yV hy hn
  have hh:=hE.high T _ ht
  have i1:fa t (a.eval x).cells.toList (a.eval x):=⟨rfl,mF k1 hn k2.1⟩
  have i2:fa t (a.eval y).cells.toList (a.eval y):=⟨rfl,mF m1 hn m2.1⟩
  have r3:=nM t T u.2 v.2 _ _ _ _ 10000 hl h3 (by omega) k1 m1 k2.2 m2.2 i1 i2 w
  cases t<;>simp only[aW] at h3<;>first|cases h3|skip
  case int k=>
   simp only[wt] at k1 m1
   obtain⟨n,e3⟩:=k1
   obtain⟨m,e4⟩:=m1
   rw[e3] at k2 hx ⊢
   rw[e4] at m2 hy ⊢
   have v1:=k2.int_inv
   have v2:=m2.int_inv
   rcases ho with⟨rfl,rfl⟩|⟨rfl,rfl⟩
   ·simp only[execOp,v1,v2,Sem.run_bind,eJ,Result.andThen_ok]
    simp[binOp,Op.intCmp,D.beq]
    rfl
   ·simp only[execOp,v1,v2,Sem.run_bind,eJ,Result.andThen_ok]
    simp[binOp,Op.intCmp,D.beq]
    rfl
  case bool=>
   simp only[wt] at k1 m1
   obtain⟨n,e3⟩:=k1
   obtain⟨m,e4⟩:=m1
   rw[e3] at k2 hx r3 ⊢
   rw[e4] at m2 hy r3 ⊢
   have v1:=k2.bool_inv
   have v2:=m2.bool_inv
   rw[v1,v2] at r3
   rcases ho with⟨rfl,rfl⟩|⟨rfl,rfl⟩
   ·simp only[execOp,v1,v2,Sem.run_bind,jc,Result.andThen_ok,binOp,Op.equal,Op.maxDepth,r3,Sem.run_pure,Bool.false_xor]
   ·simp only[execOp,v1,v2,Sem.run_bind,jc,Result.andThen_ok,binOp,Op.equal,Op.maxDepth,r3,Sem.run_pure,Bool.true_xor]
  case st ts=>
   obtain⟨xs,e3⟩:=i1.2.1 rfl
   obtain⟨ys,e4⟩:=i2.2.1 rfl
   have hg:P.eqGuardType P.depth T=false:=by simp only[bh,Bool.and_eq_true,Bool.not_eq_true'] at hl;exact hl.1.2
   rw[e3,e4] at r3
   rcases ho with⟨rfl,rfl⟩|⟨rfl,rfl⟩
   ·simp only[execOp,e3,e4,Sem.run_bind,run_eqGuard_agg w _ T x y xs ys hg,Result.andThen_ok,binOp,Op.equal,Op.maxDepth,r3,Sem.run_pure,Bool.false_xor]
   ·simp only[execOp,e3,e4,Sem.run_bind,run_eqGuard_agg w _ T x y xs ys hg,Result.andThen_ok,binOp,Op.equal,Op.maxDepth,r3,Sem.run_pure,Bool.true_xor]
  case arr n e=>
   obtain⟨xs,e3⟩:=i1.2.1 rfl
   obtain⟨ys,e4⟩:=i2.2.1 rfl
   have hg:P.eqGuardType P.depth T=false:=by simp only[bh,Bool.and_eq_true,Bool.not_eq_true'] at hl;exact hl.1.2
   rw[e3,e4] at r3
   rcases ho with⟨rfl,rfl⟩|⟨rfl,rfl⟩
   ·simp only[execOp,e3,e4,Sem.run_bind,run_eqGuard_agg w _ T x y xs ys hg,Result.andThen_ok,binOp,Op.equal,Op.maxDepth,r3,Sem.run_pure,Bool.false_xor]
   ·simp only[execOp,e3,e4,Sem.run_bind,run_eqGuard_agg w _ T x y xs ys hg,Result.andThen_ok,binOp,Op.equal,Op.maxDepth,r3,Sem.run_pure,Bool.true_xor]
 have ints:∀ {z:D} {o:BinOp},D.bin o u.2 v.2=some z->∃ k k' n m,u.2=.int k n/\v.2=.int k' m:=by
  intro z o hz
  cases hu2:u.2<;>rw[hu2] at hz<;>cases hv2:v.2<;>rw[hv2] at hz<;>simp only[D.bin] at hz<;>first|cases hz|skip
  exact⟨_,_,_,_,rfl,rfl⟩
 have main:∀ (o:BinOp) {z:D},D.bin o u.2 v.2=some z->∃ vv,(execOp a.eval ⟨dst,.binOp o T x y T',ty,pos,after,guard⟩).run P w=.ok (.value vv) w ∧
   ((zJ o=true->AR ⟨w,S,γ,β,s.ob,s.dead⟩ (.d .bool z) vv)/\(zJ o=false->AR ⟨w,S,γ,β,s.ob,s.dead⟩ (.d u.1 z) vv)):=by
  intro o z hz
  obtain⟨k,k',n,m,e1,e2⟩:=ints hz
  rw[e1,e2] at hz
  rw[e1] at hx
  rw[e2] at hy
  obtain⟨v1,t1⟩:=eu hx
  obtain⟨v2,_⟩:=eu hy
  rcases Gw (P:=P) T w hz with⟨h1,c,rfl,h2⟩|⟨h1,c,rfl,h2⟩
  ·refine⟨.bool c,by simp only[execOp,v1,v2,Sem.run_bind,eJ,Result.andThen_ok,h2,Sem.run_pure],fun _=>g9 c,fun h=>by rw[h1] at h;cases h⟩
  ·refine⟨.int k c,by simp only[execOp,v1,v2,Sem.run_bind,eJ,Result.andThen_ok,h2,Sem.run_pure],(fun h=>by rw[h1] at h;cases h),fun _=>by rw[t1];exact cN k c⟩
 cases op<;>simp only at hq
 case eql=>
  split at hq<;>first|cases hq|skip
  rename_i hb
  exact⟨_,hq,.value (eqc false hb .eql (.inl ⟨rfl,rfl⟩)) (Qp.same h (by simp only[Bool.false_xor];exact g9 _) _)⟩
 case neq=>
  split at hq<;>first|cases hq|skip
  rename_i hb
  exact⟨_,hq,.value (eqc true hb .neq (.inr ⟨rfl,rfl⟩)) (Qp.same h (by simp only[Bool.true_xor];exact g9 _) _)⟩
 all_goals
  replace hq:=bind_some_inv hq;obtain⟨z,hz,hq⟩:=hq
  obtain⟨vv,h1,h2,h3⟩:=main _ hz
  first
   | exact⟨_,hq,.value h1 (Qp.same h (h2 rfl) _)⟩
   | exact⟨_,hq,.value h1 (Qp.same h (h3 rfl) _)⟩
theorem EQ(h:Rp w0 S γ β s a w){dst op T x ty pos after guard}:iz P E w0 S γ β s a w ⟨dst,.unOp op T x,ty,pos,after,guard⟩:=by
 intro R K r hq
 simp only[qv] at hq
 replace hq:=bind_some_inv hq;obtain⟨u,hu,hq⟩:=hq
 replace hq:=bind_some_inv hq;obtain⟨z,hz,hq⟩:=hq
 have hx:=aP h x
 rw[dV hu] at hx
 cases hu2:u.2<;>rw[hu2] at hz hx<;>simp only[D.un] at hz<;>first|cases hz|skip
 case int k n=>
  obtain⟨v1,t1⟩:=eu hx
  cases op<;>simp only[D.bitOp] at hz<;>first|cases hz|skip
  ·exact⟨_,hq,.value (v:=.int k (k.wrap (0-n))) (w':=w) (by simp[execOp,v1,Op.unary,Op.intArith]) (Qp.same h (by rw[t1];exact cN _ _) _)⟩
  ·exact⟨_,hq,.value (v:=.int k (k.wrap (BitVec.ofInt k.bits (if k.signed then -1 else k.max) ^^^ BitVec.ofInt k.bits n).toNat)) (w':=w) (by simp[execOp,v1,Op.unary,Op.intBits]) (Qp.same h (by rw[t1];exact cN _ _) _)⟩
 case bool b=>
  have v1:=zQ hx
  cases op<;>simp only at hz<;>first|cases hz|skip
  have ht:u.1=.bool:=by
   simp only[AR] at hx
   rcases hx with⟨_,h2,_⟩|⟨ts,h1,_,h2,_⟩
   ·cases hu1:u.1<;>rw[hu1] at h2<;>simp only[wt] at h2<;>first
     | rfl
     | (obtain⟨m,h4⟩:=h2;cases h4;done)
     | (obtain⟨m,h4,_⟩:=h2;cases h4;done)
     | (exfalso;exact h2)
   ·rw[h1] at h2;simp only[wt] at h2;obtain⟨l,h4,_⟩:=h2;cases h4
  exact⟨_,hq,.value (v:=.bool (!b)) (w':=w) (by simp[execOp,v1,Op.unary]) (Qp.same h (by rw[ht];exact g9 _) _)⟩
theorem zu(hE:EnvOk P E)(h:Rp w0 S γ β s a w){dst U T x ty pos after guard}:iz P E w0 S γ β s a w ⟨dst,.convert U T x,ty,pos,after,guard⟩:=by
 intro R K r hq
 simp only[qv] at hq
 replace hq:=bind_some_inv hq;obtain⟨u,hu,hq⟩:=hq
 replace hq:=bind_some_inv hq;obtain⟨t,ht,hq⟩:=hq
 replace hq:=bind_some_inv hq;obtain⟨b,hb,hq⟩:=hq
 have hx:=aP h x
 rw[dV hb] at hx
 cases t<;>(try simp only at hq)<;>first|cases hq|skip
 rename_i k
 split at hq<;>first|cases hq|skip
 rename_i hbu
 replace hq:=bind_some_inv hq;obtain⟨z,hz,hq⟩:=hq
 cases hb2:b.2<;>rw[hb2] at hz hx<;>simp only[D.conv] at hz<;>first|cases hz|skip
 rename_i k' n
 obtain⟨v1,t1⟩:=eu hx
 have e1:=Ty.eq_of_beq _ _ hbu
 rw[t1] at e1
 rw[<-e1] at hu
 rcases hE.lay T _ ht with⟨ts',hts⟩|hl
 ·cases hts
 rcases hE.lay U _ hu with⟨ts',hts⟩|hl'
 ·cases hts
 exact⟨_,hq,.value (v:=.int k (k.wrap n)) (w':=w) (by simp[execOp,convert,v1,run_underlying (jG hl),run_underlying (jG hl'),Conv.intToInt]) (Qp.same h (cN _ _) _)⟩
end
end Go.Proofs.YtjjjkojfijpeeaaGreat.Sy
end
section
namespace Go.Proofs.YtjjjkojfijpeeaaGreat.Sy
open Go
theorem fX(pre mid post cs:List Value)(h:mid.length=cs.length):cL (pre++(mid++post)).toArray pre.length cs.toArray=(pre++(cs++post)).toArray:=by
 unfold cL
 apply Array.ext'
 simp[h]
 rw[List.take_of_length_le (by omega)]
theorem mt:∀ {ds:List D} {c1 c2:List Value},bP ds c1=true->bP ds c2=true->c1=c2
 | [],[],[],_,_=>rfl
 | [],_::_,_,h,_=>by simp[bP] at h
 | [],[],_::_,_,h=>by simp[bP] at h
 | _::_,[],_,h,_=>by simp[bP] at h
 | _::_,_::_,[],_,h=>by simp[bP] at h
 | d::ds,v1::c1,v2::c2,q1,q2=>by
  simp only[bP,Bool.and_eq_true] at q1 q2
  rw[mt q1.2 q2.2]
  congr 1
  have a1:=q1.1
  have a2:=q2.1
  cases d<;>cases v1<;>simp only[yB] at a1<;>first|(cases a1;done)|skip
  all_goals (cases v2<;>simp only[yB] at a2<;>first|(cases a2;done)|skip)
  all_goals simp_all
section
variable{w:World}{S:Nat->Nat->Prop}
def PV(w:World)(S:Nat->Nat->Prop)(ty:Nat->Option Ty):List (Nat×D)->List (Nat×Value)->Prop
 | [],[]=>True
 | (i,x)::ps,(j,v)::vs=>i=j/\(∃ t,ty i=some t/\wt t x/\af t=true/\eN w S x v)/\PV w S ty ps vs
 | _,_=>False
theorem pH{place:Nat->Option (Nat×Nat)}{ty:Nat->Option Ty}{off:Nat->Nat}{Good:List D->Prop}
  (hset:∀ l i t z,Good l->ty i=some t->wt t z->Good (l.set i z))
  (hget:∀ l i t,Good l->ty i=some t->∃ y,l[i]?=some y/\wt t y/\(D.flats (l.take i)).length=off i)
  (hplace:∀ i t,ty i=some t->place i=some (off i,t.size)) :
  ∀ (ps:List (Nat×D)) (vs:List (Nat×Value)) (l:List D) (cs:List Value),Good l->cH w S (D.flats l) cs->PV w S ty ps vs ->
   ∃ cs':List Value,jS place cs.toArray vs=some cs'.toArray/\Good (D.putParts l ps)/\cH w S (D.flats (D.putParts l ps)) cs'
 | [],[],l,cs,hg,hc,_=>⟨cs,rfl,hg,hc⟩
 | [],_::_,_,_,_,_,h=>by simp[PV] at h
 | _::_,[],_,_,_,_,h=>by simp[PV] at h
 | (i,x)::ps,(j,v)::vs,l,cs,hg,hc,h=>by
  simp only[PV] at h
  obtain⟨rfl,⟨t,h1,h2,h3,h4⟩,h5⟩:=h
  obtain⟨y,k1,k2,k3⟩:=hget l i t hg h1
  rw[bO k1] at hc
  obtain⟨c1,c2⟩:=hc.split
  obtain⟨c3,c4⟩:=c2.split
  have e:cs=cs.take (D.flats (l.take i)).length++((cs.drop (D.flats (l.take i)).length).take y.flat.length++(cs.drop (D.flats (l.take i)).length).drop y.flat.length):=by simp only[List.take_append_drop]
  have l1:(cs.take (D.flats (l.take i)).length).length=off i:=by rw[<-c1.1,k3]
  have l2:((cs.drop (D.flats (l.take i)).length).take y.flat.length).length=t.size:=by rw[<-c3.1];exact bu _ _ k2 h3
  have l3:v.cells.toList.length=t.size:=by rw[<-h4.2.1];exact bu _ _ h2 h3
  have hc':cH w S (D.flats (l.set i x)) (cs.take (D.flats (l.take i)).length++(v.cells.toList++(cs.drop (D.flats (l.take i)).length).drop y.flat.length)):=by
   rw[kN k1]
   exact c1.append (h4.2.append c4)
  obtain⟨cs',m1,m2,m3⟩:=pH hset hget hplace ps vs (l.set i x) _ (hset l i t x hg h1 h2) hc' h5
  refine⟨cs',?_,m2,m3⟩
  rw[rS (hplace i t h1) (by rw[<-Array.length_toList];exact l3) (by rw[<-l1];have:=congrArg List.length e;simp only[List.length_append] at this;simp only[List.size_toArray];omega),<-m1]
  congr 1
  conv=>lhs;rw[e]
  have:=fX (cs.take (D.flats (l.take i)).length) ((cs.drop (D.flats (l.take i)).length).take y.flat.length) ((cs.drop (D.flats (l.take i)).length).drop y.flat.length) v.cells.toList (by rw[l2,l3])
  rw[l1] at this
  simpa using this
end
section
variable{P:Program}{E:Env}{w0:Root}{S:Nat->Nat->Prop}{γ:Nat->Option Nat}{β:Nat->Option (Nat×Nat)}{s:St}{a:Act}{w:World}
theorem kQ(h:Rp w0 S γ β s a w){ty:Nat->Option Ty}(hn:∀ i t,ty i=some t->af t=true):∀ (ps:List (Nat×Operand)) (l:List (Nat×D)),partsD s.ob s ty ps=some l->PV w S ty l (ps.map fun p=>(p.1,a.eval p.2))
 | [],l,hp=>by simp only[partsD,Option.some.injEq] at hp;subst hp;simp[PV]
 | (i,x)::ps,l,hp=>by
  simp only[partsD] at hp
  replace hp:=bind_some_inv hp;obtain⟨t,ht,hp⟩:=hp
  replace hp:=bind_some_inv hp;obtain⟨y,hy,hp⟩:=hp
  replace hp:=bind_some_inv hp;obtain⟨ys,hys,hp⟩:=hp
  simp only[Option.some.injEq] at hp
  subst hp
  obtain⟨k1,k2⟩:=mn (hn i t ht) (aP h x) hy
  simp only[List.map_cons,PV]
  exact⟨trivial,⟨t,ht,k1,hn i t ht,k2⟩,kQ h hn ps ys hys⟩
theorem gg{t:Ty}{T:TypeId}(hl:bh P t T=true):∃ z,(∀ w,(zeroValue T).run P w=.ok z w)/\bP (aA t).flat z.cells.toList=true/\((∃ cs,z=.agg cs)↔cz t=true):=by
 obtain⟨i,z,h1,h2,h3,h4,h5,h6⟩:=eR (fM hl)
 exact⟨z,fun w=>by simp[zeroValue,typeInfo,h1,h4],h5,h6⟩
theorem qj:∀ {ts:List Ty} {fs:List Field} {off:Nat} (w:World),fq P ts fs off=true ->
  ((fs.mapM fun f=>do pure (f.offset,<-sizeOf f.type):Sem (List (Nat×Nat))).run P w=.ok (fs.zipWith (fun f t=>(f.offset,Ty.size t)) ts) w)
 | [],[],_,w,_=>rfl
 | [],_::_,_,_,h=>by simp[fq] at h
 | _::_,[],_,_,h=>by simp[fq] at h
 | t::ts,f::fs,off,w,h=>by
  simp only[fq,Bool.and_eq_true,decide_eq_true_eq] at h
  obtain⟨⟨⟨⟨h1,h2⟩,h3⟩,h4⟩,h5⟩:=h
  simp only[List.mapM_cons,Sem.run_bind,bJ h4,Result.andThen_ok,Sem.run_pure,qj w h5,List.zipWith_cons_cons]
theorem BQ:∀ {ts:List Ty} {fs:List Field} {off i:Nat} {t:Ty},fq P ts fs off=true->ts[i]?=some t->(fs.zipWith (fun f t=>(f.offset,Ty.size t)) ts)[i]?=some (off+Ty.sizes (ts.take i),t.size)
 | ts,fs,off,i,t,h,hi=>by
  obtain⟨f,h1,h2,_⟩:=pL h hi
  simp[List.getElem?_zipWith,h1,hi,h2]
theorem mO{T:TypeId}{ts:List Ty}(hl:bh P (.st ts) T=true)(vs:Array (Nat×Value))(w:World){r:List Value}
  (hf:∀ z:Value,bP (aA (.st ts)).flat z.cells.toList=true->jS (fun i=>if i<ts.length then some (Ty.sizes (ts.take i),(ts.getD i .bool).size) else none) z.cells vs.toList=some r.toArray) :
  (Instr.build T vs).run P w=.ok (.agg r.toArray) w:=by
 obtain⟨fs,h1,h2⟩:=iT hl
 obtain⟨z,hz,hz2,_⟩:=gg hl
 have hlen:(fs.toList.zipWith (fun f t=>(f.offset,Ty.size t)) ts).length=ts.length:=by
  have:∀ {ts:List Ty} {fs:List Field} {off:Nat},fq P ts fs off=true->fs.length=ts.length:=by
   intro ts
   induction ts with
   | nil=>intro fs off h;cases fs<;>simp[fq] at h ⊢
   | cons t ts ih=>intro fs off h;cases fs with
    | nil=>simp[fq] at h
    | cons f fs=>simp only[fq,Bool.and_eq_true] at h;simp[ih h.2]
  simp[this h2]
 have hp:(fun i=>(fs.toList.zipWith (fun f t=>(f.offset,Ty.size t)) ts).toArray[i]?)=fun i=>if i<ts.length then some (Ty.sizes (ts.take i),(ts.getD i .bool).size) else none:=by
  funext i
  by_cases hi:i<ts.length
  ·have:=BQ (i:=i) h2 (List.getElem?_eq_getElem hi)
   simp only[Nat.zero_add] at this
   rw[if_pos hi]
   simp only[List.getElem?_toArray,this]
   simp[List.getD,List.getElem?_eq_getElem hi]
  ·rw[if_neg hi]
   simp only[List.getElem?_toArray]
   exact List.getElem?_eq_none (by omega)
 have hm:(fs.mapM fun f=>(do pure (f.offset,<-sizeOf f.type):Sem (Nat×Nat))).run P w=.ok (fs.toList.zipWith (fun f t=>(f.offset,Ty.size t)) ts).toArray w:=by
  rw[<-Array.toArray_toList (xs:=fs),List.mapM_toArray]
  simp only[Sem.run_map,qj w h2,Result.andThen_ok]
 simp only[Instr.build,Sem.run_bind,hz,Result.andThen_ok,run_underlying h1,hm,hp,nc,hf z hz2,Sem.run_pure]
theorem jV(n:Nat)(x:D):D.flats (List.replicate n x)=(List.replicate n x.flat).flatten:=by
 induction n with
 | zero=>rfl
 | succ n ih=>simp only[List.replicate_succ,D.flats,ih,List.flatten_cons]
def GD(c:Cx)(ts:List Ty):List (Nat×AV)->List (Nat×Value)->Prop
 | [],[]=>True
 | (i,x)::ps,(j,v)::vs=>i=j/\(∃ t,ts[i]?=some t/\AV.fits t x=true/\AC c x v.cells.toList)/\GD c ts ps vs
 | _,_=>False
theorem wh{c:Cx}{ts:List Ty}(hn:aY ts=true) :
  ∀ (ps:List (Nat×AV)) (vs:List (Nat×Value)) (l:List AV) (cs:List Value),AV.fitss ts l=true->lI c l cs->GD c ts ps vs ->
   ∃ cs':List Value,jS (fun i=>if i<ts.length then some (Ty.sizes (ts.take i),(ts.getD i .bool).size) else none) cs.toArray vs=some cs'.toArray/\AV.fitss ts (kL l ps)=true/\lI c (kL l ps) cs'
 | [],[],l,cs,hf,hc,_=>⟨cs,rfl,hf,hc⟩
 | [],_::_,_,_,_,_,h=>by simp[GD] at h
 | _::_,[],_,_,_,_,h=>by simp[GD] at h
 | (i,x)::ps,(j,v)::vs,l,cs,hf,hc,h=>by
  simp only[GD] at h
  obtain⟨rfl,⟨t,h1,h2,h3⟩,h5⟩:=h
  obtain⟨y,k1,k2⟩:=pT hf h1
  obtain⟨pre,mid,post,rfl,m1,m2,m3⟩:=pv hf hn hc k1
  have l2:=(gq _ _ _ k2 m2).1
  have l3:=(gq _ _ _ h2 h3).1
  obtain⟨cs',n1,n2,n3⟩:=wh hn ps vs (l.set i x) _ (kT hf h1 h2) (m3 x _ h3) h5
  refine⟨cs',?_,n2,n3⟩
  have hi:=(List.getElem?_eq_some_iff.1 h1).1
  rw[rS (off:=Ty.sizes (ts.take i)) (size:=t.size) (by rw[if_pos hi];simp[List.getD,h1]) (by rw[<-Array.length_toList];exact l3) (by simp;omega),<-n1]
  congr 1
  have:=fX pre mid post v.cells.toList (by rw[l2,l3])
  rw[m1] at this
  simpa using this
theorem Cp(hE:EnvOk P E)(h:Rp w0 S γ β s a w){dst T ps ty pos after guard}:iz P E w0 S γ β s a w ⟨dst,.build T ps,ty,pos,after,guard⟩:=by
 intro R K r hq
 simp only[qv] at hq
 replace hq:=bind_some_inv hq;obtain⟨t,ht,hq⟩:=hq
 have hex:execOp a.eval ⟨dst,.build T ps,ty,pos,after,guard⟩=(Instr.build T (ps.map fun p=>(p.1,a.eval p.2)) >>= fun v=>pure (.value v)):=rfl
 have hmap:(ps.map fun p=>(p.1,a.eval p.2)).toList=ps.toList.map fun p=>(p.1,a.eval p.2):=by simp
 cases t<;>(try simp only at hq)<;>first|cases hq|skip
 case st ts=>
  rcases hE.lay T _ ht with⟨ts',hts⟩|hl
  ·cases hts
  have hn:=aD _ _ hl
  simp only[af] at hn
  split at hq
  ·rename_i hsl
   split at hq<;>first|cases hq|skip
   rename_i hall
   have hpv:∀ (l:List (Nat×Operand)),l.all (ft s ts)=true->GD ⟨w,S,γ,β,s.ob,s.dead⟩ ts (l.map fun p=>(p.1,s.opA p.2)) (l.map fun p=>(p.1,a.eval p.2)):=by
    intro l
    induction l with
    | nil=>intro _;simp[GD]
    | cons p l ih=>
     intro hh
     simp only[List.all_cons,Bool.and_eq_true] at hh
     simp only[List.map_cons,GD]
     refine⟨trivial,?_,ih hh.2⟩
     have h1:=hh.1
     unfold ft at h1
     split at h1<;>first|cases h1|skip
     rename_i u hu
     exact⟨u,hu,h1,(vZ h1 (cc hn hu) (aP h p.2)).1⟩
   obtain⟨z,hz,hz2,_⟩:=gg hl
   have hz3:lI ⟨w,S,γ,β,s.ob,s.dead⟩ (iX ts) z.cells.toList:=jL ts _ hn (by simpa [aA,D.flat] using hz2)
   obtain⟨cs',m1,m2,m3⟩:=wh hn _ _ _ _ (iK ts hn) hz3 (hpv ps.toList hall)
   have hrun:(Instr.build T (ps.map fun p=>(p.1,a.eval p.2))).run P w=.ok (.agg cs'.toArray) w:=by
    obtain⟨fs,h1,h2⟩:=iT hl
    refine mO hl _ w (r:=cs') fun z' hz'=>?_
    have hz4:lI ⟨w,S,γ,β,s.ob,s.dead⟩ (iX ts) z'.cells.toList:=jL ts _ hn (by simpa [aA,D.flat] using hz')
    have:z'.cells=z.cells:=Array.ext' (mt hz' hz2)
    rw[this,hmap,<-m1]
   exact⟨_,hq,.value (v:=.agg cs'.toArray) (w':=w) (by rw[hex];simp only[Sem.run_bind,hrun,Result.andThen_ok,Sem.run_pure]) (Qp.same h (by
    simp only[AR]
    exact⟨⟨_,rfl⟩,by simp only[AC];exact⟨hn,m2,by simpa [Value.cells] using m3⟩⟩) _)⟩
  ·replace hq:=bind_some_inv hq;obtain⟨l,hp,hq⟩:=hq
   have hpv:=kQ h (ty:=fun i=>ts[i]?) (fun i t hi=>cc hn hi) _ _ hp
   have main:∀ z:Value,bP (aA (.st ts)).flat z.cells.toList=true->∃ cs':List Value,jS (fun i=>if i<ts.length then some (Ty.sizes (ts.take i),(ts.getD i .bool).size) else none) z.cells (ps.toList.map fun p=>(p.1,a.eval p.2))=some cs'.toArray/\gn ts (D.putParts (fD ts) l)/\cH w S (D.flats (D.putParts (fD ts) l)) cs':=by
    intro z hz
    refine pH (ty:=fun i=>ts[i]?) (off:=fun i=>Ty.sizes (ts.take i)) (Good:=fun l=>gn ts l) (fun l i t z hg hi hz=>uA hg hi hz) (fun l i t hg hi=>?_) (fun i t hi=>?_) l _ (fD ts) z.cells.toList (lO ts hn) (bX (by simpa [aA,D.flat] using hz)) hpv
    ·obtain⟨y,h1,h2⟩:=jB hg hi
     exact⟨y,h1,h2,mP _ _ (nK i hg) (iC i hn)⟩
    ·rw[if_pos (List.getElem?_eq_some_iff.1 hi).1]
     simp only[List.getD,hi,Option.getD_some]
   obtain⟨z,hz,hz2,_⟩:=gg hl
   obtain⟨cs',m1,m2,m3⟩:=main z hz2
   have hrun:(Instr.build T (ps.map fun p=>(p.1,a.eval p.2))).run P w=.ok (.agg cs'.toArray) w:=by
    refine mO hl _ w (r:=cs') fun z' hz'=>?_
    have:z'.cells=z.cells:=Array.ext' (mt hz' hz2)
    rw[this,hmap,<-m1]
   have hw:wt (.st ts) (.st (D.putParts (fD ts) l)):=by simp only[wt];exact⟨_,rfl,m2⟩
   exact⟨_,hq,.value (v:=.agg cs'.toArray) (w':=w) (by rw[hex];simp only[Sem.run_bind,hrun,Result.andThen_ok,Sem.run_pure]) (Qp.same h (dW (by simpa [af] using hn) hw ⟨⟨_,rfl⟩,by simpa [Value.cells,D.flat] using m3⟩) _)⟩
 case arr n e=>
  rcases hE.lay T _ ht with⟨ts',hts⟩|hl
  ·cases hts
  have hn:=aD _ _ hl
  simp only[af] at hn
  replace hq:=bind_some_inv hq;obtain⟨l,hp,hq⟩:=hq
  have hpv:=kQ h (ty:=fun i=>if i<n then some e else none) (fun i t hi=>by split at hi<;>first|(cases hi;exact hn)|cases hi) _ _ hp
  have main:∀ z:Value,bP (aA (.arr n e)).flat z.cells.toList=true->∃ cs':List Value,jS (fun i=>some (i*e.size,e.size)) z.cells (ps.toList.map fun p=>(p.1,a.eval p.2))=some cs'.toArray/\((D.putParts (List.replicate n (aA e)) l).length=n/\∀ x∈D.putParts (List.replicate n (aA e)) l,wt e x)/\cH w S (D.flats (D.putParts (List.replicate n (aA e)) l)) cs':=by
   intro z hz
   refine pH (ty:=fun i=>if i<n then some e else none) (off:=fun i=>i*e.size) (Good:=fun l=>l.length=n/\∀ x∈l,wt e x) (fun l i t z hg hi hz=>?_) (fun l i t hg hi=>?_) (fun i t hi=>?_) l _ (List.replicate n (aA e)) z.cells.toList ⟨by simp,fun x hx=>by rw[(List.mem_replicate.1 hx).2];exact cl e hn⟩ (bX (by simpa [aA,D.flat] using hz)) hpv
   ·split at hi<;>first|cases hi|skip
    refine⟨by simpa using hg.1,fun x hx=>?_⟩
    rcases List.mem_or_eq_of_mem_set hx with h|h
    ·exact hg.2 x h
    ·rw[h];exact hz
   ·split at hi<;>first|cases hi|skip
    rename_i hin
    have hil:i<l.length:=by rw[hg.1];exact hin
    refine⟨l[i],List.getElem?_eq_getElem hil,hg.2 _ (List.getElem_mem hil),?_⟩
    rw[au hn _ (fun x hx=>hg.2 x (List.mem_of_mem_take hx)),List.length_take,Nat.min_eq_left (by omega)]
   ·split at hi<;>first|cases hi|skip
    rfl
  obtain⟨z,hz,hz2,_⟩:=gg hl
  obtain⟨cs',m1,m2,m3⟩:=main z hz2
  have hrun:(Instr.build T (ps.map fun p=>(p.1,a.eval p.2))).run P w=.ok (.agg cs'.toArray) w:=by
   obtain⟨u,h1,h2⟩:=dT hl
   simp only[Instr.build,Sem.run_bind,hz,Result.andThen_ok,run_underlying h1,bJ h2,nc,hmap,m1,Sem.run_pure]
  have hw:wt (.arr n e) (.st (D.putParts (List.replicate n (aA e)) l)):=by simp only[wt];exact⟨_,rfl,m2⟩
  exact⟨_,hq,.value (v:=.agg cs'.toArray) (w':=w) (by rw[hex];simp only[Sem.run_bind,hrun,Result.andThen_ok,Sem.run_pure]) (Qp.same h (dW (by simpa [af] using hn) hw ⟨⟨_,rfl⟩,by simpa [Value.cells,D.flat] using m3⟩) _)⟩
theorem yJ(h:Rp w0 S γ β s a w){dst x i ty pos after guard}:iz P E w0 S γ β s a w ⟨dst,.extract x i,ty,pos,after,guard⟩:=by
 intro R K r hq
 simp only[qv] at hq
 have hx:=aP h x
 generalize s.opA x=y at *
 split at hq<;>first|cases hq|skip
 rename_i ts z
 replace hq:=bind_some_inv hq;obtain⟨u,hu,hq⟩:=hq
 replace hq:=bind_some_inv hq;obtain⟨z',hz,hq⟩:=hq
 simp only[AR] at hx
 rcases hx with⟨h1,_⟩|⟨ts',e,hn,h2,h3⟩
 ·simp[af] at h1
 ·cases e
  simp only[wt] at h2
  obtain⟨l,rfl,hw⟩:=h2
  simp only[D.tupAt] at hz
  simp only[DR] at h3
  obtain⟨vs,hv,hlen,hvs⟩:=h3
  have hi:i<vs.length:=by rw[<-hlen];exact(List.getElem?_eq_some_iff.1 hz).1
  obtain⟨z2,k1,k2⟩:=jB hw hu
  rw[hz] at k1;cases k1
  have hv2:=hvs i z' vs[i] hz (List.getElem?_eq_getElem hi)
  exact⟨_,hq,.value (v:=vs[i]) (w':=w) (by simp[execOp,Instr.extract,hv,hi]) (Qp.same h (dW (cc hn hu) k2 hv2) _)⟩
theorem wr(h:Rp w0 S γ β s a w){dst fn first captured ty pos after guard}:iz P E w0 S γ β s a w ⟨dst,.makeFunc fn first captured,ty,pos,after,guard⟩:=by
 intro R K r hq
 simp only[qv] at hq
 split at hq<;>first|cases hq|skip
 rename_i f
 split at hq<;>first|cases hq|skip
 rename_i hf
 have e:first=#[]:=Array.eq_empty_of_size_eq_zero hf.1
 refine⟨_,hq,.value (v:=.func (.func f) #[] (captured.map a.eval)) (w':=w) (by simp[execOp,Instr.makeFunc,e]) (Qp.same h ?_ _)⟩
 simp only[AR,AC]
 refine⟨by simp,(captured.toList.map a.eval),by rw[show captured.map a.eval=(captured.toList.map a.eval).toArray from Array.ext' (by simp)];simp[Value.cells],?_⟩
 have h2:=hf.2
 clear hf hq
 generalize captured.toList=l at *
 induction l with
 | nil=>simp[rY]
 | cons x l ih=>
  simp only[List.all_cons,Bool.and_eq_true] at h2
  simp only[List.map_cons,rY]
  refine⟨_,_,rfl,?_,ih h2.2⟩
  have h3:=h2.1
  have h4:=aP h x
  cases hx:s.opA x<;>rw[hx] at h3 h4<;>simp only[lE] at h3<;>first|(cases h3;done)|skip
  simp only[AR] at h4
  obtain⟨k1,k2⟩:=h4
  have:(a.eval x).cells.toList=[a.eval x]:=by
   cases hv:a.eval x<;>simp[Value.cells]
   exact absurd hv (k1 _)
  rwa [this] at k2
end
end Go.Proofs.YtjjjkojfijpeeaaGreat.Sy
end
section
namespace Go.Proofs.YtjjjkojfijpeeaaGreat.Sy
open Go
theorem fJ{α:Type}(l:List α):∀ (n i:Nat),i<n*l.length->((List.replicate n l).flatten)[i]?=l[i%l.length]?
 | 0,i,h=>by omega
 | n+1,i,h=>by
  rw[List.replicate_succ,List.flatten_cons,List.getElem?_append]
  by_cases hi:i<l.length
  ·rw[if_pos hi,Nat.mod_eq_of_lt hi]
  ·rw[if_neg hi,fJ l n (i-l.length) (by rw[Nat.add_mul] at h;omega)]
   rw[<-Nat.mod_eq_sub_mod (by omega)]
theorem sU{w:World}{S:Nat->Nat->Prop}{e:Ty}{zc:Array Value}{m:Nat}(hz:bP (aA e).flat zc.toList=true)(hs:zc.size=m)(n:Nat) :
  cH w S (D.flats (List.replicate n (aA e))) ((Array.range (n*m)).map fun i=>zc[i%zc.size]!).toList:=by
 have h0:=bX (w:=w) (S:=S) hz
 have hl:(aA e).flat.length=m:=by rw[h0.1];simpa using hs
 refine⟨by rw[jV];simp[hl],fun i d c hd hc=>?_⟩
 rw[jV] at hd
 have hi:i<n*m:=by have:=(List.getElem?_eq_some_iff.1 hc).1;simpa using this
 rw[fJ _ _ _ (by rw[hl];exact hi),hl] at hd
 have hm:0<m:=by
  rcases Nat.eq_zero_or_pos m with h|h
  ·subst h;omega
  ·exact h
 have him:i%m<zc.size:=by rw[hs];exact Nat.mod_lt _ hm
 refine h0.2 (i%m) d c hd ?_
 simp only[Array.toList_map,List.getElem?_map,Array.toList_range,List.getElem?_range hi,Option.map_some,Option.some.injEq] at hc
 rw[<-hc,hs]
 simp[him]
section
variable{P:Program}{E:Env}{w0:Root}{S:Nat->Nat->Prop}{γ:Nat->Option Nat}{β:Nat->Option (Nat×Nat)}{s:St}{a:Act}{w:World}
theorem pN{c:Array Value}{t:TypeId}:bp (aw w [.cells c t] w.drawn) w.heap.size=some c:=by
 rw[<-dH];exact qU w _ rfl
theorem xI{c:Array Value}{t:TypeId}{d:Nat}:bp (aw w [.cells c t] d) w.heap.size=some c:=by
 have:=pN (w:=w) (c:=c) (t:=t)
 rw[show bp (aw w [.cells c t] d) w.heap.size=bp (aw w [.cells c t] w.drawn) w.heap.size from rfl];exact this
theorem BX{c:Array Value}{t:TypeId}{d:Nat}(j:Nat):(aw w [.cells c t] d).cell? ⟨w.heap.size,j,none⟩=c[j]?:=bE _ xI j
theorem vl(h:Rp w0 S γ β s a w){v:Nat}(hv:β v=none)(hi:v<s.base+4096){e:Ty}(hn:af e=true){l:List D}(hl:∀ x∈l,wt e x){cs:List Value}(hc:cH w S (D.flats l) cs){T:TypeId}{rest:List Value}{cap:Nat}(d:Nat)(hdr:w.drawn<=d)(hcap:l.length<=cap)(hrest:cs.length+rest.length=cap*e.size) :
  ∃ S' β',Rp w0 S' γ β' s a (aw w [.cells (cs++rest).toArray T] d)/\AR ⟨aw w [.cells (cs++rest).toArray T] d,S',γ,β',s.ob,s.dead⟩ (.own e v l) (.slice (some ⟨w.heap.size,0,none⟩) l.length cap) ∧
   (∀ b o,S b o->S' b o)/\(∀ u,u≠v->β' u=β u)/\β' v=some (w.heap.size,l.length*e.size)/\(∀ b o,S' b o->S b o\/b=w.heap.size):=by
 let S':Nat->Nat->Prop:=fun b o=>S b o\/(b=w.heap.size/\o<l.length*e.size)
 have hSz:∀ b o,S' b o->S b o\/(w.heap.size<=b/\b<(aw w [.cells (cs++rest).toArray T] d).heap.size):=fun b o hb=>by
  rcases hb with hb|⟨rfl,_⟩
  ·exact .inl hb
  ·exact .inr ⟨Nat.le_refl _,by simp⟩
 obtain⟨h1,le1⟩:=h.grow (os:=[.cells (cs++rest).toArray T]) (d:=d) hdr (S':=S') (fun b o hb=>.inl hb) hSz
 have hw0:¬ w0.Old w.heap.size:=fun ho=>by have:=ho.1;have:=h.ext.sz;omega
 obtain⟨h2,le2⟩:=h1.newTok (v:=v) (b:=w.heap.size) (e:=l.length*e.size) hv hw0 (by simp) (fun id hid=>by have:=(h.γn id _ hid).2;omega) (fun u f hu hf=>by have:=(h.βn u _ _ hu hf).2.1;omega) hi
  (fun o ho hs=>hs.elim (fun hs=>by have:=h.Sb _ _ hs;omega) fun hs=>by omega)
 refine⟨S',pB β v (w.heap.size,l.length*e.size),h2,?_,fun b o hb=>.inl hb,fun u hu=>bL β _ hu,bG β _ _,fun b o hb=>hb.imp id fun hh=>hh.1⟩
 have hlen:cs.length=l.length*e.size:=by rw[<-hc.1];exact au hn l hl
 simp only[AR,AC,Value.cells]
 refine⟨by simp,hn,hl,_,cap,rfl,?_,fun _=>.inr ⟨w.heap.size,0,rfl,by simp[bG],(cs++rest).length,?_,?_⟩⟩
 ·refine CR.of_elems (b:=w.heap.size) (off:=0) (.inr rfl) hcap ⟨cs,hc.mono le1.cell le1.S,fun i c hci=>?_⟩
  have hi:=(List.getElem?_eq_some_iff.1 hci).1
  refine⟨.inr ⟨rfl,by omega⟩,?_⟩
  rw[BX]
  simp only[List.getElem?_toArray,Nat.zero_add]
  rw[List.getElem?_append_left hi];exact hci
 ·simp[nR,xI]
 ·simp;omega
theorem sA(hE:EnvOk P E)(h:Rp w0 S γ β s a w){dst T n ps ty pos after guard}(hf:Fr E s γ β ⟨dst,.buildSlice T n ps,ty,pos,after,guard⟩):iz P E w0 S γ β s a w ⟨dst,.buildSlice T n ps,ty,pos,after,guard⟩:=by
 intro R K r hq
 simp only[qv] at hq
 replace hq:=bind_some_inv hq;obtain⟨t,ht,hq⟩:=hq
 cases t<;>(try simp only at hq)<;>first|(cases hq;done)|skip
 rename_i e
 rcases hE.lay T _ ht with⟨ts',hts⟩|hl
 ·cases hts
 have hn:=aD _ _ hl
 simp only[af] at hn
 split at hq<;>first|(cases hq;done)|skip
 rename_i hn4
 replace hq:=bind_some_inv hq;obtain⟨d,hd,hq⟩:=hq
 replace hq:=bind_some_inv hq;obtain⟨l,hp,hq⟩:=hq
 obtain⟨hd4,hγ,hβ,_⟩:=hf rfl d hd
 have hpv:=kQ h (ty:=fun i=>if i<n then some e else none) (fun i t hi=>by split at hi<;>first|(cases hi;exact hn)|cases hi) _ _ hp
 obtain⟨u,h1,h2⟩:=im hl
 obtain⟨z,hz,hz2,_⟩:=gg h2
 obtain⟨i0,z0,hi1,hi2,fF,_⟩:=eR (fM h2)
 have hzs:z.cells.size=e.size:=by
  have:=(bX (w:=w) (S:=S) hz2).1
  rw[<-Array.length_toList,<-this];exact bu _ _ (cl e hn) hn
 have hzero:cH w S (D.flats (List.replicate n (aA e))) ((Array.range (n*e.size)).map fun i=>z.cells[i%z.cells.size]!).toList:=sU hz2 hzs n
 obtain⟨cs',m1,m2,m3⟩:=pH (place:=fun i=>some (i*e.size,e.size)) (ty:=fun i=>if i<n then some e else none) (off:=fun i=>i*e.size) (Good:=fun l=>l.length=n/\∀ x∈l,wt e x) (fun l i t z hg hi hz=>by
   split at hi<;>first|(cases hi;done)|skip
   have:e=t:=by injection hi
   subst this
   refine⟨by simpa using hg.1,fun x hx=>?_⟩
   rcases List.mem_or_eq_of_mem_set hx with h|h
   ·exact hg.2 x h
   ·rw[h];exact hz) (fun l i t hg hi=>by
   split at hi<;>first|(cases hi;done)|skip
   rename_i hin
   have:e=t:=by injection hi
   subst this
   have hil:i<l.length:=by rw[hg.1];exact hin
   refine⟨l[i],List.getElem?_eq_getElem hil,hg.2 _ (List.getElem_mem hil),?_⟩
   rw[au hn _ (fun x hx=>hg.2 x (List.mem_of_mem_take hx)),List.length_take,Nat.min_eq_left (by omega)]) (fun i t hi=>by
   split at hi<;>first|(cases hi;done)|skip
   have:e=t:=by injection hi
   subst this
   rfl) l _ (List.replicate n (aA e)) _ ⟨by simp,fun x hx=>by rw[(List.mem_replicate.1 hx).2];exact cl e hn⟩ hzero hpv
 obtain⟨S',β',k1,k2,k3,k4,k5,_⟩:=vl h (v:=s.base+d) hβ (by omega) hn m2.2 m3 (T:=u) (rest:=[]) (cap:=n) w.drawn (Nat.le_refl _) (by rw[m2.1];exact Nat.le_refl _) (by rw[List.length_nil,Nat.add_zero,<-m3.1,au hn _ m2.2,m2.1])
 have hsz:¬ n*e.size>2^24:=by
  have:n*e.size<=4096*4096:=Nat.mul_le_mul hn4 fF.2
  omega
 have hmap:(ps.map fun p=>(p.1,a.eval p.2)).toList=ps.toList.map fun p=>(p.1,a.eval p.2):=by simp
 have hrun:(Instr.buildSlice T n (ps.map fun p=>(p.1,a.eval p.2))).run P w=.ok (.slice (some ⟨w.heap.size,0,none⟩) n n) (aw w [.cells cs'.toArray u] w.drawn):=by
  have key:∀ zc:Array Value,((Array.range (n*e.size)).map fun i=>zc[i%zc.size]!)=((Array.range (n*e.size)).map fun i=>z.cells[i%z.cells.size]!) ->
    jS (fun i=>some (i*e.size,e.size)) ((Array.range (n*e.size)).map fun i=>zc[i%zc.size]!) (ps.map fun p=>(p.1,a.eval p.2)).toList=some cs'.toArray:=fun zc hzc=>by
   rw[hzc,hmap];rw[Array.toArray_toList] at m1;exact m1
  by_cases h0:n*e.size=0
  ·have k0:=key #[] (by simp[h0])
   simp only[Instr.buildSlice,Sem.run_bind,run_underlying h1,Result.andThen_ok,bJ h2,hsz,if_false,if_pos h0,pure_bind,nc,k0,newRow,run_newObj,Sem.run_pure]
   rw[<-dH]
   rfl
  ·have k0:=key z.cells rfl
   simp only[Instr.buildSlice,Sem.run_bind,run_underlying h1,Result.andThen_ok,bJ h2,hsz,if_false,if_neg h0,bind_pure_comp,Sem.run_map,hz,pure_bind,nc,k0,newRow,run_newObj,Sem.run_pure]
   rw[<-dH]
   rfl
 have hex:execOp a.eval ⟨dst,.buildSlice T n ps,ty,pos,after,guard⟩=(Instr.buildSlice T n (ps.map fun p=>(p.1,a.eval p.2)) >>= fun v=>pure (.value v)):=rfl
 rw[List.append_nil,m2.1] at *
 refine⟨_,hq,.value (by rw[hex];simp only[Sem.run_bind,hrun,Result.andThen_ok,Sem.run_pure]) ⟨S',γ,β',k1,k2,k3,⟨_,_,rfl⟩,fun _ _ hh=>hh,fun id hid=>⟨rfl,k4 id fun hh=>?_⟩⟩⟩
 subst hh
 rcases hid with hid|hid
 ·rw[hd] at hid;exact hid (by rw[Nat.add_sub_cancel_left])
 ·omega
end
end Go.Proofs.YtjjjkojfijpeeaaGreat.Sy
end
section
namespace Go.Proofs.YtjjjkojfijpeeaaGreat.Sy
open Go
mutual
theorem vO:∀ (x y:D),D.beq x y=true->x=y
 | .int k n,y,h=>by cases y<;>simp_all [D.beq]
 | .bool b,y,h=>by cases y<;>simp_all [D.beq]
 | .str b,y,h=>by cases y<;>simp_all [D.beq]
 | .st l,y,h=>by
  cases y<;>simp only[D.beq] at h<;>first|(cases h;done)|skip
  rw[zZ _ _ h]
 | .sl l,y,h=>by cases y<;>simp[D.beq] at h
 | .tup l,y,h=>by cases y<;>simp[D.beq] at h
theorem zZ:∀ (l l':List D),D.beqs l l'=true->l=l'
 | [],l',h=>by cases l'<;>simp_all [D.beqs]
 | x::l,l',h=>by
  cases l' with
  | nil=>simp[D.beqs] at h
  | cons y l'=>
   simp only[D.beqs,Bool.and_eq_true] at h
   rw[vO _ _ h.1,zZ _ _ h.2]
end
section
variable{P:Program}{E:Env}{w0:Root}{S:Nat->Nat->Prop}{γ:Nat->Option Nat}{β:Nat->Option (Nat×Nat)}{s:St}{a:Act}{w:World}
theorem mo{α:Type}(g:α->PUnit->Sem (ForInStep PUnit)){w:World}:∀ (l:List α),(∀ x∈l,(g x ⟨⟩).run P w=.ok (.yield ⟨⟩) w)->(forIn l PUnit.unit g).run P w=.ok ⟨⟩ w
 | [],_=>rfl
 | x::l,h=>by
  simp only[List.forIn_cons,Sem.run_bind,h x List.mem_cons_self,Result.andThen_ok]
  exact mo g l fun y hy=>h y (List.mem_cons_of_mem _ hy)
theorem jH{w:World}{b n:Nat}{es:Array MapEntry}(h:w.heap[b]?=some (.map es n)):(getObj b).run P w=.ok (.map es n) w:=by simp[getObj,Sem.run,h]
mutual
theorem iL:∀ (ty:Ty) (T:TypeId) (x:D) (cx:List Value) (vx:Value) (n:Nat) (e:Bool),bh P ty T=true->aW ty=true->ty.high<=n->wt ty x->cH w S x.flat cx->fa ty cx vx->∀ w',(Instr.checkKey e n T vx).run P w'=.ok () w'
 | .int k,T,x,cx,vx,n,e,hl,_,hd,hx,rx,ix,w'=>by
  simp only[wt] at hx
  obtain⟨m,rfl⟩:=hx
  obtain⟨c1,rfl,r1⟩:=rx.single'
  rw[ef ix rfl,r1.int_inv]
  obtain⟨n,rfl⟩:∃ e,n=e+1:=⟨n-1,by simp only[Ty.high] at hd;omega⟩
  simp only[Instr.checkKey,Sem.run_bind,run_underlying (jG hl),Result.andThen_ok,Sem.run_pure]
 | .bool,T,x,cx,vx,n,e,hl,_,hd,hx,rx,ix,w'=>by
  simp only[wt] at hx
  obtain⟨m,rfl⟩:=hx
  obtain⟨c1,rfl,r1⟩:=rx.single'
  rw[ef ix rfl,r1.bool_inv]
  obtain⟨n,rfl⟩:∃ e,n=e+1:=⟨n-1,by simp only[Ty.high] at hd;omega⟩
  have hu:P.underlying T=some .bool:=by
   simp only[bh,Bool.and_eq_true] at hl
   have h2:=hl.2
   split at h2
   ·rename_i hu;exact hu
   ·cases h2
  simp only[Instr.checkKey,Sem.run_bind,run_underlying hu,Result.andThen_ok,Sem.run_pure]
 | .st ts,T,x,cx,vx,n,e,hl,hc,hd,hx,rx,ix,w'=>by
  simp only[wt] at hx
  obtain⟨l,rfl,hx⟩:=hx
  rw[gN ix rfl]
  obtain⟨fs,h1,h2⟩:=iT hl
  simp only[Ty.high] at hd
  obtain⟨n,rfl⟩:∃ e,n=e+1:=⟨n-1,by omega⟩
  simp only[aW] at hc
  simp only[D.flat] at rx
  simp only[Instr.checkKey,Sem.run_bind,run_underlying h1,Result.andThen_ok]
  rw[<-Array.forIn_toList,mo (P:=P) (w:=w')]
  ·rfl
  ·intro f hf
   have key:=kj ts fs.toList 0 l [] cx cx.toArray n e h2 hc (by omega) hx rx rfl rfl w' f hf
   by_cases hn : f.name ≠ "_"
   ·rw[if_pos hn] at key ⊢
    simp only[Sem.run_bind] at key ⊢
    cases hp:(part f.type cx.toArray f.offset).run P w' with
    | ok v w2=>
     rw[hp] at key
     simp only[Result.andThen_ok] at key ⊢
     rw[key]
     rfl
    | _=>rw[hp] at key;simp[Result.andThen] at key
   ·rw[if_neg hn]
    rfl
 | .arr m t,T,x,cx,vx,n,e,hl,hc,hd,hx,rx,ix,w'=>by
  simp only[wt] at hx
  obtain⟨l,rfl,hxl,hx⟩:=hx
  rw[gN ix rfl]
  obtain⟨u,h1,h2⟩:=dT hl
  simp only[Ty.high] at hd
  obtain⟨n,rfl⟩:∃ e,n=e+1:=⟨n-1,by omega⟩
  simp only[aW] at hc
  simp only[D.flat] at rx
  have hn:=aD _ _ h2
  simp only[Instr.checkKey,Sem.run_bind,run_underlying h1,Result.andThen_ok]
  rw[Std.Legacy.Range.forIn_eq_forIn_range',mo (P:=P) (w:=w')]
  ·rfl
  ·intro j hj
   have hjn:j<m:=by simp at hj;omega
   have e1:l[j]?=some (l.getD j (.bool false)):=by simp[List.getD,List.getElem?_eq_getElem (hxl ▸ hjn)]
   generalize l.getD j (.bool false)=dx at *
   have wx:=hx dx (List.mem_of_getElem? e1)
   have rx':=rx
   rw[bO e1] at rx'
   obtain⟨p1,p2⟩:=rx'.split
   obtain⟨p3,p4⟩:=p2.split
   have o1:(cx.take (D.flats (l.take j)).length).length=j*t.size:=by
    rw[<-p1.1,au hn _ (fun x hx'=>hx x (List.mem_of_mem_take hx')),List.length_take,Nat.min_eq_left (by omega)]
   obtain⟨v1,r1,i1⟩:=gh h2 (cs:=cx.toArray) (pre:=cx.take (D.flats (l.take j)).length) (mid:=(cx.drop (D.flats (l.take j)).length).take dx.flat.length) (post:=(cx.drop (D.flats (l.take j)).length).drop dx.flat.length)
     (by simp only[List.take_append_drop]) (by rw[<-p3.1];exact bu _ _ wx hn) p3.nag w'
   rw[o1] at r1
   have r3:=iL t u dx _ v1 n e h2 hc (by omega) wx p3 i1 w'
   simp only[Sem.run_bind,bJ h2,Result.andThen_ok,r1,r3,Sem.run_pure]
 | .str,_,_,_,_,_,_,_,hc,_,_,_,_,_=>by simp[aW] at hc
 | .sl _,_,_,_,_,_,_,_,hc,_,_,_,_,_=>by simp[aW] at hc
 | .tup _,_,_,_,_,_,_,_,hc,_,_,_,_,_=>by simp[aW] at hc
 | .fn,_,_,_,_,_,_,_,hc,_,_,_,_,_=>by simp[aW] at hc
theorem kj:∀ (ts:List Ty) (fs:List Field) (off:Nat) (l:List D) (px cx:List Value) (xs:Array Value) (n:Nat) (e:Bool),fq P ts fs off=true->kz ts=true->Ty.highs ts<=n->gn ts l->cH w S (D.flats l) cx ->
  xs.toList = px ++ cx -> px.length = off -> ∀ w', ∀ f ∈ fs, (if f.name ≠ "_" then (part f.type xs f.offset >>= fun v => Instr.checkKey e n f.type v) else pure ()).run P w' = .ok () w'
 | [],fs,off,l,px,cx,xs,n,e,hf,_,_,_,_,_,_,w'=>by
  cases fs with
  | nil=>intro f hf;cases hf
  | cons f fs=>simp[fq] at hf
 | t::ts,[],off,l,px,cx,xs,n,e,hf,_,_,_,_,_,_,w'=>by simp[fq] at hf
 | t::ts,f::fs,off,l,px,cx,xs,n,e,hf,hc,hd,hx,rx,ex,lx,w'=>by
  simp only[fq,Bool.and_eq_true,decide_eq_true_eq] at hf
  obtain⟨⟨⟨⟨h1,h2⟩,h3⟩,h4⟩,h5⟩:=hf
  simp only[gn] at hx
  obtain⟨dx,l,rfl,hx1,hx2⟩:=hx
  simp only[D.flats] at rx
  obtain⟨p3,p4⟩:=rx.split
  have hn:=aD _ _ h4
  simp only[kz,Bool.and_eq_true] at hc
  simp only[Ty.highs] at hd
  obtain⟨v1,r1,i1⟩:=gh h4 (cs:=xs) (pre:=px) (mid:=cx.take dx.flat.length) (post:=cx.drop dx.flat.length) (by rw[ex,List.take_append_drop]) (by rw[<-p3.1];exact bu _ _ hx1 hn) p3.nag w'
  rw[lx,<-h1] at r1
  have r3:=iL t f.type dx _ v1 n e h4 hc.1 (by omega) hx1 p3 i1 w'
  have hs1:(cx.take dx.flat.length).length=t.size:=by rw[<-p3.1];exact bu _ _ hx1 hn
  have ih:=kj ts fs (off+t.size) l (px++cx.take dx.flat.length) (cx.drop dx.flat.length) xs n e h5 hc.2 (by omega) hx2 p4
   (by rw[List.append_assoc,List.take_append_drop];exact ex) (by rw[List.length_append,lx,hs1]) w'
  intro g hg
  rcases List.mem_cons.1 hg with rfl|hg
  ·rw[if_pos h2,Sem.run_bind,r1,Result.andThen_ok,r3]
  ·exact ih g hg
end
def xS:List D->D->List MapEntry->Nat->Option (Nat×Value)
 | .st [k,_]::l,x,e::es,i=>if D.beq x k then some (i,e.val) else xS l x es (i+1)
 | _,_,_,_=>none
theorem qJ{c:Cx}{kt vt:Ty}{T:TypeId}{x:D}{vx:Value}(hl:bh P kt T=true)(hc:aW kt=true)(hx:wt kt x)(rx:eN c.w c.S x vx){desc:TypeDesc}(hu:P.underlying T=some desc):∀ (l:List D) (es:List MapEntry) (j i:Nat) (r:Option (Nat×Value)),ja c kt vt j l es->Instr.findNow desc vx es i=some r->r=xS l x es i
 | [],[],j,i,r,_,h=>by simp only[Instr.findNow,Option.some.injEq] at h;rw[<-h];rfl
 | [],_::_,j,i,r,h,_=>h.elim
 | _::_,[],j,i,r,h,_=>h.elim
 | y::l,e::es,j,i,r,h,hr=>by
  simp only[ja] at h
  obtain⟨⟨_,k,v,rfl,hk,hv,rk,rv⟩,h2⟩:=h
  simp only[Instr.findNow] at hr
  have key:∀ b,Instr.sameNow desc vx e.key=some b->b=D.beq x k:=by
   intro b hb
   cases kt<;>simp only[wt] at hx hk
   case int kk=>
    obtain⟨n,rfl⟩:=hx
    obtain⟨m,rfl⟩:=hk
    rw[rx.int_inv,rk.int_inv] at hb
    rw[jG hl] at hu
    cases hu
    simp only[Instr.sameNow,if_true,Option.some.injEq] at hb
    rw[<-hb]
    simp[D.beq]
    rfl
   case bool=>
    obtain⟨n,rfl⟩:=hx
    obtain⟨m,rfl⟩:=hk
    rw[rx.bool_inv,rk.bool_inv] at hb
    simp only[bh,Bool.and_eq_true] at hl
    have h3:=hl.2
    rw[hu] at h3
    cases desc<;>simp at h3
    simp only[Instr.sameNow,Option.some.injEq] at hb
    rw[<-hb]
    rfl
   case st ts=>
    obtain⟨fs,h3,_⟩:=iT hl
    rw[hu] at h3;cases h3
    simp[Instr.sameNow] at hb
   case arr m t=>
    obtain⟨u,h3,_⟩:=dT hl
    rw[hu] at h3;cases h3
    simp[Instr.sameNow] at hb
   all_goals simp[aW] at hc
  cases hs:Instr.sameNow desc vx e.key with
  | none=>rw[hs] at hr;simp at hr
  | some b=>
   rw[hs] at hr
   have:=key b hs
   subst this
   cases hb:D.beq x k
   ·rw[hb] at hr
    simp only at hr
    have:=qJ hl hc hx rx hu l es (j+1) (i+1) r h2 hr
    simp only[xS,hb,Bool.false_eq_true,if_false]
    exact this
   ·rw[hb] at hr
    simp only[Option.some.injEq] at hr
    simp only[xS,hb,if_true]
    exact hr.symm
theorem lJ{c:Cx}{kt vt:Ty}{T:TypeId}{x:D}{vx:Value}(hl:bh P kt T=true)(hc:aW kt=true)(hh:kt.high<=1000)(hx:wt kt x)(rx:eN c.w c.S x vx)(w':World):∀ (l:List D) (es:List MapEntry) (j i:Nat),ja c kt vt j l es->(Instr.findAsking T vx es i).run P w'=.ok (xS l x es i) w'
 | [],[],j,i,_=>rfl
 | [],_::_,j,i,h=>h.elim
 | _::_,[],j,i,h=>h.elim
 | y::l,e::es,j,i,h=>by
  simp only[ja] at h
  obtain⟨⟨_,k,v,rfl,hk,hv,rk,rv⟩,h2⟩:=h
  have hn:=aD _ _ hl
  have i1:fa kt vx.cells.toList vx:=⟨rfl,mF hx hn rx.1⟩
  have i2:fa kt e.key.cells.toList e.key:=⟨rfl,mF hk hn rk.1⟩
  have r3:=nM kt T x k _ _ _ _ 10000 hl hc (by omega) hx hk rx.2 rk.2 i1 i2 w'
  simp only[Instr.findAsking,Op.equal,Op.maxDepth,Sem.run_bind,r3,Result.andThen_ok,xS]
  cases D.beq x k
  ·simp only[Bool.false_eq_true,if_false]
   exact lJ hl hc hh hx rx w' l es (j+1) (i+1) h2
  ·simp
theorem rl{c:Cx}{kt vt:Ty}{T:TypeId}{x:D}{vx:Value}(hl:bh P kt T=true)(hc:aW kt=true)(hh:kt.high<=1000)(hx:wt kt x)(rx:eN c.w c.S x vx)(w':World){l:List D}{es:List MapEntry}{j:Nat}(h:ja c kt vt j l es) :
  (Instr.findKey T vx es).run P w'=.ok (xS l x es 0) w':=by
 have hu:∃ d,P.underlying T=some d:=by
  cases kt<;>simp only[aW] at hc<;>first|(cases hc;done)|skip
  ·exact⟨_,jG hl⟩
  ·simp only[bh,Bool.and_eq_true] at hl
   have h2:=hl.2
   split at h2
   ·rename_i hu;exact⟨_,hu⟩
   ·cases h2
  ·obtain⟨fs,h1,_⟩:=iT hl;exact⟨_,h1⟩
  ·obtain⟨u,h1,_⟩:=dT hl;exact⟨_,h1⟩
 obtain⟨d,hu⟩:=hu
 simp only[Instr.findKey,Sem.run_bind,run_underlying hu,Result.andThen_ok]
 split
 ·rename_i r hr
  rw[qJ hl hc hx rx hu l es j 0 r h hr]
  rfl
 ·exact lJ hl hc hh hx rx w' l es j 0 h
theorem zx{c:Cx}{kt vt:Ty}{x:D}:∀ (l:List D) (es:List MapEntry) (j i:Nat),ja c kt vt j l es ->
  match xS l x es i with
  | none=>D.mget l x=none
  | some (_,v)=>∃ d,D.mget l x=some d/\wt vt d/\eN c.w c.S d v
 | [],[],j,i,_=>rfl
 | [],_::_,j,i,h=>h.elim
 | _::_,[],j,i,h=>h.elim
 | y::l,e::es,j,i,h=>by
  simp only[ja] at h
  obtain⟨⟨_,k,v,rfl,hk,hv,rk,rv⟩,h2⟩:=h
  simp only[xS,D.mget]
  cases hb:D.beq x k
  ·simp only[Bool.false_eq_true,if_false]
   exact zx l es (j+1) (i+1) h2
  ·simp only[if_true]
   exact⟨v,rfl,hv,rv⟩
theorem Bx(hE:EnvOk P E)(h:Rp w0 S γ β s a w){dst T x i cok ty pos after guard}:iz P E w0 S γ β s a w ⟨dst,.lookup T x i cok,ty,pos,after,guard⟩:=by
 intro R K r hq
 simp only[qv] at hq
 replace hq:=bind_some_inv hq;obtain⟨kv,hkv,hq⟩:=hq
 obtain⟨kt0,vt0⟩:=kv
 have hx:=aP h x
 generalize s.opA x=ax at *
 cases ax<;>(try simp only at hq)<;>first|(cases hq;done)|skip
 rename_i kt vt id
 split at hq<;>first|(cases hq;done)|skip
 rename_i hb
 simp only[Bool.and_eq_true] at hb
 have e1:=Ty.eq_of_beq _ _ hb.1
 have e2:=Ty.eq_of_beq _ _ hb.2
 subst e1;subst e2
 split at hq<;>first|(cases hq;done)|skip
 rename_i kt' vt' l hob
 split at hq<;>first|(cases hq;done)|skip
 rename_i hb2
 simp only[Bool.and_eq_true] at hb2
 have e1:=Ty.eq_of_beq _ _ hb2.1
 have e2:=Ty.eq_of_beq _ _ hb2.2
 subst e1;subst e2
 replace hq:=bind_some_inv hq;obtain⟨ix,hix,hq⟩:=hq
 split at hq<;>first|(cases hq;done)|skip
 rename_i hb3
 have hi:=aP h i
 rw[dV hix,Ty.eq_of_beq _ _ hb3] at hi
 obtain⟨hc,KT,VT,hu,hlk,hlv,hh⟩:=hE.mapL T _ _ hkv
 have hnk:=aD _ _ hlk
 have hnv:=aD _ _ hlv
 obtain⟨k1,k2⟩:=yV hi hnk
 simp only[AR,AC] at hx
 obtain⟨na,b,hcs,hγ,_,_,_⟩:=hx
 have hv:=ao na hcs
 have hO:=h.obs id _ b hob hγ
 simp only[ii] at hO
 obtain⟨_,_,_,es,hes,hM⟩:=hO
 have i1:fa kt' (a.eval i).cells.toList (a.eval i):=⟨rfl,mF k1 hnk k2.1⟩
 have rc:=iL (S:=S) (w:=w) kt' KT ix.2 _ _ 10000 es.isEmpty hlk hc (by omega) k1 k2.2 i1 w
 have rf:=rl (P:=P) hlk hc hh k1 k2 w hM
 have rg:=zx (x:=ix.2) l es.toList 0 0 hM
 obtain⟨z,hz1,hz2,hz3⟩:=gg hlv
 have hzAR:wt vt' (aA vt')/\eN w S (aA vt') z:=by
  have wz:=cl vt' hnv
  refine⟨wz,?_⟩
  have hAC:AC ⟨w,S,γ,β,s.ob,s.dead⟩ (.d vt' (aA vt')) z.cells.toList:=by simp only[AC];exact⟨wz,hnv,bX hz2⟩
  have iv:fa vt' z.cells.toList z:=⟨rfl,fun ha=>(hz3.2 ha),fun ha xs e=>by have:=hz3.1 ⟨xs,e⟩;rw[ha] at this;cases this⟩
  exact(yV (te (bv _ _) hAC iv) hnv).2
 have run:∃ v d,(D.mget l ix.2).getD (aA vt')=d/\wt vt' d/\eN w S d v/\(execOp a.eval ⟨dst,.lookup T x i cok,ty,pos,after,guard⟩).run P w=.ok (.value (if cok then .tuple #[v,.bool (D.mget l ix.2).isSome] else v)) w:=by
  have hex:(execOp a.eval ⟨dst,.lookup T x i cok,ty,pos,after,guard⟩)=(Instr.lookup T (a.eval x) (a.eval i) cok >>= fun v=>pure (.value v)):=rfl
  rw[hex,hv]
  cases hf:xS l ix.2 es.toList 0 with
  | none=>
   rw[hf] at rg rf
   simp only at rg
   refine⟨z,aA vt',by rw[rg];rfl,hzAR.1,hzAR.2,?_⟩
   simp only[Instr.lookup,Sem.run_bind,run_underlying hu,Result.andThen_ok,jH hes,Sem.run_pure,rc,rf,hz1,rg]
   rfl
  | some p=>
   obtain⟨n,v⟩:=p
   rw[hf] at rg rf
   simp only at rg
   obtain⟨d,g1,g2,g3⟩:=rg
   refine⟨v,d,by rw[g1];rfl,g2,g3,?_⟩
   simp only[Instr.lookup,Sem.run_bind,run_underlying hu,Result.andThen_ok,jH hes,Sem.run_pure,rc,rf,g1]
   rfl
 obtain⟨v,d,r1,r2,r3,r4⟩:=run
 rw[r1] at hq
 cases cok with
 | false=>
  simp only at hq
  simp only[Bool.false_eq_true,if_false] at r4
  exact⟨_,hq,.value r4 (Qp.same h (dW hnv r2 r3) _)⟩
 | true=>
  simp only at hq
  simp only[if_true] at r4
  refine⟨_,hq,.value r4 (Qp.same h ?_ _)⟩
  simp only[AR]
  refine .inr ⟨_,rfl,by simp[aY,hnv,af],?_,?_⟩
  ·simp only[wt,gn]
   exact⟨_,rfl,d,_,rfl,r2,_,_,rfl,⟨_,rfl⟩,rfl⟩
  ·refine⟨[v,.bool (D.mget l ix.2).isSome],rfl,rfl,fun i dd u h1 h2=>?_⟩
   rcases i with _|_|i
   ·simp at h1 h2;subst h1;subst h2;exact r3
   ·simp at h1 h2;subst h1;subst h2;exact eN.of_CR (.bool _)
   ·simp at h1
end
end Go.Proofs.YtjjjkojfijpeeaaGreat.Sy
end
