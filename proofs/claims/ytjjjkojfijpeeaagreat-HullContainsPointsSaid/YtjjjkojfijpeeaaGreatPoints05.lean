/- Part 5 of the proof that HullContainsPoints answers true at every input -/
import Derived.Test.YtjjjkojfijpeeaaGreatPoints01
import Derived.Test.YtjjjkojfijpeeaaGreatPoints04
import Derived.Scope
import Derived.Test.YtjjjkojfijpeeaaGreatProg
import Derived.KernelRfl
set_option linter.unusedVariables false
set_option linter.unusedSimpArgs false
set_option linter.unnecessarySimpa false
section
namespace Go.Proofs.YtjjjkojfijpeeaaGreat.Sy
open Go
variable{ro:Option Nat}{nn:Nat}
section
variable{V:Nat->St->Option AV}{ops:Array Oper}{md:Region.Mode}
def oF(V:Nat->St->Option AV)(ops:Array Oper)(i:Nat)(K:St->Prop)(s:St):Prop:=
 match ops[i]? with
 | none=>K s
 | some o=>∃ v,V i s=some v/\K (s.put o.dst v)
def mF(V:Nat->St->Option AV)(md:Region.Mode)(ops:Array Oper)(n:Nat)(L:Array Bool->St->Prop):Nat->Array Bool->St->Prop
 | 0,listed,s=>L listed s
 | f+1,listed,s=>Region.ready md ops listed≠[]/\∀ i∈Region.ready md ops listed,i<n/\oF V ops i (mF V md ops n L f (listed.setIfInBounds i true)) s
def gZ(V:Nat->St->Option AV)(ops:Array Oper):Nat->Nat->St->Option St
 | 0,_,s=>some s
 | c+1,k,s=>(V k s).bind fun v=>gZ V ops c (k+1) (s.put ((ops[k]?).bind (·.dst)) v)
theorem ww:∀ (c d k:Nat) (s:St),gZ V ops (c+d) k s=(gZ V ops c k s).bind fun s'=>gZ V ops d (k+c) s'
 | 0,d,k,s=>by simp[gZ]
 | c+1,d,k,s=>by
  rw[show c+1+d=(c+d)+1 by omega]
  simp only[gZ]
  cases V k s with
  | none=>rfl
  | some v=>
   simp only[Option.bind_some]
   rw[ww c d (k+1),show k+1+c=k+(c+1) by omega]
def H8(V:Nat->St->Option AV)(ops:Array Oper):Prop:=∀ i oi,ops[i]?=some oi->∀ (s:St) (d:Option Nat) (v:AV),(∀ t,d=some t->t ∉ oi.looksAt ops)->V i (s.put d v)=V i s
theorem uY{n i:Nat}{oi:Oper}{v:AV}{L:Array Bool->St->Prop}(hV:H8 V ops)(hi:ops[i]?=some oi)(hW:pJ md ops n)(hin:i<n)
  (hdone:∀ listed s,L listed s->∀ j∈Region.ready md ops listed,n<=j) :
  ∀ (f:Nat) (listed:Array Bool) (s:St),HeadInv md ops n listed ->
   (∀ j oj,ops[j]?=some oj->j≠i->listed.getD j true=false->(∀ e∈oj.after,Region.binds md e=true->e.on≠i)->oi.apart ops oj=true) ->
   i∈Region.ready md ops listed->V i s=some v ->
   mF V md ops n L f (listed.setIfInBounds i true) (s.put oi.dst v)->mF V md ops n L (f+1) listed s:=by
 intro f
 induction f with
 | zero=>
  intro listed s inv _ hr hy H
  have hun:=(mem_ready.1 hr).1
  refine⟨fun h=>(by rw[h] at hr;cases hr),fun j hj=>?_⟩
  have hjn:j<n:=by
   rcases Nat.lt_or_ge j n with h|h
   ·exact h
   ·exact absurd hj (hW _ _ inv hin hun j h)
  refine⟨hjn,?_⟩
  by_cases hji:j=i
  ·subst hji;unfold oF;rw[hi];exact⟨v,hy,H⟩
  ·have:=hdone _ _ H j (ready_mono hj hji)
   omega
 | succ f ih=>
  intro listed s inv hfree hr hy H
  have hun:=(mem_ready.1 hr).1
  refine⟨fun h=>(by rw[h] at hr;cases hr),fun j hj=>?_⟩
  have hjn:j<n:=by
   rcases Nat.lt_or_ge j n with h|h
   ·exact h
   ·exact absurd hj (hW _ _ inv hin hun j h)
  refine⟨hjn,?_⟩
  by_cases hji:j=i
  ·subst hji;unfold oF;rw[hi];exact⟨v,hy,H⟩
  ·have h1:=(H.2 j (ready_mono hj hji)).2
   obtain⟨hjun,oj,hoj,hall⟩:=mem_ready.1 hj
   have hnot:∀ e∈oj.after,Region.binds md e=true->e.on≠i:=fun e he hb heq=>by
    have h1:=hall e he hb
    rw[heq,getD_both hun] at h1
    cases h1
   obtain⟨a1,a2,a3⟩:=Oper.apart_spec (hfree j oj hoj hji hjun hnot)
   unfold oF at h1 ⊢
   rw[hoj] at h1 ⊢
   obtain⟨u,k1,k2⟩:=h1
   rw[hV j oj hoj _ _ _ a1] at k1
   refine⟨u,k1,ih (listed.setIfInBounds j true) (s.put oj.dst u) (inv.set hj hjn) (fun k ok hk hki hun hno=>?_) (ready_mono hr (Ne.symm hji)) ?_ ?_⟩
   ·refine hfree k ok hk hki ?_ hno
    by_cases hjk:j=k
    ·subst hjk;exact hjun
    ·rw[getD_set_ne true hjk] at hun;exact hun
   ·rw[hV i oi hi _ _ _ a3];exact hy
   ·rw[Array.setIfInBounds_comm _ _ hji,vP u v (fun d hd he=>a2 d he hd)]
    exact k2
theorem nl{n g:Nat}{sF:St}(hV:H8 V ops)(hn:n<=ops.size)(hW:pJ md ops n) :
  ∀ (c k:Nat) (listed:Array Bool) (s:St),k+c=n->HeadInv md ops n listed->(∀ i,i<k->listed.getD i false=true) ->
  Region.lexHead md ops g c k listed=true->gZ V ops c k s=some sF ->
  mF V md ops n (fun listed' s'=>Region.seqB md ops g n listed'=true/\(∀ i,i<n->listed'.getD i false=true)/\s'=sF) c listed s
 | 0,k,listed,s,hk,_,hl,hB,h=>by
  have:k=n:=by simpa using hk
  subst this
  simp only[gZ,Option.some.injEq] at h
  exact⟨by simpa [Region.lexHead] using hB,hl,h⟩
 | c+1,k,listed,s,hk,inv,hl,hB,h=>by
  have hkn:k<n:=by omega
  have hks:k<ops.size:=by omega
  have h0:ops[k]?=some ops[k]:=Array.getElem?_eq_getElem hks
  simp only[Region.lexHead,Bool.and_eq_true] at hB
  obtain⟨⟨hr,hf⟩,hB'⟩:=hB
  have hr':k∈Region.ready md ops listed:=by simpa using hr
  simp only[gZ] at h
  obtain⟨v,h1,h2⟩:=bind_some_inv h
  rw[h0,Option.bind_some] at h2
  refine uY hV h0 hW hkn (fun listed' s' hL=>seqB_ready hL.1) c listed s inv (Region.free_spec h0 hf) hr' h1
   (nl hV hn hW c (k+1) _ _ (by omega) (inv.set hr' hkn) (fun i hi=>?_) hB' h2)
  by_cases e:i=k
  ·subst e
   have:i<listed.size:=by rw[inv.size];exact hks
   simp[this]
  ·exact getD_set_true (hl i (by omega))
theorem nS{n:Nat}{L:Array Bool->St->Prop}{T:List Nat}:∀ (f:Nat) (listed:Array Bool) (s:St),mF V md ops n L f listed s ->
  (∀ t∈T,∀ j oj,ops[j]?=some oj->listed.getD j true=false->oj.dst≠some t)->∃ listed' s',L listed' s'/\(∀ t∈T,s'.tm t=s.tm t)/\s'.ob=s.ob/\Sm s s'
 | 0,listed,s,h,_=>⟨listed,s,h,fun _ _=>rfl,rfl,Sm.refl s⟩
 | f+1,listed,s,h,hT=>by
  obtain⟨h1,h2⟩:=h
  obtain⟨i,hi⟩:=List.exists_mem_of_ne_nil _ h1
  obtain⟨hin,hst⟩:=h2 i hi
  obtain⟨hun,o,ho,_⟩:=mem_ready.1 hi
  unfold oF at hst
  rw[ho] at hst
  obtain⟨v,_,k2⟩:=hst
  obtain⟨l',s',m1,m2,m3,m4⟩:=nS f _ _ k2 (fun t ht j oj hj hu=>by
   by_cases e:i=j
   ·subst e
    exfalso
    rcases Nat.lt_or_ge i listed.size with hlt|hge
    ·simp[Array.getD,hlt] at hu
    ·simp[Array.getD,Nat.not_lt.2 hge] at hu
   ·rw[getD_set_ne true e] at hu;exact hT t ht j oj hj hu)
  have p:=St.put_fields s o.dst v
  exact⟨l',s',m1,fun t ht=>(m2 t ht).trans (nH (hT t ht i o ho hun)),m3.trans p.1,(Sm.put s o.dst v).trans m4⟩
end
section
variable{E:Env}{ops:Array Oper}
def kM(E:Env)(ops:Array Oper)(n id i:Nat)(s:St):Option AV:=if i=n then some .undef else pi E ops n id i s some
theorem rS(s:St)(d:Option Nat)(v:AV)(id:Nat)(o:Option Ob):(s.put d v).setOb id o=(s.setOb id o).put d v:=by
 cases d with
 | none=>rfl
 | some d=>
  by_cases h:d<s.nt
  ·simp only[St.put,St.setOb,h,if_true]
  ·simp only[St.put,St.setOb,h,if_false]
theorem BL(n id:Nat):H8 (kM E ops n id) ops:=by
 intro i oi hi s d v h
 unfold kM
 split
 ·rfl
 ·obtain⟨p1,p2,p3,p4,p5,p6,p7⟩:=St.put_fields s d v
  obtain⟨q1,q2,q3,q4,q5,q6,q7⟩:=St.put_fields (s.setOb id none) d v
  have e1:iX (s.put d v) oi=iX s oi:=by simp only[iX,p5]
  have hx:∀ x∈oi.op.operands,∀ t,d=some t->x≠.tmp t:=fun x hx t ht e=>h t ht (by
   subst e
   exact List.mem_append_left _ (List.mem_filterMap.2 ⟨.tmp t,by simpa using hx,rfl⟩))
  have e2:qv E (s.put d v) oi some=qv E s oi some:=jM p1 p2 fun x hm=>kA (hx x hm)
  have e3:qv E ((s.put d v).setOb id none) oi some=qv E (s.setOb id none) oi some:=by
   rw[rS]
   exact jM q1 q2 fun x hm=>kA (hx x hm)
  unfold pi
  rw[hi]
  simp only[e1,e2,e3]
theorem vD{R:Type}{n id i:Nat}{s:St}{K:AV->Option R}{r:R}(h:pi E ops n id i s K=some r):∃ v,pi E ops n id i s some=some v/\K v=some r:=by
 unfold pi at h ⊢
 split at h<;>first|(cases h;done)|skip
 split at h<;>first|(cases h;done)|skip
 rename_i hlk
 rw[if_neg hlk]
 split at h
 ·rename_i hw
  rw[if_pos hw];exact eR h
 ·rename_i hw
  rw[if_neg hw]
  split at h<;>first|(cases h;done)|skip
  rename_i hk
  rw[if_pos hk];exact eR h
theorem yy{R:Type}{n id:Nat}{K:St->Option R}{r:R}:∀ (c k:Nat) (s:St),k+c<=n->Gv E ops n id c k s K=some r->∃ s',gZ (kM E ops n id) ops c k s=some s'/\K s'=some r
 | 0,k,s,_,h=>⟨s,rfl,h⟩
 | c+1,k,s,hk,h=>by
  simp only[Gv] at h
  obtain⟨v,h1,h2⟩:=vD h
  obtain⟨s',h3,h4⟩:=yy c (k+1) _ (by omega) h2
  refine⟨s',?_,h4⟩
  simp only[gZ,kM,if_neg (show ¬ k=n by omega),h1,Option.bind_some]
  exact h3
mutual
theorem CB(ob ob':Nat->Option Ob):∀ (t:Ty) (a:AV),AV.toD ob t a=AV.toD ob' t a
 | t,.st ts l=>by simp only[AV.toD,zs ob ob' ts l]
 | t,.d _ _=>by cases t<;>simp only[AV.toD]
 | t,.own _ _ _=>by cases t<;>simp only[AV.toD]
 | t,.nils=>by cases t<;>simp only[AV.toD]
 | t,.ptr _ _ _=>by cases t<;>simp only[AV.toD]
 | t,.fptr _ _=>by cases t<;>simp only[AV.toD]
 | t,.mem _ _=>by cases t<;>simp only[AV.toD]
 | t,.clo _ _=>by cases t<;>simp only[AV.toD]
 | t,.map _ _ _=>by cases t<;>simp only[AV.toD]
 | t,.sub _ _ _ _ _ _=>by cases t<;>simp only[AV.toD]
 | t,.gone=>by cases t<;>simp only[AV.toD]
 | t,.undef=>by cases t<;>simp only[AV.toD]
theorem zs(ob ob':Nat->Option Ob):∀ (ts:List Ty) (l:List AV),AV.toDl ob ts l=AV.toDl ob' ts l
 | [],[]=>rfl
 | [],_::_=>rfl
 | _::_,[]=>rfl
 | t::ts,a::l=>by simp only[AV.toDl,CB ob ob' t a,zs ob ob' ts l]
end
theorem sG{s s':St}(htm:s'.tm=s.tm)(ty:Nat->Option Ty):∀ l:List (Nat×Operand),partsD s'.ob s' ty l=partsD s.ob s ty l
 | []=>rfl
 | (i,x)::l=>by
  have e:s'.opA x=s.opA x:=by cases x<;>simp only[St.opA,htm]
  simp only[partsD,e,sG htm ty l]
  cases ty i with
  | none=>rfl
  | some t=>simp only[Option.bind_some,CB s'.ob s.ob t]
theorem AG{s s':St}{id:Nat}(htm:s'.tm=s.tm)(hfr:s'.fresh=s.fresh)(hob:∀ j,j≠id->s'.ob j=s.ob j)(hid:s.ob id=none){o:Oper}(hk:qC o=true){v:AV}(h:qv E s o some=some v):qv E s' o some=some v:=by
 have op:∀ x,s'.opA x=s.opA x:=fun x=>by cases x<;>simp only[St.opA,htm]
 have obm:∀ {j:Nat} {ob:Ob},s.ob j=some ob->s'.ob j=some ob:=fun{j ob} hj=>by
  by_cases e:j=id
  ·subst e;rw[hid] at hj;cases hj
  ·rw[hob j e];exact hj
 obtain⟨dst,op',ty,pos,after,guard⟩:=o
 cases op'<;>simp only[qC] at hk<;>first|(cases hk;done)|skip
 case build T ps=>
  simp only[qv] at h ⊢
  obtain⟨t,ht,h2⟩:=bind_some_inv h
  rw[ht,Option.bind_some]
  have e2:∀ ts,ps.toList.all (eV s' ts)=ps.toList.all (eV s ts):=fun ts=>by
   congr 1;funext p;simp only[eV,op]
  have e3:(ps.toList.map fun p=>(p.1,s'.opA p.2))=ps.toList.map fun p=>(p.1,s.opA p.2):=by simp only[op]
  cases t<;>simp only[sG htm,e2,e3]<;>exact h2
 case load T a=>
  simp only[qv] at h ⊢
  obtain⟨t,ht,h2⟩:=bind_some_inv h
  rw[ht,Option.bind_some,op]
  cases hs:s.opA a<;>rw[hs] at h2<;>simp only at h2 ⊢<;>first|(cases h2;done)|exact h2|skip
  ·split at h2<;>first|(cases h2;done)|skip
   rename_i hc
   rw[if_pos hc]
   obtain⟨ob,h3,h4⟩:=bind_some_inv h2
   rw[obm h3];exact h4
  ·split at h2<;>first|(cases h2;done)|skip
   rename_i hc
   rw[if_pos hc]
   obtain⟨ob,h3,h4⟩:=bind_some_inv h2
   rw[obm h3];exact h4
 case fieldAddr T x f=>
  simp only[qv,op] at h ⊢
  exact h
 case alloc T=>
  simp only[qv,St.base,hfr] at h ⊢
  exact h
end
section
variable{P:Program}{E:Env}{w0:Root}{ops:Array Oper}
def nh(n id:Nat)(ob1:Ob)(listed:Array Bool)(s:St):St:=if listed.getD n false then s.setOb id (some ob1) else s
theorem Sm.setOb(s:St)(id:Nat)(o:Option Ob):Sm s (s.setOb id o):=⟨rfl,rfl,rfl,rfl⟩
theorem jo(hE:EnvOk P E){n g id T p x:Nat}{u t t':Ty}{v0 v1:AV}{ostore:Oper}{L:Array Bool->St->Prop}{Q:Exit->Act->World->Prop}{s0:St}{S0:Nat->Nat->Prop}{γ0:Nat->Option Nat}{a0:Act}{w1:World}
  (hn:ops[n]?=some ostore) (hop:ostore.op=.store T (.tmp p) (.tmp x)) (hdst:ostore.dst=none) (hgd:ostore.guard=none)
  (hp:∀ (j:Nat) (oj:Oper),ops[j]?=some oj->oj.dst=some p->Region.waitsFor .any ops n j=true) (hx:∀ (j:Nat) (oj:Oper),ops[j]?=some oj->oj.dst=some x->Region.waitsFor .any ops n j=true)
  (hheads:∀ (j:Nat) (oj:Oper),j<n->ops[j]?=some oj->oj.guard=none)
  (hT:E.L T=some t) (htt:t.beq t'=true) (hf1:AV.fits t v1=true) (hlk:s0.lkO.contains id=false) (hob0:s0.ob id=some (.one u v0))
  (hd:∀ (i j:Nat) (oi oj:Oper),i≠j->ops[i]?=some oi->ops[j]?=some oj->∀ d,oj.dst=some d->oi.dst≠some d)
  (hLs:∀ listed s,L listed s->s.tm p=.ptr t' id []/\s.tm x=v1/\listed.getD n false=true)
  (hL:∀ listed s S γ β a w,Rp w0 S γ β (s.setOb id (some (.one u v1))) a w->Fm s0 S0 γ0 a0 w1 S γ a w->Sm s0 s->(∀ j oj,ops[j]?=some oj->listed.getD j true=false->Fr E (s.setOb id (some (.one u v1))) γ β oj)->L listed s->wpAnyIn (FW ro) nn P .any ops Q g listed a w) :
  ∀ (f:Nat) (listed:Array Bool) (s:St) (S:Nat->Nat->Prop) (γ:Nat->Option Nat) (β:Nat->Option (Nat×Nat)) (a:Act) (w:World),Rp w0 S γ β (nh n id (.one u v1) listed s) a w->Fm s0 S0 γ0 a0 w1 S γ a w->Sm s0 s->s.ob=s0.ob ->
   (listed.getD n false=true->∀ j,Region.waitsFor .any ops n j=true->listed.getD j false=true) ->
   (∀ j oj,ops[j]?=some oj->listed.getD j true=false->Fr E (nh n id (.one u v1) listed s) γ β oj)->mF (kM E ops n id) .any ops (n+1) L f listed s->wpAnyIn (FW ro) nn P .any ops Q (f+g) listed a w
 | 0,listed,s,S,γ,β,a,w,h,hF,hS,hob,hcl,hfr,hh=>by
  rw[Nat.zero_add]
  have hh':L listed s:=hh
  have e:nh n id (.one u v1) listed s=s.setOb id (some (.one u v1)):=by unfold nh;rw[if_pos (hLs _ _ hh').2.2]
  rw[e] at h
  exact hL _ _ _ _ _ _ _ h hF hS (fun j oj hj hu=>e ▸ hfr j oj hj hu) hh'
 | f+1,listed,s,S,γ,β,a,w,h,hF,hS,hob,hcl,hfr,hh=>by
  rw[show f+1+g=(f+g)+1 by omega]
  refine⟨fun h0=>absurd h0 hh.1,fun i hi=>?_⟩
  obtain⟨hin,hst⟩:=hh.2 i hi
  have hun:=(mem_ready.1 hi).1
  have unl:∀ j,(listed.setIfInBounds i true).getD j true=false->i≠j/\listed.getD j true=false:=fun j hu=>by
   by_cases hij:i=j
   ·subst hij
    exfalso
    rcases Nat.lt_or_ge i listed.size with hlt|hge
    ·simp[Array.getD,hlt] at hu
    ·simp[Array.getD,Nat.not_lt.2 hge] at hu
   ·rw[getD_set_ne true hij] at hu;exact⟨hij,hu⟩
  by_cases hni:i=n
  ·
   subst hni
   have hlf:=getD_both hun
   have hsz:i<listed.size:=by
    rcases Nat.lt_or_ge i listed.size with hlt|hge
    ·exact hlt
    ·simp[Array.getD,Nat.not_lt.2 hge] at hun
   have e0:nh i id (.one u v1) listed s=s:=by unfold nh;rw[hlf];rfl
   rw[e0] at h
   unfold oF at hst
   rw[hn] at hst
   simp only at hst
   obtain⟨v,hv,hst⟩:=hst
   rw[hdst] at hst
   have hst:mF (kM E ops i id) .any ops (i+1) L f (listed.setIfInBounds i true) s:=hst
   obtain⟨_,o',ho',hall⟩:=mem_ready.1 hi
   rw[hn] at ho';cases ho'
   obtain⟨l',s',m1,m2,m3,m4⟩:=nS (T:=[p,x]) f _ _ hst (fun t ht j oj hj hu=>by
    simp only[List.mem_cons,List.not_mem_nil,or_false] at ht
    intro hdj
    have hw:Region.waitsFor .any ops i j=true:=by
     rcases ht with rfl|rfl
     ·exact hp j oj hj hdj
     ·exact hx j oj hj hdj
    obtain⟨ow,how,e,he,hb,hon⟩:=Region.waitsFor_spec hw
    rw[hn] at how;cases how
    have h1:=hall e he hb
    rw[hon] at h1
    obtain⟨_,hu'⟩:=unl j hu
    rw[getD_both hu'] at h1;cases h1)
   obtain⟨z1,z2,z3⟩:=hLs _ _ m1
   rw[m2 p (by simp)] at z1
   rw[m2 x (by simp)] at z2
   have hobs:s.ob id=some (.one u v0):=by rw[hob];exact hob0
   have hlks:s.lkO.contains id=false:=by rw[hS.lkO];exact hlk
   have hev:lV E s ostore some=some (s.setOb id (some (.one u v1))):=by
    unfold lV
    rw[hop]
    simp only[hT,Option.bind_some,St.opA,z1,z2,htt,hf1,hlks,hobs,Bool.not_false,Bool.and_true,if_true,xF]
   obtain⟨s1,k1,k2⟩:=pD hE h (e0 ▸ hfr i ostore hn hun) (fun T t _ ht=>hE.flat T t ht) (fun t _=>by rw[hdst];simp) (fun _ _ _ _=>hdst) hev
   cases k1
   obtain⟨r1,r2,r3,r4,r5,r6⟩:=k2
   unfold wpOpIn
   rw[hn]
   simp only
   rw[if_pos (by simp[Region.wanted,hgd])]
   refine(aM r6 fun val w' ⟨S',γ',β',m1,m2,m3⟩=>?_)
   have el:nh i id (.one u v1) (listed.setIfInBounds i true) s=s.setOb id (some (.one u v1)):=by
    unfold nh;rw[if_pos (by simp[hsz])]
   refine jo hE hn hop hdst hgd hp hx hheads hT htt hf1 hlk hob0 hd hLs hL f _ s S' γ' β' _ _ (by rw[el];exact m1) (hF.trans m2 hS.lkS hS.lkO) hS hob (fun _ j hw=>?_) (fun j oj hj hu=>?_) hst
   ·obtain⟨ow,how,e,he,hb,hon⟩:=Region.waitsFor_spec hw
    rw[hn] at how;cases how
    have h1:=hall e he hb
    rw[hon] at h1
    exact getD_set_true h1
   ·rw[el]
    obtain⟨_,hu'⟩:=unl j hu
    exact(e0 ▸ hfr j oj hj hu':Fr E s γ β oj).keep (fun d _=>by rw[hdst];simp) rfl (fun id' h1 h2=>r5 id' h1 h2) m3
  ·
   have hilt:i<n:=by omega
   obtain⟨_,o,ho,hall⟩:=mem_ready.1 hi
   unfold oF at hst
   rw[ho] at hst
   simp only at hst
   obtain⟨v,hv,hst⟩:=hst
   unfold kM at hv
   rw[if_neg hni] at hv
   unfold pi at hv
   rw[ho] at hv
   simp only at hv
   split at hv<;>first|(cases hv;done)|skip
   rename_i hlko
   have hog:=hheads i o hilt ho
   have hlkl:iX (nh n id (.one u v1) listed s) o=iX s o:=by unfold nh;split<;>rfl
   have hval:val E ops (nh n id (.one u v1) listed s) o=some v:=by
    unfold val
    rw[hlkl,if_neg hlko,hog]
    simp only
    split at hv
    ·rename_i hw
     have:listed.getD n false=false:=by
      cases hln:listed.getD n false with
      | false=>rfl
      | true=>
       have:=hcl hln i hw
       rw[getD_both hun] at this;cases this
     have e:nh n id (.one u v1) listed s=s:=by unfold nh;rw[this];rfl
     rw[e];exact hv
    ·split at hv<;>first|(cases hv;done)|skip
     rename_i hk
     refine AG (s:=s.setOb id none) (id:=id) ?_ ?_ (fun j hj=>?_) ?_ hk hv
     ·unfold nh;split<;>rfl
     ·unfold nh;split<;>rfl
     ·unfold nh;split<;>simp[St.setOb,hj]
     ·simp[St.setOb]
   have el:(nh n id (.one u v1) listed s).put o.dst v=nh n id (.one u v1) (listed.setIfInBounds i true) (s.put o.dst v):=by
    unfold nh
    rw[getD_set_ne false hni]
    split
    ·rw[rS]
    ·rfl
   obtain⟨k1,k2⟩:=tf hE h (hfr i o ho hun) hval
   have pf:=St.put_fields s o.dst v
   have smL:Sm s0 (nh n id (.one u v1) listed s):=by
    unfold nh;split
    ·exact hS.trans (Sm.setOb s id _)
    ·exact hS
   have pl:=St.put_fields (nh n id (.one u v1) listed s) o.dst v
   have frn:∀ {γ':Nat->Option Nat} {β':Nat->Option (Nat×Nat)},(∀ id':Nat,o.dst≠some (id'-(nh n id (.one u v1) listed s).base)\/id'<(nh n id (.one u v1) listed s).base->γ' id'=γ id'/\β' id'=β id')->∀ j oj,ops[j]?=some oj->(listed.setIfInBounds i true).getD j true=false->Fr E (nh n id (.one u v1) (listed.setIfInBounds i true) (s.put o.dst v)) γ' β' oj:=fun hk j oj hj hu=>by
    obtain⟨hij,hu'⟩:=unl j hu
    rw[<-el]
    exact(hfr j oj hj hu').keep (fun d hdj=>hd i j o oj hij ho hj d hdj) pl.2.1 (fun id' _ _=>by rw[pl.1]) hk
   have hcl':(listed.setIfInBounds i true).getD n false=true->∀ j,Region.waitsFor .any ops n j=true->(listed.setIfInBounds i true).getD j false=true:=fun h1 j hw=>by
    rw[getD_set_ne false hni] at h1
    exact getD_set_true (hcl h1 j hw)
   unfold wpOpIn
   rw[ho]
   simp only
   split
   ·rename_i hw
    refine(aM (k1 hw) fun u' w' ⟨S',γ',β',m1,m2,m3⟩=>?_)
    exact jo hE hn hop hdst hgd hp hx hheads hT htt hf1 hlk hob0 hd hLs hL f _ _ S' γ' β' _ _ (el ▸ m1) (hF.trans m2 smL.lkS smL.lkO) (hS.trans (Sm.put s o.dst v)) (pf.1.trans hob) hcl' (frn m3) hst
   ·rename_i hw
    obtain⟨m1,m2⟩:=k2 (by simpa using hw)
    refine⟨fun _ _=>trivial,?_⟩
    exact jo hE hn hop hdst hgd hp hx hheads hT htt hf1 hlk hob0 hd hLs hL f _ _ S γ β _ _ (el ▸ m1) (hF.trans m2 smL.lkS smL.lkO) (hS.trans (Sm.put s o.dst v)) (pf.1.trans hob) hcl' (frn fun id _=>⟨rfl,rfl⟩) hst
theorem pQ(hE:EnvOk P E){id:Nat}{n:Nat}{Q:Exit->Act->World->Prop}{S:Nat->Nat->Prop}{γ:Nat->Option Nat}{β:Nat->Option (Nat×Nat)}{s:St}{a:Act}{w:World}{R:Type}{k:St->Option R}{r:R}{N:Nat}
  (h:Rp w0 S γ β s a w) (hf:Dd E s γ β ops.toList) (hm:bW ops.toList=true) (hlt:qA ops n=true) {an:Ann}
  (hev:Gv E ops n (ja ops n s) n 0 s (fun s2=>if qM ops n s2=some (ja ops n s) then fV E N R ops an ((bf 0 ops.toList).drop n) s2 k else none)=some r)
  (hQ:∀ s' S' γ' β' a' w',Rp w0 S' γ' β' s' a' w'->Fm s S γ a w S' γ' a' w'->Sk s s'->k s'=some r->Q .normal a' w'):(Code.region id ops true).wpIn (FW ro) nn P Q a w:=by
 simp only[bW,Bool.and_eq_true] at hm
 obtain⟨⟨hm1,hm2⟩,hm3⟩:=hm
 have hstores:(ops.toList.all fun o=>match o.op with|.store ..=>o.dst.isNone|_=>true)=true:=hm3
 unfold qA at hlt
 split at hlt<;>first|(cases hlt;done)|skip
 rename_i ostore hn
 split at hlt<;>first|(cases hlt;done)|skip
 rename_i T p x hop
 obtain⟨ido,hid⟩:∃ ido,ja ops n s=ido:=⟨_,rfl⟩
 rw[hid] at hev
 simp only[Bool.and_eq_true] at hlt
 obtain⟨⟨⟨⟨⟨l2,l3⟩,l4⟩,l5⟩,l6⟩,l7⟩:=hlt
 have hns:n<ops.size:=(Array.getElem?_eq_some_iff.1 hn).1
 have hnm:ostore∈ops.toList:=Array.mem_toList_iff.2 (Array.mem_of_getElem? hn)
 have hdst:ostore.dst=none:=by
  have:=List.all_eq_true.1 hm3 ostore hnm
  rw[hop] at this
  simpa using this
 have hpx:∀ (j:Nat) (oj:Oper),ops[j]?=some oj->(oj.dst=some p\/oj.dst=some x)->Region.waitsFor .any ops n j=true:=fun j oj hj e=>by
  have hjlt:=(Array.getElem?_eq_some_iff.1 hj).1
  have:=List.all_eq_true.1 l2 j (List.mem_range.2 hjlt)
  rw[hj,Option.bind_some] at this
  rcases e with e|e<;>(rw[e] at this;simpa using this)
 have hp:∀ (j:Nat) (oj:Oper),ops[j]?=some oj->oj.dst=some p->Region.waitsFor .any ops n j=true:=fun j oj hj e=>hpx j oj hj (.inl e)
 have hx:∀ (j:Nat) (oj:Oper),ops[j]?=some oj->oj.dst=some x->Region.waitsFor .any ops n j=true:=fun j oj hj e=>hpx j oj hj (.inr e)
 have hheads:∀ (j:Nat) (oj:Oper),j<n->ops[j]?=some oj->oj.guard=none:=fun j oj hjn hj=>by
  have hm':oj∈ops.toList.take n:=by
   refine List.mem_of_getElem? (i:=j) ?_
   rw[List.getElem?_take_of_lt hjn,Array.getElem?_toList];exact hj
  have:=List.all_eq_true.1 l3 oj hm'
  simp only[Bool.and_eq_true] at this
  simpa using this.2
 have htails:∀ o∈ops.toList.drop n,o.guard=none:=fun o ho=>by
  have:=List.all_eq_true.1 l4 o ho
  simp only[Bool.and_eq_true] at this
  simpa using this.1
 have hdrop:ops.toList.drop n=ostore::ops.toList.drop (n+1):=by
  have h1:n<ops.toList.length:=by simpa using hns
  rw[List.drop_eq_getElem_cons h1]
  have:ops.toList[n]=ostore:=by
   have:=(Array.getElem?_eq_some_iff.1 hn).2
   simpa using this
  rw[this]
 have hgd:ostore.guard=none:=htails ostore (by rw[hdrop];simp)
 obtain⟨s',q1,q2⟩:=yy n 0 s (by omega) hev
 split at q2<;>first|(cases q2;done)|skip
 rename_i hat
 obtain⟨t0,hptr⟩:∃ t0,s'.tm p=.ptr t0 ido []:=by
  unfold qM at hat
  simp only[hn,hop] at hat
  split at hat<;>first|(cases hat;done)|skip
  rename_i t0 id0 hpe
  cases hat
  exact⟨t0,hpe⟩
 have hnum:(bf 0 ops.toList).drop n=(n,ostore)::(bf 0 ops.toList).drop (n+1):=by
  have h1:n<(bf 0 ops.toList).length:=by rw[iu];simpa using hns
  rw[List.drop_eq_getElem_cons h1]
  have key:∀ (l:List Oper) (i j:Nat) (o:Oper),l[j]?=some o->(bf i l)[j]?=some (i+j,o):=by
   intro l
   induction l with
   | nil=>intro i j o hj;simp at hj
   | cons y l ih=>
    intro i j o hj
    cases j with
    | zero=>simp at hj;subst hj;simp[bf]
    | succ j=>simp only[List.getElem?_cons_succ] at hj;simp only[bf,List.getElem?_cons_succ];rw[ih (i+1) j o hj];congr 2;omega
  have:=key ops.toList 0 n ostore (by rw[Array.getElem?_toList];exact hn)
  rw[List.getElem?_eq_getElem h1,Nat.zero_add] at this
  rw[Option.some.inj this]
 rw[hnum] at q2
 obtain⟨N',hN⟩:∃ N',N=N'+1:=by
  cases N with
  | zero=>simp[fV] at q2
  | succ N'=>exact⟨N',rfl⟩
 subst hN
 have hseg:gv n ((bf 0 ops.toList).drop (n+1))=false:=by
  unfold gv
  split
  ·rename_i p' l' hl
   have hmem:p'.2∈ops.toList.drop n:=by
    have h1:p'∈(bf 0 ops.toList).drop n:=by rw[hnum,hl];simp
    have:p'.2∈((bf 0 ops.toList).drop n).map Prod.snd:=List.mem_map_of_mem h1
    rwa [List.map_drop,aQ] at this
   unfold rN
   rw[htails _ hmem]
  ·rfl
 have hinl:mY E ostore=false:=by unfold mY;rw[hop]
 simp only[fV,hgd,hseg,hinl,Bool.false_eq_true,if_false] at q2
 unfold yn at q2
 have hlkn:iX s' ostore=false:=by unfold iX;rw[hdst]
 rw[if_neg (by rw[hlkn];simp)] at q2
 unfold lV at q2
 rw[hop] at q2
 simp only at q2
 have keep:∀ (c kk:Nat) (s s':St),gZ (kM E ops n ido) ops c kk s=some s'->s'.ob=s.ob/\Sm s s':=by
  intro c
  induction c with
  | zero=>intro kk s s' hs;simp only[gZ,Option.some.injEq] at hs;subst hs;exact⟨rfl,Sm.refl s⟩
  | succ c ih=>
   intro kk s s' hs
   simp only[gZ] at hs
   obtain⟨v,h1,h2⟩:=bind_some_inv hs
   obtain⟨m2,m3⟩:=ih _ _ _ h2
   have pf:=St.put_fields s ((ops[kk]?).bind (·.dst)) v
   exact⟨m2.trans pf.1,(Sm.put s _ v).trans m3⟩
 obtain⟨c2,c3⟩:=keep n 0 s s' q1
 obtain⟨t,hT,q3⟩:=bind_some_inv q2
 rw[show s'.opA (.tmp p)=.ptr t0 ido [] from hptr] at q3
 simp only at q3
 split at q3<;>first|(cases q3;done)|skip
 rename_i hcond
 simp only[Bool.and_eq_true,Bool.not_eq_true'] at hcond
 obtain⟨⟨d1,d2⟩,d3⟩:=hcond
 split at q3<;>first|(cases q3;done)|skip
 ·rename_i u v0 hobs
  obtain⟨v1,hv1⟩:∃ v1,s'.opA (.tmp x)=v1:=⟨_,rfl⟩
  rw[hv1] at q3 d2
  have q4:fV E N' R ops an ((bf 0 ops.toList).drop (n+1)) (s'.setOb ido (some (.one u v1))) k=some r:=by
   cases v0<;>simpa only[xF] using q3
  clear q3 q2
  have hW:pJ .any ops (n+1):=by
   intro listed i inv hin hun t ht hr
   simp only[Bool.or_eq_true,decide_eq_true_eq,Bool.and_eq_true] at l7
   rcases l7 with l7|⟨⟨l7,l8⟩,l9⟩
   ·obtain⟨_,o,ho,_⟩:=mem_ready.1 hr
    have:=(Array.getElem?_eq_some_iff.1 ho).1
    omega
   ·exact tail_waits l8 l9 l7 inv _ i rfl hin hun t ht hr
  refine wpIn_region_any hE.mixed ?_
  have hg:∃ os d,w.drawn<=d/\({ w with drawn:=w.drawn+1 }:World)=ao w os d:=⟨[],w.drawn+1,Nat.le_succ _,by simp[ao]⟩
  obtain⟨os,d,hdr,hg⟩:=hg
  obtain⟨g1,g2⟩:=h.grow (os:=os) (d:=d) hdr (S':=S) (fun _ _ hb=>hb) (fun _ _ hb=>.inl hb)
  rw[hg]
  have inv0:HeadInv .any ops (n+1) (Array.replicate ops.size false):=
   ⟨by simp,fun j oj _ hl=>(by rw[getD_replicate_false] at hl;cases hl),fun t _ ht=>getD_in (by simpa using ht) (getD_replicate_false _ _)⟩
  have hseq:gZ (kM E ops n ido) ops (n+1) 0 s=some s':=by
   rw[ww n 1 0,q1,Option.bind_some]
   simp only[gZ,kM,Nat.zero_add,if_true,Option.bind_some,hn,hdst]
   rfl
  have H:=nl (sF:=s') (BL (E:=E) (ops:=ops) n ido) (by omega) hW (n+1) 0 (Array.replicate ops.size false) s (by omega) inv0 (fun i hi=>by omega) l6 hseq
  have e0:nh n ido (.one u v1) (Array.replicate ops.size false) s=s:=by unfold nh;rw[getD_replicate_false];rfl
  have hdl:(ops.toList.drop (n+1)).length=ops.size-(n+1):=by simp
  have hsub0:∀ j oj,ops[j]?=some oj->(Array.replicate ops.size false).getD j true=false->Fr E (nh n ido (.one u v1) (Array.replicate ops.size false) s) γ β oj:=fun j oj hj _=>by
   rw[e0];exact hf oj (Array.mem_toList_iff.2 (Array.mem_of_getElem? hj))
  have:=jo (ro:=ro) (nn:=nn) (w0:=w0) (Q:=Q) (g:=ops.size-(n+1)) (s0:=s) (S0:=S) (γ0:=γ) (a0:=a) (w1:=ao w os d) hE hn hop hdst hgd hp hx hheads hT d1 d2 (by rw[<-c3.lkO];exact d3) (by rw[<-c2];exact hobs) (fun i j oi oj hij hi hj d hd=>jK hm1 hij (by rw[Array.getElem?_toList];exact hi) (by rw[Array.getElem?_toList];exact hj) d hd)
   (fun listed s2 hL=>by
    obtain⟨_,hl,rfl⟩:=hL
    exact⟨hptr,hv1,hl n (by omega)⟩)
   (fun listed s2 S2 γ2 β2 a2 w2 m1 m2 m3 m4 m5=>by
    obtain⟨m5,m6,m7⟩:=m5
    subst m7
    have hseq:=fd (F:=FW ro) (n:=nn) (P:=P) (md:=.any) (ops:=ops) (Q':=Q) (ops.toList.drop (n+1)) (n+1) listed a2 w2 (fun j=>by rw[List.getElem?_drop,Array.getElem?_toList]) (by rw[hdl];exact m5) ?_
    ·rwa [hdl] at hseq
    have hunl:∀ j oj,ops[j]?=some oj->n+1<=j->listed.getD j true=false:=by
     intro j oj hj hnj
     have key:∀ (g k:Nat) (listed:Array Bool),Region.seqB .any ops g k listed=true->∀ j,k<=j->j<k+g->listed.getD j true=false:=by
      intro g
      induction g with
      | zero=>intro k listed _ j h1 h2;omega
      | succ g ih=>
       intro k listed hB j h1 h2
       simp only[Region.seqB,Bool.and_eq_true,decide_eq_true_eq] at hB
       by_cases hjk:j=k
       ·subst hjk
        have:j∈Region.ready .any ops listed:=by rw[hB.1];simp
        exact(mem_ready.1 this).1
       ·have:=ih (k+1) _ hB.2 j (by omega) (by omega)
        rwa [getD_set_ne true (Ne.symm hjk)] at this
     have hjlt:=(Array.getElem?_eq_some_iff.1 hj).1
     exact key _ _ _ m5 j hnj (by omega)
    have fin:=pY (ro:=ro) (nn:=nn) (ops:=ops) hE (Q:=Q) hstores N' R ((bf 0 ops.toList).drop (n+1)) k r an m1 (by
      rw[List.map_drop,aQ]
      intro o ho
      obtain⟨i,hi,he⟩:=List.getElem_of_mem ho
      have hi2:ops[n+1+i]?=some o:=by
       have:(ops.toList.drop (n+1))[i]?=some o:=by rw[List.getElem?_eq_getElem hi,he]
       rwa [List.getElem?_drop,Array.getElem?_toList] at this
      exact m4 (n+1+i) o hi2 (hunl _ _ hi2 (by omega)))
     (by
      rw[List.map_drop,aQ]
      intro A B o o' e ho d hd
      exact dn hm1 (ops.toList.take (n+1)++A) B o o' (by rw[List.append_assoc,<-e,List.take_append_drop]) ho d hd)
     (fun p hp=>gD (List.mem_of_mem_drop hp)) q4 (fun s3 S3 γ3 β3 a3 w3 n1 n2 n3 n4=>by
      refine hQ s3 S3 γ3 β3 a3 w3 n1 ?_ (Sk.trans (m3.trans (Sm.setOb _ ido (some (.one u v1)))).sk n3) n4
      have f0:Fm s S γ a w S γ a (ao w os d):=⟨fun _ _ hb=>hb,g2.cell,fun _ _=>rfl,fun id hid b hb=>⟨hb,bI (h.γn id b hb).2⟩,by simp,fun _ _ hb=>hb⟩
      exact(f0.trans m2 rfl rfl).trans n2 (show _=_ from m3.lkS) (show _=_ from m3.lkO))
    rwa [List.map_drop,aQ] at fin)
   (n+1) (Array.replicate ops.size false) s S γ β a (ao w os d) (by rw[e0];exact g1) (Fm.refl _ _ _ _ _) (Sm.refl s) rfl (fun hl=>by rw[getD_replicate_false] at hl;cases hl) hsub0 H
  rw[show n+1+(ops.size-(n+1))=ops.size by omega] at this
  exact this
end
end Go.Proofs.YtjjjkojfijpeeaaGreat.Sy
end
section
namespace Go.Proofs.YtjjjkojfijpeeaaGreat.Sy
open Go
variable{ro:Option Nat}{nn:Nat}
section
variable{E:Env}{ops:Array Oper}
def vH(E:Env)(ops:Array Oper)(m i:Nat)(s:St):Option AV:=match ops[i]? with
 | none=>none
 | some o=>if iX s o then none else if i=m then(mH E s o).map Prod.fst else qv E s o some
theorem xt{s s':St}{o:Oper}(hob:s'.ob=s.ob)(hf:s'.fresh=s.fresh)(hd:s'.dead=s.dead)(h:∀ x∈o.op.operands,s'.opA x=s.opA x):mH E s' o=mH E s o:=by
 unfold mH uV
 obtain⟨dst,op,ty,pos,after,guard⟩:=o
 cases op<;>try rfl
 rename_i c
 obtain⟨callee,args,argTypes⟩:=c
 cases callee<;>try rfl
 rename_i b
 cases b<;>try rfl
 simp only
 cases hT:argTypes[0]? with
 | none=>rfl
 | some T=>
 simp only[Option.bind_some]
 cases hL:E.L T with
 | none=>rfl
 | some t=>
 simp only[Option.bind_some]
 cases dst with
 | none=>rfl
 | some d=>
 simp only[Option.bind_some]
 split
 ·rename_i e x y T0 T' hargs htys
  have hx:s'.opA x=s.opA x:=h x (by
   show x∈(Op.call ⟨.builtin .append,args,argTypes⟩).operands
   have e:(Op.call ⟨.builtin .append,args,argTypes⟩).operands=args:=by first|rfl|simp[Op.operands,Call.operands]
   rw[e,<-Array.mem_toList_iff,hargs];simp)
  have hy:s'.opA y=s.opA y:=h y (by
   show y∈(Op.call ⟨.builtin .append,args,argTypes⟩).operands
   have e:(Op.call ⟨.builtin .append,args,argTypes⟩).operands=args:=by first|rfl|simp[Op.operands,Call.operands]
   rw[e,<-Array.mem_toList_iff,hargs];simp)
  have hb:s'.base=s.base:=by unfold St.base;rw[hf]
  rw[hx,hy,hob,hd,hb]
 ·rfl
theorem Ez(m:Nat):H8 (vH E ops m) ops:=by
 intro i oi hi s d v h
 obtain⟨p1,p2,p3,p4,p5,p6,p7⟩:=St.put_fields s d v
 have e1:iX (s.put d v) oi=iX s oi:=by simp only[iX,p5]
 have hx:∀ x∈oi.op.operands,∀ t,d=some t->x≠.tmp t:=fun x hx t ht e=>h t ht (by
  subst e
  exact List.mem_append_left _ (List.mem_filterMap.2 ⟨.tmp t,by simpa using hx,rfl⟩))
 have e2:qv E (s.put d v) oi some=qv E s oi some:=jM p1 p2 fun x hm=>kA (hx x hm)
 have e3:mH E (s.put d v) oi=mH E s oi:=xt p1 p2 p3 fun x hm=>kA (hx x hm)
 unfold vH
 rw[hi]
 simp only[e1,e2,e3]
theorem xb{R:Type}{s:St}{o:Oper}{K:AV×List Nat->Option R}{r:R}(h:uV E s o K=some r):∃ v,mH E s o=some v/\K v=some r:=by
 unfold uV at h
 obtain⟨dst,op,ty,pos,after,guard⟩:=o
 cases op<;>first|(cases h;done)|skip
 rename_i c
 obtain⟨callee,args,argTypes⟩:=c
 cases callee<;>first|(cases h;done)|skip
 rename_i b
 cases b<;>first|(cases h;done)|skip
 simp only at h
 replace h:=bind_some_inv h;obtain⟨T,hT,h⟩:=h
 replace h:=bind_some_inv h;obtain⟨t,ht,h⟩:=h
 replace h:=bind_some_inv h;obtain⟨d,hd,h⟩:=h
 split at h<;>first|(cases h;done)|skip
 rename_i e x y T0 T' hargs htys
 split at h<;>first|(cases h;done)|skip
 rename_i e2 ht2
 replace h:=bind_some_inv h;obtain⟨l',hl',h⟩:=h
 unfold mH uV
 simp only[hT,ht,hd,hargs,htys,ht2,hl',Option.bind_some]
 split at h<;>first|(cases h;done)|skip
 ·rename_i e' v0 l hx
  split at h<;>first|(cases h;done)|skip
  rename_i hc
  split at h<;>first|(cases h;done)|skip
  rename_i hlen
  exact⟨_,by simp only[hx,hc,hlen,if_true],h⟩
 ·rename_i hx
  split at h<;>first|(cases h;done)|skip
  rename_i hlen
  exact⟨_,by simp only[hx,hlen,if_true],h⟩
theorem DU{R:Type}{s:St}{o:Oper}{v:AV}{D:List Nat}(h:mH E s o=some (v,D))(K:St->Option R):lV E s o K=K (({ s with dead:=D }:St).put o.dst v):=by
 unfold mH uV at h
 obtain⟨dst,op,ty,pos,after,guard⟩:=o
 cases op<;>first|(cases h;done)|skip
 rename_i c
 obtain⟨callee,args,argTypes⟩:=c
 cases callee<;>first|(cases h;done)|skip
 rename_i b
 cases b<;>first|(cases h;done)|skip
 simp only at h
 replace h:=bind_some_inv h;obtain⟨T,hT,h⟩:=h
 replace h:=bind_some_inv h;obtain⟨t,ht,h⟩:=h
 replace h:=bind_some_inv h;obtain⟨d,hd,h⟩:=h
 split at h<;>first|(cases h;done)|skip
 rename_i e x y T0 T' hargs htys
 split at h<;>first|(cases h;done)|skip
 rename_i e2 ht2
 replace h:=bind_some_inv h;obtain⟨l',hl',h⟩:=h
 unfold lV
 simp only[hT,ht,hd,hargs,htys,ht2,hl',Option.bind_some]
 split at h<;>first|(cases h;done)|skip
 ·rename_i e' v0 l hx
  split at h<;>first|(cases h;done)|skip
  rename_i hc
  split at h<;>first|(cases h;done)|skip
  rename_i hlen
  cases h
  simp only[hx,hc,hlen,if_true]
 ·rename_i hx
  split at h<;>first|(cases h;done)|skip
  rename_i hlen
  cases h
  simp only[hx,hlen,if_true]
theorem AT{s:St}{dst:Option Nat}{args:Array Operand}{argTypes:Array TypeId}{ty:TypeId}{pos:String}{after:Array Edge}{guard:Option (Nat×Bool)}{v:AV}{D:List Nat}{p:Nat}{y:Operand}(h:mH E s ⟨dst,.call ⟨.builtin .append,args,argTypes⟩,ty,pos,after,guard⟩=some (v,D))(hargs:args.toList=[.tmp p,y]):D=jI s p:=by
 unfold mH uV at h
 simp only at h
 replace h:=bind_some_inv h;obtain⟨T,hT,h⟩:=h
 replace h:=bind_some_inv h;obtain⟨t,ht,h⟩:=h
 replace h:=bind_some_inv h;obtain⟨d,hd,h⟩:=h
 split at h<;>first|(cases h;done)|skip
 rename_i e x y' T0 T' hargs' htys
 rw[hargs] at hargs'
 cases hargs'
 split at h<;>first|(cases h;done)|skip
 replace h:=bind_some_inv h;obtain⟨l',hl',h⟩:=h
 have ho:s.opA (.tmp p)=s.tm p:=rfl
 unfold jI
 rw[ho] at h
 split at h<;>first|(cases h;done)|skip
 ·rename_i hx
  rw[hx]
  split at h<;>first|(cases h;done)|skip
  split at h<;>first|(cases h;done)|skip
  cases h;rfl
 ·rename_i hx
  rw[hx]
  split at h<;>first|(cases h;done)|skip
  cases h;rfl
theorem uf{R:Type}{m:Nat}{K:St->Option R}{r:R}:∀ (c k:Nat) (s:St),FP E ops m c k s K=some r->∃ s',gZ (vH E ops m) ops c k s=some s'/\K s'=some r
 | 0,k,s,h=>⟨s,rfl,h⟩
 | c+1,k,s,h=>by
  simp only[FP] at h
  cases ho:ops[k]? with
  | none=>rw[ho] at h;cases h
  | some o=>
   rw[ho] at h
   simp only at h
   split at h<;>first|(cases h;done)|skip
   rename_i hlk
   split at h
   ·rename_i hkm
    obtain⟨v,h1,h2⟩:=xb h
    obtain⟨s',h3,h4⟩:=uf c (k+1) _ h2
    refine⟨s',?_,h4⟩
    subst hkm
    simp only[gZ,vH,ho,if_neg hlk,if_true,h1,Option.map_some,Option.bind_some]
    exact h3
   ·rename_i hkm
    obtain⟨v,h1,h2⟩:=eR h
    obtain⟨s',h3,h4⟩:=uf c (k+1) _ h2
    refine⟨s',?_,h4⟩
    simp only[gZ,vH,ho,if_neg hlk,if_neg hkm,h1,Option.bind_some]
    exact h3
def eP(m:Nat)(D:List Nat)(listed:Array Bool)(s:St):St:=if listed.getD m false then{ s with dead:=D } else s
theorem uR(s:St)(d:Option Nat)(v:AV)(D:List Nat):({ s with dead:=D }:St).put d v={ s.put d v with dead:=D }:=by
 cases d with
 | none=>rfl
 | some d=>
  by_cases h:d<s.nt
  ·simp only[St.put,h,if_true]
  ·simp only[St.put,h,if_false]
theorem wR(m:Nat)(D:List Nat)(listed:Array Bool)(s:St):(eP m D listed s).ob=s.ob/\(eP m D listed s).fresh=s.fresh/\(eP m D listed s).lkS=s.lkS/\(eP m D listed s).lkO=s.lkO/\(eP m D listed s).nt=s.nt/\(eP m D listed s).tm=s.tm:=by
 unfold eP;split<;>exact⟨rfl,rfl,rfl,rfl,rfl,rfl⟩
theorem xJ{V:Nat->St->Option AV}{md:Region.Mode}{n:Nat}{L:Array Bool->St->Prop}{T:List Nat}:∀ (f:Nat) (listed:Array Bool) (s:St),mF V md ops n L f listed s ->
  (∀ t∈T,∀ j oj,ops[j]?=some oj->listed.getD j true=false->oj.dst≠some t)->∃ listed' s',L listed' s'/\(∀ t∈T,s'.tm t=s.tm t)
 | f,listed,s,h,hT=>by
  obtain⟨l',s',m1,m2,_⟩:=nS f listed s h hT
  exact⟨l',s',m1,m2⟩
end
section
variable{P:Program}{E:Env}{w0:Root}{ops:Array Oper}
theorem kF(hE:EnvOk P E){n m g p:Nat}{tp:AV}{D:List Nat}{y:Operand}{dst:Option Nat}{args:Array Operand}{argTypes:Array TypeId}{ty:TypeId}{pos:String}{after:Array Edge}{L:Array Bool->St->Prop}{Q:Exit->Act->World->Prop}{s0:St}{S0:Nat->Nat->Prop}{γ0:Nat->Option Nat}{a0:Act}{w1:World}
  (hm:ops[m]?=some ⟨dst,.call ⟨.builtin .append,args,argTypes⟩,ty,pos,after,none⟩) (hargs:args.toList=[.tmp p,y])
  (hp:∀ (j:Nat) (oj:Oper),ops[j]?=some oj->oj.dst=some p->Region.waitsFor .any ops m j=true)
  (hheads:∀ (j:Nat) (oj:Oper),j<n->ops[j]?=some oj->oj.guard=none)
  (hD:∀ s:St,s.tm p=tp->s.dead=s0.dead->jI s p=D)
  (hd:∀ (i j:Nat) (oi oj:Oper),i≠j->ops[i]?=some oi->ops[j]?=some oj->∀ d,oj.dst=some d->oi.dst≠some d)
  (hLs:∀ listed s,L listed s->s.tm p=tp/\listed.getD m false=true)
  (hL:∀ listed s S γ β a w,Rp w0 S γ β { s with dead:=D } a w->Fm s0 S0 γ0 a0 w1 S γ a w->Sm s0 s->(∀ j oj,ops[j]?=some oj->listed.getD j true=false->Fr E { s with dead:=D } γ β oj)->L listed s->wpAnyIn (FW ro) nn P .any ops Q g listed a w) :
  ∀ (f:Nat) (listed:Array Bool) (s:St) (S:Nat->Nat->Prop) (γ:Nat->Option Nat) (β:Nat->Option (Nat×Nat)) (a:Act) (w:World),Rp w0 S γ β (eP m D listed s) a w->Fm s0 S0 γ0 a0 w1 S γ a w->Sm s0 s->s.dead=s0.dead ->
   (∀ j oj,ops[j]?=some oj->listed.getD j true=false->Fr E (eP m D listed s) γ β oj)->mF (vH E ops m) .any ops n L f listed s->wpAnyIn (FW ro) nn P .any ops Q (f+g) listed a w
 | 0,listed,s,S,γ,β,a,w,h,hF,hS,hdd,hfr,hh=>by
  rw[Nat.zero_add]
  have hh':L listed s:=hh
  have e:eP m D listed s={ s with dead:=D }:=by unfold eP;rw[if_pos (hLs _ _ hh').2]
  rw[e] at h
  exact hL _ _ _ _ _ _ _ h hF hS (fun j oj hj hu=>e ▸ hfr j oj hj hu) hh'
 | f+1,listed,s,S,γ,β,a,w,h,hF,hS,hdd,hfr,hh=>by
  rw[show f+1+g=(f+g)+1 by omega]
  refine⟨fun h0=>absurd h0 hh.1,fun i hi=>?_⟩
  obtain⟨hin,hst⟩:=hh.2 i hi
  have hun:=(mem_ready.1 hi).1
  have unl:∀ j,(listed.setIfInBounds i true).getD j true=false->i≠j/\listed.getD j true=false:=fun j hu=>by
   by_cases hij:i=j
   ·subst hij
    exfalso
    rcases Nat.lt_or_ge i listed.size with hlt|hge
    ·simp[Array.getD,hlt] at hu
    ·simp[Array.getD,Nat.not_lt.2 hge] at hu
   ·rw[getD_set_ne true hij] at hu;exact⟨hij,hu⟩
  have hsz:i<listed.size:=by
   rcases Nat.lt_or_ge i listed.size with hlt|hge
   ·exact hlt
   ·simp[Array.getD,Nat.not_lt.2 hge] at hun
  obtain⟨_,o,ho,hall⟩:=mem_ready.1 hi
  unfold oF at hst
  rw[ho] at hst
  simp only at hst
  obtain⟨v,hv,hst⟩:=hst
  unfold vH at hv
  rw[ho] at hv
  simp only at hv
  split at hv<;>first|(cases hv;done)|skip
  rename_i hlko
  have pf:=St.put_fields s o.dst v
  obtain⟨z1,z2,z3,z4,z5,z6⟩:=wR m D listed s
  have smL:Sm s0 (eP m D listed s):=⟨z3.trans hS.lkS,z4.trans hS.lkO,z2.trans hS.fresh,z5.trans hS.nt⟩
  have hlk':∀ t∈(eP m D listed s).lkS,o.dst≠some t:=fun t ht e=>hlko (by
   rw[z3] at ht
   simp[iX,e];exact ht)
  by_cases hmi:i=m
  ·
   subst hmi
   rw[if_pos rfl] at hv
   rw[hm] at ho
   cases ho
   have hlf:=getD_both hun
   have e0:eP i D listed s=s:=by unfold eP;rw[hlf];rfl
   have hv2:∃ D',mH E s ⟨dst,.call ⟨.builtin .append,args,argTypes⟩,ty,pos,after,none⟩=some (v,D'):=by
    cases ha:mH E s ⟨dst,.call ⟨.builtin .append,args,argTypes⟩,ty,pos,after,none⟩ with
    | none=>rw[ha] at hv;cases hv
    | some q=>rw[ha] at hv;obtain⟨q1,q2⟩:=q;cases hv;exact⟨q2,rfl⟩
   obtain⟨D',hv2⟩:=hv2
   have hdp:dst≠some p:=fun e=>by
    have hw:=hp i _ hm e
    obtain⟨ow,how,e',he,hb,hon⟩:=Region.waitsFor_spec hw
    rw[hm] at how;cases how
    have h1:=hall e' he hb
    rw[hon] at h1
    rw[hlf] at h1;cases h1
   obtain⟨l',s',m1,m2⟩:=xJ (T:=[p]) f _ _ hst (fun t ht j oj hj hu=>by
    simp only[List.mem_cons,List.not_mem_nil,or_false] at ht
    subst ht
    intro hdj
    have hw:=hp j oj hj hdj
    obtain⟨ow,how,e,he,hb,hon⟩:=Region.waitsFor_spec hw
    rw[hm] at how;cases how
    have h1:=hall e he hb
    rw[hon] at h1
    obtain⟨_,hu'⟩:=unl j hu
    rw[getD_both hu'] at h1;cases h1)
   have z7:=(hLs _ _ m1).1
   rw[m2 p (by simp),nH hdp] at z7
   have eD:D'=D:=(AT hv2 hargs).trans (hD s z7 hdd)
   subst eD
   rw[e0] at h hlk'
   obtain⟨s1,k1,k2⟩:=pD hE h (e0 ▸ hfr i _ hm hun) (fun T t _ ht=>hE.flat T t ht) hlk' (fun _ _ _ e=>by cases e) (K:=some) (r:=(({ s with dead:=D' }:St).put dst v)) (by rw[DU hv2])
   cases k1
   obtain⟨r1,r2,r3,r4,r5,r6⟩:=k2
   unfold wpOpIn
   rw[hm]
   simp only
   rw[if_pos (by simp[Region.wanted])]
   refine(aM r6 fun val w' ⟨S',γ',β',m1,m2,m3⟩=>?_)
   have el:eP i D' (listed.setIfInBounds i true) (s.put dst v)=({ s with dead:=D' }:St).put dst v:=by
    unfold eP;rw[if_pos (by simp[hsz])]
    exact(uR s dst v D').symm
   refine kF hE hm hargs hp hheads hD hd hLs hL f _ _ S' γ' β' _ _ (by rw[el];exact m1) (hF.trans m2 hS.lkS hS.lkO) (hS.trans (Sm.put s dst v)) (pf.2.2.1.trans hdd) (fun j oj hj hu=>?_) hst
   rw[el]
   obtain⟨hij,hu'⟩:=unl j hu
   exact(e0 ▸ hfr j oj hj hu':Fr E s γ β oj).keep (o:=⟨dst,.call ⟨.builtin .append,args,argTypes⟩,ty,pos,after,none⟩) (fun d hdj=>hd i j _ oj hij hm hj d hdj) r3 r5 m3
  ·
   rw[if_neg hmi] at hv
   have hog:=hheads i o hin ho
   have hval:val E ops (eP m D listed s) o=some v:=by
    have e1:iX (eP m D listed s) o=iX s o:=by simp only[iX,z3]
    have e2:qv E (eP m D listed s) o some=qv E s o some:=jM z1 z2 fun x _=>by
     cases x<;>simp only[St.opA,z6]
    unfold val
    rw[e1,if_neg hlko,hog,e2]
    exact hv
   have el:(eP m D listed s).put o.dst v=eP m D (listed.setIfInBounds i true) (s.put o.dst v):=by
    unfold eP
    rw[getD_set_ne false hmi]
    split
    ·rw[uR]
    ·rfl
   obtain⟨k1,k2⟩:=tf hE h (hfr i o ho hun) hval
   have pl:=St.put_fields (eP m D listed s) o.dst v
   have frn:∀ {γ':Nat->Option Nat} {β':Nat->Option (Nat×Nat)},(∀ id':Nat,o.dst≠some (id'-(eP m D listed s).base)\/id'<(eP m D listed s).base->γ' id'=γ id'/\β' id'=β id')->∀ j oj,ops[j]?=some oj->(listed.setIfInBounds i true).getD j true=false->Fr E (eP m D (listed.setIfInBounds i true) (s.put o.dst v)) γ' β' oj:=fun hk j oj hj hu=>by
    obtain⟨hij,hu'⟩:=unl j hu
    rw[<-el]
    exact(hfr j oj hj hu').keep (fun d hdj=>hd i j o oj hij ho hj d hdj) pl.2.1 (fun id' _ _=>by rw[pl.1]) hk
   unfold wpOpIn
   rw[ho]
   simp only
   split
   ·rename_i hw
    refine(aM (k1 hw) fun u' w' ⟨S',γ',β',m1,m2,m3⟩=>?_)
    exact kF hE hm hargs hp hheads hD hd hLs hL f _ _ S' γ' β' _ _ (el ▸ m1) (hF.trans m2 smL.lkS smL.lkO) (hS.trans (Sm.put s o.dst v)) (pf.2.2.1.trans hdd) (frn m3) hst
   ·rename_i hw
    obtain⟨m1,m2⟩:=k2 (by simpa using hw)
    refine⟨fun _ _=>trivial,?_⟩
    exact kF hE hm hargs hp hheads hD hd hLs hL f _ _ S γ β _ _ (el ▸ m1) (hF.trans m2 smL.lkS smL.lkO) (hS.trans (Sm.put s o.dst v)) (pf.2.2.1.trans hdd) (frn fun id _=>⟨rfl,rfl⟩) hst
theorem rj(hE:EnvOk P E){id:Nat}{n m:Nat}{Q:Exit->Act->World->Prop}{S:Nat->Nat->Prop}{γ:Nat->Option Nat}{β:Nat->Option (Nat×Nat)}{s:St}{a:Act}{w:World}{R:Type}{k:St->Option R}{r:R}{N:Nat}
  (h:Rp w0 S γ β s a w) (hf:Dd E s γ β ops.toList) (hmk:bW ops.toList=true) (hap:wJ E ops n m=true) {an:Ann}
  (hev:FP E ops m n 0 s (fun s2=>fV E N R ops an ((bf 0 ops.toList).drop n) { s2 with dead:=jI s2 (Ab ops m) } k)=some r)
  (hQ:∀ s' S' γ' β' a' w',Rp w0 S' γ' β' s' a' w'->Fm s S γ a w S' γ' a' w'->Sk s s'->k s'=some r->Q .normal a' w'):(Code.region id ops true).wpIn (FW ro) nn P Q a w:=by
 simp only[bW,Bool.and_eq_true] at hmk
 obtain⟨⟨hm1,hm2⟩,hm3⟩:=hmk
 have hstores:(ops.toList.all fun o=>match o.op with|.store ..=>o.dst.isNone|_=>true)=true:=hm3
 unfold wJ at hap
 split at hap<;>first|(cases hap;done)|skip
 rename_i oa hoa
 split at hap<;>first|(cases hap;done)|skip
 rename_i c hop
 split at hap<;>first|(cases hap;done)|skip
 rename_i p y hcal hargs
 simp only[Bool.and_eq_true,decide_eq_true_eq] at hap
 obtain⟨⟨⟨⟨⟨⟨l1,l2⟩,l3⟩,l4⟩,l5⟩,l6⟩,l7⟩:=hap
 have heads:∀ j,j<n->∃ o,ops[j]?=some o/\o.guard=none:=fun j hj=>by
  have:=List.all_eq_true.1 l3 j (List.mem_range.2 hj)
  split at this<;>first|(cases this;done)|skip
  rename_i o ho
  simp only[Bool.and_eq_true] at this
  exact⟨o,ho,by simpa using this.1.2⟩
 have hn:n<=ops.size:=by
  rcases Nat.lt_or_ge ops.size n with c|c
  ·obtain⟨o,ho,_⟩:=heads ops.size c
   have:=(Array.getElem?_eq_some_iff.1 ho).1
   omega
  ·exact c
 obtain⟨dst,op,ty,pos,after,guard⟩:=oa
 have hg0:guard=none:=by
  obtain⟨o,ho,hg⟩:=heads m l1
  rw[hoa] at ho;cases ho;exact hg
 subst hg0
 obtain⟨callee,args,argTypes⟩:=c
 simp only at hop hcal hargs
 subst hop
 subst hcal
 have hpeq:Ab ops m=p:=by unfold Ab;rw[hoa];simp only[hargs]
 rw[hpeq] at hev
 have hp:∀ (j:Nat) (oj:Oper),ops[j]?=some oj->oj.dst=some p->Region.waitsFor .any ops m j=true:=fun j oj hj e=>by
  have hjlt:=(Array.getElem?_eq_some_iff.1 hj).1
  have:=List.all_eq_true.1 l2 j (List.mem_range.2 hjlt)
  rw[hj,Option.bind_some,e] at this
  simpa using this
 have hheads:∀ (j:Nat) (oj:Oper),j<n->ops[j]?=some oj->oj.guard=none:=fun j oj hjn hj=>by
  obtain⟨o,ho,hg⟩:=heads j hjn
  rw[hj] at ho;cases ho;exact hg
 obtain⟨sF,q1,q2⟩:=uf n 0 s hev
 have keep:∀ (c kk:Nat) (s s':St),gZ (vH E ops m) ops c kk s=some s'->s'.dead=s.dead/\Sm s s':=by
  intro c
  induction c with
  | zero=>intro kk s s' hs;simp only[gZ,Option.some.injEq] at hs;subst hs;exact⟨rfl,Sm.refl s⟩
  | succ c ih=>
   intro kk s s' hs
   simp only[gZ] at hs
   obtain⟨v,h1,h2⟩:=bind_some_inv hs
   obtain⟨m2,m3⟩:=ih _ _ _ h2
   have pf:=St.put_fields s ((ops[kk]?).bind (·.dst)) v
   exact⟨m2.trans pf.2.2.1,(Sm.put s _ v).trans m3⟩
 obtain⟨c2,c3⟩:=keep n 0 s sF q1
 have hD:∀ s2:St,s2.tm p=sF.tm p->s2.dead=s.dead->jI s2 p=jI sF p:=fun s2 e1 e2=>by
  unfold jI;rw[e1,e2,c2]
 generalize jI sF p=D at q2 hD
 have hW:pJ .any ops n:=by
  intro listed i inv hin hun t ht hr
  simp only[Bool.or_eq_true,decide_eq_true_eq,Bool.and_eq_true] at l7
  rcases l7 with l7|⟨⟨l7,l8⟩,l9⟩
  ·obtain⟨_,o,ho,_⟩:=mem_ready.1 hr
   have:=(Array.getElem?_eq_some_iff.1 ho).1
   omega
  ·exact tail_waits l8 l9 l7 inv _ i rfl hin hun t ht hr
 refine wpIn_region_any hE.mixed ?_
 have hg:∃ os d,w.drawn<=d/\({ w with drawn:=w.drawn+1 }:World)=ao w os d:=⟨[],w.drawn+1,Nat.le_succ _,by simp[ao]⟩
 obtain⟨os,d,hdr,hg⟩:=hg
 obtain⟨g1,g2⟩:=h.grow (os:=os) (d:=d) hdr (S':=S) (fun _ _ hb=>hb) (fun _ _ hb=>.inl hb)
 rw[hg]
 have inv0:HeadInv .any ops n (Array.replicate ops.size false):=
  ⟨by simp,fun j oj _ hl=>(by rw[getD_replicate_false] at hl;cases hl),fun t _ ht=>getD_in (by simpa using ht) (getD_replicate_false _ _)⟩
 have H:=nl (sF:=sF) (Ez (E:=E) (ops:=ops) m) hn hW n 0 (Array.replicate ops.size false) s (by omega) inv0 (fun i hi=>by omega) l6 q1
 have e0:eP m D (Array.replicate ops.size false) s=s:=by unfold eP;rw[getD_replicate_false];rfl
 have hdl:(ops.toList.drop n).length=ops.size-n:=by simp
 have hsub0:∀ j oj,ops[j]?=some oj->(Array.replicate ops.size false).getD j true=false->Fr E (eP m D (Array.replicate ops.size false) s) γ β oj:=fun j oj hj _=>by
  rw[e0];exact hf oj (Array.mem_toList_iff.2 (Array.mem_of_getElem? hj))
 have:=kF (ro:=ro) (nn:=nn) (w0:=w0) (Q:=Q) (g:=ops.size-n) (s0:=s) (S0:=S) (γ0:=γ) (a0:=a) (w1:=ao w os d) (tp:=sF.tm p) hE hoa hargs hp hheads hD (fun i j oi oj hij hi hj d hd=>jK hm1 hij (by rw[Array.getElem?_toList];exact hi) (by rw[Array.getElem?_toList];exact hj) d hd)
  (fun listed s2 hL=>by
   obtain⟨_,hl,rfl⟩:=hL
   exact⟨rfl,hl m l1⟩)
  (fun listed s2 S2 γ2 β2 a2 w2 m1 m2 m3 m4 m5=>by
   obtain⟨m5,m6,m7⟩:=m5
   subst m7
   have hseq:=fd (F:=FW ro) (n:=nn) (P:=P) (md:=.any) (ops:=ops) (Q':=Q) (ops.toList.drop n) n listed a2 w2 (fun j=>by rw[List.getElem?_drop,Array.getElem?_toList]) (by rw[hdl];exact m5) ?_
   ·rwa [hdl] at hseq
   have hunl:∀ j oj,ops[j]?=some oj->n<=j->listed.getD j true=false:=by
    intro j oj hj hnj
    have key:∀ (g k:Nat) (listed:Array Bool),Region.seqB .any ops g k listed=true->∀ j,k<=j->j<k+g->listed.getD j true=false:=by
     intro g
     induction g with
     | zero=>intro k listed _ j h1 h2;omega
     | succ g ih=>
      intro k listed hB j h1 h2
      simp only[Region.seqB,Bool.and_eq_true,decide_eq_true_eq] at hB
      by_cases hjk:j=k
      ·subst hjk
       have:j∈Region.ready .any ops listed:=by rw[hB.1];simp
       exact(mem_ready.1 this).1
      ·have:=ih (k+1) _ hB.2 j (by omega) (by omega)
       rwa [getD_set_ne true (Ne.symm hjk)] at this
    have hjlt:=(Array.getElem?_eq_some_iff.1 hj).1
    exact key _ _ _ m5 j hnj (by omega)
   have fin:=pY (ro:=ro) (nn:=nn) (ops:=ops) hE (Q:=Q) hstores N R ((bf 0 ops.toList).drop n) k r an m1 (by
     rw[List.map_drop,aQ]
     intro o ho
     obtain⟨i,hi,he⟩:=List.getElem_of_mem ho
     have hi2:ops[n+i]?=some o:=by
      have:(ops.toList.drop n)[i]?=some o:=by rw[List.getElem?_eq_getElem hi,he]
      rwa [List.getElem?_drop,Array.getElem?_toList] at this
     exact m4 (n+i) o hi2 (hunl _ _ hi2 (by omega)))
    (by
     rw[List.map_drop,aQ]
     intro A B o o' e ho d hd
     exact dn hm1 (ops.toList.take n++A) B o o' (by rw[List.append_assoc,<-e,List.take_append_drop]) ho d hd)
    (fun p hp=>gD (List.mem_of_mem_drop hp)) q2 (fun s3 S3 γ3 β3 a3 w3 n1 n2 n3 n4=>by
     have smD:Sm s2 ({ s2 with dead:=D }:St):=⟨rfl,rfl,rfl,rfl⟩
     refine hQ s3 S3 γ3 β3 a3 w3 n1 ?_ (Sk.trans (m3.trans smD).sk n3) n4
     have f0:Fm s S γ a w S γ a (ao w os d):=⟨fun _ _ hb=>hb,g2.cell,fun _ _=>rfl,fun id hid b hb=>⟨hb,bI (h.γn id b hb).2⟩,by simp,fun _ _ hb=>hb⟩
     exact(f0.trans m2 rfl rfl).trans n2 (show _=_ from m3.lkS) (show _=_ from m3.lkO))
   rwa [List.map_drop,aQ] at fin)
  n (Array.replicate ops.size false) s S γ β a (ao w os d) (by rw[e0];exact g1) (Fm.refl _ _ _ _ _) (Sm.refl s) rfl hsub0 H
 rw[show n+(ops.size-n)=ops.size by omega] at this
 exact this
end
end Go.Proofs.YtjjjkojfijpeeaaGreat.Sy
end
section
namespace Go.Proofs.YtjjjkojfijpeeaaGreat.Sy
open Go
variable{ro:Option Nat}{nn:Nat}
section
variable{P:Program}{E:Env}{w0:Root}
def Kp(Q:Exit->Act->World->Prop)(w0:Root)(s:St)(S:Nat->Nat->Prop)(γ:Nat->Option Nat)(a:Act)(w:World){R:Type}(k:Ex->St->Option R)(r:R):Prop:=
 ∀ e s' S' γ' β' a' w',Rp w0 S' γ' β' s' a' w'->Fm s S γ a w S' γ' a' w'->Sk s s'->k e s'=some r->Q (tu e) a' w'
theorem sO{id:Nat}{ops:Array Oper}{dr:Bool}{ann:Ann}{R:Type}{s s1:St}(hs1:s1={ fg s ann.fz with fresh:=s.fresh+1 }){k:Ex->St->Option R}{r:R}(h:ev E (.region id ops dr) ann R s k=some r) :
  bW ops.toList=true/\(((!dr||nI E ops (ann.heads ops.size))=true/\fV E (ops.size+1) R ops ann.inner (bf 0 ops.toList) (gY E ops.toList s1) (fun s'=>k .normal s')=some r) ∨
   (dr=true/\qA ops (ann.heads ops.size)=true/\Gv E ops (ann.heads ops.size) (ja ops (ann.heads ops.size) (gY E ops.toList s1)) (ann.heads ops.size) 0 (gY E ops.toList s1) (fun s2=>if qM ops (ann.heads ops.size) s2=some (ja ops (ann.heads ops.size) (gY E ops.toList s1)) then fV E (ops.size+1) R ops ann.inner ((bf 0 ops.toList).drop (ann.heads ops.size)) s2 (fun s'=>k .normal s') else none)=some r) ∨
   (dr=true/\wJ E ops (ann.heads ops.size) (nb ops)=true/\FP E ops (nb ops) (ann.heads ops.size) 0 (gY E ops.toList s1) (fun s2=>fV E (ops.size+1) R ops ann.inner ((bf 0 ops.toList).drop (ann.heads ops.size)) { s2 with dead:=jI s2 (Ab ops (nb ops)) } (fun s'=>k .normal s'))=some r)):=by
 have key:(if bW ops.toList&&(!dr||nI E ops (ann.heads ops.size)) then fV E (ops.size+1) R ops ann.inner (bf 0 ops.toList) (gY E ops.toList s1) (fun s'=>k .normal s')
  else if bW ops.toList&&qA ops (ann.heads ops.size) then Gv E ops (ann.heads ops.size) (ja ops (ann.heads ops.size) (gY E ops.toList s1)) (ann.heads ops.size) 0 (gY E ops.toList s1) (fun s2=>if qM ops (ann.heads ops.size) s2=some (ja ops (ann.heads ops.size) (gY E ops.toList s1)) then fV E (ops.size+1) R ops ann.inner ((bf 0 ops.toList).drop (ann.heads ops.size)) s2 (fun s'=>k .normal s') else none)
  else if bW ops.toList&&(dr&&wJ E ops (ann.heads ops.size) (nb ops)) then FP E ops (nb ops) (ann.heads ops.size) 0 (gY E ops.toList s1) (fun s2=>fV E (ops.size+1) R ops ann.inner ((bf 0 ops.toList).drop (ann.heads ops.size)) { s2 with dead:=jI s2 (Ab ops (nb ops)) } (fun s'=>k .normal s'))
  else none)=some r:=by
  subst hs1
  cases ann<;>exact h
 split at key
 ·rename_i hc
  simp only[Bool.and_eq_true] at hc
  exact⟨hc.1,.inl ⟨hc.2,key⟩⟩
 ·rename_i hn
  split at key
  ·rename_i hc
   simp only[Bool.and_eq_true] at hc
   refine⟨hc.1,.inr (.inl ⟨?_,hc.2,key⟩)⟩
   cases dr
   ·exfalso;exact hn (by simp[hc.1])
   ·rfl
  ·split at key<;>first|(cases key;done)|skip
   rename_i hc
   simp only[Bool.and_eq_true] at hc
   exact⟨hc.1,.inr (.inr ⟨hc.2.1,hc.2.2,key⟩)⟩
theorem Aw(hE:EnvOk P E){Q:Exit->Act->World->Prop}{id:Nat}{ops:Array Oper}{dr:Bool}{ann:Ann}{R:Type}{S:Nat->Nat->Prop}{γ:Nat->Option Nat}{β:Nat->Option (Nat×Nat)}{s:St}{a:Act}{w:World}{k:Ex->St->Option R}{r:R}
  (h:Rp w0 S γ β s a w) (hev:ev E (.region id ops dr) ann R s k=some r) (hQ:Kp Q w0 s S γ a w k r):(Code.region id ops dr).wpIn (FW ro) nn P Q a w:=by
 obtain⟨S1,f1,f2,f3⟩:=ni ann.fz h
 obtain⟨s1,hs1⟩:∃ s1,s1={ fg s ann.fz with fresh:=s.fresh+1 }:=⟨_,rfl⟩
 obtain⟨h1,h23⟩:=sO hs1 hev
 have hb1:s1.base=s.base+4096:=by rw[hs1];simp only[St.base];omega
 have hfb:(fg s ann.fz).base=s.base:=f3.base_eq
 have r1:Rp w0 S1 γ β s1 a w:=by
  rw[hs1]
  have q1:∀ id,({ fg s ann.fz with fresh:=s.fresh+1 }:St).base+4096<=id->s.base+4096<=id:=fun id hid=>by
   have e:({ fg s ann.fz with fresh:=s.fresh+1 }:St).base=s.base+4096:=by simp only[St.base];omega
   rw[e] at hid
   exact Nat.le_trans (Nat.le_add_right _ _) hid
  exact⟨f1.ext,f1.tms,f1.nt,f1.tmu,f1.obs,f1.γn,f1.γi,fun id hid=>h.γf id (q1 id hid),f1.βn,f1.βi,f1.βγ,fun v hv=>h.βf v (q1 v hv),f1.Sb,f1.So,f1.df⟩
 have hle1:∀ d,s.base+4096<=s1.base+d:=fun d=>by have:=Nat.le_add_right s1.base d;rw[hb1] at this ⊢;exact this
 have hg:∀ d,γ (s1.base+d)=none:=fun d=>h.γf (s1.base+d) (hle1 d)
 have hgb:∀ d,β (s1.base+d)=none:=fun d=>h.βf (s1.base+d) (hle1 d)
 obtain⟨r2,m2⟩:=yD (E:=E) ops.toList r1 hg
 have hmk:=h1
 simp only[bW,Bool.and_eq_true,List.all_eq_true] at hmk
 obtain⟨⟨hm1,hm2⟩,_⟩:=hmk
 have hfr:Dd E (gY E ops.toList s1) γ β ops.toList:=by
  intro o ho hc d hd
  rw[m2.base_eq]
  have hd4:=hm2 o ho
  rw[hd] at hd4
  simp only[decide_eq_true_eq] at hd4
  exact⟨hd4,hg d,hgb d,fun T t e1 e2=>t6 ops.toList hm1 ho e1 hd e2⟩
 have hsk:Sk s (gY E ops.toList s1):=by
  refine⟨m2.lkS.trans ?_,m2.lkO.trans ?_,m2.nt.trans ?_⟩<;>rw[hs1]
  ·exact f3.lkS
  ·exact f3.lkO
  ·exact f3.nt
 rcases h23 with⟨h2,h3⟩|⟨hdr,h2,h3⟩|⟨hdr,h2,h3⟩
 rotate_right
 ·subst hdr
  exact rj hE r2 hfr h1 h2 h3 fun s' S' γ' β' a' w' n1 n2 n3 n4=>hQ .normal s' S' γ' β' a' w' n1 (f2.tr n2 hsk) (hsk.trans n3) n4
 rotate_left
 ·subst hdr
  exact pQ hE r2 hfr h1 h2 h3 fun s' S' γ' β' a' w' n1 n2 n3 n4=>hQ .normal s' S' γ' β' a' w' n1 (f2.tr n2 hsk) (hsk.trans n3) n4
 refine Ae hE r2 hfr h1 h2 h3 fun s' S' γ' β' a' w' n1 n2 n3 n4=>?_
 exact hQ .normal s' S' γ' β' a' w' n1 (f2.tr n2 hsk) (hsk.trans n3) n4
theorem Cf{S:Nat->Nat->Prop}{γ:Nat->Option Nat}{β:Nat->Option (Nat×Nat)}{s:St}{a:Act}{w:World}(h:Rp w0 S γ β s a w){c:Operand}{t:Bool}(ht:(s.opA c).truth=some t):a.eval c=.bool t:=
 (lL ht (aF h c)).1
def pB(E:Env)(c:Code)(h:Shape)(exits:List (Ex×Shape))(a:Ann)(s:St)(v:List D):Option (Sum (List D) (Nat×List D)):=
 ev E c a (Sum (List D) (Nat×List D)) (h.mk' s v (h.keepS++s.lkS) (cu h.objs++s.lkO)) fun e s'=>match e with
    | .normal=>(h.dec s s').bind fun v'=>some (.inl v')
    | e=>(Ai s exits e s').bind fun r=>some (.inr r)
theorem dL(hE:EnvOk P E):∀ (c:Code) (ann:Ann) (R:Type) {Q:Exit->Act->World->Prop} {S:Nat->Nat->Prop} {γ:Nat->Option Nat} {β:Nat->Option (Nat×Nat)} {s:St} {a:Act} {w:World} (k:Ex->St->Option R) (r:R),
  Rp w0 S γ β s a w->ev E c ann R s k=some r->Kp Q w0 s S γ a w k r->c.wpIn (FW ro) nn P Q a w
 | .skip,ann,R,Q,S,γ,β,s,a,w,k,r,h,hev,hQ=>by
  simp only[ev] at hev
  exact wpIn_skip (hQ .normal s S γ β a w h (Fm.refl _ _ _ _ _) (Sk.refl s) hev)
 | .label l,ann,R,Q,S,γ,β,s,a,w,k,r,h,hev,hQ=>by
  simp only[ev] at hev
  exact wpIn_label (hQ .normal s S γ β a w h (Fm.refl _ _ _ _ _) (Sk.refl s) hev)
 | .exit id,ann,R,Q,S,γ,β,s,a,w,k,r,h,hev,hQ=>by
  simp only[ev] at hev
  exact wpIn_exit (hQ (.exit id) s S γ β a w h (Fm.refl _ _ _ _ _) (Sk.refl s) hev)
 | .ret,ann,R,Q,S,γ,β,s,a,w,k,r,h,hev,hQ=>by
  simp only[ev] at hev
  exact wpIn_ret (hQ .ret s S γ β a w h (Fm.refl _ _ _ _ _) (Sk.refl s) hev)
 | .region id ops dr,ann,R,Q,S,γ,β,s,a,w,k,r,h,hev,hQ=>Aw hE h hev hQ
 | .cond c x y,ann,R,Q,S,γ,β,s,a,w,k,r,h,hev,hQ=>by
  simp only[ev] at hev
  obtain⟨t,ht,hev⟩:=bind_some_inv hev
  refine wpIn_cond (Cf h ht) ?_
  cases t
  ·exact dL hE y _ R k r h (by simpa using hev) hQ
  ·exact dL hE x _ R k r h (by simpa using hev) hQ
 | .block id c,ann,R,Q,S,γ,β,s,a,w,k,r,h,hev,hQ=>by
  simp only[ev] at hev
  refine wpIn_block (dL hE c _ R _ r h hev fun e s' S' γ' β' a' w' n1 n2 n3 n4=>?_)
  cases e with
  | normal=>exact hQ .normal s' S' γ' β' a' w' n1 n2 n3 n4
  | ret=>exact hQ .ret s' S' γ' β' a' w' n1 n2 n3 n4
  | exit j=>
   simp only[tu,Exit.inBlock]
   simp only at n4
   split at n4
   ·rename_i hj;rw[if_pos hj];exact hQ .normal s' S' γ' β' a' w' n1 n2 n3 n4
   ·rename_i hj;rw[if_neg hj];exact hQ (.exit j) s' S' γ' β' a' w' n1 n2 n3 n4
 | .seq c d,ann,R,Q,S,γ,β,s,a,w,k,r,h,hev,hQ=>by
  have plain:(ev E c ann.fst R s fun e s'=>match e with|.normal=>ev E d ann.snd R s' k|e=>k e s')=some r->(Code.seq c d).wpIn (FW ro) nn P Q a w:=fun hev=>by
   refine wpIn_seq (dL hE c _ R _ r h hev fun e s' S' γ' β' a' w' n1 n2 n3 n4=>?_)
   cases e with
   | normal=>
    exact dL hE d _ R k r n1 n4 fun e2 s2 S2 γ2 β2 a2 w2 m1 m2 m3 m4=>hQ e2 s2 S2 γ2 β2 a2 w2 m1 (n2.tr m2 n3) (n3.trans m3) m4
   | ret=>exact hQ .ret s' S' γ' β' a' w' n1 n2 n3 n4
   | exit j=>exact hQ (.exit j) s' S' γ' β' a' w' n1 n2 n3 n4
  cases ann with
  | leaf=>simp only[ev] at hev;exact plain hev
  | reg fz n=>simp only[ev] at hev;exact plain hev
  | regI fz n x=>simp only[ev] at hev;exact plain hev
  | two x y=>simp only[ev] at hev;exact plain hev
  | loop x y z=>simp only[ev] at hev;exact plain hev
  | cut exits kS kO x y=>
   clear plain
   simp only[ev] at hev
   obtain⟨⟨j,v⟩,h1,h2⟩:=bind_some_inv hev
   refine wpIn_seq (dL hE c x _ _ (j,v) (h.lk (kS++s.lkS) (kO++s.lkO)) h1 fun e s' S' γ' β' a' w' n1 n2 n3 n4=>?_)
   obtain⟨sh,q1,q2⟩:=sR n4
   simp only at q1 q2
   obtain⟨c1,c2,c3⟩:=j4 (Nat.zero_le j) (by simpa using q1) h2
   obtain⟨γ'',β'',p1,p2⟩:=mL h n1 n2.sub n2.cell n3.nt (h:=sh) (fun t ht=>n2.slots t (List.mem_append_left _ (g8 c2 t ht))) (fun id hid=>n2.objs id (List.mem_append_left _ (g8 c3 id hid))) q2 s.lkS s.lkO
   have F:Fm s S γ a w S' γ'' a' w':=(n2.less (s2:=s) (fun t ht=>List.mem_append_right _ ht) (fun t ht=>List.mem_append_right _ ht)).shape h p2
   cases e with
   | normal=>
    exact dL hE d y R k r p1 c1 fun e2 s2 S2 γ2 β2 a2 w2 m1 m2 m3 m4=>hQ e2 s2 S2 γ2 β2 a2 w2 m1 (F.tr m2 ⟨rfl,rfl,rfl⟩) (Sk.trans (b:=sh.mk' s v s.lkS s.lkO) ⟨rfl,rfl,rfl⟩ m3) m4
   | ret=>exact hQ .ret _ S' γ'' β'' a' w' p1 F ⟨rfl,rfl,rfl⟩ c1
   | exit i=>exact hQ (.exit i) _ S' γ'' β'' a' w' p1 F ⟨rfl,rfl,rfl⟩ c1
 | .loop c,ann,R,Q,S,γ,β,s,a,w,k,r,h,hev,hQ=>by
  cases ann with
  | loop sh exits x=>
   have hev':(sh.dec s s).bind (fun v0=>(E.lp (pB E c sh exits x s) v0).bind fun r=>lO s k sh.keepS (cu sh.objs) exits 0 r)=some r:=hev
   obtain⟨v0,h1,hev'⟩:=bind_some_inv hev'
   obtain⟨⟨j,vj⟩,h2,h3⟩:=bind_some_inv hev'
   obtain⟨n,hn⟩:=hE.lp _ _ _ _ _ h2
   obtain⟨sL,hsL⟩:∃ sL:St,sL={ s with lkS:=sh.keepS++s.lkS,lkO:=cu sh.objs++s.lkO }:=⟨_,rfl⟩
   obtain⟨γ0,β0,p1,p2⟩:=mL h h (fun _ _ hb=>hb) (fun _ _ _=>rfl) rfl (h:=sh) (fun _ _=>rfl) (fun _ _ _ hb=>⟨hb,rfl⟩) h1 (sh.keepS++s.lkS) (cu sh.objs++s.lkO)
   have F0:Fm sL S γ a w S γ0 a w:=(Fm.refl sL S γ a w).shape h p2
   refine iO (fun n a1 w1=>∃ v S1 γ1 β1,Rp w0 S1 γ1 β1 (sh.mk' s v (sh.keepS++s.lkS) (cu sh.objs++s.lkO)) a1 w1/\Fm sL S γ a w S1 γ1 a1 w1/\mR (pB E c sh exits x s) n v=some (j,vj)) (m:=n) ⟨v0,S,γ0,β0,p1,F0,hn⟩ ?_
   rintro n a1 w1 ⟨v,S1,γ1,β1,g1,g2,g3⟩
   cases n with
   | zero=>simp[nj] at g3
   | succ m=>
    simp only[iI] at g3
    cases hb:pB E c sh exits x s v with
    | none=>rw[hb] at g3;cases g3
    | some res=>
     rw[hb] at g3
     refine dL hE c x _ _ res g1 hb fun e s' S' γ' β' a' w' n1 n2 n3 n4=>?_
     have F:Fm sL S γ a w S' γ' a' w':=g2.tr n2 (by rw[hsL];exact⟨rfl,rfl,rfl⟩)
     have hnt:s'.nt=s.nt:=n3.nt
     have sl:∀ t∈sh.keepS,a'.tmps.getD t undef=a.tmps.getD t undef:=fun t ht=>F.slots t (by rw[hsL];exact List.mem_append_left _ ht)
     have ob:∀ id∈cu sh.objs,∀ b,γ id=some b->γ' id=some b/\w'.heap[b]?=w.heap[b]?:=fun id hid=>F.objs id (by rw[hsL];exact List.mem_append_left _ hid)
     have fin:∀ e,Ai s exits e s'=some (j,vj)->Q (tu e) a' w':=fun e he=>by
      obtain⟨sh2,q1,q2⟩:=sR he
      simp only at q1 q2
      obtain⟨c1,c2,c3⟩:=j4 (Nat.zero_le j) (by simpa using q1) h3
      obtain⟨γ'',β'',o1,o2⟩:=mL h n1 F.sub F.cell hnt (h:=sh2) (fun t ht=>sl t (g8 c2 t ht)) (fun id hid=>ob id (g8 c3 id hid)) q2 s.lkS s.lkO
      exact hQ e _ S' γ'' β'' a' w' o1 ((F.less (s2:=s) (fun t ht=>by rw[hsL];exact List.mem_append_right _ ht) (fun t ht=>by rw[hsL];exact List.mem_append_right _ ht)).shape h o2) ⟨rfl,rfl,rfl⟩ c1
     cases e with
     | normal=>
      simp only at n4
      obtain⟨v',q1,q2⟩:=bind_some_inv n4
      simp only[Option.some.injEq] at q2
      subst q2
      obtain⟨γ'',β'',o1,o2⟩:=mL h n1 F.sub F.cell hnt (h:=sh) sl ob q1 (sh.keepS++s.lkS) (cu sh.objs++s.lkO)
      exact⟨m,Nat.lt_succ_self m,v',S',γ'',β'',o1,F.shape h o2,g3⟩
     | ret=>
      simp only at n4
      obtain⟨v',q1,q2⟩:=bind_some_inv n4
      simp only[Option.some.injEq] at q2
      subst q2
      simp only[Option.some.injEq] at g3
      subst g3
      exact fin .ret q1
     | exit i=>
      simp only at n4
      obtain⟨v',q1,q2⟩:=bind_some_inv n4
      simp only[Option.some.injEq] at q2
      subst q2
      simp only[Option.some.injEq] at g3
      subst g3
      exact fin (.exit i) q1
  | leaf=>simp[ev] at hev
  | reg fz n=>simp[ev] at hev
  | regI fz n x=>simp[ev] at hev
  | two x y=>simp[ev] at hev
  | cut exits kS kO x y=>simp[ev] at hev
 | .goto l,ann,R,Q,S,γ,β,s,a,w,k,r,h,hev,hQ=>by
  have:(none:Option R)=some r:=by cases ann<;>exact hev
  cases this
 | .scope c,ann,R,Q,S,γ,β,s,a,w,k,r,h,hev,hQ=>by
  simp only[ev] at hev
  refine kL (dL hE c _ R k r h hev fun e s' S' γ' β' a' w' n1 n2 n3 n4=>?_)
  cases e<;>exact hQ _ s' S' γ' β' a' w' n1 n2 n3 n4
 | .rangeFunc f ps x y,ann,R,Q,S,γ,β,s,a,w,k,r,h,hev,hQ=>by
  have:(none:Option R)=some r:=by cases ann<;>exact hev
  cases this
end
end Go.Proofs.YtjjjkojfijpeeaaGreat.Sy
end
section
namespace Go.Proofs.YtjjjkojfijpeeaaGreat.Sy
open Go
variable{ro:Option Nat}{nn:Nat}
section
variable{P:Program}{E:Env}{w0:Root}{S:Nat->Nat->Prop}{γ:Nat->Option Nat}{β:Nat->Option (Nat×Nat)}{s:St}{a:Act}{w:World}
def xT(tmps:Array Value):ResultVar->Sem Value
 | .tmp t=>pure (tmps.getD t undef)
 | .cell a t=>do loadVar t (<-asAddr (tmps.getD a undef))
theorem yb(fn:Func)(tmps:Array Value):Go.results fn tmps=(do
  let vs <-fn.results.mapM (xT tmps)
  pure (if h:vs.size=1 then vs[0] else .tuple vs)):=by
 unfold Go.results
 congr 1
theorem Cj{t t':Ty}{a:AV}(h:AV.fits t a=true)(h':AV.fits t' a=true):cd t=cd t':=by
 cases a
 case d u x=>rw[nK h,nK h']
 all_goals (cases t<;>cases t'<;>simp_all [AV.fits,cd])
theorem zF(hE:EnvOk P E)(h:Rp w0 S γ β s a w){R:Type}{t:Ty}(hn:af t=true){k:D->Option R}{r:ResultVar}{y:R}(hq:Be E s t k r=some y) :
  ∃ x v,k x=some y/\(xT a.tmps r).run P w=.ok v w/\wt t x/\dY w S x v:=by
 cases r with
 | tmp i=>
  simp only[Be] at hq
  obtain⟨x,h1,h2⟩:=bind_some_inv hq
  have hi:i<a.tmps.size:=by
   rcases Nat.lt_or_ge i a.tmps.size with hlt|hge
   ·exact hlt
   ·rw[h.tmu i (by rw[<-h.nt];exact hge)] at h1
    simp[AV.toD] at h1
  obtain⟨k1,k2⟩:=lS hn (h.tms i hi) h1
  exact⟨x,a.tmps.getD i undef,h2,rfl,k1,k2⟩
 | cell i T=>
  simp only[Be] at hq
  obtain⟨u,hu,hq⟩:=bind_some_inv hq
  split at hq<;>first|(cases hq;done)|skip
  rename_i t' id p htm
  split at hq<;>first|(cases hq;done)|skip
  rename_i hb
  have:=Ty.eq_of_beq _ _ hb
  subst this
  obtain⟨o,ho,hq⟩:=bind_some_inv hq
  have hi:i<a.tmps.size:=by
   rcases Nat.lt_or_ge i a.tmps.size with hlt|hge
   ·exact hlt
   ·have:=h.tmu i (by rw[<-h.nt];exact hge)
    rw[htm] at this;cases this
  have hx:=h.tms i hi
  rw[htm] at hx
  obtain⟨b,off,hv,hγ,hob⟩:=nm hx
  obtain⟨k1,rfl⟩:=hob o ho
  obtain⟨a',cs,m1,m2,m3,m4,m5⟩:=nV (h.obs id o b ho hγ) k1 hq
  obtain⟨m6,m7⟩:=ga _ _ _ m3 m2
  obtain⟨v,hrun,hval⟩:=dp (ig hE hu m4) (w:=w) (b:=b) (off:=ce o p) m6 m7 m5
  obtain⟨x,h1,h2⟩:=bind_some_inv m1
  obtain⟨q1,q2,q3⟩:=qQ _ _ _ _ h1 m2
  have hag:=Cj (pn _ _ _ h1) m3
  refine⟨x,v,h2,?_,q1,q3 v ⟨hval.1,by rw[hag];exact hval.2.1,by rw[hag];exact hval.2.2⟩ hn⟩
  rw[<-hrun]
  simp only[xT,Instr.loadAt,Instr.sureAddr,pure_bind]
  rw[show a.tmps.getD i undef=.pointer (some ⟨b,ce o p,none⟩) from hv]
  rfl
theorem qr(hE:EnvOk P E)(h:Rp w0 S γ β s a w){R:Type}:∀ (ts:List Ty) (rs:List ResultVar) (k:List D->Option R) (y:R),aT ts=true->ql E s ts rs k=some y ->
  ∃ xs vs,k xs=some y/\(rs.mapM (xT a.tmps)).run P w=.ok vs w/\fN ts xs/\vs.length=rs.length/\xs.length=vs.length/\∀ (i:Nat) (d:D) (u:Value),xs[i]?=some d->vs[i]?=some u->dY w S d u
 | [],[],k,y,_,hq=>by
  simp only[ql] at hq
  exact⟨[],[],hq,rfl,rfl,rfl,rfl,fun i d u h=>by simp at h⟩
 | [],_::_,k,y,_,hq=>by simp[ql] at hq
 | _::_,[],k,y,_,hq=>by simp[ql] at hq
 | t::ts,r::rs,k,y,hn,hq=>by
  simp only[ql] at hq
  simp only[aT,Bool.and_eq_true] at hn
  obtain⟨x,v,h1,h2,h3,h4⟩:=zF hE h hn.1 hq
  obtain⟨xs,vs,k1,k2,k3,k4,k5,k6⟩:=qr hE h ts rs _ y hn.2 h1
  refine⟨x::xs,v::vs,k1,?_,⟨x,xs,rfl,h3,k3⟩,by simp[k4],by simp[k5],fun i d u hd hu=>?_⟩
  ·simp only[List.mapM_cons,Sem.run_bind,h2,Result.andThen_ok,k2,Sem.run_pure]
  ·cases i with
   | zero=>simp at hd hu;subst hd;subst hu;exact h4
   | succ i=>simp at hd hu;exact k6 i d u hd hu
def gQ(n:Nat)(rty:Ty):Bool:=if n=1 then af rty else match rty with|.tup ts=>aT ts|_=>false
theorem lM(hE:EnvOk P E)(h:Rp w0 S γ β s a w){fn:Func}{rty:Ty}{y:D}(hr:gQ fn.results.size rty=true)(hq:results E s rty fn.results.toList=some y) :
  ∃ v,(Go.results fn a.tmps).run P w=.ok v w/\wt rty y/\DR w S y v:=by
 rw[yb]
 have hm:fn.results.mapM (xT a.tmps)=Functor.map List.toArray (fn.results.toList.mapM (xT a.tmps)):=by
  rw[Array.mapM_eq_mapM_toList]
 rw[hm]
 have hsz:fn.results.size=fn.results.toList.length:=by simp
 rw[hsz] at hr
 generalize fn.results.toList=rs at *
 match rs,hr,hq with
 | [r],hr,hq=>
  have hr':af rty=true:=by simpa [gQ] using hr
  simp only[results] at hq
  obtain⟨x,v,h1,h2,h3,h4⟩:=zF hE h hr' hq
  simp only[Option.some.injEq] at h1
  subst h1
  refine⟨v,?_,h3,DR.of0 h4⟩
  simp[List.mapM_cons,h2]
 | [],hr,hq=>
  simp only[gQ,List.length_nil] at hr
  obtain⟨ts,rfl⟩:∃ ts,rty=.tup ts:=by
   cases rty<;>first|exact⟨_,rfl⟩|(simp[results] at hq;done)
  simp only[results] at hq
  obtain⟨xs,vs,k1,k2,k3,k4,k5,k6⟩:=qr hE h ts [] _ y (by simpa using hr) hq
  simp only[Option.some.injEq] at k1
  subst k1
  refine⟨.tuple vs.toArray,?_,by simp only[wt];exact⟨xs,rfl,k3⟩,vs,rfl,k5,k6⟩
  have:vs=[]:=List.length_eq_zero_iff.1 k4
  subst this
  simp
 | r::r'::rs,hr,hq=>
  simp only[gQ,List.length_cons] at hr
  rw[if_neg (by omega)] at hr
  obtain⟨ts,rfl⟩:∃ ts,rty=.tup ts:=by
   cases rty<;>first|exact⟨_,rfl⟩|(simp[results] at hq;done)
  simp only[results] at hq
  obtain⟨xs,vs,k1,k2,k3,k4,k5,k6⟩:=qr hE h ts (r::r'::rs) _ y hr hq
  simp only[Option.some.injEq] at k1
  subst k1
  refine⟨.tuple vs.toArray,?_,by simp only[wt];exact⟨xs,rfl,k3⟩,vs,rfl,k5,k6⟩
  have:vs.length≠1:=by rw[k4];simp
  have k2':((List.mapM (xT a.tmps) (r::r'::rs)).run P w)=.ok vs w:=k2
  simp only[Sem.run_bind,map_eq_pure_bind,k2',Result.andThen_ok,Sem.run_pure]
  simp[this]
theorem bM{r:Root}{w:World}(h:cY r w)(hs:∀ b,¬ r.sh b):∃ os d,r.w.drawn<=d/\w=ao r.w os d:=by
 obtain⟨w0,S0,sh⟩:=r
 obtain⟨h1,h2,h3,h4,hdr,h5⟩:=h
 simp only[Root.heap,Root.Old] at *
 refine⟨(w.heap.toList.drop w0.heap.size),w.drawn,hdr,?_⟩
 have e:w.heap=w0.heap++(w.heap.toList.drop w0.heap.size).toArray:=by
  apply Array.ext'
  rw[Array.toList_append]
  conv=>lhs;rw[<-List.take_append_drop w0.heap.size w.heap.toList]
  congr 1
  apply List.ext_getElem?
  intro i
  by_cases hi:i<w0.heap.size
  ·rw[List.getElem?_take_of_lt hi,Array.getElem?_toList,h5 i ⟨hi,hs i⟩,Array.getElem?_toList]
  ·rw[List.getElem?_eq_none (by simp;omega),List.getElem?_eq_none (by simpa using hi)]
 cases w
 simp only[ao] at *
 subst h1;subst h2;subst h3
 congr 1
theorem zI(hE:EnvOk P E){f:FuncId}{fn:Func}{ann:Ann}{ptys:List Ty}{rty:Ty}{xs:List D}{y:D}(hf:P.funcs[f]?=some fn)(hsz:ptys.length<=fn.ntmps)(hn:aT ptys=true)(hr:gQ fn.results.size rty=true)
  (h:Iy E fn ann ptys rty xs=some y):C8 P ptys rty f xs y:=by
 intro w S vs hS hwt hlen hvs
 unfold Iy at h
 split at h<;>first|(cases h;done)|skip
 rename_i c hb
 have hxl:xs.length=ptys.length:=lC hwt
 have hntm:(vs.toArray++Array.replicate (fn.ntmps-vs.toArray.size) undef).size=fn.ntmps:=by
  simp;omega
 refine cF hf hb (dL (w0:=⟨w,S,fun _=>False⟩) (S:=S) (γ:=fun _=>none) (β:=fun _=>none) hE c ann D _ y ?_ h fun e s' S' γ' β' a' w' n1 n2 n3 n4=>?_)
 ·refine⟨⟨rfl,rfl,rfl,Nat.le_refl _,Nat.le_refl _,fun _ _=>rfl⟩,fun t ht=>?_,hntm,fun t ht=>?_,fun id o b ho=>(by cases ho),fun id b hb=>(by cases hb),fun id id' b hb=>(by cases hb),fun _ _=>rfl,fun v b e _ hb=>(by cases hb),fun v v' b e e' _ _ hb=>(by cases hb),fun v id b e _ hb=>(by cases hb),fun _ _=>rfl,hS,fun b o hb _=>hb,rfl⟩
  ·simp only[nF]
   split
   ·rename_i ty x e1 e2
    have hlt:=(List.getElem?_eq_some_iff.1 e2).1
    have hlt':t<vs.length:=by omega
    have hv:(vs.toArray++Array.replicate (fn.ntmps-vs.toArray.size) undef).getD t undef=vs[t]:=by
     simp[Array.getD,Array.getElem_append,hlt']
     omega
    show AR _ _ ((vs.toArray++Array.replicate (fn.ntmps-vs.toArray.size) undef).getD t undef)
    rw[hv]
    obtain⟨x',hx',hw'⟩:=jt hwt e1
    rw[e2] at hx';cases hx'
    exact dK (bT hn e1) hw' (hvs t x _ e2 (List.getElem?_eq_getElem hlt'))
   ·simp only[AR]
  ·have ht':fn.ntmps<=t:=ht
   simp only[nF]
   rw[List.getElem?_eq_none (by omega)]
 ·have hres:results E s' rty fn.results.toList=some y->(∃ v,(Go.results fn a'.tmps).run P w'=.ok v w'/\∃ v',Ending.returned v=.returned v'/\(∃ os d,w.drawn<=d/\w'=ao w os d)/\wt rty y/\DR w' (fun b o=>S b o\/(w.heap.size<=b/\b<w'.heap.size)) y v'):=fun hq=>by
   obtain⟨v,k1,k2,k3⟩:=lM hE n1 hr hq
   refine⟨v,k1,v,rfl,bM n1.ext (fun _ hf=>hf),k2,k3.mono (fun _ _ _=>rfl) fun b o hb=>?_⟩
   rcases Nat.lt_or_ge b w.heap.size with hlt|hge
   ·exact .inl (n1.So b o hb ⟨hlt,fun hf=>hf⟩)
   ·exact .inr ⟨hge,n1.Sb b o hb⟩
  cases e with
  | normal=>exact⟨n1.df,hres n4⟩
  | ret=>exact⟨n1.df,hres n4⟩
  | exit i=>cases n4
end
end Go.Proofs.YtjjjkojfijpeeaaGreat.Sy
end
section
namespace Go.Proofs.YtjjjkojfijpeeaaGreat.Sy
open Go
variable{ro:Option Nat}{nn:Nat}
def fQ(s:St):List Nat:=(List.range s.nt).filterMap fun t=>match s.tm t with|.own _ v _=>if s.dead.contains v then none else some v|_=>none
def nY:Option Ob->Option Ob->Bool
 | some (.one t _),some (.one t' _)=>t.beq t'
 | some (.many t _),some (.many t' _)=>t.beq t'
 | some (.mp kt vt _),some (.mp kt' vt' _)=>kt.beq kt'&&vt.beq vt'
 | _,none=>true
 | _,_=>false
def Bk(ob ob':Nat->Option Ob):AV->Bool
 | .ptr _ id _=>nY (ob id) (ob' id)
 | _=>false
def oL(s sc:St)(n:Nat)(tk:List Nat):AV->AV
 | .d t x=>.d t x
 | .own t v l=>if s.dead.contains v then .d (.sl t) (.sl l) else .own t (n+tk.idxOf v) l
 | .nils=>.nils
 | .ptr t id p=>if nY (s.ob id) (sc.ob id) then .ptr t id p else .undef
 | .fptr t x=>.fptr t x
 | .clo f l=>if l.all (Bk s.ob sc.ob) then .clo f l else .undef
 | _=>.undef
def xz(s:St)(nt:Nat)(avs:List AV):St:={ tm:=fun i=>avs.getD i .undef,ob:=s.ob,fresh:=s.fresh+1,dead:=fQ s++s.dead,nt:=nt,lkS:=[],lkO:=s.lkO }
def Cs(s sc:St):St:={ tm:=fun i=>if i<s.nt then oL s sc ((sc.fresh+1)*4096) (fQ s) (s.tm i) else .undef,ob:=sc.ob,fresh:=sc.fresh+1,dead:=sc.dead,nt:=s.nt,lkS:=s.lkS,lkO:=s.lkO }
def FU(E:Env)(fn:Func)(rty:Ty)(ann:Ann)(R:Type)(s:St)(avs:List AV)(K:AV->St->Option R):Option R:=
 match fn.body with
 | none=>none
 | some c=>if avs.length<=fn.ntmps/\(fQ s).length<=4096 then ev E c ann R (xz s fn.ntmps avs) fun e sc=>match e with
   | .exit _=>none
   | _=>(results E sc rty fn.results.toList).bind fun y=>K (.d rty y) (Cs s sc)
  else none
section
variable{P:Program}{E:Env}{w0:Root}{S S':Nat->Nat->Prop}{γ γ':Nat->Option Nat}{β β' β'':Nat->Option (Nat×Nat)}{s sc:St}{a:Act}{w w':World}
theorem vl{o':Ob}{x:Option Ob}(h:nY x (some o')=true):∃ o,x=some o/\∀ p,eS o' p=eS o p/\ce o' p=ce o p:=by
 cases x with
 | none=>simp[nY] at h
 | some o=>
  refine⟨o,rfl,fun p=>?_⟩
  cases o<;>cases o'<;>simp only[nY] at h<;>first|(cases h;done)|skip
  ·have:=Ty.eq_of_beq _ _ h;subst this;exact⟨rfl,rfl⟩
  ·have:=Ty.eq_of_beq _ _ h;subst this;cases p<;>exact⟨rfl,rfl⟩
  ·exact⟨rfl,rfl⟩
theorem tH{v:Nat}(h:v∈fQ s):v ∉ s.dead/\∃ t ty l,t<s.nt/\s.tm t=.own ty v l:=by
 unfold fQ at h
 obtain⟨t,h1,h2⟩:=List.mem_filterMap.1 h
 split at h2<;>first|(cases h2;done)|skip
 rename_i ty u l ht
 split at h2<;>first|(cases h2;done)|skip
 rename_i hd
 cases h2
 exact⟨by simpa using hd,t,ty,l,List.mem_range.1 h1,ht⟩
theorem ur{v t:Nat}{ty:Ty}{l:List D}(h1:t<s.nt)(h2:s.tm t=.own ty v l)(h3:v ∉ s.dead):v∈fQ s:=by
 unfold fQ
 refine List.mem_filterMap.2 ⟨t,List.mem_range.2 h1,?_⟩
 rw[h2]
 simp[h3]
theorem wg{t:Ty}{id:Nat}{p:List Nat}{cs:List Value}{dead dead':List Nat}(hg:∀ id b,γ id=some b->γ' id=some b)(hl:nY (s.ob id) (sc.ob id)=true)(h:AC ⟨w,S,γ,β,s.ob,dead⟩ (.ptr t id p) cs):AC ⟨w',S',γ',β'',sc.ob,dead'⟩ (.ptr t id p) cs:=by
 simp only[AC] at h ⊢
 obtain⟨b,off,e,k1,k2⟩:=h
 refine⟨b,off,e,hg _ _ k1,fun o ho=>?_⟩
 rw[ho] at hl
 obtain⟨o0,q1,q2⟩:=vl (o':=o) hl
 obtain⟨q3,q4⟩:=q2 p
 obtain⟨q5,q6⟩:=k2 o0 q1
 rw[q3,q4];exact⟨q5,q6⟩
theorem sW{dead dead':List Nat}(hg:∀ id b,γ id=some b->γ' id=some b):∀ (l:List AV) (cs:List Value),l.all (Bk s.ob sc.ob)=true->ra ⟨w,S,γ,β,s.ob,dead⟩ l cs->ra ⟨w',S',γ',β'',sc.ob,dead'⟩ l cs
 | [],cs,_,h=>by simpa only[ra] using h
 | x::l,cs,hp,h=>by
  simp only[List.all_cons,Bool.and_eq_true] at hp
  simp only[ra] at h ⊢
  obtain⟨v,c2,rfl,k1,k2⟩:=h
  refine⟨v,c2,rfl,?_,sW hg l c2 hp.2 k2⟩
  cases x<;>simp only[Bk] at hp<;>first|(cases hp.1;done)|skip
  exact wg hg hp.1 k1
theorem EE{n:Nat}{tk:List Nat}(hcell:∀ b o,S b o->w'.cell? ⟨b,o,none⟩=w.cell? ⟨b,o,none⟩)(hsub:∀ b o,S b o->S' b o)(hg:∀ id b,γ id=some b->γ' id=some b)
  {x:AV} {v:Value} (htok:∀ t u l,x=.own t u l->u ∉ s.dead->u∈tk/\β'' (n+tk.idxOf u)=β u/\∀ b e,β u=some (b,e)->∀ m,nc w b=some m->nc w' b=some m)
  (h:AR ⟨w,S,γ,β,s.ob,s.dead⟩ x v):AR ⟨w',S',γ',β'',sc.ob,sc.dead⟩ (oL s sc n tk x) v:=by
 cases x with
 | d t y=>exact mO (c:=⟨w,S,γ,β,s.ob,s.dead⟩) (x:=.d t y) hcell hsub h
 | fptr t y=>exact mO (c:=⟨w,S,γ,β,s.ob,s.dead⟩) (x:=.fptr t y) hcell hsub h
 | own t u l=>
  simp only[oL]
  split
  ·exact mO (c:=⟨w,S,γ,β,s.ob,s.dead⟩) (x:=.own t u l) hcell hsub h
  ·rename_i hd
   have hd':u ∉ s.dead:=by simpa using hd
   obtain⟨k0,k1,k2⟩:=htok t u l rfl hd'
   simp only[AR,AC] at h ⊢
   obtain⟨h0,h1,h2,A,cap,h3,h4,h5⟩:=h
   refine⟨h0,h1,h2,A,cap,h3,h4.mono hcell hsub,fun _=>?_⟩
   rcases h5 hd' with h6|⟨b,off,h6,h7,m,h8,h9⟩
   ·exact .inl h6
   ·exact .inr ⟨b,off,h6,k1.trans h7,m,k2 b _ h7 m h8,h9⟩
 | nils=>simpa only[oL,AR,AC] using h
 | ptr t id p=>
  simp only[oL]
  split
  ·rename_i hl
   simp only[AR] at h ⊢
   exact⟨h.1,wg hg hl h.2⟩
  ·simp only[AR]
 | mem t id=>simp only[oL,AR]
 | st ts l=>simp only[oL,AR]
 | clo f l=>
  simp only[oL]
  split
  ·rename_i hl
   simp only[AR,AC] at h ⊢
   obtain⟨h0,caps,h1,h2⟩:=h
   exact⟨h0,caps,h1,sW hg l caps hl h2⟩
  ·simp only[AR]
 | map kt vt id=>simp only[oL,AR]
 | sub sl t id p lo n=>simp only[oL,AR]
 | gone=>simp only[oL,AR]
 | undef=>simp only[oL,AR]
theorem Gc{c:Cx}{rty:Ty}{n:Nat}{y:D}{v:Value}(hr:gQ n rty=true)(hwt:wt rty y)(h:DR c.w c.S y v):AR c (.d rty y) v:=by
 simp only[AR]
 have key:af rty=true\/∃ ts,rty=.tup ts/\aT ts=true:=by
  unfold gQ at hr
  split at hr
  ·exact .inl hr
  ·split at hr
   ·exact .inr ⟨_,rfl,hr⟩
   ·cases hr
 rcases key with n2|⟨ts,rfl,n2⟩
 ·refine .inl ⟨n2,hwt,?_⟩
  cases rty<;>simp only[wt] at hwt<;>first
   | (obtain⟨m,rfl⟩:=hwt;exact h)
   | (obtain⟨m,rfl,_⟩:=hwt;exact h)
   | (exact hwt.elim)
   | (simp[af] at n2)
 ·exact .inr ⟨ts,rfl,n2,hwt,h⟩
theorem EM(hE:EnvOk P E){f:FuncId}{fn:Func}{rty:Ty}(hf:P.funcs[f]?=some fn)(hr:gQ fn.results.size rty=true):BB P f (FU E fn rty):=by
 intro ann R w0 S γ β s a w avs vs K r h hlen hAR hev
 unfold FU at hev
 split at hev<;>first|(cases hev;done)|skip
 rename_i c hb
 split at hev<;>first|(cases hev;done)|skip
 rename_i hcond
 obtain⟨hnt,htk⟩:=hcond
 obtain⟨tk,htkd⟩:∃ tk,tk=fQ s:=⟨_,rfl⟩
 have tkm:∀ u,u∈tk->u ∉ s.dead:=fun u hu=>by rw[htkd] at hu;exact(tH hu).1
 obtain⟨sh,hsh⟩:∃ sh:Nat->Prop,sh=fun b=>(∃ id,γ id=some b)\/∃ v e,v ∉ tk++s.dead/\β v=some (b,e):=⟨_,rfl⟩
 have ndd:∀ {u},u ∉ tk++s.dead->u ∉ s.dead:=fun hu hh=>hu (List.mem_append_right _ hh)
 have hshn:∀ b,sh b->¬ w0.Old b:=fun b hb=>by
  rw[hsh] at hb
  rcases hb with⟨id,hb⟩|⟨u,e,hu,hb⟩
  ·exact(h.γn id b hb).1
  ·exact(h.βn u b e (ndd hu) hb).1
 have old1:∀ b,w0.Old b->(Root.mk w S sh).Old b:=fun b hb=>⟨Nat.lt_of_lt_of_le hb.1 h.ext.sz,fun hh=>hshn b hh hb⟩
 have tkOld:∀ u∈tk,∀ b e,β u=some (b,e)->(Root.mk w S sh).Old b:=fun u hu b e hb=>by
  refine⟨(h.βn u b e (tkm u hu) hb).2.1,fun hh=>?_⟩
  have hh:sh b:=hh
  rw[hsh] at hh
  rcases hh with⟨id,hh⟩|⟨u',e',hu',hh⟩
  ·exact h.βγ u id b e (tkm u hu) hb hh
  ·have:=h.βi u u' b e e' (tkm u hu) (ndd hu') hb hh
   subst this
   exact hu' (List.mem_append_left _ hu)
 have hvl:vs.length<=fn.ntmps:=by omega
 have hntm:(vs.toArray++Array.replicate (fn.ntmps-vs.toArray.size) undef).size=fn.ntmps:=by
  simp;omega
 have le0:Cx.le ⟨w,S,γ,β,s.ob,s.dead⟩ ⟨w,S,γ,β,s.ob,tk++s.dead⟩:=
  ⟨fun _ _ _=>rfl,fun _ _ hb=>hb,fun _ _ hb=>hb,fun id o ho _=>⟨o,ho,fun p=>⟨rfl,rfl⟩,fun t l e=>⟨l,e,rfl⟩,fun _ _ l e=>⟨l,e⟩⟩,fun u hu=>⟨ndd hu,fun b e he=>⟨he,fun n hn=>hn⟩⟩⟩
 have hb0:s.base+4096=(s.fresh+1)*4096:=by simp only[St.base];omega
 refine cF hf hb (dL (w0:=⟨w,S,sh⟩) (S:=S) (γ:=γ) (β:=β) hE c ann R _ r (s:=xz s fn.ntmps avs) ?_ hev fun e sc S' γ' β' a' w' n1 n2 n3 n4=>?_)
 ·refine⟨⟨rfl,rfl,rfl,Nat.le_refl _,Nat.le_refl _,fun _ _=>rfl⟩,fun t ht=>?_,hntm,fun t ht=>?_,fun id o b ho hb=>?_,fun id b hb=>⟨fun ho=>ho.2 (by show sh b;rw[hsh];exact .inl ⟨id,hb⟩),(h.γn id b hb).2⟩,h.γi,fun id hid=>h.γf id ?_,fun u b e hu he=>?_,fun u u' b e e' hu hu'=>h.βi u u' b e e' (ndd (htkd ▸ hu)) (ndd (htkd ▸ hu')),fun u id b e hu=>h.βγ u id b e (ndd (htkd ▸ hu)),fun u hu=>h.βf u ?_,h.Sb,fun b o hb _=>hb,rfl⟩
  ·simp only[xz]
   rw[<-htkd]
   by_cases hlt:t<vs.length
   ·have hlt':t<avs.length:=by omega
    have hv:(vs.toArray++Array.replicate (fn.ntmps-vs.toArray.size) undef).getD t undef=vs[t]:=by
     simp[Array.getD,Array.getElem_append,hlt]
     omega
    show AR _ _ ((vs.toArray++Array.replicate (fn.ntmps-vs.toArray.size) undef).getD t undef)
    rw[hv,List.getD_eq_getElem?_getD,List.getElem?_eq_getElem hlt']
    exact(hAR t _ _ (List.getElem?_eq_getElem hlt') (List.getElem?_eq_getElem hlt)).mono le0
   ·rw[List.getD_eq_getElem?_getD,List.getElem?_eq_none (by omega)]
    simp only[Option.getD_none,AR]
  ·have ht':fn.ntmps<=t:=ht
   simp only[xz]
   rw[List.getD_eq_getElem?_getD,List.getElem?_eq_none (by omega)]
   rfl
  ·rw[show(xz s fn.ntmps avs).dead=tk++s.dead by rw[htkd];rfl]
   exact(h.obs id o b ho hb).mono le0 rfl fun _ hh=>hh
  ·have:(xz s fn.ntmps avs).base=(s.fresh+1)*4096:=rfl
   rw[this] at hid
   omega
  ·have hu':u ∉ tk++s.dead:=htkd ▸ hu
   obtain⟨k1,k2,k3⟩:=h.βn u b e (ndd hu') he
   exact⟨fun ho=>ho.2 (by show sh b;rw[hsh];exact .inr ⟨u,e,hu',he⟩),k2,k3⟩
  ·have:(xz s fn.ntmps avs).base=(s.fresh+1)*4096:=rfl
   rw[this] at hu
   omega
 ·obtain⟨n,hn⟩:∃ n,n=(sc.fresh+1)*4096:=⟨_,rfl⟩
  have hscb:sc.base+4096=n:=by rw[hn];simp only[St.base];omega
  have hres:(results E sc rty fn.results.toList).bind (fun y=>K (.d rty y) (Cs s sc))=some r->(∃ v,(Go.results fn a'.tmps).run P w'=.ok v w'/\∃ v' y s' S' γ' β',Ending.returned v=.returned v'/\K y s'=some r/\Rp w0 S' γ' β' s' a w'/\AR ⟨w',S',γ',β',s'.ob,s'.dead⟩ y v'/\Fm s S γ a w S' γ' a w'/\Sk s s'):=fun hq=>by
   obtain⟨y,h1,h2⟩:=bind_some_inv hq
   obtain⟨v,k1,k2,k3⟩:=lM hE n1 hr h1
   obtain⟨β'',hβ⟩:∃ β'':Nat->Option (Nat×Nat),β''=fun u=>if n<=u then(tk[u-n]?).bind (fun x=>if tk.idxOf x=u-n then β x else none) else β' u:=⟨_,rfl⟩
   have bge:∀ u b e,n<=u->β'' u=some (b,e)->∃ x∈tk,u=n+tk.idxOf x/\β x=some (b,e):=fun u b e hu he=>by
    rw[hβ] at he
    simp only[if_pos hu] at he
    obtain⟨x,q1,q2⟩:=bind_some_inv he
    split at q2<;>first|(cases q2;done)|skip
    rename_i hix
    exact⟨x,List.mem_of_getElem? q1,by omega,q2⟩
   have blt:∀ u,u<n->β'' u=β' u:=fun u hu=>by rw[hβ];simp only;rw[if_neg (by omega)]
   have bix:∀ x∈tk,β'' (n+tk.idxOf x)=β x:=fun x hx=>by
    have hlt:tk.idxOf x<tk.length:=List.idxOf_lt_length_of_mem hx
    rw[hβ]
    simp only[Nat.le_add_right,if_true,Nat.add_sub_cancel_left]
    rw[List.getElem?_eq_getElem hlt,Option.bind_some,List.getElem_idxOf hlt,if_pos rfl]
   have hle:Cx.le ⟨w',S',γ',β',sc.ob,sc.dead⟩ ⟨w',S',γ',β'',sc.ob,sc.dead⟩:=
    ⟨fun _ _ _=>rfl,fun _ _ hb=>hb,fun _ _ hb=>hb,fun id o ho _=>⟨o,ho,fun p=>⟨rfl,rfl⟩,fun t l e=>⟨l,e,rfl⟩,fun _ _ l e=>⟨l,e⟩⟩,fun u hu=>⟨hu,fun b e he=>⟨(by
     have he':β' u=some (b,e):=he
     show β'' u=some (b,e)
     rcases Nat.lt_or_ge u n with hlt|hge
     ·rw[blt u hlt];exact he'
     ·rw[n1.βf u (by omega)] at he';cases he'),fun m hm=>hm⟩⟩⟩
   have nOld:∀ b,¬ (Root.mk w S sh).Old b->¬ w0.Old b:=fun b hb hh=>hb (old1 b hh)
   refine⟨v,k1,v,.d rty y,Cs s sc,S',γ',β'',rfl,h2,?_,?_,⟨n2.sub,n2.cell,fun _ _=>rfl,n2.objs,n2.sz,n2.gam⟩,⟨rfl,rfl,rfl⟩⟩
   ·refine⟨⟨n1.ext.tape.trans h.ext.tape,n1.ext.os.trans h.ext.os,n1.ext.output.trans h.ext.output,Nat.le_trans h.ext.sz n1.ext.sz,Nat.le_trans h.ext.dr n1.ext.dr,fun b hb=>(n1.ext.old b (old1 b hb)).trans (h.ext.old b hb)⟩,fun t ht=>?_,h.nt,fun t ht=>?_,fun id o b ho hb=>(n1.obs id o b ho hb).mono hle rfl fun _ hh=>hh,fun id b hb=>⟨nOld b (n1.γn id b hb).1,(n1.γn id b hb).2⟩,n1.γi,fun id hid=>n1.γf id ?_,fun u b e hu he=>?_,fun u u' b e e' hu hu' he he'=>?_,fun u id b e hu he=>?_,fun u hu=>?_,n1.Sb,fun b o hb hlt=>h.So b o (n1.So b o hb (old1 b hlt)) hlt,h.df⟩
    ·have htn:t<s.nt:=by rw[<-h.nt];exact ht
     simp only[Cs,if_pos htn]
     rw[<-htkd,<-hn]
     refine EE n2.cell n2.sub n2.gam (fun ty u l hx hu=>?_) (h.tms t ht)
     have hm:u∈tk:=by rw[htkd];exact ur htn hx hu
     refine⟨hm,bix u hm,fun b e he m hm'=>?_⟩
     have:=n1.ext.old b (tkOld u hm b e he)
     simp only[nc,bk] at hm' ⊢
     rw[this];exact hm'
    ·have ht':s.nt<=t:=ht
     simp only[Cs]
     rw[if_neg (by omega)]
    ·have hid':(sc.fresh+1)*4096+4096<=id:=hid
     omega
    ·rcases Nat.lt_or_ge u n with hlt|hge
     ·rw[blt u hlt] at he
      obtain⟨q1,q2,q3⟩:=n1.βn u b e hu he
      exact⟨nOld b q1,q2,q3⟩
     ·obtain⟨x,hx,_,he⟩:=bge u b e hge he
      obtain⟨q1,q2,q3⟩:=h.βn x b e (tkm x hx) he
      exact⟨q1,Nat.lt_of_lt_of_le q2 n2.sz,fun o ho hs=>q3 o ho (n1.So b o hs (tkOld x hx b e he))⟩
    ·rcases Nat.lt_or_ge u n with hlt|hge
     ·rcases Nat.lt_or_ge u' n with hlt'|hge'
      ·rw[blt u hlt] at he;rw[blt u' hlt'] at he'
       exact n1.βi u u' b e e' hu hu' he he'
      ·rw[blt u hlt] at he
       obtain⟨x,hx,_,he'⟩:=bge u' b e' hge' he'
       exact absurd (tkOld x hx b e' he') (n1.βn u b e hu he).1
     ·obtain⟨x,hx,ex,he⟩:=bge u b e hge he
      rcases Nat.lt_or_ge u' n with hlt'|hge'
      ·rw[blt u' hlt'] at he'
       exact absurd (tkOld x hx b e he) (n1.βn u' b e' hu' he').1
      ·obtain⟨x',hx',ex',he'⟩:=bge u' b e' hge' he'
       have:=h.βi x x' b e e' (tkm x hx) (tkm x' hx') he he'
       subst this
       rw[ex,ex']
    ·rcases Nat.lt_or_ge u n with hlt|hge
     ·rw[blt u hlt] at he
      exact n1.βγ u id b e hu he
     ·obtain⟨x,hx,ex,he⟩:=bge u b e hge he
      exact fun hid=>(n1.γn id b hid).1 (tkOld x hx b e he)
    ·have hu':(sc.fresh+1)*4096+4096<=u:=hu
     cases hc:β'' u with
     | none=>rfl
     | some q=>
      obtain⟨x,hx,ex,_⟩:=bge u q.1 q.2 (by omega) hc
      have hlt:tk.idxOf x<tk.length:=List.idxOf_lt_length_of_mem hx
      rw[<-htkd] at htk
      omega
   ·exact Gc hr k2 k3
  cases e with
  | normal=>exact⟨n1.df,hres n4⟩
  | ret=>exact⟨n1.df,hres n4⟩
  | exit i=>cases n4
end
end Go.Proofs.YtjjjkojfijpeeaaGreat.Sy
end
section
namespace Go.Proofs.YtjjjkojfijpeeaaGreat.Sy
abbrev K0:Ty:=Ty.st [Ty.int .i64,Ty.int .i64,Ty.bool,Ty.int .u8]
abbrev K1:Ty:=Ty.arr 3 (Ty.int .i64)
abbrev K2:Ty:=Ty.sl (K1)
abbrev K3:Ty:=Ty.st [K2]
abbrev K4:Ty:=Ty.st [K3,Ty.int .i64]
abbrev K5:Ty:=Ty.sl (Ty.int .i64)
abbrev K6:Ty:=Ty.st [K1,Ty.int .i64,K5]
abbrev K7:Ty:=Ty.sl (K6)
abbrev K8:Ty:=Ty.arr 2 (Ty.int .i64)
abbrev K9:Ty:=Ty.sl (K8)
abbrev aP:Ty:=Ty.arr 16 (Ty.int .u32)
abbrev ay:Ty:=Ty.st [Ty.bool,Ty.bool,aP]
abbrev cN:Ty:=Ty.st [ay,ay]
abbrev iA:Ty:=Ty.arr 3 (cN)
abbrev rb:Ty:=Ty.sl (cN)
abbrev iW:Ty:=Ty.st [Ty.int .i64,Ty.int .i64,rb]
abbrev L7:Ty:=Ty.arr 3 (Ty.int .u8)
abbrev dO:Ty:=Ty.st [K1,Ty.int .i64]
abbrev GN:Ty:=Ty.sl (dO)
abbrev Nn:Ty:=Ty.sl (Ty.bool)
abbrev lT:Ty:=Ty.arr 3 (K1)
abbrev IR:Ty:=Ty.st [lT,ay]
abbrev Lw:Ty:=Ty.sl (IR)
abbrev jB:Ty:=Ty.arr 3 (ay)
abbrev jV:Ty:=Ty.arr 3 (jB)
abbrev xq:Ty:=Ty.arr 32 (Ty.int .u32)
abbrev OH:Ty:=Ty.sl (Ty.int .u32)
abbrev Mi:Ty:=Ty.sl (ay)
abbrev om:Ty:=Ty.arr 17 (Ty.int .u32)
abbrev NE:Ty:=Ty.tup [K3,Ty.int .i64]
abbrev Ng:Ty:=Ty.tup [K3,Ty.bool]
abbrev MY:Ty:=Ty.tup [aP,Ty.bool]
abbrev Jm:Ty:=Ty.tup [Ty.int .i64,Ty.bool]
abbrev MF:Ty:=Ty.tup [K5,K5]
abbrev NJ:Ty:=Ty.tup [aP,aP]
abbrev Od:Ty:=Ty.tup [ay,ay]
abbrev Ml:Ty:=Ty.tup [aP,Ty.int .u32]
abbrev HI:Ty:=Ty.tup []
def Dc:Nat:=238
def Ce:Nat:=239
def GT(t:Nat):Option Ty:=bif Nat.blt t Dc then(bif Nat.blt t 119 then(bif Nat.blt t 59 then(bif Nat.blt t 29 then(bif Nat.blt t 14 then(bif Nat.blt t 7 then(bif Nat.blt t 3 then(bif Nat.blt t 1 then none else(bif Nat.blt t 2 then none else some (Ty.int .i64))) else(bif Nat.blt t 5 then(bif Nat.blt t 4 then some (Ty.int .i64) else some (Ty.bool)) else(bif Nat.blt t 6 then some (Ty.int .u8) else some (Ty.int .u8)))) else(bif Nat.blt t 10 then(bif Nat.blt t 8 then some (K0) else(bif Nat.blt t 9 then some (K0) else some (Ty.str))) else(bif Nat.blt t 12 then(bif Nat.blt t 11 then some (Ty.str) else some (Ty.str)) else(bif Nat.blt t 13 then some (Ty.int .u64) else none)))) else(bif Nat.blt t 21 then none else(bif Nat.blt t 25 then(bif Nat.blt t 23 then(bif Nat.blt t 22 then some (Ty.int .i32) else some (K2)) else(bif Nat.blt t 24 then none else some (K3))) else(bif Nat.blt t 27 then(bif Nat.blt t 26 then some (K3) else some (Ty.int .i64)) else none)))) else(bif Nat.blt t 44 then(bif Nat.blt t 36 then(bif Nat.blt t 32 then(bif Nat.blt t 30 then some (K4) else(bif Nat.blt t 31 then some (K4) else none)) else none) else(bif Nat.blt t 40 then(bif Nat.blt t 38 then(bif Nat.blt t 37 then none else some (K7)) else none) else(bif Nat.blt t 42 then(bif Nat.blt t 41 then some (K9) else none) else(bif Nat.blt t 43 then some (Ty.int .u32) else some (aP))))) else(bif Nat.blt t 51 then(bif Nat.blt t 47 then(bif Nat.blt t 45 then some (ay) else(bif Nat.blt t 46 then some (ay) else none)) else(bif Nat.blt t 49 then(bif Nat.blt t 48 then some (cN) else some (cN)) else(bif Nat.blt t 50 then some (iA) else some (iA)))) else(bif Nat.blt t 55 then(bif Nat.blt t 53 then none else(bif Nat.blt t 54 then some (rb) else some (iW))) else(bif Nat.blt t 57 then(bif Nat.blt t 56 then some (iW) else none) else none))))) else(bif Nat.blt t 89 then(bif Nat.blt t 74 then(bif Nat.blt t 66 then(bif Nat.blt t 62 then(bif Nat.blt t 60 then some (K1) else(bif Nat.blt t 61 then some (K1) else none)) else(bif Nat.blt t 64 then(bif Nat.blt t 63 then none else some (K5)) else(bif Nat.blt t 65 then some (K6) else some (K6)))) else(bif Nat.blt t 70 then(bif Nat.blt t 68 then(bif Nat.blt t 67 then some (K8) else none) else none) else none)) else(bif Nat.blt t 81 then(bif Nat.blt t 77 then(bif Nat.blt t 75 then none else(bif Nat.blt t 76 then none else some (L7))) else none) else(bif Nat.blt t 85 then(bif Nat.blt t 83 then(bif Nat.blt t 82 then some (GN) else none) else(bif Nat.blt t 84 then some (Nn) else some (dO))) else(bif Nat.blt t 87 then(bif Nat.blt t 86 then some (dO) else none) else none)))) else(bif Nat.blt t 104 then(bif Nat.blt t 96 then(bif Nat.blt t 92 then none else(bif Nat.blt t 94 then(bif Nat.blt t 93 then none else some (lT)) else none)) else(bif Nat.blt t 100 then(bif Nat.blt t 98 then(bif Nat.blt t 97 then some (Lw) else none) else(bif Nat.blt t 99 then some (IR) else some (IR))) else(bif Nat.blt t 102 then(bif Nat.blt t 101 then some (jB) else none) else none))) else(bif Nat.blt t 111 then(bif Nat.blt t 107 then(bif Nat.blt t 105 then some (jV) else none) else none) else none)))) else(bif Nat.blt t 178 then(bif Nat.blt t 148 then(bif Nat.blt t 133 then none else(bif Nat.blt t 140 then none else(bif Nat.blt t 144 then(bif Nat.blt t 142 then none else(bif Nat.blt t 143 then none else some (Ty.int .u64))) else(bif Nat.blt t 146 then(bif Nat.blt t 145 then none else some (Ty.int .u64)) else none)))) else(bif Nat.blt t 163 then(bif Nat.blt t 155 then none else(bif Nat.blt t 159 then(bif Nat.blt t 157 then(bif Nat.blt t 156 then some (xq) else none) else(bif Nat.blt t 158 then some (OH) else none)) else none)) else(bif Nat.blt t 170 then(bif Nat.blt t 166 then none else(bif Nat.blt t 168 then(bif Nat.blt t 167 then some (dO) else some (dO)) else none)) else(bif Nat.blt t 174 then(bif Nat.blt t 172 then(bif Nat.blt t 171 then none else some (Ty.int .i64)) else none) else none)))) else(bif Nat.blt t 208 then(bif Nat.blt t 193 then(bif Nat.blt t 185 then(bif Nat.blt t 181 then(bif Nat.blt t 179 then none else(bif Nat.blt t 180 then some (Mi) else none)) else none) else(bif Nat.blt t 189 then none else(bif Nat.blt t 191 then none else(bif Nat.blt t 192 then none else some (Ty.int .u64))))) else(bif Nat.blt t 200 then none else(bif Nat.blt t 204 then(bif Nat.blt t 202 then none else(bif Nat.blt t 203 then some (om) else none)) else none))) else(bif Nat.blt t 223 then none else(bif Nat.blt t 230 then(bif Nat.blt t 226 then none else(bif Nat.blt t 228 then none else(bif Nat.blt t 229 then none else some (Ty.int .u8)))) else(bif Nat.blt t 234 then(bif Nat.blt t 232 then(bif Nat.blt t 231 then some (Ty.int .u8) else none) else(bif Nat.blt t 233 then none else some (Ty.int .i32))) else(bif Nat.blt t 236 then(bif Nat.blt t 235 then some (Ty.int .i32) else none) else none))))))) else none
def lX(t:Nat):Option (List Ty×Ty):=bif Nat.blt t Ce then(bif Nat.blt t 119 then(bif Nat.blt t 59 then(bif Nat.blt t 29 then(bif Nat.blt t 14 then(bif Nat.blt t 7 then(bif Nat.blt t 3 then none else(bif Nat.blt t 5 then(bif Nat.blt t 4 then some ([K2],Ty.bool) else some ([K3],Ty.bool)) else(bif Nat.blt t 6 then some ([K3],Ty.bool) else some ([K2,Ty.int .u8],Ty.bool)))) else(bif Nat.blt t 10 then(bif Nat.blt t 8 then some ([K3],Ty.bool) else(bif Nat.blt t 9 then some ([K3,K1],Ty.bool) else some ([K1,L7],Ty.bool))) else(bif Nat.blt t 12 then(bif Nat.blt t 11 then some ([],Ty.bool) else some ([K2],NE)) else(bif Nat.blt t 13 then some ([K2],K4) else some ([K2,K2],Ty.bool))))) else(bif Nat.blt t 21 then(bif Nat.blt t 17 then(bif Nat.blt t 15 then some ([K3],Ty.int .i64) else(bif Nat.blt t 16 then some ([K3],Ty.int .i64) else some ([K3],Ty.bool))) else(bif Nat.blt t 19 then(bif Nat.blt t 18 then some ([K7,K7],Ty.bool) else some ([K3],K7)) else(bif Nat.blt t 20 then some ([K3],K7) else some ([K9,K9],Ty.bool)))) else(bif Nat.blt t 25 then(bif Nat.blt t 23 then(bif Nat.blt t 22 then some ([K3],K9) else some ([K3],K9)) else(bif Nat.blt t 24 then some ([K3],ay) else some ([K3],ay))) else(bif Nat.blt t 27 then(bif Nat.blt t 26 then some ([K3],iA) else some ([K3],iA)) else(bif Nat.blt t 28 then some ([iW,iW],Ty.bool) else some ([K3],iW)))))) else(bif Nat.blt t 44 then(bif Nat.blt t 36 then(bif Nat.blt t 32 then(bif Nat.blt t 30 then some ([K3],iW) else(bif Nat.blt t 31 then some ([K3,iA],Ty.int .i64) else some ([K1],iA))) else(bif Nat.blt t 34 then(bif Nat.blt t 33 then some ([ay,ay],Ty.int .i64) else some ([K1,K1],ay)) else(bif Nat.blt t 35 then some ([Ty.int .i64],ay) else some ([K3,K1],Ng)))) else(bif Nat.blt t 40 then(bif Nat.blt t 38 then(bif Nat.blt t 37 then some ([iA,iA],iA) else some ([ay,ay],cN)) else(bif Nat.blt t 39 then some ([cN,cN],cN) else some ([cN,cN],cN))) else(bif Nat.blt t 42 then(bif Nat.blt t 41 then some ([cN,cN],cN) else some ([iA,iA],cN)) else(bif Nat.blt t 43 then some ([Ty.int .i64,Ty.int .i64],cN) else some ([K3,K1],Ty.int .i64))))) else(bif Nat.blt t 51 then(bif Nat.blt t 47 then(bif Nat.blt t 45 then some ([K2],K2) else(bif Nat.blt t 46 then some ([K2],GN) else some ([K2,dO],K5))) else(bif Nat.blt t 49 then(bif Nat.blt t 48 then some ([K2],K2) else some ([K2],K7)) else(bif Nat.blt t 50 then some ([K2,K2],Ty.bool) else none))) else(bif Nat.blt t 55 then(bif Nat.blt t 53 then(bif Nat.blt t 52 then some ([K8,K8],Ty.int .i64) else some ([K5],Ty.int .i64)) else(bif Nat.blt t 54 then some ([Ty.int .i64,Ty.int .i64],Ty.int .i64) else some ([Ty.int .i64],ay))) else(bif Nat.blt t 57 then none else(bif Nat.blt t 58 then some ([ay,ay],ay) else some ([K3],Lw))))))) else(bif Nat.blt t 89 then(bif Nat.blt t 74 then(bif Nat.blt t 66 then(bif Nat.blt t 62 then(bif Nat.blt t 60 then some ([ay,ay],ay) else(bif Nat.blt t 61 then none else some ([ay,ay],ay))) else(bif Nat.blt t 64 then(bif Nat.blt t 63 then some ([ay,ay],cN) else some ([ay],cN)) else(bif Nat.blt t 65 then some ([K1,K1],K1) else some ([cN,cN],cN)))) else(bif Nat.blt t 70 then(bif Nat.blt t 68 then(bif Nat.blt t 67 then some ([cN,iA],iA) else none) else(bif Nat.blt t 69 then some ([ay],ay) else some ([Lw,Ty.int .i64,Ty.int .i64],cN))) else(bif Nat.blt t 72 then(bif Nat.blt t 71 then some ([cN],cN) else some ([iA],Ty.bool)) else(bif Nat.blt t 73 then some ([K1,iA],cN) else some ([cN,cN],Ty.int .i64))))) else(bif Nat.blt t 81 then(bif Nat.blt t 77 then(bif Nat.blt t 75 then some ([Ty.int .i64],cN) else(bif Nat.blt t 76 then some ([Ty.int .i64],cN) else some ([ay],Ty.bool))) else(bif Nat.blt t 79 then(bif Nat.blt t 78 then some ([ay],K5) else some ([K5,K5],Ty.bool)) else(bif Nat.blt t 80 then some ([jB,jB],ay) else some ([K1],jB)))) else(bif Nat.blt t 85 then(bif Nat.blt t 83 then(bif Nat.blt t 82 then some ([Ty.bool,K5],ay) else some ([K5,K5],K5)) else(bif Nat.blt t 84 then some ([ay],Ty.int .i64) else some ([],cN))) else(bif Nat.blt t 87 then(bif Nat.blt t 86 then some ([ay,ay],ay) else some ([ay],ay)) else(bif Nat.blt t 88 then some ([ay,ay],ay) else some ([cN],Ty.bool)))))) else(bif Nat.blt t 104 then(bif Nat.blt t 96 then(bif Nat.blt t 92 then(bif Nat.blt t 90 then some ([ay,ay],ay) else(bif Nat.blt t 91 then some ([ay,ay],Ty.int .i64) else some ([K1,K1],ay))) else(bif Nat.blt t 94 then none else(bif Nat.blt t 95 then some ([K1,K1],Ty.int .i64) else some ([K2],K2)))) else(bif Nat.blt t 100 then(bif Nat.blt t 98 then(bif Nat.blt t 97 then some ([K1,K1,K1],dO) else some ([K1],K1)) else(bif Nat.blt t 99 then some ([K2,dO],Ty.bool) else none)) else(bif Nat.blt t 102 then(bif Nat.blt t 101 then some ([dO,dO],Ty.int .i64) else some ([K1,K1],Ty.int .i64)) else(bif Nat.blt t 103 then none else some ([K1,K1],K1))))) else(bif Nat.blt t 111 then(bif Nat.blt t 107 then(bif Nat.blt t 105 then some ([K1,K1,K1],Ty.int .i64) else(bif Nat.blt t 106 then some ([K1,K1],Ty.bool) else some ([K1,K1,K1],K1))) else(bif Nat.blt t 109 then(bif Nat.blt t 108 then some ([K1,K1],Ty.int .i64) else some ([K7,K1],Ty.bool)) else(bif Nat.blt t 110 then some ([K2,K1,Ty.int .i64],Ty.bool) else some ([K7,K6],K7)))) else(bif Nat.blt t 115 then(bif Nat.blt t 113 then(bif Nat.blt t 112 then some ([K2,K1,Ty.int .i64],K5) else some ([K1,K1],K1)) else(bif Nat.blt t 114 then none else some ([Ty.int .u64],Ty.int .i64))) else(bif Nat.blt t 117 then(bif Nat.blt t 116 then some ([Ty.int .i64],Ty.bool) else some ([Ty.bool,aP],ay)) else(bif Nat.blt t 118 then some ([K1,K1],K1) else some ([Mi],Ty.bool)))))))) else(bif Nat.blt t 179 then(bif Nat.blt t 149 then(bif Nat.blt t 134 then(bif Nat.blt t 126 then(bif Nat.blt t 122 then(bif Nat.blt t 120 then some ([],ay) else(bif Nat.blt t 121 then some ([aP,aP],MY) else some ([aP,aP],Ty.int .i64))) else(bif Nat.blt t 124 then(bif Nat.blt t 123 then some ([aP,aP],aP) else some ([K1,K1],K1)) else(bif Nat.blt t 125 then some ([ay],Jm) else some ([],ay)))) else(bif Nat.blt t 130 then(bif Nat.blt t 128 then(bif Nat.blt t 127 then some ([K5,K5],K5) else some ([aP],Ty.int .i64)) else(bif Nat.blt t 129 then some ([ay],Ty.bool) else some ([ay],Ty.int .i64))) else(bif Nat.blt t 132 then(bif Nat.blt t 131 then some ([],cN) else some ([ay,ay],ay)) else(bif Nat.blt t 133 then some ([ay,ay],ay) else some ([],ay))))) else(bif Nat.blt t 141 then(bif Nat.blt t 137 then(bif Nat.blt t 135 then some ([iA,iA],cN) else(bif Nat.blt t 136 then some ([K1],iA) else some ([cN],Ty.bool))) else(bif Nat.blt t 139 then(bif Nat.blt t 138 then some ([ay,ay],ay) else some ([ay],cN)) else(bif Nat.blt t 140 then some ([ay],Ty.bool) else some ([K5],K5)))) else(bif Nat.blt t 145 then(bif Nat.blt t 143 then(bif Nat.blt t 142 then some ([K5,Ty.int .i64],Ty.int .i64) else some ([ay],ay)) else(bif Nat.blt t 144 then some ([K5,K5],MF) else some ([Ty.int .i64,Ty.int .i64],Ty.int .i64))) else(bif Nat.blt t 147 then(bif Nat.blt t 146 then some ([Ty.int .i64],Ty.bool) else some ([K5,K5],K5)) else(bif Nat.blt t 148 then some ([jB,jB],ay) else some ([K1],jB)))))) else(bif Nat.blt t 164 then(bif Nat.blt t 156 then(bif Nat.blt t 152 then none else(bif Nat.blt t 154 then(bif Nat.blt t 153 then some ([Ty.int .i64,Ty.int .i64],Ty.int .i64) else none) else(bif Nat.blt t 155 then some ([K1,K1],K1) else some ([jB],dO)))) else(bif Nat.blt t 160 then(bif Nat.blt t 158 then(bif Nat.blt t 157 then some ([K2,K1,Ty.int .i64,K1,K1],Ty.bool) else none) else none) else none)) else(bif Nat.blt t 171 then(bif Nat.blt t 167 then(bif Nat.blt t 165 then none else(bif Nat.blt t 166 then some ([Ty.int .u32],Ty.int .i64) else some ([Ty.int .u64],Ty.int .i64))) else(bif Nat.blt t 169 then(bif Nat.blt t 168 then some ([ay],Ty.bool) else some ([Ty.int .u32,Ty.int .u32],Ty.int .i64)) else(bif Nat.blt t 170 then some ([],ay) else some ([aP,aP],NJ)))) else(bif Nat.blt t 175 then(bif Nat.blt t 173 then(bif Nat.blt t 172 then some ([ay],ay) else some ([ay,ay],Od)) else(bif Nat.blt t 174 then some ([cN,cN],cN) else some ([cN,cN],cN))) else(bif Nat.blt t 177 then(bif Nat.blt t 176 then some ([K5,Ty.int .i64],Ty.int .i64) else none) else none))))) else(bif Nat.blt t 209 then(bif Nat.blt t 194 then(bif Nat.blt t 186 then none else(bif Nat.blt t 190 then(bif Nat.blt t 188 then(bif Nat.blt t 187 then some ([ay],Jm) else some ([K1],Ty.bool)) else(bif Nat.blt t 189 then some ([K1,K1],Ty.int .i64) else none)) else(bif Nat.blt t 192 then(bif Nat.blt t 191 then some ([Ty.int .i64],Ty.int .u64) else none) else none))) else(bif Nat.blt t 201 then(bif Nat.blt t 197 then(bif Nat.blt t 195 then some ([Ty.int .u32],Ty.bool) else(bif Nat.blt t 196 then some ([aP,Ty.int .u32],Ml) else some ([Ty.int .u32],Ty.int .i64))) else(bif Nat.blt t 199 then(bif Nat.blt t 198 then some ([aP,Ty.int .i64],Ml) else none) else none)) else(bif Nat.blt t 205 then(bif Nat.blt t 203 then(bif Nat.blt t 202 then some ([aP,Ty.int .i64],aP) else some ([ay],Jm)) else(bif Nat.blt t 204 then some ([ay,ay],ay) else none)) else none))) else(bif Nat.blt t 224 then(bif Nat.blt t 216 then(bif Nat.blt t 212 then none else(bif Nat.blt t 214 then none else(bif Nat.blt t 215 then none else some ([Ty.int .i64],Ty.int .i64)))) else(bif Nat.blt t 220 then(bif Nat.blt t 218 then(bif Nat.blt t 217 then none else some ([ay],Ty.int .i64)) else none) else none)) else none)))) else none
def CS(t:Nat):Option (Ty×Ty):=bif Nat.blt t Dc then(bif Nat.blt t 119 then none else(bif Nat.blt t 178 then(bif Nat.blt t 148 then(bif Nat.blt t 133 then(bif Nat.blt t 126 then none else(bif Nat.blt t 129 then(bif Nat.blt t 127 then none else(bif Nat.blt t 128 then some (dO,Ty.bool) else none)) else none)) else none) else none) else none)) else none
def cm(lp:{α β:Type}->(α->Option (Sum α β))->α->Option β)(call:Nat->List D->Option D)(inl:Nat->Option (Ann->(R:Type)->St->List AV->(AV->St->Option R)->Option R)):Env:={ L:=GT,sig:=lX,call:=call,mapL:=CS,lp:=lp,inl:=inl }
def yJ:List (Nat×(Func×Ty))->Nat->Option (Func×Ty)
 | [],_=>none
 | p::l,f=>bif Nat.beq f p.1 then some p.2 else yJ l f
theorem rP:∀ {l:List (Nat×(Func×Ty))} {f:Nat} {p:Func×Ty},yJ l f=some p->(f,p)∈l
 | [],_,_,h=>by cases h
 | q::l,f,p,h=>by
  simp only[yJ] at h
  cases hb:Nat.beq f q.1
  ·rw[hb] at h;exact List.mem_cons_of_mem _ (rP h)
  ·rw[hb] at h;cases h;rw[Nat.eq_of_beq_eq_true hb];exact List.mem_cons_self
open Go.Proofs in
noncomputable def DF:List (Nat×(Func×Ty)):=[(51,(Tryz.f51,Ty.int .i64)),(55,(Tryz.f55,HI)),(56,(Tryz.f56,HI)),(60,(Tryz.f60,HI)),(67,(Tryz.f67,HI)),(94,(Tryz.f94,Ty.int .i64)),(100,(Tryz.f100,Ty.int .i64)),(102,(Tryz.f102,Ty.int .i64)),(198,(Tryz.f198,Ty.int .u64)),(199,(Tryz.f199,Ty.bool)),(200,(Tryz.f200,HI))]
noncomputable def Ge(f:Nat):Option (Func×Ty):=yJ DF f
theorem B1{f:Nat}{p:Func×Ty}(h:Ge f=some p):(f,p)∈DF:=rP h
end Go.Proofs.YtjjjkojfijpeeaaGreat.Sy
end
section
namespace Go.Proofs.YtjjjkojfijpeeaaGreat.Sy
open Go
def yk(P:Program):Bool:=(List.range Dc).all fun t=>match GT t with|some ty=>be P ty t&&decide (ty.high<=1000)&&af ty|none=>true
def Bv(P:Program)(f:Nat)(g:List Ty×Ty):Bool:=
 aT g.1 && (af g.2 || match g.2 with | .tup ts => aT ts | _ => false) && match P.funcs[f]? with | some fn => !(fn.name == "runtime.NumGoroutine") && fn.body.isSome | none => false
def yc(P:Program):Bool:=(List.range Dc).all fun t=>match CS t with|some g=>aO g.1&&decide (g.1.high<=1000)&&(match P.underlying t with|some (.map K V)=>be P g.1 K&&be P g.2 V|_=>false)|none=>true
def xV(P:Program):Bool:=(List.range Ce).all fun f=>match lX f with|some g=>Bv P f g|none=>true
theorem Fh{t:Nat}{ty:Ty}(h:GT t=some ty):t<Dc:=by
 unfold GT at h
 rcases Nat.lt_or_ge t Dc with k|k
 ·exact k
 ·have:Nat.blt t Dc=false:=Bool.eq_false_iff.2 fun hb=>absurd (Nat.blt_eq ▸ hb) (Nat.not_lt.2 k)
  rw[this] at h;cases h
theorem Co{t:Nat}{g:Ty×Ty}(h:CS t=some g):t<Dc:=by
 unfold CS at h
 rcases Nat.lt_or_ge t Dc with k|k
 ·exact k
 ·have:Nat.blt t Dc=false:=Bool.eq_false_iff.2 fun hb=>absurd (Nat.blt_eq ▸ hb) (Nat.not_lt.2 k)
  rw[this] at h;cases h
theorem Bq{t:Nat}{ty:List Ty×Ty}(h:lX t=some ty):t<Ce:=by
 unfold lX at h
 rcases Nat.lt_or_ge t Ce with k|k
 ·exact k
 ·have:Nat.blt t Ce=false:=Bool.eq_false_iff.2 fun hb=>absurd (Nat.blt_eq ▸ hb) (Nat.not_lt.2 k)
  rw[this] at h;cases h
def jl(P:Program)(call:Nat->List D->Option D):Prop:=∀ f ptys rty xs y,lX f=some (ptys,rty)->call f xs=some y->fN ptys xs->C8 P ptys rty f xs y
abbrev Lp:Type 1:={α β:Type}->(α->Option (Sum α β))->α->Option β
def az(lp:Lp):Prop:=∀ (α β:Type) (body:α->Option (Sum α β)) (x:α) (y:β),lp body x=some y->∃ n,mR body n x=some y
theorem rQ(N:Nat):az (fun body=>mR body N):=fun _ _ _ _ _ h=>⟨N,h⟩
theorem lg:az (fun body=>j7 body):=fun _ _ _ _ _ h=>lc h
abbrev IX:Type 1:=Nat->Option (Ann->(R:Type)->St->List AV->(AV->St->Option R)->Option R)
def Dr(tab:Nat->Option (Func×Ty))(lp:Lp)(call:Nat->List D->Option D):Nat->IX
 | 0=>fun _=>none
 | n+1=>fun f=>match tab f with
  | some p=>some (FU (cm lp call (Dr tab lp call n)) p.1 p.2)
  | none=>none
section
variable{P:Program}
theorem qq(h1:yk P=true)(h2:xV P=true)(h4:yc P=true)(h3:P.follows .mixedOrders=true){lp:Lp}(hlp:az lp){call:Nat->List D->Option D}(hc:jl P call)
  {inl : IX} (hi : ∀ f g, inl f = some g -> (∃ fn, P.funcs[f]? = some fn /\ (fn.name == "runtime.NumGoroutine") = false /\ fn.body.isSome = true) /\ BB P f g) : EnvOk P (cm lp call inl) := by
 have k1:∀ t ty,GT t=some ty->be P ty t=true/\ty.high<=1000/\af ty=true:=fun t ty ht=>by
  have:=List.all_eq_true.1 h1 t (List.mem_range.2 (Fh ht))
  rw[ht] at this
  simp only[Bool.and_eq_true,decide_eq_true_eq] at this
  exact⟨this.1.1,this.1.2,this.2⟩
 refine⟨fun t ty ht=>.inr (k1 t ty ht).1,fun t ty ht=>(k1 t ty ht).2.1,fun t ty ht=>(k1 t ty ht).2.2,fun f ptys rty hf=>?_,hc,h3,hlp,fun t kt vt ht=>?_,hi⟩
 ·have:=List.all_eq_true.1 h2 f (List.mem_range.2 (Bq hf))
  rw[show lX f=some (ptys,rty) from hf] at this
  simp only[Bv,Bool.and_eq_true,Bool.or_eq_true] at this
  obtain⟨⟨q1,q2⟩,q3⟩:=this
  refine⟨q1,?_,?_⟩
  ·rcases q2 with q2|q2
   ·exact .inl q2
   ·right
    split at q2
    ·rename_i ts;exact⟨_,rfl,q2⟩
    ·cases q2
  ·split at q3
   ·rename_i fn hfn
    simp only[Bool.and_eq_true,Bool.not_eq_true'] at q3
    exact⟨fn,hfn,q3⟩
   ·cases q3
 ·have:=List.all_eq_true.1 h4 t (List.mem_range.2 (Co ht))
  rw[show CS t=some (kt,vt) from ht] at this
  simp only[Bool.and_eq_true,decide_eq_true_eq] at this
  obtain⟨⟨m1,m2⟩,m3⟩:=this
  refine⟨m1,?_⟩
  split at m3<;>first|(cases m3;done)|skip
  rename_i K V hu
  simp only[Bool.and_eq_true] at m3
  exact⟨K,V,hu,m3.1,m3.2,m2⟩
def xp (P : Program) (f : Nat) (p : Func × Ty) : Prop := P.funcs[f]? = some p.1 /\ (!(p.1.name == "runtime.NumGoroutine") && p.1.body.isSome && gQ p.1.results.size p.2) = true
theorem zf{tab:Nat->Option (Func×Ty)}(h1:yk P=true)(h2:xV P=true)(h4:yc P=true)(h3:P.follows .mixedOrders=true)(ht:∀ f p,tab f=some p->xp P f p){lp:Lp}(hlp:az lp){call:Nat->List D->Option D}(hc:jl P call) :
  ∀ n,EnvOk P (cm lp call (Dr tab lp call n))
 | 0=>qq h1 h2 h4 h3 hlp hc fun f g h=>by cases h
 | n+1=>qq h1 h2 h4 h3 hlp hc fun f g h=>by
  simp only[Dr] at h
  split at h<;>first|(cases h;done)|skip
  rename_i p hp
  cases h
  obtain⟨q1,q2⟩:=ht f p hp
  simp only[Bool.and_eq_true,Bool.not_eq_true'] at q2
  exact⟨⟨p.1,q1,q2.1.1,q2.1.2⟩,EM (zf h1 h2 h4 h3 ht hlp hc n) q1 q2.2⟩
theorem Gj{E:Env}(h:EnvOk P E){f:Nat}{fn:Func}{ann:Ann}{ptys:List Ty}{rty:Ty}{xs:List D}{y:D}(hf:P.funcs[f]?=some fn)
  (hk:(decide (ptys.length<=fn.ntmps)&&gQ fn.results.size rty&&aT ptys)=true) (he:Iy E fn ann ptys rty xs=some y):C8 P ptys rty f xs y:=by
 simp only[Bool.and_eq_true,decide_eq_true_eq] at hk
 exact zI h hf hk.1.1 hk.2 hk.1.2 he
end
end Go.Proofs.YtjjjkojfijpeeaaGreat.Sy
end
section
namespace Go.Proofs.YtjjjkojfijpeeaaGreat.Sy
open Go Go.Proofs
theorem u6:yk Tryz.prog=true:=by kernel_rfl
theorem uP:xV Tryz.prog=true:=by kernel_rfl
theorem wn:yc Tryz.prog=true:=by kernel_rfl
theorem xu:Tryz.prog.follows .mixedOrders=true:=by kernel_rfl
noncomputable def fj(lp:Lp)(call:Nat->List D->Option D):IX:=Dr Ge lp call 3
theorem Fs:∀ f p,Ge f=some p->xp Tryz.prog f p:=by
 intro f p h
 have key:∀ q∈DF,xp Tryz.prog q.1 q.2:=by
  intro q hq
  simp only[DF,List.mem_cons,List.not_mem_nil,or_false] at hq
  repeat' first
   | (rcases hq with hq|hq;· subst hq;exact⟨by kernel_rfl,by kernel_rfl⟩)
   | (subst hq;exact⟨by kernel_rfl,by kernel_rfl⟩)
 exact key (f,p) (B1 h)
theorem DK{lp:Lp}(hlp:az lp){call:Nat->List D->Option D}(hc:jl Tryz.prog call):EnvOk Tryz.prog (cm lp call (fj lp call)):=
 zf u6 uP wn xu Fs hlp hc 3
def He(o:Oper):Option ByteArray:=match o.op with|.index _ (.const (.string s)) _=>some s|_=>none
def ms:Code->Option ByteArray
 | .region _ ops _=>ops.toList.findSome? He
 | .seq a b=>(ms a).orElse fun _=>ms b
 | .cond _ a b=>(ms a).orElse fun _=>ms b
 | .block _ a=>ms a
 | .loop a=>ms a
 | .scope a=>ms a
 | _=>none
def CF(f:Func):Code:=match f.body with|some c=>c|none=>.skip
end Go.Proofs.YtjjjkojfijpeeaaGreat.Sy
end
section
namespace Go.Proofs.YtjjjkojfijpeeaaGreat.Sy
open Go Go.Proofs
inductive CT where
 | leaf (k:Nat) (g:(Nat->List D->Option D)->List D->Option D)
 | node (m:Nat) (a b:CT)
def CT.get:CT->Nat->(Nat->List D->Option D)->List D->Option D
 | .leaf k g,f,call,xs=>bif Nat.beq f k then g call xs else none
 | .node m a b,f,call,xs=>bif Nat.blt f m then a.get f call xs else b.get f call xs
def ae(f:Nat)(g:(Nat->List D->Option D)->List D->Option D):Prop:=
 ∀ call,jl Tryz.prog call->∀ ptys rty xs y,lX f=some (ptys,rty)->g call xs=some y->fN ptys xs->C8 Tryz.prog ptys rty f xs y
def CT.ok:CT->Prop
 | .leaf k g=>ae k g
 | .node _ a b=>a.ok/\b.ok
theorem CT.get_ok':∀ {t:CT},t.ok->∀ {call},jl Tryz.prog call->∀ f ptys rty xs y,lX f=some (ptys,rty)->t.get f call xs=some y->fN ptys xs->C8 Tryz.prog ptys rty f xs y
 | .leaf k g,h,call,hc,f,ptys,rty,xs,y,hs,hy,hw=>by
  simp only[CT.get] at hy
  cases hb:Nat.beq f k with
  | false=>rw[hb] at hy;cases hy
  | true=>
   rw[hb] at hy
   have:=Nat.eq_of_beq_eq_true hb
   subst this
   exact h call hc ptys rty xs y hs hy hw
 | .node m a b,h,call,hc,f,ptys,rty,xs,y,hs,hy,hw=>by
  simp only[CT.get] at hy
  cases hb:Nat.blt f m with
  | false=>rw[hb] at hy;exact CT.get_ok' h.2 hc f ptys rty xs y hs hy hw
  | true=>rw[hb] at hy;exact CT.get_ok' h.1 hc f ptys rty xs y hs hy hw
theorem CT.get_ok{t:CT}(h:t.ok){call}(hc:jl Tryz.prog call):jl Tryz.prog fun f xs=>t.get f call xs:=fun f ptys rty xs y hs hy hw=>CT.get_ok' h hc f ptys rty xs y hs hy hw
noncomputable def jA(lp:Lp)(f:Nat)(fn:Func)(ann:Ann)(call:Nat->List D->Option D)(xs:List D):Option D:=
 (lX f).bind fun s=>Iy (cm lp call (fj lp call)) fn ann s.1 s.2 xs
def Gu(f:Nat)(fn:Func):Bool:=match lX f with
 | some (p,r)=>decide (p.length<=fn.ntmps)&&gQ fn.results.size r&&aT p
 | none=>false
theorem eu{lp:Lp}(hlp:az lp){f:Nat}{fn:Func}{ann:Ann}(hf:Tryz.prog.funcs[f]?=some fn)(hk:Gu f fn=true):ae f (jA lp f fn ann):=by
 intro call hc ptys rty xs y hs hy hw
 unfold jA at hy
 unfold Gu at hk
 rw[hs] at hy hk
 exact Gj (DK hlp hc) hf hk hy
def m0(F:(Nat->List D->Option D)->Option D)(call:Nat->List D->Option D)(xs:List D):Option D:=match xs with|[]=>F call|_=>none
theorem BS{lp:Lp}(hlp:az lp){f:Nat}{fn:Func}{ann:Ann}{F:(Nat->List D->Option D)->Option D}(hf:Tryz.prog.funcs[f]?=some fn)(hk:Gu f fn=true)
  (hE:∀ call,jA lp f fn ann call []=F call):ae f (m0 F):=by
 intro call hc ptys rty xs y hs hy hw
 unfold m0 at hy
 split at hy<;>first|(cases hy;done)|skip
 exact eu hlp hf hk call hc ptys rty _ y hs ((hE call).trans hy) hw
def m1(F:(Nat->List D->Option D)->D->Option D)(call:Nat->List D->Option D)(xs:List D):Option D:=match xs with|[a0]=>F call a0|_=>none
theorem bK{lp:Lp}(hlp:az lp){f:Nat}{fn:Func}{ann:Ann}{F:(Nat->List D->Option D)->D->Option D}(hf:Tryz.prog.funcs[f]?=some fn)(hk:Gu f fn=true)
  (hE:∀ call a0,jA lp f fn ann call [a0]=F call a0):ae f (m1 F):=by
 intro call hc ptys rty xs y hs hy hw
 unfold m1 at hy
 split at hy<;>first|(cases hy;done)|skip
 exact eu hlp hf hk call hc ptys rty _ y hs ((hE call _).trans hy) hw
def m2(F:(Nat->List D->Option D)->D->D->Option D)(call:Nat->List D->Option D)(xs:List D):Option D:=match xs with|[a0,a1]=>F call a0 a1|_=>none
theorem bc{lp:Lp}(hlp:az lp){f:Nat}{fn:Func}{ann:Ann}{F:(Nat->List D->Option D)->D->D->Option D}(hf:Tryz.prog.funcs[f]?=some fn)(hk:Gu f fn=true)
  (hE:∀ call a0 a1,jA lp f fn ann call [a0,a1]=F call a0 a1):ae f (m2 F):=by
 intro call hc ptys rty xs y hs hy hw
 unfold m2 at hy
 split at hy<;>first|(cases hy;done)|skip
 exact eu hlp hf hk call hc ptys rty _ y hs ((hE call _ _).trans hy) hw
def m3(F:(Nat->List D->Option D)->D->D->D->Option D)(call:Nat->List D->Option D)(xs:List D):Option D:=match xs with|[a0,a1,a2]=>F call a0 a1 a2|_=>none
theorem FI{lp:Lp}(hlp:az lp){f:Nat}{fn:Func}{ann:Ann}{F:(Nat->List D->Option D)->D->D->D->Option D}(hf:Tryz.prog.funcs[f]?=some fn)(hk:Gu f fn=true)
  (hE:∀ call a0 a1 a2,jA lp f fn ann call [a0,a1,a2]=F call a0 a1 a2):ae f (m3 F):=by
 intro call hc ptys rty xs y hs hy hw
 unfold m3 at hy
 split at hy<;>first|(cases hy;done)|skip
 exact eu hlp hf hk call hc ptys rty _ y hs ((hE call _ _ _).trans hy) hw
def m4(F:(Nat->List D->Option D)->D->D->D->D->Option D)(call:Nat->List D->Option D)(xs:List D):Option D:=match xs with|[a0,a1,a2,a3]=>F call a0 a1 a2 a3|_=>none
def m5(F:(Nat->List D->Option D)->D->D->D->D->D->Option D)(call:Nat->List D->Option D)(xs:List D):Option D:=match xs with|[a0,a1,a2,a3,a4]=>F call a0 a1 a2 a3 a4|_=>none
theorem leaf5{lp:Lp}(hlp:az lp){f:Nat}{fn:Func}{ann:Ann}{F:(Nat->List D->Option D)->D->D->D->D->D->Option D}(hf:Tryz.prog.funcs[f]?=some fn)(hk:Gu f fn=true)
  (hE:∀ call a0 a1 a2 a3 a4,jA lp f fn ann call [a0,a1,a2,a3,a4]=F call a0 a1 a2 a3 a4):ae f (m5 F):=by
 intro call hc ptys rty xs y hs hy hw
 unfold m5 at hy
 split at hy<;>first|(cases hy;done)|skip
 exact eu hlp hf hk call hc ptys rty _ y hs ((hE call _ _ _ _ _).trans hy) hw
abbrev gx(l:List D)(i:Nat):D:=l.getD i (.bool false)
end Go.Proofs.YtjjjkojfijpeeaaGreat.Sy
end
