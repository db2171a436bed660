/- Part 5 of the proof that For every valid body with few parts -/
import Derived.Test.YtpahompifldeeaaGreatQuads04
import Derived.Scope
import Derived.RangeFuncLeaves
set_option linter.unusedVariables false
set_option linter.unusedSimpArgs false
set_option linter.unnecessarySimpa false
set_option linter.defProp false
set_option maxRecDepth 20000
namespace Go.Proofs.YtpahompifldeeaaGreat
noncomputable section
namespace Sy
open Go
open Go.ChangeMaps (setBlock)
open Go.RowKit
variable{ro:Option Nat}{nn:Nat}
section
variable{P:Program}{E:Env}{w0:Root}{S:Nat->Nat->Prop}{γ:Nat->Option Nat}{β:Nat->Option (Nat×Nat)}{s:St}{a:Act}{w:World}
def Kp(Q:Exit->Act->World->Prop)(w0:Root)(s:St)(S:Nat->Nat->Prop)(γ:Nat->Option Nat)(a:Act)(w:World){R:Type}(k:Ex->St->Option R)(r:R):Prop:=
 ∀ e s' S' γ' β' a' w',Rp w0 S' γ' β' s' a' w'->Fm s S γ a w S' γ' a' w'->Sk s s'->k e s'=some r->Q (EP e) a' w'
def Dv{c:Cx}{t:Ty}{id:Nat}{v:Value}{u:Ty}{x:AV}(ho:c.ob id=some (.one u x))(na:∀ cs,v≠.agg cs)(h:AC c (.ptr t id []) v.cells.toList):∃ b,v=.pointer (some ⟨b,0,none⟩)/\c.γ id=some b:=by
 simp only[AC] at h;obtain⟨b,off,h1,h2,h3⟩:=h;obtain⟨_,h4⟩:=h3 _ ho;have:off=0:=h4;subst this;exact⟨b,az na h1,h2⟩
theorem rd{c:Cx}:∀ (l:List AV) (caps:List Value),xG l=true->(l.all (λa=>match a with|.ptr _ id _=>(match c.ob id with|some (.one _ _)=>true|_=>false)|_=>false))=true->mX c l caps->qm c l caps
 | [],caps,_,_,h=>by simp only[mX] at h;subst h;trivial
 | x::l,caps,hw,ho,h=>by
  simp only[mX] at h;obtain⟨v,c2,rfl,h1,h2⟩:=h;simp only[zKb,zaa] at ho;unfold xG at hw;split at hw<;>first|(cases hw;done)|skip
  ·rename_i e;cases e
  ·rename_i t id l' e;cases e;refine⟨?_,rd l c2 hw ho.2 h2⟩;have h3:=ho.1;simp only at h3;split at h3<;>first|(cases h3;done)|skip
   rename_i u x hob;simp only[AC] at h1;obtain⟨b,off,q1,q2,q3⟩:=h1;obtain⟨_,q4⟩:=q3 _ hob;have:off=0:=q4;subst this;exact⟨b,by simpa using q1,q2⟩
def Gh{c:Cx}{x:AV}{v:Value}(h:AR c x v):jB c (Cr c.ob x) v:=by
 cases x<;>simp only[Cr]<;>first|(simp only[jB];done)|skip
 case d t y=>exact h
 case own t u l=>exact mh (c:=c) (c':=c) (λ_ _ _=>rfl) (λ_ _ h=>h) h
 case fptr t y=>exact h
 case ptr t id p=>
  cases p with
  | cons i p=>simp only[jB]
  | nil=>
   simp only;split
   ·rename_i u y ho;simp only[AR] at h;simp only[jB,uf];exact Dv ho h.1 h.2
   ·simp only[jB]
 case clo f l=>
  split
  ·rename_i hc;simp only[zaa] at hc;simp only[AR,AC] at h;obtain⟨na,caps,h1,h2⟩:=h;simp only[jB];exact⟨caps,az na h1,rd l caps hc.1 hc.2 h2⟩
  ·simp only[jB]
def Rp.act(h:Rp w0 S γ β s a w){a':Act}(ht:a'.tmps=a.tmps):Rp w0 S γ β s a' w:=
 ⟨h.ext,by rw[ht];exact h.tms,by rw[ht];exact h.nt,h.tmu,h.obs,h.γn,h.γi,h.γf,h.βn,h.βi,h.βγ,h.βf,h.Sb,h.So⟩
def EM(hro:∀ l,ro=some l->∃ r0,w.heap[l]?=some (Obj.loop r0))(fid:FuncId)(tmps:Array Value)(ps:Array Tmp)(asg bdy:Code) :
  ∃ L mark os rec,(Instr.enterLoop fid tmps ps asg bdy ro).run P w=.ok (L,mark) (grown w os w.drawn)/\(grown w os w.drawn).heap[L]?=some (Obj.loop rec)/\rec.tmps=tmps/\rec.params=ps/\rec.assign=asg/\rec.body=bdy/\rec.state=.ready/\rec.pending=none ∧
   w.heap.size<=L/\cr w.heap.size (grown w os w.drawn) (grown w os w.drawn).heap.size mark:=by
 cases ro with
 | none=>
  obtain⟨W1,hW1⟩:∃ W1,W1=(w.alloc (.deferred (some []))).alloc (.loop { state:=.ready,pending:=none,fn:=fid,tmps,params:=ps,assign:=asg,body:=bdy,defers:=w.heap.size }):=⟨_,rfl⟩;have hgr:W1=grown w [.deferred (some []),.loop { state:=.ready,pending:=none,fn:=fid,tmps,params:=ps,assign:=asg,body:=bdy,defers:=w.heap.size }] w.drawn:=by
   rw[hW1];unfold grown;show({ w with heap:=(w.heap.push _).push _ }:World)=_;congr 1<;>(apply z7b;simp)
  have hL1:W1.heap[w.heap.size+1]?=some (.loop { state:=.ready,pending:=none,fn:=fid,tmps,params:=ps,assign:=asg,body:=bdy,defers:=w.heap.size }):=by
   rw[hW1];have:=World.alloc_heap_new (w.alloc (.deferred (some []))) (.loop { state:=.ready,pending:=none,fn:=fid,tmps,params:=ps,assign:=asg,body:=bdy,defers:=w.heap.size });rwa [World.size_alloc] at this
  have hK1:W1.heap[w.heap.size]?=some (.deferred (some [])):=by
   rw[hW1];exact(Below.heap_alloc _ _ _ (by simp)).trans (World.alloc_heap_new w _)
  refine⟨w.heap.size+1,[{ target:=.collected w.heap.size,args:=#[] }],[.deferred (some []),.loop { state:=.ready,pending:=none,fn:=fid,tmps,params:=ps,assign:=asg,body:=bdy,defers:=w.heap.size }],{ state:=.ready,pending:=none,fn:=fid,tmps,params:=ps,assign:=asg,body:=bdy,defers:=w.heap.size },(run_enterLoop_outer fid tmps ps asg bdy).trans ?_,?_,rfl,rfl,rfl,rfl,rfl,rfl,ztc _,w.heap.size,rfl,zja _,?_,?_,trivial⟩
  rotate_left 1
  ·rw[<-hgr];exact hL1
  rotate_left 1
  ·rw[<-hgr];exact hK1
  ·rw[<-hgr,hW1]
  ·simp[grown]
 | some l0=>
  obtain⟨r0,h0⟩:=hro l0 rfl;obtain⟨W1,hW1⟩:∃ W1,W1=w.alloc (.loop { state:=.ready,pending:=none,fn:=fid,tmps,params:=ps,assign:=asg,body:=bdy,defers:=r0.defers }):=⟨_,rfl⟩;have hgr:W1=grown w [.loop { state:=.ready,pending:=none,fn:=fid,tmps,params:=ps,assign:=asg,body:=bdy,defers:=r0.defers }] w.drawn:=by
   rw[hW1];unfold grown;show({ w with heap:=w.heap.push _ }:World)=_;congr 1<;>(apply z7b;simp)
  refine⟨w.heap.size,[],[.loop { state:=.ready,pending:=none,fn:=fid,tmps,params:=ps,assign:=asg,body:=bdy,defers:=r0.defers }],{ state:=.ready,pending:=none,fn:=fid,tmps,params:=ps,assign:=asg,body:=bdy,defers:=r0.defers },(run_enterLoop_inner h0 fid tmps ps asg bdy).trans ?_,?_,rfl,rfl,rfl,rfl,rfl,rfl,zja _,trivial⟩
  rotate_left 1
  ·rw[<-hgr,hW1];exact World.alloc_heap_new w _
  ·rw[<-hgr,hW1]
def KQ(hE:EnvOk P E){Q:Exit->Act->World->Prop}(hro:∀ l,ro=some l->∃ r0,w.heap[l]?=some (Obj.loop r0))(h:Rp w0 S γ β s a w){f:Operand}{ps:Array Tmp}{asg bdy:Code}{an:Ann}{R:Type}{k:Ex->St->Option R}{r:R}
  (hev:Tl E f ps asg bdy an s k=some r) (hQ:Kp Q w0 s S γ a w k r):(Code.rangeFunc f ps asg bdy).wpIn (FW ro) nn P Q a w:=by
 unfold Tl at hev;split at hev<;>first|(cases hev;done)|skip
 rename_i t;split at hev<;>first|(cases hev;done)|skip
 rename_i g l htm;split at hev<;>first|(cases hev;done)|skip
 rename_i hcond;simp only[zaa,zLa] at hcond;obtain⟨hp,h4095⟩:=hcond;obtain⟨G,hG,hev⟩:=bind_some_inv hev;obtain⟨id,hid⟩:∃ id,id=(s.fresh+1)*4096:=⟨_,rfl⟩;rw[<-hid] at hev;obtain⟨info,hinfo⟩:∃ info:LpI,info={ nt:=s.nt,ps:=ps.toList,asg:=asg,bdy:=bdy,caps:=λj=>Cr s.ob (s.tm j) }:=⟨_,rfl⟩;rw[<-hinfo] at hev;obtain⟨⟨fn,f1,f2,f3⟩,hI⟩:=hE.inl g G hG;have hb:¬ fn.body=none:=by intro hh;rw[hh] at f3;cases f3
 have f2' : ¬ fn.name = "runtime.NumGoroutine" := by simpa using f2
 refine wpIn_rangeFunc λfid _=>?_;obtain⟨L,mark,os,rec,e1,e2,e3,e4,e5,e6,e7,e8,e9,e10⟩:=EM (P:=P) hro fid a.tmps ps asg bdy;obtain⟨w1,hw1⟩:∃ w1,w1=grown w os w.drawn:=⟨_,rfl⟩;obtain⟨g1,le1⟩:=h.grow (os:=os) (d:=w.drawn) (zja _) (S':=S) (λ_ _ hb=>hb) (λ_ _ hb=>.inl hb);have kept1:cY w (grown w os w.drawn):=cY.grown;have hsz1:w.heap.size<=(grown w os w.drawn).heap.size:=by simp
 have hcell1:∀ b o,S b o->(grown w os w.drawn).cell? ⟨b,o,none⟩=w.cell? ⟨b,o,none⟩:=λb o hb=>dH (h.Sb b o hb);have hold1:∀ b,b<w.heap.size->(grown w os w.drawn).heap[b]?=w.heap[b]?:=λb hb=>cJ hb;rw[<-hw1] at e1 e2 e10 g1 kept1 hsz1 hcell1 hold1;clear le1 hw1;have hLlt:=(zfa.1 e2).1;have hγid:γ id=none:=h.γf id (by rw[hid];simp only[St.base];omega)
 obtain⟨sX,hsX⟩:∃ sX,sX=({ s with fresh:=s.fresh+1 }:St).setOb id (some (.lp info none)):=⟨_,rfl⟩;rw[<-hsX] at hev;have q1:Rp w0 S γ β sX a w1:=by rw[hsX];exact(g1.later.setFree (id:=id) hγid _).1
 have RX:Rp w0 S (pe γ id L) β sX a w1:=by
  refine(q1.newOb (id:=id) (b:=L) hγid (λho=>?_) hLlt (λi hi=>?_) (λu f hu hf=>?_) ?_ λo ho=>?_).1
  ·have:=ho.1;have:=h.ext.sz;omega
  ·have:=(h.γn i _ hi).2;omega
  ·have hu':u ∉ s.dead:=by rw[hsX] at hu;exact hu
   have:=(h.βn u _ _ hu' hf).2.1;omega
  ·rw[hsX];show id<(s.fresh+1)*4096+4096;omega
  ·have ho':some (Ob.lp info none)=some o:=by rw[<-ho,hsX];simp[St.setOb]
   cases ho';simp only[gL];refine⟨rec,e2,⟨by rw[e3,hinfo];exact h.nt,by rw[e4,hinfo],by rw[e5,hinfo],by rw[e6,hinfo]⟩,λu hu=>?_,e7,e8⟩
   rw[e3,hinfo];have hu':u<s.nt:=by rw[hinfo] at hu;exact hu
   exact jB.mono (c:=⟨w,S,γ,β,s.ob,s.dead⟩) (c':=⟨w1,S,pe γ id L,β,sX.ob,sX.dead⟩) hcell1 (λ_ _ hb=>hb) (λi b hb=>fh hγid hb) (Gh (h.tms u (by rw[h.nt];exact hu')))
 have hA:=aV RX (.tmp t);have htX:sX.tm t=.clo g l:=by rw[hsX];exact htm
 have hA':AR ⟨w1,S,pe γ id L,β,sX.ob,sX.dead⟩ (.clo g l) (a.eval (.tmp t)):=by rw[<-htX];exact hA
 simp only[AR,AC] at hA';obtain⟨na,caps,hcs,hcap⟩:=hA';have hv:=az na hcs;obtain⟨k1,k2⟩:=lr l caps hp hcap;refine⟨L,mark,w1,{ target:=.fn (.func g) caps.toArray,args:=#[.func (.yield L) #[] #[]] },w1,g,(Value.func (.yield L) #[] #[]::caps).toArray,w1,e1,?_,λ_ _=>trivial,?_,λh=>(by cases h),?_⟩
 ·simp only[resolve,hv];simp[go_sem,Deferred.ofValue,Act.eval]
 ·simp[invoke,callFunc,f1,f2',hb]
 have hc:=hI an R w0 S (pe γ id L) β sX a w1 (.yld id::l) (Value.func (.yield L) #[] #[]::caps) _ r RX (by simp[k1]) (λi x v hx hv=>by
  cases i with
  | zero=>
   simp only[zeb,zda] at hx hv;subst hx;subst hv;simp only[AR,AC];exact⟨λ_ h=>(by cases h),L,rfl,bJ _ _ _⟩
  | succ i=>exact k2 i x v (by simpa using hx) (by simpa using hv)) hev
 refine yc (hc.mono λe w' ⟨v,y,s',S',γ',β',z1,z2,z3,_,z5,z6⟩=>?_);subst z1;have hγ':γ' id=some L:=z5.gam id L (bJ _ _ _);have fin:∀ (p:Option Ex) (i:LpI),s'.ob id=some (.lp i p)->∃ w4,(Instr.endLoop L).run P w'=.ok (p.map Ac) w4/\Rp w0 S' γ' β' (s'.setOb id none) { a with defers:=mark++a.defers } w4/\Fm s S γ a w S' γ' { a with defers:=mark++a.defers } w4/\Sk s (s'.setOb id none):=by
  intro p i hob;have hO:=z3.obs id _ L hob hγ';simp only[gL] at hO;obtain⟨rec',v1,_,_,v4⟩:=hO;have hst:rec'.state≠.busy/\rec'.pending=p.map Ac:=by
   cases p with
   | none=>exact⟨by rw[v4.1];simp,v4.2⟩
   | some e=>exact⟨by rw[v4.1];simp,v4.2⟩
  have F4:=Fm.setLp z3 (s1:=s) v1 (r':={ rec' with state:=.exhausted }) ⟨rfl,rfl,rfl,rfl⟩;have hlkO:sX.lkO=s.lkO:=by rw[hsX];rfl
  have hlkS:sX.lkS=s.lkS:=by rw[hsX];rfl
  have hnt:sX.nt=s.nt:=by rw[hsX];rfl
  refine⟨_,by rw[<-hst.2];exact run_endLoop v1 hst.1,(z3.setLp hγ' v1 _).act rfl,⟨z5.sub,λb o hb=>(F4.cell b o (z5.sub b o hb)).trans ((z5.cell b o hb).trans (hcell1 b o hb)),λ_ _=>rfl,λj hj b hb=>?_,zAa hsz1 (zAa z5.sz F4.sz),λj b hb=>z5.gam j b (fh hγid hb),?_,mark,rfl,?_,?_⟩,⟨z6.lkS.trans hlkS,z6.lkO.trans hlkO,z6.nt.trans hnt⟩⟩
  ·obtain⟨y1,y2⟩:=z5.objs j (by rw[hlkO];exact hj) b (fh hγid hb)
   obtain⟨_,y3⟩:=F4.objs j hj b y1;exact⟨y1,(jh.trans (.inl (hold1 b (h.γn j b hb).2)) y2).trans y3⟩
  ·exact(kept1.trans z5.dfs.1).trans F4.dfs.1
  ·exact e10.mono (zja _) (z5.dfs.1.trans F4.dfs.1) (zAa z5.sz F4.sz)
  ·intro hh;have:s.lkO.contains 4095=true:=by simpa using hh
   rw[this] at h4095;cases h4095
 simp only[rangePost];split at z2<;>first|(cases z2;done)|skip
 ·rename_i i hob;obtain⟨w4,y1,y2,y3,y4⟩:=fin none i hob;exact⟨_,w4,y1,hQ .normal _ S' γ' β' _ w4 y2 y3 y4 z2⟩
 ·rename_i i e hob;obtain⟨w4,y1,y2,y3,y4⟩:=fin (some e) i hob;refine⟨_,w4,y1,?_⟩;have hq:=hQ e _ S' γ' β' _ w4 y2 y3 y4 z2;cases e with
  | normal=>exact wpIn_skip hq
  | exit j=>exact wpIn_exit hq
  | ret=>exact wpIn_ret hq
end
end Sy
end
noncomputable section
namespace Sy
open Go
variable{ro:Option Nat}{nn:Nat}
section
variable{V:Nat->St->Option AV}{ops:Array Oper}{md:Region.Mode}
def q8(V:Nat->St->Option AV)(ops:Array Oper)(i:Nat)(K:St->Prop)(s:St):Prop:=
 match ops[i]? with
 | none=>K s
 | some o=>∃ v,V i s=some v/\K (s.put o.dst v)
def ov(V:Nat->St->Option AV)(md:Region.Mode)(ops:Array Oper)(n:Nat)(L:Array Bool->St->Prop):Nat->Array Bool->St->Prop
 | 0,listed,s=>L listed s
 | f+1,listed,s=>Region.ready md ops listed≠[]/\∀ i∈Region.ready md ops listed,i<n/\q8 V ops i (ov V md ops n L f (listed.setIfInBounds i true)) s
def ji(V:Nat->St->Option AV)(ops:Array Oper):Nat->Nat->St->Option St
 | 0,_,s=>some s
 | c+1,k,s=>(V k s).bind λv=>ji V ops c (k+1) (s.put ((ops[k]?).bind (·.dst)) v)
theorem zv:∀ (c d k:Nat) (s:St),ji V ops (c+d) k s=(ji V ops c k s).bind λs'=>ji V ops d (k+c) s'
 | 0,d,k,s=>by simp[ji]
 | c+1,d,k,s=>by
  rw[show c+1+d=(c+d)+1 by omega]
  simp only[ji];cases V k s with
  | none=>rfl
  | some v=>
   simp only[zba];rw[zv c d (k+1),show k+1+c=k+(c+1) by omega]
def OC(V:Nat->St->Option AV)(ops:Array Oper):Prop:=∀ i oi,ops[i]?=some oi->∀ (s:St) (d:Option Nat) (v:AV),(∀ t,d=some t->t ∉ oi.looksAt ops)->V i (s.put d v)=V i s
def yE{n i:Nat}{oi:Oper}{v:AV}{L:Array Bool->St->Prop}(hV:OC V ops)(hi:ops[i]?=some oi)(hW:ls md ops n)(hin:i<n)
  (hdone:∀ listed s,L listed s->∀ j∈Region.ready md ops listed,n<=j) :
  ∀ (f:Nat) (listed:Array Bool) (s:St),HeadInv md ops n listed ->
   (∀ j oj,ops[j]?=some oj->j≠i->listed.getD j true=false->(∀ e∈oj.after,Region.binds md e=true->e.on≠i)->oi.apart ops oj=true) ->
   i∈Region.ready md ops listed->V i s=some v ->
   ov V md ops n L f (listed.setIfInBounds i true) (s.put oi.dst v)->ov V md ops n L (f+1) listed s:=by
 intro f
 induction f with
 | zero=>
  intro listed s inv _ hr hy H;have hun:=(mem_ready.1 hr).1;refine⟨λh=>(by rw[h] at hr;cases hr),λj hj=>?_⟩
  have hjn:j<n:=by
   rcases zna j n with h|h
   ·exact h
   ·exact absurd hj (hW _ _ inv hin hun j h)
  refine⟨hjn,?_⟩;by_cases hji:j=i
  ·subst hji;unfold q8;rw[hi];exact⟨v,hy,H⟩
  ·have:=hdone _ _ H j (ready_mono hj hji);omega
 | succ f ih=>
  intro listed s inv hfree hr hy H;have hun:=(mem_ready.1 hr).1;refine⟨λh=>(by rw[h] at hr;cases hr),λj hj=>?_⟩
  have hjn:j<n:=by
   rcases zna j n with h|h
   ·exact h
   ·exact absurd hj (hW _ _ inv hin hun j h)
  refine⟨hjn,?_⟩;by_cases hji:j=i
  ·subst hji;unfold q8;rw[hi];exact⟨v,hy,H⟩
  ·have h1:=(H.2 j (ready_mono hj hji)).2;obtain⟨hjun,oj,hoj,hall⟩:=mem_ready.1 hj;have hnot:∀ e∈oj.after,Region.binds md e=true->e.on≠i:=λe he hb heq=>by
    have h1:=hall e he hb;rw[heq,getD_both hun] at h1;cases h1
   obtain⟨a1,a2,a3⟩:=Oper.apart_spec (hfree j oj hoj hji hjun hnot);unfold q8 at h1 ⊢;rw[hoj] at h1 ⊢;obtain⟨u,k1,k2⟩:=h1;rw[hV j oj hoj _ _ _ a1] at k1;refine⟨u,k1,ih (listed.setIfInBounds j true) (s.put oj.dst u) (inv.set hj hjn) (λk ok hk hki hun hno=>?_) (ready_mono hr (Ne.symm hji)) ?_ ?_⟩
   ·refine hfree k ok hk hki ?_ hno;by_cases hjk:j=k
    ·subst hjk;exact hjun
    ·rw[getD_set_ne true hjk] at hun;exact hun
   ·rw[hV i oi hi _ _ _ a3];exact hy
   ·rw[Array.setIfInBounds_comm _ _ hji,zi u v (λd hd he=>a2 d he hd)];exact k2
theorem pK{n g:Nat}{sF:St}(hV:OC V ops)(hn:n<=ops.size)(hW:ls md ops n) :
  ∀ (c k:Nat) (listed:Array Bool) (s:St),k+c=n->HeadInv md ops n listed->(∀ i,i<k->listed.getD i false=true) ->
  Region.lexHead md ops g c k listed=true->ji V ops c k s=some sF ->
  ov V md ops n (λlisted' s'=>Region.seqB md ops g n listed'=true/\(∀ i,i<n->listed'.getD i false=true)/\s'=sF) c listed s
 | 0,k,listed,s,hk,_,hl,hB,h=>by
  have:k=n:=by simpa using hk
  subst this;simp only[ji,zda] at h;exact⟨by simpa [Region.lexHead] using hB,hl,h⟩
 | c+1,k,listed,s,hk,inv,hl,hB,h=>by
  have hkn:k<n:=by omega
  have hks:k<ops.size:=by omega
  have h0:ops[k]?=some ops[k]:=zlb hks;simp only[Region.lexHead,zaa] at hB;obtain⟨⟨hr,hf⟩,hB'⟩:=hB;have hr':k∈Region.ready md ops listed:=by simpa using hr
  simp only[ji] at h;obtain⟨v,h1,h2⟩:=bind_some_inv h;rw[h0,zba] at h2;refine yE hV h0 hW hkn (λlisted' s' hL=>seqB_ready hL.1) c listed s inv (Region.free_spec h0 hf) hr' h1
   (pK hV hn hW c (k+1) _ _ (by omega) (inv.set hr' hkn) (λi hi=>?_) hB' h2)
  by_cases e:i=k
  ·subst e;have:i<listed.size:=by rw[inv.size];exact hks
   simp[this]
  ·exact getD_set_true (hl i (by omega))
theorem pJ{n:Nat}{L:Array Bool->St->Prop}{T:List Nat}:∀ (f:Nat) (listed:Array Bool) (s:St),ov V md ops n L f listed s ->
  (∀ t∈T,∀ j oj,ops[j]?=some oj->listed.getD j true=false->oj.dst≠some t)->∃ listed' s',L listed' s'/\(∀ t∈T,s'.tm t=s.tm t)/\s'.ob=s.ob/\Sm s s'
 | 0,listed,s,h,_=>⟨listed,s,h,λ_ _=>rfl,rfl,Sm.refl s⟩
 | f+1,listed,s,h,hT=>by
  obtain⟨h1,h2⟩:=h;obtain⟨i,hi⟩:=List.exists_mem_of_ne_nil _ h1;obtain⟨hin,hst⟩:=h2 i hi;obtain⟨hun,o,ho,_⟩:=mem_ready.1 hi;unfold q8 at hst;rw[ho] at hst;obtain⟨v,_,k2⟩:=hst;obtain⟨l',s',m1,m2,m3,m4⟩:=pJ f _ _ k2 (λt ht j oj hj hu=>by
   by_cases e:i=j
   ·subst e;exfalso;rcases zna i listed.size with hlt|hge
    ·simp[Array.getD,hlt] at hu
    ·simp[Array.getD,zzc.2 hge] at hu
   ·rw[getD_set_ne true e] at hu;exact hT t ht j oj hj hu)
  have p:=St.put_fields s o.dst v;exact⟨l',s',m1,λt ht=>(m2 t ht).trans (tH (hT t ht i o ho hun)),m3.trans p.1,(Sm.put s o.dst v).trans m4⟩
end
section
variable{E:Env}{ops:Array Oper}
def m9(E:Env)(ops:Array Oper)(n id i:Nat)(s:St):Option AV:=if i=n then some .undef else te E ops n id i s some
def vJ(s:St)(d:Option Nat)(v:AV)(id:Nat)(o:Option Ob):(s.put d v).setOb id o=(s.setOb id o).put d v:=by
 cases d with
 | none=>rfl
 | some d=>
  by_cases h:d<s.nt
  ·simp only[St.put,St.setOb,h,if_true]
  ·simp only[St.put,St.setOb,h,if_false]
def Fb(n id:Nat):OC (m9 E ops n id) ops:=by
 intro i oi hi s d v h;unfold m9;split
 ·rfl
 ·obtain⟨p1,p2,p3,p4,p5,p6,p7⟩:=St.put_fields s d v;obtain⟨q1,q2,q3,q4,q5,q6,q7⟩:=St.put_fields (s.setOb id none) d v;have e1:j7 (s.put d v) oi=j7 s oi:=by simp only[j7,p5]
  have hx:∀ x∈oi.op.operands,∀ t,d=some t->x≠.tmp t:=λx hx t ht e=>h t ht (by
   subst e;exact znb _ (z0c.2 ⟨.tmp t,by simpa using hx,rfl⟩))
  have e2:qv E (s.put d v) oi some=qv E s oi some:=lW p1 p2 λx hm=>mE (hx x hm);have e3:qv E ((s.put d v).setOb id none) oi some=qv E (s.setOb id none) oi some:=by
   rw[vJ];exact lW q1 q2 λx hm=>mE (hx x hm)
  unfold te;rw[hi];simp only[e1,e2,e3]
def yN{R:Type}{n id i:Nat}{s:St}{K:AV->Option R}{r:R}(h:te E ops n id i s K=some r):∃ v,te E ops n id i s some=some v/\K v=some r:=by
 unfold te at h ⊢;split at h<;>first|(cases h;done)|skip
 split at h<;>first|(cases h;done)|skip
 rename_i hlk;rw[if_neg hlk];split at h
 ·rename_i hw;rw[if_pos hw];exact ga h
 ·rename_i hw;rw[if_neg hw];split at h<;>first|(cases h;done)|skip
  rename_i hk;rw[if_pos hk];exact ga h
theorem BI{R:Type}{n id:Nat}{K:St->Option R}{r:R}:∀ (c k:Nat) (s:St),k+c<=n->KP E ops n id c k s K=some r->∃ s',ji (m9 E ops n id) ops c k s=some s'/\K s'=some r
 | 0,k,s,_,h=>⟨s,rfl,h⟩
 | c+1,k,s,hk,h=>by
  simp only[KP] at h;obtain⟨v,h1,h2⟩:=yN h;obtain⟨s',h3,h4⟩:=BI c (k+1) _ (by omega) h2
  refine⟨s',?_,h4⟩;simp only[ji,m9,if_neg (show ¬ k=n by omega),h1,zba]
  exact h3
mutual
theorem Gi(ob ob':Nat->Option Ob):∀ (t:Ty) (a:AV),AV.toD ob t a=AV.toD ob' t a
 | t,.st ts l=>by simp only[AV.toD,Cs ob ob' ts l]
 | t,.d _ _=>by cases t<;>simp only[AV.toD]
 | t,.own _ _ _=>by cases t<;>simp only[AV.toD]
 | t,.nils=>by cases t<;>simp only[AV.toD]
 | t,.ptr _ _ _=>by cases t<;>simp only[AV.toD]
 | t,.yld _=>by cases t<;>simp only[AV.toD]
 | t,.fptr _ _=>by cases t<;>simp only[AV.toD]
 | t,.mem _ _=>by cases t<;>simp only[AV.toD]
 | t,.clo _ _=>by cases t<;>simp only[AV.toD]
 | t,.map _ _ _=>by cases t<;>simp only[AV.toD]
 | t,.sub _ _ _ _ _ _=>by cases t<;>simp only[AV.toD]
 | t,.gone=>by cases t<;>simp only[AV.toD]
 | t,.undef=>by cases t<;>simp only[AV.toD]
theorem Cs(ob ob':Nat->Option Ob):∀ (ts:List Ty) (l:List AV),AV.toDl ob ts l=AV.toDl ob' ts l
 | [],[]=>rfl
 | [],_::_=>rfl
 | _::_,[]=>rfl
 | t::ts,a::l=>by simp only[AV.toDl,Gi ob ob' t a,Cs ob ob' ts l]
end
theorem vF{s s':St}(htm:s'.tm=s.tm)(ty:Nat->Option Ty):∀ l:List (Nat×Operand),partsD s'.ob s' ty l=partsD s.ob s ty l
 | []=>rfl
 | (i,x)::l=>by
  have e:s'.opA x=s.opA x:=by cases x<;>simp only[St.opA,htm]
  simp only[partsD,e,vF htm ty l];cases ty i with
  | none=>rfl
  | some t=>simp only[zba,Gi s'.ob s.ob t]
def C4{s s':St}{id:Nat}(htm:s'.tm=s.tm)(hfr:s'.fresh=s.fresh)(hob:∀ j,j≠id->s'.ob j=s.ob j)(hid:s.ob id=none){o:Oper}(hk:tc o=true){v:AV}(h:qv E s o some=some v):qv E s' o some=some v:=by
 have op:∀ x,s'.opA x=s.opA x:=λx=>by cases x<;>simp only[St.opA,htm]
 have obm:∀ {j:Nat} {ob:Ob},s.ob j=some ob->s'.ob j=some ob:=λ{j ob} hj=>by
  by_cases e:j=id
  ·subst e;rw[hid] at hj;cases hj
  ·rw[hob j e];exact hj
 obtain⟨dst,op',ty,pos,after,guard⟩:=o;cases op'<;>simp only[tc] at hk<;>first|(cases hk;done)|skip
 case build T ps=>
  simp only[qv] at h ⊢;obtain⟨t,ht,h2⟩:=bind_some_inv h;rw[ht,zba];have e2:∀ ts,ps.toList.all (fT s' ts)=ps.toList.all (fT s ts):=λts=>by
   congr 1;funext p;simp only[fT,op]
  have e3:(ps.toList.map λp=>(p.1,s'.opA p.2))=ps.toList.map λp=>(p.1,s.opA p.2):=by simp only[op]
  cases t<;>simp only[vF htm,e2,e3]<;>exact h2
 case load T a=>
  simp only[qv] at h ⊢;obtain⟨t,ht,h2⟩:=bind_some_inv h;rw[ht,zba,op];cases hs:s.opA a<;>rw[hs] at h2<;>simp only at h2 ⊢<;>first|(cases h2;done)|exact h2|skip
  ·split at h2<;>first|(cases h2;done)|skip
   rename_i hc;rw[if_pos hc];obtain⟨ob,h3,h4⟩:=bind_some_inv h2;rw[obm h3];exact h4
  ·split at h2<;>first|(cases h2;done)|skip
   rename_i hc;rw[if_pos hc];obtain⟨ob,h3,h4⟩:=bind_some_inv h2;rw[obm h3];exact h4
 case fieldAddr T x f=>
  simp only[qv,op] at h ⊢;exact h
 case extract x i=>
  simp only[qv,op] at h ⊢;exact h
 case move x=>
  simp only[qv,op] at h ⊢;exact h
 case alloc T=>
  simp only[qv,St.base,hfr] at h ⊢;exact h
end
section
variable{P:Program}{E:Env}{w0:Root}{ops:Array Oper}
def pb(n id:Nat)(ob1:Ob)(listed:Array Bool)(s:St):St:=if listed.getD n false then s.setOb id (some ob1) else s
theorem Sm.setOb(s:St)(id:Nat)(o:Option Ob):Sm s (s.setOb id o):=⟨rfl,rfl,rfl,rfl⟩
theorem kT(hE:EnvOk P E){n g id T p x:Nat}{u t t':Ty}{v0 v1:AV}{ostore:Oper}{L:Array Bool->St->Prop}{Q:Exit->Act->World->Prop}{s0:St}{S0:Nat->Nat->Prop}{γ0:Nat->Option Nat}{a0:Act}{w1:World}
  (hn:ops[n]?=some ostore) (hop:ostore.op=.store T (.tmp p) (.tmp x)) (hdst:ostore.dst=none) (hgd:ostore.guard=none)
  (hp:∀ (j:Nat) (oj:Oper),ops[j]?=some oj->oj.dst=some p->Region.waitsFor .any ops n j=true) (hx:∀ (j:Nat) (oj:Oper),ops[j]?=some oj->oj.dst=some x->Region.waitsFor .any ops n j=true)
  (hheads:∀ (j:Nat) (oj:Oper),j<n->ops[j]?=some oj->oj.guard=none)
  (hT:E.L T=some t) (htt:t.beq t'=true) (hf1:AV.fits t v1=true) (hlk:s0.lkO.contains id=false) (hob0:s0.ob id=some (.one u v0))
  (hd:∀ (i j:Nat) (oi oj:Oper),i≠j->ops[i]?=some oi->ops[j]?=some oj->∀ d,oj.dst=some d->oi.dst≠some d)
  (hLs:∀ listed s,L listed s->s.tm p=.ptr t' id []/\s.tm x=v1/\listed.getD n false=true)
  (hL:∀ listed s S γ β a w,Rp w0 S γ β (s.setOb id (some (.one u v1))) a w->Fm s0 S0 γ0 a0 w1 S γ a w->Sm s0 s->(∀ j oj,ops[j]?=some oj->listed.getD j true=false->Fr E (s.setOb id (some (.one u v1))) γ β oj)->L listed s->wpAnyIn (FW ro) nn P .any ops Q g listed a w) :
  ∀ (f:Nat) (listed:Array Bool) (s:St) (S:Nat->Nat->Prop) (γ:Nat->Option Nat) (β:Nat->Option (Nat×Nat)) (a:Act) (w:World),Rp w0 S γ β (pb n id (.one u v1) listed s) a w->Fm s0 S0 γ0 a0 w1 S γ a w->Sm s0 s->s.ob=s0.ob ->
   (listed.getD n false=true->∀ j,Region.waitsFor .any ops n j=true->listed.getD j false=true) ->
   (∀ j oj,ops[j]?=some oj->listed.getD j true=false->Fr E (pb n id (.one u v1) listed s) γ β oj)->ov (m9 E ops n id) .any ops (n+1) L f listed s->wpAnyIn (FW ro) nn P .any ops Q (f+g) listed a w
 | 0,listed,s,S,γ,β,a,w,h,hF,hS,hob,hcl,hfr,hh=>by
  rw[z9a];have hh':L listed s:=hh;have e:pb n id (.one u v1) listed s=s.setOb id (some (.one u v1)):=by unfold pb;rw[if_pos (hLs _ _ hh').2.2]
  rw[e] at h;exact hL _ _ _ _ _ _ _ h hF hS (λj oj hj hu=>e ▸ hfr j oj hj hu) hh'
 | f+1,listed,s,S,γ,β,a,w,h,hF,hS,hob,hcl,hfr,hh=>by
  rw[show f+1+g=(f+g)+1 by omega]
  refine⟨λh0=>absurd h0 hh.1,λi hi=>?_⟩;obtain⟨hin,hst⟩:=hh.2 i hi;have hun:=(mem_ready.1 hi).1;have unl:∀ j,(listed.setIfInBounds i true).getD j true=false->i≠j/\listed.getD j true=false:=λj hu=>by
   by_cases hij:i=j
   ·subst hij;exfalso;rcases zna i listed.size with hlt|hge
    ·simp[Array.getD,hlt] at hu
    ·simp[Array.getD,zzc.2 hge] at hu
   ·rw[getD_set_ne true hij] at hu;exact⟨hij,hu⟩
  by_cases hni:i=n
  ·
   subst hni;have hlf:=getD_both hun;have hsz:i<listed.size:=by
    rcases zna i listed.size with hlt|hge
    ·exact hlt
    ·simp[Array.getD,zzc.2 hge] at hun
   have e0:pb i id (.one u v1) listed s=s:=by unfold pb;rw[hlf];rfl
   rw[e0] at h;unfold q8 at hst;rw[hn] at hst;simp only at hst;obtain⟨v,hv,hst⟩:=hst;rw[hdst] at hst;have hst:ov (m9 E ops i id) .any ops (i+1) L f (listed.setIfInBounds i true) s:=hst;obtain⟨_,o',ho',hall⟩:=mem_ready.1 hi;rw[hn] at ho';cases ho';obtain⟨l',s',m1,m2,m3,m4⟩:=pJ (T:=[p,x]) f _ _ hst (λt ht j oj hj hu=>by
    simp only[zCa,zxc,or_false] at ht;intro hdj;have hw:Region.waitsFor .any ops i j=true:=by
     rcases ht with rfl|rfl
     ·exact hp j oj hj hdj
     ·exact hx j oj hj hdj
    obtain⟨ow,how,e,he,hb,hon⟩:=Region.waitsFor_spec hw;rw[hn] at how;cases how;have h1:=hall e he hb;rw[hon] at h1;obtain⟨_,hu'⟩:=unl j hu;rw[getD_both hu'] at h1;cases h1)
   obtain⟨z1,z2,z3⟩:=hLs _ _ m1;rw[m2 p (by simp)] at z1
   rw[m2 x (by simp)] at z2
   have hobs:s.ob id=some (.one u v0):=by rw[hob];exact hob0
   have hlks:s.lkO.contains id=false:=by rw[hS.lkO];exact hlk
   have hev:qt E s ostore some=some (s.setOb id (some (.one u v1))):=by
    unfold qt;rw[hop];simp only[hT,zba,St.opA,z1,z2,htt,hf1,hlks,hobs,zSb,Bool.and_true,if_true,A1]
   obtain⟨s1,k1,k2⟩:=wD hE h (e0 ▸ hfr i ostore hn hun) (λT t _ ht=>hE.flat T t ht) (λt _=>by rw[hdst];simp) (λ_ _ _ _=>hdst) hev
   cases k1;obtain⟨r1,r2,r3,r4,r5,r6⟩:=k2;unfold wpOpIn;rw[hn];simp only;rw[if_pos (by simp[Region.wanted,hgd])]
   refine(bg r6 λval w' ⟨S',γ',β',m1,m2,m3⟩=>?_);have el:pb i id (.one u v1) (listed.setIfInBounds i true) s=s.setOb id (some (.one u v1)):=by
    unfold pb;rw[if_pos (by simp[hsz])]
   refine kT hE hn hop hdst hgd hp hx hheads hT htt hf1 hlk hob0 hd hLs hL f _ s S' γ' β' _ _ (by rw[el];exact m1) (hF.trans m2 hS.lkS hS.lkO) hS hob (λ_ j hw=>?_) (λj oj hj hu=>?_) hst
   ·obtain⟨ow,how,e,he,hb,hon⟩:=Region.waitsFor_spec hw;rw[hn] at how;cases how;have h1:=hall e he hb;rw[hon] at h1;exact getD_set_true h1
   ·rw[el];obtain⟨_,hu'⟩:=unl j hu;exact(e0 ▸ hfr j oj hj hu':Fr E s γ β oj).keep (λd _=>by rw[hdst];simp) rfl (λid' h1 h2=>r5 id' h1 h2) m3
  ·
   have hilt:i<n:=by omega
   obtain⟨_,o,ho,hall⟩:=mem_ready.1 hi;unfold q8 at hst;rw[ho] at hst;simp only at hst;obtain⟨v,hv,hst⟩:=hst;unfold m9 at hv;rw[if_neg hni] at hv;unfold te at hv;rw[ho] at hv;simp only at hv;split at hv<;>first|(cases hv;done)|skip
   rename_i hlko;have hog:=hheads i o hilt ho;have hlkl:j7 (pb n id (.one u v1) listed s) o=j7 s o:=by unfold pb;split<;>rfl
   have hval:val E ops (pb n id (.one u v1) listed s) o=some v:=by
    unfold val;rw[hlkl,if_neg hlko,hog];simp only;split at hv
    ·rename_i hw;have:listed.getD n false=false:=by
      cases hln:listed.getD n false with
      | false=>rfl
      | true=>
       have:=hcl hln i hw;rw[getD_both hun] at this;cases this
     have e:pb n id (.one u v1) listed s=s:=by unfold pb;rw[this];rfl
     rw[e];exact hv
    ·split at hv<;>first|(cases hv;done)|skip
     rename_i hk;refine C4 (s:=s.setOb id none) (id:=id) ?_ ?_ (λj hj=>?_) ?_ hk hv
     ·unfold pb;split<;>rfl
     ·unfold pb;split<;>rfl
     ·unfold pb;split<;>simp[St.setOb,hj]
     ·simp[St.setOb]
   have el:(pb n id (.one u v1) listed s).put o.dst v=pb n id (.one u v1) (listed.setIfInBounds i true) (s.put o.dst v):=by
    unfold pb;rw[getD_set_ne false hni];split
    ·rw[vJ]
    ·rfl
   obtain⟨k1,k2⟩:=xD hE h (hfr i o ho hun) hval;have pf:=St.put_fields s o.dst v;have smL:Sm s0 (pb n id (.one u v1) listed s):=by
    unfold pb;split
    ·exact hS.trans (Sm.setOb s id _)
    ·exact hS
   have pl:=St.put_fields (pb n id (.one u v1) listed s) o.dst v;have frn:∀ {γ':Nat->Option Nat} {β':Nat->Option (Nat×Nat)},(∀ id':Nat,o.dst≠some (id'-(pb n id (.one u v1) listed s).base)\/id'<(pb n id (.one u v1) listed s).base->γ' id'=γ id'/\β' id'=β id')->∀ j oj,ops[j]?=some oj->(listed.setIfInBounds i true).getD j true=false->Fr E (pb n id (.one u v1) (listed.setIfInBounds i true) (s.put o.dst v)) γ' β' oj:=λhk j oj hj hu=>by
    obtain⟨hij,hu'⟩:=unl j hu;rw[<-el];exact(hfr j oj hj hu').keep (λd hdj=>hd i j o oj hij ho hj d hdj) pl.2.1 (λid' _ _=>by rw[pl.1]) hk
   have hcl':(listed.setIfInBounds i true).getD n false=true->∀ j,Region.waitsFor .any ops n j=true->(listed.setIfInBounds i true).getD j false=true:=λh1 j hw=>by
    rw[getD_set_ne false hni] at h1;exact getD_set_true (hcl h1 j hw)
   unfold wpOpIn;rw[ho];simp only;split
   ·rename_i hw;refine(bg (k1 hw) λu' w' ⟨S',γ',β',m1,m2,m3⟩=>?_);exact kT hE hn hop hdst hgd hp hx hheads hT htt hf1 hlk hob0 hd hLs hL f _ _ S' γ' β' _ _ (el ▸ m1) (hF.trans m2 smL.lkS smL.lkO) (hS.trans (Sm.put s o.dst v)) (pf.1.trans hob) hcl' (frn m3) hst
   ·rename_i hw;obtain⟨m1,m2⟩:=k2 (by simpa using hw)
    refine⟨λ_ _=>trivial,?_⟩;exact kT hE hn hop hdst hgd hp hx hheads hT htt hf1 hlk hob0 hd hLs hL f _ _ S γ β _ _ (el ▸ m1) (hF.trans m2 smL.lkS smL.lkO) (hS.trans (Sm.put s o.dst v)) (pf.1.trans hob) hcl' (frn λid _=>⟨rfl,rfl⟩) hst
def tI(hE:EnvOk P E){id:Nat}{n:Nat}{Q:Exit->Act->World->Prop}{S:Nat->Nat->Prop}{γ:Nat->Option Nat}{β:Nat->Option (Nat×Nat)}{s:St}{a:Act}{w:World}{R:Type}{k:St->Option R}{r:R}{N:Nat}
  (h:Rp w0 S γ β s a w) (hf:CA E s γ β ops.toList) (hm:bP ops.toList=true) (hlt:td ops n=true) {an:Ann}
  (hev:KP E ops n (kD ops n s) n 0 s (λs2=>if tb ops n s2=some (kD ops n s) then eN E N R ops an ((aQ 0 ops.toList).drop n) s2 k else none)=some r)
  (hQ:∀ s' S' γ' β' a' w',Rp w0 S' γ' β' s' a' w'->Fm s S γ a w S' γ' a' w'->Sk s s'->k s'=some r->Q .normal a' w'):(Code.region id ops true).wpIn (FW ro) nn P Q a w:=by
 simp only[bP,zaa] at hm;obtain⟨⟨hm1,hm2⟩,hm3⟩:=hm;have hstores:(ops.toList.all λo=>match o.op with|.store ..=>o.dst.isNone|_=>true)=true:=hm3
 unfold td at hlt;split at hlt<;>first|(cases hlt;done)|skip
 rename_i ostore hn;split at hlt<;>first|(cases hlt;done)|skip
 rename_i T p x hop;obtain⟨ido,hid⟩:∃ ido,kD ops n s=ido:=⟨_,rfl⟩;rw[hid] at hev;simp only[zaa] at hlt;obtain⟨⟨⟨⟨⟨l2,l3⟩,l4⟩,l5⟩,l6⟩,l7⟩:=hlt;have hns:n<ops.size:=(zfa.1 hn).1;have hnm:ostore∈ops.toList:=zNb.2 (z6b hn);have hdst:ostore.dst=none:=by
  have:=zpa.1 hm3 ostore hnm;rw[hop] at this;simpa using this
 have hpx:∀ (j:Nat) (oj:Oper),ops[j]?=some oj->(oj.dst=some p\/oj.dst=some x)->Region.waitsFor .any ops n j=true:=λj oj hj e=>by
  have hjlt:=(zfa.1 hj).1;have:=zpa.1 l2 j (zJa.2 hjlt);rw[hj,zba] at this;rcases e with e|e<;>(rw[e] at this;simpa using this)
 have hp:∀ (j:Nat) (oj:Oper),ops[j]?=some oj->oj.dst=some p->Region.waitsFor .any ops n j=true:=λj oj hj e=>hpx j oj hj (.inl e);have hx:∀ (j:Nat) (oj:Oper),ops[j]?=some oj->oj.dst=some x->Region.waitsFor .any ops n j=true:=λj oj hj e=>hpx j oj hj (.inr e);have hheads:∀ (j:Nat) (oj:Oper),j<n->ops[j]?=some oj->oj.guard=none:=λj oj hjn hj=>by
  have hm':oj∈ops.toList.take n:=by
   refine z8a (i:=j) ?_;rw[zvb hjn,zya];exact hj
  have:=zpa.1 l3 oj hm';simp only[zaa] at this;simpa using this.2
 have htails:∀ o∈ops.toList.drop n,o.guard=none:=λo ho=>by
  have:=zpa.1 l4 o ho;simp only[zaa] at this;simpa using this.1
 have hdrop:ops.toList.drop n=ostore::ops.toList.drop (n+1):=by
  have h1:n<ops.toList.length:=by simpa using hns
  rw[zkb h1];have:ops.toList[n]=ostore:=by
   have:=(zfa.1 hn).2;simpa using this
  rw[this]
 have hgd:ostore.guard=none:=htails ostore (by rw[hdrop];simp)
 obtain⟨s',q1,q2⟩:=BI n 0 s (by omega) hev
 split at q2<;>first|(cases q2;done)|skip
 rename_i hat;obtain⟨t0,hptr⟩:∃ t0,s'.tm p=.ptr t0 ido []:=by
  unfold tb at hat;simp only[hn,hop] at hat;split at hat<;>first|(cases hat;done)|skip
  rename_i t0 id0 hpe;cases hat;exact⟨t0,hpe⟩
 have hnum:(aQ 0 ops.toList).drop n=(n,ostore)::(aQ 0 ops.toList).drop (n+1):=by
  have h1:n<(aQ 0 ops.toList).length:=by rw[gI];simpa using hns
  rw[zkb h1];have key:∀ (l:List Oper) (i j:Nat) (o:Oper),l[j]?=some o->(aQ i l)[j]?=some (i+j,o):=by
   intro l
   induction l with
   | nil=>intro i j o hj;simp at hj
   | cons y l ih=>
    intro i j o hj;cases j with
    | zero=>simp at hj;subst hj;simp[aQ]
    | succ j=>simp only[z7a] at hj;simp only[aQ,z7a];rw[ih (i+1) j o hj];congr 2;omega
  have:=key ops.toList 0 n ostore (by rw[zya];exact hn)
  rw[zca h1,z9a] at this;rw[Option.some.inj this]
 rw[hnum] at q2;obtain⟨N',hN⟩:∃ N',N=N'+1:=by
  cases N with
  | zero=>simp[eN] at q2
  | succ N'=>exact⟨N',rfl⟩
 subst hN;have hseg:qd n ((aQ 0 ops.toList).drop (n+1))=false:=by
  unfold qd;split
  ·rename_i p' l' hl;have hmem:p'.2∈ops.toList.drop n:=by
    have h1:p'∈(aQ 0 ops.toList).drop n:=by rw[hnum,hl];simp
    have:p'.2∈((aQ 0 ops.toList).drop n).map Prod.snd:=zec h1
    rwa [z9b,aY] at this
   unfold u5;rw[htails _ hmem]
  ·rfl
 have hinl:jY E ostore=false:=by unfold jY;rw[hop]
 have hnx:rK E ostore an=an:=by simp[rK,hinl]
 have hev1:∀ (l:List (Nat×Oper)) (s:St) (K:St->Option R),Aj E an l s ostore K=qt E s ostore K:=λl s K=>by simp[Aj,hinl]
 have hsg:∀ s,me E s n ostore ((aQ 0 ops.toList).drop (n+1))=false:=λs=>by simp[me,hseg]
 simp only[eN,hgd,hsg,hnx,hev1,zza,if_false] at q2;have hlkn:j7 s' ostore=false:=by unfold j7;rw[hdst]
 rw[if_neg (by rw[hlkn];simp)] at q2
 unfold qt at q2;rw[hop] at q2;simp only at q2;have keep:∀ (c kk:Nat) (s s':St),ji (m9 E ops n ido) ops c kk s=some s'->s'.ob=s.ob/\Sm s s':=by
  intro c
  induction c with
  | zero=>intro kk s s' hs;simp only[ji,zda] at hs;subst hs;exact⟨rfl,Sm.refl s⟩
  | succ c ih=>
   intro kk s s' hs;simp only[ji] at hs;obtain⟨v,h1,h2⟩:=bind_some_inv hs;obtain⟨m2,m3⟩:=ih _ _ _ h2;have pf:=St.put_fields s ((ops[kk]?).bind (·.dst)) v;exact⟨m2.trans pf.1,(Sm.put s _ v).trans m3⟩
 obtain⟨c2,c3⟩:=keep n 0 s s' q1;obtain⟨t,hT,q3⟩:=bind_some_inv q2;rw[show s'.opA (.tmp p)=.ptr t0 ido [] from hptr] at q3;simp only at q3;split at q3<;>first|(cases q3;done)|skip
 rename_i hcond;simp only[zaa,zLa] at hcond;obtain⟨⟨d1,d2⟩,d3⟩:=hcond;split at q3<;>first|(cases q3;done)|skip
 ·rename_i u v0 hobs;obtain⟨v1,hv1⟩:∃ v1,s'.opA (.tmp x)=v1:=⟨_,rfl⟩;rw[hv1] at q3 d2;have q4:eN E N' R ops an ((aQ 0 ops.toList).drop (n+1)) (s'.setOb ido (some (.one u v1))) k=some r:=by
   cases v0<;>simpa only[A1] using q3
  clear q3 q2;have hW:ls .any ops (n+1):=by
   intro listed i inv hin hun t ht hr;simp only[zHb,decide_eq_true_eq,zaa] at l7;rcases l7 with l7|⟨⟨l7,l8⟩,l9⟩
   ·obtain⟨_,o,ho,_⟩:=mem_ready.1 hr;have:=(zfa.1 ho).1;omega
   ·exact tail_waits l8 l9 l7 inv _ i rfl hin hun t ht hr
  refine wpIn_region_any hE.mixed ?_;have hg:∃ os d,w.drawn<=d/\({ w with drawn:=w.drawn+1 }:World)=grown w os d:=⟨[],w.drawn+1,ztc _,by simp[grown]⟩
  obtain⟨os,d,hdr,hg⟩:=hg;obtain⟨g1,g2⟩:=h.grow (os:=os) (d:=d) hdr (S':=S) (λ_ _ hb=>hb) (λ_ _ hb=>.inl hb);rw[hg];have inv0:HeadInv .any ops (n+1) (Array.replicate ops.size false):=
   ⟨by simp,λj oj _ hl=>(by rw[getD_replicate_false] at hl;cases hl),λt _ ht=>getD_in (by simpa using ht) (getD_replicate_false _ _)⟩
  have hseq:ji (m9 E ops n ido) ops (n+1) 0 s=some s':=by
   rw[zv n 1 0,q1,zba];simp only[ji,m9,z9a,if_true,zba,hn,hdst];rfl
  have H:=pK (sF:=s') (Fb (E:=E) (ops:=ops) n ido) (by omega) hW (n+1) 0 (Array.replicate ops.size false) s (by omega) inv0 (λi hi=>by omega) l6 hseq
  have e0:pb n ido (.one u v1) (Array.replicate ops.size false) s=s:=by unfold pb;rw[getD_replicate_false];rfl
  have hdl:(ops.toList.drop (n+1)).length=ops.size-(n+1):=by simp
  have hsub0:∀ j oj,ops[j]?=some oj->(Array.replicate ops.size false).getD j true=false->Fr E (pb n ido (.one u v1) (Array.replicate ops.size false) s) γ β oj:=λj oj hj _=>by
   rw[e0];exact hf oj (zNb.2 (z6b hj))
  have:=kT (ro:=ro) (nn:=nn) (w0:=w0) (Q:=Q) (g:=ops.size-(n+1)) (s0:=s) (S0:=S) (γ0:=γ) (a0:=a) (w1:=grown w os d) hE hn hop hdst hgd hp hx hheads hT d1 d2 (by rw[<-c3.lkO];exact d3) (by rw[<-c2];exact hobs) (λi j oi oj hij hi hj d hd=>gO hm1 hij (by rw[zya];exact hi) (by rw[zya];exact hj) d hd)
   (λlisted s2 hL=>by
    obtain⟨_,hl,rfl⟩:=hL;exact⟨hptr,hv1,hl n (by omega)⟩)
   (λlisted s2 S2 γ2 β2 a2 w2 m1 m2 m3 m4 m5=>by
    obtain⟨m5,m6,m7⟩:=m5;subst m7;have hseq:=gb (F:=FW ro) (n:=nn) (P:=P) (md:=.any) (ops:=ops) (Q':=Q) (ops.toList.drop (n+1)) (n+1) listed a2 w2 (λj=>by rw[zgb,zya]) (by rw[hdl];exact m5) ?_
    ·rwa [hdl] at hseq
    have hunl:∀ j oj,ops[j]?=some oj->n+1<=j->listed.getD j true=false:=by
     intro j oj hj hnj;have key:∀ (g k:Nat) (listed:Array Bool),Region.seqB .any ops g k listed=true->∀ j,k<=j->j<k+g->listed.getD j true=false:=by
      intro g
      induction g with
      | zero=>intro k listed _ j h1 h2;omega
      | succ g ih=>
       intro k listed hB j h1 h2;simp only[Region.seqB,zaa,decide_eq_true_eq] at hB;by_cases hjk:j=k
       ·subst hjk;have:j∈Region.ready .any ops listed:=by rw[hB.1];simp
        exact(mem_ready.1 this).1
       ·have:=ih (k+1) _ hB.2 j (by omega) (by omega)
        rwa [getD_set_ne true (Ne.symm hjk)] at this
     have hjlt:=(zfa.1 hj).1;exact key _ _ _ m5 j hnj (by omega)
    have fin:=sJ (ro:=ro) (nn:=nn) (ops:=ops) hE (Q:=Q) hstores N' R ((aQ 0 ops.toList).drop (n+1)) k r an m1 (by
      rw[z9b,aY];intro o ho;obtain⟨i,hi,he⟩:=zTa ho;have hi2:ops[n+1+i]?=some o:=by
       have:(ops.toList.drop (n+1))[i]?=some o:=by rw[zca hi,he]
       rwa [zgb,zya] at this
      exact m4 (n+1+i) o hi2 (hunl _ _ hi2 (by omega)))
     (by
      rw[z9b,aY];intro A B o o' e ho d hd;exact eG hm1 (ops.toList.take (n+1)++A) B o o' (by rw[zOa,<-e,zoa]) ho d hd)
     (λp hp=>iS (zMb hp)) q4 (λs3 S3 γ3 β3 a3 w3 n1 n2 n3 n4=>by
      refine hQ s3 S3 γ3 β3 a3 w3 n1 ?_ (Sk.trans (m3.trans (Sm.setOb _ ido (some (.one u v1)))).sk n3) n4;have f0:Fm s S γ a w S γ a (grown w os d):=⟨λ_ _ hb=>hb,g2.cell,λ_ _=>rfl,λid hid b hb=>⟨hb,.inl (cJ (h.γn id b hb).2)⟩,by simp,λ_ _ hb=>hb,ku.same rfl cY.grown⟩
      exact(f0.trans m2 rfl rfl).trans n2 (show _=_ from m3.lkS) (show _=_ from m3.lkO))
    rwa [z9b,aY] at fin)
   (n+1) (Array.replicate ops.size false) s S γ β a (grown w os d) (by rw[e0];exact g1) (Fm.refl _ _ _ _ _) (Sm.refl s) rfl (λhl=>by rw[getD_replicate_false] at hl;cases hl) hsub0 H
  rw[show n+1+(ops.size-(n+1))=ops.size by omega] at this
  exact this
end
end Sy
end
noncomputable section
namespace Sy
open Go
variable{ro:Option Nat}{nn:Nat}
section
variable{E:Env}{ops:Array Oper}
def zK(E:Env)(ops:Array Oper)(m i:Nat)(s:St):Option AV:=match ops[i]? with
 | none=>none
 | some o=>if j7 s o then none else if i=m then(nU E s o).map Prod.fst else qv E s o some
def zX{s s':St}{o:Oper}(hob:s'.ob=s.ob)(hf:s'.fresh=s.fresh)(hd:s'.dead=s.dead)(h:∀ x∈o.op.operands,s'.opA x=s.opA x):nU E s' o=nU E s o:=by
 unfold nU xS;obtain⟨dst,op,ty,pos,after,guard⟩:=o;cases op<;>try rfl
 rename_i c;obtain⟨callee,args,argTypes⟩:=c;cases callee<;>try rfl
 rename_i b;cases b<;>try rfl
 simp only;cases hT:argTypes[0]? with
 | none=>rfl
 | some T=>
 simp only[zba];cases hL:E.L T with
 | none=>rfl
 | some t=>
 simp only[zba];cases dst with
 | none=>rfl
 | some d=>
 simp only[zba];split
 ·rename_i e x y T0 T' hargs htys;have hx:s'.opA x=s.opA x:=h x (by
   show x∈(Op.call ⟨.builtin .append,args,argTypes⟩).operands;have e:(Op.call ⟨.builtin .append,args,argTypes⟩).operands=args:=by first|rfl|simp[Op.operands,Call.operands]
   rw[e,<-zNb,hargs];simp)
  have hy:s'.opA y=s.opA y:=h y (by
   show y∈(Op.call ⟨.builtin .append,args,argTypes⟩).operands;have e:(Op.call ⟨.builtin .append,args,argTypes⟩).operands=args:=by first|rfl|simp[Op.operands,Call.operands]
   rw[e,<-zNb,hargs];simp)
  have hb:s'.base=s.base:=by unfold St.base;rw[hf]
  rw[hx,hy,hob,hd,hb]
 ·rfl
def JB(m:Nat):OC (zK E ops m) ops:=by
 intro i oi hi s d v h;obtain⟨p1,p2,p3,p4,p5,p6,p7⟩:=St.put_fields s d v;have e1:j7 (s.put d v) oi=j7 s oi:=by simp only[j7,p5]
 have hx:∀ x∈oi.op.operands,∀ t,d=some t->x≠.tmp t:=λx hx t ht e=>h t ht (by
  subst e;exact znb _ (z0c.2 ⟨.tmp t,by simpa using hx,rfl⟩))
 have e2:qv E (s.put d v) oi some=qv E s oi some:=lW p1 p2 λx hm=>mE (hx x hm);have e3:nU E (s.put d v) oi=nU E s oi:=zX p1 p2 p3 λx hm=>mE (hx x hm);unfold zK;rw[hi];simp only[e1,e2,e3]
def zW{R:Type}{s:St}{o:Oper}{K:AV×List Nat->Option R}{r:R}(h:xS E s o K=some r):∃ v,nU E s o=some v/\K v=some r:=by
 unfold xS at h;obtain⟨dst,op,ty,pos,after,guard⟩:=o;cases op<;>first|(cases h;done)|skip
 rename_i c;obtain⟨callee,args,argTypes⟩:=c;cases callee<;>first|(cases h;done)|skip
 rename_i b;cases b<;>first|(cases h;done)|skip
 simp only at h;replace h:=bind_some_inv h;obtain⟨T,hT,h⟩:=h;replace h:=bind_some_inv h;obtain⟨t,ht,h⟩:=h;replace h:=bind_some_inv h;obtain⟨d,hd,h⟩:=h;split at h<;>first|(cases h;done)|skip
 rename_i e x y T0 T' hargs htys;split at h<;>first|(cases h;done)|skip
 rename_i e2 ht2;replace h:=bind_some_inv h;obtain⟨l',hl',h⟩:=h;unfold nU xS;simp only[hT,ht,hd,hargs,htys,ht2,hl',zba];split at h<;>first|(cases h;done)|skip
 ·rename_i e' v0 l hx;split at h<;>first|(cases h;done)|skip
  rename_i hc;split at h<;>first|(cases h;done)|skip
  rename_i hlen;exact⟨_,by simp only[hx,hc,hlen,if_true],h⟩
 ·rename_i hx;split at h<;>first|(cases h;done)|skip
  rename_i hlen;exact⟨_,by simp only[hx,hlen,if_true],h⟩
def IG{R:Type}{s:St}{o:Oper}{v:AV}{D:List Nat}(h:nU E s o=some (v,D))(K:St->Option R):qt E s o K=K (({ s with dead:=D }:St).put o.dst v):=by
 unfold nU xS at h;obtain⟨dst,op,ty,pos,after,guard⟩:=o;cases op<;>first|(cases h;done)|skip
 rename_i c;obtain⟨callee,args,argTypes⟩:=c;cases callee<;>first|(cases h;done)|skip
 rename_i b;cases b<;>first|(cases h;done)|skip
 simp only at h;replace h:=bind_some_inv h;obtain⟨T,hT,h⟩:=h;replace h:=bind_some_inv h;obtain⟨t,ht,h⟩:=h;replace h:=bind_some_inv h;obtain⟨d,hd,h⟩:=h;split at h<;>first|(cases h;done)|skip
 rename_i e x y T0 T' hargs htys;split at h<;>first|(cases h;done)|skip
 rename_i e2 ht2;replace h:=bind_some_inv h;obtain⟨l',hl',h⟩:=h;unfold qt;simp only[hT,ht,hd,hargs,htys,ht2,hl',zba];split at h<;>first|(cases h;done)|skip
 ·rename_i e' v0 l hx;split at h<;>first|(cases h;done)|skip
  rename_i hc;split at h<;>first|(cases h;done)|skip
  rename_i hlen;cases h;simp only[hx,hc,hlen,if_true]
 ·rename_i hx;split at h<;>first|(cases h;done)|skip
  rename_i hlen;cases h;simp only[hx,hlen,if_true]
def CC{s:St}{dst:Option Nat}{args:Array Operand}{argTypes:Array TypeId}{ty:TypeId}{pos:String}{after:Array Edge}{guard:Option (Nat×Bool)}{v:AV}{D:List Nat}{p:Nat}{y:Operand}(h:nU E s ⟨dst,.call ⟨.builtin .append,args,argTypes⟩,ty,pos,after,guard⟩=some (v,D))(hargs:args.toList=[.tmp p,y]):D=lQ s p:=by
 unfold nU xS at h;simp only at h;replace h:=bind_some_inv h;obtain⟨T,hT,h⟩:=h;replace h:=bind_some_inv h;obtain⟨t,ht,h⟩:=h;replace h:=bind_some_inv h;obtain⟨d,hd,h⟩:=h;split at h<;>first|(cases h;done)|skip
 rename_i e x y' T0 T' hargs' htys;rw[hargs] at hargs';cases hargs';split at h<;>first|(cases h;done)|skip
 replace h:=bind_some_inv h;obtain⟨l',hl',h⟩:=h;have ho:s.opA (.tmp p)=s.tm p:=rfl;unfold lQ;rw[ho] at h;split at h<;>first|(cases h;done)|skip
 ·rename_i hx;rw[hx];split at h<;>first|(cases h;done)|skip
  split at h<;>first|(cases h;done)|skip
  cases h;rfl
 ·rename_i hx;rw[hx];split at h<;>first|(cases h;done)|skip
  cases h;rfl
theorem wF{R:Type}{m:Nat}{K:St->Option R}{r:R}:∀ (c k:Nat) (s:St),JR E ops m c k s K=some r->∃ s',ji (zK E ops m) ops c k s=some s'/\K s'=some r
 | 0,k,s,h=>⟨s,rfl,h⟩
 | c+1,k,s,h=>by
  simp only[JR] at h;cases ho:ops[k]? with
  | none=>rw[ho] at h;cases h
  | some o=>
   rw[ho] at h;simp only at h;split at h<;>first|(cases h;done)|skip
   rename_i hlk;split at h
   ·rename_i hkm;obtain⟨v,h1,h2⟩:=zW h;obtain⟨s',h3,h4⟩:=wF c (k+1) _ h2;refine⟨s',?_,h4⟩;subst hkm;simp only[ji,zK,ho,if_neg hlk,if_true,h1,zFb,zba];exact h3
   ·rename_i hkm;obtain⟨v,h1,h2⟩:=ga h;obtain⟨s',h3,h4⟩:=wF c (k+1) _ h2;refine⟨s',?_,h4⟩;simp only[ji,zK,ho,if_neg hlk,if_neg hkm,h1,zba];exact h3
def fM(m:Nat)(D:List Nat)(listed:Array Bool)(s:St):St:=if listed.getD m false then{ s with dead:=D } else s
def yh(s:St)(d:Option Nat)(v:AV)(D:List Nat):({ s with dead:=D }:St).put d v={ s.put d v with dead:=D }:=by
 cases d with
 | none=>rfl
 | some d=>
  by_cases h:d<s.nt
  ·simp only[St.put,h,if_true]
  ·simp only[St.put,h,if_false]
def yM(m:Nat)(D:List Nat)(listed:Array Bool)(s:St):(fM m D listed s).ob=s.ob/\(fM m D listed s).fresh=s.fresh/\(fM m D listed s).lkS=s.lkS/\(fM m D listed s).lkO=s.lkO/\(fM m D listed s).nt=s.nt/\(fM m D listed s).tm=s.tm:=by
 unfold fM;split<;>exact⟨rfl,rfl,rfl,rfl,rfl,rfl⟩
def Ap{V:Nat->St->Option AV}{md:Region.Mode}{n:Nat}{L:Array Bool->St->Prop}{T:List Nat}:∀ (f:Nat) (listed:Array Bool) (s:St),ov V md ops n L f listed s ->
  (∀ t∈T,∀ j oj,ops[j]?=some oj->listed.getD j true=false->oj.dst≠some t)->∃ listed' s',L listed' s'/\(∀ t∈T,s'.tm t=s.tm t)
 | f,listed,s,h,hT=>by
  obtain⟨l',s',m1,m2,_⟩:=pJ f listed s h hT;exact⟨l',s',m1,m2⟩
end
section
variable{P:Program}{E:Env}{w0:Root}{ops:Array Oper}
theorem mO(hE:EnvOk P E){n m g p:Nat}{tp:AV}{D:List Nat}{y:Operand}{dst:Option Nat}{args:Array Operand}{argTypes:Array TypeId}{ty:TypeId}{pos:String}{after:Array Edge}{L:Array Bool->St->Prop}{Q:Exit->Act->World->Prop}{s0:St}{S0:Nat->Nat->Prop}{γ0:Nat->Option Nat}{a0:Act}{w1:World}
  (hm:ops[m]?=some ⟨dst,.call ⟨.builtin .append,args,argTypes⟩,ty,pos,after,none⟩) (hargs:args.toList=[.tmp p,y])
  (hp:∀ (j:Nat) (oj:Oper),ops[j]?=some oj->oj.dst=some p->Region.waitsFor .any ops m j=true)
  (hheads:∀ (j:Nat) (oj:Oper),j<n->ops[j]?=some oj->oj.guard=none)
  (hD:∀ s:St,s.tm p=tp->s.dead=s0.dead->lQ s p=D)
  (hd:∀ (i j:Nat) (oi oj:Oper),i≠j->ops[i]?=some oi->ops[j]?=some oj->∀ d,oj.dst=some d->oi.dst≠some d)
  (hLs:∀ listed s,L listed s->s.tm p=tp/\listed.getD m false=true)
  (hL:∀ listed s S γ β a w,Rp w0 S γ β { s with dead:=D } a w->Fm s0 S0 γ0 a0 w1 S γ a w->Sm s0 s->(∀ j oj,ops[j]?=some oj->listed.getD j true=false->Fr E { s with dead:=D } γ β oj)->L listed s->wpAnyIn (FW ro) nn P .any ops Q g listed a w) :
  ∀ (f:Nat) (listed:Array Bool) (s:St) (S:Nat->Nat->Prop) (γ:Nat->Option Nat) (β:Nat->Option (Nat×Nat)) (a:Act) (w:World),Rp w0 S γ β (fM m D listed s) a w->Fm s0 S0 γ0 a0 w1 S γ a w->Sm s0 s->s.dead=s0.dead ->
   (∀ j oj,ops[j]?=some oj->listed.getD j true=false->Fr E (fM m D listed s) γ β oj)->ov (zK E ops m) .any ops n L f listed s->wpAnyIn (FW ro) nn P .any ops Q (f+g) listed a w
 | 0,listed,s,S,γ,β,a,w,h,hF,hS,hdd,hfr,hh=>by
  rw[z9a];have hh':L listed s:=hh;have e:fM m D listed s={ s with dead:=D }:=by unfold fM;rw[if_pos (hLs _ _ hh').2]
  rw[e] at h;exact hL _ _ _ _ _ _ _ h hF hS (λj oj hj hu=>e ▸ hfr j oj hj hu) hh'
 | f+1,listed,s,S,γ,β,a,w,h,hF,hS,hdd,hfr,hh=>by
  rw[show f+1+g=(f+g)+1 by omega]
  refine⟨λh0=>absurd h0 hh.1,λi hi=>?_⟩;obtain⟨hin,hst⟩:=hh.2 i hi;have hun:=(mem_ready.1 hi).1;have unl:∀ j,(listed.setIfInBounds i true).getD j true=false->i≠j/\listed.getD j true=false:=λj hu=>by
   by_cases hij:i=j
   ·subst hij;exfalso;rcases zna i listed.size with hlt|hge
    ·simp[Array.getD,hlt] at hu
    ·simp[Array.getD,zzc.2 hge] at hu
   ·rw[getD_set_ne true hij] at hu;exact⟨hij,hu⟩
  have hsz:i<listed.size:=by
   rcases zna i listed.size with hlt|hge
   ·exact hlt
   ·simp[Array.getD,zzc.2 hge] at hun
  obtain⟨_,o,ho,hall⟩:=mem_ready.1 hi;unfold q8 at hst;rw[ho] at hst;simp only at hst;obtain⟨v,hv,hst⟩:=hst;unfold zK at hv;rw[ho] at hv;simp only at hv;split at hv<;>first|(cases hv;done)|skip
  rename_i hlko;have pf:=St.put_fields s o.dst v;obtain⟨z1,z2,z3,z4,z5,z6⟩:=yM m D listed s;have smL:Sm s0 (fM m D listed s):=⟨z3.trans hS.lkS,z4.trans hS.lkO,z2.trans hS.fresh,z5.trans hS.nt⟩;have hlk':∀ t∈(fM m D listed s).lkS,o.dst≠some t:=λt ht e=>hlko (by
   rw[z3] at ht;simp[j7,e];exact ht)
  by_cases hmi:i=m
  ·
   subst hmi;rw[if_pos rfl] at hv;rw[hm] at ho;cases ho;have hlf:=getD_both hun;have e0:fM i D listed s=s:=by unfold fM;rw[hlf];rfl
   have hv2:∃ D',nU E s ⟨dst,.call ⟨.builtin .append,args,argTypes⟩,ty,pos,after,none⟩=some (v,D'):=by
    cases ha:nU E s ⟨dst,.call ⟨.builtin .append,args,argTypes⟩,ty,pos,after,none⟩ with
    | none=>rw[ha] at hv;cases hv
    | some q=>rw[ha] at hv;obtain⟨q1,q2⟩:=q;cases hv;exact⟨q2,rfl⟩
   obtain⟨D',hv2⟩:=hv2;have hdp:dst≠some p:=λe=>by
    have hw:=hp i _ hm e;obtain⟨ow,how,e',he,hb,hon⟩:=Region.waitsFor_spec hw;rw[hm] at how;cases how;have h1:=hall e' he hb;rw[hon] at h1;rw[hlf] at h1;cases h1
   obtain⟨l',s',m1,m2⟩:=Ap (T:=[p]) f _ _ hst (λt ht j oj hj hu=>by
    simp only[zCa,zxc,or_false] at ht;subst ht;intro hdj;have hw:=hp j oj hj hdj;obtain⟨ow,how,e,he,hb,hon⟩:=Region.waitsFor_spec hw;rw[hm] at how;cases how;have h1:=hall e he hb;rw[hon] at h1;obtain⟨_,hu'⟩:=unl j hu;rw[getD_both hu'] at h1;cases h1)
   have z7:=(hLs _ _ m1).1;rw[m2 p (by simp),tH hdp] at z7
   have eD:D'=D:=(CC hv2 hargs).trans (hD s z7 hdd);subst eD;rw[e0] at h hlk';obtain⟨s1,k1,k2⟩:=wD hE h (e0 ▸ hfr i _ hm hun) (λT t _ ht=>hE.flat T t ht) hlk' (λ_ _ _ e=>by cases e) (K:=some) (r:=(({ s with dead:=D' }:St).put dst v)) (by rw[IG hv2])
   cases k1;obtain⟨r1,r2,r3,r4,r5,r6⟩:=k2;unfold wpOpIn;rw[hm];simp only;rw[if_pos (by simp[Region.wanted])]
   refine(bg r6 λval w' ⟨S',γ',β',m1,m2,m3⟩=>?_);have el:fM i D' (listed.setIfInBounds i true) (s.put dst v)=({ s with dead:=D' }:St).put dst v:=by
    unfold fM;rw[if_pos (by simp[hsz])]
    exact(yh s dst v D').symm
   refine mO hE hm hargs hp hheads hD hd hLs hL f _ _ S' γ' β' _ _ (by rw[el];exact m1) (hF.trans m2 hS.lkS hS.lkO) (hS.trans (Sm.put s dst v)) (pf.2.2.1.trans hdd) (λj oj hj hu=>?_) hst
   rw[el];obtain⟨hij,hu'⟩:=unl j hu;exact(e0 ▸ hfr j oj hj hu':Fr E s γ β oj).keep (o:=⟨dst,.call ⟨.builtin .append,args,argTypes⟩,ty,pos,after,none⟩) (λd hdj=>hd i j _ oj hij hm hj d hdj) r3 r5 m3
  ·
   rw[if_neg hmi] at hv;have hog:=hheads i o hin ho;have hval:val E ops (fM m D listed s) o=some v:=by
    have e1:j7 (fM m D listed s) o=j7 s o:=by simp only[j7,z3]
    have e2:qv E (fM m D listed s) o some=qv E s o some:=lW z1 z2 λx _=>by
     cases x<;>simp only[St.opA,z6]
    unfold val;rw[e1,if_neg hlko,hog,e2];exact hv
   have el:(fM m D listed s).put o.dst v=fM m D (listed.setIfInBounds i true) (s.put o.dst v):=by
    unfold fM;rw[getD_set_ne false hmi];split
    ·rw[yh]
    ·rfl
   obtain⟨k1,k2⟩:=xD hE h (hfr i o ho hun) hval;have pl:=St.put_fields (fM m D listed s) o.dst v;have frn:∀ {γ':Nat->Option Nat} {β':Nat->Option (Nat×Nat)},(∀ id':Nat,o.dst≠some (id'-(fM m D listed s).base)\/id'<(fM m D listed s).base->γ' id'=γ id'/\β' id'=β id')->∀ j oj,ops[j]?=some oj->(listed.setIfInBounds i true).getD j true=false->Fr E (fM m D (listed.setIfInBounds i true) (s.put o.dst v)) γ' β' oj:=λhk j oj hj hu=>by
    obtain⟨hij,hu'⟩:=unl j hu;rw[<-el];exact(hfr j oj hj hu').keep (λd hdj=>hd i j o oj hij ho hj d hdj) pl.2.1 (λid' _ _=>by rw[pl.1]) hk
   unfold wpOpIn;rw[ho];simp only;split
   ·rename_i hw;refine(bg (k1 hw) λu' w' ⟨S',γ',β',m1,m2,m3⟩=>?_);exact mO hE hm hargs hp hheads hD hd hLs hL f _ _ S' γ' β' _ _ (el ▸ m1) (hF.trans m2 smL.lkS smL.lkO) (hS.trans (Sm.put s o.dst v)) (pf.2.2.1.trans hdd) (frn m3) hst
   ·rename_i hw;obtain⟨m1,m2⟩:=k2 (by simpa using hw)
    refine⟨λ_ _=>trivial,?_⟩;exact mO hE hm hargs hp hheads hD hd hLs hL f _ _ S γ β _ _ (el ▸ m1) (hF.trans m2 smL.lkS smL.lkO) (hS.trans (Sm.put s o.dst v)) (pf.2.2.1.trans hdd) (frn λid _=>⟨rfl,rfl⟩) hst
def uC(hE:EnvOk P E){id:Nat}{n m:Nat}{Q:Exit->Act->World->Prop}{S:Nat->Nat->Prop}{γ:Nat->Option Nat}{β:Nat->Option (Nat×Nat)}{s:St}{a:Act}{w:World}{R:Type}{k:St->Option R}{r:R}{N:Nat}
  (h:Rp w0 S γ β s a w) (hf:CA E s γ β ops.toList) (hmk:bP ops.toList=true) (hap:xT E ops n m=true) {an:Ann}
  (hev:JR E ops m n 0 s (λs2=>eN E N R ops an ((aQ 0 ops.toList).drop n) { s2 with dead:=lQ s2 (CB ops m) } k)=some r)
  (hQ:∀ s' S' γ' β' a' w',Rp w0 S' γ' β' s' a' w'->Fm s S γ a w S' γ' a' w'->Sk s s'->k s'=some r->Q .normal a' w'):(Code.region id ops true).wpIn (FW ro) nn P Q a w:=by
 simp only[bP,zaa] at hmk;obtain⟨⟨hm1,hm2⟩,hm3⟩:=hmk;have hstores:(ops.toList.all λo=>match o.op with|.store ..=>o.dst.isNone|_=>true)=true:=hm3
 unfold xT at hap;split at hap<;>first|(cases hap;done)|skip
 rename_i oa hoa;split at hap<;>first|(cases hap;done)|skip
 rename_i c hop;split at hap<;>first|(cases hap;done)|skip
 rename_i p y hcal hargs;simp only[zaa,decide_eq_true_eq] at hap;obtain⟨⟨⟨⟨⟨⟨l1,l2⟩,l3⟩,l4⟩,l5⟩,l6⟩,l7⟩:=hap;have heads:∀ j,j<n->∃ o,ops[j]?=some o/\o.guard=none:=λj hj=>by
  have:=zpa.1 l3 j (zJa.2 hj);split at this<;>first|(cases this;done)|skip
  rename_i o ho;simp only[zaa] at this;exact⟨o,ho,by simpa using this.1.2⟩
 have hn:n<=ops.size:=by
  rcases zna ops.size n with c|c
  ·obtain⟨o,ho,_⟩:=heads ops.size c;have:=(zfa.1 ho).1;omega
  ·exact c
 obtain⟨dst,op,ty,pos,after,guard⟩:=oa;have hg0:guard=none:=by
  obtain⟨o,ho,hg⟩:=heads m l1;rw[hoa] at ho;cases ho;exact hg
 subst hg0;obtain⟨callee,args,argTypes⟩:=c;simp only at hop hcal hargs;subst hop;subst hcal;have hpeq:CB ops m=p:=by unfold CB;rw[hoa];simp only[hargs]
 rw[hpeq] at hev;have hp:∀ (j:Nat) (oj:Oper),ops[j]?=some oj->oj.dst=some p->Region.waitsFor .any ops m j=true:=λj oj hj e=>by
  have hjlt:=(zfa.1 hj).1;have:=zpa.1 l2 j (zJa.2 hjlt);rw[hj,zba,e] at this;simpa using this
 have hheads:∀ (j:Nat) (oj:Oper),j<n->ops[j]?=some oj->oj.guard=none:=λj oj hjn hj=>by
  obtain⟨o,ho,hg⟩:=heads j hjn;rw[hj] at ho;cases ho;exact hg
 obtain⟨sF,q1,q2⟩:=wF n 0 s hev;have keep:∀ (c kk:Nat) (s s':St),ji (zK E ops m) ops c kk s=some s'->s'.dead=s.dead/\Sm s s':=by
  intro c
  induction c with
  | zero=>intro kk s s' hs;simp only[ji,zda] at hs;subst hs;exact⟨rfl,Sm.refl s⟩
  | succ c ih=>
   intro kk s s' hs;simp only[ji] at hs;obtain⟨v,h1,h2⟩:=bind_some_inv hs;obtain⟨m2,m3⟩:=ih _ _ _ h2;have pf:=St.put_fields s ((ops[kk]?).bind (·.dst)) v;exact⟨m2.trans pf.2.2.1,(Sm.put s _ v).trans m3⟩
 obtain⟨c2,c3⟩:=keep n 0 s sF q1;have hD:∀ s2:St,s2.tm p=sF.tm p->s2.dead=s.dead->lQ s2 p=lQ sF p:=λs2 e1 e2=>by
  unfold lQ;rw[e1,e2,c2]
 generalize lQ sF p=D at q2 hD;have hW:ls .any ops n:=by
  intro listed i inv hin hun t ht hr;simp only[zHb,decide_eq_true_eq,zaa] at l7;rcases l7 with l7|⟨⟨l7,l8⟩,l9⟩
  ·obtain⟨_,o,ho,_⟩:=mem_ready.1 hr;have:=(zfa.1 ho).1;omega
  ·exact tail_waits l8 l9 l7 inv _ i rfl hin hun t ht hr
 refine wpIn_region_any hE.mixed ?_;have hg:∃ os d,w.drawn<=d/\({ w with drawn:=w.drawn+1 }:World)=grown w os d:=⟨[],w.drawn+1,ztc _,by simp[grown]⟩
 obtain⟨os,d,hdr,hg⟩:=hg;obtain⟨g1,g2⟩:=h.grow (os:=os) (d:=d) hdr (S':=S) (λ_ _ hb=>hb) (λ_ _ hb=>.inl hb);rw[hg];have inv0:HeadInv .any ops n (Array.replicate ops.size false):=
  ⟨by simp,λj oj _ hl=>(by rw[getD_replicate_false] at hl;cases hl),λt _ ht=>getD_in (by simpa using ht) (getD_replicate_false _ _)⟩
 have H:=pK (sF:=sF) (JB (E:=E) (ops:=ops) m) hn hW n 0 (Array.replicate ops.size false) s (by omega) inv0 (λi hi=>by omega) l6 q1
 have e0:fM m D (Array.replicate ops.size false) s=s:=by unfold fM;rw[getD_replicate_false];rfl
 have hdl:(ops.toList.drop n).length=ops.size-n:=by simp
 have hsub0:∀ j oj,ops[j]?=some oj->(Array.replicate ops.size false).getD j true=false->Fr E (fM m D (Array.replicate ops.size false) s) γ β oj:=λj oj hj _=>by
  rw[e0];exact hf oj (zNb.2 (z6b hj))
 have:=mO (ro:=ro) (nn:=nn) (w0:=w0) (Q:=Q) (g:=ops.size-n) (s0:=s) (S0:=S) (γ0:=γ) (a0:=a) (w1:=grown w os d) (tp:=sF.tm p) hE hoa hargs hp hheads hD (λi j oi oj hij hi hj d hd=>gO hm1 hij (by rw[zya];exact hi) (by rw[zya];exact hj) d hd)
  (λlisted s2 hL=>by
   obtain⟨_,hl,rfl⟩:=hL;exact⟨rfl,hl m l1⟩)
  (λlisted s2 S2 γ2 β2 a2 w2 m1 m2 m3 m4 m5=>by
   obtain⟨m5,m6,m7⟩:=m5;subst m7;have hseq:=gb (F:=FW ro) (n:=nn) (P:=P) (md:=.any) (ops:=ops) (Q':=Q) (ops.toList.drop n) n listed a2 w2 (λj=>by rw[zgb,zya]) (by rw[hdl];exact m5) ?_
   ·rwa [hdl] at hseq
   have hunl:∀ j oj,ops[j]?=some oj->n<=j->listed.getD j true=false:=by
    intro j oj hj hnj;have key:∀ (g k:Nat) (listed:Array Bool),Region.seqB .any ops g k listed=true->∀ j,k<=j->j<k+g->listed.getD j true=false:=by
     intro g
     induction g with
     | zero=>intro k listed _ j h1 h2;omega
     | succ g ih=>
      intro k listed hB j h1 h2;simp only[Region.seqB,zaa,decide_eq_true_eq] at hB;by_cases hjk:j=k
      ·subst hjk;have:j∈Region.ready .any ops listed:=by rw[hB.1];simp
       exact(mem_ready.1 this).1
      ·have:=ih (k+1) _ hB.2 j (by omega) (by omega)
       rwa [getD_set_ne true (Ne.symm hjk)] at this
    have hjlt:=(zfa.1 hj).1;exact key _ _ _ m5 j hnj (by omega)
   have fin:=sJ (ro:=ro) (nn:=nn) (ops:=ops) hE (Q:=Q) hstores N R ((aQ 0 ops.toList).drop n) k r an m1 (by
     rw[z9b,aY];intro o ho;obtain⟨i,hi,he⟩:=zTa ho;have hi2:ops[n+i]?=some o:=by
      have:(ops.toList.drop n)[i]?=some o:=by rw[zca hi,he]
      rwa [zgb,zya] at this
     exact m4 (n+i) o hi2 (hunl _ _ hi2 (by omega)))
    (by
     rw[z9b,aY];intro A B o o' e ho d hd;exact eG hm1 (ops.toList.take n++A) B o o' (by rw[zOa,<-e,zoa]) ho d hd)
    (λp hp=>iS (zMb hp)) q2 (λs3 S3 γ3 β3 a3 w3 n1 n2 n3 n4=>by
     have smD:Sm s2 ({ s2 with dead:=D }:St):=⟨rfl,rfl,rfl,rfl⟩;refine hQ s3 S3 γ3 β3 a3 w3 n1 ?_ (Sk.trans (m3.trans smD).sk n3) n4;have f0:Fm s S γ a w S γ a (grown w os d):=⟨λ_ _ hb=>hb,g2.cell,λ_ _=>rfl,λid hid b hb=>⟨hb,.inl (cJ (h.γn id b hb).2)⟩,by simp,λ_ _ hb=>hb,ku.same rfl cY.grown⟩
     exact(f0.trans m2 rfl rfl).trans n2 (show _=_ from m3.lkS) (show _=_ from m3.lkO))
   rwa [z9b,aY] at fin)
  n (Array.replicate ops.size false) s S γ β a (grown w os d) (by rw[e0];exact g1) (Fm.refl _ _ _ _ _) (Sm.refl s) rfl hsub0 H
 rw[show n+(ops.size-n)=ops.size by omega] at this
 exact this
end
end Sy
end
noncomputable section
namespace Sy
open Go
variable{ro:Option Nat}{nn:Nat}
section
variable{ops:Array Oper}
theorem mN:∀ n,(ub ops n).length=n
 | 0=>rfl
 | n+1=>by simp[ub,mN n]
def qk(ops:Array Oper)(t:Nat):Nat:=match ops[t]? with
 | some o=>o.after.toList.foldl (λm e=>if Region.binds .any e&&decide (e.on<t) then(m ||| 2^e.on) ||| (ub ops t).getD e.on 0 else m) 0
 | none=>0
theorem mM{t:Nat}:∀ {n:Nat},t<n->(ub ops n).getD t 0=qk ops t
 | 0,h=>by omega
 | n+1,h=>by
  show(ub ops n++[qk ops n]).getD t 0=_;by_cases e:t=n
  ·subst e;rw[zSa,zyb (by rw[mN];exact zja _),mN,z4c]
   rfl
  ·rw[zSa,zfb (by rw[mN];omega),<-zSa]
   exact mM (by omega)
theorem uY{t i:Nat}{l:List Nat}:∀ (es:List Edge) (m:Nat),Nat.testBit (es.foldl (λm e=>if Region.binds .any e&&decide (e.on<t) then(m ||| 2^e.on) ||| l.getD e.on 0 else m) m) i=true ->
  Nat.testBit m i=true\/∃ e∈es,Region.binds .any e=true/\e.on<t/\(e.on=i\/Nat.testBit (l.getD e.on 0) i=true)
 | [],m,h=>.inl h
 | e::es,m,h=>by
  simp only[zhc] at h;rcases uY es _ h with k|⟨e',h1,h2⟩
  ·split at k
   ·rename_i hc;simp only[zaa,decide_eq_true_eq] at hc;rw[Nat.testBit_or,Nat.testBit_or,Nat.testBit_two_pow] at k;simp only[zHb,decide_eq_true_eq] at k;rcases k with(k|k)|k
    ·exact .inl k
    ·exact .inr ⟨e,by simp,hc.1,hc.2,.inl k⟩
    ·exact .inr ⟨e,by simp,hc.1,hc.2,.inr k⟩
   ·exact .inl k
  ·exact .inr ⟨e',by simp[h1],h2⟩
def kR{listed:Array Bool}(hcl:∀ j oj,ops[j]?=some oj->listed.getD j false=true->∀ e∈oj.after,Region.binds .any e=true->listed.getD e.on false=true) :
  ∀ (t:Nat) (o:Oper),ops[t]?=some o->(∀ e∈o.after,Region.binds .any e=true->listed.getD e.on false=true)->∀ i,Nat.testBit (qk ops t) i=true->listed.getD i false=true:=by
 intro t
 induction t using Nat.strongRecOn with
 | _ t ih=>
  intro o ho hd i hi;unfold qk at hi;rw[ho] at hi;simp only at hi;rcases uY _ _ hi with k|⟨e,h1,h2,h3,h4⟩
  ·simp at k
  ·have he:=hd e (by simpa using h1) h2
   rcases h4 with rfl|h4
   ·exact he
   ·rw[mM h3] at h4;have hlt:e.on<ops.size:=by have:=(zfa.1 ho).1;omega
    exact ih e.on h3 _ (zlb hlt) (hcl _ _ (zlb hlt) he) i h4
end
section
variable{E:Env}{ops:Array Oper}
theorem nc{i:Nat}{o:Oper}:∀ (f j0:Nat),lY E ops i o f j0=true->∀ j oj,j0<=j->j<j0+f->(∀ q oq,j0<=q->q<=j->ops[q]?=some oq->jT E oq=true)->ops[j]?=some oj->(∀ e∈oj.after,Region.binds .any e=true->e.on≠i)->o.apart ops oj=true
 | 0,j0,_,j,oj,h1,h2,_,_,_=>by omega
 | f+1,j0,h,j,oj,h1,h2,h3,h4,h5=>by
  have hlt:j0<ops.size:=by have:=(zfa.1 h4).1;omega
  have h0:=zlb hlt;simp only[lY,h0] at h;rw[if_pos (h3 j0 _ (zja _) h1 h0)] at h;simp only[zaa,zHb] at h;by_cases e:j=j0
  ·subst e;rw[h0] at h4;cases h4;rcases h.1 with k|k
   ·obtain⟨e,he,hb⟩:=Array.any_eq_true'.1 k;simp only[zaa,beq_iff_eq] at hb;exact absurd hb.2 (h5 e he hb.1)
   ·exact k
  ·exact nc f (j0+1) h.2 j oj (by omega) (by omega) (λq oq q1 q2=>h3 q oq (by omega) q2) h4 h5
def kf(h:gY E ops=true){i:Nat}{o:Oper}(ho:ops[i]?=some o) :
  (∀ e∈o.after,Region.binds .any e=true->e.on<i)/\(jT E o=true->lY E ops i o ops.size (i+1)=true) ∧
  (jT E o=false->(∀ j,j<i->Nat.testBit (qk ops i) j=true)/\∀ j,i<j->j<ops.size->Nat.testBit (qk ops j) i=true):=by
 have hi:=(zfa.1 ho).1;simp only[gY,zpa,zJa] at h;have h1:=h i hi;rw[ho] at h1;simp only[zaa,zpa,zHb,zLa,decide_eq_true_eq] at h1;refine⟨λe he hb=>?_,λhc=>?_,λhc=>⟨λj hj=>?_,λj hj hlt=>?_⟩⟩
 ·rcases h1.1 e (by simpa using he) with k|k
  ·rw[hb] at k;cases k
  ·exact k
 ·have:=h1.2;rw[if_pos hc] at this;exact this
 ·have:=h1.2;rw[if_neg (by simp[hc])] at this
  simp only[zpa,zJa] at this;have h2:=this j (by omega)
  rw[if_pos hj,mM hi] at h2;exact h2
 ·have:=h1.2;rw[if_neg (by simp[hc])] at this
  simp only[zpa,zJa] at this;have h2:=this j hlt;rw[if_neg (by omega),mM hlt] at h2
  simp only[zHb,decide_eq_true_eq] at h2;rcases h2 with h2|h2
  ·omega
  ·exact h2
structure Full(ops:Array Oper)(k:Nat)(listed:Array Bool):Prop where
 size:listed.size=ops.size
 done:∀ j,j<k->j<ops.size->listed.getD j false=true
 rest:∀ j,k<=j->j<ops.size->listed.getD j true=false
def Full.set{k:Nat}{listed:Array Bool}(h:Full ops k listed)(hk:k<ops.size):Full ops (k+1) (listed.setIfInBounds k true):=by
 refine⟨by simp[h.size],λj hj hlt=>?_,λj hj hlt=>?_⟩
 ·by_cases e:j=k
  ·subst e;have:j<listed.size:=by rw[h.size];exact hk
   simp[this]
  ·exact getD_set_true (h.done j (by omega) hlt)
 ·rw[getD_set_ne true (by omega)];exact h.rest j (by omega) hlt
def Full.inv{k n:Nat}{listed:Array Bool}(hr:gY E ops=true)(h:Full ops k listed)(hkn:k<=n):HeadInv .any ops n listed:=by
 refine⟨h.size,λj oj hj hl e he hb=>?_,λt ht hlt=>h.rest t (by omega) hlt⟩
 have hlt:=(zfa.1 hj).1;have h1:=(kf hr hj).1 e he hb;rcases zna j k with hk|hk
 ·exact h.done e.on (by omega) (by omega)
 ·have:=getD_both (h.rest j hk hlt);rw[this] at hl;cases hl
theorem Full.ready{k:Nat}{listed:Array Bool}(hr:gY E ops=true)(h:Full ops k listed)(hk:k<ops.size):k∈Region.ready .any ops listed:=
 mem_ready.2 ⟨h.rest k (zja _) hk,_,zlb hk,λe he hb=>by
  have:=(kf hr (zlb hk)).1 e he hb;exact h.done e.on this (by omega)⟩
def Full.later{k:Nat}{listed:Array Bool}(h:Full ops k listed):∀ j∈Region.ready .any ops listed,k<=j:=by
 intro j hj;obtain⟨hun,o,ho,_⟩:=mem_ready.1 hj;have hlt:=(zfa.1 ho).1;rcases zna j k with hk|hk
 ·have:=h.done j hk hlt;rw[getD_both hun] at this;cases this
 ·exact hk
def DY(hr:gY E ops=true){n:Nat}{o:Oper}(ho:ops[n]?=some o)(hc:jT E o=false):ls .any ops n:=by
 intro listed i inv hin hun t ht hrd;have hn:=(zfa.1 ho).1;obtain⟨_,ot,hot,hdeps⟩:=mem_ready.1 hrd;have htlt:=(zfa.1 hot).1;have h3:=(kf hr ho).2.2 hc;rcases zna n t with h|h
 ·have h1:=kR inv.closed t ot hot hdeps n (h3.2 t h htlt);have h2:=inv.tail n (zja _) hn;rw[getD_both h2] at h1;cases h1
 ·have e:t=n:=by omega
  subst e;have h1:=kR inv.closed t ot hot hdeps i (h3.1 i hin);rw[getD_both hun] at h1;cases h1
def DZ:ls .any ops ops.size:=λlisted i _ _ _ t ht hrd=>by
 obtain⟨_,ot,hot,_⟩:=mem_ready.1 hrd;have:=(zfa.1 hot).1;omega
def FA(hr:gY E ops=true){k:Nat}{o:Oper}{listed:Array Bool}(h:Full ops k listed)(ho:ops[k]?=some o)(hc:jT E o=false):∀ j∈Region.ready .any ops listed,j=k:=by
 intro j hj;have h1:=h.later j hj;obtain⟨_,oj,hoj,hdeps⟩:=mem_ready.1 hj;have hlt:=(zfa.1 hoj).1;rcases zna k j with h2|h2
 ·exfalso;have h3:=kR (h.inv hr (zja _)).closed j oj hoj hdeps k (((kf hr ho).2.2 hc).2 j h2 hlt);have h4:=h.rest k (zja _) (by omega)
  rw[getD_both h4] at h3;cases h3
 ·omega
def iX(E:Env)(ops:Array Oper):Nat->Nat->Nat
 | 0,k=>k
 | f+1,k=>match ops[k]? with
  | some o=>if jT E o then iX E ops f (k+1) else k
  | none=>k
theorem qO:∀ (f k:Nat),k+f=ops.size->k<=iX E ops f k/\iX E ops f k<=ops.size/\(∀ j oj,k<=j->j<iX E ops f k->ops[j]?=some oj->jT E oj=true)/\(iX E ops f k=ops.size\/∃ o,ops[iX E ops f k]?=some o/\jT E o=false)
 | 0,k,h=>⟨zja _,by simp only[iX];omega,λj oj h1 h2=>by simp only[iX] at h2;omega,.inl (by simpa [iX] using h)⟩
 | f+1,k,h=>by
  have hk:k<ops.size:=by omega
  have h0:=zlb hk;simp only[iX,h0];split
  ·rename_i hc;obtain⟨q1,q2,q3,q4⟩:=qO f (k+1) (by omega)
   refine⟨by omega,q2,λj oj h1 h2 h3=>?_,q4⟩
   by_cases e:j=k
   ·subst e;rw[h0] at h3;cases h3;exact hc
   ·exact q3 j oj (by omega) h2 h3
  ·rename_i hc;exact⟨zja _,by omega,λj oj h1 h2=>by omega,.inr ⟨_,h0,by simpa using hc⟩⟩
theorem yG(hr:gY E ops=true){n:Nat}{L:Array Bool->St->Prop}(hW:ls .any ops n)(hdone:∀ listed s,L listed s->∀ j∈Region.ready .any ops listed,n<=j)(hn:n<=ops.size) :
  ∀ (l:List Oper) (k:Nat) (listed:Array Bool) (s s':St),(∀ j,j<l.length->l[j]?=ops[k+j]?)->k+l.length=n->Full ops k listed->(∀ j oj,k<=j->j<n->ops[j]?=some oj->jT E oj=true) ->
  seqV E ops l s=some s'->(∀ listed',Full ops n listed'->L listed' s')->CW E .any ops n L l.length listed s
 | [],k,listed,s,s',_,hk,hF,_,h,hL=>by
  have:k=n:=by simpa using hk
  subst this;simp only[seqV,zda] at h;subst h;exact hL listed hF
 | o::l,k,listed,s,s',hl,hk,hF,hcm,h,hL=>by
  have h0:ops[k]?=some o:=by simpa using(hl 0 (by simp)).symm
  have hkn:k<n:=by simp only[zBa] at hk;omega
  have hks:k<ops.size:=by omega
  simp only[seqV] at h;obtain⟨v,h1,h2⟩:=bind_some_inv h;refine sZ h0 hW hkn hdone l.length listed s (hF.inv hr (zrc hkn)) (λj oj hjn hj hne hun hno=>?_) (hF.ready hr hks) h1
   (yG hr hW hdone hn l (k+1) _ _ s' (λj hj=>by have:=hl (j+1) (by simp;omega);simpa [zAb,zEc 1 j] using this) (by simp only[zBa] at hk;omega) (hF.set hks) (λj oj h1=>hcm j oj (by omega)) h2 hL)
  have hjlt:=(zfa.1 hj).1;have hkj:k<j:=by
   rcases zna j k with h3|h3
   ·have:=hF.done j h3 hjlt;rw[getD_both hun] at this;cases this
   ·omega
  exact nc ops.size (k+1) ((kf hr h0).2.1 (hcm k o (zja _) hkn h0)) j oj (by omega) (by omega) (λq oq q1 q2=>hcm q oq (by omega) (by omega)) hj hno
end
section
variable{P:Program}{E:Env}{w0:Root}{ops:Array Oper}
def EO(hE:EnvOk P E){N:Nat}{R:Type}{i:Nat}{o:Oper}{l:List (Nat×Oper)}{S:Nat->Nat->Prop}{γ:Nat->Option Nat}{β:Nat->Option (Nat×Nat)}{s:St}{a:Act}{w:World}{k:St->Option R}{r:R}{an:Ann}
  (h:Rp w0 S γ β s a w) (hst:∀ T x y,o.op=.store T x y->o.dst=none) (hf:Fr E s γ β o) (hfl:CA E s γ β (l.map Prod.snd)) (hd:∀ o'∈l.map Prod.snd,∀ d,o'.dst=some d->o.dst≠some d) (hsg:o.guard=none->me E s i o l=false)
  (hev:eN E (N+1) R ops an ((i,o)::l) s k=some r) {next:Act->World->Prop} {Q:Exit->Act->World->Prop}
  (hk:∀ u an' s' S' γ' β' w',eN E N R ops an' l s' k=some r->Rp w0 S' γ' β' s' (a.put o.dst u) w'->Fm s S γ a w S' γ' (a.put o.dst u) w'->Sk s s'->CA E s' γ' β' (l.map Prod.snd)->next (a.put o.dst u) w') :
  if Region.wanted o (yielded ops a.tmps) then o.wpIn (FW ro) nn P a w next Q else(∀ f,o.about P w a.eval=some f->(FW ro).fn f)/\next (a.put o.dst undef) w:=by
 have run:¬ j7 s o=true->Aj E an l s o (λs'=>eN E N R ops (rK E o an) l s' k)=some r->o.wpIn (FW ro) nn P a w next Q:=by
  intro hlk he;have hlk':∀ t∈s.lkS,o.dst≠some t:=λt ht e=>hlk (by simp[j7,e];exact ht)
  unfold Aj at he;split at he
  ·split at he;rename_i hcr;refine wE (K:=λs1=>eN E N R ops (rK E o an) l s1 k) hE h hlk' he λu s' S' γ' β' w' m0 m1 m2 m3=>?_;exact hk u _ s' S' γ' β' w' m0 m1 m2 m3 λo' ho'=>by
    obtain⟨p,hp,rfl⟩:=z5a.1 ho';have:=zpa.1 hcr p hp;exact Bk (by simpa using this)
   split at he<;>first|(cases he;done)|skip
   rename_i hna;refine wE (K:=λs1=>eN E N R ops (rK E o an) l (wl s1) k) hE h hlk' he λu s' S' γ' β' w' m0 m1 m2 m3=>?_;exact hk u _ (wl s') S' γ' β' w' m0 m1.later m2 ⟨m3.lkS,m3.lkO,m3.nt⟩ (Bv m1 hna hfl)
  obtain⟨s',h1,h2⟩:=wD hE h hf (λT t _ ht=>hE.flat T t ht) hlk' hst he;obtain⟨f1,f2,f3,f4,f5,f6⟩:=h2;refine bg f6 λu w' ⟨S',γ',β',m1,m2,m3⟩=>?_;exact hk u _ s' S' γ' β' w' h1 m1 m2 ⟨f1,f2,f4⟩ λo' ho'=>(hfl o' ho').keep (hd o' ho') f3 f5 m3
 obtain⟨w1,w2,w3⟩:=ql (ops:=ops) (o:=o) h;cases hg:o.guard with
 | some jw=>
  obtain⟨j,want⟩:=jw;simp only[eN,hg] at hev;split at hev<;>first|(cases hev;done)|skip
  rename_i g hgd;split at hev<;>first|(cases hev;done)|skip
  rename_i hlk;have hlk':∀ t∈s.lkS,o.dst≠some t:=λt ht e=>hlk (by simp[j7,e];exact ht)
  have p:=St.put_fields s o.dst .gone;have alt:(Region.wanted o (yielded ops a.tmps)=true/\(Aj E an l s o λs'=>eN E N R ops (rK E o an) l s' k)=some r)\/(Region.wanted o (yielded ops a.tmps)=false/\eN E N R ops (rK E o an) l (s.put o.dst .gone) k=some r):=by
   by_cases hgo:s.tm g=.gone
   ·rw[hgo,fE] at hev;exact .inr ⟨w3 j want g hg hgd hgo,hev⟩
   rw[fF hgo] at hev;obtain⟨c,h1,h2⟩:=bind_some_inv hev;replace h2:=lJ (A:=λs=>Aj E an l s o λs'=>eN E N R ops (rK E o an) l s' k) (B:=λs=>eN E N R ops (rK E o an) l (s.put o.dst .gone) k) h1 h2;have hw:=w2 j want g c hg hgd h1;split at h2
   ·rename_i hc;exact .inl ⟨by rw[hw];exact hc,h2⟩
   ·rename_i hc;exact .inr ⟨by rw[hw];simpa using hc,h2⟩
  rcases alt with⟨hw,h2⟩|⟨hw,h2⟩
  ·rw[if_pos hw];exact run hlk h2
  ·rw[if_neg (by simp[hw])]
   refine⟨λ_ _=>trivial,?_⟩;exact hk undef _ _ S γ β w h2 (h.put (v:=.gone) (val:=undef) (by simp[AR]) o.dst) ⟨λ_ _ hb=>hb,λ_ _ _=>rfl,λt ht=>bQ (hlk' t ht),λ_ _ _ hb=>⟨hb,jh.refl _ _⟩,zja _,λ_ _ hb=>hb,ku.same bF (cY.refl _)⟩ (Sm.put s o.dst .gone).sk
    λo' ho'=>(hfl o' ho').keep (hd o' ho') p.2.1 (λid _ _=>by rw[p.1]) λid _=>⟨rfl,rfl⟩
 | none=>
  rw[if_pos (w1 hg)];simp only[eN,hg,hsg hg,zza,if_false] at hev;split at hev<;>first|(cases hev;done)|skip
  rename_i hlk;exact run hlk hev
theorem lT:∀ (l:List Oper) (i m:Nat),(aQ i l).drop m=aQ (i+m) (l.drop m)
 | l,i,0=>by simp
 | [],i,m+1=>by simp[aQ]
 | o::l,i,m+1=>by
  simp only[aQ,zTc];rw[lT l (i+1) m,show i+1+m=i+(m+1) by omega]
def rl{l:List Oper}{i m:Nat}{p:Nat×Oper}(h:p∈(aQ i l).take m):∃ j,j<m/\l[j]?=some p.2:=by
 obtain⟨j,hj,he⟩:=zTa h;have h1:((aQ i l).take m)[j]?=some p:=by rw[zca hj,he]
 have hjm:j<m:=by simp only[zbb] at hj;omega
 rw[zvb hjm] at h1;have h2:((aQ i l).map Prod.snd)[j]?=some p.2:=by rw[zcb,h1];rfl
 rw[aY] at h2;exact⟨j,hjm,h2⟩
def DG(hE:EnvOk P E)(hr:gY E ops=true)(hm1:df (ops.toList.filterMap (·.dst))=true)(hst:∀ o∈ops.toList,∀ T x y,o.op=.store T x y->o.dst=none){Q:Exit->Act->World->Prop}{R:Type}{k:St->Option R}{r:R} :
  ∀ (g:Nat) (k0:Nat) (listed:Array Bool) (N:Nat) (an:Ann) {S:Nat->Nat->Prop} {γ:Nat->Option Nat} {β:Nat->Option (Nat×Nat)} {s:St} {a:Act} {w:World},k0+g=ops.size->Full ops k0 listed->Rp w0 S γ β s a w ->
   (∀ j oj,ops[j]?=some oj->k0<=j->Fr E s γ β oj)->eN E N R ops an (aQ k0 (ops.toList.drop k0)) s k=some r ->
   (∀ s' S' γ' β' a' w',Rp w0 S' γ' β' s' a' w'->Fm s S γ a w S' γ' a' w'->Sk s s'->k s'=some r->Q .normal a' w')->wpAnyIn (FW ro) nn P .any ops Q g listed a w:=by
 intro g
 induction g using Nat.strongRecOn with
 | _ g ih=>
 intro k0 listed N an S γ β s a w hkg hF h hfr hev hQ;cases g with
 | zero=>
  have hk:k0=ops.size:=by omega
  subst hk;rw[zic (by simp)] at hev
  cases N with
  | zero=>simp[eN] at hev
  | succ N=>
   simp only[aQ,eN] at hev;refine⟨?_,hQ s S γ β a w h (Fm.refl _ _ _ _ _) (Sk.refl s) hev⟩;cases hrd:Region.ready .any ops listed with
   | nil=>rfl
   | cons j l=>
    exfalso;have hj:j∈Region.ready .any ops listed:=by rw[hrd];simp
    have h1:=hF.later j hj;obtain⟨_,o,ho,_⟩:=mem_ready.1 hj;have:=(zfa.1 ho).1;omega
 | succ g=>
 have hk0:k0<ops.size:=by omega
 have ho:=zlb hk0;obtain⟨o,hoe⟩:∃ o,o=ops[k0]:=⟨_,rfl⟩;rw[<-hoe] at ho;clear hoe;have hdr:ops.toList.drop k0=o::ops.toList.drop (k0+1):=by
  have hlt:k0<ops.toList.length:=by simpa using hk0
  rw[zkb hlt];congr 1;have:ops.toList[k0]?=some o:=by rw[zya];exact ho
  rw[zca hlt] at this;exact Option.some.inj this
 cases hc:jT E o with
 | false=>
  refine⟨λh0=>(by have:=hF.ready hr hk0;rw[h0] at this;cases this),λi hi=>?_⟩
  have hik:=FA hr hF ho hc i hi;subst hik;unfold wpOpIn;rw[ho];simp only;rw[hdr] at hev;simp only[aQ] at hev;cases N with
  | zero=>simp[eN] at hev
  | succ N=>
  have hmap:(aQ (i+1) (ops.toList.drop (i+1))).map Prod.snd=ops.toList.drop (i+1):=aY _ _;have hidx:∀ o'∈ops.toList.drop (i+1),∃ j,i<j/\ops[j]?=some o':=λo' ho'=>by
   obtain⟨j,hj,he⟩:=zTa ho';refine⟨i+1+j,by omega,?_⟩
   have:(ops.toList.drop (i+1))[j]?=some o':=by rw[zca hj,he]
   rwa [zgb,zya] at this
  refine EO hE h (hst o (zNb.2 (z6b ho))) (hfr i o ho (zja _)) (λo' ho'=>?_) (λo' ho' d hd=>?_) (λ_=>?_) hev λu an' s' S' γ' β' w' m0 m1 m2 m3 m4=>?_
  ·rw[hmap] at ho';obtain⟨j,hj,hoj⟩:=hidx o' ho';exact hfr j o' hoj (by omega)
  ·rw[hmap] at ho';obtain⟨j,hj,hoj⟩:=hidx o' ho';exact gO hm1 (show i≠j by omega) (by rw[zya];exact ho) (by rw[zya];exact hoj) d hd
  ·cases hsg:me E s i o (aQ (i+1) (ops.toList.drop (i+1))) with
   | false=>rfl
   | true=>
    exfalso;simp only[me,zaa] at hsg;have h2:=hsg.2;split at h2<;>first|(cases h2;done)|skip
    simp only[zaa,zLa] at h2;have h3:jT E o=true:=by simp[jT,h2.1.1.1.2,h2.1.1.2]
    rw[h3] at hc;cases hc
  ·refine ih g (zbd _) (i+1) _ N an' (by omega) (hF.set hk0) m1 (λj oj hj hij=>m4 oj ?_) m0 λs2 S2 γ2 β2 a2 w2 n1 n2 n3 n4=>hQ s2 S2 γ2 β2 a2 w2 n1 (m2.trans n2 m3.lkS m3.lkO) (m3.trans n3) n4
   rw[hmap];refine z8a (i:=j-(i+1)) ?_;rw[zgb,zya,show i+1+(j-(i+1))=j by omega]
   exact hj
 | true=>
  obtain⟨m,hm⟩:∃ m,m=iX E ops (g+1) k0:=⟨_,rfl⟩;obtain⟨e1,e2,e3,e4⟩:=qO (E:=E) (ops:=ops) (g+1) k0 hkg;rw[<-hm] at e1 e2 e3 e4;have hkm:k0<m:=by
   rcases zna k0 m with q|q
   ·exact q
   ·exfalso;have:m=k0:=by omega
    rw[this] at e4;rcases e4 with e4|⟨o',q1,q2⟩
    ·omega
    ·rw[ho] at q1;cases q1;rw[hc] at q2;cases q2
  have hW:ls .any ops m:=by
   rcases e4 with e4|⟨o',q1,q2⟩
   ·rw[e4];exact DZ
   ·exact DY hr q1 q2
  have hlen:(aQ k0 (ops.toList.drop k0)).length=ops.size-k0:=by rw[gI];simp
  have calmOf:∀ o',jT E o'=true->gu o'=true/\jY E o'=false:=λo' hc'=>by
   simp only[jT,zaa,zLa] at hc';exact hc'
  obtain⟨s',s'',N',q1,q2,q3⟩:=sH N R (aQ k0 (ops.toList.drop k0)) s k r (m-k0) an (by rw[hlen];omega) (λp hp=>by
    obtain⟨j,hj,hoj⟩:=rl hp;rw[zgb,zya] at hoj;exact calmOf _ (e3 (k0+j) p.2 (by omega) (by omega) hoj)) (.inr λp q hpq=>by
    rw[lT,zGd,show k0+(m-k0)=m by omega] at hpq
    rcases e4 with e4|⟨o',z1,z2⟩
    ·rw[e4,zic (by simp)] at hpq
     simp[aQ] at hpq
    ·have hmlt:=(zfa.1 z1).1;have:p.2=o':=by
      have h1:(aQ m (ops.toList.drop m)).map Prod.snd=ops.toList.drop m:=aY _ _;rw[hpq] at h1;have h2:(ops.toList.drop m)[0]?=some p.2:=by rw[<-h1];rfl
      rw[zgb,zya,z2b,z1] at h2;exact(Option.some.inj h2).symm
     rw[this];exact z2) hev
  rw[lT,zGd,show k0+(m-k0)=m by omega] at q3
  rw[List.map_take,aY] at q1;have hll:((ops.toList.drop k0).take (m-k0)).length=m-k0:=by simp;omega
  have H:=yG (E:=E) hr (n:=m) (L:=λlisted' s2=>Full ops m listed'/\s2=s') hW (λlisted' s2 hL=>hL.1.later) e2 ((ops.toList.drop k0).take (m-k0)) k0 listed s s' (λj hj=>by
   rw[hll] at hj;rw[zvb hj,zgb,zya]) (by rw[hll];omega) hF e3 q1 (λlisted' hF'=>⟨hF',rfl⟩)
  have:=gJ (ro:=ro) (nn:=nn) (Q:=Q) (g:=ops.size-m) hE (s0:=s) (S0:=S) (γ0:=γ) (a0:=a) (w1:=w) (λi j oi oj hij hi hj d hd=>gO hm1 hij (by rw[zya];exact hi) (by rw[zya];exact hj) d hd)
   (λlisted' s2 S2 γ2 β2 a2 w2 m1 m2 m3 m4 m5=>by
    obtain⟨m5,m6⟩:=m5;subst m6;refine ih (ops.size-m) (by omega) m listed' N' an (by omega) m5 (m1.wk q2) (λj oj hj hmj=>?_) q3 λs3 S3 γ3 β3 a3 w3 n1 n2 n3 n4=>hQ s3 S3 γ3 β3 a3 w3 n1 (m2.trans n2 (q2.lkS.trans m3.lkS) (q2.lkO.trans m3.lkO)) ((m3.trans (Sm.wk q2)).sk.trans n3) n4
    have hjlt:=(zfa.1 hj).1;have:=m4 j oj hj (m5.rest j hmj hjlt);intro hc d hd;obtain⟨r1,r2,r3,r4⟩:=this hc d hd;rw[q2.base_eq,q2.ob];exact⟨r1,r2,r3,r4⟩)
   ((ops.toList.drop k0).take (m-k0)).length listed s S γ β a w h (Fm.refl _ _ _ _ _) (Sm.refl s) (λj oj hj hun=>by
    have hjlt:=(zfa.1 hj).1;refine hfr j oj hj ?_;rcases zna j k0 with q|q
    ·have:=hF.done j q hjlt;rw[getD_both hun] at this;cases this
    ·exact q) H
  rw[hll,show m-k0+(ops.size-m)=g+1 by omega] at this
  exact this
def tJ(hE:EnvOk P E){id:Nat}{Q:Exit->Act->World->Prop}{S:Nat->Nat->Prop}{γ:Nat->Option Nat}{β:Nat->Option (Nat×Nat)}{s:St}{a:Act}{w:World}{R:Type}{k:St->Option R}{r:R}{N:Nat}
  (h:Rp w0 S γ β s a w) (hf:CA E s γ β ops.toList) (hm:bP ops.toList=true) (hr:gY E ops=true) {an:Ann} (hev:eN E N R ops an (aQ 0 ops.toList) s k=some r)
  (hQ:∀ s' S' γ' β' a' w',Rp w0 S' γ' β' s' a' w'->Fm s S γ a w S' γ' a' w'->Sk s s'->k s'=some r->Q .normal a' w'):(Code.region id ops true).wpIn (FW ro) nn P Q a w:=by
 simp only[bP,zaa] at hm;obtain⟨⟨hm1,_⟩,hm3⟩:=hm;have hstores:∀ o∈ops.toList,∀ T x y,o.op=.store T x y->o.dst=none:=λo ho T x y e=>by
  have:=zpa.1 hm3 o ho;rw[e] at this;simpa using this
 refine wpIn_region_any hE.mixed ?_;have hg:({ w with drawn:=w.drawn+1 }:World)=grown w [] (w.drawn+1):=by simp[grown]
 obtain⟨g1,g2⟩:=h.grow (os:=[]) (d:=w.drawn+1) (ztc _) (S':=S) (λ_ _ hb=>hb) (λ_ _ hb=>.inl hb);rw[hg];have f0:Fm s S γ a w S γ a (grown w [] (w.drawn+1)):=⟨λ_ _ hb=>hb,g2.cell,λ_ _=>rfl,λid hid b hb=>⟨hb,.inl (cJ (h.γn id b hb).2)⟩,by simp,λ_ _ hb=>hb,ku.same rfl cY.grown⟩
 refine DG (ro:=ro) (nn:=nn) hE hr hm1 hstores ops.size 0 _ N an (by omega) ⟨by simp,λj hj=>by omega,λj _ hj=>getD_in (by simpa using hj) (getD_replicate_false _ _)⟩ g1 (λj oj hj _=>hf oj (zNb.2 (z6b hj))) (by simpa using hev) λs' S' γ' β' a' w' n1 n2 n3 n4=>hQ s' S' γ' β' a' w' n1 (f0.trans n2 rfl rfl) n3 n4
end
end Sy
end
noncomputable section
namespace Sy
open Go
variable{ro:Option Nat}{nn:Nat}
section
variable{P:Program}{E:Env}{w0:Root}
def uV{id:Nat}{ops:Array Oper}{dr:Bool}{ann:Ann}{R:Type}{s s1:St}(hs1:s1={ fV s ann.fz with fresh:=s.fresh+1 }){k:Ex->St->Option R}{r:R}(h:ev E (.region id ops dr) ann R s k=some r) :
  bP ops.toList=true/\(((!dr||pC E ops (ann.heads ops.size))=true/\eN E (ops.size+1) R ops ann.inner (aQ 0 ops.toList) (ib E ops.toList s1) (λs'=>k .normal s')=some r) ∨
   (dr=true/\td ops (ann.heads ops.size)=true/\KP E ops (ann.heads ops.size) (kD ops (ann.heads ops.size) (ib E ops.toList s1)) (ann.heads ops.size) 0 (ib E ops.toList s1) (λs2=>if tb ops (ann.heads ops.size) s2=some (kD ops (ann.heads ops.size) (ib E ops.toList s1)) then eN E (ops.size+1) R ops ann.inner ((aQ 0 ops.toList).drop (ann.heads ops.size)) s2 (λs'=>k .normal s') else none)=some r) ∨
   (dr=true/\xT E ops (ann.heads ops.size) (nT ops)=true/\JR E ops (nT ops) (ann.heads ops.size) 0 (ib E ops.toList s1) (λs2=>eN E (ops.size+1) R ops ann.inner ((aQ 0 ops.toList).drop (ann.heads ops.size)) { s2 with dead:=lQ s2 (CB ops (nT ops)) } (λs'=>k .normal s'))=some r) ∨
   (dr=true/\gY E ops=true/\eN E (ops.size+1) R ops ann.inner (aQ 0 ops.toList) (ib E ops.toList s1) (λs'=>k .normal s')=some r)):=by
 have key:(if bP ops.toList&&(!dr||pC E ops (ann.heads ops.size)) then eN E (ops.size+1) R ops ann.inner (aQ 0 ops.toList) (ib E ops.toList s1) (λs'=>k .normal s')
  else if bP ops.toList&&td ops (ann.heads ops.size) then KP E ops (ann.heads ops.size) (kD ops (ann.heads ops.size) (ib E ops.toList s1)) (ann.heads ops.size) 0 (ib E ops.toList s1) (λs2=>if tb ops (ann.heads ops.size) s2=some (kD ops (ann.heads ops.size) (ib E ops.toList s1)) then eN E (ops.size+1) R ops ann.inner ((aQ 0 ops.toList).drop (ann.heads ops.size)) s2 (λs'=>k .normal s') else none)
  else if bP ops.toList&&(dr&&xT E ops (ann.heads ops.size) (nT ops)) then JR E ops (nT ops) (ann.heads ops.size) 0 (ib E ops.toList s1) (λs2=>eN E (ops.size+1) R ops ann.inner ((aQ 0 ops.toList).drop (ann.heads ops.size)) { s2 with dead:=lQ s2 (CB ops (nT ops)) } (λs'=>k .normal s'))
  else if bP ops.toList&&(dr&&gY E ops) then eN E (ops.size+1) R ops ann.inner (aQ 0 ops.toList) (ib E ops.toList s1) (λs'=>k .normal s')
  else none)=some r:=by
  subst hs1;cases ann<;>exact h
 split at key
 ·rename_i hc;simp only[zaa] at hc;exact⟨hc.1,.inl ⟨hc.2,key⟩⟩
 ·rename_i hn;split at key
  ·rename_i hc;simp only[zaa] at hc;refine⟨hc.1,.inr (.inl ⟨?_,hc.2,key⟩)⟩;cases dr
   ·exfalso;exact hn (by simp[hc.1])
   ·rfl
  ·split at key
   ·rename_i hc;simp only[zaa] at hc;exact⟨hc.1,.inr (.inr (.inl ⟨hc.2.1,hc.2.2,key⟩))⟩
   ·split at key<;>first|(cases key;done)|skip
    rename_i hc;simp only[zaa] at hc;exact⟨hc.1,.inr (.inr (.inr ⟨hc.2.1,hc.2.2,key⟩))⟩
def Dz(hE:EnvOk P E){Q:Exit->Act->World->Prop}{id:Nat}{ops:Array Oper}{dr:Bool}{ann:Ann}{R:Type}{S:Nat->Nat->Prop}{γ:Nat->Option Nat}{β:Nat->Option (Nat×Nat)}{s:St}{a:Act}{w:World}{k:Ex->St->Option R}{r:R}
  (h:Rp w0 S γ β s a w) (hev:ev E (.region id ops dr) ann R s k=some r) (hQ:Kp Q w0 s S γ a w k r):(Code.region id ops dr).wpIn (FW ro) nn P Q a w:=by
 obtain⟨S1,f1,f2,f3⟩:=pH ann.fz h;obtain⟨s1,hs1⟩:∃ s1,s1={ fV s ann.fz with fresh:=s.fresh+1 }:=⟨_,rfl⟩;obtain⟨h1,h23⟩:=uV hs1 hev;have hb1:s1.base=s.base+4096:=by rw[hs1];simp only[St.base];omega
 have hfb:(fV s ann.fz).base=s.base:=f3.base_eq;have r1:Rp w0 S1 γ β s1 a w:=by
  rw[hs1];have q1:∀ id,({ fV s ann.fz with fresh:=s.fresh+1 }:St).base+4096<=id->s.base+4096<=id:=λid hid=>by
   have e:({ fV s ann.fz with fresh:=s.fresh+1 }:St).base=s.base+4096:=by simp only[St.base];omega
   rw[e] at hid;exact zAa (zjc _ _) hid
  exact⟨f1.ext,f1.tms,f1.nt,f1.tmu,f1.obs,f1.γn,f1.γi,λid hid=>h.γf id (q1 id hid),f1.βn,f1.βi,f1.βγ,λv hv=>h.βf v (q1 v hv),f1.Sb,f1.So⟩
 have hle1:∀ d,s.base+4096<=s1.base+d:=λd=>by have:=zjc s1.base d;rw[hb1] at this ⊢;exact this
 have hg:∀ d,γ (s1.base+d)=none:=λd=>h.γf (s1.base+d) (hle1 d);have hgb:∀ d,β (s1.base+d)=none:=λd=>h.βf (s1.base+d) (hle1 d);obtain⟨r2,m2⟩:=Cf (E:=E) ops.toList r1 hg;have hmk:=h1;simp only[bP,zaa,zpa] at hmk;obtain⟨⟨hm1,hm2⟩,_⟩:=hmk;have hfr:CA E (ib E ops.toList s1) γ β ops.toList:=by
  intro o ho hc d hd;rw[m2.base_eq];have hd4:=hm2 o ho;rw[hd] at hd4;simp only[decide_eq_true_eq] at hd4;exact⟨hd4,hg d,hgb d,λT t e1 e2=>xi ops.toList hm1 ho e1 hd e2⟩
 have hsk:Sk s (ib E ops.toList s1):=by
  refine⟨m2.lkS.trans ?_,m2.lkO.trans ?_,m2.nt.trans ?_⟩<;>rw[hs1]
  ·exact f3.lkS
  ·exact f3.lkO
  ·exact f3.nt
 rcases h23 with⟨h2,h3⟩|⟨hdr,h2,h3⟩|⟨hdr,h2,h3⟩|⟨hdr,h2,h3⟩
 rotate_right
 ·subst hdr;exact tJ hE r2 hfr h1 h2 h3 λs' S' γ' β' a' w' n1 n2 n3 n4=>hQ .normal s' S' γ' β' a' w' n1 (f2.tr n2 hsk) (hsk.trans n3) n4
 rotate_right
 ·subst hdr;exact uC hE r2 hfr h1 h2 h3 λs' S' γ' β' a' w' n1 n2 n3 n4=>hQ .normal s' S' γ' β' a' w' n1 (f2.tr n2 hsk) (hsk.trans n3) n4
 rotate_left
 ·subst hdr;exact tI hE r2 hfr h1 h2 h3 λs' S' γ' β' a' w' n1 n2 n3 n4=>hQ .normal s' S' γ' β' a' w' n1 (f2.tr n2 hsk) (hsk.trans n3) n4
 refine DA hE r2 hfr h1 h2 h3 λs' S' γ' β' a' w' n1 n2 n3 n4=>?_;exact hQ .normal s' S' γ' β' a' w' n1 (f2.tr n2 hsk) (hsk.trans n3) n4
def Gk{S:Nat->Nat->Prop}{γ:Nat->Option Nat}{β:Nat->Option (Nat×Nat)}{s:St}{a:Act}{w:World}(h:Rp w0 S γ β s a w){c:Operand}{t:Bool}(ht:(s.opA c).truth=some t):a.eval c=.bool t:=
 (nK ht (aV h c)).1
def To{S S':Nat->Nat->Prop}{γ γ':Nat->Option Nat}{s:St}{a a':Act}{w w':World}(hro:∀ l,ro=some l->∃ r0,w.heap[l]?=some (Obj.loop r0))(F:Fm s S γ a w S' γ' a' w'):∀ l,ro=some l->∃ r0,w'.heap[l]?=some (Obj.loop r0):=λl hl=>(F.dfs.1 l).2 (hro l hl)
def to(E:Env)(c:Code)(h:Shape)(exits:List (Ex×Shape))(a:Ann)(s:St)(v:List D):Option (Sum (List D) (Nat×List D)):=
 ev E c a (Sum (List D) (Nat×List D)) (h.mk' s v (h.keepS++s.lkS) (cj h.objs++s.lkO)) λe s'=>match e with
    | .normal=>(h.dec s s').bind λv'=>some (.inl v')
    | e=>(DS s exits e s').bind λr=>some (.inr r)
theorem iH(hE:EnvOk P E):∀ (c:Code) (ann:Ann) (R:Type) {Q:Exit->Act->World->Prop} {S:Nat->Nat->Prop} {γ:Nat->Option Nat} {β:Nat->Option (Nat×Nat)} {s:St} {a:Act} {w:World} (k:Ex->St->Option R) (r:R),
  (∀ l,ro=some l->∃ r0,w.heap[l]?=some (Obj.loop r0))->Rp w0 S γ β s a w->ev E c ann R s k=some r->Kp Q w0 s S γ a w k r->c.wpIn (FW ro) nn P Q a w
 | .skip,ann,R,Q,S,γ,β,s,a,w,k,r,hro,h,hev,hQ=>by
  simp only[ev] at hev;exact wpIn_skip (hQ .normal s S γ β a w h (Fm.refl _ _ _ _ _) (Sk.refl s) hev)
 | .label l,ann,R,Q,S,γ,β,s,a,w,k,r,hro,h,hev,hQ=>by
  simp only[ev] at hev;exact wpIn_label (hQ .normal s S γ β a w h (Fm.refl _ _ _ _ _) (Sk.refl s) hev)
 | .exit id,ann,R,Q,S,γ,β,s,a,w,k,r,hro,h,hev,hQ=>by
  simp only[ev] at hev;exact wpIn_exit (hQ (.exit id) s S γ β a w h (Fm.refl _ _ _ _ _) (Sk.refl s) hev)
 | .ret,ann,R,Q,S,γ,β,s,a,w,k,r,hro,h,hev,hQ=>by
  simp only[ev] at hev;exact wpIn_ret (hQ .ret s S γ β a w h (Fm.refl _ _ _ _ _) (Sk.refl s) hev)
 | .region id ops dr,ann,R,Q,S,γ,β,s,a,w,k,r,hro,h,hev,hQ=>Dz hE h hev hQ
 | .cond c x y,ann,R,Q,S,γ,β,s,a,w,k,r,hro,h,hev,hQ=>by
  simp only[ev] at hev;obtain⟨t,ht,hev⟩:=bind_some_inv hev;refine wpIn_cond (Gk h ht) ?_;cases t
  ·exact iH hE y _ R k r hro h (by simpa using hev) hQ
  ·exact iH hE x _ R k r hro h (by simpa using hev) hQ
 | .block id c,ann,R,Q,S,γ,β,s,a,w,k,r,hro,h,hev,hQ=>by
  simp only[ev] at hev;refine wpIn_block (iH hE c _ R _ r hro h hev λe s' S' γ' β' a' w' n1 n2 n3 n4=>?_);cases e with
  | normal=>exact hQ .normal s' S' γ' β' a' w' n1 n2 n3 n4
  | ret=>exact hQ .ret s' S' γ' β' a' w' n1 n2 n3 n4
  | exit j=>
   simp only[EP,Exit.inBlock];simp only at n4;split at n4
   ·rename_i hj;rw[if_pos hj];exact hQ .normal s' S' γ' β' a' w' n1 n2 n3 n4
   ·rename_i hj;rw[if_neg hj];exact hQ (.exit j) s' S' γ' β' a' w' n1 n2 n3 n4
 | .seq c d,ann,R,Q,S,γ,β,s,a,w,k,r,hro,h,hev,hQ=>by
  have plain:(ev E c ann.fst R s λe s'=>match e with|.normal=>ev E d ann.snd R s' k|e=>k e s')=some r->(Code.seq c d).wpIn (FW ro) nn P Q a w:=λhev=>by
   refine wpIn_seq (iH hE c _ R _ r hro h hev λe s' S' γ' β' a' w' n1 n2 n3 n4=>?_);cases e with
   | normal=>
    exact iH hE d _ R k r (To hro n2) n1 n4 λe2 s2 S2 γ2 β2 a2 w2 m1 m2 m3 m4=>hQ e2 s2 S2 γ2 β2 a2 w2 m1 (n2.tr m2 n3) (n3.trans m3) m4
   | ret=>exact hQ .ret s' S' γ' β' a' w' n1 n2 n3 n4
   | exit j=>exact hQ (.exit j) s' S' γ' β' a' w' n1 n2 n3 n4
  cases ann with
  | leaf=>simp only[ev] at hev;exact plain hev
  | reg fz n=>simp only[ev] at hev;exact plain hev
  | regI fz n x=>simp only[ev] at hev;exact plain hev
  | two x y=>simp only[ev] at hev;exact plain hev
  | loop x y z=>simp only[ev] at hev;exact plain hev
  | cut exits kS kO x y=>
   clear plain;simp only[ev] at hev;obtain⟨⟨j,v⟩,h1,h2⟩:=bind_some_inv hev;refine wpIn_seq (iH hE c x _ _ (j,v) hro (h.lk (kS++s.lkS) (kO++s.lkO)) h1 λe s' S' γ' β' a' w' n1 n2 n3 n4=>?_);obtain⟨sh,q1,q2⟩:=vU n4;simp only at q1 q2;obtain⟨c1,c2,c3⟩:=lD (zia j) (by simpa using q1) h2
   obtain⟨γ'',β'',p1,p2⟩:=oO h n1 n2.sub n2.cell n3.nt (h:=sh) (λt ht=>n2.slots t (znb _ (jy c2 t ht))) n2.gam (λid hid=>n2.objs id (znb _ (jy c3 id hid))) q2 s.lkS s.lkO;have F:Fm s S γ a w S' γ'' a' w':=(n2.less (s2:=s) (λt ht=>zjb _ ht) (λt ht=>zjb _ ht)).shape h p2;cases e with
   | normal=>
    exact iH hE d y R k r (To hro F) p1 c1 λe2 s2 S2 γ2 β2 a2 w2 m1 m2 m3 m4=>hQ e2 s2 S2 γ2 β2 a2 w2 m1 (F.tr m2 ⟨rfl,rfl,rfl⟩) (Sk.trans (b:=sh.mk' s v s.lkS s.lkO) ⟨rfl,rfl,rfl⟩ m3) m4
   | ret=>exact hQ .ret _ S' γ'' β'' a' w' p1 F ⟨rfl,rfl,rfl⟩ c1
   | exit i=>exact hQ (.exit i) _ S' γ'' β'' a' w' p1 F ⟨rfl,rfl,rfl⟩ c1
 | .loop c,ann,R,Q,S,γ,β,s,a,w,k,r,hro,h,hev,hQ=>by
  cases ann with
  | loop sh exits x=>
   have hev':(sh.dec s s).bind (λv0=>(E.lp (to E c sh exits x s) v0).bind λr=>nr s k sh.keepS (cj sh.objs) exits 0 r)=some r:=hev;obtain⟨v0,h1,hev'⟩:=bind_some_inv hev';obtain⟨⟨j,vj⟩,h2,h3⟩:=bind_some_inv hev';obtain⟨n,hn⟩:=hE.lp _ _ _ _ _ h2;obtain⟨sL,hsL⟩:∃ sL:St,sL={ s with lkS:=sh.keepS++s.lkS,lkO:=cj sh.objs++s.lkO }:=⟨_,rfl⟩;obtain⟨γ0,β0,p1,p2⟩:=oO h h (λ_ _ hb=>hb) (λ_ _ _=>rfl) rfl (h:=sh) (λ_ _=>rfl) (λ_ _ hb=>hb) (λ_ _ _ hb=>⟨hb,jh.refl _ _⟩) h1 (sh.keepS++s.lkS) (cj sh.objs++s.lkO);have F0:Fm sL S γ a w S γ0 a w:=(Fm.refl sL S γ a w).shape h p2;refine wc (λn a1 w1=>∃ v S1 γ1 β1,Rp w0 S1 γ1 β1 (sh.mk' s v (sh.keepS++s.lkS) (cj sh.objs++s.lkO)) a1 w1/\Fm sL S γ a w S1 γ1 a1 w1/\oC (to E c sh exits x s) n v=some (j,vj)) (m:=n) ⟨v0,S,γ0,β0,p1,F0,hn⟩ ?_;rintro n a1 w1 ⟨v,S1,γ1,β1,g1,g2,g3⟩;cases n with
   | zero=>simp[pQ] at g3
   | succ m=>
    simp only[jZ] at g3;cases hb:to E c sh exits x s v with
    | none=>rw[hb] at g3;cases g3
    | some res=>
     rw[hb] at g3;refine iH hE c x _ _ res (To hro g2) g1 hb λe s' S' γ' β' a' w' n1 n2 n3 n4=>?_;have F:Fm sL S γ a w S' γ' a' w':=g2.tr n2 (by rw[hsL];exact⟨rfl,rfl,rfl⟩)
     have hnt:s'.nt=s.nt:=n3.nt;have sl:∀ t∈sh.keepS,a'.tmps.getD t undef=a.tmps.getD t undef:=λt ht=>F.slots t (by rw[hsL];exact znb _ ht)
     have ob:∀ id∈cj sh.objs,∀ b,γ id=some b->γ' id=some b/\jh w w' b:=λid hid=>F.objs id (by rw[hsL];exact znb _ hid)
     have fin:∀ e,DS s exits e s'=some (j,vj)->Q (EP e) a' w':=λe he=>by
      obtain⟨sh2,q1,q2⟩:=vU he;simp only at q1 q2;obtain⟨c1,c2,c3⟩:=lD (zia j) (by simpa using q1) h3
      obtain⟨γ'',β'',o1,o2⟩:=oO h n1 F.sub F.cell hnt (h:=sh2) (λt ht=>sl t (jy c2 t ht)) F.gam (λid hid=>ob id (jy c3 id hid)) q2 s.lkS s.lkO;exact hQ e _ S' γ'' β'' a' w' o1 ((F.less (s2:=s) (λt ht=>by rw[hsL];exact zjb _ ht) (λt ht=>by rw[hsL];exact zjb _ ht)).shape h o2) ⟨rfl,rfl,rfl⟩ c1
     cases e with
     | normal=>
      simp only at n4;obtain⟨v',q1,q2⟩:=bind_some_inv n4;simp only[zda] at q2;subst q2;obtain⟨γ'',β'',o1,o2⟩:=oO h n1 F.sub F.cell hnt (h:=sh) sl F.gam ob q1 (sh.keepS++s.lkS) (cj sh.objs++s.lkO);exact⟨m,zbd m,v',S',γ'',β'',o1,F.shape h o2,g3⟩
     | ret=>
      simp only at n4;obtain⟨v',q1,q2⟩:=bind_some_inv n4;simp only[zda] at q2;subst q2;simp only[zda] at g3;subst g3;exact fin .ret q1
     | exit i=>
      simp only at n4;obtain⟨v',q1,q2⟩:=bind_some_inv n4;simp only[zda] at q2;subst q2;simp only[zda] at g3;subst g3;exact fin (.exit i) q1
  | leaf=>simp[ev] at hev
  | reg fz n=>simp[ev] at hev
  | regI fz n x=>simp[ev] at hev
  | two x y=>simp[ev] at hev
  | cut exits kS kO x y=>simp[ev] at hev
 | .goto l,ann,R,Q,S,γ,β,s,a,w,k,r,hro,h,hev,hQ=>by
  have:(none:Option R)=some r:=by cases ann<;>exact hev
  cases this
 | .scope c,ann,R,Q,S,γ,β,s,a,w,k,r,hro,h,hev,hQ=>by
  simp only[ev] at hev;refine mW (iH hE c _ R k r hro h hev λe s' S' γ' β' a' w' n1 n2 n3 n4=>?_);cases e<;>exact hQ _ s' S' γ' β' a' w' n1 n2 n3 n4
 | .rangeFunc f ps x y,ann,R,Q,S,γ,β,s,a,w,k,r,hro,h,hev,hQ=>KQ hE (an:=ann) hro h (by cases ann<;>exact hev) hQ
def BJ(hE:EnvOk P E)(c:Code)(ann:Ann)(R:Type){Q:Exit->Act->World->Prop}{S:Nat->Nat->Prop}{γ:Nat->Option Nat}{β:Nat->Option (Nat×Nat)}{s:St}{a:Act}{w:World}(k:Ex->St->Option R)(r:R)
  (h:Rp w0 S γ β s a w) (hev:ev E c ann R s k=some r) (hQ:Kp Q w0 s S γ a w k r):c.wpIn (FW none) nn P Q a w:=
 iH hE c ann R k r (λ_ h=>by cases h) h hev hQ
end
def KH{P:Program}{E:Env}(hE:EnvOk P E):D6 P (ev E):=λ_ _ _ c ann R _ _ _ _ _ _ _ k r hro h hev hQ=>iH hE c ann R k r hro h hev hQ
end Sy
end
noncomputable section
namespace Sy
open Go
open Go.ChangeMaps (setBlock)
open Go.RowKit
variable{ro:Option Nat}{nn:Nat}
section
variable{P:Program}{E:Env}{w0:Root}{S:Nat->Nat->Prop}{γ:Nat->Option Nat}{β:Nat->Option (Nat×Nat)}{s:St}{a:Act}{w:World}
def p9(tmps:Array Value):ResultVar->Sem Value
 | .tmp t=>pure (tmps.getD t undef)
 | .cell a t=>do loadVar t (<-asAddr (tmps.getD a undef))
def nG(fn:Func)(tmps:Array Value):Go.results fn tmps=(do
  let vs <-fn.results.mapM (p9 tmps)
  pure (if h:vs.size=1 then vs[0] else .tuple vs)):=by
 unfold Go.results;congr 1
def ET{t t':Ty}{a:AV}(h:AV.fits t a=true)(h':AV.fits t' a=true):cM t=cM t':=by
 cases a
 case d u x=>rw[pF h,pF h']
 all_goals (cases t<;>cases t'<;>simp_all [AV.fits,cM])
def Ch(hE:EnvOk P E)(h:Rp w0 S γ β s a w){R:Type}{t:Ty}(hn:au t=true){k:D->Option R}{r:ResultVar}{y:R}(hq:FT E s t k r=some y) :
  ∃ x v,k x=some y/\(p9 a.tmps r).run P w=.ok v w/\wt t x/\gj w S x v:=by
 cases r with
 | tmp i=>
  simp only[FT] at hq;obtain⟨x,h1,h2⟩:=bind_some_inv hq;have hi:i<a.tmps.size:=by
   rcases zna i a.tmps.size with hlt|hge
   ·exact hlt
   ·rw[h.tmu i (by rw[<-h.nt];exact hge)] at h1
    simp[AV.toD] at h1
  obtain⟨k1,k2⟩:=ni hn (h.tms i hi) h1;exact⟨x,a.tmps.getD i undef,h2,rfl,k1,k2⟩
 | cell i T=>
  simp only[FT] at hq;obtain⟨u,hu,hq⟩:=bind_some_inv hq;split at hq<;>first|(cases hq;done)|skip
  rename_i t' id p htm;split at hq<;>first|(cases hq;done)|skip
  rename_i hb;have:=Ty.eq_of_beq _ _ hb;subst this;obtain⟨o,ho,hq⟩:=bind_some_inv hq;have hi:i<a.tmps.size:=by
   rcases zna i a.tmps.size with hlt|hge
   ·exact hlt
   ·have:=h.tmu i (by rw[<-h.nt];exact hge)
    rw[htm] at this;cases this
  have hx:=h.tms i hi;rw[htm] at hx;obtain⟨b,off,hv,hγ,hob⟩:=pg hx;obtain⟨k1,rfl⟩:=hob o ho;obtain⟨a',cs,m1,m2,m3,m4,m5⟩:=pZ (h.obs id o b ho hγ) k1 hq;obtain⟨m6,m7⟩:=gW _ _ _ m3 m2;obtain⟨v,hrun,hval⟩:=jx (js hE hu m4) (w:=w) (b:=b) (off:=cE o p) m6 m7 m5;obtain⟨x,h1,h2⟩:=bind_some_inv m1;obtain⟨q1,q2,q3⟩:=qg _ _ _ _ h1 m2;have hag:=ET (tY _ _ _ h1) m3;refine⟨x,v,h2,?_,q1,q3 v ⟨hval.1,by rw[hag];exact hval.2.1,by rw[hag];exact hval.2.2⟩ hn⟩
  rw[<-hrun];simp only[p9,Instr.loadAt,Instr.sureAddr,pure_bind];rw[show a.tmps.getD i undef=.pointer (some ⟨b,cE o p,none⟩) from hv];rfl
theorem tL(hE:EnvOk P E)(h:Rp w0 S γ β s a w){R:Type}:∀ (ts:List Ty) (rs:List ResultVar) (k:List D->Option R) (y:R),bh ts=true->tK E s ts rs k=some y ->
  ∃ xs vs,k xs=some y/\(rs.mapM (p9 a.tmps)).run P w=.ok vs w/\fq ts xs/\vs.length=rs.length/\xs.length=vs.length/\∀ (i:Nat) (d:D) (u:Value),xs[i]?=some d->vs[i]?=some u->gj w S d u
 | [],[],k,y,_,hq=>by
  simp only[tK] at hq;exact⟨[],[],hq,rfl,rfl,rfl,rfl,λi d u h=>by simp at h⟩
 | [],_::_,k,y,_,hq=>by simp[tK] at hq
 | _::_,[],k,y,_,hq=>by simp[tK] at hq
 | t::ts,r::rs,k,y,hn,hq=>by
  simp only[tK] at hq;simp only[bh,zaa] at hn;obtain⟨x,v,h1,h2,h3,h4⟩:=Ch hE h hn.1 hq;obtain⟨xs,vs,k1,k2,k3,k4,k5,k6⟩:=tL hE h ts rs _ y hn.2 h1;refine⟨x::xs,v::vs,k1,?_,⟨x,xs,rfl,h3,k3⟩,by simp[k4],by simp[k5],λi d u hd hu=>?_⟩
  ·simp only[zld,zga,h2,zea,k2,zma]
  ·cases i with
   | zero=>simp at hd hu;subst hd;subst hu;exact h4
   | succ i=>simp at hd hu;exact k6 i d u hd hu
def iW(n:Nat)(rty:Ty):Bool:=if n=1 then au rty else match rty with|.tup ts=>bh ts|_=>false
def kL(hE:EnvOk P E)(h:Rp w0 S γ β s a w){fn:Func}{rty:Ty}{y:D}(hr:iW fn.results.size rty=true)(hq:results E s rty fn.results.toList=some y) :
  ∃ v,(Go.results fn a.tmps).run P w=.ok v w/\wt rty y/\DR w S y v:=by
 rw[nG];have hm:fn.results.mapM (p9 a.tmps)=Functor.map List.toArray (fn.results.toList.mapM (p9 a.tmps)):=by
  rw[zod]
 rw[hm];have hsz:fn.results.size=fn.results.toList.length:=by simp
 rw[hsz] at hr;generalize fn.results.toList=rs at *
 match rs,hr,hq with
 | [r],hr,hq=>
  have hr':au rty=true:=by simpa [iW] using hr
  simp only[results] at hq;obtain⟨x,v,h1,h2,h3,h4⟩:=Ch hE h hr' hq;simp only[zda] at h1;subst h1;refine⟨v,?_,h3,DR.of0 h4⟩;simp[zld,h2]
 | [],hr,hq=>
  simp only[iW,zib] at hr;obtain⟨ts,rfl⟩:∃ ts,rty=.tup ts:=by
   cases rty<;>first|exact⟨_,rfl⟩|(simp[results] at hq;done)
  simp only[results] at hq;obtain⟨xs,vs,k1,k2,k3,k4,k5,k6⟩:=tL hE h ts [] _ y (by simpa using hr) hq
  simp only[zda] at k1;subst k1;refine⟨.tuple vs.toArray,?_,by simp only[wt];exact⟨xs,rfl,k3⟩,vs,rfl,k5,k6⟩
  have:vs=[]:=zuc.1 k4;subst this;simp
 | r::r'::rs,hr,hq=>
  simp only[iW,zBa] at hr;rw[if_neg (by omega)] at hr
  obtain⟨ts,rfl⟩:∃ ts,rty=.tup ts:=by
   cases rty<;>first|exact⟨_,rfl⟩|(simp[results] at hq;done)
  simp only[results] at hq;obtain⟨xs,vs,k1,k2,k3,k4,k5,k6⟩:=tL hE h ts (r::r'::rs) _ y hr hq;simp only[zda] at k1;subst k1;refine⟨.tuple vs.toArray,?_,by simp only[wt];exact⟨xs,rfl,k3⟩,vs,rfl,k5,k6⟩
  have:vs.length≠1:=by rw[k4];simp
  have k2':((List.mapM (p9 a.tmps) (r::r'::rs)).run P w)=.ok vs w:=k2;simp only[zga,map_eq_pure_bind,k2',zea,zma];simp[this]
def kC{r:Root}{w:World}(h:ln r w)(hs:∀ b,¬ r.sh b):∃ os d,r.w.drawn<=d/\w=grown r.w os d:=by
 obtain⟨w0,S0,sh⟩:=r;obtain⟨h1,h2,h3,h4,hdr,h5⟩:=h;simp only[Root.heap,Root.Old] at *;refine⟨(w.heap.toList.drop w0.heap.size),w.drawn,hdr,?_⟩;have e:w.heap=w0.heap++(w.heap.toList.drop w0.heap.size).toArray:=by
  apply z7b;rw[Array.toList_append]
  conv=>lhs;rw[<-zoa w0.heap.size w.heap.toList]
  congr 1;apply zcc;intro i;by_cases hi:i<w0.heap.size
  ·rw[zvb hi,zya,h5 i ⟨hi,hs i⟩,zya]
  ·rw[z3a (by simp;omega),z3a (by simpa using hi)]
 cases w;simp only[grown] at *;subst h1;subst h2;subst h3;congr 1
def FZ{K:Nat}{ds:Option (List Deferred)}{x:Option (List Deferred)}(hk:w.heap[K]?=some (.deferred ds))(b:Nat):bN (setBlock w K (.deferred x)) b=bN w b:=by
 by_cases e:b=K
 ·subst e;simp only[bN,hk,gC (zfa.1 hk).1]
 ·simp only[bN,ef e]
def vK{K:Nat}{ds:Option (List Deferred)}{x:Option (List Deferred)}(hk:w.heap[K]?=some (.deferred ds))(b o:Nat):(setBlock w K (.deferred x)).cell? ⟨b,o,none⟩=w.cell? ⟨b,o,none⟩:=by
 by_cases e:b=K
 ·subst e;simp only[World.cell?,hk,gC (zfa.1 hk).1]
 ·simp only[World.cell?,ef e]
def Rp.shut(h:Rp w0 S γ β s a w){K:Nat}{ds:Option (List Deferred)}(hk:w.heap[K]?=some (.deferred ds))(hK:¬ w0.Old K)(x:Option (List Deferred)):Rp w0 S γ β s a (setBlock w K (.deferred x)):=by
 have hle:Cx.le ⟨w,S,γ,β,s.ob,s.dead⟩ ⟨setBlock w K (.deferred x),S,γ,β,s.ob,s.dead⟩:=
  ⟨λb o _=>vK hk b o,λ_ _ hb=>hb,λ_ _ hb=>hb,λi y hy _=>⟨y,hy,λp=>⟨rfl,rfl⟩,λt l e=>⟨l,e,rfl⟩,λ_ _ l e=>⟨l,e⟩⟩,λv hv=>⟨hv,λb' e he=>⟨he,λn hn=>by
   have hn':mU w b'=some n:=hn;show mU (setBlock w K (.deferred x)) b'=some n;simp only[mU,FZ hk] at hn' ⊢;exact hn'⟩⟩⟩
 refine⟨nv h.ext rfl rfl rfl (by rw[dT];exact zja _) (zja _) (λb' hb'=>ef λe=>hK (e ▸ hb')),λt ht=>(h.tms t ht).mono hle,h.nt,h.tmu,λi y b' hy hb'=>?_,λi b' hb'=>by rw[dT];exact h.γn i b' hb',h.γi,h.γf,
  λv b' e hv he=>by rw[dT];exact h.βn v b' e hv he,h.βi,h.βγ,h.βf,λb' o hb=>by rw[dT];exact h.Sb b' o hb,h.So⟩
 have hO:=h.obs i y b' hy hb';refine hO.mono hle (ef λe=>?_) λ_ hh=>hh;subst e;cases y<;>simp only[gL] at hO
 case one=>obtain⟨_,_,_,cs,k,_⟩:=hO;simp[bN,hk] at k
 case many=>obtain⟨_,_,_,cs,k,_⟩:=hO;simp[bN,hk] at k
 case mp=>obtain⟨_,_,_,es,k,_⟩:=hO;rw[hk] at k;cases k
 case lp=>obtain⟨r,k,_⟩:=hO;rw[hk] at k;cases k
theorem cr.set{lo:Nat}:∀ {l:List Deferred} {hi K:Nat} {x:Option (List Deferred)},hi<=K->cr lo w hi l->cr lo (setBlock w K (.deferred x)) hi l
 | [],_,_,_,_,_=>trivial
 | d::l,hi,K,x,hh,⟨J,h1,h2,h3,h4,h5⟩=>⟨J,h1,h2,h3,by rw[ef (by omega)];exact h4,cr.set (by omega) h5⟩
theorem u9{fn:Func}{tmps:Array Value}{Rn:Ending->World->Prop}{J:World->Prop}{lo:Nat}(hJ:∀ w K,J w->lo<=K->w.heap[K]?=some (.deferred (some []))->J (setBlock w K (.deferred none)))
  (hR:∀ w,J w->∃ v,(Go.results fn tmps).run P w=.ok v w/\Rn (.returned v) w):∀ (m:List Deferred) (hi:Nat) (w:World),cr lo w hi m->J w->LeavesInM (FW none) 0 P fn tmps Rn m .returning w
 | [],_,w,_,hw=>hR w hw
 | d::m,hi,w,⟨K,h1,h2,_,h4,h5⟩,hw=>by
  refine⟨by simp,.inl ⟨K,_,by rw[h1],run_takeDeferred h4,u9 hJ hR m K _ (cr.set (zja _) h5) (hJ w K hw h2 h4)⟩⟩
def lw(hE:EnvOk P E){f:FuncId}{fn:Func}{c:Code}(hf:P.funcs[f]?=some fn)(hb:fn.body=some c){args:Array Value}{ann:Ann}{R:Type}{k:Ex->St->Option R}{r:R}{Rn:Ending->World->Prop}
  (ha:a={ tmps:=args++Array.replicate (fn.ntmps-args.size) undef,defers:=[] }) (h:Rp w0 S γ β s a w) (hev:ev E c ann R s k=some r) (hk:∀ i s',k (.exit i) s'≠some r)
  (fin:∀ e s' S' γ' β' a' w',Rp w0 S' γ' β' s' a' w'->Fm s S γ a w S' γ' a' w'->Sk s s'->k e s'=some r->∃ v,(Go.results fn a'.tmps).run P w'=.ok v w'/\Rn (.returned v) w'):Calls P f args w Rn:=by
 refine callsIn_wide.1 (callsIn_of_wp_marks (F:=FW none) (n:=0) hf hb trivial ?_);rw[<-ha];refine BJ hE c ann R k r h hev λe s' S' γ' β' a' w' n1 n2 n3 n4=>?_;have hd:a.defers=[]:=by rw[ha]
 have key:LeavesInM (FW none) 0 P fn a'.tmps Rn a'.defers .returning w':=by
  obtain⟨q1,m,q2,q3,_⟩:=n2.dfs;rw[hd,z4b] at q2;rw[q2];refine u9 (J:=λw2=>Rp w0 S' γ' β' s' { a' with defers:=a.defers } w2/\Fm s S γ a w S' γ' { a' with defers:=a.defers } w2) (lo:=w.heap.size) (λw2 K ⟨j1,j2⟩ hlo h4=>?_) (λw2 ⟨j1,j2⟩=>fin e s' S' γ' β' _ w2 j1 j2 n3 n4) m _ w' q3 ⟨n1.act rfl,⟨n2.sub,n2.cell,n2.slots,n2.objs,n2.sz,n2.gam,ku.same rfl q1⟩⟩;have hold:¬ w0.Old K:=λho=>by have:=ho.1;have:=h.ext.sz;omega
  refine⟨j1.shut h4 hold none,j2.sub,λb o hbo=>(vK h4 b o).trans (j2.cell b o hbo),j2.slots,λi hi b hb=>?_,by rw[dT];exact j2.sz,j2.gam,ku.same rfl λb=>?_⟩
  ·obtain⟨z1,z2⟩:=j2.objs i hi b hb;have hlt:=(h.γn i b hb).2;exact⟨z1,z2.trans (.inl (ef (by omega)))⟩
  ·obtain⟨z1,z2⟩:=j2.dfs.1 b;have hne:b<w.heap.size->b≠K:=λ_=>by omega
   refine⟨λhb=>?_,λ⟨r,hb⟩=>?_⟩
   ·rw[ef (hne (zfa.1 hb).1)];exact z1 hb
   ·rw[ef (hne (zfa.1 hb).1)];exact z2 ⟨r,hb⟩
 cases e with
 | normal=>exact key
 | ret=>exact key
 | exit i=>exact absurd n4 (hk i s')
def CN(hE:EnvOk P E){f:FuncId}{fn:Func}{ann:Ann}{ptys:List Ty}{rty:Ty}{xs:List D}{y:D}(hf:P.funcs[f]?=some fn)(hsz:ptys.length<=fn.ntmps)(hn:bh ptys=true)(hr:iW fn.results.size rty=true)
  (h:Tk E fn ann ptys rty xs=some y):Me P ptys rty f xs y:=by
 intro w S vs hS hwt hlen hvs;unfold Tk at h;split at h<;>first|(cases h;done)|skip
 rename_i c hb;have hxl:xs.length=ptys.length:=kU hwt;have hntm:(vs.toArray++Array.replicate (fn.ntmps-vs.toArray.size) undef).size=fn.ntmps:=by
  simp;omega
 refine lw (w0:=⟨w,S,λ_=>False⟩) (S:=S) (γ:=λ_=>none) (β:=λ_=>none) hE hf hb rfl ?_ h (λ_ _ hh=>by cases hh) λe s' S' γ' β' a' w' n1 n2 n3 n4=>?_
 ·refine⟨⟨rfl,rfl,rfl,zja _,zja _,λ_ _=>rfl⟩,λt ht=>?_,hntm,λt ht=>?_,λid o b ho=>(by cases ho),λid b hb=>(by cases hb),λid id' b hb=>(by cases hb),λ_ _=>rfl,λv b e _ hb=>(by cases hb),λv v' b e e' _ _ hb=>(by cases hb),λv id b e _ hb=>(by cases hb),λ_ _=>rfl,hS,λb o hb _=>hb⟩
  ·simp only[lK];split
   ·rename_i ty x e1 e2;have hlt:=(zla.1 e2).1;have hlt':t<vs.length:=by omega
    have hv:(vs.toArray++Array.replicate (fn.ntmps-vs.toArray.size) undef).getD t undef=vs[t]:=by
     simp[Array.getD,zcd,hlt'];omega
    show AR _ _ ((vs.toArray++Array.replicate (fn.ntmps-vs.toArray.size) undef).getD t undef);rw[hv];obtain⟨x',hx',hw'⟩:=ig hwt e1;rw[e2] at hx';cases hx';exact dX (cb hn e1) hw' (hvs t x _ e2 (zca hlt'))
   ·simp only[AR]
  ·have ht':fn.ntmps<=t:=ht;simp only[lK];rw[z3a (by omega)]
 ·have hres:results E s' rty fn.results.toList=some y->(∃ v,(Go.results fn a'.tmps).run P w'=.ok v w'/\∃ v',Ending.returned v=.returned v'/\(∃ os d,w.drawn<=d/\w'=grown w os d)/\wt rty y/\DR w' (λb o=>S b o\/(w.heap.size<=b/\b<w'.heap.size)) y v'):=λhq=>by
   obtain⟨v,k1,k2,k3⟩:=kL hE n1 hr hq;refine⟨v,k1,v,rfl,kC n1.ext (λ_ hf=>hf),k2,k3.mono (λ_ _ _=>rfl) λb o hb=>?_⟩;rcases zna b w.heap.size with hlt|hge
   ·exact .inl (n1.So b o hb ⟨hlt,λhf=>hf⟩)
   ·exact .inr ⟨hge,n1.Sb b o hb⟩
  cases e with
  | normal=>exact hres n4
  | ret=>exact hres n4
  | exit i=>cases n4
def yI(tys:List Ty)(k:Nat)(args:List D)(i:Nat):AV:=
 if i+k<tys.length then lK tys args i else match tys[i]? with
  | some t=>.ptr t (i+k-tys.length) []
  | none=>.undef
def LV(tys:List Ty)(k:Nat)(args:List D)(j:Nat):Option Ob:=
 if j<k then match tys[tys.length-k+j]?,args[tys.length-k+j]? with
  | some t,some x=>some (.one t (.d t x))
  | _,_=>none
 else none
def lL:Option Ob->Bool
 | some (.one _ _)=>true
 | _=>false
def KN(E:Env)(fn:Func)(ann:Ann)(tys:List Ty)(k:Nat)(rty:Ty)(args:List D):Option D:=
 match fn.body with
 | none=>none
 | some c=>ev E c ann D { tm:=yI tys k args,ob:=LV tys k args,fresh:=0,dead:=[],nt:=fn.ntmps,lkS:=[],lkO:=List.range k } λe s=>match e with
  | .exit _=>none
  | _=>if(List.range k).all (λj=>lL (s.ob j)) then results E s rty fn.results.toList else none
def Ad(hE:EnvOk P E){f:FuncId}{fn:Func}{ann:Ann}{ptys:List Ty}{k:Nat}{rty:Ty}{xs:List D}{y:D}(hf:P.funcs[f]?=some fn)(hsz:ptys.length<=fn.ntmps)(hn:bh ptys=true)(hk:k<=ptys.length)(hk4:k<=4095)(hr:iW fn.results.size rty=true)
  (h:KN E fn ann ptys k rty xs=some y):Mf P ptys rty f xs y k:=by
 intro w S vs bs hS hwt hbl hlen hnd hvs hbs;unfold KN at h;split at h<;>first|(cases h;done)|skip
 rename_i c hb;have hxl:xs.length=ptys.length:=kU hwt;have hvl:vs.length=ptys.length-k:=by omega
 obtain⟨l,hl⟩:∃ l,l=vs++bs.map Du:=⟨_,rfl⟩;have hll:l.length=ptys.length:=by rw[hl];simp;omega
 rw[<-hl];have hntm:(l.toArray++Array.replicate (fn.ntmps-l.toArray.size) undef).size=fn.ntmps:=by
  simp;omega
 have hget:∀ t,t<l.length->(l.toArray++Array.replicate (fn.ntmps-l.toArray.size) undef).getD t undef=l.getD t undef:=λt ht=>by
  simp[Array.getD,zcd,ht];omega
 have cap:∀ j b,bs[j]?=some b->j<k/\∃ t x,ptys[ptys.length-k+j]?=some t/\xs[ptys.length-k+j]?=some x/\wt t x/\Kd w S x b:=λj b hj=>by
  have hjk:j<k:=by rw[<-hbl];exact(zla.1 hj).1
  have h1:ptys.length-k+j<ptys.length:=by omega
  obtain⟨x,hx,hw⟩:=ig hwt (zca h1);exact⟨hjk,_,x,zca h1,hx,hw,hbs j x b (by rw[hvl];exact hx) hj⟩
 have capn:∀ j b,bs[j]?=some b->b<w.heap.size:=λj b hj=>by
  obtain⟨_,t,x,_,_,_,_,cs,q,_⟩:=cap j b hj;simp only[bN] at q;split at q<;>first|(cases q;done)|skip
  rename_i hh;exact(zfa.1 hh).1
 have key:∀ t,AR ⟨w,S,λid=>bs[id]?,λ_=>none,LV ptys k xs,[]⟩ (yI ptys k xs t) ((l.toArray++Array.replicate (fn.ntmps-l.toArray.size) undef).getD t undef):=λt=>by
  simp only[yI];split
  ·rename_i hlt;rw[hget t (by omega)]
   simp only[lK];split
   ·rename_i ty x e1 e2;have hlt':t<vs.length:=by omega
    have hv:l.getD t undef=vs[t]:=by
     rw[hl,zSa,zfb hlt',zca hlt'];rfl
    rw[hv];obtain⟨x',hx',hw'⟩:=ig hwt e1;rw[e2] at hx';cases hx';exact dX (cb hn e1) hw' (hvs t x _ e2 (zca hlt'))
   ·simp only[AR]
  ·rename_i hge;split
   ·rename_i ty e1;have hlt:=(zla.1 e1).1;obtain⟨j,hj⟩:∃ j,j=t+k-ptys.length:=⟨_,rfl⟩;have hjk:j<bs.length:=by omega
    have ht':t=ptys.length-k+j:=by omega
    rw[hget t (by omega),<-hj]
    have hv:l.getD t undef=Du bs[j]:=by
     rw[hl,zSa,zyb (by omega),show t-vs.length=j by omega,zcb,zca hjk];rfl
    rw[hv];refine ii (zca hjk) λo ho=>?_;have ho':LV ptys k xs j=some o:=ho;unfold LV at ho';split at ho'<;>first|(cases ho';done)|skip
    split at ho'<;>first|(cases ho';done)|skip
    rename_i u x q1 q2;cases ho';rw[<-ht',e1] at q1;cases q1;exact⟨rfl,rfl⟩
   ·simp only[AR]
 refine lw (w0:=⟨w,S,λb=>b∈bs⟩) (S:=S) (γ:=λid=>bs[id]?) (β:=λ_=>none) hE hf hb rfl ?_ h (λ_ _ hh=>by cases hh) λe s' S' γ' β' a' w' n1 n2 n3 n4=>?_
 ·refine⟨⟨rfl,rfl,rfl,zja _,zja _,λ_ _=>rfl⟩,λt ht=>?_,hntm,λt ht=>?_,λid o b ho hb=>?_,λid b hb=>⟨λho=>ho.2 (z8a hb),capn id b hb⟩,λid id' b hb hb'=>hnd id id' b hb hb',λid hid=>z3a ?_,λv b e _ hb=>(by cases hb),λv v' b e e' _ _ hb=>(by cases hb),λv id b e _ hb=>(by cases hb),λ_ _=>rfl,hS,λb o hb _=>hb⟩
  ·exact key t
  ·have ht':fn.ntmps<=t:=ht;show yI ptys k xs t=.undef;unfold yI;rw[if_neg (by omega),z3a (by omega)]
  ·have ho':LV ptys k xs id=some o:=ho;obtain⟨hjk,t,x,q1,q2,q3,q4,cs,q5,q6⟩:=cap id b hb;unfold LV at ho';rw[if_pos hjk,q1,q2] at ho';cases ho';have q0:=cb hn q1;simp only[gL,AV.fits,AC];exact⟨q0,Ty.beq_refl' t,q4,cs,q5,⟨q3,q0,q6⟩,by rw[<-q6.1];exact cq _ _ q3 q0⟩
  ·have hid':0*4096+4096<=id:=hid;omega
 ·have stay:∀ b∈bs,w'.heap[b]?=w.heap[b]?/\((List.range k).all (λj=>lL (s'.ob j))=true->∀ o,¬ S' b o):=λb hb=>by
   obtain⟨j,hj⟩:=List.getElem?_of_mem hb;obtain⟨hjk,t,x,q1,q2,q3,q4,cs,q5,q6⟩:=cap j b hj;obtain⟨z1,z2⟩:=n2.objs j (zJa.2 hjk) b hj;refine⟨z2.row q5,λhall=>?_⟩;have:=zpa.1 hall j (zJa.2 hjk);cases ho:s'.ob j with
   | none=>rw[ho] at this;cases this
   | some o=>
    rw[ho] at this;have hO:=n1.obs j o b ho z1;cases o<;>simp only[lL] at this<;>first|(cases this;done)|skip
    simp only[gL] at hO;exact hO.2.2.1
  have hres:(if(List.range k).all (λj=>lL (s'.ob j)) then results E s' rty fn.results.toList else none)=some y->(∃ v,(Go.results fn a'.tmps).run P w'=.ok v w'/\∃ v',Ending.returned v=.returned v'/\(∃ os d,w.drawn<=d/\w'=grown w os d)/\wt rty y/\DR w' (λb o=>S b o\/(w.heap.size<=b/\b<w'.heap.size)) y v'):=λhq=>by
   split at hq<;>first|(cases hq;done)|skip
   rename_i hall;obtain⟨v,k1,k2,k3⟩:=kL hE n1 hr hq;refine⟨v,k1,v,rfl,kC (r:=⟨w,S,λ_=>False⟩) ⟨n1.ext.tape,n1.ext.os,n1.ext.output,n1.ext.sz,n1.ext.dr,λb hb=>?_⟩ (λ_ hf=>hf),k2,k3.mono (λ_ _ _=>rfl) λb o hb=>?_⟩
   ·by_cases hm:b∈bs
    ·exact(stay b hm).1
    ·exact n1.ext.old b ⟨hb.1,hm⟩
   ·rcases zna b w.heap.size with hlt|hge
    ·by_cases hm:b∈bs
     ·exact absurd hb ((stay b hm).2 hall o)
     ·exact .inl (n1.So b o hb ⟨hlt,hm⟩)
    ·exact .inr ⟨hge,n1.Sb b o hb⟩
  cases e with
  | normal=>exact hres n4
  | ret=>exact hres n4
  | exit i=>cases n4
end
end Sy
end
end Go.Proofs.YtpahompifldeeaaGreat
