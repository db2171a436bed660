/- Part 5 of the proof that PlaneOfBoxes answers true at every input -/
import Derived.Test.YtphlmegkommlnaaGreatDoorBoxe01
import Derived.Test.YtphlmegkommlnaaGreatDoorBoxe02
import Derived.Test.YtphlmegkommlnaaGreatDoorBoxe04
import Derived.Scope
import Derived.RangeFuncLeaves
import Derived.Shelf.SlSortCmp.InsertionK
import Derived.ProofKit
import Derived.Carry
import Derived.Test.YtphlmegkommlnaaGreatDoorProg
set_option linter.unusedVariables false
set_option linter.unusedSimpArgs false
set_option linter.unnecessarySimpa false
set_option linter.defProp false
set_option maxRecDepth 20000
namespace Go.Proofs.YtphlmegkommlnaaGreatDoor
noncomputable section
namespace Sy
open Go
open Go.ChangeMaps (setBlock)
open Go.RowKit
variable{ro:Option Nat}{nn:Nat}
section
variable{P:Program}{E:Env}{w0:Root}{S:Nat->Nat->Prop}{γ:Nat->Option Nat}{β:Nat->Option (Nat×Nat)}{s:St}{a:Act}{w:World}
def Kp(Q:Exit->Act->World->Prop)(w0:Root)(s:St)(S:Nat->Nat->Prop)(γ:Nat->Option Nat)(a:Act)(w:World){R:Type}(k:Ex->St->Option R)(r:R):Prop:=
 ∀ e s' S' γ' β' a' w',Rp w0 S' γ' β' s' a' w'->Fm s S γ a w S' γ' a' w'->Sk s s'->k e s'=some r->Q (IE e) a' w'
def J4{c:Cx}{x:AV}{v:Value}(h:AR c x v):fR c (jO c.ob x) v:=by
 cases x<;>simp only[jO]<;>first|(simp only[fR];done)|skip
 case d t y=>exact h
 case own t u l=>exact ny (c:=c) (c':=c) (λ_ _ _=>rfl) (λ_ _ h=>h) h
 case fptr t y=>exact h
 case ptr t id p=>
  cases p with
  | cons i p=>simp only[fR]
  | nil=>
   simp only;split
   ·rename_i a;simp only[AR] at h;simp only[fR,ul];exact yr a h.1 h.2
   ·simp only[fR]
 case clo f l=>exact Fc h
 case yld id=>exact h
 case map kt vt id=>exact Fd h
def Rp.act(h:Rp w0 S γ β s a w){a':Act}(ht:a'.tmps=a.tmps):Rp w0 S γ β s a' w:=
 ⟨h.ext,by rw[ht];exact h.tms,by rw[ht];exact h.nt,h.tmu,h.obs,h.γn,h.γi,h.γf,h.βn,h.βi,h.βγ,h.βf,h.Sb,h.So⟩
def Iy(d:∀ l,ro=some l->∃ r0,w.heap[l]?=some (Obj.loop r0))(a:FuncId)(tmps:Array Value)(ps:Array Tmp)(asg bdy:Code) :
  ∃ L mark os rec,(Instr.enterLoop a tmps ps asg bdy ro).run P w=.ok (L,mark) (grown w os w.drawn)/\(grown w os w.drawn).heap[L]?=some (Obj.loop rec)/\rec.tmps=tmps/\rec.params=ps/\rec.assign=asg/\rec.body=bdy/\rec.state=.ready/\rec.pending=none ∧
   w.heap.size<=L/\cK w.heap.size (grown w os w.drawn) (grown w os w.drawn).heap.size mark:=by
 cases ro with
 | none=>
  obtain⟨W1,b⟩:∃ W1,W1=(w.alloc (.deferred (some []))).alloc (.loop { state:=.ready,pending:=none,fn:=a,tmps,params:=ps,assign:=asg,body:=bdy,defers:=w.heap.size }):=⟨_,rfl⟩;have c:W1=grown w [.deferred (some []),.loop { state:=.ready,pending:=none,fn:=a,tmps,params:=ps,assign:=asg,body:=bdy,defers:=w.heap.size }] w.drawn:=by rw[b];unfold grown;show({ w with heap:=(w.heap.push _).push _ }:World)=_;congr 1<;>(apply zpc;simp)
  have f:W1.heap[w.heap.size+1]?=some (.loop { state:=.ready,pending:=none,fn:=a,tmps,params:=ps,assign:=asg,body:=bdy,defers:=w.heap.size }):=by rw[b];have:=World.alloc_heap_new (w.alloc (.deferred (some []))) (.loop { state:=.ready,pending:=none,fn:=a,tmps,params:=ps,assign:=asg,body:=bdy,defers:=w.heap.size });rwa [World.size_alloc] at this
  have e:W1.heap[w.heap.size]?=some (.deferred (some [])):=by rw[b];exact(Below.heap_alloc _ _ _ j3).trans (World.alloc_heap_new w _)
  refine⟨w.heap.size+1,[{ target:=.collected w.heap.size,args:=#[] }],[.deferred (some []),.loop { state:=.ready,pending:=none,fn:=a,tmps,params:=ps,assign:=asg,body:=bdy,defers:=w.heap.size }],{ state:=.ready,pending:=none,fn:=a,tmps,params:=ps,assign:=asg,body:=bdy,defers:=w.heap.size },(run_enterLoop_outer a tmps ps asg bdy).trans ?_,?_,rfl,rfl,rfl,rfl,rfl,rfl,z1c _,w.heap.size,rfl,zia _,?_,?_,trivial⟩
  rotate_left 1
  ·simp_all
  rotate_left 1
  ·simp_all
  ·simp_all
  ·grind
 | some l0=>
  obtain⟨r0,h0⟩:=d l0 rfl;obtain⟨W1,b⟩:∃ W1,W1=w.alloc (.loop { state:=.ready,pending:=none,fn:=a,tmps,params:=ps,assign:=asg,body:=bdy,defers:=r0.defers }):=⟨_,rfl⟩;have c:W1=grown w [.loop { state:=.ready,pending:=none,fn:=a,tmps,params:=ps,assign:=asg,body:=bdy,defers:=r0.defers }] w.drawn:=by simp_all [grown]
  refine⟨w.heap.size,[],[.loop { state:=.ready,pending:=none,fn:=a,tmps,params:=ps,assign:=asg,body:=bdy,defers:=r0.defers }],{ state:=.ready,pending:=none,fn:=a,tmps,params:=ps,assign:=asg,body:=bdy,defers:=r0.defers },(run_enterLoop_inner h0 a tmps ps asg bdy).trans ?_,?_,rfl,rfl,rfl,rfl,rfl,rfl,zia _,trivial⟩
  rotate_left 1
  ·rw[<-c,b];exact World.alloc_heap_new w _
  ·simp_all
def Pv(hE:EnvOk P E){Q:Exit->Act->World->Prop}(hro:∀ l,ro=some l->∃ r0,w.heap[l]?=some (Obj.loop r0))(h:Rp w0 S γ β s a w){f:Operand}{ps:Array Tmp}{asg bdy:Code}{an:Ann}{R:Type}{k:Ex->St->Option R}{r:R}
  (hev:Xr E f ps asg bdy an s k=some r) (hQ:Kp Q w0 s S γ a w k r):(Code.rangeFunc f ps asg bdy).wpIn (FW ro) nn P Q a w:=by
 unfold Xr at hev;split at hev<;>first|(cases hev;done)|skip
 rename_i t;split at hev<;>first|(cases hev;done)|skip
 rename_i g l htm;split at hev<;>first|(cases hev;done)|skip
 rename_i hcond;simp only[zaa,zTa] at hcond;obtain⟨hp,h4095⟩:=hcond;obtain⟨G,hG,hev⟩:=ab hev;obtain⟨id,hid⟩:∃ id,id=(s.fresh+1)*4096:=⟨_,rfl⟩;rw[<-hid] at hev;obtain⟨info,hinfo⟩:∃ info:LpI,info={ nt:=s.nt,ps:=ps.toList,asg:=asg,bdy:=bdy,caps:=λj=>jO s.ob (s.tm j) }:=⟨_,rfl⟩;rw[<-hinfo] at hev;obtain⟨⟨fn,f1,f2,f3⟩,hI⟩:=hE.inl g G hG;have hb:¬ fn.body=none:=h7
 have f2' : ¬ fn.name = "runtime.NumGoroutine" := by simpa using f2
 refine wpIn_rangeFunc λfid _=>?_;obtain⟨L,mark,os,rec,e1,e2,e3,e4,e5,e6,e7,e8,e9,e10⟩:=Iy (P:=P) hro fid a.tmps ps asg bdy;obtain⟨w1,hw1⟩:∃ w1,w1=grown w os w.drawn:=⟨_,rfl⟩;obtain⟨g1,le1⟩:=h.grow (os:=os) (d:=w.drawn) (zia _) (S':=S) (λ_ _ hb=>hb) (λ_ _ hb=>.inl hb);have kept1:dw w (grown w os w.drawn):=dw.grown;have hsz1:w.heap.size<=(grown w os w.drawn).heap.size:=j3
 have hcell1:∀ b o,S b o->(grown w os w.drawn).cell? ⟨b,o,none⟩=w.cell? ⟨b,o,none⟩:=λb o hb=>dN (h.Sb b o hb);have hold1:∀ b,b<w.heap.size->(grown w os w.drawn).heap[b]?=w.heap[b]?:=λb hb=>dB hb;rw[<-hw1] at e1 e2 e10 g1 kept1 hsz1 hcell1 hold1;clear le1 hw1;have hLlt:=(zza.1 e2).1;have hγid:γ id=none:=h.γf id (by rw[hid];simp only[St.base];omega)
 obtain⟨sX,hsX⟩:∃ sX,sX=({ s with fresh:=s.fresh+1 }:St).setOb id (some (.lp info none)):=⟨_,rfl⟩;rw[<-hsX] at hev;have q1:Rp w0 S γ β sX a w1:=by rw[hsX];exact(g1.later.setFree (id:=id) hγid _).1
 have RX:Rp w0 S (pw γ id L) β sX a w1:=by
  refine(q1.newOb (id:=id) (b:=L) hγid (λho=>?_) hLlt (λi hi=>?_) (λu f hu hf=>?_) ?_ λo ho=>?_).1
  ·have:=ho.1;have:=h.ext.sz;omega
  ·have:=(h.γn i _ hi).2;omega
  ·have hu':u ∉ s.dead:=by rw[hsX] at hu;exact hu
   have:=(h.βn u _ _ hu' hf).2.1;omega
  ·rw[hsX];show id<(s.fresh+1)*4096+4096;omega
  ·have ho':some (Ob.lp info none)=some o:=by rw[<-ho,hsX];simp[St.setOb]
   cases ho';simp only[gm];refine⟨rec,e2,⟨by rw[e3,hinfo];exact h.nt,by rw[e4,hinfo],by rw[e5,hinfo],by rw[e6,hinfo]⟩,λu hu=>?_,e7,e8⟩
   rw[e3,hinfo];have hu':u<s.nt:=by rw[hinfo] at hu;exact hu
   exact fR.mono (c:=⟨w,S,γ,β,s.ob,s.dead⟩) (c':=⟨w1,S,pw γ id L,β,sX.ob,sX.dead⟩) hcell1 (λ_ _ hb=>hb) (λi b hb=>fo hγid hb) (J4 (h.tms u (by rw[h.nt];exact hu')))
 have hA:=aT RX (.tmp t);have htX:sX.tm t=.clo g l:=by rw[hsX];exact htm
 have hA':AR ⟨w1,S,pw γ id L,β,sX.ob,sX.dead⟩ (.clo g l) (a.eval (.tmp t)):=by rw[<-htX];exact hA
 simp only[AR,AC] at hA';obtain⟨na,caps,hcs,hcap⟩:=hA';have hv:=ar na hcs;obtain⟨k1,k2⟩:=mH l caps hp hcap;refine⟨L,mark,w1,{ target:=.fn (.func g) caps.toArray,args:=#[.func (.yield L) #[] #[]] },w1,g,(Value.func (.yield L) #[] #[]::caps).toArray,w1,e1,?_,λ_ _=>trivial,?_,λh=>(by cases h),?_⟩
 ·simp_all [resolve,go_sem,Deferred.ofValue,Act.eval]
 ·simp[invoke,callFunc,f1,f2',hb]
 have hc:=hI an R w0 S (pw γ id L) β sX a w1 (.yld id::l) (Value.func (.yield L) #[] #[]::caps) _ r RX (by simp[k1]) (λi x v hx hv=>by
  cases i with
  | zero=> simp only[zWb,zda] at hx hv;subst hx;subst hv;simp only[AR,AC];exact⟨λ_ h=>(by cases h),L,rfl,bH _ _ _⟩
  | succ i=>exact k2 i x v (by simpa using hx) (by simpa using hv)) hev
 refine A0 (hc.mono λe w' ⟨v,y,s',S',γ',β',z1,z2,z3,_,z5,z6⟩=>?_);subst z1;have hγ':γ' id=some L:=z5.gam id L (bH _ _ _);have fin:∀ (p:Option Ex) (i:LpI),s'.ob id=some (.lp i p)->∃ w4,(Instr.endLoop L).run P w'=.ok (p.map CZ) w4/\Rp w0 S' γ' β' (s'.setOb id none) { a with defers:=mark++a.defers } w4/\Fm s S γ a w S' γ' { a with defers:=mark++a.defers } w4/\Sk s (s'.setOb id none):=by
  intro p i hob;have hO:=z3.obs id _ L hob hγ';simp only[gm] at hO;obtain⟨rec',v1,_,_,v4⟩:=hO;have hst:rec'.state≠.busy/\rec'.pending=p.map CZ:=by
   cases p with
   | none=>exact⟨by rw[v4.1];simp,v4.2⟩
   | some e=>exact⟨by rw[v4.1];simp,v4.2⟩
  have F4:=Fm.setLp z3 (s1:=s) v1 (r':={ rec' with state:=.exhausted }) ⟨rfl,rfl,rfl,rfl⟩;have hlkO:sX.lkO=s.lkO:=by rw[hsX];rfl
  have hlkS:sX.lkS=s.lkS:=by rw[hsX];rfl
  have hnt:sX.nt=s.nt:=by rw[hsX];rfl
  refine⟨_,by rw[<-hst.2];exact run_endLoop v1 hst.1,(z3.setLp hγ' v1 _).act rfl,⟨z5.sub,λb o hb=>(F4.cell b o (z5.sub b o hb)).trans ((z5.cell b o hb).trans (hcell1 b o hb)),λ_ _=>rfl,λj hj b hb=>?_,zIa hsz1 (zIa z5.sz F4.sz),λj b hb=>z5.gam j b (fo hγid hb),?_,mark,rfl,?_,?_⟩,⟨z6.lkS.trans hlkS,z6.lkO.trans hlkO,z6.nt.trans hnt⟩⟩
  ·obtain⟨y1,y2⟩:=z5.objs j (by rw[hlkO];exact hj) b (fo hγid hb)
   obtain⟨_,y3⟩:=F4.objs j hj b y1;exact⟨y1,(km.trans (.inl (hold1 b (h.γn j b hb).2)) y2).trans y3⟩
  ·exact(kept1.trans z5.dfs.1).trans F4.dfs.1
  ·exact e10.mono (zia _) (z5.dfs.1.trans F4.dfs.1) (zIa z5.sz F4.sz)
  ·intro hh;have:s.lkO.contains 4095=true:=by simpa using hh
   rw[this] at h4095;cases h4095
 simp only[rangePost];split at z2<;>first|(cases z2;done)|skip
 ·rename_i i hob;obtain⟨w4,y1,y2,y3,y4⟩:=fin none i hob;exact⟨_,w4,y1,hQ .normal _ S' γ' β' _ w4 y2 y3 y4 z2⟩
 ·rename_i i e hob;obtain⟨w4,y1,y2,y3,y4⟩:=fin (some e) i hob;refine⟨_,w4,y1,?_⟩;have hq:=hQ e _ S' γ' β' _ w4 y2 y3 y4 z2;cases e with
  | normal=>exact wpIn_skip hq
  | exit j=>exact wpIn_exit hq
  | ret=>exact wpIn_ret hq
end
end Sy
end
noncomputable section
namespace Sy
open Go
variable{ro:Option Nat}{nn:Nat}
section
variable{V:Nat->St->Option AV}{ops:Array Oper}{md:Region.Mode}
def wj(V:Nat->St->Option AV)(ops:Array Oper)(i:Nat)(K:St->Prop)(s:St):Prop:=
 match ops[i]? with
 | none=>K s
 | some o=>∃ v,V i s=some v/\K (s.put o.dst v)
def u7(V:Nat->St->Option AV)(md:Region.Mode)(ops:Array Oper)(n:Nat)(L:Array Bool->St->Prop):Nat->Array Bool->St->Prop
 | 0,listed,s=>L listed s
 | f+1,listed,s=>Region.ready md ops listed≠[]/\∀ i∈Region.ready md ops listed,i<n/\wj V ops i (u7 V md ops n L f (listed.setIfInBounds i true)) s
def ou(V:Nat->St->Option AV)(ops:Array Oper):Nat->Nat->St->Option St
 | 0,_,s=>some s
 | c+1,k,s=>(V k s).bind λv=>ou V ops c (k+1) (s.put ((ops[k]?).bind (·.dst)) v)
theorem Cm:∀ (c d k:Nat) (s:St),ou V ops (c+d) k s=(ou V ops c k s).bind λs'=>ou V ops d (k+c) s'
 | 0,d,k,s=>by simp[ou]
 | c+1,d,k,s=>by
  rw[show c+1+d=(c+d)+1 by omega]
  simp only[ou];cases V k s with
  | none=>rfl
  | some v=> simp only[zba];rw[Cm c d (k+1),show k+1+c=k+(c+1) by omega]
def WI(V:Nat->St->Option AV)(ops:Array Oper):Prop:=∀ i a,ops[i]?=some a->∀ (s:St) (d:Option Nat) (v:AV),(∀ t,d=some t->t ∉ a.looksAt ops)->V i (s.put d v)=V i s
def Bu{n i:Nat}{w:Oper}{v:AV}{L:Array Bool->St->Prop}(z:WI V ops)(E:ops[i]?=some w)(A:xa md ops n)(q:i<n)
  (m:∀ listed s,L listed s->∀ j∈Region.ready md ops listed,n<=j) :
  ∀ (f:Nat) (listed:Array Bool) (s:St),HeadInv md ops n listed ->
   (∀ j l,ops[j]?=some l->j≠i->listed.getD j true=false->(∀ e∈l.after,Region.binds md e=true->e.on≠i)->w.apart ops l=true) ->
   i∈Region.ready md ops listed->V i s=some v ->
   u7 V md ops n L f (listed.setIfInBounds i true) (s.put w.dst v)->u7 V md ops n L (f+1) listed s:=by
 intro f
 induction f with
 | zero=>
  intro listed s inv _ g hy H;have c:=(mem_ready.1 g).1;refine⟨λh=>(by rw[h] at g;cases g),λj o=>?_⟩
  have b:j<n:=by
   rcases zxa j n with h|h
   ·exact h
   ·exact z3a o (A _ _ inv q c j h)
  refine⟨b,?_⟩;by_cases hji:j=i
  ·simp_all [wj]
  ·have:=m _ _ H j (ready_mono o hji);omega
 | succ f ih=>
  intro listed s inv a g hy H;have c:=(mem_ready.1 g).1;refine⟨λh=>(by rw[h] at g;cases g),λj o=>?_⟩
  have b:j<n:=by
   rcases zxa j n with h|h
   ·exact h
   ·exact z3a o (A _ _ inv q c j h)
  refine⟨b,?_⟩;by_cases hji:j=i
  ·simp_all [wj]
  ·have h1:=(H.2 j (ready_mono o hji)).2;obtain⟨r,l,p,B⟩:=mem_ready.1 o;have t:∀ e∈l.after,Region.binds md e=true->e.on≠i:=λe he G heq=>by
    grind
   obtain⟨a1,a2,a3⟩:=Oper.apart_spec (a j l p hji r t);unfold wj at h1 ⊢;rw[p] at h1 ⊢;obtain⟨u,C,F⟩:=h1;rw[z j l p _ _ _ a1] at C;refine⟨u,C,ih (listed.setIfInBounds j true) (s.put l.dst u) (inv.set o b) (λk ok hk x c y=>?_) (ready_mono g (Ne.symm hji)) ?_ ?_⟩
   ·refine a k ok hk x ?_ y;by_cases hjk:j=k
    ·simp_all
    ·simp_all
   ·rw[z i w E _ _ _ a3];exact hy
   ·rw[Array.setIfInBounds_comm _ _ hji,B8 u v (λd D he=>a2 d he D)];exact F
theorem xD{n g:Nat}{sF:St}(m:WI V ops)(hn:n<=ops.size)(o:xa md ops n) :
  ∀ (c k:Nat) (listed:Array Bool) (s:St),k+c=n->HeadInv md ops n listed->(∀ i,i<k->listed.getD i false=true) ->
  Region.lexHead md ops g c k listed=true->ou V ops c k s=some sF ->
  u7 V md ops n (λa s'=>Region.seqB md ops g n a=true/\(∀ i,i<n->a.getD i false=true)/\s'=sF) c listed s
 | 0,k,listed,s,hk,_,hl,f,h=>by
  have:k=n:=by simpa using hk
  subst this;simp only[ou,zda] at h;exact⟨by simpa [Region.lexHead] using f,hl,h⟩
 | c+1,k,listed,s,hk,inv,hl,f,h=>by
  have b:k<n:=j1
  have l:k<ops.size:=j1
  have h0:ops[k]?=some ops[k]:=zod l;simp only[Region.lexHead,zaa] at f;obtain⟨⟨p,hf⟩,j⟩:=f;have d:k∈Region.ready md ops listed:=by simpa using p
  simp only[ou] at h;obtain⟨v,h1,h2⟩:=ab h;rw[h0,zba] at h2;refine Bu m h0 o b (λa s' hL=>seqB_ready hL.1) c listed s inv (Region.free_spec h0 hf) d h1
   (xD m hn o c (k+1) _ _ j1 (inv.set d b) (λi q=>?_) j h2)
  by_cases e:i=k
  ·simp_all [inv.size]
  ·exact getD_set_true (hl i j1)
theorem xC{n:Nat}{L:Array Bool->St->Prop}{T:List Nat}:∀ (f:Nat) (listed:Array Bool) (s:St),u7 V md ops n L f listed s ->
  (∀ t∈T,∀ j c,ops[j]?=some c->listed.getD j true=false->c.dst≠some t)->∃ a s',L a s'/\(∀ t∈T,s'.tm t=s.tm t)/\s'.ob=s.ob/\Sm s s'
 | 0,listed,s,h,_=>⟨listed,s,h,λ_ _=>rfl,rfl,Sm.refl s⟩
 | f+1,listed,s,h,hT=>by
  obtain⟨h1,h2⟩:=h;obtain⟨i,l⟩:=List.exists_mem_of_ne_nil _ h1;obtain⟨q,b⟩:=h2 i l;obtain⟨k,o,m,_⟩:=mem_ready.1 l;unfold wj at b;rw[m] at b;obtain⟨v,_,u⟩:=b;obtain⟨l',s',m1,m2,m3,m4⟩:=xC f _ _ u (λt ht j c r hu=>by
   by_cases e:i=j
   ·subst e;exfalso;rcases zxa i listed.size with g|d
    ·simp[Array.getD,g] at hu
    ·simp[Array.getD,zCc.2 d] at hu
   ·rw[getD_set_ne true e] at hu;exact hT t ht j c r hu)
  have p:=aci s o.dst v;exact⟨l',s',m1,λt ht=>(m2 t ht).trans (z8 (hT t ht i o m k)),m3.trans p.1,(Sm.put s o.dst v).trans m4⟩
end
section
variable{E:Env}{ops:Array Oper}
def oG(E:Env)(ops:Array Oper)(n id i:Nat)(s:St):Option AV:=if i=n then some .undef else vg E ops n id i s some
def yw(s:St)(d:Option Nat)(v:AV)(id:Nat)(o:Option Ob):(s.put d v).setOb id o=(s.setOb id o).put d v:=by
 cases d with
 | none=>rfl
 | some d=>
  by_cases h:d<s.nt
  ·simp_all [St.put,St.setOb]
  ·grind [St.put,St.setOb]
def IY(n id:Nat):WI (oG E ops n id) ops:=by
 intro i a o s d v h;unfold oG;split
 ·rfl
 ·obtain⟨b,c,p,q,f,r,u⟩:=aci s d v;obtain⟨g,j,w,y,z,A,B⟩:=aci (s.setOb id none) d v;have k:qd (s.put d v) a=qd s a:=by simp only[qd,f]
  have hx:∀ x∈a.op.operands,∀ t,d=some t->x≠.tmp t:=λx hx t ht e=>h t ht (by subst e;exact List.mem_append_left _ (zUc.2 ⟨.tmp t,by simpa using hx,rfl⟩))
  have l:qv E (s.put d v) a some=qv E s a some:=vN b c λx hm=>ud (hx x hm);have m:qv E ((s.put d v).setOb id none) a some=qv E (s.setOb id none) a some:=by rw[yw];exact vN g j λx hm=>ud (hx x hm)
  unfold vg
  simp_all
def BB{R:Type}{n id i:Nat}{s:St}{K:AV->Option R}{r:R}(h:vg E ops n id i s K=some r):∃ v,vg E ops n id i s some=some v/\K v=some r:=by
 unfold vg at h ⊢;split at h<;>first|(cases h;done)|skip
 split at h<;>first|(cases h;done)|skip
 rename_i a;rw[zka a];split at h
 ·rename_i hw;rw[zna hw];exact iH h
 ·rename_i hw;rw[zka hw];split at h<;>first|(cases h;done)|skip
  rename_i hk;rw[zna hk];exact iH h
theorem ED{R:Type}{n id:Nat}{K:St->Option R}{r:R}:∀ (c k:Nat) (s:St),k+c<=n->Pu E ops n id c k s K=some r->∃ s',ou (oG E ops n id) ops c k s=some s'/\K s'=some r
 | 0,k,s,_,h=>⟨s,rfl,h⟩
 | c+1,k,s,hk,h=>by
  simp only[Pu] at h;obtain⟨v,h1,h2⟩:=BB h;obtain⟨s',h3,a⟩:=ED c (k+1) _ j1 h2
  refine⟨s',?_,a⟩;simp only[ou,oG,zka (show ¬ k=n by omega),h1,zba]
  exact h3
mutual
theorem J5(ob ob':Nat->Option Ob):∀ (t:Ty) (a:AV),abB ob t a=abB ob' t a
 | t,.st ts l=>by simp only[abB,Fu ob ob' ts l]
 | t,.d _ _=>by simp_all [abB]
 | t,.own _ _ _=>by cases t<;>simp only[abB]
 | t,.nils=>by simp_all [abB]
 | t,.ptr _ _ _=>by cases t<;>simp only[abB]
 | t,.yld _=>by simp_all [abB]
 | t,.fptr _ _=>by cases t<;>simp only[abB]
 | t,.mem _ _=>by cases t<;>simp only[abB]
 | t,.clo _ _=>by cases t<;>simp only[abB]
 | t,.map _ _ _=>by cases t<;>simp only[abB]
 | t,.sub _ _ _ _ _ _=>by cases t<;>simp only[abB]
 | t,.gone=>by simp_all [abB]
 | t,.undef=>by simp_all [abB]
theorem Fu(ob ob':Nat->Option Ob):∀ (ts:List Ty) (l:List AV),AV.toDl ob ts l=AV.toDl ob' ts l
 | [],[]=>rfl
 | [],_::_=>rfl
 | _::_,[]=>rfl
 | t::ts,a::l=>by simp only[AV.toDl,J5 ob ob' t a,Fu ob ob' ts l]
end
theorem yo{s s':St}(a:s'.tm=s.tm)(ty:Nat->Option Ty):∀ l:List (Nat×Operand),partsD s'.ob s' ty l=partsD s.ob s ty l
 | []=>rfl
 | (i,x)::l=>by
  have e:s'.opA x=s.opA x:=by cases x<;>simp only[St.opA,a]
  simp only[partsD,e,yo a ty l];cases ty i with
  | none=>rfl
  | some t=>simp only[zba,J5 s'.ob s.ob t]
def xe{ob a:Nat->Option Ob}(h:∀ j o,ob j=some o->a j=some o){x:AV}(hp:ga (lN ob x)=true):lN a x=lN ob x:=by
 unfold lN at hp ⊢;split
 ·rename_i t id;simp only at hp;cases b:ob id with
  | none=>rw[b] at hp;cases hp
  | some o=>rw[h _ _ b]
 ·rfl
def CW{ob b:Nat->Option Ob}(h:∀ j o,ob j=some o->b j=some o){x:AV}(a:mA (oC ob x)=true):oC b x=oC ob x:=by
 cases x<;>simp only[oC] at a ⊢
 case ptr t id p=>
  refine xe h ?_;unfold lN at a ⊢;split at a<;>first|(cases a;done)|skip
  split at a<;>first|(cases a;done)|skip
 case clo f l=>
  split at a<;>first|(cases a;done)|skip
  rename_i hl;rw[zna hl];have e:l.map (lN b)=l.map (lN ob):=zOc λx hx=>xe h (zCa.1 hl _ (zec hx));rw[e,zna hl]
 case map kt vt id=>
  cases ho:ob id with
  | none=>rw[ho] at a;cases a
  | some o=>rw[h _ _ ho]
def Gh{s s':St}{id:Nat}(b:s'.tm=s.tm)(n:s'.fresh=s.fresh)(r:∀ j,j≠id->s'.ob j=s.ob j)(hid:s.ob id=none){o:Oper}(hk:ve o=true){v:AV}(h:qv E s o some=some v):qv E s' o some=some v:=by
 have op:∀ x,s'.opA x=s.opA x:=λx=>by cases x<;>simp only[St.opA,b]
 have c:∀ {j:Nat} {ob:Ob},s.ob j=some ob->s'.ob j=some ob:=λ{j ob} u=>by all_goals grind
 obtain⟨dst,d,ty,pos,after,guard⟩:=o;cases d<;>simp only[ve] at hk<;>first|(cases hk;done)|skip
 case build T ps=>
  simp only[qv] at h ⊢;obtain⟨t,ht,h2⟩:=ab h;rw[ht,zba];have l:∀ g,ps.toList.all (gr s' g)=ps.toList.all (gr s g):=λg=>by congr 1;funext p;simp only[gr,op]
  have m:(ps.toList.map λp=>(p.1,s'.opA p.2))=ps.toList.map λp=>(p.1,s.opA p.2):=by simp only[op]
  cases t<;>simp only[yo b,l,m]<;>exact h2
 case load T a=>
  simp only[qv] at h ⊢;cases hfn:E.fnT T with
  | true=>
   rw[hfn] at h;simp only[cond_true] at h ⊢;split at h<;>first|(cases h;done)|skip
   rename_i j e;split at h<;>first|(cases h;done)|skip
   rename_i y q;split at h<;>first|(cases h;done)|skip
   rename_i k;rw[op,e];simp only;rw[c q];simp only;rw[CW (λj o=>c) k,zna k];exact h
  | false=>
  rw[hfn] at h;simp only[cond_false] at h ⊢;obtain⟨t,ht,h2⟩:=ab h;rw[ht,zba,op];all_goals grind
 case fieldAddr T x f=> simp_all [qv,op]
 case extract x i=> simp_all [qv,op]
 case move x=> simp_all [qv,op]
 case alloc T=> simp_all [qv,St.base]
end
section
variable{P:Program}{E:Env}{w0:Root}{ops:Array Oper}
def qU(n id:Nat)(a:Ob)(listed:Array Bool)(s:St):St:=if listed.getD n false then s.setOb id (some a) else s
theorem Sm.setOb(s:St)(id:Nat)(o:Option Ob):Sm s (s.setOb id o):=⟨rfl,rfl,rfl,rfl⟩
theorem mu(hE:EnvOk P E){n g id T p x:Nat}{u t t':Ty}{v0 v1:AV}{c:Oper}{L:Array Bool->St->Prop}{Q:Exit->Act->World->Prop}{s0:St}{S0:Nat->Nat->Prop}{γ0:Nat->Option Nat}{a0:Act}{w1:World}
  (hn:ops[n]?=some c) (U:c.op=.store T (.tmp p) (.tmp x)) (m:c.dst=none) (N:c.guard=none)
  (hp:∀ (j:Nat) (k:Oper),ops[j]?=some k->k.dst=some p->Region.waitsFor .any ops n j=true) (hx:∀ (j:Nat) (k:Oper),ops[j]?=some k->k.dst=some x->Region.waitsFor .any ops n j=true)
  (l:∀ (j:Nat) (k:Oper),j<n->ops[j]?=some k->k.guard=none)
  (hT:E.L T=some t) (M:E.fnT T=false) (V:t.beq t'=true) (K:AV.fits t v1=true) (R:s0.lkO.contains id=false) (r:s0.ob id=some (.one u v0))
  (hd:∀ (i j:Nat) (oi k:Oper),i≠j->ops[i]?=some oi->ops[j]?=some k->∀ d,k.dst=some d->oi.dst≠some d)
  (z:∀ listed s,L listed s->s.tm p=.ptr t' id []/\s.tm x=v1/\listed.getD n false=true)
  (hL:∀ listed s S γ β a w,Rp w0 S γ β (s.setOb id (some (.one u v1))) a w->Fm s0 S0 γ0 a0 w1 S γ a w->Sm s0 s->(∀ j k,ops[j]?=some k->listed.getD j true=false->Fr E (s.setOb id (some (.one u v1))) γ β k)->L listed s->wpAnyIn (FW ro) nn P .any ops Q g listed a w) :
  ∀ (f:Nat) (listed:Array Bool) (s:St) (S:Nat->Nat->Prop) (γ:Nat->Option Nat) (β:Nat->Option (Nat×Nat)) (a:Act) (w:World),Rp w0 S γ β (qU n id (.one u v1) listed s) a w->Fm s0 S0 γ0 a0 w1 S γ a w->Sm s0 s->s.ob=s0.ob ->
   (listed.getD n false=true->∀ j,Region.waitsFor .any ops n j=true->listed.getD j false=true) ->
   (∀ j k,ops[j]?=some k->listed.getD j true=false->Fr E (qU n id (.one u v1) listed s) γ β k)->u7 (oG E ops n id) .any ops (n+1) L f listed s->wpAnyIn (FW ro) nn P .any ops Q (f+g) listed a w
 | 0,listed,s,S,γ,β,a,w,h,hF,I,D,Y,B,hh=>by
  rw[zcb];have a4:L listed s:=hh;have e:qU n id (.one u v1) listed s=s.setOb id (some (.one u v1)):=by unfold qU;rw[zna (z _ _ a4).2.2]
  grind
 | f+1,listed,s,S,γ,β,a,w,h,hF,I,D,Y,B,hh=>by
  rw[show f+1+g=(f+g)+1 by omega]
  refine⟨λh0=>z3a h0 hh.1,λi hi=>?_⟩;obtain⟨a9,b⟩:=hh.2 i hi;have H:=(mem_ready.1 hi).1;have aj:∀ j,(listed.setIfInBounds i true).getD j true=false->i≠j/\listed.getD j true=false:=λj hu=>by
   by_cases C:i=j
   ·subst C;exfalso;rcases zxa i listed.size with ad|Z
    ·simp[Array.getD,ad] at hu
    ·simp[Array.getD,zCc.2 Z] at hu
   ·rw[getD_set_ne true C] at hu;exact⟨C,hu⟩
  by_cases hni:i=n
  ·
   subst hni;have a5:=getD_both H;have a7:i<listed.size:=by
    rcases zxa i listed.size with ad|Z
    ·exact ad
    ·simp[Array.getD,zCc.2 Z] at H
   have e0:qU i id (.one u v1) listed s=s:=by unfold qU;rw[a5];rfl
   rw[e0] at h;unfold wj at b;rw[hn] at b;simp only at b;obtain⟨v,y,b⟩:=b;rw[m] at b;have b:u7 (oG E ops i id) .any ops (i+1) L f (listed.setIfInBounds i true) s:=b;obtain⟨_,o',aI,A⟩:=mem_ready.1 hi;rw[hn] at aI;cases aI;obtain⟨l',s',m1,m2,m3,m4⟩:=xC (T:=[p,x]) f _ _ b (λt ht j k O hu=>by
    simp only[zEa,zcc,or_false] at ht;intro J;have hw:Region.waitsFor .any ops i j=true:=by
     rcases ht with rfl|rfl
     ·exact hp j k O J
     ·exact hx j k O J
    obtain⟨ow,F,e,he,hb,ai⟩:=Region.waitsFor_spec hw;rw[hn] at F;cases F;have h1:=A e he hb;rw[ai] at h1;obtain⟨_,G⟩:=aj j hu;rw[getD_both G] at h1;cases h1)
   obtain⟨z1,z2,z3⟩:=z _ _ m1;rw[m2 p j3] at z1
   rw[m2 x j3] at z2
   have a1:s.ob id=some (.one u v0):=by rw[D];exact r
   have aB:s.lkO.contains id=false:=by rw[I.lkO];exact R
   have a3:tZ E s c some=some (s.setOb id (some (.one u v1))):=by unfold tZ;rw[U];simp only[hT,M,cond_false,zba,St.opA,z1,z2,V,K,aB,a1,zTb,Bool.and_true,if_true,DK]
   obtain⟨s1,k1,k2⟩:=IA hE h (e0 ▸ B i c hn H) (λT t _ ht=>hE.flat T t ht) (λt _=>by rw[m];simp) (λ_ _ _ _=>m) a3
   cases k1;obtain⟨r1,r2,r3,r4,r5,r6⟩:=k2;unfold wpOpIn;rw[hn];simp only;rw[zna (by simp[Region.wanted,N])]
   refine(bC r6 λval w' ⟨S',γ',β',m1,m2,m3⟩=>?_);have el:qU i id (.one u v1) (listed.setIfInBounds i true) s=s.setOb id (some (.one u v1)):=by unfold qU;rw[zna (by simp[a7])]
   refine mu hE hn U m N hp hx l hT M V K R r hd z hL f _ s S' γ' β' _ _ (by rw[el];exact m1) (hF.trans m2 I.lkS I.lkO) I D (λ_ j hw=>?_) (λj k O hu=>?_) b
   ·obtain⟨ow,F,e,he,hb,ai⟩:=Region.waitsFor_spec hw;rw[hn] at F;cases F;have h1:=A e he hb;rw[ai] at h1;exact getD_set_true h1
   ·rw[el];obtain⟨_,G⟩:=aj j hu;exact(e0 ▸ B j k O G:Fr E s γ β k).keep (λd _=>by rw[m];simp) rfl (λq h1 h2=>r5 q h1 h2) m3
  ·
   have al:i<n:=j1
   obtain⟨_,o,ho,A⟩:=mem_ready.1 hi;unfold wj at b;rw[ho] at b;simp only at b;obtain⟨v,y,b⟩:=b;unfold oG at y;rw[zka hni] at y;unfold vg at y;rw[ho] at y;simp only at y;split at y<;>first|(cases y;done)|skip
   rename_i ax;have a6:=l i o al ho;have an:qd (qU n id (.one u v1) listed s) o=qd s o:=by unfold qU;split<;>rfl
   have a2:val E ops (qU n id (.one u v1) listed s) o=some v:=by
    unfold val;rw[an,zka ax,a6];simp only;split at y
    ·rename_i hw;have:listed.getD n false=false:=by
      cases hln:listed.getD n false with
      | false=>rfl
      | true=> have:=Y hln i hw;rw[getD_both H] at this;cases this
     have e:qU n id (.one u v1) listed s=s:=by unfold qU;rw[this];rfl
     rw[e];exact y
    ·split at y<;>first|(cases y;done)|skip
     rename_i hk;refine Gh (s:=s.setOb id none) (id:=id) ?_ ?_ (λj O=>?_) ?_ hk y
     ·unfold qU;split<;>rfl
     ·unfold qU;split<;>rfl
     ·unfold qU;split<;>simp[St.setOb,O]
     ·simp[St.setOb]
   have el:(qU n id (.one u v1) listed s).put o.dst v=qU n id (.one u v1) (listed.setIfInBounds i true) (s.put o.dst v):=by
    unfold qU;rw[getD_set_ne false hni];split
    ·rw[yw]
    ·rfl
   obtain⟨k1,k2⟩:=DY hE h (B i o ho H) a2;have pf:=aci s o.dst v;have W:Sm s0 (qU n id (.one u v1) listed s):=by
    unfold qU;split
    ·exact I.trans (Sm.setOb s id _)
    ·exact I
   have pl:=aci (qU n id (.one u v1) listed s) o.dst v;have ak:∀ {γ':Nat->Option Nat} {β':Nat->Option (Nat×Nat)},(∀ q:Nat,o.dst≠some (q-(qU n id (.one u v1) listed s).base)\/q<(qU n id (.one u v1) listed s).base->γ' q=γ q/\β' q=β q)->∀ j k,ops[j]?=some k->(listed.setIfInBounds i true).getD j true=false->Fr E (qU n id (.one u v1) (listed.setIfInBounds i true) (s.put o.dst v)) γ' β' k:=λhk j k O hu=>by obtain⟨C,G⟩:=aj j hu;rw[<-el];exact(B j k O G).keep (λd J=>hd i j o k C ho O d J) pl.2.1 (λq _ _=>by rw[pl.1]) hk
   have X:(listed.setIfInBounds i true).getD n false=true->∀ j,Region.waitsFor .any ops n j=true->(listed.setIfInBounds i true).getD j false=true:=λh1 j hw=>by rw[getD_set_ne false hni] at h1;exact getD_set_true (Y h1 j hw)
   unfold wpOpIn;rw[ho];simp only;split
   ·rename_i hw;refine(bC (k1 hw) λu' w' ⟨S',γ',β',m1,m2,m3⟩=>?_);exact mu hE hn U m N hp hx l hT M V K R r hd z hL f _ _ S' γ' β' _ _ (el ▸ m1) (hF.trans m2 W.lkS W.lkO) (I.trans (Sm.put s o.dst v)) (pf.1.trans D) X (ak m3) b
   ·rename_i hw;obtain⟨m1,m2⟩:=k2 (by simpa using hw)
    refine⟨λ_ _=>trivial,?_⟩;exact mu hE hn U m N hp hx l hT M V K R r hd z hL f _ _ S γ β _ _ (el ▸ m1) (hF.trans m2 W.lkS W.lkO) (I.trans (Sm.put s o.dst v)) (pf.1.trans D) X (ak λid _=>⟨rfl,rfl⟩) b
def vP(hE:EnvOk P E){id:Nat}{n:Nat}{Q:Exit->Act->World->Prop}{S:Nat->Nat->Prop}{γ:Nat->Option Nat}{β:Nat->Option (Nat×Nat)}{s:St}{a:Act}{w:World}{R:Type}{k:St->Option R}{r:R}{N:Nat}
  (h:Rp w0 S γ β s a w) (hf:L9 E s γ β ops.toList) (hm:dZ ops.toList=true) (G:vf ops n=true) {an:Ann}
  (al:Pu E ops n (lX ops n s) n 0 s (λs2=>if vc ops n s2=some (lX ops n s) then jB E N R ops an ((bK 0 ops.toList).drop n) s2 k else none)=some r)
  (hQ:∀ s' S' γ' β' a' w',Rp w0 S' γ' β' s' a' w'->Fm s S γ a w S' γ' a' w'->Sk s s'->k s'=some r->Q .normal a' w'):(Code.region id ops true).wpIn (FW ro) nn P Q a w:=by
 simp only[dZ,zaa] at hm;obtain⟨⟨a5,b1⟩,bx⟩:=hm;have V:(ops.toList.all λo=>match o.op with|.store ..=>o.dst.isNone|_=>true)=true:=bx
 unfold vf at G;split at G<;>first|(cases G;done)|skip
 rename_i f hn;split at G<;>first|(cases G;done)|skip
 rename_i T p x X;obtain⟨q,hid⟩:∃ q,lX ops n s=q:=⟨_,rfl⟩;rw[hid] at al;simp only[zaa] at G;obtain⟨⟨⟨⟨⟨l2,l3⟩,l4⟩,l5⟩,l6⟩,l7⟩:=G;have a7:n<ops.size:=(zza.1 hn).1;have b2:f∈ops.toList:=zad.2 (z8c hn);have M:f.dst=none:=by grind
 have bi:∀ (j:Nat) (m:Oper),ops[j]?=some m->(m.dst=some p\/m.dst=some x)->Region.waitsFor .any ops n j=true:=λj m z e=>by grind
 have hp:∀ (j:Nat) (m:Oper),ops[j]?=some m->m.dst=some p->Region.waitsFor .any ops n j=true:=λj m z e=>bi j m z (.inl e);have hx:∀ (j:Nat) (m:Oper),ops[j]?=some m->m.dst=some x->Region.waitsFor .any ops n j=true:=λj m z e=>bi j m z (.inr e);have W:∀ (j:Nat) (m:Oper),j<n->ops[j]?=some m->m.guard=none:=λj m bt z=>by
  have bv:m∈ops.toList.take n:=by refine zbb (i:=j) ?_;rw[z6b bt,zjb];exact z
  have:=zCa.1 l3 m bv;simp only[zaa] at this;simpa using this.2
 have I:∀ o∈ops.toList.drop n,o.guard=none:=λo ho=>by have:=zCa.1 l4 o ho;simp only[zaa] at this;simpa using this.1
 have ai:ops.toList.drop n=f::ops.toList.drop (n+1):=by
  have h1:n<ops.toList.length:=by simpa using a7
  rw[z4b h1];have:ops.toList[n]=f:=by have:=(zza.1 hn).2;simpa using this
  rw[this]
 have aB:f.guard=none:=I f (by rw[ai];simp)
 obtain⟨s',q1,C⟩:=ED n 0 s j1 al
 split at C<;>first|(cases C;done)|skip
 rename_i D;obtain⟨t0,O,bT⟩:∃ t0,s'.tm p=.ptr t0 q []/\¬ t0.beq .fn=true:=by
  unfold vc at D;simp only[hn,X] at D;split at D<;>first|(cases D;done)|skip
  rename_i t0 b3 bN;split at D<;>first|(cases D;done)|skip
  rename_i J;cases D;exact⟨t0,bN,J⟩
 have ad:(bK 0 ops.toList).drop n=(n,f)::(bK 0 ops.toList).drop (n+1):=by
  have h1:n<(bK 0 ops.toList).length:=by rw[kC];simpa using a7
  rw[z4b h1];have key:∀ (l:List Oper) (i j:Nat) (o:Oper),l[j]?=some o->(bK i l)[j]?=some (i+j,o):=by
   intro l
   induction l with
   | nil=>intro i j o z;simp at z
   | cons y l ih=>
    intro i j o z;cases j with
    | zero=>simp at z;subst z;simp[bK]
    | succ j=>simp only[zpb] at z;simp only[bK,zpb];rw[ih (i+1) j o z];congr 2;omega
  have:=key ops.toList 0 n f (by rw[zjb];exact hn)
  rw[zca h1,zcb] at this;rw[zzd this]
 rw[ad] at C;obtain⟨N',hN⟩:∃ N',N=N'+1:=by
  cases N with
  | zero=>simp[jB] at C
  | succ N'=>exact⟨N',rfl⟩
 subst hN;have bj:sA n ((bK 0 ops.toList).drop (n+1))=false:=by
  unfold sA;split
  ·rename_i p' l' hl;have a6:p'.2∈ops.toList.drop n:=by
    have h1:p'∈(bK 0 ops.toList).drop n:=by rw[ad,hl];simp
    have:p'.2∈((bK 0 ops.toList).drop n).map Prod.snd:=zec h1
    rwa [zEc,bG] at this
   unfold xF;rw[I _ a6]
  ·rfl
 have Z:mW E f=false:=by unfold mW;rw[X]
 have bM:BY E f an=an:=by simp[BY,Z]
 have ax:∀ (l:List (Nat×Oper)) (s:St) (K:St->Option R),IC E an l s f K=tZ E s f K:=λl s K=>by simp[IC,Z]
 have bP:∀ s,tu E s n f ((bK 0 ops.toList).drop (n+1))=false:=λs=>by simp[tu,bj]
 simp only[jB,aB,bP,bM,ax,zDa,if_false] at C;have a4:qd s' f=false:=by unfold qd;rw[M]
 rw[zka (by rw[a4];simp)] at C
 unfold tZ at C;rw[X] at C;simp only at C;have keep:∀ (c kk:Nat) (s s':St),ou (oG E ops n q) ops c kk s=some s'->s'.ob=s.ob/\Sm s s':=by
  intro c
  induction c with
  | zero=>intro kk s s' hs;simp only[ou,zda] at hs;subst hs;exact⟨rfl,Sm.refl s⟩
  | succ c ih=> intro kk s s' hs;simp only[ou] at hs;obtain⟨v,h1,h2⟩:=ab hs;obtain⟨m2,m3⟩:=ih _ _ _ h2;have pf:=aci s ((ops[kk]?).bind (·.dst)) v;exact⟨m2.trans pf.1,(Sm.put s _ v).trans m3⟩
 obtain⟨c2,c3⟩:=keep n 0 s s' q1;cases hfn:E.fnT T with
 | true=>
  rw[hfn,show s'.opA (.tmp p)=.ptr t0 q [] from O] at C;simp only[cond_true] at C;split at C<;>first|(cases C;done)|skip
  rename_i e;cases e;exact z3a rfl bT
 | false=>
 rw[hfn] at C;simp only[cond_false] at C;obtain⟨t,hT,Y⟩:=ab C;rw[show s'.opA (.tmp p)=.ptr t0 q [] from O] at Y;simp only at Y;split at Y<;>first|(cases Y;done)|skip
 rename_i L;simp only[zaa,zTa] at L;obtain⟨⟨d1,d2⟩,d3⟩:=L;split at Y<;>first|(cases Y;done)|skip
 ·rename_i u v0 a9;obtain⟨v1,bl⟩:∃ v1,s'.opA (.tmp x)=v1:=⟨_,rfl⟩;rw[bl] at Y d2;have q4:jB E N' R ops an ((bK 0 ops.toList).drop (n+1)) (s'.setOb q (some (.one u v1))) k=some r:=by
   cases v0<;>simpa only[DK] using Y
  clear Y C;have hW:xa .any ops (n+1):=by
   intro listed i inv bs bW t ht hr;simp only[z9b,zfa,zaa] at l7;rcases l7 with l7|⟨⟨l7,l8⟩,l9⟩
   ·obtain⟨_,o,ho,_⟩:=mem_ready.1 hr;have:=(zza.1 ho).1;omega
   ·exact tail_waits l8 l9 l7 inv _ i rfl bs bW t ht hr
  refine wpIn_region_any hE.mixed ?_;have hg:∃ os d,w.drawn<=d/\({ w with drawn:=w.drawn+1 }:World)=grown w os d:=⟨[],w.drawn+1,z1c _,by simp[grown]⟩
  obtain⟨os,d,bn,hg⟩:=hg;obtain⟨g1,g2⟩:=h.grow (os:=os) (d:=d) bn (S':=S) (λ_ _ J=>J) (λ_ _ J=>.inl J);rw[hg];have bm:HeadInv .any ops (n+1) (Array.replicate ops.size false):=
   ⟨j3,λj m _ hl=>(by rw[getD_replicate_false] at hl;cases hl),λt _ ht=>getD_in (by simpa using ht) (getD_replicate_false _ _)⟩
  have U:ou (oG E ops n q) ops (n+1) 0 s=some s':=by rw[Cm n 1 0,q1,zba];simp only[ou,oG,zcb,if_true,zba,hn,M];rfl
  have H:=xD (sF:=s') (IY (E:=E) (ops:=ops) n q) j1 hW (n+1) 0 (Array.replicate ops.size false) s j1 bm (λi hi=>j1) l6 U
  have e0:qU n q (.one u v1) (Array.replicate ops.size false) s=s:=by unfold qU;rw[getD_replicate_false];rfl
  have ak:(ops.toList.drop (n+1)).length=ops.size-(n+1):=j3
  have aj:∀ j m,ops[j]?=some m->(Array.replicate ops.size false).getD j true=false->Fr E (qU n q (.one u v1) (Array.replicate ops.size false) s) γ β m:=λj m z _=>by rw[e0];exact hf m (zad.2 (z8c z))
  have:=mu (ro:=ro) (nn:=nn) (w0:=w0) (Q:=Q) (g:=ops.size-(n+1)) (s0:=s) (S0:=S) (γ0:=γ) (a0:=a) (w1:=grown w os d) hE hn X M aB hp hx W hT hfn d1 d2 (by rw[<-c3.lkO];exact d3) (by rw[<-c2];exact a9) (λi j oi m bp hi z d hd=>sR a5 bp (by rw[zjb];exact hi) (by rw[zjb];exact z) d hd)
   (λlisted s2 hL=>by obtain⟨_,hl,rfl⟩:=hL;exact⟨O,bl,hl n j1⟩)
   (λlisted s2 S2 γ2 β2 a2 w2 m1 m2 m3 m4 m5=>by
    obtain⟨m5,m6,m7⟩:=m5;subst m7;have U:=jR (F:=FW ro) (n:=nn) (P:=P) (md:=.any) (ops:=ops) (Q':=Q) (ops.toList.drop (n+1)) (n+1) listed a2 w2 (λj=>by rw[z8b,zjb]) (by rw[ak];exact m5) ?_
    ·rwa [ak] at U
    have bk:∀ j m,ops[j]?=some m->n+1<=j->listed.getD j true=false:=by
     intro j m z bL;have key:∀ (g k:Nat) (listed:Array Bool),Region.seqB .any ops g k listed=true->∀ j,k<=j->j<k+g->listed.getD j true=false:=by
      intro g
      induction g with
      | zero=>intro k listed _ j h1 h2;omega
      | succ g ih=>
       intro k listed hB j h1 h2;simp only[Region.seqB,zaa,zfa] at hB;by_cases a1:j=k
       ·subst a1;have:j∈Region.ready .any ops listed:=by rw[hB.1];simp
        exact(mem_ready.1 this).1
       ·have:=ih (k+1) _ hB.2 j j1 j1
        rwa [getD_set_ne true (Ne.symm a1)] at this
     have b0:=(zza.1 z).1;exact key _ _ _ m5 j bL j1
    have fin:=zk (ro:=ro) (nn:=nn) (ops:=ops) hE (Q:=Q) V N' R ((bK 0 ops.toList).drop (n+1)) k r an m1 (by
      rw[zEc,bG];intro o ho;obtain⟨i,hi,he⟩:=zYa ho;have aI:ops[n+1+i]?=some o:=by
       have:(ops.toList.drop (n+1))[i]?=some o:=by rw[zca hi,he]
       rwa [z8b,zjb] at this
      exact m4 (n+1+i) o aI (bk _ _ aI j1))
     (by rw[zEc,bG];intro A B o o' e ho d hd;exact fU a5 (ops.toList.take (n+1)++A) B o o' (by rw[zOa,<-e,zua]) ho d hd)
     (λp hp=>mc (zbc hp)) q4 (λs3 S3 γ3 β3 a3 w3 n1 n2 n3 n4=>by
      refine hQ s3 S3 γ3 β3 a3 w3 n1 ?_ (Sk.trans (m3.trans (Sm.setOb _ q (some (.one u v1)))).sk n3) n4;have f0:Fm s S γ a w S γ a (grown w os d):=⟨λ_ _ J=>J,g2.cell,λ_ _=>rfl,λid hid b J=>⟨J,.inl (dB (h.γn id b J).2)⟩,j3,λ_ _ J=>J,mD.same rfl dw.grown⟩
      exact(f0.trans m2 rfl rfl).trans n2 (show _=_ from m3.lkS) (show _=_ from m3.lkO))
    rwa [zEc,bG] at fin)
   (n+1) (Array.replicate ops.size false) s S γ β a (grown w os d) (by rw[e0];exact g1) (Fm.refl _ _ _ _ _) (Sm.refl s) rfl (λhl=>by rw[getD_replicate_false] at hl;cases hl) aj H
  rw[show n+1+(ops.size-(n+1))=ops.size by omega] at this
  exact this
end
end Sy
end
noncomputable section
namespace Sy
open Go
variable{ro:Option Nat}{nn:Nat}
section
variable{P:Program}{E:Env}{w0:Root}
def xx{id:Nat}{ops:Array Oper}{dr:Bool}{ann:Ann}{R:Type}{s s1:St}(a:s1={ gN s ann.fz with fresh:=s.fresh+1 }){k:Ex->St->Option R}{r:R}(h:ev E (.region id ops dr) ann R s k=some r) :
  dZ ops.toList=true/\(((!dr||rG E ops (ann.heads ops.size))=true/\jB E (ops.size+1) R ops ann.inner (bK 0 ops.toList) (lg E ops.toList s1) (λs'=>k .normal s')=some r) ∨
   (dr=true/\vf ops (ann.heads ops.size)=true/\Pu E ops (ann.heads ops.size) (lX ops (ann.heads ops.size) (lg E ops.toList s1)) (ann.heads ops.size) 0 (lg E ops.toList s1) (λs2=>if vc ops (ann.heads ops.size) s2=some (lX ops (ann.heads ops.size) (lg E ops.toList s1)) then jB E (ops.size+1) R ops ann.inner ((bK 0 ops.toList).drop (ann.heads ops.size)) s2 (λs'=>k .normal s') else none)=some r)):=by
 have key:(if dZ ops.toList&&(!dr||rG E ops (ann.heads ops.size)) then jB E (ops.size+1) R ops ann.inner (bK 0 ops.toList) (lg E ops.toList s1) (λs'=>k .normal s')
  else if dZ ops.toList&&vf ops (ann.heads ops.size) then Pu E ops (ann.heads ops.size) (lX ops (ann.heads ops.size) (lg E ops.toList s1)) (ann.heads ops.size) 0 (lg E ops.toList s1) (λs2=>if vc ops (ann.heads ops.size) s2=some (lX ops (ann.heads ops.size) (lg E ops.toList s1)) then jB E (ops.size+1) R ops ann.inner ((bK 0 ops.toList).drop (ann.heads ops.size)) s2 (λs'=>k .normal s') else none)
  else none)=some r:=by
  subst a;cases ann<;>exact h
 split at key
 ·rename_i hc;simp only[zaa] at hc;exact⟨hc.1,.inl ⟨hc.2,key⟩⟩
 ·rename_i hn;split at key
  ·rename_i hc;simp only[zaa] at hc;refine⟨hc.1,.inr ⟨?_,hc.2,key⟩⟩;cases dr
   ·exfalso;exact hn (by simp[hc.1])
   ·rfl
  ·cases key
def GK(B:EnvOk P E){Q:Exit->Act->World->Prop}{id:Nat}{ops:Array Oper}{dr:Bool}{ann:Ann}{R:Type}{S:Nat->Nat->Prop}{γ:Nat->Option Nat}{β:Nat->Option (Nat×Nat)}{s:St}{a:Act}{w:World}{k:Ex->St->Option R}{r:R}
  (h:Rp w0 S γ β s a w) (q:ev E (.region id ops dr) ann R s k=some r) (C:Kp Q w0 s S γ a w k r):(Code.region id ops dr).wpIn (FW ro) nn P Q a w:=by
 obtain⟨S1,f1,f2,f3⟩:=rI ann.fz h;obtain⟨s1,b⟩:∃ s1,s1={ gN s ann.fz with fresh:=s.fresh+1 }:=⟨_,rfl⟩;obtain⟨h1,m⟩:=xx b q;have L:s1.base=s.base+4096:=by rw[b];simp only[St.base];omega
 have M:(gN s ann.fz).base=s.base:=f3.base_eq;have r1:Rp w0 S1 γ β s1 a w:=by
  rw[b];have H:∀ id,({ gN s ann.fz with fresh:=s.fresh+1 }:St).base+4096<=id->s.base+4096<=id:=λid hid=>by grind
  exact⟨f1.ext,f1.tms,f1.nt,f1.tmu,f1.obs,f1.γn,f1.γi,λid hid=>h.γf id (H id hid),f1.βn,f1.βi,f1.βγ,λv N=>h.βf v (H v N),f1.Sb,f1.So⟩
 have e:∀ d,s.base+4096<=s1.base+d:=λd=>j1
 have F:∀ d,γ (s1.base+d)=none:=λd=>h.γf (s1.base+d) (e d);have u:∀ d,β (s1.base+d)=none:=λd=>h.βf (s1.base+d) (e d);obtain⟨I,m2⟩:=E8 (E:=E) ops.toList r1 F;have l:=h1;simp only[dZ,zaa,zCa] at l;obtain⟨⟨x,y⟩,_⟩:=l;have j:L9 E (lg E ops.toList s1) γ β ops.toList:=by intro o G hc d D;rw[m2.base_eq];have g:=y o G;rw[D] at g;simp only[zfa] at g;exact⟨g,F d,u d,λT t J K=>zX ops.toList x G J D K⟩
 have c:Sk s (lg E ops.toList s1):=by
  refine⟨m2.lkS.trans ?_,m2.lkO.trans ?_,m2.nt.trans ?_⟩<;>rw[b]
  ·exact f3.lkS
  ·exact f3.lkO
  ·exact f3.nt
 rcases m with⟨h2,h3⟩|⟨p,h2,h3⟩
 rotate_left
 ·subst p;exact vP B I j h1 h2 h3 λs' S' γ' β' a' w' n1 n2 z A=>C .normal s' S' γ' β' a' w' n1 (f2.tr n2 c) (c.trans z) A
 refine GL B I j h1 h2 h3 λs' S' γ' β' a' w' n1 n2 z A=>?_;exact C .normal s' S' γ' β' a' w' n1 (f2.tr n2 c) (c.trans z) A
def J7{S:Nat->Nat->Prop}{γ:Nat->Option Nat}{β:Nat->Option (Nat×Nat)}{s:St}{a:Act}{w:World}(h:Rp w0 S γ β s a w){c:Operand}{t:Bool}(ht:(s.opA c).truth=some t):a.eval c=.bool t:=
 (pq ht (aT h c)).1
def Xv{S S':Nat->Nat->Prop}{γ γ':Nat->Option Nat}{s:St}{a a':Act}{w w':World}(b:∀ l,ro=some l->∃ r0,w.heap[l]?=some (Obj.loop r0))(F:Fm s S γ a w S' γ' a' w'):∀ l,ro=some l->∃ r0,w'.heap[l]?=some (Obj.loop r0):=λl hl=>(F.dfs.1 l).2 (b l hl)
def vo(E:Env)(c:Code)(h:Shape)(b:List (Ex×Shape))(a:Ann)(s:St)(v:List D):Option (Sum (List D) (Nat×List D)):=
 ev E c a (Sum (List D) (Nat×List D)) (h.mk' s v (h.keepS++s.lkS) (cw h.objs++s.lkO)) λe s'=>match e with
    | .normal=>(h.dec s s').bind λv'=>some (.inl v')
    | e=>(DU s b e s').bind λr=>some (.inr r)
theorem iO(G:EnvOk P E):∀ (c:Code) (ann:Ann) (R:Type) {Q:Exit->Act->World->Prop} {S:Nat->Nat->Prop} {γ:Nat->Option Nat} {β:Nat->Option (Nat×Nat)} {s:St} {a:Act} {w:World} (k:Ex->St->Option R) (r:R),
  (∀ l,ro=some l->∃ r0,w.heap[l]?=some (Obj.loop r0))->Rp w0 S γ β s a w->ev E c ann R s k=some r->Kp Q w0 s S γ a w k r->c.wpIn (FW ro) nn P Q a w
 | .skip,ann,R,Q,S,γ,β,s,a,w,k,r,o,h,g,q=>by simp only[ev] at g;exact wpIn_skip (q .normal s S γ β a w h (Fm.refl _ _ _ _ _) (Sk.refl s) g)
 | .label l,ann,R,Q,S,γ,β,s,a,w,k,r,o,h,g,q=>by simp only[ev] at g;exact wpIn_label (q .normal s S γ β a w h (Fm.refl _ _ _ _ _) (Sk.refl s) g)
 | .exit id,ann,R,Q,S,γ,β,s,a,w,k,r,o,h,g,q=>by simp only[ev] at g;exact wpIn_exit (q (.exit id) s S γ β a w h (Fm.refl _ _ _ _ _) (Sk.refl s) g)
 | .ret,ann,R,Q,S,γ,β,s,a,w,k,r,o,h,g,q=>by simp only[ev] at g;exact wpIn_ret (q .ret s S γ β a w h (Fm.refl _ _ _ _ _) (Sk.refl s) g)
 | .region id ops dr,ann,R,Q,S,γ,β,s,a,w,k,r,o,h,g,q=>GK G h g q
 | .cond c x y,ann,R,Q,S,γ,β,s,a,w,k,r,o,h,g,q=>by
  simp only[ev] at g;obtain⟨t,ht,g⟩:=ab g;refine wpIn_cond (J7 h ht) ?_;cases t
  ·exact iO G y _ R k r o h (by simpa using g) q
  ·exact iO G x _ R k r o h (by simpa using g) q
 | .block id c,ann,R,Q,S,γ,β,s,a,w,k,r,o,h,g,q=>by
  simp only[ev] at g;refine wpIn_block (iO G c _ R _ r o h g λe s' S' γ' β' a' w' n1 n2 B A=>?_);cases e with
  | normal=>exact q .normal s' S' γ' β' a' w' n1 n2 B A
  | ret=>exact q .ret s' S' γ' β' a' w' n1 n2 B A
  | exit j=>
   simp only[IE,Exit.inBlock];simp only at A;split at A
   ·rename_i U;rw[zna U];exact q .normal s' S' γ' β' a' w' n1 n2 B A
   ·rename_i U;rw[zka U];exact q (.exit j) s' S' γ' β' a' w' n1 n2 B A
 | .seq c d,ann,R,Q,S,γ,β,s,a,w,k,r,o,h,g,q=>by
  have plain:(ev E c ann.fst R s λe s'=>match e with|.normal=>ev E d ann.snd R s' k|e=>k e s')=some r->(Code.seq c d).wpIn (FW ro) nn P Q a w:=λg=>by
   refine wpIn_seq (iO G c _ R _ r o h g λe s' S' γ' β' a' w' n1 n2 B A=>?_);cases e with
   | normal=> exact iO G d _ R k r (Xv o n2) n1 A λT s2 S2 γ2 β2 a2 w2 m1 m2 m3 m4=>q T s2 S2 γ2 β2 a2 w2 m1 (n2.tr m2 B) (B.trans m3) m4
   | ret=>exact q .ret s' S' γ' β' a' w' n1 n2 B A
   | exit j=>exact q (.exit j) s' S' γ' β' a' w' n1 n2 B A
  cases ann with
  | leaf=>simp only[ev] at g;exact plain g
  | reg fz n=>simp only[ev] at g;exact plain g
  | regI fz n x=>simp only[ev] at g;exact plain g
  | two x y=>simp only[ev] at g;exact plain g
  | loop x y z=>simp only[ev] at g;exact plain g
  | all x y z u=>simp only[ev] at g;exact plain g
  | cut p W V x y=>
   clear plain;simp only[ev] at g;obtain⟨⟨j,v⟩,h1,h2⟩:=ab g;refine wpIn_seq (iO G c x _ _ (j,v) o (h.lk (W++s.lkS) (V++s.lkO)) h1 λe s' S' γ' β' a' w' n1 n2 B A=>?_);obtain⟨sh,J,D⟩:=sK A;simp only at J D;obtain⟨c1,c2,O⟩:=j6 (zAa j) (by simpa using J) h2
   obtain⟨C,β'',N,Z⟩:=nu h n1 n2.sub n2.cell B.nt (h:=sh) (λt ht=>n2.slots t (List.mem_append_left _ (ge c2 t ht))) n2.gam (λid hid=>n2.objs id (List.mem_append_left _ (ge O id hid))) D s.lkS s.lkO;have F:Fm s S γ a w S' C a' w':=(n2.less (s2:=s) (λt ht=>zJa _ ht) (λt ht=>zJa _ ht)).shape h Z;cases e with
   | normal=> exact iO G d y R k r (Xv o F) N c1 λT s2 S2 γ2 β2 a2 w2 m1 m2 m3 m4=>q T s2 S2 γ2 β2 a2 w2 m1 (F.tr m2 ⟨rfl,rfl,rfl⟩) (Sk.trans (b:=sh.mk' s v s.lkS s.lkO) ⟨rfl,rfl,rfl⟩ m3) m4
   | ret=>exact q .ret _ S' C β'' a' w' N F ⟨rfl,rfl,rfl⟩ c1
   | exit i=>exact q (.exit i) _ S' C β'' a' w' N F ⟨rfl,rfl,rfl⟩ c1
 | .loop c,ann,R,Q,S,γ,β,s,a,w,k,r,o,h,g,q=>by
  cases ann with
  | loop sh p x=>
   have H:(sh.dec s s).bind (λv0=>(E.lp (vo E c sh p x s) v0).bind λr=>mR s k sh.keepS (cw sh.objs) p 0 r)=some r:=g;obtain⟨v0,h1,H⟩:=ab H;obtain⟨⟨j,vj⟩,h2,h3⟩:=ab H;obtain⟨n,hn⟩:=G.lp _ _ _ _ _ h2;obtain⟨L,I⟩:∃ L:St,L={ s with lkS:=sh.keepS++s.lkS,lkO:=cw sh.objs++s.lkO }:=⟨_,rfl⟩;obtain⟨γ0,β0,N,Z⟩:=nu h h (λ_ _ K=>K) (λ_ _ _=>rfl) rfl (h:=sh) (λ_ _=>rfl) (λ_ _ K=>K) (λ_ _ _ K=>⟨K,km.refl _ _⟩) h1 (sh.keepS++s.lkS) (cw sh.objs++s.lkO);have F0:Fm L S γ a w S γ0 a w:=(Fm.refl L S γ a w).shape h Z;refine yM (λn a1 w1=>∃ v S1 γ1 β1,Rp w0 S1 γ1 β1 (sh.mk' s v (sh.keepS++s.lkS) (cw sh.objs++s.lkO)) a1 w1/\Fm L S γ a w S1 γ1 a1 w1/\p9 (vo E c sh p x s) n v=some (j,vj)) (m:=n) ⟨v0,S,γ0,β0,N,F0,hn⟩ ?_;rintro n a1 w1 ⟨v,S1,γ1,β1,g1,g2,g3⟩;cases n with
   | zero=>simp[rR] at g3
   | succ m=>
    simp only[kR] at g3;cases K:vo E c sh p x s v with
    | none=>rw[K] at g3;cases g3
    | some res=>
     rw[K] at g3;refine iO G c x _ _ res (Xv o g2) g1 K λe s' S' γ' β' a' w' n1 n2 B A=>?_;have F:Fm L S γ a w S' γ' a' w':=g2.tr n2 (by rw[I];exact⟨rfl,rfl,rfl⟩)
     have M:s'.nt=s.nt:=B.nt;have sl:∀ t∈sh.keepS,a'.tmps.getD t undef=a.tmps.getD t undef:=λt ht=>F.slots t (by rw[I];exact List.mem_append_left _ ht)
     have ob:∀ id∈cw sh.objs,∀ b,γ id=some b->γ' id=some b/\km w w' b:=λid hid=>F.objs id (by rw[I];exact List.mem_append_left _ hid)
     have fin:∀ e,DU s p e s'=some (j,vj)->Q (IE e) a' w':=λe he=>by
      obtain⟨ad,J,D⟩:=sK he;simp only at J D;obtain⟨c1,c2,O⟩:=j6 (zAa j) (by simpa using J) h3
      obtain⟨C,β'',X,Y⟩:=nu h n1 F.sub F.cell M (h:=ad) (λt ht=>sl t (ge c2 t ht)) F.gam (λid hid=>ob id (ge O id hid)) D s.lkS s.lkO;exact q e _ S' C β'' a' w' X ((F.less (s2:=s) (λt ht=>by rw[I];exact zJa _ ht) (λt ht=>by rw[I];exact zJa _ ht)).shape h Y) ⟨rfl,rfl,rfl⟩ c1
     cases e with
     | normal=> simp only at A;obtain⟨v',J,D⟩:=ab A;simp only[zda] at D;subst D;obtain⟨C,β'',X,Y⟩:=nu h n1 F.sub F.cell M (h:=sh) sl F.gam ob J (sh.keepS++s.lkS) (cw sh.objs++s.lkO);exact⟨m,Nat.lt_succ_self m,v',S',C,β'',X,F.shape h Y,g3⟩
     | ret=> simp only at A;obtain⟨v',J,D⟩:=ab A;simp only[zda] at D;subst D;simp only[zda] at g3;subst g3;exact fin .ret J
     | exit i=> simp only at A;obtain⟨v',J,D⟩:=ab A;simp only[zda] at D;subst D;simp only[zda] at g3;subst g3;exact fin (.exit i) J
  | leaf=>simp[ev] at g
  | reg fz n=>simp[ev] at g
  | regI fz n x=>simp[ev] at g
  | two x y=>simp[ev] at g
  | cut p W V x y=>simp[ev] at g
  | all p W V x=>simp[ev] at g
 | .goto l,ann,R,Q,S,γ,β,s,a,w,k,r,o,h,g,q=>by
  have:(none:Option R)=some r:=by cases ann<;>exact g
  cases this
 | .scope c,ann,R,Q,S,γ,β,s,a,w,k,r,o,h,g,q=>by simp only[ev] at g;refine oy (iO G c _ R k r o h g λe s' S' γ' β' a' w' n1 n2 B A=>?_);cases e<;>exact q _ s' S' γ' β' a' w' n1 n2 B A
 | .rangeFunc f ps x y,ann,R,Q,S,γ,β,s,a,w,k,r,o,h,g,q=>Pv G (an:=ann) o h (by cases ann<;>exact g) q
def EC(i:EnvOk P E)(c:Code)(ann:Ann)(R:Type){Q:Exit->Act->World->Prop}{S:Nat->Nat->Prop}{γ:Nat->Option Nat}{β:Nat->Option (Nat×Nat)}{s:St}{a:Act}{w:World}(k:Ex->St->Option R)(r:R)
  (d:∀ l,ro=some l->∃ r0,w.heap[l]?=some (Obj.loop r0)) (h:Rp w0 S γ β s a w) (b:MQ E c ann R s k=some r) (m:Kp Q w0 s S γ a w k r):c.wpIn (FW ro) nn P Q a w:=by
 cases ann with
 | all f u q x=>
  simp only[MQ] at b;obtain⟨⟨j,v⟩,h1,h2⟩:=ab b;refine iO i c x _ _ (j,v) d (h.lk (u++s.lkS) (q++s.lkO)) h1 λe s' S' γ' β' a' w' n1 n2 y z=>?_;obtain⟨sh,n,o⟩:=sK z;simp only at n o;obtain⟨c1,c2,p⟩:=j6 (zAa j) (by simpa using n) h2
  obtain⟨g,β'',A,B⟩:=nu h n1 n2.sub n2.cell y.nt (h:=sh) (λt ht=>n2.slots t (List.mem_append_left _ (ge c2 t ht))) n2.gam (λid hid=>n2.objs id (List.mem_append_left _ (ge p id hid))) o s.lkS s.lkO;exact m e _ S' g β'' a' w' A ((n2.less (s2:=s) (λt ht=>zJa _ ht) (λt ht=>zJa _ ht)).shape h B) ⟨rfl,rfl,rfl⟩ c1
 | _=>exact iO i c _ R k r d h b m
def ID(d:EnvOk P E)(c:Code)(ann:Ann)(R:Type){Q:Exit->Act->World->Prop}{S:Nat->Nat->Prop}{γ:Nat->Option Nat}{β:Nat->Option (Nat×Nat)}{s:St}{a:Act}{w:World}(k:Ex->St->Option R)(r:R)
  (h:Rp w0 S γ β s a w) (b:ev E c ann R s k=some r) (e:Kp Q w0 s S γ a w k r):c.wpIn (FW none) nn P Q a w:=
 iO d c ann R k r (λ_ h=>by cases h) h b e
end
def Pj{P:Program}{E:Env}(d:EnvOk P E):Hj P (MQ E):=λ_ _ _ c ann R _ _ _ _ _ _ _ k r b h a e=>EC d c ann R k r b h a e
end Sy
end
noncomputable section
namespace Sy
open Go
open Go.ChangeMaps (setBlock)
open Go.RowKit
variable{ro:Option Nat}{nn:Nat}
section
variable{P:Program}{E:Env}{w0:Root}{S:Nat->Nat->Prop}{γ:Nat->Option Nat}{β:Nat->Option (Nat×Nat)}{s:St}{a:Act}{w:World}
def oo(tmps:Array Value):ResultVar->Sem Value
 | .tmp t=>pure (tmps.getD t undef)
 | .cell a t=>do loadVar t (<-asAddr (tmps.getD a undef))
def ml(fn:Func)(tmps:Array Value):Go.results fn tmps=(do
  let vs <-fn.results.mapM (oo tmps)
  pure (if h:vs.size=1 then vs[0] else .tuple vs)):=by
 unfold Go.results;congr 1
def IG{t b:Ty}{a:AV}(h:AV.fits t a=true)(c:AV.fits b a=true):cU t=cU b:=by
 cases a
 case d u x=>rw[oT h,oT c]
 all_goals (cases t<;>cases b<;>simp_all [AV.fits,cU])
def Fe(z:EnvOk P E)(h:Rp w0 S γ β s a w){R:Type}{t:Ty}(hn:am t=true){k:D->Option R}{r:ResultVar}{y:R}(hq:JL E s t k r=some y) :
  ∃ x v,k x=some y/\(oo a.tmps r).run P w=.ok v w/\wt t x/\gE w S x v:=by
 cases r with
 | tmp i=>
  simp only[JL] at hq;obtain⟨x,h1,h2⟩:=ab hq;have l:i<a.tmps.size:=by
   rcases zxa i a.tmps.size with e|d
   ·exact e
   ·rw[h.tmu i (by rw[<-h.nt];exact d)] at h1
    simp[abB] at h1
  obtain⟨n,F⟩:=oJ hn (h.tms i l) h1;exact⟨x,a.tmps.getD i undef,h2,rfl,n,F⟩
 | cell i T=>
  simp only[JL] at hq;obtain⟨u,hu,hq⟩:=ab hq;split at hq<;>first|(cases hq;done)|skip
  rename_i J id p j;split at hq<;>first|(cases hq;done)|skip
  rename_i A;have:=aco _ _ A;subst this;obtain⟨o,q,hq⟩:=ab hq;have l:i<a.tmps.size:=by
   rcases zxa i a.tmps.size with e|d
   ·exact e
   ·have:=h.tmu i (by rw[<-h.nt];exact d)
    rw[j] at this;cases this
  have hx:=h.tms i l;rw[j] at hx;obtain⟨b,off,B,C,m⟩:=lI hx;obtain⟨n,rfl⟩:=m o q;obtain⟨a',cs,m1,m2,m3,m4,m5⟩:=nZ (h.obs id o b q C) n hq;obtain⟨m6,m7⟩:=iK _ _ _ m3 m2;obtain⟨v,g,c⟩:=kh (j9 z hu m4) (w:=w) (b:=b) (off:=cD o p) m6 m7 m5;obtain⟨x,h1,h2⟩:=ab m1;obtain⟨G,I,H⟩:=sH _ _ _ _ h1 m2;have f:=IG (wo _ _ _ h1) m3;refine⟨x,v,h2,?_,G,H v ⟨c.1,by rw[f];exact c.2.1,by rw[f];exact c.2.2⟩ hn⟩
  rw[<-g];simp only[oo,Instr.loadAt,Instr.sureAddr,pure_bind];rw[show a.tmps.getD i undef=.pointer (some ⟨b,cD o p,none⟩) from B];rfl
theorem vR(f:EnvOk P E)(h:Rp w0 S γ β s a w){R:Type}:∀ (c:List Ty) (b:List ResultVar) (k:List D->Option R) (y:R),bq c=true->vQ E s c b k=some y ->
  ∃ xs vs,k xs=some y/\(b.mapM (oo a.tmps)).run P w=.ok vs w/\fG c xs/\vs.length=b.length/\xs.length=vs.length/\∀ (i:Nat) (d:D) (u:Value),xs[i]?=some d->vs[i]?=some u->gE w S d u
 | [],[],k,y,_,hq=>by simp only[vQ] at hq;exact⟨[],[],hq,rfl,rfl,rfl,rfl,λi d u h=>by simp at h⟩
 | [],_::_,k,y,_,hq=>by simp[vQ] at hq
 | _::_,[],k,y,_,hq=>by simp[vQ] at hq
 | t::c,r::b,k,y,hn,hq=>by
  simp only[vQ] at hq;simp only[bq,zaa] at hn;obtain⟨x,v,h1,h2,h3,g⟩:=Fe f h hn.1 hq;obtain⟨xs,vs,j,l,m,n,o,p⟩:=vR f h c b _ y hn.2 h1;refine⟨x::xs,v::vs,j,?_,⟨x,xs,rfl,h3,m⟩,by simp[n],by simp[o],λi d u e hu=>?_⟩
  ·simp only[z4c,zla,h2,zga,l,zra]
  ·cases i with
   | zero=>simp at e hu;subst e;subst hu;exact g
   | succ i=>simp at e hu;exact p i d u e hu
def jK(n:Nat)(a:Ty):Bool:=if n=1 then am a else match a with|.tup b=>bq b|_=>false
def mn(g:EnvOk P E)(h:Rp w0 S γ β s a w){fn:Func}{b:Ty}{y:D}(c:jK fn.results.size b=true)(hq:results E s b fn.results.toList=some y) :
  ∃ v,(Go.results fn a.tmps).run P w=.ok v w/\wt b y/\DR w S y v:=by
 rw[ml];have hm:fn.results.mapM (oo a.tmps)=Functor.map List.toArray (fn.results.toList.mapM (oo a.tmps)):=by rw[zMc]
 rw[hm];have j:fn.results.size=fn.results.toList.length:=j3
 rw[j] at c;generalize fn.results.toList=f at *
 match f,c,hq with
 | [r],c,hq=>
  have i:am b=true:=by simpa [jK] using c
  simp only[results] at hq;obtain⟨x,v,h1,h2,h3,q⟩:=Fe g h i hq;simp only[zda] at h1;subst h1;refine⟨v,?_,h3,DR.of0 q⟩;simp[z4c,h2]
 | [],c,hq=>
  simp only[jK,zLb] at c;obtain⟨d,rfl⟩:∃ d,b=.tup d:=by cases b<;>first|exact⟨_,rfl⟩|(simp[results] at hq;done)
  simp only[results] at hq;obtain⟨xs,vs,e,p,l,m,n,o⟩:=vR g h d [] _ y (by simpa using c) hq
  simp only[zda] at e;subst e;refine⟨.tuple vs.toArray,?_,by simp only[wt];exact⟨xs,rfl,l⟩,vs,rfl,n,o⟩
  have:vs=[]:=zVc.1 m;subst this;simp
 | r::r'::f,c,hq=>
  simp only[jK,zQa] at c;rw[zka j1] at c
  obtain⟨d,rfl⟩:∃ d,b=.tup d:=by cases b<;>first|exact⟨_,rfl⟩|(simp[results] at hq;done)
  simp only[results] at hq;obtain⟨xs,vs,e,p,l,m,n,o⟩:=vR g h d (r::r'::f) _ y c hq;simp only[zda] at e;subst e;refine⟨.tuple vs.toArray,?_,by simp only[wt];exact⟨xs,rfl,l⟩,vs,rfl,n,o⟩
  have:vs.length≠1:=by rw[m];simp
  have k:((List.mapM (oo a.tmps) (r::r'::f)).run P w)=.ok vs w:=p;simp only[zla,map_eq_pure_bind,k,zga,zra];simp[this]
def je{r:Root}{w:World}(h:mG r w)(hs:∀ b,¬ r.sh b):∃ os d,r.w.drawn<=d/\w=grown r.w os d:=by
 obtain⟨w0,S0,sh⟩:=r;obtain⟨h1,h2,h3,g,a,f⟩:=h;simp only[Root.heap,Root.Old] at *;refine⟨(w.heap.toList.drop w0.heap.size),w.drawn,a,?_⟩;have e:w.heap=w0.heap++(w.heap.toList.drop w0.heap.size).toArray:=by
  apply zpc;rw[Array.toList_append]
  conv=>lhs;rw[<-zua w0.heap.size w.heap.toList]
  congr 1;apply zuc;intro i;by_cases c:i<w0.heap.size
  ·rw[z6b c,zjb,f i ⟨c,hs i⟩,zjb]
  ·rw[zeb (by simp;omega),zeb (by simpa using c)]
 cases w;simp only[grown] at *;subst h1;subst h2;subst h3;congr 1
theorem shut_row{K:Nat}{a:Option (List Deferred)}{x:Option (List Deferred)}(hk:w.heap[K]?=some (.deferred a))(b:Nat):bO (setBlock w K (.deferred x)) b=bO w b:=by
 by_cases e:b=K
 ·subst e;simp only[bO,hk,gV (zza.1 hk).1]
 ·simp only[bO,eV e]
def yy{K:Nat}{a:Option (List Deferred)}{x:Option (List Deferred)}(hk:w.heap[K]?=some (.deferred a))(b o:Nat):(setBlock w K (.deferred x)).cell? ⟨b,o,none⟩=w.cell? ⟨b,o,none⟩:=by
 by_cases e:b=K
 ·subst e;simp only[World.cell?,hk,gV (zza.1 hk).1]
 ·simp only[World.cell?,eV e]
def Rp.shut(h:Rp w0 S γ β s a w){K:Nat}{q:Option (List Deferred)}(hk:w.heap[K]?=some (.deferred q))(hK:¬ w0.Old K)(x:Option (List Deferred)):Rp w0 S γ β s a (setBlock w K (.deferred x)):=by
 have hle:Cx.le ⟨w,S,γ,β,s.ob,s.dead⟩ ⟨setBlock w K (.deferred x),S,γ,β,s.ob,s.dead⟩:=
  ⟨λb o _=>yy hk b o,λ_ _ g=>g,λ_ _ g=>g,λi y hy _=>⟨y,hy,λp=>⟨rfl,rfl⟩,λt l e=>⟨l,e,rfl⟩,λ_ _ l e=>⟨l,e⟩⟩,λv m=>⟨m,λc e he=>⟨he,λn hn=>by have j:nk w c=some n:=hn;show nk (setBlock w K (.deferred x)) c=some n;simp only[nk,shut_row hk] at j ⊢;exact j⟩⟩⟩
 refine⟨oS h.ext rfl rfl rfl (by rw[eB];exact zia _) (zia _) (λc d=>eV λe=>hK (e ▸ d)),λt ht=>(h.tms t ht).mono hle,h.nt,h.tmu,λi y c hy d=>?_,λi c d=>by rw[eB];exact h.γn i c d,h.γi,h.γf,
  λv c e m he=>by rw[eB];exact h.βn v c e m he,h.βi,h.βγ,h.βf,λc o g=>by rw[eB];exact h.Sb c o g,h.So⟩
 have hO:=h.obs i y c hy d;refine hO.mono hle (eV λe=>?_) λ_ u=>u;subst e;cases y<;>simp only[gm] at hO
 case one=>obtain⟨_,_,_,cs,k,_⟩:=hO;simp[bO,hk] at k
 case many=>obtain⟨_,_,_,cs,k,_⟩:=hO;simp[bO,hk] at k
 case mp=>obtain⟨_,_,_,es,k,_⟩:=hO;rw[hk] at k;cases k
 case lp=>obtain⟨r,k,_⟩:=hO;rw[hk] at k;cases k
 case fv=>obtain⟨_,x,k,_⟩:=hO;simp[bO,hk] at k
theorem cK.set{lo:Nat}:∀ {l:List Deferred} {a K:Nat} {x:Option (List Deferred)},a<=K->cK lo w a l->cK lo (setBlock w K (.deferred x)) a l
 | [],_,_,_,_,_=>trivial
 | d::l,a,K,x,e,⟨J,h1,h2,h3,b,c⟩=>⟨J,h1,h2,h3,by rw[eV j1];exact b,cK.set j1 c⟩
theorem xL{fn:Func}{tmps:Array Value}{Rn:Ending->World->Prop}{J:World->Prop}{lo:Nat}(b:∀ w K,J w->lo<=K->w.heap[K]?=some (.deferred (some []))->J (setBlock w K (.deferred none)))
  (c:∀ w,J w->∃ v,(Go.results fn tmps).run P w=.ok v w/\Rn (.returned v) w):∀ (m:List Deferred) (e:Nat) (w:World),cK lo w e m->J w->LeavesInM (FW none) 0 P fn tmps Rn m .returning w
 | [],_,w,_,hw=>c w hw
 | d::m,e,w,⟨K,h1,h2,_,a,f⟩,hw=>by refine⟨j3,.inl ⟨K,_,by rw[h1],run_takeDeferred a,xL b c m K _ (cK.set (zia _) f) (b w K hw h2 a)⟩⟩
def jZ(B:EnvOk P E){f:FuncId}{fn:Func}{c:Code}(hf:P.funcs[f]?=some fn)(d:fn.body=some c){args:Array Value}{ann:Ann}{R:Type}{k:Ex->St->Option R}{r:R}{Rn:Ending->World->Prop}
  (y:a={ tmps:=args++Array.replicate (fn.ntmps-args.size) undef,defers:=[] }) (h:Rp w0 S γ β s a w) (q:MQ E c ann R s k=some r) (hk:∀ i s',k (.exit i) s'≠some r)
  (fin:∀ e s' S' γ' β' a' w',Rp w0 S' γ' β' s' a' w'->Fm s S γ a w S' γ' a' w'->Sk s s'->k e s'=some r->∃ v,(Go.results fn a'.tmps).run P w'=.ok v w'/\Rn (.returned v) w'):Calls P f args w Rn:=by
 refine callsIn_wide.1 (callsIn_of_wp_marks (F:=FW none) (n:=0) hf d trivial ?_);rw[<-y];refine EC B c ann R k r (λ_ h=>by cases h) h q λe s' S' γ' β' a' w' n1 n2 L z=>?_
 have C:a.defers=[]:=by rw[y]
 have key:LeavesInM (FW none) 0 P fn a'.tmps Rn a'.defers .returning w':=by
  obtain⟨M,m,A,N,_⟩:=n2.dfs;rw[C,zBb] at A;rw[A];refine xL (J:=λl=>Rp w0 S' γ' β' s' { a' with defers:=a.defers } l/\Fm s S γ a w S' γ' { a' with defers:=a.defers } l) (lo:=w.heap.size) (λl K ⟨t,g⟩ G x=>?_) (λl ⟨t,g⟩=>fin e s' S' γ' β' _ l t g L z) m _ w' N ⟨n1.act rfl,⟨n2.sub,n2.cell,n2.slots,n2.objs,n2.sz,n2.gam,mD.same rfl M⟩⟩;have hold:¬ w0.Old K:=λI=>by have:=I.1;have:=h.ext.sz;omega
  refine⟨t.shut x hold none,g.sub,λb o p=>(yy x b o).trans (g.cell b o p),g.slots,λi D b d=>?_,by rw[eB];exact g.sz,g.gam,mD.same rfl λb=>?_⟩
  ·obtain⟨u,z2⟩:=g.objs i D b d;have H:=(h.γn i b d).2;exact⟨u,z2.trans (.inl (eV j1))⟩
  ·obtain⟨u,z2⟩:=g.dfs.1 b;have j:b<w.heap.size->b≠K:=λ_=>j1
   refine⟨λd=>?_,λ⟨r,d⟩=>?_⟩
   ·rw[eV (j (zza.1 d).1)];exact u d
   ·rw[eV (j (zza.1 d).1)];exact z2 ⟨r,d⟩
 cases e with
 | normal=>exact key
 | ret=>exact key
 | exit i=>exact z3a z (hk i s')
def FZ(C:EnvOk P E){f:FuncId}{fn:Func}{ann:Ann}{a:List Ty}{j:Ty}{xs:List D}{y:D}(hf:P.funcs[f]?=some fn)(J:a.length<=fn.ntmps)(hn:bq a=true)(I:jK fn.results.size j=true)
  (h:Xq E fn ann a j xs=some y):OP P a j f xs y:=by
 intro w S vs F p hlen u;unfold Xq at h;split at h<;>first|(cases h;done)|skip
 rename_i c g;have M:xs.length=a.length:=jS p;have n:(vs.toArray++Array.replicate (fn.ntmps-vs.toArray.size) undef).size=fn.ntmps:=by simp;omega
 refine jZ (w0:=⟨w,S,λ_=>False⟩) (S:=S) (γ:=λ_=>none) (β:=λ_=>none) C hf g rfl ?_ h (λ_ _ G=>by cases G) λe s' S' γ' β' a' w' n1 n2 U A=>?_
 ·refine⟨⟨rfl,rfl,rfl,zia _,zia _,λ_ _=>rfl⟩,λt ht=>?_,n,λt ht=>?_,λid o b H=>(by cases H),λid b g=>(by cases g),λid N b g=>(by cases g),λ_ _=>rfl,λv b e _ g=>(by cases g),λv v' b e T _ _ g=>(by cases g),λv id b e _ g=>(by cases g),λ_ _=>rfl,F,λb o g _=>g⟩
  ·simp only[jF];split
   ·rename_i ty x B r;have m:=(zqa.1 r).1;have k:t<vs.length:=j1
    have L:(vs.toArray++Array.replicate (fn.ntmps-vs.toArray.size) undef).getD t undef=vs[t]:=by simp[Array.getD,zJc,k];omega
    show AR _ _ ((vs.toArray++Array.replicate (fn.ntmps-vs.toArray.size) undef).getD t undef);rw[L];obtain⟨V,q,z⟩:=ib p B;rw[r] at q;cases q;exact dK (bX hn B) z (u t x _ r (zca k))
   ·simp only[AR]
  ·have K:fn.ntmps<=t:=ht;simp only[jF];rw[zeb j1]
 ·have l:results E s' j fn.results.toList=some y->(∃ v,(Go.results fn a'.tmps).run P w'=.ok v w'/\∃ v',Ending.returned v=.returned v'/\(∃ os d,w.drawn<=d/\w'=grown w os d)/\wt j y/\DR w' (λb o=>S b o\/(w.heap.size<=b/\b<w'.heap.size)) y v'):=λhq=>by
   obtain⟨v,O,Q,R⟩:=mn C n1 I hq;refine⟨v,O,v,rfl,je n1.ext (λ_ hf=>hf),Q,R.mono (λ_ _ _=>rfl) λb o g=>?_⟩;rcases zxa b w.heap.size with m|s
   ·exact .inl (n1.So b o g ⟨m,λhf=>hf⟩)
   ·exact .inr ⟨s,n1.Sb b o g⟩
  cases e with
  | normal=>exact l A
  | ret=>exact l A
  | exit i=>cases A
def Bx(a:List Ty)(k:Nat)(args:List D)(i:Nat):AV:=
 if i+k<a.length then jF a args i else match a[i]? with
  | some t=>.ptr t (i+k-a.length) []
  | none=>.undef
def Qv(a:List Ty)(k:Nat)(args:List D)(j:Nat):Option Ob:=
 if j<k then match a[a.length-k+j]?,args[a.length-k+j]? with
  | some t,some x=>some (.one t (.d t x))
  | _,_=>none
 else none
def mz:Option Ob->Bool
 | some (.one _ _)=>true
 | _=>false
def Pt(E:Env)(fn:Func)(ann:Ann)(a:List Ty)(k:Nat)(b:Ty)(args:List D):Option D:=
 match fn.body with
 | none=>none
 | some c=>MQ E c ann D { tm:=Bx a k args,ob:=Qv a k args,fresh:=0,dead:=[],nt:=fn.ntmps,lkS:=[],lkO:=List.range k } λe s=>match e with
  | .exit _=>none
  | _=>if(List.range k).all (λj=>mz (s.ob j)) then results E s b fn.results.toList else none
def C2(hE:EnvOk P E){f:FuncId}{fn:Func}{ann:Ann}{a:List Ty}{k:Nat}{A:Ty}{xs:List D}{y:D}(hf:P.funcs[f]?=some fn)(an:a.length<=fn.ntmps)(hn:bq a=true)(hk:k<=a.length)(ak:k<=4095)(hr:jK fn.results.size A=true)
  (h:Pt E fn ann a k A xs=some y):QB P a A f xs y k:=by
 intro w S vs p hS I T hlen W Z U;unfold Pt at h;split at h<;>first|(cases h;done)|skip
 rename_i c g;have ax:xs.length=a.length:=jS I;have Y:vs.length=a.length-k:=j1
 obtain⟨l,hl⟩:∃ l,l=vs++p.map GG:=⟨_,rfl⟩;have al:l.length=a.length:=by rw[hl];simp;omega
 rw[<-hl];have N:(l.toArray++Array.replicate (fn.ntmps-l.toArray.size) undef).size=fn.ntmps:=by simp;omega
 have F:∀ t,t<l.length->(l.toArray++Array.replicate (fn.ntmps-l.toArray.size) undef).getD t undef=l.getD t undef:=λt ht=>by simp[Array.getD,zJc,ht];omega
 have cap:∀ j b,p[j]?=some b->j<k/\∃ t x,a[a.length-k+j]?=some t/\xs[a.length-k+j]?=some x/\wt t x/\OO w S x b:=λj b B=>by
  have n:j<k:=by rw[<-T];exact(zqa.1 B).1
  have h1:a.length-k+j<a.length:=j1
  obtain⟨x,hx,hw⟩:=ib I (zca h1);exact⟨n,_,x,zca h1,hx,hw,U j x b (by rw[Y];exact hx) B⟩
 have K:∀ j b,p[j]?=some b->b<w.heap.size:=λj b B=>by
  obtain⟨_,t,x,_,_,_,_,cs,q,_⟩:=cap j b B;simp only[bO] at q;split at q<;>first|(cases q;done)|skip
  rename_i V;exact(zza.1 V).1
 have key:∀ t,AR ⟨w,S,λid=>p[id]?,λ_=>none,Qv a k xs,[]⟩ (Bx a k xs t) ((l.toArray++Array.replicate (fn.ntmps-l.toArray.size) undef).getD t undef):=λt=>by
  simp only[Bx];split
  ·rename_i H;rw[F t j1]
   simp only[jF];split
   ·rename_i ty x L e2;have z:t<vs.length:=j1
    have X:l.getD t undef=vs[t]:=by rw[hl,z1a,zvb z,zca z];rfl
    rw[X];obtain⟨x',Q,ad⟩:=ib I L;rw[e2] at Q;cases Q;exact dK (bX hn L) ad (Z t x _ e2 (zca z))
   ·simp only[AR]
  ·rename_i M;split
   ·rename_i ty L;have H:=(zqa.1 L).1;obtain⟨j,B⟩:∃ j,j=t+k-a.length:=⟨_,rfl⟩;have n:j<p.length:=j1
    have O:t=a.length-k+j:=j1
    rw[F t j1,<-B]
    have X:l.getD t undef=GG p[j]:=by rw[hl,z1a,zYb j1,show t-vs.length=j by omega,zhb,zca n];rfl
    rw[X];refine gK (zca n) λo C=>?_;have m:Qv a k xs j=some o:=C;unfold Qv at m;split at m<;>first|(cases m;done)|skip
    split at m<;>first|(cases m;done)|skip
    rename_i u x J q2;cases m;rw[<-O,L] at J;cases J;exact⟨rfl,rfl⟩
   ·simp only[AR]
 refine jZ (w0:=⟨w,S,λb=>b∈p⟩) (S:=S) (γ:=λid=>p[id]?) (β:=λ_=>none) hE hf g rfl ?_ h (λ_ _ V=>by cases V) λe s' S' γ' β' a' w' n1 n2 n3 n4=>?_
 ·refine⟨⟨rfl,rfl,rfl,zia _,zia _,λ_ _=>rfl⟩,λt ht=>?_,N,λt ht=>?_,λid o b C g=>?_,λid b g=>⟨λC=>C.2 (zbb g),K id b g⟩,λid ai b g R=>W id ai b g R,λid hid=>zeb ?_,λv b e _ g=>(by cases g),λv v' b e e' _ _ g=>(by cases g),λv id b e _ g=>(by cases g),λ_ _=>rfl,hS,λb o g _=>g⟩
  ·exact key t
  ·have O:fn.ntmps<=t:=ht;show Bx a k xs t=.undef;unfold Bx;rw[zka j1,zeb j1]
  ·have m:Qv a k xs id=some o:=C;obtain⟨n,t,x,J,q2,q3,q4,cs,q5,q6⟩:=cap id b g;unfold Qv at m;rw[zna n,J,q2] at m;cases m;have q0:=bX hn J;simp only[gm,AV.fits,AC];exact⟨q0,acn t,q4,cs,q5,⟨q3,q0,q6⟩,by rw[<-q6.1];exact cH _ _ q3 q0⟩
  ·have aj:0*4096+4096<=id:=hid;omega
 ·have stay:∀ b∈p,w'.heap[b]?=w.heap[b]?/\((List.range k).all (λj=>mz (s'.ob j))=true->∀ o,¬ S' b o):=λb g=>by
   obtain⟨j,B⟩:=List.getElem?_of_mem g;obtain⟨n,t,x,J,q2,q3,q4,cs,q5,q6⟩:=cap j b B;obtain⟨z1,z2⟩:=n2.objs j (zWa.2 n) b B;refine⟨z2.row q5,λs=>?_⟩;have:=zCa.1 s j (zWa.2 n);cases C:s'.ob j with
   | none=>rw[C] at this;cases this
   | some o=>
    rw[C] at this;have hO:=n1.obs j o b C z1;cases o<;>simp only[mz] at this<;>first|(cases this;done)|skip
    simp only[gm] at hO;exact hO.2.2.1
  have G:(if(List.range k).all (λj=>mz (s'.ob j)) then results E s' A fn.results.toList else none)=some y->(∃ v,(Go.results fn a'.tmps).run P w'=.ok v w'/\∃ v',Ending.returned v=.returned v'/\(∃ os d,w.drawn<=d/\w'=grown w os d)/\wt A y/\DR w' (λb o=>S b o\/(w.heap.size<=b/\b<w'.heap.size)) y v'):=λhq=>by
   split at hq<;>first|(cases hq;done)|skip
   rename_i s;obtain⟨v,k1,k2,k3⟩:=mn hE n1 hr hq;refine⟨v,k1,v,rfl,je (r:=⟨w,S,λ_=>False⟩) ⟨n1.ext.tape,n1.ext.os,n1.ext.output,n1.ext.sz,n1.ext.dr,λb g=>?_⟩ (λ_ hf=>hf),k2,k3.mono (λ_ _ _=>rfl) λb o g=>?_⟩
   ·by_cases hm:b∈p
    ·exact(stay b hm).1
    ·exact n1.ext.old b ⟨g.1,hm⟩
   ·rcases zxa b w.heap.size with H|M
    ·by_cases hm:b∈p
     ·exact z3a g ((stay b hm).2 s o)
     ·exact .inl (n1.So b o g ⟨H,hm⟩)
    ·exact .inr ⟨M,n1.Sb b o g⟩
  cases e with
  | normal=>exact G n4
  | ret=>exact G n4
  | exit i=>cases n4
end
end Sy
end
noncomputable section
namespace Sy
open Go Go.Proofs Go.Sort Go.Lib
def uE(E:Env)(g:Nat)(x y:D):Option Int:=(E.call g [x,y]).bind λr=>match r with|.int .i64 n=>some n|_=>none
def rV(E:Env)(g:Nat)(x y:D):Bool:=match uE E g x y with|some n=>decide (n<0)|none=>false
def Hf(E:Env)(g:Nat)(x y:D):Bool:=match uE E g x y with|some n=>decide (0<=n)|none=>false
def Df(lt:D->D->Bool)(x:D):List D->List D
 | []=>[x]
 | y::l=>if lt x y then x::y::l else y::Df lt x l
def mC(lt:D->D->Bool):List D->List D
 | []=>[]
 | x::l=>Df lt x (mC lt l)
def tK(E:Env)(g:Nat):List D->Bool
 | []=>true
 | x::l=>Hf E g x x&&l.all (λy=>rV E g x y&&Hf E g y x)&&tK E g l
def ki(E:Env)(g:Nat)(l:List D):Option (List D):=if tK E g (mC (rV E g) l) then some (mC (rV E g) l) else none
theorem rP(lt:D->D->Bool)(x:D):∀ l:List D,(Df lt x l).Perm (x::l)
 | []=>.refl _
 | y::l=>by
  simp only[Df];split
  ·exact .refl _
  ·exact((rP lt x l).cons y).trans (.swap x y l)
theorem gW(lt:D->D->Bool):∀ l:List D,(mC lt l).Perm l
 | []=>.refl _
 | x::l=>(rP lt x _).trans ((gW lt l).cons x)
section
variable{E:Env}{g:Nat}
theorem kL:∀ {l:List D},tK E g l=true->l.Pairwise (λx y=>rV E g x y=true/\Hf E g y x=true)/\∀ x∈l,Hf E g x x=true
 | [],_=>⟨.nil,j3⟩
 | x::l,h=>by
  simp only[tK,zaa,zCa] at h;obtain⟨⟨h1,h2⟩,h3⟩:=h;obtain⟨a,b⟩:=kL h3;exact⟨zSa.2 ⟨h2,a⟩,λy hy=>by
   rcases zEa.1 hy with rfl|hy
   ·exact h1
   ·exact b y hy⟩
def IH{x y:D}(h:Hf E g x y=true):rV E g x y=false:=by
 unfold Hf at h;unfold rV;split at h
 ·rename_i n hn;simp only[zfa] at h;simp only[decide_eq_false_iff_not];omega
 ·cases h
def P5{x y:D}(h:rV E g x y=true\/Hf E g x y=true):∃ n,uE E g x y=some n:=by
 rcases h with h|h
 ·unfold rV at h;split at h
  ·exact⟨_,by assumption⟩
  ·cases h
 ·unfold Hf at h;split at h
  ·exact⟨_,by assumption⟩
  ·cases h
variable{l:List D}(hc:tK E g l=true)
include hc
def fq{i j:Nat}{x y:D}(c:l[i]?=some x)(d:l[j]?=some y):(rV E g x y=true↔i<j)/\∃ n,uE E g x y=some n:=by
 obtain⟨h1,h2⟩:=kL hc;obtain⟨a,rfl⟩:=zqa.1 c;obtain⟨b,rfl⟩:=zqa.1 d;rcases zpd i j with k|k|k
 ·have:=z3b.1 h1 i j a b k;exact⟨⟨λ_=>k,λ_=>this.1⟩,P5 (.inl this.1)⟩
 ·subst k;have:=h2 _ (zFa a);exact⟨⟨λh=>(by rw[IH this] at h;cases h),λh=>z3a h (Nat.lt_irrefl _)⟩,P5 (.inr this)⟩
 ·have:=z3b.1 h1 j i b a k;exact⟨⟨λh=>(by rw[IH this.2] at h;cases h),λh=>j1⟩,P5 (.inr this.2)⟩
def xh:l.Nodup:=by obtain⟨h1,h2⟩:=kL hc;refine h1.imp λ{x y} h e=>?_;subst e;rw[IH h.2] at h;cases h.1
def He(E:Env)(g:Nat)(l:List D)(x y:{d:D // d∈l}):Int:=(uE E g x.1 y.1).getD 0
omit hc in
def BI{x y:{d:D // d∈l}}:ltOf (He E g l) x y=rV E g x.1 y.1:=by unfold ltOf He rV;cases uE E g x.1 y.1<;>simp
def NL:SWO (ltOf (He E g l)):=by
 have f:∀ x:{d:D // d∈l},∃ i,l[i]?=some x.1:=λx=>by obtain⟨i,h1,h2⟩:=zYa x.2;exact⟨i,by rw[zca h1,h2]⟩
 have key:∀ (x y:{d:D // d∈l}) (i j:Nat),l[i]?=some x.1->l[j]?=some y.1->(ltOf (He E g l) x y=true↔i<j):=λx y i j c e=>by rw[BI];exact(fq hc c e).1
 refine⟨λx=>?_,λx y z h1 h2=>?_,λx y z h1 h2=>?_⟩
 ·obtain⟨i,c⟩:=f x;cases h:ltOf (He E g l) x x with
  | false=>rfl
  | true=>exact z3a ((key x x i i c c).1 h) (Nat.lt_irrefl _)
 ·obtain⟨i,c⟩:=f x;obtain⟨j,e⟩:=f y;obtain⟨k,hk⟩:=f z;have a:=(key x y i j c e).1 h1;have b:=(key y z j k e hk).1 h2;exact(key x z i k c hk).2 j1
 ·obtain⟨i,c⟩:=f x;obtain⟨j,e⟩:=f y;obtain⟨k,hk⟩:=f z;have a:¬ i<j:=λh=>by rw[(key x y i j c e).2 h] at h1;cases h1
  have b:¬ j<k:=λh=>by rw[(key y z j k e hk).2 h] at h2;cases h2
  cases h:ltOf (He E g l) x z with
  | false=>rfl
  | true=>have:=(key x z i k c hk).1 h;omega
def GV[Inhabited {d:D // d∈l}]{d d':Array {d:D // d∈l}}(M:(d.toList.map (·.1)).Perm l)(hp:PermIn 0 d.size d d')(hs:SortedIn (ltOf (He E g l)) 0 d.size d'):d'.toList.map (·.1)=l:=by
 obtain⟨O,_,G⟩:=hp;have q:d'.toList.Perm d.toList:=by
  have J:d'.extract 0 d.size=d':=by rw[<-O];simp
  rw[J] at G;simpa using G
 have m:(d'.toList.map (·.1)).Perm l:=(q.map _).trans M;have hlen:(d'.toList.map (·.1)).length=l.length:=m.length_eq;have nd:=m.symm.nodup (xh hc);have n:(d'.toList.map (·.1)).Pairwise (λx y=>rV E g x y=true):=by
  rw[z3b];intro i j r u k;simp only[zya,zRb] at r u;have h1:=hs i j (zAa _) k j1
  rw[getElem!_pos d' j u,getElem!_pos d' i r,BI] at h1;simp only[zNc,zDd];obtain⟨a,o,c⟩:=zYa (d'[i]).2;obtain⟨b,p,f⟩:=zYa (d'[j]).2;have A:l[a]?=some (d'[i]).1:=by rw[zca o,c]
  have B:l[b]?=some (d'[j]).1:=by rw[zca p,f]
  have P:¬ b<a:=λh=>by rw[(fq hc B A).1.2 h] at h1;cases h1
  have Q:a≠b:=λe=>by
   subst e;have:(d'[i]).1=(d'[j]).1:=by rw[<-c,<-f]
   have:=z3b.1 nd i j (by simpa using r) (by simpa using u) k
   simp only[zNc,zDd] at this;contradiction
  exact(fq hc A B).1.2 j1
 have key:∀ {a b:List D},a.Pairwise (λx y=>rV E g x y=true)->b.Pairwise (λx y=>rV E g x y=true)->a.Perm b->(∀ x∈a,x∈l)->a=b:=by
  intro a
  induction a with
  | nil=>intro b _ _ hp _;exact hp.symm.eq_nil.symm ▸ rfl
  | cons x a ih=>
   intro b K L hp hm;cases b with
   | nil=>exact z3a hp.eq_nil j3
   | cons y b=>
    obtain⟨a1,a2⟩:=zSa.1 K;obtain⟨H,I⟩:=zSa.1 L;have e:x=y:=by
     rcases zEa.1 (hp.subset zsa) with e|m1
     ·exact e
     ·rcases zEa.1 (hp.symm.subset (zsa (a:=y))) with e|m2
      ·exact e.symm
      ·exfalso;have h1:=H x m1;have h2:=a1 y m2;obtain⟨i,s,t⟩:=zYa (hm x zsa);obtain⟨j,v,w⟩:=zYa (hm y (zoa _ m2));have C:l[i]?=some x:=by rw[zca s,t]
       have F:l[j]?=some y:=by rw[zca v,w]
       have:=(fq hc C F).1.1 h2;have:=(fq hc F C).1.1 h1;omega
    subst e;rw[ih a2 I ((List.perm_cons x).1 hp) (λz N=>hm z (zoa _ N))]
 exact key n ((kL hc).1.imp λh=>h.1) m λx hx=>m.subset hx
end
def td:D->Bool
 | .int ..=>true
 | .bool _=>true
 | _=>false
def gh:D->Value
 | .int k n=>.int k n
 | .bool b=>.bool b
 | _=>undef
mutual
theorem kU:∀ (t:Ty) (x:D),bV t=true->wt t x->∀ d∈x.flat,td d=true
 | .int k,x,_,h=>by simp only[wt] at h;obtain⟨n,rfl⟩:=h;intro d hd;simp only[D.flat,zLa] at hd;subst hd;rfl
 | .bool,x,_,h=>by simp only[wt] at h;obtain⟨n,rfl⟩:=h;intro d hd;simp only[D.flat,zLa] at hd;subst hd;rfl
 | .str,x,hc,h=>by simp[bV] at hc
 | .st ts,x,hc,h=>by simp only[wt] at h;obtain⟨l,rfl,hl⟩:=h;simp only[bV] at hc;simp only[D.flat];exact vi ts l hc hl
 | .arr n t,x,hc,h=>by
  simp only[wt] at h;obtain⟨l,rfl,hn,hl⟩:=h;clear hn;simp only[bV] at hc;simp only[D.flat]
  induction l with
  | nil=>intro d hd;simp[abM] at hd
  | cons y l ih=>
   intro d hd;simp only[abM,List.mem_append] at hd;rcases hd with hd|hd
   ·exact kU t y hc (hl y zsa) d hd
   ·exact ih (λz hz=>hl z (zoa _ hz)) d hd
 | .sl t,x,hc,h=>by simp[bV] at hc
 | .tup l,x,hc,h=>by simp[bV] at hc
 | .fn,x,hc,h=>by simp[bV] at hc
theorem vi:∀ (ts:List Ty) (l:List D),mQ ts=true->fG ts l->∀ d∈abM l,td d=true
 | [],l,_,h=>by simp only[fG] at h;subst h;intro d hd;simp[abM] at hd
 | t::ts,l,hc,h=>by
  simp only[fG] at h;obtain⟨y,l',rfl,h1,h2⟩:=h;simp only[mQ,zaa] at hc;intro d hd;simp only[abM,List.mem_append] at hd;rcases hd with hd|hd
  ·exact kU t y hc.1 h1 d hd
  ·exact vi ts l' hc.2 h2 d hd
end
def D6{w:World}{S:Nat->Nat->Prop}{d:D}{c:Value}(hl:td d=true):CR w S d c↔c=gh d:=by
 cases d<;>simp only[td] at hl<;>first|(cases hl;done)|skip
 ·exact⟨λh=>h.int_inv,λh=>by subst h;exact .int _ _⟩
 ·exact⟨λh=>h.bool_inv,λh=>by subst h;exact .bool _⟩
def gk{w:World}{S:Nat->Nat->Prop}{e:List D}{cs:List Value}(hl:∀ d∈e,td d=true):c8 w S e cs↔cs=e.map gh:=by
 constructor
 ·rintro⟨h1,h2⟩;apply zuc;intro i;rw[zhb];rcases zxa i e.length with k|k
  ·have a:=zca k;have b:cs[i]?=some cs[i]:=zca (h1 ▸ k);rw[a,b];simp only[zIb,zda];exact(D6 (hl _ (zFa k))).1 (h2 i _ _ a b)
  ·rw[zeb k,zeb j1];rfl
 ·rintro rfl;refine⟨j3,λi d c f hc=>?_⟩
  rw[zhb,f] at hc;simp only[zIb,zda] at hc;exact(D6 (hl d (zbb f))).2 hc.symm
theorem xA{k:Nat}(hk:0<k):∀ (l:List D),(∀ x∈l,x.flat.length=k)->∀ t,(abM l)[t]?=(l[t/k]?).bind λx=>x.flat[t%k]?
 | [],_,t=>by simp[abM]
 | x::l,h,t=>by
  have hx:=h x zsa;simp only[abM];rcases zxa t k with c|c
  ·rw[zvb j1,zib c,zUa c];rfl
  ·rw[zYb j1,hx,xA hk l (λy hy=>h y (zoa _ hy)) (t-k)]
   have a:t/k=(t-k)/k+1:=by rw[Nat.div_eq_sub_div hk c]
   have b:t%k=(t-k)%k:=Nat.mod_eq_sub_mod c;rw[a,b];rfl
structure SortOk(P:Program)(f:Nat)(e:Ty):Prop where
 cmp:bV e=true
 agg:cU e=true
 pos:0<e.size
 nt:am e=true
 fn : ∃ fn, P.funcs[f]? = some fn /\ (fn.name == "runtime.NumGoroutine") = false /\ fn.body.isSome = true
 empty:∀ (p:Option Addr) (cap:Nat) (fv:Value) (w:World),Calls P f #[.slice p 0 cap,fv] w λen w'=>en=.returned (.tuple #[])/\w'=w
 whole:∀ (α:Type) [Inhabited α] (enc:α->List Value) (_:∀ x,(enc x).length=e.size) (_:∀ x,∀ v∈enc x,v.oneCell'=true) (cf:α->α->Int) (_:SWO (ltOf cf)) (g:Nat) (blk off cap:Nat) (d:Array α) (w:World)
  (_:∀ args w,(callFunc g args).run P w=.ok (.enter g args) w) (_:CmpLays P g #[] enc e.size cf blk off d.size w) (_:HoldsK enc e.size w blk off d) (_:blk<w.heap.size) (_:d.size<4611686018427387904),
  Calls P f #[.slice (some ⟨blk,off,none⟩) d.size cap,.func (.func g) #[] #[]] w λen w'=>en=.returned (.tuple #[])/\∃ d' n os,PermIn 0 d.size d d'/\SortedIn (ltOf cf) 0 d.size d'/\w'=sortWorldK enc e.size w blk off n d' os
section
variable{P:Program}{E:Env}
def C6(hE:EnvOk P E){g:Nat}{ptys:List Ty}{rty:Ty}(h:E.sig g=some (ptys,rty))(args:Array Value)(w:World):(callFunc g args).run P w=.ok (.enter g args) w:=by
 obtain⟨_,_,fn,f1,f2,f3⟩:=hE.sig g ptys rty h;have f2' : ¬ fn.name = "runtime.NumGoroutine" := by simpa using f2
 have hb':¬ fn.body=none:=by intro hh;rw[hh] at f3;cases f3
 simp[callFunc,f1,f2',hb']
def GU(hE:EnvOk P E){f:Nat}{e:Ty}(hf:SortOk P f e){g:Nat}(B:E.sig g=some ([e,e],.int .i64)/\E.free g=0){l l':List D}(a1:∀ x∈l,wt e x)(hs:ki E g l=some l')(aB:l≠[]){w:World}{b off cap:Nat}{row:Array Value}
  (O:bO w b=some row) (hc:∀ (i:Nat) (d:D),(abM l)[i]?=some d->w.cell? ⟨b,off+i,none⟩=some (gh d)) (hlen:l.length<4611686018427387904) :
  Calls P f #[.slice (some ⟨b,off,none⟩) l.length cap,.func (.func g) #[] #[]] w λen w'=>en=.returned (.tuple #[])/\l'.Perm l/\w.drawn<=w'.drawn/\w'.tape=w.tape/\w'.os=w.os/\w'.output=w.output/\w.heap.size<=w'.heap.size ∧
   (∀ Q,Q≠b->Q<w.heap.size->w'.heap[Q]?=w.heap[Q]?)/\∀ (i:Nat) (d:D),(abM l')[i]?=some d->w'.cell? ⟨b,off+i,none⟩=some (gh d):=by
 have aI:tK E g l'=true/\l'=mC (rV E g) l:=by
  unfold ki at hs;split at hs
  ·rename_i h;cases hs;exact⟨h,rfl⟩
  ·cases hs
 obtain⟨s,hl'⟩:=aI;have k:l'.Perm l:=hl' ▸ gW _ l;have G:∀ x∈l,x∈l':=λx hx=>k.symm.subset hx;have p:∀ x∈l',wt e x:=λx hx=>a1 x (k.subset hx);obtain⟨x0,a2⟩:∃ x0,x0∈l':=by
  cases l with
  | nil=>exact z3a rfl aB
  | cons x l=>exact⟨x,G x zsa⟩
 have a3:Inhabited {d:D // d∈l'}:=⟨⟨x0,a2⟩⟩;have L:∀ x:{d:D // d∈l'},x.1.flat.length=e.size:=λx=>cH e x.1 (p x.1 x.2) hf.nt;have A:∀ x:{d:D // d∈l'},∀ d∈x.1.flat,td d=true:=λx=>kU e x.1 hf.cmp (p x.1 x.2);obtain⟨d,N⟩:∃ d:Array {d:D // d∈l'},d.toList.map (·.1)=l:=⟨(l.pmap Subtype.mk G).toArray,by simp[List.map_pmap]⟩
 have K:d.size=l.length:=by rw[<-N];simp
 have R:b<w.heap.size:=by
  unfold bO at O;cases M:w.heap[b]? with
  | none=>rw[M] at O;cases O
  | some o=>exact(zza.1 M).1
 have W:∀ o,w.frozen? ⟨b,o,none⟩=false:=λo=>by
  unfold bO at O;split at O
  ·rename_i c t M;unfold World.frozen?;simp[M]
  ·cases O
 have at_:∀ (dd:Array {d:D // d∈l'}) (t:Nat),t<dd.size*e.size->(abM (dd.toList.map (·.1)))[t]?.map gh=some ((flatK (λx:{d:D // d∈l'}=>x.1.flat.map gh) e.size dd)[t]!):=λdd t ht=>by
  rw[get_flatK _ _ _ _ ht,xA hf.pos _ (λx hx=>by obtain⟨y,_,rfl⟩:=zMa.1 hx;exact L y)]
  have h1:t/e.size<dd.size:=(zdb hf.pos).2 ht;have h2:t%e.size<e.size:=z2a _ hf.pos;rw[zhb,zjb,zod h1,getElem!_pos dd _ h1];simp only[zIb,zba];have h3:t%e.size<(dd[t/e.size]).1.flat.length:=by rw[L];exact h2
  rw[zca h3,getElem!_pos _ _ (by simpa using h3)]
  simp
 have hH:HoldsK (λx:{d:D // d∈l'}=>x.1.flat.map gh) e.size w b off d:=by
  intro j hj;rw[size_flatK] at hj;refine⟨?_,W _⟩;have:=at_ d j hj;rw[N] at this;cases hq:(abM l)[j]? with
  | none=>rw[hq] at this;cases this
  | some q=> rw[hq] at this;simp only[zIb,zda] at this;rw[hc j q hq,this];rfl
 have T:CmpLays P g #[] (λx:{d:D // d∈l'}=>x.1.flat.map gh) e.size (He E g l') b off d.size w:=by
  intro m os dk _ x y;obtain⟨i,ak,al⟩:=zYa x.2;obtain⟨j,an,ax⟩:=zYa y.2;obtain⟨_,n,hn⟩:=fq s (i:=i) (j:=j) (x:=x.1) (y:=y.1) (by rw[zca ak,al]) (by rw[zca an,ax])
  have J:E.call g [x.1,y.1]=some (.int .i64 n):=by
   unfold uE at hn;obtain⟨r,h1,h2⟩:=ab hn;rw[h1];split at h2
   ·cases h2;rfl
   ·cases h2
  have ai:He E g l' x y=n:=by simp[He,hn]
  rw[ai];have I:∀ z:{d:D // d∈l'},∀ (w:World) (S:Nat->Nat->Prop),gE w S z.1 (.agg (z.1.flat.map gh).toArray):=λz w S=>by
   refine⟨?_,?_⟩
   ·have C:=p z.1 z.2;have ha:=hf.agg;cases e<;>simp only[cU] at ha<;>first|(cases ha;done)|skip
    ·simp only[wt] at C;obtain⟨ll,h1,_⟩:=C;rw[h1];exact⟨_,rfl⟩
    ·simp only[wt] at C;obtain⟨ll,h1,_⟩:=C;rw[h1];exact⟨_,rfl⟩
   ·exact(gk (A z)).2 (by simp[Value.cells])
  have Y:fG [e,e] [x.1,y.1]:=⟨x.1,[y.1],rfl,p _ x.2,⟨y.1,[],rfl,p _ y.2,rfl⟩⟩;have u:=(hE.call g [e,e] (.int .i64) [x.1,y.1] (.int .i64 n) B.1 J Y).1;rw[B.2] at u;have U:=u
   (sortWorldK (λx:{d:D // d∈l'}=>x.1.flat.map gh) e.size w b off m dk os) (λ_ _=>False) [.agg (x.1.flat.map gh).toArray,.agg (y.1.flat.map gh).toArray] (λ_ _ h=>h.elim) Y rfl
   (λi z v C H=>by
    cases i with
    | zero=>simp at C H;subst C;subst H;exact I x _ _
    | succ i=>cases i with
     | zero=>simp at C H;subst C;subst H;exact I y _ _
     | succ i=>simp at C)
  refine U.mono ?_;rintro en w' ⟨v,rfl,⟨os',dr,aj,rfl⟩,_,H⟩;have a0:v=.int .i64 n:=by
   obtain⟨c1,c2⟩:=(H:gE _ _ _ _);have:=(gk (by intro d N;simp only[D.flat,zLa] at N;subst N;rfl)).1 c2
   exact ar c1 (by simpa [D.flat,gh] using this)
  refine⟨by rw[a0],dr-(sortWorldK (λx:{d:D // d∈l'}=>x.1.flat.map gh) e.size w b off m dk os).drawn,os'.toArray,?_⟩
  unfold grown grow World.drewN;simp only[show ∀ a b:Nat,a<=b->a+(b-a)=b from λa b h=>j1,aj]
 have hO:SWO (ltOf (He E g l')):=NL s;have key:=hf.whole {d:D // d∈l'} (λx=>x.1.flat.map gh) (λx=>by simp[L x]) (λx v H=>by obtain⟨q,hq,rfl⟩:=zMa.1 H;have:=A x q hq;cases q<;>simp only[td] at this<;>first|(cases this;done)|rfl) (He E g l') hO g b off cap d w (C6 hE B.1) T hH R j1
 rw[K] at key;refine key.mono ?_;rintro en w' ⟨rfl,d',n,os,hp,X,rfl⟩;rw[<-K] at hp X;have V:d'.toList.map (·.1)=l':=GV s (d:=d) (by rw[N];exact k.symm) hp X
 have F:d'.size=d.size:=hp.1;have Z:=holdsK_sortWorldK_c (λx:{d:D // d∈l'}=>x.1.flat.map gh) e.size w b off d d' n os hH R F;refine⟨rfl,k,?_,rfl,rfl,rfl,?_,λQ M ad=>?_,λi q hq=>?_⟩
 ·show w.drawn<=w.drawn+n;omega
 ·simp only[sortWorldK,grow,putRowK,putRow,mapBlock,Go.Sort.ahead,Array.size_append,Array.size_modify];omega
 ·simp only[sortWorldK,grow,putRowK,putRow,mapBlock,Go.Sort.ahead];rw[Array.getElem?_append_left (by simpa using ad),z9c,zka (Ne.symm M)]
 ·have hi:i<d'.size*e.size:=by
   have h1:=(zqa.1 hq).1;rw[aE hf.nt l' p] at h1;rw[F,K,<-k.length_eq];exact h1
  have h2:=at_ d' i hi;rw[V,hq] at h2;simp only[zIb,zda] at h2;have h3:=(Z i (by rw[size_flatK];exact hi)).1
  rw[h3,<-h2];rfl
end
end Sy
end
noncomputable section
namespace Sy
open Go Go.ChangeShapes Go.WideShapes Go.ChangeAt Go.RowKit
def bool_of{W:World}{S:Nat->Nat->Prop}{b:Bool}{v:Value}(h:DR W S (.bool b) v):v=.bool b:=by
 obtain⟨h1,h2⟩:=(h:gE W S (.bool b) v);have h3:=(gk (by intro d a;simp only[D.flat,zLa] at a;subst a;rfl)).1 h2
 exact ar h1 (by simpa [D.flat,gh] using h3)
section
variable{H:Type}{enc:TypeId×Value->H}{P:Program}{W:World}
def OV{ty:Ty}{T:TypeId}(hl:bJ P ty T=true)(hp:qn ty=true){base:Nat}{v:Value}(a:Value.okWide P W .any base T v){d0:DataW H}{c:List MemPlace}{spare:Nat->Bool}{held:Bool}(h:DataW.Trod enc P W 0 spare held T v d0 c) :
  ∃ d,wt ty d/\Kq d/\gE W (qF W) d v:=by
 obtain⟨fuel,hf⟩:=h;obtain⟨d,h1,h2,h3⟩:=ui (W:=W) ty T fuel _ _ hl hp hf;refine⟨d,h1,h2,?_,h3⟩;have na:∀ {u:TypeDesc},P.underlying T=some u->(match u with|.struct _=>False|.array _ _=>False|_=>True)->∀ cs,v≠.agg cs:=λ{u} hu hn cs e=>by subst e;simp only[Value.okWide,hu] at a;cases u<;>simp only[Cell.okWide,Cell.ok,hu] at a<;>first|exact hn|(cases a;done)|exact a
 cases ty with
 | int k=>obtain⟨n,rfl⟩:=h1;exact na (ke hl) trivial
 | bool=>obtain⟨b,rfl⟩:=h1;exact na (u:=.bool) (by simp only[bJ,zaa] at hl;have h2:=hl.2;split at h2<;>first|assumption|cases h2) trivial
 | str=>obtain⟨s,rfl⟩:=h1;exact na (u:=.string) (by simp only[bJ,zaa] at hl;have h2:=hl.2;split at h2<;>first|assumption|cases h2) trivial
 | st g=> obtain⟨l,rfl,_⟩:=h1;obtain⟨f,hu,_⟩:=jH hl;obtain⟨cs,h,_⟩:=okWide_struct hu a;exact⟨cs,h⟩
 | arr n e=> obtain⟨l,rfl,_⟩:=h1;obtain⟨u,hu,_⟩:=eO hl;simp only[Value.okWide,hu] at a;obtain⟨cs,h,_⟩:=a;exact⟨cs,h⟩
 | sl e=> obtain⟨l,rfl,_⟩:=h1;obtain⟨u,hu,_⟩:=jG hl;exact na hu trivial
 | tup l=>simp[bJ] at hl
 | fn=>simp[bJ] at hl
def BD(P:Program):List Ty->List TypeId->Bool
 | [],[]=>true
 | ty::a,T::Ts=>bJ P ty T&&qn ty&&BD P a Ts
 | _,_=>false
theorem Mk:∀ {c:List Ty} {Ts:List TypeId},BD P c Ts=true->∀ {vs:List Value} {e:List (DataW H)} {ps:List MemPlace} {base:Nat} {spare:Nat->Bool} {held:Bool},DataW.TrodAll enc P W 0 spare held Ts vs e ps ->
  (∀ (j:Nat) t v,Ts[j]?=some t->vs[j]?=some v->Value.okWide P W .any base t v)->∃ xs,fG c xs/\zR xs/\vs.length=xs.length/\∀ (i:Nat) (x:D) (v:Value),xs[i]?=some x->vs[i]?=some v->gE W (qF W) x v
 | [],[],_,vs,e,ps,base,spare,held,h,f=>by obtain⟨rfl,rfl,rfl⟩:=trodAll_nil h;exact⟨[],rfl,trivial,rfl,j3⟩
 | ty::c,T::Ts,hl,vs,e,ps,base,spare,held,h,f=>by
  simp only[BD,zaa] at hl;obtain⟨v,l,d,k,p,q,rfl,rfl,rfl,h0,h1⟩:=trodAll_cons h;obtain⟨x,m,n,o⟩:=OV hl.1.1 hl.1.2 (f 0 T v rfl rfl) h0;obtain⟨xs,r,s,w,y⟩:=Mk hl.2 h1 (λj t u a b=>f (j+1) t u (by simpa using a) (by simpa using b))
  refine⟨x::xs,⟨x,xs,rfl,m,r⟩,⟨n,s⟩,by simp[w],λi z u g hu=>?_⟩
  cases i with
  | zero=>simp at g hu;subst g;subst hu;exact o
  | succ i=>exact y i z u (by simpa using g) (by simpa using hu)
 | [],_::_,h,_,_,_,_,_,_,_,_=>by simp[BD] at h
 | _::_,[],h,_,_,_,_,_,_,_,_=>by simp[BD] at h
theorem Pp:∀ {Ts:List TypeId} {vs:List Value} {a:List (DataW H)} {ps:List MemPlace} {base:Nat} {spare:Nat->Bool} {held:Bool},DataW.TrodAll enc P W base spare held Ts vs a ps->a.length=Ts.length
 | [],vs,a,ps,_,_,_,h=>by obtain⟨rfl,rfl,rfl⟩:=trodAll_nil h;rfl
 | T::Ts,vs,a,ps,_,_,_,h=>by obtain⟨v,c,d,b,p,q,rfl,rfl,rfl,h0,h1⟩:=trodAll_cons h;simp[Pp h1]
theorem FK{W':World}(hl:laidOutB P=true):∀ {Ts:List TypeId},Ts.all (λt=>P.readableRec t&&decide (t<P.types.size))=true->∀ {vs:List Value} {c:List (DataW H)} {ps:List MemPlace},
  DataW.TrodAll enc P W 0 (λ_=>true) true Ts vs c ps->Below W.heap.size W W'->(∀ x∈ps,x.block<W.heap.size)->DataW.TrodAll enc P W' 0 (λb=>decide (b<W.heap.size)) true Ts vs c ps
 | [],_,vs,c,ps,h,_,_=>by obtain⟨rfl,rfl,rfl⟩:=trodAll_nil h;exact trodAll_mk0
 | T::Ts,ht,vs,c,ps,h,e,a=>by simp only[zXb,zaa,zfa] at ht;obtain⟨v,g,d,f,p,q,rfl,rfl,rfl,h0,h1⟩:=trodAll_cons h;exact⟨p,q,Below.trod hl ht.1.1 ht.1.2 h0 e (λx hx=>a x (by simp[hx])),FK hl ht.2 h1 e (λx hx=>a x (by simp[hx])),rfl⟩
end
end Sy
end
noncomputable section
namespace Sy
open Go
variable{ro:Option Nat}{nn:Nat}
def CY(s:St):List ResultVar->Option (Nat×List AV)
 | [.tmp i]=>match s.tm i with
  | .clo f l=>some (f,l)
  | _=>none
 | _=>none
def rZ(s:St)(t:Ty):List ResultVar->Option (Nat×List D)
 | [.tmp i]=>match s.tm i with
  | .own a v l=>if a.beq t&&!(s.dead.contains v) then some (v,l) else none
  | _=>none
 | _=>none
def Dr(s:St):List ResultVar->Bool
 | [.tmp i]=>match s.tm i with
  | .nils=>true
  | _=>false
 | _=>false
def MY{R:Type}(E:Env)(s sc:St)(a:List Nat)(b:List ResultVar)(K:AV->St->Option R):Ty->Option R
 | .fn=>(CY sc b).bind λq=>K (.clo q.1 q.2) (oM s sc a)
 | .sl t=>match rZ sc t b with
  | some q=>K (.own t q.1 q.2) (oM s sc a)
  | none=>if Dr sc b then K .nils (oM s sc a) else(results E sc (.sl t) b).bind λy=>K (.d (.sl t) y) (oM s sc a)
 | c=>(results E sc c b).bind λy=>K (.d c y) (oM s sc a)
def PL(E:Env)(fn:Func)(b:Ty)(ann:Ann)(R:Type)(s:St)(a:List AV)(K:AV->St->Option R):Option R:=
 match fn.body with
 | none=>none
 | some c=>if a.length<=fn.ntmps/\(fm s).length<=4096 then MQ E c ann R (M5 s fn.ntmps a (Dc s a b)) λe sc=>match e with
   | .exit _=>none
   | _=>MY E s sc (Dc s a b) fn.results.toList K b
  else none
def DI(n:Nat)(a:Ty):Bool:=match a with|.fn=>decide (n=1)|a=>jK n a
section
variable{P:Program}{E:Env}{w0:Root}{S S':Nat->Nat->Prop}{γ γ':Nat->Option Nat}{β β' β'':Nat->Option (Nat×Nat)}{s sc:St}{a:Act}{w w':World}
def OM{c:Cx}{b:Ty}{n:Nat}{y:D}{v:Value}(e:jK n b=true)(a:wt b y)(h:DR c.w c.S y v):AR c (.d b y) v:=by
 simp only[AR];have key:am b=true\/∃ f,b=.tup f/\bq f=true:=by
  unfold jK at e;split at e
  ·exact .inl e
  ·split at e
   ·exact .inr ⟨_,rfl,e⟩
   ·cases e
 rcases key with n2|⟨f,rfl,n2⟩
 ·refine .inl ⟨n2,a,?_⟩;cases b<;>simp only[wt] at a<;>first
   | (obtain⟨m,rfl⟩:=a;exact h)
   | (obtain⟨m,rfl,_⟩:=a;exact h)
   | (exact a.elim)
   | (simp[am] at n2)
 ·exact .inr ⟨f,rfl,n2,a,h⟩
def FV(h:Rp w0 S γ β s a w){fn:Func}{q:Nat×List AV}(hq:CY s fn.results.toList=some q):∃ v,(Go.results fn a.tmps).run P w=.ok v w/\AR ⟨w,S,γ,β,s.ob,s.dead⟩ (.clo q.1 q.2) v:=by
 rw[ml];have hm:fn.results.mapM (oo a.tmps)=Functor.map List.toArray (fn.results.toList.mapM (oo a.tmps)):=by rw[zMc]
 rw[hm];generalize fn.results.toList=g at *;unfold CY at hq;split at hq<;>first|(cases hq;done)|skip
 rename_i i;split at hq<;>first|(cases hq;done)|skip
 rename_i f l b;cases hq;have e:i<a.tmps.size:=by
  rcases zxa i a.tmps.size with d|c
  ·exact d
  ·have:=h.tmu i (by rw[<-h.nt];exact c)
   rw[b] at this;cases this
 have:=h.tms i e;rw[b] at this;exact⟨a.tmps.getD i undef,by simp[z4c,oo],this⟩
def yn(h:Rp w0 S γ β s a w){fn:Func}{t:Ty}{q:Nat×List D}(hq:rZ s t fn.results.toList=some q):∃ v,(Go.results fn a.tmps).run P w=.ok v w/\AR ⟨w,S,γ,β,s.ob,s.dead⟩ (.own t q.1 q.2) v:=by
 rw[ml];have hm:fn.results.mapM (oo a.tmps)=Functor.map List.toArray (fn.results.toList.mapM (oo a.tmps)):=by rw[zMc]
 rw[hm];generalize fn.results.toList=g at *;unfold rZ at hq;split at hq<;>first|(cases hq;done)|skip
 rename_i i;split at hq<;>first|(cases hq;done)|skip
 rename_i j v l b;split at hq<;>first|(cases hq;done)|skip
 rename_i e;simp only[zaa] at e;have:=aco _ _ e.1;subst this;cases hq;have f:i<a.tmps.size:=by
  rcases zxa i a.tmps.size with d|c
  ·exact d
  ·have:=h.tmu i (by rw[<-h.nt];exact c)
   rw[b] at this;cases this
 have:=h.tms i f;rw[b] at this;exact⟨a.tmps.getD i undef,by simp[z4c,oo],this⟩
def Gw(h:Rp w0 S γ β s a w){fn:Func}(hq:Dr s fn.results.toList=true):∃ v,(Go.results fn a.tmps).run P w=.ok v w/\AR ⟨w,S,γ,β,s.ob,s.dead⟩ .nils v:=by
 rw[ml];have hm:fn.results.mapM (oo a.tmps)=Functor.map List.toArray (fn.results.toList.mapM (oo a.tmps)):=by rw[zMc]
 rw[hm];generalize fn.results.toList=f at *;unfold Dr at hq;split at hq<;>first|(cases hq;done)|skip
 rename_i i;split at hq<;>first|(cases hq;done)|skip
 rename_i b;have e:i<a.tmps.size:=by
  rcases zxa i a.tmps.size with d|c
  ·exact d
  ·have:=h.tmu i (by rw[<-h.nt];exact c)
   rw[b] at this;cases this
 have:=h.tms i e;rw[b] at this;exact⟨a.tmps.getD i undef,by simp[z4c,oo],this⟩
def MZ(g:EnvOk P E){a':Act}(n1:Rp w0 S γ β sc a' w'){fn:Func}{a:Ty}{f:List Nat}(e:DI fn.results.size a=true){R:Type}{K:AV->St->Option R}{r:R}(hq:MY E s sc f fn.results.toList K a=some r) :
  ∃ v x,(Go.results fn a'.tmps).run P w'=.ok v w'/\AR ⟨w',S,γ,β,sc.ob,sc.dead⟩ x v/\K x (oM s sc f)=some r:=by
 have plain:jK fn.results.size a=true->(results E sc a fn.results.toList).bind (λy=>K (.d a y) (oM s sc f))=some r->∃ v x,(Go.results fn a'.tmps).run P w'=.ok v w'/\AR ⟨w',S,γ,β,sc.ob,sc.dead⟩ x v/\K x (oM s sc f)=some r:=λe hq=>by obtain⟨y,h1,h2⟩:=ab hq;obtain⟨v,b,c,h⟩:=mn g n1 e h1;exact⟨v,_,b,OM e c h,h2⟩
 cases a
 case fn=> obtain⟨q,h1,h2⟩:=ab hq;obtain⟨v,b,c⟩:=FV (P:=P) n1 h1;exact⟨v,_,b,c,h2⟩
 case sl t=>
  simp only[MY] at hq;split at hq
  ·rename_i q h1;obtain⟨v,b,c⟩:=yn (P:=P) n1 h1;exact⟨v,_,b,c,hq⟩
  ·split at hq
   ·rename_i h1;obtain⟨v,b,c⟩:=Gw (P:=P) n1 h1;exact⟨v,_,b,c,hq⟩
   ·exact plain e hq
 all_goals exact plain e hq
def MX(N:EnvOk P E){f:FuncId}{fn:Func}{j:Ty}(hf:P.funcs[f]?=some fn)(U:DI fn.results.size j=true):Hz P f (PL E fn j):=by
 intro ann R w0 S γ β s a w q vs K r h hlen I d;unfold PL at d;split at d<;>first|(cases d;done)|skip
 rename_i c C;split at d<;>first|(cases d;done)|skip
 rename_i z;obtain⟨Q,B⟩:=z;obtain⟨A,J⟩:∃ A,A=Dc s q j:=⟨_,rfl⟩;rw[<-J] at d;have B:=zIa (zAc (λv=>!(A.contains v)) (fm s)) B;obtain⟨H,g⟩:∃ H,H=w6 s A:=⟨_,rfl⟩;obtain⟨sh,G⟩:∃ sh:Nat->Prop,sh=λb=>(∃ id,γ id=some b)\/∃ v e,v ∉ H++s.dead/\β v=some (b,e):=⟨_,rfl⟩;have X:vs.length<=fn.ntmps:=j1
 have F:(vs.toArray++Array.replicate (fn.ntmps-vs.toArray.size) undef).size=fn.ntmps:=by simp;omega
 have L:Cx.le ⟨w,S,γ,β,s.ob,s.dead⟩ ⟨w,S,γ,β,s.ob,H++s.dead⟩:=
  ⟨λ_ _ _=>rfl,λ_ _ C=>C,λ_ _ C=>C,λid o T _=>⟨o,T,λp=>⟨rfl,rfl⟩,λt l e=>⟨l,e,rfl⟩,λ_ _ l e=>⟨l,e⟩⟩,λu hu=>⟨λD=>hu (zJa _ D),λb e he=>⟨he,λn hn=>hn⟩⟩⟩
 have O:Rp ⟨w,S,sh⟩ S γ β (M5 s fn.ntmps q A) { tmps:=vs.toArray++Array.replicate (fn.ntmps-vs.toArray.size) undef,defers:=[] } w:=by
  refine EN h g G (λ_ _ D=>D) rfl (by rw[g];rfl) F (λt ht=>?_) λt ht=>?_
  ·have V:fn.ntmps<=t:=ht;simp only[M5];rw[z1a,zeb j1]
   rfl
  ·simp only[M5];by_cases hlt:t<vs.length
   ·have k:t<q.length:=j1
    have W:(vs.toArray++Array.replicate (fn.ntmps-vs.toArray.size) undef).getD t undef=vs[t]:=by simp[Array.getD,zJc,hlt];omega
    rw[W,z1a,zca k];exact(I t _ _ (zca k) (zca hlt)).mono L
   ·rw[z1a,zeb j1]
    simp only[Option.getD_none,AR]
 refine jZ N hf C rfl O d (λ_ _ D=>by cases D) λe sc S' γ' β' a' w' n1 n2 n3 M=>?_
 have m:MY E s sc A fn.results.toList K j=some r->(∃ v,(Go.results fn a'.tmps).run P w'=.ok v w'/\∃ v' y s' S' γ' β',Ending.returned v=.returned v'/\K y s'=some r/\Rp w0 S' γ' β' s' a w'/\AR ⟨w',S',γ',β',s'.ob,s'.dead⟩ y v'/\Fm s S γ a w S' γ' a w'/\Sk s s'):=λhq=>by
  obtain⟨v,x,Y,Z,k3⟩:=MZ N n1 U hq;obtain⟨β'',q1,q2⟩:=Ee h g G (by rw[g];exact B) n1 n2.sub n2.cell n2.gam n2.sz
  exact⟨v,Y,v,x,oM s sc A,S',γ',β'',rfl,k3,q1,Z.mono q2,⟨n2.sub,n2.cell,λ_ _=>rfl,n2.objs,n2.sz,n2.gam,mD.same rfl n2.dfs.1⟩,⟨rfl,rfl,rfl⟩⟩
 cases e with
 | normal=>exact m M
 | ret=>exact m M
 | exit i=>cases M
def Ps(E:Env)(fn:Func)(ann:Ann)(a:List Ty)(t:Ty)(args:List D):Option (List D):=
 match fn.body with
 | none=>none
 | some c=>MQ E c ann (List D) { tm:=jF a args,ob:=λ_=>none,fresh:=0,dead:=[],nt:=fn.ntmps,lkS:=[],lkO:=[] } λe s=>match e with
  | .exit _=>none
  | _=>(rZ s t fn.results.toList).bind λq=>some q.2
def Hk.ctr{a:List Ty}{t:Ty}{f:FuncId}{xs l:List D}(h:Hk P a t f xs l):OP P a (.sl t) f xs (.sl l):=by intro w S vs g d hlen c;refine(h w S vs g d hlen c).mono λe w' ⟨A,cap,he,i,k,hl,S',s1,s2,b,_⟩=>⟨_,he,i,⟨l,rfl,hl⟩,?_⟩;exact⟨λcs j=>(by cases j),c8.single.2 (b.mono (λ_ _ _=>rfl) s2)⟩
def A9(L:EnvOk P E){f:FuncId}{fn:Func}{ann:Ann}{k:List Ty}{t:Ty}{xs l:List D}(hf:P.funcs[f]?=some fn)(Q:k.length<=fn.ntmps)(hn:bq k=true)
  (h:Ps E fn ann k t xs=some l):Hk P k t f xs l:=by
 intro w S vs M z hlen G;unfold Ps at h;split at h<;>first|(cases h;done)|skip
 rename_i c g;have U:xs.length=k.length:=jS z;have y:(vs.toArray++Array.replicate (fn.ntmps-vs.toArray.size) undef).size=fn.ntmps:=by simp;omega
 refine jZ (w0:=⟨w,S,λ_=>False⟩) (S:=S) (γ:=λ_=>none) (β:=λ_=>none) L hf g rfl ?_ h (λ_ _ N=>by cases N) λe s' S' γ' β' a' w' n1 n2 Z I=>?_
 ·refine⟨⟨rfl,rfl,rfl,zia _,zia _,λ_ _=>rfl⟩,λt ht=>?_,y,λt ht=>?_,λid o b O=>(by cases O),λid b g=>(by cases g),λid V b g=>(by cases g),λ_ _=>rfl,λv b e _ g=>(by cases g),λv v' b e Y _ _ g=>(by cases g),λv id b e _ g=>(by cases g),λ_ _=>rfl,M,λb o g _=>g⟩
  ·simp only[jF];split
   ·rename_i ty x J C;have m:=(zqa.1 C).1;have p:t<vs.length:=j1
    have T:(vs.toArray++Array.replicate (fn.ntmps-vs.toArray.size) undef).getD t undef=vs[t]:=by simp[Array.getD,zJc,p];omega
    show AR _ _ ((vs.toArray++Array.replicate (fn.ntmps-vs.toArray.size) undef).getD t undef);rw[T];obtain⟨x',B,H⟩:=ib z J;rw[C] at B;cases B;exact dK (bX hn J) H (G t x _ C (zca p))
   ·simp only[AR]
  ·have R:fn.ntmps<=t:=ht;simp only[jF];rw[zeb j1]
 ·have r:(rZ s' t fn.results.toList).bind (λq=>some q.2)=some l->(∃ v,(Go.results fn a'.tmps).run P w'=.ok v w'/\∃ a cap,Ending.returned v=.returned (.slice a l.length cap)/\(∃ os d,w.drawn<=d/\w'=grown w os d)/\am t=true/\(∀ x∈l,wt t x)/\∃ S':Nat->Nat->Prop,(∀ b o,S b o->S' b o)/\(∀ b o,S' b o->S b o\/(w.heap.size<=b/\b<w'.heap.size)) ∧
    CR w' S' (.sl l) (.slice a l.length cap)/\((a=none/\cap=0)\/∃ b off,a=some ⟨b,off,none⟩/\(w.heap.size<=b/\b<w'.heap.size)/\(∃ n,nk w' b=some n/\off+cap*t.size<=n)/\∀ o,off+l.length*t.size<=o->¬ S' b o)):=λhq=>by
   obtain⟨q,j,F⟩:=ab hq;cases F;have u:q.1 ∉ s'.dead:=by
    unfold rZ at j;split at j<;>first|(cases j;done)|skip
    split at j<;>first|(cases j;done)|skip
    split at j<;>first|(cases j;done)|skip
    rename_i g;cases j;simp only[zaa,zTa] at g;simpa using g.2
   obtain⟨v,W,K⟩:=yn (P:=P) n1 j;simp only[AR,AC] at K;obtain⟨na,m1,m2,A,cap,m3,m4,m5⟩:=K;refine⟨v,W,A,cap,by rw[ar na m3],je n1.ext (λ_ hf=>hf),m1,m2,S',n2.sub,λb o g=>?_,m4,?_⟩
   ·rcases zxa b w.heap.size with m|s
    ·exact .inl (n1.So b o g ⟨m,λhf=>hf⟩)
    ·exact .inr ⟨s,n1.Sb b o g⟩
   ·rcases m5 u with m5|⟨b,off,rfl,m6,m7⟩
    ·exact .inl m5
    ·obtain⟨X,z2,z3⟩:=n1.βn _ _ _ u m6;refine .inr ⟨b,off,rfl,⟨?_,z2⟩,m7,z3⟩;rcases zxa b w.heap.size with m|s
     ·exact z3a ⟨m,λhf=>hf⟩ X
     ·exact s
  cases e with
  | normal=>exact r I
  | ret=>exact r I
  | exit i=>cases I
end
end Sy
end
noncomputable section
namespace Sy
abbrev K0:Ty:=Ty.st [Ty.int .i64,Ty.int .i64,Ty.bool,Ty.int .u8]
abbrev K1:Ty:=Ty.arr 3 (Ty.int .i64)
abbrev K2:Ty:=Ty.sl (K1)
abbrev K3:Ty:=Ty.st [K2]
abbrev K4:Ty:=Ty.st [K3,Ty.int .i64]
abbrev K5:Ty:=Ty.sl (Ty.int .i64)
abbrev K6:Ty:=Ty.st [K1,Ty.int .i64,K5]
abbrev K7:Ty:=Ty.sl (K6)
abbrev K8:Ty:=Ty.arr 2 (Ty.int .i64)
abbrev K9:Ty:=Ty.sl (K8)
abbrev aP:Ty:=Ty.arr 16 (Ty.int .u32)
abbrev aQ:Ty:=Ty.st [Ty.bool,Ty.bool,aP]
abbrev cd:Ty:=Ty.st [aQ,aQ]
abbrev cr:Ty:=Ty.arr 3 (cd)
abbrev CI:Ty:=Ty.arr 3 (Ty.int .u8)
abbrev dX:Ty:=Ty.st [K1,Ty.int .i64]
abbrev Qr:Ty:=Ty.sl (dX)
abbrev ii:Ty:=Ty.arr 3 (aQ)
abbrev Me:Ty:=Ty.arr 32 (Ty.int .u32)
abbrev ZV:Ty:=Ty.sl (Ty.int .u32)
abbrev Zd:Ty:=Ty.sl (aQ)
abbrev tP:Ty:=Ty.arr 17 (Ty.int .u32)
abbrev ZW:Ty:=Ty.tup [aP,Ty.bool]
abbrev UN:Ty:=Ty.tup [Ty.int .i64,Ty.bool]
abbrev ZX:Ty:=Ty.tup [K5,K5]
abbrev ZY:Ty:=Ty.tup [aP,aP]
abbrev ZZ:Ty:=Ty.tup [aQ,aQ]
abbrev Ze:Ty:=Ty.tup [aP,Ty.int .u32]
abbrev Tl:Ty:=Ty.tup []
abbrev AN:Ty:=Ty.arr 4 (Ty.int .i64)
abbrev dm:Ty:=Ty.st [K1,AN]
abbrev OS:Ty:=Ty.arr 2 (aQ)
abbrev QR:Ty:=Ty.arr 9 (Ty.int .i64)
abbrev Z3:Ty:=Ty.tup [AN,Ty.bool]
abbrev fM:Ty:=Ty.st [K1,cd]
abbrev UO:Ty:=Ty.st [fM,Ty.bool]
abbrev bI:Ty:=Ty.st [dm,K3,Ty.int .i64,K2]
abbrev AG:Ty:=Ty.sl (cr)
abbrev Z4:Ty:=Ty.sl (bI)
abbrev Z5:Ty:=Ty.arr 32 (Ty.int .u8)
abbrev Z6:Ty:=Ty.tup [fM,Ty.bool]
abbrev Z7:Ty:=Ty.tup [cr,Ty.bool]
abbrev Z8:Ty:=Ty.tup [cd,cd]
abbrev Z9:Ty:=Ty.tup [K1,Ty.int .i64]
def Ks:Nat:=261
def GS:Nat:=273
abbrev bb{α:Type}(t n:Nat)(a b:α):α:=bif Nat.blt t n then a else b
abbrev Ti:Ty:=.int .i64
abbrev fE{α:Type}(a:α):Option α:=some a
abbrev aX(n:Nat)(l:List Ty)(t:Ty):Option (Nat×List Ty×Ty):=some (n,l,t)
def Sp(t:Nat):Option Ty:=bif Nat.blt t Ks then(bb t 130 (bb t 65 (bb t 32 (bb t 16 (bb t 8 (bb t 4 (bb t 2 none (bb t 3 (fE Ti) (fE Ti))) (bb t 6 (bb t 5 (fE Ty.bool) (fE (Ty.int .u8))) (bb t 7 (fE (Ty.int .u8)) (fE K0)))) (bb t 12 (bb t 10 (bb t 9 (fE K0) (fE Ty.str)) (bb t 11 (fE Ty.str) (fE Ty.str))) (bb t 14 (bb t 13 (fE (Ty.int .u64)) none) none))) (bb t 24 (bb t 20 none (bb t 22 (bb t 21 none (fE (Ty.int .i32))) (bb t 23 (fE K1) (fE K1)))) (bb t 28 (bb t 26 (bb t 25 (fE AN) (fE AN)) (bb t 27 (fE dm) (fE dm))) (bb t 30 (bb t 29 (fE K2) (fE K3)) (bb t 31 (fE K3) none))))) (bb t 48 (bb t 40 (bb t 36 (bb t 34 (bb t 33 none (fE (Ty.int .u32))) (bb t 35 (fE aP) (fE aQ))) (bb t 38 (bb t 37 (fE aQ) (fE cd)) (bb t 39 (fE cd) (fE fM)))) (bb t 44 (bb t 42 (bb t 41 (fE fM) none) (bb t 43 none (fE UO))) (bb t 46 (bb t 45 (fE UO) none) (bb t 47 (fE cr) (fE cr))))) none)) (bb t 97 (bb t 81 (bb t 73 (bb t 69 (bb t 67 (bb t 66 none (fE CI)) none) none) (bb t 77 (bb t 75 none (bb t 76 (fE bI) (fE bI))) none)) (bb t 89 none (bb t 93 none (bb t 95 (bb t 94 (fE K7) none) (bb t 96 (fE K5) (fE K6)))))) (bb t 113 (bb t 105 (bb t 101 (bb t 99 (bb t 98 (fE K6) none) (bb t 100 none (fE AG))) none) none) (bb t 121 (bb t 117 (bb t 115 (bb t 114 (fE ii) none) (bb t 116 (fE Ti) none)) (bb t 119 none (bb t 120 (fE OS) none))) (bb t 125 (bb t 123 none (bb t 124 none (fE Z4))) (bb t 127 none (bb t 128 none (bb t 129 (fE (Ty.int .u64)) none)))))))) (bb t 195 (bb t 162 (bb t 146 (bb t 138 (bb t 134 (bb t 132 (bb t 131 (fE (Ty.int .u64)) none) (bb t 133 (fE K9) none)) (bb t 136 (bb t 135 (fE K8) none) (bb t 137 none (fE Qr)))) (bb t 142 (bb t 140 (bb t 139 none (fE dX)) (bb t 141 (fE dX) none)) (bb t 144 (bb t 143 none (fE QR)) none))) none) (bb t 178 (bb t 170 (bb t 166 (bb t 164 (bb t 163 none (fE K4)) (bb t 165 (fE K4) none)) (bb t 168 none (bb t 169 none (fE Me)))) (bb t 174 (bb t 172 (bb t 171 none (fE ZV)) none) none)) (bb t 186 (bb t 182 (bb t 180 none (bb t 181 (fE dX) (fE dX))) none) none))) (bb t 228 (bb t 211 (bb t 203 none (bb t 207 (bb t 205 (bb t 204 (fE Zd) none) (bb t 206 none (fE tP))) none)) (bb t 219 none (bb t 223 (bb t 221 (bb t 220 none (fE Ti)) none) none))) (bb t 244 (bb t 236 (bb t 232 none (bb t 234 (bb t 233 (fE (Ty.int .u64)) none) none)) (bb t 240 none (bb t 242 (bb t 241 (fE Z5) none) none))) (bb t 252 none (bb t 256 (bb t 254 (bb t 253 (fE (Ty.int .u8)) (fE (Ty.int .u8))) none) (bb t 258 (bb t 257 (fE (Ty.int .i32)) (fE (Ty.int .i32))) none))))))) else none
def NH(t:Nat):Option (Nat×List Ty×Ty):=bif Nat.blt t GS then(bb t 136 (bb t 68 (bb t 34 (bb t 17 (bb t 8 (bb t 4 (bb t 2 none (bb t 3 none (aX 408 [dm,K3,dm,K3] Ty.bool))) (bb t 6 (bb t 5 (aX 409 [dm,K3,dm,K3,fM,cr] Ty.bool) (aX 410 [dm,K3,dm,K3] Ty.bool)) (bb t 7 (aX 411 [dm,K3,dm,K3,K1,cd] Ty.bool) (aX 412 [dm,K3,dm,K3,K1] Ty.bool)))) (bb t 12 (bb t 10 (bb t 9 (aX 413 [K1,K1,CI,CI] Ty.bool) (aX 414 [dm,K3,dm,K3] Ty.bool)) (bb t 11 (aX 415 [] Ty.bool) (aX 416 [dm,K3,dm,K3] Z6))) (bb t 14 (bb t 13 (aX 417 [dm,K3,dm,K3] UO) (aX 418 [cd] Ty.bool)) (bb t 15 (aX 187 [K1] Ty.bool) (bb t 16 (aX 419 [K1,dm,K3,dm,K3] cd) (aX 420 [K1,dm,K3,dm,K3] cd)))))) (bb t 25 (bb t 21 (bb t 19 (bb t 18 (aX 421 [fM,dm,K3,dm,K3] Ty.bool) (aX 422 [fM,dm,K3,dm,K3] Ty.bool)) (bb t 20 (aX 423 [dm,K3,cr] Ti) (aX 424 [dm,K3,cr] Ti))) (bb t 23 (bb t 22 (aX 425 [dm,K3,dm,K3] Z7) (aX 426 [aQ] Ti)) (bb t 24 (aX 322 [cd] Ti) (aX 64 [K1,K1] K1)))) (bb t 29 (bb t 27 (bb t 26 (aX 427 [dm] Ty.bool) (aX 428 [K1,cd] cd)) (bb t 28 (aX 40 [cd,cd] cd) (aX 63 [aQ] cd))) (bb t 31 (bb t 30 (aX 33 [K1,K1] aQ) (aX 429 [K1,K1] K3)) (bb t 32 (aX 430 [Ti,Ti,Ti] dm) (bb t 33 (aX 431 [K3,Ti] Ty.bool) (aX 432 [K1,Ti] fM))))))) (bb t 51 (bb t 42 (bb t 38 (bb t 36 (bb t 35 (aX 31 [K1] cr) (aX 324 [cd,cd] Ti)) (bb t 37 (aX 75 [Ti] cd) (aX 433 [dm,K3] bI))) (bb t 40 (bb t 39 none (aX 434 [K1,bI,bI] cd)) (bb t 41 (aX 342 [cd] Ti) (aX 352 [cd,cd] cd)))) (bb t 46 (bb t 44 (bb t 43 (aX 174 [cd,cd] cd) (aX 62 [aQ,aQ] cd)) (bb t 45 (aX 91 [K1,K1] aQ) (aX 54 [Ti] aQ))) (bb t 48 (bb t 47 (aX 73 [cd,cd] Ti) (aX 173 [cd,cd] cd)) (bb t 49 (aX 435 [bI,K1] cd) (bb t 50 (aX 74 [Ti] cd) (aX 436 [dm,K3,dm,K3] K2)))))) (bb t 59 (bb t 55 (bb t 53 (bb t 52 (aX 437 [K1,dm,K3] cd) (aX 70 [cd] cd)) (bb t 54 (aX 438 [K1] K1) (aX 38 [cd,cd] cd))) (bb t 57 (bb t 56 (aX 42 [Ti,Ti] cd) (aX 439 [cd] Ty.bool)) (bb t 58 (aX 39 [cd,cd] cd) (aX 97 [K1] K1)))) (bb t 63 (bb t 61 (bb t 60 (aX 357 [cd] cd) (aX 71 [cr] Ty.bool)) (bb t 62 (aX 440 [cr,cr] cr) (aX 135 [K1] cr))) (bb t 65 (bb t 64 (aX 385 [AN] Ti) (aX 18 [K3] K7)) (bb t 66 (aX 72 [K1,cr] cd) (bb t 67 (aX 386 [AN,K1] K1) (aX 441 [cr] Ty.bool)))))))) (bb t 102 (bb t 85 (bb t 76 (bb t 72 (bb t 70 (bb t 69 (aX 442 [cr,cr] cr) (aX 19 [K3] K7)) (bb t 71 (aX 340 [K1,cr] cd) (aX 373 [AN,K1] K1))) (bb t 74 (bb t 73 (aX 374 [AN] Ti) (aX 443 [bI,bI] AG)) (bb t 75 (aX 444 [cd,Ti] Z8) (aX 371 [cr,cr] cr)))) (bb t 80 (bb t 78 (bb t 77 (aX 445 [cd,cr] cr) (aX 333 [Ti,Ti] cd)) (bb t 79 (aX 76 [aQ] Ty.bool) (aX 77 [aQ] K5))) (bb t 82 (bb t 81 (aX 446 [K5,Ti] Ti) (aX 88 [cd] Ty.bool)) (bb t 83 (aX 83 [aQ] Ti) (bb t 84 (aX 331 [AN] Ty.bool) (aX 65 [cd,cd] cd)))))) (bb t 93 (bb t 89 (bb t 87 (bb t 86 (aX 84 [] cd) (aX 85 [aQ,aQ] aQ)) (bb t 88 (aX 87 [aQ,aQ] aQ) (aX 37 [aQ,aQ] cd))) (bb t 91 (bb t 90 (aX 59 [aQ,aQ] aQ) (aX 89 [aQ,aQ] aQ)) (bb t 92 (aX 133 [] aQ) (aX 79 [ii,ii] aQ)))) (bb t 97 (bb t 95 (bb t 94 (aX 80 [K1] ii) (aX 15 [K3] Ti)) (bb t 96 (aX 32 [aQ,aQ] Ti) (aX 344 [cd,Ty.bool] aQ))) (bb t 99 (bb t 98 (aX 345 [aQ,aQ] aQ) (aX 34 [Ti] aQ)) (bb t 100 none (bb t 101 none (aX 447 [ii] Z9))))))) (bb t 119 (bb t 110 (bb t 106 (bb t 104 (bb t 103 (aX 448 [K1] ii) (aX 449 [bI] K2)) (bb t 105 (aX 450 [K1,K1] ii) (aX 136 [cd] Ty.bool))) (bb t 108 (bb t 107 (aX 129 [aQ] Ti) (aX 130 [] cd)) (bb t 109 (aX 61 [aQ,aQ] aQ) (aX 128 [aQ] Ty.bool)))) (bb t 114 (bb t 112 (bb t 111 (aX 131 [aQ,aQ] aQ) (aX 68 [aQ] aQ)) (bb t 113 (aX 132 [aQ,aQ] aQ) (aX 147 [ii,ii] aQ))) (bb t 116 (bb t 115 (aX 148 [K1] ii) (aX 116 [Ty.bool,aP] aQ)) (bb t 117 (aX 90 [aQ,aQ] Ti) (bb t 118 (aX 137 [aQ,aQ] aQ) (aX 57 [aQ,aQ] aQ)))))) (bb t 127 (bb t 123 (bb t 121 (bb t 120 (aX 138 [aQ] cd) (aX 451 [K2,ii,Ti] K2)) (bb t 122 (aX 22 [K3] K9) (aX 112 [K1,K1] K1))) (bb t 125 (bb t 124 (aX 379 [K1,K1] ii) (aX 452 [dm,K3] K2)) (bb t 126 (aX 86 [aQ] aQ) (aX 336 [cd,cd] cd)))) (bb t 131 (bb t 129 (bb t 128 (aX 392 [AN,AN] Ti) (aX 45 [K2] Qr)) (bb t 130 (aX 46 [K2,dX] K5) (aX 134 [cr,cr] cd))) (bb t 133 (bb t 132 (aX 393 [AN] QR) (aX 394 [K5] Ti)) (bb t 134 (aX 48 [K2] K7) (bb t 135 (aX 41 [cr,cr] cd) (aX 387 [AN] QR))))))))) (bb t 204 (bb t 170 (bb t 153 (bb t 144 (bb t 140 (bb t 138 (bb t 137 (aX 388 [AN,AN] Ti) (aX 453 [cr,bI,bI,AG] Tl)) (bb t 139 (aX 454 [bI,Ti] cr) (aX 21 [K3] K9))) (bb t 142 (bb t 141 (aX 455 [aQ,Ti] aQ) (aX 169 [] aQ)) (bb t 143 (aX 139 [aQ] Ty.bool) (aX 140 [K5] K5)))) (bb t 148 (bb t 146 (bb t 145 (aX 141 [K5,Ti] Ti) (aX 348 [AN] Ty.bool)) (bb t 147 (aX 349 [AN] Z3) (aX 125 [] aQ))) (bb t 150 (bb t 149 (aX 124 [aQ] UN) (aX 142 [aQ] aQ)) (bb t 151 (aX 143 [K5,K5] ZX) (bb t 152 (aX 81 [Ty.bool,K5] aQ) (aX 144 [Ti,Ti] Ti)))))) (bb t 161 (bb t 157 (bb t 155 (bb t 154 (aX 82 [K5,K5] K5) (aX 78 [K5,K5] Ty.bool)) (bb t 156 (aX 126 [K5,K5] K5) (aX 145 [Ti] Ty.bool))) (bb t 159 (bb t 158 (aX 146 [K5,K5] K5) (aX 12 [K2] K4)) (bb t 160 (aX 13 [K2,K2] Ty.bool) (aX 202 [aQ] UN)))) (bb t 165 (bb t 163 (bb t 162 (aX 103 [K1,K1] K1) (aX 456 [ii,ii] ii)) (bb t 164 (aX 118 [Zd] Ty.bool) (aX 119 [] aQ))) (bb t 167 (bb t 166 (aX 127 [aP] Ti) (aX 167 [aQ] Ty.bool)) (bb t 168 (aX 170 [aP,aP] ZY) (bb t 169 (aX 171 [aQ] aQ) (aX 172 [aQ,aQ] ZZ))))))) (bb t 187 (bb t 178 (bb t 174 (bb t 172 (bb t 171 (aX 121 [aP,aP] Ti) (aX 120 [aP,aP] ZW)) (bb t 173 (aX 122 [aP,aP] aP) (aX 155 [ii] dX))) (bb t 176 (bb t 175 (aX 390 [ii,ii] ii) (aX 96 [K1,K1,K1] dX)) (bb t 177 (aX 98 [K2,dX] Ty.bool) none))) (bb t 182 (bb t 180 (bb t 179 (aX 100 [dX,dX] Ti) (aX 52 [K5] Ti)) (bb t 181 (aX 53 [Ti,Ti] Ti) (aX 101 [K1,K1] Ti))) (bb t 184 (bb t 183 (aX 102 [Ti,K5,K2,dX] Ti) (aX 104 [K1,K1,K1] Ti)) (bb t 185 (aX 106 [K1,K1,K1] K1) (bb t 186 (aX 107 [K1,K1] Ti) (aX 108 [K7,K1] Ty.bool)))))) (bb t 195 (bb t 191 (bb t 189 (bb t 188 (aX 109 [K2,K1,Ti] Ty.bool) (aX 110 [K7,K6] K7)) (bb t 190 (aX 111 [K2,K1,Ti] K5) none)) (bb t 193 (bb t 192 (aX 51 [K8,K8] Ti) (aX 217 [aQ] Ti)) (bb t 194 (aX 457 [aQ,aP,K5] aQ) (aX 197 [aP,Ti] Ze)))) (bb t 199 (bb t 197 (bb t 196 (aX 201 [aP,Ti] aP) (aX 364 [Ti,Ti] Ti)) (bb t 198 (aX 365 [Ti] Ti) (aX 175 [K5,Ti] Ti))) (bb t 201 (bb t 200 (aX 47 [K2] K2) (aX 154 [K1,K1] K1)) (bb t 202 (aX 203 [aQ,aQ] aQ) (bb t 203 (aX 195 [aP,Ty.int .u32] Ze) (aX 196 [Ty.int .u32] Ti)))))))) (bb t 238 (bb t 221 (bb t 212 (bb t 208 (bb t 206 none (bb t 207 none (aX 168 [Ty.int .u32,Ty.int .u32] Ti))) (bb t 210 (bb t 209 (aX 186 [aQ] UN) (aX 395 [aQ,aQ,aQ,aQ] aQ)) (bb t 211 (aX 117 [K1,K1] K1) (aX 152 [Ti,Ti] Ti)))) (bb t 216 (bb t 214 (bb t 213 none (aX 114 [Ty.int .u64] Ti)) (bb t 215 (aX 115 [Ti] Ty.bool) (aX 123 [K1,K1] K1))) (bb t 218 (bb t 217 (aX 105 [K1,K1] Ty.bool) (aX 156 [K2,K1,Ti,K1,K1] Ty.bool)) (bb t 219 none (bb t 220 (aX 165 [Ty.int .u32] Ti) (aX 458 [aP] Ti)))))) (bb t 229 (bb t 225 (bb t 223 (bb t 222 (aX 194 [Ty.int .u32] Ty.bool) (aX 396 [aQ,aQ] aQ)) none) none) (bb t 233 (bb t 231 none (bb t 232 (aX 166 [Ty.int .u64] Ti) (aX 188 [K1,K1] Ti))) none))) (bb t 255 (bb t 246 (bb t 242 (bb t 240 none (bb t 241 none (aX 459 [Ty.int .u32] Ti))) (bb t 244 (bb t 243 none (aX 190 [Ti] (Ty.int .u64))) none)) (bb t 250 (bb t 248 (bb t 247 none (aX 215 [Ti] Ti)) none) none)) none)))) else none
def qx(t:Nat):Option (List Ty×Ty):=match NH t with|some p=>some p.2|none=>none
def uB(t:Nat):Nat:=match NH t with|some p=>p.1|none=>0
def j8(t:Nat):Nat:=(bb t 136 0 (bb t 204 (bb t 170 (bb t 153 (bb t 144 (bb t 140 (bb t 138 (bb t 137 0 3) 0) 0) 0) 0) (bb t 187 (bb t 178 0 (bb t 182 0 (bb t 184 (bb t 183 3 0) 0))) 0)) 0))
def I4(t:Nat):Option (Ty×Ty):=bif Nat.blt t Ks then(bb t 130 (bb t 65 none (bb t 97 none (bb t 113 none (bb t 121 (bb t 117 none (bb t 119 none (bb t 120 none (some (K1,Ty.bool))))) none)))) (bb t 195 (bb t 162 none (bb t 178 none (bb t 186 (bb t 182 none (bb t 184 (bb t 183 none (some (dX,Ty.bool))) none)) none))) none)) else none
def WJ:List Nat:=[0,1,2,0,0,0,0,0,0,0,0,0,158,159,0,94,0,0,64,69,0,139,121,0,0,0,0,0,0,0,0,34,95,29,98,0,0,88,54,57,27,134,55,0,0,128,129,199,133,0,190,191,179,180,45,0,0,118,0,89,0,108,43,28,24,84,0,0,111,0,52,60,65,46,49,36,78,79,154,92,93,151,153,82,85,86,125,87,81,90,116,44,0,0,0,0,175,58,176,177,178,181,182,161,183,216,184,185,186,187,188,189,122,218,213,214,115,210,163,164,171,170,172,215,148,147,155,165,109,106,107,110,112,91,130,62,105,117,119,142,143,144,149,150,152,156,157,113,114,0,0,0,211,212,200,173,217,233,234,235,236,237,238,239,240,219,231,166,207,141,167,168,169,47,42,198,0,0,223,224,225,226,227,228,229,230,208,14,232,248,243,244,249,250,221,202,203,194,204,205,206,195,160,201,0,0,0,0,0,0,0,0,242,245,246,247,252,192,0,0,0,251,0,253,254,255,256,257,258,259,260,261,262,263,264,265,266,267,268,0,0,0,0,0,0,0,0,0,0,0,0,0,0,0,0,0,0,0,0,0,0,0,0,0,0,0,0,0,0,0,0,0,0,0,0,0,0,0,0,0,0,0,0,0,0,0,0,0,0,0,0,0,0,0,0,0,0,0,0,0,0,0,0,0,0,0,0,0,0,0,0,0,0,0,0,0,0,0,0,0,0,0,23,0,35,0,0,0,0,0,0,83,0,77,0,0,126,0,0,0,70,0,40,0,96,97,0,0,145,146,0,0,41,0,0,0,0,59,0,0,0,0,0,0,196,197,0,0,0,0,0,75,0,71,72,0,0,0,0,123,0,0,0,0,0,63,66,135,136,0,174,0,127,131,132,209,222,0,0,0,0,0,0,0,0,0,0,0,3,4,5,6,7,8,9,10,11,12,13,15,16,17,18,19,20,21,22,25,26,30,31,32,33,37,39,48,50,51,53,56,61,67,68,73,74,76,80,101,102,103,104,120,124,137,138,140,162,193,220,241,269,270,271,272,38,100,99]
def cz(k:Nat):Nat:=WJ.getD k 0
def RZ:List Nat:=[73]
def qm(f:Nat):Bool:=RZ.any (Nat.beq f)
def Zn:List Nat:=[49,120]
def Xu(t:Nat):Bool:=Zn.any (Nat.beq t)
def c9(lp:{α β:Type}->(α->Option (Sum α β))->α->Option β)(call:Nat->List D->Option D)(inl:Inl):Env:={ L:=Sp,sig:=qx,call:=λf=>call (uB f),mapL:=I4,fnT:=Xu,ownF:=qm,lp:=lp,inl:=inl.f,cod:=inl.cod,free:=j8,pv:=inl.pv }
def ER:List (Nat×(Func×Ty))->Nat->Option (Func×Ty)
 | [],_=>none
 | p::l,f=>bif Nat.beq f p.1 then some p.2 else ER l f
theorem rU:∀ {l:List (Nat×(Func×Ty))} {f:Nat} {p:Func×Ty},ER l f=some p->(f,p)∈l
 | [],_,_,h=>by cases h
 | q::l,f,p,h=>by
  simp only[ER] at h;cases hb:Nat.beq f q.1
  ·rw[hb] at h;exact zoa _ (rU h)
  ·rw[hb] at h;cases h;rw[zqc hb];exact zsa
open Go.Proofs in
def Qa:List (Nat×(Func×Ty)):=[(38,(Tryz.f38,Ty.fn)),(99,(Tryz.f99,Tl)),(100,(Tryz.f100,Ty.bool)),(137,(Tryz.f137,Tl)),(178,(Tryz.f178,Ty.int .i64)),(182,(Tryz.f182,Ty.int .i64)),(191,(Tryz.f191,Ty.int .i64)),(204,(Tryz.f204,Ty.int .u64)),(205,(Tryz.f205,Ty.bool)),(206,(Tryz.f206,Tl))]
open Go.Proofs in
def NO:List (Nat×(Func×Ty)):=Qa++[(120,(Tryz.f120,K2))]
def NM(v f:Nat):Option (Func×Ty):=ER (bif Nat.beq v 2 then NO else Qa) f
def JX{v f:Nat}{p:Func×Ty}(h:NM v f=some p):(f,p)∈NO:=by
 unfold NM at h;cases hb:Nat.beq v 2
 ·rw[hb] at h;exact List.mem_append_left _ (rU h)
 ·rw[hb] at h;exact rU h
end Sy
end
end Go.Proofs.YtphlmegkommlnaaGreatDoor
