/- Part 3 of the proof that SweepFoundIsAccepted answers true at every input -/
import Derived.Test.YtdlipdnepadhjaaGreatFoun01
import Derived.Test.YtdlipdnepadhjaaGreatFoun02
import Derived.Scope
import Derived.RangeFuncLeaves
import Derived.Shelf.SlSortCmp.InsertionK
import Derived.ProofKit
import Derived.Carry
import Derived.Test.YtdlipdnepadhjaaGreatProg
import Derived.KernelRfl
set_option linter.all false
set_option maxRecDepth 20000
namespace Go.Proofs.YtdlipdnepadhjaaGreat
noncomputable section
namespace Sy
open Go
section
variable{N l:List Nat}{j q:Nat->Option Nat}
variable{ro:Option Nat}{nn:Nat}
section
variable{P:Program}{E:Env}{w0:Root}{S:Nat->Nat->Prop}{γ:Nat->Option Nat}{β:Nat->Option (Nat×Nat)}{s:St}{a:Act}{w:World}
def Fm.tr{s s1:St}{S S1 S2:Nat->Nat->Prop}{γ:Nat->Option Nat}{a a1 a2:Act}{w w1 b:World}(h:Fm s S γ a w S1 j a1 w1)(k:Fm s1 S1 j a1 w1 S2 q a2 b)(e:Sk s s1):Fm s S γ a w S2 q a2 b:=h.trans k e.lkS e.lkO
def vA(s:St)(t:Nat):St:=
 match s.tm t with
  | .mem a id=>match s.ob id with
   | some (.many u l)=>if a.beq u&&!(s.lkO.contains id) then{ s.setOb id none with tm:=λi=>if i=t then .d (.sl u) (.sl l) else s.tm i } else s
   | _=>s
  | _=>s
def CN(s:St)(t:Nat)(l:List Nat):iC s (t::l)=iC (vA s t) l:=rfl
def EV(h:Rp w0 S γ β s a w)(t:Nat):∃ S',Rp w0 S' γ β (vA s t) a w/\Fm s S γ a w S' γ a w/\Sm s (vA s t):=by
 have q:∃ S',Rp w0 S' γ β s a w/\Fm s S γ a w S' γ a w/\Sm s s:=⟨S,h,Fm.refl _ _ _ _ _,Sm.refl s⟩;unfold vA;split
 ·rename_i Y id hm;split
  ·rename_i u l P;split
   ·rename_i hc;simp only[X,zEa] at hc;obtain⟨G,R⟩:=hc;have hu:=alb _ _ G;subst hu;have ht:t<a.tmps.size:=by
     rcases zua t a.tmps.size with k|k
     ·exact k
     ·have:=h.tmu t (by rw[<-h.nt];exact k)
      simp_all
    have x:=h.tms t ht;rw[hm] at x;simp only[AR,AC] at x;obtain⟨J,L,b,F,x⟩:=x;obtain⟨l',cap,O,z,M⟩:=x _ P;simp only[Ob.many.injEq,true_and] at O;subst O;have hO:=h.obs id _ b P F;simp only[gF] at hO;obtain⟨_,N,T,cs,a0,C,H⟩:=hO;obtain⟨S',g⟩:∃ S':Nat->Nat->Prop,S'=λd o=>S d o\/d=b:=⟨_,rfl⟩;have m:∀ d o,S d o->S' d o:=λd o j=>by rw[g];exact .inl j
    have hle:Cx.le ⟨w,S,γ,β,s.ob,s.dead⟩ ⟨w,S',γ,β,(s.setOb id none).ob,s.dead⟩:=by
     refine⟨λ_ _ _=>rfl,m,λ_ _ k=>k,λi o hi _=>?_,λv M=>⟨M,λb e he=>⟨he,λn hn=>hn⟩⟩⟩
     simp_all [St.setOb]
    refine⟨S',⟨h.ext,λi hi=>?_,h.nt,λi hi=>?_,λi o d hi y=>?_,h.γn,h.γi,h.γf,λv d e E he=>?_,h.βi,h.βγ,h.βf,λd o j=>?_,λd o j A=>?_⟩,⟨m,λ_ _ _=>rfl,λ_ _=>rfl,λ_ _ _ j=>⟨j,kw.refl _ _⟩,zja _,λ_ _ j=>j,me.same rfl (dM.refl _)⟩,⟨rfl,rfl,rfl,rfl⟩⟩
    ·by_cases p:i=t
     ·subst p;simp only[if_true];have D:=ap J M;rw[D];refine dA (by simpa only[ak] using L) (by simp only[wt];exact⟨l,rfl,N⟩) (akA ?_)
      refine akg (b:=b) (off:=0) (.inr rfl) z ⟨cs,H.mono (λ_ _ _=>rfl) m,λi c hc=>⟨by rw[g];exact .inr rfl,?_⟩⟩
      rw[zbb,cell_of_row w C];have:=(zra.1 hc).1;rw[<-hc,ztc,zab this]
     ·simp only[zia p];exact(h.tms i hi).mono hle
    ·have I:s.nt<=i:=hi;have p:i≠t:=λe=>by rw[h.nt] at ht;omega
     simp only[zia p];exact h.tmu i I
    ·simp only[St.setOb] at hi;split at hi<;>try(cases hi;done)
     rename_i K;refine(h.obs i o d hi y).mono hle rfl λo r=>?_;have B:=r;rw[g] at B;rcases B with k|k
     ·exact k
     ·subst k;exact zgb (h.γi i id d y F) K
    ·obtain⟨U,V,W⟩:=h.βn v d e E he;refine⟨U,V,λo r Q=>?_⟩;rw[g] at Q;rcases Q with k|k
     ·exact W o r k
     ·subst k;exact h.βγ v id d e E he F
    ·rw[g] at j;rcases j with k|k
     ·exact h.Sb d o k
     ·subst k;exact(h.γn id d F).2
    ·rw[g] at j;rcases j with k|k
     ·exact h.So d o k A
     ·subst k;exact zgb A (h.γn id d F).1
   ·exact q
  ·exact q
 ·omega
theorem tP:∀ (l:List Nat) {S:Nat->Nat->Prop} {s:St},Rp w0 S γ β s a w->∃ S',Rp w0 S' γ β (iC s l) a w/\Fm s S γ a w S' γ a w/\Sm s (iC s l)
 | [],S,s,h=>⟨S,h,Fm.refl _ _ _ _ _,Sm.refl s⟩
 | t::l,S,s,h=>by obtain⟨S1,h1,f1,m1⟩:=EV h t;obtain⟨S2,b,f2,G⟩:=tP l h1;rw[CN];exact⟨S2,b,f1.trans f2 m1.lkS m1.lkO,m1.trans G⟩
theorem XR{e a:Ex}(h:e.is a=true):e=a:=by cases e<;>cases a<;>simp only[Ex.is,zea] at h<;>first|rfl|(cases h;done)|(rw[h])
theorem uE{e:Ex}:∀ {l:List (Ex×Shape)} {i j:Nat} {h:Shape},wN e l i=some (j,h)->i<=j/\l[j-i]?=some (e,h)
 | [],_,_,_,k=>by simp[wN] at k
 | (a,b)::l,i,j,h,k=>by
  simp only[wN] at k;split at k
  ·grind [Option.some.injEq,Prod.mk.injEq,XR]
  ·obtain⟨c,d⟩:=uE k;grind
theorem kJ{R:Type}{base:St}{k:Ex->St->Option R}{b:List Nat}{r:R}{e:Ex}{h:Shape}{v:List D}:∀ {l:List (Ex×Shape)} {i j:Nat},i<=j->l[j-i]?=some (e,h)->nE base k N b l i (j,v)=some r ->
  k e (h.mk' base v base.lkS base.lkO)=some r/\subset h.keepS N=true/\subset (cG h.objs) b=true
 | [],_,_,_,hl,_=>by simp at hl
 | [(c,d)],i,j,a,hl,hc=>by
  have:j-i=0:=by grind
  rw[this] at hl;simp only[zAb,zca,Prod.mk.injEq] at hl
  simp_all [nE,X]
 | (c,d)::x::l,i,j,a,hl,hc=>by
  simp only[nE] at hc;split at hc<;>try(cases hc;done)
  rename_i g;simp only[X] at g;split at hc
  ·simp_all
  ·rename_i f;refine kJ (i:=i+1) u0 ?_ hc
   grind
def gE{l':List Nat}(h:subset l l'=true):∀ x∈l,x∈l':=λx hx=>by
 have:=zya.1 h x hx
 simp_all
def Rp.lk(h:Rp w0 S γ β s a w)(lkS lkO:List Nat):Rp w0 S γ β { s with lkS:=lkS,lkO:=lkO } a w:=
 ⟨h.ext,h.tms,h.nt,h.tmu,h.obs,h.γn,h.γi,h.γf,h.βn,h.βi,h.βγ,h.βf,h.Sb,h.So⟩
def Fm.shape{s2:St}{S':Nat->Nat->Prop}{γ':Nat->Option Nat}{a':Act}{w':World}(h0:Rp w0 S γ β s a w)(h:Fm s2 S γ a w S' γ' a' w')(d:∀ id,id<s.base+4096->j id=γ' id):Fm s2 S γ a w S' j a' w':=
 ⟨h.sub,h.cell,h.slots,λid hid b c=>by
  obtain⟨e,g⟩:=h.objs id hid b c;refine⟨?_,g⟩;rw[d id ?_]
  ·exact e
  ·rcases zua id (s.base+4096) with k|k
   ·exact k
   ·rw[h0.γf id k] at c;exact zgb c j2,h.sz,λid b c=>by
  rw[d id ?_]
  ·exact h.gam id b c
  ·rcases zua id (s.base+4096) with k|k
   ·exact k
   ·rw[h0.γf id k] at c;exact zgb c j2,h.dfs⟩
def ut{base:St}{a:List (Ex×Shape)}{e:Ex}{s':St}{r:Nat×List D}(h:F6 base a e s'=some r):∃ sh,a[r.1]?=some (e,sh)/\sh.dec base s'=some r.2:=by
 unfold F6 at h;obtain⟨q,h1,h⟩:=ab h;obtain⟨v,b,h⟩:=ab h;simp only[zca] at h;subst h;obtain⟨_,c⟩:=uE h1
 simp_all
end
end
end Sy
end
noncomputable section
namespace Sy
open Go
open Go.ChangeMaps (setBlock)
open Go.RowKit
variable{ro:Option Nat}{nn:Nat}
section
variable{P:Program}{E:Env}{w0:Root}{S:Nat->Nat->Prop}{γ:Nat->Option Nat}{β:Nat->Option (Nat×Nat)}{s:St}{a:Act}{w:World}
def Kp(Q:Exit->Act->World->Prop)(w0:Root)(s:St)(S:Nat->Nat->Prop)(γ:Nat->Option Nat)(a:Act)(w:World){R:Type}(k:Ex->St->Option R)(r:R):Prop:=
 ∀ e s' S' γ' β' a' w',Rp w0 S' γ' β' s' a' w'->Fm s S γ a w S' γ' a' w'->Sk s s'->k e s'=some r->Q (LH e) a' w'
def Nv{c:Cx}{x:AV}{v:Value}(h:AR c x v):gg c (km c.ob x) v:=by
 cases x<;>simp only[km]<;>first|(simp only[gg];done)|skip
 case d t y=>exact h
 case own t u l=>exact oc (c:=c) (c':=c) (λ_ _ _=>rfl) (λ_ _ h=>h) h
 case fptr t y=>exact h
 case ptr t id p=>
  cases p with
  | cons i p=>simp only[gg]
  | nil=>
   simp only;split
   ·rename_i a;simp only[AR] at h;simp only[gg,vU];exact zP a h.1 h.2
   ·simp only[gg]
 case clo f l=>exact HH h
 case yld id=>exact h
 case map kt vt id=>exact HI h
def Rp.act(h:Rp w0 S γ β s a w){a':Act}(ht:a'.tmps=a.tmps):Rp w0 S γ β s a' w:=
 ⟨h.ext,by rw[ht];exact h.tms,by rw[ht];exact h.nt,h.tmu,h.obs,h.γn,h.γi,h.γf,h.βn,h.βi,h.βγ,h.βf,h.Sb,h.So⟩
def LC(d:∀ l,ro=some l->∃ r0,w.heap[l]?=some (Obj.loop r0))(a:FuncId)(tmps:Array Value)(ps:Array Tmp)(asg bdy:Code) :
  ∃ L mark os rec,(Instr.enterLoop a tmps ps asg bdy ro).run P w=.ok (L,mark) (grown w os w.drawn)/\(grown w os w.drawn).heap[L]?=some (Obj.loop rec)/\rec.tmps=tmps/\rec.params=ps/\rec.assign=asg/\rec.body=bdy/\rec.state=.ready/\rec.pending=none ∧
   w.heap.size<=L/\cQ w.heap.size (grown w os w.drawn) (grown w os w.drawn).heap.size mark:=by
 cases ro with
 | none=>
  obtain⟨W1,b⟩:∃ W1,W1=(w.alloc (.deferred (some []))).alloc (.loop { state:=.ready,pending:=none,fn:=a,tmps,params:=ps,assign:=asg,body:=bdy,defers:=w.heap.size }):=⟨_,rfl⟩;have c:W1=grown w [.deferred (some []),.loop { state:=.ready,pending:=none,fn:=a,tmps,params:=ps,assign:=asg,body:=bdy,defers:=w.heap.size }] w.drawn:=by rw[b];unfold grown;congr 1<;>(apply zic;simp)
  have f:W1.heap[w.heap.size+1]?=some (.loop { state:=.ready,pending:=none,fn:=a,tmps,params:=ps,assign:=asg,body:=bdy,defers:=w.heap.size }):=by rw[b];have:=World.alloc_heap_new (w.alloc (.deferred (some []))) (.loop { state:=.ready,pending:=none,fn:=a,tmps,params:=ps,assign:=asg,body:=bdy,defers:=w.heap.size });rwa [World.size_alloc] at this
  have e:W1.heap[w.heap.size]?=some (.deferred (some [])):=by rw[b];exact(Below.heap_alloc _ _ _ j2).trans (World.alloc_heap_new w _)
  refine⟨w.heap.size+1,[{ target:=.collected w.heap.size,args:=#[] }],[.deferred (some []),.loop { state:=.ready,pending:=none,fn:=a,tmps,params:=ps,assign:=asg,body:=bdy,defers:=w.heap.size }],{ state:=.ready,pending:=none,fn:=a,tmps,params:=ps,assign:=asg,body:=bdy,defers:=w.heap.size },(run_enterLoop_outer a tmps ps asg bdy).trans ?_,?_,rfl,rfl,rfl,rfl,rfl,rfl,zHc _,w.heap.size,rfl,zja _,?_,?_,trivial⟩
  rotate_left 1
  ·simp_all
  rotate_left 1
  ·simp_all
  ·simp_all
  ·grind
 | some l0=>
  obtain⟨r0,h0⟩:=d l0 rfl;obtain⟨W1,b⟩:∃ W1,W1=w.alloc (.loop { state:=.ready,pending:=none,fn:=a,tmps,params:=ps,assign:=asg,body:=bdy,defers:=r0.defers }):=⟨_,rfl⟩;have c:W1=grown w [.loop { state:=.ready,pending:=none,fn:=a,tmps,params:=ps,assign:=asg,body:=bdy,defers:=r0.defers }] w.drawn:=by simp_all [grown]
  refine⟨w.heap.size,[],[.loop { state:=.ready,pending:=none,fn:=a,tmps,params:=ps,assign:=asg,body:=bdy,defers:=r0.defers }],{ state:=.ready,pending:=none,fn:=a,tmps,params:=ps,assign:=asg,body:=bdy,defers:=r0.defers },(run_enterLoop_inner h0 a tmps ps asg bdy).trans ?_,?_,rfl,rfl,rfl,rfl,rfl,rfl,zja _,trivial⟩
  rotate_left 1
  ·rw[<-c,b];exact World.alloc_heap_new w _
  ·simp_all
def UV(hE:EnvOk P E){Q:Exit->Act->World->Prop}(hro:∀ l,ro=some l->∃ r0,w.heap[l]?=some (Obj.loop r0))(h:Rp w0 S γ β s a w){f:Operand}{ps:Array Tmp}{asg bdy:Code}{an:Ann}{R:Type}{k:Ex->St->Option R}{r:R}
  (hev:evN E f ps asg bdy an s k=some r) (hQ:Kp Q w0 s S γ a w k r):(Code.rangeFunc f ps asg bdy).wpIn (FW ro) nn P Q a w:=by
 unfold evN at hev;split at hev<;>try(cases hev;done)
 rename_i t;split at hev<;>try(cases hev;done)
 rename_i g l htm;split at hev<;>try(cases hev;done)
 rename_i hcond;simp only[X,zEa] at hcond;obtain⟨hp,h4095⟩:=hcond;obtain⟨G,hG,hev⟩:=ab hev;obtain⟨id,hid⟩:∃ id,id=(s.fresh+1)*4096:=⟨_,rfl⟩;rw[<-hid] at hev;obtain⟨info,hinfo⟩:∃ info:LpI,info={ nt:=s.nt,ps:=ps.toList,asg:=asg,bdy:=bdy,caps:=λj=>km s.ob (s.tm j) }:=⟨_,rfl⟩;rw[<-hinfo] at hev;obtain⟨⟨fn,f1,f2,f3⟩,hI⟩:=hE.inl g G hG;have hb:¬ fn.body=none:=s6
 have f2' : ¬ fn.name = "runtime.NumGoroutine" := by simpa using f2
 refine wpIn_rangeFunc λfid _=>?_;obtain⟨L,mark,os,rec,e1,e2,e3,e4,e5,e6,e7,e8,e9,e10⟩:=LC (P:=P) hro fid a.tmps ps asg bdy;obtain⟨w1,hw1⟩:∃ w1,w1=grown w os w.drawn:=⟨_,rfl⟩;obtain⟨g1,le1⟩:=h.grow (os:=os) (d:=w.drawn) (zja _) (S':=S) (λ_ _ hb=>hb) (λ_ _ hb=>.inl hb);have kept1:dM w (grown w os w.drawn):=dM.grown;have hsz1:w.heap.size<=(grown w os w.drawn).heap.size:=j2
 have hcell1:∀ b o,S b o->(grown w os w.drawn).cell? ⟨b,o,none⟩=w.cell? ⟨b,o,none⟩:=λb o hb=>eH (h.Sb b o hb);have hold1:∀ b,b<w.heap.size->(grown w os w.drawn).heap[b]?=w.heap[b]?:=λb hb=>dK hb;rw[<-hw1] at e1 e2 e10 g1 kept1 hsz1 hcell1 hold1;clear le1 hw1;have hLlt:=(zpa.1 e2).1;have hγid:=h.γf id (by rw[hid];simp only[St.base];omega)
 obtain⟨sX,hsX⟩:∃ sX,sX=({ s with fresh:=s.fresh+1 }:St).setOb id (some (.lp info none)):=⟨_,rfl⟩;rw[<-hsX] at hev;have q1:Rp w0 S γ β sX a w1:=by rw[hsX];exact(g1.later.setFree (id:=id) hγid _).1
 have RX:Rp w0 S (pG γ id L) β sX a w1:=by
  refine(q1.newOb (id:=id) (b:=L) hγid (λho=>?_) hLlt (λi hi=>?_) (λu f hu hf=>?_) ?_ λo ho=>?_).1
  ·have:=ho.1;have:=h.ext.sz;omega
  ·have:=(h.γn i _ hi).2;omega
  ·have hu':u ∉ s.dead:=by rw[hsX] at hu;exact hu
   have:=(h.βn u _ _ hu' hf).2.1;omega
  ·rw[hsX];show id<(s.fresh+1)*4096+4096;omega
  ·have ho':some (Ob.lp info none)=some o:=by rw[<-ho,hsX];simp[St.setOb]
   cases ho';simp only[gF];refine⟨rec,e2,⟨by rw[e3,hinfo];exact h.nt,by rw[e4,hinfo],by rw[e5,hinfo],by rw[e6,hinfo]⟩,λu hu=>?_,e7,e8⟩
   rw[e3,hinfo];have hu':u<s.nt:=by rw[hinfo] at hu;exact hu
   exact gg.mono (c:=⟨w,S,γ,β,s.ob,s.dead⟩) (c':=⟨w1,S,pG γ id L,β,sX.ob,sX.dead⟩) hcell1 (λ_ _ hb=>hb) (λi b hb=>fG hγid hb) (Nv (h.tms u (by rw[h.nt];exact hu')))
 have hA:=aW RX (.tmp t);have htX:sX.tm t=.clo g l:=by rw[hsX];exact htm
 have hA':AR ⟨w1,S,pG γ id L,β,sX.ob,sX.dead⟩ (.clo g l) (a.eval (.tmp t)):=by rw[<-htX];exact hA
 simp only[AR,AC] at hA';obtain⟨na,caps,hcs,hcap⟩:=hA';have hv:=ap na hcs;obtain⟨k1,k2⟩:=nu l caps hp hcap;refine⟨L,mark,w1,{ target:=.fn (.func g) caps.toArray,args:=#[.func (.yield L) #[] #[]] },w1,g,(Value.func (.yield L) #[] #[]::caps).toArray,w1,e1,?_,λ_ _=>trivial,?_,λh=>(by cases h),?_⟩
 ·simp_all [resolve,go_sem,Deferred.ofValue,Act.eval]
 ·simp[invoke,callFunc,f1,f2',hb]
 have hc:=hI an R w0 S (pG γ id L) β sX a w1 (.yld id::l) (Value.func (.yield L) #[] #[]::caps) _ r RX (by simp[k1]) (λi x v hx hv=>by
  cases i with
  | zero=> simp only[zAb,zca] at hx hv;subst hx;subst hv;simp only[AR,AC];exact⟨λ_ h=>(by cases h),L,rfl,bO _ _ _⟩
  | succ i=>exact k2 i x v (by simpa using hx) (by simpa using hv)) hev
 refine Cn (hc.mono λe w' ⟨v,y,s',S',γ',β',z1,z2,z3,_,z5,z6⟩=>?_);subst z1;have hγ':=z5.gam id L (bO _ _ _);have fin:∀ (p:Option Ex) (i:LpI),s'.ob id=some (.lp i p)->∃ w4,(Instr.endLoop L).run P w'=.ok (p.map EI) w4/\Rp w0 S' γ' β' (s'.setOb id none) { a with defers:=mark++a.defers } w4/\Fm s S γ a w S' γ' { a with defers:=mark++a.defers } w4/\Sk s (s'.setOb id none):=by
  intro p i hob;have hO:=z3.obs id _ L hob hγ';simp only[gF] at hO;obtain⟨rec',v1,_,_,v4⟩:=hO;have hst:rec'.state≠.busy/\rec'.pending=p.map EI:=by
   cases p with
   | none=>exact⟨by rw[v4.1];simp,v4.2⟩
   | some e=>exact⟨by rw[v4.1];simp,v4.2⟩
  have F4:=Fm.setLp z3 (s1:=s) v1 (r':={ rec' with state:=.exhausted }) ⟨rfl,rfl,rfl,rfl⟩;have hlkO:sX.lkO=s.lkO:=by rw[hsX];rfl
  have hlkS:sX.lkS=s.lkS:=by rw[hsX];rfl
  have hnt:sX.nt=s.nt:=by rw[hsX];rfl
  refine⟨_,by rw[<-hst.2];exact run_endLoop v1 hst.1,(z3.setLp hγ' v1 _).act rfl,⟨z5.sub,λb o hb=>(F4.cell b o (z5.sub b o hb)).trans ((z5.cell b o hb).trans (hcell1 b o hb)),λ_ _=>rfl,λj hj b hb=>?_,zva hsz1 (zva z5.sz F4.sz),λj b hb=>z5.gam j b (fG hγid hb),?_,mark,rfl,?_,?_⟩,⟨z6.lkS.trans hlkS,z6.lkO.trans hlkO,z6.nt.trans hnt⟩⟩
  ·obtain⟨y1,y2⟩:=z5.objs j (by rw[hlkO];exact hj) b (fG hγid hb)
   obtain⟨_,y3⟩:=F4.objs j hj b y1;exact⟨y1,(kw.trans (.inl (hold1 b (h.γn j b hb).2)) y2).trans y3⟩
  ·exact(kept1.trans z5.dfs.1).trans F4.dfs.1
  ·exact e10.mono (zja _) (z5.dfs.1.trans F4.dfs.1) (zva z5.sz F4.sz)
  ·intro hh;have:s.lkO.contains 4095=true:=by simpa using hh
   rw[this] at h4095;cases h4095
 simp only[rangePost];split at z2<;>try(cases z2;done)
 ·rename_i i hob;obtain⟨w4,y1,y2,y3,y4⟩:=fin none i hob;exact⟨_,w4,y1,hQ .normal _ S' γ' β' _ w4 y2 y3 y4 z2⟩
 ·rename_i i e hob;obtain⟨w4,y1,y2,y3,y4⟩:=fin (some e) i hob;refine⟨_,w4,y1,?_⟩;have hq:=hQ e _ S' γ' β' _ w4 y2 y3 y4 z2;cases e with
  | normal=>exact wpIn_skip hq
  | exit j=>exact wpIn_exit hq
  | ret=>exact wpIn_ret hq
end
end Sy
end
noncomputable section
namespace Sy
open Go
section
variable{z:Nat->Option Ob}{B:Oper}
variable{ro:Option Nat}{nn:Nat}
section
variable{V:Nat->St->Option AV}{ops:Array Oper}{md:Region.Mode}
def xI(V:Nat->St->Option AV)(ops:Array Oper)(i:Nat)(K:St->Prop)(s:St):Prop:=
 match ops[i]? with
 | none=>K s
 | some o=>∃ v,V i s=some v/\K (s.put o.dst v)
def wU(V:Nat->St->Option AV)(md:Region.Mode)(ops:Array Oper)(n:Nat)(L:Array Bool->St->Prop):Nat->Array Bool->St->Prop
 | 0,a,s=>L a s
 | f+1,a,s=>Region.ready md ops a≠[]/\∀ i∈Region.ready md ops a,i<n/\xI V ops i (wU V md ops n L f (a.setIfInBounds i true)) s
def oV(V:Nat->St->Option AV)(ops:Array Oper):Nat->Nat->St->Option St
 | 0,_,s=>some s
 | c+1,k,s=>(V k s).bind λv=>oV V ops c (k+1) (s.put ((ops[k]?).bind (·.dst)) v)
theorem DZ:∀ (c d k:Nat) (s:St),oV V ops (c+d) k s=(oV V ops c k s).bind λs'=>oV V ops d (k+c) s'
 | 0,d,k,s=>by simp[oV]
 | c+1,d,k,s=>by
  rw[show c+1+d=(c+d)+1 by omega]
  simp only[oV];cases V k s with
  | none=>rfl
  | some v=> simp only[zba];rw[DZ c d (k+1),show k+1+c=k+(c+1) by omega]
def VOk(V:Nat->St->Option AV)(ops:Array Oper):Prop:=∀ i a,ops[i]?=some a->∀ (s:St) (d:Option Nat) (v:AV),(∀ t,d=some t->t ∉ a.looksAt ops)->V i (s.put d v)=V i s
theorem CV{n i:Nat}{v:AV}{L:Array Bool->St->Prop}(z:VOk V ops)(hi:ops[i]?=some B)(A:pg md ops n)(r:i<n)
  (o:∀ a s,L a s->∀ j∈Region.ready md ops a,n<=j) :
  ∀ (f:Nat) (a:Array Bool) (s:St),HeadInv md ops n a ->
   (∀ j m,ops[j]?=some m->j≠i->a.getD j true=false->(∀ e∈m.after,Region.binds md e=true->e.on≠i)->B.apart ops m=true) ->
   i∈Region.ready md ops a->V i s=some v ->
   wU V md ops n L f (a.setIfInBounds i true) (s.put B.dst v)->wU V md ops n L (f+1) a s:=by
 intro f
 induction f with
 | zero=>
  intro a s inv _ l D H;have g:=(mem_ready.1 l).1;refine⟨λh=>(by rw[h] at l;cases l),λj p=>?_⟩
  have c:j<n:=by
   rcases zua j n with h|h
   ·exact h
   ·exact zgb p (A _ _ inv r g j h)
  refine⟨c,?_⟩;by_cases hji:j=i
  ·simp_all [xI]
  ·have:=o _ _ H j (ready_mono p hji);omega
 | succ f ih=>
  intro a s inv b l D H;have g:=(mem_ready.1 l).1;refine⟨λh=>(by rw[h] at l;cases l),λj p=>?_⟩
  have c:j<n:=by
   rcases zua j n with h|h
   ·exact h
   ·exact zgb p (A _ _ inv r g j h)
  refine⟨c,?_⟩;by_cases hji:j=i
  ·simp_all [xI]
  ·have h1:=(H.2 j (ready_mono p hji)).2;obtain⟨t,m,q,C⟩:=mem_ready.1 p;have w:∀ e∈m.after,Region.binds md e=true->e.on≠i:=λe he I heq=>by
    grind
   obtain⟨a1,a2,a3⟩:=Oper.apart_spec (b j m q hji t w);unfold xI at h1 ⊢;rw[q] at h1 ⊢;obtain⟨u,E,G⟩:=h1;rw[z j m q _ _ _ a1] at E;refine⟨u,E,ih (a.setIfInBounds j true) (s.put m.dst u) (inv.set p c) (λk ok hk x g y=>?_) (ready_mono l (Ne.symm hji)) ?_ ?_⟩
   ·refine b k ok hk x ?_ y;by_cases hjk:j=k
    ·simp_all
    ·simp_all
   ·rw[z i B hi _ _ _ a3];exact D
   ·rw[Array.setIfInBounds_comm _ _ hji,DH u v (λd F he=>a2 d he F)];exact G
theorem zi{n g:Nat}{sF:St}(p:VOk V ops)(hn:n<=ops.size)(q:pg md ops n) :
  ∀ (c k:Nat) (a:Array Bool) (s:St),k+c=n->HeadInv md ops n a->(∀ i,i<k->a.getD i false=true) ->
  Region.lexHead md ops g c k a=true->oV V ops c k s=some sF ->
  wU V md ops n (λb s'=>Region.seqB md ops g n b=true/\(∀ i,i<n->b.getD i false=true)/\s'=sF) c a s
 | 0,k,a,s,hk,_,hl,j,h=>by
  have:k=n:=by simpa using hk
  subst this;simp only[oV,zca] at h;exact⟨by simpa [Region.lexHead] using j,hl,h⟩
 | c+1,k,a,s,hk,inv,hl,j,h=>by
  have d:k<n:=u0
  have m:k<ops.size:=u0
  have h0:=zJb m;simp only[Region.lexHead,X] at j;obtain⟨⟨t,r⟩,l⟩:=j;have f:k∈Region.ready md ops a:=by simpa using t
  simp only[oV] at h;obtain⟨v,h1,o⟩:=ab h;rw[h0,zba] at o;refine CV p h0 q d (λb s' hL=>seqB_ready hL.1) c a s inv (Region.free_spec h0 r) f h1
   (zi p hn q c (k+1) _ _ u0 (inv.set f d) (λi hi=>?_) l o)
  by_cases e:i=k
  ·simp_all [inv.size]
  ·exact getD_set_true (hl i u0)
theorem zh{n:Nat}{L:Array Bool->St->Prop}{T:List Nat}:∀ (f:Nat) (a:Array Bool) (s:St),wU V md ops n L f a s ->
  (∀ t∈T,∀ j d,ops[j]?=some d->a.getD j true=false->d.dst≠some t)->∃ b s',L b s'/\(∀ t∈T,s'.tm t=s.tm t)/\s'.ob=s.ob/\Sm s s'
 | 0,a,s,h,_=>⟨a,s,h,λ_ _=>rfl,rfl,Sm.refl s⟩
 | f+1,a,s,h,hT=>by
  obtain⟨h1,q⟩:=h;obtain⟨i,hi⟩:=List.exists_mem_of_ne_nil _ h1;obtain⟨r,c⟩:=q i hi;obtain⟨l,o,m,_⟩:=mem_ready.1 hi;unfold xI at c;rw[m] at c;obtain⟨v,_,w⟩:=c;obtain⟨l',s',m1,G,m3,m4⟩:=zh f _ _ w (λt ht j d u hu=>by
   by_cases e:i=j
   ·subst e;exfalso;rcases zua i a.size with k|g
    ·simp[Array.getD,k] at hu
    ·simp[Array.getD,zPc.2 g] at hu
   ·rw[getD_set_ne true e] at hu;exact hT t ht j d u hu)
  have p:=ak5 s o.dst v;exact⟨l',s',m1,λt ht=>(G t ht).trans (Bu (hT t ht i o m l)),m3.trans p.1,(Sm.put s o.dst v).trans m4⟩
end
section
variable{E:Env}{ops:Array Oper}
def pz(E:Env)(ops:Array Oper)(n id i:Nat)(s:St):Option AV:=if i=n then some .undef else w6 E ops n id i s some
theorem zU(s:St)(d:Option Nat)(v:AV)(id:Nat)(o:Option Ob):(s.put d v).setOb id o=(s.setOb id o).put d v:=by
 cases d with
 | none=>rfl
 | some d=>
  by_cases h:d<s.nt
  ·simp_all [St.put,St.setOb]
  ·grind [St.put,St.setOb]
def Mc(n id:Nat):VOk (pz E ops n id) ops:=by
 intro i a hi s d v h;unfold pz;split
 ·rfl
 ·obtain⟨p1,b,l,m,c,o,p⟩:=ak5 s d v;obtain⟨q1,f,q,r,u,w,y⟩:=ak5 (s.setOb id none) d v;have g:pA (s.put d v) a=pA s a:=by simp only[pA,c]
  have hx:∀ x∈a.op.operands,∀ t,d=some t->x≠.tmp t:=λx hx t ht e=>h t ht (by subst e;exact List.mem_append_left _ (z4c.2 ⟨.tmp t,by simpa using hx,rfl⟩))
  have j:qv E (s.put d v) a some=qv E s a some:=xt p1 b λx hm=>vD (hx x hm);have k:qv E ((s.put d v).setOb id none) a some=qv E (s.setOb id none) a some:=by rw[zU];exact xt q1 f λx hm=>vD (hx x hm)
  simp_all [w6]
def C7{R:Type}{n id i:Nat}{s:St}{K:AV->Option R}{r:R}(h:w6 E ops n id i s K=some r):∃ v,w6 E ops n id i s some=some v/\K v=some r:=by
 unfold w6 at h ⊢;split at h<;>try(cases h;done)
 split at h<;>try(cases h;done)
 rename_i a;rw[zia a];split at h
 ·rename_i hw;rw[zla hw];exact ji h
 ·rename_i hw;rw[zia hw];split at h<;>try(cases h;done)
  rename_i hk;rw[zla hk];exact ji h
theorem G4{R:Type}{n id:Nat}{K:St->Option R}{r:R}:∀ (c k:Nat) (s:St),k+c<=n->UU E ops n id c k s K=some r->∃ s',oV (pz E ops n id) ops c k s=some s'/\K s'=some r
 | 0,k,s,_,h=>⟨s,rfl,h⟩
 | c+1,k,s,hk,h=>by
  simp only[UU] at h;obtain⟨v,h1,a⟩:=C7 h;obtain⟨s',b,d⟩:=G4 c (k+1) _ u0 a
  refine⟨s',?_,d⟩;simp only[oV,pz,zia (show ¬ k=n by omega),h1,zba]
  exact b
mutual
theorem BR(ob ob':Nat->Option Ob):∀ (t:Ty) (a:AV),akf ob t a=akf ob' t a
 | t,.st ts l=>by simp only[akf,HY ob ob' ts l]
 | t,.d _ _=>by simp_all [akf]
 | t,.own _ _ _=>by cases t<;>simp only[akf]
 | t,.nils=>by simp_all [akf]
 | t,.ptr _ _ _=>by cases t<;>simp only[akf]
 | t,.yld _=>by simp_all [akf]
 | t,.fptr _ _=>by cases t<;>simp only[akf]
 | t,.mem _ _=>by cases t<;>simp only[akf]
 | t,.clo _ _=>by cases t<;>simp only[akf]
 | t,.map _ _ _=>by cases t<;>simp only[akf]
 | t,.sub _ _ _ _ _ _=>by cases t<;>simp only[akf]
 | t,.gone=>by simp_all [akf]
 | t,.tpo _ _ _ _=>by cases t<;>simp only[akf]
 | t,.undef=>by simp_all [akf]
theorem HY(ob ob':Nat->Option Ob):∀ (ts:List Ty) (l:List AV),AV.toDl ob ts l=AV.toDl ob' ts l
 | [],[]=>rfl
 | [],_::_=>rfl
 | _::_,[]=>rfl
 | t::ts,a::l=>by simp only[AV.toDl,BR ob ob' t a,HY ob ob' ts l]
end
theorem zO{s s':St}(a:s'.tm=s.tm)(ty:Nat->Option Ty):∀ l:List (Nat×Operand),partsD s'.ob s' ty l=partsD s.ob s ty l
 | []=>rfl
 | (i,x)::l=>by
  have e:s'.opA x=s.opA x:=by cases x<;>simp only[St.opA,a]
  simp only[partsD,e,zO a ty l];cases ty i with
  | none=>rfl
  | some t=>simp only[zba,BR s'.ob s.ob t]
def yL{ob:Nat->Option Ob}(h:∀ j o,ob j=some o->z j=some o){x:AV}(hp:gA (nA ob x)=true):nA z x=nA ob x:=by
 unfold nA at hp ⊢;split
 ·rename_i t id;simp only at hp;cases a:ob id with
  | none=>rw[a] at hp;cases hp
  | some o=>rw[h _ _ a]
 ·rfl
def EE{ob:Nat->Option Ob}(h:∀ j o,ob j=some o->z j=some o){x:AV}(a:mZ (pj ob x)=true):pj z x=pj ob x:=by
 cases x<;>simp only[pj] at a ⊢
 case ptr t id p=>
  refine yL h ?_;unfold nA at a ⊢;split at a<;>try(cases a;done)
  split at a<;>try(cases a;done)
 case clo f l=>
  split at a<;>try(cases a;done)
  rename_i hl;rw[zla hl];have e:=zpc λx hx=>yL h (zya.1 hl _ (zbc hx))
  simp_all
 case map kt vt id=>
  cases ho:ob id with
  | none=>rw[ho] at a;cases a
  | some o=>rw[h _ _ ho]
theorem IF{s s':St}{id:Nat}(k:s'.tm=s.tm)(w:s'.fresh=s.fresh)(A:∀ j,j≠id->s'.ob j=s.ob j)(hid:s.ob id=none){o:Oper}(hk:wY o=true){v:AV}(h:qv E s o some=some v):qv E s' o some=some v:=by
 have op:∀ x,s'.opA x=s.opA x:=λx=>by cases x<;>simp only[St.opA,k]
 have l:∀ {j:Nat} {ob:Ob},s.ob j=some ob->s'.ob j=some ob:=λ{j ob} B=>by all_goals grind
 obtain⟨dst,m,ty,pos,after,guard⟩:=o;cases m<;>simp only[wY] at hk<;>try(cases hk;done)
 case build T ps=>
  simp only[qv] at h ⊢;obtain⟨t,ht,d⟩:=ab h;rw[ht,zba];have r:∀ ts,ps.toList.all (gL s' ts)=ps.toList.all (gL s ts):=λts=>by congr 1;funext p;simp only[gL,op]
  have u:(ps.toList.map λp=>(p.1,s'.opA p.2))=ps.toList.map λp=>(p.1,s.opA p.2):=by simp only[op]
  cases t<;>simp only[zO k,r,u]<;>exact d
 case load T a=>
  simp only[qv] at h ⊢;cases hfn:E.fnT T with
  | true=>
   rw[hfn] at h;simp only[cond_true] at h ⊢;split at h<;>try(cases h;done)
   rename_i j e;split at h<;>try(cases h;done)
   rename_i y z;split at h<;>try(cases h;done)
   rename_i n;rw[op,e];simp only;rw[l z];simp only;rw[EE (λj o=>l) n,zla n];exact h
  | false=>
  rw[hfn] at h;simp only[cond_false] at h ⊢;obtain⟨t,ht,d⟩:=ab h;rw[ht,zba,op];all_goals grind
 case fieldAddr T x f=> simp_all [qv,op]
 case extract x i=> simp_all [qv,op]
 case move x=> simp_all [qv,op]
 case alloc T=> simp_all [qv,St.base]
 case binOp=> simp_all [qv,op]
 case indexAddr T x i=>
  simp only[qv,op] at h ⊢;obtain⟨t,ht,d⟩:=ab h;rw[ht,zba];obtain⟨C,hi,b⟩:=ab d;rw[hi,zba];cases t<;>first|(simp only at b;cases b;done)|skip
  ·exact b
  ·cases hx:s.opA x<;>rw[hx] at b<;>simp only[AV.asList,BR s'.ob s.ob] at b ⊢<;>first|exact b|skip
   all_goals grind
 case call c=>
  obtain⟨callee,args,q⟩:=c;simp only at hk;split at hk<;>try(cases hk;done)
  ·simp only[qv,op] at h ⊢;obtain⟨T,hT,d⟩:=ab h;rw[hT,zba];obtain⟨t,ht,b⟩:=ab d;rw[ht,zba];obtain⟨x,hx,g⟩:=ab b;rw[hx,zba];have e:=op x;cases t<;>simp only[e] at g ⊢<;>first|(cases g;done)|exact g|skip
   cases hy:s.opA x<;>rw[hy] at g<;>simp only[AV.asList,BR s'.ob s.ob] at g ⊢<;>first|exact g|skip
   all_goals grind
  ·simp_all [qv,op]
  ·simp_all [qv,op]
end
section
variable{P:Program}{E:Env}{w0:Root}{ops:Array Oper}
def tZ(n id:Nat)(b:Ob)(a:Array Bool)(s:St):St:=if a.getD n false then s.setOb id (some b) else s
theorem Sm.setOb(s:St)(id:Nat)(o:Option Ob):Sm s (s.setOb id o):=⟨rfl,rfl,rfl,rfl⟩
theorem mP(hE:EnvOk P E){n g id T p x:Nat}{u t t':Ty}{v0 v1:AV}{L:Array Bool->St->Prop}{Q:Exit->Act->World->Prop}{s0:St}{S0:Nat->Nat->Prop}{γ0:Nat->Option Nat}{a0:Act}{w1:World}
  (hn:ops[n]?=some B) (V:B.op=.store T (.tmp p) (.tmp x)) (m:B.dst=none) (O:B.guard=none)
  (hp:∀ (j:Nat) (k:Oper),ops[j]?=some k->k.dst=some p->Region.waitsFor .any ops n j=true) (hx:∀ (j:Nat) (k:Oper),ops[j]?=some k->k.dst=some x->Region.waitsFor .any ops n j=true)
  (l:∀ (j:Nat) (k:Oper),j<n->ops[j]?=some k->k.guard=none)
  (hT:E.L T=some t) (N:E.fnT T=false) (W:t.beq t'=true) (M:AV.fits t v1=true) (U:s0.lkO.contains id=false) (r:s0.ob id=some (.one u v0))
  (hd:∀ (i j:Nat) (oi k:Oper),i≠j->ops[i]?=some oi->ops[j]?=some k->∀ d,k.dst=some d->oi.dst≠some d)
  (I:∀ b s,L b s->s.tm p=.ptr t' id []/\s.tm x=v1/\b.getD n false=true)
  (hL:∀ b s S γ β a w,Rp w0 S γ β (s.setOb id (some (.one u v1))) a w->Fm s0 S0 γ0 a0 w1 S γ a w->Sm s0 s->(∀ j k,ops[j]?=some k->b.getD j true=false->Fr E (s.setOb id (some (.one u v1))) γ β k)->L b s->wpAnyIn (FW ro) nn P .any ops Q g b a w) :
  ∀ (f:Nat) (b:Array Bool) (s:St) (S:Nat->Nat->Prop) (γ:Nat->Option Nat) (β:Nat->Option (Nat×Nat)) (a:Act) (w:World),Rp w0 S γ β (tZ n id (.one u v1) b s) a w->Fm s0 S0 γ0 a0 w1 S γ a w->Sm s0 s->s.ob=s0.ob ->
   (b.getD n false=true->∀ j,Region.waitsFor .any ops n j=true->b.getD j false=true) ->
   (∀ j k,ops[j]?=some k->b.getD j true=false->Fr E (tZ n id (.one u v1) b s) γ β k)->wU (pz E ops n id) .any ops (n+1) L f b s->wpAnyIn (FW ro) nn P .any ops Q (f+g) b a w
 | 0,b,s,S,γ,β,a,w,h,hF,J,D,Z,A,hh=>by rw[zbb];have bh:L b s:=hh;grind [tZ]
 | f+1,b,s,S,γ,β,a,w,h,hF,J,D,Z,A,hh=>by
  rw[show f+1+g=(f+g)+1 by omega]
  refine⟨λh0=>zgb h0 hh.1,λi hi=>?_⟩;obtain⟨bj,c⟩:=hh.2 i hi;have H:=(mem_ready.1 hi).1;have ax:∀ j,(b.setIfInBounds i true).getD j true=false->i≠j/\b.getD j true=false:=λj hu=>by
   by_cases C:i=j
   ·subst C;exfalso;rcases zua i b.size with al|ad
    ·simp[Array.getD,al] at hu
    ·simp[Array.getD,zPc.2 ad] at hu
   ·rw[getD_set_ne true C] at hu;exact⟨C,hu⟩
  by_cases hni:i=n
  ·
   subst hni;have a8:=getD_both H;have ba:i<b.size:=by
    rcases zua i b.size with al|ad
    ·exact al
    ·simp[Array.getD,zPc.2 ad] at H
   have e0:tZ i id (.one u v1) b s=s:=by unfold tZ;rw[a8];rfl
   rw[e0] at h;unfold xI at c;rw[hn] at c;simp only at c;obtain⟨v,y,c⟩:=c;rw[m] at c;have c:wU (pz E ops i id) .any ops (i+1) L f (b.setIfInBounds i true) s:=c;obtain⟨_,o',a4,z⟩:=mem_ready.1 hi;rw[hn] at a4;cases a4;obtain⟨l',s',m1,G,m3,m4⟩:=zh (T:=[p,x]) f _ _ c (λt ht j k R hu=>by
    simp only[zOa,zkc,or_false] at ht;intro K;have hw:Region.waitsFor .any ops i j=true:=by
     rcases ht with rfl|rfl
     ·exact hp j k R K
     ·exact hx j k R K
    obtain⟨ow,F,e,he,hb,an⟩:=Region.waitsFor_spec hw;rw[hn] at F;cases F;have h1:=z e he hb;rw[an] at h1;obtain⟨_,b0⟩:=ax j hu;rw[getD_both b0] at h1;cases h1)
   obtain⟨z1,z2,z3⟩:=I _ _ m1;rw[G p j2] at z1
   rw[G x j2] at z2
   have a5:s.ob id=some (.one u v0):=by rw[D];exact r
   have a3:s.lkO.contains id=false:=by rw[J.lkO];exact U
   have a7:vr E s B some=some (s.setOb id (some (.one u v1))):=by unfold vr;rw[V];simp only[hT,N,cond_false,zba,St.opA,z1,z2,W,M,a3,a5,zXb,Bool.and_true,if_true,FN]
   obtain⟨s1,k1,k2⟩:=ES hE h (e0 ▸ A i B hn H) (λT t _ ht=>hE.flat T t ht) (λt _=>by rw[m];simp) (λ_ _ _ _=>m) a7
   cases k1;obtain⟨r1,r2,r3,r4,r5,r6⟩:=k2;unfold wpOpIn;rw[hn];simp only;rw[zla (by simp[Region.wanted,O])]
   refine(bI r6 λval w' ⟨S',γ',β',m1,G,m3⟩=>?_);have el:tZ i id (.one u v1) (b.setIfInBounds i true) s=s.setOb id (some (.one u v1)):=by unfold tZ;rw[zla (by simp[ba])]
   refine mP hE hn V m O hp hx l hT N W M U r hd I hL f _ s S' γ' β' _ _ (by rw[el];exact m1) (hF.trans G J.lkS J.lkO) J D (λ_ j hw=>?_) (λj k R hu=>?_) c
   ·obtain⟨ow,F,e,he,hb,an⟩:=Region.waitsFor_spec hw;rw[hn] at F;cases F;have h1:=z e he hb;rw[an] at h1;exact getD_set_true h1
   ·rw[el];obtain⟨_,b0⟩:=ax j hu;exact(e0 ▸ A j k R b0:Fr E s γ β k).keep (λd _=>by rw[m];simp) rfl (λq h1 h2=>r5 q h1 h2) m3
  ·
   have aO:i<n:=u0
   obtain⟨_,o,ho,z⟩:=mem_ready.1 hi;unfold xI at c;rw[ho] at c;simp only at c;obtain⟨v,y,c⟩:=c;unfold pz at y;rw[zia hni] at y;unfold w6 at y;rw[ho] at y;simp only at y;split at y<;>try(cases y;done)
   rename_i a2;have a9:=l i o aO ho;have a1:pA (tZ n id (.one u v1) b s) o=pA s o:=by unfold tZ;split<;>rfl
   have a6:val E ops (tZ n id (.one u v1) b s) o=some v:=by
    unfold val;rw[a1,zia a2,a9];simp only;split at y
    ·rename_i hw;have:b.getD n false=false:=by
      cases hln:b.getD n false with
      | false=>rfl
      | true=> have:=Z hln i hw;rw[getD_both H] at this;cases this
     have e:tZ n id (.one u v1) b s=s:=by unfold tZ;rw[this];rfl
     rw[e];exact y
    ·split at y<;>try(cases y;done)
     rename_i hk;refine IF (s:=s.setOb id none) (id:=id) ?_ ?_ (λj R=>?_) ?_ hk y
     ·unfold tZ;split<;>rfl
     ·unfold tZ;split<;>rfl
     ·unfold tZ;split<;>simp[St.setOb,R]
     ·simp[St.setOb]
   have el:(tZ n id (.one u v1) b s).put o.dst v=tZ n id (.one u v1) (b.setIfInBounds i true) (s.put o.dst v):=by
    unfold tZ;rw[getD_set_ne false hni];split
    ·rw[zU]
    ·rfl
   obtain⟨k1,k2⟩:=Gd hE h (A i o ho H) a6;have pf:=ak5 s o.dst v;have X:Sm s0 (tZ n id (.one u v1) b s):=by
    unfold tZ;split
    ·exact J.trans (Sm.setOb s id _)
    ·exact J
   have pl:=ak5 (tZ n id (.one u v1) b s) o.dst v;have aI:∀ {γ':Nat->Option Nat} {β':Nat->Option (Nat×Nat)},(∀ q:Nat,o.dst≠some (q-(tZ n id (.one u v1) b s).base)\/q<(tZ n id (.one u v1) b s).base->γ' q=γ q/\β' q=β q)->∀ j k,ops[j]?=some k->(b.setIfInBounds i true).getD j true=false->Fr E (tZ n id (.one u v1) (b.setIfInBounds i true) (s.put o.dst v)) γ' β' k:=λhk j k R hu=>by obtain⟨C,b0⟩:=ax j hu;rw[<-el];exact(A j k R b0).keep (λd K=>hd i j o k C ho R d K) pl.2.1 (λq _ _=>by rw[pl.1]) hk
   have Y:(b.setIfInBounds i true).getD n false=true->∀ j,Region.waitsFor .any ops n j=true->(b.setIfInBounds i true).getD j false=true:=λh1 j hw=>by rw[getD_set_ne false hni] at h1;exact getD_set_true (Z h1 j hw)
   unfold wpOpIn;rw[ho];simp only;split
   ·rename_i hw;refine(bI (k1 hw) λu' w' ⟨S',γ',β',m1,G,m3⟩=>?_);exact mP hE hn V m O hp hx l hT N W M U r hd I hL f _ _ S' γ' β' _ _ (el ▸ m1) (hF.trans G X.lkS X.lkO) (J.trans (Sm.put s o.dst v)) (pf.1.trans D) Y (aI m3) c
   ·rename_i hw;obtain⟨m1,G⟩:=k2 (by simpa using hw)
    refine⟨λ_ _=>trivial,?_⟩;exact mP hE hn V m O hp hx l hT N W M U r hd I hL f _ _ S γ β _ _ (el ▸ m1) (hF.trans G X.lkS X.lkO) (J.trans (Sm.put s o.dst v)) (pf.1.trans D) Y (aI λid _=>⟨rfl,rfl⟩) c
theorem xv(hE:EnvOk P E){id:Nat}{n:Nat}{Q:Exit->Act->World->Prop}{S:Nat->Nat->Prop}{γ:Nat->Option Nat}{β:Nat->Option (Nat×Nat)}{s:St}{a:Act}{w:World}{R:Type}{k:St->Option R}{r:R}{N:Nat}
  (h:Rp w0 S γ β s a w) (hf:JM E s γ β ops.toList) (hm:cV ops.toList=true) (I:wZ ops n=true) {an:Ann}
  (a1:UU E ops n (mz ops n s) n 0 s (λs2=>if wX ops n s2=some (mz ops n s) then fV E N R ops an ((be 0 ops.toList).drop n) s2 k else none)=some r)
  (hQ:∀ s' S' γ' β' a' w',Rp w0 S' γ' β' s' a' w'->Fm s S γ a w S' γ' a' w'->Sk s s'->k s'=some r->Q .normal a' w'):(Code.region id ops true).wpIn (FW ro) nn P Q a w:=by
 simp only[cV,X] at hm;obtain⟨⟨a9,cd⟩,b2⟩:=hm;have W:=b2;unfold wZ at I;split at I<;>try(cases I;done)
 rename_i f hn;split at I<;>try(cases I;done)
 rename_i T p x Y;obtain⟨z,hid⟩:∃ z,mz ops n s=z:=⟨_,rfl⟩;rw[hid] at a1;simp only[X] at I;obtain⟨⟨⟨⟨⟨l2,l3⟩,l4⟩,l5⟩,l6⟩,l7⟩:=I;have bh:=(zpa.1 hn).1;have cf:=zyc.2 (zwc hn);have O:f.dst=none:=by grind
 have bl:∀ (j:Nat) (q:Oper),ops[j]?=some q->(q.dst=some p\/q.dst=some x)->Region.waitsFor .any ops n j=true:=λj q C e=>by grind
 have hp:∀ (j:Nat) (q:Oper),ops[j]?=some q->q.dst=some p->Region.waitsFor .any ops n j=true:=λj q C e=>bl j q C (.inl e);have hx:∀ (j:Nat) (q:Oper),ops[j]?=some q->q.dst=some x->Region.waitsFor .any ops n j=true:=λj q C e=>bl j q C (.inr e);have b0:∀ (j:Nat) (q:Oper),j<n->ops[j]?=some q->q.guard=none:=λj q bY C=>by
  have b1:q∈ops.toList.take n:=by refine zeb (i:=j) ?_;rw[zNb bY,zQa];exact C
  have:=zya.1 l3 q b1;simp only[X] at this;simpa using this.2
 have J:∀ o∈ops.toList.drop n,o.guard=none:=λo ho=>by have:=zya.1 l4 o ho;simp only[X] at this;simpa using this.1
 have ax:ops.toList.drop n=f::ops.toList.drop (n+1):=by
  have h1:n<ops.toList.length:=by simpa using bh
  rw[zob h1];have:ops.toList[n]=f:=by have:=(zpa.1 hn).2;simpa using this
  rw[this]
 have a5:=J f (by rw[ax];simp)
 obtain⟨s',q1,D⟩:=G4 n 0 s u0 a1
 split at D<;>try(cases D;done)
 rename_i c0;obtain⟨t0,U,b7⟩:∃ t0,s'.tm p=.ptr t0 z []/\¬ t0.beq .fn=true:=by
  unfold wX at c0;simp only[hn,Y] at c0;split at c0<;>try(cases c0;done)
  rename_i t0 ch b5;split at c0<;>try(cases c0;done)
  rename_i L;cases c0;exact⟨t0,b5,L⟩
 have al:(be 0 ops.toList).drop n=(n,f)::(be 0 ops.toList).drop (n+1):=by
  have h1:n<(be 0 ops.toList).length:=by rw[iU];simpa using bh
  rw[zob h1];have key:∀ (l:List Oper) (i j:Nat) (o:Oper),l[j]?=some o->(be i l)[j]?=some (i+j,o):=by
   intro l
   induction l with
   | nil=>intro i j o C;simp at C
   | cons c1 l ih=>
    intro i j o C;cases j with
    | zero=>simp at C;subst C;simp[be]
    | succ j=>simp only[znb] at C;simp only[be,znb];rw[ih (i+1) j o C];congr 2;omega
  have:=key ops.toList 0 n f (by rw[zQa];exact hn)
  rw[zda h1,zbb] at this;rw[Option.some.inj this]
 rw[al] at D;obtain⟨N',hN⟩:∃ N',N=N'+1:=by
  cases N with
  | zero=>simp[fV] at D
  | succ N'=>exact⟨N',rfl⟩
 subst hN;have bm:um n ((be 0 ops.toList).drop (n+1))=false:=by
  unfold um;split
  ·rename_i p' l' hl;have ba:p'.2∈ops.toList.drop n:=by
    have h1:p'∈(be 0 ops.toList).drop n:=by rw[al,hl];simp
    have:p'.2∈((be 0 ops.toList).drop n).map Prod.snd:=zbc h1
    rwa [zRc,bu] at this
   unfold zj;rw[J _ ba]
  ·rfl
 have ad:mW E f=false:=by unfold mW;rw[Y]
 have b4:vC E f an=an:=by simp[vC,ad]
 have a4:∀ (l:List (Nat×Oper)) (s:St) (K:St->Option R),ET E an l s f K=vr E s f K:=λl s K=>by simp[ET,ad]
 have b6:∀ s,nY E s n f ((be 0 ops.toList).drop (n+1))=false:=λs=>by simp[nY,bm]
 simp only[fV,a5,b6,b4,a4,zHa,if_false] at D;have a8:pA s' f=false:=by unfold pA;rw[O]
 rw[zia (by rw[a8];simp)] at D
 unfold vr at D;rw[Y] at D;simp only at D;have keep:∀ (c kk:Nat) (s s':St),oV (pz E ops n z) ops c kk s=some s'->s'.ob=s.ob/\Sm s s':=by
  intro c
  induction c with
  | zero=>intro kk s s' hs;simp only[oV,zca] at hs;subst hs;exact⟨rfl,Sm.refl s⟩
  | succ c ih=> intro kk s s' hs;simp only[oV] at hs;obtain⟨v,h1,h2⟩:=ab hs;obtain⟨G,m3⟩:=ih _ _ _ h2;have pf:=ak5 s ((ops[kk]?).bind (·.dst)) v;exact⟨G.trans pf.1,(Sm.put s _ v).trans m3⟩
 obtain⟨c2,c3⟩:=keep n 0 s s' q1;cases hfn:E.fnT T with
 | true=>
  rw[hfn,show s'.opA (.tmp p)=.ptr t0 z [] from U] at D;simp only[cond_true] at D;split at D<;>try(cases D;done)
  rename_i e;cases e;exact zgb rfl b7
 | false=>
 rw[hfn] at D;simp only[cond_false] at D;obtain⟨t,hT,Z⟩:=ab D;rw[show s'.opA (.tmp p)=.ptr t0 z [] from U] at Z;simp only at Z;split at Z<;>try(cases Z;done)
 rename_i M;simp only[X,zEa] at M;obtain⟨⟨d1,d2⟩,d3⟩:=M;split at Z<;>try(cases Z;done)
 ·rename_i u v0 bj;obtain⟨v1,bs⟩:∃ v1,s'.opA (.tmp x)=v1:=⟨_,rfl⟩;rw[bs] at Z d2;have q4:fV E N' R ops an ((be 0 ops.toList).drop (n+1)) (s'.setOb z (some (.one u v1))) k=some r:=by
   cases v0<;>simpa only[FN] using Z
  clear Z D;have hW:pg .any ops (n+1):=by
   intro m i inv bz b8 t ht hr;simp only[zFb,zea,X] at l7;rcases l7 with l7|⟨⟨l7,l8⟩,l9⟩
   ·obtain⟨_,o,ho,_⟩:=mem_ready.1 hr;have:=(zpa.1 ho).1;omega
   ·exact tail_waits l8 l9 l7 inv _ i rfl bz b8 t ht hr
  refine wpIn_region_any hE.mixed ?_;have hg:∃ os d,w.drawn<=d/\({ w with drawn:=w.drawn+1 }:World)=grown w os d:=⟨[],w.drawn+1,zHc _,by simp[grown]⟩
  obtain⟨os,d,bv,hg⟩:=hg;obtain⟨g1,g2⟩:=h.grow (os:=os) (d:=d) bv (S':=S) (λ_ _ L=>L) (λ_ _ L=>.inl L);rw[hg];have bt:HeadInv .any ops (n+1) (Array.replicate ops.size false):=
   ⟨j2,λj q _ hl=>(by rw[getD_replicate_false] at hl;cases hl),λt _ ht=>getD_in (by simpa using ht) (getD_replicate_false _ _)⟩
  have V:oV (pz E ops n z) ops (n+1) 0 s=some s':=by rw[DZ n 1 0,q1,zba];simp only[oV,pz,zbb,if_true,zba,hn,O];rfl
  have H:=zi (sF:=s') (Mc (E:=E) (ops:=ops) n z) u0 hW (n+1) 0 (Array.replicate ops.size false) s u0 bt (λi hi=>u0) l6 V
  have e0:tZ n z (.one u v1) (Array.replicate ops.size false) s=s:=by unfold tZ;rw[getD_replicate_false];rfl
  have aO:(ops.toList.drop (n+1)).length=ops.size-(n+1):=j2
  have aI:∀ j q,ops[j]?=some q->(Array.replicate ops.size false).getD j true=false->Fr E (tZ n z (.one u v1) (Array.replicate ops.size false) s) γ β q:=λj q C _=>by rw[e0];exact hf q (zyc.2 (zwc C))
  have:=mP (ro:=ro) (nn:=nn) (w0:=w0) (Q:=Q) (g:=ops.size-(n+1)) (s0:=s) (S0:=S) (γ0:=γ) (a0:=a) (w1:=grown w os d) hE hn Y O a5 hp hx b0 hT hfn d1 d2 (by rw[<-c3.lkO];exact d3) (by rw[<-c2];exact bj) (λi j oi q bx hi C d hd=>kK a9 bx (by rw[zQa];exact hi) (by rw[zQa];exact C) d hd)
   (λm s2 hL=>by obtain⟨_,hl,rfl⟩:=hL;exact⟨U,bs,hl n u0⟩)
   (λm s2 S2 γ2 β2 a2 w2 m1 G m3 m4 m5=>by
    obtain⟨m5,m6,m7⟩:=m5;subst m7;have V:=kr (F:=FW ro) (n:=nn) (P:=P) (md:=.any) (ops:=ops) (Q':=Q) (ops.toList.drop (n+1)) (n+1) m a2 w2 (λj=>by rw[zDb,zQa]) (by rw[aO];exact m5) ?_
    ·rwa [aO] at V
    have bp:∀ j q,ops[j]?=some q->n+1<=j->m.getD j true=false:=by
     intro j q C b3;have key:∀ (g k:Nat) (m:Array Bool),Region.seqB .any ops g k m=true->∀ j,k<=j->j<k+g->m.getD j true=false:=by
      intro g
      induction g with
      | zero=>intro k m _ j h1 h2;omega
      | succ g ih=>
       intro k m hB j h1 h2;simp only[Region.seqB,X,zea] at hB;by_cases a7:j=k
       ·subst a7;have:j∈Region.ready .any ops m:=by rw[hB.1];simp
        exact(mem_ready.1 this).1
       ·have:=ih (k+1) _ hB.2 j u0 u0
        rwa [getD_set_ne true (Ne.symm a7)] at this
     have b9:=(zpa.1 C).1;exact key _ _ _ m5 j b3 u0
    have fin:=AN (ro:=ro) (nn:=nn) (ops:=ops) hE (Q:=Q) W N' R ((be 0 ops.toList).drop (n+1)) k r an m1 (by
      rw[zRc,bu];intro o ho;obtain⟨i,hi,he⟩:=z3a ho;have a6:ops[n+1+i]?=some o:=by
       have:(ops.toList.drop (n+1))[i]?=some o:=by rw[zda hi,he]
       rwa [zDb,zQa] at this
      exact m4 (n+1+i) o a6 (bp _ _ a6 u0))
     (by rw[zRc,bu];intro A B o o' e ho d hd;exact gm a9 (ops.toList.take (n+1)++A) B o o' (by rw[zMa,<-e,zza]) ho d hd)
     (λp hp=>mD (z7b hp)) q4 (λs3 y γ3 β3 a3 w3 n1 n2 n3 n4=>by
      refine hQ s3 y γ3 β3 a3 w3 n1 ?_ (Sk.trans (m3.trans (Sm.setOb _ z (some (.one u v1)))).sk n3) n4;have f0:Fm s S γ a w S γ a (grown w os d):=⟨λ_ _ L=>L,g2.cell,λ_ _=>rfl,λid hid b L=>⟨L,.inl (dK (h.γn id b L).2)⟩,j2,λ_ _ L=>L,me.same rfl dM.grown⟩
      exact(f0.trans G rfl rfl).trans n2 (show _=_ from m3.lkS) (show _=_ from m3.lkO))
    rwa [zRc,bu] at fin)
   (n+1) (Array.replicate ops.size false) s S γ β a (grown w os d) (by rw[e0];exact g1) (Fm.refl _ _ _ _ _) (Sm.refl s) rfl (λhl=>by rw[getD_replicate_false] at hl;cases hl) aI H
  rw[show n+1+(ops.size-(n+1))=ops.size by omega] at this
  exact this
end
end
section
variable{Q:Exit->Act->World->Prop}{N:Nat}{S:Nat->Nat->Prop}{γ:Nat->Option Nat}{β:Nat->Option (Nat×Nat)}{a:Act}{f:Array Bool}
variable{ro:Option Nat}{nn:Nat}
section
variable{ops:Array Oper}
theorem oR:∀ n,(xV ops n).length=n
 | 0=>rfl
 | n+1=>by simp[xV,oR n]
def uu(ops:Array Oper)(t:Nat):Nat:=match ops[t]? with
 | some o=>o.after.toList.foldl (λm e=>if Region.binds .any e&&decide (e.on<t) then(m ||| 2^e.on) ||| (xV ops t).getD e.on 0 else m) 0
 | none=>0
theorem oQ{t:Nat}:∀ {n:Nat},t<n->(xV ops n).getD t 0=uu ops t
 | 0,h=>u0
 | n+1,h=>by
  show(xV ops n++[uu ops n]).getD t 0=_;by_cases e:t=n
  ·subst e;rw[zDa,zRb (by rw[oR];exact zja _),oR,zyd]
   rfl
  ·rw[zDa,zab (by rw[oR];omega),<-zDa]
   exact oQ u0
theorem zd{t i:Nat}{l:List Nat}:∀ (es:List Edge) (m:Nat),Nat.testBit (es.foldl (λm e=>if Region.binds .any e&&decide (e.on<t) then(m ||| 2^e.on) ||| l.getD e.on 0 else m) m) i=true ->
  Nat.testBit m i=true\/∃ e∈es,Region.binds .any e=true/\e.on<t/\(e.on=i\/Nat.testBit (l.getD e.on 0) i=true)
 | [],m,h=>.inl h
 | e::es,m,h=>by
  simp only[zzc] at h;rcases zd es _ h with k|⟨a,h1,b⟩
  ·grind
  ·grind
theorem mO(b:∀ j a,ops[j]?=some a->f.getD j false=true->∀ e∈a.after,Region.binds .any e=true->f.getD e.on false=true) :
  ∀ (t:Nat) (o:Oper),ops[t]?=some o->(∀ e∈o.after,Region.binds .any e=true->f.getD e.on false=true)->∀ i,Nat.testBit (uu ops t) i=true->f.getD i false=true:=by
 intro t
 induction t using Nat.strongRecOn with
 | _ t ih=>
  intro o c l i hi;unfold uu at hi;rw[c] at hi;simp only at hi;rcases zd _ _ hi with k|⟨e,h1,d,g,h⟩
  ·simp at k
  ·grind [oQ]
end
section
variable{E:Env}{ops:Array Oper}
theorem pD{i:Nat}{o:Oper}:∀ (f a:Nat),nV E ops i o f a=true->∀ j b,a<=j->j<a+f->(∀ q c,a<=q->q<=j->ops[q]?=some c->lq E c=true)->ops[j]?=some b->(∀ e∈b.after,Region.binds .any e=true->e.on≠i)->o.apart ops b=true
 | 0,a,_,j,b,h1,k,_,_,_=>u0
 | f+1,a,h,j,b,h1,k,g,l,m=>by
  have d:a<ops.size:=s6
  have h0:=zJb d;simp only[nV,h0] at h;rw[zla (g a _ (zja _) h1 h0)] at h;simp only[X,zFb] at h;by_cases e:j=a
  ·grind
  ·exact pD f (a+1) h.2 j b u0 u0 (λq c q1 n=>g q c u0 n) l m
def lP(h:jz E ops=true){i:Nat}{o:Oper}(d:ops[i]?=some o) :
  (∀ e∈o.after,Region.binds .any e=true->e.on<i)/\(lq E o=true->nV E ops i o ops.size (i+1)=true) ∧
  (lq E o=false->(∀ j,j<i->Nat.testBit (uu ops i) j=true)/\∀ j,i<j->j<ops.size->Nat.testBit (uu ops j) i=true):=by
 have hi:=(zpa.1 d).1;simp only[jz,zya,zRa] at h;have h1:=h i hi;rw[d] at h1;simp only[X,zya,zFb,zEa,zea] at h1;refine⟨λe he f=>?_,λhc=>?_,λhc=>⟨λj c=>?_,λj c b=>?_⟩⟩
 ·rcases h1.1 e (by simpa using he) with k|k
  ·rw[f] at k;cases k
  ·exact k
 ·have:=h1.2;rw[zla hc] at this;exact this
 ·have:=h1.2;rw[zia (by simp[hc])] at this
  simp only[zya,zRa] at this;have a:=this j u0
  rw[zla c,oQ hi] at a;exact a
 ·have:=h1.2;rw[zia (by simp[hc])] at this
  simp only[zya,zRa] at this;have a:=this j b;rw[zia u0,oQ b] at a
  simp only[zFb,zea] at a;rcases a with a|a
  ·omega
  ·exact a
structure Full(ops:Array Oper)(k:Nat)(listed:Array Bool):Prop where
 size:listed.size=ops.size
 done:∀ j,j<k->j<ops.size->listed.getD j false=true
 rest:∀ j,k<=j->j<ops.size->listed.getD j true=false
def Full.set{k:Nat}(h:Full ops k f)(hk:k<ops.size):Full ops (k+1) (f.setIfInBounds k true):=by
 refine⟨by simp[h.size],λj b a=>?_,λj b a=>?_⟩
 ·by_cases e:j=k
  ·simp_all [h.size]
  ·exact getD_set_true (h.done j u0 a)
 ·rw[getD_set_ne true u0];exact h.rest j u0 a
def Full.inv{k n:Nat}(g:jz E ops=true)(h:Full ops k f)(d:k<=n):HeadInv .any ops n f:=by
 refine⟨h.size,λj i b hl e he c=>?_,λt ht a=>h.rest t u0 a⟩
 have a:=(zpa.1 b).1;have h1:=(lP g b).1 e he c;rcases zua j k with hk|hk
 ·exact h.done e.on u0 u0
 ·have:=getD_both (h.rest j hk a)
  simp_all
theorem Full.ready{k:Nat}(b:jz E ops=true)(h:Full ops k f)(hk:k<ops.size):k∈Region.ready .any ops f:=
 mem_ready.2 ⟨h.rest k (zja _) hk,_,zJb hk,λe he a=>by have:=(lP b (zJb hk)).1 e he a;exact h.done e.on this u0⟩
theorem Full.later{k:Nat}(h:Full ops k f):∀ j∈Region.ready .any ops f,k<=j:=by
 intro j b;obtain⟨d,o,c,_⟩:=mem_ready.1 b;have a:=(zpa.1 c).1;rcases zua j k with hk|hk
 ·have:=h.done j hk a;grind
 ·exact hk
theorem JG(m:jz E ops=true){n:Nat}{o:Oper}(k:ops[n]?=some o)(hc:lq E o=false):pg .any ops n:=by
 intro d i inv f p t ht g;have hn:=(zpa.1 k).1;obtain⟨_,l,b,a⟩:=mem_ready.1 g;have c:=(zpa.1 b).1;have j:=(lP m k).2.2 hc;rcases zua n t with h|h
 ·have h1:=mO inv.closed t l b a n (j.2 t h c);have q:=inv.tail n (zja _) hn;grind
 ·have e:t=n:=u0
  subst e;have h1:=mO inv.closed t l b a i (j.1 i f);grind
def JH:pg .any ops ops.size:=λa i _ _ _ t ht b=>by
 obtain⟨_,d,c,_⟩:=mem_ready.1 b
 simp_all
theorem MF(g:jz E ops=true){k:Nat}{o:Oper}(h:Full ops k f)(i:ops[k]?=some o)(hc:lq E o=false):∀ j∈Region.ready .any ops f,j=k:=by
 intro j e;have h1:=h.later j e;obtain⟨_,l,b,a⟩:=mem_ready.1 e;have c:=(zpa.1 b).1;rcases zua k j with d|d
 ·exfalso;have m:=mO (h.inv g (zja _)).closed j l b a k (((lP g i).2.2 hc).2 j d c);have n:=h.rest k (zja _) u0
  grind
 ·omega
def kf(E:Env)(ops:Array Oper):Nat->Nat->Nat
 | 0,k=>k
 | f+1,k=>match ops[k]? with
  | some o=>if lq E o then kf E ops f (k+1) else k
  | none=>k
theorem uR:∀ (f k:Nat),k+f=ops.size->k<=kf E ops f k/\kf E ops f k<=ops.size/\(∀ j a,k<=j->j<kf E ops f k->ops[j]?=some a->lq E a=true)/\(kf E ops f k=ops.size\/∃ o,ops[kf E ops f k]?=some o/\lq E o=false)
 | 0,k,h=>⟨zja _,by simp only[kf];omega,λj a h1 b=>by simp only[kf] at b;omega,.inl (by simpa [kf] using h)⟩
 | f+1,k,h=>by
  have hk:k<ops.size:=u0
  have h0:=zJb hk;simp only[kf,h0];split
  ·rename_i hc;obtain⟨q1,c,d,e⟩:=uR f (k+1) u0
   all_goals grind
  ·grind
theorem CX(p:jz E ops=true){n:Nat}{L:Array Bool->St->Prop}(w:pg .any ops n)(c:∀ a s,L a s->∀ j∈Region.ready .any ops a,n<=j)(hn:n<=ops.size) :
  ∀ (l:List Oper) (k:Nat) (a:Array Bool) (s s':St),(∀ j,j<l.length->l[j]?=ops[k+j]?)->k+l.length=n->Full ops k a->(∀ j g,k<=j->j<n->ops[j]?=some g->lq E g=true) ->
  seqV E ops l s=some s'->(∀ b,Full ops n b->L b s')->Ix E .any ops n L l.length a s
 | [],k,a,s,s',_,hk,f,_,h,hL=>by
  have:k=n:=by simpa using hk
  subst this;simp only[seqV,zca] at h;subst h;exact hL a f
 | o::l,k,a,s,s',hl,hk,f,d,h,hL=>by
  have h0:ops[k]?=some o:=by simpa using(hl 0 j2).symm
  have e:k<n:=s6
  have m:k<ops.size:=u0
  simp only[seqV] at h;obtain⟨v,h1,x⟩:=ab h;refine wV h0 w e c l.length a s (f.inv p (zIc e)) (λj g y r A B t=>?_) (f.ready p m) h1
   (CX p w c hn l (k+1) _ _ s' (λj r=>by have:=hl (j+1) (by simp;omega);simpa [zLb,zgc 1 j] using this) (by simp only[zPa] at hk;omega) (f.set m) (λj g h1=>d j g u0) x hL)
  have i:=(zpa.1 r).1;have z:k<j:=by
   rcases zua j k with u|u
   ·have:=f.done j u i;grind
   ·omega
  exact pD ops.size (k+1) ((lP p h0).2.1 (d k o (zja _) e h0)) j g u0 u0 (λq C q1 D=>d q C u0 u0) r t
end
section
variable{P:Program}{E:Env}{w0:Root}{ops:Array Oper}
def LF(a0:EnvOk P E){R:Type}{i:Nat}{o:Oper}{l:List (Nat×Oper)}{s:St}{w:World}{k:St->Option R}{r:R}{an:Ann}
  (h:Rp w0 S γ β s a w) (M:∀ T x y,o.op=.store T x y->o.dst=none) (U:Fr E s γ β o) (C:JM E s γ β (l.map Prod.snd)) (O:∀ o'∈l.map Prod.snd,∀ d,o'.dst=some d->o.dst≠some d) (L:o.guard=none->nY E s i o l=false)
  (b:fV E (N+1) R ops an ((i,o)::l) s k=some r) {next:Act->World->Prop} 
  (hk:∀ u H s' S' γ' β' w',fV E N R ops H l s' k=some r->Rp w0 S' γ' β' s' (a.put o.dst u) w'->Fm s S γ a w S' γ' (a.put o.dst u) w'->Sk s s'->JM E s' γ' β' (l.map Prod.snd)->next (a.put o.dst u) w') :
  if Region.wanted o (yielded ops a.tmps) then o.wpIn (FW ro) nn P a w next Q else(∀ f,o.about P w a.eval=some f->(FW ro).fn f)/\next (a.put o.dst undef) w:=by
 have run:¬ pA s o=true->ET E an l s o (λs'=>fV E N R ops (vC E o an) l s' k)=some r->o.wpIn (FW ro) nn P a w next Q:=by
  intro q he;have m:∀ t∈s.lkS,o.dst≠some t:=λt ht e=>q (by simp[pA,e];exact ht)
  unfold ET at he;split at he
  ·split at he;rename_i I;refine AM (K:=λs1=>fV E N R ops (vC E o an) l s1 k) a0 h m he λu s' S' γ' β' w' m0 m1 G m3=>?_;exact hk u _ s' S' γ' β' w' m0 m1 G m3 λo' n=>by
    obtain⟨p,hp,rfl⟩:=zmb.1 n;have:=zya.1 I p hp;exact Gk (by simpa using this)
   split at he<;>try(cases he;done)
   rename_i J;refine AM (K:=λs1=>fV E N R ops (vC E o an) l (gX E (l.map Prod.snd) (yg s1)) k) a0 h m he λu s' S' γ' β' w' m0 m1 G m3=>?_;obtain⟨q1,W,X⟩:=GB (E:=E) m1 J C;exact hk u _ _ S' γ' β' w' m0 q1 G (m3.trans W) X
  obtain⟨s',h1,z⟩:=ES a0 h U (λT t _ ht=>a0.flat T t ht) m M he;obtain⟨f1,f2,f3,f4,f5,f6⟩:=z;refine bI f6 λu w' ⟨S',γ',β',m1,G,m3⟩=>?_;exact hk u _ s' S' γ' β' w' h1 m1 G ⟨f1,f2,f4⟩ λo' n=>(C o' n).keep (O o' n) f3 f5 m3
 obtain⟨w1,Y,Z⟩:=uv (ops:=ops) (o:=o) h;cases hg:o.guard with
 | some V=>
  obtain⟨j,want⟩:=V;simp only[fV,hg] at b;split at b<;>try(cases b;done)
  rename_i g F;split at b<;>try(cases b;done)
  rename_i q;have m:∀ t∈s.lkS,o.dst≠some t:=λt ht e=>q (by simp[pA,e];exact ht)
  have p:=ak5 s o.dst .gone;have alt:(Region.wanted o (yielded ops a.tmps)=true/\(ET E an l s o λs'=>fV E N R ops (vC E o an) l s' k)=some r)\/(Region.wanted o (yielded ops a.tmps)=false/\fV E N R ops (vC E o an) l (s.put o.dst .gone) k=some r):=by
   by_cases hgo:s.tm g=.gone
   ·rw[hgo,gw] at b;exact .inr ⟨Z j want g hg F hgo,b⟩
   rw[gz hgo] at b;obtain⟨c,h1,z⟩:=ab b;replace z:=nH (A:=λs=>ET E an l s o λs'=>fV E N R ops (vC E o an) l s' k) (B:=λs=>fV E N R ops (vC E o an) l (s.put o.dst .gone) k) h1 z;have hw:=Y j want g c hg F h1;split at z
   ·rename_i hc;exact .inl ⟨by rw[hw];exact hc,z⟩
   ·rename_i hc;exact .inr ⟨by rw[hw];simpa using hc,z⟩
  rcases alt with⟨hw,z⟩|⟨hw,z⟩
  ·rw[zla hw];exact run q z
  ·rw[zia (by simp[hw])]
   refine⟨λ_ _=>trivial,?_⟩;exact hk undef _ _ S γ β w z (h.put (v:=.gone) (val:=undef) (by simp[AR]) o.dst) ⟨λ_ _ D=>D,λ_ _ _=>rfl,λt ht=>ct (m t ht),λ_ _ _ D=>⟨D,kw.refl _ _⟩,zja _,λ_ _ D=>D,me.same ca (dM.refl _)⟩ (Sm.put s o.dst .gone).sk
    λo' n=>(C o' n).keep (O o' n) p.2.1 (λid _ _=>by rw[p.1]) λid _=>⟨rfl,rfl⟩
 | none=>
  rw[zla (w1 hg)];simp only[fV,hg,L hg,zHa,if_false] at b;split at b<;>try(cases b;done)
  rename_i q;exact run q b
theorem nR:∀ (l:List Oper) (i m:Nat),(be i l).drop m=be (i+m) (l.drop m)
 | l,i,0=>j2
 | [],i,m+1=>by simp[be]
 | o::l,i,m+1=>by simp only[be,zZc];rw[nR l (i+1) m,show i+1+m=i+(m+1) by omega]
theorem vc{l:List Oper}{i m:Nat}{p:Nat×Oper}(h:p∈(be i l).take m):∃ j,j<m/\l[j]?=some p.2:=by
 obtain⟨j,c,he⟩:=z3a h;have h1:((be i l).take m)[j]?=some p:=s6
 have a:j<m:=s6
 rw[zNb a] at h1;have b:((be i l).map Prod.snd)[j]?=some p.2:=by rw[z2b,h1];rfl
 grind [bu]
theorem Jj(hE:EnvOk P E)(hr:jz E ops=true)(ad:dw (ops.toList.filterMap (·.dst))=true)(a6:∀ o∈ops.toList,∀ T x b2,o.op=.store T x b2->o.dst=none){R:Type}{k:St->Option R}{r:R} :
  ∀ (g:Nat) (c:Nat) (b:Array Bool) (N:Nat) (an:Ann) {S:Nat->Nat->Prop} {γ:Nat->Option Nat} {β:Nat->Option (Nat×Nat)} {s:St} {a:Act} {w:World},c+g=ops.size->Full ops c b->Rp w0 S γ β s a w ->
   (∀ j b1,ops[j]?=some b1->c<=j->Fr E s γ β b1)->fV E N R ops an (be c (ops.toList.drop c)) s k=some r ->
   (∀ s' S' γ' β' a' w',Rp w0 S' γ' β' s' a' w'->Fm s S γ a w S' γ' a' w'->Sk s s'->k s'=some r->Q .normal a' w')->wpAnyIn (FW ro) nn P .any ops Q g b a w:=by
 intro g
 induction g using Nat.strongRecOn with
 | _ g ih=>
 intro c b N an S γ β s a w a4 U h b0 f hQ;cases g with
 | zero=>
  have hk:c=ops.size:=u0
  subst hk;rw[zqc j2] at f
  cases N with
  | zero=>simp[fV] at f
  | succ N=>
   simp only[be,fV] at f;refine⟨?_,hQ s S γ β a w h (Fm.refl _ _ _ _ _) (Sk.refl s) f⟩;cases hrd:Region.ready .any ops b with
   | nil=>rfl
   | cons j l=>
    exfalso;have t:j∈Region.ready .any ops b:=by rw[hrd];simp
    have h1:=U.later j t;obtain⟨_,o,K,_⟩:=mem_ready.1 t
    simp_all
 | succ g=>
 have M:c<ops.size:=u0
 have K:=zJb M;obtain⟨o,al⟩:∃ o,o=ops[c]:=⟨_,rfl⟩;rw[<-al] at K;clear al;have aO:ops.toList.drop c=o::ops.toList.drop (c+1):=by simp_all [zob]
 cases hc:lq E o with
 | false=>
  refine⟨λh0=>(by have:=U.ready hr M;rw[h0] at this;cases this),λi hi=>?_⟩
  have a1:=MF hr U K hc i hi;subst a1;unfold wpOpIn;rw[K];simp only;rw[aO] at f;simp only[be] at f;cases N with
  | zero=>simp[fV] at f
  | succ N=>
  have J:(be (i+1) (ops.toList.drop (i+1))).map Prod.snd=ops.toList.drop (i+1):=bu _ _;have Y:∀ o'∈ops.toList.drop (i+1),∃ j,i<j/\ops[j]?=some o':=λo' z=>by
   obtain⟨j,t,he⟩:=z3a z;refine⟨i+1+j,u0,?_⟩
   grind
  refine LF hE h (a6 o (zyc.2 (zwc K))) (b0 i o K (zja _)) (λo' z=>?_) (λo' z d W=>?_) (λ_=>?_) f λu ax s' S' γ' β' w' m0 m1 G m3 m4=>?_
  ·grind
  ·rw[J] at z;obtain⟨j,t,D⟩:=Y o' z;exact kK ad (show i≠j by omega) (by rw[zQa];exact K) (by rw[zQa];exact D) d W
  ·cases hsg:nY E s i o (be (i+1) (ops.toList.drop (i+1))) with
   | false=>rfl
   | true=>
    exfalso;simp only[nY,X] at hsg;have I:=hsg.2;split at I<;>try(cases I;done)
    simp only[X,zEa] at I;have h3:lq E o=true:=by simp[lq,I.1.1.1.2,I.1.1.2]
    rw[h3] at hc;cases hc
  ·refine ih g (zXc _) (i+1) _ N ax u0 (U.set M) m1 (λj b1 t Z=>m4 b1 ?_) m0 λs2 S2 γ2 β2 a2 w2 n1 n2 n3 n4=>hQ s2 S2 γ2 β2 a2 w2 n1 (G.trans n2 m3.lkS m3.lkO) (m3.trans n3) n4
   rw[J];refine zeb (i:=j-(i+1)) ?_;rw[zDb,zQa,show i+1+(j-(i+1))=j by omega]
   exact t
 | true=>
  obtain⟨m,hm⟩:∃ m,m=kf E ops (g+1) c:=⟨_,rfl⟩;obtain⟨e1,e2,e3,B⟩:=uR (E:=E) (ops:=ops) (g+1) c a4;rw[<-hm] at e1 e2 e3 B;have a9:c<m:=by
   rcases zua c m with q|q
   ·exact q
   ·exfalso;have:m=c:=u0
    rw[this] at B;rcases B with B|⟨o',q1,A⟩
    ·omega
    ·rw[K] at q1;cases q1;rw[hc] at A;cases A
  have hW:pg .any ops m:=by
   rcases B with B|⟨o',q1,A⟩
   ·rw[B];exact JH
   ·exact JG hr q1 A
  have hlen:(be c (ops.toList.drop c)).length=ops.size-c:=by rw[iU];simp
  have C:∀ o',lq E o'=true->iE o'=true/\mW E o'=false:=λo' V=>by simp only[lq,X,zEa] at V;exact V
  obtain⟨s',ba,N',q1,A,q3⟩:=wK N R (be c (ops.toList.drop c)) s k r (m-c) an (by rw[hlen];omega) (λp hp=>by
    obtain⟨j,t,D⟩:=vc hp;rw[zDb,zQa] at D;exact C _ (e3 (c+j) p.2 u0 u0 D)) (.inr λp q F=>by
    rw[nR,zFd,show c+(m-c)=m by omega] at F
    rcases B with B|⟨o',z1,z2⟩
    ·rw[B,zqc j2] at F
     simp[be] at F
    ·have a8:=(zpa.1 z1).1;have:p.2=o':=by
      have h1:(be m (ops.toList.drop m)).map Prod.snd=ops.toList.drop m:=bu _ _;rw[F] at h1;have I:(ops.toList.drop m)[0]?=some p.2:=by rw[<-h1];rfl
      rw[zDb,zQa,zTb,z1] at I;exact(Option.some.inj I).symm
     rw[this];exact z2) f
  rw[nR,zFd,show c+(m-c)=m by omega] at q3
  rw[zsd,bu] at q1;have O:((ops.toList.drop c).take (m-c)).length=m-c:=by simp;omega
  have H:=CX (E:=E) hr (n:=m) (L:=λe s2=>Full ops m e/\s2=s') hW (λe s2 hL=>hL.1.later) e2 ((ops.toList.drop c).take (m-c)) c b s s' (λj t=>by rw[O] at t;rw[zNb t,zDb,zQa]) (by rw[O];omega) U e3 q1 (λe aI=>⟨aI,rfl⟩)
  have:=iW (ro:=ro) (nn:=nn) (Q:=Q) (g:=ops.size-m) hE (s0:=s) (S0:=S) (γ0:=γ) (a0:=a) (w1:=w) (λi j oi b1 Z hi t d W=>kK ad Z (by rw[zQa];exact hi) (by rw[zQa];exact t) d W)
   (λe s2 S2 γ2 β2 a2 w2 m1 G m3 m4 m5=>by
    obtain⟨m5,m6⟩:=m5;subst m6;refine ih (ops.size-m) u0 m e N' an u0 m5 (m1.wk A) (λj b1 t a5=>?_) q3 λs3 y γ3 β3 a3 w3 n1 n2 n3 n4=>hQ s3 y γ3 β3 a3 w3 n1 (G.trans n2 (A.lkS.trans m3.lkS) (A.lkO.trans m3.lkO)) ((m3.trans (Sm.wk A)).sk.trans n3) n4
    have v:=(zpa.1 t).1;have:=m4 j b1 t (m5.rest j a5 v);intro hc d W;obtain⟨r1,r2,r3,r4⟩:=this hc d W;rw[A.base_eq,A.ob];exact⟨r1,r2,r3,r4⟩)
   ((ops.toList.drop c).take (m-c)).length b s S γ β a w h (Fm.refl _ _ _ _ _) (Sm.refl s) (λj b1 t a7=>by
    have v:=(zpa.1 t).1;refine b0 j b1 t ?_;rcases zua j c with q|q
    ·have:=U.done j q v;rw[getD_both a7] at this;cases this
    ·exact q) H
  rw[O,show m-c+(ops.size-m)=g+1 by omega] at this
  exact this
def xw(p:EnvOk P E){id:Nat}{s:St}{w:World}{R:Type}{k:St->Option R}{r:R}
  (h:Rp w0 S γ β s a w) (q:JM E s γ β ops.toList) (hm:cV ops.toList=true) (v:jz E ops=true) {an:Ann} (i:fV E N R ops an (be 0 ops.toList) s k=some r)
  (hQ:∀ s' S' γ' β' a' w',Rp w0 S' γ' β' s' a' w'->Fm s S γ a w S' γ' a' w'->Sk s s'->k s'=some r->Q .normal a' w'):(Code.region id ops true).wpIn (FW ro) nn P Q a w:=by
 simp only[cV,X] at hm;obtain⟨⟨l,_⟩,m⟩:=hm;have c:∀ o∈ops.toList,∀ T x y,o.op=.store T x y->o.dst=none:=λo u T x y e=>by have:=zya.1 m o u;rw[e] at this;simpa using this
 refine wpIn_region_any p.mixed ?_;have t:({ w with drawn:=w.drawn+1 }:World)=grown w [] (w.drawn+1):=by simp[grown]
 obtain⟨g1,g2⟩:=h.grow (os:=[]) (d:=w.drawn+1) (zHc _) (S':=S) (λ_ _ f=>f) (λ_ _ f=>.inl f);rw[t];have f0:Fm s S γ a w S γ a (grown w [] (w.drawn+1)):=⟨λ_ _ f=>f,g2.cell,λ_ _=>rfl,λid hid b f=>⟨f,.inl (dK (h.γn id b f).2)⟩,j2,λ_ _ f=>f,me.same rfl dM.grown⟩
 refine Jj (ro:=ro) (nn:=nn) p v l c ops.size 0 _ N an u0 ⟨j2,λj g=>u0,λj _ g=>getD_in (by simpa using g) (getD_replicate_false _ _)⟩ g1 (λj D g _=>q D (zyc.2 (zwc g))) (by simpa using i) λs' S' γ' β' a' w' z A B C=>hQ s' S' γ' β' a' w' z (f0.trans A rfl rfl) B C
end
end
section
variable{S:Nat->Nat->Prop}{γ:Nat->Option Nat}{a:Act}{β:Nat->Option (Nat×Nat)}{Q:Exit->Act->World->Prop}
variable{ro:Option Nat}{nn:Nat}
section
variable{P:Program}{E:Env}{w0:Root}
def y8{id:Nat}{ops:Array Oper}{dr:Bool}{ann:Ann}{R:Type}{s s1:St}(a:s1={ iC s ann.fz with fresh:=s.fresh+1 }){k:Ex->St->Option R}{r:R}(h:ev E (.region id ops dr) ann R s k=some r) :
  cV ops.toList=true/\(((!dr||tJ E ops (ann.heads ops.size))=true/\fV E (ops.size+1) R ops ann.inner (be 0 ops.toList) (gX E ops.toList s1) (λs'=>k .normal s')=some r) ∨
   (dr=true/\wZ ops (ann.heads ops.size)=true/\UU E ops (ann.heads ops.size) (mz ops (ann.heads ops.size) (gX E ops.toList s1)) (ann.heads ops.size) 0 (gX E ops.toList s1) (λs2=>if wX ops (ann.heads ops.size) s2=some (mz ops (ann.heads ops.size) (gX E ops.toList s1)) then fV E (ops.size+1) R ops ann.inner ((be 0 ops.toList).drop (ann.heads ops.size)) s2 (λs'=>k .normal s') else none)=some r) ∨
   (dr=true/\jz E ops=true/\fV E (ops.size+1) R ops ann.inner (be 0 ops.toList) (gX E ops.toList s1) (λs'=>k .normal s')=some r)):=by
 have key:(if cV ops.toList&&(!dr||tJ E ops (ann.heads ops.size)) then fV E (ops.size+1) R ops ann.inner (be 0 ops.toList) (gX E ops.toList s1) (λs'=>k .normal s')
  else if cV ops.toList&&wZ ops (ann.heads ops.size) then UU E ops (ann.heads ops.size) (mz ops (ann.heads ops.size) (gX E ops.toList s1)) (ann.heads ops.size) 0 (gX E ops.toList s1) (λs2=>if wX ops (ann.heads ops.size) s2=some (mz ops (ann.heads ops.size) (gX E ops.toList s1)) then fV E (ops.size+1) R ops ann.inner ((be 0 ops.toList).drop (ann.heads ops.size)) s2 (λs'=>k .normal s') else none)
  else if cV ops.toList&&(dr&&jz E ops) then fV E (ops.size+1) R ops ann.inner (be 0 ops.toList) (gX E ops.toList s1) (λs'=>k .normal s')
  else none)=some r:=by
  subst a;cases ann<;>exact h
 split at key
 ·rename_i hc;simp only[X] at hc;exact⟨hc.1,.inl ⟨hc.2,key⟩⟩
 ·rename_i hn;split at key
  ·rename_i hc;simp only[X] at hc;refine⟨hc.1,.inr (.inl ⟨?_,hc.2,key⟩)⟩;cases dr
   ·exfalso;exact hn (by simp[hc.1])
   ·rfl
  ·split at key
   ·rename_i hc;simp only[X] at hc;exact⟨hc.1,.inr (.inr ⟨hc.2.1,hc.2.2,key⟩)⟩
   ·cases key
theorem Jb(B:EnvOk P E){id:Nat}{ops:Array Oper}{dr:Bool}{ann:Ann}{R:Type}{s:St}{w:World}{k:Ex->St->Option R}{r:R}
  (h:Rp w0 S γ β s a w) (C:ev E (.region id ops dr) ann R s k=some r) (hQ:Kp Q w0 s S γ a w k r):(Code.region id ops dr).wpIn (FW ro) nn P Q a w:=by
 obtain⟨S1,f1,f2,f3⟩:=tP ann.fz h;obtain⟨s1,c⟩:∃ s1,s1={ iC s ann.fz with fresh:=s.fresh+1 }:=⟨_,rfl⟩;obtain⟨h1,A⟩:=y8 c C;have N:s1.base=s.base+4096:=by rw[c];simp only[St.base];omega
 have O:(iC s ann.fz).base=s.base:=f3.base_eq;have r1:Rp w0 S1 γ β s1 a w:=by
  rw[c];have q1:∀ id,({ iC s ann.fz with fresh:=s.fresh+1 }:St).base+4096<=id->s.base+4096<=id:=λid hid=>by grind
  exact⟨f1.ext,f1.tms,f1.nt,f1.tmu,f1.obs,f1.γn,f1.γi,λid hid=>h.γf id (q1 id hid),f1.βn,f1.βi,f1.βγ,λv U=>h.βf v (q1 v U),f1.Sb,f1.So⟩
 have e:∀ d,s.base+4096<=s1.base+d:=λd=>u0
 have J:∀ d,γ (s1.base+d)=none:=λd=>h.γf (s1.base+d) (e d);have D:∀ d,β (s1.base+d)=none:=λd=>h.βf (s1.base+d) (e d);obtain⟨H,G⟩:=Br (E:=E) ops.toList r1 J;have q:=h1;simp only[cV,X,zya] at q;obtain⟨⟨F,a0⟩,_⟩:=q;have l:JM E (gX E ops.toList s1) γ β ops.toList:=by intro o K hc d I;rw[G.base_eq];have g:=a0 o K;rw[I] at g;simp only[zea] at g;exact⟨g,J d,D d,λT t L M=>vH ops.toList F K L I M⟩
 have b:Sk s (gX E ops.toList s1):=by
  refine⟨G.lkS.trans ?_,G.lkO.trans ?_,G.nt.trans ?_⟩<;>rw[c]
  ·exact f3.lkS
  ·exact f3.lkO
  ·exact f3.nt
 rcases A with⟨m,p⟩|⟨j,m,p⟩|⟨j,m,p⟩
 rotate_right
 ·subst j;exact xw B H l h1 m p λs' S' γ' β' a' w' u x y z=>hQ .normal s' S' γ' β' a' w' u (f2.tr x b) (b.trans y) z
 rotate_left
 ·subst j;exact xv B H l h1 m p λs' S' γ' β' a' w' u x y z=>hQ .normal s' S' γ' β' a' w' u (f2.tr x b) (b.trans y) z
 refine Jc B H l h1 m p λs' S' γ' β' a' w' u x y z=>?_;exact hQ .normal s' S' γ' β' a' w' u (f2.tr x b) (b.trans y) z
def Ny{s:St}{w:World}(h:Rp w0 S γ β s a w){c:Operand}{t:Bool}(ht:(s.opA c).truth=some t):a.eval c=.bool t:=
 (rj ht (aW h c)).1
def hrk{S':Nat->Nat->Prop}{γ':Nat->Option Nat}{s:St}{a':Act}{w w':World}(b:∀ l,ro=some l->∃ r0,w.heap[l]?=some (Obj.loop r0))(F:Fm s S γ a w S' γ' a' w'):∀ l,ro=some l->∃ r0,w'.heap[l]?=some (Obj.loop r0):=λl hl=>(F.dfs.1 l).2 (b l hl)
def xc(E:Env)(c:Code)(h:Shape)(b:List (Ex×Shape))(a:Ann)(s:St)(v:List D):Option (Sum (List D) (Nat×List D)):=
 ev E c a (Sum (List D) (Nat×List D)) (h.mk' s v (h.keepS++s.lkS) (cG h.objs++s.lkO)) λe s'=>match e with
    | .normal=>(h.dec s s').bind λv'=>some (.inl v')
    | e=>(F6 s b e s').bind λr=>some (.inr r)
theorem jt(H:EnvOk P E):∀ (c:Code) (ann:Ann) (R:Type) {Q:Exit->Act->World->Prop} {S:Nat->Nat->Prop} {γ:Nat->Option Nat} {β:Nat->Option (Nat×Nat)} {s:St} {a:Act} {w:World} (k:Ex->St->Option R) (r:R),
  (∀ l,ro=some l->∃ r0,w.heap[l]?=some (Obj.loop r0))->Rp w0 S γ β s a w->ev E c ann R s k=some r->Kp Q w0 s S γ a w k r->c.wpIn (FW ro) nn P Q a w
 | .skip,ann,R,Q,S,γ,β,s,a,w,k,r,o,h,g,hQ=>by simp only[ev] at g;exact wpIn_skip (hQ .normal s S γ β a w h (Fm.refl _ _ _ _ _) (Sk.refl s) g)
 | .label l,ann,R,Q,S,γ,β,s,a,w,k,r,o,h,g,hQ=>by simp only[ev] at g;exact wpIn_label (hQ .normal s S γ β a w h (Fm.refl _ _ _ _ _) (Sk.refl s) g)
 | .exit id,ann,R,Q,S,γ,β,s,a,w,k,r,o,h,g,hQ=>by simp only[ev] at g;exact wpIn_exit (hQ (.exit id) s S γ β a w h (Fm.refl _ _ _ _ _) (Sk.refl s) g)
 | .ret,ann,R,Q,S,γ,β,s,a,w,k,r,o,h,g,hQ=>by simp only[ev] at g;exact wpIn_ret (hQ .ret s S γ β a w h (Fm.refl _ _ _ _ _) (Sk.refl s) g)
 | .region id ops dr,ann,R,Q,S,γ,β,s,a,w,k,r,o,h,g,hQ=>Jb H h g hQ
 | .cond c x y,ann,R,Q,S,γ,β,s,a,w,k,r,o,h,g,hQ=>by
  simp only[ev] at g;obtain⟨t,ht,g⟩:=ab g;refine wpIn_cond (Ny h ht) ?_;cases t
  ·exact jt H y _ R k r o h (by simpa using g) hQ
  ·exact jt H x _ R k r o h (by simpa using g) hQ
 | .block id c,ann,R,Q,S,γ,β,s,a,w,k,r,o,h,g,hQ=>by
  simp only[ev] at g;refine wpIn_block (jt H c _ R _ r o h g λe s' S' γ' β' a' w' B A C q=>?_);cases e with
  | normal=>exact hQ .normal s' S' γ' β' a' w' B A C q
  | ret=>exact hQ .ret s' S' γ' β' a' w' B A C q
  | exit j=>
   simp only[LH,Exit.inBlock];simp only at q;split at q
   ·rename_i U;rw[zla U];exact hQ .normal s' S' γ' β' a' w' B A C q
   ·rename_i U;rw[zia U];exact hQ (.exit j) s' S' γ' β' a' w' B A C q
 | .seq c d,ann,R,Q,S,γ,β,s,a,w,k,r,o,h,g,hQ=>by
  have plain:(ev E c ann.fst R s λe s'=>match e with|.normal=>ev E d ann.snd R s' k|e=>k e s')=some r->(Code.seq c d).wpIn (FW ro) nn P Q a w:=λg=>by
   refine wpIn_seq (jt H c _ R _ r o h g λe s' S' γ' β' a' w' B A C q=>?_);cases e with
   | normal=> exact jt H d _ R k r (hrk o A) B q λO s2 S2 γ2 β2 a2 w2 m1 G m3 m4=>hQ O s2 S2 γ2 β2 a2 w2 m1 (A.tr G C) (C.trans m3) m4
   | ret=>exact hQ .ret s' S' γ' β' a' w' B A C q
   | exit j=>exact hQ (.exit j) s' S' γ' β' a' w' B A C q
  cases ann with
  | leaf=>simp only[ev] at g;exact plain g
  | reg fz n=>simp only[ev] at g;exact plain g
  | regI fz n x=>simp only[ev] at g;exact plain g
  | two x y=>simp only[ev] at g;exact plain g
  | loop x y z=>simp only[ev] at g;exact plain g
  | all x y z u=>simp only[ev] at g;exact plain g
  | cut p W V x y=>
   clear plain;simp only[ev] at g;obtain⟨⟨j,v⟩,h1,T⟩:=ab g;refine wpIn_seq (jt H c x _ _ (j,v) o (h.lk (W++s.lkS) (V++s.lkO)) h1 λe s' S' γ' β' a' w' B A C q=>?_);obtain⟨sh,q1,a0⟩:=ut q;simp only at q1 a0;obtain⟨c1,c2,N⟩:=kJ (zoa j) (by simpa using q1) T
   obtain⟨D,β'',p1,Z⟩:=n9 h B A.sub A.cell C.nt (h:=sh) (λt ht=>A.slots t (List.mem_append_left _ (gE c2 t ht))) A.gam (λid hid=>A.objs id (List.mem_append_left _ (gE N id hid))) a0 s.lkS s.lkO;have F:Fm s S γ a w S' D a' w':=(A.less (s2:=s) (λt ht=>z9a _ ht) (λt ht=>z9a _ ht)).shape h Z;cases e with
   | normal=> exact jt H d y R k r (hrk o F) p1 c1 λO s2 S2 γ2 β2 a2 w2 m1 G m3 m4=>hQ O s2 S2 γ2 β2 a2 w2 m1 (F.tr G ⟨rfl,rfl,rfl⟩) (Sk.trans (b:=sh.mk' s v s.lkS s.lkO) ⟨rfl,rfl,rfl⟩ m3) m4
   | ret=>exact hQ .ret _ S' D β'' a' w' p1 F ⟨rfl,rfl,rfl⟩ c1
   | exit i=>exact hQ (.exit i) _ S' D β'' a' w' p1 F ⟨rfl,rfl,rfl⟩ c1
 | .loop c,ann,R,Q,S,γ,β,s,a,w,k,r,o,h,g,hQ=>by
  cases ann with
  | loop sh p x=>
   have I:(sh.dec s s).bind (λv0=>(E.lp (xc E c sh p x s) v0).bind λr=>nE s k sh.keepS (cG sh.objs) p 0 r)=some r:=g;obtain⟨v0,h1,I⟩:=ab I;obtain⟨⟨j,vj⟩,T,h3⟩:=ab I;obtain⟨n,hn⟩:=H.lp _ _ _ _ _ T;obtain⟨L,J⟩:∃ L:St,L={ s with lkS:=sh.keepS++s.lkS,lkO:=cG sh.objs++s.lkO }:=⟨_,rfl⟩;obtain⟨γ0,β0,p1,Z⟩:=n9 h h (λ_ _ K=>K) (λ_ _ _=>rfl) rfl (h:=sh) (λ_ _=>rfl) (λ_ _ K=>K) (λ_ _ _ K=>⟨K,kw.refl _ _⟩) h1 (sh.keepS++s.lkS) (cG sh.objs++s.lkO);have F0:Fm L S γ a w S γ0 a w:=(Fm.refl L S γ a w).shape h Z;refine Ak (λn a1 w1=>∃ v S1 γ1 β1,Rp w0 S1 γ1 β1 (sh.mk' s v (sh.keepS++s.lkS) (cG sh.objs++s.lkO)) a1 w1/\Fm L S γ a w S1 γ1 a1 w1/\so (xc E c sh p x s) n v=some (j,vj)) (m:=n) ⟨v0,S,γ0,β0,p1,F0,hn⟩ ?_;rintro n a1 w1 ⟨v,S1,γ1,β1,g1,g2,g3⟩;cases n with
   | zero=>simp[tY] at g3
   | succ m=>
    simp only[lF] at g3;cases K:xc E c sh p x s v with
    | none=>rw[K] at g3;cases g3
    | some res=>
     rw[K] at g3;refine jt H c x _ _ res (hrk o g2) g1 K λe s' S' γ' β' a' w' B A C q=>?_;have F:Fm L S γ a w S' γ' a' w':=g2.tr A (by rw[J];exact⟨rfl,rfl,rfl⟩)
     have M:s'.nt=s.nt:=C.nt;have sl:∀ t∈sh.keepS,a'.tmps.getD t undef=a.tmps.getD t undef:=λt ht=>F.slots t (by rw[J];exact List.mem_append_left _ ht)
     have ob:∀ id∈cG sh.objs,∀ b,γ id=some b->γ' id=some b/\kw w w' b:=λid hid=>F.objs id (by rw[J];exact List.mem_append_left _ hid)
     have fin:∀ e,F6 s p e s'=some (j,vj)->Q (LH e) a' w':=λe he=>by
      obtain⟨ad,q1,a0⟩:=ut he;simp only at q1 a0;obtain⟨c1,c2,N⟩:=kJ (zoa j) (by simpa using q1) h3
      obtain⟨D,β'',X,Y⟩:=n9 h B F.sub F.cell M (h:=ad) (λt ht=>sl t (gE c2 t ht)) F.gam (λid hid=>ob id (gE N id hid)) a0 s.lkS s.lkO;exact hQ e _ S' D β'' a' w' X ((F.less (s2:=s) (λt ht=>by rw[J];exact z9a _ ht) (λt ht=>by rw[J];exact z9a _ ht)).shape h Y) ⟨rfl,rfl,rfl⟩ c1
     cases e with
     | normal=> simp only at q;obtain⟨v',q1,a0⟩:=ab q;simp only[zca] at a0;subst a0;obtain⟨D,β'',X,Y⟩:=n9 h B F.sub F.cell M (h:=sh) sl F.gam ob q1 (sh.keepS++s.lkS) (cG sh.objs++s.lkO);exact⟨m,zXc m,v',S',D,β'',X,F.shape h Y,g3⟩
     | ret=> simp only at q;obtain⟨v',q1,a0⟩:=ab q;simp only[zca] at a0;subst a0;simp only[zca] at g3;subst g3;exact fin .ret q1
     | exit i=> simp only at q;obtain⟨v',q1,a0⟩:=ab q;simp only[zca] at a0;subst a0;simp only[zca] at g3;subst g3;exact fin (.exit i) q1
  | leaf=>simp[ev] at g
  | reg fz n=>simp[ev] at g
  | regI fz n x=>simp[ev] at g
  | two x y=>simp[ev] at g
  | cut p W V x y=>simp[ev] at g
  | all p W V x=>simp[ev] at g
 | .goto l,ann,R,Q,S,γ,β,s,a,w,k,r,o,h,g,hQ=>by
  have:(none:Option R)=some r:=by cases ann<;>exact g
  cases this
 | .scope c,ann,R,Q,S,γ,β,s,a,w,k,r,o,h,g,hQ=>by simp only[ev] at g;refine oY (jt H c _ R k r o h g λe s' S' γ' β' a' w' B A C q=>?_);cases e<;>exact hQ _ s' S' γ' β' a' w' B A C q
 | .rangeFunc f ps x y,ann,R,Q,S,γ,β,s,a,w,k,r,o,h,g,hQ=>UV H (an:=ann) o h (by cases ann<;>exact g) hQ
def G3(m:EnvOk P E)(c:Code)(ann:Ann)(R:Type){s:St}{w:World}(k:Ex->St->Option R)(r:R)
  (f:∀ l,ro=some l->∃ r0,w.heap[l]?=some (Obj.loop r0)) (h:Rp w0 S γ β s a w) (b:NP E c ann R s k=some r) (hQ:Kp Q w0 s S γ a w k r):c.wpIn (FW ro) nn P Q a w:=by
 cases ann with
 | all g u q x=>
  simp only[NP] at b;obtain⟨⟨j,v⟩,h1,p⟩:=ab b;refine jt m c x _ _ (j,v) f (h.lk (u++s.lkS) (q++s.lkO)) h1 λe s' S' γ' β' a' w' y d z A=>?_;obtain⟨sh,q1,n⟩:=ut A;simp only at q1 n;obtain⟨c1,c2,o⟩:=kJ (zoa j) (by simpa using q1) p
  obtain⟨i,β'',p1,B⟩:=n9 h y d.sub d.cell z.nt (h:=sh) (λt ht=>d.slots t (List.mem_append_left _ (gE c2 t ht))) d.gam (λid hid=>d.objs id (List.mem_append_left _ (gE o id hid))) n s.lkS s.lkO;exact hQ e _ S' i β'' a' w' p1 ((d.less (s2:=s) (λt ht=>z9a _ ht) (λt ht=>z9a _ ht)).shape h B) ⟨rfl,rfl,rfl⟩ c1
 | _=>exact jt m c _ R k r f h b hQ
def CL(d:EnvOk P E)(c:Code)(ann:Ann)(R:Type){s:St}{w:World}(k:Ex->St->Option R)(r:R)
  (h:Rp w0 S γ β s a w) (b:ev E c ann R s k=some r) (hQ:Kp Q w0 s S γ a w k r):c.wpIn (FW none) nn P Q a w:=
 jt d c ann R k r (λ_ h=>by cases h) h b hQ
end
def UH{P:Program}{E:Env}(d:EnvOk P E):JX P (NP E):=λ_ _ _ c ann R _ _ _ _ _ _ _ k r b h a hQ=>G3 d c ann R k r b h a hQ
end
end Sy
end
noncomputable section
namespace Sy
open Go
open Go.ChangeMaps (setBlock)
open Go.RowKit
section
variable{y:D}{K:Nat}{f:FuncId}{j:Ty}{q:Option (List Deferred)}
variable{ro:Option Nat}{nn:Nat}
section
variable{P:Program}{E:Env}{w0:Root}{S:Nat->Nat->Prop}{γ:Nat->Option Nat}{β:Nat->Option (Nat×Nat)}{s:St}{a:Act}{w:World}
def lL(tmps:Array Value):ResultVar->Sem Value
 | .tmp t=>pure (tmps.getD t undef)
 | .cell a t=>do loadVar t (<-asAddr (tmps.getD a undef))
def kc(fn:Func)(tmps:Array Value):Go.results fn tmps=(do
  let vs <-fn.results.mapM (lL tmps)
  pure (if h:vs.size=1 then vs[0] else .tuple vs)):=by
 unfold Go.results;congr 1
def LK{t:Ty}{a:AV}(h:AV.fits t a=true)(b:AV.fits j a=true):dh t=dh j:=by
 cases a
 case d u x=>rw[pU h,pU b]
 all_goals (cases t<;>cases j<;>simp_all [AV.fits,dh])
def HJ(z:EnvOk P E)(h:Rp w0 S γ β s a w){R:Type}{t:Ty}(hn:ak t=true){k:D->Option R}{r:ResultVar}{y:R}(hq:M5 E s t k r=some y) :
  ∃ x v,k x=some y/\(lL a.tmps r).run P w=.ok v w/\wt t x/\fX w S x v:=by
 cases r with
 | tmp i=>
  simp only[M5] at hq;obtain⟨x,h1,l⟩:=ab hq;have hi:i<a.tmps.size:=by
   rcases zua i a.tmps.size with e|d
   ·exact e
   ·rw[h.tmu i (by rw[<-h.nt];exact d)] at h1
    simp[akf] at h1
  obtain⟨n,F⟩:=pJ hn (h.tms i hi) h1;exact⟨x,a.tmps.getD i undef,l,rfl,n,F⟩
 | cell i T=>
  simp only[M5] at hq;obtain⟨u,hu,hq⟩:=ab hq;split at hq<;>try(cases hq;done)
  rename_i I id p j;split at hq<;>try(cases hq;done)
  rename_i A;have:=alb _ _ A;subst this;obtain⟨o,q,hq⟩:=ab hq;have hi:i<a.tmps.size:=by
   rcases zua i a.tmps.size with e|d
   ·exact e
   ·have:=h.tmu i (by rw[<-h.nt];exact d)
    rw[j] at this;cases this
  have hx:=h.tms i hi;rw[j] at hx;obtain⟨b,off,B,C,m⟩:=kW hx;obtain⟨n,rfl⟩:=m o q;obtain⟨a',cs,m1,G,m3,m4,m5⟩:=lK (h.obs id o b q C) n hq;obtain⟨m6,m7⟩:=ii _ _ _ m3 G;obtain⟨v,g,c⟩:=jm (jG z hu m4) (w:=w) (b:=b) (off:=cD o p) m6 m7 m5;obtain⟨x,h1,l⟩:=ab m1;obtain⟨q1,H,N⟩:=uq _ _ _ _ h1 G;have f:=LK (xN _ _ _ h1) m3;refine⟨x,v,l,?_,q1,N v ⟨c.1,by rw[f];exact c.2.1,by rw[f];exact c.2.2⟩ hn⟩
  rw[<-g];simp only[lL,Instr.loadAt,Instr.sureAddr,pure_bind];rw[show a.tmps.getD i undef=.pointer (some ⟨b,cD o p,none⟩) from B];rfl
theorem sO(e:EnvOk P E)(h:Rp w0 S γ β s a w){R:Type}:∀ (ts:List Ty) (b:List ResultVar) (k:List D->Option R) (y:R),aR ts=true->uQ E s ts b k=some y ->
  ∃ xs vs,k xs=some y/\(b.mapM (lL a.tmps)).run P w=.ok vs w/\fm ts xs/\vs.length=b.length/\xs.length=vs.length/\∀ (i:Nat) (d:D) (u:Value),xs[i]?=some d->vs[i]?=some u->fX w S d u
 | [],[],k,y,_,hq=>by simp only[uQ] at hq;exact⟨[],[],hq,rfl,rfl,rfl,rfl,λi d u h=>by simp at h⟩
 | [],_::_,k,y,_,hq=>by simp[uQ] at hq
 | _::_,[],k,y,_,hq=>by simp[uQ] at hq
 | t::ts,r::b,k,y,hn,hq=>by
  simp only[uQ] at hq;simp only[aR,X] at hn;obtain⟨x,v,h1,f,g,j⟩:=HJ e h hn.1 hq;obtain⟨xs,vs,l,m,n,o,p,q⟩:=sO e h ts b _ y hn.2 h1;refine⟨x::xs,v::vs,l,?_,⟨x,xs,rfl,g,n⟩,by simp[o],by simp[p],λi d u c hu=>?_⟩
  ·simp only[zWc,zma,f,zga,m,zta]
  ·cases i with
   | zero=>simp at c hu;subst c;subst hu;exact j
   | succ i=>simp at c hu;exact q i d u c hu
def fZ(n:Nat)(a:Ty):Bool:=if n=1 then ak a else match a with|.tup ts=>aR ts|_=>false
def ke(d:EnvOk P E)(h:Rp w0 S γ β s a w){fn:Func}(b:fZ fn.results.size j=true)(hq:results E s j fn.results.toList=some y) :
  ∃ v,(Go.results fn a.tmps).run P w=.ok v w/\wt j y/\DR w S y v:=by
 rw[kc];have hm:fn.results.mapM (lL a.tmps)=Functor.map List.toArray (fn.results.toList.mapM (lL a.tmps)):=by rw[zxc]
 rw[hm];have f:fn.results.size=fn.results.toList.length:=j2
 rw[f] at b;generalize fn.results.toList=n at *
 match n,b,hq with
 | [r],b,hq=>
  have e:ak j=true:=by simpa [fZ] using b
  simp only[results] at hq;obtain⟨x,v,h1,p,q,t⟩:=HJ d h e hq;simp only[zca] at h1;subst h1;refine⟨v,?_,q,DR.of0 t⟩;simp[zWc,p]
 | [],b,hq=>
  simp only[fZ,zzb] at b;obtain⟨ts,rfl⟩:∃ ts,j=.tup ts:=by cases j<;>first|exact⟨_,rfl⟩|(simp[results] at hq;done)
  simp only[results] at hq;obtain⟨xs,vs,c,o,i,k,l,m⟩:=sO d h ts [] _ y (by simpa using b) hq
  simp only[zca] at c;subst c;refine⟨.tuple vs.toArray,?_,by simp only[wt];exact⟨xs,rfl,i⟩,vs,rfl,l,m⟩
  have:vs=[]:=z5b.1 k;subst this;simp
 | r::r'::n,b,hq=>
  simp only[fZ,zPa] at b;rw[zia u0] at b
  obtain⟨ts,rfl⟩:∃ ts,j=.tup ts:=by cases j<;>first|exact⟨_,rfl⟩|(simp[results] at hq;done)
  simp only[results] at hq;obtain⟨xs,vs,c,o,i,k,l,m⟩:=sO d h ts (r::r'::n) _ y b hq;simp only[zca] at c;subst c;refine⟨.tuple vs.toArray,?_,by simp only[wt];exact⟨xs,rfl,i⟩,vs,rfl,l,m⟩
  have:vs.length≠1:=by rw[k];simp
  have g:=o;simp only[zma,map_eq_pure_bind,g,zga,zta];simp[this]
def fN{r:Root}{w:World}(h:oh r w)(j:∀ b,¬ r.sh b):∃ os d,r.w.drawn<=d/\w=grown r.w os d:=by
 obtain⟨w0,S0,sh⟩:=r;obtain⟨h1,c,f,k,a,g⟩:=h;simp only[Root.heap,Root.Old] at *;refine⟨(w.heap.toList.drop w0.heap.size),w.drawn,a,?_⟩;have e:w.heap=w0.heap++(w.heap.toList.drop w0.heap.size).toArray:=by
  apply zic;rw[Array.toList_append]
  conv=>lhs;rw[<-zza w0.heap.size w.heap.toList]
  congr 1;apply zOb;intro i;by_cases hi:i<w0.heap.size
  ·rw[zNb hi,zQa,g i ⟨hi,j i⟩,zQa]
  ·rw[zXa (by simp;omega),zXa (by simpa using hi)]
 cases w;simp only[grown] at *;subst h1;subst c;subst f;congr 1
theorem shut_row{x:Option (List Deferred)}(hk:w.heap[K]?=some (.deferred q))(b:Nat):ck (setBlock w K (.deferred x)) b=ck w b:=by
 by_cases e:b=K
 ·subst e;simp only[ck,hk,iK (zpa.1 hk).1]
 ·simp only[ck,fj e]
def zW{x:Option (List Deferred)}(hk:w.heap[K]?=some (.deferred q))(b o:Nat):(setBlock w K (.deferred x)).cell? ⟨b,o,none⟩=w.cell? ⟨b,o,none⟩:=by
 by_cases e:b=K
 ·subst e;simp only[World.cell?,hk,iK (zpa.1 hk).1]
 ·simp only[World.cell?,fj e]
def Rp.shut(h:Rp w0 S γ β s a w)(hk:w.heap[K]?=some (.deferred q))(z:¬ w0.Old K)(x:Option (List Deferred)):Rp w0 S γ β s a (setBlock w K (.deferred x)):=by
 have hle:Cx.le ⟨w,S,γ,β,s.ob,s.dead⟩ ⟨setBlock w K (.deferred x),S,γ,β,s.ob,s.dead⟩:=
  ⟨λb o _=>zW hk b o,λ_ _ g=>g,λ_ _ g=>g,λi y u _=>⟨y,u,λp=>⟨rfl,rfl⟩,λt l e=>⟨l,e,rfl⟩,λ_ _ l e=>⟨l,e⟩⟩,λv m=>⟨m,λd e he=>⟨he,λn hn=>by have j:=hn;simp only[rA,shut_row hk] at j ⊢;exact j⟩⟩⟩
 refine⟨pT h.ext rfl rfl rfl (by rw[eV];exact zja _) (zja _) (λd c=>fj λe=>z (e ▸ c)),λt ht=>(h.tms t ht).mono hle,h.nt,h.tmu,λi y d u c=>?_,λi d c=>by rw[eV];exact h.γn i d c,h.γi,h.γf,
  λv d e m he=>by rw[eV];exact h.βn v d e m he,h.βi,h.βγ,h.βf,λd o g=>by rw[eV];exact h.Sb d o g,h.So⟩
 have hO:=h.obs i y d u c;refine hO.mono hle (fj λe=>?_) λ_ hh=>hh;subst e;cases y<;>simp only[gF] at hO
 case one=>obtain⟨_,_,_,cs,k,_⟩:=hO;simp[ck,hk] at k
 case many=>obtain⟨_,_,_,cs,A,k,_⟩:=hO;simp[ck,hk] at k
 case mp=>obtain⟨_,_,_,es,k,_⟩:=hO;rw[hk] at k;cases k
 case lp=>obtain⟨r,k,_⟩:=hO;rw[hk] at k;cases k
 case fv=>obtain⟨_,x,k,_⟩:=hO;simp[ck,hk] at k
theorem cQ.set{lo:Nat}:∀ {l:List Deferred} {hi K:Nat} {x:Option (List Deferred)},hi<=K->cQ lo w hi l->cQ lo (setBlock w K (.deferred x)) hi l
 | [],_,_,_,_,_=>trivial
 | d::l,hi,K,x,hh,⟨J,h1,a,b,c,e⟩=>⟨J,h1,a,b,by rw[fj u0];exact c,cQ.set u0 e⟩
theorem zn{fn:Func}{tmps:Array Value}{Rn:Ending->World->Prop}{J:World->Prop}{lo:Nat}(b:∀ w K,J w->lo<=K->w.heap[K]?=some (.deferred (some []))->J (setBlock w K (.deferred none)))
  (c:∀ w,J w->∃ v,(Go.results fn tmps).run P w=.ok v w/\Rn (.returned v) w):∀ (m:List Deferred) (hi:Nat) (w:World),cQ lo w hi m->J w->LeavesInM (FW none) 0 P fn tmps Rn m .returning w
 | [],_,w,_,hw=>c w hw
 | d::m,hi,w,⟨K,h1,e,_,a,f⟩,hw=>by refine⟨j2,.inl ⟨K,_,by rw[h1],run_takeDeferred a,zn b c m K _ (cQ.set (zja _) f) (b w K hw e a)⟩⟩
def jb(C:EnvOk P E){fn:Func}{c:Code}(G:P.funcs[f]?=some fn)(d:fn.body=some c){args:Array Value}{ann:Ann}{R:Type}{k:Ex->St->Option R}{r:R}{Rn:Ending->World->Prop}
  (z:a={ tmps:=args++Array.replicate (fn.ntmps-args.size) undef,defers:=[] }) (h:Rp w0 S γ β s a w) (t:NP E c ann R s k=some r) (hk:∀ i s',k (.exit i) s'≠some r)
  (fin:∀ e s' S' γ' β' a' w',Rp w0 S' γ' β' s' a' w'->Fm s S γ a w S' γ' a' w'->Sk s s'->k e s'=some r->∃ v,(Go.results fn a'.tmps).run P w'=.ok v w'/\Rn (.returned v) w'):Calls P f args w Rn:=by
 refine callsIn_wide.1 (callsIn_of_wp_marks (F:=FW none) (n:=0) G d trivial ?_);rw[<-z];refine G3 C c ann R k r (λ_ h=>by cases h) h t λe s' S' γ' β' a' w' M j N A=>?_
 have D:a.defers=[]:=by rw[z]
 have key:LeavesInM (FW none) 0 P fn a'.tmps Rn a'.defers .returning w':=by
  obtain⟨q1,m,B,O,_⟩:=j.dfs;rw[D,zVb] at B;rw[B];refine zn (J:=λp=>Rp w0 S' γ' β' s' { a' with defers:=a.defers } p/\Fm s S γ a w S' γ' { a' with defers:=a.defers } p) (lo:=w.heap.size) (λp K ⟨u,g⟩ H y=>?_) (λp ⟨u,g⟩=>fin e s' S' γ' β' _ p u g N A) m _ w' O ⟨M.act rfl,⟨j.sub,j.cell,j.slots,j.objs,j.sz,j.gam,me.same rfl q1⟩⟩;have hold:¬ w0.Old K:=λL=>by have:=L.1;have:=h.ext.sz;omega
  refine⟨u.shut y hold none,g.sub,λb o q=>(zW y b o).trans (g.cell b o q),g.slots,λi hi b d=>?_,by rw[eV];exact g.sz,g.gam,me.same rfl λb=>?_⟩
  ·obtain⟨x,z2⟩:=g.objs i hi b d;have I:=(h.γn i b d).2;exact⟨x,z2.trans (.inl (fj u0))⟩
  ·obtain⟨x,z2⟩:=g.dfs.1 b;have l:b<w.heap.size->b≠K:=λ_=>u0
   refine⟨λd=>?_,λ⟨r,d⟩=>?_⟩
   ·rw[fj (l (zpa.1 d).1)];exact x d
   ·rw[fj (l (zpa.1 d).1)];exact z2 ⟨r,d⟩
 cases e with
 | normal=>exact key
 | ret=>exact key
 | exit i=>exact zgb A (hk i s')
def Ip(G:EnvOk P E){fn:Func}{ann:Ann}{g:List Ty}{xs:List D}(m:P.funcs[f]?=some fn)(K:g.length<=fn.ntmps)(hn:aR g=true)(J:fZ fn.results.size j=true)
  (h:evF E fn ann g j xs=some y):NY P g j f xs y:=by
 intro w S vs H q hlen A;unfold evF at h;split at h<;>try(cases h;done)
 rename_i c a;have N:=iP q;have p:(vs.toArray++Array.replicate (fn.ntmps-vs.toArray.size) undef).size=fn.ntmps:=by simp;omega
 refine jb (w0:=⟨w,S,λ_=>False⟩) (S:=S) (γ:=λ_=>none) (β:=λ_=>none) G m a rfl ?_ h (λ_ _ hh=>by cases hh) λe s' S' γ' β' a' w' s V W C=>?_
 ·refine⟨⟨rfl,rfl,rfl,zja _,zja _,λ_ _=>rfl⟩,λt ht=>?_,p,λt ht=>?_,λid o b I=>(by cases I),λid b a=>(by cases a),λid O b a=>(by cases a),λ_ _=>rfl,λv b e _ a=>(by cases a),λv v' b e U _ _ a=>(by cases a),λv id b e _ a=>(by cases a),λ_ _=>rfl,H,λb o a _=>a⟩
  ·simp only[gN];split
   ·rename_i ty x F u;have n:=(zra.1 u).1;have k:t<vs.length:=u0
    have M:(vs.toArray++Array.replicate (fn.ntmps-vs.toArray.size) undef).getD t undef=vs[t]:=by simp[Array.getD,zEd,k];omega
    rw[M];obtain⟨X,r,B⟩:=ge q F;rw[u] at r;cases r;exact dA (cc hn F) B (A t x _ u (zda k))
   ·simp only[AR]
  ·have L:fn.ntmps<=t:=ht;simp only[gN];rw[zXa u0]
 ·have l:results E s' j fn.results.toList=some y->(∃ v,(Go.results fn a'.tmps).run P w'=.ok v w'/\∃ v',Ending.returned v=.returned v'/\(∃ os d,w.drawn<=d/\w'=grown w os d)/\wt j y/\DR w' (λb o=>S b o\/(w.heap.size<=b/\b<w'.heap.size)) y v'):=λhq=>by
   obtain⟨v,Q,R,T⟩:=ke G s J hq;refine⟨v,Q,v,rfl,fN s.ext (λ_ m=>m),R,T.mono (λ_ _ _=>rfl) λb o a=>?_⟩;rcases zua b w.heap.size with n|z
   ·exact .inl (s.So b o a ⟨n,λm=>m⟩)
   ·exact .inr ⟨z,s.Sb b o a⟩
  cases e with
  | normal=>exact l C
  | ret=>exact l C
  | exit i=>cases C
def C3(a:List Ty)(k:Nat)(args:List D)(i:Nat):AV:=
 if i+k<a.length then gN a args i else match a[i]? with
  | some t=>.ptr t (i+k-a.length) []
  | none=>.undef
def Wv(a:List Ty)(k:Nat)(args:List D)(j:Nat):Option Ob:=
 if j<k then match a[a.length-k+j]?,args[a.length-k+j]? with
  | some t,some x=>some (.one t (.d t x))
  | _,_=>none
 else none
def mX:Option Ob->Bool
 | some (.one _ _)=>true
 | _=>false
def UQ(E:Env)(fn:Func)(ann:Ann)(a:List Ty)(k:Nat)(b:Ty)(args:List D):Option D:=
 match fn.body with
 | none=>none
 | some c=>NP E c ann D { tm:=C3 a k args,ob:=Wv a k args,fresh:=0,dead:=[],nt:=fn.ntmps,lkS:=[],lkO:=List.range k } λe s=>match e with
  | .exit _=>none
  | _=>if(List.range k).all (λj=>mX (s.ob j)) then results E s b fn.results.toList else none
def EJ(hE:EnvOk P E){fn:Func}{ann:Ann}{a:List Ty}{k:Nat}{A:Ty}{xs:List D}(V:P.funcs[f]?=some fn)(aO:a.length<=fn.ntmps)(hn:aR a=true)(hk:k<=a.length)(ax:k<=4095)(hr:fZ fn.results.size A=true)
  (h:UQ E fn ann a k A xs=some y):WB P a A f xs y k:=by
 intro w S vs p hS J T hlen W Z U;unfold UQ at h;split at h<;>try(cases h;done)
 rename_i c g;have a1:=iP J;have Y:vs.length=a.length-k:=u0
 obtain⟨l,hl⟩:∃ l,l=vs++p.map I7:=⟨_,rfl⟩;have aI:l.length=a.length:=by rw[hl];simp;omega
 rw[<-hl];have N:(l.toArray++Array.replicate (fn.ntmps-l.toArray.size) undef).size=fn.ntmps:=by simp;omega
 have G:∀ t,t<l.length->(l.toArray++Array.replicate (fn.ntmps-l.toArray.size) undef).getD t undef=l.getD t undef:=λt ht=>by simp[Array.getD,zEd,ht];omega
 have cap:∀ j b,p[j]?=some b->j<k/\∃ t x,a[a.length-k+j]?=some t/\xs[a.length-k+j]?=some x/\wt t x/\TY w S x b:=λj b C=>by
  have n:j<k:=by rw[<-T];exact(zra.1 C).1
  have h1:a.length-k+j<a.length:=u0
  obtain⟨x,hx,hw⟩:=ge J (zda h1);exact⟨n,_,x,zda h1,hx,hw,U j x b (by rw[Y];exact hx) C⟩
 have K:∀ j b,p[j]?=some b->b<w.heap.size:=λj b C=>by
  obtain⟨_,t,x,_,_,_,_,cs,q,_⟩:=cap j b C;simp only[ck] at q;split at q<;>try(cases q;done)
  rename_i hh;exact(zpa.1 hh).1
 have key:∀ t,AR ⟨w,S,λid=>p[id]?,λ_=>none,Wv a k xs,[]⟩ (C3 a k xs t) ((l.toArray++Array.replicate (fn.ntmps-l.toArray.size) undef).getD t undef):=λt=>by
  simp only[C3];split
  ·rename_i I;rw[G t u0]
   simp only[gN];split
   ·rename_i ty x L e2;have z:t<vs.length:=u0
    have X:l.getD t undef=vs[t]:=by rw[hl,zDa,zab z,zda z];rfl
    rw[X];obtain⟨x',Q,ad⟩:=ge J L;rw[e2] at Q;cases Q;exact dA (cc hn L) ad (Z t x _ e2 (zda z))
   ·simp only[AR]
  ·rename_i M;split
   ·rename_i ty L;have I:=(zra.1 L).1;obtain⟨j,C⟩:∃ j,j=t+k-a.length:=⟨_,rfl⟩;have n:j<p.length:=u0
    have O:t=a.length-k+j:=u0
    rw[G t u0,<-C]
    have X:l.getD t undef=I7 p[j]:=by rw[hl,zDa,zRb u0,show t-vs.length=j by omega,z2b,zda n];rfl
    rw[X];refine gr (zda n) λo F=>?_;have m:Wv a k xs j=some o:=F;unfold Wv at m;split at m<;>try(cases m;done)
    split at m<;>try(cases m;done)
    rename_i u x q1 q2;cases m;rw[<-O,L] at q1;cases q1;exact⟨rfl,rfl⟩
   ·simp only[AR]
 refine jb (w0:=⟨w,S,λb=>b∈p⟩) (S:=S) (γ:=λid=>p[id]?) (β:=λ_=>none) hE V g rfl ?_ h (λ_ _ hh=>by cases hh) λe s' S' γ' β' a' w' B n2 n3 n4=>?_
 ·refine⟨⟨rfl,rfl,rfl,zja _,zja _,λ_ _=>rfl⟩,λt ht=>?_,N,λt ht=>?_,λid o b F g=>?_,λid b g=>⟨λF=>F.2 (zeb g),K id b g⟩,λid al b g R=>W id al b g R,λid hid=>zXa ?_,λv b e _ g=>(by cases g),λv v' b e e' _ _ g=>(by cases g),λv id b e _ g=>(by cases g),λ_ _=>rfl,hS,λb o g _=>g⟩
  ·exact key t
  ·have O:fn.ntmps<=t:=ht;show C3 a k xs t=.undef;unfold C3;rw[zia u0,zXa u0]
  ·have m:Wv a k xs id=some o:=F;obtain⟨n,t,x,q1,q2,q3,q4,cs,q5,q6⟩:=cap id b g;unfold Wv at m;rw[zla n,q1,q2] at m;cases m;have q0:=cc hn q1;simp only[gF,AV.fits,AC];exact⟨q0,ala t,q4,cs,q5,⟨q3,q0,q6⟩,by rw[<-q6.1];exact cL _ _ q3 q0⟩
  ·have an:=hid;omega
 ·have stay:∀ b∈p,w'.heap[b]?=w.heap[b]?/\((List.range k).all (λj=>mX (s'.ob j))=true->∀ o,¬ S' b o):=λb g=>by
   obtain⟨j,C⟩:=List.getElem?_of_mem g;obtain⟨n,t,x,q1,q2,q3,q4,cs,q5,q6⟩:=cap j b C;obtain⟨z1,z2⟩:=n2.objs j (zRa.2 n) b C;refine⟨z2.row q5,λs=>?_⟩;have:=zya.1 s j (zRa.2 n);cases F:s'.ob j with
   | none=>rw[F] at this;cases this
   | some o=>
    rw[F] at this;have hO:=B.obs j o b F z1;cases o<;>simp only[mX] at this<;>try(cases this;done)
    simp only[gF] at hO;exact hO.2.2.1
  have H:(if(List.range k).all (λj=>mX (s'.ob j)) then results E s' A fn.results.toList else none)=some y->(∃ v,(Go.results fn a'.tmps).run P w'=.ok v w'/\∃ v',Ending.returned v=.returned v'/\(∃ os d,w.drawn<=d/\w'=grown w os d)/\wt A y/\DR w' (λb o=>S b o\/(w.heap.size<=b/\b<w'.heap.size)) y v'):=λhq=>by
   split at hq<;>try(cases hq;done)
   rename_i s;obtain⟨v,k1,k2,k3⟩:=ke hE B hr hq;refine⟨v,k1,v,rfl,fN (r:=⟨w,S,λ_=>False⟩) ⟨B.ext.tape,B.ext.os,B.ext.output,B.ext.sz,B.ext.dr,λb g=>?_⟩ (λ_ V=>V),k2,k3.mono (λ_ _ _=>rfl) λb o g=>?_⟩
   ·by_cases hm:b∈p
    ·exact(stay b hm).1
    ·exact B.ext.old b ⟨g.1,hm⟩
   ·rcases zua b w.heap.size with I|M
    ·by_cases hm:b∈p
     ·exact zgb g ((stay b hm).2 s o)
     ·exact .inl (B.So b o g ⟨I,hm⟩)
    ·exact .inr ⟨M,B.Sb b o g⟩
  cases e with
  | normal=>exact H n4
  | ret=>exact H n4
  | exit i=>cases n4
end
end
end Sy
end
noncomputable section
namespace Sy
open Go Go.Proofs Go.Sort Go.Lib
section
variable{y:D}
def ws(E:Env)(g:Nat)(x y:D):Option Int:=(E.call g [x,y]).bind λr=>match r with|.int .i64 n=>some n|_=>none
def ua(E:Env)(g:Nat)(x y:D):Bool:=match ws E g x y with|some n=>decide (n<0)|none=>false
def JR(E:Env)(g:Nat)(x y:D):Bool:=match ws E g x y with|some n=>decide (0<=n)|none=>false
def E7(lt:D->D->Bool)(x:D):List D->List D
 | []=>[x]
 | y::l=>if lt x y then x::y::l else y::E7 lt x l
def nc(lt:D->D->Bool):List D->List D
 | []=>[]
 | x::l=>E7 lt x (nc lt l)
def u6(E:Env)(g:Nat):List D->Bool
 | []=>true
 | x::l=>JR E g x x&&l.all (λy=>ua E g x y&&JR E g y x)&&u6 E g l
def kR(E:Env)(g:Nat)(l:List D):Option (List D):=if u6 E g (nc (ua E g) l) then some (nc (ua E g) l) else none
theorem tW(lt:D->D->Bool)(x:D):∀ l:List D,(E7 lt x l).Perm (x::l)
 | []=>.refl _
 | y::l=>by
  simp only[E7];split
  ·exact .refl _
  ·exact((tW lt x l).cons y).trans (.swap x y l)
theorem iM(lt:D->D->Bool):∀ l:List D,(nc lt l).Perm l
 | []=>.refl _
 | x::l=>(tW lt x _).trans ((iM lt l).cons x)
section
variable{E:Env}{g:Nat}
theorem lr:∀ {l:List D},u6 E g l=true->l.Pairwise (λx y=>ua E g x y=true/\JR E g y x=true)/\∀ x∈l,JR E g x x=true
 | [],_=>⟨.nil,j2⟩
 | x::l,h=>by
  simp only[u6,X,zya] at h;obtain⟨⟨h1,b⟩,c⟩:=h;obtain⟨d,e⟩:=lr c;exact⟨zNa.2 ⟨b,d⟩,λy a=>by
   rcases zOa.1 a with rfl|a
   ·exact h1
   ·exact e y a⟩
def LT{x:D}(h:JR E g x y=true):ua E g x y=false:=by
 unfold JR at h;unfold ua;split at h
 ·rename_i n hn;simp only[zea] at h;simp only[decide_eq_false_iff_not];omega
 ·cases h
def VN{x:D}(h:ua E g x y=true\/JR E g x y=true):∃ n,ws E g x y=some n:=by
 rcases h with h|h
 ·unfold ua at h;split at h
  ·exact⟨_,by assumption⟩
  ·cases h
 ·unfold JR at h;split at h
  ·exact⟨_,by assumption⟩
  ·cases h
variable{l:List D}(hc:u6 E g l=true)
include hc
def fK{i j:Nat}{x y:D}(hi:l[i]?=some x)(d:l[j]?=some y):(ua E g x y=true↔i<j)/\∃ n,ws E g x y=some n:=by
 obtain⟨h1,c⟩:=lr hc;obtain⟨a,rfl⟩:=zra.1 hi;obtain⟨b,rfl⟩:=zra.1 d;rcases zod i j with k|k|k
 ·have:=zGb.1 h1 i j a b k;exact⟨⟨λ_=>k,λ_=>this.1⟩,VN (.inl this.1)⟩
 ·subst k;have:=c _ (zGa a);exact⟨⟨λh=>(by rw[LT this] at h;cases h),λh=>zgb h (Nat.lt_irrefl _)⟩,VN (.inr this)⟩
 ·have:=zGb.1 h1 j i b a k;exact⟨⟨λh=>(by rw[LT this.2] at h;cases h),λh=>u0⟩,VN (.inr this.2)⟩
def yO:l.Nodup:=by obtain⟨h1,a⟩:=lr hc;refine h1.imp λ{x y} h e=>?_;subst e;rw[LT h.2] at h;cases h.1
def Le(E:Env)(g:Nat)(l:List D)(x y:{d:D // d∈l}):Int:=(ws E g x.1 y.1).getD 0
omit hc in
def De{x y:{d:D // d∈l}}:ltOf (Le E g l) x y=ua E g x.1 y.1:=by unfold ltOf Le ua;cases ws E g x.1 y.1<;>simp
def Sp:SWO (ltOf (Le E g l)):=by
 have e:∀ x:{d:D // d∈l},∃ i,l[i]?=some x.1:=λx=>by obtain⟨i,h1,f⟩:=z3a x.2;exact⟨i,by rw[zda h1,f]⟩
 have key:∀ (x y:{d:D // d∈l}) (i j:Nat),l[i]?=some x.1->l[j]?=some y.1->(ltOf (Le E g l) x y=true↔i<j):=λx y i j hi c=>by rw[De];exact(fK hc hi c).1
 refine⟨λx=>?_,λx y z h1 f=>?_,λx y z h1 f=>?_⟩
 ·obtain⟨i,hi⟩:=e x;cases h:ltOf (Le E g l) x x with
  | false=>rfl
  | true=>exact zgb ((key x x i i hi hi).1 h) (Nat.lt_irrefl _)
 ·obtain⟨i,hi⟩:=e x;obtain⟨j,c⟩:=e y;obtain⟨k,hk⟩:=e z;have a:=(key x y i j hi c).1 h1;have b:=(key y z j k c hk).1 f;exact(key x z i k hi hk).2 u0
 ·obtain⟨i,hi⟩:=e x;obtain⟨j,c⟩:=e y;obtain⟨k,hk⟩:=e z;have a:¬ i<j:=λh=>by rw[(key x y i j hi c).2 h] at h1;cases h1
  have b:¬ j<k:=λh=>by rw[(key y z j k c hk).2 h] at f;cases f
  cases h:ltOf (Le E g l) x z with
  | false=>rfl
  | true=>have:=(key x z i k hi hk).1 h;omega
def Jt[Inhabited {d:D // d∈l}]{d d':Array {d:D // d∈l}}(I:(d.toList.map (·.1)).Perm l)(hp:PermIn 0 d.size d d')(J:SortedIn (ltOf (Le E g l)) 0 d.size d'):d'.toList.map (·.1)=l:=by
 obtain⟨p1,_,B⟩:=hp;have q:d'.toList.Perm d.toList:=by
  have C:d'.extract 0 d.size=d':=by rw[<-p1];simp
  rw[C] at B;simpa using B
 have qp:=(q.map _).trans I;have hlen:=qp.length_eq;have nd:=qp.symm.nodup (yO hc);have asc:(d'.toList.map (·.1)).Pairwise (λx y=>ua E g x y=true):=by
  rw[zGb];intro i j hi r k;simp only[zka,zEb] at hi r;have h1:=J i j (zoa _) k u0
  rw[getElem!_pos d' j r,getElem!_pos d' i hi,De] at h1;simp only[List.getElem_map,zDd];obtain⟨a,m,c⟩:=z3a (d'[i]).2;obtain⟨b,n,f⟩:=z3a (d'[j]).2;have u:l[a]?=some (d'[i]).1:=by rw[zda m,c]
  have v:l[b]?=some (d'[j]).1:=by rw[zda n,f]
  have L:¬ b<a:=λh=>by rw[(fK hc v u).1.2 h] at h1;cases h1
  have M:a≠b:=λe=>by
   subst e;have:(d'[i]).1=(d'[j]).1:=by rw[<-c,<-f]
   have:=zGb.1 nd i j (by simpa using hi) (by simpa using r) k
   simp only[List.getElem_map,zDd] at this;contradiction
  exact(fK hc u v).1.2 u0
 have key:∀ {a b:List D},a.Pairwise (λx y=>ua E g x y=true)->b.Pairwise (λx y=>ua E g x y=true)->a.Perm b->(∀ x∈a,x∈l)->a=b:=by
  intro a
  induction a with
  | nil=>intro b _ _ hp _;exact hp.symm.eq_nil.symm ▸ rfl
  | cons x a ih=>
   intro b N H hp hm;cases b with
   | nil=>exact zgb hp.eq_nil j2
   | cons y b=>
    obtain⟨a1,a2⟩:=zNa.1 N;obtain⟨b1,b2⟩:=zNa.1 H;have e:x=y:=by
     rcases zOa.1 (hp.subset zBa) with e|m1
     ·exact e
     ·rcases zOa.1 (hp.symm.subset (zBa (a:=y))) with e|G
      ·exact e.symm
      ·exfalso;have h1:=b1 x m1;have F:=a1 y G;obtain⟨i,o,p⟩:=z3a (hm x zBa);obtain⟨j,s,t⟩:=z3a (hm y (zsa _ G));have w:l[i]?=some x:=by rw[zda o,p]
       have A:l[j]?=some y:=by rw[zda s,t]
       have:=(fK hc w A).1.1 F;have:=(fK hc A w).1.1 h1;omega
    subst e;rw[ih a2 b2 ((List.perm_cons x).1 hp) (λz K=>hm z (zsa _ K))]
 exact key asc ((lr hc).1.imp λh=>h.1) qp λx hx=>qp.subset hx
end
end
section
variable{S:Nat->Nat->Prop}{l:List D}
def uM:D->Bool
 | .int ..=>true
 | .bool _=>true
 | _=>false
def gU:D->Value
 | .int k n=>.int k n
 | .bool b=>.bool b
 | _=>undef
mutual
theorem iF:∀ (t:Ty) (x:D),bX t=true->wt t x->∀ d∈x.flat,uM d=true
 | .int k,x,_,h=>by simp only[wt] at h;obtain⟨n,rfl⟩:=h;intro d hd;simp only[D.flat,zUa] at hd;subst hd;rfl
 | .bool,x,_,h=>by simp only[wt] at h;obtain⟨n,rfl⟩:=h;intro d hd;simp only[D.flat,zUa] at hd;subst hd;rfl
 | .str,x,hc,h=>by simp[bX] at hc
 | .st ts,x,hc,h=>by simp only[wt] at h;obtain⟨l,rfl,hl⟩:=h;simp only[bX] at hc;simp only[D.flat];exact w8 ts l hc hl
 | .arr n t,x,hc,h=>by
  simp only[wt] at h;obtain⟨l,rfl,hn,hl⟩:=h;clear hn;simp only[bX] at hc;simp only[D.flat]
  induction l with
  | nil=>intro d hd;simp[N] at hd
  | cons y l ih=>
   intro d hd;simp only[N,zKa] at hd;rcases hd with hd|hd
   ·exact iF t y hc (hl y zBa) d hd
   ·exact ih (λz hz=>hl z (zsa _ hz)) d hd
 | .sl t,x,hc,h=>by simp[bX] at hc
 | .tup l,x,hc,h=>by simp[bX] at hc
 | .fn,x,hc,h=>by simp[bX] at hc
theorem w8:∀ (ts:List Ty) (l:List D),nC ts=true->fm ts l->∀ d∈N l,uM d=true
 | [],l,_,h=>by simp only[fm] at h;subst h;intro d hd;simp[N] at hd
 | t::ts,l,hc,h=>by
  simp only[fm] at h;obtain⟨y,l',rfl,h1,h2⟩:=h;simp only[nC,X] at hc;intro d hd;simp only[N,zKa] at hd;rcases hd with hd|hd
  ·exact iF t y hc.1 h1 d hd
  ·exact w8 ts l' hc.2 h2 d hd
end
def Gj{w:World}{d:D}{c:Value}(hl:uM d=true):CR w S d c↔c=gU d:=by
 cases d<;>simp only[uM] at hl<;>try(cases hl;done)
 ·exact⟨λh=>h.int_inv,λh=>by subst h;exact .int _ _⟩
 ·exact⟨λh=>h.bool_inv,λh=>by subst h;exact .bool _⟩
def df{w:World}{cs:List Value}(hl:∀ d∈l,uM d=true):cY w S l cs↔cs=l.map gU:=by
 constructor
 ·rintro⟨h1,f⟩;apply zOb;intro i;rw[z2b];rcases zua i l.length with k|k
  ·have a:=zda k;have b:=zda (h1 ▸ k);rw[a,b];simp only[zUb,zca];exact(Gj (hl _ (zGa k))).1 (f i _ _ a b)
  ·rw[zXa k,zXa u0];rfl
 ·rintro rfl;refine⟨j2,λi d c e hc=>?_⟩
  rw[z2b,e] at hc;simp only[zUb,zca] at hc;exact(Gj (hl d (zeb e))).2 hc.symm
theorem za{k:Nat}(hk:0<k):∀ (l:List D),(∀ x∈l,x.flat.length=k)->∀ t,(N l)[t]?=(l[t/k]?).bind λx=>x.flat[t%k]?
 | [],_,t=>by simp[N]
 | x::l,h,t=>by
  have hx:=h x zBa;simp only[N];rcases zua t k with c|c
  ·rw[zab u0,zcb c,z0a c];rfl
  ·rw[zRb u0,hx,za hk l (λy d=>h y (zsa _ d)) (t-k)]
   have a:t/k=(t-k)/k+1:=by rw[Nat.div_eq_sub_div hk c]
   have b:=Nat.mod_eq_sub_mod c;rw[a,b];rfl
structure SortOk(P:Program)(f:Nat)(e:Ty):Prop where
 cmp:bX e=true
 agg:dh e=true
 pos:0<e.size
 nt:ak e=true
 fn : ∃ fn, P.funcs[f]? = some fn /\ (fn.name == "runtime.NumGoroutine") = false /\ fn.body.isSome = true
 empty:∀ (p:Option Addr) (cap:Nat) (fv:Value) (w:World),Calls P f #[.slice p 0 cap,fv] w λen w'=>en=.returned (.tuple #[])/\w'=w
 whole:∀ (α:Type) [Inhabited α] (enc:α->List Value) (_:∀ x,(enc x).length=e.size) (_:∀ x,∀ v∈enc x,v.oneCell'=true) (cf:α->α->Int) (_:SWO (ltOf cf)) (g:Nat) (blk off cap:Nat) (d:Array α) (w:World)
  (_:∀ args w,(callFunc g args).run P w=.ok (.enter g args) w) (_:CmpLays P g #[] enc e.size cf blk off d.size w) (_:HoldsK enc e.size w blk off d) (_:blk<w.heap.size) (_:d.size<4611686018427387904),
  Calls P f #[.slice (some ⟨blk,off,none⟩) d.size cap,.func (.func g) #[] #[]] w λen w'=>en=.returned (.tuple #[])/\∃ d' n os,PermIn 0 d.size d d'/\SortedIn (ltOf cf) 0 d.size d'/\w'=sortWorldK enc e.size w blk off n d' os
section
variable{P:Program}{E:Env}
def EP(hE:EnvOk P E){g:Nat}{ptys:List Ty}{rty:Ty}(h:E.sig g=some (ptys,rty))(args:Array Value)(w:World):(callFunc g args).run P w=.ok (.enter g args) w:=by
 obtain⟨_,_,fn,f1,f2,f3⟩:=hE.sig g ptys rty h;have f2' : ¬ fn.name = "runtime.NumGoroutine" := by simpa using f2
 have hb':¬ fn.body=none:=by intro hh;rw[hh] at f3;cases f3
 simp[callFunc,f1,f2',hb']
def Js(hE:EnvOk P E){f:Nat}{e:Ty}(H:SortOk P f e){g:Nat}(B:E.sig g=some ([e,e],.int .i64)/\E.free g=0){l':List D}(a7:∀ x∈l,wt e x)(hs:kR E g l=some l')(a4:l≠[]){w:World}{b off cap:Nat}{row:Array Value}
  (R:ck w b=some row) (hc:∀ (i:Nat) (d:D),(N l)[i]?=some d->w.cell? ⟨b,off+i,none⟩=some (gU d)) (hlen:l.length<4611686018427387904) :
  Calls P f #[.slice (some ⟨b,off,none⟩) l.length cap,.func (.func g) #[] #[]] w λen w'=>en=.returned (.tuple #[])/\l'.Perm l/\w.drawn<=w'.drawn/\w'.tape=w.tape/\w'.os=w.os/\w'.output=w.output/\w.heap.size<=w'.heap.size ∧
   (∀ T,T≠b->T<w.heap.size->w'.heap[T]?=w.heap[T]?)/\∀ (i:Nat) (d:D),(N l')[i]?=some d->w'.cell? ⟨b,off+i,none⟩=some (gU d):=by
 have a5:u6 E g l'=true/\l'=nc (ua E g) l:=by
  unfold kR at hs;split at hs
  ·rename_i h;cases hs;exact⟨h,rfl⟩
  ·cases hs
 obtain⟨s,hl'⟩:=a5;have k:l'.Perm l:=hl' ▸ iM _ l;have I:∀ x∈l,x∈l':=λx hx=>k.symm.subset hx;have p:∀ x∈l',wt e x:=λx hx=>a7 x (k.subset hx);obtain⟨x0,a8⟩:∃ x0,x0∈l':=by
  cases l with
  | nil=>exact zgb rfl a4
  | cons x l=>exact⟨x,I x zBa⟩
 have a9:Inhabited {d:D // d∈l'}:=⟨⟨x0,a8⟩⟩;have a0:∀ x:{d:D // d∈l'},x.1.flat.length=e.size:=λx=>cL e x.1 (p x.1 x.2) H.nt;have A:∀ x:{d:D // d∈l'},∀ d∈x.1.flat,uM d=true:=λx=>iF e x.1 H.cmp (p x.1 x.2);obtain⟨d,Q⟩:∃ d:Array {d:D // d∈l'},d.toList.map (·.1)=l:=⟨(l.pmap Subtype.mk I).toArray,by simp[List.map_pmap]⟩
 have M:d.size=l.length:=by rw[<-Q];simp
 have U:b<w.heap.size:=by
  unfold ck at R;cases O:w.heap[b]? with
  | none=>rw[O] at R;cases R
  | some o=>exact(zpa.1 O).1
 have Y:∀ o,w.frozen? ⟨b,o,none⟩=false:=λo=>by
  unfold ck at R;split at R
  ·rename_i c t O;unfold World.frozen?;simp[O]
  ·cases R
 have at_:∀ (dd:Array {d:D // d∈l'}) (t:Nat),t<dd.size*e.size->(N (dd.toList.map (·.1)))[t]?.map gU=some ((flatK (λx:{d:D // d∈l'}=>x.1.flat.map gU) e.size dd)[t]!):=λdd t ht=>by
  rw[get_flatK _ _ _ _ ht,za H.pos _ (λx hx=>by obtain⟨y,_,rfl⟩:=zmb.1 hx;exact a0 y)]
  have h1:t/e.size<dd.size:=(z2a H.pos).2 ht;have F:t%e.size<e.size:=zVa _ H.pos;rw[z2b,zQa,zJb h1,getElem!_pos dd _ h1];simp only[zUb,zba];have h3:t%e.size<(dd[t/e.size]).1.flat.length:=by rw[a0];exact F
  rw[zda h3,getElem!_pos _ _ (by simpa using h3)]
  simp
 have hH:HoldsK (λx:{d:D // d∈l'}=>x.1.flat.map gU) e.size w b off d:=by
  intro j hj;rw[size_flatK] at hj;refine⟨?_,Y _⟩;have:=at_ d j hj;rw[Q] at this;cases hq:(N l)[j]? with
  | none=>rw[hq] at this;cases this
  | some q=> rw[hq] at this;simp only[zUb,zca] at this;rw[hc j q hq,this];rfl
 have V:CmpLays P g #[] (λx:{d:D // d∈l'}=>x.1.flat.map gU) e.size (Le E g l') b off d.size w:=by
  intro m os dk _ x y;obtain⟨i,aO,a1⟩:=z3a x.2;obtain⟨j,a2,a3⟩:=z3a y.2;obtain⟨_,n,hn⟩:=fK s (i:=i) (j:=j) (x:=x.1) (y:=y.1) (by rw[zda aO,a1]) (by rw[zda a2,a3])
  have L:E.call g [x.1,y.1]=some (.int .i64 n):=by
   unfold ws at hn;obtain⟨r,h1,F⟩:=ab hn;rw[h1];split at F
   ·cases F;rfl
   ·cases F
  have ax:Le E g l' x y=n:=by simp[Le,hn]
  rw[ax];have K:∀ z:{d:D // d∈l'},∀ (w:World) (S:Nat->Nat->Prop),fX w S z.1 (.agg (z.1.flat.map gU).toArray):=λz w S=>by
   refine⟨?_,?_⟩
   ·have C:=p z.1 z.2;have ha:=H.agg;cases e<;>simp only[dh] at ha<;>try(cases ha;done)
    ·simp only[wt] at C;obtain⟨ll,h1,_⟩:=C;rw[h1];exact⟨_,rfl⟩
    ·simp only[wt] at C;obtain⟨ll,h1,_⟩:=C;rw[h1];exact⟨_,rfl⟩
   ·exact(df (A z)).2 (by simp[Value.cells])
  have ad:fm [e,e] [x.1,y.1]:=⟨x.1,[y.1],rfl,p _ x.2,⟨y.1,[],rfl,p _ y.2,rfl⟩⟩;have u:=(hE.call g [e,e] (.int .i64) [x.1,y.1] (.int .i64 n) B.1 L ad).1;rw[B.2] at u;have W:=u
   (sortWorldK (λx:{d:D // d∈l'}=>x.1.flat.map gU) e.size w b off m dk os) (λ_ _=>False) [.agg (x.1.flat.map gU).toArray,.agg (y.1.flat.map gU).toArray] (λ_ _ h=>h.elim) ad rfl
   (λi z v C J=>by
    cases i with
    | zero=>simp at C J;subst C;subst J;exact K x _ _
    | succ i=>cases i with
     | zero=>simp at C J;subst C;subst J;exact K y _ _
     | succ i=>simp at C)
  refine W.mono ?_;rintro en w' ⟨v,rfl,⟨os',dr,aI,rfl⟩,_,J⟩;have a6:v=.int .i64 n:=by
   obtain⟨c1,c2⟩:=(J:fX _ _ _ _);have:=(df (by intro d Q;simp only[D.flat,zUa] at Q;subst Q;rfl)).1 c2
   exact ap c1 (by simpa [D.flat,gU] using this)
  refine⟨by rw[a6],dr-(sortWorldK (λx:{d:D // d∈l'}=>x.1.flat.map gU) e.size w b off m dk os).drawn,os'.toArray,?_⟩
  unfold grown grow World.drewN;simp only[show ∀ a b:Nat,a<=b->a+(b-a)=b from λa b h=>u0,aI]
 have hO:=Sp s;have key:=H.whole {d:D // d∈l'} (λx=>x.1.flat.map gU) (λx=>by simp[a0 x]) (λx v J=>by obtain⟨q,hq,rfl⟩:=zmb.1 J;have:=A x q hq;cases q<;>simp only[uM] at this<;>first|(cases this;done)|rfl) (Le E g l') hO g b off cap d w (EP hE B.1) V hH U u0
 rw[M] at key;refine key.mono ?_;rintro en w' ⟨rfl,d',n,os,hp,Z,rfl⟩;rw[<-M] at hp Z;have X:=Jt s (d:=d) (by rw[Q];exact k.symm) hp Z
 have G:=hp.1;have al:=holdsK_sortWorldK_c (λx:{d:D // d∈l'}=>x.1.flat.map gU) e.size w b off d d' n os hH U G;refine⟨rfl,k,?_,rfl,rfl,rfl,?_,λT O an=>?_,λi q hq=>?_⟩
 ·show w.drawn<=w.drawn+n;omega
 ·simp only[sortWorldK,grow,putRowK,putRow,mapBlock,Go.Sort.ahead,Array.size_append,Array.size_modify];omega
 ·simp only[sortWorldK,grow,putRowK,putRow,mapBlock,Go.Sort.ahead];rw[Array.getElem?_append_left (by simpa using an),zad,zia (Ne.symm O)]
 ·have hi:i<d'.size*e.size:=by
   have h1:=(zra.1 hq).1;rw[aN H.nt l' p] at h1;rw[G,M,<-k.length_eq];exact h1
  have F:=at_ d' i hi;rw[X,hq] at F;simp only[zUb,zca] at F;have h3:=(al i (by rw[size_flatK];exact hi)).1
  rw[h3,<-F];rfl
end
end
end Sy
end
noncomputable section
namespace Sy
open Go Go.ChangeShapes Go.WideShapes Go.ChangeAt Go.RowKit
def bool_of{W:World}{S:Nat->Nat->Prop}{b:Bool}{v:Value}(h:DR W S (.bool b) v):v=.bool b:=by
 obtain⟨h1,c⟩:=(h:fX W S (.bool b) v);have e:=(df (by intro d a;simp only[D.flat,zUa] at a;subst a;rfl)).1 c
 exact ap h1 (by simpa [D.flat,gU] using e)
section
variable{H:Type}{enc:TypeId×Value->H}{P:Program}{W:World}
def T6{ty:Ty}{T:TypeId}(hl:cg P ty T=true)(hp:sJ ty=true){base:Nat}{v:Value}(c:Value.okWide P W .any base T v){d0:DataW H}{p0:List MemPlace}{spare:Nat->Bool}{held:Bool}(h:DataW.Trod enc P W 0 spare held T v d0 p0) :
  ∃ d,wt ty d/\Ry d/\fX W (s9 W) d v:=by
 obtain⟨fuel,g⟩:=h;obtain⟨d,h1,a,f⟩:=vQ (W:=W) ty T fuel _ _ hl hp g;refine⟨d,h1,a,?_,f⟩;have na:∀ {u:TypeDesc},P.underlying T=some u->(match u with|.struct _=>False|.array _ _=>False|_=>True)->∀ cs,v≠.agg cs:=λ{u} hu hn cs e=>by subst e;simp only[Value.okWide,hu] at c;cases u<;>simp only[Cell.okWide,Cell.ok,hu] at c<;>first|exact hn|(cases c;done)|exact c
 cases ty with
 | int k=>obtain⟨n,rfl⟩:=h1;exact na (kM hl) trivial
 | bool=>obtain⟨b,rfl⟩:=h1;exact na (u:=.bool) (by simp only[cg,X] at hl;have a:=hl.2;split at a<;>first|assumption|cases a) trivial
 | str=>obtain⟨s,rfl⟩:=h1;exact na (u:=.string) (by simp only[cg,X] at hl;have a:=hl.2;split at a<;>first|assumption|cases a) trivial
 | st ts=> obtain⟨l,rfl,_⟩:=h1;obtain⟨i,hu,_⟩:=j6 hl;obtain⟨cs,h,_⟩:=okWide_struct hu c;exact⟨cs,h⟩
 | arr n e=> obtain⟨l,rfl,_⟩:=h1;obtain⟨u,hu,_⟩:=fi hl;simp only[Value.okWide,hu] at c;obtain⟨cs,h,_⟩:=c;exact⟨cs,h⟩
 | sl e=> obtain⟨l,rfl,_⟩:=h1;obtain⟨u,hu,_⟩:=jv hl;exact na hu trivial
 | tup l=>simp[cg] at hl
 | fn=>simp[cg] at hl
def C9(P:Program):List Ty->List TypeId->Bool
 | [],[]=>true
 | ty::a,T::Ts=>cg P ty T&&sJ ty&&C9 P a Ts
 | _,_=>false
theorem Qq:∀ {c:List Ty} {Ts:List TypeId},C9 P c Ts=true->∀ {vs:List Value} {e:List (DataW H)} {ps:List MemPlace} {base:Nat} {spare:Nat->Bool} {held:Bool},DataW.TrodAll enc P W 0 spare held Ts vs e ps ->
  (∀ (j:Nat) t v,Ts[j]?=some t->vs[j]?=some v->Value.okWide P W .any base t v)->∃ xs,fm c xs/\Bp xs/\vs.length=xs.length/\∀ (i:Nat) (x:D) (v:Value),xs[i]?=some x->vs[i]?=some v->fX W (s9 W) x v
 | [],[],_,vs,e,ps,base,spare,held,h,f=>by obtain⟨rfl,rfl,rfl⟩:=trodAll_nil h;exact⟨[],rfl,trivial,rfl,j2⟩
 | ty::c,T::Ts,hl,vs,e,ps,base,spare,held,h,f=>by
  simp only[C9,X] at hl;obtain⟨v,k,d,g,p,q,rfl,rfl,rfl,h0,h1⟩:=trodAll_cons h;obtain⟨x,x1,l,s⟩:=T6 hl.1.1 hl.1.2 (f 0 T v rfl rfl) h0;obtain⟨xs,m,n,o,w⟩:=Qq hl.2 h1 (λj t u a b=>f (j+1) t u (by simpa using a) (by simpa using b))
  refine⟨x::xs,⟨x,xs,rfl,x1,m⟩,⟨l,n⟩,by simp[o],λi z u r hu=>?_⟩
  all_goals grind
 | [],_::_,h,_,_,_,_,_,_,_,_=>by simp[C9] at h
 | _::_,[],h,_,_,_,_,_,_,_,_=>by simp[C9] at h
theorem UM:∀ {Ts:List TypeId} {vs:List Value} {a:List (DataW H)} {ps:List MemPlace} {base:Nat} {spare:Nat->Bool} {held:Bool},DataW.TrodAll enc P W base spare held Ts vs a ps->a.length=Ts.length
 | [],vs,a,ps,_,_,_,h=>by obtain⟨rfl,rfl,rfl⟩:=trodAll_nil h;rfl
 | T::Ts,vs,a,ps,_,_,_,h=>by obtain⟨v,c,d,b,p,q,rfl,rfl,rfl,h0,h1⟩:=trodAll_cons h;simp[UM h1]
theorem H8{W':World}(hl:laidOutB P=true):∀ {Ts:List TypeId},Ts.all (λt=>P.readableRec t&&decide (t<P.types.size))=true->∀ {vs:List Value} {c:List (DataW H)} {ps:List MemPlace},
  DataW.TrodAll enc P W 0 (λ_=>true) true Ts vs c ps->Below W.heap.size W W'->(∀ x∈ps,x.block<W.heap.size)->DataW.TrodAll enc P W' 0 (λb=>decide (b<W.heap.size)) true Ts vs c ps
 | [],_,vs,c,ps,h,_,_=>by obtain⟨rfl,rfl,rfl⟩:=trodAll_nil h;exact trodAll_mk0
 | T::Ts,ht,vs,c,ps,h,e,a=>by simp only[zMb,X,zea] at ht;obtain⟨v,g,d,f,p,q,rfl,rfl,rfl,h0,h1⟩:=trodAll_cons h;exact⟨p,q,Below.trod hl ht.1.1 ht.1.2 h0 e (λx hx=>a x (by simp[hx])),H8 hl ht.2 h1 e (λx hx=>a x (by simp[hx])),rfl⟩
end
end Sy
end
noncomputable section
namespace Sy
open Go
section
variable{f:FuncId}{l:List D}
variable{ro:Option Nat}{nn:Nat}
def EG(s:St):List ResultVar->Option (Nat×List AV)
 | [.tmp i]=>match s.tm i with
  | .clo f l=>some (f,l)
  | _=>none
 | _=>none
def ug(s:St)(t:Ty):List ResultVar->Option (Nat×List D)
 | [.tmp i]=>match s.tm i with
  | .own a v l=>if a.beq t&&!(s.dead.contains v) then some (v,l) else none
  | _=>none
 | _=>none
def Fn(s:St):List ResultVar->Bool
 | [.tmp i]=>match s.tm i with
  | .nils=>true
  | _=>false
 | _=>false
def Rd{R:Type}(E:Env)(s sc:St)(a:List Nat)(b:List ResultVar)(K:AV->St->Option R):Ty->Option R
 | .fn=>(EG sc b).bind λq=>K (.clo q.1 q.2) (pL s sc a)
 | .sl t=>match ug sc t b with
  | some q=>K (.own t q.1 q.2) (pL s sc a)
  | none=>if Fn sc b then K .nils (pL s sc a) else(results E sc (.sl t) b).bind λy=>K (.d (.sl t) y) (pL s sc a)
 | c=>(results E sc c b).bind λy=>K (.d c y) (pL s sc a)
def Vl(E:Env)(fn:Func)(b:Ty)(ann:Ann)(R:Type)(s:St)(a:List AV)(K:AV->St->Option R):Option R:=
 match fn.body with
 | none=>none
 | some c=>if a.length<=fn.ntmps/\(fF s).length<=4096 then NP E c ann R (Rg s fn.ntmps a (E2 s a b)) λe sc=>match e with
   | .exit _=>none
   | _=>Rd E s sc (E2 s a b) fn.results.toList K b
  else none
def FI(n:Nat)(a:Ty):Bool:=match a with|.fn=>decide (n=1)|a=>fZ n a
section
variable{P:Program}{E:Env}{w0:Root}{S S':Nat->Nat->Prop}{γ γ':Nat->Option Nat}{β β' β'':Nat->Option (Nat×Nat)}{s sc:St}{a:Act}{w w':World}
theorem TW{c:Cx}{a:Ty}{n:Nat}{y:D}{v:Value}(f:fZ n a=true)(b:wt a y)(h:DR c.w c.S y v):AR c (.d a y) v:=by
 simp only[AR];have key:ak a=true\/∃ ts,a=.tup ts/\aR ts=true:=by unfold fZ at f;all_goals grind
 rcases key with e|⟨ts,rfl,e⟩
 ·refine .inl ⟨e,b,?_⟩;cases a<;>simp only[wt] at b<;>first
   | (obtain⟨m,rfl⟩:=b;exact h)
   | (obtain⟨m,rfl,_⟩:=b;exact h)
   | (exact b.elim)
   | (simp[ak] at e)
 ·simp_all
def Il(h:Rp w0 S γ β s a w){fn:Func}{q:Nat×List AV}(hq:EG s fn.results.toList=some q):∃ v,(Go.results fn a.tmps).run P w=.ok v w/\AR ⟨w,S,γ,β,s.ob,s.dead⟩ (.clo q.1 q.2) v:=by
 rw[kc];have hm:fn.results.mapM (lL a.tmps)=Functor.map List.toArray (fn.results.toList.mapM (lL a.tmps)):=by rw[zxc]
 rw[hm];generalize fn.results.toList=e at *;unfold EG at hq;split at hq<;>try(cases hq;done)
 rename_i i;split at hq<;>try(cases hq;done)
 rename_i f l d;cases hq;have hi:i<a.tmps.size:=by
  rcases zua i a.tmps.size with c|b
  ·exact c
  ·have:=h.tmu i (by rw[<-h.nt];exact b)
   simp_all
 have:=h.tms i hi
 simp_all [zWc,lL]
def zN(h:Rp w0 S γ β s a w){fn:Func}{t:Ty}{q:Nat×List D}(hq:ug s t fn.results.toList=some q):∃ v,(Go.results fn a.tmps).run P w=.ok v w/\AR ⟨w,S,γ,β,s.ob,s.dead⟩ (.own t q.1 q.2) v:=by
 rw[kc];have hm:fn.results.mapM (lL a.tmps)=Functor.map List.toArray (fn.results.toList.mapM (lL a.tmps)):=by rw[zxc]
 rw[hm];generalize fn.results.toList=f at *;unfold ug at hq;split at hq<;>try(cases hq;done)
 rename_i i;split at hq<;>try(cases hq;done)
 rename_i g v l e;split at hq<;>try(cases hq;done)
 rename_i d;simp only[X] at d;have:=alb _ _ d.1;subst this;cases hq;have hi:i<a.tmps.size:=by
  rcases zua i a.tmps.size with c|b
  ·exact c
  ·have:=h.tmu i (by rw[<-h.nt];exact b)
   simp_all
 have:=h.tms i hi
 simp_all [zWc,lL]
def IW(h:Rp w0 S γ β s a w){fn:Func}(hq:Fn s fn.results.toList=true):∃ v,(Go.results fn a.tmps).run P w=.ok v w/\AR ⟨w,S,γ,β,s.ob,s.dead⟩ .nils v:=by
 rw[kc];have hm:fn.results.mapM (lL a.tmps)=Functor.map List.toArray (fn.results.toList.mapM (lL a.tmps)):=by rw[zxc]
 rw[hm];generalize fn.results.toList=e at *;unfold Fn at hq;split at hq<;>try(cases hq;done)
 rename_i i;split at hq<;>try(cases hq;done)
 rename_i d;have hi:i<a.tmps.size:=by
  rcases zua i a.tmps.size with c|b
  ·exact c
  ·have:=h.tmu i (by rw[<-h.nt];exact b)
   simp_all
 have:=h.tms i hi
 simp_all [zWc,lL]
theorem Re(i:EnvOk P E){a':Act}(g:Rp w0 S γ β sc a' w'){fn:Func}{a:Ty}{c:List Nat}(b:FI fn.results.size a=true){R:Type}{K:AV->St->Option R}{r:R}(hq:Rd E s sc c fn.results.toList K a=some r) :
  ∃ v x,(Go.results fn a'.tmps).run P w'=.ok v w'/\AR ⟨w',S,γ,β,sc.ob,sc.dead⟩ x v/\K x (pL s sc c)=some r:=by
 have plain:fZ fn.results.size a=true->(results E sc a fn.results.toList).bind (λy=>K (.d a y) (pL s sc c))=some r->∃ v x,(Go.results fn a'.tmps).run P w'=.ok v w'/\AR ⟨w',S,γ,β,sc.ob,sc.dead⟩ x v/\K x (pL s sc c)=some r:=λb hq=>by obtain⟨y,h1,h⟩:=ab hq;obtain⟨v,e,f,j⟩:=ke i g b h1;exact⟨v,_,e,TW b f j,h⟩
 cases a
 case fn=> obtain⟨q,h1,h⟩:=ab hq;obtain⟨v,e,f⟩:=Il (P:=P) g h1;grind
 case sl t=>
  simp only[Rd] at hq;split at hq
  ·rename_i q h1;obtain⟨v,e,f⟩:=zN (P:=P) g h1;grind
  ·split at hq
   ·rename_i h1;obtain⟨v,e,f⟩:=IW (P:=P) g h1;grind
   ·exact plain b hq
 all_goals exact plain b hq
theorem Rc(J:EnvOk P E){fn:Func}{j:Ty}(O:P.funcs[f]?=some fn)(U:FI fn.results.size j=true):Kr P f (Vl E fn j):=by
 intro ann R w0 S γ β s a w m vs K r h hlen G d;unfold Vl at d;split at d<;>try(cases d;done)
 rename_i c B;split at d<;>try(cases d;done)
 rename_i q;obtain⟨Q,A⟩:=q;obtain⟨z,H⟩:∃ z,z=E2 s m j:=⟨_,rfl⟩;rw[<-H] at d;have A:=zva (List.length_filter_le (λv=>!(z.contains v)) (fF s)) A;obtain⟨F,g⟩:∃ F,F=yz s z:=⟨_,rfl⟩;obtain⟨sh,D⟩:∃ sh:Nat->Prop,sh=λb=>(∃ id,γ id=some b)\/∃ v e,v ∉ F++s.dead/\β v=some (b,e):=⟨_,rfl⟩;have X:vs.length<=fn.ntmps:=u0
 have C:(vs.toArray++Array.replicate (fn.ntmps-vs.toArray.size) undef).size=fn.ntmps:=by simp;omega
 have I:Cx.le ⟨w,S,γ,β,s.ob,s.dead⟩ ⟨w,S,γ,β,s.ob,F++s.dead⟩:=
  ⟨λ_ _ _=>rfl,λ_ _ B=>B,λ_ _ B=>B,λid o T _=>⟨o,T,λp=>⟨rfl,rfl⟩,λt l e=>⟨l,e,rfl⟩,λ_ _ l e=>⟨l,e⟩⟩,λu hu=>⟨λhh=>hu (z9a _ hh),λb e he=>⟨he,λn hn=>hn⟩⟩⟩
 have N:Rp ⟨w,S,sh⟩ S γ β (Rg s fn.ntmps m z) { tmps:=vs.toArray++Array.replicate (fn.ntmps-vs.toArray.size) undef,defers:=[] } w:=by
  refine Hf h g D (λ_ _ hh=>hh) rfl (by rw[g];rfl) C (λt ht=>?_) λt ht=>?_
  ·have V:fn.ntmps<=t:=ht;simp only[Rg];grind
  ·simp only[Rg];by_cases hlt:t<vs.length
   ·have k:t<m.length:=u0
    have W:(vs.toArray++Array.replicate (fn.ntmps-vs.toArray.size) undef).getD t undef=vs[t]:=by simp_all
    rw[W,zDa,zda k];exact(G t _ _ (zda k) (zda hlt)).mono I
   ·rw[zDa,zXa u0]
    simp only[Option.getD_none,AR]
 refine jb J O B rfl N d (λ_ _ hh=>by cases hh) λe sc S' γ' β' a' w' M i n3 n4=>?_
 have L:Rd E s sc z fn.results.toList K j=some r->(∃ v,(Go.results fn a'.tmps).run P w'=.ok v w'/\∃ v' y s' S' γ' β',Ending.returned v=.returned v'/\K y s'=some r/\Rp w0 S' γ' β' s' a w'/\AR ⟨w',S',γ',β',s'.ob,s'.dead⟩ y v'/\Fm s S γ a w S' γ' a w'/\Sk s s'):=λhq=>by
  obtain⟨v,x,Y,Z,k3⟩:=Re J M U hq;obtain⟨β'',q1,q2⟩:=Gx h g D (by rw[g];exact A) M i.sub i.cell i.gam i.sz
  exact⟨v,Y,v,x,pL s sc z,S',γ',β'',rfl,k3,q1,Z.mono q2,⟨i.sub,i.cell,λ_ _=>rfl,i.objs,i.sz,i.gam,me.same rfl i.dfs.1⟩,⟨rfl,rfl,rfl⟩⟩
 all_goals grind
def UP(E:Env)(fn:Func)(ann:Ann)(a:List Ty)(t:Ty)(args:List D):Option (List D):=
 match fn.body with
 | none=>none
 | some c=>NP E c ann (List D) { tm:=gN a args,ob:=λ_=>none,fresh:=0,dead:=[],nt:=fn.ntmps,lkS:=[],lkO:=[] } λe s=>match e with
  | .exit _=>none
  | _=>(ug s t fn.results.toList).bind λq=>some q.2
def JY.ctr{a:List Ty}{t:Ty}{xs:List D}(h:JY P a t f xs l):NY P a (.sl t) f xs (.sl l):=by intro w S vs g d hlen c;refine(h w S vs g d hlen c).mono λe w' ⟨A,cap,he,i,j,hl,S',s1,s2,b,_⟩=>⟨_,he,i,⟨l,rfl,hl⟩,?_⟩;exact⟨λcs hh=>(by cases hh),cY.single.2 (b.mono (λ_ _ _=>rfl) s2)⟩
theorem Cv(N:EnvOk P E){fn:Func}{ann:Ann}{k:List Ty}{t:Ty}{xs:List D}(r:P.funcs[f]?=some fn)(R:k.length<=fn.ntmps)(hn:aR k=true)
  (h:UP E fn ann k t xs=some l):JY P k t f xs l:=by
 intro w S vs O B hlen I;unfold UP at h;split at h<;>try(cases h;done)
 rename_i c g;have V:=iP B;have z:(vs.toArray++Array.replicate (fn.ntmps-vs.toArray.size) undef).size=fn.ntmps:=by simp;omega
 refine jb (w0:=⟨w,S,λ_=>False⟩) (S:=S) (γ:=λ_=>none) (β:=λ_=>none) N r g rfl ?_ h (λ_ _ hh=>by cases hh) λe s' S' γ' β' a' w' F Y n3 K=>?_
 ·refine⟨⟨rfl,rfl,rfl,zja _,zja _,λ_ _=>rfl⟩,λt ht=>?_,z,λt ht=>?_,λid o b Q=>(by cases Q),λid b g=>(by cases g),λid W b g=>(by cases g),λ_ _=>rfl,λv b e _ g=>(by cases g),λv v' b e e' _ _ g=>(by cases g),λv id b e _ g=>(by cases g),λ_ _=>rfl,O,λb o g _=>g⟩
  ·simp only[gN];split
   ·rename_i ty x L a1;have m:=(zra.1 a1).1;have y:t<vs.length:=u0
    have U:(vs.toArray++Array.replicate (fn.ntmps-vs.toArray.size) undef).getD t undef=vs[t]:=by simp_all
    rw[U];obtain⟨x',C,J⟩:=ge B L;rw[a1] at C;cases C;exact dA (cc hn L) J (I t x _ a1 (zda y))
   ·simp only[AR]
  ·have T:=ht;simp only[gN];grind
 ·have p:(ug s' t fn.results.toList).bind (λq=>some q.2)=some l->(∃ v,(Go.results fn a'.tmps).run P w'=.ok v w'/\∃ a cap,Ending.returned v=.returned (.slice a l.length cap)/\(∃ os d,w.drawn<=d/\w'=grown w os d)/\ak t=true/\(∀ x∈l,wt t x)/\∃ S':Nat->Nat->Prop,(∀ b o,S b o->S' b o)/\(∀ b o,S' b o->S b o\/(w.heap.size<=b/\b<w'.heap.size)) ∧
    CR w' S' (.sl l) (.slice a l.length cap)/\((a=none/\cap=0)\/∃ b off,a=some ⟨b,off,none⟩/\(w.heap.size<=b/\b<w'.heap.size)/\(∃ n,rA w' b=some n/\off+cap*t.size<=n/\off=0)/\∀ o,off+l.length*t.size<=o->¬ S' b o)):=λhq=>by
   obtain⟨q,j,H⟩:=ab hq;cases H;have u:q.1 ∉ s'.dead:=by
    unfold ug at j;split at j<;>try(cases j;done)
    split at j<;>try(cases j;done)
    split at j<;>try(cases j;done)
    rename_i g;cases j;simp only[X,zEa] at g;simpa using g.2
   obtain⟨v,a0,M⟩:=zN (P:=P) F j;simp only[AR,AC] at M;obtain⟨na,m1,G,A,cap,m3,m4,m5⟩:=M;refine⟨v,a0,A,cap,by rw[ap na m3],fN F.ext (λ_ r=>r),m1,G,S',Y.sub,λb o g=>?_,m4,?_⟩
   ·rcases zua b w.heap.size with m|s
    ·exact .inl (F.So b o g ⟨m,λr=>r⟩)
    ·exact .inr ⟨s,F.Sb b o g⟩
   ·rcases m5 u with m5|⟨b,off,rfl,m6,m7⟩
    ·exact .inl m5
    ·obtain⟨Z,z2,z3⟩:=F.βn _ _ _ u m6;refine .inr ⟨b,off,rfl,⟨?_,z2⟩,m7,z3⟩;rcases zua b w.heap.size with m|s
     ·exact zgb ⟨m,λr=>r⟩ Z
     ·exact s
  cases e with
  | normal=>exact p K
  | ret=>exact p K
  | exit i=>cases K
end
end
end Sy
end
noncomputable section
namespace Sy
abbrev K0:Ty:=Ty.st [Ty.int .i64,Ty.int .i64,Ty.bool,Ty.int .u8]
abbrev h:Ty:=Ty.arr 3 (Ty.int .i64)
abbrev K2:Ty:=Ty.sl (h)
abbrev K3:Ty:=Ty.st [K2]
abbrev K4:Ty:=Ty.st [K3,Ty.int .i64]
abbrev K5:Ty:=Ty.sl (Ty.int .i64)
abbrev K6:Ty:=Ty.st [h,Ty.int .i64,K5]
abbrev K7:Ty:=Ty.sl (K6)
abbrev K8:Ty:=Ty.arr 2 (Ty.int .i64)
abbrev K9:Ty:=Ty.sl (K8)
abbrev bf:Ty:=Ty.arr 16 (Ty.int .u32)
abbrev c:Ty:=Ty.st [Ty.bool,Ty.bool,bf]
abbrev j:Ty:=Ty.st [c,c]
abbrev oo:Ty:=Ty.arr 3 (j)
abbrev K14:Ty:=Ty.sl (j)
abbrev eS:Ty:=Ty.st [h,Ty.int .i64]
abbrev Wp:Ty:=Ty.sl (eS)
abbrev ku:Ty:=Ty.arr 3 (c)
abbrev Qi:Ty:=Ty.arr 32 (Ty.int .u32)
abbrev K26:Ty:=Ty.sl (Ty.int .u32)
abbrev cq:Ty:=Ty.sl (c)
abbrev vi:Ty:=Ty.arr 17 (Ty.int .u32)
abbrev K31:Ty:=Ty.tup [bf,Ty.bool]
abbrev K32:Ty:=Ty.tup [Ty.int .i64,Ty.bool]
abbrev K33:Ty:=Ty.tup [K5,K5]
abbrev K34:Ty:=Ty.tup [bf,bf]
abbrev K35:Ty:=Ty.tup [c,c]
abbrev K36:Ty:=Ty.tup [bf,Ty.int .u32]
abbrev Zi:Ty:=Ty.tup []
abbrev fR:Ty:=Ty.arr 4 (Ty.int .i64)
abbrev jp:Ty:=Ty.st [h,fR]
abbrev K42:Ty:=Ty.sl (jp)
abbrev K52:Ty:=Ty.arr 2 (c)
abbrev Zj:Ty:=Ty.arr 9 (Ty.int .i64)
abbrev K56:Ty:=Ty.tup [fR,Ty.bool]
abbrev eh:Ty:=Ty.st [h,j]
abbrev K59:Ty:=Ty.st [eh,Ty.bool]
abbrev cF:Ty:=Ty.st [jp,K3,Ty.int .i64,K2]
abbrev K62:Ty:=Ty.sl (cF)
abbrev K64:Ty:=Ty.tup [eh,Ty.bool]
abbrev K67:Ty:=Ty.tup [h,Ty.int .i64]
abbrev dG:Ty:=Ty.st [jp,jp]
abbrev Ks:Ty:=Ty.st [j,eh]
abbrev SK:Ty:=Ty.sl (Ks)
abbrev K71:Ty:=Ty.st [SK,Ty.int .i64]
abbrev K72:Ty:=Ty.st [SK,Ty.bool]
abbrev K73:Ty:=Ty.st [h,j,j]
abbrev Aq:Ty:=Ty.arr 3 (cq)
abbrev JN:Ty:=Ty.arr 4 (c)
abbrev K76:Ty:=Ty.st [fR,Ty.int .i64]
abbrev K77:Ty:=Ty.st [Aq,cq]
abbrev K78:Ty:=Ty.st [cq,Ty.bool]
abbrev Gm:Ty:=Ty.arr 4 (cq)
abbrev WH:Ty:=Ty.arr 9 (cq)
abbrev K81:Ty:=Ty.sl (cq)
abbrev K82:Ty:=Ty.tup [SK,Ty.int .i64]
abbrev K83:Ty:=Ty.tup [SK,Ty.bool]
abbrev K84:Ty:=Ty.tup [Aq,cq]
abbrev K85:Ty:=Ty.tup [cq,Ty.bool]
abbrev K86:Ty:=Ty.tup [fR,Ty.int .i64]
abbrev K87:Ty:=Ty.tup [JN,Ty.bool]
def NV:Nat:=343
def Jq:Nat:=365
abbrev bb{α:Type}(t n:Nat)(a b:α):α:=bif Nat.blt t n then a else b
abbrev Ti:Ty:=.int .i64
abbrev Tb:Ty:=.bool
abbrev E:Ty:=.tup [.tup []]
abbrev So:Nat×List Ty×Ty:=(0,[],Ti)
def tyL:List (List Ty):=[[E,E,Ti,Ti,Tb,Ty.int .u8,Ty.int .u8,K0,K0,Ty.str,Ty.str,Ty.str,Ty.int .u64,E,E,E],[E,E,E,E,E,Ty.int .i32,h,h,fR,fR,jp,jp,dG,dG,K2,K3],[K3,Ty.int .u32,bf,c,c,j,j,E,E,E,SK,Ti,E,E,K71,K71],[E,eh,eh,E,E,K59,K59,E,E,E,E,K72,K72,E,E,Ks],[Ks,E,E,E,E,E,E,E,E,E,E,E,E,oo,oo,E],[E,E,K42,E,E,E,E,E,E,E,K59,E,E,E,E,K73],[K73,E,E,E,E,E,E,E,E,E,E,E,E,cq,cq,E],[E,E,E,E,E,E,E,E,E,Aq,E,E,E,cF,cF,E],[E,E,E,K5,E,E,E,K52,E,E,E,E,E,E,E,E],[E,E,E,E,E,E,E,JN,K76,K76,E,Ty.int .u64,E,Ty.int .u64,E,E],[E,E,E,E,E,E,E,E,E,K77,K77,E,K78,K78,E,E],[E,E,E,Gm,E,E,E,E,WH,E,E,E,E,E,E,K4],[K4,E,E,E,E,E,E,E,E,E,E,ku,E,E,E,K62],[K7,E,K6,K6,E,E,E,E,E,K9,E,K8,E,E,E,E],[E,E,E,E,E,E,E,E,E,Qi,K26,E,E,E,E,E],[E,E,E,vi,E,E,E,E,E,K81,E,E,E,E,E,E],[Zj,E,E,E,E,Wp,E,eS,eS,E,E,eS,eS,E,E,E],[E,E,E,K14,E,E,E,E,E,E,E,E,E,E,E,E],[E,E,E,E,E,E,E,E,E,E,E,E,E,E,E,Ti],[E,E,E,E,E,E,E,E,E,E,E,Ty.int .u64,E,E,E,E],[E,E,E,E,E,E,E,E,E,E,E,E,E,E,Ty.int .u8,Ty.int .u8],[E,E,Ty.int .i32,Ty.int .i32,E,E,E]]
def tyX(t:Nat):Ty:=(tyL.getD (t/16) []).getD (t%16) E
def Yp(t:Nat):Option Ty:=bif Nat.blt t NV then(bif (tyX t).beq E then none else some (tyX t)) else none
def afo:List (List (Nat×List Ty×Ty)):=[[So,So,So,So,So,(469,[dG,K3,dG,K3,Ty.int .u8,Ty.int .u8],Tb),So,(471,[dG,K3,dG,K3,Ti],Tb),So,(473,[],Tb),(474,[dG,K3,dG,K3,Ti],K82),So,(476,[dG,K3,dG,K3,j,j],K64),So,(478,[SK,SK],Tb),(479,[dG,K3,dG,K3,j,j,Ti],K83)],[So,(217,[c],Ti),(481,[dG,K3,dG,K3,SK],Tb),So,(74,[Ti],j),(483,[eh,dG,K3,dG,K3,j,j],Tb),So,(97,[h],h),(357,[j],j),(485,[j,j],j),(136,[j],Tb),(342,[j],Ti),(73,[j,j],Ti),(72,[h,oo],j),(486,[dG,h,j],oo),So],[(427,[jp],Tb),(431,[K3,Ti],Tb),(88,[j],Tb),So,So,So,So,(487,[],K3),(488,[h,h],dG),So,(333,[Ti,Ti],j),(416,[jp,K3,jp,K3],K64),So,So,(490,[j,j],j),So],[So,So,So,(112,[h,h],h),So,So,(127,[bf],Ti),(118,[cq],Tb),(165,[Ty.int .u32],Ti),(90,[c,c],Ti),(54,[Ti],c),(32,[c,c],Ti),(34,[Ti],c),(138,[c],j),(496,[eh],Tb),(497,[dG,K3,Ti,eh,j,j],Tb)],[(498,[cq,j,j],Tb),(499,[cq,c],cq),(500,[dG,h,eh],cq),So,So,So,So,(130,[],j),(68,[c],c),(174,[j,j],j),(173,[j,j],j),(128,[c],Tb),(129,[c],Ti),(131,[c,c],c),(169,[],c),(132,[c,c],c)],[(137,[c,c],c),(134,[oo,oo],j),(135,[h],oo),(505,[dG,h],K84),(352,[j,j],j),(506,[cq,j],j),(433,[jp,K3],cF),(435,[cF,h],j),(331,[fR],Tb),(15,[K3],Ti),(76,[c],Tb),(83,[c],Ti),(85,[c,c],c),(133,[],c),(77,[c],K5),So],[So,(87,[c,c],c),So,So,(62,[c,c],j),So,(434,[h,cF,cF],j),(91,[h,h],c),So,So,So,So,So,So,So,So],[(507,[h,dG,K3,oo],j),(337,[j,j],j),So,(508,[dG,j],jp),(509,[j],c),(510,[j],c),(336,[j,j],j),So,So,So,So,So,So,So,So,So],[So,So,So,(167,[c],Tb),(121,[bf,bf],Ti),(116,[Tb,bf],c),(78,[K5,K5],Tb),(81,[Tb,K5],c),(82,[K5,K5],K5),(516,[cq,j,j],K85),(517,[c],Tb),(518,[],cq),So,(519,[c,c,c],c),(61,[c,c],c),(520,[cq,cq],cq)],[(521,[cq,cq],cq),So,So,So,So,So,So,So,So,(119,[],c),(57,[c,c],c),(170,[bf,bf],K34),(171,[c],c),(172,[c,c],K35),(530,[dG],Gm),(531,[dG],cq)],[So,(533,[Ti,K81],cq),(534,[cq,cq],cq),(535,[K5],cq),(536,[cq,j],K35),(385,[fR],Ti),(386,[fR,h],h),(348,[fR],Tb),(349,[fR],K56),(12,[K2],K4),(13,[K2,K2],Tb),(139,[c],Tb),(124,[c],K32),(142,[c],c),(125,[],c),(143,[K5,K5],K33)],[(140,[K5],K5),(141,[K5,Ti],Ti),(144,[Ti,Ti],Ti),(126,[K5,K5],K5),So,So,(447,[ku],K67),(18,[K3],K7),(448,[h],ku),(449,[cF],K2),(450,[h,h],ku),(147,[ku,ku],c),(148,[h],ku),(19,[K3],K7),So,(80,[h],ku)],[So,(22,[K3],K9),So,So,So,So,So,So,So,(202,[c],K32),(537,[j],c),(538,[JN],K86),(186,[c],K32),So,So,(146,[K5,K5],K5)],[So,So,So,So,So,So,So,So,(168,[Ty.int .u32,Ty.int .u32],Ti),(546,[cq],Tb),(547,[K14],Tb),(548,[cq,j,j],cq),(549,[Ti,Ti],cq),(550,[cq,Ti],c),(551,[cq],c),So],[So,(552,[c],c),(203,[c,c],c),So,So,So,So,So,So,So,So,So,So,(120,[bf,bf],K31),(122,[bf,bf],bf),(195,[bf,Ty.int .u32],K36)],[(196,[Ty.int .u32],Ti),(197,[bf,Ti],K36),So,So,So,(201,[bf,Ti],bf),(392,[fR,fR],Ti),(563,[Ti,cq,cq],c),So,(564,[Ti,K5],Ti),(565,[c,Ti],cq),So,(393,[fR],Zj),(394,[K5],Ti),(364,[Ti,Ti],Ti),(365,[Ti],Ti)],[(47,[K2],K2),(48,[K2],K7),(175,[K5,Ti],Ti),(45,[K2],Wp),(46,[K2,eS],K5),(21,[K3],K9),(103,[h,h],h),(456,[ku,ku],ku),(155,[ku],eS),So,So,So,(566,[c,c],c),(567,[fR],K56),So,So],[(194,[Ty.int .u32],Tb),So,So,So,So,(572,[cq],cq),(573,[cq,j,j],cq),So,So,So,So,So,So,(105,[h,h],Tb),(106,[h,h,h],h),(107,[h,h],Ti)],[(108,[K7,h],Tb),(109,[K2,h,Ti],Tb),(110,[K7,K6],K7),(111,[K2,h,Ti],K5),(96,[h,h,h],eS),(98,[K2,eS],Tb),So,(100,[eS,eS],Ti),(52,[K5],Ti),(53,[Ti,Ti],Ti),(101,[h,h],Ti),So,(104,[h,h,h],Ti),So,(51,[K8,K8],Ti),(154,[h,h],h)],[(187,[h],Tb),So,So,So,So,(580,[c,c,c],c),(581,[cq],cq),(123,[h,h],h),(156,[K2,h,Ti,h,h],Tb),(117,[h,h],h),(152,[Ti,Ti],Ti),So,So,(115,[Ti],Tb),So,(582,[Ti,cq],c)],[(188,[h,h],Ti),So,So,So,So,So,So,So,So,So,So,So,So,So,So,So],[So,So,(215,[Ti],Ti),So,So,So,So,So,So,So,So,So,So,So,So,So],[So,So,So,So,So,So,So,So,So,So,So,So,So]]
def Yi(t:Nat):Nat×List Ty×Ty:=(afo.getD (t/16) []).getD (t%16) So
def Sd(t:Nat):Option (Nat×List Ty×Ty):=bif Nat.blt t Jq then(bif Nat.beq (Yi t).1 0 then none else some (Yi t)) else none
def oW(t:Nat):Option (List Ty×Ty):=match Sd t with|some p=>some p.2|none=>none
def rK(t:Nat):Nat:=match Sd t with|some p=>p.1|none=>0
def jY(t:Nat):Nat:=(bb t 182 (bb t 91 (bb t 45 (bb t 22 0 (bb t 33 0 (bb t 39 0 (bb t 42 (bb t 40 0 (bb t 41 0 2)) 0)))) (bb t 68 (bb t 56 0 (bb t 62 0 (bb t 65 (bb t 63 0 (bb t 64 3 0)) 0))) 0)) (bb t 136 (bb t 113 (bb t 102 0 (bb t 107 0 (bb t 110 0 (bb t 111 0 (bb t 112 0 1))))) 0) (bb t 159 (bb t 147 (bb t 141 0 (bb t 144 (bb t 142 1 0) 0)) 0) 0))) (bb t 273 (bb t 227 0 (bb t 250 (bb t 238 0 (bb t 244 0 (bb t 247 0 (bb t 248 2 (bb t 249 0 1))))) 0)) (bb t 319 (bb t 296 0 (bb t 307 (bb t 301 (bb t 298 0 (bb t 299 0 (bb t 300 3 0))) 0) (bb t 313 (bb t 310 (bb t 308 0 (bb t 309 0 1)) 0) 0))) (bb t 342 (bb t 330 (bb t 324 (bb t 321 (bb t 320 1 0) 0) 0) 0) 0))))
def Mk(t:Nat):Option (Ty×Ty):=bif Nat.blt t NV then(bb t 171 none (bb t 257 (bb t 214 (bb t 192 none (bb t 203 (bb t 197 none (bb t 200 none (bb t 201 none (bb t 202 none (some (h,Ty.bool)))))) none)) none) (bb t 300 (bb t 278 none (bb t 289 (bb t 283 none (bb t 286 none (bb t 287 none (bb t 288 (some (eS,Ty.bool)) none)))) none)) none))) else none
def adJ:List Nat:=[0,1,2,0,0,0,0,0,0,0,0,0,169,170,0,89,0,0,183,189,0,261,193,0,0,0,0,0,0,0,0,0,59,0,60,0,0,0,0,0,0,0,0,0,0,259,260,256,257,0,301,302,296,297,58,0,0,154,0,0,0,142,100,0,0,0,0,0,72,0,0,0,29,28,20,0,90,94,134,0,191,135,136,91,0,92,0,97,34,0,57,103,0,0,0,0,292,23,293,294,295,298,0,262,300,285,286,287,288,289,290,291,51,318,0,317,133,313,55,153,237,132,238,311,172,174,179,54,75,76,71,77,79,93,81,82,26,80,61,171,176,177,173,175,178,0,207,187,188,0,0,0,314,315,303,264,312,330,331,332,333,334,335,336,337,56,0,131,216,78,155,156,157,74,73,258,0,0,321,322,323,324,325,326,327,328,204,304,320,344,0,341,345,346,272,239,240,241,242,243,244,245,201,226,0,0,0,0,0,0,0,0,339,342,343,338,348,17,0,0,0,347,0,349,350,351,352,353,354,355,356,357,358,359,360,361,362,363,364,0,0,0,0,0,0,0,0,0,0,0,0,0,0,0,0,0,0,0,0,0,0,0,0,0,0,0,0,0,0,0,0,0,0,0,0,0,0,0,0,0,0,0,0,0,0,0,0,0,0,0,0,0,0,0,0,0,0,0,0,0,0,0,0,0,0,0,0,0,0,0,0,0,0,0,0,0,0,0,0,0,0,0,0,0,0,0,0,0,0,0,0,88,0,42,0,0,118,113,0,0,0,0,27,0,0,0,0,0,167,168,0,0,84,0,0,0,0,24,0,0,0,0,0,0,254,255,0,0,0,0,0,0,0,0,0,0,0,0,0,0,0,0,0,0,0,165,166,0,0,0,0,0,246,252,253,0,0,275,0,0,0,0,0,0,308,0,0,0,0,0,0,0,0,0,0,0,43,0,0,0,0,0,0,0,0,0,0,32,0,0,0,33,0,86,102,87,0,0,0,0,0,0,0,0,0,0,0,182,184,185,186,0,0,0,0,0,263,0,0,0,0,0,0,0,101,181,180,0,0,5,0,7,0,9,10,0,12,0,14,15,0,18,0,21,0,25,30,39,40,0,46,0,0,0,0,0,62,63,64,65,66,0,0,0,0,83,85,112,115,116,117,0,0,0,0,0,137,138,139,141,143,144,0,0,0,0,0,0,0,0,158,159,0,161,162,163,164,202,203,0,0,0,0,0,0,0,217,218,219,220,221,222,225,0,0,0,0,0,0,0,0,0,0,247,249,250,268,269,0,0,0,0,277,278,0,0,0,0,0,0,309,310,319,140,223,251,114,273,307,284,248,224,45]
def cp(k:Nat):Nat:=adJ.getD k 0
def Yb:List Nat:=[15,16]
def pC(f:Nat):Bool:=Yb.any (Nat.beq f)
def pvL:List (List Nat):=[[33,39],[6,18]]
def fnL:List Nat:=[117,146,201,202]
def fnF(t:Nat):Bool:=fnL.any (Nat.beq t)
def c7(lp:{α β:Type}->(α->Option (Sum α β))->α->Option β)(call:Nat->List D->Option D)(inl:Inl):Env:={ L:=Yp,sig:=oW,call:=λf=>call (rK f),mapL:=Mk,fnT:=fnF,ownF:=pC,lp:=lp,inl:=inl.f,cod:=inl.cod,free:=jY,pv:=inl.pv }
def Hl:List (Nat×(Func×Ty))->Nat->Option (Func×Ty)
 | [],_=>none
 | p::l,f=>bif Nat.beq f p.1 then some p.2 else Hl l f
theorem t7:∀ {l:List (Nat×(Func×Ty))} {f:Nat} {p:Func×Ty},Hl l f=some p->(f,p)∈l
 | [],_,_,h=>by cases h
 | q::l,f,p,h=>by
  simp only[Hl] at h;cases hb:Nat.beq f q.1
  ·rw[hb] at h;exact zsa _ (t7 h)
  ·rw[hb] at h;cases h;rw[z1b hb];exact zBa
open Go.Proofs in
def V1:List (Nat×(Func×Ty)):=[(41,(Tryz.f41,K82)),(45,(Tryz.f45,Ty.fn)),(63,(Tryz.f63,Ty.bool)),(101,(Tryz.f101,Ty.fn)),(112,(Tryz.f112,j)),(114,(Tryz.f114,Zi)),(140,(Tryz.f140,cq)),(141,(Tryz.f141,c)),(160,(Tryz.f160,cq)),(180,(Tryz.f180,Zi)),(181,(Tryz.f181,Ty.bool)),(223,(Tryz.f223,cq)),(224,(Tryz.f224,c)),(242,(Tryz.f242,Ty.int .u64)),(243,(Tryz.f243,Ty.bool)),(244,(Tryz.f244,Zi)),(247,(Tryz.f247,c)),(248,(Tryz.f248,cq)),(249,(Tryz.f249,Ty.int .i64)),(251,(Tryz.f251,Ty.fn)),(273,(Tryz.f273,Ty.bool)),(274,(Tryz.f274,Ty.bool)),(275,(Tryz.f275,Ty.bool)),(276,(Tryz.f276,Ty.bool)),(284,(Tryz.f284,Zi)),(295,(Tryz.f295,Ty.int .i64)),(299,(Tryz.f299,Ty.int .i64)),(302,(Tryz.f302,Ty.int .i64)),(307,(Tryz.f307,Ty.int .i64)),(308,(Tryz.f308,Ty.int .i64)),(309,(Tryz.f309,c)),(319,(Tryz.f319,c))]
open Go.Proofs in
def Sv:List (Nat×(Func×Ty)):=V1++[(190,(Tryz.f190,K2)),(306,(Tryz.f306,Ty.int .i64))]
def Ss(v f:Nat):Option (Func×Ty):=Hl (bif Nat.beq v 2 then Sv else V1) f
def No{v f:Nat}{p:Func×Ty}(h:Ss v f=some p):(f,p)∈Sv:=by
 unfold Ss at h;cases hb:Nat.beq v 2
 ·rw[hb] at h;exact List.mem_append_left _ (t7 h)
 ·rw[hb] at h;exact t7 h
end Sy
end
noncomputable section
namespace Sy
open Go
def w7(P:Program):Bool:=((List.range NV).all λt=>match Yp t with|some ty=>cg P ty t&&decide (ty.high<=1000)&&ak ty|none=>true)&&fnL.all (Q0 P)
def Nh(P:Program)(f:Nat)(g:List Ty×Ty):Bool:=
 aR g.1 && (ak g.2 || match g.2 with | .tup ts => aR ts | _ => false) && match P.funcs[f]? with | some fn => !(fn.name == "runtime.NumGoroutine") && fn.body.isSome | none => false
def Fb(P:Program):Bool:=(List.range NV).all λt=>match Mk t with|some g=>bX g.1&&decide (g.1.high<=1000)&&(match P.underlying t with|some (.map K V)=>cg P g.1 K&&cg P g.2 V|_=>false)|none=>true
def FQ(P:Program):Bool:=(List.range Jq).all λf=>match oW f with|some g=>Nh P f g|none=>true
def SE{t:Nat}{ty:Ty}(h:Yp t=some ty):t<NV:=by
 unfold Yp at h;rcases zua t NV with k|k
 ·exact k
 ·have:Nat.blt t NV=false:=zoc.2 λa=>zgb (Nat.blt_eq ▸ a) (zPc.2 k);rw[this] at h;cases h
def Ml{t:Nat}{g:Ty×Ty}(h:Mk t=some g):t<NV:=by
 unfold Mk at h;rcases zua t NV with k|k
 ·exact k
 ·have:Nat.blt t NV=false:=zoc.2 λa=>zgb (Nat.blt_eq ▸ a) (zPc.2 k);rw[this] at h;cases h
def D3{t:Nat}{ty:List Ty×Ty}(h:oW t=some ty):t<Jq:=by
 unfold oW Sd at h;rcases zua t Jq with k|k
 ·exact k
 ·have:Nat.blt t Jq=false:=zoc.2 λa=>zgb (Nat.blt_eq ▸ a) (zPc.2 k);rw[this] at h;cases h
def gf(P:Program)(call:Nat->List D->Option D):Prop:=∀ f a b xs y,oW f=some (a,b)->call (rK f) xs=some y->fm a xs->NZ P (pC f) (jY f) a b f xs y
abbrev q:Type 1:={α β:Type}->(α->Option (Sum α β))->α->Option β
def am(lp:q):Prop:=∀ (α β:Type) (body:α->Option (Sum α β)) (x:α) (y:β),lp body x=some y->∃ n,so body n x=some y
def zu(N:Nat):am (λbody=>so body N):=λ_ _ _ _ _ h=>⟨N,h⟩
def qD:am (λbody=>nJ body):=λ_ _ _ _ _ h=>qx h
def L4(pv:Nat->Bool)(a:Nat->Option (Func×Ty))(lp:q)(call:Nat->List D->Option D):Nat->Inl
 | 0=>⟨pv,λ_=>none,λ_ _ _ _ _=>none⟩
 | n+1=>⟨pv,λf=>match a f with
  | some p=>some (Vl (c7 lp call (L4 pv a lp call n)) p.1 p.2)
  | none=>none,λc an R s k=>NP (c7 lp call (L4 pv a lp call n)) c an R s k⟩
def UZ{P:Program}(h:w7 P=true){t:Nat}(ht:fnF t=true):Q0 P t=true:=by simp only[w7,X] at h;exact zya.1 h.2 t (by simpa [fnF] using ht)
section
variable{P:Program}
def wJ(h1:w7 P=true)(h2:FQ P=true)(h4:Fb P=true)(h3:P.follows .mixedOrders=true){lp:q}(hlp:am lp){call:Nat->List D->Option D}(hc:gf P call)
  {inl : Inl} (hcod : JX P inl.cod) (hi : ∀ f g, inl.f f = some g -> (∃ fn, P.funcs[f]? = some fn /\ (fn.name == "runtime.NumGoroutine") = false /\ fn.body.isSome = true) /\ Kr P f g) : EnvOk P (c7 lp call inl) := by
 have k1:∀ t ty,Yp t=some ty->cg P ty t=true/\ty.high<=1000/\ak ty=true:=λt ty ht=>by have:=zya.1 (X _ _ ▸ h1:_/\_).1 t (zRa.2 (SE ht));rw[ht] at this;simp only[X,zea] at this;exact⟨this.1.1,this.1.2,this.2⟩
 refine⟨λt ty ht=>.inr (k1 t ty ht).1,λt ty ht=>(k1 t ty ht).2.1,λt ty ht=>(k1 t ty ht).2.2,λf ptys rty hf=>?_,hc,h3,hlp,λt kt vt ht=>?_,hi,hcod,λt ht=>UZ h1 ht⟩
 ·have:=zya.1 h2 f (zRa.2 (D3 hf));rw[show oW f=some (ptys,rty) from hf] at this;simp only[Nh,X,zFb] at this;obtain⟨⟨q1,q2⟩,q3⟩:=this;refine⟨q1,?_,?_⟩
  ·rcases q2 with q2|q2
   ·exact .inl q2
   ·right;split at q2
    ·rename_i ts;exact⟨_,rfl,q2⟩
    ·cases q2
  ·split at q3
   ·rename_i fn hfn;simp only[X,zEa] at q3;exact⟨fn,hfn,q3⟩
   ·cases q3
 ·have:=zya.1 h4 t (zRa.2 (Ml ht));rw[show Mk t=some (kt,vt) from ht] at this;simp only[X,zea] at this;obtain⟨⟨m1,G⟩,m3⟩:=this;refine⟨m1,?_⟩;split at m3<;>try(cases m3;done)
  rename_i K V hu;simp only[X] at m3;exact⟨K,V,hu,m3.1,m3.2,G⟩
def FX (P : Program) (f : Nat) (p : Func × Ty) : Prop := P.funcs[f]? = some p.1 /\ (!(p.1.name == "runtime.NumGoroutine") && p.1.body.isSome && FI p.1.results.size p.2) = true
theorem A2{pv:Nat->Bool}{b:Nat->Option (Func×Ty)}(h1:w7 P=true)(c:FQ P=true)(e:Fb P=true)(d:P.follows .mixedOrders=true)(ht:∀ f p,b f=some p->FX P f p){lp:q}(a:am lp){call:Nat->List D->Option D}(hc:gf P call) :
  ∀ n,EnvOk P (c7 lp call (L4 pv b lp call n))
 | 0=>wJ h1 c e d a hc (λ_ _ _ _ _ _ _ _ _ _ _ _ _ _ _ _ _ h=>by cases h) λf g h=>by cases h
 | n+1=>wJ h1 c e d a hc (UH (A2 h1 c e d ht a hc n)) λf g h=>by
  simp only[L4] at h;split at h<;>try(cases h;done)
  rename_i p hp;cases h;obtain⟨q1,i⟩:=ht f p hp;simp only[X,zEa] at i;exact⟨⟨p.1,q1,i.1.1,i.1.2⟩,Rc (A2 h1 c e d ht a hc n) q1 i.2⟩
end
end Sy
end
noncomputable section
namespace Sy
open Go Go.Proofs
def C8:w7 Tryz.prog=true:=B
def D2:FQ Tryz.prog=true:=B
def Df:Fb Tryz.prog=true:=B
def Fd:Tryz.prog.follows .mixedOrders=true:=B
def E6(v:Nat)(lp:q)(call:Nat->List D->Option D):Inl:=L4 (λt=>Nat.beq v 1||(Nat.ble 3 v&&(pvL.getD (v-3) []).any (Nat.beq t))) (Ss v) lp call 9
noncomputable abbrev kB(lp:q)(call:Nat->List D->Option D):Inl:=E6 0 lp call
def Su(v:Nat):∀ f p,Ss v f=some p->FX Tryz.prog f p:=by
 intro f p h;have key:∀ q∈Sv,FX Tryz.prog q.1 q.2:=by
  intro q hq;simp only[Sv,V1,zrb,z4b,zOa,zkc,or_false] at hq;repeat' first
   | (rcases hq with hq|hq;· subst hq;exact⟨B,B⟩)
   | (subst hq;exact⟨B,B⟩)
 exact key (f,p) (No h)
def UN{v:Nat}{lp:q}(a:am lp){call:Nat->List D->Option D}(hc:gf Tryz.prog call):EnvOk Tryz.prog (c7 lp call (E6 v lp call)):=
 A2 C8 D2 Df Fd (Su v) a hc 9
def XE{lp:q}(a:am lp){call:Nat->List D->Option D}(hc:gf Tryz.prog call):EnvOk Tryz.prog (c7 lp call (kB lp call)):=UN a hc
def X9(o:Oper):Option ByteArray:=match o.op with|.index _ (.const (.string s)) _=>some s|_=>none
def sY:Code->Option ByteArray
 | .region _ ops _=>ops.toList.findSome? X9
 | .seq a b=>(sY a).orElse λ_=>sY b
 | .cond _ a b=>(sY a).orElse λ_=>sY b
 | .block _ a=>sY a
 | .loop a=>sY a
 | .scope a=>sY a
 | _=>none
def Ln(f:Func):Code:=match f.body with|some c=>c|none=>.skip
end Sy
end
noncomputable section
namespace Sy
open Go
section
variable{y:D}{l:List D}{f:FuncId}{c:World}{j:Ty}
variable{ro:Option Nat}{nn:Nat}
def tQ(s:St)(t:Ty):AV->Option (List D)
 | .own a v l=>if a.beq t&&!(s.dead.contains v) then some l else none
 | .nils=>some []
 | _=>none
def TG(s:St)(t:Ty)(ts:List Ty):AV->Option D
 | .st a (b::l)=>if Ty.beqs (.sl t::ts) a then(tQ s t b).bind λl0=>(AV.toDl s.ob ts l).bind λxs=>some (.st (.sl l0::xs)) else none
 | _=>none
def RQ(E:Env)(s:St):Ty->List ResultVar->Option D
 | .tup (.sl t::u::ts),.tmp i::r::b=>(tQ s t (s.tm i)).bind λl=>uQ E s (u::ts) (r::b) λxs=>some (.tup (.sl l::xs))
 | .st (.sl t::ts),[.cell i T]=>(E.L T).bind λu=>match s.tm i with
  | .ptr c id p=>if u.beq c&&u.beq (.st (.sl t::ts)) then(s.ob id).bind λo=>gP o p λa=>TG s t ts a else none
  | _=>none
 | _,_=>none
def UR(E:Env)(fn:Func)(ann:Ann)(b:List Ty)(a:Ty)(args:List D):Option D:=
 match fn.body with
 | none=>none
 | some c=>NP E c ann D { tm:=gN b args,ob:=λ_=>none,fresh:=0,dead:=[],nt:=fn.ntmps,lkS:=[],lkO:=[] } λe s=>match e with
  | .exit _=>none
  | _=>RQ E s a fn.results.toList
section
variable{P:Program}{E:Env}{S S':Nat->Nat->Prop}{γ γ':Nat->Option Nat}{β β' β'':Nat->Option (Nat×Nat)}{s sc:St}{a:Act}{w w':World}
def ze(i:Rp ⟨c,S,λ_=>False⟩ S' γ β s a w){t:Ty}(hn:ak t=true){x:AV}{cs:List Value}(hx:AC ⟨w,S',γ,β,s.ob,s.dead⟩ x cs)(hq:tQ s t x=some l):∃ v0,cs=[v0]/\H6 c w S' t l v0:=by
 unfold tQ at hq;split at hq<;>try(cases hq;done)
 ·rename_i k v l';split at hq<;>try(cases hq;done)
  rename_i e;simp only[X,zEa] at e;have:=alb _ _ e.1;subst this;cases hq;have d:v ∉ s.dead:=by simpa using e.2
  simp only[AC] at hx;obtain⟨m1,G,A,cap,rfl,m4,m5⟩:=hx;refine⟨_,rfl,A,cap,rfl,m1,G,m4,?_⟩;rcases m5 d with m5|⟨b,off,rfl,m6,m7⟩
  ·exact .inl m5
  ·obtain⟨j,z2,z3⟩:=i.βn _ _ _ d m6;refine .inr ⟨b,off,rfl,⟨?_,z2⟩,m7,z3⟩;rcases zua b c.heap.size with g|f
   ·exact zgb ⟨g,λh=>h⟩ j
   ·exact f
 ·cases hq;simp only[AC] at hx;subst hx;exact⟨_,rfl,none,0,rfl,hn,j2,akg (b:=0) (off:=0) (.inl rfl) (zja _) ⟨[],cY.nil,j2⟩,.inl ⟨rfl,rfl⟩⟩
theorem H6.wt{w w':World}{t:Ty}{v:Value}(h:H6 w w' S' t l v):ak t=true/\Sy.wt (.sl t) (.sl l)/\fX w' S' (.sl l) v:=by obtain⟨A,cap,rfl,h1,a,b,_⟩:=h;exact⟨h1,by simp only[Sy.wt];exact⟨l,rfl,a⟩,akA b⟩
theorem RR(a1:EnvOk P E)(d:Rp ⟨c,S,λ_=>False⟩ S' γ β s a w){fn:Func}(hn:ak j=true\/∃ ts,j=.tup ts/\aR ts=true)(hq:RQ E s j fn.results.toList=some y) :
  ∃ v,(Go.results fn a.tmps).run P w=.ok v w/\vW c w S' j y v:=by
 rw[kc];have hm:fn.results.mapM (lL a.tmps)=Functor.map List.toArray (fn.results.toList.mapM (lL a.tmps)):=by rw[zxc]
 rw[hm];generalize fn.results.toList=I at *;unfold RQ at hq;split at hq<;>try(cases hq;done)
 ·rename_i t u ts i r I;have e:ak t=true/\aR (u::ts)=true:=by
   all_goals simp_all [ak,aR,X]
  obtain⟨l,h1,L⟩:=ab hq;obtain⟨xs,vs,k,Q,Y,R,Z,k6⟩:=sO a1 d (u::ts) (r::I) _ y e.2 L;simp only[zca] at k;subst k;have hi:i<a.tmps.size:=by all_goals grind [d.tmu,d.nt,tQ]
  have hx:=d.tms i hi;have h:(∀ cs,a.tmps.getD i undef≠.agg cs)/\AC ⟨w,S',γ,β,s.ob,s.dead⟩ (s.tm i) (a.tmps.getD i undef).cells.toList:=by unfold tQ at h1;all_goals grind [AR]
  obtain⟨v0,J,C⟩:=ze d e.1 h.2 h1;have m:=ap h.1 J;refine⟨.tuple (v0::vs).toArray,?_,?_⟩
  ·have hlen:(v0::vs).length≠1:=by simp only[zPa,R];omega
   have F:=Q;rw[zWc];simp only[lL,pure_bind,zma,map_eq_pure_bind,F,zga,zta,m]
   simp_all
  ·grind [vW]
 ·rename_i t ts i T;have e:ak t=true/\aR ts=true:=by
   all_goals simp_all [aR,ak,X]
  obtain⟨u,hu,hq⟩:=ab hq;split at hq<;>try(cases hq;done)
  rename_i t' id p B;split at hq<;>try(cases hq;done)
  rename_i n;simp only[X] at n;have m:=alb _ _ n.1;have K:=alb _ _ n.2;subst m;subst K;obtain⟨o,H,hq⟩:=ab hq;have hi:i<a.tmps.size:=by
   rcases zua i a.tmps.size with z|x
   ·exact z
   ·have:=d.tmu i (by rw[<-d.nt];exact x)
    simp_all
  have hx:=d.tms i hi;rw[B] at hx;obtain⟨b,off,M,O,A⟩:=kW hx;obtain⟨k,rfl⟩:=A o H;obtain⟨a',cs,m1,G,m3,m4,m5⟩:=lK (d.obs id o b H O) k hq;obtain⟨m6,m7⟩:=ii _ _ _ m3 G;obtain⟨v,f,g⟩:=jm (jG a1 hu m4) (w:=w) (b:=b) (off:=cD o p) m6 m7 m5;have N:v=.agg cs.toArray:=by obtain⟨i1,i2,_⟩:=g;obtain⟨zs,rfl⟩:=i2 rfl;rw[<-i1];simp[Value.cells]
  refine⟨v,?_,?_⟩
  ·have:(lL a.tmps (.cell i T)).run P w=.ok v w:=by
    rw[<-f];simp only[lL,Instr.loadAt,Instr.sureAddr,pure_bind];rw[show a.tmps.getD i undef=.pointer (some ⟨b,cD o p,none⟩) from M];rfl
   simp_all
  ·unfold TG at m1;split at m1<;>try(cases m1;done)
   rename_i a0 b0 l;split at m1<;>try(cases m1;done)
   rename_i q;have:=alc _ _ q;subst this;obtain⟨l0,q1,U⟩:=ab m1;obtain⟨xs,V,W⟩:=ab U;cases W;simp only[AC,jM] at G;obtain⟨_,_,c1,c2,rfl,g1,g2⟩:=G;obtain⟨v0,rfl,C⟩:=ze d e.1 g1 q1;obtain⟨g3,g4⟩:=BS l ts c2 xs V g2;grind [vW]
theorem vW.wt{w w':World}{v:Value}(h:vW w w' S' j y v):Sy.wt j y/\DR w' S' y v:=by
 unfold vW at h;split at h<;>first|(exact h.elim)|skip
 ·rename_i t ts;obtain⟨l,m,v0,vs,rfl,rfl,a,g,b,c,n⟩:=h;obtain⟨k,e,f⟩:=a.wt;refine⟨by simp only[Sy.wt];exact⟨_,rfl,_,_,rfl,e,b⟩,v0::vs,rfl,by simp[c],λi d u o hu=>?_⟩
  all_goals grind
 ·rename_i t ts;obtain⟨l,m,v0,cs,rfl,rfl,a,g,b,c⟩:=h;obtain⟨k,e,f⟩:=a.wt;refine⟨by simp only[Sy.wt];exact⟨_,rfl,_,_,rfl,e,b⟩,?_⟩
  obtain⟨A,cap,rfl,_⟩:=a;refine DR.of0 ⟨⟨_,rfl⟩,?_⟩;simp only[D.flat,N,Value.cells];exact f.2.append c
def JZ.ctr{a:List Ty}{xs:List D}(h:JZ P a j f xs y):NY P a j f xs y:=by intro w S vs g c hlen b;refine(h w S vs g c hlen b).mono λe w' ⟨v,he,i,S',s1,s2,d⟩=>⟨v,he,i,d.wt.1,d.wt.2.mono (λ_ _ _=>rfl) s2⟩
theorem Cw(B:EnvOk P E){fn:Func}{ann:Ann}{g:List Ty}{xs:List D}(i:P.funcs[f]?=some fn)(I:g.length<=fn.ntmps)(hn:aR g=true)(H:ak j=true\/∃ ts,j=.tup ts/\aR ts=true)
  (h:UR E fn ann g j xs=some y):JZ P g j f xs y:=by
 intro w S vs F n hlen u;unfold UR at h;split at h<;>try(cases h;done)
 rename_i c a;have L:=iP n;have m:(vs.toArray++Array.replicate (fn.ntmps-vs.toArray.size) undef).size=fn.ntmps:=by simp;omega
 refine jb (w0:=⟨w,S,λ_=>False⟩) (S:=S) (γ:=λ_=>none) (β:=λ_=>none) B i a rfl ?_ h (λ_ _ hh=>by cases hh) λe s' S' γ' β' a' w' q Q T U=>?_
 ·refine⟨⟨rfl,rfl,rfl,zja _,zja _,λ_ _=>rfl⟩,λt ht=>?_,m,λt ht=>?_,λid o b G=>(by cases G),λid b a=>(by cases a),λid M b a=>(by cases a),λ_ _=>rfl,λv b e _ a=>(by cases a),λv v' b e R _ _ a=>(by cases a),λv id b e _ a=>(by cases a),λ_ _=>rfl,F,λb o a _=>a⟩
  ·simp only[gN];split
   ·rename_i ty x A r;have k:=(zra.1 r).1;have l:t<vs.length:=u0
    have K:(vs.toArray++Array.replicate (fn.ntmps-vs.toArray.size) undef).getD t undef=vs[t]:=by simp_all
    rw[K];obtain⟨V,p,z⟩:=ge n A;rw[r] at p;cases p;exact dA (cc hn A) z (u t x _ r (zda l))
   ·simp only[AR]
  ·have J:=ht;simp only[gN];grind
 ·have C:RQ E s' j fn.results.toList=some y->(∃ v,(Go.results fn a'.tmps).run P w'=.ok v w'/\∃ v',Ending.returned v=.returned v'/\(∃ os d,w.drawn<=d/\w'=grown w os d)/\∃ S':Nat->Nat->Prop,(∀ b o,S b o->S' b o)/\(∀ b o,S' b o->S b o\/(w.heap.size<=b/\b<w'.heap.size))/\vW w w' S' j y v'):=λhq=>by
   obtain⟨v,N,O⟩:=RR B q H hq;refine⟨v,N,v,rfl,fN q.ext (λ_ i=>i),S',Q.sub,λb o a=>?_,O⟩;rcases zua b w.heap.size with k|s
   ·exact .inl (q.So b o a ⟨k,λi=>i⟩)
   ·exact .inr ⟨s,q.Sb b o a⟩
  all_goals grind
end
end
end Sy
end
noncomputable section
namespace Sy
open Go Go.Proofs
section
variable{f:Nat}
inductive CT where
 | leaf (k:Nat) (g:(Nat->List D->Option D)->List D->Option D)
 | node (m:Nat) (a b:CT)
def CT.get:CT->Nat->(Nat->List D->Option D)->List D->Option D
 | .leaf k g,f,call,xs=>bif Nat.beq f k then g call xs else none
 | .node m a b,f,call,xs=>bif Nat.blt f m then a.get f call xs else b.get f call xs
def l(f:Nat)(g:(Nat->List D->Option D)->List D->Option D):Prop:=
 ∀ call,gf Tryz.prog call->∀ a b xs y,oW (cp f)=some (a,b)->g call xs=some y->fm a xs->NZ Tryz.prog (pC (cp f)) (jY (cp f)) a b (cp f) xs y
def CT.ok:CT->Prop
 | .leaf k g=>l k g
 | .node _ a b=>a.ok/\b.ok
theorem akj:∀ {t:CT},t.ok->∀ {call},gf Tryz.prog call->∀ f c d xs y,oW (cp f)=some (c,d)->t.get f call xs=some y->fm c xs->NZ Tryz.prog (pC (cp f)) (jY (cp f)) c d (cp f) xs y
 | .leaf k g,h,call,hc,f,c,d,xs,y,i,e,hw=>by
  simp only[CT.get] at e;cases hb:Nat.beq f k with
  | false=>rw[hb] at e;cases e
  | true=> rw[hb] at e;have:=z1b hb;subst this;exact h call hc c d xs y i e hw
 | .node m a b,h,call,hc,f,c,d,xs,y,i,e,hw=>by
  simp only[CT.get] at e;cases hb:Nat.blt f m with
  | false=>rw[hb] at e;exact akj h.2 hc f c d xs y i e hw
  | true=>rw[hb] at e;exact akj h.1 hc f c d xs y i e hw
def T5:((List.range Jq).all λf=>match Sd f with|some p=>Nat.beq (cp p.1) f|none=>true)=true:=B
def Ql{g:List Ty×Ty}(h:oW f=some g):cp (rK f)=f:=by
 have a:=zya.1 T5 f (zRa.2 (D3 h));unfold oW at h;unfold rK;split at h<;>try(cases h;done)
 rename_i p hp;rw[hp] at a;exact z1b a
def aki{t:CT}(h:t.ok){call}(hc:gf Tryz.prog call):gf Tryz.prog λf xs=>t.get f call xs:=λf a b xs y c d hw=>by
 have e:=Ql c;have:=akj h hc (rK f) a b xs y (by rw[e];exact c) d hw
 rwa [e] at this
def B6(v:Nat)(lp:q)(f:Nat)(fn:Func)(ann:Ann)(call:Nat->List D->Option D)(xs:List D):Option D:=
 (oW (cp f)).bind λs=>bif pC (cp f) then(match s.2 with|.sl t=>(UP (c7 lp call (E6 v lp call)) fn ann s.1 t xs).bind λl=>some (.sl l)|r=>UR (c7 lp call (E6 v lp call)) fn ann s.1 r xs) else bif Nat.beq (jY (cp f)) 0 then evF (c7 lp call (E6 v lp call)) fn ann s.1 s.2 xs else UQ (c7 lp call (E6 v lp call)) fn ann s.1 (jY (cp f)) s.2 xs
def NS(f:Nat)(fn:Func):Bool:=match oW (cp f) with
 | some (p,r)=>decide (p.length<=fn.ntmps)&&fZ fn.results.size r&&aR p&&(decide (jY (cp f)<=p.length)&&(bif pC (cp f) then Nat.beq (jY (cp f)) 0 else decide (jY (cp f)<=4095)))
 | none=>false
def mY{v:Nat}{lp:q}(m:am lp){fn:Func}{ann:Ann}(e:Tryz.prog.funcs[cp f]?=some fn)(hk:NS f fn=true):l f (B6 v lp f fn ann):=by
 intro call hc n c xs y z a hw;unfold B6 at a;unfold NS at hk;rw[z] at a hk;simp only[zba] at a;simp only[X,zea] at hk;obtain⟨⟨⟨g,b⟩,i⟩,r,j⟩:=hk;have d:=UN (v:=v) m hc;cases how:pC (cp f) with
 | true=>
  rw[how] at a;simp only[cond_true] at a;have h0:jY (cp f)=0:=by rw[how] at j;simpa using j
  rw[h0];split at a
  ·rename_i t;obtain⟨S,h1,o⟩:=ab a;cases o;have hO:=Cv d e g i h1;exact⟨hO.ctr,λ_=>.inl ⟨t,S,rfl,rfl,hO⟩⟩
  ·have p:ak c=true\/∃ ts,c=.tup ts/\aR ts=true:=by
    unfold fZ at b;split at b
    ·exact .inl b
    ·split at b
     ·exact .inr ⟨_,rfl,b⟩
     ·cases b
   have hT:=Cw d e g i p a;exact⟨hT.ctr,λ_=>.inr hT⟩
 | false=>
 rw[how] at a;simp only[cond_false] at a;refine⟨?_,λh=>by cases h⟩
 cases hz:jY (cp f) with
 | zero=> rw[hz] at a;exact Ip d e g i b a
 | succ k=> rw[hz] at a;exact EJ d e g i (by rw[<-hz];exact r) (by rw[<-hz];rw[how] at j;simpa using j) b a
abbrev Ann.tl(a:Ann):Ann:=.two .leaf a
section
variable{α:Type}
noncomputable abbrev qT(x:D)(f:Bool->Option α):Option α:=(D.truth x).bind f
noncomputable abbrev Q(x:D)(p:List Nat)(f:D->Option α):Option α:=(D.get x p).bind f
noncomputable abbrev qS(x:D)(f:List D->Option α):Option α:=(D.asSl x).bind f
noncomputable abbrev qI(x:D)(l:List D)(f:D->Option α):Option α:=(D.idx x l.length).bind λk=>(l[k]?).bind f
noncomputable abbrev P(o:BinOp)(x y:D)(f:D->Option α):Option α:=(akk o x y).bind f
noncomputable abbrev qC(o:BinOp)(x y:D)(f:Bool->Option α):Option α:=(akk o x y).bind λz=>(D.truth z).bind f
noncomputable abbrev qN(x:D)(f:Bool->Option α):Option α:=(akz .not x).bind λz=>(D.truth z).bind f
noncomputable abbrev qX(x i:D)(f:D->Option α):Option α:=(D.asSl x).bind λl=>(D.idx i l.length).bind λk=>(l[k]?).bind f
noncomputable abbrev qL(x i:D)(f:Bool->Option α):Option α:=(D.asSl x).bind λl=>(akk .lss i (.int .i64 l.length)).bind λz=>(D.truth z).bind f
noncomputable abbrev qY(x:D)(p:List Nat)(i:D)(f:D->Option α):Option α:=(D.get x p).bind λx=>(D.asSl x).bind λl=>(D.idx i l.length).bind λk=>(l[k]?).bind f
noncomputable abbrev qM(x:D)(p:List Nat)(i:D)(f:Bool->Option α):Option α:=(D.get x p).bind λx=>(D.asSl x).bind λl=>(akk .lss i (.int .i64 l.length)).bind λz=>(D.truth z).bind f
noncomputable abbrev qP(x:D)(p:List Nat)(f:List D->Option α):Option α:=(D.get x p).bind λx=>(D.asSl x).bind f
noncomputable abbrev qJ(i:D)(n:Nat)(x:D)(f:D->Option α):Option α:=(D.idx i n).bind λk=>(D.get x [k]).bind f
end
abbrev qV(l:List D)(i:Nat):List D:=(l.getD i (.bool false)).els
abbrev qW(l:List D)(i:Nat):D:=D.sl ((l.getD i (.bool false)).els)
abbrev qZ(lp:q)(f:List D->Option (Sum (List D) (Nat×List D))):List D->Option (Nat×List D):=lp f
abbrev iL(l:List D):Option (Sum (List D) (Nat×List D)):=some (Sum.inl l)
abbrev iR(l:Nat×List D):Option (Sum (List D) (Nat×List D)):=some (Sum.inr l)
abbrev LO:Type:=List (Nat×ShO)
abbrev LS:Type:=List (Nat×Sh)
abbrev Jn(n:Int):D:=.int .i64 n
abbrev Ca:Type:=Nat->List D->Option D
abbrev Sh.di:Sh:=.dv (.int .i64)
abbrev Sh.sp(t:Ty)(i:Nat):Sh:=.same (.ptr t i [])
def m0(F:(Nat->List D->Option D)->Option D)(call:Nat->List D->Option D)(xs:List D):Option D:=match xs with|[]=>F call|_=>none
def zm(v:Nat)(fn:Func)(ann:Ann){lp:q}(c:am lp){F:(Nat->List D->Option D)->Option D}(g:Tryz.prog.funcs[cp f]?=some fn:=by kernel_rfl)(hk:NS f fn=true:=by kernel_rfl)
  (e:∀ call,B6 v lp f fn ann call []=F call:=by intros;kernel_rfl):l f (m0 F):=by
 intro call hc a d xs y h b hw;unfold m0 at b;split at b<;>try(cases b;done)
 exact mY (v:=v) c g hk call hc a d _ y h ((e call).trans b) hw
def m1(F:(Nat->List D->Option D)->D->Option D)(call:Nat->List D->Option D)(xs:List D):Option D:=match xs with|[a0]=>F call a0|_=>none
def aY(v:Nat)(fn:Func)(ann:Ann){lp:q}(c:am lp){F:(Nat->List D->Option D)->D->Option D}(g:Tryz.prog.funcs[cp f]?=some fn:=by kernel_rfl)(hk:NS f fn=true:=by kernel_rfl)
  (e:∀ call a0,B6 v lp f fn ann call [a0]=F call a0:=by intros;kernel_rfl):l f (m1 F):=by
 intro call hc a d xs y h b hw;unfold m1 at b;split at b<;>try(cases b;done)
 exact mY (v:=v) c g hk call hc a d _ y h ((e call _).trans b) hw
def G(F:(Nat->List D->Option D)->D->D->Option D)(call:Nat->List D->Option D)(xs:List D):Option D:=match xs with|[a0,a1]=>F call a0 a1|_=>none
def aQ(v:Nat)(fn:Func)(ann:Ann){lp:q}(c:am lp){F:(Nat->List D->Option D)->D->D->Option D}(g:Tryz.prog.funcs[cp f]?=some fn:=by kernel_rfl)(hk:NS f fn=true:=by kernel_rfl)
  (e:∀ call a0 a1,B6 v lp f fn ann call [a0,a1]=F call a0 a1:=by intros;kernel_rfl):l f (G F):=by
 intro call hc a d xs y h b hw;unfold G at b;split at b<;>try(cases b;done)
 exact mY (v:=v) c g hk call hc a d _ y h ((e call _ _).trans b) hw
def m3(F:(Nat->List D->Option D)->D->D->D->Option D)(call:Nat->List D->Option D)(xs:List D):Option D:=match xs with|[a0,a1,a2]=>F call a0 a1 a2|_=>none
def kN(v:Nat)(fn:Func)(ann:Ann){lp:q}(c:am lp){F:(Nat->List D->Option D)->D->D->D->Option D}(g:Tryz.prog.funcs[cp f]?=some fn:=by kernel_rfl)(hk:NS f fn=true:=by kernel_rfl)
  (e:∀ call a0 a1 a2,B6 v lp f fn ann call [a0,a1,a2]=F call a0 a1 a2:=by intros;kernel_rfl):l f (m3 F):=by
 intro call hc a d xs y h b hw;unfold m3 at b;split at b<;>try(cases b;done)
 exact mY (v:=v) c g hk call hc a d _ y h ((e call _ _ _).trans b) hw
def m4(F:(Nat->List D->Option D)->D->D->D->D->Option D)(call:Nat->List D->Option D)(xs:List D):Option D:=match xs with|[a0,a1,a2,a3]=>F call a0 a1 a2 a3|_=>none
def Tn(v:Nat)(fn:Func)(ann:Ann){lp:q}(c:am lp){F:(Nat->List D->Option D)->D->D->D->D->Option D}(g:Tryz.prog.funcs[cp f]?=some fn:=by kernel_rfl)(hk:NS f fn=true:=by kernel_rfl)
  (e:∀ call a0 a1 a2 a3,B6 v lp f fn ann call [a0,a1,a2,a3]=F call a0 a1 a2 a3:=by intros;kernel_rfl):l f (m4 F):=by
 intro call hc a d xs y h b hw;unfold m4 at b;split at b<;>try(cases b;done)
 exact mY (v:=v) c g hk call hc a d _ y h ((e call _ _ _ _).trans b) hw
def m5(F:(Nat->List D->Option D)->D->D->D->D->D->Option D)(call:Nat->List D->Option D)(xs:List D):Option D:=match xs with|[a0,a1,a2,a3,a4]=>F call a0 a1 a2 a3 a4|_=>none
def Hh(v:Nat)(fn:Func)(ann:Ann){lp:q}(c:am lp){F:(Nat->List D->Option D)->D->D->D->D->D->Option D}(g:Tryz.prog.funcs[cp f]?=some fn:=by kernel_rfl)(hk:NS f fn=true:=by kernel_rfl)
  (e:∀ call a0 a1 a2 a3 a4,B6 v lp f fn ann call [a0,a1,a2,a3,a4]=F call a0 a1 a2 a3 a4:=by intros;kernel_rfl):l f (m5 F):=by
 intro call hc a d xs y h b hw;unfold m5 at b;split at b<;>try(cases b;done)
 exact mY (v:=v) c g hk call hc a d _ y h ((e call _ _ _ _ _).trans b) hw
def m6(F:(Nat->List D->Option D)->D->D->D->D->D->D->Option D)(call:Nat->List D->Option D)(xs:List D):Option D:=match xs with|[a0,a1,a2,a3,a4,a5]=>F call a0 a1 a2 a3 a4 a5|_=>none
def Md(v:Nat)(fn:Func)(ann:Ann){lp:q}(c:am lp){F:(Nat->List D->Option D)->D->D->D->D->D->D->Option D}(g:Tryz.prog.funcs[cp f]?=some fn:=by kernel_rfl)(hk:NS f fn=true:=by kernel_rfl)
  (e:∀ call a0 a1 a2 a3 a4 a5,B6 v lp f fn ann call [a0,a1,a2,a3,a4,a5]=F call a0 a1 a2 a3 a4 a5:=by intros;kernel_rfl):l f (m6 F):=by
 intro call hc a d xs y h b hw;unfold m6 at b;split at b<;>try(cases b;done)
 exact mY (v:=v) c g hk call hc a d _ y h ((e call _ _ _ _ _ _).trans b) hw
def m7(F:(Nat->List D->Option D)->D->D->D->D->D->D->D->Option D)(call:Nat->List D->Option D)(xs:List D):Option D:=match xs with|[a0,a1,a2,a3,a4,a5,a6]=>F call a0 a1 a2 a3 a4 a5 a6|_=>none
def Tp(v:Nat)(fn:Func)(ann:Ann){lp:q}(c:am lp){F:(Nat->List D->Option D)->D->D->D->D->D->D->D->Option D}(g:Tryz.prog.funcs[cp f]?=some fn:=by kernel_rfl)(hk:NS f fn=true:=by kernel_rfl)
  (e:∀ call a0 a1 a2 a3 a4 a5 a6,B6 v lp f fn ann call [a0,a1,a2,a3,a4,a5,a6]=F call a0 a1 a2 a3 a4 a5 a6:=by intros;kernel_rfl):l f (m7 F):=by
 intro call hc a d xs y h b hw;unfold m7 at b;split at b<;>try(cases b;done)
 exact mY (v:=v) c g hk call hc a d _ y h ((e call _ _ _ _ _ _ _).trans b) hw
abbrev Y(l:List D)(i:Nat):D:=l.getD i (.bool false)
section
variable{α:Type}
abbrev qc(o:BinOp)(x y:D)(A B:Option α):Option α:=(akk o x y).bind λz=>(D.truth z).bind λk=>if k=true then A else B
abbrev qt(x:D)(A B:Option α):Option α:=(D.truth x).bind λk=>if k=true then A else B
abbrev qn(x:D)(A B:Option α):Option α:=(akz .not x).bind λz=>(D.truth z).bind λk=>if k=true then A else B
abbrev ql(x i:D)(A B:Option α):Option α:=(D.asSl x).bind λl=>(akk .lss i (.int .i64 l.length)).bind λz=>(D.truth z).bind λk=>if k=true then A else B
abbrev qm(x:D)(p:List Nat)(i:D)(A B:Option α):Option α:=(D.get x p).bind λx=>(D.asSl x).bind λl=>(akk .lss i (.int .i64 l.length)).bind λz=>(D.truth z).bind λk=>if k=true then A else B
abbrev qe(b:Bool)(A B:Option α):Option α:=if b=true then A else B
abbrev qa(b:Bool)(X:Option Bool)(f:Bool->Option α):Option α:=(if b=true then X else some false).bind λk=>(D.truth (.bool k)).bind f
abbrev qo(b:Bool)(X:Option Bool)(f:Bool->Option α):Option α:=(if b=true then some true else X).bind λk=>(D.truth (.bool k)).bind f
abbrev Z(c:Ca)(n:Nat)(l:List D)(f:D->Option α):Option α:=(c n l).bind f
abbrev qi(x:D)(n:Nat)(f:Nat->Option α):Option α:=(D.idx x n).bind f
abbrev qs(x:D)(p:List Nat)(y:D)(f:D->Option α):Option α:=(D.set x p y).bind f
abbrev qw(k:IntKind)(x:D)(f:D->Option α):Option α:=(D.conv k x).bind f
abbrev qp(x:D)(i:Nat)(f:D->Option α):Option α:=(D.tupAt x i).bind f
abbrev qf(x:D)(i:Nat)(f:D->Option α):Option α:=(D.fld x i).bind f
abbrev qb(x:Option (Nat×List D))(f:Nat×List D->Option α):Option α:=x.bind f
abbrev qu(l m:List D)(A:Option α):Option α:=if l.length+m.length<=1073741824 then A else none
abbrev qr(a:Nat×List D)(B:Option D):Option D:=if a.1=0 then some (Y a.2 0) else B
abbrev qz(x:D):Option Bool:=(akz .not x).bind λz=>D.truth z
abbrev qh(o:BinOp)(x y:D):Option Bool:=(akk o x y).bind λz=>D.truth z
abbrev qj(x:D)(f:D->Option α):Option α:=(akk .add x (.int .i64 1)).bind f
abbrev qy(lp:q)(f:List D->Option (Sum (List D) (Nat×List D)))(s:List D)(g:Nat×List D->Option α):Option α:=(qZ lp f s).bind g
abbrev qA(b:Bool)(X:Option Bool)(A B:Option α):Option α:=(if b=true then X else some false).bind λk=>(D.truth (.bool k)).bind λk=>if k=true then A else B
abbrev qO(b:Bool)(X:Option Bool)(A B:Option α):Option α:=(if b=true then some true else X).bind λk=>(D.truth (.bool k)).bind λk=>if k=true then A else B
end
abbrev nq(x y:D):D:=.bool (!(D.beq x y))
abbrev bq(x y:D):D:=.bool (D.beq x y)
abbrev jl(l:List D):D:=.int .i64 l.length
abbrev bF:D:=.bool false
abbrev bT:D:=.bool true
abbrev J0:D:=Jn 0
abbrev J1:D:=Jn 1
abbrev J2:D:=Jn 2
abbrev J3:D:=Jn 3
abbrev Ann.w(a b:Ann):Ann:=.two a b
abbrev Ann.o:Ann:=.leaf
abbrev Ann.t(a:Ann):Ann:=.two .leaf a
abbrev Ann.p(a:List (Nat×Sh))(b:List (Nat×ShO))(c:List Nat)(e:List (Ex×Shape))(x:Ann):Ann:=.loop ⟨a,b,c⟩ e x
abbrev Ann.g:=Ann.reg
abbrev ShO.k:=ShO.keep
abbrev ShO.e:=ShO.one
abbrev Sh.s:=Sh.sp
abbrev Sh.i:=Sh.di
abbrev Sh.v:=Sh.dv
abbrev Sh.b:=Sh.dv Ty.bool
abbrev Ex.x:=Ex.exit
abbrev Ex.r:=Ex.ret
abbrev Ex.m:=Ex.normal
abbrev S1(a:List (Nat×Sh)):Shape:=⟨a,[],[]⟩
abbrev y(a:List (Nat×Sh))(b:List (Nat×ShO))(c:List Nat):Shape:=⟨a,b,c⟩
end
def WbY:Shape:=⟨[(7,.v cq)],[],[]⟩
def zb:Ann:=.w (.w (.loop WbY [(.x 2,WbY)] .o) .o) .o
def zc:Nat×ShO:=(20494,.e Ty.bool (.v Ty.bool))
def x6:Nat×ShO:=(57348,.fv (.map h Ty.bool 57360))
def wa:Nat×Sh:=(5,.same (.clo 181 [(.ptr Ty.fn 57348 []),(.ptr Ty.fn 53251 [])]))
def Wab:Ann:=.g [] 7
def tw:Ann:=.w Wab .o
def Wbf:Ann:=.regI [] 7 (.w (.t tw) .o)
def wb:Ann:=.t (.t (.w (.w (.t (.w Wbf .o)) .o) .o))
def wm:Nat×ShO:=(12300,.e eh (.v eh))
def va:Nat×ShO:=(16397,.e j (.v j))
def WaY:Ann:=.g [] 5
def vb:Ann:=.w WaY .o
def vd:Nat×Sh:=(4,.s c 4100)
def vl:Nat×ShO:=(53251,.fv (.yld 45056))
def X':Ann:=.g [] 10
def vv:Ann:=.t (.w X' .o)
def v8:Nat×ShO:=(57360,.mp h Ty.bool)
def ub:Nat×ShO:=(4104,.e eh (.v eh))
def un:Nat×ShO:=(8202,.e cF (.v cF))
def u3:Nat×ShO:=(8203,.e cF (.v cF))
def Waa:Nat×Sh:=(5,.i)
def rf:Shape:=⟨[(4,.b)],[],[]⟩
def pd:Shape:=⟨[],[],[]⟩
def gp:Ann:=.g [] 8
def sx:Ann:=.w gp .o
def tk:Ann:=.t (.t (.w (.t (.w (.p [Waa] [] [0,1] [(.r,rf),(.x 0,pd)] (.t (.w (.w sx .o) .o))) .o)) .o))
def tp:Nat×ShO:=(4100,.k c 4)
def tI:Nat×ShO:=(4100,.k h 4)
def sd:Nat×Sh:=(5,.s c 8197)
def sq:Ann:=.w (.t (.t (.w X' (.t (.w gp (.g [] 4)))))) .o
def sv:Nat×ShO:=(4100,.e bf (.v bf))
def sw:Nat×Sh:=(4,.s bf 4100)
def Wad:Nat×Sh:=(7,.ow c)
def sy:Shape:=⟨[Wad],[],[]⟩
def sI:Nat×Sh:=(2,.s fR 4098)
def sL:Nat×ShO:=(4100,.e cF (.st [jp,K3,Ti,K2] [.v jp,.st [K2] [.ow h],.di,.ow h]))
def sP:LO:=[(4097,.k K3 1)]
def ra:Nat×Sh:=(0,.same (.yld 45056))
def ri:Nat×Sh:=(4,.s h 4100)
def fy:Nat×Sh:=(2,.same (.clo 225 []))
def WbK:Nat×Sh:=(15,.i)
def rk:LS:=[(1,.same (.clo 224 [(.ptr Ty.fn 20485 []),(.ptr cq 20483 []),(.ptr cq 20484 [])])),fy,Wad,WbK]
def rv:LS:=[(1,.same (.clo 224 [(.ptr Ty.fn 16389 []),(.ptr cq 16387 []),(.ptr cq 16388 [])])),fy,Wad,WbK]
def rz:Shape:=⟨[(6,.v cq)],[],[]⟩
def rI:Nat×ShO:=(4100,.k bf 4)
def pr:Nat×Sh:=(2,.s K4 4098)
def pI:Nat×Sh:=(2,.s c 4098)
def oj:Nat×ShO:=(8197,.e c (.v c))
def om:Nat×ShO:=(8197,.e cF (.st [jp,K3,Ti,K2] [.v jp,.v K3,.di,.ow h]))
def WaJ:Ann:=.g [] 12
def oq:Ann:=.w WaJ .o
def WaI:Ann:=.g [] 11
def ot:Ann:=.w WaI .o
def ov:Shape:=⟨[(10,.b)],[],[]⟩
def WaX:Ann:=.g [] 6
def nf:Ann:=.w WaX .o
def Wbm:Ann:=.g [] 9
def ng:Ann:=.w Wbm .o
def mb:Nat×Sh:=(3,.s h 4099)
def mg:Shape:=⟨[(2,.b)],[],[]⟩
def mi:Nat×ShO:=(32783,.e vi (.v vi))
def mj:Nat×ShO:=(90124,.e h (.v h))
def mu:Nat×ShO:=(4109,.e Ty.bool (.v Ty.bool))
def mB:Ann:=.w (.g [] 4) .o
def mI:Nat×Sh:=(6,.i)
def kd:Nat×Sh:=(3,.s c 4099)
def ky:Nat×Sh:=(2,.s h 4098)
def kO:Nat×Sh:=(3,.same (.ptr Ty.fn 53251 []))
def kS:Nat×ShO:=(4098,.k c 2)
def k7:Nat×ShO:=(4099,.k h 3)
def k8:Nat×ShO:=(4098,.k bf 2)
def ie:Nat×ShO:=(24587,.e bf (.v bf))
def WbN:Nat×Sh:=(6,.s bf 8198)
def H':Nat×Sh:=(7,.v (Ty.int .u64))
def WaM:Nat×ShO:=(8198,.e bf (.v bf))
def ig:Shape:=⟨[sw,WbN,H'],[rI,WaM],[]⟩
def im:Nat×ShO:=(4098,.e h (.v h))
def iq:Nat×ShO:=(4101,.e bf (.v bf))
def ir:Ann:=.regI [] 9 (.w vv .o)
def iw:Nat×ShO:=(4098,.e fR (.v fR))
def iz:Nat×Sh:=(3,.i)
def iA:Nat×Sh:=(0,.same (.yld 36864))
def iB:Ann:=.t (.t (.w (.w (.t (.w (.regI [] 6 .o) .o)) .o) .o))
def iN:LO:=[(8209,.many Ti)]
def hC:Nat×ShO:=(45056,.lp none 3)
def hJ:Nat×Sh:=(1,.s K3 4097)
def hP:Nat×Sh:=(6,.b)
def h7:Nat×Sh:=(2,.s bf 4098)
def g':Nat×Sh:=(1,.s fR 4097)
def gb:Nat×Sh:=(4,.s c 8196)
def gi:LO:=[(4097,.k c 1)]
def gl:Nat×ShO:=(4098,.k fR 2)
def gy:Nat×Sh:=(7,.same (.sub true Ti 4097 [] 0 4))
def fa:Nat×Sh:=(5,.same (.mem Ti 8209))
def fl:Nat×Sh:=(8,.i)
def fp:Nat×Sh:=(3,.s eS 4099)
def fu:Ann:=.t (.w (.g [] 20) .o)
def fw:Nat×Sh:=(4,.s j 4100)
def fx:Ann:=.t (.w (.g [] 15) .o)
def fI:Nat×ShO:=(8197,.e bf (.v bf))
def fT:Nat×ShO:=(4100,.e c (.v c))
def ep:Nat×ShO:=(4101,.e c (.v c))
def eu:Nat×ShO:=(45056,.lp none 0)
def ez:Nat×ShO:=(4102,.e dG (.v dG))
def eB:Nat×ShO:=(4103,.e K3 (.v K3))
def eE:Nat×ShO:=(4104,.e dG (.v dG))
def eF:Nat×ShO:=(4105,.e K3 (.v K3))
def eL:Nat×ShO:=(4106,.e j (.v j))
def eU:Nat×ShO:=(4107,.e j (.v j))
def Z':Nat×ShO:=(4108,.e eh (.v eh))
def Y':Nat×ShO:=(36864,.lp none 0)
def V':Ann:=.t (.t (.w (.w (.t WaI) .o) .o))
def U':Nat×Sh:=(11,.v (Ty.int .u64))
def R':Nat×Sh:=(4,.i)
def P':Nat×Sh:=(3,.v K7)
def O':Ann:=.t (.t (.w (.w (.t Wbm) .o) .o))
def M':Nat×Sh:=(2,.same (.ptr Ty.fn 57348 []))
def K':Nat×ShO:=(4099,.k eS 3)
def J':Nat×ShO:=(4099,.k c 3)
def I':Nat×ShO:=(4100,.k j 4)
def G':Nat×Sh:=(6,.v (Ty.int .u64))
def D':LO:=[(4098,.k K3 2)]
def C':Nat×Sh:=(7,.s K4 36871)
def Wac:Nat×Sh:=(0,.s vi 32783)
def Wae:Nat×ShO:=(4098,.e K4 (.st [K3,Ti] [.st [K2] [.ow h],.di]))
def Waf:Nat×Sh:=(7,.b)
def Wag:Nat×Sh:=(2,.s K2 4098)
def Wah:Nat×Sh:=(1,.s c 4097)
def Wai:Ann:=.w (.g [] 14) .o
def Waj:Nat×Sh:=(5,.s bf 8197)
def Wak:Nat×Sh:=(1,.s ku 4097)
def Wal:Nat×Sh:=(2,.s eS 4098)
def Wam:Nat×Sh:=(3,.s c 8195)
def Wan:Nat×Sh:=(6,.s K3 4102)
def Wao:Nat×Sh:=(8,.s K3 4104)
def Wap:Nat×Sh:=(2,.s dG 4098)
def Waq:Ann:=.t (.t (.w (.w (.t ot) .o) .o))
def War:LO:=[(8207,.many Ti)]
def Was:Ann:=.t (.t (.w (.w (.t gp) .o) .o))
def Wat:Ann:=.w (.g [] 3) .o
def Wau:Nat×Sh:=(7,.i)
def Wav:Nat×ShO:=(110607,.e ku (.v ku))
def Waw:Nat×Sh:=(3,.ow K8)
def Wax:Nat×Sh:=(6,.same (.mem Ti 8207))
def Waz:Nat×Sh:=(15,.s Aq 90127)
def WaA:Nat×ShO:=(4098,.k K2 2)
def WaB:Shape:=⟨[R'],[],[]⟩
def WaC:Nat×ShO:=(32770,.e cF (.v cF))
def WaD:Nat×ShO:=(32771,.e cF (.v cF))
def WaE:Nat×ShO:=(77831,.e cF (.v cF))
def WaF:Nat×ShO:=(4102,.k dG 6)
def WaG:Nat×Sh:=(10,.i)
def WaH:Ann:=.t (.w oq .o)
def WaK:Nat×Sh:=(5,.s Qi 12293)
def WaL:Nat×ShO:=(4099,.e j (.v j))
def WaN:Nat×ShO:=(8195,.e c (.v c))
def WaO:Nat×ShO:=(4098,.e eS (.v eS))
def WaP:Nat×Sh:=(1,.s cF 32770)
def WaQ:Nat×Sh:=(2,.s cF 32771)
def WaR:Nat×ShO:=(24590,.fv (.clo 112 [(.ptr oo 20493 [])]))
def WaS:Nat×ShO:=(8200,.e j (.v j))
def WaT:Nat×ShO:=(4098,.e cq (.v cq))
def WaU:Nat×Sh:=(12,.v (Ty.int .u64))
def WaV:LO:=[(4099,.k K6 3)]
def WaW:Nat×Sh:=(9,.b)
def WaZ:Nat×Sh:=(3,.s j 4099)
def Wa0:Nat×Sh:=(2,.s ku 4098)
def Wa1:Nat×Sh:=(5,.s c 4101)
def Wa2:Nat×Sh:=(2,.s K3 4098)
def Wa3:Nat×Sh:=(4,.s cF 4100)
def Wa4:Nat×Sh:=(5,.s cF 8197)
def Wa5:Nat×Sh:=(6,.s dG 4102)
def Wa6:Nat×Sh:=(5,.s dG 4101)
def Wa7:Nat×Sh:=(4,.s Aq 4100)
def Wa8:Nat×Sh:=(7,.s j 4103)
def Wa9:Nat×Sh:=(8,.s j 8200)
def Wba:Nat×Sh:=(4,.s jp 4100)
def Wbb:Nat×Sh:=(5,.s jp 8197)
def Wbc:Nat×Sh:=(3,.ow h)
def Wbd:Ann:=.t (.w (.w nf .o) .o)
def Wbe:Ann:=.w (.t (.w ng .o)) .o
def Wbg:Ann:=.t vb
def Wbh:Shape:=⟨[(5,.ow Ti),mI,Wau],[],[0,1]⟩
def Wbi:Nat×Sh:=(11,.i)
def Wbj:Nat×ShO:=(8202,.k cF 10)
def Wbk:Nat×ShO:=(8203,.k cF 11)
def Wbl:Ann:=.w (.t (.t fu)) .o
def Wbn:Nat×Sh:=(7,.ow Ti)
def Wbo:Shape:=⟨[(0,.i),(1,.i)],[],[]⟩
def Wbp:Nat×Sh:=(15,.s vi 32783)
def Wbq:Nat×Sh:=(6,.same (.ptr Ty.fn 24590 []))
def Wbr:Nat×Sh:=(14,.s WH 86030)
def Wbs:Nat×Sh:=(10,.s fR 32778)
def Wbt:Nat×ShO:=(4099,.k bf 3)
def Wbu:LO:=[(4098,.e ku (.v ku))]
def Wbv:Nat×ShO:=(4097,.k ku 1)
def Wbw:Nat×ShO:=(4101,.k bf 5)
def Wbx:Nat×ShO:=(4097,.k fR 1)
def Wby:Nat×ShO:=(4104,.k eh 8)
def Wbz:Nat×ShO:=(8196,.k c 4)
def WbA:Nat×ShO:=(4103,.k K3 7)
def WbB:Nat×ShO:=(4104,.k dG 8)
def WbC:Nat×ShO:=(4105,.k K3 9)
def WbD:Nat×ShO:=(4101,.k dG 5)
def WbE:Nat×ShO:=(4103,.k j 7)
def WbF:Nat×Sh:=(3,.s oo 0)
def WbG:Nat×ShO:=(4100,.k jp 4)
def WbH:Nat×ShO:=(4098,.k Gm 2)
def WbI:Ann:=.w (.g [] 13) .o
def WbJ:Ann:=.w (.g [] 2) .o
def WbL:Nat×Sh:=(5,.s K5 8197)
def WbM:Nat×Sh:=(3,.s bf 4099)
def WbO:Shape:=⟨[sw,Waj],[rI,fI],[]⟩
def WbP:Nat×Sh:=(3,.b)
def WbQ:Nat×Sh:=(5,.s bf 4101)
def WbR:Nat×Sh:=(2,.s jp 4098)
def WbS:Nat×Sh:=(2,.s cF 4098)
def WbT:Nat×Sh:=(7,.s K3 4103)
def WbU:Nat×Sh:=(8,.s dG 4104)
def WbV:Nat×Sh:=(9,.s K3 4105)
def WbW:Nat×Sh:=(2,.s Gm 4098)
def WbX:Shape:=⟨[(5,.ow Ti)],[],[]⟩
end Sy
end
noncomputable section
set_option maxHeartbeats 0
noncomputable section
namespace Sy
open Go Go.Proofs
section
variable{lp}(a:am lp)
def A12:Ann:=let a:LO:=[Wae,(36871,.e K4 (.st [K3,Ti] [.st [K2] [.ow h],.di]))];let b:LO:=[Wae];let c:LS:=[pr,C',WaW];let d:LS:=[pr,C'];(.t (.t (.w (.t (.w (.p [pr,iz] b [0] [(.r,y [pr] b []),(.x 0,y [pr] b [0])] (.t (.w (.w (.t (.w (.p [pr,R'] b [0,3] [(.r,y [pr] b []),(.x 2,y [pr] b [0,3])] .o) .o)) .o) .o))) .o)) (.t (.t (.t (.t (.t (.w (.t (.w (.p [pr,C',fl] a [5,6] [(.x 4,y d a [])] (.t (.cut [(.m,y d a [5,6,8])] [5,6,8] [] (.w (.t (.w (.t (.w (.p [pr,C',WaW,WaG] a [5,6,8] [(.x 6,y c a [5,6,8])] (.t (.w (.w (.t (.w (.p [pr,C',WaW,Wbi] a [5,6,8,10] [(.x 8,y c a [5,6,8,10])] .o) .o)) .o) .o))) .o)) (.t sx))) .o) .o))) .o)) .o)))))))))
def Wl(lp:q)(c:Ca)(a0:D):Option D:=qS a0 λl1=>qc .gtr (jl l1) (Jn 64) (some (D.st [(D.st [(D.sl [])]),J2])) (qy lp (λv4=>ql a0 (Y v4 0) (qy lp (λh=>qc .lss (Y h 0) J3 (qX a0 (Y v4 0) λz=>qi (Y h 0) 3 λi14=>qf z i14 λA=>qC .gtr A (Jn 262144) λm=>qO m (qX a0 (Y v4 0) λB=>qi (Y h 0) 3 λi21=>qf B i21 λC=>qh .lss C (Jn (-262144))) (iR (0,[(D.sl []),J1])) (qj (Y h 0) λF=>iL [F,(qW h 1),(Y h 2)])) (iR (1,[(qW h 1),(Y h 2)]))) [J0,(qW v4 1),(Y v4 2)] λb=>if b.1=0 then(iR (0,[(qW b.2 0),(Y b.2 1)])) else(qj (Y v4 0) λG=>iL [G,(qW b.2 0),(Y b.2 1)])) (iR (1,[(qW v4 1),(Y v4 2)]))) [J0,(D.sl []),J0] λd=>if d.1=0 then(some (D.st [(D.st [(qW d.2 0)]),(Y d.2 1)])) else(Z c 47 [a0] λi=>Z c 48 [i] λe=>qS e λx=>qt (bq (jl x) J0) (some (D.st [(D.st [(D.sl [])]),(Jn 120)])) (qS e λy=>qc .gtr (jl y) (Jn 64) (some (D.st [(D.st [(D.sl [])]),J2])) (qy lp (λv37=>ql i (Y v37 0) (qb (qy lp (λv41=>ql e (Y v41 1) (qy lp (λv45=>qX e (Y v41 1) λH=>qf H 2 λI=>ql I (Y v45 1) (qT (Y v45 0) λu=>(qe u (some true) (qX e (Y v41 1) λJ=>qf J 2 λK=>qX K (Y v45 1) λL=>D.truth (bq L (Y v37 0)))).bind λv=>qj (Y v45 1) λM=>iL [(D.bool v),M,(qW v45 2),(Y v45 3),(qW v45 4),(Y v45 5)]) (iR (0,[(Y v45 0),(qW v45 2),(Y v45 3),(qW v45 4),(Y v45 5)]))) [(Y v41 0),J0,(qW v41 2),(Y v41 3),(qW v41 4),(Y v41 5)] λf=>qj (Y v41 1) λN=>iL [(Y f.2 0),N,(qW f.2 1),(Y f.2 2),(qW f.2 3),(Y f.2 4)]) (iR (0,[(Y v41 0),(qW v41 2),(Y v41 3),(qW v41 4),(Y v41 5)]))) [bF,J0,(qW v37 1),(Y v37 2),(qW v37 3),(Y v37 4)] λa=>qt (Y a.2 0) (qX i (Y v37 0) λk=>qu (qV a.2 3) [k] (some (0,[(qW a.2 1),(Y a.2 2),(D.sl ((qV a.2 3)++[k])),(Y a.2 4)]))) (some (0,[(qW a.2 1),(Y a.2 2),(qW a.2 3),(Y a.2 4)]))) λg=>qj (Y v37 0) λO=>iL [O,(qW g.2 0),(Y g.2 1),(qW g.2 2),(Y g.2 3)]) (iR (0,[(qW v37 1),(Y v37 2),(qW v37 3),(Y v37 4)]))) [J0,(qW d.2 0),(Y d.2 1),(D.sl []),J0] λj=>some (D.st [(D.st [(qW j.2 2)]),(Y j.2 3)])))))
def L12:l 12 (m1 (Wl lp)):=aY 0 Tryz.f169 A12 a
def A13:Ann:=tk
def YM(lp:q)(c:Ca)(a0 a1:D):Option D:=qS a0 λl1=>qS a1 λi=>qt (nq (jl l1) (jl i)) (some bF) (qy lp (λv4=>ql a0 (Y v4 0) (qX a0 (Y v4 0) λd=>qX a1 (Y v4 0) λe=>qt (nq d e) (iR (0,[bF])) (qj (Y v4 0) λf=>iL [f])) (iR (1,[]))) [J0] λa=>qr a (some bT))
def L13:l 13 (G (YM lp)):=aQ 0 Tryz.f170 A13 a
def YN(lp:q)(c:Ca)(a0:D):Option D:=Q a0 [0] λx1=>Z c 12 [x1] λb=>Q b [1] λh=>qT (bq h J0) λe=>qA e (Q b [0,0] λi=>Q a0 [0] λj=>Z c 13 [i,j] λg=>qz g) (some J3) (Q b [1] λd=>some d)
def L15:l 15 (m1 (YN lp)):=aY 0 Tryz.f89 .leaf a
def A18:Ann:=.t (.t (.w (.t (.w (.p [hJ,(3,.ow K6),WaG] sP [8,9] [(.x 0,S1 [(3,.ow K6)])] V') .o)) .o))
def YO(lp:q)(c:Ca)(a0:D):Option D:=Q a0 [0] λx1=>Z c 45 [x1] λi=>qS i λk=>qy lp (λv4=>qc .lss (Y v4 1) (jl k) (qX i (Y v4 1) λh=>Q h [0] λb=>Q h [1] λd=>Q a0 [0] λf=>Z c 46 [f,h] λa=>qu (qV v4 0) [(D.st [b,d,a])] (qj (Y v4 1) λg=>iL [(D.sl ((qV v4 0)++[(D.st [b,d,a])])),g])) (iR (0,[(qW v4 0)]))) [(D.sl []),J0] λe=>some (qW e.2 0)
def L18:l 18 (m1 (YO lp)):=aY 0 Tryz.f183 A18 a
def YP(lp:q)(c:Ca)(a0:D):Option D:=Q a0 [0] λx1=>Z c 48 [x1] λa=>some a
def L19:l 19 (m1 (YP lp)):=aY 0 Tryz.f189 .leaf a
def A22:Ann:=let a:LS:=[hJ,Waw,Waf];let b:LS:=[hJ,Waw];(.t (.t (.t (.w (.t (.w (.p [hJ,Waw,Waa] sP [4] [(.x 0,S1 [Waw])] (.t (.w (.w (.t (.w (.p [hJ,Waw,mI] sP [4,5] [(.x 2,y b sP [4,5])] (.t (.cut [(.m,y b sP [4,5,6])] [4,5,6] [4097] (.w (.t (.w (.t (.w (.p [hJ,Waw,Waf,fl] sP [4,5,6] [(.x 4,y a sP [4,5,6])] (.t (.w (.w (.t (.t (.w (.p [hJ,Waw,Waf,WaG] sP [4,5,6,8,9] [(.x 6,y a sP [4,5,6,8])] .o) .o))) .o) .o))) .o)) .o)) .o) .o))) .o)) .o) .o))) .o)) .o))))
def YQ(lp:q)(c:Ca)(a0:D):Option D:=Z c 19 [a0] λr1=>qy lp (λv2=>qm a0 [0] (Y v2 1) (qj (Y v2 1) λK=>qy lp (λe=>qm a0 [0] (Y e 1) (qb (qy lp (λa=>ql r1 (Y a 2) (qX r1 (Y a 2) λv=>qf v 2 λb=>qy lp (λv21=>ql b (Y v21 2) (qT (Y v21 1) λj=>qo j (qX b (Y v21 2) λw=>qt (bq w (Y v2 1)) (qj (Y v21 2) λx=>qS b λh=>P .rem x (jl h) λy=>qX b y λz=>D.truth (bq z (Y e 1))) (some false)) λm=>(qe m (some true) (qX b (Y v21 2) λA=>qt (bq A (Y e 1)) (qj (Y v21 2) λB=>qS b λr=>P .rem B (jl r) λC=>qX b C λE=>D.truth (bq E (Y v2 1))) (some false))).bind λo=>qj (Y v21 2) λF=>iL [(qW v21 0),(D.bool o),F]) (iR (0,[(qW v21 0),(Y v21 1)]))) [(qW a 0),(Y a 1),J0] λf=>qj (Y a 2) λG=>iL [(qW f.2 0),(Y f.2 1),G]) (iR (0,[(qW a 0),(Y a 1)]))) [(qW e 0),bF,J0] λd=>qt (Y d.2 1) (qu (qV d.2 0) [(D.st [(Y v2 1),(Y e 1)])] (some (0,[(D.sl ((qV d.2 0)++[(D.st [(Y v2 1),(Y e 1)])]))]))) (some (0,[(qW d.2 0)]))) λs=>qj (Y e 1) λH=>iL [(qW s.2 0),H]) (iR (0,[(qW e 0)]))) [(qW v2 0),K] λt=>qj (Y v2 1) λI=>iL [(qW t.2 0),I]) (iR (0,[(qW v2 0)]))) [(D.sl []),J0] λu=>some (qW u.2 0)
def L22:l 22 (m1 (YQ lp)):=aY 0 Tryz.f193 A22 a
def A32:Ann:=.t (.t (.t (.t (.t (.t (.t (.cut [(.m,S1 [(5,.v K5),(6,.v K5)])] [] [] .o .o)))))))
def YR(lp:q)(c:Ca)(a0 a1:D):Option D:=Z c 76 [a0] λr1=>qN r1 λu=>qA u (Z c 76 [a1] λx=>qz x) (some J0) (Z c 76 [a0] λy=>qn y (some (Jn (-1))) (Z c 76 [a1] λj=>qn j (some J1) (Q a0 [1] λf=>Q a1 [1] λr=>qt (nq f r) (Q a0 [1] λs=>qt s (some (Jn (-1))) (some J1)) (Z c 77 [a0] λk=>Z c 77 [a1] λl=>qb (Q a0 [1] λt=>qt t (Z c 77 [a1] λm=>Z c 77 [a0] λn=>some (0,[m,n])) (some (0,[k,l]))) λa=>Z c 78 [(Y a.2 0),(Y a.2 1)] λo=>Z c 78 [(Y a.2 1),(Y a.2 0)] λp=>qt o (some (Jn (-1))) (qt p (some J1) (some J0))))))
def L32:l 32 (G (YR lp)):=aQ 0 Tryz.f59 A32 a
def YS(lp:q)(c:Ca)(a0:D):Option D:=qc .geq a0 J0 (P .rem a0 (Jn 65536) λm=>P .quo a0 (Jn 65536) λn=>P .rem n (Jn 65536) λo=>P .quo a0 (Jn 4294967296) λp=>P .rem p (Jn 65536) λy=>P .quo a0 (Jn 281474976710656) λr=>Z c 81 [bF,(D.sl [m,o,y,r])] λl=>some l) (qj a0 λe=>(akz .neg e).bind λa=>P .rem a (Jn 65536) λf=>P .quo a (Jn 65536) λg=>P .rem g (Jn 65536) λh=>P .quo a (Jn 4294967296) λi=>P .rem i (Jn 65536) λj=>P .quo a (Jn 281474976710656) λk=>Z c 82 [(D.sl [f,h,j,k]),(D.sl [J1])] λb=>Z c 81 [bT,b] λd=>some d)
def L34:l 34 (m1 (YS lp)):=aY 0 Tryz.f60 .leaf a
def A46:Ann:=let a:LO:=[WaA,K',(8197,.e K5 (.v K5))];let b:LO:=[WaA,K',(8197,.e K5 (.ow Ti))];let c:LO:=[WaA,K',(8197,.k K5 1)];let d:LS:=[Wag,fp,WbL];let e:LS:=[Wag,fp,mI];(.t (.t (.w (.t (.w (.p [Wag,fp,WbL,(13,.i)] b [11,12] [(.x 0,y d b [])] (.t (.t (.cut [(.m,y d b [11,12,13])] [11,12,13] [4098,4099] (.w (.t nf) .o) .o)))) .o)) (.t (.t (.w (.w (.regI [] 6 (.w (.t (.t (.w (.t (.w (.p [Wag,fp,mI,(12,.v K5),(14,.i)] a [0,13] [(.x 0,y [mI] a [])] (.t (.t (.cut [(.m,y e a [0,12,13,14])] [0,12,13,14] [4098,4099] Wbl .o)))) .o)) .o))) .o)) (.w (.loop ⟨[WbL,(8,.same (.clo 299 [(.ptr K5 8197 []),(.ptr K2 4098 []),(.ptr eS 4099 [])])),(9,.ow Ti),WaG],[WaA,K',(8197,.k K5 5)],[]⟩ [(.x 2,S1 [(9,.ow Ti)])] (.t (.t (.regI [] 4 (.w (.t (.t (.w (.t (.w (.p [Wag,fp,mI,(14,.i)] c [0,12,13] [(.x 0,y [mI] c [])] (.t (.t (.cut [(.m,y e a [0,12,13,14])] [0,12,13,14] [4098,4099] Wbl .o)))) .o)) .o))) .o))))) .o)) .o))))))
def YT(lp:q)(c:Ca)(a0 a1:D):Option D:=qS a0 λl1=>qy lp (λv2=>qc .lss (Y v2 0) (jl l1) (qb (qX a0 (Y v2 0) λx7=>Q a1 [0] λx8=>Z c 101 [x8,x7] λr9=>Q a1 [1] λP=>qt (bq r9 P) (qu (qV v2 1) [(Y v2 0)] (some (0,[(D.sl ((qV v2 1)++[(Y v2 0)]))]))) (some (0,[(qW v2 1)]))) λH=>qj (Y v2 0) λy=>iL [y,(qW H.2 0)]) (iR (0,[(qW v2 1)]))) [J0,(D.sl [])] λe=>qi J0 (List.length (qV e.2 0)) λi15=>((qV e.2 0)[i15]?).bind λR=>qi J0 (List.length (qV e.2 0)) λi17=>((qV e.2 0)[i17]?).bind λl=>qy lp (λa=>qc .lss (Y a 2) (Jn (List.length (qV e.2 0))) (qb (qX (Y a 1) (Y a 2) λf=>qt (bq f l) (some (0,[(Y a 0),(Y a 3)])) (qc .lss (Y a 0) J0 (some (0,[f,(Y a 3)])) (qX a0 f λS=>qX a0 l λT=>Z c 103 [S,T] λh=>qX a0 (Y a 0) λU=>qX a0 l λV=>Z c 103 [U,V] λi=>Q a1 [0] λW=>Z c 104 [W,i,h] λm=>qC .lss m J0 λt=>qO t (qt (bq m J0) (Z c 101 [h,h] λI=>Z c 101 [i,i] λJ=>qh .gtr I J) (some false)) (some (0,[f,(Y a 3)])) (some (0,[(Y a 0),(Y a 3)]))))) λn=>qj (Y a 2) λz=>iL [(Y n.2 0),(Y a 1),z,(Y n.2 1)]) (iR (0,[(Y a 0),(Y a 3)]))) [(Jn (-1)),(qW e.2 0),J0,(qW e.2 0)] λb=>qy lp (λv55=>qX (Y b.2 1) J0 λu=>qt (nq (Y v55 1) u) (qu (qV v55 0) [(Y v55 1)] (qS (Y b.2 1) λG=>qy lp (λd=>qc .lss (Y d 1) (jl G) (qb (qX (Y b.2 1) (Y d 1) λg=>qt (bq g (Y v55 1)) (some (0,[(Y d 0),(Y b.2 1)])) (qc .lss (Y d 0) J0 (some (0,[g,(Y b.2 1)])) (qX a0 g λad=>qX a0 (Y v55 1) λal=>Z c 103 [ad,al] λj=>qX a0 (Y d 0) λan=>qX a0 (Y v55 1) λax=>Z c 103 [an,ax] λk=>Q a1 [0] λaI=>Z c 104 [aI,k,j] λo=>qC .lss o J0 λB=>qO B (qt (bq o J0) (Z c 101 [j,j] λK=>Z c 101 [k,k] λL=>qh .gtr K L) (some false)) (some (0,[g,(Y b.2 1)])) (some (0,[(Y d 0),(Y b.2 1)]))))) λM=>qj (Y d 1) λa2=>iL [(Y M.2 0),a2]) (iR (0,[(Y d 0)]))) [(Jn (-1)),J0] λN=>iL [(D.sl ((qV v55 0)++[(Y v55 1)])),(Y N.2 0)])) (iR (0,[(qW v55 0)]))) [(D.sl [R]),(Y b.2 0)] λO=>some (qW O.2 0)
def L46:l 46 (G (YT lp)):=aQ 0 Tryz.f260 A46 a
def A47:Ann:=let a:LS:=[Wbc,(5,.ow h),hP];(.t (.t (.w (.t (.w (.p [Wbc,R'] [] [0] [(.x 0,S1 [Wbc])] (.t (.w (.w (.t (.t (.w (.t (.w (.p [Wbc,(5,.ow h),hP,Wau] [] [0,4] [(.x 2,y [(5,.ow h),hP] [] [0,4])] (.t (.cut [(.m,y a [] [0,4,7])] [0,4,7] [] (.w (.w Wbm (.cut [(.m,y a [] [0,4,7])] [0,4,7] [] .o sx)) .o) .o))) .o)) (.cut [(.m,y [(5,.ow h)] [] [0,4])] [0,4] [] .o .o)))) .o) .o))) .o)) .o)))
def YU(lp:q)(c:Ca)(a0:D):Option D:=qy lp (λv1=>ql a0 (Y v1 1) (qy lp (λv5=>qc .lss (Y v5 3) (Jn (List.length (qV v5 0))) (qb (qX a0 (Y v1 1) λj=>qi (Y v5 3) (List.length (qV v5 0)) λi11=>((qV v5 0)[i11]?).bind λr=>Z c 105 [j,r] λn=>qb (qN (Y v5 2) λh=>qA h (qt n (some true) (qX a0 (Y v1 1) λs=>qi (Y v5 3) (List.length (qV v5 0)) λi20=>((qV v5 0)[i20]?).bind λt=>D.truth (bq s t))) (qX a0 (Y v1 1) λe=>qu (qV v5 1) [e] (some (0,[(qW v5 0),(D.sl ((qV v5 1)++[e])),bT]))) (some (0,[(qW v5 0),(qW v5 1),(Y v5 2)]))) λa=>qi (Y v5 3) (List.length (qV a.2 0)) λi28=>((qV a.2 0)[i28]?).bind λu=>qX a0 (Y v1 1) λv=>qt (nq u v) (qi (Y v5 3) (List.length (qV a.2 0)) λi34=>((qV a.2 0)[i34]?).bind λf=>qu (qV a.2 1) [f] (some (0,[(qW a.2 0),(D.sl ((qV a.2 1)++[f])),(Y a.2 2)]))) (some (0,[(qW a.2 0),(qW a.2 1),(Y a.2 2)]))) λd=>qj (Y v5 3) λw=>iL [(qW d.2 0),(qW d.2 1),(Y d.2 2),w]) (iR (0,[(qW v5 1),(Y v5 2)]))) [(qW v1 0),(D.sl []),bF,J0] λb=>qb (qn (Y b.2 1) (qX a0 (Y v1 1) λg=>qu (qV b.2 0) [g] (some (0,[(D.sl ((qV b.2 0)++[g]))]))) (some (0,[(qW b.2 0)]))) λo=>qj (Y v1 1) λx=>iL [(qW o.2 0),x]) (iR (0,[(qW v1 0)]))) [(D.sl []),J0] λp=>some (qW p.2 0)
def L47:l 47 (m1 (YU lp)):=aY 0 Tryz.f256 A47 a
end
end Sy
end
set_option maxHeartbeats 0
noncomputable section
namespace Sy
open Go Go.Proofs
section
variable{lp}(a:am lp)
def A48:Ann:=.t (.t (.w (.t (.w (.p [P',R'] [] [0] [(.x 0,S1 [P'])] (.t (.w (.w (.t (.w (.p [P',Waa] [] [0,4] [(.x 2,y [P'] [] [0,4])] (.t (.w (.w (.t (.w (.p [P',mI] [] [0,4,5] [(.x 4,y [P'] [] [0,4,5])] (.t (.w (.w (.w (.g [] 14) (.t (.w (.p [P',(7,.s h 49159),fl] [(49159,.e h (.v h))] [0,4,5,6] [(.x 6,y [P'] [] [0,4,5,6])] (.t (.w (.w (.w WaX (.t (.t (.cut [(.m,y [P',(7,.s h 49159)] [(49159,.k h 7)] [0,4,5,6,8])] [0,4,5,6,8] [49159] (.t ng) .o)))) .o) .o))) .o))) .o) .o))) .o)) .o) .o))) .o)) .o) .o))) .o)) .o))
def YV(lp:q)(c:Ca)(a0:D):Option D:=qy lp (λv1=>ql a0 (Y v1 1) (qj (Y v1 1) λH=>qy lp (λv6=>ql a0 (Y v6 1) (qj (Y v6 1) λu=>qy lp (λv11=>ql a0 (Y v11 1) (qX a0 (Y v1 1) λv=>qX a0 (Y v6 1) λw=>qX a0 (Y v11 1) λx=>Z c 106 [v,w,x] λj=>qy lp (λv25=>qc .lss (Y v25 1) J2 (qX a0 (Y v1 1) λy=>Z c 107 [(Y v25 2),y] λa=>Z c 108 [(Y v25 0),(Y v25 2)] λk=>qb (qN k λe=>qa e (qz (bq (Y v25 2) (D.st [J0,J0,J0]))) λg=>qA g (Z c 109 [a0,(Y v25 2),a] λl=>D.truth l) (Z c 111 [a0,(Y v25 2),a] λm=>Z c 110 [(Y v25 0),(D.st [(Y v25 2),a,m])] λn=>some (0,[n])) (some (0,[(Y v25 0)]))) λo=>Z c 112 [(D.st [J0,J0,J0]),(Y v25 2)] λp=>qj (Y v25 1) λA=>iL [(Y o.2 0),A,p]) (iR (0,[(Y v25 0)]))) [(Y v11 0),J0,j] λf=>qj (Y v11 1) λB=>iL [(Y f.2 0),B]) (iR (0,[(Y v11 0)]))) [(Y v6 0),u] λr=>qj (Y v6 1) λC=>iL [(Y r.2 0),C]) (iR (0,[(Y v6 0)]))) [(Y v1 0),H] λs=>qj (Y v1 1) λE=>iL [(Y s.2 0),E]) (iR (0,[(Y v1 0)]))) [(D.sl []),J0] λt=>some (Y t.2 0)
def L48:l 48 (m1 (YV lp)):=aY 0 Tryz.f257 A48 a
def A51:Ann:=.t oq
def YW(lp:q)(c:Ca)(a0 a1:D):Option D:=Q a0 [0] λx1=>Q a1 [0] λe=>Z c 53 [x1,e] λa=>Q a0 [1] λf=>Q a1 [1] λg=>Z c 53 [f,g] λb=>Z c 52 [(D.sl [a,b])] λd=>some d
def L51:l 51 (G (YW lp)):=aQ 0 Tryz.f302 A51 a
def A52:Ann:=.t (.t (.w (.t (.w (.p [fl] [] [3,6,7] [(.r,S1 [(2,.i)]),(.x 0,y [] [] [3])] .o) .o)) .o))
def YX(lp:q)(c:Ca)(a0:D):Option D:=qS a0 λl1=>qy lp (λv2=>qc .lss (Y v2 0) (jl l1) (qX a0 (Y v2 0) λb=>qt (nq b J0) (iR (0,[b])) (qj (Y v2 0) λf=>iL [f])) (iR (1,[]))) [J0] λa=>qr a (some J0)
def L52:l 52 (m1 (YX lp)):=aY 0 Tryz.f296 A52 a
def YY(lp:q)(c:Ca)(a0 a1:D):Option D:=Z c 115 [a0] λr1=>Z c 115 [a1] λa=>qt r1 (qt a (some J0) (some (Jn (-1)))) (qt a (some J1) (qc .lss a0 a1 (some (Jn (-1))) (qc .gtr a0 a1 (some J1) (some J0))))
def L53:l 53 (G (YY lp)):=aQ 0 Tryz.f297 .leaf a
def A54:Ann:=.t (.t (.cut [(.m,y [pI,(3,.v (Ty.int .u64))] [kS] [0])] [0] [4098] .o .o))
def YZ(lp:q)(c:Ca)(a0:D):Option D:=qw .u64 a0 λx1=>qb (qc .lss a0 J0 ((akz .neg x1).bind λe=>some (0,[e])) (some (0,[x1]))) λb=>P .lss a0 J0 λf=>qw .u32 (Y b.2 0) λg=>P .shr (Y b.2 0) (D.int .u64 32) λh=>qw .u32 h λi=>Z c 116 [f,(D.st (akx (List.replicate 16 (D.int .u32 0)) [(0,g),(1,i)]))] λa=>some a
def L54:l 54 (m1 (YZ lp)):=aY 0 Tryz.f58 A54 a
def A57:Ann:=.t (.t (.t (.w (.t (.w sx .o)) sx)))
def Y0(lp:q)(c:Ca)(a0 a1:D):Option D:=Z c 118 [(D.sl [a0,a1])] λr1=>qn r1 (Z c 119 [] λy=>some y) (Q a0 [1] λz=>Q a1 [1] λA=>qt (bq z A) (Q a0 [2] λB=>Q a1 [2] λC=>Z c 120 [B,C] λa=>qp a 0 λl=>qp a 1 λm=>qn m (Z c 119 [] λe=>some e) (Q a0 [1] λn=>Z c 116 [n,l] λf=>some f)) (Q a0 [2] λo=>Q a1 [2] λp=>Z c 121 [o,p] λg=>qc .geq g J0 (Q a0 [1] λS=>Q a0 [2] λr=>Q a1 [2] λs=>Z c 122 [r,s] λh=>Z c 116 [S,h] λi=>some i) (Q a1 [1] λt=>Q a1 [2] λu=>Q a0 [2] λv=>Z c 122 [u,v] λj=>Z c 116 [t,j] λk=>some k)))
def L57:l 57 (G (Y0 lp)):=aQ 0 Tryz.f154 A57 a
def A61:Ann:=let a:LO:=[kS,J',tp,(12293,.e Qi (.v Qi))];(.t (.t (.t (.w Wab (.w (.t (.w (.p [pI,kd,vd,WaK,(24,.i)] a [7,23] [(.x 0,y [pI,kd,vd,WaK] a [])] (.t (.t (.w (.w (.t (.t (.w (.t (.w (.p [pI,kd,vd,WaK,(9,.v (Ty.int .u64)),(28,.i)] a [7,8,23,24,27] [(.x 2,y [pI,kd,vd,WaK,(9,.v (Ty.int .u64))] a [7,8,23,24])] (.t (.t (.w (.w fu .o) .o)))) .o)) .o))) .o) .o)))) .o)) (.t ng))))))
def Y1(lp:q)(c:Ca)(a0 a1:D):Option D:=(c 118 [(D.sl [a0,a1])]).bind λr1=>qN r1 λH=>if H then((c 119 []).bind λI=>some I) else(Q a0 [2] λK=>(c 127 [K]).bind λJ=>Q a1 [2] λL=>(c 127 [L]).bind λG=>(qZ lp (λv9=>qC .lss (Y v9 0) J λg=>if g then((qZ lp (λv12=>qC .lss (Y v12 1) G λh=>if h then((D.idx (Y v9 0) 16).bind λi15=>Q a0 [2,i15] λl=>(D.conv .u64 l).bind λm=>(D.idx (Y v12 1) 16).bind λi18=>Q a1 [2,i18] λn=>(D.conv .u64 n).bind λo=>P .mul m o λp=>P .add (Y v9 0) (Y v12 1) λS=>qJ S 32 (Y v12 2) λr=>(D.conv .u64 r).bind λs=>P .add p s λt=>P .add (Y v12 0) t λf=>P .add (Y v9 0) (Y v12 1) λu=>(D.conv .u32 f).bind λv=>(D.idx u 32).bind λi30=>(D.set (Y v12 2) [i30] v).bind λw=>P .shr f (D.int .u64 32) λx=>P .add (Y v12 1) (Jn 1) λy=>iL [x,y,w]) else(iR (0,[(Y v12 0),(Y v12 2)]))) [(D.int .u64 0),(Jn 0),(Y v9 1)]).bind λd=>P .add (Y v9 0) G λz=>(D.conv .u32 (Y d.2 0)).bind λA=>(D.idx z 32).bind λi37=>(D.set (Y d.2 1) [i37] A).bind λB=>P .add (Y v9 0) (Jn 1) λC=>iL [C,B]) else(iR (0,[(Y v9 1)]))) [(Jn 0),(az Qi)]).bind λe=>(match (Y e.2 0) with
| D.st a=>(if decide (16+16<=a.length) then(qT (D.bool (!(D.beq (D.st (List.take 16 (List.drop 16 a))) (D.st (akx (List.replicate 16 (D.int .u32 0)) []))))) λi=>
 if i then((c 119 []).bind λj=>
 some j) else(Q a0 [1] λE=>
 Q a1 [1] λF=>
(match (Y e.2 0) with
| D.st b=>(if decide (0+16<=b.length) then((c 116 [(D.bool (!(D.beq E F))),(D.st (List.take 16 (List.drop 0 b)))]).bind λk=> some k) else none)
| _=>none))) else none)
| _=>none))
def L61:l 61 (G (Y1 lp)):=aQ 0 Tryz.f142 A61 a
def A62:Ann:=.t (.t (.t (.cut [(.m,y [pI,kd,fw,(5,.s c 12293)] [kS,J',I',(12293,.e c (.v c))] [])] [] [4098,4099,4100] .o tw)))
def Wo(lp:q)(c:Ca)(a0 a1:D):Option D:=Z c 128 [a0] λr1=>qN r1 λk=>qo k (Z c 128 [a1] λo=>qz o) λm=>qO m (Z c 129 [a1] λp=>D.truth (bq p J0)) (Z c 130 [] λf=>some f) (Z c 131 [a0,a1] λa=>qb (Z c 129 [a1] λg=>qc .lss g J0 (Z c 68 [a] λh=>some (0,[h])) (some (0,[a]))) λb=>Z c 132 [a0,(Y b.2 0)] λi=>Z c 132 [a1,(Y b.2 0)] λj=>some (D.st [i,j]))
def L62:l 62 (G (Wo lp)):=aQ 0 Tryz.f100 A62 a
def Y2(lp:q)(c:Ca)(a0:D):Option D:=Z c 118 [(D.sl [a0])] λr1=>qn r1 (Z c 119 [] λb=>some b) (Q a0 [1] λe=>(akz .not e).bind λf=>Q a0 [2] λg=>Z c 116 [f,g] λd=>some d)
def L68:l 68 (m1 (Y2 lp)):=aY 0 Tryz.f72 .leaf a
def A72:Ann:=.t mB
def Y3(lp:q)(c:Ca)(a0 a1:D):Option D:=Z c 135 [a0] λr1=>Z c 134 [r1,a1] λa=>some a
def L72:l 72 (G (Y3 lp)):=aQ 0 Tryz.f29 A72 a
def A73:Ann:=.t (.w WaY (.t (.t (.t (.w (.w (.p [(2,.s j 4098),WaZ,Wau] [(4098,.e j (.v j)),WaL] [] [(.x 1,S1 [Wau])] (.w (.w ot (.w (.g [] 16) tw)) .o)) .o) .o)))))
def Y4(lp:q)(c:Ca)(a0 a1:D):Option D:=Z c 136 [a0] λr1=>Z c 136 [a1] λC=>qN r1 λE=>qA E (qz C) (some J0) (qn r1 (some (Jn (-1))) (qn C (some J1) (qy lp (λv12=>Q (Y v12 1) [0] λo=>Q (Y v12 1) [1] λp=>Z c 132 [o,p] λl=>Q (Y v12 2) [0] λh=>Q (Y v12 2) [1] λr=>Z c 132 [h,r] λm=>Z c 90 [l,m] λa=>qt (nq a J0) (P .mul (Y v12 0) a λs=>iR (0,[s])) (Q (Y v12 1) [1] λt=>Q (Y v12 1) [0] λu=>Q (Y v12 1) [1] λv=>Z c 137 [u,v] λb=>Q (Y v12 2) [1] λw=>Q (Y v12 2) [0] λx=>Q (Y v12 2) [1] λy=>Z c 137 [x,y] λd=>Z c 129 [b] λe=>Z c 129 [d] λf=>qT (bq e J0) λi=>qO i (D.truth (bq f J0)) (P .sub e f λz=>P .mul (Y v12 0) z λA=>iR (0,[A])) ((akz .neg (Y v12 0)).bind λB=>iL [B,(D.st [t,b]),(D.st [w,d])]))) [J1,a0,a1] λn=>some (Y n.2 0))))
def L73:l 73 (G (Y4 lp)):=aQ 0 Tryz.f28 A73 a
def Y5(lp:q)(c:Ca)(a0:D):Option D:=Z c 54 [a0] λr1=>Z c 138 [r1] λa=>some a
def L74:l 74 (m1 (Y5 lp)):=aY 0 Tryz.f20 .leaf a
def WE(lp:q)(c:Ca)(a0:D):Option D:=Z c 139 [a0] λr1=>qT r1 λb2=>(qe b2 (Q a0 [0] λb=>qz b) (some false)).bind λa=>some (D.bool a)
def L76:l 76 (m1 (WE lp)):=aY 0 Tryz.f90 .leaf a
def A77:Ann:=.t (.t (.w (.t (.w (.p [Wah,(3,.ow Ti),R'] gi [] [(.x 0,S1 [(3,.ow Ti)])] (.t (.w Wai .o))) .o)) .o))
def Y6(lp:q)(c:Ca)(a0:D):Option D:=qy lp (λv1=>qc .lss (Y v1 1) (Jn 16) (qi (Y v1 1) 16 λi4=>Q a0 [2,i4] λi=>P .rem i (D.int .u32 65536) λj=>qw .i64 j λg=>qi (Y v1 1) 16 λi8=>Q a0 [2,i8] λk=>P .quo k (D.int .u32 65536) λe=>qw .i64 e λa=>qu (qV v1 0) [g,a] (qj (Y v1 1) λf=>iL [(D.sl ((qV v1 0)++[g,a])),f])) (iR (0,[(qW v1 0)]))) [(D.sl []),J0] λb=>Z c 140 [(qW b.2 0)] λd=>some d
def L77:l 77 (m1 (Y6 lp)):=aY 0 Tryz.f94 A77 a
def A78:Ann:=.t (.w (.t (.w (.p [Waa] [] [0,1] [(.r,rf),(.x 0,pd)] .o) .o)) .o)
def Y7(lp:q)(c:Ca)(a0 a1:D):Option D:=qS a0 λl1=>qS a1 λi=>(D.max2 (jl l1) (jl i)).bind λl=>P .sub l J1 λm=>qy lp (λv5=>qc .geq (Y v5 0) J0 (Z c 141 [a0,(Y v5 0)] λj=>Z c 141 [a1,(Y v5 0)] λk=>qt (nq j k) (Z c 141 [a0,(Y v5 0)] λd=>Z c 141 [a1,(Y v5 0)] λe=>P .lss d e λf=>iR (0,[f])) (P .sub (Y v5 0) J1 λg=>iL [g])) (iR (1,[]))) [m] λa=>qr a (some bF)
def L78:l 78 (G (Y7 lp)):=aQ 0 Tryz.f134 A78 a
def A80:Ann:=vv
def Y8(lp:q)(c:Ca)(a0:D):Option D:=Q a0 [0] λx1=>Z c 34 [x1] λa=>Q a0 [1] λe=>Z c 34 [e] λb=>Q a0 [2] λf=>Z c 34 [f] λd=>some (D.st [a,b,d])
def L80:l 80 (m1 (Y8 lp)):=aY 0 Tryz.f191 A80 a
def A81:Ann:=let a:LO:=[tp,(16390,.e c (.v c))];let b:LS:=[vd,(6,.s c 16390)];(.t (.t (.t (.t (.w (.t (.w (.p [vd,(6,.s c 16390),Wau] a [5] [(.x 0,y b a [])] (.t (.cut [(.m,y b a [5,7])] [5,7] [4100] (.w (.t (.w (.g [] 15) (.g [] 16))) .o) .o))) .o)) .o)))))
def Y9(lp:q)(c:Ca)(a0 a1:D):Option D:=Z c 140 [a1] λr1=>qS r1 λz=>qc .gtr (jl z) (Jn 32) (Z c 125 [] λB=>some B) (qT a0 λx=>(qe x (qS r1 λA=>qh .gtr (jl A) J0) (some false)).bind λy=>qy lp (λv10=>ql r1 (Y v10 0) (qb (P .rem (Y v10 0) J2 λf=>qt (bq f J0) (P .quo (Y v10 0) J2 λg=>P .quo (Y v10 0) J2 λh=>qi h 16 λi18=>Q (Y v10 1) [2,i18] λi=>qX r1 (Y v10 0) λj=>qw .u32 j λk=>P .add i k λl=>qi g 16 λi25=>qs (Y v10 1) [2,i25] l λm=>some (0,[m])) (P .quo (Y v10 0) J2 λn=>P .quo (Y v10 0) J2 λo=>qi o 16 λi29=>Q (Y v10 1) [2,i29] λp=>qX r1 (Y v10 0) λS=>qw .u32 S λr=>P .mul r (D.int .u32 65536) λs=>P .add p s λt=>qi n 16 λi37=>qs (Y v10 1) [2,i37] t λu=>some (0,[u]))) λd=>qj (Y v10 0) λv=>iL [v,(Y d.2 0)]) (iR (0,[(Y v10 1)]))) [J0,(D.st [bF,(D.bool y),(az bf)])] λe=>some (Y e.2 0))
def L81:l 81 (G (Y9 lp)):=aQ 0 Tryz.f135 A81 a
def A82:Ann:=.t (.t (.t (.w (.t (.w (.loop Wbh [(.x 0,WbX)] .o) .o)) .o)))
def Za(lp:q)(c:Ca)(a0 a1:D):Option D:=qy lp (λv1=>qS a0 λj=>qS a1 λk=>(D.max2 (jl j) (jl k)).bind λn=>qj n λo=>qc .lss (Y v1 2) o (Z c 141 [a0,(Y v1 2)] λl=>Z c 141 [a1,(Y v1 2)] λm=>P .add l m λf=>P .add f (Y v1 1) λa=>P .rem a (Jn 65536) λb=>qu (qV v1 0) [b] (P .quo a (Jn 65536) λg=>qj (Y v1 2) λh=>iL [(D.sl ((qV v1 0)++[b])),g,h])) (iR (0,[(qW v1 0)]))) [(D.sl []),J0,J0] λd=>Z c 140 [(qW d.2 0)] λe=>some e
def L82:l 82 (G (Za lp)):=aQ 0 Tryz.f136 A82 a
def Zb(lp:q)(c:Ca)(a0:D):Option D:=Z c 76 [a0] λr1=>qN r1 λa=>qO a (Z c 77 [a0] λg=>qS g λf=>D.truth (bq (jl f) J0)) (some J0) (Q a0 [1] λh=>qt h (some (Jn (-1))) (some J1))
def L83:l 83 (m1 (Zb lp)):=aY 0 Tryz.f91 .leaf a
def A85:Ann:=.t (.t (.t (.w (.t (.w (.w (.w (.p [vd,Waa,Wau] [tp] [] [(.x 0,y [vd,Waa] [tp] [])] .o) .o) .o) .o)) (.t (.t (.t (.w (.w (.p [vd,(10,.v K5),(11,.v K5)] [tp] [] [(.x 2,y [vd,(10,.v K5)] [tp] [])] .o) .o) .o)))))))
def WF(lp:q)(c:Ca)(a0 a1:D):Option D:=Z c 124 [a0] λr1=>qp r1 0 λz=>qp r1 1 λA=>Z c 124 [a1] λv=>qp v 0 λC=>qp v 1 λE=>qT A λw=>qA w (D.truth E) (qy lp (λv10=>qt (nq (Y v10 1) J0) (P .rem (Y v10 0) (Y v10 1) λs=>iL [(Y v10 1),s]) (iR (0,[(Y v10 0)]))) [z,C] λi=>Z c 34 [(Y i.2 0)] λj=>Z c 142 [j] λk=>some k) (Z c 76 [a0] λl=>qN l λd=>qO d (Z c 76 [a1] λm=>qz m) (Z c 125 [] λn=>some n) (Z c 77 [a0] λo=>Z c 77 [a1] λp=>qy lp (λv26=>qS (Y v26 1) λh=>qc .gtr (jl h) J0 (Z c 143 [(Y v26 0),(Y v26 1)] λa=>qp a 0 λB=>qp a 1 λu=>iL [(Y v26 1),u]) (iR (0,[(Y v26 0)]))) [o,p] λf=>Z c 81 [bF,(Y f.2 0)] λr=>some r))
def L85:l 85 (G (WF lp)):=aQ 0 Tryz.f92 A85 a
def A87:Ann:=.t (.t (.t (.t (.t (.w Wbm (.cut [(.m,y [pI,kd,vd,(9,.v K5)] [kS,J',tp] [])] [] [4098,4099,4100] .o .o))))))
def Zc(lp:q)(c:Ca)(a0 a1:D):Option D:=Z c 124 [a0] λr1=>qp r1 0 λN=>qp r1 1 λO=>Z c 124 [a1] λI=>qp I 0 λJ=>qp I 1 λP=>qT O λK=>qa K (D.truth P) λM=>qA M (D.truth (nq J J0)) (Z c 144 [N,J] λp=>Z c 34 [p] λj=>some j) (Z c 76 [a0] λr=>qN r λf=>qo f (Z c 76 [a1] λs=>qz s) λh=>qO h (Z c 77 [a1] λt=>qS t λn=>D.truth (bq (jl n) J0)) (Z c 125 [] λu=>some u) (Z c 77 [a0] λv=>Z c 77 [a1] λw=>Z c 143 [v,w] λa=>qp a 0 λb=>qp a 1 λB=>qb (Q a0 [1] λC=>Q a1 [1] λE=>qT (nq C E) λk=>qA k (qS B λo=>qh .gtr (jl o) J0) (Z c 82 [b,(D.sl [J1])] λx=>some (0,[x])) (some (0,[b]))) λy=>Q a0 [1] λG=>Q a1 [1] λH=>Z c 81 [(nq G H),(Y y.2 0)] λz=>some z))
def L87:l 87 (G (Zc lp)):=aQ 0 Tryz.f97 A87 a
def T1(lp:q)(c:Ca)(a0:D):Option D:=Q a0 [0] λx1=>Z c 76 [x1] λm=>qN m λj=>qO j (Q a0 [1] λo=>Z c 76 [o] λn=>qz n) (some bF) (Q a0 [1] λg=>Z c 83 [g] λd=>qC .gtr d J0 λa=>(qe a (Q a0 [0] λh=>Q a0 [1] λi=>Z c 85 [h,i] λe=>Z c 133 [] λf=>D.truth (bq e f)) (some false)).bind λb=>some (D.bool b))
def L88:l 88 (m1 (T1 lp)):=aY 0 Tryz.f34 .leaf a
def A90:Ann:=.t tw
def Zd(lp:q)(c:Ca)(a0 a1:D):Option D:=Z c 118 [(D.sl [a0])] λr1=>Z c 118 [(D.sl [a1])] λp=>qN r1 λy=>qA y (qz p) (some J0) (qn r1 (some (Jn (-1))) (qn p (some J1) (Q a0 [1] λh=>Q a1 [1] λi=>qt (nq h i) (Q a0 [1] λj=>qt j (some (Jn (-1))) (some J1)) (Q a0 [1] λk=>qt k (Q a1 [2] λl=>Q a0 [2] λm=>Z c 121 [l,m] λf=>some f) (Q a0 [2] λn=>Q a1 [2] λo=>Z c 121 [n,o] λg=>some g)))))
def L90:l 90 (G (Zd lp)):=aQ 0 Tryz.f57 A90 a
def A91:Ann:=Wbg
def Ze(lp:q)(c:Ca)(a0 a1:D):Option D:=Z c 148 [a0] λr1=>Z c 148 [a1] λa=>Z c 147 [r1,a] λb=>some b
def L91:l 91 (G (Ze lp)):=aQ 0 Tryz.f103 A91 a
end
end Sy
end
set_option maxHeartbeats 0
noncomputable section
namespace Sy
open Go Go.Proofs
section
variable{lp}(a:am lp)
def A96:Ann:=.t (.w gp (.cut [(.m,y [mb,(6,.s eS 4102),(7,.s h 8199)] [k7,(4102,.k eS 6),(8199,.e h (.v h))] [])] [] [4099,4102] (.w gp (.t WbI)) vb))
def Zf(lp:q)(c:Ca)(a0 a1 a2:D):Option D:=Z c 103 [a1,a0] λr1=>Z c 103 [a2,a0] λm=>Z c 117 [r1,m] λa=>qb (Q a [0] λo=>Q a [1] λp=>Z c 152 [o,p] λn=>Q a [2] λy=>Z c 152 [n,y] λd=>qc .gtr d J1 (Q a [0] λg=>P .quo g d λh=>Q a [1] λi=>P .quo i d λj=>Q a [2] λk=>P .quo k d λl=>some (0,[(D.st [h,j,l])])) (some (0,[a]))) λb=>Z c 101 [(Y b.2 0),a0] λf=>some (D.st [(Y b.2 0),f])
def L96:l 96 (m3 (Zf lp)):=kN 0 Tryz.f292 A96 a
def Zg(lp:q)(c:Ca)(a0:D):Option D:=Q a0 [0] λx1=>(akz .neg x1).bind λa=>Q a0 [1] λb=>(akz .neg b).bind λd=>Q a0 [2] λe=>(akz .neg e).bind λf=>some (D.st [a,d,f])
def L97:l 97 (m1 (Zg lp)):=aY 0 Tryz.f23 .leaf a
def A98:Ann:=.t (.t (.w (.t (.w (.p [fp,(5,.b),Wbi] [K'] [9,10] [(.r,rf),(.x 0,S1 [(5,.b)])] .o) .o)) .o))
def Zh(lp:q)(c:Ca)(a0 a1:D):Option D:=qS a0 λl1=>qy lp (λv2=>qc .lss (Y v2 1) (jl l1) (qX a0 (Y v2 1) λl=>Q a1 [0] λm=>Z c 101 [m,l] λj=>Q a1 [1] λf=>qc .gtr j f (iR (0,[bF])) (qT (Y v2 0) λd=>(qe d (Q a1 [1] λg=>D.truth (bq j g)) (some false)).bind λe=>qj (Y v2 1) λh=>iL [(D.bool e),h])) (iR (1,[(Y v2 0)]))) [bT,J0] λa=>qr a ((akz .not (Y a.2 0)).bind λi=>some i)
def L98:l 98 (G (Zh lp)):=aQ 0 Tryz.f293 A98 a
def Zw:Ann:=.t (.w (.g [] 23) .o)
def N0(lp:q)(c:Ca)(a0 a1:D):Option D:=Q a0 [0,0] λx1=>Q a1 [0,0] λf=>Z c 53 [x1,f] λb=>Q a0 [0,1] λg=>Q a1 [0,1] λh=>Z c 53 [g,h] λd=>Q a0 [0,2] λi=>Q a1 [0,2] λj=>Z c 53 [i,j] λe=>Z c 52 [(D.sl [b,d,e])] λa=>some a
def abc:l 100 (G (N0 lp)):=aQ 0 Tryz.f295 Zw a
def J7(lp:q)(c:Ca)(a0 a1:D):Option D:=Q a0 [0] λx1=>Q a1 [0] λd=>P .mul x1 d λe=>Q a0 [1] λf=>Q a1 [1] λg=>P .mul f g λh=>P .add e h λi=>Q a0 [2] λj=>Q a1 [2] λk=>P .mul j k λa=>P .add i a λb=>some b
def abd:l 101 (G (J7 lp)):=aQ 0 Tryz.f298 .leaf a
def Zx:Ann:=.t mB
def N3(lp:q)(c:Ca)(a0 a1:D):Option D:=Z c 97 [a1] λr1=>Z c 154 [a0,r1] λa=>some a
def abe:l 103 (G (N3 lp)):=aQ 0 Tryz.f262 Zx a
def Zy:Ann:=.t (.t (.w (.t (.w (.p [(7,.s h 8199),(14,.i)] [(8199,.k h 7)] [13] [(.r,S1 [mI]),(.x 0,pd)] .o) .o)) .o))
def N5(lp:q)(c:Ca)(a0 a1 a2:D):Option D:=Z c 117 [a1,a2] λr1=>qy lp (λv2=>qc .lss (Y v2 0) J3 (qi (Y v2 0) 3 λi5=>qf a0 i5 λg=>qt (nq g J0) (qJ (Y v2 0) 3 r1 λj=>Z c 53 [j,J0] λb=>Z c 53 [g,J0] λd=>P .mul b d λe=>iR (0,[e])) (qj (Y v2 0) λf=>iL [f])) (iR (1,[]))) [J0] λa=>qr a (some J0)
def abf:l 104 (m3 (N5 lp)):=kN 0 Tryz.f300 Zy a
def N6(lp:q)(c:Ca)(a0 a1:D):Option D:=Q a0 [0] λx1=>Q a1 [0] λj=>qt (nq x1 j) (Q a0 [0] λk=>Q a1 [0] λl=>P .lss k l λm=>some m) (Q a0 [1] λn=>Q a1 [1] λo=>qt (nq n o) (Q a0 [1] λa=>Q a1 [1] λb=>P .lss a b λd=>some d) (Q a0 [2] λe=>Q a1 [2] λf=>P .lss e f λg=>some g))
def abg:l 105 (G (N6 lp)):=aQ 0 Tryz.f285 .leaf a
def Zz:Ann:=.t sx
def N7(lp:q)(c:Ca)(a0 a1 a2:D):Option D:=Z c 112 [a1,a0] λr1=>Z c 112 [a2,a0] λa=>Z c 123 [r1,a] λb=>Z c 80 [b] λd=>Z c 155 [d] λe=>Q e [0] λf=>some f
def abh:l 106 (m3 (N7 lp)):=kN 0 Tryz.f286 Zz a
def N8(lp:q)(c:Ca)(a0 a1:D):Option D:=Q a0 [0] λx1=>Q a1 [0] λd=>P .mul x1 d λe=>Q a0 [1] λf=>Q a1 [1] λg=>P .mul f g λh=>P .add e h λi=>Q a0 [2] λj=>Q a1 [2] λk=>P .mul j k λa=>P .add i a λb=>some b
def abi:l 107 (G (N8 lp)):=aQ 0 Tryz.f287 .leaf a
def ZA:Ann:=.t (.w (.t (.w (.p [mb,Waa] [k7] [0] [(.r,rf),(.x 0,pd)] Wbd) .o)) .o)
def N9(lp:q)(c:Ca)(a0 a1:D):Option D:=qy lp (λv1=>ql a0 (Y v1 0) (qX a0 (Y v1 0) λf=>qf f 0 λg=>qt (bq g a1) (iR (0,[bT])) (qj (Y v1 0) λb=>iL [b])) (iR (1,[]))) [J0] λa=>qr a (some bF)
def abj:l 108 (G (N9 lp)):=aQ 0 Tryz.f288 ZA a
def ZB:Ann:=.t (.t (.w (.t (.w (.p [ri,Waf,fl] [tI] [0,2] [(.r,S1 [hP]),(.x 0,S1 [Waf])] Wbd) .o)) .o))
def Oa(lp:q)(c:Ca)(a0 a1 a2:D):Option D:=qy lp (λv1=>ql a0 (Y v1 1) (qX a0 (Y v1 1) λj=>Z c 107 [a1,j] λh=>qc .gtr h a2 (iR (0,[bF])) (qT (Y v1 0) λd=>(qe d (some true) (qh .lss h a2)).bind λe=>qj (Y v1 1) λg=>iL [(D.bool e),g])) (iR (1,[(Y v1 0)]))) [bF,J0] λa=>qr a (some (Y a.2 0))
def abk:l 109 (m3 (Oa lp)):=kN 0 Tryz.f289 ZB a
def ZC:Ann:=let a:LS:=[(3,.s K6 4099),(5,.ow K6),hP];(.t (.t (.t (.w (.t (.w (.p [(3,.s K6 4099),(5,.ow K6),hP,Wau] WaV [0] [(.x 0,y a WaV [])] (.t (.w (.w (.w gp (.cut [(.m,y a WaV [0,7])] [0,7] [4099] .o .o)) .o) .o))) .o)) (.cut [(.m,S1 [(5,.ow K6)])] [] [] .o .o)))))
def Oc(lp:q)(c:Ca)(a0 a1:D):Option D:=qy lp (λv1=>ql a0 (Y v1 2) (Q a1 [0] λm=>qX a0 (Y v1 2) λn=>qf n 0 λo=>Z c 105 [m,o] λi=>qb (qN (Y v1 1) λe=>qA e (D.truth i) (qu (qV v1 0) [a1] (some (0,[(D.sl ((qV v1 0)++[a1])),bT]))) (some (0,[(qW v1 0),(Y v1 1)]))) λb=>qX a0 (Y v1 2) λd=>qu (qV b.2 0) [d] (qj (Y v1 2) λk=>iL [(D.sl ((qV b.2 0)++[d])),(Y b.2 1),k])) (iR (0,[(qW v1 0),(Y v1 1)]))) [(D.sl []),bF,J0] λa=>qb (qn (Y a.2 1) (qu (qV a.2 0) [a1] (some (0,[(D.sl ((qV a.2 0)++[a1]))]))) (some (0,[(qW a.2 0)]))) λj=>some (qW j.2 0)
def abl:l 110 (G (Oc lp)):=aQ 0 Tryz.f290 ZC a
def ZD:Ann:=let a:LS:=[ri,Wbn,fl];let b:LS:=[ri,Wbn,Wbi];(.t (.t (.t (.w (.t (.w (.p [ri,Wbn,fl,(9,.i)] [tI] [0,2] [(.x 0,y a [tI] [0,2])] (.t (.cut [(.m,y a [tI] [0,2,9])] [0,2,9] [4100] (.w tw .o) .o))) .o)) (.t (.w (.w (.p a [tI] [0,2,10] [(.x 2,S1 [Wbn])] (.t (.w (.t (.t (.w (.t (.w (.p [ri,Wbn,Wbi,(12,.i)] [tI] [0,2,8,10] [(.x 4,y b [tI] [0,2,10])] (.t (.cut [(.m,y b [tI] [0,2,8,10,12])] [0,2,8,10,12] [4100] (.w WaH .o) .o))) .o)) .o))) .o))) .o) .o))))))
def Od(lp:q)(c:Ca)(a0 a1 a2:D):Option D:=qy lp (λv1=>qL a0 (Y v1 2) λG=>qA G (qh .lss (Y v1 1) J0) (qb (qX a0 (Y v1 2) λx=>Z c 107 [a1,x] λt=>qt (bq t a2) (some (0,[(qW v1 0),(Y v1 2)])) (some (0,[(qW v1 0),(Y v1 1)]))) λe=>qj (Y v1 2) λy=>iL [(qW e.2 0),(Y e.2 1),y]) (iR (0,[(qW v1 0),(Y v1 1)]))) [(D.sl []),(Jn (-1)),J0] λd=>qy lp (λa=>qS a0 λs=>qc .leq (Jn (List.length (qV a 0))) (jl s) (qu (qV a 0) [(Y a 1)] (qy lp (λv20=>qL a0 (Y v20 2) λi=>qA i (qh .lss (Y v20 1) J0) (qb (qT (nq (Y v20 2) (Y a 1)) λl=>qA l (qX a0 (Y v20 2) λA=>Z c 107 [a1,A] λu=>D.truth (bq u a2)) (qX a0 (Y a 1) λB=>qX a0 (Y v20 2) λC=>Z c 156 [a0,a1,a2,B,C] λv=>qt v (some (0,[(qW v20 0),(Y v20 2)])) (some (0,[(qW v20 0),(Y v20 1)]))) (some (0,[(qW v20 0),(Y v20 1)]))) λf=>qj (Y v20 2) λE=>iL [(qW f.2 0),(Y f.2 1),E]) (iR (0,[(qW v20 0),(Y v20 1)]))) [(D.sl ((qV a 0)++[(Y a 1)])),(Jn (-1)),J0] λb=>qT (bq (Y b.2 1) (Y d.2 1)) λp=>qO p (qh .lss (Y b.2 1) J0) (iR (0,[(qW b.2 0)])) (iL [(qW b.2 0),(Y b.2 1)]))) (iR (0,[(qW a 0)]))) [(qW d.2 0),(Y d.2 1)] λw=>some (qW w.2 0)
def abm:l 111 (m3 (Od lp)):=kN 0 Tryz.f291 ZD a
def Oe(lp:q)(c:Ca)(a0 a1:D):Option D:=Q a0 [0] λx1=>Q a1 [0] λa=>P .sub x1 a λb=>Q a0 [1] λd=>Q a1 [1] λe=>P .sub d e λf=>Q a0 [2] λg=>Q a1 [2] λh=>P .sub g h λi=>some (D.st [b,f,i])
def abn:l 112 (G (Oe lp)):=aQ 0 Tryz.f51 .leaf a
def Of(lp:q)(c:Ca)(a0:D):Option D:=some (nq a0 a0)
def abo:l 115 (m1 (Of lp)):=aY 0 Tryz.f317 .leaf a
def ZE:Ann:=.t sx
def Og(lp:q)(c:Ca)(a0 a1:D):Option D:=qT a0 λb1=>(qe b1 (D.truth (nq a1 (D.st (akx (List.replicate 16 (D.int .u32 0)) [])))) (some false)).bind λb2=>some (D.st [bF,(D.bool b2),a1])
def abp:l 116 (G (Og lp)):=aQ 0 Tryz.f133 ZE a
def Oh(lp:q)(c:Ca)(a0 a1:D):Option D:=Q a0 [1] λx1=>Q a1 [2] λn=>P .mul x1 n λo=>Q a0 [2] λp=>Q a1 [1] λy=>P .mul p y λr=>P .sub o r λs=>Q a0 [2] λt=>Q a1 [0] λu=>P .mul t u λa=>Q a0 [0] λb=>Q a1 [2] λd=>P .mul b d λe=>P .sub a e λf=>Q a0 [0] λg=>Q a1 [1] λh=>P .mul g h λi=>Q a0 [1] λj=>Q a1 [0] λk=>P .mul j k λl=>P .sub i l λm=>some (D.st [s,f,m])
def abq:l 117 (G (Oh lp)):=aQ 0 Tryz.f313 .leaf a
def ZF:Ann:=.t (.w (.t (.w (.p [Wau] [] [5,6] [(.r,mg),(.x 0,pd)] .o) .o)) .o)
def Oi(lp:q)(c:Ca)(a0:D):Option D:=qS a0 λl1=>qy lp (λv2=>qc .lss (Y v2 0) (jl l1) (qX a0 (Y v2 0) λh=>Q h [0] λk=>qT k λj=>qO j (Z c 167 [h] λe=>qz e) (iR (0,[bF])) (qj (Y v2 0) λg=>iL [g])) (iR (1,[]))) [J0] λa=>qr a (some bT)
def abr:l 118 (m1 (Oi lp)):=aY 0 Tryz.f55 ZF a
def Oj(lp:q)(c:Ca) :Option D:=some (D.st [bT,bF,(az bf)])
def abt:l 119 (m0 (Oj lp)):=zm 0 Tryz.f153 .leaf a
def ZG:Ann:=.t (.t (.t (.w (.t (.w (.p [h7,WbM,sw,WbN,H',(9,.i)] [k8,Wbt,rI,WaM] [] [(.x 0,ig)] Waq) .o)) .o)))
def Ol(lp:q)(c:Ca)(a0 a1:D):Option D:=qy lp (λv1=>qc .lss (Y v1 1) (Jn 16) (qJ (Y v1 1) 16 a0 λj=>qw .u64 j λk=>qJ (Y v1 1) 16 a1 λl=>qw .u64 l λm=>P .add k m λd=>P .add (Y v1 0) d λb=>qw .u32 b λe=>qi (Y v1 1) 16 λi13=>qs (Y v1 2) [i13] e λf=>P .shr b (D.int .u64 32) λg=>qj (Y v1 1) λh=>iL [g,h,f]) (iR (0,[(Y v1 0),(Y v1 2)]))) [(D.int .u64 0),J0,(az bf)] λa=>some (D.tup [(Y a.2 1),(bq (Y a.2 0) (D.int .u64 0))])
def abu:l 120 (G (Ol lp)):=aQ 0 Tryz.f237 ZG a
def ZH:Ann:=.t (.w (.t (.w (.p [h7,WbM,Waa] [k8,Wbt] [] [(.r,WaB),(.x 0,pd)] (.t (.w (.w (.w WaX (.w tw .o)) .o) .o))) .o)) .o)
def Om(lp:q)(c:Ca)(a0 a1:D):Option D:=qy lp (λv1=>qc .geq (Y v1 0) J0 (qJ (Y v1 0) 16 a0 λi=>qJ (Y v1 0) 16 a1 λj=>qt (nq i j) (qJ (Y v1 0) 16 a0 λd=>qJ (Y v1 0) 16 a1 λe=>Z c 168 [d,e] λb=>iR (0,[b])) (P .sub (Y v1 0) J1 λf=>iL [f])) (iR (1,[]))) [(Jn 15)] λa=>qr a (some J0)
def abv:l 121 (G (Om lp)):=aQ 0 Tryz.f132 ZH a
def ZI:Ann:=.t (.t (.t (.w (.t (.w (.p [h7,WbM,sw,Waj,G',(9,.i)] [k8,Wbt,rI,fI] [] [(.x 0,WbO)] Waq) .o)) .o)))
def On(lp:q)(c:Ca)(a0 a1:D):Option D:=qy lp (λv1=>qc .lss (Y v1 1) (Jn 16) (qJ (Y v1 1) 16 a0 λj=>qw .u64 j λk=>qJ (Y v1 1) 16 a1 λl=>qw .u64 l λm=>P .sub k m λd=>P .sub d (Y v1 0) λa=>qw .u32 a λe=>qi (Y v1 1) 16 λi13=>qs (Y v1 2) [i13] e λf=>P .shr a (D.int .u64 63) λg=>qj (Y v1 1) λh=>iL [g,h,f]) (iR (0,[(Y v1 2)]))) [(D.int .u64 0),J0,(az bf)] λb=>some (Y b.2 0)
def abw:l 122 (G (On lp)):=aQ 0 Tryz.f238 ZI a
def Oo(lp:q)(c:Ca)(a0 a1:D):Option D:=Q a0 [1] λx1=>Q a1 [2] λn=>P .mul x1 n λo=>Q a0 [2] λp=>Q a1 [1] λy=>P .mul p y λr=>P .sub o r λs=>Q a0 [2] λt=>Q a1 [0] λu=>P .mul t u λa=>Q a0 [0] λb=>Q a1 [2] λd=>P .mul b d λe=>P .sub a e λf=>Q a0 [0] λg=>Q a1 [1] λh=>P .mul g h λi=>Q a0 [1] λj=>Q a1 [0] λk=>P .mul j k λl=>P .sub i l λm=>some (D.st [s,f,m])
def abx:l 123 (G (Oo lp)):=aQ 0 Tryz.f311 .leaf a
def ZJ:Ann:=.t (.t (.t (.w (.t (.w (.p [Wah,Waa] gi [] [(.r,S1 [(2,.i),WbP]),(.x 0,y [Wah] gi [])] .o) .o)) .o)))
def J8(lp:q)(c:Ca)(a0:D):Option D:=Z c 76 [a0] λr1=>qN r1 λf=>qO f (Q a0 [2,1] λt=>qh .geq t (D.int .u32 1073741824)) (some (D.tup [J0,bF])) (qy lp (λg=>qc .lss (Y g 0) (Jn 16) (qi (Y g 0) 16 λi11=>Q a0 [2,i11] λh=>qt (nq h (D.int .u32 0)) (iR (0,[J0,bF])) (qj (Y g 0) λi=>iL [i])) (iR (1,[]))) [J2] λa=>if a.1=0 then(some (D.tup [(Y a.2 0),(Y a.2 1)])) else(Q a0 [2,1] λj=>qw .i64 j λk=>P .mul k (Jn 4294967296) λl=>Q a0 [2,0] λm=>qw .i64 m λn=>P .add l n λb=>Q a0 [1] λo=>qt o ((akz .neg b).bind λp=>some (D.tup [p,bT])) (some (D.tup [b,bT]))))
def aby:l 124 (m1 (J8 lp)):=aY 0 Tryz.f172 ZJ a
def WC(lp:q)(c:Ca) :Option D:=some (D.st [bT,bF,(az bf)])
def abz:l 125 (m0 (WC lp)):=zm 0 Tryz.f174 .leaf a
def ZL:Ann:=.t (.t (.t (.w (.t (.w (.loop Wbh [(.x 0,WbX)] (.t (.w (.w (.w X' (.t (.cut [(.m,y [(5,.ow Ti),mI,fl] [] [0,1,7])] [0,1,7] [] .o .o))) .o) .o))) .o)) .o)))
def Oq(lp:q)(c:Ca)(a0 a1:D):Option D:=qy lp (λv1=>ql a0 (Y v1 2) (qX a0 (Y v1 2) λk=>Z c 141 [a1,(Y v1 2)] λj=>P .sub k j λl=>P .sub l (Y v1 1) λb=>qb (qc .lss b J0 (P .add b (Jn 65536) λg=>some (0,[(qW v1 0),J1,g])) (some (0,[(qW v1 0),J0,b]))) λa=>qu (qV a.2 0) [(Y a.2 2)] (qj (Y v1 2) λh=>iL [(D.sl ((qV a.2 0)++[(Y a.2 2)])),(Y a.2 1),h])) (iR (0,[(qW v1 0)]))) [(D.sl []),J0,J0] λe=>Z c 140 [(qW e.2 0)] λf=>some f
def abA:l 126 (G (Oq lp)):=aQ 0 Tryz.f179 ZL a
def ZM:Ann:=.t (.t (.w (.w (.p [(1,.s bf 4097),iz] [(4097,.k bf 1)] [] [(.x 0,S1 [iz])] .o) .o) .o))
def Ot(lp:q)(c:Ca)(a0:D):Option D:=qy lp (λv1=>qC .gtr (Y v1 0) J0 λb=>qA b (P .sub (Y v1 0) J1 λf=>qJ f 16 a0 λg=>D.truth (bq g (D.int .u32 0))) (P .sub (Y v1 0) J1 λh=>iL [h]) (iR (0,[(Y v1 0)]))) [(Jn 16)] λa=>some (Y a.2 0)
def abB:l 127 (m1 (Ot lp)):=aY 0 Tryz.f54 ZM a
def H1(lp:q)(c:Ca)(a0:D):Option D:=Q a0 [0] λx1=>qN x1 λa=>(qe a (Z c 167 [a0] λd=>D.truth d) (some false)).bind λb=>some (D.bool b)
def abC:l 128 (m1 (H1 lp)):=aY 0 Tryz.f75 .leaf a
def Ou(lp:q)(c:Ca)(a0:D):Option D:=Z c 118 [(D.sl [a0])] λr1=>qN r1 λa=>qO a (Q a0 [2] λf=>D.truth (bq f (D.st (akx (List.replicate 16 (D.int .u32 0)) [])))) (some J0) (Q a0 [1] λg=>qt g (some (Jn (-1))) (some J1))
def abD:l 129 (m1 (Ou lp)):=aY 0 Tryz.f76 .leaf a
def Ov(lp:q)(c:Ca) :Option D:=Z c 119 [] λr1=>Z c 169 [] λa=>some (D.st [r1,a])
def abE:l 130 (m0 (Ov lp)):=zm 0 Tryz.f71 .leaf a
end
end Sy
end
set_option maxHeartbeats 0
noncomputable section
namespace Sy
open Go Go.Proofs
section
variable{lp}(a:am lp)
def ZN:Ann:=.t (.t (.w (.t (.w (.w (.g [] 21) (.w (.w (.p [vd,(5,.v (Ty.int .u64)),G'] [tp] [] [(.x 0,y [vd,(5,.v (Ty.int .u64))] [tp] [])] Wbg) .o) .o)) .o)) (.w (.w WaX (.t (.w Wbg .o))) .o)))
def Ow(lp:q)(c:Ca)(a0 a1:D):Option D:=Z c 118 [(D.sl [a0,a1])] λr1=>qn r1 (Z c 119 [] λK=>some K) (Q a0 [2] λN=>Z c 127 [N] λL=>qC .leq L J2 λJ=>qA J (Q a1 [2] λO=>Z c 127 [O] λi=>qh .leq i J2) (Q a0 [2,1] λp=>qw .u64 p λf=>P .shl f (D.int .u64 32) λr=>Q a0 [2,0] λs=>qw .u64 s λt=>P .or r t λu=>Q a1 [2,1] λv=>qw .u64 v λw=>P .shl w (D.int .u64 32) λx=>Q a1 [2,0] λy=>qw .u64 y λz=>P .or x z λA=>qy lp (λv26=>qt (nq (Y v26 1) (D.int .u64 0)) (P .rem (Y v26 0) (Y v26 1) λB=>iL [(Y v26 1),B]) (iR (0,[(Y v26 0)]))) [u,A] λb=>qw .u32 (Y b.2 0) λC=>P .shr (Y b.2 0) (D.int .u64 32) λE=>qw .u32 E λF=>Z c 116 [bF,(D.st (akx (List.replicate 16 (D.int .u32 0)) [(0,C),(1,F)]))] λj=>some j) (Q a0 [2] λG=>Q a1 [2] λa=>qt (nq a (D.st (akx (List.replicate 16 (D.int .u32 0)) []))) (Z c 170 [G,a] λd=>qp d 0 λM=>qp d 1 λH=>Z c 116 [bF,a] λk=>Z c 116 [bF,H] λl=>Z c 131 [k,l] λm=>some m) (Z c 171 [a0] λn=>some n)))
def abF:l 131 (G (Ow lp)):=aQ 0 Tryz.f77 ZN a
def J9(lp:q)(c:Ca)(a0 a1:D):Option D:=Z c 172 [a0,a1] λr1=>qp r1 0 λa=>qp r1 1 λb=>some a
def abG:l 132 (G (J9 lp)):=aQ 0 Tryz.f79 .leaf a
def Ox(lp:q)(c:Ca) :Option D:=Z c 34 [J1] λr1=>some r1
def abH:l 133 (m0 (Ox lp)):=zm 0 Tryz.f93 .leaf a
def ZO:Ann:=.t (.t (.w (.t (.w (.p [(2,.s oo 4098),(3,.s oo 4099),fw,(5,.s j 8197),fl] [(4098,.k oo 2),(4099,.k oo 3),I',(8197,.e j (.v j))] [] [(.x 0,y [fw,(5,.s j 8197)] [I',(8197,.e j (.v j))] [])] O') .o)) .o))
def Oy(lp:q)(c:Ca)(a0 a1:D):Option D:=Z c 74 [J0] λr1=>qy lp (λv2=>qc .lss (Y v2 0) J3 (qJ (Y v2 0) 3 a0 λg=>qJ (Y v2 0) 3 a1 λh=>Z c 174 [g,h] λf=>Z c 173 [(Y v2 1),f] λa=>qj (Y v2 0) λd=>iL [d,a]) (iR (0,[(Y v2 1)]))) [J0,r1] λb=>some (Y b.2 0)
def abI:l 134 (G (Oy lp)):=aQ 0 Tryz.f81 ZO a
def ZP:Ann:=vv
def Oz(lp:q)(c:Ca)(a0:D):Option D:=Q a0 [0] λx1=>Z c 74 [x1] λa=>Q a0 [1] λe=>Z c 74 [e] λb=>Q a0 [2] λf=>Z c 74 [f] λd=>some (D.st [a,b,d])
def abJ:l 135 (m1 (Oz lp)):=aY 0 Tryz.f82 ZP a
def Ap(lp:q)(c:Ca)(a0:D):Option D:=Q a0 [0] λx1=>Z c 128 [x1] λm=>qT m λj=>qa j (Q a0 [1] λp=>Z c 128 [p] λn=>D.truth n) λl=>qa l (Q a0 [1] λy=>Z c 129 [y] λo=>qh .gtr o J0) λb=>(qe b (Q a0 [0] λh=>Q a0 [1] λi=>Z c 131 [h,i] λe=>Z c 169 [] λf=>D.truth (bq e f)) (some false)).bind λd=>some (D.bool d)
def abK:l 136 (m1 (Ap lp)):=aY 0 Tryz.f26 .leaf a
def OA(lp:q)(c:Ca)(a0 a1:D):Option D:=Z c 172 [a0,a1] λr1=>qp r1 0 λb=>qp r1 1 λa=>some a
def abL:l 137 (G (OA lp)):=aQ 0 Tryz.f80 .leaf a
def ZQ:Ann:=.t Wat
def OB(lp:q)(c:Ca)(a0:D):Option D:=Z c 169 [] λr1=>Z c 62 [a0,r1] λa=>some a
def abM:l 138 (m1 (OB lp)):=aY 0 Tryz.f61 ZQ a
def ZR:Ann:=.t (.t (.w (.t (.w (.p [Wah,WbP,R'] gi [] [(.x 0,y [Wah,WbP] gi [])] .o) .o)) .o))
def Ka(lp:q)(c:Ca)(a0:D):Option D:=qy lp (λv1=>qc .lss (Y v1 1) (Jn 16) (qT (Y v1 0) λn=>(qe n (qi (Y v1 1) 16 λi5=>Q a0 [2,i5] λp=>D.truth (bq p (D.int .u32 0))) (some false)).bind λo=>qj (Y v1 1) λy=>iL [(D.bool o),y]) (iR (0,[(Y v1 0)]))) [bT,J0] λl=>Q a0 [0] λg=>qt g (qT (Y l.2 0) λb=>(qe b (Q a0 [1] λh=>qz h) (some false)).bind λd=>some (D.bool d)) (qN (Y l.2 0) λe=>(qe e (some true) (Q a0 [1] λj=>qz j)).bind λf=>some (D.bool f))
def abN:l 139 (m1 (Ka lp)):=aY 0 Tryz.f171 ZR a
def ZS:Ann:=.t (.t (.w (.w (.p [iz] [] [0] [(.x 0,y [iz] [] [0])] .o) .o) .o))
def OC(lp:q)(c:Ca)(a0:D):Option D:=qS a0 λl1=>qy lp (λv2=>qC .gtr (Y v2 0) J0 λg=>qA g (P .sub (Y v2 0) J1 λi=>qX a0 i λj=>D.truth (bq j J0)) (P .sub (Y v2 0) J1 λf=>iL [f]) (iR (0,[(Y v2 0)]))) [(jl l1)] λe=>qS a0 λb=>(D.natOf (Y e.2 0)).bind λi14=>(D.cut b 0 i14).bind λd=>some (D.sl d)
def abO:l 140 (m1 (OC lp)):=aY 0 Tryz.f176 ZS a
def OD(lp:q)(c:Ca)(a0 a1:D):Option D:=ql a0 a1 (qX a0 a1 λb=>some b) (some J0)
def abP:l 141 (G (OD lp)):=aQ 0 Tryz.f177 .leaf a
def OE(lp:q)(c:Ca)(a0:D):Option D:=Z c 76 [a0] λr1=>qn r1 (Z c 125 [] λb=>some b) (Z c 77 [a0] λd=>Z c 81 [bF,d] λe=>some e)
def abQ:l 142 (m1 (OE lp)):=aY 0 Tryz.f173 .leaf a
def ZT:Ann:=let a:LS:=[Wax,Wbi,(12,.v K5)];(.t (.t (.t (.w WaI (.t (.w (.t (.w (.p [Wax,(9,.v K5),WaG] War [0,1,7,8] [(.x 0,y [Wax,(9,.v K5)] War [])] (.t (.w (.w (.t (.t (.t (.w (.w (.p a War [0,1,7,8,9,10] [(.x 2,y a War [0,1,7,8,9,10])] .o) .o) .o)))) .o) .o))) .o)) (.w (.g [6] 5) .o)))))))
def OF(lp:q)(c:Ca)(a0 a1:D):Option D:=qS a0 λl1=>(D.natOf (jl l1)).bind λi2=>if i2<=1073741824 then(qS a1 λg=>P .sub (jl g) J1 λI=>qX a1 I λK=>P .mul K (Jn 65536) λL=>P .sub (jl g) J2 λM=>Z c 175 [a1,M] λn=>P .add L n λw=>qS a0 λm=>P .sub (jl m) J1 λx=>qy lp (λa=>qc .geq (Y a 1) J0 (qX a0 (Y a 1) λi=>qS (Y a 0) λf=>if List.length [i]+f.length<=1073741824 then(Z c 140 [(D.sl ([i]++f))] λd=>Z c 175 [d,(jl g)] λo=>P .mul o (Jn 4294967296) λy=>P .sub (jl g) J1 λz=>Z c 175 [d,z] λp=>P .mul p (Jn 65536) λA=>P .add y A λB=>P .sub (jl g) J2 λC=>Z c 175 [d,C] λl=>P .add B l λE=>P .quo E w λF=>(D.min2 (Jn 65535) F).bind λj=>Z c 146 [a1,(D.sl [j])] λr=>qy lp (λb=>Z c 78 [d,(Y b 1)] λs=>qt s (P .sub (Y b 0) J1 λG=>Z c 126 [(Y b 1),a1] λt=>iL [G,t,(qW b 2)]) (iR (0,[(Y b 0),(Y b 1),(qW b 2)]))) [j,r,(qW a 2)] λe=>qi (Y a 1) (List.length (qV e.2 2)) λi40=>((qV e.2 2)[i40]?).bind λJ=>Z c 126 [d,(Y e.2 1)] λu=>P .sub (Y a 1) J1 λH=>iL [u,H,(D.sl (List.set (qV e.2 2) i40 (Y e.2 0)))]) else none) (iR (0,[(Y a 0),(qW a 2)]))) [(D.sl []),x,(D.sl (List.replicate i2 J0))] λh=>Z c 140 [(qW h.2 1)] λv=>some (D.tup [v,(Y h.2 0)])) else none
def abR:l 143 (G (OF lp)):=aQ 0 Tryz.f175 ZT a
def ZU:Ann:=.t (.t (.cut [(.m,S1 [Waa])] [] [] .o .o))
def OG(lp:q)(c:Ca)(a0 a1:D):Option D:=P .quo a0 a1 λx1=>qb (P .rem a0 a1 λf=>qT (nq f J0) λa=>qA a (P .lss a0 J0 λg=>P .lss a1 J0 λh=>D.truth (nq g h)) (P .sub x1 J1 λi=>some (0,[i])) (some (0,[x1]))) λe=>some (Y e.2 0)
def abS:l 144 (G (OG lp)):=aQ 0 Tryz.f178 ZU a
def ZV:Ann:=let a:LS:=[fa];(.t (.t (.w (.t (.w (.p [fa,mI] iN [0,1] [(.x 0,y a iN [])] (.t (.w (.w (.w (.t (.w (.p [fa,Wau] iN [0,1,6] [(.x 2,y a iN [0,1,6])] (.t (.w (.w (.g [] 21) .o) .o))) .o)) (.t (.t (.w (.p [fa,fl,(9,.i)] iN [0,1,6] [(.x 4,y a iN [0,1,6])] .o) .o)))) .o) .o))) .o)) (.w (.g [5] 3) .o))))
def OH(lp:q)(c:Ca)(a0 a1:D):Option D:=qS a0 λl1=>qS a1 λw=>P .add (jl l1) (jl w) λy=>qj y λA=>(D.natOf A).bind λi5=>if i5<=1073741824 then(qy lp (λv6=>ql a0 (Y v6 0) (qy lp (λv10=>ql a1 (Y v10 0) (P .add (Y v6 0) (Y v10 0) λi=>P .add (Y v6 0) (Y v10 0) λj=>qi j (List.length (qV v10 1)) λi16=>((qV v10 1)[i16]?).bind λk=>qX a0 (Y v6 0) λl=>qX a1 (Y v10 0) λm=>P .mul l m λn=>P .add k n λo=>qi i (List.length (qV v10 1)) λi26=>((qV v10 1)[i26]?).bind λx=>qj (Y v10 0) λp=>iL [p,(D.sl (List.set (qV v10 1) i26 o))]) (iR (0,[(qW v10 1)]))) [J0,(qW v6 1)] λe=>qy lp (λv30=>qc .lss (Y v30 1) (Jn (List.length (qV v30 2))) (qi (Y v30 1) (List.length (qV v30 2)) λi33=>((qV v30 2)[i33]?).bind λS=>P .add S (Y v30 0) λa=>P .rem a (Jn 65536) λr=>qi (Y v30 1) (List.length (qV v30 2)) λi37=>((qV v30 2)[i37]?).bind λz=>P .quo a (Jn 65536) λs=>qj (Y v30 1) λt=>iL [s,t,(D.sl (List.set (qV v30 2) i37 r))]) (iR (0,[(qW v30 2)]))) [J0,J0,(qW e.2 0)] λf=>qj (Y v6 0) λu=>iL [u,(qW f.2 0)]) (iR (0,[(qW v6 1)]))) [J0,(D.sl (List.replicate i5 J0))] λg=>Z c 140 [(qW g.2 0)] λh=>some h) else none
def abT:l 146 (G (OH lp)):=aQ 0 Tryz.f207 ZV a
def ZW:Ann:=.t (.t (.w (.t (.w (.p [Wa0,(3,.s ku 4099),vd,sd,fl] [(4098,.k ku 2),(4099,.k ku 3),tp,oj] [] [(.x 0,y [vd,sd] [tp,oj] [])] O') .o)) .o))
def OI(lp:q)(c:Ca)(a0 a1:D):Option D:=Z c 54 [J0] λr1=>qy lp (λv2=>qc .lss (Y v2 0) J3 (qJ (Y v2 0) 3 a0 λg=>qJ (Y v2 0) 3 a1 λh=>Z c 61 [g,h] λf=>Z c 57 [(Y v2 1),f] λa=>qj (Y v2 0) λd=>iL [d,a]) (iR (0,[(Y v2 1)]))) [J0,r1] λb=>some (Y b.2 0)
def abU:l 147 (G (OI lp)):=aQ 0 Tryz.f187 ZW a
def ZX:Ann:=.t (.w (.t (.w (.p [Wa0,mI] Wbu [5] [(.x 0,y [Wa0] Wbu [])] .o) .o)) .o)
def OJ(lp:q)(c:Ca)(a0:D):Option D:=qy lp (λv1=>qc .lss (Y v1 0) J3 (qi (Y v1 0) 3 λi4=>qf a0 i4 λe=>Z c 54 [e] λd=>qi (Y v1 0) 3 λi7=>qs (Y v1 1) [i7] d λf=>qj (Y v1 0) λg=>iL [g,f]) (iR (0,[(Y v1 1)]))) [J0,(D.st [(D.st [bF,bF,(az bf)]),(D.st [bF,bF,(az bf)]),(D.st [bF,bF,(az bf)])])] λa=>some (Y a.2 0)
def abV:l 148 (m1 (OJ lp)):=aY 0 Tryz.f188 ZX a
def ZY:Ann:=.t (.w (.w (.loop Wbo [(.x 0,S1 [(0,.i)])] Wbg) .o) .o)
def Kb(lp:q)(c:Ca)(a0 a1:D):Option D:=qy lp (λv1=>qt (nq (Y v1 1) J0) (P .rem (Y v1 0) (Y v1 1) λb=>iL [(Y v1 1),b]) (iR (0,[(Y v1 0)]))) [a0,a1] λa=>(akz .neg (Y a.2 0)).bind λd=>(D.max2 (Y a.2 0) d).bind λe=>some e
def abW:l 152 (G (Kb lp)):=aQ 0 Tryz.f314 ZY a
def ZZ:Ann:=.t (.w (.t (.w (.p [ky,mb,ri,mI] [im,k7,tI] [] [(.x 0,y [ky,ri] [im,tI] [])] Was) .o)) .o)
def OK(lp:q)(c:Ca)(a0 a1:D):Option D:=qy lp (λv1=>qc .lss (Y v1 0) J3 (qJ (Y v1 0) 3 (Y v1 1) λf=>qJ (Y v1 0) 3 a1 λg=>P .add f g λh=>qi (Y v1 0) 3 λi9=>qs (Y v1 1) [i9] h λb=>qj (Y v1 0) λd=>iL [d,b]) (iR (0,[(Y v1 1)]))) [J0,a0] λa=>some (Y a.2 0)
def abX:l 154 (G (OK lp)):=aQ 0 Tryz.f303 ZZ a
def Z0:Ann:=let a:LO:=[Wbv,(4098,.k eS 2),WaN];(.t (.t (.w (.t (.w (.p [Wak,Wal,Wam,R'] a [] [(.x 0,y [Wak,Wal,Wam] a [])] (.t (.w vb .o))) .o)) (.t (.t (.t (.w (.t (.w (.p [Wak,Wal,Wam,(5,.s eS 28677),mI] [Wbv,WaO,(8195,.k c 3),(28677,.e eS (.v eS))] [] [(.r,y [Wal] [WaO] []),(.x 2,y [Wal,(5,.s eS 28677)] [WaO,(28677,.e eS (.v eS))] [])] (.t (.w (.w (.w X' .o) .o) .o))) .o)) .o)))))))
def OL(lp:q)(c:Ca)(a0:D):Option D:=Z c 34 [J0] λr1=>qy lp (λv2=>qc .lss (Y v2 0) J3 (qJ (Y v2 0) 3 a0 λw=>Z c 85 [(Y v2 1),w] λv=>qj (Y v2 0) λx=>iL [x,v]) (iR (0,[(Y v2 1)]))) [J0,r1] λm=>Q (Y m.2 0) [0] λn=>qt n (some (D.st [(D.st [J0,J0,J0]),(Jn 30)])) (Z c 83 [(Y m.2 0)] λj=>qt (bq j J0) (some (D.st [(D.st [J0,J0,J0]),(Jn 31)])) (qy lp (λa=>qc .lss (Y a 0) J3 (qJ (Y a 0) 3 a0 λo=>Z c 87 [o,(Y m.2 0)] λk=>Z c 186 [k] λd=>qp d 0 λp=>qp d 1 λf=>qn f (iR (0,[(D.st [(D.st [J0,J0,J0]),(Jn 30)])])) (qi (Y a 0) 3 λi25=>qs (Y a 2) [0,i25] p λr=>qj (Y a 0) λs=>iL [s,(Y a 1),r])) (iR (1,[(Y a 1),(Y a 2)]))) [J0,(D.st [(D.st [J0,J0,J0]),J0]),(D.st [(D.st [J0,J0,J0]),J0])] λb=>qr b (Q (Y b.2 1) [0] λt=>Z c 187 [t] λl=>qn l (some (D.st [(D.st [J0,J0,J0]),(Jn 30)])) (some (Y b.2 1)))))
def abY:l 155 (m1 (OL lp)):=aY 0 Tryz.f264 Z0 a
def Z1:Ann:=let a:LO:=[(4102,.k h 6),(4104,.k h 8),(8203,.k h 11)];(.t (.t (.w (.t (.w (.p [(6,.s h 4102),(8,.s h 4104),(11,.s h 8203),(12,.i)] a [0,2] [(.r,ov),(.x 0,pd)] (.t (.cut [(.m,y [(6,.s h 4102),(8,.s h 4104),(11,.s h 8203)] a [0,2,12]),(.r,ov)] [0,2,12] [4102,4104,8203] (.w (.w tw (.w Wab vb)) .o) .o))) .o)) .o)))
def OM(lp:q)(c:Ca)(a0 a1:D)(a2 a3 a4:D):Option D:=Z c 112 [a4,a3] λr1=>qy lp (λv2=>ql a0 (Y v2 0) (qb (qX a0 (Y v2 0) λu=>Z c 107 [a1,u] λt=>qt (nq t a2) (some (0,[])) (qX a0 (Y v2 0) λp=>Z c 112 [p,a3] λa=>Z c 123 [r1,a] λl=>Z c 188 [a1,l] λb=>qC .lss b J0 λg=>qO g (qt (bq b J0) (Z c 107 [a,r1] λm=>qc .lss m J0 (some true) (Z c 107 [a,r1] λn=>Z c 107 [r1,r1] λo=>qh .gtr n o)) (some false)) (some (1,[bF])) (some (0,[])))) λd=>if d.1=0 then(qj (Y v2 0) λr=>iL [r]) else(iR (0,[(Y d.2 0)]))) (iR (1,[]))) [J0] λe=>qr e (some bT)
def abZ:l 156 (m5 (OM lp)):=Hh 0 Tryz.f312 Z1 a
def Z3:Ann:=let a:LS:=[(0,.v (Ty.int .u32)),(2,.i)];(.t (.cut [(.m,S1 a)] [] [] .o (.cut [(.m,S1 a)] [] [] .o .o)))
def ON(lp:q)(c:Ca)(a0:D):Option D:=qb (qc .geq a0 (D.int .u32 65536) (P .shr a0 (D.int .u64 16) λi=>some (0,[i,(Jn 16)])) (some (0,[a0,J0]))) λa=>qb (qc .geq (Y a.2 0) (D.int .u32 256) (P .shr (Y a.2 0) (D.int .u64 8) λj=>P .add (Y a.2 1) (Jn 8) λk=>some (0,[j,k])) (some (0,[(Y a.2 0),(Y a.2 1)]))) λg=>qw .u8 (Y g.2 0) λb=>(aky (D.str ((sY (Ln Tryz.f56)).getD ByteArray.empty)) b).bind λd=>qw .i64 d λe=>P .add (Y g.2 1) e λf=>some f
def ab0:l 165 (m1 (ON lp)):=aY 0 Tryz.f56 Z3 a
def Kc(lp:q)(c:Ca)(a0:D):Option D:=Q a0 [2] λx1=>Q a0 [0] λi=>qt i (qT (bq x1 (D.st (akx (List.replicate 16 (D.int .u32 0)) []))) λf=>(qe f (Q a0 [1] λj=>qz j) (some false)).bind λg=>some (D.bool g)) (qN (bq x1 (D.st (akx (List.replicate 16 (D.int .u32 0)) []))) λh=>(qe h (some true) (Q a0 [1] λb=>qz b)).bind λa=>some (D.bool a))
def ab1:l 167 (m1 (Kc lp)):=aY 0 Tryz.f131 .leaf a
def OO(lp:q)(c:Ca)(a0 a1:D):Option D:=Z c 194 [a0] λr1=>Z c 194 [a1] λa=>qt r1 (qt a (some J0) (some (Jn (-1)))) (qt a (some J1) (qc .lss a0 a1 (some (Jn (-1))) (qc .gtr a0 a1 (some J1) (some J0))))
def ab2:l 168 (G (OO lp)):=aQ 0 Tryz.f216 .leaf a
def OP(lp:q)(c:Ca) :Option D:=Z c 54 [J1] λr1=>some r1
def ab3:l 169 (m0 (OP lp)):=zm 0 Tryz.f78 .leaf a
end
end Sy
end
end
end Go.Proofs.YtdlipdnepadhjaaGreat
