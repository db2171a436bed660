/- Part 5 of the proof that PlaneNoPointOnBothSides answers true at every input -/
import Derived.Test.YtphlmegkommlnaaGreatDoorNopo04
import Derived.Scope
import Derived.RangeFuncLeaves
set_option linter.unusedVariables false
set_option linter.unusedSimpArgs false
set_option linter.unnecessarySimpa false
set_option linter.defProp false
set_option maxRecDepth 20000
namespace Go.Proofs.YtphlmegkommlnaaGreatDoor
noncomputable section
namespace Sy
open Go
variable{ro:Option Nat}{nn:Nat}
section
variable{P:Program}{E:Env}{w0:Root}{S:Nat->Nat->Prop}{γ:Nat->Option Nat}{β:Nat->Option (Nat×Nat)}{s:St}{a:Act}{w:World}
def Fm.tr{s s1:St}{S S1 S2:Nat->Nat->Prop}{γ γ1 γ2:Nat->Option Nat}{a a1 a2:Act}{w w1 b:World}(h:Fm s S γ a w S1 γ1 a1 w1)(k:Fm s1 S1 γ1 a1 w1 S2 γ2 a2 b)(e:Sk s s1):Fm s S γ a w S2 γ2 a2 b:=h.trans k e.lkS e.lkO
def tQ(s:St)(t:Nat):St:=
 match s.tm t with
  | .mem a id=>match s.ob id with
   | some (.many u l)=>if a.beq u&&!(s.lkO.contains id) then{ s.setOb id none with tm:=λi=>if i=t then .d (.sl u) (.sl l) else s.tm i } else s
   | _=>s
  | _=>s
def AO(s:St)(t:Nat)(l:List Nat):gL s (t::l)=gL (tQ s t) l:=rfl
def CA(h:Rp w0 S γ β s a w)(t:Nat):∃ S',Rp w0 S' γ β (tQ s t) a w/\Fm s S γ a w S' γ a w/\Sm s (tQ s t):=by
 have r:∃ S',Rp w0 S' γ β s a w/\Fm s S γ a w S' γ a w/\Sm s s:=⟨S,h,Fm.refl _ _ _ _ _,Sm.refl s⟩;unfold tQ;split
 ·rename_i Y id hm;split
  ·rename_i u l P;split
   ·rename_i hc;simp only[zaa,zCa] at hc;obtain⟨G,T⟩:=hc;have hu:=Ty.eq_of_beq _ _ G;subst hu;have R:t<a.tmps.size:=by
     rcases zla t a.tmps.size with k|k
     ·exact k
     ·have:=h.tmu t (by rw[<-h.nt];exact k)
      simp_all
    have y:=h.tms t R;rw[hm] at y;simp only[AR,AC] at y;obtain⟨J,L,b,F,y⟩:=y;obtain⟨l',O,M⟩:=y _ P;simp only[Ob.many.injEq,true_and] at O;subst O;have hO:=h.obs id _ b P F;simp only[gl] at hO;obtain⟨_,N,U,cs,C,H⟩:=hO;obtain⟨S',g⟩:∃ S':Nat->Nat->Prop,S'=λd o=>S d o\/d=b:=⟨_,rfl⟩;have m:∀ d o,S d o->S' d o:=λd o j=>by rw[g];exact .inl j
    have hle:Cx.le ⟨w,S,γ,β,s.ob,s.dead⟩ ⟨w,S',γ,β,(s.setOb id none).ob,s.dead⟩:=by
     refine⟨λ_ _ _=>rfl,m,λ_ _ k=>k,λi o p _=>?_,λv M=>⟨M,λb e he=>⟨he,λn hn=>hn⟩⟩⟩
     simp_all [St.setOb]
    refine⟨S',⟨h.ext,λi p=>?_,h.nt,λi p=>?_,λi o d p z=>?_,h.γn,h.γi,h.γf,λv d e E he=>?_,h.βi,h.βγ,h.βf,λd o j=>?_,λd o j A=>?_⟩,⟨m,λ_ _ _=>rfl,λ_ _=>rfl,λ_ _ _ j=>⟨j,jL.refl _ _⟩,zfa _,λ_ _ j=>j,kY.same rfl (dq.refl _)⟩,⟨rfl,rfl,rfl,rfl⟩⟩
    ·by_cases q:i=t
     ·subst q;simp only[if_true];have D:=au J M;rw[D];refine dT (by simpa only[aq] using L) (by simp only[wt];exact⟨l,rfl,N⟩) (gD.of_CR ?_)
      refine CR.of_elems (b:=b) (off:=0) (.inr rfl) (zfa _) ⟨cs,H.mono (λ_ _ _=>rfl) m,λi c hc=>⟨by rw[g];exact .inr rfl,?_⟩⟩
      rw[zWa,cell_of_row w C];simpa using hc
     ·simp only[if_neg q];exact(h.tms i p).mono hle
    ·have I:s.nt<=i:=p;have q:i≠t:=λe=>by rw[h.nt] at R;omega
     simp only[if_neg q];exact h.tmu i I
    ·simp only[St.setOb] at p;split at p<;>first|(cases p;done)|skip
     rename_i K;refine(h.obs i o d p z).mono hle rfl λo x=>?_;have B:S' d o:=x;rw[g] at B;rcases B with k|k
     ·exact k
     ·subst k;exact absurd (h.γi i id d z F) K
    ·obtain⟨V,W,X⟩:=h.βn v d e E he;refine⟨V,W,λo x Q=>?_⟩;rw[g] at Q;rcases Q with k|k
     ·exact X o x k
     ·subst k;exact h.βγ v id d e E he F
    ·rw[g] at j;rcases j with k|k
     ·exact h.Sb d o k
     ·subst k;exact(h.γn id d F).2
    ·rw[g] at j;rcases j with k|k
     ·exact h.So d o k A
     ·subst k;exact absurd A (h.γn id d F).1
   ·exact r
  ·exact r
 ·omega
theorem rC:∀ (l:List Nat) {S:Nat->Nat->Prop} {s:St},Rp w0 S γ β s a w->∃ S',Rp w0 S' γ β (gL s l) a w/\Fm s S γ a w S' γ a w/\Sm s (gL s l)
 | [],S,s,h=>⟨S,h,Fm.refl _ _ _ _ _,Sm.refl s⟩
 | t::l,S,s,h=>by
  obtain⟨S1,h1,f1,m1⟩:=CA h t;obtain⟨S2,b,f2,m2⟩:=rC l h1;rw[AO];exact⟨S2,b,f1.trans f2 m1.lkS m1.lkO,m1.trans m2⟩
def s7(E:Env)(s:St)(o:Oper):St:=match o.op,o.dst with
  | .alloc T,some d=>match E.alOb T with
   | some x=>s.setOb (s.base+d) (some x)
   | none=>s
  | _,_=>s
def rU(E:Env)(o:Oper)(l:List Oper)(s:St):iV E (o::l) s=iV E l (s7 E s o):=rfl
def Rp.freeOb(h:Rp w0 S γ β s a w){id:Nat}(j:γ id=none)(o:Option Ob):Rp w0 S γ β (s.setOb id o) a w:=by
 have hle:Cx.le ⟨w,S,γ,β,s.ob,s.dead⟩ ⟨w,S,γ,β,(s.setOb id o).ob,s.dead⟩:=by
  refine⟨λ_ _ _=>rfl,λ_ _ k=>k,λ_ _ k=>k,λi x hx c=>?_,λv g=>⟨g,λb e he=>⟨he,λn hn=>hn⟩⟩⟩;simp only[St.setOb] at hx;split at hx
  ·simp_all
  ·simp_all
 refine⟨h.ext,λi d=>(h.tms i d).mono hle,h.nt,h.tmu,λi x b hx c=>?_,h.γn,h.γi,h.γf,h.βn,h.βi,h.βγ,h.βf,h.Sb,h.So⟩;simp only[St.setOb] at hx;split at hx
 ·simp_all
 ·exact(h.obs i x b hx c).mono hle rfl λ_ k=>k
def mR(E:Env)(s:St)(o:Oper):s7 E s o=s\/∃ T d t,o.op=.alloc T/\o.dst=some d/\E.alOb T=some t/\s7 E s o=s.setOb (s.base+d) (some t):=by
 all_goals grind [s7]
def IJ(h:Rp w0 S γ β s a w)(b:∀ d,γ (s.base+d)=none)(o:Oper):Rp w0 S γ β (s7 E s o) a w/\Sm s (s7 E s o):=by
 rcases mR E s o with e|⟨T,d,t,_,_,_,e⟩
 ·rw[e];exact⟨h,Sm.refl s⟩
 ·rw[e];exact⟨h.freeOb (b d) _,rfl,rfl,rfl,rfl⟩
def Sm.base_eq{s s':St}(h:Sm s s'):s'.base=s.base:=by simp only[St.base,h.fresh]
def EB(l:List Oper){s:St}(h:Rp w0 S γ β s a w)(c:∀ d,γ (s.base+d)=none):Rp w0 S γ β (iV E l s) a w/\Sm s (iV E l s):=by
 induction l generalizing s with
 | nil=>exact And.intro h (Sm.refl s)
 | cons o l ih=>
  rw[rU];obtain⟨h1,b⟩:=IJ (E:=E) h c o;obtain⟨e,f⟩:=ih h1 (by rw[b.base_eq];exact c)
  exact⟨e,b.trans f⟩
theorem o8:∀ (l:List Oper) {s:St} {d:Nat},(∀ o∈l,o.dst≠some d)->(iV E l s).ob (s.base+d)=s.ob (s.base+d)
 | [],s,d,_=>rfl
 | o::l,s,d,h=>by
  rw[rU];rcases mR E s o with e|⟨T,d',t,_,b,_,e⟩
  ·rw[e];exact o8 l λo a=>h o (by simp[a])
  ·rw[e];have:=o8 l (s:=s.setOb (s.base+d') (some t)) (d:=d) λo a=>h o (by simp[a])
   have c:(s.setOb (s.base+d') (some t)).base=s.base:=rfl;rw[c] at this;rw[this];have f:d'≠d:=λe=>h o (by simp) (by rw[b,e])
   simp only[St.setOb];grind
theorem zv:∀ (l:List Oper) {s:St} {o:Oper} {T:TypeId} {d:Nat} {t:Ob},dI (l.filterMap (·.dst))=true->o∈l->o.op=.alloc T->o.dst=some d->E.alOb T=some t->(iV E l s).ob (s.base+d)=some t
 | [],_,_,_,_,_,_,h,_,_,_=>by cases h
 | x::l,s,o,T,d,t,hn,j,f,b,g=>by
  have c:dI (l.filterMap (·.dst))=true:=by
   rw[List.filterMap_cons] at hn;split at hn
   ·exact hn
   ·simp_all [dI,zaa]
  rw[rU];have i:(s7 E s x).base=s.base:=by rcases mR E s x with e|⟨_,_,_,_,_,_,e⟩<;>rw[e]<;>rfl
  rcases zwa.1 j with rfl|a
  ·rw[<-i,o8 l λo' a=>λe=>eY hn [] l o o' rfl a d e b]
   simp_all [s7,f,b,g,St.setOb]
  ·rw[<-i];exact zv l c a f b g
theorem Q8{e a:Ex}(h:e.is a=true):e=a:=by
 cases e<;>cases a<;>simp only[Ex.is,decide_eq_true_eq] at h<;>first|rfl|(cases h;done)|(rw[h])
theorem sR{e:Ex}:∀ {l:List (Ex×Shape)} {i j:Nat} {h:Shape},uK e l i=some (j,h)->i<=j/\l[j-i]?=some (e,h)
 | [],_,_,_,k=>by simp[uK] at k
 | (a,b)::l,i,j,h,k=>by
  simp only[uK] at k;split at k
  ·grind [Option.some.injEq,Prod.mk.injEq,Q8]
  ·obtain⟨c,d⟩:=sR k;grind
theorem jS{R:Type}{base:St}{k:Ex->St->Option R}{c b:List Nat}{r:R}{e:Ex}{h:Shape}{v:List D}:∀ {l:List (Ex×Shape)} {i j:Nat},i<=j->l[j-i]?=some (e,h)->mC base k c b l i (j,v)=some r ->
  k e (h.mk' base v base.lkS base.lkO)=some r/\subset h.keepS c=true/\subset (cu h.objs) b=true
 | [],_,_,_,hl,_=>by simp at hl
 | [(d,f)],i,j,a,hl,hc=>by
  have:j-i=0:=by
   grind
  rw[this] at hl;simp only[zQb,zda,Prod.mk.injEq] at hl
  simp_all [mC,zaa]
 | (d,f)::x::l,i,j,a,hl,hc=>by
  simp only[mC] at hc;split at hc<;>first|(cases hc;done)|skip
  rename_i m;simp only[zaa] at m;split at hc
  ·simp_all
  ·rename_i g;refine jS (i:=i+1) (by omega) ?_ hc
   grind
def gd{l l':List Nat}(h:subset l l'=true):∀ x∈l,x∈l':=λx hx=>by
 have:=zma.1 h x hx
 simp_all
def Rp.lk(h:Rp w0 S γ β s a w)(lkS lkO:List Nat):Rp w0 S γ β { s with lkS:=lkS,lkO:=lkO } a w:=
 ⟨h.ext,h.tms,h.nt,h.tmu,h.obs,h.γn,h.γi,h.γf,h.βn,h.βi,h.βγ,h.βf,h.Sb,h.So⟩
def Fm.shape{s2:St}{S':Nat->Nat->Prop}{γ' γ'':Nat->Option Nat}{a':Act}{w':World}(h0:Rp w0 S γ β s a w)(h:Fm s2 S γ a w S' γ' a' w')(d:∀ id,id<s.base+4096->γ'' id=γ' id):Fm s2 S γ a w S' γ'' a' w':=
 ⟨h.sub,h.cell,h.slots,λid hid b c=>by
  obtain⟨e,g⟩:=h.objs id hid b c;refine⟨?_,g⟩;rw[d id ?_]
  ·exact e
  ·rcases zla id (s.base+4096) with k|k
   ·exact k
   ·rw[h0.γf id k] at c;exact absurd c (by simp),h.sz,λid b c=>by
  rw[d id ?_]
  ·exact h.gam id b c
  ·rcases zla id (s.base+4096) with k|k
   ·exact k
   ·rw[h0.γf id k] at c;exact absurd c (by simp),h.dfs⟩
def so{base:St}{a:List (Ex×Shape)}{e:Ex}{s':St}{r:Nat×List D}(h:Do base a e s'=some r):∃ sh,a[r.1]?=some (e,sh)/\sh.dec base s'=some r.2:=by
 unfold Do at h;obtain⟨q,h1,h⟩:=bind_some_inv h;obtain⟨v,b,h⟩:=bind_some_inv h;simp only[zda] at h;subst h;obtain⟨_,c⟩:=sR h1
 simp_all
end
end Sy
end
noncomputable section
namespace Sy
open Go
open Go.ChangeMaps (setBlock)
open Go.RowKit
variable{ro:Option Nat}{nn:Nat}
section
variable{P:Program}{E:Env}{w0:Root}{S:Nat->Nat->Prop}{γ:Nat->Option Nat}{β:Nat->Option (Nat×Nat)}{s:St}{a:Act}{w:World}
def Kp(Q:Exit->Act->World->Prop)(w0:Root)(s:St)(S:Nat->Nat->Prop)(γ:Nat->Option Nat)(a:Act)(w:World){R:Type}(k:Ex->St->Option R)(r:R):Prop:=
 ∀ e s' S' γ' β' a' w',Rp w0 S' γ' β' s' a' w'->Fm s S γ a w S' γ' a' w'->Sk s s'->k e s'=some r->Q (HR e) a' w'
def Jj{c:Cx}{x:AV}{v:Value}(h:AR c x v):fQ c (jE c.ob x) v:=by
 cases x<;>simp only[jE]<;>first|(simp only[fQ];done)|skip
 case d t y=>exact h
 case own t u l=>exact nj (c:=c) (c':=c) (λ_ _ _=>rfl) (λ_ _ h=>h) h
 case fptr t y=>exact h
 case ptr t id p=>
  cases p with
  | cons i p=>simp only[fQ]
  | nil=>
   simp only;split
   ·rename_i a;simp only[AR] at h;simp only[fQ,t8];exact yd a h.1 h.2
   ·simp only[fQ]
 case clo f l=>exact EF h
 case yld id=>exact h
 case map kt vt id=>exact EG h
def Rp.act(h:Rp w0 S γ β s a w){a':Act}(b:a'.tmps=a.tmps):Rp w0 S γ β s a' w:=
 ⟨h.ext,by rw[b];exact h.tms,by rw[b];exact h.nt,h.tmu,h.obs,h.γn,h.γi,h.γf,h.βn,h.βi,h.βγ,h.βf,h.Sb,h.So⟩
def HM(d:∀ l,ro=some l->∃ r0,w.heap[l]?=some (Obj.loop r0))(a:FuncId)(tmps:Array Value)(ps:Array Tmp)(asg bdy:Code) :
  ∃ L mark os rec,(Instr.enterLoop a tmps ps asg bdy ro).run P w=.ok (L,mark) (grown w os w.drawn)/\(grown w os w.drawn).heap[L]?=some (Obj.loop rec)/\rec.tmps=tmps/\rec.params=ps/\rec.assign=asg/\rec.body=bdy/\rec.state=.ready/\rec.pending=none ∧
   w.heap.size<=L/\cG w.heap.size (grown w os w.drawn) (grown w os w.drawn).heap.size mark:=by
 cases ro with
 | none=>
  obtain⟨W1,b⟩:∃ W1,W1=(w.alloc (.deferred (some []))).alloc (.loop { state:=.ready,pending:=none,fn:=a,tmps,params:=ps,assign:=asg,body:=bdy,defers:=w.heap.size }):=⟨_,rfl⟩;have c:W1=grown w [.deferred (some []),.loop { state:=.ready,pending:=none,fn:=a,tmps,params:=ps,assign:=asg,body:=bdy,defers:=w.heap.size }] w.drawn:=by
   rw[b];unfold grown;show({ w with heap:=(w.heap.push _).push _ }:World)=_;congr 1<;>(apply zpc;simp)
  have f:W1.heap[w.heap.size+1]?=some (.loop { state:=.ready,pending:=none,fn:=a,tmps,params:=ps,assign:=asg,body:=bdy,defers:=w.heap.size }):=by
   rw[b];have:=World.alloc_heap_new (w.alloc (.deferred (some []))) (.loop { state:=.ready,pending:=none,fn:=a,tmps,params:=ps,assign:=asg,body:=bdy,defers:=w.heap.size });rwa [World.size_alloc] at this
  have e:W1.heap[w.heap.size]?=some (.deferred (some [])):=by
   rw[b];exact(Below.heap_alloc _ _ _ (by simp)).trans (World.alloc_heap_new w _)
  refine⟨w.heap.size+1,[{ target:=.collected w.heap.size,args:=#[] }],[.deferred (some []),.loop { state:=.ready,pending:=none,fn:=a,tmps,params:=ps,assign:=asg,body:=bdy,defers:=w.heap.size }],{ state:=.ready,pending:=none,fn:=a,tmps,params:=ps,assign:=asg,body:=bdy,defers:=w.heap.size },(run_enterLoop_outer a tmps ps asg bdy).trans ?_,?_,rfl,rfl,rfl,rfl,rfl,rfl,zAc _,w.heap.size,rfl,zfa _,?_,?_,trivial⟩
  rotate_left 1
  ·simp_all
  rotate_left 1
  ·simp_all
  ·simp_all
  ·grind
 | some l0=>
  obtain⟨r0,h0⟩:=d l0 rfl;obtain⟨W1,b⟩:∃ W1,W1=w.alloc (.loop { state:=.ready,pending:=none,fn:=a,tmps,params:=ps,assign:=asg,body:=bdy,defers:=r0.defers }):=⟨_,rfl⟩;have c:W1=grown w [.loop { state:=.ready,pending:=none,fn:=a,tmps,params:=ps,assign:=asg,body:=bdy,defers:=r0.defers }] w.drawn:=by
   simp_all [grown]
  refine⟨w.heap.size,[],[.loop { state:=.ready,pending:=none,fn:=a,tmps,params:=ps,assign:=asg,body:=bdy,defers:=r0.defers }],{ state:=.ready,pending:=none,fn:=a,tmps,params:=ps,assign:=asg,body:=bdy,defers:=r0.defers },(run_enterLoop_inner h0 a tmps ps asg bdy).trans ?_,?_,rfl,rfl,rfl,rfl,rfl,rfl,zfa _,trivial⟩
  rotate_left 1
  ·rw[<-c,b];exact World.alloc_heap_new w _
  ·simp_all
def OQ(hE:EnvOk P E){Q:Exit->Act->World->Prop}(hro:∀ l,ro=some l->∃ r0,w.heap[l]?=some (Obj.loop r0))(h:Rp w0 S γ β s a w){f:Operand}{ps:Array Tmp}{asg bdy:Code}{an:Ann}{R:Type}{k:Ex->St->Option R}{r:R}
  (hev:Xn E f ps asg bdy an s k=some r) (hQ:Kp Q w0 s S γ a w k r):(Code.rangeFunc f ps asg bdy).wpIn (FW ro) nn P Q a w:=by
 unfold Xn at hev;split at hev<;>first|(cases hev;done)|skip
 rename_i t;split at hev<;>first|(cases hev;done)|skip
 rename_i g l htm;split at hev<;>first|(cases hev;done)|skip
 rename_i hcond;simp only[zaa,zCa] at hcond;obtain⟨hp,h4095⟩:=hcond;obtain⟨G,hG,hev⟩:=bind_some_inv hev;obtain⟨id,hid⟩:∃ id,id=(s.fresh+1)*4096:=⟨_,rfl⟩;rw[<-hid] at hev;obtain⟨info,hinfo⟩:∃ info:LpI,info={ nt:=s.nt,ps:=ps.toList,asg:=asg,bdy:=bdy,caps:=λj=>jE s.ob (s.tm j) }:=⟨_,rfl⟩;rw[<-hinfo] at hev;obtain⟨⟨fn,f1,f2,f3⟩,hI⟩:=hE.inl g G hG;have hb:¬ fn.body=none:=by grind
 have f2' : ¬ fn.name = "runtime.NumGoroutine" := by simpa using f2
 refine wpIn_rangeFunc λfid _=>?_;obtain⟨L,mark,os,rec,e1,e2,e3,e4,e5,e6,e7,e8,e9,e10⟩:=HM (P:=P) hro fid a.tmps ps asg bdy;obtain⟨w1,hw1⟩:∃ w1,w1=grown w os w.drawn:=⟨_,rfl⟩;obtain⟨g1,le1⟩:=h.grow (os:=os) (d:=w.drawn) (zfa _) (S':=S) (λ_ _ hb=>hb) (λ_ _ hb=>.inl hb);have kept1:dq w (grown w os w.drawn):=dq.grown;have hsz1:w.heap.size<=(grown w os w.drawn).heap.size:=by simp
 have hcell1:∀ b o,S b o->(grown w os w.drawn).cell? ⟨b,o,none⟩=w.cell? ⟨b,o,none⟩:=λb o hb=>dV (h.Sb b o hb);have hold1:∀ b,b<w.heap.size->(grown w os w.drawn).heap[b]?=w.heap[b]?:=λb hb=>cT hb;rw[<-hw1] at e1 e2 e10 g1 kept1 hsz1 hcell1 hold1;clear le1 hw1;have hLlt:=(zga.1 e2).1;have hγid:γ id=none:=h.γf id (by rw[hid];simp only[St.base];omega)
 obtain⟨sX,hsX⟩:∃ sX,sX=({ s with fresh:=s.fresh+1 }:St).setOb id (some (.lp info none)):=⟨_,rfl⟩;rw[<-hsX] at hev;have q1:Rp w0 S γ β sX a w1:=by rw[hsX];exact(g1.later.setFree (id:=id) hγid _).1
 have RX:Rp w0 S (pn γ id L) β sX a w1:=by
  refine(q1.newOb (id:=id) (b:=L) hγid (λho=>?_) hLlt (λi hi=>?_) (λu f hu hf=>?_) ?_ λo ho=>?_).1
  ·have:=ho.1;have:=h.ext.sz;omega
  ·have:=(h.γn i _ hi).2;omega
  ·have hu':u ∉ s.dead:=by rw[hsX] at hu;exact hu
   have:=(h.βn u _ _ hu' hf).2.1;omega
  ·rw[hsX];show id<(s.fresh+1)*4096+4096;omega
  ·have ho':some (Ob.lp info none)=some o:=by rw[<-ho,hsX];simp[St.setOb]
   cases ho';simp only[gl];refine⟨rec,e2,⟨by rw[e3,hinfo];exact h.nt,by rw[e4,hinfo],by rw[e5,hinfo],by rw[e6,hinfo]⟩,λu hu=>?_,e7,e8⟩
   rw[e3,hinfo];have hu':u<s.nt:=by rw[hinfo] at hu;exact hu
   exact fQ.mono (c:=⟨w,S,γ,β,s.ob,s.dead⟩) (c':=⟨w1,S,pn γ id L,β,sX.ob,sX.dead⟩) hcell1 (λ_ _ hb=>hb) (λi b hb=>fi hγid hb) (Jj (h.tms u (by rw[h.nt];exact hu')))
 have hA:=aX RX (.tmp t);have htX:sX.tm t=.clo g l:=by rw[hsX];exact htm
 have hA':AR ⟨w1,S,pn γ id L,β,sX.ob,sX.dead⟩ (.clo g l) (a.eval (.tmp t)):=by rw[<-htX];exact hA
 simp only[AR,AC] at hA';obtain⟨na,caps,hcs,hcap⟩:=hA';have hv:=au na hcs;obtain⟨k1,k2⟩:=mn l caps hp hcap;refine⟨L,mark,w1,{ target:=.fn (.func g) caps.toArray,args:=#[.func (.yield L) #[] #[]] },w1,g,(Value.func (.yield L) #[] #[]::caps).toArray,w1,e1,?_,λ_ _=>trivial,?_,λh=>(by cases h),?_⟩
 ·simp_all [resolve,go_sem,Deferred.ofValue,Act.eval]
 ·simp[invoke,callFunc,f1,f2',hb]
 have hc:=hI an R w0 S (pn γ id L) β sX a w1 (.yld id::l) (Value.func (.yield L) #[] #[]::caps) _ r RX (by simp[k1]) (λi x v hx hv=>by
  cases i with
  | zero=>
   simp only[zQb,zda] at hx hv;subst hx;subst hv;simp only[AR,AC];exact⟨λ_ h=>(by cases h),L,rfl,bG _ _ _⟩
  | succ i=>exact k2 i x v (by simpa using hx) (by simpa using hv)) hev
 refine Aw (hc.mono λe w' ⟨v,y,s',S',γ',β',z1,z2,z3,_,z5,z6⟩=>?_);subst z1;have hγ':γ' id=some L:=z5.gam id L (bG _ _ _);have fin:∀ (p:Option Ex) (i:LpI),s'.ob id=some (.lp i p)->∃ w4,(Instr.endLoop L).run P w'=.ok (p.map Cq) w4/\Rp w0 S' γ' β' (s'.setOb id none) { a with defers:=mark++a.defers } w4/\Fm s S γ a w S' γ' { a with defers:=mark++a.defers } w4/\Sk s (s'.setOb id none):=by
  intro p i hob;have hO:=z3.obs id _ L hob hγ';simp only[gl] at hO;obtain⟨rec',v1,_,_,v4⟩:=hO;have hst:rec'.state≠.busy/\rec'.pending=p.map Cq:=by
   cases p with
   | none=>exact⟨by rw[v4.1];simp,v4.2⟩
   | some e=>exact⟨by rw[v4.1];simp,v4.2⟩
  have F4:=Fm.setLp z3 (s1:=s) v1 (r':={ rec' with state:=.exhausted }) ⟨rfl,rfl,rfl,rfl⟩;have hlkO:sX.lkO=s.lkO:=by rw[hsX];rfl
  have hlkS:sX.lkS=s.lkS:=by rw[hsX];rfl
  have hnt:sX.nt=s.nt:=by rw[hsX];rfl
  refine⟨_,by rw[<-hst.2];exact run_endLoop v1 hst.1,(z3.setLp hγ' v1 _).act rfl,⟨z5.sub,λb o hb=>(F4.cell b o (z5.sub b o hb)).trans ((z5.cell b o hb).trans (hcell1 b o hb)),λ_ _=>rfl,λj hj b hb=>?_,zEa hsz1 (zEa z5.sz F4.sz),λj b hb=>z5.gam j b (fi hγid hb),?_,mark,rfl,?_,?_⟩,⟨z6.lkS.trans hlkS,z6.lkO.trans hlkO,z6.nt.trans hnt⟩⟩
  ·obtain⟨y1,y2⟩:=z5.objs j (by rw[hlkO];exact hj) b (fi hγid hb)
   obtain⟨_,y3⟩:=F4.objs j hj b y1;exact⟨y1,(jL.trans (.inl (hold1 b (h.γn j b hb).2)) y2).trans y3⟩
  ·exact(kept1.trans z5.dfs.1).trans F4.dfs.1
  ·exact e10.mono (zfa _) (z5.dfs.1.trans F4.dfs.1) (zEa z5.sz F4.sz)
  ·intro hh;have:s.lkO.contains 4095=true:=by simpa using hh
   rw[this] at h4095;cases h4095
 simp only[rangePost];split at z2<;>first|(cases z2;done)|skip
 ·rename_i i hob;obtain⟨w4,y1,y2,y3,y4⟩:=fin none i hob;exact⟨_,w4,y1,hQ .normal _ S' γ' β' _ w4 y2 y3 y4 z2⟩
 ·rename_i i e hob;obtain⟨w4,y1,y2,y3,y4⟩:=fin (some e) i hob;refine⟨_,w4,y1,?_⟩;have hq:=hQ e _ S' γ' β' _ w4 y2 y3 y4 z2;cases e with
  | normal=>exact wpIn_skip hq
  | exit j=>exact wpIn_exit hq
  | ret=>exact wpIn_ret hq
end
end Sy
end
noncomputable section
namespace Sy
open Go
variable{ro:Option Nat}{nn:Nat}
section
variable{V:Nat->St->Option AV}{ops:Array Oper}{md:Region.Mode}
def tg(V:Nat->St->Option AV)(ops:Array Oper)(i:Nat)(K:St->Prop)(s:St):Prop:=
 match ops[i]? with
 | none=>K s
 | some o=>∃ v,V i s=some v/\K (s.put o.dst v)
def pW(V:Nat->St->Option AV)(md:Region.Mode)(ops:Array Oper)(n:Nat)(L:Array Bool->St->Prop):Nat->Array Bool->St->Prop
 | 0,listed,s=>L listed s
 | f+1,listed,s=>Region.ready md ops listed≠[]/\∀ i∈Region.ready md ops listed,i<n/\tg V ops i (pW V md ops n L f (listed.setIfInBounds i true)) s
def jO(V:Nat->St->Option AV)(ops:Array Oper):Nat->Nat->St->Option St
 | 0,_,s=>some s
 | c+1,k,s=>(V k s).bind λv=>jO V ops c (k+1) (s.put ((ops[k]?).bind (·.dst)) v)
theorem BM:∀ (c d k:Nat) (s:St),jO V ops (c+d) k s=(jO V ops c k s).bind λs'=>jO V ops d (k+c) s'
 | 0,d,k,s=>by simp[jO]
 | c+1,d,k,s=>by
  rw[show c+1+d=(c+d)+1 by omega]
  simp only[jO];cases V k s with
  | none=>rfl
  | some v=>
   simp only[zba];rw[BM c d (k+1),show k+1+c=k+(c+1) by omega]
def SG(V:Nat->St->Option AV)(ops:Array Oper):Prop:=∀ i a,ops[i]?=some a->∀ (s:St) (d:Option Nat) (v:AV),(∀ t,d=some t->t ∉ a.looksAt ops)->V i (s.put d v)=V i s
def AU{n i:Nat}{w:Oper}{v:AV}{L:Array Bool->St->Prop}(z:SG V ops)(F:ops[i]?=some w)(A:mq md ops n)(q:i<n)
  (m:∀ listed s,L listed s->∀ j∈Region.ready md ops listed,n<=j) :
  ∀ (f:Nat) (listed:Array Bool) (s:St),HeadInv md ops n listed ->
   (∀ j l,ops[j]?=some l->j≠i->listed.getD j true=false->(∀ e∈l.after,Region.binds md e=true->e.on≠i)->w.apart ops l=true) ->
   i∈Region.ready md ops listed->V i s=some v ->
   pW V md ops n L f (listed.setIfInBounds i true) (s.put w.dst v)->pW V md ops n L (f+1) listed s:=by
 intro f
 induction f with
 | zero=>
  intro listed s inv _ g C H;have c:=(mem_ready.1 g).1;refine⟨λh=>(by rw[h] at g;cases g),λj o=>?_⟩
  have b:j<n:=by
   rcases zla j n with h|h
   ·exact h
   ·exact absurd o (A _ _ inv q c j h)
  refine⟨b,?_⟩;by_cases hji:j=i
  ·simp_all [tg]
  ·have:=m _ _ H j (ready_mono o hji);omega
 | succ f ih=>
  intro listed s inv a g C H;have c:=(mem_ready.1 g).1;refine⟨λh=>(by rw[h] at g;cases g),λj o=>?_⟩
  have b:j<n:=by
   rcases zla j n with h|h
   ·exact h
   ·exact absurd o (A _ _ inv q c j h)
  refine⟨b,?_⟩;by_cases hji:j=i
  ·simp_all [tg]
  ·have h1:=(H.2 j (ready_mono o hji)).2;obtain⟨r,l,p,B⟩:=mem_ready.1 o;have t:∀ e∈l.after,Region.binds md e=true->e.on≠i:=λe he I heq=>by
    grind
   obtain⟨a1,a2,a3⟩:=Oper.apart_spec (a j l p hji r t);unfold tg at h1 ⊢;rw[p] at h1 ⊢;obtain⟨u,D,G⟩:=h1;rw[z j l p _ _ _ a1] at D;refine⟨u,D,ih (listed.setIfInBounds j true) (s.put l.dst u) (inv.set o b) (λk ok hk x c y=>?_) (ready_mono g (Ne.symm hji)) ?_ ?_⟩
   ·refine a k ok hk x ?_ y;by_cases hjk:j=k
    ·simp_all
    ·simp_all
   ·rw[z i w F _ _ _ a3];exact C
   ·rw[Array.setIfInBounds_comm _ _ hji,Bz u v (λd E he=>a2 d he E)];exact G
theorem rH{n g:Nat}{sF:St}(o:SG V ops)(hn:n<=ops.size)(p:mq md ops n) :
  ∀ (c k:Nat) (listed:Array Bool) (s:St),k+c=n->HeadInv md ops n listed->(∀ i,i<k->listed.getD i false=true) ->
  Region.lexHead md ops g c k listed=true->jO V ops c k s=some sF ->
  pW V md ops n (λa s'=>Region.seqB md ops g n a=true/\(∀ i,i<n->a.getD i false=true)/\s'=sF) c listed s
 | 0,k,listed,s,hk,_,hl,f,h=>by
  have:k=n:=by simpa using hk
  subst this;simp only[jO,zda] at h;exact⟨by simpa [Region.lexHead] using f,hl,h⟩
 | c+1,k,listed,s,hk,inv,hl,f,h=>by
  have b:k<n:=by omega
  have l:k<ops.size:=by omega
  have h0:ops[k]?=some ops[k]:=zKb l;simp only[Region.lexHead,zaa] at f;obtain⟨⟨r,q⟩,j⟩:=f;have d:k∈Region.ready md ops listed:=by simpa using r
  simp only[jO] at h;obtain⟨v,h1,m⟩:=bind_some_inv h;rw[h0,zba] at m;refine AU o h0 p b (λa s' hL=>seqB_ready hL.1) c listed s inv (Region.free_spec h0 q) d h1
   (rH o hn p c (k+1) _ _ (by omega) (inv.set d b) (λi t=>?_) j m)
  by_cases e:i=k
  ·simp_all [inv.size]
  ·exact getD_set_true (hl i (by omega))
theorem rG{n:Nat}{L:Array Bool->St->Prop}{T:List Nat}:∀ (f:Nat) (listed:Array Bool) (s:St),pW V md ops n L f listed s ->
  (∀ t∈T,∀ j d,ops[j]?=some d->listed.getD j true=false->d.dst≠some t)->∃ a s',L a s'/\(∀ t∈T,s'.tm t=s.tm t)/\s'.ob=s.ob/\Sm s s'
 | 0,listed,s,h,_=>⟨listed,s,h,λ_ _=>rfl,rfl,Sm.refl s⟩
 | f+1,listed,s,h,hT=>by
  obtain⟨h1,r⟩:=h;obtain⟨i,m⟩:=List.exists_mem_of_ne_nil _ h1;obtain⟨u,b⟩:=r i m;obtain⟨l,o,q,_⟩:=mem_ready.1 m;unfold tg at b;rw[q] at b;obtain⟨v,_,x⟩:=b;obtain⟨l',s',m1,m2,m3,m4⟩:=rG f _ _ x (λt c j d w hu=>by
   by_cases e:i=j
   ·subst e;exfalso;rcases zla i listed.size with k|g
    ·simp[Array.getD,k] at hu
    ·simp[Array.getD,zEc.2 g] at hu
   ·rw[getD_set_ne true e] at hu;exact hT t c j d w hu)
  have p:=St.put_fields s o.dst v;exact⟨l',s',m1,λt c=>(m2 t c).trans (vw (hT t c i o q l)),m3.trans p.1,(Sm.put s o.dst v).trans m4⟩
end
section
variable{E:Env}{ops:Array Oper}
def oB(E:Env)(ops:Array Oper)(n id i:Nat)(s:St):Option AV:=if i=n then some .undef else uV E ops n id i s some
def yh(s:St)(d:Option Nat)(v:AV)(id:Nat)(o:Option Ob):(s.put d v).setOb id o=(s.setOb id o).put d v:=by
 cases d with
 | none=>rfl
 | some d=>
  by_cases h:d<s.nt
  ·simp_all [St.put,St.setOb]
  ·grind [St.put,St.setOb]
def Id(n id:Nat):SG (oB E ops n id) ops:=by
 intro i a p s d v h;unfold oB;split
 ·rfl
 ·obtain⟨c,f,q,r,g,u,w⟩:=St.put_fields s d v;obtain⟨j,k,y,z,A,B,C⟩:=St.put_fields (s.setOb id none) d v;have l:kF (s.put d v) a=kF s a:=by simp only[kF,g]
  have hx:∀ x∈a.op.operands,∀ t,d=some t->x≠.tmp t:=λx hx t b e=>h t b (by
   subst e;exact List.mem_append_left _ (zFc.2 ⟨.tmp t,by simpa using hx,rfl⟩))
  have m:qv E (s.put d v) a some=qv E s a some:=mU c f λx hm=>nH (hx x hm);have o:qv E ((s.put d v).setOb id none) a some=qv E (s.setOb id none) a some:=by
   rw[yh];exact mU j k λx hm=>nH (hx x hm)
  unfold uV
  simp_all
def A6{R:Type}{n id i:Nat}{s:St}{K:AV->Option R}{r:R}(h:uV E ops n id i s K=some r):∃ v,uV E ops n id i s some=some v/\K v=some r:=by
 unfold uV at h ⊢;split at h<;>first|(cases h;done)|skip
 split at h<;>first|(cases h;done)|skip
 rename_i a;rw[if_neg a];split at h
 ·rename_i hw;rw[if_pos hw];exact gv h
 ·rename_i hw;rw[if_neg hw];split at h<;>first|(cases h;done)|skip
  rename_i hk;rw[if_pos hk];exact gv h
theorem D4{R:Type}{n id:Nat}{K:St->Option R}{r:R}:∀ (c k:Nat) (s:St),k+c<=n->OP E ops n id c k s K=some r->∃ s',jO (oB E ops n id) ops c k s=some s'/\K s'=some r
 | 0,k,s,_,h=>⟨s,rfl,h⟩
 | c+1,k,s,hk,h=>by
  simp only[OP] at h;obtain⟨v,h1,a⟩:=A6 h;obtain⟨s',b,d⟩:=D4 c (k+1) _ (by omega) a
  refine⟨s',?_,d⟩;simp only[jO,oB,if_neg (show ¬ k=n by omega),h1,zba]
  exact b
mutual
theorem Jk(ob ob':Nat->Option Ob):∀ (t:Ty) (a:AV),AV.toD ob t a=AV.toD ob' t a
 | t,.st ts l=>by simp only[AV.toD,EU ob ob' ts l]
 | t,.d _ _=>by simp_all [AV.toD]
 | t,.own _ _ _=>by cases t<;>simp only[AV.toD]
 | t,.nils=>by simp_all [AV.toD]
 | t,.ptr _ _ _=>by cases t<;>simp only[AV.toD]
 | t,.yld _=>by simp_all [AV.toD]
 | t,.fptr _ _=>by cases t<;>simp only[AV.toD]
 | t,.mem _ _=>by cases t<;>simp only[AV.toD]
 | t,.clo _ _=>by cases t<;>simp only[AV.toD]
 | t,.map _ _ _=>by cases t<;>simp only[AV.toD]
 | t,.sub _ _ _ _ _ _=>by cases t<;>simp only[AV.toD]
 | t,.gone=>by simp_all [AV.toD]
 | t,.undef=>by simp_all [AV.toD]
theorem EU(ob ob':Nat->Option Ob):∀ (ts:List Ty) (l:List AV),AV.toDl ob ts l=AV.toDl ob' ts l
 | [],[]=>rfl
 | [],_::_=>rfl
 | _::_,[]=>rfl
 | t::ts,a::l=>by simp only[AV.toDl,Jk ob ob' t a,EU ob ob' ts l]
end
theorem yb{s s':St}(a:s'.tm=s.tm)(ty:Nat->Option Ty):∀ l:List (Nat×Operand),partsD s'.ob s' ty l=partsD s.ob s ty l
 | []=>rfl
 | (i,x)::l=>by
  have e:s'.opA x=s.opA x:=by cases x<;>simp only[St.opA,a]
  simp only[partsD,e,yb a ty l];cases ty i with
  | none=>rfl
  | some t=>simp only[zba,Jk s'.ob s.ob t]
def wU{ob a:Nat->Option Ob}(h:∀ j o,ob j=some o->a j=some o){x:AV}(hp:f8 (lj ob x)=true):lj a x=lj ob x:=by
 unfold lj at hp ⊢;split
 ·rename_i t id;simp only at hp;cases b:ob id with
  | none=>rw[b] at hp;cases hp
  | some o=>rw[h _ _ b]
 ·rfl
def Cn{ob b:Nat->Option Ob}(h:∀ j o,ob j=some o->b j=some o){x:AV}(a:lZ (ou ob x)=true):ou b x=ou ob x:=by
 cases x<;>simp only[ou] at a ⊢
 case ptr t id p=>
  refine wU h ?_;unfold lj at a ⊢;split at a<;>first|(cases a;done)|skip
  split at a<;>first|(cases a;done)|skip
 case clo f l=>
  split at a<;>first|(cases a;done)|skip
  rename_i hl;rw[if_pos hl];have e:l.map (lj b)=l.map (lj ob):=zXc λx hx=>wU h (zma.1 hl _ (z9b hx));rw[e,if_pos hl]
 case map kt vt id=>
  cases ho:ob id with
  | none=>rw[ho] at a;cases a
  | some o=>rw[h _ _ ho]
def Fz{s s':St}{id:Nat}(b:s'.tm=s.tm)(r:s'.fresh=s.fresh)(w:∀ j,j≠id->s'.ob j=s.ob j)(hid:s.ob id=none){o:Oper}(hk:uT o=true){v:AV}(h:qv E s o some=some v):qv E s' o some=some v:=by
 have op:∀ x,s'.opA x=s.opA x:=λx=>by cases x<;>simp only[St.opA,b]
 have c:∀ {j:Nat} {ob:Ob},s.ob j=some ob->s'.ob j=some ob:=λ{j ob} z=>by
  all_goals grind
 obtain⟨dst,g,ty,pos,after,guard⟩:=o;cases g<;>simp only[uT] at hk<;>first|(cases hk;done)|skip
 case build T ps=>
  simp only[qv] at h ⊢;obtain⟨t,d,l⟩:=bind_some_inv h;rw[d,zba];have n:∀ k,ps.toList.all (gn s' k)=ps.toList.all (gn s k):=λk=>by
   congr 1;funext p;simp only[gn,op]
  have q:(ps.toList.map λp=>(p.1,s'.opA p.2))=ps.toList.map λp=>(p.1,s.opA p.2):=by simp only[op]
  cases t<;>simp only[yb b,n,q]<;>exact l
 case load T a=>
  simp only[qv] at h ⊢;cases hfn:E.fnT T with
  | true=>
   rw[hfn] at h;simp only[cond_true] at h ⊢;split at h<;>first|(cases h;done)|skip
   rename_i j e;split at h<;>first|(cases h;done)|skip
   rename_i y u;split at h<;>first|(cases h;done)|skip
   rename_i m;rw[op,e];simp only;rw[c u];simp only;rw[Cn (λj o=>c) m,if_pos m];exact h
  | false=>
  rw[hfn] at h;simp only[cond_false] at h ⊢;obtain⟨t,d,l⟩:=bind_some_inv h;rw[d,zba,op];all_goals grind
 case fieldAddr T x f=>
  simp_all [qv,op]
 case extract x i=>
  simp_all [qv,op]
 case move x=>
  simp_all [qv,op]
 case alloc T=>
  simp_all [qv,St.base]
end
section
variable{P:Program}{E:Env}{w0:Root}{ops:Array Oper}
def qH(n id:Nat)(a:Ob)(listed:Array Bool)(s:St):St:=if listed.getD n false then s.setOb id (some a) else s
theorem Sm.setOb(s:St)(id:Nat)(o:Option Ob):Sm s (s.setOb id o):=⟨rfl,rfl,rfl,rfl⟩
theorem lS(hE:EnvOk P E){n g id T p x:Nat}{u t t':Ty}{v0 v1:AV}{c:Oper}{L:Array Bool->St->Prop}{Q:Exit->Act->World->Prop}{s0:St}{S0:Nat->Nat->Prop}{γ0:Nat->Option Nat}{a0:Act}{w1:World}
  (hn:ops[n]?=some c) (U:c.op=.store T (.tmp p) (.tmp x)) (m:c.dst=none) (N:c.guard=none)
  (hp:∀ (j:Nat) (k:Oper),ops[j]?=some k->k.dst=some p->Region.waitsFor .any ops n j=true) (hx:∀ (j:Nat) (k:Oper),ops[j]?=some k->k.dst=some x->Region.waitsFor .any ops n j=true)
  (l:∀ (j:Nat) (k:Oper),j<n->ops[j]?=some k->k.guard=none)
  (hT:E.L T=some t) (M:E.fnT T=false) (V:t.beq t'=true) (K:AV.fits t v1=true) (R:s0.lkO.contains id=false) (r:s0.ob id=some (.one u v0))
  (hd:∀ (i j:Nat) (oi k:Oper),i≠j->ops[i]?=some oi->ops[j]?=some k->∀ d,k.dst=some d->oi.dst≠some d)
  (z:∀ listed s,L listed s->s.tm p=.ptr t' id []/\s.tm x=v1/\listed.getD n false=true)
  (hL:∀ listed s S γ β a w,Rp w0 S γ β (s.setOb id (some (.one u v1))) a w->Fm s0 S0 γ0 a0 w1 S γ a w->Sm s0 s->(∀ j k,ops[j]?=some k->listed.getD j true=false->Fr E (s.setOb id (some (.one u v1))) γ β k)->L listed s->wpAnyIn (FW ro) nn P .any ops Q g listed a w) :
  ∀ (f:Nat) (listed:Array Bool) (s:St) (S:Nat->Nat->Prop) (γ:Nat->Option Nat) (β:Nat->Option (Nat×Nat)) (a:Act) (w:World),Rp w0 S γ β (qH n id (.one u v1) listed s) a w->Fm s0 S0 γ0 a0 w1 S γ a w->Sm s0 s->s.ob=s0.ob ->
   (listed.getD n false=true->∀ j,Region.waitsFor .any ops n j=true->listed.getD j false=true) ->
   (∀ j k,ops[j]?=some k->listed.getD j true=false->Fr E (qH n id (.one u v1) listed s) γ β k)->pW (oB E ops n id) .any ops (n+1) L f listed s->wpAnyIn (FW ro) nn P .any ops Q (f+g) listed a w
 | 0,listed,s,S,γ,β,a,w,h,hF,I,D,Y,B,hh=>by
  rw[zWa];have a5:L listed s:=hh;have e:qH n id (.one u v1) listed s=s.setOb id (some (.one u v1)):=by unfold qH;rw[if_pos (z _ _ a5).2.2]
  grind
 | f+1,listed,s,S,γ,β,a,w,h,hF,I,D,Y,B,hh=>by
  rw[show f+1+g=(f+g)+1 by omega]
  refine⟨λh0=>absurd h0 hh.1,λi hi=>?_⟩;obtain⟨bj,b⟩:=hh.2 i hi;have H:=(mem_ready.1 hi).1;have aj:∀ j,(listed.setIfInBounds i true).getD j true=false->i≠j/\listed.getD j true=false:=λj hu=>by
   by_cases C:i=j
   ·subst C;exfalso;rcases zla i listed.size with ad|Z
    ·simp[Array.getD,ad] at hu
    ·simp[Array.getD,zEc.2 Z] at hu
   ·rw[getD_set_ne true C] at hu;exact⟨C,hu⟩
  by_cases hni:i=n
  ·
   subst hni;have a6:=getD_both H;have bi:i<listed.size:=by
    rcases zla i listed.size with ad|Z
    ·exact ad
    ·simp[Array.getD,zEc.2 Z] at H
   have e0:qH i id (.one u v1) listed s=s:=by unfold qH;rw[a6];rfl
   rw[e0] at h;unfold tg at b;rw[hn] at b;simp only at b;obtain⟨v,y,b⟩:=b;rw[m] at b;have b:pW (oB E ops i id) .any ops (i+1) L f (listed.setIfInBounds i true) s:=b;obtain⟨_,o',a1,A⟩:=mem_ready.1 hi;rw[hn] at a1;cases a1;obtain⟨l',s',m1,m2,m3,m4⟩:=rG (T:=[p,x]) f _ _ b (λt ht j k O hu=>by
    simp only[zwa,zgc,or_false] at ht;intro J;have hw:Region.waitsFor .any ops i j=true:=by
     rcases ht with rfl|rfl
     ·exact hp j k O J
     ·exact hx j k O J
    obtain⟨ow,F,e,he,hb,ai⟩:=Region.waitsFor_spec hw;rw[hn] at F;cases F;have h1:=A e he hb;rw[ai] at h1;obtain⟨_,G⟩:=aj j hu;rw[getD_both G] at h1;cases h1)
   obtain⟨z1,z2,z3⟩:=z _ _ m1;rw[m2 p (by simp)] at z1
   rw[m2 x (by simp)] at z2
   have a2:s.ob id=some (.one u v0):=by rw[D];exact r
   have aI:s.lkO.contains id=false:=by rw[I.lkO];exact R
   have a4:sQ E s c some=some (s.setOb id (some (.one u v1))):=by
    unfold sQ;rw[U];simp only[hT,M,cond_false,zba,St.opA,z1,z2,V,K,aI,a2,zPb,Bool.and_true,if_true,Dh]
   obtain⟨s1,k1,k2⟩:=yW hE h (e0 ▸ B i c hn H) (λT t _ ht=>hE.flat T t ht) (λt _=>by rw[m];simp) (λ_ _ _ _=>m) a4
   cases k1;obtain⟨r1,r2,r3,r4,r5,r6⟩:=k2;unfold wpOpIn;rw[hn];simp only;rw[if_pos (by simp[Region.wanted,N])]
   refine(bu r6 λval w' ⟨S',γ',β',m1,m2,m3⟩=>?_);have el:qH i id (.one u v1) (listed.setIfInBounds i true) s=s.setOb id (some (.one u v1)):=by
    unfold qH;rw[if_pos (by simp[bi])]
   refine lS hE hn U m N hp hx l hT M V K R r hd z hL f _ s S' γ' β' _ _ (by rw[el];exact m1) (hF.trans m2 I.lkS I.lkO) I D (λ_ j hw=>?_) (λj k O hu=>?_) b
   ·obtain⟨ow,F,e,he,hb,ai⟩:=Region.waitsFor_spec hw;rw[hn] at F;cases F;have h1:=A e he hb;rw[ai] at h1;exact getD_set_true h1
   ·rw[el];obtain⟨_,G⟩:=aj j hu;exact(e0 ▸ B j k O G:Fr E s γ β k).keep (λd _=>by rw[m];simp) rfl (λq h1 h2=>r5 q h1 h2) m3
  ·
   have al:i<n:=by omega
   obtain⟨_,o,ho,A⟩:=mem_ready.1 hi;unfold tg at b;rw[ho] at b;simp only at b;obtain⟨v,y,b⟩:=b;unfold oB at y;rw[if_neg hni] at y;unfold uV at y;rw[ho] at y;simp only at y;split at y<;>first|(cases y;done)|skip
   rename_i ax;have a9:=l i o al ho;have an:kF (qH n id (.one u v1) listed s) o=kF s o:=by unfold qH;split<;>rfl
   have a3:val E ops (qH n id (.one u v1) listed s) o=some v:=by
    unfold val;rw[an,if_neg ax,a9];simp only;split at y
    ·rename_i hw;have:listed.getD n false=false:=by
      cases hln:listed.getD n false with
      | false=>rfl
      | true=>
       have:=Y hln i hw;rw[getD_both H] at this;cases this
     have e:qH n id (.one u v1) listed s=s:=by unfold qH;rw[this];rfl
     rw[e];exact y
    ·split at y<;>first|(cases y;done)|skip
     rename_i hk;refine Fz (s:=s.setOb id none) (id:=id) ?_ ?_ (λj O=>?_) ?_ hk y
     ·unfold qH;split<;>rfl
     ·unfold qH;split<;>rfl
     ·unfold qH;split<;>simp[St.setOb,O]
     ·simp[St.setOb]
   have el:(qH n id (.one u v1) listed s).put o.dst v=qH n id (.one u v1) (listed.setIfInBounds i true) (s.put o.dst v):=by
    unfold qH;rw[getD_set_ne false hni];split
    ·rw[yh]
    ·rfl
   obtain⟨k1,k2⟩:=zX hE h (B i o ho H) a3;have pf:=St.put_fields s o.dst v;have W:Sm s0 (qH n id (.one u v1) listed s):=by
    unfold qH;split
    ·exact I.trans (Sm.setOb s id _)
    ·exact I
   have pl:=St.put_fields (qH n id (.one u v1) listed s) o.dst v;have ak:∀ {γ':Nat->Option Nat} {β':Nat->Option (Nat×Nat)},(∀ q:Nat,o.dst≠some (q-(qH n id (.one u v1) listed s).base)\/q<(qH n id (.one u v1) listed s).base->γ' q=γ q/\β' q=β q)->∀ j k,ops[j]?=some k->(listed.setIfInBounds i true).getD j true=false->Fr E (qH n id (.one u v1) (listed.setIfInBounds i true) (s.put o.dst v)) γ' β' k:=λhk j k O hu=>by
    obtain⟨C,G⟩:=aj j hu;rw[<-el];exact(B j k O G).keep (λd J=>hd i j o k C ho O d J) pl.2.1 (λq _ _=>by rw[pl.1]) hk
   have X:(listed.setIfInBounds i true).getD n false=true->∀ j,Region.waitsFor .any ops n j=true->(listed.setIfInBounds i true).getD j false=true:=λh1 j hw=>by
    rw[getD_set_ne false hni] at h1;exact getD_set_true (Y h1 j hw)
   unfold wpOpIn;rw[ho];simp only;split
   ·rename_i hw;refine(bu (k1 hw) λu' w' ⟨S',γ',β',m1,m2,m3⟩=>?_);exact lS hE hn U m N hp hx l hT M V K R r hd z hL f _ _ S' γ' β' _ _ (el ▸ m1) (hF.trans m2 W.lkS W.lkO) (I.trans (Sm.put s o.dst v)) (pf.1.trans D) X (ak m3) b
   ·rename_i hw;obtain⟨m1,m2⟩:=k2 (by simpa using hw)
    refine⟨λ_ _=>trivial,?_⟩;exact lS hE hn U m N hp hx l hT M V K R r hd z hL f _ _ S γ β _ _ (el ▸ m1) (hF.trans m2 W.lkS W.lkO) (I.trans (Sm.put s o.dst v)) (pf.1.trans D) X (ak λid _=>⟨rfl,rfl⟩) b
def vz(hE:EnvOk P E){id:Nat}{n:Nat}{Q:Exit->Act->World->Prop}{S:Nat->Nat->Prop}{γ:Nat->Option Nat}{β:Nat->Option (Nat×Nat)}{s:St}{a:Act}{w:World}{R:Type}{k:St->Option R}{r:R}{N:Nat}
  (h:Rp w0 S γ β s a w) (hf:E3 E s γ β ops.toList) (hm:cg ops.toList=true) (G:uU ops n=true) {an:Ann}
  (al:OP E ops n (lD ops n s) n 0 s (λs2=>if uS ops n s2=some (lD ops n s) then fj E N R ops an ((aR 0 ops.toList).drop n) s2 k else none)=some r)
  (hQ:∀ s' S' γ' β' a' w',Rp w0 S' γ' β' s' a' w'->Fm s S γ a w S' γ' a' w'->Sk s s'->k s'=some r->Q .normal a' w'):(Code.region id ops true).wpIn (FW ro) nn P Q a w:=by
 simp only[cg,zaa] at hm;obtain⟨⟨a6,b5⟩,bN⟩:=hm;have V:(ops.toList.all λo=>match o.op with|.store ..=>o.dst.isNone|_=>true)=true:=bN
 unfold uU at G;split at G<;>first|(cases G;done)|skip
 rename_i f hn;split at G<;>first|(cases G;done)|skip
 rename_i T p x X;obtain⟨q,hid⟩:∃ q,lD ops n s=q:=⟨_,rfl⟩;rw[hid] at al;simp only[zaa] at G;obtain⟨⟨⟨⟨⟨l2,l3⟩,l4⟩,l5⟩,l6⟩,l7⟩:=G;have bi:n<ops.size:=(zga.1 hn).1;have b6:f∈ops.toList:=zVb.2 (zec hn);have M:f.dst=none:=by
  grind
 have bk:∀ (j:Nat) (m:Oper),ops[j]?=some m->(m.dst=some p\/m.dst=some x)->Region.waitsFor .any ops n j=true:=λj m z e=>by
  grind
 have hp:∀ (j:Nat) (m:Oper),ops[j]?=some m->m.dst=some p->Region.waitsFor .any ops n j=true:=λj m z e=>bk j m z (.inl e);have hx:∀ (j:Nat) (m:Oper),ops[j]?=some m->m.dst=some x->Region.waitsFor .any ops n j=true:=λj m z e=>bk j m z (.inr e);have W:∀ (j:Nat) (m:Oper),j<n->ops[j]?=some m->m.guard=none:=λj m bL z=>by
  have bM:m∈ops.toList.take n:=by
   refine z4a (i:=j) ?_;rw[zBb bL,zBa];exact z
  have:=zma.1 l3 m bM;simp only[zaa] at this;simpa using this.2
 have I:∀ o∈ops.toList.drop n,o.guard=none:=λo ho=>by
  have:=zma.1 l4 o ho;simp only[zaa] at this;simpa using this.1
 have ai:ops.toList.drop n=f::ops.toList.drop (n+1):=by
  have h1:n<ops.toList.length:=by simpa using bi
  rw[zAb h1];have:ops.toList[n]=f:=by
   have:=(zga.1 hn).2;simpa using this
  rw[this]
 have aI:f.guard=none:=I f (by rw[ai];simp)
 obtain⟨s',q1,C⟩:=D4 n 0 s (by omega) al
 split at C<;>first|(cases C;done)|skip
 rename_i D;obtain⟨t0,O,b2⟩:∃ t0,s'.tm p=.ptr t0 q []/\¬ t0.beq .fn=true:=by
  unfold uS at D;simp only[hn,X] at D;split at D<;>first|(cases D;done)|skip
  rename_i t0 b7 b0;split at D<;>first|(cases D;done)|skip
  rename_i J;cases D;exact⟨t0,b0,J⟩
 have ad:(aR 0 ops.toList).drop n=(n,f)::(aR 0 ops.toList).drop (n+1):=by
  have h1:n<(aR 0 ops.toList).length:=by rw[gZ];simpa using bi
  rw[zAb h1];have key:∀ (l:List Oper) (i j:Nat) (o:Oper),l[j]?=some o->(aR i l)[j]?=some (i+j,o):=by
   intro l
   induction l with
   | nil=>intro i j o z;simp at z
   | cons y l ih=>
    intro i j o z;cases j with
    | zero=>simp at z;subst z;simp[aR]
    | succ j=>simp only[zjb] at z;simp only[aR,zjb];rw[ih (i+1) j o z];congr 2;omega
  have:=key ops.toList 0 n f (by rw[zBa];exact hn)
  rw[zca h1,zWa] at this;rw[zzd this]
 rw[ad] at C;obtain⟨N',hN⟩:∃ N',N=N'+1:=by
  cases N with
  | zero=>simp[fj] at C
  | succ N'=>exact⟨N',rfl⟩
 subst hN;have bl:se n ((aR 0 ops.toList).drop (n+1))=false:=by
  unfold se;split
  ·rename_i p' l' hl;have a9:p'.2∈ops.toList.drop n:=by
    have h1:p'∈(aR 0 ops.toList).drop n:=by rw[ad,hl];simp
    have:p'.2∈((aR 0 ops.toList).drop n).map Prod.snd:=z9b h1
    rwa [zjc,ba] at this
   unfold xt;rw[I _ a9]
  ·rfl
 have Z:kA E f=false:=by unfold kA;rw[X]
 have bW:tU E f an=an:=by simp[tU,Z]
 have ax:∀ (l:List (Nat×Oper)) (s:St) (K:St->Option R),Cz E an l s f K=sQ E s f K:=λl s K=>by simp[Cz,Z]
 have b1:∀ s,m8 E s n f ((aR 0 ops.toList).drop (n+1))=false:=λs=>by simp[m8,bl]
 simp only[fj,aI,b1,bW,ax,zxa,if_false] at C;have a5:kF s' f=false:=by unfold kF;rw[M]
 rw[if_neg (by rw[a5];simp)] at C
 unfold sQ at C;rw[X] at C;simp only at C;have keep:∀ (c kk:Nat) (s s':St),jO (oB E ops n q) ops c kk s=some s'->s'.ob=s.ob/\Sm s s':=by
  intro c
  induction c with
  | zero=>intro kk s s' hs;simp only[jO,zda] at hs;subst hs;exact⟨rfl,Sm.refl s⟩
  | succ c ih=>
   intro kk s s' hs;simp only[jO] at hs;obtain⟨v,h1,h2⟩:=bind_some_inv hs;obtain⟨m2,m3⟩:=ih _ _ _ h2;have pf:=St.put_fields s ((ops[kk]?).bind (·.dst)) v;exact⟨m2.trans pf.1,(Sm.put s _ v).trans m3⟩
 obtain⟨c2,c3⟩:=keep n 0 s s' q1;cases hfn:E.fnT T with
 | true=>
  rw[hfn,show s'.opA (.tmp p)=.ptr t0 q [] from O] at C;simp only[cond_true] at C;split at C<;>first|(cases C;done)|skip
  rename_i e;cases e;exact absurd rfl b2
 | false=>
 rw[hfn] at C;simp only[cond_false] at C;obtain⟨t,hT,Y⟩:=bind_some_inv C;rw[show s'.opA (.tmp p)=.ptr t0 q [] from O] at Y;simp only at Y;split at Y<;>first|(cases Y;done)|skip
 rename_i L;simp only[zaa,zCa] at L;obtain⟨⟨d1,d2⟩,d3⟩:=L;split at Y<;>first|(cases Y;done)|skip
 ·rename_i u v0 bj;obtain⟨v1,bp⟩:∃ v1,s'.opA (.tmp x)=v1:=⟨_,rfl⟩;rw[bp] at Y d2;have q4:fj E N' R ops an ((aR 0 ops.toList).drop (n+1)) (s'.setOb q (some (.one u v1))) k=some r:=by
   cases v0<;>simpa only[Dh] using Y
  clear Y C;have hW:mq .any ops (n+1):=by
   intro listed i inv bx b3 t ht hr;simp only[zHb,decide_eq_true_eq,zaa] at l7;rcases l7 with l7|⟨⟨l7,l8⟩,l9⟩
   ·obtain⟨_,o,ho,_⟩:=mem_ready.1 hr;have:=(zga.1 ho).1;omega
   ·exact tail_waits l8 l9 l7 inv _ i rfl bx b3 t ht hr
  refine wpIn_region_any hE.mixed ?_;have hg:∃ os d,w.drawn<=d/\({ w with drawn:=w.drawn+1 }:World)=grown w os d:=⟨[],w.drawn+1,zAc _,by simp[grown]⟩
  obtain⟨os,d,bt,hg⟩:=hg;obtain⟨g1,g2⟩:=h.grow (os:=os) (d:=d) bt (S':=S) (λ_ _ J=>J) (λ_ _ J=>.inl J);rw[hg];have bs:HeadInv .any ops (n+1) (Array.replicate ops.size false):=
   ⟨by simp,λj m _ hl=>(by rw[getD_replicate_false] at hl;cases hl),λt _ ht=>getD_in (by simpa using ht) (getD_replicate_false _ _)⟩
  have U:jO (oB E ops n q) ops (n+1) 0 s=some s':=by
   rw[BM n 1 0,q1,zba];simp only[jO,oB,zWa,if_true,zba,hn,M];rfl
  have H:=rH (sF:=s') (Id (E:=E) (ops:=ops) n q) (by omega) hW (n+1) 0 (Array.replicate ops.size false) s (by omega) bs (λi hi=>by omega) l6 U
  have e0:qH n q (.one u v1) (Array.replicate ops.size false) s=s:=by unfold qH;rw[getD_replicate_false];rfl
  have ak:(ops.toList.drop (n+1)).length=ops.size-(n+1):=by simp
  have aj:∀ j m,ops[j]?=some m->(Array.replicate ops.size false).getD j true=false->Fr E (qH n q (.one u v1) (Array.replicate ops.size false) s) γ β m:=λj m z _=>by
   rw[e0];exact hf m (zVb.2 (zec z))
  have:=lS (ro:=ro) (nn:=nn) (w0:=w0) (Q:=Q) (g:=ops.size-(n+1)) (s0:=s) (S0:=S) (γ0:=γ) (a0:=a) (w1:=grown w os d) hE hn X M aI hp hx W hT hfn d1 d2 (by rw[<-c3.lkO];exact d3) (by rw[<-c2];exact bj) (λi j oi m bv hi z d hd=>ic a6 bv (by rw[zBa];exact hi) (by rw[zBa];exact z) d hd)
   (λlisted s2 hL=>by
    obtain⟨_,hl,rfl⟩:=hL;exact⟨O,bp,hl n (by omega)⟩)
   (λlisted s2 S2 γ2 β2 a2 w2 m1 m2 m3 m4 m5=>by
    obtain⟨m5,m6,m7⟩:=m5;subst m7;have U:=gB (F:=FW ro) (n:=nn) (P:=P) (md:=.any) (ops:=ops) (Q':=Q) (ops.toList.drop (n+1)) (n+1) listed a2 w2 (λj=>by rw[zmb,zBa]) (by rw[ak];exact m5) ?_
    ·rwa [ak] at U
    have bm:∀ j m,ops[j]?=some m->n+1<=j->listed.getD j true=false:=by
     intro j m z bP;have key:∀ (g k:Nat) (listed:Array Bool),Region.seqB .any ops g k listed=true->∀ j,k<=j->j<k+g->listed.getD j true=false:=by
      intro g
      induction g with
      | zero=>intro k listed _ j h1 h2;omega
      | succ g ih=>
       intro k listed hB j h1 h2;simp only[Region.seqB,zaa,decide_eq_true_eq] at hB;by_cases a4:j=k
       ·subst a4;have:j∈Region.ready .any ops listed:=by rw[hB.1];simp
        exact(mem_ready.1 this).1
       ·have:=ih (k+1) _ hB.2 j (by omega) (by omega)
        rwa [getD_set_ne true (Ne.symm a4)] at this
     have b4:=(zga.1 z).1;exact key _ _ _ m5 j bP (by omega)
    have fin:=uH (ro:=ro) (nn:=nn) (ops:=ops) hE (Q:=Q) V N' R ((aR 0 ops.toList).drop (n+1)) k r an m1 (by
      rw[zjc,ba];intro o ho;obtain⟨i,hi,he⟩:=zQa ho;have a1:ops[n+1+i]?=some o:=by
       have:(ops.toList.drop (n+1))[i]?=some o:=by rw[zca hi,he]
       rwa [zmb,zBa] at this
      exact m4 (n+1+i) o a1 (bm _ _ a1 (by omega)))
     (by
      rw[zjc,ba];intro A B o o' e ho d hd;exact eY a6 (ops.toList.take (n+1)++A) B o o' (by rw[zIa,<-e,zqa]) ho d hd)
     (λp hp=>jx (zUb hp)) q4 (λs3 S3 γ3 β3 a3 w3 n1 n2 n3 n4=>by
      refine hQ s3 S3 γ3 β3 a3 w3 n1 ?_ (Sk.trans (m3.trans (Sm.setOb _ q (some (.one u v1)))).sk n3) n4;have f0:Fm s S γ a w S γ a (grown w os d):=⟨λ_ _ J=>J,g2.cell,λ_ _=>rfl,λid hid b J=>⟨J,.inl (cT (h.γn id b J).2)⟩,by simp,λ_ _ J=>J,kY.same rfl dq.grown⟩
      exact(f0.trans m2 rfl rfl).trans n2 (show _=_ from m3.lkS) (show _=_ from m3.lkO))
    rwa [zjc,ba] at fin)
   (n+1) (Array.replicate ops.size false) s S γ β a (grown w os d) (by rw[e0];exact g1) (Fm.refl _ _ _ _ _) (Sm.refl s) rfl (λhl=>by rw[getD_replicate_false] at hl;cases hl) aj H
  rw[show n+1+(ops.size-(n+1))=ops.size by omega] at this
  exact this
end
end Sy
end
noncomputable section
namespace Sy
open Go
variable{ro:Option Nat}{nn:Nat}
section
variable{E:Env}{ops:Array Oper}
def B5(E:Env)(ops:Array Oper)(m i:Nat)(s:St):Option AV:=match ops[i]? with
 | none=>none
 | some o=>if kF s o then none else if i=m then(pA E s o).map Prod.fst else qv E s o some
def Cg{s s':St}{o:Oper}(g:s'.ob=s.ob)(j:s'.fresh=s.fresh)(i:s'.dead=s.dead)(h:∀ x∈o.op.operands,s'.opA x=s.opA x):pA E s' o=pA E s o:=by
 unfold pA Al;obtain⟨dst,op,ty,pos,after,guard⟩:=o;cases op<;>try rfl
 rename_i c;obtain⟨callee,args,argTypes⟩:=c;cases callee<;>try rfl
 rename_i b;cases b<;>try rfl
 simp only;cases hT:argTypes[0]? with
 | none=>rfl
 | some T=>
 simp only[zba];cases hL:E.L T with
 | none=>rfl
 | some t=>
 simp only[zba];cases dst with
 | none=>rfl
 | some d=>
 simp only[zba];split
 ·rename_i e x y T0 T' a f;have hx:s'.opA x=s.opA x:=h x (by
   show x∈(Op.call ⟨.builtin .append,args,argTypes⟩).operands;have e:(Op.call ⟨.builtin .append,args,argTypes⟩).operands=args:=by first|rfl|simp[Op.operands,Call.operands]
   rw[e,<-zVb,a];simp)
  have k:s'.opA y=s.opA y:=h y (by
   show y∈(Op.call ⟨.builtin .append,args,argTypes⟩).operands;have e:(Op.call ⟨.builtin .append,args,argTypes⟩).operands=args:=by first|rfl|simp[Op.operands,Call.operands]
   rw[e,<-zVb,a];simp)
  simp_all [St.base]
 ·rfl
def Nd(m:Nat):SG (B5 E ops m) ops:=by
 intro i a o s d v h;obtain⟨b,c,g,p,j,q,r⟩:=St.put_fields s d v;have k:kF (s.put d v) a=kF s a:=by simp only[kF,j]
 have hx:∀ x∈a.op.operands,∀ t,d=some t->x≠.tmp t:=λx hx t f e=>h t f (by
  subst e;exact List.mem_append_left _ (zFc.2 ⟨.tmp t,by simpa using hx,rfl⟩))
 have l:qv E (s.put d v) a some=qv E s a some:=mU b c λx hm=>nH (hx x hm);have n:pA E (s.put d v) a=pA E s a:=Cg b c g λx hm=>nH (hx x hm);unfold B5
 simp_all
def Cf{R:Type}{s:St}{o:Oper}{K:AV×List Nat->Option R}{r:R}(h:Al E s o K=some r):∃ v,pA E s o=some v/\K v=some r:=by
 unfold Al at h;obtain⟨dst,op,ty,pos,after,guard⟩:=o;cases op<;>first|(cases h;done)|skip
 rename_i c;obtain⟨callee,args,argTypes⟩:=c;cases callee<;>first|(cases h;done)|skip
 rename_i b;cases b<;>first|(cases h;done)|skip
 simp only at h;replace h:=bind_some_inv h;obtain⟨T,hT,h⟩:=h;replace h:=bind_some_inv h;obtain⟨t,j,h⟩:=h;replace h:=bind_some_inv h;obtain⟨d,i,h⟩:=h;split at h<;>first|(cases h;done)|skip
 rename_i e x y T0 T' a f;split at h<;>first|(cases h;done)|skip
 rename_i k g;replace h:=bind_some_inv h;obtain⟨l',hl',h⟩:=h;unfold pA Al;simp only[hT,j,i,a,f,g,hl',zba];all_goals grind
def L9{R:Type}{s:St}{o:Oper}{v:AV}{D:List Nat}(h:pA E s o=some (v,D))(K:St->Option R):sQ E s o K=K (({ s with dead:=D }:St).put o.dst v):=by
 unfold pA Al at h;obtain⟨dst,op,ty,pos,after,guard⟩:=o;cases op<;>first|(cases h;done)|skip
 rename_i c;obtain⟨callee,args,argTypes⟩:=c;cases callee<;>first|(cases h;done)|skip
 rename_i b;cases b<;>first|(cases h;done)|skip
 simp only at h;replace h:=bind_some_inv h;obtain⟨T,hT,h⟩:=h;replace h:=bind_some_inv h;obtain⟨t,j,h⟩:=h;replace h:=bind_some_inv h;obtain⟨d,i,h⟩:=h;split at h<;>first|(cases h;done)|skip
 rename_i e x y T0 T' a f;split at h<;>first|(cases h;done)|skip
 rename_i k g;replace h:=bind_some_inv h;obtain⟨l',hl',h⟩:=h;unfold sQ;simp only[hT,j,i,a,f,g,hl',zba];split at h<;>first|(cases h;done)|skip
 ·simp_all
 ·rename_i hx;split at h<;>first|(cases h;done)|skip
  rename_i hlen;cases h
  simp_all
def E6{s:St}{dst:Option Nat}{args:Array Operand}{argTypes:Array TypeId}{ty:TypeId}{pos:String}{after:Array Edge}{guard:Option (Nat×Bool)}{v:AV}{D:List Nat}{p:Nat}{y:Operand}(h:pA E s ⟨dst,.call ⟨.builtin .append,args,argTypes⟩,ty,pos,after,guard⟩=some (v,D))(b:args.toList=[.tmp p,y]):D=mK s p:=by
 unfold pA Al at h;simp only at h;replace h:=bind_some_inv h;obtain⟨T,hT,h⟩:=h;replace h:=bind_some_inv h;obtain⟨t,i,h⟩:=h;replace h:=bind_some_inv h;obtain⟨d,f,h⟩:=h;split at h<;>first|(cases h;done)|skip
 rename_i e x j T0 T' a c;rw[b] at a;cases a;split at h<;>first|(cases h;done)|skip
 replace h:=bind_some_inv h;obtain⟨l',hl',h⟩:=h;have g:s.opA (.tmp p)=s.tm p:=rfl;all_goals grind [mK]
theorem yY{R:Type}{m:Nat}{K:St->Option R}{r:R}:∀ (c k:Nat) (s:St),NG E ops m c k s K=some r->∃ s',jO (B5 E ops m) ops c k s=some s'/\K s'=some r
 | 0,k,s,h=>⟨s,rfl,h⟩
 | c+1,k,s,h=>by
  simp only[NG] at h;cases ho:ops[k]? with
  | none=>rw[ho] at h;cases h
  | some o=>
   rw[ho] at h;simp only at h;split at h<;>first|(cases h;done)|skip
   rename_i f;split at h
   ·rename_i b;obtain⟨v,h1,a⟩:=Cf h;obtain⟨s',d,e⟩:=yY c (k+1) _ a
    simp_all [jO,B5,zvb,zba]
   ·rename_i b;obtain⟨v,h1,a⟩:=gv h;obtain⟨s',d,e⟩:=yY c (k+1) _ a
    simp_all [jO,B5,zba]
def gr(m:Nat)(D:List Nat)(listed:Array Bool)(s:St):St:=if listed.getD m false then{ s with dead:=D } else s
def AE(s:St)(d:Option Nat)(v:AV)(D:List Nat):({ s with dead:=D }:St).put d v={ s.put d v with dead:=D }:=by
 cases d with
 | none=>rfl
 | some d=>
  all_goals grind [St.put]
def A5(m:Nat)(D:List Nat)(listed:Array Bool)(s:St):(gr m D listed s).ob=s.ob/\(gr m D listed s).fresh=s.fresh/\(gr m D listed s).lkS=s.lkS/\(gr m D listed s).lkO=s.lkO/\(gr m D listed s).nt=s.nt/\(gr m D listed s).tm=s.tm:=by
 grind [gr]
def CD{V:Nat->St->Option AV}{md:Region.Mode}{n:Nat}{L:Array Bool->St->Prop}{T:List Nat}:∀ (f:Nat) (listed:Array Bool) (s:St),pW V md ops n L f listed s ->
  (∀ t∈T,∀ j b,ops[j]?=some b->listed.getD j true=false->b.dst≠some t)->∃ a s',L a s'/\(∀ t∈T,s'.tm t=s.tm t)
 | f,listed,s,h,hT=>by
  obtain⟨l',s',m1,m2,_⟩:=rG f listed s h hT;grind
end
section
variable{P:Program}{E:Env}{w0:Root}{ops:Array Oper}
theorem nU(hE:EnvOk P E){n m g p:Nat}{tp:AV}{D:List Nat}{y:Operand}{dst:Option Nat}{args:Array Operand}{argTypes:Array TypeId}{ty:TypeId}{pos:String}{after:Array Edge}{L:Array Bool->St->Prop}{Q:Exit->Act->World->Prop}{s0:St}{S0:Nat->Nat->Prop}{γ0:Nat->Option Nat}{a0:Act}{w1:World}
  (hm:ops[m]?=some ⟨dst,.call ⟨.builtin .append,args,argTypes⟩,ty,pos,after,none⟩) (k:args.toList=[.tmp p,y])
  (hp:∀ (j:Nat) (b:Oper),ops[j]?=some b->b.dst=some p->Region.waitsFor .any ops m j=true)
  (c:∀ (j:Nat) (b:Oper),j<n->ops[j]?=some b->b.guard=none)
  (hD:∀ s:St,s.tm p=tp->s.dead=s0.dead->mK s p=D)
  (hd:∀ (i j:Nat) (oi b:Oper),i≠j->ops[i]?=some oi->ops[j]?=some b->∀ d,b.dst=some d->oi.dst≠some d)
  (J:∀ listed s,L listed s->s.tm p=tp/\listed.getD m false=true)
  (hL:∀ listed s S γ β a w,Rp w0 S γ β { s with dead:=D } a w->Fm s0 S0 γ0 a0 w1 S γ a w->Sm s0 s->(∀ j b,ops[j]?=some b->listed.getD j true=false->Fr E { s with dead:=D } γ β b)->L listed s->wpAnyIn (FW ro) nn P .any ops Q g listed a w) :
  ∀ (f:Nat) (listed:Array Bool) (s:St) (S:Nat->Nat->Prop) (γ:Nat->Option Nat) (β:Nat->Option (Nat×Nat)) (a:Act) (w:World),Rp w0 S γ β (gr m D listed s) a w->Fm s0 S0 γ0 a0 w1 S γ a w->Sm s0 s->s.dead=s0.dead ->
   (∀ j b,ops[j]?=some b->listed.getD j true=false->Fr E (gr m D listed s) γ β b)->pW (B5 E ops m) .any ops n L f listed s->wpAnyIn (FW ro) nn P .any ops Q (f+g) listed a w
 | 0,listed,s,S,γ,β,a,w,h,hF,I,B,F,hh=>by
  rw[zWa];have a2:L listed s:=hh;grind [gr]
 | f+1,listed,s,S,γ,β,a,w,h,hF,I,B,F,hh=>by
  rw[show f+1+g=(f+g)+1 by omega]
  refine⟨λh0=>absurd h0 hh.1,λi hi=>?_⟩;obtain⟨ax,l⟩:=hh.2 i hi;have M:=(mem_ready.1 hi).1;have ai:∀ j,(listed.setIfInBounds i true).getD j true=false->i≠j/\listed.getD j true=false:=λj hu=>by
   by_cases u:i=j
   ·subst u;exfalso;rcases zla i listed.size with Z|X
    ·simp[Array.getD,Z] at hu
    ·simp[Array.getD,zEc.2 X] at hu
   ·rw[getD_set_ne true u] at hu;exact⟨u,hu⟩
  have a1:i<listed.size:=by
   rcases zla i listed.size with Z|X
   ·exact Z
   ·simp[Array.getD,zEc.2 X] at M
  obtain⟨_,o,W,R⟩:=mem_ready.1 hi;unfold tg at l;rw[W] at l;simp only at l;obtain⟨v,A,l⟩:=l;unfold B5 at A;rw[W] at A;simp only at A;split at A<;>first|(cases A;done)|skip
  rename_i V;have pf:=St.put_fields s o.dst v;obtain⟨z1,z2,z3,z4,z5,z6⟩:=A5 m D listed s;have O:Sm s0 (gr m D listed s):=⟨z3.trans I.lkS,z4.trans I.lkO,z2.trans I.fresh,z5.trans I.nt⟩;have U:∀ t∈(gr m D listed s).lkS,o.dst≠some t:=λt ht e=>V (by
   rw[z3] at ht;simp[kF,e];exact ht)
  by_cases hmi:i=m
  ·
   subst hmi;rw[if_pos rfl] at A;rw[hm] at W;cases W;have ak:=getD_both M;have e0:gr i D listed s=s:=by unfold gr;rw[ak];rfl
   have N:∃ D',pA E s ⟨dst,.call ⟨.builtin .append,args,argTypes⟩,ty,pos,after,none⟩=some (v,D'):=by
    cases ha:pA E s ⟨dst,.call ⟨.builtin .append,args,argTypes⟩,ty,pos,after,none⟩ with
    | none=>rw[ha] at A;cases A
    | some q=>rw[ha] at A;obtain⟨q1,q2⟩:=q;cases A;exact⟨q2,rfl⟩
   obtain⟨D',N⟩:=N;have an:dst≠some p:=λe=>by
    have hw:=hp i _ hm e;obtain⟨ow,G,e',he,hb,ad⟩:=Region.waitsFor_spec hw;rw[hm] at G;cases G;have h1:=R e' he hb;rw[ad] at h1;rw[ak] at h1;cases h1
   obtain⟨l',s',m1,m2⟩:=CD (T:=[p]) f _ _ l (λt ht j b Y hu=>by
    simp only[zwa,zgc,or_false] at ht;subst ht;intro C;have hw:=hp j b Y C;obtain⟨ow,G,e,he,hb,ad⟩:=Region.waitsFor_spec hw;rw[hm] at G;cases G;have h1:=R e he hb;rw[ad] at h1;obtain⟨_,H⟩:=ai j hu;rw[getD_both H] at h1;cases h1)
   have z7:=(J _ _ m1).1;rw[m2 p (by simp),vw an] at z7
   have eD:D'=D:=(E6 N k).trans (hD s z7 B);subst eD;rw[e0] at h U;obtain⟨s1,k1,k2⟩:=yW hE h (e0 ▸ F i _ hm M) (λT t _ ht=>hE.flat T t ht) U (λ_ _ _ e=>by cases e) (K:=some) (r:=(({ s with dead:=D' }:St).put dst v)) (by rw[L9 N])
   cases k1;obtain⟨r1,r2,r3,r4,r5,r6⟩:=k2;unfold wpOpIn;rw[hm];simp only;rw[if_pos (by simp[Region.wanted])]
   refine(bu r6 λval w' ⟨S',γ',β',m1,m2,m3⟩=>?_);have el:gr i D' (listed.setIfInBounds i true) (s.put dst v)=({ s with dead:=D' }:St).put dst v:=by
    unfold gr;rw[if_pos (by simp[a1])]
    exact(AE s dst v D').symm
   refine nU hE hm k hp c hD hd J hL f _ _ S' γ' β' _ _ (by rw[el];exact m1) (hF.trans m2 I.lkS I.lkO) (I.trans (Sm.put s dst v)) (pf.2.2.1.trans B) (λj b Y hu=>?_) l
   rw[el];obtain⟨u,H⟩:=ai j hu;exact(e0 ▸ F j b Y H:Fr E s γ β b).keep (o:=⟨dst,.call ⟨.builtin .append,args,argTypes⟩,ty,pos,after,none⟩) (λd C=>hd i j _ b u hm Y d C) r3 r5 m3
  ·
   rw[if_neg hmi] at A;have aI:=c i o ax W;have al:val E ops (gr m D listed s) o=some v:=by
    have e1:kF (gr m D listed s) o=kF s o:=by simp only[kF,z3]
    have e2:qv E (gr m D listed s) o some=qv E s o some:=mU z1 z2 λx _=>by
     cases x<;>simp only[St.opA,z6]
    unfold val;rw[e1,if_neg V,aI,e2];exact A
   have el:(gr m D listed s).put o.dst v=gr m D (listed.setIfInBounds i true) (s.put o.dst v):=by
    unfold gr;rw[getD_set_ne false hmi];split
    ·rw[AE]
    ·rfl
   obtain⟨k1,k2⟩:=zX hE h (F i o W M) al;have pl:=St.put_fields (gr m D listed s) o.dst v;have aj:∀ {γ':Nat->Option Nat} {β':Nat->Option (Nat×Nat)},(∀ z:Nat,o.dst≠some (z-(gr m D listed s).base)\/z<(gr m D listed s).base->γ' z=γ z/\β' z=β z)->∀ j b,ops[j]?=some b->(listed.setIfInBounds i true).getD j true=false->Fr E (gr m D (listed.setIfInBounds i true) (s.put o.dst v)) γ' β' b:=λhk j b Y hu=>by
    obtain⟨u,H⟩:=ai j hu;rw[<-el];exact(F j b Y H).keep (λd C=>hd i j o b u W Y d C) pl.2.1 (λz _ _=>by rw[pl.1]) hk
   unfold wpOpIn;rw[W];simp only;split
   ·rename_i hw;refine(bu (k1 hw) λu' w' ⟨S',γ',β',m1,m2,m3⟩=>?_);exact nU hE hm k hp c hD hd J hL f _ _ S' γ' β' _ _ (el ▸ m1) (hF.trans m2 O.lkS O.lkO) (I.trans (Sm.put s o.dst v)) (pf.2.2.1.trans B) (aj m3) l
   ·rename_i hw;obtain⟨m1,m2⟩:=k2 (by simpa using hw)
    refine⟨λ_ _=>trivial,?_⟩;exact nU hE hm k hp c hD hd J hL f _ _ S γ β _ _ (el ▸ m1) (hF.trans m2 O.lkS O.lkO) (I.trans (Sm.put s o.dst v)) (pf.2.2.1.trans B) (aj λid _=>⟨rfl,rfl⟩) l
def wH(hE:EnvOk P E){id:Nat}{n m:Nat}{Q:Exit->Act->World->Prop}{S:Nat->Nat->Prop}{γ:Nat->Option Nat}{β:Nat->Option (Nat×Nat)}{s:St}{a:Act}{w:World}{R:Type}{k:St->Option R}{r:R}{N:Nat}
  (h:Rp w0 S γ β s a w) (hf:E3 E s γ β ops.toList) (X:cg ops.toList=true) (f:Am E ops n m=true) {an:Ann}
  (T:NG E ops m n 0 s (λs2=>fj E N R ops an ((aR 0 ops.toList).drop n) { s2 with dead:=mK s2 (E5 ops m) } k)=some r)
  (hQ:∀ s' S' γ' β' a' w',Rp w0 S' γ' β' s' a' w'->Fm s S γ a w S' γ' a' w'->Sk s s'->k s'=some r->Q .normal a' w'):(Code.region id ops true).wpIn (FW ro) nn P Q a w:=by
 simp only[cg,zaa] at X;obtain⟨⟨W,bi⟩,a4⟩:=X;have z:(ops.toList.all λo=>match o.op with|.store ..=>o.dst.isNone|_=>true)=true:=a4
 unfold Am at f;split at f<;>first|(cases f;done)|skip
 rename_i oa L;split at f<;>first|(cases f;done)|skip
 rename_i c Y;split at f<;>first|(cases f;done)|skip
 rename_i p y I q;simp only[zaa,decide_eq_true_eq] at f;obtain⟨⟨⟨⟨⟨⟨l1,l2⟩,l3⟩,l4⟩,l5⟩,l6⟩,l7⟩:=f;have heads:∀ j,j<n->∃ o,ops[j]?=some o/\o.guard=none:=λj x=>by
  have:=zma.1 l3 j (zLa.2 x);split at this<;>first|(cases this;done)|skip
  rename_i o u;simp only[zaa] at this;exact⟨o,u,by simpa using this.1.2⟩
 have hn:n<=ops.size:=by
  rcases zla ops.size n with c|c
  ·obtain⟨o,u,_⟩:=heads ops.size c;have:=(zga.1 u).1;omega
  ·exact c
 obtain⟨dst,op,ty,pos,after,guard⟩:=oa;have al:guard=none:=by
  obtain⟨o,u,K⟩:=heads m l1;rw[L] at u;cases u;exact K
 subst al;obtain⟨callee,args,argTypes⟩:=c;simp only at Y I q;subst Y;subst I;have Z:E5 ops m=p:=by unfold E5;rw[L];simp only[q]
 rw[Z] at T;have hp:∀ (j:Nat) (l:Oper),ops[j]?=some l->l.dst=some p->Region.waitsFor .any ops m j=true:=λj l x e=>by
  have J:=(zga.1 x).1;have:=zma.1 l2 j (zLa.2 J);rw[x,zba,e] at this;simpa using this
 have G:∀ (j:Nat) (l:Oper),j<n->ops[j]?=some l->l.guard=none:=λj l a1 x=>by
  obtain⟨o,u,K⟩:=heads j a1;rw[x] at u;cases u;exact K
 obtain⟨sF,q1,q2⟩:=yY n 0 s T;have keep:∀ (c kk:Nat) (s s':St),jO (B5 E ops m) ops c kk s=some s'->s'.dead=s.dead/\Sm s s':=by
  intro c
  induction c with
  | zero=>intro kk s s' hs;simp only[jO,zda] at hs;subst hs;exact⟨rfl,Sm.refl s⟩
  | succ c ih=>
   intro kk s s' hs;simp only[jO] at hs;obtain⟨v,h1,h2⟩:=bind_some_inv hs;obtain⟨m2,m3⟩:=ih _ _ _ h2;have pf:=St.put_fields s ((ops[kk]?).bind (·.dst)) v;exact⟨m2.trans pf.2.2.1,(Sm.put s _ v).trans m3⟩
 obtain⟨c2,c3⟩:=keep n 0 s sF q1;have hD:∀ s2:St,s2.tm p=sF.tm p->s2.dead=s.dead->mK s2 p=mK sF p:=λs2 e1 e2=>by
  unfold mK;rw[e1,e2,c2]
 generalize mK sF p=D at q2 hD;have hW:mq .any ops n:=by
  intro listed i inv aI a6 t ht hr;simp only[zHb,decide_eq_true_eq,zaa] at l7;rcases l7 with l7|⟨⟨l7,l8⟩,l9⟩
  ·obtain⟨_,o,u,_⟩:=mem_ready.1 hr;have:=(zga.1 u).1;omega
  ·exact tail_waits l8 l9 l7 inv _ i rfl aI a6 t ht hr
 refine wpIn_region_any hE.mixed ?_;have K:∃ os d,w.drawn<=d/\({ w with drawn:=w.drawn+1 }:World)=grown w os d:=⟨[],w.drawn+1,zAc _,by simp[grown]⟩
 obtain⟨os,d,ak,K⟩:=K;obtain⟨g1,g2⟩:=h.grow (os:=os) (d:=d) ak (S':=S) (λ_ _ C=>C) (λ_ _ C=>.inl C);rw[K];have aj:HeadInv .any ops n (Array.replicate ops.size false):=
  ⟨by simp,λj l _ hl=>(by rw[getD_replicate_false] at hl;cases hl),λt _ ht=>getD_in (by simpa using ht) (getD_replicate_false _ _)⟩
 have H:=rH (sF:=sF) (Nd (E:=E) (ops:=ops) m) hn hW n 0 (Array.replicate ops.size false) s (by omega) aj (λi hi=>by omega) l6 q1
 have e0:gr m D (Array.replicate ops.size false) s=s:=by unfold gr;rw[getD_replicate_false];rfl
 have O:(ops.toList.drop n).length=ops.size-n:=by simp
 have M:∀ j l,ops[j]?=some l->(Array.replicate ops.size false).getD j true=false->Fr E (gr m D (Array.replicate ops.size false) s) γ β l:=λj l x _=>by
  rw[e0];exact hf l (zVb.2 (zec x))
 have:=nU (ro:=ro) (nn:=nn) (w0:=w0) (Q:=Q) (g:=ops.size-n) (s0:=s) (S0:=S) (γ0:=γ) (a0:=a) (w1:=grown w os d) (tp:=sF.tm p) hE L q hp G hD (λi j oi l ax hi x d hd=>ic W ax (by rw[zBa];exact hi) (by rw[zBa];exact x) d hd)
  (λlisted s2 hL=>by
   obtain⟨_,hl,rfl⟩:=hL;exact⟨rfl,hl m l1⟩)
  (λlisted s2 S2 γ2 β2 a2 w2 m1 m2 m3 m4 m5=>by
   obtain⟨m5,m6,m7⟩:=m5;subst m7;have ad:=gB (F:=FW ro) (n:=nn) (P:=P) (md:=.any) (ops:=ops) (Q':=Q) (ops.toList.drop n) n listed a2 w2 (λj=>by rw[zmb,zBa]) (by rw[O];exact m5) ?_
   ·rwa [O] at ad
   have ai:∀ j l,ops[j]?=some l->n<=j->listed.getD j true=false:=by
    intro j l x a5;have key:∀ (g k:Nat) (listed:Array Bool),Region.seqB .any ops g k listed=true->∀ j,k<=j->j<k+g->listed.getD j true=false:=by
     intro g
     induction g with
     | zero=>intro k listed _ j h1 h2;omega
     | succ g ih=>
      intro k listed hB j h1 h2;simp only[Region.seqB,zaa,decide_eq_true_eq] at hB;by_cases V:j=k
      ·subst V;have:j∈Region.ready .any ops listed:=by rw[hB.1];simp
       exact(mem_ready.1 this).1
      ·have:=ih (k+1) _ hB.2 j (by omega) (by omega)
       rwa [getD_set_ne true (Ne.symm V)] at this
    have J:=(zga.1 x).1;exact key _ _ _ m5 j a5 (by omega)
   have fin:=uH (ro:=ro) (nn:=nn) (ops:=ops) hE (Q:=Q) z N R ((aR 0 ops.toList).drop n) k r an m1 (by
     rw[zjc,ba];intro o u;obtain⟨i,hi,he⟩:=zQa u;have U:ops[n+i]?=some o:=by
      have:(ops.toList.drop n)[i]?=some o:=by rw[zca hi,he]
      rwa [zmb,zBa] at this
     exact m4 (n+i) o U (ai _ _ U (by omega)))
    (by
     rw[zjc,ba];intro A B o o' e u d hd;exact eY W (ops.toList.take n++A) B o o' (by rw[zIa,<-e,zqa]) u d hd)
    (λp hp=>jx (zUb hp)) q2 (λs3 S3 γ3 β3 a3 w3 n1 n2 n3 n4=>by
     have a9:Sm s2 ({ s2 with dead:=D }:St):=⟨rfl,rfl,rfl,rfl⟩;refine hQ s3 S3 γ3 β3 a3 w3 n1 ?_ (Sk.trans (m3.trans a9).sk n3) n4;have f0:Fm s S γ a w S γ a (grown w os d):=⟨λ_ _ C=>C,g2.cell,λ_ _=>rfl,λid hid b C=>⟨C,.inl (cT (h.γn id b C).2)⟩,by simp,λ_ _ C=>C,kY.same rfl dq.grown⟩
     exact(f0.trans m2 rfl rfl).trans n2 (show _=_ from m3.lkS) (show _=_ from m3.lkO))
   rwa [zjc,ba] at fin)
  n (Array.replicate ops.size false) s S γ β a (grown w os d) (by rw[e0];exact g1) (Fm.refl _ _ _ _ _) (Sm.refl s) rfl M H
 rw[show n+(ops.size-n)=ops.size by omega] at this
 exact this
end
end Sy
end
noncomputable section
namespace Sy
open Go
variable{ro:Option Nat}{nn:Nat}
section
variable{ops:Array Oper}
theorem nT:∀ n,(wc ops n).length=n
 | 0=>rfl
 | n+1=>by simp[wc,nT n]
def sB(ops:Array Oper)(t:Nat):Nat:=match ops[t]? with
 | some o=>o.after.toList.foldl (λm e=>if Region.binds .any e&&decide (e.on<t) then(m ||| 2^e.on) ||| (wc ops t).getD e.on 0 else m) 0
 | none=>0
theorem nS{t:Nat}:∀ {n:Nat},t<n->(wc ops n).getD t 0=sB ops t
 | 0,h=>by omega
 | n+1,h=>by
  show(wc ops n++[sB ops n]).getD t 0=_;by_cases e:t=n
  ·subst e;rw[z1a,zEb (by rw[nT];exact zfa _),nT,zid]
   rfl
  ·rw[z1a,zkb (by rw[nT];omega),<-z1a]
   exact nS (by omega)
theorem xm{t i:Nat}{l:List Nat}:∀ (es:List Edge) (m:Nat),Nat.testBit (es.foldl (λm e=>if Region.binds .any e&&decide (e.on<t) then(m ||| 2^e.on) ||| l.getD e.on 0 else m) m) i=true ->
  Nat.testBit m i=true\/∃ e∈es,Region.binds .any e=true/\e.on<t/\(e.on=i\/Nat.testBit (l.getD e.on 0) i=true)
 | [],m,h=>.inl h
 | e::es,m,h=>by
  simp only[zxc] at h;rcases xm es _ h with k|⟨a,h1,b⟩
  ·grind
  ·grind
def lQ{listed:Array Bool}(c:∀ j b,ops[j]?=some b->listed.getD j false=true->∀ e∈b.after,Region.binds .any e=true->listed.getD e.on false=true) :
  ∀ (t:Nat) (o:Oper),ops[t]?=some o->(∀ e∈o.after,Region.binds .any e=true->listed.getD e.on false=true)->∀ i,Nat.testBit (sB ops t) i=true->listed.getD i false=true:=by
 intro t
 induction t using Nat.strongRecOn with
 | _ t ih=>
  intro o d l i a;unfold sB at a;rw[d] at a;simp only at a;rcases xm _ _ a with k|⟨e,h1,f,g,h⟩
  ·simp at k
  ·grind [nS]
end
section
variable{E:Env}{ops:Array Oper}
theorem oC{i:Nat}{o:Oper}:∀ (f a:Nat),mY E ops i o f a=true->∀ j b,a<=j->j<a+f->(∀ q c,a<=q->q<=j->ops[q]?=some c->ko E c=true)->ops[j]?=some b->(∀ e∈b.after,Region.binds .any e=true->e.on≠i)->o.apart ops b=true
 | 0,a,_,j,b,h1,k,_,_,_=>by omega
 | f+1,a,h,j,b,h1,k,g,l,m=>by
  have d:a<ops.size:=by grind
  have h0:=zKb d;simp only[mY,h0] at h;rw[if_pos (g a _ (zfa _) h1 h0)] at h;simp only[zaa,zHb] at h;by_cases e:j=a
  ·grind
  ·exact oC f (a+1) h.2 j b (by omega) (by omega) (λq c p n=>g q c (by omega) n) l m
def kM(h:iG E ops=true){i:Nat}{o:Oper}(f:ops[i]?=some o) :
  (∀ e∈o.after,Region.binds .any e=true->e.on<i)/\(ko E o=true->mY E ops i o ops.size (i+1)=true) ∧
  (ko E o=false->(∀ j,j<i->Nat.testBit (sB ops i) j=true)/\∀ j,i<j->j<ops.size->Nat.testBit (sB ops j) i=true):=by
 have c:=(zga.1 f).1;simp only[iG,zma,zLa] at h;have h1:=h i c;rw[f] at h1;simp only[zaa,zma,zHb,zCa,decide_eq_true_eq] at h1;refine⟨λe he g=>?_,λhc=>?_,λhc=>⟨λj d=>?_,λj d b=>?_⟩⟩
 ·rcases h1.1 e (by simpa using he) with k|k
  ·rw[g] at k;cases k
  ·exact k
 ·have:=h1.2;rw[if_pos hc] at this;exact this
 ·have:=h1.2;rw[if_neg (by simp[hc])] at this
  simp only[zma,zLa] at this;have a:=this j (by omega)
  rw[if_pos d,nS c] at a;exact a
 ·have:=h1.2;rw[if_neg (by simp[hc])] at this
  simp only[zma,zLa] at this;have a:=this j b;rw[if_neg (by omega),nS b] at a
  simp only[zHb,decide_eq_true_eq] at a;rcases a with a|a
  ·omega
  ·exact a
structure Full(ops:Array Oper)(k:Nat)(listed:Array Bool):Prop where
 size:listed.size=ops.size
 done:∀ j,j<k->j<ops.size->listed.getD j false=true
 rest:∀ j,k<=j->j<ops.size->listed.getD j true=false
def Full.set{k:Nat}{listed:Array Bool}(h:Full ops k listed)(hk:k<ops.size):Full ops (k+1) (listed.setIfInBounds k true):=by
 refine⟨by simp[h.size],λj b a=>?_,λj b a=>?_⟩
 ·by_cases e:j=k
  ·simp_all [h.size]
  ·exact getD_set_true (h.done j (by omega) a)
 ·rw[getD_set_ne true (by omega)];exact h.rest j (by omega) a
def Full.inv{k n:Nat}{listed:Array Bool}(f:iG E ops=true)(h:Full ops k listed)(d:k<=n):HeadInv .any ops n listed:=by
 refine⟨h.size,λj i b hl e he c=>?_,λt g a=>h.rest t (by omega) a⟩
 have a:=(zga.1 b).1;have h1:=(kM f b).1 e he c;rcases zla j k with hk|hk
 ·exact h.done e.on (by omega) (by omega)
 ·have:=getD_both (h.rest j hk a)
  simp_all
theorem Full.ready{k:Nat}{listed:Array Bool}(b:iG E ops=true)(h:Full ops k listed)(hk:k<ops.size):k∈Region.ready .any ops listed:=
 mem_ready.2 ⟨h.rest k (zfa _) hk,_,zKb hk,λe he a=>by
  have:=(kM b (zKb hk)).1 e he a;exact h.done e.on this (by omega)⟩
def Full.later{k:Nat}{listed:Array Bool}(h:Full ops k listed):∀ j∈Region.ready .any ops listed,k<=j:=by
 intro j b;obtain⟨d,o,c,_⟩:=mem_ready.1 b;have a:=(zga.1 c).1;rcases zla j k with hk|hk
 ·have:=h.done j hk a;grind
 ·exact hk
def Gt(l:iG E ops=true){n:Nat}{o:Oper}(j:ops[n]?=some o)(hc:ko E o=false):mq .any ops n:=by
 intro listed i inv d m t q f;have hn:=(zga.1 j).1;obtain⟨_,k,b,a⟩:=mem_ready.1 f;have c:=(zga.1 b).1;have g:=(kM l j).2.2 hc;rcases zla n t with h|h
 ·have h1:=lQ inv.closed t k b a n (g.2 t h c);have p:=inv.tail n (zfa _) hn;grind
 ·have e:t=n:=by omega
  subst e;have h1:=lQ inv.closed t k b a i (g.1 i d);grind
def Gu:mq .any ops ops.size:=λlisted i _ _ _ t c a=>by
 obtain⟨_,d,b,_⟩:=mem_ready.1 a
 simp_all
def ID(f:iG E ops=true){k:Nat}{o:Oper}{listed:Array Bool}(h:Full ops k listed)(g:ops[k]?=some o)(hc:ko E o=false):∀ j∈Region.ready .any ops listed,j=k:=by
 intro j e;have h1:=h.later j e;obtain⟨_,i,b,a⟩:=mem_ready.1 e;have c:=(zga.1 b).1;rcases zla k j with d|d
 ·exfalso;have l:=lQ (h.inv f (zfa _)).closed j i b a k (((kM f g).2.2 hc).2 j d c);have m:=h.rest k (zfa _) (by omega)
  grind
 ·omega
def jz(E:Env)(ops:Array Oper):Nat->Nat->Nat
 | 0,k=>k
 | f+1,k=>match ops[k]? with
  | some o=>if ko E o then jz E ops f (k+1) else k
  | none=>k
theorem s9:∀ (f k:Nat),k+f=ops.size->k<=jz E ops f k/\jz E ops f k<=ops.size/\(∀ j a,k<=j->j<jz E ops f k->ops[j]?=some a->ko E a=true)/\(jz E ops f k=ops.size\/∃ o,ops[jz E ops f k]?=some o/\ko E o=false)
 | 0,k,h=>⟨zfa _,by simp only[jz];omega,λj a h1 b=>by simp only[jz] at b;omega,.inl (by simpa [jz] using h)⟩
 | f+1,k,h=>by
  have hk:k<ops.size:=by omega
  have h0:=zKb hk;simp only[jz,h0];split
  ·rename_i hc;obtain⟨c,d,e,g⟩:=s9 f (k+1) (by omega)
   all_goals grind
  ·grind
theorem AX(m:iG E ops=true){n:Nat}{L:Array Bool->St->Prop}(u:mq .any ops n)(b:∀ listed s,L listed s->∀ j∈Region.ready .any ops listed,n<=j)(hn:n<=ops.size) :
  ∀ (l:List Oper) (k:Nat) (listed:Array Bool) (s s':St),(∀ j,j<l.length->l[j]?=ops[k+j]?)->k+l.length=n->Full ops k listed->(∀ j f,k<=j->j<n->ops[j]?=some f->ko E f=true) ->
  seqV E ops l s=some s'->(∀ a,Full ops n a->L a s')->Fs E .any ops n L l.length listed s
 | [],k,listed,s,s',_,hk,e,_,h,hL=>by
  have:k=n:=by simpa using hk
  subst this;simp only[seqV,zda] at h;subst h;exact hL listed e
 | o::l,k,listed,s,s',hl,hk,e,c,h,hL=>by
  have h0:ops[k]?=some o:=by simpa using(hl 0 (by simp)).symm
  have d:k<n:=by grind
  have i:k<ops.size:=by omega
  simp only[seqV] at h;obtain⟨v,h1,w⟩:=bind_some_inv h;refine uQ h0 u d b l.length listed s (e.inv m (ztc d)) (λj f x p z A r=>?_) (e.ready m i) h1
   (AX m u b hn l (k+1) _ _ s' (λj p=>by have:=hl (j+1) (by simp;omega);simpa [zGb,zJc 1 j] using this) (by simp only[zKa] at hk;omega) (e.set i) (λj f h1=>c j f (by omega)) w hL)
  have g:=(zga.1 p).1;have y:k<j:=by
   rcases zla j k with t|t
   ·have:=e.done j t g;grind
   ·omega
  exact oC ops.size (k+1) ((kM m h0).2.1 (c k o (zfa _) d h0)) j f (by omega) (by omega) (λq B C D=>c q B (by omega) (by omega)) p r
end
section
variable{P:Program}{E:Env}{w0:Root}{ops:Array Oper}
def HO(H:EnvOk P E){N:Nat}{R:Type}{i:Nat}{o:Oper}{l:List (Nat×Oper)}{S:Nat->Nat->Prop}{γ:Nat->Option Nat}{β:Nat->Option (Nat×Nat)}{s:St}{a:Act}{w:World}{k:St->Option R}{r:R}{an:Ann}
  (h:Rp w0 S γ β s a w) (O:∀ T x y,o.op=.store T x y->o.dst=none) (V:Fr E s γ β o) (C:E3 E s γ β (l.map Prod.snd)) (U:∀ o'∈l.map Prod.snd,∀ d,o'.dst=some d->o.dst≠some d) (M:o.guard=none->m8 E s i o l=false)
  (b:fj E (N+1) R ops an ((i,o)::l) s k=some r) {next:Act->World->Prop} {Q:Exit->Act->World->Prop}
  (hk:∀ u I s' S' γ' β' w',fj E N R ops I l s' k=some r->Rp w0 S' γ' β' s' (a.put o.dst u) w'->Fm s S γ a w S' γ' (a.put o.dst u) w'->Sk s s'->E3 E s' γ' β' (l.map Prod.snd)->next (a.put o.dst u) w') :
  if Region.wanted o (yielded ops a.tmps) then o.wpIn (FW ro) nn P a w next Q else(∀ f,o.about P w a.eval=some f->(FW ro).fn f)/\next (a.put o.dst undef) w:=by
 have run:¬ kF s o=true->Cz E an l s o (λs'=>fj E N R ops (tU E o an) l s' k)=some r->o.wpIn (FW ro) nn P a w next Q:=by
  intro q he;have m:∀ t∈s.lkS,o.dst≠some t:=λt D e=>q (by simp[kF,e];exact D)
  unfold Cz at he;split at he
  ·split at he;rename_i J;refine yX (K:=λs1=>fj E N R ops (tU E o an) l s1 k) H h m he λu s' S' γ' β' w' m0 m1 m2 m3=>?_;exact hk u _ s' S' γ' β' w' m0 m1 m2 m3 λo' n=>by
    obtain⟨p,hp,rfl⟩:=zXa.1 n;have:=zma.1 J p hp;exact Dz (by simpa using this)
   split at he<;>first|(cases he;done)|skip
   rename_i L;refine yX (K:=λs1=>fj E N R ops (tU E o an) l (yF s1) k) H h m he λu s' S' γ' β' w' m0 m1 m2 m3=>?_;exact hk u _ (yF s') S' γ' β' w' m0 m1.later m2 ⟨m3.lkS,m3.lkO,m3.nt⟩ (DM m1 L C)
  obtain⟨s',h1,z⟩:=yW H h V (λT t _ D=>H.flat T t D) m O he;obtain⟨f1,f2,f3,f4,f5,f6⟩:=z;refine bu f6 λu w' ⟨S',γ',β',m1,m2,m3⟩=>?_;exact hk u _ s' S' γ' β' w' h1 m1 m2 ⟨f1,f2,f4⟩ λo' n=>(C o' n).keep (U o' n) f3 f5 m3
 obtain⟨w1,X,Y⟩:=sC (ops:=ops) (o:=o) h;cases hg:o.guard with
 | some W=>
  obtain⟨j,want⟩:=W;simp only[fj,hg] at b;split at b<;>first|(cases b;done)|skip
  rename_i g G;split at b<;>first|(cases b;done)|skip
  rename_i q;have m:∀ t∈s.lkS,o.dst≠some t:=λt D e=>q (by simp[kF,e];exact D)
  have p:=St.put_fields s o.dst .gone;have alt:(Region.wanted o (yielded ops a.tmps)=true/\(Cz E an l s o λs'=>fj E N R ops (tU E o an) l s' k)=some r)\/(Region.wanted o (yielded ops a.tmps)=false/\fj E N R ops (tU E o an) l (s.put o.dst .gone) k=some r):=by
   by_cases hgo:s.tm g=.gone
   ·rw[hgo,fY] at b;exact .inr ⟨Y j want g hg G hgo,b⟩
   rw[fZ hgo] at b;obtain⟨c,h1,z⟩:=bind_some_inv b;replace z:=mG (A:=λs=>Cz E an l s o λs'=>fj E N R ops (tU E o an) l s' k) (B:=λs=>fj E N R ops (tU E o an) l (s.put o.dst .gone) k) h1 z;have hw:=X j want g c hg G h1;split at z
   ·rename_i hc;exact .inl ⟨by rw[hw];exact hc,z⟩
   ·rename_i hc;exact .inr ⟨by rw[hw];simpa using hc,z⟩
  rcases alt with⟨hw,z⟩|⟨hw,z⟩
  ·rw[if_pos hw];exact run q z
  ·rw[if_neg (by simp[hw])]
   refine⟨λ_ _=>trivial,?_⟩;exact hk undef _ _ S γ β w z (h.put (v:=.gone) (val:=undef) (by simp[AR]) o.dst) ⟨λ_ _ F=>F,λ_ _ _=>rfl,λt D=>ci (m t D),λ_ _ _ F=>⟨F,jL.refl _ _⟩,zfa _,λ_ _ F=>F,kY.same bJ (dq.refl _)⟩ (Sm.put s o.dst .gone).sk
    λo' n=>(C o' n).keep (U o' n) p.2.1 (λid _ _=>by rw[p.1]) λid _=>⟨rfl,rfl⟩
 | none=>
  rw[if_pos (w1 hg)];simp only[fj,hg,M hg,zxa,if_false] at b;split at b<;>first|(cases b;done)|skip
  rename_i q;exact run q b
theorem mP:∀ (l:List Oper) (i m:Nat),(aR i l).drop m=aR (i+m) (l.drop m)
 | l,i,0=>by simp
 | [],i,m+1=>by simp[aR]
 | o::l,i,m+1=>by
  simp only[aR,zYc];rw[mP l (i+1) m,show i+1+m=i+(m+1) by omega]
def tC{l:List Oper}{i m:Nat}{p:Nat×Oper}(h:p∈(aR i l).take m):∃ j,j<m/\l[j]?=some p.2:=by
 obtain⟨j,c,he⟩:=zQa h;have h1:((aR i l).take m)[j]?=some p:=by grind
 have a:j<m:=by grind
 rw[zBb a] at h1;have b:((aR i l).map Prod.snd)[j]?=some p.2:=by rw[z7a,h1];rfl
 grind [ba]
def Ge(hE:EnvOk P E)(hr:iG E ops=true)(ad:dI (ops.toList.filterMap (·.dst))=true)(a5:∀ o∈ops.toList,∀ T x y,o.op=.store T x y->o.dst=none){Q:Exit->Act->World->Prop}{R:Type}{k:St->Option R}{r:R} :
  ∀ (g:Nat) (b:Nat) (listed:Array Bool) (N:Nat) (an:Ann) {S:Nat->Nat->Prop} {γ:Nat->Option Nat} {β:Nat->Option (Nat×Nat)} {s:St} {a:Act} {w:World},b+g=ops.size->Full ops b listed->Rp w0 S γ β s a w ->
   (∀ j G,ops[j]?=some G->b<=j->Fr E s γ β G)->fj E N R ops an (aR b (ops.toList.drop b)) s k=some r ->
   (∀ s' S' γ' β' a' w',Rp w0 S' γ' β' s' a' w'->Fm s S γ a w S' γ' a' w'->Sk s s'->k s'=some r->Q .normal a' w')->wpAnyIn (FW ro) nn P .any ops Q g listed a w:=by
 intro g
 induction g using Nat.strongRecOn with
 | _ g ih=>
 intro b listed N an S γ β s a w aI U h X e hQ;cases g with
 | zero=>
  have hk:b=ops.size:=by omega
  subst hk;rw[zsc (by simp)] at e
  cases N with
  | zero=>simp[fj] at e
  | succ N=>
   simp only[aR,fj] at e;refine⟨?_,hQ s S γ β a w h (Fm.refl _ _ _ _ _) (Sk.refl s) e⟩;cases hrd:Region.ready .any ops listed with
   | nil=>rfl
   | cons j l=>
    exfalso;have f:j∈Region.ready .any ops listed:=by rw[hrd];simp
    have h1:=U.later j f;obtain⟨_,o,K,_⟩:=mem_ready.1 f
    simp_all
 | succ g=>
 have C:b<ops.size:=by omega
 have K:=zKb C;obtain⟨o,ai⟩:∃ o,o=ops[b]:=⟨_,rfl⟩;rw[<-ai] at K;clear ai;have al:ops.toList.drop b=o::ops.toList.drop (b+1):=by
  have a1:b<ops.toList.length:=by simpa using C
  rw[zAb a1]
  simp_all
 cases hc:ko E o with
 | false=>
  refine⟨λh0=>(by have:=U.ready hr C;rw[h0] at this;cases this),λi hi=>?_⟩
  have ax:=ID hr U K hc i hi;subst ax;unfold wpOpIn;rw[K];simp only;rw[al] at e;simp only[aR] at e;cases N with
  | zero=>simp[fj] at e
  | succ N=>
  have J:(aR (i+1) (ops.toList.drop (i+1))).map Prod.snd=ops.toList.drop (i+1):=ba _ _;have Y:∀ o'∈ops.toList.drop (i+1),∃ j,i<j/\ops[j]?=some o':=λo' v=>by
   obtain⟨j,f,he⟩:=zQa v;refine⟨i+1+j,by omega,?_⟩
   grind
  refine HO hE h (a5 o (zVb.2 (zec K))) (X i o K (zfa _)) (λo' v=>?_) (λo' v d W=>?_) (λ_=>?_) e λu aj s' S' γ' β' w' m0 m1 m2 m3 m4=>?_
  ·grind
  ·rw[J] at v;obtain⟨j,f,D⟩:=Y o' v;exact ic ad (show i≠j by omega) (by rw[zBa];exact K) (by rw[zBa];exact D) d W
  ·cases hsg:m8 E s i o (aR (i+1) (ops.toList.drop (i+1))) with
   | false=>rfl
   | true=>
    exfalso;simp only[m8,zaa] at hsg;have I:=hsg.2;split at I<;>first|(cases I;done)|skip
    simp only[zaa,zCa] at I;have h3:ko E o=true:=by simp[ko,I.1.1.1.2,I.1.1.2]
    rw[h3] at hc;cases hc
  ·refine ih g (zxd _) (i+1) _ N aj (by omega) (U.set C) m1 (λj G f Z=>m4 G ?_) m0 λs2 S2 γ2 β2 a2 w2 n1 n2 n3 n4=>hQ s2 S2 γ2 β2 a2 w2 n1 (m2.trans n2 m3.lkS m3.lkO) (m3.trans n3) n4
   rw[J];refine z4a (i:=j-(i+1)) ?_;rw[zmb,zBa,show i+1+(j-(i+1))=j by omega]
   exact f
 | true=>
  obtain⟨m,hm⟩:∃ m,m=jz E ops (g+1) b:=⟨_,rfl⟩;obtain⟨e1,e2,e3,A⟩:=s9 (E:=E) (ops:=ops) (g+1) b aI;rw[<-hm] at e1 e2 e3 A;have bi:b<m:=by
   rcases zla b m with q|q
   ·exact q
   ·exfalso;have:m=b:=by omega
    rw[this] at A;rcases A with A|⟨o',O,z⟩
    ·omega
    ·rw[K] at O;cases O;rw[hc] at z;cases z
  have hW:mq .any ops m:=by
   rcases A with A|⟨o',O,z⟩
   ·rw[A];exact Gu
   ·exact Gt hr O z
  have hlen:(aR b (ops.toList.drop b)).length=ops.size-b:=by rw[gZ];simp
  have B:∀ o',ko E o'=true->gN o'=true/\kA E o'=false:=λo' V=>by
   simp only[ko,zaa,zCa] at V;exact V
  obtain⟨s',bj,N',O,z,q3⟩:=uG N R (aR b (ops.toList.drop b)) s k r (m-b) an (by rw[hlen];omega) (λp hp=>by
    obtain⟨j,f,D⟩:=tC hp;rw[zmb,zBa] at D;exact B _ (e3 (b+j) p.2 (by omega) (by omega) D)) (.inr λp q F=>by
    rw[mP,zGd,show b+(m-b)=m by omega] at F
    rcases A with A|⟨o',z1,z2⟩
    ·rw[A,zsc (by simp)] at F
     simp[aR] at F
    ·have a9:=(zga.1 z1).1;have:p.2=o':=by
      have h1:(aR m (ops.toList.drop m)).map Prod.snd=ops.toList.drop m:=ba _ _;rw[F] at h1;have I:(ops.toList.drop m)[0]?=some p.2:=by rw[<-h1];rfl
      rw[zmb,zBa,z6b,z1] at I;exact(zzd I).symm
     rw[this];exact z2) e
  rw[mP,zGd,show b+(m-b)=m by omega] at q3
  rw[List.map_take,ba] at O;have M:((ops.toList.drop b).take (m-b)).length=m-b:=by simp;omega
  have H:=AX (E:=E) hr (n:=m) (L:=λc s2=>Full ops m c/\s2=s') hW (λc s2 hL=>hL.1.later) e2 ((ops.toList.drop b).take (m-b)) b listed s s' (λj f=>by
   rw[M] at f;rw[zBb f,zmb,zBa]) (by rw[M];omega) U e3 O (λc ak=>⟨ak,rfl⟩)
  have:=g9 (ro:=ro) (nn:=nn) (Q:=Q) (g:=ops.size-m) hE (s0:=s) (S0:=S) (γ0:=γ) (a0:=a) (w1:=w) (λi j oi G Z hi f d W=>ic ad Z (by rw[zBa];exact hi) (by rw[zBa];exact f) d W)
   (λc s2 S2 γ2 β2 a2 w2 m1 m2 m3 m4 m5=>by
    obtain⟨m5,m6⟩:=m5;subst m6;refine ih (ops.size-m) (by omega) m c N' an (by omega) m5 (m1.wk z) (λj G f a4=>?_) q3 λs3 S3 γ3 β3 a3 w3 n1 n2 n3 n4=>hQ s3 S3 γ3 β3 a3 w3 n1 (m2.trans n2 (z.lkS.trans m3.lkS) (z.lkO.trans m3.lkO)) ((m3.trans (Sm.wk z)).sk.trans n3) n4
    have t:=(zga.1 f).1;have:=m4 j G f (m5.rest j a4 t);intro hc d W;obtain⟨r1,r2,r3,r4⟩:=this hc d W;rw[z.base_eq,z.ob];exact⟨r1,r2,r3,r4⟩)
   ((ops.toList.drop b).take (m-b)).length listed s S γ β a w h (Fm.refl _ _ _ _ _) (Sm.refl s) (λj G f a6=>by
    have t:=(zga.1 f).1;refine X j G f ?_;rcases zla j b with q|q
    ·have:=U.done j q t;rw[getD_both a6] at this;cases this
    ·exact q) H
  rw[M,show m-b+(ops.size-m)=g+1 by omega] at this
  exact this
def vA(p:EnvOk P E){id:Nat}{Q:Exit->Act->World->Prop}{S:Nat->Nat->Prop}{γ:Nat->Option Nat}{β:Nat->Option (Nat×Nat)}{s:St}{a:Act}{w:World}{R:Type}{k:St->Option R}{r:R}{N:Nat}
  (h:Rp w0 S γ β s a w) (t:E3 E s γ β ops.toList) (hm:cg ops.toList=true) (z:iG E ops=true) {an:Ann} (i:fj E N R ops an (aR 0 ops.toList) s k=some r)
  (q:∀ s' S' γ' β' a' w',Rp w0 S' γ' β' s' a' w'->Fm s S γ a w S' γ' a' w'->Sk s s'->k s'=some r->Q .normal a' w'):(Code.region id ops true).wpIn (FW ro) nn P Q a w:=by
 simp only[cg,zaa] at hm;obtain⟨⟨l,_⟩,m⟩:=hm;have c:∀ o∈ops.toList,∀ T x y,o.op=.store T x y->o.dst=none:=λo v T x y e=>by
  have:=zma.1 m o v;rw[e] at this;simpa using this
 refine wpIn_region_any p.mixed ?_;have u:({ w with drawn:=w.drawn+1 }:World)=grown w [] (w.drawn+1):=by simp[grown]
 obtain⟨g1,g2⟩:=h.grow (os:=[]) (d:=w.drawn+1) (zAc _) (S':=S) (λ_ _ f=>f) (λ_ _ f=>.inl f);rw[u];have f0:Fm s S γ a w S γ a (grown w [] (w.drawn+1)):=⟨λ_ _ f=>f,g2.cell,λ_ _=>rfl,λid hid b f=>⟨f,.inl (cT (h.γn id b f).2)⟩,by simp,λ_ _ f=>f,kY.same rfl dq.grown⟩
 refine Ge (ro:=ro) (nn:=nn) p z l c ops.size 0 _ N an (by omega) ⟨by simp,λj g=>by omega,λj _ g=>getD_in (by simpa using g) (getD_replicate_false _ _)⟩ g1 (λj F g _=>t F (zVb.2 (zec g))) (by simpa using i) λs' S' γ' β' a' w' A B C D=>q s' S' γ' β' a' w' A (f0.trans B rfl rfl) C D
end
end Sy
end
noncomputable section
namespace Sy
open Go
variable{ro:Option Nat}{nn:Nat}
section
variable{P:Program}{E:Env}{w0:Root}
def xi{id:Nat}{ops:Array Oper}{dr:Bool}{ann:Ann}{R:Type}{s s1:St}(a:s1={ gL s ann.fz with fresh:=s.fresh+1 }){k:Ex->St->Option R}{r:R}(h:ev E (.region id ops dr) ann R s k=some r) :
  cg ops.toList=true/\(((!dr||rz E ops (ann.heads ops.size))=true/\fj E (ops.size+1) R ops ann.inner (aR 0 ops.toList) (iV E ops.toList s1) (λs'=>k .normal s')=some r) ∨
   (dr=true/\uU ops (ann.heads ops.size)=true/\OP E ops (ann.heads ops.size) (lD ops (ann.heads ops.size) (iV E ops.toList s1)) (ann.heads ops.size) 0 (iV E ops.toList s1) (λs2=>if uS ops (ann.heads ops.size) s2=some (lD ops (ann.heads ops.size) (iV E ops.toList s1)) then fj E (ops.size+1) R ops ann.inner ((aR 0 ops.toList).drop (ann.heads ops.size)) s2 (λs'=>k .normal s') else none)=some r) ∨
   (dr=true/\Am E ops (ann.heads ops.size) (pz ops)=true/\NG E ops (pz ops) (ann.heads ops.size) 0 (iV E ops.toList s1) (λs2=>fj E (ops.size+1) R ops ann.inner ((aR 0 ops.toList).drop (ann.heads ops.size)) { s2 with dead:=mK s2 (E5 ops (pz ops)) } (λs'=>k .normal s'))=some r) ∨
   (dr=true/\iG E ops=true/\fj E (ops.size+1) R ops ann.inner (aR 0 ops.toList) (iV E ops.toList s1) (λs'=>k .normal s')=some r)):=by
 have key:(if cg ops.toList&&(!dr||rz E ops (ann.heads ops.size)) then fj E (ops.size+1) R ops ann.inner (aR 0 ops.toList) (iV E ops.toList s1) (λs'=>k .normal s')
  else if cg ops.toList&&uU ops (ann.heads ops.size) then OP E ops (ann.heads ops.size) (lD ops (ann.heads ops.size) (iV E ops.toList s1)) (ann.heads ops.size) 0 (iV E ops.toList s1) (λs2=>if uS ops (ann.heads ops.size) s2=some (lD ops (ann.heads ops.size) (iV E ops.toList s1)) then fj E (ops.size+1) R ops ann.inner ((aR 0 ops.toList).drop (ann.heads ops.size)) s2 (λs'=>k .normal s') else none)
  else if cg ops.toList&&(dr&&Am E ops (ann.heads ops.size) (pz ops)) then NG E ops (pz ops) (ann.heads ops.size) 0 (iV E ops.toList s1) (λs2=>fj E (ops.size+1) R ops ann.inner ((aR 0 ops.toList).drop (ann.heads ops.size)) { s2 with dead:=mK s2 (E5 ops (pz ops)) } (λs'=>k .normal s'))
  else if cg ops.toList&&(dr&&iG E ops) then fj E (ops.size+1) R ops ann.inner (aR 0 ops.toList) (iV E ops.toList s1) (λs'=>k .normal s')
  else none)=some r:=by
  subst a;cases ann<;>exact h
 split at key
 ·rename_i hc;simp only[zaa] at hc;exact⟨hc.1,.inl ⟨hc.2,key⟩⟩
 ·rename_i hn;split at key
  ·rename_i hc;simp only[zaa] at hc;refine⟨hc.1,.inr (.inl ⟨?_,hc.2,key⟩)⟩;cases dr
   ·exfalso;exact hn (by simp[hc.1])
   ·rfl
  ·split at key
   ·rename_i hc;simp only[zaa] at hc;exact⟨hc.1,.inr (.inr (.inl ⟨hc.2.1,hc.2.2,key⟩))⟩
   ·split at key<;>first|(cases key;done)|skip
    rename_i hc;simp only[zaa] at hc;exact⟨hc.1,.inr (.inr (.inr ⟨hc.2.1,hc.2.2,key⟩))⟩
def F7(A:EnvOk P E){Q:Exit->Act->World->Prop}{id:Nat}{ops:Array Oper}{dr:Bool}{ann:Ann}{R:Type}{S:Nat->Nat->Prop}{γ:Nat->Option Nat}{β:Nat->Option (Nat×Nat)}{s:St}{a:Act}{w:World}{k:Ex->St->Option R}{r:R}
  (h:Rp w0 S γ β s a w) (F:ev E (.region id ops dr) ann R s k=some r) (B:Kp Q w0 s S γ a w k r):(Code.region id ops dr).wpIn (FW ro) nn P Q a w:=by
 obtain⟨S1,f1,f2,f3⟩:=rC ann.fz h;obtain⟨s1,g⟩:∃ s1,s1={ gL s ann.fz with fresh:=s.fresh+1 }:=⟨_,rfl⟩;obtain⟨h1,D⟩:=xi g F;have U:s1.base=s.base+4096:=by rw[g];simp only[St.base];omega
 have V:(gL s ann.fz).base=s.base:=f3.base_eq;have r1:Rp w0 S1 γ β s1 a w:=by
  rw[g];have M:∀ id,({ gL s ann.fz with fresh:=s.fresh+1 }:St).base+4096<=id->s.base+4096<=id:=λid hid=>by
   grind
  exact⟨f1.ext,f1.tms,f1.nt,f1.tmu,f1.obs,f1.γn,f1.γi,λid hid=>h.γf id (M id hid),f1.βn,f1.βi,f1.βγ,λv W=>h.βf v (M v W),f1.Sb,f1.So⟩
 have j:∀ d,s.base+4096<=s1.base+d:=λd=>by omega
 have K:∀ d,γ (s1.base+d)=none:=λd=>h.γf (s1.base+d) (j d);have G:∀ d,β (s1.base+d)=none:=λd=>h.βf (s1.base+d) (j d);obtain⟨C,m2⟩:=EB (E:=E) ops.toList r1 K;have z:=h1;simp only[cg,zaa,zma] at z;obtain⟨⟨H,I⟩,_⟩:=z;have e:E3 E (iV E ops.toList s1) γ β ops.toList:=by
  intro o L hc d J;rw[m2.base_eq];have p:=I o L;rw[J] at p;simp only[decide_eq_true_eq] at p;exact⟨p,K d,G d,λT t N O=>zv ops.toList H L N J O⟩
 have b:Sk s (iV E ops.toList s1):=by
  refine⟨m2.lkS.trans ?_,m2.lkO.trans ?_,m2.nt.trans ?_⟩<;>rw[g]
  ·exact f3.lkS
  ·exact f3.lkO
  ·exact f3.nt
 rcases D with⟨l,m⟩|⟨c,l,m⟩|⟨c,l,m⟩|⟨c,l,m⟩
 rotate_right
 ·subst c;exact vA A C e h1 l m λs' S' γ' β' a' w' q u x y=>B .normal s' S' γ' β' a' w' q (f2.tr u b) (b.trans x) y
 rotate_right
 ·subst c;exact wH A C e h1 l m λs' S' γ' β' a' w' q u x y=>B .normal s' S' γ' β' a' w' q (f2.tr u b) (b.trans x) y
 rotate_left
 ·subst c;exact vz A C e h1 l m λs' S' γ' β' a' w' q u x y=>B .normal s' S' γ' β' a' w' q (f2.tr u b) (b.trans x) y
 refine F8 A C e h1 l m λs' S' γ' β' a' w' q u x y=>?_;exact B .normal s' S' γ' β' a' w' q (f2.tr u b) (b.trans x) y
def Jm{S:Nat->Nat->Prop}{γ:Nat->Option Nat}{β:Nat->Option (Nat×Nat)}{s:St}{a:Act}{w:World}(h:Rp w0 S γ β s a w){c:Operand}{t:Bool}(b:(s.opA c).truth=some t):a.eval c=.bool t:=
 (ph b (aX h c)).1
def Xq{S S':Nat->Nat->Prop}{γ γ':Nat->Option Nat}{s:St}{a a':Act}{w w':World}(b:∀ l,ro=some l->∃ r0,w.heap[l]?=some (Obj.loop r0))(F:Fm s S γ a w S' γ' a' w'):∀ l,ro=some l->∃ r0,w'.heap[l]?=some (Obj.loop r0):=λl hl=>(F.dfs.1 l).2 (b l hl)
def u5(E:Env)(c:Code)(h:Shape)(b:List (Ex×Shape))(a:Ann)(s:St)(v:List D):Option (Sum (List D) (Nat×List D)):=
 ev E c a (Sum (List D) (Nat×List D)) (h.mk' s v (h.keepS++s.lkS) (cu h.objs++s.lkO)) λe s'=>match e with
    | .normal=>(h.dec s s').bind λv'=>some (.inl v')
    | e=>(Do s b e s').bind λr=>some (.inr r)
theorem iD(J:EnvOk P E):∀ (c:Code) (ann:Ann) (R:Type) {Q:Exit->Act->World->Prop} {S:Nat->Nat->Prop} {γ:Nat->Option Nat} {β:Nat->Option (Nat×Nat)} {s:St} {a:Act} {w:World} (k:Ex->St->Option R) (r:R),
  (∀ l,ro=some l->∃ r0,w.heap[l]?=some (Obj.loop r0))->Rp w0 S γ β s a w->ev E c ann R s k=some r->Kp Q w0 s S γ a w k r->c.wpIn (FW ro) nn P Q a w
 | .skip,ann,R,Q,S,γ,β,s,a,w,k,r,o,h,g,q=>by
  simp only[ev] at g;exact wpIn_skip (q .normal s S γ β a w h (Fm.refl _ _ _ _ _) (Sk.refl s) g)
 | .label l,ann,R,Q,S,γ,β,s,a,w,k,r,o,h,g,q=>by
  simp only[ev] at g;exact wpIn_label (q .normal s S γ β a w h (Fm.refl _ _ _ _ _) (Sk.refl s) g)
 | .exit id,ann,R,Q,S,γ,β,s,a,w,k,r,o,h,g,q=>by
  simp only[ev] at g;exact wpIn_exit (q (.exit id) s S γ β a w h (Fm.refl _ _ _ _ _) (Sk.refl s) g)
 | .ret,ann,R,Q,S,γ,β,s,a,w,k,r,o,h,g,q=>by
  simp only[ev] at g;exact wpIn_ret (q .ret s S γ β a w h (Fm.refl _ _ _ _ _) (Sk.refl s) g)
 | .region id ops dr,ann,R,Q,S,γ,β,s,a,w,k,r,o,h,g,q=>F7 J h g q
 | .cond c x y,ann,R,Q,S,γ,β,s,a,w,k,r,o,h,g,q=>by
  simp only[ev] at g;obtain⟨t,C,g⟩:=bind_some_inv g;refine wpIn_cond (Jm h C) ?_;cases t
  ·exact iD J y _ R k r o h (by simpa using g) q
  ·exact iD J x _ R k r o h (by simpa using g) q
 | .block id c,ann,R,Q,S,γ,β,s,a,w,k,r,o,h,g,q=>by
  simp only[ev] at g;refine wpIn_block (iD J c _ R _ r o h g λe s' S' γ' β' a' w' D B G A=>?_);cases e with
  | normal=>exact q .normal s' S' γ' β' a' w' D B G A
  | ret=>exact q .ret s' S' γ' β' a' w' D B G A
  | exit j=>
   simp only[HR,Exit.inBlock];simp only at A;split at A
   ·rename_i Y;rw[if_pos Y];exact q .normal s' S' γ' β' a' w' D B G A
   ·rename_i Y;rw[if_neg Y];exact q (.exit j) s' S' γ' β' a' w' D B G A
 | .seq c d,ann,R,Q,S,γ,β,s,a,w,k,r,o,h,g,q=>by
  have plain:(ev E c ann.fst R s λe s'=>match e with|.normal=>ev E d ann.snd R s' k|e=>k e s')=some r->(Code.seq c d).wpIn (FW ro) nn P Q a w:=λg=>by
   refine wpIn_seq (iD J c _ R _ r o h g λe s' S' γ' β' a' w' D B G A=>?_);cases e with
   | normal=>
    exact iD J d _ R k r (Xq o B) D A λW s2 S2 γ2 β2 a2 w2 m1 m2 m3 m4=>q W s2 S2 γ2 β2 a2 w2 m1 (B.tr m2 G) (G.trans m3) m4
   | ret=>exact q .ret s' S' γ' β' a' w' D B G A
   | exit j=>exact q (.exit j) s' S' γ' β' a' w' D B G A
  cases ann with
  | leaf=>simp only[ev] at g;exact plain g
  | reg fz n=>simp only[ev] at g;exact plain g
  | regI fz n x=>simp only[ev] at g;exact plain g
  | two x y=>simp only[ev] at g;exact plain g
  | loop x y z=>simp only[ev] at g;exact plain g
  | all x y z u=>simp only[ev] at g;exact plain g
  | cut p kS Z x y=>
   clear plain;simp only[ev] at g;obtain⟨⟨j,v⟩,h1,X⟩:=bind_some_inv g;refine wpIn_seq (iD J c x _ _ (j,v) o (h.lk (kS++s.lkS) (Z++s.lkO)) h1 λe s' S' γ' β' a' w' D B G A=>?_);obtain⟨sh,M,I⟩:=so A;simp only at M I;obtain⟨c1,c2,V⟩:=jS (zja j) (by simpa using M) X
   obtain⟨H,β'',U,p2⟩:=nh h D B.sub B.cell G.nt (h:=sh) (λt C=>B.slots t (List.mem_append_left _ (gd c2 t C))) B.gam (λid hid=>B.objs id (List.mem_append_left _ (gd V id hid))) I s.lkS s.lkO;have F:Fm s S γ a w S' H a' w':=(B.less (s2:=s) (λt C=>zOa _ C) (λt C=>zOa _ C)).shape h p2;cases e with
   | normal=>
    exact iD J d y R k r (Xq o F) U c1 λW s2 S2 γ2 β2 a2 w2 m1 m2 m3 m4=>q W s2 S2 γ2 β2 a2 w2 m1 (F.tr m2 ⟨rfl,rfl,rfl⟩) (Sk.trans (b:=sh.mk' s v s.lkS s.lkO) ⟨rfl,rfl,rfl⟩ m3) m4
   | ret=>exact q .ret _ S' H β'' a' w' U F ⟨rfl,rfl,rfl⟩ c1
   | exit i=>exact q (.exit i) _ S' H β'' a' w' U F ⟨rfl,rfl,rfl⟩ c1
 | .loop c,ann,R,Q,S,γ,β,s,a,w,k,r,o,h,g,q=>by
  cases ann with
  | loop sh p x=>
   have K:(sh.dec s s).bind (λv0=>(E.lp (u5 E c sh p x s) v0).bind λr=>mC s k sh.keepS (cu sh.objs) p 0 r)=some r:=g;obtain⟨v0,h1,K⟩:=bind_some_inv K;obtain⟨⟨j,vj⟩,X,h3⟩:=bind_some_inv K;obtain⟨n,hn⟩:=J.lp _ _ _ _ _ X;obtain⟨O,L⟩:∃ O:St,O={ s with lkS:=sh.keepS++s.lkS,lkO:=cu sh.objs++s.lkO }:=⟨_,rfl⟩;obtain⟨γ0,β0,U,p2⟩:=nh h h (λ_ _ N=>N) (λ_ _ _=>rfl) rfl (h:=sh) (λ_ _=>rfl) (λ_ _ N=>N) (λ_ _ _ N=>⟨N,jL.refl _ _⟩) h1 (sh.keepS++s.lkS) (cu sh.objs++s.lkO);have F0:Fm O S γ a w S γ0 a w:=(Fm.refl O S γ a w).shape h p2;refine yy (λn a1 w1=>∃ v S1 γ1 β1,Rp w0 S1 γ1 β1 (sh.mk' s v (sh.keepS++s.lkS) (cu sh.objs++s.lkO)) a1 w1/\Fm O S γ a w S1 γ1 a1 w1/\p8 (u5 E c sh p x s) n v=some (j,vj)) (m:=n) ⟨v0,S,γ0,β0,U,F0,hn⟩ ?_;rintro n a1 w1 ⟨v,S1,γ1,β1,g1,g2,g3⟩;cases n with
   | zero=>simp[rM] at g3
   | succ m=>
    simp only[kB] at g3;cases N:u5 E c sh p x s v with
    | none=>rw[N] at g3;cases g3
    | some res=>
     rw[N] at g3;refine iD J c x _ _ res (Xq o g2) g1 N λe s' S' γ' β' a' w' D B G A=>?_;have F:Fm O S γ a w S' γ' a' w':=g2.tr B (by rw[L];exact⟨rfl,rfl,rfl⟩)
     have T:s'.nt=s.nt:=G.nt;have sl:∀ t∈sh.keepS,a'.tmps.getD t undef=a.tmps.getD t undef:=λt C=>F.slots t (by rw[L];exact List.mem_append_left _ C)
     have ob:∀ id∈cu sh.objs,∀ b,γ id=some b->γ' id=some b/\jL w w' b:=λid hid=>F.objs id (by rw[L];exact List.mem_append_left _ hid)
     have fin:∀ e,Do s p e s'=some (j,vj)->Q (HR e) a' w':=λe he=>by
      obtain⟨ad,M,I⟩:=so he;simp only at M I;obtain⟨c1,c2,V⟩:=jS (zja j) (by simpa using M) h3
      obtain⟨H,β'',o1,o2⟩:=nh h D F.sub F.cell T (h:=ad) (λt C=>sl t (gd c2 t C)) F.gam (λid hid=>ob id (gd V id hid)) I s.lkS s.lkO;exact q e _ S' H β'' a' w' o1 ((F.less (s2:=s) (λt C=>by rw[L];exact zOa _ C) (λt C=>by rw[L];exact zOa _ C)).shape h o2) ⟨rfl,rfl,rfl⟩ c1
     cases e with
     | normal=>
      simp only at A;obtain⟨v',M,I⟩:=bind_some_inv A;simp only[zda] at I;subst I;obtain⟨H,β'',o1,o2⟩:=nh h D F.sub F.cell T (h:=sh) sl F.gam ob M (sh.keepS++s.lkS) (cu sh.objs++s.lkO);exact⟨m,zxd m,v',S',H,β'',o1,F.shape h o2,g3⟩
     | ret=>
      simp only at A;obtain⟨v',M,I⟩:=bind_some_inv A;simp only[zda] at I;subst I;simp only[zda] at g3;subst g3;exact fin .ret M
     | exit i=>
      simp only at A;obtain⟨v',M,I⟩:=bind_some_inv A;simp only[zda] at I;subst I;simp only[zda] at g3;subst g3;exact fin (.exit i) M
  | leaf=>simp[ev] at g
  | reg fz n=>simp[ev] at g
  | regI fz n x=>simp[ev] at g
  | two x y=>simp[ev] at g
  | cut p kS Z x y=>simp[ev] at g
  | all p kS Z x=>simp[ev] at g
 | .goto l,ann,R,Q,S,γ,β,s,a,w,k,r,o,h,g,q=>by
  have:(none:Option R)=some r:=by cases ann<;>exact g
  cases this
 | .scope c,ann,R,Q,S,γ,β,s,a,w,k,r,o,h,g,q=>by
  simp only[ev] at g;refine oe (iD J c _ R k r o h g λe s' S' γ' β' a' w' D B G A=>?_);cases e<;>exact q _ s' S' γ' β' a' w' D B G A
 | .rangeFunc f ps x y,ann,R,Q,S,γ,β,s,a,w,k,r,o,h,g,q=>OQ J (an:=ann) o h (by cases ann<;>exact g) q
def D3(n:EnvOk P E)(c:Code)(ann:Ann)(R:Type){Q:Exit->Act->World->Prop}{S:Nat->Nat->Prop}{γ:Nat->Option Nat}{β:Nat->Option (Nat×Nat)}{s:St}{a:Act}{w:World}(k:Ex->St->Option R)(r:R)
  (f:∀ l,ro=some l->∃ r0,w.heap[l]?=some (Obj.loop r0)) (h:Rp w0 S γ β s a w) (b:Mc E c ann R s k=some r) (o:Kp Q w0 s S γ a w k r):c.wpIn (FW ro) nn P Q a w:=by
 cases ann with
 | all i A z x=>
  simp only[Mc] at b;obtain⟨⟨j,v⟩,h1,y⟩:=bind_some_inv b;refine iD n c x _ _ (j,v) f (h.lk (A++s.lkS) (z++s.lkO)) h1 λe s' S' γ' β' a' w' B d C D=>?_;obtain⟨sh,p,q⟩:=so D;simp only at p q;obtain⟨c1,c2,u⟩:=jS (zja j) (by simpa using p) y
  obtain⟨m,β'',F,G⟩:=nh h B d.sub d.cell C.nt (h:=sh) (λt g=>d.slots t (List.mem_append_left _ (gd c2 t g))) d.gam (λid hid=>d.objs id (List.mem_append_left _ (gd u id hid))) q s.lkS s.lkO;exact o e _ S' m β'' a' w' F ((d.less (s2:=s) (λt g=>zOa _ g) (λt g=>zOa _ g)).shape h G) ⟨rfl,rfl,rfl⟩ c1
 | _=>exact iD n c _ R k r f h b o
def HP(d:EnvOk P E)(c:Code)(ann:Ann)(R:Type){Q:Exit->Act->World->Prop}{S:Nat->Nat->Prop}{γ:Nat->Option Nat}{β:Nat->Option (Nat×Nat)}{s:St}{a:Act}{w:World}(k:Ex->St->Option R)(r:R)
  (h:Rp w0 S γ β s a w) (b:ev E c ann R s k=some r) (e:Kp Q w0 s S γ a w k r):c.wpIn (FW none) nn P Q a w:=
 iD d c ann R k r (λ_ h=>by cases h) h b e
end
def OI{P:Program}{E:Env}(d:EnvOk P E):GJ P (Mc E):=λ_ _ _ c ann R _ _ _ _ _ _ _ k r b h a e=>D3 d c ann R k r b h a e
end Sy
end
noncomputable section
namespace Sy
open Go
open Go.ChangeMaps (setBlock)
open Go.RowKit
variable{ro:Option Nat}{nn:Nat}
section
variable{P:Program}{E:Env}{w0:Root}{S:Nat->Nat->Prop}{γ:Nat->Option Nat}{β:Nat->Option (Nat×Nat)}{s:St}{a:Act}{w:World}
def n8(tmps:Array Value):ResultVar->Sem Value
 | .tmp t=>pure (tmps.getD t undef)
 | .cell a t=>do loadVar t (<-asAddr (tmps.getD a undef))
def lK(fn:Func)(tmps:Array Value):Go.results fn tmps=(do
  let vs <-fn.results.mapM (n8 tmps)
  pure (if h:vs.size=1 then vs[0] else .tuple vs)):=by
 unfold Go.results;congr 1
def HT{t b:Ty}{a:AV}(h:AV.fits t a=true)(c:AV.fits b a=true):cX t=cX b:=by
 cases a
 case d u x=>rw[oQ h,oQ c]
 all_goals (cases t<;>cases b<;>simp_all [AV.fits,cX])
def EH(A:EnvOk P E)(h:Rp w0 S γ β s a w){R:Type}{t:Ty}(hn:aq t=true){k:D->Option R}{r:ResultVar}{y:R}(hq:IW E s t k r=some y) :
  ∃ x v,k x=some y/\(n8 a.tmps r).run P w=.ok v w/\wt t x/\gD w S x v:=by
 cases r with
 | tmp i=>
  simp only[IW] at hq;obtain⟨x,h1,l⟩:=bind_some_inv hq;have m:i<a.tmps.size:=by
   rcases zla i a.tmps.size with e|d
   ·exact e
   ·rw[h.tmu i (by rw[<-h.nt];exact d)] at h1
    simp[AV.toD] at h1
  obtain⟨q,G⟩:=oG hn (h.tms i m) h1;exact⟨x,a.tmps.getD i undef,l,rfl,q,G⟩
 | cell i T=>
  simp only[IW] at hq;obtain⟨u,hu,hq⟩:=bind_some_inv hq;split at hq<;>first|(cases hq;done)|skip
  rename_i K id p j;split at hq<;>first|(cases hq;done)|skip
  rename_i B;have:=Ty.eq_of_beq _ _ B;subst this;obtain⟨o,z,hq⟩:=bind_some_inv hq;have m:i<a.tmps.size:=by
   rcases zla i a.tmps.size with e|d
   ·exact e
   ·have:=h.tmu i (by rw[<-h.nt];exact d)
    rw[j] at this;cases this
  have hx:=h.tms i m;rw[j] at hx;obtain⟨b,off,C,F,n⟩:=lc hx;obtain⟨q,rfl⟩:=n o z;obtain⟨a',cs,m1,m2,m3,m4,m5⟩:=nK (h.obs id o b z F) q hq;obtain⟨m6,m7⟩:=iB _ _ _ m3 m2;obtain⟨v,g,c⟩:=jY (jU A hu m4) (w:=w) (b:=b) (off:=cC o p) m6 m7 m5;obtain⟨x,h1,l⟩:=bind_some_inv m1;obtain⟨H,J,I⟩:=sj _ _ _ _ h1 m2;have f:=HT (vT _ _ _ h1) m3;refine⟨x,v,l,?_,H,I v ⟨c.1,by rw[f];exact c.2.1,by rw[f];exact c.2.2⟩ hn⟩
  rw[<-g];simp only[n8,Instr.loadAt,Instr.sureAddr,pure_bind];rw[show a.tmps.getD i undef=.pointer (some ⟨b,cC o p,none⟩) from C];rfl
theorem vC(f:EnvOk P E)(h:Rp w0 S γ β s a w){R:Type}:∀ (c:List Ty) (b:List ResultVar) (k:List D->Option R) (y:R),bw c=true->vB E s c b k=some y ->
  ∃ xs vs,k xs=some y/\(b.mapM (n8 a.tmps)).run P w=.ok vs w/\fI c xs/\vs.length=b.length/\xs.length=vs.length/\∀ (i:Nat) (d:D) (u:Value),xs[i]?=some d->vs[i]?=some u->gD w S d u
 | [],[],k,y,_,hq=>by
  simp only[vB] at hq;exact⟨[],[],hq,rfl,rfl,rfl,rfl,λi d u h=>by simp at h⟩
 | [],_::_,k,y,_,hq=>by simp[vB] at hq
 | _::_,[],k,y,_,hq=>by simp[vB] at hq
 | t::c,r::b,k,y,hn,hq=>by
  simp only[vB] at hq;simp only[bw,zaa] at hn;obtain⟨x,v,h1,g,j,l⟩:=EH f h hn.1 hq;obtain⟨xs,vs,m,n,o,p,q,z⟩:=vC f h c b _ y hn.2 h1;refine⟨x::xs,v::vs,m,?_,⟨x,xs,rfl,j,o⟩,by simp[p],by simp[q],λi d u e hu=>?_⟩
  ·simp only[z6c,zha,g,zea,n,zna]
  ·cases i with
   | zero=>simp at e hu;subst e;subst hu;exact l
   | succ i=>simp at e hu;exact z i d u e hu
def jy(n:Nat)(a:Ty):Bool:=if n=1 then aq a else match a with|.tup b=>bw b|_=>false
def lM(g:EnvOk P E)(h:Rp w0 S γ β s a w){fn:Func}{b:Ty}{y:D}(c:jy fn.results.size b=true)(hq:results E s b fn.results.toList=some y) :
  ∃ v,(Go.results fn a.tmps).run P w=.ok v w/\wt b y/\DR w S y v:=by
 rw[lK];have hm:fn.results.mapM (n8 a.tmps)=Functor.map List.toArray (fn.results.toList.mapM (n8 a.tmps)):=by
  rw[zTc]
 rw[hm];have j:fn.results.size=fn.results.toList.length:=by simp
 rw[j] at c;generalize fn.results.toList=f at *
 match f,c,hq with
 | [r],c,hq=>
  have i:aq b=true:=by simpa [jy] using c
  simp only[results] at hq;obtain⟨x,v,h1,q,t,u⟩:=EH g h i hq;simp only[zda] at h1;subst h1;refine⟨v,?_,t,DR.of0 u⟩;simp[z6c,q]
 | [],c,hq=>
  simp only[jy,zyb] at c;obtain⟨d,rfl⟩:∃ d,b=.tup d:=by
   cases b<;>first|exact⟨_,rfl⟩|(simp[results] at hq;done)
  simp only[results] at hq;obtain⟨xs,vs,e,p,l,m,n,o⟩:=vC g h d [] _ y (by simpa using c) hq
  simp only[zda] at e;subst e;refine⟨.tuple vs.toArray,?_,by simp only[wt];exact⟨xs,rfl,l⟩,vs,rfl,n,o⟩
  have:vs=[]:=zBc.1 m;subst this;simp
 | r::r'::f,c,hq=>
  simp only[jy,zKa] at c;rw[if_neg (by omega)] at c
  obtain⟨d,rfl⟩:∃ d,b=.tup d:=by
   cases b<;>first|exact⟨_,rfl⟩|(simp[results] at hq;done)
  simp only[results] at hq;obtain⟨xs,vs,e,p,l,m,n,o⟩:=vC g h d (r::r'::f) _ y c hq;simp only[zda] at e;subst e;refine⟨.tuple vs.toArray,?_,by simp only[wt];exact⟨xs,rfl,l⟩,vs,rfl,n,o⟩
  have:vs.length≠1:=by rw[m];simp
  have k:((List.mapM (n8 a.tmps) (r::r'::f)).run P w)=.ok vs w:=p;simp only[zha,map_eq_pure_bind,k,zea,zna];simp[this]
def iQ{r:Root}{w:World}(h:ml r w)(k:∀ b,¬ r.sh b):∃ os d,r.w.drawn<=d/\w=grown r.w os d:=by
 obtain⟨w0,S0,sh⟩:=r;obtain⟨h1,f,g,l,a,j⟩:=h;simp only[Root.heap,Root.Old] at *;refine⟨(w.heap.toList.drop w0.heap.size),w.drawn,a,?_⟩;have e:w.heap=w0.heap++(w.heap.toList.drop w0.heap.size).toArray:=by
  apply zpc;rw[Array.toList_append]
  conv=>lhs;rw[<-zqa w0.heap.size w.heap.toList]
  congr 1;apply zmc;intro i;by_cases c:i<w0.heap.size
  ·rw[zBb c,zBa,j i ⟨c,k i⟩,zBa]
  ·rw[zbb (by simp;omega),zbb (by simpa using c)]
 cases w;simp only[grown] at *;subst h1;subst f;subst g;congr 1
theorem shut_row{K:Nat}{a:Option (List Deferred)}{x:Option (List Deferred)}(hk:w.heap[K]?=some (.deferred a))(b:Nat):bO (setBlock w K (.deferred x)) b=bO w b:=by
 by_cases e:b=K
 ·subst e;simp only[bO,hk,gT (zga.1 hk).1]
 ·simp only[bO,eO e]
def yi{K:Nat}{a:Option (List Deferred)}{x:Option (List Deferred)}(hk:w.heap[K]?=some (.deferred a))(b o:Nat):(setBlock w K (.deferred x)).cell? ⟨b,o,none⟩=w.cell? ⟨b,o,none⟩:=by
 by_cases e:b=K
 ·subst e;simp only[World.cell?,hk,gT (zga.1 hk).1]
 ·simp only[World.cell?,eO e]
def Rp.shut(h:Rp w0 S γ β s a w){K:Nat}{u:Option (List Deferred)}(hk:w.heap[K]?=some (.deferred u))(z:¬ w0.Old K)(x:Option (List Deferred)):Rp w0 S γ β s a (setBlock w K (.deferred x)):=by
 have hle:Cx.le ⟨w,S,γ,β,s.ob,s.dead⟩ ⟨setBlock w K (.deferred x),S,γ,β,s.ob,s.dead⟩:=
  ⟨λb o _=>yi hk b o,λ_ _ g=>g,λ_ _ g=>g,λi y q _=>⟨y,q,λp=>⟨rfl,rfl⟩,λt l e=>⟨l,e,rfl⟩,λ_ _ l e=>⟨l,e⟩⟩,λv m=>⟨m,λc e he=>⟨he,λn hn=>by
   have j:mX w c=some n:=hn;show mX (setBlock w K (.deferred x)) c=some n;simp only[mX,shut_row hk] at j ⊢;exact j⟩⟩⟩
 refine⟨oP h.ext rfl rfl rfl (by rw[eI];exact zfa _) (zfa _) (λc d=>eO λe=>z (e ▸ d)),λt B=>(h.tms t B).mono hle,h.nt,h.tmu,λi y c q d=>?_,λi c d=>by rw[eI];exact h.γn i c d,h.γi,h.γf,
  λv c e m he=>by rw[eI];exact h.βn v c e m he,h.βi,h.βγ,h.βf,λc o g=>by rw[eI];exact h.Sb c o g,h.So⟩
 have hO:=h.obs i y c q d;refine hO.mono hle (eO λe=>?_) λ_ A=>A;subst e;cases y<;>simp only[gl] at hO
 case one=>obtain⟨_,_,_,cs,k,_⟩:=hO;simp[bO,hk] at k
 case many=>obtain⟨_,_,_,cs,k,_⟩:=hO;simp[bO,hk] at k
 case mp=>obtain⟨_,_,_,es,k,_⟩:=hO;rw[hk] at k;cases k
 case lp=>obtain⟨r,k,_⟩:=hO;rw[hk] at k;cases k
 case fv=>obtain⟨_,x,k,_⟩:=hO;simp[bO,hk] at k
theorem cG.set{lo:Nat}:∀ {l:List Deferred} {a K:Nat} {x:Option (List Deferred)},a<=K->cG lo w a l->cG lo (setBlock w K (.deferred x)) a l
 | [],_,_,_,_,_=>trivial
 | d::l,a,K,x,g,⟨J,h1,b,c,e,f⟩=>⟨J,h1,b,c,by rw[eO (by omega)];exact e,cG.set (by omega) f⟩
theorem xy{fn:Func}{tmps:Array Value}{Rn:Ending->World->Prop}{J:World->Prop}{lo:Nat}(b:∀ w K,J w->lo<=K->w.heap[K]?=some (.deferred (some []))->J (setBlock w K (.deferred none)))
  (c:∀ w,J w->∃ v,(Go.results fn tmps).run P w=.ok v w/\Rn (.returned v) w):∀ (m:List Deferred) (e:Nat) (w:World),cG lo w e m->J w->LeavesInM (FW none) 0 P fn tmps Rn m .returning w
 | [],_,w,_,hw=>c w hw
 | d::m,e,w,⟨K,h1,f,_,a,g⟩,hw=>by
  refine⟨by simp,.inl ⟨K,_,by rw[h1],run_takeDeferred a,xy b c m K _ (cG.set (zfa _) g) (b w K hw f a)⟩⟩
def jQ(C:EnvOk P E){f:FuncId}{fn:Func}{c:Code}(G:P.funcs[f]?=some fn)(d:fn.body=some c){args:Array Value}{ann:Ann}{R:Type}{k:Ex->St->Option R}{r:R}{Rn:Ending->World->Prop}
  (z:a={ tmps:=args++Array.replicate (fn.ntmps-args.size) undef,defers:=[] }) (h:Rp w0 S γ β s a w) (t:Mc E c ann R s k=some r) (hk:∀ i s',k (.exit i) s'≠some r)
  (fin:∀ e s' S' γ' β' a' w',Rp w0 S' γ' β' s' a' w'->Fm s S γ a w S' γ' a' w'->Sk s s'->k e s'=some r->∃ v,(Go.results fn a'.tmps).run P w'=.ok v w'/\Rn (.returned v) w'):Calls P f args w Rn:=by
 refine callsIn_wide.1 (callsIn_of_wp_marks (F:=FW none) (n:=0) G d trivial ?_);rw[<-z];refine D3 C c ann R k r (λ_ h=>by cases h) h t λe s' S' γ' β' a' w' N j O A=>?_
 have D:a.defers=[]:=by rw[z]
 have key:LeavesInM (FW none) 0 P fn a'.tmps Rn a'.defers .returning w':=by
  obtain⟨Q,m,B,T,_⟩:=j.dfs;rw[D,zYb] at B;rw[B];refine xy (J:=λp=>Rp w0 S' γ' β' s' { a' with defers:=a.defers } p/\Fm s S γ a w S' γ' { a' with defers:=a.defers } p) (lo:=w.heap.size) (λp K ⟨u,g⟩ I y=>?_) (λp ⟨u,g⟩=>fin e s' S' γ' β' _ p u g O A) m _ w' T ⟨N.act rfl,⟨j.sub,j.cell,j.slots,j.objs,j.sz,j.gam,kY.same rfl Q⟩⟩;have hold:¬ w0.Old K:=λM=>by have:=M.1;have:=h.ext.sz;omega
  refine⟨u.shut y hold none,g.sub,λb o q=>(yi y b o).trans (g.cell b o q),g.slots,λi H b d=>?_,by rw[eI];exact g.sz,g.gam,kY.same rfl λb=>?_⟩
  ·obtain⟨x,z2⟩:=g.objs i H b d;have L:=(h.γn i b d).2;exact⟨x,z2.trans (.inl (eO (by omega)))⟩
  ·obtain⟨x,z2⟩:=g.dfs.1 b;have l:b<w.heap.size->b≠K:=λ_=>by omega
   refine⟨λd=>?_,λ⟨r,d⟩=>?_⟩
   ·rw[eO (l (zga.1 d).1)];exact x d
   ·rw[eO (l (zga.1 d).1)];exact z2 ⟨r,d⟩
 cases e with
 | normal=>exact key
 | ret=>exact key
 | exit i=>exact absurd A (hk i s')
def Fj(G:EnvOk P E){f:FuncId}{fn:Func}{ann:Ann}{a:List Ty}{j:Ty}{xs:List D}{y:D}(m:P.funcs[f]?=some fn)(M:a.length<=fn.ntmps)(hn:bw a=true)(L:jy fn.results.size j=true)
  (h:Xm E fn ann a j xs=some y):N7 P a j f xs y:=by
 intro w S vs I q hlen A;unfold Xm at h;split at h<;>first|(cases h;done)|skip
 rename_i c g;have Q:xs.length=a.length:=jI q;have p:(vs.toArray++Array.replicate (fn.ntmps-vs.toArray.size) undef).size=fn.ntmps:=by
  simp;omega
 refine jQ (w0:=⟨w,S,λ_=>False⟩) (S:=S) (γ:=λ_=>none) (β:=λ_=>none) G m g rfl ?_ h (λ_ _ J=>by cases J) λe s' S' γ' β' a' w' s X Y C=>?_
 ·refine⟨⟨rfl,rfl,rfl,zfa _,zfa _,λ_ _=>rfl⟩,λt H=>?_,p,λt H=>?_,λid o b K=>(by cases K),λid b g=>(by cases g),λid R b g=>(by cases g),λ_ _=>rfl,λv b e _ g=>(by cases g),λv v' b e W _ _ g=>(by cases g),λv id b e _ g=>(by cases g),λ_ _=>rfl,I,λb o g _=>g⟩
  ·simp only[jn];split
   ·rename_i ty x F u;have n:=(zka.1 u).1;have k:t<vs.length:=by omega
    have O:(vs.toArray++Array.replicate (fn.ntmps-vs.toArray.size) undef).getD t undef=vs[t]:=by
     simp[Array.getD,zRc,k];omega
    show AR _ _ ((vs.toArray++Array.replicate (fn.ntmps-vs.toArray.size) undef).getD t undef);rw[O];obtain⟨Z,r,B⟩:=hC q F;rw[u] at r;cases r;exact dT (cd hn F) B (A t x _ u (zca k))
   ·simp only[AR]
  ·have N:fn.ntmps<=t:=H;simp only[jn];rw[zbb (by omega)]
 ·have l:results E s' j fn.results.toList=some y->(∃ v,(Go.results fn a'.tmps).run P w'=.ok v w'/\∃ v',Ending.returned v=.returned v'/\(∃ os d,w.drawn<=d/\w'=grown w os d)/\wt j y/\DR w' (λb o=>S b o\/(w.heap.size<=b/\b<w'.heap.size)) y v'):=λhq=>by
   obtain⟨v,T,U,V⟩:=lM G s L hq;refine⟨v,T,v,rfl,iQ s.ext (λ_ m=>m),U,V.mono (λ_ _ _=>rfl) λb o g=>?_⟩;rcases zla b w.heap.size with n|z
   ·exact .inl (s.So b o g ⟨n,λm=>m⟩)
   ·exact .inr ⟨z,s.Sb b o g⟩
  cases e with
  | normal=>exact l C
  | ret=>exact l C
  | exit i=>cases C
def A0(a:List Ty)(k:Nat)(args:List D)(i:Nat):AV:=
 if i+k<a.length then jn a args i else match a[i]? with
  | some t=>.ptr t (i+k-a.length) []
  | none=>.undef
def PN(a:List Ty)(k:Nat)(args:List D)(j:Nat):Option Ob:=
 if j<k then match a[a.length-k+j]?,args[a.length-k+j]? with
  | some t,some x=>some (.one t (.d t x))
  | _,_=>none
 else none
def lY:Option Ob->Bool
 | some (.one _ _)=>true
 | _=>false
def OO(E:Env)(fn:Func)(ann:Ann)(a:List Ty)(k:Nat)(b:Ty)(args:List D):Option D:=
 match fn.body with
 | none=>none
 | some c=>Mc E c ann D { tm:=A0 a k args,ob:=PN a k args,fresh:=0,dead:=[],nt:=fn.ntmps,lkS:=[],lkO:=List.range k } λe s=>match e with
  | .exit _=>none
  | _=>if(List.range k).all (λj=>lY (s.ob j)) then results E s b fn.results.toList else none
def Cs(hE:EnvOk P E){f:FuncId}{fn:Func}{ann:Ann}{a:List Ty}{k:Nat}{A:Ty}{xs:List D}{y:D}(X:P.funcs[f]?=some fn)(aI:a.length<=fn.ntmps)(hn:bw a=true)(hk:k<=a.length)(an:k<=4095)(hr:jy fn.results.size A=true)
  (h:OO E fn ann a k A xs=some y):PT P a A f xs y k:=by
 intro w S vs p hS J V hlen Z ai W;unfold OO at h;split at h<;>first|(cases h;done)|skip
 rename_i c g;have a0:xs.length=a.length:=jI J;have ad:vs.length=a.length-k:=by omega
 obtain⟨l,hl⟩:∃ l,l=vs++p.map FY:=⟨_,rfl⟩;have ax:l.length=a.length:=by rw[hl];simp;omega
 rw[<-hl];have O:(l.toArray++Array.replicate (fn.ntmps-l.toArray.size) undef).size=fn.ntmps:=by
  simp;omega
 have G:∀ t,t<l.length->(l.toArray++Array.replicate (fn.ntmps-l.toArray.size) undef).getD t undef=l.getD t undef:=λt T=>by
  simp[Array.getD,zRc,T];omega
 have cap:∀ j b,p[j]?=some b->j<k/\∃ t x,a[a.length-k+j]?=some t/\xs[a.length-k+j]?=some x/\wt t x/\N6 w S x b:=λj b C=>by
  have n:j<k:=by rw[<-V];exact(zka.1 C).1
  have h1:a.length-k+j<a.length:=by omega
  obtain⟨x,hx,hw⟩:=hC J (zca h1);exact⟨n,_,x,zca h1,hx,hw,W j x b (by rw[ad];exact hx) C⟩
 have L:∀ j b,p[j]?=some b->b<w.heap.size:=λj b C=>by
  obtain⟨_,t,x,_,_,_,_,cs,q,_⟩:=cap j b C;simp only[bO] at q;split at q<;>first|(cases q;done)|skip
  rename_i Y;exact(zga.1 Y).1
 have key:∀ t,AR ⟨w,S,λid=>p[id]?,λ_=>none,PN a k xs,[]⟩ (A0 a k xs t) ((l.toArray++Array.replicate (fn.ntmps-l.toArray.size) undef).getD t undef):=λt=>by
  simp only[A0];split
  ·rename_i I;rw[G t (by omega)]
   simp only[jn];split
   ·rename_i ty x M e2;have z:t<vs.length:=by omega
    have hv:l.getD t undef=vs[t]:=by
     rw[hl,z1a,zkb z,zca z];rfl
    rw[hv];obtain⟨x',R,aj⟩:=hC J M;rw[e2] at R;cases R;exact dT (cd hn M) aj (ai t x _ e2 (zca z))
   ·simp only[AR]
  ·rename_i N;split
   ·rename_i ty M;have I:=(zka.1 M).1;obtain⟨j,C⟩:∃ j,j=t+k-a.length:=⟨_,rfl⟩;have n:j<p.length:=by omega
    have Q:t=a.length-k+j:=by omega
    rw[G t (by omega),<-C]
    have hv:l.getD t undef=FY p[j]:=by
     rw[hl,z1a,zEb (by omega),show t-vs.length=j by omega,z7a,zca n];rfl
    rw[hv];refine gI (zca n) λo F=>?_;have m:PN a k xs j=some o:=F;unfold PN at m;split at m<;>first|(cases m;done)|skip
    split at m<;>first|(cases m;done)|skip
    rename_i u x K q2;cases m;rw[<-Q,M] at K;cases K;exact⟨rfl,rfl⟩
   ·simp only[AR]
 refine jQ (w0:=⟨w,S,λb=>b∈p⟩) (S:=S) (γ:=λid=>p[id]?) (β:=λ_=>none) hE X g rfl ?_ h (λ_ _ Y=>by cases Y) λe s' S' γ' β' a' w' B n2 n3 n4=>?_
 ·refine⟨⟨rfl,rfl,rfl,zfa _,zfa _,λ_ _=>rfl⟩,λt T=>?_,O,λt T=>?_,λid o b F g=>?_,λid b g=>⟨λF=>F.2 (z4a g),L id b g⟩,λid ak b g U=>Z id ak b g U,λid hid=>zbb ?_,λv b e _ g=>(by cases g),λv v' b e e' _ _ g=>(by cases g),λv id b e _ g=>(by cases g),λ_ _=>rfl,hS,λb o g _=>g⟩
  ·exact key t
  ·have Q:fn.ntmps<=t:=T;show A0 a k xs t=.undef;unfold A0;rw[if_neg (by omega),zbb (by omega)]
  ·have m:PN a k xs id=some o:=F;obtain⟨n,t,x,K,q2,q3,q4,cs,q5,q6⟩:=cap id b g;unfold PN at m;rw[if_pos n,K,q2] at m;cases m;have q0:=cd hn K;simp only[gl,AV.fits,AC];exact⟨q0,Ty.beq_refl' t,q4,cs,q5,⟨q3,q0,q6⟩,by rw[<-q6.1];exact cF _ _ q3 q0⟩
  ·have al:0*4096+4096<=id:=hid;omega
 ·have stay:∀ b∈p,w'.heap[b]?=w.heap[b]?/\((List.range k).all (λj=>lY (s'.ob j))=true->∀ o,¬ S' b o):=λb g=>by
   obtain⟨j,C⟩:=List.getElem?_of_mem g;obtain⟨n,t,x,K,q2,q3,q4,cs,q5,q6⟩:=cap j b C;obtain⟨z1,z2⟩:=n2.objs j (zLa.2 n) b C;refine⟨z2.row q5,λs=>?_⟩;have:=zma.1 s j (zLa.2 n);cases F:s'.ob j with
   | none=>rw[F] at this;cases this
   | some o=>
    rw[F] at this;have hO:=B.obs j o b F z1;cases o<;>simp only[lY] at this<;>first|(cases this;done)|skip
    simp only[gl] at hO;exact hO.2.2.1
  have H:(if(List.range k).all (λj=>lY (s'.ob j)) then results E s' A fn.results.toList else none)=some y->(∃ v,(Go.results fn a'.tmps).run P w'=.ok v w'/\∃ v',Ending.returned v=.returned v'/\(∃ os d,w.drawn<=d/\w'=grown w os d)/\wt A y/\DR w' (λb o=>S b o\/(w.heap.size<=b/\b<w'.heap.size)) y v'):=λhq=>by
   split at hq<;>first|(cases hq;done)|skip
   rename_i s;obtain⟨v,k1,k2,k3⟩:=lM hE B hr hq;refine⟨v,k1,v,rfl,iQ (r:=⟨w,S,λ_=>False⟩) ⟨B.ext.tape,B.ext.os,B.ext.output,B.ext.sz,B.ext.dr,λb g=>?_⟩ (λ_ X=>X),k2,k3.mono (λ_ _ _=>rfl) λb o g=>?_⟩
   ·by_cases hm:b∈p
    ·exact(stay b hm).1
    ·exact B.ext.old b ⟨g.1,hm⟩
   ·rcases zla b w.heap.size with I|N
    ·by_cases hm:b∈p
     ·exact absurd g ((stay b hm).2 s o)
     ·exact .inl (B.So b o g ⟨I,hm⟩)
    ·exact .inr ⟨N,B.Sb b o g⟩
  cases e with
  | normal=>exact H n4
  | ret=>exact H n4
  | exit i=>cases n4
end
end Sy
end
end Go.Proofs.YtphlmegkommlnaaGreatDoor
