/- Part 4 of the proof that EnergyOfPaths answers true at every input -/
import Derived.Test.YtpahompifldeeaaGreatPaths03
import Derived.RangeFuncSeq
import Derived.RangeFuncRecord
import Derived.RangeFuncNested
set_option linter.unusedVariables false
set_option linter.unusedSimpArgs false
set_option linter.unnecessarySimpa false
set_option maxRecDepth 20000
namespace Go.Proofs.YtpahompifldeeaaGreat
noncomputable section
namespace Sy
open Go
section
variable{E:Env}{s s':St}
theorem Wk.base_eq(h:Wk s s'):s'.base=s.base:=by simp only[St.base,h.fresh]
theorem Wk.qv(h:Wk s s'){o:Oper}{v':AV}(hq:Sy.qv E s' o some=some v'):∃ v,Sy.qv E s o some=some v/\(v'=v\/v'=.undef):=by
 obtain⟨dst,op,ty,pos,after,guard⟩:=o
 have hob:=h.ob
 have hba:=h.base_eq
 have same:∀ {x y:Option AV},x=some v'->y=x->∃ v,y=some v/\(v'=v\/v'=.undef):=fun hx hy=>⟨v',hy.trans hx,.inl rfl⟩
 cases op<;>simp only[Sy.qv] at hq ⊢<;>(try (cases hq;done))
 case move x=>
  simp only[Option.some.injEq] at hq
  exact⟨_,rfl,by rcases h.opA x with e|e<;>simp[<-hq,e]⟩
 case assign x=>
  simp only[Option.some.injEq] at hq
  exact⟨_,rfl,by rcases h.opA x with e|e<;>simp[<-hq,e]⟩
 case pick c x y=>
  obtain⟨b,h1,h2⟩:=bind_some_inv hq
  rw[<-h.truth h1,h1,Option.bind_some]
  cases b
  ·simp only[Bool.false_eq_true,if_false,Option.some.injEq] at h2 ⊢
   exact⟨_,rfl,by rcases h.opA y with e|e<;>simp[<-h2,e]⟩
  ·simp only[if_true,Option.some.injEq] at h2 ⊢
   exact⟨_,rfl,by rcases h.opA x with e|e<;>simp[<-h2,e]⟩
 case alloc T=>rw[hba] at hq;exact same hq rfl
 case load T x=>
  obtain⟨t,h1,h2⟩:=bind_some_inv hq
  rcases h.opA x with e|e
  ·rw[e,hob] at hq;exact same hq rfl
  ·rw[e] at h2;cases h2
 case fieldAddr T x f=>
  obtain⟨t,h1,h2⟩:=bind_some_inv hq
  rcases h.opA x with e|e
  ·rw[e] at hq;exact same hq rfl
  ·rw[e] at h2;cases t<;>cases h2
 case indexAddr T x i=>
  obtain⟨t,h1,h2⟩:=bind_some_inv hq
  obtain⟨p,h3,h4⟩:=bind_some_inv h2
  have ei:=h.isD h3
  rcases h.opA x with e|e
  ·rw[e,ei,hob] at hq;exact same hq rfl
  ·rw[e] at h4
   cases t<;>simp[AV.asList,gh] at h4
 case lookup T x i c=>
  obtain⟨t,h1,h2⟩:=bind_some_inv hq
  rcases h.opA x with e|e
  ·rw[e,hob] at h2 hq
   have ei:s'.opA i=s.opA i:=by
    split at h2<;>first|(cases h2;done)|skip
    split at h2<;>first|(cases h2;done)|skip
    split at h2<;>first|(cases h2;done)|skip
    split at h2<;>first|(cases h2;done)|skip
    obtain⟨p,h3,_⟩:=bind_some_inv h2
    exact h.isD h3
   rw[ei] at hq
   exact same hq rfl
  ·rw[e] at h2;cases h2
 case field T x f=>
  obtain⟨t,h1,h2⟩:=bind_some_inv hq
  rcases h.opA x with e|e
  ·rw[e] at hq;exact same hq rfl
  ·rw[e] at h2;cases t<;>cases h2
 case index T x i=>
  obtain⟨t,h1,h2⟩:=bind_some_inv hq
  obtain⟨p,h3,h4⟩:=bind_some_inv h2
  have ei:=h.isD h3
  rcases h.opA x with e|e
  ·rw[e,ei] at hq;exact same hq rfl
  ·rw[e] at h4;cases t<;>cases h4
 case binOp op T x y T'=>
  obtain⟨t,h1,h2⟩:=bind_some_inv hq
  obtain⟨p,h3,h4⟩:=bind_some_inv h2
  obtain⟨q,h5,h6⟩:=bind_some_inv h4
  rw[h.isD h3,h.isD h5] at hq
  exact same hq rfl
 case unOp op T x=>
  obtain⟨p,h3,h4⟩:=bind_some_inv hq
  rw[h.isD h3] at hq
  exact same hq rfl
 case convert U T x=>
  obtain⟨u,h1,h2⟩:=bind_some_inv hq
  obtain⟨t,h1',h2⟩:=bind_some_inv h2
  obtain⟨p,h3,h4⟩:=bind_some_inv h2
  rw[h.isD h3] at hq
  exact same hq rfl
 case nilCheck x=>
  rcases h.opA x with e|e
  ·rw[e] at hq;exact same hq rfl
  ·rw[e] at hq;cases hq
 case extract x i=>
  rcases h.opA x with e|e
  ·rw[e] at hq;exact same hq rfl
  ·rw[e] at hq;cases hq
 case build T ps=>
  obtain⟨t,h1,h2⟩:=bind_some_inv hq
  rw[h1,Option.bind_some]
  cases t<;>simp only at h2 ⊢<;>(try (cases h2;done))
  case st ts=>
   split at h2
   ·rename_i hs
    rw[if_pos hs]
    split at h2<;>first|(cases h2;done)|skip
    rename_i hall
    have key:∀ (l:List (Nat×Operand)),l.all (eM s' ts)=true->l.all (eM s ts)=true/\(l.map fun p=>(p.1,s'.opA p.2))=l.map fun p=>(p.1,s.opA p.2):=by
     intro l
     induction l with
     | nil=>intro _;exact⟨rfl,rfl⟩
     | cons p l ih=>
      intro hh
      simp only[List.all_cons,Bool.and_eq_true] at hh
      obtain⟨k1,k2⟩:=ih hh.2
      have h3:=hh.1
      have e:s'.opA p.2=s.opA p.2:=by
       rcases h.opA p.2 with e|e
       ·exact e
       ·unfold eM at h3
        rw[e] at h3
        split at h3
        ·rename_i u _;cases u<;>simp[AV.fits] at h3
        ·cases h3
      have h3':eM s ts p=true:=by unfold eM at h3 ⊢;rw[e] at h3;exact h3
      simp only[List.all_cons,Bool.and_eq_true,List.map_cons,e,k2]
      exact⟨⟨h3',k1⟩,trivial⟩
    obtain⟨k1,k2⟩:=key _ hall
    rw[if_pos k1,<-k2]
    exact⟨v',h2,.inl rfl⟩
   ·rename_i hs
    rw[if_neg hs]
    obtain⟨l,h3,h4⟩:=bind_some_inv h2
    rw[h.partsD _ _ h3,Option.bind_some]
    exact⟨v',h4,.inl rfl⟩
  case arr n e=>
   obtain⟨l,h3,h4⟩:=bind_some_inv h2
   rw[h.partsD _ _ h3,Option.bind_some]
   exact⟨v',h4,.inl rfl⟩
 case buildSlice T n ps=>
  obtain⟨t,h1,h2⟩:=bind_some_inv hq
  rw[h1,Option.bind_some]
  cases t<;>simp only at h2 ⊢<;>(try (cases h2;done))
  split at h2<;>first|(cases h2;done)|skip
  rename_i hn
  rw[if_pos hn]
  obtain⟨d,h3,h4⟩:=bind_some_inv h2
  obtain⟨l,h5,h6⟩:=bind_some_inv h4
  rw[h3,Option.bind_some,h.partsD _ _ h5,Option.bind_some,<-hba]
  exact⟨v',h6,.inl rfl⟩
 case slice T x lo hi mx=>
  cases mx with
  | some m=>cases hq
  | none=>
   obtain⟨t,h1,h2⟩:=bind_some_inv hq
   cases t<;>simp only at h2<;>(try (cases h2;done))
   case arr m e=>
    rcases h.opA x with ex|ex
    ·rw[ex] at h2 hq
     rw[hob] at hq
     have key:(∀ i,lo=some i->s'.opA i=s.opA i)/\(∀ i,hi=some i->s'.opA i=s.opA i):=by
      clear hq
      split at h2<;>first|(cases h2;done)|skip
      split at h2<;>first|(cases h2;done)|skip
      obtain⟨lo',h5,h6⟩:=bind_some_inv h2
      obtain⟨hi',h7,h8⟩:=bind_some_inv h6
      refine⟨fun i hi=>?_,fun i hi=>?_⟩
      ·subst hi
       obtain⟨p,h9,_⟩:=bind_some_inv h5
       exact h.isD h9
      ·subst hi
       obtain⟨p,h9,_⟩:=bind_some_inv h7
       exact h.isD h9
     obtain⟨elo,ehi⟩:=key
     clear h2
     cases lo<;>cases hi<;>simp only at hq ⊢
     ·exact same hq rfl
     ·rw[ehi _ rfl] at hq;exact same hq rfl
     ·rw[elo _ rfl] at hq;exact same hq rfl
     ·rw[elo _ rfl,ehi _ rfl] at hq;exact same hq rfl
    ·rw[ex] at h2;cases h2
   obtain⟨l,h3,h4⟩:=bind_some_inv h2
   obtain⟨lo',h5,h6⟩:=bind_some_inv h4
   obtain⟨hi',h7,h8⟩:=bind_some_inv h6
   have ex:=h.asList h3
   have elo:∀ i,lo=some i->s'.opA i=s.opA i:=fun i hi=>by
    subst hi
    obtain⟨p,h9,_⟩:=bind_some_inv h5
    exact h.isD h9
   have ehi:∀ i,hi=some i->s'.opA i=s.opA i:=fun i hi=>by
    subst hi
    obtain⟨p,h9,_⟩:=bind_some_inv h7
    exact h.isD h9
   rw[ex,hob] at hq
   cases lo<;>cases hi<;>simp only at hq ⊢
   ·exact same hq rfl
   ·rw[ehi _ rfl] at hq;exact same hq rfl
   ·rw[elo _ rfl] at hq;exact same hq rfl
   ·rw[elo _ rfl,ehi _ rfl] at hq;exact same hq rfl
 case sliceToArrayPointer T x=>
  obtain⟨t,h1,h2⟩:=bind_some_inv hq
  rcases h.opA x with e|e
  ·rw[e,hob] at hq;exact same hq rfl
  ·rw[e] at h2;cases t<;>first|(cases h2;done)|(simp[AV.asList,gh] at h2;done)
 case makeFunc fn first captured=>
  cases fn<;>simp only at hq ⊢<;>(try (cases hq;done))
  split at hq<;>first|(cases hq;done)|skip
  rename_i hh
  have key:∀ (l:List Operand),(l.all fun x=>eP (s'.opA x))=true->(l.all fun x=>eP (s.opA x))=true/\l.map s'.opA=l.map s.opA:=by
   intro l
   induction l with
   | nil=>intro _;exact⟨rfl,rfl⟩
   | cons p l ih=>
    intro hh
    simp only[List.all_cons,Bool.and_eq_true] at hh
    obtain⟨k1,k2⟩:=ih hh.2
    have h3:=hh.1
    have e:s'.opA p=s.opA p:=by
     rcases h.opA p with e|e
     ·exact e
     ·rw[e] at h3;simp[eP] at h3
    rw[e] at h3
    simp only[List.all_cons,Bool.and_eq_true,List.map_cons,e,k2]
    exact⟨⟨h3,k1⟩,trivial⟩
  obtain⟨k1,k2⟩:=key _ hh.2
  rw[if_pos ⟨hh.1,k1⟩,<-k2]
  exact⟨v',hq,.inl rfl⟩
 case call c=>
  obtain⟨callee,args,argTypes⟩:=c
  cases callee<;>simp only at hq ⊢<;>(try (cases hq;done))
  case value f=>
   cases f<;>simp only at hq ⊢<;>(try (cases hq;done))
   case func f=>
    obtain⟨g,h1,h2⟩:=bind_some_inv hq
    cases hfr:Nat.beq (E.free f) 0 with
    | false=>rw[hfr] at h2;cases h2
    | true=>
    rw[hfr] at h2
    simp only[cond_true] at h2
    obtain⟨xs,h3,h4⟩:=bind_some_inv h2
    rw[h1,Option.bind_some,cond_true,h.toDl _ _ h3,Option.bind_some]
    exact⟨v',h4,.inl rfl⟩
   case tmp t=>
    split at hq<;>first|(cases hq;done)|skip
    rename_i f l ht
    obtain⟨g,h1,h2⟩:=bind_some_inv hq
    cases hfr:(Nat.beq (E.free f) l.length&&cK (pA l)) with
    | false=>rw[hfr] at h2;cases h2
    | true=>
    rw[hfr] at h2
    simp only[cond_true] at h2
    obtain⟨xs,h3,h4⟩:=bind_some_inv h2
    have e:s.tm t=.clo f l:=by
     rcases h.opA (.tmp t) with e|e
     ·exact e.symm.trans ht
     ·have:s'.tm t=.undef:=e
      rw[ht] at this;cases this
    rw[e]
    simp only
    rw[h1,Option.bind_some,hfr,cond_true,h.toDl _ _ h3,Option.bind_some]
    rw[hob] at h4
    exact⟨v',h4,.inl rfl⟩
  case builtin b=>
   cases b<;>simp only at hq ⊢<;>(try (cases hq;done))
   case len=>
    obtain⟨T,h1,h2⟩:=bind_some_inv hq
    obtain⟨t,h3,h4⟩:=bind_some_inv h2
    obtain⟨x,h5,h6⟩:=bind_some_inv h4
    rcases h.opA x with e|e
    ·rw[h1,Option.bind_some,h3,Option.bind_some,h5,Option.bind_some]
     cases t<;>simp only at h6 ⊢<;>first
      | (cases h6;done)
      | (rw[e,hob] at h6;exact same h6 rfl)
      | (rw[e] at h6;exact⟨v',h6,.inl rfl⟩)
      | exact⟨v',h6,.inl rfl⟩
    ·rw[h1,Option.bind_some,h3,Option.bind_some,h5,Option.bind_some]
     cases t<;>simp only at h6 ⊢<;>first
      | (cases h6;done)
      | (rw[e] at h6;simp[AV.asList,gh] at h6;done)
      | (rw[e] at h6;simp[Sy.isD] at h6;done)
      | exact⟨v',h6,.inl rfl⟩
   case min=>
    split at hq<;>first|(cases hq;done)|skip
    obtain⟨p,h3,h4⟩:=bind_some_inv hq
    obtain⟨q,h5,h6⟩:=bind_some_inv h4
    rw[h.isD h3,h.isD h5] at hq
    exact same hq rfl
   case max=>
    split at hq<;>first|(cases hq;done)|skip
    obtain⟨p,h3,h4⟩:=bind_some_inv hq
    obtain⟨q,h5,h6⟩:=bind_some_inv h4
    rw[h.isD h3,h.isD h5] at hq
    exact same hq rfl
end
def val(E:Env)(ops:Array Oper)(s:St)(o:Oper):Option AV:=
 if ij s o then none else
 match o.guard with
 | none=>qv E s o some
 | some (j,want)=>((ops[j]?).bind (·.dst)).bind fun g=>tL (s.tm g) (some .gone) ((s.tm g).truth.bind fun c=>if c==want then qv E s o some else some .gone)
def seqV(E:Env)(ops:Array Oper):List Oper->St->Option St
 | [],s=>some s
 | o::l,s=>(val E ops s o).bind fun v=>seqV E ops l (s.put o.dst v)
section
variable{E:Env}{ops:Array Oper}{s s':St}
theorem Wk.lkd_eq(h:Wk s s')(o:Oper):ij s' o=ij s o:=by simp only[ij,h.lkS]
theorem Wk.val(h:Wk s s'){o:Oper}{v':AV}(hq:Sy.val E ops s' o=some v'):∃ v,Sy.val E ops s o=some v/\(v'=v\/v'=.undef):=by
 unfold Sy.val at hq ⊢
 rw[h.lkd_eq] at hq
 split at hq<;>first|(cases hq;done)|skip
 rename_i hlk
 rw[if_neg hlk]
 cases hg:o.guard with
 | none=>rw[hg] at hq;exact h.qv hq
 | some p=>
  obtain⟨j,want⟩:=p
  rw[hg] at hq
  simp only at hq ⊢
  obtain⟨g,h1,h2⟩:=bind_some_inv hq
  rw[h1,Option.bind_some]
  by_cases hgo:s'.tm g=.gone
  ·have e:s'.tm g=s.tm g:=by
    rcases h.tm g with e|e
    ·exact e
    ·rw[hgo] at e;cases e
   rw[hgo,dw] at h2
   rw[<-e,hgo,dw]
   exact⟨v',h2,.inl rfl⟩
  rw[eu hgo] at h2
  obtain⟨c,h3,h4⟩:=bind_some_inv h2
  have e:s'.tm g=s.tm g:=h.truth (x:=.tmp g) h3
  rw[<-e,eu hgo,h3,Option.bind_some]
  split at h4
  ·rename_i hc;rw[if_pos hc];exact h.qv h4
  ·rename_i hc;rw[if_neg hc];exact⟨v',h4,.inl rfl⟩
theorem Wk.seqV:∀ (l:List Oper) {s s' t':St},Wk s s'->Sy.seqV E ops l s'=some t'->∃ t,Sy.seqV E ops l s=some t/\Wk t t'
 | [],s,s',t',h,hq=>by simp only[Sy.seqV,Option.some.injEq] at hq;subst hq;exact⟨s,rfl,h⟩
 | o::l,s,s',t',h,hq=>by
  simp only[Sy.seqV] at hq ⊢
  obtain⟨v',h1,h2⟩:=bind_some_inv hq
  obtain⟨v,h3,h4⟩:=h.val h1
  rw[h3,Option.bind_some]
  exact Wk.seqV l (h.put o.dst h4) h2
theorem j5:∀ (l l':List Oper) (s:St),Sy.seqV E ops (l++l') s=(Sy.seqV E ops l s).bind (Sy.seqV E ops l')
 | [],l',s=>rfl
 | o::l,l',s=>by
  simp only[List.cons_append,Sy.seqV]
  cases val E ops s o with
  | none=>rfl
  | some v=>exact j5 l l' _
theorem Wk.killD_mono:∀ (l:List Oper) {s s':St},Wk s s'->Wk (Sy.killD s l) (Sy.killD s' l)
 | [],_,_,h=>h
 | o::l,_,_,h=>Wk.killD_mono l (h.put o.dst (.inl rfl))
theorem iH:∀ (l:List Oper) {s t:St},Sy.seqV E ops l s=some t->Wk t (killD s l)
 | [],s,t,h=>by simp only[Sy.seqV,Option.some.injEq] at h;subst h;exact Wk.refl s
 | o::l,s,t,h=>by
  simp only[Sy.seqV] at h
  obtain⟨v,h1,h2⟩:=bind_some_inv h
  have k1:=iH l h2
  refine k1.trans ?_
  show Wk (killD (s.put o.dst v) l) (killD (s.put o.dst .undef) l)
  exact Wk.killD_mono l ((Wk.refl s).put o.dst (.inr rfl))
end
end Sy
end
noncomputable section
namespace Sy
open Go
def fo(o:Oper):Bool:=dV o||(match o.op with|.alloc _=>true|_=>false)
theorem lW{R:Type}(E:Env)(s:St){o:Oper}(h:fo o=true)(K:St->Option R):og E s o K=qv E s o fun v=>K (s.put o.dst v):=by
 obtain⟨dst,op,ty,pos,after,guard⟩:=o
 cases op<;>first|rfl|(simp[fo,dV] at h;done)|skip
 rename_i c
 obtain⟨callee,args,argTypes⟩:=c
 cases callee<;>first|rfl|skip
 rename_i b
 cases b<;>first|rfl|(simp[fo,dV] at h)
theorem eU{R:Type}{E:Env}{s:St}{o:Oper}{K:AV->Option R}{r:R}(h:qv E s o K=some r):∃ v,qv E s o some=some v/\K v=some r:=by
 rw[B5] at h
 exact bind_some_inv h
theorem gH(d:Option Nat):∀ (l:List (Nat×Oper)),l=(cS d l).1++(cS d l).2/\∀ p q,(cS d l).2=p::q->ml d p.2=true
 | []=>⟨rfl,fun p q h=>by simp[cS] at h⟩
 | p::l=>by
  simp only[cS]
  split
  ·rename_i hp
   exact⟨rfl,fun p' q h=>by cases h;exact hp⟩
  ·obtain⟨h1,h2⟩:=gH d l
   exact⟨by simp only[List.cons_append];rw[<-h1],h2⟩
theorem qx{s:St}{d:Nat}{v:AV}(h:s.tm d=v):s.put (some d) v=s:=by
 simp only[St.put]
 split
 ·have:(fun i=>if i=d then v else s.tm i)=s.tm:=by
   funext i
   by_cases e:i=d
   ·subst e;simp[h]
   ·simp[e]
  rw[this]
 ·rfl
theorem pb{s:St}{d:Nat}{v:AV}(h:d<s.nt):(s.put (some d) v).tm d=v:=by simp[St.put,h]
theorem gJ{v:AV}{b:Bool}(h:v.truth=some b):v=.d .bool (.bool b):=by
 cases v<;>simp only[AV.truth] at h<;>first|(cases h;done)|skip
 split at h<;>first|(cases h;done)|skip
 rename_i ht
 rw[Ty.eq_of_beq _ _ ht,tb h]
theorem jL{R:Type}{s:St}{g:Nat}{c want:Bool}(hc:(s.tm g).truth=some c){A B:St->Option R}{r:R}
  (h:(if c then(if want then A (s.put (some g) (.d .bool (.bool true))) else B (s.put (some g) (.d .bool (.bool true)))) else(if want then B (s.put (some g) (.d .bool (.bool false))) else A (s.put (some g) (.d .bool (.bool false)))))=some r):(if c==want then A s else B s)=some r:=by
 have e:=qx (gJ hc)
 cases c<;>cases want<;>simp only[Bool.false_eq_true,if_true,if_false] at h<;>rw[e] at h<;>simpa using h
theorem ov{d:Option Nat}{o:Oper}(h:ml d o=true):∃ c x y,o.op=.pick c x y:=by
 cases hop:o.op<;>first|exact⟨_,_,_,rfl⟩|(simp[ml,hop] at h)
theorem je{o:Oper}(h:dV o=true):fo o=true:=by simp[fo,h]
theorem z8{o:Oper}{c x y:Operand}(h:o.op=.pick c x y):fo o=true:=by simp[fo,dV,h]
theorem pO{E:Env}{ops:Array Oper}:∀ (N:Nat) (R:Type) (l:List (Nat×Oper)) (s:St) (k:St->Option R) (r:R) (m:Nat) (an:Ann),m<=l.length->(∀ p∈l.take m,fo p.2=true/\iu E p.2=false) ->
  ((∀ p∈l.drop m,∀ c x y,p.2.op≠.pick c x y)\/∀ p q,l.drop m=p::q->io E p.2=false)->dD E N R ops an l s k=some r ->
  ∃ s' s'' N',seqV E ops ((l.take m).map Prod.snd) s=some s'/\Wk s' s''/\dD E N' R ops an (l.drop m) s'' k=some r:=by
 intro N
 induction N with
 | zero=>intro R l s k r m an _ _ _ h;simp[dD] at h
 | succ N ih=>
  intro R l s k r m an hm hq ht h
  cases m with
  | zero=>exact⟨s,s,N+1,rfl,Wk.refl s,by simpa using h⟩
  | succ m=>
   cases l with
   | nil=>simp at hm
   | cons p l=>
    obtain⟨i,o⟩:=p
    simp only[List.length_cons,Nat.add_le_add_iff_right] at hm
    obtain⟨ho,hin⟩:=hq (i,o) (by simp)
    simp only at ho hin
    have hq':∀ p∈l.take m,fo p.2=true/\iu E p.2=false:=fun p hp=>hq p (by simp[hp])
    have ht':(∀ p∈l.drop m,∀ c x y,p.2.op≠.pick c x y)\/∀ p q,l.drop m=p::q->io E p.2=false:=by simpa using ht
    have hnx:o9 E o an=an:=by simp[o9,hin]
    have hev1:∀ (s:St) (K:St->Option R),xb E an l s o K=og E s o K:=fun s K=>by simp[xb,hin]
    simp only[dD,hnx,hev1] at h
    have step:∀ {v:AV},val E ops s o=some v->dD E N R ops an l (s.put o.dst v) k=some r->∃ s' s'' N',seqV E ops (((i,o)::l).take (m+1) |>.map Prod.snd) s=some s'/\Wk s' s''/\dD E N' R ops an (((i,o)::l).drop (m+1)) s'' k=some r:=by
     intro v hv hr
     obtain⟨s',s'',N',h1,h2,h3⟩:=ih R l (s.put o.dst v) k r m an hm hq' ht' hr
     refine⟨s',s'',N',?_,h2,by simpa using h3⟩
     simp only[List.take_succ_cons,List.map_cons,seqV,hv,Option.bind_some]
     exact h1
    cases hg:o.guard with
    | some jw=>
     obtain⟨j,want⟩:=jw
     rw[hg] at h
     simp only at h
     split at h<;>first|(cases h;done)|skip
     rename_i g hgd
     split at h<;>first|(cases h;done)|skip
     rename_i hlk
     by_cases hgo:s.tm g=.gone
     ·rw[hgo,dw] at h
      exact step (by unfold val;rw[if_neg hlk,hg];simp only;rw[hgd,Option.bind_some,hgo,dw]) h
     rw[eu hgo] at h
     obtain⟨c,h1,h2⟩:=bind_some_inv h
     replace h2:=jL (A:=fun s=>og E s o fun s'=>dD E N R ops an l s' k) (B:=fun s=>dD E N R ops an l (s.put o.dst .gone) k) h1 h2
     split at h2
     ·rename_i hc
      rw[lW E s ho] at h2
      obtain⟨v,h3,h4⟩:=eU h2
      exact step (by unfold val;rw[if_neg hlk,hg];simp only;rw[hgd,Option.bind_some,eu hgo,h1,Option.bind_some,if_pos hc];exact h3) h4
     ·rename_i hc
      exact step (by unfold val;rw[if_neg hlk,hg];simp only;rw[hgd,Option.bind_some,eu hgo,h1,Option.bind_some,if_neg hc]) h2
    | none=>
     rw[hg] at h
     simp only at h
     split at h
     ·
      rename_i hgu
      simp only[j4,Bool.and_eq_true] at hgu
      obtain⟨_,hcond⟩:=hgu
      obtain⟨e1,e2⟩:=gH o.dst l
      generalize cS o.dst l=sp at *
      obtain⟨seg,rest⟩:=sp
      simp only at h e1 e2 hcond
      split at h<;>first|(cases h;done)|skip
      rename_i _ _ jj pk l'' d hd
      simp only[hd] at hcond
      simp only[Bool.and_eq_true,decide_eq_true_eq,Bool.not_eq_true',List.all_eq_true] at hcond
      obtain⟨⟨⟨⟨⟨c1,c2⟩,c3⟩,cI⟩,c4⟩,c5⟩:=hcond
      have hpk:=e2 _ _ rfl
      obtain⟨pc,px,py,hop⟩:=ov hpk
      have hseg:seg.length<m:=by
       rcases Nat.lt_or_ge seg.length m with h0|h0
       ·exact h0
       ·exfalso
        rcases ht' with ht'|ht'
        ·have:(jj,pk)∈l.drop m:=by
          rw[e1,List.drop_append_of_le_length h0]
          simp
         exact ht' _ this _ _ _ hop
        ·have e3:l.drop m=seg.drop m++(jj,pk)::l'':=by rw[e1,List.drop_append_of_le_length h0]
         cases hsd:seg.drop m with
         | nil=>
          rw[hsd] at e3
          have:=ht' _ _ e3
          have hop':pk.op=.pick pc px py:=hop
          simp[io,iu,dV,hop'] at this
         | cons p q=>
          rw[hsd] at e3
          have h1:=ht' _ _ e3
          have h2:=c4 p (List.mem_of_mem_drop (i:=m) (by rw[hsd];simp))
          simp[io,h2.1.1,h2.2] at h1
      unfold GS at h
      split at h<;>first|(cases h;done)|skip
      rename_i hlk
      rw[lW E s ho] at h
      obtain⟨v,h3,h4⟩:=eU h
      rw[hd] at h4
      obtain⟨c,h5,h6⟩:=bind_some_inv h4
      rw[pb c1] at h5
      have hv:=gJ h5
      subst hv
      obtain⟨x,h7,h8⟩:=bind_some_inv h6
      have hsame:∀ b,b=c->(s.put (some d) (.d .bool (.bool c))).put (some d) (.d .bool (.bool b))=s.put (some d) (.d .bool (.bool c)):=fun b hb=>qx (by rw[pb c1,hb])
      have hsegv:∃ k2:St->Option Bool,(∀ s2,k2 s2=qv E s2 pk AV.truth)/\dD E N Bool ops .leaf seg (s.put (some d) (.d .bool (.bool c))) k2=some x:=by
       cases c
       ·simp only[Bool.false_eq_true,if_false] at h7
        rw[hsame false rfl] at h7
        exact⟨_,fun _=>rfl,h7⟩
       ·simp only[if_true] at h7
        rw[hsame true rfl] at h7
        exact⟨_,fun _=>rfl,h7⟩
      obtain⟨k2,hk2,h7⟩:=hsegv
      obtain⟨s2,s2',N2,h9,h10,h11⟩:=ih Bool seg _ k2 x seg.length .leaf (Nat.le_refl _) (fun p hp=>by
       rw[List.take_length] at hp
       exact⟨je (c4 p hp).1.1,(c4 p hp).2⟩) (.inl fun p hp=>by simp at hp) h7
      rw[List.drop_length] at h11
      rw[List.take_length] at h9
      have h12:k2 s2'=some x:=by cases N2<;>simpa [dD] using h11
      rw[hk2] at h12
      obtain⟨v2,h13,h14⟩:=eU h12
      have hv2:=gJ h14
      obtain⟨v3,h15,h16⟩:=h10.qv h13
      have hv3:v3=.d .bool (.bool x):=by
       rcases h16 with e|e
       ·rw[<-e];exact hv2
       ·rw[hv2] at e;cases e
      subst hv3
      have hwk:Wk (s2.put pk.dst (.d .bool (.bool x))) ((killD (s.put (some d) (.d .bool (.bool c))) (seg.map Prod.snd)).put pk.dst (.d .bool (.bool x))):=(iH _ h9).put pk.dst (.inl rfl)
      have hlen:l.length=seg.length+1+l''.length:=by rw[e1];simp;omega
      obtain⟨s4,s4',N4,h17,h18,h19⟩:=ih R l'' _ k r (m-seg.length-1) an (by omega) (fun p hp=>hq' p (by
       rw[e1,List.take_append,List.mem_append]
       right
       rw[show m-seg.length=(m-seg.length-1)+1 by omega,List.take_succ_cons]
       exact List.mem_cons_of_mem _ hp)) (by
       have e4:l.drop m=l''.drop (m-seg.length-1):=by
        conv=>lhs;rw[e1,List.drop_append,List.drop_of_length_le (by omega),List.nil_append,show m-seg.length=(m-seg.length-1)+1 by omega,List.drop_succ_cons]
       rwa [e4] at ht') h8
      obtain⟨s5,h20,h21⟩:=Wk.seqV _ hwk h17
      refine⟨s5,s4',N4,?_,h21.trans h18,?_⟩
      ·have etake:l.take m=seg++(jj,pk)::l''.take (m-seg.length-1):=by
        conv=>lhs;rw[e1,List.take_append,List.take_of_length_le (by omega),show m-seg.length=(m-seg.length-1)+1 by omega,List.take_succ_cons]
       have hval:val E ops s o=some (.d .bool (.bool c)):=by unfold val;rw[if_neg hlk,hg];exact h3
       have hlk2:¬ ij s2 pk=true:=by
        have:s2.lkS=s.lkS:=by
         have w1:=(iH _ h9).lkS
         have w2:∀ (l:List Oper) (s:St),(killD s l).lkS=s.lkS:=by
          intro l
          induction l with
          | nil=>intro s;rfl
          | cons o l ih=>intro s;rw[killD,ih];exact(St.put_fields s o.dst .undef).2.2.2.2.1
         rw[<-w1,w2]
         exact(St.put_fields s (some d) _).2.2.2.2.1
        simp only[ij,this]
        have:=c5
        simp only[ij] at this
        rw[this];simp
       have hval2:val E ops s2 pk=some (.d .bool (.bool x)):=by
        unfold val
        rw[if_neg hlk2]
        have:pk.guard=none:=by simpa using c2
        rw[this];exact h15
       simp only[List.take_succ_cons,List.map_cons,seqV,hval,Option.bind_some,etake,List.map_append,j5,hd,h9,hval2]
       exact h20
      ·have edrop:l.drop m=l''.drop (m-seg.length-1):=by
        conv=>lhs;rw[e1,List.drop_append,List.drop_of_length_le (by omega),List.nil_append,show m-seg.length=(m-seg.length-1)+1 by omega,List.drop_succ_cons]
       simp only[List.drop_succ_cons,edrop]
       exact h19
     ·split at h<;>first|(cases h;done)|skip
      rename_i hlk
      rw[lW E s ho] at h
      obtain⟨v,h3,h4⟩:=eU h
      exact step (by unfold val;rw[if_neg hlk,hg];exact h3) h4
end Sy
end
noncomputable section
namespace Sy
open Go
open Go.ChangeMaps (setBlock)
variable{ro:Option Nat}{nn:Nat}
theorem j7{c c':Cx}(hw:∀ b o,c.S b o->c'.w.cell? ⟨b,o,none⟩=c.w.cell? ⟨b,o,none⟩)(hS:∀ b o,c.S b o->c'.S b o){x:AV}{v:Value}(h:AR c x v):AR c' x.still v:=by
 cases x<;>simp only[AV.still]<;>try (simp only[AR];done)
 case d t x=>
  simp only[AR] at h ⊢
  rcases h with⟨k1,k2,k3⟩|⟨ts,k1,k0,k2,k3⟩
  ·exact .inl ⟨k1,k2,k3.mono hw hS⟩
  ·exact .inr ⟨ts,k1,k0,k2,k3.mono hw hS⟩
 case own t u l=>
  simp only[AR,AC] at h
  obtain⟨h0,hn,h1,a,cap,h2,h3,_⟩:=h
  refine df (by simpa only[am] using hn) (by simp only[wt];exact⟨l,rfl,h1⟩) ?_
  have hv:v=.slice a l.length cap:=au h0 h2
  subst hv
  exact eZ.of_CR (h3.mono hw hS)
 case fptr t x=>
  simp only[AR,AC] at h ⊢
  obtain⟨h0,h1,h2,b,off,h3,h4⟩:=h
  exact⟨h0,h1,h2,b,off,h3,h4.mono hw hS⟩
section
variable{P:Program}{E:Env}{w0:Root}{S S':Nat->Nat->Prop}{γ γ':Nat->Option Nat}{β β' β'':Nat->Option (Nat×Nat)}{s sc:St}{a:Act}{w w':World}
theorem vN{o':Ob}{x:Option Ob}(h:ja x (some o')=true):∃ o,x=some o/\∀ p,eh o' p=eh o p/\ci o' p=ci o p:=by
 cases x with
 | none=>simp[ja] at h
 | some o=>
  refine⟨o,rfl,fun p=>?_⟩
  cases o<;>cases o'<;>simp only[ja] at h<;>first|(cases h;done)|skip
  ·have:=Ty.eq_of_beq _ _ h;subst this;exact⟨rfl,rfl⟩
  ·have:=Ty.eq_of_beq _ _ h;subst this;cases p<;>exact⟨rfl,rfl⟩
  ·exact⟨rfl,rfl⟩
theorem um{v:Nat}(h:v∈cR s):v ∉ s.dead/\∃ t ty l,t<s.nt/\s.tm t=.own ty v l:=by
 unfold cR at h
 obtain⟨t,h1,h2⟩:=List.mem_filterMap.1 h
 split at h2<;>first|(cases h2;done)|skip
 rename_i ty u l ht
 split at h2<;>first|(cases h2;done)|skip
 rename_i hd
 cases h2
 exact⟨by simpa using hd,t,ty,l,List.mem_range.1 h1,ht⟩
theorem tT{v t:Nat}{ty:Ty}{l:List D}(h1:t<s.nt)(h2:s.tm t=.own ty v l)(h3:v ∉ s.dead):v∈cR s:=by
 unfold cR
 refine List.mem_filterMap.2 ⟨t,List.mem_range.2 h1,?_⟩
 rw[h2]
 simp[h3]
theorem wi{t:Ty}{id:Nat}{p:List Nat}{cs:List Value}{dead dead':List Nat}(hg:∀ id b,γ id=some b->γ' id=some b)(hl:ja (s.ob id) (sc.ob id)=true)(h:AC ⟨w,S,γ,β,s.ob,dead⟩ (.ptr t id p) cs):AC ⟨w',S',γ',β'',sc.ob,dead'⟩ (.ptr t id p) cs:=by
 simp only[AC] at h ⊢
 obtain⟨b,off,e,k1,k2⟩:=h
 refine⟨b,off,e,hg _ _ k1,fun o ho=>?_⟩
 rw[ho] at hl
 obtain⟨o0,q1,q2⟩:=vN (o':=o) hl
 obtain⟨q3,q4⟩:=q2 p
 obtain⟨q5,q6⟩:=k2 o0 q1
 rw[q3,q4];exact⟨q5,q6⟩
theorem sK{dead dead':List Nat}(hg:∀ id b,γ id=some b->γ' id=some b):∀ (l:List AV) (cs:List Value),l.all (BZ s.ob sc.ob)=true->kI ⟨w,S,γ,β,s.ob,dead⟩ l cs->kI ⟨w',S',γ',β'',sc.ob,dead'⟩ l cs
 | [],cs,_,h=>by simpa only[kI] using h
 | x::l,cs,hp,h=>by
  simp only[List.all_cons,Bool.and_eq_true] at hp
  simp only[kI] at h ⊢
  obtain⟨v,c2,rfl,k1,k2⟩:=h
  refine⟨v,c2,rfl,?_,sK hg l c2 hp.2 k2⟩
  cases x<;>simp only[BZ] at hp<;>first|(cases hp.1;done)|skip
  exact wi hg hp.1 k1
theorem Fs{n:Nat}{tk:List Nat}(hcell:∀ b o,S b o->w'.cell? ⟨b,o,none⟩=w.cell? ⟨b,o,none⟩)(hsub:∀ b o,S b o->S' b o)(hg:∀ id b,γ id=some b->γ' id=some b)
  {x:AV} {v:Value} (htok:∀ t u l,x=.own t u l->u ∉ s.dead->u∈tk/\β'' (n+tk.idxOf u)=β u/\∀ b e,β u=some (b,e)->∀ m,kF w b=some m->kF w' b=some m)
  (h:AR ⟨w,S,γ,β,s.ob,s.dead⟩ x v):AR ⟨w',S',γ',β'',sc.ob,sc.dead⟩ (nJ s sc n tk x) v:=by
 cases x with
 | d t y=>exact j7 (c:=⟨w,S,γ,β,s.ob,s.dead⟩) (x:=.d t y) hcell hsub h
 | fptr t y=>exact j7 (c:=⟨w,S,γ,β,s.ob,s.dead⟩) (x:=.fptr t y) hcell hsub h
 | own t u l=>
  simp only[nJ]
  split
  ·exact j7 (c:=⟨w,S,γ,β,s.ob,s.dead⟩) (x:=.own t u l) hcell hsub h
  ·rename_i hd
   have hd':u ∉ s.dead:=by simpa using hd
   obtain⟨k0,k1,k2⟩:=htok t u l rfl hd'
   simp only[AR,AC] at h ⊢
   obtain⟨h0,h1,h2,A,cap,h3,h4,h5⟩:=h
   refine⟨h0,h1,h2,A,cap,h3,h4.mono hcell hsub,fun _=>?_⟩
   rcases h5 hd' with h6|⟨b,off,h6,h7,m,h8,h9⟩
   ·exact .inl h6
   ·exact .inr ⟨b,off,h6,k1.trans h7,m,k2 b _ h7 m h8,h9⟩
 | nils=>simpa only[nJ,AR,AC] using h
 | ptr t id p=>
  simp only[nJ]
  split
  ·rename_i hl
   simp only[AR] at h ⊢
   exact⟨h.1,wi hg hl h.2⟩
  ·simp only[AR]
 | mem t id=>simp only[nJ,AR]
 | st ts l=>simp only[nJ,AR]
 | clo f l=>
  simp only[nJ]
  split
  ·rename_i hl
   simp only[AR,AC] at h ⊢
   obtain⟨h0,caps,h1,h2⟩:=h
   exact⟨h0,caps,h1,sK hg l caps hl h2⟩
  ·simp only[AR]
 | map kt vt id=>
  simp only[nJ]
  split
  ·rename_i hl
   simp only[AR,AC] at h ⊢
   obtain⟨h0,b,e,k1,k2,k3,k4⟩:=h
   refine⟨h0,b,e,hg _ _ k1,k2,k3,fun o ho=>?_⟩
   cases hs:s.ob id with
   | none=>rw[hs,ho] at hl;simp[ja] at hl
   | some o0=>
    obtain⟨l,rfl⟩:=k4 o0 hs
    rw[hs,ho] at hl
    cases o<;>simp only[ja] at hl<;>first|(cases hl;done)|skip
    simp only[Bool.and_eq_true] at hl
    have e1:=Ty.eq_of_beq _ _ hl.1;have e2:=Ty.eq_of_beq _ _ hl.2
    subst e1;subst e2
    exact⟨_,rfl⟩
  ·simp only[AR]
 | yld id=>
  simp only[nJ,AR,AC] at h ⊢
  obtain⟨h0,L,e,k1⟩:=h
  exact⟨h0,L,e,hg _ _ k1⟩
 | sub sl t id p lo n=>simp only[nJ,AR]
 | gone=>simp only[nJ,AR]
 | undef=>simp only[nJ,AR]
theorem yJ(h:Rp w0 S γ β s a w){tk:List Nat}{sh:Nat->Prop}(htkd:tk=cR s)(hsh:sh=fun b=>(∃ id,γ id=some b)\/∃ v e,v ∉ tk++s.dead/\β v=some (b,e)){sI:St}{aI:Act}
  (hob:∀ j o,sI.ob j=some o->s.ob j=some o) (hfr:sI.fresh=s.fresh+1) (hdd:sI.dead=tk++s.dead) (hnt:aI.tmps.size=sI.nt) (htmu:∀ t,sI.nt<=t->sI.tm t=.undef)
  (htms:∀ t,t<aI.tmps.size->AR ⟨w,S,γ,β,sI.ob,tk++s.dead⟩ (sI.tm t) (aI.tmps.getD t undef)):Rp ⟨w,S,sh⟩ S γ β sI aI w:=by
 have ndd:∀ {u},u ∉ tk++s.dead->u ∉ s.dead:=fun hu hh=>hu (List.mem_append_right _ hh)
 have hb:sI.base=(s.fresh+1)*4096:=by simp only[St.base,hfr]
 have hb0:s.base+4096=(s.fresh+1)*4096:=by simp only[St.base];omega
 have le0:Cx.le ⟨w,S,γ,β,s.ob,s.dead⟩ ⟨w,S,γ,β,sI.ob,tk++s.dead⟩:=
  ⟨fun _ _ _=>rfl,fun _ _ hb=>hb,fun _ _ hb=>hb,fun id o ho _=>⟨o,hob _ _ ho,fun p=>⟨rfl,rfl⟩,fun t l e=>⟨l,e,rfl⟩,fun _ _ l e=>⟨l,e⟩⟩,fun u hu=>⟨ndd hu,fun b e he=>⟨he,fun n hn=>hn⟩⟩⟩
 refine⟨⟨rfl,rfl,rfl,Nat.le_refl _,Nat.le_refl _,fun _ _=>rfl⟩,fun t ht=>by rw[hdd];exact htms t ht,hnt,htmu,fun id o b ho hb=>?_,fun id b hb=>⟨fun ho=>ho.2 (by show sh b;rw[hsh];exact .inl ⟨id,hb⟩),(h.γn id b hb).2⟩,h.γi,fun id hid=>h.γf id ?_,fun u b e hu he=>?_,fun u u' b e e' hu hu'=>h.βi u u' b e e' (ndd (hdd ▸ hu)) (ndd (hdd ▸ hu')),fun u id b e hu=>h.βγ u id b e (ndd (hdd ▸ hu)),fun u hu=>h.βf u ?_,h.Sb,fun b o hb _=>hb⟩
 ·rw[hdd]
  exact(h.obs id o b (hob _ _ ho) hb).mono le0 rfl fun _ hh=>hh
 ·omega
 ·have hu':u ∉ tk++s.dead:=hdd ▸ hu
  obtain⟨k1,k2,k3⟩:=h.βn u b e (ndd hu') he
  exact⟨fun ho=>ho.2 (by show sh b;rw[hsh];exact .inr ⟨u,e,hu',he⟩),k2,k3⟩
 ·omega
theorem yj(h:Rp w0 S γ β s a w){tk:List Nat}{sh:Nat->Prop}(htkd:tk=cR s)(hsh:sh=fun b=>(∃ id,γ id=some b)\/∃ v e,v ∉ tk++s.dead/\β v=some (b,e))(htk:tk.length<=4096){a':Act}
  (n1:Rp ⟨w,S,sh⟩ S' γ' β' sc a' w') (nsub:∀ b o,S b o->S' b o) (ncell:∀ b o,S b o->w'.cell? ⟨b,o,none⟩=w.cell? ⟨b,o,none⟩) (ngam:∀ id b,γ id=some b->γ' id=some b) (nsz:w.heap.size<=w'.heap.size) :
  ∃ β'',Rp w0 S' γ' β'' (lL s sc) a w'/\Cx.le ⟨w',S',γ',β',sc.ob,sc.dead⟩ ⟨w',S',γ',β'',sc.ob,sc.dead⟩:=by
 have tkm:∀ u,u∈tk->u ∉ s.dead:=fun u hu=>by rw[htkd] at hu;exact(um hu).1
 have ndd:∀ {u},u ∉ tk++s.dead->u ∉ s.dead:=fun hu hh=>hu (List.mem_append_right _ hh)
 have hshn:∀ b,sh b->¬ w0.Old b:=fun b hb=>by
  rw[hsh] at hb
  rcases hb with⟨id,hb⟩|⟨u,e,hu,hb⟩
  ·exact(h.γn id b hb).1
  ·exact(h.βn u b e (ndd hu) hb).1
 have old1:∀ b,w0.Old b->(Root.mk w S sh).Old b:=fun b hb=>⟨Nat.lt_of_lt_of_le hb.1 h.ext.sz,fun hh=>hshn b hh hb⟩
 have tkOld:∀ u∈tk,∀ b e,β u=some (b,e)->(Root.mk w S sh).Old b:=fun u hu b e hb=>by
  refine⟨(h.βn u b e (tkm u hu) hb).2.1,fun hh=>?_⟩
  have hh:sh b:=hh
  rw[hsh] at hh
  rcases hh with⟨id,hh⟩|⟨u',e',hu',hh⟩
  ·exact h.βγ u id b e (tkm u hu) hb hh
  ·have:=h.βi u u' b e e' (tkm u hu) (ndd hu') hb hh
   subst this
   exact hu' (List.mem_append_left _ hu)
 obtain⟨n,hn⟩:∃ n,n=(sc.fresh+1)*4096:=⟨_,rfl⟩
 have hscb:sc.base+4096=n:=by rw[hn];simp only[St.base];omega
 obtain⟨β'',hβ⟩:∃ β'':Nat->Option (Nat×Nat),β''=fun u=>if n<=u then(tk[u-n]?).bind (fun x=>if tk.idxOf x=u-n then β x else none) else β' u:=⟨_,rfl⟩
 have bge:∀ u b e,n<=u->β'' u=some (b,e)->∃ x∈tk,u=n+tk.idxOf x/\β x=some (b,e):=fun u b e hu he=>by
  rw[hβ] at he
  simp only[if_pos hu] at he
  obtain⟨x,q1,q2⟩:=bind_some_inv he
  split at q2<;>first|(cases q2;done)|skip
  rename_i hix
  exact⟨x,List.mem_of_getElem? q1,by omega,q2⟩
 have blt:∀ u,u<n->β'' u=β' u:=fun u hu=>by rw[hβ];simp only;rw[if_neg (by omega)]
 have bix:∀ x∈tk,β'' (n+tk.idxOf x)=β x:=fun x hx=>by
  have hlt:tk.idxOf x<tk.length:=List.idxOf_lt_length_of_mem hx
  rw[hβ]
  simp only[Nat.le_add_right,if_true,Nat.add_sub_cancel_left]
  rw[List.getElem?_eq_getElem hlt,Option.bind_some,List.getElem_idxOf hlt,if_pos rfl]
 have hle:Cx.le ⟨w',S',γ',β',sc.ob,sc.dead⟩ ⟨w',S',γ',β'',sc.ob,sc.dead⟩:=
  ⟨fun _ _ _=>rfl,fun _ _ hb=>hb,fun _ _ hb=>hb,fun id o ho _=>⟨o,ho,fun p=>⟨rfl,rfl⟩,fun t l e=>⟨l,e,rfl⟩,fun _ _ l e=>⟨l,e⟩⟩,fun u hu=>⟨hu,fun b e he=>⟨(by
   have he':β' u=some (b,e):=he
   show β'' u=some (b,e)
   rcases Nat.lt_or_ge u n with hlt|hge
   ·rw[blt u hlt];exact he'
   ·rw[n1.βf u (by omega)] at he';cases he'),fun m hm=>hm⟩⟩⟩
 have nOld:∀ b,¬ (Root.mk w S sh).Old b->¬ w0.Old b:=fun b hb hh=>hb (old1 b hh)
 refine⟨β'',⟨⟨n1.ext.tape.trans h.ext.tape,n1.ext.os.trans h.ext.os,n1.ext.output.trans h.ext.output,Nat.le_trans h.ext.sz n1.ext.sz,Nat.le_trans h.ext.dr n1.ext.dr,fun b hb=>(n1.ext.old b (old1 b hb)).trans (h.ext.old b hb)⟩,fun t ht=>?_,h.nt,fun t ht=>?_,fun id o b ho hb=>(n1.obs id o b ho hb).mono hle rfl fun _ hh=>hh,fun id b hb=>⟨nOld b (n1.γn id b hb).1,(n1.γn id b hb).2⟩,n1.γi,fun id hid=>n1.γf id ?_,fun u b e hu he=>?_,fun u u' b e e' hu hu' he he'=>?_,fun u id b e hu he=>?_,fun u hu=>?_,n1.Sb,fun b o hb hlt=>h.So b o (n1.So b o hb (old1 b hlt)) hlt⟩,hle⟩
 ·have htn:t<s.nt:=by rw[<-h.nt];exact ht
  simp only[lL,if_pos htn]
  rw[<-htkd,<-hn]
  refine Fs ncell nsub ngam (fun ty u l hx hu=>?_) (h.tms t ht)
  have hm:u∈tk:=by rw[htkd];exact tT htn hx hu
  refine⟨hm,bix u hm,fun b e he m hm'=>?_⟩
  have:=n1.ext.old b (tkOld u hm b e he)
  simp only[kF,bw] at hm' ⊢
  rw[this];exact hm'
 ·have ht':s.nt<=t:=ht
  simp only[lL]
  rw[if_neg (by omega)]
 ·have hid':(sc.fresh+1)*4096+4096<=id:=hid
  omega
 ·rcases Nat.lt_or_ge u n with hlt|hge
  ·rw[blt u hlt] at he
   obtain⟨q1,q2,q3⟩:=n1.βn u b e hu he
   exact⟨nOld b q1,q2,q3⟩
  ·obtain⟨x,hx,_,he⟩:=bge u b e hge he
   obtain⟨q1,q2,q3⟩:=h.βn x b e (tkm x hx) he
   exact⟨q1,Nat.lt_of_lt_of_le q2 nsz,fun o ho hs=>q3 o ho (n1.So b o hs (tkOld x hx b e he))⟩
 ·rcases Nat.lt_or_ge u n with hlt|hge
  ·rcases Nat.lt_or_ge u' n with hlt'|hge'
   ·rw[blt u hlt] at he;rw[blt u' hlt'] at he'
    exact n1.βi u u' b e e' hu hu' he he'
   ·rw[blt u hlt] at he
    obtain⟨x,hx,_,he'⟩:=bge u' b e' hge' he'
    exact absurd (tkOld x hx b e' he') (n1.βn u b e hu he).1
  ·obtain⟨x,hx,ex,he⟩:=bge u b e hge he
   rcases Nat.lt_or_ge u' n with hlt'|hge'
   ·rw[blt u' hlt'] at he'
    exact absurd (tkOld x hx b e he) (n1.βn u' b e' hu' he').1
   ·obtain⟨x',hx',ex',he'⟩:=bge u' b e' hge' he'
    have:=h.βi x x' b e e' (tkm x hx) (tkm x' hx') he he'
    subst this
    rw[ex,ex']
 ·rcases Nat.lt_or_ge u n with hlt|hge
  ·rw[blt u hlt] at he
   exact n1.βγ u id b e hu he
  ·obtain⟨x,hx,ex,he⟩:=bge u b e hge he
   exact fun hid=>(n1.γn id b hid).1 (tkOld x hx b e he)
 ·have hu':(sc.fresh+1)*4096+4096<=u:=hu
  cases hc:β'' u with
  | none=>rfl
  | some q=>
   obtain⟨x,hx,ex,_⟩:=bge u q.1 q.2 (by omega) hc
   have hlt:tk.idxOf x<tk.length:=List.idxOf_lt_length_of_mem hx
   omega
end
end Sy
end
noncomputable section
namespace Sy
open Go
open Go.ChangeMaps (setBlock)
variable{ro:Option Nat}{nn:Nat}
section
variable{P:Program}{E:Env}{w0:Root}{S:Nat->Nat->Prop}{γ:Nat->Option Nat}{β:Nat->Option (Nat×Nat)}{s:St}{a:Act}{w:World}
mutual
theorem AC.anyOb{c:Cx}(ob':Nat->Option Ob):∀ (x:AV) (t:Ty) (cs:List Value),AV.fits t x=true->AC c x cs->AC ⟨c.w,c.S,c.γ,c.β,ob',c.dead⟩ x cs
 | .d t' x,t,cs,_,h=>by simpa only[AC] using h
 | .own t' v l,t,cs,_,h=>by simpa only[AC,QX] using h
 | .nils,t,cs,_,h=>by simpa only[AC] using h
 | .st ts' l,t,cs,hf,h=>by
  cases t<;>simp only[AV.fits] at hf<;>first|cases hf|skip
  rename_i ts
  simp only[Bool.and_eq_true] at hf
  simp only[AC] at h ⊢
  exact⟨h.1,h.2.1,iP.anyOb ob' l ts cs hf.2 h.2.2⟩
 | .ptr ..,t,cs,hf,_=>by cases t<;>simp[AV.fits] at hf
 | .fptr ..,t,cs,hf,_=>by cases t<;>simp[AV.fits] at hf
 | .mem ..,t,cs,hf,_=>by cases t<;>simp[AV.fits] at hf
 | .clo ..,t,cs,hf,_=>by cases t<;>simp[AV.fits] at hf
 | .map ..,t,cs,hf,_=>by cases t<;>simp[AV.fits] at hf
 | .sub ..,t,cs,hf,_=>by cases t<;>simp[AV.fits] at hf
 | .yld ..,t,cs,hf,_=>by cases t<;>simp[AV.fits] at hf
 | .gone,t,cs,hf,_=>by cases t<;>simp[AV.fits] at hf
 | .undef,t,cs,hf,_=>by cases t<;>simp[AV.fits] at hf
theorem iP.anyOb{c:Cx}(ob':Nat->Option Ob):∀ (l:List AV) (ts:List Ty) (cs:List Value),AV.fitss ts l=true->iP c l cs->iP ⟨c.w,c.S,c.γ,c.β,ob',c.dead⟩ l cs
 | [],ts,cs,_,h=>by simpa only[iP] using h
 | a::l,ts,cs,hf,h=>by
  cases ts<;>simp only[AV.fitss] at hf<;>first|cases hf|skip
  simp only[Bool.and_eq_true] at hf
  simp only[iP] at h ⊢
  obtain⟨c1,c2,rfl,h1,h2⟩:=h
  exact⟨c1,c2,rfl,AC.anyOb ob' a _ c1 hf.1 h1,iP.anyOb ob' l _ c2 hf.2 h2⟩
end
theorem gk.anyOb{c:Cx}{ob':Nat->Option Ob}{kt vt:Ty}:∀ {j:Nat} {l:List D} {es:List MapEntry},gk c kt vt j l es->gk ⟨c.w,c.S,c.γ,c.β,ob',c.dead⟩ kt vt j l es
 | _,[],[],_=>trivial
 | _,[],_::_,k=>k.elim
 | _,_::_,[],k=>k.elim
 | j,x::l,e::es,k=>by
  simp only[gk] at k ⊢
  exact⟨k.1,gk.anyOb k.2⟩
theorem g9.anyOb{c:Cx}(ob':Nat->Option Ob){x:AV}{v:Value}(h:g9 c x v):g9 ⟨c.w,c.S,c.γ,c.β,ob',c.dead⟩ x v:=g9.mono (c:=c) (c':=⟨c.w,c.S,c.γ,c.β,ob',c.dead⟩) (fun _ _ _=>rfl) (fun _ _ h=>h) (fun _ _ h=>h) h
theorem fK.anyOb{c:Cx}(ob':Nat->Option Ob){b:Nat}{o:Ob}(h:fK c b o):fK ⟨c.w,c.S,c.γ,c.β,ob',c.dead⟩ b o:=by
 cases o<;>simp only[fK] at h ⊢
 case one t v=>
  obtain⟨h1,h2,h3,cs,h4,h5,h6⟩:=h
  exact⟨h1,h2,h3,cs,h4,AC.anyOb ob' v t cs h2 h5,h6⟩
 case many t l=>exact h
 case mp kt vt l=>
  obtain⟨h1,h2,h3,es,h4,h5⟩:=h
  exact⟨h1,h2,h3,es,h4,h5.anyOb⟩
 case lp i p=>
  obtain⟨r,h1,h2,h3,h4⟩:=h
  exact⟨r,h1,h2,fun t ht=>(h3 t ht).anyOb ob',h4⟩
theorem se{b o:Nat}{r:Loop}(h:w.heap[b]?=some (Obj.loop r)):w.cell? ⟨b,o,none⟩=none:=by simp[World.cell?,h]
theorem c8{b b':Nat}{x:Obj}(hb:b'≠b):(setBlock w b x).heap[b']?=w.heap[b']?:=by simp only[setBlock];rw[Array.getElem?_setIfInBounds_ne (Ne.symm hb)]
theorem fB{b:Nat}{x:Obj}(hb:b<w.heap.size):(setBlock w b x).heap[b]?=some x:=World.putObj_heap_same hb
theorem da{b:Nat}{x:Obj}:(setBlock w b x).heap.size=w.heap.size:=by simp[setBlock]
theorem qI{L:Nat}{r r':Loop}(hl:w.heap[L]?=some (Obj.loop r))(b o:Nat):(setBlock w L (.loop r')).cell? ⟨b,o,none⟩=w.cell? ⟨b,o,none⟩:=by
 by_cases e:b=L
 ·subst e
  rw[se hl,se (fB (Array.getElem?_eq_some_iff.1 hl).1)]
 ·simp only[World.cell?,c8 e]
theorem Rp.setLp(h:Rp w0 S γ β s a w){id L:Nat}(hγ:γ id=some L){r:Loop}(hl:w.heap[L]?=some (Obj.loop r))(r':Loop):Rp w0 S γ β (s.setOb id none) a (setBlock w L (.loop r')):=by
 have hle:Cx.le ⟨w,S,γ,β,s.ob,s.dead⟩ ⟨setBlock w L (.loop r'),S,γ,β,(s.setOb id none).ob,s.dead⟩:=by
  refine⟨fun b o _=>qI hl b o,fun _ _ hb=>hb,fun _ _ hb=>hb,fun i y hy _=>⟨y,?_,fun p=>⟨rfl,rfl⟩,fun t l e=>⟨l,e,rfl⟩,fun _ _ l e=>⟨l,e⟩⟩,fun v hv=>⟨hv,fun b' e he=>⟨he,fun n hn=>?_⟩⟩⟩
  ·simp only[St.setOb] at hy
   split at hy
   ·cases hy
   ·exact hy
  ·have hne:b'≠L:=fun e'=>h.βγ v id b' e hv he (e' ▸ hγ)
   have hn':kF w b'=some n:=hn
   show kF (setBlock w L (.loop r')) b'=some n
   simp only[kF,bw,c8 hne] at hn' ⊢
   exact hn'
 refine⟨lc h.ext rfl rfl rfl (by rw[da];exact Nat.le_refl _) (Nat.le_refl _) (fun b' hb'=>c8 fun e=>(h.γn id L hγ).1 (e ▸ hb')),fun t ht=>(h.tms t ht).mono hle,h.nt,h.tmu,fun i y b' hy hb'=>?_,fun i b' hb'=>by rw[da];exact h.γn i b' hb',h.γi,h.γf,
  fun v b' e hv he=>by rw[da];exact h.βn v b' e hv he,h.βi,h.βγ,h.βf,fun b' o hb=>by rw[da];exact h.Sb b' o hb,h.So⟩
 have hy':i≠id/\s.ob i=some y:=by
  simp only[St.setOb] at hy
  split at hy
  ·cases hy
  ·rename_i hne;exact⟨hne,hy⟩
 have hne:b'≠L:=fun e'=>hy'.1 (h.γi i id b' hb' (e' ▸ hγ))
 exact(h.obs i y b' hy'.2 hb').mono hle (c8 hne) fun _ hh=>hh
theorem Fm.setLp(h:Rp w0 S γ β s a w){s1:St}{L:Nat}{r r':Loop}(hl:w.heap[L]?=some (Obj.loop r))(he:wR r r'):Fm s1 S γ a w S γ a (setBlock w L (.loop r')):=by
 have hlt:=(Array.getElem?_eq_some_iff.1 hl).1
 refine⟨fun _ _ hb=>hb,fun b o _=>qI hl b o,fun _ _=>rfl,fun i _ b hb=>⟨hb,?_⟩,by rw[da];exact Nat.le_refl _,fun _ _ hb=>hb,iR.same rfl fun b=>?_⟩
 ·by_cases e:b=L
  ·subst e;exact .inr ⟨r,r',hl,fB hlt,he⟩
  ·exact .inl (c8 e)
 ·by_cases e:b=L
  ·subst e
   exact⟨fun hb=>(by rw[hl] at hb;cases hb),fun _=>⟨r',fB hlt⟩⟩
  ·exact⟨fun hb=>by rw[c8 e];exact hb,fun⟨r0,hb⟩=>⟨r0,by rw[c8 e];exact hb⟩⟩
theorem Rp.leaveY(h:Rp w0 S γ β s a w){id L:Nat}{i:LpI}{p:Option Ex}(hγ:γ id=some L)(ho:fK ⟨w,S,γ,β,s.ob,s.dead⟩ L (.lp i p)):Rp w0 S γ β (leaveY s id i p) a w:=by
 refine⟨h.ext,fun t ht=>by simp only[Sy.leaveY,AR],h.nt,fun t ht=>rfl,fun j o b hj hb=>?_,h.γn,h.γi,h.γf,h.βn,h.βi,h.βγ,h.βf,h.Sb,h.So⟩
 have hj':(if j=id then some (Ob.lp i p) else s.ob j)=some o:=hj
 by_cases e:j=id
 ·subst e
  rw[if_pos rfl] at hj'
  cases hj'
  rw[hγ] at hb;cases hb
  exact ho.anyOb _
 ·rw[if_neg e] at hj'
  exact(h.obs j o b hj' hb).anyOb _
theorem rm(s:St)(id:Nat)(i:LpI)(p:Option Ex):leaveY (s.setOb id none) id i p=leaveY s id i p:=by
 have:(fun j=>if j=id then some (Ob.lp i p) else(s.setOb id none).ob j)=fun j=>if j=id then some (Ob.lp i p) else s.ob j:=by
  funext j
  by_cases e:j=id
  ·simp[e]
  ·simp[St.setOb,e]
 simp only[leaveY,this]
 rfl
theorem yr{c:Cx}{x:AV}{v:Value}{dd:List Nat}(h:qY c x v)(hp:eP (oO c.ob x)=true):AC ⟨c.w,c.S,c.γ,c.β,c.ob,dd⟩ (oO c.ob x) [v]/\∀ cs,v≠.agg cs:=by
 unfold qY at h
 split at h
 ·rename_i t id
  obtain⟨b,rfl,hb⟩:=h
  refine⟨?_,fun cs hh=>by cases hh⟩
  simp only[oO] at hp ⊢
  cases ho:c.ob id with
  | none=>rw[ho] at hp;simp[eP] at hp
  | some o=>
   rw[ho] at hp
   cases o<;>simp only[eP] at hp<;>first|(cases hp;done)|skip
   simp only[AC]
   refine⟨b,0,rfl,hb,fun o' ho'=>?_⟩
   have:some o'=some _:=ho'.symm.trans ho
   cases this
   exact⟨rfl,rfl⟩
 ·exact h.elim
theorem uV{c:Cx}{dd:List Nat}:∀ {l:List AV} {vs:List Value},nX c l vs->(l.map (oO c.ob)).all eP=true->kI ⟨c.w,c.S,c.γ,c.β,c.ob,dd⟩ (l.map (oO c.ob)) vs
 | [],[],_,_=>by simp[kI]
 | [],_::_,h,_=>h.elim
 | _::_,[],h,_=>h.elim
 | x::l,v::vs,h,hp=>by
  simp only[List.map_cons,List.all_cons,Bool.and_eq_true] at hp
  simp only[List.map_cons,kI]
  exact⟨v,vs,rfl,(yr h.1 hp.1).1,uV h.2 hp.2⟩
theorem Bc{c:Cx}{x:AV}{v:Value}{dd:List Nat}(h:g9 c x v):AR ⟨c.w,c.S,c.γ,c.β,c.ob,dd⟩ (yq c.ob x) v:=by
 cases x<;>simp only[g9] at h<;>simp only[yq]<;>first|(simp only[AR];done)|skip
 case d t y=>simpa only[AR] using h
 case fptr t y=>simpa only[AR,AC] using h
 case ptr t id p=>
  cases hp:eP (oO c.ob (.ptr t id p)) with
  | true=>
   obtain⟨k1,k2⟩:=yr (dd:=dd) h hp
   have k3:v.cells.toList=[v]:=by
    unfold qY at h
    split at h
    ·obtain⟨b,rfl,_⟩:=h;rfl
    ·exact h.elim
   cases hx:oO c.ob (.ptr t id p)<;>rw[hx] at hp k1<;>simp only[eP] at hp<;>first|(cases hp;done)|skip
   simp only[AR]
   exact⟨k2,by rw[k3];exact k1⟩
  | false=>
   have:oO c.ob (.ptr t id p)=.undef:=by
    unfold oO at hp ⊢
    split at hp
    ·split at hp
     ·simp[eP] at hp
     ·rfl
    ·rfl
   rw[this];simp only[AR]
 case clo f l=>
  obtain⟨caps,rfl,hc⟩:=h
  split
  ·rename_i hp
   simp only[AR,AC]
   exact⟨fun cs hh=>(by cases hh),caps,rfl,uV hc hp⟩
  ·simp only[AR]
theorem qw{c:Cx}:∀ (l:List (Nat×AV)) (l':List (Nat×Value)) (f:Nat->AV) (T:Array Value),l.length=l'.length->(∀ (i p:Nat) (x:AV) (q:Nat) (v:Value),l[i]?=some (p,x)->l'[i]?=some (q,v)->p=q/\AR c x v) ->
  (∀ t,t<T.size->AR c (f t) (T.getD t undef))->(l'.foldl (fun tmps p=>tmps.setIfInBounds p.1 p.2) T).size=T.size/\∀ t,t<T.size->AR c (jd l f t) ((l'.foldl (fun tmps p=>tmps.setIfInBounds p.1 p.2) T).getD t undef)
 | [],[],f,T,_,_,h=>⟨rfl,h⟩
 | [],_::_,f,T,hl,_,_=>by simp at hl
 | _::_,[],f,T,hl,_,_=>by simp at hl
 | (p,x)::l,(q,v)::l',f,T,hl,hx,h=>by
  obtain⟨e,hxv⟩:=hx 0 p x q v rfl rfl
  subst e
  simp only[List.foldl_cons,jd]
  obtain⟨h1,h2⟩:=qw l l' (fun t=>if t=p then x else f t) (T.setIfInBounds p v) (by simpa using hl) (fun i=>hx (i+1)) fun t ht=>by
   have ht':t<T.size:=by simpa using ht
   by_cases e:t=p
   ·subst e
    rw[if_pos rfl]
    simpa [Array.getD,ht'] using hxv
   ·rw[if_neg e]
    have:=h t ht'
    simp only[Array.getD] at this ⊢
    rw[dif_pos ht'] at this
    rw[dif_pos ht,Array.getInternal_eq_getElem,Array.getElem_setIfInBounds_ne ht' (Ne.symm e)]
    rwa [Array.getInternal_eq_getElem] at this
  refine⟨by rw[h1];simp,fun t ht=>h2 t (by simpa using ht)⟩
theorem oC:∀ (l:List (Nat×AV)) (f:Nat->AV) (n t:Nat),(∀ p∈l,p.1<n)->n<=t->jd l f t=f t
 | [],f,n,t,_,_=>rfl
 | (p,x)::l,f,n,t,h,ht=>by
  simp only[jd]
  rw[oC l _ n t (fun q hq=>h q (by simp[hq])) ht]
  have:=h (p,x) (by simp)
  simp only at this
  rw[if_neg (by omega)]
theorem iQ(h:Rp w0 S γ β s a w):∀ (l:List Operand) (i:Nat) (x:AV) (v:Value),(l.map s.opA)[i]?=some x->(l.map a.eval)[i]?=some v->AR ⟨w,S,γ,β,s.ob,s.dead⟩ x v
 | [],i,x,v,hx,_=>by simp at hx
 | y::l,0,x,v,hx,hv=>by simp at hx hv;subst hx;subst hv;exact aM h y
 | y::l,i+1,x,v,hx,hv=>by simp only[List.map_cons,List.getElem?_cons_succ] at hx hv;exact iQ h l i x v hx hv
theorem Fm.less{s s2:St}{S':Nat->Nat->Prop}{γ':Nat->Option Nat}{a':Act}{w':World}(h:Fm s S γ a w S' γ' a' w')(e1:∀ t∈s2.lkS,t∈s.lkS)(e2:∀ t∈s2.lkO,t∈s.lkO):Fm s2 S γ a w S' γ' a' w':=
 ⟨h.sub,h.cell,fun t ht=>h.slots t (e1 t ht),fun id hid=>h.objs id (e2 id hid),h.sz,h.gam,h.dfs.less e2⟩
theorem pg(c:Cx)(b:Bool):AR c (.d .bool (.bool b)) (.bool b):=fi _
theorem CG(hE:EnvOk P E)(h:Rp w0 S γ β s a w){o:Oper}{c:Call}(hop:o.op=.call c){id:Nat}{i:LpI}{avs:List AV}(hy:Hq s c=some (id,i,avs)){R:Type}{K:AV->St->Option R}{r:R}{an:Ann}(hev:OQ E an s id i avs K=some r)
  {next:Act->World->Prop} {Q:Exit->Act->World->Prop}
  (hk:∀ y v s' S' γ' β' w',K y s'=some r->Rp w0 S' γ' β' s' a w'->AR ⟨w',S',γ',β',s'.ob,s'.dead⟩ y v->Fm s S γ a w S' γ' a w'->Sk s s'->next (a.put o.dst v) w'):o.wpIn (FW ro) nn P a w next Q:=by
 obtain⟨dst,op,ty,pos,after,guard⟩:=o
 simp only at hop
 subst hop
 obtain⟨callee,args,argTypes⟩:=c
 unfold Hq at hy
 split at hy<;>first|(cases hy;done)|skip
 rename_i t hc
 simp only at hc
 subst hc
 split at hy<;>first|(cases hy;done)|skip
 rename_i id' ht
 split at hy<;>first|(cases hy;done)|skip
 rename_i i' hob
 simp only[Option.some.injEq,Prod.mk.injEq] at hy
 obtain⟨rfl,rfl,rfl⟩:=hy
 have hA:=aM h (.tmp t)
 have hA':AR ⟨w,S,γ,β,s.ob,s.dead⟩ (.yld id') (a.eval (.tmp t)):=by rw[<-ht];exact hA
 simp only[AR,AC] at hA'
 obtain⟨na,L,hcs,hγ⟩:=hA'
 have hv:=au na hcs
 have hO:=h.obs id' _ L hob hγ
 simp only[fK] at hO
 obtain⟨rec,hl,⟨p1,p2,p3,p4⟩,hcap,hst,hpe⟩:=hO
 unfold OQ at hev
 split at hev<;>first|(cases hev;done)|skip
 rename_i hcond
 obtain⟨hlen,hps,htk⟩:=hcond
 have hlen':args.size=rec.params.size:=by
  have:(args.toList.map s.opA).length=rec.params.toList.length:=by rw[p2];exact hlen
  simpa using this
 have hyr:=run_yield (P:=P) (args:=(args.map a.eval)) hl (by simpa using hlen')
 refine⟨fun _ _=>trivial,?_⟩
 have hrun:((⟨dst,.call ⟨.value (.tmp t),args,argTypes⟩,ty,pos,after,guard⟩:Oper).semAt (FW ro).round a.eval).run P w=.ok (.round L rec.fn ((rec.params.zip (args.map a.eval)).foldl (fun tmps (t,a)=>tmps.setIfInBounds t a) rec.tmps) rec.assign rec.body) w:=by
  rw[Oper.semAt_eq _ _ _ (fun c=>by simp)]
  simp only[execOp,resolve,hv]
  simpa [Deferred.ofValue,invoke,go_sem] using hyr
 rw[hrun]
 simp only[Oper.uponIn]
 refine⟨fun h=>(by cases h),?_⟩
 obtain⟨T,hT⟩:∃ T,T=(rec.params.zip (args.map a.eval)).foldl (fun tmps (t,a)=>tmps.setIfInBounds t a) rec.tmps:=⟨_,rfl⟩
 rw[<-hT]
 refine RoundIn.mono (R:=fun en w''=>∃ v,en=.returned v/\next (a.put dst v) w'') ?_ (fun en w'' ⟨v,he,hn⟩=>by subst he;exact hn)
 refine roundIn_of_wpIn trivial ?_
 show Code.wpIn (FW (some L)) (nn-1) P rec.assign _ _ _
 rw[p3,p4]
 obtain⟨tk,htkd⟩:∃ tk,tk=cR s:=⟨_,rfl⟩
 obtain⟨sh,hsh⟩:∃ sh:Nat->Prop,sh=fun b=>(∃ id,γ id=some b)\/∃ v e,v ∉ tk++s.dead/\β v=some (b,e):=⟨_,rfl⟩
 have hTT:T.size=rec.tmps.size/\∀ t,t<rec.tmps.size->AR ⟨w,S,γ,β,s.ob,tk++s.dead⟩ ((yI s i' id' (args.toList.map s.opA)).tm t) (T.getD t undef):=by
  have key:=qw (c:=⟨w,S,γ,β,s.ob,tk++s.dead⟩) (i'.ps.zip (args.toList.map s.opA)) (i'.ps.zip (args.toList.map a.eval)) (fun t=>if t<i'.nt then yq s.ob (i'.caps t) else .undef) rec.tmps (by simp) (fun j p x q v hx hv=>by
   rw[List.getElem?_zip_eq_some] at hx hv
   refine⟨by have:=hx.1.symm.trans hv.1;simpa using this,?_⟩
   refine AR.mono (c:=⟨w,S,γ,β,s.ob,s.dead⟩) (c':=⟨w,S,γ,β,s.ob,tk++s.dead⟩) ⟨fun _ _ _=>rfl,fun _ _ hb=>hb,fun _ _ hb=>hb,fun id o ho _=>⟨o,ho,fun p=>⟨rfl,rfl⟩,fun t l e=>⟨l,e,rfl⟩,fun _ _ l e=>⟨l,e⟩⟩,fun u hu=>⟨fun hh=>hu (List.mem_append_right _ hh),fun b e he=>⟨he,fun n hn=>hn⟩⟩⟩ (iQ h _ j x v hx.2 hv.2))
   (fun t ht=>by
    rw[if_pos (by omega)]
    exact Bc (c:=⟨w,S,γ,β,s.ob,s.dead⟩) (hcap t (by omega)))
  have e:T=(i'.ps.zip (args.toList.map a.eval)).foldl (fun tmps p=>tmps.setIfInBounds p.1 p.2) rec.tmps:=by
   rw[hT,<-p2,<-Array.foldl_toList,Array.toList_zip,Array.toList_map]
  rw[e]
  exact key
 have hsz:T.size=i'.nt:=hTT.1.trans p1
 have RI:Rp ⟨w,S,sh⟩ S γ β (yI s i' id' (args.toList.map s.opA)) ⟨T,[]⟩ w:=by
  refine yJ h htkd hsh (fun j o hj=>hj) rfl (by rw[htkd];rfl) hsz (fun u hu=>?_) (fun u hu=>hTT.2 u (by rw[<-hTT.1];exact hu))
  have hu':i'.nt<=u:=hu
  show jd _ _ u=.undef
  rw[oC _ _ i'.nt u (fun p hp=>by
   have h1:=(List.of_mem_zip (a:=p.1) (b:=p.2) hp).1
   have:=List.all_eq_true.1 hps _ h1
   simpa using this) hu',if_neg (by omega)]
 refine hE.cod (some L) (nn-1) ⟨w,S,sh⟩ i'.asg an.fst R _ S γ β _ _ w _ r (fun l e=>by cases e;exact⟨rec,hl⟩) RI hev fun e s1 S1 γ1 β1 a1 w1 n1 n2 n3 n4=>?_
 cases e with
 | exit j=>cases n4
 | ret=>cases n4
 | normal=>
 simp only at n4
 split at n4<;>first|(cases n4;done)|skip
 rename_i i1 hob1
 simp only[Bo,Exit.then]
 obtain⟨g1,st1⟩:=n2.objs id' List.mem_cons_self L hγ
 have hO1:=n1.obs id' _ L hob1 g1
 simp only[fK] at hO1
 obtain⟨rec1,hl1,_,_,hst1,hpe1⟩:=hO1
 have e1:wR rec rec1:=by
  rcases st1 with k|⟨r,r',k1,k2,k3⟩
  ·rw[hl1,hl] at k;cases k;exact⟨rfl,rfl,rfl,rfl⟩
  ·rw[hl] at k1;cases k1;rw[hl1] at k2;cases k2;exact k3
 refine⟨_,run_beginRound hl1 hst1,?_⟩
 have hL1:=(Array.getElem?_eq_some_iff.1 hl1).1
 have M1:=n1.setLp g1 hl1 { rec1 with state:=.busy }
 have F1:=Fm.setLp n1 (s1:=s1) hl1 (r':={ rec1 with state:=.busy }) ⟨rfl,rfl,rfl,rfl⟩
 have hl2:(setBlock w1 L (.loop { rec1 with state:=.busy })).heap[L]?=some (.loop { rec1 with state:=.busy }):=fB hL1
 show Code.wpIn (FW (some L)) (nn-1) P i'.bdy _ a1 (setBlock w1 L (.loop { rec1 with state:=.busy }))
 generalize setBlock w1 L (.loop { rec1 with state:=.busy })=w2 at M1 F1 hl2 ⊢
 have hlk1:s1.lkO=id'::s.lkO:=n3.lkO
 refine hE.cod (some L) (nn-1) ⟨w,S,sh⟩ i'.bdy an.snd R _ S1 γ1 β1 _ a1 w2 _ r (fun l e=>by cases e;exact⟨_,hl2⟩) M1 n4 fun e s2 S2 γ2 β2 a2 w3 m1 m2 m3 m4=>?_
 obtain⟨g2,st2⟩:=m2.objs id' (by rw[show(s1.setOb id' none).lkO=s1.lkO from rfl,hlk1];exact List.mem_cons_self) L g1
 obtain⟨rec3,hl3,e3⟩:∃ rec3,w3.heap[L]?=some (Obj.loop rec3)/\wR rec rec3:=by
  rcases st2 with k|⟨r,r',k1,k2,k3⟩
  ·exact⟨_,k.trans hl2,e1⟩
  ·rw[hl2] at k1;cases k1
   exact⟨r',k2,k3.1.trans e1.1,k3.2.1.trans e1.2.1,k3.2.2.1.trans e1.2.2.1,k3.2.2.2.trans e1.2.2.2⟩
 have hL3:=(Array.getElem?_eq_some_iff.1 hl3).1
 have F2:Fm (yI s i' id' (args.toList.map s.opA)) S γ ⟨T,[]⟩ w S2 γ2 a2 w3:=(n2.trans (F1.less (s2:=s1) (fun _ h=>h) (fun _ h=>h)) n3.lkS n3.lkO).trans (s1:=s1) (m2.less (fun _ h=>h) (fun _ h=>h)) n3.lkS n3.lkO
 have fin:∀ (rec4:Loop) (p:Option Ex) (v:Value) (y:AV),wR rec3 rec4->QP p rec4->(∀ c,AR c y v)->K y (lL s (leaveY s2 id' i' p))=some r->next (a.put dst v) (setBlock w3 L (.loop rec4)):=by
  intro rec4 p v y e4 hd hyv hK
  have e34:wR rec rec4:=⟨e4.1.trans e3.1,e4.2.1.trans e3.2.1,e4.2.2.1.trans e3.2.2.1,e4.2.2.2.trans e3.2.2.2⟩
  have F3:=F2.trans (Fm.setLp m1 (s1:=s2) hl3 e4) (m3.lkS.trans n3.lkS) (m3.lkO.trans n3.lkO)
  have M2:=m1.setLp g2 hl3 rec4
  have hl4:(setBlock w3 L (.loop rec4)).heap[L]?=some (.loop rec4):=fB hL3
  generalize setBlock w3 L (.loop rec4)=w4 at F3 M2 hl4 ⊢
  have M3:=M2.leaveY (i:=i') (p:=p) g2 (by
   simp only[fK]
   refine⟨rec4,hl4,⟨by rw[e34.1];exact p1,by rw[e34.2.1];exact p2,by rw[e34.2.2.1];exact p3,by rw[e34.2.2.2];exact p4⟩,fun u hu=>?_,hd⟩
   rw[e34.1]
   exact g9.mono (c:=⟨w,S,γ,β,s.ob,s.dead⟩) F3.cell F3.sub F3.gam (hcap u hu))
  rw[rm] at M3
  obtain⟨β'',B1,B2⟩:=yj h htkd hsh (by rw[htkd];exact htk) M3 F3.sub F3.cell F3.gam F3.sz
  exact hk y v _ S2 γ2 β'' w4 hK B1 (hyv _) ⟨F3.sub,F3.cell,fun _ _=>rfl,fun j hj=>F3.objs j (List.mem_cons_of_mem _ hj),F3.sz,F3.gam,iR.same rfl F3.dfs.1⟩ ⟨rfl,rfl,rfl⟩
 cases e with
 | normal=>exact⟨_,_,run_endRound none hl3,_,rfl,fin _ none _ _ ⟨rfl,rfl,rfl,rfl⟩ ⟨rfl,rfl⟩ (fun c=>pg c true) m4⟩
 | ret=>exact⟨_,_,run_endRound (some .ret) hl3,_,rfl,fin _ (some .ret) _ _ ⟨rfl,rfl,rfl,rfl⟩ ⟨rfl,rfl⟩ (fun c=>pg c false) m4⟩
 | exit j=>exact⟨_,_,run_endRound (some (.exit j)) hl3,_,rfl,fin _ (some (.exit j)) _ _ ⟨rfl,rfl,rfl,rfl⟩ ⟨rfl,rfl⟩ (fun c=>pg c false) m4⟩
theorem Rp.later(h:Rp w0 S γ β s a w):Rp w0 S γ β (tj s) a w:=by
 have q:∀ i,((tj s):St).base+4096<=i->s.base+4096<=i:=fun i hi=>by
  exact Nat.le_trans (Nat.add_le_add_right (Nat.mul_le_mul_right 4096 (Nat.le_succ s.fresh)) 4096) hi
 exact⟨h.ext,h.tms,h.nt,h.tmu,h.obs,h.γn,h.γi,fun i hi=>h.γf i (q i hi),h.βn,h.βi,h.βγ,fun v hv=>h.βf v (q v hv),h.Sb,h.So⟩
theorem yn{E:Env}{s0:St}{γ0:Nat->Option Nat}{β0:Nat->Option (Nat×Nat)}(h:Rp w0 S γ β s a w){l:List (Nat×Oper)}(hna:(l.all fun p=>tY p.2)=true)(hf:∀ o∈l.map Prod.snd,Fr E s0 γ0 β0 o):∀ o∈l.map Prod.snd,Fr E (tj s) γ β o:=by
 intro o' ho' hc d hd
 have hb:(tj s).base=s.base+4096:=by simp only[tj,St.base];omega
 rw[hb]
 refine⟨(hf o' ho' hc d hd).1,h.γf _ (by omega),h.βf _ (by omega),fun T t e=>?_⟩
 obtain⟨p,hp,rfl⟩:=List.mem_map.1 ho'
 have:=List.all_eq_true.1 hna p hp
 simp[tY,e] at this
end
end Sy
end
noncomputable section
namespace Sy
open Go
variable{ro:Option Nat}{nn:Nat}
theorem ET{E:Env}{ops:Array Oper}{N:Nat}{R:Type}{i:Nat}{o:Oper}{l:List (Nat×Oper)}{s:St}{k:St->Option R}{r:R}(hg:o.guard=none)(hgu:j4 E s i o l=true){an:Ann}(h:dD E (N+1) R ops an ((i,o)::l) s k=some r) :
  ∃ seg jj pk l'' s5 s3,l=seg++(jj,pk)::l''/\fo o=true/\(∀ p∈seg,fo p.2=true)/\fo pk=true/\seqV E ops (o::(seg.map Prod.snd++[pk])) s=some s5/\Wk s5 s3/\dD E N R ops an l'' s3 k=some r:=by
 simp only[dD,hg,hgu,if_true] at h
 simp only[j4,Bool.and_eq_true] at hgu
 obtain⟨_,hcond⟩:=hgu
 obtain⟨e1,e2⟩:=gH o.dst l
 generalize cS o.dst l=sp at *
 obtain⟨seg,rest⟩:=sp
 simp only at h e1 e2 hcond
 split at h<;>first|(cases h;done)|skip
 rename_i _ _ jj pk l'' d hd
 simp only[hd] at hcond
 simp only[Bool.and_eq_true,decide_eq_true_eq,Bool.not_eq_true',List.all_eq_true] at hcond
 obtain⟨⟨⟨⟨⟨c1,c2⟩,c3⟩,cI⟩,c4⟩,c5⟩:=hcond
 have ho:=je c3
 have hpk:=e2 _ _ rfl
 obtain⟨pc,px,py,hop⟩:=ov hpk
 unfold GS at h
 split at h<;>first|(cases h;done)|skip
 rename_i hlk
 rw[lW E s ho] at h
 obtain⟨v,h3,h4⟩:=eU h
 rw[hd] at h4
 obtain⟨c,h5,h6⟩:=bind_some_inv h4
 rw[pb c1] at h5
 have hv:=gJ h5
 subst hv
 obtain⟨x,h7,h8⟩:=bind_some_inv h6
 have hsame:∀ b,b=c->(s.put (some d) (.d .bool (.bool c))).put (some d) (.d .bool (.bool b))=s.put (some d) (.d .bool (.bool c)):=fun b hb=>qx (by rw[pb c1,hb])
 have hsegv:∃ k2:St->Option Bool,(∀ s2,k2 s2=qv E s2 pk AV.truth)/\dD E N Bool ops .leaf seg (s.put (some d) (.d .bool (.bool c))) k2=some x:=by
  cases c
  ·simp only[Bool.false_eq_true,if_false] at h7
   rw[hsame false rfl] at h7
   exact⟨_,fun _=>rfl,h7⟩
  ·simp only[if_true] at h7
   rw[hsame true rfl] at h7
   exact⟨_,fun _=>rfl,h7⟩
 obtain⟨k2,hk2,h7⟩:=hsegv
 obtain⟨s2,s2',N2,h9,h10,h11⟩:=pO N Bool seg _ k2 x seg.length .leaf (Nat.le_refl _) (fun p hp=>by
  rw[List.take_length] at hp
  exact⟨je (c4 p hp).1.1,(c4 p hp).2⟩) (.inl fun p hp=>by simp at hp) h7
 rw[List.drop_length] at h11
 rw[List.take_length] at h9
 have h12:k2 s2'=some x:=by cases N2<;>simpa [dD] using h11
 rw[hk2] at h12
 obtain⟨v2,h13,h14⟩:=eU h12
 have hv2:=gJ h14
 obtain⟨v3,h15,h16⟩:=h10.qv h13
 have hv3:v3=.d .bool (.bool x):=by
  rcases h16 with e|e
  ·rw[<-e];exact hv2
  ·rw[hv2] at e;cases e
 subst hv3
 have hwk:Wk (s2.put pk.dst (.d .bool (.bool x))) ((killD (s.put (some d) (.d .bool (.bool c))) (seg.map Prod.snd)).put pk.dst (.d .bool (.bool x))):=(iH _ h9).put pk.dst (.inl rfl)
 have hval:val E ops s o=some (.d .bool (.bool c)):=by unfold val;rw[if_neg hlk,hg];exact h3
 have hlk2:¬ ij s2 pk=true:=by
  have:s2.lkS=s.lkS:=by
   have w1:=(iH _ h9).lkS
   have w2:∀ (l:List Oper) (s:St),(killD s l).lkS=s.lkS:=by
    intro l
    induction l with
    | nil=>intro s;rfl
    | cons o l ih=>intro s;rw[killD,ih];exact(St.put_fields s o.dst .undef).2.2.2.2.1
   rw[<-w1,w2]
   exact(St.put_fields s (some d) _).2.2.2.2.1
  simp only[ij,this]
  have:=c5
  simp only[ij] at this
  rw[this];simp
 have hval2:val E ops s2 pk=some (.d .bool (.bool x)):=by
  unfold val
  rw[if_neg hlk2]
  have:pk.guard=none:=by simpa using c2
  rw[this];exact h15
 refine⟨seg,jj,pk,l'',_,_,e1,ho,fun p hp=>je (c4 p hp).1.1,z8 hop,?_,hwk,h8⟩
 simp only[seqV,hval,Option.bind_some,j5,hd,h9,hval2]
section
variable{P:Program}{E:Env}{w0:Root}{S:Nat->Nat->Prop}{γ:Nat->Option Nat}{β:Nat->Option (Nat×Nat)}{s:St}{a:Act}{w:World}{ops:Array Oper}
theorem nW{o:Oper}(h:Rp w0 S γ β s a w):(o.guard=none->Region.wanted o (yielded ops a.tmps)=true) ∧
  (∀ j want g c,o.guard=some (j,want)->(ops[j]?).bind (·.dst)=some g->(s.tm g).truth=some c->Region.wanted o (yielded ops a.tmps)=(c==want)) ∧
  ∀ j want g,o.guard=some (j,want)->(ops[j]?).bind (·.dst)=some g->s.tm g=.gone->Region.wanted o (yielded ops a.tmps)=false:=by
 refine⟨fun hg=>by simp[Region.wanted,hg],fun j want g c hg h1 h2=>?_,fun j want g hg h1 h2=>?_⟩
 rotate_left
 ·have h3:AR ⟨w,S,γ,β,s.ob,s.dead⟩ (s.tm g) (a.eval (.tmp g)):=aM h (.tmp g)
  rw[h2] at h3
  have h3':a.eval (.tmp g)=undef:=h3
  simp only[Act.eval] at h3'
  simp only[Region.wanted,hg,yielded,h1,Option.bind_some]
  by_cases hlt:g<a.tmps.size
  ·have h4:a.tmps[g]?=some undef:=by
    rw[Array.getElem?_eq_getElem hlt]
    simpa [Array.getD,hlt] using h3'
   rw[h4];rfl
  ·have h4:a.tmps[g]?=none:=Array.getElem?_eq_none (Nat.le_of_not_lt hlt)
   rw[h4];rfl
 obtain⟨h3,_⟩:=lw h2 (aM h (.tmp g))
 have h4:a.tmps[g]?=some (.bool c):=by
  simp only[Act.eval] at h3
  by_cases hlt:g<a.tmps.size
  ·rw[Array.getElem?_eq_getElem hlt]
   simpa [Array.getD,hlt] using h3
  ·exfalso
   have:s.tm g=.undef:=h.tmu g (by rw[<-h.nt];exact Nat.le_of_not_lt hlt)
   rw[this] at h2;cases h2
 simp only[Region.wanted,hg,yielded,h1,Option.bind_some,h4]
 cases c<;>cases want<;>rfl
theorem uu(hE:EnvOk P E)(h:Rp w0 S γ β s a w){o:Oper}(hf:Fr E s γ β o){v:AV}(hq:val E ops s o=some v) :
  (Region.wanted o (yielded ops a.tmps)=true->dq P o a w fun u w'=>∃ S' γ' β',Rp w0 S' γ' β' (s.put o.dst v) (a.put o.dst u) w'/\Fm s S γ a w S' γ' (a.put o.dst u) w'/\(∀ id,o.dst≠some (id-s.base)\/id<s.base->γ' id=γ id/\β' id=β id)) ∧
  (Region.wanted o (yielded ops a.tmps)=false->Rp w0 S γ β (s.put o.dst v) (a.put o.dst undef) w/\Fm s S γ a w S γ (a.put o.dst undef) w):=by
 unfold val at hq
 split at hq<;>first|(cases hq;done)|skip
 rename_i hlk
 have hlk':∀ t∈s.lkS,o.dst≠some t:=fun t ht e=>hlk (by simp[ij,e];exact ht)
 have main:qv E s o some=some v->dq P o a w fun u w'=>∃ S' γ' β',Rp w0 S' γ' β' (s.put o.dst v) (a.put o.dst u) w'/\Fm s S γ a w S' γ' (a.put o.dst u) w'/\(∀ id,o.dst≠some (id-s.base)\/id<s.base->γ' id=γ id/\β' id=β id):=by
  intro hq
  obtain⟨s',h1,h2⟩:=rQ hE h hf (fun T t _ ht=>hE.flat T t ht) hlk' (K:=some) (r:=s.put o.dst v) (by rw[B5,hq];rfl)
  cases h1
  exact h2.2.2.2.2.2
 have skip:Rp w0 S γ β (s.put o.dst .gone) (a.put o.dst undef) w/\Fm s S γ a w S γ (a.put o.dst undef) w:=
  ⟨h.put (by simp[AR]) o.dst,fun _ _ hb=>hb,fun _ _ _=>rfl,fun t ht=>bB (hlk' t ht),fun _ _ _ hb=>⟨hb,gN.refl _ _⟩,Nat.le_refl _,fun _ _ hb=>hb,iR.same bf (cC.refl _)⟩
 obtain⟨w1,w2,w3⟩:=nW (ops:=ops) (o:=o) h
 cases hg:o.guard with
 | none=>
  rw[hg] at hq
  exact⟨fun _=>main hq,fun hw=>by rw[w1 hg] at hw;cases hw⟩
 | some p=>
  obtain⟨j,want⟩:=p
  rw[hg] at hq
  simp only at hq
  obtain⟨g,h1,h2⟩:=bind_some_inv hq
  by_cases hgo:s.tm g=.gone
  ·rw[hgo,dw] at h2
   have hw:=w3 j want g hg h1 hgo
   cases h2
   exact⟨fun hh=>(by rw[hw] at hh;cases hh),fun _=>skip⟩
  rw[eu hgo] at h2
  obtain⟨c,h3,h4⟩:=bind_some_inv h2
  have hw:=w2 j want g c hg h1 h3
  split at h4
  ·rename_i hc
   exact⟨fun _=>main h4,fun hh=>by rw[hw,hc] at hh;cases hh⟩
  ·rename_i hc
   cases h4
   exact⟨fun hh=>by rw[hw] at hh;exact absurd hh hc,fun _=>skip⟩
def zh(E:Env)(s:St)(γ:Nat->Option Nat)(β:Nat->Option (Nat×Nat))(l:List Oper):Prop:=∀ o∈l,Fr E s γ β o
theorem Fr.keep{o o':Oper}{s':St}{γ':Nat->Option Nat}{β':Nat->Option (Nat×Nat)}(h:Fr E s γ β o')(hd:∀ d,o'.dst=some d->o.dst≠some d)(hfr:s'.fresh=s.fresh)
  (hob:∀ id,γ id=none->o.dst≠some (id-s.base)\/id<s.base->s'.ob id=s.ob id) (hk:∀ id,o.dst≠some (id-s.base)\/id<s.base->γ' id=γ id/\β' id=β id):Fr E s' γ' β' o':=by
 intro hc d hd'
 obtain⟨h1,h2,h3,h4⟩:=h hc d hd'
 have hb:s'.base=s.base:=by simp only[St.base,hfr]
 have hne:o.dst≠some (s.base+d-s.base):=by rw[Nat.add_sub_cancel_left];exact hd d hd'
 obtain⟨k1,k2⟩:=hk (s.base+d) (.inl hne)
 rw[hb]
 exact⟨h1,k1.trans h2,k2.trans h3,fun T t e1 e2=>(hob _ h2 (.inl hne)).trans (h4 T t e1 e2)⟩
structure Sm(s s':St):Prop where
 lkS:s'.lkS=s.lkS
 lkO:s'.lkO=s.lkO
 fresh:s'.fresh=s.fresh
 nt:s'.nt=s.nt
theorem Sm.sk{s s':St}(h:Sm s s'):Sk s s':=⟨h.lkS,h.lkO,h.nt⟩
theorem Sm.refl(s:St):Sm s s:=⟨rfl,rfl,rfl,rfl⟩
theorem Sm.trans{a b c:St}(h:Sm a b)(k:Sm b c):Sm a c:=⟨k.lkS.trans h.lkS,k.lkO.trans h.lkO,k.fresh.trans h.fresh,k.nt.trans h.nt⟩
theorem Sm.put(s:St)(d:Option Nat)(v:AV):Sm s (s.put d v):=by
 obtain⟨p1,p2,p3,p4,p5,p6,p7⟩:=St.put_fields s d v
 exact⟨p5,p6,p2,p4⟩
theorem Sm.wk{s s':St}(h:Wk s s'):Sm s s':=⟨h.lkS,h.lkO,h.fresh,h.nt⟩
theorem ui(hE:EnvOk P E){Q:Exit->Act->World->Prop}:∀ (l l2:List Oper) {S:Nat->Nat->Prop} {γ:Nat->Option Nat} {β:Nat->Option (Nat×Nat)} {s:St} {a:Act} {w:World} {s':St},Rp w0 S γ β s a w->zh E s γ β (l++l2)->(∀ (A B:List Oper) o o',l++l2=A++o::B->o'∈B->∀ d,o'.dst=some d->o.dst≠some d)->seqV E ops l s=some s' ->
  (∀ S' γ' β' a' w',Rp w0 S' γ' β' s' a' w'->Fm s S γ a w S' γ' a' w'->Sm s s'->zh E s' γ' β' l2->wpListIn (FW ro) nn P ops Q l2 a' w')->wpListIn (FW ro) nn P ops Q (l++l2) a w
 | [],l2,S,γ,β,s,a,w,s',h,hf,_,hq,hk=>by
  simp only[seqV,Option.some.injEq] at hq
  subst hq
  exact hk S γ β a w h (Fm.refl _ _ _ _ _) (Sm.refl s) (by simpa using hf)
 | o::l,l2,S,γ,β,s,a,w,s',h,hf,hd,hq,hk=>by
  simp only[seqV] at hq
  obtain⟨v,h1,h2⟩:=bind_some_inv hq
  have hfo:Fr E s γ β o:=hf o (by simp)
  obtain⟨k1,k2⟩:=uu hE h hfo h1
  have hdo:∀ o'∈l++l2,∀ d,o'.dst=some d->o.dst≠some d:=fun o' ho'=>hd [] (l++l2) o o' rfl ho'
  have hd':∀ (A B:List Oper) x x',l++l2=A++x::B->x'∈B->∀ d,x'.dst=some d->x.dst≠some d:=fun A B x x' e hx=>hd (o::A) B x x' (by simp[e]) hx
  have p:=St.put_fields s o.dst v
  have frn:∀ {γ':Nat->Option Nat} {β':Nat->Option (Nat×Nat)},(∀ id,o.dst≠some (id-s.base)\/id<s.base->γ' id=γ id/\β' id=β id)->zh E (s.put o.dst v) γ' β' (l++l2):=fun hk o' ho'=>
   (hf o' (by simp only[List.cons_append,List.mem_cons];exact .inr ho')).keep (hdo o' ho') p.2.1 (fun id _ _=>by rw[p.1]) hk
  simp only[List.cons_append,wpListIn]
  split
  ·rename_i hw
   refine(aV (k1 hw) fun u w' ⟨S',γ',β',m1,m2,m3⟩=>?_)
   exact ui hE l l2 m1 (frn m3) hd' h2 fun S2 γ2 β2 a2 w2 n1 n2 n3 n4=>hk S2 γ2 β2 a2 w2 n1 (m2.trans n2 p.2.2.2.2.1 p.2.2.2.2.2.1) ((Sm.put s o.dst v).trans n3) n4
  ·rename_i hw
   obtain⟨m1,m2⟩:=k2 (by simpa using hw)
   exact⟨fun _ _=>trivial,ui hE l l2 m1 (frn fun id _=>⟨rfl,rfl⟩) hd' h2 fun S2 γ2 β2 a2 w2 n1 n2 n3 n4=>hk S2 γ2 β2 a2 w2 n1 (m2.trans n2 p.2.2.2.2.1 p.2.2.2.2.2.1) ((Sm.put s o.dst v).trans n3) n4⟩
theorem jy{c:Cx}:∀ (l:List AV) (caps:List Value),l.all eP=true->kI c l caps->l.length=caps.length/\∀ (i:Nat) (x:AV) (v:Value),l[i]?=some x->caps[i]?=some v->AR c x v
 | [],caps,_,h=>by simp only[kI] at h;subst h;exact⟨rfl,fun i x v hx=>by simp at hx⟩
 | y::l,caps,hp,h=>by
  simp only[kI] at h
  obtain⟨v0,c2,rfl,h1,h2⟩:=h
  simp only[List.all_cons,Bool.and_eq_true] at hp
  obtain⟨k1,k2⟩:=jy l c2 hp.2 h2
  refine⟨by simp[k1],fun i x v hx hv=>?_⟩
  cases i with
  | zero=>
   simp at hx hv;subst hx;subst hv
   cases y<;>simp only[eP] at hp<;>first|(cases hp.1;done)|skip
   simp only[AC] at h1
   obtain⟨b,off,e,h3⟩:=h1
   simp only[List.cons.injEq,and_true] at e
   subst e
   simp only[AR,AC,Value.cells]
   exact⟨by simp,b,off,rfl,h3⟩
  | succ i=>simp only[List.getElem?_cons_succ] at hx hv;exact k2 i x v hx hv
theorem G4(hE:EnvOk P E)(h:Rp w0 S γ β s a w){o:Oper}{c:Call}(hop:o.op=.call c)(hlk:∀ t∈s.lkS,o.dst≠some t){R:Type}{K:St->Option R}{r:R}{an:Ann}
  (hev:((nw s c).bind fun q=>(E.inl q.1).bind fun g=>g an R s q.2 fun v s'=>K (s'.put o.dst v))=some r) :
  dq P o a w fun u w'=>∃ s' S' γ' β',K s'=some r/\Rp w0 S' γ' β' s' (a.put o.dst u) w'/\Fm s S γ a w S' γ' (a.put o.dst u) w'/\Sk s s':=by
 obtain⟨⟨f,avs⟩,h1,hev1⟩:=bind_some_inv hev
 clear hev
 obtain⟨g,h2,hev2⟩:=bind_some_inv hev1
 clear hev1
 simp only at h2 hev2
 obtain⟨⟨fn,f1,f2,f3⟩,hI⟩:=hE.inl f g h2
 have key:∃ vs:List Value,avs.length=vs.length/\(∀ (i:Nat) (x:AV) (v:Value),avs[i]?=some x->vs[i]?=some v->AR ⟨w,S,γ,β,s.ob,s.dead⟩ x v)/\(execOp a.eval o).run P w=.ok (.enter f vs.toArray) w:=by
  clear hev2 hI h2
  have hb:¬ fn.body=none:=by intro hh;rw[hh] at f3;cases f3
  have f2' : ¬ fn.name = "runtime.NumGoroutine" := by simpa using f2
  obtain⟨dst,op,ty,pos,after,guard⟩:=o
  simp only at hop
  subst hop
  obtain⟨callee,args,argTypes⟩:=c
  simp only[nw] at h1
  split at h1<;>first|(cases h1;done)|skip
  ·rename_i f'
   simp only[Option.some.injEq,Prod.mk.injEq] at h1
   obtain⟨rfl,rfl⟩:=h1
   refine⟨args.toList.map a.eval,by simp,iQ h _,?_⟩
   have hm:args.map a.eval=(args.toList.map a.eval).toArray:=Array.ext' (by simp)
   simp[execOp,resolve,Act.eval,Deferred.ofValue,invoke,callFunc,f1,f2',hb,hm]
  ·rename_i t
   split at h1<;>first|(cases h1;done)|skip
   rename_i f' l ht
   split at h1<;>first|(cases h1;done)|skip
   rename_i hp
   simp only[Option.some.injEq,Prod.mk.injEq] at h1
   obtain⟨rfl,rfl⟩:=h1
   have hA:=aM h (.tmp t)
   have hA':AR ⟨w,S,γ,β,s.ob,s.dead⟩ (.clo f' l) (a.eval (.tmp t)):=by rw[<-ht];exact hA
   simp only[AR,AC] at hA'
   obtain⟨na,caps,hcs,hcap⟩:=hA'
   have hv:=au na hcs
   obtain⟨k1,k2⟩:=jy l caps hp hcap
   refine⟨args.toList.map a.eval++caps,by simp[k1],fun i x v hx hv'=>?_,?_⟩
   ·rcases Nat.lt_or_ge i (args.toList.map s.opA).length with hi|hi
    ·rw[List.getElem?_append_left hi] at hx
     rw[List.getElem?_append_left (by simpa using hi)] at hv'
     exact iQ h _ i x v hx hv'
    ·rw[List.getElem?_append_right hi] at hx
     rw[List.getElem?_append_right (by simpa using hi)] at hv'
     refine k2 _ x v hx ?_
     simpa using hv'
   ·have hm:args.map a.eval=(args.toList.map a.eval).toArray:=Array.ext' (by simp)
    simp[execOp,resolve,hv,Deferred.ofValue,invoke,callFunc,f1,f2',hb,hm]
 obtain⟨vs,k1,k2,k3⟩:=key
 have hc:=hI an R w0 S γ β s a w avs vs _ r h k1 k2 hev2
 unfold dq
 rw[k3]
 refine hc.mono fun e w' ⟨v,y,s',S',γ',β',e1,e2,e3,e4,e5,e6⟩=>⟨v,e1,s'.put o.dst y,S',γ',β',e2,e3.put e4 o.dst,⟨e5.sub,e5.cell,fun t ht=>bB (hlk t ht),e5.objs,e5.sz,e5.gam,iR.same bf e5.dfs.1⟩,?_⟩
 have p:=St.put_fields s' o.dst y
 exact⟨p.2.2.2.2.1.trans e6.lkS,p.2.2.2.2.2.1.trans e6.lkO,p.2.2.2.1.trans e6.nt⟩
theorem tE(hE:EnvOk P E)(h:Rp w0 S γ β s a w){o:Oper}(hlk:∀ t∈s.lkS,o.dst≠some t){R:Type}{K:St->Option R}{r:R}{an:Ann}
  (hev:J4 E an s o (fun v s'=>K (s'.put o.dst v))=some r) {next:Act->World->Prop} {Q:Exit->Act->World->Prop}
  (hk:∀ u s' S' γ' β' w',K s'=some r->Rp w0 S' γ' β' s' (a.put o.dst u) w'->Fm s S γ a w S' γ' (a.put o.dst u) w'->Sk s s'->next (a.put o.dst u) w'):o.wpIn (FW ro) nn P a w next Q:=by
 unfold J4 at hev
 split at hev<;>first|(cases hev;done)|skip
 rename_i c hop
 split at hev
 ·rename_i q hy
  obtain⟨id,i,avs⟩:=q
  refine CG hE h hop hy hev fun y v s' S' γ' β' w' m0 m1 m2 m3 m4=>?_
  have p:=St.put_fields s' o.dst y
  exact hk v _ S' γ' β' w' m0 (m1.put m2 o.dst) ⟨m3.sub,m3.cell,fun t ht=>bB (hlk t ht),m3.objs,m3.sz,m3.gam,iR.same bf m3.dfs.1⟩ ⟨p.2.2.2.2.1.trans m4.lkS,p.2.2.2.2.2.1.trans m4.lkO,p.2.2.2.1.trans m4.nt⟩
 ·refine aV (G4 hE h hop hlk hev) fun u w' ⟨s',S',γ',β',m0,m1,m2,m3⟩=>?_
  exact hk u s' S' γ' β' w' m0 m1 m2 m3
theorem pP(hE:EnvOk P E){Q:Exit->Act->World->Prop}(hops:(ops.toList.all fun o=>match o.op with|.store ..=>o.dst.isNone|_=>true)=true):∀ (N:Nat) (R:Type) (l:List (Nat×Oper)) {S:Nat->Nat->Prop} {γ:Nat->Option Nat} {β:Nat->Option (Nat×Nat)} {s:St} {a:Act} {w:World} (k:St->Option R) (r:R) (an:Ann),
  Rp w0 S γ β s a w->zh E s γ β (l.map Prod.snd)->(∀ (A B:List Oper) o o',l.map Prod.snd=A++o::B->o'∈B->∀ d,o'.dst=some d->o.dst≠some d)->(∀ p∈l,p.2∈ops.toList)->dD E N R ops an l s k=some r ->
  (∀ s' S' γ' β' a' w',Rp w0 S' γ' β' s' a' w'->Fm s S γ a w S' γ' a' w'->Sk s s'->k s'=some r->Q .normal a' w')->wpListIn (FW ro) nn P ops Q (l.map Prod.snd) a w:=by
 intro N
 induction N with
 | zero=>intro R l S γ β s a w k r an _ _ _ _ h;simp[dD] at h
 | succ N ih=>
  intro R l S γ β s a w k r an h hf hd hmem hev hQ
  cases l with
  | nil=>
   simp only[dD] at hev
   exact hQ s S γ β a w h (Fm.refl _ _ _ _ _) (Sk.refl s) hev
  | cons p l=>
   obtain⟨i,o⟩:=p
   have hfo:Fr E s γ β o:=hf o (by simp)
   have hst:∀ T x y,o.op=.store T x y->o.dst=none:=fun T x y e=>by
    have:=List.all_eq_true.1 hops o (hmem (i,o) (by simp))
    rw[e] at this
    simpa using this
   have hdo:∀ o'∈l.map Prod.snd,∀ d,o'.dst=some d->o.dst≠some d:=fun o' ho'=>hd [] (l.map Prod.snd) o o' rfl ho'
   have hd':∀ (A B:List Oper) x x',l.map Prod.snd=A++x::B->x'∈B->∀ d,x'.dst=some d->x.dst≠some d:=fun A B x x' e hx=>hd (o::A) B x x' (by simp[e]) hx
   have hmem':∀ p∈l,p.2∈ops.toList:=fun p hp=>hmem p (by simp[hp])
   have run:¬ ij s o=true->xb E an l s o (fun s'=>dD E N R ops (o9 E o an) l s' k)=some r->o.wpIn (FW ro) nn P a w (wpListIn (FW ro) nn P ops Q (l.map Prod.snd)) Q:=by
    intro hlk he
    have hlk':∀ t∈s.lkS,o.dst≠some t:=fun t ht e=>hlk (by simp[ij,e];exact ht)
    unfold xb at he
    split at he
    ·split at he
     rename_i hcr
     refine tE (K:=fun s1=>dD E N R ops (o9 E o an) l s1 k) hE h hlk' he fun u s' S' γ' β' w' m0 m1 m2 m3=>?_
     have frn:zh E s' γ' β' (l.map Prod.snd):=fun o' ho'=>by
      obtain⟨p,hp,rfl⟩:=List.mem_map.1 ho'
      have:=List.all_eq_true.1 hcr p hp
      exact yc (by simpa using this)
     exact ih R l k r _ m1 frn hd' hmem' m0 fun s2 S2 γ2 β2 a2 w2 n1 n2 n3 n4=>hQ s2 S2 γ2 β2 a2 w2 n1 (m2.trans n2 m3.lkS m3.lkO) (m3.trans n3) n4
     split at he<;>first|(cases he;done)|skip
     rename_i hna
     refine tE (K:=fun s1=>dD E N R ops (o9 E o an) l (tj s1) k) hE h hlk' he fun u s' S' γ' β' w' m0 m1 m2 m3=>?_
     exact ih R l k r _ m1.later (yn m1 hna fun o' ho'=>hf o' (by simp only[List.map_cons,List.mem_cons];exact .inr ho')) hd' hmem' m0 fun s2 S2 γ2 β2 a2 w2 n1 n2 n3 n4=>hQ s2 S2 γ2 β2 a2 w2 n1 (m2.trans n2 m3.lkS m3.lkO) (m3.trans ⟨n3.lkS,n3.lkO,n3.nt⟩) n4
    obtain⟨s',h1,h2⟩:=tD hE h hfo (fun T t _ ht=>hE.flat T t ht) hlk' hst he
    obtain⟨f1,f2,f3,f4,f5,f6⟩:=h2
    refine aV f6 fun u w' ⟨S',γ',β',m1,m2,m3⟩=>?_
    exact ih R l k r _ m1 (fun o' ho'=>(hf o' (by simp only[List.map_cons,List.mem_cons];exact .inr ho')).keep (hdo o' ho') f3 f5 m3) hd' hmem' h1 fun s2 S2 γ2 β2 a2 w2 n1 n2 n3 n4=>hQ s2 S2 γ2 β2 a2 w2 n1 (m2.trans n2 f1 f2) (Sk.trans ⟨f1,f2,f4⟩ n3) n4
   obtain⟨w1,w2,w3⟩:=nW (ops:=ops) (o:=o) h
   cases hg:o.guard with
   | some jw=>
    obtain⟨j,want⟩:=jw
    simp only[dD,hg] at hev
    split at hev<;>first|(cases hev;done)|skip
    rename_i g hgd
    split at hev<;>first|(cases hev;done)|skip
    rename_i hlk
    have hlk':∀ t∈s.lkS,o.dst≠some t:=fun t ht e=>hlk (by simp[ij,e];exact ht)
    have p:=St.put_fields s o.dst .gone
    have alt:(Region.wanted o (yielded ops a.tmps)=true/\(xb E an l s o fun s'=>dD E N R ops (o9 E o an) l s' k)=some r)\/(Region.wanted o (yielded ops a.tmps)=false/\dD E N R ops (o9 E o an) l (s.put o.dst .gone) k=some r):=by
     by_cases hgo:s.tm g=.gone
     ·rw[hgo,dw] at hev
      exact .inr ⟨w3 j want g hg hgd hgo,hev⟩
     rw[eu hgo] at hev
     obtain⟨c,h1,h2⟩:=bind_some_inv hev
     replace h2:=jL (A:=fun s=>xb E an l s o fun s'=>dD E N R ops (o9 E o an) l s' k) (B:=fun s=>dD E N R ops (o9 E o an) l (s.put o.dst .gone) k) h1 h2
     have hw:=w2 j want g c hg hgd h1
     split at h2
     ·rename_i hc;exact .inl ⟨by rw[hw];exact hc,h2⟩
     ·rename_i hc;exact .inr ⟨by rw[hw];simpa using hc,h2⟩
    rcases alt with⟨hw,h2⟩|⟨hw,h2⟩
    ·simp only[List.map_cons,wpListIn,hw,if_true]
     exact run hlk h2
    ·simp only[List.map_cons,wpListIn,hw,Bool.false_eq_true,if_false]
     refine⟨fun _ _=>trivial,?_⟩
     exact ih R l k r _ (h.put (v:=.gone) (val:=undef) (by simp[AR]) o.dst) (fun o' ho'=>(hf o' (by simp only[List.map_cons,List.mem_cons];exact .inr ho')).keep (hdo o' ho') p.2.1 (fun id _ _=>by rw[p.1]) fun id _=>⟨rfl,rfl⟩) hd' hmem' h2 fun s2 S2 γ2 β2 a2 w2 n1 n2 n3 n4=>hQ s2 S2 γ2 β2 a2 w2 n1 (Fm.trans (s1:=s.put o.dst .gone) ⟨fun _ _ hb=>hb,fun _ _ _=>rfl,fun t ht=>bB (hlk' t ht),fun _ _ _ hb=>⟨hb,gN.refl _ _⟩,Nat.le_refl _,fun _ _ hb=>hb,iR.same bf (cC.refl _)⟩ n2 p.2.2.2.2.1 p.2.2.2.2.2.1) ((Sm.put s o.dst .gone).sk.trans n3) n4
   | none=>
    by_cases hgu:j4 E s i o l=true
    ·obtain⟨seg,jj,pk,l'',s5,s3,e1,q1,q2,q3,q4,q5,q6⟩:=ET hg hgu hev
     subst e1
     have el:((i,o)::(seg++(jj,pk)::l'')).map Prod.snd=(o::(seg.map Prod.snd++[pk]))++l''.map Prod.snd:=by simp
     rw[el] at hf hd ⊢
     refine ui hE _ _ h hf hd q4 fun S2 γ2 β2 a2 w2 n1 n2 n3 n4=>?_
     refine ih R l'' k r an (n1.wk q5) (fun o' ho'=>?_) (fun A B x x' e hx=>hd ((o::(seg.map Prod.snd++[pk]))++A) B x x' (by rw[e];simp) hx) (fun p hp=>hmem p (by simp[hp])) q6 fun s2 S3 γ3 β3 a3 w3 m1 m2 m3 m4=>hQ s2 S3 γ3 β3 a3 w3 m1 (n2.trans m2 (q5.lkS.trans n3.lkS) (q5.lkO.trans n3.lkO)) ((n3.trans (Sm.wk q5)).sk.trans m3) m4
     have:=n4 o' ho'
     intro hc d hd2
     obtain⟨r1,r2,r3,r4⟩:=this hc d hd2
     rw[q5.base_eq,q5.ob]
     exact⟨r1,r2,r3,r4⟩
    ·have hgu':j4 E s i o l=false:=by simpa using hgu
     simp only[dD,hg,hgu',Bool.false_eq_true,if_false] at hev
     split at hev<;>first|(cases hev;done)|skip
     rename_i hlk
     simp only[List.map_cons,wpListIn,w1 hg,if_true]
     exact run hlk hev
end
end Sy
end
noncomputable section
namespace Sy
open Go
theorem ko{s:St}{d:Option Nat}{v:AV}{x:Operand}(h:∀ t,d=some t->x≠.tmp t):(s.put d v).opA x=s.opA x:=by
 cases x with
 | tmp t=>
  cases d with
  | none=>rfl
  | some d=>
   have hne:t≠d:=fun e=>h d rfl (by rw[e])
   simp only[St.opA,St.put]
   split
   ·simp[hne]
   ·rfl
 | const v=>rfl
 | global g=>rfl
 | func f=>rfl
section
variable{E:Env}{s s':St}
theorem jb(hob:s'.ob=s.ob)(ty:Nat->Option Ty):∀ (l:List (Nat×Operand)),(∀ p∈l,s'.opA p.2=s.opA p.2)->partsD s'.ob s' ty l=partsD s.ob s ty l
 | [],_=>rfl
 | (i,x)::l,h=>by
  have ih:=jb hob ty l (fun p hp=>h p (by simp[hp]))
  have hx:=h (i,x) (by simp)
  simp only at hx
  simp only[partsD,hx,ih]
  rw[hob]
theorem lY(ts:List Ty):∀ (l:List (Nat×Operand)),(∀ p∈l,s'.opA p.2=s.opA p.2)->l.all (eM s' ts)=l.all (eM s ts)
 | [],_=>rfl
 | p::l,h=>by
  simp only[List.all_cons,lY ts l (fun q hq=>h q (by simp[hq])),eM,h p (by simp)]
theorem xm:∀ (l:List (Nat×Operand)),(∀ p∈l,s'.opA p.2=s.opA p.2)->(l.map fun p=>(p.1,s'.opA p.2))=l.map fun p=>(p.1,s.opA p.2):=fun l h=>
 List.map_congr_left fun p hp=>by rw[h p hp]
theorem jX{o:Oper}(hob:s'.ob=s.ob)(hf:s'.fresh=s.fresh)(h:∀ x∈o.op.operands,s'.opA x=s.opA x):qv E s' o some=qv E s o some:=by
 have hb:s'.base=s.base:=by simp only[St.base,hf]
 obtain⟨dst,op,ty,pos,after,guard⟩:=o
 have parts:∀ ps:Array (Nat×Operand),(∀ x∈(ps.toList.map Prod.snd).toArray,s'.opA x=s.opA x)->∀ p∈ps.toList,s'.opA p.2=s.opA p.2:=fun ps hp p hm=>hp p.2 (by rw[List.mem_toArray];exact List.mem_map_of_mem hm)
 cases op
 case move x=>simp only[qv,h x (by simp[Op.operands])]
 case assign x=>simp only[qv,h x (by simp[Op.operands])]
 case pick c x y=>simp only[qv,h c (by simp[Op.operands]),h x (by simp[Op.operands]),h y (by simp[Op.operands])]
 case alloc T=>simp only[qv,hb]
 case build T ps=>
  have hp:=parts ps h
  simp only[qv,jb hob _ _ hp,lY _ _ hp,xm _ hp]
 case buildSlice T n ps=>
  have hp:=parts ps h
  simp only[qv,jb hob _ _ hp,hb]
 case load T x=>simp only[qv,h x (by simp[Op.operands]),hob]
 case lookup T x i c=>simp only[qv,h x (by simp[Op.operands]),h i (by simp[Op.operands]),hob]
 case nilCheck x=>simp only[qv,h x (by simp[Op.operands])]
 case binOp op T x y T'=>simp only[qv,h x (by simp[Op.operands]),h y (by simp[Op.operands])]
 case unOp op T x=>simp only[qv,h x (by simp[Op.operands])]
 case convert U T x=>simp only[qv,h x (by simp[Op.operands])]
 case makeFunc fn x y=>
  have hy:∀ z∈y.toList,s'.opA z=s.opA z:=fun z hz=>h z (by simp only[Op.operands,Array.mem_append];exact .inr (by simpa using hz))
  have e1:(y.toList.all fun z=>eP (s'.opA z))=y.toList.all fun z=>eP (s.opA z):=by
   rw[Bool.eq_iff_iff,List.all_eq_true,List.all_eq_true]
   exact⟨fun hh z hz=>by rw[<-hy z hz];exact hh z hz,fun hh z hz=>by rw[hy z hz];exact hh z hz⟩
  have e2:y.toList.map s'.opA=y.toList.map s.opA:=List.map_congr_left hy
  simp only[qv,e1,e2]
 case slice T x lo hi mx=>
  have e0:=h x (by simp[Op.operands])
  cases mx with
  | some m=>simp only[qv]
  | none=>
   cases lo with
   | none=>
    cases hi with
    | none=>simp only[qv,e0,hob]
    | some j=>simp only[qv,e0,hob,h j (by simp[Op.operands])]
   | some i=>
    cases hi with
    | none=>simp only[qv,e0,hob,h i (by simp[Op.operands])]
    | some j=>simp only[qv,e0,hob,h i (by simp[Op.operands]),h j (by simp[Op.operands])]
 case sliceToArrayPointer T x=>simp only[qv,h x (by simp[Op.operands]),hob]
 case fieldAddr T x f=>simp only[qv,h x (by simp[Op.operands])]
 case field T x f=>simp only[qv,h x (by simp[Op.operands])]
 case indexAddr T x i=>simp only[qv,h x (by simp[Op.operands]),h i (by simp[Op.operands]),hob]
 case index T x i=>simp only[qv,h x (by simp[Op.operands]),h i (by simp[Op.operands])]
 case extract x i=>simp only[qv,h x (by simp[Op.operands])]
 case call c=>
  obtain⟨callee,args,argTypes⟩:=c
  have ha:∀ z∈args.toList,s'.opA z=s.opA z:=fun z hz=>h z (by simp only[Op.operands,Call.operands,Array.mem_append];exact .inr (by simpa using hz))
  have e2:args.toList.map s'.opA=args.toList.map s.opA:=List.map_congr_left ha
  cases callee with
  | invoke r m=>rfl
  | value f=>
   cases f with
   | tmp t=>
    have e3:s'.tm t=s.tm t:=h (.tmp t) (by simp[Op.operands,Call.operands])
    simp only[qv,e2,e3,hob]
   | func f=>simp only[qv,e2,hob]
   | const v=>rfl
   | global g=>rfl
  | builtin b=>
   cases b<;>first|rfl|skip
   case len=>
    simp only[qv]
    cases hT:argTypes[0]? with
    | none=>rfl
    | some T=>
     cases hx:args[0]? with
     | none=>rfl
     | some x=>
      have:=ha x (Array.mem_toList_iff.2 (Array.mem_of_getElem? hx))
      simp only[Option.bind_some,hob]
      cases E.L T with
      | none=>rfl
      | some t=>cases t<;>simp only[Option.bind_some,this]
   case min=>
    simp only[qv]
    split
    ·rename_i x y he
     rw[ha x (by rw[he];simp),ha y (by rw[he];simp)]
    ·rfl
   case max=>
    simp only[qv]
    split
    ·rename_i x y he
     rw[ha x (by rw[he];simp),ha y (by rw[he];simp)]
    ·rfl
 all_goals rfl
theorem qy{s:St}{d:Option Nat}{v:AV}{t:Nat}(h:d≠some t):(s.put d v).tm t=s.tm t:=by
 have:=ko (s:=s) (d:=d) (v:=v) (x:=.tmp t) (fun u hu e=>h (by cases e;exact hu))
 exact this
theorem zf{ops:Array Oper}{o:Oper}{d:Option Nat}{v:AV}(h:∀ t,d=some t->t ∉ o.looksAt ops):val E ops (s.put d v) o=val E ops s o:=by
 obtain⟨p1,p2,p3,p4,p5,p6,p7⟩:=St.put_fields s d v
 have e1:ij (s.put d v) o=ij s o:=by simp only[ij,p5]
 have e2:qv E (s.put d v) o some=qv E s o some:=jX p1 p2 fun x hx=>ko fun t ht e=>h t ht (by
  subst e
  exact List.mem_append_left _ (List.mem_filterMap.2 ⟨.tmp t,by simpa using hx,rfl⟩))
 unfold val
 rw[e1,e2]
 cases hg:o.guard with
 | none=>rfl
 | some p=>
  obtain⟨j,want⟩:=p
  simp only
  cases hgd:(ops[j]?).bind (·.dst) with
  | none=>rfl
  | some g=>
   have e3:(s.put d v).tm g=s.tm g:=qy fun e=>h g e (by
    unfold Oper.looksAt
    rw[hg]
    exact List.mem_append_right _ (by simp[hgd]))
   simp only[Option.bind_some,e3]
theorem wj{s:St}{x y:Option Nat}(v u:AV)(h:∀ d,x=some d->y≠some d):(s.put x v).put y u=(s.put y u).put x v:=by
 cases x with
 | none=>rfl
 | some d=>
  cases y with
  | none=>rfl
  | some e=>
   have hne:d≠e:=fun he=>h d rfl (he ▸ rfl)
   by_cases h1:d<s.nt
   ·by_cases h2:e<s.nt
    ·simp only[St.put,h1,h2,if_true]
     congr 1
     funext i
     by_cases i1:i=d
     ·subst i1;simp[hne]
     ·by_cases i2:i=e
      ·subst i2;simp[i1]
      ·simp[i1,i2]
    ·simp only[St.put,h1,h2,if_true,if_false]
   ·by_cases h2:e<s.nt<;>simp only[St.put,h1,h2,if_true,if_false]
end
end Sy
end
noncomputable section
namespace Sy
open Go
variable{ro:Option Nat}{nn:Nat}
section
variable{E:Env}{ops:Array Oper}{md:Region.Mode}
def wF(E:Env)(ops:Array Oper)(i:Nat)(K:St->Prop)(s:St):Prop:=
 match ops[i]? with
 | none=>K s
 | some o=>∃ v,val E ops s o=some v/\K (s.put o.dst v)
def zA(E:Env)(md:Region.Mode)(ops:Array Oper)(n:Nat)(L:Array Bool->St->Prop):Nat->Array Bool->St->Prop
 | 0,listed,s=>L listed s
 | f+1,listed,s=>Region.ready md ops listed≠[]/\∀ i∈Region.ready md ops listed,i<n/\wF E ops i (zA E md ops n L f (listed.setIfInBounds i true)) s
def jA(md:Region.Mode)(ops:Array Oper)(n:Nat):Prop:=∀ listed i,HeadInv md ops n listed->i<n->listed.getD i true=false->∀ t,n<=t->t ∉ Region.ready md ops listed
theorem pY{n i:Nat}{oi:Oper}{v:AV}{L:Array Bool->St->Prop}(hi:ops[i]?=some oi)(hW:jA md ops n)(hin:i<n)
  (hdone:∀ listed s,L listed s->∀ j∈Region.ready md ops listed,n<=j) :
  ∀ (f:Nat) (listed:Array Bool) (s:St),HeadInv md ops n listed ->
   (∀ j oj,j<n->ops[j]?=some oj->j≠i->listed.getD j true=false->(∀ e∈oj.after,Region.binds md e=true->e.on≠i)->oi.apart ops oj=true) ->
   i∈Region.ready md ops listed->val E ops s oi=some v ->
   zA E md ops n L f (listed.setIfInBounds i true) (s.put oi.dst v)->zA E md ops n L (f+1) listed s:=by
 intro f
 induction f with
 | zero=>
  intro listed s inv _ hr hy H
  have hun:=(mem_ready.1 hr).1
  refine⟨fun h=>(by rw[h] at hr;cases hr),fun j hj=>?_⟩
  have hjn:j<n:=by
   rcases Nat.lt_or_ge j n with h|h
   ·exact h
   ·exact absurd hj (hW _ _ inv hin hun j h)
  refine⟨hjn,?_⟩
  by_cases hji:j=i
  ·subst hji;unfold wF;rw[hi];exact⟨v,hy,H⟩
  ·have:=hdone _ _ H j (ready_mono hj hji)
   omega
 | succ f ih=>
  intro listed s inv hfree hr hy H
  have hun:=(mem_ready.1 hr).1
  refine⟨fun h=>(by rw[h] at hr;cases hr),fun j hj=>?_⟩
  have hjn:j<n:=by
   rcases Nat.lt_or_ge j n with h|h
   ·exact h
   ·exact absurd hj (hW _ _ inv hin hun j h)
  refine⟨hjn,?_⟩
  by_cases hji:j=i
  ·subst hji;unfold wF;rw[hi];exact⟨v,hy,H⟩
  ·have h1:=(H.2 j (ready_mono hj hji)).2
   obtain⟨hjun,oj,hoj,hall⟩:=mem_ready.1 hj
   have hnot:∀ e∈oj.after,Region.binds md e=true->e.on≠i:=fun e he hb heq=>by
    have h1:=hall e he hb
    rw[heq,getD_both hun] at h1
    cases h1
   obtain⟨a1,a2,a3⟩:=Oper.apart_spec (hfree j oj hjn hoj hji hjun hnot)
   unfold wF at h1 ⊢
   rw[hoj] at h1 ⊢
   obtain⟨u,k1,k2⟩:=h1
   rw[zf a1] at k1
   refine⟨u,k1,ih (listed.setIfInBounds j true) (s.put oj.dst u) (inv.set hj hjn) (fun k ok hkn hk hki hun hno=>?_) (ready_mono hr (Ne.symm hji)) ?_ ?_⟩
   ·refine hfree k ok hkn hk hki ?_ hno
    by_cases hjk:j=k
    ·subst hjk;exact hjun
    ·rw[getD_set_ne true hjk] at hun;exact hun
   ·rw[zf a3];exact hy
   ·rw[Array.setIfInBounds_comm _ _ hji,wj u v (fun d hd he=>a2 d he hd)]
    exact k2
theorem vB{n g:Nat}{Lq:St->Prop}(hW:jA md ops n) :
  ∀ (l:List Oper) (k:Nat) (listed:Array Bool) (s s':St),(∀ j,j<l.length->l[j]?=ops[k+j]?)->k+l.length=n->HeadInv md ops n listed ->
  Region.lexHead md ops g l.length k listed=true->seqV E ops l s=some s'->Lq s' ->
  zA E md ops n (fun listed' s'=>Region.seqB md ops g n listed'=true/\Lq s') l.length listed s
 | [],k,listed,s,s',_,hk,_,hB,h,hL=>by
  have:k=n:=by simpa using hk
  subst this
  simp only[seqV,Option.some.injEq] at h
  subst h
  exact⟨by simpa [Region.lexHead] using hB,hL⟩
 | o::l,k,listed,s,s',hl,hk,inv,hB,h,hL=>by
  have h0:ops[k]?=some o:=by simpa using(hl 0 (by simp)).symm
  simp only[List.length_cons,Region.lexHead,Bool.and_eq_true] at hB
  obtain⟨⟨hr,hf⟩,hB'⟩:=hB
  have hkn:k<n:=by simp only[List.length_cons] at hk;omega
  have hr':k∈Region.ready md ops listed:=by simpa using hr
  simp only[seqV] at h
  obtain⟨v,h1,h2⟩:=bind_some_inv h
  exact pY h0 hW hkn (fun listed' s' hL=>seqB_ready hL.1) l.length listed s inv (fun j oj _=>Region.free_spec h0 hf j oj) hr' h1
   (vB hW l (k+1) _ _ s' (fun j hj=>by have:=hl (j+1) (by simp;omega);simpa [Nat.add_assoc,Nat.add_comm 1 j] using this) (by simp only[List.length_cons] at hk;omega) (inv.set hr' hkn) hB' h2 hL)
end
section
variable{P:Program}{E:Env}{w0:Root}{ops:Array Oper}
theorem fI(hE:EnvOk P E){md:Region.Mode}{n g:Nat}{L:Array Bool->St->Prop}{Q:Exit->Act->World->Prop}{s0:St}{S0:Nat->Nat->Prop}{γ0:Nat->Option Nat}{a0:Act}{w1:World}
  (hd:∀ (i j:Nat) (oi oj:Oper),i≠j->ops[i]?=some oi->ops[j]?=some oj->∀ d,oj.dst=some d->oi.dst≠some d)
  (hL:∀ listed s S γ β a w,Rp w0 S γ β s a w->Fm s0 S0 γ0 a0 w1 S γ a w->Sm s0 s->(∀ j oj,ops[j]?=some oj->listed.getD j true=false->Fr E s γ β oj)->L listed s->wpAnyIn (FW ro) nn P md ops Q g listed a w) :
  ∀ (f:Nat) (listed:Array Bool) (s:St) (S:Nat->Nat->Prop) (γ:Nat->Option Nat) (β:Nat->Option (Nat×Nat)) (a:Act) (w:World),Rp w0 S γ β s a w->Fm s0 S0 γ0 a0 w1 S γ a w->Sm s0 s ->
   (∀ j oj,ops[j]?=some oj->listed.getD j true=false->Fr E s γ β oj)->zA E md ops n L f listed s->wpAnyIn (FW ro) nn P md ops Q (f+g) listed a w
 | 0,listed,s,S,γ,β,a,w,h,hF,hS,hfr,hh=>by rw[Nat.zero_add];exact hL _ _ _ _ _ _ _ h hF hS hfr hh
 | f+1,listed,s,S,γ,β,a,w,h,hF,hS,hfr,hh=>by
  rw[show f+1+g=(f+g)+1 by omega]
  refine⟨fun h0=>absurd h0 hh.1,fun i hi=>?_⟩
  obtain⟨_,hst⟩:=hh.2 i hi
  have hun:=(mem_ready.1 hi).1
  unfold wF at hst
  unfold wpOpIn
  cases ho:ops[i]? with
  | none=>
   obtain⟨_,o,ho',_⟩:=mem_ready.1 hi
   rw[ho] at ho';cases ho'
  | some o=>
   rw[ho] at hst
   simp only at hst ⊢
   obtain⟨v,h1,h2⟩:=hst
   obtain⟨k1,k2⟩:=uu hE h (hfr i o ho hun) h1
   have p:=St.put_fields s o.dst v
   have frn:∀ {γ':Nat->Option Nat} {β':Nat->Option (Nat×Nat)},(∀ id,o.dst≠some (id-s.base)\/id<s.base->γ' id=γ id/\β' id=β id)->∀ j oj,ops[j]?=some oj->(listed.setIfInBounds i true).getD j true=false->Fr E (s.put o.dst v) γ' β' oj:=fun hk j oj hj hu=>by
    by_cases hij:i=j
    ·subst hij
     exfalso
     rcases Nat.lt_or_ge i listed.size with hlt|hge
     ·simp[Array.getD,hlt] at hu
     ·simp[Array.getD,hge,Nat.not_lt.2 hge] at hu
    ·rw[getD_set_ne true hij] at hu
     exact(hfr j oj hj hu).keep (fun d hdj=>hd i j o oj hij ho hj d hdj) p.2.1 (fun id _ _=>by rw[p.1]) hk
   split
   ·rename_i hw
    refine(aV (k1 hw) fun u w' ⟨S',γ',β',m1,m2,m3⟩=>?_)
    exact fI hE hd hL f _ _ S' γ' β' _ _ m1 (hF.trans m2 hS.lkS hS.lkO) (hS.trans (Sm.put s o.dst v)) (frn m3) h2
   ·rename_i hw
    obtain⟨m1,m2⟩:=k2 (by simpa using hw)
    refine⟨fun _ _=>trivial,?_⟩
    exact fI hE hd hL f _ _ S γ β _ _ m1 (hF.trans m2 hS.lkS hS.lkO) (hS.trans (Sm.put s o.dst v)) (frn fun id _=>⟨rfl,rfl⟩) h2
theorem qn:∀ {l:List Nat},cK l=true->∀ A B x y,l=A++x::B->y∈B->y≠x
 | [],_,A,B,x,y,e,_=>by simp at e
 | a::l,h,A,B,x,y,e,hy=>by
  simp only[cK,Bool.and_eq_true,Bool.not_eq_true'] at h
  cases A with
  | nil=>
   simp only[List.nil_append,List.cons.injEq] at e
   obtain⟨rfl,rfl⟩:=e
   intro hyx
   subst hyx
   have:l.contains y=true:=by simpa using hy
   rw[this] at h;cases h.1
  | cons a' A=>
   simp only[List.cons_append,List.cons.injEq] at e
   exact qn h.2 A B x y e.2 hy
theorem du{l:List Oper}(h:cK (l.filterMap (·.dst))=true)(A B:List Oper)(o o':Oper)(e:l=A++o::B)(ho:o'∈B)(d:Nat)(hd:o'.dst=some d):o.dst≠some d:=by
 intro hod
 subst e
 have e2:(A++o::B).filterMap (·.dst)=A.filterMap (·.dst)++d::B.filterMap (·.dst):=by
  rw[List.filterMap_append,List.filterMap_cons]
  simp[hod]
 exact qn h _ _ d d e2 (List.mem_filterMap.2 ⟨o',ho,hd⟩) rfl
theorem fM{l:List Oper}(h:cK (l.filterMap (·.dst))=true){i j:Nat}{oi oj:Oper}(hij:i≠j)(hi:l[i]?=some oi)(hj:l[j]?=some oj)(d:Nat)(hd:oj.dst=some d):oi.dst≠some d:=by
 obtain⟨hi1,hi2⟩:=List.getElem?_eq_some_iff.1 hi
 obtain⟨hj1,hj2⟩:=List.getElem?_eq_some_iff.1 hj
 rcases Nat.lt_or_ge i j with hlt|hge
 ·refine du h (l.take i) (l.drop (i+1)) oi oj ?_ ?_ d hd
  ·rw[<-hi2,<-List.drop_eq_getElem_cons hi1,List.take_append_drop]
  ·refine List.mem_of_getElem? (i:=j-(i+1)) ?_
   rw[List.getElem?_drop,show i+1+(j-(i+1))=j by omega]
   exact hj
 ·intro hod
  refine du h (l.take j) (l.drop (j+1)) oj oi ?_ ?_ d hod hd
  ·rw[<-hj2,<-List.drop_eq_getElem_cons hj1,List.take_append_drop]
  ·refine List.mem_of_getElem? (i:=i-(j+1)) ?_
   rw[List.getElem?_drop,show j+1+(i-(j+1))=i by omega]
   exact hi
theorem aS:∀ (l:List Oper) (i:Nat),(aJ i l).map Prod.snd=l
 | [],_=>rfl
 | o::l,i=>by simp only[aJ,List.map_cons,aS l (i+1)]
theorem gB{l:List Oper}{i:Nat}{p:Nat×Oper}(h:p∈aJ i l):p.2∈l:=by
 have:p.2∈(aJ i l).map Prod.snd:=List.mem_map_of_mem h
 rwa [aS] at this
theorem fH:∀ (l:List Oper) (i:Nat),(aJ i l).length=l.length
 | [],_=>rfl
 | o::l,i=>by simp only[aJ,List.length_cons,fH l (i+1)]
theorem Aj(hE:EnvOk P E){id:Nat}{dr:Bool}{n:Nat}{Q:Exit->Act->World->Prop}{S:Nat->Nat->Prop}{γ:Nat->Option Nat}{β:Nat->Option (Nat×Nat)}{s:St}{a:Act}{w:World}{R:Type}{k:St->Option R}{r:R}{N:Nat}
  (h:Rp w0 S γ β s a w) (hf:zh E s γ β ops.toList) (hm:bz ops.toList=true) (hdr:(!dr||ni E ops n)=true) {an:Ann} (hev:dD E N R ops an (aJ 0 ops.toList) s k=some r)
  (hQ:∀ s' S' γ' β' a' w',Rp w0 S' γ' β' s' a' w'->Fm s S γ a w S' γ' a' w'->Sk s s'->k s'=some r->Q .normal a' w'):(Code.region id ops dr).wpIn (FW ro) nn P Q a w:=by
 simp only[bz,Bool.and_eq_true] at hm
 obtain⟨⟨hm1,hm2⟩,hm3⟩:=hm
 have hstores:(ops.toList.all fun o=>match o.op with|.store ..=>o.dst.isNone|_=>true)=true:=hm3
 cases dr with
 | false=>
  refine wpIn_region_list ?_
  have:=pP (ro:=ro) (nn:=nn) (ops:=ops) hE hstores N R (aJ 0 ops.toList) k r an h (by rw[aS];exact hf) (by rw[aS];exact fun A B o o' e ho d hd=>du hm1 A B o o' e ho d hd) (fun p hp=>gB hp) hev hQ
  rwa [aS] at this
 | true=>
  simp only[Bool.not_true,Bool.false_or,ni,Bool.and_eq_true] at hdr
  obtain⟨⟨⟨⟨⟨d0,d1⟩,d2⟩,d3⟩,d4⟩,d5⟩:=hdr
  have hn:n<=ops.size:=by
   simp only[Bool.or_eq_true,decide_eq_true_eq,Bool.and_eq_true] at d3
   rcases d3 with d3|d3
   ·omega
   ·omega
  have hW:jA .any ops n:=by
   intro listed i inv hin hun t ht hr
   simp only[Bool.or_eq_true,decide_eq_true_eq,Bool.and_eq_true] at d3
   rcases d3 with d3|⟨⟨d3,d6⟩,d7⟩
   ·obtain⟨_,o,ho,_⟩:=mem_ready.1 hr
    have:=(Array.getElem?_eq_some_iff.1 ho).1
    omega
   ·exact tail_waits d6 d7 d3 inv _ i rfl hin hun t ht hr
  obtain⟨s',s'',N',q1,q2,q3⟩:=pO N R (aJ 0 ops.toList) s k r n an (by rw[fH,Array.length_toList];exact hn) (fun p hp=>by
    have hp':p.2∈ops.toList.take n:=by
     have:p.2∈((aJ 0 ops.toList).take n).map Prod.snd:=List.mem_map_of_mem hp
     rwa [List.map_take,aS] at this
    exact⟨List.all_eq_true.1 d4 _ hp',by simpa using List.all_eq_true.1 d0 _ hp'⟩) (.inl fun p hp c x y e=>by
    have hp':p.2∈ops.toList.drop n:=by
     have:p.2∈((aJ 0 ops.toList).drop n).map Prod.snd:=List.mem_map_of_mem hp
     rwa [List.map_drop,aS] at this
    have:=List.all_eq_true.1 d5 _ hp'
    simp only[Bool.and_eq_true] at this
    have h2:=this.2
    rw[e] at h2
    cases h2) hev
  rw[List.map_take,aS] at q1
  refine wpIn_region_any hE.mixed ?_
  have hg:∃ os d,w.drawn<=d/\({ w with drawn:=w.drawn+1 }:World)=grown w os d:=⟨[],w.drawn+1,Nat.le_succ _,by simp[grown]⟩
  obtain⟨os,d,hdr,hg⟩:=hg
  obtain⟨g1,g2⟩:=h.grow (os:=os) (d:=d) hdr (S':=S) (fun _ _ hb=>hb) (fun _ _ hb=>.inl hb)
  rw[hg]
  have hlen:(ops.toList.take n).length=n:=by simp;omega
  have inv0:HeadInv .any ops n (Array.replicate ops.size false):=
   ⟨by simp,fun j oj _ hl=>(by rw[getD_replicate_false] at hl;cases hl),fun t _ ht=>getD_in (by simpa using ht) (getD_replicate_false _ _)⟩
  have H:=vB (E:=E) (md:=.any) (g:=ops.size-n) (Lq:=fun s=>s=s') hW (ops.toList.take n) 0 (Array.replicate ops.size false) s s' (fun j hj=>by
   rw[hlen] at hj
   rw[List.getElem?_take_of_lt hj,Nat.zero_add,Array.getElem?_toList]) (by rw[hlen,Nat.zero_add]) inv0 (by rw[hlen];exact d2) q1 rfl
  have hdl:(ops.toList.drop n).length=ops.size-n:=by simp
  have:=fI (ro:=ro) (nn:=nn) (Q:=Q) (g:=ops.size-n) hE (s0:=s) (S0:=S) (γ0:=γ) (a0:=a) (w1:=grown w os d) (fun i j oi oj hij hi hj d hd=>fM hm1 hij (by rw[Array.getElem?_toList];exact hi) (by rw[Array.getElem?_toList];exact hj) d hd)
   (fun listed s2 S2 γ2 β2 a2 w2 m1 m2 m3 m4 m5=>by
    obtain⟨m5,m6⟩:=m5
    subst m6
    have hseq:=eV (F:=FW ro) (n:=nn) (P:=P) (md:=.any) (ops:=ops) (Q':=Q) (ops.toList.drop n) n listed a2 w2 (fun j=>by rw[List.getElem?_drop,Array.getElem?_toList]) (by rw[hdl];exact m5) ?_
    ·rwa [hdl] at hseq
    have hunl:∀ j oj,ops[j]?=some oj->n<=j->listed.getD j true=false:=by
     intro j oj hj hnj
     have key:∀ (g k:Nat) (listed:Array Bool),Region.seqB .any ops g k listed=true->∀ j,k<=j->j<k+g->listed.getD j true=false:=by
      intro g
      induction g with
      | zero=>intro k listed _ j h1 h2;omega
      | succ g ih=>
       intro k listed hB j h1 h2
       simp only[Region.seqB,Bool.and_eq_true,decide_eq_true_eq] at hB
       by_cases hjk:j=k
       ·subst hjk
        have:j∈Region.ready .any ops listed:=by rw[hB.1];simp
        exact(mem_ready.1 this).1
       ·have:=ih (k+1) _ hB.2 j (by omega) (by omega)
        rwa [getD_set_ne true (Ne.symm hjk)] at this
     have hjlt:=(Array.getElem?_eq_some_iff.1 hj).1
     exact key _ _ _ m5 j hnj (by omega)
    have hsub:∀ o∈ops.toList.drop n,Fr E s'' γ2 β2 o:=fun o ho=>by
     obtain⟨i,hi,he⟩:=List.getElem_of_mem ho
     have hi2:ops[n+i]?=some o:=by
      have:(ops.toList.drop n)[i]?=some o:=by rw[List.getElem?_eq_getElem hi,he]
      rwa [List.getElem?_drop,Array.getElem?_toList] at this
     have:=m4 (n+i) o hi2 (hunl _ _ hi2 (by omega))
     intro hc d hd
     obtain⟨r1,r2,r3,r4⟩:=this hc d hd
     rw[q2.base_eq,q2.ob]
     exact⟨r1,r2,r3,r4⟩
    have fin:=pP (ro:=ro) (nn:=nn) (ops:=ops) hE (Q:=Q) hstores N' R ((aJ 0 ops.toList).drop n) k r an (m1.wk q2) (by rw[List.map_drop,aS];exact hsub)
     (by
      rw[List.map_drop,aS]
      intro A B o o' e ho d hd
      exact du hm1 (ops.toList.take n++A) B o o' (by rw[List.append_assoc,<-e,List.take_append_drop]) ho d hd)
     (fun p hp=>gB (List.mem_of_mem_drop hp)) q3 (fun s3 S3 γ3 β3 a3 w3 n1 n2 n3 n4=>by
      refine hQ s3 S3 γ3 β3 a3 w3 n1 ?_ ((m3.trans (Sm.wk q2)).sk.trans n3) n4
      have f0:Fm s S γ a w S γ a (grown w os d):=⟨fun _ _ hb=>hb,g2.cell,fun _ _=>rfl,fun id hid b hb=>⟨hb,.inl (bW (h.γn id b hb).2)⟩,by simp,fun _ _ hb=>hb,iR.same rfl cC.grown⟩
      exact(f0.trans m2 rfl rfl).trans n2 (q2.lkS.trans m3.lkS) (q2.lkO.trans m3.lkO))
    rwa [List.map_drop,aS] at fin)
   (ops.toList.take n).length (Array.replicate ops.size false) s S γ β a (grown w os d) g1 (Fm.refl _ _ _ _ _) (Sm.refl s) (fun j oj hj _=>hf oj (Array.mem_toList_iff.2 (Array.mem_of_getElem? hj))) H
  rw[hlen,show n+(ops.size-n)=ops.size by omega] at this
  exact this
end
end Sy
end
noncomputable section
namespace Sy
open Go
mutual
theorem uh:∀ (a a':AV),AV.same a a'=true->a=a'
 | .ptr t id p,a',h=>by
  cases a'<;>simp only[AV.same,Bool.and_eq_true,decide_eq_true_eq] at h<;>first|(cases h;done)|skip
  obtain⟨⟨h1,rfl⟩,rfl⟩:=h
  rw[Ty.eq_of_beq _ _ h1]
 | .mem t id,a',h=>by
  cases a'<;>simp only[AV.same,Bool.and_eq_true,decide_eq_true_eq] at h<;>first|(cases h;done)|skip
  obtain⟨h1,rfl⟩:=h
  rw[Ty.eq_of_beq _ _ h1]
 | .clo f l,a',h=>by
  cases a'<;>simp only[AV.same,Bool.and_eq_true,decide_eq_true_eq] at h<;>first|(cases h;done)|skip
  obtain⟨rfl,h1⟩:=h
  rw[ww _ _ h1]
 | .map kt vt id,a',h=>by
  cases a'<;>simp only[AV.same,Bool.and_eq_true,decide_eq_true_eq] at h<;>first|(cases h;done)|skip
  obtain⟨⟨h1,h2⟩,rfl⟩:=h
  rw[Ty.eq_of_beq _ _ h1,Ty.eq_of_beq _ _ h2]
 | .yld id,a',h=>by
  cases a'<;>simp only[AV.same,decide_eq_true_eq] at h<;>first|(cases h;done)|skip
  subst h;rfl
 | .d ..,a',h=>by simp[AV.same] at h
 | .own ..,a',h=>by simp[AV.same] at h
 | .nils,a',h=>by simp[AV.same] at h
 | .fptr ..,a',h=>by simp[AV.same] at h
 | .st ..,a',h=>by simp[AV.same] at h
 | .undef,a',h=>by simp[AV.same] at h
theorem ww:∀ (l l':List AV),AV.sames l l'=true->l=l'
 | [],l',h=>by cases l'<;>simp[AV.sames] at h;rfl
 | a::l,l',h=>by
  cases l' with
  | nil=>simp[AV.sames] at h
  | cons a' l'=>
   simp only[AV.sames,Bool.and_eq_true] at h
   rw[uh _ _ h.1,ww _ _ h.2]
end
structure Two(n:Nat)(c c':Cx):Prop where
 w:c'.w=c.w
 S:c'.S=c.S
 γ:∀ id,id<n->c'.γ id=c.γ id
 ob:∀ id,id<n->∀ o',c'.ob id=some o'->∃ o,c.ob id=some o/\(∀ p,eh o' p=eh o p/\ci o' p=ci o p)/\(∀ t l,o=.many t l->∃ l',o'=.many t l'/\l'.length=l.length)/\∀ kt vt l,o=.mp kt vt l->∃ l',o'=.mp kt vt l'
mutual
theorem BQ{n:Nat}{c c':Cx}(h:Two n c c'):∀ (a:AV) (cs:List Value),AV.old n a=true->AC c a cs->AC c' a cs
 | .ptr t id p,cs,ho,k=>by
  simp only[AV.old,decide_eq_true_eq] at ho
  simp only[AC] at k ⊢
  obtain⟨b,off,rfl,k1,k2⟩:=k
  refine⟨b,off,rfl,by rw[h.γ id ho];exact k1,fun o' ho'=>?_⟩
  obtain⟨o,h1,h2,_⟩:=h.ob id ho o' ho'
  rw[(h2 p).1,(h2 p).2];exact k2 o h1
 | .mem t id,cs,ho,k=>by
  simp only[AV.old,decide_eq_true_eq] at ho
  simp only[AC] at k ⊢
  obtain⟨k0,b,k1,k2⟩:=k
  refine⟨k0,b,by rw[h.γ id ho];exact k1,fun o' ho'=>?_⟩
  obtain⟨o,h1,_,h3,_⟩:=h.ob id ho o' ho'
  obtain⟨l,rfl,h4⟩:=k2 o h1
  obtain⟨l',rfl,h5⟩:=h3 _ _ rfl
  exact⟨l',rfl,by rw[h5];exact h4⟩
 | .map kt vt id,cs,ho,k=>by
  simp only[AV.old,decide_eq_true_eq] at ho
  simp only[AC] at k ⊢
  obtain⟨b,e,k1,k2,k3,k4⟩:=k
  refine⟨b,e,by rw[h.γ id ho];exact k1,k2,k3,fun o' ho'=>?_⟩
  obtain⟨o,h1,_,_,h3⟩:=h.ob id ho o' ho'
  obtain⟨l,rfl⟩:=k4 o h1
  exact h3 _ _ _ rfl
 | .yld id,cs,ho,k=>by
  simp only[AV.old,decide_eq_true_eq] at ho
  simp only[AC] at k ⊢
  obtain⟨L,rfl,k1⟩:=k
  exact⟨L,rfl,by rw[h.γ id ho];exact k1⟩
 | .clo f l,cs,ho,k=>by
  simp only[AV.old] at ho
  simp only[AC] at k ⊢
  obtain⟨caps,rfl,k1⟩:=k
  exact⟨caps,rfl,yW h l caps ho k1⟩
 | .d ..,_,ho,_=>by simp[AV.old] at ho
 | .own ..,_,ho,_=>by simp[AV.old] at ho
 | .nils,_,ho,_=>by simp[AV.old] at ho
 | .fptr ..,_,ho,_=>by simp[AV.old] at ho
 | .st ..,_,ho,_=>by simp[AV.old] at ho
 | .undef,_,ho,_=>by simp[AV.old] at ho
theorem yW{n:Nat}{c c':Cx}(h:Two n c c'):∀ (l:List AV) (cs:List Value),AV.olds n l=true->kI c l cs->kI c' l cs
 | [],cs,_,k=>by simpa only[kI] using k
 | a::l,cs,ho,k=>by
  simp only[AV.olds,Bool.and_eq_true] at ho
  simp only[kI] at k ⊢
  obtain⟨v,c2,rfl,k1,k2⟩:=k
  exact⟨v,c2,rfl,BQ h a _ ho.1 k1,yW h l c2 ho.2 k2⟩
end
mutual
def Sh.tkp:Sh->AV->Nat->List (Nat×Nat)
 | .ow _,.own _ v _,j=>[(j,v)]
 | .st _ l,.st _ l',j=>Sh.tkps l l' j
 | _,_,_=>[]
def Sh.tkps:List Sh->List AV->Nat->List (Nat×Nat)
 | h::l,a::l',j=>Sh.tkp h a j++Sh.tkps l l' (j+h.cnt)
 | _,_,_=>[]
end
mutual
theorem ut:∀ (h:Sh) (a:AV) (j:Nat),(Sh.tkp h a j).map Prod.snd=Sh.toks h a
 | .ow _,a,j=>by cases a<;>rfl
 | .st _ l,a,j=>by cases a<;>first|rfl|exact wJ l _ j
 | .dv _,a,j=>by cases a<;>rfl
 | .same _,a,j=>by cases a<;>rfl
theorem wJ:∀ (l:List Sh) (l':List AV) (j:Nat),(Sh.tkps l l' j).map Prod.snd=Sh.tokss l l'
 | [],l',j=>by cases l'<;>rfl
 | h::l,[],j=>rfl
 | h::l,a::l',j=>by
  simp only[Sh.tkps,Sh.tokss,List.map_append,ut h a j,wJ l l' _]
end
def Pl(l:List (Nat×Nat))(i j:Nat):Prop:=(∀ p∈l,i<=p.1/\p.1<j)/\∀ p∈l,∀ q∈l,p.1=q.1->p=q
theorem Pl.nil(i j:Nat):Pl [] i j:=⟨fun p h=>(by cases h),fun p h=>(by cases h)⟩
theorem Pl.append{l l':List (Nat×Nat)}{i j k:Nat}(h:Pl l i j)(h':Pl l' j k)(h1:i<=j)(h2:j<=k):Pl (l++l') i k:=by
 refine⟨fun p hp=>?_,fun p hp q hq e=>?_⟩
 ·rcases List.mem_append.1 hp with hp|hp
  ·have:=h.1 p hp;omega
  ·have:=h'.1 p hp;omega
 ·rcases List.mem_append.1 hp with hp|hp<;>rcases List.mem_append.1 hq with hq|hq
  ·exact h.2 p hp q hq e
  ·have:=h.1 p hp;have:=h'.1 q hq;omega
  ·have:=h'.1 p hp;have:=h.1 q hq;omega
  ·exact h'.2 p hp q hq e
mutual
theorem xT:∀ (h:Sh) (a:AV) (j:Nat),Pl (Sh.tkp h a j) j (j+h.cnt)
 | .ow _,a,j=>by
  cases a<;>first
   | exact Pl.nil _ _
   | exact⟨fun p hp=>by simp[Sh.tkp] at hp;subst hp;simp[Sh.cnt],fun p hp q hq _=>by simp[Sh.tkp] at hp hq;rw[hp,hq]⟩
 | .st _ l,a,j=>by
  cases a<;>first
   | exact Pl.nil _ _
   | (simp only[Sh.tkp,Sh.cnt];exact za l _ j)
 | .dv _,a,j=>by cases a<;>exact Pl.nil _ _
 | .same _,a,j=>by cases a<;>exact Pl.nil _ _
theorem za:∀ (l:List Sh) (l':List AV) (j:Nat),Pl (Sh.tkps l l' j) j (j+Sh.cnts l)
 | [],l',j=>by cases l'<;>exact Pl.nil _ _
 | h::l,[],j=>Pl.nil _ _
 | h::l,a::l',j=>by
  simp only[Sh.tkps,Sh.cnts]
  rw[show j+(h.cnt+Sh.cnts l)=j+h.cnt+Sh.cnts l by omega]
  exact(xT h a j).append (za l l' _) (by omega) (by omega)
end
mutual
theorem kg{ob:Nat->Option Ob}{dead:List Nat}:∀ (h:Sh) (a:AV) (x:List D),Sh.dec ob dead h a=some x->x.length=h.cnt
 | .dv t,a,x,e=>by
  have e':((AV.toD ob t a).bind fun x=>some [x])=some x:=by cases a<;>exact e
  obtain⟨y,_,h2⟩:=bind_some_inv e'
  simp only[Option.some.injEq] at h2
  subst h2;rfl
 | .ow t,a,x,e=>by
  cases a<;>simp only[Sh.dec] at e<;>first|(cases e;done)|skip
  ·split at e<;>first|(cases e;done)|skip
   simp only[Option.some.injEq] at e;subst e;rfl
  ·simp only[Option.some.injEq] at e;subst e;rfl
 | .same b,a,x,e=>by
  have e':(if AV.same b a then some ([]:List D) else none)=some x:=by cases a<;>exact e
  split at e'<;>first|(cases e';done)|skip
  simp only[Option.some.injEq] at e';subst e';rfl
 | .st ts l,a,x,e=>by
  cases a<;>simp only[Sh.dec] at e<;>first|(cases e;done)|skip
  split at e<;>first|(cases e;done)|skip
  exact u0 l _ x e
theorem u0{ob:Nat->Option Ob}{dead:List Nat}:∀ (l:List Sh) (l':List AV) (x:List D),Sh.decs ob dead l l'=some x->x.length=Sh.cnts l
 | [],l',x,e=>by
  cases l'<;>simp only[Sh.decs] at e<;>first|(cases e;done)|skip
  simp only[Option.some.injEq] at e;subst e;rfl
 | h::l,[],x,e=>by simp[Sh.decs] at e
 | h::l,a::l',x,e=>by
  simp only[Sh.decs] at e
  obtain⟨y,h1,e⟩:=bind_some_inv e
  obtain⟨z,h2,e⟩:=bind_some_inv e
  simp only[Option.some.injEq] at e
  subst e
  simp only[List.length_append,kg h a y h1,u0 l l' z h2,Sh.cnts]
end
mutual
theorem mZ{ob:Nat->Option Ob}{dead:List Nat}:∀ (h:Sh) (a:AV) (x:List D),Sh.dec ob dead h a=some x->∀ v∈Sh.toks h a,v ∉ dead
 | .dv t,a,x,e=>by intro v hv;cases a<;>simp[Sh.toks] at hv
 | .ow t,a,x,e=>by
  intro v hv
  cases a<;>simp only[Sh.toks,List.not_mem_nil,List.mem_singleton] at hv
  subst hv
  simp only[Sh.dec] at e
  split at e<;>first|(cases e;done)|skip
  rename_i h
  simp only[Bool.and_eq_true,Bool.not_eq_true'] at h
  simpa using h.2
 | .same b,a,x,e=>by intro v hv;cases a<;>simp[Sh.toks] at hv
 | .st ts l,a,x,e=>by
  intro v hv
  cases a<;>simp only[Sh.toks,List.not_mem_nil] at hv
  simp only[Sh.dec] at e
  split at e<;>first|(cases e;done)|skip
  exact pI l _ x e v hv
theorem pI{ob:Nat->Option Ob}{dead:List Nat}:∀ (l:List Sh) (l':List AV) (x:List D),Sh.decs ob dead l l'=some x->∀ v∈Sh.tokss l l',v ∉ dead
 | [],l',x,e=>by intro v hv;cases l'<;>simp[Sh.tokss] at hv
 | h::l,[],x,e=>by simp[Sh.decs] at e
 | h::l,a::l',x,e=>by
  intro v hv
  simp only[Sh.decs] at e
  obtain⟨y,h1,e⟩:=bind_some_inv e
  obtain⟨z,h2,e⟩:=bind_some_inv e
  simp only[Sh.tokss] at hv
  rcases List.mem_append.1 hv with hv|hv
  ·exact mZ h a y h1 v hv
  ·exact pI l l' z h2 v hv
end
mutual
theorem nH(b:Nat):∀ (h:Sh) (j:Nat) (s:List D),(Sh.mk b h j s).2=j+h.cnt
 | .dv t,j,s=>rfl
 | .ow t,j,s=>rfl
 | .same a,j,s=>rfl
 | .st ts l,j,s=>by simp only[Sh.mk,Sh.cnt];exact yT b l j s
theorem yT(b:Nat):∀ (l:List Sh) (j:Nat) (s:List D),(Sh.mks b l j s).2=j+Sh.cnts l
 | [],j,s=>rfl
 | h::l,j,s=>by simp only[Sh.mks,Sh.cnts,nH b h j s,yT b l,Nat.add_assoc]
end
mutual
theorem yS(b:Nat):∀ (h:Sh) (t:Ty) (j:Nat) (s:List D),Sh.fits t h=true->AV.fits t (Sh.mk b h j s).1=true
 | .dv t',t,j,s,h=>by
  have h':t.beq t'=true:=by cases t<;>exact h
  rw[Ty.eq_of_beq _ _ h']
  exact bo _ _
 | .ow e,t,j,s,h=>by
  have h':t.beq (.sl e)=true:=by cases t<;>exact h
  rw[Ty.eq_of_beq _ _ h']
  simp only[Sh.mk,AV.fits]
  exact Ty.beq_refl' _
 | .same a,t,j,s,h=>by cases t<;>simp[Sh.fits] at h
 | .st ts l,t,j,s,h=>by
  have h':(t.beq (.st ts)&&Sh.fitss ts l)=true:=by cases t<;>exact h
  simp only[Bool.and_eq_true] at h'
  rw[Ty.eq_of_beq _ _ h'.1]
  simp only[Sh.mk,AV.fits,Bool.and_eq_true]
  have:=Ty.beq_refl' (.st ts)
  simp only[Ty.beq] at this
  exact⟨this,qk b l ts j s h'.2⟩
theorem qk(b:Nat):∀ (l:List Sh) (ts:List Ty) (j:Nat) (s:List D),Sh.fitss ts l=true->AV.fitss ts (Sh.mks b l j s).1=true
 | [],ts,j,s,h=>by cases ts<;>simp only[Sh.fitss] at h<;>first|(cases h;done)|rfl
 | h::l,[],j,s,e=>by simp[Sh.fitss] at e
 | h::l,t::ts,j,s,e=>by
  simp only[Sh.fitss,Bool.and_eq_true] at e
  simp only[Sh.mks,AV.fitss,Bool.and_eq_true]
  exact⟨yS b h t j s e.1,qk b l ts _ s e.2⟩
end
def yi(s x:List D)(j:Nat):Prop:=∀ i,i<x.length->s[j+i]?=x[i]?
theorem yi.left{s x y:List D}{j:Nat}(h:yi s (x++y) j):yi s x j:=fun i hi=>by
 rw[h i (by simp;omega),List.getElem?_append_left hi]
theorem yi.right{s x y:List D}{j:Nat}(h:yi s (x++y) j):yi s y (j+x.length):=fun i hi=>by
 rw[Nat.add_assoc,h (x.length+i) (by simp;omega),List.getElem?_append_right (by omega),Nat.add_sub_cancel_left]
mutual
theorem vT{n b:Nat}{c c':Cx}(T:Two n c c'):∀ (h:Sh) (a:AV) (j:Nat) (s x:List D) (cs:List Value),Sh.dec c.ob c.dead h a=some x->yi s x j->Sh.fine n h=true ->
  (∀ p∈Sh.tkp h a j,c'.β (b+p.1)=c.β p.2)->AC c a cs->AC c' (Sh.mk b h j s).1 cs
 | .dv t,a,j,s,x,cs,e,hs,hf,hb,k=>by
  have e':((AV.toD c.ob t a).bind fun x=>some [x])=some x:=by cases a<;>exact e
  obtain⟨y,h1,h2⟩:=bind_some_inv e'
  simp only[Option.some.injEq] at h2
  subst h2
  obtain⟨k1,k2,_⟩:=nT _ _ _ _ h1 k
  have hj:s[j]?=some y:=by have:=hs 0 (by simp);simpa using this
  simp only[Sh.mk,AC,List.getD,hj,Option.getD_some,T.w,T.S]
  exact⟨k1,hf,k2⟩
 | .ow t,a,j,s,x,cs,e,hs,hf,hb,k=>by
  cases a<;>simp only[Sh.dec] at e<;>first|(cases e;done)|skip
  ·rename_i t' v l
   split at e<;>first|(cases e;done)|skip
   rename_i hd
   simp only[Bool.and_eq_true,Bool.not_eq_true'] at hd
   simp only[Option.some.injEq] at e;subst e
   have hj:s[j]?=some (.sl l):=by have:=hs 0 (by simp);simpa using this
   have he:=Ty.eq_of_beq _ _ hd.1
   subst he
   simp only[AC] at k
   obtain⟨k0,k1,ad,cap,rfl,k2,k3⟩:=k
   simp only[Sh.mk,AC,List.getD,hj,Option.getD_some,D.els,T.w,T.S]
   refine⟨k0,k1,ad,cap,rfl,k2,fun _=>?_⟩
   rcases k3 (by simpa using hd.2) with h3|⟨bb,off,h3,h4,m,h5,h6⟩
   ·exact .inl h3
   ·refine .inr ⟨bb,off,h3,?_,m,by rw[T.w];exact h5,h6⟩
    have:=hb (j,v) (by simp[Sh.tkp])
    rw[<-h4];exact this
  ·simp only[Option.some.injEq] at e;subst e
   have hj:s[j]?=some (.sl []):=by have:=hs 0 (by simp);simpa using this
   simp only[AC] at k
   subst k
   simp only[Sh.mk,AC,List.getD,hj,Option.getD_some,D.els]
   refine⟨hf,fun x hx=>(by cases hx),none,0,rfl,?_,fun _=>.inl ⟨rfl,rfl⟩⟩
   exact CR.of_elems (b:=0) (off:=0) (.inl rfl) (Nat.zero_le _) ⟨[],cw.nil,fun i c hc=>by simp at hc⟩
 | .same a',a,j,s,x,cs,e,hs,hf,hb,k=>by
  have e':(if AV.same a' a then some ([]:List D) else none)=some x:=by cases a<;>exact e
  split at e'<;>first|(cases e';done)|skip
  rename_i hsm
  have:=uh _ _ hsm
  subst this
  simp only[Sh.fine] at hf
  exact BQ T _ _ hf k
 | .st ts l,a,j,s,x,cs,e,hs,hf,hb,k=>by
  cases a<;>simp only[Sh.dec] at e<;>first|(cases e;done)|skip
  rename_i ts' l'
  split at e<;>first|(cases e;done)|skip
  simp only[Sh.fine,Bool.and_eq_true] at hf
  simp only[AC] at k
  simp only[Sh.mk,AC]
  exact⟨hf.1.1,qk b l ts j s hf.1.2,BK T l l' j s x cs e hs hf.2 hb k.2.2⟩
theorem BK{n b:Nat}{c c':Cx}(T:Two n c c'):∀ (l:List Sh) (l':List AV) (j:Nat) (s x:List D) (cs:List Value),Sh.decs c.ob c.dead l l'=some x->yi s x j->Sh.fines n l=true ->
  (∀ p∈Sh.tkps l l' j,c'.β (b+p.1)=c.β p.2)->iP c l' cs->iP c' (Sh.mks b l j s).1 cs
 | [],l',j,s,x,cs,e,_,_,_,k=>by
  cases l'<;>simp only[Sh.decs] at e<;>first|(cases e;done)|skip
  simpa only[Sh.mks,iP] using k
 | h::l,[],j,s,x,cs,e,_,_,_,k=>by simp[Sh.decs] at e
 | h::l,a::l',j,s,x,cs,e,hs,hf,hb,k=>by
  simp only[Sh.decs] at e
  obtain⟨y,h1,e⟩:=bind_some_inv e
  obtain⟨z,h2,e⟩:=bind_some_inv e
  simp only[Option.some.injEq] at e
  subst e
  simp only[Sh.fines,Bool.and_eq_true] at hf
  simp only[iP] at k
  obtain⟨c1,c2,rfl,k1,k2⟩:=k
  simp only[Sh.mks,iP,nH]
  simp only[Sh.tkps,List.mem_append] at hb
  have hr:=hs.right
  rw[kg h a y h1] at hr
  exact⟨c1,c2,rfl,vT T h a j s y c1 h1 hs.left hf.1 (fun p hp=>hb p (.inl hp)) k1,BK T l l' _ s z c2 h2 hr hf.2 (fun p hp=>hb p (.inr hp)) k2⟩
end
theorem IZ{n b:Nat}{c c':Cx}(T:Two n c c')(h:Sh)(a:AV)(j:Nat)(s x:List D)(v:Value)(e:Sh.dec c.ob c.dead h a=some x)(hs:yi s x j)(hf:Sh.fine n h=true)
  (hb:∀ p∈Sh.tkp h a j,c'.β (b+p.1)=c.β p.2) (k:AR c a v):AR c' (Sh.mk b h j s).1 v:=by
 cases h with
 | dv t=>
  have e':((AV.toD c.ob t a).bind fun x=>some [x])=some x:=by cases a<;>exact e
  obtain⟨y,h1,h2⟩:=bind_some_inv e'
  simp only[Option.some.injEq] at h2
  subst h2
  have hj:s[j]?=some y:=by have:=hs 0 (by simp);simpa using this
  obtain⟨k1,k2⟩:=kQ hf k h1
  simp only[Sh.mk,List.getD,hj,Option.getD_some]
  exact df hf k1 (by rw[T.w,T.S];exact k2)
 | ow t=>
  have key:=fun cs=>vT T (.ow t) a j s x cs e hs hf hb
  cases a<;>simp only[Sh.dec] at e<;>first|(cases e;done)|skip
  all_goals
   simp only[AR] at k
   exact⟨k.1,key _ k.2⟩
 | same a'=>
  have key:=fun cs=>vT T (.same a') a j s x cs e hs hf hb
  have e':(if AV.same a' a then some ([]:List D) else none)=some x:=by cases a<;>exact e
  split at e'<;>first|(cases e';done)|skip
  rename_i hsm
  have:=uh _ _ hsm
  subst this
  simp only[Sh.mk] at key ⊢
  cases a'<;>simp only[Sh.fine,AV.old] at hf<;>first|(cases hf;done)|skip
  all_goals
   simp only[AR] at k ⊢
   exact⟨k.1,key _ k.2⟩
 | st ts l=>
  have key:=fun cs=>vT T (.st ts l) a j s x cs e hs hf hb
  cases a<;>simp only[Sh.dec] at e<;>first|(cases e;done)|skip
  simp only[Sh.mk] at key ⊢
  simp only[AR] at k ⊢
  exact⟨k.1,key _ k.2⟩
end Sy
end
end Go.Proofs.YtpahompifldeeaaGreat
