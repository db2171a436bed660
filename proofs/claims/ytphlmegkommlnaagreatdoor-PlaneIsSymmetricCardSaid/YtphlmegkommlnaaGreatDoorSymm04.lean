/- Part 4 of the proof that PlaneIsSymmetric answers true at every input -/
import Derived.Test.YtphlmegkommlnaaGreatDoorSymm03
import Derived.RangeFuncSeq
import Derived.RangeFuncRecord
import Derived.RangeFuncNested
set_option linter.unusedVariables false
set_option linter.unusedSimpArgs false
set_option linter.unnecessarySimpa false
set_option linter.defProp false
set_option maxRecDepth 20000
namespace Go.Proofs.YtphlmegkommlnaaGreatDoor
noncomputable section
namespace Sy
open Go
section
variable{E:Env}{s s':St}
def Wk.base_eq(h:Wk s s'):s'.base=s.base:=by simp only[St.base,h.fresh]
theorem Wk.qv(h:Wk s s'){o:Oper}{v':AV}(hq:Sy.qv E s' o some=some v'):∃ v,Sy.qv E s o some=some v/\(v'=v\/v'=.undef):=by
 obtain⟨dst,op,ty,pos,after,guard⟩:=o;have hob:=h.ob;have hba:=h.base_eq;have same:∀ {x y:Option AV},x=some v'->y=x->∃ v,y=some v/\(v'=v\/v'=.undef):=λhx hy=>⟨v',hy.trans hx,.inl rfl⟩;cases op<;>simp only[Sy.qv] at hq ⊢<;>(try (cases hq;done))
 case move x=>
  simp only[zca] at hq;exact⟨_,rfl,by rcases h.opA x with e|e<;>simp[<-hq,e]⟩
 case assign x=>
  simp only[zca] at hq;exact⟨_,rfl,by rcases h.opA x with e|e<;>simp[<-hq,e]⟩
 case pick c x y=>
  obtain⟨b,h1,h2⟩:=bind_some_inv hq;rw[<-h.truth h1,h1,zba];cases b
  ·simp only[zwa,if_false,zca] at h2 ⊢;exact⟨_,rfl,by rcases h.opA y with e|e<;>simp[<-h2,e]⟩
  ·simp only[if_true,zca] at h2 ⊢;exact⟨_,rfl,by rcases h.opA x with e|e<;>simp[<-h2,e]⟩
 case alloc T=>rw[hba] at hq;exact same hq rfl
 case load T x=>
  rcases h.opA x with e|e
  ·rw[e,hob] at hq;exact same hq rfl
  ·rw[e] at hq;cases hfn:E.fnT T<;>rw[hfn] at hq
   ·simp only[cond_false] at hq;obtain⟨t,h1,h2⟩:=bind_some_inv hq;cases h2
   ·cases hq
 case fieldAddr T x f=>
  obtain⟨t,h1,h2⟩:=bind_some_inv hq;rcases h.opA x with e|e
  ·simp_all
  ·simp_all
 case indexAddr T x i=>
  obtain⟨t,h1,h2⟩:=bind_some_inv hq;obtain⟨p,h3,h4⟩:=bind_some_inv h2;have ei:=h.isD h3;rcases h.opA x with e|e
  ·simp_all
  ·rw[e] at h4;all_goals grind [AV.asList,gU]
 case lookup T x i c=>
  obtain⟨t,h1,h2⟩:=bind_some_inv hq;rcases h.opA x with e|e
  ·rw[e,hob] at h2 hq;have ei:s'.opA i=s.opA i:=by
    split at h2<;>first|(cases h2;done)|skip
    split at h2<;>first|(cases h2;done)|skip
    split at h2<;>first|(cases h2;done)|skip
    split at h2<;>first|(cases h2;done)|skip
    obtain⟨p,h3,_⟩:=bind_some_inv h2;exact h.isD h3
   simp_all
  ·simp_all
 case field T x f=>
  obtain⟨t,h1,h2⟩:=bind_some_inv hq;rcases h.opA x with e|e
  ·simp_all
  ·simp_all
 case index T x i=>
  obtain⟨t,h1,h2⟩:=bind_some_inv hq;obtain⟨p,h3,h4⟩:=bind_some_inv h2;have ei:=h.isD h3;rcases h.opA x with e|e
  ·simp_all
  ·simp_all
 case binOp op T x y T'=>
  obtain⟨t,h1,h2⟩:=bind_some_inv hq;obtain⟨p,h3,h4⟩:=bind_some_inv h2;obtain⟨q,h5,h6⟩:=bind_some_inv h4;grind [h.isD]
 case unOp op T x=>
  obtain⟨p,h3,h4⟩:=bind_some_inv hq;grind [h.isD]
 case convert U T x=>
  obtain⟨u,h1,h2⟩:=bind_some_inv hq;obtain⟨t,h1',h2⟩:=bind_some_inv h2;obtain⟨p,h3,h4⟩:=bind_some_inv h2;grind [h.isD]
 case nilCheck x=>
  rcases h.opA x with e|e
  ·simp_all
  ·simp_all
 case extract x i=>
  rcases h.opA x with e|e
  ·simp_all
  ·simp_all
 case build T ps=>
  obtain⟨t,h1,h2⟩:=bind_some_inv hq;rw[h1,zba];cases t<;>simp only at h2 ⊢<;>(try (cases h2;done))
  case st ts=>
   split at h2
   ·rename_i hs;rw[if_pos hs];split at h2<;>first|(cases h2;done)|skip
    rename_i hall;have key:∀ (l:List (Nat×Operand)),l.all (fk s' ts)=true->l.all (fk s ts)=true/\(l.map λp=>(p.1,s'.opA p.2))=l.map λp=>(p.1,s.opA p.2):=by
     intro l
     induction l with
     | nil=>intro _;exact⟨rfl,rfl⟩
     | cons p l ih=>
      intro hh;simp only[zFb,zaa] at hh;obtain⟨k1,k2⟩:=ih hh.2;have h3:=hh.1;have e:s'.opA p.2=s.opA p.2:=by
       rcases h.opA p.2 with e|e
       ·exact e
       ·unfold fk at h3;rw[e] at h3;all_goals grind [AV.fits]
      have h3':fk s ts p=true:=by simp_all [fk]
      grind
    grind
   ·rename_i hs;rw[if_neg hs];obtain⟨l,h3,h4⟩:=bind_some_inv h2
    simp_all [h.partsD,zba]
  case arr n e=>
   obtain⟨l,h3,h4⟩:=bind_some_inv h2
   simp_all [h.partsD,zba]
 case buildSlice T n ps=>
  obtain⟨t,h1,h2⟩:=bind_some_inv hq;rw[h1,zba];cases t<;>simp only at h2 ⊢<;>(try (cases h2;done))
  split at h2<;>first|(cases h2;done)|skip
  rename_i hn;rw[if_pos hn];obtain⟨d,h3,h4⟩:=bind_some_inv h2;obtain⟨l,h5,h6⟩:=bind_some_inv h4
  simp_all [zba,h.partsD]
 case slice T x lo hi mx=>
  cases mx with
  | some m=>cases hq
  | none=>
   obtain⟨t,h1,h2⟩:=bind_some_inv hq;cases t<;>simp only at h2<;>(try (cases h2;done))
   case arr m e=>
    rcases h.opA x with ex|ex
    ·rw[ex] at h2 hq;rw[hob] at hq;have key:(∀ i,lo=some i->s'.opA i=s.opA i)/\(∀ i,hi=some i->s'.opA i=s.opA i):=by
      clear hq;split at h2<;>first|(cases h2;done)|skip
      split at h2<;>first|(cases h2;done)|skip
      obtain⟨lo',h5,h6⟩:=bind_some_inv h2;obtain⟨hi',h7,h8⟩:=bind_some_inv h6;refine⟨λi hi=>?_,λi hi=>?_⟩
      ·subst hi;obtain⟨p,h9,_⟩:=bind_some_inv h5;exact h.isD h9
      ·subst hi;obtain⟨p,h9,_⟩:=bind_some_inv h7;exact h.isD h9
     obtain⟨elo,ehi⟩:=key;clear h2;cases lo<;>cases hi<;>simp only at hq ⊢
     ·simp_all
     ·simp_all
     ·simp_all
     ·simp_all
    ·simp_all
   obtain⟨l,h3,h4⟩:=bind_some_inv h2;obtain⟨lo',h5,h6⟩:=bind_some_inv h4;obtain⟨hi',h7,h8⟩:=bind_some_inv h6;have ex:=h.asList h3;have elo:∀ i,lo=some i->s'.opA i=s.opA i:=λi hi=>by
    subst hi;obtain⟨p,h9,_⟩:=bind_some_inv h5;exact h.isD h9
   have ehi:∀ i,hi=some i->s'.opA i=s.opA i:=λi hi=>by
    subst hi;obtain⟨p,h9,_⟩:=bind_some_inv h7;exact h.isD h9
   all_goals grind
 case sliceToArrayPointer T x=>
  obtain⟨t,h1,h2⟩:=bind_some_inv hq;rcases h.opA x with e|e
  ·simp_all
  ·rw[e] at h2;cases t<;>first|(cases h2;done)|(simp[AV.asList,gU] at h2;done)
 case makeFunc fn first captured=>
  cases fn<;>simp only at hq ⊢<;>(try (cases hq;done))
  split at hq<;>first|(cases hq;done)|skip
  rename_i hh;have key:∀ (l:List Operand),(l.all λx=>eZ (s'.opA x))=true->(l.all λx=>eZ (s.opA x))=true/\l.map s'.opA=l.map s.opA:=by
   intro l
   induction l with
   | nil=>intro _;exact⟨rfl,rfl⟩
   | cons p l ih=>
    intro hh;simp only[zFb,zaa] at hh;obtain⟨k1,k2⟩:=ih hh.2;have h3:=hh.1;have e:s'.opA p=s.opA p:=by
     rcases h.opA p with e|e
     ·exact e
     ·simp_all [eZ]
    simp_all
  grind
 case call c=>
  obtain⟨callee,args,argTypes⟩:=c;cases callee<;>simp only at hq ⊢<;>(try (cases hq;done))
  case value f=>
   cases f<;>simp only at hq ⊢<;>(try (cases hq;done))
   case func f=>
    obtain⟨g,h1,h2⟩:=bind_some_inv hq;cases hfr:Nat.beq (E.free f) 0 with
    | false=>rw[hfr] at h2;cases h2
    | true=>
    rw[hfr] at h2;simp only[cond_true] at h2;obtain⟨xs,h3,h4⟩:=bind_some_inv h2;rw[h1,zba,cond_true,h.toDl _ _ h3,zba];rw[hba] at h4;exact⟨v',h4,.inl rfl⟩
   case tmp t=>
    split at hq<;>first|(cases hq;done)|skip
    rename_i f l ht;obtain⟨g,h1,h2⟩:=bind_some_inv hq;cases hfr:(Nat.beq (E.free f) l.length&&cT (rU l)) with
    | false=>rw[hfr] at h2;cases h2
    | true=>
    rw[hfr] at h2;simp only[cond_true] at h2;obtain⟨xs,h3,h4⟩:=bind_some_inv h2;have e:s.tm t=.clo f l:=by
     rcases h.opA (.tmp t) with e|e
     ·exact e.symm.trans ht
     ·have:s'.tm t=.undef:=e;rw[ht] at this;cases this
    rw[e];simp only;rw[h1,zba,hfr,cond_true,h.toDl _ _ h3,zba];rw[hob] at h4;exact⟨v',h4,.inl rfl⟩
  case builtin b=>
   cases b<;>simp only at hq ⊢<;>(try (cases hq;done))
   case len=>
    obtain⟨T,h1,h2⟩:=bind_some_inv hq;obtain⟨t,h3,h4⟩:=bind_some_inv h2;obtain⟨x,h5,h6⟩:=bind_some_inv h4;rcases h.opA x with e|e
    ·rw[h1,zba,h3,zba,h5,zba];cases t<;>simp only at h6 ⊢<;>first
      | (cases h6;done)
      | (rw[e,hob] at h6;exact same h6 rfl)
      | (rw[e] at h6;exact⟨v',h6,.inl rfl⟩)
      | exact⟨v',h6,.inl rfl⟩
    ·rw[h1,zba,h3,zba,h5,zba];cases t<;>simp only at h6 ⊢<;>first
      | (cases h6;done)
      | (rw[e] at h6;simp[AV.asList,gU] at h6;done)
      | (rw[e] at h6;simp[Sy.isD] at h6;done)
      | exact⟨v',h6,.inl rfl⟩
   case min=>
    split at hq<;>first|(cases hq;done)|skip
    obtain⟨p,h3,h4⟩:=bind_some_inv hq;obtain⟨q,h5,h6⟩:=bind_some_inv h4;rw[h.isD h3,h.isD h5] at hq;exact same hq rfl
   case max=>
    split at hq<;>first|(cases hq;done)|skip
    obtain⟨p,h3,h4⟩:=bind_some_inv hq;obtain⟨q,h5,h6⟩:=bind_some_inv h4;rw[h.isD h3,h.isD h5] at hq;exact same hq rfl
end
def val(E:Env)(ops:Array Oper)(s:St)(o:Oper):Option AV:=
 if jF s o then none else
 match o.guard with
 | none=>qv E s o some
 | some (j,want)=>((ops[j]?).bind (·.dst)).bind λg=>wK (s.tm g) (some .gone) ((s.tm g).truth.bind λc=>if c==want then qv E s o some else some .gone)
def seqV(E:Env)(ops:Array Oper):List Oper->St->Option St
 | [],s=>some s
 | o::l,s=>(val E ops s o).bind λv=>seqV E ops l (s.put o.dst v)
section
variable{E:Env}{ops:Array Oper}{s s':St}
def Wk.lkd_eq(h:Wk s s')(o:Oper):jF s' o=jF s o:=by simp only[jF,h.lkS]
theorem Wk.val(h:Wk s s'){o:Oper}{v':AV}(hq:Sy.val E ops s' o=some v'):∃ v,Sy.val E ops s o=some v/\(v'=v\/v'=.undef):=by
 unfold Sy.val at hq ⊢;rw[h.lkd_eq] at hq;split at hq<;>first|(cases hq;done)|skip
 rename_i hlk;rw[if_neg hlk];cases hg:o.guard with
 | none=>rw[hg] at hq;exact h.qv hq
 | some p=>
  obtain⟨j,want⟩:=p;rw[hg] at hq;simp only at hq ⊢;obtain⟨g,h1,h2⟩:=bind_some_inv hq;rw[h1,zba];by_cases hgo:s'.tm g=.gone
  ·have e:s'.tm g=s.tm g:=by
    rcases h.tm g with e|e
    ·exact e
    ·simp_all
   rw[hgo,eW] at h2;rw[<-e,hgo,eW];exact⟨v',h2,.inl rfl⟩
  rw[eY hgo] at h2;obtain⟨c,h3,h4⟩:=bind_some_inv h2;have e:s'.tm g=s.tm g:=h.truth (x:=.tmp g) h3;rw[<-e,eY hgo,h3,zba];split at h4
  ·rename_i hc;rw[if_pos hc];exact h.qv h4
  ·simp_all
theorem Wk.seqV:∀ (l:List Oper) {s s' t':St},Wk s s'->Sy.seqV E ops l s'=some t'->∃ t,Sy.seqV E ops l s=some t/\Wk t t'
 | [],s,s',t',h,hq=>by simp_all [Sy.seqV,zca]
 | o::l,s,s',t',h,hq=>by
  simp only[Sy.seqV] at hq ⊢;obtain⟨v',h1,h2⟩:=bind_some_inv hq;obtain⟨v,h3,h4⟩:=h.val h1;rw[h3,zba];exact Wk.seqV l (h.put o.dst h4) h2
theorem lC:∀ (l l':List Oper) (s:St),Sy.seqV E ops (l++l') s=(Sy.seqV E ops l s).bind (Sy.seqV E ops l')
 | [],l',s=>rfl
 | o::l,l',s=>by
  simp only[zib,Sy.seqV];cases val E ops s o with
  | none=>rfl
  | some v=>exact lC l l' _
theorem Wk.killD_mono:∀ (l:List Oper) {s s':St},Wk s s'->Wk (Sy.killD s l) (Sy.killD s' l)
 | [],_,_,h=>h
 | o::l,_,_,h=>Wk.killD_mono l (h.put o.dst (.inl rfl))
theorem jO:∀ (l:List Oper) {s t:St},Sy.seqV E ops l s=some t->Wk t (killD s l)
 | [],s,t,h=>by simp only[Sy.seqV,zca] at h;subst h;exact Wk.refl s
 | o::l,s,t,h=>by
  simp only[Sy.seqV] at h;obtain⟨v,h1,h2⟩:=bind_some_inv h;have k1:=jO l h2;refine k1.trans ?_;show Wk (killD (s.put o.dst v) l) (killD (s.put o.dst .undef) l);exact Wk.killD_mono l ((Wk.refl s).put o.dst (.inr rfl))
end
end Sy
end
noncomputable section
namespace Sy
open Go
def fP(o:Oper):Bool:=eI o||(match o.op with|.alloc _=>true|_=>false)
def nW{R:Type}(E:Env)(s:St){o:Oper}(h:fP o=true)(K:St->Option R):qf E s o K=qv E s o λv=>K (s.put o.dst v):=by
 obtain⟨dst,op,ty,pos,after,guard⟩:=o;cases op<;>first|rfl|(simp[fP,eI] at h;done)|skip
 rename_i c;obtain⟨callee,args,argTypes⟩:=c;cases callee<;>first|rfl|skip
 rename_i b;cases b<;>first|rfl|(simp[fP,eI] at h)
def ft{R:Type}{E:Env}{s:St}{o:Oper}{K:AV->Option R}{r:R}(h:qv E s o K=some r):∃ v,qv E s o some=some v/\K v=some r:=by
 rw[F8] at h;exact bind_some_inv h
theorem iE(d:Option Nat):∀ (l:List (Nat×Oper)),l=(c7 d l).1++(c7 d l).2/\∀ p q,(c7 d l).2=p::q->oc d p.2=true
 | []=>⟨rfl,λp q h=>by simp[c7] at h⟩
 | p::l=>by
  simp only[c7];split
  ·simp_all
  ·obtain⟨h1,h2⟩:=iE d l;grind
def tn{s:St}{d:Nat}{v:AV}(h:s.tm d=v):s.put (some d) v=s:=by
 simp only[St.put];split
 ·have:(λi=>if i=d then v else s.tm i)=s.tm:=by
   all_goals grind
  rw[this]
 ·rfl
def rB{s:St}{d:Nat}{v:AV}(h:d<s.nt):(s.put (some d) v).tm d=v:=by simp[St.put,h]
def iH{v:AV}{b:Bool}(h:v.truth=some b):v=.d .bool (.bool b):=by
 cases v<;>simp only[AV.truth] at h<;>first|(cases h;done)|skip
 grind [Ty.eq_of_beq,wa]
def kZ{R:Type}{s:St}{g:Nat}{c want:Bool}(hc:(s.tm g).truth=some c){A B:St->Option R}{r:R}
  (h:(if c then(if want then A (s.put (some g) (.d .bool (.bool true))) else B (s.put (some g) (.d .bool (.bool true)))) else(if want then B (s.put (some g) (.d .bool (.bool false))) else A (s.put (some g) (.d .bool (.bool false)))))=some r):(if c==want then A s else B s)=some r:=by
 have e:=tn (iH hc);all_goals grind
def ql{d:Option Nat}{o:Oper}(h:oc d o=true):∃ c x y,o.op=.pick c x y:=by
 cases hop:o.op<;>first|exact⟨_,_,_,rfl⟩|(simp[oc,hop] at h)
def kj{o:Oper}(h:eI o=true):fP o=true:=by simp[fP,h]
def Dt{o:Oper}{c x y:Operand}(h:o.op=.pick c x y):fP o=true:=by simp[fP,eI,h]
def sA{E:Env}{ops:Array Oper}:∀ (N:Nat) (R:Type) (l:List (Nat×Oper)) (s:St) (k:St->Option R) (r:R) (m:Nat) (an:Ann),m<=l.length->(∀ p∈l.take m,fP p.2=true/\jB E p.2=false) ->
  ((∀ p∈l.drop m,∀ c x y,p.2.op≠.pick c x y)\/∀ p q,l.drop m=p::q->jv E p.2=false)->dS E N R ops an l s k=some r ->
  ∃ s' s'' N',seqV E ops ((l.take m).map Prod.snd) s=some s'/\Wk s' s''/\dS E N' R ops an (l.drop m) s'' k=some r:=by
 intro N
 induction N with
 | zero=>intro R l s k r m an _ _ _ h;simp[dS] at h
 | succ N ih=>
  intro R l s k r m an hm hq ht h;cases m with
  | zero=>exact⟨s,s,N+1,rfl,Wk.refl s,by simpa using h⟩
  | succ m=>
   cases l with
   | nil=>simp at hm
   | cons p l=>
    obtain⟨i,o⟩:=p;simp only[zza,Nat.add_le_add_iff_right] at hm;obtain⟨ho,hin⟩:=hq (i,o) (by simp)
    simp only at ho hin;have hq':∀ p∈l.take m,fP p.2=true/\jB E p.2=false:=λp hp=>hq p (by simp[hp])
    have ht':(∀ p∈l.drop m,∀ c x y,p.2.op≠.pick c x y)\/∀ p q,l.drop m=p::q->jv E p.2=false:=by simpa using ht
    have hnx:ru E o an=an:=by simp[ru,hin]
    have hev1:∀ (s:St) (K:St->Option R),Ap E an l s o K=qf E s o K:=λs K=>by simp[Ap,hin]
    simp only[dS,hnx,hev1] at h;have step:∀ {v:AV},val E ops s o=some v->dS E N R ops an l (s.put o.dst v) k=some r->∃ s' s'' N',seqV E ops (((i,o)::l).take (m+1) |>.map Prod.snd) s=some s'/\Wk s' s''/\dS E N' R ops an (((i,o)::l).drop (m+1)) s'' k=some r:=by
     grind [seqV]
    cases hg:o.guard with
    | some jw=>
     obtain⟨j,want⟩:=jw;rw[hg] at h;simp only at h;split at h<;>first|(cases h;done)|skip
     rename_i g hgd;split at h<;>first|(cases h;done)|skip
     rename_i hlk;by_cases hgo:s.tm g=.gone
     ·simp_all [eW,val,zba]
     rw[eY hgo] at h;obtain⟨c,h1,h2⟩:=bind_some_inv h;replace h2:=kZ (A:=λs=>qf E s o λs'=>dS E N R ops an l s' k) (B:=λs=>dS E N R ops an l (s.put o.dst .gone) k) h1 h2;split at h2
     ·rename_i hc;rw[nW E s ho] at h2;obtain⟨v,h3,h4⟩:=ft h2
      simp_all [val,zba,eY]
     ·simp_all [val,zba,eY]
    | none=>
     rw[hg] at h;simp only at h;split at h
     ·
      rename_i hgu;simp only[lz,zaa] at hgu;obtain⟨_,hcond⟩:=hgu;obtain⟨e1,e2⟩:=iE o.dst l;generalize c7 o.dst l=sp at *;obtain⟨seg,rest⟩:=sp;simp only at h e1 e2 hcond;split at h<;>first|(cases h;done)|skip
      rename_i _ _ jj pk l'' d hd;simp only[hd] at hcond;simp only[zaa,decide_eq_true_eq,zFa,zka] at hcond;obtain⟨⟨⟨⟨⟨c1,c2⟩,c3⟩,cI⟩,c4⟩,c5⟩:=hcond;have hpk:=e2 _ _ rfl;obtain⟨pc,px,py,hop⟩:=ql hpk;have hseg:seg.length<m:=by
       rcases zna seg.length m with h0|h0
       ·exact h0
       ·exfalso;rcases ht' with ht'|ht'
        ·have:(jj,pk)∈l.drop m:=by
          grind
         grind
        ·have e3:l.drop m=seg.drop m++(jj,pk)::l'':=by rw[e1,List.drop_append_of_le_length h0]
         cases hsd:seg.drop m with
         | nil=>
          rw[hsd] at e3;have:=ht' _ _ e3;have hop':pk.op=.pick pc px py:=hop;simp[jv,jB,eI,hop'] at this
         | cons p q=>
          rw[hsd] at e3;have h1:=ht' _ _ e3;have h2:=c4 p (zIb (i:=m) (by rw[hsd];simp))
          simp[jv,h2.1.1,h2.2] at h1
      unfold Lb at h;split at h<;>first|(cases h;done)|skip
      rename_i hlk;rw[nW E s ho] at h;obtain⟨v,h3,h4⟩:=ft h;rw[hd] at h4;obtain⟨c,h5,h6⟩:=bind_some_inv h4;rw[rB c1] at h5;have hv:=iH h5;subst hv;obtain⟨x,h7,h8⟩:=bind_some_inv h6;have hsame:∀ b,b=c->(s.put (some d) (.d .bool (.bool c))).put (some d) (.d .bool (.bool b))=s.put (some d) (.d .bool (.bool c)):=λb hb=>tn (by rw[rB c1,hb])
      have hsegv:∃ k2:St->Option Bool,(∀ s2,k2 s2=qv E s2 pk AV.truth)/\dS E N Bool ops .leaf seg (s.put (some d) (.d .bool (.bool c))) k2=some x:=by
       cases c
       ·simp only[zwa,if_false] at h7;rw[hsame false rfl] at h7;exact⟨_,λ_=>rfl,h7⟩
       ·simp only[if_true] at h7;rw[hsame true rfl] at h7;exact⟨_,λ_=>rfl,h7⟩
      obtain⟨k2,hk2,h7⟩:=hsegv;obtain⟨s2,s2',N2,h9,h10,h11⟩:=ih Bool seg _ k2 x seg.length .leaf (zha _) (λp hp=>by
       rw[z3a] at hp;exact⟨kj (c4 p hp).1.1,(c4 p hp).2⟩) (.inl λp hp=>by simp at hp) h7
      rw[z1c] at h11;rw[z3a] at h9;have h12:k2 s2'=some x:=by cases N2<;>simpa [dS] using h11
      rw[hk2] at h12;obtain⟨v2,h13,h14⟩:=ft h12;have hv2:=iH h14;obtain⟨v3,h15,h16⟩:=h10.qv h13;have hv3:v3=.d .bool (.bool x):=by
       rcases h16 with e|e
       ·rw[<-e];exact hv2
       ·rw[hv2] at e;cases e
      subst hv3;have hwk:Wk (s2.put pk.dst (.d .bool (.bool x))) ((killD (s.put (some d) (.d .bool (.bool c))) (seg.map Prod.snd)).put pk.dst (.d .bool (.bool x))):=(jO _ h9).put pk.dst (.inl rfl);have hlen:l.length=seg.length+1+l''.length:=by rw[e1];simp;omega
      obtain⟨s4,s4',N4,h17,h18,h19⟩:=ih R l'' _ k r (m-seg.length-1) an (by omega) (λp hp=>hq' p (by
       rw[e1,List.take_append,List.mem_append];right;rw[show m-seg.length=(m-seg.length-1)+1 by omega,zVb]
       exact zia _ hp)) (by
       have e4:l.drop m=l''.drop (m-seg.length-1):=by
        conv=>lhs;rw[e1,List.drop_append,zgc (by omega),z2b,show m-seg.length=(m-seg.length-1)+1 by omega,zPc]
       rwa [e4] at ht') h8
      obtain⟨s5,h20,h21⟩:=Wk.seqV _ hwk h17;refine⟨s5,s4',N4,?_,h21.trans h18,?_⟩
      ·have etake:l.take m=seg++(jj,pk)::l''.take (m-seg.length-1):=by
        conv=>lhs;rw[e1,List.take_append,zgb (by omega),show m-seg.length=(m-seg.length-1)+1 by omega,zVb]
       have hval:val E ops s o=some (.d .bool (.bool c)):=by unfold val;rw[if_neg hlk,hg];exact h3
       have hlk2:¬ jF s2 pk=true:=by
        have:s2.lkS=s.lkS:=by
         have w1:=(jO _ h9).lkS;have w2:∀ (l:List Oper) (s:St),(killD s l).lkS=s.lkS:=by
          intro l
          induction l with
          | nil=>intro s;rfl
          | cons o l ih=>intro s;rw[killD,ih];exact(St.put_fields s o.dst .undef).2.2.2.2.1
         rw[<-w1,w2];exact(St.put_fields s (some d) _).2.2.2.2.1
        simp only[jF,this];have:=c5;simp only[jF] at this;rw[this];simp
       have hval2:val E ops s2 pk=some (.d .bool (.bool x)):=by
        unfold val;rw[if_neg hlk2];have:pk.guard=none:=by simpa using c2
        rw[this];exact h15
       simp only[zVb,z4a,seqV,hval,zba,etake,z3b,lC,hd,h9,hval2];exact h20
      ·have edrop:l.drop m=l''.drop (m-seg.length-1):=by
        conv=>lhs;rw[e1,List.drop_append,zgc (by omega),z2b,show m-seg.length=(m-seg.length-1)+1 by omega,zPc]
       simp only[zPc,edrop];exact h19
     ·split at h<;>first|(cases h;done)|skip
      rename_i hlk;rw[nW E s ho] at h;obtain⟨v,h3,h4⟩:=ft h;exact step (by unfold val;rw[if_neg hlk,hg];exact h3) h4
end Sy
end
noncomputable section
namespace Sy
open Go
open Go.ChangeMaps (setBlock)
variable{ro:Option Nat}{nn:Nat}
def lG{c c':Cx}(hw:∀ b o,c.S b o->c'.w.cell? ⟨b,o,none⟩=c.w.cell? ⟨b,o,none⟩)(hS:∀ b o,c.S b o->c'.S b o){x:AV}{v:Value}(h:AR c x v):AR c' x.still v:=by
 cases x<;>simp only[AV.still]<;>try (simp only[AR];done)
 case d t x=>
  simp only[AR] at h ⊢;rcases h with⟨k1,k2,k3⟩|⟨ts,k1,k0,k2,k3⟩
  ·exact .inl ⟨k1,k2,k3.mono hw hS⟩
  ·exact .inr ⟨ts,k1,k0,k2,k3.mono hw hS⟩
 case own t u l=>
  simp only[AR,AC] at h;obtain⟨h0,hn,h1,a,cap,h2,h3,_⟩:=h;refine dc (by simpa only[aj] using hn) (by simp only[wt];exact⟨l,rfl,h1⟩) ?_
  have hv:v=.slice a l.length cap:=am h0 h2;subst hv;exact fD.of_CR (h3.mono hw hS)
 case fptr t x=>
  simp only[AR,AC] at h ⊢;obtain⟨h0,h1,h2,b,off,h3,h4⟩:=h;exact⟨h0,h1,h2,b,off,h3,h4.mono hw hS⟩
section
variable{P:Program}{E:Env}{w0:Root}{S S':Nat->Nat->Prop}{γ γ':Nat->Option Nat}{β β' β'':Nat->Option (Nat×Nat)}{s sc:St}{a:Act}{w w':World}
def yL{o':Ob}{x:Option Ob}(h:kf x (some o')=true):∃ o,x=some o/\∀ p,dP o' p=dP o p/\bX o' p=bX o p:=by
 cases x with
 | none=>simp[kf] at h
 | some o=>
  refine⟨o,rfl,λp=>?_⟩;cases o<;>cases o'<;>simp only[kf] at h<;>first|(cases h;done)|skip
  ·have:=Ty.eq_of_beq _ _ h;subst this;exact⟨rfl,rfl⟩
  ·have:=Ty.eq_of_beq _ _ h;subst this;cases p<;>exact⟨rfl,rfl⟩
  ·exact⟨rfl,rfl⟩
  ·cases p<;>exact⟨rfl,rfl⟩
def xu{v:Nat}(h:v∈c6 s):v ∉ s.dead/\∃ t ty l,t<s.nt/\s.tm t=.own ty v l:=by
 unfold c6 at h;obtain⟨t,h1,h2⟩:=zxc.1 h;split at h2<;>first|(cases h2;done)|skip
 rename_i ty u l ht;split at h2<;>first|(cases h2;done)|skip
 rename_i hd;cases h2;exact⟨by simpa using hd,t,ty,l,zNa.1 h1,ht⟩
def wT{v t:Nat}{ty:Ty}{l:List D}(h1:t<s.nt)(h2:s.tm t=.own ty v l)(h3:v ∉ s.dead):v∈c6 s:=by
 grind [c6]
def zk{t:Ty}{id:Nat}{p:List Nat}{cs:List Value}{dead dead':List Nat}(hg:∀ id b,γ id=some b->γ' id=some b)(hl:kf (s.ob id) (sc.ob id)=true)(h:AC ⟨w,S,γ,β,s.ob,dead⟩ (.ptr t id p) cs):AC ⟨w',S',γ',β'',sc.ob,dead'⟩ (.ptr t id p) cs:=by
 simp only[AC] at h ⊢;obtain⟨b,off,e,k1,k2⟩:=h;refine⟨b,off,e,hg _ _ k1,λo ho=>?_⟩;rw[ho] at hl;obtain⟨o0,q1,q2⟩:=yL (o':=o) hl
 simp_all
theorem vK{dead dead':List Nat}(hg:∀ id b,γ id=some b->γ' id=some b):∀ (l:List AV) (cs:List Value),l.all (FZ s.ob sc.ob)=true->mA ⟨w,S,γ,β,s.ob,dead⟩ l cs->mA ⟨w',S',γ',β'',sc.ob,dead'⟩ l cs
 | [],cs,_,h=>by simpa only[mA] using h
 | x::l,cs,hp,h=>by
  simp only[zFb,zaa] at hp;simp only[mA] at h ⊢;obtain⟨v,c2,rfl,k1,k2⟩:=h;refine⟨v,c2,rfl,?_,vK hg l c2 hp.2 k2⟩;cases x<;>simp only[FZ] at hp<;>first|(cases hp.1;done)|skip
  exact zk hg hp.1 k1
def Jv{n:Nat}{tk:List Nat}(hcell:∀ b o,S b o->w'.cell? ⟨b,o,none⟩=w.cell? ⟨b,o,none⟩)(hsub:∀ b o,S b o->S' b o)(hg:∀ id b,γ id=some b->γ' id=some b)
  {x:AV} {v:Value} (htok:∀ t u l,x=.own t u l->u ∉ s.dead->u∈tk/\β'' (n+tk.idxOf u)=β u/\∀ b e,β u=some (b,e)->∀ m,lu w b=some m->lu w' b=some m)
  (h:AR ⟨w,S,γ,β,s.ob,s.dead⟩ x v):AR ⟨w',S',γ',β'',sc.ob,sc.dead⟩ (pM s sc n tk x) v:=by
 cases x with
 | d t y=>exact lG (c:=⟨w,S,γ,β,s.ob,s.dead⟩) (x:=.d t y) hcell hsub h
 | fptr t y=>exact lG (c:=⟨w,S,γ,β,s.ob,s.dead⟩) (x:=.fptr t y) hcell hsub h
 | own t u l=>
  simp only[pM];split
  ·exact lG (c:=⟨w,S,γ,β,s.ob,s.dead⟩) (x:=.own t u l) hcell hsub h
  ·rename_i hd;have hd':u ∉ s.dead:=by simpa using hd
   obtain⟨k0,k1,k2⟩:=htok t u l rfl hd';simp only[AR,AC] at h ⊢;obtain⟨h0,h1,h2,A,cap,h3,h4,h5⟩:=h;refine⟨h0,h1,h2,A,cap,h3,h4.mono hcell hsub,λ_=>?_⟩;rcases h5 hd' with h6|⟨b,off,h6,h7,m,h8,h9⟩
   ·exact .inl h6
   ·exact .inr ⟨b,off,h6,k1.trans h7,m,k2 b _ h7 m h8,h9⟩
 | nils=>simpa only[pM,AR,AC] using h
 | ptr t id p=>
  simp only[pM];split
  ·rename_i hl;simp only[AR] at h ⊢;exact⟨h.1,zk hg hl h.2⟩
  ·simp only[AR]
 | mem t id=>simp only[pM,AR]
 | st ts l=>simp only[pM,AR]
 | clo f l=>
  simp only[pM];split
  ·rename_i hl;simp only[AR,AC] at h ⊢;obtain⟨h0,caps,h1,h2⟩:=h;exact⟨h0,caps,h1,vK hg l caps hl h2⟩
  ·simp only[AR]
 | map kt vt id=>
  simp only[pM];split
  ·rename_i hl;simp only[AR,AC] at h ⊢;obtain⟨h0,b,e,k1,k2,k3,k4⟩:=h;refine⟨h0,b,e,hg _ _ k1,k2,k3,λo ho=>?_⟩;cases hs:s.ob id with
   | none=>rw[hs,ho] at hl;simp[kf] at hl
   | some o0=>
    obtain⟨l,rfl⟩:=k4 o0 hs;rw[hs,ho] at hl;cases o<;>simp only[kf] at hl<;>first|(cases hl;done)|skip
    simp only[zaa] at hl;have e1:=Ty.eq_of_beq _ _ hl.1;have e2:=Ty.eq_of_beq _ _ hl.2
    simp_all
  ·simp only[AR]
 | yld id=>
  grind [pM,AR,AC]
 | sub sl t id p lo n=>simp only[pM,AR]
 | gone=>simp only[pM,AR]
 | undef=>simp only[pM,AR]
def BR(h:Rp w0 S γ β s a w){tk:List Nat}{sh:Nat->Prop}(htkd:tk=c6 s)(hsh:sh=λb=>(∃ id,γ id=some b)\/∃ v e,v ∉ tk++s.dead/\β v=some (b,e)){sI:St}{aI:Act}
  (hob:∀ j o,sI.ob j=some o->s.ob j=some o) (hfr:sI.fresh=s.fresh+1) (hdd:sI.dead=tk++s.dead) (hnt:aI.tmps.size=sI.nt) (htmu:∀ t,sI.nt<=t->sI.tm t=.undef)
  (htms:∀ t,t<aI.tmps.size->AR ⟨w,S,γ,β,sI.ob,tk++s.dead⟩ (sI.tm t) (aI.tmps.getD t undef)):Rp ⟨w,S,sh⟩ S γ β sI aI w:=by
 have ndd:∀ {u},u ∉ tk++s.dead->u ∉ s.dead:=λhu hh=>hu (zQa _ hh);have hb:sI.base=(s.fresh+1)*4096:=by simp only[St.base,hfr]
 have hb0:s.base+4096=(s.fresh+1)*4096:=by simp only[St.base];omega
 have le0:Cx.le ⟨w,S,γ,β,s.ob,s.dead⟩ ⟨w,S,γ,β,sI.ob,tk++s.dead⟩:=
  ⟨λ_ _ _=>rfl,λ_ _ hb=>hb,λ_ _ hb=>hb,λid o ho _=>⟨o,hob _ _ ho,λp=>⟨rfl,rfl⟩,λt l e=>⟨l,e,rfl⟩,λ_ _ l e=>⟨l,e⟩⟩,λu hu=>⟨ndd hu,λb e he=>⟨he,λn hn=>hn⟩⟩⟩
 refine⟨⟨rfl,rfl,rfl,zha _,zha _,λ_ _=>rfl⟩,λt ht=>by rw[hdd];exact htms t ht,hnt,htmu,λid o b ho hb=>?_,λid b hb=>⟨λho=>ho.2 (by show sh b;rw[hsh];exact .inl ⟨id,hb⟩),(h.γn id b hb).2⟩,h.γi,λid hid=>h.γf id ?_,λu b e hu he=>?_,λu u' b e e' hu hu'=>h.βi u u' b e e' (ndd (hdd ▸ hu)) (ndd (hdd ▸ hu')),λu id b e hu=>h.βγ u id b e (ndd (hdd ▸ hu)),λu hu=>h.βf u ?_,h.Sb,λb o hb _=>hb⟩
 ·rw[hdd];exact(h.obs id o b (hob _ _ ho) hb).mono le0 rfl λ_ hh=>hh
 ·omega
 ·have hu':u ∉ tk++s.dead:=hdd ▸ hu;obtain⟨k1,k2,k3⟩:=h.βn u b e (ndd hu') he;exact⟨λho=>ho.2 (by show sh b;rw[hsh];exact .inr ⟨u,e,hu',he⟩),k2,k3⟩
 ·omega
def Bp(h:Rp w0 S γ β s a w){tk:List Nat}{sh:Nat->Prop}(htkd:tk=c6 s)(hsh:sh=λb=>(∃ id,γ id=some b)\/∃ v e,v ∉ tk++s.dead/\β v=some (b,e))(htk:tk.length<=4096){a':Act}
  (n1:Rp ⟨w,S,sh⟩ S' γ' β' sc a' w') (nsub:∀ b o,S b o->S' b o) (ncell:∀ b o,S b o->w'.cell? ⟨b,o,none⟩=w.cell? ⟨b,o,none⟩) (ngam:∀ id b,γ id=some b->γ' id=some b) (nsz:w.heap.size<=w'.heap.size) :
  ∃ β'',Rp w0 S' γ' β'' (nM s sc) a w'/\Cx.le ⟨w',S',γ',β',sc.ob,sc.dead⟩ ⟨w',S',γ',β'',sc.ob,sc.dead⟩:=by
 have tkm:∀ u,u∈tk->u ∉ s.dead:=λu hu=>by rw[htkd] at hu;exact(xu hu).1
 have ndd:∀ {u},u ∉ tk++s.dead->u ∉ s.dead:=λhu hh=>hu (zQa _ hh);have hshn:∀ b,sh b->¬ w0.Old b:=λb hb=>by
  rw[hsh] at hb;rcases hb with⟨id,hb⟩|⟨u,e,hu,hb⟩
  ·exact(h.γn id b hb).1
  ·exact(h.βn u b e (ndd hu) hb).1
 have old1:∀ b,w0.Old b->(Root.mk w S sh).Old b:=λb hb=>⟨zOa hb.1 h.ext.sz,λhh=>hshn b hh hb⟩;have tkOld:∀ u∈tk,∀ b e,β u=some (b,e)->(Root.mk w S sh).Old b:=λu hu b e hb=>by
  refine⟨(h.βn u b e (tkm u hu) hb).2.1,λhh=>?_⟩;have hh:sh b:=hh;rw[hsh] at hh;rcases hh with⟨id,hh⟩|⟨u',e',hu',hh⟩
  ·exact h.βγ u id b e (tkm u hu) hb hh
  ·have:=h.βi u u' b e e' (tkm u hu) (ndd hu') hb hh
   simp_all
 obtain⟨n,hn⟩:∃ n,n=(sc.fresh+1)*4096:=⟨_,rfl⟩;have hscb:sc.base+4096=n:=by rw[hn];simp only[St.base];omega
 obtain⟨β'',hβ⟩:∃ β'':Nat->Option (Nat×Nat),β''=λu=>if n<=u then(tk[u-n]?).bind (λx=>if tk.idxOf x=u-n then β x else none) else β' u:=⟨_,rfl⟩
 have bge:∀ u b e,n<=u->β'' u=some (b,e)->∃ x∈tk,u=n+tk.idxOf x/\β x=some (b,e):=λu b e hu he=>by
  grind
 have blt:∀ u,u<n->β'' u=β' u:=λu hu=>by grind
 have bix:∀ x∈tk,β'' (n+tk.idxOf x)=β x:=λx hx=>by
  have hlt:tk.idxOf x<tk.length:=List.idxOf_lt_length_of_mem hx
  simp_all
 have hle:Cx.le ⟨w',S',γ',β',sc.ob,sc.dead⟩ ⟨w',S',γ',β'',sc.ob,sc.dead⟩:=
  ⟨λ_ _ _=>rfl,λ_ _ hb=>hb,λ_ _ hb=>hb,λid o ho _=>⟨o,ho,λp=>⟨rfl,rfl⟩,λt l e=>⟨l,e,rfl⟩,λ_ _ l e=>⟨l,e⟩⟩,λu hu=>⟨hu,λb e he=>⟨(by
   have he':β' u=some (b,e):=he;show β'' u=some (b,e);rcases zna u n with hlt|hge
   ·simp_all
   ·rw[n1.βf u (by omega)] at he';cases he'),λm hm=>hm⟩⟩⟩
 have nOld:∀ b,¬ (Root.mk w S sh).Old b->¬ w0.Old b:=λb hb hh=>hb (old1 b hh);refine⟨β'',⟨⟨n1.ext.tape.trans h.ext.tape,n1.ext.os.trans h.ext.os,n1.ext.output.trans h.ext.output,zDa h.ext.sz n1.ext.sz,zDa h.ext.dr n1.ext.dr,λb hb=>(n1.ext.old b (old1 b hb)).trans (h.ext.old b hb)⟩,λt ht=>?_,h.nt,λt ht=>?_,λid o b ho hb=>(n1.obs id o b ho hb).mono hle rfl λ_ hh=>hh,λid b hb=>⟨nOld b (n1.γn id b hb).1,(n1.γn id b hb).2⟩,n1.γi,λid hid=>n1.γf id ?_,λu b e hu he=>?_,λu u' b e e' hu hu' he he'=>?_,λu id b e hu he=>?_,λu hu=>?_,n1.Sb,λb o hb hlt=>h.So b o (n1.So b o hb (old1 b hlt)) hlt⟩,hle⟩
 ·have htn:t<s.nt:=by rw[<-h.nt];exact ht
  simp only[nM,if_pos htn];rw[<-htkd,<-hn];refine Jv ncell nsub ngam (λty u l hx hu=>?_) (h.tms t ht);have hm:u∈tk:=by rw[htkd];exact wT htn hx hu
  refine⟨hm,bix u hm,λb e he m hm'=>?_⟩;have:=n1.ext.old b (tkOld u hm b e he);simp only[lu,bE] at hm' ⊢;grind
 ·have ht':s.nt<=t:=ht;simp only[nM];grind
 ·have hid':(sc.fresh+1)*4096+4096<=id:=hid;omega
 ·rcases zna u n with hlt|hge
  ·rw[blt u hlt] at he;obtain⟨q1,q2,q3⟩:=n1.βn u b e hu he;grind
  ·obtain⟨x,hx,_,he⟩:=bge u b e hge he;obtain⟨q1,q2,q3⟩:=h.βn x b e (tkm x hx) he;exact⟨q1,zOa q2 nsz,λo ho hs=>q3 o ho (n1.So b o hs (tkOld x hx b e he))⟩
 ·rcases zna u n with hlt|hge
  ·rcases zna u' n with hlt'|hge'
   ·rw[blt u hlt] at he;rw[blt u' hlt'] at he';exact n1.βi u u' b e e' hu hu' he he'
   ·rw[blt u hlt] at he;obtain⟨x,hx,_,he'⟩:=bge u' b e' hge' he';exact absurd (tkOld x hx b e' he') (n1.βn u b e hu he).1
  ·obtain⟨x,hx,ex,he⟩:=bge u b e hge he;rcases zna u' n with hlt'|hge'
   ·rw[blt u' hlt'] at he';exact absurd (tkOld x hx b e he) (n1.βn u' b e' hu' he').1
   ·obtain⟨x',hx',ex',he'⟩:=bge u' b e' hge' he';have:=h.βi x x' b e e' (tkm x hx) (tkm x' hx') he he';grind
 ·rcases zna u n with hlt|hge
  ·rw[blt u hlt] at he;exact n1.βγ u id b e hu he
  ·obtain⟨x,hx,ex,he⟩:=bge u b e hge he;exact λhid=>(n1.γn id b hid).1 (tkOld x hx b e he)
 ·have hu':(sc.fresh+1)*4096+4096<=u:=hu;all_goals grind
end
end Sy
end
noncomputable section
namespace Sy
open Go
open Go.ChangeMaps (setBlock)
variable{ro:Option Nat}{nn:Nat}
section
variable{P:Program}{E:Env}{w0:Root}{S:Nat->Nat->Prop}{γ:Nat->Option Nat}{β:Nat->Option (Nat×Nat)}{s:St}{a:Act}{w:World}
mutual
theorem AC.anyOb{c:Cx}(ob':Nat->Option Ob):∀ (x:AV) (t:Ty) (cs:List Value),AV.fits t x=true->AC c x cs->AC ⟨c.w,c.S,c.γ,c.β,ob',c.dead⟩ x cs
 | .d t' x,t,cs,_,h=>by simpa only[AC] using h
 | .own t' v l,t,cs,_,h=>by simpa only[AC,V1] using h
 | .nils,t,cs,_,h=>by simpa only[AC] using h
 | .st ts' l,t,cs,hf,h=>by
  cases t<;>simp only[AV.fits] at hf<;>first|cases hf|skip
  rename_i ts;simp only[zaa] at hf;simp only[AC] at h ⊢;exact⟨h.1,h.2.1,jX.anyOb ob' l ts cs hf.2 h.2.2⟩
 | .ptr ..,t,cs,hf,_=>by cases t<;>simp[AV.fits] at hf
 | .fptr ..,t,cs,hf,_=>by cases t<;>simp[AV.fits] at hf
 | .mem ..,t,cs,hf,_=>by cases t<;>simp[AV.fits] at hf
 | .clo ..,t,cs,hf,_=>by cases t<;>simp[AV.fits] at hf
 | .map ..,t,cs,hf,_=>by cases t<;>simp[AV.fits] at hf
 | .sub ..,t,cs,hf,_=>by cases t<;>simp[AV.fits] at hf
 | .yld ..,t,cs,hf,_=>by cases t<;>simp[AV.fits] at hf
 | .gone,t,cs,hf,_=>by cases t<;>simp[AV.fits] at hf
 | .undef,t,cs,hf,_=>by cases t<;>simp[AV.fits] at hf
theorem jX.anyOb{c:Cx}(ob':Nat->Option Ob):∀ (l:List AV) (ts:List Ty) (cs:List Value),AV.fitss ts l=true->jX c l cs->jX ⟨c.w,c.S,c.γ,c.β,ob',c.dead⟩ l cs
 | [],ts,cs,_,h=>by simpa only[jX] using h
 | a::l,ts,cs,hf,h=>by
  cases ts<;>simp only[AV.fitss] at hf<;>first|cases hf|skip
  simp only[zaa] at hf;simp only[jX] at h ⊢;obtain⟨c1,c2,rfl,h1,h2⟩:=h;exact⟨c1,c2,rfl,AC.anyOb ob' a _ c1 hf.1 h1,jX.anyOb ob' l _ c2 hf.2 h2⟩
end
theorem gW.anyOb{c:Cx}{ob':Nat->Option Ob}{kt vt:Ty}:∀ {j:Nat} {l:List D} {es:List MapEntry},gW c kt vt j l es->gW ⟨c.w,c.S,c.γ,c.β,ob',c.dead⟩ kt vt j l es
 | _,[],[],_=>trivial
 | _,[],_::_,k=>k.elim
 | _,_::_,[],k=>k.elim
 | j,x::l,e::es,k=>by
  simp only[gW] at k ⊢;exact⟨k.1,gW.anyOb k.2⟩
def eK.anyOb{c:Cx}(ob':Nat->Option Ob){x:AV}{v:Value}(h:eK c x v):eK ⟨c.w,c.S,c.γ,c.β,ob',c.dead⟩ x v:=eK.mono (c:=c) (c':=⟨c.w,c.S,c.γ,c.β,ob',c.dead⟩) (λ_ _ _=>rfl) (λ_ _ h=>h) (λ_ _ h=>h) h
theorem fh.anyOb{c:Cx}(ob':Nat->Option Ob){b:Nat}{o:Ob}(h:fh c b o):fh ⟨c.w,c.S,c.γ,c.β,ob',c.dead⟩ b o:=by
 cases o<;>simp only[fh] at h ⊢
 case one t v=>
  obtain⟨h1,h2,h3,cs,h4,h5,h6⟩:=h;exact⟨h1,h2,h3,cs,h4,AC.anyOb ob' v t cs h2 h5,h6⟩
 case many t l=>exact h
 case mp kt vt l=>
  obtain⟨h1,h2,h3,es,h4,h5⟩:=h;exact⟨h1,h2,h3,es,h4,h5.anyOb⟩
 case lp i p=>
  obtain⟨r,h1,h2,h3,h4⟩:=h;exact⟨r,h1,h2,λt ht=>(h3 t ht).anyOb ob',h4⟩
 case fv v=>
  obtain⟨h1,x,h2,h3,h4⟩:=h;exact⟨h1,x,h2,h3.anyOb ob',h4⟩
def ve{b o:Nat}{r:Loop}(h:w.heap[b]?=some (Obj.loop r)):w.cell? ⟨b,o,none⟩=none:=by simp[World.cell?,h]
def dF{b b':Nat}{x:Obj}(hb:b'≠b):(setBlock w b x).heap[b']?=w.heap[b']?:=by simp only[setBlock];rw[zUc (Ne.symm hb)]
def fV{b:Nat}{x:Obj}(hb:b<w.heap.size):(setBlock w b x).heap[b]?=some x:=World.putObj_heap_same hb
def dq{b:Nat}{x:Obj}:(setBlock w b x).heap.size=w.heap.size:=by simp[setBlock]
def tI{L:Nat}{r r':Loop}(hl:w.heap[L]?=some (Obj.loop r))(b o:Nat):(setBlock w L (.loop r')).cell? ⟨b,o,none⟩=w.cell? ⟨b,o,none⟩:=by
 by_cases e:b=L
 ·subst e;rw[ve hl,ve (fV (zfa.1 hl).1)]
 ·simp only[World.cell?,dF e]
def Rp.setLp(h:Rp w0 S γ β s a w){id L:Nat}(hγ:γ id=some L){r:Loop}(hl:w.heap[L]?=some (Obj.loop r))(r':Loop):Rp w0 S γ β (s.setOb id none) a (setBlock w L (.loop r')):=by
 have hle:Cx.le ⟨w,S,γ,β,s.ob,s.dead⟩ ⟨setBlock w L (.loop r'),S,γ,β,(s.setOb id none).ob,s.dead⟩:=by
  refine⟨λb o _=>tI hl b o,λ_ _ hb=>hb,λ_ _ hb=>hb,λi y hy _=>⟨y,?_,λp=>⟨rfl,rfl⟩,λt l e=>⟨l,e,rfl⟩,λ_ _ l e=>⟨l,e⟩⟩,λv hv=>⟨hv,λb' e he=>⟨he,λn hn=>?_⟩⟩⟩
  ·simp_all [St.setOb]
  ·have hne:b'≠L:=λe'=>h.βγ v id b' e hv he (e' ▸ hγ);have hn':lu w b'=some n:=hn;show lu (setBlock w L (.loop r')) b'=some n;simp only[lu,bE,dF hne] at hn' ⊢;exact hn'
 refine⟨mT h.ext rfl rfl rfl (by rw[dq];exact zha _) (zha _) (λb' hb'=>dF λe=>(h.γn id L hγ).1 (e ▸ hb')),λt ht=>(h.tms t ht).mono hle,h.nt,h.tmu,λi y b' hy hb'=>?_,λi b' hb'=>by rw[dq];exact h.γn i b' hb',h.γi,h.γf,
  λv b' e hv he=>by rw[dq];exact h.βn v b' e hv he,h.βi,h.βγ,h.βf,λb' o hb=>by rw[dq];exact h.Sb b' o hb,h.So⟩
 have hy':i≠id/\s.ob i=some y:=by
  all_goals simp_all [St.setOb]
 have hne:b'≠L:=λe'=>hy'.1 (h.γi i id b' hb' (e' ▸ hγ));exact(h.obs i y b' hy'.2 hb').mono hle (dF hne) λ_ hh=>hh
def Fm.setLp(h:Rp w0 S γ β s a w){s1:St}{L:Nat}{r r':Loop}(hl:w.heap[L]?=some (Obj.loop r))(he:zW r r'):Fm s1 S γ a w S γ a (setBlock w L (.loop r')):=by
 have hlt:=(zfa.1 hl).1;refine⟨λ_ _ hb=>hb,λb o _=>tI hl b o,λ_ _=>rfl,λi _ b hb=>⟨hb,?_⟩,by rw[dq];exact zha _,λ_ _ hb=>hb,jW.same rfl λb=>?_⟩
 ·by_cases e:b=L
  ·subst e;exact .inr ⟨r,r',hl,fV hlt,he⟩
  ·exact .inl (dF e)
 ·by_cases e:b=L
  ·subst e;exact⟨λhb=>(by rw[hl] at hb;cases hb),λ_=>⟨r',fV hlt⟩⟩
  ·simp_all [dF]
theorem Rp.leaveY(h:Rp w0 S γ β s a w){id L:Nat}{i:LpI}{p:Option Ex}(hγ:γ id=some L)(ho:fh ⟨w,S,γ,β,s.ob,s.dead⟩ L (.lp i p)):Rp w0 S γ β (leaveY s id i p) a w:=by
 refine⟨h.ext,λt ht=>by simp only[Sy.leaveY,AR],h.nt,λt ht=>rfl,λj o b hj hb=>?_,h.γn,h.γi,h.γf,h.βn,h.βi,h.βγ,h.βf,h.Sb,h.So⟩
 have hj':(if j=id then some (Ob.lp i p) else s.ob j)=some o:=hj
 by_cases e:j=id
 ·subst e;rw[if_pos rfl] at hj';cases hj';rw[hγ] at hb;cases hb;exact ho.anyOb _
 ·rw[if_neg e] at hj';exact(h.obs j o b hj' hb).anyOb _
def um(s:St)(id:Nat)(i:LpI)(p:Option Ex):leaveY (s.setOb id none) id i p=leaveY s id i p:=by
 have:(λj=>if j=id then some (Ob.lp i p) else(s.setOb id none).ob j)=λj=>if j=id then some (Ob.lp i p) else s.ob j:=by
  funext j;by_cases e:j=id
  ·simp[e]
  ·simp[St.setOb,e]
 simp only[leaveY,this];rfl
theorem tj{c:Cx}:∀ (l:List (Nat×AV)) (l':List (Nat×Value)) (f:Nat->AV) (T:Array Value),l.length=l'.length->(∀ (i p:Nat) (x:AV) (q:Nat) (v:Value),l[i]?=some (p,x)->l'[i]?=some (q,v)->p=q/\AR c x v) ->
  (∀ t,t<T.size->AR c (f t) (T.getD t undef))->(l'.foldl (λtmps p=>tmps.setIfInBounds p.1 p.2) T).size=T.size/\∀ t,t<T.size->AR c (ki l f t) ((l'.foldl (λtmps p=>tmps.setIfInBounds p.1 p.2) T).getD t undef)
 | [],[],f,T,_,_,h=>⟨rfl,h⟩
 | [],_::_,f,T,hl,_,_=>by simp at hl
 | _::_,[],f,T,hl,_,_=>by simp at hl
 | (p,x)::l,(q,v)::l',f,T,hl,hx,h=>by
  obtain⟨e,hxv⟩:=hx 0 p x q v rfl rfl;subst e;simp only[zfc,ki];obtain⟨h1,h2⟩:=tj l l' (λt=>if t=p then x else f t) (T.setIfInBounds p v) (by simpa using hl) (λi=>hx (i+1)) λt ht=>by
   have ht':t<T.size:=by simpa using ht
   by_cases e:t=p
   ·subst e;rw[if_pos rfl];simpa [Array.getD,ht'] using hxv
   ·rw[if_neg e];have:=h t ht';simp only[Array.getD] at this ⊢;rw[dif_pos ht'] at this;rw[dif_pos ht,Array.getInternal_eq_getElem,Array.getElem_setIfInBounds_ne ht' (Ne.symm e)]
    rwa [Array.getInternal_eq_getElem] at this
  refine⟨by rw[h1];simp,λt ht=>h2 t (by simpa using ht)⟩
theorem qt:∀ (l:List (Nat×AV)) (f:Nat->AV) (n t:Nat),(∀ p∈l,p.1<n)->n<=t->ki l f t=f t
 | [],f,n,t,_,_=>rfl
 | (p,x)::l,f,n,t,h,ht=>by
  simp only[ki];rw[qt l _ n t (λq hq=>h q (by simp[hq])) ht]
  have:=h (p,x) (by simp)
  simp only at this;rw[if_neg (by omega)]
theorem jZ(h:Rp w0 S γ β s a w):∀ (l:List Operand) (i:Nat) (x:AV) (v:Value),(l.map s.opA)[i]?=some x->(l.map a.eval)[i]?=some v->AR ⟨w,S,γ,β,s.ob,s.dead⟩ x v
 | [],i,x,v,hx,_=>by simp at hx
 | y::l,0,x,v,hx,hv=>by simp at hx hv;subst hx;subst hv;exact aN h y
 | y::l,i+1,x,v,hx,hv=>by simp only[z4a,zdb] at hx hv;exact jZ h l i x v hx hv
theorem Fm.less{s s2:St}{S':Nat->Nat->Prop}{γ':Nat->Option Nat}{a':Act}{w':World}(h:Fm s S γ a w S' γ' a' w')(e1:∀ t∈s2.lkS,t∈s.lkS)(e2:∀ t∈s2.lkO,t∈s.lkO):Fm s2 S γ a w S' γ' a' w':=
 ⟨h.sub,h.cell,λt ht=>h.slots t (e1 t ht),λid hid=>h.objs id (e2 id hid),h.sz,h.gam,h.dfs.less e2⟩
def rF(c:Cx)(b:Bool):AR c (.d .bool (.bool b)) (.bool b):=fI _
def GR(hE:EnvOk P E)(h:Rp w0 S γ β s a w){o:Oper}{c:Call}(hop:o.op=.call c){id:Nat}{i:LpI}{avs:List AV}(hy:LZ s c=some (id,i,avs)){R:Type}{K:AV->St->Option R}{r:R}{an:Ann}(hev:T6 E an s id i avs K=some r)
  {next:Act->World->Prop} {Q:Exit->Act->World->Prop}
  (hk:∀ y v s' S' γ' β' w',K y s'=some r->Rp w0 S' γ' β' s' a w'->AR ⟨w',S',γ',β',s'.ob,s'.dead⟩ y v->Fm s S γ a w S' γ' a w'->Sk s s'->next (a.put o.dst v) w'):o.wpIn (FW ro) nn P a w next Q:=by
 obtain⟨dst,op,ty,pos,after,guard⟩:=o;simp only at hop;subst hop;obtain⟨callee,args,argTypes⟩:=c;unfold LZ at hy;split at hy<;>first|(cases hy;done)|skip
 rename_i t hc;simp only at hc;subst hc;split at hy<;>first|(cases hy;done)|skip
 rename_i id' ht;split at hy<;>first|(cases hy;done)|skip
 rename_i i' hob;simp only[zca,Prod.mk.injEq] at hy;obtain⟨rfl,rfl,rfl⟩:=hy;have hA:=aN h (.tmp t);have hA':AR ⟨w,S,γ,β,s.ob,s.dead⟩ (.yld id') (a.eval (.tmp t)):=by rw[<-ht];exact hA
 simp only[AR,AC] at hA';obtain⟨na,L,hcs,hγ⟩:=hA';have hv:=am na hcs;have hO:=h.obs id' _ L hob hγ;simp only[fh] at hO;obtain⟨rec,hl,⟨p1,p2,p3,p4⟩,hcap,hst,hpe⟩:=hO;unfold T6 at hev;split at hev<;>first|(cases hev;done)|skip
 rename_i hcond;obtain⟨hlen,hps,htk⟩:=hcond;have hlen':args.size=rec.params.size:=by
  have:(args.toList.map s.opA).length=rec.params.toList.length:=by rw[p2];exact hlen
  simpa using this
 have hyr:=run_yield (P:=P) (args:=(args.map a.eval)) hl (by simpa using hlen')
 refine⟨λ_ _=>trivial,?_⟩;have hrun:((⟨dst,.call ⟨.value (.tmp t),args,argTypes⟩,ty,pos,after,guard⟩:Oper).semAt (FW ro).round a.eval).run P w=.ok (.round L rec.fn ((rec.params.zip (args.map a.eval)).foldl (λtmps (t,a)=>tmps.setIfInBounds t a) rec.tmps) rec.assign rec.body) w:=by
  rw[Oper.semAt_eq _ _ _ (λc=>by simp)]
  simp only[execOp,resolve,hv];simpa [Deferred.ofValue,invoke,go_sem] using hyr
 rw[hrun];simp only[Oper.uponIn];refine⟨λh=>(by cases h),?_⟩
 obtain⟨T,hT⟩:∃ T,T=(rec.params.zip (args.map a.eval)).foldl (λtmps (t,a)=>tmps.setIfInBounds t a) rec.tmps:=⟨_,rfl⟩;rw[<-hT];refine RoundIn.mono (R:=λen w''=>∃ v,en=.returned v/\next (a.put dst v) w'') ?_ (λen w'' ⟨v,he,hn⟩=>by subst he;exact hn)
 refine roundIn_of_wpIn trivial ?_;show Code.wpIn (FW (some L)) (nn-1) P rec.assign _ _ _;rw[p3,p4];obtain⟨tk,htkd⟩:∃ tk,tk=c6 s:=⟨_,rfl⟩;obtain⟨sh,hsh⟩:∃ sh:Nat->Prop,sh=λb=>(∃ id,γ id=some b)\/∃ v e,v ∉ tk++s.dead/\β v=some (b,e):=⟨_,rfl⟩;have hTT:T.size=rec.tmps.size/\∀ t,t<rec.tmps.size->AR ⟨w,S,γ,β,s.ob,tk++s.dead⟩ ((BQ s i' id' (args.toList.map s.opA)).tm t) (T.getD t undef):=by
  have key:=tj (c:=⟨w,S,γ,β,s.ob,tk++s.dead⟩) (i'.ps.zip (args.toList.map s.opA)) (i'.ps.zip (args.toList.map a.eval)) (λt=>if t<i'.nt then mD s.ob (i'.caps t) else .undef) rec.tmps (by simp) (λj p x q v hx hv=>by
   rw[List.getElem?_zip_eq_some] at hx hv;refine⟨by have:=hx.1.symm.trans hv.1;simpa using this,?_⟩
   refine AR.mono (c:=⟨w,S,γ,β,s.ob,s.dead⟩) (c':=⟨w,S,γ,β,s.ob,tk++s.dead⟩) ⟨λ_ _ _=>rfl,λ_ _ hb=>hb,λ_ _ hb=>hb,λid o ho _=>⟨o,ho,λp=>⟨rfl,rfl⟩,λt l e=>⟨l,e,rfl⟩,λ_ _ l e=>⟨l,e⟩⟩,λu hu=>⟨λhh=>hu (zQa _ hh),λb e he=>⟨he,λn hn=>hn⟩⟩⟩ (jZ h _ j x v hx.2 hv.2))
   (λt ht=>by
    rw[if_pos (by omega)]
    exact ya (c:=⟨w,S,γ,β,s.ob,s.dead⟩) (hcap t (by omega)))
  have e:T=(i'.ps.zip (args.toList.map a.eval)).foldl (λtmps p=>tmps.setIfInBounds p.1 p.2) rec.tmps:=by
   rw[hT,<-p2,<-Array.foldl_toList,Array.toList_zip,Array.toList_map]
  rw[e];exact key
 have hsz:T.size=i'.nt:=hTT.1.trans p1;have RI:Rp ⟨w,S,sh⟩ S γ β (BQ s i' id' (args.toList.map s.opA)) ⟨T,[]⟩ w:=by
  refine BR h htkd hsh (λj o hj=>hj) rfl (by rw[htkd];rfl) hsz (λu hu=>?_) (λu hu=>hTT.2 u (by rw[<-hTT.1];exact hu))
  have hu':i'.nt<=u:=hu;show ki _ _ u=.undef;rw[qt _ _ i'.nt u (λp hp=>by
   have h1:=(List.of_mem_zip (a:=p.1) (b:=p.2) hp).1;have:=zka.1 hps _ h1;simpa using this) hu',if_neg (by omega)]
 refine hE.cod (some L) (nn-1) ⟨w,S,sh⟩ i'.asg an.fst R _ S γ β _ _ w _ r (λl e=>by cases e;exact⟨rec,hl⟩) RI hev λe s1 S1 γ1 β1 a1 w1 n1 n2 n3 n4=>?_
 cases e with
 | exit j=>cases n4
 | ret=>cases n4
 | normal=>
 simp only at n4;split at n4<;>first|(cases n4;done)|skip
 rename_i i1 hob1;simp only[Fa,Exit.then];obtain⟨g1,st1⟩:=n2.objs id' zoa L hγ;have hO1:=n1.obs id' _ L hob1 g1;simp only[fh] at hO1;obtain⟨rec1,hl1,_,_,hst1,hpe1⟩:=hO1;have e1:zW rec rec1:=by
  rcases st1 with k|⟨r,r',k1,k2,k3⟩
  ·rw[hl1,hl] at k;cases k;exact⟨rfl,rfl,rfl,rfl⟩
  ·rw[hl] at k1;cases k1;rw[hl1] at k2;cases k2;exact k3
 refine⟨_,run_beginRound hl1 hst1,?_⟩;have hL1:=(zfa.1 hl1).1;have M1:=n1.setLp g1 hl1 { rec1 with state:=.busy };have F1:=Fm.setLp n1 (s1:=s1) hl1 (r':={ rec1 with state:=.busy }) ⟨rfl,rfl,rfl,rfl⟩;have hl2:(setBlock w1 L (.loop { rec1 with state:=.busy })).heap[L]?=some (.loop { rec1 with state:=.busy }):=fV hL1;show Code.wpIn (FW (some L)) (nn-1) P i'.bdy _ a1 (setBlock w1 L (.loop { rec1 with state:=.busy }));generalize setBlock w1 L (.loop { rec1 with state:=.busy })=w2 at M1 F1 hl2 ⊢;have hlk1:s1.lkO=id'::s.lkO:=n3.lkO;refine hE.cod (some L) (nn-1) ⟨w,S,sh⟩ i'.bdy an.snd R _ S1 γ1 β1 _ a1 w2 _ r (λl e=>by cases e;exact⟨_,hl2⟩) M1 n4 λe s2 S2 γ2 β2 a2 w3 m1 m2 m3 m4=>?_
 obtain⟨g2,st2⟩:=m2.objs id' (by rw[show(s1.setOb id' none).lkO=s1.lkO from rfl,hlk1];exact zoa) L g1
 obtain⟨rec3,hl3,e3⟩:∃ rec3,w3.heap[L]?=some (Obj.loop rec3)/\zW rec rec3:=by
  rcases st2 with k|⟨r,r',k1,k2,k3⟩
  ·exact⟨_,k.trans hl2,e1⟩
  ·rw[hl2] at k1;cases k1;exact⟨r',k2,k3.1.trans e1.1,k3.2.1.trans e1.2.1,k3.2.2.1.trans e1.2.2.1,k3.2.2.2.trans e1.2.2.2⟩
 have hL3:=(zfa.1 hl3).1;have F2:Fm (BQ s i' id' (args.toList.map s.opA)) S γ ⟨T,[]⟩ w S2 γ2 a2 w3:=(n2.trans (F1.less (s2:=s1) (λ_ h=>h) (λ_ h=>h)) n3.lkS n3.lkO).trans (s1:=s1) (m2.less (λ_ h=>h) (λ_ h=>h)) n3.lkS n3.lkO;have fin:∀ (rec4:Loop) (p:Option Ex) (v:Value) (y:AV),zW rec3 rec4->VP p rec4->(∀ c,AR c y v)->K y (nM s (leaveY s2 id' i' p))=some r->next (a.put dst v) (setBlock w3 L (.loop rec4)):=by
  intro rec4 p v y e4 hd hyv hK;have e34:zW rec rec4:=⟨e4.1.trans e3.1,e4.2.1.trans e3.2.1,e4.2.2.1.trans e3.2.2.1,e4.2.2.2.trans e3.2.2.2⟩;have F3:=F2.trans (Fm.setLp m1 (s1:=s2) hl3 e4) (m3.lkS.trans n3.lkS) (m3.lkO.trans n3.lkO);have M2:=m1.setLp g2 hl3 rec4;have hl4:(setBlock w3 L (.loop rec4)).heap[L]?=some (.loop rec4):=fV hL3;generalize setBlock w3 L (.loop rec4)=w4 at F3 M2 hl4 ⊢;have M3:=M2.leaveY (i:=i') (p:=p) g2 (by
   simp only[fh];refine⟨rec4,hl4,⟨by rw[e34.1];exact p1,by rw[e34.2.1];exact p2,by rw[e34.2.2.1];exact p3,by rw[e34.2.2.2];exact p4⟩,λu hu=>?_,hd⟩
   rw[e34.1];exact eK.mono (c:=⟨w,S,γ,β,s.ob,s.dead⟩) F3.cell F3.sub F3.gam (hcap u hu))
  rw[um] at M3;obtain⟨β'',B1,B2⟩:=Bp h htkd hsh (by rw[htkd];exact htk) M3 F3.sub F3.cell F3.gam F3.sz
  exact hk y v _ S2 γ2 β'' w4 hK B1 (hyv _) ⟨F3.sub,F3.cell,λ_ _=>rfl,λj hj=>F3.objs j (zia _ hj),F3.sz,F3.gam,jW.same rfl F3.dfs.1⟩ ⟨rfl,rfl,rfl⟩
 cases e with
 | normal=>exact⟨_,_,run_endRound none hl3,_,rfl,fin _ none _ _ ⟨rfl,rfl,rfl,rfl⟩ ⟨rfl,rfl⟩ (λc=>rF c true) m4⟩
 | ret=>exact⟨_,_,run_endRound (some .ret) hl3,_,rfl,fin _ (some .ret) _ _ ⟨rfl,rfl,rfl,rfl⟩ ⟨rfl,rfl⟩ (λc=>rF c false) m4⟩
 | exit j=>exact⟨_,_,run_endRound (some (.exit j)) hl3,_,rfl,fin _ (some (.exit j)) _ _ ⟨rfl,rfl,rfl,rfl⟩ ⟨rfl,rfl⟩ (λc=>rF c false) m4⟩
def Rp.later(h:Rp w0 S γ β s a w):Rp w0 S γ β (wj s) a w:=by
 have q:∀ i,((wj s):St).base+4096<=i->s.base+4096<=i:=λi hi=>by
  exact zDa (Nat.add_le_add_right (zAa 4096 (ztc s.fresh)) 4096) hi
 exact⟨h.ext,h.tms,h.nt,h.tmu,h.obs,h.γn,h.γi,λi hi=>h.γf i (q i hi),h.βn,h.βi,h.βγ,λv hv=>h.βf v (q v hv),h.Sb,h.So⟩
def Bu{E:Env}{s0:St}{γ0:Nat->Option Nat}{β0:Nat->Option (Nat×Nat)}(h:Rp w0 S γ β s a w){l:List (Nat×Oper)}(hna:(l.all λp=>w7 p.2)=true)(hf:∀ o∈l.map Prod.snd,Fr E s0 γ0 β0 o):∀ o∈l.map Prod.snd,Fr E (wj s) γ β o:=by
 intro o' ho' hc d hd;have hb:(wj s).base=s.base+4096:=by simp only[wj,St.base];omega
 rw[hb];refine⟨(hf o' ho' hc d hd).1,h.γf _ (by omega),h.βf _ (by omega),λT t e=>?_⟩
 obtain⟨p,hp,rfl⟩:=z7a.1 ho';have:=zka.1 hna p hp
 simp_all [w7]
end
end Sy
end
noncomputable section
namespace Sy
open Go
variable{ro:Option Nat}{nn:Nat}
def IY{E:Env}{ops:Array Oper}{N:Nat}{R:Type}{i:Nat}{o:Oper}{l:List (Nat×Oper)}{s:St}{k:St->Option R}{r:R}(hg:o.guard=none)(hgu:lz E s i o l=true){an:Ann}(h:dS E (N+1) R ops an ((i,o)::l) s k=some r) :
  ∃ seg jj pk l'' s5 s3,l=seg++(jj,pk)::l''/\fP o=true/\(∀ p∈seg,fP p.2=true)/\fP pk=true/\seqV E ops (o::(seg.map Prod.snd++[pk])) s=some s5/\Wk s5 s3/\dS E N R ops an l'' s3 k=some r:=by
 simp only[dS,hg,hgu,if_true] at h;simp only[lz,zaa] at hgu;obtain⟨_,hcond⟩:=hgu;obtain⟨e1,e2⟩:=iE o.dst l;generalize c7 o.dst l=sp at *;obtain⟨seg,rest⟩:=sp;simp only at h e1 e2 hcond;split at h<;>first|(cases h;done)|skip
 rename_i _ _ jj pk l'' d hd;simp only[hd] at hcond;simp only[zaa,decide_eq_true_eq,zFa,zka] at hcond;obtain⟨⟨⟨⟨⟨c1,c2⟩,c3⟩,cI⟩,c4⟩,c5⟩:=hcond;have ho:=kj c3;have hpk:=e2 _ _ rfl;obtain⟨pc,px,py,hop⟩:=ql hpk;unfold Lb at h;split at h<;>first|(cases h;done)|skip
 rename_i hlk;rw[nW E s ho] at h;obtain⟨v,h3,h4⟩:=ft h;rw[hd] at h4;obtain⟨c,h5,h6⟩:=bind_some_inv h4;rw[rB c1] at h5;have hv:=iH h5;subst hv;obtain⟨x,h7,h8⟩:=bind_some_inv h6;have hsame:∀ b,b=c->(s.put (some d) (.d .bool (.bool c))).put (some d) (.d .bool (.bool b))=s.put (some d) (.d .bool (.bool c)):=λb hb=>tn (by rw[rB c1,hb])
 have hsegv:∃ k2:St->Option Bool,(∀ s2,k2 s2=qv E s2 pk AV.truth)/\dS E N Bool ops .leaf seg (s.put (some d) (.d .bool (.bool c))) k2=some x:=by
  all_goals grind
 obtain⟨k2,hk2,h7⟩:=hsegv;obtain⟨s2,s2',N2,h9,h10,h11⟩:=sA N Bool seg _ k2 x seg.length .leaf (zha _) (λp hp=>by
  rw[z3a] at hp;exact⟨kj (c4 p hp).1.1,(c4 p hp).2⟩) (.inl λp hp=>by simp at hp) h7
 rw[z1c] at h11;rw[z3a] at h9;have h12:k2 s2'=some x:=by cases N2<;>simpa [dS] using h11
 rw[hk2] at h12;obtain⟨v2,h13,h14⟩:=ft h12;have hv2:=iH h14;obtain⟨v3,h15,h16⟩:=h10.qv h13;have hv3:v3=.d .bool (.bool x):=by
  all_goals simp_all
 subst hv3;have hwk:Wk (s2.put pk.dst (.d .bool (.bool x))) ((killD (s.put (some d) (.d .bool (.bool c))) (seg.map Prod.snd)).put pk.dst (.d .bool (.bool x))):=(jO _ h9).put pk.dst (.inl rfl);have hval:val E ops s o=some (.d .bool (.bool c)):=by unfold val;rw[if_neg hlk,hg];exact h3
 have hlk2:¬ jF s2 pk=true:=by
  have:s2.lkS=s.lkS:=by
   have w1:=(jO _ h9).lkS;have w2:∀ (l:List Oper) (s:St),(killD s l).lkS=s.lkS:=by
    intro l
    induction l with
    | nil=>intro s;rfl
    | cons o l ih=>intro s;rw[killD,ih];exact(St.put_fields s o.dst .undef).2.2.2.2.1
   rw[<-w1,w2];exact(St.put_fields s (some d) _).2.2.2.2.1
  simp_all [jF]
 have hval2:val E ops s2 pk=some (.d .bool (.bool x)):=by
  unfold val
  simp_all
 refine⟨seg,jj,pk,l'',_,_,e1,ho,λp hp=>kj (c4 p hp).1.1,Dt hop,?_,hwk,h8⟩
 simp_all [seqV,hval,zba,lC,hval2]
section
variable{P:Program}{E:Env}{w0:Root}{S:Nat->Nat->Prop}{γ:Nat->Option Nat}{β:Nat->Option (Nat×Nat)}{s:St}{a:Act}{w:World}{ops:Array Oper}
def pX{o:Oper}(h:Rp w0 S γ β s a w):(o.guard=none->Region.wanted o (yielded ops a.tmps)=true) ∧
  (∀ j want g c,o.guard=some (j,want)->(ops[j]?).bind (·.dst)=some g->(s.tm g).truth=some c->Region.wanted o (yielded ops a.tmps)=(c==want)) ∧
  ∀ j want g,o.guard=some (j,want)->(ops[j]?).bind (·.dst)=some g->s.tm g=.gone->Region.wanted o (yielded ops a.tmps)=false:=by
 refine⟨λhg=>by simp[Region.wanted,hg],λj want g c hg h1 h2=>?_,λj want g hg h1 h2=>?_⟩
 rotate_left
 ·have h3:AR ⟨w,S,γ,β,s.ob,s.dead⟩ (s.tm g) (a.eval (.tmp g)):=aN h (.tmp g);rw[h2] at h3;have h3':a.eval (.tmp g)=undef:=h3;simp only[Act.eval] at h3';simp only[Region.wanted,hg,yielded,h1,zba];by_cases hlt:g<a.tmps.size
  ·have h4:a.tmps[g]?=some undef:=by
    simp_all
   rw[h4];rfl
  ·simp_all
 obtain⟨h3,_⟩:=ny h2 (aN h (.tmp g));have h4:a.tmps[g]?=some (.bool c):=by
  simp only[Act.eval] at h3;by_cases hlt:g<a.tmps.size
  ·simp_all
  ·exfalso;have:s.tm g=.undef:=h.tmu g (by rw[<-h.nt];exact Nat.le_of_not_lt hlt)
   simp_all
 simp_all [Region.wanted,yielded,zba]
def xB(hE:EnvOk P E)(h:Rp w0 S γ β s a w){o:Oper}(hf:Fr E s γ β o){v:AV}(hq:val E ops s o=some v) :
  (Region.wanted o (yielded ops a.tmps)=true->dH P o a w λu w'=>∃ S' γ' β',Rp w0 S' γ' β' (s.put o.dst v) (a.put o.dst u) w'/\Fm s S γ a w S' γ' (a.put o.dst u) w'/\(∀ id,o.dst≠some (id-s.base)\/id<s.base->γ' id=γ id/\β' id=β id)) ∧
  (Region.wanted o (yielded ops a.tmps)=false->Rp w0 S γ β (s.put o.dst v) (a.put o.dst undef) w/\Fm s S γ a w S γ (a.put o.dst undef) w):=by
 unfold val at hq;split at hq<;>first|(cases hq;done)|skip
 rename_i hlk;have hlk':∀ t∈s.lkS,o.dst≠some t:=λt ht e=>hlk (by simp[jF,e];exact ht)
 have main:qv E s o some=some v->dH P o a w λu w'=>∃ S' γ' β',Rp w0 S' γ' β' (s.put o.dst v) (a.put o.dst u) w'/\Fm s S γ a w S' γ' (a.put o.dst u) w'/\(∀ id,o.dst≠some (id-s.base)\/id<s.base->γ' id=γ id/\β' id=β id):=by
  intro hq;obtain⟨s',h1,h2⟩:=uR hE h hf (λT t _ ht=>hE.flat T t ht) hlk' (K:=some) (r:=s.put o.dst v) (by rw[F8,hq];rfl)
  cases h1;exact h2.2.2.2.2.2
 have skip:Rp w0 S γ β (s.put o.dst .gone) (a.put o.dst undef) w/\Fm s S γ a w S γ (a.put o.dst undef) w:=
  ⟨h.put (by simp[AR]) o.dst,λ_ _ hb=>hb,λ_ _ _=>rfl,λt ht=>bM (hlk' t ht),λ_ _ _ hb=>⟨hb,iN.refl _ _⟩,zha _,λ_ _ hb=>hb,jW.same bA (cJ.refl _)⟩
 obtain⟨w1,w2,w3⟩:=pX (ops:=ops) (o:=o) h;cases hg:o.guard with
 | none=>
  simp_all
 | some p=>
  obtain⟨j,want⟩:=p;rw[hg] at hq;simp only at hq;obtain⟨g,h1,h2⟩:=bind_some_inv hq;by_cases hgo:s.tm g=.gone
  ·grind [eW]
  rw[eY hgo] at h2;obtain⟨c,h3,h4⟩:=bind_some_inv h2;all_goals grind
def CD(E:Env)(s:St)(γ:Nat->Option Nat)(β:Nat->Option (Nat×Nat))(l:List Oper):Prop:=∀ o∈l,Fr E s γ β o
def Fr.keep{o o':Oper}{s':St}{γ':Nat->Option Nat}{β':Nat->Option (Nat×Nat)}(h:Fr E s γ β o')(hd:∀ d,o'.dst=some d->o.dst≠some d)(hfr:s'.fresh=s.fresh)
  (hob:∀ id,γ id=none->o.dst≠some (id-s.base)\/id<s.base->s'.ob id=s.ob id) (hk:∀ id,o.dst≠some (id-s.base)\/id<s.base->γ' id=γ id/\β' id=β id):Fr E s' γ' β' o':=by
 intro hc d hd';obtain⟨h1,h2,h3,h4⟩:=h hc d hd'
 simp_all [St.base,zvb]
structure Sm(s s':St):Prop where
 lkS:s'.lkS=s.lkS
 lkO:s'.lkO=s.lkO
 fresh:s'.fresh=s.fresh
 nt:s'.nt=s.nt
def Sm.sk{s s':St}(h:Sm s s'):Sk s s':=⟨h.lkS,h.lkO,h.nt⟩
def Sm.refl(s:St):Sm s s:=⟨rfl,rfl,rfl,rfl⟩
theorem Sm.trans{a b c:St}(h:Sm a b)(k:Sm b c):Sm a c:=⟨k.lkS.trans h.lkS,k.lkO.trans h.lkO,k.fresh.trans h.fresh,k.nt.trans h.nt⟩
theorem Sm.put(s:St)(d:Option Nat)(v:AV):Sm s (s.put d v):=by
 obtain⟨p1,p2,p3,p4,p5,p6,p7⟩:=St.put_fields s d v;exact⟨p5,p6,p2,p4⟩
def Sm.wk{s s':St}(h:Wk s s'):Sm s s':=⟨h.lkS,h.lkO,h.fresh,h.nt⟩
theorem xq(hE:EnvOk P E){Q:Exit->Act->World->Prop}:∀ (l l2:List Oper) {S:Nat->Nat->Prop} {γ:Nat->Option Nat} {β:Nat->Option (Nat×Nat)} {s:St} {a:Act} {w:World} {s':St},Rp w0 S γ β s a w->CD E s γ β (l++l2)->(∀ (A B:List Oper) o o',l++l2=A++o::B->o'∈B->∀ d,o'.dst=some d->o.dst≠some d)->seqV E ops l s=some s' ->
  (∀ S' γ' β' a' w',Rp w0 S' γ' β' s' a' w'->Fm s S γ a w S' γ' a' w'->Sm s s'->CD E s' γ' β' l2->wpListIn (FW ro) nn P ops Q l2 a' w')->wpListIn (FW ro) nn P ops Q (l++l2) a w
 | [],l2,S,γ,β,s,a,w,s',h,hf,_,hq,hk=>by
  simp only[seqV,zca] at hq;subst hq;exact hk S γ β a w h (Fm.refl _ _ _ _ _) (Sm.refl s) (by simpa using hf)
 | o::l,l2,S,γ,β,s,a,w,s',h,hf,hd,hq,hk=>by
  simp only[seqV] at hq;obtain⟨v,h1,h2⟩:=bind_some_inv hq;have hfo:Fr E s γ β o:=hf o (by simp)
  obtain⟨k1,k2⟩:=xB hE h hfo h1;have hdo:∀ o'∈l++l2,∀ d,o'.dst=some d->o.dst≠some d:=λo' ho'=>hd [] (l++l2) o o' rfl ho';have hd':∀ (A B:List Oper) x x',l++l2=A++x::B->x'∈B->∀ d,x'.dst=some d->x.dst≠some d:=λA B x x' e hx=>hd (o::A) B x x' (by simp[e]) hx
  have p:=St.put_fields s o.dst v;have frn:∀ {γ':Nat->Option Nat} {β':Nat->Option (Nat×Nat)},(∀ id,o.dst≠some (id-s.base)\/id<s.base->γ' id=γ id/\β' id=β id)->CD E (s.put o.dst v) γ' β' (l++l2):=λhk o' ho'=>
   (hf o' (by simp only[zib,zva];exact .inr ho')).keep (hdo o' ho') p.2.1 (λid _ _=>by rw[p.1]) hk
  simp only[zib,wpListIn];split
  ·rename_i hw;refine(bf (k1 hw) λu w' ⟨S',γ',β',m1,m2,m3⟩=>?_);exact xq hE l l2 m1 (frn m3) hd' h2 λS2 γ2 β2 a2 w2 n1 n2 n3 n4=>hk S2 γ2 β2 a2 w2 n1 (m2.trans n2 p.2.2.2.2.1 p.2.2.2.2.2.1) ((Sm.put s o.dst v).trans n3) n4
  ·rename_i hw;obtain⟨m1,m2⟩:=k2 (by simpa using hw)
   exact⟨λ_ _=>trivial,xq hE l l2 m1 (frn λid _=>⟨rfl,rfl⟩) hd' h2 λS2 γ2 β2 a2 w2 n1 n2 n3 n4=>hk S2 γ2 β2 a2 w2 n1 (m2.trans n2 p.2.2.2.2.1 p.2.2.2.2.2.1) ((Sm.put s o.dst v).trans n3) n4⟩
theorem kI{c:Cx}:∀ (l:List AV) (caps:List Value),l.all eZ=true->mA c l caps->l.length=caps.length/\∀ (i:Nat) (x:AV) (v:Value),l[i]?=some x->caps[i]?=some v->AR c x v
 | [],caps,_,h=>by simp_all [mA]
 | y::l,caps,hp,h=>by
  simp only[mA] at h;obtain⟨v0,c2,rfl,h1,h2⟩:=h;simp only[zFb,zaa] at hp;obtain⟨k1,k2⟩:=kI l c2 hp.2 h2;refine⟨by simp[k1],λi x v hx hv=>?_⟩
  cases i with
  | zero=>
   simp at hx hv;subst hx;subst hv;cases y<;>simp only[eZ] at hp<;>first|(cases hp.1;done)|skip
   simp only[AC] at h1;obtain⟨b,off,e,h3⟩:=h1;simp only[List.cons.injEq,and_true] at e;grind [AR,AC,Value.cells]
  | succ i=>simp only[zdb] at hx hv;exact k2 i x v hx hv
def Lw(hE:EnvOk P E)(h:Rp w0 S γ β s a w){o:Oper}{c:Call}(hop:o.op=.call c)(hlk:∀ t∈s.lkS,o.dst≠some t){R:Type}{K:St->Option R}{r:R}{an:Ann}
  (hev:((pA s c).bind λq=>(E.inl q.1).bind λg=>g an R s q.2 λv s'=>K (s'.put o.dst v))=some r) :
  dH P o a w λu w'=>∃ s' S' γ' β',K s'=some r/\Rp w0 S' γ' β' s' (a.put o.dst u) w'/\Fm s S γ a w S' γ' (a.put o.dst u) w'/\Sk s s':=by
 obtain⟨⟨f,avs⟩,h1,hev1⟩:=bind_some_inv hev;clear hev;obtain⟨g,h2,hev2⟩:=bind_some_inv hev1;clear hev1;simp only at h2 hev2;obtain⟨⟨fn,f1,f2,f3⟩,hI⟩:=hE.inl f g h2;have key:∃ vs:List Value,avs.length=vs.length/\(∀ (i:Nat) (x:AV) (v:Value),avs[i]?=some x->vs[i]?=some v->AR ⟨w,S,γ,β,s.ob,s.dead⟩ x v)/\(execOp a.eval o).run P w=.ok (.enter f vs.toArray) w:=by
  clear hev2 hI h2;have hb:¬ fn.body=none:=by grind
  have f2' : ¬ fn.name = "runtime.NumGoroutine" := by simpa using f2
  obtain⟨dst,op,ty,pos,after,guard⟩:=o;simp only at hop;subst hop;obtain⟨callee,args,argTypes⟩:=c;simp only[pA] at h1;split at h1<;>first|(cases h1;done)|skip
  ·rename_i f';simp only[zca,Prod.mk.injEq] at h1;obtain⟨rfl,rfl⟩:=h1;refine⟨args.toList.map a.eval,by simp,jZ h _,?_⟩
   have hm:args.map a.eval=(args.toList.map a.eval).toArray:=zcc (by simp)
   simp[execOp,resolve,Act.eval,Deferred.ofValue,invoke,callFunc,f1,f2',hb,hm]
  ·rename_i t;split at h1<;>first|(cases h1;done)|skip
   rename_i f' l ht;split at h1<;>first|(cases h1;done)|skip
   rename_i hp;simp only[zca,Prod.mk.injEq] at h1;obtain⟨rfl,rfl⟩:=h1;have hA:=aN h (.tmp t);have hA':AR ⟨w,S,γ,β,s.ob,s.dead⟩ (.clo f' l) (a.eval (.tmp t)):=by rw[<-ht];exact hA
   simp only[AR,AC] at hA';obtain⟨na,caps,hcs,hcap⟩:=hA';have hv:=am na hcs;obtain⟨k1,k2⟩:=kI l caps hp hcap;refine⟨args.toList.map a.eval++caps,by simp[k1],λi x v hx hv'=>?_,?_⟩
   ·rcases zna i (args.toList.map s.opA).length with hi|hi
    ·rw[zeb hi] at hx;rw[zeb (by simpa using hi)] at hv'
     exact jZ h _ i x v hx hv'
    ·grind
   ·have hm:args.map a.eval=(args.toList.map a.eval).toArray:=zcc (by simp)
    simp[execOp,resolve,hv,Deferred.ofValue,invoke,callFunc,f1,f2',hb,hm]
 obtain⟨vs,k1,k2,k3⟩:=key;have hc:=hI an R w0 S γ β s a w avs vs _ r h k1 k2 hev2;unfold dH;rw[k3];refine hc.mono λe w' ⟨v,y,s',S',γ',β',e1,e2,e3,e4,e5,e6⟩=>⟨v,e1,s'.put o.dst y,S',γ',β',e2,e3.put e4 o.dst,⟨e5.sub,e5.cell,λt ht=>bM (hlk t ht),e5.objs,e5.sz,e5.gam,jW.same bA e5.dfs.1⟩,?_⟩;have p:=St.put_fields s' o.dst y;exact⟨p.2.2.2.2.1.trans e6.lkS,p.2.2.2.2.2.1.trans e6.lkO,p.2.2.2.1.trans e6.nt⟩
def wF(hE:EnvOk P E)(h:Rp w0 S γ β s a w){o:Oper}(hlk:∀ t∈s.lkS,o.dst≠some t){R:Type}{K:St->Option R}{r:R}{an:Ann}
  (hev:Pa E an s o (λv s'=>K (s'.put o.dst v))=some r) {next:Act->World->Prop} {Q:Exit->Act->World->Prop}
  (hk:∀ u s' S' γ' β' w',K s'=some r->Rp w0 S' γ' β' s' (a.put o.dst u) w'->Fm s S γ a w S' γ' (a.put o.dst u) w'->Sk s s'->next (a.put o.dst u) w'):o.wpIn (FW ro) nn P a w next Q:=by
 unfold Pa at hev;split at hev<;>first|(cases hev;done)|skip
 rename_i c hop;split at hev
 ·rename_i q hy;obtain⟨id,i,avs⟩:=q;refine GR hE h hop hy hev λy v s' S' γ' β' w' m0 m1 m2 m3 m4=>?_;have p:=St.put_fields s' o.dst y;exact hk v _ S' γ' β' w' m0 (m1.put m2 o.dst) ⟨m3.sub,m3.cell,λt ht=>bM (hlk t ht),m3.objs,m3.sz,m3.gam,jW.same bA m3.dfs.1⟩ ⟨p.2.2.2.2.1.trans m4.lkS,p.2.2.2.2.2.1.trans m4.lkO,p.2.2.2.1.trans m4.nt⟩
 ·refine bf (Lw hE h hop hlk hev) λu w' ⟨s',S',γ',β',m0,m1,m2,m3⟩=>?_;grind
def sB(hE:EnvOk P E){Q:Exit->Act->World->Prop}(hops:(ops.toList.all λo=>match o.op with|.store ..=>o.dst.isNone|_=>true)=true):∀ (N:Nat) (R:Type) (l:List (Nat×Oper)) {S:Nat->Nat->Prop} {γ:Nat->Option Nat} {β:Nat->Option (Nat×Nat)} {s:St} {a:Act} {w:World} (k:St->Option R) (r:R) (an:Ann),
  Rp w0 S γ β s a w->CD E s γ β (l.map Prod.snd)->(∀ (A B:List Oper) o o',l.map Prod.snd=A++o::B->o'∈B->∀ d,o'.dst=some d->o.dst≠some d)->(∀ p∈l,p.2∈ops.toList)->dS E N R ops an l s k=some r ->
  (∀ s' S' γ' β' a' w',Rp w0 S' γ' β' s' a' w'->Fm s S γ a w S' γ' a' w'->Sk s s'->k s'=some r->Q .normal a' w')->wpListIn (FW ro) nn P ops Q (l.map Prod.snd) a w:=by
 intro N
 induction N with
 | zero=>intro R l S γ β s a w k r an _ _ _ _ h;simp[dS] at h
 | succ N ih=>
  intro R l S γ β s a w k r an h hf hd hmem hev hQ;cases l with
  | nil=>
   simp only[dS] at hev;exact hQ s S γ β a w h (Fm.refl _ _ _ _ _) (Sk.refl s) hev
  | cons p l=>
   obtain⟨i,o⟩:=p;have hfo:Fr E s γ β o:=hf o (by simp)
   have hst:∀ T x y,o.op=.store T x y->o.dst=none:=λT x y e=>by
    have:=zka.1 hops o (hmem (i,o) (by simp))
    rw[e] at this;simpa using this
   have hdo:∀ o'∈l.map Prod.snd,∀ d,o'.dst=some d->o.dst≠some d:=λo' ho'=>hd [] (l.map Prod.snd) o o' rfl ho';have hd':∀ (A B:List Oper) x x',l.map Prod.snd=A++x::B->x'∈B->∀ d,x'.dst=some d->x.dst≠some d:=λA B x x' e hx=>hd (o::A) B x x' (by simp[e]) hx
   have hmem':∀ p∈l,p.2∈ops.toList:=λp hp=>hmem p (by simp[hp])
   have run:¬ jF s o=true->Ap E an l s o (λs'=>dS E N R ops (ru E o an) l s' k)=some r->o.wpIn (FW ro) nn P a w (wpListIn (FW ro) nn P ops Q (l.map Prod.snd)) Q:=by
    intro hlk he;have hlk':∀ t∈s.lkS,o.dst≠some t:=λt ht e=>hlk (by simp[jF,e];exact ht)
    unfold Ap at he;split at he
    ·split at he;rename_i hcr;refine wF (K:=λs1=>dS E N R ops (ru E o an) l s1 k) hE h hlk' he λu s' S' γ' β' w' m0 m1 m2 m3=>?_;have frn:CD E s' γ' β' (l.map Prod.snd):=λo' ho'=>by
      obtain⟨p,hp,rfl⟩:=z7a.1 ho';have:=zka.1 hcr p hp;exact Bh (by simpa using this)
     exact ih R l k r _ m1 frn hd' hmem' m0 λs2 S2 γ2 β2 a2 w2 n1 n2 n3 n4=>hQ s2 S2 γ2 β2 a2 w2 n1 (m2.trans n2 m3.lkS m3.lkO) (m3.trans n3) n4;split at he<;>first|(cases he;done)|skip
     rename_i hna;refine wF (K:=λs1=>dS E N R ops (ru E o an) l (wj s1) k) hE h hlk' he λu s' S' γ' β' w' m0 m1 m2 m3=>?_;exact ih R l k r _ m1.later (Bu m1 hna λo' ho'=>hf o' (by simp only[z4a,zva];exact .inr ho')) hd' hmem' m0 λs2 S2 γ2 β2 a2 w2 n1 n2 n3 n4=>hQ s2 S2 γ2 β2 a2 w2 n1 (m2.trans n2 m3.lkS m3.lkO) (m3.trans ⟨n3.lkS,n3.lkO,n3.nt⟩) n4
    obtain⟨s',h1,h2⟩:=wE hE h hfo (λT t _ ht=>hE.flat T t ht) hlk' hst he;obtain⟨f1,f2,f3,f4,f5,f6⟩:=h2;refine bf f6 λu w' ⟨S',γ',β',m1,m2,m3⟩=>?_;exact ih R l k r _ m1 (λo' ho'=>(hf o' (by simp only[z4a,zva];exact .inr ho')).keep (hdo o' ho') f3 f5 m3) hd' hmem' h1 λs2 S2 γ2 β2 a2 w2 n1 n2 n3 n4=>hQ s2 S2 γ2 β2 a2 w2 n1 (m2.trans n2 f1 f2) (Sk.trans ⟨f1,f2,f4⟩ n3) n4
   obtain⟨w1,w2,w3⟩:=pX (ops:=ops) (o:=o) h;cases hg:o.guard with
   | some jw=>
    obtain⟨j,want⟩:=jw;simp only[dS,hg] at hev;split at hev<;>first|(cases hev;done)|skip
    rename_i g hgd;split at hev<;>first|(cases hev;done)|skip
    rename_i hlk;have hlk':∀ t∈s.lkS,o.dst≠some t:=λt ht e=>hlk (by simp[jF,e];exact ht)
    have p:=St.put_fields s o.dst .gone;have alt:(Region.wanted o (yielded ops a.tmps)=true/\(Ap E an l s o λs'=>dS E N R ops (ru E o an) l s' k)=some r)\/(Region.wanted o (yielded ops a.tmps)=false/\dS E N R ops (ru E o an) l (s.put o.dst .gone) k=some r):=by
     by_cases hgo:s.tm g=.gone
     ·grind [eW]
     rw[eY hgo] at hev;obtain⟨c,h1,h2⟩:=bind_some_inv hev;replace h2:=kZ (A:=λs=>Ap E an l s o λs'=>dS E N R ops (ru E o an) l s' k) (B:=λs=>dS E N R ops (ru E o an) l (s.put o.dst .gone) k) h1 h2;all_goals grind
    rcases alt with⟨hw,h2⟩|⟨hw,h2⟩
    ·simp only[z4a,wpListIn,hw,if_true];exact run hlk h2
    ·simp only[z4a,wpListIn,hw,zwa,if_false];refine⟨λ_ _=>trivial,?_⟩;exact ih R l k r _ (h.put (v:=.gone) (val:=undef) (by simp[AR]) o.dst) (λo' ho'=>(hf o' (by simp only[z4a,zva];exact .inr ho')).keep (hdo o' ho') p.2.1 (λid _ _=>by rw[p.1]) λid _=>⟨rfl,rfl⟩) hd' hmem' h2 λs2 S2 γ2 β2 a2 w2 n1 n2 n3 n4=>hQ s2 S2 γ2 β2 a2 w2 n1 (Fm.trans (s1:=s.put o.dst .gone) ⟨λ_ _ hb=>hb,λ_ _ _=>rfl,λt ht=>bM (hlk' t ht),λ_ _ _ hb=>⟨hb,iN.refl _ _⟩,zha _,λ_ _ hb=>hb,jW.same bA (cJ.refl _)⟩ n2 p.2.2.2.2.1 p.2.2.2.2.2.1) ((Sm.put s o.dst .gone).sk.trans n3) n4
   | none=>
    by_cases hgu:lz E s i o l=true
    ·obtain⟨seg,jj,pk,l'',s5,s3,e1,q1,q2,q3,q4,q5,q6⟩:=IY hg hgu hev;subst e1;have el:((i,o)::(seg++(jj,pk)::l'')).map Prod.snd=(o::(seg.map Prod.snd++[pk]))++l''.map Prod.snd:=by simp
     rw[el] at hf hd ⊢;refine xq hE _ _ h hf hd q4 λS2 γ2 β2 a2 w2 n1 n2 n3 n4=>?_;refine ih R l'' k r an (n1.wk q5) (λo' ho'=>?_) (λA B x x' e hx=>hd ((o::(seg.map Prod.snd++[pk]))++A) B x x' (by rw[e];simp) hx) (λp hp=>hmem p (by simp[hp])) q6 λs2 S3 γ3 β3 a3 w3 m1 m2 m3 m4=>hQ s2 S3 γ3 β3 a3 w3 m1 (n2.trans m2 (q5.lkS.trans n3.lkS) (q5.lkO.trans n3.lkO)) ((n3.trans (Sm.wk q5)).sk.trans m3) m4
     have:=n4 o' ho';intro hc d hd2;obtain⟨r1,r2,r3,r4⟩:=this hc d hd2;rw[q5.base_eq,q5.ob];exact⟨r1,r2,r3,r4⟩
    ·have hgu':lz E s i o l=false:=by simpa using hgu
     simp only[dS,hg,hgu',zwa,if_false] at hev;split at hev<;>first|(cases hev;done)|skip
     rename_i hlk;simp only[z4a,wpListIn,w1 hg,if_true];exact run hlk hev
end
end Sy
end
noncomputable section
namespace Sy
open Go
def lW{s:St}{d:Option Nat}{v:AV}{x:Operand}(h:∀ t,d=some t->x≠.tmp t):(s.put d v).opA x=s.opA x:=by
 cases x with
 | tmp t=>
  cases d with
  | none=>rfl
  | some d=>
   have hne:t≠d:=λe=>h d rfl (by rw[e])
   all_goals grind [St.opA,St.put]
 | const v=>rfl
 | global g=>rfl
 | func f=>rfl
section
variable{E:Env}{s s':St}
theorem kh(hob:s'.ob=s.ob)(ty:Nat->Option Ty):∀ (l:List (Nat×Operand)),(∀ p∈l,s'.opA p.2=s.opA p.2)->partsD s'.ob s' ty l=partsD s.ob s ty l
 | [],_=>rfl
 | (i,x)::l,h=>by
  have ih:=kh hob ty l (λp hp=>h p (by simp[hp]))
  simp_all [partsD,ih]
theorem nY(ts:List Ty):∀ (l:List (Nat×Operand)),(∀ p∈l,s'.opA p.2=s.opA p.2)->l.all (fk s' ts)=l.all (fk s ts)
 | [],_=>rfl
 | p::l,h=>by
  simp only[zFb,nY ts l (λq hq=>h q (by simp[hq])),fk,h p (by simp)]
def Ax:∀ (l:List (Nat×Operand)),(∀ p∈l,s'.opA p.2=s.opA p.2)->(l.map λp=>(p.1,s'.opA p.2))=l.map λp=>(p.1,s.opA p.2):=λl h=>
 zec λp hp=>by rw[h p hp]
def ls{o:Oper}(hob:s'.ob=s.ob)(hf:s'.fresh=s.fresh)(h:∀ x∈o.op.operands,s'.opA x=s.opA x):qv E s' o some=qv E s o some:=by
 have hb:s'.base=s.base:=by simp only[St.base,hf]
 obtain⟨dst,op,ty,pos,after,guard⟩:=o;have parts:∀ ps:Array (Nat×Operand),(∀ x∈(ps.toList.map Prod.snd).toArray,s'.opA x=s.opA x)->∀ p∈ps.toList,s'.opA p.2=s.opA p.2:=λps hp p hm=>hp p.2 (by rw[List.mem_toArray];exact zWb hm)
 cases op
 case move x=>simp only[qv,h x (by simp[Op.operands])]
 case assign x=>simp only[qv,h x (by simp[Op.operands])]
 case pick c x y=>simp only[qv,h c (by simp[Op.operands]),h x (by simp[Op.operands]),h y (by simp[Op.operands])]
 case alloc T=>simp only[qv,hb]
 case build T ps=>
  have hp:=parts ps h;simp only[qv,kh hob _ _ hp,nY _ _ hp,Ax _ hp]
 case buildSlice T n ps=>
  have hp:=parts ps h;simp only[qv,kh hob _ _ hp,hb]
 case load T x=>simp only[qv,h x (by simp[Op.operands]),hob]
 case lookup T x i c=>simp only[qv,h x (by simp[Op.operands]),h i (by simp[Op.operands]),hob]
 case nilCheck x=>simp only[qv,h x (by simp[Op.operands])]
 case binOp op T x y T'=>simp only[qv,h x (by simp[Op.operands]),h y (by simp[Op.operands])]
 case unOp op T x=>simp only[qv,h x (by simp[Op.operands])]
 case convert U T x=>simp only[qv,h x (by simp[Op.operands])]
 case makeFunc fn x y=>
  have hy:∀ z∈y.toList,s'.opA z=s.opA z:=λz hz=>h z (by simp only[Op.operands,Array.mem_append];exact .inr (by simpa using hz))
  have e1:(y.toList.all λz=>eZ (s'.opA z))=y.toList.all λz=>eZ (s.opA z):=by
   grind
  have e2:y.toList.map s'.opA=y.toList.map s.opA:=zec hy;simp only[qv,e1,e2]
 case slice T x lo hi mx=>
  have e0:=h x (by simp[Op.operands])
  cases mx with
  | some m=>simp only[qv]
  | none=>
   cases lo with
   | none=>
    cases hi with
    | none=>simp only[qv,e0,hob]
    | some j=>simp only[qv,e0,hob,h j (by simp[Op.operands])]
   | some i=>
    cases hi with
    | none=>simp only[qv,e0,hob,h i (by simp[Op.operands])]
    | some j=>simp only[qv,e0,hob,h i (by simp[Op.operands]),h j (by simp[Op.operands])]
 case sliceToArrayPointer T x=>simp only[qv,h x (by simp[Op.operands]),hob]
 case fieldAddr T x f=>simp only[qv,h x (by simp[Op.operands])]
 case field T x f=>simp only[qv,h x (by simp[Op.operands])]
 case indexAddr T x i=>simp only[qv,h x (by simp[Op.operands]),h i (by simp[Op.operands]),hob]
 case index T x i=>simp only[qv,h x (by simp[Op.operands]),h i (by simp[Op.operands])]
 case extract x i=>simp only[qv,h x (by simp[Op.operands])]
 case call c=>
  obtain⟨callee,args,argTypes⟩:=c;have ha:∀ z∈args.toList,s'.opA z=s.opA z:=λz hz=>h z (by simp only[Op.operands,Call.operands,Array.mem_append];exact .inr (by simpa using hz))
  have e2:args.toList.map s'.opA=args.toList.map s.opA:=zec ha;cases callee with
  | invoke r m=>rfl
  | value f=>
   cases f with
   | tmp t=>
    have e3:s'.tm t=s.tm t:=h (.tmp t) (by simp[Op.operands,Call.operands])
    simp only[qv,e2,e3,hob]
   | func f=>simp only[qv,e2,hob,hb]
   | const v=>rfl
   | global g=>rfl
  | builtin b=>
   cases b<;>first|rfl|skip
   case len=>
    simp only[qv];cases hT:argTypes[0]? with
    | none=>rfl
    | some T=>
     cases hx:args[0]? with
     | none=>rfl
     | some x=>
      have:=ha x (zJb.2 (z5b hx));simp only[zba,hob];all_goals grind
   case min=>
    simp only[qv];all_goals grind
   case max=>
    simp only[qv];all_goals grind
 all_goals rfl
def to{s:St}{d:Option Nat}{v:AV}{t:Nat}(h:d≠some t):(s.put d v).tm t=s.tm t:=by
 have:=lW (s:=s) (d:=d) (v:=v) (x:=.tmp t) (λu hu e=>h (by cases e;exact hu))
 exact this
def Cy{ops:Array Oper}{o:Oper}{d:Option Nat}{v:AV}(h:∀ t,d=some t->t ∉ o.looksAt ops):val E ops (s.put d v) o=val E ops s o:=by
 obtain⟨p1,p2,p3,p4,p5,p6,p7⟩:=St.put_fields s d v;have e1:jF (s.put d v) o=jF s o:=by simp only[jF,p5]
 have e2:qv E (s.put d v) o some=qv E s o some:=ls p1 p2 λx hx=>lW λt ht e=>h t ht (by
  subst e;exact List.mem_append_left _ (zxc.2 ⟨.tmp t,by simpa using hx,rfl⟩))
 unfold val;rw[e1,e2];cases hg:o.guard with
 | none=>rfl
 | some p=>
  obtain⟨j,want⟩:=p;simp only;cases hgd:(ops[j]?).bind (·.dst) with
  | none=>rfl
  | some g=>
   have e3:(s.put d v).tm g=s.tm g:=to λe=>h g e (by
    unfold Oper.looksAt;rw[hg];exact zQa _ (by simp[hgd]))
   simp_all
def zl{s:St}{x y:Option Nat}(v u:AV)(h:∀ d,x=some d->y≠some d):(s.put x v).put y u=(s.put y u).put x v:=by
 cases x with
 | none=>rfl
 | some d=>
  cases y with
  | none=>rfl
  | some e=>
   have hne:d≠e:=λhe=>h d rfl (he ▸ rfl);by_cases h1:d<s.nt
   ·by_cases h2:e<s.nt
    ·simp only[St.put,h1,h2,if_true];all_goals grind
    ·grind [St.put]
   ·grind [St.put]
end
end Sy
end
noncomputable section
namespace Sy
open Go
variable{ro:Option Nat}{nn:Nat}
section
variable{E:Env}{ops:Array Oper}{md:Region.Mode}
def zF(E:Env)(ops:Array Oper)(i:Nat)(K:St->Prop)(s:St):Prop:=
 match ops[i]? with
 | none=>K s
 | some o=>∃ v,val E ops s o=some v/\K (s.put o.dst v)
def C4(E:Env)(md:Region.Mode)(ops:Array Oper)(n:Nat)(L:Array Bool->St->Prop):Nat->Array Bool->St->Prop
 | 0,listed,s=>L listed s
 | f+1,listed,s=>Region.ready md ops listed≠[]/\∀ i∈Region.ready md ops listed,i<n/\zF E ops i (C4 E md ops n L f (listed.setIfInBounds i true)) s
def kM(md:Region.Mode)(ops:Array Oper)(n:Nat):Prop:=∀ listed i,HeadInv md ops n listed->i<n->listed.getD i true=false->∀ t,n<=t->t ∉ Region.ready md ops listed
def sM{n i:Nat}{oi:Oper}{v:AV}{L:Array Bool->St->Prop}(hi:ops[i]?=some oi)(hW:kM md ops n)(hin:i<n)
  (hdone:∀ listed s,L listed s->∀ j∈Region.ready md ops listed,n<=j) :
  ∀ (f:Nat) (listed:Array Bool) (s:St),HeadInv md ops n listed ->
   (∀ j oj,j<n->ops[j]?=some oj->j≠i->listed.getD j true=false->(∀ e∈oj.after,Region.binds md e=true->e.on≠i)->oi.apart ops oj=true) ->
   i∈Region.ready md ops listed->val E ops s oi=some v ->
   C4 E md ops n L f (listed.setIfInBounds i true) (s.put oi.dst v)->C4 E md ops n L (f+1) listed s:=by
 intro f
 induction f with
 | zero=>
  intro listed s inv _ hr hy H;have hun:=(mem_ready.1 hr).1;refine⟨λh=>(by rw[h] at hr;cases hr),λj hj=>?_⟩
  have hjn:j<n:=by
   rcases zna j n with h|h
   ·exact h
   ·exact absurd hj (hW _ _ inv hin hun j h)
  refine⟨hjn,?_⟩;by_cases hji:j=i
  ·simp_all [zF]
  ·have:=hdone _ _ H j (ready_mono hj hji);omega
 | succ f ih=>
  intro listed s inv hfree hr hy H;have hun:=(mem_ready.1 hr).1;refine⟨λh=>(by rw[h] at hr;cases hr),λj hj=>?_⟩
  have hjn:j<n:=by
   rcases zna j n with h|h
   ·exact h
   ·exact absurd hj (hW _ _ inv hin hun j h)
  refine⟨hjn,?_⟩;by_cases hji:j=i
  ·simp_all [zF]
  ·have h1:=(H.2 j (ready_mono hj hji)).2;obtain⟨hjun,oj,hoj,hall⟩:=mem_ready.1 hj;have hnot:∀ e∈oj.after,Region.binds md e=true->e.on≠i:=λe he hb heq=>by
    grind
   obtain⟨a1,a2,a3⟩:=Oper.apart_spec (hfree j oj hjn hoj hji hjun hnot);unfold zF at h1 ⊢;rw[hoj] at h1 ⊢;obtain⟨u,k1,k2⟩:=h1;rw[Cy a1] at k1;refine⟨u,k1,ih (listed.setIfInBounds j true) (s.put oj.dst u) (inv.set hj hjn) (λk ok hkn hk hki hun hno=>?_) (ready_mono hr (Ne.symm hji)) ?_ ?_⟩
   ·refine hfree k ok hkn hk hki ?_ hno;by_cases hjk:j=k
    ·simp_all
    ·simp_all
   ·rw[Cy a3];exact hy
   ·rw[Array.setIfInBounds_comm _ _ hji,zl u v (λd hd he=>a2 d he hd)];exact k2
theorem yz{n g:Nat}{Lq:St->Prop}(hW:kM md ops n) :
  ∀ (l:List Oper) (k:Nat) (listed:Array Bool) (s s':St),(∀ j,j<l.length->l[j]?=ops[k+j]?)->k+l.length=n->HeadInv md ops n listed ->
  Region.lexHead md ops g l.length k listed=true->seqV E ops l s=some s'->Lq s' ->
  C4 E md ops n (λlisted' s'=>Region.seqB md ops g n listed'=true/\Lq s') l.length listed s
 | [],k,listed,s,s',_,hk,_,hB,h,hL=>by
  have:k=n:=by simpa using hk
  subst this;simp only[seqV,zca] at h;subst h;exact⟨by simpa [Region.lexHead] using hB,hL⟩
 | o::l,k,listed,s,s',hl,hk,inv,hB,h,hL=>by
  have h0:ops[k]?=some o:=by simpa using(hl 0 (by simp)).symm
  simp only[zza,Region.lexHead,zaa] at hB;obtain⟨⟨hr,hf⟩,hB'⟩:=hB;have hkn:k<n:=by grind
  have hr':k∈Region.ready md ops listed:=by simpa using hr
  simp only[seqV] at h;obtain⟨v,h1,h2⟩:=bind_some_inv h;exact sM h0 hW hkn (λlisted' s' hL=>seqB_ready hL.1) l.length listed s inv (λj oj _=>Region.free_spec h0 hf j oj) hr' h1
   (yz hW l (k+1) _ _ s' (λj hj=>by have:=hl (j+1) (by simp;omega);simpa [zwb,zrc 1 j] using this) (by simp only[zza] at hk;omega) (inv.set hr' hkn) hB' h2 hL)
end
section
variable{P:Program}{E:Env}{w0:Root}{ops:Array Oper}
theorem gd(hE:EnvOk P E){md:Region.Mode}{n g:Nat}{L:Array Bool->St->Prop}{Q:Exit->Act->World->Prop}{s0:St}{S0:Nat->Nat->Prop}{γ0:Nat->Option Nat}{a0:Act}{w1:World}
  (hd:∀ (i j:Nat) (oi oj:Oper),i≠j->ops[i]?=some oi->ops[j]?=some oj->∀ d,oj.dst=some d->oi.dst≠some d)
  (hL:∀ listed s S γ β a w,Rp w0 S γ β s a w->Fm s0 S0 γ0 a0 w1 S γ a w->Sm s0 s->(∀ j oj,ops[j]?=some oj->listed.getD j true=false->Fr E s γ β oj)->L listed s->wpAnyIn (FW ro) nn P md ops Q g listed a w) :
  ∀ (f:Nat) (listed:Array Bool) (s:St) (S:Nat->Nat->Prop) (γ:Nat->Option Nat) (β:Nat->Option (Nat×Nat)) (a:Act) (w:World),Rp w0 S γ β s a w->Fm s0 S0 γ0 a0 w1 S γ a w->Sm s0 s ->
   (∀ j oj,ops[j]?=some oj->listed.getD j true=false->Fr E s γ β oj)->C4 E md ops n L f listed s->wpAnyIn (FW ro) nn P md ops Q (f+g) listed a w
 | 0,listed,s,S,γ,β,a,w,h,hF,hS,hfr,hh=>by rw[z6a];exact hL _ _ _ _ _ _ _ h hF hS hfr hh
 | f+1,listed,s,S,γ,β,a,w,h,hF,hS,hfr,hh=>by
  rw[show f+1+g=(f+g)+1 by omega]
  refine⟨λh0=>absurd h0 hh.1,λi hi=>?_⟩;obtain⟨_,hst⟩:=hh.2 i hi;have hun:=(mem_ready.1 hi).1;unfold zF at hst;unfold wpOpIn;cases ho:ops[i]? with
  | none=>
   obtain⟨_,o,ho',_⟩:=mem_ready.1 hi;rw[ho] at ho';cases ho'
  | some o=>
   rw[ho] at hst;simp only at hst ⊢;obtain⟨v,h1,h2⟩:=hst;obtain⟨k1,k2⟩:=xB hE h (hfr i o ho hun) h1;have p:=St.put_fields s o.dst v;have frn:∀ {γ':Nat->Option Nat} {β':Nat->Option (Nat×Nat)},(∀ id,o.dst≠some (id-s.base)\/id<s.base->γ' id=γ id/\β' id=β id)->∀ j oj,ops[j]?=some oj->(listed.setIfInBounds i true).getD j true=false->Fr E (s.put o.dst v) γ' β' oj:=λhk j oj hj hu=>by
    by_cases hij:i=j
    ·subst hij;exfalso;rcases zna i listed.size with hlt|hge
     ·simp[Array.getD,hlt] at hu
     ·simp[Array.getD,hge,zwc.2 hge] at hu
    ·rw[getD_set_ne true hij] at hu;exact(hfr j oj hj hu).keep (λd hdj=>hd i j o oj hij ho hj d hdj) p.2.1 (λid _ _=>by rw[p.1]) hk
   split
   ·rename_i hw;refine(bf (k1 hw) λu w' ⟨S',γ',β',m1,m2,m3⟩=>?_);exact gd hE hd hL f _ _ S' γ' β' _ _ m1 (hF.trans m2 hS.lkS hS.lkO) (hS.trans (Sm.put s o.dst v)) (frn m3) h2
   ·rename_i hw;obtain⟨m1,m2⟩:=k2 (by simpa using hw)
    refine⟨λ_ _=>trivial,?_⟩;exact gd hE hd hL f _ _ S γ β _ _ m1 (hF.trans m2 hS.lkS hS.lkO) (hS.trans (Sm.put s o.dst v)) (frn λid _=>⟨rfl,rfl⟩) h2
theorem tc:∀ {l:List Nat},cT l=true->∀ A B x y,l=A++x::B->y∈B->y≠x
 | [],_,A,B,x,y,e,_=>by simp at e
 | a::l,h,A,B,x,y,e,hy=>by
  simp only[cT,zaa,zFa] at h;cases A with
  | nil=>
   grind
  | cons a' A=>
   simp only[zib,List.cons.injEq] at e;exact tc h.2 A B x y e.2 hy
def dL{l:List Oper}(h:cT (l.filterMap (·.dst))=true)(A B:List Oper)(o o':Oper)(e:l=A++o::B)(ho:o'∈B)(d:Nat)(hd:o'.dst=some d):o.dst≠some d:=by
 intro hod;subst e;have e2:(A++o::B).filterMap (·.dst)=A.filterMap (·.dst)++d::B.filterMap (·.dst):=by
  simp_all
 exact tc h _ _ d d e2 (zxc.2 ⟨o',ho,hd⟩) rfl
def gj{l:List Oper}(h:cT (l.filterMap (·.dst))=true){i j:Nat}{oi oj:Oper}(hij:i≠j)(hi:l[i]?=some oi)(hj:l[j]?=some oj)(d:Nat)(hd:oj.dst=some d):oi.dst≠some d:=by
 obtain⟨hi1,hi2⟩:=zja.1 hi;obtain⟨hj1,hj2⟩:=zja.1 hj;rcases zna i j with hlt|hge
 ·refine dL h (l.take i) (l.drop (i+1)) oi oj ?_ ?_ d hd
  ·grind [List.drop_eq_getElem_cons,List.take_append_drop]
  ·refine z0a (i:=j-(i+1)) ?_;grind
 ·intro hod;refine dL h (l.take j) (l.drop (j+1)) oj oi ?_ ?_ d hod hd
  ·grind [List.drop_eq_getElem_cons,List.take_append_drop]
  ·refine z0a (i:=i-(j+1)) ?_;grind
theorem aV:∀ (l:List Oper) (i:Nat),(aJ i l).map Prod.snd=l
 | [],_=>rfl
 | o::l,i=>by simp only[aJ,z4a,aV l (i+1)]
def iu{l:List Oper}{i:Nat}{p:Nat×Oper}(h:p∈aJ i l):p.2∈l:=by
 have:p.2∈(aJ i l).map Prod.snd:=zWb h
 rwa [aV] at this
theorem gb:∀ (l:List Oper) (i:Nat),(aJ i l).length=l.length
 | [],_=>rfl
 | o::l,i=>by simp only[aJ,zza,gb l (i+1)]
def DB(hE:EnvOk P E){id:Nat}{dr:Bool}{n:Nat}{Q:Exit->Act->World->Prop}{S:Nat->Nat->Prop}{γ:Nat->Option Nat}{β:Nat->Option (Nat×Nat)}{s:St}{a:Act}{w:World}{R:Type}{k:St->Option R}{r:R}{N:Nat}
  (h:Rp w0 S γ β s a w) (hf:CD E s γ β ops.toList) (hm:bL ops.toList=true) (hdr:(!dr||pi E ops n)=true) {an:Ann} (hev:dS E N R ops an (aJ 0 ops.toList) s k=some r)
  (hQ:∀ s' S' γ' β' a' w',Rp w0 S' γ' β' s' a' w'->Fm s S γ a w S' γ' a' w'->Sk s s'->k s'=some r->Q .normal a' w'):(Code.region id ops dr).wpIn (FW ro) nn P Q a w:=by
 simp only[bL,zaa] at hm;obtain⟨⟨hm1,hm2⟩,hm3⟩:=hm;have hstores:(ops.toList.all λo=>match o.op with|.store ..=>o.dst.isNone|_=>true)=true:=hm3
 cases dr with
 | false=>
  refine wpIn_region_list ?_;have:=sB (ro:=ro) (nn:=nn) (ops:=ops) hE hstores N R (aJ 0 ops.toList) k r an h (by rw[aV];exact hf) (by rw[aV];exact λA B o o' e ho d hd=>dL hm1 A B o o' e ho d hd) (λp hp=>iu hp) hev hQ
  rwa [aV] at this
 | true=>
  simp only[zac,znd,pi,zaa] at hdr;obtain⟨⟨⟨⟨⟨d0,d1⟩,d2⟩,d3⟩,d4⟩,d5⟩:=hdr;have hn:n<=ops.size:=by
   simp only[zCb,decide_eq_true_eq,zaa] at d3;rcases d3 with d3|d3
   ·omega
   ·omega
  have hW:kM .any ops n:=by
   intro listed i inv hin hun t ht hr;simp only[zCb,decide_eq_true_eq,zaa] at d3;rcases d3 with d3|⟨⟨d3,d6⟩,d7⟩
   ·obtain⟨_,o,ho,_⟩:=mem_ready.1 hr;have:=(zfa.1 ho).1;omega
   ·exact tail_waits d6 d7 d3 inv _ i rfl hin hun t ht hr
  obtain⟨s',s'',N',q1,q2,q3⟩:=sA N R (aJ 0 ops.toList) s k r n an (by rw[gb,zDb];exact hn) (λp hp=>by
    have hp':p.2∈ops.toList.take n:=by
     have:p.2∈((aJ 0 ops.toList).take n).map Prod.snd:=zWb hp
     rwa [List.map_take,aV] at this
    exact⟨zka.1 d4 _ hp',by simpa using zka.1 d0 _ hp'⟩) (.inl λp hp c x y e=>by
    have hp':p.2∈ops.toList.drop n:=by
     have:p.2∈((aJ 0 ops.toList).drop n).map Prod.snd:=zWb hp
     rwa [z9b,aV] at this
    have:=zka.1 d5 _ hp';simp only[zaa] at this;have h2:=this.2;rw[e] at h2;cases h2) hev
  rw[List.map_take,aV] at q1;refine wpIn_region_any hE.mixed ?_;have hg:∃ os d,w.drawn<=d/\({ w with drawn:=w.drawn+1 }:World)=grown w os d:=⟨[],w.drawn+1,ztc _,by simp[grown]⟩
  obtain⟨os,d,hdr,hg⟩:=hg;obtain⟨g1,g2⟩:=h.grow (os:=os) (d:=d) hdr (S':=S) (λ_ _ hb=>hb) (λ_ _ hb=>.inl hb);rw[hg];have hlen:(ops.toList.take n).length=n:=by simp;omega
  have inv0:HeadInv .any ops n (Array.replicate ops.size false):=
   ⟨by simp,λj oj _ hl=>(by rw[getD_replicate_false] at hl;cases hl),λt _ ht=>getD_in (by simpa using ht) (getD_replicate_false _ _)⟩
  have H:=yz (E:=E) (md:=.any) (g:=ops.size-n) (Lq:=λs=>s=s') hW (ops.toList.take n) 0 (Array.replicate ops.size false) s s' (λj hj=>by
   rw[hlen] at hj;rw[zqb hj,z6a,zya]) (by rw[hlen,z6a]) inv0 (by rw[hlen];exact d2) q1 rfl
  have hdl:(ops.toList.drop n).length=ops.size-n:=by simp
  have:=gd (ro:=ro) (nn:=nn) (Q:=Q) (g:=ops.size-n) hE (s0:=s) (S0:=S) (γ0:=γ) (a0:=a) (w1:=grown w os d) (λi j oi oj hij hi hj d hd=>gj hm1 hij (by rw[zya];exact hi) (by rw[zya];exact hj) d hd)
   (λlisted s2 S2 γ2 β2 a2 w2 m1 m2 m3 m4 m5=>by
    obtain⟨m5,m6⟩:=m5;subst m6;have hseq:=fB (F:=FW ro) (n:=nn) (P:=P) (md:=.any) (ops:=ops) (Q':=Q) (ops.toList.drop n) n listed a2 w2 (λj=>by rw[zfb,zya]) (by rw[hdl];exact m5) ?_
    ·rwa [hdl] at hseq
    have hunl:∀ j oj,ops[j]?=some oj->n<=j->listed.getD j true=false:=by
     intro j oj hj hnj;have key:∀ (g k:Nat) (listed:Array Bool),Region.seqB .any ops g k listed=true->∀ j,k<=j->j<k+g->listed.getD j true=false:=by
      intro g
      induction g with
      | zero=>intro k listed _ j h1 h2;omega
      | succ g ih=>
       intro k listed hB j h1 h2;simp only[Region.seqB,zaa,decide_eq_true_eq] at hB;by_cases hjk:j=k
       ·subst hjk;have:j∈Region.ready .any ops listed:=by rw[hB.1];simp
        exact(mem_ready.1 this).1
       ·have:=ih (k+1) _ hB.2 j (by omega) (by omega)
        rwa [getD_set_ne true (Ne.symm hjk)] at this
     have hjlt:=(zfa.1 hj).1;exact key _ _ _ m5 j hnj (by omega)
    have hsub:∀ o∈ops.toList.drop n,Fr E s'' γ2 β2 o:=λo ho=>by
     obtain⟨i,hi,he⟩:=zRa ho;have hi2:ops[n+i]?=some o:=by
      have:(ops.toList.drop n)[i]?=some o:=by rw[zda hi,he]
      rwa [zfb,zya] at this
     have:=m4 (n+i) o hi2 (hunl _ _ hi2 (by omega))
     intro hc d hd;obtain⟨r1,r2,r3,r4⟩:=this hc d hd;rw[q2.base_eq,q2.ob];exact⟨r1,r2,r3,r4⟩
    have fin:=sB (ro:=ro) (nn:=nn) (ops:=ops) hE (Q:=Q) hstores N' R ((aJ 0 ops.toList).drop n) k r an (m1.wk q2) (by rw[z9b,aV];exact hsub)
     (by
      rw[z9b,aV];intro A B o o' e ho d hd;exact dL hm1 (ops.toList.take n++A) B o o' (by rw[zEa,<-e,zpa]) ho d hd)
     (λp hp=>iu (zIb hp)) q3 (λs3 S3 γ3 β3 a3 w3 n1 n2 n3 n4=>by
      refine hQ s3 S3 γ3 β3 a3 w3 n1 ?_ ((m3.trans (Sm.wk q2)).sk.trans n3) n4;have f0:Fm s S γ a w S γ a (grown w os d):=⟨λ_ _ hb=>hb,g2.cell,λ_ _=>rfl,λid hid b hb=>⟨hb,.inl (ct (h.γn id b hb).2)⟩,by simp,λ_ _ hb=>hb,jW.same rfl cJ.grown⟩
      exact(f0.trans m2 rfl rfl).trans n2 (q2.lkS.trans m3.lkS) (q2.lkO.trans m3.lkO))
    rwa [z9b,aV] at fin)
   (ops.toList.take n).length (Array.replicate ops.size false) s S γ β a (grown w os d) g1 (Fm.refl _ _ _ _ _) (Sm.refl s) (λj oj hj _=>hf oj (zJb.2 (z5b hj))) H
  rw[hlen,show n+(ops.size-n)=ops.size by omega] at this
  exact this
end
end Sy
end
noncomputable section
namespace Sy
open Go
mutual
theorem rD:∀ (a a':AV),AV.same a a'=true->a=a'
 | .ptr t id p,a',h=>by
  cases a'<;>simp only[AV.same,zaa,decide_eq_true_eq] at h<;>first|(cases h;done)|skip
  grind [Ty.eq_of_beq]
 | .mem t id,a',h=>by
  cases a'<;>simp only[AV.same,zaa,decide_eq_true_eq] at h<;>first|(cases h;done)|skip
  grind [Ty.eq_of_beq]
 | .clo f l,a',h=>by
  cases a'<;>simp only[AV.same,zaa,decide_eq_true_eq] at h<;>first|(cases h;done)|skip
  obtain⟨rfl,h1⟩:=h;rw[zy _ _ h1]
 | .map kt vt id,a',h=>by
  cases a'<;>simp only[AV.same,zaa,decide_eq_true_eq] at h<;>first|(cases h;done)|skip
  grind [Ty.eq_of_beq]
 | .yld id,a',h=>by
  cases a'<;>simp only[AV.same,decide_eq_true_eq] at h<;>first|(cases h;done)|skip
  subst h;rfl
 | .d ..,a',h=>by simp[AV.same] at h
 | .own ..,a',h=>by simp[AV.same] at h
 | .nils,a',h=>by simp[AV.same] at h
 | .fptr ..,a',h=>by simp[AV.same] at h
 | .st ..,a',h=>by simp[AV.same] at h
 | .undef,a',h=>by simp[AV.same] at h
theorem zy:∀ (l l':List AV),AV.sames l l'=true->l=l'
 | [],l',h=>by grind [AV.sames]
 | a::l,l',h=>by
  cases l' with
  | nil=>simp[AV.sames] at h
  | cons a' l'=>
   simp only[AV.sames,zaa] at h;rw[rD _ _ h.1,zy _ _ h.2]
end
structure Two(n:Nat)(c c':Cx):Prop where
 w:c'.w=c.w
 S:c'.S=c.S
 γ:∀ id,id<n->c'.γ id=c.γ id
 ob:∀ id,id<n->∀ o',c'.ob id=some o'->∃ o,c.ob id=some o/\(∀ p,dP o' p=dP o p/\bX o' p=bX o p)/\(∀ t l,o=.many t l->∃ l',o'=.many t l'/\l'.length=l.length)/\∀ kt vt l,o=.mp kt vt l->∃ l',o'=.mp kt vt l'
mutual
theorem FP{n:Nat}{c c':Cx}(h:Two n c c'):∀ (a:AV) (cs:List Value),AV.old n a=true->AC c a cs->AC c' a cs
 | .ptr t id p,cs,ho,k=>by
  simp only[AV.old,decide_eq_true_eq] at ho;simp only[AC] at k ⊢;obtain⟨b,off,rfl,k1,k2⟩:=k;refine⟨b,off,rfl,by rw[h.γ id ho];exact k1,λo' ho'=>?_⟩
  obtain⟨o,h1,h2,_⟩:=h.ob id ho o' ho'
  simp_all
 | .mem t id,cs,ho,k=>by
  simp only[AV.old,decide_eq_true_eq] at ho;simp only[AC] at k ⊢;obtain⟨k0,b,k1,k2⟩:=k;refine⟨k0,b,by rw[h.γ id ho];exact k1,λo' ho'=>?_⟩
  obtain⟨o,h1,_,h3,_⟩:=h.ob id ho o' ho';grind
 | .map kt vt id,cs,ho,k=>by
  simp only[AV.old,decide_eq_true_eq] at ho;simp only[AC] at k ⊢;obtain⟨b,e,k1,k2,k3,k4⟩:=k;refine⟨b,e,by rw[h.γ id ho];exact k1,k2,k3,λo' ho'=>?_⟩
  obtain⟨o,h1,_,_,h3⟩:=h.ob id ho o' ho';grind
 | .yld id,cs,ho,k=>by
  simp only[AV.old,decide_eq_true_eq] at ho;simp only[AC] at k ⊢;obtain⟨L,rfl,k1⟩:=k;exact⟨L,rfl,by rw[h.γ id ho];exact k1⟩
 | .clo f l,cs,ho,k=>by
  simp only[AV.old] at ho;simp only[AC] at k ⊢;obtain⟨caps,rfl,k1⟩:=k;exact⟨caps,rfl,Ce h l caps ho k1⟩
 | .d ..,_,ho,_=>by simp[AV.old] at ho
 | .own ..,_,ho,_=>by simp[AV.old] at ho
 | .nils,_,ho,_=>by simp[AV.old] at ho
 | .fptr ..,_,ho,_=>by simp[AV.old] at ho
 | .st ..,_,ho,_=>by simp[AV.old] at ho
 | .undef,_,ho,_=>by simp[AV.old] at ho
theorem Ce{n:Nat}{c c':Cx}(h:Two n c c'):∀ (l:List AV) (cs:List Value),AV.olds n l=true->mA c l cs->mA c' l cs
 | [],cs,_,k=>by simpa only[mA] using k
 | a::l,cs,ho,k=>by
  simp only[AV.olds,zaa] at ho;simp only[mA] at k ⊢;obtain⟨v,c2,rfl,k1,k2⟩:=k;exact⟨v,c2,rfl,FP h a _ ho.1 k1,Ce h l c2 ho.2 k2⟩
end
mutual
def Sh.tkp:Sh->AV->Nat->List (Nat×Nat)
 | .ow _,.own _ v _,j=>[(j,v)]
 | .st _ l,.st _ l',j=>Sh.tkps l l' j
 | _,_,_=>[]
def Sh.tkps:List Sh->List AV->Nat->List (Nat×Nat)
 | h::l,a::l',j=>Sh.tkp h a j++Sh.tkps l l' (j+h.cnt)
 | _,_,_=>[]
end
mutual
theorem xA:∀ (h:Sh) (a:AV) (j:Nat),(Sh.tkp h a j).map Prod.snd=Sh.toks h a
 | .ow _,a,j=>by cases a<;>rfl
 | .st _ l,a,j=>by cases a<;>first|rfl|exact zK l _ j
 | .dv _,a,j=>by cases a<;>rfl
 | .same _,a,j=>by cases a<;>rfl
theorem zK:∀ (l:List Sh) (l':List AV) (j:Nat),(Sh.tkps l l' j).map Prod.snd=Sh.tokss l l'
 | [],l',j=>by cases l'<;>rfl
 | h::l,[],j=>rfl
 | h::l,a::l',j=>by
  simp only[Sh.tkps,Sh.tokss,z3b,xA h a j,zK l l' _]
end
def Pl(l:List (Nat×Nat))(i j:Nat):Prop:=(∀ p∈l,i<=p.1/\p.1<j)/\∀ p∈l,∀ q∈l,p.1=q.1->p=q
def Pl.nil(i j:Nat):Pl [] i j:=⟨λp h=>(by cases h),λp h=>(by cases h)⟩
def Pl.append{l l':List (Nat×Nat)}{i j k:Nat}(h:Pl l i j)(h':Pl l' j k)(h1:i<=j)(h2:j<=k):Pl (l++l') i k:=by
 refine⟨λp hp=>?_,λp hp q hq e=>?_⟩
 ·rcases List.mem_append.1 hp with hp|hp
  ·have:=h.1 p hp;omega
  ·have:=h'.1 p hp;omega
 ·rcases List.mem_append.1 hp with hp|hp<;>rcases List.mem_append.1 hq with hq|hq
  ·exact h.2 p hp q hq e
  ·have:=h.1 p hp;have:=h'.1 q hq;omega
  ·have:=h'.1 p hp;have:=h.1 q hq;omega
  ·exact h'.2 p hp q hq e
mutual
theorem A6:∀ (h:Sh) (a:AV) (j:Nat),Pl (Sh.tkp h a j) j (j+h.cnt)
 | .ow _,a,j=>by
  cases a<;>first
   | exact Pl.nil _ _
   | exact⟨λp hp=>by simp[Sh.tkp] at hp;subst hp;simp[Sh.cnt],λp hp q hq _=>by simp[Sh.tkp] at hp hq;rw[hp,hq]⟩
 | .st _ l,a,j=>by
  cases a<;>first
   | exact Pl.nil _ _
   | (simp only[Sh.tkp,Sh.cnt];exact Cu l _ j)
 | .dv _,a,j=>by cases a<;>exact Pl.nil _ _
 | .same _,a,j=>by cases a<;>exact Pl.nil _ _
theorem Cu:∀ (l:List Sh) (l':List AV) (j:Nat),Pl (Sh.tkps l l' j) j (j+Sh.cnts l)
 | [],l',j=>by cases l'<;>exact Pl.nil _ _
 | h::l,[],j=>Pl.nil _ _
 | h::l,a::l',j=>by
  simp only[Sh.tkps,Sh.cnts];rw[show j+(h.cnt+Sh.cnts l)=j+h.cnt+Sh.cnts l by omega]
  exact(A6 h a j).append (Cu l l' _) (by omega) (by omega)
end
mutual
theorem lM{ob:Nat->Option Ob}{dead:List Nat}:∀ (h:Sh) (a:AV) (x:List D),Sh.dec ob dead h a=some x->x.length=h.cnt
 | .dv t,a,x,e=>by
  have e':((AV.toD ob t a).bind λx=>some [x])=some x:=by cases a<;>exact e
  obtain⟨y,_,h2⟩:=bind_some_inv e';simp only[zca] at h2;subst h2;rfl
 | .ow t,a,x,e=>by
  cases a<;>simp only[Sh.dec] at e<;>first|(cases e;done)|skip
  ·split at e<;>first|(cases e;done)|skip
   simp only[zca] at e;subst e;rfl
  ·simp only[zca] at e;subst e;rfl
 | .same b,a,x,e=>by
  have e':(if AV.same b a then some ([]:List D) else none)=some x:=by cases a<;>exact e
  split at e'<;>first|(cases e';done)|skip
  simp only[zca] at e';subst e';rfl
 | .st ts l,a,x,e=>by
  cases a<;>simp only[Sh.dec] at e<;>first|(cases e;done)|skip
  split at e<;>first|(cases e;done)|skip
  exact yi l _ x e
theorem yi{ob:Nat->Option Ob}{dead:List Nat}:∀ (l:List Sh) (l':List AV) (x:List D),Sh.decs ob dead l l'=some x->x.length=Sh.cnts l
 | [],l',x,e=>by
  cases l'<;>simp only[Sh.decs] at e<;>first|(cases e;done)|skip
  simp only[zca] at e;subst e;rfl
 | h::l,[],x,e=>by simp[Sh.decs] at e
 | h::l,a::l',x,e=>by
  simp only[Sh.decs] at e;obtain⟨y,h1,e⟩:=bind_some_inv e;obtain⟨z,h2,e⟩:=bind_some_inv e;simp only[zca] at e;subst e;simp only[zta,lM h a y h1,yi l l' z h2,Sh.cnts]
end
mutual
theorem pd{ob:Nat->Option Ob}{dead:List Nat}:∀ (h:Sh) (a:AV) (x:List D),Sh.dec ob dead h a=some x->∀ v∈Sh.toks h a,v ∉ dead
 | .dv t,a,x,e=>by simp_all [Sh.toks]
 | .ow t,a,x,e=>by
  intro v hv;cases a<;>simp only[Sh.toks,zUb,zHa] at hv;subst hv;simp only[Sh.dec] at e
  simp_all
 | .same b,a,x,e=>by simp_all [Sh.toks]
 | .st ts l,a,x,e=>by
  intro v hv;cases a<;>simp only[Sh.toks,zUb] at hv;simp only[Sh.dec] at e;split at e<;>first|(cases e;done)|skip
  exact si l _ x e v hv
theorem si{ob:Nat->Option Ob}{dead:List Nat}:∀ (l:List Sh) (l':List AV) (x:List D),Sh.decs ob dead l l'=some x->∀ v∈Sh.tokss l l',v ∉ dead
 | [],l',x,e=>by simp_all [Sh.tokss]
 | h::l,[],x,e=>by simp[Sh.decs] at e
 | h::l,a::l',x,e=>by
  intro v hv;simp only[Sh.decs] at e;obtain⟨y,h1,e⟩:=bind_some_inv e;obtain⟨z,h2,e⟩:=bind_some_inv e;simp only[Sh.tokss] at hv;rcases List.mem_append.1 hv with hv|hv
  ·exact pd h a y h1 v hv
  ·exact si l l' z h2 v hv
end
mutual
theorem pH(b:Nat):∀ (h:Sh) (j:Nat) (s:List D),(Sh.mk b h j s).2=j+h.cnt
 | .dv t,j,s=>rfl
 | .ow t,j,s=>rfl
 | .same a,j,s=>rfl
 | .st ts l,j,s=>by simp only[Sh.mk,Sh.cnt];exact B6 b l j s
theorem B6(b:Nat):∀ (l:List Sh) (j:Nat) (s:List D),(Sh.mks b l j s).2=j+Sh.cnts l
 | [],j,s=>rfl
 | h::l,j,s=>by simp only[Sh.mks,Sh.cnts,pH b h j s,B6 b l,zwb]
end
mutual
theorem B5(b:Nat):∀ (h:Sh) (t:Ty) (j:Nat) (s:List D),Sh.fits t h=true->AV.fits t (Sh.mk b h j s).1=true
 | .dv t',t,j,s,h=>by
  have h':t.beq t'=true:=by cases t<;>exact h
  rw[Ty.eq_of_beq _ _ h'];exact bF _ _
 | .ow e,t,j,s,h=>by
  have h':t.beq (.sl e)=true:=by cases t<;>exact h
  rw[Ty.eq_of_beq _ _ h'];simp only[Sh.mk,AV.fits];exact Ty.beq_refl' _
 | .same a,t,j,s,h=>by cases t<;>simp[Sh.fits] at h
 | .st ts l,t,j,s,h=>by
  have h':(t.beq (.st ts)&&Sh.fitss ts l)=true:=by cases t<;>exact h
  simp only[zaa] at h';rw[Ty.eq_of_beq _ _ h'.1];simp only[Sh.mk,AV.fits,zaa];have:=Ty.beq_refl' (.st ts);simp only[Ty.beq] at this;exact⟨this,s9 b l ts j s h'.2⟩
theorem s9(b:Nat):∀ (l:List Sh) (ts:List Ty) (j:Nat) (s:List D),Sh.fitss ts l=true->AV.fitss ts (Sh.mks b l j s).1=true
 | [],ts,j,s,h=>by cases ts<;>simp only[Sh.fitss] at h<;>first|(cases h;done)|rfl
 | h::l,[],j,s,e=>by simp[Sh.fitss] at e
 | h::l,t::ts,j,s,e=>by
  simp only[Sh.fitss,zaa] at e;simp only[Sh.mks,AV.fitss,zaa];exact⟨B5 b h t j s e.1,s9 b l ts _ s e.2⟩
end
def Bn(s x:List D)(j:Nat):Prop:=∀ i,i<x.length->s[j+i]?=x[i]?
def Bn.left{s x y:List D}{j:Nat}(h:Bn s (x++y) j):Bn s x j:=λi hi=>by
 rw[h i (by simp;omega),zeb hi]
def Bn.right{s x y:List D}{j:Nat}(h:Bn s (x++y) j):Bn s y (j+x.length):=λi hi=>by
 rw[zwb,h (x.length+i) (by simp;omega),zub (by omega),zvb]
mutual
theorem yV{n b:Nat}{c c':Cx}(T:Two n c c'):∀ (h:Sh) (a:AV) (j:Nat) (s x:List D) (cs:List Value),Sh.dec c.ob c.dead h a=some x->Bn s x j->Sh.fine n h=true ->
  (∀ p∈Sh.tkp h a j,c'.β (b+p.1)=c.β p.2)->AC c a cs->AC c' (Sh.mk b h j s).1 cs
 | .dv t,a,j,s,x,cs,e,hs,hf,hb,k=>by
  have e':((AV.toD c.ob t a).bind λx=>some [x])=some x:=by cases a<;>exact e
  obtain⟨y,h1,h2⟩:=bind_some_inv e';simp only[zca] at h2;subst h2;obtain⟨k1,k2,_⟩:=pT _ _ _ _ h1 k;have hj:s[j]?=some y:=by have:=hs 0 (by simp);simpa using this
  simp only[Sh.mk,AC,List.getD,hj,zxb,T.w,T.S];exact⟨k1,hf,k2⟩
 | .ow t,a,j,s,x,cs,e,hs,hf,hb,k=>by
  cases a<;>simp only[Sh.dec] at e<;>first|(cases e;done)|skip
  ·rename_i t' v l;split at e<;>first|(cases e;done)|skip
   rename_i hd;simp only[zaa,zFa] at hd;simp only[zca] at e;subst e;have hj:s[j]?=some (.sl l):=by have:=hs 0 (by simp);simpa using this
   have he:=Ty.eq_of_beq _ _ hd.1;subst he;simp only[AC] at k;obtain⟨k0,k1,ad,cap,rfl,k2,k3⟩:=k;simp only[Sh.mk,AC,List.getD,hj,zxb,D.els,T.w,T.S];refine⟨k0,k1,ad,cap,rfl,k2,λ_=>?_⟩;rcases k3 (by simpa using hd.2) with h3|⟨bb,off,h3,h4,m,h5,h6⟩
   ·exact .inl h3
   ·refine .inr ⟨bb,off,h3,?_,m,by rw[T.w];exact h5,h6⟩
    have:=hb (j,v) (by simp[Sh.tkp])
    rw[<-h4];exact this
  ·simp only[zca] at e;subst e;have hj:s[j]?=some (.sl []):=by have:=hs 0 (by simp);simpa using this
   simp only[AC] at k;subst k;simp only[Sh.mk,AC,List.getD,hj,zxb,D.els];refine⟨hf,λx hx=>(by cases hx),none,0,rfl,?_,λ_=>.inl ⟨rfl,rfl⟩⟩
   exact CR.of_elems (b:=0) (off:=0) (.inl rfl) (zma _) ⟨[],cF.nil,λi c hc=>by simp at hc⟩
 | .same a',a,j,s,x,cs,e,hs,hf,hb,k=>by
  have e':(if AV.same a' a then some ([]:List D) else none)=some x:=by cases a<;>exact e
  split at e'<;>first|(cases e';done)|skip
  rename_i hsm;have:=rD _ _ hsm;subst this;simp only[Sh.fine] at hf;exact FP T _ _ hf k
 | .st ts l,a,j,s,x,cs,e,hs,hf,hb,k=>by
  cases a<;>simp only[Sh.dec] at e<;>first|(cases e;done)|skip
  rename_i ts' l';split at e<;>first|(cases e;done)|skip
  simp only[Sh.fine,zaa] at hf;simp only[AC] at k;simp only[Sh.mk,AC];exact⟨hf.1.1,s9 b l ts j s hf.1.2,FF T l l' j s x cs e hs hf.2 hb k.2.2⟩
theorem FF{n b:Nat}{c c':Cx}(T:Two n c c'):∀ (l:List Sh) (l':List AV) (j:Nat) (s x:List D) (cs:List Value),Sh.decs c.ob c.dead l l'=some x->Bn s x j->Sh.fines n l=true ->
  (∀ p∈Sh.tkps l l' j,c'.β (b+p.1)=c.β p.2)->jX c l' cs->jX c' (Sh.mks b l j s).1 cs
 | [],l',j,s,x,cs,e,_,_,_,k=>by
  all_goals grind [Sh.decs,Sh.mks,jX]
 | h::l,[],j,s,x,cs,e,_,_,_,k=>by simp[Sh.decs] at e
 | h::l,a::l',j,s,x,cs,e,hs,hf,hb,k=>by
  simp only[Sh.decs] at e;obtain⟨y,h1,e⟩:=bind_some_inv e;obtain⟨z,h2,e⟩:=bind_some_inv e;simp only[zca] at e;subst e;simp only[Sh.fines,zaa] at hf;simp only[jX] at k;obtain⟨c1,c2,rfl,k1,k2⟩:=k;simp only[Sh.mks,jX,pH];simp only[Sh.tkps,List.mem_append] at hb;have hr:=hs.right;rw[lM h a y h1] at hr;exact⟨c1,c2,rfl,yV T h a j s y c1 h1 hs.left hf.1 (λp hp=>hb p (.inl hp)) k1,FF T l l' _ s z c2 h2 hr hf.2 (λp hp=>hb p (.inr hp)) k2⟩
end
def NN{n b:Nat}{c c':Cx}(T:Two n c c')(h:Sh)(a:AV)(j:Nat)(s x:List D)(v:Value)(e:Sh.dec c.ob c.dead h a=some x)(hs:Bn s x j)(hf:Sh.fine n h=true)
  (hb:∀ p∈Sh.tkp h a j,c'.β (b+p.1)=c.β p.2) (k:AR c a v):AR c' (Sh.mk b h j s).1 v:=by
 cases h with
 | dv t=>
  have e':((AV.toD c.ob t a).bind λx=>some [x])=some x:=by cases a<;>exact e
  obtain⟨y,h1,h2⟩:=bind_some_inv e';simp only[zca] at h2;subst h2;have hj:s[j]?=some y:=by have:=hs 0 (by simp);simpa using this
  obtain⟨k1,k2⟩:=mM hf k h1;simp only[Sh.mk,List.getD,hj,zxb];exact dc hf k1 (by rw[T.w,T.S];exact k2)
 | ow t=>
  have key:=λcs=>yV T (.ow t) a j s x cs e hs hf hb;cases a<;>simp only[Sh.dec] at e<;>first|(cases e;done)|skip
  all_goals
   simp only[AR] at k;exact⟨k.1,key _ k.2⟩
 | same a'=>
  have key:=λcs=>yV T (.same a') a j s x cs e hs hf hb;have e':(if AV.same a' a then some ([]:List D) else none)=some x:=by cases a<;>exact e
  split at e'<;>first|(cases e';done)|skip
  rename_i hsm;have:=rD _ _ hsm;subst this;simp only[Sh.mk] at key ⊢;cases a'<;>simp only[Sh.fine,AV.old] at hf<;>first|(cases hf;done)|skip
  all_goals simp_all [AR]
 | st ts l=>
  have key:=λcs=>yV T (.st ts l) a j s x cs e hs hf hb;cases a<;>simp only[Sh.dec] at e<;>first|(cases e;done)|skip
  simp_all [Sh.mk,AR]
end Sy
end
end Go.Proofs.YtphlmegkommlnaaGreatDoor
