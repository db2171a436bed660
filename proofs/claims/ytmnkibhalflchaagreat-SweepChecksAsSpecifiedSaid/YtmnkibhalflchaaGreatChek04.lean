/- Part 4 of the proof that SweepChecksAsSpecified answers true at every input -/
import Derived.Test.YtmnkibhalflchaaGreatChek03
import Derived.RangeFuncSeq
import Derived.RangeFuncRecord
import Derived.RangeFuncNested
set_option linter.unusedVariables false
set_option linter.unusedSimpArgs false
set_option linter.unnecessarySimpa false
set_option linter.defProp false
set_option maxRecDepth 20000
namespace Go.Proofs.YtmnkibhalflchaaGreat
noncomputable section
namespace Sy
open Go
section
variable{E:Env}{s s':St}
def Wk.base_eq(h:Wk s s'):s'.base=s.base:=by simp only[St.base,h.fresh]
theorem Wk.qv(h:Wk s s'){o:Oper}{v':AV}(hq:Sy.qv E s' o some=some v'):∃ v,Sy.qv E s o some=some v/\(v'=v\/v'=.undef):=by
 obtain⟨dst,op,ty,pos,after,guard⟩:=o;have A:=h.ob;have D:=h.base_eq;have same:∀ {x y:Option AV},x=some v'->y=x->∃ v,y=some v/\(v'=v\/v'=.undef):=λhx V=>⟨v',V.trans hx,.inl rfl⟩;cases op<;>simp only[Sy.qv] at hq ⊢<;>(try (cases hq;done))
 case move x=> simp only[zda] at hq;exact⟨_,rfl,by rcases h.opA x with e|e<;>simp[<-hq,e]⟩
 case assign x=> simp only[zda] at hq;exact⟨_,rfl,by rcases h.opA x with e|e<;>simp[<-hq,e]⟩
 case pick c x y=>
  obtain⟨b,h1,a⟩:=ab hq;rw[<-h.truth h1,h1,zba];cases b
  ·simp only[zLa,if_false,zda] at a ⊢;exact⟨_,rfl,by rcases h.opA y with e|e<;>simp[<-a,e]⟩
  ·simp only[if_true,zda] at a ⊢;exact⟨_,rfl,by rcases h.opA x with e|e<;>simp[<-a,e]⟩
 case alloc T=>rw[D] at hq;exact same hq rfl
 case load T x=>
  rcases h.opA x with e|e
  ·rw[e,A] at hq;exact same hq rfl
  ·rw[e] at hq;cases hfn:E.fnT T<;>rw[hfn] at hq
   ·simp only[cond_false] at hq;obtain⟨t,h1,a⟩:=ab hq;cases a
   ·cases hq
 case fieldAddr T x f=>
  obtain⟨t,h1,a⟩:=ab hq;rcases h.opA x with e|e
  ·simp_all
  ·simp_all
 case indexAddr T x i=>
  obtain⟨t,h1,a⟩:=ab hq;obtain⟨p,j,k⟩:=ab a;have L:=h.isD j;rcases h.opA x with e|e
  ·simp_all
  ·rw[e] at k;all_goals grind [AV.asList,iw]
 case lookup T x i c=>
  obtain⟨t,h1,a⟩:=ab hq;rcases h.opA x with e|e
  ·rw[e,A] at a hq;have L:s'.opA i=s.opA i:=by
    split at a<;>first|(cases a;done)|skip
    split at a<;>first|(cases a;done)|skip
    split at a<;>first|(cases a;done)|skip
    split at a<;>first|(cases a;done)|skip
    obtain⟨p,j,_⟩:=ab a;exact h.isD j
   simp_all
  ·simp_all
 case field T x f=>
  obtain⟨t,h1,a⟩:=ab hq;rcases h.opA x with e|e
  ·simp_all
  ·simp_all
 case index T x i=>
  obtain⟨t,h1,a⟩:=ab hq;obtain⟨p,j,k⟩:=ab a;have L:=h.isD j;rcases h.opA x with e|e
  ·simp_all
  ·simp_all
 case binOp op T x y T'=> obtain⟨t,h1,a⟩:=ab hq;obtain⟨p,j,k⟩:=ab a;obtain⟨q,w,r⟩:=ab k;grind [h.isD]
 case unOp op T x=> obtain⟨p,j,k⟩:=ab hq;grind [h.isD]
 case convert U T x=> obtain⟨u,h1,a⟩:=ab hq;obtain⟨t,Q,a⟩:=ab a;obtain⟨p,j,k⟩:=ab a;grind [h.isD]
 case nilCheck x=>
  rcases h.opA x with e|e
  ·simp_all
  ·simp_all
 case extract x i=>
  rcases h.opA x with e|e
  ·simp_all
  ·simp_all
 case build T ps=>
  obtain⟨t,h1,a⟩:=ab hq;rw[h1,zba];cases t<;>simp only at a ⊢<;>(try (cases a;done))
  case st ts=>
   split at a
   ·rename_i J;rw[zja J];split at a<;>first|(cases a;done)|skip
    rename_i M;have key:∀ (l:List (Nat×Operand)),l.all (fT s' ts)=true->l.all (fT s ts)=true/\(l.map λp=>(p.1,s'.opA p.2))=l.map λp=>(p.1,s.opA p.2):=by
     intro l
     induction l with
     | nil=>intro _;exact⟨rfl,rfl⟩
     | cons p l ih=>
      intro B;simp only[zyb,zaa] at B;obtain⟨W,X⟩:=ih B.2;have j:=B.1;have e:s'.opA p.2=s.opA p.2:=by
       rcases h.opA p.2 with e|e
       ·exact e
       ·unfold fT at j;rw[e] at j;all_goals grind [AV.fits]
      have R:fT s ts p=true:=by simp_all [fT]
      grind
    grind
   ·rename_i J;rw[zga J];obtain⟨l,j,k⟩:=ab a
    simp_all [h.partsD,zba]
  case arr n e=>
   obtain⟨l,j,k⟩:=ab a
   simp_all [h.partsD,zba]
 case buildSlice T n ps=>
  obtain⟨t,h1,a⟩:=ab hq;rw[h1,zba];cases t<;>simp only at a ⊢<;>(try (cases a;done))
  split at a<;>first|(cases a;done)|skip
  rename_i hn;rw[zja hn];obtain⟨d,j,k⟩:=ab a;obtain⟨l,w,r⟩:=ab k
  simp_all [zba,h.partsD]
 case makeSlice T x y=>
  obtain⟨p0,a1,a2⟩:=ab hq;obtain⟨Z,a3,a4⟩:=ab a2;split at a4<;>first|(cases a4;done)|skip
  obtain⟨t,a5,a6⟩:=ab a4;cases t<;>simp only at a6<;>(try (cases a6;done))
  obtain⟨d,Y,P⟩:=ab a6;obtain⟨p,a9,O⟩:=ab P;rw[h.isD a1,h.isD a9,D] at hq;exact⟨_,hq,.inl rfl⟩
 case slice T x lo z mx=>
  cases mx with
  | some m=>cases hq
  | none=>
   obtain⟨t,h1,a⟩:=ab hq;cases t<;>simp only at a<;>(try (cases a;done))
   case arr m e=>
    rcases h.opA x with ex|ex
    ·rw[ex] at a hq;rw[A] at hq;have key:(∀ i,lo=some i->s'.opA i=s.opA i)/\(∀ i,z=some i->s'.opA i=s.opA i):=by
      clear hq;split at a<;>first|(cases a;done)|skip
      split at a<;>first|(cases a;done)|skip
      obtain⟨K,w,r⟩:=ab a;obtain⟨I,H,S⟩:=ab r;refine⟨λi z=>?_,λi z=>?_⟩
      ·subst z;obtain⟨p,C,_⟩:=ab w;exact h.isD C
      ·subst z;obtain⟨p,C,_⟩:=ab H;exact h.isD C
     obtain⟨G,F⟩:=key;clear a;cases lo<;>cases z<;>simp only at hq ⊢
     ·simp_all
     ·simp_all
     ·simp_all
     ·simp_all
    ·simp_all
   obtain⟨l,j,k⟩:=ab a;obtain⟨K,w,r⟩:=ab k;obtain⟨I,H,S⟩:=ab r;have ex:=h.asList j;have G:∀ i,lo=some i->s'.opA i=s.opA i:=λi z=>by subst z;obtain⟨p,C,_⟩:=ab w;exact h.isD C
   have F:∀ i,z=some i->s'.opA i=s.opA i:=λi z=>by subst z;obtain⟨p,C,_⟩:=ab H;exact h.isD C
   all_goals grind
 case sliceToArrayPointer T x=>
  obtain⟨t,h1,a⟩:=ab hq;rcases h.opA x with e|e
  ·simp_all
  ·rw[e] at a;cases t<;>first|(cases a;done)|(simp[AV.asList,iw] at a;done)
 case makeFunc fn first captured=>
  cases fn<;>simp only at hq ⊢<;>(try (cases hq;done))
  split at hq<;>first|(cases hq;done)|skip
  rename_i B;have key:∀ (l:List Operand),(l.all λx=>fH (s'.opA x))=true->(l.all λx=>fH (s.opA x))=true/\l.map s'.opA=l.map s.opA:=by
   intro l
   induction l with
   | nil=>intro _;exact⟨rfl,rfl⟩
   | cons p l ih=>
    intro B;simp only[zyb,zaa] at B;obtain⟨W,X⟩:=ih B.2;have j:=B.1;have e:s'.opA p=s.opA p:=by
     rcases h.opA p with e|e
     ·exact e
     ·simp_all [fH]
    simp_all
  grind
 case call c=>
  obtain⟨callee,args,argTypes⟩:=c;cases callee<;>simp only at hq ⊢<;>(try (cases hq;done))
  case value f=>
   cases f<;>simp only at hq ⊢<;>(try (cases hq;done))
   case func f=>
    obtain⟨g,h1,a⟩:=ab hq;cases hfr:Nat.beq (E.free f) 0 with
    | false=>rw[hfr] at a;cases a
    | true=>
    rw[hfr] at a;simp only[cond_true] at a;obtain⟨xs,j,k⟩:=ab a;rw[h1,zba,cond_true,h.toDl _ _ j,zba];rw[D] at k;exact⟨v',k,.inl rfl⟩
   case tmp t=>
    split at hq<;>first|(cases hq;done)|skip
    rename_i f l N;obtain⟨g,h1,a⟩:=ab hq;cases hfr:(Nat.beq (E.free f) l.length&&cZ (sK l)) with
    | false=>rw[hfr] at a;cases a
    | true=>
    rw[hfr] at a;simp only[cond_true] at a;obtain⟨xs,j,k⟩:=ab a;have e:s.tm t=.clo f l:=by
     rcases h.opA (.tmp t) with e|e
     ·exact e.symm.trans N
     ·have:s'.tm t=.undef:=e;rw[N] at this;cases this
    rw[e];simp only;rw[h1,zba,hfr,cond_true,h.toDl _ _ j,zba];rw[A] at k;exact⟨v',k,.inl rfl⟩
  case builtin b=>
   cases b<;>simp only at hq ⊢<;>(try (cases hq;done))
   case len=>
    obtain⟨T,h1,a⟩:=ab hq;obtain⟨t,j,k⟩:=ab a;obtain⟨x,w,r⟩:=ab k;rcases h.opA x with e|e
    ·rw[h1,zba,j,zba,w,zba];cases t<;>simp only at r ⊢<;>first
      | (cases r;done)
      | (rw[e,A] at r;exact same r rfl)
      | (rw[e] at r;exact⟨v',r,.inl rfl⟩)
      | exact⟨v',r,.inl rfl⟩
    ·rw[h1,zba,j,zba,w,zba];cases t<;>simp only at r ⊢<;>first
      | (cases r;done)
      | (rw[e] at r;simp[AV.asList,iw] at r;done)
      | (rw[e] at r;simp[Sy.isD] at r;done)
      | exact⟨v',r,.inl rfl⟩
   case min=>
    split at hq<;>first|(cases hq;done)|skip
    obtain⟨p,j,k⟩:=ab hq;obtain⟨q,w,r⟩:=ab k;rw[h.isD j,h.isD w] at hq;exact same hq rfl
   case max=>
    split at hq<;>first|(cases hq;done)|skip
    obtain⟨p,j,k⟩:=ab hq;obtain⟨q,w,r⟩:=ab k;rw[h.isD j,h.isD w] at hq;exact same hq rfl
end
def val(E:Env)(ops:Array Oper)(s:St)(o:Oper):Option AV:=
 if mW s o then none else
 match o.guard with
 | none=>qv E s o some
 | some (j,want)=>((ops[j]?).bind (·.dst)).bind λg=>xl (s.tm g) (some .gone) ((s.tm g).truth.bind λc=>if c==want then qv E s o some else some .gone)
def seqV(E:Env)(ops:Array Oper):List Oper->St->Option St
 | [],s=>some s
 | o::l,s=>(val E ops s o).bind λv=>seqV E ops l (s.put o.dst v)
section
variable{E:Env}{ops:Array Oper}{s s':St}
def Wk.lkd_eq(h:Wk s s')(o:Oper):mW s' o=mW s o:=by simp only[mW,h.lkS]
theorem Wk.val(h:Wk s s'){o:Oper}{v':AV}(hq:Sy.val E ops s' o=some v'):∃ v,Sy.val E ops s o=some v/\(v'=v\/v'=.undef):=by
 unfold Sy.val at hq ⊢;rw[h.lkd_eq] at hq;split at hq<;>first|(cases hq;done)|skip
 rename_i b;rw[zga b];cases i:o.guard with
 | none=>rw[i] at hq;exact h.qv hq
 | some p=>
  obtain⟨j,want⟩:=p;rw[i] at hq;simp only at hq ⊢;obtain⟨g,h1,a⟩:=ab hq;rw[h1,zba];by_cases hgo:s'.tm g=.gone
  ·have e:s'.tm g=s.tm g:=by
    rcases h.tm g with e|e
    ·exact e
    ·simp_all
   rw[hgo,fF] at a;rw[<-e,hgo,fF];exact⟨v',a,.inl rfl⟩
  rw[fG hgo] at a;obtain⟨c,d,f⟩:=ab a;have e:s'.tm g=s.tm g:=h.truth (x:=.tmp g) d;rw[<-e,fG hgo,d,zba];split at f
  ·rename_i hc;rw[zja hc];exact h.qv f
  ·simp_all
theorem Wk.seqV:∀ (l:List Oper) {s s' a:St},Wk s s'->Sy.seqV E ops l s'=some a->∃ t,Sy.seqV E ops l s=some t/\Wk t a
 | [],s,s',a,h,hq=>by simp_all [Sy.seqV,zda]
 | o::l,s,s',a,h,hq=>by simp only[Sy.seqV] at hq ⊢;obtain⟨v',h1,b⟩:=ab hq;obtain⟨v,c,d⟩:=h.val h1;rw[c,zba];exact Wk.seqV l (h.put o.dst d) b
theorem lK:∀ (l l':List Oper) (s:St),Sy.seqV E ops (l++l') s=(Sy.seqV E ops l s).bind (Sy.seqV E ops l')
 | [],l',s=>rfl
 | o::l,l',s=>by
  simp only[zub,Sy.seqV];cases val E ops s o with
  | none=>rfl
  | some v=>exact lK l l' _
theorem aeO:∀ (l:List Oper) {s s':St},Wk s s'->Wk (Sy.killD s l) (Sy.killD s' l)
 | [],_,_,h=>h
 | o::l,_,_,h=>aeO l (h.put o.dst (.inl rfl))
theorem jU:∀ (l:List Oper) {s t:St},Sy.seqV E ops l s=some t->Wk t (killD s l)
 | [],s,t,h=>by simp only[Sy.seqV,zda] at h;subst h;exact Wk.refl s
 | o::l,s,t,h=>by simp only[Sy.seqV] at h;obtain⟨v,h1,a⟩:=ab h;have b:=jU l a;refine b.trans ?_;show Wk (killD (s.put o.dst v) l) (killD (s.put o.dst .undef) l);exact aeO l ((Wk.refl s).put o.dst (.inr rfl))
end
def gr(o:Oper):Bool:=fY o||(match o.op with|.alloc _=>true|_=>false)
def oI{R:Type}(E:Env)(s:St){o:Oper}(h:gr o=true)(K:St->Option R):rL E s o K=qv E s o λv=>K (s.put o.dst v):=by
 obtain⟨dst,op,ty,pos,after,guard⟩:=o;cases op<;>first|rfl|(simp[gr,fY] at h;done)|skip
 rename_i c;obtain⟨callee,args,argTypes⟩:=c;cases callee<;>first|rfl|skip
 rename_i b;cases b<;>first|rfl|(simp[gr,fY] at h)
def gR{R:Type}{E:Env}{s:St}{o:Oper}{K:AV->Option R}{r:R}(h:qv E s o K=some r):∃ v,qv E s o some=some v/\K v=some r:=by rw[Hb] at h;exact ab h
theorem iU(d:Option Nat):∀ (l:List (Nat×Oper)),l=(dt d l).1++(dt d l).2/\∀ p q,(dt d l).2=p::q->oP d p.2=true
 | []=>⟨rfl,λp q h=>by simp[dt] at h⟩
 | p::l=>by
  simp only[dt];split
  ·simp_all
  ·obtain⟨h1,a⟩:=iU d l;grind
def tS{s:St}{d:Nat}{v:AV}(h:s.tm d=v):s.put (some d) v=s:=by
 simp only[St.put];split
 ·have:(λi=>if i=d then v else s.tm i)=s.tm:=by
   all_goals grind
  rw[this]
 ·rfl
def rU{s:St}{d:Nat}{v:AV}(h:d<s.nt):(s.put (some d) v).tm d=v:=by simp[St.put,h]
def iZ{v:AV}{b:Bool}(h:v.truth=some b):v=.d .bool (.bool b):=by
 cases v<;>simp only[AV.truth] at h<;>first|(cases h;done)|skip
 grind [aeK,wF]
def lv{R:Type}{s:St}{g:Nat}{c want:Bool}(hc:(s.tm g).truth=some c){A B:St->Option R}{r:R}
  (h:(if c then(if want then A (s.put (some g) (.d .bool (.bool true))) else B (s.put (some g) (.d .bool (.bool true)))) else(if want then B (s.put (some g) (.d .bool (.bool false))) else A (s.put (some g) (.d .bool (.bool false)))))=some r):(if c==want then A s else B s)=some r:=by
 have e:=tS (iZ hc);all_goals grind
def qA{d:Option Nat}{o:Oper}(h:oP d o=true):∃ c x y,o.op=.pick c x y:=by cases hop:o.op<;>first|exact⟨_,_,_,rfl⟩|(simp[oP,hop] at h)
def kq{o:Oper}(h:fY o=true):gr o=true:=by simp[gr,h]
def Ek{o:Oper}{c x y:Operand}(h:o.op=.pick c x y):gr o=true:=by simp[gr,fY,h]
def s7{E:Env}{ops:Array Oper}:∀ (N:Nat) (R:Type) (l:List (Nat×Oper)) (s:St) (k:St->Option R) (r:R) (m:Nat) (an:Ann),m<=l.length->(∀ p∈l.take m,gr p.2=true/\kG E p.2=false) ->
  ((∀ p∈l.drop m,∀ c x y,p.2.op≠.pick c x y)\/∀ p q,l.drop m=p::q->jB E p.2=false)->eZ E N R ops an l s k=some r ->
  ∃ s' z N',seqV E ops ((l.take m).map Prod.snd) s=some s'/\Wk s' z/\eZ E N' R ops an (l.drop m) z k=some r:=by
 intro N
 induction N with
 | zero=>intro R l s k r m an _ _ _ h;simp[eZ] at h
 | succ N ih=>
  intro R l s k r m an hm hq ht h;cases m with
  | zero=>exact⟨s,s,N+1,rfl,Wk.refl s,by simpa using h⟩
  | succ m=>
   cases l with
   | nil=>simp at hm
   | cons p l=>
    obtain⟨i,o⟩:=p;simp only[zOa,Nat.add_le_add_iff_right] at hm;obtain⟨ho,J⟩:=hq (i,o) s6
    simp only at ho J;have bl:∀ p∈l.take m,gr p.2=true/\kG E p.2=false:=λp hp=>hq p (by simp[hp])
    have n:(∀ p∈l.drop m,∀ c x y,p.2.op≠.pick c x y)\/∀ p q,l.drop m=p::q->jB E p.2=false:=by simpa using ht
    have a8:rQ E o an=an:=by simp[rQ,J]
    have S:∀ (s:St) (K:St->Option R),A4 E an l s o K=rL E s o K:=λs K=>by simp[A4,J]
    simp only[eZ,a8,S] at h;have step:∀ {v:AV},val E ops s o=some v->eZ E N R ops an l (s.put o.dst v) k=some r->∃ s' z N',seqV E ops (((i,o)::l).take (m+1) |>.map Prod.snd) s=some s'/\Wk s' z/\eZ E N' R ops an (((i,o)::l).drop (m+1)) z k=some r:=by grind [seqV]
    cases hg:o.guard with
    | some jw=>
     obtain⟨j,want⟩:=jw;rw[hg] at h;simp only at h;split at h<;>first|(cases h;done)|skip
     rename_i g bz;split at h<;>first|(cases h;done)|skip
     rename_i C;by_cases a6:s.tm g=.gone
     ·simp_all [fF,val,zba]
     rw[fG a6] at h;obtain⟨c,h1,D⟩:=ab h;replace D:=lv (A:=λs=>rL E s o λs'=>eZ E N R ops an l s' k) (B:=λs=>eZ E N R ops an l (s.put o.dst .gone) k) h1 D;split at D
     ·rename_i hc;rw[oI E s ho] at D;obtain⟨v,h3,Q⟩:=gR D
      simp_all [val,zba,fG]
     ·simp_all [val,zba,fG]
    | none=>
     rw[hg] at h;simp only at h;split at h
     ·
      rename_i T;simp only[lJ,zaa] at T;obtain⟨_,f⟩:=T;obtain⟨G,e2⟩:=iU o.dst l;generalize dt o.dst l=sp at *;obtain⟨a,rest⟩:=sp;simp only at h G e2 f;split at h<;>first|(cases h;done)|skip
      rename_i _ _ jj w t d hd;simp only[hd] at f;simp only[zaa,zia,zCa,zya] at f;obtain⟨⟨⟨⟨⟨c1,c2⟩,c3⟩,cI⟩,c4⟩,c5⟩:=f;have bj:=e2 _ _ rfl;obtain⟨pc,px,py,a9⟩:=qA bj;have bv:a.length<m:=by
       rcases zta a.length m with h0|h0
       ·exact h0
       ·exfalso;rcases n with n|n
        ·have:(jj,w)∈l.drop m:=by
          grind
         grind
        ·have Z:l.drop m=a.drop m++(jj,w)::t:=by rw[G,List.drop_append_of_le_length h0]
         cases hsd:a.drop m with
         | nil=> rw[hsd] at Z;have:=n _ _ Z;have V:w.op=.pick pc px py:=a9;simp[jB,kG,fY,V] at this
         | cons p q=>
          rw[hsd] at Z;have h1:=n _ _ Z;have D:=c4 p (z2b (i:=m) (by rw[hsd];simp))
          simp[jB,D.1.1,D.2] at h1
      unfold Ng at h;split at h<;>first|(cases h;done)|skip
      rename_i C;rw[oI E s ho] at h;obtain⟨v,h3,Q⟩:=gR h;rw[hd] at Q;obtain⟨c,h5,h6⟩:=ab Q;rw[rU c1] at h5;have hv:=iZ h5;subst hv;obtain⟨x,F,h8⟩:=ab h6;have u:∀ b,b=c->(s.put (some d) (.d .bool (.bool c))).put (some d) (.d .bool (.bool b))=s.put (some d) (.d .bool (.bool c)):=λb hb=>tS (by rw[rU c1,hb])
      have L:∃ Y:St->Option Bool,(∀ s2,Y s2=qv E s2 w AV.truth)/\eZ E N Bool ops .leaf a (s.put (some d) (.d .bool (.bool c))) Y=some x:=by
       cases c
       ·simp only[zLa,if_false] at F;rw[u false rfl] at F;exact⟨_,λ_=>rfl,F⟩
       ·simp only[if_true] at F;rw[u true rfl] at F;exact⟨_,λ_=>rfl,F⟩
      obtain⟨Y,a7,F⟩:=L;obtain⟨s2,bs,N2,h9,ad,O⟩:=ih Bool a _ Y x a.length .leaf (zka _) (λp hp=>by rw[z7a] at hp;exact⟨kq (c4 p hp).1.1,(c4 p hp).2⟩) (.inl λp hp=>by simp at hp) F
      rw[zkc] at O;rw[z7a] at h9;have P:Y bs=some x:=by cases N2<;>simpa [eZ] using O
      rw[a7] at P;obtain⟨v2,al,ax⟩:=gR P;have W:=iZ ax;obtain⟨v3,aI,a0⟩:=ad.qv al;have bm:v3=.d .bool (.bool x):=by
       rcases a0 with e|e
       ·rw[<-e];exact W
       ·rw[W] at e;cases e
      subst bm;have bp:Wk (s2.put w.dst (.d .bool (.bool x))) ((killD (s.put (some d) (.d .bool (.bool c))) (a.map Prod.snd)).put w.dst (.d .bool (.bool x))):=(jU _ h9).put w.dst (.inl rfl);have hlen:l.length=a.length+1+t.length:=by rw[G];simp;omega
      obtain⟨s4,bt,N4,a1,a2,a3⟩:=ih R t _ k r (m-a.length-1) an j1 (λp hp=>bl p (by
       rw[G,List.take_append,zIa];right;rw[show m-a.length=(m-a.length-1)+1 by omega,zUb]
       exact zma _ hp)) (by
       have e4:l.drop m=t.drop (m-a.length-1):=by conv=>lhs;rw[G,List.drop_append,zic j1,z0b,show m-a.length=(m-a.length-1)+1 by omega,zUc]
       rwa [e4] at n) h8
      obtain⟨s5,a4,a5⟩:=Wk.seqV _ bp a1;refine⟨s5,bt,N4,?_,a5.trans a2,?_⟩
      ·have I:l.take m=a++(jj,w)::t.take (m-a.length-1):=by
        conv=>lhs;rw[G,List.take_append,zhc j1,show m-a.length=(m-a.length-1)+1 by omega,zUb]
       have X:val E ops s o=some (.d .bool (.bool c)):=by unfold val;rw[zga C,hg];exact h3
       have U:¬ mW s2 w=true:=by
        have:s2.lkS=s.lkS:=by
         have w1:=(jU _ h9).lkS;have w2:∀ (l:List Oper) (s:St),(killD s l).lkS=s.lkS:=by
          intro l
          induction l with
          | nil=>intro s;rfl
          | cons o l ih=>intro s;rw[killD,ih];exact(aeE s o.dst .undef).2.2.2.2.1
         rw[<-w1,w2];exact(aeE s (some d) _).2.2.2.2.1
        simp only[mW,this];have:=c5;simp only[mW] at this;rw[this];simp
       have M:val E ops s2 w=some (.d .bool (.bool x)):=by
        unfold val;rw[zga U];have:w.guard=none:=by simpa using c2
        rw[this];exact aI
       simp only[zUb,znb,seqV,X,zba,I,zmb,lK,hd,h9,M];exact a4
      ·have H:l.drop m=t.drop (m-a.length-1):=by
        conv=>lhs;rw[G,List.drop_append,zic j1,z0b,show m-a.length=(m-a.length-1)+1 by omega,zUc]
       simp only[zUc,H];exact a3
     ·split at h<;>first|(cases h;done)|skip
      rename_i C;rw[oI E s ho] at h;obtain⟨v,h3,Q⟩:=gR h;exact step (by unfold val;rw[zga C,hg];exact h3) Q
end Sy
end
noncomputable section
namespace Sy
open Go
open Go.ChangeMaps (setBlock)
variable{ro:Option Nat}{nn:Nat}
def lN{c c':Cx}(hw:∀ b o,c.S b o->c'.w.cell? ⟨b,o,none⟩=c.w.cell? ⟨b,o,none⟩)(e:∀ b o,c.S b o->c'.S b o){x:AV}{v:Value}(h:AR c x v):AR c' x.still v:=by
 cases x<;>simp only[AV.still]<;>try (simp only[AR];done)
 case d t x=>
  simp only[AR] at h ⊢;rcases h with⟨i,j,k⟩|⟨q,i,p,j,k⟩
  ·exact .inl ⟨i,j,k.mono hw e⟩
  ·exact .inr ⟨q,i,p,j,k.mono hw e⟩
 case own t u l=>
  simp only[AR,AC] at h;obtain⟨h0,hn,h1,a,cap,f,g,_⟩:=h;refine c6 (by simpa only[ao] using hn) (by simp only[wt];exact⟨l,rfl,h1⟩) ?_
  have n:v=.slice a l.length cap:=ar h0 f;subst n;exact aec (g.mono hw e)
 case fptr t x=> simp only[AR,AC] at h ⊢;obtain⟨h0,h1,f,b,off,g,m⟩:=h;exact⟨h0,h1,f,b,off,g,m.mono hw e⟩
section
variable{P:Program}{E:Env}{w0:Root}{S S':Nat->Nat->Prop}{γ γ':Nat->Option Nat}{β β' β'':Nat->Option (Nat×Nat)}{s sc:St}{a:Act}{w w':World}
def zu{o':Ob}{x:Option Ob}(h:kl x (some o')=true):∃ o,x=some o/\∀ p,eC o' p=eC o p/\ci o' p=ci o p:=by
 cases x with
 | none=>simp[kl] at h
 | some o=>
  refine⟨o,rfl,λp=>?_⟩;cases o<;>cases o'<;>simp only[kl] at h<;>first|(cases h;done)|skip
  ·have:=aeK _ _ h;subst this;exact⟨rfl,rfl⟩
  ·have:=aeK _ _ h;subst this;cases p<;>exact⟨rfl,rfl⟩
  ·exact⟨rfl,rfl⟩
  ·cases p<;>exact⟨rfl,rfl⟩
def xT{v:Nat}(h:v∈eJ s):v ∉ s.dead/\∃ t ty l,t<s.nt/\s.tm t=.own ty v l:=by
 unfold eJ at h;obtain⟨t,h1,a⟩:=zmd.1 h;split at a<;>first|(cases a;done)|skip
 rename_i ty u l c;split at a<;>first|(cases a;done)|skip
 rename_i b;cases a;exact⟨by simpa using b,t,ty,l,zHa.1 h1,c⟩
def xr{v t:Nat}{ty:Ty}{l:List D}(h1:t<s.nt)(a:s.tm t=.own ty v l)(b:v ∉ s.dead):v∈eJ s:=by grind [eJ]
def zS{t:Ty}{id:Nat}{p:List Nat}{cs:List Value}{dead a:List Nat}(c:∀ id b,γ id=some b->γ' id=some b)(hl:kl (s.ob id) (sc.ob id)=true)(h:AC ⟨w,S,γ,β,s.ob,dead⟩ (.ptr t id p) cs):AC ⟨w',S',γ',β'',sc.ob,a⟩ (.ptr t id p) cs:=by
 simp only[AC] at h ⊢;obtain⟨b,off,e,f,g⟩:=h;refine⟨b,off,e,c _ _ f,λo d=>?_⟩;rw[d] at hl;obtain⟨i,q1,j⟩:=zu (o':=o) hl
 simp_all
theorem wg{dead a:List Nat}(c:∀ id b,γ id=some b->γ' id=some b):∀ (l:List AV) (cs:List Value),l.all (G7 s.ob sc.ob)=true->mN ⟨w,S,γ,β,s.ob,dead⟩ l cs->mN ⟨w',S',γ',β'',sc.ob,a⟩ l cs
 | [],cs,_,h=>by simpa only[mN] using h
 | x::l,cs,hp,h=>by
  simp only[zyb,zaa] at hp;simp only[mN] at h ⊢;obtain⟨v,c2,rfl,d,e⟩:=h;refine⟨v,c2,rfl,?_,wg c l c2 hp.2 e⟩;cases x<;>simp only[G7] at hp<;>first|(cases hp.1;done)|skip
  exact zS c hp.1 d
def Ln{n:Nat}{D F:List Nat}(a:∀ b o,S b o->w'.cell? ⟨b,o,none⟩=w.cell? ⟨b,o,none⟩)(g:∀ b o,S b o->S' b o)(z:∀ id b,γ id=some b->γ' id=some b)
  {x:AV} {v:Value} (j:∀ t u l,x=.own t u l->u ∉ s.dead->u ∉ F->u∈D/\β'' (n+D.idxOf u)=β u/\∀ b e,β u=some (b,e)->∀ m,kW w b=some m->kW w' b=some m)
  (h:AR ⟨w,S,γ,β,s.ob,s.dead⟩ x v):AR ⟨w',S',γ',β'',sc.ob,sc.dead⟩ (oY s sc n D F x) v:=by
 cases x with
 | d t y=>exact lN (c:=⟨w,S,γ,β,s.ob,s.dead⟩) (x:=.d t y) a g h
 | fptr t y=>exact lN (c:=⟨w,S,γ,β,s.ob,s.dead⟩) (x:=.fptr t y) a g h
 | own t u l=>
  simp only[oY];split
  ·exact lN (c:=⟨w,S,γ,β,s.ob,s.dead⟩) (x:=.own t u l) a g h
  ·rename_i r;simp only[zKb,not_or,List.contains_iff_mem] at r;have i:u ∉ s.dead:=r.1;obtain⟨T,B,C⟩:=j t u l rfl i r.2;simp only[AR,AC] at h ⊢;obtain⟨h0,h1,k,A,cap,H,I,J⟩:=h;refine⟨h0,h1,k,A,cap,H,I.mono a g,λ_=>?_⟩;rcases J i with q|⟨b,off,q,E,m,K,L⟩
   ·exact .inl q
   ·exact .inr ⟨b,off,q,B.trans E,m,C b _ E m K,L⟩
 | nils=>simpa only[oY,AR,AC] using h
 | ptr t id p=>
  simp only[oY];split
  ·rename_i hl;simp only[AR] at h ⊢;exact⟨h.1,zS z hl h.2⟩
  ·simp only[AR]
 | mem t id=>simp only[oY,AR]
 | tpo t v P y=>simp only[oY,AR]
 | st P l=>simp only[oY,AR]
 | clo f l=>
  simp only[oY];split
  ·rename_i hl;simp only[AR,AC] at h ⊢;obtain⟨h0,caps,h1,k⟩:=h;exact⟨h0,caps,h1,wg z l caps hl k⟩
  ·simp only[AR]
 | map U vt id=>
  simp only[oY];split
  ·rename_i hl;simp only[AR,AC] at h ⊢;obtain⟨h0,b,e,B,C,M,N⟩:=h;refine⟨h0,b,e,z _ _ B,C,M,λo G=>?_⟩;cases hs:s.ob id with
   | none=>rw[hs,G] at hl;simp[kl] at hl
   | some O=>
    obtain⟨l,rfl⟩:=N O hs;rw[hs,G] at hl;cases o<;>simp only[kl] at hl<;>first|(cases hl;done)|skip
    simp only[zaa] at hl;have Q:=aeK _ _ hl.1;have R:=aeK _ _ hl.2
    simp_all
  ·simp only[AR]
 | yld id=> grind [oY,AR,AC]
 | sub sl t id p lo n=>simp only[oY,AR]
 | gone=>simp only[oY,AR]
 | undef=>simp only[oY,AR]
def As(s:St):uW s []=eJ s:=by simp[uW]
def Ar{s:St}{a:List Nat}{v:Nat}:v∈uW s a↔v∈eJ s/\v ∉ a:=by simp[uW]
def CP(h:Rp w0 S γ β s a w){r J:List Nat}{sh:Nat->Prop}(G:r=uW s J)(y:sh=λb=>(∃ id,γ id=some b)\/∃ v e,v ∉ r++s.dead/\β v=some (b,e)){k:St}{B:Act}
  (x:∀ j o,k.ob j=some o->s.ob j=some o) (C:k.fresh=s.fresh+1) (c:k.dead=r++s.dead) (E:B.tmps.size=k.nt) (A:∀ t,k.nt<=t->k.tm t=.undef)
  (z:∀ t,t<B.tmps.size->AR ⟨w,S,γ,β,k.ob,r++s.dead⟩ (k.tm t) (B.tmps.getD t undef)):Rp ⟨w,S,sh⟩ S γ β k B w:=by
 have g:∀ {u},u ∉ r++s.dead->u ∉ s.dead:=λhu D=>hu (zfb _ D);have d:k.base=(s.fresh+1)*4096:=by simp only[St.base,C]
 have I:s.base+4096=(s.fresh+1)*4096:=by simp only[St.base];omega
 have F:Cx.le ⟨w,S,γ,β,s.ob,s.dead⟩ ⟨w,S,γ,β,k.ob,r++s.dead⟩:=
  ⟨λ_ _ _=>rfl,λ_ _ d=>d,λ_ _ d=>d,λid o q _=>⟨o,x _ _ q,λp=>⟨rfl,rfl⟩,λt l e=>⟨l,e,rfl⟩,λ_ _ l e=>⟨l,e⟩⟩,λu hu=>⟨g hu,λb e he=>⟨he,λn hn=>hn⟩⟩⟩
 refine⟨⟨rfl,rfl,rfl,zka _,zka _,λ_ _=>rfl⟩,λt K=>by rw[c];exact z t K,E,A,λid o b q d=>?_,λid b d=>⟨λq=>q.2 (by show sh b;rw[y];exact .inl ⟨id,d⟩),(h.γn id b d).2⟩,h.γi,λid hid=>h.γf id ?_,λu b e hu he=>?_,λu N b e H hu m=>h.βi u N b e H (g (c ▸ hu)) (g (c ▸ m)),λu id b e hu=>h.βγ u id b e (g (c ▸ hu)),λu hu=>h.βf u ?_,h.Sb,λb o d _=>d⟩
 ·rw[c];exact(h.obs id o b (x _ _ q) d).mono F rfl λ_ D=>D
 ·omega
 ·have m:u ∉ r++s.dead:=c ▸ hu;obtain⟨O,L,M⟩:=h.βn u b e (g m) he;exact⟨λq=>q.2 (by show sh b;rw[y];exact .inr ⟨u,e,m,he⟩),L,M⟩
 ·omega
def Cg(h:Rp w0 S γ β s a w){r X:List Nat}{sh:Nat->Prop}(D:r=uW s X)(K:sh=λb=>(∃ id,γ id=some b)\/∃ v e,v ∉ r++s.dead/\β v=some (b,e))(an:r.length<=4096){a':Act}
  (k:Rp ⟨w,S,sh⟩ S' γ' β' sc a' w') (Q:∀ b o,S b o->S' b o) (I:∀ b o,S b o->w'.cell? ⟨b,o,none⟩=w.cell? ⟨b,o,none⟩) (P:∀ id b,γ id=some b->γ' id=some b) (W:w.heap.size<=w'.heap.size) :
  ∃ β'',Rp w0 S' γ' β'' (nh s sc X) a w'/\Cx.le ⟨w',S',γ',β',sc.ob,sc.dead⟩ ⟨w',S',γ',β'',sc.ob,sc.dead⟩:=by
 have z:∀ u,u∈r->u ∉ s.dead:=λu hu=>by rw[D] at hu;exact(xT (Ar.1 hu).1).1
 have O:∀ {u},u ∉ r++s.dead->u ∉ s.dead:=λhu q=>hu (zfb _ q);have L:∀ b,sh b->¬ w0.Old b:=λb c=>by
  rw[K] at c;rcases c with⟨id,c⟩|⟨u,e,hu,c⟩
  ·exact(h.γn id b c).1
  ·exact(h.βn u b e (O hu) c).1
 have F:∀ b,w0.Old b->(Root.mk w S sh).Old b:=λb c=>⟨zQa c.1 h.ext.sz,λq=>L b q c⟩;have j:∀ u∈r,∀ b e,β u=some (b,e)->(Root.mk w S sh).Old b:=λu hu b e c=>by
  refine⟨(h.βn u b e (z u hu) c).2.1,λq=>?_⟩;have q:sh b:=q;rw[K] at q;rcases q with⟨id,q⟩|⟨G,H,E,q⟩
  ·exact h.βγ u id b e (z u hu) c q
  ·have:=h.βi u G b e H (z u hu) (O E) c q
   simp_all
 obtain⟨n,hn⟩:∃ n,n=(sc.fresh+1)*4096:=⟨_,rfl⟩;have Z:sc.base+4096=n:=by rw[hn];simp only[St.base];omega
 obtain⟨β'',hβ⟩:∃ β'':Nat->Option (Nat×Nat),β''=λu=>if n<=u then(r[u-n]?).bind (λx=>if r.idxOf x=u-n then β x else none) else β' u:=⟨_,rfl⟩
 have A:∀ u b e,n<=u->β'' u=some (b,e)->∃ x∈r,u=n+r.idxOf x/\β x=some (b,e):=λu b e hu he=>by grind
 have blt:∀ u,u<n->β'' u=β' u:=λu hu=>k7
 have T:∀ x∈r,β'' (n+r.idxOf x)=β x:=λx hx=>by
  have g:r.idxOf x<r.length:=List.idxOf_lt_length_of_mem hx
  simp_all
 have hle:Cx.le ⟨w',S',γ',β',sc.ob,sc.dead⟩ ⟨w',S',γ',β'',sc.ob,sc.dead⟩:=
  ⟨λ_ _ _=>rfl,λ_ _ c=>c,λ_ _ c=>c,λid o J _=>⟨o,J,λp=>⟨rfl,rfl⟩,λt l e=>⟨l,e,rfl⟩,λ_ _ l e=>⟨l,e⟩⟩,λu hu=>⟨hu,λb e he=>⟨(by
   have d:β' u=some (b,e):=he;show β'' u=some (b,e);rcases zta u n with g|y
   ·simp_all
   ·rw[k.βf u j1] at d;cases d),λm hm=>hm⟩⟩⟩
 have N:∀ b,¬ (Root.mk w S sh).Old b->¬ w0.Old b:=λb c q=>c (F b q);refine⟨β'',⟨⟨k.ext.tape.trans h.ext.tape,k.ext.os.trans h.ext.os,k.ext.output.trans h.ext.output,zNa h.ext.sz k.ext.sz,zNa h.ext.dr k.ext.dr,λb c=>(k.ext.old b (F b c)).trans (h.ext.old b c)⟩,λt R=>?_,h.nt,λt R=>?_,λid o b J c=>(k.obs id o b J c).mono hle rfl λ_ q=>q,λid b c=>⟨N b (k.γn id b c).1,(k.γn id b c).2⟩,k.γi,λid hid=>k.γf id ?_,λu b e hu he=>?_,λu G b e H hu E he d=>?_,λu id b e hu he=>?_,λu hu=>?_,k.Sb,λb o c g=>h.So b o (k.So b o c (F b g)) g⟩,hle⟩
 ·have M:t<s.nt:=by rw[<-h.nt];exact R
  simp only[nh,zja M];rw[<-D,<-hn];refine Ln I Q P (λty u l hx hu q=>?_) (h.tms t R);have hm:u∈r:=by rw[D];exact Ar.2 ⟨xr M hx hu,q⟩
  refine⟨hm,T u hm,λb e he m U=>?_⟩;have:=k.ext.old b (j u hm b e he);simp only[kW,bO] at U ⊢;grind
 ·have al:s.nt<=t:=R;simp only[nh];grind
 ·have Y:(sc.fresh+1)*4096+4096<=id:=hid;omega
 ·rcases zta u n with g|y
  ·rw[blt u g] at he;obtain⟨q1,q2,q3⟩:=k.βn u b e hu he;grind
  ·obtain⟨x,hx,_,he⟩:=A u b e y he;obtain⟨q1,q2,q3⟩:=h.βn x b e (z x hx) he;exact⟨q1,zQa q2 W,λo J hs=>q3 o J (k.So b o hs (j x hx b e he))⟩
 ·rcases zta u n with g|y
  ·rcases zta G n with C|B
   ·rw[blt u g] at he;rw[blt G C] at d;exact k.βi u G b e H hu E he d
   ·rw[blt u g] at he;obtain⟨x,hx,_,d⟩:=A G b H B d;exact z3a (j x hx b H d) (k.βn u b e hu he).1
  ·obtain⟨x,hx,ex,he⟩:=A u b e y he;rcases zta G n with C|B
   ·rw[blt G C] at d;exact z3a (j x hx b e he) (k.βn G b H E d).1
   ·obtain⟨x',V,ad,d⟩:=A G b H B d;have:=h.βi x x' b e H (z x hx) (z x' V) he d;grind
 ·rcases zta u n with g|y
  ·rw[blt u g] at he;exact k.βγ u id b e hu he
  ·obtain⟨x,hx,ex,he⟩:=A u b e y he;exact λhid=>(k.γn id b hid).1 (j x hx b e he)
 ·have E:(sc.fresh+1)*4096+4096<=u:=hu;all_goals grind
end
end Sy
end
noncomputable section
namespace Sy
open Go
open Go.ChangeMaps (setBlock)
variable{ro:Option Nat}{nn:Nat}
section
variable{P:Program}{E:Env}{w0:Root}{S:Nat->Nat->Prop}{γ:Nat->Option Nat}{β:Nat->Option (Nat×Nat)}{s:St}{a:Act}{w:World}
mutual
theorem AC.anyOb{c:Cx}(ob':Nat->Option Ob):∀ (x:AV) (t:Ty) (cs:List Value),AV.fits t x=true->AC c x cs->AC ⟨c.w,c.S,c.γ,c.β,ob',c.dead⟩ x cs
 | .d t' x,t,cs,_,h=>by simpa only[AC] using h
 | .own t' v l,t,cs,_,h=>by simpa only[AC,tok] using h
 | .nils,t,cs,_,h=>by simpa only[AC] using h
 | .st ts' l,t,cs,hf,h=>by
  cases t<;>simp only[AV.fits] at hf<;>first|cases hf|skip
  rename_i ts;simp only[zaa] at hf;simp only[AC] at h ⊢;exact⟨h.1,h.2.1,il.anyOb ob' l ts cs hf.2 h.2.2⟩
 | .ptr ..,t,cs,hf,_=>by cases t<;>simp[AV.fits] at hf
 | .fptr ..,t,cs,hf,_=>by cases t<;>simp[AV.fits] at hf
 | .mem ..,t,cs,hf,_=>by cases t<;>simp[AV.fits] at hf
 | .clo ..,t,cs,hf,_=>by cases t<;>simp[AV.fits] at hf
 | .map ..,t,cs,hf,_=>by cases t<;>simp[AV.fits] at hf
 | .sub ..,t,cs,hf,_=>by cases t<;>simp[AV.fits] at hf
 | .yld ..,t,cs,hf,_=>by cases t<;>simp[AV.fits] at hf
 | .gone,t,cs,hf,_=>by cases t<;>simp[AV.fits] at hf
 | .tpo ..,t,cs,hf,_=>by cases t<;>simp[AV.fits] at hf
 | .undef,t,cs,hf,_=>by cases t<;>simp[AV.fits] at hf
theorem il.anyOb{c:Cx}(ob':Nat->Option Ob):∀ (l:List AV) (ts:List Ty) (cs:List Value),AV.fitss ts l=true->il c l cs->il ⟨c.w,c.S,c.γ,c.β,ob',c.dead⟩ l cs
 | [],ts,cs,_,h=>by simpa only[il] using h
 | a::l,ts,cs,hf,h=>by
  cases ts<;>simp only[AV.fitss] at hf<;>first|cases hf|skip
  simp only[zaa] at hf;simp only[il] at h ⊢;obtain⟨c1,c2,rfl,h1,h2⟩:=h;exact⟨c1,c2,rfl,AC.anyOb ob' a _ c1 hf.1 h1,il.anyOb ob' l _ c2 hf.2 h2⟩
end
theorem iA.anyOb{c:Cx}{a:Nat->Option Ob}{b vt:Ty}:∀ {j:Nat} {l:List D} {es:List MapEntry},iA c b vt j l es->iA ⟨c.w,c.S,c.γ,c.β,a,c.dead⟩ b vt j l es
 | _,[],[],_=>trivial
 | _,[],_::_,k=>k.elim
 | _,_::_,[],k=>k.elim
 | j,x::l,e::es,k=>by simp only[iA] at k ⊢;exact⟨k.1,iA.anyOb k.2⟩
def fi.anyOb{c:Cx}(a:Nat->Option Ob){x:AV}{v:Value}(h:fi c x v):fi ⟨c.w,c.S,c.γ,c.β,a,c.dead⟩ x v:=fi.mono (c:=c) (c':=⟨c.w,c.S,c.γ,c.β,a,c.dead⟩) (λ_ _ _=>rfl) (λ_ _ h=>h) (λ_ _ h=>h) h
theorem fN.anyOb{c:Cx}(a:Nat->Option Ob){b:Nat}{o:Ob}(h:fN c b o):fN ⟨c.w,c.S,c.γ,c.β,a,c.dead⟩ b o:=by
 cases o<;>simp only[fN] at h ⊢
 case one t v=> obtain⟨h1,d,e,cs,f,g,j⟩:=h;exact⟨h1,d,e,cs,f,AC.anyOb a v t cs d g,j⟩
 case many t l=>exact h
 case mp kt vt l=> obtain⟨h1,d,e,es,f,g⟩:=h;exact⟨h1,d,e,es,f,g.anyOb⟩
 case lp i p=> obtain⟨r,h1,d,e,f⟩:=h;exact⟨r,h1,d,λt k=>(e t k).anyOb a,f⟩
 case fv v=> obtain⟨h1,x,d,e,f⟩:=h;exact⟨h1,x,d,e.anyOb a,f⟩
def vL{b o:Nat}{r:Loop}(h:w.heap[b]?=some (Obj.loop r)):w.cell? ⟨b,o,none⟩=none:=by simp[World.cell?,h]
def eh{b a:Nat}{x:Obj}(c:a≠b):(setBlock w b x).heap[a]?=w.heap[a]?:=by simp only[setBlock];rw[z4c (Ne.symm c)]
def gw{b:Nat}{x:Obj}(a:b<w.heap.size):(setBlock w b x).heap[b]?=some x:=World.putObj_heap_same a
def dQ{b:Nat}{x:Obj}:(setBlock w b x).heap.size=w.heap.size:=by simp[setBlock]
def t7{L:Nat}{r r':Loop}(hl:w.heap[L]?=some (Obj.loop r))(b o:Nat):(setBlock w L (.loop r')).cell? ⟨b,o,none⟩=w.cell? ⟨b,o,none⟩:=by
 by_cases e:b=L
 ·subst e;rw[vL hl,vL (gw (zpa.1 hl).1)]
 ·simp only[World.cell?,eh e]
def Rp.setLp(h:Rp w0 S γ β s a w){id L:Nat}(x:γ id=some L){r:Loop}(hl:w.heap[L]?=some (Obj.loop r))(r':Loop):Rp w0 S γ β (s.setOb id none) a (setBlock w L (.loop r')):=by
 have hle:Cx.le ⟨w,S,γ,β,s.ob,s.dead⟩ ⟨setBlock w L (.loop r'),S,γ,β,(s.setOb id none).ob,s.dead⟩:=by
  refine⟨λb o _=>t7 hl b o,λ_ _ j=>j,λ_ _ j=>j,λi y B _=>⟨y,?_,λp=>⟨rfl,rfl⟩,λt l e=>⟨l,e,rfl⟩,λ_ _ l e=>⟨l,e⟩⟩,λv q=>⟨q,λc e he=>⟨he,λn hn=>?_⟩⟩⟩
  ·simp_all [St.setOb]
  ·have g:c≠L:=λu=>h.βγ v id c e q he (u ▸ x);have k:kW w c=some n:=hn;show kW (setBlock w L (.loop r')) c=some n;simp only[kW,bO,eh g] at k ⊢;exact k
 refine⟨nu h.ext rfl rfl rfl (by rw[dQ];exact zka _) (zka _) (λc d=>eh λe=>(h.γn id L x).1 (e ▸ d)),λt A=>(h.tms t A).mono hle,h.nt,h.tmu,λi y c B d=>?_,λi c d=>by rw[dQ];exact h.γn i c d,h.γi,h.γf,
  λv c e q he=>by rw[dQ];exact h.βn v c e q he,h.βi,h.βγ,h.βf,λc o j=>by rw[dQ];exact h.Sb c o j,h.So⟩
 have m:i≠id/\s.ob i=some y:=by all_goals simp_all [St.setOb]
 have g:c≠L:=λu=>m.1 (h.γi i id c d (u ▸ x));exact(h.obs i y c m.2 d).mono hle (eh g) λ_ z=>z
def Fm.setLp(h:Rp w0 S γ β s a w){s1:St}{L:Nat}{r r':Loop}(hl:w.heap[L]?=some (Obj.loop r))(he:AE r r'):Fm s1 S γ a w S γ a (setBlock w L (.loop r')):=by
 have d:=(zpa.1 hl).1;refine⟨λ_ _ c=>c,λb o _=>t7 hl b o,λ_ _=>rfl,λi _ b c=>⟨c,?_⟩,by rw[dQ];exact zka _,λ_ _ c=>c,j6.same rfl λb=>?_⟩
 ·by_cases e:b=L
  ·subst e;exact .inr ⟨r,r',hl,gw d,he⟩
  ·exact .inl (eh e)
 ·by_cases e:b=L
  ·subst e;exact⟨λc=>(by rw[hl] at c;cases c),λ_=>⟨r',gw d⟩⟩
  ·simp_all [eh]
theorem Rp.leaveY(h:Rp w0 S γ β s a w){id L:Nat}{i:LpI}{p:Option Ex}(m:γ id=some L)(k:fN ⟨w,S,γ,β,s.ob,s.dead⟩ L (.lp i p)):Rp w0 S γ β (leaveY s id i p) a w:=by
 refine⟨h.ext,λt l=>by simp only[Sy.leaveY,AR],h.nt,λt l=>rfl,λj o b g d=>?_,h.γn,h.γi,h.γf,h.βn,h.βi,h.βγ,h.βf,h.Sb,h.So⟩
 have c:(if j=id then some (Ob.lp i p) else s.ob j)=some o:=g
 by_cases e:j=id
 ·subst e;rw[zja rfl] at c;cases c;rw[m] at d;cases d;exact k.anyOb _
 ·rw[zga e] at c;exact(h.obs j o b c d).anyOb _
def uO(s:St)(id:Nat)(i:LpI)(p:Option Ex):leaveY (s.setOb id none) id i p=leaveY s id i p:=by
 have:(λj=>if j=id then some (Ob.lp i p) else(s.setOb id none).ob j)=λj=>if j=id then some (Ob.lp i p) else s.ob j:=by
  funext j;by_cases e:j=id
  ·simp[e]
  ·simp[St.setOb,e]
 simp only[leaveY,this];rfl
theorem tR{c:Cx}:∀ (l:List (Nat×AV)) (l':List (Nat×Value)) (f:Nat->AV) (T:Array Value),l.length=l'.length->(∀ (i p:Nat) (x:AV) (q:Nat) (v:Value),l[i]?=some (p,x)->l'[i]?=some (q,v)->p=q/\AR c x v) ->
  (∀ t,t<T.size->AR c (f t) (T.getD t undef))->(l'.foldl (λtmps p=>tmps.setIfInBounds p.1 p.2) T).size=T.size/\∀ t,t<T.size->AR c (kp l f t) ((l'.foldl (λtmps p=>tmps.setIfInBounds p.1 p.2) T).getD t undef)
 | [],[],f,T,_,_,h=>⟨rfl,h⟩
 | [],_::_,f,T,hl,_,_=>by simp at hl
 | _::_,[],f,T,hl,_,_=>by simp at hl
 | (p,x)::l,(q,v)::l',f,T,hl,hx,h=>by
  obtain⟨e,d⟩:=hx 0 p x q v rfl rfl;subst e;simp only[zhd,kp];obtain⟨h1,g⟩:=tR l l' (λt=>if t=p then x else f t) (T.setIfInBounds p v) (by simpa using hl) (λi=>hx (i+1)) λt b=>by
   have a:t<T.size:=by simpa using b
   by_cases e:t=p
   ·subst e;rw[zja rfl];simpa [Array.getD,a] using d
   ·rw[zga e];have:=h t a;simp only[Array.getD] at this ⊢;rw[dif_pos a] at this;rw[dif_pos b,Array.getInternal_eq_getElem,Array.getElem_setIfInBounds_ne a (Ne.symm e)]
    rwa [Array.getInternal_eq_getElem] at this
  refine⟨by rw[h1];simp,λt b=>g t (by simpa using b)⟩
theorem qR:∀ (l:List (Nat×AV)) (f:Nat->AV) (n t:Nat),(∀ p∈l,p.1<n)->n<=t->kp l f t=f t
 | [],f,n,t,_,_=>rfl
 | (p,x)::l,f,n,t,h,a=>by
  simp only[kp];rw[qR l _ n t (λq hq=>h q (by simp[hq])) a]
  have:=h (p,x) s6
  simp only at this;rw[zga j1]
theorem j5(h:Rp w0 S γ β s a w):∀ (l:List Operand) (i:Nat) (x:AV) (v:Value),(l.map s.opA)[i]?=some x->(l.map a.eval)[i]?=some v->AR ⟨w,S,γ,β,s.ob,s.dead⟩ x v
 | [],i,x,v,hx,_=>by simp at hx
 | y::l,0,x,v,hx,b=>by simp at hx b;subst hx;subst b;exact aS h y
 | y::l,i+1,x,v,hx,b=>by simp only[znb,zhb] at hx b;exact j5 h l i x v hx b
theorem Fm.less{s s2:St}{S':Nat->Nat->Prop}{γ':Nat->Option Nat}{a':Act}{w':World}(h:Fm s S γ a w S' γ' a' w')(c:∀ t∈s2.lkS,t∈s.lkS)(b:∀ t∈s2.lkO,t∈s.lkO):Fm s2 S γ a w S' γ' a' w':=
 ⟨h.sub,h.cell,λt d=>h.slots t (c t d),λid hid=>h.objs id (b id hid),h.sz,h.gam,h.dfs.less b⟩
def sa(c:Cx)(b:Bool):AR c (.d .bool (.bool b)) (.bool b):=gm _
def HR(hE:EnvOk P E)(h:Rp w0 S γ β s a w){o:Oper}{c:Call}(a3:o.op=.call c){id:Nat}{i:LpI}{X:List AV}(H:Oh s c=some (id,i,X)){R:Type}{K:AV->St->Option R}{r:R}{an:Ann}(F:YS E an s id i X K=some r)
  {next:Act->World->Prop} {Q:Exit->Act->World->Prop}
  (hk:∀ y v s' S' γ' β' w',K y s'=some r->Rp w0 S' γ' β' s' a w'->AR ⟨w',S',γ',β',s'.ob,s'.dead⟩ y v->Fm s S γ a w S' γ' a w'->Sk s s'->next (a.put o.dst v) w'):o.wpIn (FW ro) nn P a w next Q:=by
 obtain⟨dst,op,ty,pos,after,guard⟩:=o;simp only at a3;subst a3;obtain⟨callee,args,argTypes⟩:=c;unfold Oh at H;split at H<;>first|(cases H;done)|skip
 rename_i t hc;simp only at hc;subst hc;split at H<;>first|(cases H;done)|skip
 rename_i f ht;split at H<;>first|(cases H;done)|skip
 rename_i m bl;simp only[zda,Prod.mk.injEq] at H;obtain⟨rfl,rfl,rfl⟩:=H;have hA:=aS h (.tmp t);have ad:AR ⟨w,S,γ,β,s.ob,s.dead⟩ (.yld f) (a.eval (.tmp t)):=by rw[<-ht];exact hA
 simp only[AR,AC] at ad;obtain⟨na,L,bj,hγ⟩:=ad;have hv:=ar na bj;have hO:=h.obs f _ L bl hγ;simp only[fN] at hO;obtain⟨rec,hl,⟨p1,p2,p3,p4⟩,I,b2,b1⟩:=hO;unfold YS at F;split at F<;>first|(cases F;done)|skip
 rename_i M;obtain⟨hlen,bm,bs⟩:=M;have N:args.size=rec.params.size:=by
  have:(args.toList.map s.opA).length=rec.params.toList.length:=by rw[p2];exact hlen
  simpa using this
 have bv:=run_yield (P:=P) (args:=(args.map a.eval)) hl (by simpa using N)
 refine⟨λ_ _=>trivial,?_⟩;have a4:((⟨dst,.call ⟨.value (.tmp t),args,argTypes⟩,ty,pos,after,guard⟩:Oper).semAt (FW ro).round a.eval).run P w=.ok (.round L rec.fn ((rec.params.zip (args.map a.eval)).foldl (λtmps (t,a)=>tmps.setIfInBounds t a) rec.tmps) rec.assign rec.body) w:=by
  rw[Oper.semAt_eq _ _ _ (λc=>s6)]
  simp only[execOp,resolve,hv];simpa [Deferred.ofValue,invoke,go_sem] using bv
 rw[a4];simp only[Oper.uponIn];refine⟨λh=>(by cases h),?_⟩
 obtain⟨T,hT⟩:∃ T,T=(rec.params.zip (args.map a.eval)).foldl (λtmps (t,a)=>tmps.setIfInBounds t a) rec.tmps:=⟨_,rfl⟩;rw[<-hT];refine RoundIn.mono (R:=λen a7=>∃ v,en=.returned v/\next (a.put dst v) a7) ?_ (λen a7 ⟨v,he,hn⟩=>by subst he;exact hn)
 refine roundIn_of_wpIn trivial ?_;show Code.wpIn (FW (some L)) (nn-1) P rec.assign _ _ _;rw[p3,p4];obtain⟨W,z⟩:∃ W,W=uW s []:=⟨_,rfl⟩;obtain⟨sh,a5⟩:∃ sh:Nat->Prop,sh=λb=>(∃ id,γ id=some b)\/∃ v e,v ∉ W++s.dead/\β v=some (b,e):=⟨_,rfl⟩;have J:T.size=rec.tmps.size/\∀ t,t<rec.tmps.size->AR ⟨w,S,γ,β,s.ob,W++s.dead⟩ ((CO s m f (args.toList.map s.opA)).tm t) (T.getD t undef):=by
  have key:=tR (c:=⟨w,S,γ,β,s.ob,W++s.dead⟩) (m.ps.zip (args.toList.map s.opA)) (m.ps.zip (args.toList.map a.eval)) (λt=>if t<m.nt then mR s.ob (m.caps t) else .undef) rec.tmps s6 (λj p x q v hx hv=>by
   rw[List.getElem?_zip_eq_some] at hx hv;refine⟨by have:=hx.1.symm.trans hv.1;simpa using this,?_⟩
   refine AR.mono (c:=⟨w,S,γ,β,s.ob,s.dead⟩) (c':=⟨w,S,γ,β,s.ob,W++s.dead⟩) ⟨λ_ _ _=>rfl,λ_ _ hb=>hb,λ_ _ hb=>hb,λid o ho _=>⟨o,ho,λp=>⟨rfl,rfl⟩,λt l e=>⟨l,e,rfl⟩,λ_ _ l e=>⟨l,e⟩⟩,λu hu=>⟨λhh=>hu (zfb _ hh),λb e he=>⟨he,λn hn=>hn⟩⟩⟩ (j5 h _ j x v hx.2 hv.2))
   (λt ht=>by
    rw[zja j1]
    exact yG (c:=⟨w,S,γ,β,s.ob,s.dead⟩) (I t j1))
  have e:T=(m.ps.zip (args.toList.map a.eval)).foldl (λtmps p=>tmps.setIfInBounds p.1 p.2) rec.tmps:=by rw[hT,<-p2,<-Array.foldl_toList,Array.toList_zip,Array.toList_map]
  rw[e];exact key
 have bp:T.size=m.nt:=J.1.trans p1;have RI:Rp ⟨w,S,sh⟩ S γ β (CO s m f (args.toList.map s.opA)) ⟨T,[]⟩ w:=by
  refine CP h z a5 (λj o hj=>hj) rfl (by rw[z,As];rfl) bp (λu hu=>?_) (λu hu=>J.2 u (by rw[<-J.1];exact hu))
  have bt:m.nt<=u:=hu;show kp _ _ u=.undef;rw[qR _ _ m.nt u (λp hp=>by have h1:=(List.of_mem_zip (a:=p.1) (b:=p.2) hp).1;have:=zya.1 bm _ h1;simpa using this) bt,zga j1]
 refine hE.cod (some L) (nn-1) ⟨w,S,sh⟩ m.asg an.fst R _ S γ β _ _ w _ r (λl e=>by cases e;exact⟨rec,hl⟩) RI F λe s1 S1 γ1 β1 a1 w1 n1 n2 O V=>?_
 cases e with
 | exit j=>cases V
 | ret=>cases V
 | normal=>
 simp only at V;split at V<;>first|(cases V;done)|skip
 rename_i i1 a0;simp only[Gg,Exit.then];obtain⟨g1,st1⟩:=n2.objs f zwa L hγ;have al:=n1.obs f _ L a0 g1;simp only[fN] at al;obtain⟨g,B,_,_,a6,b0⟩:=al;have Y:AE rec g:=by
  rcases st1 with k|⟨r,r',k1,k2,U⟩
  ·rw[B,hl] at k;cases k;exact⟨rfl,rfl,rfl,rfl⟩
  ·rw[hl] at k1;cases k1;rw[B] at k2;cases k2;exact U
 refine⟨_,run_beginRound B a6,?_⟩;have a8:=(zpa.1 B).1;have M1:=n1.setLp g1 B { g with state:=.busy };have F1:=Fm.setLp n1 (s1:=s1) B (r':={ g with state:=.busy }) ⟨rfl,rfl,rfl,rfl⟩;have G:(setBlock w1 L (.loop { g with state:=.busy })).heap[L]?=some (.loop { g with state:=.busy }):=gw a8;show Code.wpIn (FW (some L)) (nn-1) P m.bdy _ a1 (setBlock w1 L (.loop { g with state:=.busy }));generalize setBlock w1 L (.loop { g with state:=.busy })=w2 at M1 F1 G ⊢;have aI:s1.lkO=f::s.lkO:=O.lkO;refine hE.cod (some L) (nn-1) ⟨w,S,sh⟩ m.bdy an.snd R _ S1 γ1 β1 _ a1 w2 _ r (λl e=>by cases e;exact⟨_,G⟩) M1 V λe s2 S2 γ2 β2 a2 w3 m1 m2 m3 m4=>?_
 obtain⟨g2,st2⟩:=m2.objs f (by rw[show(s1.setOb f none).lkO=s1.lkO from rfl,aI];exact zwa) L g1
 obtain⟨A,C,e3⟩:∃ A,w3.heap[L]?=some (Obj.loop A)/\AE rec A:=by
  rcases st2 with k|⟨r,r',k1,k2,U⟩
  ·exact⟨_,k.trans G,Y⟩
  ·rw[G] at k1;cases k1;exact⟨r',k2,U.1.trans Y.1,U.2.1.trans Y.2.1,U.2.2.1.trans Y.2.2.1,U.2.2.2.trans Y.2.2.2⟩
 have a9:=(zpa.1 C).1;have F2:Fm (CO s m f (args.toList.map s.opA)) S γ ⟨T,[]⟩ w S2 γ2 a2 w3:=(n2.trans (F1.less (s2:=s1) (λ_ h=>h) (λ_ h=>h)) O.lkS O.lkO).trans (s1:=s1) (m2.less (λ_ h=>h) (λ_ h=>h)) O.lkS O.lkO;have fin:∀ (d:Loop) (p:Option Ex) (v:Value) (y:AV),AE A d->LpD p d->(∀ c,AR c y v)->K y (nh s (leaveY s2 f m p) [])=some r->next (a.put dst v) (setBlock w3 L (.loop d)):=by
  intro d p v y Z hd bz hK;have D:AE rec d:=⟨Z.1.trans e3.1,Z.2.1.trans e3.2.1,Z.2.2.1.trans e3.2.2.1,Z.2.2.2.trans e3.2.2.2⟩;have F3:=F2.trans (Fm.setLp m1 (s1:=s2) C Z) (m3.lkS.trans O.lkS) (m3.lkO.trans O.lkO);have M2:=m1.setLp g2 C d;have ax:(setBlock w3 L (.loop d)).heap[L]?=some (.loop d):=gw a9;generalize setBlock w3 L (.loop d)=w4 at F3 M2 ax ⊢;have M3:=M2.leaveY (i:=m) (p:=p) g2 (by
   simp only[fN];refine⟨d,ax,⟨by rw[D.1];exact p1,by rw[D.2.1];exact p2,by rw[D.2.2.1];exact p3,by rw[D.2.2.2];exact p4⟩,λu hu=>?_,hd⟩
   rw[D.1];exact fi.mono (c:=⟨w,S,γ,β,s.ob,s.dead⟩) F3.cell F3.sub F3.gam (I u hu))
  rw[uO] at M3;obtain⟨β'',B1,B2⟩:=Cg h z a5 (by rw[z,As];exact bs) M3 F3.sub F3.cell F3.gam F3.sz
  exact hk y v _ S2 γ2 β'' w4 hK B1 (bz _) ⟨F3.sub,F3.cell,λ_ _=>rfl,λj hj=>F3.objs j (zma _ hj),F3.sz,F3.gam,j6.same rfl F3.dfs.1⟩ ⟨rfl,rfl,rfl⟩
 cases e with
 | normal=>exact⟨_,_,run_endRound none C,_,rfl,fin _ none _ _ ⟨rfl,rfl,rfl,rfl⟩ ⟨rfl,rfl⟩ (λc=>sa c true) m4⟩
 | ret=>exact⟨_,_,run_endRound (some .ret) C,_,rfl,fin _ (some .ret) _ _ ⟨rfl,rfl,rfl,rfl⟩ ⟨rfl,rfl⟩ (λc=>sa c false) m4⟩
 | exit j=>exact⟨_,_,run_endRound (some (.exit j)) C,_,rfl,fin _ (some (.exit j)) _ _ ⟨rfl,rfl,rfl,rfl⟩ ⟨rfl,rfl⟩ (λc=>sa c false) m4⟩
def Rp.later(h:Rp w0 S γ β s a w):Rp w0 S γ β (uI s) a w:=by
 have q:∀ i,((uI s):St).base+4096<=i->s.base+4096<=i:=λi b=>by exact zNa (Nat.add_le_add_right (zEa 4096 (zCc s.fresh)) 4096) b
 exact⟨h.ext,h.tms,h.nt,h.tmu,h.obs,h.γn,h.γi,λi b=>h.γf i (q i b),h.βn,h.βi,h.βγ,λv c=>h.βf v (q v c),h.Sb,h.So⟩
end
end Sy
end
noncomputable section
namespace Sy
open Go
variable{ro:Option Nat}{nn:Nat}
def KF{E:Env}{ops:Array Oper}{N:Nat}{R:Type}{i:Nat}{o:Oper}{l:List (Nat×Oper)}{s:St}{k:St->Option R}{r:R}(V:o.guard=none)(j:lJ E s i o l=true){an:Ann}(h:eZ E (N+1) R ops an ((i,o)::l) s k=some r) :
  ∃ e L f g Z Y,l=e++(L,f)::g/\gr o=true/\(∀ p∈e,gr p.2=true)/\gr f=true/\seqV E ops (o::(e.map Prod.snd++[f])) s=some Z/\Wk Z Y/\eZ E N R ops an g Y k=some r:=by
 simp only[eZ,V,j,if_true] at h;simp only[lJ,zaa] at j;obtain⟨_,a⟩:=j;obtain⟨O,P⟩:=iU o.dst l;generalize dt o.dst l=sp at *;obtain⟨e,rest⟩:=sp;simp only at h O P a;split at h<;>first|(cases h;done)|skip
 rename_i _ _ L f g d U;simp only[U] at a;simp only[zaa,zia,zCa,zya] at a;obtain⟨⟨⟨⟨⟨c1,c2⟩,c3⟩,cI⟩,y⟩,c5⟩:=a;have X:=kq c3;have H:=P _ _ rfl;obtain⟨pc,px,py,G⟩:=qA H;unfold Ng at h;split at h<;>first|(cases h;done)|skip
 rename_i F;rw[oI E s X] at h;obtain⟨v,h3,Q⟩:=gR h;rw[U] at Q;obtain⟨c,S,h6⟩:=ab Q;rw[rU c1] at S;have hv:=iZ S;subst hv;obtain⟨x,T,h8⟩:=ab h6;have I:∀ b,b=c->(s.put (some d) (.d .bool (.bool c))).put (some d) (.d .bool (.bool b))=s.put (some d) (.d .bool (.bool c)):=λb hb=>tS (by rw[rU c1,hb])
 have m:∃ w:St->Option Bool,(∀ s2,w s2=qv E s2 f AV.truth)/\eZ E N Bool ops .leaf e (s.put (some d) (.d .bool (.bool c))) w=some x:=by all_goals grind
 obtain⟨w,D,T⟩:=m;obtain⟨s2,M,N2,C,z,q⟩:=s7 N Bool e _ w x e.length .leaf (zka _) (λp hp=>by rw[z7a] at hp;exact⟨kq (y p hp).1.1,(y p hp).2⟩) (.inl λp hp=>by simp at hp) T
 rw[zkc] at q;rw[z7a] at C;have t:w M=some x:=by cases N2<;>simpa [eZ] using q
 rw[D] at t;obtain⟨v2,A,B⟩:=gR t;have ax:=iZ B;obtain⟨v3,ad,al⟩:=z.qv A;have J:v3=.d .bool (.bool x):=by all_goals simp_all
 subst J;have K:Wk (s2.put f.dst (.d .bool (.bool x))) ((killD (s.put (some d) (.d .bool (.bool c))) (e.map Prod.snd)).put f.dst (.d .bool (.bool x))):=(jU _ C).put f.dst (.inl rfl);have u:val E ops s o=some (.d .bool (.bool c)):=by unfold val;rw[zga F,V];exact h3
 have W:¬ mW s2 f=true:=by
  have:s2.lkS=s.lkS:=by
   have w1:=(jU _ C).lkS;have w2:∀ (l:List Oper) (s:St),(killD s l).lkS=s.lkS:=by
    intro l
    induction l with
    | nil=>intro s;rfl
    | cons o l ih=>intro s;rw[killD,ih];exact(aeE s o.dst .undef).2.2.2.2.1
   rw[<-w1,w2];exact(aeE s (some d) _).2.2.2.2.1
  simp_all [mW]
 have n:val E ops s2 f=some (.d .bool (.bool x)):=by
  unfold val
  simp_all
 refine⟨e,L,f,g,_,_,O,X,λp hp=>kq (y p hp).1.1,Ek G,?_,K,h8⟩
 simp_all [seqV,u,zba,lK,n]
section
variable{P:Program}{E:Env}{w0:Root}{S:Nat->Nat->Prop}{γ:Nat->Option Nat}{β:Nat->Option (Nat×Nat)}{s:St}{a:Act}{w:World}{ops:Array Oper}
def qn{o:Oper}(h:Rp w0 S γ β s a w):(o.guard=none->Region.wanted o (yielded ops a.tmps)=true) ∧
  (∀ j want g c,o.guard=some (j,want)->(ops[j]?).bind (·.dst)=some g->(s.tm g).truth=some c->Region.wanted o (yielded ops a.tmps)=(c==want)) ∧
  ∀ j want g,o.guard=some (j,want)->(ops[j]?).bind (·.dst)=some g->s.tm g=.gone->Region.wanted o (yielded ops a.tmps)=false:=by
 refine⟨λd=>by simp[Region.wanted,d],λj want g c d h1 e=>?_,λj want g d h1 e=>?_⟩
 rotate_left
 ·have b:AR ⟨w,S,γ,β,s.ob,s.dead⟩ (s.tm g) (a.eval (.tmp g)):=aS h (.tmp g);rw[e] at b;have f:a.eval (.tmp g)=undef:=b;simp only[Act.eval] at f;simp only[Region.wanted,d,yielded,h1,zba];by_cases hlt:g<a.tmps.size
  ·have i:a.tmps[g]?=some undef:=by
    simp_all
   rw[i];rfl
  ·simp_all
 obtain⟨b,_⟩:=nV e (aS h (.tmp g));have i:a.tmps[g]?=some (.bool c):=by
  simp only[Act.eval] at b;by_cases hlt:g<a.tmps.size
  ·simp_all
  ·exfalso;have:s.tm g=.undef:=h.tmu g (by rw[<-h.nt];exact Nat.le_of_not_lt hlt)
   simp_all
 simp_all [Region.wanted,yielded,zba]
def BW(l:EnvOk P E)(h:Rp w0 S γ β s a w){o:Oper}(m:Fr E s γ β o){v:AV}(hq:val E ops s o=some v) :
  (Region.wanted o (yielded ops a.tmps)=true->dT P o a w λu w'=>∃ S' γ' β',Rp w0 S' γ' β' (s.put o.dst v) (a.put o.dst u) w'/\Fm s S γ a w S' γ' (a.put o.dst u) w'/\(∀ id,o.dst≠some (id-s.base)\/id<s.base->γ' id=γ id/\β' id=β id)) ∧
  (Region.wanted o (yielded ops a.tmps)=false->Rp w0 S γ β (s.put o.dst v) (a.put o.dst undef) w/\Fm s S γ a w S γ (a.put o.dst undef) w):=by
 unfold val at hq;split at hq<;>first|(cases hq;done)|skip
 rename_i k;have b:∀ t∈s.lkS,o.dst≠some t:=λt f e=>k (by simp[mW,e];exact f)
 have main:qv E s o some=some v->dT P o a w λu w'=>∃ S' γ' β',Rp w0 S' γ' β' (s.put o.dst v) (a.put o.dst u) w'/\Fm s S γ a w S' γ' (a.put o.dst u) w'/\(∀ id,o.dst≠some (id-s.base)\/id<s.base->γ' id=γ id/\β' id=β id):=by
  intro hq;obtain⟨s',h1,i⟩:=vo l h m (λT t _ f=>l.flat T t f) b (K:=some) (r:=s.put o.dst v) (by rw[Hb,hq];rfl)
  cases h1;exact i.2.2.2.2.2
 have skip:Rp w0 S γ β (s.put o.dst .gone) (a.put o.dst undef) w/\Fm s S γ a w S γ (a.put o.dst undef) w:=
  ⟨h.put (by simp[AR]) o.dst,λ_ _ d=>d,λ_ _ _=>rfl,λt f=>bZ (b t f),λ_ _ _ d=>⟨d,jd.refl _ _⟩,zka _,λ_ _ d=>d,j6.same bG (da.refl _)⟩
 obtain⟨w1,x,y⟩:=qn (ops:=ops) (o:=o) h;cases hg:o.guard with
 | none=> simp_all
 | some p=>
  obtain⟨j,want⟩:=p;rw[hg] at hq;simp only at hq;obtain⟨g,h1,i⟩:=ab hq;by_cases hgo:s.tm g=.gone
  ·grind [fF]
  rw[fG hgo] at i;obtain⟨c,n,q⟩:=ab i;all_goals grind
def EV(E:Env)(s:St)(γ:Nat->Option Nat)(β:Nat->Option (Nat×Nat))(l:List Oper):Prop:=∀ o∈l,Fr E s γ β o
def Fr.keep{o o':Oper}{s':St}{γ':Nat->Option Nat}{β':Nat->Option (Nat×Nat)}(h:Fr E s γ β o')(i:∀ d,o'.dst=some d->o.dst≠some d)(b:s'.fresh=s.fresh)
  (c:∀ id,γ id=none->o.dst≠some (id-s.base)\/id<s.base->s'.ob id=s.ob id) (hk:∀ id,o.dst≠some (id-s.base)\/id<s.base->γ' id=γ id/\β' id=β id):Fr E s' γ' β' o':=by
 intro hc d a;obtain⟨h1,e,f,g⟩:=h hc d a
 simp_all [St.base,zvb]
structure Sm(s s':St):Prop where
 lkS:s'.lkS=s.lkS
 lkO:s'.lkO=s.lkO
 fresh:s'.fresh=s.fresh
 nt:s'.nt=s.nt
def Sm.sk{s s':St}(h:Sm s s'):Sk s s':=⟨h.lkS,h.lkO,h.nt⟩
def Sm.refl(s:St):Sm s s:=⟨rfl,rfl,rfl,rfl⟩
theorem Sm.trans{a b c:St}(h:Sm a b)(k:Sm b c):Sm a c:=⟨k.lkS.trans h.lkS,k.lkO.trans h.lkO,k.fresh.trans h.fresh,k.nt.trans h.nt⟩
theorem Sm.put(s:St)(d:Option Nat)(v:AV):Sm s (s.put d v):=by obtain⟨p1,a,f,b,c,e,g⟩:=aeE s d v;exact⟨c,e,a,b⟩
def Sm.wk{s s':St}(h:Wk s s'):Sm s s':=⟨h.lkS,h.lkO,h.fresh,h.nt⟩
theorem tM:∀ {l:List Nat},cZ l=true->∀ A B x y,l=A++x::B->y∈B->y≠x
 | [],_,A,B,x,y,e,_=>by simp at e
 | a::l,h,A,B,x,y,e,b=>by
  simp only[cZ,zaa,zCa] at h;cases A with
  | nil=> grind
  | cons a' A=> simp only[zub,zGd] at e;exact tM h.2 A B x y e.2 b
def fr{l:List Oper}(h:cZ (l.filterMap (·.dst))=true)(A B:List Oper)(o o':Oper)(e:l=A++o::B)(c:o'∈B)(d:Nat)(b:o'.dst=some d):o.dst≠some d:=by
 intro f;subst e;have a:(A++o::B).filterMap (·.dst)=A.filterMap (·.dst)++d::B.filterMap (·.dst):=by simp_all
 exact tM h _ _ d d a (zmd.2 ⟨o',c,b⟩) rfl
def qQ(E:Env)(s:St)(o:Oper):St:=match o.op,o.dst with
  | .alloc T,some d=>match E.alOb T with
   | some x=>s.setOb (s.base+d) (some x)
   | none=>s
  | _,_=>s
def qe(E:Env)(o:Oper)(l:List Oper)(s:St):gf E (o::l) s=gf E l (qQ E s o):=rfl
def Rp.freeOb(h:Rp w0 S γ β s a w){id:Nat}(j:γ id=none)(o:Option Ob):Rp w0 S γ β (s.setOb id o) a w:=by
 have hle:Cx.le ⟨w,S,γ,β,s.ob,s.dead⟩ ⟨w,S,γ,β,(s.setOb id o).ob,s.dead⟩:=by
  refine⟨λ_ _ _=>rfl,λ_ _ k=>k,λ_ _ k=>k,λi x hx c=>?_,λv g=>⟨g,λb e he=>⟨he,λn hn=>hn⟩⟩⟩;simp only[St.setOb] at hx;split at hx
  ·simp_all
  ·simp_all
 refine⟨h.ext,λi d=>(h.tms i d).mono hle,h.nt,h.tmu,λi x b hx c=>?_,h.γn,h.γi,h.γf,h.βn,h.βi,h.βγ,h.βf,h.Sb,h.So⟩;simp only[St.setOb] at hx;split at hx
 ·simp_all
 ·exact(h.obs i x b hx c).mono hle rfl λ_ k=>k
def lF(E:Env)(s:St)(o:Oper):qQ E s o=s\/∃ T d t,o.op=.alloc T/\o.dst=some d/\E.alOb T=some t/\qQ E s o=s.setOb (s.base+d) (some t):=by all_goals grind [qQ]
def G4(h:Rp w0 S γ β s a w)(b:∀ d,γ (s.base+d)=none)(o:Oper):Rp w0 S γ β (qQ E s o) a w/\Sm s (qQ E s o):=by
 rcases lF E s o with e|⟨T,d,t,_,_,_,e⟩
 ·rw[e];exact⟨h,Sm.refl s⟩
 ·rw[e];exact⟨h.freeOb (b d) _,rfl,rfl,rfl,rfl⟩
def Sm.base_eq{s s':St}(h:Sm s s'):s'.base=s.base:=by simp only[St.base,h.fresh]
def xC(l:List Oper){s:St}(h:Rp w0 S γ β s a w)(c:∀ d,γ (s.base+d)=none):Rp w0 S γ β (gf E l s) a w/\Sm s (gf E l s):=by
 induction l generalizing s with
 | nil=>exact And.intro h (Sm.refl s)
 | cons o l ih=>
  rw[qe];obtain⟨h1,b⟩:=G4 (E:=E) h c o;obtain⟨e,f⟩:=ih h1 (by rw[b.base_eq];exact c)
  exact⟨e,b.trans f⟩
theorem nM:∀ (l:List Oper) {s:St} {d:Nat},(∀ o∈l,o.dst≠some d)->(gf E l s).ob (s.base+d)=s.ob (s.base+d)
 | [],s,d,_=>rfl
 | o::l,s,d,h=>by
  rw[qe];rcases lF E s o with e|⟨T,d',t,_,b,_,e⟩
  ·rw[e];exact nM l λo a=>h o (by simp[a])
  ·rw[e];have:=nM l (s:=s.setOb (s.base+d') (some t)) (d:=d) λo a=>h o (by simp[a])
   have c:(s.setOb (s.base+d') (some t)).base=s.base:=rfl;rw[c] at this;rw[this];have f:d'≠d:=λe=>h o s6 (by rw[b,e])
   simp only[St.setOb];grind
theorem rT:∀ (l:List Oper) {s:St} {o:Oper} {T:TypeId} {d:Nat} {t:Ob},cZ (l.filterMap (·.dst))=true->o∈l->o.op=.alloc T->o.dst=some d->E.alOb T=some t->(gf E l s).ob (s.base+d)=some t
 | [],_,_,_,_,_,_,h,_,_,_=>by cases h
 | x::l,s,o,T,d,t,hn,j,f,b,g=>by
  have c:cZ (l.filterMap (·.dst))=true:=by
   rw[List.filterMap_cons] at hn;split at hn
   ·exact hn
   ·simp_all [cZ,zaa]
  rw[qe];have i:(qQ E s x).base=s.base:=by rcases lF E s x with e|⟨_,_,_,_,_,_,e⟩<;>rw[e]<;>rfl
  rcases zGa.1 j with rfl|a
  ·rw[<-i,nM l λo' a=>λe=>fr hn [] l o o' rfl a d e b]
   simp_all [qQ,f,b,g,St.setOb]
  ·rw[<-i];exact rT l c a f b g
def Cm{E:Env}{s0:St}{n:Nat->Option Nat}{m:Nat->Option (Nat×Nat)}(h:Rp w0 S γ β s a w){l:List (Nat×Oper)}(hn:cZ ((l.map Prod.snd).filterMap (·.dst))=true)(j:∀ o∈l.map Prod.snd,Fr E s0 n m o):Rp w0 S γ β (gf E (l.map Prod.snd) (uI s)) a w/\Sk s (gf E (l.map Prod.snd) (uI s))/\∀ o∈l.map Prod.snd,Fr E (gf E (l.map Prod.snd) (uI s)) γ β o:=by
 have p:(uI s).base=s.base+4096:=by simp only[uI,St.base];omega
 obtain⟨k,c⟩:=xC (E:=E) (l.map Prod.snd) h.later (λd=>h.γf _ j1)
 refine⟨k,⟨c.lkS,c.lkO,c.nt⟩,λo' b hc d e=>?_⟩;rw[c.base_eq];refine⟨(j o' b hc d e).1,h.γf _ j1,h.βf _ j1,λT t g i=>rT _ hn b g e i⟩
theorem xO(k:EnvOk P E){Q:Exit->Act->World->Prop}:∀ (l b:List Oper) {S:Nat->Nat->Prop} {γ:Nat->Option Nat} {β:Nat->Option (Nat×Nat)} {s:St} {a:Act} {w:World} {s':St},Rp w0 S γ β s a w->EV E s γ β (l++b)->(∀ (A B:List Oper) o o',l++b=A++o::B->o'∈B->∀ d,o'.dst=some d->o.dst≠some d)->seqV E ops l s=some s' ->
  (∀ S' γ' β' a' w',Rp w0 S' γ' β' s' a' w'->Fm s S γ a w S' γ' a' w'->Sm s s'->EV E s' γ' β' b->wpListIn (FW ro) nn P ops Q b a' w')->wpListIn (FW ro) nn P ops Q (l++b) a w
 | [],b,S,γ,β,s,a,w,s',h,i,_,hq,hk=>by simp only[seqV,zda] at hq;subst hq;exact hk S γ β a w h (Fm.refl _ _ _ _ _) (Sm.refl s) (by simpa using i)
 | o::l,b,S,γ,β,s,a,w,s',h,i,G,hq,hk=>by
  simp only[seqV] at hq;obtain⟨v,h1,F⟩:=ab hq;have n:Fr E s γ β o:=i o s6
  obtain⟨H,I⟩:=BW k h n h1;have m:∀ o'∈l++b,∀ d,o'.dst=some d->o.dst≠some d:=λo' c=>G [] (l++b) o o' rfl c;have g:∀ (A B:List Oper) x j,l++b=A++x::B->j∈B->∀ d,j.dst=some d->x.dst≠some d:=λA B x j e hx=>G (o::A) B x j (by simp[e]) hx
  have p:=aeE s o.dst v;have f:∀ {γ':Nat->Option Nat} {β':Nat->Option (Nat×Nat)},(∀ id,o.dst≠some (id-s.base)\/id<s.base->γ' id=γ id/\β' id=β id)->EV E (s.put o.dst v) γ' β' (l++b):=λhk o' c=> (i o' (by simp only[zub,zGa];exact .inr c)).keep (m o' c) p.2.1 (λid _ _=>by rw[p.1]) hk
  simp only[zub,wpListIn];split
  ·rename_i hw;refine(bq (H hw) λu w' ⟨S',γ',β',m1,m2,m3⟩=>?_);exact xO k l b m1 (f m3) g F λS2 D C a2 z q r t y=>hk S2 D C a2 z q (m2.trans r p.2.2.2.2.1 p.2.2.2.2.2.1) ((Sm.put s o.dst v).trans t) y
  ·rename_i hw;obtain⟨m1,m2⟩:=I (by simpa using hw)
   exact⟨λ_ _=>trivial,xO k l b m1 (f λid _=>⟨rfl,rfl⟩) g F λS2 D C a2 z q r t y=>hk S2 D C a2 z q (m2.trans r p.2.2.2.2.1 p.2.2.2.2.2.1) ((Sm.put s o.dst v).trans t) y⟩
theorem kX{c:Cx}:∀ (l:List AV) (caps:List Value),l.all fH=true->mN c l caps->l.length=caps.length/\∀ (i:Nat) (x:AV) (v:Value),l[i]?=some x->caps[i]?=some v->AR c x v
 | [],caps,_,h=>by simp_all [mN]
 | y::l,caps,hp,h=>by
  simp only[mN] at h;obtain⟨v0,c2,rfl,h1,d⟩:=h;simp only[zyb,zaa] at hp;obtain⟨f,g⟩:=kX l c2 hp.2 d;refine⟨by simp[f],λi x v hx a=>?_⟩
  cases i with
  | zero=>
   simp at hx a;subst hx;subst a;cases y<;>simp only[fH] at hp<;>first|(cases hp.1;done)|skip
   simp only[AC] at h1;obtain⟨b,off,e,j⟩:=h1;simp only[zGd,and_true] at e;grind [AR,AC,Value.cells]
  | succ i=>simp only[zhb] at hx a;exact g i x v hx a
def NG(hE:EnvOk P E)(h:Rp w0 S γ β s a w){o:Oper}{c:Call}(hop:o.op=.call c)(hlk:∀ t∈s.lkS,o.dst≠some t){R:Type}{K:St->Option R}{r:R}{an:Ann}
  (hev:((pU s c).bind λq=>(E.inl q.1).bind λg=>g an R s q.2 λv s'=>K (s'.put o.dst v))=some r) :
  dT P o a w λu w'=>∃ s' S' γ' β',K s'=some r/\Rp w0 S' γ' β' s' (a.put o.dst u) w'/\Fm s S γ a w S' γ' (a.put o.dst u) w'/\Sk s s':=by
 obtain⟨⟨f,avs⟩,h1,hev1⟩:=ab hev;clear hev;obtain⟨g,h2,hev2⟩:=ab hev1;clear hev1;simp only at h2 hev2;obtain⟨⟨fn,f1,f2,f3⟩,hI⟩:=hE.inl f g h2;have key:∃ vs:List Value,avs.length=vs.length/\(∀ (i:Nat) (x:AV) (v:Value),avs[i]?=some x->vs[i]?=some v->AR ⟨w,S,γ,β,s.ob,s.dead⟩ x v)/\(execOp a.eval o).run P w=.ok (.enter f vs.toArray) w:=by
  clear hev2 hI h2;have hb:¬ fn.body=none:=k7
  have f2' : ¬ fn.name = "runtime.NumGoroutine" := by simpa using f2
  obtain⟨dst,op,ty,pos,after,guard⟩:=o;simp only at hop;subst hop;obtain⟨callee,args,argTypes⟩:=c;simp only[pU] at h1;split at h1<;>first|(cases h1;done)|skip
  ·rename_i f';simp only[zda,Prod.mk.injEq] at h1;obtain⟨rfl,rfl⟩:=h1;refine⟨args.toList.map a.eval,s6,j5 h _,?_⟩
   have hm:args.map a.eval=(args.toList.map a.eval).toArray:=zdc s6
   simp[execOp,resolve,Act.eval,Deferred.ofValue,invoke,callFunc,f1,f2',hb,hm]
  ·rename_i t;split at h1<;>first|(cases h1;done)|skip
   rename_i f' l ht;split at h1<;>first|(cases h1;done)|skip
   rename_i hp;simp only[zda,Prod.mk.injEq] at h1;obtain⟨rfl,rfl⟩:=h1;have hA:=aS h (.tmp t);have hA':AR ⟨w,S,γ,β,s.ob,s.dead⟩ (.clo f' l) (a.eval (.tmp t)):=by rw[<-ht];exact hA
   simp only[AR,AC] at hA';obtain⟨na,caps,hcs,hcap⟩:=hA';have hv:=ar na hcs;obtain⟨k1,k2⟩:=kX l caps hp hcap;refine⟨args.toList.map a.eval++caps,by simp[k1],λi x v hx hv'=>?_,?_⟩
   ·rcases zta i (args.toList.map s.opA).length with hi|hi
    ·rw[zeb hi] at hx;rw[zeb (by simpa using hi)] at hv'
     exact j5 h _ i x v hx hv'
    ·grind
   ·have hm:args.map a.eval=(args.toList.map a.eval).toArray:=zdc s6
    simp[execOp,resolve,hv,Deferred.ofValue,invoke,callFunc,f1,f2',hb,hm]
 obtain⟨vs,k1,k2,k3⟩:=key;have hc:=hI an R w0 S γ β s a w avs vs _ r h k1 k2 hev2;unfold dT;rw[k3];refine hc.mono λe w' ⟨v,y,s',S',γ',β',e1,e2,e3,e4,e5,e6⟩=>⟨v,e1,s'.put o.dst y,S',γ',β',e2,e3.put e4 o.dst,⟨e5.sub,e5.cell,λt ht=>bZ (hlk t ht),e5.objs,e5.sz,e5.gam,j6.same bG e5.dfs.1⟩,?_⟩;have p:=aeE s' o.dst y;exact⟨p.2.2.2.2.1.trans e6.lkS,p.2.2.2.2.2.1.trans e6.lkO,p.2.2.2.1.trans e6.nt⟩
def xd(f:EnvOk P E)(h:Rp w0 S γ β s a w){o:Oper}(d:∀ t∈s.lkS,o.dst≠some t){R:Type}{K:St->Option R}{r:R}{an:Ann}
  (b:RQ E an s o (λv s'=>K (s'.put o.dst v))=some r) {next:Act->World->Prop} {Q:Exit->Act->World->Prop}
  (hk:∀ u s' S' γ' β' w',K s'=some r->Rp w0 S' γ' β' s' (a.put o.dst u) w'->Fm s S γ a w S' γ' (a.put o.dst u) w'->Sk s s'->next (a.put o.dst u) w'):o.wpIn (FW ro) nn P a w next Q:=by
 unfold RQ at b;split at b<;>first|(cases b;done)|skip
 rename_i c e;split at b
 ·rename_i q k;obtain⟨id,i,g⟩:=q;refine HR f h e k b λy v s' S' γ' β' w' m0 m1 m2 m3 m4=>?_;have p:=aeE s' o.dst y;exact hk v _ S' γ' β' w' m0 (m1.put m2 o.dst) ⟨m3.sub,m3.cell,λt j=>bZ (d t j),m3.objs,m3.sz,m3.gam,j6.same bG m3.dfs.1⟩ ⟨p.2.2.2.2.1.trans m4.lkS,p.2.2.2.2.2.1.trans m4.lkO,p.2.2.2.1.trans m4.nt⟩
 ·refine bq (NG f h e d b) λu w' ⟨s',S',γ',β',m0,m1,m2,m3⟩=>?_;grind
def xe(hE:EnvOk P E){Q:Exit->Act->World->Prop}(ax:(ops.toList.all λo=>match o.op with|.store ..=>o.dst.isNone|_=>true)=true):∀ (N:Nat) (R:Type) (l:List (Nat×Oper)) {S:Nat->Nat->Prop} {γ:Nat->Option Nat} {β:Nat->Option (Nat×Nat)} {s:St} {a:Act} {w:World} (k:St->Option R) (r:R) (an:Ann),
  Rp w0 S γ β s a w->EV E s γ β (l.map Prod.snd)->(∀ (A B:List Oper) o o',l.map Prod.snd=A++o::B->o'∈B->∀ d,o'.dst=some d->o.dst≠some d)->(∀ p∈l,p.2∈ops.toList)->eZ E N R ops an l s k=some r ->
  (∀ s' S' γ' β' a' w',Rp w0 S' γ' β' s' a' w'->Fm s S γ a w S' γ' a' w'->Sk s s'->k s'=some r->Q .normal a' w')->wpListIn (FW ro) nn P ops Q (l.map Prod.snd) a w:=by
 intro N
 induction N with
 | zero=>intro R l S γ β s a w k r an _ _ _ _ h;simp[eZ] at h
 | succ N ih=>
  intro R l S γ β s a w k r an h X hd z b W;cases l with
  | nil=> simp only[eZ] at b;exact W s S γ β a w h (Fm.refl _ _ _ _ _) (Sk.refl s) b
  | cons p l=>
   obtain⟨i,o⟩:=p;have a4:Fr E s γ β o:=X o s6
   have a6:∀ T x y,o.op=.store T x y->o.dst=none:=λT x y e=>by
    have:=zya.1 ax o (z (i,o) s6)
    rw[e] at this;simpa using this
   have ad:∀ o'∈l.map Prod.snd,∀ d,o'.dst=some d->o.dst≠some d:=λo' f=>hd [] (l.map Prod.snd) o o' rfl f;have D:∀ (A B:List Oper) x Z,l.map Prod.snd=A++x::B->Z∈B->∀ d,Z.dst=some d->x.dst≠some d:=λA B x Z e hx=>hd (o::A) B x Z (by simp[e]) hx
   have m:∀ p∈l,p.2∈ops.toList:=λp hp=>z p (by simp[hp])
   have run:¬ mW s o=true->A4 E an l s o (λs'=>eZ E N R ops (rQ E o an) l s' k)=some r->o.wpIn (FW ro) nn P a w (wpListIn (FW ro) nn P ops Q (l.map Prod.snd)) Q:=by
    intro q he;have n:∀ t∈s.lkS,o.dst≠some t:=λt O e=>q (by simp[mW,e];exact O)
    unfold A4 at he;split at he
    ·split at he;rename_i a0;refine xd (K:=λs1=>eZ E N R ops (rQ E o an) l s1 k) hE h n he λu s' S' γ' β' w' m0 m1 m2 m3=>?_;have aI:EV E s' γ' β' (l.map Prod.snd):=λo' f=>by
      obtain⟨p,hp,rfl⟩:=zDb.1 f;have:=zya.1 a0 p hp;exact B5 (by simpa using this)
     exact ih R l k r _ m1 aI D m m0 λs2 S2 M L a2 I F G C H=>W s2 S2 M L a2 I F (m2.trans G m3.lkS m3.lkO) (m3.trans C) H;split at he<;>first|(cases he;done)|skip
     rename_i a5;refine xd (K:=λs1=>eZ E N R ops (rQ E o an) l (gf E (l.map Prod.snd) (uI s1)) k) hE h n he λu s' S' γ' β' w' m0 m1 m2 m3=>?_;obtain⟨q1,q2,q3⟩:=Cm (E:=E) m1 a5 λo' f=>X o' (by simp only[znb,zGa];exact .inr f)
     exact ih R l k r _ q1 q3 D m m0 λs2 S2 M L a2 I F G C H=>W s2 S2 M L a2 I F (m2.trans G (q2.lkS.trans m3.lkS) (q2.lkO.trans m3.lkO)) (m3.trans (q2.trans C)) H
    obtain⟨s',h1,J⟩:=A3 hE h a4 (λT t _ O=>hE.flat T t O) n a6 he;obtain⟨f1,f2,f3,f4,f5,f6⟩:=J;refine bq f6 λu w' ⟨S',γ',β',m1,m2,m3⟩=>?_;exact ih R l k r _ m1 (λo' f=>(X o' (by simp only[znb,zGa];exact .inr f)).keep (ad o' f) f3 f5 m3) D m h1 λs2 S2 M L a2 I F G C H=>W s2 S2 M L a2 I F (m2.trans G f1 f2) (Sk.trans ⟨f1,f2,f4⟩ C) H
   obtain⟨w1,I,w3⟩:=qn (ops:=ops) (o:=o) h;cases hg:o.guard with
   | some jw=>
    obtain⟨j,want⟩:=jw;simp only[eZ,hg] at b;split at b<;>first|(cases b;done)|skip
    rename_i g a7;split at b<;>first|(cases b;done)|skip
    rename_i q;have n:∀ t∈s.lkS,o.dst≠some t:=λt O e=>q (by simp[mW,e];exact O)
    have p:=aeE s o.dst .gone;have alt:(Region.wanted o (yielded ops a.tmps)=true/\(A4 E an l s o λs'=>eZ E N R ops (rQ E o an) l s' k)=some r)\/(Region.wanted o (yielded ops a.tmps)=false/\eZ E N R ops (rQ E o an) l (s.put o.dst .gone) k=some r):=by
     by_cases hgo:s.tm g=.gone
     ·grind [fF]
     rw[fG hgo] at b;obtain⟨c,h1,J⟩:=ab b;replace J:=lv (A:=λs=>A4 E an l s o λs'=>eZ E N R ops (rQ E o an) l s' k) (B:=λs=>eZ E N R ops (rQ E o an) l (s.put o.dst .gone) k) h1 J;all_goals grind
    rcases alt with⟨hw,J⟩|⟨hw,J⟩
    ·simp only[znb,wpListIn,hw,if_true];exact run q J
    ·simp only[znb,wpListIn,hw,zLa,if_false];refine⟨λ_ _=>trivial,?_⟩;exact ih R l k r _ (h.put (v:=.gone) (val:=undef) (by simp[AR]) o.dst) (λo' f=>(X o' (by simp only[znb,zGa];exact .inr f)).keep (ad o' f) p.2.1 (λid _ _=>by rw[p.1]) λid _=>⟨rfl,rfl⟩) D m J λs2 S2 M L a2 I F G C H=>W s2 S2 M L a2 I F (Fm.trans (s1:=s.put o.dst .gone) ⟨λ_ _ hb=>hb,λ_ _ _=>rfl,λt O=>bZ (n t O),λ_ _ _ hb=>⟨hb,jd.refl _ _⟩,zka _,λ_ _ hb=>hb,j6.same bG (da.refl _)⟩ G p.2.2.2.2.1 p.2.2.2.2.2.1) ((Sm.put s o.dst .gone).sk.trans C) H
   | none=>
    by_cases hgu:lJ E s i o l=true
    ·obtain⟨V,jj,pk,U,s5,s3,e1,q1,q2,q3,q4,Y,q6⟩:=KF hg hgu b;subst e1;have el:((i,o)::(V++(jj,pk)::U)).map Prod.snd=(o::(V.map Prod.snd++[pk]))++U.map Prod.snd:=s6
     rw[el] at X hd ⊢;refine xO hE _ _ h X hd q4 λS2 M L a2 I F G C H=>?_;refine ih R U k r an (F.wk Y) (λo' f=>?_) (λA B x Z e hx=>hd ((o::(V.map Prod.snd++[pk]))++A) B x Z (by rw[e];simp) hx) (λp hp=>z p (by simp[hp])) q6 λs2 S3 γ3 β3 a3 w3 m1 m2 m3 m4=>W s2 S3 γ3 β3 a3 w3 m1 (G.trans m2 (Y.lkS.trans C.lkS) (Y.lkO.trans C.lkO)) ((C.trans (Sm.wk Y)).sk.trans m3) m4
     have:=H o' f;intro hc d a1;obtain⟨r1,r2,r3,r4⟩:=this hc d a1;rw[Y.base_eq,Y.ob];exact⟨r1,r2,r3,r4⟩
    ·have al:lJ E s i o l=false:=by simpa using hgu
     simp only[eZ,hg,al,zLa,if_false] at b;split at b<;>first|(cases b;done)|skip
     rename_i q;simp only[znb,wpListIn,w1 hg,if_true];exact run q b
end
end Sy
end
noncomputable section
namespace Sy
open Go
def rR{s:St}{d:Option Nat}{v:AV}{x:Operand}(h:∀ t,d=some t->x≠.tmp t):(s.put d v).opA x=s.opA x:=by
 cases x with
 | tmp t=>
  cases d with
  | none=>rfl
  | some d=>
   have a:t≠d:=λe=>h d rfl (by rw[e])
   all_goals grind [St.opA,St.put]
 | const v=>rfl
 | global g=>rfl
 | func f=>rfl
section
variable{E:Env}{s s':St}
theorem ko(a:s'.ob=s.ob)(ty:Nat->Option Ty):∀ (l:List (Nat×Operand)),(∀ p∈l,s'.opA p.2=s.opA p.2)->partsD s'.ob s' ty l=partsD s.ob s ty l
 | [],_=>rfl
 | (i,x)::l,h=>by
  have ih:=ko a ty l (λp hp=>h p (by simp[hp]))
  simp_all [partsD,ih]
theorem oK(a:List Ty):∀ (l:List (Nat×Operand)),(∀ p∈l,s'.opA p.2=s.opA p.2)->l.all (fT s' a)=l.all (fT s a)
 | [],_=>rfl
 | p::l,h=>by simp only[zyb,oK a l (λq hq=>h q (by simp[hq])),fT,h p s6]
def Bg:∀ (l:List (Nat×Operand)),(∀ p∈l,s'.opA p.2=s.opA p.2)->(l.map λp=>(p.1,s'.opA p.2))=l.map λp=>(p.1,s.opA p.2):=λl h=> z5b λp hp=>by rw[h p hp]
def tU{o:Oper}(a:s'.ob=s.ob)(A:s'.fresh=s.fresh)(h:∀ x∈o.op.operands,s'.opA x=s.opA x):qv E s' o some=qv E s o some:=by
 have k:s'.base=s.base:=by simp only[St.base,A]
 obtain⟨dst,op,ty,pos,after,guard⟩:=o;have parts:∀ ps:Array (Nat×Operand),(∀ x∈(ps.toList.map Prod.snd).toArray,s'.opA x=s.opA x)->∀ p∈ps.toList,s'.opA p.2=s.opA p.2:=λps hp p hm=>hp p.2 (by rw[List.mem_toArray];exact zwb hm)
 cases op
 case move x=>simp only[qv,h x (by simp[Op.operands])]
 case assign x=>simp only[qv,h x (by simp[Op.operands])]
 case pick c x y=>simp only[qv,h c (by simp[Op.operands]),h x (by simp[Op.operands]),h y (by simp[Op.operands])]
 case alloc T=>simp only[qv,k]
 case build T ps=> have hp:=parts ps h;simp only[qv,ko a _ _ hp,oK _ _ hp,Bg _ hp]
 case buildSlice T n ps=> have hp:=parts ps h;simp only[qv,ko a _ _ hp,k]
 case makeSlice T x y=>simp only[qv,h x (by simp[Op.operands]),h y (by simp[Op.operands]),k]
 case load T x=>simp only[qv,h x (by simp[Op.operands]),a]
 case lookup T x i c=>simp only[qv,h x (by simp[Op.operands]),h i (by simp[Op.operands]),a]
 case nilCheck x=>simp only[qv,h x (by simp[Op.operands])]
 case binOp op T x y T'=>simp only[qv,h x (by simp[Op.operands]),h y (by simp[Op.operands])]
 case unOp op T x=>simp only[qv,h x (by simp[Op.operands])]
 case convert U T x=>simp only[qv,h x (by simp[Op.operands])]
 case makeFunc fn x y=>
  have B:∀ z∈y.toList,s'.opA z=s.opA z:=λz l=>h z (by simp only[Op.operands,Array.mem_append];exact .inr (by simpa using l))
  have u:(y.toList.all λz=>fH (s'.opA z))=y.toList.all λz=>fH (s.opA z):=by grind
  have e:y.toList.map s'.opA=y.toList.map s.opA:=z5b B;simp only[qv,u,e]
 case slice T x lo hi mx=>
  have d:=h x (by simp[Op.operands])
  cases mx with
  | some m=>simp only[qv]
  | none=>
   cases lo with
   | none=>
    cases hi with
    | none=>simp only[qv,d,a]
    | some j=>simp only[qv,d,a,h j (by simp[Op.operands])]
   | some i=>
    cases hi with
    | none=>simp only[qv,d,a,h i (by simp[Op.operands])]
    | some j=>simp only[qv,d,a,h i (by simp[Op.operands]),h j (by simp[Op.operands])]
 case sliceToArrayPointer T x=>simp only[qv,h x (by simp[Op.operands]),a]
 case fieldAddr T x f=>simp only[qv,h x (by simp[Op.operands])]
 case field T x f=>simp only[qv,h x (by simp[Op.operands])]
 case indexAddr T x i=>simp only[qv,h x (by simp[Op.operands]),h i (by simp[Op.operands]),a]
 case index T x i=>simp only[qv,h x (by simp[Op.operands]),h i (by simp[Op.operands])]
 case extract x i=>simp only[qv,h x (by simp[Op.operands])]
 case call c=>
  obtain⟨callee,args,argTypes⟩:=c;have q:∀ z∈args.toList,s'.opA z=s.opA z:=λz l=>h z (by simp only[Op.operands,Call.operands,Array.mem_append];exact .inr (by simpa using l))
  have e:args.toList.map s'.opA=args.toList.map s.opA:=z5b q;cases callee with
  | invoke r m=>rfl
  | value f=>
   cases f with
   | tmp t=>
    have w:s'.tm t=s.tm t:=h (.tmp t) (by simp[Op.operands,Call.operands])
    simp only[qv,e,w,a]
   | func f=>simp only[qv,e,a,k]
   | const v=>rfl
   | global g=>rfl
  | builtin b=>
   cases b<;>first|rfl|skip
   case len=>
    simp only[qv];cases hT:argTypes[0]? with
    | none=>rfl
    | some T=>
     cases hx:args[0]? with
     | none=>rfl
     | some x=> have:=q x (ztc.2 (zpc hx));simp only[zba,a];all_goals grind
   case min=> simp only[qv];all_goals grind
   case max=> simp only[qv];all_goals grind
 all_goals rfl
def xE{s:St}{d:Option Nat}{v:AV}{t:Nat}(h:d≠some t):(s.put d v).tm t=s.tm t:=by
 have:=rR (s:=s) (d:=d) (v:=v) (x:=.tmp t) (λu hu e=>h (by cases e;exact hu))
 exact this
def Dp{ops:Array Oper}{o:Oper}{d:Option Nat}{v:AV}(h:∀ t,d=some t->t ∉ o.looksAt ops):val E ops (s.put d v) o=val E ops s o:=by
 obtain⟨p1,f,l,m,i,n,q⟩:=aeE s d v;have a:mW (s.put d v) o=mW s o:=by simp only[mW,i]
 have b:qv E (s.put d v) o some=qv E s o some:=tU p1 f λx hx=>rR λt c e=>h t c (by subst e;exact zlb _ (zmd.2 ⟨.tmp t,by simpa using hx,rfl⟩))
 unfold val;rw[a,b];cases hg:o.guard with
 | none=>rfl
 | some p=>
  obtain⟨j,want⟩:=p;simp only;cases hgd:(ops[j]?).bind (·.dst) with
  | none=>rfl
  | some g=>
   have k:(s.put d v).tm g=s.tm g:=xE λe=>h g e (by unfold Oper.looksAt;rw[hg];exact zfb _ (by simp[hgd]))
   simp_all
def zT{s:St}{x y:Option Nat}(v u:AV)(h:∀ d,x=some d->y≠some d):(s.put x v).put y u=(s.put y u).put x v:=by
 cases x with
 | none=>rfl
 | some d=>
  cases y with
  | none=>rfl
  | some e=>
   have a:d≠e:=λhe=>h d rfl (he ▸ rfl);by_cases h1:d<s.nt
   ·by_cases h2:e<s.nt
    ·simp only[St.put,h1,h2,if_true];all_goals grind
    ·grind [St.put]
   ·grind [St.put]
end
variable{ro:Option Nat}{nn:Nat}
section
variable{E:Env}{ops:Array Oper}{md:Region.Mode}
def Ai(E:Env)(ops:Array Oper)(i:Nat)(K:St->Prop)(s:St):Prop:=
 match ops[i]? with
 | none=>K s
 | some o=>∃ v,val E ops s o=some v/\K (s.put o.dst v)
def DW(E:Env)(md:Region.Mode)(ops:Array Oper)(n:Nat)(L:Array Bool->St->Prop):Nat->Array Bool->St->Prop
 | 0,a,s=>L a s
 | f+1,a,s=>Region.ready md ops a≠[]/\∀ i∈Region.ready md ops a,i<n/\Ai E ops i (DW E md ops n L f (a.setIfInBounds i true)) s
def mQ(md:Region.Mode)(ops:Array Oper)(n:Nat):Prop:=∀ a i,HeadInv md ops n a->i<n->a.getD i true=false->∀ t,n<=t->t ∉ Region.ready md ops a
def tj{n i:Nat}{x:Oper}{v:AV}{L:Array Bool->St->Prop}(K:ops[i]?=some x)(B:mQ md ops n)(q:i<n)
  (m:∀ a s,L a s->∀ j∈Region.ready md ops a,n<=j) :
  ∀ (f:Nat) (a:Array Bool) (s:St),HeadInv md ops n a ->
   (∀ j p,j<n->ops[j]?=some p->j≠i->a.getD j true=false->(∀ e∈p.after,Region.binds md e=true->e.on≠i)->x.apart ops p=true) ->
   i∈Region.ready md ops a->val E ops s x=some v ->
   DW E md ops n L f (a.setIfInBounds i true) (s.put x.dst v)->DW E md ops n L (f+1) a s:=by
 intro f
 induction f with
 | zero=>
  intro a s inv _ l D H;have g:=(mem_ready.1 l).1;refine⟨λh=>(by rw[h] at l;cases l),λj o=>?_⟩
  have c:j<n:=by
   rcases zta j n with h|h
   ·exact h
   ·exact z3a o (B _ _ inv q g j h)
  refine⟨c,?_⟩;by_cases hji:j=i
  ·simp_all [Ai]
  ·have:=m _ _ H j (ready_mono o hji);omega
 | succ f ih=>
  intro a s inv b l D H;have g:=(mem_ready.1 l).1;refine⟨λh=>(by rw[h] at l;cases l),λj o=>?_⟩
  have c:j<n:=by
   rcases zta j n with h|h
   ·exact h
   ·exact z3a o (B _ _ inv q g j h)
  refine⟨c,?_⟩;by_cases hji:j=i
  ·simp_all [Ai]
  ·have h1:=(H.2 j (ready_mono o hji)).2;obtain⟨r,p,w,C⟩:=mem_ready.1 o;have t:∀ e∈p.after,Region.binds md e=true->e.on≠i:=λe he J heq=>by
    grind
   obtain⟨a1,a2,a3⟩:=Oper.apart_spec (b j p c w hji r t);unfold Ai at h1 ⊢;rw[w] at h1 ⊢;obtain⟨u,F,I⟩:=h1;rw[Dp a1] at F;refine⟨u,F,ih (a.setIfInBounds j true) (s.put p.dst u) (inv.set o c) (λk ok z hk y g A=>?_) (ready_mono l (Ne.symm hji)) ?_ ?_⟩
   ·refine b k ok z hk y ?_ A;by_cases hjk:j=k
    ·simp_all
    ·simp_all
   ·rw[Dp a3];exact D
   ·rw[Array.setIfInBounds_comm _ _ hji,zT u v (λd G he=>a2 d he G)];exact I
theorem zg{n g:Nat}{Lq:St->Prop}(i:mQ md ops n) :
  ∀ (l:List Oper) (k:Nat) (a:Array Bool) (s s':St),(∀ j,j<l.length->l[j]?=ops[k+j]?)->k+l.length=n->HeadInv md ops n a ->
  Region.lexHead md ops g l.length k a=true->seqV E ops l s=some s'->Lq s' ->
  DW E md ops n (λb s'=>Region.seqB md ops g n b=true/\Lq s') l.length a s
 | [],k,a,s,s',_,hk,_,e,h,hL=>by
  have:k=n:=by simpa using hk
  subst this;simp only[seqV,zda] at h;subst h;exact⟨by simpa [Region.lexHead] using e,hL⟩
 | o::l,k,a,s,s',hl,hk,inv,e,h,hL=>by
  have h0:ops[k]?=some o:=by simpa using(hl 0 s6).symm
  simp only[zOa,Region.lexHead,zaa] at e;obtain⟨⟨q,p⟩,f⟩:=e;have c:k<n:=k7
  have d:k∈Region.ready md ops a:=by simpa using q
  simp only[seqV] at h;obtain⟨v,h1,m⟩:=ab h;exact tj h0 i c (λb s' hL=>seqB_ready hL.1) l.length a s inv (λj r _=>Region.free_spec h0 p j r) d h1
   (zg i l (k+1) _ _ s' (λj t=>by have:=hl (j+1) (by simp;omega);simpa [zEb,zxc 1 j] using this) (by simp only[zOa] at hk;omega) (inv.set d c) f m hL)
end
section
variable{P:Program}{E:Env}{w0:Root}{ops:Array Oper}
theorem gG(y:EnvOk P E){md:Region.Mode}{n g:Nat}{L:Array Bool->St->Prop}{Q:Exit->Act->World->Prop}{s0:St}{S0:Nat->Nat->Prop}{γ0:Nat->Option Nat}{a0:Act}{w1:World}
  (z:∀ (i j:Nat) (H c:Oper),i≠j->ops[i]?=some H->ops[j]?=some c->∀ d,c.dst=some d->H.dst≠some d)
  (hL:∀ b s S γ β a w,Rp w0 S γ β s a w->Fm s0 S0 γ0 a0 w1 S γ a w->Sm s0 s->(∀ j c,ops[j]?=some c->b.getD j true=false->Fr E s γ β c)->L b s->wpAnyIn (FW ro) nn P md ops Q g b a w) :
  ∀ (f:Nat) (b:Array Bool) (s:St) (S:Nat->Nat->Prop) (γ:Nat->Option Nat) (β:Nat->Option (Nat×Nat)) (a:Act) (w:World),Rp w0 S γ β s a w->Fm s0 S0 γ0 a0 w1 S γ a w->Sm s0 s ->
   (∀ j c,ops[j]?=some c->b.getD j true=false->Fr E s γ β c)->DW E md ops n L f b s->wpAnyIn (FW ro) nn P md ops Q (f+g) b a w
 | 0,b,s,S,γ,β,a,w,h,t,l,e,x=>by rw[z8a];exact hL _ _ _ _ _ _ _ h t l e x
 | f+1,b,s,S,γ,β,a,w,h,t,l,e,x=>by
  rw[show f+1+g=(f+g)+1 by omega]
  refine⟨λh0=>z3a h0 x.1,λi B=>?_⟩;obtain⟨_,k⟩:=x.2 i B;have D:=(mem_ready.1 B).1;unfold Ai at k;unfold wpOpIn;cases ho:ops[i]? with
  | none=> obtain⟨_,o,r,_⟩:=mem_ready.1 B;rw[ho] at r;cases r
  | some o=>
   rw[ho] at k;simp only at k ⊢;obtain⟨v,h1,F⟩:=k;obtain⟨I,J⟩:=BW y h (e i o ho D) h1;have p:=aeE s o.dst v;have m:∀ {γ':Nat->Option Nat} {β':Nat->Option (Nat×Nat)},(∀ id,o.dst≠some (id-s.base)\/id<s.base->γ' id=γ id/\β' id=β id)->∀ j c,ops[j]?=some c->(b.setIfInBounds i true).getD j true=false->Fr E (s.put o.dst v) γ' β' c:=λhk j c G hu=>by
    by_cases hij:i=j
    ·subst hij;exfalso;rcases zta i b.size with C|q
     ·simp[Array.getD,C] at hu
     ·simp[Array.getD,q,zIc.2 q] at hu
    ·rw[getD_set_ne true hij] at hu;exact(e j c G hu).keep (λd A=>z i j o c hij ho G d A) p.2.1 (λid _ _=>by rw[p.1]) hk
   split
   ·rename_i hw;refine(bq (I hw) λu w' ⟨S',γ',β',m1,m2,m3⟩=>?_);exact gG y z hL f _ _ S' γ' β' _ _ m1 (t.trans m2 l.lkS l.lkO) (l.trans (Sm.put s o.dst v)) (m m3) F
   ·rename_i hw;obtain⟨m1,m2⟩:=J (by simpa using hw)
    refine⟨λ_ _=>trivial,?_⟩;exact gG y z hL f _ _ S γ β _ _ m1 (t.trans m2 l.lkS l.lkO) (l.trans (Sm.put s o.dst v)) (m λid _=>⟨rfl,rfl⟩) F
def ji{l:List Oper}(h:cZ (l.filterMap (·.dst))=true){i j:Nat}{a b:Oper}(n:i≠j)(g:l[i]?=some a)(o:l[j]?=some b)(d:Nat)(e:b.dst=some d):a.dst≠some d:=by
 obtain⟨k,m⟩:=zna.1 g;obtain⟨p,q⟩:=zna.1 o;rcases zta i j with r|f
 ·refine fr h (l.take i) (l.drop (i+1)) a b ?_ ?_ d e
  ·grind [List.drop_eq_getElem_cons,List.take_append_drop]
  ·refine zbb (i:=j-(i+1)) ?_;grind
 ·intro c;refine fr h (l.take j) (l.drop (j+1)) b a ?_ ?_ d c e
  ·grind [List.drop_eq_getElem_cons,List.take_append_drop]
  ·refine zbb (i:=i-(j+1)) ?_;grind
theorem bi:∀ (l:List Oper) (i:Nat),(aW i l).map Prod.snd=l
 | [],_=>rfl
 | o::l,i=>by simp only[aW,znb,bi l (i+1)]
def kn{l:List Oper}{i:Nat}{p:Nat×Oper}(h:p∈aW i l):p.2∈l:=by
 have:p.2∈(aW i l).map Prod.snd:=zwb h
 rwa [bi] at this
theorem gE:∀ (l:List Oper) (i:Nat),(aW i l).length=l.length
 | [],_=>rfl
 | o::l,i=>by simp only[aW,zOa,gE l (i+1)]
def Et(X:EnvOk P E){id:Nat}{dr:Bool}{n:Nat}{Q:Exit->Act->World->Prop}{S:Nat->Nat->Prop}{γ:Nat->Option Nat}{β:Nat->Option (Nat×Nat)}{s:St}{a:Act}{w:World}{R:Type}{k:St->Option R}{r:R}{N:Nat}
  (h:Rp w0 S γ β s a w) (hf:EV E s γ β ops.toList) (hm:cH ops.toList=true) (q:(!dr||pN E ops n)=true) {an:Ann} (K:eZ E N R ops an (aW 0 ops.toList) s k=some r)
  (hQ:∀ s' S' γ' β' a' w',Rp w0 S' γ' β' s' a' w'->Fm s S γ a w S' γ' a' w'->Sk s s'->k s'=some r->Q .normal a' w'):(Code.region id ops dr).wpIn (FW ro) nn P Q a w:=by
 simp only[cH,zaa] at hm;obtain⟨⟨C,a6⟩,ax⟩:=hm;have l:(ops.toList.all λo=>match o.op with|.store ..=>o.dst.isNone|_=>true)=true:=ax
 cases dr with
 | false=>
  refine wpIn_region_list ?_;have:=xe (ro:=ro) (nn:=nn) (ops:=ops) X l N R (aW 0 ops.toList) k r an h (by rw[bi];exact hf) (by rw[bi];exact λA B o o' e D d z=>fr C A B o o' e D d z) (λp hp=>kn hp) K hQ
  rwa [bi] at this
 | true=>
  simp only[z1c,zed,pN,zaa] at q;obtain⟨⟨⟨⟨⟨d0,d1⟩,d2⟩,d3⟩,d4⟩,d5⟩:=q;have hn:n<=ops.size:=by
   simp only[zKb,zia,zaa] at d3;rcases d3 with d3|d3
   ·omega
   ·omega
  have hW:mQ .any ops n:=by
   intro f i inv al a1 t ht hr;simp only[zKb,zia,zaa] at d3;rcases d3 with d3|⟨⟨d3,d6⟩,d7⟩
   ·obtain⟨_,o,D,_⟩:=mem_ready.1 hr;have:=(zpa.1 D).1;omega
   ·exact tail_waits d6 d7 d3 inv _ i rfl al a1 t ht hr
  obtain⟨s',a4,N',q1,I,q3⟩:=s7 N R (aW 0 ops.toList) s k r n an (by rw[gE,zFb];exact hn) (λp hp=>by
    have u:p.2∈ops.toList.take n:=by
     have:p.2∈((aW 0 ops.toList).take n).map Prod.snd:=zwb hp
     rwa [zxd,bi] at this
    exact⟨zya.1 d4 _ u,by simpa using zya.1 d0 _ u⟩) (.inl λp hp c x y e=>by
    have u:p.2∈ops.toList.drop n:=by
     have:p.2∈((aW 0 ops.toList).drop n).map Prod.snd:=zwb hp
     rwa [zLc,bi] at this
    have:=zya.1 d5 _ u;simp only[zaa] at this;have W:=this.2;rw[e] at W;cases W) K
  rw[zxd,bi] at q1;refine wpIn_region_any X.mixed ?_;have Z:∃ os d,w.drawn<=d/\({ w with drawn:=w.drawn+1 }:World)=grown w os d:=⟨[],w.drawn+1,zCc _,by simp[grown]⟩
  obtain⟨os,d,q,Z⟩:=Z;obtain⟨g1,g2⟩:=h.grow (os:=os) (d:=d) q (S':=S) (λ_ _ m=>m) (λ_ _ m=>.inl m);rw[Z];have hlen:(ops.toList.take n).length=n:=by simp;omega
  have V:HeadInv .any ops n (Array.replicate ops.size false):=
   ⟨s6,λj G _ hl=>(by rw[getD_replicate_false] at hl;cases hl),λt _ ht=>getD_in (by simpa using ht) (getD_replicate_false _ _)⟩
  have H:=zg (E:=E) (md:=.any) (g:=ops.size-n) (Lq:=λs=>s=s') hW (ops.toList.take n) 0 (Array.replicate ops.size false) s s' (λj v=>by rw[hlen] at v;rw[zsb v,z8a,zJa]) (by rw[hlen,z8a]) V (by rw[hlen];exact d2) q1 rfl
  have J:(ops.toList.drop n).length=ops.size-n:=s6
  have:=gG (ro:=ro) (nn:=nn) (Q:=Q) (g:=ops.size-n) X (s0:=s) (S0:=S) (γ0:=γ) (a0:=a) (w1:=grown w os d) (λi j oi G ad hi v d z=>ji C ad (by rw[zJa];exact hi) (by rw[zJa];exact v) d z)
   (λf s2 S2 γ2 β2 a2 w2 m1 m2 m3 m4 m5=>by
    obtain⟨m5,m6⟩:=m5;subst m6;have O:=jb (F:=FW ro) (n:=nn) (P:=P) (md:=.any) (ops:=ops) (Q':=Q) (ops.toList.drop n) n f a2 w2 (λj=>by rw[zBb,zJa]) (by rw[J];exact m5) ?_
    ·rwa [J] at O
    have U:∀ j G,ops[j]?=some G->n<=j->f.getD j true=false:=by
     intro j G v aI;have key:∀ (g k:Nat) (f:Array Bool),Region.seqB .any ops g k f=true->∀ j,k<=j->j<k+g->f.getD j true=false:=by
      intro g
      induction g with
      | zero=>intro k f _ j h1 W;omega
      | succ g ih=>
       intro k f Y j h1 W;simp only[Region.seqB,zaa,zia] at Y;by_cases M:j=k
       ·subst M;have:j∈Region.ready .any ops f:=by rw[Y.1];simp
        exact(mem_ready.1 this).1
       ·have:=ih (k+1) _ Y.2 j j1 j1
        rwa [getD_set_ne true (Ne.symm M)] at this
     have a5:=(zpa.1 v).1;exact key _ _ _ m5 j aI j1
    have T:∀ o∈ops.toList.drop n,Fr E a4 γ2 β2 o:=λo D=>by
     obtain⟨i,hi,he⟩:=z2a D;have L:ops[n+i]?=some o:=by
      have:(ops.toList.drop n)[i]?=some o:=by rw[zea hi,he]
      rwa [zBb,zJa] at this
     have:=m4 (n+i) o L (U _ _ L j1)
     intro hc d z;obtain⟨r1,r2,r3,r4⟩:=this hc d z;rw[I.base_eq,I.ob];exact⟨r1,r2,r3,r4⟩
    have fin:=xe (ro:=ro) (nn:=nn) (ops:=ops) X (Q:=Q) l N' R ((aW 0 ops.toList).drop n) k r an (m1.wk I) (by rw[zLc,bi];exact T)
     (by rw[zLc,bi];intro A B o o' e D d z;exact fr C (ops.toList.take n++A) B o o' (by rw[zXa,<-e,zua]) D d z)
     (λp hp=>kn (z2b hp)) q3 (λs3 S3 γ3 β3 a3 w3 n1 n2 n3 n4=>by
      refine hQ s3 S3 γ3 β3 a3 w3 n1 ?_ ((m3.trans (Sm.wk I)).sk.trans n3) n4;have f0:Fm s S γ a w S γ a (grown w os d):=⟨λ_ _ m=>m,g2.cell,λ_ _=>rfl,λid hid b m=>⟨m,.inl (c9 (h.γn id b m).2)⟩,s6,λ_ _ m=>m,j6.same rfl da.grown⟩
      exact(f0.trans m2 rfl rfl).trans n2 (I.lkS.trans m3.lkS) (I.lkO.trans m3.lkO))
    rwa [zLc,bi] at fin)
   (ops.toList.take n).length (Array.replicate ops.size false) s S γ β a (grown w os d) g1 (Fm.refl _ _ _ _ _) (Sm.refl s) (λj G v _=>hf G (ztc.2 (zpc v))) H
  rw[hlen,show n+(ops.size-n)=ops.size by omega] at this
  exact this
end
end Sy
end
noncomputable section
namespace Sy
open Go
mutual
theorem rV:∀ (a a':AV),AV.same a a'=true->a=a'
 | .ptr t id p,a',h=>by
  cases a'<;>simp only[AV.same,zaa,zia] at h<;>first|(cases h;done)|skip
  grind [aeK]
 | .mem t id,a',h=>by
  cases a'<;>simp only[AV.same,zaa,zia] at h<;>first|(cases h;done)|skip
  grind [aeK]
 | .clo f l,a',h=>by
  cases a'<;>simp only[AV.same,zaa,zia] at h<;>first|(cases h;done)|skip
  obtain⟨rfl,h1⟩:=h;rw[Ad _ _ h1]
 | .map kt vt id,a',h=>by
  cases a'<;>simp only[AV.same,zaa,zia] at h<;>first|(cases h;done)|skip
  grind [aeK]
 | .yld id,a',h=>by
  cases a'<;>simp only[AV.same,zia] at h<;>first|(cases h;done)|skip
  subst h;rfl
 | .sub sl t id p lo n,a',h=>by
  cases a'<;>simp only[AV.same,zaa,zia] at h<;>first|(cases h;done)|skip
  grind [aeK]
 | .gone,a',h=>by simp[AV.same] at h
 | .tpo ..,a',h=>by simp[AV.same] at h
 | .d ..,a',h=>by simp[AV.same] at h
 | .own ..,a',h=>by simp[AV.same] at h
 | .nils,a',h=>by simp[AV.same] at h
 | .fptr ..,a',h=>by simp[AV.same] at h
 | .st ..,a',h=>by simp[AV.same] at h
 | .undef,a',h=>by simp[AV.same] at h
theorem Ad:∀ (l l':List AV),adQ l l'=true->l=l'
 | [],l',h=>by grind [adQ]
 | a::l,l',h=>by
  cases l' with
  | nil=>simp[adQ] at h
  | cons a' l'=> simp only[adQ,zaa] at h;rw[rV _ _ h.1,Ad _ _ h.2]
end
structure Two(n:Nat)(c c':Cx):Prop where
 w:c'.w=c.w
 S:c'.S=c.S
 γ:∀ id,id<n->c'.γ id=c.γ id
 ob:∀ id,id<n->∀ o',c'.ob id=some o'->∃ o,c.ob id=some o/\(∀ p,eC o' p=eC o p/\ci o' p=ci o p)/\(∀ t l,o=.many t l->∃ l',o'=.many t l'/\l'.length=l.length)/\∀ kt vt l,o=.mp kt vt l->∃ l',o'=.mp kt vt l'
mutual
theorem GU{n:Nat}{c c':Cx}(h:Two n c c'):∀ (a:AV) (cs:List Value),AV.old n a=true->AC c a cs->AC c' a cs
 | .ptr t id p,cs,ho,k=>by
  simp only[AV.old,zia] at ho;simp only[AC] at k ⊢;obtain⟨b,off,rfl,k1,k2⟩:=k;refine⟨b,off,rfl,by rw[h.γ id ho];exact k1,λo' ho'=>?_⟩
  obtain⟨o,h1,h2,_⟩:=h.ob id ho o' ho'
  simp_all
 | .mem t id,cs,ho,k=>by
  simp only[AV.old,zia] at ho;simp only[AC] at k ⊢;obtain⟨k0,b,k1,k2⟩:=k;refine⟨k0,b,by rw[h.γ id ho];exact k1,λo' ho'=>?_⟩
  obtain⟨o,h1,_,h3,_⟩:=h.ob id ho o' ho';grind
 | .map kt vt id,cs,ho,k=>by
  simp only[AV.old,zia] at ho;simp only[AC] at k ⊢;obtain⟨b,e,k1,k2,k3,k4⟩:=k;refine⟨b,e,by rw[h.γ id ho];exact k1,k2,k3,λo' ho'=>?_⟩
  obtain⟨o,h1,_,_,h3⟩:=h.ob id ho o' ho';grind
 | .yld id,cs,ho,k=>by simp only[AV.old,zia] at ho;simp only[AC] at k ⊢;obtain⟨L,rfl,k1⟩:=k;exact⟨L,rfl,by rw[h.γ id ho];exact k1⟩
 | .clo f l,cs,ho,k=>by simp only[AV.old] at ho;simp only[AC] at k ⊢;obtain⟨caps,rfl,k1⟩:=k;exact⟨caps,rfl,C7 h l caps ho k1⟩
 | .sub sl t id p lo m,cs,ho,k=>by
  simp only[AV.old,zia] at ho;simp only[AC] at k ⊢;obtain⟨k0,b,off,cap,rfl,k1,k2⟩:=k;refine⟨k0,b,off,cap,rfl,by rw[h.γ id ho];exact k1,λo' ho'=>?_⟩
  obtain⟨o,h1,h2,_⟩:=h.ob id ho o' ho'
  simp_all
 | .gone,_,ho,_=>by simp[AV.old] at ho
 | .tpo ..,_,ho,_=>by simp[AV.old] at ho
 | .d ..,_,ho,_=>by simp[AV.old] at ho
 | .own ..,_,ho,_=>by simp[AV.old] at ho
 | .nils,_,ho,_=>by simp[AV.old] at ho
 | .fptr ..,_,ho,_=>by simp[AV.old] at ho
 | .st ..,_,ho,_=>by simp[AV.old] at ho
 | .undef,_,ho,_=>by simp[AV.old] at ho
theorem C7{n:Nat}{c c':Cx}(h:Two n c c'):∀ (l:List AV) (cs:List Value),adP n l=true->mN c l cs->mN c' l cs
 | [],cs,_,k=>by simpa only[mN] using k
 | a::l,cs,ho,k=>by simp only[adP,zaa] at ho;simp only[mN] at k ⊢;obtain⟨v,c2,rfl,k1,k2⟩:=k;exact⟨v,c2,rfl,GU h a _ ho.1 k1,C7 h l c2 ho.2 k2⟩
end
mutual
def aer:Sh->AV->Nat->List (Nat×Nat)
 | .ow _,.own _ v _,j=>[(j,v)]
 | .st _ l,.st _ l',j=>aes l l' j
 | _,_,_=>[]
def aes:List Sh->List AV->Nat->List (Nat×Nat)
 | h::l,a::l',j=>aer h a j++aes l l' (j+h.cnt)
 | _,_,_=>[]
end
mutual
theorem xX:∀ (h:Sh) (a:AV) (j:Nat),(aer h a j).map Prod.snd=aet h a
 | .ow _,a,j=>by cases a<;>rfl
 | .st _ l,a,j=>by cases a<;>first|rfl|exact At l _ j
 | .dv _,a,j=>by cases a<;>rfl
 | .same _,a,j=>by cases a<;>rfl
theorem At:∀ (l:List Sh) (l':List AV) (j:Nat),(aes l l' j).map Prod.snd=aeu l l'
 | [],l',j=>by cases l'<;>rfl
 | h::l,[],j=>rfl
 | h::l,a::l',j=>by simp only[aes,aeu,zmb,xX h a j,At l l' _]
end
def Pl(l:List (Nat×Nat))(i j:Nat):Prop:=(∀ p∈l,i<=p.1/\p.1<j)/\∀ p∈l,∀ q∈l,p.1=q.1->p=q
def Pl.nil(i j:Nat):Pl [] i j:=⟨λp h=>(by cases h),λp h=>(by cases h)⟩
def Pl.append{l l':List (Nat×Nat)}{i j k:Nat}(h:Pl l i j)(a:Pl l' j k)(h1:i<=j)(b:j<=k):Pl (l++l') i k:=by
 refine⟨λp hp=>?_,λp hp q hq e=>?_⟩
 ·rcases zIa.1 hp with hp|hp
  ·have:=h.1 p hp;omega
  ·have:=a.1 p hp;omega
 ·rcases zIa.1 hp with hp|hp<;>rcases zIa.1 hq with hq|hq
  ·exact h.2 p hp q hq e
  ·have:=h.1 p hp;have:=a.1 q hq;omega
  ·have:=a.1 p hp;have:=h.1 q hq;omega
  ·exact a.2 p hp q hq e
mutual
theorem BP:∀ (h:Sh) (a:AV) (j:Nat),Pl (aer h a j) j (j+h.cnt)
 | .ow _,a,j=>by
  cases a<;>first
   | exact Pl.nil _ _
   | exact⟨λp hp=>by simp[aer] at hp;subst hp;simp[Sh.cnt],λp hp q hq _=>by simp[aer] at hp hq;rw[hp,hq]⟩
 | .st _ l,a,j=>by
  cases a<;>first
   | exact Pl.nil _ _
   | (simp only[aer,Sh.cnt];exact Dm l _ j)
 | .dv _,a,j=>by cases a<;>exact Pl.nil _ _
 | .same _,a,j=>by cases a<;>exact Pl.nil _ _
theorem Dm:∀ (l:List Sh) (l':List AV) (j:Nat),Pl (aes l l' j) j (j+aen l)
 | [],l',j=>by cases l'<;>exact Pl.nil _ _
 | h::l,[],j=>Pl.nil _ _
 | h::l,a::l',j=>by
  simp only[aes,aen];rw[show j+(h.cnt+aen l)=j+h.cnt+aen l by omega]
  exact(BP h a j).append (Dm l l' _) j1 j1
end
mutual
theorem lV{ob:Nat->Option Ob}{dead:List Nat}:∀ (h:Sh) (a:AV) (x:List D),Sh.dec ob dead h a=some x->x.length=h.cnt
 | .dv t,a,x,e=>by
  have e':((adR ob t a).bind λx=>some [x])=some x:=by cases a<;>exact e
  obtain⟨y,_,h2⟩:=ab e';simp only[zda] at h2;subst h2;rfl
 | .ow t,a,x,e=>by
  cases a<;>simp only[Sh.dec] at e<;>first|(cases e;done)|skip
  ·split at e<;>first|(cases e;done)|skip
   simp only[zda] at e;subst e;rfl
  ·simp only[zda] at e;subst e;rfl
 | .same b,a,x,e=>by
  have e':(if AV.same b a then some ([]:List D) else none)=some x:=by cases a<;>exact e
  split at e'<;>first|(cases e';done)|skip
  simp only[zda] at e';subst e';rfl
 | .st ts l,a,x,e=>by
  cases a<;>simp only[Sh.dec] at e<;>first|(cases e;done)|skip
  split at e<;>first|(cases e;done)|skip
  exact yP l _ x e
theorem yP{ob:Nat->Option Ob}{dead:List Nat}:∀ (l:List Sh) (l':List AV) (x:List D),aeo ob dead l l'=some x->x.length=aen l
 | [],l',x,e=>by
  cases l'<;>simp only[aeo] at e<;>first|(cases e;done)|skip
  simp only[zda] at e;subst e;rfl
 | h::l,[],x,e=>by simp[aeo] at e
 | h::l,a::l',x,e=>by simp only[aeo] at e;obtain⟨y,h1,e⟩:=ab e;obtain⟨z,h2,e⟩:=ab e;simp only[zda] at e;subst e;simp only[zFa,lV h a y h1,yP l l' z h2,aen]
end
mutual
theorem pL{ob:Nat->Option Ob}{dead:List Nat}:∀ (h:Sh) (a:AV) (x:List D),Sh.dec ob dead h a=some x->∀ v∈aet h a,v ∉ dead
 | .dv t,a,x,e=>by simp_all [aet]
 | .ow t,a,x,e=>by
  intro v hv;cases a<;>simp only[aet,zTb,zKa] at hv;subst hv;simp only[Sh.dec] at e
  simp_all
 | .same b,a,x,e=>by simp_all [aet]
 | .st ts l,a,x,e=>by
  intro v hv;cases a<;>simp only[aet,zTb] at hv;simp only[Sh.dec] at e;split at e<;>first|(cases e;done)|skip
  exact sS l _ x e v hv
theorem sS{ob:Nat->Option Ob}{dead:List Nat}:∀ (l:List Sh) (l':List AV) (x:List D),aeo ob dead l l'=some x->∀ v∈aeu l l',v ∉ dead
 | [],l',x,e=>by simp_all [aeu]
 | h::l,[],x,e=>by simp[aeo] at e
 | h::l,a::l',x,e=>by
  intro v hv;simp only[aeo] at e;obtain⟨y,h1,e⟩:=ab e;obtain⟨z,h2,e⟩:=ab e;simp only[aeu] at hv;rcases zIa.1 hv with hv|hv
  ·exact pL h a y h1 v hv
  ·exact sS l l' z h2 v hv
end
mutual
theorem p8(b:Nat):∀ (h:Sh) (j:Nat) (s:List D),(Sh.mk b h j s).2=j+h.cnt
 | .dv t,j,s=>rfl
 | .ow t,j,s=>rfl
 | .same a,j,s=>rfl
 | .st ts l,j,s=>by simp only[Sh.mk,Sh.cnt];exact C1 b l j s
theorem C1(b:Nat):∀ (l:List Sh) (j:Nat) (s:List D),(aeq b l j s).2=j+aen l
 | [],j,s=>rfl
 | h::l,j,s=>by simp only[aeq,aen,p8 b h j s,C1 b l,zEb]
end
mutual
theorem C0(b:Nat):∀ (h:Sh) (t:Ty) (j:Nat) (s:List D),Sh.fits t h=true->AV.fits t (Sh.mk b h j s).1=true
 | .dv t',t,j,s,h=>by
  have h':t.beq t'=true:=by cases t<;>exact h
  rw[aeK _ _ h'];exact bH _ _
 | .ow e,t,j,s,h=>by
  have h':t.beq (.sl e)=true:=by cases t<;>exact h
  rw[aeK _ _ h'];simp only[Sh.mk,AV.fits];exact aeJ _
 | .same a,t,j,s,h=>by cases t<;>simp[Sh.fits] at h
 | .st ts l,t,j,s,h=>by
  have h':(t.beq (.st ts)&&Sh.fitss ts l)=true:=by cases t<;>exact h
  simp only[zaa] at h';rw[aeK _ _ h'.1];simp only[Sh.mk,AV.fits,zaa];have:=aeJ (.st ts);simp only[Ty.beq] at this;exact⟨this,tJ b l ts j s h'.2⟩
theorem tJ(b:Nat):∀ (l:List Sh) (ts:List Ty) (j:Nat) (s:List D),Sh.fitss ts l=true->AV.fitss ts (aeq b l j s).1=true
 | [],ts,j,s,h=>by cases ts<;>simp only[Sh.fitss] at h<;>first|(cases h;done)|rfl
 | h::l,[],j,s,e=>by simp[Sh.fitss] at e
 | h::l,t::ts,j,s,e=>by simp only[Sh.fitss,zaa] at e;simp only[aeq,AV.fitss,zaa];exact⟨C0 b h t j s e.1,tJ b l ts _ s e.2⟩
end
def Cf(s x:List D)(j:Nat):Prop:=∀ i,i<x.length->s[j+i]?=x[i]?
def Cf.left{s x y:List D}{j:Nat}(h:Cf s (x++y) j):Cf s x j:=λi a=>by rw[h i (by simp;omega),zeb a]
def Cf.right{s x y:List D}{j:Nat}(h:Cf s (x++y) j):Cf s y (j+x.length):=λi a=>by rw[zEb,h (x.length+i) (by simp;omega),zOb j1,zvb]
mutual
theorem zD{n b:Nat}{c c':Cx}(T:Two n c c'):∀ (h:Sh) (a:AV) (j:Nat) (s x:List D) (cs:List Value),Sh.dec c.ob c.dead h a=some x->Cf s x j->Sh.fine n h=true ->
  (∀ p∈aer h a j,c'.β (b+p.1)=c.β p.2)->AC c a cs->AC c' (Sh.mk b h j s).1 cs
 | .dv t,a,j,s,x,cs,e,hs,hf,hb,k=>by
  have e':((adR c.ob t a).bind λx=>some [x])=some x:=by cases a<;>exact e
  obtain⟨y,h1,h2⟩:=ab e';simp only[zda] at h2;subst h2;obtain⟨k1,k2,_⟩:=qj _ _ _ _ h1 k;have hj:s[j]?=some y:=by have:=hs 0 s6;simpa using this
  simp only[Sh.mk,AC,List.getD,hj,z4b,T.w,T.S];exact⟨k1,hf,k2⟩
 | .ow t,a,j,s,x,cs,e,hs,hf,hb,k=>by
  cases a<;>simp only[Sh.dec] at e<;>first|(cases e;done)|skip
  ·rename_i t' v l;split at e<;>first|(cases e;done)|skip
   rename_i hd;simp only[zaa,zCa] at hd;simp only[zda] at e;subst e;have hj:s[j]?=some (.sl l):=by have:=hs 0 s6;simpa using this
   have he:=aeK _ _ hd.1;subst he;simp only[AC] at k;obtain⟨k0,k1,ad,cap,rfl,k2,k3⟩:=k;simp only[Sh.mk,AC,List.getD,hj,z4b,D.els,T.w,T.S];refine⟨k0,k1,ad,cap,rfl,k2,λ_=>?_⟩;rcases k3 (by simpa using hd.2) with h3|⟨bb,off,h3,h4,m,h5,h6⟩
   ·exact .inl h3
   ·refine .inr ⟨bb,off,h3,?_,m,by rw[T.w];exact h5,h6⟩
    have:=hb (j,v) (by simp[aer])
    rw[<-h4];exact this
  ·simp only[zda] at e;subst e;have hj:s[j]?=some (.sl []):=by have:=hs 0 s6;simpa using this
   simp only[AC] at k;subst k;simp only[Sh.mk,AC,List.getD,hj,z4b,D.els];refine⟨hf,λx hx=>(by cases hx),none,0,rfl,?_,λ_=>.inl ⟨rfl,rfl⟩⟩
   exact adS (b:=0) (off:=0) (.inl rfl) (zoa _) ⟨[],cL.nil,λi c hc=>by simp at hc⟩
 | .same a',a,j,s,x,cs,e,hs,hf,hb,k=>by
  have e':(if AV.same a' a then some ([]:List D) else none)=some x:=by cases a<;>exact e
  split at e'<;>first|(cases e';done)|skip
  rename_i hsm;have:=rV _ _ hsm;subst this;simp only[Sh.fine] at hf;exact GU T _ _ hf k
 | .st ts l,a,j,s,x,cs,e,hs,hf,hb,k=>by
  cases a<;>simp only[Sh.dec] at e<;>first|(cases e;done)|skip
  rename_i ts' l';split at e<;>first|(cases e;done)|skip
  simp only[Sh.fine,zaa] at hf;simp only[AC] at k;simp only[Sh.mk,AC];exact⟨hf.1.1,tJ b l ts j s hf.1.2,GO T l l' j s x cs e hs hf.2 hb k.2.2⟩
theorem GO{n b:Nat}{c c':Cx}(T:Two n c c'):∀ (l:List Sh) (l':List AV) (j:Nat) (s x:List D) (cs:List Value),aeo c.ob c.dead l l'=some x->Cf s x j->aep n l=true ->
  (∀ p∈aes l l' j,c'.β (b+p.1)=c.β p.2)->il c l' cs->il c' (aeq b l j s).1 cs
 | [],l',j,s,x,cs,e,_,_,_,k=>by all_goals grind [aeo,aeq,il]
 | h::l,[],j,s,x,cs,e,_,_,_,k=>by simp[aeo] at e
 | h::l,a::l',j,s,x,cs,e,hs,hf,hb,k=>by simp only[aeo] at e;obtain⟨y,h1,e⟩:=ab e;obtain⟨z,h2,e⟩:=ab e;simp only[zda] at e;subst e;simp only[aep,zaa] at hf;simp only[il] at k;obtain⟨c1,c2,rfl,k1,k2⟩:=k;simp only[aeq,il,p8];simp only[aes,zIa] at hb;have hr:=hs.right;rw[lV h a y h1] at hr;exact⟨c1,c2,rfl,zD T h a j s y c1 h1 hs.left hf.1 (λp hp=>hb p (.inl hp)) k1,GO T l l' _ s z c2 h2 hr hf.2 (λp hp=>hb p (.inr hp)) k2⟩
end
def QI{n b:Nat}{c c':Cx}(T:Two n c c')(h:Sh)(a:AV)(j:Nat)(s x:List D)(v:Value)(e:Sh.dec c.ob c.dead h a=some x)(g:Cf s x j)(d:Sh.fine n h=true)
  (i:∀ p∈aer h a j,c'.β (b+p.1)=c.β p.2) (k:AR c a v):AR c' (Sh.mk b h j s).1 v:=by
 cases h with
 | dv t=>
  have f:((adR c.ob t a).bind λx=>some [x])=some x:=by cases a<;>exact e
  obtain⟨y,h1,o⟩:=ab f;simp only[zda] at o;subst o;have q:s[j]?=some y:=by have:=g 0 s6;simpa using this
  obtain⟨r,u⟩:=nc d k h1;simp only[Sh.mk,List.getD,q,z4b];exact c6 d r (by rw[T.w,T.S];exact u)
 | ow t=>
  have key:=λcs=>zD T (.ow t) a j s x cs e g d i;cases a<;>simp only[Sh.dec] at e<;>first|(cases e;done)|skip
  all_goals
   simp only[AR] at k;exact⟨k.1,key _ k.2⟩
 | same a'=>
  have key:=λcs=>zD T (.same a') a j s x cs e g d i;have f:(if AV.same a' a then some ([]:List D) else none)=some x:=by cases a<;>exact e
  split at f<;>first|(cases f;done)|skip
  rename_i m;have:=rV _ _ m;subst this;simp only[Sh.mk] at key ⊢;cases a'<;>simp only[Sh.fine,AV.old] at d<;>first|(cases d;done)|skip
  all_goals simp_all [AR]
 | st z l=>
  have key:=λcs=>zD T (.st z l) a j s x cs e g d i;cases a<;>simp only[Sh.dec] at e<;>first|(cases e;done)|skip
  simp_all [Sh.mk,AR]
end Sy
end
end Go.Proofs.YtmnkibhalflchaaGreat
