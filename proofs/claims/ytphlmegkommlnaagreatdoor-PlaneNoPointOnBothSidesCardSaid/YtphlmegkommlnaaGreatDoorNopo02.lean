/- Part 2 of the proof that PlaneNoPointOnBothSides answers true at every input -/
import Derived.Test.YtphlmegkommlnaaGreatDoorNopo01
import Derived.ProofKit
import Derived.Deep.Slices
import Derived.OpenShut
import Derived.OrdersIn
import Derived.TacticsIn
import Derived.RangeFuncIn
import Derived.RangeFuncCalls
import Derived.Scope
import Derived.StillTail
import Derived.ChangeKeysEq
set_option linter.unusedVariables false
set_option linter.unusedSimpArgs false
set_option linter.unnecessarySimpa false
set_option linter.defProp false
set_option maxRecDepth 20000
namespace Go.Proofs.YtphlmegkommlnaaGreatDoor
noncomputable section
namespace Sy
open Go
section
variable{H:Type}{enc:TypeId×Value->H}{P:Program}{W:World}{base:Nat}{spare:Nat->Bool}{held:Bool}
def qz(W:World)(b o:Nat):Prop:=(W.cell? ⟨b,o,none⟩).isSome=true
def valid_lt{b o:Nat}(h:qz W b o):b<W.heap.size:=by
 unfold qz World.cell? at h;rcases zla b W.heap.size with k|k
 ·exact k
 ·simp only[Array.getElem?_eq_none k] at h;cases h
mutual
def Mz:D->Prop
 | .int k n=>(Lit.int k n).wf=true
 | .bool _=>True
 | .str s=>s.size<=maxLen
 | .st l=>wC l
 | .sl l=>l.length<=maxLen/\wC l
 | .tup l=>wC l
def wC:List D->Prop
 | []=>True
 | d::l=>Mz d/\wC l
end
theorem qh:∀ {l:List D},wC l↔∀ d∈l,Mz d
 | []=>by simp[wC]
 | d::l=>by simp[wC,qh (l:=l)]
mutual
def qj:Ty->Bool
 | .st ts=>zu ts
 | .arr _ t=>qj t
 | .sl t=>decide (0<t.size)&&qj t
 | .tup _=>false
 | .fn=>false
 | _=>true
def zu:List Ty->Bool
 | []=>true
 | t::ts=>qj t&&zu ts
end
def kC{T:TypeId}{ty:Ty}(h:bK P ty T=true):P.cellsOf T=ty.size:=by
 obtain⟨i,z,h1,a,_⟩:=fT (gO h);simp[Program.cellsOf,h1,a]
def df.one'{S:Nat->Nat->Prop}{d:D}{c:Value}(h:CR W S d c):df W S [d] [c]:=⟨rfl,λi d' c' a hc=>by
 cases i with
 | zero=>simp at a hc;subst a;subst hc;exact h
 | succ i=>simp at a⟩
mutual
theorem tZ:∀ (ty:Ty) (T:TypeId) (fuel:Nat) (cs:List Value) (x:DataW H×List MemPlace),bK P ty T=true->qj ty=true->DataW.trod enc P W base spare held fuel T cs=some x->∃ d,wt ty d/\Mz d/\df W (qz W) d.flat cs
 | .int k,T,fuel,cs,x,hl,_,h=>by
  obtain⟨n,rfl,_,hw⟩:=DataW.trod_int (jV hl) h;exact⟨.int k n,⟨n,rfl⟩,hw,df.one' (.int k n)⟩
 | .bool,T,fuel,cs,x,hl,_,h=>by
  have hu:P.underlying T=some .bool:=by
   simp only[bK,zaa] at hl;have h2:=hl.2;split at h2
   ·assumption
   ·cases h2
  obtain⟨b,rfl,_⟩:=DataW.trod_bool hu h;exact⟨.bool b,⟨b,rfl⟩,trivial,df.one' (.bool b)⟩
 | .str,T,fuel,cs,x,hl,_,h=>by
  have hu:P.underlying T=some .string:=by
   simp only[bK,zaa] at hl;have h2:=hl.2;split at h2
   ·assumption
   ·cases h2
  obtain⟨s,rfl,_,hw⟩:=DataW.trod_string hu h;exact⟨.str s,⟨s,rfl⟩,hw,df.one' (.str s)⟩
 | .st ts,T,fuel,cs,x,hl,hp,h=>by
  obtain⟨fs,hu,hf⟩:=jq hl;obtain⟨xs,n,_,_,hlen,hxl,hx⟩:=DataW.trod_struct hu h;rw[kC hl] at hlen;obtain⟨l,h1,hok,h2⟩:=B0 ts fs.toList 0 cs n hf (by simpa only[qj] using hp) (λi f hi=>by
   have hi':fs[i]?=some f:=by simpa using hi
   have hlt:i<xs.length:=by rw[hxl];exact(zga.1 hi').1
   exact⟨xs[i],(hx i f hi').trans (zca hlt)⟩) (by rw[hlen];simp[Ty.size])
  refine⟨.st l,⟨l,rfl,h1⟩,hok,?_⟩;have:(cs.drop 0).take (Ty.sizes ts)=cs:=by
   rw[List.drop_zero,znb (by rw[hlen];simp[Ty.size])]
  rw[this] at h2;exact h2
 | .arr n e,T,fuel,cs,x,hl,hp,h=>by
  obtain⟨u,hu,hl'⟩:=eN hl;obtain⟨xs,m,_,_,hlen,hxl,hx⟩:=DataW.trod_array hu h;rw[kC hl] at hlen;rw[kC hl'] at hx;simp only[qj] at hp;have key:∀ k,k<=n->∃ l:List D,l.length=k/\(∀ y∈l,wt e y/\Mz y)/\df W (qz W) (D.flats l) (cs.take (k*e.size)):=by
   intro k
   induction k with
   | zero=>intro _;exact⟨[],rfl,by simp,by simp[D.flats,df.nil]⟩
   | succ k ih=>
    intro hk;obtain⟨l,h1,h2,h3⟩:=ih (by omega)
    have hxk:=hx k (by omega)
    rw[zca (show k<xs.length by omega)] at hxk
    obtain⟨d,h4,h4',h5⟩:=tZ e u m _ _ hl' hp hxk;refine⟨l++[d],by simp[h1],λy hy=>?_,?_⟩
    ·rcases List.mem_append.1 hy with hy|hy
     ·exact h2 y hy
     ·rw[zDa.1 hy];exact⟨h4,h4'⟩
    ·have e1:cs.take ((k+1)*e.size)=cs.take (k*e.size)++(cs.drop (k*e.size)).take e.size:=by
      rw[z8a,zUc,List.take_add]
     rw[e1,cl];refine h3.append ?_;simpa [D.flats] using h5
  obtain⟨l,h1,h2,h3⟩:=key n (zfa n);refine⟨.st l,⟨l,rfl,h1,λy hy=>(h2 y hy).1⟩,qh.2 λy hy=>(h2 y hy).2,?_⟩;rw[znb (by rw[hlen];simp[Ty.size])] at h3
  exact h3
 | .sl e,T,fuel,cs,x,hl,hp,h=>by
  obtain⟨u,hu,hl'⟩:=jp hl;simp only[qj,zaa,decide_eq_true_eq] at hp;rcases DataW.trod_slice hu h with⟨rfl,_⟩|⟨a,len,cap,elems,rest,m,_,rfl,_,hb,hlc,hcm,hel,hx,_,_⟩
  ·exact⟨.sl [],⟨[],rfl,by simp⟩,⟨zja _,trivial⟩,df.one' (CR.of_elems (l:=[]) (b:=0) (off:=0) (.inl rfl) (zfa _) ⟨[],df.nil,by simp⟩)⟩
  ·rw[kC hl'] at hx;by_cases h0:len=0
   ·subst h0;exact⟨.sl [],⟨[],rfl,by simp⟩,⟨zja _,trivial⟩,df.one' (CR.of_elems (l:=[]) (b:=0) (off:=0) (.inl rfl) (zja _) ⟨[],df.nil,by simp⟩)⟩
   ·have hsp:∃ b off,a=⟨b,off,none⟩:=by
     have:=hx 0 (by omega)
     rw[zca (show 0<elems.length by omega)] at this
     obtain⟨cs',h1,_⟩:=Option.bind_eq_some_iff.1 this;obtain⟨_,h2,h3⟩:=World.cells?_some h1;have h4:=h3 0 hp.1;rw[zca (show 0<cs'.length by omega)] at h4
     have e0:(a.add (0*e.size)).add 0=a:=by simp[Addr.add]
     rw[e0] at h4;obtain⟨b,off,sp⟩:=a;cases sp with
     | none=>exact⟨b,off,rfl⟩
     | some s=>
      exfalso;unfold World.cell? at h4;split at h4
      ·simp at h4
      ·cases h4
    obtain⟨b,off,rfl⟩:=hsp;have key:∀ k,k<=len->∃ (l:List D) (cs:List Value),l.length=k/\(∀ y∈l,wt e y/\Mz y)/\df W (qz W) (D.flats l) cs/\∀ j c,cs[j]?=some c->W.cell? ⟨b,off+j,none⟩=some c:=by
     intro k
     induction k with
     | zero=>intro _;exact⟨[],[],rfl,by simp,df.nil,by simp⟩
     | succ k ih=>
      intro hk;obtain⟨l,cs,h1,h2,h3,h4⟩:=ih (by omega)
      have hxk:=hx k (by omega)
      rw[zca (show k<elems.length by omega)] at hxk
      obtain⟨cs',q1,q2⟩:=Option.bind_eq_some_iff.1 hxk;obtain⟨_,q3,q4⟩:=World.cells?_some q1;obtain⟨d,h5,h5',h6⟩:=tZ e u m _ _ hl' hp.2 q2;have hn:aq e=true:=aJ e u hl';have hcl:cs.length=k*e.size:=by rw[<-h3.1,aF hn l (λy hy=>(h2 y hy).1),h1]
      refine⟨l++[d],cs++cs',by simp[h1],λy hy=>?_,?_,λj c hc=>?_⟩
      ·rcases List.mem_append.1 hy with hy|hy
       ·exact h2 y hy
       ·rw[zDa.1 hy];exact⟨h5,h5'⟩
      ·rw[cl];refine h3.append ?_;simpa [D.flats] using h6
      ·rcases zla j cs.length with hj|hj
       ·rw[zkb hj] at hc;exact h4 j c hc
       ·rw[zEb hj] at hc;have hlt:j-cs.length<e.size:=by
         have:=(zka.1 hc).1;omega
        have:=q4 (j-cs.length) hlt;rw[hc] at this;rw[dA,dA] at this;rw[show off+k*e.size+(j-cs.length)=off+j by omega] at this
        exact this
    obtain⟨l,cs,h1,h2,h3,h4⟩:=key len (zfa _);refine⟨.sl l,⟨l,rfl,λy hy=>(h2 y hy).1⟩,⟨by omega,qh.2 λy hy=>(h2 y hy).2⟩,df.one' ?_⟩
    rw[<-h1];exact CR.of_elems (b:=b) (off:=off) (.inr rfl) (by omega) ⟨cs,h3,λi c hc=>⟨by unfold qz;rw[h4 i c hc];rfl,h4 i c hc⟩⟩
 | .tup _,_,_,_,_,hl,_,_=>by simp[bK] at hl
 | .fn,_,_,_,_,hl,_,_=>by simp[bK] at hl
theorem B0:∀ (ts:List Ty) (fs:List Field) (off:Nat) (cs:List Value) (n:Nat),gq P ts fs off=true->zu ts=true ->
  (∀ (i:Nat) (f:Field),fs[i]?=some f->∃ x:DataW H×List MemPlace,DataW.trod enc P W base spare held n f.type ((cs.drop f.offset).take (P.cellsOf f.type))=some x)->off+Ty.sizes ts<=cs.length ->
  ∃ l,fI ts l/\wC l/\df W (qz W) (D.flats l) ((cs.drop off).take (Ty.sizes ts))
 | [],_,off,cs,n,_,_,_,_=>⟨[],rfl,trivial,by simp[D.flats,Ty.sizes,df.nil]⟩
 | t::ts,[],off,cs,n,h,_,_,_=>by simp[gq] at h
 | t::ts,f::fs,off,cs,n,h,hp,hx,hle=>by
  simp only[gq,zaa,decide_eq_true_eq] at h;obtain⟨⟨⟨⟨h1,_⟩,h2⟩,h3⟩,h4⟩:=h;simp only[zu,zaa] at hp;simp only[Ty.sizes] at hle ⊢;obtain⟨x,hx0⟩:=hx 0 f rfl;rw[kC h3,h1] at hx0;obtain⟨d,q1,q1',q2⟩:=tZ t f.type n _ _ h3 hp.1 hx0;obtain⟨l,q3,q3',q4⟩:=B0 ts fs (off+t.size) cs n h4 hp.2 (λi g hi=>hx (i+1) g (by simpa using hi)) (by omega)
  refine⟨d::l,⟨d,l,rfl,q1,q3⟩,⟨q1',q3'⟩,?_⟩;rw[List.take_add,zGd];simp only[D.flats];exact q2.append q4
end
end
end Sy
end
noncomputable section
namespace Sy
open Go
theorem bind_some_inv.{u,v}{α:Type u}{β:Type v}{x:Option α}{f:α->Option β}{r:β}(h:x.bind f=some r):∃ a,x=some a/\f a=some r:=by
 cases x with
 | none=>cases h
 | some a=>exact⟨a,rfl,h⟩
def oQ{t b:Ty}{x:D}(h:AV.fits t (.d b x)=true):t=b:=by
 have a:t.beq b=true:=by simp_all [AV.fits]
 exact Ty.eq_of_beq _ _ a
def Ty.beq_refl':∀ (t:Ty),t.beq t=true:=by
 intro t;exact(Ty.rec (motive_1:=λt=>t.beq t=true) (motive_2:=λl=>Ty.beqs l l=true)
  (λk=>by simp[Ty.beq]) rfl rfl (λl h=>by simpa [Ty.beq] using h) (λn t h=>by simp[Ty.beq,h]) (λt h=>by simpa [Ty.beq] using h) (λl h=>by simpa [Ty.beq] using h) rfl rfl
  (λt l h1 a=>by simp[Ty.beqs,h1,a]) t)
def bT(t:Ty)(x:D):AV.fits t (.d t x)=true:=by
 have:=Ty.beq_refl' t;all_goals simp_all [AV.fits]
theorem rB:∀ {d:List Ty} {l:List AV} {i:Nat} {a:AV},AV.fitss d l=true->l[i]?=some a->∃ t,d[i]?=some t/\AV.fits t a=true
 | _,[],_,_,_,h=>by simp at h
 | [],b::l,_,_,h,_=>by simp[AV.fitss] at h
 | u::d,b::l,i,a,h,c=>by
  simp only[AV.fitss,zaa] at h;cases i with
  | zero=>simp at c;subst c;exact⟨u,rfl,h.1⟩
  | succ i=>simp at c;obtain⟨t,h1,e⟩:=rB h.2 c;exact⟨t,by simpa using h1,e⟩
theorem uN:∀ {d:List Ty} {l:List AV} {i:Nat} {t:Ty},AV.fitss d l=true->d[i]?=some t->∃ a,l[i]?=some a/\AV.fits t a=true
 | [],_,_,_,_,h=>by simp at h
 | u::d,[],_,_,h,_=>by simp[AV.fitss] at h
 | u::d,b::l,i,a,h,c=>by
  simp only[AV.fitss,zaa] at h;cases i with
  | zero=>simp at c;subst c;exact⟨b,rfl,h.1⟩
  | succ i=>simp at c;obtain⟨t,h1,e⟩:=uN h.2 c;exact⟨t,by simpa using h1,e⟩
theorem nB:∀ {c:List Ty} {l:List AV} {i:Nat} {t:Ty} {b:AV},AV.fitss c l=true->c[i]?=some t->AV.fits t b=true->AV.fitss c (l.set i b)=true
 | [],_,_,_,_,_,h,_=>by simp at h
 | u::c,[],_,_,_,h,_,_=>by simp[AV.fitss] at h
 | u::c,a::l,i,t,b,h,d,e=>by
  simp only[AV.fitss,zaa] at h;cases i with
  | zero=>simp at d;subst d;simp[AV.fitss,e,h.2]
  | succ i=>simp at d;simp only[List.set_cons_succ,AV.fitss,zaa];exact⟨h.1,nB h.2 d e⟩
theorem tG{c:Cx}:∀ {f:List Ty} {l:List AV} {cs:List Value} {i:Nat} {a:AV},AV.fitss f l=true->bw f=true->k9 c l cs->l[i]?=some a ->
  ∃ pre mid post,cs=pre++(mid++post)/\pre.length=Ty.sizes (f.take i)/\AC c a mid/\∀ b d,AC c b d->k9 c (l.set i b) (pre++(d++post))
 | _,[],_,_,_,_,_,_,h=>by simp at h
 | [],b::l,_,_,_,h,_,_,_=>by simp[AV.fitss] at h
 | u::f,b::l,cs,i,a,g,hn,h,e=>by
  simp only[AV.fitss,zaa] at g;simp only[bw,zaa] at hn;simp only[k9] at h;obtain⟨c1,c2,rfl,h1,j⟩:=h;cases i with
  | zero=>
   simp at e;subst e;exact⟨[],c1,c2,by simp,by simp[Ty.sizes],h1,λb d k=>by simp only[List.set_cons_zero,k9,zcc];exact⟨d,c2,rfl,k,j⟩⟩
  | succ i=>
   simp at e;obtain⟨pre,mid,post,rfl,m,n,o⟩:=tG g.2 hn.2 j e;refine⟨c1++pre,mid,post,by simp[zIa],?_,n,λb d k=>?_⟩
   ·simp only[zua,z8b,Ty.sizes,m,(iB b u c1 g.1 h1).1]
   ·grind [k9,List.append_assoc]
def mQ{a:List Ty}{i:Nat}{p:List Nat}{u:Ty}(h:aQ (.st a) (i::p)=some u):∃ v,a[i]?=some v/\aQ v p=some u:=by
 grind [aQ]
def D7{R:Type}{c:Cx}:∀ (p:List Nat) {T t:Ty} {a:AV} {cs:List Value} {K:AV->Option R} {r:R},AV.fits T a=true->aq T=true->aQ T p=some t->AC c a cs->y6 a p K=some r ->
  ∃ a' pre mid post,K a'=some r/\cs=pre++(mid++post)/\pre.length=be T p/\AC c a' mid/\AV.fits t a'=true:=by
 intro p
 induction p with
 | nil=>
  intro T t a cs K r b hn hp hc f;have hT:T=t:=by cases T<;>simpa [aQ] using hp
  subst hT;refine⟨a,[],cs,[],?_,by simp,by cases T<;>rfl,hc,b⟩
  cases a<;>simpa [y6] using f
 | cons i p ih=>
  intro T t a cs K r b hn hp hc f;cases a<;>simp only[y6] at f
  case d t' x=>
   have:=oQ b;subst this;obtain⟨t2,h1,m⟩:=bind_some_inv f;obtain⟨y,g,n⟩:=bind_some_inv m;rw[hp] at h1;cases h1;simp only[AC] at hc;obtain⟨q,A,B,s,z⟩:=jl (i::p) hc.1 hn hp g;have h:=hc.2.2;rw[s] at h;obtain⟨o,u⟩:=h.split;obtain⟨w,C⟩:=u.split;refine⟨_,cs.take A.length,(cs.drop A.length).take y.flat.length,(cs.drop A.length).drop y.flat.length,n,by simp only[zqa],?_,?_,bT _ _⟩
   ·rw[<-o.1];exact z
   ·simp only[AC];exact⟨q,eh _ hn hp,w⟩
  case st ts' l=>
   cases T<;>simp only[AV.fits] at b<;>first|cases b|skip
   rename_i D;simp only[zaa] at b;obtain⟨a1,h1,m⟩:=bind_some_inv f;obtain⟨v,g,n⟩:=mQ hp;simp only[AC] at hc;simp only[aq] at hn;obtain⟨v',h,o⟩:=rB b.2 h1;rw[g] at h;cases h;obtain⟨pre,mid,post,rfl,q,s,_⟩:=tG b.2 hn hc.2.2 h1;obtain⟨a',k,j,e,m1,rfl,m2,m3,m4⟩:=ih o (cd hn g) n s m;refine⟨a',pre++k,j,e++post,m1,by simp[zIa],?_,m3,m4⟩
   simp only[zua,be,q,m2];simp[List.getD,g]
  all_goals cases f
def MO{R:Type}{c:Cx}:∀ (p:List Nat) {T t:Ty} {a b:AV} {cs m:List Value} {K:AV->Option R} {r:R},AV.fits T a=true->aq T=true->aQ T p=some t->AC c a cs->AC c b m->AV.fits t b=true->Dh a p b K=some r ->
  ∃ a' pre mid post,K a'=some r/\cs=pre++(mid++post)/\pre.length=be T p/\mid.length=m.length/\AC c a' (pre++(m++post))/\AV.fits T a'=true:=by
 intro p
 induction p with
 | nil=>
  intro T t a b cs m K r e hn hp hc g f j;have hT:T=t:=by simp_all [aQ]
  subst hT;refine⟨b,[],cs,[],?_,by simp,by cases T<;>rfl,?_,by simpa using g,f⟩
  ·simp_all [Dh]
  ·rw[(iB _ _ _ e hc).1,(iB _ _ _ f g).1]
 | cons i p ih=>
  intro T t a b cs m K r e hn hp hc g f j;cases a<;>simp only[Dh] at j
  case d t' x=>
   have:=oQ e;subst this;cases b<;>simp only at j<;>first|cases j|skip
   rename_i u y;have:=oQ f;subst this;obtain⟨P,h,w⟩:=bind_some_inv j;simp only[AC] at hc g;obtain⟨D,A,C,B,E,F,M,N⟩:=qo (i::p) hc.1 hn hp h g.1;have n:=hc.2.2;rw[E] at n;obtain⟨s,I⟩:=n.split;obtain⟨J,L⟩:=I.split;refine⟨_,cs.take A.length,(cs.drop A.length).take C.length,(cs.drop A.length).drop C.length,w,by simp only[zqa],?_,?_,?_,bT _ _⟩
   ·rw[<-s.1];exact M
   ·rw[<-J.1,N,<-g.2.2.1,cF _ _ g.1 g.2.1]
   ·simp only[AC];refine⟨D,hn,?_⟩;rw[F];exact s.append (g.2.2.append L)
  case st ts' l=>
   cases T<;>simp only[AV.fits] at e<;>first|cases e|skip
   rename_i O;simp only[zaa] at e;obtain⟨a1,h1,H⟩:=bind_some_inv j;obtain⟨v,h,w⟩:=mQ hp;simp only[AC] at hc;simp only[aq] at hn;obtain⟨v',n,s⟩:=rB e.2 h1;rw[h] at n;cases n;obtain⟨pre,mid,post,rfl,D,E,F⟩:=tG e.2 hn hc.2.2 h1;obtain⟨a',q,o,k,m1,rfl,m2,G,m3,m4⟩:=ih s (cd hn h) w E g f H;have z:=Ty.eqs_of_beqs _ _ e.1;subst z;refine⟨_,pre++q,o,k++post,m1,by simp[zIa],?_,G,?_,?_⟩
   ·simp only[zua,be,D,m2];simp[List.getD,h]
   ·simp only[AC];refine⟨hn,nB e.2 h m4,?_⟩;have:=F _ _ m3;simpa [zIa] using this
   ·simp only[AV.fits,zaa];exact⟨e.1,nB e.2 h m4⟩
  all_goals cases j
mutual
theorem sj{c:Cx}{ob:Nat->Option Ob}:∀ (a:AV) (t:Ty) (cs:List Value) (x:D),AV.toD ob t a=some x->AC c a cs->wt t x/\df c.w c.S x.flat cs/\(∀ v,gG t cs v->aq t=true->gD c.w c.S x v)
 | .d t' x',t,cs,x,h,hc=>by
  have h':t.beq t'=true/\x'=x:=by cases t<;>simpa [AV.toD] using h
  obtain⟨h1,rfl⟩:=h';have:=Ty.eq_of_beq _ _ h1;subst this;simp only[AC] at hc;exact⟨hc.1,hc.2.2,λv hv hn=>⟨ud hc.1 hc.2.1 hv.2,by rw[hv.1];exact hc.2.2⟩⟩
 | .own t' v l,t,cs,x,h,hc=>by
  have h':t.beq (.sl t')=true/\D.sl l=x:=by cases t<;>simpa [AV.toD] using h
  obtain⟨h1,rfl⟩:=h';have:=Ty.eq_of_beq _ _ h1;subst this;simp only[AC] at hc;obtain⟨k1,k2,a,cap,rfl,k3,_⟩:=hc;have hw:wt (.sl t') (.sl l):=by simp only[wt];exact⟨l,rfl,k2⟩
  exact⟨hw,df.single.2 k3,λv hv hn=>⟨ud hw hn hv.2,by rw[hv.1];exact df.single.2 k3⟩⟩
 | .nils,t,cs,x,h,hc=>by
  cases t<;>simp only[AV.toD] at h<;>first|cases h|skip
  simp only[AC] at hc;subst hc;have hw:∀ t,wt (.sl t) (.sl []):=λt=>by simp only[wt];exact⟨[],rfl,λx hx=>by simp at hx⟩
  have hr:df c.w c.S [D.sl []] [.slice none 0 0]:=df.single.2 (.sl [] none 0 0 0 (λ_=>undef) (.inl rfl) (zfa 0) (λi d hd=>by simp[D.flats] at hd) (λi d hd=>by simp[D.flats] at hd))
  exact⟨hw _,hr,λv hv hn=>⟨ud (hw _) hn hv.2,by rw[hv.1];exact hr⟩⟩
 | .st ts' l,t,cs,x,h,hc=>by
  simp only[AV.toD] at h;split at h
  ·rename_i hb;have:=Ty.eq_of_beq _ _ hb;subst this;obtain⟨xs,h1,h2⟩:=bind_some_inv h;simp only[zda] at h2;subst h2;simp only[AC] at hc;obtain⟨k1,k2⟩:=EV l ts' cs xs h1 hc.2.2;have hw:wt (.st ts') (.st xs):=by simp only[wt];exact⟨xs,rfl,k1⟩
   exact⟨hw,k2,λv hv hn=>⟨ud hw hn hv.2,by rw[hv.1];exact k2⟩⟩
  ·cases h
 | .ptr ..,t,_,_,h,_=>by cases t<;>simp[AV.toD] at h
 | .fptr ..,t,_,_,h,_=>by cases t<;>simp[AV.toD] at h
 | .mem ..,t,_,_,h,_=>by cases t<;>simp[AV.toD] at h
 | .clo ..,t,_,_,h,_=>by cases t<;>simp[AV.toD] at h
 | .sub ..,t,_,_,h,_=>by cases t<;>simp[AV.toD] at h
 | .gone,t,_,_,h,_=>by cases t<;>simp[AV.toD] at h
 | .undef,t,_,_,h,_=>by cases t<;>simp[AV.toD] at h
theorem EV{c:Cx}{ob:Nat->Option Ob}:∀ (l:List AV) (ts:List Ty) (cs:List Value) (xs:List D),AV.toDl ob ts l=some xs->k9 c l cs->fI ts xs/\df c.w c.S (D.flats xs) cs
 | [],ts,cs,xs,h,hc=>by
  cases ts<;>simp only[AV.toDl] at h<;>first|cases h|skip
  simp only[k9] at hc;subst hc;exact⟨by simp[fI],df.nil⟩
 | a::l,ts,cs,xs,h,hc=>by
  cases ts<;>simp only[AV.toDl] at h<;>first|cases h|skip
  rename_i t ts;obtain⟨x,h1,h2⟩:=bind_some_inv h;obtain⟨ys,h3,h4⟩:=bind_some_inv h2;simp only[zda] at h4;subst h4;simp only[k9] at hc;obtain⟨c1,c2,rfl,k1,k2⟩:=hc;obtain⟨m1,m2,_⟩:=sj a t c1 x h1 k1;obtain⟨m3,m4⟩:=EV l ts c2 ys h3 k2;exact⟨by simp only[fI];exact⟨x,ys,rfl,m1,m3⟩,by simp only[D.flats];exact m2.append m4⟩
end
mutual
theorem vT{ob:Nat->Option Ob}:∀ (a:AV) (t:Ty) (x:D),AV.toD ob t a=some x->AV.fits t a=true
 | .d t' x',t,x,h=>by
  simp_all [AV.toD,AV.fits]
 | .own t' v l,t,x,h=>by
  have h':t.beq (.sl t')=true/\D.sl l=x:=by cases t<;>simpa [AV.toD] using h
  have:=Ty.eq_of_beq _ _ h'.1;subst this;simp[AV.fits,Ty.beq_refl']
 | .nils,t,x,h=>by
  cases t<;>first|rfl|(simp only[AV.toD] at h;cases h)
 | .st ts' l,t,x,h=>by
  simp only[AV.toD] at h;split at h
  ·rename_i hb;have:=Ty.eq_of_beq _ _ hb;subst this;obtain⟨xs,h1,h2⟩:=bind_some_inv h;simp only[AV.fits,zaa];exact⟨by have:=Ty.beq_refl' (.st ts');simpa [Ty.beq] using this,yt l ts' xs h1⟩
  ·cases h
 | .ptr ..,t,_,h=>by cases t<;>simp[AV.toD] at h
 | .fptr ..,t,_,h=>by cases t<;>simp[AV.toD] at h
 | .mem ..,t,_,h=>by cases t<;>simp[AV.toD] at h
 | .clo ..,t,_,h=>by cases t<;>simp[AV.toD] at h
 | .sub ..,t,_,h=>by cases t<;>simp[AV.toD] at h
 | .gone,t,_,h=>by cases t<;>simp[AV.toD] at h
 | .undef,t,_,h=>by cases t<;>simp[AV.toD] at h
theorem yt{ob:Nat->Option Ob}:∀ (l:List AV) (ts:List Ty) (xs:List D),AV.toDl ob ts l=some xs->AV.fitss ts l=true
 | [],ts,xs,h=>by cases ts<;>first|rfl|(simp only[AV.toDl] at h;cases h)
 | a::l,ts,xs,h=>by
  cases ts<;>simp only[AV.toDl] at h<;>first|cases h|skip
  rename_i t ts;obtain⟨x,h1,h2⟩:=bind_some_inv h;obtain⟨ys,h3,h4⟩:=bind_some_inv h2;simp only[AV.fitss,zaa];exact⟨vT a t x h1,yt l ts ys h3⟩
end
def oG{c:Cx}{ob:Nat->Option Ob}{t:Ty}{a:AV}{v:Value}{x:D}(hn:aq t=true)(h:AR c a v)(hx:AV.toD ob t a=some x):wt t x/\gD c.w c.S x v:=by
 obtain⟨h1,b⟩:=Ah (vT a t x hx) hn h;obtain⟨d,_,e⟩:=sj a t _ x hx h1
 simp_all
def dT{c:Cx}{t:Ty}{x:D}{v:Value}(hn:aq t=true)(hw:wt t x)(h:gD c.w c.S x v):AR c (.d t x) v:=by
 simp_all [AR]
def Ai{c:Cx}{t:Ty}{x:D}{v:Value}(h:AR c (.d t x) v)(hn:aq t=true):wt t x/\gD c.w c.S x v:=by
 all_goals grind [AR,aq]
def fE{c:Cx}{t:Ty}{k:IntKind}{n:Int}{v:Value}(h:AR c (.d t (.int k n)) v):v=.int k n/\t=.int k:=by
 simp only[AR] at h;rcases h with⟨h1,a,e⟩|⟨f,rfl,_,a,_⟩
 ·refine⟨e.int_inv,?_⟩;cases t<;>simp only[wt] at a<;>first
   | (obtain⟨m,b⟩:=a;cases b;rfl)
   | (obtain⟨m,b,_⟩:=a;cases b)
   | (obtain⟨m,b⟩:=a;cases b)
 ·simp_all [wt]
def Dw{c:Cx}{t:Ty}{n:Bool}{v:Value}(h:AR c (.d t (.bool n)) v):v=.bool n:=by
 simp only[AR] at h;rcases h with⟨h1,a,b⟩|⟨e,rfl,_,a,_⟩
 ·exact b.bool_inv
 ·simp_all [wt]
def cR{c:Cx}(k:IntKind)(n:Int):AR c (.d (.int k) (.int k n)) (.int k n):=
 dT rfl (by simp only[wt];exact⟨n,rfl⟩) (gD.of_CR (.int k n))
def gH{c:Cx}(b:Bool):AR c (.d .bool (.bool b)) (.bool b):=
 dT rfl (by simp only[wt];exact⟨b,rfl⟩) (gD.of_CR (.bool b))
end Sy
end
noncomputable section
namespace Sy
open Go
def eP(P:Program)(o:Oper)(a:Act)(w:World)(K:Value->World->Prop):Prop:=
 match (execOp a.eval o).run P w with
 | .ok (.value v) w'=>K v w'
 | .ok .skip w'=>K undef w'
 | .ok (.enter f args) w'=>Calls P f args w' λe b=>∃ v,e=.returned v/\K v b
 | _=>False
variable{ro:Option Nat}{nn:Nat}
def eP.plain{P:Program}{o:Oper}{a:Act}{w:World}{K:Value->World->Prop}(h:eP P o a w K)(c:Call):o.op≠.defer c:=by
 intro hc;unfold eP at h;obtain⟨dst,op,ty,pos,after,guard⟩:=o;simp only at hc;subst hc;have e:execOp a.eval ⟨dst,.defer c,ty,pos,after,guard⟩=(resolve a.eval c ty >>= λd=>pure (Next.defer d)):=rfl;rw[e,zha] at h;cases hr:(resolve a.eval c ty).run P w with
 | ok d w'=>rw[hr] at h;exact h
 | halt x w'=>rw[hr] at h;exact h
def Aw{P:Program}{f:FuncId}{args:Array Value}{w:World}{R:Ending->World->Prop}{m:Nat}(h:Calls P f args w R):CallsIn (FW ro) m P f args w R:=by
 have h1:CallsIn Fence.wide m P f args w R:=callsIn_wide.2 h;cases ro with
 | none=>exact h1
 | some l=>exact CallsIn.inRound l h1
def bu{P:Program}{o:Oper}{a:Act}{w:World}{K:Value->World->Prop}{next:Act->World->Prop}{Q:Exit->Act->World->Prop}(h:eP P o a w K)(hk:∀ v w',K v w'->next (a.put o.dst v) w'):o.wpIn (FW ro) nn P a w next Q:=by
 refine⟨λ_ _=>trivial,?_⟩;rw[Oper.semAt_eq _ _ _ h.plain];unfold eP at h;generalize (execOp a.eval o).run P w=r at *;cases r with
 | ok n w'=>
  cases n<;>simp only at h<;>simp only[Oper.uponIn]
  case value v=>exact hk _ _ h
  case skip=>exact hk _ _ h
  case enter f args=>exact⟨λb=>(by cases b),Aw (h.mono λe d ⟨v,he,c⟩=>by subst he;exact hk _ _ c)⟩
 | halt x w'=>simp only at h
def yK{P:Program}{f:FuncId}{fn:Func}{c:Code}{args:Array Value}{w:World}{R:Ending->World->Prop}(b:P.funcs[f]?=some fn)(a:fn.body=some c)
  (h:c.wpIn (FW none) 0 P (bodyPost P fn R) { tmps:=args++Array.replicate (fn.ntmps-args.size) undef,defers:=[] } w):Calls P f args w R:=
 calls_of_wp b a (wpIn_wide.1 h)
section
variable{P:Program}{Q:Exit->Act->World->Prop}{a:Act}{w:World}{F:Fence}{n:Nat}
theorem gB{md:Region.Mode}{ops:Array Oper}{Q':Exit->Act->World->Prop}:∀ (l:List Oper) (k:Nat) (listed:Array Bool) (a:Act) (w:World),(∀ j,l[j]?=ops[k+j]?) ->
  Region.seqB md ops l.length k listed=true->wpListIn F n P ops Q' l a w->wpAnyIn F n P md ops Q' l.length listed a w
 | [],_,_,_,_,_,b,h=>⟨by simpa [Region.seqB] using b,h⟩
 | o::l,k,listed,a,w,hl,b,h=>by
  have h0:ops[k]?=some o:=by simpa using(hl 0).symm
  simp only[zKa,Region.seqB,zaa,decide_eq_true_eq] at b;refine⟨λh1=>(by rw[b.1] at h1;cases h1),λi d=>?_⟩
  rw[b.1] at d;have c:i=k:=by simpa using d
  subst c;have hw:wpOpIn F n P ops Q' i (wpListIn F n P ops Q' l) a w:=by unfold wpOpIn;simp only[h0];exact h
  exact wpOpIn_mono (λa' w' e=>gB l (i+1) _ a' w' (λj=>by have:=hl (j+1);simpa [zGb,zJc 1 j] using this) b.2 e) hw
def gb{b:Frame}{k:List Item}{cs:List Frame}{c:Code}:step P (lone (b.atR a (.code (.scope c)::k)) cs w)=.next (lone (b.atR a (.code c::.inScope c::k)) cs w):=
 step_lone_go (by simp[stepG,stepG.exec,Frame.atR])
def wI{b:Frame}{k:List Item}{cs:List Frame}{c:Code}:step P (lone (b.atR a (.inScope c::k)) cs w)=.next (lone (b.atR a k) cs w):=
 step_lone_go (by simp[stepG,stepG.exec,Frame.atR])
def oe{c:Code}(h:c.wpIn F n P (Exit.noGoto Q) a w):(Code.scope c).wpIn F n P Q a w:=by
 intro b k cs p j m;have h0:(lone (b.atR a (.code (.scope c)::k)) cs w).fenced P F:=fenced_calm j m rfl;obtain⟨e,g,i,hq,d⟩:=h b (.inScope c::k) cs p j m;cases e with
 | normal=>exact⟨.normal,g,i,hq,.head h0 gb (StepsIn.trans d (.one (fenced_calm j m rfl) wI))⟩
 | exit f=>
  have hx:exitTo f (.inScope c::k)=exitTo f k:=by simp[exitTo]
  exact⟨.exit f,g,i,hq,λr hk=>.head h0 gb (d.1 r (by rw[hx];exact hk)),
   λo hk=>let ⟨k₁,h1,q⟩:=d.2 o (by rw[hx];exact hk);⟨k₁,h1,.head h0 gb q⟩⟩
 | goto l=>exact hq.elim
 | ret=>exact⟨_,g,i,hq,.of_steps (.one h0 gb) d⟩
 | panic s=>exact⟨_,g,i,hq,.of_steps (.one h0 gb) d⟩
 | outgrown=>exact⟨_,g,i,hq,.of_steps (.one h0 gb) d⟩
def yy{c:Code}(J:Nat->Act->World->Prop){m:Nat}(y:J m a w)
  (round:∀ m a w,J m a w->c.wpIn F n P (Exit.then (λa' w'=>∃ i,i<m/\J i a' w') Q) a w):(Code.loop c).wpIn F n P Q a w:=by
 intro b k cs s o r;have key:∀ m a w,J m a w->∃ e a' w',Q e a' w'/\ArrivesIn (Machine.fenced P F) P (lone (b.atR a (.code c::.inLoop c::k)) cs w) b k cs e a' w':=by
  intro m
  induction m using Nat.strongRecOn with
  | _ m ih=>
   intro a w v;obtain⟨e,g,h,hq,d⟩:=round m a w v b (.inLoop c::k) cs s o r;cases e with
   | normal=>
    obtain⟨i,p,j⟩:=hq;obtain⟨u,t,z,q,f⟩:=ih i p g h j;exact⟨u,t,z,q,.of_steps (StepsIn.trans d (.one (fenced_calm o r rfl) stepR_inLoop)) f⟩
   | exit id=>exact⟨_,g,h,hq,.pass (x:=.inLoop c) rfl (λ_ _=>.inl (by simp)) d⟩
   | goto l=>exact⟨_,g,h,hq,.pass (x:=.inLoop c) rfl (λ_ _=>.inl (by simp)) d⟩
   | ret=>exact⟨_,g,h,hq,.pass (x:=.inLoop c) rfl (λ_ _=>.inl (by simp)) d⟩
   | panic A=>exact⟨_,g,h,hq,.pass (x:=.inLoop c) rfl (λ_ _=>.inl (by simp)) d⟩
   | outgrown=>exact⟨_,g,h,hq,.pass (x:=.inLoop c) rfl (λ_ _=>.inl (by simp)) d⟩
 obtain⟨e,a',w',hq,d⟩:=key m a w y;exact⟨e,a',w',hq,.of_steps (.one (fenced_calm o r rfl) stepR_loop) d⟩
end
theorem eP.value{P:Program}{o:Oper}{a:Act}{w w':World}{v:Value}{K:Value->World->Prop}(h:(execOp a.eval o).run P w=.ok (.value v) w')(hk:K v w'):eP P o a w K:=by
 simp_all [eP]
theorem eP.skip{P:Program}{o:Oper}{a:Act}{w w':World}{K:Value->World->Prop}(h:(execOp a.eval o).run P w=.ok .skip w')(hk:K undef w'):eP P o a w K:=by
 simp_all [eP]
theorem eP.enter{P:Program}{o:Oper}{a:Act}{w w':World}{f:FuncId}{args:Array Value}{K:Value->World->Prop}(h:(execOp a.eval o).run P w=.ok (.enter f args) w')(hk:Calls P f args w' λe b=>∃ v,e=.returned v/\K v b):eP P o a w K:=by
 simp_all [eP]
theorem eP.mono{P:Program}{o:Oper}{a:Act}{w:World}{K K':Value->World->Prop}(h:eP P o a w K)(hk:∀ v w',K v w'->K' v w'):eP P o a w K':=by
 unfold eP at *;generalize (execOp a.eval o).run P w=r at *;cases r with
 | ok n w'=>
  cases n<;>simp only at h ⊢
  case value v=>exact hk _ _ h
  case skip=>exact hk _ _ h
  case enter f args=>exact h.mono λe c ⟨v,he,b⟩=>⟨v,he,hk _ _ b⟩
 | halt x w'=>simp only at h
section
variable{w0:Root}{S:Nat->Nat->Prop}{γ:Nat->Option Nat}{β:Nat->Option (Nat×Nat)}{s:St}{a:Act}{w:World}
def aX(h:Rp w0 S γ β s a w):∀ x:Operand,AR ⟨w,S,γ,β,s.ob,s.dead⟩ (s.opA x) (a.eval x)
 | .tmp t=>by
  simp only[St.opA,Act.eval];by_cases ht:t<a.tmps.size
  ·exact h.tms t ht
  ·rw[h.tmu t (h.nt ▸ Nat.le_of_not_lt ht)];simp[AR]
 | .const v=>by
  simp only[St.opA,Act.eval];cases v<;>simp only[HG]<;>first
   | exact cR _ _
   | exact gH _
   | exact dT rfl (by simp only[wt];exact⟨_,rfl⟩) (gD.of_CR (.str _))
   | (simp only[AR];done)
   | skip
  case slice a len cap=>
   match a,len,cap with
   | none,0,0=>simp[AR,AC,Value.cells]
   | some _,_,_=>simp only[AR]
   | none,_+1,_=>simp only[AR]
   | none,0,_+1=>simp only[AR]
 | .global g=>by simp[St.opA,AR]
 | .func f=>by
  simp only[St.opA,AR,AC];exact⟨λ_ h=>(by cases h),[],rfl,by simp only[og]⟩
theorem Rp.put(h:Rp w0 S γ β s a w){v:AV}{val:Value}(d:AR ⟨w,S,γ,β,s.ob,s.dead⟩ v val)(dst:Option Nat):Rp w0 S γ β (s.put dst v) (a.put dst val) w:=by
 cases dst with
 | none=>simpa [St.put,Act.put] using h
 | some t=>
  simp only[St.put,Act.put];by_cases ht:t<s.nt
  ·rw[if_pos ht];refine⟨h.ext,λi b=>?_,by simpa using h.nt,λi b=>?_,h.obs,h.γn,h.γi,h.γf,h.βn,h.βi,h.βγ,h.βf,h.Sb,h.So⟩
   ·simp only[Array.size_setIfInBounds] at b;by_cases hit:i=t
    ·subst hit;simp only[if_true];rw[show(a.tmps.setIfInBounds i val).getD i undef=val by simp[Array.getD,b]]
     exact d
    ·simp only[if_neg hit];have:=h.tms i b
     rwa [show(a.tmps.setIfInBounds t val).getD i undef=a.tmps.getD i undef by simp[Array.getD,b,Array.getElem_setIfInBounds_ne b (Ne.symm hit)]]
   ·have c:s.nt<=i:=b;show(if i=t then v else s.tm i)=_
    rw[if_neg (by omega)];exact h.tmu i c
  ·rw[if_neg ht];have:a.tmps.setIfInBounds t val=a.tmps:=by
    apply Array.setIfInBounds_eq_of_size_le;rw[h.nt];omega
   rw[this];exact h
def zd{w':World}{S':Nat->Nat->Prop}{γ':Nat->Option Nat}{β':Nat->Option (Nat×Nat)}{ob:Nat->Option Ob}{dead:List Nat}
  (hc:∀ b o,S b o->w'.cell? ⟨b,o,none⟩=w.cell? ⟨b,o,none⟩) (c:∀ b o,S b o->S' b o) (g:∀ id b,γ id=some b->γ' id=some b)
  (f:∀ v b e,v ∉ dead->β v=some (b,e)->β' v=some (b,e)/\∀ n,mX w b=some n->mX w' b=some n):Cx.le ⟨w,S,γ,β,ob,dead⟩ ⟨w',S',γ',β',ob,dead⟩:=
 ⟨hc,c,g,λid o d _=>⟨o,d,λp=>⟨rfl,rfl⟩,λt l e=>⟨l,e,rfl⟩,λ_ _ l e=>⟨l,e⟩⟩,λv a=>⟨a,λb e he=>f v b e a he⟩⟩
def dV{os:List Obj}{d:Nat}{b o:Nat}(h:b<w.heap.size):(grown w os d).cell? ⟨b,o,none⟩=w.cell? ⟨b,o,none⟩:=by
 simp only[World.cell?,c7 w os d h]
def yg{os:List Obj}{d:Nat}{b:Nat}(h:b<w.heap.size):mX (grown w os d) b=mX w b:=by
 simp only[mX,bO,c7 w os d h]
theorem jf.mono{c c':Cx}(h:c.le c'){a vt:Ty}:∀ {j:Nat} {l:List D} {es:List MapEntry},jf c a vt j l es->jf c' a vt j l es
 | _,[],[],_=>trivial
 | _,[],_::_,k=>k.elim
 | _,_::_,[],k=>k.elim
 | j,x::l,e::es,k=>by
  simp only[jf] at k ⊢;obtain⟨⟨f,d,p,g,i,m,n,o⟩,b⟩:=k;exact⟨⟨f,d,p,g,i,m,n.mono h.cell h.S,o.mono h.cell h.S⟩,jf.mono h b⟩
theorem jf.same{c c':Cx}(hw:c'.w=c.w)(a:c'.S=c.S){b vt:Ty}:∀ {j:Nat} {l:List D} {es:List MapEntry},jf c b vt j l es->jf c' b vt j l es
 | _,[],[],_=>trivial
 | _,[],_::_,k=>k.elim
 | _,_::_,[],k=>k.elim
 | j,x::l,e::es,k=>by
  simp only[jf] at k ⊢;rw[hw,a];exact⟨k.1,jf.same hw a k.2⟩
theorem gl.mono{c c':Cx}(h:c.le c'){b:Nat}{o:Ob}(q:c'.w.heap[b]?=c.w.heap[b]?)(n:∀ o,c'.S b o->c.S b o)(k:gl c b o):gl c' b o:=by
 have e:bO c'.w b=bO c.w b:=by simp only[bO,q]
 cases o<;>simp only[gl] at k ⊢
 case one t v=>
  obtain⟨f,g,j,cs,a,m,s⟩:=k;exact⟨f,g,λo d=>j o (n o d),cs,by rw[e];exact a,AC.mono h _ _ m,s⟩
 case many t l=>
  obtain⟨f,g,j,cs,a,m⟩:=k;exact⟨f,g,λo d=>j o (n o d),cs,by rw[e];exact a,m.mono h.cell h.S⟩
 case mp kt vt l=>
  obtain⟨f,g,j,es,a,m⟩:=k;exact⟨f,g,λo d=>j o (n o d),es,by rw[q];exact a,m.mono h⟩
 case lp i p=>
  obtain⟨r,a,m,s,y⟩:=k;exact⟨r,by rw[q];exact a,m,λt u=>(s t u).mono h.cell h.S h.γ,y⟩
 case fv v=>
  obtain⟨f,x,g,j,a⟩:=k;exact⟨λo d=>f o (n o d),x,by rw[e];exact g,j.mono h.cell h.S h.γ,a⟩
def Rp.grow(h:Rp w0 S γ β s a w){os:List Obj}{d:Nat}(r:w.drawn<=d){S':Nat->Nat->Prop}(q:∀ b o,S b o->S' b o)(g:∀ b o,S' b o->S b o\/(w.heap.size<=b/\b<(grown w os d).heap.size)) :
  Rp w0 S' γ β s a (grown w os d)/\Cx.le ⟨w,S,γ,β,s.ob,s.dead⟩ ⟨grown w os d,S',γ,β,s.ob,s.dead⟩:=by
 have m:w.heap.size<=(grown w os d).heap.size:=by simp
 have hle:Cx.le ⟨w,S,γ,β,s.ob,s.dead⟩ ⟨grown w os d,S',γ,β,s.ob,s.dead⟩:=
  zd (λb o c=>dV (h.Sb b o c)) q (λ_ _ k=>k) (λv b e p he=>⟨he,λn hn=>by rw[yg (h.βn v b e p he).2.1];exact hn⟩)
 refine⟨⟨?_,λt x=>(h.tms t x).mono hle,h.nt,h.tmu,λid o b u c=>?_,λid b c=>⟨(h.γn id b c).1,by have:=(h.γn id b c).2;omega⟩,h.γi,h.γf,λv b e p he=>?_,h.βi,h.βγ,h.βf,λb o c=>?_,λb o c j=>?_⟩,hle⟩
 ·exact⟨h.ext.tape,h.ext.os,h.ext.output,zEa h.ext.sz m,zEa h.ext.dr r,λb c=>(c7 w os d (zYa c.1 h.ext.sz)).trans (h.ext.old b c)⟩
 ·have l:=(h.γn id b c).2;refine(h.obs id o b u c).mono hle (c7 w os d l) λi z=>?_;all_goals grind
 ·obtain⟨A,B,C⟩:=h.βn v b e p he;all_goals grind
 ·rcases g b o c with k|k
  ·have:=h.Sb b o k;omega
  ·exact k.2
 ·rcases g b o c with k|k
  ·exact h.So b o k j
  ·exfalso;have:=h.ext.sz;have y:=j.1;omega
def pn{α:Type}(f:Nat->Option α)(i:Nat)(x:α):Nat->Option α:=λj=>if j=i then some x else f j
def bG{α:Type}(f:Nat->Option α)(i:Nat)(x:α):pn f i x i=some x:=by simp[pn]
def ce{α:Type}(f:Nat->Option α){i j:Nat}(x:α)(h:j≠i):pn f i x j=f j:=by simp[pn,h]
def fi{α:Type}{f:Nat->Option α}{i:Nat}{x:α}(h:f i=none){j:Nat}{y:α}(a:f j=some y):pn f i x j=some y:=by
 by_cases e:j=i
 ·simp_all
 ·rw[ce f x e,a]
def Rp.newOb(h:Rp w0 S γ β s a w){id b:Nat}(hid:γ id=none)(p:¬ w0.Old b)(q:b<w.heap.size)(m:∀ id,γ id≠some b)(z:∀ v e,v ∉ s.dead->β v≠some (b,e))(y:id<s.base+4096)
  (u:∀ o,s.ob id=some o->gl ⟨w,S,pn γ id b,β,s.ob,s.dead⟩ b o):Rp w0 S (pn γ id b) β s a w/\Cx.le ⟨w,S,γ,β,s.ob,s.dead⟩ ⟨w,S,pn γ id b,β,s.ob,s.dead⟩:=by
 have hle:Cx.le ⟨w,S,γ,β,s.ob,s.dead⟩ ⟨w,S,pn γ id b,β,s.ob,s.dead⟩:=
  zd (λ_ _ _=>rfl) (λ_ _ k=>k) (λ_ _ k=>fi hid k) (λv b e l he=>⟨he,λn hn=>hn⟩)
 refine⟨⟨h.ext,λt x=>(h.tms t x).mono hle,h.nt,h.tmu,λi o c r hc=>?_,λi c hc=>?_,λi j c hc d=>?_,λi g=>?_,h.βn,h.βi,λv i c e l he hc=>?_,h.βf,h.Sb,h.So⟩,hle⟩
 ·by_cases e:i=id
  ·simp_all [bG]
  ·rw[ce γ b e] at hc;exact(h.obs i o c r hc).mono hle rfl λ_ k=>k
 ·by_cases e:i=id
  ·simp_all [bG]
  ·rw[ce γ b e] at hc;exact h.γn i c hc
 ·by_cases e:i=id
  ·by_cases e':j=id
   ·rw[e,e']
   ·subst e;rw[bG] at hc;cases hc;rw[ce γ b e'] at d;exact absurd d (m j)
  ·by_cases e':j=id
   ·subst e';rw[bG] at d;cases d;rw[ce γ b e] at hc;exact absurd hc (m i)
   ·rw[ce γ b e] at hc;rw[ce γ b e'] at d;exact h.γi i j c hc d
 ·rw[ce γ b (by omega)];exact h.γf i g
 ·by_cases e':i=id
  ·simp_all [bG]
  ·rw[ce γ b e'] at hc;exact h.βγ v i c e l he hc
def Rp.newTok(h:Rp w0 S γ β s a w){v b e:Nat}(y:β v=none)(p:¬ w0.Old b)(q:b<w.heap.size)(C:∀ id,γ id≠some b)(B:∀ v e,v ∉ s.dead->β v≠some (b,e))(l:v<s.base+4096)(A:∀ o,e<=o->¬ S b o) :
  Rp w0 S γ (pn β v (b,e)) s a w/\Cx.le ⟨w,S,γ,β,s.ob,s.dead⟩ ⟨w,S,γ,pn β v (b,e),s.ob,s.dead⟩:=by
 have hle:Cx.le ⟨w,S,γ,β,s.ob,s.dead⟩ ⟨w,S,γ,pn β v (b,e),s.ob,s.dead⟩:=
  zd (λ_ _ _=>rfl) (λ_ _ k=>k) (λ_ _ k=>k) (λv b e z he=>⟨fi y he,λn hn=>hn⟩)
 refine⟨⟨h.ext,λt x=>(h.tms t x).mono hle,h.nt,h.tmu,λi o c r hc=>(h.obs i o c r hc).mono hle rfl λ_ k=>k,h.γn,h.γi,h.γf,λu c f hu hc=>?_,λu j c f m hu g hc d=>?_,λu i c f hu hc l=>?_,λu hu=>?_,h.Sb,h.So⟩,hle⟩
 ·by_cases e':u=v
  ·simp_all [bG]
  ·rw[ce β _ e'] at hc;exact h.βn u c f hu hc
 ·by_cases e1:u=v
  ·by_cases e2:j=v
   ·rw[e1,e2]
   ·simp_all [bG,ce,e2]
  ·by_cases e2:j=v
   ·simp_all [bG,ce,e1]
   ·rw[ce β _ e1] at hc;rw[ce β _ e2] at d;exact h.βi u j c f m hu g hc d
 ·by_cases e':u=v
  ·simp_all [bG]
  ·rw[ce β _ e'] at hc;exact h.βγ u i c f hu hc l
 ·rw[ce β _ (by omega)];exact h.βf u hu
end
def Qp(w0:Root)(S:Nat->Nat->Prop)(γ:Nat->Option Nat)(β:Nat->Option (Nat×Nat))(s:St)(a:Act)(w:World)(dst:Option Nat)(v:AV)(val:Value)(w':World):Prop:=
 ∃ S' γ' β',Rp w0 S' γ' β' s a w'/\AR ⟨w',S',γ',β',s.ob,s.dead⟩ v val/\(∀ b o,S b o->S' b o)/\(∃ os d,w'=grown w os d) ∧
  (∀ id b,γ id=some b->γ' id=some b)/\(∀ id,dst≠some (id-s.base)\/id<s.base->γ' id=γ id/\β' id=β id)
section
variable{w0:Root}{S:Nat->Nat->Prop}{γ:Nat->Option Nat}{β:Nat->Option (Nat×Nat)}{s:St}{a:Act}{w:World}
def Qp.same(h:Rp w0 S γ β s a w){v:AV}{val:Value}(b:AR ⟨w,S,γ,β,s.ob,s.dead⟩ v val)(dst:Option Nat):Qp w0 S γ β s a w dst v val w:=
 ⟨S,γ,β,h,b,λ_ _ k=>k,⟨[],_,(Fq w).symm⟩,λ_ _ k=>k,λ_ _=>⟨rfl,rfl⟩⟩
end
end Sy
end
noncomputable section
namespace Sy
open Go
def Fr(E:Env)(s:St)(γ:Nat->Option Nat)(β:Nat->Option (Nat×Nat))(o:Oper):Prop:=
 yN o=true->∀ d:Nat,o.dst=some d->d<4096/\γ (s.base+d)=none/\β (s.base+d)=none/\∀ T x,o.op=.alloc T->E.alOb T=some x->s.ob (s.base+d)=some x
def Dz{E:Env}{s:St}{γ:Nat->Option Nat}{β:Nat->Option (Nat×Nat)}{o:Oper}(h:yN o=false):Fr E s γ β o:=λhc=>by rw[h] at hc;cases hc
def eM{x:AV}{p:Ty×D}(h:isD x=some p):x=.d p.1 p.2:=by
 cases x<;>simp[isD] at h;grind
theorem yw{x:D}{b:Bool}(h:x.truth=some b):x=.bool b:=by
 cases x<;>simp[D.truth] at h
 simp_all
def ph{c:Cx}{x:AV}{b:Bool}{v:Value}(h:x.truth=some b)(k:AR c x v):v=.bool b/\∃ t,x=.d t (.bool b):=by
 cases x<;>simp only[AV.truth] at h<;>first|cases h|skip
 split at h<;>first|(cases h;done)|skip
 have:=yw h;subst this;exact⟨Dw k,_,rfl⟩
def pX{x:D}{n k:Nat}(h:x.idx n=some k):∃ a,x=.int a k/\k<n:=by
 cases x<;>simp only[D.idx] at h<;>first|cases h|skip
 rename_i a i;split at h
 ·rename_i b;simp only[zda] at h;refine⟨a,?_,by omega⟩
  grind
 ·cases h
def xU{x:D}{k:Nat}(h:x.natOf=some k):∃ a,x=.int a k:=by
 cases x<;>simp only[D.natOf] at h<;>first|cases h|skip
 rename_i a i;split at h
 ·simp only[zda] at h;refine⟨a,?_⟩;grind
 ·cases h
def Ha{x:D}{l:List D}(h:x.asSl=some l):x=.sl l:=by
 cases x<;>simp[D.asSl] at h
 simp_all
def yd{c:Cx}{t:Ty}{id:Nat}{v:Value}(a:xu (c.ob id)=true)(na:∀ cs,v≠.agg cs)(h:AC c (.ptr t id []) v.cells.toList):∃ b,v=.pointer (some ⟨b,0,none⟩)/\c.γ id=some b:=by
 simp only[AC] at h;obtain⟨b,off,h1,e,f⟩:=h;unfold xu at a;split at a<;>first|(cases a;done)|skip
 all_goals
  rename_i d;obtain⟨_,g⟩:=f _ d;have:off=0:=g;subst this;exact⟨b,au na h1,e⟩
theorem tq{c:Cx}:∀ (l:List AV) (caps:List Value),wd l=true->(l.all (λa=>match a with|.ptr _ id _=>xu (c.ob id)|_=>false))=true->og c l caps->oh c l caps
 | [],caps,_,_,h=>by simp only[og] at h;subst h;trivial
 | x::l,caps,hw,d,h=>by
  simp only[og] at h;obtain⟨v,c2,rfl,h1,f⟩:=h;simp only[zRb,zaa] at d;unfold wd at hw;split at hw<;>first|(cases hw;done)|skip
  ·simp_all
  ·rename_i t id l' e;cases e;refine⟨?_,tq l c2 hw d.2 f⟩;have na:∀ cs,v≠.agg cs:=λcs e=>by
    simp only[AC] at h1;obtain⟨b,off,q,_⟩:=h1;subst e;simp at q
   have g:=yd d.1 na (v:=v) (by
    have q:=h1;simp only[AC] at q;obtain⟨b,off,q,_⟩:=q;have:v=.pointer (some ⟨b,off,none⟩):=by simpa using q
    subst this;exact h1)
   exact g
def EF{c:Cx}{f:Nat}{l:List AV}{v:Value}(h:AR c (.clo f l) v):fQ c (if wd l&&l.all (λa=>match a with|.ptr _ id _=>xu (c.ob id)|_=>false) then .clo f l else .undef) v:=by
 split
 ·rename_i hc;simp only[zaa] at hc;simp only[AR,AC] at h;obtain⟨na,caps,h1,b⟩:=h;simp only[fQ];exact⟨caps,au na h1,tq l caps hc.1 hc.2 b⟩
 ·simp only[fQ]
def EG{c:Cx}{a vt:Ty}{id:Nat}{v:Value}(h:AR c (.map a vt id) v):fQ c (.map a vt id) v:=by
 simp only[AR,AC] at h;obtain⟨na,b,h1,d,e,f,_⟩:=h;exact⟨b,au na h1,d,e,f⟩
def EE{c:Cx}{a:AV}{v:Value}(h:lZ (jE c.ob a)=true)(k:AR c a v):fQ c (jE c.ob a) v/\v.oneCell'=true:=by
 have key:lZ a=true:=by
  cases a<;>simp only[jE] at h<;>first|rfl|(cases h;done)|skip
  rename_i t id p;cases p<;>simp only at h
  ·split at h<;>cases h
  ·cases h
 refine⟨?_,MJ key k⟩;cases a<;>simp only[lZ] at key<;>first|(cases key;done)|skip
 ·exact EF k
 ·exact EG k
 ·exact k
def DT{c:Cx}{x:AV}{v:Value}{dd:List Nat}(h:t8 c x v)(hp:f8 (lj c.ob x)=true):AC ⟨c.w,c.S,c.γ,c.β,c.ob,dd⟩ (lj c.ob x) [v]/\∀ cs,v≠.agg cs:=by
 unfold t8 at h;split at h
 ·rename_i t id;obtain⟨b,rfl,d⟩:=h;refine⟨?_,λcs e=>by cases e⟩
  simp only[lj] at hp ⊢;cases ho:c.ob id with
  | none=>rw[ho] at hp;simp[f8] at hp
  | some o=>
   rw[ho] at hp;cases o<;>simp only[f8] at hp<;>first|(cases hp;done)|skip
   all_goals
    simp only[AC];refine⟨b,0,rfl,d,λo' a=>?_⟩;have:some o'=some _:=a.symm.trans ho;cases this;exact⟨rfl,rfl⟩
 ·exact h.elim
theorem Ay{c:Cx}{dd:List Nat}:∀ {l:List AV} {vs:List Value},oh c l vs->(l.map (lj c.ob)).all f8=true->og ⟨c.w,c.S,c.γ,c.β,c.ob,dd⟩ (l.map (lj c.ob)) vs
 | [],[],_,_=>by simp[og]
 | [],_::_,h,_=>h.elim
 | _::_,[],h,_=>h.elim
 | x::l,v::vs,h,hp=>by
  simp only[z9a,zRb,zaa] at hp;simp only[z9a,og];exact⟨v,vs,rfl,(DT h.1 hp.1).1,Ay h.2 hp.2⟩
def Ax{c:Cx}{x:AV}{v:Value}{dd:List Nat}(h:fQ c x v):AR ⟨c.w,c.S,c.γ,c.β,c.ob,dd⟩ (ou c.ob x) v:=by
 cases x<;>simp only[fQ] at h<;>simp only[ou]<;>first|(simp only[AR];done)|skip
 case d t y=>simpa only[AR] using h
 case fptr t y=>simpa only[AR,AC] using h
 case ptr t id p=>
  cases hp:f8 (lj c.ob (.ptr t id p)) with
  | true=>
   obtain⟨q,z⟩:=DT (dd:=dd) h hp;have r:v.cells.toList=[v]:=by
    unfold t8 at h;split at h
    ·obtain⟨b,rfl,_⟩:=h;rfl
    ·exact h.elim
   cases hx:lj c.ob (.ptr t id p)<;>rw[hx] at hp q<;>simp only[f8] at hp<;>first|(cases hp;done)|skip
   simp_all [AR,r]
  | false=>
   have:lj c.ob (.ptr t id p)=.undef:=by
    unfold lj at hp ⊢;all_goals grind [f8]
   simp_all [AR]
 case clo f l=>
  obtain⟨caps,rfl,hc⟩:=h;split
  ·rename_i hp;simp only[AR,AC];exact⟨λcs e=>(by cases e),caps,rfl,Ay hc hp⟩
  ·simp only[AR]
 case yld id=>simpa only[AR,AC] using h
 case map kt vt id=>
  obtain⟨b,rfl,h1,k,m⟩:=h;split
  ·rename_i s u l n;split
   ·rename_i a;simp only[zaa] at a;have i:=Ty.eq_of_beq _ _ a.1;have j:=Ty.eq_of_beq _ _ a.2;subst i;subst j;simp only[AR,AC];refine⟨λcs e=>(by cases e),b,rfl,h1,k,m,λo g=>?_⟩
    have:some o=some _:=g.symm.trans n;cases this;exact⟨l,rfl⟩
   ·simp only[AR]
  ·simp only[AR]
section
variable{P:Program}{E:Env}{w0:Root}{S:Nat->Nat->Prop}{γ:Nat->Option Nat}{β:Nat->Option (Nat×Nat)}{s:St}{a:Act}{w:World}
def jK(P:Program)(E:Env)(w0:Root)(S:Nat->Nat->Prop)(γ:Nat->Option Nat)(β:Nat->Option (Nat×Nat))(s:St)(a:Act)(w:World)(o:Oper):Prop:=
 ∀ (R:Type) (K:AV->Option R) (r:R),qv E s o K=some r->∃ v,K v=some r/\eP P o a w (Qp w0 S γ β s a w o.dst v)
def lO(a:Addr):(Instr.sureAddr (.pointer (some a))).run P w=.ok a w:=rfl
def MF(h:Rp w0 S γ β s a w){dst x ty pos after guard}:jK P E w0 S γ β s a w ⟨dst,.move x,ty,pos,after,guard⟩:=by
 intro R K r hq;exact⟨_,hq,.value (v:=a.eval x) (w':=w) (by simp[execOp]) (Qp.same h (aX h x) _)⟩
def F5(h:Rp w0 S γ β s a w){dst x ty pos after guard}:jK P E w0 S γ β s a w ⟨dst,.assign x,ty,pos,after,guard⟩:=by
 intro R K r hq;exact⟨_,hq,.value (v:=a.eval x) (w':=w) (by simp[execOp]) (Qp.same h (aX h x) _)⟩
def MG(h:Rp w0 S γ β s a w){dst c x y ty pos after guard}:jK P E w0 S γ β s a w ⟨dst,.pick c x y,ty,pos,after,guard⟩:=by
 intro R K r hq;simp only[qv] at hq;obtain⟨b,h1,d⟩:=bind_some_inv hq;obtain⟨e,_⟩:=ph h1 (aX h c);cases b
 ·exact⟨_,by simpa using d,.value (v:=a.eval y) (w':=w) (by simp[execOp,e,asBool]) (Qp.same h (aX h y) _)⟩
 ·exact⟨_,by simpa using d,.value (v:=a.eval x) (w':=w) (by simp[execOp,e,asBool]) (Qp.same h (aX h x) _)⟩
def BB(h:Rp w0 S γ β s a w){dst x ty pos after guard}:jK P E w0 S γ β s a w ⟨dst,.nilCheck x,ty,pos,after,guard⟩:=by
 intro R K r hq;simp only[qv] at hq;have hx:=aX h x;generalize s.opA x=y at *;cases y<;>(try simp only at hq)<;>first|cases hq|skip
 rename_i t id p;refine⟨_,hq,?_⟩;have c:=hx;simp only[AR,AC] at hx;obtain⟨h1,b,off,d,f⟩:=hx;have e:=au h1 d;exact .value (v:=a.eval x) (w':=w) (by simp[execOp,e]) (Qp.same h c _)
mutual
theorem wh:∀ (t:Ty),aq t=true->AV.fits t (kX t)=true
 | .int k,_=>bT _ _
 | .bool,_=>bT _ _
 | .str,_=>bT _ _
 | .st ts,hn=>by
  simp only[kX];split
  ·simp only[AV.fits,zaa];exact⟨by have:=Ty.beq_refl' (.st ts);simpa [Ty.beq] using this,j5 ts (by simpa [aq] using hn)⟩
  ·exact bT _ _
 | .arr n t,_=>bT _ _
 | .sl t,_=>rfl
 | .tup _,h=>by simp[aq] at h
 | .fn,h=>by simp[aq] at h
theorem j5:∀ (ts:List Ty),bw ts=true->AV.fitss ts (kh ts)=true
 | [],_=>rfl
 | t::ts,h=>by
  simp only[bw,zaa] at h;simp only[kh,AV.fitss,zaa];exact⟨wh t h.1,j5 ts h.2⟩
end
mutual
theorem db:∀ (t:Ty),aq t=true->wt t (av t)
 | .int k,_=>by simp_all [wt,av]
 | .bool,_=>by simp_all [wt,av]
 | .str,_=>by simp_all [wt,av]
 | .st ts,hn=>by simp only[wt,av];exact⟨_,rfl,pu ts (by simpa [aq] using hn)⟩
 | .arr n t,hn=>by
  simp only[wt,av];refine⟨_,rfl,by simp,λx hx=>?_⟩
  rw[(zkd.1 hx).2];exact db t (by simpa [aq] using hn)
 | .sl t,_=>by simp only[wt,av];exact⟨[],rfl,λx hx=>by simp at hx⟩
 | .tup _,h=>by simp[aq] at h
 | .fn,h=>by simp[aq] at h
theorem pu:∀ (ts:List Ty),bw ts=true->fI ts (gC ts)
 | [],_=>by simp[fI,gC]
 | t::ts,h=>by
  simp only[bw,zaa] at h;simp only[gC,fI];exact⟨_,_,rfl,db t h.1,pu ts h.2⟩
end
def L7{w:World}{S:Nat->Nat->Prop}{d:D}{v:Value}(h:Fl d v=true):CR w S d v:=by
 cases d<;>cases v<;>simp only[Fl] at h<;>first|cases h|skip
 case int.int k n k' n'=>simp at h;rw[h.1,h.2];exact .int _ _
 case bool.bool b b'=>simp at h;rw[h];exact .bool _
 case str.string x y=>
  have:x=y:=by simpa using h
  rw[this];exact .str _
 case sl.slice l a len cap=>
  simp only[zaa,List.isEmpty_iff,Option.isNone_iff_eq_none,decide_eq_true_eq] at h;obtain⟨⟨⟨rfl,rfl⟩,rfl⟩,rfl⟩:=h;exact .sl [] none 0 0 0 (λ_=>undef) (.inl rfl) (zfa 0) (λi d c=>by simp[D.flats] at c) (λi d c=>by simp[D.flats] at c)
theorem cJ{w:World}{S:Nat->Nat->Prop}:∀ {a:List D} {cs:List Value},cQ a cs=true->df w S a cs
 | [],[],_=>df.nil
 | [],_::_,h=>by simp[cQ] at h
 | _::_,[],h=>by simp[cQ] at h
 | d::a,v::cs,h=>by
  simp only[cQ,zaa] at h;exact df.append (df.single.2 (L7 h.1)) (cJ h.2)
theorem tu:∀ {a b:List D} {cs:List Value},cQ (a++b) cs=true->cQ a (cs.take a.length)=true/\cQ b (cs.drop a.length)=true
 | [],b,cs,h=>by simpa [cQ] using h
 | d::a,b,[],h=>by simp[cQ] at h
 | d::a,b,v::cs,h=>by
  simp only[zqb,cQ,zaa] at h;obtain⟨h1,c⟩:=tu h.2
  simp_all [zKa,z8b,zYc,cQ,zaa]
mutual
theorem B7{c:Cx}:∀ (t:Ty) (cs:List Value),aq t=true->cQ (av t).flat cs=true->AC c (kX t) cs
 | .int k,cs,hn,h=>by simp only[kX,AC];exact⟨db _ hn,hn,cJ h⟩
 | .bool,cs,hn,h=>by simp only[kX,AC];exact⟨db _ hn,hn,cJ h⟩
 | .str,cs,hn,h=>by simp only[kX,AC];exact⟨db _ hn,hn,cJ h⟩
 | .st ts,cs,hn,h=>by
  simp only[kX];split
  ·simp only[aq] at hn;simp only[AC];exact⟨hn,j5 ts hn,lU ts cs hn (by simpa [av,D.flat] using h)⟩
  ·simp only[AC];exact⟨db _ hn,hn,cJ h⟩
 | .arr n t,cs,hn,h=>by simp only[kX,AC];exact⟨db _ hn,hn,cJ h⟩
 | .sl t,cs,hn,h=>by
  simp only[kX,AC];simp only[av,D.flat] at h
  match cs,h with
  | [],h=>simp[cQ] at h
  | [v],h=>
   simp only[cQ,zaa] at h;have h1:=h.1;cases v<;>simp only[Fl] at h1<;>first|cases h1|skip
   simp_all
  | v::u::cs,h=>simp[cQ] at h
 | .tup _,_,h,_=>by simp[aq] at h
 | .fn,_,h,_=>by simp[aq] at h
theorem lU{c:Cx}:∀ (ts:List Ty) (cs:List Value),bw ts=true->cQ (D.flats (gC ts)) cs=true->k9 c (kh ts) cs
 | [],cs,_,h=>by
  grind [gC,D.flats,kh,k9,cQ]
 | t::ts,cs,hn,h=>by
  simp only[bw,zaa] at hn;simp only[gC,D.flats] at h;obtain⟨h1,h2⟩:=tu h;simp only[kh,k9];exact⟨_,_,(zqa _ _).symm,B7 t _ hn.1 h1,lU ts _ hn.2 h2⟩
end
end
end Sy
end
noncomputable section
namespace Sy
open Go
def nK{R:Type}{c:Cx}{b:Nat}{o:Ob}{p:List Nat}{t:Ty}{K:AV->Option R}{r:R}(k:gl c b o)(a:fg o p=some t)(h:gR o p K=some r) :
  ∃ a' cs,K a'=some r/\AC c a' cs/\AV.fits t a'=true/\aq t=true/\∀ (i:Nat) (v:Value),cs[i]?=some v->c.w.cell? ⟨b,cC o p+i,none⟩=some v:=by
 cases o
 case mp=>simp[fg] at a
 case lp=>simp[fg] at a
 case fv=>simp[gR] at h
 case one T v=>
  simp only[gl] at k;obtain⟨h1,f,_,cs,n,g,u⟩:=k;simp only[fg] at a;simp only[gR] at h;obtain⟨a',pre,mid,post,e,rfl,s,B,C⟩:=D7 p f h1 a g h;refine⟨a',mid,e,B,C,eh p h1 a,λi v q=>?_⟩;rw[cell_of_row _ n];simp only[cC,<-s];grind
 case many T l=>
  simp only[gl] at k;obtain⟨h1,f,_,cs,n,g⟩:=k;cases p with
  | nil=>simp[fg] at a
  | cons i p=>
   simp only[fg] at a;simp only[gR] at h;obtain⟨x,e,s⟩:=bind_some_inv h;rw[cr e] at g;obtain⟨u,y⟩:=g.split;obtain⟨z,E⟩:=y.split;have hx:=f x (z4a e);obtain⟨a',pre,mid,post,m1,m2,m3,m4,m5⟩:=D7 (c:=c) (cs:=(cs.drop (D.flats (l.take i)).length).take x.flat.length) p (bT T x) h1 a (by simp only[AC];exact⟨hx,h1,z⟩) s
   refine⟨a',mid,m1,m4,m5,eh p h1 a,λj v q=>?_⟩;rw[cell_of_row _ n];have hlen:(D.flats (l.take i)).length=i*T.size:=by
    rw[aF h1 _ (λx hx=>f x (zJa hx))];have:=(zka.1 e).1;simp[zwb (ztc this)]
   simp only[cC,<-m3,zLc];have A:=(zka.1 q).1;have d:((cs.drop (D.flats (l.take i)).length).take x.flat.length)[pre.length+j]?=some v:=by
    rw[m2,zEb (by omega),zFb,zkb A];exact q
   have m:=(zka.1 d).1;rw[zgb] at m;rw[zBb (by omega),zmb,hlen] at d
   rw[show i*T.size+pre.length+j=i*T.size+(pre.length+j) by omega]
   exact d
section
variable{P:Program}{E:Env}{w0:Root}{S:Nat->Nat->Prop}{γ:Nat->Option Nat}{β:Nat->Option (Nat×Nat)}{s:St}{a:Act}{w:World}
def jU(a:EnvOk P E){T:TypeId}{t:Ty}(h:E.L T=some t)(hn:aq t=true):bK P t T=true:=by
 rcases a.lay T t h with⟨b,rfl⟩|h
 ·simp[aq] at hn
 ·exact h
def lc{c:Cx}{t:Ty}{id:Nat}{p:List Nat}{v:Value}(h:AR c (.ptr t id p) v):∃ b off,v=.pointer (some ⟨b,off,none⟩)/\c.γ id=some b/\∀ o,c.ob id=some o->fg o p=some t/\off=cC o p:=by
 simp only[AR,AC] at h;obtain⟨h1,b,off,a,d⟩:=h;exact⟨b,off,au h1 a,d⟩
def gI{c:Cx}{t:Ty}{id:Nat}{p:List Nat}{b off:Nat}(h:c.γ id=some b)(a:∀ o,c.ob id=some o->fg o p=some t/\off=cC o p):AR c (.ptr t id p) (.pointer (some ⟨b,off,none⟩)):=by
 simp only[AR,AC];exact⟨by simp,b,off,rfl,h,a⟩
def yB{c:Cx}{t:Ty}{x:D}{v:Value}(h:AR c (.fptr t x) v):wt t x/\aq t=true/\∃ b off,v=.pointer (some ⟨b,off,none⟩)/\qO c.w c.S b off x.flat:=by
 simp only[AR,AC] at h;obtain⟨h1,a,h0,b,off,d,e⟩:=h;exact⟨a,h0,b,off,au h1 d,e⟩
def oF{c:Cx}{t:Ty}{x:D}{b off:Nat}(h:wt t x)(hn:aq t=true)(a:qO c.w c.S b off x.flat):AR c (.fptr t x) (.pointer (some ⟨b,off,none⟩)):=by
 simp only[AR,AC];exact⟨by simp,h,hn,b,off,rfl,a⟩
def ME(M:EnvOk P E)(h:Rp w0 S γ β s a w){dst T x ty pos after guard}:jK P E w0 S γ β s a w ⟨dst,.load T x,ty,pos,after,guard⟩:=by
 intro R K r hq;simp only[qv] at hq;have hx:=aX h x;cases hfn:E.fnT T with
 | true=>
  rw[hfn] at hq;simp only[cond_true] at hq;split at hq<;>first|cases hq|skip
  rename_i id e;split at hq<;>first|cases hq|skip
  rename_i y k;split at hq<;>first|cases hq|skip
  rw[e] at hx;obtain⟨b,off,B,I,g⟩:=lc hx;obtain⟨_,rfl⟩:=g _ k;obtain⟨_,c,q,u,k3⟩:=h.obs id _ b k I;replace u:=Ax (dd:=s.dead) u;exact⟨_,hq,.value (v:=c) (w':=w) (by simp[execOp,B,BK (M.fnT T hfn) q,cC]) (Qp.same h u _)⟩
 | false=>
 rw[hfn] at hq;simp only[cond_false] at hq;replace hq:=bind_some_inv hq;obtain⟨t,V,hq⟩:=hq;generalize s.opA x=y at *;cases y<;>(try simp only at hq)<;>first|cases hq|skip
 case ptr t' id p=>
  split at hq<;>first|cases hq|skip
  rename_i j;have:=Ty.eq_of_beq _ _ j;subst this;replace hq:=bind_some_inv hq;obtain⟨o,k,hq⟩:=hq;obtain⟨b,off,B,I,g⟩:=lc hx;obtain⟨q,rfl⟩:=g o k;obtain⟨a',cs,m1,m2,m3,m4,m5⟩:=nK (h.obs id o b k I) q hq;obtain⟨m6,m7⟩:=iB _ _ _ m3 m2;obtain⟨v,d,f⟩:=jY (jU M V m4) (w:=w) (b:=b) (off:=cC o p) m6 m7 m5;exact⟨a',m1,.value (v:=v) (w':=w) (by simp[execOp,B,d]) (Qp.same h (wN m3 m2 f) _)⟩
 case fptr t' z=>
  split at hq<;>first|cases hq|skip
  rename_i j;have:=Ty.eq_of_beq _ _ j;subst this;obtain⟨q,X,b,off,B,cs,u,k3⟩:=yB hx;obtain⟨v,d,f⟩:=jY (jU M V X) (w:=w) (b:=b) (off:=off) (cs:=cs) (by rw[<-u.1];exact cF _ _ q X) u.nag (λi c hc=>(k3 i c hc).2)
  exact⟨_,hq,.value (v:=v) (w':=w) (by simp[execOp,B,d]) (Qp.same h (wN (bT _ _) (by simp only[AC];exact⟨q,X,u⟩) f) _)⟩
 case sub sl e id p lo n=>
  split at hq<;>first|cases hq|skip
  rename_i j;simp only[zaa,zCa] at j;obtain⟨U,j⟩:=j;subst U;have:=Ty.eq_of_beq _ _ j;subst this;replace hq:=bind_some_inv hq;obtain⟨o,k,hq⟩:=hq;simp only[AR,AC] at hx;obtain⟨Q,A,b,off,cap,G,I,g⟩:=hx;simp only[zxa,if_false] at G;have B:=au Q G;obtain⟨m,q,u,rfl⟩:=g o k;obtain⟨a',cs,m1,m2,m3,m4,m5⟩:=nK (h.obs id o b k I) q hq;split at m1<;>first|(cases m1;done)|skip
  rename_i m' C l;split at m1<;>first|(cases m1;done)|skip
  rename_i F;simp only[zaa,decide_eq_true_eq] at F;have he:=Ty.eq_of_beq _ _ F.1;subst he;have hm:=oQ m3;simp only[Ty.arr.injEq] at hm;simp only[AC] at m2;obtain⟨q1,q2,Y⟩:=m2;simp only[wt] at q1;obtain⟨l0,e0,q4,Z⟩:=q1;cases e0;have O:l=l.take lo++((l.drop lo).take n++(l.drop lo).drop n):=by rw[zqa,zqa]
  have N:D.flats l=D.flats (l.take lo)++(D.flats ((l.drop lo).take n)++D.flats ((l.drop lo).drop n)):=by
   conv=>lhs;rw[O]
   rw[cl,cl]
  simp only[D.flat] at Y;rw[N] at Y;obtain⟨_,r2⟩:=Y.split;obtain⟨r3,_⟩:=r2.split;have J:(D.flats (l.take lo)).length=lo*C.size:=by
   rw[aF A _ (λx hx=>Z x (zJa hx)),zgb,zwb (by omega)]
  have L:(D.flats ((l.drop lo).take n)).length=n*C.size:=by
   rw[aF A _ (λx hx=>Z x (zUb (zJa hx))),zgb,List.length_drop,zwb (by omega)]
  have W:wt (.arr n C) (.st ((l.drop lo).take n)):=by
   simp only[wt];exact⟨_,rfl,by rw[zgb,List.length_drop,zwb (by omega)],λx hx=>Z x (zUb (zJa hx))⟩
  have H:aq (.arr n C)=true:=by simp only[aq];exact A
  obtain⟨v,d,f⟩:=jY (jU M V H) (w:=w) (b:=b) (off:=cC o p+lo*C.size) (cs:=(cs.drop (D.flats (l.take lo)).length).take (D.flats ((l.drop lo).take n)).length) (by rw[<-r3.1,L];rfl) r3.nag (λi c hc=>by
   have hi:i<(D.flats ((l.drop lo).take n)).length:=by
    have:=(zka.1 hc).1;rw[zgb] at this;omega
   rw[zBb hi,zmb] at hc;have:=m5 _ c hc;rw[J,<-zGb] at this;exact this)
  exact⟨_,m1,.value (v:=v) (w':=w) (by simp[execOp,B,d]) (Qp.same h (wN (bT _ _) (by simp only[AC];exact⟨W,H,by simp only[D.flat];exact r3⟩) f) _)⟩
def td{T:TypeId}{d:List Ty}{f:Nat}{u:Ty}(hl:bK P (.st d) T=true)(l:d[f]?=some u)(b off:Nat)(w:World) :
  (Instr.fieldAt T (.pointer (some ⟨b,off,none⟩)) f).run P w=.ok (.pointer (some ⟨b,off+Ty.sizes (d.take f),none⟩)) w:=by
 obtain⟨e,h1,h⟩:=jq hl;obtain⟨g,i,j,m,k⟩:=tP h l;have a:e[f]?=some g:=by simpa using i
 have c:u.size≠0:=by omega
 simp only[Instr.fieldAt,zha,run_underlying h1,zea,a,lO,fieldPlace,cm k,c,if_false,zna,j,dA,zWa]
theorem jX:∀ (p:List Nat) {t u v:Ty} {i:Nat},aQ t p=some u->aQ u [i]=some v->aQ t (p++[i])=some v
 | [],t,u,v,i,h,k=>by
  simp_all [aQ]
 | j::p,.st b,u,v,i,h,k=>by
  simp only[aQ,zqb] at h ⊢;obtain⟨z,h1,a⟩:=bind_some_inv h;rw[h1];exact jX p a k
 | j::p,.arr n t,u,v,i,h,k=>by
  simp only[aQ,zqb] at h ⊢;exact jX p h k
 | j::p,.int _,u,v,i,h,k=>by simp[aQ] at h
 | j::p,.bool,u,v,i,h,k=>by simp[aQ] at h
 | j::p,.str,u,v,i,h,k=>by simp[aQ] at h
 | j::p,.sl _,u,v,i,h,k=>by simp[aQ] at h
 | j::p,.tup _,u,v,i,h,k=>by simp[aQ] at h
 | j::p,.fn,u,v,i,h,k=>by simp[aQ] at h
theorem iU:∀ (p:List Nat) {t u:Ty} {i:Nat},aQ t p=some u->be t (p++[i])=be t p+be u [i]
 | [],t,u,i,h=>by
  simp_all [aQ,be]
 | j::p,.st b,u,i,h=>by
  simp only[aQ,zqb] at h ⊢;obtain⟨z,h1,a⟩:=bind_some_inv h;simp only[be];rw[show b.getD j .bool=z by simp[List.getD,h1],iU p a,zGb]
 | j::p,.arr n t,u,i,h=>by
  simp only[aQ,zqb] at h ⊢;simp only[be];rw[iU p h,zGb]
 | j::p,.int _,u,i,h=>by simp[aQ] at h
 | j::p,.bool,u,i,h=>by simp[aQ] at h
 | j::p,.str,u,i,h=>by simp[aQ] at h
 | j::p,.sl _,u,i,h=>by simp[aQ] at h
 | j::p,.tup _,u,i,h=>by simp[aQ] at h
 | j::p,.fn,u,i,h=>by simp[aQ] at h
def xY{o:Ob}{p:List Nat}{t u:Ty}{i:Nat}(h:fg o p=some t)(k:aQ t [i]=some u):fg o (p++[i])=some u/\cC o (p++[i])=cC o p+be t [i]:=by
 cases o with
 | one T v=>simp only[fg,cC] at h ⊢;exact⟨jX p h k,iU p h⟩
 | many T l=>
  cases p with
  | nil=>simp[fg] at h
  | cons j p=>simp only[fg,cC,zqb] at h ⊢;exact⟨jX p h k,by rw[iU p h,zGb]⟩
 | mp a vt l=>simp[fg] at h
 | lp i q=>simp[fg] at h
 | fv v=>cases p<;>simp[fg] at h;subst h;simp[aQ] at k
def zA(m:EnvOk P E)(h:Rp w0 S γ β s a w){dst T x f ty pos after guard}:jK P E w0 S γ β s a w ⟨dst,.fieldAddr T x f,ty,pos,after,guard⟩:=by
 intro R K r hq;simp only[qv] at hq;replace hq:=bind_some_inv hq;obtain⟨t,n,hq⟩:=hq;have hx:=aX h x;generalize s.opA x=y at *;cases t<;>(try simp only at hq)<;>first|cases hq|skip
 rename_i k;cases y<;>(try simp only at hq)<;>first|cases hq|skip
 case ptr t' id p=>
  split at hq<;>first|cases hq|skip
  rename_i d;have:=Ty.eq_of_beq _ _ d;subst this;replace hq:=bind_some_inv hq;obtain⟨u,hu,hq⟩:=hq;obtain⟨b,off,g,J,e⟩:=lc hx;rcases m.lay T _ n with⟨l,c⟩|hl
  ·cases c
  refine⟨_,hq,.value (v:=.pointer (some ⟨b,off+Ty.sizes (k.take f),none⟩)) (w':=w) (by simp only[execOp,g,zha,td hl hu,zea,zna]) (Qp.same h (gI J λo H=>?_) _)⟩
  obtain⟨j,rfl⟩:=e o H;have:=xY (i:=f) (u:=u) j (by simp[aQ,hu])
  exact⟨this.1,by rw[this.2];simp[be]⟩
 case fptr t' z=>
  split at hq<;>first|cases hq|skip
  rename_i d;have:=Ty.eq_of_beq _ _ d;subst this;replace hq:=bind_some_inv hq;obtain⟨u,hu,hq⟩:=hq;replace hq:=bind_some_inv hq;obtain⟨L,I,hq⟩:=hq;obtain⟨j,q,b,off,g,C⟩:=yB hx;rcases m.lay T _ n with⟨l,c⟩|hl
  ·cases c
  have G:z.get [f]=some L:=by simp[D.get,I]
  obtain⟨m1,A,B,m2,m3⟩:=jl [f] j q (show aQ (.st k) [f]=some u by simp[aQ,hu]) G
  rw[m2] at C;have F:=C.part;rw[m3] at F;refine⟨_,hq,.value (v:=.pointer (some ⟨b,off+Ty.sizes (k.take f),none⟩)) (w':=w) (by simp only[execOp,g,zha,td hl hu,zea,zna]) (Qp.same h (oF m1 (cd (by simpa [aq] using q) hu) ?_) _)⟩
  simpa [be] using F
def ma{T:TypeId}{n:Nat}{e:Ty}(hl:bK P (.arr n e) T=true){d:IntKind}{k:Nat}(hk:k<n)(b off:Nat)(w:World) :
  (Instr.indexAt T (.pointer (some ⟨b,off,none⟩)) (.int d k)).run P w=.ok (.pointer (some ⟨b,off+k*e.size,none⟩)) w:=by
 obtain⟨u,h1,c⟩:=eN hl;have a:(0:Int)<=(k:Int)/\(k:Int)<(n:Int):=by omega
 simp only[Instr.indexAt,asIntOf,pure_bind,zha,run_underlying h1,zea,lO,zna,a,and_self,if_true,cm c,dA,z4c]
def mZ{T:TypeId}{e:Ty}(hl:bK P (.sl e) T=true){d:IntKind}{k len cap:Nat}(hk:k<len)(b off:Nat)(w:World) :
  (Instr.indexAt T (.slice (some ⟨b,off,none⟩) len cap) (.int d k)).run P w=.ok (.pointer (some ⟨b,off+k*e.size,none⟩)) w:=by
 obtain⟨u,h1,c⟩:=jp hl;have a:(0:Int)<=(k:Int)/\(k:Int)<(len:Int):=by omega
 simp only[Instr.indexAt,asIntOf,pure_bind,zha,run_underlying h1,zea,zna,a,and_self,if_true,cm c,dA,z4c]
def GH{c:Cx}{t:Ty}{id:Nat}{v:Value}(h:AR c (.mem t id) v):aq t=true/\∃ b,c.γ id=some b/\∀ o,c.ob id=some o->∃ l,o=.many t l/\v=.slice (some ⟨b,0,none⟩) l.length l.length:=by
 simp only[AR,AC] at h;obtain⟨h1,a,b,d,e⟩:=h;refine⟨a,b,d,λo f=>?_⟩;obtain⟨l,g,i⟩:=e o f;exact⟨l,g,au h1 i⟩
def kl{c:Cx}{ob:Nat->Option Ob}{e:Ty}{y:AV}{v:Value}{l:List D}(hn:aq e=true)(h:AR c y v)(hl:y.asList ob e=some l):(∀ x∈l,wt e x)/\CR c.w c.S (.sl l) v:=by
 unfold AV.asList at hl;obtain⟨x,h1,d⟩:=bind_some_inv hl;have:=Ha d;subst this;obtain⟨a,f⟩:=oG (t:=.sl e) (by simpa [aq] using hn) h h1
 simp only[wt] at a;obtain⟨l',b,g⟩:=a;cases b;exact⟨g,f.sl_inv⟩
def zC(W:EnvOk P E)(h:Rp w0 S γ β s a w){dst T x i ty pos after guard}:jK P E w0 S γ β s a w ⟨dst,.indexAddr T x i,ty,pos,after,guard⟩:=by
 intro R K r hq;simp only[qv] at hq;replace hq:=bind_some_inv hq;obtain⟨t,X,hq⟩:=hq;replace hq:=bind_some_inv hq;obtain⟨ix,M,hq⟩:=hq;have hi:=eM M;have c:=aX h i;rw[hi] at c;have hx:=aX h x;generalize s.opA x=y at *;cases t<;>(try simp only at hq)<;>first|cases hq|skip
 case arr n e=>
  rcases W.lay T _ X with⟨V,q⟩|hl
  ·cases q
  cases y<;>(try simp only at hq)<;>first|cases hq|skip
  case ptr j id p=>
   split at hq<;>first|cases hq|skip
   rename_i H;have:=Ty.eq_of_beq _ _ H;subst this;replace hq:=bind_some_inv hq;obtain⟨k,hk,hq⟩:=hq;obtain⟨U,f,d⟩:=pX hk;rw[f] at c;obtain⟨nX,_⟩:=fE c;obtain⟨b,off,C,Q,g⟩:=lc hx;refine⟨_,hq,.value (v:=.pointer (some ⟨b,off+k*e.size,none⟩)) (w':=w) (by simp only[execOp,C,nX,zha,ma hl d,zea,zna]) (Qp.same h (gI Q λo N=>?_) _)⟩
   obtain⟨F,rfl⟩:=g o N;have:=xY (i:=k) (u:=e) F (by cases e<;>simp[aQ])
   exact⟨this.1,by rw[this.2];cases e<;>simp[be]⟩
  case fptr j z=>
   split at hq<;>first|cases hq|skip
   rename_i H;have:=Ty.eq_of_beq _ _ H;subst this;replace hq:=bind_some_inv hq;obtain⟨k,hk,hq⟩:=hq;replace hq:=bind_some_inv hq;obtain⟨z',J,hq⟩:=hq;obtain⟨U,f,d⟩:=pX hk;rw[f] at c;obtain⟨nX,_⟩:=fE c;obtain⟨F,Y,b,off,C,L⟩:=yB hx;have hg:z.get [k]=some z':=by simp[D.get,J]
   obtain⟨m1,A,B,m2,m3⟩:=jl [k] F Y (show aQ (.arr n e) [k]=some e by cases e<;>simp[aQ]) hg
   rw[m2] at L;have G:=L.part;rw[m3] at G;refine⟨_,hq,.value (v:=.pointer (some ⟨b,off+k*e.size,none⟩)) (w':=w) (by simp only[execOp,C,nX,zha,ma hl d,zea,zna]) (Qp.same h (oF m1 (by simpa [aq] using Y) ?_) _)⟩
   have:be (.arr n e) [k]=k*e.size:=by cases e<;>simp[be]
   rwa [this] at G
 case sl e=>
  rcases W.lay T _ X with⟨V,q⟩|hl
  ·cases q
  have m:aq e=true:=by have:=aJ _ _ hl;simpa [aq] using this
  by_cases hm:∃ j id,y=.mem j id
  ·obtain⟨j,id,rfl⟩:=hm;simp only at hq;split at hq<;>first|cases hq|skip
   rename_i H;have:=Ty.eq_of_beq _ _ H;subst this;split at hq<;>first|cases hq|skip
   rename_i u l g;replace hq:=bind_some_inv hq;obtain⟨k,hk,hq⟩:=hq;obtain⟨U,f,d⟩:=pX hk;rw[f] at c;obtain⟨nX,_⟩:=fE c;obtain⟨_,b,Q,I⟩:=GH hx;obtain⟨l',e1,C⟩:=I _ g;cases e1;refine⟨_,hq,.value (v:=.pointer (some ⟨b,0+k*j.size,none⟩)) (w':=w) (by simp only[execOp,C,nX,zha,mZ hl d,zea,zna]) (Qp.same h (gI Q λo N=>?_) _)⟩
   have:o=.many j l:=by have:=g.symm.trans N;cases this;rfl
   subst this;exact⟨by cases j<;>simp[fg,aQ],by cases j<;>simp[cC,be]⟩
  ·have O:(y.asList s.ob e).bind (λl=>(ix.2.idx l.length).bind λk=>(l[k]?).bind λy=>K (.fptr e y))=some r:=by
    cases y<;>first|exact hq|exact absurd ⟨_,_,rfl⟩ hm
   obtain⟨l,h1,hq⟩:=bind_some_inv O;replace hq:=bind_some_inv hq;obtain⟨k,hk,hq⟩:=hq;replace hq:=bind_some_inv hq;obtain⟨z,J,hq⟩:=hq;obtain⟨U,f,d⟩:=pX hk;rw[f] at c;obtain⟨nX,_⟩:=fE c;obtain⟨F,L⟩:=kl m hx h1;obtain⟨A,cap,b,off,C,G,k4,Z⟩:=L.elems;have hA:A=some ⟨b,off,none⟩:=by
    rcases G with rfl|G
    ·simp at J
    ·exact G
   rw[cr J] at Z;have k6:=Z.part;rw[aF m _ (λx hx=>F x (zJa hx)),zgb,zwb (ztc d)] at k6;exact⟨_,hq,.value (v:=.pointer (some ⟨b,off+k*e.size,none⟩)) (w':=w) (by simp only[execOp,C,hA,nX,zha,mZ hl d,zea,zna]) (Qp.same h (oF (F z (z4a J)) m k6) _)⟩
def iu{T:TypeId}{t:Ty}(hl:bK P t T=true){cs:Array Value}{pre mid post:List Value}(a:cs.toList=pre++(mid++post))(hm:mid.length=t.size)(hn:nag mid)(w:World) :
  ∃ v,(part T cs pre.length).run P w=.ok v w/\gG t mid v:=by
 have e:cs=(pre++(mid++post)).toArray:=by rw[<-a]
 subst e;unfold part;rw[zha,Ed hl,zea];cases ha:cX t
 ·have h1:mid.length=1:=by
   rw[hm];cases t<;>simp[cX] at ha<;>first|rfl|(exfalso;exact xw hl (.inl ⟨_,rfl⟩))
  match mid,h1 with
  | [c],_=>
   have b:=hn c (by simp)
   refine⟨c,?_,?_,?_,?_⟩
   ·simp
   ·cases c<;>simp_all [Value.cells,Value.oneCell']
   ·simp_all
   ·grind [Value.oneCell']
 ·refine⟨.agg mid.toArray,?_,rfl,λ_=>⟨_,rfl⟩,by rw[ha];intro h;cases h⟩
  simp only[if_true,zha,cm hl,zea,zna]
  simp_all
def IR(M:EnvOk P E)(h:Rp w0 S γ β s a w){dst T x f ty pos after guard}:jK P E w0 S γ β s a w ⟨dst,.field T x f,ty,pos,after,guard⟩:=by
 intro R K r hq;simp only[qv] at hq;replace hq:=bind_some_inv hq;obtain⟨t,Q,hq⟩:=hq;have hx:=aX h x;generalize s.opA x=y at *;cases t<;>(try simp only at hq)<;>first|cases hq|skip
 rename_i X;cases y<;>(try simp only at hq)<;>first|cases hq|skip
 rename_i Z z;split at hq<;>first|cases hq|skip
 rename_i N;have:=Ty.eq_of_beq _ _ N;subst this;replace hq:=bind_some_inv hq;obtain⟨u,hu,hq⟩:=hq;replace hq:=bind_some_inv hq;obtain⟨q,U,hq⟩:=hq;rcases M.lay T _ Q with⟨Y,m⟩|hl
 ·cases m
 have hn:=aJ _ _ hl;obtain⟨n,V⟩:=Ai hx hn;have O:z.get [f]=some q:=by simp[D.get,U]
 obtain⟨m1,A,B,m2,m3⟩:=jl [f] n hn (show aQ (.st X) [f]=some u by simp[aQ,hu]) O
 obtain⟨W,F⟩:=V;rw[m2] at F;obtain⟨o,p⟩:=F.split;obtain⟨j,G⟩:=p.split;obtain⟨H,h1,I⟩:=jq hl;obtain⟨g,J,L,_,C⟩:=tP I hu;have c:=aJ _ _ C;obtain⟨cs,b⟩:∃ cs,a.eval x=.agg cs:=by
  simp only[wt] at n;obtain⟨l,rfl,_⟩:=n;exact W
 rw[b] at o p j G;simp only[Value.cells] at o p j G;obtain⟨v,e,i⟩:=iu C (cs:=cs) (pre:=cs.toList.take A.length) (mid:=(cs.toList.drop A.length).take q.flat.length) (post:=(cs.toList.drop A.length).drop q.flat.length)
  (by simp only[zqa]) (by rw[<-j.1];exact cF _ _ m1 c) j.nag w
 have d:g.offset=(cs.toList.take A.length).length:=by rw[<-o.1,m3,L];simp[be]
 have k:H[f]?=some g:=by simpa using J
 exact⟨_,hq,.value (v:=v) (w':=w) (by simp only[execOp,b,Instr.field,zha,run_underlying h1,zea,k,asAgg,zna,d,e]) (Qp.same h (wN (bT _ _) (by simp only[AC];exact⟨m1,c,j⟩) i) _)⟩
def IS(X:EnvOk P E)(h:Rp w0 S γ β s a w){dst T x i ty pos after guard}:jK P E w0 S γ β s a w ⟨dst,.index T x i,ty,pos,after,guard⟩:=by
 intro R K r hq;simp only[qv] at hq;replace hq:=bind_some_inv hq;obtain⟨t,Y,hq⟩:=hq;replace hq:=bind_some_inv hq;obtain⟨ix,L,hq⟩:=hq;have hi:=eM L;have b:=aX h i;rw[hi] at b;have hx:=aX h x;generalize s.opA x=y at *;cases t<;>(try simp only at hq)<;>first|cases hq|skip
 case str=>
  cases y<;>(try simp only at hq)<;>first|cases hq|skip
  rename_i t' z;split at hq<;>first|cases hq|skip
  rename_i I;have:=Ty.eq_of_beq _ _ I;subst this;replace hq:=bind_some_inv hq;obtain⟨G,C,hq⟩:=hq;rcases X.lay T _ Y with⟨W,d⟩|hl
  ·cases d
  obtain⟨f,Q⟩:=Ai hx rfl;simp only[wt] at f;obtain⟨sb,rfl⟩:=f;obtain⟨kt,kx⟩:=ix;cases kx<;>(try simp only[D.strAt] at C)<;>first|cases C|skip
  rename_i k n;obtain⟨bb,J,g⟩:=bind_some_inv C;simp only[zda] at g;subst g;obtain⟨nX,_⟩:=fE b;have O:a.eval x=.string sb:=by
   obtain⟨c1,c2⟩:=Q;obtain⟨c,e,h⟩:=df.single' c2;have:=au c1 e;rw[this];cases h;rfl
  have hu:P.underlying T=some .string:=by
   simp only[bK,zaa] at hl;all_goals grind
  exact⟨_,hq,.value (v:=.int .u8 bb.toNat) (w':=w) (by simp only[execOp,O,nX,Instr.index,asIntOf,pure_bind,zha,run_underlying hu,zea,J,zna]) (Qp.same h (cR _ _) _)⟩
 rename_i n e;cases y<;>(try simp only at hq)<;>first|cases hq|skip
 rename_i t' z;split at hq<;>first|cases hq|skip
 rename_i I;have:=Ty.eq_of_beq _ _ I;subst this;replace hq:=bind_some_inv hq;obtain⟨k,hk,hq⟩:=hq;replace hq:=bind_some_inv hq;obtain⟨G,C,hq⟩:=hq;obtain⟨kk,N,ad⟩:=pX hk;rw[N] at b;obtain⟨nX,_⟩:=fE b;rcases X.lay T _ Y with⟨W,d⟩|hl
 ·cases d
 have hn:=aJ _ _ hl;obtain⟨f,Q⟩:=Ai hx hn;have hg:z.get [k]=some G:=by simp[D.get,C]
 obtain⟨m1,A,B,m2,m3⟩:=jl [k] f hn (show aQ (.arr n e) [k]=some e by cases e<;>simp[aQ]) hg
 obtain⟨k3,Z⟩:=Q;rw[m2] at Z;obtain⟨U,V⟩:=Z.split;obtain⟨F,k8⟩:=V.split;obtain⟨u,h1,H⟩:=eN hl;have m:=aJ _ _ H;obtain⟨cs,j⟩:∃ cs,a.eval x=.agg cs:=by
  simp only[wt] at f;obtain⟨l,rfl,_⟩:=f;exact k3
 rw[j] at U V F k8;simp only[Value.cells] at U V F k8;obtain⟨v,p,q⟩:=iu H (cs:=cs) (pre:=cs.toList.take A.length) (mid:=(cs.toList.drop A.length).take G.flat.length) (post:=(cs.toList.drop A.length).drop G.flat.length)
  (by simp only[zqa]) (by rw[<-F.1];exact cF _ _ m1 m) F.nag w
 have o:k*e.size=(cs.toList.take A.length).length:=by rw[<-U.1,m3];cases e<;>simp[be]
 have M:(0:Int)<=(k:Int)/\(k:Int)<(n:Int):=by omega
 exact⟨_,hq,.value (v:=v) (w':=w) (by simp only[execOp,j,nX,Instr.index,asIntOf,pure_bind,zha,run_underlying h1,zea,M,and_self,if_true,cm H,z4c,o,p,zna]) (Qp.same h (wN (bT _ _) (by simp only[AC];exact⟨m1,m,F⟩) q) _)⟩
end
end Sy
end
noncomputable section
namespace Sy
open Go
def DV:BinOp->Bool
 | .eql|.neq|.lss|.leq|.gtr|.geq=>true
 | _=>false
section
variable{P:Program}{E:Env}{w0:Root}{S:Nat->Nat->Prop}{γ:Nat->Option Nat}{β:Nat->Option (Nat×Nat)}{s:St}{a:Act}{w:World}
def LH{op:BinOp}{k b:IntKind}{x y:Int}{z:D}(T:TypeId)(w:World)(h:D.bin op (.int k x) (.int b y)=some z) :
  (DV op=true/\∃ c,z=.bool c/\(binOp op T (.int k x) (.int b y)).run P w=.ok (.bool c) w)\/(DV op=false/\∃ n,z=.int k n/\(binOp op T (.int k x) (.int b y)).run P w=.ok (.int k n) w):=by
 cases op<;>simp only[D.bin,D.bitOp] at h
 case shl=>
     split at h<;>first|(cases h;done)|skip
     rename_i a;simp only[zda] at h;exact .inr ⟨rfl,_,h.symm,by simp[binOp,Op.shift,a]⟩
 case shr=>
     split at h<;>first|(cases h;done)|skip
     rename_i a;simp only[zda] at h;exact .inr ⟨rfl,_,h.symm,by simp[binOp,Op.shift,a]⟩
 case quo=>
  split at h<;>first|(cases h;done)|skip
  rename_i hk;subst hk;split at h<;>first|(cases h;done)|skip
  rename_i a;simp only[zda] at h;exact .inr ⟨rfl,_,h.symm,by simp[binOp,Op.intDiv,a]⟩
 case rem=>
  split at h<;>first|(cases h;done)|skip
  rename_i hk;subst hk;split at h<;>first|(cases h;done)|skip
  rename_i a;simp only[zda] at h;exact .inr ⟨rfl,_,h.symm,by simp[binOp,Op.intDiv,a]⟩
 all_goals (split at h<;>first|(cases h;done)|skip)
 all_goals (rename_i hk;subst hk)
 all_goals (simp only[zda] at h)
 all_goals first
  | (refine .inl ⟨rfl,_,h.symm,?_⟩;simp[binOp,Op.intCmp];done)
  | (refine .inr ⟨rfl,_,h.symm,?_⟩;simp[binOp,Op.intArith];done)
  | (refine .inr ⟨rfl,_,h.symm,?_⟩;simp only[binOp,ne_eq,not_true_eq_false,if_false];rfl)
def fO(op:BinOp)(T:TypeId)(x y:Operand)(k a:IntKind)(u v:Int)(w:World):(eqGuard op T x y (.int k u) (.int a v)).run P w=.ok () w:=by cases op<;>simp[eqGuard]
def kL(op:BinOp)(T:TypeId)(x y:Operand)(u v:Bool)(w:World):(eqGuard op T x y (.bool u) (.bool v)).run P w=.ok () w:=by cases op<;>simp[eqGuard]
def fq{t:Ty}{c v:Value}(h:gG t [c] v)(a:cX t=false):v=c:=au (h.2.2 a) h.1
def jc{t:Ty}{cs:List Value}{v:Value}(h:gG t cs v)(a:cX t=true):v=.agg cs.toArray:=by
 obtain⟨xs,rfl⟩:=h.2.1 a;have:=h.1;simp only[Value.cells] at this;rw[<-this]
theorem Ap:∀ (n:Nat) {l l':List D},l.length=n->l'.length=n->D.beqs l l'=(List.range n).all λj=>D.beq (l.getD j (.bool false)) (l'.getD j (.bool false))
 | 0,[],[],_,_=>rfl
 | n+1,x::l,y::l',h,a=>by
  simp only[D.beqs,List.range_succ_eq_map,zRb,List.all_map];rw[Ap n (by simpa using h) (by simpa using a)]
  rfl
mutual
theorem pO:∀ (ty:Ty) (T:TypeId) (x y:D) (cx cy:List Value) (vx vy:Value) (d:Nat),bK P ty T=true->bU ty=true->ty.high<=d->wt ty x->wt ty y->df w S x.flat cx->df w S y.flat cy->gG ty cx vx->gG ty cy vy ->
  ∀ w',(Op.equalIn d T vx vy).run P w'=.ok (D.beq x y) w'
 | .int k,T,x,y,cx,cy,vx,vy,d,hl,_,hd,hx,hy,rx,ry,ix,iy,w'=>by
  simp only[wt] at hx hy;obtain⟨n,rfl⟩:=hx;obtain⟨m,rfl⟩:=hy;obtain⟨c1,rfl,r1⟩:=rx.single';obtain⟨c2,rfl,r2⟩:=ry.single';rw[fq ix rfl,fq iy rfl,r1.int_inv,r2.int_inv];obtain⟨d,rfl⟩:∃ e,d=e+1:=⟨d-1,by simp only[Ty.high] at hd;omega⟩
  rw[run_equalIn_int w' d T k k n m (jV hl)];simp only[D.beq,decide_true,zsb];rfl
 | .bool,T,x,y,cx,cy,vx,vy,d,hl,_,hd,hx,hy,rx,ry,ix,iy,w'=>by
  simp only[wt] at hx hy;obtain⟨n,rfl⟩:=hx;obtain⟨m,rfl⟩:=hy;obtain⟨c1,rfl,r1⟩:=rx.single';obtain⟨c2,rfl,r2⟩:=ry.single';rw[fq ix rfl,fq iy rfl,r1.bool_inv,r2.bool_inv];obtain⟨d,rfl⟩:∃ e,d=e+1:=⟨d-1,by simp only[Ty.high] at hd;omega⟩
  have hu:P.underlying T=some .bool:=by
   simp only[bK,zaa] at hl;all_goals grind
  rw[run_equalIn_bool' w' d T n m hu];rfl
 | .st ts,T,x,y,cx,cy,vx,vy,d,hl,hc,hd,hx,hy,rx,ry,ix,iy,w'=>by
  simp only[wt] at hx hy;obtain⟨l,rfl,hx⟩:=hx;obtain⟨l',rfl,hy⟩:=hy;rw[jc ix rfl,jc iy rfl];obtain⟨fs,h1,h2⟩:=jq hl;have h3:P.fieldsOf T=fs:=by simp[Program.fieldsOf,h1]
  have h4:P.stoodInHeld T=false:=by
   simp_all [bK,zaa,zCa]
  simp only[Ty.high] at hd;obtain⟨d,rfl⟩:∃ e,d=e+1:=⟨d-1,by omega⟩
  rw[run_equalIn_struct w' d T _ _ (by rw[h3];exact h1) h4,h3]
  simp only[bU] at hc;simp only[D.beq];simp only[D.flat] at rx ry;exact sP ts fs.toList 0 l l' [] cx [] cy _ _ d h2 hc (by omega) hx hy rx ry rfl rfl rfl rfl w'
 | .arr n t,T,x,y,cx,cy,vx,vy,d,hl,hc,hd,hx,hy,rx,ry,ix,iy,w'=>by
  simp only[wt] at hx hy;obtain⟨l,rfl,hxl,hx⟩:=hx;obtain⟨l',rfl,hyl,hy⟩:=hy;rw[jc ix rfl,jc iy rfl];obtain⟨u,h1,h2⟩:=eN hl;obtain⟨i,z,h3,h4,_⟩:=fT (gO h2);simp only[Ty.high] at hd;obtain⟨d,rfl⟩:∃ e,d=e+1:=⟨d-1,by omega⟩
  rw[run_equalIn_array w' d _ _ h1 h3];simp only[bU] at hc;simp only[D.beq];simp only[D.flat] at rx ry;have hcell:P.cellsOf u=t.size:=by simp[Program.cellsOf,h3,h4]
  have hn:=aJ _ _ h2;rw[Ap n hxl hyl];have key:∀ (is:List Nat) (w':World),(∀ j∈is,j<n)->(Op.eqItems d u (P.cellsOf u) cx.toArray cy.toArray is).run P w'=.ok (is.all λj=>D.beq (l.getD j (.bool false)) (l'.getD j (.bool false))) w':=by
   intro is
   induction is with
   | nil=>intro w' _;simp[Op.eqItems]
   | cons j is ih=>
    intro w' hj;have hjn:=hj j (by simp)
    have e1:l[j]?=some (l.getD j (.bool false)):=by simp_all
    have e2:l'[j]?=some (l'.getD j (.bool false)):=by simp_all
    generalize l.getD j (.bool false)=dx at *;generalize l'.getD j (.bool false)=dy at *;have wx:=hx dx (z4a e1);have wy:=hy dy (z4a e2);have rx':=rx;have ry':=ry;rw[cr e1] at rx';rw[cr e2] at ry';obtain⟨p1,p2⟩:=rx'.split;obtain⟨p3,p4⟩:=p2.split;obtain⟨q1,q2⟩:=ry'.split;obtain⟨q3,q4⟩:=q2.split;have o1:(cx.take (D.flats (l.take j)).length).length=j*t.size:=by
     rw[<-p1.1,aF hn _ (λx hx'=>hx x (zJa hx')),zgb,zwb (by omega)]
    have o2:(cy.take (D.flats (l'.take j)).length).length=j*t.size:=by
     rw[<-q1.1,aF hn _ (λx hx'=>hy x (zJa hx')),zgb,zwb (by omega)]
    obtain⟨v1,r1,i1⟩:=iu h2 (cs:=cx.toArray) (pre:=cx.take (D.flats (l.take j)).length) (mid:=(cx.drop (D.flats (l.take j)).length).take dx.flat.length) (post:=(cx.drop (D.flats (l.take j)).length).drop dx.flat.length)
     (by simp only[zqa]) (by rw[<-p3.1];exact cF _ _ wx hn) p3.nag w'
    obtain⟨v2,r2,i2⟩:=iu h2 (cs:=cy.toArray) (pre:=cy.take (D.flats (l'.take j)).length) (mid:=(cy.drop (D.flats (l'.take j)).length).take dy.flat.length) (post:=(cy.drop (D.flats (l'.take j)).length).drop dy.flat.length)
     (by simp only[zqa]) (by rw[<-q3.1];exact cF _ _ wy hn) q3.nag w'
    rw[o1,<-hcell] at r1;rw[o2,<-hcell] at r2;have r3:=pO t u dx dy _ _ v1 v2 d h2 hc (by omega) wx wy p3 q3 i1 i2 w'
    simp only[Op.eqItems,zha,r1,r2,r3,zea,zRb];have e1':l[j]?.getD (.bool false)=dx:=by rw[e1];rfl
    have e2':l'[j]?.getD (.bool false)=dy:=by rw[e2];rfl
    have ih':=ih w' (λk hk=>hj k (by simp[hk]))
    simp only[List.getD,e1',e2'];cases D.beq dx dy
    ·simp
    ·simpa [List.getD] using ih'
  exact key _ w' (λj hj=>by simpa using hj)
 | .str,_,_,_,_,_,_,_,_,_,hc,_,_,_,_,_,_,_,_=>by simp[bU] at hc
 | .sl _,_,_,_,_,_,_,_,_,_,hc,_,_,_,_,_,_,_,_=>by simp[bU] at hc
 | .tup _,_,_,_,_,_,_,_,_,_,hc,_,_,_,_,_,_,_,_=>by simp[bU] at hc
 | .fn,_,_,_,_,_,_,_,_,_,hc,_,_,_,_,_,_,_,_=>by simp[bU] at hc
theorem sP:∀ (ts:List Ty) (fs:List Field) (off:Nat) (l l':List D) (px cx py cy:List Value) (xs ys:Array Value) (d:Nat),gq P ts fs off=true->mB ts=true->Ty.highs ts<=d->fI ts l->fI ts l'->df w S (D.flats l) cx->df w S (D.flats l') cy ->
  xs.toList=px++cx->px.length=off->ys.toList=py++cy->py.length=off->∀ w',(Op.eqFields d xs ys fs).run P w'=.ok (D.beqs l l') w'
 | [],fs,off,l,l',px,cx,py,cy,xs,ys,d,hf,_,_,hx,hy,_,_,_,_,_,_,w'=>by
  simp only[fI] at hx hy;subst hx;subst hy;cases fs with
  | nil=>simp[Op.eqFields,D.beqs]
  | cons f fs=>simp[gq] at hf
 | t::ts,[],off,l,l',px,cx,py,cy,xs,ys,d,hf,_,_,hx,hy,_,_,_,_,_,_,w'=>by simp[gq] at hf
 | t::ts,f::fs,off,l,l',px,cx,py,cy,xs,ys,d,hf,hc,hd,hx,hy,rx,ry,ex,lx,ey,ly,w'=>by
  simp only[gq,zaa,decide_eq_true_eq] at hf;obtain⟨⟨⟨⟨h1,h2⟩,h3⟩,h4⟩,h5⟩:=hf;simp only[fI] at hx hy;obtain⟨dx,l,rfl,hx1,hx2⟩:=hx;obtain⟨dy,l',rfl,hy1,hy2⟩:=hy;simp only[D.flats] at rx ry;obtain⟨p3,p4⟩:=rx.split;obtain⟨q3,q4⟩:=ry.split;have hn:=aJ _ _ h4;simp only[mB,zaa] at hc;simp only[Ty.highs] at hd;obtain⟨v1,r1,i1⟩:=iu h4 (cs:=xs) (pre:=px) (mid:=cx.take dx.flat.length) (post:=cx.drop dx.flat.length) (by rw[ex,zqa]) (by rw[<-p3.1];exact cF _ _ hx1 hn) p3.nag w'
  obtain⟨v2,r2,i2⟩:=iu h4 (cs:=ys) (pre:=py) (mid:=cy.take dy.flat.length) (post:=cy.drop dy.flat.length) (by rw[ey,zqa]) (by rw[<-q3.1];exact cF _ _ hy1 hn) q3.nag w'
  rw[lx,<-h1] at r1;rw[ly,<-h1] at r2;have r3:=pO t f.type dx dy _ _ v1 v2 d h4 hc.1 (by omega) hx1 hy1 p3 q3 i1 i2 w'
  have hs1:(cx.take dx.flat.length).length=t.size:=by rw[<-p3.1];exact cF _ _ hx1 hn
  have hs2:(cy.take dy.flat.length).length=t.size:=by rw[<-q3.1];exact cF _ _ hy1 hn
  have ih:=sP ts fs (off+t.size) l l' (px++cx.take dx.flat.length) (cx.drop dx.flat.length) (py++cy.take dy.flat.length) (cy.drop dy.flat.length) xs ys d h5 hc.2 (by omega) hx2 hy2 p4 q4
   (by rw[zIa,zqa];exact ex) (by rw[zua,lx,hs1]) (by rw[zIa,zqa];exact ey) (by rw[zua,ly,hs2]) w'
  simp only[Op.eqFields,h2,ne_eq,not_false_eq_true,if_true,zha,r1,r2,r3,zea,D.beqs];cases D.beq dx dy
  ·simp
  ·simpa using ih
end
def IN(O:EnvOk P E)(h:Rp w0 S γ β s a w){dst op T x y T' ty pos after guard}:jK P E w0 S γ β s a w ⟨dst,.binOp op T x y T',ty,pos,after,guard⟩:=by
 intro R K r hq;simp only[qv] at hq;replace hq:=bind_some_inv hq;obtain⟨t,Q,hq⟩:=hq;replace hq:=bind_some_inv hq;obtain⟨u,hu,hq⟩:=hq;replace hq:=bind_some_inv hq;obtain⟨v,V,hq⟩:=hq;have hx:=aX h x;have l:=aX h y;rw[eM hu] at hx;rw[eM V] at l;have C:∀ (L:Bool),(u.1.beq t&&v.1.beq t&&bU t)=true->∀ (o:BinOp),(o=.eql/\L=false)\/(o=.neq/\L=true) ->
   (execOp a.eval ⟨dst,.binOp o T x y T',ty,pos,after,guard⟩).run P w=.ok (.value (.bool (xor L (D.beq u.2 v.2)))) w:=by
  intro L q o J;simp only[zaa] at q;obtain⟨⟨h1,j⟩,p⟩:=q;have H:=Ty.eq_of_beq _ _ h1;have I:=Ty.eq_of_beq _ _ j;rw[H] at hx;rw[I] at l;have hl:bK P t T=true:=by
   rcases O.lay T _ Q with⟨W,rfl⟩|hl
   ·simp[bU] at p
   ·exact hl
  have hn:=aJ _ _ hl;obtain⟨A,B⟩:=Ai hx hn;obtain⟨m1,m2⟩:=Ai l hn;have X:=O.high T _ Q;have i1:gG t (a.eval x).cells.toList (a.eval x):=⟨rfl,po A hn B.1⟩;have i2:gG t (a.eval y).cells.toList (a.eval y):=⟨rfl,po m1 hn m2.1⟩;have g:=pO t T u.2 v.2 _ _ _ _ 10000 hl p (by omega) A m1 B.2 m2.2 i1 i2 w
  cases t<;>simp only[bU] at p<;>first|cases p|skip
  case int k=>
   simp only[wt] at A m1;obtain⟨n,b⟩:=A;obtain⟨m,f⟩:=m1;rw[b] at B hx ⊢;rw[f] at m2 l ⊢;have v1:=B.int_inv;have v2:=m2.int_inv;rcases J with⟨rfl,rfl⟩|⟨rfl,rfl⟩
   ·simp only[execOp,v1,v2,zha,fO,zea];simp[binOp,Op.intCmp,D.beq];rfl
   ·simp only[execOp,v1,v2,zha,fO,zea];simp[binOp,Op.intCmp,D.beq];rfl
  case bool=>
   simp only[wt] at A m1;obtain⟨n,b⟩:=A;obtain⟨m,f⟩:=m1;rw[b] at B hx g ⊢;rw[f] at m2 l g ⊢;have v1:=B.bool_inv;have v2:=m2.bool_inv;rw[v1,v2] at g;rcases J with⟨rfl,rfl⟩|⟨rfl,rfl⟩
   ·simp only[execOp,v1,v2,zha,kL,zea,binOp,Op.equal,Op.maxDepth,g,zna,zId]
   ·simp only[execOp,v1,v2,zha,kL,zea,binOp,Op.equal,Op.maxDepth,g,zna,Bool.true_xor]
  case st ts=>
   obtain⟨xs,b⟩:=i1.2.1 rfl;obtain⟨G,f⟩:=i2.2.1 rfl;have F:P.eqGuardType P.depth T=false:=by simp only[bK,zaa,zCa] at hl;exact hl.1.2
   rw[b,f] at g;rcases J with⟨rfl,rfl⟩|⟨rfl,rfl⟩
   ·simp only[execOp,b,f,zha,run_eqGuard_agg w _ T x y xs G F,zea,binOp,Op.equal,Op.maxDepth,g,zna,zId]
   ·simp only[execOp,b,f,zha,run_eqGuard_agg w _ T x y xs G F,zea,binOp,Op.equal,Op.maxDepth,g,zna,Bool.true_xor]
  case arr n e=>
   obtain⟨xs,b⟩:=i1.2.1 rfl;obtain⟨G,f⟩:=i2.2.1 rfl;have F:P.eqGuardType P.depth T=false:=by simp only[bK,zaa,zCa] at hl;exact hl.1.2
   rw[b,f] at g;rcases J with⟨rfl,rfl⟩|⟨rfl,rfl⟩
   ·simp only[execOp,b,f,zha,run_eqGuard_agg w _ T x y xs G F,zea,binOp,Op.equal,Op.maxDepth,g,zna,zId]
   ·simp only[execOp,b,f,zha,run_eqGuard_agg w _ T x y xs G F,zea,binOp,Op.equal,Op.maxDepth,g,zna,Bool.true_xor]
 have ints:∀ {z:D} {o:BinOp},D.bin o u.2 v.2=some z->∃ k U n m,u.2=.int k n/\v.2=.int U m:=by
  intro z o i;cases N:u.2<;>rw[N] at i<;>cases hv2:v.2<;>rw[hv2] at i<;>simp only[D.bin] at i<;>first|cases i|skip
  exact⟨_,_,_,_,rfl,rfl⟩
 have main:∀ (o:BinOp) {z:D},D.bin o u.2 v.2=some z->∃ M,(execOp a.eval ⟨dst,.binOp o T x y T',ty,pos,after,guard⟩).run P w=.ok (.value M) w ∧
   ((DV o=true->AR ⟨w,S,γ,β,s.ob,s.dead⟩ (.d .bool z) M)/\(DV o=false->AR ⟨w,S,γ,β,s.ob,s.dead⟩ (.d u.1 z) M)):=by
  intro o z i;obtain⟨k,U,n,m,H,I⟩:=ints i;rw[H,I] at i;rw[H] at hx;rw[I] at l;obtain⟨v1,t1⟩:=fE hx;obtain⟨v2,_⟩:=fE l;rcases LH (P:=P) T w i with⟨h1,c,rfl,j⟩|⟨h1,c,rfl,j⟩
  ·refine⟨.bool c,by simp only[execOp,v1,v2,zha,fO,zea,j,zna],λ_=>gH c,λh=>by rw[h1] at h;cases h⟩
  ·refine⟨.int k c,by simp only[execOp,v1,v2,zha,fO,zea,j,zna],(λh=>by rw[h1] at h;cases h),λ_=>by rw[t1];exact cR k c⟩
 cases op<;>simp only at hq
 case eql=>
  split at hq<;>first|cases hq|skip
  rename_i q;exact⟨_,hq,.value (C false q .eql (.inl ⟨rfl,rfl⟩)) (Qp.same h (by simp only[zId];exact gH _) _)⟩
 case neq=>
  split at hq<;>first|cases hq|skip
  rename_i q;exact⟨_,hq,.value (C true q .neq (.inr ⟨rfl,rfl⟩)) (Qp.same h (by simp only[Bool.true_xor];exact gH _) _)⟩
 all_goals
  replace hq:=bind_some_inv hq;obtain⟨z,i,hq⟩:=hq;obtain⟨M,h1,j,p⟩:=main _ i;first
   | exact⟨_,hq,.value h1 (Qp.same h (j rfl) _)⟩
   | exact⟨_,hq,.value h1 (Qp.same h (p rfl) _)⟩
def MH(h:Rp w0 S γ β s a w){dst op T x ty pos after guard}:jK P E w0 S γ β s a w ⟨dst,.unOp op T x,ty,pos,after,guard⟩:=by
 intro R K r hq;simp only[qv] at hq;replace hq:=bind_some_inv hq;obtain⟨u,hu,hq⟩:=hq;replace hq:=bind_some_inv hq;obtain⟨z,d,hq⟩:=hq;have hx:=aX h x;rw[eM hu] at hx;cases hu2:u.2<;>rw[hu2] at d hx<;>simp only[D.un] at d<;>first|cases d|skip
 case int k n=>
  obtain⟨v1,t1⟩:=fE hx;cases op<;>simp only[D.bitOp] at d<;>first|cases d|skip
  ·exact⟨_,hq,.value (v:=.int k (k.wrap (0-n))) (w':=w) (by simp[execOp,v1,Op.unary,Op.intArith]) (Qp.same h (by rw[t1];exact cR _ _) _)⟩
  ·exact⟨_,hq,.value (v:=.int k (k.wrap (BitVec.ofInt k.bits (if k.signed then -1 else k.max) ^^^ BitVec.ofInt k.bits n).toNat)) (w':=w) (by simp[execOp,v1,Op.unary,Op.intBits]) (Qp.same h (by rw[t1];exact cR _ _) _)⟩
 case bool b=>
  have v1:=Dw hx;cases op<;>simp only at d<;>first|cases d|skip
  have f:u.1=.bool:=by
   simp only[AR] at hx;rcases hx with⟨_,c,_⟩|⟨g,h1,_,c,_⟩
   ·cases hu1:u.1<;>rw[hu1] at c<;>simp only[wt] at c<;>first
     | rfl
     | (obtain⟨m,e⟩:=c;cases e;done)
     | (obtain⟨m,e,_⟩:=c;cases e;done)
     | (exfalso;exact c)
   ·rw[h1] at c;simp only[wt] at c;obtain⟨l,e,_⟩:=c;cases e
  exact⟨_,hq,.value (v:=.bool (!b)) (w':=w) (by simp[execOp,v1,Op.unary]) (Qp.same h (by rw[f];exact gH _) _)⟩
def C8(i:EnvOk P E)(h:Rp w0 S γ β s a w){dst U T x ty pos after guard}:jK P E w0 S γ β s a w ⟨dst,.convert U T x,ty,pos,after,guard⟩:=by
 intro R K r hq;simp only[qv] at hq;replace hq:=bind_some_inv hq;obtain⟨u,hu,hq⟩:=hq;replace hq:=bind_some_inv hq;obtain⟨t,l,hq⟩:=hq;replace hq:=bind_some_inv hq;obtain⟨b,j,hq⟩:=hq;have hx:=aX h x;rw[eM j] at hx;cases t<;>(try simp only at hq)<;>first|cases hq|skip
 rename_i k;split at hq<;>first|cases hq|skip
 rename_i d;replace hq:=bind_some_inv hq;obtain⟨z,e,hq⟩:=hq;cases hb2:b.2<;>rw[hb2] at e hx<;>simp only[D.conv] at e<;>first|cases e|skip
 rename_i m n;obtain⟨v1,t1⟩:=fE hx;have g:=Ty.eq_of_beq _ _ d;rw[t1] at g;rw[<-g] at hu;rcases i.lay T _ l with⟨f,c⟩|hl
 ·cases c
 rcases i.lay U _ hu with⟨f,c⟩|hl'
 ·cases c
 exact⟨_,hq,.value (v:=.int k (k.wrap n)) (w':=w) (by simp[execOp,convert,v1,run_underlying (jV hl),run_underlying (jV hl'),Conv.intToInt]) (Qp.same h (cR _ _) _)⟩
end
end Sy
end
noncomputable section
namespace Sy
open Go
def iA(pre mid post cs:List Value)(h:mid.length=cs.length):eK (pre++(mid++post)).toArray pre.length cs.toArray=(pre++(cs++post)).toArray:=by
 unfold eK;apply zpc;simp[h];rw[znb (by omega)]
theorem pq:∀ {a:List D} {c1 c2:List Value},cQ a c1=true->cQ a c2=true->c1=c2
 | [],[],[],_,_=>rfl
 | [],_::_,_,h,_=>by simp[cQ] at h
 | [],[],_::_,_,h=>by simp[cQ] at h
 | _::_,[],_,h,_=>by simp[cQ] at h
 | _::_,_::_,[],_,h=>by simp[cQ] at h
 | d::a,v1::c1,v2::c2,b,c=>by
  simp only[cQ,zaa] at b c;rw[pq b.2 c.2];congr 1;have a1:=b.1;have a2:=c.1;cases d<;>cases v1<;>simp only[Fl] at a1<;>first|(cases a1;done)|skip
  all_goals (cases v2<;>simp only[Fl] at a2<;>first|(cases a2;done)|skip)
  all_goals simp_all
section
variable{w:World}{S:Nat->Nat->Prop}
def PV(w:World)(S:Nat->Nat->Prop)(ty:Nat->Option Ty):List (Nat×D)->List (Nat×Value)->Prop
 | [],[]=>True
 | (i,x)::ps,(j,v)::vs=>i=j/\(∃ t,ty i=some t/\wt t x/\aq t=true/\gD w S x v)/\PV w S ty ps vs
 | _,_=>False
theorem tO{place:Nat->Option (Nat×Nat)}{ty:Nat->Option Ty}{off:Nat->Nat}{Good:List D->Prop}
  (d:∀ l i t z,Good l->ty i=some t->wt t z->Good (l.set i z))
  (c:∀ l i t,Good l->ty i=some t->∃ y,l[i]?=some y/\wt t y/\(D.flats (l.take i)).length=off i)
  (a:∀ i t,ty i=some t->place i=some (off i,t.size)) :
  ∀ (ps:List (Nat×D)) (vs:List (Nat×Value)) (l:List D) (cs:List Value),Good l->df w S (D.flats l) cs->PV w S ty ps vs ->
   ∃ b:List Value,lW place cs.toArray vs=some b.toArray/\Good (D.putParts l ps)/\df w S (D.flats (D.putParts l ps)) b
 | [],[],l,cs,f,hc,_=>⟨cs,rfl,f,hc⟩
 | [],_::_,_,_,_,_,h=>by simp[PV] at h
 | _::_,[],_,_,_,_,h=>by simp[PV] at h
 | (i,x)::ps,(j,v)::vs,l,cs,f,hc,h=>by
  simp only[PV] at h;obtain⟨rfl,⟨t,h1,k,m,n⟩,u⟩:=h;obtain⟨y,o,A,B⟩:=c l i t f h1;rw[cr o] at hc;obtain⟨c1,c2⟩:=hc.split;obtain⟨r,s⟩:=c2.split;have e:cs=cs.take (D.flats (l.take i)).length++((cs.drop (D.flats (l.take i)).length).take y.flat.length++(cs.drop (D.flats (l.take i)).length).drop y.flat.length):=by simp only[zqa]
  have p:(cs.take (D.flats (l.take i)).length).length=off i:=by rw[<-c1.1,B]
  have C:((cs.drop (D.flats (l.take i)).length).take y.flat.length).length=t.size:=by rw[<-r.1];exact cF _ _ A m
  have q:v.cells.toList.length=t.size:=by rw[<-n.2.1];exact cF _ _ k m
  have g:df w S (D.flats (l.set i x)) (cs.take (D.flats (l.take i)).length++(v.cells.toList++(cs.drop (D.flats (l.take i)).length).drop y.flat.length)):=by
   rw[nC o];exact c1.append (n.2.append s)
  obtain⟨b,m1,m2,m3⟩:=tO d c a ps vs (l.set i x) _ (d l i t x f h1 k) g u;refine⟨b,?_,m2,m3⟩;rw[uJ (a i t h1) (by rw[<-zNb];exact q) (by rw[<-p];have:=congrArg List.length e;simp only[zua] at this;simp only[zMc];omega),<-m1]
  congr 1
  conv=>lhs;rw[e]
  have:=iA (cs.take (D.flats (l.take i)).length) ((cs.drop (D.flats (l.take i)).length).take y.flat.length) ((cs.drop (D.flats (l.take i)).length).drop y.flat.length) v.cells.toList (by rw[C,q])
  rw[p] at this;simpa using this
end
section
variable{P:Program}{E:Env}{w0:Root}{S:Nat->Nat->Prop}{γ:Nat->Option Nat}{β:Nat->Option (Nat×Nat)}{s:St}{a:Act}{w:World}
theorem nI(h:Rp w0 S γ β s a w){ty:Nat->Option Ty}(hn:∀ i t,ty i=some t->aq t=true):∀ (ps:List (Nat×Operand)) (l:List (Nat×D)),partsD s.ob s ty ps=some l->PV w S ty l (ps.map λp=>(p.1,a.eval p.2))
 | [],l,hp=>by simp_all [partsD,zda,PV]
 | (i,x)::ps,l,hp=>by
  simp only[partsD] at hp;replace hp:=bind_some_inv hp;obtain⟨t,b,hp⟩:=hp;replace hp:=bind_some_inv hp;obtain⟨y,d,hp⟩:=hp;replace hp:=bind_some_inv hp;obtain⟨g,c,hp⟩:=hp;simp only[zda] at hp;subst hp;obtain⟨e,f⟩:=oG (hn i t b) (aX h x) d;simp only[z9a,PV];exact⟨trivial,⟨t,b,e,hn i t b,f⟩,nI h hn ps g c⟩
def jJ{t:Ty}{T:TypeId}(hl:bK P t T=true):∃ z,(∀ w,(zeroValue T).run P w=.ok z w)/\cQ (av t).flat z.cells.toList=true/\((∃ cs,z=.agg cs)↔cX t=true):=by
 obtain⟨i,z,h1,a,b,c,d,e⟩:=fT (gO hl)
 simp_all [zeroValue,typeInfo]
theorem vI:∀ {b:List Ty} {a:List Field} {off:Nat} (w:World),gq P b a off=true ->
  ((a.mapM λf=>do pure (f.offset,<-sizeOf f.type):Sem (List (Nat×Nat))).run P w=.ok (a.zipWith (λf t=>(f.offset,Ty.size t)) b) w)
 | [],[],_,w,_=>rfl
 | [],_::_,_,_,h=>by simp[gq] at h
 | _::_,[],_,_,h=>by simp[gq] at h
 | t::b,f::a,off,w,h=>by
  simp only[gq,zaa,decide_eq_true_eq] at h;obtain⟨⟨⟨⟨h1,e⟩,g⟩,c⟩,d⟩:=h;simp only[z6c,zha,cm c,zea,zna,vI w d,List.zipWith_cons_cons]
def FV:∀ {a:List Ty} {b:List Field} {off i:Nat} {t:Ty},gq P a b off=true->a[i]?=some t->(b.zipWith (λf t=>(f.offset,Ty.size t)) a)[i]?=some (off+Ty.sizes (a.take i),t.size)
 | a,b,off,i,t,h,c=>by
  obtain⟨f,h1,d,_⟩:=tP h c;grind
def qm{T:TypeId}{a:List Ty}(hl:bK P (.st a) T=true)(vs:Array (Nat×Value))(w:World){r:List Value}
  (e:∀ z:Value,cQ (av (.st a)).flat z.cells.toList=true->lW (λi=>if i<a.length then some (Ty.sizes (a.take i),(a.getD i .bool).size) else none) z.cells vs.toList=some r.toArray) :
  (Instr.build T vs).run P w=.ok (.agg r.toArray) w:=by
 obtain⟨b,h1,d⟩:=jq hl;obtain⟨z,j,c,_⟩:=jJ hl;have hlen:(b.toList.zipWith (λf t=>(f.offset,Ty.size t)) a).length=a.length:=by
  have:∀ {a:List Ty} {b:List Field} {off:Nat},gq P a b off=true->b.length=a.length:=by
   intro a
   induction a with
   | nil=>intro b off h;cases b<;>simp[gq] at h ⊢
   | cons t a ih=>intro b off h;cases b with
    | nil=>simp[gq] at h
    | cons f b=>simp only[gq,zaa] at h;simp[ih h.2]
  grind
 have hp:(λi=>(b.toList.zipWith (λf t=>(f.offset,Ty.size t)) a).toArray[i]?)=λi=>if i<a.length then some (Ty.sizes (a.take i),(a.getD i .bool).size) else none:=by
  funext i;by_cases g:i<a.length
  ·have:=FV (i:=i) d (zca g)
   simp_all
  ·simp_all
 have hm:(b.mapM λf=>(do pure (f.offset,<-sizeOf f.type):Sem (Nat×Nat))).run P w=.ok (b.toList.zipWith (λf t=>(f.offset,Ty.size t)) a).toArray w:=by
  rw[<-zic (xs:=b),List.mapM_toArray];simp only[Sem.run_map,vI w d,zea]
 simp only[Instr.build,zha,j,zea,run_underlying h1,hm,hp,pR,e z c,zna]
def lX(n:Nat)(x:D):D.flats (List.replicate n x)=(List.replicate n x.flat).flatten:=by
 induction n with
 | zero=>rfl
 | succ n ih=>simp only[List.replicate_succ,D.flats,ih,List.flatten_cons]
def Nk(c:Cx)(a:List Ty):List (Nat×AV)->List (Nat×Value)->Prop
 | [],[]=>True
 | (i,x)::ps,(j,v)::vs=>i=j/\(∃ t,a[i]?=some t/\AV.fits t x=true/\AC c x v.cells.toList)/\Nk c a ps vs
 | _,_=>False
theorem AN{c:Cx}{b:List Ty}(hn:bw b=true) :
  ∀ (ps:List (Nat×AV)) (vs:List (Nat×Value)) (l:List AV) (cs:List Value),AV.fitss b l=true->k9 c l cs->Nk c b ps vs ->
   ∃ a:List Value,lW (λi=>if i<b.length then some (Ty.sizes (b.take i),(b.getD i .bool).size) else none) cs.toArray vs=some a.toArray/\AV.fitss b (nJ l ps)=true/\k9 c (nJ l ps) a
 | [],[],l,cs,d,hc,_=>⟨cs,rfl,d,hc⟩
 | [],_::_,_,_,_,_,h=>by simp[Nk] at h
 | _::_,[],_,_,_,_,h=>by simp[Nk] at h
 | (i,x)::ps,(j,v)::vs,l,cs,d,hc,h=>by
  simp only[Nk] at h;obtain⟨rfl,⟨t,h1,e,f⟩,k⟩:=h;obtain⟨y,n,o⟩:=uN d h1;obtain⟨pre,mid,post,rfl,m1,m2,m3⟩:=tG d hn hc n;have p:=(iB _ _ _ o m2).1;have g:=(iB _ _ _ e f).1;obtain⟨a,q,r,s⟩:=AN hn ps vs (l.set i x) _ (nB d h1 e) (m3 x _ f) k;refine⟨a,?_,r,s⟩;have m:=(zka.1 h1).1;rw[uJ (off:=Ty.sizes (b.take i)) (size:=t.size) (by rw[if_pos m];simp[List.getD,h1]) (by rw[<-zNb];exact g) (by simp;omega),<-q]
  congr 1;have:=iA pre mid post v.cells.toList (by rw[p,g])
  simp_all
def IP(L:EnvOk P E)(h:Rp w0 S γ β s a w){dst T ps ty pos after guard}:jK P E w0 S γ β s a w ⟨dst,.build T ps,ty,pos,after,guard⟩:=by
 intro R K r hq;simp only[qv] at hq;replace hq:=bind_some_inv hq;obtain⟨t,M,hq⟩:=hq;have hex:execOp a.eval ⟨dst,.build T ps,ty,pos,after,guard⟩=(Instr.build T (ps.map λp=>(p.1,a.eval p.2)) >>= λv=>pure (.value v)):=rfl;have o:(ps.map λp=>(p.1,a.eval p.2)).toList=ps.toList.map λp=>(p.1,a.eval p.2):=by simp
 cases t<;>(try simp only at hq)<;>first|cases hq|skip
 case st ts=>
  rcases L.lay T _ M with⟨J,q⟩|hl
  ·cases q
  have hn:=aJ _ _ hl;simp only[aq] at hn;split at hq
  ·rename_i N;split at hq<;>first|cases hq|skip
   rename_i A;have j:∀ (l:List (Nat×Operand)),l.all (gn s ts)=true->Nk ⟨w,S,γ,β,s.ob,s.dead⟩ ts (l.map λp=>(p.1,s.opA p.2)) (l.map λp=>(p.1,a.eval p.2)):=by
    intro l
    induction l with
    | nil=>intro _;simp[Nk]
    | cons p l ih=>
     intro G;simp only[zRb,zaa] at G;simp only[z9a,Nk];refine⟨trivial,?_,ih G.2⟩;have h1:=G.1;unfold gn at h1;split at h1<;>first|cases h1|skip
     rename_i u hu;exact⟨u,hu,h1,(Ah h1 (cd hn hu) (aX h p.2)).1⟩
   obtain⟨z,k,f,_⟩:=jJ hl;have I:k9 ⟨w,S,γ,β,s.ob,s.dead⟩ (kh ts) z.cells.toList:=lU ts _ hn (by simpa [av,D.flat] using f)
   obtain⟨b,m1,m2,m3⟩:=AN hn _ _ _ _ (j5 ts hn) I (j ps.toList A);have d:(Instr.build T (ps.map λp=>(p.1,a.eval p.2))).run P w=.ok (.agg b.toArray) w:=by
    obtain⟨Q,h1,C⟩:=jq hl;refine qm hl _ w (r:=b) λF m=>?_;have O:k9 ⟨w,S,γ,β,s.ob,s.dead⟩ (kh ts) F.cells.toList:=lU ts _ hn (by simpa [av,D.flat] using m)
    have:F.cells=z.cells:=zpc (pq m f)
    simp_all
   exact⟨_,hq,.value (v:=.agg b.toArray) (w':=w) (by rw[hex];simp only[zha,d,zea,zna]) (Qp.same h (by
    simp only[AR];exact⟨⟨_,rfl⟩,by simp only[AC];exact⟨hn,m2,by simpa [Value.cells] using m3⟩⟩) _)⟩
  ·replace hq:=bind_some_inv hq;obtain⟨l,hp,hq⟩:=hq;have j:=nI h (ty:=λi=>ts[i]?) (λi t c=>cd hn c) _ _ hp;have main:∀ z:Value,cQ (av (.st ts)).flat z.cells.toList=true->∃ b:List Value,lW (λi=>if i<ts.length then some (Ty.sizes (ts.take i),(ts.getD i .bool).size) else none) z.cells (ps.toList.map λp=>(p.1,a.eval p.2))=some b.toArray/\fI ts (D.putParts (gC ts) l)/\df w S (D.flats (D.putParts (gC ts) l)) b:=by
    intro z k;refine tO (ty:=λi=>ts[i]?) (off:=λi=>Ty.sizes (ts.take i)) (Good:=λl=>fI ts l) (λl i t z g c k=>Ad g c k) (λl i t g c=>?_) (λi t c=>?_) l _ (gC ts) z.cells.toList (pu ts hn) (cJ (by simpa [av,D.flat] using k)) j
    ·obtain⟨y,h1,C⟩:=hC g c;exact⟨y,h1,C,qD _ _ (qE i g) (io i hn)⟩
    ·rw[if_pos (zka.1 c).1];simp only[List.getD,c,zOb]
   obtain⟨z,k,f,_⟩:=jJ hl;obtain⟨b,m1,m2,m3⟩:=main z f;have d:(Instr.build T (ps.map λp=>(p.1,a.eval p.2))).run P w=.ok (.agg b.toArray) w:=by
    refine qm hl _ w (r:=b) λF m=>?_;have:F.cells=z.cells:=zpc (pq m f);rw[this,o,<-m1]
   have hw:wt (.st ts) (.st (D.putParts (gC ts) l)):=by simp only[wt];exact⟨_,rfl,m2⟩
   exact⟨_,hq,.value (v:=.agg b.toArray) (w':=w) (by rw[hex];simp only[zha,d,zea,zna]) (Qp.same h (dT (by simpa [aq] using hn) hw ⟨⟨_,rfl⟩,by simpa [Value.cells,D.flat] using m3⟩) _)⟩
 case arr n e=>
  rcases L.lay T _ M with⟨J,q⟩|hl
  ·cases q
  have hn:=aJ _ _ hl;simp only[aq] at hn;replace hq:=bind_some_inv hq;obtain⟨l,hp,hq⟩:=hq;have j:=nI h (ty:=λi=>if i<n then some e else none) (λi t c=>by split at c<;>first|(cases c;exact hn)|cases c) _ _ hp
  have main:∀ z:Value,cQ (av (.arr n e)).flat z.cells.toList=true->∃ b:List Value,lW (λi=>some (i*e.size,e.size)) z.cells (ps.toList.map λp=>(p.1,a.eval p.2))=some b.toArray/\((D.putParts (List.replicate n (av e)) l).length=n/\∀ x∈D.putParts (List.replicate n (av e)) l,wt e x)/\df w S (D.flats (D.putParts (List.replicate n (av e)) l)) b:=by
   intro z k;refine tO (ty:=λi=>if i<n then some e else none) (off:=λi=>i*e.size) (Good:=λl=>l.length=n/\∀ x∈l,wt e x) (λl i t z g c k=>?_) (λl i t g c=>?_) (λi t c=>?_) l _ (List.replicate n (av e)) z.cells.toList ⟨by simp,λx hx=>by rw[(zkd.1 hx).2];exact db e hn⟩ (cJ (by simpa [av,D.flat] using k)) j
   ·split at c<;>first|cases c|skip
    refine⟨by simpa using g.1,λx hx=>?_⟩
    rcases zSc hx with h|h
    ·exact g.2 x h
    ·rw[h];exact k
   ·split at c<;>first|cases c|skip
    rename_i H;have B:i<l.length:=by rw[g.1];exact H
    refine⟨l[i],zca B,g.2 _ (zza B),?_⟩;rw[aF hn _ (λx hx=>g.2 x (zJa hx)),zgb,zwb (by omega)]
   ·split at c<;>first|cases c|skip
    rfl
  obtain⟨z,k,f,_⟩:=jJ hl;obtain⟨b,m1,m2,m3⟩:=main z f;have d:(Instr.build T (ps.map λp=>(p.1,a.eval p.2))).run P w=.ok (.agg b.toArray) w:=by
   obtain⟨u,h1,C⟩:=eN hl;simp only[Instr.build,zha,k,zea,run_underlying h1,cm C,pR,o,m1,zna]
  have hw:wt (.arr n e) (.st (D.putParts (List.replicate n (av e)) l)):=by simp only[wt];exact⟨_,rfl,m2⟩
  exact⟨_,hq,.value (v:=.agg b.toArray) (w':=w) (by rw[hex];simp only[zha,d,zea,zna]) (Qp.same h (dT (by simpa [aq] using hn) hw ⟨⟨_,rfl⟩,by simpa [Value.cells,D.flat] using m3⟩) _)⟩
def C9(h:Rp w0 S γ β s a w){dst x i ty pos after guard}:jK P E w0 S γ β s a w ⟨dst,.extract x i,ty,pos,after,guard⟩:=by
 intro R K r hq;simp only[qv] at hq;have hx:=aX h x;generalize s.opA x=y at *;split at hq<;>first|cases hq|skip
 rename_i q z;replace hq:=bind_some_inv hq;obtain⟨u,hu,hq⟩:=hq;replace hq:=bind_some_inv hq;obtain⟨p,d,hq⟩:=hq;simp only[AR] at hx;rcases hx with⟨h1,_⟩|⟨o,e,hn,f,g⟩
 ·simp[aq] at h1
 ·cases e;simp only[wt] at f;obtain⟨l,rfl,hw⟩:=f;simp only[D.tupAt] at d;simp only[DR] at g;obtain⟨vs,m,hlen,c⟩:=g;have j:i<vs.length:=by grind
  obtain⟨z2,k,n⟩:=hC hw hu;rw[d] at k;cases k;have b:=c i p vs[i] d (zca j);exact⟨_,hq,.value (v:=vs[i]) (w':=w) (by simp[execOp,Instr.extract,m,j]) (Qp.same h (dT (cd hn hu) n b) _)⟩
def BA(h:Rp w0 S γ β s a w){dst fn first captured ty pos after guard}:jK P E w0 S γ β s a w ⟨dst,.makeFunc fn first captured,ty,pos,after,guard⟩:=by
 intro R K r hq;simp only[qv] at hq;split at hq<;>first|cases hq|skip
 rename_i f;split at hq<;>first|cases hq|skip
 rename_i g;have e:first=#[]:=Array.eq_empty_of_size_eq_zero g.1
 refine⟨_,hq,.value (v:=.func (.func f) #[] (captured.map a.eval)) (w':=w) (by simp[execOp,Instr.makeFunc,e]) (Qp.same h ?_ _)⟩
 simp only[AR,AC];refine⟨by simp,(captured.toList.map a.eval),by rw[show captured.map a.eval=(captured.toList.map a.eval).toArray from zpc (by simp)];simp[Value.cells],?_⟩
 have b:=g.2;clear g hq;generalize captured.toList=l at *
 induction l with
 | nil=>simp[og]
 | cons x l ih=>
  simp only[zRb,zaa] at b;simp only[z9a,og];refine⟨_,_,rfl,?_,ih b.2⟩;have c:=b.1;have d:=aX h x;cases hx:s.opA x<;>rw[hx] at c d<;>simp only[f8] at c<;>first|(cases c;done)|skip
  simp only[AR] at d;obtain⟨i,j⟩:=d
  simp_all [Value.cells]
end
end Sy
end
noncomputable section
namespace Sy
open Go
theorem gF{α:Type}(l:List α):∀ (n i:Nat),i<n*l.length->((List.replicate n l).flatten)[i]?=l[i%l.length]?
 | 0,i,h=>by omega
 | n+1,i,h=>by
  rw[List.replicate_succ,List.flatten_cons,zQc];by_cases hi:i<l.length
  ·simp_all [zMa]
  ·rw[if_neg hi,gF l n (i-l.length) (by rw[z8a] at h;omega)]
   rw[<-Nat.mod_eq_sub_mod (by omega)]
def yA{w:World}{S:Nat->Nat->Prop}{e:Ty}{a:Array Value}{m:Nat}(k:cQ (av e).flat a.toList=true)(g:a.size=m)(n:Nat) :
  df w S (D.flats (List.replicate n (av e))) ((Array.range (n*m)).map λi=>a[i%a.size]!).toList:=by
 have h0:=cJ (w:=w) (S:=S) k;have hl:(av e).flat.length=m:=by rw[h0.1];simpa using g
 refine⟨by rw[lX];simp[hl],λi d c b hc=>?_⟩
 rw[lX] at b;have j:i<n*m:=by have:=(zka.1 hc).1;simpa using this
 rw[gF _ _ _ (by rw[hl];exact j),hl] at b
 have hm:0<m:=by
  rcases zDb m with h|h
  ·subst h;omega
  ·exact h
 have f:i%m<a.size:=by rw[g];exact zVa _ hm
 refine h0.2 (i%m) d c b ?_;simp only[Array.toList_map,z7a,Array.toList_range,zed j,zvb,zda] at hc;rw[<-hc,g];simp[f]
section
variable{P:Program}{E:Env}{w0:Root}{S:Nat->Nat->Prop}{γ:Nat->Option Nat}{β:Nat->Option (Nat×Nat)}{s:St}{a:Act}{w:World}
def nM{c:Array Value}{t:TypeId}:bO (grown w [.cells c t] w.drawn) w.heap.size=some c:=by
 rw[<-dS];exact vE w _ rfl
def BJ{c:Array Value}{t:TypeId}{d:Nat}:bO (grown w [.cells c t] d) w.heap.size=some c:=by
 have:=nM (w:=w) (c:=c) (t:=t);rw[show bO (grown w [.cells c t] d) w.heap.size=bO (grown w [.cells c t] w.drawn) w.heap.size from rfl];exact this
def Ff{c:Array Value}{t:TypeId}{d:Nat}(j:Nat):(grown w [.cells c t] d).cell? ⟨w.heap.size,j,none⟩=c[j]?:=cell_of_row _ BJ j
def zr(h:Rp w0 S γ β s a w){v:Nat}(F:β v=none)(t:v<s.base+4096){e:Ty}(hn:aq e=true){l:List D}(hl:∀ x∈l,wt e x){cs:List Value}(hc:df w S (D.flats l) cs){T:TypeId}{rest:List Value}{cap:Nat}(d:Nat)(r:w.drawn<=d)(j:l.length<=cap)(y:cs.length+rest.length=cap*e.size) :
  ∃ S' β',Rp w0 S' γ β' s a (grown w [.cells (cs++rest).toArray T] d)/\AR ⟨grown w [.cells (cs++rest).toArray T] d,S',γ,β',s.ob,s.dead⟩ (.own e v l) (.slice (some ⟨w.heap.size,0,none⟩) l.length cap) ∧
   (∀ b o,S b o->S' b o)/\(∀ u,u≠v->β' u=β u)/\β' v=some (w.heap.size,l.length*e.size)/\(∀ b o,S' b o->S b o\/b=w.heap.size):=by
 let S':Nat->Nat->Prop:=λb o=>S b o\/(b=w.heap.size/\o<l.length*e.size)
 have q:∀ b o,S' b o->S b o\/(w.heap.size<=b/\b<(grown w [.cells (cs++rest).toArray T] d).heap.size):=λb o g=>by
  rcases g with g|⟨rfl,_⟩
  ·exact .inl g
  ·exact .inr ⟨zfa _,by simp⟩
 obtain⟨h1,m⟩:=h.grow (os:=[.cells (cs++rest).toArray T]) (d:=d) r (S':=S') (λb o g=>.inl g) q;have z:¬ w0.Old w.heap.size:=λA=>by have:=A.1;have:=h.ext.sz;omega
 obtain⟨B,G⟩:=h1.newTok (v:=v) (b:=w.heap.size) (e:=l.length*e.size) F z (by simp) (λid hid=>by have:=(h.γn id _ hid).2;omega) (λu f hu C=>by have:=(h.βn u _ _ hu C).2.1;omega) t
  (λo A p=>p.elim (λp=>by have:=h.Sb _ _ p;omega) λp=>by omega)
 refine⟨S',pn β v (w.heap.size,l.length*e.size),B,?_,λb o g=>.inl g,λu hu=>ce β _ hu,bG β _ _,λb o g=>g.imp id λE=>E.1⟩;have hlen:cs.length=l.length*e.size:=by rw[<-hc.1];exact aF hn l hl
 simp only[AR,AC,Value.cells];refine⟨by simp,hn,hl,_,cap,rfl,?_,λ_=>.inr ⟨w.heap.size,0,rfl,by simp[bG],(cs++rest).length,?_,?_⟩⟩
 ·refine CR.of_elems (b:=w.heap.size) (off:=0) (.inr rfl) j ⟨cs,hc.mono m.cell m.S,λi c k=>?_⟩;have t:=(zka.1 k).1;refine⟨.inr ⟨rfl,by omega⟩,?_⟩
  rw[Ff];simp only[zLc,zWa];rw[zkb t];exact k
 ·simp[mX,BJ]
 ·simp;omega
def wE(N:EnvOk P E)(h:Rp w0 S γ β s a w){dst T n ps ty pos after guard}(Q:Fr E s γ β ⟨dst,.buildSlice T n ps,ty,pos,after,guard⟩):jK P E w0 S γ β s a w ⟨dst,.buildSlice T n ps,ty,pos,after,guard⟩:=by
 intro R K r hq;simp only[qv] at hq;replace hq:=bind_some_inv hq;obtain⟨t,W,hq⟩:=hq;cases t<;>(try simp only at hq)<;>first|(cases hq;done)|skip
 rename_i e;rcases N.lay T _ W with⟨ad,G⟩|hl
 ·cases G
 have hn:=aJ _ _ hl;simp only[aq] at hn;split at hq<;>first|(cases hq;done)|skip
 rename_i C;replace hq:=bind_some_inv hq;obtain⟨d,M,hq⟩:=hq;replace hq:=bind_some_inv hq;obtain⟨l,hp,hq⟩:=hq;obtain⟨O,hγ,X,_⟩:=Q rfl d M;have F:=nI h (ty:=λi=>if i<n then some e else none) (λi t b=>by split at b<;>first|(cases b;exact hn)|cases b) _ _ hp
 obtain⟨u,h1,y⟩:=jp hl;obtain⟨z,H,o,_⟩:=jJ y;obtain⟨i0,z0,U,V,nX,_⟩:=fT (gO y);have J:z.cells.size=e.size:=by
  have:=(cJ (w:=w) (S:=S) o).1;rw[<-zNb,<-this];exact cF _ _ (db e hn) hn
 have hzero:df w S (D.flats (List.replicate n (av e))) ((Array.range (n*e.size)).map λi=>z.cells[i%z.cells.size]!).toList:=yA o J n;obtain⟨f,m1,m2,m3⟩:=tO (place:=λi=>some (i*e.size,e.size)) (ty:=λi=>if i<n then some e else none) (off:=λi=>i*e.size) (Good:=λl=>l.length=n/\∀ x∈l,wt e x) (λl i t z c b H=>by
   split at b<;>first|(cases b;done)|skip
   have:e=t:=by injection b
   subst this;refine⟨by simpa using c.1,λx hx=>?_⟩
   rcases zSc hx with h|h
   ·exact c.2 x h
   ·rw[h];exact H) (λl i t c b=>by
   split at b<;>first|(cases b;done)|skip
   rename_i B;have:e=t:=by injection b
   subst this;have g:i<l.length:=by rw[c.1];exact B
   refine⟨l[i],zca g,c.2 _ (zza g),?_⟩;rw[aF hn _ (λx hx=>c.2 x (zJa hx)),zgb,zwb (by omega)]) (λi t b=>by
   split at b<;>first|(cases b;done)|skip
   have:e=t:=by injection b
   subst this;rfl) l _ (List.replicate n (av e)) _ ⟨by simp,λx hx=>by rw[(zkd.1 hx).2];exact db e hn⟩ hzero F
 obtain⟨S',β',Y,Z,k3,k4,k5,_⟩:=zr h (v:=s.base+d) X (by omega) hn m2.2 m3 (T:=u) (rest:=[]) (cap:=n) w.drawn (zfa _) (by rw[m2.1];exact zfa _) (by rw[zyb,z6b,<-m3.1,aF hn _ m2.2,m2.1])
 have m:¬ n*e.size>2^24:=by
  have:n*e.size<=4096*4096:=zUa C nX.2;omega
 have j:(ps.map λp=>(p.1,a.eval p.2)).toList=ps.toList.map λp=>(p.1,a.eval p.2):=by simp
 have k:(Instr.buildSlice T n (ps.map λp=>(p.1,a.eval p.2))).run P w=.ok (.slice (some ⟨w.heap.size,0,none⟩) n n) (grown w [.cells f.toArray u] w.drawn):=by
  have key:∀ q:Array Value,((Array.range (n*e.size)).map λi=>q[i%q.size]!)=((Array.range (n*e.size)).map λi=>z.cells[i%z.cells.size]!) ->
    lW (λi=>some (i*e.size,e.size)) ((Array.range (n*e.size)).map λi=>q[i%q.size]!) (ps.map λp=>(p.1,a.eval p.2)).toList=some f.toArray:=λq I=>by
   rw[I,j];rw[zic] at m1;exact m1
  by_cases h0:n*e.size=0
  ·have L:=key #[] (by simp[h0])
   simp only[Instr.buildSlice,zha,run_underlying h1,zea,cm y,m,if_false,if_pos h0,pure_bind,pR,L,newRow,run_newObj,zna];rw[<-dS];rfl
  ·have L:=key z.cells rfl;simp only[Instr.buildSlice,zha,run_underlying h1,zea,cm y,m,if_false,if_neg h0,bind_pure_comp,Sem.run_map,H,pure_bind,pR,L,newRow,run_newObj,zna];rw[<-dS];rfl
 have hex:execOp a.eval ⟨dst,.buildSlice T n ps,ty,pos,after,guard⟩=(Instr.buildSlice T n (ps.map λp=>(p.1,a.eval p.2)) >>= λv=>pure (.value v)):=rfl;rw[zYb,m2.1] at *;refine⟨_,hq,.value (by rw[hex];simp only[zha,k,zea,zna]) ⟨S',γ,β',Y,Z,k3,⟨_,_,rfl⟩,λ_ _ A=>A,λid hid=>⟨rfl,k4 id λA=>?_⟩⟩⟩
 subst A;rcases hid with hid|hid
 ·rw[M] at hid;exact hid (by rw[zFb])
 ·omega
end
end Sy
end
end Go.Proofs.YtphlmegkommlnaaGreatDoor
