/- Part 2 of the proof that PlaneSeparatesAsSpecified answers true at every input -/
import Derived.Test.YtphlmegkommlnaaGreatDoorSepa01
import Derived.ProofKit
import Derived.Deep.Slices
import Derived.OpenShut
import Derived.OrdersIn
import Derived.TacticsIn
import Derived.RangeFuncIn
import Derived.RangeFuncCalls
import Derived.Scope
import Derived.StillTail
import Derived.ChangeKeysEq
set_option linter.unusedVariables false
set_option linter.unusedSimpArgs false
set_option linter.unnecessarySimpa false
set_option linter.defProp false
set_option maxRecDepth 20000
namespace Go.Proofs.YtphlmegkommlnaaGreatDoor
noncomputable section
namespace Sy
open Go
section
variable{H:Type}{enc:TypeId×Value->H}{P:Program}{W:World}{base:Nat}{spare:Nat->Bool}{held:Bool}
def pq(W:World)(b o:Nat):Prop:=(W.cell? ⟨b,o,none⟩).isSome=true
def valid_lt{b o:Nat}(h:pq W b o):b<W.heap.size:=by
 unfold pq World.cell? at h;rcases zqa b W.heap.size with k|k
 ·exact k
 ·simp only[Array.getElem?_eq_none k] at h;cases h
mutual
def M7:D->Prop
 | .int k n=>(Lit.int k n).wf=true
 | .bool _=>True
 | .str s=>s.size<=maxLen
 | .st l=>xD l
 | .sl l=>l.length<=maxLen/\xD l
 | .tup l=>xD l
def xD:List D->Prop
 | []=>True
 | d::l=>M7 d/\xD l
end
theorem tT:∀ {l:List D},xD l↔∀ d∈l,M7 d
 | []=>by simp[xD]
 | d::l=>by simp[xD,tT (l:=l)]
mutual
def oW:Ty->Bool
 | .st ts=>xG ts
 | .arr _ t=>oW t
 | .sl t=>decide (0<t.size)&&oW t
 | .tup _=>false
 | .fn=>false
 | _=>true
def xG:List Ty->Bool
 | []=>true
 | t::ts=>oW t&&xG ts
end
def jS{T:TypeId}{ty:Ty}(h:bF P ty T=true):P.cellsOf T=ty.size:=by
 obtain⟨i,z,h1,a,_⟩:=fe (ga h);simp[Program.cellsOf,h1,a]
def cN.one'{S:Nat->Nat->Prop}{d:D}{c:Value}(h:CR W S d c):cN W S [d] [c]:=⟨rfl,λi d' c' a hc=>by
 cases i with
 | zero=>simp at a hc;subst a;subst hc;exact h
 | succ i=>simp at a⟩
mutual
theorem sq:∀ (ty:Ty) (T:TypeId) (fuel:Nat) (cs:List Value) (x:DataW H×List MemPlace),bF P ty T=true->oW ty=true->DataW.trod enc P W base spare held fuel T cs=some x->∃ d,wt ty d/\M7 d/\cN W (pq W) d.flat cs
 | .int k,T,fuel,cs,x,hl,_,h=>by
  obtain⟨n,rfl,_,hw⟩:=DataW.trod_int (jp hl) h;exact⟨.int k n,⟨n,rfl⟩,hw,cN.one' (.int k n)⟩
 | .bool,T,fuel,cs,x,hl,_,h=>by
  have hu:P.underlying T=some .bool:=by
   simp only[bF,zaa] at hl;have h2:=hl.2;split at h2
   ·assumption
   ·cases h2
  obtain⟨b,rfl,_⟩:=DataW.trod_bool hu h;exact⟨.bool b,⟨b,rfl⟩,trivial,cN.one' (.bool b)⟩
 | .str,T,fuel,cs,x,hl,_,h=>by
  have hu:P.underlying T=some .string:=by
   simp only[bF,zaa] at hl;have h2:=hl.2;split at h2
   ·assumption
   ·cases h2
  obtain⟨s,rfl,_,hw⟩:=DataW.trod_string hu h;exact⟨.str s,⟨s,rfl⟩,hw,cN.one' (.str s)⟩
 | .st ts,T,fuel,cs,x,hl,hp,h=>by
  obtain⟨fs,hu,hf⟩:=iM hl;obtain⟨xs,n,_,_,hlen,hxl,hx⟩:=DataW.trod_struct hu h;rw[jS hl] at hlen;obtain⟨l,h1,hok,h2⟩:=Ao ts fs.toList 0 cs n hf (by simpa only[oW] using hp) (λi f hi=>by
   have hi':fs[i]?=some f:=by simpa using hi
   have hlt:i<xs.length:=by rw[hxl];exact(zga.1 hi').1
   exact⟨xs[i],(hx i f hi').trans (zda hlt)⟩) (by rw[hlen];simp[Ty.size])
  refine⟨.st l,⟨l,rfl,h1⟩,hok,?_⟩;have:(cs.drop 0).take (Ty.sizes ts)=cs:=by
   rw[List.drop_zero,zVa (by rw[hlen];simp[Ty.size])]
  rw[this] at h2;exact h2
 | .arr n e,T,fuel,cs,x,hl,hp,h=>by
  obtain⟨u,hu,hl'⟩:=dH hl;obtain⟨xs,m,_,_,hlen,hxl,hx⟩:=DataW.trod_array hu h;rw[jS hl] at hlen;rw[jS hl'] at hx;simp only[oW] at hp;have key:∀ k,k<=n->∃ l:List D,l.length=k/\(∀ y∈l,wt e y/\M7 y)/\cN W (pq W) (D.flats l) (cs.take (k*e.size)):=by
   intro k
   induction k with
   | zero=>intro _;exact⟨[],rfl,by simp,by simp[D.flats,cN.nil]⟩
   | succ k ih=>
    intro hk;obtain⟨l,h1,h2,h3⟩:=ih (by omega)
    have hxk:=hx k (by omega)
    rw[zda (show k<xs.length by omega)] at hxk
    obtain⟨d,h4,h4',h5⟩:=sq e u m _ _ hl' hp hxk;refine⟨l++[d],by simp[h1],λy hy=>?_,?_⟩
    ·rcases zxa.1 hy with hy|hy
     ·exact h2 y hy
     ·rw[zJa.1 hy];exact⟨h4,h4'⟩
    ·have e1:cs.take ((k+1)*e.size)=cs.take (k*e.size)++(cs.drop (k*e.size)).take e.size:=by
      rw[z8a,zNc,List.take_add]
     rw[e1,bW];refine h3.append ?_;simpa [D.flats] using h5
  obtain⟨l,h1,h2,h3⟩:=key n (zfa n);refine⟨.st l,⟨l,rfl,h1,λy hy=>(h2 y hy).1⟩,tT.2 λy hy=>(h2 y hy).2,?_⟩;rw[zVa (by rw[hlen];simp[Ty.size])] at h3
  exact h3
 | .sl e,T,fuel,cs,x,hl,hp,h=>by
  obtain⟨u,hu,hl'⟩:=iK hl;simp only[oW,zaa,decide_eq_true_eq] at hp;rcases DataW.trod_slice hu h with⟨rfl,_⟩|⟨a,len,cap,elems,rest,m,_,rfl,_,hb,hlc,hcm,hel,hx,_,_⟩
  ·exact⟨.sl [],⟨[],rfl,by simp⟩,⟨zla _,trivial⟩,cN.one' (CR.of_elems (l:=[]) (b:=0) (off:=0) (.inl rfl) (zfa _) ⟨[],cN.nil,by simp⟩)⟩
  ·rw[jS hl'] at hx;by_cases h0:len=0
   ·subst h0;exact⟨.sl [],⟨[],rfl,by simp⟩,⟨zla _,trivial⟩,cN.one' (CR.of_elems (l:=[]) (b:=0) (off:=0) (.inl rfl) (zla _) ⟨[],cN.nil,by simp⟩)⟩
   ·have hsp:∃ b off,a=⟨b,off,none⟩:=by
     have:=hx 0 (by omega)
     rw[zda (show 0<elems.length by omega)] at this
     obtain⟨cs',h1,_⟩:=Option.bind_eq_some_iff.1 this;obtain⟨_,h2,h3⟩:=World.cells?_some h1;have h4:=h3 0 hp.1;rw[zda (show 0<cs'.length by omega)] at h4
     have e0:(a.add (0*e.size)).add 0=a:=by simp[Addr.add]
     rw[e0] at h4;obtain⟨b,off,sp⟩:=a;cases sp with
     | none=>exact⟨b,off,rfl⟩
     | some s=>
      exfalso;unfold World.cell? at h4;split at h4
      ·simp at h4
      ·cases h4
    obtain⟨b,off,rfl⟩:=hsp;have key:∀ k,k<=len->∃ (l:List D) (cs:List Value),l.length=k/\(∀ y∈l,wt e y/\M7 y)/\cN W (pq W) (D.flats l) cs/\∀ j c,cs[j]?=some c->W.cell? ⟨b,off+j,none⟩=some c:=by
     intro k
     induction k with
     | zero=>intro _;exact⟨[],[],rfl,by simp,cN.nil,by simp⟩
     | succ k ih=>
      intro hk;obtain⟨l,cs,h1,h2,h3,h4⟩:=ih (by omega)
      have hxk:=hx k (by omega)
      rw[zda (show k<elems.length by omega)] at hxk
      obtain⟨cs',q1,q2⟩:=Option.bind_eq_some_iff.1 hxk;obtain⟨_,q3,q4⟩:=World.cells?_some q1;obtain⟨d,h5,h5',h6⟩:=sq e u m _ _ hl' hp.2 q2;have hn:ao e=true:=aH e u hl';have hcl:cs.length=k*e.size:=by rw[<-h3.1,aE hn l (λy hy=>(h2 y hy).1),h1]
      refine⟨l++[d],cs++cs',by simp[h1],λy hy=>?_,?_,λj c hc=>?_⟩
      ·rcases zxa.1 hy with hy|hy
       ·exact h2 y hy
       ·rw[zJa.1 hy];exact⟨h5,h5'⟩
      ·rw[bW];refine h3.append ?_;simpa [D.flats] using h6
      ·rcases zqa j cs.length with hj|hj
       ·rw[zeb hj] at hc;exact h4 j c hc
       ·rw[zxb hj] at hc;have hlt:j-cs.length<e.size:=by
         have:=(zka.1 hc).1;omega
        have:=q4 (j-cs.length) hlt;rw[hc] at this;rw[cR,cR] at this;rw[show off+k*e.size+(j-cs.length)=off+j by omega] at this
        exact this
    obtain⟨l,cs,h1,h2,h3,h4⟩:=key len (zfa _);refine⟨.sl l,⟨l,rfl,λy hy=>(h2 y hy).1⟩,⟨by omega,tT.2 λy hy=>(h2 y hy).2⟩,cN.one' ?_⟩
    rw[<-h1];exact CR.of_elems (b:=b) (off:=off) (.inr rfl) (by omega) ⟨cs,h3,λi c hc=>⟨by unfold pq;rw[h4 i c hc];rfl,h4 i c hc⟩⟩
 | .tup _,_,_,_,_,hl,_,_=>by simp[bF] at hl
 | .fn,_,_,_,_,hl,_,_=>by simp[bF] at hl
theorem Ao:∀ (ts:List Ty) (fs:List Field) (off:Nat) (cs:List Value) (n:Nat),fG P ts fs off=true->xG ts=true ->
  (∀ (i:Nat) (f:Field),fs[i]?=some f->∃ x:DataW H×List MemPlace,DataW.trod enc P W base spare held n f.type ((cs.drop f.offset).take (P.cellsOf f.type))=some x)->off+Ty.sizes ts<=cs.length ->
  ∃ l,eO ts l/\xD l/\cN W (pq W) (D.flats l) ((cs.drop off).take (Ty.sizes ts))
 | [],_,off,cs,n,_,_,_,_=>⟨[],rfl,trivial,by simp[D.flats,Ty.sizes,cN.nil]⟩
 | t::ts,[],off,cs,n,h,_,_,_=>by simp[fG] at h
 | t::ts,f::fs,off,cs,n,h,hp,hx,hle=>by
  simp only[fG,zaa,decide_eq_true_eq] at h;obtain⟨⟨⟨⟨h1,_⟩,h2⟩,h3⟩,h4⟩:=h;simp only[xG,zaa] at hp;simp only[Ty.sizes] at hle ⊢;obtain⟨x,hx0⟩:=hx 0 f rfl;rw[jS h3,h1] at hx0;obtain⟨d,q1,q1',q2⟩:=sq t f.type n _ _ h3 hp.1 hx0;obtain⟨l,q3,q3',q4⟩:=Ao ts fs (off+t.size) cs n h4 hp.2 (λi g hi=>hx (i+1) g (by simpa using hi)) (by omega)
  refine⟨d::l,⟨d,l,rfl,q1,q3⟩,⟨q1',q3'⟩,?_⟩;rw[List.take_add,zyd];simp only[D.flats];exact q2.append q4
end
end
end Sy
end
noncomputable section
namespace Sy
open Go
theorem bind_some_inv.{u,v}{α:Type u}{β:Type v}{x:Option α}{f:α->Option β}{r:β}(h:x.bind f=some r):∃ a,x=some a/\f a=some r:=by
 cases x with
 | none=>cases h
 | some a=>exact⟨a,rfl,h⟩
def nH{t b:Ty}{x:D}(h:AV.fits t (.d b x)=true):t=b:=by
 have a:t.beq b=true:=by simp_all [AV.fits]
 exact Ty.eq_of_beq _ _ a
def Ty.beq_refl':∀ (t:Ty),t.beq t=true:=by
 intro t;exact(Ty.rec (motive_1:=λt=>t.beq t=true) (motive_2:=λl=>Ty.beqs l l=true)
  (λk=>by simp[Ty.beq]) rfl rfl (λl h=>by simpa [Ty.beq] using h) (λn t h=>by simp[Ty.beq,h]) (λt h=>by simpa [Ty.beq] using h) (λl h=>by simpa [Ty.beq] using h) rfl rfl
  (λt l h1 a=>by simp[Ty.beqs,h1,a]) t)
def bJ(t:Ty)(x:D):AV.fits t (.d t x)=true:=by
 have:=Ty.beq_refl' t;all_goals simp_all [AV.fits]
theorem pX:∀ {d:List Ty} {l:List AV} {i:Nat} {a:AV},AV.fitss d l=true->l[i]?=some a->∃ t,d[i]?=some t/\AV.fits t a=true
 | _,[],_,_,_,h=>by simp at h
 | [],b::l,_,_,h,_=>by simp[AV.fitss] at h
 | u::d,b::l,i,a,h,c=>by
  simp only[AV.fitss,zaa] at h;cases i with
  | zero=>simp at c;subst c;exact⟨u,rfl,h.1⟩
  | succ i=>simp at c;obtain⟨t,h1,e⟩:=pX h.2 c;exact⟨t,by simpa using h1,e⟩
theorem tj:∀ {d:List Ty} {l:List AV} {i:Nat} {t:Ty},AV.fitss d l=true->d[i]?=some t->∃ a,l[i]?=some a/\AV.fits t a=true
 | [],_,_,_,_,h=>by simp at h
 | u::d,[],_,_,h,_=>by simp[AV.fitss] at h
 | u::d,b::l,i,a,h,c=>by
  simp only[AV.fitss,zaa] at h;cases i with
  | zero=>simp at c;subst c;exact⟨b,rfl,h.1⟩
  | succ i=>simp at c;obtain⟨t,h1,e⟩:=tj h.2 c;exact⟨t,by simpa using h1,e⟩
theorem mB:∀ {c:List Ty} {l:List AV} {i:Nat} {t:Ty} {b:AV},AV.fitss c l=true->c[i]?=some t->AV.fits t b=true->AV.fitss c (l.set i b)=true
 | [],_,_,_,_,_,h,_=>by simp at h
 | u::c,[],_,_,_,h,_,_=>by simp[AV.fitss] at h
 | u::c,a::l,i,t,b,h,d,e=>by
  simp only[AV.fitss,zaa] at h;cases i with
  | zero=>simp at d;subst d;simp[AV.fitss,e,h.2]
  | succ i=>simp at d;simp only[List.set_cons_succ,AV.fitss,zaa];exact⟨h.1,mB h.2 d e⟩
theorem rP{c:Cx}:∀ {f:List Ty} {l:List AV} {cs:List Value} {i:Nat} {a:AV},AV.fitss f l=true->bh f=true->kh c l cs->l[i]?=some a ->
  ∃ pre mid post,cs=pre++(mid++post)/\pre.length=Ty.sizes (f.take i)/\AC c a mid/\∀ b d,AC c b d->kh c (l.set i b) (pre++(d++post))
 | _,[],_,_,_,_,_,_,h=>by simp at h
 | [],b::l,_,_,_,h,_,_,_=>by simp[AV.fitss] at h
 | u::f,b::l,cs,i,a,g,hn,h,e=>by
  simp only[AV.fitss,zaa] at g;simp only[bh,zaa] at hn;simp only[kh] at h;obtain⟨c1,c2,rfl,h1,j⟩:=h;cases i with
  | zero=>
   simp at e;subst e;exact⟨[],c1,c2,by simp,by simp[Ty.sizes],h1,λb d k=>by simp only[List.set_cons_zero,kh,z3b];exact⟨d,c2,rfl,k,j⟩⟩
  | succ i=>
   simp at e;obtain⟨pre,mid,post,rfl,m,n,o⟩:=rP g.2 hn.2 j e;refine⟨c1++pre,mid,post,by simp[zCa],?_,n,λb d k=>?_⟩
   ·simp only[zja,zWb,Ty.sizes,m,(gJ b u c1 g.1 h1).1]
   ·grind [kh,List.append_assoc]
def lU{a:List Ty}{i:Nat}{p:List Nat}{u:Ty}(h:aN (.st a) (i::p)=some u):∃ v,a[i]?=some v/\aN v p=some u:=by
 grind [aN]
def Cm{R:Type}{c:Cx}:∀ (p:List Nat) {T t:Ty} {a:AV} {cs:List Value} {K:AV->Option R} {r:R},AV.fits T a=true->ao T=true->aN T p=some t->AC c a cs->xj a p K=some r ->
  ∃ a' pre mid post,K a'=some r/\cs=pre++(mid++post)/\pre.length=ba T p/\AC c a' mid/\AV.fits t a'=true:=by
 intro p
 induction p with
 | nil=>
  intro T t a cs K r b hn hp hc f;have hT:T=t:=by cases T<;>simpa [aN] using hp
  subst hT;refine⟨a,[],cs,[],?_,by simp,by cases T<;>rfl,hc,b⟩
  cases a<;>simpa [xj] using f
 | cons i p ih=>
  intro T t a cs K r b hn hp hc f;cases a<;>simp only[xj] at f
  case d t' x=>
   have:=nH b;subst this;obtain⟨t2,h1,m⟩:=bind_some_inv f;obtain⟨y,g,n⟩:=bind_some_inv m;rw[hp] at h1;cases h1;simp only[AC] at hc;obtain⟨q,A,B,s,z⟩:=iH (i::p) hc.1 hn hp g;have h:=hc.2.2;rw[s] at h;obtain⟨o,u⟩:=h.split;obtain⟨w,C⟩:=u.split;refine⟨_,cs.take A.length,(cs.drop A.length).take y.flat.length,(cs.drop A.length).drop y.flat.length,n,by simp only[zsa],?_,?_,bJ _ _⟩
   ·rw[<-o.1];exact z
   ·simp only[AC];exact⟨q,dm _ hn hp,w⟩
  case st ts' l=>
   cases T<;>simp only[AV.fits] at b<;>first|cases b|skip
   rename_i D;simp only[zaa] at b;obtain⟨a1,h1,m⟩:=bind_some_inv f;obtain⟨v,g,n⟩:=lU hp;simp only[AC] at hc;simp only[ao] at hn;obtain⟨v',h,o⟩:=pX b.2 h1;rw[g] at h;cases h;obtain⟨pre,mid,post,rfl,q,s,_⟩:=rP b.2 hn hc.2.2 h1;obtain⟨a',k,j,e,m1,rfl,m2,m3,m4⟩:=ih o (bN hn g) n s m;refine⟨a',pre++k,j,e++post,m1,by simp[zCa],?_,m3,m4⟩
   simp only[zja,ba,q,m2];simp[List.getD,g]
  all_goals cases f
def Ki{R:Type}{c:Cx}:∀ (p:List Nat) {T t:Ty} {a b:AV} {cs m:List Value} {K:AV->Option R} {r:R},AV.fits T a=true->ao T=true->aN T p=some t->AC c a cs->AC c b m->AV.fits t b=true->Br a p b K=some r ->
  ∃ a' pre mid post,K a'=some r/\cs=pre++(mid++post)/\pre.length=ba T p/\mid.length=m.length/\AC c a' (pre++(m++post))/\AV.fits T a'=true:=by
 intro p
 induction p with
 | nil=>
  intro T t a b cs m K r e hn hp hc g f j;have hT:T=t:=by simp_all [aN]
  subst hT;refine⟨b,[],cs,[],?_,by simp,by cases T<;>rfl,?_,by simpa using g,f⟩
  ·simp_all [Br]
  ·rw[(gJ _ _ _ e hc).1,(gJ _ _ _ f g).1]
 | cons i p ih=>
  intro T t a b cs m K r e hn hp hc g f j;cases a<;>simp only[Br] at j
  case d t' x=>
   have:=nH e;subst this;cases b<;>simp only at j<;>first|cases j|skip
   rename_i u y;have:=nH f;subst this;obtain⟨P,h,w⟩:=bind_some_inv j;simp only[AC] at hc g;obtain⟨D,A,C,B,E,F,M,N⟩:=pd (i::p) hc.1 hn hp h g.1;have n:=hc.2.2;rw[E] at n;obtain⟨s,I⟩:=n.split;obtain⟨J,L⟩:=I.split;refine⟨_,cs.take A.length,(cs.drop A.length).take C.length,(cs.drop A.length).drop C.length,w,by simp only[zsa],?_,?_,?_,bJ _ _⟩
   ·rw[<-s.1];exact M
   ·rw[<-J.1,N,<-g.2.2.1,ci _ _ g.1 g.2.1]
   ·simp only[AC];refine⟨D,hn,?_⟩;rw[F];exact s.append (g.2.2.append L)
  case st ts' l=>
   cases T<;>simp only[AV.fits] at e<;>first|cases e|skip
   rename_i O;simp only[zaa] at e;obtain⟨a1,h1,H⟩:=bind_some_inv j;obtain⟨v,h,w⟩:=lU hp;simp only[AC] at hc;simp only[ao] at hn;obtain⟨v',n,s⟩:=pX e.2 h1;rw[h] at n;cases n;obtain⟨pre,mid,post,rfl,D,E,F⟩:=rP e.2 hn hc.2.2 h1;obtain⟨a',q,o,k,m1,rfl,m2,G,m3,m4⟩:=ih s (bN hn h) w E g f H;have z:=Ty.eqs_of_beqs _ _ e.1;subst z;refine⟨_,pre++q,o,k++post,m1,by simp[zCa],?_,G,?_,?_⟩
   ·simp only[zja,ba,D,m2];simp[List.getD,h]
   ·simp only[AC];refine⟨hn,mB e.2 h m4,?_⟩;have:=F _ _ m3;simpa [zCa] using this
   ·simp only[AV.fits,zaa];exact⟨e.1,mB e.2 h m4⟩
  all_goals cases j
mutual
theorem qz{c:Cx}{ob:Nat->Option Ob}:∀ (a:AV) (t:Ty) (cs:List Value) (x:D),AV.toD ob t a=some x->AC c a cs->wt t x/\cN c.w c.S x.flat cs/\(∀ v,fS t cs v->ao t=true->fQ c.w c.S x v)
 | .d t' x',t,cs,x,h,hc=>by
  have h':t.beq t'=true/\x'=x:=by cases t<;>simpa [AV.toD] using h
  obtain⟨h1,rfl⟩:=h';have:=Ty.eq_of_beq _ _ h1;subst this;simp only[AC] at hc;exact⟨hc.1,hc.2.2,λv hv hn=>⟨sA hc.1 hc.2.1 hv.2,by rw[hv.1];exact hc.2.2⟩⟩
 | .own t' v l,t,cs,x,h,hc=>by
  have h':t.beq (.sl t')=true/\D.sl l=x:=by cases t<;>simpa [AV.toD] using h
  obtain⟨h1,rfl⟩:=h';have:=Ty.eq_of_beq _ _ h1;subst this;simp only[AC] at hc;obtain⟨k1,k2,a,cap,rfl,k3,_⟩:=hc;have hw:wt (.sl t') (.sl l):=by simp only[wt];exact⟨l,rfl,k2⟩
  exact⟨hw,cN.single.2 k3,λv hv hn=>⟨sA hw hn hv.2,by rw[hv.1];exact cN.single.2 k3⟩⟩
 | .nils,t,cs,x,h,hc=>by
  cases t<;>simp only[AV.toD] at h<;>first|cases h|skip
  simp only[AC] at hc;subst hc;have hw:∀ t,wt (.sl t) (.sl []):=λt=>by simp only[wt];exact⟨[],rfl,λx hx=>by simp at hx⟩
  have hr:cN c.w c.S [D.sl []] [.slice none 0 0]:=cN.single.2 (.sl [] none 0 0 0 (λ_=>undef) (.inl rfl) (zfa 0) (λi d hd=>by simp[D.flats] at hd) (λi d hd=>by simp[D.flats] at hd))
  exact⟨hw _,hr,λv hv hn=>⟨sA (hw _) hn hv.2,by rw[hv.1];exact hr⟩⟩
 | .st ts' l,t,cs,x,h,hc=>by
  simp only[AV.toD] at h;split at h
  ·rename_i hb;have:=Ty.eq_of_beq _ _ hb;subst this;obtain⟨xs,h1,h2⟩:=bind_some_inv h;simp only[zca] at h2;subst h2;simp only[AC] at hc;obtain⟨k1,k2⟩:=C7 l ts' cs xs h1 hc.2.2;have hw:wt (.st ts') (.st xs):=by simp only[wt];exact⟨xs,rfl,k1⟩
   exact⟨hw,k2,λv hv hn=>⟨sA hw hn hv.2,by rw[hv.1];exact k2⟩⟩
  ·cases h
 | .ptr ..,t,_,_,h,_=>by cases t<;>simp[AV.toD] at h
 | .fptr ..,t,_,_,h,_=>by cases t<;>simp[AV.toD] at h
 | .mem ..,t,_,_,h,_=>by cases t<;>simp[AV.toD] at h
 | .clo ..,t,_,_,h,_=>by cases t<;>simp[AV.toD] at h
 | .sub ..,t,_,_,h,_=>by cases t<;>simp[AV.toD] at h
 | .gone,t,_,_,h,_=>by cases t<;>simp[AV.toD] at h
 | .undef,t,_,_,h,_=>by cases t<;>simp[AV.toD] at h
theorem C7{c:Cx}{ob:Nat->Option Ob}:∀ (l:List AV) (ts:List Ty) (cs:List Value) (xs:List D),AV.toDl ob ts l=some xs->kh c l cs->eO ts xs/\cN c.w c.S (D.flats xs) cs
 | [],ts,cs,xs,h,hc=>by
  cases ts<;>simp only[AV.toDl] at h<;>first|cases h|skip
  simp only[kh] at hc;subst hc;exact⟨by simp[eO],cN.nil⟩
 | a::l,ts,cs,xs,h,hc=>by
  cases ts<;>simp only[AV.toDl] at h<;>first|cases h|skip
  rename_i t ts;obtain⟨x,h1,h2⟩:=bind_some_inv h;obtain⟨ys,h3,h4⟩:=bind_some_inv h2;simp only[zca] at h4;subst h4;simp only[kh] at hc;obtain⟨c1,c2,rfl,k1,k2⟩:=hc;obtain⟨m1,m2,_⟩:=qz a t c1 x h1 k1;obtain⟨m3,m4⟩:=C7 l ts c2 ys h3 k2;exact⟨by simp only[eO];exact⟨x,ys,rfl,m1,m3⟩,by simp only[D.flats];exact m2.append m4⟩
end
mutual
theorem uw{ob:Nat->Option Ob}:∀ (a:AV) (t:Ty) (x:D),AV.toD ob t a=some x->AV.fits t a=true
 | .d t' x',t,x,h=>by
  simp_all [AV.toD,AV.fits]
 | .own t' v l,t,x,h=>by
  have h':t.beq (.sl t')=true/\D.sl l=x:=by cases t<;>simpa [AV.toD] using h
  have:=Ty.eq_of_beq _ _ h'.1;subst this;simp[AV.fits,Ty.beq_refl']
 | .nils,t,x,h=>by
  cases t<;>first|rfl|(simp only[AV.toD] at h;cases h)
 | .st ts' l,t,x,h=>by
  simp only[AV.toD] at h;split at h
  ·rename_i hb;have:=Ty.eq_of_beq _ _ hb;subst this;obtain⟨xs,h1,h2⟩:=bind_some_inv h;simp only[AV.fits,zaa];exact⟨by have:=Ty.beq_refl' (.st ts');simpa [Ty.beq] using this,wG l ts' xs h1⟩
  ·cases h
 | .ptr ..,t,_,h=>by cases t<;>simp[AV.toD] at h
 | .fptr ..,t,_,h=>by cases t<;>simp[AV.toD] at h
 | .mem ..,t,_,h=>by cases t<;>simp[AV.toD] at h
 | .clo ..,t,_,h=>by cases t<;>simp[AV.toD] at h
 | .sub ..,t,_,h=>by cases t<;>simp[AV.toD] at h
 | .gone,t,_,h=>by cases t<;>simp[AV.toD] at h
 | .undef,t,_,h=>by cases t<;>simp[AV.toD] at h
theorem wG{ob:Nat->Option Ob}:∀ (l:List AV) (ts:List Ty) (xs:List D),AV.toDl ob ts l=some xs->AV.fitss ts l=true
 | [],ts,xs,h=>by cases ts<;>first|rfl|(simp only[AV.toDl] at h;cases h)
 | a::l,ts,xs,h=>by
  cases ts<;>simp only[AV.toDl] at h<;>first|cases h|skip
  rename_i t ts;obtain⟨x,h1,h2⟩:=bind_some_inv h;obtain⟨ys,h3,h4⟩:=bind_some_inv h2;simp only[AV.fitss,zaa];exact⟨uw a t x h1,wG l ts ys h3⟩
end
def nv{c:Cx}{ob:Nat->Option Ob}{t:Ty}{a:AV}{v:Value}{x:D}(hn:ao t=true)(h:AR c a v)(hx:AV.toD ob t a=some x):wt t x/\fQ c.w c.S x v:=by
 obtain⟨h1,b⟩:=yq (uw a t x hx) hn h;obtain⟨d,_,e⟩:=qz a t _ x hx h1
 simp_all
def de{c:Cx}{t:Ty}{x:D}{v:Value}(hn:ao t=true)(hw:wt t x)(h:fQ c.w c.S x v):AR c (.d t x) v:=by
 simp_all [AR]
def yr{c:Cx}{t:Ty}{x:D}{v:Value}(h:AR c (.d t x) v)(hn:ao t=true):wt t x/\fQ c.w c.S x v:=by
 all_goals grind [AR,ao]
def eH{c:Cx}{t:Ty}{k:IntKind}{n:Int}{v:Value}(h:AR c (.d t (.int k n)) v):v=.int k n/\t=.int k:=by
 simp only[AR] at h;rcases h with⟨h1,a,e⟩|⟨f,rfl,_,a,_⟩
 ·refine⟨e.int_inv,?_⟩;cases t<;>simp only[wt] at a<;>first
   | (obtain⟨m,b⟩:=a;cases b;rfl)
   | (obtain⟨m,b,_⟩:=a;cases b)
   | (obtain⟨m,b⟩:=a;cases b)
 ·simp_all [wt]
def BF{c:Cx}{t:Ty}{n:Bool}{v:Value}(h:AR c (.d t (.bool n)) v):v=.bool n:=by
 simp only[AR] at h;rcases h with⟨h1,a,b⟩|⟨e,rfl,_,a,_⟩
 ·exact b.bool_inv
 ·simp_all [wt]
def cB{c:Cx}(k:IntKind)(n:Int):AR c (.d (.int k) (.int k n)) (.int k n):=
 de rfl (by simp only[wt];exact⟨n,rfl⟩) (fQ.of_CR (.int k n))
def fT{c:Cx}(b:Bool):AR c (.d .bool (.bool b)) (.bool b):=
 de rfl (by simp only[wt];exact⟨b,rfl⟩) (fQ.of_CR (.bool b))
end Sy
end
noncomputable section
namespace Sy
open Go
def dK(P:Program)(o:Oper)(a:Act)(w:World)(K:Value->World->Prop):Prop:=
 match (execOp a.eval o).run P w with
 | .ok (.value v) w'=>K v w'
 | .ok .skip w'=>K undef w'
 | .ok (.enter f args) w'=>Calls P f args w' λe b=>∃ v,e=.returned v/\K v b
 | _=>False
variable{ro:Option Nat}{nn:Nat}
def dK.plain{P:Program}{o:Oper}{a:Act}{w:World}{K:Value->World->Prop}(h:dK P o a w K)(c:Call):o.op≠.defer c:=by
 intro hc;unfold dK at h;obtain⟨dst,op,ty,pos,after,guard⟩:=o;simp only at hc;subst hc;have e:execOp a.eval ⟨dst,.defer c,ty,pos,after,guard⟩=(resolve a.eval c ty >>= λd=>pure (Next.defer d)):=rfl;rw[e,zha] at h;cases hr:(resolve a.eval c ty).run P w with
 | ok d w'=>rw[hr] at h;exact h
 | halt x w'=>rw[hr] at h;exact h
def yF{P:Program}{f:FuncId}{args:Array Value}{w:World}{R:Ending->World->Prop}{m:Nat}(h:Calls P f args w R):CallsIn (FW ro) m P f args w R:=by
 have h1:CallsIn Fence.wide m P f args w R:=callsIn_wide.2 h;cases ro with
 | none=>exact h1
 | some l=>exact CallsIn.inRound l h1
def bg{P:Program}{o:Oper}{a:Act}{w:World}{K:Value->World->Prop}{next:Act->World->Prop}{Q:Exit->Act->World->Prop}(h:dK P o a w K)(hk:∀ v w',K v w'->next (a.put o.dst v) w'):o.wpIn (FW ro) nn P a w next Q:=by
 refine⟨λ_ _=>trivial,?_⟩;rw[Oper.semAt_eq _ _ _ h.plain];unfold dK at h;generalize (execOp a.eval o).run P w=r at *;cases r with
 | ok n w'=>
  cases n<;>simp only at h<;>simp only[Oper.uponIn]
  case value v=>exact hk _ _ h
  case skip=>exact hk _ _ h
  case enter f args=>exact⟨λb=>(by cases b),yF (h.mono λe d ⟨v,he,c⟩=>by subst he;exact hk _ _ c)⟩
 | halt x w'=>simp only at h
def wZ{P:Program}{f:FuncId}{fn:Func}{c:Code}{args:Array Value}{w:World}{R:Ending->World->Prop}(b:P.funcs[f]?=some fn)(a:fn.body=some c)
  (h:c.wpIn (FW none) 0 P (bodyPost P fn R) { tmps:=args++Array.replicate (fn.ntmps-args.size) undef,defers:=[] } w):Calls P f args w R:=
 calls_of_wp b a (wpIn_wide.1 h)
section
variable{P:Program}{Q:Exit->Act->World->Prop}{a:Act}{w:World}{F:Fence}{n:Nat}
theorem fO{md:Region.Mode}{ops:Array Oper}{Q':Exit->Act->World->Prop}:∀ (l:List Oper) (k:Nat) (listed:Array Bool) (a:Act) (w:World),(∀ j,l[j]?=ops[k+j]?) ->
  Region.seqB md ops l.length k listed=true->wpListIn F n P ops Q' l a w->wpAnyIn F n P md ops Q' l.length listed a w
 | [],_,_,_,_,_,b,h=>⟨by simpa [Region.seqB] using b,h⟩
 | o::l,k,listed,a,w,hl,b,h=>by
  have h0:ops[k]?=some o:=by simpa using(hl 0).symm
  simp only[zIa,Region.seqB,zaa,decide_eq_true_eq] at b;refine⟨λh1=>(by rw[b.1] at h1;cases h1),λi d=>?_⟩
  rw[b.1] at d;have c:i=k:=by simpa using d
  subst c;have hw:wpOpIn F n P ops Q' i (wpListIn F n P ops Q' l) a w:=by unfold wpOpIn;simp only[h0];exact h
  exact wpOpIn_mono (λa' w' e=>fO l (i+1) _ a' w' (λj=>by have:=hl (j+1);simpa [zzb,zwc 1 j] using this) b.2 e) hw
def fo{b:Frame}{k:List Item}{cs:List Frame}{c:Code}:step P (lone (b.atR a (.code (.scope c)::k)) cs w)=.next (lone (b.atR a (.code c::.inScope c::k)) cs w):=
 step_lone_go (by simp[stepG,stepG.exec,Frame.atR])
def uX{b:Frame}{k:List Item}{cs:List Frame}{c:Code}:step P (lone (b.atR a (.inScope c::k)) cs w)=.next (lone (b.atR a k) cs w):=
 step_lone_go (by simp[stepG,stepG.exec,Frame.atR])
def m9{c:Code}(h:c.wpIn F n P (Exit.noGoto Q) a w):(Code.scope c).wpIn F n P Q a w:=by
 intro b k cs p j m;have h0:(lone (b.atR a (.code (.scope c)::k)) cs w).fenced P F:=fenced_calm j m rfl;obtain⟨e,g,i,hq,d⟩:=h b (.inScope c::k) cs p j m;cases e with
 | normal=>exact⟨.normal,g,i,hq,.head h0 fo (StepsIn.trans d (.one (fenced_calm j m rfl) uX))⟩
 | exit f=>
  have hx:exitTo f (.inScope c::k)=exitTo f k:=by simp[exitTo]
  exact⟨.exit f,g,i,hq,λr hk=>.head h0 fo (d.1 r (by rw[hx];exact hk)),
   λo hk=>let ⟨k₁,h1,q⟩:=d.2 o (by rw[hx];exact hk);⟨k₁,h1,.head h0 fo q⟩⟩
 | goto l=>exact hq.elim
 | ret=>exact⟨_,g,i,hq,.of_steps (.one h0 fo) d⟩
 | panic s=>exact⟨_,g,i,hq,.of_steps (.one h0 fo) d⟩
 | outgrown=>exact⟨_,g,i,hq,.of_steps (.one h0 fo) d⟩
def wM{c:Code}(J:Nat->Act->World->Prop){m:Nat}(y:J m a w)
  (round:∀ m a w,J m a w->c.wpIn F n P (Exit.then (λa' w'=>∃ i,i<m/\J i a' w') Q) a w):(Code.loop c).wpIn F n P Q a w:=by
 intro b k cs s o r;have key:∀ m a w,J m a w->∃ e a' w',Q e a' w'/\ArrivesIn (Machine.fenced P F) P (lone (b.atR a (.code c::.inLoop c::k)) cs w) b k cs e a' w':=by
  intro m
  induction m using Nat.strongRecOn with
  | _ m ih=>
   intro a w v;obtain⟨e,g,h,hq,d⟩:=round m a w v b (.inLoop c::k) cs s o r;cases e with
   | normal=>
    obtain⟨i,p,j⟩:=hq;obtain⟨u,t,z,q,f⟩:=ih i p g h j;exact⟨u,t,z,q,.of_steps (StepsIn.trans d (.one (fenced_calm o r rfl) stepR_inLoop)) f⟩
   | exit id=>exact⟨_,g,h,hq,.pass (x:=.inLoop c) rfl (λ_ _=>.inl (by simp)) d⟩
   | goto l=>exact⟨_,g,h,hq,.pass (x:=.inLoop c) rfl (λ_ _=>.inl (by simp)) d⟩
   | ret=>exact⟨_,g,h,hq,.pass (x:=.inLoop c) rfl (λ_ _=>.inl (by simp)) d⟩
   | panic A=>exact⟨_,g,h,hq,.pass (x:=.inLoop c) rfl (λ_ _=>.inl (by simp)) d⟩
   | outgrown=>exact⟨_,g,h,hq,.pass (x:=.inLoop c) rfl (λ_ _=>.inl (by simp)) d⟩
 obtain⟨e,a',w',hq,d⟩:=key m a w y;exact⟨e,a',w',hq,.of_steps (.one (fenced_calm o r rfl) stepR_loop) d⟩
end
theorem dK.value{P:Program}{o:Oper}{a:Act}{w w':World}{v:Value}{K:Value->World->Prop}(h:(execOp a.eval o).run P w=.ok (.value v) w')(hk:K v w'):dK P o a w K:=by
 simp_all [dK]
theorem dK.skip{P:Program}{o:Oper}{a:Act}{w w':World}{K:Value->World->Prop}(h:(execOp a.eval o).run P w=.ok .skip w')(hk:K undef w'):dK P o a w K:=by
 simp_all [dK]
theorem dK.enter{P:Program}{o:Oper}{a:Act}{w w':World}{f:FuncId}{args:Array Value}{K:Value->World->Prop}(h:(execOp a.eval o).run P w=.ok (.enter f args) w')(hk:Calls P f args w' λe b=>∃ v,e=.returned v/\K v b):dK P o a w K:=by
 simp_all [dK]
theorem dK.mono{P:Program}{o:Oper}{a:Act}{w:World}{K K':Value->World->Prop}(h:dK P o a w K)(hk:∀ v w',K v w'->K' v w'):dK P o a w K':=by
 unfold dK at *;generalize (execOp a.eval o).run P w=r at *;cases r with
 | ok n w'=>
  cases n<;>simp only at h ⊢
  case value v=>exact hk _ _ h
  case skip=>exact hk _ _ h
  case enter f args=>exact h.mono λe c ⟨v,he,b⟩=>⟨v,he,hk _ _ b⟩
 | halt x w'=>simp only at h
section
variable{w0:Root}{S:Nat->Nat->Prop}{γ:Nat->Option Nat}{β:Nat->Option (Nat×Nat)}{s:St}{a:Act}{w:World}
def aR(h:Rp w0 S γ β s a w):∀ x:Operand,AR ⟨w,S,γ,β,s.ob,s.dead⟩ (s.opA x) (a.eval x)
 | .tmp t=>by
  simp only[St.opA,Act.eval];by_cases ht:t<a.tmps.size
  ·exact h.tms t ht
  ·rw[h.tmu t (h.nt ▸ Nat.le_of_not_lt ht)];simp[AR]
 | .const v=>by
  simp only[St.opA,Act.eval];cases v<;>simp only[FH]<;>first
   | exact cB _ _
   | exact fT _
   | exact de rfl (by simp only[wt];exact⟨_,rfl⟩) (fQ.of_CR (.str _))
   | (simp only[AR];done)
   | skip
  case slice a len cap=>
   match a,len,cap with
   | none,0,0=>simp[AR,AC,Value.cells]
   | some _,_,_=>simp only[AR]
   | none,_+1,_=>simp only[AR]
   | none,0,_+1=>simp only[AR]
 | .global g=>by simp[St.opA,AR]
 | .func f=>by
  simp only[St.opA,AR,AC];exact⟨λ_ h=>(by cases h),[],rfl,by simp only[nc]⟩
theorem Rp.put(h:Rp w0 S γ β s a w){v:AV}{val:Value}(d:AR ⟨w,S,γ,β,s.ob,s.dead⟩ v val)(dst:Option Nat):Rp w0 S γ β (s.put dst v) (a.put dst val) w:=by
 cases dst with
 | none=>simpa [St.put,Act.put] using h
 | some t=>
  simp only[St.put,Act.put];by_cases ht:t<s.nt
  ·rw[if_pos ht];refine⟨h.ext,λi b=>?_,by simpa using h.nt,λi b=>?_,h.obs,h.γn,h.γi,h.γf,h.βn,h.βi,h.βγ,h.βf,h.Sb,h.So⟩
   ·simp only[Array.size_setIfInBounds] at b;by_cases hit:i=t
    ·subst hit;simp only[if_true];rw[show(a.tmps.setIfInBounds i val).getD i undef=val by simp[Array.getD,b]]
     exact d
    ·simp only[if_neg hit];have:=h.tms i b
     rwa [show(a.tmps.setIfInBounds t val).getD i undef=a.tmps.getD i undef by simp[Array.getD,b,Array.getElem_setIfInBounds_ne b (Ne.symm hit)]]
   ·have c:s.nt<=i:=b;show(if i=t then v else s.tm i)=_
    rw[if_neg (by omega)];exact h.tmu i c
  ·rw[if_neg ht];have:a.tmps.setIfInBounds t val=a.tmps:=by
    apply Array.setIfInBounds_eq_of_size_le;rw[h.nt];omega
   rw[this];exact h
def xo{w':World}{S':Nat->Nat->Prop}{γ':Nat->Option Nat}{β':Nat->Option (Nat×Nat)}{ob:Nat->Option Ob}{dead:List Nat}
  (hc:∀ b o,S b o->w'.cell? ⟨b,o,none⟩=w.cell? ⟨b,o,none⟩) (c:∀ b o,S b o->S' b o) (g:∀ id b,γ id=some b->γ' id=some b)
  (f:∀ v b e,v ∉ dead->β v=some (b,e)->β' v=some (b,e)/\∀ n,lZ w b=some n->lZ w' b=some n):Cx.le ⟨w,S,γ,β,ob,dead⟩ ⟨w',S',γ',β',ob,dead⟩:=
 ⟨hc,c,g,λid o d _=>⟨o,d,λp=>⟨rfl,rfl⟩,λt l e=>⟨l,e,rfl⟩,λ_ _ l e=>⟨l,e⟩⟩,λv a=>⟨a,λb e he=>f v b e a he⟩⟩
def df{os:List Obj}{d:Nat}{b o:Nat}(h:b<w.heap.size):(grown w os d).cell? ⟨b,o,none⟩=w.cell? ⟨b,o,none⟩:=by
 simp only[World.cell?,cG w os d h]
def wu{os:List Obj}{d:Nat}{b:Nat}(h:b<w.heap.size):lZ (grown w os d) b=lZ w b:=by
 simp only[lZ,bH,cG w os d h]
theorem iu.mono{c c':Cx}(h:c.le c'){a vt:Ty}:∀ {j:Nat} {l:List D} {es:List MapEntry},iu c a vt j l es->iu c' a vt j l es
 | _,[],[],_=>trivial
 | _,[],_::_,k=>k.elim
 | _,_::_,[],k=>k.elim
 | j,x::l,e::es,k=>by
  simp only[iu] at k ⊢;obtain⟨⟨f,d,p,g,i,m,n,o⟩,b⟩:=k;exact⟨⟨f,d,p,g,i,m,n.mono h.cell h.S,o.mono h.cell h.S⟩,iu.mono h b⟩
theorem iu.same{c c':Cx}(hw:c'.w=c.w)(a:c'.S=c.S){b vt:Ty}:∀ {j:Nat} {l:List D} {es:List MapEntry},iu c b vt j l es->iu c' b vt j l es
 | _,[],[],_=>trivial
 | _,[],_::_,k=>k.elim
 | _,_::_,[],k=>k.elim
 | j,x::l,e::es,k=>by
  simp only[iu] at k ⊢;rw[hw,a];exact⟨k.1,iu.same hw a k.2⟩
theorem fC.mono{c c':Cx}(h:c.le c'){b:Nat}{o:Ob}(q:c'.w.heap[b]?=c.w.heap[b]?)(n:∀ o,c'.S b o->c.S b o)(k:fC c b o):fC c' b o:=by
 have e:bH c'.w b=bH c.w b:=by simp only[bH,q]
 cases o<;>simp only[fC] at k ⊢
 case one t v=>
  obtain⟨f,g,j,cs,a,m,s⟩:=k;exact⟨f,g,λo d=>j o (n o d),cs,by rw[e];exact a,AC.mono h _ _ m,s⟩
 case many t l=>
  obtain⟨f,g,j,cs,a,m⟩:=k;exact⟨f,g,λo d=>j o (n o d),cs,by rw[e];exact a,m.mono h.cell h.S⟩
 case mp kt vt l=>
  obtain⟨f,g,j,es,a,m⟩:=k;exact⟨f,g,λo d=>j o (n o d),es,by rw[q];exact a,m.mono h⟩
 case lp i p=>
  obtain⟨r,a,m,s,y⟩:=k;exact⟨r,by rw[q];exact a,m,λt u=>(s t u).mono h.cell h.S h.γ,y⟩
 case fv v=>
  obtain⟨f,x,g,j,a⟩:=k;exact⟨λo d=>f o (n o d),x,by rw[e];exact g,j.mono h.cell h.S h.γ,a⟩
def Rp.grow(h:Rp w0 S γ β s a w){os:List Obj}{d:Nat}(r:w.drawn<=d){S':Nat->Nat->Prop}(q:∀ b o,S b o->S' b o)(g:∀ b o,S' b o->S b o\/(w.heap.size<=b/\b<(grown w os d).heap.size)) :
  Rp w0 S' γ β s a (grown w os d)/\Cx.le ⟨w,S,γ,β,s.ob,s.dead⟩ ⟨grown w os d,S',γ,β,s.ob,s.dead⟩:=by
 have m:w.heap.size<=(grown w os d).heap.size:=by simp
 have hle:Cx.le ⟨w,S,γ,β,s.ob,s.dead⟩ ⟨grown w os d,S',γ,β,s.ob,s.dead⟩:=
  xo (λb o c=>df (h.Sb b o c)) q (λ_ _ k=>k) (λv b e p he=>⟨he,λn hn=>by rw[wu (h.βn v b e p he).2.1];exact hn⟩)
 refine⟨⟨?_,λt x=>(h.tms t x).mono hle,h.nt,h.tmu,λid o b u c=>?_,λid b c=>⟨(h.γn id b c).1,by have:=(h.γn id b c).2;omega⟩,h.γi,h.γf,λv b e p he=>?_,h.βi,h.βγ,h.βf,λb o c=>?_,λb o c j=>?_⟩,hle⟩
 ·exact⟨h.ext.tape,h.ext.os,h.ext.output,zBa h.ext.sz m,zBa h.ext.dr r,λb c=>(cG w os d (zOa c.1 h.ext.sz)).trans (h.ext.old b c)⟩
 ·have l:=(h.γn id b c).2;refine(h.obs id o b u c).mono hle (cG w os d l) λi z=>?_;all_goals grind
 ·obtain⟨A,B,C⟩:=h.βn v b e p he;all_goals grind
 ·rcases g b o c with k|k
  ·have:=h.Sb b o k;omega
  ·exact k.2
 ·rcases g b o c with k|k
  ·exact h.So b o k j
  ·exfalso;have:=h.ext.sz;have y:=j.1;omega
def nX{α:Type}(f:Nat->Option α)(i:Nat)(x:α):Nat->Option α:=λj=>if j=i then some x else f j
def bA{α:Type}(f:Nat->Option α)(i:Nat)(x:α):nX f i x i=some x:=by simp[nX]
def bO{α:Type}(f:Nat->Option α){i j:Nat}(x:α)(h:j≠i):nX f i x j=f j:=by simp[nX,h]
def dV{α:Type}{f:Nat->Option α}{i:Nat}{x:α}(h:f i=none){j:Nat}{y:α}(a:f j=some y):nX f i x j=some y:=by
 by_cases e:j=i
 ·simp_all
 ·rw[bO f x e,a]
def Rp.newOb(h:Rp w0 S γ β s a w){id b:Nat}(hid:γ id=none)(p:¬ w0.Old b)(q:b<w.heap.size)(m:∀ id,γ id≠some b)(z:∀ v e,v ∉ s.dead->β v≠some (b,e))(y:id<s.base+4096)
  (u:∀ o,s.ob id=some o->fC ⟨w,S,nX γ id b,β,s.ob,s.dead⟩ b o):Rp w0 S (nX γ id b) β s a w/\Cx.le ⟨w,S,γ,β,s.ob,s.dead⟩ ⟨w,S,nX γ id b,β,s.ob,s.dead⟩:=by
 have hle:Cx.le ⟨w,S,γ,β,s.ob,s.dead⟩ ⟨w,S,nX γ id b,β,s.ob,s.dead⟩:=
  xo (λ_ _ _=>rfl) (λ_ _ k=>k) (λ_ _ k=>dV hid k) (λv b e l he=>⟨he,λn hn=>hn⟩)
 refine⟨⟨h.ext,λt x=>(h.tms t x).mono hle,h.nt,h.tmu,λi o c r hc=>?_,λi c hc=>?_,λi j c hc d=>?_,λi g=>?_,h.βn,h.βi,λv i c e l he hc=>?_,h.βf,h.Sb,h.So⟩,hle⟩
 ·by_cases e:i=id
  ·simp_all [bA]
  ·rw[bO γ b e] at hc;exact(h.obs i o c r hc).mono hle rfl λ_ k=>k
 ·by_cases e:i=id
  ·simp_all [bA]
  ·rw[bO γ b e] at hc;exact h.γn i c hc
 ·by_cases e:i=id
  ·by_cases e':j=id
   ·rw[e,e']
   ·subst e;rw[bA] at hc;cases hc;rw[bO γ b e'] at d;exact absurd d (m j)
  ·by_cases e':j=id
   ·subst e';rw[bA] at d;cases d;rw[bO γ b e] at hc;exact absurd hc (m i)
   ·rw[bO γ b e] at hc;rw[bO γ b e'] at d;exact h.γi i j c hc d
 ·rw[bO γ b (by omega)];exact h.γf i g
 ·by_cases e':i=id
  ·simp_all [bA]
  ·rw[bO γ b e'] at hc;exact h.βγ v i c e l he hc
def Rp.newTok(h:Rp w0 S γ β s a w){v b e:Nat}(y:β v=none)(p:¬ w0.Old b)(q:b<w.heap.size)(C:∀ id,γ id≠some b)(B:∀ v e,v ∉ s.dead->β v≠some (b,e))(l:v<s.base+4096)(A:∀ o,e<=o->¬ S b o) :
  Rp w0 S γ (nX β v (b,e)) s a w/\Cx.le ⟨w,S,γ,β,s.ob,s.dead⟩ ⟨w,S,γ,nX β v (b,e),s.ob,s.dead⟩:=by
 have hle:Cx.le ⟨w,S,γ,β,s.ob,s.dead⟩ ⟨w,S,γ,nX β v (b,e),s.ob,s.dead⟩:=
  xo (λ_ _ _=>rfl) (λ_ _ k=>k) (λ_ _ k=>k) (λv b e z he=>⟨dV y he,λn hn=>hn⟩)
 refine⟨⟨h.ext,λt x=>(h.tms t x).mono hle,h.nt,h.tmu,λi o c r hc=>(h.obs i o c r hc).mono hle rfl λ_ k=>k,h.γn,h.γi,h.γf,λu c f hu hc=>?_,λu j c f m hu g hc d=>?_,λu i c f hu hc l=>?_,λu hu=>?_,h.Sb,h.So⟩,hle⟩
 ·by_cases e':u=v
  ·simp_all [bA]
  ·rw[bO β _ e'] at hc;exact h.βn u c f hu hc
 ·by_cases e1:u=v
  ·by_cases e2:j=v
   ·rw[e1,e2]
   ·simp_all [bA,bO,e2]
  ·by_cases e2:j=v
   ·simp_all [bA,bO,e1]
   ·rw[bO β _ e1] at hc;rw[bO β _ e2] at d;exact h.βi u j c f m hu g hc d
 ·by_cases e':u=v
  ·simp_all [bA]
  ·rw[bO β _ e'] at hc;exact h.βγ u i c f hu hc l
 ·rw[bO β _ (by omega)];exact h.βf u hu
end
def Qp(w0:Root)(S:Nat->Nat->Prop)(γ:Nat->Option Nat)(β:Nat->Option (Nat×Nat))(s:St)(a:Act)(w:World)(dst:Option Nat)(v:AV)(val:Value)(w':World):Prop:=
 ∃ S' γ' β',Rp w0 S' γ' β' s a w'/\AR ⟨w',S',γ',β',s.ob,s.dead⟩ v val/\(∀ b o,S b o->S' b o)/\(∃ os d,w'=grown w os d) ∧
  (∀ id b,γ id=some b->γ' id=some b)/\(∀ id,dst≠some (id-s.base)\/id<s.base->γ' id=γ id/\β' id=β id)
section
variable{w0:Root}{S:Nat->Nat->Prop}{γ:Nat->Option Nat}{β:Nat->Option (Nat×Nat)}{s:St}{a:Act}{w:World}
def Qp.same(h:Rp w0 S γ β s a w){v:AV}{val:Value}(b:AR ⟨w,S,γ,β,s.ob,s.dead⟩ v val)(dst:Option Nat):Qp w0 S γ β s a w dst v val w:=
 ⟨S,γ,β,h,b,λ_ _ k=>k,⟨[],_,(DB w).symm⟩,λ_ _ k=>k,λ_ _=>⟨rfl,rfl⟩⟩
end
end Sy
end
noncomputable section
namespace Sy
open Go
def Fr(E:Env)(s:St)(γ:Nat->Option Nat)(β:Nat->Option (Nat×Nat))(o:Oper):Prop:=
 w8 o=true->∀ d:Nat,o.dst=some d->d<4096/\γ (s.base+d)=none/\β (s.base+d)=none/\∀ T x,o.op=.alloc T->E.alOb T=some x->s.ob (s.base+d)=some x
def BI{E:Env}{s:St}{γ:Nat->Option Nat}{β:Nat->Option (Nat×Nat)}{o:Oper}(h:w8 o=false):Fr E s γ β o:=λhc=>by rw[h] at hc;cases hc
def dG{x:AV}{p:Ty×D}(h:isD x=some p):x=.d p.1 p.2:=by
 cases x<;>simp[isD] at h;grind
theorem wK{x:D}{b:Bool}(h:x.truth=some b):x=.bool b:=by
 cases x<;>simp[D.truth] at h
 simp_all
def nW{c:Cx}{x:AV}{b:Bool}{v:Value}(h:x.truth=some b)(k:AR c x v):v=.bool b/\∃ t,x=.d t (.bool b):=by
 cases x<;>simp only[AV.truth] at h<;>first|cases h|skip
 split at h<;>first|(cases h;done)|skip
 have:=wK h;subst this;exact⟨BF k,_,rfl⟩
def oL{x:D}{n k:Nat}(h:x.idx n=some k):∃ a,x=.int a k/\k<n:=by
 cases x<;>simp only[D.idx] at h<;>first|cases h|skip
 rename_i a i;split at h
 ·rename_i b;simp only[zca] at h;refine⟨a,?_,by omega⟩
  grind
 ·cases h
def wd{x:D}{k:Nat}(h:x.natOf=some k):∃ a,x=.int a k:=by
 cases x<;>simp only[D.natOf] at h<;>first|cases h|skip
 rename_i a i;split at h
 ·simp only[zca] at h;refine⟨a,?_⟩;grind
 ·cases h
def Fc{x:D}{l:List D}(h:x.asSl=some l):x=.sl l:=by
 cases x<;>simp[D.asSl] at h
 simp_all
def wp{c:Cx}{t:Ty}{id:Nat}{v:Value}(a:vH (c.ob id)=true)(na:∀ cs,v≠.agg cs)(h:AC c (.ptr t id []) v.cells.toList):∃ b,v=.pointer (some ⟨b,0,none⟩)/\c.γ id=some b:=by
 simp only[AC] at h;obtain⟨b,off,h1,e,f⟩:=h;unfold vH at a;split at a<;>first|(cases a;done)|skip
 all_goals
  rename_i d;obtain⟨_,g⟩:=f _ d;have:off=0:=g;subst this;exact⟨b,ar na h1,e⟩
theorem rE{c:Cx}:∀ (l:List AV) (caps:List Value),uD l=true->(l.all (λa=>match a with|.ptr _ id _=>vH (c.ob id)|_=>false))=true->nc c l caps->nh c l caps
 | [],caps,_,_,h=>by simp only[nc] at h;subst h;trivial
 | x::l,caps,hw,d,h=>by
  simp only[nc] at h;obtain⟨v,c2,rfl,h1,f⟩:=h;simp only[zIb,zaa] at d;unfold uD at hw;split at hw<;>first|(cases hw;done)|skip
  ·simp_all
  ·rename_i t id l' e;cases e;refine⟨?_,rE l c2 hw d.2 f⟩;have na:∀ cs,v≠.agg cs:=λcs e=>by
    simp only[AC] at h1;obtain⟨b,off,q,_⟩:=h1;subst e;simp at q
   have g:=wp d.1 na (v:=v) (by
    have q:=h1;simp only[AC] at q;obtain⟨b,off,q,_⟩:=q;have:v=.pointer (some ⟨b,off,none⟩):=by simpa using q
    subst this;exact h1)
   exact g
def CS{c:Cx}{f:Nat}{l:List AV}{v:Value}(h:AR c (.clo f l) v):fa c (if uD l&&l.all (λa=>match a with|.ptr _ id _=>vH (c.ob id)|_=>false) then .clo f l else .undef) v:=by
 split
 ·rename_i hc;simp only[zaa] at hc;simp only[AR,AC] at h;obtain⟨na,caps,h1,b⟩:=h;simp only[fa];exact⟨caps,ar na h1,rE l caps hc.1 hc.2 b⟩
 ·simp only[fa]
def CU{c:Cx}{a vt:Ty}{id:Nat}{v:Value}(h:AR c (.map a vt id) v):fa c (.map a vt id) v:=by
 simp only[AR,AC] at h;obtain⟨na,b,h1,d,e,f,_⟩:=h;exact⟨b,ar na h1,d,e,f⟩
def CQ{c:Cx}{a:AV}{v:Value}(h:kV (iX c.ob a)=true)(k:AR c a v):fa c (iX c.ob a) v/\v.oneCell'=true:=by
 have key:kV a=true:=by
  cases a<;>simp only[iX] at h<;>first|rfl|(cases h;done)|skip
  rename_i t id p;cases p<;>simp only at h
  ·split at h<;>cases h
  ·cases h
 refine⟨?_,Kd key k⟩;cases a<;>simp only[kV] at key<;>first|(cases key;done)|skip
 ·exact CS k
 ·exact CU k
 ·exact k
def B3{c:Cx}{x:AV}{v:Value}{dd:List Nat}(h:su c x v)(hp:fl (km c.ob x)=true):AC ⟨c.w,c.S,c.γ,c.β,c.ob,dd⟩ (km c.ob x) [v]/\∀ cs,v≠.agg cs:=by
 unfold su at h;split at h
 ·rename_i t id;obtain⟨b,rfl,d⟩:=h;refine⟨?_,λcs e=>by cases e⟩
  simp only[km] at hp ⊢;cases ho:c.ob id with
  | none=>rw[ho] at hp;simp[fl] at hp
  | some o=>
   rw[ho] at hp;cases o<;>simp only[fl] at hp<;>first|(cases hp;done)|skip
   all_goals
    simp only[AC];refine⟨b,0,rfl,d,λo' a=>?_⟩;have:some o'=some _:=a.symm.trans ho;cases this;exact⟨rfl,rfl⟩
 ·exact h.elim
theorem yH{c:Cx}{dd:List Nat}:∀ {l:List AV} {vs:List Value},nh c l vs->(l.map (km c.ob)).all fl=true->nc ⟨c.w,c.S,c.γ,c.β,c.ob,dd⟩ (l.map (km c.ob)) vs
 | [],[],_,_=>by simp[nc]
 | [],_::_,h,_=>h.elim
 | _::_,[],h,_=>h.elim
 | x::l,v::vs,h,hp=>by
  simp only[zWa,zIb,zaa] at hp;simp only[zWa,nc];exact⟨v,vs,rfl,(B3 h.1 hp.1).1,yH h.2 hp.2⟩
def yG{c:Cx}{x:AV}{v:Value}{dd:List Nat}(h:fa c x v):AR ⟨c.w,c.S,c.γ,c.β,c.ob,dd⟩ (nk c.ob x) v:=by
 cases x<;>simp only[fa] at h<;>simp only[nk]<;>first|(simp only[AR];done)|skip
 case d t y=>simpa only[AR] using h
 case fptr t y=>simpa only[AR,AC] using h
 case ptr t id p=>
  cases hp:fl (km c.ob (.ptr t id p)) with
  | true=>
   obtain⟨q,z⟩:=B3 (dd:=dd) h hp;have r:v.cells.toList=[v]:=by
    unfold su at h;split at h
    ·obtain⟨b,rfl,_⟩:=h;rfl
    ·exact h.elim
   cases hx:km c.ob (.ptr t id p)<;>rw[hx] at hp q<;>simp only[fl] at hp<;>first|(cases hp;done)|skip
   simp_all [AR,r]
  | false=>
   have:km c.ob (.ptr t id p)=.undef:=by
    unfold km at hp ⊢;all_goals grind [fl]
   simp_all [AR]
 case clo f l=>
  obtain⟨caps,rfl,hc⟩:=h;split
  ·rename_i hp;simp only[AR,AC];exact⟨λcs e=>(by cases e),caps,rfl,yH hc hp⟩
  ·simp only[AR]
 case yld id=>simpa only[AR,AC] using h
 case map kt vt id=>
  obtain⟨b,rfl,h1,k,m⟩:=h;split
  ·rename_i s u l n;split
   ·rename_i a;simp only[zaa] at a;have i:=Ty.eq_of_beq _ _ a.1;have j:=Ty.eq_of_beq _ _ a.2;subst i;subst j;simp only[AR,AC];refine⟨λcs e=>(by cases e),b,rfl,h1,k,m,λo g=>?_⟩
    have:some o=some _:=g.symm.trans n;cases this;exact⟨l,rfl⟩
   ·simp only[AR]
  ·simp only[AR]
section
variable{P:Program}{E:Env}{w0:Root}{S:Nat->Nat->Prop}{γ:Nat->Option Nat}{β:Nat->Option (Nat×Nat)}{s:St}{a:Act}{w:World}
def jd(P:Program)(E:Env)(w0:Root)(S:Nat->Nat->Prop)(γ:Nat->Option Nat)(β:Nat->Option (Nat×Nat))(s:St)(a:Act)(w:World)(o:Oper):Prop:=
 ∀ (R:Type) (K:AV->Option R) (r:R),qv E s o K=some r->∃ v,K v=some r/\dK P o a w (Qp w0 S γ β s a w o.dst v)
def kJ(a:Addr):(Instr.sureAddr (.pointer (some a))).run P w=.ok a w:=rfl
def J9(h:Rp w0 S γ β s a w){dst x ty pos after guard}:jd P E w0 S γ β s a w ⟨dst,.move x,ty,pos,after,guard⟩:=by
 intro R K r hq;exact⟨_,hq,.value (v:=a.eval x) (w':=w) (by simp[execOp]) (Qp.same h (aR h x) _)⟩
def D9(h:Rp w0 S γ β s a w){dst x ty pos after guard}:jd P E w0 S γ β s a w ⟨dst,.assign x,ty,pos,after,guard⟩:=by
 intro R K r hq;exact⟨_,hq,.value (v:=a.eval x) (w':=w) (by simp[execOp]) (Qp.same h (aR h x) _)⟩
def Ka(h:Rp w0 S γ β s a w){dst c x y ty pos after guard}:jd P E w0 S γ β s a w ⟨dst,.pick c x y,ty,pos,after,guard⟩:=by
 intro R K r hq;simp only[qv] at hq;obtain⟨b,h1,d⟩:=bind_some_inv hq;obtain⟨e,_⟩:=nW h1 (aR h c);cases b
 ·exact⟨_,by simpa using d,.value (v:=a.eval y) (w':=w) (by simp[execOp,e,asBool]) (Qp.same h (aR h y) _)⟩
 ·exact⟨_,by simpa using d,.value (v:=a.eval x) (w':=w) (by simp[execOp,e,asBool]) (Qp.same h (aR h x) _)⟩
def zR(h:Rp w0 S γ β s a w){dst x ty pos after guard}:jd P E w0 S γ β s a w ⟨dst,.nilCheck x,ty,pos,after,guard⟩:=by
 intro R K r hq;simp only[qv] at hq;have hx:=aR h x;generalize s.opA x=y at *;cases y<;>(try simp only at hq)<;>first|cases hq|skip
 rename_i t id p;refine⟨_,hq,?_⟩;have c:=hx;simp only[AR,AC] at hx;obtain⟨h1,b,off,d,f⟩:=hx;have e:=ar h1 d;exact .value (v:=a.eval x) (w':=w) (by simp[execOp,e]) (Qp.same h c _)
mutual
theorem uG:∀ (t:Ty),ao t=true->AV.fits t (kf t)=true
 | .int k,_=>bJ _ _
 | .bool,_=>bJ _ _
 | .str,_=>bJ _ _
 | .st ts,hn=>by
  simp only[kf];split
  ·simp only[AV.fits,zaa];exact⟨by have:=Ty.beq_refl' (.st ts);simpa [Ty.beq] using this,jv ts (by simpa [ao] using hn)⟩
  ·exact bJ _ _
 | .arr n t,_=>bJ _ _
 | .sl t,_=>rfl
 | .tup _,h=>by simp[ao] at h
 | .fn,h=>by simp[ao] at h
theorem jv:∀ (ts:List Ty),bh ts=true->AV.fitss ts (jE ts)=true
 | [],_=>rfl
 | t::ts,h=>by
  simp only[bh,zaa] at h;simp only[jE,AV.fitss,zaa];exact⟨uG t h.1,jv ts h.2⟩
end
mutual
theorem cL:∀ (t:Ty),ao t=true->wt t (av t)
 | .int k,_=>by simp_all [wt,av]
 | .bool,_=>by simp_all [wt,av]
 | .str,_=>by simp_all [wt,av]
 | .st ts,hn=>by simp only[wt,av];exact⟨_,rfl,n7 ts (by simpa [ao] using hn)⟩
 | .arr n t,hn=>by
  simp only[wt,av];refine⟨_,rfl,by simp,λx hx=>?_⟩
  rw[(zdd.1 hx).2];exact cL t (by simpa [ao] using hn)
 | .sl t,_=>by simp only[wt,av];exact⟨[],rfl,λx hx=>by simp at hx⟩
 | .tup _,h=>by simp[ao] at h
 | .fn,h=>by simp[ao] at h
theorem n7:∀ (ts:List Ty),bh ts=true->eO ts (fP ts)
 | [],_=>by simp[eO,fP]
 | t::ts,h=>by
  simp only[bh,zaa] at h;simp only[fP,eO];exact⟨_,_,rfl,cL t h.1,n7 ts h.2⟩
end
def JC{w:World}{S:Nat->Nat->Prop}{d:D}{v:Value}(h:Dv d v=true):CR w S d v:=by
 cases d<;>cases v<;>simp only[Dv] at h<;>first|cases h|skip
 case int.int k n k' n'=>simp at h;rw[h.1,h.2];exact .int _ _
 case bool.bool b b'=>simp at h;rw[h];exact .bool _
 case str.string x y=>
  have:x=y:=by simpa using h
  rw[this];exact .str _
 case sl.slice l a len cap=>
  simp only[zaa,List.isEmpty_iff,Option.isNone_iff_eq_none,decide_eq_true_eq] at h;obtain⟨⟨⟨rfl,rfl⟩,rfl⟩,rfl⟩:=h;exact .sl [] none 0 0 0 (λ_=>undef) (.inl rfl) (zfa 0) (λi d c=>by simp[D.flats] at c) (λi d c=>by simp[D.flats] at c)
theorem cl{w:World}{S:Nat->Nat->Prop}:∀ {a:List D} {cs:List Value},cz a cs=true->cN w S a cs
 | [],[],_=>cN.nil
 | [],_::_,h=>by simp[cz] at h
 | _::_,[],h=>by simp[cz] at h
 | d::a,v::cs,h=>by
  simp only[cz,zaa] at h;exact cN.append (cN.single.2 (JC h.1)) (cl h.2)
theorem rH:∀ {a b:List D} {cs:List Value},cz (a++b) cs=true->cz a (cs.take a.length)=true/\cz b (cs.drop a.length)=true
 | [],b,cs,h=>by simpa [cz] using h
 | d::a,b,[],h=>by simp[cz] at h
 | d::a,b,v::cs,h=>by
  simp only[zib,cz,zaa] at h;obtain⟨h1,c⟩:=rH h.2
  simp_all [zIa,zWb,zQc,cz,zaa]
mutual
theorem At{c:Cx}:∀ (t:Ty) (cs:List Value),ao t=true->cz (av t).flat cs=true->AC c (kf t) cs
 | .int k,cs,hn,h=>by simp only[kf,AC];exact⟨cL _ hn,hn,cl h⟩
 | .bool,cs,hn,h=>by simp only[kf,AC];exact⟨cL _ hn,hn,cl h⟩
 | .str,cs,hn,h=>by simp only[kf,AC];exact⟨cL _ hn,hn,cl h⟩
 | .st ts,cs,hn,h=>by
  simp only[kf];split
  ·simp only[ao] at hn;simp only[AC];exact⟨hn,jv ts hn,kN ts cs hn (by simpa [av,D.flat] using h)⟩
  ·simp only[AC];exact⟨cL _ hn,hn,cl h⟩
 | .arr n t,cs,hn,h=>by simp only[kf,AC];exact⟨cL _ hn,hn,cl h⟩
 | .sl t,cs,hn,h=>by
  simp only[kf,AC];simp only[av,D.flat] at h
  match cs,h with
  | [],h=>simp[cz] at h
  | [v],h=>
   simp only[cz,zaa] at h;have h1:=h.1;cases v<;>simp only[Dv] at h1<;>first|cases h1|skip
   simp_all
  | v::u::cs,h=>simp[cz] at h
 | .tup _,_,h,_=>by simp[ao] at h
 | .fn,_,h,_=>by simp[ao] at h
theorem kN{c:Cx}:∀ (ts:List Ty) (cs:List Value),bh ts=true->cz (D.flats (fP ts)) cs=true->kh c (jE ts) cs
 | [],cs,_,h=>by
  grind [fP,D.flats,jE,kh,cz]
 | t::ts,cs,hn,h=>by
  simp only[bh,zaa] at hn;simp only[fP,D.flats] at h;obtain⟨h1,h2⟩:=rH h;simp only[jE,kh];exact⟨_,_,(zsa _ _).symm,At t _ hn.1 h1,kN ts _ hn.2 h2⟩
end
end
end Sy
end
noncomputable section
namespace Sy
open Go
def mM{R:Type}{c:Cx}{b:Nat}{o:Ob}{p:List Nat}{t:Ty}{K:AV->Option R}{r:R}(k:fC c b o)(a:dT o p=some t)(h:gd o p K=some r) :
  ∃ a' cs,K a'=some r/\AC c a' cs/\AV.fits t a'=true/\ao t=true/\∀ (i:Nat) (v:Value),cs[i]?=some v->c.w.cell? ⟨b,ce o p+i,none⟩=some v:=by
 cases o
 case mp=>simp[dT] at a
 case lp=>simp[dT] at a
 case fv=>simp[gd] at h
 case one T v=>
  simp only[fC] at k;obtain⟨h1,f,_,cs,n,g,u⟩:=k;simp only[dT] at a;simp only[gd] at h;obtain⟨a',pre,mid,post,e,rfl,s,B,C⟩:=Cm p f h1 a g h;refine⟨a',mid,e,B,C,dm p h1 a,λi v q=>?_⟩;rw[cell_of_row _ n];simp only[ce,<-s];grind
 case many T l=>
  simp only[fC] at k;obtain⟨h1,f,_,cs,n,g⟩:=k;cases p with
  | nil=>simp[dT] at a
  | cons i p=>
   simp only[dT] at a;simp only[gd] at h;obtain⟨x,e,s⟩:=bind_some_inv h;rw[bZ e] at g;obtain⟨u,y⟩:=g.split;obtain⟨z,E⟩:=y.split;have hx:=f x (zZa e);obtain⟨a',pre,mid,post,m1,m2,m3,m4,m5⟩:=Cm (c:=c) (cs:=(cs.drop (D.flats (l.take i)).length).take x.flat.length) p (bJ T x) h1 a (by simp only[AC];exact⟨hx,h1,z⟩) s
   refine⟨a',mid,m1,m4,m5,dm p h1 a,λj v q=>?_⟩;rw[cell_of_row _ n];have hlen:(D.flats (l.take i)).length=i*T.size:=by
    rw[aE h1 _ (λx hx=>f x (zEa hx))];have:=(zka.1 e).1;simp[zlb (zjc this)]
   simp only[ce,<-m3,zAc];have A:=(zka.1 q).1;have d:((cs.drop (D.flats (l.take i)).length).take x.flat.length)[pre.length+j]?=some v:=by
    rw[m2,zxb (by omega),zyb,zeb A];exact q
   have m:=(zka.1 d).1;rw[zYa] at m;rw[zsb (by omega),zfb,hlen] at d
   rw[show i*T.size+pre.length+j=i*T.size+(pre.length+j) by omega]
   exact d
section
variable{P:Program}{E:Env}{w0:Root}{S:Nat->Nat->Prop}{γ:Nat->Option Nat}{β:Nat->Option (Nat×Nat)}{s:St}{a:Act}{w:World}
def jo(a:EnvOk P E){T:TypeId}{t:Ty}(h:E.L T=some t)(hn:ao t=true):bF P t T=true:=by
 rcases a.lay T t h with⟨b,rfl⟩|h
 ·simp[ao] at hn
 ·exact h
def ki{c:Cx}{t:Ty}{id:Nat}{p:List Nat}{v:Value}(h:AR c (.ptr t id p) v):∃ b off,v=.pointer (some ⟨b,off,none⟩)/\c.γ id=some b/\∀ o,c.ob id=some o->dT o p=some t/\off=ce o p:=by
 simp only[AR,AC] at h;obtain⟨h1,b,off,a,d⟩:=h;exact⟨b,off,ar h1 a,d⟩
def fU{c:Cx}{t:Ty}{id:Nat}{p:List Nat}{b off:Nat}(h:c.γ id=some b)(a:∀ o,c.ob id=some o->dT o p=some t/\off=ce o p):AR c (.ptr t id p) (.pointer (some ⟨b,off,none⟩)):=by
 simp only[AR,AC];exact⟨by simp,b,off,rfl,h,a⟩
def wP{c:Cx}{t:Ty}{x:D}{v:Value}(h:AR c (.fptr t x) v):wt t x/\ao t=true/\∃ b off,v=.pointer (some ⟨b,off,none⟩)/\pG c.w c.S b off x.flat:=by
 simp only[AR,AC] at h;obtain⟨h1,a,h0,b,off,d,e⟩:=h;exact⟨a,h0,b,off,ar h1 d,e⟩
def nu{c:Cx}{t:Ty}{x:D}{b off:Nat}(h:wt t x)(hn:ao t=true)(a:pG c.w c.S b off x.flat):AR c (.fptr t x) (.pointer (some ⟨b,off,none⟩)):=by
 simp only[AR,AC];exact⟨by simp,h,hn,b,off,rfl,a⟩
def J8(M:EnvOk P E)(h:Rp w0 S γ β s a w){dst T x ty pos after guard}:jd P E w0 S γ β s a w ⟨dst,.load T x,ty,pos,after,guard⟩:=by
 intro R K r hq;simp only[qv] at hq;have hx:=aR h x;cases hfn:E.fnT T with
 | true=>
  rw[hfn] at hq;simp only[cond_true] at hq;split at hq<;>first|cases hq|skip
  rename_i id e;split at hq<;>first|cases hq|skip
  rename_i y k;split at hq<;>first|cases hq|skip
  rw[e] at hx;obtain⟨b,off,B,I,g⟩:=ki hx;obtain⟨_,rfl⟩:=g _ k;obtain⟨_,c,q,u,k3⟩:=h.obs id _ b k I;replace u:=yG (dd:=s.dead) u;exact⟨_,hq,.value (v:=c) (w':=w) (by simp[execOp,B,z8 (M.fnT T hfn) q,ce]) (Qp.same h u _)⟩
 | false=>
 rw[hfn] at hq;simp only[cond_false] at hq;replace hq:=bind_some_inv hq;obtain⟨t,V,hq⟩:=hq;generalize s.opA x=y at *;cases y<;>(try simp only at hq)<;>first|cases hq|skip
 case ptr t' id p=>
  split at hq<;>first|cases hq|skip
  rename_i j;have:=Ty.eq_of_beq _ _ j;subst this;replace hq:=bind_some_inv hq;obtain⟨o,k,hq⟩:=hq;obtain⟨b,off,B,I,g⟩:=ki hx;obtain⟨q,rfl⟩:=g o k;obtain⟨a',cs,m1,m2,m3,m4,m5⟩:=mM (h.obs id o b k I) q hq;obtain⟨m6,m7⟩:=gJ _ _ _ m3 m2;obtain⟨v,d,f⟩:=jr (jo M V m4) (w:=w) (b:=b) (off:=ce o p) m6 m7 m5;exact⟨a',m1,.value (v:=v) (w':=w) (by simp[execOp,B,d]) (Qp.same h (u4 m3 m2 f) _)⟩
 case fptr t' z=>
  split at hq<;>first|cases hq|skip
  rename_i j;have:=Ty.eq_of_beq _ _ j;subst this;obtain⟨q,X,b,off,B,cs,u,k3⟩:=wP hx;obtain⟨v,d,f⟩:=jr (jo M V X) (w:=w) (b:=b) (off:=off) (cs:=cs) (by rw[<-u.1];exact ci _ _ q X) u.nag (λi c hc=>(k3 i c hc).2)
  exact⟨_,hq,.value (v:=v) (w':=w) (by simp[execOp,B,d]) (Qp.same h (u4 (bJ _ _) (by simp only[AC];exact⟨q,X,u⟩) f) _)⟩
 case sub sl e id p lo n=>
  split at hq<;>first|cases hq|skip
  rename_i j;simp only[zaa,zGa] at j;obtain⟨U,j⟩:=j;subst U;have:=Ty.eq_of_beq _ _ j;subst this;replace hq:=bind_some_inv hq;obtain⟨o,k,hq⟩:=hq;simp only[AR,AC] at hx;obtain⟨Q,A,b,off,cap,G,I,g⟩:=hx;simp only[zya,if_false] at G;have B:=ar Q G;obtain⟨m,q,u,rfl⟩:=g o k;obtain⟨a',cs,m1,m2,m3,m4,m5⟩:=mM (h.obs id o b k I) q hq;split at m1<;>first|(cases m1;done)|skip
  rename_i m' C l;split at m1<;>first|(cases m1;done)|skip
  rename_i F;simp only[zaa,decide_eq_true_eq] at F;have he:=Ty.eq_of_beq _ _ F.1;subst he;have hm:=nH m3;simp only[Ty.arr.injEq] at hm;simp only[AC] at m2;obtain⟨q1,q2,Y⟩:=m2;simp only[wt] at q1;obtain⟨l0,e0,q4,Z⟩:=q1;cases e0;have O:l=l.take lo++((l.drop lo).take n++(l.drop lo).drop n):=by rw[zsa,zsa]
  have N:D.flats l=D.flats (l.take lo)++(D.flats ((l.drop lo).take n)++D.flats ((l.drop lo).drop n)):=by
   conv=>lhs;rw[O]
   rw[bW,bW]
  simp only[D.flat] at Y;rw[N] at Y;obtain⟨_,r2⟩:=Y.split;obtain⟨r3,_⟩:=r2.split;have J:(D.flats (l.take lo)).length=lo*C.size:=by
   rw[aE A _ (λx hx=>Z x (zEa hx)),zYa,zlb (by omega)]
  have L:(D.flats ((l.drop lo).take n)).length=n*C.size:=by
   rw[aE A _ (λx hx=>Z x (zLb (zEa hx))),zYa,List.length_drop,zlb (by omega)]
  have W:wt (.arr n C) (.st ((l.drop lo).take n)):=by
   simp only[wt];exact⟨_,rfl,by rw[zYa,List.length_drop,zlb (by omega)],λx hx=>Z x (zLb (zEa hx))⟩
  have H:ao (.arr n C)=true:=by simp only[ao];exact A
  obtain⟨v,d,f⟩:=jr (jo M V H) (w:=w) (b:=b) (off:=ce o p+lo*C.size) (cs:=(cs.drop (D.flats (l.take lo)).length).take (D.flats ((l.drop lo).take n)).length) (by rw[<-r3.1,L];rfl) r3.nag (λi c hc=>by
   have hi:i<(D.flats ((l.drop lo).take n)).length:=by
    have:=(zka.1 hc).1;rw[zYa] at this;omega
   rw[zsb hi,zfb] at hc;have:=m5 _ c hc;rw[J,<-zzb] at this;exact this)
  exact⟨_,m1,.value (v:=v) (w':=w) (by simp[execOp,B,d]) (Qp.same h (u4 (bJ _ _) (by simp only[AC];exact⟨W,H,by simp only[D.flat];exact r3⟩) f) _)⟩
def ru{T:TypeId}{d:List Ty}{f:Nat}{u:Ty}(hl:bF P (.st d) T=true)(l:d[f]?=some u)(b off:Nat)(w:World) :
  (Instr.fieldAt T (.pointer (some ⟨b,off,none⟩)) f).run P w=.ok (.pointer (some ⟨b,off+Ty.sizes (d.take f),none⟩)) w:=by
 obtain⟨e,h1,h⟩:=iM hl;obtain⟨g,i,j,m,k⟩:=rX h l;have a:e[f]?=some g:=by simpa using i
 have c:u.size≠0:=by omega
 simp only[Instr.fieldAt,zha,run_underlying h1,zea,a,kJ,fieldPlace,bX k,c,if_false,zna,j,cR,z5a]
theorem jq:∀ (p:List Nat) {t u v:Ty} {i:Nat},aN t p=some u->aN u [i]=some v->aN t (p++[i])=some v
 | [],t,u,v,i,h,k=>by
  simp_all [aN]
 | j::p,.st b,u,v,i,h,k=>by
  simp only[aN,zib] at h ⊢;obtain⟨z,h1,a⟩:=bind_some_inv h;rw[h1];exact jq p a k
 | j::p,.arr n t,u,v,i,h,k=>by
  simp only[aN,zib] at h ⊢;exact jq p h k
 | j::p,.int _,u,v,i,h,k=>by simp[aN] at h
 | j::p,.bool,u,v,i,h,k=>by simp[aN] at h
 | j::p,.str,u,v,i,h,k=>by simp[aN] at h
 | j::p,.sl _,u,v,i,h,k=>by simp[aN] at h
 | j::p,.tup _,u,v,i,h,k=>by simp[aN] at h
 | j::p,.fn,u,v,i,h,k=>by simp[aN] at h
theorem g9:∀ (p:List Nat) {t u:Ty} {i:Nat},aN t p=some u->ba t (p++[i])=ba t p+ba u [i]
 | [],t,u,i,h=>by
  simp_all [aN,ba]
 | j::p,.st b,u,i,h=>by
  simp only[aN,zib] at h ⊢;obtain⟨z,h1,a⟩:=bind_some_inv h;simp only[ba];rw[show b.getD j .bool=z by simp[List.getD,h1],g9 p a,zzb]
 | j::p,.arr n t,u,i,h=>by
  simp only[aN,zib] at h ⊢;simp only[ba];rw[g9 p h,zzb]
 | j::p,.int _,u,i,h=>by simp[aN] at h
 | j::p,.bool,u,i,h=>by simp[aN] at h
 | j::p,.str,u,i,h=>by simp[aN] at h
 | j::p,.sl _,u,i,h=>by simp[aN] at h
 | j::p,.tup _,u,i,h=>by simp[aN] at h
 | j::p,.fn,u,i,h=>by simp[aN] at h
def wj{o:Ob}{p:List Nat}{t u:Ty}{i:Nat}(h:dT o p=some t)(k:aN t [i]=some u):dT o (p++[i])=some u/\ce o (p++[i])=ce o p+ba t [i]:=by
 cases o with
 | one T v=>simp only[dT,ce] at h ⊢;exact⟨jq p h k,g9 p h⟩
 | many T l=>
  cases p with
  | nil=>simp[dT] at h
  | cons j p=>simp only[dT,ce,zib] at h ⊢;exact⟨jq p h k,by rw[g9 p h,zzb]⟩
 | mp a vt l=>simp[dT] at h
 | lp i q=>simp[dT] at h
 | fv v=>cases p<;>simp[dT] at h;subst h;simp[aN] at k
def xI(m:EnvOk P E)(h:Rp w0 S γ β s a w){dst T x f ty pos after guard}:jd P E w0 S γ β s a w ⟨dst,.fieldAddr T x f,ty,pos,after,guard⟩:=by
 intro R K r hq;simp only[qv] at hq;replace hq:=bind_some_inv hq;obtain⟨t,n,hq⟩:=hq;have hx:=aR h x;generalize s.opA x=y at *;cases t<;>(try simp only at hq)<;>first|cases hq|skip
 rename_i k;cases y<;>(try simp only at hq)<;>first|cases hq|skip
 case ptr t' id p=>
  split at hq<;>first|cases hq|skip
  rename_i d;have:=Ty.eq_of_beq _ _ d;subst this;replace hq:=bind_some_inv hq;obtain⟨u,hu,hq⟩:=hq;obtain⟨b,off,g,J,e⟩:=ki hx;rcases m.lay T _ n with⟨l,c⟩|hl
  ·cases c
  refine⟨_,hq,.value (v:=.pointer (some ⟨b,off+Ty.sizes (k.take f),none⟩)) (w':=w) (by simp only[execOp,g,zha,ru hl hu,zea,zna]) (Qp.same h (fU J λo H=>?_) _)⟩
  obtain⟨j,rfl⟩:=e o H;have:=wj (i:=f) (u:=u) j (by simp[aN,hu])
  exact⟨this.1,by rw[this.2];simp[ba]⟩
 case fptr t' z=>
  split at hq<;>first|cases hq|skip
  rename_i d;have:=Ty.eq_of_beq _ _ d;subst this;replace hq:=bind_some_inv hq;obtain⟨u,hu,hq⟩:=hq;replace hq:=bind_some_inv hq;obtain⟨L,I,hq⟩:=hq;obtain⟨j,q,b,off,g,C⟩:=wP hx;rcases m.lay T _ n with⟨l,c⟩|hl
  ·cases c
  have G:z.get [f]=some L:=by simp[D.get,I]
  obtain⟨m1,A,B,m2,m3⟩:=iH [f] j q (show aN (.st k) [f]=some u by simp[aN,hu]) G
  rw[m2] at C;have F:=C.part;rw[m3] at F;refine⟨_,hq,.value (v:=.pointer (some ⟨b,off+Ty.sizes (k.take f),none⟩)) (w':=w) (by simp only[execOp,g,zha,ru hl hu,zea,zna]) (Qp.same h (nu m1 (bN (by simpa [ao] using q) hu) ?_) _)⟩
  simpa [ba] using F
def kW{T:TypeId}{n:Nat}{e:Ty}(hl:bF P (.arr n e) T=true){d:IntKind}{k:Nat}(hk:k<n)(b off:Nat)(w:World) :
  (Instr.indexAt T (.pointer (some ⟨b,off,none⟩)) (.int d k)).run P w=.ok (.pointer (some ⟨b,off+k*e.size,none⟩)) w:=by
 obtain⟨u,h1,c⟩:=dH hl;have a:(0:Int)<=(k:Int)/\(k:Int)<(n:Int):=by omega
 simp only[Instr.indexAt,asIntOf,pure_bind,zha,run_underlying h1,zea,kJ,zna,a,and_self,if_true,bX c,cR,zVc]
def mb{T:TypeId}{e:Ty}(hl:bF P (.sl e) T=true){d:IntKind}{k len cap:Nat}(hk:k<len)(b off:Nat)(w:World) :
  (Instr.indexAt T (.slice (some ⟨b,off,none⟩) len cap) (.int d k)).run P w=.ok (.pointer (some ⟨b,off+k*e.size,none⟩)) w:=by
 obtain⟨u,h1,c⟩:=iK hl;have a:(0:Int)<=(k:Int)/\(k:Int)<(len:Int):=by omega
 simp only[Instr.indexAt,asIntOf,pure_bind,zha,run_underlying h1,zea,zna,a,and_self,if_true,bX c,cR,zVc]
def EJ{c:Cx}{t:Ty}{id:Nat}{v:Value}(h:AR c (.mem t id) v):ao t=true/\∃ b,c.γ id=some b/\∀ o,c.ob id=some o->∃ l,o=.many t l/\v=.slice (some ⟨b,0,none⟩) l.length l.length:=by
 simp only[AR,AC] at h;obtain⟨h1,a,b,d,e⟩:=h;refine⟨a,b,d,λo f=>?_⟩;obtain⟨l,g,i⟩:=e o f;exact⟨l,g,ar h1 i⟩
def jG{c:Cx}{ob:Nat->Option Ob}{e:Ty}{y:AV}{v:Value}{l:List D}(hn:ao e=true)(h:AR c y v)(hl:y.asList ob e=some l):(∀ x∈l,wt e x)/\CR c.w c.S (.sl l) v:=by
 unfold AV.asList at hl;obtain⟨x,h1,d⟩:=bind_some_inv hl;have:=Fc d;subst this;obtain⟨a,f⟩:=nv (t:=.sl e) (by simpa [ao] using hn) h h1
 simp only[wt] at a;obtain⟨l',b,g⟩:=a;cases b;exact⟨g,f.sl_inv⟩
def xJ(W:EnvOk P E)(h:Rp w0 S γ β s a w){dst T x i ty pos after guard}:jd P E w0 S γ β s a w ⟨dst,.indexAddr T x i,ty,pos,after,guard⟩:=by
 intro R K r hq;simp only[qv] at hq;replace hq:=bind_some_inv hq;obtain⟨t,X,hq⟩:=hq;replace hq:=bind_some_inv hq;obtain⟨ix,M,hq⟩:=hq;have hi:=dG M;have c:=aR h i;rw[hi] at c;have hx:=aR h x;generalize s.opA x=y at *;cases t<;>(try simp only at hq)<;>first|cases hq|skip
 case arr n e=>
  rcases W.lay T _ X with⟨V,q⟩|hl
  ·cases q
  cases y<;>(try simp only at hq)<;>first|cases hq|skip
  case ptr j id p=>
   split at hq<;>first|cases hq|skip
   rename_i H;have:=Ty.eq_of_beq _ _ H;subst this;replace hq:=bind_some_inv hq;obtain⟨k,hk,hq⟩:=hq;obtain⟨U,f,d⟩:=oL hk;rw[f] at c;obtain⟨mX,_⟩:=eH c;obtain⟨b,off,C,Q,g⟩:=ki hx;refine⟨_,hq,.value (v:=.pointer (some ⟨b,off+k*e.size,none⟩)) (w':=w) (by simp only[execOp,C,mX,zha,kW hl d,zea,zna]) (Qp.same h (fU Q λo N=>?_) _)⟩
   obtain⟨F,rfl⟩:=g o N;have:=wj (i:=k) (u:=e) F (by cases e<;>simp[aN])
   exact⟨this.1,by rw[this.2];cases e<;>simp[ba]⟩
  case fptr j z=>
   split at hq<;>first|cases hq|skip
   rename_i H;have:=Ty.eq_of_beq _ _ H;subst this;replace hq:=bind_some_inv hq;obtain⟨k,hk,hq⟩:=hq;replace hq:=bind_some_inv hq;obtain⟨z',J,hq⟩:=hq;obtain⟨U,f,d⟩:=oL hk;rw[f] at c;obtain⟨mX,_⟩:=eH c;obtain⟨F,Y,b,off,C,L⟩:=wP hx;have hg:z.get [k]=some z':=by simp[D.get,J]
   obtain⟨m1,A,B,m2,m3⟩:=iH [k] F Y (show aN (.arr n e) [k]=some e by cases e<;>simp[aN]) hg
   rw[m2] at L;have G:=L.part;rw[m3] at G;refine⟨_,hq,.value (v:=.pointer (some ⟨b,off+k*e.size,none⟩)) (w':=w) (by simp only[execOp,C,mX,zha,kW hl d,zea,zna]) (Qp.same h (nu m1 (by simpa [ao] using Y) ?_) _)⟩
   have:ba (.arr n e) [k]=k*e.size:=by cases e<;>simp[ba]
   rwa [this] at G
 case sl e=>
  rcases W.lay T _ X with⟨V,q⟩|hl
  ·cases q
  have m:ao e=true:=by have:=aH _ _ hl;simpa [ao] using this
  by_cases hm:∃ j id,y=.mem j id
  ·obtain⟨j,id,rfl⟩:=hm;simp only at hq;split at hq<;>first|cases hq|skip
   rename_i H;have:=Ty.eq_of_beq _ _ H;subst this;split at hq<;>first|cases hq|skip
   rename_i u l g;replace hq:=bind_some_inv hq;obtain⟨k,hk,hq⟩:=hq;obtain⟨U,f,d⟩:=oL hk;rw[f] at c;obtain⟨mX,_⟩:=eH c;obtain⟨_,b,Q,I⟩:=EJ hx;obtain⟨l',e1,C⟩:=I _ g;cases e1;refine⟨_,hq,.value (v:=.pointer (some ⟨b,0+k*j.size,none⟩)) (w':=w) (by simp only[execOp,C,mX,zha,mb hl d,zea,zna]) (Qp.same h (fU Q λo N=>?_) _)⟩
   have:o=.many j l:=by have:=g.symm.trans N;cases this;rfl
   subst this;exact⟨by cases j<;>simp[dT,aN],by cases j<;>simp[ce,ba]⟩
  ·have O:(y.asList s.ob e).bind (λl=>(ix.2.idx l.length).bind λk=>(l[k]?).bind λy=>K (.fptr e y))=some r:=by
    cases y<;>first|exact hq|exact absurd ⟨_,_,rfl⟩ hm
   obtain⟨l,h1,hq⟩:=bind_some_inv O;replace hq:=bind_some_inv hq;obtain⟨k,hk,hq⟩:=hq;replace hq:=bind_some_inv hq;obtain⟨z,J,hq⟩:=hq;obtain⟨U,f,d⟩:=oL hk;rw[f] at c;obtain⟨mX,_⟩:=eH c;obtain⟨F,L⟩:=jG m hx h1;obtain⟨A,cap,b,off,C,G,k4,Z⟩:=L.elems;have hA:A=some ⟨b,off,none⟩:=by
    rcases G with rfl|G
    ·simp at J
    ·exact G
   rw[bZ J] at Z;have k6:=Z.part;rw[aE m _ (λx hx=>F x (zEa hx)),zYa,zlb (zjc d)] at k6;exact⟨_,hq,.value (v:=.pointer (some ⟨b,off+k*e.size,none⟩)) (w':=w) (by simp only[execOp,C,hA,mX,zha,mb hl d,zea,zna]) (Qp.same h (nu (F z (zZa J)) m k6) _)⟩
def gF{T:TypeId}{t:Ty}(hl:bF P t T=true){cs:Array Value}{pre mid post:List Value}(a:cs.toList=pre++(mid++post))(hm:mid.length=t.size)(hn:nag mid)(w:World) :
  ∃ v,(part T cs pre.length).run P w=.ok v w/\fS t mid v:=by
 have e:cs=(pre++(mid++post)).toArray:=by rw[<-a]
 subst e;unfold part;rw[zha,Cr hl,zea];cases ha:cE t
 ·have h1:mid.length=1:=by
   rw[hm];cases t<;>simp[cE] at ha<;>first|rfl|(exfalso;exact vJ hl (.inl ⟨_,rfl⟩))
  match mid,h1 with
  | [c],_=>
   have b:=hn c (by simp)
   refine⟨c,?_,?_,?_,?_⟩
   ·simp
   ·cases c<;>simp_all [Value.cells,Value.oneCell']
   ·simp_all
   ·grind [Value.oneCell']
 ·refine⟨.agg mid.toArray,?_,rfl,λ_=>⟨_,rfl⟩,by rw[ha];intro h;cases h⟩
  simp only[if_true,zha,bX hl,zea,zna]
  simp_all
def GQ(M:EnvOk P E)(h:Rp w0 S γ β s a w){dst T x f ty pos after guard}:jd P E w0 S γ β s a w ⟨dst,.field T x f,ty,pos,after,guard⟩:=by
 intro R K r hq;simp only[qv] at hq;replace hq:=bind_some_inv hq;obtain⟨t,Q,hq⟩:=hq;have hx:=aR h x;generalize s.opA x=y at *;cases t<;>(try simp only at hq)<;>first|cases hq|skip
 rename_i X;cases y<;>(try simp only at hq)<;>first|cases hq|skip
 rename_i Z z;split at hq<;>first|cases hq|skip
 rename_i N;have:=Ty.eq_of_beq _ _ N;subst this;replace hq:=bind_some_inv hq;obtain⟨u,hu,hq⟩:=hq;replace hq:=bind_some_inv hq;obtain⟨q,U,hq⟩:=hq;rcases M.lay T _ Q with⟨Y,m⟩|hl
 ·cases m
 have hn:=aH _ _ hl;obtain⟨n,V⟩:=yr hx hn;have O:z.get [f]=some q:=by simp[D.get,U]
 obtain⟨m1,A,B,m2,m3⟩:=iH [f] n hn (show aN (.st X) [f]=some u by simp[aN,hu]) O
 obtain⟨W,F⟩:=V;rw[m2] at F;obtain⟨o,p⟩:=F.split;obtain⟨j,G⟩:=p.split;obtain⟨H,h1,I⟩:=iM hl;obtain⟨g,J,L,_,C⟩:=rX I hu;have c:=aH _ _ C;obtain⟨cs,b⟩:∃ cs,a.eval x=.agg cs:=by
  simp only[wt] at n;obtain⟨l,rfl,_⟩:=n;exact W
 rw[b] at o p j G;simp only[Value.cells] at o p j G;obtain⟨v,e,i⟩:=gF C (cs:=cs) (pre:=cs.toList.take A.length) (mid:=(cs.toList.drop A.length).take q.flat.length) (post:=(cs.toList.drop A.length).drop q.flat.length)
  (by simp only[zsa]) (by rw[<-j.1];exact ci _ _ m1 c) j.nag w
 have d:g.offset=(cs.toList.take A.length).length:=by rw[<-o.1,m3,L];simp[ba]
 have k:H[f]?=some g:=by simpa using J
 exact⟨_,hq,.value (v:=v) (w':=w) (by simp only[execOp,b,Instr.field,zha,run_underlying h1,zea,k,asAgg,zna,d,e]) (Qp.same h (u4 (bJ _ _) (by simp only[AC];exact⟨m1,c,j⟩) i) _)⟩
def GR(X:EnvOk P E)(h:Rp w0 S γ β s a w){dst T x i ty pos after guard}:jd P E w0 S γ β s a w ⟨dst,.index T x i,ty,pos,after,guard⟩:=by
 intro R K r hq;simp only[qv] at hq;replace hq:=bind_some_inv hq;obtain⟨t,Y,hq⟩:=hq;replace hq:=bind_some_inv hq;obtain⟨ix,L,hq⟩:=hq;have hi:=dG L;have b:=aR h i;rw[hi] at b;have hx:=aR h x;generalize s.opA x=y at *;cases t<;>(try simp only at hq)<;>first|cases hq|skip
 case str=>
  cases y<;>(try simp only at hq)<;>first|cases hq|skip
  rename_i t' z;split at hq<;>first|cases hq|skip
  rename_i I;have:=Ty.eq_of_beq _ _ I;subst this;replace hq:=bind_some_inv hq;obtain⟨G,C,hq⟩:=hq;rcases X.lay T _ Y with⟨W,d⟩|hl
  ·cases d
  obtain⟨f,Q⟩:=yr hx rfl;simp only[wt] at f;obtain⟨sb,rfl⟩:=f;obtain⟨kt,kx⟩:=ix;cases kx<;>(try simp only[D.strAt] at C)<;>first|cases C|skip
  rename_i k n;obtain⟨bb,J,g⟩:=bind_some_inv C;simp only[zca] at g;subst g;obtain⟨mX,_⟩:=eH b;have O:a.eval x=.string sb:=by
   obtain⟨c1,c2⟩:=Q;obtain⟨c,e,h⟩:=cN.single' c2;have:=ar c1 e;rw[this];cases h;rfl
  have hu:P.underlying T=some .string:=by
   simp only[bF,zaa] at hl;all_goals grind
  exact⟨_,hq,.value (v:=.int .u8 bb.toNat) (w':=w) (by simp only[execOp,O,mX,Instr.index,asIntOf,pure_bind,zha,run_underlying hu,zea,J,zna]) (Qp.same h (cB _ _) _)⟩
 rename_i n e;cases y<;>(try simp only at hq)<;>first|cases hq|skip
 rename_i t' z;split at hq<;>first|cases hq|skip
 rename_i I;have:=Ty.eq_of_beq _ _ I;subst this;replace hq:=bind_some_inv hq;obtain⟨k,hk,hq⟩:=hq;replace hq:=bind_some_inv hq;obtain⟨G,C,hq⟩:=hq;obtain⟨kk,N,ad⟩:=oL hk;rw[N] at b;obtain⟨mX,_⟩:=eH b;rcases X.lay T _ Y with⟨W,d⟩|hl
 ·cases d
 have hn:=aH _ _ hl;obtain⟨f,Q⟩:=yr hx hn;have hg:z.get [k]=some G:=by simp[D.get,C]
 obtain⟨m1,A,B,m2,m3⟩:=iH [k] f hn (show aN (.arr n e) [k]=some e by cases e<;>simp[aN]) hg
 obtain⟨k3,Z⟩:=Q;rw[m2] at Z;obtain⟨U,V⟩:=Z.split;obtain⟨F,k8⟩:=V.split;obtain⟨u,h1,H⟩:=dH hl;have m:=aH _ _ H;obtain⟨cs,j⟩:∃ cs,a.eval x=.agg cs:=by
  simp only[wt] at f;obtain⟨l,rfl,_⟩:=f;exact k3
 rw[j] at U V F k8;simp only[Value.cells] at U V F k8;obtain⟨v,p,q⟩:=gF H (cs:=cs) (pre:=cs.toList.take A.length) (mid:=(cs.toList.drop A.length).take G.flat.length) (post:=(cs.toList.drop A.length).drop G.flat.length)
  (by simp only[zsa]) (by rw[<-F.1];exact ci _ _ m1 m) F.nag w
 have o:k*e.size=(cs.toList.take A.length).length:=by rw[<-U.1,m3];cases e<;>simp[ba]
 have M:(0:Int)<=(k:Int)/\(k:Int)<(n:Int):=by omega
 exact⟨_,hq,.value (v:=v) (w':=w) (by simp only[execOp,j,mX,Instr.index,asIntOf,pure_bind,zha,run_underlying h1,zea,M,and_self,if_true,bX H,zVc,o,p,zna]) (Qp.same h (u4 (bJ _ _) (by simp only[AC];exact⟨m1,m,F⟩) q) _)⟩
end
end Sy
end
noncomputable section
namespace Sy
open Go
def B7:BinOp->Bool
 | .eql|.neq|.lss|.leq|.gtr|.geq=>true
 | _=>false
section
variable{P:Program}{E:Env}{w0:Root}{S:Nat->Nat->Prop}{γ:Nat->Option Nat}{β:Nat->Option (Nat×Nat)}{s:St}{a:Act}{w:World}
def Jf{op:BinOp}{k b:IntKind}{x y:Int}{z:D}(T:TypeId)(w:World)(h:D.bin op (.int k x) (.int b y)=some z) :
  (B7 op=true/\∃ c,z=.bool c/\(binOp op T (.int k x) (.int b y)).run P w=.ok (.bool c) w)\/(B7 op=false/\∃ n,z=.int k n/\(binOp op T (.int k x) (.int b y)).run P w=.ok (.int k n) w):=by
 cases op<;>simp only[D.bin,D.bitOp] at h
 case shl=>
     split at h<;>first|(cases h;done)|skip
     rename_i a;simp only[zca] at h;exact .inr ⟨rfl,_,h.symm,by simp[binOp,Op.shift,a]⟩
 case shr=>
     split at h<;>first|(cases h;done)|skip
     rename_i a;simp only[zca] at h;exact .inr ⟨rfl,_,h.symm,by simp[binOp,Op.shift,a]⟩
 case quo=>
  split at h<;>first|(cases h;done)|skip
  rename_i hk;subst hk;split at h<;>first|(cases h;done)|skip
  rename_i a;simp only[zca] at h;exact .inr ⟨rfl,_,h.symm,by simp[binOp,Op.intDiv,a]⟩
 case rem=>
  split at h<;>first|(cases h;done)|skip
  rename_i hk;subst hk;split at h<;>first|(cases h;done)|skip
  rename_i a;simp only[zca] at h;exact .inr ⟨rfl,_,h.symm,by simp[binOp,Op.intDiv,a]⟩
 all_goals (split at h<;>first|(cases h;done)|skip)
 all_goals (rename_i hk;subst hk)
 all_goals (simp only[zca] at h)
 all_goals first
  | (refine .inl ⟨rfl,_,h.symm,?_⟩;simp[binOp,Op.intCmp];done)
  | (refine .inr ⟨rfl,_,h.symm,?_⟩;simp[binOp,Op.intArith];done)
  | (refine .inr ⟨rfl,_,h.symm,?_⟩;simp only[binOp,ne_eq,not_true_eq_false,if_false];rfl)
def eZ(op:BinOp)(T:TypeId)(x y:Operand)(k a:IntKind)(u v:Int)(w:World):(eqGuard op T x y (.int k u) (.int a v)).run P w=.ok () w:=by cases op<;>simp[eqGuard]
def jZ(op:BinOp)(T:TypeId)(x y:Operand)(u v:Bool)(w:World):(eqGuard op T x y (.bool u) (.bool v)).run P w=.ok () w:=by cases op<;>simp[eqGuard]
def eh{t:Ty}{c v:Value}(h:fS t [c] v)(a:cE t=false):v=c:=ar (h.2.2 a) h.1
def ij{t:Ty}{cs:List Value}{v:Value}(h:fS t cs v)(a:cE t=true):v=.agg cs.toArray:=by
 obtain⟨xs,rfl⟩:=h.2.1 a;have:=h.1;simp only[Value.cells] at this;rw[<-this]
theorem yw:∀ (n:Nat) {l l':List D},l.length=n->l'.length=n->D.beqs l l'=(List.range n).all λj=>D.beq (l.getD j (.bool false)) (l'.getD j (.bool false))
 | 0,[],[],_,_=>rfl
 | n+1,x::l,y::l',h,a=>by
  simp only[D.beqs,List.range_succ_eq_map,zIb,List.all_map];rw[yw n (by simpa using h) (by simpa using a)]
  rfl
mutual
theorem oD:∀ (ty:Ty) (T:TypeId) (x y:D) (cx cy:List Value) (vx vy:Value) (d:Nat),bF P ty T=true->bM ty=true->ty.high<=d->wt ty x->wt ty y->cN w S x.flat cx->cN w S y.flat cy->fS ty cx vx->fS ty cy vy ->
  ∀ w',(Op.equalIn d T vx vy).run P w'=.ok (D.beq x y) w'
 | .int k,T,x,y,cx,cy,vx,vy,d,hl,_,hd,hx,hy,rx,ry,ix,iy,w'=>by
  simp only[wt] at hx hy;obtain⟨n,rfl⟩:=hx;obtain⟨m,rfl⟩:=hy;obtain⟨c1,rfl,r1⟩:=rx.single';obtain⟨c2,rfl,r2⟩:=ry.single';rw[eh ix rfl,eh iy rfl,r1.int_inv,r2.int_inv];obtain⟨d,rfl⟩:∃ e,d=e+1:=⟨d-1,by simp only[Ty.high] at hd;omega⟩
  rw[run_equalIn_int w' d T k k n m (jp hl)];simp only[D.beq,decide_true,zQb];rfl
 | .bool,T,x,y,cx,cy,vx,vy,d,hl,_,hd,hx,hy,rx,ry,ix,iy,w'=>by
  simp only[wt] at hx hy;obtain⟨n,rfl⟩:=hx;obtain⟨m,rfl⟩:=hy;obtain⟨c1,rfl,r1⟩:=rx.single';obtain⟨c2,rfl,r2⟩:=ry.single';rw[eh ix rfl,eh iy rfl,r1.bool_inv,r2.bool_inv];obtain⟨d,rfl⟩:∃ e,d=e+1:=⟨d-1,by simp only[Ty.high] at hd;omega⟩
  have hu:P.underlying T=some .bool:=by
   simp only[bF,zaa] at hl;all_goals grind
  rw[run_equalIn_bool' w' d T n m hu];rfl
 | .st ts,T,x,y,cx,cy,vx,vy,d,hl,hc,hd,hx,hy,rx,ry,ix,iy,w'=>by
  simp only[wt] at hx hy;obtain⟨l,rfl,hx⟩:=hx;obtain⟨l',rfl,hy⟩:=hy;rw[ij ix rfl,ij iy rfl];obtain⟨fs,h1,h2⟩:=iM hl;have h3:P.fieldsOf T=fs:=by simp[Program.fieldsOf,h1]
  have h4:P.stoodInHeld T=false:=by
   simp_all [bF,zaa,zGa]
  simp only[Ty.high] at hd;obtain⟨d,rfl⟩:∃ e,d=e+1:=⟨d-1,by omega⟩
  rw[run_equalIn_struct w' d T _ _ (by rw[h3];exact h1) h4,h3]
  simp only[bM] at hc;simp only[D.beq];simp only[D.flat] at rx ry;exact q8 ts fs.toList 0 l l' [] cx [] cy _ _ d h2 hc (by omega) hx hy rx ry rfl rfl rfl rfl w'
 | .arr n t,T,x,y,cx,cy,vx,vy,d,hl,hc,hd,hx,hy,rx,ry,ix,iy,w'=>by
  simp only[wt] at hx hy;obtain⟨l,rfl,hxl,hx⟩:=hx;obtain⟨l',rfl,hyl,hy⟩:=hy;rw[ij ix rfl,ij iy rfl];obtain⟨u,h1,h2⟩:=dH hl;obtain⟨i,z,h3,h4,_⟩:=fe (ga h2);simp only[Ty.high] at hd;obtain⟨d,rfl⟩:∃ e,d=e+1:=⟨d-1,by omega⟩
  rw[run_equalIn_array w' d _ _ h1 h3];simp only[bM] at hc;simp only[D.beq];simp only[D.flat] at rx ry;have hcell:P.cellsOf u=t.size:=by simp[Program.cellsOf,h3,h4]
  have hn:=aH _ _ h2;rw[yw n hxl hyl];have key:∀ (is:List Nat) (w':World),(∀ j∈is,j<n)->(Op.eqItems d u (P.cellsOf u) cx.toArray cy.toArray is).run P w'=.ok (is.all λj=>D.beq (l.getD j (.bool false)) (l'.getD j (.bool false))) w':=by
   intro is
   induction is with
   | nil=>intro w' _;simp[Op.eqItems]
   | cons j is ih=>
    intro w' hj;have hjn:=hj j (by simp)
    have e1:l[j]?=some (l.getD j (.bool false)):=by simp_all
    have e2:l'[j]?=some (l'.getD j (.bool false)):=by simp_all
    generalize l.getD j (.bool false)=dx at *;generalize l'.getD j (.bool false)=dy at *;have wx:=hx dx (zZa e1);have wy:=hy dy (zZa e2);have rx':=rx;have ry':=ry;rw[bZ e1] at rx';rw[bZ e2] at ry';obtain⟨p1,p2⟩:=rx'.split;obtain⟨p3,p4⟩:=p2.split;obtain⟨q1,q2⟩:=ry'.split;obtain⟨q3,q4⟩:=q2.split;have o1:(cx.take (D.flats (l.take j)).length).length=j*t.size:=by
     rw[<-p1.1,aE hn _ (λx hx'=>hx x (zEa hx')),zYa,zlb (by omega)]
    have o2:(cy.take (D.flats (l'.take j)).length).length=j*t.size:=by
     rw[<-q1.1,aE hn _ (λx hx'=>hy x (zEa hx')),zYa,zlb (by omega)]
    obtain⟨v1,r1,i1⟩:=gF h2 (cs:=cx.toArray) (pre:=cx.take (D.flats (l.take j)).length) (mid:=(cx.drop (D.flats (l.take j)).length).take dx.flat.length) (post:=(cx.drop (D.flats (l.take j)).length).drop dx.flat.length)
     (by simp only[zsa]) (by rw[<-p3.1];exact ci _ _ wx hn) p3.nag w'
    obtain⟨v2,r2,i2⟩:=gF h2 (cs:=cy.toArray) (pre:=cy.take (D.flats (l'.take j)).length) (mid:=(cy.drop (D.flats (l'.take j)).length).take dy.flat.length) (post:=(cy.drop (D.flats (l'.take j)).length).drop dy.flat.length)
     (by simp only[zsa]) (by rw[<-q3.1];exact ci _ _ wy hn) q3.nag w'
    rw[o1,<-hcell] at r1;rw[o2,<-hcell] at r2;have r3:=oD t u dx dy _ _ v1 v2 d h2 hc (by omega) wx wy p3 q3 i1 i2 w'
    simp only[Op.eqItems,zha,r1,r2,r3,zea,zIb];have e1':l[j]?.getD (.bool false)=dx:=by rw[e1];rfl
    have e2':l'[j]?.getD (.bool false)=dy:=by rw[e2];rfl
    have ih':=ih w' (λk hk=>hj k (by simp[hk]))
    simp only[List.getD,e1',e2'];cases D.beq dx dy
    ·simp
    ·simpa [List.getD] using ih'
  exact key _ w' (λj hj=>by simpa using hj)
 | .str,_,_,_,_,_,_,_,_,_,hc,_,_,_,_,_,_,_,_=>by simp[bM] at hc
 | .sl _,_,_,_,_,_,_,_,_,_,hc,_,_,_,_,_,_,_,_=>by simp[bM] at hc
 | .tup _,_,_,_,_,_,_,_,_,_,hc,_,_,_,_,_,_,_,_=>by simp[bM] at hc
 | .fn,_,_,_,_,_,_,_,_,_,hc,_,_,_,_,_,_,_,_=>by simp[bM] at hc
theorem q8:∀ (ts:List Ty) (fs:List Field) (off:Nat) (l l':List D) (px cx py cy:List Value) (xs ys:Array Value) (d:Nat),fG P ts fs off=true->lv ts=true->Ty.highs ts<=d->eO ts l->eO ts l'->cN w S (D.flats l) cx->cN w S (D.flats l') cy ->
  xs.toList=px++cx->px.length=off->ys.toList=py++cy->py.length=off->∀ w',(Op.eqFields d xs ys fs).run P w'=.ok (D.beqs l l') w'
 | [],fs,off,l,l',px,cx,py,cy,xs,ys,d,hf,_,_,hx,hy,_,_,_,_,_,_,w'=>by
  simp only[eO] at hx hy;subst hx;subst hy;cases fs with
  | nil=>simp[Op.eqFields,D.beqs]
  | cons f fs=>simp[fG] at hf
 | t::ts,[],off,l,l',px,cx,py,cy,xs,ys,d,hf,_,_,hx,hy,_,_,_,_,_,_,w'=>by simp[fG] at hf
 | t::ts,f::fs,off,l,l',px,cx,py,cy,xs,ys,d,hf,hc,hd,hx,hy,rx,ry,ex,lx,ey,ly,w'=>by
  simp only[fG,zaa,decide_eq_true_eq] at hf;obtain⟨⟨⟨⟨h1,h2⟩,h3⟩,h4⟩,h5⟩:=hf;simp only[eO] at hx hy;obtain⟨dx,l,rfl,hx1,hx2⟩:=hx;obtain⟨dy,l',rfl,hy1,hy2⟩:=hy;simp only[D.flats] at rx ry;obtain⟨p3,p4⟩:=rx.split;obtain⟨q3,q4⟩:=ry.split;have hn:=aH _ _ h4;simp only[lv,zaa] at hc;simp only[Ty.highs] at hd;obtain⟨v1,r1,i1⟩:=gF h4 (cs:=xs) (pre:=px) (mid:=cx.take dx.flat.length) (post:=cx.drop dx.flat.length) (by rw[ex,zsa]) (by rw[<-p3.1];exact ci _ _ hx1 hn) p3.nag w'
  obtain⟨v2,r2,i2⟩:=gF h4 (cs:=ys) (pre:=py) (mid:=cy.take dy.flat.length) (post:=cy.drop dy.flat.length) (by rw[ey,zsa]) (by rw[<-q3.1];exact ci _ _ hy1 hn) q3.nag w'
  rw[lx,<-h1] at r1;rw[ly,<-h1] at r2;have r3:=oD t f.type dx dy _ _ v1 v2 d h4 hc.1 (by omega) hx1 hy1 p3 q3 i1 i2 w'
  have hs1:(cx.take dx.flat.length).length=t.size:=by rw[<-p3.1];exact ci _ _ hx1 hn
  have hs2:(cy.take dy.flat.length).length=t.size:=by rw[<-q3.1];exact ci _ _ hy1 hn
  have ih:=q8 ts fs (off+t.size) l l' (px++cx.take dx.flat.length) (cx.drop dx.flat.length) (py++cy.take dy.flat.length) (cy.drop dy.flat.length) xs ys d h5 hc.2 (by omega) hx2 hy2 p4 q4
   (by rw[zCa,zsa];exact ex) (by rw[zja,lx,hs1]) (by rw[zCa,zsa];exact ey) (by rw[zja,ly,hs2]) w'
  simp only[Op.eqFields,h2,ne_eq,not_false_eq_true,if_true,zha,r1,r2,r3,zea,D.beqs];cases D.beq dx dy
  ·simp
  ·simpa using ih
end
def GN(O:EnvOk P E)(h:Rp w0 S γ β s a w){dst op T x y T' ty pos after guard}:jd P E w0 S γ β s a w ⟨dst,.binOp op T x y T',ty,pos,after,guard⟩:=by
 intro R K r hq;simp only[qv] at hq;replace hq:=bind_some_inv hq;obtain⟨t,Q,hq⟩:=hq;replace hq:=bind_some_inv hq;obtain⟨u,hu,hq⟩:=hq;replace hq:=bind_some_inv hq;obtain⟨v,V,hq⟩:=hq;have hx:=aR h x;have l:=aR h y;rw[dG hu] at hx;rw[dG V] at l;have C:∀ (L:Bool),(u.1.beq t&&v.1.beq t&&bM t)=true->∀ (o:BinOp),(o=.eql/\L=false)\/(o=.neq/\L=true) ->
   (execOp a.eval ⟨dst,.binOp o T x y T',ty,pos,after,guard⟩).run P w=.ok (.value (.bool (xor L (D.beq u.2 v.2)))) w:=by
  intro L q o J;simp only[zaa] at q;obtain⟨⟨h1,j⟩,p⟩:=q;have H:=Ty.eq_of_beq _ _ h1;have I:=Ty.eq_of_beq _ _ j;rw[H] at hx;rw[I] at l;have hl:bF P t T=true:=by
   rcases O.lay T _ Q with⟨W,rfl⟩|hl
   ·simp[bM] at p
   ·exact hl
  have hn:=aH _ _ hl;obtain⟨A,B⟩:=yr hx hn;obtain⟨m1,m2⟩:=yr l hn;have X:=O.high T _ Q;have i1:fS t (a.eval x).cells.toList (a.eval x):=⟨rfl,nY A hn B.1⟩;have i2:fS t (a.eval y).cells.toList (a.eval y):=⟨rfl,nY m1 hn m2.1⟩;have g:=oD t T u.2 v.2 _ _ _ _ 10000 hl p (by omega) A m1 B.2 m2.2 i1 i2 w
  cases t<;>simp only[bM] at p<;>first|cases p|skip
  case int k=>
   simp only[wt] at A m1;obtain⟨n,b⟩:=A;obtain⟨m,f⟩:=m1;rw[b] at B hx ⊢;rw[f] at m2 l ⊢;have v1:=B.int_inv;have v2:=m2.int_inv;rcases J with⟨rfl,rfl⟩|⟨rfl,rfl⟩
   ·simp only[execOp,v1,v2,zha,eZ,zea];simp[binOp,Op.intCmp,D.beq];rfl
   ·simp only[execOp,v1,v2,zha,eZ,zea];simp[binOp,Op.intCmp,D.beq];rfl
  case bool=>
   simp only[wt] at A m1;obtain⟨n,b⟩:=A;obtain⟨m,f⟩:=m1;rw[b] at B hx g ⊢;rw[f] at m2 l g ⊢;have v1:=B.bool_inv;have v2:=m2.bool_inv;rw[v1,v2] at g;rcases J with⟨rfl,rfl⟩|⟨rfl,rfl⟩
   ·simp only[execOp,v1,v2,zha,jZ,zea,binOp,Op.equal,Op.maxDepth,g,zna,zAd]
   ·simp only[execOp,v1,v2,zha,jZ,zea,binOp,Op.equal,Op.maxDepth,g,zna,Bool.true_xor]
  case st ts=>
   obtain⟨xs,b⟩:=i1.2.1 rfl;obtain⟨G,f⟩:=i2.2.1 rfl;have F:P.eqGuardType P.depth T=false:=by simp only[bF,zaa,zGa] at hl;exact hl.1.2
   rw[b,f] at g;rcases J with⟨rfl,rfl⟩|⟨rfl,rfl⟩
   ·simp only[execOp,b,f,zha,run_eqGuard_agg w _ T x y xs G F,zea,binOp,Op.equal,Op.maxDepth,g,zna,zAd]
   ·simp only[execOp,b,f,zha,run_eqGuard_agg w _ T x y xs G F,zea,binOp,Op.equal,Op.maxDepth,g,zna,Bool.true_xor]
  case arr n e=>
   obtain⟨xs,b⟩:=i1.2.1 rfl;obtain⟨G,f⟩:=i2.2.1 rfl;have F:P.eqGuardType P.depth T=false:=by simp only[bF,zaa,zGa] at hl;exact hl.1.2
   rw[b,f] at g;rcases J with⟨rfl,rfl⟩|⟨rfl,rfl⟩
   ·simp only[execOp,b,f,zha,run_eqGuard_agg w _ T x y xs G F,zea,binOp,Op.equal,Op.maxDepth,g,zna,zAd]
   ·simp only[execOp,b,f,zha,run_eqGuard_agg w _ T x y xs G F,zea,binOp,Op.equal,Op.maxDepth,g,zna,Bool.true_xor]
 have ints:∀ {z:D} {o:BinOp},D.bin o u.2 v.2=some z->∃ k U n m,u.2=.int k n/\v.2=.int U m:=by
  intro z o i;cases N:u.2<;>rw[N] at i<;>cases hv2:v.2<;>rw[hv2] at i<;>simp only[D.bin] at i<;>first|cases i|skip
  exact⟨_,_,_,_,rfl,rfl⟩
 have main:∀ (o:BinOp) {z:D},D.bin o u.2 v.2=some z->∃ M,(execOp a.eval ⟨dst,.binOp o T x y T',ty,pos,after,guard⟩).run P w=.ok (.value M) w ∧
   ((B7 o=true->AR ⟨w,S,γ,β,s.ob,s.dead⟩ (.d .bool z) M)/\(B7 o=false->AR ⟨w,S,γ,β,s.ob,s.dead⟩ (.d u.1 z) M)):=by
  intro o z i;obtain⟨k,U,n,m,H,I⟩:=ints i;rw[H,I] at i;rw[H] at hx;rw[I] at l;obtain⟨v1,t1⟩:=eH hx;obtain⟨v2,_⟩:=eH l;rcases Jf (P:=P) T w i with⟨h1,c,rfl,j⟩|⟨h1,c,rfl,j⟩
  ·refine⟨.bool c,by simp only[execOp,v1,v2,zha,eZ,zea,j,zna],λ_=>fT c,λh=>by rw[h1] at h;cases h⟩
  ·refine⟨.int k c,by simp only[execOp,v1,v2,zha,eZ,zea,j,zna],(λh=>by rw[h1] at h;cases h),λ_=>by rw[t1];exact cB k c⟩
 cases op<;>simp only at hq
 case eql=>
  split at hq<;>first|cases hq|skip
  rename_i q;exact⟨_,hq,.value (C false q .eql (.inl ⟨rfl,rfl⟩)) (Qp.same h (by simp only[zAd];exact fT _) _)⟩
 case neq=>
  split at hq<;>first|cases hq|skip
  rename_i q;exact⟨_,hq,.value (C true q .neq (.inr ⟨rfl,rfl⟩)) (Qp.same h (by simp only[Bool.true_xor];exact fT _) _)⟩
 all_goals
  replace hq:=bind_some_inv hq;obtain⟨z,i,hq⟩:=hq;obtain⟨M,h1,j,p⟩:=main _ i;first
   | exact⟨_,hq,.value h1 (Qp.same h (j rfl) _)⟩
   | exact⟨_,hq,.value h1 (Qp.same h (p rfl) _)⟩
def Kb(h:Rp w0 S γ β s a w){dst op T x ty pos after guard}:jd P E w0 S γ β s a w ⟨dst,.unOp op T x,ty,pos,after,guard⟩:=by
 intro R K r hq;simp only[qv] at hq;replace hq:=bind_some_inv hq;obtain⟨u,hu,hq⟩:=hq;replace hq:=bind_some_inv hq;obtain⟨z,d,hq⟩:=hq;have hx:=aR h x;rw[dG hu] at hx;cases hu2:u.2<;>rw[hu2] at d hx<;>simp only[D.un] at d<;>first|cases d|skip
 case int k n=>
  obtain⟨v1,t1⟩:=eH hx;cases op<;>simp only[D.bitOp] at d<;>first|cases d|skip
  ·exact⟨_,hq,.value (v:=.int k (k.wrap (0-n))) (w':=w) (by simp[execOp,v1,Op.unary,Op.intArith]) (Qp.same h (by rw[t1];exact cB _ _) _)⟩
  ·exact⟨_,hq,.value (v:=.int k (k.wrap (BitVec.ofInt k.bits (if k.signed then -1 else k.max) ^^^ BitVec.ofInt k.bits n).toNat)) (w':=w) (by simp[execOp,v1,Op.unary,Op.intBits]) (Qp.same h (by rw[t1];exact cB _ _) _)⟩
 case bool b=>
  have v1:=BF hx;cases op<;>simp only at d<;>first|cases d|skip
  have f:u.1=.bool:=by
   simp only[AR] at hx;rcases hx with⟨_,c,_⟩|⟨g,h1,_,c,_⟩
   ·cases hu1:u.1<;>rw[hu1] at c<;>simp only[wt] at c<;>first
     | rfl
     | (obtain⟨m,e⟩:=c;cases e;done)
     | (obtain⟨m,e,_⟩:=c;cases e;done)
     | (exfalso;exact c)
   ·rw[h1] at c;simp only[wt] at c;obtain⟨l,e,_⟩:=c;cases e
  exact⟨_,hq,.value (v:=.bool (!b)) (w':=w) (by simp[execOp,v1,Op.unary]) (Qp.same h (by rw[f];exact fT _) _)⟩
def Bi(i:EnvOk P E)(h:Rp w0 S γ β s a w){dst U T x ty pos after guard}:jd P E w0 S γ β s a w ⟨dst,.convert U T x,ty,pos,after,guard⟩:=by
 intro R K r hq;simp only[qv] at hq;replace hq:=bind_some_inv hq;obtain⟨u,hu,hq⟩:=hq;replace hq:=bind_some_inv hq;obtain⟨t,l,hq⟩:=hq;replace hq:=bind_some_inv hq;obtain⟨b,j,hq⟩:=hq;have hx:=aR h x;rw[dG j] at hx;cases t<;>(try simp only at hq)<;>first|cases hq|skip
 rename_i k;split at hq<;>first|cases hq|skip
 rename_i d;replace hq:=bind_some_inv hq;obtain⟨z,e,hq⟩:=hq;cases hb2:b.2<;>rw[hb2] at e hx<;>simp only[D.conv] at e<;>first|cases e|skip
 rename_i m n;obtain⟨v1,t1⟩:=eH hx;have g:=Ty.eq_of_beq _ _ d;rw[t1] at g;rw[<-g] at hu;rcases i.lay T _ l with⟨f,c⟩|hl
 ·cases c
 rcases i.lay U _ hu with⟨f,c⟩|hl'
 ·cases c
 exact⟨_,hq,.value (v:=.int k (k.wrap n)) (w':=w) (by simp[execOp,convert,v1,run_underlying (jp hl),run_underlying (jp hl'),Conv.intToInt]) (Qp.same h (cB _ _) _)⟩
end
end Sy
end
noncomputable section
namespace Sy
open Go
def gG(pre mid post cs:List Value)(h:mid.length=cs.length):dF (pre++(mid++post)).toArray pre.length cs.toArray=(pre++(cs++post)).toArray:=by
 unfold dF;apply zec;simp[h];rw[zVa (by omega)]
theorem nZ:∀ {a:List D} {c1 c2:List Value},cz a c1=true->cz a c2=true->c1=c2
 | [],[],[],_,_=>rfl
 | [],_::_,_,h,_=>by simp[cz] at h
 | [],[],_::_,_,h=>by simp[cz] at h
 | _::_,[],_,h,_=>by simp[cz] at h
 | _::_,_::_,[],_,h=>by simp[cz] at h
 | d::a,v1::c1,v2::c2,b,c=>by
  simp only[cz,zaa] at b c;rw[nZ b.2 c.2];congr 1;have a1:=b.1;have a2:=c.1;cases d<;>cases v1<;>simp only[Dv] at a1<;>first|(cases a1;done)|skip
  all_goals (cases v2<;>simp only[Dv] at a2<;>first|(cases a2;done)|skip)
  all_goals simp_all
section
variable{w:World}{S:Nat->Nat->Prop}
def PV(w:World)(S:Nat->Nat->Prop)(ty:Nat->Option Ty):List (Nat×D)->List (Nat×Value)->Prop
 | [],[]=>True
 | (i,x)::ps,(j,v)::vs=>i=j/\(∃ t,ty i=some t/\wt t x/\ao t=true/\fQ w S x v)/\PV w S ty ps vs
 | _,_=>False
theorem rW{place:Nat->Option (Nat×Nat)}{ty:Nat->Option Ty}{off:Nat->Nat}{Good:List D->Prop}
  (d:∀ l i t z,Good l->ty i=some t->wt t z->Good (l.set i z))
  (c:∀ l i t,Good l->ty i=some t->∃ y,l[i]?=some y/\wt t y/\(D.flats (l.take i)).length=off i)
  (a:∀ i t,ty i=some t->place i=some (off i,t.size)) :
  ∀ (ps:List (Nat×D)) (vs:List (Nat×Value)) (l:List D) (cs:List Value),Good l->cN w S (D.flats l) cs->PV w S ty ps vs ->
   ∃ b:List Value,kR place cs.toArray vs=some b.toArray/\Good (D.putParts l ps)/\cN w S (D.flats (D.putParts l ps)) b
 | [],[],l,cs,f,hc,_=>⟨cs,rfl,f,hc⟩
 | [],_::_,_,_,_,_,h=>by simp[PV] at h
 | _::_,[],_,_,_,_,h=>by simp[PV] at h
 | (i,x)::ps,(j,v)::vs,l,cs,f,hc,h=>by
  simp only[PV] at h;obtain⟨rfl,⟨t,h1,k,m,n⟩,u⟩:=h;obtain⟨y,o,A,B⟩:=c l i t f h1;rw[bZ o] at hc;obtain⟨c1,c2⟩:=hc.split;obtain⟨r,s⟩:=c2.split;have e:cs=cs.take (D.flats (l.take i)).length++((cs.drop (D.flats (l.take i)).length).take y.flat.length++(cs.drop (D.flats (l.take i)).length).drop y.flat.length):=by simp only[zsa]
  have p:(cs.take (D.flats (l.take i)).length).length=off i:=by rw[<-c1.1,B]
  have C:((cs.drop (D.flats (l.take i)).length).take y.flat.length).length=t.size:=by rw[<-r.1];exact ci _ _ A m
  have q:v.cells.toList.length=t.size:=by rw[<-n.2.1];exact ci _ _ k m
  have g:cN w S (D.flats (l.set i x)) (cs.take (D.flats (l.take i)).length++(v.cells.toList++(cs.drop (D.flats (l.take i)).length).drop y.flat.length)):=by
   rw[mD o];exact c1.append (n.2.append s)
  obtain⟨b,m1,m2,m3⟩:=rW d c a ps vs (l.set i x) _ (d l i t x f h1 k) g u;refine⟨b,?_,m2,m3⟩;rw[tf (a i t h1) (by rw[<-zFb];exact q) (by rw[<-p];have:=congrArg List.length e;simp only[zja] at this;simp only[zCc];omega),<-m1]
  congr 1
  conv=>lhs;rw[e]
  have:=gG (cs.take (D.flats (l.take i)).length) ((cs.drop (D.flats (l.take i)).length).take y.flat.length) ((cs.drop (D.flats (l.take i)).length).drop y.flat.length) v.cells.toList (by rw[C,q])
  rw[p] at this;simpa using this
end
section
variable{P:Program}{E:Env}{w0:Root}{S:Nat->Nat->Prop}{γ:Nat->Option Nat}{β:Nat->Option (Nat×Nat)}{s:St}{a:Act}{w:World}
theorem mK(h:Rp w0 S γ β s a w){ty:Nat->Option Ty}(hn:∀ i t,ty i=some t->ao t=true):∀ (ps:List (Nat×Operand)) (l:List (Nat×D)),partsD s.ob s ty ps=some l->PV w S ty l (ps.map λp=>(p.1,a.eval p.2))
 | [],l,hp=>by simp_all [partsD,zca,PV]
 | (i,x)::ps,l,hp=>by
  simp only[partsD] at hp;replace hp:=bind_some_inv hp;obtain⟨t,b,hp⟩:=hp;replace hp:=bind_some_inv hp;obtain⟨y,d,hp⟩:=hp;replace hp:=bind_some_inv hp;obtain⟨g,c,hp⟩:=hp;simp only[zca] at hp;subst hp;obtain⟨e,f⟩:=nv (hn i t b) (aR h x) d;simp only[zWa,PV];exact⟨trivial,⟨t,b,e,hn i t b,f⟩,mK h hn ps g c⟩
def jb{t:Ty}{T:TypeId}(hl:bF P t T=true):∃ z,(∀ w,(zeroValue T).run P w=.ok z w)/\cz (av t).flat z.cells.toList=true/\((∃ cs,z=.agg cs)↔cE t=true):=by
 obtain⟨i,z,h1,a,b,c,d,e⟩:=fe (ga hl)
 simp_all [zeroValue,typeInfo]
theorem ui:∀ {b:List Ty} {a:List Field} {off:Nat} (w:World),fG P b a off=true ->
  ((a.mapM λf=>do pure (f.offset,<-sizeOf f.type):Sem (List (Nat×Nat))).run P w=.ok (a.zipWith (λf t=>(f.offset,Ty.size t)) b) w)
 | [],[],_,w,_=>rfl
 | [],_::_,_,_,h=>by simp[fG] at h
 | _::_,[],_,_,h=>by simp[fG] at h
 | t::b,f::a,off,w,h=>by
  simp only[fG,zaa,decide_eq_true_eq] at h;obtain⟨⟨⟨⟨h1,e⟩,g⟩,c⟩,d⟩:=h;simp only[zXc,zha,bX c,zea,zna,ui w d,List.zipWith_cons_cons]
def D5:∀ {a:List Ty} {b:List Field} {off i:Nat} {t:Ty},fG P a b off=true->a[i]?=some t->(b.zipWith (λf t=>(f.offset,Ty.size t)) a)[i]?=some (off+Ty.sizes (a.take i),t.size)
 | a,b,off,i,t,h,c=>by
  obtain⟨f,h1,d,_⟩:=rX h c;grind
def oY{T:TypeId}{a:List Ty}(hl:bF P (.st a) T=true)(vs:Array (Nat×Value))(w:World){r:List Value}
  (e:∀ z:Value,cz (av (.st a)).flat z.cells.toList=true->kR (λi=>if i<a.length then some (Ty.sizes (a.take i),(a.getD i .bool).size) else none) z.cells vs.toList=some r.toArray) :
  (Instr.build T vs).run P w=.ok (.agg r.toArray) w:=by
 obtain⟨b,h1,d⟩:=iM hl;obtain⟨z,j,c,_⟩:=jb hl;have hlen:(b.toList.zipWith (λf t=>(f.offset,Ty.size t)) a).length=a.length:=by
  have:∀ {a:List Ty} {b:List Field} {off:Nat},fG P a b off=true->b.length=a.length:=by
   intro a
   induction a with
   | nil=>intro b off h;cases b<;>simp[fG] at h ⊢
   | cons t a ih=>intro b off h;cases b with
    | nil=>simp[fG] at h
    | cons f b=>simp only[fG,zaa] at h;simp[ih h.2]
  grind
 have hp:(λi=>(b.toList.zipWith (λf t=>(f.offset,Ty.size t)) a).toArray[i]?)=λi=>if i<a.length then some (Ty.sizes (a.take i),(a.getD i .bool).size) else none:=by
  funext i;by_cases g:i<a.length
  ·have:=D5 (i:=i) d (zda g)
   simp_all
  ·simp_all
 have hm:(b.mapM λf=>(do pure (f.offset,<-sizeOf f.type):Sem (Nat×Nat))).run P w=.ok (b.toList.zipWith (λf t=>(f.offset,Ty.size t)) a).toArray w:=by
  rw[<-z9b (xs:=b),List.mapM_toArray];simp only[Sem.run_map,ui w d,zea]
 simp only[Instr.build,zha,j,zea,run_underlying h1,hm,hp,oG,e z c,zna]
def kT(n:Nat)(x:D):D.flats (List.replicate n x)=(List.replicate n x.flat).flatten:=by
 induction n with
 | zero=>rfl
 | succ n ih=>simp only[List.replicate_succ,D.flats,ih,List.flatten_cons]
def KE(c:Cx)(a:List Ty):List (Nat×AV)->List (Nat×Value)->Prop
 | [],[]=>True
 | (i,x)::ps,(j,v)::vs=>i=j/\(∃ t,a[i]?=some t/\AV.fits t x=true/\AC c x v.cells.toList)/\KE c a ps vs
 | _,_=>False
theorem yU{c:Cx}{b:List Ty}(hn:bh b=true) :
  ∀ (ps:List (Nat×AV)) (vs:List (Nat×Value)) (l:List AV) (cs:List Value),AV.fitss b l=true->kh c l cs->KE c b ps vs ->
   ∃ a:List Value,kR (λi=>if i<b.length then some (Ty.sizes (b.take i),(b.getD i .bool).size) else none) cs.toArray vs=some a.toArray/\AV.fitss b (mL l ps)=true/\kh c (mL l ps) a
 | [],[],l,cs,d,hc,_=>⟨cs,rfl,d,hc⟩
 | [],_::_,_,_,_,_,h=>by simp[KE] at h
 | _::_,[],_,_,_,_,h=>by simp[KE] at h
 | (i,x)::ps,(j,v)::vs,l,cs,d,hc,h=>by
  simp only[KE] at h;obtain⟨rfl,⟨t,h1,e,f⟩,k⟩:=h;obtain⟨y,n,o⟩:=tj d h1;obtain⟨pre,mid,post,rfl,m1,m2,m3⟩:=rP d hn hc n;have p:=(gJ _ _ _ o m2).1;have g:=(gJ _ _ _ e f).1;obtain⟨a,q,r,s⟩:=yU hn ps vs (l.set i x) _ (mB d h1 e) (m3 x _ f) k;refine⟨a,?_,r,s⟩;have m:=(zka.1 h1).1;rw[tf (off:=Ty.sizes (b.take i)) (size:=t.size) (by rw[if_pos m];simp[List.getD,h1]) (by rw[<-zFb];exact g) (by simp;omega),<-q]
  congr 1;have:=gG pre mid post v.cells.toList (by rw[p,g])
  simp_all
def GO(L:EnvOk P E)(h:Rp w0 S γ β s a w){dst T ps ty pos after guard}:jd P E w0 S γ β s a w ⟨dst,.build T ps,ty,pos,after,guard⟩:=by
 intro R K r hq;simp only[qv] at hq;replace hq:=bind_some_inv hq;obtain⟨t,M,hq⟩:=hq;have hex:execOp a.eval ⟨dst,.build T ps,ty,pos,after,guard⟩=(Instr.build T (ps.map λp=>(p.1,a.eval p.2)) >>= λv=>pure (.value v)):=rfl;have o:(ps.map λp=>(p.1,a.eval p.2)).toList=ps.toList.map λp=>(p.1,a.eval p.2):=by simp
 cases t<;>(try simp only at hq)<;>first|cases hq|skip
 case st ts=>
  rcases L.lay T _ M with⟨J,q⟩|hl
  ·cases q
  have hn:=aH _ _ hl;simp only[ao] at hn;split at hq
  ·rename_i N;split at hq<;>first|cases hq|skip
   rename_i A;have j:∀ (l:List (Nat×Operand)),l.all (fF s ts)=true->KE ⟨w,S,γ,β,s.ob,s.dead⟩ ts (l.map λp=>(p.1,s.opA p.2)) (l.map λp=>(p.1,a.eval p.2)):=by
    intro l
    induction l with
    | nil=>intro _;simp[KE]
    | cons p l ih=>
     intro G;simp only[zIb,zaa] at G;simp only[zWa,KE];refine⟨trivial,?_,ih G.2⟩;have h1:=G.1;unfold fF at h1;split at h1<;>first|cases h1|skip
     rename_i u hu;exact⟨u,hu,h1,(yq h1 (bN hn hu) (aR h p.2)).1⟩
   obtain⟨z,k,f,_⟩:=jb hl;have I:kh ⟨w,S,γ,β,s.ob,s.dead⟩ (jE ts) z.cells.toList:=kN ts _ hn (by simpa [av,D.flat] using f)
   obtain⟨b,m1,m2,m3⟩:=yU hn _ _ _ _ (jv ts hn) I (j ps.toList A);have d:(Instr.build T (ps.map λp=>(p.1,a.eval p.2))).run P w=.ok (.agg b.toArray) w:=by
    obtain⟨Q,h1,C⟩:=iM hl;refine oY hl _ w (r:=b) λF m=>?_;have O:kh ⟨w,S,γ,β,s.ob,s.dead⟩ (jE ts) F.cells.toList:=kN ts _ hn (by simpa [av,D.flat] using m)
    have:F.cells=z.cells:=zec (nZ m f)
    simp_all
   exact⟨_,hq,.value (v:=.agg b.toArray) (w':=w) (by rw[hex];simp only[zha,d,zea,zna]) (Qp.same h (by
    simp only[AR];exact⟨⟨_,rfl⟩,by simp only[AC];exact⟨hn,m2,by simpa [Value.cells] using m3⟩⟩) _)⟩
  ·replace hq:=bind_some_inv hq;obtain⟨l,hp,hq⟩:=hq;have j:=mK h (ty:=λi=>ts[i]?) (λi t c=>bN hn c) _ _ hp;have main:∀ z:Value,cz (av (.st ts)).flat z.cells.toList=true->∃ b:List Value,kR (λi=>if i<ts.length then some (Ty.sizes (ts.take i),(ts.getD i .bool).size) else none) z.cells (ps.toList.map λp=>(p.1,a.eval p.2))=some b.toArray/\eO ts (D.putParts (fP ts) l)/\cN w S (D.flats (D.putParts (fP ts) l)) b:=by
    intro z k;refine rW (ty:=λi=>ts[i]?) (off:=λi=>Ty.sizes (ts.take i)) (Good:=λl=>eO ts l) (λl i t z g c k=>yl g c k) (λl i t g c=>?_) (λi t c=>?_) l _ (fP ts) z.cells.toList (n7 ts hn) (cl (by simpa [av,D.flat] using k)) j
    ·obtain⟨y,h1,C⟩:=gr g c;exact⟨y,h1,C,pA _ _ (pB i g) (gD i hn)⟩
    ·rw[if_pos (zka.1 c).1];simp only[List.getD,c,zGb]
   obtain⟨z,k,f,_⟩:=jb hl;obtain⟨b,m1,m2,m3⟩:=main z f;have d:(Instr.build T (ps.map λp=>(p.1,a.eval p.2))).run P w=.ok (.agg b.toArray) w:=by
    refine oY hl _ w (r:=b) λF m=>?_;have:F.cells=z.cells:=zec (nZ m f);rw[this,o,<-m1]
   have hw:wt (.st ts) (.st (D.putParts (fP ts) l)):=by simp only[wt];exact⟨_,rfl,m2⟩
   exact⟨_,hq,.value (v:=.agg b.toArray) (w':=w) (by rw[hex];simp only[zha,d,zea,zna]) (Qp.same h (de (by simpa [ao] using hn) hw ⟨⟨_,rfl⟩,by simpa [Value.cells,D.flat] using m3⟩) _)⟩
 case arr n e=>
  rcases L.lay T _ M with⟨J,q⟩|hl
  ·cases q
  have hn:=aH _ _ hl;simp only[ao] at hn;replace hq:=bind_some_inv hq;obtain⟨l,hp,hq⟩:=hq;have j:=mK h (ty:=λi=>if i<n then some e else none) (λi t c=>by split at c<;>first|(cases c;exact hn)|cases c) _ _ hp
  have main:∀ z:Value,cz (av (.arr n e)).flat z.cells.toList=true->∃ b:List Value,kR (λi=>some (i*e.size,e.size)) z.cells (ps.toList.map λp=>(p.1,a.eval p.2))=some b.toArray/\((D.putParts (List.replicate n (av e)) l).length=n/\∀ x∈D.putParts (List.replicate n (av e)) l,wt e x)/\cN w S (D.flats (D.putParts (List.replicate n (av e)) l)) b:=by
   intro z k;refine rW (ty:=λi=>if i<n then some e else none) (off:=λi=>i*e.size) (Good:=λl=>l.length=n/\∀ x∈l,wt e x) (λl i t z g c k=>?_) (λl i t g c=>?_) (λi t c=>?_) l _ (List.replicate n (av e)) z.cells.toList ⟨by simp,λx hx=>by rw[(zdd.1 hx).2];exact cL e hn⟩ (cl (by simpa [av,D.flat] using k)) j
   ·split at c<;>first|cases c|skip
    refine⟨by simpa using g.1,λx hx=>?_⟩
    rcases zKc hx with h|h
    ·exact g.2 x h
    ·rw[h];exact k
   ·split at c<;>first|cases c|skip
    rename_i H;have B:i<l.length:=by rw[g.1];exact H
    refine⟨l[i],zda B,g.2 _ (zva B),?_⟩;rw[aE hn _ (λx hx=>g.2 x (zEa hx)),zYa,zlb (by omega)]
   ·split at c<;>first|cases c|skip
    rfl
  obtain⟨z,k,f,_⟩:=jb hl;obtain⟨b,m1,m2,m3⟩:=main z f;have d:(Instr.build T (ps.map λp=>(p.1,a.eval p.2))).run P w=.ok (.agg b.toArray) w:=by
   obtain⟨u,h1,C⟩:=dH hl;simp only[Instr.build,zha,k,zea,run_underlying h1,bX C,oG,o,m1,zna]
  have hw:wt (.arr n e) (.st (D.putParts (List.replicate n (av e)) l)):=by simp only[wt];exact⟨_,rfl,m2⟩
  exact⟨_,hq,.value (v:=.agg b.toArray) (w':=w) (by rw[hex];simp only[zha,d,zea,zna]) (Qp.same h (de (by simpa [ao] using hn) hw ⟨⟨_,rfl⟩,by simpa [Value.cells,D.flat] using m3⟩) _)⟩
def Bj(h:Rp w0 S γ β s a w){dst x i ty pos after guard}:jd P E w0 S γ β s a w ⟨dst,.extract x i,ty,pos,after,guard⟩:=by
 intro R K r hq;simp only[qv] at hq;have hx:=aR h x;generalize s.opA x=y at *;split at hq<;>first|cases hq|skip
 rename_i q z;replace hq:=bind_some_inv hq;obtain⟨u,hu,hq⟩:=hq;replace hq:=bind_some_inv hq;obtain⟨p,d,hq⟩:=hq;simp only[AR] at hx;rcases hx with⟨h1,_⟩|⟨o,e,hn,f,g⟩
 ·simp[ao] at h1
 ·cases e;simp only[wt] at f;obtain⟨l,rfl,hw⟩:=f;simp only[D.tupAt] at d;simp only[DR] at g;obtain⟨vs,m,hlen,c⟩:=g;have j:i<vs.length:=by grind
  obtain⟨z2,k,n⟩:=gr hw hu;rw[d] at k;cases k;have b:=c i p vs[i] d (zda j);exact⟨_,hq,.value (v:=vs[i]) (w':=w) (by simp[execOp,Instr.extract,m,j]) (Qp.same h (de (bN hn hu) n b) _)⟩
def zQ(h:Rp w0 S γ β s a w){dst fn first captured ty pos after guard}:jd P E w0 S γ β s a w ⟨dst,.makeFunc fn first captured,ty,pos,after,guard⟩:=by
 intro R K r hq;simp only[qv] at hq;split at hq<;>first|cases hq|skip
 rename_i f;split at hq<;>first|cases hq|skip
 rename_i g;have e:first=#[]:=Array.eq_empty_of_size_eq_zero g.1
 refine⟨_,hq,.value (v:=.func (.func f) #[] (captured.map a.eval)) (w':=w) (by simp[execOp,Instr.makeFunc,e]) (Qp.same h ?_ _)⟩
 simp only[AR,AC];refine⟨by simp,(captured.toList.map a.eval),by rw[show captured.map a.eval=(captured.toList.map a.eval).toArray from zec (by simp)];simp[Value.cells],?_⟩
 have b:=g.2;clear g hq;generalize captured.toList=l at *
 induction l with
 | nil=>simp[nc]
 | cons x l ih=>
  simp only[zIb,zaa] at b;simp only[zWa,nc];refine⟨_,_,rfl,?_,ih b.2⟩;have c:=b.1;have d:=aR h x;cases hx:s.opA x<;>rw[hx] at c d<;>simp only[fl] at c<;>first|(cases c;done)|skip
  simp only[AR] at d;obtain⟨i,j⟩:=d
  simp_all [Value.cells]
end
end Sy
end
noncomputable section
namespace Sy
open Go
theorem fR{α:Type}(l:List α):∀ (n i:Nat),i<n*l.length->((List.replicate n l).flatten)[i]?=l[i%l.length]?
 | 0,i,h=>by omega
 | n+1,i,h=>by
  rw[List.replicate_succ,List.flatten_cons,zIc];by_cases hi:i<l.length
  ·simp_all [zPa]
  ·rw[if_neg hi,fR l n (i-l.length) (by rw[z8a] at h;omega)]
   rw[<-Nat.mod_eq_sub_mod (by omega)]
def wO{w:World}{S:Nat->Nat->Prop}{e:Ty}{a:Array Value}{m:Nat}(k:cz (av e).flat a.toList=true)(g:a.size=m)(n:Nat) :
  cN w S (D.flats (List.replicate n (av e))) ((Array.range (n*m)).map λi=>a[i%a.size]!).toList:=by
 have h0:=cl (w:=w) (S:=S) k;have hl:(av e).flat.length=m:=by rw[h0.1];simpa using g
 refine⟨by rw[kT];simp[hl],λi d c b hc=>?_⟩
 rw[kT] at b;have j:i<n*m:=by have:=(zka.1 hc).1;simpa using this
 rw[fR _ _ _ (by rw[hl];exact j),hl] at b
 have hm:0<m:=by
  rcases zwb m with h|h
  ·subst h;omega
  ·exact h
 have f:i%m<a.size:=by rw[g];exact zRa _ hm
 refine h0.2 (i%m) d c b ?_;simp only[Array.toList_map,zbb,Array.toList_range,z8c j,zkb,zca] at hc;rw[<-hc,g];simp[f]
section
variable{P:Program}{E:Env}{w0:Root}{S:Nat->Nat->Prop}{γ:Nat->Option Nat}{β:Nat->Option (Nat×Nat)}{s:St}{a:Act}{w:World}
def mN{c:Array Value}{t:TypeId}:bH (grown w [.cells c t] w.drawn) w.heap.size=some c:=by
 rw[<-db];exact ud w _ rfl
def zZ{c:Array Value}{t:TypeId}{d:Nat}:bH (grown w [.cells c t] d) w.heap.size=some c:=by
 have:=mN (w:=w) (c:=c) (t:=t);rw[show bH (grown w [.cells c t] d) w.heap.size=bH (grown w [.cells c t] w.drawn) w.heap.size from rfl];exact this
def Dr{c:Array Value}{t:TypeId}{d:Nat}(j:Nat):(grown w [.cells c t] d).cell? ⟨w.heap.size,j,none⟩=c[j]?:=cell_of_row _ zZ j
def xF(h:Rp w0 S γ β s a w){v:Nat}(F:β v=none)(t:v<s.base+4096){e:Ty}(hn:ao e=true){l:List D}(hl:∀ x∈l,wt e x){cs:List Value}(hc:cN w S (D.flats l) cs){T:TypeId}{rest:List Value}{cap:Nat}(d:Nat)(r:w.drawn<=d)(j:l.length<=cap)(y:cs.length+rest.length=cap*e.size) :
  ∃ S' β',Rp w0 S' γ β' s a (grown w [.cells (cs++rest).toArray T] d)/\AR ⟨grown w [.cells (cs++rest).toArray T] d,S',γ,β',s.ob,s.dead⟩ (.own e v l) (.slice (some ⟨w.heap.size,0,none⟩) l.length cap) ∧
   (∀ b o,S b o->S' b o)/\(∀ u,u≠v->β' u=β u)/\β' v=some (w.heap.size,l.length*e.size)/\(∀ b o,S' b o->S b o\/b=w.heap.size):=by
 let S':Nat->Nat->Prop:=λb o=>S b o\/(b=w.heap.size/\o<l.length*e.size)
 have q:∀ b o,S' b o->S b o\/(w.heap.size<=b/\b<(grown w [.cells (cs++rest).toArray T] d).heap.size):=λb o g=>by
  rcases g with g|⟨rfl,_⟩
  ·exact .inl g
  ·exact .inr ⟨zfa _,by simp⟩
 obtain⟨h1,m⟩:=h.grow (os:=[.cells (cs++rest).toArray T]) (d:=d) r (S':=S') (λb o g=>.inl g) q;have z:¬ w0.Old w.heap.size:=λA=>by have:=A.1;have:=h.ext.sz;omega
 obtain⟨B,G⟩:=h1.newTok (v:=v) (b:=w.heap.size) (e:=l.length*e.size) F z (by simp) (λid hid=>by have:=(h.γn id _ hid).2;omega) (λu f hu C=>by have:=(h.βn u _ _ hu C).2.1;omega) t
  (λo A p=>p.elim (λp=>by have:=h.Sb _ _ p;omega) λp=>by omega)
 refine⟨S',nX β v (w.heap.size,l.length*e.size),B,?_,λb o g=>.inl g,λu hu=>bO β _ hu,bA β _ _,λb o g=>g.imp id λE=>E.1⟩;have hlen:cs.length=l.length*e.size:=by rw[<-hc.1];exact aE hn l hl
 simp only[AR,AC,Value.cells];refine⟨by simp,hn,hl,_,cap,rfl,?_,λ_=>.inr ⟨w.heap.size,0,rfl,by simp[bA],(cs++rest).length,?_,?_⟩⟩
 ·refine CR.of_elems (b:=w.heap.size) (off:=0) (.inr rfl) j ⟨cs,hc.mono m.cell m.S,λi c k=>?_⟩;have t:=(zka.1 k).1;refine⟨.inr ⟨rfl,by omega⟩,?_⟩
  rw[Dr];simp only[zAc,z5a];rw[zeb t];exact k
 ·simp[lZ,zZ]
 ·simp;omega
def uU(N:EnvOk P E)(h:Rp w0 S γ β s a w){dst T n ps ty pos after guard}(Q:Fr E s γ β ⟨dst,.buildSlice T n ps,ty,pos,after,guard⟩):jd P E w0 S γ β s a w ⟨dst,.buildSlice T n ps,ty,pos,after,guard⟩:=by
 intro R K r hq;simp only[qv] at hq;replace hq:=bind_some_inv hq;obtain⟨t,W,hq⟩:=hq;cases t<;>(try simp only at hq)<;>first|(cases hq;done)|skip
 rename_i e;rcases N.lay T _ W with⟨ad,G⟩|hl
 ·cases G
 have hn:=aH _ _ hl;simp only[ao] at hn;split at hq<;>first|(cases hq;done)|skip
 rename_i C;replace hq:=bind_some_inv hq;obtain⟨d,M,hq⟩:=hq;replace hq:=bind_some_inv hq;obtain⟨l,hp,hq⟩:=hq;obtain⟨O,hγ,X,_⟩:=Q rfl d M;have F:=mK h (ty:=λi=>if i<n then some e else none) (λi t b=>by split at b<;>first|(cases b;exact hn)|cases b) _ _ hp
 obtain⟨u,h1,y⟩:=iK hl;obtain⟨z,H,o,_⟩:=jb y;obtain⟨i0,z0,U,V,mX,_⟩:=fe (ga y);have J:z.cells.size=e.size:=by
  have:=(cl (w:=w) (S:=S) o).1;rw[<-zFb,<-this];exact ci _ _ (cL e hn) hn
 have hzero:cN w S (D.flats (List.replicate n (av e))) ((Array.range (n*e.size)).map λi=>z.cells[i%z.cells.size]!).toList:=wO o J n;obtain⟨f,m1,m2,m3⟩:=rW (place:=λi=>some (i*e.size,e.size)) (ty:=λi=>if i<n then some e else none) (off:=λi=>i*e.size) (Good:=λl=>l.length=n/\∀ x∈l,wt e x) (λl i t z c b H=>by
   split at b<;>first|(cases b;done)|skip
   have:e=t:=by injection b
   subst this;refine⟨by simpa using c.1,λx hx=>?_⟩
   rcases zKc hx with h|h
   ·exact c.2 x h
   ·rw[h];exact H) (λl i t c b=>by
   split at b<;>first|(cases b;done)|skip
   rename_i B;have:e=t:=by injection b
   subst this;have g:i<l.length:=by rw[c.1];exact B
   refine⟨l[i],zda g,c.2 _ (zva g),?_⟩;rw[aE hn _ (λx hx=>c.2 x (zEa hx)),zYa,zlb (by omega)]) (λi t b=>by
   split at b<;>first|(cases b;done)|skip
   have:e=t:=by injection b
   subst this;rfl) l _ (List.replicate n (av e)) _ ⟨by simp,λx hx=>by rw[(zdd.1 hx).2];exact cL e hn⟩ hzero F
 obtain⟨S',β',Y,Z,k3,k4,k5,_⟩:=xF h (v:=s.base+d) X (by omega) hn m2.2 m3 (T:=u) (rest:=[]) (cap:=n) w.drawn (zfa _) (by rw[m2.1];exact zfa _) (by rw[zmb,zVb,<-m3.1,aE hn _ m2.2,m2.1])
 have m:¬ n*e.size>2^24:=by
  have:n*e.size<=4096*4096:=z1a C mX.2;omega
 have j:(ps.map λp=>(p.1,a.eval p.2)).toList=ps.toList.map λp=>(p.1,a.eval p.2):=by simp
 have k:(Instr.buildSlice T n (ps.map λp=>(p.1,a.eval p.2))).run P w=.ok (.slice (some ⟨w.heap.size,0,none⟩) n n) (grown w [.cells f.toArray u] w.drawn):=by
  have key:∀ q:Array Value,((Array.range (n*e.size)).map λi=>q[i%q.size]!)=((Array.range (n*e.size)).map λi=>z.cells[i%z.cells.size]!) ->
    kR (λi=>some (i*e.size,e.size)) ((Array.range (n*e.size)).map λi=>q[i%q.size]!) (ps.map λp=>(p.1,a.eval p.2)).toList=some f.toArray:=λq I=>by
   rw[I,j];rw[z9b] at m1;exact m1
  by_cases h0:n*e.size=0
  ·have L:=key #[] (by simp[h0])
   simp only[Instr.buildSlice,zha,run_underlying h1,zea,bX y,m,if_false,if_pos h0,pure_bind,oG,L,newRow,run_newObj,zna];rw[<-db];rfl
  ·have L:=key z.cells rfl;simp only[Instr.buildSlice,zha,run_underlying h1,zea,bX y,m,if_false,if_neg h0,bind_pure_comp,Sem.run_map,H,pure_bind,oG,L,newRow,run_newObj,zna];rw[<-db];rfl
 have hex:execOp a.eval ⟨dst,.buildSlice T n ps,ty,pos,after,guard⟩=(Instr.buildSlice T n (ps.map λp=>(p.1,a.eval p.2)) >>= λv=>pure (.value v)):=rfl;rw[ztb,m2.1] at *;refine⟨_,hq,.value (by rw[hex];simp only[zha,k,zea,zna]) ⟨S',γ,β',Y,Z,k3,⟨_,_,rfl⟩,λ_ _ A=>A,λid hid=>⟨rfl,k4 id λA=>?_⟩⟩⟩
 subst A;rcases hid with hid|hid
 ·rw[M] at hid;exact hid (by rw[zyb])
 ·omega
end
end Sy
end
end Go.Proofs.YtphlmegkommlnaaGreatDoor
