/- Part 2 of the proof that SweepChecksAsSpecified answers true at every input -/
import Derived.Test.YtmnkibhalflchaaGreatChek01
import Derived.ProofKit
import Derived.Deep.Slices
import Derived.OpenShut
import Derived.OrdersIn
import Derived.TacticsIn
import Derived.RangeFuncIn
import Derived.RangeFuncCalls
import Derived.Scope
import Derived.StillTail
import Derived.ChangeKeysEq
set_option linter.unusedVariables false
set_option linter.unusedSimpArgs false
set_option linter.unnecessarySimpa false
set_option linter.defProp false
set_option maxRecDepth 20000
namespace Go.Proofs.YtmnkibhalflchaaGreat
noncomputable section
namespace Sy
open Go
section
variable{H:Type}{enc:TypeId×Value->H}{P:Program}{W:World}{base:Nat}{spare:Nat->Bool}{held:Bool}
def pq(W:World)(b o:Nat):Prop:=(W.cell? ⟨b,o,none⟩).isSome=true
def valid_lt{b o:Nat}(h:pq W b o):b<W.heap.size:=by
 unfold pq World.cell? at h;rcases zta b W.heap.size with k|k
 ·exact k
 ·simp only[Array.getElem?_eq_none k] at h;cases h
mutual
def EY:D->Prop
 | .int k n=>(Lit.int k n).wf=true
 | .bool _=>True
 | .str s=>s.size<=maxLen
 | .st l=>tP l
 | .sl l=>l.length<=maxLen/\tP l
 | .tup l=>tP l
def tP:List D->Prop
 | []=>True
 | d::l=>EY d/\tP l
end
theorem oU:∀ {l:List D},tP l↔∀ d∈l,EY d
 | []=>by simp[tP]
 | d::l=>by simp[tP,oU (l:=l)]
mutual
def oV:Ty->Bool
 | .st ts=>xB ts
 | .arr _ t=>oV t
 | .sl t=>decide (0<t.size)&&oV t
 | .tup _=>false
 | .fn=>false
 | _=>true
def xB:List Ty->Bool
 | []=>true
 | t::ts=>oV t&&xB ts
end
def jM{T:TypeId}{ty:Ty}(h:bL P ty T=true):P.cellsOf T=ty.size:=by obtain⟨i,z,h1,a,_⟩:=eG (fI h);simp[Program.cellsOf,h1,a]
def adT{S:Nat->Nat->Prop}{d:D}{c:Value}(h:CR W S d c):cL W S [d] [c]:=⟨rfl,λi d' c' a hc=>by
 cases i with
 | zero=>simp at a hc;subst a;subst hc;exact h
 | succ i=>simp at a⟩
mutual
theorem rY:∀ (ty:Ty) (T:TypeId) (fuel:Nat) (cs:List Value) (x:DataW H×List MemPlace),bL P ty T=true->oV ty=true->DataW.trod enc P W base spare held fuel T cs=some x->∃ d,wt ty d/\EY d/\cL W (pq W) d.flat cs
 | .int k,T,fuel,cs,x,hl,_,h=>by obtain⟨n,rfl,_,hw⟩:=DataW.trod_int (jk hl) h;exact⟨.int k n,⟨n,rfl⟩,hw,adT (.int k n)⟩
 | .bool,T,fuel,cs,x,hl,_,h=>by
  have hu:P.underlying T=some .bool:=by
   simp only[bL,zaa] at hl;have h2:=hl.2;split at h2
   ·assumption
   ·cases h2
  obtain⟨b,rfl,_⟩:=DataW.trod_bool hu h;exact⟨.bool b,⟨b,rfl⟩,trivial,adT (.bool b)⟩
 | .str,T,fuel,cs,x,hl,_,h=>by
  have hu:P.underlying T=some .string:=by
   simp only[bL,zaa] at hl;have h2:=hl.2;split at h2
   ·assumption
   ·cases h2
  obtain⟨s,rfl,_,hw⟩:=DataW.trod_string hu h;exact⟨.str s,⟨s,rfl⟩,hw,adT (.str s)⟩
 | .st ts,T,fuel,cs,x,hl,hp,h=>by
  obtain⟨fs,hu,hf⟩:=iI hl;obtain⟨xs,n,_,_,hlen,hxl,hx⟩:=DataW.trod_struct hu h;rw[jM hl] at hlen;obtain⟨l,h1,hok,h2⟩:=Au ts fs.toList 0 cs n hf (by simpa only[oV] using hp) (λi f hi=>by
   have hi':fs[i]?=some f:=by simpa using hi
   have hlt:i<xs.length:=by rw[hxl];exact(zpa.1 hi').1
   exact⟨xs[i],(hx i f hi').trans (zea hlt)⟩) (by rw[hlen];simp[Ty.size])
  refine⟨.st l,⟨l,rfl,h1⟩,hok,?_⟩;have:(cs.drop 0).take (aeN ts)=cs:=by rw[List.drop_zero,zhc (by rw[hlen];simp[Ty.size])]
  rw[this] at h2;exact h2
 | .arr n e,T,fuel,cs,x,hl,hp,h=>by
  obtain⟨u,hu,hl'⟩:=ef hl;obtain⟨xs,m,_,_,hlen,hxl,hx⟩:=DataW.trod_array hu h;rw[jM hl] at hlen;rw[jM hl'] at hx;simp only[oV] at hp;have key:∀ k,k<=n->∃ l:List D,l.length=k/\(∀ y∈l,wt e y/\EY y)/\cL W (pq W) (ad2 l) (cs.take (k*e.size)):=by
   intro k
   induction k with
   | zero=>intro _;exact⟨[],rfl,s6,by simp[ad2,cL.nil]⟩
   | succ k ih=>
    intro hk;obtain⟨l,h1,h2,h3⟩:=ih j1
    have hxk:=hx k j1
    rw[zea (show k<xs.length by omega)] at hxk
    obtain⟨d,h4,h4',h5⟩:=rY e u m _ _ hl' hp hxk;refine⟨l++[d],by simp[h1],λy hy=>?_,?_⟩
    ·rcases zIa.1 hy with hy|hy
     ·exact h2 y hy
     ·rw[zKa.1 hy];exact⟨h4,h4'⟩
    ·have e1:cs.take ((k+1)*e.size)=cs.take (k*e.size)++(cs.drop (k*e.size)).take e.size:=by
      rw[zdb,z2c,List.take_add]
     rw[e1,cg];refine h3.append ?_;simpa [ad2] using h5
  obtain⟨l,h1,h2,h3⟩:=key n (zka n);refine⟨.st l,⟨l,rfl,h1,λy hy=>(h2 y hy).1⟩,oU.2 λy hy=>(h2 y hy).2,?_⟩;rw[zhc (by rw[hlen];simp[Ty.size])] at h3
  exact h3
 | .sl e,T,fuel,cs,x,hl,hp,h=>by
  obtain⟨u,hu,hl'⟩:=gZ hl;simp only[oV,zaa,zia] at hp;rcases DataW.trod_slice hu h with⟨rfl,_⟩|⟨a,len,cap,elems,rest,m,_,rfl,_,hb,hlc,hcm,hel,hx,_,_⟩
  ·exact⟨.sl [],⟨[],rfl,s6⟩,⟨zoa _,trivial⟩,adT (adS (l:=[]) (b:=0) (off:=0) (.inl rfl) (zka _) ⟨[],cL.nil,s6⟩)⟩
  ·rw[jM hl'] at hx;by_cases h0:len=0
   ·subst h0;exact⟨.sl [],⟨[],rfl,s6⟩,⟨zoa _,trivial⟩,adT (adS (l:=[]) (b:=0) (off:=0) (.inl rfl) (zoa _) ⟨[],cL.nil,s6⟩)⟩
   ·have hsp:∃ b off,a=⟨b,off,none⟩:=by
     have:=hx 0 j1
     rw[zea (show 0<elems.length by omega)] at this
     obtain⟨cs',h1,_⟩:=Option.bind_eq_some_iff.1 this;obtain⟨_,h2,h3⟩:=World.cells?_some h1;have h4:=h3 0 hp.1;rw[zea (show 0<cs'.length by omega)] at h4
     have e0:(a.add (0*e.size)).add 0=a:=by simp[Addr.add]
     rw[e0] at h4;obtain⟨b,off,sp⟩:=a;cases sp with
     | none=>exact⟨b,off,rfl⟩
     | some s=>
      exfalso;unfold World.cell? at h4;split at h4
      ·simp at h4
      ·cases h4
    obtain⟨b,off,rfl⟩:=hsp;have key:∀ k,k<=len->∃ (l:List D) (cs:List Value),l.length=k/\(∀ y∈l,wt e y/\EY y)/\cL W (pq W) (ad2 l) cs/\∀ j c,cs[j]?=some c->W.cell? ⟨b,off+j,none⟩=some c:=by
     intro k
     induction k with
     | zero=>intro _;exact⟨[],[],rfl,s6,cL.nil,s6⟩
     | succ k ih=>
      intro hk;obtain⟨l,cs,h1,h2,h3,h4⟩:=ih j1
      have hxk:=hx k j1
      rw[zea (show k<elems.length by omega)] at hxk
      obtain⟨cs',q1,q2⟩:=Option.bind_eq_some_iff.1 hxk;obtain⟨_,q3,q4⟩:=World.cells?_some q1;obtain⟨d,h5,h5',h6⟩:=rY e u m _ _ hl' hp.2 q2;have hn:ao e=true:=aH e u hl';have hcl:cs.length=k*e.size:=by rw[<-h3.1,aK hn l (λy hy=>(h2 y hy).1),h1]
      refine⟨l++[d],cs++cs',by simp[h1],λy hy=>?_,?_,λj c hc=>?_⟩
      ·rcases zIa.1 hy with hy|hy
       ·exact h2 y hy
       ·rw[zKa.1 hy];exact⟨h5,h5'⟩
      ·rw[cg];refine h3.append ?_;simpa [ad2] using h6
      ·rcases zta j cs.length with hj|hj
       ·rw[zeb hj] at hc;exact h4 j c hc
       ·rw[zOb hj] at hc;have hlt:j-cs.length<e.size:=by
         have:=(zna.1 hc).1;omega
        have:=q4 (j-cs.length) hlt;rw[hc] at this;rw[db,db] at this;rw[show off+k*e.size+(j-cs.length)=off+j by omega] at this
        exact this
    obtain⟨l,cs,h1,h2,h3,h4⟩:=key len (zka _);refine⟨.sl l,⟨l,rfl,λy hy=>(h2 y hy).1⟩,⟨j1,oU.2 λy hy=>(h2 y hy).2⟩,adT ?_⟩
    rw[<-h1];exact adS (b:=b) (off:=off) (.inr rfl) j1 ⟨cs,h3,λi c hc=>⟨by unfold pq;rw[h4 i c hc];rfl,h4 i c hc⟩⟩
 | .tup _,_,_,_,_,hl,_,_=>by simp[bL] at hl
 | .fn,_,_,_,_,hl,_,_=>by simp[bL] at hl
theorem Au:∀ (ts:List Ty) (fs:List Field) (off:Nat) (cs:List Value) (n:Nat),fU P ts fs off=true->xB ts=true ->
  (∀ (i:Nat) (f:Field),fs[i]?=some f->∃ x:DataW H×List MemPlace,DataW.trod enc P W base spare held n f.type ((cs.drop f.offset).take (P.cellsOf f.type))=some x)->off+aeN ts<=cs.length ->
  ∃ l,eu ts l/\tP l/\cL W (pq W) (ad2 l) ((cs.drop off).take (aeN ts))
 | [],_,off,cs,n,_,_,_,_=>⟨[],rfl,trivial,by simp[ad2,aeN,cL.nil]⟩
 | t::ts,[],off,cs,n,h,_,_,_=>by simp[fU] at h
 | t::ts,f::fs,off,cs,n,h,hp,hx,hle=>by
  simp only[fU,zaa,zia] at h;obtain⟨⟨⟨⟨h1,_⟩,h2⟩,h3⟩,h4⟩:=h;simp only[xB,zaa] at hp;simp only[aeN] at hle ⊢;obtain⟨x,hx0⟩:=hx 0 f rfl;rw[jM h3,h1] at hx0;obtain⟨d,q1,q1',q2⟩:=rY t f.type n _ _ h3 hp.1 hx0;obtain⟨l,q3,q3',q4⟩:=Au ts fs (off+t.size) cs n h4 hp.2 (λi g hi=>hx (i+1) g (by simpa using hi)) j1
  refine⟨d::l,⟨d,l,rfl,q1,q3⟩,⟨q1',q3'⟩,?_⟩;rw[List.take_add,zLd];simp only[ad2];exact q2.append q4
end
end
theorem ab.{u,v}{α:Type u}{β:Type v}{x:Option α}{f:α->Option β}{r:β}(h:x.bind f=some r):∃ a,x=some a/\f a=some r:=by
 cases x with
 | none=>cases h
 | some a=>exact⟨a,rfl,h⟩
def nv{t b:Ty}{x:D}(h:AV.fits t (.d b x)=true):t=b:=by
 have a:t.beq b=true:=by simp_all [AV.fits]
 exact aeK _ _ a
def aeJ:∀ (t:Ty),t.beq t=true:=by
 intro t;exact(Ty.rec (motive_1:=λt=>t.beq t=true) (motive_2:=λl=>Ty.beqs l l=true)
  (λk=>by simp[Ty.beq]) rfl rfl (λl h=>by simpa [Ty.beq] using h) (λn t h=>by simp[Ty.beq,h]) (λt h=>by simpa [Ty.beq] using h) (λl h=>by simpa [Ty.beq] using h) rfl rfl
  (λt l h1 a=>by simp[Ty.beqs,h1,a]) t)
def bH(t:Ty)(x:D):AV.fits t (.d t x)=true:=by have:=aeJ t;all_goals simp_all [AV.fits]
theorem pQ:∀ {d:List Ty} {l:List AV} {i:Nat} {a:AV},AV.fitss d l=true->l[i]?=some a->∃ t,d[i]?=some t/\AV.fits t a=true
 | _,[],_,_,_,h=>by simp at h
 | [],b::l,_,_,h,_=>by simp[AV.fitss] at h
 | u::d,b::l,i,a,h,c=>by
  simp only[AV.fitss,zaa] at h;cases i with
  | zero=>simp at c;subst c;exact⟨u,rfl,h.1⟩
  | succ i=>simp at c;obtain⟨t,h1,e⟩:=pQ h.2 c;exact⟨t,by simpa using h1,e⟩
theorem te:∀ {d:List Ty} {l:List AV} {i:Nat} {t:Ty},AV.fitss d l=true->d[i]?=some t->∃ a,l[i]?=some a/\AV.fits t a=true
 | [],_,_,_,_,h=>by simp at h
 | u::d,[],_,_,h,_=>by simp[AV.fitss] at h
 | u::d,b::l,i,a,h,c=>by
  simp only[AV.fitss,zaa] at h;cases i with
  | zero=>simp at c;subst c;exact⟨b,rfl,h.1⟩
  | succ i=>simp at c;obtain⟨t,h1,e⟩:=te h.2 c;exact⟨t,by simpa using h1,e⟩
theorem lX:∀ {c:List Ty} {l:List AV} {i:Nat} {t:Ty} {b:AV},AV.fitss c l=true->c[i]?=some t->AV.fits t b=true->AV.fitss c (l.set i b)=true
 | [],_,_,_,_,_,h,_=>by simp at h
 | u::c,[],_,_,_,h,_,_=>by simp[AV.fitss] at h
 | u::c,a::l,i,t,b,h,d,e=>by
  simp only[AV.fitss,zaa] at h;cases i with
  | zero=>simp at d;subst d;simp[AV.fitss,e,h.2]
  | succ i=>simp at d;simp only[List.set_cons_succ,AV.fitss,zaa];exact⟨h.1,lX h.2 d e⟩
theorem rB{c:Cx}:∀ {f:List Ty} {l:List AV} {cs:List Value} {i:Nat} {a:AV},AV.fitss f l=true->aO f=true->il c l cs->l[i]?=some a ->
  ∃ pre mid post,cs=pre++(mid++post)/\pre.length=aeN (f.take i)/\AC c a mid/\∀ b d,AC c b d->il c (l.set i b) (pre++(d++post))
 | _,[],_,_,_,_,_,_,h=>by simp at h
 | [],b::l,_,_,_,h,_,_,_=>by simp[AV.fitss] at h
 | u::f,b::l,cs,i,a,g,hn,h,e=>by
  simp only[AV.fitss,zaa] at g;simp only[aO,zaa] at hn;simp only[il] at h;obtain⟨c1,c2,rfl,h1,j⟩:=h;cases i with
  | zero=> simp at e;subst e;exact⟨[],c1,c2,s6,by simp[aeN],h1,λb d k=>by simp only[List.set_cons_zero,il,z0b];exact⟨d,c2,rfl,k,j⟩⟩
  | succ i=>
   simp at e;obtain⟨pre,mid,post,rfl,m,n,o⟩:=rB g.2 hn.2 j e;refine⟨c1++pre,mid,post,by simp[zXa],?_,n,λb d k=>?_⟩
   ·simp only[zFa,zUb,aeN,m,(gl b u c1 g.1 h1).1]
   ·grind [il,List.append_assoc]
def lE{a:List Ty}{i:Nat}{p:List Nat}{u:Ty}(h:aP (.st a) (i::p)=some u):∃ v,a[i]?=some v/\aP v p=some u:=by grind [aP]
def CM{R:Type}{c:Cx}:∀ (p:List Nat) {T t:Ty} {a:AV} {cs:List Value} {K:AV->Option R} {r:R},AV.fits T a=true->ao T=true->aP T p=some t->AC c a cs->xh a p K=some r ->
  ∃ a' pre mid post,K a'=some r/\cs=pre++(mid++post)/\pre.length=aY T p/\AC c a' mid/\AV.fits t a'=true:=by
 intro p
 induction p with
 | nil=>
  intro T t a cs K r b hn hp hc f;have hT:T=t:=by cases T<;>simpa [aP] using hp
  subst hT;refine⟨a,[],cs,[],?_,s6,by cases T<;>rfl,hc,b⟩
  cases a<;>simpa [xh] using f
 | cons i p ih=>
  intro T t a cs K r b hn hp hc f;cases a<;>simp only[xh] at f
  case d t' x=>
   have:=nv b;subst this;obtain⟨t2,h1,m⟩:=ab f;obtain⟨y,g,n⟩:=ab m;rw[hp] at h1;cases h1;simp only[AC] at hc;obtain⟨q,A,B,s,z⟩:=iG (i::p) hc.1 hn hp g;have h:=hc.2.2;rw[s] at h;obtain⟨o,u⟩:=h.split;obtain⟨w,C⟩:=u.split;refine⟨_,cs.take A.length,(cs.drop A.length).take y.flat.length,(cs.drop A.length).drop y.flat.length,n,by simp only[zua],?_,?_,bH _ _⟩
   ·rw[<-o.1];exact z
   ·simp only[AC];exact⟨q,dH _ hn hp,w⟩
  case st ts' l=>
   cases T<;>simp only[AV.fits] at b<;>first|cases b|skip
   rename_i D;simp only[zaa] at b;obtain⟨a1,h1,m⟩:=ab f;obtain⟨v,g,n⟩:=lE hp;simp only[AC] at hc;simp only[ao] at hn;obtain⟨v',h,o⟩:=pQ b.2 h1;rw[g] at h;cases h;obtain⟨pre,mid,post,rfl,q,s,_⟩:=rB b.2 hn hc.2.2 h1;obtain⟨a',k,j,e,m1,rfl,m2,m3,m4⟩:=ih o (bJ hn g) n s m;refine⟨a',pre++k,j,e++post,m1,by simp[zXa],?_,m3,m4⟩
   simp only[zFa,aY,q,m2];simp[List.getD,g]
  all_goals cases f
def Ly{R:Type}{c:Cx}:∀ (p:List Nat) {T t:Ty} {a b:AV} {cs m:List Value} {K:AV->Option R} {r:R},AV.fits T a=true->ao T=true->aP T p=some t->AC c a cs->AC c b m->AV.fits t b=true->BF a p b K=some r ->
  ∃ a' pre mid post,K a'=some r/\cs=pre++(mid++post)/\pre.length=aY T p/\mid.length=m.length/\AC c a' (pre++(m++post))/\AV.fits T a'=true:=by
 intro p
 induction p with
 | nil=>
  intro T t a b cs m K r e hn hp hc g f j;have hT:T=t:=by simp_all [aP]
  subst hT;refine⟨b,[],cs,[],?_,s6,by cases T<;>rfl,?_,by simpa using g,f⟩
  ·simp_all [BF]
  ·rw[(gl _ _ _ e hc).1,(gl _ _ _ f g).1]
 | cons i p ih=>
  intro T t a b cs m K r e hn hp hc g f j;cases a<;>simp only[BF] at j
  case d t' x=>
   have:=nv e;subst this;cases b<;>simp only at j<;>first|cases j|skip
   rename_i u y;have:=nv f;subst this;obtain⟨P,h,w⟩:=ab j;simp only[AC] at hc g;obtain⟨D,A,C,B,E,F,M,N⟩:=pd (i::p) hc.1 hn hp h g.1;have n:=hc.2.2;rw[E] at n;obtain⟨s,I⟩:=n.split;obtain⟨J,L⟩:=I.split;refine⟨_,cs.take A.length,(cs.drop A.length).take C.length,(cs.drop A.length).drop C.length,w,by simp only[zua],?_,?_,?_,bH _ _⟩
   ·rw[<-s.1];exact M
   ·rw[<-J.1,N,<-g.2.2.1,ct _ _ g.1 g.2.1]
   ·simp only[AC];refine⟨D,hn,?_⟩;rw[F];exact s.append (g.2.2.append L)
  case st ts' l=>
   cases T<;>simp only[AV.fits] at e<;>first|cases e|skip
   rename_i O;simp only[zaa] at e;obtain⟨a1,h1,H⟩:=ab j;obtain⟨v,h,w⟩:=lE hp;simp only[AC] at hc;simp only[ao] at hn;obtain⟨v',n,s⟩:=pQ e.2 h1;rw[h] at n;cases n;obtain⟨pre,mid,post,rfl,D,E,F⟩:=rB e.2 hn hc.2.2 h1;obtain⟨a',q,o,k,m1,rfl,m2,G,m3,m4⟩:=ih s (bJ hn h) w E g f H;have z:=aeL _ _ e.1;subst z;refine⟨_,pre++q,o,k++post,m1,by simp[zXa],?_,G,?_,?_⟩
   ·simp only[zFa,aY,D,m2];simp[List.getD,h]
   ·simp only[AC];refine⟨hn,lX e.2 h m4,?_⟩;have:=F _ _ m3;simpa [zXa] using this
   ·simp only[AV.fits,zaa];exact⟨e.1,lX e.2 h m4⟩
  all_goals cases j
mutual
theorem qj{c:Cx}{ob:Nat->Option Ob}:∀ (a:AV) (t:Ty) (cs:List Value) (x:D),adR ob t a=some x->AC c a cs->wt t x/\cL c.w c.S x.flat cs/\(∀ v,gj t cs v->ao t=true->fa c.w c.S x v)
 | .d t' x',t,cs,x,h,hc=>by
  have h':t.beq t'=true/\x'=x:=by cases t<;>simpa [adR] using h
  obtain⟨h1,rfl⟩:=h';have:=aeK _ _ h1;subst this;simp only[AC] at hc;exact⟨hc.1,hc.2.2,λv hv hn=>⟨sj hc.1 hc.2.1 hv.2,by rw[hv.1];exact hc.2.2⟩⟩
 | .own t' v l,t,cs,x,h,hc=>by
  have h':t.beq (.sl t')=true/\D.sl l=x:=by cases t<;>simpa [adR] using h
  obtain⟨h1,rfl⟩:=h';have:=aeK _ _ h1;subst this;simp only[AC] at hc;obtain⟨k1,k2,a,cap,rfl,k3,_⟩:=hc;have hw:wt (.sl t') (.sl l):=by simp only[wt];exact⟨l,rfl,k2⟩
  exact⟨hw,cL.single.2 k3,λv hv hn=>⟨sj hw hn hv.2,by rw[hv.1];exact cL.single.2 k3⟩⟩
 | .nils,t,cs,x,h,hc=>by
  cases t<;>simp only[adR] at h<;>first|cases h|skip
  simp only[AC] at hc;subst hc;have hw:∀ t,wt (.sl t) (.sl []):=λt=>by simp only[wt];exact⟨[],rfl,λx hx=>by simp at hx⟩
  have hr:cL c.w c.S [D.sl []] [.slice none 0 0]:=cL.single.2 (.sl [] none 0 0 0 (λ_=>undef) (.inl rfl) (zka 0) (λi d hd=>by simp[ad2] at hd) (λi d hd=>by simp[ad2] at hd))
  exact⟨hw _,hr,λv hv hn=>⟨sj (hw _) hn hv.2,by rw[hv.1];exact hr⟩⟩
 | .st ts' l,t,cs,x,h,hc=>by
  simp only[adR] at h;split at h
  ·rename_i hb;have:=aeK _ _ hb;subst this;obtain⟨xs,h1,h2⟩:=ab h;simp only[zda] at h2;subst h2;simp only[AC] at hc;obtain⟨k1,k2⟩:=xZ l ts' cs xs h1 hc.2.2;have hw:wt (.st ts') (.st xs):=by simp only[wt];exact⟨xs,rfl,k1⟩
   exact⟨hw,k2,λv hv hn=>⟨sj hw hn hv.2,by rw[hv.1];exact k2⟩⟩
  ·cases h
 | .ptr ..,t,_,_,h,_=>by cases t<;>simp[adR] at h
 | .fptr ..,t,_,_,h,_=>by cases t<;>simp[adR] at h
 | .mem ..,t,_,_,h,_=>by cases t<;>simp[adR] at h
 | .clo ..,t,_,_,h,_=>by cases t<;>simp[adR] at h
 | .sub ..,t,_,_,h,_=>by cases t<;>simp[adR] at h
 | .gone,t,_,_,h,_=>by cases t<;>simp[adR] at h
 | .tpo ..,t,_,_,h,_=>by cases t<;>simp[adR] at h
 | .undef,t,_,_,h,_=>by cases t<;>simp[adR] at h
theorem xZ{c:Cx}{ob:Nat->Option Ob}:∀ (l:List AV) (ts:List Ty) (cs:List Value) (xs:List D),AV.toDl ob ts l=some xs->il c l cs->eu ts xs/\cL c.w c.S (ad2 xs) cs
 | [],ts,cs,xs,h,hc=>by
  cases ts<;>simp only[AV.toDl] at h<;>first|cases h|skip
  simp only[il] at hc;subst hc;exact⟨by simp[eu],cL.nil⟩
 | a::l,ts,cs,xs,h,hc=>by
  cases ts<;>simp only[AV.toDl] at h<;>first|cases h|skip
  rename_i t ts;obtain⟨x,h1,h2⟩:=ab h;obtain⟨ys,h3,h4⟩:=ab h2;simp only[zda] at h4;subst h4;simp only[il] at hc;obtain⟨c1,c2,rfl,k1,k2⟩:=hc;obtain⟨m1,m2,_⟩:=qj a t c1 x h1 k1;obtain⟨m3,m4⟩:=xZ l ts c2 ys h3 k2;exact⟨by simp only[eu];exact⟨x,ys,rfl,m1,m3⟩,by simp only[ad2];exact m2.append m4⟩
end
mutual
theorem ul{ob:Nat->Option Ob}:∀ (a:AV) (t:Ty) (x:D),adR ob t a=some x->AV.fits t a=true
 | .d t' x',t,x,h=>by simp_all [adR,AV.fits]
 | .own t' v l,t,x,h=>by
  have h':t.beq (.sl t')=true/\D.sl l=x:=by cases t<;>simpa [adR] using h
  have:=aeK _ _ h'.1;subst this;simp[AV.fits,aeJ]
 | .nils,t,x,h=>by cases t<;>first|rfl|(simp only[adR] at h;cases h)
 | .st ts' l,t,x,h=>by
  simp only[adR] at h;split at h
  ·rename_i hb;have:=aeK _ _ hb;subst this;obtain⟨xs,h1,h2⟩:=ab h;simp only[AV.fits,zaa];exact⟨by have:=aeJ (.st ts');simpa [Ty.beq] using this,wA l ts' xs h1⟩
  ·cases h
 | .ptr ..,t,_,h=>by cases t<;>simp[adR] at h
 | .fptr ..,t,_,h=>by cases t<;>simp[adR] at h
 | .mem ..,t,_,h=>by cases t<;>simp[adR] at h
 | .clo ..,t,_,h=>by cases t<;>simp[adR] at h
 | .sub ..,t,_,h=>by cases t<;>simp[adR] at h
 | .gone,t,_,h=>by cases t<;>simp[adR] at h
 | .tpo ..,t,_,h=>by cases t<;>simp[adR] at h
 | .undef,t,_,h=>by cases t<;>simp[adR] at h
theorem wA{ob:Nat->Option Ob}:∀ (l:List AV) (ts:List Ty) (xs:List D),AV.toDl ob ts l=some xs->AV.fitss ts l=true
 | [],ts,xs,h=>by cases ts<;>first|rfl|(simp only[AV.toDl] at h;cases h)
 | a::l,ts,xs,h=>by
  cases ts<;>simp only[AV.toDl] at h<;>first|cases h|skip
  rename_i t ts;obtain⟨x,h1,h2⟩:=ab h;obtain⟨ys,h3,h4⟩:=ab h2;simp only[AV.fitss,zaa];exact⟨ul a t x h1,wA l ts ys h3⟩
end
def nc{c:Cx}{ob:Nat->Option Ob}{t:Ty}{a:AV}{v:Value}{x:D}(hn:ao t=true)(h:AR c a v)(hx:adR ob t a=some x):wt t x/\fa c.w c.S x v:=by
 obtain⟨h1,b⟩:=yn (ul a t x hx) hn h;obtain⟨d,_,e⟩:=qj a t _ x hx h1
 simp_all
def c6{c:Cx}{t:Ty}{x:D}{v:Value}(hn:ao t=true)(hw:wt t x)(h:fa c.w c.S x v):AR c (.d t x) v:=by simp_all [AR]
def yo{c:Cx}{t:Ty}{x:D}{v:Value}(h:AR c (.d t x) v)(hn:ao t=true):wt t x/\fa c.w c.S x v:=by all_goals grind [AR,ao]
def dS{c:Cx}{t:Ty}{k:IntKind}{n:Int}{v:Value}(h:AR c (.d t (.int k n)) v):v=.int k n/\t=.int k:=by
 simp only[AR] at h;rcases h with⟨h1,a,e⟩|⟨f,rfl,_,a,_⟩
 ·refine⟨e.int_inv,?_⟩;cases t<;>simp only[wt] at a<;>first
   | (obtain⟨m,b⟩:=a;cases b;rfl)
   | (obtain⟨m,b,_⟩:=a;cases b)
   | (obtain⟨m,b⟩:=a;cases b)
 ·simp_all [wt]
def B3{c:Cx}{t:Ty}{n:Bool}{v:Value}(h:AR c (.d t (.bool n)) v):v=.bool n:=by
 simp only[AR] at h;rcases h with⟨h1,a,b⟩|⟨e,rfl,_,a,_⟩
 ·exact b.bool_inv
 ·simp_all [wt]
def cz{c:Cx}(k:IntKind)(n:Int):AR c (.d (.int k) (.int k n)) (.int k n):=
 c6 rfl (by simp only[wt];exact⟨n,rfl⟩) (aec (.int k n))
def gm{c:Cx}(b:Bool):AR c (.d .bool (.bool b)) (.bool b):=
 c6 rfl (by simp only[wt];exact⟨b,rfl⟩) (aec (.bool b))
def dT(P:Program)(o:Oper)(a:Act)(w:World)(K:Value->World->Prop):Prop:=
 match (execOp a.eval o).run P w with
 | .ok (.value v) w'=>K v w'
 | .ok .skip w'=>K undef w'
 | .ok (.enter f args) w'=>Calls P f args w' λe b=>∃ v,e=.returned v/\K v b
 | _=>False
variable{ro:Option Nat}{nn:Nat}
def dT.plain{P:Program}{o:Oper}{a:Act}{w:World}{K:Value->World->Prop}(h:dT P o a w K)(c:Call):o.op≠.defer c:=by
 intro hc;unfold dT at h;obtain⟨dst,op,ty,pos,after,guard⟩:=o;simp only at hc;subst hc;have e:execOp a.eval ⟨dst,.defer c,ty,pos,after,guard⟩=(resolve a.eval c ty >>= λd=>pure (Next.defer d)):=rfl;rw[e,zla] at h;cases hr:(resolve a.eval c ty).run P w with
 | ok d w'=>rw[hr] at h;exact h
 | halt x w'=>rw[hr] at h;exact h
def yF{P:Program}{f:FuncId}{args:Array Value}{w:World}{R:Ending->World->Prop}{m:Nat}(h:Calls P f args w R):CallsIn (FW ro) m P f args w R:=by
 have h1:CallsIn Fence.wide m P f args w R:=callsIn_wide.2 h;cases ro with
 | none=>exact h1
 | some l=>exact CallsIn.inRound l h1
def bq{P:Program}{o:Oper}{a:Act}{w:World}{K:Value->World->Prop}{next:Act->World->Prop}{Q:Exit->Act->World->Prop}(h:dT P o a w K)(hk:∀ v w',K v w'->next (a.put o.dst v) w'):o.wpIn (FW ro) nn P a w next Q:=by
 refine⟨λ_ _=>trivial,?_⟩;rw[Oper.semAt_eq _ _ _ h.plain];unfold dT at h;generalize (execOp a.eval o).run P w=r at *;cases r with
 | ok n w'=>
  cases n<;>simp only at h<;>simp only[Oper.uponIn]
  case value v=>exact hk _ _ h
  case skip=>exact hk _ _ h
  case enter f args=>exact⟨λb=>(by cases b),yF (h.mono λe d ⟨v,he,c⟩=>by subst he;exact hk _ _ c)⟩
 | halt x w'=>simp only at h
def wX{P:Program}{f:FuncId}{fn:Func}{c:Code}{args:Array Value}{w:World}{R:Ending->World->Prop}(b:P.funcs[f]?=some fn)(a:fn.body=some c)
  (h:c.wpIn (FW none) 0 P (bodyPost P fn R) { tmps:=args++Array.replicate (fn.ntmps-args.size) undef,defers:=[] } w):Calls P f args w R:=
 calls_of_wp b a (wpIn_wide.1 h)
section
variable{P:Program}{Q:Exit->Act->World->Prop}{a:Act}{w:World}{F:Fence}{n:Nat}
theorem jb{md:Region.Mode}{ops:Array Oper}{Q':Exit->Act->World->Prop}:∀ (l:List Oper) (k:Nat) (b:Array Bool) (a:Act) (w:World),(∀ j,l[j]?=ops[k+j]?) ->
  Region.seqB md ops l.length k b=true->wpListIn F n P ops Q' l a w->wpAnyIn F n P md ops Q' l.length b a w
 | [],_,_,_,_,_,c,h=>⟨by simpa [Region.seqB] using c,h⟩
 | o::l,k,b,a,w,hl,c,h=>by
  have h0:ops[k]?=some o:=by simpa using(hl 0).symm
  simp only[zOa,Region.seqB,zaa,zia] at c;refine⟨λh1=>(by rw[c.1] at h1;cases h1),λi e=>?_⟩
  rw[c.1] at e;have d:i=k:=by simpa using e
  subst d;have hw:wpOpIn F n P ops Q' i (wpListIn F n P ops Q' l) a w:=by unfold wpOpIn;simp only[h0];exact h
  exact wpOpIn_mono (λa' w' f=>jb l (i+1) _ a' w' (λj=>by have:=hl (j+1);simpa [zEb,zxc 1 j] using this) c.2 f) hw
def fK{b:Frame}{k:List Item}{cs:List Frame}{c:Code}:step P (lone (b.atR a (.code (.scope c)::k)) cs w)=.next (lone (b.atR a (.code c::.inScope c::k)) cs w):=
 step_lone_go (by simp[stepG,stepG.exec,Frame.atR])
def uU{b:Frame}{k:List Item}{cs:List Frame}{c:Code}:step P (lone (b.atR a (.inScope c::k)) cs w)=.next (lone (b.atR a k) cs w):=
 step_lone_go (by simp[stepG,stepG.exec,Frame.atR])
def mM{c:Code}(h:c.wpIn F n P (Exit.noGoto Q) a w):(Code.scope c).wpIn F n P Q a w:=by
 intro b k cs p j m;have h0:(lone (b.atR a (.code (.scope c)::k)) cs w).fenced P F:=fenced_calm j m rfl;obtain⟨e,g,i,hq,d⟩:=h b (.inScope c::k) cs p j m;cases e with
 | normal=>exact⟨.normal,g,i,hq,.head h0 fK (StepsIn.trans d (.one (fenced_calm j m rfl) uU))⟩
 | exit f=>
  have hx:exitTo f (.inScope c::k)=exitTo f k:=by simp[exitTo]
  exact⟨.exit f,g,i,hq,λr hk=>.head h0 fK (d.1 r (by rw[hx];exact hk)),
   λo hk=>let ⟨k₁,h1,q⟩:=d.2 o (by rw[hx];exact hk);⟨k₁,h1,.head h0 fK q⟩⟩
 | goto l=>exact hq.elim
 | ret=>exact⟨_,g,i,hq,.of_steps (.one h0 fK) d⟩
 | panic s=>exact⟨_,g,i,hq,.of_steps (.one h0 fK) d⟩
 | outgrown=>exact⟨_,g,i,hq,.of_steps (.one h0 fK) d⟩
def wH{c:Code}(J:Nat->Act->World->Prop){m:Nat}(y:J m a w)
  (round:∀ m a w,J m a w->c.wpIn F n P (Exit.then (λa' w'=>∃ i,i<m/\J i a' w') Q) a w):(Code.loop c).wpIn F n P Q a w:=by
 intro b k cs s o r;have key:∀ m a w,J m a w->∃ e a' w',Q e a' w'/\ArrivesIn (Machine.fenced P F) P (lone (b.atR a (.code c::.inLoop c::k)) cs w) b k cs e a' w':=by
  intro m
  induction m using Nat.strongRecOn with
  | _ m ih=>
   intro a w v;obtain⟨e,g,h,hq,d⟩:=round m a w v b (.inLoop c::k) cs s o r;cases e with
   | normal=> obtain⟨i,p,j⟩:=hq;obtain⟨u,t,z,q,f⟩:=ih i p g h j;exact⟨u,t,z,q,.of_steps (StepsIn.trans d (.one (fenced_calm o r rfl) stepR_inLoop)) f⟩
   | exit id=>exact⟨_,g,h,hq,.pass (x:=.inLoop c) rfl (λ_ _=>.inl s6) d⟩
   | goto l=>exact⟨_,g,h,hq,.pass (x:=.inLoop c) rfl (λ_ _=>.inl s6) d⟩
   | ret=>exact⟨_,g,h,hq,.pass (x:=.inLoop c) rfl (λ_ _=>.inl s6) d⟩
   | panic A=>exact⟨_,g,h,hq,.pass (x:=.inLoop c) rfl (λ_ _=>.inl s6) d⟩
   | outgrown=>exact⟨_,g,h,hq,.pass (x:=.inLoop c) rfl (λ_ _=>.inl s6) d⟩
 obtain⟨e,a',w',hq,d⟩:=key m a w y;exact⟨e,a',w',hq,.of_steps (.one (fenced_calm o r rfl) stepR_loop) d⟩
end
theorem dT.value{P:Program}{o:Oper}{a:Act}{w w':World}{v:Value}{K:Value->World->Prop}(h:(execOp a.eval o).run P w=.ok (.value v) w')(hk:K v w'):dT P o a w K:=by simp_all [dT]
theorem dT.skip{P:Program}{o:Oper}{a:Act}{w w':World}{K:Value->World->Prop}(h:(execOp a.eval o).run P w=.ok .skip w')(hk:K undef w'):dT P o a w K:=by simp_all [dT]
theorem dT.enter{P:Program}{o:Oper}{a:Act}{w w':World}{f:FuncId}{args:Array Value}{K:Value->World->Prop}(h:(execOp a.eval o).run P w=.ok (.enter f args) w')(hk:Calls P f args w' λe b=>∃ v,e=.returned v/\K v b):dT P o a w K:=by simp_all [dT]
theorem dT.mono{P:Program}{o:Oper}{a:Act}{w:World}{K K':Value->World->Prop}(h:dT P o a w K)(hk:∀ v w',K v w'->K' v w'):dT P o a w K':=by
 unfold dT at *;generalize (execOp a.eval o).run P w=r at *;cases r with
 | ok n w'=>
  cases n<;>simp only at h ⊢
  case value v=>exact hk _ _ h
  case skip=>exact hk _ _ h
  case enter f args=>exact h.mono λe c ⟨v,he,b⟩=>⟨v,he,hk _ _ b⟩
 | halt x w'=>simp only at h
section
variable{w0:Root}{S:Nat->Nat->Prop}{γ:Nat->Option Nat}{β:Nat->Option (Nat×Nat)}{s:St}{a:Act}{w:World}
def aS(h:Rp w0 S γ β s a w):∀ x:Operand,AR ⟨w,S,γ,β,s.ob,s.dead⟩ (s.opA x) (a.eval x)
 | .tmp t=>by
  simp only[St.opA,Act.eval];by_cases ht:t<a.tmps.size
  ·exact h.tms t ht
  ·rw[h.tmu t (h.nt ▸ Nat.le_of_not_lt ht)];simp[AR]
 | .const v=>by
  simp only[St.opA,Act.eval];cases v<;>simp only[F9]<;>first
   | exact cz _ _
   | exact gm _
   | exact c6 rfl (by simp only[wt];exact⟨_,rfl⟩) (aec (.str _))
   | (simp only[AR];done)
   | skip
  case slice a len cap=>
   match a,len,cap with
   | none,0,0=>simp[AR,AC,Value.cells]
   | some _,_,_=>simp only[AR]
   | none,_+1,_=>simp only[AR]
   | none,0,_+1=>simp only[AR]
 | .global g=>by simp[St.opA,AR]
 | .func f=>by simp only[St.opA,AR,AC];exact⟨λ_ h=>(by cases h),[],rfl,by simp only[mN]⟩
theorem Rp.put(h:Rp w0 S γ β s a w){v:AV}{val:Value}(d:AR ⟨w,S,γ,β,s.ob,s.dead⟩ v val)(dst:Option Nat):Rp w0 S γ β (s.put dst v) (a.put dst val) w:=by
 cases dst with
 | none=>simpa [St.put,Act.put] using h
 | some t=>
  simp only[St.put,Act.put];by_cases ht:t<s.nt
  ·rw[zja ht];refine⟨h.ext,λi b=>?_,by simpa using h.nt,λi b=>?_,h.obs,h.γn,h.γi,h.γf,h.βn,h.βi,h.βγ,h.βf,h.Sb,h.So⟩
   ·simp only[Array.size_setIfInBounds] at b;by_cases hit:i=t
    ·subst hit;simp only[if_true];rw[show(a.tmps.setIfInBounds i val).getD i undef=val by simp[Array.getD,b]]
     exact d
    ·simp only[zga hit];have:=h.tms i b
     rwa [show(a.tmps.setIfInBounds t val).getD i undef=a.tmps.getD i undef by simp[Array.getD,b,Array.getElem_setIfInBounds_ne b (Ne.symm hit)]]
   ·have c:s.nt<=i:=b;show(if i=t then v else s.tm i)=_
    rw[zga j1];exact h.tmu i c
  ·rw[zga ht];have:a.tmps.setIfInBounds t val=a.tmps:=by
    apply Array.setIfInBounds_eq_of_size_le;rw[h.nt];omega
   rw[this];exact h
def xn{w':World}{S':Nat->Nat->Prop}{γ':Nat->Option Nat}{β':Nat->Option (Nat×Nat)}{ob:Nat->Option Ob}{dead:List Nat}
  (hc:∀ b o,S b o->w'.cell? ⟨b,o,none⟩=w.cell? ⟨b,o,none⟩) (c:∀ b o,S b o->S' b o) (g:∀ id b,γ id=some b->γ' id=some b)
  (f:∀ v b e,v ∉ dead->β v=some (b,e)->β' v=some (b,e)/\∀ n,kW w b=some n->kW w' b=some n):Cx.le ⟨w,S,γ,β,ob,dead⟩ ⟨w',S',γ',β',ob,dead⟩:=
 ⟨hc,c,g,λid o d _=>⟨o,d,λp=>⟨rfl,rfl⟩,λt l e=>⟨l,e,rfl⟩,λ_ _ l e=>⟨l,e⟩⟩,λv a=>⟨a,λb e he=>f v b e a he⟩⟩
def dD{os:List Obj}{d:Nat}{b o:Nat}(h:b<w.heap.size):(grown w os d).cell? ⟨b,o,none⟩=w.cell? ⟨b,o,none⟩:=by simp only[World.cell?,cX w os d h]
def wi{os:List Obj}{d:Nat}{b:Nat}(h:b<w.heap.size):kW (grown w os d) b=kW w b:=by simp only[kW,bO,cX w os d h]
theorem iA.mono{c c':Cx}(h:c.le c'){a vt:Ty}:∀ {j:Nat} {l:List D} {es:List MapEntry},iA c a vt j l es->iA c' a vt j l es
 | _,[],[],_=>trivial
 | _,[],_::_,k=>k.elim
 | _,_::_,[],k=>k.elim
 | j,x::l,e::es,k=>by simp only[iA] at k ⊢;obtain⟨⟨q1,d,o,f,g,i,m,n⟩,b⟩:=k;exact⟨⟨q1,d,o,f,g,i,m.mono h.cell h.S,n.mono h.cell h.S⟩,iA.mono h b⟩
theorem iA.same{c c':Cx}(hw:c'.w=c.w)(a:c'.S=c.S){b vt:Ty}:∀ {j:Nat} {l:List D} {es:List MapEntry},iA c b vt j l es->iA c' b vt j l es
 | _,[],[],_=>trivial
 | _,[],_::_,k=>k.elim
 | _,_::_,[],k=>k.elim
 | j,x::l,e::es,k=>by simp only[iA] at k ⊢;rw[hw,a];exact⟨k.1,iA.same hw a k.2⟩
theorem fN.mono{c c':Cx}(h:c.le c'){b:Nat}{o:Ob}(q:c'.w.heap[b]?=c.w.heap[b]?)(n:∀ o,c'.S b o->c.S b o)(k:fN c b o):fN c' b o:=by
 have e:bO c'.w b=bO c.w b:=by simp only[bO,q]
 cases o<;>simp only[fN] at k ⊢
 case one t v=> obtain⟨f,g,j,cs,a,m,s⟩:=k;exact⟨f,g,λo d=>j o (n o d),cs,by rw[e];exact a,AC.mono h _ _ m,s⟩
 case many t l=> obtain⟨f,g,j,cs,z,a,m⟩:=k;exact⟨f,g,λo d=>j o (n o d),cs,z,by rw[e];exact a,m.mono h.cell h.S⟩
 case mp kt vt l=> obtain⟨f,g,j,es,a,m⟩:=k;exact⟨f,g,λo d=>j o (n o d),es,by rw[q];exact a,m.mono h⟩
 case lp i p=> obtain⟨r,a,m,s,y⟩:=k;exact⟨r,by rw[q];exact a,m,λt u=>(s t u).mono h.cell h.S h.γ,y⟩
 case fv v=> obtain⟨f,x,g,j,a⟩:=k;exact⟨λo d=>f o (n o d),x,by rw[e];exact g,j.mono h.cell h.S h.γ,a⟩
def Rp.grow(h:Rp w0 S γ β s a w){os:List Obj}{d:Nat}(r:w.drawn<=d){S':Nat->Nat->Prop}(q:∀ b o,S b o->S' b o)(g:∀ b o,S' b o->S b o\/(w.heap.size<=b/\b<(grown w os d).heap.size)) :
  Rp w0 S' γ β s a (grown w os d)/\Cx.le ⟨w,S,γ,β,s.ob,s.dead⟩ ⟨grown w os d,S',γ,β,s.ob,s.dead⟩:=by
 have m:w.heap.size<=(grown w os d).heap.size:=s6
 have hle:Cx.le ⟨w,S,γ,β,s.ob,s.dead⟩ ⟨grown w os d,S',γ,β,s.ob,s.dead⟩:=
  xn (λb o c=>dD (h.Sb b o c)) q (λ_ _ k=>k) (λv b e p he=>⟨he,λn hn=>by rw[wi (h.βn v b e p he).2.1];exact hn⟩)
 refine⟨⟨?_,λt x=>(h.tms t x).mono hle,h.nt,h.tmu,λid o b u c=>?_,λid b c=>⟨(h.γn id b c).1,by have:=(h.γn id b c).2;omega⟩,h.γi,h.γf,λv b e p he=>?_,h.βi,h.βγ,h.βf,λb o c=>?_,λb o c j=>?_⟩,hle⟩
 ·exact⟨h.ext.tape,h.ext.os,h.ext.output,zNa h.ext.sz m,zNa h.ext.dr r,λb c=>(cX w os d (zQa c.1 h.ext.sz)).trans (h.ext.old b c)⟩
 ·have l:=(h.γn id b c).2;refine(h.obs id o b u c).mono hle (cX w os d l) λi z=>?_;all_goals grind
 ·obtain⟨A,B,C⟩:=h.βn v b e p he;all_goals grind
 ·rcases g b o c with k|k
  ·have:=h.Sb b o k;omega
  ·exact k.2
 ·rcases g b o c with k|k
  ·exact h.So b o k j
  ·exfalso;have:=h.ext.sz;have y:=j.1;omega
def m8{α:Type}(f:Nat->Option α)(i:Nat)(x:α):Nat->Option α:=λj=>if j=i then some x else f j
def bA{α:Type}(f:Nat->Option α)(i:Nat)(x:α):m8 f i x i=some x:=by simp[m8]
def bW{α:Type}(f:Nat->Option α){i j:Nat}(x:α)(h:j≠i):m8 f i x j=f j:=by simp[m8,h]
def eK{α:Type}{f:Nat->Option α}{i:Nat}{x:α}(h:f i=none){j:Nat}{y:α}(a:f j=some y):m8 f i x j=some y:=by
 by_cases e:j=i
 ·simp_all
 ·rw[bW f x e,a]
def Rp.newOb(h:Rp w0 S γ β s a w){id b:Nat}(hid:γ id=none)(p:¬ w0.Old b)(q:b<w.heap.size)(m:∀ id,γ id≠some b)(z:∀ v e,v ∉ s.dead->β v≠some (b,e))(y:id<s.base+4096)
  (u:∀ o,s.ob id=some o->fN ⟨w,S,m8 γ id b,β,s.ob,s.dead⟩ b o):Rp w0 S (m8 γ id b) β s a w/\Cx.le ⟨w,S,γ,β,s.ob,s.dead⟩ ⟨w,S,m8 γ id b,β,s.ob,s.dead⟩:=by
 have hle:Cx.le ⟨w,S,γ,β,s.ob,s.dead⟩ ⟨w,S,m8 γ id b,β,s.ob,s.dead⟩:=
  xn (λ_ _ _=>rfl) (λ_ _ k=>k) (λ_ _ k=>eK hid k) (λv b e l he=>⟨he,λn hn=>hn⟩)
 refine⟨⟨h.ext,λt x=>(h.tms t x).mono hle,h.nt,h.tmu,λi o c r hc=>?_,λi c hc=>?_,λi j c hc d=>?_,λi g=>?_,h.βn,h.βi,λv i c e l he hc=>?_,h.βf,h.Sb,h.So⟩,hle⟩
 ·by_cases e:i=id
  ·simp_all [bA]
  ·rw[bW γ b e] at hc;exact(h.obs i o c r hc).mono hle rfl λ_ k=>k
 ·by_cases e:i=id
  ·simp_all [bA]
  ·rw[bW γ b e] at hc;exact h.γn i c hc
 ·by_cases e:i=id
  ·by_cases e':j=id
   ·rw[e,e']
   ·subst e;rw[bA] at hc;cases hc;rw[bW γ b e'] at d;exact z3a d (m j)
  ·by_cases e':j=id
   ·subst e';rw[bA] at d;cases d;rw[bW γ b e] at hc;exact z3a hc (m i)
   ·rw[bW γ b e] at hc;rw[bW γ b e'] at d;exact h.γi i j c hc d
 ·rw[bW γ b j1];exact h.γf i g
 ·by_cases e':i=id
  ·simp_all [bA]
  ·rw[bW γ b e'] at hc;exact h.βγ v i c e l he hc
def Rp.newTok(h:Rp w0 S γ β s a w){v b e:Nat}(y:β v=none)(p:¬ w0.Old b)(q:b<w.heap.size)(C:∀ id,γ id≠some b)(B:∀ v e,v ∉ s.dead->β v≠some (b,e))(l:v<s.base+4096)(A:∀ o,e<=o->¬ S b o) :
  Rp w0 S γ (m8 β v (b,e)) s a w/\Cx.le ⟨w,S,γ,β,s.ob,s.dead⟩ ⟨w,S,γ,m8 β v (b,e),s.ob,s.dead⟩:=by
 have hle:Cx.le ⟨w,S,γ,β,s.ob,s.dead⟩ ⟨w,S,γ,m8 β v (b,e),s.ob,s.dead⟩:=
  xn (λ_ _ _=>rfl) (λ_ _ k=>k) (λ_ _ k=>k) (λv b e z he=>⟨eK y he,λn hn=>hn⟩)
 refine⟨⟨h.ext,λt x=>(h.tms t x).mono hle,h.nt,h.tmu,λi o c r hc=>(h.obs i o c r hc).mono hle rfl λ_ k=>k,h.γn,h.γi,h.γf,λu c f hu hc=>?_,λu j c f m hu g hc d=>?_,λu i c f hu hc l=>?_,λu hu=>?_,h.Sb,h.So⟩,hle⟩
 ·by_cases e':u=v
  ·simp_all [bA]
  ·rw[bW β _ e'] at hc;exact h.βn u c f hu hc
 ·by_cases e1:u=v
  ·by_cases e2:j=v
   ·rw[e1,e2]
   ·simp_all [bA,bW,e2]
  ·by_cases e2:j=v
   ·simp_all [bA,bW,e1]
   ·rw[bW β _ e1] at hc;rw[bW β _ e2] at d;exact h.βi u j c f m hu g hc d
 ·by_cases e':u=v
  ·simp_all [bA]
  ·rw[bW β _ e'] at hc;exact h.βγ u i c f hu hc l
 ·rw[bW β _ j1];exact h.βf u hu
end
def Qp(w0:Root)(S:Nat->Nat->Prop)(γ:Nat->Option Nat)(β:Nat->Option (Nat×Nat))(s:St)(a:Act)(w:World)(dst:Option Nat)(v:AV)(val:Value)(w':World):Prop:=
 ∃ S' γ' β',Rp w0 S' γ' β' s a w'/\AR ⟨w',S',γ',β',s.ob,s.dead⟩ v val/\(∀ b o,S b o->S' b o)/\(∃ os d,w'=grown w os d) ∧
  (∀ id b,γ id=some b->γ' id=some b)/\(∀ id,dst≠some (id-s.base)\/id<s.base->γ' id=γ id/\β' id=β id)
section
variable{w0:Root}{S:Nat->Nat->Prop}{γ:Nat->Option Nat}{β:Nat->Option (Nat×Nat)}{s:St}{a:Act}{w:World}
def Qp.same(h:Rp w0 S γ β s a w){v:AV}{val:Value}(b:AR ⟨w,S,γ,β,s.ob,s.dead⟩ v val)(dst:Option Nat):Qp w0 S γ β s a w dst v val w:=
 ⟨S,γ,β,h,b,λ_ _ k=>k,⟨[],_,(DV w).symm⟩,λ_ _ k=>k,λ_ _=>⟨rfl,rfl⟩⟩
end
end Sy
end
noncomputable section
namespace Sy
open Go
def Fr(E:Env)(s:St)(γ:Nat->Option Nat)(β:Nat->Option (Nat×Nat))(o:Oper):Prop:=
 w8 o=true->∀ d:Nat,o.dst=some d->d<4096/\γ (s.base+d)=none/\β (s.base+d)=none/\∀ T x,o.op=.alloc T->E.alOb T=some x->s.ob (s.base+d)=some x
def B5{E:Env}{s:St}{γ:Nat->Option Nat}{β:Nat->Option (Nat×Nat)}{o:Oper}(h:w8 o=false):Fr E s γ β o:=λhc=>by rw[h] at hc;cases hc
def dG{x:AV}{p:Ty×D}(h:isD x=some p):x=.d p.1 p.2:=by cases x<;>simp[isD] at h;grind
theorem wF{x:D}{b:Bool}(h:x.truth=some b):x=.bool b:=by
 cases x<;>simp[D.truth] at h
 simp_all
def nV{c:Cx}{x:AV}{b:Bool}{v:Value}(h:x.truth=some b)(k:AR c x v):v=.bool b/\∃ t,x=.d t (.bool b):=by
 cases x<;>simp only[AV.truth] at h<;>first|cases h|skip
 split at h<;>first|(cases h;done)|skip
 have:=wF h;subst this;exact⟨B3 k,_,rfl⟩
def mf{x:D}{n k:Nat}(h:x.idx n=some k):∃ a,x=.int a k/\k<n:=by
 cases x<;>simp only[D.idx] at h<;>first|cases h|skip
 rename_i a i;split at h
 ·rename_i b;simp only[zda] at h;refine⟨a,?_,j1⟩
  grind
 ·cases h
def qa{x:D}{k:Nat}(h:x.natOf=some k):∃ a,x=.int a k:=by
 cases x<;>simp only[D.natOf] at h<;>first|cases h|skip
 rename_i a i;split at h
 ·simp only[zda] at h;refine⟨a,?_⟩;grind
 ·cases h
def Fq{x:D}{l:List D}(h:x.asSl=some l):x=.sl l:=by
 cases x<;>simp[D.asSl] at h
 simp_all
def we{c:Cx}{t:Ty}{id:Nat}{v:Value}(a:vF (c.ob id)=true)(na:∀ cs,v≠.agg cs)(h:AC c (.ptr t id []) v.cells.toList):∃ b,v=.pointer (some ⟨b,0,none⟩)/\c.γ id=some b:=by
 simp only[AC] at h;obtain⟨b,off,h1,e,f⟩:=h;unfold vF at a;split at a<;>first|(cases a;done)|skip
 all_goals
  rename_i d;obtain⟨_,g⟩:=f _ d;have:off=0:=g;subst this;exact⟨b,ar na h1,e⟩
theorem rj{c:Cx}:∀ (l:List AV) (caps:List Value),uB l=true->(l.all (λa=>match a with|.ptr _ id _=>vF (c.ob id)|_=>false))=true->mN c l caps->mO c l caps
 | [],caps,_,_,h=>by simp only[mN] at h;subst h;trivial
 | x::l,caps,hw,d,h=>by
  simp only[mN] at h;obtain⟨v,c2,rfl,h1,f⟩:=h;simp only[zyb,zaa] at d;unfold uB at hw;split at hw<;>first|(cases hw;done)|skip
  ·simp_all
  ·rename_i t id l' e;cases e;refine⟨?_,rj l c2 hw d.2 f⟩;have na:∀ cs,v≠.agg cs:=λcs e=>by
    simp only[AC] at h1;obtain⟨b,off,q,_⟩:=h1;subst e;simp at q
   have g:=we d.1 na (v:=v) (by
    have q:=h1;simp only[AC] at q;obtain⟨b,off,q,_⟩:=q;have:v=.pointer (some ⟨b,off,none⟩):=by simpa using q
    subst this;exact h1)
   exact g
def De{c:Cx}{f:Nat}{l:List AV}{v:Value}(h:AR c (.clo f l) v):fi c (if uB l&&l.all (λa=>match a with|.ptr _ id _=>vF (c.ob id)|_=>false) then .clo f l else .undef) v:=by
 split
 ·rename_i hc;simp only[zaa] at hc;simp only[AR,AC] at h;obtain⟨na,caps,h1,b⟩:=h;simp only[fi];exact⟨caps,ar na h1,rj l caps hc.1 hc.2 b⟩
 ·simp only[fi]
def Df{c:Cx}{a vt:Ty}{id:Nat}{v:Value}(h:AR c (.map a vt id) v):fi c (.map a vt id) v:=by simp only[AR,AC] at h;obtain⟨na,b,h1,d,e,f,_⟩:=h;exact⟨b,ar na h1,d,e,f⟩
def Dd{c:Cx}{a:AV}{v:Value}(h:kI (iX c.ob a)=true)(k:AR c a v):fi c (iX c.ob a) v/\v.oneCell'=true:=by
 have key:kI a=true:=by
  cases a<;>simp only[iX] at h<;>first|rfl|(cases h;done)|skip
  rename_i t id p;cases p<;>simp only at h
  ·split at h<;>cases h
  ·cases h
 refine⟨?_,Lo key k⟩;cases a<;>simp only[kI] at key<;>first|(cases key;done)|skip
 ·exact De k
 ·exact Df k
 ·exact k
def Cr{c:Cx}{x:AV}{v:Value}{dd:List Nat}(h:se c x v)(hp:fH (j7 c.ob x)=true):AC ⟨c.w,c.S,c.γ,c.β,c.ob,dd⟩ (j7 c.ob x) [v]/\∀ cs,v≠.agg cs:=by
 unfold se at h;split at h
 ·rename_i t id;obtain⟨b,rfl,d⟩:=h;refine⟨?_,λcs e=>by cases e⟩
  simp only[j7] at hp ⊢;cases ho:c.ob id with
  | none=>rw[ho] at hp;simp[fH] at hp
  | some o=>
   rw[ho] at hp;cases o<;>simp only[fH] at hp<;>first|(cases hp;done)|skip
   all_goals
    simp only[AC];refine⟨b,0,rfl,d,λo' a=>?_⟩;have:some o'=some _:=a.symm.trans ho;cases this;exact⟨rfl,rfl⟩
 ·exact h.elim
theorem yH{c:Cx}{dd:List Nat}:∀ {l:List AV} {vs:List Value},mO c l vs->(l.map (j7 c.ob)).all fH=true->mN ⟨c.w,c.S,c.γ,c.β,c.ob,dd⟩ (l.map (j7 c.ob)) vs
 | [],[],_,_=>by simp[mN]
 | [],_::_,h,_=>h.elim
 | _::_,[],h,_=>h.elim
 | x::l,v::vs,h,hp=>by simp only[znb,zyb,zaa] at hp;simp only[znb,mN];exact⟨v,vs,rfl,(Cr h.1 hp.1).1,yH h.2 hp.2⟩
def yG{c:Cx}{x:AV}{v:Value}{dd:List Nat}(h:fi c x v):AR ⟨c.w,c.S,c.γ,c.β,c.ob,dd⟩ (mR c.ob x) v:=by
 cases x<;>simp only[fi] at h<;>simp only[mR]<;>first|(simp only[AR];done)|skip
 case d t y=>simpa only[AR] using h
 case fptr t y=>simpa only[AR,AC] using h
 case ptr t id p=>
  cases hp:fH (j7 c.ob (.ptr t id p)) with
  | true=>
   obtain⟨q,z⟩:=Cr (dd:=dd) h hp;have r:v.cells.toList=[v]:=by
    unfold se at h;split at h
    ·obtain⟨b,rfl,_⟩:=h;rfl
    ·exact h.elim
   cases hx:j7 c.ob (.ptr t id p)<;>rw[hx] at hp q<;>simp only[fH] at hp<;>first|(cases hp;done)|skip
   simp_all [AR,r]
  | false=>
   have:j7 c.ob (.ptr t id p)=.undef:=by unfold j7 at hp ⊢;all_goals grind [fH]
   simp_all [AR]
 case clo f l=>
  obtain⟨caps,rfl,hc⟩:=h;split
  ·rename_i hp;simp only[AR,AC];exact⟨λcs e=>(by cases e),caps,rfl,yH hc hp⟩
  ·simp only[AR]
 case yld id=>simpa only[AR,AC] using h
 case map kt vt id=>
  obtain⟨b,rfl,h1,k,m⟩:=h;split
  ·rename_i s u l n;split
   ·rename_i a;simp only[zaa] at a;have i:=aeK _ _ a.1;have j:=aeK _ _ a.2;subst i;subst j;simp only[AR,AC];refine⟨λcs e=>(by cases e),b,rfl,h1,k,m,λo g=>?_⟩
    have:some o=some _:=g.symm.trans n;cases this;exact⟨l,rfl⟩
   ·simp only[AR]
  ·simp only[AR]
section
variable{P:Program}{E:Env}{w0:Root}{S:Nat->Nat->Prop}{γ:Nat->Option Nat}{β:Nat->Option (Nat×Nat)}{s:St}{a:Act}{w:World}
def iB(P:Program)(E:Env)(w0:Root)(S:Nat->Nat->Prop)(γ:Nat->Option Nat)(β:Nat->Option (Nat×Nat))(s:St)(a:Act)(w:World)(o:Oper):Prop:=
 ∀ (R:Type) (K:AV->Option R) (r:R),qv E s o K=some r->∃ v,K v=some r/\dT P o a w (Qp w0 S γ β s a w o.dst v)
def ks(a:Addr):(Instr.sureAddr (.pointer (some a))).run P w=.ok a w:=rfl
def Lk(h:Rp w0 S γ β s a w){dst x ty pos after guard}:iB P E w0 S γ β s a w ⟨dst,.move x,ty,pos,after,guard⟩:=by intro R K r hq;exact⟨_,hq,.value (v:=a.eval x) (w':=w) (by simp[execOp]) (Qp.same h (aS h x) _)⟩
def Ep(h:Rp w0 S γ β s a w){dst x ty pos after guard}:iB P E w0 S γ β s a w ⟨dst,.assign x,ty,pos,after,guard⟩:=by intro R K r hq;exact⟨_,hq,.value (v:=a.eval x) (w':=w) (by simp[execOp]) (Qp.same h (aS h x) _)⟩
def Ll(h:Rp w0 S γ β s a w){dst c x y ty pos after guard}:iB P E w0 S γ β s a w ⟨dst,.pick c x y,ty,pos,after,guard⟩:=by
 intro R K r hq;simp only[qv] at hq;obtain⟨b,h1,d⟩:=ab hq;obtain⟨e,_⟩:=nV h1 (aS h c);cases b
 ·exact⟨_,by simpa using d,.value (v:=a.eval y) (w':=w) (by simp[execOp,e,asBool]) (Qp.same h (aS h y) _)⟩
 ·exact⟨_,by simpa using d,.value (v:=a.eval x) (w':=w) (by simp[execOp,e,asBool]) (Qp.same h (aS h x) _)⟩
def zV(h:Rp w0 S γ β s a w){dst x ty pos after guard}:iB P E w0 S γ β s a w ⟨dst,.nilCheck x,ty,pos,after,guard⟩:=by
 intro R K r hq;simp only[qv] at hq;have hx:=aS h x;generalize s.opA x=y at *;cases y<;>(try simp only at hq)<;>first|cases hq|skip
 rename_i t id p;refine⟨_,hq,?_⟩;have c:=hx;simp only[AR,AC] at hx;obtain⟨h1,b,off,d,f⟩:=hx;have e:=ar h1 d;exact .value (v:=a.eval x) (w':=w) (by simp[execOp,e]) (Qp.same h c _)
mutual
theorem uE:∀ (t:Ty),ao t=true->AV.fits t (j4 t)=true
 | .int k,_=>bH _ _
 | .bool,_=>bH _ _
 | .str,_=>bH _ _
 | .st ts,hn=>by
  simp only[j4];split
  ·simp only[AV.fits,zaa];exact⟨by have:=aeJ (.st ts);simpa [Ty.beq] using this,jo ts (by simpa [ao] using hn)⟩
  ·exact bH _ _
 | .arr n t,_=>bH _ _
 | .sl t,_=>rfl
 | .tup _,h=>by simp[ao] at h
 | .fn,h=>by simp[ao] at h
theorem jo:∀ (ts:List Ty),aO ts=true->AV.fitss ts (jx ts)=true
 | [],_=>rfl
 | t::ts,h=>by simp only[aO,zaa] at h;simp only[jx,AV.fitss,zaa];exact⟨uE t h.1,jo ts h.2⟩
end
mutual
theorem cK:∀ (t:Ty),ao t=true->wt t (az t)
 | .int k,_=>by simp_all [wt,az]
 | .bool,_=>by simp_all [wt,az]
 | .str,_=>by simp_all [wt,az]
 | .st ts,hn=>by simp only[wt,az];exact⟨_,rfl,nZ ts (by simpa [ao] using hn)⟩
 | .arr n t,hn=>by
  simp only[wt,az];refine⟨_,rfl,s6,λx hx=>?_⟩
  rw[(zld.1 hx).2];exact cK t (by simpa [ao] using hn)
 | .sl t,_=>by simp only[wt,az];exact⟨[],rfl,λx hx=>by simp at hx⟩
 | .tup _,h=>by simp[ao] at h
 | .fn,h=>by simp[ao] at h
theorem nZ:∀ (ts:List Ty),aO ts=true->eu ts (gc ts)
 | [],_=>by simp[eu,gc]
 | t::ts,h=>by simp only[aO,zaa] at h;simp only[gc,eu];exact⟨_,_,rfl,cK t h.1,nZ ts h.2⟩
end
def KC{w:World}{S:Nat->Nat->Prop}{d:D}{v:Value}(h:DQ d v=true):CR w S d v:=by
 cases d<;>cases v<;>simp only[DQ] at h<;>first|cases h|skip
 case int.int k n k' n'=>simp at h;rw[h.1,h.2];exact .int _ _
 case bool.bool b b'=>simp at h;rw[h];exact .bool _
 case str.string x y=>
  have:x=y:=by simpa using h
  rw[this];exact .str _
 case sl.slice l a len cap=> simp only[zaa,List.isEmpty_iff,Option.isNone_iff_eq_none,zia] at h;obtain⟨⟨⟨rfl,rfl⟩,rfl⟩,rfl⟩:=h;exact .sl [] none 0 0 0 (λ_=>undef) (.inl rfl) (zka 0) (λi d c=>by simp[ad2] at c) (λi d c=>by simp[ad2] at c)
theorem cu{w:World}{S:Nat->Nat->Prop}:∀ {a:List D} {cs:List Value},cQ a cs=true->cL w S a cs
 | [],[],_=>cL.nil
 | [],_::_,h=>by simp[cQ] at h
 | _::_,[],h=>by simp[cQ] at h
 | d::a,v::cs,h=>by simp only[cQ,zaa] at h;exact cL.append (cL.single.2 (KC h.1)) (cu h.2)
theorem rn:∀ {a b:List D} {cs:List Value},cQ (a++b) cs=true->cQ a (cs.take a.length)=true/\cQ b (cs.drop a.length)=true
 | [],b,cs,h=>by simpa [cQ] using h
 | d::a,b,[],h=>by simp[cQ] at h
 | d::a,b,v::cs,h=>by
  simp only[zub,cQ,zaa] at h;obtain⟨h1,c⟩:=rn h.2
  simp_all [zOa,zUb,zUc,cQ,zaa]
mutual
theorem Ax{c:Cx}:∀ (t:Ty) (cs:List Value),ao t=true->cQ (az t).flat cs=true->AC c (j4 t) cs
 | .int k,cs,hn,h=>by simp only[j4,AC];exact⟨cK _ hn,hn,cu h⟩
 | .bool,cs,hn,h=>by simp only[j4,AC];exact⟨cK _ hn,hn,cu h⟩
 | .str,cs,hn,h=>by simp only[j4,AC];exact⟨cK _ hn,hn,cu h⟩
 | .st ts,cs,hn,h=>by
  simp only[j4];split
  ·simp only[ao] at hn;simp only[AC];exact⟨hn,jo ts hn,kB ts cs hn (by simpa [az,D.flat] using h)⟩
  ·simp only[AC];exact⟨cK _ hn,hn,cu h⟩
 | .arr n t,cs,hn,h=>by simp only[j4,AC];exact⟨cK _ hn,hn,cu h⟩
 | .sl t,cs,hn,h=>by
  simp only[j4,AC];simp only[az,D.flat] at h
  match cs,h with
  | [],h=>simp[cQ] at h
  | [v],h=>
   simp only[cQ,zaa] at h;have h1:=h.1;cases v<;>simp only[DQ] at h1<;>first|cases h1|skip
   simp_all
  | v::u::cs,h=>simp[cQ] at h
 | .tup _,_,h,_=>by simp[ao] at h
 | .fn,_,h,_=>by simp[ao] at h
theorem kB{c:Cx}:∀ (ts:List Ty) (cs:List Value),aO ts=true->cQ (ad2 (gc ts)) cs=true->il c (jx ts) cs
 | [],cs,_,h=>by grind [gc,ad2,jx,il,cQ]
 | t::ts,cs,hn,h=>by simp only[aO,zaa] at hn;simp only[gc,ad2] at h;obtain⟨h1,h2⟩:=rn h;simp only[jx,il];exact⟨_,_,(zua _ _).symm,Ax t _ hn.1 h1,kB ts _ hn.2 h2⟩
end
end
def jP{R:Type}{c:Cx}{b:Nat}{o:Ob}{p:List Nat}{t:Ty}{K:AV->Option R}{r:R}(k:fN c b o)(d:eC o p=some t)(h:fZ o p K=some r) :
  ∃ a' cs,K a'=some r/\AC c a' cs/\AV.fits t a'=true/\ao t=true/\∀ (i:Nat) (v:Value),cs[i]?=some v->c.w.cell? ⟨b,ci o p+i,none⟩=some v:=by
 cases o
 case mp=>simp[eC] at d
 case lp=>simp[eC] at d
 case fv=>simp[fZ] at h
 case one T v=> simp only[fN] at k;obtain⟨h1,f,_,cs,n,g,u⟩:=k;simp only[eC] at d;simp only[fZ] at h;obtain⟨a',pre,mid,post,e,rfl,s,B,C⟩:=CM p f h1 d g h;refine⟨a',mid,e,B,C,dH p h1 d,λi v q=>?_⟩;rw[cell_of_row _ n];simp only[ci,<-s];grind
 case many T l=>
  simp only[fN] at k;obtain⟨h1,f,_,cs,E,n,g⟩:=k;cases p with
  | nil=>simp[eC] at d
  | cons i p=>
   simp only[eC] at d;simp only[fZ] at h;obtain⟨x,e,s⟩:=ab h;rw[ck e] at g;obtain⟨u,y⟩:=g.split;obtain⟨z,D⟩:=y.split;have hx:=f x (zbb e);obtain⟨a',pre,mid,post,m1,m2,m3,m4,m5⟩:=CM (c:=c) (cs:=(cs.drop (ad2 (l.take i)).length).take x.flat.length) p (bH T x) h1 d (by simp only[AC];exact⟨hx,h1,z⟩) s
   refine⟨a',mid,m1,m4,m5,dH p h1 d,λj v q=>?_⟩;rw[cell_of_row _ n];have hlen:(ad2 (l.take i)).length=i*T.size:=by rw[aK h1 _ (λx hx=>f x (zZa hx))];have:=(zna.1 e).1;simp[zkb (zmc this)]
   simp only[ci,<-m3,zoc];have A:=(zna.1 q).1;have a:((cs.drop (ad2 (l.take i)).length).take x.flat.length)[pre.length+j]?=some v:=by rw[m2,zOb j1,zvb,zeb A];exact q
   have m:=(zna.1 a).1;rw[zjb] at m;rw[zsb j1,zBb,hlen] at a
   rw[show i*T.size+pre.length+j=i*T.size+(pre.length+j) by omega,zeb (zna.1 a).1]
   exact a
section
variable{P:Program}{E:Env}{w0:Root}{S:Nat->Nat->Prop}{γ:Nat->Option Nat}{β:Nat->Option (Nat×Nat)}{s:St}{a:Act}{w:World}
def ii(a:EnvOk P E){T:TypeId}{t:Ty}(h:E.L T=some t)(hn:ao t=true):bL P t T=true:=by
 rcases a.lay T t h with⟨b,rfl⟩|h
 ·simp[ao] at hn
 ·exact h
def jp{c:Cx}{t:Ty}{id:Nat}{p:List Nat}{v:Value}(h:AR c (.ptr t id p) v):∃ b off,v=.pointer (some ⟨b,off,none⟩)/\c.γ id=some b/\∀ o,c.ob id=some o->eC o p=some t/\off=ci o p:=by simp only[AR,AC] at h;obtain⟨h1,b,off,a,d⟩:=h;exact⟨b,off,ar h1 a,d⟩
def fB{c:Cx}{t:Ty}{id:Nat}{p:List Nat}{b off:Nat}(h:c.γ id=some b)(a:∀ o,c.ob id=some o->eC o p=some t/\off=ci o p):AR c (.ptr t id p) (.pointer (some ⟨b,off,none⟩)):=by simp only[AR,AC];exact⟨s6,b,off,rfl,h,a⟩
def wK{c:Cx}{t:Ty}{x:D}{v:Value}(h:AR c (.fptr t x) v):wt t x/\ao t=true/\∃ b off,v=.pointer (some ⟨b,off,none⟩)/\pD c.w c.S b off x.flat:=by simp only[AR,AC] at h;obtain⟨h1,a,h0,b,off,d,e⟩:=h;exact⟨a,h0,b,off,ar h1 d,e⟩
def m9{c:Cx}{t:Ty}{x:D}{b off:Nat}(h:wt t x)(hn:ao t=true)(a:pD c.w c.S b off x.flat):AR c (.fptr t x) (.pointer (some ⟨b,off,none⟩)):=by simp only[AR,AC];exact⟨s6,h,hn,b,off,rfl,a⟩
def Lj(M:EnvOk P E)(h:Rp w0 S γ β s a w){dst T x ty pos after guard}:iB P E w0 S γ β s a w ⟨dst,.load T x,ty,pos,after,guard⟩:=by
 intro R K r hq;simp only[qv] at hq;have hx:=aS h x;cases hfn:E.fnT T with
 | true=>
  rw[hfn] at hq;simp only[cond_true] at hq;split at hq<;>first|cases hq|skip
  rename_i id e;split at hq<;>first|cases hq|skip
  rename_i y k;split at hq<;>first|cases hq|skip
  rw[e] at hx;obtain⟨b,off,B,I,g⟩:=jp hx;obtain⟨_,rfl⟩:=g _ k;obtain⟨_,c,q,u,k3⟩:=h.obs id _ b k I;replace u:=yG (dd:=s.dead) u;exact⟨_,hq,.value (v:=c) (w':=w) (by simp[execOp,B,Ac (M.fnT T hfn) q,ci]) (Qp.same h u _)⟩
 | false=>
 rw[hfn] at hq;simp only[cond_false] at hq;replace hq:=ab hq;obtain⟨t,V,hq⟩:=hq;generalize s.opA x=y at *;cases y<;>(try simp only at hq)<;>first|cases hq|skip
 case ptr t' id p=>
  split at hq<;>first|cases hq|skip
  rename_i j;have:=aeK _ _ j;subst this;replace hq:=ab hq;obtain⟨o,k,hq⟩:=hq;obtain⟨b,off,B,I,g⟩:=jp hx;obtain⟨q,rfl⟩:=g o k;obtain⟨a',cs,m1,m2,m3,m4,m5⟩:=jP (h.obs id o b k I) q hq;obtain⟨m6,m7⟩:=gl _ _ _ m3 m2;obtain⟨v,d,f⟩:=gS (ii M V m4) (w:=w) (b:=b) (off:=ci o p) m6 m7 m5;exact⟨a',m1,.value (v:=v) (w':=w) (by simp[execOp,B,d]) (Qp.same h (uX m3 m2 f) _)⟩
 case fptr t' z=>
  split at hq<;>first|cases hq|skip
  rename_i j;have:=aeK _ _ j;subst this;obtain⟨q,X,b,off,B,cs,u,k3⟩:=wK hx;obtain⟨v,d,f⟩:=gS (ii M V X) (w:=w) (b:=b) (off:=off) (cs:=cs) (by rw[<-u.1];exact ct _ _ q X) u.nag (λi c hc=>(k3 i c hc).2)
  exact⟨_,hq,.value (v:=v) (w':=w) (by simp[execOp,B,d]) (Qp.same h (uX (bH _ _) (by simp only[AC];exact⟨q,X,u⟩) f) _)⟩
 case sub sl e id p lo n=>
  split at hq<;>first|cases hq|skip
  rename_i j;simp only[zaa,zCa] at j;obtain⟨U,j⟩:=j;subst U;have:=aeK _ _ j;subst this;replace hq:=ab hq;obtain⟨o,k,hq⟩:=hq;simp only[AR,AC] at hx;obtain⟨Q,A,b,off,cap,G,I,g⟩:=hx;simp only[zLa,if_false] at G;have B:=ar Q G;obtain⟨m,q,u,rfl⟩:=g o k;obtain⟨a',cs,m1,m2,m3,m4,m5⟩:=jP (h.obs id o b k I) q hq;split at m1<;>first|(cases m1;done)|skip
  rename_i m' C l;split at m1<;>first|(cases m1;done)|skip
  rename_i F;simp only[zaa,zia] at F;have he:=aeK _ _ F.1;subst he;have hm:=nv m3;simp only[Ty.arr.injEq] at hm;simp only[AC] at m2;obtain⟨q1,q2,Y⟩:=m2;simp only[wt] at q1;obtain⟨l0,e0,q4,Z⟩:=q1;cases e0;have O:l=l.take lo++((l.drop lo).take n++(l.drop lo).drop n):=by rw[zua,zua]
  have N:ad2 l=ad2 (l.take lo)++(ad2 ((l.drop lo).take n)++ad2 ((l.drop lo).drop n)):=by
   conv=>lhs;rw[O]
   rw[cg,cg]
  simp only[D.flat] at Y;rw[N] at Y;obtain⟨_,r2⟩:=Y.split;obtain⟨r3,_⟩:=r2.split;have J:(ad2 (l.take lo)).length=lo*C.size:=by rw[aK A _ (λx hx=>Z x (zZa hx)),zjb,zkb j1]
  have L:(ad2 ((l.drop lo).take n)).length=n*C.size:=by rw[aK A _ (λx hx=>Z x (z2b (zZa hx))),zjb,List.length_drop,zkb j1]
  have W:wt (.arr n C) (.st ((l.drop lo).take n)):=by simp only[wt];exact⟨_,rfl,by rw[zjb,List.length_drop,zkb j1],λx hx=>Z x (z2b (zZa hx))⟩
  have H:ao (.arr n C)=true:=by simp only[ao];exact A
  obtain⟨v,d,f⟩:=gS (ii M V H) (w:=w) (b:=b) (off:=ci o p+lo*C.size) (cs:=(cs.drop (ad2 (l.take lo)).length).take (ad2 ((l.drop lo).take n)).length) (by rw[<-r3.1,L];rfl) r3.nag (λi c hc=>by
   have hi:i<(ad2 ((l.drop lo).take n)).length:=by have:=(zna.1 hc).1;rw[zjb] at this;omega
   rw[zsb hi,zBb] at hc;have:=m5 _ c hc;rw[J,<-zEb] at this;exact this)
  exact⟨_,m1,.value (v:=v) (w':=w) (by simp[execOp,B,d]) (Qp.same h (uX (bH _ _) (by simp only[AC];exact⟨W,H,by simp only[D.flat];exact r3⟩) f) _)⟩
def q9{T:TypeId}{d:List Ty}{f:Nat}{u:Ty}(hl:bL P (.st d) T=true)(l:d[f]?=some u)(b off:Nat)(w:World) :
  (Instr.fieldAt T (.pointer (some ⟨b,off,none⟩)) f).run P w=.ok (.pointer (some ⟨b,off+aeN (d.take f),none⟩)) w:=by
 obtain⟨e,h1,h⟩:=iI hl;obtain⟨g,i,j,m,k⟩:=rN h l;have a:e[f]?=some g:=by simpa using i
 have c:u.size≠0:=j1
 simp only[Instr.fieldAt,zla,run_underlying h1,zfa,a,ks,fieldPlace,bY k,c,if_false,zra,j,db,z8a]
theorem jl:∀ (p:List Nat) {t u v:Ty} {i:Nat},aP t p=some u->aP u [i]=some v->aP t (p++[i])=some v
 | [],t,u,v,i,h,k=>by simp_all [aP]
 | j::p,.st b,u,v,i,h,k=>by simp only[aP,zub] at h ⊢;obtain⟨z,h1,a⟩:=ab h;rw[h1];exact jl p a k
 | j::p,.arr n t,u,v,i,h,k=>by simp only[aP,zub] at h ⊢;exact jl p h k
 | j::p,.int _,u,v,i,h,k=>by simp[aP] at h
 | j::p,.bool,u,v,i,h,k=>by simp[aP] at h
 | j::p,.str,u,v,i,h,k=>by simp[aP] at h
 | j::p,.sl _,u,v,i,h,k=>by simp[aP] at h
 | j::p,.tup _,u,v,i,h,k=>by simp[aP] at h
 | j::p,.fn,u,v,i,h,k=>by simp[aP] at h
theorem ij:∀ (p:List Nat) {t u:Ty} {i:Nat},aP t p=some u->aY t (p++[i])=aY t p+aY u [i]
 | [],t,u,i,h=>by simp_all [aP,aY]
 | j::p,.st b,u,i,h=>by simp only[aP,zub] at h ⊢;obtain⟨z,h1,a⟩:=ab h;simp only[aY];rw[show b.getD j .bool=z by simp[List.getD,h1],ij p a,zEb]
 | j::p,.arr n t,u,i,h=>by simp only[aP,zub] at h ⊢;simp only[aY];rw[ij p h,zEb]
 | j::p,.int _,u,i,h=>by simp[aP] at h
 | j::p,.bool,u,i,h=>by simp[aP] at h
 | j::p,.str,u,i,h=>by simp[aP] at h
 | j::p,.sl _,u,i,h=>by simp[aP] at h
 | j::p,.tup _,u,i,h=>by simp[aP] at h
 | j::p,.fn,u,i,h=>by simp[aP] at h
def qb{o:Ob}{p:List Nat}{t u:Ty}{i:Nat}(h:eC o p=some t)(k:aP t [i]=some u):eC o (p++[i])=some u/\ci o (p++[i])=ci o p+aY t [i]:=by
 cases o with
 | one T v=>simp only[eC,ci] at h ⊢;exact⟨jl p h k,ij p h⟩
 | many T l=>
  cases p with
  | nil=>simp[eC] at h
  | cons j p=>simp only[eC,ci,zub] at h ⊢;exact⟨jl p h k,by rw[ij p h,zEb]⟩
 | mp a vt l=>simp[eC] at h
 | lp i q=>simp[eC] at h
 | fv v=>cases p<;>simp[eC] at h;subst h;simp[aP] at k
def xF(m:EnvOk P E)(h:Rp w0 S γ β s a w){dst T x f ty pos after guard}:iB P E w0 S γ β s a w ⟨dst,.fieldAddr T x f,ty,pos,after,guard⟩:=by
 intro R K r hq;simp only[qv] at hq;replace hq:=ab hq;obtain⟨t,n,hq⟩:=hq;have hx:=aS h x;generalize s.opA x=y at *;cases t<;>(try simp only at hq)<;>first|cases hq|skip
 rename_i k;cases y<;>(try simp only at hq)<;>first|cases hq|skip
 case ptr t' id p=>
  split at hq<;>first|cases hq|skip
  rename_i d;have:=aeK _ _ d;subst this;replace hq:=ab hq;obtain⟨u,hu,hq⟩:=hq;obtain⟨b,off,g,J,e⟩:=jp hx;rcases m.lay T _ n with⟨l,c⟩|hl
  ·cases c
  refine⟨_,hq,.value (v:=.pointer (some ⟨b,off+aeN (k.take f),none⟩)) (w':=w) (by simp only[execOp,g,zla,q9 hl hu,zfa,zra]) (Qp.same h (fB J λo H=>?_) _)⟩
  obtain⟨j,rfl⟩:=e o H;have:=qb (i:=f) (u:=u) j (by simp[aP,hu])
  exact⟨this.1,by rw[this.2];simp[aY]⟩
 case fptr t' z=>
  split at hq<;>first|cases hq|skip
  rename_i d;have:=aeK _ _ d;subst this;replace hq:=ab hq;obtain⟨u,hu,hq⟩:=hq;replace hq:=ab hq;obtain⟨L,I,hq⟩:=hq;obtain⟨j,q,b,off,g,C⟩:=wK hx;rcases m.lay T _ n with⟨l,c⟩|hl
  ·cases c
  have G:z.get [f]=some L:=by simp[D.get,I]
  obtain⟨m1,A,B,m2,m3⟩:=iG [f] j q (show aP (.st k) [f]=some u by simp[aP,hu]) G
  rw[m2] at C;have F:=C.part;rw[m3] at F;refine⟨_,hq,.value (v:=.pointer (some ⟨b,off+aeN (k.take f),none⟩)) (w':=w) (by simp only[execOp,g,zla,q9 hl hu,zfa,zra]) (Qp.same h (m9 m1 (bJ (by simpa [ao] using q) hu) ?_) _)⟩
  simpa [aY] using F
def kK{T:TypeId}{n:Nat}{e:Ty}(hl:bL P (.arr n e) T=true){d:IntKind}{k:Nat}(hk:k<n)(b off:Nat)(w:World) :
  (Instr.indexAt T (.pointer (some ⟨b,off,none⟩)) (.int d k)).run P w=.ok (.pointer (some ⟨b,off+k*e.size,none⟩)) w:=by
 obtain⟨u,h1,c⟩:=ef hl;have a:(0:Int)<=(k:Int)/\(k:Int)<(n:Int):=j1
 simp only[Instr.indexAt,asIntOf,pure_bind,zla,run_underlying h1,zfa,ks,zra,a,and_self,if_true,bY c,db,zvc]
def iT{T:TypeId}{e:Ty}(hl:bL P (.sl e) T=true){d:IntKind}{k len cap:Nat}(hk:k<len)(b off:Nat)(w:World) :
  (Instr.indexAt T (.slice (some ⟨b,off,none⟩) len cap) (.int d k)).run P w=.ok (.pointer (some ⟨b,off+k*e.size,none⟩)) w:=by
 obtain⟨u,h1,c⟩:=gZ hl;have a:(0:Int)<=(k:Int)/\(k:Int)<(len:Int):=j1
 simp only[Instr.indexAt,asIntOf,pure_bind,zla,run_underlying h1,zfa,zra,a,and_self,if_true,bY c,db,zvc]
def EZ{c:Cx}{t:Ty}{id:Nat}{v:Value}(h:AR c (.mem t id) v):ao t=true/\∃ b,c.γ id=some b/\∀ o,c.ob id=some o->∃ l cap,o=.many t l/\l.length<=cap/\v=.slice (some ⟨b,0,none⟩) l.length cap:=by simp only[AR,AC] at h;obtain⟨h1,a,b,d,e⟩:=h;refine⟨a,b,d,λo f=>?_⟩;obtain⟨l,cap,g,j,i⟩:=e o f;exact⟨l,cap,g,j,ar h1 i⟩
def jA{c:Cx}{ob:Nat->Option Ob}{e:Ty}{y:AV}{v:Value}{l:List D}(hn:ao e=true)(h:AR c y v)(hl:y.asList ob e=some l):(∀ x∈l,wt e x)/\CR c.w c.S (.sl l) v:=by
 unfold AV.asList at hl;obtain⟨x,h1,d⟩:=ab hl;have:=Fq d;subst this;obtain⟨a,f⟩:=nc (t:=.sl e) (by simpa [ao] using hn) h h1
 simp only[wt] at a;obtain⟨l',b,g⟩:=a;cases b;exact⟨g,f.sl_inv⟩
def E0{c:Cx}{t:Ty}{id lo n:Nat}{p:List Nat}{v:Value}(h:AR c (.sub true t id p lo n) v):∃ b off cap,v=.slice (some ⟨b,off,none⟩) n cap/\c.γ id=some b/\∀ o,c.ob id=some o->∃ m,eC o p=some (.arr m t)/\lo+n<=m/\off=ci o p+lo*t.size:=by simp only[AR,AC] at h;obtain⟨h1,_,b,off,cap,a,d,e⟩:=h;exact⟨b,off,cap,ar h1 (by simpa using a),d,e⟩
def xG(X:EnvOk P E)(h:Rp w0 S γ β s a w){dst T x i ty pos after guard}:iB P E w0 S γ β s a w ⟨dst,.indexAddr T x i,ty,pos,after,guard⟩:=by
 intro R K r hq;simp only[qv] at hq;replace hq:=ab hq;obtain⟨t,Y,hq⟩:=hq;replace hq:=ab hq;obtain⟨ix,U,hq⟩:=hq;have hi:=dG U;have c:=aS h i;rw[hi] at c;have hx:=aS h x;generalize s.opA x=y at *;cases t<;>(try simp only at hq)<;>first|cases hq|skip
 case arr n e=>
  rcases X.lay T _ Y with⟨W,H⟩|hl
  ·cases H
  cases y<;>(try simp only at hq)<;>first|cases hq|skip
  case ptr g id p=>
   split at hq<;>first|cases hq|skip
   rename_i q;have:=aeK _ _ q;subst this;replace hq:=ab hq;obtain⟨k,hk,hq⟩:=hq;obtain⟨Q,f,d⟩:=mf hk;rw[f] at c;obtain⟨kN,_⟩:=dS c;obtain⟨b,off,C,N,j⟩:=jp hx;refine⟨_,hq,.value (v:=.pointer (some ⟨b,off+k*e.size,none⟩)) (w':=w) (by simp only[execOp,C,kN,zla,kK hl d,zfa,zra]) (Qp.same h (fB N λo J=>?_) _)⟩
   obtain⟨F,rfl⟩:=j o J;have:=qb (i:=k) (u:=e) F (by cases e<;>simp[aP])
   exact⟨this.1,by rw[this.2];cases e<;>simp[aY]⟩
  case fptr g z=>
   split at hq<;>first|cases hq|skip
   rename_i q;have:=aeK _ _ q;subst this;replace hq:=ab hq;obtain⟨k,hk,hq⟩:=hq;replace hq:=ab hq;obtain⟨z',M,hq⟩:=hq;obtain⟨Q,f,d⟩:=mf hk;rw[f] at c;obtain⟨kN,_⟩:=dS c;obtain⟨F,Z,b,off,C,O⟩:=wK hx;have hg:z.get [k]=some z':=by simp[D.get,M]
   obtain⟨m1,A,B,m2,m3⟩:=iG [k] F Z (show aP (.arr n e) [k]=some e by cases e<;>simp[aP]) hg
   rw[m2] at O;have I:=O.part;rw[m3] at I;refine⟨_,hq,.value (v:=.pointer (some ⟨b,off+k*e.size,none⟩)) (w':=w) (by simp only[execOp,C,kN,zla,kK hl d,zfa,zra]) (Qp.same h (m9 m1 (by simpa [ao] using Z) ?_) _)⟩
   have:aY (.arr n e) [k]=k*e.size:=by cases e<;>simp[aY]
   rwa [this] at I
 case sl e=>
  rcases X.lay T _ Y with⟨W,H⟩|hl
  ·cases H
  have G:ao e=true:=by have:=aH _ _ hl;simpa [ao] using this
  by_cases hm:∃ g id,y=.mem g id
  ·obtain⟨g,id,rfl⟩:=hm;simp only at hq;split at hq<;>first|cases hq|skip
   rename_i q;have:=aeK _ _ q;subst this;split at hq<;>first|cases hq|skip
   rename_i u l j;replace hq:=ab hq;obtain⟨k,hk,hq⟩:=hq;obtain⟨Q,f,d⟩:=mf hk;rw[f] at c;obtain⟨kN,_⟩:=dS c;obtain⟨_,b,N,L⟩:=EZ hx;obtain⟨l',cap,e1,_,C⟩:=L _ j;cases e1;refine⟨_,hq,.value (v:=.pointer (some ⟨b,0+k*g.size,none⟩)) (w':=w) (by simp only[execOp,C,kN,zla,iT hl d,zfa,zra]) (Qp.same h (fB N λo J=>?_) _)⟩
   have:o=.many g l:=by have:=j.symm.trans J;cases this;rfl
   subst this;exact⟨by cases g<;>simp[eC,aP],by cases g<;>simp[ci,aY]⟩
  ·by_cases hs:∃ sl g id p lo n,y=.sub sl g id p lo n
   ·obtain⟨sl,g,id,p,lo,n,rfl⟩:=hs;simp only at hq;split at hq<;>first|cases hq|skip
    rename_i q;simp only[zaa] at q;obtain⟨rfl,q⟩:=q;have:=aeK _ _ q;subst this;replace hq:=ab hq;obtain⟨k,hk,hq⟩:=hq;obtain⟨Q,f,d⟩:=mf hk;rw[f] at c;obtain⟨kN,_⟩:=dS c;obtain⟨b,off,cap,C,N,j⟩:=E0 hx;refine⟨_,hq,.value (v:=.pointer (some ⟨b,off+k*g.size,none⟩)) (w':=w) (by simp only[execOp,C,kN,zla,iT hl d,zfa,zra]) (Qp.same h (fB N λo J=>?_) _)⟩
    obtain⟨m,F,O,rfl⟩:=j o J;have:=qb (i:=lo+k) (u:=g) F (by cases g<;>simp[aP]<;>omega)
    exact⟨this.1,by rw[this.2];cases g<;>simp[aY]<;>grind⟩
   have V:(y.asList s.ob e).bind (λl=>(ix.2.idx l.length).bind λk=>(l[k]?).bind λy=>K (.fptr e y))=some r:=by cases y<;>first|exact hq|exact z3a ⟨_,_,rfl⟩ hm|exact z3a ⟨_,_,_,_,_,_,rfl⟩ hs
   obtain⟨l,h1,hq⟩:=ab V;replace hq:=ab hq;obtain⟨k,hk,hq⟩:=hq;replace hq:=ab hq;obtain⟨z,M,hq⟩:=hq;obtain⟨Q,f,d⟩:=mf hk;rw[f] at c;obtain⟨kN,_⟩:=dS c;obtain⟨F,O⟩:=jA G hx h1;obtain⟨A,cap,b,off,C,I,k4,k5⟩:=O.elems;have hA:A=some ⟨b,off,none⟩:=by
    rcases I with rfl|I
    ·simp at M
    ·exact I
   rw[ck M] at k5;have k6:=k5.part;rw[aK G _ (λx hx=>F x (zZa hx)),zjb,zkb (zmc d)] at k6;exact⟨_,hq,.value (v:=.pointer (some ⟨b,off+k*e.size,none⟩)) (w':=w) (by simp only[execOp,C,hA,kN,zla,iT hl d,zfa,zra]) (Qp.same h (m9 (F z (zbb M)) G k6) _)⟩
def gT{T:TypeId}{t:Ty}(hl:bL P t T=true){cs:Array Value}{pre mid post:List Value}(a:cs.toList=pre++(mid++post))(hm:mid.length=t.size)(hn:nag mid)(w:World) :
  ∃ v,(part T cs pre.length).run P w=.ok v w/\gj t mid v:=by
 have e:cs=(pre++(mid++post)).toArray:=by rw[<-a]
 subst e;unfold part;rw[zla,CQ hl,zfa];cases ha:cW t
 ·have h1:mid.length=1:=by
   rw[hm];cases t<;>simp[cW] at ha<;>first|rfl|(exfalso;exact vG hl (.inl ⟨_,rfl⟩))
  match mid,h1 with
  | [c],_=>
   have b:=hn c s6
   refine⟨c,?_,?_,?_,?_⟩
   ·simp
   ·cases c<;>simp_all [Value.cells,Value.oneCell']
   ·simp_all
   ·grind [Value.oneCell']
 ·refine⟨.agg mid.toArray,?_,rfl,λ_=>⟨_,rfl⟩,by rw[ha];intro h;cases h⟩
  simp only[if_true,zla,bY hl,zfa,zra]
  simp_all
def Hc(M:EnvOk P E)(h:Rp w0 S γ β s a w){dst T x f ty pos after guard}:iB P E w0 S γ β s a w ⟨dst,.field T x f,ty,pos,after,guard⟩:=by
 intro R K r hq;simp only[qv] at hq;replace hq:=ab hq;obtain⟨t,Q,hq⟩:=hq;have hx:=aS h x;generalize s.opA x=y at *;cases t<;>(try simp only at hq)<;>first|cases hq|skip
 rename_i X;cases y<;>(try simp only at hq)<;>first|cases hq|skip
 rename_i Z z;split at hq<;>first|cases hq|skip
 rename_i N;have:=aeK _ _ N;subst this;replace hq:=ab hq;obtain⟨u,hu,hq⟩:=hq;replace hq:=ab hq;obtain⟨q,U,hq⟩:=hq;rcases M.lay T _ Q with⟨Y,m⟩|hl
 ·cases m
 have hn:=aH _ _ hl;obtain⟨n,V⟩:=yo hx hn;have O:z.get [f]=some q:=by simp[D.get,U]
 obtain⟨m1,A,B,m2,m3⟩:=iG [f] n hn (show aP (.st X) [f]=some u by simp[aP,hu]) O
 obtain⟨W,F⟩:=V;rw[m2] at F;obtain⟨o,p⟩:=F.split;obtain⟨j,G⟩:=p.split;obtain⟨H,h1,I⟩:=iI hl;obtain⟨g,J,L,_,C⟩:=rN I hu;have c:=aH _ _ C;obtain⟨cs,b⟩:∃ cs,a.eval x=.agg cs:=by simp only[wt] at n;obtain⟨l,rfl,_⟩:=n;exact W
 rw[b] at o p j G;simp only[Value.cells] at o p j G;obtain⟨v,e,i⟩:=gT C (cs:=cs) (pre:=cs.toList.take A.length) (mid:=(cs.toList.drop A.length).take q.flat.length) (post:=(cs.toList.drop A.length).drop q.flat.length)
  (by simp only[zua]) (by rw[<-j.1];exact ct _ _ m1 c) j.nag w
 have d:g.offset=(cs.toList.take A.length).length:=by rw[<-o.1,m3,L];simp[aY]
 have k:H[f]?=some g:=by simpa using J
 exact⟨_,hq,.value (v:=v) (w':=w) (by simp only[execOp,b,Instr.field,zla,run_underlying h1,zfa,k,asAgg,zra,d,e]) (Qp.same h (uX (bH _ _) (by simp only[AC];exact⟨m1,c,j⟩) i) _)⟩
def Hd(X:EnvOk P E)(h:Rp w0 S γ β s a w){dst T x i ty pos after guard}:iB P E w0 S γ β s a w ⟨dst,.index T x i,ty,pos,after,guard⟩:=by
 intro R K r hq;simp only[qv] at hq;replace hq:=ab hq;obtain⟨t,Y,hq⟩:=hq;replace hq:=ab hq;obtain⟨ix,L,hq⟩:=hq;have hi:=dG L;have b:=aS h i;rw[hi] at b;have hx:=aS h x;generalize s.opA x=y at *;cases t<;>(try simp only at hq)<;>first|cases hq|skip
 case str=>
  cases y<;>(try simp only at hq)<;>first|cases hq|skip
  rename_i t' z;split at hq<;>first|cases hq|skip
  rename_i I;have:=aeK _ _ I;subst this;replace hq:=ab hq;obtain⟨G,C,hq⟩:=hq;rcases X.lay T _ Y with⟨W,d⟩|hl
  ·cases d
  obtain⟨f,Q⟩:=yo hx rfl;simp only[wt] at f;obtain⟨sb,rfl⟩:=f;obtain⟨kt,kx⟩:=ix;cases kx<;>(try simp only[aea] at C)<;>first|cases C|skip
  rename_i k n;obtain⟨bb,J,g⟩:=ab C;simp only[zda] at g;subst g;obtain⟨kN,_⟩:=dS b;have O:a.eval x=.string sb:=by obtain⟨c1,c2⟩:=Q;obtain⟨c,e,h⟩:=cL.single' c2;have:=ar c1 e;rw[this];cases h;rfl
  have hu:P.underlying T=some .string:=by simp only[bL,zaa] at hl;all_goals grind
  exact⟨_,hq,.value (v:=.int .u8 bb.toNat) (w':=w) (by simp only[execOp,O,kN,Instr.index,asIntOf,pure_bind,zla,run_underlying hu,zfa,J,zra]) (Qp.same h (cz _ _) _)⟩
 rename_i n e;cases y<;>(try simp only at hq)<;>first|cases hq|skip
 rename_i t' z;split at hq<;>first|cases hq|skip
 rename_i I;have:=aeK _ _ I;subst this;replace hq:=ab hq;obtain⟨k,hk,hq⟩:=hq;replace hq:=ab hq;obtain⟨G,C,hq⟩:=hq;obtain⟨kk,N,ad⟩:=mf hk;rw[N] at b;obtain⟨kN,_⟩:=dS b;rcases X.lay T _ Y with⟨W,d⟩|hl
 ·cases d
 have hn:=aH _ _ hl;obtain⟨f,Q⟩:=yo hx hn;have hg:z.get [k]=some G:=by simp[D.get,C]
 obtain⟨m1,A,B,m2,m3⟩:=iG [k] f hn (show aP (.arr n e) [k]=some e by cases e<;>simp[aP]) hg
 obtain⟨k3,Z⟩:=Q;rw[m2] at Z;obtain⟨U,V⟩:=Z.split;obtain⟨F,k8⟩:=V.split;obtain⟨u,h1,H⟩:=ef hl;have m:=aH _ _ H;obtain⟨cs,j⟩:∃ cs,a.eval x=.agg cs:=by simp only[wt] at f;obtain⟨l,rfl,_⟩:=f;exact k3
 rw[j] at U V F k8;simp only[Value.cells] at U V F k8;obtain⟨v,p,q⟩:=gT H (cs:=cs) (pre:=cs.toList.take A.length) (mid:=(cs.toList.drop A.length).take G.flat.length) (post:=(cs.toList.drop A.length).drop G.flat.length)
  (by simp only[zua]) (by rw[<-F.1];exact ct _ _ m1 m) F.nag w
 have o:k*e.size=(cs.toList.take A.length).length:=by rw[<-U.1,m3];cases e<;>simp[aY]
 have M:(0:Int)<=(k:Int)/\(k:Int)<(n:Int):=j1
 exact⟨_,hq,.value (v:=v) (w':=w) (by simp only[execOp,j,kN,Instr.index,asIntOf,pure_bind,zla,run_underlying h1,zfa,M,and_self,if_true,bY H,zvc,o,p,zra]) (Qp.same h (uX (bH _ _) (by simp only[AC];exact⟨m1,m,F⟩) q) _)⟩
end
def Cu:BinOp->Bool
 | .eql|.neq|.lss|.leq|.gtr|.geq=>true
 | _=>false
section
variable{P:Program}{E:Env}{w0:Root}{S:Nat->Nat->Prop}{γ:Nat->Option Nat}{β:Nat->Option (Nat×Nat)}{s:St}{a:Act}{w:World}
def Kg{op:BinOp}{k b:IntKind}{x y:Int}{z:D}(T:TypeId)(w:World)(h:adW op (.int k x) (.int b y)=some z) :
  (Cu op=true/\∃ c,z=.bool c/\(binOp op T (.int k x) (.int b y)).run P w=.ok (.bool c) w)\/(Cu op=false/\∃ n,z=.int k n/\(binOp op T (.int k x) (.int b y)).run P w=.ok (.int k n) w):=by
 cases op<;>simp only[adW,adX] at h
 case shl=>
     split at h<;>first|(cases h;done)|skip
     rename_i a;simp only[zda] at h;exact .inr ⟨rfl,_,h.symm,by simp[binOp,Op.shift,a]⟩
 case shr=>
     split at h<;>first|(cases h;done)|skip
     rename_i a;simp only[zda] at h;exact .inr ⟨rfl,_,h.symm,by simp[binOp,Op.shift,a]⟩
 case quo=>
  split at h<;>first|(cases h;done)|skip
  rename_i hk;subst hk;split at h<;>first|(cases h;done)|skip
  rename_i a;simp only[zda] at h;exact .inr ⟨rfl,_,h.symm,by simp[binOp,Op.intDiv,a]⟩
 case rem=>
  split at h<;>first|(cases h;done)|skip
  rename_i hk;subst hk;split at h<;>first|(cases h;done)|skip
  rename_i a;simp only[zda] at h;exact .inr ⟨rfl,_,h.symm,by simp[binOp,Op.intDiv,a]⟩
 all_goals (split at h<;>first|(cases h;done)|skip)
 all_goals (rename_i hk;subst hk)
 all_goals (simp only[zda] at h)
 all_goals first
  | (refine .inl ⟨rfl,_,h.symm,?_⟩;simp[binOp,Op.intCmp];done)
  | (refine .inr ⟨rfl,_,h.symm,?_⟩;simp[binOp,Op.intArith];done)
  | (refine .inr ⟨rfl,_,h.symm,?_⟩;simp only[binOp,ne_eq,not_true_eq_false,if_false];rfl)
def ff(op:BinOp)(T:TypeId)(x y:Operand)(k a:IntKind)(u v:Int)(w:World):(eqGuard op T x y (.int k u) (.int a v)).run P w=.ok () w:=by cases op<;>simp[eqGuard]
def jS(op:BinOp)(T:TypeId)(x y:Operand)(u v:Bool)(w:World):(eqGuard op T x y (.bool u) (.bool v)).run P w=.ok () w:=by cases op<;>simp[eqGuard]
def eQ{t:Ty}{c v:Value}(h:gj t [c] v)(a:cW t=false):v=c:=ar (h.2.2 a) h.1
def io{t:Ty}{cs:List Value}{v:Value}(h:gj t cs v)(a:cW t=true):v=.agg cs.toArray:=by obtain⟨xs,rfl⟩:=h.2.1 a;have:=h.1;simp only[Value.cells] at this;rw[<-this]
theorem yr:∀ (n:Nat) {l l':List D},l.length=n->l'.length=n->D.beqs l l'=(List.range n).all λj=>D.beq (l.getD j (.bool false)) (l'.getD j (.bool false))
 | 0,[],[],_,_=>rfl
 | n+1,x::l,y::l',h,a=>by
  simp only[D.beqs,zDd,zyb,List.all_map];rw[yr n (by simpa using h) (by simpa using a)]
  rfl
mutual
theorem oH:∀ (ty:Ty) (T:TypeId) (x y:D) (cx cy:List Value) (vx vy:Value) (d:Nat),bL P ty T=true->bE ty=true->ty.high<=d->wt ty x->wt ty y->cL w S x.flat cx->cL w S y.flat cy->gj ty cx vx->gj ty cy vy ->
  ∀ w',(Op.equalIn d T vx vy).run P w'=.ok (D.beq x y) w'
 | .int k,T,x,y,cx,cy,vx,vy,d,hl,_,hd,hx,hy,rx,ry,ix,iy,w'=>by
  simp only[wt] at hx hy;obtain⟨n,rfl⟩:=hx;obtain⟨m,rfl⟩:=hy;obtain⟨c1,rfl,r1⟩:=rx.single';obtain⟨c2,rfl,r2⟩:=ry.single';rw[eQ ix rfl,eQ iy rfl,r1.int_inv,r2.int_inv];obtain⟨d,rfl⟩:∃ e,d=e+1:=⟨d-1,by simp only[Ty.high] at hd;omega⟩
  rw[run_equalIn_int w' d T k k n m (jk hl)];simp only[D.beq,decide_true,zrb];rfl
 | .bool,T,x,y,cx,cy,vx,vy,d,hl,_,hd,hx,hy,rx,ry,ix,iy,w'=>by
  simp only[wt] at hx hy;obtain⟨n,rfl⟩:=hx;obtain⟨m,rfl⟩:=hy;obtain⟨c1,rfl,r1⟩:=rx.single';obtain⟨c2,rfl,r2⟩:=ry.single';rw[eQ ix rfl,eQ iy rfl,r1.bool_inv,r2.bool_inv];obtain⟨d,rfl⟩:∃ e,d=e+1:=⟨d-1,by simp only[Ty.high] at hd;omega⟩
  have hu:P.underlying T=some .bool:=by simp only[bL,zaa] at hl;all_goals grind
  rw[run_equalIn_bool' w' d T n m hu];rfl
 | .st ts,T,x,y,cx,cy,vx,vy,d,hl,hc,hd,hx,hy,rx,ry,ix,iy,w'=>by
  simp only[wt] at hx hy;obtain⟨l,rfl,hx⟩:=hx;obtain⟨l',rfl,hy⟩:=hy;rw[io ix rfl,io iy rfl];obtain⟨fs,h1,h2⟩:=iI hl;have h3:P.fieldsOf T=fs:=by simp[Program.fieldsOf,h1]
  have h4:P.stoodInHeld T=false:=by simp_all [bL,zaa,zCa]
  simp only[Ty.high] at hd;obtain⟨d,rfl⟩:∃ e,d=e+1:=⟨d-1,j1⟩
  rw[run_equalIn_struct w' d T _ _ (by rw[h3];exact h1) h4,h3]
  simp only[bE] at hc;simp only[D.beq];simp only[D.flat] at rx ry;exact qw ts fs.toList 0 l l' [] cx [] cy _ _ d h2 hc j1 hx hy rx ry rfl rfl rfl rfl w'
 | .arr n t,T,x,y,cx,cy,vx,vy,d,hl,hc,hd,hx,hy,rx,ry,ix,iy,w'=>by
  simp only[wt] at hx hy;obtain⟨l,rfl,hxl,hx⟩:=hx;obtain⟨l',rfl,hyl,hy⟩:=hy;rw[io ix rfl,io iy rfl];obtain⟨u,h1,h2⟩:=ef hl;obtain⟨i,z,h3,h4,_⟩:=eG (fI h2);simp only[Ty.high] at hd;obtain⟨d,rfl⟩:∃ e,d=e+1:=⟨d-1,j1⟩
  rw[run_equalIn_array w' d _ _ h1 h3];simp only[bE] at hc;simp only[D.beq];simp only[D.flat] at rx ry;have hcell:P.cellsOf u=t.size:=by simp[Program.cellsOf,h3,h4]
  have hn:=aH _ _ h2;rw[yr n hxl hyl];have key:∀ (is:List Nat) (w':World),(∀ j∈is,j<n)->(Op.eqItems d u (P.cellsOf u) cx.toArray cy.toArray is).run P w'=.ok (is.all λj=>D.beq (l.getD j (.bool false)) (l'.getD j (.bool false))) w':=by
   intro is
   induction is with
   | nil=>intro w' _;simp[Op.eqItems]
   | cons j is ih=>
    intro w' hj;have hjn:=hj j s6
    have e1:l[j]?=some (l.getD j (.bool false)):=by simp_all
    have e2:l'[j]?=some (l'.getD j (.bool false)):=by simp_all
    generalize l.getD j (.bool false)=dx at *;generalize l'.getD j (.bool false)=dy at *;have wx:=hx dx (zbb e1);have wy:=hy dy (zbb e2);have rx':=rx;have ry':=ry;rw[ck e1] at rx';rw[ck e2] at ry';obtain⟨p1,p2⟩:=rx'.split;obtain⟨p3,p4⟩:=p2.split;obtain⟨q1,q2⟩:=ry'.split;obtain⟨q3,q4⟩:=q2.split;have o1:(cx.take (ad2 (l.take j)).length).length=j*t.size:=by rw[<-p1.1,aK hn _ (λx hx'=>hx x (zZa hx')),zjb,zkb j1]
    have o2:(cy.take (ad2 (l'.take j)).length).length=j*t.size:=by rw[<-q1.1,aK hn _ (λx hx'=>hy x (zZa hx')),zjb,zkb j1]
    obtain⟨v1,r1,i1⟩:=gT h2 (cs:=cx.toArray) (pre:=cx.take (ad2 (l.take j)).length) (mid:=(cx.drop (ad2 (l.take j)).length).take dx.flat.length) (post:=(cx.drop (ad2 (l.take j)).length).drop dx.flat.length)
     (by simp only[zua]) (by rw[<-p3.1];exact ct _ _ wx hn) p3.nag w'
    obtain⟨v2,r2,i2⟩:=gT h2 (cs:=cy.toArray) (pre:=cy.take (ad2 (l'.take j)).length) (mid:=(cy.drop (ad2 (l'.take j)).length).take dy.flat.length) (post:=(cy.drop (ad2 (l'.take j)).length).drop dy.flat.length)
     (by simp only[zua]) (by rw[<-q3.1];exact ct _ _ wy hn) q3.nag w'
    rw[o1,<-hcell] at r1;rw[o2,<-hcell] at r2;have r3:=oH t u dx dy _ _ v1 v2 d h2 hc j1 wx wy p3 q3 i1 i2 w'
    simp only[Op.eqItems,zla,r1,r2,r3,zfa,zyb];have e1':l[j]?.getD (.bool false)=dx:=by rw[e1];rfl
    have e2':l'[j]?.getD (.bool false)=dy:=by rw[e2];rfl
    have ih':=ih w' (λk hk=>hj k (by simp[hk]))
    simp only[List.getD,e1',e2'];cases D.beq dx dy
    ·simp
    ·simpa [List.getD] using ih'
  exact key _ w' (λj hj=>by simpa using hj)
 | .str,_,_,_,_,_,_,_,_,_,hc,_,_,_,_,_,_,_,_=>by simp[bE] at hc
 | .sl _,_,_,_,_,_,_,_,_,_,hc,_,_,_,_,_,_,_,_=>by simp[bE] at hc
 | .tup _,_,_,_,_,_,_,_,_,_,hc,_,_,_,_,_,_,_,_=>by simp[bE] at hc
 | .fn,_,_,_,_,_,_,_,_,_,hc,_,_,_,_,_,_,_,_=>by simp[bE] at hc
theorem qw:∀ (ts:List Ty) (fs:List Field) (off:Nat) (l l':List D) (px cx py cy:List Value) (xs ys:Array Value) (d:Nat),fU P ts fs off=true->lj ts=true->aeM ts<=d->eu ts l->eu ts l'->cL w S (ad2 l) cx->cL w S (ad2 l') cy ->
  xs.toList=px++cx->px.length=off->ys.toList=py++cy->py.length=off->∀ w',(Op.eqFields d xs ys fs).run P w'=.ok (D.beqs l l') w'
 | [],fs,off,l,l',px,cx,py,cy,xs,ys,d,hf,_,_,hx,hy,_,_,_,_,_,_,w'=>by
  simp only[eu] at hx hy;subst hx;subst hy;cases fs with
  | nil=>simp[Op.eqFields,D.beqs]
  | cons f fs=>simp[fU] at hf
 | t::ts,[],off,l,l',px,cx,py,cy,xs,ys,d,hf,_,_,hx,hy,_,_,_,_,_,_,w'=>by simp[fU] at hf
 | t::ts,f::fs,off,l,l',px,cx,py,cy,xs,ys,d,hf,hc,hd,hx,hy,rx,ry,ex,lx,ey,ly,w'=>by
  simp only[fU,zaa,zia] at hf;obtain⟨⟨⟨⟨h1,h2⟩,h3⟩,h4⟩,h5⟩:=hf;simp only[eu] at hx hy;obtain⟨dx,l,rfl,hx1,hx2⟩:=hx;obtain⟨dy,l',rfl,hy1,hy2⟩:=hy;simp only[ad2] at rx ry;obtain⟨p3,p4⟩:=rx.split;obtain⟨q3,q4⟩:=ry.split;have hn:=aH _ _ h4;simp only[lj,zaa] at hc;simp only[aeM] at hd;obtain⟨v1,r1,i1⟩:=gT h4 (cs:=xs) (pre:=px) (mid:=cx.take dx.flat.length) (post:=cx.drop dx.flat.length) (by rw[ex,zua]) (by rw[<-p3.1];exact ct _ _ hx1 hn) p3.nag w'
  obtain⟨v2,r2,i2⟩:=gT h4 (cs:=ys) (pre:=py) (mid:=cy.take dy.flat.length) (post:=cy.drop dy.flat.length) (by rw[ey,zua]) (by rw[<-q3.1];exact ct _ _ hy1 hn) q3.nag w'
  rw[lx,<-h1] at r1;rw[ly,<-h1] at r2;have r3:=oH t f.type dx dy _ _ v1 v2 d h4 hc.1 j1 hx1 hy1 p3 q3 i1 i2 w'
  have hs1:(cx.take dx.flat.length).length=t.size:=by rw[<-p3.1];exact ct _ _ hx1 hn
  have hs2:(cy.take dy.flat.length).length=t.size:=by rw[<-q3.1];exact ct _ _ hy1 hn
  have ih:=qw ts fs (off+t.size) l l' (px++cx.take dx.flat.length) (cx.drop dx.flat.length) (py++cy.take dy.flat.length) (cy.drop dy.flat.length) xs ys d h5 hc.2 j1 hx2 hy2 p4 q4
   (by rw[zXa,zua];exact ex) (by rw[zFa,lx,hs1]) (by rw[zXa,zua];exact ey) (by rw[zFa,ly,hs2]) w'
  simp only[Op.eqFields,h2,ne_eq,not_false_eq_true,if_true,zla,r1,r2,r3,zfa,D.beqs];cases D.beq dx dy
  ·simp
  ·simpa using ih
end
def G9(O:EnvOk P E)(h:Rp w0 S γ β s a w){dst op T x y T' ty pos after guard}:iB P E w0 S γ β s a w ⟨dst,.binOp op T x y T',ty,pos,after,guard⟩:=by
 intro R K r hq;simp only[qv] at hq;replace hq:=ab hq;obtain⟨t,Q,hq⟩:=hq;replace hq:=ab hq;obtain⟨u,hu,hq⟩:=hq;replace hq:=ab hq;obtain⟨v,V,hq⟩:=hq;have hx:=aS h x;have l:=aS h y;rw[dG hu] at hx;rw[dG V] at l;have C:∀ (L:Bool),(u.1.beq t&&v.1.beq t&&bE t)=true->∀ (o:BinOp),(o=.eql/\L=false)\/(o=.neq/\L=true) ->
   (execOp a.eval ⟨dst,.binOp o T x y T',ty,pos,after,guard⟩).run P w=.ok (.value (.bool (xor L (D.beq u.2 v.2)))) w:=by
  intro L q o J;simp only[zaa] at q;obtain⟨⟨h1,j⟩,p⟩:=q;have H:=aeK _ _ h1;have I:=aeK _ _ j;rw[H] at hx;rw[I] at l;have hl:bL P t T=true:=by
   rcases O.lay T _ Q with⟨W,rfl⟩|hl
   ·simp[bE] at p
   ·exact hl
  have hn:=aH _ _ hl;obtain⟨A,B⟩:=yo hx hn;obtain⟨m1,m2⟩:=yo l hn;have X:=O.high T _ Q;have i1:gj t (a.eval x).cells.toList (a.eval x):=⟨rfl,nX A hn B.1⟩;have i2:gj t (a.eval y).cells.toList (a.eval y):=⟨rfl,nX m1 hn m2.1⟩;have g:=oH t T u.2 v.2 _ _ _ _ 10000 hl p j1 A m1 B.2 m2.2 i1 i2 w
  cases t<;>simp only[bE] at p<;>first|cases p|skip
  case int k=>
   simp only[wt] at A m1;obtain⟨n,b⟩:=A;obtain⟨m,f⟩:=m1;rw[b] at B hx ⊢;rw[f] at m2 l ⊢;have v1:=B.int_inv;have v2:=m2.int_inv;rcases J with⟨rfl,rfl⟩|⟨rfl,rfl⟩
   ·simp only[execOp,v1,v2,zla,ff,zfa];simp[binOp,Op.intCmp,D.beq];rfl
   ·simp only[execOp,v1,v2,zla,ff,zfa];simp[binOp,Op.intCmp,D.beq];rfl
  case bool=>
   simp only[wt] at A m1;obtain⟨n,b⟩:=A;obtain⟨m,f⟩:=m1;rw[b] at B hx g ⊢;rw[f] at m2 l g ⊢;have v1:=B.bool_inv;have v2:=m2.bool_inv;rw[v1,v2] at g;rcases J with⟨rfl,rfl⟩|⟨rfl,rfl⟩
   ·simp only[execOp,v1,v2,zla,jS,zfa,binOp,Op.equal,Op.maxDepth,g,zra,zOd]
   ·simp only[execOp,v1,v2,zla,jS,zfa,binOp,Op.equal,Op.maxDepth,g,zra,Bool.true_xor]
  case st ts=>
   obtain⟨xs,b⟩:=i1.2.1 rfl;obtain⟨G,f⟩:=i2.2.1 rfl;have F:P.eqGuardType P.depth T=false:=by simp only[bL,zaa,zCa] at hl;exact hl.1.2
   rw[b,f] at g;rcases J with⟨rfl,rfl⟩|⟨rfl,rfl⟩
   ·simp only[execOp,b,f,zla,run_eqGuard_agg w _ T x y xs G F,zfa,binOp,Op.equal,Op.maxDepth,g,zra,zOd]
   ·simp only[execOp,b,f,zla,run_eqGuard_agg w _ T x y xs G F,zfa,binOp,Op.equal,Op.maxDepth,g,zra,Bool.true_xor]
  case arr n e=>
   obtain⟨xs,b⟩:=i1.2.1 rfl;obtain⟨G,f⟩:=i2.2.1 rfl;have F:P.eqGuardType P.depth T=false:=by simp only[bL,zaa,zCa] at hl;exact hl.1.2
   rw[b,f] at g;rcases J with⟨rfl,rfl⟩|⟨rfl,rfl⟩
   ·simp only[execOp,b,f,zla,run_eqGuard_agg w _ T x y xs G F,zfa,binOp,Op.equal,Op.maxDepth,g,zra,zOd]
   ·simp only[execOp,b,f,zla,run_eqGuard_agg w _ T x y xs G F,zfa,binOp,Op.equal,Op.maxDepth,g,zra,Bool.true_xor]
 have ints:∀ {z:D} {o:BinOp},adW o u.2 v.2=some z->∃ k U n m,u.2=.int k n/\v.2=.int U m:=by
  intro z o i;cases N:u.2<;>rw[N] at i<;>cases hv2:v.2<;>rw[hv2] at i<;>simp only[adW] at i<;>first|cases i|skip
  exact⟨_,_,_,_,rfl,rfl⟩
 have main:∀ (o:BinOp) {z:D},adW o u.2 v.2=some z->∃ M,(execOp a.eval ⟨dst,.binOp o T x y T',ty,pos,after,guard⟩).run P w=.ok (.value M) w ∧
   ((Cu o=true->AR ⟨w,S,γ,β,s.ob,s.dead⟩ (.d .bool z) M)/\(Cu o=false->AR ⟨w,S,γ,β,s.ob,s.dead⟩ (.d u.1 z) M)):=by
  intro o z i;obtain⟨k,U,n,m,H,I⟩:=ints i;rw[H,I] at i;rw[H] at hx;rw[I] at l;obtain⟨v1,t1⟩:=dS hx;obtain⟨v2,_⟩:=dS l;rcases Kg (P:=P) T w i with⟨h1,c,rfl,j⟩|⟨h1,c,rfl,j⟩
  ·refine⟨.bool c,by simp only[execOp,v1,v2,zla,ff,zfa,j,zra],λ_=>gm c,λh=>by rw[h1] at h;cases h⟩
  ·refine⟨.int k c,by simp only[execOp,v1,v2,zla,ff,zfa,j,zra],(λh=>by rw[h1] at h;cases h),λ_=>by rw[t1];exact cz k c⟩
 cases op<;>simp only at hq
 case eql=>
  split at hq<;>first|cases hq|skip
  rename_i q;exact⟨_,hq,.value (C false q .eql (.inl ⟨rfl,rfl⟩)) (Qp.same h (by simp only[zOd];exact gm _) _)⟩
 case neq=>
  split at hq<;>first|cases hq|skip
  rename_i q;exact⟨_,hq,.value (C true q .neq (.inr ⟨rfl,rfl⟩)) (Qp.same h (by simp only[Bool.true_xor];exact gm _) _)⟩
 all_goals
  replace hq:=ab hq;obtain⟨z,i,hq⟩:=hq;obtain⟨M,h1,j,p⟩:=main _ i;first
   | exact⟨_,hq,.value h1 (Qp.same h (j rfl) _)⟩
   | exact⟨_,hq,.value h1 (Qp.same h (p rfl) _)⟩
def Lm(h:Rp w0 S γ β s a w){dst op T x ty pos after guard}:iB P E w0 S γ β s a w ⟨dst,.unOp op T x,ty,pos,after,guard⟩:=by
 intro R K r hq;simp only[qv] at hq;replace hq:=ab hq;obtain⟨u,hu,hq⟩:=hq;replace hq:=ab hq;obtain⟨z,d,hq⟩:=hq;have hx:=aS h x;rw[dG hu] at hx;cases hu2:u.2<;>rw[hu2] at d hx<;>simp only[aeb] at d<;>first|cases d|skip
 case int k n=>
  obtain⟨v1,t1⟩:=dS hx;cases op<;>simp only[adX] at d<;>first|cases d|skip
  ·exact⟨_,hq,.value (v:=.int k (k.wrap (0-n))) (w':=w) (by simp[execOp,v1,Op.unary,Op.intArith]) (Qp.same h (by rw[t1];exact cz _ _) _)⟩
  ·exact⟨_,hq,.value (v:=.int k (k.wrap (BitVec.ofInt k.bits (if k.signed then -1 else k.max) ^^^ BitVec.ofInt k.bits n).toNat)) (w':=w) (by simp[execOp,v1,Op.unary,Op.intBits]) (Qp.same h (by rw[t1];exact cz _ _) _)⟩
 case bool b=>
  have v1:=B3 hx;cases op<;>simp only at d<;>first|cases d|skip
  have f:u.1=.bool:=by
   simp only[AR] at hx;rcases hx with⟨_,c,_⟩|⟨g,h1,_,c,_⟩
   ·cases hu1:u.1<;>rw[hu1] at c<;>simp only[wt] at c<;>first
     | rfl
     | (obtain⟨m,e⟩:=c;cases e;done)
     | (obtain⟨m,e,_⟩:=c;cases e;done)
     | (exfalso;exact c)
   ·rw[h1] at c;simp only[wt] at c;obtain⟨l,e,_⟩:=c;cases e
  exact⟨_,hq,.value (v:=.bool (!b)) (w':=w) (by simp[execOp,v1,Op.unary]) (Qp.same h (by rw[f];exact gm _) _)⟩
def Bw(i:EnvOk P E)(h:Rp w0 S γ β s a w){dst U T x ty pos after guard}:iB P E w0 S γ β s a w ⟨dst,.convert U T x,ty,pos,after,guard⟩:=by
 intro R K r hq;simp only[qv] at hq;replace hq:=ab hq;obtain⟨u,hu,hq⟩:=hq;replace hq:=ab hq;obtain⟨t,l,hq⟩:=hq;replace hq:=ab hq;obtain⟨b,j,hq⟩:=hq;have hx:=aS h x;rw[dG j] at hx;cases t<;>(try simp only at hq)<;>first|cases hq|skip
 rename_i k;split at hq<;>first|cases hq|skip
 rename_i d;replace hq:=ab hq;obtain⟨z,e,hq⟩:=hq;cases hb2:b.2<;>rw[hb2] at e hx<;>simp only[D.conv] at e<;>first|cases e|skip
 rename_i m n;obtain⟨v1,t1⟩:=dS hx;have g:=aeK _ _ d;rw[t1] at g;rw[<-g] at hu;rcases i.lay T _ l with⟨f,c⟩|hl
 ·cases c
 rcases i.lay U _ hu with⟨f,c⟩|hl'
 ·cases c
 exact⟨_,hq,.value (v:=.int k (k.wrap n)) (w':=w) (by simp[execOp,convert,v1,run_underlying (jk hl),run_underlying (jk hl'),Conv.intToInt]) (Qp.same h (cz _ _) _)⟩
end
def gU(pre mid post cs:List Value)(h:mid.length=cs.length):dW (pre++(mid++post)).toArray pre.length cs.toArray=(pre++(cs++post)).toArray:=by unfold dW;apply zdc;simp[h];rw[zhc j1]
theorem nY:∀ {a:List D} {c1 c2:List Value},cQ a c1=true->cQ a c2=true->c1=c2
 | [],[],[],_,_=>rfl
 | [],_::_,_,h,_=>by simp[cQ] at h
 | [],[],_::_,_,h=>by simp[cQ] at h
 | _::_,[],_,h,_=>by simp[cQ] at h
 | _::_,_::_,[],_,h=>by simp[cQ] at h
 | d::a,v1::c1,v2::c2,q1,b=>by
  simp only[cQ,zaa] at q1 b;rw[nY q1.2 b.2];congr 1;have a1:=q1.1;have a2:=b.1;cases d<;>cases v1<;>simp only[DQ] at a1<;>first|(cases a1;done)|skip
  all_goals (cases v2<;>simp only[DQ] at a2<;>first|(cases a2;done)|skip)
  all_goals simp_all
section
variable{w:World}{S:Nat->Nat->Prop}
def PV(w:World)(S:Nat->Nat->Prop)(ty:Nat->Option Ty):List (Nat×D)->List (Nat×Value)->Prop
 | [],[]=>True
 | (i,x)::ps,(j,v)::vs=>i=j/\(∃ t,ty i=some t/\wt t x/\ao t=true/\fa w S x v)/\PV w S ty ps vs
 | _,_=>False
theorem rM{place:Nat->Option (Nat×Nat)}{ty:Nat->Option Ty}{off:Nat->Nat}{Good:List D->Prop}
  (d:∀ l i t z,Good l->ty i=some t->wt t z->Good (l.set i z))
  (c:∀ l i t,Good l->ty i=some t->∃ y,l[i]?=some y/\wt t y/\(ad2 (l.take i)).length=off i)
  (a:∀ i t,ty i=some t->place i=some (off i,t.size)) :
  ∀ (ps:List (Nat×D)) (vs:List (Nat×Value)) (l:List D) (cs:List Value),Good l->cL w S (ad2 l) cs->PV w S ty ps vs ->
   ∃ b:List Value,kE place cs.toArray vs=some b.toArray/\Good (ad9 l ps)/\cL w S (ad2 (ad9 l ps)) b
 | [],[],l,cs,f,hc,_=>⟨cs,rfl,f,hc⟩
 | [],_::_,_,_,_,_,h=>by simp[PV] at h
 | _::_,[],_,_,_,_,h=>by simp[PV] at h
 | (i,x)::ps,(j,v)::vs,l,cs,f,hc,h=>by
  simp only[PV] at h;obtain⟨rfl,⟨t,h1,k,m,n⟩,u⟩:=h;obtain⟨y,o,A,B⟩:=c l i t f h1;rw[ck o] at hc;obtain⟨c1,c2⟩:=hc.split;obtain⟨r,s⟩:=c2.split;have e:cs=cs.take (ad2 (l.take i)).length++((cs.drop (ad2 (l.take i)).length).take y.flat.length++(cs.drop (ad2 (l.take i)).length).drop y.flat.length):=by simp only[zua]
  have p:(cs.take (ad2 (l.take i)).length).length=off i:=by rw[<-c1.1,B]
  have C:((cs.drop (ad2 (l.take i)).length).take y.flat.length).length=t.size:=by rw[<-r.1];exact ct _ _ A m
  have q:v.cells.toList.length=t.size:=by rw[<-n.2.1];exact ct _ _ k m
  have g:cL w S (ad2 (l.set i x)) (cs.take (ad2 (l.take i)).length++(v.cells.toList++(cs.drop (ad2 (l.take i)).length).drop y.flat.length)):=by rw[lY o];exact c1.append (n.2.append s)
  obtain⟨b,m1,m2,m3⟩:=rM d c a ps vs (l.set i x) _ (d l i t x f h1 k) g u;refine⟨b,?_,m2,m3⟩;rw[s8 (a i t h1) (by rw[<-zFb];exact q) (by rw[<-p];have:=zxa List.length e;simp only[zFa] at this;simp only[zKc];omega),<-m1]
  congr 1
  conv=>lhs;rw[e]
  have:=gU (cs.take (ad2 (l.take i)).length) ((cs.drop (ad2 (l.take i)).length).take y.flat.length) ((cs.drop (ad2 (l.take i)).length).drop y.flat.length) v.cells.toList (by rw[C,q])
  rw[p] at this;simpa using this
end
section
variable{P:Program}{E:Env}{w0:Root}{S:Nat->Nat->Prop}{γ:Nat->Option Nat}{β:Nat->Option (Nat×Nat)}{s:St}{a:Act}{w:World}
theorem mr(h:Rp w0 S γ β s a w){ty:Nat->Option Ty}(hn:∀ i t,ty i=some t->ao t=true):∀ (ps:List (Nat×Operand)) (l:List (Nat×D)),partsD s.ob s ty ps=some l->PV w S ty l (ps.map λp=>(p.1,a.eval p.2))
 | [],l,hp=>by simp_all [partsD,zda,PV]
 | (i,x)::ps,l,hp=>by simp only[partsD] at hp;replace hp:=ab hp;obtain⟨t,b,hp⟩:=hp;replace hp:=ab hp;obtain⟨y,d,hp⟩:=hp;replace hp:=ab hp;obtain⟨g,c,hp⟩:=hp;simp only[zda] at hp;subst hp;obtain⟨e,f⟩:=nc (hn i t b) (aS h x) d;simp only[znb,PV];exact⟨trivial,⟨t,b,e,hn i t b,f⟩,mr h hn ps g c⟩
def jc{t:Ty}{T:TypeId}(hl:bL P t T=true):∃ z,(∀ w,(zeroValue T).run P w=.ok z w)/\cQ (az t).flat z.cells.toList=true/\((∃ cs,z=.agg cs)↔cW t=true):=by
 obtain⟨i,z,h1,a,b,c,d,e⟩:=eG (fI hl)
 simp_all [zeroValue,typeInfo]
theorem tZ:∀ {b:List Ty} {a:List Field} {off:Nat} (w:World),fU P b a off=true ->
  ((a.mapM λf=>do pure (f.offset,<-sizeOf f.type):Sem (List (Nat×Nat))).run P w=.ok (a.zipWith (λf t=>(f.offset,Ty.size t)) b) w)
 | [],[],_,w,_=>rfl
 | [],_::_,_,_,h=>by simp[fU] at h
 | _::_,[],_,_,h=>by simp[fU] at h
 | t::b,f::a,off,w,h=>by simp only[fU,zaa,zia] at h;obtain⟨⟨⟨⟨h1,e⟩,g⟩,c⟩,d⟩:=h;simp only[zBc,zla,bY c,zfa,zra,tZ w d,List.zipWith_cons_cons]
def El:∀ {a:List Ty} {b:List Field} {off i:Nat} {t:Ty},fU P a b off=true->a[i]?=some t->(b.zipWith (λf t=>(f.offset,Ty.size t)) a)[i]?=some (off+aeN (a.take i),t.size)
 | a,b,off,i,t,h,c=>by obtain⟨f,h1,d,_⟩:=rN h c;grind
def o8{T:TypeId}{a:List Ty}(hl:bL P (.st a) T=true)(vs:Array (Nat×Value))(w:World){r:List Value}
  (e:∀ z:Value,cQ (az (.st a)).flat z.cells.toList=true->kE (λi=>if i<a.length then some (aeN (a.take i),(a.getD i .bool).size) else none) z.cells vs.toList=some r.toArray) :
  (Instr.build T vs).run P w=.ok (.agg r.toArray) w:=by
 obtain⟨b,h1,d⟩:=iI hl;obtain⟨z,j,c,_⟩:=jc hl;have hlen:(b.toList.zipWith (λf t=>(f.offset,Ty.size t)) a).length=a.length:=by
  have:∀ {a:List Ty} {b:List Field} {off:Nat},fU P a b off=true->b.length=a.length:=by
   intro a
   induction a with
   | nil=>intro b off h;cases b<;>simp[fU] at h ⊢
   | cons t a ih=>intro b off h;cases b with
    | nil=>simp[fU] at h
    | cons f b=>simp only[fU,zaa] at h;simp[ih h.2]
  grind
 have hp:(λi=>(b.toList.zipWith (λf t=>(f.offset,Ty.size t)) a).toArray[i]?)=λi=>if i<a.length then some (aeN (a.take i),(a.getD i .bool).size) else none:=by
  funext i;by_cases g:i<a.length
  ·have:=El (i:=i) d (zea g)
   simp_all
  ·simp_all
 have hm:(b.mapM λf=>(do pure (f.offset,<-sizeOf f.type):Sem (Nat×Nat))).run P w=.ok (b.toList.zipWith (λf t=>(f.offset,Ty.size t)) a).toArray w:=by rw[<-z3b (xs:=b),List.mapM_toArray];simp only[Sem.run_map,tZ w d,zfa]
 simp only[Instr.build,zla,j,zfa,run_underlying h1,hm,hp,oJ,e z c,zra]
def kF(n:Nat)(x:D):ad2 (List.replicate n x)=(List.replicate n x.flat).flatten:=by
 induction n with
 | zero=>rfl
 | succ n ih=>simp only[List.replicate_succ,ad2,ih,List.flatten_cons]
def LV(c:Cx)(a:List Ty):List (Nat×AV)->List (Nat×Value)->Prop
 | [],[]=>True
 | (i,x)::ps,(j,v)::vs=>i=j/\(∃ t,a[i]?=some t/\AV.fits t x=true/\AC c x v.cells.toList)/\LV c a ps vs
 | _,_=>False
theorem yY{c:Cx}{b:List Ty}(hn:aO b=true) :
  ∀ (ps:List (Nat×AV)) (vs:List (Nat×Value)) (l:List AV) (cs:List Value),AV.fitss b l=true->il c l cs->LV c b ps vs ->
   ∃ a:List Value,kE (λi=>if i<b.length then some (aeN (b.take i),(b.getD i .bool).size) else none) cs.toArray vs=some a.toArray/\AV.fitss b (mv l ps)=true/\il c (mv l ps) a
 | [],[],l,cs,d,hc,_=>⟨cs,rfl,d,hc⟩
 | [],_::_,_,_,_,_,h=>by simp[LV] at h
 | _::_,[],_,_,_,_,h=>by simp[LV] at h
 | (i,x)::ps,(j,v)::vs,l,cs,d,hc,h=>by
  simp only[LV] at h;obtain⟨rfl,⟨t,h1,e,f⟩,k⟩:=h;obtain⟨y,n,o⟩:=te d h1;obtain⟨pre,mid,post,rfl,m1,m2,m3⟩:=rB d hn hc n;have p:=(gl _ _ _ o m2).1;have g:=(gl _ _ _ e f).1;obtain⟨a,q,r,s⟩:=yY hn ps vs (l.set i x) _ (lX d h1 e) (m3 x _ f) k;refine⟨a,?_,r,s⟩;have m:=(zna.1 h1).1;rw[s8 (off:=aeN (b.take i)) (size:=t.size) (by rw[zja m];simp[List.getD,h1]) (by rw[<-zFb];exact g) (by simp;omega),<-q]
  congr 1;have:=gU pre mid post v.cells.toList (by rw[p,g])
  simp_all
def Ha(L:EnvOk P E)(h:Rp w0 S γ β s a w){dst T ps ty pos after guard}:iB P E w0 S γ β s a w ⟨dst,.build T ps,ty,pos,after,guard⟩:=by
 intro R K r hq;simp only[qv] at hq;replace hq:=ab hq;obtain⟨t,M,hq⟩:=hq;have hex:execOp a.eval ⟨dst,.build T ps,ty,pos,after,guard⟩=(Instr.build T (ps.map λp=>(p.1,a.eval p.2)) >>= λv=>pure (.value v)):=rfl;have o:(ps.map λp=>(p.1,a.eval p.2)).toList=ps.toList.map λp=>(p.1,a.eval p.2):=s6
 cases t<;>(try simp only at hq)<;>first|cases hq|skip
 case st ts=>
  rcases L.lay T _ M with⟨J,q⟩|hl
  ·cases q
  have hn:=aH _ _ hl;simp only[ao] at hn;split at hq
  ·rename_i N;split at hq<;>first|cases hq|skip
   rename_i A;have j:∀ (l:List (Nat×Operand)),l.all (fT s ts)=true->LV ⟨w,S,γ,β,s.ob,s.dead⟩ ts (l.map λp=>(p.1,s.opA p.2)) (l.map λp=>(p.1,a.eval p.2)):=by
    intro l
    induction l with
    | nil=>intro _;simp[LV]
    | cons p l ih=>
     intro G;simp only[zyb,zaa] at G;simp only[znb,LV];refine⟨trivial,?_,ih G.2⟩;have h1:=G.1;unfold fT at h1;split at h1<;>first|cases h1|skip
     rename_i u hu;exact⟨u,hu,h1,(yn h1 (bJ hn hu) (aS h p.2)).1⟩
   obtain⟨z,k,f,_⟩:=jc hl;have I:il ⟨w,S,γ,β,s.ob,s.dead⟩ (jx ts) z.cells.toList:=kB ts _ hn (by simpa [az,D.flat] using f)
   obtain⟨b,m1,m2,m3⟩:=yY hn _ _ _ _ (jo ts hn) I (j ps.toList A);have d:(Instr.build T (ps.map λp=>(p.1,a.eval p.2))).run P w=.ok (.agg b.toArray) w:=by
    obtain⟨Q,h1,C⟩:=iI hl;refine o8 hl _ w (r:=b) λF m=>?_;have O:il ⟨w,S,γ,β,s.ob,s.dead⟩ (jx ts) F.cells.toList:=kB ts _ hn (by simpa [az,D.flat] using m)
    have:F.cells=z.cells:=zdc (nY m f)
    simp_all
   exact⟨_,hq,.value (v:=.agg b.toArray) (w':=w) (by rw[hex];simp only[zla,d,zfa,zra]) (Qp.same h (by simp only[AR];exact⟨⟨_,rfl⟩,by simp only[AC];exact⟨hn,m2,by simpa [Value.cells] using m3⟩⟩) _)⟩
  ·replace hq:=ab hq;obtain⟨l,hp,hq⟩:=hq;have j:=mr h (ty:=λi=>ts[i]?) (λi t c=>bJ hn c) _ _ hp;have main:∀ z:Value,cQ (az (.st ts)).flat z.cells.toList=true->∃ b:List Value,kE (λi=>if i<ts.length then some (aeN (ts.take i),(ts.getD i .bool).size) else none) z.cells (ps.toList.map λp=>(p.1,a.eval p.2))=some b.toArray/\eu ts (ad9 (gc ts) l)/\cL w S (ad2 (ad9 (gc ts) l)) b:=by
    intro z k;refine rM (ty:=λi=>ts[i]?) (off:=λi=>aeN (ts.take i)) (Good:=λl=>eu ts l) (λl i t z g c k=>yh g c k) (λl i t g c=>?_) (λi t c=>?_) l _ (gc ts) z.cells.toList (nZ ts hn) (cu (by simpa [az,D.flat] using k)) j
    ·obtain⟨y,h1,C⟩:=fg g c;exact⟨y,h1,C,pz _ _ (pA i g) (gQ i hn)⟩
    ·rw[zja (zna.1 c).1];simp only[List.getD,c,z4b]
   obtain⟨z,k,f,_⟩:=jc hl;obtain⟨b,m1,m2,m3⟩:=main z f;have d:(Instr.build T (ps.map λp=>(p.1,a.eval p.2))).run P w=.ok (.agg b.toArray) w:=by refine o8 hl _ w (r:=b) λF m=>?_;have:F.cells=z.cells:=zdc (nY m f);rw[this,o,<-m1]
   have hw:wt (.st ts) (.st (ad9 (gc ts) l)):=by simp only[wt];exact⟨_,rfl,m2⟩
   exact⟨_,hq,.value (v:=.agg b.toArray) (w':=w) (by rw[hex];simp only[zla,d,zfa,zra]) (Qp.same h (c6 (by simpa [ao] using hn) hw ⟨⟨_,rfl⟩,by simpa [Value.cells,D.flat] using m3⟩) _)⟩
 case arr n e=>
  rcases L.lay T _ M with⟨J,q⟩|hl
  ·cases q
  have hn:=aH _ _ hl;simp only[ao] at hn;replace hq:=ab hq;obtain⟨l,hp,hq⟩:=hq;have j:=mr h (ty:=λi=>if i<n then some e else none) (λi t c=>by split at c<;>first|(cases c;exact hn)|cases c) _ _ hp
  have main:∀ z:Value,cQ (az (.arr n e)).flat z.cells.toList=true->∃ b:List Value,kE (λi=>some (i*e.size,e.size)) z.cells (ps.toList.map λp=>(p.1,a.eval p.2))=some b.toArray/\((ad9 (List.replicate n (az e)) l).length=n/\∀ x∈ad9 (List.replicate n (az e)) l,wt e x)/\cL w S (ad2 (ad9 (List.replicate n (az e)) l)) b:=by
   intro z k;refine rM (ty:=λi=>if i<n then some e else none) (off:=λi=>i*e.size) (Good:=λl=>l.length=n/\∀ x∈l,wt e x) (λl i t z g c k=>?_) (λl i t g c=>?_) (λi t c=>?_) l _ (List.replicate n (az e)) z.cells.toList ⟨s6,λx hx=>by rw[(zld.1 hx).2];exact cK e hn⟩ (cu (by simpa [az,D.flat] using k)) j
   ·split at c<;>first|cases c|skip
    refine⟨by simpa using g.1,λx hx=>?_⟩
    rcases zPc hx with h|h
    ·exact g.2 x h
    ·rw[h];exact k
   ·split at c<;>first|cases c|skip
    rename_i H;have B:i<l.length:=by rw[g.1];exact H
    refine⟨l[i],zea B,g.2 _ (zWa B),?_⟩;rw[aK hn _ (λx hx=>g.2 x (zZa hx)),zjb,zkb j1]
   ·split at c<;>first|cases c|skip
    rfl
  obtain⟨z,k,f,_⟩:=jc hl;obtain⟨b,m1,m2,m3⟩:=main z f;have d:(Instr.build T (ps.map λp=>(p.1,a.eval p.2))).run P w=.ok (.agg b.toArray) w:=by obtain⟨u,h1,C⟩:=ef hl;simp only[Instr.build,zla,k,zfa,run_underlying h1,bY C,oJ,o,m1,zra]
  have hw:wt (.arr n e) (.st (ad9 (List.replicate n (az e)) l)):=by simp only[wt];exact⟨_,rfl,m2⟩
  exact⟨_,hq,.value (v:=.agg b.toArray) (w':=w) (by rw[hex];simp only[zla,d,zfa,zra]) (Qp.same h (c6 (by simpa [ao] using hn) hw ⟨⟨_,rfl⟩,by simpa [Value.cells,D.flat] using m3⟩) _)⟩
def Bx(h:Rp w0 S γ β s a w){dst x i ty pos after guard}:iB P E w0 S γ β s a w ⟨dst,.extract x i,ty,pos,after,guard⟩:=by
 intro R K r hq;simp only[qv] at hq;have hx:=aS h x;generalize s.opA x=y at *;split at hq<;>first|cases hq|skip
 ·rename_i q z;replace hq:=ab hq;obtain⟨u,hu,hq⟩:=hq;replace hq:=ab hq;obtain⟨j,b,hq⟩:=hq;simp only[AR] at hx;rcases hx with⟨h1,_⟩|⟨A,e,hn,o,p⟩
  ·simp[ao] at h1
  ·cases e;simp only[wt] at o;obtain⟨l,rfl,hw⟩:=o;simp only[D.tupAt] at b;simp only[DR] at p;obtain⟨vs,g,hlen,c⟩:=p;have d:i<vs.length:=k7
   obtain⟨z2,f,n⟩:=fg hw hu;rw[b] at f;cases f;have m:=c i j vs[i] b (zea d);exact⟨_,hq,.value (v:=vs[i]) (w':=w) (by simp[execOp,Instr.extract,g,d]) (Qp.same h (c6 (bJ hn hu) n m) _)⟩
 ·rename_i t u q z;simp only[AR] at hx;obtain⟨l,B,v0,vs,rfl,g,na,k,hn,hw,hlen,c⟩:=hx;cases i with
  | zero=> simp only at hq;replace hq:=ab hq;obtain⟨j,b,hq⟩:=hq;replace hq:=ab hq;obtain⟨l',hl,hq⟩:=hq;simp only[D.tupAt,zMb,zda] at b;subst b;cases hl;exact⟨_,hq,.value (v:=v0) (w':=w) (by simp[execOp,Instr.extract,g]) (Qp.same h (by simp only[AR];exact⟨na,k⟩) _)⟩
  | succ i=>
   simp only at hq;replace hq:=ab hq;obtain⟨u,hu,hq⟩:=hq;replace hq:=ab hq;obtain⟨j,b,hq⟩:=hq;simp only[D.tupAt,zhb] at b;obtain⟨z2,f,n⟩:=fg hw hu;rw[b] at f;cases f;have d:i<vs.length:=by rw[hlen];exact(zna.1 b).1
   exact⟨_,hq,.value (v:=vs[i]) (w':=w) (by simp[execOp,Instr.extract,g,d]) (Qp.same h (c6 (bJ hn hu) n (c i j vs[i] b (zea d))) _)⟩
def zU(h:Rp w0 S γ β s a w){dst fn first captured ty pos after guard}:iB P E w0 S γ β s a w ⟨dst,.makeFunc fn first captured,ty,pos,after,guard⟩:=by
 intro R K r hq;simp only[qv] at hq;split at hq<;>first|cases hq|skip
 rename_i f;split at hq<;>first|cases hq|skip
 rename_i g;have e:first=#[]:=Array.eq_empty_of_size_eq_zero g.1
 refine⟨_,hq,.value (v:=.func (.func f) #[] (captured.map a.eval)) (w':=w) (by simp[execOp,Instr.makeFunc,e]) (Qp.same h ?_ _)⟩
 simp only[AR,AC];refine⟨s6,(captured.toList.map a.eval),by rw[show captured.map a.eval=(captured.toList.map a.eval).toArray from zdc s6];simp[Value.cells],?_⟩
 have b:=g.2;clear g hq;generalize captured.toList=l at *
 induction l with
 | nil=>simp[mN]
 | cons x l ih=>
  simp only[zyb,zaa] at b;simp only[znb,mN];refine⟨_,_,rfl,?_,ih b.2⟩;have c:=b.1;have d:=aS h x;cases hx:s.opA x<;>rw[hx] at c d<;>simp only[fH] at c<;>first|(cases c;done)|skip
  simp only[AR] at d;obtain⟨i,j⟩:=d
  simp_all [Value.cells]
end
theorem gh{α:Type}(l:List α):∀ (n i:Nat),i<n*l.length->((List.replicate n l).flatten)[i]?=l[i%l.length]?
 | 0,i,h=>j1
 | n+1,i,h=>by
  rw[List.replicate_succ,List.flatten_cons,zOc];by_cases hi:i<l.length
  ·simp_all [zTa]
  ·rw[zga hi,gh l n (i-l.length) (by rw[zdb] at h;omega)]
   rw[<-Nat.mod_eq_sub_mod j1]
def wI{w:World}{S:Nat->Nat->Prop}{e:Ty}{a:Array Value}{m:Nat}(k:cQ (az e).flat a.toList=true)(g:a.size=m)(n:Nat) :
  cL w S (ad2 (List.replicate n (az e))) ((Array.range (n*m)).map λi=>a[i%a.size]!).toList:=by
 have h0:=cu (w:=w) (S:=S) k;have hl:(az e).flat.length=m:=by rw[h0.1];simpa using g
 refine⟨by rw[kF];simp[hl],λi d c b hc=>?_⟩
 rw[kF] at b;have j:i<n*m:=by have:=(zna.1 hc).1;simpa using this
 rw[gh _ _ _ (by rw[hl];exact j),hl] at b
 have hm:0<m:=by
  rcases zAb m with h|h
  ·subst h;omega
  ·exact h
 have f:i%m<a.size:=by rw[g];exact zVa _ hm
 refine h0.2 (i%m) d c b ?_;simp only[Array.toList_map,zgb,Array.toList_range,zTc j,zSb,zda] at hc;rw[<-hc,g];simp[f]
section
variable{P:Program}{E:Env}{w0:Root}{S:Nat->Nat->Prop}{γ:Nat->Option Nat}{β:Nat->Option (Nat×Nat)}{s:St}{a:Act}{w:World}
def mw{c:Array Value}{t:TypeId}:bO (grown w [.cells c t] w.drawn) w.heap.size=some c:=by rw[<-cN];exact tX w _ rfl
def Ab{c:Array Value}{t:TypeId}{d:Nat}:bO (grown w [.cells c t] d) w.heap.size=some c:=by have:=mw (w:=w) (c:=c) (t:=t);rw[show bO (grown w [.cells c t] d) w.heap.size=bO (grown w [.cells c t] w.drawn) w.heap.size from rfl];exact this
def DM{c:Array Value}{t:TypeId}{d:Nat}(j:Nat):(grown w [.cells c t] d).cell? ⟨w.heap.size,j,none⟩=c[j]?:=cell_of_row _ Ab j
def rS(h:Rp w0 S γ β s a w){v:Nat}(F:β v=none)(t:v<s.base+4096){e:Ty}(hn:ao e=true){l:List D}(hl:∀ x∈l,wt e x){cs:List Value}(hc:cL w S (ad2 l) cs){T:TypeId}{rest:List Value}{cap:Nat}(d:Nat)(r:w.drawn<=d)(j:l.length<=cap)(y:cs.length+rest.length=cap*e.size) :
  ∃ S' β',Rp w0 S' γ β' s a (grown w [.cells (cs++rest).toArray T] d)/\AR ⟨grown w [.cells (cs++rest).toArray T] d,S',γ,β',s.ob,s.dead⟩ (.own e v l) (.slice (some ⟨w.heap.size,0,none⟩) l.length cap) ∧
   (∀ b o,S b o->S' b o)/\(∀ u,u≠v->β' u=β u)/\β' v=some (w.heap.size,l.length*e.size)/\(∀ b o,S' b o->S b o\/b=w.heap.size):=by
 let S':Nat->Nat->Prop:=λb o=>S b o\/(b=w.heap.size/\o<l.length*e.size)
 have q:∀ b o,S' b o->S b o\/(w.heap.size<=b/\b<(grown w [.cells (cs++rest).toArray T] d).heap.size):=λb o g=>by
  rcases g with g|⟨rfl,_⟩
  ·exact .inl g
  ·exact .inr ⟨zka _,s6⟩
 obtain⟨h1,m⟩:=h.grow (os:=[.cells (cs++rest).toArray T]) (d:=d) r (S':=S') (λb o g=>.inl g) q;have z:¬ w0.Old w.heap.size:=λA=>by have:=A.1;have:=h.ext.sz;omega
 obtain⟨B,G⟩:=h1.newTok (v:=v) (b:=w.heap.size) (e:=l.length*e.size) F z s6 (λid hid=>by have:=(h.γn id _ hid).2;omega) (λu f hu C=>by have:=(h.βn u _ _ hu C).2.1;omega) t
  (λo A p=>p.elim (λp=>by have:=h.Sb _ _ p;omega) λp=>j1)
 refine⟨S',m8 β v (w.heap.size,l.length*e.size),B,?_,λb o g=>.inl g,λu hu=>bW β _ hu,bA β _ _,λb o g=>g.imp id λE=>E.1⟩;have hlen:cs.length=l.length*e.size:=by rw[<-hc.1];exact aK hn l hl
 simp only[AR,AC,Value.cells];refine⟨s6,hn,hl,_,cap,rfl,?_,λ_=>.inr ⟨w.heap.size,0,rfl,by simp[bA],(cs++rest).length,?_,?_⟩⟩
 ·refine adS (b:=w.heap.size) (off:=0) (.inr rfl) j ⟨cs,hc.mono m.cell m.S,λi c k=>?_⟩;have t:=(zna.1 k).1;refine⟨.inr ⟨rfl,j1⟩,?_⟩
  rw[DM];simp only[zoc,z8a];rw[zeb t];exact k
 ·simp[kW,Ab]
 ·simp;omega
def uS(M:EnvOk P E)(h:Rp w0 S γ β s a w){dst T n ps ty pos after guard}(O:Fr E s γ β ⟨dst,.buildSlice T n ps,ty,pos,after,guard⟩):iB P E w0 S γ β s a w ⟨dst,.buildSlice T n ps,ty,pos,after,guard⟩:=by
 intro R K r hq;simp only[qv] at hq;replace hq:=ab hq;obtain⟨t,V,hq⟩:=hq;cases t<;>(try simp only at hq)<;>first|(cases hq;done)|skip
 rename_i e;rcases M.lay T _ V with⟨ad,F⟩|hl
 ·cases F
 have hn:=aH _ _ hl;simp only[ao] at hn;split at hq<;>first|(cases hq;done)|skip
 rename_i C;replace hq:=ab hq;obtain⟨d,L,hq⟩:=hq;replace hq:=ab hq;obtain⟨l,hp,hq⟩:=hq;obtain⟨N,hγ,W,_⟩:=O rfl d L;have D:=mr h (ty:=λi=>if i<n then some e else none) (λi t b=>by split at b<;>first|(cases b;exact hn)|cases b) _ _ hp
 obtain⟨u,h1,y⟩:=gZ hl;obtain⟨z,G,o,_⟩:=jc y;obtain⟨i0,z0,Q,U,kN,_⟩:=eG (fI y);have I:z.cells.size=e.size:=by have:=(cu (w:=w) (S:=S) o).1;rw[<-zFb,<-this];exact ct _ _ (cK e hn) hn
 have hzero:cL w S (ad2 (List.replicate n (az e))) ((Array.range (n*e.size)).map λi=>z.cells[i%z.cells.size]!).toList:=wI o I n;obtain⟨f,m1,m2,m3⟩:=rM (place:=λi=>some (i*e.size,e.size)) (ty:=λi=>if i<n then some e else none) (off:=λi=>i*e.size) (Good:=λl=>l.length=n/\∀ x∈l,wt e x) (λl i t z c b G=>by
   split at b<;>first|(cases b;done)|skip
   have:e=t:=by injection b
   subst this;refine⟨by simpa using c.1,λx hx=>?_⟩
   rcases zPc hx with h|h
   ·exact c.2 x h
   ·rw[h];exact G) (λl i t c b=>by
   split at b<;>first|(cases b;done)|skip
   rename_i B;have:e=t:=by injection b
   subst this;have g:i<l.length:=by rw[c.1];exact B
   refine⟨l[i],zea g,c.2 _ (zWa g),?_⟩;rw[aK hn _ (λx hx=>c.2 x (zZa hx)),zjb,zkb j1]) (λi t b=>by
   split at b<;>first|(cases b;done)|skip
   have:e=t:=by injection b
   subst this;rfl) l _ (List.replicate n (az e)) _ ⟨s6,λx hx=>by rw[(zld.1 hx).2];exact cK e hn⟩ hzero D
 obtain⟨S',β',X,Y,Z,k4,k5,_⟩:=rS h (v:=s.base+d) W j1 hn m2.2 m3 (T:=u) (rest:=[]) (cap:=n) w.drawn (zka _) (by rw[m2.1];exact zka _) (by rw[z1b,zWb,<-m3.1,aK hn _ m2.2,m2.1])
 have m:¬ n*e.size>2^24:=by have:n*e.size<=4096*4096:=z5a C kN.2;omega
 have j:(ps.map λp=>(p.1,a.eval p.2)).toList=ps.toList.map λp=>(p.1,a.eval p.2):=s6
 have k:(Instr.buildSlice T n (ps.map λp=>(p.1,a.eval p.2))).run P w=.ok (.slice (some ⟨w.heap.size,0,none⟩) n n) (grown w [.cells f.toArray u] w.drawn):=by
  have key:∀ q:Array Value,((Array.range (n*e.size)).map λi=>q[i%q.size]!)=((Array.range (n*e.size)).map λi=>z.cells[i%z.cells.size]!) ->
    kE (λi=>some (i*e.size,e.size)) ((Array.range (n*e.size)).map λi=>q[i%q.size]!) (ps.map λp=>(p.1,a.eval p.2)).toList=some f.toArray:=λq H=>by
   rw[H,j];rw[z3b] at m1;exact m1
  by_cases h0:n*e.size=0
  ·have J:=key #[] (by simp[h0])
   simp only[Instr.buildSlice,zla,run_underlying h1,zfa,bY y,m,if_false,zja h0,pure_bind,oJ,J,newRow,run_newObj,zra];rw[<-cN];rfl
  ·have J:=key z.cells rfl;simp only[Instr.buildSlice,zla,run_underlying h1,zfa,bY y,m,if_false,zga h0,bind_pure_comp,Sem.run_map,G,pure_bind,oJ,J,newRow,run_newObj,zra];rw[<-cN];rfl
 have hex:execOp a.eval ⟨dst,.buildSlice T n ps,ty,pos,after,guard⟩=(Instr.buildSlice T n (ps.map λp=>(p.1,a.eval p.2)) >>= λv=>pure (.value v)):=rfl;rw[zZc,m2.1] at *;refine⟨_,hq,.value (by rw[hex];simp only[zla,k,zfa,zra]) ⟨S',γ,β',X,Y,Z,⟨_,_,rfl⟩,λ_ _ A=>A,λid hid=>⟨rfl,k4 id λA=>?_⟩⟩⟩
 subst A;rcases hid with hid|hid
 ·rw[L] at hid;exact hid (by rw[zvb])
 ·omega
def xH(V:EnvOk P E)(h:Rp w0 S γ β s a w){dst T x y ty pos after guard}(X:Fr E s γ β ⟨dst,.makeSlice T x y,ty,pos,after,guard⟩):iB P E w0 S γ β s a w ⟨dst,.makeSlice T x y,ty,pos,after,guard⟩:=by
 intro R K r hq;simp only[qv] at hq;replace hq:=ab hq;obtain⟨p0,F,hq⟩:=hq;replace hq:=ab hq;obtain⟨n0,B,hq⟩:=hq;split at hq<;>first|(cases hq;done)|skip
 rename_i J;subst J;replace hq:=ab hq;obtain⟨t,Z,hq⟩:=hq;cases t<;>(try simp only at hq)<;>first|(cases hq;done)|skip
 rename_i e;replace hq:=ab hq;obtain⟨d,N,hq⟩:=hq;replace hq:=ab hq;obtain⟨p,hp,hq⟩:=hq;replace hq:=ab hq;obtain⟨n,C,hq⟩:=hq;split at hq<;>first|(cases hq;done)|skip
 rename_i c;obtain⟨W,hγ,hβ,_⟩:=X rfl d N;rcases V.lay T _ Z with⟨al,G⟩|hl
 ·cases G
 have hn:=aH _ _ hl;simp only[ao] at hn;obtain⟨u,h1,L⟩:=gZ hl;obtain⟨i0,z0,b,Y,kN,o,A,_⟩:=eG (fI L);have val:∀ {z:Operand} {q:Ty×D} {m:Nat},isD (s.opA z)=some q->q.2.natOf=some m->∃ k,a.eval z=.int k m:=λ{z q m} g U=>by obtain⟨kk,Q⟩:=qa U;have M:=aS h z;rw[dG g,Q] at M;exact⟨kk,(dS M).1⟩
 obtain⟨k0,H⟩:=val F B;obtain⟨k,hv⟩:=val hp C;have ad:z0.cells.size=e.size:=by have:=(cu (w:=w) (S:=S) A).1;rw[<-zFb,<-this];exact ct _ _ (cK e hn) hn
 let cells:Array Value:=(Array.range (n*e.size)).map λi=>z0.cells[i%z0.cells.size]!
 obtain⟨S',β',k1,k2,k3,k4,k5,_⟩:=rS h (v:=s.base+d) hβ j1 hn (l:=[]) (λx hx=>by cases hx) (cs:=[]) cL.nil (T:=u) (rest:=cells.toList) (cap:=n) w.drawn (zka _) (zoa _) (by simp[cells])
 have f:(Instr.makeSlice T (.int k0 (0:Nat)) (.int k n)).run P w=.ok (.slice (some ⟨w.heap.size,0,none⟩) 0 n) (grown w [.cells cells u] w.drawn):=by
  have hb:((i0.bytes:Int)*(n:Int))<=2^48:=by have g:i0.bytes*n<=16384*1073741824:=z5a kN.1 c;have:((i0.bytes*n:Nat):Int)<=((16384*1073741824:Nat):Int):=Int.ofNat_le.2 g;rw[z4a] at this;omega
  have hw:IntKind.i64.wrap (n:Int)=(n:Int):=IntWalk.i64_in _ j1
  have I:IntKind.i64.wrap ((0:Nat):Int)=((0:Nat):Int):=IntWalk.i64_in _ j1
  have c1:¬ ((n:Int)<0):=j1
  have c2:¬ ((i0.bytes:Int)*(n:Int)>2^48):=j1
  simp only[Instr.makeSlice,zla,run_underlying h1,zfa,asInt,asIntOf,pure_bind,typeInfo,run_program,b,zra,hw,I];rw[zca c1,zca c2,zca (show ¬ (((0:Nat):Int)>n) by omega),zca (show ¬ (((0:Nat):Int)<0) by omega)]
  simp only[Bool.or_self,zLa,if_false,zla,run_askRoom,zfa,bY L,zvc];by_cases h0:n*e.size=0
  ·have O:((Array.range (n*e.size)).map λi=>(#[]:Array Value)[i%(#[]:Array Value).size]!)=cells:=by
    show _=((Array.range (n*e.size)).map λi=>z0.cells[i%z0.cells.size]!);rw[h0];simp
   rw[zja h0];simp only[pure_bind,O,newRow,zla,run_newObj,zfa,zra];rw[<-cN];rfl
  ·rw[zga h0];simp only[zeroValue,typeInfo,zla,run_program,b,o,zfa,zra,bind_pure_comp,Sem.run_map,newRow,run_newObj];rw[<-cN];rfl
 rw[z0b,z3b] at *;refine⟨_,hq,.value (by simp only[execOp,H,hv,zla,f,zfa,zra,z1b]) ⟨S',γ,β',k1,k2,k3,⟨_,_,rfl⟩,λ_ _ j=>j,λid hid=>⟨rfl,k4 id λj=>?_⟩⟩⟩
 subst j;rcases hid with hid|hid
 ·rw[N] at hid;exact hid (by rw[zvb])
 ·omega
end
end Sy
end
end Go.Proofs.YtmnkibhalflchaaGreat
