/- Part 2 of the proof that PlaneOfBoxes answers true at every input -/
import Derived.Test.YtphlmegkommlnaaGreatDoorBoxe01
import Derived.ProofKit
import Derived.Deep.Slices
import Derived.OpenShut
import Derived.OrdersIn
import Derived.TacticsIn
import Derived.RangeFuncIn
import Derived.RangeFuncCalls
import Derived.Scope
import Derived.StillTail
import Derived.ChangeKeysEq
import Derived.MapKept
set_option linter.unusedVariables false
set_option linter.unusedSimpArgs false
set_option linter.unnecessarySimpa false
set_option linter.defProp false
set_option maxRecDepth 20000
namespace Go.Proofs.YtphlmegkommlnaaGreatDoor
noncomputable section
namespace Sy
open Go
section
variable{H:Type}{enc:TypeId×Value->H}{P:Program}{W:World}{base:Nat}{spare:Nat->Bool}{held:Bool}
def qF(W:World)(b o:Nat):Prop:=(W.cell? ⟨b,o,none⟩).isSome=true
def valid_lt{b o:Nat}(h:qF W b o):b<W.heap.size:=by
 unfold qF World.cell? at h;rcases zxa b W.heap.size with k|k
 ·exact k
 ·simp only[Array.getElem?_eq_none k] at h;cases h
mutual
def Kq:D->Prop
 | .int k n=>(Lit.int k n).wf=true
 | .bool _=>True
 | .str s=>s.size<=maxLen
 | .st l=>zR l
 | .sl l=>l.length<=maxLen/\zR l
 | .tup l=>zR l
def zR:List D->Prop
 | []=>True
 | d::l=>Kq d/\zR l
end
theorem vG:∀ {l:List D},zR l↔∀ d∈l,Kq d
 | []=>by simp[zR]
 | d::l=>by simp[zR,vG (l:=l)]
mutual
def qn:Ty->Bool
 | .st ts=>zV ts
 | .arr _ t=>qn t
 | .sl t=>decide (0<t.size)&&qn t
 | .tup _=>false
 | .fn=>false
 | _=>true
def zV:List Ty->Bool
 | []=>true
 | t::ts=>qn t&&zV ts
end
def kT{T:TypeId}{ty:Ty}(h:bJ P ty T=true):P.cellsOf T=ty.size:=by obtain⟨i,z,h1,h2,_⟩:=fV (gQ h);simp[Program.cellsOf,h1,h2]
def abD{S:Nat->Nat->Prop}{d:D}{c:Value}(h:CR W S d c):c8 W S [d] [c]:=⟨rfl,λi d' c' a hc=>by
 cases i with
 | zero=>simp at a hc;subst a;subst hc;exact h
 | succ i=>simp at a⟩
mutual
theorem ui:∀ (ty:Ty) (T:TypeId) (fuel:Nat) (cs:List Value) (x:DataW H×List MemPlace),bJ P ty T=true->qn ty=true->DataW.trod enc P W base spare held fuel T cs=some x->∃ d,wt ty d/\Kq d/\c8 W (qF W) d.flat cs
 | .int k,T,fuel,cs,x,hl,_,h=>by obtain⟨n,rfl,_,hw⟩:=DataW.trod_int (ke hl) h;exact⟨.int k n,⟨n,rfl⟩,hw,abD (.int k n)⟩
 | .bool,T,fuel,cs,x,hl,_,h=>by
  have hu:P.underlying T=some .bool:=by
   simp only[bJ,zaa] at hl;have h2:=hl.2;split at h2
   ·assumption
   ·cases h2
  obtain⟨b,rfl,_⟩:=DataW.trod_bool hu h;exact⟨.bool b,⟨b,rfl⟩,trivial,abD (.bool b)⟩
 | .str,T,fuel,cs,x,hl,_,h=>by
  have hu:P.underlying T=some .string:=by
   simp only[bJ,zaa] at hl;have h2:=hl.2;split at h2
   ·assumption
   ·cases h2
  obtain⟨s,rfl,_,hw⟩:=DataW.trod_string hu h;exact⟨.str s,⟨s,rfl⟩,hw,abD (.str s)⟩
 | .st ts,T,fuel,cs,x,hl,hp,h=>by
  obtain⟨fs,hu,hf⟩:=jH hl;obtain⟨xs,n,_,_,hlen,hxl,hx⟩:=DataW.trod_struct hu h;rw[kT hl] at hlen;obtain⟨l,h1,hok,h2⟩:=CC ts fs.toList 0 cs n hf (by simpa only[qn] using hp) (λi f hi=>by
   have hi':fs[i]?=some f:=by simpa using hi
   have hlt:i<xs.length:=by rw[hxl];exact(zza.1 hi').1
   exact⟨xs[i],(hx i f hi').trans (zca hlt)⟩) (by rw[hlen];simp[Ty.size])
  refine⟨.st l,⟨l,rfl,h1⟩,hok,?_⟩;have:(cs.drop 0).take (acr ts)=cs:=by rw[List.drop_zero,zfb (by rw[hlen];simp[Ty.size])]
  rw[this] at h2;exact h2
 | .arr n e,T,fuel,cs,x,hl,hp,h=>by
  obtain⟨u,hu,hl'⟩:=eO hl;obtain⟨xs,m,_,_,hlen,hxl,hx⟩:=DataW.trod_array hu h;rw[kT hl] at hlen;rw[kT hl'] at hx;simp only[qn] at hp;have key:∀ k,k<=n->∃ l:List D,l.length=k/\(∀ y∈l,wt e y/\Kq y)/\c8 W (qF W) (abM l) (cs.take (k*e.size)):=by
   intro k
   induction k with
   | zero=>intro _;exact⟨[],rfl,j3,by simp[abM,c8.nil]⟩
   | succ k ih=>
    intro hk;obtain⟨l,h1,h2,h3⟩:=ih j1
    have hxk:=hx k j1
    rw[zca (show k<xs.length by omega)] at hxk
    obtain⟨d,h4,h4',h5⟩:=ui e u m _ _ hl' hp hxk;refine⟨l++[d],by simp[h1],λy hy=>?_,?_⟩
    ·rcases List.mem_append.1 hy with hy|hy
     ·exact h2 y hy
     ·rw[zLa.1 hy];exact⟨h4,h4'⟩
    ·have e1:cs.take ((k+1)*e.size)=cs.take (k*e.size)++(cs.drop (k*e.size)).take e.size:=by
      rw[zob,z0c,List.take_add]
     rw[e1,cl];refine h3.append ?_;simpa [abM] using h5
  obtain⟨l,h1,h2,h3⟩:=key n (zia n);refine⟨.st l,⟨l,rfl,h1,λy hy=>(h2 y hy).1⟩,vG.2 λy hy=>(h2 y hy).2,?_⟩;rw[zfb (by rw[hlen];simp[Ty.size])] at h3
  exact h3
 | .sl e,T,fuel,cs,x,hl,hp,h=>by
  obtain⟨u,hu,hl'⟩:=jG hl;simp only[qn,zaa,zfa] at hp;rcases DataW.trod_slice hu h with⟨rfl,_⟩|⟨a,len,cap,elems,rest,m,_,rfl,_,hb,hlc,hcm,hel,hx,_,_⟩
  ·exact⟨.sl [],⟨[],rfl,j3⟩,⟨zAa _,trivial⟩,abD (abC (l:=[]) (b:=0) (off:=0) (.inl rfl) (zia _) ⟨[],c8.nil,j3⟩)⟩
  ·rw[kT hl'] at hx;by_cases h0:len=0
   ·subst h0;exact⟨.sl [],⟨[],rfl,j3⟩,⟨zAa _,trivial⟩,abD (abC (l:=[]) (b:=0) (off:=0) (.inl rfl) (zAa _) ⟨[],c8.nil,j3⟩)⟩
   ·have hsp:∃ b off,a=⟨b,off,none⟩:=by
     have:=hx 0 j1
     rw[zca (show 0<elems.length by omega)] at this
     obtain⟨cs',h1,_⟩:=Option.bind_eq_some_iff.1 this;obtain⟨_,h2,h3⟩:=World.cells?_some h1;have h4:=h3 0 hp.1;rw[zca (show 0<cs'.length by omega)] at h4
     have e0:(a.add (0*e.size)).add 0=a:=by simp[Addr.add]
     rw[e0] at h4;obtain⟨b,off,sp⟩:=a;cases sp with
     | none=>exact⟨b,off,rfl⟩
     | some s=>
      exfalso;unfold World.cell? at h4;split at h4
      ·simp at h4
      ·cases h4
    obtain⟨b,off,rfl⟩:=hsp;have key:∀ k,k<=len->∃ (l:List D) (cs:List Value),l.length=k/\(∀ y∈l,wt e y/\Kq y)/\c8 W (qF W) (abM l) cs/\∀ j c,cs[j]?=some c->W.cell? ⟨b,off+j,none⟩=some c:=by
     intro k
     induction k with
     | zero=>intro _;exact⟨[],[],rfl,j3,c8.nil,j3⟩
     | succ k ih=>
      intro hk;obtain⟨l,cs,h1,h2,h3,h4⟩:=ih j1
      have hxk:=hx k j1
      rw[zca (show k<elems.length by omega)] at hxk
      obtain⟨cs',q1,q2⟩:=Option.bind_eq_some_iff.1 hxk;obtain⟨_,q3,q4⟩:=World.cells?_some q1;obtain⟨d,h5,h5',h6⟩:=ui e u m _ _ hl' hp.2 q2;have hn:am e=true:=aH e u hl';have hcl:cs.length=k*e.size:=by rw[<-h3.1,aE hn l (λy hy=>(h2 y hy).1),h1]
      refine⟨l++[d],cs++cs',by simp[h1],λy hy=>?_,?_,λj c hc=>?_⟩
      ·rcases List.mem_append.1 hy with hy|hy
       ·exact h2 y hy
       ·rw[zLa.1 hy];exact⟨h5,h5'⟩
      ·rw[cl];refine h3.append ?_;simpa [abM] using h6
      ·rcases zxa j cs.length with hj|hj
       ·rw[zvb hj] at hc;exact h4 j c hc
       ·rw[zYb hj] at hc;have hlt:j-cs.length<e.size:=by
         have:=(zqa.1 hc).1;omega
        have:=q4 (j-cs.length) hlt;rw[hc] at this;rw[de,de] at this;rw[show off+k*e.size+(j-cs.length)=off+j by omega] at this
        exact this
    obtain⟨l,cs,h1,h2,h3,h4⟩:=key len (zia _);refine⟨.sl l,⟨l,rfl,λy hy=>(h2 y hy).1⟩,⟨j1,vG.2 λy hy=>(h2 y hy).2⟩,abD ?_⟩
    rw[<-h1];exact abC (b:=b) (off:=off) (.inr rfl) j1 ⟨cs,h3,λi c hc=>⟨by unfold qF;rw[h4 i c hc];rfl,h4 i c hc⟩⟩
 | .tup _,_,_,_,_,hl,_,_=>by simp[bJ] at hl
 | .fn,_,_,_,_,hl,_,_=>by simp[bJ] at hl
theorem CC:∀ (ts:List Ty) (fs:List Field) (off:Nat) (cs:List Value) (n:Nat),gt P ts fs off=true->zV ts=true ->
  (∀ (i:Nat) (f:Field),fs[i]?=some f->∃ x:DataW H×List MemPlace,DataW.trod enc P W base spare held n f.type ((cs.drop f.offset).take (P.cellsOf f.type))=some x)->off+acr ts<=cs.length ->
  ∃ l,fG ts l/\zR l/\c8 W (qF W) (abM l) ((cs.drop off).take (acr ts))
 | [],_,off,cs,n,_,_,_,_=>⟨[],rfl,trivial,by simp[abM,acr,c8.nil]⟩
 | t::ts,[],off,cs,n,h,_,_,_=>by simp[gt] at h
 | t::ts,f::fs,off,cs,n,h,hp,hx,hle=>by
  simp only[gt,zaa,zfa] at h;obtain⟨⟨⟨⟨h1,_⟩,h2⟩,h3⟩,h4⟩:=h;simp only[zV,zaa] at hp;simp only[acr] at hle ⊢;obtain⟨x,hx0⟩:=hx 0 f rfl;rw[kT h3,h1] at hx0;obtain⟨d,q1,q1',q2⟩:=ui t f.type n _ _ h3 hp.1 hx0;obtain⟨l,q3,q3',q4⟩:=CC ts fs (off+t.size) cs n h4 hp.2 (λi g hi=>hx (i+1) g (by simpa using hi)) j1
  refine⟨d::l,⟨d,l,rfl,q1,q3⟩,⟨q1',q3'⟩,?_⟩;rw[List.take_add,List.drop_drop];simp only[abM];exact q2.append q4
end
end
theorem ab.{u,v}{α:Type u}{β:Type v}{x:Option α}{f:α->Option β}{r:β}(h:x.bind f=some r):∃ a,x=some a/\f a=some r:=by
 cases x with
 | none=>cases h
 | some a=>exact⟨a,rfl,h⟩
def oT{t b:Ty}{x:D}(h:AV.fits t (.d b x)=true):t=b:=by
 have a:t.beq b=true:=by simp_all [AV.fits]
 exact aco _ _ a
def acn:∀ (t:Ty),t.beq t=true:=by
 intro t;exact(Ty.rec (motive_1:=λt=>t.beq t=true) (motive_2:=λl=>Ty.beqs l l=true)
  (λk=>by simp[Ty.beq]) rfl rfl (λl h=>by simpa [Ty.beq] using h) (λn t h=>by simp[Ty.beq,h]) (λt h=>by simpa [Ty.beq] using h) (λl h=>by simpa [Ty.beq] using h) rfl rfl
  (λt l h1 h2=>by simp[Ty.beqs,h1,h2]) t)
def bU(t:Ty)(x:D):AV.fits t (.d t x)=true:=by have:=acn t;all_goals simp_all [AV.fits]
theorem rH:∀ {d:List Ty} {l:List AV} {i:Nat} {a:AV},AV.fitss d l=true->l[i]?=some a->∃ t,d[i]?=some t/\AV.fits t a=true
 | _,[],_,_,_,h=>by simp at h
 | [],b::l,_,_,h,_=>by simp[AV.fitss] at h
 | u::d,b::l,i,a,h,c=>by
  simp only[AV.fitss,zaa] at h;cases i with
  | zero=>simp at c;subst c;exact⟨u,rfl,h.1⟩
  | succ i=>simp at c;obtain⟨t,h1,h2⟩:=rH h.2 c;exact⟨t,by simpa using h1,h2⟩
theorem uZ:∀ {d:List Ty} {l:List AV} {i:Nat} {t:Ty},AV.fitss d l=true->d[i]?=some t->∃ a,l[i]?=some a/\AV.fits t a=true
 | [],_,_,_,_,h=>by simp at h
 | u::d,[],_,_,h,_=>by simp[AV.fitss] at h
 | u::d,b::l,i,a,h,c=>by
  simp only[AV.fitss,zaa] at h;cases i with
  | zero=>simp at c;subst c;exact⟨b,rfl,h.1⟩
  | succ i=>simp at c;obtain⟨t,h1,h2⟩:=uZ h.2 c;exact⟨t,by simpa using h1,h2⟩
theorem nN:∀ {c:List Ty} {l:List AV} {i:Nat} {t:Ty} {b:AV},AV.fitss c l=true->c[i]?=some t->AV.fits t b=true->AV.fitss c (l.set i b)=true
 | [],_,_,_,_,_,h,_=>by simp at h
 | u::c,[],_,_,_,h,_,_=>by simp[AV.fitss] at h
 | u::c,a::l,i,t,b,h,d,e=>by
  simp only[AV.fitss,zaa] at h;cases i with
  | zero=>simp at d;subst d;simp[AV.fitss,e,h.2]
  | succ i=>simp at d;simp only[List.set_cons_succ,AV.fitss,zaa];exact⟨h.1,nN h.2 d e⟩
theorem tO{c:Cx}:∀ {f:List Ty} {l:List AV} {cs:List Value} {i:Nat} {a:AV},AV.fitss f l=true->bq f=true->lH c l cs->l[i]?=some a ->
  ∃ pre mid post,cs=pre++(mid++post)/\pre.length=acr (f.take i)/\AC c a mid/\∀ b d,AC c b d->lH c (l.set i b) (pre++(d++post))
 | _,[],_,_,_,_,_,_,h=>by simp at h
 | [],b::l,_,_,_,h,_,_,_=>by simp[AV.fitss] at h
 | u::f,b::l,cs,i,a,hf,hn,h,e=>by
  simp only[AV.fitss,zaa] at hf;simp only[bq,zaa] at hn;simp only[lH] at h;obtain⟨c1,c2,rfl,h1,h2⟩:=h;cases i with
  | zero=> simp at e;subst e;exact⟨[],c1,c2,j3,by simp[acr],h1,λb d g=>by simp only[List.set_cons_zero,lH,ztc];exact⟨d,c2,rfl,g,h2⟩⟩
  | succ i=>
   simp at e;obtain⟨pre,mid,post,rfl,j,k,m⟩:=tO hf.2 hn.2 h2 e;refine⟨c1++pre,mid,post,by simp[zOa],?_,k,λb d g=>?_⟩
   ·simp only[zta,zdc,acr,j,(iK b u c1 hf.1 h1).1]
   ·grind [lH,List.append_assoc]
def nc{a:List Ty}{i:Nat}{p:List Nat}{u:Ty}(h:aM (.st a) (i::p)=some u):∃ v,a[i]?=some v/\aM v p=some u:=by grind [aM]
def EG{R:Type}{c:Cx}:∀ (p:List Nat) {T t:Ty} {a:AV} {cs:List Value} {K:AV->Option R} {r:R},AV.fits T a=true->am T=true->aM T p=some t->AC c a cs->zn a p K=some r ->
  ∃ a' pre mid post,K a'=some r/\cs=pre++(mid++post)/\pre.length=aZ T p/\AC c a' mid/\AV.fits t a'=true:=by
 intro p
 induction p with
 | nil=>
  intro T t a cs K r hf hn hp hc e;have hT:T=t:=by cases T<;>simpa [aM] using hp
  subst hT;refine⟨a,[],cs,[],?_,j3,by cases T<;>rfl,hc,hf⟩
  cases a<;>simpa [zn] using e
 | cons i p ih=>
  intro T t a cs K r hf hn hp hc e;cases a<;>simp only[zn] at e
  case d t' x=>
   have:=oT hf;subst this;obtain⟨t2,h1,h2⟩:=ab e;obtain⟨y,h3,j⟩:=ab h2;rw[hp] at h1;cases h1;simp only[AC] at hc;obtain⟨m,A,B,n,s⟩:=jD (i::p) hc.1 hn hp h3;have f:=hc.2.2;rw[n] at f;obtain⟨k,o⟩:=f.split;obtain⟨q,u⟩:=o.split;refine⟨_,cs.take A.length,(cs.drop A.length).take y.flat.length,(cs.drop A.length).drop y.flat.length,j,by simp only[zua],?_,?_,bU _ _⟩
   ·rw[<-k.1];exact s
   ·simp only[AC];exact⟨m,dU _ hn hp,q⟩
  case st ts' l=>
   cases T<;>simp only[AV.fits] at hf<;>first|cases hf|skip
   rename_i w;simp only[zaa] at hf;obtain⟨a1,h1,h2⟩:=ab e;obtain⟨v,h3,j⟩:=nc hp;simp only[AC] at hc;simp only[am] at hn;obtain⟨v',f,k⟩:=rH hf.2 h1;rw[h3] at f;cases f;obtain⟨pre,mid,post,rfl,m,n,_⟩:=tO hf.2 hn hc.2.2 h1;obtain⟨a',h,g,b,m1,rfl,m2,m3,m4⟩:=ih k (bX hn h3) j n h2;refine⟨a',pre++h,g,b++post,m1,by simp[zOa],?_,m3,m4⟩
   simp only[zta,aZ,m,m2];simp[List.getD,h3]
  all_goals cases e
def ND{R:Type}{c:Cx}:∀ (p:List Nat) {T t:Ty} {a b:AV} {cs j:List Value} {K:AV->Option R} {r:R},AV.fits T a=true->am T=true->aM T p=some t->AC c a cs->AC c b j->AV.fits t b=true->DK a p b K=some r ->
  ∃ a' pre mid post,K a'=some r/\cs=pre++(mid++post)/\pre.length=aZ T p/\mid.length=j.length/\AC c a' (pre++(j++post))/\AV.fits T a'=true:=by
 intro p
 induction p with
 | nil=>
  intro T t a b cs j K r hf hn hp hc f e g;have hT:T=t:=by simp_all [aM]
  subst hT;refine⟨b,[],cs,[],?_,j3,by cases T<;>rfl,?_,by simpa using f,e⟩
  ·simp_all [DK]
  ·rw[(iK _ _ _ hf hc).1,(iK _ _ _ e f).1]
 | cons i p ih=>
  intro T t a b cs j K r hf hn hp hc f e g;cases a<;>simp only[DK] at g
  case d t' x=>
   have:=oT hf;subst this;cases b<;>simp only at g<;>first|cases g|skip
   rename_i u y;have:=oT e;subst this;obtain⟨M,h3,q⟩:=ab g;simp only[AC] at hc f;obtain⟨w,A,C,B,z,D,I,J⟩:=qw (i::p) hc.1 hn hp h3 f.1;have k:=hc.2.2;rw[z] at k;obtain⟨o,F⟩:=k.split;obtain⟨G,H⟩:=F.split;refine⟨_,cs.take A.length,(cs.drop A.length).take C.length,(cs.drop A.length).drop C.length,q,by simp only[zua],?_,?_,?_,bU _ _⟩
   ·rw[<-o.1];exact I
   ·rw[<-G.1,J,<-f.2.2.1,cH _ _ f.1 f.2.1]
   ·simp only[AC];refine⟨w,hn,?_⟩;rw[D];exact o.append (f.2.2.append H)
  case st ts' l=>
   cases T<;>simp only[AV.fits] at hf<;>first|cases hf|skip
   rename_i L;simp only[zaa] at hf;obtain⟨a1,h1,h2⟩:=ab g;obtain⟨v,h3,q⟩:=nc hp;simp only[AC] at hc;simp only[am] at hn;obtain⟨v',k,o⟩:=rH hf.2 h1;rw[h3] at k;cases k;obtain⟨pre,mid,post,rfl,w,z,D⟩:=tO hf.2 hn hc.2.2 h1;obtain⟨a',n,m,h,m1,rfl,m2,E,m3,m4⟩:=ih o (bX hn h3) q z f e h2;have s:=acp _ _ hf.1;subst s;refine⟨_,pre++n,m,h++post,m1,by simp[zOa],?_,E,?_,?_⟩
   ·simp only[zta,aZ,w,m2];simp[List.getD,h3]
   ·simp only[AC];refine⟨hn,nN hf.2 h3 m4,?_⟩;have:=D _ _ m3;simpa [zOa] using this
   ·simp only[AV.fits,zaa];exact⟨hf.1,nN hf.2 h3 m4⟩
  all_goals cases g
mutual
theorem sH{c:Cx}{ob:Nat->Option Ob}:∀ (a:AV) (t:Ty) (cs:List Value) (x:D),abB ob t a=some x->AC c a cs->wt t x/\c8 c.w c.S x.flat cs/\(∀ v,gI t cs v->am t=true->gE c.w c.S x v)
 | .d t' x',t,cs,x,h,hc=>by
  have h':t.beq t'=true/\x'=x:=by cases t<;>simpa [abB] using h
  obtain⟨h1,rfl⟩:=h';have:=aco _ _ h1;subst this;simp only[AC] at hc;exact⟨hc.1,hc.2.2,λv hv hn=>⟨ur hc.1 hc.2.1 hv.2,by rw[hv.1];exact hc.2.2⟩⟩
 | .own t' v l,t,cs,x,h,hc=>by
  have h':t.beq (.sl t')=true/\D.sl l=x:=by cases t<;>simpa [abB] using h
  obtain⟨h1,rfl⟩:=h';have:=aco _ _ h1;subst this;simp only[AC] at hc;obtain⟨k1,k2,a,cap,rfl,k3,_⟩:=hc;have hw:wt (.sl t') (.sl l):=by simp only[wt];exact⟨l,rfl,k2⟩
  exact⟨hw,c8.single.2 k3,λv hv hn=>⟨ur hw hn hv.2,by rw[hv.1];exact c8.single.2 k3⟩⟩
 | .nils,t,cs,x,h,hc=>by
  cases t<;>simp only[abB] at h<;>first|cases h|skip
  simp only[AC] at hc;subst hc;have hw:∀ t,wt (.sl t) (.sl []):=λt=>by simp only[wt];exact⟨[],rfl,λx hx=>by simp at hx⟩
  have hr:c8 c.w c.S [D.sl []] [.slice none 0 0]:=c8.single.2 (.sl [] none 0 0 0 (λ_=>undef) (.inl rfl) (zia 0) (λi d hd=>by simp[abM] at hd) (λi d hd=>by simp[abM] at hd))
  exact⟨hw _,hr,λv hv hn=>⟨ur (hw _) hn hv.2,by rw[hv.1];exact hr⟩⟩
 | .st ts' l,t,cs,x,h,hc=>by
  simp only[abB] at h;split at h
  ·rename_i hb;have:=aco _ _ hb;subst this;obtain⟨xs,h1,h2⟩:=ab h;simp only[zda] at h2;subst h2;simp only[AC] at hc;obtain⟨k1,k2⟩:=Fv l ts' cs xs h1 hc.2.2;have hw:wt (.st ts') (.st xs):=by simp only[wt];exact⟨xs,rfl,k1⟩
   exact⟨hw,k2,λv hv hn=>⟨ur hw hn hv.2,by rw[hv.1];exact k2⟩⟩
  ·cases h
 | .ptr ..,t,_,_,h,_=>by cases t<;>simp[abB] at h
 | .fptr ..,t,_,_,h,_=>by cases t<;>simp[abB] at h
 | .mem ..,t,_,_,h,_=>by cases t<;>simp[abB] at h
 | .clo ..,t,_,_,h,_=>by cases t<;>simp[abB] at h
 | .sub ..,t,_,_,h,_=>by cases t<;>simp[abB] at h
 | .gone,t,_,_,h,_=>by cases t<;>simp[abB] at h
 | .undef,t,_,_,h,_=>by cases t<;>simp[abB] at h
theorem Fv{c:Cx}{ob:Nat->Option Ob}:∀ (l:List AV) (ts:List Ty) (cs:List Value) (xs:List D),AV.toDl ob ts l=some xs->lH c l cs->fG ts xs/\c8 c.w c.S (abM xs) cs
 | [],ts,cs,xs,h,hc=>by
  cases ts<;>simp only[AV.toDl] at h<;>first|cases h|skip
  simp only[lH] at hc;subst hc;exact⟨by simp[fG],c8.nil⟩
 | a::l,ts,cs,xs,h,hc=>by
  cases ts<;>simp only[AV.toDl] at h<;>first|cases h|skip
  rename_i t ts;obtain⟨x,h1,h2⟩:=ab h;obtain⟨ys,h3,h4⟩:=ab h2;simp only[zda] at h4;subst h4;simp only[lH] at hc;obtain⟨c1,c2,rfl,k1,k2⟩:=hc;obtain⟨m1,m2,_⟩:=sH a t c1 x h1 k1;obtain⟨m3,m4⟩:=Fv l ts c2 ys h3 k2;exact⟨by simp only[fG];exact⟨x,ys,rfl,m1,m3⟩,by simp only[abM];exact m2.append m4⟩
end
mutual
theorem wo{ob:Nat->Option Ob}:∀ (a:AV) (t:Ty) (x:D),abB ob t a=some x->AV.fits t a=true
 | .d t' x',t,x,h=>by simp_all [abB,AV.fits]
 | .own t' v l,t,x,h=>by
  have h':t.beq (.sl t')=true/\D.sl l=x:=by cases t<;>simpa [abB] using h
  have:=aco _ _ h'.1;subst this;simp[AV.fits,acn]
 | .nils,t,x,h=>by cases t<;>first|rfl|(simp only[abB] at h;cases h)
 | .st ts' l,t,x,h=>by
  simp only[abB] at h;split at h
  ·rename_i hb;have:=aco _ _ hb;subst this;obtain⟨xs,h1,h2⟩:=ab h;simp only[AV.fits,zaa];exact⟨by have:=acn (.st ts');simpa [Ty.beq] using this,yH l ts' xs h1⟩
  ·cases h
 | .ptr ..,t,_,h=>by cases t<;>simp[abB] at h
 | .fptr ..,t,_,h=>by cases t<;>simp[abB] at h
 | .mem ..,t,_,h=>by cases t<;>simp[abB] at h
 | .clo ..,t,_,h=>by cases t<;>simp[abB] at h
 | .sub ..,t,_,h=>by cases t<;>simp[abB] at h
 | .gone,t,_,h=>by cases t<;>simp[abB] at h
 | .undef,t,_,h=>by cases t<;>simp[abB] at h
theorem yH{ob:Nat->Option Ob}:∀ (l:List AV) (ts:List Ty) (xs:List D),AV.toDl ob ts l=some xs->AV.fitss ts l=true
 | [],ts,xs,h=>by cases ts<;>first|rfl|(simp only[AV.toDl] at h;cases h)
 | a::l,ts,xs,h=>by
  cases ts<;>simp only[AV.toDl] at h<;>first|cases h|skip
  rename_i t ts;obtain⟨x,h1,h2⟩:=ab h;obtain⟨ys,h3,h4⟩:=ab h2;simp only[AV.fitss,zaa];exact⟨wo a t x h1,yH l ts ys h3⟩
end
def oJ{c:Cx}{ob:Nat->Option Ob}{t:Ty}{a:AV}{v:Value}{x:D}(hn:am t=true)(h:AR c a v)(hx:abB ob t a=some x):wt t x/\gE c.w c.S x v:=by
 obtain⟨h1,h2⟩:=AL (wo a t x hx) hn h;obtain⟨h3,_,b⟩:=sH a t _ x hx h1
 simp_all
def dK{c:Cx}{t:Ty}{x:D}{v:Value}(hn:am t=true)(hw:wt t x)(h:gE c.w c.S x v):AR c (.d t x) v:=by simp_all [AR]
def AM{c:Cx}{t:Ty}{x:D}{v:Value}(h:AR c (.d t x) v)(hn:am t=true):wt t x/\gE c.w c.S x v:=by all_goals grind [AR,am]
def fF{c:Cx}{t:Ty}{k:IntKind}{n:Int}{v:Value}(h:AR c (.d t (.int k n)) v):v=.int k n/\t=.int k:=by
 simp only[AR] at h;rcases h with⟨h1,h2,h3⟩|⟨b,rfl,_,h2,_⟩
 ·refine⟨h3.int_inv,?_⟩;cases t<;>simp only[wt] at h2<;>first
   | (obtain⟨m,a⟩:=h2;cases a;rfl)
   | (obtain⟨m,a,_⟩:=h2;cases a)
   | (obtain⟨m,a⟩:=h2;cases a)
 ·simp_all [wt]
def D5{c:Cx}{t:Ty}{n:Bool}{v:Value}(h:AR c (.d t (.bool n)) v):v=.bool n:=by
 simp only[AR] at h;rcases h with⟨h1,h2,h3⟩|⟨a,rfl,_,h2,_⟩
 ·exact h3.bool_inv
 ·simp_all [wt]
def cT{c:Cx}(k:IntKind)(n:Int):AR c (.d (.int k) (.int k n)) (.int k n):=
 dK rfl (by simp only[wt];exact⟨n,rfl⟩) (abV (.int k n))
def gJ{c:Cx}(b:Bool):AR c (.d .bool (.bool b)) (.bool b):=
 dK rfl (by simp only[wt];exact⟨b,rfl⟩) (abV (.bool b))
def eY(P:Program)(o:Oper)(a:Act)(w:World)(K:Value->World->Prop):Prop:=
 match (execOp a.eval o).run P w with
 | .ok (.value v) w'=>K v w'
 | .ok .skip w'=>K undef w'
 | .ok (.enter f args) w'=>Calls P f args w' λe b=>∃ v,e=.returned v/\K v b
 | _=>False
variable{ro:Option Nat}{nn:Nat}
def eY.plain{P:Program}{o:Oper}{a:Act}{w:World}{K:Value->World->Prop}(h:eY P o a w K)(c:Call):o.op≠.defer c:=by
 intro hc;unfold eY at h;obtain⟨dst,op,ty,pos,after,guard⟩:=o;simp only at hc;subst hc;have e:execOp a.eval ⟨dst,.defer c,ty,pos,after,guard⟩=(resolve a.eval c ty >>= λd=>pure (Next.defer d)):=rfl;rw[e,zla] at h;cases hr:(resolve a.eval c ty).run P w with
 | ok d w'=>rw[hr] at h;exact h
 | halt x w'=>rw[hr] at h;exact h
def A0{P:Program}{f:FuncId}{args:Array Value}{w:World}{R:Ending->World->Prop}{m:Nat}(h:Calls P f args w R):CallsIn (FW ro) m P f args w R:=by
 have h1:CallsIn Fence.wide m P f args w R:=callsIn_wide.2 h;cases ro with
 | none=>exact h1
 | some l=>exact CallsIn.inRound l h1
def bC{P:Program}{o:Oper}{a:Act}{w:World}{K:Value->World->Prop}{next:Act->World->Prop}{Q:Exit->Act->World->Prop}(h:eY P o a w K)(hk:∀ v w',K v w'->next (a.put o.dst v) w'):o.wpIn (FW ro) nn P a w next Q:=by
 refine⟨λ_ _=>trivial,?_⟩;rw[Oper.semAt_eq _ _ _ h.plain];unfold eY at h;generalize (execOp a.eval o).run P w=r at *;cases r with
 | ok n w'=>
  cases n<;>simp only at h<;>simp only[Oper.uponIn]
  case value v=>exact hk _ _ h
  case skip=>exact hk _ _ h
  case enter f args=>exact⟨λb=>(by cases b),A0 (h.mono λe d ⟨v,he,c⟩=>by subst he;exact hk _ _ c)⟩
 | halt x w'=>simp only at h
def y7{P:Program}{f:FuncId}{fn:Func}{c:Code}{args:Array Value}{w:World}{R:Ending->World->Prop}(hf:P.funcs[f]?=some fn)(a:fn.body=some c)
  (h:c.wpIn (FW none) 0 P (bodyPost P fn R) { tmps:=args++Array.replicate (fn.ntmps-args.size) undef,defers:=[] } w):Calls P f args w R:=
 calls_of_wp hf a (wpIn_wide.1 h)
section
variable{P:Program}{Q:Exit->Act->World->Prop}{a:Act}{w:World}{F:Fence}{n:Nat}
theorem jR{md:Region.Mode}{ops:Array Oper}{Q':Exit->Act->World->Prop}:∀ (l:List Oper) (k:Nat) (listed:Array Bool) (a:Act) (w:World),(∀ j,l[j]?=ops[k+j]?) ->
  Region.seqB md ops l.length k listed=true->wpListIn F n P ops Q' l a w->wpAnyIn F n P md ops Q' l.length listed a w
 | [],_,_,_,_,_,b,h=>⟨by simpa [Region.seqB] using b,h⟩
 | o::l,k,listed,a,w,hl,b,h=>by
  have h0:ops[k]?=some o:=by simpa using(hl 0).symm
  simp only[zQa,Region.seqB,zaa,zfa] at b;refine⟨λh1=>(by rw[b.1] at h1;cases h1),λi d=>?_⟩
  rw[b.1] at d;have c:i=k:=by simpa using d
  subst c;have hw:wpOpIn F n P ops Q' i (wpListIn F n P ops Q' l) a w:=by unfold wpOpIn;simp only[h0];exact h
  exact wpOpIn_mono (λa' w' e=>jR l (i+1) _ a' w' (λj=>by have:=hl (j+1);simpa [zVb,zSc 1 j] using this) b.2 e) hw
def gd{b:Frame}{k:List Item}{cs:List Frame}{c:Code}:step P (lone (b.atR a (.code (.scope c)::k)) cs w)=.next (lone (b.atR a (.code c::.inScope c::k)) cs w):=
 step_lone_go (by simp[stepG,stepG.exec,Frame.atR])
def wY{b:Frame}{k:List Item}{cs:List Frame}{c:Code}:step P (lone (b.atR a (.inScope c::k)) cs w)=.next (lone (b.atR a k) cs w):=
 step_lone_go (by simp[stepG,stepG.exec,Frame.atR])
def oy{c:Code}(h:c.wpIn F n P (Exit.noGoto Q) a w):(Code.scope c).wpIn F n P Q a w:=by
 intro b k cs p j m;have h0:(lone (b.atR a (.code (.scope c)::k)) cs w).fenced P F:=fenced_calm j m rfl;obtain⟨e,g,i,hq,d⟩:=h b (.inScope c::k) cs p j m;cases e with
 | normal=>exact⟨.normal,g,i,hq,.head h0 gd (StepsIn.trans d (.one (fenced_calm j m rfl) wY))⟩
 | exit f=>
  have hx:exitTo f (.inScope c::k)=exitTo f k:=by simp[exitTo]
  exact⟨.exit f,g,i,hq,λq hk=>.head h0 gd (d.1 q (by rw[hx];exact hk)),
   λo hk=>let ⟨k₁,h1,h2⟩:=d.2 o (by rw[hx];exact hk);⟨k₁,h1,.head h0 gd h2⟩⟩
 | goto l=>exact hq.elim
 | ret=>exact⟨_,g,i,hq,.of_steps (.one h0 gd) d⟩
 | panic r=>exact⟨_,g,i,hq,.of_steps (.one h0 gd) d⟩
 | outgrown=>exact⟨_,g,i,hq,.of_steps (.one h0 gd) d⟩
def yM{c:Code}(J:Nat->Act->World->Prop){m:Nat}(y:J m a w)
  (round:∀ m a w,J m a w->c.wpIn F n P (Exit.then (λa' w'=>∃ i,i<m/\J i a' w') Q) a w):(Code.loop c).wpIn F n P Q a w:=by
 intro b k cs s o r;have key:∀ m a w,J m a w->∃ e a' w',Q e a' w'/\ArrivesIn (Machine.fenced P F) P (lone (b.atR a (.code c::.inLoop c::k)) cs w) b k cs e a' w':=by
  intro m
  induction m using Nat.strongRecOn with
  | _ m ih=>
   intro a w v;obtain⟨e,g,h,hq,d⟩:=round m a w v b (.inLoop c::k) cs s o r;cases e with
   | normal=> obtain⟨i,p,j⟩:=hq;obtain⟨u,t,z,q,f⟩:=ih i p g h j;exact⟨u,t,z,q,.of_steps (StepsIn.trans d (.one (fenced_calm o r rfl) stepR_inLoop)) f⟩
   | exit id=>exact⟨_,g,h,hq,.pass (x:=.inLoop c) rfl (λ_ _=>.inl j3) d⟩
   | goto l=>exact⟨_,g,h,hq,.pass (x:=.inLoop c) rfl (λ_ _=>.inl j3) d⟩
   | ret=>exact⟨_,g,h,hq,.pass (x:=.inLoop c) rfl (λ_ _=>.inl j3) d⟩
   | panic A=>exact⟨_,g,h,hq,.pass (x:=.inLoop c) rfl (λ_ _=>.inl j3) d⟩
   | outgrown=>exact⟨_,g,h,hq,.pass (x:=.inLoop c) rfl (λ_ _=>.inl j3) d⟩
 obtain⟨e,a',w',hq,d⟩:=key m a w y;exact⟨e,a',w',hq,.of_steps (.one (fenced_calm o r rfl) stepR_loop) d⟩
end
theorem eY.value{P:Program}{o:Oper}{a:Act}{w w':World}{v:Value}{K:Value->World->Prop}(h:(execOp a.eval o).run P w=.ok (.value v) w')(hk:K v w'):eY P o a w K:=by simp_all [eY]
theorem eY.skip{P:Program}{o:Oper}{a:Act}{w w':World}{K:Value->World->Prop}(h:(execOp a.eval o).run P w=.ok .skip w')(hk:K undef w'):eY P o a w K:=by simp_all [eY]
theorem eY.enter{P:Program}{o:Oper}{a:Act}{w w':World}{f:FuncId}{args:Array Value}{K:Value->World->Prop}(h:(execOp a.eval o).run P w=.ok (.enter f args) w')(hk:Calls P f args w' λe b=>∃ v,e=.returned v/\K v b):eY P o a w K:=by simp_all [eY]
theorem eY.mono{P:Program}{o:Oper}{a:Act}{w:World}{K K':Value->World->Prop}(h:eY P o a w K)(hk:∀ v w',K v w'->K' v w'):eY P o a w K':=by
 unfold eY at *;generalize (execOp a.eval o).run P w=r at *;cases r with
 | ok n w'=>
  cases n<;>simp only at h ⊢
  case value v=>exact hk _ _ h
  case skip=>exact hk _ _ h
  case enter f args=>exact h.mono λe c ⟨v,he,b⟩=>⟨v,he,hk _ _ b⟩
 | halt x w'=>simp only at h
section
variable{w0:Root}{S:Nat->Nat->Prop}{γ:Nat->Option Nat}{β:Nat->Option (Nat×Nat)}{s:St}{a:Act}{w:World}
def aT(h:Rp w0 S γ β s a w):∀ x:Operand,AR ⟨w,S,γ,β,s.ob,s.dead⟩ (s.opA x) (a.eval x)
 | .tmp t=>by
  simp only[St.opA,Act.eval];by_cases ht:t<a.tmps.size
  ·exact h.tms t ht
  ·rw[h.tmu t (h.nt ▸ Nat.le_of_not_lt ht)];simp[AR]
 | .const v=>by
  simp only[St.opA,Act.eval];cases v<;>simp only[Ip]<;>first
   | exact cT _ _
   | exact gJ _
   | exact dK rfl (by simp only[wt];exact⟨_,rfl⟩) (abV (.str _))
   | (simp only[AR];done)
   | skip
  case slice a len cap=>
   match a,len,cap with
   | none,0,0=>simp[AR,AC,Value.cells]
   | some _,_,_=>simp only[AR]
   | none,_+1,_=>simp only[AR]
   | none,0,_+1=>simp only[AR]
 | .global g=>by simp[St.opA,AR]
 | .func f=>by simp only[St.opA,AR,AC];exact⟨λ_ h=>(by cases h),[],rfl,by simp only[oz]⟩
theorem Rp.put(h:Rp w0 S γ β s a w){v:AV}{val:Value}(d:AR ⟨w,S,γ,β,s.ob,s.dead⟩ v val)(dst:Option Nat):Rp w0 S γ β (s.put dst v) (a.put dst val) w:=by
 cases dst with
 | none=>simpa [St.put,Act.put] using h
 | some t=>
  simp only[St.put,Act.put];by_cases ht:t<s.nt
  ·rw[zna ht];refine⟨h.ext,λi b=>?_,by simpa using h.nt,λi b=>?_,h.obs,h.γn,h.γi,h.γf,h.βn,h.βi,h.βγ,h.βf,h.Sb,h.So⟩
   ·simp only[Array.size_setIfInBounds] at b;by_cases hit:i=t
    ·subst hit;simp only[if_true];rw[show(a.tmps.setIfInBounds i val).getD i undef=val by simp[Array.getD,b]]
     exact d
    ·simp only[zka hit];have:=h.tms i b
     rwa [show(a.tmps.setIfInBounds t val).getD i undef=a.tmps.getD i undef by simp[Array.getD,b,Array.getElem_setIfInBounds_ne b (Ne.symm hit)]]
   ·have c:s.nt<=i:=b;show(if i=t then v else s.tm i)=_
    rw[zka j1];exact h.tmu i c
  ·rw[zka ht];have:a.tmps.setIfInBounds t val=a.tmps:=by
    apply Array.setIfInBounds_eq_of_size_le;rw[h.nt];omega
   rw[this];exact h
def zC{w':World}{S':Nat->Nat->Prop}{γ':Nat->Option Nat}{β':Nat->Option (Nat×Nat)}{ob:Nat->Option Ob}{dead:List Nat}
  (hc:∀ b o,S b o->w'.cell? ⟨b,o,none⟩=w.cell? ⟨b,o,none⟩) (c:∀ b o,S b o->S' b o) (g:∀ id b,γ id=some b->γ' id=some b)
  (f:∀ v b e,v ∉ dead->β v=some (b,e)->β' v=some (b,e)/\∀ n,nk w b=some n->nk w' b=some n):Cx.le ⟨w,S,γ,β,ob,dead⟩ ⟨w',S',γ',β',ob,dead⟩:=
 ⟨hc,c,g,λid o d _=>⟨o,d,λp=>⟨rfl,rfl⟩,λt l e=>⟨l,e,rfl⟩,λ_ _ l e=>⟨l,e⟩⟩,λv a=>⟨a,λb e he=>f v b e a he⟩⟩
def dN{os:List Obj}{d:Nat}{b o:Nat}(h:b<w.heap.size):(grown w os d).cell? ⟨b,o,none⟩=w.cell? ⟨b,o,none⟩:=by simp only[World.cell?,cV w os d h]
def yv{os:List Obj}{d:Nat}{b:Nat}(h:b<w.heap.size):nk (grown w os d) b=nk w b:=by simp only[nk,bO,cV w os d h]
theorem jt.mono{c c':Cx}(h:c.le c'){a vt:Ty}:∀ {j:Nat} {l:List D} {es:List MapEntry},jt c a vt j l es->jt c' a vt j l es
 | _,[],[],_=>trivial
 | _,[],_::_,k=>k.elim
 | _,_::_,[],k=>k.elim
 | j,x::l,e::es,k=>by simp only[jt] at k ⊢;obtain⟨⟨f,d,p,g,i,m,n,o⟩,b⟩:=k;exact⟨⟨f,d,p,g,i,m,n.mono h.cell h.S,o.mono h.cell h.S⟩,jt.mono h b⟩
theorem jt.same{c c':Cx}(hw:c'.w=c.w)(a:c'.S=c.S){b vt:Ty}:∀ {j:Nat} {l:List D} {es:List MapEntry},jt c b vt j l es->jt c' b vt j l es
 | _,[],[],_=>trivial
 | _,[],_::_,k=>k.elim
 | _,_::_,[],k=>k.elim
 | j,x::l,e::es,k=>by simp only[jt] at k ⊢;rw[hw,a];exact⟨k.1,jt.same hw a k.2⟩
theorem gm.mono{c c':Cx}(h:c.le c'){b:Nat}{o:Ob}(q:c'.w.heap[b]?=c.w.heap[b]?)(n:∀ o,c'.S b o->c.S b o)(k:gm c b o):gm c' b o:=by
 have e:bO c'.w b=bO c.w b:=by simp only[bO,q]
 cases o<;>simp only[gm] at k ⊢
 case one t v=> obtain⟨f,g,j,cs,a,m,s⟩:=k;exact⟨f,g,λo d=>j o (n o d),cs,by rw[e];exact a,AC.mono h _ _ m,s⟩
 case many t l=> obtain⟨f,g,j,cs,a,m⟩:=k;exact⟨f,g,λo d=>j o (n o d),cs,by rw[e];exact a,m.mono h.cell h.S⟩
 case mp kt vt l=> obtain⟨f,g,j,es,a,m⟩:=k;exact⟨f,g,λo d=>j o (n o d),es,by rw[q];exact a,m.mono h⟩
 case lp i p=> obtain⟨r,a,m,s,u⟩:=k;exact⟨r,by rw[q];exact a,m,λt ht=>(s t ht).mono h.cell h.S h.γ,u⟩
 case fv v=> obtain⟨f,x,g,j,a⟩:=k;exact⟨λo d=>f o (n o d),x,by rw[e];exact g,j.mono h.cell h.S h.γ,a⟩
def Rp.grow(h:Rp w0 S γ β s a w){os:List Obj}{d:Nat}(r:w.drawn<=d){S':Nat->Nat->Prop}(q:∀ b o,S b o->S' b o)(g:∀ b o,S' b o->S b o\/(w.heap.size<=b/\b<(grown w os d).heap.size)) :
  Rp w0 S' γ β s a (grown w os d)/\Cx.le ⟨w,S,γ,β,s.ob,s.dead⟩ ⟨grown w os d,S',γ,β,s.ob,s.dead⟩:=by
 have m:w.heap.size<=(grown w os d).heap.size:=j3
 have hle:Cx.le ⟨w,S,γ,β,s.ob,s.dead⟩ ⟨grown w os d,S',γ,β,s.ob,s.dead⟩:=
  zC (λb o c=>dN (h.Sb b o c)) q (λ_ _ k=>k) (λv b e p he=>⟨he,λn hn=>by rw[yv (h.βn v b e p he).2.1];exact hn⟩)
 refine⟨⟨?_,λt ht=>(h.tms t ht).mono hle,h.nt,h.tmu,λid o b u c=>?_,λid b c=>⟨(h.γn id b c).1,by have:=(h.γn id b c).2;omega⟩,h.γi,h.γf,λv b e p he=>?_,h.βi,h.βγ,h.βf,λb o c=>?_,λb o c j=>?_⟩,hle⟩
 ·exact⟨h.ext.tape,h.ext.os,h.ext.output,zIa h.ext.sz m,zIa h.ext.dr r,λb c=>(cV w os d (znb c.1 h.ext.sz)).trans (h.ext.old b c)⟩
 ·have l:=(h.γn id b c).2;refine(h.obs id o b u c).mono hle (cV w os d l) λi x=>?_;all_goals grind
 ·obtain⟨y,z,A⟩:=h.βn v b e p he;all_goals grind
 ·rcases g b o c with k|k
  ·have:=h.Sb b o k;omega
  ·exact k.2
 ·rcases g b o c with k|k
  ·exact h.So b o k j
  ·exfalso;have:=h.ext.sz;have h2:=j.1;omega
def pw{α:Type}(f:Nat->Option α)(i:Nat)(x:α):Nat->Option α:=λj=>if j=i then some x else f j
def bH{α:Type}(f:Nat->Option α)(i:Nat)(x:α):pw f i x i=some x:=by simp[pw]
def bY{α:Type}(f:Nat->Option α){i j:Nat}(x:α)(h:j≠i):pw f i x j=f j:=by simp[pw,h]
def fo{α:Type}{f:Nat->Option α}{i:Nat}{x:α}(h:f i=none){j:Nat}{y:α}(a:f j=some y):pw f i x j=some y:=by
 by_cases e:j=i
 ·simp_all
 ·rw[bY f x e,a]
def Rp.newOb(h:Rp w0 S γ β s a w){id b:Nat}(hid:γ id=none)(p:¬ w0.Old b)(q:b<w.heap.size)(m:∀ id,γ id≠some b)(y:∀ v e,v ∉ s.dead->β v≠some (b,e))(x:id<s.base+4096)
  (u:∀ o,s.ob id=some o->gm ⟨w,S,pw γ id b,β,s.ob,s.dead⟩ b o):Rp w0 S (pw γ id b) β s a w/\Cx.le ⟨w,S,γ,β,s.ob,s.dead⟩ ⟨w,S,pw γ id b,β,s.ob,s.dead⟩:=by
 have hle:Cx.le ⟨w,S,γ,β,s.ob,s.dead⟩ ⟨w,S,pw γ id b,β,s.ob,s.dead⟩:=
  zC (λ_ _ _=>rfl) (λ_ _ k=>k) (λ_ _ k=>fo hid k) (λv b e l he=>⟨he,λn hn=>hn⟩)
 refine⟨⟨h.ext,λt ht=>(h.tms t ht).mono hle,h.nt,h.tmu,λi o c r hc=>?_,λi c hc=>?_,λi j c hc d=>?_,λi g=>?_,h.βn,h.βi,λv i c e l he hc=>?_,h.βf,h.Sb,h.So⟩,hle⟩
 ·by_cases e:i=id
  ·simp_all [bH]
  ·rw[bY γ b e] at hc;exact(h.obs i o c r hc).mono hle rfl λ_ k=>k
 ·by_cases e:i=id
  ·simp_all [bH]
  ·rw[bY γ b e] at hc;exact h.γn i c hc
 ·by_cases e:i=id
  ·by_cases e':j=id
   ·rw[e,e']
   ·subst e;rw[bH] at hc;cases hc;rw[bY γ b e'] at d;exact z3a d (m j)
  ·by_cases e':j=id
   ·subst e';rw[bH] at d;cases d;rw[bY γ b e] at hc;exact z3a hc (m i)
   ·rw[bY γ b e] at hc;rw[bY γ b e'] at d;exact h.γi i j c hc d
 ·rw[bY γ b j1];exact h.γf i g
 ·by_cases e':i=id
  ·simp_all [bH]
  ·rw[bY γ b e'] at hc;exact h.βγ v i c e l he hc
def Rp.newTok(h:Rp w0 S γ β s a w){v b e:Nat}(x:β v=none)(p:¬ w0.Old b)(q:b<w.heap.size)(B:∀ id,γ id≠some b)(A:∀ v e,v ∉ s.dead->β v≠some (b,e))(l:v<s.base+4096)(z:∀ o,e<=o->¬ S b o) :
  Rp w0 S γ (pw β v (b,e)) s a w/\Cx.le ⟨w,S,γ,β,s.ob,s.dead⟩ ⟨w,S,γ,pw β v (b,e),s.ob,s.dead⟩:=by
 have hle:Cx.le ⟨w,S,γ,β,s.ob,s.dead⟩ ⟨w,S,γ,pw β v (b,e),s.ob,s.dead⟩:=
  zC (λ_ _ _=>rfl) (λ_ _ k=>k) (λ_ _ k=>k) (λv b e y he=>⟨fo x he,λn hn=>hn⟩)
 refine⟨⟨h.ext,λt ht=>(h.tms t ht).mono hle,h.nt,h.tmu,λi o c r hc=>(h.obs i o c r hc).mono hle rfl λ_ k=>k,h.γn,h.γi,h.γf,λu c f hu hc=>?_,λu j c f m hu g hc d=>?_,λu i c f hu hc l=>?_,λu hu=>?_,h.Sb,h.So⟩,hle⟩
 ·by_cases e':u=v
  ·simp_all [bH]
  ·rw[bY β _ e'] at hc;exact h.βn u c f hu hc
 ·by_cases e1:u=v
  ·by_cases e2:j=v
   ·rw[e1,e2]
   ·simp_all [bH,bY,e2]
  ·by_cases e2:j=v
   ·simp_all [bH,bY,e1]
   ·rw[bY β _ e1] at hc;rw[bY β _ e2] at d;exact h.βi u j c f m hu g hc d
 ·by_cases e':u=v
  ·simp_all [bH]
  ·rw[bY β _ e'] at hc;exact h.βγ u i c f hu hc l
 ·rw[bY β _ j1];exact h.βf u hu
end
def Qp(w0:Root)(S:Nat->Nat->Prop)(γ:Nat->Option Nat)(β:Nat->Option (Nat×Nat))(s:St)(a:Act)(w:World)(dst:Option Nat)(v:AV)(val:Value)(w':World):Prop:=
 ∃ S' γ' β',Rp w0 S' γ' β' s a w'/\AR ⟨w',S',γ',β',s.ob,s.dead⟩ v val/\(∀ b o,S b o->S' b o)/\(∃ os d,w'=grown w os d) ∧
  (∀ id b,γ id=some b->γ' id=some b)/\(∀ id,dst≠some (id-s.base)\/id<s.base->γ' id=γ id/\β' id=β id)
section
variable{w0:Root}{S:Nat->Nat->Prop}{γ:Nat->Option Nat}{β:Nat->Option (Nat×Nat)}{s:St}{a:Act}{w:World}
def Qp.same(h:Rp w0 S γ β s a w){v:AV}{val:Value}(b:AR ⟨w,S,γ,β,s.ob,s.dead⟩ v val)(dst:Option Nat):Qp w0 S γ β s a w dst v val w:=
 ⟨S,γ,β,h,b,λ_ _ k=>k,⟨[],_,(Gb w).symm⟩,λ_ _ k=>k,λ_ _=>⟨rfl,rfl⟩⟩
end
end Sy
end
noncomputable section
namespace Sy
open Go
def Fr(E:Env)(s:St)(γ:Nat->Option Nat)(β:Nat->Option (Nat×Nat))(o:Oper):Prop:=
 za o=true->∀ d:Nat,o.dst=some d->d<4096/\γ (s.base+d)=none/\β (s.base+d)=none/\∀ T x,o.op=.alloc T->E.alOb T=some x->s.ob (s.base+d)=some x
def Md{E:Env}{s:St}{γ:Nat->Option Nat}{β:Nat->Option (Nat×Nat)}{o:Oper}(h:za o=false):Fr E s γ β o:=λhc=>by rw[h] at hc;cases hc
def eN{x:AV}{p:Ty×D}(h:isD x=some p):x=.d p.1 p.2:=by cases x<;>simp[isD] at h;grind
theorem yK{x:D}{b:Bool}(h:x.truth=some b):x=.bool b:=by
 cases x<;>simp[D.truth] at h
 simp_all
def pq{c:Cx}{x:AV}{b:Bool}{v:Value}(h:x.truth=some b)(k:AR c x v):v=.bool b/\∃ t,x=.d t (.bool b):=by
 cases x<;>simp only[AV.truth] at h<;>first|cases h|skip
 split at h<;>first|(cases h;done)|skip
 have:=yK h;subst this;exact⟨D5 k,_,rfl⟩
def pW{x:D}{n k:Nat}(h:x.idx n=some k):∃ a,x=.int a k/\k<n:=by
 cases x<;>simp only[D.idx] at h<;>first|cases h|skip
 rename_i a i;split at h
 ·rename_i b;simp only[zda] at h;refine⟨a,?_,j1⟩
  grind
 ·cases h
def yg{x:D}{k:Nat}(h:x.natOf=some k):∃ a,x=.int a k:=by
 cases x<;>simp only[D.natOf] at h<;>first|cases h|skip
 rename_i a i;split at h
 ·simp only[zda] at h;refine⟨a,?_⟩;grind
 ·cases h
def HG{x:D}{l:List D}(h:x.asSl=some l):x=.sl l:=by
 cases x<;>simp[D.asSl] at h
 simp_all
def yr{c:Cx}{t:Ty}{id:Nat}{v:Value}(a:xG (c.ob id)=true)(na:∀ cs,v≠.agg cs)(h:AC c (.ptr t id []) v.cells.toList):∃ b,v=.pointer (some ⟨b,0,none⟩)/\c.γ id=some b:=by
 simp only[AC] at h;obtain⟨b,off,h1,h2,h3⟩:=h;unfold xG at a;split at a<;>first|(cases a;done)|skip
 all_goals
  rename_i d;obtain⟨_,e⟩:=h3 _ d;have:off=0:=e;subst this;exact⟨b,ar na h1,h2⟩
theorem tC{c:Cx}:∀ (l:List AV) (caps:List Value),wD l=true->(l.all (λa=>match a with|.ptr _ id _=>xG (c.ob id)|_=>false))=true->oz c l caps->oA c l caps
 | [],caps,_,_,h=>by simp only[oz] at h;subst h;trivial
 | x::l,caps,hw,d,h=>by
  simp only[oz] at h;obtain⟨v,c2,rfl,h1,h2⟩:=h;simp only[zXb,zaa] at d;unfold wD at hw;split at hw<;>first|(cases hw;done)|skip
  ·simp_all
  ·rename_i t id l' e;cases e;refine⟨?_,tC l c2 hw d.2 h2⟩;have na:∀ cs,v≠.agg cs:=λcs e=>by
    simp only[AC] at h1;obtain⟨b,off,q,_⟩:=h1;subst e;simp at q
   have h3:=yr d.1 na (v:=v) (by
    have q:=h1;simp only[AC] at q;obtain⟨b,off,q,_⟩:=q;have:v=.pointer (some ⟨b,off,none⟩):=by simpa using q
    subst this;exact h1)
   exact h3
def Fc{c:Cx}{f:Nat}{l:List AV}{v:Value}(h:AR c (.clo f l) v):fR c (if wD l&&l.all (λa=>match a with|.ptr _ id _=>xG (c.ob id)|_=>false) then .clo f l else .undef) v:=by
 split
 ·rename_i hc;simp only[zaa] at hc;simp only[AR,AC] at h;obtain⟨na,caps,h1,h2⟩:=h;simp only[fR];exact⟨caps,ar na h1,tC l caps hc.1 hc.2 h2⟩
 ·simp only[fR]
def Fd{c:Cx}{a vt:Ty}{id:Nat}{v:Value}(h:AR c (.map a vt id) v):fR c (.map a vt id) v:=by simp only[AR,AC] at h;obtain⟨na,b,h1,h2,h3,d,_⟩:=h;exact⟨b,ar na h1,h2,h3,d⟩
def Fb{c:Cx}{a:AV}{v:Value}(h:mA (jO c.ob a)=true)(k:AR c a v):fR c (jO c.ob a) v/\v.oneCell'=true:=by
 have key:mA a=true:=by
  cases a<;>simp only[jO] at h<;>first|rfl|(cases h;done)|skip
  rename_i t id p;cases p<;>simp only at h
  ·split at h<;>cases h
  ·cases h
 refine⟨?_,Nx key k⟩;cases a<;>simp only[mA] at key<;>first|(cases key;done)|skip
 ·exact Fc k
 ·exact Fd k
 ·exact k
def Es{c:Cx}{x:AV}{v:Value}{dd:List Nat}(h:ul c x v)(hp:ga (lN c.ob x)=true):AC ⟨c.w,c.S,c.γ,c.β,c.ob,dd⟩ (lN c.ob x) [v]/\∀ cs,v≠.agg cs:=by
 unfold ul at h;split at h
 ·rename_i t id;obtain⟨b,rfl,d⟩:=h;refine⟨?_,λcs e=>by cases e⟩
  simp only[lN] at hp ⊢;cases ho:c.ob id with
  | none=>rw[ho] at hp;simp[ga] at hp
  | some o=>
   rw[ho] at hp;cases o<;>simp only[ga] at hp<;>first|(cases hp;done)|skip
   all_goals
    simp only[AC];refine⟨b,0,rfl,d,λo' a=>?_⟩;have:some o'=some _:=a.symm.trans ho;cases this;exact⟨rfl,rfl⟩
 ·exact h.elim
theorem A2{c:Cx}{dd:List Nat}:∀ {l:List AV} {vs:List Value},oA c l vs->(l.map (lN c.ob)).all ga=true->oz ⟨c.w,c.S,c.γ,c.β,c.ob,dd⟩ (l.map (lN c.ob)) vs
 | [],[],_,_=>by simp[oz]
 | [],_::_,h,_=>h.elim
 | _::_,[],h,_=>h.elim
 | x::l,v::vs,h,hp=>by simp only[zab,zXb,zaa] at hp;simp only[zab,oz];exact⟨v,vs,rfl,(Es h.1 hp.1).1,A2 h.2 hp.2⟩
def A1{c:Cx}{x:AV}{v:Value}{dd:List Nat}(h:fR c x v):AR ⟨c.w,c.S,c.γ,c.β,c.ob,dd⟩ (oC c.ob x) v:=by
 cases x<;>simp only[fR] at h<;>simp only[oC]<;>first|(simp only[AR];done)|skip
 case d t y=>simpa only[AR] using h
 case fptr t y=>simpa only[AR,AC] using h
 case ptr t id p=>
  cases hp:ga (lN c.ob (.ptr t id p)) with
  | true=>
   obtain⟨m,s⟩:=Es (dd:=dd) h hp;have n:v.cells.toList=[v]:=by
    unfold ul at h;split at h
    ·obtain⟨b,rfl,_⟩:=h;rfl
    ·exact h.elim
   cases hx:lN c.ob (.ptr t id p)<;>rw[hx] at hp m<;>simp only[ga] at hp<;>first|(cases hp;done)|skip
   simp_all [AR,n]
  | false=>
   have:lN c.ob (.ptr t id p)=.undef:=by unfold lN at hp ⊢;all_goals grind [ga]
   simp_all [AR]
 case clo f l=>
  obtain⟨caps,rfl,hc⟩:=h;split
  ·rename_i hp;simp only[AR,AC];exact⟨λcs e=>(by cases e),caps,rfl,A2 hc hp⟩
  ·simp only[AR]
 case yld id=>simpa only[AR,AC] using h
 case map kt vt id=>
  obtain⟨b,rfl,h1,h2,h3⟩:=h;split
  ·rename_i q r l k;split
   ·rename_i a;simp only[zaa] at a;have i:=aco _ _ a.1;have j:=aco _ _ a.2;subst i;subst j;simp only[AR,AC];refine⟨λcs e=>(by cases e),b,rfl,h1,h2,h3,λo g=>?_⟩
    have:some o=some _:=g.symm.trans k;cases this;exact⟨l,rfl⟩
   ·simp only[AR]
  ·simp only[AR]
section
variable{P:Program}{E:Env}{w0:Root}{S:Nat->Nat->Prop}{γ:Nat->Option Nat}{β:Nat->Option (Nat×Nat)}{s:St}{a:Act}{w:World}
def jU(P:Program)(E:Env)(w0:Root)(S:Nat->Nat->Prop)(γ:Nat->Option Nat)(β:Nat->Option (Nat×Nat))(s:St)(a:Act)(w:World)(o:Oper):Prop:=
 ∀ (R:Type) (K:AV->Option R) (r:R),qv E s o K=some r->∃ v,K v=some r/\eY P o a w (Qp w0 S γ β s a w o.dst v)
def mo(a:Addr):(Instr.sureAddr (.pointer (some a))).run P w=.ok a w:=rfl
def Nt(h:Rp w0 S γ β s a w){dst x ty pos after guard}:jU P E w0 S γ β s a w ⟨dst,.move x,ty,pos,after,guard⟩:=by intro R K r hq;exact⟨_,hq,.value (v:=a.eval x) (w':=w) (by simp[execOp]) (Qp.same h (aT h x) _)⟩
def GI(h:Rp w0 S γ β s a w){dst x ty pos after guard}:jU P E w0 S γ β s a w ⟨dst,.assign x,ty,pos,after,guard⟩:=by intro R K r hq;exact⟨_,hq,.value (v:=a.eval x) (w':=w) (by simp[execOp]) (Qp.same h (aT h x) _)⟩
def Nu(h:Rp w0 S γ β s a w){dst c x y ty pos after guard}:jU P E w0 S γ β s a w ⟨dst,.pick c x y,ty,pos,after,guard⟩:=by
 intro R K r hq;simp only[qv] at hq;obtain⟨b,h1,h2⟩:=ab hq;obtain⟨h3,_⟩:=pq h1 (aT h c);cases b
 ·exact⟨_,by simpa using h2,.value (v:=a.eval y) (w':=w) (by simp[execOp,h3,asBool]) (Qp.same h (aT h y) _)⟩
 ·exact⟨_,by simpa using h2,.value (v:=a.eval x) (w':=w) (by simp[execOp,h3,asBool]) (Qp.same h (aT h x) _)⟩
def Cb(h:Rp w0 S γ β s a w){dst x ty pos after guard}:jU P E w0 S γ β s a w ⟨dst,.nilCheck x,ty,pos,after,guard⟩:=by
 intro R K r hq;simp only[qv] at hq;have hx:=aT h x;generalize s.opA x=y at *;cases y<;>(try simp only at hq)<;>first|cases hq|skip
 rename_i t id p;refine⟨_,hq,?_⟩;have c:=hx;simp only[AR,AC] at hx;obtain⟨h1,b,off,h2,h3⟩:=hx;have d:=ar h1 h2;exact .value (v:=a.eval x) (w':=w) (by simp[execOp,d]) (Qp.same h c _)
mutual
theorem wH:∀ (t:Ty),am t=true->AV.fits t (lG t)=true
 | .int k,_=>bU _ _
 | .bool,_=>bU _ _
 | .str,_=>bU _ _
 | .st ts,hn=>by
  simp only[lG];split
  ·simp only[AV.fits,zaa];exact⟨by have:=acn (.st ts);simpa [Ty.beq] using this,kl ts (by simpa [am] using hn)⟩
  ·exact bU _ _
 | .arr n t,_=>bU _ _
 | .sl t,_=>rfl
 | .tup _,h=>by simp[am] at h
 | .fn,h=>by simp[am] at h
theorem kl:∀ (ts:List Ty),bq ts=true->AV.fitss ts (kH ts)=true
 | [],_=>rfl
 | t::ts,h=>by simp only[bq,zaa] at h;simp only[kH,AV.fitss,zaa];exact⟨wH t h.1,kl ts h.2⟩
end
mutual
theorem cY:∀ (t:Ty),am t=true->wt t (aq t)
 | .int k,_=>by simp_all [wt,aq]
 | .bool,_=>by simp_all [wt,aq]
 | .str,_=>by simp_all [wt,aq]
 | .st ts,hn=>by simp only[wt,aq];exact⟨_,rfl,pD ts (by simpa [am] using hn)⟩
 | .arr n t,hn=>by
  simp only[wt,aq];refine⟨_,rfl,j3,λx hx=>?_⟩
  rw[(zjd.1 hx).2];exact cY t (by simpa [am] using hn)
 | .sl t,_=>by simp only[wt,aq];exact⟨[],rfl,λx hx=>by simp at hx⟩
 | .tup _,h=>by simp[am] at h
 | .fn,h=>by simp[am] at h
theorem pD:∀ (ts:List Ty),bq ts=true->fG ts (gD ts)
 | [],_=>by simp[fG,gD]
 | t::ts,h=>by simp only[bq,zaa] at h;simp only[gD,fG];exact⟨_,_,rfl,cY t h.1,pD ts h.2⟩
end
def MN{w:World}{S:Nat->Nat->Prop}{d:D}{v:Value}(h:F5 d v=true):CR w S d v:=by
 cases d<;>cases v<;>simp only[F5] at h<;>first|cases h|skip
 case int.int k n k' n'=>simp at h;rw[h.1,h.2];exact .int _ _
 case bool.bool b b'=>simp at h;rw[h];exact .bool _
 case str.string x y=>
  have:x=y:=by simpa using h
  rw[this];exact .str _
 case sl.slice l a len cap=> simp only[zaa,List.isEmpty_iff,Option.isNone_iff_eq_none,zfa] at h;obtain⟨⟨⟨rfl,rfl⟩,rfl⟩,rfl⟩:=h;exact .sl [] none 0 0 0 (λ_=>undef) (.inl rfl) (zia 0) (λi d c=>by simp[abM] at c) (λi d c=>by simp[abM] at c)
theorem cL{w:World}{S:Nat->Nat->Prop}:∀ {a:List D} {cs:List Value},cS a cs=true->c8 w S a cs
 | [],[],_=>c8.nil
 | [],_::_,h=>by simp[cS] at h
 | _::_,[],h=>by simp[cS] at h
 | d::a,v::cs,h=>by simp only[cS,zaa] at h;exact c8.append (c8.single.2 (MN h.1)) (cL h.2)
theorem tF:∀ {a b:List D} {cs:List Value},cS (a++b) cs=true->cS a (cs.take a.length)=true/\cS b (cs.drop a.length)=true
 | [],b,cs,h=>by simpa [cS] using h
 | d::a,b,[],h=>by simp[cS] at h
 | d::a,b,v::cs,h=>by
  simp only[zzb,cS,zaa] at h;obtain⟨h1,h2⟩:=tF h.2
  simp_all [zQa,zdc,zfd,cS,zaa]
mutual
theorem CH{c:Cx}:∀ (t:Ty) (cs:List Value),am t=true->cS (aq t).flat cs=true->AC c (lG t) cs
 | .int k,cs,hn,h=>by simp only[lG,AC];exact⟨cY _ hn,hn,cL h⟩
 | .bool,cs,hn,h=>by simp only[lG,AC];exact⟨cY _ hn,hn,cL h⟩
 | .str,cs,hn,h=>by simp only[lG,AC];exact⟨cY _ hn,hn,cL h⟩
 | .st ts,cs,hn,h=>by
  simp only[lG];split
  ·simp only[am] at hn;simp only[AC];exact⟨hn,kl ts hn,mv ts cs hn (by simpa [aq,D.flat] using h)⟩
  ·simp only[AC];exact⟨cY _ hn,hn,cL h⟩
 | .arr n t,cs,hn,h=>by simp only[lG,AC];exact⟨cY _ hn,hn,cL h⟩
 | .sl t,cs,hn,h=>by
  simp only[lG,AC];simp only[aq,D.flat] at h
  match cs,h with
  | [],h=>simp[cS] at h
  | [v],h=>
   simp only[cS,zaa] at h;have h1:=h.1;cases v<;>simp only[F5] at h1<;>first|cases h1|skip
   simp_all
  | v::u::cs,h=>simp[cS] at h
 | .tup _,_,h,_=>by simp[am] at h
 | .fn,_,h,_=>by simp[am] at h
theorem mv{c:Cx}:∀ (ts:List Ty) (cs:List Value),bq ts=true->cS (abM (gD ts)) cs=true->lH c (kH ts) cs
 | [],cs,_,h=>by grind [gD,abM,kH,lH,cS]
 | t::ts,cs,hn,h=>by simp only[bq,zaa] at hn;simp only[gD,abM] at h;obtain⟨h1,h2⟩:=tF h;simp only[kH,lH];exact⟨_,_,(zua _ _).symm,CH t _ hn.1 h1,mv ts _ hn.2 h2⟩
end
end
def nZ{R:Type}{c:Cx}{b:Nat}{o:Ob}{p:List Nat}{t:Ty}{K:AV->Option R}{r:R}(f:gm c b o)(ht:fk o p=some t)(h:gT o p K=some r) :
  ∃ a' cs,K a'=some r/\AC c a' cs/\AV.fits t a'=true/\am t=true/\∀ (i:Nat) (v:Value),cs[i]?=some v->c.w.cell? ⟨b,cD o p+i,none⟩=some v:=by
 cases o
 case mp=>simp[fk] at ht
 case lp=>simp[fk] at ht
 case fv=>simp[gT] at h
 case one T v=> simp only[gm] at f;obtain⟨h1,h2,_,cs,k,e,q⟩:=f;simp only[fk] at ht;simp only[gT] at h;obtain⟨a',pre,mid,post,d,rfl,n,z,A⟩:=EG p h2 h1 ht e h;refine⟨a',mid,d,z,A,dU p h1 ht,λi v m=>?_⟩;rw[cell_of_row _ k];simp only[cD,<-n];grind
 case many T l=>
  simp only[gm] at f;obtain⟨h1,h2,_,cs,k,e⟩:=f;cases p with
  | nil=>simp[fk] at ht
  | cons i p=>
   simp only[fk] at ht;simp only[gT] at h;obtain⟨x,d,n⟩:=ab h;rw[cu d] at e;obtain⟨q,s⟩:=e.split;obtain⟨u,B⟩:=s.split;have hx:=h2 x (zbb d);obtain⟨a',pre,mid,post,m1,m2,m3,m4,m5⟩:=EG (c:=c) (cs:=(cs.drop (abM (l.take i)).length).take x.flat.length) p (bU T x) h1 ht (by simp only[AC];exact⟨hx,h1,u⟩) n
   refine⟨a',mid,m1,m4,m5,dU p h1 ht,λj v m=>?_⟩;rw[cell_of_row _ k];have hlen:(abM (l.take i)).length=i*T.size:=by rw[aE h1 _ (λx hx=>h2 x (zRa hx))];have:=(zqa.1 d).1;simp[zDb (zyc this)]
   simp only[cD,<-m3,zBc];have y:=(zqa.1 m).1;have a:((cs.drop (abM (l.take i)).length).take x.flat.length)[pre.length+j]?=some v:=by rw[m2,zYb j1,zNb,zvb y];exact m
   have g:=(zqa.1 a).1;rw[zgb] at g;rw[z6b j1,z8b,hlen] at a
   rw[show i*T.size+pre.length+j=i*T.size+(pre.length+j) by omega]
   exact a
section
variable{P:Program}{E:Env}{w0:Root}{S:Nat->Nat->Prop}{γ:Nat->Option Nat}{β:Nat->Option (Nat×Nat)}{s:St}{a:Act}{w:World}
def j9(a:EnvOk P E){T:TypeId}{t:Ty}(h:E.L T=some t)(hn:am t=true):bJ P t T=true:=by
 rcases a.lay T t h with⟨b,rfl⟩|h
 ·simp[am] at hn
 ·exact h
def lI{c:Cx}{t:Ty}{id:Nat}{p:List Nat}{v:Value}(h:AR c (.ptr t id p) v):∃ b off,v=.pointer (some ⟨b,off,none⟩)/\c.γ id=some b/\∀ o,c.ob id=some o->fk o p=some t/\off=cD o p:=by simp only[AR,AC] at h;obtain⟨h1,b,off,h2,h3⟩:=h;exact⟨b,off,ar h1 h2,h3⟩
def gK{c:Cx}{t:Ty}{id:Nat}{p:List Nat}{b off:Nat}(h:c.γ id=some b)(h2:∀ o,c.ob id=some o->fk o p=some t/\off=cD o p):AR c (.ptr t id p) (.pointer (some ⟨b,off,none⟩)):=by simp only[AR,AC];exact⟨j3,b,off,rfl,h,h2⟩
def yO{c:Cx}{t:Ty}{x:D}{v:Value}(h:AR c (.fptr t x) v):wt t x/\am t=true/\∃ b off,v=.pointer (some ⟨b,off,none⟩)/\q9 c.w c.S b off x.flat:=by simp only[AR,AC] at h;obtain⟨h1,h2,h0,b,off,h3,a⟩:=h;exact⟨h2,h0,b,off,ar h1 h3,a⟩
def oI{c:Cx}{t:Ty}{x:D}{b off:Nat}(h:wt t x)(hn:am t=true)(h2:q9 c.w c.S b off x.flat):AR c (.fptr t x) (.pointer (some ⟨b,off,none⟩)):=by simp only[AR,AC];exact⟨j3,h,hn,b,off,rfl,h2⟩
def Ns(M:EnvOk P E)(h:Rp w0 S γ β s a w){dst T x ty pos after guard}:jU P E w0 S γ β s a w ⟨dst,.load T x,ty,pos,after,guard⟩:=by
 intro R K r hq;simp only[qv] at hq;have hx:=aT h x;cases hfn:E.fnT T with
 | true=>
  rw[hfn] at hq;simp only[cond_true] at hq;split at hq<;>first|cases hq|skip
  rename_i id e;split at hq<;>first|cases hq|skip
  rename_i y k;split at hq<;>first|cases hq|skip
  rw[e] at hx;obtain⟨b,off,B,I,g⟩:=lI hx;obtain⟨_,rfl⟩:=g _ k;obtain⟨_,c,q,u,k3⟩:=h.obs id _ b k I;replace u:=A1 (dd:=s.dead) u;exact⟨_,hq,.value (v:=c) (w':=w) (by simp[execOp,B,Ck (M.fnT T hfn) q,cD]) (Qp.same h u _)⟩
 | false=>
 rw[hfn] at hq;simp only[cond_false] at hq;replace hq:=ab hq;obtain⟨t,ht,hq⟩:=hq;generalize s.opA x=y at *;cases y<;>(try simp only at hq)<;>first|cases hq|skip
 case ptr t' id p=>
  split at hq<;>first|cases hq|skip
  rename_i j;have:=aco _ _ j;subst this;replace hq:=ab hq;obtain⟨o,k,hq⟩:=hq;obtain⟨b,off,B,I,g⟩:=lI hx;obtain⟨q,rfl⟩:=g o k;obtain⟨a',cs,m1,m2,m3,m4,m5⟩:=nZ (h.obs id o b k I) q hq;obtain⟨m6,m7⟩:=iK _ _ _ m3 m2;obtain⟨v,d,f⟩:=kh (j9 M ht m4) (w:=w) (b:=b) (off:=cD o p) m6 m7 m5;exact⟨a',m1,.value (v:=v) (w':=w) (by simp[execOp,B,d]) (Qp.same h (w8 m3 m2 f) _)⟩
 case fptr t' z=>
  split at hq<;>first|cases hq|skip
  rename_i j;have:=aco _ _ j;subst this;obtain⟨q,W,b,off,B,cs,u,k3⟩:=yO hx;obtain⟨v,d,f⟩:=kh (j9 M ht W) (w:=w) (b:=b) (off:=off) (cs:=cs) (by rw[<-u.1];exact cH _ _ q W) u.nag (λi c hc=>(k3 i c hc).2)
  exact⟨_,hq,.value (v:=v) (w':=w) (by simp[execOp,B,d]) (Qp.same h (w8 (bU _ _) (by simp only[AC];exact⟨q,W,u⟩) f) _)⟩
 case sub sl e id p lo n=>
  split at hq<;>first|cases hq|skip
  rename_i j;simp only[zaa,zTa] at j;obtain⟨U,j⟩:=j;subst U;have:=aco _ _ j;subst this;replace hq:=ab hq;obtain⟨o,k,hq⟩:=hq;simp only[AR,AC] at hx;obtain⟨Q,A,b,off,cap,G,I,g⟩:=hx;simp only[zDa,if_false] at G;have B:=ar Q G;obtain⟨m,q,u,rfl⟩:=g o k;obtain⟨a',cs,m1,m2,m3,m4,m5⟩:=nZ (h.obs id o b k I) q hq;split at m1<;>first|(cases m1;done)|skip
  rename_i m' C l;split at m1<;>first|(cases m1;done)|skip
  rename_i F;simp only[zaa,zfa] at F;have he:=aco _ _ F.1;subst he;have hm:=oT m3;simp only[Ty.arr.injEq] at hm;simp only[AC] at m2;obtain⟨q1,q2,X⟩:=m2;simp only[wt] at q1;obtain⟨l0,e0,q4,Y⟩:=q1;cases e0;have O:l=l.take lo++((l.drop lo).take n++(l.drop lo).drop n):=by rw[zua,zua]
  have N:abM l=abM (l.take lo)++(abM ((l.drop lo).take n)++abM ((l.drop lo).drop n)):=by
   conv=>lhs;rw[O]
   rw[cl,cl]
  simp only[D.flat] at X;rw[N] at X;obtain⟨_,r2⟩:=X.split;obtain⟨Z,_⟩:=r2.split;have J:(abM (l.take lo)).length=lo*C.size:=by rw[aE A _ (λx hx=>Y x (zRa hx)),zgb,zDb j1]
  have L:(abM ((l.drop lo).take n)).length=n*C.size:=by rw[aE A _ (λx hx=>Y x (zbc (zRa hx))),zgb,List.length_drop,zDb j1]
  have V:wt (.arr n C) (.st ((l.drop lo).take n)):=by simp only[wt];exact⟨_,rfl,by rw[zgb,List.length_drop,zDb j1],λx hx=>Y x (zbc (zRa hx))⟩
  have H:am (.arr n C)=true:=by simp only[am];exact A
  obtain⟨v,d,f⟩:=kh (j9 M ht H) (w:=w) (b:=b) (off:=cD o p+lo*C.size) (cs:=(cs.drop (abM (l.take lo)).length).take (abM ((l.drop lo).take n)).length) (by rw[<-Z.1,L];rfl) Z.nag (λi c hc=>by
   have hi:i<(abM ((l.drop lo).take n)).length:=by have:=(zqa.1 hc).1;rw[zgb] at this;omega
   rw[z6b hi,z8b] at hc;have:=m5 _ c hc;rw[J,<-zVb] at this;exact this)
  exact⟨_,m1,.value (v:=v) (w':=w) (by simp[execOp,B,d]) (Qp.same h (w8 (bU _ _) (by simp only[AC];exact⟨V,H,by simp only[D.flat];exact Z⟩) f) _)⟩
def tq{T:TypeId}{d:List Ty}{f:Nat}{u:Ty}(hl:bJ P (.st d) T=true)(hf:d[f]?=some u)(b off:Nat)(w:World) :
  (Instr.fieldAt T (.pointer (some ⟨b,off,none⟩)) f).run P w=.ok (.pointer (some ⟨b,off+acr (d.take f),none⟩)) w:=by
 obtain⟨e,h1,h2⟩:=jH hl;obtain⟨g,h3,h,j,i⟩:=t7 h2 hf;have a:e[f]?=some g:=by simpa using h3
 have c:u.size≠0:=j1
 simp only[Instr.fieldAt,zla,run_underlying h1,zga,a,mo,fieldPlace,cm i,c,if_false,zra,h,de,zcb]
theorem kg:∀ (p:List Nat) {t u v:Ty} {i:Nat},aM t p=some u->aM u [i]=some v->aM t (p++[i])=some v
 | [],t,u,v,i,h,k=>by simp_all [aM]
 | j::p,.st a,u,v,i,h,k=>by simp only[aM,zzb] at h ⊢;obtain⟨z,h1,h2⟩:=ab h;rw[h1];exact kg p h2 k
 | j::p,.arr n t,u,v,i,h,k=>by simp only[aM,zzb] at h ⊢;exact kg p h k
 | j::p,.int _,u,v,i,h,k=>by simp[aM] at h
 | j::p,.bool,u,v,i,h,k=>by simp[aM] at h
 | j::p,.str,u,v,i,h,k=>by simp[aM] at h
 | j::p,.sl _,u,v,i,h,k=>by simp[aM] at h
 | j::p,.tup _,u,v,i,h,k=>by simp[aM] at h
 | j::p,.fn,u,v,i,h,k=>by simp[aM] at h
theorem ji:∀ (p:List Nat) {t u:Ty} {i:Nat},aM t p=some u->aZ t (p++[i])=aZ t p+aZ u [i]
 | [],t,u,i,h=>by simp_all [aM,aZ]
 | j::p,.st a,u,i,h=>by simp only[aM,zzb] at h ⊢;obtain⟨z,h1,h2⟩:=ab h;simp only[aZ];rw[show a.getD j .bool=z by simp[List.getD,h1],ji p h2,zVb]
 | j::p,.arr n t,u,i,h=>by simp only[aM,zzb] at h ⊢;simp only[aZ];rw[ji p h,zVb]
 | j::p,.int _,u,i,h=>by simp[aM] at h
 | j::p,.bool,u,i,h=>by simp[aM] at h
 | j::p,.str,u,i,h=>by simp[aM] at h
 | j::p,.sl _,u,i,h=>by simp[aM] at h
 | j::p,.tup _,u,i,h=>by simp[aM] at h
 | j::p,.fn,u,i,h=>by simp[aM] at h
def yl{o:Ob}{p:List Nat}{t u:Ty}{i:Nat}(h:fk o p=some t)(k:aM t [i]=some u):fk o (p++[i])=some u/\cD o (p++[i])=cD o p+aZ t [i]:=by
 cases o with
 | one T v=>simp only[fk,cD] at h ⊢;exact⟨kg p h k,ji p h⟩
 | many T l=>
  cases p with
  | nil=>simp[fk] at h
  | cons j p=>simp only[fk,cD,zzb] at h ⊢;exact⟨kg p h k,by rw[ji p h,zVb]⟩
 | mp a vt l=>simp[fk] at h
 | lp i q=>simp[fk] at h
 | fv v=>cases p<;>simp[fk] at h;subst h;simp[aM] at k
def Aa(m:EnvOk P E)(h:Rp w0 S γ β s a w){dst T x f ty pos after guard}:jU P E w0 S γ β s a w ⟨dst,.fieldAddr T x f,ty,pos,after,guard⟩:=by
 intro R K r hq;simp only[qv] at hq;replace hq:=ab hq;obtain⟨t,ht,hq⟩:=hq;have hx:=aT h x;generalize s.opA x=y at *;cases t<;>(try simp only at hq)<;>first|cases hq|skip
 rename_i k;cases y<;>(try simp only at hq)<;>first|cases hq|skip
 case ptr t' id p=>
  split at hq<;>first|cases hq|skip
  rename_i d;have:=aco _ _ d;subst this;replace hq:=ab hq;obtain⟨u,hu,hq⟩:=hq;obtain⟨b,off,g,I,e⟩:=lI hx;rcases m.lay T _ ht with⟨l,c⟩|hl
  ·cases c
  refine⟨_,hq,.value (v:=.pointer (some ⟨b,off+acr (k.take f),none⟩)) (w':=w) (by simp only[execOp,g,zla,tq hl hu,zga,zra]) (Qp.same h (gK I λo G=>?_) _)⟩
  obtain⟨j,rfl⟩:=e o G;have:=yl (i:=f) (u:=u) j (by simp[aM,hu])
  exact⟨this.1,by rw[this.2];simp[aZ]⟩
 case fptr t' z=>
  split at hq<;>first|cases hq|skip
  rename_i d;have:=aco _ _ d;subst this;replace hq:=ab hq;obtain⟨u,hu,hq⟩:=hq;replace hq:=ab hq;obtain⟨J,H,hq⟩:=hq;obtain⟨j,n,b,off,g,q⟩:=yO hx;rcases m.lay T _ ht with⟨l,c⟩|hl
  ·cases c
  have F:z.get [f]=some J:=by simp[D.get,H]
  obtain⟨m1,A,B,m2,m3⟩:=jD [f] j n (show aM (.st k) [f]=some u by simp[aM,hu]) F
  rw[m2] at q;have C:=q.part;rw[m3] at C;refine⟨_,hq,.value (v:=.pointer (some ⟨b,off+acr (k.take f),none⟩)) (w':=w) (by simp only[execOp,g,zla,tq hl hu,zga,zra]) (Qp.same h (oI m1 (bX (by simpa [am] using n) hu) ?_) _)⟩
  simpa [aZ] using C
def mB{T:TypeId}{n:Nat}{e:Ty}(hl:bJ P (.arr n e) T=true){c:IntKind}{k:Nat}(hk:k<n)(b off:Nat)(w:World) :
  (Instr.indexAt T (.pointer (some ⟨b,off,none⟩)) (.int c k)).run P w=.ok (.pointer (some ⟨b,off+k*e.size,none⟩)) w:=by
 obtain⟨u,h1,h2⟩:=eO hl;have a:(0:Int)<=(k:Int)/\(k:Int)<(n:Int):=j1
 simp only[Instr.indexAt,asIntOf,pure_bind,zla,run_underlying h1,zga,mo,zra,a,and_self,if_true,cm h2,de,zrd]
def nl{T:TypeId}{e:Ty}(hl:bJ P (.sl e) T=true){c:IntKind}{k len cap:Nat}(hk:k<len)(b off:Nat)(w:World) :
  (Instr.indexAt T (.slice (some ⟨b,off,none⟩) len cap) (.int c k)).run P w=.ok (.pointer (some ⟨b,off+k*e.size,none⟩)) w:=by
 obtain⟨u,h1,h2⟩:=jG hl;have a:(0:Int)<=(k:Int)/\(k:Int)<(len:Int):=j1
 simp only[Instr.indexAt,asIntOf,pure_bind,zla,run_underlying h1,zga,zra,a,and_self,if_true,cm h2,de,zrd]
def Hh{c:Cx}{t:Ty}{id:Nat}{v:Value}(h:AR c (.mem t id) v):am t=true/\∃ b,c.γ id=some b/\∀ o,c.ob id=some o->∃ l,o=.many t l/\v=.slice (some ⟨b,0,none⟩) l.length l.length:=by simp only[AR,AC] at h;obtain⟨h1,h2,b,h3,a⟩:=h;refine⟨h2,b,h3,λo d=>?_⟩;obtain⟨l,e,f⟩:=a o d;exact⟨l,e,ar h1 f⟩
def kJ{c:Cx}{ob:Nat->Option Ob}{e:Ty}{y:AV}{v:Value}{l:List D}(hn:am e=true)(h:AR c y v)(hl:y.asList ob e=some l):(∀ x∈l,wt e x)/\CR c.w c.S (.sl l) v:=by
 unfold AV.asList at hl;obtain⟨x,h1,h2⟩:=ab hl;have:=HG h2;subst this;obtain⟨a,d⟩:=oJ (t:=.sl e) (by simpa [am] using hn) h h1
 simp only[wt] at a;obtain⟨l',b,f⟩:=a;cases b;exact⟨f,d.sl_inv⟩
def Ab(W:EnvOk P E)(h:Rp w0 S γ β s a w){dst T x i ty pos after guard}:jU P E w0 S γ β s a w ⟨dst,.indexAddr T x i,ty,pos,after,guard⟩:=by
 intro R K r hq;simp only[qv] at hq;replace hq:=ab hq;obtain⟨t,ht,hq⟩:=hq;replace hq:=ab hq;obtain⟨ix,M,hq⟩:=hq;have hi:=eN M;have c:=aT h i;rw[hi] at c;have hx:=aT h x;generalize s.opA x=y at *;cases t<;>(try simp only at hq)<;>first|cases hq|skip
 case arr n e=>
  rcases W.lay T _ ht with⟨V,q⟩|hl
  ·cases q
  cases y<;>(try simp only at hq)<;>first|cases hq|skip
  case ptr j id p=>
   split at hq<;>first|cases hq|skip
   rename_i H;have:=aco _ _ H;subst this;replace hq:=ab hq;obtain⟨k,hk,hq⟩:=hq;obtain⟨U,f,d⟩:=pW hk;rw[f] at c;obtain⟨AH,_⟩:=fF c;obtain⟨b,off,C,Q,g⟩:=lI hx;refine⟨_,hq,.value (v:=.pointer (some ⟨b,off+k*e.size,none⟩)) (w':=w) (by simp only[execOp,C,AH,zla,mB hl d,zga,zra]) (Qp.same h (gK Q λo N=>?_) _)⟩
   obtain⟨F,rfl⟩:=g o N;have:=yl (i:=k) (u:=e) F (by cases e<;>simp[aM])
   exact⟨this.1,by rw[this.2];cases e<;>simp[aZ]⟩
  case fptr j z=>
   split at hq<;>first|cases hq|skip
   rename_i H;have:=aco _ _ H;subst this;replace hq:=ab hq;obtain⟨k,hk,hq⟩:=hq;replace hq:=ab hq;obtain⟨z',J,hq⟩:=hq;obtain⟨U,f,d⟩:=pW hk;rw[f] at c;obtain⟨AH,_⟩:=fF c;obtain⟨F,X,b,off,C,L⟩:=yO hx;have hg:z.get [k]=some z':=by simp[D.get,J]
   obtain⟨m1,A,B,m2,m3⟩:=jD [k] F X (show aM (.arr n e) [k]=some e by cases e<;>simp[aM]) hg
   rw[m2] at L;have G:=L.part;rw[m3] at G;refine⟨_,hq,.value (v:=.pointer (some ⟨b,off+k*e.size,none⟩)) (w':=w) (by simp only[execOp,C,AH,zla,mB hl d,zga,zra]) (Qp.same h (oI m1 (by simpa [am] using X) ?_) _)⟩
   have:aZ (.arr n e) [k]=k*e.size:=by cases e<;>simp[aZ]
   rwa [this] at G
 case sl e=>
  rcases W.lay T _ ht with⟨V,q⟩|hl
  ·cases q
  have m:am e=true:=by have:=aH _ _ hl;simpa [am] using this
  by_cases hm:∃ j id,y=.mem j id
  ·obtain⟨j,id,rfl⟩:=hm;simp only at hq;split at hq<;>first|cases hq|skip
   rename_i H;have:=aco _ _ H;subst this;split at hq<;>first|cases hq|skip
   rename_i u l g;replace hq:=ab hq;obtain⟨k,hk,hq⟩:=hq;obtain⟨U,f,d⟩:=pW hk;rw[f] at c;obtain⟨AH,_⟩:=fF c;obtain⟨_,b,Q,I⟩:=Hh hx;obtain⟨l',e1,C⟩:=I _ g;cases e1;refine⟨_,hq,.value (v:=.pointer (some ⟨b,0+k*j.size,none⟩)) (w':=w) (by simp only[execOp,C,AH,zla,nl hl d,zga,zra]) (Qp.same h (gK Q λo N=>?_) _)⟩
   have:o=.many j l:=by have:=g.symm.trans N;cases this;rfl
   subst this;exact⟨by cases j<;>simp[fk,aM],by cases j<;>simp[cD,aZ]⟩
  ·have O:(y.asList s.ob e).bind (λl=>(ix.2.idx l.length).bind λk=>(l[k]?).bind λy=>K (.fptr e y))=some r:=by
    cases y<;>first|exact hq|exact z3a ⟨_,_,rfl⟩ hm
   obtain⟨l,h1,hq⟩:=ab O;replace hq:=ab hq;obtain⟨k,hk,hq⟩:=hq;replace hq:=ab hq;obtain⟨z,J,hq⟩:=hq;obtain⟨U,f,d⟩:=pW hk;rw[f] at c;obtain⟨AH,_⟩:=fF c;obtain⟨F,L⟩:=kJ m hx h1;obtain⟨A,cap,b,off,C,G,k4,Y⟩:=L.elems;have hA:A=some ⟨b,off,none⟩:=by
    rcases G with rfl|G
    ·simp at J
    ·exact G
   rw[cu J] at Y;have Z:=Y.part;rw[aE m _ (λx hx=>F x (zRa hx)),zgb,zDb (zyc d)] at Z;exact⟨_,hq,.value (v:=.pointer (some ⟨b,off+k*e.size,none⟩)) (w':=w) (by simp only[execOp,C,hA,AH,zla,nl hl d,zga,zra]) (Qp.same h (oI (F z (zbb J)) m Z) _)⟩
def iI{T:TypeId}{t:Ty}(hl:bJ P t T=true){cs:Array Value}{pre mid post:List Value}(a:cs.toList=pre++(mid++post))(hm:mid.length=t.size)(hn:nag mid)(w:World) :
  ∃ v,(part T cs pre.length).run P w=.ok v w/\gI t mid v:=by
 have e:cs=(pre++(mid++post)).toArray:=by rw[<-a]
 subst e;unfold part;rw[zla,EP hl,zga];cases ha:cU t
 ·have h1:mid.length=1:=by
   rw[hm];cases t<;>simp[cU] at ha<;>first|rfl|(exfalso;exact xI hl (.inl ⟨_,rfl⟩))
  match mid,h1 with
  | [c],_=>
   have h2:=hn c j3
   refine⟨c,?_,?_,?_,?_⟩
   ·simp
   ·cases c<;>simp_all [Value.cells,Value.oneCell']
   ·simp_all
   ·grind [Value.oneCell']
 ·refine⟨.agg mid.toArray,?_,rfl,λ_=>⟨_,rfl⟩,by rw[ha];intro h;cases h⟩
  simp only[if_true,zla,cm hl,zga,zra]
  simp_all
def JE(J:EnvOk P E)(h:Rp w0 S γ β s a w){dst T x f ty pos after guard}:jU P E w0 S γ β s a w ⟨dst,.field T x f,ty,pos,after,guard⟩:=by
 intro R K r hq;simp only[qv] at hq;replace hq:=ab hq;obtain⟨t,ht,hq⟩:=hq;have hx:=aT h x;generalize s.opA x=y at *;cases t<;>(try simp only at hq)<;>first|cases hq|skip
 rename_i U;cases y<;>(try simp only at hq)<;>first|cases hq|skip
 rename_i W z;split at hq<;>first|cases hq|skip
 rename_i L;have:=aco _ _ L;subst this;replace hq:=ab hq;obtain⟨u,hu,hq⟩:=hq;replace hq:=ab hq;obtain⟨q,N,hq⟩:=hq;rcases J.lay T _ ht with⟨V,m⟩|hl
 ·cases m
 have hn:=aH _ _ hl;obtain⟨n,O⟩:=AM hx hn;have M:z.get [f]=some q:=by simp[D.get,N]
 obtain⟨m1,A,B,m2,m3⟩:=jD [f] n hn (show aM (.st U) [f]=some u by simp[aM,hu]) M
 obtain⟨Q,F⟩:=O;rw[m2] at F;obtain⟨o,p⟩:=F.split;obtain⟨j,G⟩:=p.split;obtain⟨H,h1,h2⟩:=jH hl;obtain⟨g,h3,I,_,C⟩:=t7 h2 hu;have c:=aH _ _ C;obtain⟨cs,b⟩:∃ cs,a.eval x=.agg cs:=by simp only[wt] at n;obtain⟨l,rfl,_⟩:=n;exact Q
 rw[b] at o p j G;simp only[Value.cells] at o p j G;obtain⟨v,e,i⟩:=iI C (cs:=cs) (pre:=cs.toList.take A.length) (mid:=(cs.toList.drop A.length).take q.flat.length) (post:=(cs.toList.drop A.length).drop q.flat.length)
  (by simp only[zua]) (by rw[<-j.1];exact cH _ _ m1 c) j.nag w
 have d:g.offset=(cs.toList.take A.length).length:=by rw[<-o.1,m3,I];simp[aZ]
 have k:H[f]?=some g:=by simpa using h3
 exact⟨_,hq,.value (v:=v) (w':=w) (by simp only[execOp,b,Instr.field,zla,run_underlying h1,zga,k,asAgg,zra,d,e]) (Qp.same h (w8 (bU _ _) (by simp only[AC];exact⟨m1,c,j⟩) i) _)⟩
def JF(X:EnvOk P E)(h:Rp w0 S γ β s a w){dst T x i ty pos after guard}:jU P E w0 S γ β s a w ⟨dst,.index T x i,ty,pos,after,guard⟩:=by
 intro R K r hq;simp only[qv] at hq;replace hq:=ab hq;obtain⟨t,ht,hq⟩:=hq;replace hq:=ab hq;obtain⟨ix,L,hq⟩:=hq;have hi:=eN L;have b:=aT h i;rw[hi] at b;have hx:=aT h x;generalize s.opA x=y at *;cases t<;>(try simp only at hq)<;>first|cases hq|skip
 case str=>
  cases y<;>(try simp only at hq)<;>first|cases hq|skip
  rename_i t' z;split at hq<;>first|cases hq|skip
  rename_i I;have:=aco _ _ I;subst this;replace hq:=ab hq;obtain⟨G,C,hq⟩:=hq;rcases X.lay T _ ht with⟨W,d⟩|hl
  ·cases d
  obtain⟨f,Q⟩:=AM hx rfl;simp only[wt] at f;obtain⟨sb,rfl⟩:=f;obtain⟨kt,kx⟩:=ix;cases kx<;>(try simp only[abT] at C)<;>first|cases C|skip
  rename_i k n;obtain⟨bb,J,g⟩:=ab C;simp only[zda] at g;subst g;obtain⟨AH,_⟩:=fF b;have O:a.eval x=.string sb:=by obtain⟨c1,c2⟩:=Q;obtain⟨c,e,h⟩:=c8.single' c2;have:=ar c1 e;rw[this];cases h;rfl
  have hu:P.underlying T=some .string:=by simp only[bJ,zaa] at hl;all_goals grind
  exact⟨_,hq,.value (v:=.int .u8 bb.toNat) (w':=w) (by simp only[execOp,O,AH,Instr.index,asIntOf,pure_bind,zla,run_underlying hu,zga,J,zra]) (Qp.same h (cT _ _) _)⟩
 rename_i n e;cases y<;>(try simp only at hq)<;>first|cases hq|skip
 rename_i t' z;split at hq<;>first|cases hq|skip
 rename_i I;have:=aco _ _ I;subst this;replace hq:=ab hq;obtain⟨k,hk,hq⟩:=hq;replace hq:=ab hq;obtain⟨G,C,hq⟩:=hq;obtain⟨kk,N,ad⟩:=pW hk;rw[N] at b;obtain⟨AH,_⟩:=fF b;rcases X.lay T _ ht with⟨W,d⟩|hl
 ·cases d
 have hn:=aH _ _ hl;obtain⟨f,Q⟩:=AM hx hn;have hg:z.get [k]=some G:=by simp[D.get,C]
 obtain⟨m1,A,B,m2,m3⟩:=jD [k] f hn (show aM (.arr n e) [k]=some e by cases e<;>simp[aM]) hg
 obtain⟨k3,Y⟩:=Q;rw[m2] at Y;obtain⟨U,V⟩:=Y.split;obtain⟨F,Z⟩:=V.split;obtain⟨u,h1,H⟩:=eO hl;have m:=aH _ _ H;obtain⟨cs,j⟩:∃ cs,a.eval x=.agg cs:=by simp only[wt] at f;obtain⟨l,rfl,_⟩:=f;exact k3
 rw[j] at U V F Z;simp only[Value.cells] at U V F Z;obtain⟨v,p,q⟩:=iI H (cs:=cs) (pre:=cs.toList.take A.length) (mid:=(cs.toList.drop A.length).take G.flat.length) (post:=(cs.toList.drop A.length).drop G.flat.length)
  (by simp only[zua]) (by rw[<-F.1];exact cH _ _ m1 m) F.nag w
 have o:k*e.size=(cs.toList.take A.length).length:=by rw[<-U.1,m3];cases e<;>simp[aZ]
 have M:(0:Int)<=(k:Int)/\(k:Int)<(n:Int):=j1
 exact⟨_,hq,.value (v:=v) (w':=w) (by simp only[execOp,j,AH,Instr.index,asIntOf,pure_bind,zla,run_underlying h1,zga,M,and_self,if_true,cm H,zrd,o,p,zra]) (Qp.same h (w8 (bU _ _) (by simp only[AC];exact⟨m1,m,F⟩) q) _)⟩
end
def Eu:BinOp->Bool
 | .eql|.neq|.lss|.leq|.gtr|.geq=>true
 | _=>false
section
variable{P:Program}{E:Env}{w0:Root}{S:Nat->Nat->Prop}{γ:Nat->Option Nat}{β:Nat->Option (Nat×Nat)}{s:St}{a:Act}{w:World}
def Mo{op:BinOp}{k a:IntKind}{x y:Int}{z:D}(T:TypeId)(w:World)(h:abG op (.int k x) (.int a y)=some z) :
  (Eu op=true/\∃ c,z=.bool c/\(binOp op T (.int k x) (.int a y)).run P w=.ok (.bool c) w)\/(Eu op=false/\∃ n,z=.int k n/\(binOp op T (.int k x) (.int a y)).run P w=.ok (.int k n) w):=by
 cases op<;>simp only[abG,abH] at h
 case shl=>
     split at h<;>first|(cases h;done)|skip
     rename_i hy;simp only[zda] at h;exact .inr ⟨rfl,_,h.symm,by simp[binOp,Op.shift,hy]⟩
 case shr=>
     split at h<;>first|(cases h;done)|skip
     rename_i hy;simp only[zda] at h;exact .inr ⟨rfl,_,h.symm,by simp[binOp,Op.shift,hy]⟩
 case quo=>
  split at h<;>first|(cases h;done)|skip
  rename_i hk;subst hk;split at h<;>first|(cases h;done)|skip
  rename_i hy;simp only[zda] at h;exact .inr ⟨rfl,_,h.symm,by simp[binOp,Op.intDiv,hy]⟩
 case rem=>
  split at h<;>first|(cases h;done)|skip
  rename_i hk;subst hk;split at h<;>first|(cases h;done)|skip
  rename_i hy;simp only[zda] at h;exact .inr ⟨rfl,_,h.symm,by simp[binOp,Op.intDiv,hy]⟩
 all_goals (split at h<;>first|(cases h;done)|skip)
 all_goals (rename_i hk;subst hk)
 all_goals (simp only[zda] at h)
 all_goals first
  | (refine .inl ⟨rfl,_,h.symm,?_⟩;simp[binOp,Op.intCmp];done)
  | (refine .inr ⟨rfl,_,h.symm,?_⟩;simp[binOp,Op.intArith];done)
  | (refine .inr ⟨rfl,_,h.symm,?_⟩;simp only[binOp,ne_eq,not_true_eq_false,if_false];rfl)
def fO(op:BinOp)(T:TypeId)(x y:Operand)(k a:IntKind)(u v:Int)(w:World):(eqGuard op T x y (.int k u) (.int a v)).run P w=.ok () w:=by cases op<;>simp[eqGuard]
def lq(op:BinOp)(T:TypeId)(x y:Operand)(u v:Bool)(w:World):(eqGuard op T x y (.bool u) (.bool v)).run P w=.ok () w:=by cases op<;>simp[eqGuard]
def ft{t:Ty}{c v:Value}(h:gI t [c] v)(a:cU t=false):v=c:=ar (h.2.2 a) h.1
def jo{t:Ty}{cs:List Value}{v:Value}(h:gI t cs v)(a:cU t=true):v=.agg cs.toArray:=by obtain⟨xs,rfl⟩:=h.2.1 a;have:=h.1;simp only[Value.cells] at this;rw[<-this]
theorem AT:∀ (n:Nat) {l l':List D},l.length=n->l'.length=n->D.beqs l l'=(List.range n).all λj=>D.beq (l.getD j (.bool false)) (l'.getD j (.bool false))
 | 0,[],[],_,_=>rfl
 | n+1,x::l,y::l',h,a=>by
  simp only[D.beqs,List.range_succ_eq_map,zXb,List.all_map];rw[AT n (by simpa using h) (by simpa using a)]
  rfl
mutual
theorem pQ:∀ (ty:Ty) (T:TypeId) (x y:D) (cx cy:List Value) (vx vy:Value) (d:Nat),bJ P ty T=true->bV ty=true->ty.high<=d->wt ty x->wt ty y->c8 w S x.flat cx->c8 w S y.flat cy->gI ty cx vx->gI ty cy vy ->
  ∀ w',(Op.equalIn d T vx vy).run P w'=.ok (D.beq x y) w'
 | .int k,T,x,y,cx,cy,vx,vy,d,hl,_,hd,hx,hy,rx,ry,ix,iy,w'=>by
  simp only[wt] at hx hy;obtain⟨n,rfl⟩:=hx;obtain⟨m,rfl⟩:=hy;obtain⟨c1,rfl,r1⟩:=rx.single';obtain⟨c2,rfl,r2⟩:=ry.single';rw[ft ix rfl,ft iy rfl,r1.int_inv,r2.int_inv];obtain⟨d,rfl⟩:∃ e,d=e+1:=⟨d-1,by simp only[Ty.high] at hd;omega⟩
  rw[run_equalIn_int w' d T k k n m (ke hl)];simp only[D.beq,decide_true,zCb];rfl
 | .bool,T,x,y,cx,cy,vx,vy,d,hl,_,hd,hx,hy,rx,ry,ix,iy,w'=>by
  simp only[wt] at hx hy;obtain⟨n,rfl⟩:=hx;obtain⟨m,rfl⟩:=hy;obtain⟨c1,rfl,r1⟩:=rx.single';obtain⟨c2,rfl,r2⟩:=ry.single';rw[ft ix rfl,ft iy rfl,r1.bool_inv,r2.bool_inv];obtain⟨d,rfl⟩:∃ e,d=e+1:=⟨d-1,by simp only[Ty.high] at hd;omega⟩
  have hu:P.underlying T=some .bool:=by simp only[bJ,zaa] at hl;all_goals grind
  rw[run_equalIn_bool' w' d T n m hu];rfl
 | .st ts,T,x,y,cx,cy,vx,vy,d,hl,hc,hd,hx,hy,rx,ry,ix,iy,w'=>by
  simp only[wt] at hx hy;obtain⟨l,rfl,hx⟩:=hx;obtain⟨l',rfl,hy⟩:=hy;rw[jo ix rfl,jo iy rfl];obtain⟨fs,h1,h2⟩:=jH hl;have h3:P.fieldsOf T=fs:=by simp[Program.fieldsOf,h1]
  have h4:P.stoodInHeld T=false:=by simp_all [bJ,zaa,zTa]
  simp only[Ty.high] at hd;obtain⟨d,rfl⟩:∃ e,d=e+1:=⟨d-1,j1⟩
  rw[run_equalIn_struct w' d T _ _ (by rw[h3];exact h1) h4,h3]
  simp only[bV] at hc;simp only[D.beq];simp only[D.flat] at rx ry;exact sU ts fs.toList 0 l l' [] cx [] cy _ _ d h2 hc j1 hx hy rx ry rfl rfl rfl rfl w'
 | .arr n t,T,x,y,cx,cy,vx,vy,d,hl,hc,hd,hx,hy,rx,ry,ix,iy,w'=>by
  simp only[wt] at hx hy;obtain⟨l,rfl,hxl,hx⟩:=hx;obtain⟨l',rfl,hyl,hy⟩:=hy;rw[jo ix rfl,jo iy rfl];obtain⟨u,h1,h2⟩:=eO hl;obtain⟨i,z,h3,h4,_⟩:=fV (gQ h2);simp only[Ty.high] at hd;obtain⟨d,rfl⟩:∃ e,d=e+1:=⟨d-1,j1⟩
  rw[run_equalIn_array w' d _ _ h1 h3];simp only[bV] at hc;simp only[D.beq];simp only[D.flat] at rx ry;have hcell:P.cellsOf u=t.size:=by simp[Program.cellsOf,h3,h4]
  have hn:=aH _ _ h2;rw[AT n hxl hyl];have key:∀ (is:List Nat) (w':World),(∀ j∈is,j<n)->(Op.eqItems d u (P.cellsOf u) cx.toArray cy.toArray is).run P w'=.ok (is.all λj=>D.beq (l.getD j (.bool false)) (l'.getD j (.bool false))) w':=by
   intro is
   induction is with
   | nil=>intro w' _;simp[Op.eqItems]
   | cons j is ih=>
    intro w' hj;have hjn:=hj j j3
    have e1:l[j]?=some (l.getD j (.bool false)):=by simp_all
    have e2:l'[j]?=some (l'.getD j (.bool false)):=by simp_all
    generalize l.getD j (.bool false)=dx at *;generalize l'.getD j (.bool false)=dy at *;have wx:=hx dx (zbb e1);have wy:=hy dy (zbb e2);have rx':=rx;have ry':=ry;rw[cu e1] at rx';rw[cu e2] at ry';obtain⟨p1,p2⟩:=rx'.split;obtain⟨p3,p4⟩:=p2.split;obtain⟨q1,q2⟩:=ry'.split;obtain⟨q3,q4⟩:=q2.split;have o1:(cx.take (abM (l.take j)).length).length=j*t.size:=by rw[<-p1.1,aE hn _ (λx hx'=>hx x (zRa hx')),zgb,zDb j1]
    have o2:(cy.take (abM (l'.take j)).length).length=j*t.size:=by rw[<-q1.1,aE hn _ (λx hx'=>hy x (zRa hx')),zgb,zDb j1]
    obtain⟨v1,r1,i1⟩:=iI h2 (cs:=cx.toArray) (pre:=cx.take (abM (l.take j)).length) (mid:=(cx.drop (abM (l.take j)).length).take dx.flat.length) (post:=(cx.drop (abM (l.take j)).length).drop dx.flat.length)
     (by simp only[zua]) (by rw[<-p3.1];exact cH _ _ wx hn) p3.nag w'
    obtain⟨v2,r2,i2⟩:=iI h2 (cs:=cy.toArray) (pre:=cy.take (abM (l'.take j)).length) (mid:=(cy.drop (abM (l'.take j)).length).take dy.flat.length) (post:=(cy.drop (abM (l'.take j)).length).drop dy.flat.length)
     (by simp only[zua]) (by rw[<-q3.1];exact cH _ _ wy hn) q3.nag w'
    rw[o1,<-hcell] at r1;rw[o2,<-hcell] at r2;have r3:=pQ t u dx dy _ _ v1 v2 d h2 hc j1 wx wy p3 q3 i1 i2 w'
    simp only[Op.eqItems,zla,r1,r2,r3,zga,zXb];have e1':l[j]?.getD (.bool false)=dx:=by rw[e1];rfl
    have e2':l'[j]?.getD (.bool false)=dy:=by rw[e2];rfl
    have ih':=ih w' (λk hk=>hj k (by simp[hk]))
    simp only[List.getD,e1',e2'];cases D.beq dx dy
    ·simp
    ·simpa [List.getD] using ih'
  exact key _ w' (λj hj=>by simpa using hj)
 | .str,_,_,_,_,_,_,_,_,_,hc,_,_,_,_,_,_,_,_=>by simp[bV] at hc
 | .sl _,_,_,_,_,_,_,_,_,_,hc,_,_,_,_,_,_,_,_=>by simp[bV] at hc
 | .tup _,_,_,_,_,_,_,_,_,_,hc,_,_,_,_,_,_,_,_=>by simp[bV] at hc
 | .fn,_,_,_,_,_,_,_,_,_,hc,_,_,_,_,_,_,_,_=>by simp[bV] at hc
theorem sU:∀ (ts:List Ty) (fs:List Field) (off:Nat) (l l':List D) (px cx py cy:List Value) (xs ys:Array Value) (d:Nat),gt P ts fs off=true->mQ ts=true->acq ts<=d->fG ts l->fG ts l'->c8 w S (abM l) cx->c8 w S (abM l') cy ->
  xs.toList=px++cx->px.length=off->ys.toList=py++cy->py.length=off->∀ w',(Op.eqFields d xs ys fs).run P w'=.ok (D.beqs l l') w'
 | [],fs,off,l,l',px,cx,py,cy,xs,ys,d,hf,_,_,hx,hy,_,_,_,_,_,_,w'=>by
  simp only[fG] at hx hy;subst hx;subst hy;cases fs with
  | nil=>simp[Op.eqFields,D.beqs]
  | cons f fs=>simp[gt] at hf
 | t::ts,[],off,l,l',px,cx,py,cy,xs,ys,d,hf,_,_,hx,hy,_,_,_,_,_,_,w'=>by simp[gt] at hf
 | t::ts,f::fs,off,l,l',px,cx,py,cy,xs,ys,d,hf,hc,hd,hx,hy,rx,ry,ex,lx,ey,ly,w'=>by
  simp only[gt,zaa,zfa] at hf;obtain⟨⟨⟨⟨h1,h2⟩,h3⟩,h4⟩,h5⟩:=hf;simp only[fG] at hx hy;obtain⟨dx,l,rfl,hx1,hx2⟩:=hx;obtain⟨dy,l',rfl,hy1,hy2⟩:=hy;simp only[abM] at rx ry;obtain⟨p3,p4⟩:=rx.split;obtain⟨q3,q4⟩:=ry.split;have hn:=aH _ _ h4;simp only[mQ,zaa] at hc;simp only[acq] at hd;obtain⟨v1,r1,i1⟩:=iI h4 (cs:=xs) (pre:=px) (mid:=cx.take dx.flat.length) (post:=cx.drop dx.flat.length) (by rw[ex,zua]) (by rw[<-p3.1];exact cH _ _ hx1 hn) p3.nag w'
  obtain⟨v2,r2,i2⟩:=iI h4 (cs:=ys) (pre:=py) (mid:=cy.take dy.flat.length) (post:=cy.drop dy.flat.length) (by rw[ey,zua]) (by rw[<-q3.1];exact cH _ _ hy1 hn) q3.nag w'
  rw[lx,<-h1] at r1;rw[ly,<-h1] at r2;have r3:=pQ t f.type dx dy _ _ v1 v2 d h4 hc.1 j1 hx1 hy1 p3 q3 i1 i2 w'
  have hs1:(cx.take dx.flat.length).length=t.size:=by rw[<-p3.1];exact cH _ _ hx1 hn
  have hs2:(cy.take dy.flat.length).length=t.size:=by rw[<-q3.1];exact cH _ _ hy1 hn
  have ih:=sU ts fs (off+t.size) l l' (px++cx.take dx.flat.length) (cx.drop dx.flat.length) (py++cy.take dy.flat.length) (cy.drop dy.flat.length) xs ys d h5 hc.2 j1 hx2 hy2 p4 q4
   (by rw[zOa,zua];exact ex) (by rw[zta,lx,hs1]) (by rw[zOa,zua];exact ey) (by rw[zta,ly,hs2]) w'
  simp only[Op.eqFields,h2,ne_eq,not_false_eq_true,if_true,zla,r1,r2,r3,zga,D.beqs];cases D.beq dx dy
  ·simp
  ·simpa using ih
end
def JB(L:EnvOk P E)(h:Rp w0 S γ β s a w){dst op T x y T' ty pos after guard}:jU P E w0 S γ β s a w ⟨dst,.binOp op T x y T',ty,pos,after,guard⟩:=by
 intro R K r hq;simp only[qv] at hq;replace hq:=ab hq;obtain⟨t,ht,hq⟩:=hq;replace hq:=ab hq;obtain⟨u,hu,hq⟩:=hq;replace hq:=ab hq;obtain⟨v,N,hq⟩:=hq;have hx:=aT h x;have hy:=aT h y;rw[eN hu] at hx;rw[eN N] at hy;have q:∀ (H:Bool),(u.1.beq t&&v.1.beq t&&bV t)=true->∀ (o:BinOp),(o=.eql/\H=false)\/(o=.neq/\H=true) ->
   (execOp a.eval ⟨dst,.binOp o T x y T',ty,pos,after,guard⟩).run P w=.ok (.value (.bool (xor H (D.beq u.2 v.2)))) w:=by
  intro H j o G;simp only[zaa] at j;obtain⟨⟨h1,h2⟩,h3⟩:=j;have C:=aco _ _ h1;have F:=aco _ _ h2;rw[C] at hx;rw[F] at hy;have hl:bJ P t T=true:=by
   rcases L.lay T _ ht with⟨O,rfl⟩|hl
   ·simp[bV] at h3
   ·exact hl
  have hn:=aH _ _ hl;obtain⟨l,p⟩:=AM hx hn;obtain⟨m1,m2⟩:=AM hy hn;have Q:=L.high T _ ht;have i1:gI t (a.eval x).cells.toList (a.eval x):=⟨rfl,pA l hn p.1⟩;have i2:gI t (a.eval y).cells.toList (a.eval y):=⟨rfl,pA m1 hn m2.1⟩;have g:=pQ t T u.2 v.2 _ _ _ _ 10000 hl h3 j1 l m1 p.2 m2.2 i1 i2 w
  cases t<;>simp only[bV] at h3<;>first|cases h3|skip
  case int k=>
   simp only[wt] at l m1;obtain⟨n,b⟩:=l;obtain⟨m,f⟩:=m1;rw[b] at p hx ⊢;rw[f] at m2 hy ⊢;have v1:=p.int_inv;have v2:=m2.int_inv;rcases G with⟨rfl,rfl⟩|⟨rfl,rfl⟩
   ·simp only[execOp,v1,v2,zla,fO,zga];simp[binOp,Op.intCmp,D.beq];rfl
   ·simp only[execOp,v1,v2,zla,fO,zga];simp[binOp,Op.intCmp,D.beq];rfl
  case bool=>
   simp only[wt] at l m1;obtain⟨n,b⟩:=l;obtain⟨m,f⟩:=m1;rw[b] at p hx g ⊢;rw[f] at m2 hy g ⊢;have v1:=p.bool_inv;have v2:=m2.bool_inv;rw[v1,v2] at g;rcases G with⟨rfl,rfl⟩|⟨rfl,rfl⟩
   ·simp only[execOp,v1,v2,zla,lq,zga,binOp,Op.equal,Op.maxDepth,g,zra,zFd]
   ·simp only[execOp,v1,v2,zla,lq,zga,binOp,Op.equal,Op.maxDepth,g,zra,Bool.true_xor]
  case st ts=>
   obtain⟨xs,b⟩:=i1.2.1 rfl;obtain⟨B,f⟩:=i2.2.1 rfl;have A:P.eqGuardType P.depth T=false:=by simp only[bJ,zaa,zTa] at hl;exact hl.1.2
   rw[b,f] at g;rcases G with⟨rfl,rfl⟩|⟨rfl,rfl⟩
   ·simp only[execOp,b,f,zla,run_eqGuard_agg w _ T x y xs B A,zga,binOp,Op.equal,Op.maxDepth,g,zra,zFd]
   ·simp only[execOp,b,f,zla,run_eqGuard_agg w _ T x y xs B A,zga,binOp,Op.equal,Op.maxDepth,g,zra,Bool.true_xor]
  case arr n e=>
   obtain⟨xs,b⟩:=i1.2.1 rfl;obtain⟨B,f⟩:=i2.2.1 rfl;have A:P.eqGuardType P.depth T=false:=by simp only[bJ,zaa,zTa] at hl;exact hl.1.2
   rw[b,f] at g;rcases G with⟨rfl,rfl⟩|⟨rfl,rfl⟩
   ·simp only[execOp,b,f,zla,run_eqGuard_agg w _ T x y xs B A,zga,binOp,Op.equal,Op.maxDepth,g,zra,zFd]
   ·simp only[execOp,b,f,zla,run_eqGuard_agg w _ T x y xs B A,zga,binOp,Op.equal,Op.maxDepth,g,zra,Bool.true_xor]
 have ints:∀ {z:D} {o:BinOp},abG o u.2 v.2=some z->∃ k M n m,u.2=.int k n/\v.2=.int M m:=by
  intro z o i;cases J:u.2<;>rw[J] at i<;>cases hv2:v.2<;>rw[hv2] at i<;>simp only[abG] at i<;>first|cases i|skip
  exact⟨_,_,_,_,rfl,rfl⟩
 have main:∀ (o:BinOp) {z:D},abG o u.2 v.2=some z->∃ I,(execOp a.eval ⟨dst,.binOp o T x y T',ty,pos,after,guard⟩).run P w=.ok (.value I) w ∧
   ((Eu o=true->AR ⟨w,S,γ,β,s.ob,s.dead⟩ (.d .bool z) I)/\(Eu o=false->AR ⟨w,S,γ,β,s.ob,s.dead⟩ (.d u.1 z) I)):=by
  intro o z i;obtain⟨k,M,n,m,C,F⟩:=ints i;rw[C,F] at i;rw[C] at hx;rw[F] at hy;obtain⟨v1,t1⟩:=fF hx;obtain⟨v2,_⟩:=fF hy;rcases Mo (P:=P) T w i with⟨h1,c,rfl,h2⟩|⟨h1,c,rfl,h2⟩
  ·refine⟨.bool c,by simp only[execOp,v1,v2,zla,fO,zga,h2,zra],λ_=>gJ c,λh=>by rw[h1] at h;cases h⟩
  ·refine⟨.int k c,by simp only[execOp,v1,v2,zla,fO,zga,h2,zra],(λh=>by rw[h1] at h;cases h),λ_=>by rw[t1];exact cT k c⟩
 cases op<;>simp only at hq
 case eql=>
  split at hq<;>first|cases hq|skip
  rename_i j;exact⟨_,hq,.value (q false j .eql (.inl ⟨rfl,rfl⟩)) (Qp.same h (by simp only[zFd];exact gJ _) _)⟩
 case neq=>
  split at hq<;>first|cases hq|skip
  rename_i j;exact⟨_,hq,.value (q true j .neq (.inr ⟨rfl,rfl⟩)) (Qp.same h (by simp only[Bool.true_xor];exact gJ _) _)⟩
 all_goals
  replace hq:=ab hq;obtain⟨z,i,hq⟩:=hq;obtain⟨I,h1,h2,h3⟩:=main _ i;first
   | exact⟨_,hq,.value h1 (Qp.same h (h2 rfl) _)⟩
   | exact⟨_,hq,.value h1 (Qp.same h (h3 rfl) _)⟩
def Nv(h:Rp w0 S γ β s a w){dst op T x ty pos after guard}:jU P E w0 S γ β s a w ⟨dst,.unOp op T x,ty,pos,after,guard⟩:=by
 intro R K r hq;simp only[qv] at hq;replace hq:=ab hq;obtain⟨u,hu,hq⟩:=hq;replace hq:=ab hq;obtain⟨z,c,hq⟩:=hq;have hx:=aT h x;rw[eN hu] at hx;cases hu2:u.2<;>rw[hu2] at c hx<;>simp only[abU] at c<;>first|cases c|skip
 case int k n=>
  obtain⟨v1,t1⟩:=fF hx;cases op<;>simp only[abH] at c<;>first|cases c|skip
  ·exact⟨_,hq,.value (v:=.int k (k.wrap (0-n))) (w':=w) (by simp[execOp,v1,Op.unary,Op.intArith]) (Qp.same h (by rw[t1];exact cT _ _) _)⟩
  ·exact⟨_,hq,.value (v:=.int k (k.wrap (BitVec.ofInt k.bits (if k.signed then -1 else k.max) ^^^ BitVec.ofInt k.bits n).toNat)) (w':=w) (by simp[execOp,v1,Op.unary,Op.intBits]) (Qp.same h (by rw[t1];exact cT _ _) _)⟩
 case bool b=>
  have v1:=D5 hx;cases op<;>simp only at c<;>first|cases c|skip
  have ht:u.1=.bool:=by
   simp only[AR] at hx;rcases hx with⟨_,h2,_⟩|⟨e,h1,_,h2,_⟩
   ·cases hu1:u.1<;>rw[hu1] at h2<;>simp only[wt] at h2<;>first
     | rfl
     | (obtain⟨m,d⟩:=h2;cases d;done)
     | (obtain⟨m,d,_⟩:=h2;cases d;done)
     | (exfalso;exact h2)
   ·rw[h1] at h2;simp only[wt] at h2;obtain⟨l,d,_⟩:=h2;cases d
  exact⟨_,hq,.value (v:=.bool (!b)) (w':=w) (by simp[execOp,v1,Op.unary]) (Qp.same h (by rw[ht];exact gJ _) _)⟩
def DA(i:EnvOk P E)(h:Rp w0 S γ β s a w){dst U T x ty pos after guard}:jU P E w0 S γ β s a w ⟨dst,.convert U T x,ty,pos,after,guard⟩:=by
 intro R K r hq;simp only[qv] at hq;replace hq:=ab hq;obtain⟨u,hu,hq⟩:=hq;replace hq:=ab hq;obtain⟨t,ht,hq⟩:=hq;replace hq:=ab hq;obtain⟨b,j,hq⟩:=hq;have hx:=aT h x;rw[eN j] at hx;cases t<;>(try simp only at hq)<;>first|cases hq|skip
 rename_i k;split at hq<;>first|cases hq|skip
 rename_i d;replace hq:=ab hq;obtain⟨z,e,hq⟩:=hq;cases hb2:b.2<;>rw[hb2] at e hx<;>simp only[D.conv] at e<;>first|cases e|skip
 rename_i l n;obtain⟨v1,t1⟩:=fF hx;have g:=aco _ _ d;rw[t1] at g;rw[<-g] at hu;rcases i.lay T _ ht with⟨f,c⟩|hl
 ·cases c
 rcases i.lay U _ hu with⟨f,c⟩|hl'
 ·cases c
 exact⟨_,hq,.value (v:=.int k (k.wrap n)) (w':=w) (by simp[execOp,convert,v1,run_underlying (ke hl),run_underlying (ke hl'),Conv.intToInt]) (Qp.same h (cT _ _) _)⟩
end
def iJ(pre mid post cs:List Value)(h:mid.length=cs.length):eJ (pre++(mid++post)).toArray pre.length cs.toArray=(pre++(cs++post)).toArray:=by unfold eJ;apply zpc;simp[h];rw[zfb j1]
theorem pC:∀ {a:List D} {c1 c2:List Value},cS a c1=true->cS a c2=true->c1=c2
 | [],[],[],_,_=>rfl
 | [],_::_,_,h,_=>by simp[cS] at h
 | [],[],_::_,_,h=>by simp[cS] at h
 | _::_,[],_,h,_=>by simp[cS] at h
 | _::_,_::_,[],_,h=>by simp[cS] at h
 | d::a,v1::c1,v2::c2,b,c=>by
  simp only[cS,zaa] at b c;rw[pC b.2 c.2];congr 1;have a1:=b.1;have a2:=c.1;cases d<;>cases v1<;>simp only[F5] at a1<;>first|(cases a1;done)|skip
  all_goals (cases v2<;>simp only[F5] at a2<;>first|(cases a2;done)|skip)
  all_goals simp_all
section
variable{w:World}{S:Nat->Nat->Prop}
def PV(w:World)(S:Nat->Nat->Prop)(ty:Nat->Option Ty):List (Nat×D)->List (Nat×Value)->Prop
 | [],[]=>True
 | (i,x)::ps,(j,v)::vs=>i=j/\(∃ t,ty i=some t/\wt t x/\am t=true/\gE w S x v)/\PV w S ty ps vs
 | _,_=>False
theorem t6{place:Nat->Option (Nat×Nat)}{ty:Nat->Option Ty}{off:Nat->Nat}{Good:List D->Prop}
  (d:∀ l i t z,Good l->ty i=some t->wt t z->Good (l.set i z))
  (c:∀ l i t,Good l->ty i=some t->∃ y,l[i]?=some y/\wt t y/\(abM (l.take i)).length=off i)
  (a:∀ i t,ty i=some t->place i=some (off i,t.size)) :
  ∀ (ps:List (Nat×D)) (vs:List (Nat×Value)) (l:List D) (cs:List Value),Good l->c8 w S (abM l) cs->PV w S ty ps vs ->
   ∃ b:List Value,mw place cs.toArray vs=some b.toArray/\Good (abS l ps)/\c8 w S (abM (abS l ps)) b
 | [],[],l,cs,f,hc,_=>⟨cs,rfl,f,hc⟩
 | [],_::_,_,_,_,_,h=>by simp[PV] at h
 | _::_,[],_,_,_,_,h=>by simp[PV] at h
 | (i,x)::ps,(j,v)::vs,l,cs,f,hc,h=>by
  simp only[PV] at h;obtain⟨rfl,⟨t,h1,h2,h3,k⟩,r⟩:=h;obtain⟨y,m,s,u⟩:=c l i t f h1;rw[cu m] at hc;obtain⟨c1,c2⟩:=hc.split;obtain⟨p,q⟩:=c2.split;have e:cs=cs.take (abM (l.take i)).length++((cs.drop (abM (l.take i)).length).take y.flat.length++(cs.drop (abM (l.take i)).length).drop y.flat.length):=by simp only[zua]
  have n:(cs.take (abM (l.take i)).length).length=off i:=by rw[<-c1.1,u]
  have A:((cs.drop (abM (l.take i)).length).take y.flat.length).length=t.size:=by rw[<-p.1];exact cH _ _ s h3
  have o:v.cells.toList.length=t.size:=by rw[<-k.2.1];exact cH _ _ h2 h3
  have g:c8 w S (abM (l.set i x)) (cs.take (abM (l.take i)).length++(v.cells.toList++(cs.drop (abM (l.take i)).length).drop y.flat.length)):=by rw[nP m];exact c1.append (k.2.append q)
  obtain⟨b,m1,m2,m3⟩:=t6 d c a ps vs (l.set i x) _ (d l i t x f h1 h2) g r;refine⟨b,?_,m2,m3⟩;rw[uV (a i t h1) (by rw[<-zRb];exact o) (by rw[<-n];have:=zma List.length e;simp only[zta] at this;simp only[zDc];omega),<-m1]
  congr 1
  conv=>lhs;rw[e]
  have:=iJ (cs.take (abM (l.take i)).length) ((cs.drop (abM (l.take i)).length).take y.flat.length) ((cs.drop (abM (l.take i)).length).drop y.flat.length) v.cells.toList (by rw[A,o])
  rw[n] at this;simpa using this
end
section
variable{P:Program}{E:Env}{w0:Root}{S:Nat->Nat->Prop}{γ:Nat->Option Nat}{β:Nat->Option (Nat×Nat)}{s:St}{a:Act}{w:World}
theorem nX(h:Rp w0 S γ β s a w){ty:Nat->Option Ty}(hn:∀ i t,ty i=some t->am t=true):∀ (ps:List (Nat×Operand)) (l:List (Nat×D)),partsD s.ob s ty ps=some l->PV w S ty l (ps.map λp=>(p.1,a.eval p.2))
 | [],l,hp=>by simp_all [partsD,zda,PV]
 | (i,x)::ps,l,hp=>by simp only[partsD] at hp;replace hp:=ab hp;obtain⟨t,ht,hp⟩:=hp;replace hp:=ab hp;obtain⟨y,hy,hp⟩:=hp;replace hp:=ab hp;obtain⟨e,b,hp⟩:=hp;simp only[zda] at hp;subst hp;obtain⟨c,d⟩:=oJ (hn i t ht) (aT h x) hy;simp only[zab,PV];exact⟨trivial,⟨t,ht,c,hn i t ht,d⟩,nX h hn ps e b⟩
def jT{t:Ty}{T:TypeId}(hl:bJ P t T=true):∃ z,(∀ w,(zeroValue T).run P w=.ok z w)/\cS (aq t).flat z.cells.toList=true/\((∃ cs,z=.agg cs)↔cU t=true):=by
 obtain⟨i,z,h1,h2,h3,a,b,c⟩:=fV (gQ hl)
 simp_all [zeroValue,typeInfo]
theorem vX:∀ {b:List Ty} {a:List Field} {off:Nat} (w:World),gt P b a off=true ->
  ((a.mapM λf=>do pure (f.offset,<-sizeOf f.type):Sem (List (Nat×Nat))).run P w=.ok (a.zipWith (λf t=>(f.offset,Ty.size t)) b) w)
 | [],[],_,w,_=>rfl
 | [],_::_,_,_,h=>by simp[gt] at h
 | _::_,[],_,_,h=>by simp[gt] at h
 | t::b,f::a,off,w,h=>by simp only[gt,zaa,zfa] at h;obtain⟨⟨⟨⟨h1,h2⟩,h3⟩,c⟩,d⟩:=h;simp only[z4c,zla,cm c,zga,zra,vX w d,List.zipWith_cons_cons]
def GE:∀ {a:List Ty} {b:List Field} {off i:Nat} {t:Ty},gt P a b off=true->a[i]?=some t->(b.zipWith (λf t=>(f.offset,Ty.size t)) a)[i]?=some (off+acr (a.take i),t.size)
 | a,b,off,i,t,h,c=>by obtain⟨f,h1,h2,_⟩:=t7 h c;grind
def qt{T:TypeId}{a:List Ty}(hl:bJ P (.st a) T=true)(vs:Array (Nat×Value))(w:World){r:List Value}
  (hf:∀ z:Value,cS (aq (.st a)).flat z.cells.toList=true->mw (λi=>if i<a.length then some (acr (a.take i),(a.getD i .bool).size) else none) z.cells vs.toList=some r.toArray) :
  (Instr.build T vs).run P w=.ok (.agg r.toArray) w:=by
 obtain⟨b,h1,h2⟩:=jH hl;obtain⟨z,e,c,_⟩:=jT hl;have hlen:(b.toList.zipWith (λf t=>(f.offset,Ty.size t)) a).length=a.length:=by
  have:∀ {a:List Ty} {b:List Field} {off:Nat},gt P a b off=true->b.length=a.length:=by
   intro a
   induction a with
   | nil=>intro b off h;cases b<;>simp[gt] at h ⊢
   | cons t a ih=>intro b off h;cases b with
    | nil=>simp[gt] at h
    | cons f b=>simp only[gt,zaa] at h;simp[ih h.2]
  grind
 have hp:(λi=>(b.toList.zipWith (λf t=>(f.offset,Ty.size t)) a).toArray[i]?)=λi=>if i<a.length then some (acr (a.take i),(a.getD i .bool).size) else none:=by
  funext i;by_cases d:i<a.length
  ·have:=GE (i:=i) h2 (zca d)
   simp_all
  ·simp_all
 have hm:(b.mapM λf=>(do pure (f.offset,<-sizeOf f.type):Sem (Nat×Nat))).run P w=.ok (b.toList.zipWith (λf t=>(f.offset,Ty.size t)) a).toArray w:=by rw[<-zkc (xs:=b),List.mapM_toArray];simp only[Sem.run_map,vX w h2,zga]
 simp only[Instr.build,zla,e,zga,run_underlying h1,hm,hp,pS,hf z c,zra]
def my(n:Nat)(x:D):abM (List.replicate n x)=(List.replicate n x.flat).flatten:=by
 induction n with
 | zero=>rfl
 | succ n ih=>simp only[List.replicate_succ,abM,ih,List.flatten_cons]
def NZ(c:Cx)(a:List Ty):List (Nat×AV)->List (Nat×Value)->Prop
 | [],[]=>True
 | (i,x)::ps,(j,v)::vs=>i=j/\(∃ t,a[i]?=some t/\AV.fits t x=true/\AC c x v.cells.toList)/\NZ c a ps vs
 | _,_=>False
theorem Bn{c:Cx}{b:List Ty}(hn:bq b=true) :
  ∀ (ps:List (Nat×AV)) (vs:List (Nat×Value)) (l:List AV) (cs:List Value),AV.fitss b l=true->lH c l cs->NZ c b ps vs ->
   ∃ a:List Value,mw (λi=>if i<b.length then some (acr (b.take i),(b.getD i .bool).size) else none) cs.toArray vs=some a.toArray/\AV.fitss b (nY l ps)=true/\lH c (nY l ps) a
 | [],[],l,cs,hf,hc,_=>⟨cs,rfl,hf,hc⟩
 | [],_::_,_,_,_,_,h=>by simp[NZ] at h
 | _::_,[],_,_,_,_,h=>by simp[NZ] at h
 | (i,x)::ps,(j,v)::vs,l,cs,hf,hc,h=>by
  simp only[NZ] at h;obtain⟨rfl,⟨t,h1,h2,h3⟩,e⟩:=h;obtain⟨y,g,k⟩:=uZ hf h1;obtain⟨pre,mid,post,rfl,m1,m2,m3⟩:=tO hf hn hc g;have m:=(iK _ _ _ k m2).1;have d:=(iK _ _ _ h2 h3).1;obtain⟨a,n1,n2,n⟩:=Bn hn ps vs (l.set i x) _ (nN hf h1 h2) (m3 x _ h3) e;refine⟨a,?_,n2,n⟩;have f:=(zqa.1 h1).1;rw[uV (off:=acr (b.take i)) (size:=t.size) (by rw[zna f];simp[List.getD,h1]) (by rw[<-zRb];exact d) (by simp;omega),<-n1]
  congr 1;have:=iJ pre mid post v.cells.toList (by rw[m,d])
  simp_all
def JC(J:EnvOk P E)(h:Rp w0 S γ β s a w){dst T ps ty pos after guard}:jU P E w0 S γ β s a w ⟨dst,.build T ps,ty,pos,after,guard⟩:=by
 intro R K r hq;simp only[qv] at hq;replace hq:=ab hq;obtain⟨t,ht,hq⟩:=hq;have hex:execOp a.eval ⟨dst,.build T ps,ty,pos,after,guard⟩=(Instr.build T (ps.map λp=>(p.1,a.eval p.2)) >>= λv=>pure (.value v)):=rfl;have o:(ps.map λp=>(p.1,a.eval p.2)).toList=ps.toList.map λp=>(p.1,a.eval p.2):=j3
 cases t<;>(try simp only at hq)<;>first|cases hq|skip
 case st ts=>
  rcases J.lay T _ ht with⟨I,q⟩|hl
  ·cases q
  have hn:=aH _ _ hl;simp only[am] at hn;split at hq
  ·rename_i L;split at hq<;>first|cases hq|skip
   rename_i A;have j:∀ (l:List (Nat×Operand)),l.all (gr s ts)=true->NZ ⟨w,S,γ,β,s.ob,s.dead⟩ ts (l.map λp=>(p.1,s.opA p.2)) (l.map λp=>(p.1,a.eval p.2)):=by
    intro l
    induction l with
    | nil=>intro _;simp[NZ]
    | cons p l ih=>
     intro F;simp only[zXb,zaa] at F;simp only[zab,NZ];refine⟨trivial,?_,ih F.2⟩;have h1:=F.1;unfold gr at h1;split at h1<;>first|cases h1|skip
     rename_i u hu;exact⟨u,hu,h1,(AL h1 (bX hn hu) (aT h p.2)).1⟩
   obtain⟨z,k,f,_⟩:=jT hl;have H:lH ⟨w,S,γ,β,s.ob,s.dead⟩ (kH ts) z.cells.toList:=mv ts _ hn (by simpa [aq,D.flat] using f)
   obtain⟨b,m1,m2,m3⟩:=Bn hn _ _ _ _ (kl ts hn) H (j ps.toList A);have d:(Instr.build T (ps.map λp=>(p.1,a.eval p.2))).run P w=.ok (.agg b.toArray) w:=by
    obtain⟨N,h1,h2⟩:=jH hl;refine qt hl _ w (r:=b) λC m=>?_;have M:lH ⟨w,S,γ,β,s.ob,s.dead⟩ (kH ts) C.cells.toList:=mv ts _ hn (by simpa [aq,D.flat] using m)
    have:C.cells=z.cells:=zpc (pC m f)
    simp_all
   exact⟨_,hq,.value (v:=.agg b.toArray) (w':=w) (by rw[hex];simp only[zla,d,zga,zra]) (Qp.same h (by simp only[AR];exact⟨⟨_,rfl⟩,by simp only[AC];exact⟨hn,m2,by simpa [Value.cells] using m3⟩⟩) _)⟩
  ·replace hq:=ab hq;obtain⟨l,hp,hq⟩:=hq;have j:=nX h (ty:=λi=>ts[i]?) (λi t c=>bX hn c) _ _ hp;have main:∀ z:Value,cS (aq (.st ts)).flat z.cells.toList=true->∃ b:List Value,mw (λi=>if i<ts.length then some (acr (ts.take i),(ts.getD i .bool).size) else none) z.cells (ps.toList.map λp=>(p.1,a.eval p.2))=some b.toArray/\fG ts (abS (gD ts) l)/\c8 w S (abM (abS (gD ts) l)) b:=by
    intro z k;refine t6 (ty:=λi=>ts[i]?) (off:=λi=>acr (ts.take i)) (Good:=λl=>fG ts l) (λl i t z g c k=>AE g c k) (λl i t g c=>?_) (λi t c=>?_) l _ (gD ts) z.cells.toList (pD ts hn) (cL (by simpa [aq,D.flat] using k)) j
    ·obtain⟨y,h1,h2⟩:=ib g c;exact⟨y,h1,h2,qK _ _ (qO i g) (iG i hn)⟩
    ·rw[zna (zqa.1 c).1];simp only[List.getD,c,zSb]
   obtain⟨z,k,f,_⟩:=jT hl;obtain⟨b,m1,m2,m3⟩:=main z f;have d:(Instr.build T (ps.map λp=>(p.1,a.eval p.2))).run P w=.ok (.agg b.toArray) w:=by refine qt hl _ w (r:=b) λC m=>?_;have:C.cells=z.cells:=zpc (pC m f);rw[this,o,<-m1]
   have hw:wt (.st ts) (.st (abS (gD ts) l)):=by simp only[wt];exact⟨_,rfl,m2⟩
   exact⟨_,hq,.value (v:=.agg b.toArray) (w':=w) (by rw[hex];simp only[zla,d,zga,zra]) (Qp.same h (dK (by simpa [am] using hn) hw ⟨⟨_,rfl⟩,by simpa [Value.cells,D.flat] using m3⟩) _)⟩
 case arr n e=>
  rcases J.lay T _ ht with⟨I,q⟩|hl
  ·cases q
  have hn:=aH _ _ hl;simp only[am] at hn;replace hq:=ab hq;obtain⟨l,hp,hq⟩:=hq;have j:=nX h (ty:=λi=>if i<n then some e else none) (λi t c=>by split at c<;>first|(cases c;exact hn)|cases c) _ _ hp
  have main:∀ z:Value,cS (aq (.arr n e)).flat z.cells.toList=true->∃ b:List Value,mw (λi=>some (i*e.size,e.size)) z.cells (ps.toList.map λp=>(p.1,a.eval p.2))=some b.toArray/\((abS (List.replicate n (aq e)) l).length=n/\∀ x∈abS (List.replicate n (aq e)) l,wt e x)/\c8 w S (abM (abS (List.replicate n (aq e)) l)) b:=by
   intro z k;refine t6 (ty:=λi=>if i<n then some e else none) (off:=λi=>i*e.size) (Good:=λl=>l.length=n/\∀ x∈l,wt e x) (λl i t z g c k=>?_) (λl i t g c=>?_) (λi t c=>?_) l _ (List.replicate n (aq e)) z.cells.toList ⟨j3,λx hx=>by rw[(zjd.1 hx).2];exact cY e hn⟩ (cL (by simpa [aq,D.flat] using k)) j
   ·split at c<;>first|cases c|skip
    refine⟨by simpa using g.1,λx hx=>?_⟩
    rcases zKc hx with h|h
    ·exact g.2 x h
    ·rw[h];exact k
   ·split at c<;>first|cases c|skip
    rename_i G;have B:i<l.length:=by rw[g.1];exact G
    refine⟨l[i],zca B,g.2 _ (zFa B),?_⟩;rw[aE hn _ (λx hx=>g.2 x (zRa hx)),zgb,zDb j1]
   ·split at c<;>first|cases c|skip
    rfl
  obtain⟨z,k,f,_⟩:=jT hl;obtain⟨b,m1,m2,m3⟩:=main z f;have d:(Instr.build T (ps.map λp=>(p.1,a.eval p.2))).run P w=.ok (.agg b.toArray) w:=by obtain⟨u,h1,h2⟩:=eO hl;simp only[Instr.build,zla,k,zga,run_underlying h1,cm h2,pS,o,m1,zra]
  have hw:wt (.arr n e) (.st (abS (List.replicate n (aq e)) l)):=by simp only[wt];exact⟨_,rfl,m2⟩
  exact⟨_,hq,.value (v:=.agg b.toArray) (w':=w) (by rw[hex];simp only[zla,d,zga,zra]) (Qp.same h (dK (by simpa [am] using hn) hw ⟨⟨_,rfl⟩,by simpa [Value.cells,D.flat] using m3⟩) _)⟩
def DB(h:Rp w0 S γ β s a w){dst x i ty pos after guard}:jU P E w0 S γ β s a w ⟨dst,.extract x i,ty,pos,after,guard⟩:=by
 intro R K r hq;simp only[qv] at hq;have hx:=aT h x;generalize s.opA x=y at *;split at hq<;>first|cases hq|skip
 rename_i o z;replace hq:=ab hq;obtain⟨u,hu,hq⟩:=hq;replace hq:=ab hq;obtain⟨n,d,hq⟩:=hq;simp only[AR] at hx;rcases hx with⟨h1,_⟩|⟨m,e,hn,h2,h3⟩
 ·simp[am] at h1
 ·cases e;simp only[wt] at h2;obtain⟨l,rfl,hw⟩:=h2;simp only[D.tupAt] at d;simp only[DR] at h3;obtain⟨vs,j,hlen,c⟩:=h3;have f:i<vs.length:=h7
  obtain⟨z2,g,k⟩:=ib hw hu;rw[d] at g;cases g;have b:=c i n vs[i] d (zca f);exact⟨_,hq,.value (v:=vs[i]) (w':=w) (by simp[execOp,Instr.extract,j,f]) (Qp.same h (dK (bX hn hu) k b) _)⟩
def B9(h:Rp w0 S γ β s a w){dst fn first captured ty pos after guard}:jU P E w0 S γ β s a w ⟨dst,.makeFunc fn first captured,ty,pos,after,guard⟩:=by
 intro R K r hq;simp only[qv] at hq;split at hq<;>first|cases hq|skip
 rename_i f;split at hq<;>first|cases hq|skip
 rename_i hf;have e:first=#[]:=Array.eq_empty_of_size_eq_zero hf.1
 refine⟨_,hq,.value (v:=.func (.func f) #[] (captured.map a.eval)) (w':=w) (by simp[execOp,Instr.makeFunc,e]) (Qp.same h ?_ _)⟩
 simp only[AR,AC];refine⟨j3,(captured.toList.map a.eval),by rw[show captured.map a.eval=(captured.toList.map a.eval).toArray from zpc j3];simp[Value.cells],?_⟩
 have h2:=hf.2;clear hf hq;generalize captured.toList=l at *
 induction l with
 | nil=>simp[oz]
 | cons x l ih=>
  simp only[zXb,zaa] at h2;simp only[zab,oz];refine⟨_,_,rfl,?_,ih h2.2⟩;have h3:=h2.1;have b:=aT h x;cases hx:s.opA x<;>rw[hx] at h3 b<;>simp only[ga] at h3<;>first|(cases h3;done)|skip
  simp only[AR] at b;obtain⟨c,d⟩:=b
  simp_all [Value.cells]
end
theorem gH{α:Type}(l:List α):∀ (n i:Nat),i<n*l.length->((List.replicate n l).flatten)[i]?=l[i%l.length]?
 | 0,i,h=>j1
 | n+1,i,h=>by
  rw[List.replicate_succ,List.flatten_cons,zIc];by_cases hi:i<l.length
  ·simp_all [zUa]
  ·rw[zka hi,gH l n (i-l.length) (by rw[zob] at h;omega)]
   rw[<-Nat.mod_eq_sub_mod j1]
def yN{w:World}{S:Nat->Nat->Prop}{e:Ty}{a:Array Value}{m:Nat}(j:cS (aq e).flat a.toList=true)(hs:a.size=m)(n:Nat) :
  c8 w S (abM (List.replicate n (aq e))) ((Array.range (n*m)).map λi=>a[i%a.size]!).toList:=by
 have h0:=cL (w:=w) (S:=S) j;have hl:(aq e).flat.length=m:=by rw[h0.1];simpa using hs
 refine⟨by rw[my];simp[hl],λi d c b hc=>?_⟩
 rw[my] at b;have g:i<n*m:=by have:=(zqa.1 hc).1;simpa using this
 rw[gH _ _ _ (by rw[hl];exact g),hl] at b
 have hm:0<m:=by
  rcases zhc m with h|h
  ·subst h;omega
  ·exact h
 have f:i%m<a.size:=by rw[hs];exact z2a _ hm
 refine h0.2 (i%m) d c b ?_;simp only[Array.toList_map,zhb,Array.toList_range,List.getElem?_range g,zIb,zda] at hc;rw[<-hc,hs];simp[f]
section
variable{P:Program}{E:Env}{w0:Root}{S:Nat->Nat->Prop}{γ:Nat->Option Nat}{β:Nat->Option (Nat×Nat)}{s:St}{a:Act}{w:World}
def n7{c:Array Value}{t:TypeId}:bO (grown w [.cells c t] w.drawn) w.heap.size=some c:=by rw[<-dI];exact vT w _ rfl
def Cj{c:Array Value}{t:TypeId}{d:Nat}:bO (grown w [.cells c t] d) w.heap.size=some c:=by have:=n7 (w:=w) (c:=c) (t:=t);rw[show bO (grown w [.cells c t] d) w.heap.size=bO (grown w [.cells c t] w.drawn) w.heap.size from rfl];exact this
def FU{c:Array Value}{t:TypeId}{d:Nat}(j:Nat):(grown w [.cells c t] d).cell? ⟨w.heap.size,j,none⟩=c[j]?:=cell_of_row _ Cj j
def zS(h:Rp w0 S γ β s a w){v:Nat}(B:β v=none)(r:v<s.base+4096){e:Ty}(hn:am e=true){l:List D}(hl:∀ x∈l,wt e x){cs:List Value}(hc:c8 w S (abM l) cs){T:TypeId}{rest:List Value}{cap:Nat}(d:Nat)(q:w.drawn<=d)(j:l.length<=cap)(t:cs.length+rest.length=cap*e.size) :
  ∃ S' β',Rp w0 S' γ β' s a (grown w [.cells (cs++rest).toArray T] d)/\AR ⟨grown w [.cells (cs++rest).toArray T] d,S',γ,β',s.ob,s.dead⟩ (.own e v l) (.slice (some ⟨w.heap.size,0,none⟩) l.length cap) ∧
   (∀ b o,S b o->S' b o)/\(∀ u,u≠v->β' u=β u)/\β' v=some (w.heap.size,l.length*e.size)/\(∀ b o,S' b o->S b o\/b=w.heap.size):=by
 let S':Nat->Nat->Prop:=λb o=>S b o\/(b=w.heap.size/\o<l.length*e.size)
 have p:∀ b o,S' b o->S b o\/(w.heap.size<=b/\b<(grown w [.cells (cs++rest).toArray T] d).heap.size):=λb o g=>by
  rcases g with g|⟨rfl,_⟩
  ·exact .inl g
  ·exact .inr ⟨zia _,j3⟩
 obtain⟨h1,m⟩:=h.grow (os:=[.cells (cs++rest).toArray T]) (d:=d) q (S':=S') (λb o g=>.inl g) p;have y:¬ w0.Old w.heap.size:=λz=>by have:=z.1;have:=h.ext.sz;omega
 obtain⟨h2,C⟩:=h1.newTok (v:=v) (b:=w.heap.size) (e:=l.length*e.size) B y j3 (λid hid=>by have:=(h.γn id _ hid).2;omega) (λu f hu hf=>by have:=(h.βn u _ _ hu hf).2.1;omega) r
  (λo z hs=>hs.elim (λhs=>by have:=h.Sb _ _ hs;omega) λhs=>j1)
 refine⟨S',pw β v (w.heap.size,l.length*e.size),h2,?_,λb o g=>.inl g,λu hu=>bY β _ hu,bH β _ _,λb o g=>g.imp id λA=>A.1⟩;have hlen:cs.length=l.length*e.size:=by rw[<-hc.1];exact aE hn l hl
 simp only[AR,AC,Value.cells];refine⟨j3,hn,hl,_,cap,rfl,?_,λ_=>.inr ⟨w.heap.size,0,rfl,by simp[bH],(cs++rest).length,?_,?_⟩⟩
 ·refine abC (b:=w.heap.size) (off:=0) (.inr rfl) j ⟨cs,hc.mono m.cell m.S,λi c k=>?_⟩;have r:=(zqa.1 k).1;refine⟨.inr ⟨rfl,j1⟩,?_⟩
  rw[FU];simp only[zBc,zcb];rw[zvb r];exact k
 ·simp[nk,Cj]
 ·simp;omega
def wW(L:EnvOk P E)(h:Rp w0 S γ β s a w){dst T n ps ty pos after guard}(hf:Fr E s γ β ⟨dst,.buildSlice T n ps,ty,pos,after,guard⟩):jU P E w0 S γ β s a w ⟨dst,.buildSlice T n ps,ty,pos,after,guard⟩:=by
 intro R K r hq;simp only[qv] at hq;replace hq:=ab hq;obtain⟨t,ht,hq⟩:=hq;cases t<;>(try simp only at hq)<;>first|(cases hq;done)|skip
 rename_i e;rcases L.lay T _ ht with⟨Y,D⟩|hl
 ·cases D
 have hn:=aH _ _ hl;simp only[am] at hn;split at hq<;>first|(cases hq;done)|skip
 rename_i B;replace hq:=ab hq;obtain⟨d,J,hq⟩:=hq;replace hq:=ab hq;obtain⟨l,hp,hq⟩:=hq;obtain⟨M,Z,Q,_⟩:=hf rfl d J;have C:=nX h (ty:=λi=>if i<n then some e else none) (λi t b=>by split at b<;>first|(cases b;exact hn)|cases b) _ _ hp
 obtain⟨u,h1,h2⟩:=jG hl;obtain⟨z,F,o,_⟩:=jT h2;obtain⟨i0,z0,N,O,AH,_⟩:=fV (gQ h2);have H:z.cells.size=e.size:=by have:=(cL (w:=w) (S:=S) o).1;rw[<-zRb,<-this];exact cH _ _ (cY e hn) hn
 have hzero:c8 w S (abM (List.replicate n (aq e))) ((Array.range (n*e.size)).map λi=>z.cells[i%z.cells.size]!).toList:=yN o H n;obtain⟨f,m1,m2,m3⟩:=t6 (place:=λi=>some (i*e.size,e.size)) (ty:=λi=>if i<n then some e else none) (off:=λi=>i*e.size) (Good:=λl=>l.length=n/\∀ x∈l,wt e x) (λl i t z c b F=>by
   split at b<;>first|(cases b;done)|skip
   have:e=t:=by injection b
   subst this;refine⟨by simpa using c.1,λx hx=>?_⟩
   rcases zKc hx with h|h
   ·exact c.2 x h
   ·rw[h];exact F) (λl i t c b=>by
   split at b<;>first|(cases b;done)|skip
   rename_i A;have:e=t:=by injection b
   subst this;have g:i<l.length:=by rw[c.1];exact A
   refine⟨l[i],zca g,c.2 _ (zFa g),?_⟩;rw[aE hn _ (λx hx=>c.2 x (zRa hx)),zgb,zDb j1]) (λi t b=>by
   split at b<;>first|(cases b;done)|skip
   have:e=t:=by injection b
   subst this;rfl) l _ (List.replicate n (aq e)) _ ⟨j3,λx hx=>by rw[(zjd.1 hx).2];exact cY e hn⟩ hzero C
 obtain⟨S',β',U,V,W,X,k5,_⟩:=zS h (v:=s.base+d) Q j1 hn m2.2 m3 (T:=u) (rest:=[]) (cap:=n) w.drawn (zia _) (by rw[m2.1];exact zia _) (by rw[zLb,zmc,<-m3.1,aE hn _ m2.2,m2.1])
 have m:¬ n*e.size>2^24:=by have:n*e.size<=4096*4096:=z4a B AH.2;omega
 have j:(ps.map λp=>(p.1,a.eval p.2)).toList=ps.toList.map λp=>(p.1,a.eval p.2):=j3
 have k:(Instr.buildSlice T n (ps.map λp=>(p.1,a.eval p.2))).run P w=.ok (.slice (some ⟨w.heap.size,0,none⟩) n n) (grown w [.cells f.toArray u] w.drawn):=by
  have key:∀ q:Array Value,((Array.range (n*e.size)).map λi=>q[i%q.size]!)=((Array.range (n*e.size)).map λi=>z.cells[i%z.cells.size]!) ->
    mw (λi=>some (i*e.size,e.size)) ((Array.range (n*e.size)).map λi=>q[i%q.size]!) (ps.map λp=>(p.1,a.eval p.2)).toList=some f.toArray:=λq G=>by
   rw[G,j];rw[zkc] at m1;exact m1
  by_cases h0:n*e.size=0
  ·have I:=key #[] (by simp[h0])
   simp only[Instr.buildSlice,zla,run_underlying h1,zga,cm h2,m,if_false,zna h0,pure_bind,pS,I,newRow,run_newObj,zra];rw[<-dI];rfl
  ·have I:=key z.cells rfl;simp only[Instr.buildSlice,zla,run_underlying h1,zga,cm h2,m,if_false,zka h0,bind_pure_comp,Sem.run_map,F,pure_bind,pS,I,newRow,run_newObj,zra];rw[<-dI];rfl
 have hex:execOp a.eval ⟨dst,.buildSlice T n ps,ty,pos,after,guard⟩=(Instr.buildSlice T n (ps.map λp=>(p.1,a.eval p.2)) >>= λv=>pure (.value v)):=rfl;rw[zBb,m2.1] at *;refine⟨_,hq,.value (by rw[hex];simp only[zla,k,zga,zra]) ⟨S',γ,β',U,V,W,⟨_,_,rfl⟩,λ_ _ y=>y,λid hid=>⟨rfl,X id λy=>?_⟩⟩⟩
 subst y;rcases hid with hid|hid
 ·rw[J] at hid;exact hid (by rw[zNb])
 ·omega
end
mutual
theorem HM:∀ (x y:D),D.beq x y=true->x=y
 | .int k n,y,h=>by cases y<;>simp_all [D.beq]
 | .bool b,y,h=>by cases y<;>simp_all [D.beq]
 | .str b,y,h=>by cases y<;>simp_all [D.beq]
 | .st l,y,h=>by
  cases y<;>simp only[D.beq] at h<;>first|(cases h;done)|skip
  rw[Eh _ _ h]
 | .sl l,y,h=>by cases y<;>simp[D.beq] at h
 | .tup l,y,h=>by cases y<;>simp[D.beq] at h
theorem Eh:∀ (l l':List D),D.beqs l l'=true->l=l'
 | [],l',h=>by cases l'<;>simp_all [D.beqs]
 | x::l,l',h=>by
  cases l' with
  | nil=>simp[D.beqs] at h
  | cons y l'=> simp only[D.beqs,zaa] at h;rw[HM _ _ h.1,Eh _ _ h.2]
end
section
variable{P:Program}{E:Env}{w0:Root}{S:Nat->Nat->Prop}{γ:Nat->Option Nat}{β:Nat->Option (Nat×Nat)}{s:St}{a:Act}{w:World}
theorem oU{α:Type}(g:α->PUnit->Sem (ForInStep PUnit)){w:World}:∀ (l:List α),(∀ x∈l,(g x ⟨⟩).run P w=.ok (.yield ⟨⟩) w)->(forIn l PUnit.unit g).run P w=.ok ⟨⟩ w
 | [],_=>rfl
 | x::l,h=>by simp only[List.forIn_cons,zla,h x zsa,zga];exact oU g l λy hy=>h y (zoa _ hy)
def lV{w:World}{b n:Nat}{es:Array MapEntry}(h:w.heap[b]?=some (.map es n)):(getObj b).run P w=.ok (.map es n) w:=by simp[getObj,Sem.run,h]
mutual
theorem j4:∀ (ty:Ty) (T:TypeId) (x:D) (cx:List Value) (vx:Value) (n:Nat) (e:Bool),bJ P ty T=true->bV ty=true->ty.high<=n->wt ty x->c8 w S x.flat cx->gI ty cx vx->∀ w',(Instr.checkKey e n T vx).run P w'=.ok () w'
 | .int k,T,x,cx,vx,n,e,hl,_,hd,hx,rx,ix,w'=>by
  simp only[wt] at hx;obtain⟨m,rfl⟩:=hx;obtain⟨c1,rfl,r1⟩:=rx.single';rw[ft ix rfl,r1.int_inv];obtain⟨n,rfl⟩:∃ e,n=e+1:=⟨n-1,by simp only[Ty.high] at hd;omega⟩
  simp only[Instr.checkKey,zla,run_underlying (ke hl),zga,zra]
 | .bool,T,x,cx,vx,n,e,hl,_,hd,hx,rx,ix,w'=>by
  simp only[wt] at hx;obtain⟨m,rfl⟩:=hx;obtain⟨c1,rfl,r1⟩:=rx.single';rw[ft ix rfl,r1.bool_inv];obtain⟨n,rfl⟩:∃ e,n=e+1:=⟨n-1,by simp only[Ty.high] at hd;omega⟩
  have hu:P.underlying T=some .bool:=by simp only[bJ,zaa] at hl;all_goals grind
  simp only[Instr.checkKey,zla,run_underlying hu,zga,zra]
 | .st ts,T,x,cx,vx,n,e,hl,hc,hd,hx,rx,ix,w'=>by
  simp only[wt] at hx;obtain⟨l,rfl,hx⟩:=hx;rw[jo ix rfl];obtain⟨fs,h1,h2⟩:=jH hl;simp only[Ty.high] at hd;obtain⟨n,rfl⟩:∃ e,n=e+1:=⟨n-1,j1⟩
  simp only[bV] at hc;simp only[D.flat] at rx;simp only[Instr.checkKey,zla,run_underlying h1,zga];rw[<-Array.forIn_toList,oU (P:=P) (w:=w')]
  ·rfl
  ·intro f hf;have key:=mP ts fs.toList 0 l [] cx cx.toArray n e h2 hc j1 hx rx rfl rfl w' f hf
   by_cases hn : f.name ≠ "_"
   ·rw[zna hn] at key ⊢;simp only[zla] at key ⊢;cases hp:(part f.type cx.toArray f.offset).run P w' with
    | ok v w2=> rw[hp] at key;simp only[zga] at key ⊢;rw[key];rfl
    | _=>rw[hp] at key;simp[Result.andThen] at key
   ·rw[zka hn];rfl
 | .arr m t,T,x,cx,vx,n,e,hl,hc,hd,hx,rx,ix,w'=>by
  simp only[wt] at hx;obtain⟨l,rfl,hxl,hx⟩:=hx;rw[jo ix rfl];obtain⟨u,h1,h2⟩:=eO hl;simp only[Ty.high] at hd;obtain⟨n,rfl⟩:∃ e,n=e+1:=⟨n-1,j1⟩
  simp only[bV] at hc;simp only[D.flat] at rx;have hn:=aH _ _ h2;simp only[Instr.checkKey,zla,run_underlying h1,zga];rw[Std.Legacy.Range.forIn_eq_forIn_range',oU (P:=P) (w:=w')]
  ·rfl
  ·intro j hj;have hjn:j<m:=by simp at hj;omega
   have e1:l[j]?=some (l.getD j (.bool false)):=by simp[List.getD,zca (hxl ▸ hjn)]
   generalize l.getD j (.bool false)=dx at *;have wx:=hx dx (zbb e1);have rx':=rx;rw[cu e1] at rx';obtain⟨p1,p2⟩:=rx'.split;obtain⟨p3,p4⟩:=p2.split;have o1:(cx.take (abM (l.take j)).length).length=j*t.size:=by rw[<-p1.1,aE hn _ (λx hx'=>hx x (zRa hx')),zgb,zDb j1]
   obtain⟨v1,r1,i1⟩:=iI h2 (cs:=cx.toArray) (pre:=cx.take (abM (l.take j)).length) (mid:=(cx.drop (abM (l.take j)).length).take dx.flat.length) (post:=(cx.drop (abM (l.take j)).length).drop dx.flat.length)
     (by simp only[zua]) (by rw[<-p3.1];exact cH _ _ wx hn) p3.nag w'
   rw[o1] at r1;have r3:=j4 t u dx _ v1 n e h2 hc j1 wx p3 i1 w'
   simp only[zla,cm h2,zga,r1,r3,zra]
 | .str,_,_,_,_,_,_,_,hc,_,_,_,_,_=>by simp[bV] at hc
 | .sl _,_,_,_,_,_,_,_,hc,_,_,_,_,_=>by simp[bV] at hc
 | .tup _,_,_,_,_,_,_,_,hc,_,_,_,_,_=>by simp[bV] at hc
 | .fn,_,_,_,_,_,_,_,hc,_,_,_,_,_=>by simp[bV] at hc
theorem mP:∀ (ts:List Ty) (fs:List Field) (off:Nat) (l:List D) (px cx:List Value) (xs:Array Value) (n:Nat) (e:Bool),gt P ts fs off=true->mQ ts=true->acq ts<=n->fG ts l->c8 w S (abM l) cx ->
  xs.toList = px ++ cx -> px.length = off -> ∀ w', ∀ f ∈ fs, (if f.name ≠ "_" then (part f.type xs f.offset >>= λv => Instr.checkKey e n f.type v) else pure ()).run P w' = .ok () w'
 | [],fs,off,l,px,cx,xs,n,e,hf,_,_,_,_,_,_,w'=>by all_goals grind [gt]
 | t::ts,[],off,l,px,cx,xs,n,e,hf,_,_,_,_,_,_,w'=>by simp[gt] at hf
 | t::ts,f::fs,off,l,px,cx,xs,n,e,hf,hc,hd,hx,rx,ex,lx,w'=>by
  simp only[gt,zaa,zfa] at hf;obtain⟨⟨⟨⟨h1,h2⟩,h3⟩,h4⟩,h5⟩:=hf;simp only[fG] at hx;obtain⟨dx,l,rfl,hx1,hx2⟩:=hx;simp only[abM] at rx;obtain⟨p3,p4⟩:=rx.split;have hn:=aH _ _ h4;simp only[mQ,zaa] at hc;simp only[acq] at hd;obtain⟨v1,r1,i1⟩:=iI h4 (cs:=xs) (pre:=px) (mid:=cx.take dx.flat.length) (post:=cx.drop dx.flat.length) (by rw[ex,zua]) (by rw[<-p3.1];exact cH _ _ hx1 hn) p3.nag w'
  rw[lx,<-h1] at r1;have r3:=j4 t f.type dx _ v1 n e h4 hc.1 j1 hx1 p3 i1 w'
  have hs1:(cx.take dx.flat.length).length=t.size:=by rw[<-p3.1];exact cH _ _ hx1 hn
  have ih:=mP ts fs (off+t.size) l (px++cx.take dx.flat.length) (cx.drop dx.flat.length) xs n e h5 hc.2 j1 hx2 p4
   (by rw[zOa,zua];exact ex) (by rw[zta,lx,hs1]) w'
  intro g hg;rcases zEa.1 hg with rfl|hg
  ·rw[zna h2,zla,r1,zga,r3]
  ·exact ih g hg
end
def CL:List D->D->List MapEntry->Nat->Option (Nat×Value)
 | .st [k,_]::l,x,e::es,i=>if D.beq x k then some (i,e.val) else CL l x es (i+1)
 | _,_,_,_=>none
theorem uY{c:Cx}{f vt:Ty}{T:TypeId}{x:D}{g:Value}(hl:bJ P f T=true)(hc:bV f=true)(hx:wt f x)(rx:gE c.w c.S x g){desc:TypeDesc}(hu:P.underlying T=some desc):∀ (l:List D) (es:List MapEntry) (j i:Nat) (r:Option (Nat×Value)),jt c f vt j l es->Instr.findNow desc g es i=some r->r=CL l x es i
 | [],[],j,i,r,_,h=>by simp only[Instr.findNow,zda] at h;rw[<-h];rfl
 | [],_::_,j,i,r,h,_=>h.elim
 | _::_,[],j,i,r,h,_=>h.elim
 | y::l,e::es,j,i,r,h,d=>by
  simp only[jt] at h;obtain⟨⟨_,k,v,rfl,hk,q,o,s⟩,h2⟩:=h;simp only[Instr.findNow] at d;have key:∀ b,Instr.sameNow desc g e.key=some b->b=D.beq x k:=by
   intro b a;cases f<;>simp only[wt] at hx hk
   case int kk=> obtain⟨n,rfl⟩:=hx;obtain⟨m,rfl⟩:=hk;rw[rx.int_inv,o.int_inv] at a;rw[ke hl] at hu;cases hu;simp only[Instr.sameNow,if_true,zda] at a;rw[<-a];simp[D.beq];rfl
   case bool=> obtain⟨n,rfl⟩:=hx;obtain⟨m,rfl⟩:=hk;rw[rx.bool_inv,o.bool_inv] at a;simp only[bJ,zaa] at hl;have h3:=hl.2;rw[hu] at h3;cases desc<;>simp at h3;simp only[Instr.sameNow,zda] at a;rw[<-a];rfl
   case st ts=> obtain⟨p,h3,_⟩:=jH hl;rw[hu] at h3;cases h3;simp[Instr.sameNow] at a
   case arr m t=> obtain⟨u,h3,_⟩:=eO hl;rw[hu] at h3;cases h3;simp[Instr.sameNow] at a
   all_goals simp[bV] at hc
  cases hs:Instr.sameNow desc g e.key with
  | none=>rw[hs] at d;simp at d
  | some b=>
   rw[hs] at d;have:=key b hs;subst this;cases a:D.beq x k
   ·rw[a] at d;simp only at d;have:=uY hl hc hx rx hu l es (j+1) (i+1) r h2 d;grind [CL,Bool.false_eq_true]
   ·grind [Option.some.injEq,CL]
theorem oE{c:Cx}{a vt:Ty}{T:TypeId}{x:D}{b:Value}(hl:bJ P a T=true)(hc:bV a=true)(f:a.high<=1000)(hx:wt a x)(rx:gE c.w c.S x b)(w':World):∀ (l:List D) (es:List MapEntry) (j i:Nat),jt c a vt j l es->(Instr.findAsking T b es i).run P w'=.ok (CL l x es i) w'
 | [],[],j,i,_=>rfl
 | [],_::_,j,i,h=>h.elim
 | _::_,[],j,i,h=>h.elim
 | y::l,e::es,j,i,h=>by
  simp only[jt] at h;obtain⟨⟨_,k,v,rfl,hk,m,d,n⟩,h2⟩:=h;have hn:=aH _ _ hl;have i1:gI a b.cells.toList b:=⟨rfl,pA hx hn rx.1⟩;have i2:gI a e.key.cells.toList e.key:=⟨rfl,pA hk hn d.1⟩;have g:=pQ a T x k _ _ _ _ 10000 hl hc j1 hx hk rx.2 d.2 i1 i2 w'
  simp only[Instr.findAsking,Op.equal,Op.maxDepth,zla,g,zga,CL];cases D.beq x k
  ·simp only[zDa,if_false];exact oE hl hc f hx rx w' l es (j+1) (i+1) h2
  ·simp
def uX{c:Cx}{a vt:Ty}{T:TypeId}{x:D}{b:Value}(hl:bJ P a T=true)(hc:bV a=true)(e:a.high<=1000)(hx:wt a x)(rx:gE c.w c.S x b)(w':World){l:List D}{es:List MapEntry}{j:Nat}(h:jt c a vt j l es) :
  (Instr.findKey T b es).run P w'=.ok (CL l x es 0) w':=by
 have hu:∃ d,P.underlying T=some d:=by
  cases a<;>simp only[bV] at hc<;>first|(cases hc;done)|skip
  ·exact⟨_,ke hl⟩
  ·simp only[bJ,zaa] at hl;have h2:=hl.2;split at h2
   ·rename_i hu;exact⟨_,hu⟩
   ·cases h2
  ·obtain⟨g,h1,_⟩:=jH hl;exact⟨_,h1⟩
  ·obtain⟨u,h1,_⟩:=eO hl;exact⟨_,h1⟩
 obtain⟨d,hu⟩:=hu;simp only[Instr.findKey,zla,run_underlying hu,zga];split
 ·rename_i r f;rw[uY hl hc hx rx hu l es j 0 r h f];rfl
 ·exact oE hl hc e hx rx w' l es j 0 h
theorem EF{c:Cx}{a vt:Ty}{x:D}:∀ (l:List D) (es:List MapEntry) (j i:Nat),jt c a vt j l es ->
  match CL l x es i with
  | none=>abN l x=none
  | some (_,v)=>∃ d,abN l x=some d/\wt vt d/\gE c.w c.S d v
 | [],[],j,i,_=>rfl
 | [],_::_,j,i,h=>h.elim
 | _::_,[],j,i,h=>h.elim
 | y::l,e::es,j,i,h=>by
  simp only[jt] at h;obtain⟨⟨_,k,v,rfl,hk,b,f,g⟩,h2⟩:=h;simp only[CL,abN];cases hb:D.beq x k
  ·simp only[zDa,if_false];exact EF l es (j+1) (i+1) h2
  ·simp_all
def GJ(hE:EnvOk P E)(h:Rp w0 S γ β s a w){dst T x i cok ty pos after guard}:jU P E w0 S γ β s a w ⟨dst,.lookup T x i cok,ty,pos,after,guard⟩:=by
 intro R K r hq;simp only[qv] at hq;replace hq:=ab hq;obtain⟨kv,N,hq⟩:=hq;obtain⟨ad,ai⟩:=kv;have hx:=aT h x;generalize s.opA x=ax at *;cases ax<;>(try simp only at hq)<;>first|(cases hq;done)|skip
 rename_i kt vt id;split at hq<;>first|(cases hq;done)|skip
 rename_i I;simp only[zaa] at I;have D:=aco _ _ I.1;have F:=aco _ _ I.2;subst D;subst F;split at hq<;>first|(cases hq;done)|skip
 rename_i A c l O;split at hq<;>first|(cases hq;done)|skip
 rename_i j;simp only[zaa] at j;have D:=aco _ _ j.1;have F:=aco _ _ j.2;subst D;subst F;replace hq:=ab hq;obtain⟨m,M,hq⟩:=hq;split at hq<;>first|(cases hq;done)|skip
 rename_i J;have Y:=aT h i;rw[eN M,aco _ _ J] at Y;obtain⟨hc,KT,VT,hu,k,q,hh⟩:=hE.mapL T _ _ N;have t:=aH _ _ k;have f:=aH _ _ q;obtain⟨V,W⟩:=AM Y t;simp only[AR,AC] at hx;obtain⟨na,b,L,hγ,_,_,_⟩:=hx;have hv:=ar na L;have hO:=h.obs id _ b O hγ;simp only[gm] at hO;obtain⟨_,_,_,es,o,X⟩:=hO;have i1:gI A (a.eval i).cells.toList (a.eval i):=⟨rfl,pA V t W.1⟩;have rc:=j4 (S:=S) (w:=w) A KT m.2 _ _ 10000 es.isEmpty k hc j1 V W.2 i1 w
 have C:=uX (P:=P) k hc hh V W w X;have rg:=EF (x:=m.2) l es.toList 0 0 X;obtain⟨z,Q,U,y⟩:=jT q;have g:wt c (aq c)/\gE w S (aq c) z:=by
  have wz:=cY c f;refine⟨wz,?_⟩;have G:AC ⟨w,S,γ,β,s.ob,s.dead⟩ (.d c (aq c)) z.cells.toList:=by simp only[AC];exact⟨wz,f,cL U⟩
  have iv:gI c z.cells.toList z:=⟨rfl,λH=>(y.2 H),λH xs e=>by have:=y.1 ⟨xs,e⟩;rw[H] at this;cases this⟩
  exact(AM (w8 (bU _ _) G iv) f).2
 have run:∃ v d,(abN l m.2).getD (aq c)=d/\wt c d/\gE w S d v/\(execOp a.eval ⟨dst,.lookup T x i cok,ty,pos,after,guard⟩).run P w=.ok (.value (if cok then .tuple #[v,.bool (abN l m.2).isSome] else v)) w:=by
  have hex:(execOp a.eval ⟨dst,.lookup T x i cok,ty,pos,after,guard⟩)=(Instr.lookup T (a.eval x) (a.eval i) cok >>= λv=>pure (.value v)):=rfl;rw[hex,hv];cases hf:CL l m.2 es.toList 0 with
  | none=>
   rw[hf] at rg C;simp only at rg;refine⟨z,aq c,by rw[rg];rfl,g.1,g.2,?_⟩
   simp only[Instr.lookup,zla,run_underlying hu,zga,lV o,zra,rc,C,Q,rg];rfl
  | some p=>
   obtain⟨n,v⟩:=p;rw[hf] at rg C;simp only at rg;obtain⟨d,g1,g2,g3⟩:=rg;refine⟨v,d,by rw[g1];rfl,g2,g3,?_⟩
   simp only[Instr.lookup,zla,run_underlying hu,zga,lV o,zra,rc,C,g1];rfl
 obtain⟨v,d,r1,Z,r3,B⟩:=run;rw[r1] at hq;cases cok with
 | false=> simp only at hq;simp only[zDa,if_false] at B;exact⟨_,hq,.value B (Qp.same h (dK f Z r3) _)⟩
 | true=>
  simp only at hq;simp only[if_true] at B;refine⟨_,hq,.value B (Qp.same h ?_ _)⟩;simp only[AR];refine .inr ⟨_,rfl,by simp[bq,f,am],?_,?_⟩
  ·simp only[wt,fG];exact⟨_,rfl,d,_,rfl,Z,_,_,rfl,⟨_,rfl⟩,rfl⟩
  ·refine⟨[v,.bool (abN l m.2).isSome],rfl,rfl,λi dd u h1 h2=>?_⟩;rcases i with _|_|i
   ·simp at h1 h2;subst h1;subst h2;exact r3
   ·simp at h1 h2;subst h1;subst h2;exact abV (.bool _)
   ·simp at h1
end
end Sy
end
end Go.Proofs.YtphlmegkommlnaaGreatDoor
