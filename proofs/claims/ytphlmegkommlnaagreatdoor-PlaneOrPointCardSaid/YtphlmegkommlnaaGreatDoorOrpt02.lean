/- Part 2 of the proof that PlaneOrPoint answers true at every input -/
import Derived.Test.YtphlmegkommlnaaGreatDoorOrpt01
import Derived.ProofKit
import Derived.Deep.Slices
import Derived.OpenShut
import Derived.OrdersIn
import Derived.TacticsIn
import Derived.RangeFuncIn
import Derived.RangeFuncCalls
import Derived.Scope
import Derived.StillTail
import Derived.ChangeKeysEq
import Derived.MapKept
set_option linter.unusedVariables false
set_option linter.unusedSimpArgs false
set_option linter.unnecessarySimpa false
set_option linter.defProp false
set_option maxRecDepth 20000
namespace Go.Proofs.YtphlmegkommlnaaGreatDoor
noncomputable section
namespace Sy
open Go
section
variable{H:Type}{enc:TypeId×Value->H}{P:Program}{W:World}{base:Nat}{spare:Nat->Bool}{held:Bool}
def rU(W:World)(b o:Nat):Prop:=(W.cell? ⟨b,o,none⟩).isSome=true
def valid_lt{b o:Nat}(h:rU W b o):b<W.heap.size:=by
 unfold rU World.cell? at h;rcases zAa b W.heap.size with k|k
 ·exact k
 ·simp only[Array.getElem?_eq_none k] at h;cases h
mutual
def R5:D->Prop
 | .int k n=>(Lit.int k n).wf=true
 | .bool _=>True
 | .str s=>s.size<=maxLen
 | .st l=>AE l
 | .sl l=>l.length<=maxLen/\AE l
 | .tup l=>AE l
def AE:List D->Prop
 | []=>True
 | d::l=>R5 d/\AE l
end
theorem wP:∀ {l:List D},AE l↔∀ d∈l,R5 d
 | []=>by simp[AE]
 | d::l=>by simp[AE,wP (l:=l)]
mutual
def rF:Ty->Bool
 | .st ts=>AJ ts
 | .arr _ t=>rF t
 | .sl t=>decide (0<t.size)&&rF t
 | .tup _=>false
 | .fn=>false
 | _=>true
def AJ:List Ty->Bool
 | []=>true
 | t::ts=>rF t&&AJ ts
end
def lG{T:TypeId}{ty:Ty}(h:cd P ty T=true):P.cellsOf T=ty.size:=by obtain⟨i,z,h1,h2,_⟩:=gA (io h);simp[Program.cellsOf,h1,h2]
def afk{S:Nat->Nat->Prop}{d:D}{c:Value}(h:CR W S d c):dF W S [d] [c]:=⟨rfl,λi d' c' a hc=>by
 cases i with
 | zero=>simp at a hc;subst a;subst hc;exact h
 | succ i=>simp at a⟩
mutual
theorem vi:∀ (ty:Ty) (T:TypeId) (fuel:Nat) (cs:List Value) (x:DataW H×List MemPlace),cd P ty T=true->rF ty=true->DataW.trod enc P W base spare held fuel T cs=some x->∃ d,wt ty d/\R5 d/\dF W (rU W) d.flat cs
 | .int k,T,fuel,cs,x,hl,_,h=>by obtain⟨n,rfl,_,hw⟩:=DataW.trod_int (kF hl) h;exact⟨.int k n,⟨n,rfl⟩,hw,afk (.int k n)⟩
 | .bool,T,fuel,cs,x,hl,_,h=>by
  have hu:P.underlying T=some .bool:=by
   simp only[cd,zaa] at hl;have h2:=hl.2;split at h2
   ·assumption
   ·cases h2
  obtain⟨b,rfl,_⟩:=DataW.trod_bool hu h;exact⟨.bool b,⟨b,rfl⟩,trivial,afk (.bool b)⟩
 | .str,T,fuel,cs,x,hl,_,h=>by
  have hu:P.underlying T=some .string:=by
   simp only[cd,zaa] at hl;have h2:=hl.2;split at h2
   ·assumption
   ·cases h2
  obtain⟨s,rfl,_,hw⟩:=DataW.trod_string hu h;exact⟨.str s,⟨s,rfl⟩,hw,afk (.str s)⟩
 | .st ts,T,fuel,cs,x,hl,hp,h=>by
  obtain⟨fs,hu,hf⟩:=jW hl;obtain⟨xs,n,_,_,hlen,hxl,hx⟩:=DataW.trod_struct hu h;rw[lG hl] at hlen;obtain⟨l,h1,hok,h2⟩:=Dl ts fs.toList 0 cs n hf (by simpa only[rF] using hp) (λi f hi=>by
   have hi':fs[i]?=some f:=by simpa using hi
   have hlt:i<xs.length:=by rw[hxl];exact(zCa.1 hi').1
   exact⟨xs[i],(hx i f hi').trans (zda hlt)⟩) (by rw[hlen];simp[Ty.size])
  refine⟨.st l,⟨l,rfl,h1⟩,hok,?_⟩;have:(cs.drop 0).take (aga ts)=cs:=by rw[List.drop_zero,zgb (by rw[hlen];simp[Ty.size])]
  rw[this] at h2;exact h2
 | .arr n e,T,fuel,cs,x,hl,hp,h=>by
  obtain⟨u,hu,hl'⟩:=fq hl;obtain⟨xs,m,_,_,hlen,hxl,hx⟩:=DataW.trod_array hu h;rw[lG hl] at hlen;rw[lG hl'] at hx;simp only[rF] at hp;have key:∀ k,k<=n->∃ l:List D,l.length=k/\(∀ y∈l,wt e y/\R5 y)/\dF W (rU W) (aft l) (cs.take (k*e.size)):=by
   intro k
   induction k with
   | zero=>intro _;exact⟨[],rfl,j3,by simp[aft,dF.nil]⟩
   | succ k ih=>
    intro hk;obtain⟨l,h1,h2,h3⟩:=ih j1
    have hxk:=hx k j1
    rw[zda (show k<xs.length by omega)] at hxk
    obtain⟨d,h4,h4',h5⟩:=vi e u m _ _ hl' hp hxk;refine⟨l++[d],by simp[h1],λy hy=>?_,?_⟩
    ·rcases List.mem_append.1 hy with hy|hy
     ·exact h2 y hy
     ·rw[zKa.1 hy];exact⟨h4,h4'⟩
    ·have e1:cs.take ((k+1)*e.size)=cs.take (k*e.size)++(cs.drop (k*e.size)).take e.size:=by
      rw[zhb,zGc,List.take_add]
     rw[e1,cE];refine h3.append ?_;simpa [aft] using h5
  obtain⟨l,h1,h2,h3⟩:=key n (zka n);refine⟨.st l,⟨l,rfl,h1,λy hy=>(h2 y hy).1⟩,wP.2 λy hy=>(h2 y hy).2,?_⟩;rw[zgb (by rw[hlen];simp[Ty.size])] at h3
  exact h3
 | .sl e,T,fuel,cs,x,hl,hp,h=>by
  obtain⟨u,hu,hl'⟩:=jV hl;simp only[rF,zaa,zfa] at hp;rcases DataW.trod_slice hu h with⟨rfl,_⟩|⟨a,len,cap,elems,rest,m,_,rfl,_,hb,hlc,hcm,hel,hx,_,_⟩
  ·exact⟨.sl [],⟨[],rfl,j3⟩,⟨zqa _,trivial⟩,afk (afj (l:=[]) (b:=0) (off:=0) (.inl rfl) (zka _) ⟨[],dF.nil,j3⟩)⟩
  ·rw[lG hl'] at hx;by_cases h0:len=0
   ·subst h0;exact⟨.sl [],⟨[],rfl,j3⟩,⟨zqa _,trivial⟩,afk (afj (l:=[]) (b:=0) (off:=0) (.inl rfl) (zqa _) ⟨[],dF.nil,j3⟩)⟩
   ·have hsp:∃ b off,a=⟨b,off,none⟩:=by
     have:=hx 0 j1
     rw[zda (show 0<elems.length by omega)] at this
     obtain⟨cs',h1,_⟩:=Option.bind_eq_some_iff.1 this;obtain⟨_,h2,h3⟩:=World.cells?_some h1;have h4:=h3 0 hp.1;rw[zda (show 0<cs'.length by omega)] at h4
     have e0:(a.add (0*e.size)).add 0=a:=by simp[Addr.add]
     rw[e0] at h4;obtain⟨b,off,sp⟩:=a;cases sp with
     | none=>exact⟨b,off,rfl⟩
     | some s=>
      exfalso;unfold World.cell? at h4;split at h4
      ·simp at h4
      ·cases h4
    obtain⟨b,off,rfl⟩:=hsp;have key:∀ k,k<=len->∃ (l:List D) (cs:List Value),l.length=k/\(∀ y∈l,wt e y/\R5 y)/\dF W (rU W) (aft l) cs/\∀ j c,cs[j]?=some c->W.cell? ⟨b,off+j,none⟩=some c:=by
     intro k
     induction k with
     | zero=>intro _;exact⟨[],[],rfl,j3,dF.nil,j3⟩
     | succ k ih=>
      intro hk;obtain⟨l,cs,h1,h2,h3,h4⟩:=ih j1
      have hxk:=hx k j1
      rw[zda (show k<elems.length by omega)] at hxk
      obtain⟨cs',q1,q2⟩:=Option.bind_eq_some_iff.1 hxk;obtain⟨_,q3,q4⟩:=World.cells?_some q1;obtain⟨d,h5,h5',h6⟩:=vi e u m _ _ hl' hp.2 q2;have hn:av e=true:=aT e u hl';have hcl:cs.length=k*e.size:=by rw[<-h3.1,aP hn l (λy hy=>(h2 y hy).1),h1]
      refine⟨l++[d],cs++cs',by simp[h1],λy hy=>?_,?_,λj c hc=>?_⟩
      ·rcases List.mem_append.1 hy with hy|hy
       ·exact h2 y hy
       ·rw[zKa.1 hy];exact⟨h5,h5'⟩
      ·rw[cE];refine h3.append ?_;simpa [aft] using h6
      ·rcases zAa j cs.length with hj|hj
       ·rw[zBb hj] at hc;exact h4 j c hc
       ·rw[z2b hj] at hc;have hlt:j-cs.length<e.size:=by
         have:=(zra.1 hc).1;omega
        have:=q4 (j-cs.length) hlt;rw[hc] at this;rw[dI,dI] at this;rw[show off+k*e.size+(j-cs.length)=off+j by omega] at this
        exact this
    obtain⟨l,cs,h1,h2,h3,h4⟩:=key len (zka _);refine⟨.sl l,⟨l,rfl,λy hy=>(h2 y hy).1⟩,⟨j1,wP.2 λy hy=>(h2 y hy).2⟩,afk ?_⟩
    rw[<-h1];exact afj (b:=b) (off:=off) (.inr rfl) j1 ⟨cs,h3,λi c hc=>⟨by unfold rU;rw[h4 i c hc];rfl,h4 i c hc⟩⟩
 | .tup _,_,_,_,_,hl,_,_=>by simp[cd] at hl
 | .fn,_,_,_,_,hl,_,_=>by simp[cd] at hl
theorem Dl:∀ (ts:List Ty) (fs:List Field) (off:Nat) (cs:List Value) (n:Nat),gQ P ts fs off=true->AJ ts=true ->
  (∀ (i:Nat) (f:Field),fs[i]?=some f->∃ x:DataW H×List MemPlace,DataW.trod enc P W base spare held n f.type ((cs.drop f.offset).take (P.cellsOf f.type))=some x)->off+aga ts<=cs.length ->
  ∃ l,fY ts l/\AE l/\dF W (rU W) (aft l) ((cs.drop off).take (aga ts))
 | [],_,off,cs,n,_,_,_,_=>⟨[],rfl,trivial,by simp[aft,aga,dF.nil]⟩
 | t::ts,[],off,cs,n,h,_,_,_=>by simp[gQ] at h
 | t::ts,f::fs,off,cs,n,h,hp,hx,hle=>by
  simp only[gQ,zaa,zfa] at h;obtain⟨⟨⟨⟨h1,_⟩,h2⟩,h3⟩,h4⟩:=h;simp only[AJ,zaa] at hp;simp only[aga] at hle ⊢;obtain⟨x,hx0⟩:=hx 0 f rfl;rw[lG h3,h1] at hx0;obtain⟨d,q1,q1',q2⟩:=vi t f.type n _ _ h3 hp.1 hx0;obtain⟨l,q3,q3',q4⟩:=Dl ts fs (off+t.size) cs n h4 hp.2 (λi g hi=>hx (i+1) g (by simpa using hi)) j1
  refine⟨d::l,⟨d,l,rfl,q1,q3⟩,⟨q1',q3'⟩,?_⟩;rw[List.take_add,List.drop_drop];simp only[aft];exact q2.append q4
end
end
theorem ab.{u,v}{α:Type u}{β:Type v}{x:Option α}{f:α->Option β}{r:β}(h:x.bind f=some r):∃ a,x=some a/\f a=some r:=by
 cases x with
 | none=>cases h
 | some a=>exact⟨a,rfl,h⟩
def pQ{t b:Ty}{x:D}(h:AV.fits t (.d b x)=true):t=b:=by
 have a:t.beq b=true:=by simp_all [AV.fits]
 exact af7 _ _ a
def af6:∀ (t:Ty),t.beq t=true:=by
 intro t;exact(Ty.rec (motive_1:=λt=>t.beq t=true) (motive_2:=λl=>Ty.beqs l l=true)
  (λk=>by simp[Ty.beq]) rfl rfl (λl h=>by simpa [Ty.beq] using h) (λn t h=>by simp[Ty.beq,h]) (λt h=>by simpa [Ty.beq] using h) (λl h=>by simpa [Ty.beq] using h) rfl rfl
  (λt l h1 h2=>by simp[Ty.beqs,h1,h2]) t)
def ck(t:Ty)(x:D):AV.fits t (.d t x)=true:=by have:=af6 t;all_goals simp_all [AV.fits]
theorem sZ:∀ {d:List Ty} {l:List AV} {i:Nat} {a:AV},AV.fitss d l=true->l[i]?=some a->∃ t,d[i]?=some t/\AV.fits t a=true
 | _,[],_,_,_,h=>by simp at h
 | [],b::l,_,_,h,_=>by simp[AV.fitss] at h
 | u::d,b::l,i,a,h,c=>by
  simp only[AV.fitss,zaa] at h;cases i with
  | zero=>simp at c;subst c;exact⟨u,rfl,h.1⟩
  | succ i=>simp at c;obtain⟨t,h1,h2⟩:=sZ h.2 c;exact⟨t,by simpa using h1,h2⟩
theorem vZ:∀ {d:List Ty} {l:List AV} {i:Nat} {t:Ty},AV.fitss d l=true->d[i]?=some t->∃ a,l[i]?=some a/\AV.fits t a=true
 | [],_,_,_,_,h=>by simp at h
 | u::d,[],_,_,h,_=>by simp[AV.fitss] at h
 | u::d,b::l,i,a,h,c=>by
  simp only[AV.fitss,zaa] at h;cases i with
  | zero=>simp at c;subst c;exact⟨b,rfl,h.1⟩
  | succ i=>simp at c;obtain⟨t,h1,h2⟩:=vZ h.2 c;exact⟨t,by simpa using h1,h2⟩
theorem oE:∀ {c:List Ty} {l:List AV} {i:Nat} {t:Ty} {b:AV},AV.fitss c l=true->c[i]?=some t->AV.fits t b=true->AV.fitss c (l.set i b)=true
 | [],_,_,_,_,_,h,_=>by simp at h
 | u::c,[],_,_,_,h,_,_=>by simp[AV.fitss] at h
 | u::c,a::l,i,t,b,h,d,e=>by
  simp only[AV.fitss,zaa] at h;cases i with
  | zero=>simp at d;subst d;simp[AV.fitss,e,h.2]
  | succ i=>simp at d;simp only[List.set_cons_succ,AV.fitss,zaa];exact⟨h.1,oE h.2 d e⟩
theorem uK{c:Cx}:∀ {f:List Ty} {l:List AV} {cs:List Value} {i:Nat} {a:AV},AV.fitss f l=true->bG f=true->mq c l cs->l[i]?=some a ->
  ∃ pre mid post,cs=pre++(mid++post)/\pre.length=aga (f.take i)/\AC c a mid/\∀ b d,AC c b d->mq c (l.set i b) (pre++(d++post))
 | _,[],_,_,_,_,_,_,h=>by simp at h
 | [],b::l,_,_,_,h,_,_,_=>by simp[AV.fitss] at h
 | u::f,b::l,cs,i,a,hf,hn,h,e=>by
  simp only[AV.fitss,zaa] at hf;simp only[bG,zaa] at hn;simp only[mq] at h;obtain⟨c1,c2,rfl,h1,h2⟩:=h;cases i with
  | zero=> simp at e;subst e;exact⟨[],c1,c2,j3,by simp[aga],h1,λb d g=>by simp only[List.set_cons_zero,mq,zlc];exact⟨d,c2,rfl,g,h2⟩⟩
  | succ i=>
   simp at e;obtain⟨pre,mid,post,rfl,j,k,m⟩:=uK hf.2 hn.2 h2 e;refine⟨c1++pre,mid,post,by simp[zTa],?_,k,λb d g=>?_⟩
   ·simp only[zwa,zfc,aga,j,(jd b u c1 hf.1 h1).1]
   ·grind [mq,List.append_assoc]
def nY{a:List Ty}{i:Nat}{p:List Nat}{u:Ty}(h:ba (.st a) (i::p)=some u):∃ v,a[i]?=some v/\ba v p=some u:=by grind [ba]
def Fq{R:Type}{c:Cx}:∀ (p:List Nat) {T t:Ty} {a:AV} {cs:List Value} {K:AV->Option R} {r:R},AV.fits T a=true->av T=true->ba T p=some t->AC c a cs->Ag a p K=some r ->
  ∃ a' pre mid post,K a'=some r/\cs=pre++(mid++post)/\pre.length=bz T p/\AC c a' mid/\AV.fits t a'=true:=by
 intro p
 induction p with
 | nil=>
  intro T t a cs K r hf hn hp hc e;have hT:T=t:=by cases T<;>simpa [ba] using hp
  subst hT;refine⟨a,[],cs,[],?_,j3,by cases T<;>rfl,hc,hf⟩
  cases a<;>simpa [Ag] using e
 | cons i p ih=>
  intro T t a cs K r hf hn hp hc e;cases a<;>simp only[Ag] at e
  case d t' x=>
   have:=pQ hf;subst this;obtain⟨t2,h1,h2⟩:=ab e;obtain⟨y,h3,j⟩:=ab h2;rw[hp] at h1;cases h1;simp only[AC] at hc;obtain⟨m,A,B,n,s⟩:=jR (i::p) hc.1 hn hp h3;have f:=hc.2.2;rw[n] at f;obtain⟨k,o⟩:=f.split;obtain⟨q,u⟩:=o.split;refine⟨_,cs.take A.length,(cs.drop A.length).take y.flat.length,(cs.drop A.length).drop y.flat.length,j,by simp only[zya],?_,?_,ck _ _⟩
   ·rw[<-k.1];exact s
   ·simp only[AC];exact⟨m,eO _ hn hp,q⟩
  case st ts' l=>
   cases T<;>simp only[AV.fits] at hf<;>first|cases hf|skip
   rename_i w;simp only[zaa] at hf;obtain⟨a1,h1,h2⟩:=ab e;obtain⟨v,h3,j⟩:=nY hp;simp only[AC] at hc;simp only[av] at hn;obtain⟨v',f,k⟩:=sZ hf.2 h1;rw[h3] at f;cases f;obtain⟨pre,mid,post,rfl,m,n,_⟩:=uK hf.2 hn hc.2.2 h1;obtain⟨a',h,g,b,m1,rfl,m2,m3,m4⟩:=ih k (cu hn h3) j n h2;refine⟨a',pre++h,g,b++post,m1,by simp[zTa],?_,m3,m4⟩
   simp only[zwa,bz,m,m2];simp[List.getD,h3]
  all_goals cases e
def OM{R:Type}{c:Cx}:∀ (p:List Nat) {T t:Ty} {a b:AV} {cs j:List Value} {K:AV->Option R} {r:R},AV.fits T a=true->av T=true->ba T p=some t->AC c a cs->AC c b j->AV.fits t b=true->Ev a p b K=some r ->
  ∃ a' pre mid post,K a'=some r/\cs=pre++(mid++post)/\pre.length=bz T p/\mid.length=j.length/\AC c a' (pre++(j++post))/\AV.fits T a'=true:=by
 intro p
 induction p with
 | nil=>
  intro T t a b cs j K r hf hn hp hc f e g;have hT:T=t:=by simp_all [ba]
  subst hT;refine⟨b,[],cs,[],?_,j3,by cases T<;>rfl,?_,by simpa using f,e⟩
  ·simp_all [Ev]
  ·rw[(jd _ _ _ hf hc).1,(jd _ _ _ e f).1]
 | cons i p ih=>
  intro T t a b cs j K r hf hn hp hc f e g;cases a<;>simp only[Ev] at g
  case d t' x=>
   have:=pQ hf;subst this;cases b<;>simp only at g<;>first|cases g|skip
   rename_i u y;have:=pQ e;subst this;obtain⟨M,h3,q⟩:=ab g;simp only[AC] at hc f;obtain⟨w,A,C,B,z,D,I,J⟩:=rK (i::p) hc.1 hn hp h3 f.1;have k:=hc.2.2;rw[z] at k;obtain⟨o,F⟩:=k.split;obtain⟨G,H⟩:=F.split;refine⟨_,cs.take A.length,(cs.drop A.length).take C.length,(cs.drop A.length).drop C.length,q,by simp only[zya],?_,?_,?_,ck _ _⟩
   ·rw[<-o.1];exact I
   ·rw[<-G.1,J,<-f.2.2.1,cU _ _ f.1 f.2.1]
   ·simp only[AC];refine⟨w,hn,?_⟩;rw[D];exact o.append (f.2.2.append H)
  case st ts' l=>
   cases T<;>simp only[AV.fits] at hf<;>first|cases hf|skip
   rename_i L;simp only[zaa] at hf;obtain⟨a1,h1,h2⟩:=ab g;obtain⟨v,h3,q⟩:=nY hp;simp only[AC] at hc;simp only[av] at hn;obtain⟨v',k,o⟩:=sZ hf.2 h1;rw[h3] at k;cases k;obtain⟨pre,mid,post,rfl,w,z,D⟩:=uK hf.2 hn hc.2.2 h1;obtain⟨a',n,m,h,m1,rfl,m2,E,m3,m4⟩:=ih o (cu hn h3) q z f e h2;have s:=af8 _ _ hf.1;subst s;refine⟨_,pre++n,m,h++post,m1,by simp[zTa],?_,E,?_,?_⟩
   ·simp only[zwa,bz,w,m2];simp[List.getD,h3]
   ·simp only[AC];refine⟨hn,oE hf.2 h3 m4,?_⟩;have:=D _ _ m3;simpa [zTa] using this
   ·simp only[AV.fits,zaa];exact⟨hf.1,oE hf.2 h3 m4⟩
  all_goals cases g
mutual
theorem tL{c:Cx}{ob:Nat->Option Ob}:∀ (a:AV) (t:Ty) (cs:List Value) (x:D),afi ob t a=some x->AC c a cs->wt t x/\dF c.w c.S x.flat cs/\(∀ v,ia t cs v->av t=true->gY c.w c.S x v)
 | .d t' x',t,cs,x,h,hc=>by
  have h':t.beq t'=true/\x'=x:=by cases t<;>simpa [afi] using h
  obtain⟨h1,rfl⟩:=h';have:=af7 _ _ h1;subst this;simp only[AC] at hc;exact⟨hc.1,hc.2.2,λv hv hn=>⟨vp hc.1 hc.2.1 hv.2,by rw[hv.1];exact hc.2.2⟩⟩
 | .own t' v l,t,cs,x,h,hc=>by
  have h':t.beq (.sl t')=true/\D.sl l=x:=by cases t<;>simpa [afi] using h
  obtain⟨h1,rfl⟩:=h';have:=af7 _ _ h1;subst this;simp only[AC] at hc;obtain⟨k1,k2,a,cap,rfl,k3,_⟩:=hc;have hw:wt (.sl t') (.sl l):=by simp only[wt];exact⟨l,rfl,k2⟩
  exact⟨hw,dF.single.2 k3,λv hv hn=>⟨vp hw hn hv.2,by rw[hv.1];exact dF.single.2 k3⟩⟩
 | .nils,t,cs,x,h,hc=>by
  cases t<;>simp only[afi] at h<;>first|cases h|skip
  simp only[AC] at hc;subst hc;have hw:∀ t,wt (.sl t) (.sl []):=λt=>by simp only[wt];exact⟨[],rfl,λx hx=>by simp at hx⟩
  have hr:dF c.w c.S [D.sl []] [.slice none 0 0]:=dF.single.2 (.sl [] none 0 0 0 (λ_=>undef) (.inl rfl) (zka 0) (λi d hd=>by simp[aft] at hd) (λi d hd=>by simp[aft] at hd))
  exact⟨hw _,hr,λv hv hn=>⟨vp (hw _) hn hv.2,by rw[hv.1];exact hr⟩⟩
 | .st ts' l,t,cs,x,h,hc=>by
  simp only[afi] at h;split at h
  ·rename_i hb;have:=af7 _ _ hb;subst this;obtain⟨xs,h1,h2⟩:=ab h;simp only[zea] at h2;subst h2;simp only[AC] at hc;obtain⟨k1,k2⟩:=Gp l ts' cs xs h1 hc.2.2;have hw:wt (.st ts') (.st xs):=by simp only[wt];exact⟨xs,rfl,k1⟩
   exact⟨hw,k2,λv hv hn=>⟨vp hw hn hv.2,by rw[hv.1];exact k2⟩⟩
  ·cases h
 | .ptr ..,t,_,_,h,_=>by cases t<;>simp[afi] at h
 | .fptr ..,t,_,_,h,_=>by cases t<;>simp[afi] at h
 | .mem ..,t,_,_,h,_=>by cases t<;>simp[afi] at h
 | .clo ..,t,_,_,h,_=>by cases t<;>simp[afi] at h
 | .sub ..,t,_,_,h,_=>by cases t<;>simp[afi] at h
 | .gone,t,_,_,h,_=>by cases t<;>simp[afi] at h
 | .undef,t,_,_,h,_=>by cases t<;>simp[afi] at h
theorem Gp{c:Cx}{ob:Nat->Option Ob}:∀ (l:List AV) (ts:List Ty) (cs:List Value) (xs:List D),AV.toDl ob ts l=some xs->mq c l cs->fY ts xs/\dF c.w c.S (aft xs) cs
 | [],ts,cs,xs,h,hc=>by
  cases ts<;>simp only[AV.toDl] at h<;>first|cases h|skip
  simp only[mq] at hc;subst hc;exact⟨by simp[fY],dF.nil⟩
 | a::l,ts,cs,xs,h,hc=>by
  cases ts<;>simp only[AV.toDl] at h<;>first|cases h|skip
  rename_i t ts;obtain⟨x,h1,h2⟩:=ab h;obtain⟨ys,h3,h4⟩:=ab h2;simp only[zea] at h4;subst h4;simp only[mq] at hc;obtain⟨c1,c2,rfl,k1,k2⟩:=hc;obtain⟨m1,m2,_⟩:=tL a t c1 x h1 k1;obtain⟨m3,m4⟩:=Gp l ts c2 ys h3 k2;exact⟨by simp only[fY];exact⟨x,ys,rfl,m1,m3⟩,by simp only[aft];exact m2.append m4⟩
end
mutual
theorem xo{ob:Nat->Option Ob}:∀ (a:AV) (t:Ty) (x:D),afi ob t a=some x->AV.fits t a=true
 | .d t' x',t,x,h=>by simp_all [afi,AV.fits]
 | .own t' v l,t,x,h=>by
  have h':t.beq (.sl t')=true/\D.sl l=x:=by cases t<;>simpa [afi] using h
  have:=af7 _ _ h'.1;subst this;simp[AV.fits,af6]
 | .nils,t,x,h=>by cases t<;>first|rfl|(simp only[afi] at h;cases h)
 | .st ts' l,t,x,h=>by
  simp only[afi] at h;split at h
  ·rename_i hb;have:=af7 _ _ hb;subst this;obtain⟨xs,h1,h2⟩:=ab h;simp only[AV.fits,zaa];exact⟨by have:=af6 (.st ts');simpa [Ty.beq] using this,zx l ts' xs h1⟩
  ·cases h
 | .ptr ..,t,_,h=>by cases t<;>simp[afi] at h
 | .fptr ..,t,_,h=>by cases t<;>simp[afi] at h
 | .mem ..,t,_,h=>by cases t<;>simp[afi] at h
 | .clo ..,t,_,h=>by cases t<;>simp[afi] at h
 | .sub ..,t,_,h=>by cases t<;>simp[afi] at h
 | .gone,t,_,h=>by cases t<;>simp[afi] at h
 | .undef,t,_,h=>by cases t<;>simp[afi] at h
theorem zx{ob:Nat->Option Ob}:∀ (l:List AV) (ts:List Ty) (xs:List D),AV.toDl ob ts l=some xs->AV.fitss ts l=true
 | [],ts,xs,h=>by cases ts<;>first|rfl|(simp only[AV.toDl] at h;cases h)
 | a::l,ts,xs,h=>by
  cases ts<;>simp only[AV.toDl] at h<;>first|cases h|skip
  rename_i t ts;obtain⟨x,h1,h2⟩:=ab h;obtain⟨ys,h3,h4⟩:=ab h2;simp only[AV.fitss,zaa];exact⟨xo a t x h1,zx l ts ys h3⟩
end
def pE{c:Cx}{ob:Nat->Option Ob}{t:Ty}{a:AV}{v:Value}{x:D}(hn:av t=true)(h:AR c a v)(hx:afi ob t a=some x):wt t x/\gY c.w c.S x v:=by
 obtain⟨h1,h2⟩:=Bo (xo a t x hx) hn h;obtain⟨h3,_,b⟩:=tL a t _ x hx h1
 simp_all
def eC{c:Cx}{t:Ty}{x:D}{v:Value}(hn:av t=true)(hw:wt t x)(h:gY c.w c.S x v):AR c (.d t x) v:=by simp_all [AR]
def Bp{c:Cx}{t:Ty}{x:D}{v:Value}(h:AR c (.d t x) v)(hn:av t=true):wt t x/\gY c.w c.S x v:=by all_goals grind [AR,av]
def fU{c:Cx}{t:Ty}{k:IntKind}{n:Int}{v:Value}(h:AR c (.d t (.int k n)) v):v=.int k n/\t=.int k:=by
 simp only[AR] at h;rcases h with⟨h1,h2,h3⟩|⟨b,rfl,_,h2,_⟩
 ·refine⟨h3.int_inv,?_⟩;cases t<;>simp only[wt] at h2<;>first
   | (obtain⟨m,a⟩:=h2;cases a;rfl)
   | (obtain⟨m,a,_⟩:=h2;cases a)
   | (obtain⟨m,a⟩:=h2;cases a)
 ·simp_all [wt]
def EN{c:Cx}{t:Ty}{n:Bool}{v:Value}(h:AR c (.d t (.bool n)) v):v=.bool n:=by
 simp only[AR] at h;rcases h with⟨h1,h2,h3⟩|⟨a,rfl,_,h2,_⟩
 ·exact h3.bool_inv
 ·simp_all [wt]
def dc{c:Cx}(k:IntKind)(n:Int):AR c (.d (.int k) (.int k n)) (.int k n):=
 eC rfl (by simp only[wt];exact⟨n,rfl⟩) (afC (.int k n))
def ib{c:Cx}(b:Bool):AR c (.d .bool (.bool b)) (.bool b):=
 eC rfl (by simp only[wt];exact⟨b,rfl⟩) (afC (.bool b))
def ft(P:Program)(o:Oper)(a:Act)(w:World)(K:Value->World->Prop):Prop:=
 match (execOp a.eval o).run P w with
 | .ok (.value v) w'=>K v w'
 | .ok .skip w'=>K undef w'
 | .ok (.enter f args) w'=>Calls P f args w' λe b=>∃ v,e=.returned v/\K v b
 | _=>False
variable{ro:Option Nat}{nn:Nat}
def ft.plain{P:Program}{o:Oper}{a:Act}{w:World}{K:Value->World->Prop}(h:ft P o a w K)(c:Call):o.op≠.defer c:=by
 intro hc;unfold ft at h;obtain⟨dst,op,ty,pos,after,guard⟩:=o;simp only at hc;subst hc;have e:execOp a.eval ⟨dst,.defer c,ty,pos,after,guard⟩=(resolve a.eval c ty >>= λd=>pure (Next.defer d)):=rfl;rw[e,zma] at h;cases hr:(resolve a.eval c ty).run P w with
 | ok d w'=>rw[hr] at h;exact h
 | halt x w'=>rw[hr] at h;exact h
def BD{P:Program}{f:FuncId}{args:Array Value}{w:World}{R:Ending->World->Prop}{m:Nat}(h:Calls P f args w R):CallsIn (FW ro) m P f args w R:=by
 have h1:CallsIn Fence.wide m P f args w R:=callsIn_wide.2 h;cases ro with
 | none=>exact h1
 | some l=>exact CallsIn.inRound l h1
def bO{P:Program}{o:Oper}{a:Act}{w:World}{K:Value->World->Prop}{next:Act->World->Prop}{Q:Exit->Act->World->Prop}(h:ft P o a w K)(hk:∀ v w',K v w'->next (a.put o.dst v) w'):o.wpIn (FW ro) nn P a w next Q:=by
 refine⟨λ_ _=>trivial,?_⟩;rw[Oper.semAt_eq _ _ _ h.plain];unfold ft at h;generalize (execOp a.eval o).run P w=r at *;cases r with
 | ok n w'=>
  cases n<;>simp only at h<;>simp only[Oper.uponIn]
  case value v=>exact hk _ _ h
  case skip=>exact hk _ _ h
  case enter f args=>exact⟨λb=>(by cases b),BD (h.mono λe d ⟨v,he,c⟩=>by subst he;exact hk _ _ c)⟩
 | halt x w'=>simp only at h
def zS{P:Program}{f:FuncId}{fn:Func}{c:Code}{args:Array Value}{w:World}{R:Ending->World->Prop}(hf:P.funcs[f]?=some fn)(a:fn.body=some c)
  (h:c.wpIn (FW none) 0 P (bodyPost P fn R) { tmps:=args++Array.replicate (fn.ntmps-args.size) undef,defers:=[] } w):Calls P f args w R:=
 calls_of_wp hf a (wpIn_wide.1 h)
section
variable{P:Program}{Q:Exit->Act->World->Prop}{a:Act}{w:World}{F:Fence}{n:Nat}
theorem kf{md:Region.Mode}{ops:Array Oper}{Q':Exit->Act->World->Prop}:∀ (l:List Oper) (k:Nat) (listed:Array Bool) (a:Act) (w:World),(∀ j,l[j]?=ops[k+j]?) ->
  Region.seqB md ops l.length k listed=true->wpListIn F n P ops Q' l a w->wpAnyIn F n P md ops Q' l.length listed a w
 | [],_,_,_,_,_,b,h=>⟨by simpa [Region.seqB] using b,h⟩
 | o::l,k,listed,a,w,hl,b,h=>by
  have h0:ops[k]?=some o:=by simpa using(hl 0).symm
  simp only[zQa,Region.seqB,zaa,zfa] at b;refine⟨λh1=>(by rw[b.1] at h1;cases h1),λi d=>?_⟩
  rw[b.1] at d;have c:i=k:=by simpa using d
  subst c;have hw:wpOpIn F n P ops Q' i (wpListIn F n P ops Q' l) a w:=by unfold wpOpIn;simp only[h0];exact h
  exact wpOpIn_mono (λa' w' e=>kf l (i+1) _ a' w' (λj=>by have:=hl (j+1);simpa [zVb,z4c 1 j] using this) b.2 e) hw
def gG{b:Frame}{k:List Item}{cs:List Frame}{c:Code}:step P (lone (b.atR a (.code (.scope c)::k)) cs w)=.next (lone (b.atR a (.code c::.inScope c::k)) cs w):=
 step_lone_go (by simp[stepG,stepG.exec,Frame.atR])
def xT{b:Frame}{k:List Item}{cs:List Frame}{c:Code}:step P (lone (b.atR a (.inScope c::k)) cs w)=.next (lone (b.atR a k) cs w):=
 step_lone_go (by simp[stepG,stepG.exec,Frame.atR])
def pg{c:Code}(h:c.wpIn F n P (Exit.noGoto Q) a w):(Code.scope c).wpIn F n P Q a w:=by
 intro b k cs p j m;have h0:(lone (b.atR a (.code (.scope c)::k)) cs w).fenced P F:=fenced_calm j m rfl;obtain⟨e,g,i,hq,d⟩:=h b (.inScope c::k) cs p j m;cases e with
 | normal=>exact⟨.normal,g,i,hq,.head h0 gG (StepsIn.trans d (.one (fenced_calm j m rfl) xT))⟩
 | exit f=>
  have hx:exitTo f (.inScope c::k)=exitTo f k:=by simp[exitTo]
  exact⟨.exit f,g,i,hq,λq hk=>.head h0 gG (d.1 q (by rw[hx];exact hk)),
   λo hk=>let ⟨k₁,h1,h2⟩:=d.2 o (by rw[hx];exact hk);⟨k₁,h1,.head h0 gG h2⟩⟩
 | goto l=>exact hq.elim
 | ret=>exact⟨_,g,i,hq,.of_steps (.one h0 gG) d⟩
 | panic r=>exact⟨_,g,i,hq,.of_steps (.one h0 gG) d⟩
 | outgrown=>exact⟨_,g,i,hq,.of_steps (.one h0 gG) d⟩
def zF{c:Code}(J:Nat->Act->World->Prop){m:Nat}(y:J m a w)
  (round:∀ m a w,J m a w->c.wpIn F n P (Exit.then (λa' w'=>∃ i,i<m/\J i a' w') Q) a w):(Code.loop c).wpIn F n P Q a w:=by
 intro b k cs s o r;have key:∀ m a w,J m a w->∃ e a' w',Q e a' w'/\ArrivesIn (Machine.fenced P F) P (lone (b.atR a (.code c::.inLoop c::k)) cs w) b k cs e a' w':=by
  intro m
  induction m using Nat.strongRecOn with
  | _ m ih=>
   intro a w v;obtain⟨e,g,h,hq,d⟩:=round m a w v b (.inLoop c::k) cs s o r;cases e with
   | normal=> obtain⟨i,p,j⟩:=hq;obtain⟨u,t,z,q,f⟩:=ih i p g h j;exact⟨u,t,z,q,.of_steps (StepsIn.trans d (.one (fenced_calm o r rfl) stepR_inLoop)) f⟩
   | exit id=>exact⟨_,g,h,hq,.pass (x:=.inLoop c) rfl (λ_ _=>.inl j3) d⟩
   | goto l=>exact⟨_,g,h,hq,.pass (x:=.inLoop c) rfl (λ_ _=>.inl j3) d⟩
   | ret=>exact⟨_,g,h,hq,.pass (x:=.inLoop c) rfl (λ_ _=>.inl j3) d⟩
   | panic A=>exact⟨_,g,h,hq,.pass (x:=.inLoop c) rfl (λ_ _=>.inl j3) d⟩
   | outgrown=>exact⟨_,g,h,hq,.pass (x:=.inLoop c) rfl (λ_ _=>.inl j3) d⟩
 obtain⟨e,a',w',hq,d⟩:=key m a w y;exact⟨e,a',w',hq,.of_steps (.one (fenced_calm o r rfl) stepR_loop) d⟩
end
theorem ft.value{P:Program}{o:Oper}{a:Act}{w w':World}{v:Value}{K:Value->World->Prop}(h:(execOp a.eval o).run P w=.ok (.value v) w')(hk:K v w'):ft P o a w K:=by simp_all [ft]
theorem ft.skip{P:Program}{o:Oper}{a:Act}{w w':World}{K:Value->World->Prop}(h:(execOp a.eval o).run P w=.ok .skip w')(hk:K undef w'):ft P o a w K:=by simp_all [ft]
theorem ft.enter{P:Program}{o:Oper}{a:Act}{w w':World}{f:FuncId}{args:Array Value}{K:Value->World->Prop}(h:(execOp a.eval o).run P w=.ok (.enter f args) w')(hk:Calls P f args w' λe b=>∃ v,e=.returned v/\K v b):ft P o a w K:=by simp_all [ft]
theorem ft.mono{P:Program}{o:Oper}{a:Act}{w:World}{K K':Value->World->Prop}(h:ft P o a w K)(hk:∀ v w',K v w'->K' v w'):ft P o a w K':=by
 unfold ft at *;generalize (execOp a.eval o).run P w=r at *;cases r with
 | ok n w'=>
  cases n<;>simp only at h ⊢
  case value v=>exact hk _ _ h
  case skip=>exact hk _ _ h
  case enter f args=>exact h.mono λe c ⟨v,he,b⟩=>⟨v,he,hk _ _ b⟩
 | halt x w'=>simp only at h
section
variable{w0:Root}{S:Nat->Nat->Prop}{γ:Nat->Option Nat}{β:Nat->Option (Nat×Nat)}{s:St}{a:Act}{w:World}
def bo(h:Rp w0 S γ β s a w):∀ x:Operand,AR ⟨w,S,γ,β,s.ob,s.dead⟩ (s.opA x) (a.eval x)
 | .tmp t=>by
  simp only[St.opA,Act.eval];by_cases ht:t<a.tmps.size
  ·exact h.tms t ht
  ·rw[h.tmu t (h.nt ▸ Nat.le_of_not_lt ht)];simp[AR]
 | .const v=>by
  simp only[St.opA,Act.eval];cases v<;>simp only[I1]<;>first
   | exact dc _ _
   | exact ib _
   | exact eC rfl (by simp only[wt];exact⟨_,rfl⟩) (afC (.str _))
   | (simp only[AR];done)
   | skip
  case slice a len cap=>
   match a,len,cap with
   | none,0,0=>simp[AR,AC,Value.cells]
   | some _,_,_=>simp only[AR]
   | none,_+1,_=>simp only[AR]
   | none,0,_+1=>simp only[AR]
 | .global g=>by simp[St.opA,AR]
 | .func f=>by simp only[St.opA,AR,AC];exact⟨λ_ h=>(by cases h),[],rfl,by simp only[ph]⟩
theorem Rp.put(h:Rp w0 S γ β s a w){v:AV}{val:Value}(d:AR ⟨w,S,γ,β,s.ob,s.dead⟩ v val)(dst:Option Nat):Rp w0 S γ β (s.put dst v) (a.put dst val) w:=by
 cases dst with
 | none=>simpa [St.put,Act.put] using h
 | some t=>
  simp only[St.put,Act.put];by_cases ht:t<s.nt
  ·rw[zja ht];refine⟨h.ext,λi b=>?_,by simpa using h.nt,λi b=>?_,h.obs,h.γn,h.γi,h.γf,h.βn,h.βi,h.βγ,h.βf,h.Sb,h.So⟩
   ·simp only[Array.size_setIfInBounds] at b;by_cases hit:i=t
    ·subst hit;simp only[if_true];rw[show(a.tmps.setIfInBounds i val).getD i undef=val by simp[Array.getD,b]]
     exact d
    ·simp only[zia hit];have:=h.tms i b
     rwa [show(a.tmps.setIfInBounds t val).getD i undef=a.tmps.getD i undef by simp[Array.getD,b,Array.getElem_setIfInBounds_ne b (Ne.symm hit)]]
   ·have c:s.nt<=i:=b;show(if i=t then v else s.tm i)=_
    rw[zia j1];exact h.tmu i c
  ·rw[zia ht];have:a.tmps.setIfInBounds t val=a.tmps:=by
    apply Array.setIfInBounds_eq_of_size_le;rw[h.nt];omega
   rw[this];exact h
def Ap{w':World}{S':Nat->Nat->Prop}{γ':Nat->Option Nat}{β':Nat->Option (Nat×Nat)}{ob:Nat->Option Ob}{dead:List Nat}
  (hc:∀ b o,S b o->w'.cell? ⟨b,o,none⟩=w.cell? ⟨b,o,none⟩) (c:∀ b o,S b o->S' b o) (g:∀ id b,γ id=some b->γ' id=some b)
  (f:∀ v b e,v ∉ dead->β v=some (b,e)->β' v=some (b,e)/\∀ n,n8 w b=some n->n8 w' b=some n):Cx.le ⟨w,S,γ,β,ob,dead⟩ ⟨w',S',γ',β',ob,dead⟩:=
 ⟨hc,c,g,λid o d _=>⟨o,d,λp=>⟨rfl,rfl⟩,λt l e=>⟨l,e,rfl⟩,λ_ _ l e=>⟨l,e⟩⟩,λv a=>⟨a,λb e he=>f v b e a he⟩⟩
def eD{os:List Obj}{d:Nat}{b o:Nat}(h:b<w.heap.size):(grown w os d).cell? ⟨b,o,none⟩=w.cell? ⟨b,o,none⟩:=by simp only[World.cell?,dm w os d h]
def zl{os:List Obj}{d:Nat}{b:Nat}(h:b<w.heap.size):n8 (grown w os d) b=n8 w b:=by simp only[n8,cg,dm w os d h]
theorem jI.mono{c c':Cx}(h:c.le c'){a vt:Ty}:∀ {j:Nat} {l:List D} {es:List MapEntry},jI c a vt j l es->jI c' a vt j l es
 | _,[],[],_=>trivial
 | _,[],_::_,k=>k.elim
 | _,_::_,[],k=>k.elim
 | j,x::l,e::es,k=>by simp only[jI] at k ⊢;obtain⟨⟨f,d,p,g,i,m,n,o⟩,b⟩:=k;exact⟨⟨f,d,p,g,i,m,n.mono h.cell h.S,o.mono h.cell h.S⟩,jI.mono h b⟩
theorem jI.same{c c':Cx}(hw:c'.w=c.w)(a:c'.S=c.S){b vt:Ty}:∀ {j:Nat} {l:List D} {es:List MapEntry},jI c b vt j l es->jI c' b vt j l es
 | _,[],[],_=>trivial
 | _,[],_::_,k=>k.elim
 | _,_::_,[],k=>k.elim
 | j,x::l,e::es,k=>by simp only[jI] at k ⊢;rw[hw,a];exact⟨k.1,jI.same hw a k.2⟩
theorem gM.mono{c c':Cx}(h:c.le c'){b:Nat}{o:Ob}(q:c'.w.heap[b]?=c.w.heap[b]?)(n:∀ o,c'.S b o->c.S b o)(k:gM c b o):gM c' b o:=by
 have e:cg c'.w b=cg c.w b:=by simp only[cg,q]
 cases o<;>simp only[gM] at k ⊢
 case one t v=> obtain⟨f,g,j,cs,a,m,s⟩:=k;exact⟨f,g,λo d=>j o (n o d),cs,by rw[e];exact a,AC.mono h _ _ m,s⟩
 case many t l=> obtain⟨f,g,j,cs,a,m⟩:=k;exact⟨f,g,λo d=>j o (n o d),cs,by rw[e];exact a,m.mono h.cell h.S⟩
 case mp kt vt l=> obtain⟨f,g,j,es,a,m⟩:=k;exact⟨f,g,λo d=>j o (n o d),es,by rw[q];exact a,m.mono h⟩
 case lp i p=> obtain⟨r,a,m,s,u⟩:=k;exact⟨r,by rw[q];exact a,m,λt ht=>(s t ht).mono h.cell h.S h.γ,u⟩
 case fv v=> obtain⟨f,x,g,j,a⟩:=k;exact⟨λo d=>f o (n o d),x,by rw[e];exact g,j.mono h.cell h.S h.γ,a⟩
def Rp.grow(h:Rp w0 S γ β s a w){os:List Obj}{d:Nat}(r:w.drawn<=d){S':Nat->Nat->Prop}(q:∀ b o,S b o->S' b o)(g:∀ b o,S' b o->S b o\/(w.heap.size<=b/\b<(grown w os d).heap.size)) :
  Rp w0 S' γ β s a (grown w os d)/\Cx.le ⟨w,S,γ,β,s.ob,s.dead⟩ ⟨grown w os d,S',γ,β,s.ob,s.dead⟩:=by
 have m:w.heap.size<=(grown w os d).heap.size:=j3
 have hle:Cx.le ⟨w,S,γ,β,s.ob,s.dead⟩ ⟨grown w os d,S',γ,β,s.ob,s.dead⟩:=
  Ap (λb o c=>eD (h.Sb b o c)) q (λ_ _ k=>k) (λv b e p he=>⟨he,λn hn=>by rw[zl (h.βn v b e p he).2.1];exact hn⟩)
 refine⟨⟨?_,λt ht=>(h.tms t ht).mono hle,h.nt,h.tmu,λid o b u c=>?_,λid b c=>⟨(h.γn id b c).1,by have:=(h.γn id b c).2;omega⟩,h.γi,h.γf,λv b e p he=>?_,h.βi,h.βγ,h.βf,λb o c=>?_,λb o c j=>?_⟩,hle⟩
 ·exact⟨h.ext.tape,h.ext.os,h.ext.output,zHa h.ext.sz m,zHa h.ext.dr r,λb c=>(dm w os d (zZa c.1 h.ext.sz)).trans (h.ext.old b c)⟩
 ·have l:=(h.γn id b c).2;refine(h.obs id o b u c).mono hle (dm w os d l) λi x=>?_;all_goals grind
 ·obtain⟨y,z,A⟩:=h.βn v b e p he;all_goals grind
 ·rcases g b o c with k|k
  ·have:=h.Sb b o k;omega
  ·exact k.2
 ·rcases g b o c with k|k
  ·exact h.So b o k j
  ·exfalso;have:=h.ext.sz;have h2:=j.1;omega
def qg{α:Type}(f:Nat->Option α)(i:Nat)(x:α):Nat->Option α:=λj=>if j=i then some x else f j
def bX{α:Type}(f:Nat->Option α)(i:Nat)(x:α):qg f i x i=some x:=by simp[qg]
def cw{α:Type}(f:Nat->Option α){i j:Nat}(x:α)(h:j≠i):qg f i x j=f j:=by simp[qg,h]
def fI{α:Type}{f:Nat->Option α}{i:Nat}{x:α}(h:f i=none){j:Nat}{y:α}(a:f j=some y):qg f i x j=some y:=by
 by_cases e:j=i
 ·simp_all
 ·rw[cw f x e,a]
def Rp.newOb(h:Rp w0 S γ β s a w){id b:Nat}(hid:γ id=none)(p:¬ w0.Old b)(q:b<w.heap.size)(m:∀ id,γ id≠some b)(y:∀ v e,v ∉ s.dead->β v≠some (b,e))(x:id<s.base+4096)
  (u:∀ o,s.ob id=some o->gM ⟨w,S,qg γ id b,β,s.ob,s.dead⟩ b o):Rp w0 S (qg γ id b) β s a w/\Cx.le ⟨w,S,γ,β,s.ob,s.dead⟩ ⟨w,S,qg γ id b,β,s.ob,s.dead⟩:=by
 have hle:Cx.le ⟨w,S,γ,β,s.ob,s.dead⟩ ⟨w,S,qg γ id b,β,s.ob,s.dead⟩:=
  Ap (λ_ _ _=>rfl) (λ_ _ k=>k) (λ_ _ k=>fI hid k) (λv b e l he=>⟨he,λn hn=>hn⟩)
 refine⟨⟨h.ext,λt ht=>(h.tms t ht).mono hle,h.nt,h.tmu,λi o c r hc=>?_,λi c hc=>?_,λi j c hc d=>?_,λi g=>?_,h.βn,h.βi,λv i c e l he hc=>?_,h.βf,h.Sb,h.So⟩,hle⟩
 ·by_cases e:i=id
  ·simp_all [bX]
  ·rw[cw γ b e] at hc;exact(h.obs i o c r hc).mono hle rfl λ_ k=>k
 ·by_cases e:i=id
  ·simp_all [bX]
  ·rw[cw γ b e] at hc;exact h.γn i c hc
 ·by_cases e:i=id
  ·by_cases e':j=id
   ·rw[e,e']
   ·subst e;rw[bX] at hc;cases hc;rw[cw γ b e'] at d;exact z4a d (m j)
  ·by_cases e':j=id
   ·subst e';rw[bX] at d;cases d;rw[cw γ b e] at hc;exact z4a hc (m i)
   ·rw[cw γ b e] at hc;rw[cw γ b e'] at d;exact h.γi i j c hc d
 ·rw[cw γ b j1];exact h.γf i g
 ·by_cases e':i=id
  ·simp_all [bX]
  ·rw[cw γ b e'] at hc;exact h.βγ v i c e l he hc
def Rp.newTok(h:Rp w0 S γ β s a w){v b e:Nat}(x:β v=none)(p:¬ w0.Old b)(q:b<w.heap.size)(B:∀ id,γ id≠some b)(A:∀ v e,v ∉ s.dead->β v≠some (b,e))(l:v<s.base+4096)(z:∀ o,e<=o->¬ S b o) :
  Rp w0 S γ (qg β v (b,e)) s a w/\Cx.le ⟨w,S,γ,β,s.ob,s.dead⟩ ⟨w,S,γ,qg β v (b,e),s.ob,s.dead⟩:=by
 have hle:Cx.le ⟨w,S,γ,β,s.ob,s.dead⟩ ⟨w,S,γ,qg β v (b,e),s.ob,s.dead⟩:=
  Ap (λ_ _ _=>rfl) (λ_ _ k=>k) (λ_ _ k=>k) (λv b e y he=>⟨fI x he,λn hn=>hn⟩)
 refine⟨⟨h.ext,λt ht=>(h.tms t ht).mono hle,h.nt,h.tmu,λi o c r hc=>(h.obs i o c r hc).mono hle rfl λ_ k=>k,h.γn,h.γi,h.γf,λu c f hu hc=>?_,λu j c f m hu g hc d=>?_,λu i c f hu hc l=>?_,λu hu=>?_,h.Sb,h.So⟩,hle⟩
 ·by_cases e':u=v
  ·simp_all [bX]
  ·rw[cw β _ e'] at hc;exact h.βn u c f hu hc
 ·by_cases e1:u=v
  ·by_cases e2:j=v
   ·rw[e1,e2]
   ·simp_all [bX,cw,e2]
  ·by_cases e2:j=v
   ·simp_all [bX,cw,e1]
   ·rw[cw β _ e1] at hc;rw[cw β _ e2] at d;exact h.βi u j c f m hu g hc d
 ·by_cases e':u=v
  ·simp_all [bX]
  ·rw[cw β _ e'] at hc;exact h.βγ u i c f hu hc l
 ·rw[cw β _ j1];exact h.βf u hu
end
def Qp(w0:Root)(S:Nat->Nat->Prop)(γ:Nat->Option Nat)(β:Nat->Option (Nat×Nat))(s:St)(a:Act)(w:World)(dst:Option Nat)(v:AV)(val:Value)(w':World):Prop:=
 ∃ S' γ' β',Rp w0 S' γ' β' s a w'/\AR ⟨w',S',γ',β',s.ob,s.dead⟩ v val/\(∀ b o,S b o->S' b o)/\(∃ os d,w'=grown w os d) ∧
  (∀ id b,γ id=some b->γ' id=some b)/\(∀ id,dst≠some (id-s.base)\/id<s.base->γ' id=γ id/\β' id=β id)
section
variable{w0:Root}{S:Nat->Nat->Prop}{γ:Nat->Option Nat}{β:Nat->Option (Nat×Nat)}{s:St}{a:Act}{w:World}
def Qp.same(h:Rp w0 S γ β s a w){v:AV}{val:Value}(b:AR ⟨w,S,γ,β,s.ob,s.dead⟩ v val)(dst:Option Nat):Qp w0 S γ β s a w dst v val w:=
 ⟨S,γ,β,h,b,λ_ _ k=>k,⟨[],_,(GU w).symm⟩,λ_ _ k=>k,λ_ _=>⟨rfl,rfl⟩⟩
end
end Sy
end
noncomputable section
namespace Sy
open Go
def Fr(E:Env)(s:St)(γ:Nat->Option Nat)(β:Nat->Option (Nat×Nat))(o:Oper):Prop:=
 zV o=true->∀ d:Nat,o.dst=some d->d<4096/\γ (s.base+d)=none/\β (s.base+d)=none/\∀ T x,o.op=.alloc T->E.alOb T=some x->s.ob (s.base+d)=some x
def Nq{E:Env}{s:St}{γ:Nat->Option Nat}{β:Nat->Option (Nat×Nat)}{o:Oper}(h:zV o=false):Fr E s γ β o:=λhc=>by rw[h] at hc;cases hc
def fo{x:AV}{p:Ty×D}(h:isD x=some p):x=.d p.1 p.2:=by cases x<;>simp[isD] at h;grind
theorem zC{x:D}{b:Bool}(h:x.truth=some b):x=.bool b:=by
 cases x<;>simp[D.truth] at h
 simp_all
def qe{c:Cx}{x:AV}{b:Bool}{v:Value}(h:x.truth=some b)(k:AR c x v):v=.bool b/\∃ t,x=.d t (.bool b):=by
 cases x<;>simp only[AV.truth] at h<;>first|cases h|skip
 split at h<;>first|(cases h;done)|skip
 have:=zC h;subst this;exact⟨EN k,_,rfl⟩
def q9{x:D}{n k:Nat}(h:x.idx n=some k):∃ a,x=.int a k/\k<n:=by
 cases x<;>simp only[D.idx] at h<;>first|cases h|skip
 rename_i a i;split at h
 ·rename_i b;simp only[zea] at h;refine⟨a,?_,j1⟩
  grind
 ·cases h
def y8{x:D}{k:Nat}(h:x.natOf=some k):∃ a,x=.int a k:=by
 cases x<;>simp only[D.natOf] at h<;>first|cases h|skip
 rename_i a i;split at h
 ·simp only[zea] at h;refine⟨a,?_⟩;grind
 ·cases h
def Io{x:D}{l:List D}(h:x.asSl=some l):x=.sl l:=by
 cases x<;>simp[D.asSl] at h
 simp_all
def zi{c:Cx}{t:Ty}{id:Nat}{v:Value}(a:yE (c.ob id)=true)(na:∀ cs,v≠.agg cs)(h:AC c (.ptr t id []) v.cells.toList):∃ b,v=.pointer (some ⟨b,0,none⟩)/\c.γ id=some b:=by
 simp only[AC] at h;obtain⟨b,off,h1,h2,h3⟩:=h;unfold yE at a;split at a<;>first|(cases a;done)|skip
 all_goals
  rename_i d;obtain⟨_,e⟩:=h3 _ d;have:off=0:=e;subst this;exact⟨b,aA na h1,h2⟩
theorem ux{c:Cx}:∀ (l:List AV) (caps:List Value),xx l=true->(l.all (λa=>match a with|.ptr _ id _=>yE (c.ob id)|_=>false))=true->ph c l caps->pn c l caps
 | [],caps,_,_,h=>by simp only[ph] at h;subst h;trivial
 | x::l,caps,hw,d,h=>by
  simp only[ph] at h;obtain⟨v,c2,rfl,h1,h2⟩:=h;simp only[z1b,zaa] at d;unfold xx at hw;split at hw<;>first|(cases hw;done)|skip
  ·simp_all
  ·rename_i t id l' e;cases e;refine⟨?_,ux l c2 hw d.2 h2⟩;have na:∀ cs,v≠.agg cs:=λcs e=>by
    simp only[AC] at h1;obtain⟨b,off,q,_⟩:=h1;subst e;simp at q
   have h3:=zi d.1 na (v:=v) (by
    have q:=h1;simp only[AC] at q;obtain⟨b,off,q,_⟩:=q;have:v=.pointer (some ⟨b,off,none⟩):=by simpa using q
    subst this;exact h1)
   exact h3
def F7{c:Cx}{f:Nat}{l:List AV}{v:Value}(h:AR c (.clo f l) v):gq c (if xx l&&l.all (λa=>match a with|.ptr _ id _=>yE (c.ob id)|_=>false) then .clo f l else .undef) v:=by
 split
 ·rename_i hc;simp only[zaa] at hc;simp only[AR,AC] at h;obtain⟨na,caps,h1,h2⟩:=h;simp only[gq];exact⟨caps,aA na h1,ux l caps hc.1 hc.2 h2⟩
 ·simp only[gq]
def F8{c:Cx}{a vt:Ty}{id:Nat}{v:Value}(h:AR c (.map a vt id) v):gq c (.map a vt id) v:=by simp only[AR,AC] at h;obtain⟨na,b,h1,h2,h3,d,_⟩:=h;exact⟨b,aA na h1,h2,h3,d⟩
def F6{c:Cx}{a:AV}{v:Value}(h:ni (j8 c.ob a)=true)(k:AR c a v):gq c (j8 c.ob a) v/\v.oneCell'=true:=by
 have key:ni a=true:=by
  cases a<;>simp only[j8] at h<;>first|rfl|(cases h;done)|skip
  rename_i t id p;cases p<;>simp only at h
  ·split at h<;>cases h
  ·cases h
 refine⟨?_,OH key k⟩;cases a<;>simp only[ni] at key<;>first|(cases key;done)|skip
 ·exact F7 k
 ·exact F8 k
 ·exact k
def E7{c:Cx}{x:AV}{v:Value}{dd:List Nat}(h:vn c x v)(hp:gE (mw c.ob x)=true):AC ⟨c.w,c.S,c.γ,c.β,c.ob,dd⟩ (mw c.ob x) [v]/\∀ cs,v≠.agg cs:=by
 unfold vn at h;split at h
 ·rename_i t id;obtain⟨b,rfl,d⟩:=h;refine⟨?_,λcs e=>by cases e⟩
  simp only[mw] at hp ⊢;cases ho:c.ob id with
  | none=>rw[ho] at hp;simp[gE] at hp
  | some o=>
   rw[ho] at hp;cases o<;>simp only[gE] at hp<;>first|(cases hp;done)|skip
   all_goals
    simp only[AC];refine⟨b,0,rfl,d,λo' a=>?_⟩;have:some o'=some _:=a.symm.trans ho;cases this;exact⟨rfl,rfl⟩
 ·exact h.elim
theorem BF{c:Cx}{dd:List Nat}:∀ {l:List AV} {vs:List Value},pn c l vs->(l.map (mw c.ob)).all gE=true->ph ⟨c.w,c.S,c.γ,c.β,c.ob,dd⟩ (l.map (mw c.ob)) vs
 | [],[],_,_=>by simp[ph]
 | [],_::_,h,_=>h.elim
 | _::_,[],h,_=>h.elim
 | x::l,v::vs,h,hp=>by simp only[zjb,z1b,zaa] at hp;simp only[zjb,ph];exact⟨v,vs,rfl,(E7 h.1 hp.1).1,BF h.2 hp.2⟩
def BE{c:Cx}{x:AV}{v:Value}{dd:List Nat}(h:gq c x v):AR ⟨c.w,c.S,c.γ,c.β,c.ob,dd⟩ (pq c.ob x) v:=by
 cases x<;>simp only[gq] at h<;>simp only[pq]<;>first|(simp only[AR];done)|skip
 case d t y=>simpa only[AR] using h
 case fptr t y=>simpa only[AR,AC] using h
 case ptr t id p=>
  cases hp:gE (mw c.ob (.ptr t id p)) with
  | true=>
   obtain⟨m,s⟩:=E7 (dd:=dd) h hp;have n:v.cells.toList=[v]:=by
    unfold vn at h;split at h
    ·obtain⟨b,rfl,_⟩:=h;rfl
    ·exact h.elim
   cases hx:mw c.ob (.ptr t id p)<;>rw[hx] at hp m<;>simp only[gE] at hp<;>first|(cases hp;done)|skip
   simp_all [AR,n]
  | false=>
   have:mw c.ob (.ptr t id p)=.undef:=by unfold mw at hp ⊢;all_goals grind [gE]
   simp_all [AR]
 case clo f l=>
  obtain⟨caps,rfl,hc⟩:=h;split
  ·rename_i hp;simp only[AR,AC];exact⟨λcs e=>(by cases e),caps,rfl,BF hc hp⟩
  ·simp only[AR]
 case yld id=>simpa only[AR,AC] using h
 case map kt vt id=>
  obtain⟨b,rfl,h1,h2,h3⟩:=h;split
  ·rename_i q r l k;split
   ·rename_i a;simp only[zaa] at a;have i:=af7 _ _ a.1;have j:=af7 _ _ a.2;subst i;subst j;simp only[AR,AC];refine⟨λcs e=>(by cases e),b,rfl,h1,h2,h3,λo g=>?_⟩
    have:some o=some _:=g.symm.trans k;cases this;exact⟨l,rfl⟩
   ·simp only[AR]
  ·simp only[AR]
section
variable{P:Program}{E:Env}{w0:Root}{S:Nat->Nat->Prop}{γ:Nat->Option Nat}{β:Nat->Option (Nat×Nat)}{s:St}{a:Act}{w:World}
def ki(P:Program)(E:Env)(w0:Root)(S:Nat->Nat->Prop)(γ:Nat->Option Nat)(β:Nat->Option (Nat×Nat))(s:St)(a:Act)(w:World)(o:Oper):Prop:=
 ∀ (R:Type) (K:AV->Option R) (r:R),qv E s o K=some r->∃ v,K v=some r/\ft P o a w (Qp w0 S γ β s a w o.dst v)
def mS(a:Addr):(Instr.sureAddr (.pointer (some a))).run P w=.ok a w:=rfl
def OD(h:Rp w0 S γ β s a w){dst x ty pos after guard}:ki P E w0 S γ β s a w ⟨dst,.move x,ty,pos,after,guard⟩:=by intro R K r hq;exact⟨_,hq,.value (v:=a.eval x) (w':=w) (by simp[execOp]) (Qp.same h (bo h x) _)⟩
def Hp(h:Rp w0 S γ β s a w){dst x ty pos after guard}:ki P E w0 S γ β s a w ⟨dst,.assign x,ty,pos,after,guard⟩:=by intro R K r hq;exact⟨_,hq,.value (v:=a.eval x) (w':=w) (by simp[execOp]) (Qp.same h (bo h x) _)⟩
def OE(h:Rp w0 S γ β s a w){dst c x y ty pos after guard}:ki P E w0 S γ β s a w ⟨dst,.pick c x y,ty,pos,after,guard⟩:=by
 intro R K r hq;simp only[qv] at hq;obtain⟨b,h1,h2⟩:=ab hq;obtain⟨h3,_⟩:=qe h1 (bo h c);cases b
 ·exact⟨_,by simpa using h2,.value (v:=a.eval y) (w':=w) (by simp[execOp,h3,asBool]) (Qp.same h (bo h y) _)⟩
 ·exact⟨_,by simpa using h2,.value (v:=a.eval x) (w':=w) (by simp[execOp,h3,asBool]) (Qp.same h (bo h x) _)⟩
def CV(h:Rp w0 S γ β s a w){dst x ty pos after guard}:ki P E w0 S γ β s a w ⟨dst,.nilCheck x,ty,pos,after,guard⟩:=by
 intro R K r hq;simp only[qv] at hq;have hx:=bo h x;generalize s.opA x=y at *;cases y<;>(try simp only at hq)<;>first|cases hq|skip
 rename_i t id p;refine⟨_,hq,?_⟩;have c:=hx;simp only[AR,AC] at hx;obtain⟨h1,b,off,h2,h3⟩:=hx;have d:=aA h1 h2;exact .value (v:=a.eval x) (w':=w) (by simp[execOp,d]) (Qp.same h c _)
mutual
theorem xB:∀ (t:Ty),av t=true->AV.fits t (mo t)=true
 | .int k,_=>ck _ _
 | .bool,_=>ck _ _
 | .str,_=>ck _ _
 | .st ts,hn=>by
  simp only[mo];split
  ·simp only[AV.fits,zaa];exact⟨by have:=af6 (.st ts);simpa [Ty.beq] using this,kM ts (by simpa [av] using hn)⟩
  ·exact ck _ _
 | .arr n t,_=>ck _ _
 | .sl t,_=>rfl
 | .tup _,h=>by simp[av] at h
 | .fn,h=>by simp[av] at h
theorem kM:∀ (ts:List Ty),bG ts=true->AV.fitss ts (li ts)=true
 | [],_=>rfl
 | t::ts,h=>by simp only[bG,zaa] at h;simp only[li,AV.fitss,zaa];exact⟨xB t h.1,kM ts h.2⟩
end
mutual
theorem dC:∀ (t:Ty),av t=true->wt t (aw t)
 | .int k,_=>by simp_all [wt,aw]
 | .bool,_=>by simp_all [wt,aw]
 | .str,_=>by simp_all [wt,aw]
 | .st ts,hn=>by simp only[wt,aw];exact⟨_,rfl,qj ts (by simpa [av] using hn)⟩
 | .arr n t,hn=>by
  simp only[wt,aw];refine⟨_,rfl,j3,λx hx=>?_⟩
  rw[(zqd.1 hx).2];exact dC t (by simpa [av] using hn)
 | .sl t,_=>by simp only[wt,aw];exact⟨[],rfl,λx hx=>by simp at hx⟩
 | .tup _,h=>by simp[av] at h
 | .fn,h=>by simp[av] at h
theorem qj:∀ (ts:List Ty),bG ts=true->fY ts (gX ts)
 | [],_=>by simp[fY,gX]
 | t::ts,h=>by simp only[bG,zaa] at h;simp only[gX,fY];exact⟨_,_,rfl,dC t h.1,qj ts h.2⟩
end
def NZ{w:World}{S:Nat->Nat->Prop}{d:D}{v:Value}(h:GQ d v=true):CR w S d v:=by
 cases d<;>cases v<;>simp only[GQ] at h<;>first|cases h|skip
 case int.int k n k' n'=>simp at h;rw[h.1,h.2];exact .int _ _
 case bool.bool b b'=>simp at h;rw[h];exact .bool _
 case str.string x y=>
  have:x=y:=by simpa using h
  rw[this];exact .str _
 case sl.slice l a len cap=> simp only[zaa,List.isEmpty_iff,Option.isNone_iff_eq_none,zfa] at h;obtain⟨⟨⟨rfl,rfl⟩,rfl⟩,rfl⟩:=h;exact .sl [] none 0 0 0 (λ_=>undef) (.inl rfl) (zka 0) (λi d c=>by simp[aft] at c) (λi d c=>by simp[aft] at c)
theorem cX{w:World}{S:Nat->Nat->Prop}:∀ {a:List D} {cs:List Value},db a cs=true->dF w S a cs
 | [],[],_=>dF.nil
 | [],_::_,h=>by simp[db] at h
 | _::_,[],h=>by simp[db] at h
 | d::a,v::cs,h=>by simp only[db,zaa] at h;exact dF.append (dF.single.2 (NZ h.1)) (cX h.2)
theorem uz:∀ {a b:List D} {cs:List Value},db (a++b) cs=true->db a (cs.take a.length)=true/\db b (cs.drop a.length)=true
 | [],b,cs,h=>by simpa [db] using h
 | d::a,b,[],h=>by simp[db] at h
 | d::a,b,v::cs,h=>by
  simp only[zFb,db,zaa] at h;obtain⟨h1,h2⟩:=uz h.2
  simp_all [zQa,zfc,znd,db,zaa]
mutual
theorem Dq{c:Cx}:∀ (t:Ty) (cs:List Value),av t=true->db (aw t).flat cs=true->AC c (mo t) cs
 | .int k,cs,hn,h=>by simp only[mo,AC];exact⟨dC _ hn,hn,cX h⟩
 | .bool,cs,hn,h=>by simp only[mo,AC];exact⟨dC _ hn,hn,cX h⟩
 | .str,cs,hn,h=>by simp only[mo,AC];exact⟨dC _ hn,hn,cX h⟩
 | .st ts,cs,hn,h=>by
  simp only[mo];split
  ·simp only[av] at hn;simp only[AC];exact⟨hn,kM ts hn,mX ts cs hn (by simpa [aw,D.flat] using h)⟩
  ·simp only[AC];exact⟨dC _ hn,hn,cX h⟩
 | .arr n t,cs,hn,h=>by simp only[mo,AC];exact⟨dC _ hn,hn,cX h⟩
 | .sl t,cs,hn,h=>by
  simp only[mo,AC];simp only[aw,D.flat] at h
  match cs,h with
  | [],h=>simp[db] at h
  | [v],h=>
   simp only[db,zaa] at h;have h1:=h.1;cases v<;>simp only[GQ] at h1<;>first|cases h1|skip
   simp_all
  | v::u::cs,h=>simp[db] at h
 | .tup _,_,h,_=>by simp[av] at h
 | .fn,_,h,_=>by simp[av] at h
theorem mX{c:Cx}:∀ (ts:List Ty) (cs:List Value),bG ts=true->db (aft (gX ts)) cs=true->mq c (li ts) cs
 | [],cs,_,h=>by grind [gX,aft,li,mq,db]
 | t::ts,cs,hn,h=>by simp only[bG,zaa] at hn;simp only[gX,aft] at h;obtain⟨h1,h2⟩:=uz h;simp only[li,mq];exact⟨_,_,(zya _ _).symm,Dq t _ hn.1 h1,mX ts _ hn.2 h2⟩
end
end
def oQ{R:Type}{c:Cx}{b:Nat}{o:Ob}{p:List Nat}{t:Ty}{K:AV->Option R}{r:R}(f:gM c b o)(ht:fG o p=some t)(h:iD o p K=some r) :
  ∃ a' cs,K a'=some r/\AC c a' cs/\AV.fits t a'=true/\av t=true/\∀ (i:Nat) (v:Value),cs[i]?=some v->c.w.cell? ⟨b,cP o p+i,none⟩=some v:=by
 cases o
 case mp=>simp[fG] at ht
 case lp=>simp[fG] at ht
 case fv=>simp[iD] at h
 case one T v=> simp only[gM] at f;obtain⟨h1,h2,_,cs,k,e,q⟩:=f;simp only[fG] at ht;simp only[iD] at h;obtain⟨a',pre,mid,post,d,rfl,n,z,A⟩:=Fq p h2 h1 ht e h;refine⟨a',mid,d,z,A,eO p h1 ht,λi v m=>?_⟩;rw[cell_of_row _ k];simp only[cP,<-n];grind
 case many T l=>
  simp only[gM] at f;obtain⟨h1,h2,_,cs,k,e⟩:=f;cases p with
  | nil=>simp[fG] at ht
  | cons i p=>
   simp only[fG] at ht;simp only[iD] at h;obtain⟨x,d,n⟩:=ab h;rw[cM d] at e;obtain⟨q,s⟩:=e.split;obtain⟨u,B⟩:=s.split;have hx:=h2 x (zlb d);obtain⟨a',pre,mid,post,m1,m2,m3,m4,m5⟩:=Fq (c:=c) (cs:=(cs.drop (aft (l.take i)).length).take x.flat.length) p (ck T x) h1 ht (by simp only[AC];exact⟨hx,h1,u⟩) n
   refine⟨a',mid,m1,m4,m5,eO p h1 ht,λj v m=>?_⟩;rw[cell_of_row _ k];have hlen:(aft (l.take i)).length=i*T.size:=by rw[aP h1 _ (λx hx=>h2 x (zVa hx))];have:=(zra.1 d).1;simp[zIb (zBc this)]
   simp only[cP,<-m3,zKc];have y:=(zra.1 m).1;have a:((cs.drop (aft (l.take i)).length).take x.flat.length)[pre.length+j]?=some v:=by rw[m2,z2b j1,zPb,zBb y];exact m
   have g:=(zra.1 a).1;rw[zkb] at g;rw[zbc j1,zdc,hlen] at a
   rw[show i*T.size+pre.length+j=i*T.size+(pre.length+j) by omega]
   exact a
section
variable{P:Program}{E:Env}{w0:Root}{S:Nat->Nat->Prop}{γ:Nat->Option Nat}{β:Nat->Option (Nat×Nat)}{s:St}{a:Act}{w:World}
def kE(a:EnvOk P E){T:TypeId}{t:Ty}(h:E.L T=some t)(hn:av t=true):cd P t T=true:=by
 rcases a.lay T t h with⟨b,rfl⟩|h
 ·simp[av] at hn
 ·exact h
def mr{c:Cx}{t:Ty}{id:Nat}{p:List Nat}{v:Value}(h:AR c (.ptr t id p) v):∃ b off,v=.pointer (some ⟨b,off,none⟩)/\c.γ id=some b/\∀ o,c.ob id=some o->fG o p=some t/\off=cP o p:=by simp only[AR,AC] at h;obtain⟨h1,b,off,h2,h3⟩:=h;exact⟨b,off,aA h1 h2,h3⟩
def ic{c:Cx}{t:Ty}{id:Nat}{p:List Nat}{b off:Nat}(h:c.γ id=some b)(h2:∀ o,c.ob id=some o->fG o p=some t/\off=cP o p):AR c (.ptr t id p) (.pointer (some ⟨b,off,none⟩)):=by simp only[AR,AC];exact⟨j3,b,off,rfl,h,h2⟩
def zH{c:Cx}{t:Ty}{x:D}{v:Value}(h:AR c (.fptr t x) v):wt t x/\av t=true/\∃ b off,v=.pointer (some ⟨b,off,none⟩)/\si c.w c.S b off x.flat:=by simp only[AR,AC] at h;obtain⟨h1,h2,h0,b,off,h3,a⟩:=h;exact⟨h2,h0,b,off,aA h1 h3,a⟩
def pD{c:Cx}{t:Ty}{x:D}{b off:Nat}(h:wt t x)(hn:av t=true)(h2:si c.w c.S b off x.flat):AR c (.fptr t x) (.pointer (some ⟨b,off,none⟩)):=by simp only[AR,AC];exact⟨j3,h,hn,b,off,rfl,h2⟩
def OC(M:EnvOk P E)(h:Rp w0 S γ β s a w){dst T x ty pos after guard}:ki P E w0 S γ β s a w ⟨dst,.load T x,ty,pos,after,guard⟩:=by
 intro R K r hq;simp only[qv] at hq;have hx:=bo h x;cases hfn:E.fnT T with
 | true=>
  rw[hfn] at hq;simp only[cond_true] at hq;split at hq<;>first|cases hq|skip
  rename_i id e;split at hq<;>first|cases hq|skip
  rename_i y k;split at hq<;>first|cases hq|skip
  rw[e] at hx;obtain⟨b,off,B,I,g⟩:=mr hx;obtain⟨_,rfl⟩:=g _ k;obtain⟨_,c,q,u,k3⟩:=h.obs id _ b k I;replace u:=BE (dd:=s.dead) u;exact⟨_,hq,.value (v:=c) (w':=w) (by simp[execOp,B,C3 (M.fnT T hfn) q,cP]) (Qp.same h u _)⟩
 | false=>
 rw[hfn] at hq;simp only[cond_false] at hq;replace hq:=ab hq;obtain⟨t,ht,hq⟩:=hq;generalize s.opA x=y at *;cases y<;>(try simp only at hq)<;>first|cases hq|skip
 case ptr t' id p=>
  split at hq<;>first|cases hq|skip
  rename_i j;have:=af7 _ _ j;subst this;replace hq:=ab hq;obtain⟨o,k,hq⟩:=hq;obtain⟨b,off,B,I,g⟩:=mr hx;obtain⟨q,rfl⟩:=g o k;obtain⟨a',cs,m1,m2,m3,m4,m5⟩:=oQ (h.obs id o b k I) q hq;obtain⟨m6,m7⟩:=jd _ _ _ m3 m2;obtain⟨v,d,f⟩:=kI (kE M ht m4) (w:=w) (b:=b) (off:=cP o p) m6 m7 m5;exact⟨a',m1,.value (v:=v) (w':=w) (by simp[execOp,B,d]) (Qp.same h (xX m3 m2 f) _)⟩
 case fptr t' z=>
  split at hq<;>first|cases hq|skip
  rename_i j;have:=af7 _ _ j;subst this;obtain⟨q,W,b,off,B,cs,u,k3⟩:=zH hx;obtain⟨v,d,f⟩:=kI (kE M ht W) (w:=w) (b:=b) (off:=off) (cs:=cs) (by rw[<-u.1];exact cU _ _ q W) u.nag (λi c hc=>(k3 i c hc).2)
  exact⟨_,hq,.value (v:=v) (w':=w) (by simp[execOp,B,d]) (Qp.same h (xX (ck _ _) (by simp only[AC];exact⟨q,W,u⟩) f) _)⟩
 case sub sl e id p lo n=>
  split at hq<;>first|cases hq|skip
  rename_i j;simp only[zaa,zWa] at j;obtain⟨U,j⟩:=j;subst U;have:=af7 _ _ j;subst this;replace hq:=ab hq;obtain⟨o,k,hq⟩:=hq;simp only[AR,AC] at hx;obtain⟨Q,A,b,off,cap,G,I,g⟩:=hx;simp only[zFa,if_false] at G;have B:=aA Q G;obtain⟨m,q,u,rfl⟩:=g o k;obtain⟨a',cs,m1,m2,m3,m4,m5⟩:=oQ (h.obs id o b k I) q hq;split at m1<;>first|(cases m1;done)|skip
  rename_i m' C l;split at m1<;>first|(cases m1;done)|skip
  rename_i F;simp only[zaa,zfa] at F;have he:=af7 _ _ F.1;subst he;have hm:=pQ m3;simp only[Ty.arr.injEq] at hm;simp only[AC] at m2;obtain⟨q1,q2,X⟩:=m2;simp only[wt] at q1;obtain⟨l0,e0,q4,Y⟩:=q1;cases e0;have O:l=l.take lo++((l.drop lo).take n++(l.drop lo).drop n):=by rw[zya,zya]
  have N:aft l=aft (l.take lo)++(aft ((l.drop lo).take n)++aft ((l.drop lo).drop n)):=by
   conv=>lhs;rw[O]
   rw[cE,cE]
  simp only[D.flat] at X;rw[N] at X;obtain⟨_,r2⟩:=X.split;obtain⟨Z,_⟩:=r2.split;have J:(aft (l.take lo)).length=lo*C.size:=by rw[aP A _ (λx hx=>Y x (zVa hx)),zkb,zIb j1]
  have L:(aft ((l.drop lo).take n)).length=n*C.size:=by rw[aP A _ (λx hx=>Y x (zec (zVa hx))),zkb,List.length_drop,zIb j1]
  have V:wt (.arr n C) (.st ((l.drop lo).take n)):=by simp only[wt];exact⟨_,rfl,by rw[zkb,List.length_drop,zIb j1],λx hx=>Y x (zec (zVa hx))⟩
  have H:av (.arr n C)=true:=by simp only[av];exact A
  obtain⟨v,d,f⟩:=kI (kE M ht H) (w:=w) (b:=b) (off:=cP o p+lo*C.size) (cs:=(cs.drop (aft (l.take lo)).length).take (aft ((l.drop lo).take n)).length) (by rw[<-Z.1,L];rfl) Z.nag (λi c hc=>by
   have hi:i<(aft ((l.drop lo).take n)).length:=by have:=(zra.1 hc).1;rw[zkb] at this;omega
   rw[zbc hi,zdc] at hc;have:=m5 _ c hc;rw[J,<-zVb] at this;exact this)
  exact⟨_,m1,.value (v:=v) (w':=w) (by simp[execOp,B,d]) (Qp.same h (xX (ck _ _) (by simp only[AC];exact⟨V,H,by simp only[D.flat];exact Z⟩) f) _)⟩
def ul{T:TypeId}{d:List Ty}{f:Nat}{u:Ty}(hl:cd P (.st d) T=true)(hf:d[f]?=some u)(b off:Nat)(w:World) :
  (Instr.fieldAt T (.pointer (some ⟨b,off,none⟩)) f).run P w=.ok (.pointer (some ⟨b,off+aga (d.take f),none⟩)) w:=by
 obtain⟨e,h1,h2⟩:=jW hl;obtain⟨g,h3,h,j,i⟩:=uW h2 hf;have a:e[f]?=some g:=by simpa using h3
 have c:u.size≠0:=j1
 simp only[Instr.fieldAt,zma,run_underlying h1,zga,a,mS,fieldPlace,cF i,c,if_false,zua,h,dI,zfb]
theorem kH:∀ (p:List Nat) {t u v:Ty} {i:Nat},ba t p=some u->ba u [i]=some v->ba t (p++[i])=some v
 | [],t,u,v,i,h,k=>by simp_all [ba]
 | j::p,.st a,u,v,i,h,k=>by simp only[ba,zFb] at h ⊢;obtain⟨z,h1,h2⟩:=ab h;rw[h1];exact kH p h2 k
 | j::p,.arr n t,u,v,i,h,k=>by simp only[ba,zFb] at h ⊢;exact kH p h k
 | j::p,.int _,u,v,i,h,k=>by simp[ba] at h
 | j::p,.bool,u,v,i,h,k=>by simp[ba] at h
 | j::p,.str,u,v,i,h,k=>by simp[ba] at h
 | j::p,.sl _,u,v,i,h,k=>by simp[ba] at h
 | j::p,.tup _,u,v,i,h,k=>by simp[ba] at h
 | j::p,.fn,u,v,i,h,k=>by simp[ba] at h
theorem jv:∀ (p:List Nat) {t u:Ty} {i:Nat},ba t p=some u->bz t (p++[i])=bz t p+bz u [i]
 | [],t,u,i,h=>by simp_all [ba,bz]
 | j::p,.st a,u,i,h=>by simp only[ba,zFb] at h ⊢;obtain⟨z,h1,h2⟩:=ab h;simp only[bz];rw[show a.getD j .bool=z by simp[List.getD,h1],jv p h2,zVb]
 | j::p,.arr n t,u,i,h=>by simp only[ba,zFb] at h ⊢;simp only[bz];rw[jv p h,zVb]
 | j::p,.int _,u,i,h=>by simp[ba] at h
 | j::p,.bool,u,i,h=>by simp[ba] at h
 | j::p,.str,u,i,h=>by simp[ba] at h
 | j::p,.sl _,u,i,h=>by simp[ba] at h
 | j::p,.tup _,u,i,h=>by simp[ba] at h
 | j::p,.fn,u,i,h=>by simp[ba] at h
def zd{o:Ob}{p:List Nat}{t u:Ty}{i:Nat}(h:fG o p=some t)(k:ba t [i]=some u):fG o (p++[i])=some u/\cP o (p++[i])=cP o p+bz t [i]:=by
 cases o with
 | one T v=>simp only[fG,cP] at h ⊢;exact⟨kH p h k,jv p h⟩
 | many T l=>
  cases p with
  | nil=>simp[fG] at h
  | cons j p=>simp only[fG,cP,zFb] at h ⊢;exact⟨kH p h k,by rw[jv p h,zVb]⟩
 | mp a vt l=>simp[fG] at h
 | lp i q=>simp[fG] at h
 | fv v=>cases p<;>simp[fG] at h;subst h;simp[ba] at k
def AO(m:EnvOk P E)(h:Rp w0 S γ β s a w){dst T x f ty pos after guard}:ki P E w0 S γ β s a w ⟨dst,.fieldAddr T x f,ty,pos,after,guard⟩:=by
 intro R K r hq;simp only[qv] at hq;replace hq:=ab hq;obtain⟨t,ht,hq⟩:=hq;have hx:=bo h x;generalize s.opA x=y at *;cases t<;>(try simp only at hq)<;>first|cases hq|skip
 rename_i k;cases y<;>(try simp only at hq)<;>first|cases hq|skip
 case ptr t' id p=>
  split at hq<;>first|cases hq|skip
  rename_i d;have:=af7 _ _ d;subst this;replace hq:=ab hq;obtain⟨u,hu,hq⟩:=hq;obtain⟨b,off,g,I,e⟩:=mr hx;rcases m.lay T _ ht with⟨l,c⟩|hl
  ·cases c
  refine⟨_,hq,.value (v:=.pointer (some ⟨b,off+aga (k.take f),none⟩)) (w':=w) (by simp only[execOp,g,zma,ul hl hu,zga,zua]) (Qp.same h (ic I λo G=>?_) _)⟩
  obtain⟨j,rfl⟩:=e o G;have:=zd (i:=f) (u:=u) j (by simp[ba,hu])
  exact⟨this.1,by rw[this.2];simp[bz]⟩
 case fptr t' z=>
  split at hq<;>first|cases hq|skip
  rename_i d;have:=af7 _ _ d;subst this;replace hq:=ab hq;obtain⟨u,hu,hq⟩:=hq;replace hq:=ab hq;obtain⟨J,H,hq⟩:=hq;obtain⟨j,n,b,off,g,q⟩:=zH hx;rcases m.lay T _ ht with⟨l,c⟩|hl
  ·cases c
  have F:z.get [f]=some J:=by simp[D.get,H]
  obtain⟨m1,A,B,m2,m3⟩:=jR [f] j n (show ba (.st k) [f]=some u by simp[ba,hu]) F
  rw[m2] at q;have C:=q.part;rw[m3] at C;refine⟨_,hq,.value (v:=.pointer (some ⟨b,off+aga (k.take f),none⟩)) (w':=w) (by simp only[execOp,g,zma,ul hl hu,zga,zua]) (Qp.same h (pD m1 (cu (by simpa [av] using n) hu) ?_) _)⟩
  simpa [bz] using C
def nj{T:TypeId}{n:Nat}{e:Ty}(hl:cd P (.arr n e) T=true){c:IntKind}{k:Nat}(hk:k<n)(b off:Nat)(w:World) :
  (Instr.indexAt T (.pointer (some ⟨b,off,none⟩)) (.int c k)).run P w=.ok (.pointer (some ⟨b,off+k*e.size,none⟩)) w:=by
 obtain⟨u,h1,h2⟩:=fq hl;have a:(0:Int)<=(k:Int)/\(k:Int)<(n:Int):=j1
 simp only[Instr.indexAt,asIntOf,pure_bind,zma,run_underlying h1,zga,mS,zua,a,and_self,if_true,cF h2,dI,zad]
def n9{T:TypeId}{e:Ty}(hl:cd P (.sl e) T=true){c:IntKind}{k len cap:Nat}(hk:k<len)(b off:Nat)(w:World) :
  (Instr.indexAt T (.slice (some ⟨b,off,none⟩) len cap) (.int c k)).run P w=.ok (.pointer (some ⟨b,off+k*e.size,none⟩)) w:=by
 obtain⟨u,h1,h2⟩:=jV hl;have a:(0:Int)<=(k:Int)/\(k:Int)<(len:Int):=j1
 simp only[Instr.indexAt,asIntOf,pure_bind,zma,run_underlying h1,zga,zua,a,and_self,if_true,cF h2,dI,zad]
def HV{c:Cx}{t:Ty}{id:Nat}{v:Value}(h:AR c (.mem t id) v):av t=true/\∃ b,c.γ id=some b/\∀ o,c.ob id=some o->∃ l,o=.many t l/\v=.slice (some ⟨b,0,none⟩) l.length l.length:=by simp only[AR,AC] at h;obtain⟨h1,h2,b,h3,a⟩:=h;refine⟨h2,b,h3,λo d=>?_⟩;obtain⟨l,e,f⟩:=a o d;exact⟨l,e,aA h1 f⟩
def lm{c:Cx}{ob:Nat->Option Ob}{e:Ty}{y:AV}{v:Value}{l:List D}(hn:av e=true)(h:AR c y v)(hl:y.asList ob e=some l):(∀ x∈l,wt e x)/\CR c.w c.S (.sl l) v:=by
 unfold AV.asList at hl;obtain⟨x,h1,h2⟩:=ab hl;have:=Io h2;subst this;obtain⟨a,d⟩:=pE (t:=.sl e) (by simpa [av] using hn) h h1
 simp only[wt] at a;obtain⟨l',b,f⟩:=a;cases b;exact⟨f,d.sl_inv⟩
def AP(W:EnvOk P E)(h:Rp w0 S γ β s a w){dst T x i ty pos after guard}:ki P E w0 S γ β s a w ⟨dst,.indexAddr T x i,ty,pos,after,guard⟩:=by
 intro R K r hq;simp only[qv] at hq;replace hq:=ab hq;obtain⟨t,ht,hq⟩:=hq;replace hq:=ab hq;obtain⟨ix,M,hq⟩:=hq;have hi:=fo M;have c:=bo h i;rw[hi] at c;have hx:=bo h x;generalize s.opA x=y at *;cases t<;>(try simp only at hq)<;>first|cases hq|skip
 case arr n e=>
  rcases W.lay T _ ht with⟨V,q⟩|hl
  ·cases q
  cases y<;>(try simp only at hq)<;>first|cases hq|skip
  case ptr j id p=>
   split at hq<;>first|cases hq|skip
   rename_i H;have:=af7 _ _ H;subst this;replace hq:=ab hq;obtain⟨k,hk,hq⟩:=hq;obtain⟨U,f,d⟩:=q9 hk;rw[f] at c;obtain⟨oZ,_⟩:=fU c;obtain⟨b,off,C,Q,g⟩:=mr hx;refine⟨_,hq,.value (v:=.pointer (some ⟨b,off+k*e.size,none⟩)) (w':=w) (by simp only[execOp,C,oZ,zma,nj hl d,zga,zua]) (Qp.same h (ic Q λo N=>?_) _)⟩
   obtain⟨F,rfl⟩:=g o N;have:=zd (i:=k) (u:=e) F (by cases e<;>simp[ba])
   exact⟨this.1,by rw[this.2];cases e<;>simp[bz]⟩
  case fptr j z=>
   split at hq<;>first|cases hq|skip
   rename_i H;have:=af7 _ _ H;subst this;replace hq:=ab hq;obtain⟨k,hk,hq⟩:=hq;replace hq:=ab hq;obtain⟨z',J,hq⟩:=hq;obtain⟨U,f,d⟩:=q9 hk;rw[f] at c;obtain⟨oZ,_⟩:=fU c;obtain⟨F,X,b,off,C,L⟩:=zH hx;have hg:z.get [k]=some z':=by simp[D.get,J]
   obtain⟨m1,A,B,m2,m3⟩:=jR [k] F X (show ba (.arr n e) [k]=some e by cases e<;>simp[ba]) hg
   rw[m2] at L;have G:=L.part;rw[m3] at G;refine⟨_,hq,.value (v:=.pointer (some ⟨b,off+k*e.size,none⟩)) (w':=w) (by simp only[execOp,C,oZ,zma,nj hl d,zga,zua]) (Qp.same h (pD m1 (by simpa [av] using X) ?_) _)⟩
   have:bz (.arr n e) [k]=k*e.size:=by cases e<;>simp[bz]
   rwa [this] at G
 case sl e=>
  rcases W.lay T _ ht with⟨V,q⟩|hl
  ·cases q
  have m:av e=true:=by have:=aT _ _ hl;simpa [av] using this
  by_cases hm:∃ j id,y=.mem j id
  ·obtain⟨j,id,rfl⟩:=hm;simp only at hq;split at hq<;>first|cases hq|skip
   rename_i H;have:=af7 _ _ H;subst this;split at hq<;>first|cases hq|skip
   rename_i u l g;replace hq:=ab hq;obtain⟨k,hk,hq⟩:=hq;obtain⟨U,f,d⟩:=q9 hk;rw[f] at c;obtain⟨oZ,_⟩:=fU c;obtain⟨_,b,Q,I⟩:=HV hx;obtain⟨l',e1,C⟩:=I _ g;cases e1;refine⟨_,hq,.value (v:=.pointer (some ⟨b,0+k*j.size,none⟩)) (w':=w) (by simp only[execOp,C,oZ,zma,n9 hl d,zga,zua]) (Qp.same h (ic Q λo N=>?_) _)⟩
   have:o=.many j l:=by have:=g.symm.trans N;cases this;rfl
   subst this;exact⟨by cases j<;>simp[fG,ba],by cases j<;>simp[cP,bz]⟩
  ·have O:(y.asList s.ob e).bind (λl=>(ix.2.idx l.length).bind λk=>(l[k]?).bind λy=>K (.fptr e y))=some r:=by
    cases y<;>first|exact hq|exact z4a ⟨_,_,rfl⟩ hm
   obtain⟨l,h1,hq⟩:=ab O;replace hq:=ab hq;obtain⟨k,hk,hq⟩:=hq;replace hq:=ab hq;obtain⟨z,J,hq⟩:=hq;obtain⟨U,f,d⟩:=q9 hk;rw[f] at c;obtain⟨oZ,_⟩:=fU c;obtain⟨F,L⟩:=lm m hx h1;obtain⟨A,cap,b,off,C,G,k4,Y⟩:=L.elems;have hA:A=some ⟨b,off,none⟩:=by
    rcases G with rfl|G
    ·simp at J
    ·exact G
   rw[cM J] at Y;have Z:=Y.part;rw[aP m _ (λx hx=>F x (zVa hx)),zkb,zIb (zBc d)] at Z;exact⟨_,hq,.value (v:=.pointer (some ⟨b,off+k*e.size,none⟩)) (w':=w) (by simp only[execOp,C,hA,oZ,zma,n9 hl d,zga,zua]) (Qp.same h (pD (F z (zlb J)) m Z) _)⟩
def ja{T:TypeId}{t:Ty}(hl:cd P t T=true){cs:Array Value}{pre mid post:List Value}(a:cs.toList=pre++(mid++post))(hm:mid.length=t.size)(hn:nag mid)(w:World) :
  ∃ v,(part T cs pre.length).run P w=.ok v w/\ia t mid v:=by
 have e:cs=(pre++(mid++post)).toArray:=by rw[<-a]
 subst e;unfold part;rw[zma,FA hl,zga];cases ha:dj t
 ·have h1:mid.length=1:=by
   rw[hm];cases t<;>simp[dj] at ha<;>first|rfl|(exfalso;exact yG hl (.inl ⟨_,rfl⟩))
  match mid,h1 with
  | [c],_=>
   have h2:=hn c j3
   refine⟨c,?_,?_,?_,?_⟩
   ·simp
   ·cases c<;>simp_all [Value.cells,Value.oneCell']
   ·simp_all
   ·grind [Value.oneCell']
 ·refine⟨.agg mid.toArray,?_,rfl,λ_=>⟨_,rfl⟩,by rw[ha];intro h;cases h⟩
  simp only[if_true,zma,cF hl,zga,zua]
  simp_all
def Kl(J:EnvOk P E)(h:Rp w0 S γ β s a w){dst T x f ty pos after guard}:ki P E w0 S γ β s a w ⟨dst,.field T x f,ty,pos,after,guard⟩:=by
 intro R K r hq;simp only[qv] at hq;replace hq:=ab hq;obtain⟨t,ht,hq⟩:=hq;have hx:=bo h x;generalize s.opA x=y at *;cases t<;>(try simp only at hq)<;>first|cases hq|skip
 rename_i U;cases y<;>(try simp only at hq)<;>first|cases hq|skip
 rename_i W z;split at hq<;>first|cases hq|skip
 rename_i L;have:=af7 _ _ L;subst this;replace hq:=ab hq;obtain⟨u,hu,hq⟩:=hq;replace hq:=ab hq;obtain⟨q,N,hq⟩:=hq;rcases J.lay T _ ht with⟨V,m⟩|hl
 ·cases m
 have hn:=aT _ _ hl;obtain⟨n,O⟩:=Bp hx hn;have M:z.get [f]=some q:=by simp[D.get,N]
 obtain⟨m1,A,B,m2,m3⟩:=jR [f] n hn (show ba (.st U) [f]=some u by simp[ba,hu]) M
 obtain⟨Q,F⟩:=O;rw[m2] at F;obtain⟨o,p⟩:=F.split;obtain⟨j,G⟩:=p.split;obtain⟨H,h1,h2⟩:=jW hl;obtain⟨g,h3,I,_,C⟩:=uW h2 hu;have c:=aT _ _ C;obtain⟨cs,b⟩:∃ cs,a.eval x=.agg cs:=by simp only[wt] at n;obtain⟨l,rfl,_⟩:=n;exact Q
 rw[b] at o p j G;simp only[Value.cells] at o p j G;obtain⟨v,e,i⟩:=ja C (cs:=cs) (pre:=cs.toList.take A.length) (mid:=(cs.toList.drop A.length).take q.flat.length) (post:=(cs.toList.drop A.length).drop q.flat.length)
  (by simp only[zya]) (by rw[<-j.1];exact cU _ _ m1 c) j.nag w
 have d:g.offset=(cs.toList.take A.length).length:=by rw[<-o.1,m3,I];simp[bz]
 have k:H[f]?=some g:=by simpa using h3
 exact⟨_,hq,.value (v:=v) (w':=w) (by simp only[execOp,b,Instr.field,zma,run_underlying h1,zga,k,asAgg,zua,d,e]) (Qp.same h (xX (ck _ _) (by simp only[AC];exact⟨m1,c,j⟩) i) _)⟩
def Km(X:EnvOk P E)(h:Rp w0 S γ β s a w){dst T x i ty pos after guard}:ki P E w0 S γ β s a w ⟨dst,.index T x i,ty,pos,after,guard⟩:=by
 intro R K r hq;simp only[qv] at hq;replace hq:=ab hq;obtain⟨t,ht,hq⟩:=hq;replace hq:=ab hq;obtain⟨ix,L,hq⟩:=hq;have hi:=fo L;have b:=bo h i;rw[hi] at b;have hx:=bo h x;generalize s.opA x=y at *;cases t<;>(try simp only at hq)<;>first|cases hq|skip
 case str=>
  cases y<;>(try simp only at hq)<;>first|cases hq|skip
  rename_i t' z;split at hq<;>first|cases hq|skip
  rename_i I;have:=af7 _ _ I;subst this;replace hq:=ab hq;obtain⟨G,C,hq⟩:=hq;rcases X.lay T _ ht with⟨W,d⟩|hl
  ·cases d
  obtain⟨f,Q⟩:=Bp hx rfl;simp only[wt] at f;obtain⟨sb,rfl⟩:=f;obtain⟨kt,kx⟩:=ix;cases kx<;>(try simp only[afA] at C)<;>first|cases C|skip
  rename_i k n;obtain⟨bb,J,g⟩:=ab C;simp only[zea] at g;subst g;obtain⟨oZ,_⟩:=fU b;have O:a.eval x=.string sb:=by obtain⟨c1,c2⟩:=Q;obtain⟨c,e,h⟩:=dF.single' c2;have:=aA c1 e;rw[this];cases h;rfl
  have hu:P.underlying T=some .string:=by simp only[cd,zaa] at hl;all_goals grind
  exact⟨_,hq,.value (v:=.int .u8 bb.toNat) (w':=w) (by simp only[execOp,O,oZ,Instr.index,asIntOf,pure_bind,zma,run_underlying hu,zga,J,zua]) (Qp.same h (dc _ _) _)⟩
 rename_i n e;cases y<;>(try simp only at hq)<;>first|cases hq|skip
 rename_i t' z;split at hq<;>first|cases hq|skip
 rename_i I;have:=af7 _ _ I;subst this;replace hq:=ab hq;obtain⟨k,hk,hq⟩:=hq;replace hq:=ab hq;obtain⟨G,C,hq⟩:=hq;obtain⟨kk,N,ad⟩:=q9 hk;rw[N] at b;obtain⟨oZ,_⟩:=fU b;rcases X.lay T _ ht with⟨W,d⟩|hl
 ·cases d
 have hn:=aT _ _ hl;obtain⟨f,Q⟩:=Bp hx hn;have hg:z.get [k]=some G:=by simp[D.get,C]
 obtain⟨m1,A,B,m2,m3⟩:=jR [k] f hn (show ba (.arr n e) [k]=some e by cases e<;>simp[ba]) hg
 obtain⟨k3,Y⟩:=Q;rw[m2] at Y;obtain⟨U,V⟩:=Y.split;obtain⟨F,Z⟩:=V.split;obtain⟨u,h1,H⟩:=fq hl;have m:=aT _ _ H;obtain⟨cs,j⟩:∃ cs,a.eval x=.agg cs:=by simp only[wt] at f;obtain⟨l,rfl,_⟩:=f;exact k3
 rw[j] at U V F Z;simp only[Value.cells] at U V F Z;obtain⟨v,p,q⟩:=ja H (cs:=cs) (pre:=cs.toList.take A.length) (mid:=(cs.toList.drop A.length).take G.flat.length) (post:=(cs.toList.drop A.length).drop G.flat.length)
  (by simp only[zya]) (by rw[<-F.1];exact cU _ _ m1 m) F.nag w
 have o:k*e.size=(cs.toList.take A.length).length:=by rw[<-U.1,m3];cases e<;>simp[bz]
 have M:(0:Int)<=(k:Int)/\(k:Int)<(n:Int):=j1
 exact⟨_,hq,.value (v:=v) (w':=w) (by simp only[execOp,j,oZ,Instr.index,asIntOf,pure_bind,zma,run_underlying h1,zga,M,and_self,if_true,cF H,zad,o,p,zua]) (Qp.same h (xX (ck _ _) (by simp only[AC];exact⟨m1,m,F⟩) q) _)⟩
end
def Fb:BinOp->Bool
 | .eql|.neq|.lss|.leq|.gtr|.geq=>true
 | _=>false
section
variable{P:Program}{E:Env}{w0:Root}{S:Nat->Nat->Prop}{γ:Nat->Option Nat}{β:Nat->Option (Nat×Nat)}{s:St}{a:Act}{w:World}
def NC{op:BinOp}{k a:IntKind}{x y:Int}{z:D}(T:TypeId)(w:World)(h:afn op (.int k x) (.int a y)=some z) :
  (Fb op=true/\∃ c,z=.bool c/\(binOp op T (.int k x) (.int a y)).run P w=.ok (.bool c) w)\/(Fb op=false/\∃ n,z=.int k n/\(binOp op T (.int k x) (.int a y)).run P w=.ok (.int k n) w):=by
 cases op<;>simp only[afn,afo] at h
 case shl=>
     split at h<;>first|(cases h;done)|skip
     rename_i hy;simp only[zea] at h;exact .inr ⟨rfl,_,h.symm,by simp[binOp,Op.shift,hy]⟩
 case shr=>
     split at h<;>first|(cases h;done)|skip
     rename_i hy;simp only[zea] at h;exact .inr ⟨rfl,_,h.symm,by simp[binOp,Op.shift,hy]⟩
 case quo=>
  split at h<;>first|(cases h;done)|skip
  rename_i hk;subst hk;split at h<;>first|(cases h;done)|skip
  rename_i hy;simp only[zea] at h;exact .inr ⟨rfl,_,h.symm,by simp[binOp,Op.intDiv,hy]⟩
 case rem=>
  split at h<;>first|(cases h;done)|skip
  rename_i hk;subst hk;split at h<;>first|(cases h;done)|skip
  rename_i hy;simp only[zea] at h;exact .inr ⟨rfl,_,h.symm,by simp[binOp,Op.intDiv,hy]⟩
 all_goals (split at h<;>first|(cases h;done)|skip)
 all_goals (rename_i hk;subst hk)
 all_goals (simp only[zea] at h)
 all_goals first
  | (refine .inl ⟨rfl,_,h.symm,?_⟩;simp[binOp,Op.intCmp];done)
  | (refine .inr ⟨rfl,_,h.symm,?_⟩;simp[binOp,Op.intArith];done)
  | (refine .inr ⟨rfl,_,h.symm,?_⟩;simp only[binOp,ne_eq,not_true_eq_false,if_false];rfl)
def gm(op:BinOp)(T:TypeId)(x y:Operand)(k a:IntKind)(u v:Int)(w:World):(eqGuard op T x y (.int k u) (.int a v)).run P w=.ok () w:=by cases op<;>simp[eqGuard]
def lX(op:BinOp)(T:TypeId)(x y:Operand)(u v:Bool)(w:World):(eqGuard op T x y (.bool u) (.bool v)).run P w=.ok () w:=by cases op<;>simp[eqGuard]
def fO{t:Ty}{c v:Value}(h:ia t [c] v)(a:dj t=false):v=c:=aA (h.2.2 a) h.1
def jE{t:Ty}{cs:List Value}{v:Value}(h:ia t cs v)(a:dj t=true):v=.agg cs.toArray:=by obtain⟨xs,rfl⟩:=h.2.1 a;have:=h.1;simp only[Value.cells] at this;rw[<-this]
theorem Bw:∀ (n:Nat) {l l':List D},l.length=n->l'.length=n->D.beqs l l'=(List.range n).all λj=>D.beq (l.getD j (.bool false)) (l'.getD j (.bool false))
 | 0,[],[],_,_=>rfl
 | n+1,x::l,y::l',h,a=>by
  simp only[D.beqs,List.range_succ_eq_map,z1b,List.all_map];rw[Bw n (by simpa using h) (by simpa using a)]
  rfl
mutual
theorem qH:∀ (ty:Ty) (T:TypeId) (x y:D) (cx cy:List Value) (vx vy:Value) (d:Nat),cd P ty T=true->cn ty=true->ty.high<=d->wt ty x->wt ty y->dF w S x.flat cx->dF w S y.flat cy->ia ty cx vx->ia ty cy vy ->
  ∀ w',(Op.equalIn d T vx vy).run P w'=.ok (D.beq x y) w'
 | .int k,T,x,y,cx,cy,vx,vy,d,hl,_,hd,hx,hy,rx,ry,ix,iy,w'=>by
  simp only[wt] at hx hy;obtain⟨n,rfl⟩:=hx;obtain⟨m,rfl⟩:=hy;obtain⟨c1,rfl,r1⟩:=rx.single';obtain⟨c2,rfl,r2⟩:=ry.single';rw[fO ix rfl,fO iy rfl,r1.int_inv,r2.int_inv];obtain⟨d,rfl⟩:∃ e,d=e+1:=⟨d-1,by simp only[Ty.high] at hd;omega⟩
  rw[run_equalIn_int w' d T k k n m (kF hl)];simp only[D.beq,decide_true,zqb];rfl
 | .bool,T,x,y,cx,cy,vx,vy,d,hl,_,hd,hx,hy,rx,ry,ix,iy,w'=>by
  simp only[wt] at hx hy;obtain⟨n,rfl⟩:=hx;obtain⟨m,rfl⟩:=hy;obtain⟨c1,rfl,r1⟩:=rx.single';obtain⟨c2,rfl,r2⟩:=ry.single';rw[fO ix rfl,fO iy rfl,r1.bool_inv,r2.bool_inv];obtain⟨d,rfl⟩:∃ e,d=e+1:=⟨d-1,by simp only[Ty.high] at hd;omega⟩
  have hu:P.underlying T=some .bool:=by simp only[cd,zaa] at hl;all_goals grind
  rw[run_equalIn_bool' w' d T n m hu];rfl
 | .st ts,T,x,y,cx,cy,vx,vy,d,hl,hc,hd,hx,hy,rx,ry,ix,iy,w'=>by
  simp only[wt] at hx hy;obtain⟨l,rfl,hx⟩:=hx;obtain⟨l',rfl,hy⟩:=hy;rw[jE ix rfl,jE iy rfl];obtain⟨fs,h1,h2⟩:=jW hl;have h3:P.fieldsOf T=fs:=by simp[Program.fieldsOf,h1]
  have h4:P.stoodInHeld T=false:=by simp_all [cd,zaa,zWa]
  simp only[Ty.high] at hd;obtain⟨d,rfl⟩:∃ e,d=e+1:=⟨d-1,j1⟩
  rw[run_equalIn_struct w' d T _ _ (by rw[h3];exact h1) h4,h3]
  simp only[cn] at hc;simp only[D.beq];simp only[D.flat] at rx ry;exact tZ ts fs.toList 0 l l' [] cx [] cy _ _ d h2 hc j1 hx hy rx ry rfl rfl rfl rfl w'
 | .arr n t,T,x,y,cx,cy,vx,vy,d,hl,hc,hd,hx,hy,rx,ry,ix,iy,w'=>by
  simp only[wt] at hx hy;obtain⟨l,rfl,hxl,hx⟩:=hx;obtain⟨l',rfl,hyl,hy⟩:=hy;rw[jE ix rfl,jE iy rfl];obtain⟨u,h1,h2⟩:=fq hl;obtain⟨i,z,h3,h4,_⟩:=gA (io h2);simp only[Ty.high] at hd;obtain⟨d,rfl⟩:∃ e,d=e+1:=⟨d-1,j1⟩
  rw[run_equalIn_array w' d _ _ h1 h3];simp only[cn] at hc;simp only[D.beq];simp only[D.flat] at rx ry;have hcell:P.cellsOf u=t.size:=by simp[Program.cellsOf,h3,h4]
  have hn:=aT _ _ h2;rw[Bw n hxl hyl];have key:∀ (is:List Nat) (w':World),(∀ j∈is,j<n)->(Op.eqItems d u (P.cellsOf u) cx.toArray cy.toArray is).run P w'=.ok (is.all λj=>D.beq (l.getD j (.bool false)) (l'.getD j (.bool false))) w':=by
   intro is
   induction is with
   | nil=>intro w' _;simp[Op.eqItems]
   | cons j is ih=>
    intro w' hj;have hjn:=hj j j3
    have e1:l[j]?=some (l.getD j (.bool false)):=by simp_all
    have e2:l'[j]?=some (l'.getD j (.bool false)):=by simp_all
    generalize l.getD j (.bool false)=dx at *;generalize l'.getD j (.bool false)=dy at *;have wx:=hx dx (zlb e1);have wy:=hy dy (zlb e2);have rx':=rx;have ry':=ry;rw[cM e1] at rx';rw[cM e2] at ry';obtain⟨p1,p2⟩:=rx'.split;obtain⟨p3,p4⟩:=p2.split;obtain⟨q1,q2⟩:=ry'.split;obtain⟨q3,q4⟩:=q2.split;have o1:(cx.take (aft (l.take j)).length).length=j*t.size:=by rw[<-p1.1,aP hn _ (λx hx'=>hx x (zVa hx')),zkb,zIb j1]
    have o2:(cy.take (aft (l'.take j)).length).length=j*t.size:=by rw[<-q1.1,aP hn _ (λx hx'=>hy x (zVa hx')),zkb,zIb j1]
    obtain⟨v1,r1,i1⟩:=ja h2 (cs:=cx.toArray) (pre:=cx.take (aft (l.take j)).length) (mid:=(cx.drop (aft (l.take j)).length).take dx.flat.length) (post:=(cx.drop (aft (l.take j)).length).drop dx.flat.length)
     (by simp only[zya]) (by rw[<-p3.1];exact cU _ _ wx hn) p3.nag w'
    obtain⟨v2,r2,i2⟩:=ja h2 (cs:=cy.toArray) (pre:=cy.take (aft (l'.take j)).length) (mid:=(cy.drop (aft (l'.take j)).length).take dy.flat.length) (post:=(cy.drop (aft (l'.take j)).length).drop dy.flat.length)
     (by simp only[zya]) (by rw[<-q3.1];exact cU _ _ wy hn) q3.nag w'
    rw[o1,<-hcell] at r1;rw[o2,<-hcell] at r2;have r3:=qH t u dx dy _ _ v1 v2 d h2 hc j1 wx wy p3 q3 i1 i2 w'
    simp only[Op.eqItems,zma,r1,r2,r3,zga,z1b];have e1':l[j]?.getD (.bool false)=dx:=by rw[e1];rfl
    have e2':l'[j]?.getD (.bool false)=dy:=by rw[e2];rfl
    have ih':=ih w' (λk hk=>hj k (by simp[hk]))
    simp only[List.getD,e1',e2'];cases D.beq dx dy
    ·simp
    ·simpa [List.getD] using ih'
  exact key _ w' (λj hj=>by simpa using hj)
 | .str,_,_,_,_,_,_,_,_,_,hc,_,_,_,_,_,_,_,_=>by simp[cn] at hc
 | .sl _,_,_,_,_,_,_,_,_,_,hc,_,_,_,_,_,_,_,_=>by simp[cn] at hc
 | .tup _,_,_,_,_,_,_,_,_,_,hc,_,_,_,_,_,_,_,_=>by simp[cn] at hc
 | .fn,_,_,_,_,_,_,_,_,_,hc,_,_,_,_,_,_,_,_=>by simp[cn] at hc
theorem tZ:∀ (ts:List Ty) (fs:List Field) (off:Nat) (l l':List D) (px cx py cy:List Value) (xs ys:Array Value) (d:Nat),gQ P ts fs off=true->nJ ts=true->af9 ts<=d->fY ts l->fY ts l'->dF w S (aft l) cx->dF w S (aft l') cy ->
  xs.toList=px++cx->px.length=off->ys.toList=py++cy->py.length=off->∀ w',(Op.eqFields d xs ys fs).run P w'=.ok (D.beqs l l') w'
 | [],fs,off,l,l',px,cx,py,cy,xs,ys,d,hf,_,_,hx,hy,_,_,_,_,_,_,w'=>by
  simp only[fY] at hx hy;subst hx;subst hy;cases fs with
  | nil=>simp[Op.eqFields,D.beqs]
  | cons f fs=>simp[gQ] at hf
 | t::ts,[],off,l,l',px,cx,py,cy,xs,ys,d,hf,_,_,hx,hy,_,_,_,_,_,_,w'=>by simp[gQ] at hf
 | t::ts,f::fs,off,l,l',px,cx,py,cy,xs,ys,d,hf,hc,hd,hx,hy,rx,ry,ex,lx,ey,ly,w'=>by
  simp only[gQ,zaa,zfa] at hf;obtain⟨⟨⟨⟨h1,h2⟩,h3⟩,h4⟩,h5⟩:=hf;simp only[fY] at hx hy;obtain⟨dx,l,rfl,hx1,hx2⟩:=hx;obtain⟨dy,l',rfl,hy1,hy2⟩:=hy;simp only[aft] at rx ry;obtain⟨p3,p4⟩:=rx.split;obtain⟨q3,q4⟩:=ry.split;have hn:=aT _ _ h4;simp only[nJ,zaa] at hc;simp only[af9] at hd;obtain⟨v1,r1,i1⟩:=ja h4 (cs:=xs) (pre:=px) (mid:=cx.take dx.flat.length) (post:=cx.drop dx.flat.length) (by rw[ex,zya]) (by rw[<-p3.1];exact cU _ _ hx1 hn) p3.nag w'
  obtain⟨v2,r2,i2⟩:=ja h4 (cs:=ys) (pre:=py) (mid:=cy.take dy.flat.length) (post:=cy.drop dy.flat.length) (by rw[ey,zya]) (by rw[<-q3.1];exact cU _ _ hy1 hn) q3.nag w'
  rw[lx,<-h1] at r1;rw[ly,<-h1] at r2;have r3:=qH t f.type dx dy _ _ v1 v2 d h4 hc.1 j1 hx1 hy1 p3 q3 i1 i2 w'
  have hs1:(cx.take dx.flat.length).length=t.size:=by rw[<-p3.1];exact cU _ _ hx1 hn
  have hs2:(cy.take dy.flat.length).length=t.size:=by rw[<-q3.1];exact cU _ _ hy1 hn
  have ih:=tZ ts fs (off+t.size) l l' (px++cx.take dx.flat.length) (cx.drop dx.flat.length) (py++cy.take dy.flat.length) (cy.drop dy.flat.length) xs ys d h5 hc.2 j1 hx2 hy2 p4 q4
   (by rw[zTa,zya];exact ex) (by rw[zwa,lx,hs1]) (by rw[zTa,zya];exact ey) (by rw[zwa,ly,hs2]) w'
  simp only[Op.eqFields,h2,ne_eq,not_false_eq_true,if_true,zma,r1,r2,r3,zga,D.beqs];cases D.beq dx dy
  ·simp
  ·simpa using ih
end
def Ki(L:EnvOk P E)(h:Rp w0 S γ β s a w){dst op T x y T' ty pos after guard}:ki P E w0 S γ β s a w ⟨dst,.binOp op T x y T',ty,pos,after,guard⟩:=by
 intro R K r hq;simp only[qv] at hq;replace hq:=ab hq;obtain⟨t,ht,hq⟩:=hq;replace hq:=ab hq;obtain⟨u,hu,hq⟩:=hq;replace hq:=ab hq;obtain⟨v,N,hq⟩:=hq;have hx:=bo h x;have hy:=bo h y;rw[fo hu] at hx;rw[fo N] at hy;have q:∀ (H:Bool),(u.1.beq t&&v.1.beq t&&cn t)=true->∀ (o:BinOp),(o=.eql/\H=false)\/(o=.neq/\H=true) ->
   (execOp a.eval ⟨dst,.binOp o T x y T',ty,pos,after,guard⟩).run P w=.ok (.value (.bool (xor H (D.beq u.2 v.2)))) w:=by
  intro H j o G;simp only[zaa] at j;obtain⟨⟨h1,h2⟩,h3⟩:=j;have C:=af7 _ _ h1;have F:=af7 _ _ h2;rw[C] at hx;rw[F] at hy;have hl:cd P t T=true:=by
   rcases L.lay T _ ht with⟨O,rfl⟩|hl
   ·simp[cn] at h3
   ·exact hl
  have hn:=aT _ _ hl;obtain⟨l,p⟩:=Bp hx hn;obtain⟨m1,m2⟩:=Bp hy hn;have Q:=L.high T _ ht;have i1:ia t (a.eval x).cells.toList (a.eval x):=⟨rfl,qh l hn p.1⟩;have i2:ia t (a.eval y).cells.toList (a.eval y):=⟨rfl,qh m1 hn m2.1⟩;have g:=qH t T u.2 v.2 _ _ _ _ 10000 hl h3 j1 l m1 p.2 m2.2 i1 i2 w
  cases t<;>simp only[cn] at h3<;>first|cases h3|skip
  case int k=>
   simp only[wt] at l m1;obtain⟨n,b⟩:=l;obtain⟨m,f⟩:=m1;rw[b] at p hx ⊢;rw[f] at m2 hy ⊢;have v1:=p.int_inv;have v2:=m2.int_inv;rcases G with⟨rfl,rfl⟩|⟨rfl,rfl⟩
   ·simp only[execOp,v1,v2,zma,gm,zga];simp[binOp,Op.intCmp,D.beq];rfl
   ·simp only[execOp,v1,v2,zma,gm,zga];simp[binOp,Op.intCmp,D.beq];rfl
  case bool=>
   simp only[wt] at l m1;obtain⟨n,b⟩:=l;obtain⟨m,f⟩:=m1;rw[b] at p hx g ⊢;rw[f] at m2 hy g ⊢;have v1:=p.bool_inv;have v2:=m2.bool_inv;rw[v1,v2] at g;rcases G with⟨rfl,rfl⟩|⟨rfl,rfl⟩
   ·simp only[execOp,v1,v2,zma,lX,zga,binOp,Op.equal,Op.maxDepth,g,zua,zMd]
   ·simp only[execOp,v1,v2,zma,lX,zga,binOp,Op.equal,Op.maxDepth,g,zua,Bool.true_xor]
  case st ts=>
   obtain⟨xs,b⟩:=i1.2.1 rfl;obtain⟨B,f⟩:=i2.2.1 rfl;have A:P.eqGuardType P.depth T=false:=by simp only[cd,zaa,zWa] at hl;exact hl.1.2
   rw[b,f] at g;rcases G with⟨rfl,rfl⟩|⟨rfl,rfl⟩
   ·simp only[execOp,b,f,zma,run_eqGuard_agg w _ T x y xs B A,zga,binOp,Op.equal,Op.maxDepth,g,zua,zMd]
   ·simp only[execOp,b,f,zma,run_eqGuard_agg w _ T x y xs B A,zga,binOp,Op.equal,Op.maxDepth,g,zua,Bool.true_xor]
  case arr n e=>
   obtain⟨xs,b⟩:=i1.2.1 rfl;obtain⟨B,f⟩:=i2.2.1 rfl;have A:P.eqGuardType P.depth T=false:=by simp only[cd,zaa,zWa] at hl;exact hl.1.2
   rw[b,f] at g;rcases G with⟨rfl,rfl⟩|⟨rfl,rfl⟩
   ·simp only[execOp,b,f,zma,run_eqGuard_agg w _ T x y xs B A,zga,binOp,Op.equal,Op.maxDepth,g,zua,zMd]
   ·simp only[execOp,b,f,zma,run_eqGuard_agg w _ T x y xs B A,zga,binOp,Op.equal,Op.maxDepth,g,zua,Bool.true_xor]
 have ints:∀ {z:D} {o:BinOp},afn o u.2 v.2=some z->∃ k M n m,u.2=.int k n/\v.2=.int M m:=by
  intro z o i;cases J:u.2<;>rw[J] at i<;>cases hv2:v.2<;>rw[hv2] at i<;>simp only[afn] at i<;>first|cases i|skip
  exact⟨_,_,_,_,rfl,rfl⟩
 have main:∀ (o:BinOp) {z:D},afn o u.2 v.2=some z->∃ I,(execOp a.eval ⟨dst,.binOp o T x y T',ty,pos,after,guard⟩).run P w=.ok (.value I) w ∧
   ((Fb o=true->AR ⟨w,S,γ,β,s.ob,s.dead⟩ (.d .bool z) I)/\(Fb o=false->AR ⟨w,S,γ,β,s.ob,s.dead⟩ (.d u.1 z) I)):=by
  intro o z i;obtain⟨k,M,n,m,C,F⟩:=ints i;rw[C,F] at i;rw[C] at hx;rw[F] at hy;obtain⟨v1,t1⟩:=fU hx;obtain⟨v2,_⟩:=fU hy;rcases NC (P:=P) T w i with⟨h1,c,rfl,h2⟩|⟨h1,c,rfl,h2⟩
  ·refine⟨.bool c,by simp only[execOp,v1,v2,zma,gm,zga,h2,zua],λ_=>ib c,λh=>by rw[h1] at h;cases h⟩
  ·refine⟨.int k c,by simp only[execOp,v1,v2,zma,gm,zga,h2,zua],(λh=>by rw[h1] at h;cases h),λ_=>by rw[t1];exact dc k c⟩
 cases op<;>simp only at hq
 case eql=>
  split at hq<;>first|cases hq|skip
  rename_i j;exact⟨_,hq,.value (q false j .eql (.inl ⟨rfl,rfl⟩)) (Qp.same h (by simp only[zMd];exact ib _) _)⟩
 case neq=>
  split at hq<;>first|cases hq|skip
  rename_i j;exact⟨_,hq,.value (q true j .neq (.inr ⟨rfl,rfl⟩)) (Qp.same h (by simp only[Bool.true_xor];exact ib _) _)⟩
 all_goals
  replace hq:=ab hq;obtain⟨z,i,hq⟩:=hq;obtain⟨I,h1,h2,h3⟩:=main _ i;first
   | exact⟨_,hq,.value h1 (Qp.same h (h2 rfl) _)⟩
   | exact⟨_,hq,.value h1 (Qp.same h (h3 rfl) _)⟩
def OF(h:Rp w0 S γ β s a w){dst op T x ty pos after guard}:ki P E w0 S γ β s a w ⟨dst,.unOp op T x,ty,pos,after,guard⟩:=by
 intro R K r hq;simp only[qv] at hq;replace hq:=ab hq;obtain⟨u,hu,hq⟩:=hq;replace hq:=ab hq;obtain⟨z,c,hq⟩:=hq;have hx:=bo h x;rw[fo hu] at hx;cases hu2:u.2<;>rw[hu2] at c hx<;>simp only[afB] at c<;>first|cases c|skip
 case int k n=>
  obtain⟨v1,t1⟩:=fU hx;cases op<;>simp only[afo] at c<;>first|cases c|skip
  ·exact⟨_,hq,.value (v:=.int k (k.wrap (0-n))) (w':=w) (by simp[execOp,v1,Op.unary,Op.intArith]) (Qp.same h (by rw[t1];exact dc _ _) _)⟩
  ·exact⟨_,hq,.value (v:=.int k (k.wrap (BitVec.ofInt k.bits (if k.signed then -1 else k.max) ^^^ BitVec.ofInt k.bits n).toNat)) (w':=w) (by simp[execOp,v1,Op.unary,Op.intBits]) (Qp.same h (by rw[t1];exact dc _ _) _)⟩
 case bool b=>
  have v1:=EN hx;cases op<;>simp only at c<;>first|cases c|skip
  have ht:u.1=.bool:=by
   simp only[AR] at hx;rcases hx with⟨_,h2,_⟩|⟨e,h1,_,h2,_⟩
   ·cases hu1:u.1<;>rw[hu1] at h2<;>simp only[wt] at h2<;>first
     | rfl
     | (obtain⟨m,d⟩:=h2;cases d;done)
     | (obtain⟨m,d,_⟩:=h2;cases d;done)
     | (exfalso;exact h2)
   ·rw[h1] at h2;simp only[wt] at h2;obtain⟨l,d,_⟩:=h2;cases d
  exact⟨_,hq,.value (v:=.bool (!b)) (w':=w) (by simp[execOp,v1,Op.unary]) (Qp.same h (by rw[ht];exact ib _) _)⟩
def Ej(i:EnvOk P E)(h:Rp w0 S γ β s a w){dst U T x ty pos after guard}:ki P E w0 S γ β s a w ⟨dst,.convert U T x,ty,pos,after,guard⟩:=by
 intro R K r hq;simp only[qv] at hq;replace hq:=ab hq;obtain⟨u,hu,hq⟩:=hq;replace hq:=ab hq;obtain⟨t,ht,hq⟩:=hq;replace hq:=ab hq;obtain⟨b,j,hq⟩:=hq;have hx:=bo h x;rw[fo j] at hx;cases t<;>(try simp only at hq)<;>first|cases hq|skip
 rename_i k;split at hq<;>first|cases hq|skip
 rename_i d;replace hq:=ab hq;obtain⟨z,e,hq⟩:=hq;cases hb2:b.2<;>rw[hb2] at e hx<;>simp only[D.conv] at e<;>first|cases e|skip
 rename_i l n;obtain⟨v1,t1⟩:=fU hx;have g:=af7 _ _ d;rw[t1] at g;rw[<-g] at hu;rcases i.lay T _ ht with⟨f,c⟩|hl
 ·cases c
 rcases i.lay U _ hu with⟨f,c⟩|hl'
 ·cases c
 exact⟨_,hq,.value (v:=.int k (k.wrap n)) (w':=w) (by simp[execOp,convert,v1,run_underlying (kF hl),run_underlying (kF hl'),Conv.intToInt]) (Qp.same h (dc _ _) _)⟩
end
def jb(pre mid post cs:List Value)(h:mid.length=cs.length):fm (pre++(mid++post)).toArray pre.length cs.toArray=(pre++(cs++post)).toArray:=by unfold fm;apply zuc;simp[h];rw[zgb j1]
theorem qi:∀ {a:List D} {c1 c2:List Value},db a c1=true->db a c2=true->c1=c2
 | [],[],[],_,_=>rfl
 | [],_::_,_,h,_=>by simp[db] at h
 | [],[],_::_,_,h=>by simp[db] at h
 | _::_,[],_,h,_=>by simp[db] at h
 | _::_,_::_,[],_,h=>by simp[db] at h
 | d::a,v1::c1,v2::c2,b,c=>by
  simp only[db,zaa] at b c;rw[qi b.2 c.2];congr 1;have a1:=b.1;have a2:=c.1;cases d<;>cases v1<;>simp only[GQ] at a1<;>first|(cases a1;done)|skip
  all_goals (cases v2<;>simp only[GQ] at a2<;>first|(cases a2;done)|skip)
  all_goals simp_all
section
variable{w:World}{S:Nat->Nat->Prop}
def PV(w:World)(S:Nat->Nat->Prop)(ty:Nat->Option Ty):List (Nat×D)->List (Nat×Value)->Prop
 | [],[]=>True
 | (i,x)::ps,(j,v)::vs=>i=j/\(∃ t,ty i=some t/\wt t x/\av t=true/\gY w S x v)/\PV w S ty ps vs
 | _,_=>False
theorem uV{place:Nat->Option (Nat×Nat)}{ty:Nat->Option Ty}{off:Nat->Nat}{Good:List D->Prop}
  (d:∀ l i t z,Good l->ty i=some t->wt t z->Good (l.set i z))
  (c:∀ l i t,Good l->ty i=some t->∃ y,l[i]?=some y/\wt t y/\(aft (l.take i)).length=off i)
  (a:∀ i t,ty i=some t->place i=some (off i,t.size)) :
  ∀ (ps:List (Nat×D)) (vs:List (Nat×Value)) (l:List D) (cs:List Value),Good l->dF w S (aft l) cs->PV w S ty ps vs ->
   ∃ b:List Value,m8 place cs.toArray vs=some b.toArray/\Good (afz l ps)/\dF w S (aft (afz l ps)) b
 | [],[],l,cs,f,hc,_=>⟨cs,rfl,f,hc⟩
 | [],_::_,_,_,_,_,h=>by simp[PV] at h
 | _::_,[],_,_,_,_,h=>by simp[PV] at h
 | (i,x)::ps,(j,v)::vs,l,cs,f,hc,h=>by
  simp only[PV] at h;obtain⟨rfl,⟨t,h1,h2,h3,k⟩,r⟩:=h;obtain⟨y,m,s,u⟩:=c l i t f h1;rw[cM m] at hc;obtain⟨c1,c2⟩:=hc.split;obtain⟨p,q⟩:=c2.split;have e:cs=cs.take (aft (l.take i)).length++((cs.drop (aft (l.take i)).length).take y.flat.length++(cs.drop (aft (l.take i)).length).drop y.flat.length):=by simp only[zya]
  have n:(cs.take (aft (l.take i)).length).length=off i:=by rw[<-c1.1,u]
  have A:((cs.drop (aft (l.take i)).length).take y.flat.length).length=t.size:=by rw[<-p.1];exact cU _ _ s h3
  have o:v.cells.toList.length=t.size:=by rw[<-k.2.1];exact cU _ _ h2 h3
  have g:dF w S (aft (l.set i x)) (cs.take (aft (l.take i)).length++(v.cells.toList++(cs.drop (aft (l.take i)).length).drop y.flat.length)):=by rw[oG m];exact c1.append (k.2.append q)
  obtain⟨b,m1,m2,m3⟩:=uV d c a ps vs (l.set i x) _ (d l i t x f h1 h2) g r;refine⟨b,?_,m2,m3⟩;rw[vV (a i t h1) (by rw[<-zYb];exact o) (by rw[<-n];have:=zna List.length e;simp only[zwa] at this;simp only[zNc];omega),<-m1]
  congr 1
  conv=>lhs;rw[e]
  have:=jb (cs.take (aft (l.take i)).length) ((cs.drop (aft (l.take i)).length).take y.flat.length) ((cs.drop (aft (l.take i)).length).drop y.flat.length) v.cells.toList (by rw[A,o])
  rw[n] at this;simpa using this
end
section
variable{P:Program}{E:Env}{w0:Root}{S:Nat->Nat->Prop}{γ:Nat->Option Nat}{β:Nat->Option (Nat×Nat)}{s:St}{a:Act}{w:World}
theorem oO(h:Rp w0 S γ β s a w){ty:Nat->Option Ty}(hn:∀ i t,ty i=some t->av t=true):∀ (ps:List (Nat×Operand)) (l:List (Nat×D)),partsD s.ob s ty ps=some l->PV w S ty l (ps.map λp=>(p.1,a.eval p.2))
 | [],l,hp=>by simp_all [partsD,zea,PV]
 | (i,x)::ps,l,hp=>by simp only[partsD] at hp;replace hp:=ab hp;obtain⟨t,ht,hp⟩:=hp;replace hp:=ab hp;obtain⟨y,hy,hp⟩:=hp;replace hp:=ab hp;obtain⟨e,b,hp⟩:=hp;simp only[zea] at hp;subst hp;obtain⟨c,d⟩:=pE (hn i t ht) (bo h x) hy;simp only[zjb,PV];exact⟨trivial,⟨t,ht,c,hn i t ht,d⟩,oO h hn ps e b⟩
def kh{t:Ty}{T:TypeId}(hl:cd P t T=true):∃ z,(∀ w,(zeroValue T).run P w=.ok z w)/\db (aw t).flat z.cells.toList=true/\((∃ cs,z=.agg cs)↔dj t=true):=by
 obtain⟨i,z,h1,h2,h3,a,b,c⟩:=gA (io hl)
 simp_all [zeroValue,typeInfo]
theorem xa:∀ {b:List Ty} {a:List Field} {off:Nat} (w:World),gQ P b a off=true ->
  ((a.mapM λf=>do pure (f.offset,<-sizeOf f.type):Sem (List (Nat×Nat))).run P w=.ok (a.zipWith (λf t=>(f.offset,Ty.size t)) b) w)
 | [],[],_,w,_=>rfl
 | [],_::_,_,_,h=>by simp[gQ] at h
 | _::_,[],_,_,h=>by simp[gQ] at h
 | t::b,f::a,off,w,h=>by simp only[gQ,zaa,zfa] at h;obtain⟨⟨⟨⟨h1,h2⟩,h3⟩,c⟩,d⟩:=h;simp only[zdd,zma,cF c,zga,zua,xa w d,List.zipWith_cons_cons]
def Hl:∀ {a:List Ty} {b:List Field} {off i:Nat} {t:Ty},gQ P a b off=true->a[i]?=some t->(b.zipWith (λf t=>(f.offset,Ty.size t)) a)[i]?=some (off+aga (a.take i),t.size)
 | a,b,off,i,t,h,c=>by obtain⟨f,h1,h2,_⟩:=uW h c;grind
def rI{T:TypeId}{a:List Ty}(hl:cd P (.st a) T=true)(vs:Array (Nat×Value))(w:World){r:List Value}
  (hf:∀ z:Value,db (aw (.st a)).flat z.cells.toList=true->m8 (λi=>if i<a.length then some (aga (a.take i),(a.getD i .bool).size) else none) z.cells vs.toList=some r.toArray) :
  (Instr.build T vs).run P w=.ok (.agg r.toArray) w:=by
 obtain⟨b,h1,h2⟩:=jW hl;obtain⟨z,e,c,_⟩:=kh hl;have hlen:(b.toList.zipWith (λf t=>(f.offset,Ty.size t)) a).length=a.length:=by
  have:∀ {a:List Ty} {b:List Field} {off:Nat},gQ P a b off=true->b.length=a.length:=by
   intro a
   induction a with
   | nil=>intro b off h;cases b<;>simp[gQ] at h ⊢
   | cons t a ih=>intro b off h;cases b with
    | nil=>simp[gQ] at h
    | cons f b=>simp only[gQ,zaa] at h;simp[ih h.2]
  grind
 have hp:(λi=>(b.toList.zipWith (λf t=>(f.offset,Ty.size t)) a).toArray[i]?)=λi=>if i<a.length then some (aga (a.take i),(a.getD i .bool).size) else none:=by
  funext i;by_cases d:i<a.length
  ·have:=Hl (i:=i) h2 (zda d)
   simp_all
  ·simp_all
 have hm:(b.mapM λf=>(do pure (f.offset,<-sizeOf f.type):Sem (Nat×Nat))).run P w=.ok (b.toList.zipWith (λf t=>(f.offset,Ty.size t)) a).toArray w:=by rw[<-zpc (xs:=b),List.mapM_toArray];simp only[Sem.run_map,xa w h2,zga]
 simp only[Instr.build,zma,e,zga,run_underlying h1,hm,hp,qO,hf z c,zua]
def m9(n:Nat)(x:D):aft (List.replicate n x)=(List.replicate n x.flat).flatten:=by
 induction n with
 | zero=>rfl
 | succ n ih=>simp only[List.replicate_succ,aft,ih,List.flatten_cons]
def Pa(c:Cx)(a:List Ty):List (Nat×AV)->List (Nat×Value)->Prop
 | [],[]=>True
 | (i,x)::ps,(j,v)::vs=>i=j/\(∃ t,a[i]?=some t/\AV.fits t x=true/\AC c x v.cells.toList)/\Pa c a ps vs
 | _,_=>False
theorem BY{c:Cx}{b:List Ty}(hn:bG b=true) :
  ∀ (ps:List (Nat×AV)) (vs:List (Nat×Value)) (l:List AV) (cs:List Value),AV.fitss b l=true->mq c l cs->Pa c b ps vs ->
   ∃ a:List Value,m8 (λi=>if i<b.length then some (aga (b.take i),(b.getD i .bool).size) else none) cs.toArray vs=some a.toArray/\AV.fitss b (oP l ps)=true/\mq c (oP l ps) a
 | [],[],l,cs,hf,hc,_=>⟨cs,rfl,hf,hc⟩
 | [],_::_,_,_,_,_,h=>by simp[Pa] at h
 | _::_,[],_,_,_,_,h=>by simp[Pa] at h
 | (i,x)::ps,(j,v)::vs,l,cs,hf,hc,h=>by
  simp only[Pa] at h;obtain⟨rfl,⟨t,h1,h2,h3⟩,e⟩:=h;obtain⟨y,g,k⟩:=vZ hf h1;obtain⟨pre,mid,post,rfl,m1,m2,m3⟩:=uK hf hn hc g;have m:=(jd _ _ _ k m2).1;have d:=(jd _ _ _ h2 h3).1;obtain⟨a,n1,n2,n⟩:=BY hn ps vs (l.set i x) _ (oE hf h1 h2) (m3 x _ h3) e;refine⟨a,?_,n2,n⟩;have f:=(zra.1 h1).1;rw[vV (off:=aga (b.take i)) (size:=t.size) (by rw[zja f];simp[List.getD,h1]) (by rw[<-zYb];exact d) (by simp;omega),<-n1]
  congr 1;have:=jb pre mid post v.cells.toList (by rw[m,d])
  simp_all
def Kj(J:EnvOk P E)(h:Rp w0 S γ β s a w){dst T ps ty pos after guard}:ki P E w0 S γ β s a w ⟨dst,.build T ps,ty,pos,after,guard⟩:=by
 intro R K r hq;simp only[qv] at hq;replace hq:=ab hq;obtain⟨t,ht,hq⟩:=hq;have hex:execOp a.eval ⟨dst,.build T ps,ty,pos,after,guard⟩=(Instr.build T (ps.map λp=>(p.1,a.eval p.2)) >>= λv=>pure (.value v)):=rfl;have o:(ps.map λp=>(p.1,a.eval p.2)).toList=ps.toList.map λp=>(p.1,a.eval p.2):=j3
 cases t<;>(try simp only at hq)<;>first|cases hq|skip
 case st ts=>
  rcases J.lay T _ ht with⟨I,q⟩|hl
  ·cases q
  have hn:=aT _ _ hl;simp only[av] at hn;split at hq
  ·rename_i L;split at hq<;>first|cases hq|skip
   rename_i A;have j:∀ (l:List (Nat×Operand)),l.all (gP s ts)=true->Pa ⟨w,S,γ,β,s.ob,s.dead⟩ ts (l.map λp=>(p.1,s.opA p.2)) (l.map λp=>(p.1,a.eval p.2)):=by
    intro l
    induction l with
    | nil=>intro _;simp[Pa]
    | cons p l ih=>
     intro F;simp only[z1b,zaa] at F;simp only[zjb,Pa];refine⟨trivial,?_,ih F.2⟩;have h1:=F.1;unfold gP at h1;split at h1<;>first|cases h1|skip
     rename_i u hu;exact⟨u,hu,h1,(Bo h1 (cu hn hu) (bo h p.2)).1⟩
   obtain⟨z,k,f,_⟩:=kh hl;have H:mq ⟨w,S,γ,β,s.ob,s.dead⟩ (li ts) z.cells.toList:=mX ts _ hn (by simpa [aw,D.flat] using f)
   obtain⟨b,m1,m2,m3⟩:=BY hn _ _ _ _ (kM ts hn) H (j ps.toList A);have d:(Instr.build T (ps.map λp=>(p.1,a.eval p.2))).run P w=.ok (.agg b.toArray) w:=by
    obtain⟨N,h1,h2⟩:=jW hl;refine rI hl _ w (r:=b) λC m=>?_;have M:mq ⟨w,S,γ,β,s.ob,s.dead⟩ (li ts) C.cells.toList:=mX ts _ hn (by simpa [aw,D.flat] using m)
    have:C.cells=z.cells:=zuc (qi m f)
    simp_all
   exact⟨_,hq,.value (v:=.agg b.toArray) (w':=w) (by rw[hex];simp only[zma,d,zga,zua]) (Qp.same h (by simp only[AR];exact⟨⟨_,rfl⟩,by simp only[AC];exact⟨hn,m2,by simpa [Value.cells] using m3⟩⟩) _)⟩
  ·replace hq:=ab hq;obtain⟨l,hp,hq⟩:=hq;have j:=oO h (ty:=λi=>ts[i]?) (λi t c=>cu hn c) _ _ hp;have main:∀ z:Value,db (aw (.st ts)).flat z.cells.toList=true->∃ b:List Value,m8 (λi=>if i<ts.length then some (aga (ts.take i),(ts.getD i .bool).size) else none) z.cells (ps.toList.map λp=>(p.1,a.eval p.2))=some b.toArray/\fY ts (afz (gX ts) l)/\dF w S (aft (afz (gX ts) l)) b:=by
    intro z k;refine uV (ty:=λi=>ts[i]?) (off:=λi=>aga (ts.take i)) (Good:=λl=>fY ts l) (λl i t z g c k=>Bk g c k) (λl i t g c=>?_) (λi t c=>?_) l _ (gX ts) z.cells.toList (qj ts hn) (cX (by simpa [aw,D.flat] using k)) j
    ·obtain⟨y,h1,h2⟩:=iO g c;exact⟨y,h1,h2,rX _ _ (rY i g) (iY i hn)⟩
    ·rw[zja (zra.1 c).1];simp only[List.getD,c,zZb]
   obtain⟨z,k,f,_⟩:=kh hl;obtain⟨b,m1,m2,m3⟩:=main z f;have d:(Instr.build T (ps.map λp=>(p.1,a.eval p.2))).run P w=.ok (.agg b.toArray) w:=by refine rI hl _ w (r:=b) λC m=>?_;have:C.cells=z.cells:=zuc (qi m f);rw[this,o,<-m1]
   have hw:wt (.st ts) (.st (afz (gX ts) l)):=by simp only[wt];exact⟨_,rfl,m2⟩
   exact⟨_,hq,.value (v:=.agg b.toArray) (w':=w) (by rw[hex];simp only[zma,d,zga,zua]) (Qp.same h (eC (by simpa [av] using hn) hw ⟨⟨_,rfl⟩,by simpa [Value.cells,D.flat] using m3⟩) _)⟩
 case arr n e=>
  rcases J.lay T _ ht with⟨I,q⟩|hl
  ·cases q
  have hn:=aT _ _ hl;simp only[av] at hn;replace hq:=ab hq;obtain⟨l,hp,hq⟩:=hq;have j:=oO h (ty:=λi=>if i<n then some e else none) (λi t c=>by split at c<;>first|(cases c;exact hn)|cases c) _ _ hp
  have main:∀ z:Value,db (aw (.arr n e)).flat z.cells.toList=true->∃ b:List Value,m8 (λi=>some (i*e.size,e.size)) z.cells (ps.toList.map λp=>(p.1,a.eval p.2))=some b.toArray/\((afz (List.replicate n (aw e)) l).length=n/\∀ x∈afz (List.replicate n (aw e)) l,wt e x)/\dF w S (aft (afz (List.replicate n (aw e)) l)) b:=by
   intro z k;refine uV (ty:=λi=>if i<n then some e else none) (off:=λi=>i*e.size) (Good:=λl=>l.length=n/\∀ x∈l,wt e x) (λl i t z g c k=>?_) (λl i t g c=>?_) (λi t c=>?_) l _ (List.replicate n (aw e)) z.cells.toList ⟨j3,λx hx=>by rw[(zqd.1 hx).2];exact dC e hn⟩ (cX (by simpa [aw,D.flat] using k)) j
   ·split at c<;>first|cases c|skip
    refine⟨by simpa using g.1,λx hx=>?_⟩
    rcases zUc hx with h|h
    ·exact g.2 x h
    ·rw[h];exact k
   ·split at c<;>first|cases c|skip
    rename_i G;have B:i<l.length:=by rw[g.1];exact G
    refine⟨l[i],zda B,g.2 _ (zBa B),?_⟩;rw[aP hn _ (λx hx=>g.2 x (zVa hx)),zkb,zIb j1]
   ·split at c<;>first|cases c|skip
    rfl
  obtain⟨z,k,f,_⟩:=kh hl;obtain⟨b,m1,m2,m3⟩:=main z f;have d:(Instr.build T (ps.map λp=>(p.1,a.eval p.2))).run P w=.ok (.agg b.toArray) w:=by obtain⟨u,h1,h2⟩:=fq hl;simp only[Instr.build,zma,k,zga,run_underlying h1,cF h2,qO,o,m1,zua]
  have hw:wt (.arr n e) (.st (afz (List.replicate n (aw e)) l)):=by simp only[wt];exact⟨_,rfl,m2⟩
  exact⟨_,hq,.value (v:=.agg b.toArray) (w':=w) (by rw[hex];simp only[zma,d,zga,zua]) (Qp.same h (eC (by simpa [av] using hn) hw ⟨⟨_,rfl⟩,by simpa [Value.cells,D.flat] using m3⟩) _)⟩
def El(h:Rp w0 S γ β s a w){dst x i ty pos after guard}:ki P E w0 S γ β s a w ⟨dst,.extract x i,ty,pos,after,guard⟩:=by
 intro R K r hq;simp only[qv] at hq;have hx:=bo h x;generalize s.opA x=y at *;split at hq<;>first|cases hq|skip
 rename_i o z;replace hq:=ab hq;obtain⟨u,hu,hq⟩:=hq;replace hq:=ab hq;obtain⟨n,d,hq⟩:=hq;simp only[AR] at hx;rcases hx with⟨h1,_⟩|⟨m,e,hn,h2,h3⟩
 ·simp[av] at h1
 ·cases e;simp only[wt] at h2;obtain⟨l,rfl,hw⟩:=h2;simp only[D.tupAt] at d;simp only[DR] at h3;obtain⟨vs,j,hlen,c⟩:=h3;have f:i<vs.length:=x6
  obtain⟨z2,g,k⟩:=iO hw hu;rw[d] at g;cases g;have b:=c i n vs[i] d (zda f);exact⟨_,hq,.value (v:=vs[i]) (w':=w) (by simp[execOp,Instr.extract,j,f]) (Qp.same h (eC (cu hn hu) k b) _)⟩
def CU(h:Rp w0 S γ β s a w){dst fn first captured ty pos after guard}:ki P E w0 S γ β s a w ⟨dst,.makeFunc fn first captured,ty,pos,after,guard⟩:=by
 intro R K r hq;simp only[qv] at hq;split at hq<;>first|cases hq|skip
 rename_i f;split at hq<;>first|cases hq|skip
 rename_i hf;have e:first=#[]:=Array.eq_empty_of_size_eq_zero hf.1
 refine⟨_,hq,.value (v:=.func (.func f) #[] (captured.map a.eval)) (w':=w) (by simp[execOp,Instr.makeFunc,e]) (Qp.same h ?_ _)⟩
 simp only[AR,AC];refine⟨j3,(captured.toList.map a.eval),by rw[show captured.map a.eval=(captured.toList.map a.eval).toArray from zuc j3];simp[Value.cells],?_⟩
 have h2:=hf.2;clear hf hq;generalize captured.toList=l at *
 induction l with
 | nil=>simp[ph]
 | cons x l ih=>
  simp only[z1b,zaa] at h2;simp only[zjb,ph];refine⟨_,_,rfl,?_,ih h2.2⟩;have h3:=h2.1;have b:=bo h x;cases hx:s.opA x<;>rw[hx] at h3 b<;>simp only[gE] at h3<;>first|(cases h3;done)|skip
  simp only[AR] at b;obtain⟨c,d⟩:=b
  simp_all [Value.cells]
end
theorem hC{α:Type}(l:List α):∀ (n i:Nat),i<n*l.length->((List.replicate n l).flatten)[i]?=l[i%l.length]?
 | 0,i,h=>j1
 | n+1,i,h=>by
  rw[List.replicate_succ,List.flatten_cons,zSc];by_cases hi:i<l.length
  ·simp_all [zXa]
  ·rw[zia hi,hC l n (i-l.length) (by rw[zhb] at h;omega)]
   rw[<-Nat.mod_eq_sub_mod j1]
def zG{w:World}{S:Nat->Nat->Prop}{e:Ty}{a:Array Value}{m:Nat}(j:db (aw e).flat a.toList=true)(hs:a.size=m)(n:Nat) :
  dF w S (aft (List.replicate n (aw e))) ((Array.range (n*m)).map λi=>a[i%a.size]!).toList:=by
 have h0:=cX (w:=w) (S:=S) j;have hl:(aw e).flat.length=m:=by rw[h0.1];simpa using hs
 refine⟨by rw[m9];simp[hl],λi d c b hc=>?_⟩
 rw[m9] at b;have g:i<n*m:=by have:=(zra.1 hc).1;simpa using this
 rw[hC _ _ _ (by rw[hl];exact g),hl] at b
 have hm:0<m:=by
  rcases zNb m with h|h
  ·subst h;omega
  ·exact h
 have f:i%m<a.size:=by rw[hs];exact z5a _ hm
 refine h0.2 (i%m) d c b ?_;simp only[Array.toList_map,zmb,Array.toList_range,zmd g,zMb,zea] at hc;rw[<-hc,hs];simp[f]
section
variable{P:Program}{E:Env}{w0:Root}{S:Nat->Nat->Prop}{γ:Nat->Option Nat}{β:Nat->Option (Nat×Nat)}{s:St}{a:Act}{w:World}
def oR{c:Array Value}{t:TypeId}:cg (grown w [.cells c t] w.drawn) w.heap.size=some c:=by rw[<-eB];exact w6 w _ rfl
def C2{c:Array Value}{t:TypeId}{d:Nat}:cg (grown w [.cells c t] d) w.heap.size=some c:=by have:=oR (w:=w) (c:=c) (t:=t);rw[show cg (grown w [.cells c t] d) w.heap.size=cg (grown w [.cells c t] w.drawn) w.heap.size from rfl];exact this
def GL{c:Array Value}{t:TypeId}{d:Nat}(j:Nat):(grown w [.cells c t] d).cell? ⟨w.heap.size,j,none⟩=c[j]?:=cell_of_row _ C2 j
def AG(h:Rp w0 S γ β s a w){v:Nat}(B:β v=none)(r:v<s.base+4096){e:Ty}(hn:av e=true){l:List D}(hl:∀ x∈l,wt e x){cs:List Value}(hc:dF w S (aft l) cs){T:TypeId}{rest:List Value}{cap:Nat}(d:Nat)(q:w.drawn<=d)(j:l.length<=cap)(t:cs.length+rest.length=cap*e.size) :
  ∃ S' β',Rp w0 S' γ β' s a (grown w [.cells (cs++rest).toArray T] d)/\AR ⟨grown w [.cells (cs++rest).toArray T] d,S',γ,β',s.ob,s.dead⟩ (.own e v l) (.slice (some ⟨w.heap.size,0,none⟩) l.length cap) ∧
   (∀ b o,S b o->S' b o)/\(∀ u,u≠v->β' u=β u)/\β' v=some (w.heap.size,l.length*e.size)/\(∀ b o,S' b o->S b o\/b=w.heap.size):=by
 let S':Nat->Nat->Prop:=λb o=>S b o\/(b=w.heap.size/\o<l.length*e.size)
 have p:∀ b o,S' b o->S b o\/(w.heap.size<=b/\b<(grown w [.cells (cs++rest).toArray T] d).heap.size):=λb o g=>by
  rcases g with g|⟨rfl,_⟩
  ·exact .inl g
  ·exact .inr ⟨zka _,j3⟩
 obtain⟨h1,m⟩:=h.grow (os:=[.cells (cs++rest).toArray T]) (d:=d) q (S':=S') (λb o g=>.inl g) p;have y:¬ w0.Old w.heap.size:=λz=>by have:=z.1;have:=h.ext.sz;omega
 obtain⟨h2,C⟩:=h1.newTok (v:=v) (b:=w.heap.size) (e:=l.length*e.size) B y j3 (λid hid=>by have:=(h.γn id _ hid).2;omega) (λu f hu hf=>by have:=(h.βn u _ _ hu hf).2.1;omega) r
  (λo z hs=>hs.elim (λhs=>by have:=h.Sb _ _ hs;omega) λhs=>j1)
 refine⟨S',qg β v (w.heap.size,l.length*e.size),h2,?_,λb o g=>.inl g,λu hu=>cw β _ hu,bX β _ _,λb o g=>g.imp id λA=>A.1⟩;have hlen:cs.length=l.length*e.size:=by rw[<-hc.1];exact aP hn l hl
 simp only[AR,AC,Value.cells];refine⟨j3,hn,hl,_,cap,rfl,?_,λ_=>.inr ⟨w.heap.size,0,rfl,by simp[bX],(cs++rest).length,?_,?_⟩⟩
 ·refine afj (b:=w.heap.size) (off:=0) (.inr rfl) j ⟨cs,hc.mono m.cell m.S,λi c k=>?_⟩;have r:=(zra.1 k).1;refine⟨.inr ⟨rfl,j1⟩,?_⟩
  rw[GL];simp only[zKc,zfb];rw[zBb r];exact k
 ·simp[n8,C2]
 ·simp;omega
def xQ(L:EnvOk P E)(h:Rp w0 S γ β s a w){dst T n ps ty pos after guard}(hf:Fr E s γ β ⟨dst,.buildSlice T n ps,ty,pos,after,guard⟩):ki P E w0 S γ β s a w ⟨dst,.buildSlice T n ps,ty,pos,after,guard⟩:=by
 intro R K r hq;simp only[qv] at hq;replace hq:=ab hq;obtain⟨t,ht,hq⟩:=hq;cases t<;>(try simp only at hq)<;>first|(cases hq;done)|skip
 rename_i e;rcases L.lay T _ ht with⟨Y,D⟩|hl
 ·cases D
 have hn:=aT _ _ hl;simp only[av] at hn;split at hq<;>first|(cases hq;done)|skip
 rename_i B;replace hq:=ab hq;obtain⟨d,J,hq⟩:=hq;replace hq:=ab hq;obtain⟨l,hp,hq⟩:=hq;obtain⟨M,Z,Q,_⟩:=hf rfl d J;have C:=oO h (ty:=λi=>if i<n then some e else none) (λi t b=>by split at b<;>first|(cases b;exact hn)|cases b) _ _ hp
 obtain⟨u,h1,h2⟩:=jV hl;obtain⟨z,F,o,_⟩:=kh h2;obtain⟨i0,z0,N,O,oZ,_⟩:=gA (io h2);have H:z.cells.size=e.size:=by have:=(cX (w:=w) (S:=S) o).1;rw[<-zYb,<-this];exact cU _ _ (dC e hn) hn
 have hzero:dF w S (aft (List.replicate n (aw e))) ((Array.range (n*e.size)).map λi=>z.cells[i%z.cells.size]!).toList:=zG o H n;obtain⟨f,m1,m2,m3⟩:=uV (place:=λi=>some (i*e.size,e.size)) (ty:=λi=>if i<n then some e else none) (off:=λi=>i*e.size) (Good:=λl=>l.length=n/\∀ x∈l,wt e x) (λl i t z c b F=>by
   split at b<;>first|(cases b;done)|skip
   have:e=t:=by injection b
   subst this;refine⟨by simpa using c.1,λx hx=>?_⟩
   rcases zUc hx with h|h
   ·exact c.2 x h
   ·rw[h];exact F) (λl i t c b=>by
   split at b<;>first|(cases b;done)|skip
   rename_i A;have:e=t:=by injection b
   subst this;have g:i<l.length:=by rw[c.1];exact A
   refine⟨l[i],zda g,c.2 _ (zBa g),?_⟩;rw[aP hn _ (λx hx=>c.2 x (zVa hx)),zkb,zIb j1]) (λi t b=>by
   split at b<;>first|(cases b;done)|skip
   have:e=t:=by injection b
   subst this;rfl) l _ (List.replicate n (aw e)) _ ⟨j3,λx hx=>by rw[(zqd.1 hx).2];exact dC e hn⟩ hzero C
 obtain⟨S',β',U,V,W,X,k5,_⟩:=AG h (v:=s.base+d) Q j1 hn m2.2 m3 (T:=u) (rest:=[]) (cap:=n) w.drawn (zka _) (by rw[m2.1];exact zka _) (by rw[zJb,zjc,<-m3.1,aP hn _ m2.2,m2.1])
 have m:¬ n*e.size>2^24:=by have:n*e.size<=4096*4096:=z9a B oZ.2;omega
 have j:(ps.map λp=>(p.1,a.eval p.2)).toList=ps.toList.map λp=>(p.1,a.eval p.2):=j3
 have k:(Instr.buildSlice T n (ps.map λp=>(p.1,a.eval p.2))).run P w=.ok (.slice (some ⟨w.heap.size,0,none⟩) n n) (grown w [.cells f.toArray u] w.drawn):=by
  have key:∀ q:Array Value,((Array.range (n*e.size)).map λi=>q[i%q.size]!)=((Array.range (n*e.size)).map λi=>z.cells[i%z.cells.size]!) ->
    m8 (λi=>some (i*e.size,e.size)) ((Array.range (n*e.size)).map λi=>q[i%q.size]!) (ps.map λp=>(p.1,a.eval p.2)).toList=some f.toArray:=λq G=>by
   rw[G,j];rw[zpc] at m1;exact m1
  by_cases h0:n*e.size=0
  ·have I:=key #[] (by simp[h0])
   simp only[Instr.buildSlice,zma,run_underlying h1,zga,cF h2,m,if_false,zja h0,pure_bind,qO,I,newRow,run_newObj,zua];rw[<-eB];rfl
  ·have I:=key z.cells rfl;simp only[Instr.buildSlice,zma,run_underlying h1,zga,cF h2,m,if_false,zia h0,bind_pure_comp,Sem.run_map,F,pure_bind,qO,I,newRow,run_newObj,zua];rw[<-eB];rfl
 have hex:execOp a.eval ⟨dst,.buildSlice T n ps,ty,pos,after,guard⟩=(Instr.buildSlice T n (ps.map λp=>(p.1,a.eval p.2)) >>= λv=>pure (.value v)):=rfl;rw[zzb,m2.1] at *;refine⟨_,hq,.value (by rw[hex];simp only[zma,k,zga,zua]) ⟨S',γ,β',U,V,W,⟨_,_,rfl⟩,λ_ _ y=>y,λid hid=>⟨rfl,X id λy=>?_⟩⟩⟩
 subst y;rcases hid with hid|hid
 ·rw[J] at hid;exact hid (by rw[zPb])
 ·omega
end
mutual
theorem Iv:∀ (x y:D),D.beq x y=true->x=y
 | .int k n,y,h=>by cases y<;>simp_all [D.beq]
 | .bool b,y,h=>by cases y<;>simp_all [D.beq]
 | .str b,y,h=>by cases y<;>simp_all [D.beq]
 | .st l,y,h=>by
  cases y<;>simp only[D.beq] at h<;>first|(cases h;done)|skip
  rw[E0 _ _ h]
 | .sl l,y,h=>by cases y<;>simp[D.beq] at h
 | .tup l,y,h=>by cases y<;>simp[D.beq] at h
theorem E0:∀ (l l':List D),D.beqs l l'=true->l=l'
 | [],l',h=>by cases l'<;>simp_all [D.beqs]
 | x::l,l',h=>by
  cases l' with
  | nil=>simp[D.beqs] at h
  | cons y l'=> simp only[D.beqs,zaa] at h;rw[Iv _ _ h.1,E0 _ _ h.2]
end
section
variable{P:Program}{E:Env}{w0:Root}{S:Nat->Nat->Prop}{γ:Nat->Option Nat}{β:Nat->Option (Nat×Nat)}{s:St}{a:Act}{w:World}
theorem pR{α:Type}(g:α->PUnit->Sem (ForInStep PUnit)){w:World}:∀ (l:List α),(∀ x∈l,(g x ⟨⟩).run P w=.ok (.yield ⟨⟩) w)->(forIn l PUnit.unit g).run P w=.ok ⟨⟩ w
 | [],_=>rfl
 | x::l,h=>by simp only[List.forIn_cons,zma,h x zva,zga];exact pR g l λy hy=>h y (zoa _ hy)
def mF{w:World}{b n:Nat}{es:Array MapEntry}(h:w.heap[b]?=some (.map es n)):(getObj b).run P w=.ok (.map es n) w:=by simp[getObj,Sem.run,h]
mutual
theorem kw:∀ (ty:Ty) (T:TypeId) (x:D) (cx:List Value) (vx:Value) (n:Nat) (e:Bool),cd P ty T=true->cn ty=true->ty.high<=n->wt ty x->dF w S x.flat cx->ia ty cx vx->∀ w',(Instr.checkKey e n T vx).run P w'=.ok () w'
 | .int k,T,x,cx,vx,n,e,hl,_,hd,hx,rx,ix,w'=>by
  simp only[wt] at hx;obtain⟨m,rfl⟩:=hx;obtain⟨c1,rfl,r1⟩:=rx.single';rw[fO ix rfl,r1.int_inv];obtain⟨n,rfl⟩:∃ e,n=e+1:=⟨n-1,by simp only[Ty.high] at hd;omega⟩
  simp only[Instr.checkKey,zma,run_underlying (kF hl),zga,zua]
 | .bool,T,x,cx,vx,n,e,hl,_,hd,hx,rx,ix,w'=>by
  simp only[wt] at hx;obtain⟨m,rfl⟩:=hx;obtain⟨c1,rfl,r1⟩:=rx.single';rw[fO ix rfl,r1.bool_inv];obtain⟨n,rfl⟩:∃ e,n=e+1:=⟨n-1,by simp only[Ty.high] at hd;omega⟩
  have hu:P.underlying T=some .bool:=by simp only[cd,zaa] at hl;all_goals grind
  simp only[Instr.checkKey,zma,run_underlying hu,zga,zua]
 | .st ts,T,x,cx,vx,n,e,hl,hc,hd,hx,rx,ix,w'=>by
  simp only[wt] at hx;obtain⟨l,rfl,hx⟩:=hx;rw[jE ix rfl];obtain⟨fs,h1,h2⟩:=jW hl;simp only[Ty.high] at hd;obtain⟨n,rfl⟩:∃ e,n=e+1:=⟨n-1,j1⟩
  simp only[cn] at hc;simp only[D.flat] at rx;simp only[Instr.checkKey,zma,run_underlying h1,zga];rw[<-Array.forIn_toList,pR (P:=P) (w:=w')]
  ·rfl
  ·intro f hf;have key:=nI ts fs.toList 0 l [] cx cx.toArray n e h2 hc j1 hx rx rfl rfl w' f hf
   by_cases hn : f.name ≠ "_"
   ·rw[zja hn] at key ⊢;simp only[zma] at key ⊢;cases hp:(part f.type cx.toArray f.offset).run P w' with
    | ok v w2=> rw[hp] at key;simp only[zga] at key ⊢;rw[key];rfl
    | _=>rw[hp] at key;simp[Result.andThen] at key
   ·rw[zia hn];rfl
 | .arr m t,T,x,cx,vx,n,e,hl,hc,hd,hx,rx,ix,w'=>by
  simp only[wt] at hx;obtain⟨l,rfl,hxl,hx⟩:=hx;rw[jE ix rfl];obtain⟨u,h1,h2⟩:=fq hl;simp only[Ty.high] at hd;obtain⟨n,rfl⟩:∃ e,n=e+1:=⟨n-1,j1⟩
  simp only[cn] at hc;simp only[D.flat] at rx;have hn:=aT _ _ h2;simp only[Instr.checkKey,zma,run_underlying h1,zga];rw[Std.Legacy.Range.forIn_eq_forIn_range',pR (P:=P) (w:=w')]
  ·rfl
  ·intro j hj;have hjn:j<m:=by simp at hj;omega
   have e1:l[j]?=some (l.getD j (.bool false)):=by simp[List.getD,zda (hxl ▸ hjn)]
   generalize l.getD j (.bool false)=dx at *;have wx:=hx dx (zlb e1);have rx':=rx;rw[cM e1] at rx';obtain⟨p1,p2⟩:=rx'.split;obtain⟨p3,p4⟩:=p2.split;have o1:(cx.take (aft (l.take j)).length).length=j*t.size:=by rw[<-p1.1,aP hn _ (λx hx'=>hx x (zVa hx')),zkb,zIb j1]
   obtain⟨v1,r1,i1⟩:=ja h2 (cs:=cx.toArray) (pre:=cx.take (aft (l.take j)).length) (mid:=(cx.drop (aft (l.take j)).length).take dx.flat.length) (post:=(cx.drop (aft (l.take j)).length).drop dx.flat.length)
     (by simp only[zya]) (by rw[<-p3.1];exact cU _ _ wx hn) p3.nag w'
   rw[o1] at r1;have r3:=kw t u dx _ v1 n e h2 hc j1 wx p3 i1 w'
   simp only[zma,cF h2,zga,r1,r3,zua]
 | .str,_,_,_,_,_,_,_,hc,_,_,_,_,_=>by simp[cn] at hc
 | .sl _,_,_,_,_,_,_,_,hc,_,_,_,_,_=>by simp[cn] at hc
 | .tup _,_,_,_,_,_,_,_,hc,_,_,_,_,_=>by simp[cn] at hc
 | .fn,_,_,_,_,_,_,_,hc,_,_,_,_,_=>by simp[cn] at hc
theorem nI:∀ (ts:List Ty) (fs:List Field) (off:Nat) (l:List D) (px cx:List Value) (xs:Array Value) (n:Nat) (e:Bool),gQ P ts fs off=true->nJ ts=true->af9 ts<=n->fY ts l->dF w S (aft l) cx ->
  xs.toList = px ++ cx -> px.length = off -> ∀ w', ∀ f ∈ fs, (if f.name ≠ "_" then (part f.type xs f.offset >>= λv => Instr.checkKey e n f.type v) else pure ()).run P w' = .ok () w'
 | [],fs,off,l,px,cx,xs,n,e,hf,_,_,_,_,_,_,w'=>by all_goals grind [gQ]
 | t::ts,[],off,l,px,cx,xs,n,e,hf,_,_,_,_,_,_,w'=>by simp[gQ] at hf
 | t::ts,f::fs,off,l,px,cx,xs,n,e,hf,hc,hd,hx,rx,ex,lx,w'=>by
  simp only[gQ,zaa,zfa] at hf;obtain⟨⟨⟨⟨h1,h2⟩,h3⟩,h4⟩,h5⟩:=hf;simp only[fY] at hx;obtain⟨dx,l,rfl,hx1,hx2⟩:=hx;simp only[aft] at rx;obtain⟨p3,p4⟩:=rx.split;have hn:=aT _ _ h4;simp only[nJ,zaa] at hc;simp only[af9] at hd;obtain⟨v1,r1,i1⟩:=ja h4 (cs:=xs) (pre:=px) (mid:=cx.take dx.flat.length) (post:=cx.drop dx.flat.length) (by rw[ex,zya]) (by rw[<-p3.1];exact cU _ _ hx1 hn) p3.nag w'
  rw[lx,<-h1] at r1;have r3:=kw t f.type dx _ v1 n e h4 hc.1 j1 hx1 p3 i1 w'
  have hs1:(cx.take dx.flat.length).length=t.size:=by rw[<-p3.1];exact cU _ _ hx1 hn
  have ih:=nI ts fs (off+t.size) l (px++cx.take dx.flat.length) (cx.drop dx.flat.length) xs n e h5 hc.2 j1 hx2 p4
   (by rw[zTa,zya];exact ex) (by rw[zwa,lx,hs1]) w'
  intro g hg;rcases zEa.1 hg with rfl|hg
  ·rw[zja h2,zma,r1,zga,r3]
  ·exact ih g hg
end
def Dr:List D->D->List MapEntry->Nat->Option (Nat×Value)
 | .st [k,_]::l,x,e::es,i=>if D.beq x k then some (i,e.val) else Dr l x es (i+1)
 | _,_,_,_=>none
theorem vY{c:Cx}{f vt:Ty}{T:TypeId}{x:D}{g:Value}(hl:cd P f T=true)(hc:cn f=true)(hx:wt f x)(rx:gY c.w c.S x g){desc:TypeDesc}(hu:P.underlying T=some desc):∀ (l:List D) (es:List MapEntry) (j i:Nat) (r:Option (Nat×Value)),jI c f vt j l es->Instr.findNow desc g es i=some r->r=Dr l x es i
 | [],[],j,i,r,_,h=>by simp only[Instr.findNow,zea] at h;rw[<-h];rfl
 | [],_::_,j,i,r,h,_=>h.elim
 | _::_,[],j,i,r,h,_=>h.elim
 | y::l,e::es,j,i,r,h,d=>by
  simp only[jI] at h;obtain⟨⟨_,k,v,rfl,hk,q,o,s⟩,h2⟩:=h;simp only[Instr.findNow] at d;have key:∀ b,Instr.sameNow desc g e.key=some b->b=D.beq x k:=by
   intro b a;cases f<;>simp only[wt] at hx hk
   case int kk=> obtain⟨n,rfl⟩:=hx;obtain⟨m,rfl⟩:=hk;rw[rx.int_inv,o.int_inv] at a;rw[kF hl] at hu;cases hu;simp only[Instr.sameNow,if_true,zea] at a;rw[<-a];simp[D.beq];rfl
   case bool=> obtain⟨n,rfl⟩:=hx;obtain⟨m,rfl⟩:=hk;rw[rx.bool_inv,o.bool_inv] at a;simp only[cd,zaa] at hl;have h3:=hl.2;rw[hu] at h3;cases desc<;>simp at h3;simp only[Instr.sameNow,zea] at a;rw[<-a];rfl
   case st ts=> obtain⟨p,h3,_⟩:=jW hl;rw[hu] at h3;cases h3;simp[Instr.sameNow] at a
   case arr m t=> obtain⟨u,h3,_⟩:=fq hl;rw[hu] at h3;cases h3;simp[Instr.sameNow] at a
   all_goals simp[cn] at hc
  cases hs:Instr.sameNow desc g e.key with
  | none=>rw[hs] at d;simp at d
  | some b=>
   rw[hs] at d;have:=key b hs;subst this;cases a:D.beq x k
   ·rw[a] at d;simp only at d;have:=vY hl hc hx rx hu l es (j+1) (i+1) r h2 d;grind [Dr,Bool.false_eq_true]
   ·grind [Option.some.injEq,Dr]
theorem pw{c:Cx}{a vt:Ty}{T:TypeId}{x:D}{b:Value}(hl:cd P a T=true)(hc:cn a=true)(f:a.high<=1000)(hx:wt a x)(rx:gY c.w c.S x b)(w':World):∀ (l:List D) (es:List MapEntry) (j i:Nat),jI c a vt j l es->(Instr.findAsking T b es i).run P w'=.ok (Dr l x es i) w'
 | [],[],j,i,_=>rfl
 | [],_::_,j,i,h=>h.elim
 | _::_,[],j,i,h=>h.elim
 | y::l,e::es,j,i,h=>by
  simp only[jI] at h;obtain⟨⟨_,k,v,rfl,hk,m,d,n⟩,h2⟩:=h;have hn:=aT _ _ hl;have i1:ia a b.cells.toList b:=⟨rfl,qh hx hn rx.1⟩;have i2:ia a e.key.cells.toList e.key:=⟨rfl,qh hk hn d.1⟩;have g:=qH a T x k _ _ _ _ 10000 hl hc j1 hx hk rx.2 d.2 i1 i2 w'
  simp only[Instr.findAsking,Op.equal,Op.maxDepth,zma,g,zga,Dr];cases D.beq x k
  ·simp only[zFa,if_false];exact pw hl hc f hx rx w' l es (j+1) (i+1) h2
  ·simp
def vX{c:Cx}{a vt:Ty}{T:TypeId}{x:D}{b:Value}(hl:cd P a T=true)(hc:cn a=true)(e:a.high<=1000)(hx:wt a x)(rx:gY c.w c.S x b)(w':World){l:List D}{es:List MapEntry}{j:Nat}(h:jI c a vt j l es) :
  (Instr.findKey T b es).run P w'=.ok (Dr l x es 0) w':=by
 have hu:∃ d,P.underlying T=some d:=by
  cases a<;>simp only[cn] at hc<;>first|(cases hc;done)|skip
  ·exact⟨_,kF hl⟩
  ·simp only[cd,zaa] at hl;have h2:=hl.2;split at h2
   ·rename_i hu;exact⟨_,hu⟩
   ·cases h2
  ·obtain⟨g,h1,_⟩:=jW hl;exact⟨_,h1⟩
  ·obtain⟨u,h1,_⟩:=fq hl;exact⟨_,h1⟩
 obtain⟨d,hu⟩:=hu;simp only[Instr.findKey,zma,run_underlying hu,zga];split
 ·rename_i r f;rw[vY hl hc hx rx hu l es j 0 r h f];rfl
 ·exact pw hl hc e hx rx w' l es j 0 h
theorem Fp{c:Cx}{a vt:Ty}{x:D}:∀ (l:List D) (es:List MapEntry) (j i:Nat),jI c a vt j l es ->
  match Dr l x es i with
  | none=>afu l x=none
  | some (_,v)=>∃ d,afu l x=some d/\wt vt d/\gY c.w c.S d v
 | [],[],j,i,_=>rfl
 | [],_::_,j,i,h=>h.elim
 | _::_,[],j,i,h=>h.elim
 | y::l,e::es,j,i,h=>by
  simp only[jI] at h;obtain⟨⟨_,k,v,rfl,hk,b,f,g⟩,h2⟩:=h;simp only[Dr,afu];cases hb:D.beq x k
  ·simp only[zFa,if_false];exact Fp l es (j+1) (i+1) h2
  ·simp_all
def Hq(hE:EnvOk P E)(h:Rp w0 S γ β s a w){dst T x i cok ty pos after guard}:ki P E w0 S γ β s a w ⟨dst,.lookup T x i cok,ty,pos,after,guard⟩:=by
 intro R K r hq;simp only[qv] at hq;replace hq:=ab hq;obtain⟨kv,N,hq⟩:=hq;obtain⟨ad,ai⟩:=kv;have hx:=bo h x;generalize s.opA x=ax at *;cases ax<;>(try simp only at hq)<;>first|(cases hq;done)|skip
 rename_i kt vt id;split at hq<;>first|(cases hq;done)|skip
 rename_i I;simp only[zaa] at I;have D:=af7 _ _ I.1;have F:=af7 _ _ I.2;subst D;subst F;split at hq<;>first|(cases hq;done)|skip
 rename_i A c l O;split at hq<;>first|(cases hq;done)|skip
 rename_i j;simp only[zaa] at j;have D:=af7 _ _ j.1;have F:=af7 _ _ j.2;subst D;subst F;replace hq:=ab hq;obtain⟨m,M,hq⟩:=hq;split at hq<;>first|(cases hq;done)|skip
 rename_i J;have Y:=bo h i;rw[fo M,af7 _ _ J] at Y;obtain⟨hc,KT,VT,hu,k,q,hh⟩:=hE.mapL T _ _ N;have t:=aT _ _ k;have f:=aT _ _ q;obtain⟨V,W⟩:=Bp Y t;simp only[AR,AC] at hx;obtain⟨na,b,L,hγ,_,_,_⟩:=hx;have hv:=aA na L;have hO:=h.obs id _ b O hγ;simp only[gM] at hO;obtain⟨_,_,_,es,o,X⟩:=hO;have i1:ia A (a.eval i).cells.toList (a.eval i):=⟨rfl,qh V t W.1⟩;have rc:=kw (S:=S) (w:=w) A KT m.2 _ _ 10000 es.isEmpty k hc j1 V W.2 i1 w
 have C:=vX (P:=P) k hc hh V W w X;have rg:=Fp (x:=m.2) l es.toList 0 0 X;obtain⟨z,Q,U,y⟩:=kh q;have g:wt c (aw c)/\gY w S (aw c) z:=by
  have wz:=dC c f;refine⟨wz,?_⟩;have G:AC ⟨w,S,γ,β,s.ob,s.dead⟩ (.d c (aw c)) z.cells.toList:=by simp only[AC];exact⟨wz,f,cX U⟩
  have iv:ia c z.cells.toList z:=⟨rfl,λH=>(y.2 H),λH xs e=>by have:=y.1 ⟨xs,e⟩;rw[H] at this;cases this⟩
  exact(Bp (xX (ck _ _) G iv) f).2
 have run:∃ v d,(afu l m.2).getD (aw c)=d/\wt c d/\gY w S d v/\(execOp a.eval ⟨dst,.lookup T x i cok,ty,pos,after,guard⟩).run P w=.ok (.value (if cok then .tuple #[v,.bool (afu l m.2).isSome] else v)) w:=by
  have hex:(execOp a.eval ⟨dst,.lookup T x i cok,ty,pos,after,guard⟩)=(Instr.lookup T (a.eval x) (a.eval i) cok >>= λv=>pure (.value v)):=rfl;rw[hex,hv];cases hf:Dr l m.2 es.toList 0 with
  | none=>
   rw[hf] at rg C;simp only at rg;refine⟨z,aw c,by rw[rg];rfl,g.1,g.2,?_⟩
   simp only[Instr.lookup,zma,run_underlying hu,zga,mF o,zua,rc,C,Q,rg];rfl
  | some p=>
   obtain⟨n,v⟩:=p;rw[hf] at rg C;simp only at rg;obtain⟨d,g1,g2,g3⟩:=rg;refine⟨v,d,by rw[g1];rfl,g2,g3,?_⟩
   simp only[Instr.lookup,zma,run_underlying hu,zga,mF o,zua,rc,C,g1];rfl
 obtain⟨v,d,r1,Z,r3,B⟩:=run;rw[r1] at hq;cases cok with
 | false=> simp only at hq;simp only[zFa,if_false] at B;exact⟨_,hq,.value B (Qp.same h (eC f Z r3) _)⟩
 | true=>
  simp only at hq;simp only[if_true] at B;refine⟨_,hq,.value B (Qp.same h ?_ _)⟩;simp only[AR];refine .inr ⟨_,rfl,by simp[bG,f,av],?_,?_⟩
  ·simp only[wt,fY];exact⟨_,rfl,d,_,rfl,Z,_,_,rfl,⟨_,rfl⟩,rfl⟩
  ·refine⟨[v,.bool (afu l m.2).isSome],rfl,rfl,λi dd u h1 h2=>?_⟩;rcases i with _|_|i
   ·simp at h1 h2;subst h1;subst h2;exact r3
   ·simp at h1 h2;subst h1;subst h2;exact afC (.bool _)
   ·simp at h1
end
end Sy
end
end Go.Proofs.YtphlmegkommlnaaGreatDoor
