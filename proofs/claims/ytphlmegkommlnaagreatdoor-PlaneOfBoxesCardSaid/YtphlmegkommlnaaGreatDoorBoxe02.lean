/- Part 2 of the proof that PlaneOfBoxes answers true at every input -/
import Derived.Test.YtphlmegkommlnaaGreatDoorBoxe01
import Derived.ProofKit
import Derived.Deep.Slices
import Derived.OpenShut
import Derived.OrdersIn
import Derived.TacticsIn
import Derived.RangeFuncIn
import Derived.RangeFuncCalls
import Derived.Scope
import Derived.StillTail
import Derived.ChangeKeysEq
import Derived.MapKept
set_option linter.unusedVariables false
set_option linter.unusedSimpArgs false
set_option linter.unnecessarySimpa false
set_option linter.defProp false
set_option maxRecDepth 20000
namespace Go.Proofs.YtphlmegkommlnaaGreatDoor
noncomputable section
namespace Sy
open Go
section
variable{H:Type}{enc:TypeId×Value->H}{P:Program}{W:World}{base:Nat}{spare:Nat->Bool}{held:Bool}
def q9(W:World)(b o:Nat):Prop:=(W.cell? ⟨b,o,none⟩).isSome=true
def valid_lt{b o:Nat}(h:q9 W b o):b<W.heap.size:=by
 unfold q9 World.cell? at h;rcases zza b W.heap.size with k|k
 ·exact k
 ·simp only[Array.getElem?_eq_none k] at h;cases h
mutual
def KL:D->Prop
 | .int k n=>(Lit.int k n).wf=true
 | .bool _=>True
 | .str s=>s.size<=maxLen
 | .st l=>z8 l
 | .sl l=>l.length<=maxLen/\z8 l
 | .tup l=>z8 l
def z8:List D->Prop
 | []=>True
 | d::l=>KL d/\z8 l
end
theorem vP:∀ {l:List D},z8 l↔∀ d∈l,KL d
 | []=>by simp[z8]
 | d::l=>by simp[z8,vP (l:=l)]
mutual
def qz:Ty->Bool
 | .st ts=>Ad ts
 | .arr _ t=>qz t
 | .sl t=>decide (0<t.size)&&qz t
 | .tup _=>false
 | .fn=>false
 | _=>true
def Ad:List Ty->Bool
 | []=>true
 | t::ts=>qz t&&Ad ts
end
def kY{T:TypeId}{ty:Ty}(h:bK P ty T=true):P.cellsOf T=ty.size:=by obtain⟨i,z,h1,h2,_⟩:=fY (gS h);simp[Program.cellsOf,h1,h2]
def ab4{S:Nat->Nat->Prop}{d:D}{c:Value}(h:CR W S d c):da W S [d] [c]:=⟨rfl,λi d' c' a hc=>by
 cases i with
 | zero=>simp at a hc;subst a;subst hc;exact h
 | succ i=>simp at a⟩
mutual
theorem uw:∀ (ty:Ty) (T:TypeId) (fuel:Nat) (cs:List Value) (x:DataW H×List MemPlace),bK P ty T=true->qz ty=true->DataW.trod enc P W base spare held fuel T cs=some x->∃ d,wt ty d/\KL d/\da W (q9 W) d.flat cs
 | .int k,T,fuel,cs,x,hl,_,h=>by obtain⟨n,rfl,_,hw⟩:=DataW.trod_int (ki hl) h;exact⟨.int k n,⟨n,rfl⟩,hw,ab4 (.int k n)⟩
 | .bool,T,fuel,cs,x,hl,_,h=>by
  have hu:P.underlying T=some .bool:=by
   simp only[bK,zaa] at hl;have h2:=hl.2;split at h2
   ·assumption
   ·cases h2
  obtain⟨b,rfl,_⟩:=DataW.trod_bool hu h;exact⟨.bool b,⟨b,rfl⟩,trivial,ab4 (.bool b)⟩
 | .str,T,fuel,cs,x,hl,_,h=>by
  have hu:P.underlying T=some .string:=by
   simp only[bK,zaa] at hl;have h2:=hl.2;split at h2
   ·assumption
   ·cases h2
  obtain⟨s,rfl,_,hw⟩:=DataW.trod_string hu h;exact⟨.str s,⟨s,rfl⟩,hw,ab4 (.str s)⟩
 | .st ts,T,fuel,cs,x,hl,hp,h=>by
  obtain⟨fs,hu,hf⟩:=jK hl;obtain⟨xs,n,_,_,hlen,hxl,hx⟩:=DataW.trod_struct hu h;rw[kY hl] at hlen;obtain⟨l,h1,hok,h2⟩:=CP ts fs.toList 0 cs n hf (by simpa only[qz] using hp) (λi f hi=>by
   have hi':fs[i]?=some f:=by simpa using hi
   have hlt:i<xs.length:=by rw[hxl];exact(zAa.1 hi').1
   exact⟨xs[i],(hx i f hi').trans (zca hlt)⟩) (by rw[hlen];simp[Ty.size])
  refine⟨.st l,⟨l,rfl,h1⟩,hok,?_⟩;have:(cs.drop 0).take (acT ts)=cs:=by rw[List.drop_zero,zhb (by rw[hlen];simp[Ty.size])]
  rw[this] at h2;exact h2
 | .arr n e,T,fuel,cs,x,hl,hp,h=>by
  obtain⟨u,hu,hl'⟩:=eY hl;obtain⟨xs,m,_,_,hlen,hxl,hx⟩:=DataW.trod_array hu h;rw[kY hl] at hlen;rw[kY hl'] at hx;simp only[qz] at hp;have key:∀ k,k<=n->∃ l:List D,l.length=k/\(∀ y∈l,wt e y/\KL y)/\da W (q9 W) (acd l) (cs.take (k*e.size)):=by
   intro k
   induction k with
   | zero=>intro _;exact⟨[],rfl,j3,by simp[acd,da.nil]⟩
   | succ k ih=>
    intro hk;obtain⟨l,h1,h2,h3⟩:=ih j1
    have hxk:=hx k j1
    rw[zca (show k<xs.length by omega)] at hxk
    obtain⟨d,h4,h4',h5⟩:=uw e u m _ _ hl' hp hxk;refine⟨l++[d],by simp[h1],λy hy=>?_,?_⟩
    ·rcases List.mem_append.1 hy with hy|hy
     ·exact h2 y hy
     ·rw[zKa.1 hy];exact⟨h4,h4'⟩
    ·have e1:cs.take ((k+1)*e.size)=cs.take (k*e.size)++(cs.drop (k*e.size)).take e.size:=by
      rw[zpb,z0c,List.take_add]
     rw[e1,cn];refine h3.append ?_;simpa [acd] using h5
  obtain⟨l,h1,h2,h3⟩:=key n (zja n);refine⟨.st l,⟨l,rfl,h1,λy hy=>(h2 y hy).1⟩,vP.2 λy hy=>(h2 y hy).2,?_⟩;rw[zhb (by rw[hlen];simp[Ty.size])] at h3
  exact h3
 | .sl e,T,fuel,cs,x,hl,hp,h=>by
  obtain⟨u,hu,hl'⟩:=jJ hl;simp only[qz,zaa,zfa] at hp;rcases DataW.trod_slice hu h with⟨rfl,_⟩|⟨a,len,cap,elems,rest,m,_,rfl,_,hb,hlc,hcm,hel,hx,_,_⟩
  ·exact⟨.sl [],⟨[],rfl,j3⟩,⟨zxa _,trivial⟩,ab4 (ab3 (l:=[]) (b:=0) (off:=0) (.inl rfl) (zja _) ⟨[],da.nil,j3⟩)⟩
  ·rw[kY hl'] at hx;by_cases h0:len=0
   ·subst h0;exact⟨.sl [],⟨[],rfl,j3⟩,⟨zxa _,trivial⟩,ab4 (ab3 (l:=[]) (b:=0) (off:=0) (.inl rfl) (zxa _) ⟨[],da.nil,j3⟩)⟩
   ·have hsp:∃ b off,a=⟨b,off,none⟩:=by
     have:=hx 0 j1
     rw[zca (show 0<elems.length by omega)] at this
     obtain⟨cs',h1,_⟩:=Option.bind_eq_some_iff.1 this;obtain⟨_,h2,h3⟩:=World.cells?_some h1;have h4:=h3 0 hp.1;rw[zca (show 0<cs'.length by omega)] at h4
     have e0:(a.add (0*e.size)).add 0=a:=by simp[Addr.add]
     rw[e0] at h4;obtain⟨b,off,sp⟩:=a;cases sp with
     | none=>exact⟨b,off,rfl⟩
     | some s=>
      exfalso;unfold World.cell? at h4;split at h4
      ·simp at h4
      ·cases h4
    obtain⟨b,off,rfl⟩:=hsp;have key:∀ k,k<=len->∃ (l:List D) (cs:List Value),l.length=k/\(∀ y∈l,wt e y/\KL y)/\da W (q9 W) (acd l) cs/\∀ j c,cs[j]?=some c->W.cell? ⟨b,off+j,none⟩=some c:=by
     intro k
     induction k with
     | zero=>intro _;exact⟨[],[],rfl,j3,da.nil,j3⟩
     | succ k ih=>
      intro hk;obtain⟨l,cs,h1,h2,h3,h4⟩:=ih j1
      have hxk:=hx k j1
      rw[zca (show k<elems.length by omega)] at hxk
      obtain⟨cs',q1,q2⟩:=Option.bind_eq_some_iff.1 hxk;obtain⟨_,q3,q4⟩:=World.cells?_some q1;obtain⟨d,h5,h5',h6⟩:=uw e u m _ _ hl' hp.2 q2;have hn:ao e=true:=aK e u hl';have hcl:cs.length=k*e.size:=by rw[<-h3.1,aG hn l (λy hy=>(h2 y hy).1),h1]
      refine⟨l++[d],cs++cs',by simp[h1],λy hy=>?_,?_,λj c hc=>?_⟩
      ·rcases List.mem_append.1 hy with hy|hy
       ·exact h2 y hy
       ·rw[zKa.1 hy];exact⟨h5,h5'⟩
      ·rw[cn];refine h3.append ?_;simpa [acd] using h6
      ·rcases zza j cs.length with hj|hj
       ·rw[zxb hj] at hc;exact h4 j c hc
       ·rw[z0b hj] at hc;have hlt:j-cs.length<e.size:=by
         have:=(zqa.1 hc).1;omega
        have:=q4 (j-cs.length) hlt;rw[hc] at this;rw[dh,dh] at this;rw[show off+k*e.size+(j-cs.length)=off+j by omega] at this
        exact this
    obtain⟨l,cs,h1,h2,h3,h4⟩:=key len (zja _);refine⟨.sl l,⟨l,rfl,λy hy=>(h2 y hy).1⟩,⟨j1,vP.2 λy hy=>(h2 y hy).2⟩,ab4 ?_⟩
    rw[<-h1];exact ab3 (b:=b) (off:=off) (.inr rfl) j1 ⟨cs,h3,λi c hc=>⟨by unfold q9;rw[h4 i c hc];rfl,h4 i c hc⟩⟩
 | .tup _,_,_,_,_,hl,_,_=>by simp[bK] at hl
 | .fn,_,_,_,_,hl,_,_=>by simp[bK] at hl
theorem CP:∀ (ts:List Ty) (fs:List Field) (off:Nat) (cs:List Value) (n:Nat),gB P ts fs off=true->Ad ts=true ->
  (∀ (i:Nat) (f:Field),fs[i]?=some f->∃ x:DataW H×List MemPlace,DataW.trod enc P W base spare held n f.type ((cs.drop f.offset).take (P.cellsOf f.type))=some x)->off+acT ts<=cs.length ->
  ∃ l,fK ts l/\z8 l/\da W (q9 W) (acd l) ((cs.drop off).take (acT ts))
 | [],_,off,cs,n,_,_,_,_=>⟨[],rfl,trivial,by simp[acd,acT,da.nil]⟩
 | t::ts,[],off,cs,n,h,_,_,_=>by simp[gB] at h
 | t::ts,f::fs,off,cs,n,h,hp,hx,hle=>by
  simp only[gB,zaa,zfa] at h;obtain⟨⟨⟨⟨h1,_⟩,h2⟩,h3⟩,h4⟩:=h;simp only[Ad,zaa] at hp;simp only[acT] at hle ⊢;obtain⟨x,hx0⟩:=hx 0 f rfl;rw[kY h3,h1] at hx0;obtain⟨d,q1,q1',q2⟩:=uw t f.type n _ _ h3 hp.1 hx0;obtain⟨l,q3,q3',q4⟩:=CP ts fs (off+t.size) cs n h4 hp.2 (λi g hi=>hx (i+1) g (by simpa using hi)) j1
  refine⟨d::l,⟨d,l,rfl,q1,q3⟩,⟨q1',q3'⟩,?_⟩;rw[List.take_add,List.drop_drop];simp only[acd];exact q2.append q4
end
end
theorem ab.{u,v}{α:Type u}{β:Type v}{x:Option α}{f:α->Option β}{r:β}(h:x.bind f=some r):∃ a,x=some a/\f a=some r:=by
 cases x with
 | none=>cases h
 | some a=>exact⟨a,rfl,h⟩
def o7{t b:Ty}{x:D}(h:AV.fits t (.d b x)=true):t=b:=by
 have a:t.beq b=true:=by simp_all [AV.fits]
 exact acQ _ _ a
def acP:∀ (t:Ty),t.beq t=true:=by
 intro t;exact(Ty.rec (motive_1:=λt=>t.beq t=true) (motive_2:=λl=>Ty.beqs l l=true)
  (λk=>by simp[Ty.beq]) rfl rfl (λl h=>by simpa [Ty.beq] using h) (λn t h=>by simp[Ty.beq,h]) (λt h=>by simpa [Ty.beq] using h) (λl h=>by simpa [Ty.beq] using h) rfl rfl
  (λt l h1 h2=>by simp[Ty.beqs,h1,h2]) t)
def bY(t:Ty)(x:D):AV.fits t (.d t x)=true:=by have:=acP t;all_goals simp_all [AV.fits]
theorem rP:∀ {d:List Ty} {l:List AV} {i:Nat} {a:AV},AV.fitss d l=true->l[i]?=some a->∃ t,d[i]?=some t/\AV.fits t a=true
 | _,[],_,_,_,h=>by simp at h
 | [],b::l,_,_,h,_=>by simp[AV.fitss] at h
 | u::d,b::l,i,a,h,c=>by
  simp only[AV.fitss,zaa] at h;cases i with
  | zero=>simp at c;subst c;exact⟨u,rfl,h.1⟩
  | succ i=>simp at c;obtain⟨t,h1,h2⟩:=rP h.2 c;exact⟨t,by simpa using h1,h2⟩
theorem vf:∀ {d:List Ty} {l:List AV} {i:Nat} {t:Ty},AV.fitss d l=true->d[i]?=some t->∃ a,l[i]?=some a/\AV.fits t a=true
 | [],_,_,_,_,h=>by simp at h
 | u::d,[],_,_,h,_=>by simp[AV.fitss] at h
 | u::d,b::l,i,a,h,c=>by
  simp only[AV.fitss,zaa] at h;cases i with
  | zero=>simp at c;subst c;exact⟨b,rfl,h.1⟩
  | succ i=>simp at c;obtain⟨t,h1,h2⟩:=vf h.2 c;exact⟨t,by simpa using h1,h2⟩
theorem nU:∀ {c:List Ty} {l:List AV} {i:Nat} {t:Ty} {b:AV},AV.fitss c l=true->c[i]?=some t->AV.fits t b=true->AV.fitss c (l.set i b)=true
 | [],_,_,_,_,_,h,_=>by simp at h
 | u::c,[],_,_,_,h,_,_=>by simp[AV.fitss] at h
 | u::c,a::l,i,t,b,h,d,e=>by
  simp only[AV.fitss,zaa] at h;cases i with
  | zero=>simp at d;subst d;simp[AV.fitss,e,h.2]
  | succ i=>simp at d;simp only[List.set_cons_succ,AV.fitss,zaa];exact⟨h.1,nU h.2 d e⟩
theorem tW{c:Cx}:∀ {f:List Ty} {l:List AV} {cs:List Value} {i:Nat} {a:AV},AV.fitss f l=true->br f=true->lN c l cs->l[i]?=some a ->
  ∃ pre mid post,cs=pre++(mid++post)/\pre.length=acT (f.take i)/\AC c a mid/\∀ b d,AC c b d->lN c (l.set i b) (pre++(d++post))
 | _,[],_,_,_,_,_,_,h=>by simp at h
 | [],b::l,_,_,_,h,_,_,_=>by simp[AV.fitss] at h
 | u::f,b::l,cs,i,a,hf,hn,h,e=>by
  simp only[AV.fitss,zaa] at hf;simp only[br,zaa] at hn;simp only[lN] at h;obtain⟨c1,c2,rfl,h1,h2⟩:=h;cases i with
  | zero=> simp at e;subst e;exact⟨[],c1,c2,j3,by simp[acT],h1,λb d g=>by simp only[List.set_cons_zero,lN,ztc];exact⟨d,c2,rfl,g,h2⟩⟩
  | succ i=>
   simp at e;obtain⟨pre,mid,post,rfl,j,k,m⟩:=tW hf.2 hn.2 h2 e;refine⟨c1++pre,mid,post,by simp[zPa],?_,k,λb d g=>?_⟩
   ·simp only[zua,zec,acT,j,(iO b u c1 hf.1 h1).1]
   ·grind [lN,List.append_assoc]
def ns{a:List Ty}{i:Nat}{p:List Nat}{u:Ty}(h:aP (.st a) (i::p)=some u):∃ v,a[i]?=some v/\aP v p=some u:=by grind [aP]
def EU{R:Type}{c:Cx}:∀ (p:List Nat) {T t:Ty} {a:AV} {cs:List Value} {K:AV->Option R} {r:R},AV.fits T a=true->ao T=true->aP T p=some t->AC c a cs->zA a p K=some r ->
  ∃ a' pre mid post,K a'=some r/\cs=pre++(mid++post)/\pre.length=ba T p/\AC c a' mid/\AV.fits t a'=true:=by
 intro p
 induction p with
 | nil=>
  intro T t a cs K r hf hn hp hc e;have hT:T=t:=by cases T<;>simpa [aP] using hp
  subst hT;refine⟨a,[],cs,[],?_,j3,by cases T<;>rfl,hc,hf⟩
  cases a<;>simpa [zA] using e
 | cons i p ih=>
  intro T t a cs K r hf hn hp hc e;cases a<;>simp only[zA] at e
  case d t' x=>
   have:=o7 hf;subst this;obtain⟨t2,h1,h2⟩:=ab e;obtain⟨y,h3,j⟩:=ab h2;rw[hp] at h1;cases h1;simp only[AC] at hc;obtain⟨m,A,B,n,s⟩:=jG (i::p) hc.1 hn hp h3;have f:=hc.2.2;rw[n] at f;obtain⟨k,o⟩:=f.split;obtain⟨q,u⟩:=o.split;refine⟨_,cs.take A.length,(cs.drop A.length).take y.flat.length,(cs.drop A.length).drop y.flat.length,j,by simp only[zva],?_,?_,bY _ _⟩
   ·rw[<-k.1];exact s
   ·simp only[AC];exact⟨m,dY _ hn hp,q⟩
  case st ts' l=>
   cases T<;>simp only[AV.fits] at hf<;>first|cases hf|skip
   rename_i w;simp only[zaa] at hf;obtain⟨a1,h1,h2⟩:=ab e;obtain⟨v,h3,j⟩:=ns hp;simp only[AC] at hc;simp only[ao] at hn;obtain⟨v',f,k⟩:=rP hf.2 h1;rw[h3] at f;cases f;obtain⟨pre,mid,post,rfl,m,n,_⟩:=tW hf.2 hn hc.2.2 h1;obtain⟨a',h,g,b,m1,rfl,m2,m3,m4⟩:=ih k (cd hn h3) j n h2;refine⟨a',pre++h,g,b++post,m1,by simp[zPa],?_,m3,m4⟩
   simp only[zua,ba,m,m2];simp[List.getD,h3]
  all_goals cases e
def NZ{R:Type}{c:Cx}:∀ (p:List Nat) {T t:Ty} {a b:AV} {cs j:List Value} {K:AV->Option R} {r:R},AV.fits T a=true->ao T=true->aP T p=some t->AC c a cs->AC c b j->AV.fits t b=true->DX a p b K=some r ->
  ∃ a' pre mid post,K a'=some r/\cs=pre++(mid++post)/\pre.length=ba T p/\mid.length=j.length/\AC c a' (pre++(j++post))/\AV.fits T a'=true:=by
 intro p
 induction p with
 | nil=>
  intro T t a b cs j K r hf hn hp hc f e g;have hT:T=t:=by simp_all [aP]
  subst hT;refine⟨b,[],cs,[],?_,j3,by cases T<;>rfl,?_,by simpa using f,e⟩
  ·simp_all [DX]
  ·rw[(iO _ _ _ hf hc).1,(iO _ _ _ e f).1]
 | cons i p ih=>
  intro T t a b cs j K r hf hn hp hc f e g;cases a<;>simp only[DX] at g
  case d t' x=>
   have:=o7 hf;subst this;cases b<;>simp only at g<;>first|cases g|skip
   rename_i u y;have:=o7 e;subst this;obtain⟨M,h3,q⟩:=ab g;simp only[AC] at hc f;obtain⟨w,A,C,B,z,D,I,J⟩:=qH (i::p) hc.1 hn hp h3 f.1;have k:=hc.2.2;rw[z] at k;obtain⟨o,F⟩:=k.split;obtain⟨G,H⟩:=F.split;refine⟨_,cs.take A.length,(cs.drop A.length).take C.length,(cs.drop A.length).drop C.length,q,by simp only[zva],?_,?_,?_,bY _ _⟩
   ·rw[<-o.1];exact I
   ·rw[<-G.1,J,<-f.2.2.1,cL _ _ f.1 f.2.1]
   ·simp only[AC];refine⟨w,hn,?_⟩;rw[D];exact o.append (f.2.2.append H)
  case st ts' l=>
   cases T<;>simp only[AV.fits] at hf<;>first|cases hf|skip
   rename_i L;simp only[zaa] at hf;obtain⟨a1,h1,h2⟩:=ab g;obtain⟨v,h3,q⟩:=ns hp;simp only[AC] at hc;simp only[ao] at hn;obtain⟨v',k,o⟩:=rP hf.2 h1;rw[h3] at k;cases k;obtain⟨pre,mid,post,rfl,w,z,D⟩:=tW hf.2 hn hc.2.2 h1;obtain⟨a',n,m,h,m1,rfl,m2,E,m3,m4⟩:=ih o (cd hn h3) q z f e h2;have s:=acR _ _ hf.1;subst s;refine⟨_,pre++n,m,h++post,m1,by simp[zPa],?_,E,?_,?_⟩
   ·simp only[zua,ba,w,m2];simp[List.getD,h3]
   ·simp only[AC];refine⟨hn,nU hf.2 h3 m4,?_⟩;have:=D _ _ m3;simpa [zPa] using this
   ·simp only[AV.fits,zaa];exact⟨hf.1,nU hf.2 h3 m4⟩
  all_goals cases g
mutual
theorem sS{c:Cx}{ob:Nat->Option Ob}:∀ (a:AV) (t:Ty) (cs:List Value) (x:D),ab2 ob t a=some x->AC c a cs->wt t x/\da c.w c.S x.flat cs/\(∀ v,gL t cs v->ao t=true->gH c.w c.S x v)
 | .d t' x',t,cs,x,h,hc=>by
  have h':t.beq t'=true/\x'=x:=by cases t<;>simpa [ab2] using h
  obtain⟨h1,rfl⟩:=h';have:=acQ _ _ h1;subst this;simp only[AC] at hc;exact⟨hc.1,hc.2.2,λv hv hn=>⟨uC hc.1 hc.2.1 hv.2,by rw[hv.1];exact hc.2.2⟩⟩
 | .own t' v l,t,cs,x,h,hc=>by
  have h':t.beq (.sl t')=true/\D.sl l=x:=by cases t<;>simpa [ab2] using h
  obtain⟨h1,rfl⟩:=h';have:=acQ _ _ h1;subst this;simp only[AC] at hc;obtain⟨k1,k2,a,cap,rfl,k3,_⟩:=hc;have hw:wt (.sl t') (.sl l):=by simp only[wt];exact⟨l,rfl,k2⟩
  exact⟨hw,da.single.2 k3,λv hv hn=>⟨uC hw hn hv.2,by rw[hv.1];exact da.single.2 k3⟩⟩
 | .nils,t,cs,x,h,hc=>by
  cases t<;>simp only[ab2] at h<;>first|cases h|skip
  simp only[AC] at hc;subst hc;have hw:∀ t,wt (.sl t) (.sl []):=λt=>by simp only[wt];exact⟨[],rfl,λx hx=>by simp at hx⟩
  have hr:da c.w c.S [D.sl []] [.slice none 0 0]:=da.single.2 (.sl [] none 0 0 0 (λ_=>undef) (.inl rfl) (zja 0) (λi d hd=>by simp[acd] at hd) (λi d hd=>by simp[acd] at hd))
  exact⟨hw _,hr,λv hv hn=>⟨uC (hw _) hn hv.2,by rw[hv.1];exact hr⟩⟩
 | .st ts' l,t,cs,x,h,hc=>by
  simp only[ab2] at h;split at h
  ·rename_i hb;have:=acQ _ _ hb;subst this;obtain⟨xs,h1,h2⟩:=ab h;simp only[zda] at h2;subst h2;simp only[AC] at hc;obtain⟨k1,k2⟩:=FJ l ts' cs xs h1 hc.2.2;have hw:wt (.st ts') (.st xs):=by simp only[wt];exact⟨xs,rfl,k1⟩
   exact⟨hw,k2,λv hv hn=>⟨uC hw hn hv.2,by rw[hv.1];exact k2⟩⟩
  ·cases h
 | .ptr ..,t,_,_,h,_=>by cases t<;>simp[ab2] at h
 | .fptr ..,t,_,_,h,_=>by cases t<;>simp[ab2] at h
 | .mem ..,t,_,_,h,_=>by cases t<;>simp[ab2] at h
 | .clo ..,t,_,_,h,_=>by cases t<;>simp[ab2] at h
 | .sub ..,t,_,_,h,_=>by cases t<;>simp[ab2] at h
 | .gone,t,_,_,h,_=>by cases t<;>simp[ab2] at h
 | .undef,t,_,_,h,_=>by cases t<;>simp[ab2] at h
theorem FJ{c:Cx}{ob:Nat->Option Ob}:∀ (l:List AV) (ts:List Ty) (cs:List Value) (xs:List D),AV.toDl ob ts l=some xs->lN c l cs->fK ts xs/\da c.w c.S (acd xs) cs
 | [],ts,cs,xs,h,hc=>by
  cases ts<;>simp only[AV.toDl] at h<;>first|cases h|skip
  simp only[lN] at hc;subst hc;exact⟨by simp[fK],da.nil⟩
 | a::l,ts,cs,xs,h,hc=>by
  cases ts<;>simp only[AV.toDl] at h<;>first|cases h|skip
  rename_i t ts;obtain⟨x,h1,h2⟩:=ab h;obtain⟨ys,h3,h4⟩:=ab h2;simp only[zda] at h4;subst h4;simp only[lN] at hc;obtain⟨c1,c2,rfl,k1,k2⟩:=hc;obtain⟨m1,m2,_⟩:=sS a t c1 x h1 k1;obtain⟨m3,m4⟩:=FJ l ts c2 ys h3 k2;exact⟨by simp only[fK];exact⟨x,ys,rfl,m1,m3⟩,by simp only[acd];exact m2.append m4⟩
end
mutual
theorem wF{ob:Nat->Option Ob}:∀ (a:AV) (t:Ty) (x:D),ab2 ob t a=some x->AV.fits t a=true
 | .d t' x',t,x,h=>by simp_all [ab2,AV.fits]
 | .own t' v l,t,x,h=>by
  have h':t.beq (.sl t')=true/\D.sl l=x:=by cases t<;>simpa [ab2] using h
  have:=acQ _ _ h'.1;subst this;simp[AV.fits,acP]
 | .nils,t,x,h=>by cases t<;>first|rfl|(simp only[ab2] at h;cases h)
 | .st ts' l,t,x,h=>by
  simp only[ab2] at h;split at h
  ·rename_i hb;have:=acQ _ _ hb;subst this;obtain⟨xs,h1,h2⟩:=ab h;simp only[AV.fits,zaa];exact⟨by have:=acP (.st ts');simpa [Ty.beq] using this,yR l ts' xs h1⟩
  ·cases h
 | .ptr ..,t,_,h=>by cases t<;>simp[ab2] at h
 | .fptr ..,t,_,h=>by cases t<;>simp[ab2] at h
 | .mem ..,t,_,h=>by cases t<;>simp[ab2] at h
 | .clo ..,t,_,h=>by cases t<;>simp[ab2] at h
 | .sub ..,t,_,h=>by cases t<;>simp[ab2] at h
 | .gone,t,_,h=>by cases t<;>simp[ab2] at h
 | .undef,t,_,h=>by cases t<;>simp[ab2] at h
theorem yR{ob:Nat->Option Ob}:∀ (l:List AV) (ts:List Ty) (xs:List D),AV.toDl ob ts l=some xs->AV.fitss ts l=true
 | [],ts,xs,h=>by cases ts<;>first|rfl|(simp only[AV.toDl] at h;cases h)
 | a::l,ts,xs,h=>by
  cases ts<;>simp only[AV.toDl] at h<;>first|cases h|skip
  rename_i t ts;obtain⟨x,h1,h2⟩:=ab h;obtain⟨ys,h3,h4⟩:=ab h2;simp only[AV.fitss,zaa];exact⟨wF a t x h1,yR l ts ys h3⟩
end
def oR{c:Cx}{ob:Nat->Option Ob}{t:Ty}{a:AV}{v:Value}{x:D}(hn:ao t=true)(h:AR c a v)(hx:ab2 ob t a=some x):wt t x/\gH c.w c.S x v:=by
 obtain⟨h1,h2⟩:=AW (wF a t x hx) hn h;obtain⟨h3,_,b⟩:=sS a t _ x hx h1
 simp_all
def dO{c:Cx}{t:Ty}{x:D}{v:Value}(hn:ao t=true)(hw:wt t x)(h:gH c.w c.S x v):AR c (.d t x) v:=by simp_all [AR]
def AX{c:Cx}{t:Ty}{x:D}{v:Value}(h:AR c (.d t x) v)(hn:ao t=true):wt t x/\gH c.w c.S x v:=by all_goals grind [AR,ao]
def fJ{c:Cx}{t:Ty}{k:IntKind}{n:Int}{v:Value}(h:AR c (.d t (.int k n)) v):v=.int k n/\t=.int k:=by
 simp only[AR] at h;rcases h with⟨h1,h2,h3⟩|⟨b,rfl,_,h2,_⟩
 ·refine⟨h3.int_inv,?_⟩;cases t<;>simp only[wt] at h2<;>first
   | (obtain⟨m,a⟩:=h2;cases a;rfl)
   | (obtain⟨m,a,_⟩:=h2;cases a)
   | (obtain⟨m,a⟩:=h2;cases a)
 ·simp_all [wt]
def Ei{c:Cx}{t:Ty}{n:Bool}{v:Value}(h:AR c (.d t (.bool n)) v):v=.bool n:=by
 simp only[AR] at h;rcases h with⟨h1,h2,h3⟩|⟨a,rfl,_,h2,_⟩
 ·exact h3.bool_inv
 ·simp_all [wt]
def cW{c:Cx}(k:IntKind)(n:Int):AR c (.d (.int k) (.int k n)) (.int k n):=
 dO rfl (by simp only[wt];exact⟨n,rfl⟩) (acm (.int k n))
def gM{c:Cx}(b:Bool):AR c (.d .bool (.bool b)) (.bool b):=
 dO rfl (by simp only[wt];exact⟨b,rfl⟩) (acm (.bool b))
def fd(P:Program)(o:Oper)(a:Act)(w:World)(K:Value->World->Prop):Prop:=
 match (execOp a.eval o).run P w with
 | .ok (.value v) w'=>K v w'
 | .ok .skip w'=>K undef w'
 | .ok (.enter f args) w'=>Calls P f args w' λe b=>∃ v,e=.returned v/\K v b
 | _=>False
variable{ro:Option Nat}{nn:Nat}
def fd.plain{P:Program}{o:Oper}{a:Act}{w:World}{K:Value->World->Prop}(h:fd P o a w K)(c:Call):o.op≠.defer c:=by
 intro hc;unfold fd at h;obtain⟨dst,op,ty,pos,after,guard⟩:=o;simp only at hc;subst hc;have e:execOp a.eval ⟨dst,.defer c,ty,pos,after,guard⟩=(resolve a.eval c ty >>= λd=>pure (Next.defer d)):=rfl;rw[e,zla] at h;cases hr:(resolve a.eval c ty).run P w with
 | ok d w'=>rw[hr] at h;exact h
 | halt x w'=>rw[hr] at h;exact h
def A9{P:Program}{f:FuncId}{args:Array Value}{w:World}{R:Ending->World->Prop}{m:Nat}(h:Calls P f args w R):CallsIn (FW ro) m P f args w R:=by
 have h1:CallsIn Fence.wide m P f args w R:=callsIn_wide.2 h;cases ro with
 | none=>exact h1
 | some l=>exact CallsIn.inRound l h1
def bE{P:Program}{o:Oper}{a:Act}{w:World}{K:Value->World->Prop}{next:Act->World->Prop}{Q:Exit->Act->World->Prop}(h:fd P o a w K)(hk:∀ v w',K v w'->next (a.put o.dst v) w'):o.wpIn (FW ro) nn P a w next Q:=by
 refine⟨λ_ _=>trivial,?_⟩;rw[Oper.semAt_eq _ _ _ h.plain];unfold fd at h;generalize (execOp a.eval o).run P w=r at *;cases r with
 | ok n w'=>
  cases n<;>simp only at h<;>simp only[Oper.uponIn]
  case value v=>exact hk _ _ h
  case skip=>exact hk _ _ h
  case enter f args=>exact⟨λb=>(by cases b),A9 (h.mono λe d ⟨v,he,c⟩=>by subst he;exact hk _ _ c)⟩
 | halt x w'=>simp only at h
def zi{P:Program}{f:FuncId}{fn:Func}{c:Code}{args:Array Value}{w:World}{R:Ending->World->Prop}(hf:P.funcs[f]?=some fn)(a:fn.body=some c)
  (h:c.wpIn (FW none) 0 P (bodyPost P fn R) { tmps:=args++Array.replicate (fn.ntmps-args.size) undef,defers:=[] } w):Calls P f args w R:=
 calls_of_wp hf a (wpIn_wide.1 h)
section
variable{P:Program}{Q:Exit->Act->World->Prop}{a:Act}{w:World}{F:Fence}{n:Nat}
theorem jU{md:Region.Mode}{ops:Array Oper}{Q':Exit->Act->World->Prop}:∀ (l:List Oper) (k:Nat) (listed:Array Bool) (a:Act) (w:World),(∀ j,l[j]?=ops[k+j]?) ->
  Region.seqB md ops l.length k listed=true->wpListIn F n P ops Q' l a w->wpAnyIn F n P md ops Q' l.length listed a w
 | [],_,_,_,_,_,b,h=>⟨by simpa [Region.seqB] using b,h⟩
 | o::l,k,listed,a,w,hl,b,h=>by
  have h0:ops[k]?=some o:=by simpa using(hl 0).symm
  simp only[zRa,Region.seqB,zaa,zfa] at b;refine⟨λh1=>(by rw[b.1] at h1;cases h1),λi d=>?_⟩
  rw[b.1] at d;have c:i=k:=by simpa using d
  subst c;have hw:wpOpIn F n P ops Q' i (wpListIn F n P ops Q' l) a w:=by unfold wpOpIn;simp only[h0];exact h
  exact wpOpIn_mono (λa' w' e=>jU l (i+1) _ a' w' (λj=>by have:=hl (j+1);simpa [zXb,zTc 1 j] using this) b.2 e) hw
def gj{b:Frame}{k:List Item}{cs:List Frame}{c:Code}:step P (lone (b.atR a (.code (.scope c)::k)) cs w)=.next (lone (b.atR a (.code c::.inScope c::k)) cs w):=
 step_lone_go (by simp[stepG,stepG.exec,Frame.atR])
def xf{b:Frame}{k:List Item}{cs:List Frame}{c:Code}:step P (lone (b.atR a (.inScope c::k)) cs w)=.next (lone (b.atR a k) cs w):=
 step_lone_go (by simp[stepG,stepG.exec,Frame.atR])
def oG{c:Code}(h:c.wpIn F n P (Exit.noGoto Q) a w):(Code.scope c).wpIn F n P Q a w:=by
 intro b k cs p j m;have h0:(lone (b.atR a (.code (.scope c)::k)) cs w).fenced P F:=fenced_calm j m rfl;obtain⟨e,g,i,hq,d⟩:=h b (.inScope c::k) cs p j m;cases e with
 | normal=>exact⟨.normal,g,i,hq,.head h0 gj (StepsIn.trans d (.one (fenced_calm j m rfl) xf))⟩
 | exit f=>
  have hx:exitTo f (.inScope c::k)=exitTo f k:=by simp[exitTo]
  exact⟨.exit f,g,i,hq,λq hk=>.head h0 gj (d.1 q (by rw[hx];exact hk)),
   λo hk=>let ⟨k₁,h1,h2⟩:=d.2 o (by rw[hx];exact hk);⟨k₁,h1,.head h0 gj h2⟩⟩
 | goto l=>exact hq.elim
 | ret=>exact⟨_,g,i,hq,.of_steps (.one h0 gj) d⟩
 | panic r=>exact⟨_,g,i,hq,.of_steps (.one h0 gj) d⟩
 | outgrown=>exact⟨_,g,i,hq,.of_steps (.one h0 gj) d⟩
def yW{c:Code}(J:Nat->Act->World->Prop){m:Nat}(y:J m a w)
  (round:∀ m a w,J m a w->c.wpIn F n P (Exit.then (λa' w'=>∃ i,i<m/\J i a' w') Q) a w):(Code.loop c).wpIn F n P Q a w:=by
 intro b k cs s o r;have key:∀ m a w,J m a w->∃ e a' w',Q e a' w'/\ArrivesIn (Machine.fenced P F) P (lone (b.atR a (.code c::.inLoop c::k)) cs w) b k cs e a' w':=by
  intro m
  induction m using Nat.strongRecOn with
  | _ m ih=>
   intro a w v;obtain⟨e,g,h,hq,d⟩:=round m a w v b (.inLoop c::k) cs s o r;cases e with
   | normal=> obtain⟨i,p,j⟩:=hq;obtain⟨u,t,z,q,f⟩:=ih i p g h j;exact⟨u,t,z,q,.of_steps (StepsIn.trans d (.one (fenced_calm o r rfl) stepR_inLoop)) f⟩
   | exit id=>exact⟨_,g,h,hq,.pass (x:=.inLoop c) rfl (λ_ _=>.inl j3) d⟩
   | goto l=>exact⟨_,g,h,hq,.pass (x:=.inLoop c) rfl (λ_ _=>.inl j3) d⟩
   | ret=>exact⟨_,g,h,hq,.pass (x:=.inLoop c) rfl (λ_ _=>.inl j3) d⟩
   | panic A=>exact⟨_,g,h,hq,.pass (x:=.inLoop c) rfl (λ_ _=>.inl j3) d⟩
   | outgrown=>exact⟨_,g,h,hq,.pass (x:=.inLoop c) rfl (λ_ _=>.inl j3) d⟩
 obtain⟨e,a',w',hq,d⟩:=key m a w y;exact⟨e,a',w',hq,.of_steps (.one (fenced_calm o r rfl) stepR_loop) d⟩
end
theorem fd.value{P:Program}{o:Oper}{a:Act}{w w':World}{v:Value}{K:Value->World->Prop}(h:(execOp a.eval o).run P w=.ok (.value v) w')(hk:K v w'):fd P o a w K:=by simp_all [fd]
theorem fd.skip{P:Program}{o:Oper}{a:Act}{w w':World}{K:Value->World->Prop}(h:(execOp a.eval o).run P w=.ok .skip w')(hk:K undef w'):fd P o a w K:=by simp_all [fd]
theorem fd.enter{P:Program}{o:Oper}{a:Act}{w w':World}{f:FuncId}{args:Array Value}{K:Value->World->Prop}(h:(execOp a.eval o).run P w=.ok (.enter f args) w')(hk:Calls P f args w' λe b=>∃ v,e=.returned v/\K v b):fd P o a w K:=by simp_all [fd]
theorem fd.mono{P:Program}{o:Oper}{a:Act}{w:World}{K K':Value->World->Prop}(h:fd P o a w K)(hk:∀ v w',K v w'->K' v w'):fd P o a w K':=by
 unfold fd at *;generalize (execOp a.eval o).run P w=r at *;cases r with
 | ok n w'=>
  cases n<;>simp only at h ⊢
  case value v=>exact hk _ _ h
  case skip=>exact hk _ _ h
  case enter f args=>exact h.mono λe c ⟨v,he,b⟩=>⟨v,he,hk _ _ b⟩
 | halt x w'=>simp only at h
section
variable{w0:Root}{S:Nat->Nat->Prop}{γ:Nat->Option Nat}{β:Nat->Option (Nat×Nat)}{s:St}{a:Act}{w:World}
def aX(h:Rp w0 S γ β s a w):∀ x:Operand,AR ⟨w,S,γ,β,s.ob,s.dead⟩ (s.opA x) (a.eval x)
 | .tmp t=>by
  simp only[St.opA,Act.eval];by_cases ht:t<a.tmps.size
  ·exact h.tms t ht
  ·rw[h.tmu t (h.nt ▸ Nat.le_of_not_lt ht)];simp[AR]
 | .const v=>by
  simp only[St.opA,Act.eval];cases v<;>simp only[IH]<;>first
   | exact cW _ _
   | exact gM _
   | exact dO rfl (by simp only[wt];exact⟨_,rfl⟩) (acm (.str _))
   | (simp only[AR];done)
   | skip
  case slice a len cap=>
   match a,len,cap with
   | none,0,0=>simp[AR,AC,Value.cells]
   | some _,_,_=>simp only[AR]
   | none,_+1,_=>simp only[AR]
   | none,0,_+1=>simp only[AR]
 | .global g=>by simp[St.opA,AR]
 | .func f=>by simp only[St.opA,AR,AC];exact⟨λ_ h=>(by cases h),[],rfl,by simp only[oH]⟩
theorem Rp.put(h:Rp w0 S γ β s a w){v:AV}{val:Value}(d:AR ⟨w,S,γ,β,s.ob,s.dead⟩ v val)(dst:Option Nat):Rp w0 S γ β (s.put dst v) (a.put dst val) w:=by
 cases dst with
 | none=>simpa [St.put,Act.put] using h
 | some t=>
  simp only[St.put,Act.put];by_cases ht:t<s.nt
  ·rw[zma ht];refine⟨h.ext,λi b=>?_,by simpa using h.nt,λi b=>?_,h.obs,h.γn,h.γi,h.γf,h.βn,h.βi,h.βγ,h.βf,h.Sb,h.So⟩
   ·simp only[Array.size_setIfInBounds] at b;by_cases hit:i=t
    ·subst hit;simp only[if_true];rw[show(a.tmps.setIfInBounds i val).getD i undef=val by simp[Array.getD,b]]
     exact d
    ·simp only[zia hit];have:=h.tms i b
     rwa [show(a.tmps.setIfInBounds t val).getD i undef=a.tmps.getD i undef by simp[Array.getD,b,Array.getElem_setIfInBounds_ne b (Ne.symm hit)]]
   ·have c:s.nt<=i:=b;show(if i=t then v else s.tm i)=_
    rw[zia j1];exact h.tmu i c
  ·rw[zia ht];have:a.tmps.setIfInBounds t val=a.tmps:=by
    apply Array.setIfInBounds_eq_of_size_le;rw[h.nt];omega
   rw[this];exact h
def zM{w':World}{S':Nat->Nat->Prop}{γ':Nat->Option Nat}{β':Nat->Option (Nat×Nat)}{ob:Nat->Option Ob}{dead:List Nat}
  (hc:∀ b o,S b o->w'.cell? ⟨b,o,none⟩=w.cell? ⟨b,o,none⟩) (c:∀ b o,S b o->S' b o) (g:∀ id b,γ id=some b->γ' id=some b)
  (f:∀ v b e,v ∉ dead->β v=some (b,e)->β' v=some (b,e)/\∀ n,nA w b=some n->nA w' b=some n):Cx.le ⟨w,S,γ,β,ob,dead⟩ ⟨w',S',γ',β',ob,dead⟩:=
 ⟨hc,c,g,λid o d _=>⟨o,d,λp=>⟨rfl,rfl⟩,λt l e=>⟨l,e,rfl⟩,λ_ _ l e=>⟨l,e⟩⟩,λv a=>⟨a,λb e he=>f v b e a he⟩⟩
def dS{os:List Obj}{d:Nat}{b o:Nat}(h:b<w.heap.size):(grown w os d).cell? ⟨b,o,none⟩=w.cell? ⟨b,o,none⟩:=by simp only[World.cell?,cZ w os d h]
def yH{os:List Obj}{d:Nat}{b:Nat}(h:b<w.heap.size):nA (grown w os d) b=nA w b:=by simp only[nA,bS,cZ w os d h]
theorem jx.mono{c c':Cx}(h:c.le c'){a vt:Ty}:∀ {j:Nat} {l:List D} {es:List MapEntry},jx c a vt j l es->jx c' a vt j l es
 | _,[],[],_=>trivial
 | _,[],_::_,k=>k.elim
 | _,_::_,[],k=>k.elim
 | j,x::l,e::es,k=>by simp only[jx] at k ⊢;obtain⟨⟨f,d,p,g,i,m,n,o⟩,b⟩:=k;exact⟨⟨f,d,p,g,i,m,n.mono h.cell h.S,o.mono h.cell h.S⟩,jx.mono h b⟩
theorem jx.same{c c':Cx}(hw:c'.w=c.w)(a:c'.S=c.S){b vt:Ty}:∀ {j:Nat} {l:List D} {es:List MapEntry},jx c b vt j l es->jx c' b vt j l es
 | _,[],[],_=>trivial
 | _,[],_::_,k=>k.elim
 | _,_::_,[],k=>k.elim
 | j,x::l,e::es,k=>by simp only[jx] at k ⊢;rw[hw,a];exact⟨k.1,jx.same hw a k.2⟩
theorem gt.mono{c c':Cx}(h:c.le c'){b:Nat}{o:Ob}(q:c'.w.heap[b]?=c.w.heap[b]?)(n:∀ o,c'.S b o->c.S b o)(k:gt c b o):gt c' b o:=by
 have e:bS c'.w b=bS c.w b:=by simp only[bS,q]
 cases o<;>simp only[gt] at k ⊢
 case one t v=> obtain⟨f,g,j,cs,a,m,s⟩:=k;exact⟨f,g,λo d=>j o (n o d),cs,by rw[e];exact a,AC.mono h _ _ m,s⟩
 case many t l=> obtain⟨f,g,j,cs,a,m⟩:=k;exact⟨f,g,λo d=>j o (n o d),cs,by rw[e];exact a,m.mono h.cell h.S⟩
 case mp kt vt l=> obtain⟨f,g,j,es,a,m⟩:=k;exact⟨f,g,λo d=>j o (n o d),es,by rw[q];exact a,m.mono h⟩
 case lp i p=> obtain⟨r,a,m,s,u⟩:=k;exact⟨r,by rw[q];exact a,m,λt ht=>(s t ht).mono h.cell h.S h.γ,u⟩
 case fv v=> obtain⟨f,x,g,j,a⟩:=k;exact⟨λo d=>f o (n o d),x,by rw[e];exact g,j.mono h.cell h.S h.γ,a⟩
def Rp.grow(h:Rp w0 S γ β s a w){os:List Obj}{d:Nat}(r:w.drawn<=d){S':Nat->Nat->Prop}(q:∀ b o,S b o->S' b o)(g:∀ b o,S' b o->S b o\/(w.heap.size<=b/\b<(grown w os d).heap.size)) :
  Rp w0 S' γ β s a (grown w os d)/\Cx.le ⟨w,S,γ,β,s.ob,s.dead⟩ ⟨grown w os d,S',γ,β,s.ob,s.dead⟩:=by
 have m:w.heap.size<=(grown w os d).heap.size:=j3
 have hle:Cx.le ⟨w,S,γ,β,s.ob,s.dead⟩ ⟨grown w os d,S',γ,β,s.ob,s.dead⟩:=
  zM (λb o c=>dS (h.Sb b o c)) q (λ_ _ k=>k) (λv b e p he=>⟨he,λn hn=>by rw[yH (h.βn v b e p he).2.1];exact hn⟩)
 refine⟨⟨?_,λt ht=>(h.tms t ht).mono hle,h.nt,h.tmu,λid o b u c=>?_,λid b c=>⟨(h.γn id b c).1,by have:=(h.γn id b c).2;omega⟩,h.γi,h.γf,λv b e p he=>?_,h.βi,h.βγ,h.βf,λb o c=>?_,λb o c j=>?_⟩,hle⟩
 ·exact⟨h.ext.tape,h.ext.os,h.ext.output,zHa h.ext.sz m,zHa h.ext.dr r,λb c=>(cZ w os d (zob c.1 h.ext.sz)).trans (h.ext.old b c)⟩
 ·have l:=(h.γn id b c).2;refine(h.obs id o b u c).mono hle (cZ w os d l) λi x=>?_;all_goals grind
 ·obtain⟨y,z,A⟩:=h.βn v b e p he;all_goals grind
 ·rcases g b o c with k|k
  ·have:=h.Sb b o k;omega
  ·exact k.2
 ·rcases g b o c with k|k
  ·exact h.So b o k j
  ·exfalso;have:=h.ext.sz;have h2:=j.1;omega
def pH{α:Type}(f:Nat->Option α)(i:Nat)(x:α):Nat->Option α:=λj=>if j=i then some x else f j
def bI{α:Type}(f:Nat->Option α)(i:Nat)(x:α):pH f i x i=some x:=by simp[pH]
def ce{α:Type}(f:Nat->Option α){i j:Nat}(x:α)(h:j≠i):pH f i x j=f j:=by simp[pH,h]
def ft{α:Type}{f:Nat->Option α}{i:Nat}{x:α}(h:f i=none){j:Nat}{y:α}(a:f j=some y):pH f i x j=some y:=by
 by_cases e:j=i
 ·simp_all
 ·rw[ce f x e,a]
def Rp.newOb(h:Rp w0 S γ β s a w){id b:Nat}(hid:γ id=none)(p:¬ w0.Old b)(q:b<w.heap.size)(m:∀ id,γ id≠some b)(y:∀ v e,v ∉ s.dead->β v≠some (b,e))(x:id<s.base+4096)
  (u:∀ o,s.ob id=some o->gt ⟨w,S,pH γ id b,β,s.ob,s.dead⟩ b o):Rp w0 S (pH γ id b) β s a w/\Cx.le ⟨w,S,γ,β,s.ob,s.dead⟩ ⟨w,S,pH γ id b,β,s.ob,s.dead⟩:=by
 have hle:Cx.le ⟨w,S,γ,β,s.ob,s.dead⟩ ⟨w,S,pH γ id b,β,s.ob,s.dead⟩:=
  zM (λ_ _ _=>rfl) (λ_ _ k=>k) (λ_ _ k=>ft hid k) (λv b e l he=>⟨he,λn hn=>hn⟩)
 refine⟨⟨h.ext,λt ht=>(h.tms t ht).mono hle,h.nt,h.tmu,λi o c r hc=>?_,λi c hc=>?_,λi j c hc d=>?_,λi g=>?_,h.βn,h.βi,λv i c e l he hc=>?_,h.βf,h.Sb,h.So⟩,hle⟩
 ·by_cases e:i=id
  ·simp_all [bI]
  ·rw[ce γ b e] at hc;exact(h.obs i o c r hc).mono hle rfl λ_ k=>k
 ·by_cases e:i=id
  ·simp_all [bI]
  ·rw[ce γ b e] at hc;exact h.γn i c hc
 ·by_cases e:i=id
  ·by_cases e':j=id
   ·rw[e,e']
   ·subst e;rw[bI] at hc;cases hc;rw[ce γ b e'] at d;exact z3a d (m j)
  ·by_cases e':j=id
   ·subst e';rw[bI] at d;cases d;rw[ce γ b e] at hc;exact z3a hc (m i)
   ·rw[ce γ b e] at hc;rw[ce γ b e'] at d;exact h.γi i j c hc d
 ·rw[ce γ b j1];exact h.γf i g
 ·by_cases e':i=id
  ·simp_all [bI]
  ·rw[ce γ b e'] at hc;exact h.βγ v i c e l he hc
def Rp.newTok(h:Rp w0 S γ β s a w){v b e:Nat}(x:β v=none)(p:¬ w0.Old b)(q:b<w.heap.size)(B:∀ id,γ id≠some b)(A:∀ v e,v ∉ s.dead->β v≠some (b,e))(l:v<s.base+4096)(z:∀ o,e<=o->¬ S b o) :
  Rp w0 S γ (pH β v (b,e)) s a w/\Cx.le ⟨w,S,γ,β,s.ob,s.dead⟩ ⟨w,S,γ,pH β v (b,e),s.ob,s.dead⟩:=by
 have hle:Cx.le ⟨w,S,γ,β,s.ob,s.dead⟩ ⟨w,S,γ,pH β v (b,e),s.ob,s.dead⟩:=
  zM (λ_ _ _=>rfl) (λ_ _ k=>k) (λ_ _ k=>k) (λv b e y he=>⟨ft x he,λn hn=>hn⟩)
 refine⟨⟨h.ext,λt ht=>(h.tms t ht).mono hle,h.nt,h.tmu,λi o c r hc=>(h.obs i o c r hc).mono hle rfl λ_ k=>k,h.γn,h.γi,h.γf,λu c f hu hc=>?_,λu j c f m hu g hc d=>?_,λu i c f hu hc l=>?_,λu hu=>?_,h.Sb,h.So⟩,hle⟩
 ·by_cases e':u=v
  ·simp_all [bI]
  ·rw[ce β _ e'] at hc;exact h.βn u c f hu hc
 ·by_cases e1:u=v
  ·by_cases e2:j=v
   ·rw[e1,e2]
   ·simp_all [bI,ce,e2]
  ·by_cases e2:j=v
   ·simp_all [bI,ce,e1]
   ·rw[ce β _ e1] at hc;rw[ce β _ e2] at d;exact h.βi u j c f m hu g hc d
 ·by_cases e':u=v
  ·simp_all [bI]
  ·rw[ce β _ e'] at hc;exact h.βγ u i c f hu hc l
 ·rw[ce β _ j1];exact h.βf u hu
end
def Qp(w0:Root)(S:Nat->Nat->Prop)(γ:Nat->Option Nat)(β:Nat->Option (Nat×Nat))(s:St)(a:Act)(w:World)(dst:Option Nat)(v:AV)(val:Value)(w':World):Prop:=
 ∃ S' γ' β',Rp w0 S' γ' β' s a w'/\AR ⟨w',S',γ',β',s.ob,s.dead⟩ v val/\(∀ b o,S b o->S' b o)/\(∃ os d,w'=grown w os d) ∧
  (∀ id b,γ id=some b->γ' id=some b)/\(∀ id,dst≠some (id-s.base)\/id<s.base->γ' id=γ id/\β' id=β id)
section
variable{w0:Root}{S:Nat->Nat->Prop}{γ:Nat->Option Nat}{β:Nat->Option (Nat×Nat)}{s:St}{a:Act}{w:World}
def Qp.same(h:Rp w0 S γ β s a w){v:AV}{val:Value}(b:AR ⟨w,S,γ,β,s.ob,s.dead⟩ v val)(dst:Option Nat):Qp w0 S γ β s a w dst v val w:=
 ⟨S,γ,β,h,b,λ_ _ k=>k,⟨[],_,(Gr w).symm⟩,λ_ _ k=>k,λ_ _=>⟨rfl,rfl⟩⟩
end
end Sy
end
noncomputable section
namespace Sy
open Go
def Fr(E:Env)(s:St)(γ:Nat->Option Nat)(β:Nat->Option (Nat×Nat))(o:Oper):Prop:=
 zl o=true->∀ d:Nat,o.dst=some d->d<4096/\γ (s.base+d)=none/\β (s.base+d)=none/\∀ T x,o.op=.alloc T->E.alOb T=some x->s.ob (s.base+d)=some x
def Mx{E:Env}{s:St}{γ:Nat->Option Nat}{β:Nat->Option (Nat×Nat)}{o:Oper}(h:zl o=false):Fr E s γ β o:=λhc=>by rw[h] at hc;cases hc
def eV{x:AV}{p:Ty×D}(h:isD x=some p):x=.d p.1 p.2:=by cases x<;>simp[isD] at h;grind
theorem yU{x:D}{b:Bool}(h:x.truth=some b):x=.bool b:=by
 cases x<;>simp[D.truth] at h
 simp_all
def pF{c:Cx}{x:AV}{b:Bool}{v:Value}(h:x.truth=some b)(k:AR c x v):v=.bool b/\∃ t,x=.d t (.bool b):=by
 cases x<;>simp only[AV.truth] at h<;>first|cases h|skip
 split at h<;>first|(cases h;done)|skip
 have:=yU h;subst this;exact⟨Ei k,_,rfl⟩
def qc{x:D}{n k:Nat}(h:x.idx n=some k):∃ a,x=.int a k/\k<n:=by
 cases x<;>simp only[D.idx] at h<;>first|cases h|skip
 rename_i a i;split at h
 ·rename_i b;simp only[zda] at h;refine⟨a,?_,j1⟩
  grind
 ·cases h
def yt{x:D}{k:Nat}(h:x.natOf=some k):∃ a,x=.int a k:=by
 cases x<;>simp only[D.natOf] at h<;>first|cases h|skip
 rename_i a i;split at h
 ·simp only[zda] at h;refine⟨a,?_⟩;grind
 ·cases h
def HY{x:D}{l:List D}(h:x.asSl=some l):x=.sl l:=by
 cases x<;>simp[D.asSl] at h
 simp_all
def yE{c:Cx}{t:Ty}{id:Nat}{v:Value}(a:xR (c.ob id)=true)(na:∀ cs,v≠.agg cs)(h:AC c (.ptr t id []) v.cells.toList):∃ b,v=.pointer (some ⟨b,0,none⟩)/\c.γ id=some b:=by
 simp only[AC] at h;obtain⟨b,off,h1,h2,h3⟩:=h;unfold xR at a;split at a<;>first|(cases a;done)|skip
 all_goals
  rename_i d;obtain⟨_,e⟩:=h3 _ d;have:off=0:=e;subst this;exact⟨b,au na h1,h2⟩
theorem tL{c:Cx}:∀ (l:List AV) (caps:List Value),wN l=true->(l.all (λa=>match a with|.ptr _ id _=>xR (c.ob id)|_=>false))=true->oH c l caps->oI c l caps
 | [],caps,_,_,h=>by simp only[oH] at h;subst h;trivial
 | x::l,caps,hw,d,h=>by
  simp only[oH] at h;obtain⟨v,c2,rfl,h1,h2⟩:=h;simp only[zZb,zaa] at d;unfold wN at hw;split at hw<;>first|(cases hw;done)|skip
  ·simp_all
  ·rename_i t id l' e;cases e;refine⟨?_,tL l c2 hw d.2 h2⟩;have na:∀ cs,v≠.agg cs:=λcs e=>by
    simp only[AC] at h1;obtain⟨b,off,q,_⟩:=h1;subst e;simp at q
   have h3:=yE d.1 na (v:=v) (by
    have q:=h1;simp only[AC] at q;obtain⟨b,off,q,_⟩:=q;have:v=.pointer (some ⟨b,off,none⟩):=by simpa using q
    subst this;exact h1)
   exact h3
def Ft{c:Cx}{f:Nat}{l:List AV}{v:Value}(h:AR c (.clo f l) v):fU c (if wN l&&l.all (λa=>match a with|.ptr _ id _=>xR (c.ob id)|_=>false) then .clo f l else .undef) v:=by
 split
 ·rename_i hc;simp only[zaa] at hc;simp only[AR,AC] at h;obtain⟨na,caps,h1,h2⟩:=h;simp only[fU];exact⟨caps,au na h1,tL l caps hc.1 hc.2 h2⟩
 ·simp only[fU]
def Fu{c:Cx}{a vt:Ty}{id:Nat}{v:Value}(h:AR c (.map a vt id) v):fU c (.map a vt id) v:=by simp only[AR,AC] at h;obtain⟨na,b,h1,h2,h3,d,_⟩:=h;exact⟨b,au na h1,h2,h3,d⟩
def Fs{c:Cx}{a:AV}{v:Value}(h:mG (jR c.ob a)=true)(k:AR c a v):fU c (jR c.ob a) v/\v.oneCell'=true:=by
 have key:mG a=true:=by
  cases a<;>simp only[jR] at h<;>first|rfl|(cases h;done)|skip
  rename_i t id p;cases p<;>simp only at h
  ·split at h<;>cases h
  ·cases h
 refine⟨?_,NU key k⟩;cases a<;>simp only[mG] at key<;>first|(cases key;done)|skip
 ·exact Ft k
 ·exact Fu k
 ·exact k
def EH{c:Cx}{x:AV}{v:Value}{dd:List Nat}(h:uz c x v)(hp:ge (lS c.ob x)=true):AC ⟨c.w,c.S,c.γ,c.β,c.ob,dd⟩ (lS c.ob x) [v]/\∀ cs,v≠.agg cs:=by
 unfold uz at h;split at h
 ·rename_i t id;obtain⟨b,rfl,d⟩:=h;refine⟨?_,λcs e=>by cases e⟩
  simp only[lS] at hp ⊢;cases ho:c.ob id with
  | none=>rw[ho] at hp;simp[ge] at hp
  | some o=>
   rw[ho] at hp;cases o<;>simp only[ge] at hp<;>first|(cases hp;done)|skip
   all_goals
    simp only[AC];refine⟨b,0,rfl,d,λo' a=>?_⟩;have:some o'=some _:=a.symm.trans ho;cases this;exact⟨rfl,rfl⟩
 ·exact h.elim
theorem Bb{c:Cx}{dd:List Nat}:∀ {l:List AV} {vs:List Value},oI c l vs->(l.map (lS c.ob)).all ge=true->oH ⟨c.w,c.S,c.γ,c.β,c.ob,dd⟩ (l.map (lS c.ob)) vs
 | [],[],_,_=>by simp[oH]
 | [],_::_,h,_=>h.elim
 | _::_,[],h,_=>h.elim
 | x::l,v::vs,h,hp=>by simp only[zbb,zZb,zaa] at hp;simp only[zbb,oH];exact⟨v,vs,rfl,(EH h.1 hp.1).1,Bb h.2 hp.2⟩
def Ba{c:Cx}{x:AV}{v:Value}{dd:List Nat}(h:fU c x v):AR ⟨c.w,c.S,c.γ,c.β,c.ob,dd⟩ (oK c.ob x) v:=by
 cases x<;>simp only[fU] at h<;>simp only[oK]<;>first|(simp only[AR];done)|skip
 case d t y=>simpa only[AR] using h
 case fptr t y=>simpa only[AR,AC] using h
 case ptr t id p=>
  cases hp:ge (lS c.ob (.ptr t id p)) with
  | true=>
   obtain⟨m,s⟩:=EH (dd:=dd) h hp;have n:v.cells.toList=[v]:=by
    unfold uz at h;split at h
    ·obtain⟨b,rfl,_⟩:=h;rfl
    ·exact h.elim
   cases hx:lS c.ob (.ptr t id p)<;>rw[hx] at hp m<;>simp only[ge] at hp<;>first|(cases hp;done)|skip
   simp_all [AR,n]
  | false=>
   have:lS c.ob (.ptr t id p)=.undef:=by unfold lS at hp ⊢;all_goals grind [ge]
   simp_all [AR]
 case clo f l=>
  obtain⟨caps,rfl,hc⟩:=h;split
  ·rename_i hp;simp only[AR,AC];exact⟨λcs e=>(by cases e),caps,rfl,Bb hc hp⟩
  ·simp only[AR]
 case yld id=>simpa only[AR,AC] using h
 case map kt vt id=>
  obtain⟨b,rfl,h1,h2,h3⟩:=h;split
  ·rename_i q r l k;split
   ·rename_i a;simp only[zaa] at a;have i:=acQ _ _ a.1;have j:=acQ _ _ a.2;subst i;subst j;simp only[AR,AC];refine⟨λcs e=>(by cases e),b,rfl,h1,h2,h3,λo g=>?_⟩
    have:some o=some _:=g.symm.trans k;cases this;exact⟨l,rfl⟩
   ·simp only[AR]
  ·simp only[AR]
section
variable{P:Program}{E:Env}{w0:Root}{S:Nat->Nat->Prop}{γ:Nat->Option Nat}{β:Nat->Option (Nat×Nat)}{s:St}{a:Act}{w:World}
def jX(P:Program)(E:Env)(w0:Root)(S:Nat->Nat->Prop)(γ:Nat->Option Nat)(β:Nat->Option (Nat×Nat))(s:St)(a:Act)(w:World)(o:Oper):Prop:=
 ∀ (R:Type) (K:AV->Option R) (r:R),qv E s o K=some r->∃ v,K v=some r/\fd P o a w (Qp w0 S γ β s a w o.dst v)
def mw(a:Addr):(Instr.sureAddr (.pointer (some a))).run P w=.ok a w:=rfl
def NQ(h:Rp w0 S γ β s a w){dst x ty pos after guard}:jX P E w0 S γ β s a w ⟨dst,.move x,ty,pos,after,guard⟩:=by intro R K r hq;exact⟨_,hq,.value (v:=a.eval x) (w':=w) (by simp[execOp]) (Qp.same h (aX h x) _)⟩
def GX(h:Rp w0 S γ β s a w){dst x ty pos after guard}:jX P E w0 S γ β s a w ⟨dst,.assign x,ty,pos,after,guard⟩:=by intro R K r hq;exact⟨_,hq,.value (v:=a.eval x) (w':=w) (by simp[execOp]) (Qp.same h (aX h x) _)⟩
def NR(h:Rp w0 S γ β s a w){dst c x y ty pos after guard}:jX P E w0 S γ β s a w ⟨dst,.pick c x y,ty,pos,after,guard⟩:=by
 intro R K r hq;simp only[qv] at hq;obtain⟨b,h1,h2⟩:=ab hq;obtain⟨h3,_⟩:=pF h1 (aX h c);cases b
 ·exact⟨_,by simpa using h2,.value (v:=a.eval y) (w':=w) (by simp[execOp,h3,asBool]) (Qp.same h (aX h y) _)⟩
 ·exact⟨_,by simpa using h2,.value (v:=a.eval x) (w':=w) (by simp[execOp,h3,asBool]) (Qp.same h (aX h x) _)⟩
def Co(h:Rp w0 S γ β s a w){dst x ty pos after guard}:jX P E w0 S γ β s a w ⟨dst,.nilCheck x,ty,pos,after,guard⟩:=by
 intro R K r hq;simp only[qv] at hq;have hx:=aX h x;generalize s.opA x=y at *;cases y<;>(try simp only at hq)<;>first|cases hq|skip
 rename_i t id p;refine⟨_,hq,?_⟩;have c:=hx;simp only[AR,AC] at hx;obtain⟨h1,b,off,h2,h3⟩:=hx;have d:=au h1 h2;exact .value (v:=a.eval x) (w':=w) (by simp[execOp,d]) (Qp.same h c _)
mutual
theorem wR:∀ (t:Ty),ao t=true->AV.fits t (lM t)=true
 | .int k,_=>bY _ _
 | .bool,_=>bY _ _
 | .str,_=>bY _ _
 | .st ts,hn=>by
  simp only[lM];split
  ·simp only[AV.fits,zaa];exact⟨by have:=acP (.st ts);simpa [Ty.beq] using this,kr ts (by simpa [ao] using hn)⟩
  ·exact bY _ _
 | .arr n t,_=>bY _ _
 | .sl t,_=>rfl
 | .tup _,h=>by simp[ao] at h
 | .fn,h=>by simp[ao] at h
theorem kr:∀ (ts:List Ty),br ts=true->AV.fitss ts (kL ts)=true
 | [],_=>rfl
 | t::ts,h=>by simp only[br,zaa] at h;simp only[kL,AV.fitss,zaa];exact⟨wR t h.1,kr ts h.2⟩
end
mutual
theorem c7:∀ (t:Ty),ao t=true->wt t (ar t)
 | .int k,_=>by simp_all [wt,ar]
 | .bool,_=>by simp_all [wt,ar]
 | .str,_=>by simp_all [wt,ar]
 | .st ts,hn=>by simp only[wt,ar];exact⟨_,rfl,pL ts (by simpa [ao] using hn)⟩
 | .arr n t,hn=>by
  simp only[wt,ar];refine⟨_,rfl,j3,λx hx=>?_⟩
  rw[(zkd.1 hx).2];exact c7 t (by simpa [ao] using hn)
 | .sl t,_=>by simp only[wt,ar];exact⟨[],rfl,λx hx=>by simp at hx⟩
 | .tup _,h=>by simp[ao] at h
 | .fn,h=>by simp[ao] at h
theorem pL:∀ (ts:List Ty),br ts=true->fK ts (gG ts)
 | [],_=>by simp[fK,gG]
 | t::ts,h=>by simp only[br,zaa] at h;simp only[gG,fK];exact⟨_,_,rfl,c7 t h.1,pL ts h.2⟩
end
def Nh{w:World}{S:Nat->Nat->Prop}{d:D}{v:Value}(h:Gj d v=true):CR w S d v:=by
 cases d<;>cases v<;>simp only[Gj] at h<;>first|cases h|skip
 case int.int k n k' n'=>simp at h;rw[h.1,h.2];exact .int _ _
 case bool.bool b b'=>simp at h;rw[h];exact .bool _
 case str.string x y=>
  have:x=y:=by simpa using h
  rw[this];exact .str _
 case sl.slice l a len cap=> simp only[zaa,List.isEmpty_iff,Option.isNone_iff_eq_none,zfa] at h;obtain⟨⟨⟨rfl,rfl⟩,rfl⟩,rfl⟩:=h;exact .sl [] none 0 0 0 (λ_=>undef) (.inl rfl) (zja 0) (λi d c=>by simp[acd] at c) (λi d c=>by simp[acd] at c)
theorem cO{w:World}{S:Nat->Nat->Prop}:∀ {a:List D} {cs:List Value},cV a cs=true->da w S a cs
 | [],[],_=>da.nil
 | [],_::_,h=>by simp[cV] at h
 | _::_,[],h=>by simp[cV] at h
 | d::a,v::cs,h=>by simp only[cV,zaa] at h;exact da.append (da.single.2 (Nh h.1)) (cO h.2)
theorem tN:∀ {a b:List D} {cs:List Value},cV (a++b) cs=true->cV a (cs.take a.length)=true/\cV b (cs.drop a.length)=true
 | [],b,cs,h=>by simpa [cV] using h
 | d::a,b,[],h=>by simp[cV] at h
 | d::a,b,v::cs,h=>by
  simp only[zBb,cV,zaa] at h;obtain⟨h1,h2⟩:=tN h.2
  simp_all [zRa,zec,zgd,cV,zaa]
mutual
theorem CW{c:Cx}:∀ (t:Ty) (cs:List Value),ao t=true->cV (ar t).flat cs=true->AC c (lM t) cs
 | .int k,cs,hn,h=>by simp only[lM,AC];exact⟨c7 _ hn,hn,cO h⟩
 | .bool,cs,hn,h=>by simp only[lM,AC];exact⟨c7 _ hn,hn,cO h⟩
 | .str,cs,hn,h=>by simp only[lM,AC];exact⟨c7 _ hn,hn,cO h⟩
 | .st ts,cs,hn,h=>by
  simp only[lM];split
  ·simp only[ao] at hn;simp only[AC];exact⟨hn,kr ts hn,mC ts cs hn (by simpa [ar,D.flat] using h)⟩
  ·simp only[AC];exact⟨c7 _ hn,hn,cO h⟩
 | .arr n t,cs,hn,h=>by simp only[lM,AC];exact⟨c7 _ hn,hn,cO h⟩
 | .sl t,cs,hn,h=>by
  simp only[lM,AC];simp only[ar,D.flat] at h
  match cs,h with
  | [],h=>simp[cV] at h
  | [v],h=>
   simp only[cV,zaa] at h;have h1:=h.1;cases v<;>simp only[Gj] at h1<;>first|cases h1|skip
   simp_all
  | v::u::cs,h=>simp[cV] at h
 | .tup _,_,h,_=>by simp[ao] at h
 | .fn,_,h,_=>by simp[ao] at h
theorem mC{c:Cx}:∀ (ts:List Ty) (cs:List Value),br ts=true->cV (acd (gG ts)) cs=true->lN c (kL ts) cs
 | [],cs,_,h=>by grind [gG,acd,kL,lN,cV]
 | t::ts,cs,hn,h=>by simp only[br,zaa] at hn;simp only[gG,acd] at h;obtain⟨h1,h2⟩:=tN h;simp only[kL,lN];exact⟨_,_,(zva _ _).symm,CW t _ hn.1 h1,mC ts _ hn.2 h2⟩
end
end
def og{R:Type}{c:Cx}{b:Nat}{o:Ob}{p:List Nat}{t:Ty}{K:AV->Option R}{r:R}(f:gt c b o)(ht:fo o p=some t)(h:gV o p K=some r) :
  ∃ a' cs,K a'=some r/\AC c a' cs/\AV.fits t a'=true/\ao t=true/\∀ (i:Nat) (v:Value),cs[i]?=some v->c.w.cell? ⟨b,cG o p+i,none⟩=some v:=by
 cases o
 case mp=>simp[fo] at ht
 case lp=>simp[fo] at ht
 case fv=>simp[gV] at h
 case one T v=> simp only[gt] at f;obtain⟨h1,h2,_,cs,k,e,q⟩:=f;simp only[fo] at ht;simp only[gV] at h;obtain⟨a',pre,mid,post,d,rfl,n,z,A⟩:=EU p h2 h1 ht e h;refine⟨a',mid,d,z,A,dY p h1 ht,λi v m=>?_⟩;rw[cell_of_row _ k];simp only[cG,<-n];grind
 case many T l=>
  simp only[gt] at f;obtain⟨h1,h2,_,cs,k,e⟩:=f;cases p with
  | nil=>simp[fo] at ht
  | cons i p=>
   simp only[fo] at ht;simp only[gV] at h;obtain⟨x,d,n⟩:=ab h;rw[cz d] at e;obtain⟨q,s⟩:=e.split;obtain⟨u,B⟩:=s.split;have hx:=h2 x (zdb d);obtain⟨a',pre,mid,post,m1,m2,m3,m4,m5⟩:=EU (c:=c) (cs:=(cs.drop (acd (l.take i)).length).take x.flat.length) p (bY T x) h1 ht (by simp only[AC];exact⟨hx,h1,u⟩) n
   refine⟨a',mid,m1,m4,m5,dY p h1 ht,λj v m=>?_⟩;rw[cell_of_row _ k];have hlen:(acd (l.take i)).length=i*T.size:=by rw[aG h1 _ (λx hx=>h2 x (zSa hx))];have:=(zqa.1 d).1;simp[zEb (zyc this)]
   simp only[cG,<-m3,zBc];have y:=(zqa.1 m).1;have a:((cs.drop (acd (l.take i)).length).take x.flat.length)[pre.length+j]?=some v:=by rw[m2,z0b j1,zOb,zxb y];exact m
   have g:=(zqa.1 a).1;rw[zcb] at g;rw[z6b j1,z9b,hlen] at a
   rw[show i*T.size+pre.length+j=i*T.size+(pre.length+j) by omega]
   exact a
section
variable{P:Program}{E:Env}{w0:Root}{S:Nat->Nat->Prop}{γ:Nat->Option Nat}{β:Nat->Option (Nat×Nat)}{s:St}{a:Act}{w:World}
def kh(a:EnvOk P E){T:TypeId}{t:Ty}(h:E.L T=some t)(hn:ao t=true):bK P t T=true:=by
 rcases a.lay T t h with⟨b,rfl⟩|h
 ·simp[ao] at hn
 ·exact h
def lO{c:Cx}{t:Ty}{id:Nat}{p:List Nat}{v:Value}(h:AR c (.ptr t id p) v):∃ b off,v=.pointer (some ⟨b,off,none⟩)/\c.γ id=some b/\∀ o,c.ob id=some o->fo o p=some t/\off=cG o p:=by simp only[AR,AC] at h;obtain⟨h1,b,off,h2,h3⟩:=h;exact⟨b,off,au h1 h2,h3⟩
def gN{c:Cx}{t:Ty}{id:Nat}{p:List Nat}{b off:Nat}(h:c.γ id=some b)(h2:∀ o,c.ob id=some o->fo o p=some t/\off=cG o p):AR c (.ptr t id p) (.pointer (some ⟨b,off,none⟩)):=by simp only[AR,AC];exact⟨j3,b,off,rfl,h,h2⟩
def yY{c:Cx}{t:Ty}{x:D}{v:Value}(h:AR c (.fptr t x) v):wt t x/\ao t=true/\∃ b off,v=.pointer (some ⟨b,off,none⟩)/\rq c.w c.S b off x.flat:=by simp only[AR,AC] at h;obtain⟨h1,h2,h0,b,off,h3,a⟩:=h;exact⟨h2,h0,b,off,au h1 h3,a⟩
def oQ{c:Cx}{t:Ty}{x:D}{b off:Nat}(h:wt t x)(hn:ao t=true)(h2:rq c.w c.S b off x.flat):AR c (.fptr t x) (.pointer (some ⟨b,off,none⟩)):=by simp only[AR,AC];exact⟨j3,h,hn,b,off,rfl,h2⟩
def NP(M:EnvOk P E)(h:Rp w0 S γ β s a w){dst T x ty pos after guard}:jX P E w0 S γ β s a w ⟨dst,.load T x,ty,pos,after,guard⟩:=by
 intro R K r hq;simp only[qv] at hq;have hx:=aX h x;cases hfn:E.fnT T with
 | true=>
  rw[hfn] at hq;simp only[cond_true] at hq;split at hq<;>first|cases hq|skip
  rename_i id e;split at hq<;>first|cases hq|skip
  rename_i y k;split at hq<;>first|cases hq|skip
  rw[e] at hx;obtain⟨b,off,B,I,g⟩:=lO hx;obtain⟨_,rfl⟩:=g _ k;obtain⟨_,c,q,u,k3⟩:=h.obs id _ b k I;replace u:=Ba (dd:=s.dead) u;exact⟨_,hq,.value (v:=c) (w':=w) (by simp[execOp,B,Cw (M.fnT T hfn) q,cG]) (Qp.same h u _)⟩
 | false=>
 rw[hfn] at hq;simp only[cond_false] at hq;replace hq:=ab hq;obtain⟨t,ht,hq⟩:=hq;generalize s.opA x=y at *;cases y<;>(try simp only at hq)<;>first|cases hq|skip
 case ptr t' id p=>
  split at hq<;>first|cases hq|skip
  rename_i j;have:=acQ _ _ j;subst this;replace hq:=ab hq;obtain⟨o,k,hq⟩:=hq;obtain⟨b,off,B,I,g⟩:=lO hx;obtain⟨q,rfl⟩:=g o k;obtain⟨a',cs,m1,m2,m3,m4,m5⟩:=og (h.obs id o b k I) q hq;obtain⟨m6,m7⟩:=iO _ _ _ m3 m2;obtain⟨v,d,f⟩:=km (kh M ht m4) (w:=w) (b:=b) (off:=cG o p) m6 m7 m5;exact⟨a',m1,.value (v:=v) (w':=w) (by simp[execOp,B,d]) (Qp.same h (xj m3 m2 f) _)⟩
 case fptr t' z=>
  split at hq<;>first|cases hq|skip
  rename_i j;have:=acQ _ _ j;subst this;obtain⟨q,W,b,off,B,cs,u,k3⟩:=yY hx;obtain⟨v,d,f⟩:=km (kh M ht W) (w:=w) (b:=b) (off:=off) (cs:=cs) (by rw[<-u.1];exact cL _ _ q W) u.nag (λi c hc=>(k3 i c hc).2)
  exact⟨_,hq,.value (v:=v) (w':=w) (by simp[execOp,B,d]) (Qp.same h (xj (bY _ _) (by simp only[AC];exact⟨q,W,u⟩) f) _)⟩
 case sub sl e id p lo n=>
  split at hq<;>first|cases hq|skip
  rename_i j;simp only[zaa,zTa] at j;obtain⟨U,j⟩:=j;subst U;have:=acQ _ _ j;subst this;replace hq:=ab hq;obtain⟨o,k,hq⟩:=hq;simp only[AR,AC] at hx;obtain⟨Q,A,b,off,cap,G,I,g⟩:=hx;simp only[zFa,if_false] at G;have B:=au Q G;obtain⟨m,q,u,rfl⟩:=g o k;obtain⟨a',cs,m1,m2,m3,m4,m5⟩:=og (h.obs id o b k I) q hq;split at m1<;>first|(cases m1;done)|skip
  rename_i m' C l;split at m1<;>first|(cases m1;done)|skip
  rename_i F;simp only[zaa,zfa] at F;have he:=acQ _ _ F.1;subst he;have hm:=o7 m3;simp only[Ty.arr.injEq] at hm;simp only[AC] at m2;obtain⟨q1,q2,X⟩:=m2;simp only[wt] at q1;obtain⟨l0,e0,q4,Y⟩:=q1;cases e0;have O:l=l.take lo++((l.drop lo).take n++(l.drop lo).drop n):=by rw[zva,zva]
  have N:acd l=acd (l.take lo)++(acd ((l.drop lo).take n)++acd ((l.drop lo).drop n)):=by
   conv=>lhs;rw[O]
   rw[cn,cn]
  simp only[D.flat] at X;rw[N] at X;obtain⟨_,r2⟩:=X.split;obtain⟨Z,_⟩:=r2.split;have J:(acd (l.take lo)).length=lo*C.size:=by rw[aG A _ (λx hx=>Y x (zSa hx)),zcb,zEb j1]
  have L:(acd ((l.drop lo).take n)).length=n*C.size:=by rw[aG A _ (λx hx=>Y x (zcc (zSa hx))),zcb,List.length_drop,zEb j1]
  have V:wt (.arr n C) (.st ((l.drop lo).take n)):=by simp only[wt];exact⟨_,rfl,by rw[zcb,List.length_drop,zEb j1],λx hx=>Y x (zcc (zSa hx))⟩
  have H:ao (.arr n C)=true:=by simp only[ao];exact A
  obtain⟨v,d,f⟩:=km (kh M ht H) (w:=w) (b:=b) (off:=cG o p+lo*C.size) (cs:=(cs.drop (acd (l.take lo)).length).take (acd ((l.drop lo).take n)).length) (by rw[<-Z.1,L];rfl) Z.nag (λi c hc=>by
   have hi:i<(acd ((l.drop lo).take n)).length:=by have:=(zqa.1 hc).1;rw[zcb] at this;omega
   rw[z6b hi,z9b] at hc;have:=m5 _ c hc;rw[J,<-zXb] at this;exact this)
  exact⟨_,m1,.value (v:=v) (w':=w) (by simp[execOp,B,d]) (Qp.same h (xj (bY _ _) (by simp only[AC];exact⟨V,H,by simp only[D.flat];exact Z⟩) f) _)⟩
def tF{T:TypeId}{d:List Ty}{f:Nat}{u:Ty}(hl:bK P (.st d) T=true)(hf:d[f]?=some u)(b off:Nat)(w:World) :
  (Instr.fieldAt T (.pointer (some ⟨b,off,none⟩)) f).run P w=.ok (.pointer (some ⟨b,off+acT (d.take f),none⟩)) w:=by
 obtain⟨e,h1,h2⟩:=jK hl;obtain⟨g,h3,h,j,i⟩:=uh h2 hf;have a:e[f]?=some g:=by simpa using h3
 have c:u.size≠0:=j1
 simp only[Instr.fieldAt,zla,run_underlying h1,zga,a,mw,fieldPlace,co i,c,if_false,zra,h,dh,zeb]
theorem kl:∀ (p:List Nat) {t u v:Ty} {i:Nat},aP t p=some u->aP u [i]=some v->aP t (p++[i])=some v
 | [],t,u,v,i,h,k=>by simp_all [aP]
 | j::p,.st a,u,v,i,h,k=>by simp only[aP,zBb] at h ⊢;obtain⟨z,h1,h2⟩:=ab h;rw[h1];exact kl p h2 k
 | j::p,.arr n t,u,v,i,h,k=>by simp only[aP,zBb] at h ⊢;exact kl p h k
 | j::p,.int _,u,v,i,h,k=>by simp[aP] at h
 | j::p,.bool,u,v,i,h,k=>by simp[aP] at h
 | j::p,.str,u,v,i,h,k=>by simp[aP] at h
 | j::p,.sl _,u,v,i,h,k=>by simp[aP] at h
 | j::p,.tup _,u,v,i,h,k=>by simp[aP] at h
 | j::p,.fn,u,v,i,h,k=>by simp[aP] at h
theorem jm:∀ (p:List Nat) {t u:Ty} {i:Nat},aP t p=some u->ba t (p++[i])=ba t p+ba u [i]
 | [],t,u,i,h=>by simp_all [aP,ba]
 | j::p,.st a,u,i,h=>by simp only[aP,zBb] at h ⊢;obtain⟨z,h1,h2⟩:=ab h;simp only[ba];rw[show a.getD j .bool=z by simp[List.getD,h1],jm p h2,zXb]
 | j::p,.arr n t,u,i,h=>by simp only[aP,zBb] at h ⊢;simp only[ba];rw[jm p h,zXb]
 | j::p,.int _,u,i,h=>by simp[aP] at h
 | j::p,.bool,u,i,h=>by simp[aP] at h
 | j::p,.str,u,i,h=>by simp[aP] at h
 | j::p,.sl _,u,i,h=>by simp[aP] at h
 | j::p,.tup _,u,i,h=>by simp[aP] at h
 | j::p,.fn,u,i,h=>by simp[aP] at h
def yy{o:Ob}{p:List Nat}{t u:Ty}{i:Nat}(h:fo o p=some t)(k:aP t [i]=some u):fo o (p++[i])=some u/\cG o (p++[i])=cG o p+ba t [i]:=by
 cases o with
 | one T v=>simp only[fo,cG] at h ⊢;exact⟨kl p h k,jm p h⟩
 | many T l=>
  cases p with
  | nil=>simp[fo] at h
  | cons j p=>simp only[fo,cG,zBb] at h ⊢;exact⟨kl p h k,by rw[jm p h,zXb]⟩
 | mp a vt l=>simp[fo] at h
 | lp i q=>simp[fo] at h
 | fv v=>cases p<;>simp[fo] at h;subst h;simp[aP] at k
def Ak(m:EnvOk P E)(h:Rp w0 S γ β s a w){dst T x f ty pos after guard}:jX P E w0 S γ β s a w ⟨dst,.fieldAddr T x f,ty,pos,after,guard⟩:=by
 intro R K r hq;simp only[qv] at hq;replace hq:=ab hq;obtain⟨t,ht,hq⟩:=hq;have hx:=aX h x;generalize s.opA x=y at *;cases t<;>(try simp only at hq)<;>first|cases hq|skip
 rename_i k;cases y<;>(try simp only at hq)<;>first|cases hq|skip
 case ptr t' id p=>
  split at hq<;>first|cases hq|skip
  rename_i d;have:=acQ _ _ d;subst this;replace hq:=ab hq;obtain⟨u,hu,hq⟩:=hq;obtain⟨b,off,g,I,e⟩:=lO hx;rcases m.lay T _ ht with⟨l,c⟩|hl
  ·cases c
  refine⟨_,hq,.value (v:=.pointer (some ⟨b,off+acT (k.take f),none⟩)) (w':=w) (by simp only[execOp,g,zla,tF hl hu,zga,zra]) (Qp.same h (gN I λo G=>?_) _)⟩
  obtain⟨j,rfl⟩:=e o G;have:=yy (i:=f) (u:=u) j (by simp[aP,hu])
  exact⟨this.1,by rw[this.2];simp[ba]⟩
 case fptr t' z=>
  split at hq<;>first|cases hq|skip
  rename_i d;have:=acQ _ _ d;subst this;replace hq:=ab hq;obtain⟨u,hu,hq⟩:=hq;replace hq:=ab hq;obtain⟨J,H,hq⟩:=hq;obtain⟨j,n,b,off,g,q⟩:=yY hx;rcases m.lay T _ ht with⟨l,c⟩|hl
  ·cases c
  have F:z.get [f]=some J:=by simp[D.get,H]
  obtain⟨m1,A,B,m2,m3⟩:=jG [f] j n (show aP (.st k) [f]=some u by simp[aP,hu]) F
  rw[m2] at q;have C:=q.part;rw[m3] at C;refine⟨_,hq,.value (v:=.pointer (some ⟨b,off+acT (k.take f),none⟩)) (w':=w) (by simp only[execOp,g,zla,tF hl hu,zga,zra]) (Qp.same h (oQ m1 (cd (by simpa [ao] using n) hu) ?_) _)⟩
  simpa [ba] using C
def mH{T:TypeId}{n:Nat}{e:Ty}(hl:bK P (.arr n e) T=true){c:IntKind}{k:Nat}(hk:k<n)(b off:Nat)(w:World) :
  (Instr.indexAt T (.pointer (some ⟨b,off,none⟩)) (.int c k)).run P w=.ok (.pointer (some ⟨b,off+k*e.size,none⟩)) w:=by
 obtain⟨u,h1,h2⟩:=eY hl;have a:(0:Int)<=(k:Int)/\(k:Int)<(n:Int):=j1
 simp only[Instr.indexAt,asIntOf,pure_bind,zla,run_underlying h1,zga,mw,zra,a,and_self,if_true,co h2,dh,zsd]
def nC{T:TypeId}{e:Ty}(hl:bK P (.sl e) T=true){c:IntKind}{k len cap:Nat}(hk:k<len)(b off:Nat)(w:World) :
  (Instr.indexAt T (.slice (some ⟨b,off,none⟩) len cap) (.int c k)).run P w=.ok (.pointer (some ⟨b,off+k*e.size,none⟩)) w:=by
 obtain⟨u,h1,h2⟩:=jJ hl;have a:(0:Int)<=(k:Int)/\(k:Int)<(len:Int):=j1
 simp only[Instr.indexAt,asIntOf,pure_bind,zla,run_underlying h1,zga,zra,a,and_self,if_true,co h2,dh,zsd]
def Hx{c:Cx}{t:Ty}{id:Nat}{v:Value}(h:AR c (.mem t id) v):ao t=true/\∃ b,c.γ id=some b/\∀ o,c.ob id=some o->∃ l,o=.many t l/\v=.slice (some ⟨b,0,none⟩) l.length l.length:=by simp only[AR,AC] at h;obtain⟨h1,h2,b,h3,a⟩:=h;refine⟨h2,b,h3,λo d=>?_⟩;obtain⟨l,e,f⟩:=a o d;exact⟨l,e,au h1 f⟩
def kN{c:Cx}{ob:Nat->Option Ob}{e:Ty}{y:AV}{v:Value}{l:List D}(hn:ao e=true)(h:AR c y v)(hl:y.asList ob e=some l):(∀ x∈l,wt e x)/\CR c.w c.S (.sl l) v:=by
 unfold AV.asList at hl;obtain⟨x,h1,h2⟩:=ab hl;have:=HY h2;subst this;obtain⟨a,d⟩:=oR (t:=.sl e) (by simpa [ao] using hn) h h1
 simp only[wt] at a;obtain⟨l',b,f⟩:=a;cases b;exact⟨f,d.sl_inv⟩
def Al(W:EnvOk P E)(h:Rp w0 S γ β s a w){dst T x i ty pos after guard}:jX P E w0 S γ β s a w ⟨dst,.indexAddr T x i,ty,pos,after,guard⟩:=by
 intro R K r hq;simp only[qv] at hq;replace hq:=ab hq;obtain⟨t,ht,hq⟩:=hq;replace hq:=ab hq;obtain⟨ix,M,hq⟩:=hq;have hi:=eV M;have c:=aX h i;rw[hi] at c;have hx:=aX h x;generalize s.opA x=y at *;cases t<;>(try simp only at hq)<;>first|cases hq|skip
 case arr n e=>
  rcases W.lay T _ ht with⟨V,q⟩|hl
  ·cases q
  cases y<;>(try simp only at hq)<;>first|cases hq|skip
  case ptr j id p=>
   split at hq<;>first|cases hq|skip
   rename_i H;have:=acQ _ _ H;subst this;replace hq:=ab hq;obtain⟨k,hk,hq⟩:=hq;obtain⟨U,f,d⟩:=qc hk;rw[f] at c;obtain⟨AS,_⟩:=fJ c;obtain⟨b,off,C,Q,g⟩:=lO hx;refine⟨_,hq,.value (v:=.pointer (some ⟨b,off+k*e.size,none⟩)) (w':=w) (by simp only[execOp,C,AS,zla,mH hl d,zga,zra]) (Qp.same h (gN Q λo N=>?_) _)⟩
   obtain⟨F,rfl⟩:=g o N;have:=yy (i:=k) (u:=e) F (by cases e<;>simp[aP])
   exact⟨this.1,by rw[this.2];cases e<;>simp[ba]⟩
  case fptr j z=>
   split at hq<;>first|cases hq|skip
   rename_i H;have:=acQ _ _ H;subst this;replace hq:=ab hq;obtain⟨k,hk,hq⟩:=hq;replace hq:=ab hq;obtain⟨z',J,hq⟩:=hq;obtain⟨U,f,d⟩:=qc hk;rw[f] at c;obtain⟨AS,_⟩:=fJ c;obtain⟨F,X,b,off,C,L⟩:=yY hx;have hg:z.get [k]=some z':=by simp[D.get,J]
   obtain⟨m1,A,B,m2,m3⟩:=jG [k] F X (show aP (.arr n e) [k]=some e by cases e<;>simp[aP]) hg
   rw[m2] at L;have G:=L.part;rw[m3] at G;refine⟨_,hq,.value (v:=.pointer (some ⟨b,off+k*e.size,none⟩)) (w':=w) (by simp only[execOp,C,AS,zla,mH hl d,zga,zra]) (Qp.same h (oQ m1 (by simpa [ao] using X) ?_) _)⟩
   have:ba (.arr n e) [k]=k*e.size:=by cases e<;>simp[ba]
   rwa [this] at G
 case sl e=>
  rcases W.lay T _ ht with⟨V,q⟩|hl
  ·cases q
  have m:ao e=true:=by have:=aK _ _ hl;simpa [ao] using this
  by_cases hm:∃ j id,y=.mem j id
  ·obtain⟨j,id,rfl⟩:=hm;simp only at hq;split at hq<;>first|cases hq|skip
   rename_i H;have:=acQ _ _ H;subst this;split at hq<;>first|cases hq|skip
   rename_i u l g;replace hq:=ab hq;obtain⟨k,hk,hq⟩:=hq;obtain⟨U,f,d⟩:=qc hk;rw[f] at c;obtain⟨AS,_⟩:=fJ c;obtain⟨_,b,Q,I⟩:=Hx hx;obtain⟨l',e1,C⟩:=I _ g;cases e1;refine⟨_,hq,.value (v:=.pointer (some ⟨b,0+k*j.size,none⟩)) (w':=w) (by simp only[execOp,C,AS,zla,nC hl d,zga,zra]) (Qp.same h (gN Q λo N=>?_) _)⟩
   have:o=.many j l:=by have:=g.symm.trans N;cases this;rfl
   subst this;exact⟨by cases j<;>simp[fo,aP],by cases j<;>simp[cG,ba]⟩
  ·have O:(y.asList s.ob e).bind (λl=>(ix.2.idx l.length).bind λk=>(l[k]?).bind λy=>K (.fptr e y))=some r:=by
    cases y<;>first|exact hq|exact z3a ⟨_,_,rfl⟩ hm
   obtain⟨l,h1,hq⟩:=ab O;replace hq:=ab hq;obtain⟨k,hk,hq⟩:=hq;replace hq:=ab hq;obtain⟨z,J,hq⟩:=hq;obtain⟨U,f,d⟩:=qc hk;rw[f] at c;obtain⟨AS,_⟩:=fJ c;obtain⟨F,L⟩:=kN m hx h1;obtain⟨A,cap,b,off,C,G,k4,Y⟩:=L.elems;have hA:A=some ⟨b,off,none⟩:=by
    rcases G with rfl|G
    ·simp at J
    ·exact G
   rw[cz J] at Y;have Z:=Y.part;rw[aG m _ (λx hx=>F x (zSa hx)),zcb,zEb (zyc d)] at Z;exact⟨_,hq,.value (v:=.pointer (some ⟨b,off+k*e.size,none⟩)) (w':=w) (by simp only[execOp,C,hA,AS,zla,nC hl d,zga,zra]) (Qp.same h (oQ (F z (zdb J)) m Z) _)⟩
def iM{T:TypeId}{t:Ty}(hl:bK P t T=true){cs:Array Value}{pre mid post:List Value}(a:cs.toList=pre++(mid++post))(hm:mid.length=t.size)(hn:nag mid)(w:World) :
  ∃ v,(part T cs pre.length).run P w=.ok v w/\gL t mid v:=by
 have e:cs=(pre++(mid++post)).toArray:=by rw[<-a]
 subst e;unfold part;rw[zla,E3 hl,zga];cases ha:cY t
 ·have h1:mid.length=1:=by
   rw[hm];cases t<;>simp[cY] at ha<;>first|rfl|(exfalso;exact xT hl (.inl ⟨_,rfl⟩))
  match mid,h1 with
  | [c],_=>
   have h2:=hn c j3
   refine⟨c,?_,?_,?_,?_⟩
   ·simp
   ·cases c<;>simp_all [Value.cells,Value.oneCell']
   ·simp_all
   ·grind [Value.oneCell']
 ·refine⟨.agg mid.toArray,?_,rfl,λ_=>⟨_,rfl⟩,by rw[ha];intro h;cases h⟩
  simp only[if_true,zla,co hl,zga,zra]
  simp_all
def JY(J:EnvOk P E)(h:Rp w0 S γ β s a w){dst T x f ty pos after guard}:jX P E w0 S γ β s a w ⟨dst,.field T x f,ty,pos,after,guard⟩:=by
 intro R K r hq;simp only[qv] at hq;replace hq:=ab hq;obtain⟨t,ht,hq⟩:=hq;have hx:=aX h x;generalize s.opA x=y at *;cases t<;>(try simp only at hq)<;>first|cases hq|skip
 rename_i U;cases y<;>(try simp only at hq)<;>first|cases hq|skip
 rename_i W z;split at hq<;>first|cases hq|skip
 rename_i L;have:=acQ _ _ L;subst this;replace hq:=ab hq;obtain⟨u,hu,hq⟩:=hq;replace hq:=ab hq;obtain⟨q,N,hq⟩:=hq;rcases J.lay T _ ht with⟨V,m⟩|hl
 ·cases m
 have hn:=aK _ _ hl;obtain⟨n,O⟩:=AX hx hn;have M:z.get [f]=some q:=by simp[D.get,N]
 obtain⟨m1,A,B,m2,m3⟩:=jG [f] n hn (show aP (.st U) [f]=some u by simp[aP,hu]) M
 obtain⟨Q,F⟩:=O;rw[m2] at F;obtain⟨o,p⟩:=F.split;obtain⟨j,G⟩:=p.split;obtain⟨H,h1,h2⟩:=jK hl;obtain⟨g,h3,I,_,C⟩:=uh h2 hu;have c:=aK _ _ C;obtain⟨cs,b⟩:∃ cs,a.eval x=.agg cs:=by simp only[wt] at n;obtain⟨l,rfl,_⟩:=n;exact Q
 rw[b] at o p j G;simp only[Value.cells] at o p j G;obtain⟨v,e,i⟩:=iM C (cs:=cs) (pre:=cs.toList.take A.length) (mid:=(cs.toList.drop A.length).take q.flat.length) (post:=(cs.toList.drop A.length).drop q.flat.length)
  (by simp only[zva]) (by rw[<-j.1];exact cL _ _ m1 c) j.nag w
 have d:g.offset=(cs.toList.take A.length).length:=by rw[<-o.1,m3,I];simp[ba]
 have k:H[f]?=some g:=by simpa using h3
 exact⟨_,hq,.value (v:=v) (w':=w) (by simp only[execOp,b,Instr.field,zla,run_underlying h1,zga,k,asAgg,zra,d,e]) (Qp.same h (xj (bY _ _) (by simp only[AC];exact⟨m1,c,j⟩) i) _)⟩
def JZ(X:EnvOk P E)(h:Rp w0 S γ β s a w){dst T x i ty pos after guard}:jX P E w0 S γ β s a w ⟨dst,.index T x i,ty,pos,after,guard⟩:=by
 intro R K r hq;simp only[qv] at hq;replace hq:=ab hq;obtain⟨t,ht,hq⟩:=hq;replace hq:=ab hq;obtain⟨ix,L,hq⟩:=hq;have hi:=eV L;have b:=aX h i;rw[hi] at b;have hx:=aX h x;generalize s.opA x=y at *;cases t<;>(try simp only at hq)<;>first|cases hq|skip
 case str=>
  cases y<;>(try simp only at hq)<;>first|cases hq|skip
  rename_i t' z;split at hq<;>first|cases hq|skip
  rename_i I;have:=acQ _ _ I;subst this;replace hq:=ab hq;obtain⟨G,C,hq⟩:=hq;rcases X.lay T _ ht with⟨W,d⟩|hl
  ·cases d
  obtain⟨f,Q⟩:=AX hx rfl;simp only[wt] at f;obtain⟨sb,rfl⟩:=f;obtain⟨kt,kx⟩:=ix;cases kx<;>(try simp only[ack] at C)<;>first|cases C|skip
  rename_i k n;obtain⟨bb,J,g⟩:=ab C;simp only[zda] at g;subst g;obtain⟨AS,_⟩:=fJ b;have O:a.eval x=.string sb:=by obtain⟨c1,c2⟩:=Q;obtain⟨c,e,h⟩:=da.single' c2;have:=au c1 e;rw[this];cases h;rfl
  have hu:P.underlying T=some .string:=by simp only[bK,zaa] at hl;all_goals grind
  exact⟨_,hq,.value (v:=.int .u8 bb.toNat) (w':=w) (by simp only[execOp,O,AS,Instr.index,asIntOf,pure_bind,zla,run_underlying hu,zga,J,zra]) (Qp.same h (cW _ _) _)⟩
 rename_i n e;cases y<;>(try simp only at hq)<;>first|cases hq|skip
 rename_i t' z;split at hq<;>first|cases hq|skip
 rename_i I;have:=acQ _ _ I;subst this;replace hq:=ab hq;obtain⟨k,hk,hq⟩:=hq;replace hq:=ab hq;obtain⟨G,C,hq⟩:=hq;obtain⟨kk,N,ad⟩:=qc hk;rw[N] at b;obtain⟨AS,_⟩:=fJ b;rcases X.lay T _ ht with⟨W,d⟩|hl
 ·cases d
 have hn:=aK _ _ hl;obtain⟨f,Q⟩:=AX hx hn;have hg:z.get [k]=some G:=by simp[D.get,C]
 obtain⟨m1,A,B,m2,m3⟩:=jG [k] f hn (show aP (.arr n e) [k]=some e by cases e<;>simp[aP]) hg
 obtain⟨k3,Y⟩:=Q;rw[m2] at Y;obtain⟨U,V⟩:=Y.split;obtain⟨F,Z⟩:=V.split;obtain⟨u,h1,H⟩:=eY hl;have m:=aK _ _ H;obtain⟨cs,j⟩:∃ cs,a.eval x=.agg cs:=by simp only[wt] at f;obtain⟨l,rfl,_⟩:=f;exact k3
 rw[j] at U V F Z;simp only[Value.cells] at U V F Z;obtain⟨v,p,q⟩:=iM H (cs:=cs) (pre:=cs.toList.take A.length) (mid:=(cs.toList.drop A.length).take G.flat.length) (post:=(cs.toList.drop A.length).drop G.flat.length)
  (by simp only[zva]) (by rw[<-F.1];exact cL _ _ m1 m) F.nag w
 have o:k*e.size=(cs.toList.take A.length).length:=by rw[<-U.1,m3];cases e<;>simp[ba]
 have M:(0:Int)<=(k:Int)/\(k:Int)<(n:Int):=j1
 exact⟨_,hq,.value (v:=v) (w':=w) (by simp only[execOp,j,AS,Instr.index,asIntOf,pure_bind,zla,run_underlying h1,zga,M,and_self,if_true,co H,zsd,o,p,zra]) (Qp.same h (xj (bY _ _) (by simp only[AC];exact⟨m1,m,F⟩) q) _)⟩
end
def EJ:BinOp->Bool
 | .eql|.neq|.lss|.leq|.gtr|.geq=>true
 | _=>false
section
variable{P:Program}{E:Env}{w0:Root}{S:Nat->Nat->Prop}{γ:Nat->Option Nat}{β:Nat->Option (Nat×Nat)}{s:St}{a:Act}{w:World}
def MJ{op:BinOp}{k a:IntKind}{x y:Int}{z:D}(T:TypeId)(w:World)(h:ab7 op (.int k x) (.int a y)=some z) :
  (EJ op=true/\∃ c,z=.bool c/\(binOp op T (.int k x) (.int a y)).run P w=.ok (.bool c) w)\/(EJ op=false/\∃ n,z=.int k n/\(binOp op T (.int k x) (.int a y)).run P w=.ok (.int k n) w):=by
 cases op<;>simp only[ab7,ab8] at h
 case shl=>
     split at h<;>first|(cases h;done)|skip
     rename_i hy;simp only[zda] at h;exact .inr ⟨rfl,_,h.symm,by simp[binOp,Op.shift,hy]⟩
 case shr=>
     split at h<;>first|(cases h;done)|skip
     rename_i hy;simp only[zda] at h;exact .inr ⟨rfl,_,h.symm,by simp[binOp,Op.shift,hy]⟩
 case quo=>
  split at h<;>first|(cases h;done)|skip
  rename_i hk;subst hk;split at h<;>first|(cases h;done)|skip
  rename_i hy;simp only[zda] at h;exact .inr ⟨rfl,_,h.symm,by simp[binOp,Op.intDiv,hy]⟩
 case rem=>
  split at h<;>first|(cases h;done)|skip
  rename_i hk;subst hk;split at h<;>first|(cases h;done)|skip
  rename_i hy;simp only[zda] at h;exact .inr ⟨rfl,_,h.symm,by simp[binOp,Op.intDiv,hy]⟩
 all_goals (split at h<;>first|(cases h;done)|skip)
 all_goals (rename_i hk;subst hk)
 all_goals (simp only[zda] at h)
 all_goals first
  | (refine .inl ⟨rfl,_,h.symm,?_⟩;simp[binOp,Op.intCmp];done)
  | (refine .inr ⟨rfl,_,h.symm,?_⟩;simp[binOp,Op.intArith];done)
  | (refine .inr ⟨rfl,_,h.symm,?_⟩;simp only[binOp,ne_eq,not_true_eq_false,if_false];rfl)
def fR(op:BinOp)(T:TypeId)(x y:Operand)(k a:IntKind)(u v:Int)(w:World):(eqGuard op T x y (.int k u) (.int a v)).run P w=.ok () w:=by cases op<;>simp[eqGuard]
def lw(op:BinOp)(T:TypeId)(x y:Operand)(u v:Bool)(w:World):(eqGuard op T x y (.bool u) (.bool v)).run P w=.ok () w:=by cases op<;>simp[eqGuard]
def fD{t:Ty}{c v:Value}(h:gL t [c] v)(a:cY t=false):v=c:=au (h.2.2 a) h.1
def jr{t:Ty}{cs:List Value}{v:Value}(h:gL t cs v)(a:cY t=true):v=.agg cs.toArray:=by obtain⟨xs,rfl⟩:=h.2.1 a;have:=h.1;simp only[Value.cells] at this;rw[<-this]
theorem A3:∀ (n:Nat) {l l':List D},l.length=n->l'.length=n->D.beqs l l'=(List.range n).all λj=>D.beq (l.getD j (.bool false)) (l'.getD j (.bool false))
 | 0,[],[],_,_=>rfl
 | n+1,x::l,y::l',h,a=>by
  simp only[D.beqs,List.range_succ_eq_map,zZb,List.all_map];rw[A3 n (by simpa using h) (by simpa using a)]
  rfl
mutual
theorem pY:∀ (ty:Ty) (T:TypeId) (x y:D) (cx cy:List Value) (vx vy:Value) (d:Nat),bK P ty T=true->bZ ty=true->ty.high<=d->wt ty x->wt ty y->da w S x.flat cx->da w S y.flat cy->gL ty cx vx->gL ty cy vy ->
  ∀ w',(Op.equalIn d T vx vy).run P w'=.ok (D.beq x y) w'
 | .int k,T,x,y,cx,cy,vx,vy,d,hl,_,hd,hx,hy,rx,ry,ix,iy,w'=>by
  simp only[wt] at hx hy;obtain⟨n,rfl⟩:=hx;obtain⟨m,rfl⟩:=hy;obtain⟨c1,rfl,r1⟩:=rx.single';obtain⟨c2,rfl,r2⟩:=ry.single';rw[fD ix rfl,fD iy rfl,r1.int_inv,r2.int_inv];obtain⟨d,rfl⟩:∃ e,d=e+1:=⟨d-1,by simp only[Ty.high] at hd;omega⟩
  rw[run_equalIn_int w' d T k k n m (ki hl)];simp only[D.beq,decide_true,zDb];rfl
 | .bool,T,x,y,cx,cy,vx,vy,d,hl,_,hd,hx,hy,rx,ry,ix,iy,w'=>by
  simp only[wt] at hx hy;obtain⟨n,rfl⟩:=hx;obtain⟨m,rfl⟩:=hy;obtain⟨c1,rfl,r1⟩:=rx.single';obtain⟨c2,rfl,r2⟩:=ry.single';rw[fD ix rfl,fD iy rfl,r1.bool_inv,r2.bool_inv];obtain⟨d,rfl⟩:∃ e,d=e+1:=⟨d-1,by simp only[Ty.high] at hd;omega⟩
  have hu:P.underlying T=some .bool:=by simp only[bK,zaa] at hl;all_goals grind
  rw[run_equalIn_bool' w' d T n m hu];rfl
 | .st ts,T,x,y,cx,cy,vx,vy,d,hl,hc,hd,hx,hy,rx,ry,ix,iy,w'=>by
  simp only[wt] at hx hy;obtain⟨l,rfl,hx⟩:=hx;obtain⟨l',rfl,hy⟩:=hy;rw[jr ix rfl,jr iy rfl];obtain⟨fs,h1,h2⟩:=jK hl;have h3:P.fieldsOf T=fs:=by simp[Program.fieldsOf,h1]
  have h4:P.stoodInHeld T=false:=by simp_all [bK,zaa,zTa]
  simp only[Ty.high] at hd;obtain⟨d,rfl⟩:∃ e,d=e+1:=⟨d-1,j1⟩
  rw[run_equalIn_struct w' d T _ _ (by rw[h3];exact h1) h4,h3]
  simp only[bZ] at hc;simp only[D.beq];simp only[D.flat] at rx ry;exact te ts fs.toList 0 l l' [] cx [] cy _ _ d h2 hc j1 hx hy rx ry rfl rfl rfl rfl w'
 | .arr n t,T,x,y,cx,cy,vx,vy,d,hl,hc,hd,hx,hy,rx,ry,ix,iy,w'=>by
  simp only[wt] at hx hy;obtain⟨l,rfl,hxl,hx⟩:=hx;obtain⟨l',rfl,hyl,hy⟩:=hy;rw[jr ix rfl,jr iy rfl];obtain⟨u,h1,h2⟩:=eY hl;obtain⟨i,z,h3,h4,_⟩:=fY (gS h2);simp only[Ty.high] at hd;obtain⟨d,rfl⟩:∃ e,d=e+1:=⟨d-1,j1⟩
  rw[run_equalIn_array w' d _ _ h1 h3];simp only[bZ] at hc;simp only[D.beq];simp only[D.flat] at rx ry;have hcell:P.cellsOf u=t.size:=by simp[Program.cellsOf,h3,h4]
  have hn:=aK _ _ h2;rw[A3 n hxl hyl];have key:∀ (is:List Nat) (w':World),(∀ j∈is,j<n)->(Op.eqItems d u (P.cellsOf u) cx.toArray cy.toArray is).run P w'=.ok (is.all λj=>D.beq (l.getD j (.bool false)) (l'.getD j (.bool false))) w':=by
   intro is
   induction is with
   | nil=>intro w' _;simp[Op.eqItems]
   | cons j is ih=>
    intro w' hj;have hjn:=hj j j3
    have e1:l[j]?=some (l.getD j (.bool false)):=by simp_all
    have e2:l'[j]?=some (l'.getD j (.bool false)):=by simp_all
    generalize l.getD j (.bool false)=dx at *;generalize l'.getD j (.bool false)=dy at *;have wx:=hx dx (zdb e1);have wy:=hy dy (zdb e2);have rx':=rx;have ry':=ry;rw[cz e1] at rx';rw[cz e2] at ry';obtain⟨p1,p2⟩:=rx'.split;obtain⟨p3,p4⟩:=p2.split;obtain⟨q1,q2⟩:=ry'.split;obtain⟨q3,q4⟩:=q2.split;have o1:(cx.take (acd (l.take j)).length).length=j*t.size:=by rw[<-p1.1,aG hn _ (λx hx'=>hx x (zSa hx')),zcb,zEb j1]
    have o2:(cy.take (acd (l'.take j)).length).length=j*t.size:=by rw[<-q1.1,aG hn _ (λx hx'=>hy x (zSa hx')),zcb,zEb j1]
    obtain⟨v1,r1,i1⟩:=iM h2 (cs:=cx.toArray) (pre:=cx.take (acd (l.take j)).length) (mid:=(cx.drop (acd (l.take j)).length).take dx.flat.length) (post:=(cx.drop (acd (l.take j)).length).drop dx.flat.length)
     (by simp only[zva]) (by rw[<-p3.1];exact cL _ _ wx hn) p3.nag w'
    obtain⟨v2,r2,i2⟩:=iM h2 (cs:=cy.toArray) (pre:=cy.take (acd (l'.take j)).length) (mid:=(cy.drop (acd (l'.take j)).length).take dy.flat.length) (post:=(cy.drop (acd (l'.take j)).length).drop dy.flat.length)
     (by simp only[zva]) (by rw[<-q3.1];exact cL _ _ wy hn) q3.nag w'
    rw[o1,<-hcell] at r1;rw[o2,<-hcell] at r2;have r3:=pY t u dx dy _ _ v1 v2 d h2 hc j1 wx wy p3 q3 i1 i2 w'
    simp only[Op.eqItems,zla,r1,r2,r3,zga,zZb];have e1':l[j]?.getD (.bool false)=dx:=by rw[e1];rfl
    have e2':l'[j]?.getD (.bool false)=dy:=by rw[e2];rfl
    have ih':=ih w' (λk hk=>hj k (by simp[hk]))
    simp only[List.getD,e1',e2'];cases D.beq dx dy
    ·simp
    ·simpa [List.getD] using ih'
  exact key _ w' (λj hj=>by simpa using hj)
 | .str,_,_,_,_,_,_,_,_,_,hc,_,_,_,_,_,_,_,_=>by simp[bZ] at hc
 | .sl _,_,_,_,_,_,_,_,_,_,hc,_,_,_,_,_,_,_,_=>by simp[bZ] at hc
 | .tup _,_,_,_,_,_,_,_,_,_,hc,_,_,_,_,_,_,_,_=>by simp[bZ] at hc
 | .fn,_,_,_,_,_,_,_,_,_,hc,_,_,_,_,_,_,_,_=>by simp[bZ] at hc
theorem te:∀ (ts:List Ty) (fs:List Field) (off:Nat) (l l':List D) (px cx py cy:List Value) (xs ys:Array Value) (d:Nat),gB P ts fs off=true->mW ts=true->acS ts<=d->fK ts l->fK ts l'->da w S (acd l) cx->da w S (acd l') cy ->
  xs.toList=px++cx->px.length=off->ys.toList=py++cy->py.length=off->∀ w',(Op.eqFields d xs ys fs).run P w'=.ok (D.beqs l l') w'
 | [],fs,off,l,l',px,cx,py,cy,xs,ys,d,hf,_,_,hx,hy,_,_,_,_,_,_,w'=>by
  simp only[fK] at hx hy;subst hx;subst hy;cases fs with
  | nil=>simp[Op.eqFields,D.beqs]
  | cons f fs=>simp[gB] at hf
 | t::ts,[],off,l,l',px,cx,py,cy,xs,ys,d,hf,_,_,hx,hy,_,_,_,_,_,_,w'=>by simp[gB] at hf
 | t::ts,f::fs,off,l,l',px,cx,py,cy,xs,ys,d,hf,hc,hd,hx,hy,rx,ry,ex,lx,ey,ly,w'=>by
  simp only[gB,zaa,zfa] at hf;obtain⟨⟨⟨⟨h1,h2⟩,h3⟩,h4⟩,h5⟩:=hf;simp only[fK] at hx hy;obtain⟨dx,l,rfl,hx1,hx2⟩:=hx;obtain⟨dy,l',rfl,hy1,hy2⟩:=hy;simp only[acd] at rx ry;obtain⟨p3,p4⟩:=rx.split;obtain⟨q3,q4⟩:=ry.split;have hn:=aK _ _ h4;simp only[mW,zaa] at hc;simp only[acS] at hd;obtain⟨v1,r1,i1⟩:=iM h4 (cs:=xs) (pre:=px) (mid:=cx.take dx.flat.length) (post:=cx.drop dx.flat.length) (by rw[ex,zva]) (by rw[<-p3.1];exact cL _ _ hx1 hn) p3.nag w'
  obtain⟨v2,r2,i2⟩:=iM h4 (cs:=ys) (pre:=py) (mid:=cy.take dy.flat.length) (post:=cy.drop dy.flat.length) (by rw[ey,zva]) (by rw[<-q3.1];exact cL _ _ hy1 hn) q3.nag w'
  rw[lx,<-h1] at r1;rw[ly,<-h1] at r2;have r3:=pY t f.type dx dy _ _ v1 v2 d h4 hc.1 j1 hx1 hy1 p3 q3 i1 i2 w'
  have hs1:(cx.take dx.flat.length).length=t.size:=by rw[<-p3.1];exact cL _ _ hx1 hn
  have hs2:(cy.take dy.flat.length).length=t.size:=by rw[<-q3.1];exact cL _ _ hy1 hn
  have ih:=te ts fs (off+t.size) l l' (px++cx.take dx.flat.length) (cx.drop dx.flat.length) (py++cy.take dy.flat.length) (cy.drop dy.flat.length) xs ys d h5 hc.2 j1 hx2 hy2 p4 q4
   (by rw[zPa,zva];exact ex) (by rw[zua,lx,hs1]) (by rw[zPa,zva];exact ey) (by rw[zua,ly,hs2]) w'
  simp only[Op.eqFields,h2,ne_eq,not_false_eq_true,if_true,zla,r1,r2,r3,zga,D.beqs];cases D.beq dx dy
  ·simp
  ·simpa using ih
end
def JV(L:EnvOk P E)(h:Rp w0 S γ β s a w){dst op T x y T' ty pos after guard}:jX P E w0 S γ β s a w ⟨dst,.binOp op T x y T',ty,pos,after,guard⟩:=by
 intro R K r hq;simp only[qv] at hq;replace hq:=ab hq;obtain⟨t,ht,hq⟩:=hq;replace hq:=ab hq;obtain⟨u,hu,hq⟩:=hq;replace hq:=ab hq;obtain⟨v,N,hq⟩:=hq;have hx:=aX h x;have hy:=aX h y;rw[eV hu] at hx;rw[eV N] at hy;have q:∀ (H:Bool),(u.1.beq t&&v.1.beq t&&bZ t)=true->∀ (o:BinOp),(o=.eql/\H=false)\/(o=.neq/\H=true) ->
   (execOp a.eval ⟨dst,.binOp o T x y T',ty,pos,after,guard⟩).run P w=.ok (.value (.bool (xor H (D.beq u.2 v.2)))) w:=by
  intro H j o G;simp only[zaa] at j;obtain⟨⟨h1,h2⟩,h3⟩:=j;have C:=acQ _ _ h1;have F:=acQ _ _ h2;rw[C] at hx;rw[F] at hy;have hl:bK P t T=true:=by
   rcases L.lay T _ ht with⟨O,rfl⟩|hl
   ·simp[bZ] at h3
   ·exact hl
  have hn:=aK _ _ hl;obtain⟨l,p⟩:=AX hx hn;obtain⟨m1,m2⟩:=AX hy hn;have Q:=L.high T _ ht;have i1:gL t (a.eval x).cells.toList (a.eval x):=⟨rfl,pJ l hn p.1⟩;have i2:gL t (a.eval y).cells.toList (a.eval y):=⟨rfl,pJ m1 hn m2.1⟩;have g:=pY t T u.2 v.2 _ _ _ _ 10000 hl h3 j1 l m1 p.2 m2.2 i1 i2 w
  cases t<;>simp only[bZ] at h3<;>first|cases h3|skip
  case int k=>
   simp only[wt] at l m1;obtain⟨n,b⟩:=l;obtain⟨m,f⟩:=m1;rw[b] at p hx ⊢;rw[f] at m2 hy ⊢;have v1:=p.int_inv;have v2:=m2.int_inv;rcases G with⟨rfl,rfl⟩|⟨rfl,rfl⟩
   ·simp only[execOp,v1,v2,zla,fR,zga];simp[binOp,Op.intCmp,D.beq];rfl
   ·simp only[execOp,v1,v2,zla,fR,zga];simp[binOp,Op.intCmp,D.beq];rfl
  case bool=>
   simp only[wt] at l m1;obtain⟨n,b⟩:=l;obtain⟨m,f⟩:=m1;rw[b] at p hx g ⊢;rw[f] at m2 hy g ⊢;have v1:=p.bool_inv;have v2:=m2.bool_inv;rw[v1,v2] at g;rcases G with⟨rfl,rfl⟩|⟨rfl,rfl⟩
   ·simp only[execOp,v1,v2,zla,lw,zga,binOp,Op.equal,Op.maxDepth,g,zra,zGd]
   ·simp only[execOp,v1,v2,zla,lw,zga,binOp,Op.equal,Op.maxDepth,g,zra,Bool.true_xor]
  case st ts=>
   obtain⟨xs,b⟩:=i1.2.1 rfl;obtain⟨B,f⟩:=i2.2.1 rfl;have A:P.eqGuardType P.depth T=false:=by simp only[bK,zaa,zTa] at hl;exact hl.1.2
   rw[b,f] at g;rcases G with⟨rfl,rfl⟩|⟨rfl,rfl⟩
   ·simp only[execOp,b,f,zla,run_eqGuard_agg w _ T x y xs B A,zga,binOp,Op.equal,Op.maxDepth,g,zra,zGd]
   ·simp only[execOp,b,f,zla,run_eqGuard_agg w _ T x y xs B A,zga,binOp,Op.equal,Op.maxDepth,g,zra,Bool.true_xor]
  case arr n e=>
   obtain⟨xs,b⟩:=i1.2.1 rfl;obtain⟨B,f⟩:=i2.2.1 rfl;have A:P.eqGuardType P.depth T=false:=by simp only[bK,zaa,zTa] at hl;exact hl.1.2
   rw[b,f] at g;rcases G with⟨rfl,rfl⟩|⟨rfl,rfl⟩
   ·simp only[execOp,b,f,zla,run_eqGuard_agg w _ T x y xs B A,zga,binOp,Op.equal,Op.maxDepth,g,zra,zGd]
   ·simp only[execOp,b,f,zla,run_eqGuard_agg w _ T x y xs B A,zga,binOp,Op.equal,Op.maxDepth,g,zra,Bool.true_xor]
 have ints:∀ {z:D} {o:BinOp},ab7 o u.2 v.2=some z->∃ k M n m,u.2=.int k n/\v.2=.int M m:=by
  intro z o i;cases J:u.2<;>rw[J] at i<;>cases hv2:v.2<;>rw[hv2] at i<;>simp only[ab7] at i<;>first|cases i|skip
  exact⟨_,_,_,_,rfl,rfl⟩
 have main:∀ (o:BinOp) {z:D},ab7 o u.2 v.2=some z->∃ I,(execOp a.eval ⟨dst,.binOp o T x y T',ty,pos,after,guard⟩).run P w=.ok (.value I) w ∧
   ((EJ o=true->AR ⟨w,S,γ,β,s.ob,s.dead⟩ (.d .bool z) I)/\(EJ o=false->AR ⟨w,S,γ,β,s.ob,s.dead⟩ (.d u.1 z) I)):=by
  intro o z i;obtain⟨k,M,n,m,C,F⟩:=ints i;rw[C,F] at i;rw[C] at hx;rw[F] at hy;obtain⟨v1,t1⟩:=fJ hx;obtain⟨v2,_⟩:=fJ hy;rcases MJ (P:=P) T w i with⟨h1,c,rfl,h2⟩|⟨h1,c,rfl,h2⟩
  ·refine⟨.bool c,by simp only[execOp,v1,v2,zla,fR,zga,h2,zra],λ_=>gM c,λh=>by rw[h1] at h;cases h⟩
  ·refine⟨.int k c,by simp only[execOp,v1,v2,zla,fR,zga,h2,zra],(λh=>by rw[h1] at h;cases h),λ_=>by rw[t1];exact cW k c⟩
 cases op<;>simp only at hq
 case eql=>
  split at hq<;>first|cases hq|skip
  rename_i j;exact⟨_,hq,.value (q false j .eql (.inl ⟨rfl,rfl⟩)) (Qp.same h (by simp only[zGd];exact gM _) _)⟩
 case neq=>
  split at hq<;>first|cases hq|skip
  rename_i j;exact⟨_,hq,.value (q true j .neq (.inr ⟨rfl,rfl⟩)) (Qp.same h (by simp only[Bool.true_xor];exact gM _) _)⟩
 all_goals
  replace hq:=ab hq;obtain⟨z,i,hq⟩:=hq;obtain⟨I,h1,h2,h3⟩:=main _ i;first
   | exact⟨_,hq,.value h1 (Qp.same h (h2 rfl) _)⟩
   | exact⟨_,hq,.value h1 (Qp.same h (h3 rfl) _)⟩
def NS(h:Rp w0 S γ β s a w){dst op T x ty pos after guard}:jX P E w0 S γ β s a w ⟨dst,.unOp op T x,ty,pos,after,guard⟩:=by
 intro R K r hq;simp only[qv] at hq;replace hq:=ab hq;obtain⟨u,hu,hq⟩:=hq;replace hq:=ab hq;obtain⟨z,c,hq⟩:=hq;have hx:=aX h x;rw[eV hu] at hx;cases hu2:u.2<;>rw[hu2] at c hx<;>simp only[acl] at c<;>first|cases c|skip
 case int k n=>
  obtain⟨v1,t1⟩:=fJ hx;cases op<;>simp only[ab8] at c<;>first|cases c|skip
  ·exact⟨_,hq,.value (v:=.int k (k.wrap (0-n))) (w':=w) (by simp[execOp,v1,Op.unary,Op.intArith]) (Qp.same h (by rw[t1];exact cW _ _) _)⟩
  ·exact⟨_,hq,.value (v:=.int k (k.wrap (BitVec.ofInt k.bits (if k.signed then -1 else k.max) ^^^ BitVec.ofInt k.bits n).toNat)) (w':=w) (by simp[execOp,v1,Op.unary,Op.intBits]) (Qp.same h (by rw[t1];exact cW _ _) _)⟩
 case bool b=>
  have v1:=Ei hx;cases op<;>simp only at c<;>first|cases c|skip
  have ht:u.1=.bool:=by
   simp only[AR] at hx;rcases hx with⟨_,h2,_⟩|⟨e,h1,_,h2,_⟩
   ·cases hu1:u.1<;>rw[hu1] at h2<;>simp only[wt] at h2<;>first
     | rfl
     | (obtain⟨m,d⟩:=h2;cases d;done)
     | (obtain⟨m,d,_⟩:=h2;cases d;done)
     | (exfalso;exact h2)
   ·rw[h1] at h2;simp only[wt] at h2;obtain⟨l,d,_⟩:=h2;cases d
  exact⟨_,hq,.value (v:=.bool (!b)) (w':=w) (by simp[execOp,v1,Op.unary]) (Qp.same h (by rw[ht];exact gM _) _)⟩
def DM(i:EnvOk P E)(h:Rp w0 S γ β s a w){dst U T x ty pos after guard}:jX P E w0 S γ β s a w ⟨dst,.convert U T x,ty,pos,after,guard⟩:=by
 intro R K r hq;simp only[qv] at hq;replace hq:=ab hq;obtain⟨u,hu,hq⟩:=hq;replace hq:=ab hq;obtain⟨t,ht,hq⟩:=hq;replace hq:=ab hq;obtain⟨b,j,hq⟩:=hq;have hx:=aX h x;rw[eV j] at hx;cases t<;>(try simp only at hq)<;>first|cases hq|skip
 rename_i k;split at hq<;>first|cases hq|skip
 rename_i d;replace hq:=ab hq;obtain⟨z,e,hq⟩:=hq;cases hb2:b.2<;>rw[hb2] at e hx<;>simp only[D.conv] at e<;>first|cases e|skip
 rename_i l n;obtain⟨v1,t1⟩:=fJ hx;have g:=acQ _ _ d;rw[t1] at g;rw[<-g] at hu;rcases i.lay T _ ht with⟨f,c⟩|hl
 ·cases c
 rcases i.lay U _ hu with⟨f,c⟩|hl'
 ·cases c
 exact⟨_,hq,.value (v:=.int k (k.wrap n)) (w':=w) (by simp[execOp,convert,v1,run_underlying (ki hl),run_underlying (ki hl'),Conv.intToInt]) (Qp.same h (cW _ _) _)⟩
end
def iN(pre mid post cs:List Value)(h:mid.length=cs.length):eQ (pre++(mid++post)).toArray pre.length cs.toArray=(pre++(cs++post)).toArray:=by unfold eQ;apply zpc;simp[h];rw[zhb j1]
theorem pK:∀ {a:List D} {c1 c2:List Value},cV a c1=true->cV a c2=true->c1=c2
 | [],[],[],_,_=>rfl
 | [],_::_,_,h,_=>by simp[cV] at h
 | [],[],_::_,_,h=>by simp[cV] at h
 | _::_,[],_,h,_=>by simp[cV] at h
 | _::_,_::_,[],_,h=>by simp[cV] at h
 | d::a,v1::c1,v2::c2,b,c=>by
  simp only[cV,zaa] at b c;rw[pK b.2 c.2];congr 1;have a1:=b.1;have a2:=c.1;cases d<;>cases v1<;>simp only[Gj] at a1<;>first|(cases a1;done)|skip
  all_goals (cases v2<;>simp only[Gj] at a2<;>first|(cases a2;done)|skip)
  all_goals simp_all
section
variable{w:World}{S:Nat->Nat->Prop}
def PV(w:World)(S:Nat->Nat->Prop)(ty:Nat->Option Ty):List (Nat×D)->List (Nat×Value)->Prop
 | [],[]=>True
 | (i,x)::ps,(j,v)::vs=>i=j/\(∃ t,ty i=some t/\wt t x/\ao t=true/\gH w S x v)/\PV w S ty ps vs
 | _,_=>False
theorem ug{place:Nat->Option (Nat×Nat)}{ty:Nat->Option Ty}{off:Nat->Nat}{Good:List D->Prop}
  (d:∀ l i t z,Good l->ty i=some t->wt t z->Good (l.set i z))
  (c:∀ l i t,Good l->ty i=some t->∃ y,l[i]?=some y/\wt t y/\(acd (l.take i)).length=off i)
  (a:∀ i t,ty i=some t->place i=some (off i,t.size)) :
  ∀ (ps:List (Nat×D)) (vs:List (Nat×Value)) (l:List D) (cs:List Value),Good l->da w S (acd l) cs->PV w S ty ps vs ->
   ∃ b:List Value,mD place cs.toArray vs=some b.toArray/\Good (acj l ps)/\da w S (acd (acj l ps)) b
 | [],[],l,cs,f,hc,_=>⟨cs,rfl,f,hc⟩
 | [],_::_,_,_,_,_,h=>by simp[PV] at h
 | _::_,[],_,_,_,_,h=>by simp[PV] at h
 | (i,x)::ps,(j,v)::vs,l,cs,f,hc,h=>by
  simp only[PV] at h;obtain⟨rfl,⟨t,h1,h2,h3,k⟩,r⟩:=h;obtain⟨y,m,s,u⟩:=c l i t f h1;rw[cz m] at hc;obtain⟨c1,c2⟩:=hc.split;obtain⟨p,q⟩:=c2.split;have e:cs=cs.take (acd (l.take i)).length++((cs.drop (acd (l.take i)).length).take y.flat.length++(cs.drop (acd (l.take i)).length).drop y.flat.length):=by simp only[zva]
  have n:(cs.take (acd (l.take i)).length).length=off i:=by rw[<-c1.1,u]
  have A:((cs.drop (acd (l.take i)).length).take y.flat.length).length=t.size:=by rw[<-p.1];exact cL _ _ s h3
  have o:v.cells.toList.length=t.size:=by rw[<-k.2.1];exact cL _ _ h2 h3
  have g:da w S (acd (l.set i x)) (cs.take (acd (l.take i)).length++(v.cells.toList++(cs.drop (acd (l.take i)).length).drop y.flat.length)):=by rw[nW m];exact c1.append (k.2.append q)
  obtain⟨b,m1,m2,m3⟩:=ug d c a ps vs (l.set i x) _ (d l i t x f h1 h2) g r;refine⟨b,?_,m2,m3⟩;rw[u7 (a i t h1) (by rw[<-zTb];exact o) (by rw[<-n];have:=zna List.length e;simp only[zua] at this;simp only[zEc];omega),<-m1]
  congr 1
  conv=>lhs;rw[e]
  have:=iN (cs.take (acd (l.take i)).length) ((cs.drop (acd (l.take i)).length).take y.flat.length) ((cs.drop (acd (l.take i)).length).drop y.flat.length) v.cells.toList (by rw[A,o])
  rw[n] at this;simpa using this
end
section
variable{P:Program}{E:Env}{w0:Root}{S:Nat->Nat->Prop}{γ:Nat->Option Nat}{β:Nat->Option (Nat×Nat)}{s:St}{a:Act}{w:World}
theorem oc(h:Rp w0 S γ β s a w){ty:Nat->Option Ty}(hn:∀ i t,ty i=some t->ao t=true):∀ (ps:List (Nat×Operand)) (l:List (Nat×D)),partsD s.ob s ty ps=some l->PV w S ty l (ps.map λp=>(p.1,a.eval p.2))
 | [],l,hp=>by simp_all [partsD,zda,PV]
 | (i,x)::ps,l,hp=>by simp only[partsD] at hp;replace hp:=ab hp;obtain⟨t,ht,hp⟩:=hp;replace hp:=ab hp;obtain⟨y,hy,hp⟩:=hp;replace hp:=ab hp;obtain⟨e,b,hp⟩:=hp;simp only[zda] at hp;subst hp;obtain⟨c,d⟩:=oR (hn i t ht) (aX h x) hy;simp only[zbb,PV];exact⟨trivial,⟨t,ht,c,hn i t ht,d⟩,oc h hn ps e b⟩
def jW{t:Ty}{T:TypeId}(hl:bK P t T=true):∃ z,(∀ w,(zeroValue T).run P w=.ok z w)/\cV (ar t).flat z.cells.toList=true/\((∃ cs,z=.agg cs)↔cY t=true):=by
 obtain⟨i,z,h1,h2,h3,a,b,c⟩:=fY (gS hl)
 simp_all [zeroValue,typeInfo]
theorem wl:∀ {b:List Ty} {a:List Field} {off:Nat} (w:World),gB P b a off=true ->
  ((a.mapM λf=>do pure (f.offset,<-sizeOf f.type):Sem (List (Nat×Nat))).run P w=.ok (a.zipWith (λf t=>(f.offset,Ty.size t)) b) w)
 | [],[],_,w,_=>rfl
 | [],_::_,_,_,h=>by simp[gB] at h
 | _::_,[],_,_,h=>by simp[gB] at h
 | t::b,f::a,off,w,h=>by simp only[gB,zaa,zfa] at h;obtain⟨⟨⟨⟨h1,h2⟩,h3⟩,c⟩,d⟩:=h;simp only[z4c,zla,co c,zga,zra,wl w d,List.zipWith_cons_cons]
def GT:∀ {a:List Ty} {b:List Field} {off i:Nat} {t:Ty},gB P a b off=true->a[i]?=some t->(b.zipWith (λf t=>(f.offset,Ty.size t)) a)[i]?=some (off+acT (a.take i),t.size)
 | a,b,off,i,t,h,c=>by obtain⟨f,h1,h2,_⟩:=uh h c;grind
def qE{T:TypeId}{a:List Ty}(hl:bK P (.st a) T=true)(vs:Array (Nat×Value))(w:World){r:List Value}
  (hf:∀ z:Value,cV (ar (.st a)).flat z.cells.toList=true->mD (λi=>if i<a.length then some (acT (a.take i),(a.getD i .bool).size) else none) z.cells vs.toList=some r.toArray) :
  (Instr.build T vs).run P w=.ok (.agg r.toArray) w:=by
 obtain⟨b,h1,h2⟩:=jK hl;obtain⟨z,e,c,_⟩:=jW hl;have hlen:(b.toList.zipWith (λf t=>(f.offset,Ty.size t)) a).length=a.length:=by
  have:∀ {a:List Ty} {b:List Field} {off:Nat},gB P a b off=true->b.length=a.length:=by
   intro a
   induction a with
   | nil=>intro b off h;cases b<;>simp[gB] at h ⊢
   | cons t a ih=>intro b off h;cases b with
    | nil=>simp[gB] at h
    | cons f b=>simp only[gB,zaa] at h;simp[ih h.2]
  grind
 have hp:(λi=>(b.toList.zipWith (λf t=>(f.offset,Ty.size t)) a).toArray[i]?)=λi=>if i<a.length then some (acT (a.take i),(a.getD i .bool).size) else none:=by
  funext i;by_cases d:i<a.length
  ·have:=GT (i:=i) h2 (zca d)
   simp_all
  ·simp_all
 have hm:(b.mapM λf=>(do pure (f.offset,<-sizeOf f.type):Sem (Nat×Nat))).run P w=.ok (b.toList.zipWith (λf t=>(f.offset,Ty.size t)) a).toArray w:=by rw[<-zkc (xs:=b),List.mapM_toArray];simp only[Sem.run_map,wl w h2,zga]
 simp only[Instr.build,zla,e,zga,run_underlying h1,hm,hp,p8,hf z c,zra]
def mE(n:Nat)(x:D):acd (List.replicate n x)=(List.replicate n x.flat).flatten:=by
 induction n with
 | zero=>rfl
 | succ n ih=>simp only[List.replicate_succ,acd,ih,List.flatten_cons]
def Ou(c:Cx)(a:List Ty):List (Nat×AV)->List (Nat×Value)->Prop
 | [],[]=>True
 | (i,x)::ps,(j,v)::vs=>i=j/\(∃ t,a[i]?=some t/\AV.fits t x=true/\AC c x v.cells.toList)/\Ou c a ps vs
 | _,_=>False
theorem Bw{c:Cx}{b:List Ty}(hn:br b=true) :
  ∀ (ps:List (Nat×AV)) (vs:List (Nat×Value)) (l:List AV) (cs:List Value),AV.fitss b l=true->lN c l cs->Ou c b ps vs ->
   ∃ a:List Value,mD (λi=>if i<b.length then some (acT (b.take i),(b.getD i .bool).size) else none) cs.toArray vs=some a.toArray/\AV.fitss b (oe l ps)=true/\lN c (oe l ps) a
 | [],[],l,cs,hf,hc,_=>⟨cs,rfl,hf,hc⟩
 | [],_::_,_,_,_,_,h=>by simp[Ou] at h
 | _::_,[],_,_,_,_,h=>by simp[Ou] at h
 | (i,x)::ps,(j,v)::vs,l,cs,hf,hc,h=>by
  simp only[Ou] at h;obtain⟨rfl,⟨t,h1,h2,h3⟩,e⟩:=h;obtain⟨y,g,k⟩:=vf hf h1;obtain⟨pre,mid,post,rfl,m1,m2,m3⟩:=tW hf hn hc g;have m:=(iO _ _ _ k m2).1;have d:=(iO _ _ _ h2 h3).1;obtain⟨a,n1,n2,n⟩:=Bw hn ps vs (l.set i x) _ (nU hf h1 h2) (m3 x _ h3) e;refine⟨a,?_,n2,n⟩;have f:=(zqa.1 h1).1;rw[u7 (off:=acT (b.take i)) (size:=t.size) (by rw[zma f];simp[List.getD,h1]) (by rw[<-zTb];exact d) (by simp;omega),<-n1]
  congr 1;have:=iN pre mid post v.cells.toList (by rw[m,d])
  simp_all
def JW(J:EnvOk P E)(h:Rp w0 S γ β s a w){dst T ps ty pos after guard}:jX P E w0 S γ β s a w ⟨dst,.build T ps,ty,pos,after,guard⟩:=by
 intro R K r hq;simp only[qv] at hq;replace hq:=ab hq;obtain⟨t,ht,hq⟩:=hq;have hex:execOp a.eval ⟨dst,.build T ps,ty,pos,after,guard⟩=(Instr.build T (ps.map λp=>(p.1,a.eval p.2)) >>= λv=>pure (.value v)):=rfl;have o:(ps.map λp=>(p.1,a.eval p.2)).toList=ps.toList.map λp=>(p.1,a.eval p.2):=j3
 cases t<;>(try simp only at hq)<;>first|cases hq|skip
 case st ts=>
  rcases J.lay T _ ht with⟨I,q⟩|hl
  ·cases q
  have hn:=aK _ _ hl;simp only[ao] at hn;split at hq
  ·rename_i L;split at hq<;>first|cases hq|skip
   rename_i A;have j:∀ (l:List (Nat×Operand)),l.all (gA s ts)=true->Ou ⟨w,S,γ,β,s.ob,s.dead⟩ ts (l.map λp=>(p.1,s.opA p.2)) (l.map λp=>(p.1,a.eval p.2)):=by
    intro l
    induction l with
    | nil=>intro _;simp[Ou]
    | cons p l ih=>
     intro F;simp only[zZb,zaa] at F;simp only[zbb,Ou];refine⟨trivial,?_,ih F.2⟩;have h1:=F.1;unfold gA at h1;split at h1<;>first|cases h1|skip
     rename_i u hu;exact⟨u,hu,h1,(AW h1 (cd hn hu) (aX h p.2)).1⟩
   obtain⟨z,k,f,_⟩:=jW hl;have H:lN ⟨w,S,γ,β,s.ob,s.dead⟩ (kL ts) z.cells.toList:=mC ts _ hn (by simpa [ar,D.flat] using f)
   obtain⟨b,m1,m2,m3⟩:=Bw hn _ _ _ _ (kr ts hn) H (j ps.toList A);have d:(Instr.build T (ps.map λp=>(p.1,a.eval p.2))).run P w=.ok (.agg b.toArray) w:=by
    obtain⟨N,h1,h2⟩:=jK hl;refine qE hl _ w (r:=b) λC m=>?_;have M:lN ⟨w,S,γ,β,s.ob,s.dead⟩ (kL ts) C.cells.toList:=mC ts _ hn (by simpa [ar,D.flat] using m)
    have:C.cells=z.cells:=zpc (pK m f)
    simp_all
   exact⟨_,hq,.value (v:=.agg b.toArray) (w':=w) (by rw[hex];simp only[zla,d,zga,zra]) (Qp.same h (by simp only[AR];exact⟨⟨_,rfl⟩,by simp only[AC];exact⟨hn,m2,by simpa [Value.cells] using m3⟩⟩) _)⟩
  ·replace hq:=ab hq;obtain⟨l,hp,hq⟩:=hq;have j:=oc h (ty:=λi=>ts[i]?) (λi t c=>cd hn c) _ _ hp;have main:∀ z:Value,cV (ar (.st ts)).flat z.cells.toList=true->∃ b:List Value,mD (λi=>if i<ts.length then some (acT (ts.take i),(ts.getD i .bool).size) else none) z.cells (ps.toList.map λp=>(p.1,a.eval p.2))=some b.toArray/\fK ts (acj (gG ts) l)/\da w S (acd (acj (gG ts) l)) b:=by
    intro z k;refine ug (ty:=λi=>ts[i]?) (off:=λi=>acT (ts.take i)) (Good:=λl=>fK ts l) (λl i t z g c k=>AO g c k) (λl i t g c=>?_) (λi t c=>?_) l _ (gG ts) z.cells.toList (pL ts hn) (cO (by simpa [ar,D.flat] using k)) j
    ·obtain⟨y,h1,h2⟩:=ii g c;exact⟨y,h1,h2,rh _ _ (rj i g) (iJ i hn)⟩
    ·rw[zma (zqa.1 c).1];simp only[List.getD,c,zUb]
   obtain⟨z,k,f,_⟩:=jW hl;obtain⟨b,m1,m2,m3⟩:=main z f;have d:(Instr.build T (ps.map λp=>(p.1,a.eval p.2))).run P w=.ok (.agg b.toArray) w:=by refine qE hl _ w (r:=b) λC m=>?_;have:C.cells=z.cells:=zpc (pK m f);rw[this,o,<-m1]
   have hw:wt (.st ts) (.st (acj (gG ts) l)):=by simp only[wt];exact⟨_,rfl,m2⟩
   exact⟨_,hq,.value (v:=.agg b.toArray) (w':=w) (by rw[hex];simp only[zla,d,zga,zra]) (Qp.same h (dO (by simpa [ao] using hn) hw ⟨⟨_,rfl⟩,by simpa [Value.cells,D.flat] using m3⟩) _)⟩
 case arr n e=>
  rcases J.lay T _ ht with⟨I,q⟩|hl
  ·cases q
  have hn:=aK _ _ hl;simp only[ao] at hn;replace hq:=ab hq;obtain⟨l,hp,hq⟩:=hq;have j:=oc h (ty:=λi=>if i<n then some e else none) (λi t c=>by split at c<;>first|(cases c;exact hn)|cases c) _ _ hp
  have main:∀ z:Value,cV (ar (.arr n e)).flat z.cells.toList=true->∃ b:List Value,mD (λi=>some (i*e.size,e.size)) z.cells (ps.toList.map λp=>(p.1,a.eval p.2))=some b.toArray/\((acj (List.replicate n (ar e)) l).length=n/\∀ x∈acj (List.replicate n (ar e)) l,wt e x)/\da w S (acd (acj (List.replicate n (ar e)) l)) b:=by
   intro z k;refine ug (ty:=λi=>if i<n then some e else none) (off:=λi=>i*e.size) (Good:=λl=>l.length=n/\∀ x∈l,wt e x) (λl i t z g c k=>?_) (λl i t g c=>?_) (λi t c=>?_) l _ (List.replicate n (ar e)) z.cells.toList ⟨j3,λx hx=>by rw[(zkd.1 hx).2];exact c7 e hn⟩ (cO (by simpa [ar,D.flat] using k)) j
   ·split at c<;>first|cases c|skip
    refine⟨by simpa using g.1,λx hx=>?_⟩
    rcases zLc hx with h|h
    ·exact g.2 x h
    ·rw[h];exact k
   ·split at c<;>first|cases c|skip
    rename_i G;have B:i<l.length:=by rw[g.1];exact G
    refine⟨l[i],zca B,g.2 _ (zDa B),?_⟩;rw[aG hn _ (λx hx=>g.2 x (zSa hx)),zcb,zEb j1]
   ·split at c<;>first|cases c|skip
    rfl
  obtain⟨z,k,f,_⟩:=jW hl;obtain⟨b,m1,m2,m3⟩:=main z f;have d:(Instr.build T (ps.map λp=>(p.1,a.eval p.2))).run P w=.ok (.agg b.toArray) w:=by obtain⟨u,h1,h2⟩:=eY hl;simp only[Instr.build,zla,k,zga,run_underlying h1,co h2,p8,o,m1,zra]
  have hw:wt (.arr n e) (.st (acj (List.replicate n (ar e)) l)):=by simp only[wt];exact⟨_,rfl,m2⟩
  exact⟨_,hq,.value (v:=.agg b.toArray) (w':=w) (by rw[hex];simp only[zla,d,zga,zra]) (Qp.same h (dO (by simpa [ao] using hn) hw ⟨⟨_,rfl⟩,by simpa [Value.cells,D.flat] using m3⟩) _)⟩
def DN(h:Rp w0 S γ β s a w){dst x i ty pos after guard}:jX P E w0 S γ β s a w ⟨dst,.extract x i,ty,pos,after,guard⟩:=by
 intro R K r hq;simp only[qv] at hq;have hx:=aX h x;generalize s.opA x=y at *;split at hq<;>first|cases hq|skip
 rename_i o z;replace hq:=ab hq;obtain⟨u,hu,hq⟩:=hq;replace hq:=ab hq;obtain⟨n,d,hq⟩:=hq;simp only[AR] at hx;rcases hx with⟨h1,_⟩|⟨m,e,hn,h2,h3⟩
 ·simp[ao] at h1
 ·cases e;simp only[wt] at h2;obtain⟨l,rfl,hw⟩:=h2;simp only[D.tupAt] at d;simp only[DR] at h3;obtain⟨vs,j,hlen,c⟩:=h3;have f:i<vs.length:=h7
  obtain⟨z2,g,k⟩:=ii hw hu;rw[d] at g;cases g;have b:=c i n vs[i] d (zca f);exact⟨_,hq,.value (v:=vs[i]) (w':=w) (by simp[execOp,Instr.extract,j,f]) (Qp.same h (dO (cd hn hu) k b) _)⟩
def Cn(h:Rp w0 S γ β s a w){dst fn first captured ty pos after guard}:jX P E w0 S γ β s a w ⟨dst,.makeFunc fn first captured,ty,pos,after,guard⟩:=by
 intro R K r hq;simp only[qv] at hq;split at hq<;>first|cases hq|skip
 rename_i f;split at hq<;>first|cases hq|skip
 rename_i hf;have e:first=#[]:=Array.eq_empty_of_size_eq_zero hf.1
 refine⟨_,hq,.value (v:=.func (.func f) #[] (captured.map a.eval)) (w':=w) (by simp[execOp,Instr.makeFunc,e]) (Qp.same h ?_ _)⟩
 simp only[AR,AC];refine⟨j3,(captured.toList.map a.eval),by rw[show captured.map a.eval=(captured.toList.map a.eval).toArray from zpc j3];simp[Value.cells],?_⟩
 have h2:=hf.2;clear hf hq;generalize captured.toList=l at *
 induction l with
 | nil=>simp[oH]
 | cons x l ih=>
  simp only[zZb,zaa] at h2;simp only[zbb,oH];refine⟨_,_,rfl,?_,ih h2.2⟩;have h3:=h2.1;have b:=aX h x;cases hx:s.opA x<;>rw[hx] at h3 b<;>simp only[ge] at h3<;>first|(cases h3;done)|skip
  simp only[AR] at b;obtain⟨c,d⟩:=b
  simp_all [Value.cells]
end
theorem gK{α:Type}(l:List α):∀ (n i:Nat),i<n*l.length->((List.replicate n l).flatten)[i]?=l[i%l.length]?
 | 0,i,h=>j1
 | n+1,i,h=>by
  rw[List.replicate_succ,List.flatten_cons,zJc];by_cases hi:i<l.length
  ·simp_all [zVa]
  ·rw[zia hi,gK l n (i-l.length) (by rw[zpb] at h;omega)]
   rw[<-Nat.mod_eq_sub_mod j1]
def yX{w:World}{S:Nat->Nat->Prop}{e:Ty}{a:Array Value}{m:Nat}(j:cV (ar e).flat a.toList=true)(hs:a.size=m)(n:Nat) :
  da w S (acd (List.replicate n (ar e))) ((Array.range (n*m)).map λi=>a[i%a.size]!).toList:=by
 have h0:=cO (w:=w) (S:=S) j;have hl:(ar e).flat.length=m:=by rw[h0.1];simpa using hs
 refine⟨by rw[mE];simp[hl],λi d c b hc=>?_⟩
 rw[mE] at b;have g:i<n*m:=by have:=(zqa.1 hc).1;simpa using this
 rw[gK _ _ _ (by rw[hl];exact g),hl] at b
 have hm:0<m:=by
  rcases zhc m with h|h
  ·subst h;omega
  ·exact h
 have f:i%m<a.size:=by rw[hs];exact z4a _ hm
 refine h0.2 (i%m) d c b ?_;simp only[Array.toList_map,zib,Array.toList_range,List.getElem?_range g,zJb,zda] at hc;rw[<-hc,hs];simp[f]
section
variable{P:Program}{E:Env}{w0:Root}{S:Nat->Nat->Prop}{γ:Nat->Option Nat}{β:Nat->Option (Nat×Nat)}{s:St}{a:Act}{w:World}
def oh{c:Array Value}{t:TypeId}:bS (grown w [.cells c t] w.drawn) w.heap.size=some c:=by rw[<-dL];exact wd w _ rfl
def Cv{c:Array Value}{t:TypeId}{d:Nat}:bS (grown w [.cells c t] d) w.heap.size=some c:=by have:=oh (w:=w) (c:=c) (t:=t);rw[show bS (grown w [.cells c t] d) w.heap.size=bS (grown w [.cells c t] w.drawn) w.heap.size from rfl];exact this
def Ge{c:Array Value}{t:TypeId}{d:Nat}(j:Nat):(grown w [.cells c t] d).cell? ⟨w.heap.size,j,none⟩=c[j]?:=cell_of_row _ Cv j
def Aa(h:Rp w0 S γ β s a w){v:Nat}(B:β v=none)(r:v<s.base+4096){e:Ty}(hn:ao e=true){l:List D}(hl:∀ x∈l,wt e x){cs:List Value}(hc:da w S (acd l) cs){T:TypeId}{rest:List Value}{cap:Nat}(d:Nat)(q:w.drawn<=d)(j:l.length<=cap)(t:cs.length+rest.length=cap*e.size) :
  ∃ S' β',Rp w0 S' γ β' s a (grown w [.cells (cs++rest).toArray T] d)/\AR ⟨grown w [.cells (cs++rest).toArray T] d,S',γ,β',s.ob,s.dead⟩ (.own e v l) (.slice (some ⟨w.heap.size,0,none⟩) l.length cap) ∧
   (∀ b o,S b o->S' b o)/\(∀ u,u≠v->β' u=β u)/\β' v=some (w.heap.size,l.length*e.size)/\(∀ b o,S' b o->S b o\/b=w.heap.size):=by
 let S':Nat->Nat->Prop:=λb o=>S b o\/(b=w.heap.size/\o<l.length*e.size)
 have p:∀ b o,S' b o->S b o\/(w.heap.size<=b/\b<(grown w [.cells (cs++rest).toArray T] d).heap.size):=λb o g=>by
  rcases g with g|⟨rfl,_⟩
  ·exact .inl g
  ·exact .inr ⟨zja _,j3⟩
 obtain⟨h1,m⟩:=h.grow (os:=[.cells (cs++rest).toArray T]) (d:=d) q (S':=S') (λb o g=>.inl g) p;have y:¬ w0.Old w.heap.size:=λz=>by have:=z.1;have:=h.ext.sz;omega
 obtain⟨h2,C⟩:=h1.newTok (v:=v) (b:=w.heap.size) (e:=l.length*e.size) B y j3 (λid hid=>by have:=(h.γn id _ hid).2;omega) (λu f hu hf=>by have:=(h.βn u _ _ hu hf).2.1;omega) r
  (λo z hs=>hs.elim (λhs=>by have:=h.Sb _ _ hs;omega) λhs=>j1)
 refine⟨S',pH β v (w.heap.size,l.length*e.size),h2,?_,λb o g=>.inl g,λu hu=>ce β _ hu,bI β _ _,λb o g=>g.imp id λA=>A.1⟩;have hlen:cs.length=l.length*e.size:=by rw[<-hc.1];exact aG hn l hl
 simp only[AR,AC,Value.cells];refine⟨j3,hn,hl,_,cap,rfl,?_,λ_=>.inr ⟨w.heap.size,0,rfl,by simp[bI],(cs++rest).length,?_,?_⟩⟩
 ·refine ab3 (b:=w.heap.size) (off:=0) (.inr rfl) j ⟨cs,hc.mono m.cell m.S,λi c k=>?_⟩;have r:=(zqa.1 k).1;refine⟨.inr ⟨rfl,j1⟩,?_⟩
  rw[Ge];simp only[zBc,zeb];rw[zxb r];exact k
 ·simp[nA,Cv]
 ·simp;omega
def xd(L:EnvOk P E)(h:Rp w0 S γ β s a w){dst T n ps ty pos after guard}(hf:Fr E s γ β ⟨dst,.buildSlice T n ps,ty,pos,after,guard⟩):jX P E w0 S γ β s a w ⟨dst,.buildSlice T n ps,ty,pos,after,guard⟩:=by
 intro R K r hq;simp only[qv] at hq;replace hq:=ab hq;obtain⟨t,ht,hq⟩:=hq;cases t<;>(try simp only at hq)<;>first|(cases hq;done)|skip
 rename_i e;rcases L.lay T _ ht with⟨Y,D⟩|hl
 ·cases D
 have hn:=aK _ _ hl;simp only[ao] at hn;split at hq<;>first|(cases hq;done)|skip
 rename_i B;replace hq:=ab hq;obtain⟨d,J,hq⟩:=hq;replace hq:=ab hq;obtain⟨l,hp,hq⟩:=hq;obtain⟨M,Z,Q,_⟩:=hf rfl d J;have C:=oc h (ty:=λi=>if i<n then some e else none) (λi t b=>by split at b<;>first|(cases b;exact hn)|cases b) _ _ hp
 obtain⟨u,h1,h2⟩:=jJ hl;obtain⟨z,F,o,_⟩:=jW h2;obtain⟨i0,z0,N,O,AS,_⟩:=fY (gS h2);have H:z.cells.size=e.size:=by have:=(cO (w:=w) (S:=S) o).1;rw[<-zTb,<-this];exact cL _ _ (c7 e hn) hn
 have hzero:da w S (acd (List.replicate n (ar e))) ((Array.range (n*e.size)).map λi=>z.cells[i%z.cells.size]!).toList:=yX o H n;obtain⟨f,m1,m2,m3⟩:=ug (place:=λi=>some (i*e.size,e.size)) (ty:=λi=>if i<n then some e else none) (off:=λi=>i*e.size) (Good:=λl=>l.length=n/\∀ x∈l,wt e x) (λl i t z c b F=>by
   split at b<;>first|(cases b;done)|skip
   have:e=t:=by injection b
   subst this;refine⟨by simpa using c.1,λx hx=>?_⟩
   rcases zLc hx with h|h
   ·exact c.2 x h
   ·rw[h];exact F) (λl i t c b=>by
   split at b<;>first|(cases b;done)|skip
   rename_i A;have:e=t:=by injection b
   subst this;have g:i<l.length:=by rw[c.1];exact A
   refine⟨l[i],zca g,c.2 _ (zDa g),?_⟩;rw[aG hn _ (λx hx=>c.2 x (zSa hx)),zcb,zEb j1]) (λi t b=>by
   split at b<;>first|(cases b;done)|skip
   have:e=t:=by injection b
   subst this;rfl) l _ (List.replicate n (ar e)) _ ⟨j3,λx hx=>by rw[(zkd.1 hx).2];exact c7 e hn⟩ hzero C
 obtain⟨S',β',U,V,W,X,k5,_⟩:=Aa h (v:=s.base+d) Q j1 hn m2.2 m3 (T:=u) (rest:=[]) (cap:=n) w.drawn (zja _) (by rw[m2.1];exact zja _) (by rw[zMb,zmc,<-m3.1,aG hn _ m2.2,m2.1])
 have m:¬ n*e.size>2^24:=by have:n*e.size<=4096*4096:=z5a B AS.2;omega
 have j:(ps.map λp=>(p.1,a.eval p.2)).toList=ps.toList.map λp=>(p.1,a.eval p.2):=j3
 have k:(Instr.buildSlice T n (ps.map λp=>(p.1,a.eval p.2))).run P w=.ok (.slice (some ⟨w.heap.size,0,none⟩) n n) (grown w [.cells f.toArray u] w.drawn):=by
  have key:∀ q:Array Value,((Array.range (n*e.size)).map λi=>q[i%q.size]!)=((Array.range (n*e.size)).map λi=>z.cells[i%z.cells.size]!) ->
    mD (λi=>some (i*e.size,e.size)) ((Array.range (n*e.size)).map λi=>q[i%q.size]!) (ps.map λp=>(p.1,a.eval p.2)).toList=some f.toArray:=λq G=>by
   rw[G,j];rw[zkc] at m1;exact m1
  by_cases h0:n*e.size=0
  ·have I:=key #[] (by simp[h0])
   simp only[Instr.buildSlice,zla,run_underlying h1,zga,co h2,m,if_false,zma h0,pure_bind,p8,I,newRow,run_newObj,zra];rw[<-dL];rfl
  ·have I:=key z.cells rfl;simp only[Instr.buildSlice,zla,run_underlying h1,zga,co h2,m,if_false,zia h0,bind_pure_comp,Sem.run_map,F,pure_bind,p8,I,newRow,run_newObj,zra];rw[<-dL];rfl
 have hex:execOp a.eval ⟨dst,.buildSlice T n ps,ty,pos,after,guard⟩=(Instr.buildSlice T n (ps.map λp=>(p.1,a.eval p.2)) >>= λv=>pure (.value v)):=rfl;rw[zvb,m2.1] at *;refine⟨_,hq,.value (by rw[hex];simp only[zla,k,zga,zra]) ⟨S',γ,β',U,V,W,⟨_,_,rfl⟩,λ_ _ y=>y,λid hid=>⟨rfl,X id λy=>?_⟩⟩⟩
 subst y;rcases hid with hid|hid
 ·rw[J] at hid;exact hid (by rw[zOb])
 ·omega
end
mutual
theorem H4:∀ (x y:D),D.beq x y=true->x=y
 | .int k n,y,h=>by cases y<;>simp_all [D.beq]
 | .bool b,y,h=>by cases y<;>simp_all [D.beq]
 | .str b,y,h=>by cases y<;>simp_all [D.beq]
 | .st l,y,h=>by
  cases y<;>simp only[D.beq] at h<;>first|(cases h;done)|skip
  rw[Ey _ _ h]
 | .sl l,y,h=>by cases y<;>simp[D.beq] at h
 | .tup l,y,h=>by cases y<;>simp[D.beq] at h
theorem Ey:∀ (l l':List D),D.beqs l l'=true->l=l'
 | [],l',h=>by cases l'<;>simp_all [D.beqs]
 | x::l,l',h=>by
  cases l' with
  | nil=>simp[D.beqs] at h
  | cons y l'=> simp only[D.beqs,zaa] at h;rw[H4 _ _ h.1,Ey _ _ h.2]
end
section
variable{P:Program}{E:Env}{w0:Root}{S:Nat->Nat->Prop}{γ:Nat->Option Nat}{β:Nat->Option (Nat×Nat)}{s:St}{a:Act}{w:World}
theorem o8{α:Type}(g:α->PUnit->Sem (ForInStep PUnit)){w:World}:∀ (l:List α),(∀ x∈l,(g x ⟨⟩).run P w=.ok (.yield ⟨⟩) w)->(forIn l PUnit.unit g).run P w=.ok ⟨⟩ w
 | [],_=>rfl
 | x::l,h=>by simp only[List.forIn_cons,zla,h x zsa,zga];exact o8 g l λy hy=>h y (zoa _ hy)
def mc{w:World}{b n:Nat}{es:Array MapEntry}(h:w.heap[b]?=some (.map es n)):(getObj b).run P w=.ok (.map es n) w:=by simp[getObj,Sem.run,h]
mutual
theorem j8:∀ (ty:Ty) (T:TypeId) (x:D) (cx:List Value) (vx:Value) (n:Nat) (e:Bool),bK P ty T=true->bZ ty=true->ty.high<=n->wt ty x->da w S x.flat cx->gL ty cx vx->∀ w',(Instr.checkKey e n T vx).run P w'=.ok () w'
 | .int k,T,x,cx,vx,n,e,hl,_,hd,hx,rx,ix,w'=>by
  simp only[wt] at hx;obtain⟨m,rfl⟩:=hx;obtain⟨c1,rfl,r1⟩:=rx.single';rw[fD ix rfl,r1.int_inv];obtain⟨n,rfl⟩:∃ e,n=e+1:=⟨n-1,by simp only[Ty.high] at hd;omega⟩
  simp only[Instr.checkKey,zla,run_underlying (ki hl),zga,zra]
 | .bool,T,x,cx,vx,n,e,hl,_,hd,hx,rx,ix,w'=>by
  simp only[wt] at hx;obtain⟨m,rfl⟩:=hx;obtain⟨c1,rfl,r1⟩:=rx.single';rw[fD ix rfl,r1.bool_inv];obtain⟨n,rfl⟩:∃ e,n=e+1:=⟨n-1,by simp only[Ty.high] at hd;omega⟩
  have hu:P.underlying T=some .bool:=by simp only[bK,zaa] at hl;all_goals grind
  simp only[Instr.checkKey,zla,run_underlying hu,zga,zra]
 | .st ts,T,x,cx,vx,n,e,hl,hc,hd,hx,rx,ix,w'=>by
  simp only[wt] at hx;obtain⟨l,rfl,hx⟩:=hx;rw[jr ix rfl];obtain⟨fs,h1,h2⟩:=jK hl;simp only[Ty.high] at hd;obtain⟨n,rfl⟩:∃ e,n=e+1:=⟨n-1,j1⟩
  simp only[bZ] at hc;simp only[D.flat] at rx;simp only[Instr.checkKey,zla,run_underlying h1,zga];rw[<-Array.forIn_toList,o8 (P:=P) (w:=w')]
  ·rfl
  ·intro f hf;have key:=mV ts fs.toList 0 l [] cx cx.toArray n e h2 hc j1 hx rx rfl rfl w' f hf
   by_cases hn : f.name ≠ "_"
   ·rw[zma hn] at key ⊢;simp only[zla] at key ⊢;cases hp:(part f.type cx.toArray f.offset).run P w' with
    | ok v w2=> rw[hp] at key;simp only[zga] at key ⊢;rw[key];rfl
    | _=>rw[hp] at key;simp[Result.andThen] at key
   ·rw[zia hn];rfl
 | .arr m t,T,x,cx,vx,n,e,hl,hc,hd,hx,rx,ix,w'=>by
  simp only[wt] at hx;obtain⟨l,rfl,hxl,hx⟩:=hx;rw[jr ix rfl];obtain⟨u,h1,h2⟩:=eY hl;simp only[Ty.high] at hd;obtain⟨n,rfl⟩:∃ e,n=e+1:=⟨n-1,j1⟩
  simp only[bZ] at hc;simp only[D.flat] at rx;have hn:=aK _ _ h2;simp only[Instr.checkKey,zla,run_underlying h1,zga];rw[Std.Legacy.Range.forIn_eq_forIn_range',o8 (P:=P) (w:=w')]
  ·rfl
  ·intro j hj;have hjn:j<m:=by simp at hj;omega
   have e1:l[j]?=some (l.getD j (.bool false)):=by simp[List.getD,zca (hxl ▸ hjn)]
   generalize l.getD j (.bool false)=dx at *;have wx:=hx dx (zdb e1);have rx':=rx;rw[cz e1] at rx';obtain⟨p1,p2⟩:=rx'.split;obtain⟨p3,p4⟩:=p2.split;have o1:(cx.take (acd (l.take j)).length).length=j*t.size:=by rw[<-p1.1,aG hn _ (λx hx'=>hx x (zSa hx')),zcb,zEb j1]
   obtain⟨v1,r1,i1⟩:=iM h2 (cs:=cx.toArray) (pre:=cx.take (acd (l.take j)).length) (mid:=(cx.drop (acd (l.take j)).length).take dx.flat.length) (post:=(cx.drop (acd (l.take j)).length).drop dx.flat.length)
     (by simp only[zva]) (by rw[<-p3.1];exact cL _ _ wx hn) p3.nag w'
   rw[o1] at r1;have r3:=j8 t u dx _ v1 n e h2 hc j1 wx p3 i1 w'
   simp only[zla,co h2,zga,r1,r3,zra]
 | .str,_,_,_,_,_,_,_,hc,_,_,_,_,_=>by simp[bZ] at hc
 | .sl _,_,_,_,_,_,_,_,hc,_,_,_,_,_=>by simp[bZ] at hc
 | .tup _,_,_,_,_,_,_,_,hc,_,_,_,_,_=>by simp[bZ] at hc
 | .fn,_,_,_,_,_,_,_,hc,_,_,_,_,_=>by simp[bZ] at hc
theorem mV:∀ (ts:List Ty) (fs:List Field) (off:Nat) (l:List D) (px cx:List Value) (xs:Array Value) (n:Nat) (e:Bool),gB P ts fs off=true->mW ts=true->acS ts<=n->fK ts l->da w S (acd l) cx ->
  xs.toList = px ++ cx -> px.length = off -> ∀ w', ∀ f ∈ fs, (if f.name ≠ "_" then (part f.type xs f.offset >>= λv => Instr.checkKey e n f.type v) else pure ()).run P w' = .ok () w'
 | [],fs,off,l,px,cx,xs,n,e,hf,_,_,_,_,_,_,w'=>by all_goals grind [gB]
 | t::ts,[],off,l,px,cx,xs,n,e,hf,_,_,_,_,_,_,w'=>by simp[gB] at hf
 | t::ts,f::fs,off,l,px,cx,xs,n,e,hf,hc,hd,hx,rx,ex,lx,w'=>by
  simp only[gB,zaa,zfa] at hf;obtain⟨⟨⟨⟨h1,h2⟩,h3⟩,h4⟩,h5⟩:=hf;simp only[fK] at hx;obtain⟨dx,l,rfl,hx1,hx2⟩:=hx;simp only[acd] at rx;obtain⟨p3,p4⟩:=rx.split;have hn:=aK _ _ h4;simp only[mW,zaa] at hc;simp only[acS] at hd;obtain⟨v1,r1,i1⟩:=iM h4 (cs:=xs) (pre:=px) (mid:=cx.take dx.flat.length) (post:=cx.drop dx.flat.length) (by rw[ex,zva]) (by rw[<-p3.1];exact cL _ _ hx1 hn) p3.nag w'
  rw[lx,<-h1] at r1;have r3:=j8 t f.type dx _ v1 n e h4 hc.1 j1 hx1 p3 i1 w'
  have hs1:(cx.take dx.flat.length).length=t.size:=by rw[<-p3.1];exact cL _ _ hx1 hn
  have ih:=mV ts fs (off+t.size) l (px++cx.take dx.flat.length) (cx.drop dx.flat.length) xs n e h5 hc.2 j1 hx2 p4
   (by rw[zPa,zva];exact ex) (by rw[zua,lx,hs1]) w'
  intro g hg;rcases zBa.1 hg with rfl|hg
  ·rw[zma h2,zla,r1,zga,r3]
  ·exact ih g hg
end
def CZ:List D->D->List MapEntry->Nat->Option (Nat×Value)
 | .st [k,_]::l,x,e::es,i=>if D.beq x k then some (i,e.val) else CZ l x es (i+1)
 | _,_,_,_=>none
theorem ve{c:Cx}{f vt:Ty}{T:TypeId}{x:D}{g:Value}(hl:bK P f T=true)(hc:bZ f=true)(hx:wt f x)(rx:gH c.w c.S x g){desc:TypeDesc}(hu:P.underlying T=some desc):∀ (l:List D) (es:List MapEntry) (j i:Nat) (r:Option (Nat×Value)),jx c f vt j l es->Instr.findNow desc g es i=some r->r=CZ l x es i
 | [],[],j,i,r,_,h=>by simp only[Instr.findNow,zda] at h;rw[<-h];rfl
 | [],_::_,j,i,r,h,_=>h.elim
 | _::_,[],j,i,r,h,_=>h.elim
 | y::l,e::es,j,i,r,h,d=>by
  simp only[jx] at h;obtain⟨⟨_,k,v,rfl,hk,q,o,s⟩,h2⟩:=h;simp only[Instr.findNow] at d;have key:∀ b,Instr.sameNow desc g e.key=some b->b=D.beq x k:=by
   intro b a;cases f<;>simp only[wt] at hx hk
   case int kk=> obtain⟨n,rfl⟩:=hx;obtain⟨m,rfl⟩:=hk;rw[rx.int_inv,o.int_inv] at a;rw[ki hl] at hu;cases hu;simp only[Instr.sameNow,if_true,zda] at a;rw[<-a];simp[D.beq];rfl
   case bool=> obtain⟨n,rfl⟩:=hx;obtain⟨m,rfl⟩:=hk;rw[rx.bool_inv,o.bool_inv] at a;simp only[bK,zaa] at hl;have h3:=hl.2;rw[hu] at h3;cases desc<;>simp at h3;simp only[Instr.sameNow,zda] at a;rw[<-a];rfl
   case st ts=> obtain⟨p,h3,_⟩:=jK hl;rw[hu] at h3;cases h3;simp[Instr.sameNow] at a
   case arr m t=> obtain⟨u,h3,_⟩:=eY hl;rw[hu] at h3;cases h3;simp[Instr.sameNow] at a
   all_goals simp[bZ] at hc
  cases hs:Instr.sameNow desc g e.key with
  | none=>rw[hs] at d;simp at d
  | some b=>
   rw[hs] at d;have:=key b hs;subst this;cases a:D.beq x k
   ·rw[a] at d;simp only at d;have:=ve hl hc hx rx hu l es (j+1) (i+1) r h2 d;grind [CZ,Bool.false_eq_true]
   ·grind [Option.some.injEq,CZ]
theorem oM{c:Cx}{a vt:Ty}{T:TypeId}{x:D}{b:Value}(hl:bK P a T=true)(hc:bZ a=true)(f:a.high<=1000)(hx:wt a x)(rx:gH c.w c.S x b)(w':World):∀ (l:List D) (es:List MapEntry) (j i:Nat),jx c a vt j l es->(Instr.findAsking T b es i).run P w'=.ok (CZ l x es i) w'
 | [],[],j,i,_=>rfl
 | [],_::_,j,i,h=>h.elim
 | _::_,[],j,i,h=>h.elim
 | y::l,e::es,j,i,h=>by
  simp only[jx] at h;obtain⟨⟨_,k,v,rfl,hk,m,d,n⟩,h2⟩:=h;have hn:=aK _ _ hl;have i1:gL a b.cells.toList b:=⟨rfl,pJ hx hn rx.1⟩;have i2:gL a e.key.cells.toList e.key:=⟨rfl,pJ hk hn d.1⟩;have g:=pY a T x k _ _ _ _ 10000 hl hc j1 hx hk rx.2 d.2 i1 i2 w'
  simp only[Instr.findAsking,Op.equal,Op.maxDepth,zla,g,zga,CZ];cases D.beq x k
  ·simp only[zFa,if_false];exact oM hl hc f hx rx w' l es (j+1) (i+1) h2
  ·simp
def vc{c:Cx}{a vt:Ty}{T:TypeId}{x:D}{b:Value}(hl:bK P a T=true)(hc:bZ a=true)(e:a.high<=1000)(hx:wt a x)(rx:gH c.w c.S x b)(w':World){l:List D}{es:List MapEntry}{j:Nat}(h:jx c a vt j l es) :
  (Instr.findKey T b es).run P w'=.ok (CZ l x es 0) w':=by
 have hu:∃ d,P.underlying T=some d:=by
  cases a<;>simp only[bZ] at hc<;>first|(cases hc;done)|skip
  ·exact⟨_,ki hl⟩
  ·simp only[bK,zaa] at hl;have h2:=hl.2;split at h2
   ·rename_i hu;exact⟨_,hu⟩
   ·cases h2
  ·obtain⟨g,h1,_⟩:=jK hl;exact⟨_,h1⟩
  ·obtain⟨u,h1,_⟩:=eY hl;exact⟨_,h1⟩
 obtain⟨d,hu⟩:=hu;simp only[Instr.findKey,zla,run_underlying hu,zga];split
 ·rename_i r f;rw[ve hl hc hx rx hu l es j 0 r h f];rfl
 ·exact oM hl hc e hx rx w' l es j 0 h
theorem ET{c:Cx}{a vt:Ty}{x:D}:∀ (l:List D) (es:List MapEntry) (j i:Nat),jx c a vt j l es ->
  match CZ l x es i with
  | none=>ace l x=none
  | some (_,v)=>∃ d,ace l x=some d/\wt vt d/\gH c.w c.S d v
 | [],[],j,i,_=>rfl
 | [],_::_,j,i,h=>h.elim
 | _::_,[],j,i,h=>h.elim
 | y::l,e::es,j,i,h=>by
  simp only[jx] at h;obtain⟨⟨_,k,v,rfl,hk,b,f,g⟩,h2⟩:=h;simp only[CZ,ace];cases hb:D.beq x k
  ·simp only[zFa,if_false];exact ET l es (j+1) (i+1) h2
  ·simp_all
def GY(hE:EnvOk P E)(h:Rp w0 S γ β s a w){dst T x i cok ty pos after guard}:jX P E w0 S γ β s a w ⟨dst,.lookup T x i cok,ty,pos,after,guard⟩:=by
 intro R K r hq;simp only[qv] at hq;replace hq:=ab hq;obtain⟨kv,N,hq⟩:=hq;obtain⟨ad,ai⟩:=kv;have hx:=aX h x;generalize s.opA x=ax at *;cases ax<;>(try simp only at hq)<;>first|(cases hq;done)|skip
 rename_i kt vt id;split at hq<;>first|(cases hq;done)|skip
 rename_i I;simp only[zaa] at I;have D:=acQ _ _ I.1;have F:=acQ _ _ I.2;subst D;subst F;split at hq<;>first|(cases hq;done)|skip
 rename_i A c l O;split at hq<;>first|(cases hq;done)|skip
 rename_i j;simp only[zaa] at j;have D:=acQ _ _ j.1;have F:=acQ _ _ j.2;subst D;subst F;replace hq:=ab hq;obtain⟨m,M,hq⟩:=hq;split at hq<;>first|(cases hq;done)|skip
 rename_i J;have Y:=aX h i;rw[eV M,acQ _ _ J] at Y;obtain⟨hc,KT,VT,hu,k,q,hh⟩:=hE.mapL T _ _ N;have t:=aK _ _ k;have f:=aK _ _ q;obtain⟨V,W⟩:=AX Y t;simp only[AR,AC] at hx;obtain⟨na,b,L,hγ,_,_,_⟩:=hx;have hv:=au na L;have hO:=h.obs id _ b O hγ;simp only[gt] at hO;obtain⟨_,_,_,es,o,X⟩:=hO;have i1:gL A (a.eval i).cells.toList (a.eval i):=⟨rfl,pJ V t W.1⟩;have rc:=j8 (S:=S) (w:=w) A KT m.2 _ _ 10000 es.isEmpty k hc j1 V W.2 i1 w
 have C:=vc (P:=P) k hc hh V W w X;have rg:=ET (x:=m.2) l es.toList 0 0 X;obtain⟨z,Q,U,y⟩:=jW q;have g:wt c (ar c)/\gH w S (ar c) z:=by
  have wz:=c7 c f;refine⟨wz,?_⟩;have G:AC ⟨w,S,γ,β,s.ob,s.dead⟩ (.d c (ar c)) z.cells.toList:=by simp only[AC];exact⟨wz,f,cO U⟩
  have iv:gL c z.cells.toList z:=⟨rfl,λH=>(y.2 H),λH xs e=>by have:=y.1 ⟨xs,e⟩;rw[H] at this;cases this⟩
  exact(AX (xj (bY _ _) G iv) f).2
 have run:∃ v d,(ace l m.2).getD (ar c)=d/\wt c d/\gH w S d v/\(execOp a.eval ⟨dst,.lookup T x i cok,ty,pos,after,guard⟩).run P w=.ok (.value (if cok then .tuple #[v,.bool (ace l m.2).isSome] else v)) w:=by
  have hex:(execOp a.eval ⟨dst,.lookup T x i cok,ty,pos,after,guard⟩)=(Instr.lookup T (a.eval x) (a.eval i) cok >>= λv=>pure (.value v)):=rfl;rw[hex,hv];cases hf:CZ l m.2 es.toList 0 with
  | none=>
   rw[hf] at rg C;simp only at rg;refine⟨z,ar c,by rw[rg];rfl,g.1,g.2,?_⟩
   simp only[Instr.lookup,zla,run_underlying hu,zga,mc o,zra,rc,C,Q,rg];rfl
  | some p=>
   obtain⟨n,v⟩:=p;rw[hf] at rg C;simp only at rg;obtain⟨d,g1,g2,g3⟩:=rg;refine⟨v,d,by rw[g1];rfl,g2,g3,?_⟩
   simp only[Instr.lookup,zla,run_underlying hu,zga,mc o,zra,rc,C,g1];rfl
 obtain⟨v,d,r1,Z,r3,B⟩:=run;rw[r1] at hq;cases cok with
 | false=> simp only at hq;simp only[zFa,if_false] at B;exact⟨_,hq,.value B (Qp.same h (dO f Z r3) _)⟩
 | true=>
  simp only at hq;simp only[if_true] at B;refine⟨_,hq,.value B (Qp.same h ?_ _)⟩;simp only[AR];refine .inr ⟨_,rfl,by simp[br,f,ao],?_,?_⟩
  ·simp only[wt,fK];exact⟨_,rfl,d,_,rfl,Z,_,_,rfl,⟨_,rfl⟩,rfl⟩
  ·refine⟨[v,.bool (ace l m.2).isSome],rfl,rfl,λi dd u h1 h2=>?_⟩;rcases i with _|_|i
   ·simp at h1 h2;subst h1;subst h2;exact r3
   ·simp at h1 h2;subst h1;subst h2;exact acm (.bool _)
   ·simp at h1
end
end Sy
end
end Go.Proofs.YtphlmegkommlnaaGreatDoor
