/- Part 2 of the proof that For every yard with at most 6 things -/
import Derived.Test.YtpahompifldeeaaGreatSteps01
import Derived.ProofKit
import Derived.Deep.Slices
import Derived.OpenShut
import Derived.OrdersIn
import Derived.TacticsIn
import Derived.RangeFuncIn
import Derived.RangeFuncCalls
import Derived.Scope
import Derived.StillTail
import Derived.ChangeKeysEq
import Derived.MapKept
set_option linter.unusedVariables false
set_option linter.unusedSimpArgs false
set_option linter.unnecessarySimpa false
set_option linter.defProp false
set_option maxRecDepth 20000
namespace Go.Proofs.YtpahompifldeeaaGreat
noncomputable section
namespace Sy
open Go
section
variable{H:Type}{enc:TypeId×Value->H}{P:Program}{W:World}{base:Nat}{spare:Nat->Bool}{held:Bool}
def pb(W:World)(b o:Nat):Prop:=(W.cell? ⟨b,o,none⟩).isSome=true
def valid_lt{b o:Nat}(h:pb W b o):b<W.heap.size:=by
 unfold pb World.cell? at h;rcases zqa b W.heap.size with k|k
 ·exact k
 ·simp only[Array.getElem?_eq_none k] at h;cases h
mutual
def ED:D->Prop
 | .int k n=>(Lit.int k n).wf=true
 | .bool _=>True
 | .str s=>s.size<=maxLen
 | .st l=>uN l
 | .sl l=>l.length<=maxLen/\uN l
 | .tup l=>uN l
def uN:List D->Prop
 | []=>True
 | d::l=>ED d/\uN l
end
theorem oM:∀ {l:List D},uN l↔∀ d∈l,ED d
 | []=>by simp[uN]
 | d::l=>by simp[uN,oM (l:=l)]
mutual
def oN:Ty->Bool
 | .st ts=>xw ts
 | .arr _ t=>oN t
 | .sl t=>decide (0<t.size)&&oN t
 | .tup _=>false
 | .fn=>false
 | _=>true
def xw:List Ty->Bool
 | []=>true
 | t::ts=>oN t&&xw ts
end
def jR{T:TypeId}{ty:Ty}(h:bD P ty T=true):P.cellsOf T=ty.size:=by
 obtain⟨i,z,h1,h2,_⟩:=fi (gn h);simp[Program.cellsOf,h1,h2]
def cG.one'{S:Nat->Nat->Prop}{d:D}{c:Value}(h:CR W S d c):cG W S [d] [c]:=⟨rfl,λi d' c' hd hc=>by
 cases i with
 | zero=>simp at hd hc;subst hd;subst hc;exact h
 | succ i=>simp at hd⟩
mutual
theorem sa:∀ (ty:Ty) (T:TypeId) (fuel:Nat) (cs:List Value) (x:DataW H×List MemPlace),bD P ty T=true->oN ty=true->DataW.trod enc P W base spare held fuel T cs=some x->∃ d,wt ty d/\ED d/\cG W (pb W) d.flat cs
 | .int k,T,fuel,cs,x,hl,_,h=>by
  obtain⟨n,rfl,_,hw⟩:=DataW.trod_int (jo hl) h;exact⟨.int k n,⟨n,rfl⟩,hw,cG.one' (.int k n)⟩
 | .bool,T,fuel,cs,x,hl,_,h=>by
  have hu:P.underlying T=some .bool:=by
   simp only[bD,zaa] at hl;have h2:=hl.2;split at h2
   ·assumption
   ·cases h2
  obtain⟨b,rfl,_⟩:=DataW.trod_bool hu h;exact⟨.bool b,⟨b,rfl⟩,trivial,cG.one' (.bool b)⟩
 | .str,T,fuel,cs,x,hl,_,h=>by
  have hu:P.underlying T=some .string:=by
   simp only[bD,zaa] at hl;have h2:=hl.2;split at h2
   ·assumption
   ·cases h2
  obtain⟨s,rfl,_,hw⟩:=DataW.trod_string hu h;exact⟨.str s,⟨s,rfl⟩,hw,cG.one' (.str s)⟩
 | .st ts,T,fuel,cs,x,hl,hp,h=>by
  obtain⟨fs,hu,hf⟩:=iD hl;obtain⟨xs,n,_,_,hlen,hxl,hx⟩:=DataW.trod_struct hu h;rw[jR hl] at hlen;obtain⟨l,h1,hok,h2⟩:=Ad ts fs.toList 0 cs n hf (by simpa only[oN] using hp) (λi f hi=>by
   have hi':fs[i]?=some f:=by simpa using hi
   have hlt:i<xs.length:=by rw[hxl];exact(zfa.1 hi').1
   exact⟨xs[i],(hx i f hi').trans (zca hlt)⟩) (by rw[hlen];simp[Ty.size])
  refine⟨.st l,⟨l,rfl,h1⟩,hok,?_⟩;have:(cs.drop 0).take (Ty.sizes ts)=cs:=by
   rw[List.drop_zero,zDb (by rw[hlen];simp[Ty.size])]
  rw[this] at h2;exact h2
 | .arr n e,T,fuel,cs,x,hl,hp,h=>by
  obtain⟨u,hu,hl'⟩:=dP hl;obtain⟨xs,m,_,_,hlen,hxl,hx⟩:=DataW.trod_array hu h;rw[jR hl] at hlen;rw[jR hl'] at hx;simp only[oN] at hp;have key:∀ k,k<=n->∃ l:List D,l.length=k/\(∀ y∈l,wt e y/\ED y)/\cG W (pb W) (D.flats l) (cs.take (k*e.size)):=by
   intro k
   induction k with
   | zero=>intro _;exact⟨[],rfl,by simp,by simp[D.flats,cG.nil]⟩
   | succ k ih=>
    intro hk;obtain⟨l,h1,h2,h3⟩:=ih (by omega)
    have hxk:=hx k (by omega)
    rw[zca (show k<xs.length by omega)] at hxk
    obtain⟨d,h4,h4',h5⟩:=sa e u m _ _ hl' hp hxk;refine⟨l++[d],by simp[h1],λy hy=>?_,?_⟩
    ·rcases zwa.1 hy with hy|hy
     ·exact h2 y hy
     ·rw[zAa.1 hy];exact⟨h4,h4'⟩
    ·have e1:cs.take ((k+1)*e.size)=cs.take (k*e.size)++(cs.drop (k*e.size)).take e.size:=by
      rw[zZa,znc,List.take_add]
     rw[e1,bR];refine h3.append ?_;simpa [D.flats] using h5
  obtain⟨l,h1,h2,h3⟩:=key n (zja n);refine⟨.st l,⟨l,rfl,h1,λy hy=>(h2 y hy).1⟩,oM.2 λy hy=>(h2 y hy).2,?_⟩;rw[zDb (by rw[hlen];simp[Ty.size])] at h3
  exact h3
 | .sl e,T,fuel,cs,x,hl,hp,h=>by
  obtain⟨u,hu,hl'⟩:=iC hl;simp only[oN,zaa,decide_eq_true_eq] at hp;rcases DataW.trod_slice hu h with⟨rfl,_⟩|⟨a,len,cap,elems,rest,m,_,rfl,_,hb,hlc,hcm,hel,hx,_,_⟩
  ·exact⟨.sl [],⟨[],rfl,by simp⟩,⟨zga _,trivial⟩,cG.one' (CR.of_elems (l:=[]) (b:=0) (off:=0) (.inl rfl) (zja _) ⟨[],cG.nil,by simp⟩)⟩
  ·rw[jR hl'] at hx;by_cases h0:len=0
   ·subst h0;exact⟨.sl [],⟨[],rfl,by simp⟩,⟨zga _,trivial⟩,cG.one' (CR.of_elems (l:=[]) (b:=0) (off:=0) (.inl rfl) (zga _) ⟨[],cG.nil,by simp⟩)⟩
   ·have hsp:∃ b off,a=⟨b,off,none⟩:=by
     have:=hx 0 (by omega)
     rw[zca (show 0<elems.length by omega)] at this
     obtain⟨cs',h1,_⟩:=Option.bind_eq_some_iff.1 this;obtain⟨_,h2,h3⟩:=World.cells?_some h1;have h4:=h3 0 hp.1;rw[zca (show 0<cs'.length by omega)] at h4
     have e0:(a.add (0*e.size)).add 0=a:=by simp[Addr.add]
     rw[e0] at h4;obtain⟨b,off,sp⟩:=a;cases sp with
     | none=>exact⟨b,off,rfl⟩
     | some s=>
      exfalso;unfold World.cell? at h4;split at h4
      ·simp at h4
      ·cases h4
    obtain⟨b,off,rfl⟩:=hsp;have key:∀ k,k<=len->∃ (l:List D) (cs:List Value),l.length=k/\(∀ y∈l,wt e y/\ED y)/\cG W (pb W) (D.flats l) cs/\∀ j c,cs[j]?=some c->W.cell? ⟨b,off+j,none⟩=some c:=by
     intro k
     induction k with
     | zero=>intro _;exact⟨[],[],rfl,by simp,cG.nil,by simp⟩
     | succ k ih=>
      intro hk;obtain⟨l,cs,h1,h2,h3,h4⟩:=ih (by omega)
      have hxk:=hx k (by omega)
      rw[zca (show k<elems.length by omega)] at hxk
      obtain⟨cs',q1,q2⟩:=Option.bind_eq_some_iff.1 hxk;obtain⟨_,q3,q4⟩:=World.cells?_some q1;obtain⟨d,h5,h5',h6⟩:=sa e u m _ _ hl' hp.2 q2;have hn:aq e=true:=aL e u hl';have hcl:cs.length=k*e.size:=by rw[<-h3.1,aK hn l (λy hy=>(h2 y hy).1),h1]
      refine⟨l++[d],cs++cs',by simp[h1],λy hy=>?_,?_,λj c hc=>?_⟩
      ·rcases zwa.1 hy with hy|hy
       ·exact h2 y hy
       ·rw[zAa.1 hy];exact⟨h5,h5'⟩
      ·rw[bR];refine h3.append ?_;simpa [D.flats] using h6
      ·rcases zqa j cs.length with hj|hj
       ·rw[zfb hj] at hc;exact h4 j c hc
       ·rw[zzb hj] at hc;have hlt:j-cs.length<e.size:=by
         have:=(zna.1 hc).1;omega
        have:=q4 (j-cs.length) hlt;rw[hc] at this;rw[cO,cO] at this;rw[show off+k*e.size+(j-cs.length)=off+j by omega] at this
        exact this
    obtain⟨l,cs,h1,h2,h3,h4⟩:=key len (zja _);refine⟨.sl l,⟨l,rfl,λy hy=>(h2 y hy).1⟩,⟨by omega,oM.2 λy hy=>(h2 y hy).2⟩,cG.one' ?_⟩
    rw[<-h1];exact CR.of_elems (b:=b) (off:=off) (.inr rfl) (by omega) ⟨cs,h3,λi c hc=>⟨by unfold pb;rw[h4 i c hc];rfl,h4 i c hc⟩⟩
 | .tup _,_,_,_,_,hl,_,_=>by simp[bD] at hl
 | .fn,_,_,_,_,hl,_,_=>by simp[bD] at hl
theorem Ad:∀ (ts:List Ty) (fs:List Field) (off:Nat) (cs:List Value) (n:Nat),fL P ts fs off=true->xw ts=true ->
  (∀ (i:Nat) (f:Field),fs[i]?=some f->∃ x:DataW H×List MemPlace,DataW.trod enc P W base spare held n f.type ((cs.drop f.offset).take (P.cellsOf f.type))=some x)->off+Ty.sizes ts<=cs.length ->
  ∃ l,ff ts l/\uN l/\cG W (pb W) (D.flats l) ((cs.drop off).take (Ty.sizes ts))
 | [],_,off,cs,n,_,_,_,_=>⟨[],rfl,trivial,by simp[D.flats,Ty.sizes,cG.nil]⟩
 | t::ts,[],off,cs,n,h,_,_,_=>by simp[fL] at h
 | t::ts,f::fs,off,cs,n,h,hp,hx,hle=>by
  simp only[fL,zaa,decide_eq_true_eq] at h;obtain⟨⟨⟨⟨h1,_⟩,h2⟩,h3⟩,h4⟩:=h;simp only[xw,zaa] at hp;simp only[Ty.sizes] at hle ⊢;obtain⟨x,hx0⟩:=hx 0 f rfl;rw[jR h3,h1] at hx0;obtain⟨d,q1,q1',q2⟩:=sa t f.type n _ _ h3 hp.1 hx0;obtain⟨l,q3,q3',q4⟩:=Ad ts fs (off+t.size) cs n h4 hp.2 (λi g hi=>hx (i+1) g (by simpa using hi)) (by omega)
  refine⟨d::l,⟨d,l,rfl,q1,q3⟩,⟨q1',q3'⟩,?_⟩;rw[List.take_add,zHd];simp only[D.flats];exact q2.append q4
end
end
end Sy
end
noncomputable section
namespace Sy
open Go
theorem bind_some_inv.{u,v}{α:Type u}{β:Type v}{x:Option α}{f:α->Option β}{r:β}(h:x.bind f=some r):∃ a,x=some a/\f a=some r:=by
 cases x with
 | none=>cases h
 | some a=>exact⟨a,rfl,h⟩
def pK{t t':Ty}{x:D}(h:AV.fits t (.d t' x)=true):t=t':=by
 have hf':t.beq t'=true:=by simp_all [AV.fits]
 exact Ty.eq_of_beq _ _ hf'
def Ty.beq_refl':∀ (t:Ty),t.beq t=true:=by
 intro t;exact(Ty.rec (motive_1:=λt=>t.beq t=true) (motive_2:=λl=>Ty.beqs l l=true)
  (λk=>by simp[Ty.beq]) rfl rfl (λl h=>by simpa [Ty.beq] using h) (λn t h=>by simp[Ty.beq,h]) (λt h=>by simpa [Ty.beq] using h) (λl h=>by simpa [Ty.beq] using h) rfl rfl
  (λt l h1 h2=>by simp[Ty.beqs,h1,h2]) t)
def bH(t:Ty)(x:D):AV.fits t (.d t x)=true:=by
 have:=Ty.beq_refl' t;all_goals simp_all [AV.fits]
theorem pL:∀ {ts:List Ty} {l:List AV} {i:Nat} {a:AV},AV.fitss ts l=true->l[i]?=some a->∃ t,ts[i]?=some t/\AV.fits t a=true
 | _,[],_,_,_,h=>by simp at h
 | [],b::l,_,_,h,_=>by simp[AV.fitss] at h
 | u::ts,b::l,i,a,h,hi=>by
  simp only[AV.fitss,zaa] at h;cases i with
  | zero=>simp at hi;subst hi;exact⟨u,rfl,h.1⟩
  | succ i=>simp at hi;obtain⟨t,h1,h2⟩:=pL h.2 hi;exact⟨t,by simpa using h1,h2⟩
theorem tc:∀ {ts:List Ty} {l:List AV} {i:Nat} {t:Ty},AV.fitss ts l=true->ts[i]?=some t->∃ a,l[i]?=some a/\AV.fits t a=true
 | [],_,_,_,_,h=>by simp at h
 | u::ts,[],_,_,h,_=>by simp[AV.fitss] at h
 | u::ts,b::l,i,a,h,hi=>by
  simp only[AV.fitss,zaa] at h;cases i with
  | zero=>simp at hi;subst hi;exact⟨b,rfl,h.1⟩
  | succ i=>simp at hi;obtain⟨t,h1,h2⟩:=tc h.2 hi;exact⟨t,by simpa using h1,h2⟩
theorem mn:∀ {ts:List Ty} {l:List AV} {i:Nat} {t:Ty} {b:AV},AV.fitss ts l=true->ts[i]?=some t->AV.fits t b=true->AV.fitss ts (l.set i b)=true
 | [],_,_,_,_,_,h,_=>by simp at h
 | u::ts,[],_,_,_,h,_,_=>by simp[AV.fitss] at h
 | u::ts,a::l,i,t,b,h,hi,hb=>by
  simp only[AV.fitss,zaa] at h;cases i with
  | zero=>simp at hi;subst hi;simp[AV.fitss,hb,h.2]
  | succ i=>simp at hi;simp only[z0c,AV.fitss,zaa];exact⟨h.1,mn h.2 hi hb⟩
theorem rI{c:Cx}:∀ {ts:List Ty} {l:List AV} {cs:List Value} {i:Nat} {a:AV},AV.fitss ts l=true->bi ts=true->kh c l cs->l[i]?=some a ->
  ∃ pre mid post,cs=pre++(mid++post)/\pre.length=Ty.sizes (ts.take i)/\AC c a mid/\∀ b bs,AC c b bs->kh c (l.set i b) (pre++(bs++post))
 | _,[],_,_,_,_,_,_,h=>by simp at h
 | [],b::l,_,_,_,h,_,_,_=>by simp[AV.fitss] at h
 | u::ts,b::l,cs,i,a,hf,hn,h,hi=>by
  simp only[AV.fitss,zaa] at hf;simp only[bi,zaa] at hn;simp only[kh] at h;obtain⟨c1,c2,rfl,h1,h2⟩:=h;cases i with
  | zero=>
   simp at hi;subst hi;exact⟨[],c1,c2,by simp,by simp[Ty.sizes],h1,λb bs hb=>by simp only[zDc,kh,z3b];exact⟨bs,c2,rfl,hb,h2⟩⟩
  | succ i=>
   simp at hi;obtain⟨pre,mid,post,rfl,k1,k2,k3⟩:=rI hf.2 hn.2 h2 hi;refine⟨c1++pre,mid,post,by simp[zOa],?_,k2,λb bs hb=>?_⟩
   ·simp only[zua,zXb,Ty.sizes,k1,(gR b u c1 hf.1 h1).1]
   ·grind [kh,List.append_assoc]
def lM{ts:List Ty}{i:Nat}{p:List Nat}{u:Ty}(h:aQ (.st ts) (i::p)=some u):∃ v,ts[i]?=some v/\aQ v p=some u:=by
 grind [aQ]
def Cl{R:Type}{c:Cx}:∀ (p:List Nat) {T t:Ty} {a:AV} {cs:List Value} {K:AV->Option R} {r:R},AV.fits T a=true->aq T=true->aQ T p=some t->AC c a cs->w7 a p K=some r ->
  ∃ a' pre mid post,K a'=some r/\cs=pre++(mid++post)/\pre.length=aX T p/\AC c a' mid/\AV.fits t a'=true:=by
 intro p
 induction p with
 | nil=>
  intro T t a cs K r hf hn hp hc hg;have hT:T=t:=by cases T<;>simpa [aQ] using hp
  subst hT;refine⟨a,[],cs,[],?_,by simp,by cases T<;>rfl,hc,hf⟩
  cases a<;>simpa [w7] using hg
 | cons i p ih=>
  intro T t a cs K r hf hn hp hc hg;cases a<;>simp only[w7] at hg
  case d t' x=>
   have:=pK hf;subst this;obtain⟨t2,h1,h2⟩:=bind_some_inv hg;obtain⟨y,h3,h4⟩:=bind_some_inv h2;rw[hp] at h1;cases h1;simp only[AC] at hc;obtain⟨k1,A,B,k2,k3⟩:=iA (i::p) hc.1 hn hp h3;have h5:=hc.2.2;rw[k2] at h5;obtain⟨h6,h7⟩:=h5.split;obtain⟨h8,h9⟩:=h7.split;refine⟨_,cs.take A.length,(cs.drop A.length).take y.flat.length,(cs.drop A.length).drop y.flat.length,h4,by simp only[zsa],?_,?_,bH _ _⟩
   ·rw[<-h6.1];exact k3
   ·simp only[AC];exact⟨k1,dC _ hn hp,h8⟩
  case st ts' l=>
   cases T<;>simp only[AV.fits] at hf<;>first|cases hf|skip
   rename_i ts;simp only[zaa] at hf;obtain⟨a1,h1,h2⟩:=bind_some_inv hg;obtain⟨v,h3,h4⟩:=lM hp;simp only[AC] at hc;simp only[aq] at hn;obtain⟨v',h5,h6⟩:=pL hf.2 h1;rw[h3] at h5;cases h5;obtain⟨pre,mid,post,rfl,k1,k2,_⟩:=rI hf.2 hn hc.2.2 h1;obtain⟨a',pre',mid',post',m1,rfl,m2,m3,m4⟩:=ih h6 (bV hn h3) h4 k2 h2;refine⟨a',pre++pre',mid',post'++post,m1,by simp[zOa],?_,m3,m4⟩
   simp only[zua,aX,k1,m2];simp[List.getD,h3]
  all_goals cases hg
def Kr{R:Type}{c:Cx}:∀ (p:List Nat) {T t:Ty} {a b:AV} {cs bs:List Value} {K:AV->Option R} {r:R},AV.fits T a=true->aq T=true->aQ T p=some t->AC c a cs->AC c b bs->AV.fits t b=true->Bs a p b K=some r ->
  ∃ a' pre mid post,K a'=some r/\cs=pre++(mid++post)/\pre.length=aX T p/\mid.length=bs.length/\AC c a' (pre++(bs++post))/\AV.fits T a'=true:=by
 intro p
 induction p with
 | nil=>
  intro T t a b cs bs K r hf hn hp hc hb hfb hg;have hT:T=t:=by simp_all [aQ]
  subst hT;refine⟨b,[],cs,[],?_,by simp,by cases T<;>rfl,?_,by simpa using hb,hfb⟩
  ·simp_all [Bs]
  ·rw[(gR _ _ _ hf hc).1,(gR _ _ _ hfb hb).1]
 | cons i p ih=>
  intro T t a b cs bs K r hf hn hp hc hb hfb hg;cases a<;>simp only[Bs] at hg
  case d t' x=>
   have:=pK hf;subst this;cases b<;>simp only at hg<;>first|cases hg|skip
   rename_i u y;have:=pK hfb;subst this;obtain⟨x',h3,h4⟩:=bind_some_inv hg;simp only[AC] at hc hb;obtain⟨k1,A,C,B,k2,k3,k4,k5⟩:=oR (i::p) hc.1 hn hp h3 hb.1;have h5:=hc.2.2;rw[k2] at h5;obtain⟨h6,h7⟩:=h5.split;obtain⟨h8,h9⟩:=h7.split;refine⟨_,cs.take A.length,(cs.drop A.length).take C.length,(cs.drop A.length).drop C.length,h4,by simp only[zsa],?_,?_,?_,bH _ _⟩
   ·rw[<-h6.1];exact k4
   ·rw[<-h8.1,k5,<-hb.2.2.1,ci _ _ hb.1 hb.2.1]
   ·simp only[AC];refine⟨k1,hn,?_⟩;rw[k3];exact h6.append (hb.2.2.append h9)
  case st ts' l=>
   cases T<;>simp only[AV.fits] at hf<;>first|cases hf|skip
   rename_i ts;simp only[zaa] at hf;obtain⟨a1,h1,h2⟩:=bind_some_inv hg;obtain⟨v,h3,h4⟩:=lM hp;simp only[AC] at hc;simp only[aq] at hn;obtain⟨v',h5,h6⟩:=pL hf.2 h1;rw[h3] at h5;cases h5;obtain⟨pre,mid,post,rfl,k1,k2,k3⟩:=rI hf.2 hn hc.2.2 h1;obtain⟨a',pre',mid',post',m1,rfl,m2,m2',m3,m4⟩:=ih h6 (bV hn h3) h4 k2 hb hfb h2;have iV:=Ty.eqs_of_beqs _ _ hf.1;subst iV;refine⟨_,pre++pre',mid',post'++post,m1,by simp[zOa],?_,m2',?_,?_⟩
   ·simp only[zua,aX,k1,m2];simp[List.getD,h3]
   ·simp only[AC];refine⟨hn,mn hf.2 h3 m4,?_⟩;have:=k3 _ _ m3;simpa [zOa] using this
   ·simp only[AV.fits,zaa];exact⟨hf.1,mn hf.2 h3 m4⟩
  all_goals cases hg
mutual
theorem qr{c:Cx}{ob:Nat->Option Ob}:∀ (a:AV) (t:Ty) (cs:List Value) (x:D),AV.toD ob t a=some x->AC c a cs->wt t x/\cG c.w c.S x.flat cs/\(∀ v,ga t cs v->aq t=true->fZ c.w c.S x v)
 | .d t' x',t,cs,x,h,hc=>by
  have h':t.beq t'=true/\x'=x:=by cases t<;>simpa [AV.toD] using h
  obtain⟨h1,rfl⟩:=h';have:=Ty.eq_of_beq _ _ h1;subst this;simp only[AC] at hc;exact⟨hc.1,hc.2.2,λv hv hn=>⟨si hc.1 hc.2.1 hv.2,by rw[hv.1];exact hc.2.2⟩⟩
 | .own t' v l,t,cs,x,h,hc=>by
  have h':t.beq (.sl t')=true/\D.sl l=x:=by cases t<;>simpa [AV.toD] using h
  obtain⟨h1,rfl⟩:=h';have:=Ty.eq_of_beq _ _ h1;subst this;simp only[AC] at hc;obtain⟨k1,k2,a,cap,rfl,k3,_⟩:=hc;have hw:wt (.sl t') (.sl l):=by simp only[wt];exact⟨l,rfl,k2⟩
  exact⟨hw,cG.single.2 k3,λv hv hn=>⟨si hw hn hv.2,by rw[hv.1];exact cG.single.2 k3⟩⟩
 | .nils,t,cs,x,h,hc=>by
  cases t<;>simp only[AV.toD] at h<;>first|cases h|skip
  simp only[AC] at hc;subst hc;have hw:∀ t,wt (.sl t) (.sl []):=λt=>by simp only[wt];exact⟨[],rfl,λx hx=>by simp at hx⟩
  have hr:cG c.w c.S [D.sl []] [.slice none 0 0]:=cG.single.2 (.sl [] none 0 0 0 (λ_=>undef) (.inl rfl) (zja 0) (λi d hd=>by simp[D.flats] at hd) (λi d hd=>by simp[D.flats] at hd))
  exact⟨hw _,hr,λv hv hn=>⟨si (hw _) hn hv.2,by rw[hv.1];exact hr⟩⟩
 | .st ts' l,t,cs,x,h,hc=>by
  simp only[AV.toD] at h;split at h
  ·rename_i hb;have:=Ty.eq_of_beq _ _ hb;subst this;obtain⟨xs,h1,h2⟩:=bind_some_inv h;simp only[zda] at h2;subst h2;simp only[AC] at hc;obtain⟨k1,k2⟩:=C6 l ts' cs xs h1 hc.2.2;have hw:wt (.st ts') (.st xs):=by simp only[wt];exact⟨xs,rfl,k1⟩
   exact⟨hw,k2,λv hv hn=>⟨si hw hn hv.2,by rw[hv.1];exact k2⟩⟩
  ·cases h
 | .ptr ..,t,_,_,h,_=>by cases t<;>simp[AV.toD] at h
 | .fptr ..,t,_,_,h,_=>by cases t<;>simp[AV.toD] at h
 | .mem ..,t,_,_,h,_=>by cases t<;>simp[AV.toD] at h
 | .clo ..,t,_,_,h,_=>by cases t<;>simp[AV.toD] at h
 | .sub ..,t,_,_,h,_=>by cases t<;>simp[AV.toD] at h
 | .gone,t,_,_,h,_=>by cases t<;>simp[AV.toD] at h
 | .undef,t,_,_,h,_=>by cases t<;>simp[AV.toD] at h
theorem C6{c:Cx}{ob:Nat->Option Ob}:∀ (l:List AV) (ts:List Ty) (cs:List Value) (xs:List D),AV.toDl ob ts l=some xs->kh c l cs->ff ts xs/\cG c.w c.S (D.flats xs) cs
 | [],ts,cs,xs,h,hc=>by
  cases ts<;>simp only[AV.toDl] at h<;>first|cases h|skip
  simp only[kh] at hc;subst hc;exact⟨by simp[ff],cG.nil⟩
 | a::l,ts,cs,xs,h,hc=>by
  cases ts<;>simp only[AV.toDl] at h<;>first|cases h|skip
  rename_i t ts;obtain⟨x,h1,h2⟩:=bind_some_inv h;obtain⟨ys,h3,h4⟩:=bind_some_inv h2;simp only[zda] at h4;subst h4;simp only[kh] at hc;obtain⟨c1,c2,rfl,k1,k2⟩:=hc;obtain⟨m1,m2,_⟩:=qr a t c1 x h1 k1;obtain⟨m3,m4⟩:=C6 l ts c2 ys h3 k2;exact⟨by simp only[ff];exact⟨x,ys,rfl,m1,m3⟩,by simp only[D.flats];exact m2.append m4⟩
end
mutual
theorem uh{ob:Nat->Option Ob}:∀ (a:AV) (t:Ty) (x:D),AV.toD ob t a=some x->AV.fits t a=true
 | .d t' x',t,x,h=>by
  simp_all [AV.toD,AV.fits]
 | .own t' v l,t,x,h=>by
  have h':t.beq (.sl t')=true/\D.sl l=x:=by cases t<;>simpa [AV.toD] using h
  have:=Ty.eq_of_beq _ _ h'.1;subst this;simp[AV.fits,Ty.beq_refl']
 | .nils,t,x,h=>by
  cases t<;>first|rfl|(simp only[AV.toD] at h;cases h)
 | .st ts' l,t,x,h=>by
  simp only[AV.toD] at h;split at h
  ·rename_i hb;have:=Ty.eq_of_beq _ _ hb;subst this;obtain⟨xs,h1,h2⟩:=bind_some_inv h;simp only[AV.fits,zaa];exact⟨by have:=Ty.beq_refl' (.st ts');simpa [Ty.beq] using this,wo l ts' xs h1⟩
  ·cases h
 | .ptr ..,t,_,h=>by cases t<;>simp[AV.toD] at h
 | .fptr ..,t,_,h=>by cases t<;>simp[AV.toD] at h
 | .mem ..,t,_,h=>by cases t<;>simp[AV.toD] at h
 | .clo ..,t,_,h=>by cases t<;>simp[AV.toD] at h
 | .sub ..,t,_,h=>by cases t<;>simp[AV.toD] at h
 | .gone,t,_,h=>by cases t<;>simp[AV.toD] at h
 | .undef,t,_,h=>by cases t<;>simp[AV.toD] at h
theorem wo{ob:Nat->Option Ob}:∀ (l:List AV) (ts:List Ty) (xs:List D),AV.toDl ob ts l=some xs->AV.fitss ts l=true
 | [],ts,xs,h=>by cases ts<;>first|rfl|(simp only[AV.toDl] at h;cases h)
 | a::l,ts,xs,h=>by
  cases ts<;>simp only[AV.toDl] at h<;>first|cases h|skip
  rename_i t ts;obtain⟨x,h1,h2⟩:=bind_some_inv h;obtain⟨ys,h3,h4⟩:=bind_some_inv h2;simp only[AV.fitss,zaa];exact⟨uh a t x h1,wo l ts ys h3⟩
end
def ni{c:Cx}{ob:Nat->Option Ob}{t:Ty}{a:AV}{v:Value}{x:D}(hn:aq t=true)(h:AR c a v)(hx:AV.toD ob t a=some x):wt t x/\fZ c.w c.S x v:=by
 obtain⟨h1,h2⟩:=yc (uh a t x hx) hn h;obtain⟨h3,_,h5⟩:=qr a t _ x hx h1
 simp_all
def dN{c:Cx}{t:Ty}{x:D}{v:Value}(hn:aq t=true)(hw:wt t x)(h:fZ c.w c.S x v):AR c (.d t x) v:=by
 simp_all [AR]
def yd{c:Cx}{t:Ty}{x:D}{v:Value}(h:AR c (.d t x) v)(hn:aq t=true):wt t x/\fZ c.w c.S x v:=by
 all_goals grind [AR,aq]
def eQ{c:Cx}{t:Ty}{k:IntKind}{n:Int}{v:Value}(h:AR c (.d t (.int k n)) v):v=.int k n/\t=.int k:=by
 simp only[AR] at h;rcases h with⟨h1,h2,h3⟩|⟨ts,rfl,_,h2,_⟩
 ·refine⟨h3.int_inv,?_⟩;cases t<;>simp only[wt] at h2<;>first
   | (obtain⟨m,h4⟩:=h2;cases h4;rfl)
   | (obtain⟨m,h4,_⟩:=h2;cases h4)
   | (obtain⟨m,h4⟩:=h2;cases h4)
 ·simp_all [wt]
def BK{c:Cx}{t:Ty}{n:Bool}{v:Value}(h:AR c (.d t (.bool n)) v):v=.bool n:=by
 simp only[AR] at h;rcases h with⟨h1,h2,h3⟩|⟨ts,rfl,_,h2,_⟩
 ·exact h3.bool_inv
 ·simp_all [wt]
def ct{c:Cx}(k:IntKind)(n:Int):AR c (.d (.int k) (.int k n)) (.int k n):=
 dN rfl (by simp only[wt];exact⟨n,rfl⟩) (fZ.of_CR (.int k n))
def gh{c:Cx}(b:Bool):AR c (.d .bool (.bool b)) (.bool b):=
 dN rfl (by simp only[wt];exact⟨b,rfl⟩) (fZ.of_CR (.bool b))
end Sy
end
noncomputable section
namespace Sy
open Go
def dV(P:Program)(o:Oper)(a:Act)(w:World)(K:Value->World->Prop):Prop:=
 match (execOp a.eval o).run P w with
 | .ok (.value v) w'=>K v w'
 | .ok .skip w'=>K undef w'
 | .ok (.enter f args) w'=>Calls P f args w' λe w''=>∃ v,e=.returned v/\K v w''
 | _=>False
variable{ro:Option Nat}{nn:Nat}
def dV.plain{P:Program}{o:Oper}{a:Act}{w:World}{K:Value->World->Prop}(h:dV P o a w K)(c:Call):o.op≠.defer c:=by
 intro hc;unfold dV at h;obtain⟨dst,op,ty,pos,after,guard⟩:=o;simp only at hc;subst hc;have e:execOp a.eval ⟨dst,.defer c,ty,pos,after,guard⟩=(resolve a.eval c ty >>= λd=>pure (Next.defer d)):=rfl;rw[e,zha] at h;cases hr:(resolve a.eval c ty).run P w with
 | ok d w'=>rw[hr] at h;exact h
 | halt x w'=>rw[hr] at h;exact h
def yv{P:Program}{f:FuncId}{args:Array Value}{w:World}{R:Ending->World->Prop}{m:Nat}(h:Calls P f args w R):CallsIn (FW ro) m P f args w R:=by
 have h1:CallsIn Fence.wide m P f args w R:=callsIn_wide.2 h;cases ro with
 | none=>exact h1
 | some l=>exact CallsIn.inRound l h1
def bf{P:Program}{o:Oper}{a:Act}{w:World}{K:Value->World->Prop}{next:Act->World->Prop}{Q:Exit->Act->World->Prop}(h:dV P o a w K)(hk:∀ v w',K v w'->next (a.put o.dst v) w'):o.wpIn (FW ro) nn P a w next Q:=by
 refine⟨λ_ _=>trivial,?_⟩;rw[Oper.semAt_eq _ _ _ h.plain];unfold dV at h;generalize (execOp a.eval o).run P w=r at *;cases r with
 | ok n w'=>
  cases n<;>simp only at h<;>simp only[Oper.uponIn]
  case value v=>exact hk _ _ h
  case skip=>exact hk _ _ h
  case enter f args=>exact⟨λhd=>(by cases hd),yv (h.mono λe w'' ⟨v,he,hv⟩=>by subst he;exact hk _ _ hv)⟩
 | halt x w'=>simp only at h
def wN{P:Program}{f:FuncId}{fn:Func}{c:Code}{args:Array Value}{w:World}{R:Ending->World->Prop}(hf:P.funcs[f]?=some fn)(hb:fn.body=some c)
  (h:c.wpIn (FW none) 0 P (bodyPost P fn R) { tmps:=args++Array.replicate (fn.ntmps-args.size) undef,defers:=[] } w):Calls P f args w R:=
 calls_of_wp hf hb (wpIn_wide.1 h)
section
variable{P:Program}{Q:Exit->Act->World->Prop}{a:Act}{w:World}{F:Fence}{n:Nat}
theorem fU{md:Region.Mode}{ops:Array Oper}{Q':Exit->Act->World->Prop}:∀ (l:List Oper) (k:Nat) (listed:Array Bool) (a:Act) (w:World),(∀ j,l[j]?=ops[k+j]?) ->
  Region.seqB md ops l.length k listed=true->wpListIn F n P ops Q' l a w->wpAnyIn F n P md ops Q' l.length listed a w
 | [],_,_,_,_,_,hB,h=>⟨by simpa [Region.seqB] using hB,h⟩
 | o::l,k,listed,a,w,hl,hB,h=>by
  have h0:ops[k]?=some o:=by simpa using(hl 0).symm
  simp only[zDa,Region.seqB,zaa,decide_eq_true_eq] at hB;refine⟨λh1=>(by rw[hB.1] at h1;cases h1),λi hi=>?_⟩
  rw[hB.1] at hi;have hik:i=k:=by simpa using hi
  subst hik;have hw:wpOpIn F n P ops Q' i (wpListIn F n P ops Q' l) a w:=by unfold wpOpIn;simp only[h0];exact h
  exact wpOpIn_mono (λa' w' h'=>fU l (i+1) _ a' w' (λj=>by have:=hl (j+1);simpa [zBb,zGc 1 j] using this) hB.2 h') hw
def ft{b:Frame}{k:List Item}{cs:List Frame}{c:Code}:step P (lone (b.atR a (.code (.scope c)::k)) cs w)=.next (lone (b.atR a (.code c::.inScope c::k)) cs w):=
 step_lone_go (by simp[stepG,stepG.exec,Frame.atR])
def uQ{b:Frame}{k:List Item}{cs:List Frame}{c:Code}:step P (lone (b.atR a (.inScope c::k)) cs w)=.next (lone (b.atR a k) cs w):=
 step_lone_go (by simp[stepG,stepG.exec,Frame.atR])
def mU{c:Code}(h:c.wpIn F n P (Exit.noGoto Q) a w):(Code.scope c).wpIn F n P Q a w:=by
 intro b k cs hro hb hr;have h0:(lone (b.atR a (.code (.scope c)::k)) cs w).fenced P F:=fenced_calm hb hr rfl;obtain⟨e,a₁,w₁,hq,harr⟩:=h b (.inScope c::k) cs hro hb hr;cases e with
 | normal=>exact⟨.normal,a₁,w₁,hq,.head h0 ft (StepsIn.trans harr (.one (fenced_calm hb hr rfl) uQ))⟩
 | exit id'=>
  have hx:exitTo id' (.inScope c::k)=exitTo id' k:=by simp[exitTo]
  exact⟨.exit id',a₁,w₁,hq,λk' hk=>.head h0 ft (harr.1 k' (by rw[hx];exact hk)),
   λhr' hk=>let ⟨k₁,h1,h2⟩:=harr.2 hr' (by rw[hx];exact hk);⟨k₁,h1,.head h0 ft h2⟩⟩
 | goto l=>exact hq.elim
 | ret=>exact⟨_,a₁,w₁,hq,.of_steps (.one h0 ft) harr⟩
 | panic ch=>exact⟨_,a₁,w₁,hq,.of_steps (.one h0 ft) harr⟩
 | outgrown=>exact⟨_,a₁,w₁,hq,.of_steps (.one h0 ft) harr⟩
def wA{c:Code}(J:Nat->Act->World->Prop){m:Nat}(h₀:J m a w)
  (round:∀ m a w,J m a w->c.wpIn F n P (Exit.then (λa' w'=>∃ m',m'<m/\J m' a' w') Q) a w):(Code.loop c).wpIn F n P Q a w:=by
 intro b k cs hro hb hr;have key:∀ m a w,J m a w->∃ e a' w',Q e a' w'/\ArrivesIn (Machine.fenced P F) P (lone (b.atR a (.code c::.inLoop c::k)) cs w) b k cs e a' w':=by
  intro m
  induction m using Nat.strongRecOn with
  | _ m ih=>
   intro a w hI;obtain⟨e,a₁,w₁,hq,harr⟩:=round m a w hI b (.inLoop c::k) cs hro hb hr;cases e with
   | normal=>
    obtain⟨m',hlt,hI₁⟩:=hq;obtain⟨e₂,a₂,w₂,hq₂,harr₂⟩:=ih m' hlt a₁ w₁ hI₁;exact⟨e₂,a₂,w₂,hq₂,.of_steps (StepsIn.trans harr (.one (fenced_calm hb hr rfl) stepR_inLoop)) harr₂⟩
   | exit id=>exact⟨_,a₁,w₁,hq,.pass (x:=.inLoop c) rfl (λ_ _=>.inl (by simp)) harr⟩
   | goto l=>exact⟨_,a₁,w₁,hq,.pass (x:=.inLoop c) rfl (λ_ _=>.inl (by simp)) harr⟩
   | ret=>exact⟨_,a₁,w₁,hq,.pass (x:=.inLoop c) rfl (λ_ _=>.inl (by simp)) harr⟩
   | panic ch=>exact⟨_,a₁,w₁,hq,.pass (x:=.inLoop c) rfl (λ_ _=>.inl (by simp)) harr⟩
   | outgrown=>exact⟨_,a₁,w₁,hq,.pass (x:=.inLoop c) rfl (λ_ _=>.inl (by simp)) harr⟩
 obtain⟨e,a',w',hq,harr⟩:=key m a w h₀;exact⟨e,a',w',hq,.of_steps (.one (fenced_calm hb hr rfl) stepR_loop) harr⟩
end
theorem dV.value{P:Program}{o:Oper}{a:Act}{w w':World}{v:Value}{K:Value->World->Prop}(h:(execOp a.eval o).run P w=.ok (.value v) w')(hk:K v w'):dV P o a w K:=by
 simp_all [dV]
theorem dV.skip{P:Program}{o:Oper}{a:Act}{w w':World}{K:Value->World->Prop}(h:(execOp a.eval o).run P w=.ok .skip w')(hk:K undef w'):dV P o a w K:=by
 simp_all [dV]
theorem dV.enter{P:Program}{o:Oper}{a:Act}{w w':World}{f:FuncId}{args:Array Value}{K:Value->World->Prop}(h:(execOp a.eval o).run P w=.ok (.enter f args) w')(hk:Calls P f args w' λe w''=>∃ v,e=.returned v/\K v w''):dV P o a w K:=by
 simp_all [dV]
theorem dV.mono{P:Program}{o:Oper}{a:Act}{w:World}{K K':Value->World->Prop}(h:dV P o a w K)(hk:∀ v w',K v w'->K' v w'):dV P o a w K':=by
 unfold dV at *;generalize (execOp a.eval o).run P w=r at *;cases r with
 | ok n w'=>
  cases n<;>simp only at h ⊢
  case value v=>exact hk _ _ h
  case skip=>exact hk _ _ h
  case enter f args=>exact h.mono λe w'' ⟨v,he,hv⟩=>⟨v,he,hk _ _ hv⟩
 | halt x w'=>simp only at h
section
variable{w0:Root}{S:Nat->Nat->Prop}{γ:Nat->Option Nat}{β:Nat->Option (Nat×Nat)}{s:St}{a:Act}{w:World}
def aW(h:Rp w0 S γ β s a w):∀ x:Operand,AR ⟨w,S,γ,β,s.ob,s.dead⟩ (s.opA x) (a.eval x)
 | .tmp t=>by
  simp only[St.opA,Act.eval];by_cases ht:t<a.tmps.size
  ·exact h.tms t ht
  ·rw[h.tmu t (h.nt ▸ Nat.le_of_not_lt ht)];simp[AR]
 | .const v=>by
  simp only[St.opA,Act.eval];cases v<;>simp only[Fk]<;>first
   | exact ct _ _
   | exact gh _
   | exact dN rfl (by simp only[wt];exact⟨_,rfl⟩) (fZ.of_CR (.str _))
   | (simp only[AR];done)
   | skip
  case slice a len cap=>
   match a,len,cap with
   | none,0,0=>simp[AR,AC,Value.cells]
   | some _,_,_=>simp only[AR]
   | none,_+1,_=>simp only[AR]
   | none,0,_+1=>simp only[AR]
 | .global g=>by simp[St.opA,AR]
 | .func f=>by
  simp only[St.opA,AR,AC];exact⟨λ_ h=>(by cases h),[],rfl,by simp only[mV]⟩
theorem Rp.put(h:Rp w0 S γ β s a w){v:AV}{val:Value}(hv:AR ⟨w,S,γ,β,s.ob,s.dead⟩ v val)(dst:Option Nat):Rp w0 S γ β (s.put dst v) (a.put dst val) w:=by
 cases dst with
 | none=>simpa [St.put,Act.put] using h
 | some t=>
  simp only[St.put,Act.put];by_cases ht:t<s.nt
  ·rw[if_pos ht];refine⟨h.ext,λi hi=>?_,by simpa using h.nt,λi hi=>?_,h.obs,h.γn,h.γi,h.γf,h.βn,h.βi,h.βγ,h.βf,h.Sb,h.So⟩
   ·simp only[Array.size_setIfInBounds] at hi;by_cases hit:i=t
    ·subst hit;simp only[if_true];rw[show(a.tmps.setIfInBounds i val).getD i undef=val by simp[Array.getD,hi]]
     exact hv
    ·simp only[if_neg hit];have:=h.tms i hi
     rwa [show(a.tmps.setIfInBounds t val).getD i undef=a.tmps.getD i undef by simp[Array.getD,hi,Array.getElem_setIfInBounds_ne hi (Ne.symm hit)]]
   ·have hi':s.nt<=i:=hi;show(if i=t then v else s.tm i)=_
    rw[if_neg (by omega)];exact h.tmu i hi'
  ·rw[if_neg ht];have:a.tmps.setIfInBounds t val=a.tmps:=by
    apply Array.setIfInBounds_eq_of_size_le;rw[h.nt];omega
   rw[this];exact h
def xe{w':World}{S':Nat->Nat->Prop}{γ':Nat->Option Nat}{β':Nat->Option (Nat×Nat)}{ob:Nat->Option Ob}{dead:List Nat}
  (hc:∀ b o,S b o->w'.cell? ⟨b,o,none⟩=w.cell? ⟨b,o,none⟩) (hS:∀ b o,S b o->S' b o) (hγ:∀ id b,γ id=some b->γ' id=some b)
  (hβ:∀ v b e,v ∉ dead->β v=some (b,e)->β' v=some (b,e)/\∀ n,mP w b=some n->mP w' b=some n):Cx.le ⟨w,S,γ,β,ob,dead⟩ ⟨w',S',γ',β',ob,dead⟩:=
 ⟨hc,hS,hγ,λid o ho _=>⟨o,ho,λp=>⟨rfl,rfl⟩,λt l e=>⟨l,e,rfl⟩,λ_ _ l e=>⟨l,e⟩⟩,λv hv=>⟨hv,λb e he=>hβ v b e hv he⟩⟩
def du{os:List Obj}{d:Nat}{b o:Nat}(h:b<w.heap.size):(grown w os d).cell? ⟨b,o,none⟩=w.cell? ⟨b,o,none⟩:=by
 simp only[World.cell?,cC w os d h]
def vY{os:List Obj}{d:Nat}{b:Nat}(h:b<w.heap.size):mP (grown w os d) b=mP w b:=by
 simp only[mP,bJ,cC w os d h]
theorem il.mono{c c':Cx}(h:c.le c'){kt vt:Ty}:∀ {j:Nat} {l:List D} {es:List MapEntry},il c kt vt j l es->il c' kt vt j l es
 | _,[],[],_=>trivial
 | _,[],_::_,k=>k.elim
 | _,_::_,[],k=>k.elim
 | j,x::l,e::es,k=>by
  simp only[il] at k ⊢;obtain⟨⟨q1,kd,vd,q2,q3,q4,q5,q6⟩,k2⟩:=k;exact⟨⟨q1,kd,vd,q2,q3,q4,q5.mono h.cell h.S,q6.mono h.cell h.S⟩,il.mono h k2⟩
theorem il.same{c c':Cx}(hw:c'.w=c.w)(hS:c'.S=c.S){kt vt:Ty}:∀ {j:Nat} {l:List D} {es:List MapEntry},il c kt vt j l es->il c' kt vt j l es
 | _,[],[],_=>trivial
 | _,[],_::_,k=>k.elim
 | _,_::_,[],k=>k.elim
 | j,x::l,e::es,k=>by
  simp only[il] at k ⊢;rw[hw,hS];exact⟨k.1,il.same hw hS k.2⟩
theorem gH.mono{c c':Cx}(h:c.le c'){b:Nat}{o:Ob}(hr:c'.w.heap[b]?=c.w.heap[b]?)(hS:∀ o,c'.S b o->c.S b o)(k:gH c b o):gH c' b o:=by
 have hr':bJ c'.w b=bJ c.w b:=by simp only[bJ,hr]
 cases o<;>simp only[gH] at k ⊢
 case one t v=>
  obtain⟨k1,k2,k3,cs,k4,k5,k6⟩:=k;exact⟨k1,k2,λo ho=>k3 o (hS o ho),cs,by rw[hr'];exact k4,AC.mono h _ _ k5,k6⟩
 case many t l=>
  obtain⟨k1,k2,k3,cs,k4,k5⟩:=k;exact⟨k1,k2,λo ho=>k3 o (hS o ho),cs,by rw[hr'];exact k4,k5.mono h.cell h.S⟩
 case mp kt vt l=>
  obtain⟨k1,k2,k3,es,k4,k5⟩:=k;exact⟨k1,k2,λo ho=>k3 o (hS o ho),es,by rw[hr];exact k4,k5.mono h⟩
 case lp i p=>
  obtain⟨r,k4,k5,k6,k7⟩:=k;exact⟨r,by rw[hr];exact k4,k5,λt ht=>(k6 t ht).mono h.cell h.S h.γ,k7⟩
def Rp.grow(h:Rp w0 S γ β s a w){os:List Obj}{d:Nat}(hd:w.drawn<=d){S':Nat->Nat->Prop}(hS:∀ b o,S b o->S' b o)(hS':∀ b o,S' b o->S b o\/(w.heap.size<=b/\b<(grown w os d).heap.size)) :
  Rp w0 S' γ β s a (grown w os d)/\Cx.le ⟨w,S,γ,β,s.ob,s.dead⟩ ⟨grown w os d,S',γ,β,s.ob,s.dead⟩:=by
 have hsz:w.heap.size<=(grown w os d).heap.size:=by simp
 have hle:Cx.le ⟨w,S,γ,β,s.ob,s.dead⟩ ⟨grown w os d,S',γ,β,s.ob,s.dead⟩:=
  xe (λb o hb=>du (h.Sb b o hb)) hS (λ_ _ k=>k) (λv b e hv he=>⟨he,λn hn=>by rw[vY (h.βn v b e hv he).2.1];exact hn⟩)
 refine⟨⟨?_,λt ht=>(h.tms t ht).mono hle,h.nt,h.tmu,λid o b ho hb=>?_,λid b hb=>⟨(h.γn id b hb).1,by have:=(h.γn id b hb).2;omega⟩,h.γi,h.γf,λv b e hv he=>?_,h.βi,h.βγ,h.βf,λb o hb=>?_,λb o hb hlt=>?_⟩,hle⟩
 ·exact⟨h.ext.tape,h.ext.os,h.ext.output,zCa h.ext.sz hsz,zCa h.ext.dr hd,λb hb=>(cC w os d (zPa hb.1 h.ext.sz)).trans (h.ext.old b hb)⟩
 ·have hb':=(h.γn id b hb).2;refine(h.obs id o b ho hb).mono hle (cC w os d hb') λi hi=>?_;all_goals grind
 ·obtain⟨k1,k2,k3⟩:=h.βn v b e hv he;all_goals grind
 ·rcases hS' b o hb with k|k
  ·have:=h.Sb b o k;omega
  ·exact k.2
 ·rcases hS' b o hb with k|k
  ·exact h.So b o k hlt
  ·exfalso;have:=h.ext.sz;have h2:=hlt.1;omega
def pj{α:Type}(f:Nat->Option α)(i:Nat)(x:α):Nat->Option α:=λj=>if j=i then some x else f j
def bG{α:Type}(f:Nat->Option α)(i:Nat)(x:α):pj f i x i=some x:=by simp[pj]
def bW{α:Type}(f:Nat->Option α){i j:Nat}(x:α)(h:j≠i):pj f i x j=f j:=by simp[pj,h]
def eV{α:Type}{f:Nat->Option α}{i:Nat}{x:α}(h:f i=none){j:Nat}{y:α}(hj:f j=some y):pj f i x j=some y:=by
 by_cases e:j=i
 ·simp_all
 ·rw[bW f x e,hj]
def Rp.newOb(h:Rp w0 S γ β s a w){id b:Nat}(hid:γ id=none)(hb1:¬ w0.Old b)(hb2:b<w.heap.size)(hγ:∀ id,γ id≠some b)(hβ:∀ v e,v ∉ s.dead->β v≠some (b,e))(hi:id<s.base+4096)
  (hob:∀ o,s.ob id=some o->gH ⟨w,S,pj γ id b,β,s.ob,s.dead⟩ b o):Rp w0 S (pj γ id b) β s a w/\Cx.le ⟨w,S,γ,β,s.ob,s.dead⟩ ⟨w,S,pj γ id b,β,s.ob,s.dead⟩:=by
 have hle:Cx.le ⟨w,S,γ,β,s.ob,s.dead⟩ ⟨w,S,pj γ id b,β,s.ob,s.dead⟩:=
  xe (λ_ _ _=>rfl) (λ_ _ k=>k) (λ_ _ k=>eV hid k) (λv b e hv he=>⟨he,λn hn=>hn⟩)
 refine⟨⟨h.ext,λt ht=>(h.tms t ht).mono hle,h.nt,h.tmu,λi o c ho hc=>?_,λi c hc=>?_,λi j c hc hc'=>?_,λi hi'=>?_,h.βn,h.βi,λv i c e hv he hc=>?_,h.βf,h.Sb,h.So⟩,hle⟩
 ·by_cases e:i=id
  ·simp_all [bG]
  ·rw[bW γ b e] at hc;exact(h.obs i o c ho hc).mono hle rfl λ_ k=>k
 ·by_cases e:i=id
  ·simp_all [bG]
  ·rw[bW γ b e] at hc;exact h.γn i c hc
 ·by_cases e:i=id
  ·by_cases e':j=id
   ·rw[e,e']
   ·subst e;rw[bG] at hc;cases hc;rw[bW γ b e'] at hc';exact absurd hc' (hγ j)
  ·by_cases e':j=id
   ·subst e';rw[bG] at hc';cases hc';rw[bW γ b e] at hc;exact absurd hc (hγ i)
   ·rw[bW γ b e] at hc;rw[bW γ b e'] at hc';exact h.γi i j c hc hc'
 ·rw[bW γ b (by omega)];exact h.γf i hi'
 ·by_cases e':i=id
  ·simp_all [bG]
  ·rw[bW γ b e'] at hc;exact h.βγ v i c e hv he hc
def Rp.newTok(h:Rp w0 S γ β s a w){v b e:Nat}(hv:β v=none)(hb1:¬ w0.Old b)(hb2:b<w.heap.size)(hγ:∀ id,γ id≠some b)(hβ:∀ v e,v ∉ s.dead->β v≠some (b,e))(hi:v<s.base+4096)(hS:∀ o,e<=o->¬ S b o) :
  Rp w0 S γ (pj β v (b,e)) s a w/\Cx.le ⟨w,S,γ,β,s.ob,s.dead⟩ ⟨w,S,γ,pj β v (b,e),s.ob,s.dead⟩:=by
 have hle:Cx.le ⟨w,S,γ,β,s.ob,s.dead⟩ ⟨w,S,γ,pj β v (b,e),s.ob,s.dead⟩:=
  xe (λ_ _ _=>rfl) (λ_ _ k=>k) (λ_ _ k=>k) (λv b e hv' he=>⟨eV hv he,λn hn=>hn⟩)
 refine⟨⟨h.ext,λt ht=>(h.tms t ht).mono hle,h.nt,h.tmu,λi o c ho hc=>(h.obs i o c ho hc).mono hle rfl λ_ k=>k,h.γn,h.γi,h.γf,λu c f hu hc=>?_,λu u' c f f' hu hu' hc hc'=>?_,λu i c f hu hc hi=>?_,λu hu=>?_,h.Sb,h.So⟩,hle⟩
 ·by_cases e':u=v
  ·simp_all [bG]
  ·rw[bW β _ e'] at hc;exact h.βn u c f hu hc
 ·by_cases e1:u=v
  ·by_cases e2:u'=v
   ·rw[e1,e2]
   ·simp_all [bG,bW,e2]
  ·by_cases e2:u'=v
   ·simp_all [bG,bW,e1]
   ·rw[bW β _ e1] at hc;rw[bW β _ e2] at hc';exact h.βi u u' c f f' hu hu' hc hc'
 ·by_cases e':u=v
  ·simp_all [bG]
  ·rw[bW β _ e'] at hc;exact h.βγ u i c f hu hc hi
 ·rw[bW β _ (by omega)];exact h.βf u hu
end
def Qp(w0:Root)(S:Nat->Nat->Prop)(γ:Nat->Option Nat)(β:Nat->Option (Nat×Nat))(s:St)(a:Act)(w:World)(dst:Option Nat)(v:AV)(val:Value)(w':World):Prop:=
 ∃ S' γ' β',Rp w0 S' γ' β' s a w'/\AR ⟨w',S',γ',β',s.ob,s.dead⟩ v val/\(∀ b o,S b o->S' b o)/\(∃ os d,w'=grown w os d) ∧
  (∀ id b,γ id=some b->γ' id=some b)/\(∀ id,dst≠some (id-s.base)\/id<s.base->γ' id=γ id/\β' id=β id)
section
variable{w0:Root}{S:Nat->Nat->Prop}{γ:Nat->Option Nat}{β:Nat->Option (Nat×Nat)}{s:St}{a:Act}{w:World}
def Qp.same(h:Rp w0 S γ β s a w){v:AV}{val:Value}(hv:AR ⟨w,S,γ,β,s.ob,s.dead⟩ v val)(dst:Option Nat):Qp w0 S γ β s a w dst v val w:=
 ⟨S,γ,β,h,hv,λ_ _ k=>k,⟨[],_,(Dw w).symm⟩,λ_ _ k=>k,λ_ _=>⟨rfl,rfl⟩⟩
end
end Sy
end
noncomputable section
namespace Sy
open Go
def Fr(E:Env)(s:St)(γ:Nat->Option Nat)(β:Nat->Option (Nat×Nat))(o:Oper):Prop:=
 wQ o=true->∀ d:Nat,o.dst=some d->d<4096/\γ (s.base+d)=none/\β (s.base+d)=none/\∀ T t,o.op=.alloc T->E.L T=some t->s.ob (s.base+d)=some (.one t (gf t))
def BN{E:Env}{s:St}{γ:Nat->Option Nat}{β:Nat->Option (Nat×Nat)}{o:Oper}(h:wQ o=false):Fr E s γ β o:=λhc=>by rw[h] at hc;cases hc
def dO{x:AV}{p:Ty×D}(h:isD x=some p):x=.d p.1 p.2:=by
 cases x<;>simp[isD] at h;grind
theorem wv{x:D}{b:Bool}(h:x.truth=some b):x=.bool b:=by
 cases x<;>simp[D.truth] at h
 simp_all
def nM{c:Cx}{x:AV}{b:Bool}{v:Value}(h:x.truth=some b)(k:AR c x v):v=.bool b/\∃ t,x=.d t (.bool b):=by
 cases x<;>simp only[AV.truth] at h<;>first|cases h|skip
 split at h<;>first|(cases h;done)|skip
 have:=wv h;subst this;exact⟨BK k,_,rfl⟩
def oD{x:D}{n k:Nat}(h:x.idx n=some k):∃ kk,x=.int kk k/\k<n:=by
 cases x<;>simp only[D.idx] at h<;>first|cases h|skip
 rename_i kk i;split at h
 ·rename_i hh;simp only[zda] at h;refine⟨kk,?_,by omega⟩
  grind
 ·cases h
def vO{x:D}{k:Nat}(h:x.natOf=some k):∃ kk,x=.int kk k:=by
 cases x<;>simp only[D.natOf] at h<;>first|cases h|skip
 rename_i kk i;split at h
 ·simp only[zda] at h;refine⟨kk,?_⟩;grind
 ·cases h
def EY{x:D}{l:List D}(h:x.asSl=some l):x=.sl l:=by
 cases x<;>simp[D.asSl] at h
 simp_all
section
variable{P:Program}{E:Env}{w0:Root}{S:Nat->Nat->Prop}{γ:Nat->Option Nat}{β:Nat->Option (Nat×Nat)}{s:St}{a:Act}{w:World}
def iW(P:Program)(E:Env)(w0:Root)(S:Nat->Nat->Prop)(γ:Nat->Option Nat)(β:Nat->Option (Nat×Nat))(s:St)(a:Act)(w:World)(o:Oper):Prop:=
 ∀ (R:Type) (K:AV->Option R) (r:R),qv E s o K=some r->∃ v,K v=some r/\dV P o a w (Qp w0 S γ β s a w o.dst v)
def kJ(a:Addr):(Instr.sureAddr (.pointer (some a))).run P w=.ok a w:=rfl
def Kh(h:Rp w0 S γ β s a w){dst x ty pos after guard}:iW P E w0 S γ β s a w ⟨dst,.move x,ty,pos,after,guard⟩:=by
 intro R K r hq;exact⟨_,hq,.value (v:=a.eval x) (w':=w) (by simp[execOp]) (Qp.same h (aW h x) _)⟩
def D5(h:Rp w0 S γ β s a w){dst x ty pos after guard}:iW P E w0 S γ β s a w ⟨dst,.assign x,ty,pos,after,guard⟩:=by
 intro R K r hq;exact⟨_,hq,.value (v:=a.eval x) (w':=w) (by simp[execOp]) (Qp.same h (aW h x) _)⟩
def Ki(h:Rp w0 S γ β s a w){dst c x y ty pos after guard}:iW P E w0 S γ β s a w ⟨dst,.pick c x y,ty,pos,after,guard⟩:=by
 intro R K r hq;simp only[qv] at hq;obtain⟨b,h1,h2⟩:=bind_some_inv hq;obtain⟨h3,_⟩:=nM h1 (aW h c);cases b
 ·exact⟨_,by simpa using h2,.value (v:=a.eval y) (w':=w) (by simp[execOp,h3,asBool]) (Qp.same h (aW h y) _)⟩
 ·exact⟨_,by simpa using h2,.value (v:=a.eval x) (w':=w) (by simp[execOp,h3,asBool]) (Qp.same h (aW h x) _)⟩
def zH(h:Rp w0 S γ β s a w){dst x ty pos after guard}:iW P E w0 S γ β s a w ⟨dst,.nilCheck x,ty,pos,after,guard⟩:=by
 intro R K r hq;simp only[qv] at hq;have hx:=aW h x;generalize s.opA x=y at *;cases y<;>(try simp only at hq)<;>first|cases hq|skip
 rename_i t id p;refine⟨_,hq,?_⟩;have hx':=hx;simp only[AR,AC] at hx;obtain⟨h1,b,off,h2,h3⟩:=hx;have hv:=ay h1 h2;exact .value (v:=a.eval x) (w':=w) (by simp[execOp,hv]) (Qp.same h hx' _)
mutual
theorem uu:∀ (t:Ty),aq t=true->AV.fits t (gf t)=true
 | .int k,_=>bH _ _
 | .bool,_=>bH _ _
 | .str,_=>bH _ _
 | .st ts,hn=>by
  simp only[gf];split
  ·simp only[AV.fits,zaa];exact⟨by have:=Ty.beq_refl' (.st ts);simpa [Ty.beq] using this,js ts (by simpa [aq] using hn)⟩
  ·exact bH _ _
 | .arr n t,_=>bH _ _
 | .sl t,_=>rfl
 | .tup _,h=>by simp[aq] at h
 | .fn,h=>by simp[aq] at h
theorem js:∀ (ts:List Ty),bi ts=true->AV.fitss ts (jC ts)=true
 | [],_=>rfl
 | t::ts,h=>by
  simp only[bi,zaa] at h;simp only[jC,AV.fitss,zaa];exact⟨uu t h.1,js ts h.2⟩
end
mutual
theorem cF:∀ (t:Ty),aq t=true->wt t (aB t)
 | .int k,_=>by simp_all [wt,aB]
 | .bool,_=>by simp_all [wt,aB]
 | .str,_=>by simp_all [wt,aB]
 | .st ts,hn=>by simp only[wt,aB];exact⟨_,rfl,nP ts (by simpa [aq] using hn)⟩
 | .arr n t,hn=>by
  simp only[wt,aB];refine⟨_,rfl,by simp,λx hx=>?_⟩
  rw[(zid.1 hx).2];exact cF t (by simpa [aq] using hn)
 | .sl t,_=>by simp only[wt,aB];exact⟨[],rfl,λx hx=>by simp at hx⟩
 | .tup _,h=>by simp[aq] at h
 | .fn,h=>by simp[aq] at h
theorem nP:∀ (ts:List Ty),bi ts=true->ff ts (fV ts)
 | [],_=>by simp[ff,fV]
 | t::ts,h=>by
  simp only[bi,zaa] at h;simp only[fV,ff];exact⟨_,_,rfl,cF t h.1,nP ts h.2⟩
end
def JM{w:World}{S:Nat->Nat->Prop}{d:D}{v:Value}(h:Dr d v=true):CR w S d v:=by
 cases d<;>cases v<;>simp only[Dr] at h<;>first|cases h|skip
 case int.int k n k' n'=>simp at h;rw[h.1,h.2];exact .int _ _
 case bool.bool b b'=>simp at h;rw[h];exact .bool _
 case str.string x y=>
  have:x=y:=by simpa using h
  rw[this];exact .str _
 case sl.slice l a len cap=>
  simp only[zaa,List.isEmpty_iff,Option.isNone_iff_eq_none,decide_eq_true_eq] at h;obtain⟨⟨⟨rfl,rfl⟩,rfl⟩,rfl⟩:=h;exact .sl [] none 0 0 0 (λ_=>undef) (.inl rfl) (zja 0) (λi d hd=>by simp[D.flats] at hd) (λi d hd=>by simp[D.flats] at hd)
theorem cl{w:World}{S:Nat->Nat->Prop}:∀ {ds:List D} {cs:List Value},cr ds cs=true->cG w S ds cs
 | [],[],_=>cG.nil
 | [],_::_,h=>by simp[cr] at h
 | _::_,[],h=>by simp[cr] at h
 | d::ds,v::cs,h=>by
  simp only[cr,zaa] at h;exact cG.append (cG.single.2 (JM h.1)) (cl h.2)
theorem rD:∀ {a b:List D} {cs:List Value},cr (a++b) cs=true->cr a (cs.take a.length)=true/\cr b (cs.drop a.length)=true
 | [],b,cs,h=>by simpa [cr] using h
 | d::a,b,[],h=>by simp[cr] at h
 | d::a,b,v::cs,h=>by
  simp only[zdb,cr,zaa] at h;obtain⟨h1,h2⟩:=rD h.2
  simp_all [zDa,zXb,zVc,cr,zaa]
mutual
theorem Aj{c:Cx}:∀ (t:Ty) (cs:List Value),aq t=true->cr (aB t).flat cs=true->AC c (gf t) cs
 | .int k,cs,hn,h=>by simp only[gf,AC];exact⟨cF _ hn,hn,cl h⟩
 | .bool,cs,hn,h=>by simp only[gf,AC];exact⟨cF _ hn,hn,cl h⟩
 | .str,cs,hn,h=>by simp only[gf,AC];exact⟨cF _ hn,hn,cl h⟩
 | .st ts,cs,hn,h=>by
  simp only[gf];split
  ·simp only[aq] at hn;simp only[AC];exact⟨hn,js ts hn,kR ts cs hn (by simpa [aB,D.flat] using h)⟩
  ·simp only[AC];exact⟨cF _ hn,hn,cl h⟩
 | .arr n t,cs,hn,h=>by simp only[gf,AC];exact⟨cF _ hn,hn,cl h⟩
 | .sl t,cs,hn,h=>by
  simp only[gf,AC];simp only[aB,D.flat] at h
  match cs,h with
  | [],h=>simp[cr] at h
  | [v],h=>
   simp only[cr,zaa] at h;have h1:=h.1;cases v<;>simp only[Dr] at h1<;>first|cases h1|skip
   simp_all
  | v::u::cs,h=>simp[cr] at h
 | .tup _,_,h,_=>by simp[aq] at h
 | .fn,_,h,_=>by simp[aq] at h
theorem kR{c:Cx}:∀ (ts:List Ty) (cs:List Value),bi ts=true->cr (D.flats (fV ts)) cs=true->kh c (jC ts) cs
 | [],cs,_,h=>by
  grind [fV,D.flats,jC,kh,cr]
 | t::ts,cs,hn,h=>by
  simp only[bi,zaa] at hn;simp only[fV,D.flats] at h;obtain⟨h1,h2⟩:=rD h;simp only[jC,kh];exact⟨_,_,(zsa _ _).symm,Aj t _ hn.1 h1,kR ts _ hn.2 h2⟩
end
end
end Sy
end
noncomputable section
namespace Sy
open Go
def qf{R:Type}{c:Cx}{b:Nat}{o:Ob}{p:List Nat}{t:Ty}{K:AV->Option R}{r:R}(ho:gH c b o)(ht:fj o p=some t)(h:iJ o p K=some r) :
  ∃ a' cs,K a'=some r/\AC c a' cs/\AV.fits t a'=true/\aq t=true/\∀ (i:Nat) (v:Value),cs[i]?=some v->c.w.cell? ⟨b,cq o p+i,none⟩=some v:=by
 cases o
 case mp=>simp[fj] at ht
 case lp=>simp[fj] at ht
 case one T v=>
  simp only[gH] at ho;obtain⟨h1,h2,_,cs,h4,h5,h6⟩:=ho;simp only[fj] at ht;simp only[iJ] at h;obtain⟨a',pre,mid,post,k1,rfl,k2,k3,k4⟩:=Cl p h2 h1 ht h5 h;refine⟨a',mid,k1,k3,k4,dC p h1 ht,λi v hv=>?_⟩;rw[dp _ h4];simp only[cq,<-k2];grind
 case many T l=>
  simp only[gH] at ho;obtain⟨h1,h2,_,cs,h4,h5⟩:=ho;cases p with
  | nil=>simp[fj] at ht
  | cons i p=>
   simp only[fj] at ht;simp only[iJ] at h;obtain⟨x,k1,k2⟩:=bind_some_inv h;rw[bZ k1] at h5;obtain⟨h6,h7⟩:=h5.split;obtain⟨h8,h9⟩:=h7.split;have hx:=h2 x (z8a k1);obtain⟨a',pre,mid,post,m1,m2,m3,m4,m5⟩:=Cl (c:=c) (cs:=(cs.drop (D.flats (l.take i)).length).take x.flat.length) p (bH T x) h1 ht (by simp only[AC];exact⟨hx,h1,h8⟩) k2
   refine⟨a',mid,m1,m4,m5,dC p h1 ht,λj v hv=>?_⟩;rw[dp _ h4];have hlen:(D.flats (l.take i)).length=i*T.size:=by
    rw[aK h1 _ (λx hx=>h2 x (zSa hx))];have:=(zna.1 k1).1;simp[zqb (zsc this)]
   simp only[cq,<-m3,zHc];have hj:=(zna.1 hv).1;have h10:((cs.drop (D.flats (l.take i)).length).take x.flat.length)[pre.length+j]?=some v:=by
    rw[m2,zzb (by omega),zAb,zfb hj];exact hv
   have h11:=(zna.1 h10).1;rw[zbb] at h11;rw[zyb (by omega),zgb,hlen] at h10
   rw[show i*T.size+pre.length+j=i*T.size+(pre.length+j) by omega]
   exact h10
section
variable{P:Program}{E:Env}{w0:Root}{S:Nat->Nat->Prop}{γ:Nat->Option Nat}{β:Nat->Option (Nat×Nat)}{s:St}{a:Act}{w:World}
def jn(hE:EnvOk P E){T:TypeId}{t:Ty}(h:E.L T=some t)(hn:aq t=true):bD P t T=true:=by
 rcases hE.lay T t h with⟨ts,rfl⟩|h
 ·simp[aq] at hn
 ·exact h
def pm{c:Cx}{t:Ty}{id:Nat}{p:List Nat}{v:Value}(h:AR c (.ptr t id p) v):∃ b off,v=.pointer (some ⟨b,off,none⟩)/\c.γ id=some b/\∀ o,c.ob id=some o->fj o p=some t/\off=cq o p:=by
 simp only[AR,AC] at h;obtain⟨h1,b,off,h2,h3⟩:=h;exact⟨b,off,ay h1 h2,h3⟩
def g9{c:Cx}{t:Ty}{id:Nat}{p:List Nat}{b off:Nat}(h:c.γ id=some b)(h2:∀ o,c.ob id=some o->fj o p=some t/\off=cq o p):AR c (.ptr t id p) (.pointer (some ⟨b,off,none⟩)):=by
 simp only[AR,AC];exact⟨by simp,b,off,rfl,h,h2⟩
def wD{c:Cx}{t:Ty}{x:D}{v:Value}(h:AR c (.fptr t x) v):wt t x/\aq t=true/\∃ b off,v=.pointer (some ⟨b,off,none⟩)/\pn c.w c.S b off x.flat:=by
 simp only[AR,AC] at h;obtain⟨h1,h2,h0,b,off,h3,h4⟩:=h;exact⟨h2,h0,b,off,ay h1 h3,h4⟩
def nh{c:Cx}{t:Ty}{x:D}{b off:Nat}(h:wt t x)(hn:aq t=true)(h2:pn c.w c.S b off x.flat):AR c (.fptr t x) (.pointer (some ⟨b,off,none⟩)):=by
 simp only[AR,AC];exact⟨by simp,h,hn,b,off,rfl,h2⟩
def Kg(hE:EnvOk P E)(h:Rp w0 S γ β s a w){dst T x ty pos after guard}:iW P E w0 S γ β s a w ⟨dst,.load T x,ty,pos,after,guard⟩:=by
 intro R K r hq;simp only[qv] at hq;replace hq:=bind_some_inv hq;obtain⟨t,ht,hq⟩:=hq;have hx:=aW h x;generalize s.opA x=y at *;cases y<;>(try simp only at hq)<;>first|cases hq|skip
 case ptr t' id p=>
  split at hq<;>first|cases hq|skip
  rename_i hb;have:=Ty.eq_of_beq _ _ hb;subst this;replace hq:=bind_some_inv hq;obtain⟨o,ho,hq⟩:=hq;obtain⟨b,off,hv,hγ,hob⟩:=pm hx;obtain⟨k1,rfl⟩:=hob o ho;obtain⟨a',cs,m1,m2,m3,m4,m5⟩:=qf (h.obs id o b ho hγ) k1 hq;obtain⟨m6,m7⟩:=gR _ _ _ m3 m2;obtain⟨v,hrun,hval⟩:=jq (jn hE ht m4) (w:=w) (b:=b) (off:=cq o p) m6 m7 m5;exact⟨a',m1,.value (v:=v) (w':=w) (by simp[execOp,hv,hrun]) (Qp.same h (uS m3 m2 hval) _)⟩
 case fptr t' z=>
  split at hq<;>first|cases hq|skip
  rename_i hb;have:=Ty.eq_of_beq _ _ hb;subst this;obtain⟨k1,k0,b,off,hv,cs,k2,k3⟩:=wD hx;obtain⟨v,hrun,hval⟩:=jq (jn hE ht k0) (w:=w) (b:=b) (off:=off) (cs:=cs) (by rw[<-k2.1];exact ci _ _ k1 k0) k2.nag (λi c hc=>(k3 i c hc).2)
  exact⟨_,hq,.value (v:=v) (w':=w) (by simp[execOp,hv,hrun]) (Qp.same h (uS (bH _ _) (by simp only[AC];exact⟨k1,k0,k2⟩) hval) _)⟩
 case sub sl e id p lo n=>
  split at hq<;>first|cases hq|skip
  rename_i hb;simp only[zaa,zMa] at hb;obtain⟨hsl,hb⟩:=hb;subst hsl;have:=Ty.eq_of_beq _ _ hb;subst this;replace hq:=bind_some_inv hq;obtain⟨o,ho,hq⟩:=hq;simp only[AR,AC] at hx;obtain⟨hna,hne,b,off,cap,hcs,hγ,hob⟩:=hx;simp only[zBa,if_false] at hcs;have hv:=ay hna hcs;obtain⟨m,k1,k2,rfl⟩:=hob o ho;obtain⟨a',cs,m1,m2,m3,m4,m5⟩:=qf (h.obs id o b ho hγ) k1 hq;split at m1<;>first|(cases m1;done)|skip
  rename_i m' e' l;split at m1<;>first|(cases m1;done)|skip
  rename_i hb2;simp only[zaa,decide_eq_true_eq] at hb2;have he:=Ty.eq_of_beq _ _ hb2.1;subst he;have hm:=pK m3;simp only[Ty.arr.injEq] at hm;simp only[AC] at m2;obtain⟨q1,q2,q3⟩:=m2;simp only[wt] at q1;obtain⟨l0,e0,q4,q5⟩:=q1;cases e0;have hl1:l=l.take lo++((l.drop lo).take n++(l.drop lo).drop n):=by rw[zsa,zsa]
  have hfl:D.flats l=D.flats (l.take lo)++(D.flats ((l.drop lo).take n)++D.flats ((l.drop lo).drop n)):=by
   conv=>lhs;rw[hl1]
   rw[bR,bR]
  simp only[D.flat] at q3;rw[hfl] at q3;obtain⟨_,r2⟩:=q3.split;obtain⟨r3,_⟩:=r2.split;have len1:(D.flats (l.take lo)).length=lo*e'.size:=by
   rw[aK hne _ (λx hx=>q5 x (zSa hx)),zbb,zqb (by omega)]
  have len2:(D.flats ((l.drop lo).take n)).length=n*e'.size:=by
   rw[aK hne _ (λx hx=>q5 x (zLb (zSa hx))),zbb,List.length_drop,zqb (by omega)]
  have hwt:wt (.arr n e') (.st ((l.drop lo).take n)):=by
   simp only[wt];exact⟨_,rfl,by rw[zbb,List.length_drop,zqb (by omega)],λx hx=>q5 x (zLb (zSa hx))⟩
  have hnt:aq (.arr n e')=true:=by simp only[aq];exact hne
  obtain⟨v,hrun,hval⟩:=jq (jn hE ht hnt) (w:=w) (b:=b) (off:=cq o p+lo*e'.size) (cs:=(cs.drop (D.flats (l.take lo)).length).take (D.flats ((l.drop lo).take n)).length) (by rw[<-r3.1,len2];rfl) r3.nag (λi c hc=>by
   have hi:i<(D.flats ((l.drop lo).take n)).length:=by
    have:=(zna.1 hc).1;rw[zbb] at this;omega
   rw[zyb hi,zgb] at hc;have:=m5 _ c hc;rw[len1,<-zBb] at this;exact this)
  exact⟨_,m1,.value (v:=v) (w':=w) (by simp[execOp,hv,hrun]) (Qp.same h (uS (bH _ _) (by simp only[AC];exact⟨hwt,hnt,by simp only[D.flat];exact r3⟩) hval) _)⟩
def rj{T:TypeId}{ts:List Ty}{f:Nat}{u:Ty}(hl:bD P (.st ts) T=true)(hf:ts[f]?=some u)(b off:Nat)(w:World) :
  (Instr.fieldAt T (.pointer (some ⟨b,off,none⟩)) f).run P w=.ok (.pointer (some ⟨b,off+Ty.sizes (ts.take f),none⟩)) w:=by
 obtain⟨fs,h1,h2⟩:=iD hl;obtain⟨g,h3,h4,h5,h6⟩:=rQ h2 hf;have h3':fs[f]?=some g:=by simpa using h3
 have hne:u.size≠0:=by omega
 simp only[Instr.fieldAt,zha,run_underlying h1,zea,h3',kJ,fieldPlace,bS h6,hne,if_false,zpa,h4,cO,z9a]
theorem jp:∀ (p:List Nat) {t u v:Ty} {i:Nat},aQ t p=some u->aQ u [i]=some v->aQ t (p++[i])=some v
 | [],t,u,v,i,h,k=>by
  simp_all [aQ]
 | j::p,.st ts,u,v,i,h,k=>by
  simp only[aQ,zdb] at h ⊢;obtain⟨z,h1,h2⟩:=bind_some_inv h;rw[h1];exact jp p h2 k
 | j::p,.arr n t,u,v,i,h,k=>by
  simp only[aQ,zdb] at h ⊢;exact jp p h k
 | j::p,.int _,u,v,i,h,k=>by simp[aQ] at h
 | j::p,.bool,u,v,i,h,k=>by simp[aQ] at h
 | j::p,.str,u,v,i,h,k=>by simp[aQ] at h
 | j::p,.sl _,u,v,i,h,k=>by simp[aQ] at h
 | j::p,.tup _,u,v,i,h,k=>by simp[aQ] at h
 | j::p,.fn,u,v,i,h,k=>by simp[aQ] at h
theorem gX:∀ (p:List Nat) {t u:Ty} {i:Nat},aQ t p=some u->aX t (p++[i])=aX t p+aX u [i]
 | [],t,u,i,h=>by
  simp_all [aQ,aX]
 | j::p,.st ts,u,i,h=>by
  simp only[aQ,zdb] at h ⊢;obtain⟨z,h1,h2⟩:=bind_some_inv h;simp only[aX];rw[show ts.getD j .bool=z by simp[List.getD,h1],gX p h2,zBb]
 | j::p,.arr n t,u,i,h=>by
  simp only[aQ,zdb] at h ⊢;simp only[aX];rw[gX p h,zBb]
 | j::p,.int _,u,i,h=>by simp[aQ] at h
 | j::p,.bool,u,i,h=>by simp[aQ] at h
 | j::p,.str,u,i,h=>by simp[aQ] at h
 | j::p,.sl _,u,i,h=>by simp[aQ] at h
 | j::p,.tup _,u,i,h=>by simp[aQ] at h
 | j::p,.fn,u,i,h=>by simp[aQ] at h
def vT{o:Ob}{p:List Nat}{t u:Ty}{i:Nat}(h:fj o p=some t)(k:aQ t [i]=some u):fj o (p++[i])=some u/\cq o (p++[i])=cq o p+aX t [i]:=by
 cases o with
 | one T v=>simp only[fj,cq] at h ⊢;exact⟨jp p h k,gX p h⟩
 | many T l=>
  cases p with
  | nil=>simp[fj] at h
  | cons j p=>simp only[fj,cq,zdb] at h ⊢;exact⟨jp p h k,by rw[gX p h,zBb]⟩
 | mp kt vt l=>simp[fj] at h
 | lp i q=>simp[fj] at h
def xz(hE:EnvOk P E)(h:Rp w0 S γ β s a w){dst T x f ty pos after guard}:iW P E w0 S γ β s a w ⟨dst,.fieldAddr T x f,ty,pos,after,guard⟩:=by
 intro R K r hq;simp only[qv] at hq;replace hq:=bind_some_inv hq;obtain⟨t,ht,hq⟩:=hq;have hx:=aW h x;generalize s.opA x=y at *;cases t<;>(try simp only at hq)<;>first|cases hq|skip
 rename_i ts;cases y<;>(try simp only at hq)<;>first|cases hq|skip
 case ptr t' id p=>
  split at hq<;>first|cases hq|skip
  rename_i hb;have:=Ty.eq_of_beq _ _ hb;subst this;replace hq:=bind_some_inv hq;obtain⟨u,hu,hq⟩:=hq;obtain⟨b,off,hv,hγ,hob⟩:=pm hx;rcases hE.lay T _ ht with⟨ts',iV⟩|hl
  ·cases iV
  refine⟨_,hq,.value (v:=.pointer (some ⟨b,off+Ty.sizes (ts.take f),none⟩)) (w':=w) (by simp only[execOp,hv,zha,rj hl hu,zea,zpa]) (Qp.same h (g9 hγ λo ho=>?_) _)⟩
  obtain⟨k1,rfl⟩:=hob o ho;have:=vT (i:=f) (u:=u) k1 (by simp[aQ,hu])
  exact⟨this.1,by rw[this.2];simp[aX]⟩
 case fptr t' z=>
  split at hq<;>first|cases hq|skip
  rename_i hb;have:=Ty.eq_of_beq _ _ hb;subst this;replace hq:=bind_some_inv hq;obtain⟨u,hu,hq⟩:=hq;replace hq:=bind_some_inv hq;obtain⟨z',hz,hq⟩:=hq;obtain⟨k1,k0,b,off,hv,k2⟩:=wD hx;rcases hE.lay T _ ht with⟨ts',iV⟩|hl
  ·cases iV
  have hg:z.get [f]=some z':=by simp[D.get,hz]
  obtain⟨m1,A,B,m2,m3⟩:=iA [f] k1 k0 (show aQ (.st ts) [f]=some u by simp[aQ,hu]) hg
  rw[m2] at k2;have k3:=k2.part;rw[m3] at k3;refine⟨_,hq,.value (v:=.pointer (some ⟨b,off+Ty.sizes (ts.take f),none⟩)) (w':=w) (by simp only[execOp,hv,zha,rj hl hu,zea,zpa]) (Qp.same h (nh m1 (bV (by simpa [aq] using k0) hu) ?_) _)⟩
  simpa [aX] using k3
def kZ{T:TypeId}{n:Nat}{e:Ty}(hl:bD P (.arr n e) T=true){kk:IntKind}{k:Nat}(hk:k<n)(b off:Nat)(w:World) :
  (Instr.indexAt T (.pointer (some ⟨b,off,none⟩)) (.int kk k)).run P w=.ok (.pointer (some ⟨b,off+k*e.size,none⟩)) w:=by
 obtain⟨u,h1,h2⟩:=dP hl;have hk':(0:Int)<=(k:Int)/\(k:Int)<(n:Int):=by omega
 simp only[Instr.indexAt,asIntOf,pure_bind,zha,run_underlying h1,zea,kJ,zpa,hk',and_self,if_true,bS h2,cO,z4c]
def lS{T:TypeId}{e:Ty}(hl:bD P (.sl e) T=true){kk:IntKind}{k len cap:Nat}(hk:k<len)(b off:Nat)(w:World) :
  (Instr.indexAt T (.slice (some ⟨b,off,none⟩) len cap) (.int kk k)).run P w=.ok (.pointer (some ⟨b,off+k*e.size,none⟩)) w:=by
 obtain⟨u,h1,h2⟩:=iC hl;have hk':(0:Int)<=(k:Int)/\(k:Int)<(len:Int):=by omega
 simp only[Instr.indexAt,asIntOf,pure_bind,zha,run_underlying h1,zea,zpa,hk',and_self,if_true,bS h2,cO,z4c]
def EE{c:Cx}{t:Ty}{id:Nat}{v:Value}(h:AR c (.mem t id) v):aq t=true/\∃ b,c.γ id=some b/\∀ o,c.ob id=some o->∃ l,o=.many t l/\v=.slice (some ⟨b,0,none⟩) l.length l.length:=by
 simp only[AR,AC] at h;obtain⟨h1,h2,b,h3,h4⟩:=h;refine⟨h2,b,h3,λo ho=>?_⟩;obtain⟨l,k1,k2⟩:=h4 o ho;exact⟨l,k1,ay h1 k2⟩
def jG{c:Cx}{ob:Nat->Option Ob}{e:Ty}{y:AV}{v:Value}{l:List D}(hn:aq e=true)(h:AR c y v)(hl:y.asList ob e=some l):(∀ x∈l,wt e x)/\CR c.w c.S (.sl l) v:=by
 unfold AV.asList at hl;obtain⟨x,h1,h2⟩:=bind_some_inv hl;have:=EY h2;subst this;obtain⟨k1,k2⟩:=ni (t:=.sl e) (by simpa [aq] using hn) h h1
 simp only[wt] at k1;obtain⟨l',e1,k3⟩:=k1;cases e1;exact⟨k3,k2.sl_inv⟩
def xA(hE:EnvOk P E)(h:Rp w0 S γ β s a w){dst T x i ty pos after guard}:iW P E w0 S γ β s a w ⟨dst,.indexAddr T x i,ty,pos,after,guard⟩:=by
 intro R K r hq;simp only[qv] at hq;replace hq:=bind_some_inv hq;obtain⟨t,ht,hq⟩:=hq;replace hq:=bind_some_inv hq;obtain⟨ix,hix,hq⟩:=hq;have hi:=dO hix;have hi2:=aW h i;rw[hi] at hi2;have hx:=aW h x;generalize s.opA x=y at *;cases t<;>(try simp only at hq)<;>first|cases hq|skip
 case arr n e=>
  rcases hE.lay T _ ht with⟨ts',iV⟩|hl
  ·cases iV
  cases y<;>(try simp only at hq)<;>first|cases hq|skip
  case ptr t' id p=>
   split at hq<;>first|cases hq|skip
   rename_i hb;have:=Ty.eq_of_beq _ _ hb;subst this;replace hq:=bind_some_inv hq;obtain⟨k,hk,hq⟩:=hq;obtain⟨kk,hk1,hk2⟩:=oD hk;rw[hk1] at hi2;obtain⟨mN,_⟩:=eQ hi2;obtain⟨b,off,hv,hγ,hob⟩:=pm hx;refine⟨_,hq,.value (v:=.pointer (some ⟨b,off+k*e.size,none⟩)) (w':=w) (by simp only[execOp,hv,mN,zha,kZ hl hk2,zea,zpa]) (Qp.same h (g9 hγ λo ho=>?_) _)⟩
   obtain⟨k1,rfl⟩:=hob o ho;have:=vT (i:=k) (u:=e) k1 (by cases e<;>simp[aQ])
   exact⟨this.1,by rw[this.2];cases e<;>simp[aX]⟩
  case fptr t' z=>
   split at hq<;>first|cases hq|skip
   rename_i hb;have:=Ty.eq_of_beq _ _ hb;subst this;replace hq:=bind_some_inv hq;obtain⟨k,hk,hq⟩:=hq;replace hq:=bind_some_inv hq;obtain⟨z',hz,hq⟩:=hq;obtain⟨kk,hk1,hk2⟩:=oD hk;rw[hk1] at hi2;obtain⟨mN,_⟩:=eQ hi2;obtain⟨k1,k0,b,off,hv,k2⟩:=wD hx;have hg:z.get [k]=some z':=by simp[D.get,hz]
   obtain⟨m1,A,B,m2,m3⟩:=iA [k] k1 k0 (show aQ (.arr n e) [k]=some e by cases e<;>simp[aQ]) hg
   rw[m2] at k2;have k3:=k2.part;rw[m3] at k3;refine⟨_,hq,.value (v:=.pointer (some ⟨b,off+k*e.size,none⟩)) (w':=w) (by simp only[execOp,hv,mN,zha,kZ hl hk2,zea,zpa]) (Qp.same h (nh m1 (by simpa [aq] using k0) ?_) _)⟩
   have:aX (.arr n e) [k]=k*e.size:=by cases e<;>simp[aX]
   rwa [this] at k3
 case sl e=>
  rcases hE.lay T _ ht with⟨ts',iV⟩|hl
  ·cases iV
  have hne:aq e=true:=by have:=aL _ _ hl;simpa [aq] using this
  by_cases hm:∃ t' id,y=.mem t' id
  ·obtain⟨t',id,rfl⟩:=hm;simp only at hq;split at hq<;>first|cases hq|skip
   rename_i hb;have:=Ty.eq_of_beq _ _ hb;subst this;split at hq<;>first|cases hq|skip
   rename_i u l hob;replace hq:=bind_some_inv hq;obtain⟨k,hk,hq⟩:=hq;obtain⟨kk,hk1,hk2⟩:=oD hk;rw[hk1] at hi2;obtain⟨mN,_⟩:=eQ hi2;obtain⟨_,b,hγ,hob2⟩:=EE hx;obtain⟨l',e1,hv⟩:=hob2 _ hob;cases e1;refine⟨_,hq,.value (v:=.pointer (some ⟨b,0+k*t'.size,none⟩)) (w':=w) (by simp only[execOp,hv,mN,zha,lS hl hk2,zea,zpa]) (Qp.same h (g9 hγ λo ho=>?_) _)⟩
   have:o=.many t' l:=by have:=hob.symm.trans ho;cases this;rfl
   subst this;exact⟨by cases t'<;>simp[fj,aQ],by cases t'<;>simp[cq,aX]⟩
  ·have hq':(y.asList s.ob e).bind (λl=>(ix.2.idx l.length).bind λk=>(l[k]?).bind λy=>K (.fptr e y))=some r:=by
    cases y<;>first|exact hq|exact absurd ⟨_,_,rfl⟩ hm
   obtain⟨l,h1,hq⟩:=bind_some_inv hq';replace hq:=bind_some_inv hq;obtain⟨k,hk,hq⟩:=hq;replace hq:=bind_some_inv hq;obtain⟨z,hz,hq⟩:=hq;obtain⟨kk,hk1,hk2⟩:=oD hk;rw[hk1] at hi2;obtain⟨mN,_⟩:=eQ hi2;obtain⟨k1,k2⟩:=jG hne hx h1;obtain⟨A,cap,b,off,hv,k3,k4,k5⟩:=k2.elems;have hA:A=some ⟨b,off,none⟩:=by
    rcases k3 with rfl|k3
    ·simp at hz
    ·exact k3
   rw[bZ hz] at k5;have k6:=k5.part;rw[aK hne _ (λx hx=>k1 x (zSa hx)),zbb,zqb (zsc hk2)] at k6;exact⟨_,hq,.value (v:=.pointer (some ⟨b,off+k*e.size,none⟩)) (w':=w) (by simp only[execOp,hv,hA,mN,zha,lS hl hk2,zea,zpa]) (Qp.same h (nh (k1 z (z8a hz)) hne k6) _)⟩
def gL{T:TypeId}{t:Ty}(hl:bD P t T=true){cs:Array Value}{pre mid post:List Value}(hcs:cs.toList=pre++(mid++post))(hm:mid.length=t.size)(hn:nag mid)(w:World) :
  ∃ v,(part T cs pre.length).run P w=.ok v w/\ga t mid v:=by
 have e:cs=(pre++(mid++post)).toArray:=by rw[<-hcs]
 subst e;unfold part;rw[zha,Cs hl,zea];cases ha:cz t
 ·have h1:mid.length=1:=by
   rw[hm];cases t<;>simp[cz] at ha<;>first|rfl|(exfalso;exact vr hl (.inl ⟨_,rfl⟩))
  match mid,h1 with
  | [c],_=>
   have h2:=hn c (by simp)
   refine⟨c,?_,?_,?_,?_⟩
   ·simp
   ·cases c<;>simp_all [Value.cells,Value.oneCell']
   ·simp_all
   ·grind [Value.oneCell']
 ·refine⟨.agg mid.toArray,?_,rfl,λ_=>⟨_,rfl⟩,by rw[ha];intro h;cases h⟩
  simp only[if_true,zha,bS hl,zea,zpa]
  simp_all
def Gu(hE:EnvOk P E)(h:Rp w0 S γ β s a w){dst T x f ty pos after guard}:iW P E w0 S γ β s a w ⟨dst,.field T x f,ty,pos,after,guard⟩:=by
 intro R K r hq;simp only[qv] at hq;replace hq:=bind_some_inv hq;obtain⟨t,ht,hq⟩:=hq;have hx:=aW h x;generalize s.opA x=y at *;cases t<;>(try simp only at hq)<;>first|cases hq|skip
 rename_i ts;cases y<;>(try simp only at hq)<;>first|cases hq|skip
 rename_i t' z;split at hq<;>first|cases hq|skip
 rename_i hb;have:=Ty.eq_of_beq _ _ hb;subst this;replace hq:=bind_some_inv hq;obtain⟨u,hu,hq⟩:=hq;replace hq:=bind_some_inv hq;obtain⟨z',hz,hq⟩:=hq;rcases hE.lay T _ ht with⟨ts',iV⟩|hl
 ·cases iV
 have hn:=aL _ _ hl;obtain⟨k1,k2⟩:=yd hx hn;have hg:z.get [f]=some z':=by simp[D.get,hz]
 obtain⟨m1,A,B,m2,m3⟩:=iA [f] k1 hn (show aQ (.st ts) [f]=some u by simp[aQ,hu]) hg
 obtain⟨k3,k4⟩:=k2;rw[m2] at k4;obtain⟨k5,k6⟩:=k4.split;obtain⟨k7,k8⟩:=k6.split;obtain⟨fs,h1,h2⟩:=iD hl;obtain⟨g,h3,h4,_,h6⟩:=rQ h2 hu;have hnu:=aL _ _ h6;obtain⟨cs,hcs⟩:∃ cs,a.eval x=.agg cs:=by
  simp only[wt] at k1;obtain⟨l,rfl,_⟩:=k1;exact k3
 rw[hcs] at k5 k6 k7 k8;simp only[Value.cells] at k5 k6 k7 k8;obtain⟨v,hrun,hval⟩:=gL h6 (cs:=cs) (pre:=cs.toList.take A.length) (mid:=(cs.toList.drop A.length).take z'.flat.length) (post:=(cs.toList.drop A.length).drop z'.flat.length)
  (by simp only[zsa]) (by rw[<-k7.1];exact ci _ _ m1 hnu) k7.nag w
 have hoff:g.offset=(cs.toList.take A.length).length:=by rw[<-k5.1,m3,h4];simp[aX]
 have h3':fs[f]?=some g:=by simpa using h3
 exact⟨_,hq,.value (v:=v) (w':=w) (by simp only[execOp,hcs,Instr.field,zha,run_underlying h1,zea,h3',asAgg,zpa,hoff,hrun]) (Qp.same h (uS (bH _ _) (by simp only[AC];exact⟨m1,hnu,k7⟩) hval) _)⟩
def Gv(hE:EnvOk P E)(h:Rp w0 S γ β s a w){dst T x i ty pos after guard}:iW P E w0 S γ β s a w ⟨dst,.index T x i,ty,pos,after,guard⟩:=by
 intro R K r hq;simp only[qv] at hq;replace hq:=bind_some_inv hq;obtain⟨t,ht,hq⟩:=hq;replace hq:=bind_some_inv hq;obtain⟨ix,hix,hq⟩:=hq;have hi:=dO hix;have hi2:=aW h i;rw[hi] at hi2;have hx:=aW h x;generalize s.opA x=y at *;cases t<;>(try simp only at hq)<;>first|cases hq|skip
 case str=>
  cases y<;>(try simp only at hq)<;>first|cases hq|skip
  rename_i t' z;split at hq<;>first|cases hq|skip
  rename_i hb;have:=Ty.eq_of_beq _ _ hb;subst this;replace hq:=bind_some_inv hq;obtain⟨z',hz,hq⟩:=hq;rcases hE.lay T _ ht with⟨ts',iV⟩|hl
  ·cases iV
  obtain⟨k1,k2⟩:=yd hx rfl;simp only[wt] at k1;obtain⟨sb,rfl⟩:=k1;obtain⟨kt,kx⟩:=ix;cases kx<;>(try simp only[D.strAt] at hz)<;>first|cases hz|skip
  rename_i k n;obtain⟨bb,hb1,hb2⟩:=bind_some_inv hz;simp only[zda] at hb2;subst hb2;obtain⟨mN,_⟩:=eQ hi2;have hsv:a.eval x=.string sb:=by
   obtain⟨c1,c2⟩:=k2;obtain⟨c,e,h⟩:=cG.single' c2;have:=ay c1 e;rw[this];cases h;rfl
  have hu:P.underlying T=some .string:=by
   simp only[bD,zaa] at hl;all_goals grind
  exact⟨_,hq,.value (v:=.int .u8 bb.toNat) (w':=w) (by simp only[execOp,hsv,mN,Instr.index,asIntOf,pure_bind,zha,run_underlying hu,zea,hb1,zpa]) (Qp.same h (ct _ _) _)⟩
 rename_i n e;cases y<;>(try simp only at hq)<;>first|cases hq|skip
 rename_i t' z;split at hq<;>first|cases hq|skip
 rename_i hb;have:=Ty.eq_of_beq _ _ hb;subst this;replace hq:=bind_some_inv hq;obtain⟨k,hk,hq⟩:=hq;replace hq:=bind_some_inv hq;obtain⟨z',hz,hq⟩:=hq;obtain⟨kk,hk1,hk2⟩:=oD hk;rw[hk1] at hi2;obtain⟨mN,_⟩:=eQ hi2;rcases hE.lay T _ ht with⟨ts',iV⟩|hl
 ·cases iV
 have hn:=aL _ _ hl;obtain⟨k1,k2⟩:=yd hx hn;have hg:z.get [k]=some z':=by simp[D.get,hz]
 obtain⟨m1,A,B,m2,m3⟩:=iA [k] k1 hn (show aQ (.arr n e) [k]=some e by cases e<;>simp[aQ]) hg
 obtain⟨k3,k4⟩:=k2;rw[m2] at k4;obtain⟨k5,k6⟩:=k4.split;obtain⟨k7,k8⟩:=k6.split;obtain⟨u,h1,h6⟩:=dP hl;have hnu:=aL _ _ h6;obtain⟨cs,hcs⟩:∃ cs,a.eval x=.agg cs:=by
  simp only[wt] at k1;obtain⟨l,rfl,_⟩:=k1;exact k3
 rw[hcs] at k5 k6 k7 k8;simp only[Value.cells] at k5 k6 k7 k8;obtain⟨v,hrun,hval⟩:=gL h6 (cs:=cs) (pre:=cs.toList.take A.length) (mid:=(cs.toList.drop A.length).take z'.flat.length) (post:=(cs.toList.drop A.length).drop z'.flat.length)
  (by simp only[zsa]) (by rw[<-k7.1];exact ci _ _ m1 hnu) k7.nag w
 have hoff:k*e.size=(cs.toList.take A.length).length:=by rw[<-k5.1,m3];cases e<;>simp[aX]
 have hk':(0:Int)<=(k:Int)/\(k:Int)<(n:Int):=by omega
 exact⟨_,hq,.value (v:=v) (w':=w) (by simp only[execOp,hcs,mN,Instr.index,asIntOf,pure_bind,zha,run_underlying h1,zea,hk',and_self,if_true,bS h6,z4c,hoff,hrun,zpa]) (Qp.same h (uS (bH _ _) (by simp only[AC];exact⟨m1,hnu,k7⟩) hval) _)⟩
end
end Sy
end
noncomputable section
namespace Sy
open Go
def B5:BinOp->Bool
 | .eql|.neq|.lss|.leq|.gtr|.geq=>true
 | _=>false
section
variable{P:Program}{E:Env}{w0:Root}{S:Nat->Nat->Prop}{γ:Nat->Option Nat}{β:Nat->Option (Nat×Nat)}{s:St}{a:Act}{w:World}
def Js{op:BinOp}{k k':IntKind}{x y:Int}{z:D}(T:TypeId)(w:World)(h:D.bin op (.int k x) (.int k' y)=some z) :
  (B5 op=true/\∃ c,z=.bool c/\(binOp op T (.int k x) (.int k' y)).run P w=.ok (.bool c) w)\/(B5 op=false/\∃ n,z=.int k n/\(binOp op T (.int k x) (.int k' y)).run P w=.ok (.int k n) w):=by
 cases op<;>simp only[D.bin,D.bitOp] at h
 case shl=>
     split at h<;>first|(cases h;done)|skip
     rename_i hy;simp only[zda] at h;exact .inr ⟨rfl,_,h.symm,by simp[binOp,Op.shift,hy]⟩
 case shr=>
     split at h<;>first|(cases h;done)|skip
     rename_i hy;simp only[zda] at h;exact .inr ⟨rfl,_,h.symm,by simp[binOp,Op.shift,hy]⟩
 case quo=>
  split at h<;>first|(cases h;done)|skip
  rename_i hk;subst hk;split at h<;>first|(cases h;done)|skip
  rename_i hy;simp only[zda] at h;exact .inr ⟨rfl,_,h.symm,by simp[binOp,Op.intDiv,hy]⟩
 case rem=>
  split at h<;>first|(cases h;done)|skip
  rename_i hk;subst hk;split at h<;>first|(cases h;done)|skip
  rename_i hy;simp only[zda] at h;exact .inr ⟨rfl,_,h.symm,by simp[binOp,Op.intDiv,hy]⟩
 all_goals (split at h<;>first|(cases h;done)|skip)
 all_goals (rename_i hk;subst hk)
 all_goals (simp only[zda] at h)
 all_goals first
  | (refine .inl ⟨rfl,_,h.symm,?_⟩;simp[binOp,Op.intCmp];done)
  | (refine .inr ⟨rfl,_,h.symm,?_⟩;simp[binOp,Op.intArith];done)
  | (refine .inr ⟨rfl,_,h.symm,?_⟩;simp only[binOp,ne_eq,not_true_eq_false,if_false];rfl)
def fe(op:BinOp)(T:TypeId)(x y:Operand)(k k':IntKind)(u v:Int)(w:World):(eqGuard op T x y (.int k u) (.int k' v)).run P w=.ok () w:=by cases op<;>simp[eqGuard]
def jY(op:BinOp)(T:TypeId)(x y:Operand)(u v:Bool)(w:World):(eqGuard op T x y (.bool u) (.bool v)).run P w=.ok () w:=by cases op<;>simp[eqGuard]
def eH{t:Ty}{c v:Value}(h:ga t [c] v)(ha:cz t=false):v=c:=ay (h.2.2 ha) h.1
def ie{t:Ty}{cs:List Value}{v:Value}(h:ga t cs v)(ha:cz t=true):v=.agg cs.toArray:=by
 obtain⟨xs,rfl⟩:=h.2.1 ha;have:=h.1;simp only[Value.cells] at this;rw[<-this]
theorem ym:∀ (n:Nat) {l l':List D},l.length=n->l'.length=n->D.beqs l l'=(List.range n).all λj=>D.beq (l.getD j (.bool false)) (l'.getD j (.bool false))
 | 0,[],[],_,_=>rfl
 | n+1,x::l,y::l',h,h'=>by
  simp only[D.beqs,List.range_succ_eq_map,zHb,List.all_map];rw[ym n (by simpa using h) (by simpa using h')]
  rfl
mutual
theorem oe:∀ (ty:Ty) (T:TypeId) (x y:D) (cx cy:List Value) (vx vy:Value) (d:Nat),bD P ty T=true->bI ty=true->ty.high<=d->wt ty x->wt ty y->cG w S x.flat cx->cG w S y.flat cy->ga ty cx vx->ga ty cy vy ->
  ∀ w',(Op.equalIn d T vx vy).run P w'=.ok (D.beq x y) w'
 | .int k,T,x,y,cx,cy,vx,vy,d,hl,_,hd,hx,hy,rx,ry,ix,iy,w'=>by
  simp only[wt] at hx hy;obtain⟨n,rfl⟩:=hx;obtain⟨m,rfl⟩:=hy;obtain⟨c1,rfl,r1⟩:=rx.single';obtain⟨c2,rfl,r2⟩:=ry.single';rw[eH ix rfl,eH iy rfl,r1.int_inv,r2.int_inv];obtain⟨d,rfl⟩:∃ e,d=e+1:=⟨d-1,by simp only[Ty.high] at hd;omega⟩
  rw[run_equalIn_int w' d T k k n m (jo hl)];simp only[D.beq,decide_true,zIb];rfl
 | .bool,T,x,y,cx,cy,vx,vy,d,hl,_,hd,hx,hy,rx,ry,ix,iy,w'=>by
  simp only[wt] at hx hy;obtain⟨n,rfl⟩:=hx;obtain⟨m,rfl⟩:=hy;obtain⟨c1,rfl,r1⟩:=rx.single';obtain⟨c2,rfl,r2⟩:=ry.single';rw[eH ix rfl,eH iy rfl,r1.bool_inv,r2.bool_inv];obtain⟨d,rfl⟩:∃ e,d=e+1:=⟨d-1,by simp only[Ty.high] at hd;omega⟩
  have hu:P.underlying T=some .bool:=by
   simp only[bD,zaa] at hl;all_goals grind
  rw[run_equalIn_bool' w' d T n m hu];rfl
 | .st ts,T,x,y,cx,cy,vx,vy,d,hl,hc,hd,hx,hy,rx,ry,ix,iy,w'=>by
  simp only[wt] at hx hy;obtain⟨l,rfl,hx⟩:=hx;obtain⟨l',rfl,hy⟩:=hy;rw[ie ix rfl,ie iy rfl];obtain⟨fs,h1,h2⟩:=iD hl;have h3:P.fieldsOf T=fs:=by simp[Program.fieldsOf,h1]
  have h4:P.stoodInHeld T=false:=by
   simp_all [bD,zaa,zMa]
  simp only[Ty.high] at hd;obtain⟨d,rfl⟩:∃ e,d=e+1:=⟨d-1,by omega⟩
  rw[run_equalIn_struct w' d T _ _ (by rw[h3];exact h1) h4,h3]
  simp only[bI] at hc;simp only[D.beq];simp only[D.flat] at rx ry;exact qH ts fs.toList 0 l l' [] cx [] cy _ _ d h2 hc (by omega) hx hy rx ry rfl rfl rfl rfl w'
 | .arr n t,T,x,y,cx,cy,vx,vy,d,hl,hc,hd,hx,hy,rx,ry,ix,iy,w'=>by
  simp only[wt] at hx hy;obtain⟨l,rfl,hxl,hx⟩:=hx;obtain⟨l',rfl,hyl,hy⟩:=hy;rw[ie ix rfl,ie iy rfl];obtain⟨u,h1,h2⟩:=dP hl;obtain⟨i,z,h3,h4,_⟩:=fi (gn h2);simp only[Ty.high] at hd;obtain⟨d,rfl⟩:∃ e,d=e+1:=⟨d-1,by omega⟩
  rw[run_equalIn_array w' d _ _ h1 h3];simp only[bI] at hc;simp only[D.beq];simp only[D.flat] at rx ry;have hcell:P.cellsOf u=t.size:=by simp[Program.cellsOf,h3,h4]
  have hn:=aL _ _ h2;rw[ym n hxl hyl];have key:∀ (is:List Nat) (w':World),(∀ j∈is,j<n)->(Op.eqItems d u (P.cellsOf u) cx.toArray cy.toArray is).run P w'=.ok (is.all λj=>D.beq (l.getD j (.bool false)) (l'.getD j (.bool false))) w':=by
   intro is
   induction is with
   | nil=>intro w' _;simp[Op.eqItems]
   | cons j is ih=>
    intro w' hj;have hjn:=hj j (by simp)
    have e1:l[j]?=some (l.getD j (.bool false)):=by simp_all
    have e2:l'[j]?=some (l'.getD j (.bool false)):=by simp_all
    generalize l.getD j (.bool false)=dx at *;generalize l'.getD j (.bool false)=dy at *;have wx:=hx dx (z8a e1);have wy:=hy dy (z8a e2);have rx':=rx;have ry':=ry;rw[bZ e1] at rx';rw[bZ e2] at ry';obtain⟨p1,p2⟩:=rx'.split;obtain⟨p3,p4⟩:=p2.split;obtain⟨q1,q2⟩:=ry'.split;obtain⟨q3,q4⟩:=q2.split;have o1:(cx.take (D.flats (l.take j)).length).length=j*t.size:=by
     rw[<-p1.1,aK hn _ (λx hx'=>hx x (zSa hx')),zbb,zqb (by omega)]
    have o2:(cy.take (D.flats (l'.take j)).length).length=j*t.size:=by
     rw[<-q1.1,aK hn _ (λx hx'=>hy x (zSa hx')),zbb,zqb (by omega)]
    obtain⟨v1,r1,i1⟩:=gL h2 (cs:=cx.toArray) (pre:=cx.take (D.flats (l.take j)).length) (mid:=(cx.drop (D.flats (l.take j)).length).take dx.flat.length) (post:=(cx.drop (D.flats (l.take j)).length).drop dx.flat.length)
     (by simp only[zsa]) (by rw[<-p3.1];exact ci _ _ wx hn) p3.nag w'
    obtain⟨v2,r2,i2⟩:=gL h2 (cs:=cy.toArray) (pre:=cy.take (D.flats (l'.take j)).length) (mid:=(cy.drop (D.flats (l'.take j)).length).take dy.flat.length) (post:=(cy.drop (D.flats (l'.take j)).length).drop dy.flat.length)
     (by simp only[zsa]) (by rw[<-q3.1];exact ci _ _ wy hn) q3.nag w'
    rw[o1,<-hcell] at r1;rw[o2,<-hcell] at r2;have r3:=oe t u dx dy _ _ v1 v2 d h2 hc (by omega) wx wy p3 q3 i1 i2 w'
    simp only[Op.eqItems,zha,r1,r2,r3,zea,zHb];have e1':l[j]?.getD (.bool false)=dx:=by rw[e1];rfl
    have e2':l'[j]?.getD (.bool false)=dy:=by rw[e2];rfl
    have ih':=ih w' (λk hk=>hj k (by simp[hk]))
    simp only[List.getD,e1',e2'];cases D.beq dx dy
    ·simp
    ·simpa [List.getD] using ih'
  exact key _ w' (λj hj=>by simpa using hj)
 | .str,_,_,_,_,_,_,_,_,_,hc,_,_,_,_,_,_,_,_=>by simp[bI] at hc
 | .sl _,_,_,_,_,_,_,_,_,_,hc,_,_,_,_,_,_,_,_=>by simp[bI] at hc
 | .tup _,_,_,_,_,_,_,_,_,_,hc,_,_,_,_,_,_,_,_=>by simp[bI] at hc
 | .fn,_,_,_,_,_,_,_,_,_,hc,_,_,_,_,_,_,_,_=>by simp[bI] at hc
theorem qH:∀ (ts:List Ty) (fs:List Field) (off:Nat) (l l':List D) (px cx py cy:List Value) (xs ys:Array Value) (d:Nat),fL P ts fs off=true->lv ts=true->Ty.highs ts<=d->ff ts l->ff ts l'->cG w S (D.flats l) cx->cG w S (D.flats l') cy ->
  xs.toList=px++cx->px.length=off->ys.toList=py++cy->py.length=off->∀ w',(Op.eqFields d xs ys fs).run P w'=.ok (D.beqs l l') w'
 | [],fs,off,l,l',px,cx,py,cy,xs,ys,d,hf,_,_,hx,hy,_,_,_,_,_,_,w'=>by
  simp only[ff] at hx hy;subst hx;subst hy;cases fs with
  | nil=>simp[Op.eqFields,D.beqs]
  | cons f fs=>simp[fL] at hf
 | t::ts,[],off,l,l',px,cx,py,cy,xs,ys,d,hf,_,_,hx,hy,_,_,_,_,_,_,w'=>by simp[fL] at hf
 | t::ts,f::fs,off,l,l',px,cx,py,cy,xs,ys,d,hf,hc,hd,hx,hy,rx,ry,ex,lx,ey,ly,w'=>by
  simp only[fL,zaa,decide_eq_true_eq] at hf;obtain⟨⟨⟨⟨h1,h2⟩,h3⟩,h4⟩,h5⟩:=hf;simp only[ff] at hx hy;obtain⟨dx,l,rfl,hx1,hx2⟩:=hx;obtain⟨dy,l',rfl,hy1,hy2⟩:=hy;simp only[D.flats] at rx ry;obtain⟨p3,p4⟩:=rx.split;obtain⟨q3,q4⟩:=ry.split;have hn:=aL _ _ h4;simp only[lv,zaa] at hc;simp only[Ty.highs] at hd;obtain⟨v1,r1,i1⟩:=gL h4 (cs:=xs) (pre:=px) (mid:=cx.take dx.flat.length) (post:=cx.drop dx.flat.length) (by rw[ex,zsa]) (by rw[<-p3.1];exact ci _ _ hx1 hn) p3.nag w'
  obtain⟨v2,r2,i2⟩:=gL h4 (cs:=ys) (pre:=py) (mid:=cy.take dy.flat.length) (post:=cy.drop dy.flat.length) (by rw[ey,zsa]) (by rw[<-q3.1];exact ci _ _ hy1 hn) q3.nag w'
  rw[lx,<-h1] at r1;rw[ly,<-h1] at r2;have r3:=oe t f.type dx dy _ _ v1 v2 d h4 hc.1 (by omega) hx1 hy1 p3 q3 i1 i2 w'
  have hs1:(cx.take dx.flat.length).length=t.size:=by rw[<-p3.1];exact ci _ _ hx1 hn
  have hs2:(cy.take dy.flat.length).length=t.size:=by rw[<-q3.1];exact ci _ _ hy1 hn
  have ih:=qH ts fs (off+t.size) l l' (px++cx.take dx.flat.length) (cx.drop dx.flat.length) (py++cy.take dy.flat.length) (cy.drop dy.flat.length) xs ys d h5 hc.2 (by omega) hx2 hy2 p4 q4
   (by rw[zOa,zsa];exact ex) (by rw[zua,lx,hs1]) (by rw[zOa,zsa];exact ey) (by rw[zua,ly,hs2]) w'
  simp only[Op.eqFields,h2,ne_eq,not_false_eq_true,if_true,zha,r1,r2,r3,zea,D.beqs];cases D.beq dx dy
  ·simp
  ·simpa using ih
end
def Gr(hE:EnvOk P E)(h:Rp w0 S γ β s a w){dst op T x y T' ty pos after guard}:iW P E w0 S γ β s a w ⟨dst,.binOp op T x y T',ty,pos,after,guard⟩:=by
 intro R K r hq;simp only[qv] at hq;replace hq:=bind_some_inv hq;obtain⟨t,ht,hq⟩:=hq;replace hq:=bind_some_inv hq;obtain⟨u,hu,hq⟩:=hq;replace hq:=bind_some_inv hq;obtain⟨v,hv,hq⟩:=hq;have hx:=aW h x;have hy:=aW h y;rw[dO hu] at hx;rw[dO hv] at hy;have eqc:∀ (ng:Bool),(u.1.beq t&&v.1.beq t&&bI t)=true->∀ (o:BinOp),(o=.eql/\ng=false)\/(o=.neq/\ng=true) ->
   (execOp a.eval ⟨dst,.binOp o T x y T',ty,pos,after,guard⟩).run P w=.ok (.value (.bool (xor ng (D.beq u.2 v.2)))) w:=by
  intro ng hb o ho;simp only[zaa] at hb;obtain⟨⟨h1,h2⟩,h3⟩:=hb;have e1:=Ty.eq_of_beq _ _ h1;have e2:=Ty.eq_of_beq _ _ h2;rw[e1] at hx;rw[e2] at hy;have hl:bD P t T=true:=by
   rcases hE.lay T _ ht with⟨ts',rfl⟩|hl
   ·simp[bI] at h3
   ·exact hl
  have hn:=aL _ _ hl;obtain⟨k1,k2⟩:=yd hx hn;obtain⟨m1,m2⟩:=yd hy hn;have hh:=hE.high T _ ht;have i1:ga t (a.eval x).cells.toList (a.eval x):=⟨rfl,nN k1 hn k2.1⟩;have i2:ga t (a.eval y).cells.toList (a.eval y):=⟨rfl,nN m1 hn m2.1⟩;have r3:=oe t T u.2 v.2 _ _ _ _ 10000 hl h3 (by omega) k1 m1 k2.2 m2.2 i1 i2 w
  cases t<;>simp only[bI] at h3<;>first|cases h3|skip
  case int k=>
   simp only[wt] at k1 m1;obtain⟨n,e3⟩:=k1;obtain⟨m,e4⟩:=m1;rw[e3] at k2 hx ⊢;rw[e4] at m2 hy ⊢;have v1:=k2.int_inv;have v2:=m2.int_inv;rcases ho with⟨rfl,rfl⟩|⟨rfl,rfl⟩
   ·simp only[execOp,v1,v2,zha,fe,zea];simp[binOp,Op.intCmp,D.beq];rfl
   ·simp only[execOp,v1,v2,zha,fe,zea];simp[binOp,Op.intCmp,D.beq];rfl
  case bool=>
   simp only[wt] at k1 m1;obtain⟨n,e3⟩:=k1;obtain⟨m,e4⟩:=m1;rw[e3] at k2 hx r3 ⊢;rw[e4] at m2 hy r3 ⊢;have v1:=k2.bool_inv;have v2:=m2.bool_inv;rw[v1,v2] at r3;rcases ho with⟨rfl,rfl⟩|⟨rfl,rfl⟩
   ·simp only[execOp,v1,v2,zha,jY,zea,binOp,Op.equal,Op.maxDepth,r3,zpa,zJd]
   ·simp only[execOp,v1,v2,zha,jY,zea,binOp,Op.equal,Op.maxDepth,r3,zpa,Bool.true_xor]
  case st ts=>
   obtain⟨xs,e3⟩:=i1.2.1 rfl;obtain⟨ys,e4⟩:=i2.2.1 rfl;have hg:P.eqGuardType P.depth T=false:=by simp only[bD,zaa,zMa] at hl;exact hl.1.2
   rw[e3,e4] at r3;rcases ho with⟨rfl,rfl⟩|⟨rfl,rfl⟩
   ·simp only[execOp,e3,e4,zha,run_eqGuard_agg w _ T x y xs ys hg,zea,binOp,Op.equal,Op.maxDepth,r3,zpa,zJd]
   ·simp only[execOp,e3,e4,zha,run_eqGuard_agg w _ T x y xs ys hg,zea,binOp,Op.equal,Op.maxDepth,r3,zpa,Bool.true_xor]
  case arr n e=>
   obtain⟨xs,e3⟩:=i1.2.1 rfl;obtain⟨ys,e4⟩:=i2.2.1 rfl;have hg:P.eqGuardType P.depth T=false:=by simp only[bD,zaa,zMa] at hl;exact hl.1.2
   rw[e3,e4] at r3;rcases ho with⟨rfl,rfl⟩|⟨rfl,rfl⟩
   ·simp only[execOp,e3,e4,zha,run_eqGuard_agg w _ T x y xs ys hg,zea,binOp,Op.equal,Op.maxDepth,r3,zpa,zJd]
   ·simp only[execOp,e3,e4,zha,run_eqGuard_agg w _ T x y xs ys hg,zea,binOp,Op.equal,Op.maxDepth,r3,zpa,Bool.true_xor]
 have ints:∀ {z:D} {o:BinOp},D.bin o u.2 v.2=some z->∃ k k' n m,u.2=.int k n/\v.2=.int k' m:=by
  intro z o hz;cases hu2:u.2<;>rw[hu2] at hz<;>cases hv2:v.2<;>rw[hv2] at hz<;>simp only[D.bin] at hz<;>first|cases hz|skip
  exact⟨_,_,_,_,rfl,rfl⟩
 have main:∀ (o:BinOp) {z:D},D.bin o u.2 v.2=some z->∃ vv,(execOp a.eval ⟨dst,.binOp o T x y T',ty,pos,after,guard⟩).run P w=.ok (.value vv) w ∧
   ((B5 o=true->AR ⟨w,S,γ,β,s.ob,s.dead⟩ (.d .bool z) vv)/\(B5 o=false->AR ⟨w,S,γ,β,s.ob,s.dead⟩ (.d u.1 z) vv)):=by
  intro o z hz;obtain⟨k,k',n,m,e1,e2⟩:=ints hz;rw[e1,e2] at hz;rw[e1] at hx;rw[e2] at hy;obtain⟨v1,t1⟩:=eQ hx;obtain⟨v2,_⟩:=eQ hy;rcases Js (P:=P) T w hz with⟨h1,c,rfl,h2⟩|⟨h1,c,rfl,h2⟩
  ·refine⟨.bool c,by simp only[execOp,v1,v2,zha,fe,zea,h2,zpa],λ_=>gh c,λh=>by rw[h1] at h;cases h⟩
  ·refine⟨.int k c,by simp only[execOp,v1,v2,zha,fe,zea,h2,zpa],(λh=>by rw[h1] at h;cases h),λ_=>by rw[t1];exact ct k c⟩
 cases op<;>simp only at hq
 case eql=>
  split at hq<;>first|cases hq|skip
  rename_i hb;exact⟨_,hq,.value (eqc false hb .eql (.inl ⟨rfl,rfl⟩)) (Qp.same h (by simp only[zJd];exact gh _) _)⟩
 case neq=>
  split at hq<;>first|cases hq|skip
  rename_i hb;exact⟨_,hq,.value (eqc true hb .neq (.inr ⟨rfl,rfl⟩)) (Qp.same h (by simp only[Bool.true_xor];exact gh _) _)⟩
 all_goals
  replace hq:=bind_some_inv hq;obtain⟨z,hz,hq⟩:=hq;obtain⟨vv,h1,h2,h3⟩:=main _ hz;first
   | exact⟨_,hq,.value h1 (Qp.same h (h2 rfl) _)⟩
   | exact⟨_,hq,.value h1 (Qp.same h (h3 rfl) _)⟩
def Kj(h:Rp w0 S γ β s a w){dst op T x ty pos after guard}:iW P E w0 S γ β s a w ⟨dst,.unOp op T x,ty,pos,after,guard⟩:=by
 intro R K r hq;simp only[qv] at hq;replace hq:=bind_some_inv hq;obtain⟨u,hu,hq⟩:=hq;replace hq:=bind_some_inv hq;obtain⟨z,hz,hq⟩:=hq;have hx:=aW h x;rw[dO hu] at hx;cases hu2:u.2<;>rw[hu2] at hz hx<;>simp only[D.un] at hz<;>first|cases hz|skip
 case int k n=>
  obtain⟨v1,t1⟩:=eQ hx;cases op<;>simp only[D.bitOp] at hz<;>first|cases hz|skip
  ·exact⟨_,hq,.value (v:=.int k (k.wrap (0-n))) (w':=w) (by simp[execOp,v1,Op.unary,Op.intArith]) (Qp.same h (by rw[t1];exact ct _ _) _)⟩
  ·exact⟨_,hq,.value (v:=.int k (k.wrap (BitVec.ofInt k.bits (if k.signed then -1 else k.max) ^^^ BitVec.ofInt k.bits n).toNat)) (w':=w) (by simp[execOp,v1,Op.unary,Op.intBits]) (Qp.same h (by rw[t1];exact ct _ _) _)⟩
 case bool b=>
  have v1:=BK hx;cases op<;>simp only at hz<;>first|cases hz|skip
  have ht:u.1=.bool:=by
   simp only[AR] at hx;rcases hx with⟨_,h2,_⟩|⟨ts,h1,_,h2,_⟩
   ·cases hu1:u.1<;>rw[hu1] at h2<;>simp only[wt] at h2<;>first
     | rfl
     | (obtain⟨m,h4⟩:=h2;cases h4;done)
     | (obtain⟨m,h4,_⟩:=h2;cases h4;done)
     | (exfalso;exact h2)
   ·rw[h1] at h2;simp only[wt] at h2;obtain⟨l,h4,_⟩:=h2;cases h4
  exact⟨_,hq,.value (v:=.bool (!b)) (w':=w) (by simp[execOp,v1,Op.unary]) (Qp.same h (by rw[ht];exact gh _) _)⟩
def Bg(hE:EnvOk P E)(h:Rp w0 S γ β s a w){dst U T x ty pos after guard}:iW P E w0 S γ β s a w ⟨dst,.convert U T x,ty,pos,after,guard⟩:=by
 intro R K r hq;simp only[qv] at hq;replace hq:=bind_some_inv hq;obtain⟨u,hu,hq⟩:=hq;replace hq:=bind_some_inv hq;obtain⟨t,ht,hq⟩:=hq;replace hq:=bind_some_inv hq;obtain⟨b,hb,hq⟩:=hq;have hx:=aW h x;rw[dO hb] at hx;cases t<;>(try simp only at hq)<;>first|cases hq|skip
 rename_i k;split at hq<;>first|cases hq|skip
 rename_i hbu;replace hq:=bind_some_inv hq;obtain⟨z,hz,hq⟩:=hq;cases hb2:b.2<;>rw[hb2] at hz hx<;>simp only[D.conv] at hz<;>first|cases hz|skip
 rename_i k' n;obtain⟨v1,t1⟩:=eQ hx;have e1:=Ty.eq_of_beq _ _ hbu;rw[t1] at e1;rw[<-e1] at hu;rcases hE.lay T _ ht with⟨ts',iV⟩|hl
 ·cases iV
 rcases hE.lay U _ hu with⟨ts',iV⟩|hl'
 ·cases iV
 exact⟨_,hq,.value (v:=.int k (k.wrap n)) (w':=w) (by simp[execOp,convert,v1,run_underlying (jo hl),run_underlying (jo hl'),Conv.intToInt]) (Qp.same h (ct _ _) _)⟩
end
end Sy
end
noncomputable section
namespace Sy
open Go
def gN(pre mid post cs:List Value)(h:mid.length=cs.length):dM (pre++(mid++post)).toArray pre.length cs.toArray=(pre++(cs++post)).toArray:=by
 unfold dM;apply z7b;simp[h];rw[zDb (by omega)]
theorem nO:∀ {ds:List D} {c1 c2:List Value},cr ds c1=true->cr ds c2=true->c1=c2
 | [],[],[],_,_=>rfl
 | [],_::_,_,h,_=>by simp[cr] at h
 | [],[],_::_,_,h=>by simp[cr] at h
 | _::_,[],_,h,_=>by simp[cr] at h
 | _::_,_::_,[],_,h=>by simp[cr] at h
 | d::ds,v1::c1,v2::c2,q1,q2=>by
  simp only[cr,zaa] at q1 q2;rw[nO q1.2 q2.2];congr 1;have a1:=q1.1;have a2:=q2.1;cases d<;>cases v1<;>simp only[Dr] at a1<;>first|(cases a1;done)|skip
  all_goals (cases v2<;>simp only[Dr] at a2<;>first|(cases a2;done)|skip)
  all_goals simp_all
section
variable{w:World}{S:Nat->Nat->Prop}
def PV(w:World)(S:Nat->Nat->Prop)(ty:Nat->Option Ty):List (Nat×D)->List (Nat×Value)->Prop
 | [],[]=>True
 | (i,x)::ps,(j,v)::vs=>i=j/\(∃ t,ty i=some t/\wt t x/\aq t=true/\fZ w S x v)/\PV w S ty ps vs
 | _,_=>False
theorem rP{place:Nat->Option (Nat×Nat)}{ty:Nat->Option Ty}{off:Nat->Nat}{Good:List D->Prop}
  (hset:∀ l i t z,Good l->ty i=some t->wt t z->Good (l.set i z))
  (hget:∀ l i t,Good l->ty i=some t->∃ y,l[i]?=some y/\wt t y/\(D.flats (l.take i)).length=off i)
  (hplace:∀ i t,ty i=some t->place i=some (off i,t.size)) :
  ∀ (ps:List (Nat×D)) (vs:List (Nat×Value)) (l:List D) (cs:List Value),Good l->cG w S (D.flats l) cs->PV w S ty ps vs ->
   ∃ cs':List Value,kW place cs.toArray vs=some cs'.toArray/\Good (D.putParts l ps)/\cG w S (D.flats (D.putParts l ps)) cs'
 | [],[],l,cs,hg,hc,_=>⟨cs,rfl,hg,hc⟩
 | [],_::_,_,_,_,_,h=>by simp[PV] at h
 | _::_,[],_,_,_,_,h=>by simp[PV] at h
 | (i,x)::ps,(j,v)::vs,l,cs,hg,hc,h=>by
  simp only[PV] at h;obtain⟨rfl,⟨t,h1,h2,h3,h4⟩,h5⟩:=h;obtain⟨y,k1,k2,k3⟩:=hget l i t hg h1;rw[bZ k1] at hc;obtain⟨c1,c2⟩:=hc.split;obtain⟨c3,c4⟩:=c2.split;have e:cs=cs.take (D.flats (l.take i)).length++((cs.drop (D.flats (l.take i)).length).take y.flat.length++(cs.drop (D.flats (l.take i)).length).drop y.flat.length):=by simp only[zsa]
  have l1:(cs.take (D.flats (l.take i)).length).length=off i:=by rw[<-c1.1,k3]
  have l2:((cs.drop (D.flats (l.take i)).length).take y.flat.length).length=t.size:=by rw[<-c3.1];exact ci _ _ k2 h3
  have l3:v.cells.toList.length=t.size:=by rw[<-h4.2.1];exact ci _ _ h2 h3
  have hc':cG w S (D.flats (l.set i x)) (cs.take (D.flats (l.take i)).length++(v.cells.toList++(cs.drop (D.flats (l.take i)).length).drop y.flat.length)):=by
   rw[mo k1];exact c1.append (h4.2.append c4)
  obtain⟨cs',m1,m2,m3⟩:=rP hset hget hplace ps vs (l.set i x) _ (hset l i t x hg h1 h2) hc' h5;refine⟨cs',?_,m2,m3⟩;rw[s7 (hplace i t h1) (by rw[<-zGb];exact l3) (by rw[<-l1];have:=congrArg List.length e;simp only[zua] at this;simp only[z3c];omega),<-m1]
  congr 1
  conv=>lhs;rw[e]
  have:=gN (cs.take (D.flats (l.take i)).length) ((cs.drop (D.flats (l.take i)).length).take y.flat.length) ((cs.drop (D.flats (l.take i)).length).drop y.flat.length) v.cells.toList (by rw[l2,l3])
  rw[l1] at this;simpa using this
end
section
variable{P:Program}{E:Env}{w0:Root}{S:Nat->Nat->Prop}{γ:Nat->Option Nat}{β:Nat->Option (Nat×Nat)}{s:St}{a:Act}{w:World}
theorem mA(h:Rp w0 S γ β s a w){ty:Nat->Option Ty}(hn:∀ i t,ty i=some t->aq t=true):∀ (ps:List (Nat×Operand)) (l:List (Nat×D)),partsD s.ob s ty ps=some l->PV w S ty l (ps.map λp=>(p.1,a.eval p.2))
 | [],l,hp=>by simp_all [partsD,zda,PV]
 | (i,x)::ps,l,hp=>by
  simp only[partsD] at hp;replace hp:=bind_some_inv hp;obtain⟨t,ht,hp⟩:=hp;replace hp:=bind_some_inv hp;obtain⟨y,hy,hp⟩:=hp;replace hp:=bind_some_inv hp;obtain⟨ys,hys,hp⟩:=hp;simp only[zda] at hp;subst hp;obtain⟨k1,k2⟩:=ni (hn i t ht) (aW h x) hy;simp only[z6a,PV];exact⟨trivial,⟨t,ht,k1,hn i t ht,k2⟩,mA h hn ps ys hys⟩
def iU{t:Ty}{T:TypeId}(hl:bD P t T=true):∃ z,(∀ w,(zeroValue T).run P w=.ok z w)/\cr (aB t).flat z.cells.toList=true/\((∃ cs,z=.agg cs)↔cz t=true):=by
 obtain⟨i,z,h1,h2,h3,h4,h5,h6⟩:=fi (gn hl)
 simp_all [zeroValue,typeInfo]
theorem ua:∀ {ts:List Ty} {fs:List Field} {off:Nat} (w:World),fL P ts fs off=true ->
  ((fs.mapM λf=>do pure (f.offset,<-sizeOf f.type):Sem (List (Nat×Nat))).run P w=.ok (fs.zipWith (λf t=>(f.offset,Ty.size t)) ts) w)
 | [],[],_,w,_=>rfl
 | [],_::_,_,_,h=>by simp[fL] at h
 | _::_,[],_,_,h=>by simp[fL] at h
 | t::ts,f::fs,off,w,h=>by
  simp only[fL,zaa,decide_eq_true_eq] at h;obtain⟨⟨⟨⟨h1,h2⟩,h3⟩,h4⟩,h5⟩:=h;simp only[zkd,zha,bS h4,zea,zpa,ua w h5,List.zipWith_cons_cons]
def DY:∀ {ts:List Ty} {fs:List Field} {off i:Nat} {t:Ty},fL P ts fs off=true->ts[i]?=some t->(fs.zipWith (λf t=>(f.offset,Ty.size t)) ts)[i]?=some (off+Ty.sizes (ts.take i),t.size)
 | ts,fs,off,i,t,h,hi=>by
  obtain⟨f,h1,h2,_⟩:=rQ h hi;grind
def oP{T:TypeId}{ts:List Ty}(hl:bD P (.st ts) T=true)(vs:Array (Nat×Value))(w:World){r:List Value}
  (hf:∀ z:Value,cr (aB (.st ts)).flat z.cells.toList=true->kW (λi=>if i<ts.length then some (Ty.sizes (ts.take i),(ts.getD i .bool).size) else none) z.cells vs.toList=some r.toArray) :
  (Instr.build T vs).run P w=.ok (.agg r.toArray) w:=by
 obtain⟨fs,h1,h2⟩:=iD hl;obtain⟨z,hz,hz2,_⟩:=iU hl;have hlen:(fs.toList.zipWith (λf t=>(f.offset,Ty.size t)) ts).length=ts.length:=by
  have:∀ {ts:List Ty} {fs:List Field} {off:Nat},fL P ts fs off=true->fs.length=ts.length:=by
   intro ts
   induction ts with
   | nil=>intro fs off h;cases fs<;>simp[fL] at h ⊢
   | cons t ts ih=>intro fs off h;cases fs with
    | nil=>simp[fL] at h
    | cons f fs=>simp only[fL,zaa] at h;simp[ih h.2]
  grind
 have hp:(λi=>(fs.toList.zipWith (λf t=>(f.offset,Ty.size t)) ts).toArray[i]?)=λi=>if i<ts.length then some (Ty.sizes (ts.take i),(ts.getD i .bool).size) else none:=by
  funext i;by_cases hi:i<ts.length
  ·have:=DY (i:=i) h2 (zca hi)
   simp_all
  ·simp_all
 have hm:(fs.mapM λf=>(do pure (f.offset,<-sizeOf f.type):Sem (Nat×Nat))).run P w=.ok (fs.toList.zipWith (λf t=>(f.offset,Ty.size t)) ts).toArray w:=by
  rw[<-z8b (xs:=fs),List.mapM_toArray];simp only[Sem.run_map,ua w h2,zea]
 simp only[Instr.build,zha,hz,zea,run_underlying h1,hm,hp,om,hf z hz2,zpa]
def kX(n:Nat)(x:D):D.flats (List.replicate n x)=(List.replicate n x.flat).flatten:=by
 induction n with
 | zero=>rfl
 | succ n ih=>simp only[List.replicate_succ,D.flats,ih,List.flatten_cons]
def KP(c:Cx)(ts:List Ty):List (Nat×AV)->List (Nat×Value)->Prop
 | [],[]=>True
 | (i,x)::ps,(j,v)::vs=>i=j/\(∃ t,ts[i]?=some t/\AV.fits t x=true/\AC c x v.cells.toList)/\KP c ts ps vs
 | _,_=>False
theorem yO{c:Cx}{ts:List Ty}(hn:bi ts=true) :
  ∀ (ps:List (Nat×AV)) (vs:List (Nat×Value)) (l:List AV) (cs:List Value),AV.fitss ts l=true->kh c l cs->KP c ts ps vs ->
   ∃ cs':List Value,kW (λi=>if i<ts.length then some (Ty.sizes (ts.take i),(ts.getD i .bool).size) else none) cs.toArray vs=some cs'.toArray/\AV.fitss ts (mB l ps)=true/\kh c (mB l ps) cs'
 | [],[],l,cs,hf,hc,_=>⟨cs,rfl,hf,hc⟩
 | [],_::_,_,_,_,_,h=>by simp[KP] at h
 | _::_,[],_,_,_,_,h=>by simp[KP] at h
 | (i,x)::ps,(j,v)::vs,l,cs,hf,hc,h=>by
  simp only[KP] at h;obtain⟨rfl,⟨t,h1,h2,h3⟩,h5⟩:=h;obtain⟨y,k1,k2⟩:=tc hf h1;obtain⟨pre,mid,post,rfl,m1,m2,m3⟩:=rI hf hn hc k1;have l2:=(gR _ _ _ k2 m2).1;have l3:=(gR _ _ _ h2 h3).1;obtain⟨cs',n1,n2,n3⟩:=yO hn ps vs (l.set i x) _ (mn hf h1 h2) (m3 x _ h3) h5;refine⟨cs',?_,n2,n3⟩;have hi:=(zna.1 h1).1;rw[s7 (off:=Ty.sizes (ts.take i)) (size:=t.size) (by rw[if_pos hi];simp[List.getD,h1]) (by rw[<-zGb];exact l3) (by simp;omega),<-n1]
  congr 1;have:=gN pre mid post v.cells.toList (by rw[l2,l3])
  simp_all
def Gs(hE:EnvOk P E)(h:Rp w0 S γ β s a w){dst T ps ty pos after guard}:iW P E w0 S γ β s a w ⟨dst,.build T ps,ty,pos,after,guard⟩:=by
 intro R K r hq;simp only[qv] at hq;replace hq:=bind_some_inv hq;obtain⟨t,ht,hq⟩:=hq;have hex:execOp a.eval ⟨dst,.build T ps,ty,pos,after,guard⟩=(Instr.build T (ps.map λp=>(p.1,a.eval p.2)) >>= λv=>pure (.value v)):=rfl;have hmap:(ps.map λp=>(p.1,a.eval p.2)).toList=ps.toList.map λp=>(p.1,a.eval p.2):=by simp
 cases t<;>(try simp only at hq)<;>first|cases hq|skip
 case st ts=>
  rcases hE.lay T _ ht with⟨ts',iV⟩|hl
  ·cases iV
  have hn:=aL _ _ hl;simp only[aq] at hn;split at hq
  ·rename_i hsl;split at hq<;>first|cases hq|skip
   rename_i hall;have hpv:∀ (l:List (Nat×Operand)),l.all (fK s ts)=true->KP ⟨w,S,γ,β,s.ob,s.dead⟩ ts (l.map λp=>(p.1,s.opA p.2)) (l.map λp=>(p.1,a.eval p.2)):=by
    intro l
    induction l with
    | nil=>intro _;simp[KP]
    | cons p l ih=>
     intro hh;simp only[zHb,zaa] at hh;simp only[z6a,KP];refine⟨trivial,?_,ih hh.2⟩;have h1:=hh.1;unfold fK at h1;split at h1<;>first|cases h1|skip
     rename_i u hu;exact⟨u,hu,h1,(yc h1 (bV hn hu) (aW h p.2)).1⟩
   obtain⟨z,hz,hz2,_⟩:=iU hl;have hz3:kh ⟨w,S,γ,β,s.ob,s.dead⟩ (jC ts) z.cells.toList:=kR ts _ hn (by simpa [aB,D.flat] using hz2)
   obtain⟨cs',m1,m2,m3⟩:=yO hn _ _ _ _ (js ts hn) hz3 (hpv ps.toList hall);have hrun:(Instr.build T (ps.map λp=>(p.1,a.eval p.2))).run P w=.ok (.agg cs'.toArray) w:=by
    obtain⟨fs,h1,h2⟩:=iD hl;refine oP hl _ w (r:=cs') λz' hz'=>?_;have hz4:kh ⟨w,S,γ,β,s.ob,s.dead⟩ (jC ts) z'.cells.toList:=kR ts _ hn (by simpa [aB,D.flat] using hz')
    have:z'.cells=z.cells:=z7b (nO hz' hz2)
    simp_all
   exact⟨_,hq,.value (v:=.agg cs'.toArray) (w':=w) (by rw[hex];simp only[zha,hrun,zea,zpa]) (Qp.same h (by
    simp only[AR];exact⟨⟨_,rfl⟩,by simp only[AC];exact⟨hn,m2,by simpa [Value.cells] using m3⟩⟩) _)⟩
  ·replace hq:=bind_some_inv hq;obtain⟨l,hp,hq⟩:=hq;have hpv:=mA h (ty:=λi=>ts[i]?) (λi t hi=>bV hn hi) _ _ hp;have main:∀ z:Value,cr (aB (.st ts)).flat z.cells.toList=true->∃ cs':List Value,kW (λi=>if i<ts.length then some (Ty.sizes (ts.take i),(ts.getD i .bool).size) else none) z.cells (ps.toList.map λp=>(p.1,a.eval p.2))=some cs'.toArray/\ff ts (D.putParts (fV ts) l)/\cG w S (D.flats (D.putParts (fV ts) l)) cs':=by
    intro z hz;refine rP (ty:=λi=>ts[i]?) (off:=λi=>Ty.sizes (ts.take i)) (Good:=λl=>ff ts l) (λl i t z hg hi hz=>xZ hg hi hz) (λl i t hg hi=>?_) (λi t hi=>?_) l _ (fV ts) z.cells.toList (nP ts hn) (cl (by simpa [aB,D.flat] using hz)) hpv
    ·obtain⟨y,h1,h2⟩:=g8 hg hi;exact⟨y,h1,h2,pe _ _ (pg i hg) (gK i hn)⟩
    ·rw[if_pos (zna.1 hi).1];simp only[List.getD,hi,zmb]
   obtain⟨z,hz,hz2,_⟩:=iU hl;obtain⟨cs',m1,m2,m3⟩:=main z hz2;have hrun:(Instr.build T (ps.map λp=>(p.1,a.eval p.2))).run P w=.ok (.agg cs'.toArray) w:=by
    refine oP hl _ w (r:=cs') λz' hz'=>?_;have:z'.cells=z.cells:=z7b (nO hz' hz2);rw[this,hmap,<-m1]
   have hw:wt (.st ts) (.st (D.putParts (fV ts) l)):=by simp only[wt];exact⟨_,rfl,m2⟩
   exact⟨_,hq,.value (v:=.agg cs'.toArray) (w':=w) (by rw[hex];simp only[zha,hrun,zea,zpa]) (Qp.same h (dN (by simpa [aq] using hn) hw ⟨⟨_,rfl⟩,by simpa [Value.cells,D.flat] using m3⟩) _)⟩
 case arr n e=>
  rcases hE.lay T _ ht with⟨ts',iV⟩|hl
  ·cases iV
  have hn:=aL _ _ hl;simp only[aq] at hn;replace hq:=bind_some_inv hq;obtain⟨l,hp,hq⟩:=hq;have hpv:=mA h (ty:=λi=>if i<n then some e else none) (λi t hi=>by split at hi<;>first|(cases hi;exact hn)|cases hi) _ _ hp
  have main:∀ z:Value,cr (aB (.arr n e)).flat z.cells.toList=true->∃ cs':List Value,kW (λi=>some (i*e.size,e.size)) z.cells (ps.toList.map λp=>(p.1,a.eval p.2))=some cs'.toArray/\((D.putParts (List.replicate n (aB e)) l).length=n/\∀ x∈D.putParts (List.replicate n (aB e)) l,wt e x)/\cG w S (D.flats (D.putParts (List.replicate n (aB e)) l)) cs':=by
   intro z hz;refine rP (ty:=λi=>if i<n then some e else none) (off:=λi=>i*e.size) (Good:=λl=>l.length=n/\∀ x∈l,wt e x) (λl i t z hg hi hz=>?_) (λl i t hg hi=>?_) (λi t hi=>?_) l _ (List.replicate n (aB e)) z.cells.toList ⟨by simp,λx hx=>by rw[(zid.1 hx).2];exact cF e hn⟩ (cl (by simpa [aB,D.flat] using hz)) hpv
   ·split at hi<;>first|cases hi|skip
    refine⟨by simpa using hg.1,λx hx=>?_⟩
    rcases zRc hx with h|h
    ·exact hg.2 x h
    ·rw[h];exact hz
   ·split at hi<;>first|cases hi|skip
    rename_i hin;have hil:i<l.length:=by rw[hg.1];exact hin
    refine⟨l[i],zca hil,hg.2 _ (zla hil),?_⟩;rw[aK hn _ (λx hx=>hg.2 x (zSa hx)),zbb,zqb (by omega)]
   ·split at hi<;>first|cases hi|skip
    rfl
  obtain⟨z,hz,hz2,_⟩:=iU hl;obtain⟨cs',m1,m2,m3⟩:=main z hz2;have hrun:(Instr.build T (ps.map λp=>(p.1,a.eval p.2))).run P w=.ok (.agg cs'.toArray) w:=by
   obtain⟨u,h1,h2⟩:=dP hl;simp only[Instr.build,zha,hz,zea,run_underlying h1,bS h2,om,hmap,m1,zpa]
  have hw:wt (.arr n e) (.st (D.putParts (List.replicate n (aB e)) l)):=by simp only[wt];exact⟨_,rfl,m2⟩
  exact⟨_,hq,.value (v:=.agg cs'.toArray) (w':=w) (by rw[hex];simp only[zha,hrun,zea,zpa]) (Qp.same h (dN (by simpa [aq] using hn) hw ⟨⟨_,rfl⟩,by simpa [Value.cells,D.flat] using m3⟩) _)⟩
def Bh(h:Rp w0 S γ β s a w){dst x i ty pos after guard}:iW P E w0 S γ β s a w ⟨dst,.extract x i,ty,pos,after,guard⟩:=by
 intro R K r hq;simp only[qv] at hq;have hx:=aW h x;generalize s.opA x=y at *;split at hq<;>first|cases hq|skip
 rename_i ts z;replace hq:=bind_some_inv hq;obtain⟨u,hu,hq⟩:=hq;replace hq:=bind_some_inv hq;obtain⟨z',hz,hq⟩:=hq;simp only[AR] at hx;rcases hx with⟨h1,_⟩|⟨ts',e,hn,h2,h3⟩
 ·simp[aq] at h1
 ·cases e;simp only[wt] at h2;obtain⟨l,rfl,hw⟩:=h2;simp only[D.tupAt] at hz;simp only[DR] at h3;obtain⟨vs,hv,hlen,hvs⟩:=h3;have hi:i<vs.length:=by grind
  obtain⟨z2,k1,k2⟩:=g8 hw hu;rw[hz] at k1;cases k1;have hv2:=hvs i z' vs[i] hz (zca hi);exact⟨_,hq,.value (v:=vs[i]) (w':=w) (by simp[execOp,Instr.extract,hv,hi]) (Qp.same h (dN (bV hn hu) k2 hv2) _)⟩
def zG(h:Rp w0 S γ β s a w){dst fn first captured ty pos after guard}:iW P E w0 S γ β s a w ⟨dst,.makeFunc fn first captured,ty,pos,after,guard⟩:=by
 intro R K r hq;simp only[qv] at hq;split at hq<;>first|cases hq|skip
 rename_i f;split at hq<;>first|cases hq|skip
 rename_i hf;have e:first=#[]:=Array.eq_empty_of_size_eq_zero hf.1
 refine⟨_,hq,.value (v:=.func (.func f) #[] (captured.map a.eval)) (w':=w) (by simp[execOp,Instr.makeFunc,e]) (Qp.same h ?_ _)⟩
 simp only[AR,AC];refine⟨by simp,(captured.toList.map a.eval),by rw[show captured.map a.eval=(captured.toList.map a.eval).toArray from z7b (by simp)];simp[Value.cells],?_⟩
 have h2:=hf.2;clear hf hq;generalize captured.toList=l at *
 induction l with
 | nil=>simp[mV]
 | cons x l ih=>
  simp only[zHb,zaa] at h2;simp only[z6a,mV];refine⟨_,_,rfl,?_,ih h2.2⟩;have h3:=h2.1;have h4:=aW h x;cases hx:s.opA x<;>rw[hx] at h3 h4<;>simp only[fN] at h3<;>first|(cases h3;done)|skip
  simp only[AR] at h4;obtain⟨k1,k2⟩:=h4
  simp_all [Value.cells]
end
end Sy
end
noncomputable section
namespace Sy
open Go
theorem f9{α:Type}(l:List α):∀ (n i:Nat),i<n*l.length->((List.replicate n l).flatten)[i]?=l[i%l.length]?
 | 0,i,h=>by omega
 | n+1,i,h=>by
  rw[List.replicate_succ,List.flatten_cons,zQc];by_cases hi:i<l.length
  ·simp_all [zHa]
  ·rw[if_neg hi,f9 l n (i-l.length) (by rw[zZa] at h;omega)]
   rw[<-Nat.mod_eq_sub_mod (by omega)]
def wC{w:World}{S:Nat->Nat->Prop}{e:Ty}{zc:Array Value}{m:Nat}(hz:cr (aB e).flat zc.toList=true)(hs:zc.size=m)(n:Nat) :
  cG w S (D.flats (List.replicate n (aB e))) ((Array.range (n*m)).map λi=>zc[i%zc.size]!).toList:=by
 have h0:=cl (w:=w) (S:=S) hz;have hl:(aB e).flat.length=m:=by rw[h0.1];simpa using hs
 refine⟨by rw[kX];simp[hl],λi d c hd hc=>?_⟩
 rw[kX] at hd;have hi:i<n*m:=by have:=(zna.1 hc).1;simpa using this
 rw[f9 _ _ _ (by rw[hl];exact hi),hl] at hd
 have hm:0<m:=by
  rcases zrb m with h|h
  ·subst h;omega
  ·exact h
 have him:i%m<zc.size:=by rw[hs];exact zUa _ hm
 refine h0.2 (i%m) d c hd ?_;simp only[Array.toList_map,zcb,Array.toList_range,zfd hi,zEb,zda] at hc;rw[<-hc,hs];simp[him]
section
variable{P:Program}{E:Env}{w0:Root}{S:Nat->Nat->Prop}{γ:Nat->Option Nat}{β:Nat->Option (Nat×Nat)}{s:St}{a:Act}{w:World}
def rY{c:Array Value}{t:TypeId}:bJ (grown w [.cells c t] w.drawn) w.heap.size=some c:=by
 rw[<-dW];exact t6 w _ rfl
def zP{c:Array Value}{t:TypeId}{d:Nat}:bJ (grown w [.cells c t] d) w.heap.size=some c:=by
 have:=rY (w:=w) (c:=c) (t:=t);rw[show bJ (grown w [.cells c t] d) w.heap.size=bJ (grown w [.cells c t] w.drawn) w.heap.size from rfl];exact this
def Dn{c:Array Value}{t:TypeId}{d:Nat}(j:Nat):(grown w [.cells c t] d).cell? ⟨w.heap.size,j,none⟩=c[j]?:=dp _ zP j
def xu(h:Rp w0 S γ β s a w){v:Nat}(hv:β v=none)(hi:v<s.base+4096){e:Ty}(hn:aq e=true){l:List D}(hl:∀ x∈l,wt e x){cs:List Value}(hc:cG w S (D.flats l) cs){T:TypeId}{rest:List Value}{cap:Nat}(d:Nat)(hdr:w.drawn<=d)(hcap:l.length<=cap)(hrest:cs.length+rest.length=cap*e.size) :
  ∃ S' β',Rp w0 S' γ β' s a (grown w [.cells (cs++rest).toArray T] d)/\AR ⟨grown w [.cells (cs++rest).toArray T] d,S',γ,β',s.ob,s.dead⟩ (.own e v l) (.slice (some ⟨w.heap.size,0,none⟩) l.length cap) ∧
   (∀ b o,S b o->S' b o)/\(∀ u,u≠v->β' u=β u)/\β' v=some (w.heap.size,l.length*e.size)/\(∀ b o,S' b o->S b o\/b=w.heap.size):=by
 let S':Nat->Nat->Prop:=λb o=>S b o\/(b=w.heap.size/\o<l.length*e.size)
 have hSz:∀ b o,S' b o->S b o\/(w.heap.size<=b/\b<(grown w [.cells (cs++rest).toArray T] d).heap.size):=λb o hb=>by
  rcases hb with hb|⟨rfl,_⟩
  ·exact .inl hb
  ·exact .inr ⟨zja _,by simp⟩
 obtain⟨h1,le1⟩:=h.grow (os:=[.cells (cs++rest).toArray T]) (d:=d) hdr (S':=S') (λb o hb=>.inl hb) hSz;have hw0:¬ w0.Old w.heap.size:=λho=>by have:=ho.1;have:=h.ext.sz;omega
 obtain⟨h2,le2⟩:=h1.newTok (v:=v) (b:=w.heap.size) (e:=l.length*e.size) hv hw0 (by simp) (λid hid=>by have:=(h.γn id _ hid).2;omega) (λu f hu hf=>by have:=(h.βn u _ _ hu hf).2.1;omega) hi
  (λo ho hs=>hs.elim (λhs=>by have:=h.Sb _ _ hs;omega) λhs=>by omega)
 refine⟨S',pj β v (w.heap.size,l.length*e.size),h2,?_,λb o hb=>.inl hb,λu hu=>bW β _ hu,bG β _ _,λb o hb=>hb.imp id λhh=>hh.1⟩;have hlen:cs.length=l.length*e.size:=by rw[<-hc.1];exact aK hn l hl
 simp only[AR,AC,Value.cells];refine⟨by simp,hn,hl,_,cap,rfl,?_,λ_=>.inr ⟨w.heap.size,0,rfl,by simp[bG],(cs++rest).length,?_,?_⟩⟩
 ·refine CR.of_elems (b:=w.heap.size) (off:=0) (.inr rfl) hcap ⟨cs,hc.mono le1.cell le1.S,λi c hci=>?_⟩;have hi:=(zna.1 hci).1;refine⟨.inr ⟨rfl,by omega⟩,?_⟩
  rw[Dn];simp only[zHc,z9a];rw[zfb hi];exact hci
 ·simp[mP,zP]
 ·simp;omega
def uO(hE:EnvOk P E)(h:Rp w0 S γ β s a w){dst T n ps ty pos after guard}(hf:Fr E s γ β ⟨dst,.buildSlice T n ps,ty,pos,after,guard⟩):iW P E w0 S γ β s a w ⟨dst,.buildSlice T n ps,ty,pos,after,guard⟩:=by
 intro R K r hq;simp only[qv] at hq;replace hq:=bind_some_inv hq;obtain⟨t,ht,hq⟩:=hq;cases t<;>(try simp only at hq)<;>first|(cases hq;done)|skip
 rename_i e;rcases hE.lay T _ ht with⟨ts',iV⟩|hl
 ·cases iV
 have hn:=aL _ _ hl;simp only[aq] at hn;split at hq<;>first|(cases hq;done)|skip
 rename_i hn4;replace hq:=bind_some_inv hq;obtain⟨d,hd,hq⟩:=hq;replace hq:=bind_some_inv hq;obtain⟨l,hp,hq⟩:=hq;obtain⟨hd4,hγ,hβ,_⟩:=hf rfl d hd;have hpv:=mA h (ty:=λi=>if i<n then some e else none) (λi t hi=>by split at hi<;>first|(cases hi;exact hn)|cases hi) _ _ hp
 obtain⟨u,h1,h2⟩:=iC hl;obtain⟨z,hz,hz2,_⟩:=iU h2;obtain⟨i0,z0,hi1,hi2,mN,_⟩:=fi (gn h2);have hzs:z.cells.size=e.size:=by
  have:=(cl (w:=w) (S:=S) hz2).1;rw[<-zGb,<-this];exact ci _ _ (cF e hn) hn
 have hzero:cG w S (D.flats (List.replicate n (aB e))) ((Array.range (n*e.size)).map λi=>z.cells[i%z.cells.size]!).toList:=wC hz2 hzs n;obtain⟨cs',m1,m2,m3⟩:=rP (place:=λi=>some (i*e.size,e.size)) (ty:=λi=>if i<n then some e else none) (off:=λi=>i*e.size) (Good:=λl=>l.length=n/\∀ x∈l,wt e x) (λl i t z hg hi hz=>by
   split at hi<;>first|(cases hi;done)|skip
   have:e=t:=by injection hi
   subst this;refine⟨by simpa using hg.1,λx hx=>?_⟩
   rcases zRc hx with h|h
   ·exact hg.2 x h
   ·rw[h];exact hz) (λl i t hg hi=>by
   split at hi<;>first|(cases hi;done)|skip
   rename_i hin;have:e=t:=by injection hi
   subst this;have hil:i<l.length:=by rw[hg.1];exact hin
   refine⟨l[i],zca hil,hg.2 _ (zla hil),?_⟩;rw[aK hn _ (λx hx=>hg.2 x (zSa hx)),zbb,zqb (by omega)]) (λi t hi=>by
   split at hi<;>first|(cases hi;done)|skip
   have:e=t:=by injection hi
   subst this;rfl) l _ (List.replicate n (aB e)) _ ⟨by simp,λx hx=>by rw[(zid.1 hx).2];exact cF e hn⟩ hzero hpv
 obtain⟨S',β',k1,k2,k3,k4,k5,_⟩:=xu h (v:=s.base+d) hβ (by omega) hn m2.2 m3 (T:=u) (rest:=[]) (cap:=n) w.drawn (zja _) (by rw[m2.1];exact zja _) (by rw[zib,z2b,<-m3.1,aK hn _ m2.2,m2.1])
 have hsz:¬ n*e.size>2^24:=by
  have:n*e.size<=4096*4096:=zVa hn4 mN.2;omega
 have hmap:(ps.map λp=>(p.1,a.eval p.2)).toList=ps.toList.map λp=>(p.1,a.eval p.2):=by simp
 have hrun:(Instr.buildSlice T n (ps.map λp=>(p.1,a.eval p.2))).run P w=.ok (.slice (some ⟨w.heap.size,0,none⟩) n n) (grown w [.cells cs'.toArray u] w.drawn):=by
  have key:∀ zc:Array Value,((Array.range (n*e.size)).map λi=>zc[i%zc.size]!)=((Array.range (n*e.size)).map λi=>z.cells[i%z.cells.size]!) ->
    kW (λi=>some (i*e.size,e.size)) ((Array.range (n*e.size)).map λi=>zc[i%zc.size]!) (ps.map λp=>(p.1,a.eval p.2)).toList=some cs'.toArray:=λzc hzc=>by
   rw[hzc,hmap];rw[z8b] at m1;exact m1
  by_cases h0:n*e.size=0
  ·have k0:=key #[] (by simp[h0])
   simp only[Instr.buildSlice,zha,run_underlying h1,zea,bS h2,hsz,if_false,if_pos h0,pure_bind,om,k0,newRow,run_newObj,zpa];rw[<-dW];rfl
  ·have k0:=key z.cells rfl;simp only[Instr.buildSlice,zha,run_underlying h1,zea,bS h2,hsz,if_false,if_neg h0,bind_pure_comp,Sem.run_map,hz,pure_bind,om,k0,newRow,run_newObj,zpa];rw[<-dW];rfl
 have hex:execOp a.eval ⟨dst,.buildSlice T n ps,ty,pos,after,guard⟩=(Instr.buildSlice T n (ps.map λp=>(p.1,a.eval p.2)) >>= λv=>pure (.value v)):=rfl;rw[z4b,m2.1] at *;refine⟨_,hq,.value (by rw[hex];simp only[zha,hrun,zea,zpa]) ⟨S',γ,β',k1,k2,k3,⟨_,_,rfl⟩,λ_ _ hh=>hh,λid hid=>⟨rfl,k4 id λhh=>?_⟩⟩⟩
 subst hh;rcases hid with hid|hid
 ·rw[hd] at hid;exact hid (by rw[zAb])
 ·omega
end
end Sy
end
noncomputable section
namespace Sy
open Go
mutual
theorem E4:∀ (x y:D),D.beq x y=true->x=y
 | .int k n,y,h=>by cases y<;>simp_all [D.beq]
 | .bool b,y,h=>by cases y<;>simp_all [D.beq]
 | .str b,y,h=>by cases y<;>simp_all [D.beq]
 | .st l,y,h=>by
  cases y<;>simp only[D.beq] at h<;>first|(cases h;done)|skip
  rw[BU _ _ h]
 | .sl l,y,h=>by cases y<;>simp[D.beq] at h
 | .tup l,y,h=>by cases y<;>simp[D.beq] at h
theorem BU:∀ (l l':List D),D.beqs l l'=true->l=l'
 | [],l',h=>by cases l'<;>simp_all [D.beqs]
 | x::l,l',h=>by
  cases l' with
  | nil=>simp[D.beqs] at h
  | cons y l'=>
   simp only[D.beqs,zaa] at h;rw[E4 _ _ h.1,BU _ _ h.2]
end
section
variable{P:Program}{E:Env}{w0:Root}{S:Nat->Nat->Prop}{γ:Nat->Option Nat}{β:Nat->Option (Nat×Nat)}{s:St}{a:Act}{w:World}
theorem nv{α:Type}(g:α->PUnit->Sem (ForInStep PUnit)){w:World}:∀ (l:List α),(∀ x∈l,(g x ⟨⟩).run P w=.ok (.yield ⟨⟩) w)->(forIn l PUnit.unit g).run P w=.ok ⟨⟩ w
 | [],_=>rfl
 | x::l,h=>by
  simp only[List.forIn_cons,zha,h x zma,zea];exact nv g l λy hy=>h y (zia _ hy)
def kq{w:World}{b n:Nat}{es:Array MapEntry}(h:w.heap[b]?=some (.map es n)):(getObj b).run P w=.ok (.map es n) w:=by simp[getObj,Sem.run,h]
mutual
theorem jg:∀ (ty:Ty) (T:TypeId) (x:D) (cx:List Value) (vx:Value) (n:Nat) (e:Bool),bD P ty T=true->bI ty=true->ty.high<=n->wt ty x->cG w S x.flat cx->ga ty cx vx->∀ w',(Instr.checkKey e n T vx).run P w'=.ok () w'
 | .int k,T,x,cx,vx,n,e,hl,_,hd,hx,rx,ix,w'=>by
  simp only[wt] at hx;obtain⟨m,rfl⟩:=hx;obtain⟨c1,rfl,r1⟩:=rx.single';rw[eH ix rfl,r1.int_inv];obtain⟨n,rfl⟩:∃ e,n=e+1:=⟨n-1,by simp only[Ty.high] at hd;omega⟩
  simp only[Instr.checkKey,zha,run_underlying (jo hl),zea,zpa]
 | .bool,T,x,cx,vx,n,e,hl,_,hd,hx,rx,ix,w'=>by
  simp only[wt] at hx;obtain⟨m,rfl⟩:=hx;obtain⟨c1,rfl,r1⟩:=rx.single';rw[eH ix rfl,r1.bool_inv];obtain⟨n,rfl⟩:∃ e,n=e+1:=⟨n-1,by simp only[Ty.high] at hd;omega⟩
  have hu:P.underlying T=some .bool:=by
   simp only[bD,zaa] at hl;all_goals grind
  simp only[Instr.checkKey,zha,run_underlying hu,zea,zpa]
 | .st ts,T,x,cx,vx,n,e,hl,hc,hd,hx,rx,ix,w'=>by
  simp only[wt] at hx;obtain⟨l,rfl,hx⟩:=hx;rw[ie ix rfl];obtain⟨fs,h1,h2⟩:=iD hl;simp only[Ty.high] at hd;obtain⟨n,rfl⟩:∃ e,n=e+1:=⟨n-1,by omega⟩
  simp only[bI] at hc;simp only[D.flat] at rx;simp only[Instr.checkKey,zha,run_underlying h1,zea];rw[<-Array.forIn_toList,nv (P:=P) (w:=w')]
  ·rfl
  ·intro f hf;have key:=lu ts fs.toList 0 l [] cx cx.toArray n e h2 hc (by omega) hx rx rfl rfl w' f hf
   by_cases hn : f.name ≠ "_"
   ·rw[if_pos hn] at key ⊢;simp only[zha] at key ⊢;cases hp:(part f.type cx.toArray f.offset).run P w' with
    | ok v w2=>
     rw[hp] at key;simp only[zea] at key ⊢;rw[key];rfl
    | _=>rw[hp] at key;simp[Result.andThen] at key
   ·rw[if_neg hn];rfl
 | .arr m t,T,x,cx,vx,n,e,hl,hc,hd,hx,rx,ix,w'=>by
  simp only[wt] at hx;obtain⟨l,rfl,hxl,hx⟩:=hx;rw[ie ix rfl];obtain⟨u,h1,h2⟩:=dP hl;simp only[Ty.high] at hd;obtain⟨n,rfl⟩:∃ e,n=e+1:=⟨n-1,by omega⟩
  simp only[bI] at hc;simp only[D.flat] at rx;have hn:=aL _ _ h2;simp only[Instr.checkKey,zha,run_underlying h1,zea];rw[Std.Legacy.Range.forIn_eq_forIn_range',nv (P:=P) (w:=w')]
  ·rfl
  ·intro j hj;have hjn:j<m:=by simp at hj;omega
   have e1:l[j]?=some (l.getD j (.bool false)):=by simp[List.getD,zca (hxl ▸ hjn)]
   generalize l.getD j (.bool false)=dx at *;have wx:=hx dx (z8a e1);have rx':=rx;rw[bZ e1] at rx';obtain⟨p1,p2⟩:=rx'.split;obtain⟨p3,p4⟩:=p2.split;have o1:(cx.take (D.flats (l.take j)).length).length=j*t.size:=by
    rw[<-p1.1,aK hn _ (λx hx'=>hx x (zSa hx')),zbb,zqb (by omega)]
   obtain⟨v1,r1,i1⟩:=gL h2 (cs:=cx.toArray) (pre:=cx.take (D.flats (l.take j)).length) (mid:=(cx.drop (D.flats (l.take j)).length).take dx.flat.length) (post:=(cx.drop (D.flats (l.take j)).length).drop dx.flat.length)
     (by simp only[zsa]) (by rw[<-p3.1];exact ci _ _ wx hn) p3.nag w'
   rw[o1] at r1;have r3:=jg t u dx _ v1 n e h2 hc (by omega) wx p3 i1 w'
   simp only[zha,bS h2,zea,r1,r3,zpa]
 | .str,_,_,_,_,_,_,_,hc,_,_,_,_,_=>by simp[bI] at hc
 | .sl _,_,_,_,_,_,_,_,hc,_,_,_,_,_=>by simp[bI] at hc
 | .tup _,_,_,_,_,_,_,_,hc,_,_,_,_,_=>by simp[bI] at hc
 | .fn,_,_,_,_,_,_,_,hc,_,_,_,_,_=>by simp[bI] at hc
theorem lu:∀ (ts:List Ty) (fs:List Field) (off:Nat) (l:List D) (px cx:List Value) (xs:Array Value) (n:Nat) (e:Bool),fL P ts fs off=true->lv ts=true->Ty.highs ts<=n->ff ts l->cG w S (D.flats l) cx ->
  xs.toList = px ++ cx -> px.length = off -> ∀ w', ∀ f ∈ fs, (if f.name ≠ "_" then (part f.type xs f.offset >>= λv => Instr.checkKey e n f.type v) else pure ()).run P w' = .ok () w'
 | [],fs,off,l,px,cx,xs,n,e,hf,_,_,_,_,_,_,w'=>by
  all_goals grind [fL]
 | t::ts,[],off,l,px,cx,xs,n,e,hf,_,_,_,_,_,_,w'=>by simp[fL] at hf
 | t::ts,f::fs,off,l,px,cx,xs,n,e,hf,hc,hd,hx,rx,ex,lx,w'=>by
  simp only[fL,zaa,decide_eq_true_eq] at hf;obtain⟨⟨⟨⟨h1,h2⟩,h3⟩,h4⟩,h5⟩:=hf;simp only[ff] at hx;obtain⟨dx,l,rfl,hx1,hx2⟩:=hx;simp only[D.flats] at rx;obtain⟨p3,p4⟩:=rx.split;have hn:=aL _ _ h4;simp only[lv,zaa] at hc;simp only[Ty.highs] at hd;obtain⟨v1,r1,i1⟩:=gL h4 (cs:=xs) (pre:=px) (mid:=cx.take dx.flat.length) (post:=cx.drop dx.flat.length) (by rw[ex,zsa]) (by rw[<-p3.1];exact ci _ _ hx1 hn) p3.nag w'
  rw[lx,<-h1] at r1;have r3:=jg t f.type dx _ v1 n e h4 hc.1 (by omega) hx1 p3 i1 w'
  have hs1:(cx.take dx.flat.length).length=t.size:=by rw[<-p3.1];exact ci _ _ hx1 hn
  have ih:=lu ts fs (off+t.size) l (px++cx.take dx.flat.length) (cx.drop dx.flat.length) xs n e h5 hc.2 (by omega) hx2 p4
   (by rw[zOa,zsa];exact ex) (by rw[zua,lx,hs1]) w'
  intro g hg;rcases zEa.1 hg with rfl|hg
  ·rw[if_pos h2,zha,r1,zea,r3]
  ·exact ih g hg
end
def An:List D->D->List MapEntry->Nat->Option (Nat×Value)
 | .st [k,_]::l,x,e::es,i=>if D.beq x k then some (i,e.val) else An l x es (i+1)
 | _,_,_,_=>none
theorem tb{c:Cx}{kt vt:Ty}{T:TypeId}{x:D}{vx:Value}(hl:bD P kt T=true)(hc:bI kt=true)(hx:wt kt x)(rx:fZ c.w c.S x vx){desc:TypeDesc}(hu:P.underlying T=some desc):∀ (l:List D) (es:List MapEntry) (j i:Nat) (r:Option (Nat×Value)),il c kt vt j l es->Instr.findNow desc vx es i=some r->r=An l x es i
 | [],[],j,i,r,_,h=>by simp only[Instr.findNow,zda] at h;rw[<-h];rfl
 | [],_::_,j,i,r,h,_=>h.elim
 | _::_,[],j,i,r,h,_=>h.elim
 | y::l,e::es,j,i,r,h,hr=>by
  simp only[il] at h;obtain⟨⟨_,k,v,rfl,hk,hv,rk,rv⟩,h2⟩:=h;simp only[Instr.findNow] at hr;have key:∀ b,Instr.sameNow desc vx e.key=some b->b=D.beq x k:=by
   intro b hb;cases kt<;>simp only[wt] at hx hk
   case int kk=>
    obtain⟨n,rfl⟩:=hx;obtain⟨m,rfl⟩:=hk;rw[rx.int_inv,rk.int_inv] at hb;rw[jo hl] at hu;cases hu;simp only[Instr.sameNow,if_true,zda] at hb;rw[<-hb];simp[D.beq];rfl
   case bool=>
    obtain⟨n,rfl⟩:=hx;obtain⟨m,rfl⟩:=hk;rw[rx.bool_inv,rk.bool_inv] at hb;simp only[bD,zaa] at hl;have h3:=hl.2;rw[hu] at h3;cases desc<;>simp at h3;simp only[Instr.sameNow,zda] at hb;rw[<-hb];rfl
   case st ts=>
    obtain⟨fs,h3,_⟩:=iD hl;rw[hu] at h3;cases h3;simp[Instr.sameNow] at hb
   case arr m t=>
    obtain⟨u,h3,_⟩:=dP hl;rw[hu] at h3;cases h3;simp[Instr.sameNow] at hb
   all_goals simp[bI] at hc
  cases hs:Instr.sameNow desc vx e.key with
  | none=>rw[hs] at hr;simp at hr
  | some b=>
   rw[hs] at hr;have:=key b hs;subst this;cases hb:D.beq x k
   ·rw[hb] at hr;simp only at hr;have:=tb hl hc hx rx hu l es (j+1) (i+1) r h2 hr;grind [An,Bool.false_eq_true]
   ·grind [Option.some.injEq,An]
theorem mY{c:Cx}{kt vt:Ty}{T:TypeId}{x:D}{vx:Value}(hl:bD P kt T=true)(hc:bI kt=true)(hh:kt.high<=1000)(hx:wt kt x)(rx:fZ c.w c.S x vx)(w':World):∀ (l:List D) (es:List MapEntry) (j i:Nat),il c kt vt j l es->(Instr.findAsking T vx es i).run P w'=.ok (An l x es i) w'
 | [],[],j,i,_=>rfl
 | [],_::_,j,i,h=>h.elim
 | _::_,[],j,i,h=>h.elim
 | y::l,e::es,j,i,h=>by
  simp only[il] at h;obtain⟨⟨_,k,v,rfl,hk,hv,rk,rv⟩,h2⟩:=h;have hn:=aL _ _ hl;have i1:ga kt vx.cells.toList vx:=⟨rfl,nN hx hn rx.1⟩;have i2:ga kt e.key.cells.toList e.key:=⟨rfl,nN hk hn rk.1⟩;have r3:=oe kt T x k _ _ _ _ 10000 hl hc (by omega) hx hk rx.2 rk.2 i1 i2 w'
  simp only[Instr.findAsking,Op.equal,Op.maxDepth,zha,r3,zea,An];cases D.beq x k
  ·simp only[zBa,if_false];exact mY hl hc hh hx rx w' l es (j+1) (i+1) h2
  ·simp
def s9{c:Cx}{kt vt:Ty}{T:TypeId}{x:D}{vx:Value}(hl:bD P kt T=true)(hc:bI kt=true)(hh:kt.high<=1000)(hx:wt kt x)(rx:fZ c.w c.S x vx)(w':World){l:List D}{es:List MapEntry}{j:Nat}(h:il c kt vt j l es) :
  (Instr.findKey T vx es).run P w'=.ok (An l x es 0) w':=by
 have hu:∃ d,P.underlying T=some d:=by
  cases kt<;>simp only[bI] at hc<;>first|(cases hc;done)|skip
  ·exact⟨_,jo hl⟩
  ·simp only[bD,zaa] at hl;have h2:=hl.2;split at h2
   ·rename_i hu;exact⟨_,hu⟩
   ·cases h2
  ·obtain⟨fs,h1,_⟩:=iD hl;exact⟨_,h1⟩
  ·obtain⟨u,h1,_⟩:=dP hl;exact⟨_,h1⟩
 obtain⟨d,hu⟩:=hu;simp only[Instr.findKey,zha,run_underlying hu,zea];split
 ·rename_i r hr;rw[tb hl hc hx rx hu l es j 0 r h hr];rfl
 ·exact mY hl hc hh hx rx w' l es j 0 h
theorem Ci{c:Cx}{kt vt:Ty}{x:D}:∀ (l:List D) (es:List MapEntry) (j i:Nat),il c kt vt j l es ->
  match An l x es i with
  | none=>D.mget l x=none
  | some (_,v)=>∃ d,D.mget l x=some d/\wt vt d/\fZ c.w c.S d v
 | [],[],j,i,_=>rfl
 | [],_::_,j,i,h=>h.elim
 | _::_,[],j,i,h=>h.elim
 | y::l,e::es,j,i,h=>by
  simp only[il] at h;obtain⟨⟨_,k,v,rfl,hk,hv,rk,rv⟩,h2⟩:=h;simp only[An,D.mget];cases hb:D.beq x k
  ·simp only[zBa,if_false];exact Ci l es (j+1) (i+1) h2
  ·simp_all
def D6(hE:EnvOk P E)(h:Rp w0 S γ β s a w){dst T x i cok ty pos after guard}:iW P E w0 S γ β s a w ⟨dst,.lookup T x i cok,ty,pos,after,guard⟩:=by
 intro R K r hq;simp only[qv] at hq;replace hq:=bind_some_inv hq;obtain⟨kv,hkv,hq⟩:=hq;obtain⟨kt0,vt0⟩:=kv;have hx:=aW h x;generalize s.opA x=ax at *;cases ax<;>(try simp only at hq)<;>first|(cases hq;done)|skip
 rename_i kt vt id;split at hq<;>first|(cases hq;done)|skip
 rename_i hb;simp only[zaa] at hb;have e1:=Ty.eq_of_beq _ _ hb.1;have e2:=Ty.eq_of_beq _ _ hb.2;subst e1;subst e2;split at hq<;>first|(cases hq;done)|skip
 rename_i kt' vt' l hob;split at hq<;>first|(cases hq;done)|skip
 rename_i hb2;simp only[zaa] at hb2;have e1:=Ty.eq_of_beq _ _ hb2.1;have e2:=Ty.eq_of_beq _ _ hb2.2;subst e1;subst e2;replace hq:=bind_some_inv hq;obtain⟨ix,hix,hq⟩:=hq;split at hq<;>first|(cases hq;done)|skip
 rename_i hb3;have hi:=aW h i;rw[dO hix,Ty.eq_of_beq _ _ hb3] at hi;obtain⟨hc,KT,VT,hu,hlk,hlv,hh⟩:=hE.mapL T _ _ hkv;have hnk:=aL _ _ hlk;have hnv:=aL _ _ hlv;obtain⟨k1,k2⟩:=yd hi hnk;simp only[AR,AC] at hx;obtain⟨na,b,hcs,hγ,_,_,_⟩:=hx;have hv:=ay na hcs;have hO:=h.obs id _ b hob hγ;simp only[gH] at hO;obtain⟨_,_,_,es,hes,hM⟩:=hO;have i1:ga kt' (a.eval i).cells.toList (a.eval i):=⟨rfl,nN k1 hnk k2.1⟩;have rc:=jg (S:=S) (w:=w) kt' KT ix.2 _ _ 10000 es.isEmpty hlk hc (by omega) k1 k2.2 i1 w
 have rf:=s9 (P:=P) hlk hc hh k1 k2 w hM;have rg:=Ci (x:=ix.2) l es.toList 0 0 hM;obtain⟨z,hz1,hz2,hz3⟩:=iU hlv;have hzAR:wt vt' (aB vt')/\fZ w S (aB vt') z:=by
  have wz:=cF vt' hnv;refine⟨wz,?_⟩;have hAC:AC ⟨w,S,γ,β,s.ob,s.dead⟩ (.d vt' (aB vt')) z.cells.toList:=by simp only[AC];exact⟨wz,hnv,cl hz2⟩
  have iv:ga vt' z.cells.toList z:=⟨rfl,λha=>(hz3.2 ha),λha xs e=>by have:=hz3.1 ⟨xs,e⟩;rw[ha] at this;cases this⟩
  exact(yd (uS (bH _ _) hAC iv) hnv).2
 have run:∃ v d,(D.mget l ix.2).getD (aB vt')=d/\wt vt' d/\fZ w S d v/\(execOp a.eval ⟨dst,.lookup T x i cok,ty,pos,after,guard⟩).run P w=.ok (.value (if cok then .tuple #[v,.bool (D.mget l ix.2).isSome] else v)) w:=by
  have hex:(execOp a.eval ⟨dst,.lookup T x i cok,ty,pos,after,guard⟩)=(Instr.lookup T (a.eval x) (a.eval i) cok >>= λv=>pure (.value v)):=rfl;rw[hex,hv];cases hf:An l ix.2 es.toList 0 with
  | none=>
   rw[hf] at rg rf;simp only at rg;refine⟨z,aB vt',by rw[rg];rfl,hzAR.1,hzAR.2,?_⟩
   simp only[Instr.lookup,zha,run_underlying hu,zea,kq hes,zpa,rc,rf,hz1,rg];rfl
  | some p=>
   obtain⟨n,v⟩:=p;rw[hf] at rg rf;simp only at rg;obtain⟨d,g1,g2,g3⟩:=rg;refine⟨v,d,by rw[g1];rfl,g2,g3,?_⟩
   simp only[Instr.lookup,zha,run_underlying hu,zea,kq hes,zpa,rc,rf,g1];rfl
 obtain⟨v,d,r1,r2,r3,r4⟩:=run;rw[r1] at hq;cases cok with
 | false=>
  simp only at hq;simp only[zBa,if_false] at r4;exact⟨_,hq,.value r4 (Qp.same h (dN hnv r2 r3) _)⟩
 | true=>
  simp only at hq;simp only[if_true] at r4;refine⟨_,hq,.value r4 (Qp.same h ?_ _)⟩;simp only[AR];refine .inr ⟨_,rfl,by simp[bi,hnv,aq],?_,?_⟩
  ·simp only[wt,ff];exact⟨_,rfl,d,_,rfl,r2,_,_,rfl,⟨_,rfl⟩,rfl⟩
  ·refine⟨[v,.bool (D.mget l ix.2).isSome],rfl,rfl,λi dd u h1 h2=>?_⟩;rcases i with _|_|i
   ·simp at h1 h2;subst h1;subst h2;exact r3
   ·simp at h1 h2;subst h1;subst h2;exact fZ.of_CR (.bool _)
   ·simp at h1
end
end Sy
end
end Go.Proofs.YtpahompifldeeaaGreat
