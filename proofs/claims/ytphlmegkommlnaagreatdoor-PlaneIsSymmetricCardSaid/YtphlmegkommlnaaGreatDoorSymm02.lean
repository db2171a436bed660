/- Part 2 of the proof that PlaneIsSymmetric answers true at every input -/
import Derived.Test.YtphlmegkommlnaaGreatDoorSymm01
import Derived.ProofKit
import Derived.Deep.Slices
import Derived.OpenShut
import Derived.OrdersIn
import Derived.TacticsIn
import Derived.RangeFuncIn
import Derived.RangeFuncCalls
import Derived.Scope
import Derived.StillTail
import Derived.ChangeKeysEq
set_option linter.unusedVariables false
set_option linter.unusedSimpArgs false
set_option linter.unnecessarySimpa false
set_option linter.defProp false
set_option maxRecDepth 20000
namespace Go.Proofs.YtphlmegkommlnaaGreatDoor
noncomputable section
namespace Sy
open Go
section
variable{H:Type}{enc:TypeId×Value->H}{P:Program}{W:World}{base:Nat}{spare:Nat->Bool}{held:Bool}
def oO(W:World)(b o:Nat):Prop:=(W.cell? ⟨b,o,none⟩).isSome=true
def valid_lt{b o:Nat}(h:oO W b o):b<W.heap.size:=by
 unfold oO World.cell? at h;rcases zna b W.heap.size with k|k
 ·exact k
 ·simp only[Array.getElem?_eq_none k] at h;cases h
mutual
def Mb:D->Prop
 | .int k n=>(Lit.int k n).wf=true
 | .bool _=>True
 | .str s=>s.size<=maxLen
 | .st l=>w8 l
 | .sl l=>l.length<=maxLen/\w8 l
 | .tup l=>w8 l
def w8:List D->Prop
 | []=>True
 | d::l=>Mb d/\w8 l
end
theorem tf:∀ {l:List D},w8 l↔∀ d∈l,Mb d
 | []=>by simp[w8]
 | d::l=>by simp[w8,tf (l:=l)]
mutual
def oB:Ty->Bool
 | .st ts=>xb ts
 | .arr _ t=>oB t
 | .sl t=>decide (0<t.size)&&oB t
 | .tup _=>false
 | .fn=>false
 | _=>true
def xb:List Ty->Bool
 | []=>true
 | t::ts=>oB t&&xb ts
end
def jD{T:TypeId}{ty:Ty}(h:bC P ty T=true):P.cellsOf T=ty.size:=by
 obtain⟨i,z,h1,h2,_⟩:=eO (fQ h);simp[Program.cellsOf,h1,h2]
def cF.one'{S:Nat->Nat->Prop}{d:D}{c:Value}(h:CR W S d c):cF W S [d] [c]:=⟨rfl,λi d' c' hd hc=>by
 cases i with
 | zero=>simp at hd hc;subst hd;subst hc;exact h
 | succ i=>simp at hd⟩
mutual
theorem rE:∀ (ty:Ty) (T:TypeId) (fuel:Nat) (cs:List Value) (x:DataW H×List MemPlace),bC P ty T=true->oB ty=true->DataW.trod enc P W base spare held fuel T cs=some x->∃ d,wt ty d/\Mb d/\cF W (oO W) d.flat cs
 | .int k,T,fuel,cs,x,hl,_,h=>by
  obtain⟨n,rfl,_,hw⟩:=DataW.trod_int (ja hl) h;exact⟨.int k n,⟨n,rfl⟩,hw,cF.one' (.int k n)⟩
 | .bool,T,fuel,cs,x,hl,_,h=>by
  have hu:P.underlying T=some .bool:=by
   simp only[bC,zaa] at hl;have h2:=hl.2;split at h2
   ·assumption
   ·cases h2
  obtain⟨b,rfl,_⟩:=DataW.trod_bool hu h;exact⟨.bool b,⟨b,rfl⟩,trivial,cF.one' (.bool b)⟩
 | .str,T,fuel,cs,x,hl,_,h=>by
  have hu:P.underlying T=some .string:=by
   simp only[bC,zaa] at hl;have h2:=hl.2;split at h2
   ·assumption
   ·cases h2
  obtain⟨s,rfl,_,hw⟩:=DataW.trod_string hu h;exact⟨.str s,⟨s,rfl⟩,hw,cF.one' (.str s)⟩
 | .st ts,T,fuel,cs,x,hl,hp,h=>by
  obtain⟨fs,hu,hf⟩:=ij hl;obtain⟨xs,n,_,_,hlen,hxl,hx⟩:=DataW.trod_struct hu h;rw[jD hl] at hlen;obtain⟨l,h1,hok,h2⟩:=zL ts fs.toList 0 cs n hf (by simpa only[oB] using hp) (λi f hi=>by
   have hi':fs[i]?=some f:=by simpa using hi
   have hlt:i<xs.length:=by rw[hxl];exact(zfa.1 hi').1
   exact⟨xs[i],(hx i f hi').trans (zda hlt)⟩) (by rw[hlen];simp[Ty.size])
  refine⟨.st l,⟨l,rfl,h1⟩,hok,?_⟩;have:(cs.drop 0).take (Ty.sizes ts)=cs:=by
   rw[List.drop_zero,zgb (by rw[hlen];simp[Ty.size])]
  rw[this] at h2;exact h2
 | .arr n e,T,fuel,cs,x,hl,hp,h=>by
  obtain⟨u,hu,hl'⟩:=dC hl;obtain⟨xs,m,_,_,hlen,hxl,hx⟩:=DataW.trod_array hu h;rw[jD hl] at hlen;rw[jD hl'] at hx;simp only[oB] at hp;have key:∀ k,k<=n->∃ l:List D,l.length=k/\(∀ y∈l,wt e y/\Mb y)/\cF W (oO W) (D.flats l) (cs.take (k*e.size)):=by
   intro k
   induction k with
   | zero=>intro _;exact⟨[],rfl,by simp,by simp[D.flats,cF.nil]⟩
   | succ k ih=>
    intro hk;obtain⟨l,h1,h2,h3⟩:=ih (by omega)
    have hxk:=hx k (by omega)
    rw[zda (show k<xs.length by omega)] at hxk
    obtain⟨d,h4,h4',h5⟩:=rE e u m _ _ hl' hp hxk;refine⟨l++[d],by simp[h1],λy hy=>?_,?_⟩
    ·rcases List.mem_append.1 hy with hy|hy
     ·exact h2 y hy
     ·rw[zHa.1 hy];exact⟨h4,h4'⟩
    ·have e1:cs.take ((k+1)*e.size)=cs.take (k*e.size)++(cs.drop (k*e.size)).take e.size:=by
      rw[zYa,zyc,List.take_add]
     rw[e1,bQ];refine h3.append ?_;simpa [D.flats] using h5
  obtain⟨l,h1,h2,h3⟩:=key n (zha n);refine⟨.st l,⟨l,rfl,h1,λy hy=>(h2 y hy).1⟩,tf.2 λy hy=>(h2 y hy).2,?_⟩;rw[zgb (by rw[hlen];simp[Ty.size])] at h3
  exact h3
 | .sl e,T,fuel,cs,x,hl,hp,h=>by
  obtain⟨u,hu,hl'⟩:=ii hl;simp only[oB,zaa,decide_eq_true_eq] at hp;rcases DataW.trod_slice hu h with⟨rfl,_⟩|⟨a,len,cap,elems,rest,m,_,rfl,_,hb,hlc,hcm,hel,hx,_,_⟩
  ·exact⟨.sl [],⟨[],rfl,by simp⟩,⟨zma _,trivial⟩,cF.one' (CR.of_elems (l:=[]) (b:=0) (off:=0) (.inl rfl) (zha _) ⟨[],cF.nil,by simp⟩)⟩
  ·rw[jD hl'] at hx;by_cases h0:len=0
   ·subst h0;exact⟨.sl [],⟨[],rfl,by simp⟩,⟨zma _,trivial⟩,cF.one' (CR.of_elems (l:=[]) (b:=0) (off:=0) (.inl rfl) (zma _) ⟨[],cF.nil,by simp⟩)⟩
   ·have hsp:∃ b off,a=⟨b,off,none⟩:=by
     have:=hx 0 (by omega)
     rw[zda (show 0<elems.length by omega)] at this
     obtain⟨cs',h1,_⟩:=Option.bind_eq_some_iff.1 this;obtain⟨_,h2,h3⟩:=World.cells?_some h1;have h4:=h3 0 hp.1;rw[zda (show 0<cs'.length by omega)] at h4
     have e0:(a.add (0*e.size)).add 0=a:=by simp[Addr.add]
     rw[e0] at h4;obtain⟨b,off,sp⟩:=a;cases sp with
     | none=>exact⟨b,off,rfl⟩
     | some s=>
      exfalso;unfold World.cell? at h4;split at h4
      ·simp at h4
      ·cases h4
    obtain⟨b,off,rfl⟩:=hsp;have key:∀ k,k<=len->∃ (l:List D) (cs:List Value),l.length=k/\(∀ y∈l,wt e y/\Mb y)/\cF W (oO W) (D.flats l) cs/\∀ j c,cs[j]?=some c->W.cell? ⟨b,off+j,none⟩=some c:=by
     intro k
     induction k with
     | zero=>intro _;exact⟨[],[],rfl,by simp,cF.nil,by simp⟩
     | succ k ih=>
      intro hk;obtain⟨l,cs,h1,h2,h3,h4⟩:=ih (by omega)
      have hxk:=hx k (by omega)
      rw[zda (show k<elems.length by omega)] at hxk
      obtain⟨cs',q1,q2⟩:=Option.bind_eq_some_iff.1 hxk;obtain⟨_,q3,q4⟩:=World.cells?_some q1;obtain⟨d,h5,h5',h6⟩:=rE e u m _ _ hl' hp.2 q2;have hn:aj e=true:=aD e u hl';have hcl:cs.length=k*e.size:=by rw[<-h3.1,aB hn l (λy hy=>(h2 y hy).1),h1]
      refine⟨l++[d],cs++cs',by simp[h1],λy hy=>?_,?_,λj c hc=>?_⟩
      ·rcases List.mem_append.1 hy with hy|hy
       ·exact h2 y hy
       ·rw[zHa.1 hy];exact⟨h5,h5'⟩
      ·rw[bQ];refine h3.append ?_;simpa [D.flats] using h6
      ·rcases zna j cs.length with hj|hj
       ·rw[zeb hj] at hc;exact h4 j c hc
       ·rw[zub hj] at hc;have hlt:j-cs.length<e.size:=by
         have:=(zja.1 hc).1;omega
        have:=q4 (j-cs.length) hlt;rw[hc] at this;rw[cN,cN] at this;rw[show off+k*e.size+(j-cs.length)=off+j by omega] at this
        exact this
    obtain⟨l,cs,h1,h2,h3,h4⟩:=key len (zha _);refine⟨.sl l,⟨l,rfl,λy hy=>(h2 y hy).1⟩,⟨by omega,tf.2 λy hy=>(h2 y hy).2⟩,cF.one' ?_⟩
    rw[<-h1];exact CR.of_elems (b:=b) (off:=off) (.inr rfl) (by omega) ⟨cs,h3,λi c hc=>⟨by unfold oO;rw[h4 i c hc];rfl,h4 i c hc⟩⟩
 | .tup _,_,_,_,_,hl,_,_=>by simp[bC] at hl
 | .fn,_,_,_,_,hl,_,_=>by simp[bC] at hl
theorem zL:∀ (ts:List Ty) (fs:List Field) (off:Nat) (cs:List Value) (n:Nat),fl P ts fs off=true->xb ts=true ->
  (∀ (i:Nat) (f:Field),fs[i]?=some f->∃ x:DataW H×List MemPlace,DataW.trod enc P W base spare held n f.type ((cs.drop f.offset).take (P.cellsOf f.type))=some x)->off+Ty.sizes ts<=cs.length ->
  ∃ l,er ts l/\w8 l/\cF W (oO W) (D.flats l) ((cs.drop off).take (Ty.sizes ts))
 | [],_,off,cs,n,_,_,_,_=>⟨[],rfl,trivial,by simp[D.flats,Ty.sizes,cF.nil]⟩
 | t::ts,[],off,cs,n,h,_,_,_=>by simp[fl] at h
 | t::ts,f::fs,off,cs,n,h,hp,hx,hle=>by
  simp only[fl,zaa,decide_eq_true_eq] at h;obtain⟨⟨⟨⟨h1,_⟩,h2⟩,h3⟩,h4⟩:=h;simp only[xb,zaa] at hp;simp only[Ty.sizes] at hle ⊢;obtain⟨x,hx0⟩:=hx 0 f rfl;rw[jD h3,h1] at hx0;obtain⟨d,q1,q1',q2⟩:=rE t f.type n _ _ h3 hp.1 hx0;obtain⟨l,q3,q3',q4⟩:=zL ts fs (off+t.size) cs n h4 hp.2 (λi g hi=>hx (i+1) g (by simpa using hi)) (by omega)
  refine⟨d::l,⟨d,l,rfl,q1,q3⟩,⟨q1',q3'⟩,?_⟩;rw[List.take_add,zzd];simp only[D.flats];exact q2.append q4
end
end
end Sy
end
noncomputable section
namespace Sy
open Go
theorem bind_some_inv.{u,v}{α:Type u}{β:Type v}{x:Option α}{f:α->Option β}{r:β}(h:x.bind f=some r):∃ a,x=some a/\f a=some r:=by
 cases x with
 | none=>cases h
 | some a=>exact⟨a,rfl,h⟩
def mU{t t':Ty}{x:D}(h:AV.fits t (.d t' x)=true):t=t':=by
 have hf':t.beq t'=true:=by simp_all [AV.fits]
 exact Ty.eq_of_beq _ _ hf'
def Ty.beq_refl':∀ (t:Ty),t.beq t=true:=by
 intro t;exact(Ty.rec (motive_1:=λt=>t.beq t=true) (motive_2:=λl=>Ty.beqs l l=true)
  (λk=>by simp[Ty.beq]) rfl rfl (λl h=>by simpa [Ty.beq] using h) (λn t h=>by simp[Ty.beq,h]) (λt h=>by simpa [Ty.beq] using h) (λl h=>by simpa [Ty.beq] using h) rfl rfl
  (λt l h1 h2=>by simp[Ty.beqs,h1,h2]) t)
def bF(t:Ty)(x:D):AV.fits t (.d t x)=true:=by
 have:=Ty.beq_refl' t;all_goals simp_all [AV.fits]
theorem pm:∀ {ts:List Ty} {l:List AV} {i:Nat} {a:AV},AV.fitss ts l=true->l[i]?=some a->∃ t,ts[i]?=some t/\AV.fits t a=true
 | _,[],_,_,_,h=>by simp at h
 | [],b::l,_,_,h,_=>by simp[AV.fitss] at h
 | u::ts,b::l,i,a,h,hi=>by
  simp only[AV.fitss,zaa] at h;cases i with
  | zero=>simp at hi;subst hi;exact⟨u,rfl,h.1⟩
  | succ i=>simp at hi;obtain⟨t,h1,h2⟩:=pm h.2 hi;exact⟨t,by simpa using h1,h2⟩
theorem sH:∀ {ts:List Ty} {l:List AV} {i:Nat} {t:Ty},AV.fitss ts l=true->ts[i]?=some t->∃ a,l[i]?=some a/\AV.fits t a=true
 | [],_,_,_,_,h=>by simp at h
 | u::ts,[],_,_,h,_=>by simp[AV.fitss] at h
 | u::ts,b::l,i,a,h,hi=>by
  simp only[AV.fitss,zaa] at h;cases i with
  | zero=>simp at hi;subst hi;exact⟨b,rfl,h.1⟩
  | succ i=>simp at hi;obtain⟨t,h1,h2⟩:=sH h.2 hi;exact⟨t,by simpa using h1,h2⟩
theorem lP:∀ {ts:List Ty} {l:List AV} {i:Nat} {t:Ty} {b:AV},AV.fitss ts l=true->ts[i]?=some t->AV.fits t b=true->AV.fitss ts (l.set i b)=true
 | [],_,_,_,_,_,h,_=>by simp at h
 | u::ts,[],_,_,_,h,_,_=>by simp[AV.fitss] at h
 | u::ts,a::l,i,t,b,h,hi,hb=>by
  simp only[AV.fitss,zaa] at h;cases i with
  | zero=>simp at hi;subst hi;simp[AV.fitss,hb,h.2]
  | succ i=>simp at hi;simp only[List.set_cons_succ,AV.fitss,zaa];exact⟨h.1,lP h.2 hi hb⟩
theorem re{c:Cx}:∀ {ts:List Ty} {l:List AV} {cs:List Value} {i:Nat} {a:AV},AV.fitss ts l=true->bg ts=true->jX c l cs->l[i]?=some a ->
  ∃ pre mid post,cs=pre++(mid++post)/\pre.length=Ty.sizes (ts.take i)/\AC c a mid/\∀ b bs,AC c b bs->jX c (l.set i b) (pre++(bs++post))
 | _,[],_,_,_,_,_,_,h=>by simp at h
 | [],b::l,_,_,_,h,_,_,_=>by simp[AV.fitss] at h
 | u::ts,b::l,cs,i,a,hf,hn,h,hi=>by
  simp only[AV.fitss,zaa] at hf;simp only[bg,zaa] at hn;simp only[jX] at h;obtain⟨c1,c2,rfl,h1,h2⟩:=h;cases i with
  | zero=>
   simp at hi;subst hi;exact⟨[],c1,c2,by simp,by simp[Ty.sizes],h1,λb bs hb=>by simp only[List.set_cons_zero,jX,z2b];exact⟨bs,c2,rfl,hb,h2⟩⟩
  | succ i=>
   simp at hi;obtain⟨pre,mid,post,rfl,k1,k2,k3⟩:=re hf.2 hn.2 h2 hi;refine⟨c1++pre,mid,post,by simp[zEa],?_,k2,λb bs hb=>?_⟩
   ·simp only[zta,zVb,Ty.sizes,k1,(gv b u c1 hf.1 h1).1]
   ·grind [jX,List.append_assoc]
def ln{ts:List Ty}{i:Nat}{p:List Nat}{u:Ty}(h:aH (.st ts) (i::p)=some u):∃ v,ts[i]?=some v/\aH v p=some u:=by
 grind [aH]
def BN{R:Type}{c:Cx}:∀ (p:List Nat) {T t:Ty} {a:AV} {cs:List Value} {K:AV->Option R} {r:R},AV.fits T a=true->aj T=true->aH T p=some t->AC c a cs->wI a p K=some r ->
  ∃ a' pre mid post,K a'=some r/\cs=pre++(mid++post)/\pre.length=aX T p/\AC c a' mid/\AV.fits t a'=true:=by
 intro p
 induction p with
 | nil=>
  intro T t a cs K r hf hn hp hc hg;have hT:T=t:=by cases T<;>simpa [aH] using hp
  subst hT;refine⟨a,[],cs,[],?_,by simp,by cases T<;>rfl,hc,hf⟩
  cases a<;>simpa [wI] using hg
 | cons i p ih=>
  intro T t a cs K r hf hn hp hc hg;cases a<;>simp only[wI] at hg
  case d t' x=>
   have:=mU hf;subst this;obtain⟨t2,h1,h2⟩:=bind_some_inv hg;obtain⟨y,h3,h4⟩:=bind_some_inv h2;rw[hp] at h1;cases h1;simp only[AC] at hc;obtain⟨k1,A,B,k2,k3⟩:=hC (i::p) hc.1 hn hp h3;have h5:=hc.2.2;rw[k2] at h5;obtain⟨h6,h7⟩:=h5.split;obtain⟨h8,h9⟩:=h7.split;refine⟨_,cs.take A.length,(cs.drop A.length).take y.flat.length,(cs.drop A.length).drop y.flat.length,h4,by simp only[zpa],?_,?_,bF _ _⟩
   ·rw[<-h6.1];exact k3
   ·simp only[AC];exact⟨k1,dj _ hn hp,h8⟩
  case st ts' l=>
   cases T<;>simp only[AV.fits] at hf<;>first|cases hf|skip
   rename_i ts;simp only[zaa] at hf;obtain⟨a1,h1,h2⟩:=bind_some_inv hg;obtain⟨v,h3,h4⟩:=ln hp;simp only[AC] at hc;simp only[aj] at hn;obtain⟨v',h5,h6⟩:=pm hf.2 h1;rw[h3] at h5;cases h5;obtain⟨pre,mid,post,rfl,k1,k2,_⟩:=re hf.2 hn hc.2.2 h1;obtain⟨a',pre',mid',post',m1,rfl,m2,m3,m4⟩:=ih h6 (bI hn h3) h4 k2 h2;refine⟨a',pre++pre',mid',post'++post,m1,by simp[zEa],?_,m3,m4⟩
   simp only[zta,aX,k1,m2];simp[List.getD,h3]
  all_goals cases hg
def JB{R:Type}{c:Cx}:∀ (p:List Nat) {T t:Ty} {a b:AV} {cs bs:List Value} {K:AV->Option R} {r:R},AV.fits T a=true->aj T=true->aH T p=some t->AC c a cs->AC c b bs->AV.fits t b=true->AZ a p b K=some r ->
  ∃ a' pre mid post,K a'=some r/\cs=pre++(mid++post)/\pre.length=aX T p/\mid.length=bs.length/\AC c a' (pre++(bs++post))/\AV.fits T a'=true:=by
 intro p
 induction p with
 | nil=>
  intro T t a b cs bs K r hf hn hp hc hb hfb hg;have hT:T=t:=by simp_all [aH]
  subst hT;refine⟨b,[],cs,[],?_,by simp,by cases T<;>rfl,?_,by simpa using hb,hfb⟩
  ·simp_all [AZ]
  ·rw[(gv _ _ _ hf hc).1,(gv _ _ _ hfb hb).1]
 | cons i p ih=>
  intro T t a b cs bs K r hf hn hp hc hb hfb hg;cases a<;>simp only[AZ] at hg
  case d t' x=>
   have:=mU hf;subst this;cases b<;>simp only at hg<;>first|cases hg|skip
   rename_i u y;have:=mU hfb;subst this;obtain⟨x',h3,h4⟩:=bind_some_inv hg;simp only[AC] at hc hb;obtain⟨k1,A,C,B,k2,k3,k4,k5⟩:=oG (i::p) hc.1 hn hp h3 hb.1;have h5:=hc.2.2;rw[k2] at h5;obtain⟨h6,h7⟩:=h5.split;obtain⟨h8,h9⟩:=h7.split;refine⟨_,cs.take A.length,(cs.drop A.length).take C.length,(cs.drop A.length).drop C.length,h4,by simp only[zpa],?_,?_,?_,bF _ _⟩
   ·rw[<-h6.1];exact k4
   ·rw[<-h8.1,k5,<-hb.2.2.1,cb _ _ hb.1 hb.2.1]
   ·simp only[AC];refine⟨k1,hn,?_⟩;rw[k3];exact h6.append (hb.2.2.append h9)
  case st ts' l=>
   cases T<;>simp only[AV.fits] at hf<;>first|cases hf|skip
   rename_i ts;simp only[zaa] at hf;obtain⟨a1,h1,h2⟩:=bind_some_inv hg;obtain⟨v,h3,h4⟩:=ln hp;simp only[AC] at hc;simp only[aj] at hn;obtain⟨v',h5,h6⟩:=pm hf.2 h1;rw[h3] at h5;cases h5;obtain⟨pre,mid,post,rfl,k1,k2,k3⟩:=re hf.2 hn hc.2.2 h1;obtain⟨a',pre',mid',post',m1,rfl,m2,m2',m3,m4⟩:=ih h6 (bI hn h3) h4 k2 hb hfb h2;have hts:=Ty.eqs_of_beqs _ _ hf.1;subst hts;refine⟨_,pre++pre',mid',post'++post,m1,by simp[zEa],?_,m2',?_,?_⟩
   ·simp only[zta,aX,k1,m2];simp[List.getD,h3]
   ·simp only[AC];refine⟨hn,lP hf.2 h3 m4,?_⟩;have:=k3 _ _ m3;simpa [zEa] using this
   ·simp only[AV.fits,zaa];exact⟨hf.1,lP hf.2 h3 m4⟩
  all_goals cases hg
mutual
theorem pT{c:Cx}{ob:Nat->Option Ob}:∀ (a:AV) (t:Ty) (cs:List Value) (x:D),AV.toD ob t a=some x->AC c a cs->wt t x/\cF c.w c.S x.flat cs/\(∀ v,fH t cs v->aj t=true->fD c.w c.S x v)
 | .d t' x',t,cs,x,h,hc=>by
  have h':t.beq t'=true/\x'=x:=by cases t<;>simpa [AV.toD] using h
  obtain⟨h1,rfl⟩:=h';have:=Ty.eq_of_beq _ _ h1;subst this;simp only[AC] at hc;exact⟨hc.1,hc.2.2,λv hv hn=>⟨rI hc.1 hc.2.1 hv.2,by rw[hv.1];exact hc.2.2⟩⟩
 | .own t' v l,t,cs,x,h,hc=>by
  have h':t.beq (.sl t')=true/\D.sl l=x:=by cases t<;>simpa [AV.toD] using h
  obtain⟨h1,rfl⟩:=h';have:=Ty.eq_of_beq _ _ h1;subst this;simp only[AC] at hc;obtain⟨k1,k2,a,cap,rfl,k3,_⟩:=hc;have hw:wt (.sl t') (.sl l):=by simp only[wt];exact⟨l,rfl,k2⟩
  exact⟨hw,cF.single.2 k3,λv hv hn=>⟨rI hw hn hv.2,by rw[hv.1];exact cF.single.2 k3⟩⟩
 | .nils,t,cs,x,h,hc=>by
  cases t<;>simp only[AV.toD] at h<;>first|cases h|skip
  simp only[AC] at hc;subst hc;have hw:∀ t,wt (.sl t) (.sl []):=λt=>by simp only[wt];exact⟨[],rfl,λx hx=>by simp at hx⟩
  have hr:cF c.w c.S [D.sl []] [.slice none 0 0]:=cF.single.2 (.sl [] none 0 0 0 (λ_=>undef) (.inl rfl) (zha 0) (λi d hd=>by simp[D.flats] at hd) (λi d hd=>by simp[D.flats] at hd))
  exact⟨hw _,hr,λv hv hn=>⟨rI (hw _) hn hv.2,by rw[hv.1];exact hr⟩⟩
 | .st ts' l,t,cs,x,h,hc=>by
  simp only[AV.toD] at h;split at h
  ·rename_i hb;have:=Ty.eq_of_beq _ _ hb;subst this;obtain⟨xs,h1,h2⟩:=bind_some_inv h;simp only[zca] at h2;subst h2;simp only[AC] at hc;obtain⟨k1,k2⟩:=Cw l ts' cs xs h1 hc.2.2;have hw:wt (.st ts') (.st xs):=by simp only[wt];exact⟨xs,rfl,k1⟩
   exact⟨hw,k2,λv hv hn=>⟨rI hw hn hv.2,by rw[hv.1];exact k2⟩⟩
  ·cases h
 | .ptr ..,t,_,_,h,_=>by cases t<;>simp[AV.toD] at h
 | .fptr ..,t,_,_,h,_=>by cases t<;>simp[AV.toD] at h
 | .mem ..,t,_,_,h,_=>by cases t<;>simp[AV.toD] at h
 | .clo ..,t,_,_,h,_=>by cases t<;>simp[AV.toD] at h
 | .sub ..,t,_,_,h,_=>by cases t<;>simp[AV.toD] at h
 | .gone,t,_,_,h,_=>by cases t<;>simp[AV.toD] at h
 | .undef,t,_,_,h,_=>by cases t<;>simp[AV.toD] at h
theorem Cw{c:Cx}{ob:Nat->Option Ob}:∀ (l:List AV) (ts:List Ty) (cs:List Value) (xs:List D),AV.toDl ob ts l=some xs->jX c l cs->er ts xs/\cF c.w c.S (D.flats xs) cs
 | [],ts,cs,xs,h,hc=>by
  cases ts<;>simp only[AV.toDl] at h<;>first|cases h|skip
  simp only[jX] at hc;subst hc;exact⟨by simp[er],cF.nil⟩
 | a::l,ts,cs,xs,h,hc=>by
  cases ts<;>simp only[AV.toDl] at h<;>first|cases h|skip
  rename_i t ts;obtain⟨x,h1,h2⟩:=bind_some_inv h;obtain⟨ys,h3,h4⟩:=bind_some_inv h2;simp only[zca] at h4;subst h4;simp only[jX] at hc;obtain⟨c1,c2,rfl,k1,k2⟩:=hc;obtain⟨m1,m2,_⟩:=pT a t c1 x h1 k1;obtain⟨m3,m4⟩:=Cw l ts c2 ys h3 k2;exact⟨by simp only[er];exact⟨x,ys,rfl,m1,m3⟩,by simp only[D.flats];exact m2.append m4⟩
end
mutual
theorem tQ{ob:Nat->Option Ob}:∀ (a:AV) (t:Ty) (x:D),AV.toD ob t a=some x->AV.fits t a=true
 | .d t' x',t,x,h=>by
  simp_all [AV.toD,AV.fits]
 | .own t' v l,t,x,h=>by
  have h':t.beq (.sl t')=true/\D.sl l=x:=by cases t<;>simpa [AV.toD] using h
  have:=Ty.eq_of_beq _ _ h'.1;subst this;simp[AV.fits,Ty.beq_refl']
 | .nils,t,x,h=>by
  cases t<;>first|rfl|(simp only[AV.toD] at h;cases h)
 | .st ts' l,t,x,h=>by
  simp only[AV.toD] at h;split at h
  ·rename_i hb;have:=Ty.eq_of_beq _ _ hb;subst this;obtain⟨xs,h1,h2⟩:=bind_some_inv h;simp only[AV.fits,zaa];exact⟨by have:=Ty.beq_refl' (.st ts');simpa [Ty.beq] using this,vX l ts' xs h1⟩
  ·cases h
 | .ptr ..,t,_,h=>by cases t<;>simp[AV.toD] at h
 | .fptr ..,t,_,h=>by cases t<;>simp[AV.toD] at h
 | .mem ..,t,_,h=>by cases t<;>simp[AV.toD] at h
 | .clo ..,t,_,h=>by cases t<;>simp[AV.toD] at h
 | .sub ..,t,_,h=>by cases t<;>simp[AV.toD] at h
 | .gone,t,_,h=>by cases t<;>simp[AV.toD] at h
 | .undef,t,_,h=>by cases t<;>simp[AV.toD] at h
theorem vX{ob:Nat->Option Ob}:∀ (l:List AV) (ts:List Ty) (xs:List D),AV.toDl ob ts l=some xs->AV.fitss ts l=true
 | [],ts,xs,h=>by cases ts<;>first|rfl|(simp only[AV.toDl] at h;cases h)
 | a::l,ts,xs,h=>by
  cases ts<;>simp only[AV.toDl] at h<;>first|cases h|skip
  rename_i t ts;obtain⟨x,h1,h2⟩:=bind_some_inv h;obtain⟨ys,h3,h4⟩:=bind_some_inv h2;simp only[AV.fitss,zaa];exact⟨tQ a t x h1,vX l ts ys h3⟩
end
def mM{c:Cx}{ob:Nat->Option Ob}{t:Ty}{a:AV}{v:Value}{x:D}(hn:aj t=true)(h:AR c a v)(hx:AV.toD ob t a=some x):wt t x/\fD c.w c.S x v:=by
 obtain⟨h1,h2⟩:=xK (tQ a t x hx) hn h;obtain⟨h3,_,h5⟩:=pT a t _ x hx h1
 simp_all
def dc{c:Cx}{t:Ty}{x:D}{v:Value}(hn:aj t=true)(hw:wt t x)(h:fD c.w c.S x v):AR c (.d t x) v:=by
 simp_all [AR]
def xL{c:Cx}{t:Ty}{x:D}{v:Value}(h:AR c (.d t x) v)(hn:aj t=true):wt t x/\fD c.w c.S x v:=by
 all_goals grind [AR,aj]
def ef{c:Cx}{t:Ty}{k:IntKind}{n:Int}{v:Value}(h:AR c (.d t (.int k n)) v):v=.int k n/\t=.int k:=by
 simp only[AR] at h;rcases h with⟨h1,h2,h3⟩|⟨ts,rfl,_,h2,_⟩
 ·refine⟨h3.int_inv,?_⟩;cases t<;>simp only[wt] at h2<;>first
   | (obtain⟨m,h4⟩:=h2;cases h4;rfl)
   | (obtain⟨m,h4,_⟩:=h2;cases h4)
   | (obtain⟨m,h4⟩:=h2;cases h4)
 ·simp_all [wt]
def Be{c:Cx}{t:Ty}{n:Bool}{v:Value}(h:AR c (.d t (.bool n)) v):v=.bool n:=by
 simp only[AR] at h;rcases h with⟨h1,h2,h3⟩|⟨ts,rfl,_,h2,_⟩
 ·exact h3.bool_inv
 ·simp_all [wt]
def cr{c:Cx}(k:IntKind)(n:Int):AR c (.d (.int k) (.int k n)) (.int k n):=
 dc rfl (by simp only[wt];exact⟨n,rfl⟩) (fD.of_CR (.int k n))
def fI{c:Cx}(b:Bool):AR c (.d .bool (.bool b)) (.bool b):=
 dc rfl (by simp only[wt];exact⟨b,rfl⟩) (fD.of_CR (.bool b))
end Sy
end
noncomputable section
namespace Sy
open Go
def dH(P:Program)(o:Oper)(a:Act)(w:World)(K:Value->World->Prop):Prop:=
 match (execOp a.eval o).run P w with
 | .ok (.value v) w'=>K v w'
 | .ok .skip w'=>K undef w'
 | .ok (.enter f args) w'=>Calls P f args w' λe w''=>∃ v,e=.returned v/\K v w''
 | _=>False
variable{ro:Option Nat}{nn:Nat}
def dH.plain{P:Program}{o:Oper}{a:Act}{w:World}{K:Value->World->Prop}(h:dH P o a w K)(c:Call):o.op≠.defer c:=by
 intro hc;unfold dH at h;obtain⟨dst,op,ty,pos,after,guard⟩:=o;simp only at hc;subst hc;have e:execOp a.eval ⟨dst,.defer c,ty,pos,after,guard⟩=(resolve a.eval c ty >>= λd=>pure (Next.defer d)):=rfl;rw[e,zga] at h;cases hr:(resolve a.eval c ty).run P w with
 | ok d w'=>rw[hr] at h;exact h
 | halt x w'=>rw[hr] at h;exact h
def xZ{P:Program}{f:FuncId}{args:Array Value}{w:World}{R:Ending->World->Prop}{m:Nat}(h:Calls P f args w R):CallsIn (FW ro) m P f args w R:=by
 have h1:CallsIn Fence.wide m P f args w R:=callsIn_wide.2 h;cases ro with
 | none=>exact h1
 | some l=>exact CallsIn.inRound l h1
def bf{P:Program}{o:Oper}{a:Act}{w:World}{K:Value->World->Prop}{next:Act->World->Prop}{Q:Exit->Act->World->Prop}(h:dH P o a w K)(hk:∀ v w',K v w'->next (a.put o.dst v) w'):o.wpIn (FW ro) nn P a w next Q:=by
 refine⟨λ_ _=>trivial,?_⟩;rw[Oper.semAt_eq _ _ _ h.plain];unfold dH at h;generalize (execOp a.eval o).run P w=r at *;cases r with
 | ok n w'=>
  cases n<;>simp only at h<;>simp only[Oper.uponIn]
  case value v=>exact hk _ _ h
  case skip=>exact hk _ _ h
  case enter f args=>exact⟨λhd=>(by cases hd),xZ (h.mono λe w'' ⟨v,he,hv⟩=>by subst he;exact hk _ _ hv)⟩
 | halt x w'=>simp only at h
def wo{P:Program}{f:FuncId}{fn:Func}{c:Code}{args:Array Value}{w:World}{R:Ending->World->Prop}(hf:P.funcs[f]?=some fn)(hb:fn.body=some c)
  (h:c.wpIn (FW none) 0 P (bodyPost P fn R) { tmps:=args++Array.replicate (fn.ntmps-args.size) undef,defers:=[] } w):Calls P f args w R:=
 calls_of_wp hf hb (wpIn_wide.1 h)
section
variable{P:Program}{Q:Exit->Act->World->Prop}{a:Act}{w:World}{F:Fence}{n:Nat}
theorem fB{md:Region.Mode}{ops:Array Oper}{Q':Exit->Act->World->Prop}:∀ (l:List Oper) (k:Nat) (listed:Array Bool) (a:Act) (w:World),(∀ j,l[j]?=ops[k+j]?) ->
  Region.seqB md ops l.length k listed=true->wpListIn F n P ops Q' l a w->wpAnyIn F n P md ops Q' l.length listed a w
 | [],_,_,_,_,_,hB,h=>⟨by simpa [Region.seqB] using hB,h⟩
 | o::l,k,listed,a,w,hl,hB,h=>by
  have h0:ops[k]?=some o:=by simpa using(hl 0).symm
  simp only[zza,Region.seqB,zaa,decide_eq_true_eq] at hB;refine⟨λh1=>(by rw[hB.1] at h1;cases h1),λi hi=>?_⟩
  rw[hB.1] at hi;have hik:i=k:=by simpa using hi
  subst hik;have hw:wpOpIn F n P ops Q' i (wpListIn F n P ops Q' l) a w:=by unfold wpOpIn;simp only[h0];exact h
  exact wpOpIn_mono (λa' w' h'=>fB l (i+1) _ a' w' (λj=>by have:=hl (j+1);simpa [zwb,zrc 1 j] using this) hB.2 h') hw
def fc{b:Frame}{k:List Item}{cs:List Frame}{c:Code}:step P (lone (b.atR a (.code (.scope c)::k)) cs w)=.next (lone (b.atR a (.code c::.inScope c::k)) cs w):=
 step_lone_go (by simp[stepG,stepG.exec,Frame.atR])
def uu{b:Frame}{k:List Item}{cs:List Frame}{c:Code}:step P (lone (b.atR a (.inScope c::k)) cs w)=.next (lone (b.atR a k) cs w):=
 step_lone_go (by simp[stepG,stepG.exec,Frame.atR])
def mz{c:Code}(h:c.wpIn F n P (Exit.noGoto Q) a w):(Code.scope c).wpIn F n P Q a w:=by
 intro b k cs hro hb hr;have h0:(lone (b.atR a (.code (.scope c)::k)) cs w).fenced P F:=fenced_calm hb hr rfl;obtain⟨e,a₁,w₁,hq,harr⟩:=h b (.inScope c::k) cs hro hb hr;cases e with
 | normal=>exact⟨.normal,a₁,w₁,hq,.head h0 fc (StepsIn.trans harr (.one (fenced_calm hb hr rfl) uu))⟩
 | exit id'=>
  have hx:exitTo id' (.inScope c::k)=exitTo id' k:=by simp[exitTo]
  exact⟨.exit id',a₁,w₁,hq,λk' hk=>.head h0 fc (harr.1 k' (by rw[hx];exact hk)),
   λhr' hk=>let ⟨k₁,h1,h2⟩:=harr.2 hr' (by rw[hx];exact hk);⟨k₁,h1,.head h0 fc h2⟩⟩
 | goto l=>exact hq.elim
 | ret=>exact⟨_,a₁,w₁,hq,.of_steps (.one h0 fc) harr⟩
 | panic ch=>exact⟨_,a₁,w₁,hq,.of_steps (.one h0 fc) harr⟩
 | outgrown=>exact⟨_,a₁,w₁,hq,.of_steps (.one h0 fc) harr⟩
def wd{c:Code}(J:Nat->Act->World->Prop){m:Nat}(h₀:J m a w)
  (round:∀ m a w,J m a w->c.wpIn F n P (Exit.then (λa' w'=>∃ m',m'<m/\J m' a' w') Q) a w):(Code.loop c).wpIn F n P Q a w:=by
 intro b k cs hro hb hr;have key:∀ m a w,J m a w->∃ e a' w',Q e a' w'/\ArrivesIn (Machine.fenced P F) P (lone (b.atR a (.code c::.inLoop c::k)) cs w) b k cs e a' w':=by
  intro m
  induction m using Nat.strongRecOn with
  | _ m ih=>
   intro a w hI;obtain⟨e,a₁,w₁,hq,harr⟩:=round m a w hI b (.inLoop c::k) cs hro hb hr;cases e with
   | normal=>
    obtain⟨m',hlt,hI₁⟩:=hq;obtain⟨e₂,a₂,w₂,hq₂,harr₂⟩:=ih m' hlt a₁ w₁ hI₁;exact⟨e₂,a₂,w₂,hq₂,.of_steps (StepsIn.trans harr (.one (fenced_calm hb hr rfl) stepR_inLoop)) harr₂⟩
   | exit id=>exact⟨_,a₁,w₁,hq,.pass (x:=.inLoop c) rfl (λ_ _=>.inl (by simp)) harr⟩
   | goto l=>exact⟨_,a₁,w₁,hq,.pass (x:=.inLoop c) rfl (λ_ _=>.inl (by simp)) harr⟩
   | ret=>exact⟨_,a₁,w₁,hq,.pass (x:=.inLoop c) rfl (λ_ _=>.inl (by simp)) harr⟩
   | panic ch=>exact⟨_,a₁,w₁,hq,.pass (x:=.inLoop c) rfl (λ_ _=>.inl (by simp)) harr⟩
   | outgrown=>exact⟨_,a₁,w₁,hq,.pass (x:=.inLoop c) rfl (λ_ _=>.inl (by simp)) harr⟩
 obtain⟨e,a',w',hq,harr⟩:=key m a w h₀;exact⟨e,a',w',hq,.of_steps (.one (fenced_calm hb hr rfl) stepR_loop) harr⟩
end
theorem dH.value{P:Program}{o:Oper}{a:Act}{w w':World}{v:Value}{K:Value->World->Prop}(h:(execOp a.eval o).run P w=.ok (.value v) w')(hk:K v w'):dH P o a w K:=by
 simp_all [dH]
theorem dH.skip{P:Program}{o:Oper}{a:Act}{w w':World}{K:Value->World->Prop}(h:(execOp a.eval o).run P w=.ok .skip w')(hk:K undef w'):dH P o a w K:=by
 simp_all [dH]
theorem dH.enter{P:Program}{o:Oper}{a:Act}{w w':World}{f:FuncId}{args:Array Value}{K:Value->World->Prop}(h:(execOp a.eval o).run P w=.ok (.enter f args) w')(hk:Calls P f args w' λe w''=>∃ v,e=.returned v/\K v w''):dH P o a w K:=by
 simp_all [dH]
theorem dH.mono{P:Program}{o:Oper}{a:Act}{w:World}{K K':Value->World->Prop}(h:dH P o a w K)(hk:∀ v w',K v w'->K' v w'):dH P o a w K':=by
 unfold dH at *;generalize (execOp a.eval o).run P w=r at *;cases r with
 | ok n w'=>
  cases n<;>simp only at h ⊢
  case value v=>exact hk _ _ h
  case skip=>exact hk _ _ h
  case enter f args=>exact h.mono λe w'' ⟨v,he,hv⟩=>⟨v,he,hk _ _ hv⟩
 | halt x w'=>simp only at h
section
variable{w0:Root}{S:Nat->Nat->Prop}{γ:Nat->Option Nat}{β:Nat->Option (Nat×Nat)}{s:St}{a:Act}{w:World}
def aN(h:Rp w0 S γ β s a w):∀ x:Operand,AR ⟨w,S,γ,β,s.ob,s.dead⟩ (s.opA x) (a.eval x)
 | .tmp t=>by
  simp only[St.opA,Act.eval];by_cases ht:t<a.tmps.size
  ·exact h.tms t ht
  ·rw[h.tmu t (h.nt ▸ Nat.le_of_not_lt ht)];simp[AR]
 | .const v=>by
  simp only[St.opA,Act.eval];cases v<;>simp only[EZ]<;>first
   | exact cr _ _
   | exact fI _
   | exact dc rfl (by simp only[wt];exact⟨_,rfl⟩) (fD.of_CR (.str _))
   | (simp only[AR];done)
   | skip
  case slice a len cap=>
   match a,len,cap with
   | none,0,0=>simp[AR,AC,Value.cells]
   | some _,_,_=>simp only[AR]
   | none,_+1,_=>simp only[AR]
   | none,0,_+1=>simp only[AR]
 | .global g=>by simp[St.opA,AR]
 | .func f=>by
  simp only[St.opA,AR,AC];exact⟨λ_ h=>(by cases h),[],rfl,by simp only[mA]⟩
theorem Rp.put(h:Rp w0 S γ β s a w){v:AV}{val:Value}(hv:AR ⟨w,S,γ,β,s.ob,s.dead⟩ v val)(dst:Option Nat):Rp w0 S γ β (s.put dst v) (a.put dst val) w:=by
 cases dst with
 | none=>simpa [St.put,Act.put] using h
 | some t=>
  simp only[St.put,Act.put];by_cases ht:t<s.nt
  ·rw[if_pos ht];refine⟨h.ext,λi hi=>?_,by simpa using h.nt,λi hi=>?_,h.obs,h.γn,h.γi,h.γf,h.βn,h.βi,h.βγ,h.βf,h.Sb,h.So⟩
   ·simp only[Array.size_setIfInBounds] at hi;by_cases hit:i=t
    ·subst hit;simp only[if_true];rw[show(a.tmps.setIfInBounds i val).getD i undef=val by simp[Array.getD,hi]]
     exact hv
    ·simp only[if_neg hit];have:=h.tms i hi
     rwa [show(a.tmps.setIfInBounds t val).getD i undef=a.tmps.getD i undef by simp[Array.getD,hi,Array.getElem_setIfInBounds_ne hi (Ne.symm hit)]]
   ·have hi':s.nt<=i:=hi;show(if i=t then v else s.tm i)=_
    rw[if_neg (by omega)];exact h.tmu i hi'
  ·rw[if_neg ht];have:a.tmps.setIfInBounds t val=a.tmps:=by
    apply Array.setIfInBounds_eq_of_size_le;rw[h.nt];omega
   rw[this];exact h
def wN{w':World}{S':Nat->Nat->Prop}{γ':Nat->Option Nat}{β':Nat->Option (Nat×Nat)}{ob:Nat->Option Ob}{dead:List Nat}
  (hc:∀ b o,S b o->w'.cell? ⟨b,o,none⟩=w.cell? ⟨b,o,none⟩) (hS:∀ b o,S b o->S' b o) (hγ:∀ id b,γ id=some b->γ' id=some b)
  (hβ:∀ v b e,v ∉ dead->β v=some (b,e)->β' v=some (b,e)/\∀ n,lu w b=some n->lu w' b=some n):Cx.le ⟨w,S,γ,β,ob,dead⟩ ⟨w',S',γ',β',ob,dead⟩:=
 ⟨hc,hS,hγ,λid o ho _=>⟨o,ho,λp=>⟨rfl,rfl⟩,λt l e=>⟨l,e,rfl⟩,λ_ _ l e=>⟨l,e⟩⟩,λv hv=>⟨hv,λb e he=>hβ v b e hv he⟩⟩
def df{os:List Obj}{d:Nat}{b o:Nat}(h:b<w.heap.size):(grown w os d).cell? ⟨b,o,none⟩=w.cell? ⟨b,o,none⟩:=by
 simp only[World.cell?,cB w os d h]
def vM{os:List Obj}{d:Nat}{b:Nat}(h:b<w.heap.size):lu (grown w os d) b=lu w b:=by
 simp only[lu,bE,cB w os d h]
theorem gW.mono{c c':Cx}(h:c.le c'){kt vt:Ty}:∀ {j:Nat} {l:List D} {es:List MapEntry},gW c kt vt j l es->gW c' kt vt j l es
 | _,[],[],_=>trivial
 | _,[],_::_,k=>k.elim
 | _,_::_,[],k=>k.elim
 | j,x::l,e::es,k=>by
  simp only[gW] at k ⊢;obtain⟨⟨q1,kd,vd,q2,q3,q4,q5,q6⟩,k2⟩:=k;exact⟨⟨q1,kd,vd,q2,q3,q4,q5.mono h.cell h.S,q6.mono h.cell h.S⟩,gW.mono h k2⟩
theorem gW.same{c c':Cx}(hw:c'.w=c.w)(hS:c'.S=c.S){kt vt:Ty}:∀ {j:Nat} {l:List D} {es:List MapEntry},gW c kt vt j l es->gW c' kt vt j l es
 | _,[],[],_=>trivial
 | _,[],_::_,k=>k.elim
 | _,_::_,[],k=>k.elim
 | j,x::l,e::es,k=>by
  simp only[gW] at k ⊢;rw[hw,hS];exact⟨k.1,gW.same hw hS k.2⟩
theorem fh.mono{c c':Cx}(h:c.le c'){b:Nat}{o:Ob}(hr:c'.w.heap[b]?=c.w.heap[b]?)(hS:∀ o,c'.S b o->c.S b o)(k:fh c b o):fh c' b o:=by
 have hr':bE c'.w b=bE c.w b:=by simp only[bE,hr]
 cases o<;>simp only[fh] at k ⊢
 case one t v=>
  obtain⟨k1,k2,k3,cs,k4,k5,k6⟩:=k;exact⟨k1,k2,λo ho=>k3 o (hS o ho),cs,by rw[hr'];exact k4,AC.mono h _ _ k5,k6⟩
 case many t l=>
  obtain⟨k1,k2,k3,cs,k4,k5⟩:=k;exact⟨k1,k2,λo ho=>k3 o (hS o ho),cs,by rw[hr'];exact k4,k5.mono h.cell h.S⟩
 case mp kt vt l=>
  obtain⟨k1,k2,k3,es,k4,k5⟩:=k;exact⟨k1,k2,λo ho=>k3 o (hS o ho),es,by rw[hr];exact k4,k5.mono h⟩
 case lp i p=>
  obtain⟨r,k4,k5,k6,k7⟩:=k;exact⟨r,by rw[hr];exact k4,k5,λt ht=>(k6 t ht).mono h.cell h.S h.γ,k7⟩
 case fv v=>
  obtain⟨k1,x,k2,k3,k4⟩:=k;exact⟨λo ho=>k1 o (hS o ho),x,by rw[hr'];exact k2,k3.mono h.cell h.S h.γ,k4⟩
def Rp.grow(h:Rp w0 S γ β s a w){os:List Obj}{d:Nat}(hd:w.drawn<=d){S':Nat->Nat->Prop}(hS:∀ b o,S b o->S' b o)(hS':∀ b o,S' b o->S b o\/(w.heap.size<=b/\b<(grown w os d).heap.size)) :
  Rp w0 S' γ β s a (grown w os d)/\Cx.le ⟨w,S,γ,β,s.ob,s.dead⟩ ⟨grown w os d,S',γ,β,s.ob,s.dead⟩:=by
 have hsz:w.heap.size<=(grown w os d).heap.size:=by simp
 have hle:Cx.le ⟨w,S,γ,β,s.ob,s.dead⟩ ⟨grown w os d,S',γ,β,s.ob,s.dead⟩:=
  wN (λb o hb=>df (h.Sb b o hb)) hS (λ_ _ k=>k) (λv b e hv he=>⟨he,λn hn=>by rw[vM (h.βn v b e hv he).2.1];exact hn⟩)
 refine⟨⟨?_,λt ht=>(h.tms t ht).mono hle,h.nt,h.tmu,λid o b ho hb=>?_,λid b hb=>⟨(h.γn id b hb).1,by have:=(h.γn id b hb).2;omega⟩,h.γi,h.γf,λv b e hv he=>?_,h.βi,h.βγ,h.βf,λb o hb=>?_,λb o hb hlt=>?_⟩,hle⟩
 ·exact⟨h.ext.tape,h.ext.os,h.ext.output,zDa h.ext.sz hsz,zDa h.ext.dr hd,λb hb=>(cB w os d (zOa hb.1 h.ext.sz)).trans (h.ext.old b hb)⟩
 ·have hb':=(h.γn id b hb).2;refine(h.obs id o b ho hb).mono hle (cB w os d hb') λi hi=>?_;all_goals grind
 ·obtain⟨k1,k2,k3⟩:=h.βn v b e hv he;all_goals grind
 ·rcases hS' b o hb with k|k
  ·have:=h.Sb b o k;omega
  ·exact k.2
 ·rcases hS' b o hb with k|k
  ·exact h.So b o k hlt
  ·exfalso;have:=h.ext.sz;have h2:=hlt.1;omega
def nA{α:Type}(f:Nat->Option α)(i:Nat)(x:α):Nat->Option α:=λj=>if j=i then some x else f j
def bw{α:Type}(f:Nat->Option α)(i:Nat)(x:α):nA f i x i=some x:=by simp[nA]
def bJ{α:Type}(f:Nat->Option α){i j:Nat}(x:α)(h:j≠i):nA f i x j=f j:=by simp[nA,h]
def dQ{α:Type}{f:Nat->Option α}{i:Nat}{x:α}(h:f i=none){j:Nat}{y:α}(hj:f j=some y):nA f i x j=some y:=by
 by_cases e:j=i
 ·simp_all
 ·rw[bJ f x e,hj]
def Rp.newOb(h:Rp w0 S γ β s a w){id b:Nat}(hid:γ id=none)(hb1:¬ w0.Old b)(hb2:b<w.heap.size)(hγ:∀ id,γ id≠some b)(hβ:∀ v e,v ∉ s.dead->β v≠some (b,e))(hi:id<s.base+4096)
  (hob:∀ o,s.ob id=some o->fh ⟨w,S,nA γ id b,β,s.ob,s.dead⟩ b o):Rp w0 S (nA γ id b) β s a w/\Cx.le ⟨w,S,γ,β,s.ob,s.dead⟩ ⟨w,S,nA γ id b,β,s.ob,s.dead⟩:=by
 have hle:Cx.le ⟨w,S,γ,β,s.ob,s.dead⟩ ⟨w,S,nA γ id b,β,s.ob,s.dead⟩:=
  wN (λ_ _ _=>rfl) (λ_ _ k=>k) (λ_ _ k=>dQ hid k) (λv b e hv he=>⟨he,λn hn=>hn⟩)
 refine⟨⟨h.ext,λt ht=>(h.tms t ht).mono hle,h.nt,h.tmu,λi o c ho hc=>?_,λi c hc=>?_,λi j c hc hc'=>?_,λi hi'=>?_,h.βn,h.βi,λv i c e hv he hc=>?_,h.βf,h.Sb,h.So⟩,hle⟩
 ·by_cases e:i=id
  ·simp_all [bw]
  ·rw[bJ γ b e] at hc;exact(h.obs i o c ho hc).mono hle rfl λ_ k=>k
 ·by_cases e:i=id
  ·simp_all [bw]
  ·rw[bJ γ b e] at hc;exact h.γn i c hc
 ·by_cases e:i=id
  ·by_cases e':j=id
   ·rw[e,e']
   ·subst e;rw[bw] at hc;cases hc;rw[bJ γ b e'] at hc';exact absurd hc' (hγ j)
  ·by_cases e':j=id
   ·subst e';rw[bw] at hc';cases hc';rw[bJ γ b e] at hc;exact absurd hc (hγ i)
   ·rw[bJ γ b e] at hc;rw[bJ γ b e'] at hc';exact h.γi i j c hc hc'
 ·rw[bJ γ b (by omega)];exact h.γf i hi'
 ·by_cases e':i=id
  ·simp_all [bw]
  ·rw[bJ γ b e'] at hc;exact h.βγ v i c e hv he hc
def Rp.newTok(h:Rp w0 S γ β s a w){v b e:Nat}(hv:β v=none)(hb1:¬ w0.Old b)(hb2:b<w.heap.size)(hγ:∀ id,γ id≠some b)(hβ:∀ v e,v ∉ s.dead->β v≠some (b,e))(hi:v<s.base+4096)(hS:∀ o,e<=o->¬ S b o) :
  Rp w0 S γ (nA β v (b,e)) s a w/\Cx.le ⟨w,S,γ,β,s.ob,s.dead⟩ ⟨w,S,γ,nA β v (b,e),s.ob,s.dead⟩:=by
 have hle:Cx.le ⟨w,S,γ,β,s.ob,s.dead⟩ ⟨w,S,γ,nA β v (b,e),s.ob,s.dead⟩:=
  wN (λ_ _ _=>rfl) (λ_ _ k=>k) (λ_ _ k=>k) (λv b e hv' he=>⟨dQ hv he,λn hn=>hn⟩)
 refine⟨⟨h.ext,λt ht=>(h.tms t ht).mono hle,h.nt,h.tmu,λi o c ho hc=>(h.obs i o c ho hc).mono hle rfl λ_ k=>k,h.γn,h.γi,h.γf,λu c f hu hc=>?_,λu u' c f f' hu hu' hc hc'=>?_,λu i c f hu hc hi=>?_,λu hu=>?_,h.Sb,h.So⟩,hle⟩
 ·by_cases e':u=v
  ·simp_all [bw]
  ·rw[bJ β _ e'] at hc;exact h.βn u c f hu hc
 ·by_cases e1:u=v
  ·by_cases e2:u'=v
   ·rw[e1,e2]
   ·simp_all [bw,bJ,e2]
  ·by_cases e2:u'=v
   ·simp_all [bw,bJ,e1]
   ·rw[bJ β _ e1] at hc;rw[bJ β _ e2] at hc';exact h.βi u u' c f f' hu hu' hc hc'
 ·by_cases e':u=v
  ·simp_all [bw]
  ·rw[bJ β _ e'] at hc;exact h.βγ u i c f hu hc hi
 ·rw[bJ β _ (by omega)];exact h.βf u hu
end
def Qp(w0:Root)(S:Nat->Nat->Prop)(γ:Nat->Option Nat)(β:Nat->Option (Nat×Nat))(s:St)(a:Act)(w:World)(dst:Option Nat)(v:AV)(val:Value)(w':World):Prop:=
 ∃ S' γ' β',Rp w0 S' γ' β' s a w'/\AR ⟨w',S',γ',β',s.ob,s.dead⟩ v val/\(∀ b o,S b o->S' b o)/\(∃ os d,w'=grown w os d) ∧
  (∀ id b,γ id=some b->γ' id=some b)/\(∀ id,dst≠some (id-s.base)\/id<s.base->γ' id=γ id/\β' id=β id)
section
variable{w0:Root}{S:Nat->Nat->Prop}{γ:Nat->Option Nat}{β:Nat->Option (Nat×Nat)}{s:St}{a:Act}{w:World}
def Qp.same(h:Rp w0 S γ β s a w){v:AV}{val:Value}(hv:AR ⟨w,S,γ,β,s.ob,s.dead⟩ v val)(dst:Option Nat):Qp w0 S γ β s a w dst v val w:=
 ⟨S,γ,β,h,hv,λ_ _ k=>k,⟨[],_,(C3 w).symm⟩,λ_ _ k=>k,λ_ _=>⟨rfl,rfl⟩⟩
end
end Sy
end
noncomputable section
namespace Sy
open Go
def Fr(E:Env)(s:St)(γ:Nat->Option Nat)(β:Nat->Option (Nat×Nat))(o:Oper):Prop:=
 ws o=true->∀ d:Nat,o.dst=some d->d<4096/\γ (s.base+d)=none/\β (s.base+d)=none/\∀ T x,o.op=.alloc T->E.alOb T=some x->s.ob (s.base+d)=some x
def Bh{E:Env}{s:St}{γ:Nat->Option Nat}{β:Nat->Option (Nat×Nat)}{o:Oper}(h:ws o=false):Fr E s γ β o:=λhc=>by rw[h] at hc;cases hc
def dA{x:AV}{p:Ty×D}(h:isD x=some p):x=.d p.1 p.2:=by
 cases x<;>simp[isD] at h;grind
theorem wa{x:D}{b:Bool}(h:x.truth=some b):x=.bool b:=by
 cases x<;>simp[D.truth] at h
 simp_all
def ny{c:Cx}{x:AV}{b:Bool}{v:Value}(h:x.truth=some b)(k:AR c x v):v=.bool b/\∃ t,x=.d t (.bool b):=by
 cases x<;>simp only[AV.truth] at h<;>first|cases h|skip
 split at h<;>first|(cases h;done)|skip
 have:=wa h;subst this;exact⟨Be k,_,rfl⟩
def n8{x:D}{n k:Nat}(h:x.idx n=some k):∃ kk,x=.int kk k/\k<n:=by
 cases x<;>simp only[D.idx] at h<;>first|cases h|skip
 rename_i kk i;split at h
 ·rename_i hh;simp only[zca] at h;refine⟨kk,?_,by omega⟩
  grind
 ·cases h
def vA{x:D}{k:Nat}(h:x.natOf=some k):∃ kk,x=.int kk k:=by
 cases x<;>simp only[D.natOf] at h<;>first|cases h|skip
 rename_i kk i;split at h
 ·simp only[zca] at h;refine⟨kk,?_⟩;grind
 ·cases h
def EA{x:D}{l:List D}(h:x.asSl=some l):x=.sl l:=by
 cases x<;>simp[D.asSl] at h
 simp_all
def vJ{c:Cx}{t:Ty}{id:Nat}{v:Value}(ho:u0 (c.ob id)=true)(na:∀ cs,v≠.agg cs)(h:AC c (.ptr t id []) v.cells.toList):∃ b,v=.pointer (some ⟨b,0,none⟩)/\c.γ id=some b:=by
 simp only[AC] at h;obtain⟨b,off,h1,h2,h3⟩:=h;unfold u0 at ho;split at ho<;>first|(cases ho;done)|skip
 all_goals
  rename_i hob;obtain⟨_,h4⟩:=h3 _ hob;have:off=0:=h4;subst this;exact⟨b,am na h1,h2⟩
theorem qE{c:Cx}:∀ (l:List AV) (caps:List Value),tX l=true->(l.all (λa=>match a with|.ptr _ id _=>u0 (c.ob id)|_=>false))=true->mA c l caps->mB c l caps
 | [],caps,_,_,h=>by simp only[mA] at h;subst h;trivial
 | x::l,caps,hw,ho,h=>by
  simp only[mA] at h;obtain⟨v,c2,rfl,h1,h2⟩:=h;simp only[zFb,zaa] at ho;unfold tX at hw;split at hw<;>first|(cases hw;done)|skip
  ·simp_all
  ·rename_i t id l' e;cases e;refine⟨?_,qE l c2 hw ho.2 h2⟩;have na:∀ cs,v≠.agg cs:=λcs e=>by
    simp only[AC] at h1;obtain⟨b,off,q,_⟩:=h1;subst e;simp at q
   have h3:=vJ ho.1 na (v:=v) (by
    have q:=h1;simp only[AC] at q;obtain⟨b,off,q,_⟩:=q;have:v=.pointer (some ⟨b,off,none⟩):=by simpa using q
    subst this;exact h1)
   exact h3
def Ck{c:Cx}{f:Nat}{l:List AV}{v:Value}(h:AR c (.clo f l) v):eK c (if tX l&&l.all (λa=>match a with|.ptr _ id _=>u0 (c.ob id)|_=>false) then .clo f l else .undef) v:=by
 split
 ·rename_i hc;simp only[zaa] at hc;simp only[AR,AC] at h;obtain⟨na,caps,h1,h2⟩:=h;simp only[eK];exact⟨caps,am na h1,qE l caps hc.1 hc.2 h2⟩
 ·simp only[eK]
def Cl{c:Cx}{kt vt:Ty}{id:Nat}{v:Value}(h:AR c (.map kt vt id) v):eK c (.map kt vt id) v:=by
 simp only[AR,AC] at h;obtain⟨na,b,h1,h2,h3,h4,_⟩:=h;exact⟨b,am na h1,h2,h3,h4⟩
def Cj{c:Cx}{a:AV}{v:Value}(h:kB (iG c.ob a)=true)(k:AR c a v):eK c (iG c.ob a) v/\v.oneCell'=true:=by
 have key:kB a=true:=by
  cases a<;>simp only[iG] at h<;>first|rfl|(cases h;done)|skip
  rename_i t id p;cases p<;>simp only at h
  ·split at h<;>cases h
  ·cases h
 refine⟨?_,Jw key k⟩;cases a<;>simp only[kB] at key<;>first|(cases key;done)|skip
 ·exact Ck k
 ·exact Cl k
 ·exact k
def Bz{c:Cx}{x:AV}{v:Value}{dd:List Nat}(h:rH c x v)(hp:eZ (j4 c.ob x)=true):AC ⟨c.w,c.S,c.γ,c.β,c.ob,dd⟩ (j4 c.ob x) [v]/\∀ cs,v≠.agg cs:=by
 unfold rH at h;split at h
 ·rename_i t id;obtain⟨b,rfl,hb⟩:=h;refine⟨?_,λcs hh=>by cases hh⟩
  simp only[j4] at hp ⊢;cases ho:c.ob id with
  | none=>rw[ho] at hp;simp[eZ] at hp
  | some o=>
   rw[ho] at hp;cases o<;>simp only[eZ] at hp<;>first|(cases hp;done)|skip
   all_goals
    simp only[AC];refine⟨b,0,rfl,hb,λo' ho'=>?_⟩;have:some o'=some _:=ho'.symm.trans ho;cases this;exact⟨rfl,rfl⟩
 ·exact h.elim
theorem yb{c:Cx}{dd:List Nat}:∀ {l:List AV} {vs:List Value},mB c l vs->(l.map (j4 c.ob)).all eZ=true->mA ⟨c.w,c.S,c.γ,c.β,c.ob,dd⟩ (l.map (j4 c.ob)) vs
 | [],[],_,_=>by simp[mA]
 | [],_::_,h,_=>h.elim
 | _::_,[],h,_=>h.elim
 | x::l,v::vs,h,hp=>by
  simp only[z4a,zFb,zaa] at hp;simp only[z4a,mA];exact⟨v,vs,rfl,(Bz h.1 hp.1).1,yb h.2 hp.2⟩
def ya{c:Cx}{x:AV}{v:Value}{dd:List Nat}(h:eK c x v):AR ⟨c.w,c.S,c.γ,c.β,c.ob,dd⟩ (mD c.ob x) v:=by
 cases x<;>simp only[eK] at h<;>simp only[mD]<;>first|(simp only[AR];done)|skip
 case d t y=>simpa only[AR] using h
 case fptr t y=>simpa only[AR,AC] using h
 case ptr t id p=>
  cases hp:eZ (j4 c.ob (.ptr t id p)) with
  | true=>
   obtain⟨k1,k2⟩:=Bz (dd:=dd) h hp;have k3:v.cells.toList=[v]:=by
    unfold rH at h;split at h
    ·obtain⟨b,rfl,_⟩:=h;rfl
    ·exact h.elim
   cases hx:j4 c.ob (.ptr t id p)<;>rw[hx] at hp k1<;>simp only[eZ] at hp<;>first|(cases hp;done)|skip
   simp_all [AR,k3]
  | false=>
   have:j4 c.ob (.ptr t id p)=.undef:=by
    unfold j4 at hp ⊢;all_goals grind [eZ]
   simp_all [AR]
 case clo f l=>
  obtain⟨caps,rfl,hc⟩:=h;split
  ·rename_i hp;simp only[AR,AC];exact⟨λcs hh=>(by cases hh),caps,rfl,yb hc hp⟩
  ·simp only[AR]
 case yld id=>simpa only[AR,AC] using h
 case map kt vt id=>
  obtain⟨b,rfl,h1,h2,h3⟩:=h;split
  ·rename_i kt' vt' l ho;split
   ·rename_i hb;simp only[zaa] at hb;have e1:=Ty.eq_of_beq _ _ hb.1;have e2:=Ty.eq_of_beq _ _ hb.2;subst e1;subst e2;simp only[AR,AC];refine⟨λcs hh=>(by cases hh),b,rfl,h1,h2,h3,λo ho'=>?_⟩
    have:some o=some _:=ho'.symm.trans ho;cases this;exact⟨l,rfl⟩
   ·simp only[AR]
  ·simp only[AR]
section
variable{P:Program}{E:Env}{w0:Root}{S:Nat->Nat->Prop}{γ:Nat->Option Nat}{β:Nat->Option (Nat×Nat)}{s:St}{a:Act}{w:World}
def iM(P:Program)(E:Env)(w0:Root)(S:Nat->Nat->Prop)(γ:Nat->Option Nat)(β:Nat->Option (Nat×Nat))(s:St)(a:Act)(w:World)(o:Oper):Prop:=
 ∀ (R:Type) (K:AV->Option R) (r:R),qv E s o K=some r->∃ v,K v=some r/\dH P o a w (Qp w0 S γ β s a w o.dst v)
def ko(a:Addr):(Instr.sureAddr (.pointer (some a))).run P w=.ok a w:=rfl
def Jr(h:Rp w0 S γ β s a w){dst x ty pos after guard}:iM P E w0 S γ β s a w ⟨dst,.move x,ty,pos,after,guard⟩:=by
 intro R K r hq;exact⟨_,hq,.value (v:=a.eval x) (w':=w) (by simp[execOp]) (Qp.same h (aN h x) _)⟩
def Dy(h:Rp w0 S γ β s a w){dst x ty pos after guard}:iM P E w0 S γ β s a w ⟨dst,.assign x,ty,pos,after,guard⟩:=by
 intro R K r hq;exact⟨_,hq,.value (v:=a.eval x) (w':=w) (by simp[execOp]) (Qp.same h (aN h x) _)⟩
def Js(h:Rp w0 S γ β s a w){dst c x y ty pos after guard}:iM P E w0 S γ β s a w ⟨dst,.pick c x y,ty,pos,after,guard⟩:=by
 intro R K r hq;simp only[qv] at hq;obtain⟨b,h1,h2⟩:=bind_some_inv hq;obtain⟨h3,_⟩:=ny h1 (aN h c);cases b
 ·exact⟨_,by simpa using h2,.value (v:=a.eval y) (w':=w) (by simp[execOp,h3,asBool]) (Qp.same h (aN h y) _)⟩
 ·exact⟨_,by simpa using h2,.value (v:=a.eval x) (w':=w) (by simp[execOp,h3,asBool]) (Qp.same h (aN h x) _)⟩
def zn(h:Rp w0 S γ β s a w){dst x ty pos after guard}:iM P E w0 S γ β s a w ⟨dst,.nilCheck x,ty,pos,after,guard⟩:=by
 intro R K r hq;simp only[qv] at hq;have hx:=aN h x;generalize s.opA x=y at *;cases y<;>(try simp only at hq)<;>first|cases hq|skip
 rename_i t id p;refine⟨_,hq,?_⟩;have hx':=hx;simp only[AR,AC] at hx;obtain⟨h1,b,off,h2,h3⟩:=hx;have hv:=am h1 h2;exact .value (v:=a.eval x) (w':=w) (by simp[execOp,hv]) (Qp.same h hx' _)
mutual
theorem t6:∀ (t:Ty),aj t=true->AV.fits t (jV t)=true
 | .int k,_=>bF _ _
 | .bool,_=>bF _ _
 | .str,_=>bF _ _
 | .st ts,hn=>by
  simp only[jV];split
  ·simp only[AV.fits,zaa];exact⟨by have:=Ty.beq_refl' (.st ts);simpa [Ty.beq] using this,jg ts (by simpa [aj] using hn)⟩
  ·exact bF _ _
 | .arr n t,_=>bF _ _
 | .sl t,_=>rfl
 | .tup _,h=>by simp[aj] at h
 | .fn,h=>by simp[aj] at h
theorem jg:∀ (ts:List Ty),bg ts=true->AV.fitss ts (jr ts)=true
 | [],_=>rfl
 | t::ts,h=>by
  simp only[bg,zaa] at h;simp only[jr,AV.fitss,zaa];exact⟨t6 t h.1,jg ts h.2⟩
end
mutual
theorem cD:∀ (t:Ty),aj t=true->wt t (ar t)
 | .int k,_=>by simp_all [wt,ar]
 | .bool,_=>by simp_all [wt,ar]
 | .str,_=>by simp_all [wt,ar]
 | .st ts,hn=>by simp only[wt,ar];exact⟨_,rfl,nD ts (by simpa [aj] using hn)⟩
 | .arr n t,hn=>by
  simp only[wt,ar];refine⟨_,rfl,by simp,λx hx=>?_⟩
  rw[(zad.1 hx).2];exact cD t (by simpa [aj] using hn)
 | .sl t,_=>by simp only[wt,ar];exact⟨[],rfl,λx hx=>by simp at hx⟩
 | .tup _,h=>by simp[aj] at h
 | .fn,h=>by simp[aj] at h
theorem nD:∀ (ts:List Ty),bg ts=true->er ts (fC ts)
 | [],_=>by simp[er,fC]
 | t::ts,h=>by
  simp only[bg,zaa] at h;simp only[fC,er];exact⟨_,_,rfl,cD t h.1,nD ts h.2⟩
end
def IT{w:World}{S:Nat->Nat->Prop}{d:D}{v:Value}(h:CZ d v=true):CR w S d v:=by
 cases d<;>cases v<;>simp only[CZ] at h<;>first|cases h|skip
 case int.int k n k' n'=>simp at h;rw[h.1,h.2];exact .int _ _
 case bool.bool b b'=>simp at h;rw[h];exact .bool _
 case str.string x y=>
  have:x=y:=by simpa using h
  rw[this];exact .str _
 case sl.slice l a len cap=>
  simp only[zaa,List.isEmpty_iff,Option.isNone_iff_eq_none,decide_eq_true_eq] at h;obtain⟨⟨⟨rfl,rfl⟩,rfl⟩,rfl⟩:=h;exact .sl [] none 0 0 0 (λ_=>undef) (.inl rfl) (zha 0) (λi d hd=>by simp[D.flats] at hd) (λi d hd=>by simp[D.flats] at hd)
theorem cg{w:World}{S:Nat->Nat->Prop}:∀ {ds:List D} {cs:List Value},cq ds cs=true->cF w S ds cs
 | [],[],_=>cF.nil
 | [],_::_,h=>by simp[cq] at h
 | _::_,[],h=>by simp[cq] at h
 | d::ds,v::cs,h=>by
  simp only[cq,zaa] at h;exact cF.append (cF.single.2 (IT h.1)) (cg h.2)
theorem qK:∀ {a b:List D} {cs:List Value},cq (a++b) cs=true->cq a (cs.take a.length)=true/\cq b (cs.drop a.length)=true
 | [],b,cs,h=>by simpa [cq] using h
 | d::a,b,[],h=>by simp[cq] at h
 | d::a,b,v::cs,h=>by
  simp only[zib,cq,zaa] at h;obtain⟨h1,h2⟩:=qK h.2
  simp_all [zza,zVb,zPc,cq,zaa]
mutual
theorem zR{c:Cx}:∀ (t:Ty) (cs:List Value),aj t=true->cq (ar t).flat cs=true->AC c (jV t) cs
 | .int k,cs,hn,h=>by simp only[jV,AC];exact⟨cD _ hn,hn,cg h⟩
 | .bool,cs,hn,h=>by simp only[jV,AC];exact⟨cD _ hn,hn,cg h⟩
 | .str,cs,hn,h=>by simp only[jV,AC];exact⟨cD _ hn,hn,cg h⟩
 | .st ts,cs,hn,h=>by
  simp only[jV];split
  ·simp only[aj] at hn;simp only[AC];exact⟨hn,jg ts hn,ku ts cs hn (by simpa [ar,D.flat] using h)⟩
  ·simp only[AC];exact⟨cD _ hn,hn,cg h⟩
 | .arr n t,cs,hn,h=>by simp only[jV,AC];exact⟨cD _ hn,hn,cg h⟩
 | .sl t,cs,hn,h=>by
  simp only[jV,AC];simp only[ar,D.flat] at h
  match cs,h with
  | [],h=>simp[cq] at h
  | [v],h=>
   simp only[cq,zaa] at h;have h1:=h.1;cases v<;>simp only[CZ] at h1<;>first|cases h1|skip
   simp_all
  | v::u::cs,h=>simp[cq] at h
 | .tup _,_,h,_=>by simp[aj] at h
 | .fn,_,h,_=>by simp[aj] at h
theorem ku{c:Cx}:∀ (ts:List Ty) (cs:List Value),bg ts=true->cq (D.flats (fC ts)) cs=true->jX c (jr ts) cs
 | [],cs,_,h=>by
  grind [fC,D.flats,jr,jX,cq]
 | t::ts,cs,hn,h=>by
  simp only[bg,zaa] at hn;simp only[fC,D.flats] at h;obtain⟨h1,h2⟩:=qK h;simp only[jr,jX];exact⟨_,_,(zpa _ _).symm,zR t _ hn.1 h1,ku ts _ hn.2 h2⟩
end
end
end Sy
end
noncomputable section
namespace Sy
open Go
def lZ{R:Type}{c:Cx}{b:Nat}{o:Ob}{p:List Nat}{t:Ty}{K:AV->Option R}{r:R}(ho:fh c b o)(ht:dP o p=some t)(h:fT o p K=some r) :
  ∃ a' cs,K a'=some r/\AC c a' cs/\AV.fits t a'=true/\aj t=true/\∀ (i:Nat) (v:Value),cs[i]?=some v->c.w.cell? ⟨b,bX o p+i,none⟩=some v:=by
 cases o
 case mp=>simp[dP] at ht
 case lp=>simp[dP] at ht
 case fv=>simp[fT] at h
 case one T v=>
  simp only[fh] at ho;obtain⟨h1,h2,_,cs,h4,h5,h6⟩:=ho;simp only[dP] at ht;simp only[fT] at h;obtain⟨a',pre,mid,post,k1,rfl,k2,k3,k4⟩:=BN p h2 h1 ht h5 h;refine⟨a',mid,k1,k3,k4,dj p h1 ht,λi v hv=>?_⟩;rw[cell_of_row _ h4];simp only[bX,<-k2];grind
 case many T l=>
  simp only[fh] at ho;obtain⟨h1,h2,_,cs,h4,h5⟩:=ho;cases p with
  | nil=>simp[dP] at ht
  | cons i p=>
   simp only[dP] at ht;simp only[fT] at h;obtain⟨x,k1,k2⟩:=bind_some_inv h;rw[bT k1] at h5;obtain⟨h6,h7⟩:=h5.split;obtain⟨h8,h9⟩:=h7.split;have hx:=h2 x (z0a k1);obtain⟨a',pre,mid,post,m1,m2,m3,m4,m5⟩:=BN (c:=c) (cs:=(cs.drop (D.flats (l.take i)).length).take x.flat.length) p (bF T x) h1 ht (by simp only[AC];exact⟨hx,h1,h8⟩) k2
   refine⟨a',mid,m1,m4,m5,dj p h1 ht,λj v hv=>?_⟩;rw[cell_of_row _ h4];have hlen:(D.flats (l.take i)).length=i*T.size:=by
    rw[aB h1 _ (λx hx=>h2 x (zGa hx))];have:=(zja.1 k1).1;simp[zlb (zhc this)]
   simp only[bX,<-m3,zAc];have hj:=(zja.1 hv).1;have h10:((cs.drop (D.flats (l.take i)).length).take x.flat.length)[pre.length+j]?=some v:=by
    rw[m2,zub (by omega),zvb,zeb hj];exact hv
   have h11:=(zja.1 h10).1;rw[zcb] at h11;rw[zqb (by omega),zfb,hlen] at h10
   rw[show i*T.size+pre.length+j=i*T.size+(pre.length+j) by omega]
   exact h10
section
variable{P:Program}{E:Env}{w0:Root}{S:Nat->Nat->Prop}{γ:Nat->Option Nat}{β:Nat->Option (Nat×Nat)}{s:St}{a:Act}{w:World}
def iZ(hE:EnvOk P E){T:TypeId}{t:Ty}(h:E.L T=some t)(hn:aj t=true):bC P t T=true:=by
 rcases hE.lay T t h with⟨ts,rfl⟩|h
 ·simp[aj] at hn
 ·exact h
def jY{c:Cx}{t:Ty}{id:Nat}{p:List Nat}{v:Value}(h:AR c (.ptr t id p) v):∃ b off,v=.pointer (some ⟨b,off,none⟩)/\c.γ id=some b/\∀ o,c.ob id=some o->dP o p=some t/\off=bX o p:=by
 simp only[AR,AC] at h;obtain⟨h1,b,off,h2,h3⟩:=h;exact⟨b,off,am h1 h2,h3⟩
def fJ{c:Cx}{t:Ty}{id:Nat}{p:List Nat}{b off:Nat}(h:c.γ id=some b)(h2:∀ o,c.ob id=some o->dP o p=some t/\off=bX o p):AR c (.ptr t id p) (.pointer (some ⟨b,off,none⟩)):=by
 simp only[AR,AC];exact⟨by simp,b,off,rfl,h,h2⟩
def wg{c:Cx}{t:Ty}{x:D}{v:Value}(h:AR c (.fptr t x) v):wt t x/\aj t=true/\∃ b off,v=.pointer (some ⟨b,off,none⟩)/\oU c.w c.S b off x.flat:=by
 simp only[AR,AC] at h;obtain⟨h1,h2,h0,b,off,h3,h4⟩:=h;exact⟨h2,h0,b,off,am h1 h3,h4⟩
def mL{c:Cx}{t:Ty}{x:D}{b off:Nat}(h:wt t x)(hn:aj t=true)(h2:oU c.w c.S b off x.flat):AR c (.fptr t x) (.pointer (some ⟨b,off,none⟩)):=by
 simp only[AR,AC];exact⟨by simp,h,hn,b,off,rfl,h2⟩
def Jq(hE:EnvOk P E)(h:Rp w0 S γ β s a w){dst T x ty pos after guard}:iM P E w0 S γ β s a w ⟨dst,.load T x,ty,pos,after,guard⟩:=by
 intro R K r hq;simp only[qv] at hq;have hx:=aN h x;cases hfn:E.fnT T with
 | true=>
  rw[hfn] at hq;simp only[cond_true] at hq;split at hq<;>first|cases hq|skip
  rename_i id e;split at hq<;>first|cases hq|skip
  rename_i y ho;split at hq<;>first|cases hq|skip
  rw[e] at hx;obtain⟨b,off,hv,hγ,hob⟩:=jY hx;obtain⟨_,rfl⟩:=hob _ ho;obtain⟨_,c,k1,k2,k3⟩:=h.obs id _ b ho hγ;replace k2:=ya (dd:=s.dead) k2;exact⟨_,hq,.value (v:=c) (w':=w) (by simp[execOp,hv,zx (hE.fnT T hfn) k1,bX]) (Qp.same h k2 _)⟩
 | false=>
 rw[hfn] at hq;simp only[cond_false] at hq;replace hq:=bind_some_inv hq;obtain⟨t,ht,hq⟩:=hq;generalize s.opA x=y at *;cases y<;>(try simp only at hq)<;>first|cases hq|skip
 case ptr t' id p=>
  split at hq<;>first|cases hq|skip
  rename_i hb;have:=Ty.eq_of_beq _ _ hb;subst this;replace hq:=bind_some_inv hq;obtain⟨o,ho,hq⟩:=hq;obtain⟨b,off,hv,hγ,hob⟩:=jY hx;obtain⟨k1,rfl⟩:=hob o ho;obtain⟨a',cs,m1,m2,m3,m4,m5⟩:=lZ (h.obs id o b ho hγ) k1 hq;obtain⟨m6,m7⟩:=gv _ _ _ m3 m2;obtain⟨v,hrun,hval⟩:=jc (iZ hE ht m4) (w:=w) (b:=b) (off:=bX o p) m6 m7 m5;exact⟨a',m1,.value (v:=v) (w':=w) (by simp[execOp,hv,hrun]) (Qp.same h (ux m3 m2 hval) _)⟩
 case fptr t' z=>
  split at hq<;>first|cases hq|skip
  rename_i hb;have:=Ty.eq_of_beq _ _ hb;subst this;obtain⟨k1,k0,b,off,hv,cs,k2,k3⟩:=wg hx;obtain⟨v,hrun,hval⟩:=jc (iZ hE ht k0) (w:=w) (b:=b) (off:=off) (cs:=cs) (by rw[<-k2.1];exact cb _ _ k1 k0) k2.nag (λi c hc=>(k3 i c hc).2)
  exact⟨_,hq,.value (v:=v) (w':=w) (by simp[execOp,hv,hrun]) (Qp.same h (ux (bF _ _) (by simp only[AC];exact⟨k1,k0,k2⟩) hval) _)⟩
 case sub sl e id p lo n=>
  split at hq<;>first|cases hq|skip
  rename_i hb;simp only[zaa,zFa] at hb;obtain⟨hsl,hb⟩:=hb;subst hsl;have:=Ty.eq_of_beq _ _ hb;subst this;replace hq:=bind_some_inv hq;obtain⟨o,ho,hq⟩:=hq;simp only[AR,AC] at hx;obtain⟨hna,hne,b,off,cap,hcs,hγ,hob⟩:=hx;simp only[zwa,if_false] at hcs;have hv:=am hna hcs;obtain⟨m,k1,k2,rfl⟩:=hob o ho;obtain⟨a',cs,m1,m2,m3,m4,m5⟩:=lZ (h.obs id o b ho hγ) k1 hq;split at m1<;>first|(cases m1;done)|skip
  rename_i m' e' l;split at m1<;>first|(cases m1;done)|skip
  rename_i hb2;simp only[zaa,decide_eq_true_eq] at hb2;have he:=Ty.eq_of_beq _ _ hb2.1;subst he;have hm:=mU m3;simp only[Ty.arr.injEq] at hm;simp only[AC] at m2;obtain⟨q1,q2,q3⟩:=m2;simp only[wt] at q1;obtain⟨l0,e0,q4,q5⟩:=q1;cases e0;have hl1:l=l.take lo++((l.drop lo).take n++(l.drop lo).drop n):=by rw[zpa,zpa]
  have hfl:D.flats l=D.flats (l.take lo)++(D.flats ((l.drop lo).take n)++D.flats ((l.drop lo).drop n)):=by
   conv=>lhs;rw[hl1]
   rw[bQ,bQ]
  simp only[D.flat] at q3;rw[hfl] at q3;obtain⟨_,r2⟩:=q3.split;obtain⟨r3,_⟩:=r2.split;have len1:(D.flats (l.take lo)).length=lo*e'.size:=by
   rw[aB hne _ (λx hx=>q5 x (zGa hx)),zcb,zlb (by omega)]
  have len2:(D.flats ((l.drop lo).take n)).length=n*e'.size:=by
   rw[aB hne _ (λx hx=>q5 x (zIb (zGa hx))),zcb,List.length_drop,zlb (by omega)]
  have hwt:wt (.arr n e') (.st ((l.drop lo).take n)):=by
   simp only[wt];exact⟨_,rfl,by rw[zcb,List.length_drop,zlb (by omega)],λx hx=>q5 x (zIb (zGa hx))⟩
  have hnt:aj (.arr n e')=true:=by simp only[aj];exact hne
  obtain⟨v,hrun,hval⟩:=jc (iZ hE ht hnt) (w:=w) (b:=b) (off:=bX o p+lo*e'.size) (cs:=(cs.drop (D.flats (l.take lo)).length).take (D.flats ((l.drop lo).take n)).length) (by rw[<-r3.1,len2];rfl) r3.nag (λi c hc=>by
   have hi:i<(D.flats ((l.drop lo).take n)).length:=by
    have:=(zja.1 hc).1;rw[zcb] at this;omega
   rw[zqb hi,zfb] at hc;have:=m5 _ c hc;rw[len1,<-zwb] at this;exact this)
  exact⟨_,m1,.value (v:=v) (w':=w) (by simp[execOp,hv,hrun]) (Qp.same h (ux (bF _ _) (by simp only[AC];exact⟨hwt,hnt,by simp only[D.flat];exact r3⟩) hval) _)⟩
def qw{T:TypeId}{ts:List Ty}{f:Nat}{u:Ty}(hl:bC P (.st ts) T=true)(hf:ts[f]?=some u)(b off:Nat)(w:World) :
  (Instr.fieldAt T (.pointer (some ⟨b,off,none⟩)) f).run P w=.ok (.pointer (some ⟨b,off+Ty.sizes (ts.take f),none⟩)) w:=by
 obtain⟨fs,h1,h2⟩:=ij hl;obtain⟨g,h3,h4,h5,h6⟩:=rn h2 hf;have h3':fs[f]?=some g:=by simpa using h3
 have hne:u.size≠0:=by omega
 simp only[Instr.fieldAt,zga,run_underlying h1,zea,h3',ko,fieldPlace,bR h6,hne,if_false,zla,h4,cN,z6a]
theorem jb:∀ (p:List Nat) {t u v:Ty} {i:Nat},aH t p=some u->aH u [i]=some v->aH t (p++[i])=some v
 | [],t,u,v,i,h,k=>by
  simp_all [aH]
 | j::p,.st ts,u,v,i,h,k=>by
  simp only[aH,zib] at h ⊢;obtain⟨z,h1,h2⟩:=bind_some_inv h;rw[h1];exact jb p h2 k
 | j::p,.arr n t,u,v,i,h,k=>by
  simp only[aH,zib] at h ⊢;exact jb p h k
 | j::p,.int _,u,v,i,h,k=>by simp[aH] at h
 | j::p,.bool,u,v,i,h,k=>by simp[aH] at h
 | j::p,.str,u,v,i,h,k=>by simp[aH] at h
 | j::p,.sl _,u,v,i,h,k=>by simp[aH] at h
 | j::p,.tup _,u,v,i,h,k=>by simp[aH] at h
 | j::p,.fn,u,v,i,h,k=>by simp[aH] at h
theorem gL:∀ (p:List Nat) {t u:Ty} {i:Nat},aH t p=some u->aX t (p++[i])=aX t p+aX u [i]
 | [],t,u,i,h=>by
  simp_all [aH,aX]
 | j::p,.st ts,u,i,h=>by
  simp only[aH,zib] at h ⊢;obtain⟨z,h1,h2⟩:=bind_some_inv h;simp only[aX];rw[show ts.getD j .bool=z by simp[List.getD,h1],gL p h2,zwb]
 | j::p,.arr n t,u,i,h=>by
  simp only[aH,zib] at h ⊢;simp only[aX];rw[gL p h,zwb]
 | j::p,.int _,u,i,h=>by simp[aH] at h
 | j::p,.bool,u,i,h=>by simp[aH] at h
 | j::p,.str,u,i,h=>by simp[aH] at h
 | j::p,.sl _,u,i,h=>by simp[aH] at h
 | j::p,.tup _,u,i,h=>by simp[aH] at h
 | j::p,.fn,u,i,h=>by simp[aH] at h
def vF{o:Ob}{p:List Nat}{t u:Ty}{i:Nat}(h:dP o p=some t)(k:aH t [i]=some u):dP o (p++[i])=some u/\bX o (p++[i])=bX o p+aX t [i]:=by
 cases o with
 | one T v=>simp only[dP,bX] at h ⊢;exact⟨jb p h k,gL p h⟩
 | many T l=>
  cases p with
  | nil=>simp[dP] at h
  | cons j p=>simp only[dP,bX,zib] at h ⊢;exact⟨jb p h k,by rw[gL p h,zwb]⟩
 | mp kt vt l=>simp[dP] at h
 | lp i q=>simp[dP] at h
 | fv v=>cases p<;>simp[dP] at h;subst h;simp[aH] at k
def xg(hE:EnvOk P E)(h:Rp w0 S γ β s a w){dst T x f ty pos after guard}:iM P E w0 S γ β s a w ⟨dst,.fieldAddr T x f,ty,pos,after,guard⟩:=by
 intro R K r hq;simp only[qv] at hq;replace hq:=bind_some_inv hq;obtain⟨t,ht,hq⟩:=hq;have hx:=aN h x;generalize s.opA x=y at *;cases t<;>(try simp only at hq)<;>first|cases hq|skip
 rename_i ts;cases y<;>(try simp only at hq)<;>first|cases hq|skip
 case ptr t' id p=>
  split at hq<;>first|cases hq|skip
  rename_i hb;have:=Ty.eq_of_beq _ _ hb;subst this;replace hq:=bind_some_inv hq;obtain⟨u,hu,hq⟩:=hq;obtain⟨b,off,hv,hγ,hob⟩:=jY hx;rcases hE.lay T _ ht with⟨ts',hts⟩|hl
  ·cases hts
  refine⟨_,hq,.value (v:=.pointer (some ⟨b,off+Ty.sizes (ts.take f),none⟩)) (w':=w) (by simp only[execOp,hv,zga,qw hl hu,zea,zla]) (Qp.same h (fJ hγ λo ho=>?_) _)⟩
  obtain⟨k1,rfl⟩:=hob o ho;have:=vF (i:=f) (u:=u) k1 (by simp[aH,hu])
  exact⟨this.1,by rw[this.2];simp[aX]⟩
 case fptr t' z=>
  split at hq<;>first|cases hq|skip
  rename_i hb;have:=Ty.eq_of_beq _ _ hb;subst this;replace hq:=bind_some_inv hq;obtain⟨u,hu,hq⟩:=hq;replace hq:=bind_some_inv hq;obtain⟨z',hz,hq⟩:=hq;obtain⟨k1,k0,b,off,hv,k2⟩:=wg hx;rcases hE.lay T _ ht with⟨ts',hts⟩|hl
  ·cases hts
  have hg:z.get [f]=some z':=by simp[D.get,hz]
  obtain⟨m1,A,B,m2,m3⟩:=hC [f] k1 k0 (show aH (.st ts) [f]=some u by simp[aH,hu]) hg
  rw[m2] at k2;have k3:=k2.part;rw[m3] at k3;refine⟨_,hq,.value (v:=.pointer (some ⟨b,off+Ty.sizes (ts.take f),none⟩)) (w':=w) (by simp only[execOp,hv,zga,qw hl hu,zea,zla]) (Qp.same h (mL m1 (bI (by simpa [aj] using k0) hu) ?_) _)⟩
  simpa [aX] using k3
def kC{T:TypeId}{n:Nat}{e:Ty}(hl:bC P (.arr n e) T=true){kk:IntKind}{k:Nat}(hk:k<n)(b off:Nat)(w:World) :
  (Instr.indexAt T (.pointer (some ⟨b,off,none⟩)) (.int kk k)).run P w=.ok (.pointer (some ⟨b,off+k*e.size,none⟩)) w:=by
 obtain⟨u,h1,h2⟩:=dC hl;have hk':(0:Int)<=(k:Int)/\(k:Int)<(n:Int):=by omega
 simp only[Instr.indexAt,asIntOf,pure_bind,zga,run_underlying h1,zea,ko,zla,hk',and_self,if_true,bR h2,cN,zTc]
def lw{T:TypeId}{e:Ty}(hl:bC P (.sl e) T=true){kk:IntKind}{k len cap:Nat}(hk:k<len)(b off:Nat)(w:World) :
  (Instr.indexAt T (.slice (some ⟨b,off,none⟩) len cap) (.int kk k)).run P w=.ok (.pointer (some ⟨b,off+k*e.size,none⟩)) w:=by
 obtain⟨u,h1,h2⟩:=ii hl;have hk':(0:Int)<=(k:Int)/\(k:Int)<(len:Int):=by omega
 simp only[Instr.indexAt,asIntOf,pure_bind,zga,run_underlying h1,zea,zla,hk',and_self,if_true,bR h2,cN,zTc]
def D5{c:Cx}{t:Ty}{id:Nat}{v:Value}(h:AR c (.mem t id) v):aj t=true/\∃ b,c.γ id=some b/\∀ o,c.ob id=some o->∃ l,o=.many t l/\v=.slice (some ⟨b,0,none⟩) l.length l.length:=by
 simp only[AR,AC] at h;obtain⟨h1,h2,b,h3,h4⟩:=h;refine⟨h2,b,h3,λo ho=>?_⟩;obtain⟨l,k1,k2⟩:=h4 o ho;exact⟨l,k1,am h1 k2⟩
def js{c:Cx}{ob:Nat->Option Ob}{e:Ty}{y:AV}{v:Value}{l:List D}(hn:aj e=true)(h:AR c y v)(hl:y.asList ob e=some l):(∀ x∈l,wt e x)/\CR c.w c.S (.sl l) v:=by
 unfold AV.asList at hl;obtain⟨x,h1,h2⟩:=bind_some_inv hl;have:=EA h2;subst this;obtain⟨k1,k2⟩:=mM (t:=.sl e) (by simpa [aj] using hn) h h1
 simp only[wt] at k1;obtain⟨l',e1,k3⟩:=k1;cases e1;exact⟨k3,k2.sl_inv⟩
def xh(hE:EnvOk P E)(h:Rp w0 S γ β s a w){dst T x i ty pos after guard}:iM P E w0 S γ β s a w ⟨dst,.indexAddr T x i,ty,pos,after,guard⟩:=by
 intro R K r hq;simp only[qv] at hq;replace hq:=bind_some_inv hq;obtain⟨t,ht,hq⟩:=hq;replace hq:=bind_some_inv hq;obtain⟨ix,hix,hq⟩:=hq;have hi:=dA hix;have hi2:=aN h i;rw[hi] at hi2;have hx:=aN h x;generalize s.opA x=y at *;cases t<;>(try simp only at hq)<;>first|cases hq|skip
 case arr n e=>
  rcases hE.lay T _ ht with⟨ts',hts⟩|hl
  ·cases hts
  cases y<;>(try simp only at hq)<;>first|cases hq|skip
  case ptr t' id p=>
   split at hq<;>first|cases hq|skip
   rename_i hb;have:=Ty.eq_of_beq _ _ hb;subst this;replace hq:=bind_some_inv hq;obtain⟨k,hk,hq⟩:=hq;obtain⟨kk,hk1,hk2⟩:=n8 hk;rw[hk1] at hi2;obtain⟨mr,_⟩:=ef hi2;obtain⟨b,off,hv,hγ,hob⟩:=jY hx;refine⟨_,hq,.value (v:=.pointer (some ⟨b,off+k*e.size,none⟩)) (w':=w) (by simp only[execOp,hv,mr,zga,kC hl hk2,zea,zla]) (Qp.same h (fJ hγ λo ho=>?_) _)⟩
   obtain⟨k1,rfl⟩:=hob o ho;have:=vF (i:=k) (u:=e) k1 (by cases e<;>simp[aH])
   exact⟨this.1,by rw[this.2];cases e<;>simp[aX]⟩
  case fptr t' z=>
   split at hq<;>first|cases hq|skip
   rename_i hb;have:=Ty.eq_of_beq _ _ hb;subst this;replace hq:=bind_some_inv hq;obtain⟨k,hk,hq⟩:=hq;replace hq:=bind_some_inv hq;obtain⟨z',hz,hq⟩:=hq;obtain⟨kk,hk1,hk2⟩:=n8 hk;rw[hk1] at hi2;obtain⟨mr,_⟩:=ef hi2;obtain⟨k1,k0,b,off,hv,k2⟩:=wg hx;have hg:z.get [k]=some z':=by simp[D.get,hz]
   obtain⟨m1,A,B,m2,m3⟩:=hC [k] k1 k0 (show aH (.arr n e) [k]=some e by cases e<;>simp[aH]) hg
   rw[m2] at k2;have k3:=k2.part;rw[m3] at k3;refine⟨_,hq,.value (v:=.pointer (some ⟨b,off+k*e.size,none⟩)) (w':=w) (by simp only[execOp,hv,mr,zga,kC hl hk2,zea,zla]) (Qp.same h (mL m1 (by simpa [aj] using k0) ?_) _)⟩
   have:aX (.arr n e) [k]=k*e.size:=by cases e<;>simp[aX]
   rwa [this] at k3
 case sl e=>
  rcases hE.lay T _ ht with⟨ts',hts⟩|hl
  ·cases hts
  have hne:aj e=true:=by have:=aD _ _ hl;simpa [aj] using this
  by_cases hm:∃ t' id,y=.mem t' id
  ·obtain⟨t',id,rfl⟩:=hm;simp only at hq;split at hq<;>first|cases hq|skip
   rename_i hb;have:=Ty.eq_of_beq _ _ hb;subst this;split at hq<;>first|cases hq|skip
   rename_i u l hob;replace hq:=bind_some_inv hq;obtain⟨k,hk,hq⟩:=hq;obtain⟨kk,hk1,hk2⟩:=n8 hk;rw[hk1] at hi2;obtain⟨mr,_⟩:=ef hi2;obtain⟨_,b,hγ,hob2⟩:=D5 hx;obtain⟨l',e1,hv⟩:=hob2 _ hob;cases e1;refine⟨_,hq,.value (v:=.pointer (some ⟨b,0+k*t'.size,none⟩)) (w':=w) (by simp only[execOp,hv,mr,zga,lw hl hk2,zea,zla]) (Qp.same h (fJ hγ λo ho=>?_) _)⟩
   have:o=.many t' l:=by have:=hob.symm.trans ho;cases this;rfl
   subst this;exact⟨by cases t'<;>simp[dP,aH],by cases t'<;>simp[bX,aX]⟩
  ·have hq':(y.asList s.ob e).bind (λl=>(ix.2.idx l.length).bind λk=>(l[k]?).bind λy=>K (.fptr e y))=some r:=by
    cases y<;>first|exact hq|exact absurd ⟨_,_,rfl⟩ hm
   obtain⟨l,h1,hq⟩:=bind_some_inv hq';replace hq:=bind_some_inv hq;obtain⟨k,hk,hq⟩:=hq;replace hq:=bind_some_inv hq;obtain⟨z,hz,hq⟩:=hq;obtain⟨kk,hk1,hk2⟩:=n8 hk;rw[hk1] at hi2;obtain⟨mr,_⟩:=ef hi2;obtain⟨k1,k2⟩:=js hne hx h1;obtain⟨A,cap,b,off,hv,k3,k4,k5⟩:=k2.elems;have hA:A=some ⟨b,off,none⟩:=by
    rcases k3 with rfl|k3
    ·simp at hz
    ·exact k3
   rw[bT hz] at k5;have k6:=k5.part;rw[aB hne _ (λx hx=>k1 x (zGa hx)),zcb,zlb (zhc hk2)] at k6;exact⟨_,hq,.value (v:=.pointer (some ⟨b,off+k*e.size,none⟩)) (w':=w) (by simp only[execOp,hv,hA,mr,zga,lw hl hk2,zea,zla]) (Qp.same h (mL (k1 z (z0a hz)) hne k6) _)⟩
def gq{T:TypeId}{t:Ty}(hl:bC P t T=true){cs:Array Value}{pre mid post:List Value}(hcs:cs.toList=pre++(mid++post))(hm:mid.length=t.size)(hn:nag mid)(w:World) :
  ∃ v,(part T cs pre.length).run P w=.ok v w/\fH t mid v:=by
 have e:cs=(pre++(mid++post)).toArray:=by rw[<-hcs]
 subst e;unfold part;rw[zga,BS hl,zea];cases ha:cw t
 ·have h1:mid.length=1:=by
   rw[hm];cases t<;>simp[cw] at ha<;>first|rfl|(exfalso;exact u5 hl (.inl ⟨_,rfl⟩))
  match mid,h1 with
  | [c],_=>
   have h2:=hn c (by simp)
   refine⟨c,?_,?_,?_,?_⟩
   ·simp
   ·cases c<;>simp_all [Value.cells,Value.oneCell']
   ·simp_all
   ·grind [Value.oneCell']
 ·refine⟨.agg mid.toArray,?_,rfl,λ_=>⟨_,rfl⟩,by rw[ha];intro h;cases h⟩
  simp only[if_true,zga,bR hl,zea,zla]
  simp_all
def F9(hE:EnvOk P E)(h:Rp w0 S γ β s a w){dst T x f ty pos after guard}:iM P E w0 S γ β s a w ⟨dst,.field T x f,ty,pos,after,guard⟩:=by
 intro R K r hq;simp only[qv] at hq;replace hq:=bind_some_inv hq;obtain⟨t,ht,hq⟩:=hq;have hx:=aN h x;generalize s.opA x=y at *;cases t<;>(try simp only at hq)<;>first|cases hq|skip
 rename_i ts;cases y<;>(try simp only at hq)<;>first|cases hq|skip
 rename_i t' z;split at hq<;>first|cases hq|skip
 rename_i hb;have:=Ty.eq_of_beq _ _ hb;subst this;replace hq:=bind_some_inv hq;obtain⟨u,hu,hq⟩:=hq;replace hq:=bind_some_inv hq;obtain⟨z',hz,hq⟩:=hq;rcases hE.lay T _ ht with⟨ts',hts⟩|hl
 ·cases hts
 have hn:=aD _ _ hl;obtain⟨k1,k2⟩:=xL hx hn;have hg:z.get [f]=some z':=by simp[D.get,hz]
 obtain⟨m1,A,B,m2,m3⟩:=hC [f] k1 hn (show aH (.st ts) [f]=some u by simp[aH,hu]) hg
 obtain⟨k3,k4⟩:=k2;rw[m2] at k4;obtain⟨k5,k6⟩:=k4.split;obtain⟨k7,k8⟩:=k6.split;obtain⟨fs,h1,h2⟩:=ij hl;obtain⟨g,h3,h4,_,h6⟩:=rn h2 hu;have hnu:=aD _ _ h6;obtain⟨cs,hcs⟩:∃ cs,a.eval x=.agg cs:=by
  simp only[wt] at k1;obtain⟨l,rfl,_⟩:=k1;exact k3
 rw[hcs] at k5 k6 k7 k8;simp only[Value.cells] at k5 k6 k7 k8;obtain⟨v,hrun,hval⟩:=gq h6 (cs:=cs) (pre:=cs.toList.take A.length) (mid:=(cs.toList.drop A.length).take z'.flat.length) (post:=(cs.toList.drop A.length).drop z'.flat.length)
  (by simp only[zpa]) (by rw[<-k7.1];exact cb _ _ m1 hnu) k7.nag w
 have hoff:g.offset=(cs.toList.take A.length).length:=by rw[<-k5.1,m3,h4];simp[aX]
 have h3':fs[f]?=some g:=by simpa using h3
 exact⟨_,hq,.value (v:=v) (w':=w) (by simp only[execOp,hcs,Instr.field,zga,run_underlying h1,zea,h3',asAgg,zla,hoff,hrun]) (Qp.same h (ux (bF _ _) (by simp only[AC];exact⟨m1,hnu,k7⟩) hval) _)⟩
def Ga(hE:EnvOk P E)(h:Rp w0 S γ β s a w){dst T x i ty pos after guard}:iM P E w0 S γ β s a w ⟨dst,.index T x i,ty,pos,after,guard⟩:=by
 intro R K r hq;simp only[qv] at hq;replace hq:=bind_some_inv hq;obtain⟨t,ht,hq⟩:=hq;replace hq:=bind_some_inv hq;obtain⟨ix,hix,hq⟩:=hq;have hi:=dA hix;have hi2:=aN h i;rw[hi] at hi2;have hx:=aN h x;generalize s.opA x=y at *;cases t<;>(try simp only at hq)<;>first|cases hq|skip
 case str=>
  cases y<;>(try simp only at hq)<;>first|cases hq|skip
  rename_i t' z;split at hq<;>first|cases hq|skip
  rename_i hb;have:=Ty.eq_of_beq _ _ hb;subst this;replace hq:=bind_some_inv hq;obtain⟨z',hz,hq⟩:=hq;rcases hE.lay T _ ht with⟨ts',hts⟩|hl
  ·cases hts
  obtain⟨k1,k2⟩:=xL hx rfl;simp only[wt] at k1;obtain⟨sb,rfl⟩:=k1;obtain⟨kt,kx⟩:=ix;cases kx<;>(try simp only[D.strAt] at hz)<;>first|cases hz|skip
  rename_i k n;obtain⟨bb,hb1,hb2⟩:=bind_some_inv hz;simp only[zca] at hb2;subst hb2;obtain⟨mr,_⟩:=ef hi2;have hsv:a.eval x=.string sb:=by
   obtain⟨c1,c2⟩:=k2;obtain⟨c,e,h⟩:=cF.single' c2;have:=am c1 e;rw[this];cases h;rfl
  have hu:P.underlying T=some .string:=by
   simp only[bC,zaa] at hl;all_goals grind
  exact⟨_,hq,.value (v:=.int .u8 bb.toNat) (w':=w) (by simp only[execOp,hsv,mr,Instr.index,asIntOf,pure_bind,zga,run_underlying hu,zea,hb1,zla]) (Qp.same h (cr _ _) _)⟩
 rename_i n e;cases y<;>(try simp only at hq)<;>first|cases hq|skip
 rename_i t' z;split at hq<;>first|cases hq|skip
 rename_i hb;have:=Ty.eq_of_beq _ _ hb;subst this;replace hq:=bind_some_inv hq;obtain⟨k,hk,hq⟩:=hq;replace hq:=bind_some_inv hq;obtain⟨z',hz,hq⟩:=hq;obtain⟨kk,hk1,hk2⟩:=n8 hk;rw[hk1] at hi2;obtain⟨mr,_⟩:=ef hi2;rcases hE.lay T _ ht with⟨ts',hts⟩|hl
 ·cases hts
 have hn:=aD _ _ hl;obtain⟨k1,k2⟩:=xL hx hn;have hg:z.get [k]=some z':=by simp[D.get,hz]
 obtain⟨m1,A,B,m2,m3⟩:=hC [k] k1 hn (show aH (.arr n e) [k]=some e by cases e<;>simp[aH]) hg
 obtain⟨k3,k4⟩:=k2;rw[m2] at k4;obtain⟨k5,k6⟩:=k4.split;obtain⟨k7,k8⟩:=k6.split;obtain⟨u,h1,h6⟩:=dC hl;have hnu:=aD _ _ h6;obtain⟨cs,hcs⟩:∃ cs,a.eval x=.agg cs:=by
  simp only[wt] at k1;obtain⟨l,rfl,_⟩:=k1;exact k3
 rw[hcs] at k5 k6 k7 k8;simp only[Value.cells] at k5 k6 k7 k8;obtain⟨v,hrun,hval⟩:=gq h6 (cs:=cs) (pre:=cs.toList.take A.length) (mid:=(cs.toList.drop A.length).take z'.flat.length) (post:=(cs.toList.drop A.length).drop z'.flat.length)
  (by simp only[zpa]) (by rw[<-k7.1];exact cb _ _ m1 hnu) k7.nag w
 have hoff:k*e.size=(cs.toList.take A.length).length:=by rw[<-k5.1,m3];cases e<;>simp[aX]
 have hk':(0:Int)<=(k:Int)/\(k:Int)<(n:Int):=by omega
 exact⟨_,hq,.value (v:=v) (w':=w) (by simp only[execOp,hcs,mr,Instr.index,asIntOf,pure_bind,zga,run_underlying h1,zea,hk',and_self,if_true,bR h6,zTc,hoff,hrun,zla]) (Qp.same h (ux (bF _ _) (by simp only[AC];exact⟨m1,hnu,k7⟩) hval) _)⟩
end
end Sy
end
noncomputable section
namespace Sy
open Go
def BB:BinOp->Bool
 | .eql|.neq|.lss|.leq|.gtr|.geq=>true
 | _=>false
section
variable{P:Program}{E:Env}{w0:Root}{S:Nat->Nat->Prop}{γ:Nat->Option Nat}{β:Nat->Option (Nat×Nat)}{s:St}{a:Act}{w:World}
def Is{op:BinOp}{k k':IntKind}{x y:Int}{z:D}(T:TypeId)(w:World)(h:D.bin op (.int k x) (.int k' y)=some z) :
  (BB op=true/\∃ c,z=.bool c/\(binOp op T (.int k x) (.int k' y)).run P w=.ok (.bool c) w)\/(BB op=false/\∃ n,z=.int k n/\(binOp op T (.int k x) (.int k' y)).run P w=.ok (.int k n) w):=by
 cases op<;>simp only[D.bin,D.bitOp] at h
 case shl=>
     split at h<;>first|(cases h;done)|skip
     rename_i hy;simp only[zca] at h;exact .inr ⟨rfl,_,h.symm,by simp[binOp,Op.shift,hy]⟩
 case shr=>
     split at h<;>first|(cases h;done)|skip
     rename_i hy;simp only[zca] at h;exact .inr ⟨rfl,_,h.symm,by simp[binOp,Op.shift,hy]⟩
 case quo=>
  split at h<;>first|(cases h;done)|skip
  rename_i hk;subst hk;split at h<;>first|(cases h;done)|skip
  rename_i hy;simp only[zca] at h;exact .inr ⟨rfl,_,h.symm,by simp[binOp,Op.intDiv,hy]⟩
 case rem=>
  split at h<;>first|(cases h;done)|skip
  rename_i hk;subst hk;split at h<;>first|(cases h;done)|skip
  rename_i hy;simp only[zca] at h;exact .inr ⟨rfl,_,h.symm,by simp[binOp,Op.intDiv,hy]⟩
 all_goals (split at h<;>first|(cases h;done)|skip)
 all_goals (rename_i hk;subst hk)
 all_goals (simp only[zca] at h)
 all_goals first
  | (refine .inl ⟨rfl,_,h.symm,?_⟩;simp[binOp,Op.intCmp];done)
  | (refine .inr ⟨rfl,_,h.symm,?_⟩;simp[binOp,Op.intArith];done)
  | (refine .inr ⟨rfl,_,h.symm,?_⟩;simp only[binOp,ne_eq,not_true_eq_false,if_false];rfl)
def eJ(op:BinOp)(T:TypeId)(x y:Operand)(k k':IntKind)(u v:Int)(w:World):(eqGuard op T x y (.int k u) (.int k' v)).run P w=.ok () w:=by cases op<;>simp[eqGuard]
def jM(op:BinOp)(T:TypeId)(x y:Operand)(u v:Bool)(w:World):(eqGuard op T x y (.bool u) (.bool v)).run P w=.ok () w:=by cases op<;>simp[eqGuard]
def dX{t:Ty}{c v:Value}(h:fH t [c] v)(ha:cw t=false):v=c:=am (h.2.2 ha) h.1
def gS{t:Ty}{cs:List Value}{v:Value}(h:fH t cs v)(ha:cw t=true):v=.agg cs.toArray:=by
 obtain⟨xs,rfl⟩:=h.2.1 ha;have:=h.1;simp only[Value.cells] at this;rw[<-this]
theorem xR:∀ (n:Nat) {l l':List D},l.length=n->l'.length=n->D.beqs l l'=(List.range n).all λj=>D.beq (l.getD j (.bool false)) (l'.getD j (.bool false))
 | 0,[],[],_,_=>rfl
 | n+1,x::l,y::l',h,h'=>by
  simp only[D.beqs,List.range_succ_eq_map,zFb,List.all_map];rw[xR n (by simpa using h) (by simpa using h')]
  rfl
mutual
theorem nV:∀ (ty:Ty) (T:TypeId) (x y:D) (cx cy:List Value) (vx vy:Value) (d:Nat),bC P ty T=true->bH ty=true->ty.high<=d->wt ty x->wt ty y->cF w S x.flat cx->cF w S y.flat cy->fH ty cx vx->fH ty cy vy ->
  ∀ w',(Op.equalIn d T vx vy).run P w'=.ok (D.beq x y) w'
 | .int k,T,x,y,cx,cy,vx,vy,d,hl,_,hd,hx,hy,rx,ry,ix,iy,w'=>by
  simp only[wt] at hx hy;obtain⟨n,rfl⟩:=hx;obtain⟨m,rfl⟩:=hy;obtain⟨c1,rfl,r1⟩:=rx.single';obtain⟨c2,rfl,r2⟩:=ry.single';rw[dX ix rfl,dX iy rfl,r1.int_inv,r2.int_inv];obtain⟨d,rfl⟩:∃ e,d=e+1:=⟨d-1,by simp only[Ty.high] at hd;omega⟩
  rw[run_equalIn_int w' d T k k n m (ja hl)];simp only[D.beq,decide_true,zOb];rfl
 | .bool,T,x,y,cx,cy,vx,vy,d,hl,_,hd,hx,hy,rx,ry,ix,iy,w'=>by
  simp only[wt] at hx hy;obtain⟨n,rfl⟩:=hx;obtain⟨m,rfl⟩:=hy;obtain⟨c1,rfl,r1⟩:=rx.single';obtain⟨c2,rfl,r2⟩:=ry.single';rw[dX ix rfl,dX iy rfl,r1.bool_inv,r2.bool_inv];obtain⟨d,rfl⟩:∃ e,d=e+1:=⟨d-1,by simp only[Ty.high] at hd;omega⟩
  have hu:P.underlying T=some .bool:=by
   simp only[bC,zaa] at hl;all_goals grind
  rw[run_equalIn_bool' w' d T n m hu];rfl
 | .st ts,T,x,y,cx,cy,vx,vy,d,hl,hc,hd,hx,hy,rx,ry,ix,iy,w'=>by
  simp only[wt] at hx hy;obtain⟨l,rfl,hx⟩:=hx;obtain⟨l',rfl,hy⟩:=hy;rw[gS ix rfl,gS iy rfl];obtain⟨fs,h1,h2⟩:=ij hl;have h3:P.fieldsOf T=fs:=by simp[Program.fieldsOf,h1]
  have h4:P.stoodInHeld T=false:=by
   simp_all [bC,zaa,zFa]
  simp only[Ty.high] at hd;obtain⟨d,rfl⟩:∃ e,d=e+1:=⟨d-1,by omega⟩
  rw[run_equalIn_struct w' d T _ _ (by rw[h3];exact h1) h4,h3]
  simp only[bH] at hc;simp only[D.beq];simp only[D.flat] at rx ry;exact qe ts fs.toList 0 l l' [] cx [] cy _ _ d h2 hc (by omega) hx hy rx ry rfl rfl rfl rfl w'
 | .arr n t,T,x,y,cx,cy,vx,vy,d,hl,hc,hd,hx,hy,rx,ry,ix,iy,w'=>by
  simp only[wt] at hx hy;obtain⟨l,rfl,hxl,hx⟩:=hx;obtain⟨l',rfl,hyl,hy⟩:=hy;rw[gS ix rfl,gS iy rfl];obtain⟨u,h1,h2⟩:=dC hl;obtain⟨i,z,h3,h4,_⟩:=eO (fQ h2);simp only[Ty.high] at hd;obtain⟨d,rfl⟩:∃ e,d=e+1:=⟨d-1,by omega⟩
  rw[run_equalIn_array w' d _ _ h1 h3];simp only[bH] at hc;simp only[D.beq];simp only[D.flat] at rx ry;have hcell:P.cellsOf u=t.size:=by simp[Program.cellsOf,h3,h4]
  have hn:=aD _ _ h2;rw[xR n hxl hyl];have key:∀ (is:List Nat) (w':World),(∀ j∈is,j<n)->(Op.eqItems d u (P.cellsOf u) cx.toArray cy.toArray is).run P w'=.ok (is.all λj=>D.beq (l.getD j (.bool false)) (l'.getD j (.bool false))) w':=by
   intro is
   induction is with
   | nil=>intro w' _;simp[Op.eqItems]
   | cons j is ih=>
    intro w' hj;have hjn:=hj j (by simp)
    have e1:l[j]?=some (l.getD j (.bool false)):=by simp_all
    have e2:l'[j]?=some (l'.getD j (.bool false)):=by simp_all
    generalize l.getD j (.bool false)=dx at *;generalize l'.getD j (.bool false)=dy at *;have wx:=hx dx (z0a e1);have wy:=hy dy (z0a e2);have rx':=rx;have ry':=ry;rw[bT e1] at rx';rw[bT e2] at ry';obtain⟨p1,p2⟩:=rx'.split;obtain⟨p3,p4⟩:=p2.split;obtain⟨q1,q2⟩:=ry'.split;obtain⟨q3,q4⟩:=q2.split;have o1:(cx.take (D.flats (l.take j)).length).length=j*t.size:=by
     rw[<-p1.1,aB hn _ (λx hx'=>hx x (zGa hx')),zcb,zlb (by omega)]
    have o2:(cy.take (D.flats (l'.take j)).length).length=j*t.size:=by
     rw[<-q1.1,aB hn _ (λx hx'=>hy x (zGa hx')),zcb,zlb (by omega)]
    obtain⟨v1,r1,i1⟩:=gq h2 (cs:=cx.toArray) (pre:=cx.take (D.flats (l.take j)).length) (mid:=(cx.drop (D.flats (l.take j)).length).take dx.flat.length) (post:=(cx.drop (D.flats (l.take j)).length).drop dx.flat.length)
     (by simp only[zpa]) (by rw[<-p3.1];exact cb _ _ wx hn) p3.nag w'
    obtain⟨v2,r2,i2⟩:=gq h2 (cs:=cy.toArray) (pre:=cy.take (D.flats (l'.take j)).length) (mid:=(cy.drop (D.flats (l'.take j)).length).take dy.flat.length) (post:=(cy.drop (D.flats (l'.take j)).length).drop dy.flat.length)
     (by simp only[zpa]) (by rw[<-q3.1];exact cb _ _ wy hn) q3.nag w'
    rw[o1,<-hcell] at r1;rw[o2,<-hcell] at r2;have r3:=nV t u dx dy _ _ v1 v2 d h2 hc (by omega) wx wy p3 q3 i1 i2 w'
    simp only[Op.eqItems,zga,r1,r2,r3,zea,zFb];have e1':l[j]?.getD (.bool false)=dx:=by rw[e1];rfl
    have e2':l'[j]?.getD (.bool false)=dy:=by rw[e2];rfl
    have ih':=ih w' (λk hk=>hj k (by simp[hk]))
    simp only[List.getD,e1',e2'];cases D.beq dx dy
    ·simp
    ·simpa [List.getD] using ih'
  exact key _ w' (λj hj=>by simpa using hj)
 | .str,_,_,_,_,_,_,_,_,_,hc,_,_,_,_,_,_,_,_=>by simp[bH] at hc
 | .sl _,_,_,_,_,_,_,_,_,_,hc,_,_,_,_,_,_,_,_=>by simp[bH] at hc
 | .tup _,_,_,_,_,_,_,_,_,_,hc,_,_,_,_,_,_,_,_=>by simp[bH] at hc
 | .fn,_,_,_,_,_,_,_,_,_,hc,_,_,_,_,_,_,_,_=>by simp[bH] at hc
theorem qe:∀ (ts:List Ty) (fs:List Field) (off:Nat) (l l':List D) (px cx py cy:List Value) (xs ys:Array Value) (d:Nat),fl P ts fs off=true->kR ts=true->Ty.highs ts<=d->er ts l->er ts l'->cF w S (D.flats l) cx->cF w S (D.flats l') cy ->
  xs.toList=px++cx->px.length=off->ys.toList=py++cy->py.length=off->∀ w',(Op.eqFields d xs ys fs).run P w'=.ok (D.beqs l l') w'
 | [],fs,off,l,l',px,cx,py,cy,xs,ys,d,hf,_,_,hx,hy,_,_,_,_,_,_,w'=>by
  simp only[er] at hx hy;subst hx;subst hy;cases fs with
  | nil=>simp[Op.eqFields,D.beqs]
  | cons f fs=>simp[fl] at hf
 | t::ts,[],off,l,l',px,cx,py,cy,xs,ys,d,hf,_,_,hx,hy,_,_,_,_,_,_,w'=>by simp[fl] at hf
 | t::ts,f::fs,off,l,l',px,cx,py,cy,xs,ys,d,hf,hc,hd,hx,hy,rx,ry,ex,lx,ey,ly,w'=>by
  simp only[fl,zaa,decide_eq_true_eq] at hf;obtain⟨⟨⟨⟨h1,h2⟩,h3⟩,h4⟩,h5⟩:=hf;simp only[er] at hx hy;obtain⟨dx,l,rfl,hx1,hx2⟩:=hx;obtain⟨dy,l',rfl,hy1,hy2⟩:=hy;simp only[D.flats] at rx ry;obtain⟨p3,p4⟩:=rx.split;obtain⟨q3,q4⟩:=ry.split;have hn:=aD _ _ h4;simp only[kR,zaa] at hc;simp only[Ty.highs] at hd;obtain⟨v1,r1,i1⟩:=gq h4 (cs:=xs) (pre:=px) (mid:=cx.take dx.flat.length) (post:=cx.drop dx.flat.length) (by rw[ex,zpa]) (by rw[<-p3.1];exact cb _ _ hx1 hn) p3.nag w'
  obtain⟨v2,r2,i2⟩:=gq h4 (cs:=ys) (pre:=py) (mid:=cy.take dy.flat.length) (post:=cy.drop dy.flat.length) (by rw[ey,zpa]) (by rw[<-q3.1];exact cb _ _ hy1 hn) q3.nag w'
  rw[lx,<-h1] at r1;rw[ly,<-h1] at r2;have r3:=nV t f.type dx dy _ _ v1 v2 d h4 hc.1 (by omega) hx1 hy1 p3 q3 i1 i2 w'
  have hs1:(cx.take dx.flat.length).length=t.size:=by rw[<-p3.1];exact cb _ _ hx1 hn
  have hs2:(cy.take dy.flat.length).length=t.size:=by rw[<-q3.1];exact cb _ _ hy1 hn
  have ih:=qe ts fs (off+t.size) l l' (px++cx.take dx.flat.length) (cx.drop dx.flat.length) (py++cy.take dy.flat.length) (cy.drop dy.flat.length) xs ys d h5 hc.2 (by omega) hx2 hy2 p4 q4
   (by rw[zEa,zpa];exact ex) (by rw[zta,lx,hs1]) (by rw[zEa,zpa];exact ey) (by rw[zta,ly,hs2]) w'
  simp only[Op.eqFields,h2,ne_eq,not_false_eq_true,if_true,zga,r1,r2,r3,zea,D.beqs];cases D.beq dx dy
  ·simp
  ·simpa using ih
end
def F6(hE:EnvOk P E)(h:Rp w0 S γ β s a w){dst op T x y T' ty pos after guard}:iM P E w0 S γ β s a w ⟨dst,.binOp op T x y T',ty,pos,after,guard⟩:=by
 intro R K r hq;simp only[qv] at hq;replace hq:=bind_some_inv hq;obtain⟨t,ht,hq⟩:=hq;replace hq:=bind_some_inv hq;obtain⟨u,hu,hq⟩:=hq;replace hq:=bind_some_inv hq;obtain⟨v,hv,hq⟩:=hq;have hx:=aN h x;have hy:=aN h y;rw[dA hu] at hx;rw[dA hv] at hy;have eqc:∀ (ng:Bool),(u.1.beq t&&v.1.beq t&&bH t)=true->∀ (o:BinOp),(o=.eql/\ng=false)\/(o=.neq/\ng=true) ->
   (execOp a.eval ⟨dst,.binOp o T x y T',ty,pos,after,guard⟩).run P w=.ok (.value (.bool (xor ng (D.beq u.2 v.2)))) w:=by
  intro ng hb o ho;simp only[zaa] at hb;obtain⟨⟨h1,h2⟩,h3⟩:=hb;have e1:=Ty.eq_of_beq _ _ h1;have e2:=Ty.eq_of_beq _ _ h2;rw[e1] at hx;rw[e2] at hy;have hl:bC P t T=true:=by
   rcases hE.lay T _ ht with⟨ts',rfl⟩|hl
   ·simp[bH] at h3
   ·exact hl
  have hn:=aD _ _ hl;obtain⟨k1,k2⟩:=xL hx hn;obtain⟨m1,m2⟩:=xL hy hn;have hh:=hE.high T _ ht;have i1:fH t (a.eval x).cells.toList (a.eval x):=⟨rfl,nB k1 hn k2.1⟩;have i2:fH t (a.eval y).cells.toList (a.eval y):=⟨rfl,nB m1 hn m2.1⟩;have r3:=nV t T u.2 v.2 _ _ _ _ 10000 hl h3 (by omega) k1 m1 k2.2 m2.2 i1 i2 w
  cases t<;>simp only[bH] at h3<;>first|cases h3|skip
  case int k=>
   simp only[wt] at k1 m1;obtain⟨n,e3⟩:=k1;obtain⟨m,e4⟩:=m1;rw[e3] at k2 hx ⊢;rw[e4] at m2 hy ⊢;have v1:=k2.int_inv;have v2:=m2.int_inv;rcases ho with⟨rfl,rfl⟩|⟨rfl,rfl⟩
   ·simp only[execOp,v1,v2,zga,eJ,zea];simp[binOp,Op.intCmp,D.beq];rfl
   ·simp only[execOp,v1,v2,zga,eJ,zea];simp[binOp,Op.intCmp,D.beq];rfl
  case bool=>
   simp only[wt] at k1 m1;obtain⟨n,e3⟩:=k1;obtain⟨m,e4⟩:=m1;rw[e3] at k2 hx r3 ⊢;rw[e4] at m2 hy r3 ⊢;have v1:=k2.bool_inv;have v2:=m2.bool_inv;rw[v1,v2] at r3;rcases ho with⟨rfl,rfl⟩|⟨rfl,rfl⟩
   ·simp only[execOp,v1,v2,zga,jM,zea,binOp,Op.equal,Op.maxDepth,r3,zla,zBd]
   ·simp only[execOp,v1,v2,zga,jM,zea,binOp,Op.equal,Op.maxDepth,r3,zla,Bool.true_xor]
  case st ts=>
   obtain⟨xs,e3⟩:=i1.2.1 rfl;obtain⟨ys,e4⟩:=i2.2.1 rfl;have hg:P.eqGuardType P.depth T=false:=by simp only[bC,zaa,zFa] at hl;exact hl.1.2
   rw[e3,e4] at r3;rcases ho with⟨rfl,rfl⟩|⟨rfl,rfl⟩
   ·simp only[execOp,e3,e4,zga,run_eqGuard_agg w _ T x y xs ys hg,zea,binOp,Op.equal,Op.maxDepth,r3,zla,zBd]
   ·simp only[execOp,e3,e4,zga,run_eqGuard_agg w _ T x y xs ys hg,zea,binOp,Op.equal,Op.maxDepth,r3,zla,Bool.true_xor]
  case arr n e=>
   obtain⟨xs,e3⟩:=i1.2.1 rfl;obtain⟨ys,e4⟩:=i2.2.1 rfl;have hg:P.eqGuardType P.depth T=false:=by simp only[bC,zaa,zFa] at hl;exact hl.1.2
   rw[e3,e4] at r3;rcases ho with⟨rfl,rfl⟩|⟨rfl,rfl⟩
   ·simp only[execOp,e3,e4,zga,run_eqGuard_agg w _ T x y xs ys hg,zea,binOp,Op.equal,Op.maxDepth,r3,zla,zBd]
   ·simp only[execOp,e3,e4,zga,run_eqGuard_agg w _ T x y xs ys hg,zea,binOp,Op.equal,Op.maxDepth,r3,zla,Bool.true_xor]
 have ints:∀ {z:D} {o:BinOp},D.bin o u.2 v.2=some z->∃ k k' n m,u.2=.int k n/\v.2=.int k' m:=by
  intro z o hz;cases hu2:u.2<;>rw[hu2] at hz<;>cases hv2:v.2<;>rw[hv2] at hz<;>simp only[D.bin] at hz<;>first|cases hz|skip
  exact⟨_,_,_,_,rfl,rfl⟩
 have main:∀ (o:BinOp) {z:D},D.bin o u.2 v.2=some z->∃ vv,(execOp a.eval ⟨dst,.binOp o T x y T',ty,pos,after,guard⟩).run P w=.ok (.value vv) w ∧
   ((BB o=true->AR ⟨w,S,γ,β,s.ob,s.dead⟩ (.d .bool z) vv)/\(BB o=false->AR ⟨w,S,γ,β,s.ob,s.dead⟩ (.d u.1 z) vv)):=by
  intro o z hz;obtain⟨k,k',n,m,e1,e2⟩:=ints hz;rw[e1,e2] at hz;rw[e1] at hx;rw[e2] at hy;obtain⟨v1,t1⟩:=ef hx;obtain⟨v2,_⟩:=ef hy;rcases Is (P:=P) T w hz with⟨h1,c,rfl,h2⟩|⟨h1,c,rfl,h2⟩
  ·refine⟨.bool c,by simp only[execOp,v1,v2,zga,eJ,zea,h2,zla],λ_=>fI c,λh=>by rw[h1] at h;cases h⟩
  ·refine⟨.int k c,by simp only[execOp,v1,v2,zga,eJ,zea,h2,zla],(λh=>by rw[h1] at h;cases h),λ_=>by rw[t1];exact cr k c⟩
 cases op<;>simp only at hq
 case eql=>
  split at hq<;>first|cases hq|skip
  rename_i hb;exact⟨_,hq,.value (eqc false hb .eql (.inl ⟨rfl,rfl⟩)) (Qp.same h (by simp only[zBd];exact fI _) _)⟩
 case neq=>
  split at hq<;>first|cases hq|skip
  rename_i hb;exact⟨_,hq,.value (eqc true hb .neq (.inr ⟨rfl,rfl⟩)) (Qp.same h (by simp only[Bool.true_xor];exact fI _) _)⟩
 all_goals
  replace hq:=bind_some_inv hq;obtain⟨z,hz,hq⟩:=hq;obtain⟨vv,h1,h2,h3⟩:=main _ hz;first
   | exact⟨_,hq,.value h1 (Qp.same h (h2 rfl) _)⟩
   | exact⟨_,hq,.value h1 (Qp.same h (h3 rfl) _)⟩
def Jt(h:Rp w0 S γ β s a w){dst op T x ty pos after guard}:iM P E w0 S γ β s a w ⟨dst,.unOp op T x,ty,pos,after,guard⟩:=by
 intro R K r hq;simp only[qv] at hq;replace hq:=bind_some_inv hq;obtain⟨u,hu,hq⟩:=hq;replace hq:=bind_some_inv hq;obtain⟨z,hz,hq⟩:=hq;have hx:=aN h x;rw[dA hu] at hx;cases hu2:u.2<;>rw[hu2] at hz hx<;>simp only[D.un] at hz<;>first|cases hz|skip
 case int k n=>
  obtain⟨v1,t1⟩:=ef hx;cases op<;>simp only[D.bitOp] at hz<;>first|cases hz|skip
  ·exact⟨_,hq,.value (v:=.int k (k.wrap (0-n))) (w':=w) (by simp[execOp,v1,Op.unary,Op.intArith]) (Qp.same h (by rw[t1];exact cr _ _) _)⟩
  ·exact⟨_,hq,.value (v:=.int k (k.wrap (BitVec.ofInt k.bits (if k.signed then -1 else k.max) ^^^ BitVec.ofInt k.bits n).toNat)) (w':=w) (by simp[execOp,v1,Op.unary,Op.intBits]) (Qp.same h (by rw[t1];exact cr _ _) _)⟩
 case bool b=>
  have v1:=Be hx;cases op<;>simp only at hz<;>first|cases hz|skip
  have ht:u.1=.bool:=by
   simp only[AR] at hx;rcases hx with⟨_,h2,_⟩|⟨ts,h1,_,h2,_⟩
   ·cases hu1:u.1<;>rw[hu1] at h2<;>simp only[wt] at h2<;>first
     | rfl
     | (obtain⟨m,h4⟩:=h2;cases h4;done)
     | (obtain⟨m,h4,_⟩:=h2;cases h4;done)
     | (exfalso;exact h2)
   ·rw[h1] at h2;simp only[wt] at h2;obtain⟨l,h4,_⟩:=h2;cases h4
  exact⟨_,hq,.value (v:=.bool (!b)) (w':=w) (by simp[execOp,v1,Op.unary]) (Qp.same h (by rw[ht];exact fI _) _)⟩
def AO(hE:EnvOk P E)(h:Rp w0 S γ β s a w){dst U T x ty pos after guard}:iM P E w0 S γ β s a w ⟨dst,.convert U T x,ty,pos,after,guard⟩:=by
 intro R K r hq;simp only[qv] at hq;replace hq:=bind_some_inv hq;obtain⟨u,hu,hq⟩:=hq;replace hq:=bind_some_inv hq;obtain⟨t,ht,hq⟩:=hq;replace hq:=bind_some_inv hq;obtain⟨b,hb,hq⟩:=hq;have hx:=aN h x;rw[dA hb] at hx;cases t<;>(try simp only at hq)<;>first|cases hq|skip
 rename_i k;split at hq<;>first|cases hq|skip
 rename_i hbu;replace hq:=bind_some_inv hq;obtain⟨z,hz,hq⟩:=hq;cases hb2:b.2<;>rw[hb2] at hz hx<;>simp only[D.conv] at hz<;>first|cases hz|skip
 rename_i k' n;obtain⟨v1,t1⟩:=ef hx;have e1:=Ty.eq_of_beq _ _ hbu;rw[t1] at e1;rw[<-e1] at hu;rcases hE.lay T _ ht with⟨ts',hts⟩|hl
 ·cases hts
 rcases hE.lay U _ hu with⟨ts',hts⟩|hl'
 ·cases hts
 exact⟨_,hq,.value (v:=.int k (k.wrap n)) (w':=w) (by simp[execOp,convert,v1,run_underlying (ja hl),run_underlying (ja hl'),Conv.intToInt]) (Qp.same h (cr _ _) _)⟩
end
end Sy
end
noncomputable section
namespace Sy
open Go
def gr(pre mid post cs:List Value)(h:mid.length=cs.length):dw (pre++(mid++post)).toArray pre.length cs.toArray=(pre++(cs++post)).toArray:=by
 unfold dw;apply zcc;simp[h];rw[zgb (by omega)]
theorem nC:∀ {ds:List D} {c1 c2:List Value},cq ds c1=true->cq ds c2=true->c1=c2
 | [],[],[],_,_=>rfl
 | [],_::_,_,h,_=>by simp[cq] at h
 | [],[],_::_,_,h=>by simp[cq] at h
 | _::_,[],_,h,_=>by simp[cq] at h
 | _::_,_::_,[],_,h=>by simp[cq] at h
 | d::ds,v1::c1,v2::c2,q1,q2=>by
  simp only[cq,zaa] at q1 q2;rw[nC q1.2 q2.2];congr 1;have a1:=q1.1;have a2:=q2.1;cases d<;>cases v1<;>simp only[CZ] at a1<;>first|(cases a1;done)|skip
  all_goals (cases v2<;>simp only[CZ] at a2<;>first|(cases a2;done)|skip)
  all_goals simp_all
section
variable{w:World}{S:Nat->Nat->Prop}
def PV(w:World)(S:Nat->Nat->Prop)(ty:Nat->Option Ty):List (Nat×D)->List (Nat×Value)->Prop
 | [],[]=>True
 | (i,x)::ps,(j,v)::vs=>i=j/\(∃ t,ty i=some t/\wt t x/\aj t=true/\fD w S x v)/\PV w S ty ps vs
 | _,_=>False
theorem rm{place:Nat->Option (Nat×Nat)}{ty:Nat->Option Ty}{off:Nat->Nat}{Good:List D->Prop}
  (hset:∀ l i t z,Good l->ty i=some t->wt t z->Good (l.set i z))
  (hget:∀ l i t,Good l->ty i=some t->∃ y,l[i]?=some y/\wt t y/\(D.flats (l.take i)).length=off i)
  (hplace:∀ i t,ty i=some t->place i=some (off i,t.size)) :
  ∀ (ps:List (Nat×D)) (vs:List (Nat×Value)) (l:List D) (cs:List Value),Good l->cF w S (D.flats l) cs->PV w S ty ps vs ->
   ∃ cs':List Value,kw place cs.toArray vs=some cs'.toArray/\Good (D.putParts l ps)/\cF w S (D.flats (D.putParts l ps)) cs'
 | [],[],l,cs,hg,hc,_=>⟨cs,rfl,hg,hc⟩
 | [],_::_,_,_,_,_,h=>by simp[PV] at h
 | _::_,[],_,_,_,_,h=>by simp[PV] at h
 | (i,x)::ps,(j,v)::vs,l,cs,hg,hc,h=>by
  simp only[PV] at h;obtain⟨rfl,⟨t,h1,h2,h3,h4⟩,h5⟩:=h;obtain⟨y,k1,k2,k3⟩:=hget l i t hg h1;rw[bT k1] at hc;obtain⟨c1,c2⟩:=hc.split;obtain⟨c3,c4⟩:=c2.split;have e:cs=cs.take (D.flats (l.take i)).length++((cs.drop (D.flats (l.take i)).length).take y.flat.length++(cs.drop (D.flats (l.take i)).length).drop y.flat.length):=by simp only[zpa]
  have l1:(cs.take (D.flats (l.take i)).length).length=off i:=by rw[<-c1.1,k3]
  have l2:((cs.drop (D.flats (l.take i)).length).take y.flat.length).length=t.size:=by rw[<-c3.1];exact cb _ _ k2 h3
  have l3:v.cells.toList.length=t.size:=by rw[<-h4.2.1];exact cb _ _ h2 h3
  have hc':cF w S (D.flats (l.set i x)) (cs.take (D.flats (l.take i)).length++(v.cells.toList++(cs.drop (D.flats (l.take i)).length).drop y.flat.length)):=by
   rw[lQ k1];exact c1.append (h4.2.append c4)
  obtain⟨cs',m1,m2,m3⟩:=rm hset hget hplace ps vs (l.set i x) _ (hset l i t x hg h1 h2) hc' h5;refine⟨cs',?_,m2,m3⟩;rw[sC (hplace i t h1) (by rw[<-zDb];exact l3) (by rw[<-l1];have:=congrArg List.length e;simp only[zta] at this;simp only[zDc];omega),<-m1]
  congr 1
  conv=>lhs;rw[e]
  have:=gr (cs.take (D.flats (l.take i)).length) ((cs.drop (D.flats (l.take i)).length).take y.flat.length) ((cs.drop (D.flats (l.take i)).length).drop y.flat.length) v.cells.toList (by rw[l2,l3])
  rw[l1] at this;simpa using this
end
section
variable{P:Program}{E:Env}{w0:Root}{S:Nat->Nat->Prop}{γ:Nat->Option Nat}{β:Nat->Option (Nat×Nat)}{s:St}{a:Act}{w:World}
theorem lX(h:Rp w0 S γ β s a w){ty:Nat->Option Ty}(hn:∀ i t,ty i=some t->aj t=true):∀ (ps:List (Nat×Operand)) (l:List (Nat×D)),partsD s.ob s ty ps=some l->PV w S ty l (ps.map λp=>(p.1,a.eval p.2))
 | [],l,hp=>by simp_all [partsD,zca,PV]
 | (i,x)::ps,l,hp=>by
  simp only[partsD] at hp;replace hp:=bind_some_inv hp;obtain⟨t,ht,hp⟩:=hp;replace hp:=bind_some_inv hp;obtain⟨y,hy,hp⟩:=hp;replace hp:=bind_some_inv hp;obtain⟨ys,hys,hp⟩:=hp;simp only[zca] at hp;subst hp;obtain⟨k1,k2⟩:=mM (hn i t ht) (aN h x) hy;simp only[z4a,PV];exact⟨trivial,⟨t,ht,k1,hn i t ht,k2⟩,lX h hn ps ys hys⟩
def iK{t:Ty}{T:TypeId}(hl:bC P t T=true):∃ z,(∀ w,(zeroValue T).run P w=.ok z w)/\cq (ar t).flat z.cells.toList=true/\((∃ cs,z=.agg cs)↔cw t=true):=by
 obtain⟨i,z,h1,h2,h3,h4,h5,h6⟩:=eO (fQ hl)
 simp_all [zeroValue,typeInfo]
theorem tD:∀ {ts:List Ty} {fs:List Field} {off:Nat} (w:World),fl P ts fs off=true ->
  ((fs.mapM λf=>do pure (f.offset,<-sizeOf f.type):Sem (List (Nat×Nat))).run P w=.ok (fs.zipWith (λf t=>(f.offset,Ty.size t)) ts) w)
 | [],[],_,w,_=>rfl
 | [],_::_,_,_,h=>by simp[fl] at h
 | _::_,[],_,_,h=>by simp[fl] at h
 | t::ts,f::fs,off,w,h=>by
  simp only[fl,zaa,decide_eq_true_eq] at h;obtain⟨⟨⟨⟨h1,h2⟩,h3⟩,h4⟩,h5⟩:=h;simp only[zdd,zga,bR h4,zea,zla,tD w h5,List.zipWith_cons_cons]
def Du:∀ {ts:List Ty} {fs:List Field} {off i:Nat} {t:Ty},fl P ts fs off=true->ts[i]?=some t->(fs.zipWith (λf t=>(f.offset,Ty.size t)) ts)[i]?=some (off+Ty.sizes (ts.take i),t.size)
 | ts,fs,off,i,t,h,hi=>by
  obtain⟨f,h1,h2,_⟩:=rn h hi;grind
def oD{T:TypeId}{ts:List Ty}(hl:bC P (.st ts) T=true)(vs:Array (Nat×Value))(w:World){r:List Value}
  (hf:∀ z:Value,cq (ar (.st ts)).flat z.cells.toList=true->kw (λi=>if i<ts.length then some (Ty.sizes (ts.take i),(ts.getD i .bool).size) else none) z.cells vs.toList=some r.toArray) :
  (Instr.build T vs).run P w=.ok (.agg r.toArray) w:=by
 obtain⟨fs,h1,h2⟩:=ij hl;obtain⟨z,hz,hz2,_⟩:=iK hl;have hlen:(fs.toList.zipWith (λf t=>(f.offset,Ty.size t)) ts).length=ts.length:=by
  have:∀ {ts:List Ty} {fs:List Field} {off:Nat},fl P ts fs off=true->fs.length=ts.length:=by
   intro ts
   induction ts with
   | nil=>intro fs off h;cases fs<;>simp[fl] at h ⊢
   | cons t ts ih=>intro fs off h;cases fs with
    | nil=>simp[fl] at h
    | cons f fs=>simp only[fl,zaa] at h;simp[ih h.2]
  grind
 have hp:(λi=>(fs.toList.zipWith (λf t=>(f.offset,Ty.size t)) ts).toArray[i]?)=λi=>if i<ts.length then some (Ty.sizes (ts.take i),(ts.getD i .bool).size) else none:=by
  funext i;by_cases hi:i<ts.length
  ·have:=Du (i:=i) h2 (zda hi)
   simp_all
  ·simp_all
 have hm:(fs.mapM λf=>(do pure (f.offset,<-sizeOf f.type):Sem (Nat×Nat))).run P w=.ok (fs.toList.zipWith (λf t=>(f.offset,Ty.size t)) ts).toArray w:=by
  rw[<-z8b (xs:=fs),List.mapM_toArray];simp only[Sem.run_map,tD w h2,zea]
 simp only[Instr.build,zga,hz,zea,run_underlying h1,hm,hp,nX,hf z hz2,zla]
def kz(n:Nat)(x:D):D.flats (List.replicate n x)=(List.replicate n x.flat).flatten:=by
 induction n with
 | zero=>rfl
 | succ n ih=>simp only[List.replicate_succ,D.flats,ih,List.flatten_cons]
def JW(c:Cx)(ts:List Ty):List (Nat×AV)->List (Nat×Value)->Prop
 | [],[]=>True
 | (i,x)::ps,(j,v)::vs=>i=j/\(∃ t,ts[i]?=some t/\AV.fits t x=true/\AC c x v.cells.toList)/\JW c ts ps vs
 | _,_=>False
theorem yo{c:Cx}{ts:List Ty}(hn:bg ts=true) :
  ∀ (ps:List (Nat×AV)) (vs:List (Nat×Value)) (l:List AV) (cs:List Value),AV.fitss ts l=true->jX c l cs->JW c ts ps vs ->
   ∃ cs':List Value,kw (λi=>if i<ts.length then some (Ty.sizes (ts.take i),(ts.getD i .bool).size) else none) cs.toArray vs=some cs'.toArray/\AV.fitss ts (lY l ps)=true/\jX c (lY l ps) cs'
 | [],[],l,cs,hf,hc,_=>⟨cs,rfl,hf,hc⟩
 | [],_::_,_,_,_,_,h=>by simp[JW] at h
 | _::_,[],_,_,_,_,h=>by simp[JW] at h
 | (i,x)::ps,(j,v)::vs,l,cs,hf,hc,h=>by
  simp only[JW] at h;obtain⟨rfl,⟨t,h1,h2,h3⟩,h5⟩:=h;obtain⟨y,k1,k2⟩:=sH hf h1;obtain⟨pre,mid,post,rfl,m1,m2,m3⟩:=re hf hn hc k1;have l2:=(gv _ _ _ k2 m2).1;have l3:=(gv _ _ _ h2 h3).1;obtain⟨cs',n1,n2,n3⟩:=yo hn ps vs (l.set i x) _ (lP hf h1 h2) (m3 x _ h3) h5;refine⟨cs',?_,n2,n3⟩;have hi:=(zja.1 h1).1;rw[sC (off:=Ty.sizes (ts.take i)) (size:=t.size) (by rw[if_pos hi];simp[List.getD,h1]) (by rw[<-zDb];exact l3) (by simp;omega),<-n1]
  congr 1;have:=gr pre mid post v.cells.toList (by rw[l2,l3])
  simp_all
def F7(hE:EnvOk P E)(h:Rp w0 S γ β s a w){dst T ps ty pos after guard}:iM P E w0 S γ β s a w ⟨dst,.build T ps,ty,pos,after,guard⟩:=by
 intro R K r hq;simp only[qv] at hq;replace hq:=bind_some_inv hq;obtain⟨t,ht,hq⟩:=hq;have hex:execOp a.eval ⟨dst,.build T ps,ty,pos,after,guard⟩=(Instr.build T (ps.map λp=>(p.1,a.eval p.2)) >>= λv=>pure (.value v)):=rfl;have hmap:(ps.map λp=>(p.1,a.eval p.2)).toList=ps.toList.map λp=>(p.1,a.eval p.2):=by simp
 cases t<;>(try simp only at hq)<;>first|cases hq|skip
 case st ts=>
  rcases hE.lay T _ ht with⟨ts',hts⟩|hl
  ·cases hts
  have hn:=aD _ _ hl;simp only[aj] at hn;split at hq
  ·rename_i hsl;split at hq<;>first|cases hq|skip
   rename_i hall;have hpv:∀ (l:List (Nat×Operand)),l.all (fk s ts)=true->JW ⟨w,S,γ,β,s.ob,s.dead⟩ ts (l.map λp=>(p.1,s.opA p.2)) (l.map λp=>(p.1,a.eval p.2)):=by
    intro l
    induction l with
    | nil=>intro _;simp[JW]
    | cons p l ih=>
     intro hh;simp only[zFb,zaa] at hh;simp only[z4a,JW];refine⟨trivial,?_,ih hh.2⟩;have h1:=hh.1;unfold fk at h1;split at h1<;>first|cases h1|skip
     rename_i u hu;exact⟨u,hu,h1,(xK h1 (bI hn hu) (aN h p.2)).1⟩
   obtain⟨z,hz,hz2,_⟩:=iK hl;have hz3:jX ⟨w,S,γ,β,s.ob,s.dead⟩ (jr ts) z.cells.toList:=ku ts _ hn (by simpa [ar,D.flat] using hz2)
   obtain⟨cs',m1,m2,m3⟩:=yo hn _ _ _ _ (jg ts hn) hz3 (hpv ps.toList hall);have hrun:(Instr.build T (ps.map λp=>(p.1,a.eval p.2))).run P w=.ok (.agg cs'.toArray) w:=by
    obtain⟨fs,h1,h2⟩:=ij hl;refine oD hl _ w (r:=cs') λz' hz'=>?_;have hz4:jX ⟨w,S,γ,β,s.ob,s.dead⟩ (jr ts) z'.cells.toList:=ku ts _ hn (by simpa [ar,D.flat] using hz')
    have:z'.cells=z.cells:=zcc (nC hz' hz2)
    simp_all
   exact⟨_,hq,.value (v:=.agg cs'.toArray) (w':=w) (by rw[hex];simp only[zga,hrun,zea,zla]) (Qp.same h (by
    simp only[AR];exact⟨⟨_,rfl⟩,by simp only[AC];exact⟨hn,m2,by simpa [Value.cells] using m3⟩⟩) _)⟩
  ·replace hq:=bind_some_inv hq;obtain⟨l,hp,hq⟩:=hq;have hpv:=lX h (ty:=λi=>ts[i]?) (λi t hi=>bI hn hi) _ _ hp;have main:∀ z:Value,cq (ar (.st ts)).flat z.cells.toList=true->∃ cs':List Value,kw (λi=>if i<ts.length then some (Ty.sizes (ts.take i),(ts.getD i .bool).size) else none) z.cells (ps.toList.map λp=>(p.1,a.eval p.2))=some cs'.toArray/\er ts (D.putParts (fC ts) l)/\cF w S (D.flats (D.putParts (fC ts) l)) cs':=by
    intro z hz;refine rm (ty:=λi=>ts[i]?) (off:=λi=>Ty.sizes (ts.take i)) (Good:=λl=>er ts l) (λl i t z hg hi hz=>xH hg hi hz) (λl i t hg hi=>?_) (λi t hi=>?_) l _ (fC ts) z.cells.toList (nD ts hn) (cg (by simpa [ar,D.flat] using hz)) hpv
    ·obtain⟨y,h1,h2⟩:=ge hg hi;exact⟨y,h1,h2,oQ _ _ (oR i hg) (gn i hn)⟩
    ·rw[if_pos (zja.1 hi).1];simp only[List.getD,hi,zxb]
   obtain⟨z,hz,hz2,_⟩:=iK hl;obtain⟨cs',m1,m2,m3⟩:=main z hz2;have hrun:(Instr.build T (ps.map λp=>(p.1,a.eval p.2))).run P w=.ok (.agg cs'.toArray) w:=by
    refine oD hl _ w (r:=cs') λz' hz'=>?_;have:z'.cells=z.cells:=zcc (nC hz' hz2);rw[this,hmap,<-m1]
   have hw:wt (.st ts) (.st (D.putParts (fC ts) l)):=by simp only[wt];exact⟨_,rfl,m2⟩
   exact⟨_,hq,.value (v:=.agg cs'.toArray) (w':=w) (by rw[hex];simp only[zga,hrun,zea,zla]) (Qp.same h (dc (by simpa [aj] using hn) hw ⟨⟨_,rfl⟩,by simpa [Value.cells,D.flat] using m3⟩) _)⟩
 case arr n e=>
  rcases hE.lay T _ ht with⟨ts',hts⟩|hl
  ·cases hts
  have hn:=aD _ _ hl;simp only[aj] at hn;replace hq:=bind_some_inv hq;obtain⟨l,hp,hq⟩:=hq;have hpv:=lX h (ty:=λi=>if i<n then some e else none) (λi t hi=>by split at hi<;>first|(cases hi;exact hn)|cases hi) _ _ hp
  have main:∀ z:Value,cq (ar (.arr n e)).flat z.cells.toList=true->∃ cs':List Value,kw (λi=>some (i*e.size,e.size)) z.cells (ps.toList.map λp=>(p.1,a.eval p.2))=some cs'.toArray/\((D.putParts (List.replicate n (ar e)) l).length=n/\∀ x∈D.putParts (List.replicate n (ar e)) l,wt e x)/\cF w S (D.flats (D.putParts (List.replicate n (ar e)) l)) cs':=by
   intro z hz;refine rm (ty:=λi=>if i<n then some e else none) (off:=λi=>i*e.size) (Good:=λl=>l.length=n/\∀ x∈l,wt e x) (λl i t z hg hi hz=>?_) (λl i t hg hi=>?_) (λi t hi=>?_) l _ (List.replicate n (ar e)) z.cells.toList ⟨by simp,λx hx=>by rw[(zad.1 hx).2];exact cD e hn⟩ (cg (by simpa [ar,D.flat] using hz)) hpv
   ·split at hi<;>first|cases hi|skip
    refine⟨by simpa using hg.1,λx hx=>?_⟩
    rcases zLc hx with h|h
    ·exact hg.2 x h
    ·rw[h];exact hz
   ·split at hi<;>first|cases hi|skip
    rename_i hin;have hil:i<l.length:=by rw[hg.1];exact hin
    refine⟨l[i],zda hil,hg.2 _ (zIa hil),?_⟩;rw[aB hn _ (λx hx=>hg.2 x (zGa hx)),zcb,zlb (by omega)]
   ·split at hi<;>first|cases hi|skip
    rfl
  obtain⟨z,hz,hz2,_⟩:=iK hl;obtain⟨cs',m1,m2,m3⟩:=main z hz2;have hrun:(Instr.build T (ps.map λp=>(p.1,a.eval p.2))).run P w=.ok (.agg cs'.toArray) w:=by
   obtain⟨u,h1,h2⟩:=dC hl;simp only[Instr.build,zga,hz,zea,run_underlying h1,bR h2,nX,hmap,m1,zla]
  have hw:wt (.arr n e) (.st (D.putParts (List.replicate n (ar e)) l)):=by simp only[wt];exact⟨_,rfl,m2⟩
  exact⟨_,hq,.value (v:=.agg cs'.toArray) (w':=w) (by rw[hex];simp only[zga,hrun,zea,zla]) (Qp.same h (dc (by simpa [aj] using hn) hw ⟨⟨_,rfl⟩,by simpa [Value.cells,D.flat] using m3⟩) _)⟩
def AP(h:Rp w0 S γ β s a w){dst x i ty pos after guard}:iM P E w0 S γ β s a w ⟨dst,.extract x i,ty,pos,after,guard⟩:=by
 intro R K r hq;simp only[qv] at hq;have hx:=aN h x;generalize s.opA x=y at *;split at hq<;>first|cases hq|skip
 rename_i ts z;replace hq:=bind_some_inv hq;obtain⟨u,hu,hq⟩:=hq;replace hq:=bind_some_inv hq;obtain⟨z',hz,hq⟩:=hq;simp only[AR] at hx;rcases hx with⟨h1,_⟩|⟨ts',e,hn,h2,h3⟩
 ·simp[aj] at h1
 ·cases e;simp only[wt] at h2;obtain⟨l,rfl,hw⟩:=h2;simp only[D.tupAt] at hz;simp only[DR] at h3;obtain⟨vs,hv,hlen,hvs⟩:=h3;have hi:i<vs.length:=by grind
  obtain⟨z2,k1,k2⟩:=ge hw hu;rw[hz] at k1;cases k1;have hv2:=hvs i z' vs[i] hz (zda hi);exact⟨_,hq,.value (v:=vs[i]) (w':=w) (by simp[execOp,Instr.extract,hv,hi]) (Qp.same h (dc (bI hn hu) k2 hv2) _)⟩
def zm(h:Rp w0 S γ β s a w){dst fn first captured ty pos after guard}:iM P E w0 S γ β s a w ⟨dst,.makeFunc fn first captured,ty,pos,after,guard⟩:=by
 intro R K r hq;simp only[qv] at hq;split at hq<;>first|cases hq|skip
 rename_i f;split at hq<;>first|cases hq|skip
 rename_i hf;have e:first=#[]:=Array.eq_empty_of_size_eq_zero hf.1
 refine⟨_,hq,.value (v:=.func (.func f) #[] (captured.map a.eval)) (w':=w) (by simp[execOp,Instr.makeFunc,e]) (Qp.same h ?_ _)⟩
 simp only[AR,AC];refine⟨by simp,(captured.toList.map a.eval),by rw[show captured.map a.eval=(captured.toList.map a.eval).toArray from zcc (by simp)];simp[Value.cells],?_⟩
 have h2:=hf.2;clear hf hq;generalize captured.toList=l at *
 induction l with
 | nil=>simp[mA]
 | cons x l ih=>
  simp only[zFb,zaa] at h2;simp only[z4a,mA];refine⟨_,_,rfl,?_,ih h2.2⟩;have h3:=h2.1;have h4:=aN h x;cases hx:s.opA x<;>rw[hx] at h3 h4<;>simp only[eZ] at h3<;>first|(cases h3;done)|skip
  simp only[AR] at h4;obtain⟨k1,k2⟩:=h4
  simp_all [Value.cells]
end
end Sy
end
noncomputable section
namespace Sy
open Go
theorem fG{α:Type}(l:List α):∀ (n i:Nat),i<n*l.length->((List.replicate n l).flatten)[i]?=l[i%l.length]?
 | 0,i,h=>by omega
 | n+1,i,h=>by
  rw[List.replicate_succ,List.flatten_cons,zJc];by_cases hi:i<l.length
  ·simp_all [zJa]
  ·rw[if_neg hi,fG l n (i-l.length) (by rw[zYa] at h;omega)]
   rw[<-Nat.mod_eq_sub_mod (by omega)]
def we{w:World}{S:Nat->Nat->Prop}{e:Ty}{zc:Array Value}{m:Nat}(hz:cq (ar e).flat zc.toList=true)(hs:zc.size=m)(n:Nat) :
  cF w S (D.flats (List.replicate n (ar e))) ((Array.range (n*m)).map λi=>zc[i%zc.size]!).toList:=by
 have h0:=cg (w:=w) (S:=S) hz;have hl:(ar e).flat.length=m:=by rw[h0.1];simpa using hs
 refine⟨by rw[kz];simp[hl],λi d c hd hc=>?_⟩
 rw[kz] at hd;have hi:i<n*m:=by have:=(zja.1 hc).1;simpa using this
 rw[fG _ _ _ (by rw[hl];exact hi),hl] at hd
 have hm:0<m:=by
  rcases ztb m with h|h
  ·subst h;omega
  ·exact h
 have him:i%m<zc.size:=by rw[hs];exact zPa _ hm
 refine h0.2 (i%m) d c hd ?_;simp only[Array.toList_map,z8a,Array.toList_range,z4c hi,zkb,zca] at hc;rw[<-hc,hs];simp[him]
section
variable{P:Program}{E:Env}{w0:Root}{S:Nat->Nat->Prop}{γ:Nat->Option Nat}{β:Nat->Option (Nat×Nat)}{s:St}{a:Act}{w:World}
def ma{c:Array Value}{t:TypeId}:bE (grown w [.cells c t] w.drawn) w.heap.size=some c:=by
 rw[<-db];exact tz w _ rfl
def zw{c:Array Value}{t:TypeId}{d:Nat}:bE (grown w [.cells c t] d) w.heap.size=some c:=by
 have:=ma (w:=w) (c:=c) (t:=t);rw[show bE (grown w [.cells c t] d) w.heap.size=bE (grown w [.cells c t] w.drawn) w.heap.size from rfl];exact this
def CU{c:Array Value}{t:TypeId}{d:Nat}(j:Nat):(grown w [.cells c t] d).cell? ⟨w.heap.size,j,none⟩=c[j]?:=cell_of_row _ zw j
def xa(h:Rp w0 S γ β s a w){v:Nat}(hv:β v=none)(hi:v<s.base+4096){e:Ty}(hn:aj e=true){l:List D}(hl:∀ x∈l,wt e x){cs:List Value}(hc:cF w S (D.flats l) cs){T:TypeId}{rest:List Value}{cap:Nat}(d:Nat)(hdr:w.drawn<=d)(hcap:l.length<=cap)(hrest:cs.length+rest.length=cap*e.size) :
  ∃ S' β',Rp w0 S' γ β' s a (grown w [.cells (cs++rest).toArray T] d)/\AR ⟨grown w [.cells (cs++rest).toArray T] d,S',γ,β',s.ob,s.dead⟩ (.own e v l) (.slice (some ⟨w.heap.size,0,none⟩) l.length cap) ∧
   (∀ b o,S b o->S' b o)/\(∀ u,u≠v->β' u=β u)/\β' v=some (w.heap.size,l.length*e.size)/\(∀ b o,S' b o->S b o\/b=w.heap.size):=by
 let S':Nat->Nat->Prop:=λb o=>S b o\/(b=w.heap.size/\o<l.length*e.size)
 have hSz:∀ b o,S' b o->S b o\/(w.heap.size<=b/\b<(grown w [.cells (cs++rest).toArray T] d).heap.size):=λb o hb=>by
  rcases hb with hb|⟨rfl,_⟩
  ·exact .inl hb
  ·exact .inr ⟨zha _,by simp⟩
 obtain⟨h1,le1⟩:=h.grow (os:=[.cells (cs++rest).toArray T]) (d:=d) hdr (S':=S') (λb o hb=>.inl hb) hSz;have hw0:¬ w0.Old w.heap.size:=λho=>by have:=ho.1;have:=h.ext.sz;omega
 obtain⟨h2,le2⟩:=h1.newTok (v:=v) (b:=w.heap.size) (e:=l.length*e.size) hv hw0 (by simp) (λid hid=>by have:=(h.γn id _ hid).2;omega) (λu f hu hf=>by have:=(h.βn u _ _ hu hf).2.1;omega) hi
  (λo ho hs=>hs.elim (λhs=>by have:=h.Sb _ _ hs;omega) λhs=>by omega)
 refine⟨S',nA β v (w.heap.size,l.length*e.size),h2,?_,λb o hb=>.inl hb,λu hu=>bJ β _ hu,bw β _ _,λb o hb=>hb.imp id λhh=>hh.1⟩;have hlen:cs.length=l.length*e.size:=by rw[<-hc.1];exact aB hn l hl
 simp only[AR,AC,Value.cells];refine⟨by simp,hn,hl,_,cap,rfl,?_,λ_=>.inr ⟨w.heap.size,0,rfl,by simp[bw],(cs++rest).length,?_,?_⟩⟩
 ·refine CR.of_elems (b:=w.heap.size) (off:=0) (.inr rfl) hcap ⟨cs,hc.mono le1.cell le1.S,λi c hci=>?_⟩;have hi:=(zja.1 hci).1;refine⟨.inr ⟨rfl,by omega⟩,?_⟩
  rw[CU];simp only[zAc,z6a];rw[zeb hi];exact hci
 ·simp[lu,zw]
 ·simp;omega
def uq(hE:EnvOk P E)(h:Rp w0 S γ β s a w){dst T n ps ty pos after guard}(hf:Fr E s γ β ⟨dst,.buildSlice T n ps,ty,pos,after,guard⟩):iM P E w0 S γ β s a w ⟨dst,.buildSlice T n ps,ty,pos,after,guard⟩:=by
 intro R K r hq;simp only[qv] at hq;replace hq:=bind_some_inv hq;obtain⟨t,ht,hq⟩:=hq;cases t<;>(try simp only at hq)<;>first|(cases hq;done)|skip
 rename_i e;rcases hE.lay T _ ht with⟨ts',hts⟩|hl
 ·cases hts
 have hn:=aD _ _ hl;simp only[aj] at hn;split at hq<;>first|(cases hq;done)|skip
 rename_i hn4;replace hq:=bind_some_inv hq;obtain⟨d,hd,hq⟩:=hq;replace hq:=bind_some_inv hq;obtain⟨l,hp,hq⟩:=hq;obtain⟨hd4,hγ,hβ,_⟩:=hf rfl d hd;have hpv:=lX h (ty:=λi=>if i<n then some e else none) (λi t hi=>by split at hi<;>first|(cases hi;exact hn)|cases hi) _ _ hp
 obtain⟨u,h1,h2⟩:=ii hl;obtain⟨z,hz,hz2,_⟩:=iK h2;obtain⟨i0,z0,hi1,hi2,mr,_⟩:=eO (fQ h2);have hzs:z.cells.size=e.size:=by
  have:=(cg (w:=w) (S:=S) hz2).1;rw[<-zDb,<-this];exact cb _ _ (cD e hn) hn
 have hzero:cF w S (D.flats (List.replicate n (ar e))) ((Array.range (n*e.size)).map λi=>z.cells[i%z.cells.size]!).toList:=we hz2 hzs n;obtain⟨cs',m1,m2,m3⟩:=rm (place:=λi=>some (i*e.size,e.size)) (ty:=λi=>if i<n then some e else none) (off:=λi=>i*e.size) (Good:=λl=>l.length=n/\∀ x∈l,wt e x) (λl i t z hg hi hz=>by
   split at hi<;>first|(cases hi;done)|skip
   have:e=t:=by injection hi
   subst this;refine⟨by simpa using hg.1,λx hx=>?_⟩
   rcases zLc hx with h|h
   ·exact hg.2 x h
   ·rw[h];exact hz) (λl i t hg hi=>by
   split at hi<;>first|(cases hi;done)|skip
   rename_i hin;have:e=t:=by injection hi
   subst this;have hil:i<l.length:=by rw[hg.1];exact hin
   refine⟨l[i],zda hil,hg.2 _ (zIa hil),?_⟩;rw[aB hn _ (λx hx=>hg.2 x (zGa hx)),zcb,zlb (by omega)]) (λi t hi=>by
   split at hi<;>first|(cases hi;done)|skip
   have:e=t:=by injection hi
   subst this;rfl) l _ (List.replicate n (ar e)) _ ⟨by simp,λx hx=>by rw[(zad.1 hx).2];exact cD e hn⟩ hzero hpv
 obtain⟨S',β',k1,k2,k3,k4,k5,_⟩:=xa h (v:=s.base+d) hβ (by omega) hn m2.2 m3 (T:=u) (rest:=[]) (cap:=n) w.drawn (zha _) (by rw[m2.1];exact zha _) (by rw[zmb,zTb,<-m3.1,aB hn _ m2.2,m2.1])
 have hsz:¬ n*e.size>2^24:=by
  have:n*e.size<=4096*4096:=z2a hn4 mr.2;omega
 have hmap:(ps.map λp=>(p.1,a.eval p.2)).toList=ps.toList.map λp=>(p.1,a.eval p.2):=by simp
 have hrun:(Instr.buildSlice T n (ps.map λp=>(p.1,a.eval p.2))).run P w=.ok (.slice (some ⟨w.heap.size,0,none⟩) n n) (grown w [.cells cs'.toArray u] w.drawn):=by
  have key:∀ zc:Array Value,((Array.range (n*e.size)).map λi=>zc[i%zc.size]!)=((Array.range (n*e.size)).map λi=>z.cells[i%z.cells.size]!) ->
    kw (λi=>some (i*e.size,e.size)) ((Array.range (n*e.size)).map λi=>zc[i%zc.size]!) (ps.map λp=>(p.1,a.eval p.2)).toList=some cs'.toArray:=λzc hzc=>by
   rw[hzc,hmap];rw[z8b] at m1;exact m1
  by_cases h0:n*e.size=0
  ·have k0:=key #[] (by simp[h0])
   simp only[Instr.buildSlice,zga,run_underlying h1,zea,bR h2,hsz,if_false,if_pos h0,pure_bind,nX,k0,newRow,run_newObj,zla];rw[<-db];rfl
  ·have k0:=key z.cells rfl;simp only[Instr.buildSlice,zga,run_underlying h1,zea,bR h2,hsz,if_false,if_neg h0,bind_pure_comp,Sem.run_map,hz,pure_bind,nX,k0,newRow,run_newObj,zla];rw[<-db];rfl
 have hex:execOp a.eval ⟨dst,.buildSlice T n ps,ty,pos,after,guard⟩=(Instr.buildSlice T n (ps.map λp=>(p.1,a.eval p.2)) >>= λv=>pure (.value v)):=rfl;rw[zLb,m2.1] at *;refine⟨_,hq,.value (by rw[hex];simp only[zga,hrun,zea,zla]) ⟨S',γ,β',k1,k2,k3,⟨_,_,rfl⟩,λ_ _ hh=>hh,λid hid=>⟨rfl,k4 id λhh=>?_⟩⟩⟩
 subst hh;rcases hid with hid|hid
 ·rw[hd] at hid;exact hid (by rw[zvb])
 ·omega
end
end Sy
end
end Go.Proofs.YtphlmegkommlnaaGreatDoor
