/- Part 2 of the proof that EnergyOfPaths answers true at every input -/
import Derived.Test.YtpahompifldeeaaGreatPaths01
import Derived.ProofKit
import Derived.Deep.Slices
import Derived.OpenShut
import Derived.OrdersIn
import Derived.TacticsIn
import Derived.RangeFuncIn
import Derived.RangeFuncCalls
import Derived.Scope
import Derived.StillTail
import Derived.ChangeKeysEq
set_option linter.unusedVariables false
set_option linter.unusedSimpArgs false
set_option linter.unnecessarySimpa false
set_option maxRecDepth 20000
namespace Go.Proofs.YtpahompifldeeaaGreat
noncomputable section
namespace Sy
open Go
section
variable{H:Type}{enc:TypeId×Value->H}{P:Program}{W:World}{base:Nat}{spare:Nat->Bool}{held:Bool}
def mK(W:World)(b o:Nat):Prop:=(W.cell? ⟨b,o,none⟩).isSome=true
theorem valid_lt{b o:Nat}(h:mK W b o):b<W.heap.size:=by
 unfold mK World.cell? at h
 rcases Nat.lt_or_ge b W.heap.size with k|k
 ·exact k
 ·simp only[Array.getElem?_eq_none k] at h;cases h
mutual
def Gb:D->Prop
 | .int k n=>(Lit.int k n).wf=true
 | .bool _=>True
 | .str s=>s.size<=maxLen
 | .st l=>tZ l
 | .sl l=>l.length<=maxLen/\tZ l
 | .tup l=>tZ l
def tZ:List D->Prop
 | []=>True
 | d::l=>Gb d/\tZ l
end
theorem qs:∀ {l:List D},tZ l↔∀ d∈l,Gb d
 | []=>by simp[tZ]
 | d::l=>by simp[tZ,qs (l:=l)]
mutual
def mv:Ty->Bool
 | .st ts=>t8 ts
 | .arr _ t=>mv t
 | .sl t=>decide (0<t.size)&&mv t
 | .tup _=>false
 | .fn=>false
 | _=>true
def t8:List Ty->Bool
 | []=>true
 | t::ts=>mv t&&t8 ts
end
theorem iz{T:TypeId}{ty:Ty}(h:bh P ty T=true):P.cellsOf T=ty.size:=by
 obtain⟨i,z,h1,h2,_⟩:=ed (fq h)
 simp[Program.cellsOf,h1,h2]
theorem cw.one'{S:Nat->Nat->Prop}{d:D}{c:Value}(h:CR W S d c):cw W S [d] [c]:=⟨rfl,fun i d' c' hd hc=>by
 cases i with
 | zero=>simp at hd hc;subst hd;subst hc;exact h
 | succ i=>simp at hd⟩
mutual
theorem pe:∀ (ty:Ty) (T:TypeId) (fuel:Nat) (cs:List Value) (x:DataW H×List MemPlace),bh P ty T=true->mv ty=true->DataW.trod enc P W base spare held fuel T cs=some x->∃ d,wt ty d/\Gb d/\cw W (mK W) d.flat cs
 | .int k,T,fuel,cs,x,hl,_,h=>by
  obtain⟨n,rfl,_,hw⟩:=DataW.trod_int (gY hl) h
  exact⟨.int k n,⟨n,rfl⟩,hw,cw.one' (.int k n)⟩
 | .bool,T,fuel,cs,x,hl,_,h=>by
  have hu:P.underlying T=some .bool:=by
   simp only[bh,Bool.and_eq_true] at hl
   have h2:=hl.2
   split at h2
   ·assumption
   ·cases h2
  obtain⟨b,rfl,_⟩:=DataW.trod_bool hu h
  exact⟨.bool b,⟨b,rfl⟩,trivial,cw.one' (.bool b)⟩
 | .str,T,fuel,cs,x,hl,_,h=>by
  have hu:P.underlying T=some .string:=by
   simp only[bh,Bool.and_eq_true] at hl
   have h2:=hl.2
   split at h2
   ·assumption
   ·cases h2
  obtain⟨s,rfl,_,hw⟩:=DataW.trod_string hu h
  exact⟨.str s,⟨s,rfl⟩,hw,cw.one' (.str s)⟩
 | .st ts,T,fuel,cs,x,hl,hp,h=>by
  obtain⟨fs,hu,hf⟩:=gu hl
  obtain⟨xs,n,_,_,hlen,hxl,hx⟩:=DataW.trod_struct hu h
  rw[iz hl] at hlen
  obtain⟨l,h1,hok,h2⟩:=wK ts fs.toList 0 cs n hf (by simpa only[mv] using hp) (fun i f hi=>by
   have hi':fs[i]?=some f:=by simpa using hi
   have hlt:i<xs.length:=by rw[hxl];exact(Array.getElem?_eq_some_iff.1 hi').1
   exact⟨xs[i],(hx i f hi').trans (List.getElem?_eq_getElem hlt)⟩) (by rw[hlen];simp[Ty.size])
  refine⟨.st l,⟨l,rfl,h1⟩,hok,?_⟩
  have:(cs.drop 0).take (Ty.sizes ts)=cs:=by
   rw[List.drop_zero,List.take_of_length_le (by rw[hlen];simp[Ty.size])]
  rw[this] at h2
  exact h2
 | .arr n e,T,fuel,cs,x,hl,hp,h=>by
  obtain⟨u,hu,hl'⟩:=dj hl
  obtain⟨xs,m,_,_,hlen,hxl,hx⟩:=DataW.trod_array hu h
  rw[iz hl] at hlen
  rw[iz hl'] at hx
  simp only[mv] at hp
  have key:∀ k,k<=n->∃ l:List D,l.length=k/\(∀ y∈l,wt e y/\Gb y)/\cw W (mK W) (D.flats l) (cs.take (k*e.size)):=by
   intro k
   induction k with
   | zero=>intro _;exact⟨[],rfl,by simp,by simp[D.flats,cw.nil]⟩
   | succ k ih=>
    intro hk
    obtain⟨l,h1,h2,h3⟩:=ih (by omega)
    have hxk:=hx k (by omega)
    rw[List.getElem?_eq_getElem (show k<xs.length by omega)] at hxk
    obtain⟨d,h4,h4',h5⟩:=pe e u m _ _ hl' hp hxk
    refine⟨l++[d],by simp[h1],fun y hy=>?_,?_⟩
    ·rcases List.mem_append.1 hy with hy|hy
     ·exact h2 y hy
     ·rw[List.mem_singleton.1 hy];exact⟨h4,h4'⟩
    ·have e1:cs.take ((k+1)*e.size)=cs.take (k*e.size)++(cs.drop (k*e.size)).take e.size:=by
      rw[Nat.add_mul,Nat.one_mul,List.take_add]
     rw[e1,bF]
     refine h3.append ?_
     simpa [D.flats] using h5
  obtain⟨l,h1,h2,h3⟩:=key n (Nat.le_refl n)
  refine⟨.st l,⟨l,rfl,h1,fun y hy=>(h2 y hy).1⟩,qs.2 fun y hy=>(h2 y hy).2,?_⟩
  rw[List.take_of_length_le (by rw[hlen];simp[Ty.size])] at h3
  exact h3
 | .sl e,T,fuel,cs,x,hl,hp,h=>by
  obtain⟨u,hu,hl'⟩:=gt hl
  simp only[mv,Bool.and_eq_true,decide_eq_true_eq] at hp
  rcases DataW.trod_slice hu h with⟨rfl,_⟩|⟨a,len,cap,elems,rest,m,_,rfl,_,hb,hlc,hcm,hel,hx,_,_⟩
  ·exact⟨.sl [],⟨[],rfl,by simp⟩,⟨Nat.zero_le _,trivial⟩,cw.one' (CR.of_elems (l:=[]) (b:=0) (off:=0) (.inl rfl) (Nat.le_refl _) ⟨[],cw.nil,by simp⟩)⟩
  ·rw[iz hl'] at hx
   by_cases h0:len=0
   ·subst h0
    exact⟨.sl [],⟨[],rfl,by simp⟩,⟨Nat.zero_le _,trivial⟩,cw.one' (CR.of_elems (l:=[]) (b:=0) (off:=0) (.inl rfl) (Nat.zero_le _) ⟨[],cw.nil,by simp⟩)⟩
   ·have hsp:∃ b off,a=⟨b,off,none⟩:=by
     have:=hx 0 (by omega)
     rw[List.getElem?_eq_getElem (show 0<elems.length by omega)] at this
     obtain⟨cs',h1,_⟩:=Option.bind_eq_some_iff.1 this
     obtain⟨_,h2,h3⟩:=World.cells?_some h1
     have h4:=h3 0 hp.1
     rw[List.getElem?_eq_getElem (show 0<cs'.length by omega)] at h4
     have e0:(a.add (0*e.size)).add 0=a:=by simp[Addr.add]
     rw[e0] at h4
     obtain⟨b,off,sp⟩:=a
     cases sp with
     | none=>exact⟨b,off,rfl⟩
     | some s=>
      exfalso
      unfold World.cell? at h4
      split at h4
      ·simp at h4
      ·cases h4
    obtain⟨b,off,rfl⟩:=hsp
    have key:∀ k,k<=len->∃ (l:List D) (cs:List Value),l.length=k/\(∀ y∈l,wt e y/\Gb y)/\cw W (mK W) (D.flats l) cs/\∀ j c,cs[j]?=some c->W.cell? ⟨b,off+j,none⟩=some c:=by
     intro k
     induction k with
     | zero=>intro _;exact⟨[],[],rfl,by simp,cw.nil,by simp⟩
     | succ k ih=>
      intro hk
      obtain⟨l,cs,h1,h2,h3,h4⟩:=ih (by omega)
      have hxk:=hx k (by omega)
      rw[List.getElem?_eq_getElem (show k<elems.length by omega)] at hxk
      obtain⟨cs',q1,q2⟩:=Option.bind_eq_some_iff.1 hxk
      obtain⟨_,q3,q4⟩:=World.cells?_some q1
      obtain⟨d,h5,h5',h6⟩:=pe e u m _ _ hl' hp.2 q2
      have hn:am e=true:=aB e u hl'
      have hcl:cs.length=k*e.size:=by rw[<-h3.1,aA hn l (fun y hy=>(h2 y hy).1),h1]
      refine⟨l++[d],cs++cs',by simp[h1],fun y hy=>?_,?_,fun j c hc=>?_⟩
      ·rcases List.mem_append.1 hy with hy|hy
       ·exact h2 y hy
       ·rw[List.mem_singleton.1 hy];exact⟨h5,h5'⟩
      ·rw[bF]
       refine h3.append ?_
       simpa [D.flats] using h6
      ·rcases Nat.lt_or_ge j cs.length with hj|hj
       ·rw[List.getElem?_append_left hj] at hc;exact h4 j c hc
       ·rw[List.getElem?_append_right hj] at hc
        have hlt:j-cs.length<e.size:=by
         have:=(List.getElem?_eq_some_iff.1 hc).1
         omega
        have:=q4 (j-cs.length) hlt
        rw[hc] at this
        rw[cD,cD] at this
        rw[show off+k*e.size+(j-cs.length)=off+j by omega] at this
        exact this
    obtain⟨l,cs,h1,h2,h3,h4⟩:=key len (Nat.le_refl _)
    refine⟨.sl l,⟨l,rfl,fun y hy=>(h2 y hy).1⟩,⟨by omega,qs.2 fun y hy=>(h2 y hy).2⟩,cw.one' ?_⟩
    rw[<-h1]
    exact CR.of_elems (b:=b) (off:=off) (.inr rfl) (by omega) ⟨cs,h3,fun i c hc=>⟨by unfold mK;rw[h4 i c hc];rfl,h4 i c hc⟩⟩
 | .tup _,_,_,_,_,hl,_,_=>by simp[bh] at hl
 | .fn,_,_,_,_,hl,_,_=>by simp[bh] at hl
theorem wK:∀ (ts:List Ty) (fs:List Field) (off:Nat) (cs:List Value) (n:Nat),eN P ts fs off=true->t8 ts=true ->
  (∀ (i:Nat) (f:Field),fs[i]?=some f->∃ x:DataW H×List MemPlace,DataW.trod enc P W base spare held n f.type ((cs.drop f.offset).take (P.cellsOf f.type))=some x)->off+Ty.sizes ts<=cs.length ->
  ∃ l,dU ts l/\tZ l/\cw W (mK W) (D.flats l) ((cs.drop off).take (Ty.sizes ts))
 | [],_,off,cs,n,_,_,_,_=>⟨[],rfl,trivial,by simp[D.flats,Ty.sizes,cw.nil]⟩
 | t::ts,[],off,cs,n,h,_,_,_=>by simp[eN] at h
 | t::ts,f::fs,off,cs,n,h,hp,hx,hle=>by
  simp only[eN,Bool.and_eq_true,decide_eq_true_eq] at h
  obtain⟨⟨⟨⟨h1,_⟩,h2⟩,h3⟩,h4⟩:=h
  simp only[t8,Bool.and_eq_true] at hp
  simp only[Ty.sizes] at hle ⊢
  obtain⟨x,hx0⟩:=hx 0 f rfl
  rw[iz h3,h1] at hx0
  obtain⟨d,q1,q1',q2⟩:=pe t f.type n _ _ h3 hp.1 hx0
  obtain⟨l,q3,q3',q4⟩:=wK ts fs (off+t.size) cs n h4 hp.2 (fun i g hi=>hx (i+1) g (by simpa using hi)) (by omega)
  refine⟨d::l,⟨d,l,rfl,q1,q3⟩,⟨q1',q3'⟩,?_⟩
  rw[List.take_add,List.drop_drop]
  simp only[D.flats]
  exact q2.append q4
end
end
end Sy
end
noncomputable section
namespace Sy
open Go
theorem bind_some_inv.{u,v}{α:Type u}{β:Type v}{x:Option α}{f:α->Option β}{r:β}(h:x.bind f=some r):∃ a,x=some a/\f a=some r:=by
 cases x with
 | none=>cases h
 | some a=>exact⟨a,rfl,h⟩
theorem nk{t t':Ty}{x:D}(h:AV.fits t (.d t' x)=true):t=t':=by
 have hf':t.beq t'=true:=by cases t<;>simpa only[AV.fits] using h
 exact Ty.eq_of_beq _ _ hf'
theorem Ty.beq_refl':∀ (t:Ty),t.beq t=true:=by
 intro t
 exact(Ty.rec (motive_1:=fun t=>t.beq t=true) (motive_2:=fun l=>Ty.beqs l l=true)
  (fun k=>by simp[Ty.beq]) rfl rfl (fun l h=>by simpa [Ty.beq] using h) (fun n t h=>by simp[Ty.beq,h]) (fun t h=>by simpa [Ty.beq] using h) (fun l h=>by simpa [Ty.beq] using h) rfl rfl
  (fun t l h1 h2=>by simp[Ty.beqs,h1,h2]) t)
theorem bo(t:Ty)(x:D):AV.fits t (.d t x)=true:=by
 have:=Ty.beq_refl' t
 cases t<;>simpa only[AV.fits] using this
theorem nl:∀ {ts:List Ty} {l:List AV} {i:Nat} {a:AV},AV.fitss ts l=true->l[i]?=some a->∃ t,ts[i]?=some t/\AV.fits t a=true
 | _,[],_,_,_,h=>by simp at h
 | [],b::l,_,_,h,_=>by simp[AV.fitss] at h
 | u::ts,b::l,i,a,h,hi=>by
  simp only[AV.fitss,Bool.and_eq_true] at h
  cases i with
  | zero=>simp at hi;subst hi;exact⟨u,rfl,h.1⟩
  | succ i=>simp at hi;obtain⟨t,h1,h2⟩:=nl h.2 hi;exact⟨t,by simpa using h1,h2⟩
theorem pU:∀ {ts:List Ty} {l:List AV} {i:Nat} {t:Ty},AV.fitss ts l=true->ts[i]?=some t->∃ a,l[i]?=some a/\AV.fits t a=true
 | [],_,_,_,_,h=>by simp at h
 | u::ts,[],_,_,h,_=>by simp[AV.fitss] at h
 | u::ts,b::l,i,a,h,hi=>by
  simp only[AV.fitss,Bool.and_eq_true] at h
  cases i with
  | zero=>simp at hi;subst hi;exact⟨b,rfl,h.1⟩
  | succ i=>simp at hi;obtain⟨t,h1,h2⟩:=pU h.2 hi;exact⟨t,by simpa using h1,h2⟩
theorem ki:∀ {ts:List Ty} {l:List AV} {i:Nat} {t:Ty} {b:AV},AV.fitss ts l=true->ts[i]?=some t->AV.fits t b=true->AV.fitss ts (l.set i b)=true
 | [],_,_,_,_,_,h,_=>by simp at h
 | u::ts,[],_,_,_,h,_,_=>by simp[AV.fitss] at h
 | u::ts,a::l,i,t,b,h,hi,hb=>by
  simp only[AV.fitss,Bool.and_eq_true] at h
  cases i with
  | zero=>simp at hi;subst hi;simp[AV.fitss,hb,h.2]
  | succ i=>simp at hi;simp only[List.set_cons_succ,AV.fitss,Bool.and_eq_true];exact⟨h.1,ki h.2 hi hb⟩
theorem oR{c:Cx}:∀ {ts:List Ty} {l:List AV} {cs:List Value} {i:Nat} {a:AV},AV.fitss ts l=true->aY ts=true->iP c l cs->l[i]?=some a ->
  ∃ pre mid post,cs=pre++(mid++post)/\pre.length=Ty.sizes (ts.take i)/\AC c a mid/\∀ b bs,AC c b bs->iP c (l.set i b) (pre++(bs++post))
 | _,[],_,_,_,_,_,_,h=>by simp at h
 | [],b::l,_,_,_,h,_,_,_=>by simp[AV.fitss] at h
 | u::ts,b::l,cs,i,a,hf,hn,h,hi=>by
  simp only[AV.fitss,Bool.and_eq_true] at hf
  simp only[aY,Bool.and_eq_true] at hn
  simp only[iP] at h
  obtain⟨c1,c2,rfl,h1,h2⟩:=h
  cases i with
  | zero=>
   simp at hi;subst hi
   exact⟨[],c1,c2,by simp,by simp[Ty.sizes],h1,fun b bs hb=>by simp only[List.set_cons_zero,iP,List.nil_append];exact⟨bs,c2,rfl,hb,h2⟩⟩
  | succ i=>
   simp at hi
   obtain⟨pre,mid,post,rfl,k1,k2,k3⟩:=oR hf.2 hn.2 h2 hi
   refine⟨c1++pre,mid,post,by simp[List.append_assoc],?_,k2,fun b bs hb=>?_⟩
   ·simp only[List.length_append,List.take_succ_cons,Ty.sizes,k1,(fS b u c1 hf.1 h1).1]
   ·simp only[List.set_cons_succ,iP,List.append_assoc]
    exact⟨c1,pre++(bs++post),rfl,h1,k3 b bs hb⟩
theorem jV{ts:List Ty}{i:Nat}{p:List Nat}{u:Ty}(h:aK (.st ts) (i::p)=some u):∃ v,ts[i]?=some v/\aK v p=some u:=by
 simp only[aK] at h
 exact bind_some_inv h
theorem yE{R:Type}{c:Cx}:∀ (p:List Nat) {T t:Ty} {a:AV} {cs:List Value} {K:AV->Option R} {r:R},AV.fits T a=true->am T=true->aK T p=some t->AC c a cs->tI a p K=some r ->
  ∃ a' pre mid post,K a'=some r/\cs=pre++(mid++post)/\pre.length=aQ T p/\AC c a' mid/\AV.fits t a'=true:=by
 intro p
 induction p with
 | nil=>
  intro T t a cs K r hf hn hp hc hg
  have hT:T=t:=by cases T<;>simpa [aK] using hp
  subst hT
  refine⟨a,[],cs,[],?_,by simp,by cases T<;>rfl,hc,hf⟩
  cases a<;>simpa [tI] using hg
 | cons i p ih=>
  intro T t a cs K r hf hn hp hc hg
  cases a<;>simp only[tI] at hg
  case d t' x=>
   have:=nk hf;subst this
   obtain⟨t2,h1,h2⟩:=bind_some_inv hg
   obtain⟨y,h3,h4⟩:=bind_some_inv h2
   rw[hp] at h1;cases h1
   simp only[AC] at hc
   obtain⟨k1,A,B,k2,k3⟩:=gq (i::p) hc.1 hn hp h3
   have h5:=hc.2.2
   rw[k2] at h5
   obtain⟨h6,h7⟩:=h5.split
   obtain⟨h8,h9⟩:=h7.split
   refine⟨_,cs.take A.length,(cs.drop A.length).take y.flat.length,(cs.drop A.length).drop y.flat.length,h4,by simp only[List.take_append_drop],?_,?_,bo _ _⟩
   ·rw[<-h6.1];exact k3
   ·simp only[AC];exact⟨k1,c7 _ hn hp,h8⟩
  case st ts' l=>
   cases T<;>simp only[AV.fits] at hf<;>first|cases hf|skip
   rename_i ts
   simp only[Bool.and_eq_true] at hf
   obtain⟨a1,h1,h2⟩:=bind_some_inv hg
   obtain⟨v,h3,h4⟩:=jV hp
   simp only[AC] at hc
   simp only[am] at hn
   obtain⟨v',h5,h6⟩:=nl hf.2 h1
   rw[h3] at h5;cases h5
   obtain⟨pre,mid,post,rfl,k1,k2,_⟩:=oR hf.2 hn hc.2.2 h1
   obtain⟨a',pre',mid',post',m1,rfl,m2,m3,m4⟩:=ih h6 (bH hn h3) h4 k2 h2
   refine⟨a',pre++pre',mid',post'++post,m1,by simp[List.append_assoc],?_,m3,m4⟩
   simp only[List.length_append,aQ,k1,m2]
   simp[List.getD,h3]
  all_goals cases hg
theorem Fv{R:Type}{c:Cx}:∀ (p:List Nat) {T t:Ty} {a b:AV} {cs bs:List Value} {K:AV->Option R} {r:R},AV.fits T a=true->am T=true->aK T p=some t->AC c a cs->AC c b bs->AV.fits t b=true->xM a p b K=some r ->
  ∃ a' pre mid post,K a'=some r/\cs=pre++(mid++post)/\pre.length=aQ T p/\mid.length=bs.length/\AC c a' (pre++(bs++post))/\AV.fits T a'=true:=by
 intro p
 induction p with
 | nil=>
  intro T t a b cs bs K r hf hn hp hc hb hfb hg
  have hT:T=t:=by cases T<;>simpa [aK] using hp
  subst hT
  refine⟨b,[],cs,[],?_,by simp,by cases T<;>rfl,?_,by simpa using hb,hfb⟩
  ·cases a<;>simpa [xM] using hg
  ·rw[(fS _ _ _ hf hc).1,(fS _ _ _ hfb hb).1]
 | cons i p ih=>
  intro T t a b cs bs K r hf hn hp hc hb hfb hg
  cases a<;>simp only[xM] at hg
  case d t' x=>
   have:=nk hf;subst this
   cases b<;>simp only at hg<;>first|cases hg|skip
   rename_i u y
   have:=nk hfb;subst this
   obtain⟨x',h3,h4⟩:=bind_some_inv hg
   simp only[AC] at hc hb
   obtain⟨k1,A,C,B,k2,k3,k4,k5⟩:=mC (i::p) hc.1 hn hp h3 hb.1
   have h5:=hc.2.2
   rw[k2] at h5
   obtain⟨h6,h7⟩:=h5.split
   obtain⟨h8,h9⟩:=h7.split
   refine⟨_,cs.take A.length,(cs.drop A.length).take C.length,(cs.drop A.length).drop C.length,h4,by simp only[List.take_append_drop],?_,?_,?_,bo _ _⟩
   ·rw[<-h6.1];exact k4
   ·rw[<-h8.1,k5,<-hb.2.2.1,bT _ _ hb.1 hb.2.1]
   ·simp only[AC]
    refine⟨k1,hn,?_⟩
    rw[k3]
    exact h6.append (hb.2.2.append h9)
  case st ts' l=>
   cases T<;>simp only[AV.fits] at hf<;>first|cases hf|skip
   rename_i ts
   simp only[Bool.and_eq_true] at hf
   obtain⟨a1,h1,h2⟩:=bind_some_inv hg
   obtain⟨v,h3,h4⟩:=jV hp
   simp only[AC] at hc
   simp only[am] at hn
   obtain⟨v',h5,h6⟩:=nl hf.2 h1
   rw[h3] at h5;cases h5
   obtain⟨pre,mid,post,rfl,k1,k2,k3⟩:=oR hf.2 hn hc.2.2 h1
   obtain⟨a',pre',mid',post',m1,rfl,m2,m2',m3,m4⟩:=ih h6 (bH hn h3) h4 k2 hb hfb h2
   have dZ:=Ty.eqs_of_beqs _ _ hf.1
   subst dZ
   refine⟨_,pre++pre',mid',post'++post,m1,by simp[List.append_assoc],?_,m2',?_,?_⟩
   ·simp only[List.length_append,aQ,k1,m2]
    simp[List.getD,h3]
   ·simp only[AC]
    refine⟨hn,ki hf.2 h3 m4,?_⟩
    have:=k3 _ _ m3
    simpa [List.append_assoc] using this
   ·simp only[AV.fits,Bool.and_eq_true]
    exact⟨hf.1,ki hf.2 h3 m4⟩
  all_goals cases hg
mutual
theorem nT{c:Cx}{ob:Nat->Option Ob}:∀ (a:AV) (t:Ty) (cs:List Value) (x:D),AV.toD ob t a=some x->AC c a cs->wt t x/\cw c.w c.S x.flat cs/\(∀ v,fg t cs v->am t=true->eZ c.w c.S x v)
 | .d t' x',t,cs,x,h,hc=>by
  have h':t.beq t'=true/\x'=x:=by cases t<;>simpa [AV.toD] using h
  obtain⟨h1,rfl⟩:=h'
  have:=Ty.eq_of_beq _ _ h1;subst this
  simp only[AC] at hc
  exact⟨hc.1,hc.2.2,fun v hv hn=>⟨pj hc.1 hc.2.1 hv.2,by rw[hv.1];exact hc.2.2⟩⟩
 | .own t' v l,t,cs,x,h,hc=>by
  have h':t.beq (.sl t')=true/\D.sl l=x:=by cases t<;>simpa [AV.toD] using h
  obtain⟨h1,rfl⟩:=h'
  have:=Ty.eq_of_beq _ _ h1;subst this
  simp only[AC] at hc
  obtain⟨k1,k2,a,cap,rfl,k3,_⟩:=hc
  have hw:wt (.sl t') (.sl l):=by simp only[wt];exact⟨l,rfl,k2⟩
  exact⟨hw,cw.single.2 k3,fun v hv hn=>⟨pj hw hn hv.2,by rw[hv.1];exact cw.single.2 k3⟩⟩
 | .nils,t,cs,x,h,hc=>by
  cases t<;>simp only[AV.toD] at h<;>first|cases h|skip
  simp only[AC] at hc
  subst hc
  have hw:∀ t,wt (.sl t) (.sl []):=fun t=>by simp only[wt];exact⟨[],rfl,fun x hx=>by simp at hx⟩
  have hr:cw c.w c.S [D.sl []] [.slice none 0 0]:=cw.single.2 (.sl [] none 0 0 0 (fun _=>undef) (.inl rfl) (Nat.le_refl 0) (fun i d hd=>by simp[D.flats] at hd) (fun i d hd=>by simp[D.flats] at hd))
  exact⟨hw _,hr,fun v hv hn=>⟨pj (hw _) hn hv.2,by rw[hv.1];exact hr⟩⟩
 | .st ts' l,t,cs,x,h,hc=>by
  simp only[AV.toD] at h
  split at h
  ·rename_i hb
   have:=Ty.eq_of_beq _ _ hb;subst this
   obtain⟨xs,h1,h2⟩:=bind_some_inv h
   simp only[Option.some.injEq] at h2
   subst h2
   simp only[AC] at hc
   obtain⟨k1,k2⟩:=ze l ts' cs xs h1 hc.2.2
   have hw:wt (.st ts') (.st xs):=by simp only[wt];exact⟨xs,rfl,k1⟩
   exact⟨hw,k2,fun v hv hn=>⟨pj hw hn hv.2,by rw[hv.1];exact k2⟩⟩
  ·cases h
 | .ptr ..,t,_,_,h,_=>by cases t<;>simp[AV.toD] at h
 | .fptr ..,t,_,_,h,_=>by cases t<;>simp[AV.toD] at h
 | .mem ..,t,_,_,h,_=>by cases t<;>simp[AV.toD] at h
 | .clo ..,t,_,_,h,_=>by cases t<;>simp[AV.toD] at h
 | .sub ..,t,_,_,h,_=>by cases t<;>simp[AV.toD] at h
 | .gone,t,_,_,h,_=>by cases t<;>simp[AV.toD] at h
 | .undef,t,_,_,h,_=>by cases t<;>simp[AV.toD] at h
theorem ze{c:Cx}{ob:Nat->Option Ob}:∀ (l:List AV) (ts:List Ty) (cs:List Value) (xs:List D),AV.toDl ob ts l=some xs->iP c l cs->dU ts xs/\cw c.w c.S (D.flats xs) cs
 | [],ts,cs,xs,h,hc=>by
  cases ts<;>simp only[AV.toDl] at h<;>first|cases h|skip
  simp only[iP] at hc
  subst hc
  exact⟨by simp[dU],cw.nil⟩
 | a::l,ts,cs,xs,h,hc=>by
  cases ts<;>simp only[AV.toDl] at h<;>first|cases h|skip
  rename_i t ts
  obtain⟨x,h1,h2⟩:=bind_some_inv h
  obtain⟨ys,h3,h4⟩:=bind_some_inv h2
  simp only[Option.some.injEq] at h4
  subst h4
  simp only[iP] at hc
  obtain⟨c1,c2,rfl,k1,k2⟩:=hc
  obtain⟨m1,m2,_⟩:=nT a t c1 x h1 k1
  obtain⟨m3,m4⟩:=ze l ts c2 ys h3 k2
  exact⟨by simp only[dU];exact⟨x,ys,rfl,m1,m3⟩,by simp only[D.flats];exact m2.append m4⟩
end
mutual
theorem qO{ob:Nat->Option Ob}:∀ (a:AV) (t:Ty) (x:D),AV.toD ob t a=some x->AV.fits t a=true
 | .d t' x',t,x,h=>by
  have h':t.beq t'=true/\x'=x:=by cases t<;>simpa [AV.toD] using h
  have h1:=h'.1
  cases t<;>simpa only[AV.fits] using h1
 | .own t' v l,t,x,h=>by
  have h':t.beq (.sl t')=true/\D.sl l=x:=by cases t<;>simpa [AV.toD] using h
  have:=Ty.eq_of_beq _ _ h'.1;subst this
  simp[AV.fits,Ty.beq_refl']
 | .nils,t,x,h=>by
  cases t<;>first|rfl|(simp only[AV.toD] at h;cases h)
 | .st ts' l,t,x,h=>by
  simp only[AV.toD] at h
  split at h
  ·rename_i hb
   have:=Ty.eq_of_beq _ _ hb;subst this
   obtain⟨xs,h1,h2⟩:=bind_some_inv h
   simp only[AV.fits,Bool.and_eq_true]
   exact⟨by have:=Ty.beq_refl' (.st ts');simpa [Ty.beq] using this,sZ l ts' xs h1⟩
  ·cases h
 | .ptr ..,t,_,h=>by cases t<;>simp[AV.toD] at h
 | .fptr ..,t,_,h=>by cases t<;>simp[AV.toD] at h
 | .mem ..,t,_,h=>by cases t<;>simp[AV.toD] at h
 | .clo ..,t,_,h=>by cases t<;>simp[AV.toD] at h
 | .sub ..,t,_,h=>by cases t<;>simp[AV.toD] at h
 | .gone,t,_,h=>by cases t<;>simp[AV.toD] at h
 | .undef,t,_,h=>by cases t<;>simp[AV.toD] at h
theorem sZ{ob:Nat->Option Ob}:∀ (l:List AV) (ts:List Ty) (xs:List D),AV.toDl ob ts l=some xs->AV.fitss ts l=true
 | [],ts,xs,h=>by cases ts<;>first|rfl|(simp only[AV.toDl] at h;cases h)
 | a::l,ts,xs,h=>by
  cases ts<;>simp only[AV.toDl] at h<;>first|cases h|skip
  rename_i t ts
  obtain⟨x,h1,h2⟩:=bind_some_inv h
  obtain⟨ys,h3,h4⟩:=bind_some_inv h2
  simp only[AV.fitss,Bool.and_eq_true]
  exact⟨qO a t x h1,sZ l ts ys h3⟩
end
theorem kQ{c:Cx}{ob:Nat->Option Ob}{t:Ty}{a:AV}{v:Value}{x:D}(hn:am t=true)(h:AR c a v)(hx:AV.toD ob t a=some x):wt t x/\eZ c.w c.S x v:=by
 obtain⟨h1,h2⟩:=uH (qO a t x hx) hn h
 obtain⟨h3,_,h5⟩:=nT a t _ x hx h1
 exact⟨h3,h5 v h2 hn⟩
theorem df{c:Cx}{t:Ty}{x:D}{v:Value}(hn:am t=true)(hw:wt t x)(h:eZ c.w c.S x v):AR c (.d t x) v:=by
 simp only[AR];exact .inl ⟨hn,hw,h⟩
theorem uI{c:Cx}{t:Ty}{x:D}{v:Value}(h:AR c (.d t x) v)(hn:am t=true):wt t x/\eZ c.w c.S x v:=by
 simp only[AR] at h
 rcases h with h|⟨ts,rfl,_⟩
 ·exact h.2
 ·simp[am] at hn
theorem dL{c:Cx}{t:Ty}{k:IntKind}{n:Int}{v:Value}(h:AR c (.d t (.int k n)) v):v=.int k n/\t=.int k:=by
 simp only[AR] at h
 rcases h with⟨h1,h2,h3⟩|⟨ts,rfl,_,h2,_⟩
 ·refine⟨h3.int_inv,?_⟩
  cases t<;>simp only[wt] at h2<;>first
   | (obtain⟨m,h4⟩:=h2;cases h4;rfl)
   | (obtain⟨m,h4,_⟩:=h2;cases h4)
   | (obtain⟨m,h4⟩:=h2;cases h4)
 ·simp only[wt] at h2;obtain⟨l,h4,_⟩:=h2;cases h4
theorem xZ{c:Cx}{t:Ty}{n:Bool}{v:Value}(h:AR c (.d t (.bool n)) v):v=.bool n:=by
 simp only[AR] at h
 rcases h with⟨h1,h2,h3⟩|⟨ts,rfl,_,h2,_⟩
 ·exact h3.bool_inv
 ·simp only[wt] at h2;obtain⟨l,h4,_⟩:=h2;cases h4
theorem ck{c:Cx}(k:IntKind)(n:Int):AR c (.d (.int k) (.int k n)) (.int k n):=
 df rfl (by simp only[wt];exact⟨n,rfl⟩) (eZ.of_CR (.int k n))
theorem fi{c:Cx}(b:Bool):AR c (.d .bool (.bool b)) (.bool b):=
 df rfl (by simp only[wt];exact⟨b,rfl⟩) (eZ.of_CR (.bool b))
end Sy
end
noncomputable section
namespace Sy
open Go
def dq(P:Program)(o:Oper)(a:Act)(w:World)(K:Value->World->Prop):Prop:=
 match (execOp a.eval o).run P w with
 | .ok (.value v) w'=>K v w'
 | .ok .skip w'=>K undef w'
 | .ok (.enter f args) w'=>Calls P f args w' fun e w''=>∃ v,e=.returned v/\K v w''
 | _=>False
variable{ro:Option Nat}{nn:Nat}
theorem dq.plain{P:Program}{o:Oper}{a:Act}{w:World}{K:Value->World->Prop}(h:dq P o a w K)(c:Call):o.op≠.defer c:=by
 intro hc
 unfold dq at h
 obtain⟨dst,op,ty,pos,after,guard⟩:=o
 simp only at hc
 subst hc
 have e:execOp a.eval ⟨dst,.defer c,ty,pos,after,guard⟩=(resolve a.eval c ty >>= fun d=>pure (Next.defer d)):=rfl
 rw[e,Sem.run_bind] at h
 cases hr:(resolve a.eval c ty).run P w with
 | ok d w'=>rw[hr] at h;exact h
 | halt x w'=>rw[hr] at h;exact h
theorem uU{P:Program}{f:FuncId}{args:Array Value}{w:World}{R:Ending->World->Prop}{m:Nat}(h:Calls P f args w R):CallsIn (FW ro) m P f args w R:=by
 have h1:CallsIn Fence.wide m P f args w R:=callsIn_wide.2 h
 cases ro with
 | none=>exact h1
 | some l=>exact CallsIn.inRound l h1
theorem aV{P:Program}{o:Oper}{a:Act}{w:World}{K:Value->World->Prop}{next:Act->World->Prop}{Q:Exit->Act->World->Prop}(h:dq P o a w K)(hk:∀ v w',K v w'->next (a.put o.dst v) w'):o.wpIn (FW ro) nn P a w next Q:=by
 refine⟨fun _ _=>trivial,?_⟩
 rw[Oper.semAt_eq _ _ _ h.plain]
 unfold dq at h
 generalize (execOp a.eval o).run P w=r at *
 cases r with
 | ok n w'=>
  cases n<;>simp only at h<;>simp only[Oper.uponIn]
  case value v=>exact hk _ _ h
  case skip=>exact hk _ _ h
  case enter f args=>exact⟨fun hd=>(by cases hd),uU (h.mono fun e w'' ⟨v,he,hv⟩=>by subst he;exact hk _ _ hv)⟩
 | halt x w'=>simp only at h
theorem tv{P:Program}{f:FuncId}{fn:Func}{c:Code}{args:Array Value}{w:World}{R:Ending->World->Prop}(hf:P.funcs[f]?=some fn)(hb:fn.body=some c)
  (h:c.wpIn (FW none) 0 P (bodyPost P fn R) { tmps:=args++Array.replicate (fn.ntmps-args.size) undef,defers:=[] } w):Calls P f args w R:=
 calls_of_wp hf hb (wpIn_wide.1 h)
section
variable{P:Program}{Q:Exit->Act->World->Prop}{a:Act}{w:World}{F:Fence}{n:Nat}
theorem eV{md:Region.Mode}{ops:Array Oper}{Q':Exit->Act->World->Prop}:∀ (l:List Oper) (k:Nat) (listed:Array Bool) (a:Act) (w:World),(∀ j,l[j]?=ops[k+j]?) ->
  Region.seqB md ops l.length k listed=true->wpListIn F n P ops Q' l a w->wpAnyIn F n P md ops Q' l.length listed a w
 | [],_,_,_,_,_,hB,h=>⟨by simpa [Region.seqB] using hB,h⟩
 | o::l,k,listed,a,w,hl,hB,h=>by
  have h0:ops[k]?=some o:=by simpa using(hl 0).symm
  simp only[List.length_cons,Region.seqB,Bool.and_eq_true,decide_eq_true_eq] at hB
  refine⟨fun h1=>(by rw[hB.1] at h1;cases h1),fun i hi=>?_⟩
  rw[hB.1] at hi
  have hik:i=k:=by simpa using hi
  subst hik
  have hw:wpOpIn F n P ops Q' i (wpListIn F n P ops Q' l) a w:=by unfold wpOpIn;simp only[h0];exact h
  exact wpOpIn_mono (fun a' w' h'=>eV l (i+1) _ a' w' (fun j=>by have:=hl (j+1);simpa [Nat.add_assoc,Nat.add_comm 1 j] using this) hB.2 h') hw
theorem eB{b:Frame}{k:List Item}{cs:List Frame}{c:Code}:step P (lone (b.atR a (.code (.scope c)::k)) cs w)=.next (lone (b.atR a (.code c::.inScope c::k)) cs w):=
 step_lone_go (by simp[stepG,stepG.exec,Frame.atR])
theorem rz{b:Frame}{k:List Item}{cs:List Frame}{c:Code}:step P (lone (b.atR a (.inScope c::k)) cs w)=.next (lone (b.atR a k) cs w):=
 step_lone_go (by simp[stepG,stepG.exec,Frame.atR])
theorem kH{c:Code}(h:c.wpIn F n P (Exit.noGoto Q) a w):(Code.scope c).wpIn F n P Q a w:=by
 intro b k cs hro hb hr
 have h0:(lone (b.atR a (.code (.scope c)::k)) cs w).fenced P F:=fenced_calm hb hr rfl
 obtain⟨e,a₁,w₁,hq,harr⟩:=h b (.inScope c::k) cs hro hb hr
 cases e with
 | normal=>exact⟨.normal,a₁,w₁,hq,.head h0 eB (StepsIn.trans harr (.one (fenced_calm hb hr rfl) rz))⟩
 | exit id'=>
  have hx:exitTo id' (.inScope c::k)=exitTo id' k:=by simp[exitTo]
  exact⟨.exit id',a₁,w₁,hq,fun k' hk=>.head h0 eB (harr.1 k' (by rw[hx];exact hk)),
   fun hr' hk=>let ⟨k₁,h1,h2⟩:=harr.2 hr' (by rw[hx];exact hk);⟨k₁,h1,.head h0 eB h2⟩⟩
 | goto l=>exact hq.elim
 | ret=>exact⟨_,a₁,w₁,hq,.of_steps (.one h0 eB) harr⟩
 | panic ch=>exact⟨_,a₁,w₁,hq,.of_steps (.one h0 eB) harr⟩
 | outgrown=>exact⟨_,a₁,w₁,hq,.of_steps (.one h0 eB) harr⟩
theorem te{c:Code}(J:Nat->Act->World->Prop){m:Nat}(h₀:J m a w)
  (round:∀ m a w,J m a w->c.wpIn F n P (Exit.then (fun a' w'=>∃ m',m'<m/\J m' a' w') Q) a w):(Code.loop c).wpIn F n P Q a w:=by
 intro b k cs hro hb hr
 have key:∀ m a w,J m a w->∃ e a' w',Q e a' w'/\ArrivesIn (Machine.fenced P F) P (lone (b.atR a (.code c::.inLoop c::k)) cs w) b k cs e a' w':=by
  intro m
  induction m using Nat.strongRecOn with
  | _ m ih=>
   intro a w hI
   obtain⟨e,a₁,w₁,hq,harr⟩:=round m a w hI b (.inLoop c::k) cs hro hb hr
   cases e with
   | normal=>
    obtain⟨m',hlt,hI₁⟩:=hq
    obtain⟨e₂,a₂,w₂,hq₂,harr₂⟩:=ih m' hlt a₁ w₁ hI₁
    exact⟨e₂,a₂,w₂,hq₂,.of_steps (StepsIn.trans harr (.one (fenced_calm hb hr rfl) stepR_inLoop)) harr₂⟩
   | exit id=>exact⟨_,a₁,w₁,hq,.pass (x:=.inLoop c) rfl (fun _ _=>.inl (by simp)) harr⟩
   | goto l=>exact⟨_,a₁,w₁,hq,.pass (x:=.inLoop c) rfl (fun _ _=>.inl (by simp)) harr⟩
   | ret=>exact⟨_,a₁,w₁,hq,.pass (x:=.inLoop c) rfl (fun _ _=>.inl (by simp)) harr⟩
   | panic ch=>exact⟨_,a₁,w₁,hq,.pass (x:=.inLoop c) rfl (fun _ _=>.inl (by simp)) harr⟩
   | outgrown=>exact⟨_,a₁,w₁,hq,.pass (x:=.inLoop c) rfl (fun _ _=>.inl (by simp)) harr⟩
 obtain⟨e,a',w',hq,harr⟩:=key m a w h₀
 exact⟨e,a',w',hq,.of_steps (.one (fenced_calm hb hr rfl) stepR_loop) harr⟩
end
theorem dq.value{P:Program}{o:Oper}{a:Act}{w w':World}{v:Value}{K:Value->World->Prop}(h:(execOp a.eval o).run P w=.ok (.value v) w')(hk:K v w'):dq P o a w K:=by
 unfold dq;rw[h];exact hk
theorem dq.skip{P:Program}{o:Oper}{a:Act}{w w':World}{K:Value->World->Prop}(h:(execOp a.eval o).run P w=.ok .skip w')(hk:K undef w'):dq P o a w K:=by
 unfold dq;rw[h];exact hk
theorem dq.enter{P:Program}{o:Oper}{a:Act}{w w':World}{f:FuncId}{args:Array Value}{K:Value->World->Prop}(h:(execOp a.eval o).run P w=.ok (.enter f args) w')(hk:Calls P f args w' fun e w''=>∃ v,e=.returned v/\K v w''):dq P o a w K:=by
 unfold dq;rw[h];exact hk
theorem dq.mono{P:Program}{o:Oper}{a:Act}{w:World}{K K':Value->World->Prop}(h:dq P o a w K)(hk:∀ v w',K v w'->K' v w'):dq P o a w K':=by
 unfold dq at *
 generalize (execOp a.eval o).run P w=r at *
 cases r with
 | ok n w'=>
  cases n<;>simp only at h ⊢
  case value v=>exact hk _ _ h
  case skip=>exact hk _ _ h
  case enter f args=>exact h.mono fun e w'' ⟨v,he,hv⟩=>⟨v,he,hk _ _ hv⟩
 | halt x w'=>simp only at h
section
variable{w0:Root}{S:Nat->Nat->Prop}{γ:Nat->Option Nat}{β:Nat->Option (Nat×Nat)}{s:St}{a:Act}{w:World}
theorem aM(h:Rp w0 S γ β s a w):∀ x:Operand,AR ⟨w,S,γ,β,s.ob,s.dead⟩ (s.opA x) (a.eval x)
 | .tmp t=>by
  simp only[St.opA,Act.eval]
  by_cases ht:t<a.tmps.size
  ·exact h.tms t ht
  ·rw[h.tmu t (h.nt ▸ Nat.le_of_not_lt ht)];simp[AR]
 | .const v=>by
  simp only[St.opA,Act.eval]
  cases v<;>simp only[Bi]<;>first
   | exact ck _ _
   | exact fi _
   | exact df rfl (by simp only[wt];exact⟨_,rfl⟩) (eZ.of_CR (.str _))
   | (simp only[AR];done)
   | skip
  case slice a len cap=>
   match a,len,cap with
   | none,0,0=>simp[AR,AC,Value.cells]
   | some _,_,_=>simp only[AR]
   | none,_+1,_=>simp only[AR]
   | none,0,_+1=>simp only[AR]
 | .global g=>by simp[St.opA,AR]
 | .func f=>by
  simp only[St.opA,AR,AC]
  exact⟨fun _ h=>(by cases h),[],rfl,by simp only[kI]⟩
theorem Rp.put(h:Rp w0 S γ β s a w){v:AV}{val:Value}(hv:AR ⟨w,S,γ,β,s.ob,s.dead⟩ v val)(dst:Option Nat):Rp w0 S γ β (s.put dst v) (a.put dst val) w:=by
 cases dst with
 | none=>simpa [St.put,Act.put] using h
 | some t=>
  simp only[St.put,Act.put]
  by_cases ht:t<s.nt
  ·rw[if_pos ht]
   refine⟨h.ext,fun i hi=>?_,by simpa using h.nt,fun i hi=>?_,h.obs,h.γn,h.γi,h.γf,h.βn,h.βi,h.βγ,h.βf,h.Sb,h.So⟩
   ·simp only[Array.size_setIfInBounds] at hi
    by_cases hit:i=t
    ·subst hit
     simp only[if_true]
     rw[show(a.tmps.setIfInBounds i val).getD i undef=val by simp[Array.getD,hi]]
     exact hv
    ·simp only[if_neg hit]
     have:=h.tms i hi
     rwa [show(a.tmps.setIfInBounds t val).getD i undef=a.tmps.getD i undef by simp[Array.getD,hi,Array.getElem_setIfInBounds_ne hi (Ne.symm hit)]]
   ·have hi':s.nt<=i:=hi
    show(if i=t then v else s.tm i)=_
    rw[if_neg (by omega)];exact h.tmu i hi'
  ·rw[if_neg ht]
   have:a.tmps.setIfInBounds t val=a.tmps:=by
    apply Array.setIfInBounds_eq_of_size_le;rw[h.nt];omega
   rw[this]
   exact h
theorem tO{w':World}{S':Nat->Nat->Prop}{γ':Nat->Option Nat}{β':Nat->Option (Nat×Nat)}{ob:Nat->Option Ob}{dead:List Nat}
  (hc:∀ b o,S b o->w'.cell? ⟨b,o,none⟩=w.cell? ⟨b,o,none⟩) (hS:∀ b o,S b o->S' b o) (hγ:∀ id b,γ id=some b->γ' id=some b)
  (hβ:∀ v b e,v ∉ dead->β v=some (b,e)->β' v=some (b,e)/\∀ n,kF w b=some n->kF w' b=some n):Cx.le ⟨w,S,γ,β,ob,dead⟩ ⟨w',S',γ',β',ob,dead⟩:=
 ⟨hc,hS,hγ,fun id o ho _=>⟨o,ho,fun p=>⟨rfl,rfl⟩,fun t l e=>⟨l,e,rfl⟩,fun _ _ l e=>⟨l,e⟩⟩,fun v hv=>⟨hv,fun b e he=>hβ v b e hv he⟩⟩
theorem cZ{os:List Obj}{d:Nat}{b o:Nat}(h:b<w.heap.size):(grown w os d).cell? ⟨b,o,none⟩=w.cell? ⟨b,o,none⟩:=by
 simp only[World.cell?,cp w os d h]
theorem sN{os:List Obj}{d:Nat}{b:Nat}(h:b<w.heap.size):kF (grown w os d) b=kF w b:=by
 simp only[kF,bw,cp w os d h]
theorem gk.mono{c c':Cx}(h:c.le c'){kt vt:Ty}:∀ {j:Nat} {l:List D} {es:List MapEntry},gk c kt vt j l es->gk c' kt vt j l es
 | _,[],[],_=>trivial
 | _,[],_::_,k=>k.elim
 | _,_::_,[],k=>k.elim
 | j,x::l,e::es,k=>by
  simp only[gk] at k ⊢
  obtain⟨⟨q1,kd,vd,q2,q3,q4,q5,q6⟩,k2⟩:=k
  exact⟨⟨q1,kd,vd,q2,q3,q4,q5.mono h.cell h.S,q6.mono h.cell h.S⟩,gk.mono h k2⟩
theorem gk.same{c c':Cx}(hw:c'.w=c.w)(hS:c'.S=c.S){kt vt:Ty}:∀ {j:Nat} {l:List D} {es:List MapEntry},gk c kt vt j l es->gk c' kt vt j l es
 | _,[],[],_=>trivial
 | _,[],_::_,k=>k.elim
 | _,_::_,[],k=>k.elim
 | j,x::l,e::es,k=>by
  simp only[gk] at k ⊢
  rw[hw,hS]
  exact⟨k.1,gk.same hw hS k.2⟩
theorem fK.mono{c c':Cx}(h:c.le c'){b:Nat}{o:Ob}(hr:c'.w.heap[b]?=c.w.heap[b]?)(hS:∀ o,c'.S b o->c.S b o)(k:fK c b o):fK c' b o:=by
 have hr':bw c'.w b=bw c.w b:=by simp only[bw,hr]
 cases o<;>simp only[fK] at k ⊢
 case one t v=>
  obtain⟨k1,k2,k3,cs,k4,k5,k6⟩:=k
  exact⟨k1,k2,fun o ho=>k3 o (hS o ho),cs,by rw[hr'];exact k4,AC.mono h _ _ k5,k6⟩
 case many t l=>
  obtain⟨k1,k2,k3,cs,k4,k5⟩:=k
  exact⟨k1,k2,fun o ho=>k3 o (hS o ho),cs,by rw[hr'];exact k4,k5.mono h.cell h.S⟩
 case mp kt vt l=>
  obtain⟨k1,k2,k3,es,k4,k5⟩:=k
  exact⟨k1,k2,fun o ho=>k3 o (hS o ho),es,by rw[hr];exact k4,k5.mono h⟩
 case lp i p=>
  obtain⟨r,k4,k5,k6,k7⟩:=k
  exact⟨r,by rw[hr];exact k4,k5,fun t ht=>(k6 t ht).mono h.cell h.S h.γ,k7⟩
theorem Rp.grow(h:Rp w0 S γ β s a w){os:List Obj}{d:Nat}(hd:w.drawn<=d){S':Nat->Nat->Prop}(hS:∀ b o,S b o->S' b o)(hS':∀ b o,S' b o->S b o\/(w.heap.size<=b/\b<(grown w os d).heap.size)) :
  Rp w0 S' γ β s a (grown w os d)/\Cx.le ⟨w,S,γ,β,s.ob,s.dead⟩ ⟨grown w os d,S',γ,β,s.ob,s.dead⟩:=by
 have hsz:w.heap.size<=(grown w os d).heap.size:=by simp
 have hle:Cx.le ⟨w,S,γ,β,s.ob,s.dead⟩ ⟨grown w os d,S',γ,β,s.ob,s.dead⟩:=
  tO (fun b o hb=>cZ (h.Sb b o hb)) hS (fun _ _ k=>k) (fun v b e hv he=>⟨he,fun n hn=>by rw[sN (h.βn v b e hv he).2.1];exact hn⟩)
 refine⟨⟨?_,fun t ht=>(h.tms t ht).mono hle,h.nt,h.tmu,fun id o b ho hb=>?_,fun id b hb=>⟨(h.γn id b hb).1,by have:=(h.γn id b hb).2;omega⟩,h.γi,h.γf,fun v b e hv he=>?_,h.βi,h.βγ,h.βf,fun b o hb=>?_,fun b o hb hlt=>?_⟩,hle⟩
 ·exact⟨h.ext.tape,h.ext.os,h.ext.output,Nat.le_trans h.ext.sz hsz,Nat.le_trans h.ext.dr hd,fun b hb=>(cp w os d (Nat.lt_of_lt_of_le hb.1 h.ext.sz)).trans (h.ext.old b hb)⟩
 ·have hb':=(h.γn id b hb).2
  refine(h.obs id o b ho hb).mono hle (cp w os d hb') fun i hi=>?_
  rcases hS' b i hi with k|k
  ·exact k
  ·omega
 ·obtain⟨k1,k2,k3⟩:=h.βn v b e hv he
  refine⟨k1,by omega,fun o ho hs=>?_⟩
  rcases hS' b o hs with k|k
  ·exact k3 o ho k
  ·omega
 ·rcases hS' b o hb with k|k
  ·have:=h.Sb b o k;omega
  ·exact k.2
 ·rcases hS' b o hb with k|k
  ·exact h.So b o k hlt
  ·exfalso
   have:=h.ext.sz
   have h2:=hlt.1
   omega
def mQ{α:Type}(f:Nat->Option α)(i:Nat)(x:α):Nat->Option α:=fun j=>if j=i then some x else f j
theorem bn{α:Type}(f:Nat->Option α)(i:Nat)(x:α):mQ f i x i=some x:=by simp[mQ]
theorem bI{α:Type}(f:Nat->Option α){i j:Nat}(x:α)(h:j≠i):mQ f i x j=f j:=by simp[mQ,h]
theorem dN{α:Type}{f:Nat->Option α}{i:Nat}{x:α}(h:f i=none){j:Nat}{y:α}(hj:f j=some y):mQ f i x j=some y:=by
 by_cases e:j=i
 ·subst e;rw[h] at hj;cases hj
 ·rw[bI f x e,hj]
theorem Rp.newOb(h:Rp w0 S γ β s a w){id b:Nat}(hid:γ id=none)(hb1:¬ w0.Old b)(hb2:b<w.heap.size)(hγ:∀ id,γ id≠some b)(hβ:∀ v e,v ∉ s.dead->β v≠some (b,e))(hi:id<s.base+4096)
  (hob:∀ o,s.ob id=some o->fK ⟨w,S,mQ γ id b,β,s.ob,s.dead⟩ b o):Rp w0 S (mQ γ id b) β s a w/\Cx.le ⟨w,S,γ,β,s.ob,s.dead⟩ ⟨w,S,mQ γ id b,β,s.ob,s.dead⟩:=by
 have hle:Cx.le ⟨w,S,γ,β,s.ob,s.dead⟩ ⟨w,S,mQ γ id b,β,s.ob,s.dead⟩:=
  tO (fun _ _ _=>rfl) (fun _ _ k=>k) (fun _ _ k=>dN hid k) (fun v b e hv he=>⟨he,fun n hn=>hn⟩)
 refine⟨⟨h.ext,fun t ht=>(h.tms t ht).mono hle,h.nt,h.tmu,fun i o c ho hc=>?_,fun i c hc=>?_,fun i j c hc hc'=>?_,fun i hi'=>?_,h.βn,h.βi,fun v i c e hv he hc=>?_,h.βf,h.Sb,h.So⟩,hle⟩
 ·by_cases e:i=id
  ·subst e;rw[bn] at hc;cases hc;exact hob o ho
  ·rw[bI γ b e] at hc
   exact(h.obs i o c ho hc).mono hle rfl fun _ k=>k
 ·by_cases e:i=id
  ·subst e;rw[bn] at hc;cases hc;exact⟨hb1,hb2⟩
  ·rw[bI γ b e] at hc;exact h.γn i c hc
 ·by_cases e:i=id
  ·by_cases e':j=id
   ·rw[e,e']
   ·subst e;rw[bn] at hc;cases hc;rw[bI γ b e'] at hc';exact absurd hc' (hγ j)
  ·by_cases e':j=id
   ·subst e';rw[bn] at hc';cases hc';rw[bI γ b e] at hc;exact absurd hc (hγ i)
   ·rw[bI γ b e] at hc;rw[bI γ b e'] at hc';exact h.γi i j c hc hc'
 ·rw[bI γ b (by omega)];exact h.γf i hi'
 ·by_cases e':i=id
  ·subst e';rw[bn] at hc;cases hc;exact hβ v e hv he
  ·rw[bI γ b e'] at hc;exact h.βγ v i c e hv he hc
theorem Rp.newTok(h:Rp w0 S γ β s a w){v b e:Nat}(hv:β v=none)(hb1:¬ w0.Old b)(hb2:b<w.heap.size)(hγ:∀ id,γ id≠some b)(hβ:∀ v e,v ∉ s.dead->β v≠some (b,e))(hi:v<s.base+4096)(hS:∀ o,e<=o->¬ S b o) :
  Rp w0 S γ (mQ β v (b,e)) s a w/\Cx.le ⟨w,S,γ,β,s.ob,s.dead⟩ ⟨w,S,γ,mQ β v (b,e),s.ob,s.dead⟩:=by
 have hle:Cx.le ⟨w,S,γ,β,s.ob,s.dead⟩ ⟨w,S,γ,mQ β v (b,e),s.ob,s.dead⟩:=
  tO (fun _ _ _=>rfl) (fun _ _ k=>k) (fun _ _ k=>k) (fun v b e hv' he=>⟨dN hv he,fun n hn=>hn⟩)
 refine⟨⟨h.ext,fun t ht=>(h.tms t ht).mono hle,h.nt,h.tmu,fun i o c ho hc=>(h.obs i o c ho hc).mono hle rfl fun _ k=>k,h.γn,h.γi,h.γf,fun u c f hu hc=>?_,fun u u' c f f' hu hu' hc hc'=>?_,fun u i c f hu hc hi=>?_,fun u hu=>?_,h.Sb,h.So⟩,hle⟩
 ·by_cases e':u=v
  ·subst e';rw[bn] at hc;cases hc;exact⟨hb1,hb2,hS⟩
  ·rw[bI β _ e'] at hc;exact h.βn u c f hu hc
 ·by_cases e1:u=v
  ·by_cases e2:u'=v
   ·rw[e1,e2]
   ·subst e1;rw[bn] at hc;cases hc;rw[bI β _ e2] at hc';exact absurd hc' (hβ u' _ hu')
  ·by_cases e2:u'=v
   ·subst e2;rw[bn] at hc';cases hc';rw[bI β _ e1] at hc;exact absurd hc (hβ u _ hu)
   ·rw[bI β _ e1] at hc;rw[bI β _ e2] at hc';exact h.βi u u' c f f' hu hu' hc hc'
 ·by_cases e':u=v
  ·subst e';rw[bn] at hc;cases hc;exact hγ i hi
  ·rw[bI β _ e'] at hc;exact h.βγ u i c f hu hc hi
 ·rw[bI β _ (by omega)];exact h.βf u hu
end
def Qp(w0:Root)(S:Nat->Nat->Prop)(γ:Nat->Option Nat)(β:Nat->Option (Nat×Nat))(s:St)(a:Act)(w:World)(dst:Option Nat)(v:AV)(val:Value)(w':World):Prop:=
 ∃ S' γ' β',Rp w0 S' γ' β' s a w'/\AR ⟨w',S',γ',β',s.ob,s.dead⟩ v val/\(∀ b o,S b o->S' b o)/\(∃ os d,w'=grown w os d) ∧
  (∀ id b,γ id=some b->γ' id=some b)/\(∀ id,dst≠some (id-s.base)\/id<s.base->γ' id=γ id/\β' id=β id)
section
variable{w0:Root}{S:Nat->Nat->Prop}{γ:Nat->Option Nat}{β:Nat->Option (Nat×Nat)}{s:St}{a:Act}{w:World}
theorem Qp.same(h:Rp w0 S γ β s a w){v:AV}{val:Value}(hv:AR ⟨w,S,γ,β,s.ob,s.dead⟩ v val)(dst:Option Nat):Qp w0 S γ β s a w dst v val w:=
 ⟨S,γ,β,h,hv,fun _ _ k=>k,⟨[],_,(zz w).symm⟩,fun _ _ k=>k,fun _ _=>⟨rfl,rfl⟩⟩
end
end Sy
end
noncomputable section
namespace Sy
open Go
def Fr(E:Env)(s:St)(γ:Nat->Option Nat)(β:Nat->Option (Nat×Nat))(o:Oper):Prop:=
 tz o=true->∀ d:Nat,o.dst=some d->d<4096/\γ (s.base+d)=none/\β (s.base+d)=none/\∀ T t,o.op=.alloc T->E.L T=some t->s.ob (s.base+d)=some (.one t (fh t))
theorem yc{E:Env}{s:St}{γ:Nat->Option Nat}{β:Nat->Option (Nat×Nat)}{o:Oper}(h:tz o=false):Fr E s γ β o:=fun hc=>by rw[h] at hc;cases hc
theorem dh{x:AV}{p:Ty×D}(h:isD x=some p):x=.d p.1 p.2:=by
 cases x<;>simp[isD] at h
 subst h;rfl
theorem tb{x:D}{b:Bool}(h:x.truth=some b):x=.bool b:=by
 cases x<;>simp[D.truth] at h
 subst h;rfl
theorem lw{c:Cx}{x:AV}{b:Bool}{v:Value}(h:x.truth=some b)(k:AR c x v):v=.bool b/\∃ t,x=.d t (.bool b):=by
 cases x<;>simp only[AV.truth] at h<;>first|cases h|skip
 split at h<;>first|(cases h;done)|skip
 have:=tb h
 subst this
 exact⟨xZ k,_,rfl⟩
theorem mf{x:D}{n k:Nat}(h:x.idx n=some k):∃ kk,x=.int kk k/\k<n:=by
 cases x<;>simp only[D.idx] at h<;>first|cases h|skip
 rename_i kk i
 split at h
 ·rename_i hh
  simp only[Option.some.injEq] at h
  refine⟨kk,?_,by omega⟩
  rw[<-h];congr 1;omega
 ·cases h
theorem sA{x:D}{k:Nat}(h:x.natOf=some k):∃ kk,x=.int kk k:=by
 cases x<;>simp only[D.natOf] at h<;>first|cases h|skip
 rename_i kk i
 split at h
 ·simp only[Option.some.injEq] at h
  refine⟨kk,?_⟩
  rw[<-h];congr 1;omega
 ·cases h
theorem AY{x:D}{l:List D}(h:x.asSl=some l):x=.sl l:=by
 cases x<;>simp[D.asSl] at h
 subst h;rfl
section
variable{P:Program}{E:Env}{w0:Root}{S:Nat->Nat->Prop}{γ:Nat->Option Nat}{β:Nat->Option (Nat×Nat)}{s:St}{a:Act}{w:World}
def gM(P:Program)(E:Env)(w0:Root)(S:Nat->Nat->Prop)(γ:Nat->Option Nat)(β:Nat->Option (Nat×Nat))(s:St)(a:Act)(w:World)(o:Oper):Prop:=
 ∀ (R:Type) (K:AV->Option R) (r:R),qv E s o K=some r->∃ v,K v=some r/\dq P o a w (Qp w0 S γ β s a w o.dst v)
theorem jg(a:Addr):(Instr.sureAddr (.pointer (some a))).run P w=.ok a w:=rfl
theorem Fo(h:Rp w0 S γ β s a w){dst x ty pos after guard}:gM P E w0 S γ β s a w ⟨dst,.move x,ty,pos,after,guard⟩:=by
 intro R K r hq
 exact⟨_,hq,.value (v:=a.eval x) (w':=w) (by simp[execOp]) (Qp.same h (aM h x) _)⟩
theorem Ag(h:Rp w0 S γ β s a w){dst x ty pos after guard}:gM P E w0 S γ β s a w ⟨dst,.assign x,ty,pos,after,guard⟩:=by
 intro R K r hq
 exact⟨_,hq,.value (v:=a.eval x) (w':=w) (by simp[execOp]) (Qp.same h (aM h x) _)⟩
theorem Fp(h:Rp w0 S γ β s a w){dst c x y ty pos after guard}:gM P E w0 S γ β s a w ⟨dst,.pick c x y,ty,pos,after,guard⟩:=by
 intro R K r hq
 simp only[qv] at hq
 obtain⟨b,h1,h2⟩:=bind_some_inv hq
 obtain⟨h3,_⟩:=lw h1 (aM h c)
 cases b
 ·exact⟨_,by simpa using h2,.value (v:=a.eval y) (w':=w) (by simp[execOp,h3,asBool]) (Qp.same h (aM h y) _)⟩
 ·exact⟨_,by simpa using h2,.value (v:=a.eval x) (w':=w) (by simp[execOp,h3,asBool]) (Qp.same h (aM h x) _)⟩
theorem wm(h:Rp w0 S γ β s a w){dst x ty pos after guard}:gM P E w0 S γ β s a w ⟨dst,.nilCheck x,ty,pos,after,guard⟩:=by
 intro R K r hq
 simp only[qv] at hq
 have hx:=aM h x
 generalize s.opA x=y at *
 cases y<;>(try simp only at hq)<;>first|cases hq|skip
 rename_i t id p
 refine⟨_,hq,?_⟩
 have hx':=hx
 simp only[AR,AC] at hx
 obtain⟨h1,b,off,h2,h3⟩:=hx
 have hv:=au h1 h2
 exact .value (v:=a.eval x) (w':=w) (by simp[execOp,hv]) (Qp.same h hx' _)
mutual
theorem qX:∀ (t:Ty),am t=true->AV.fits t (fh t)=true
 | .int k,_=>bo _ _
 | .bool,_=>bo _ _
 | .str,_=>bo _ _
 | .st ts,hn=>by
  simp only[fh]
  split
  ·simp only[AV.fits,Bool.and_eq_true]
   exact⟨by have:=Ty.beq_refl' (.st ts);simpa [Ty.beq] using this,g8 ts (by simpa [am] using hn)⟩
  ·exact bo _ _
 | .arr n t,_=>bo _ _
 | .sl t,_=>rfl
 | .tup _,h=>by simp[am] at h
 | .fn,h=>by simp[am] at h
theorem g8:∀ (ts:List Ty),aY ts=true->AV.fitss ts (ii ts)=true
 | [],_=>rfl
 | t::ts,h=>by
  simp only[aY,Bool.and_eq_true] at h
  simp only[ii,AV.fitss,Bool.and_eq_true]
  exact⟨qX t h.1,g8 ts h.2⟩
end
mutual
theorem cu:∀ (t:Ty),am t=true->wt t (aF t)
 | .int k,_=>by simp only[wt,aF];exact⟨0,rfl⟩
 | .bool,_=>by simp only[wt,aF];exact⟨false,rfl⟩
 | .str,_=>by simp only[wt,aF];exact⟨_,rfl⟩
 | .st ts,hn=>by simp only[wt,aF];exact⟨_,rfl,lD ts (by simpa [am] using hn)⟩
 | .arr n t,hn=>by
  simp only[wt,aF]
  refine⟨_,rfl,by simp,fun x hx=>?_⟩
  rw[(List.mem_replicate.1 hx).2]
  exact cu t (by simpa [am] using hn)
 | .sl t,_=>by simp only[wt,aF];exact⟨[],rfl,fun x hx=>by simp at hx⟩
 | .tup _,h=>by simp[am] at h
 | .fn,h=>by simp[am] at h
theorem lD:∀ (ts:List Ty),aY ts=true->dU ts (eW ts)
 | [],_=>by simp[dU,eW]
 | t::ts,h=>by
  simp only[aY,Bool.and_eq_true] at h
  simp only[eW,dU]
  exact⟨_,_,rfl,cu t h.1,lD ts h.2⟩
end
theorem EQ{w:World}{S:Nat->Nat->Prop}{d:D}{v:Value}(h:zv d v=true):CR w S d v:=by
 cases d<;>cases v<;>simp only[zv] at h<;>first|cases h|skip
 case int.int k n k' n'=>simp at h;rw[h.1,h.2];exact .int _ _
 case bool.bool b b'=>simp at h;rw[h];exact .bool _
 case str.string x y=>
  have:x=y:=by simpa using h
  rw[this];exact .str _
 case sl.slice l a len cap=>
  simp only[Bool.and_eq_true,List.isEmpty_iff,Option.isNone_iff_eq_none,decide_eq_true_eq] at h
  obtain⟨⟨⟨rfl,rfl⟩,rfl⟩,rfl⟩:=h
  exact .sl [] none 0 0 0 (fun _=>undef) (.inl rfl) (Nat.le_refl 0) (fun i d hd=>by simp[D.flats] at hd) (fun i d hd=>by simp[D.flats] at hd)
theorem bX{w:World}{S:Nat->Nat->Prop}:∀ {ds:List D} {cs:List Value},cj ds cs=true->cw w S ds cs
 | [],[],_=>cw.nil
 | [],_::_,h=>by simp[cj] at h
 | _::_,[],h=>by simp[cj] at h
 | d::ds,v::cs,h=>by
  simp only[cj,Bool.and_eq_true] at h
  exact cw.append (cw.single.2 (EQ h.1)) (bX h.2)
theorem oN:∀ {a b:List D} {cs:List Value},cj (a++b) cs=true->cj a (cs.take a.length)=true/\cj b (cs.drop a.length)=true
 | [],b,cs,h=>by simpa [cj] using h
 | d::a,b,[],h=>by simp[cj] at h
 | d::a,b,v::cs,h=>by
  simp only[List.cons_append,cj,Bool.and_eq_true] at h
  obtain⟨h1,h2⟩:=oN h.2
  simp only[List.length_cons,List.take_succ_cons,List.drop_succ_cons,cj,Bool.and_eq_true]
  exact⟨⟨h.1,h1⟩,h2⟩
mutual
theorem wN{c:Cx}:∀ (t:Ty) (cs:List Value),am t=true->cj (aF t).flat cs=true->AC c (fh t) cs
 | .int k,cs,hn,h=>by simp only[fh,AC];exact⟨cu _ hn,hn,bX h⟩
 | .bool,cs,hn,h=>by simp only[fh,AC];exact⟨cu _ hn,hn,bX h⟩
 | .str,cs,hn,h=>by simp only[fh,AC];exact⟨cu _ hn,hn,bX h⟩
 | .st ts,cs,hn,h=>by
  simp only[fh]
  split
  ·simp only[am] at hn
   simp only[AC]
   exact⟨hn,g8 ts hn,jo ts cs hn (by simpa [aF,D.flat] using h)⟩
  ·simp only[AC];exact⟨cu _ hn,hn,bX h⟩
 | .arr n t,cs,hn,h=>by simp only[fh,AC];exact⟨cu _ hn,hn,bX h⟩
 | .sl t,cs,hn,h=>by
  simp only[fh,AC]
  simp only[aF,D.flat] at h
  match cs,h with
  | [],h=>simp[cj] at h
  | [v],h=>
   simp only[cj,Bool.and_eq_true] at h
   have h1:=h.1
   cases v<;>simp only[zv] at h1<;>first|cases h1|skip
   simp only[Bool.and_eq_true,List.isEmpty_iff,Option.isNone_iff_eq_none,decide_eq_true_eq] at h1
   obtain⟨⟨⟨_,rfl⟩,rfl⟩,rfl⟩:=h1
   rfl
  | v::u::cs,h=>simp[cj] at h
 | .tup _,_,h,_=>by simp[am] at h
 | .fn,_,h,_=>by simp[am] at h
theorem jo{c:Cx}:∀ (ts:List Ty) (cs:List Value),aY ts=true->cj (D.flats (eW ts)) cs=true->iP c (ii ts) cs
 | [],cs,_,h=>by
  simp only[eW,D.flats] at h
  cases cs with
  | nil=>simp[ii,iP]
  | cons v cs=>simp[cj] at h
 | t::ts,cs,hn,h=>by
  simp only[aY,Bool.and_eq_true] at hn
  simp only[eW,D.flats] at h
  obtain⟨h1,h2⟩:=oN h
  simp only[ii,iP]
  exact⟨_,_,(List.take_append_drop _ _).symm,wN t _ hn.1 h1,jo ts _ hn.2 h2⟩
end
end
end Sy
end
noncomputable section
namespace Sy
open Go
theorem nK{R:Type}{c:Cx}{b:Nat}{o:Ob}{p:List Nat}{t:Ty}{K:AV->Option R}{r:R}(ho:fK c b o)(ht:eh o p=some t)(h:gC o p K=some r) :
  ∃ a' cs,K a'=some r/\AC c a' cs/\AV.fits t a'=true/\am t=true/\∀ (i:Nat) (v:Value),cs[i]?=some v->c.w.cell? ⟨b,ci o p+i,none⟩=some v:=by
 cases o
 case mp=>simp[eh] at ht
 case lp=>simp[eh] at ht
 case one T v=>
  simp only[fK] at ho
  obtain⟨h1,h2,_,cs,h4,h5,h6⟩:=ho
  simp only[eh] at ht
  simp only[gC] at h
  obtain⟨a',pre,mid,post,k1,rfl,k2,k3,k4⟩:=yE p h2 h1 ht h5 h
  refine⟨a',mid,k1,k3,k4,c7 p h1 ht,fun i v hv=>?_⟩
  rw[cF _ h4]
  simp only[ci,<-k2]
  have hi:=(List.getElem?_eq_some_iff.1 hv).1
  simp only[List.getElem?_toArray]
  rw[List.getElem?_append_right (by omega),Nat.add_sub_cancel_left,List.getElem?_append_left hi]
  exact hv
 case many T l=>
  simp only[fK] at ho
  obtain⟨h1,h2,_,cs,h4,h5⟩:=ho
  cases p with
  | nil=>simp[eh] at ht
  | cons i p=>
   simp only[eh] at ht
   simp only[gC] at h
   obtain⟨x,k1,k2⟩:=bind_some_inv h
   rw[bK k1] at h5
   obtain⟨h6,h7⟩:=h5.split
   obtain⟨h8,h9⟩:=h7.split
   have hx:=h2 x (List.mem_of_getElem? k1)
   obtain⟨a',pre,mid,post,m1,m2,m3,m4,m5⟩:=yE (c:=c) (cs:=(cs.drop (D.flats (l.take i)).length).take x.flat.length) p (bo T x) h1 ht (by simp only[AC];exact⟨hx,h1,h8⟩) k2
   refine⟨a',mid,m1,m4,m5,c7 p h1 ht,fun j v hv=>?_⟩
   rw[cF _ h4]
   have hlen:(D.flats (l.take i)).length=i*T.size:=by
    rw[aA h1 _ (fun x hx=>h2 x (List.mem_of_mem_take hx))]
    have:=(List.getElem?_eq_some_iff.1 k1).1
    simp[Nat.min_eq_left (Nat.le_of_lt this)]
   simp only[ci,<-m3,List.getElem?_toArray]
   have hj:=(List.getElem?_eq_some_iff.1 hv).1
   have h10:((cs.drop (D.flats (l.take i)).length).take x.flat.length)[pre.length+j]?=some v:=by
    rw[m2,List.getElem?_append_right (by omega),Nat.add_sub_cancel_left,List.getElem?_append_left hj];exact hv
   have h11:=(List.getElem?_eq_some_iff.1 h10).1
   rw[List.length_take] at h11
   rw[List.getElem?_take_of_lt (by omega),List.getElem?_drop,hlen] at h10
   rw[show i*T.size+pre.length+j=i*T.size+(pre.length+j) by omega]
   exact h10
section
variable{P:Program}{E:Env}{w0:Root}{S:Nat->Nat->Prop}{γ:Nat->Option Nat}{β:Nat->Option (Nat×Nat)}{s:St}{a:Act}{w:World}
theorem gX(hE:EnvOk P E){T:TypeId}{t:Ty}(h:E.L T=some t)(hn:am t=true):bh P t T=true:=by
 rcases hE.lay T t h with⟨ts,rfl⟩|h
 ·simp[am] at hn
 ·exact h
theorem mR{c:Cx}{t:Ty}{id:Nat}{p:List Nat}{v:Value}(h:AR c (.ptr t id p) v):∃ b off,v=.pointer (some ⟨b,off,none⟩)/\c.γ id=some b/\∀ o,c.ob id=some o->eh o p=some t/\off=ci o p:=by
 simp only[AR,AC] at h
 obtain⟨h1,b,off,h2,h3⟩:=h
 exact⟨b,off,au h1 h2,h3⟩
theorem gb{c:Cx}{t:Ty}{id:Nat}{p:List Nat}{b off:Nat}(h:c.γ id=some b)(h2:∀ o,c.ob id=some o->eh o p=some t/\off=ci o p):AR c (.ptr t id p) (.pointer (some ⟨b,off,none⟩)):=by
 simp only[AR,AC]
 exact⟨by simp,b,off,rfl,h,h2⟩
theorem tg{c:Cx}{t:Ty}{x:D}{v:Value}(h:AR c (.fptr t x) v):wt t x/\am t=true/\∃ b off,v=.pointer (some ⟨b,off,none⟩)/\mS c.w c.S b off x.flat:=by
 simp only[AR,AC] at h
 obtain⟨h1,h2,h0,b,off,h3,h4⟩:=h
 exact⟨h2,h0,b,off,au h1 h3,h4⟩
theorem kP{c:Cx}{t:Ty}{x:D}{b off:Nat}(h:wt t x)(hn:am t=true)(h2:mS c.w c.S b off x.flat):AR c (.fptr t x) (.pointer (some ⟨b,off,none⟩)):=by
 simp only[AR,AC]
 exact⟨by simp,h,hn,b,off,rfl,h2⟩
theorem Fn(hE:EnvOk P E)(h:Rp w0 S γ β s a w){dst T x ty pos after guard}:gM P E w0 S γ β s a w ⟨dst,.load T x,ty,pos,after,guard⟩:=by
 intro R K r hq
 simp only[qv] at hq
 replace hq:=bind_some_inv hq;obtain⟨t,ht,hq⟩:=hq
 have hx:=aM h x
 generalize s.opA x=y at *
 cases y<;>(try simp only at hq)<;>first|cases hq|skip
 case ptr t' id p=>
  split at hq<;>first|cases hq|skip
  rename_i hb
  have:=Ty.eq_of_beq _ _ hb;subst this
  replace hq:=bind_some_inv hq;obtain⟨o,ho,hq⟩:=hq
  obtain⟨b,off,hv,hγ,hob⟩:=mR hx
  obtain⟨k1,rfl⟩:=hob o ho
  obtain⟨a',cs,m1,m2,m3,m4,m5⟩:=nK (h.obs id o b ho hγ) k1 hq
  obtain⟨m6,m7⟩:=fS _ _ _ m3 m2
  obtain⟨v,hrun,hval⟩:=g6 (gX hE ht m4) (w:=w) (b:=b) (off:=ci o p) m6 m7 m5
  exact⟨a',m1,.value (v:=v) (w':=w) (by simp[execOp,hv,hrun]) (Qp.same h (rB m3 m2 hval) _)⟩
 case fptr t' z=>
  split at hq<;>first|cases hq|skip
  rename_i hb
  have:=Ty.eq_of_beq _ _ hb;subst this
  obtain⟨k1,k0,b,off,hv,cs,k2,k3⟩:=tg hx
  obtain⟨v,hrun,hval⟩:=g6 (gX hE ht k0) (w:=w) (b:=b) (off:=off) (cs:=cs) (by rw[<-k2.1];exact bT _ _ k1 k0) k2.nag (fun i c hc=>(k3 i c hc).2)
  exact⟨_,hq,.value (v:=v) (w':=w) (by simp[execOp,hv,hrun]) (Qp.same h (rB (bo _ _) (by simp only[AC];exact⟨k1,k0,k2⟩) hval) _)⟩
 case sub sl e id p lo n=>
  split at hq<;>first|cases hq|skip
  rename_i hb
  simp only[Bool.and_eq_true,Bool.not_eq_true'] at hb
  obtain⟨hsl,hb⟩:=hb
  subst hsl
  have:=Ty.eq_of_beq _ _ hb;subst this
  replace hq:=bind_some_inv hq;obtain⟨o,ho,hq⟩:=hq
  simp only[AR,AC] at hx
  obtain⟨hna,hne,b,off,cap,hcs,hγ,hob⟩:=hx
  simp only[Bool.false_eq_true,if_false] at hcs
  have hv:=au hna hcs
  obtain⟨m,k1,k2,rfl⟩:=hob o ho
  obtain⟨a',cs,m1,m2,m3,m4,m5⟩:=nK (h.obs id o b ho hγ) k1 hq
  split at m1<;>first|(cases m1;done)|skip
  rename_i m' e' l
  split at m1<;>first|(cases m1;done)|skip
  rename_i hb2
  simp only[Bool.and_eq_true,decide_eq_true_eq] at hb2
  have he:=Ty.eq_of_beq _ _ hb2.1;subst he
  have hm:=nk m3
  simp only[Ty.arr.injEq] at hm
  simp only[AC] at m2
  obtain⟨q1,q2,q3⟩:=m2
  simp only[wt] at q1
  obtain⟨l0,e0,q4,q5⟩:=q1
  cases e0
  have hl1:l=l.take lo++((l.drop lo).take n++(l.drop lo).drop n):=by rw[List.take_append_drop,List.take_append_drop]
  have hfl:D.flats l=D.flats (l.take lo)++(D.flats ((l.drop lo).take n)++D.flats ((l.drop lo).drop n)):=by
   conv=>lhs;rw[hl1]
   rw[bF,bF]
  simp only[D.flat] at q3
  rw[hfl] at q3
  obtain⟨_,r2⟩:=q3.split
  obtain⟨r3,_⟩:=r2.split
  have len1:(D.flats (l.take lo)).length=lo*e'.size:=by
   rw[aA hne _ (fun x hx=>q5 x (List.mem_of_mem_take hx)),List.length_take,Nat.min_eq_left (by omega)]
  have len2:(D.flats ((l.drop lo).take n)).length=n*e'.size:=by
   rw[aA hne _ (fun x hx=>q5 x (List.mem_of_mem_drop (List.mem_of_mem_take hx))),List.length_take,List.length_drop,Nat.min_eq_left (by omega)]
  have hwt:wt (.arr n e') (.st ((l.drop lo).take n)):=by
   simp only[wt]
   exact⟨_,rfl,by rw[List.length_take,List.length_drop,Nat.min_eq_left (by omega)],fun x hx=>q5 x (List.mem_of_mem_drop (List.mem_of_mem_take hx))⟩
  have hnt:am (.arr n e')=true:=by simp only[am];exact hne
  obtain⟨v,hrun,hval⟩:=g6 (gX hE ht hnt) (w:=w) (b:=b) (off:=ci o p+lo*e'.size) (cs:=(cs.drop (D.flats (l.take lo)).length).take (D.flats ((l.drop lo).take n)).length) (by rw[<-r3.1,len2];rfl) r3.nag (fun i c hc=>by
   have hi:i<(D.flats ((l.drop lo).take n)).length:=by
    have:=(List.getElem?_eq_some_iff.1 hc).1
    rw[List.length_take] at this;omega
   rw[List.getElem?_take_of_lt hi,List.getElem?_drop] at hc
   have:=m5 _ c hc
   rw[len1,<-Nat.add_assoc] at this
   exact this)
  exact⟨_,m1,.value (v:=v) (w':=w) (by simp[execOp,hv,hrun]) (Qp.same h (rB (bo _ _) (by simp only[AC];exact⟨hwt,hnt,by simp only[D.flat];exact r3⟩) hval) _)⟩
theorem oE{T:TypeId}{ts:List Ty}{f:Nat}{u:Ty}(hl:bh P (.st ts) T=true)(hf:ts[f]?=some u)(b off:Nat)(w:World) :
  (Instr.fieldAt T (.pointer (some ⟨b,off,none⟩)) f).run P w=.ok (.pointer (some ⟨b,off+Ty.sizes (ts.take f),none⟩)) w:=by
 obtain⟨fs,h1,h2⟩:=gu hl
 obtain⟨g,h3,h4,h5,h6⟩:=oY h2 hf
 have h3':fs[f]?=some g:=by simpa using h3
 have hne:u.size≠0:=by omega
 simp only[Instr.fieldAt,Sem.run_bind,run_underlying h1,Result.andThen_ok,h3',jg,fieldPlace,bG h6,hne,if_false,Sem.run_pure,h4,cD,Nat.zero_add]
theorem gZ:∀ (p:List Nat) {t u v:Ty} {i:Nat},aK t p=some u->aK u [i]=some v->aK t (p++[i])=some v
 | [],t,u,v,i,h,k=>by
  have:t=u:=by cases t<;>simpa [aK] using h
  subst this;exact k
 | j::p,.st ts,u,v,i,h,k=>by
  simp only[aK,List.cons_append] at h ⊢
  obtain⟨z,h1,h2⟩:=bind_some_inv h
  rw[h1];exact gZ p h2 k
 | j::p,.arr n t,u,v,i,h,k=>by
  simp only[aK,List.cons_append] at h ⊢
  exact gZ p h k
 | j::p,.int _,u,v,i,h,k=>by simp[aK] at h
 | j::p,.bool,u,v,i,h,k=>by simp[aK] at h
 | j::p,.str,u,v,i,h,k=>by simp[aK] at h
 | j::p,.sl _,u,v,i,h,k=>by simp[aK] at h
 | j::p,.tup _,u,v,i,h,k=>by simp[aK] at h
 | j::p,.fn,u,v,i,h,k=>by simp[aK] at h
theorem fY:∀ (p:List Nat) {t u:Ty} {i:Nat},aK t p=some u->aQ t (p++[i])=aQ t p+aQ u [i]
 | [],t,u,i,h=>by
  have:t=u:=by cases t<;>simpa [aK] using h
  subst this
  cases t<;>simp[aQ]
 | j::p,.st ts,u,i,h=>by
  simp only[aK,List.cons_append] at h ⊢
  obtain⟨z,h1,h2⟩:=bind_some_inv h
  simp only[aQ]
  rw[show ts.getD j .bool=z by simp[List.getD,h1],fY p h2,Nat.add_assoc]
 | j::p,.arr n t,u,i,h=>by
  simp only[aK,List.cons_append] at h ⊢
  simp only[aQ]
  rw[fY p h,Nat.add_assoc]
 | j::p,.int _,u,i,h=>by simp[aK] at h
 | j::p,.bool,u,i,h=>by simp[aK] at h
 | j::p,.str,u,i,h=>by simp[aK] at h
 | j::p,.sl _,u,i,h=>by simp[aK] at h
 | j::p,.tup _,u,i,h=>by simp[aK] at h
 | j::p,.fn,u,i,h=>by simp[aK] at h
theorem sG{o:Ob}{p:List Nat}{t u:Ty}{i:Nat}(h:eh o p=some t)(k:aK t [i]=some u):eh o (p++[i])=some u/\ci o (p++[i])=ci o p+aQ t [i]:=by
 cases o with
 | one T v=>simp only[eh,ci] at h ⊢;exact⟨gZ p h k,fY p h⟩
 | many T l=>
  cases p with
  | nil=>simp[eh] at h
  | cons j p=>simp only[eh,ci,List.cons_append] at h ⊢;exact⟨gZ p h k,by rw[fY p h,Nat.add_assoc]⟩
 | mp kt vt l=>simp[eh] at h
 | lp i q=>simp[eh] at h
theorem ub(hE:EnvOk P E)(h:Rp w0 S γ β s a w){dst T x f ty pos after guard}:gM P E w0 S γ β s a w ⟨dst,.fieldAddr T x f,ty,pos,after,guard⟩:=by
 intro R K r hq
 simp only[qv] at hq
 replace hq:=bind_some_inv hq;obtain⟨t,ht,hq⟩:=hq
 have hx:=aM h x
 generalize s.opA x=y at *
 cases t<;>(try simp only at hq)<;>first|cases hq|skip
 rename_i ts
 cases y<;>(try simp only at hq)<;>first|cases hq|skip
 case ptr t' id p=>
  split at hq<;>first|cases hq|skip
  rename_i hb
  have:=Ty.eq_of_beq _ _ hb;subst this
  replace hq:=bind_some_inv hq;obtain⟨u,hu,hq⟩:=hq
  obtain⟨b,off,hv,hγ,hob⟩:=mR hx
  rcases hE.lay T _ ht with⟨ts',dZ⟩|hl
  ·cases dZ
  refine⟨_,hq,.value (v:=.pointer (some ⟨b,off+Ty.sizes (ts.take f),none⟩)) (w':=w) (by simp only[execOp,hv,Sem.run_bind,oE hl hu,Result.andThen_ok,Sem.run_pure]) (Qp.same h (gb hγ fun o ho=>?_) _)⟩
  obtain⟨k1,rfl⟩:=hob o ho
  have:=sG (i:=f) (u:=u) k1 (by simp[aK,hu])
  exact⟨this.1,by rw[this.2];simp[aQ]⟩
 case fptr t' z=>
  split at hq<;>first|cases hq|skip
  rename_i hb
  have:=Ty.eq_of_beq _ _ hb;subst this
  replace hq:=bind_some_inv hq;obtain⟨u,hu,hq⟩:=hq
  replace hq:=bind_some_inv hq;obtain⟨z',hz,hq⟩:=hq
  obtain⟨k1,k0,b,off,hv,k2⟩:=tg hx
  rcases hE.lay T _ ht with⟨ts',dZ⟩|hl
  ·cases dZ
  have hg:z.get [f]=some z':=by simp[D.get,hz]
  obtain⟨m1,A,B,m2,m3⟩:=gq [f] k1 k0 (show aK (.st ts) [f]=some u by simp[aK,hu]) hg
  rw[m2] at k2
  have k3:=k2.part
  rw[m3] at k3
  refine⟨_,hq,.value (v:=.pointer (some ⟨b,off+Ty.sizes (ts.take f),none⟩)) (w':=w) (by simp only[execOp,hv,Sem.run_bind,oE hl hu,Result.andThen_ok,Sem.run_pure]) (Qp.same h (kP m1 (bH (by simpa [am] using k0) hu) ?_) _)⟩
  simpa [aQ] using k3
theorem jt{T:TypeId}{n:Nat}{e:Ty}(hl:bh P (.arr n e) T=true){kk:IntKind}{k:Nat}(hk:k<n)(b off:Nat)(w:World) :
  (Instr.indexAt T (.pointer (some ⟨b,off,none⟩)) (.int kk k)).run P w=.ok (.pointer (some ⟨b,off+k*e.size,none⟩)) w:=by
 obtain⟨u,h1,h2⟩:=dj hl
 have hk':(0:Int)<=(k:Int)/\(k:Int)<(n:Int):=by omega
 simp only[Instr.indexAt,asIntOf,pure_bind,Sem.run_bind,run_underlying h1,Result.andThen_ok,jg,Sem.run_pure,hk',and_self,if_true,bG h2,cD,Int.toNat_natCast]
theorem j3{T:TypeId}{e:Ty}(hl:bh P (.sl e) T=true){kk:IntKind}{k len cap:Nat}(hk:k<len)(b off:Nat)(w:World) :
  (Instr.indexAt T (.slice (some ⟨b,off,none⟩) len cap) (.int kk k)).run P w=.ok (.pointer (some ⟨b,off+k*e.size,none⟩)) w:=by
 obtain⟨u,h1,h2⟩:=gt hl
 have hk':(0:Int)<=(k:Int)/\(k:Int)<(len:Int):=by omega
 simp only[Instr.indexAt,asIntOf,pure_bind,Sem.run_bind,run_underlying h1,Result.andThen_ok,Sem.run_pure,hk',and_self,if_true,bG h2,cD,Int.toNat_natCast]
theorem AL{c:Cx}{t:Ty}{id:Nat}{v:Value}(h:AR c (.mem t id) v):am t=true/\∃ b,c.γ id=some b/\∀ o,c.ob id=some o->∃ l,o=.many t l/\v=.slice (some ⟨b,0,none⟩) l.length l.length:=by
 simp only[AR,AC] at h
 obtain⟨h1,h2,b,h3,h4⟩:=h
 refine⟨h2,b,h3,fun o ho=>?_⟩
 obtain⟨l,k1,k2⟩:=h4 o ho
 exact⟨l,k1,au h1 k2⟩
theorem il{c:Cx}{ob:Nat->Option Ob}{e:Ty}{y:AV}{v:Value}{l:List D}(hn:am e=true)(h:AR c y v)(hl:y.asList ob e=some l):(∀ x∈l,wt e x)/\CR c.w c.S (.sl l) v:=by
 unfold AV.asList at hl
 obtain⟨x,h1,h2⟩:=bind_some_inv hl
 have:=AY h2;subst this
 obtain⟨k1,k2⟩:=kQ (t:=.sl e) (by simpa [am] using hn) h h1
 simp only[wt] at k1
 obtain⟨l',e1,k3⟩:=k1
 cases e1
 exact⟨k3,k2.sl_inv⟩
theorem uc(hE:EnvOk P E)(h:Rp w0 S γ β s a w){dst T x i ty pos after guard}:gM P E w0 S γ β s a w ⟨dst,.indexAddr T x i,ty,pos,after,guard⟩:=by
 intro R K r hq
 simp only[qv] at hq
 replace hq:=bind_some_inv hq;obtain⟨t,ht,hq⟩:=hq
 replace hq:=bind_some_inv hq;obtain⟨ix,hix,hq⟩:=hq
 have hi:=dh hix
 have hi2:=aM h i
 rw[hi] at hi2
 have hx:=aM h x
 generalize s.opA x=y at *
 cases t<;>(try simp only at hq)<;>first|cases hq|skip
 case arr n e=>
  rcases hE.lay T _ ht with⟨ts',dZ⟩|hl
  ·cases dZ
  cases y<;>(try simp only at hq)<;>first|cases hq|skip
  case ptr t' id p=>
   split at hq<;>first|cases hq|skip
   rename_i hb
   have:=Ty.eq_of_beq _ _ hb;subst this
   replace hq:=bind_some_inv hq;obtain⟨k,hk,hq⟩:=hq
   obtain⟨kk,hk1,hk2⟩:=mf hk
   rw[hk1] at hi2
   obtain⟨kD,_⟩:=dL hi2
   obtain⟨b,off,hv,hγ,hob⟩:=mR hx
   refine⟨_,hq,.value (v:=.pointer (some ⟨b,off+k*e.size,none⟩)) (w':=w) (by simp only[execOp,hv,kD,Sem.run_bind,jt hl hk2,Result.andThen_ok,Sem.run_pure]) (Qp.same h (gb hγ fun o ho=>?_) _)⟩
   obtain⟨k1,rfl⟩:=hob o ho
   have:=sG (i:=k) (u:=e) k1 (by cases e<;>simp[aK])
   exact⟨this.1,by rw[this.2];cases e<;>simp[aQ]⟩
  case fptr t' z=>
   split at hq<;>first|cases hq|skip
   rename_i hb
   have:=Ty.eq_of_beq _ _ hb;subst this
   replace hq:=bind_some_inv hq;obtain⟨k,hk,hq⟩:=hq
   replace hq:=bind_some_inv hq;obtain⟨z',hz,hq⟩:=hq
   obtain⟨kk,hk1,hk2⟩:=mf hk
   rw[hk1] at hi2
   obtain⟨kD,_⟩:=dL hi2
   obtain⟨k1,k0,b,off,hv,k2⟩:=tg hx
   have hg:z.get [k]=some z':=by simp[D.get,hz]
   obtain⟨m1,A,B,m2,m3⟩:=gq [k] k1 k0 (show aK (.arr n e) [k]=some e by cases e<;>simp[aK]) hg
   rw[m2] at k2
   have k3:=k2.part
   rw[m3] at k3
   refine⟨_,hq,.value (v:=.pointer (some ⟨b,off+k*e.size,none⟩)) (w':=w) (by simp only[execOp,hv,kD,Sem.run_bind,jt hl hk2,Result.andThen_ok,Sem.run_pure]) (Qp.same h (kP m1 (by simpa [am] using k0) ?_) _)⟩
   have:aQ (.arr n e) [k]=k*e.size:=by cases e<;>simp[aQ]
   rwa [this] at k3
 case sl e=>
  rcases hE.lay T _ ht with⟨ts',dZ⟩|hl
  ·cases dZ
  have hne:am e=true:=by have:=aB _ _ hl;simpa [am] using this
  by_cases hm:∃ t' id,y=.mem t' id
  ·obtain⟨t',id,rfl⟩:=hm
   simp only at hq
   split at hq<;>first|cases hq|skip
   rename_i hb
   have:=Ty.eq_of_beq _ _ hb;subst this
   split at hq<;>first|cases hq|skip
   rename_i u l hob
   replace hq:=bind_some_inv hq;obtain⟨k,hk,hq⟩:=hq
   obtain⟨kk,hk1,hk2⟩:=mf hk
   rw[hk1] at hi2
   obtain⟨kD,_⟩:=dL hi2
   obtain⟨_,b,hγ,hob2⟩:=AL hx
   obtain⟨l',e1,hv⟩:=hob2 _ hob
   cases e1
   refine⟨_,hq,.value (v:=.pointer (some ⟨b,0+k*t'.size,none⟩)) (w':=w) (by simp only[execOp,hv,kD,Sem.run_bind,j3 hl hk2,Result.andThen_ok,Sem.run_pure]) (Qp.same h (gb hγ fun o ho=>?_) _)⟩
   have:o=.many t' l:=by have:=hob.symm.trans ho;cases this;rfl
   subst this
   exact⟨by cases t'<;>simp[eh,aK],by cases t'<;>simp[ci,aQ]⟩
  ·have hq':(y.asList s.ob e).bind (fun l=>(ix.2.idx l.length).bind fun k=>(l[k]?).bind fun y=>K (.fptr e y))=some r:=by
    cases y<;>first|exact hq|exact absurd ⟨_,_,rfl⟩ hm
   obtain⟨l,h1,hq⟩:=bind_some_inv hq'
   replace hq:=bind_some_inv hq;obtain⟨k,hk,hq⟩:=hq
   replace hq:=bind_some_inv hq;obtain⟨z,hz,hq⟩:=hq
   obtain⟨kk,hk1,hk2⟩:=mf hk
   rw[hk1] at hi2
   obtain⟨kD,_⟩:=dL hi2
   obtain⟨k1,k2⟩:=il hne hx h1
   obtain⟨A,cap,b,off,hv,k3,k4,k5⟩:=k2.elems
   have hA:A=some ⟨b,off,none⟩:=by
    rcases k3 with rfl|k3
    ·simp at hz
    ·exact k3
   rw[bK hz] at k5
   have k6:=k5.part
   rw[aA hne _ (fun x hx=>k1 x (List.mem_of_mem_take hx)),List.length_take,Nat.min_eq_left (Nat.le_of_lt hk2)] at k6
   exact⟨_,hq,.value (v:=.pointer (some ⟨b,off+k*e.size,none⟩)) (w':=w) (by simp only[execOp,hv,hA,kD,Sem.run_bind,j3 hl hk2,Result.andThen_ok,Sem.run_pure]) (Qp.same h (kP (k1 z (List.mem_of_getElem? hz)) hne k6) _)⟩
theorem fP{T:TypeId}{t:Ty}(hl:bh P t T=true){cs:Array Value}{pre mid post:List Value}(hcs:cs.toList=pre++(mid++post))(hm:mid.length=t.size)(hn:nag mid)(w:World) :
  ∃ v,(part T cs pre.length).run P w=.ok v w/\fg t mid v:=by
 have e:cs=(pre++(mid++post)).toArray:=by rw[<-hcs]
 subst e
 unfold part
 rw[Sem.run_bind,yK hl,Result.andThen_ok]
 cases ha:cn t
 ·have h1:mid.length=1:=by
   rw[hm]
   cases t<;>simp[cn] at ha<;>first|rfl|(exfalso;exact rY hl (.inl ⟨_,rfl⟩))
  match mid,h1 with
  | [c],_=>
   have h2:=hn c (by simp)
   refine⟨c,?_,?_,?_,?_⟩
   ·simp
   ·cases c<;>simp_all [Value.cells,Value.oneCell']
   ·rw[ha];intro h;cases h
   ·intro _ xs h;subst h;simp[Value.oneCell'] at h2
 ·refine⟨.agg mid.toArray,?_,rfl,fun _=>⟨_,rfl⟩,by rw[ha];intro h;cases h⟩
  simp only[if_true,Sem.run_bind,bG hl,Result.andThen_ok,Sem.run_pure]
  congr 2
  rw[<-hm]
  simp
theorem B6(hE:EnvOk P E)(h:Rp w0 S γ β s a w){dst T x f ty pos after guard}:gM P E w0 S γ β s a w ⟨dst,.field T x f,ty,pos,after,guard⟩:=by
 intro R K r hq
 simp only[qv] at hq
 replace hq:=bind_some_inv hq;obtain⟨t,ht,hq⟩:=hq
 have hx:=aM h x
 generalize s.opA x=y at *
 cases t<;>(try simp only at hq)<;>first|cases hq|skip
 rename_i ts
 cases y<;>(try simp only at hq)<;>first|cases hq|skip
 rename_i t' z
 split at hq<;>first|cases hq|skip
 rename_i hb
 have:=Ty.eq_of_beq _ _ hb;subst this
 replace hq:=bind_some_inv hq;obtain⟨u,hu,hq⟩:=hq
 replace hq:=bind_some_inv hq;obtain⟨z',hz,hq⟩:=hq
 rcases hE.lay T _ ht with⟨ts',dZ⟩|hl
 ·cases dZ
 have hn:=aB _ _ hl
 obtain⟨k1,k2⟩:=uI hx hn
 have hg:z.get [f]=some z':=by simp[D.get,hz]
 obtain⟨m1,A,B,m2,m3⟩:=gq [f] k1 hn (show aK (.st ts) [f]=some u by simp[aK,hu]) hg
 obtain⟨k3,k4⟩:=k2
 rw[m2] at k4
 obtain⟨k5,k6⟩:=k4.split
 obtain⟨k7,k8⟩:=k6.split
 obtain⟨fs,h1,h2⟩:=gu hl
 obtain⟨g,h3,h4,_,h6⟩:=oY h2 hu
 have hnu:=aB _ _ h6
 obtain⟨cs,hcs⟩:∃ cs,a.eval x=.agg cs:=by
  simp only[wt] at k1;obtain⟨l,rfl,_⟩:=k1;exact k3
 rw[hcs] at k5 k6 k7 k8
 simp only[Value.cells] at k5 k6 k7 k8
 obtain⟨v,hrun,hval⟩:=fP h6 (cs:=cs) (pre:=cs.toList.take A.length) (mid:=(cs.toList.drop A.length).take z'.flat.length) (post:=(cs.toList.drop A.length).drop z'.flat.length)
  (by simp only[List.take_append_drop]) (by rw[<-k7.1];exact bT _ _ m1 hnu) k7.nag w
 have hoff:g.offset=(cs.toList.take A.length).length:=by rw[<-k5.1,m3,h4];simp[aQ]
 have h3':fs[f]?=some g:=by simpa using h3
 exact⟨_,hq,.value (v:=v) (w':=w) (by simp only[execOp,hcs,Instr.field,Sem.run_bind,run_underlying h1,Result.andThen_ok,h3',asAgg,Sem.run_pure,hoff,hrun]) (Qp.same h (rB (bo _ _) (by simp only[AC];exact⟨m1,hnu,k7⟩) hval) _)⟩
theorem B7(hE:EnvOk P E)(h:Rp w0 S γ β s a w){dst T x i ty pos after guard}:gM P E w0 S γ β s a w ⟨dst,.index T x i,ty,pos,after,guard⟩:=by
 intro R K r hq
 simp only[qv] at hq
 replace hq:=bind_some_inv hq;obtain⟨t,ht,hq⟩:=hq
 replace hq:=bind_some_inv hq;obtain⟨ix,hix,hq⟩:=hq
 have hi:=dh hix
 have hi2:=aM h i
 rw[hi] at hi2
 have hx:=aM h x
 generalize s.opA x=y at *
 cases t<;>(try simp only at hq)<;>first|cases hq|skip
 case str=>
  cases y<;>(try simp only at hq)<;>first|cases hq|skip
  rename_i t' z
  split at hq<;>first|cases hq|skip
  rename_i hb
  have:=Ty.eq_of_beq _ _ hb;subst this
  replace hq:=bind_some_inv hq;obtain⟨z',hz,hq⟩:=hq
  rcases hE.lay T _ ht with⟨ts',dZ⟩|hl
  ·cases dZ
  obtain⟨k1,k2⟩:=uI hx rfl
  simp only[wt] at k1
  obtain⟨sb,rfl⟩:=k1
  obtain⟨kt,kx⟩:=ix
  cases kx<;>(try simp only[D.strAt] at hz)<;>first|cases hz|skip
  rename_i k n
  obtain⟨bb,hb1,hb2⟩:=bind_some_inv hz
  simp only[Option.some.injEq] at hb2
  subst hb2
  obtain⟨kD,_⟩:=dL hi2
  have hsv:a.eval x=.string sb:=by
   obtain⟨c1,c2⟩:=k2
   obtain⟨c,e,h⟩:=cw.single' c2
   have:=au c1 e
   rw[this];cases h;rfl
  have hu:P.underlying T=some .string:=by
   simp only[bh,Bool.and_eq_true] at hl
   have h2:=hl.2
   split at h2
   ·assumption
   ·cases h2
  exact⟨_,hq,.value (v:=.int .u8 bb.toNat) (w':=w) (by simp only[execOp,hsv,kD,Instr.index,asIntOf,pure_bind,Sem.run_bind,run_underlying hu,Result.andThen_ok,hb1,Sem.run_pure]) (Qp.same h (ck _ _) _)⟩
 rename_i n e
 cases y<;>(try simp only at hq)<;>first|cases hq|skip
 rename_i t' z
 split at hq<;>first|cases hq|skip
 rename_i hb
 have:=Ty.eq_of_beq _ _ hb;subst this
 replace hq:=bind_some_inv hq;obtain⟨k,hk,hq⟩:=hq
 replace hq:=bind_some_inv hq;obtain⟨z',hz,hq⟩:=hq
 obtain⟨kk,hk1,hk2⟩:=mf hk
 rw[hk1] at hi2
 obtain⟨kD,_⟩:=dL hi2
 rcases hE.lay T _ ht with⟨ts',dZ⟩|hl
 ·cases dZ
 have hn:=aB _ _ hl
 obtain⟨k1,k2⟩:=uI hx hn
 have hg:z.get [k]=some z':=by simp[D.get,hz]
 obtain⟨m1,A,B,m2,m3⟩:=gq [k] k1 hn (show aK (.arr n e) [k]=some e by cases e<;>simp[aK]) hg
 obtain⟨k3,k4⟩:=k2
 rw[m2] at k4
 obtain⟨k5,k6⟩:=k4.split
 obtain⟨k7,k8⟩:=k6.split
 obtain⟨u,h1,h6⟩:=dj hl
 have hnu:=aB _ _ h6
 obtain⟨cs,hcs⟩:∃ cs,a.eval x=.agg cs:=by
  simp only[wt] at k1;obtain⟨l,rfl,_⟩:=k1;exact k3
 rw[hcs] at k5 k6 k7 k8
 simp only[Value.cells] at k5 k6 k7 k8
 obtain⟨v,hrun,hval⟩:=fP h6 (cs:=cs) (pre:=cs.toList.take A.length) (mid:=(cs.toList.drop A.length).take z'.flat.length) (post:=(cs.toList.drop A.length).drop z'.flat.length)
  (by simp only[List.take_append_drop]) (by rw[<-k7.1];exact bT _ _ m1 hnu) k7.nag w
 have hoff:k*e.size=(cs.toList.take A.length).length:=by rw[<-k5.1,m3];cases e<;>simp[aQ]
 have hk':(0:Int)<=(k:Int)/\(k:Int)<(n:Int):=by omega
 exact⟨_,hq,.value (v:=v) (w':=w) (by simp only[execOp,hcs,kD,Instr.index,asIntOf,pure_bind,Sem.run_bind,run_underlying h1,Result.andThen_ok,hk',and_self,if_true,bG h6,Int.toNat_natCast,hoff,hrun,Sem.run_pure]) (Qp.same h (rB (bo _ _) (by simp only[AC];exact⟨m1,hnu,k7⟩) hval) _)⟩
end
end Sy
end
noncomputable section
namespace Sy
open Go
def yu:BinOp->Bool
 | .eql|.neq|.lss|.leq|.gtr|.geq=>true
 | _=>false
section
variable{P:Program}{E:Env}{w0:Root}{S:Nat->Nat->Prop}{γ:Nat->Option Nat}{β:Nat->Option (Nat×Nat)}{s:St}{a:Act}{w:World}
theorem Ey{op:BinOp}{k k':IntKind}{x y:Int}{z:D}(T:TypeId)(w:World)(h:D.bin op (.int k x) (.int k' y)=some z) :
  (yu op=true/\∃ c,z=.bool c/\(binOp op T (.int k x) (.int k' y)).run P w=.ok (.bool c) w)\/(yu op=false/\∃ n,z=.int k n/\(binOp op T (.int k x) (.int k' y)).run P w=.ok (.int k n) w):=by
 cases op<;>simp only[D.bin,D.bitOp] at h
 case shl=>
     split at h<;>first|(cases h;done)|skip
     rename_i hy
     simp only[Option.some.injEq] at h
     exact .inr ⟨rfl,_,h.symm,by simp[binOp,Op.shift,hy]⟩
 case shr=>
     split at h<;>first|(cases h;done)|skip
     rename_i hy
     simp only[Option.some.injEq] at h
     exact .inr ⟨rfl,_,h.symm,by simp[binOp,Op.shift,hy]⟩
 case quo=>
  split at h<;>first|(cases h;done)|skip
  rename_i hk;subst hk
  split at h<;>first|(cases h;done)|skip
  rename_i hy;simp only[Option.some.injEq] at h
  exact .inr ⟨rfl,_,h.symm,by simp[binOp,Op.intDiv,hy]⟩
 case rem=>
  split at h<;>first|(cases h;done)|skip
  rename_i hk;subst hk
  split at h<;>first|(cases h;done)|skip
  rename_i hy;simp only[Option.some.injEq] at h
  exact .inr ⟨rfl,_,h.symm,by simp[binOp,Op.intDiv,hy]⟩
 all_goals (split at h<;>first|(cases h;done)|skip)
 all_goals (rename_i hk;subst hk)
 all_goals (simp only[Option.some.injEq] at h)
 all_goals first
  | (refine .inl ⟨rfl,_,h.symm,?_⟩;simp[binOp,Op.intCmp];done)
  | (refine .inr ⟨rfl,_,h.symm,?_⟩;simp[binOp,Op.intArith];done)
  | (refine .inr ⟨rfl,_,h.symm,?_⟩;simp only[binOp,ne_eq,not_true_eq_false,if_false];rfl)
theorem dW(op:BinOp)(T:TypeId)(x y:Operand)(k k':IntKind)(u v:Int)(w:World):(eqGuard op T x y (.int k u) (.int k' v)).run P w=.ok () w:=by cases op<;>simp[eqGuard]
theorem iF(op:BinOp)(T:TypeId)(x y:Operand)(u v:Bool)(w:World):(eqGuard op T x y (.bool u) (.bool v)).run P w=.ok () w:=by cases op<;>simp[eqGuard]
theorem dI{t:Ty}{c v:Value}(h:fg t [c] v)(ha:cn t=false):v=c:=au (h.2.2 ha) h.1
theorem ge{t:Ty}{cs:List Value}{v:Value}(h:fg t cs v)(ha:cn t=true):v=.agg cs.toArray:=by
 obtain⟨xs,rfl⟩:=h.2.1 ha
 have:=h.1
 simp only[Value.cells] at this
 rw[<-this]
theorem uP:∀ (n:Nat) {l l':List D},l.length=n->l'.length=n->D.beqs l l'=(List.range n).all fun j=>D.beq (l.getD j (.bool false)) (l'.getD j (.bool false))
 | 0,[],[],_,_=>rfl
 | n+1,x::l,y::l',h,h'=>by
  simp only[D.beqs,List.range_succ_eq_map,List.all_cons,List.all_map]
  rw[uP n (by simpa using h) (by simpa using h')]
  rfl
mutual
theorem lV:∀ (ty:Ty) (T:TypeId) (x y:D) (cx cy:List Value) (vx vy:Value) (d:Nat),bh P ty T=true->bu ty=true->ty.high<=d->wt ty x->wt ty y->cw w S x.flat cx->cw w S y.flat cy->fg ty cx vx->fg ty cy vy ->
  ∀ w',(Op.equalIn d T vx vy).run P w'=.ok (D.beq x y) w'
 | .int k,T,x,y,cx,cy,vx,vy,d,hl,_,hd,hx,hy,rx,ry,ix,iy,w'=>by
  simp only[wt] at hx hy
  obtain⟨n,rfl⟩:=hx
  obtain⟨m,rfl⟩:=hy
  obtain⟨c1,rfl,r1⟩:=rx.single'
  obtain⟨c2,rfl,r2⟩:=ry.single'
  rw[dI ix rfl,dI iy rfl,r1.int_inv,r2.int_inv]
  obtain⟨d,rfl⟩:∃ e,d=e+1:=⟨d-1,by simp only[Ty.high] at hd;omega⟩
  rw[run_equalIn_int w' d T k k n m (gY hl)]
  simp only[D.beq,decide_true,Bool.true_and]
  rfl
 | .bool,T,x,y,cx,cy,vx,vy,d,hl,_,hd,hx,hy,rx,ry,ix,iy,w'=>by
  simp only[wt] at hx hy
  obtain⟨n,rfl⟩:=hx
  obtain⟨m,rfl⟩:=hy
  obtain⟨c1,rfl,r1⟩:=rx.single'
  obtain⟨c2,rfl,r2⟩:=ry.single'
  rw[dI ix rfl,dI iy rfl,r1.bool_inv,r2.bool_inv]
  obtain⟨d,rfl⟩:∃ e,d=e+1:=⟨d-1,by simp only[Ty.high] at hd;omega⟩
  have hu:P.underlying T=some .bool:=by
   simp only[bh,Bool.and_eq_true] at hl
   have h2:=hl.2
   split at h2
   ·rename_i hu;exact hu
   ·cases h2
  rw[run_equalIn_bool' w' d T n m hu]
  rfl
 | .st ts,T,x,y,cx,cy,vx,vy,d,hl,hc,hd,hx,hy,rx,ry,ix,iy,w'=>by
  simp only[wt] at hx hy
  obtain⟨l,rfl,hx⟩:=hx
  obtain⟨l',rfl,hy⟩:=hy
  rw[ge ix rfl,ge iy rfl]
  obtain⟨fs,h1,h2⟩:=gu hl
  have h3:P.fieldsOf T=fs:=by simp[Program.fieldsOf,h1]
  have h4:P.stoodInHeld T=false:=by
   simp only[bh,Bool.and_eq_true,Bool.not_eq_true'] at hl;exact hl.1.1.2
  simp only[Ty.high] at hd
  obtain⟨d,rfl⟩:∃ e,d=e+1:=⟨d-1,by omega⟩
  rw[run_equalIn_struct w' d T _ _ (by rw[h3];exact h1) h4,h3]
  simp only[bu] at hc
  simp only[D.beq]
  simp only[D.flat] at rx ry
  exact oe ts fs.toList 0 l l' [] cx [] cy _ _ d h2 hc (by omega) hx hy rx ry rfl rfl rfl rfl w'
 | .arr n t,T,x,y,cx,cy,vx,vy,d,hl,hc,hd,hx,hy,rx,ry,ix,iy,w'=>by
  simp only[wt] at hx hy
  obtain⟨l,rfl,hxl,hx⟩:=hx
  obtain⟨l',rfl,hyl,hy⟩:=hy
  rw[ge ix rfl,ge iy rfl]
  obtain⟨u,h1,h2⟩:=dj hl
  obtain⟨i,z,h3,h4,_⟩:=ed (fq h2)
  simp only[Ty.high] at hd
  obtain⟨d,rfl⟩:∃ e,d=e+1:=⟨d-1,by omega⟩
  rw[run_equalIn_array w' d _ _ h1 h3]
  simp only[bu] at hc
  simp only[D.beq]
  simp only[D.flat] at rx ry
  have hcell:P.cellsOf u=t.size:=by simp[Program.cellsOf,h3,h4]
  have hn:=aB _ _ h2
  rw[uP n hxl hyl]
  have key:∀ (is:List Nat) (w':World),(∀ j∈is,j<n)->(Op.eqItems d u (P.cellsOf u) cx.toArray cy.toArray is).run P w'=.ok (is.all fun j=>D.beq (l.getD j (.bool false)) (l'.getD j (.bool false))) w':=by
   intro is
   induction is with
   | nil=>intro w' _;simp[Op.eqItems]
   | cons j is ih=>
    intro w' hj
    have hjn:=hj j (by simp)
    have e1:l[j]?=some (l.getD j (.bool false)):=by simp[List.getD,List.getElem?_eq_getElem (hxl ▸ hjn)]
    have e2:l'[j]?=some (l'.getD j (.bool false)):=by simp[List.getD,List.getElem?_eq_getElem (hyl ▸ hjn)]
    generalize l.getD j (.bool false)=dx at *
    generalize l'.getD j (.bool false)=dy at *
    have wx:=hx dx (List.mem_of_getElem? e1)
    have wy:=hy dy (List.mem_of_getElem? e2)
    have rx':=rx
    have ry':=ry
    rw[bK e1] at rx'
    rw[bK e2] at ry'
    obtain⟨p1,p2⟩:=rx'.split
    obtain⟨p3,p4⟩:=p2.split
    obtain⟨q1,q2⟩:=ry'.split
    obtain⟨q3,q4⟩:=q2.split
    have o1:(cx.take (D.flats (l.take j)).length).length=j*t.size:=by
     rw[<-p1.1,aA hn _ (fun x hx'=>hx x (List.mem_of_mem_take hx')),List.length_take,Nat.min_eq_left (by omega)]
    have o2:(cy.take (D.flats (l'.take j)).length).length=j*t.size:=by
     rw[<-q1.1,aA hn _ (fun x hx'=>hy x (List.mem_of_mem_take hx')),List.length_take,Nat.min_eq_left (by omega)]
    obtain⟨v1,r1,i1⟩:=fP h2 (cs:=cx.toArray) (pre:=cx.take (D.flats (l.take j)).length) (mid:=(cx.drop (D.flats (l.take j)).length).take dx.flat.length) (post:=(cx.drop (D.flats (l.take j)).length).drop dx.flat.length)
     (by simp only[List.take_append_drop]) (by rw[<-p3.1];exact bT _ _ wx hn) p3.nag w'
    obtain⟨v2,r2,i2⟩:=fP h2 (cs:=cy.toArray) (pre:=cy.take (D.flats (l'.take j)).length) (mid:=(cy.drop (D.flats (l'.take j)).length).take dy.flat.length) (post:=(cy.drop (D.flats (l'.take j)).length).drop dy.flat.length)
     (by simp only[List.take_append_drop]) (by rw[<-q3.1];exact bT _ _ wy hn) q3.nag w'
    rw[o1,<-hcell] at r1
    rw[o2,<-hcell] at r2
    have r3:=lV t u dx dy _ _ v1 v2 d h2 hc (by omega) wx wy p3 q3 i1 i2 w'
    simp only[Op.eqItems,Sem.run_bind,r1,r2,r3,Result.andThen_ok,List.all_cons]
    have e1':l[j]?.getD (.bool false)=dx:=by rw[e1];rfl
    have e2':l'[j]?.getD (.bool false)=dy:=by rw[e2];rfl
    have ih':=ih w' (fun k hk=>hj k (by simp[hk]))
    simp only[List.getD,e1',e2']
    cases D.beq dx dy
    ·simp
    ·simpa [List.getD] using ih'
  exact key _ w' (fun j hj=>by simpa using hj)
 | .str,_,_,_,_,_,_,_,_,_,hc,_,_,_,_,_,_,_,_=>by simp[bu] at hc
 | .sl _,_,_,_,_,_,_,_,_,_,hc,_,_,_,_,_,_,_,_=>by simp[bu] at hc
 | .tup _,_,_,_,_,_,_,_,_,_,hc,_,_,_,_,_,_,_,_=>by simp[bu] at hc
 | .fn,_,_,_,_,_,_,_,_,_,hc,_,_,_,_,_,_,_,_=>by simp[bu] at hc
theorem oe:∀ (ts:List Ty) (fs:List Field) (off:Nat) (l l':List D) (px cx py cy:List Value) (xs ys:Array Value) (d:Nat),eN P ts fs off=true->jF ts=true->Ty.highs ts<=d->dU ts l->dU ts l'->cw w S (D.flats l) cx->cw w S (D.flats l') cy ->
  xs.toList=px++cx->px.length=off->ys.toList=py++cy->py.length=off->∀ w',(Op.eqFields d xs ys fs).run P w'=.ok (D.beqs l l') w'
 | [],fs,off,l,l',px,cx,py,cy,xs,ys,d,hf,_,_,hx,hy,_,_,_,_,_,_,w'=>by
  simp only[dU] at hx hy
  subst hx;subst hy
  cases fs with
  | nil=>simp[Op.eqFields,D.beqs]
  | cons f fs=>simp[eN] at hf
 | t::ts,[],off,l,l',px,cx,py,cy,xs,ys,d,hf,_,_,hx,hy,_,_,_,_,_,_,w'=>by simp[eN] at hf
 | t::ts,f::fs,off,l,l',px,cx,py,cy,xs,ys,d,hf,hc,hd,hx,hy,rx,ry,ex,lx,ey,ly,w'=>by
  simp only[eN,Bool.and_eq_true,decide_eq_true_eq] at hf
  obtain⟨⟨⟨⟨h1,h2⟩,h3⟩,h4⟩,h5⟩:=hf
  simp only[dU] at hx hy
  obtain⟨dx,l,rfl,hx1,hx2⟩:=hx
  obtain⟨dy,l',rfl,hy1,hy2⟩:=hy
  simp only[D.flats] at rx ry
  obtain⟨p3,p4⟩:=rx.split
  obtain⟨q3,q4⟩:=ry.split
  have hn:=aB _ _ h4
  simp only[jF,Bool.and_eq_true] at hc
  simp only[Ty.highs] at hd
  obtain⟨v1,r1,i1⟩:=fP h4 (cs:=xs) (pre:=px) (mid:=cx.take dx.flat.length) (post:=cx.drop dx.flat.length) (by rw[ex,List.take_append_drop]) (by rw[<-p3.1];exact bT _ _ hx1 hn) p3.nag w'
  obtain⟨v2,r2,i2⟩:=fP h4 (cs:=ys) (pre:=py) (mid:=cy.take dy.flat.length) (post:=cy.drop dy.flat.length) (by rw[ey,List.take_append_drop]) (by rw[<-q3.1];exact bT _ _ hy1 hn) q3.nag w'
  rw[lx,<-h1] at r1
  rw[ly,<-h1] at r2
  have r3:=lV t f.type dx dy _ _ v1 v2 d h4 hc.1 (by omega) hx1 hy1 p3 q3 i1 i2 w'
  have hs1:(cx.take dx.flat.length).length=t.size:=by rw[<-p3.1];exact bT _ _ hx1 hn
  have hs2:(cy.take dy.flat.length).length=t.size:=by rw[<-q3.1];exact bT _ _ hy1 hn
  have ih:=oe ts fs (off+t.size) l l' (px++cx.take dx.flat.length) (cx.drop dx.flat.length) (py++cy.take dy.flat.length) (cy.drop dy.flat.length) xs ys d h5 hc.2 (by omega) hx2 hy2 p4 q4
   (by rw[List.append_assoc,List.take_append_drop];exact ex) (by rw[List.length_append,lx,hs1]) (by rw[List.append_assoc,List.take_append_drop];exact ey) (by rw[List.length_append,ly,hs2]) w'
  simp only[Op.eqFields,h2,ne_eq,not_false_eq_true,if_true,Sem.run_bind,r1,r2,r3,Result.andThen_ok,D.beqs]
  cases D.beq dx dy
  ·simp
  ·simpa using ih
end
theorem B3(hE:EnvOk P E)(h:Rp w0 S γ β s a w){dst op T x y T' ty pos after guard}:gM P E w0 S γ β s a w ⟨dst,.binOp op T x y T',ty,pos,after,guard⟩:=by
 intro R K r hq
 simp only[qv] at hq
 replace hq:=bind_some_inv hq;obtain⟨t,ht,hq⟩:=hq
 replace hq:=bind_some_inv hq;obtain⟨u,hu,hq⟩:=hq
 replace hq:=bind_some_inv hq;obtain⟨v,hv,hq⟩:=hq
 have hx:=aM h x
 have hy:=aM h y
 rw[dh hu] at hx
 rw[dh hv] at hy
 have eqc:∀ (ng:Bool),(u.1.beq t&&v.1.beq t&&bu t)=true->∀ (o:BinOp),(o=.eql/\ng=false)\/(o=.neq/\ng=true) ->
   (execOp a.eval ⟨dst,.binOp o T x y T',ty,pos,after,guard⟩).run P w=.ok (.value (.bool (xor ng (D.beq u.2 v.2)))) w:=by
  intro ng hb o ho
  simp only[Bool.and_eq_true] at hb
  obtain⟨⟨h1,h2⟩,h3⟩:=hb
  have e1:=Ty.eq_of_beq _ _ h1
  have e2:=Ty.eq_of_beq _ _ h2
  rw[e1] at hx
  rw[e2] at hy
  have hl:bh P t T=true:=by
   rcases hE.lay T _ ht with⟨ts',rfl⟩|hl
   ·simp[bu] at h3
   ·exact hl
  have hn:=aB _ _ hl
  obtain⟨k1,k2⟩:=uI hx hn
  obtain⟨m1,m2⟩:=uI hy hn
  have hh:=hE.high T _ ht
  have i1:fg t (a.eval x).cells.toList (a.eval x):=⟨rfl,lz k1 hn k2.1⟩
  have i2:fg t (a.eval y).cells.toList (a.eval y):=⟨rfl,lz m1 hn m2.1⟩
  have r3:=lV t T u.2 v.2 _ _ _ _ 10000 hl h3 (by omega) k1 m1 k2.2 m2.2 i1 i2 w
  cases t<;>simp only[bu] at h3<;>first|cases h3|skip
  case int k=>
   simp only[wt] at k1 m1
   obtain⟨n,e3⟩:=k1
   obtain⟨m,e4⟩:=m1
   rw[e3] at k2 hx ⊢
   rw[e4] at m2 hy ⊢
   have v1:=k2.int_inv
   have v2:=m2.int_inv
   rcases ho with⟨rfl,rfl⟩|⟨rfl,rfl⟩
   ·simp only[execOp,v1,v2,Sem.run_bind,dW,Result.andThen_ok]
    simp[binOp,Op.intCmp,D.beq]
    rfl
   ·simp only[execOp,v1,v2,Sem.run_bind,dW,Result.andThen_ok]
    simp[binOp,Op.intCmp,D.beq]
    rfl
  case bool=>
   simp only[wt] at k1 m1
   obtain⟨n,e3⟩:=k1
   obtain⟨m,e4⟩:=m1
   rw[e3] at k2 hx r3 ⊢
   rw[e4] at m2 hy r3 ⊢
   have v1:=k2.bool_inv
   have v2:=m2.bool_inv
   rw[v1,v2] at r3
   rcases ho with⟨rfl,rfl⟩|⟨rfl,rfl⟩
   ·simp only[execOp,v1,v2,Sem.run_bind,iF,Result.andThen_ok,binOp,Op.equal,Op.maxDepth,r3,Sem.run_pure,Bool.false_xor]
   ·simp only[execOp,v1,v2,Sem.run_bind,iF,Result.andThen_ok,binOp,Op.equal,Op.maxDepth,r3,Sem.run_pure,Bool.true_xor]
  case st ts=>
   obtain⟨xs,e3⟩:=i1.2.1 rfl
   obtain⟨ys,e4⟩:=i2.2.1 rfl
   have hg:P.eqGuardType P.depth T=false:=by simp only[bh,Bool.and_eq_true,Bool.not_eq_true'] at hl;exact hl.1.2
   rw[e3,e4] at r3
   rcases ho with⟨rfl,rfl⟩|⟨rfl,rfl⟩
   ·simp only[execOp,e3,e4,Sem.run_bind,run_eqGuard_agg w _ T x y xs ys hg,Result.andThen_ok,binOp,Op.equal,Op.maxDepth,r3,Sem.run_pure,Bool.false_xor]
   ·simp only[execOp,e3,e4,Sem.run_bind,run_eqGuard_agg w _ T x y xs ys hg,Result.andThen_ok,binOp,Op.equal,Op.maxDepth,r3,Sem.run_pure,Bool.true_xor]
  case arr n e=>
   obtain⟨xs,e3⟩:=i1.2.1 rfl
   obtain⟨ys,e4⟩:=i2.2.1 rfl
   have hg:P.eqGuardType P.depth T=false:=by simp only[bh,Bool.and_eq_true,Bool.not_eq_true'] at hl;exact hl.1.2
   rw[e3,e4] at r3
   rcases ho with⟨rfl,rfl⟩|⟨rfl,rfl⟩
   ·simp only[execOp,e3,e4,Sem.run_bind,run_eqGuard_agg w _ T x y xs ys hg,Result.andThen_ok,binOp,Op.equal,Op.maxDepth,r3,Sem.run_pure,Bool.false_xor]
   ·simp only[execOp,e3,e4,Sem.run_bind,run_eqGuard_agg w _ T x y xs ys hg,Result.andThen_ok,binOp,Op.equal,Op.maxDepth,r3,Sem.run_pure,Bool.true_xor]
 have ints:∀ {z:D} {o:BinOp},D.bin o u.2 v.2=some z->∃ k k' n m,u.2=.int k n/\v.2=.int k' m:=by
  intro z o hz
  cases hu2:u.2<;>rw[hu2] at hz<;>cases hv2:v.2<;>rw[hv2] at hz<;>simp only[D.bin] at hz<;>first|cases hz|skip
  exact⟨_,_,_,_,rfl,rfl⟩
 have main:∀ (o:BinOp) {z:D},D.bin o u.2 v.2=some z->∃ vv,(execOp a.eval ⟨dst,.binOp o T x y T',ty,pos,after,guard⟩).run P w=.ok (.value vv) w ∧
   ((yu o=true->AR ⟨w,S,γ,β,s.ob,s.dead⟩ (.d .bool z) vv)/\(yu o=false->AR ⟨w,S,γ,β,s.ob,s.dead⟩ (.d u.1 z) vv)):=by
  intro o z hz
  obtain⟨k,k',n,m,e1,e2⟩:=ints hz
  rw[e1,e2] at hz
  rw[e1] at hx
  rw[e2] at hy
  obtain⟨v1,t1⟩:=dL hx
  obtain⟨v2,_⟩:=dL hy
  rcases Ey (P:=P) T w hz with⟨h1,c,rfl,h2⟩|⟨h1,c,rfl,h2⟩
  ·refine⟨.bool c,by simp only[execOp,v1,v2,Sem.run_bind,dW,Result.andThen_ok,h2,Sem.run_pure],fun _=>fi c,fun h=>by rw[h1] at h;cases h⟩
  ·refine⟨.int k c,by simp only[execOp,v1,v2,Sem.run_bind,dW,Result.andThen_ok,h2,Sem.run_pure],(fun h=>by rw[h1] at h;cases h),fun _=>by rw[t1];exact ck k c⟩
 cases op<;>simp only at hq
 case eql=>
  split at hq<;>first|cases hq|skip
  rename_i hb
  exact⟨_,hq,.value (eqc false hb .eql (.inl ⟨rfl,rfl⟩)) (Qp.same h (by simp only[Bool.false_xor];exact fi _) _)⟩
 case neq=>
  split at hq<;>first|cases hq|skip
  rename_i hb
  exact⟨_,hq,.value (eqc true hb .neq (.inr ⟨rfl,rfl⟩)) (Qp.same h (by simp only[Bool.true_xor];exact fi _) _)⟩
 all_goals
  replace hq:=bind_some_inv hq;obtain⟨z,hz,hq⟩:=hq
  obtain⟨vv,h1,h2,h3⟩:=main _ hz
  first
   | exact⟨_,hq,.value h1 (Qp.same h (h2 rfl) _)⟩
   | exact⟨_,hq,.value h1 (Qp.same h (h3 rfl) _)⟩
theorem Fq(h:Rp w0 S γ β s a w){dst op T x ty pos after guard}:gM P E w0 S γ β s a w ⟨dst,.unOp op T x,ty,pos,after,guard⟩:=by
 intro R K r hq
 simp only[qv] at hq
 replace hq:=bind_some_inv hq;obtain⟨u,hu,hq⟩:=hq
 replace hq:=bind_some_inv hq;obtain⟨z,hz,hq⟩:=hq
 have hx:=aM h x
 rw[dh hu] at hx
 cases hu2:u.2<;>rw[hu2] at hz hx<;>simp only[D.un] at hz<;>first|cases hz|skip
 case int k n=>
  obtain⟨v1,t1⟩:=dL hx
  cases op<;>simp only[D.bitOp] at hz<;>first|cases hz|skip
  ·exact⟨_,hq,.value (v:=.int k (k.wrap (0-n))) (w':=w) (by simp[execOp,v1,Op.unary,Op.intArith]) (Qp.same h (by rw[t1];exact ck _ _) _)⟩
  ·exact⟨_,hq,.value (v:=.int k (k.wrap (BitVec.ofInt k.bits (if k.signed then -1 else k.max) ^^^ BitVec.ofInt k.bits n).toNat)) (w':=w) (by simp[execOp,v1,Op.unary,Op.intBits]) (Qp.same h (by rw[t1];exact ck _ _) _)⟩
 case bool b=>
  have v1:=xZ hx
  cases op<;>simp only at hz<;>first|cases hz|skip
  have ht:u.1=.bool:=by
   simp only[AR] at hx
   rcases hx with⟨_,h2,_⟩|⟨ts,h1,_,h2,_⟩
   ·cases hu1:u.1<;>rw[hu1] at h2<;>simp only[wt] at h2<;>first
     | rfl
     | (obtain⟨m,h4⟩:=h2;cases h4;done)
     | (obtain⟨m,h4,_⟩:=h2;cases h4;done)
     | (exfalso;exact h2)
   ·rw[h1] at h2;simp only[wt] at h2;obtain⟨l,h4,_⟩:=h2;cases h4
  exact⟨_,hq,.value (v:=.bool (!b)) (w':=w) (by simp[execOp,v1,Op.unary]) (Qp.same h (by rw[ht];exact fi _) _)⟩
theorem xC(hE:EnvOk P E)(h:Rp w0 S γ β s a w){dst U T x ty pos after guard}:gM P E w0 S γ β s a w ⟨dst,.convert U T x,ty,pos,after,guard⟩:=by
 intro R K r hq
 simp only[qv] at hq
 replace hq:=bind_some_inv hq;obtain⟨u,hu,hq⟩:=hq
 replace hq:=bind_some_inv hq;obtain⟨t,ht,hq⟩:=hq
 replace hq:=bind_some_inv hq;obtain⟨b,hb,hq⟩:=hq
 have hx:=aM h x
 rw[dh hb] at hx
 cases t<;>(try simp only at hq)<;>first|cases hq|skip
 rename_i k
 split at hq<;>first|cases hq|skip
 rename_i hbu
 replace hq:=bind_some_inv hq;obtain⟨z,hz,hq⟩:=hq
 cases hb2:b.2<;>rw[hb2] at hz hx<;>simp only[D.conv] at hz<;>first|cases hz|skip
 rename_i k' n
 obtain⟨v1,t1⟩:=dL hx
 have e1:=Ty.eq_of_beq _ _ hbu
 rw[t1] at e1
 rw[<-e1] at hu
 rcases hE.lay T _ ht with⟨ts',dZ⟩|hl
 ·cases dZ
 rcases hE.lay U _ hu with⟨ts',dZ⟩|hl'
 ·cases dZ
 exact⟨_,hq,.value (v:=.int k (k.wrap n)) (w':=w) (by simp[execOp,convert,v1,run_underlying (gY hl),run_underlying (gY hl'),Conv.intToInt]) (Qp.same h (ck _ _) _)⟩
end
end Sy
end
noncomputable section
namespace Sy
open Go
theorem fQ(pre mid post cs:List Value)(h:mid.length=cs.length):de (pre++(mid++post)).toArray pre.length cs.toArray=(pre++(cs++post)).toArray:=by
 unfold de
 apply Array.ext'
 simp[h]
 rw[List.take_of_length_le (by omega)]
theorem lC:∀ {ds:List D} {c1 c2:List Value},cj ds c1=true->cj ds c2=true->c1=c2
 | [],[],[],_,_=>rfl
 | [],_::_,_,h,_=>by simp[cj] at h
 | [],[],_::_,_,h=>by simp[cj] at h
 | _::_,[],_,h,_=>by simp[cj] at h
 | _::_,_::_,[],_,h=>by simp[cj] at h
 | d::ds,v1::c1,v2::c2,q1,q2=>by
  simp only[cj,Bool.and_eq_true] at q1 q2
  rw[lC q1.2 q2.2]
  congr 1
  have a1:=q1.1
  have a2:=q2.1
  cases d<;>cases v1<;>simp only[zv] at a1<;>first|(cases a1;done)|skip
  all_goals (cases v2<;>simp only[zv] at a2<;>first|(cases a2;done)|skip)
  all_goals simp_all
section
variable{w:World}{S:Nat->Nat->Prop}
def PV(w:World)(S:Nat->Nat->Prop)(ty:Nat->Option Ty):List (Nat×D)->List (Nat×Value)->Prop
 | [],[]=>True
 | (i,x)::ps,(j,v)::vs=>i=j/\(∃ t,ty i=some t/\wt t x/\am t=true/\eZ w S x v)/\PV w S ty ps vs
 | _,_=>False
theorem oX{place:Nat->Option (Nat×Nat)}{ty:Nat->Option Ty}{off:Nat->Nat}{Good:List D->Prop}
  (hset:∀ l i t z,Good l->ty i=some t->wt t z->Good (l.set i z))
  (hget:∀ l i t,Good l->ty i=some t->∃ y,l[i]?=some y/\wt t y/\(D.flats (l.take i)).length=off i)
  (hplace:∀ i t,ty i=some t->place i=some (off i,t.size)) :
  ∀ (ps:List (Nat×D)) (vs:List (Nat×Value)) (l:List D) (cs:List Value),Good l->cw w S (D.flats l) cs->PV w S ty ps vs ->
   ∃ cs':List Value,jq place cs.toArray vs=some cs'.toArray/\Good (D.putParts l ps)/\cw w S (D.flats (D.putParts l ps)) cs'
 | [],[],l,cs,hg,hc,_=>⟨cs,rfl,hg,hc⟩
 | [],_::_,_,_,_,_,h=>by simp[PV] at h
 | _::_,[],_,_,_,_,h=>by simp[PV] at h
 | (i,x)::ps,(j,v)::vs,l,cs,hg,hc,h=>by
  simp only[PV] at h
  obtain⟨rfl,⟨t,h1,h2,h3,h4⟩,h5⟩:=h
  obtain⟨y,k1,k2,k3⟩:=hget l i t hg h1
  rw[bK k1] at hc
  obtain⟨c1,c2⟩:=hc.split
  obtain⟨c3,c4⟩:=c2.split
  have e:cs=cs.take (D.flats (l.take i)).length++((cs.drop (D.flats (l.take i)).length).take y.flat.length++(cs.drop (D.flats (l.take i)).length).drop y.flat.length):=by simp only[List.take_append_drop]
  have l1:(cs.take (D.flats (l.take i)).length).length=off i:=by rw[<-c1.1,k3]
  have l2:((cs.drop (D.flats (l.take i)).length).take y.flat.length).length=t.size:=by rw[<-c3.1];exact bT _ _ k2 h3
  have l3:v.cells.toList.length=t.size:=by rw[<-h4.2.1];exact bT _ _ h2 h3
  have hc':cw w S (D.flats (l.set i x)) (cs.take (D.flats (l.take i)).length++(v.cells.toList++(cs.drop (D.flats (l.take i)).length).drop y.flat.length)):=by
   rw[kj k1]
   exact c1.append (h4.2.append c4)
  obtain⟨cs',m1,m2,m3⟩:=oX hset hget hplace ps vs (l.set i x) _ (hset l i t x hg h1 h2) hc' h5
  refine⟨cs',?_,m2,m3⟩
  rw[pQ (hplace i t h1) (by rw[<-Array.length_toList];exact l3) (by rw[<-l1];have:=congrArg List.length e;simp only[List.length_append] at this;simp only[List.size_toArray];omega),<-m1]
  congr 1
  conv=>lhs;rw[e]
  have:=fQ (cs.take (D.flats (l.take i)).length) ((cs.drop (D.flats (l.take i)).length).take y.flat.length) ((cs.drop (D.flats (l.take i)).length).drop y.flat.length) v.cells.toList (by rw[l2,l3])
  rw[l1] at this
  simpa using this
end
section
variable{P:Program}{E:Env}{w0:Root}{S:Nat->Nat->Prop}{γ:Nat->Option Nat}{β:Nat->Option (Nat×Nat)}{s:St}{a:Act}{w:World}
theorem kp(h:Rp w0 S γ β s a w){ty:Nat->Option Ty}(hn:∀ i t,ty i=some t->am t=true):∀ (ps:List (Nat×Operand)) (l:List (Nat×D)),partsD s.ob s ty ps=some l->PV w S ty l (ps.map fun p=>(p.1,a.eval p.2))
 | [],l,hp=>by simp only[partsD,Option.some.injEq] at hp;subst hp;simp[PV]
 | (i,x)::ps,l,hp=>by
  simp only[partsD] at hp
  replace hp:=bind_some_inv hp;obtain⟨t,ht,hp⟩:=hp
  replace hp:=bind_some_inv hp;obtain⟨y,hy,hp⟩:=hp
  replace hp:=bind_some_inv hp;obtain⟨ys,hys,hp⟩:=hp
  simp only[Option.some.injEq] at hp
  subst hp
  obtain⟨k1,k2⟩:=kQ (hn i t ht) (aM h x) hy
  simp only[List.map_cons,PV]
  exact⟨trivial,⟨t,ht,k1,hn i t ht,k2⟩,kp h hn ps ys hys⟩
theorem gL{t:Ty}{T:TypeId}(hl:bh P t T=true):∃ z,(∀ w,(zeroValue T).run P w=.ok z w)/\cj (aF t).flat z.cells.toList=true/\((∃ cs,z=.agg cs)↔cn t=true):=by
 obtain⟨i,z,h1,h2,h3,h4,h5,h6⟩:=ed (fq hl)
 exact⟨z,fun w=>by simp[zeroValue,typeInfo,h1,h4],h5,h6⟩
theorem qH:∀ {ts:List Ty} {fs:List Field} {off:Nat} (w:World),eN P ts fs off=true ->
  ((fs.mapM fun f=>do pure (f.offset,<-sizeOf f.type):Sem (List (Nat×Nat))).run P w=.ok (fs.zipWith (fun f t=>(f.offset,Ty.size t)) ts) w)
 | [],[],_,w,_=>rfl
 | [],_::_,_,_,h=>by simp[eN] at h
 | _::_,[],_,_,h=>by simp[eN] at h
 | t::ts,f::fs,off,w,h=>by
  simp only[eN,Bool.and_eq_true,decide_eq_true_eq] at h
  obtain⟨⟨⟨⟨h1,h2⟩,h3⟩,h4⟩,h5⟩:=h
  simp only[List.mapM_cons,Sem.run_bind,bG h4,Result.andThen_ok,Sem.run_pure,qH w h5,List.zipWith_cons_cons]
theorem Aa:∀ {ts:List Ty} {fs:List Field} {off i:Nat} {t:Ty},eN P ts fs off=true->ts[i]?=some t->(fs.zipWith (fun f t=>(f.offset,Ty.size t)) ts)[i]?=some (off+Ty.sizes (ts.take i),t.size)
 | ts,fs,off,i,t,h,hi=>by
  obtain⟨f,h1,h2,_⟩:=oY h hi
  simp[List.getElem?_zipWith,h1,hi,h2]
theorem mA{T:TypeId}{ts:List Ty}(hl:bh P (.st ts) T=true)(vs:Array (Nat×Value))(w:World){r:List Value}
  (hf:∀ z:Value,cj (aF (.st ts)).flat z.cells.toList=true->jq (fun i=>if i<ts.length then some (Ty.sizes (ts.take i),(ts.getD i .bool).size) else none) z.cells vs.toList=some r.toArray) :
  (Instr.build T vs).run P w=.ok (.agg r.toArray) w:=by
 obtain⟨fs,h1,h2⟩:=gu hl
 obtain⟨z,hz,hz2,_⟩:=gL hl
 have hlen:(fs.toList.zipWith (fun f t=>(f.offset,Ty.size t)) ts).length=ts.length:=by
  have:∀ {ts:List Ty} {fs:List Field} {off:Nat},eN P ts fs off=true->fs.length=ts.length:=by
   intro ts
   induction ts with
   | nil=>intro fs off h;cases fs<;>simp[eN] at h ⊢
   | cons t ts ih=>intro fs off h;cases fs with
    | nil=>simp[eN] at h
    | cons f fs=>simp only[eN,Bool.and_eq_true] at h;simp[ih h.2]
  simp[this h2]
 have hp:(fun i=>(fs.toList.zipWith (fun f t=>(f.offset,Ty.size t)) ts).toArray[i]?)=fun i=>if i<ts.length then some (Ty.sizes (ts.take i),(ts.getD i .bool).size) else none:=by
  funext i
  by_cases hi:i<ts.length
  ·have:=Aa (i:=i) h2 (List.getElem?_eq_getElem hi)
   simp only[Nat.zero_add] at this
   rw[if_pos hi]
   simp only[List.getElem?_toArray,this]
   simp[List.getD,List.getElem?_eq_getElem hi]
  ·rw[if_neg hi]
   simp only[List.getElem?_toArray]
   exact List.getElem?_eq_none (by omega)
 have hm:(fs.mapM fun f=>(do pure (f.offset,<-sizeOf f.type):Sem (Nat×Nat))).run P w=.ok (fs.toList.zipWith (fun f t=>(f.offset,Ty.size t)) ts).toArray w:=by
  rw[<-Array.toArray_toList (xs:=fs),List.mapM_toArray]
  simp only[Sem.run_map,qH w h2,Result.andThen_ok]
 simp only[Instr.build,Sem.run_bind,hz,Result.andThen_ok,run_underlying h1,hm,hp,lX,hf z hz2,Sem.run_pure]
theorem jr(n:Nat)(x:D):D.flats (List.replicate n x)=(List.replicate n x.flat).flatten:=by
 induction n with
 | zero=>rfl
 | succ n ih=>simp only[List.replicate_succ,D.flats,ih,List.flatten_cons]
def FQ(c:Cx)(ts:List Ty):List (Nat×AV)->List (Nat×Value)->Prop
 | [],[]=>True
 | (i,x)::ps,(j,v)::vs=>i=j/\(∃ t,ts[i]?=some t/\AV.fits t x=true/\AC c x v.cells.toList)/\FQ c ts ps vs
 | _,_=>False
theorem vl{c:Cx}{ts:List Ty}(hn:aY ts=true) :
  ∀ (ps:List (Nat×AV)) (vs:List (Nat×Value)) (l:List AV) (cs:List Value),AV.fitss ts l=true->iP c l cs->FQ c ts ps vs ->
   ∃ cs':List Value,jq (fun i=>if i<ts.length then some (Ty.sizes (ts.take i),(ts.getD i .bool).size) else none) cs.toArray vs=some cs'.toArray/\AV.fitss ts (kq l ps)=true/\iP c (kq l ps) cs'
 | [],[],l,cs,hf,hc,_=>⟨cs,rfl,hf,hc⟩
 | [],_::_,_,_,_,_,h=>by simp[FQ] at h
 | _::_,[],_,_,_,_,h=>by simp[FQ] at h
 | (i,x)::ps,(j,v)::vs,l,cs,hf,hc,h=>by
  simp only[FQ] at h
  obtain⟨rfl,⟨t,h1,h2,h3⟩,h5⟩:=h
  obtain⟨y,k1,k2⟩:=pU hf h1
  obtain⟨pre,mid,post,rfl,m1,m2,m3⟩:=oR hf hn hc k1
  have l2:=(fS _ _ _ k2 m2).1
  have l3:=(fS _ _ _ h2 h3).1
  obtain⟨cs',n1,n2,n3⟩:=vl hn ps vs (l.set i x) _ (ki hf h1 h2) (m3 x _ h3) h5
  refine⟨cs',?_,n2,n3⟩
  have hi:=(List.getElem?_eq_some_iff.1 h1).1
  rw[pQ (off:=Ty.sizes (ts.take i)) (size:=t.size) (by rw[if_pos hi];simp[List.getD,h1]) (by rw[<-Array.length_toList];exact l3) (by simp;omega),<-n1]
  congr 1
  have:=fQ pre mid post v.cells.toList (by rw[l2,l3])
  rw[m1] at this
  simpa using this
theorem B4(hE:EnvOk P E)(h:Rp w0 S γ β s a w){dst T ps ty pos after guard}:gM P E w0 S γ β s a w ⟨dst,.build T ps,ty,pos,after,guard⟩:=by
 intro R K r hq
 simp only[qv] at hq
 replace hq:=bind_some_inv hq;obtain⟨t,ht,hq⟩:=hq
 have hex:execOp a.eval ⟨dst,.build T ps,ty,pos,after,guard⟩=(Instr.build T (ps.map fun p=>(p.1,a.eval p.2)) >>= fun v=>pure (.value v)):=rfl
 have hmap:(ps.map fun p=>(p.1,a.eval p.2)).toList=ps.toList.map fun p=>(p.1,a.eval p.2):=by simp
 cases t<;>(try simp only at hq)<;>first|cases hq|skip
 case st ts=>
  rcases hE.lay T _ ht with⟨ts',dZ⟩|hl
  ·cases dZ
  have hn:=aB _ _ hl
  simp only[am] at hn
  split at hq
  ·rename_i hsl
   split at hq<;>first|cases hq|skip
   rename_i hall
   have hpv:∀ (l:List (Nat×Operand)),l.all (eM s ts)=true->FQ ⟨w,S,γ,β,s.ob,s.dead⟩ ts (l.map fun p=>(p.1,s.opA p.2)) (l.map fun p=>(p.1,a.eval p.2)):=by
    intro l
    induction l with
    | nil=>intro _;simp[FQ]
    | cons p l ih=>
     intro hh
     simp only[List.all_cons,Bool.and_eq_true] at hh
     simp only[List.map_cons,FQ]
     refine⟨trivial,?_,ih hh.2⟩
     have h1:=hh.1
     unfold eM at h1
     split at h1<;>first|cases h1|skip
     rename_i u hu
     exact⟨u,hu,h1,(uH h1 (bH hn hu) (aM h p.2)).1⟩
   obtain⟨z,hz,hz2,_⟩:=gL hl
   have hz3:iP ⟨w,S,γ,β,s.ob,s.dead⟩ (ii ts) z.cells.toList:=jo ts _ hn (by simpa [aF,D.flat] using hz2)
   obtain⟨cs',m1,m2,m3⟩:=vl hn _ _ _ _ (g8 ts hn) hz3 (hpv ps.toList hall)
   have hrun:(Instr.build T (ps.map fun p=>(p.1,a.eval p.2))).run P w=.ok (.agg cs'.toArray) w:=by
    obtain⟨fs,h1,h2⟩:=gu hl
    refine mA hl _ w (r:=cs') fun z' hz'=>?_
    have hz4:iP ⟨w,S,γ,β,s.ob,s.dead⟩ (ii ts) z'.cells.toList:=jo ts _ hn (by simpa [aF,D.flat] using hz')
    have:z'.cells=z.cells:=Array.ext' (lC hz' hz2)
    rw[this,hmap,<-m1]
   exact⟨_,hq,.value (v:=.agg cs'.toArray) (w':=w) (by rw[hex];simp only[Sem.run_bind,hrun,Result.andThen_ok,Sem.run_pure]) (Qp.same h (by
    simp only[AR]
    exact⟨⟨_,rfl⟩,by simp only[AC];exact⟨hn,m2,by simpa [Value.cells] using m3⟩⟩) _)⟩
  ·replace hq:=bind_some_inv hq;obtain⟨l,hp,hq⟩:=hq
   have hpv:=kp h (ty:=fun i=>ts[i]?) (fun i t hi=>bH hn hi) _ _ hp
   have main:∀ z:Value,cj (aF (.st ts)).flat z.cells.toList=true->∃ cs':List Value,jq (fun i=>if i<ts.length then some (Ty.sizes (ts.take i),(ts.getD i .bool).size) else none) z.cells (ps.toList.map fun p=>(p.1,a.eval p.2))=some cs'.toArray/\dU ts (D.putParts (eW ts) l)/\cw w S (D.flats (D.putParts (eW ts) l)) cs':=by
    intro z hz
    refine oX (ty:=fun i=>ts[i]?) (off:=fun i=>Ty.sizes (ts.take i)) (Good:=fun l=>dU ts l) (fun l i t z hg hi hz=>uF hg hi hz) (fun l i t hg hi=>?_) (fun i t hi=>?_) l _ (eW ts) z.cells.toList (lD ts hn) (bX (by simpa [aF,D.flat] using hz)) hpv
    ·obtain⟨y,h1,h2⟩:=ga hg hi
     exact⟨y,h1,h2,mM _ _ (mN i hg) (fO i hn)⟩
    ·rw[if_pos (List.getElem?_eq_some_iff.1 hi).1]
     simp only[List.getD,hi,Option.getD_some]
   obtain⟨z,hz,hz2,_⟩:=gL hl
   obtain⟨cs',m1,m2,m3⟩:=main z hz2
   have hrun:(Instr.build T (ps.map fun p=>(p.1,a.eval p.2))).run P w=.ok (.agg cs'.toArray) w:=by
    refine mA hl _ w (r:=cs') fun z' hz'=>?_
    have:z'.cells=z.cells:=Array.ext' (lC hz' hz2)
    rw[this,hmap,<-m1]
   have hw:wt (.st ts) (.st (D.putParts (eW ts) l)):=by simp only[wt];exact⟨_,rfl,m2⟩
   exact⟨_,hq,.value (v:=.agg cs'.toArray) (w':=w) (by rw[hex];simp only[Sem.run_bind,hrun,Result.andThen_ok,Sem.run_pure]) (Qp.same h (df (by simpa [am] using hn) hw ⟨⟨_,rfl⟩,by simpa [Value.cells,D.flat] using m3⟩) _)⟩
 case arr n e=>
  rcases hE.lay T _ ht with⟨ts',dZ⟩|hl
  ·cases dZ
  have hn:=aB _ _ hl
  simp only[am] at hn
  replace hq:=bind_some_inv hq;obtain⟨l,hp,hq⟩:=hq
  have hpv:=kp h (ty:=fun i=>if i<n then some e else none) (fun i t hi=>by split at hi<;>first|(cases hi;exact hn)|cases hi) _ _ hp
  have main:∀ z:Value,cj (aF (.arr n e)).flat z.cells.toList=true->∃ cs':List Value,jq (fun i=>some (i*e.size,e.size)) z.cells (ps.toList.map fun p=>(p.1,a.eval p.2))=some cs'.toArray/\((D.putParts (List.replicate n (aF e)) l).length=n/\∀ x∈D.putParts (List.replicate n (aF e)) l,wt e x)/\cw w S (D.flats (D.putParts (List.replicate n (aF e)) l)) cs':=by
   intro z hz
   refine oX (ty:=fun i=>if i<n then some e else none) (off:=fun i=>i*e.size) (Good:=fun l=>l.length=n/\∀ x∈l,wt e x) (fun l i t z hg hi hz=>?_) (fun l i t hg hi=>?_) (fun i t hi=>?_) l _ (List.replicate n (aF e)) z.cells.toList ⟨by simp,fun x hx=>by rw[(List.mem_replicate.1 hx).2];exact cu e hn⟩ (bX (by simpa [aF,D.flat] using hz)) hpv
   ·split at hi<;>first|cases hi|skip
    refine⟨by simpa using hg.1,fun x hx=>?_⟩
    rcases List.mem_or_eq_of_mem_set hx with h|h
    ·exact hg.2 x h
    ·rw[h];exact hz
   ·split at hi<;>first|cases hi|skip
    rename_i hin
    have hil:i<l.length:=by rw[hg.1];exact hin
    refine⟨l[i],List.getElem?_eq_getElem hil,hg.2 _ (List.getElem_mem hil),?_⟩
    rw[aA hn _ (fun x hx=>hg.2 x (List.mem_of_mem_take hx)),List.length_take,Nat.min_eq_left (by omega)]
   ·split at hi<;>first|cases hi|skip
    rfl
  obtain⟨z,hz,hz2,_⟩:=gL hl
  obtain⟨cs',m1,m2,m3⟩:=main z hz2
  have hrun:(Instr.build T (ps.map fun p=>(p.1,a.eval p.2))).run P w=.ok (.agg cs'.toArray) w:=by
   obtain⟨u,h1,h2⟩:=dj hl
   simp only[Instr.build,Sem.run_bind,hz,Result.andThen_ok,run_underlying h1,bG h2,lX,hmap,m1,Sem.run_pure]
  have hw:wt (.arr n e) (.st (D.putParts (List.replicate n (aF e)) l)):=by simp only[wt];exact⟨_,rfl,m2⟩
  exact⟨_,hq,.value (v:=.agg cs'.toArray) (w':=w) (by rw[hex];simp only[Sem.run_bind,hrun,Result.andThen_ok,Sem.run_pure]) (Qp.same h (df (by simpa [am] using hn) hw ⟨⟨_,rfl⟩,by simpa [Value.cells,D.flat] using m3⟩) _)⟩
theorem xD(h:Rp w0 S γ β s a w){dst x i ty pos after guard}:gM P E w0 S γ β s a w ⟨dst,.extract x i,ty,pos,after,guard⟩:=by
 intro R K r hq
 simp only[qv] at hq
 have hx:=aM h x
 generalize s.opA x=y at *
 split at hq<;>first|cases hq|skip
 rename_i ts z
 replace hq:=bind_some_inv hq;obtain⟨u,hu,hq⟩:=hq
 replace hq:=bind_some_inv hq;obtain⟨z',hz,hq⟩:=hq
 simp only[AR] at hx
 rcases hx with⟨h1,_⟩|⟨ts',e,hn,h2,h3⟩
 ·simp[am] at h1
 ·cases e
  simp only[wt] at h2
  obtain⟨l,rfl,hw⟩:=h2
  simp only[D.tupAt] at hz
  simp only[DR] at h3
  obtain⟨vs,hv,hlen,hvs⟩:=h3
  have hi:i<vs.length:=by rw[<-hlen];exact(List.getElem?_eq_some_iff.1 hz).1
  obtain⟨z2,k1,k2⟩:=ga hw hu
  rw[hz] at k1;cases k1
  have hv2:=hvs i z' vs[i] hz (List.getElem?_eq_getElem hi)
  exact⟨_,hq,.value (v:=vs[i]) (w':=w) (by simp[execOp,Instr.extract,hv,hi]) (Qp.same h (df (bH hn hu) k2 hv2) _)⟩
theorem wl(h:Rp w0 S γ β s a w){dst fn first captured ty pos after guard}:gM P E w0 S γ β s a w ⟨dst,.makeFunc fn first captured,ty,pos,after,guard⟩:=by
 intro R K r hq
 simp only[qv] at hq
 split at hq<;>first|cases hq|skip
 rename_i f
 split at hq<;>first|cases hq|skip
 rename_i hf
 have e:first=#[]:=Array.eq_empty_of_size_eq_zero hf.1
 refine⟨_,hq,.value (v:=.func (.func f) #[] (captured.map a.eval)) (w':=w) (by simp[execOp,Instr.makeFunc,e]) (Qp.same h ?_ _)⟩
 simp only[AR,AC]
 refine⟨by simp,(captured.toList.map a.eval),by rw[show captured.map a.eval=(captured.toList.map a.eval).toArray from Array.ext' (by simp)];simp[Value.cells],?_⟩
 have h2:=hf.2
 clear hf hq
 generalize captured.toList=l at *
 induction l with
 | nil=>simp[kI]
 | cons x l ih=>
  simp only[List.all_cons,Bool.and_eq_true] at h2
  simp only[List.map_cons,kI]
  refine⟨_,_,rfl,?_,ih h2.2⟩
  have h3:=h2.1
  have h4:=aM h x
  cases hx:s.opA x<;>rw[hx] at h3 h4<;>simp only[eP] at h3<;>first|(cases h3;done)|skip
  simp only[AR] at h4
  obtain⟨k1,k2⟩:=h4
  have:(a.eval x).cells.toList=[a.eval x]:=by
   cases hv:a.eval x<;>simp[Value.cells]
   exact absurd hv (k1 _)
  rwa [this] at k2
end
end Sy
end
noncomputable section
namespace Sy
open Go
theorem ff{α:Type}(l:List α):∀ (n i:Nat),i<n*l.length->((List.replicate n l).flatten)[i]?=l[i%l.length]?
 | 0,i,h=>by omega
 | n+1,i,h=>by
  rw[List.replicate_succ,List.flatten_cons,List.getElem?_append]
  by_cases hi:i<l.length
  ·rw[if_pos hi,Nat.mod_eq_of_lt hi]
  ·rw[if_neg hi,ff l n (i-l.length) (by rw[Nat.add_mul] at h;omega)]
   rw[<-Nat.mod_eq_sub_mod (by omega)]
theorem tf{w:World}{S:Nat->Nat->Prop}{e:Ty}{zc:Array Value}{m:Nat}(hz:cj (aF e).flat zc.toList=true)(hs:zc.size=m)(n:Nat) :
  cw w S (D.flats (List.replicate n (aF e))) ((Array.range (n*m)).map fun i=>zc[i%zc.size]!).toList:=by
 have h0:=bX (w:=w) (S:=S) hz
 have hl:(aF e).flat.length=m:=by rw[h0.1];simpa using hs
 refine⟨by rw[jr];simp[hl],fun i d c hd hc=>?_⟩
 rw[jr] at hd
 have hi:i<n*m:=by have:=(List.getElem?_eq_some_iff.1 hc).1;simpa using this
 rw[ff _ _ _ (by rw[hl];exact hi),hl] at hd
 have hm:0<m:=by
  rcases Nat.eq_zero_or_pos m with h|h
  ·subst h;omega
  ·exact h
 have him:i%m<zc.size:=by rw[hs];exact Nat.mod_lt _ hm
 refine h0.2 (i%m) d c hd ?_
 simp only[Array.toList_map,List.getElem?_map,Array.toList_range,List.getElem?_range hi,Option.map_some,Option.some.injEq] at hc
 rw[<-hc,hs]
 simp[him]
section
variable{P:Program}{E:Env}{w0:Root}{S:Nat->Nat->Prop}{γ:Nat->Option Nat}{β:Nat->Option (Nat×Nat)}{s:St}{a:Act}{w:World}
theorem pd{c:Array Value}{t:TypeId}:bw (grown w [.cells c t] w.drawn) w.heap.size=some c:=by
 rw[<-dt];exact qE w _ rfl
theorem wv{c:Array Value}{t:TypeId}{d:Nat}:bw (grown w [.cells c t] d) w.heap.size=some c:=by
 have:=pd (w:=w) (c:=c) (t:=t)
 rw[show bw (grown w [.cells c t] d) w.heap.size=bw (grown w [.cells c t] w.drawn) w.heap.size from rfl];exact this
theorem zr{c:Array Value}{t:TypeId}{d:Nat}(j:Nat):(grown w [.cells c t] d).cell? ⟨w.heap.size,j,none⟩=c[j]?:=cF _ wv j
theorem t7(h:Rp w0 S γ β s a w){v:Nat}(hv:β v=none)(hi:v<s.base+4096){e:Ty}(hn:am e=true){l:List D}(hl:∀ x∈l,wt e x){cs:List Value}(hc:cw w S (D.flats l) cs){T:TypeId}{rest:List Value}{cap:Nat}(d:Nat)(hdr:w.drawn<=d)(hcap:l.length<=cap)(hrest:cs.length+rest.length=cap*e.size) :
  ∃ S' β',Rp w0 S' γ β' s a (grown w [.cells (cs++rest).toArray T] d)/\AR ⟨grown w [.cells (cs++rest).toArray T] d,S',γ,β',s.ob,s.dead⟩ (.own e v l) (.slice (some ⟨w.heap.size,0,none⟩) l.length cap) ∧
   (∀ b o,S b o->S' b o)/\(∀ u,u≠v->β' u=β u)/\β' v=some (w.heap.size,l.length*e.size)/\(∀ b o,S' b o->S b o\/b=w.heap.size):=by
 let S':Nat->Nat->Prop:=fun b o=>S b o\/(b=w.heap.size/\o<l.length*e.size)
 have hSz:∀ b o,S' b o->S b o\/(w.heap.size<=b/\b<(grown w [.cells (cs++rest).toArray T] d).heap.size):=fun b o hb=>by
  rcases hb with hb|⟨rfl,_⟩
  ·exact .inl hb
  ·exact .inr ⟨Nat.le_refl _,by simp⟩
 obtain⟨h1,le1⟩:=h.grow (os:=[.cells (cs++rest).toArray T]) (d:=d) hdr (S':=S') (fun b o hb=>.inl hb) hSz
 have hw0:¬ w0.Old w.heap.size:=fun ho=>by have:=ho.1;have:=h.ext.sz;omega
 obtain⟨h2,le2⟩:=h1.newTok (v:=v) (b:=w.heap.size) (e:=l.length*e.size) hv hw0 (by simp) (fun id hid=>by have:=(h.γn id _ hid).2;omega) (fun u f hu hf=>by have:=(h.βn u _ _ hu hf).2.1;omega) hi
  (fun o ho hs=>hs.elim (fun hs=>by have:=h.Sb _ _ hs;omega) fun hs=>by omega)
 refine⟨S',mQ β v (w.heap.size,l.length*e.size),h2,?_,fun b o hb=>.inl hb,fun u hu=>bI β _ hu,bn β _ _,fun b o hb=>hb.imp id fun hh=>hh.1⟩
 have hlen:cs.length=l.length*e.size:=by rw[<-hc.1];exact aA hn l hl
 simp only[AR,AC,Value.cells]
 refine⟨by simp,hn,hl,_,cap,rfl,?_,fun _=>.inr ⟨w.heap.size,0,rfl,by simp[bn],(cs++rest).length,?_,?_⟩⟩
 ·refine CR.of_elems (b:=w.heap.size) (off:=0) (.inr rfl) hcap ⟨cs,hc.mono le1.cell le1.S,fun i c hci=>?_⟩
  have hi:=(List.getElem?_eq_some_iff.1 hci).1
  refine⟨.inr ⟨rfl,by omega⟩,?_⟩
  rw[zr]
  simp only[List.getElem?_toArray,Nat.zero_add]
  rw[List.getElem?_append_left hi];exact hci
 ·simp[kF,wv]
 ·simp;omega
theorem rt(hE:EnvOk P E)(h:Rp w0 S γ β s a w){dst T n ps ty pos after guard}(hf:Fr E s γ β ⟨dst,.buildSlice T n ps,ty,pos,after,guard⟩):gM P E w0 S γ β s a w ⟨dst,.buildSlice T n ps,ty,pos,after,guard⟩:=by
 intro R K r hq
 simp only[qv] at hq
 replace hq:=bind_some_inv hq;obtain⟨t,ht,hq⟩:=hq
 cases t<;>(try simp only at hq)<;>first|(cases hq;done)|skip
 rename_i e
 rcases hE.lay T _ ht with⟨ts',dZ⟩|hl
 ·cases dZ
 have hn:=aB _ _ hl
 simp only[am] at hn
 split at hq<;>first|(cases hq;done)|skip
 rename_i hn4
 replace hq:=bind_some_inv hq;obtain⟨d,hd,hq⟩:=hq
 replace hq:=bind_some_inv hq;obtain⟨l,hp,hq⟩:=hq
 obtain⟨hd4,hγ,hβ,_⟩:=hf rfl d hd
 have hpv:=kp h (ty:=fun i=>if i<n then some e else none) (fun i t hi=>by split at hi<;>first|(cases hi;exact hn)|cases hi) _ _ hp
 obtain⟨u,h1,h2⟩:=gt hl
 obtain⟨z,hz,hz2,_⟩:=gL h2
 obtain⟨i0,z0,hi1,hi2,kD,_⟩:=ed (fq h2)
 have hzs:z.cells.size=e.size:=by
  have:=(bX (w:=w) (S:=S) hz2).1
  rw[<-Array.length_toList,<-this];exact bT _ _ (cu e hn) hn
 have hzero:cw w S (D.flats (List.replicate n (aF e))) ((Array.range (n*e.size)).map fun i=>z.cells[i%z.cells.size]!).toList:=tf hz2 hzs n
 obtain⟨cs',m1,m2,m3⟩:=oX (place:=fun i=>some (i*e.size,e.size)) (ty:=fun i=>if i<n then some e else none) (off:=fun i=>i*e.size) (Good:=fun l=>l.length=n/\∀ x∈l,wt e x) (fun l i t z hg hi hz=>by
   split at hi<;>first|(cases hi;done)|skip
   have:e=t:=by injection hi
   subst this
   refine⟨by simpa using hg.1,fun x hx=>?_⟩
   rcases List.mem_or_eq_of_mem_set hx with h|h
   ·exact hg.2 x h
   ·rw[h];exact hz) (fun l i t hg hi=>by
   split at hi<;>first|(cases hi;done)|skip
   rename_i hin
   have:e=t:=by injection hi
   subst this
   have hil:i<l.length:=by rw[hg.1];exact hin
   refine⟨l[i],List.getElem?_eq_getElem hil,hg.2 _ (List.getElem_mem hil),?_⟩
   rw[aA hn _ (fun x hx=>hg.2 x (List.mem_of_mem_take hx)),List.length_take,Nat.min_eq_left (by omega)]) (fun i t hi=>by
   split at hi<;>first|(cases hi;done)|skip
   have:e=t:=by injection hi
   subst this
   rfl) l _ (List.replicate n (aF e)) _ ⟨by simp,fun x hx=>by rw[(List.mem_replicate.1 hx).2];exact cu e hn⟩ hzero hpv
 obtain⟨S',β',k1,k2,k3,k4,k5,_⟩:=t7 h (v:=s.base+d) hβ (by omega) hn m2.2 m3 (T:=u) (rest:=[]) (cap:=n) w.drawn (Nat.le_refl _) (by rw[m2.1];exact Nat.le_refl _) (by rw[List.length_nil,Nat.add_zero,<-m3.1,aA hn _ m2.2,m2.1])
 have hsz:¬ n*e.size>2^24:=by
  have:n*e.size<=4096*4096:=Nat.mul_le_mul hn4 kD.2
  omega
 have hmap:(ps.map fun p=>(p.1,a.eval p.2)).toList=ps.toList.map fun p=>(p.1,a.eval p.2):=by simp
 have hrun:(Instr.buildSlice T n (ps.map fun p=>(p.1,a.eval p.2))).run P w=.ok (.slice (some ⟨w.heap.size,0,none⟩) n n) (grown w [.cells cs'.toArray u] w.drawn):=by
  have key:∀ zc:Array Value,((Array.range (n*e.size)).map fun i=>zc[i%zc.size]!)=((Array.range (n*e.size)).map fun i=>z.cells[i%z.cells.size]!) ->
    jq (fun i=>some (i*e.size,e.size)) ((Array.range (n*e.size)).map fun i=>zc[i%zc.size]!) (ps.map fun p=>(p.1,a.eval p.2)).toList=some cs'.toArray:=fun zc hzc=>by
   rw[hzc,hmap];rw[Array.toArray_toList] at m1;exact m1
  by_cases h0:n*e.size=0
  ·have k0:=key #[] (by simp[h0])
   simp only[Instr.buildSlice,Sem.run_bind,run_underlying h1,Result.andThen_ok,bG h2,hsz,if_false,if_pos h0,pure_bind,lX,k0,newRow,run_newObj,Sem.run_pure]
   rw[<-dt]
   rfl
  ·have k0:=key z.cells rfl
   simp only[Instr.buildSlice,Sem.run_bind,run_underlying h1,Result.andThen_ok,bG h2,hsz,if_false,if_neg h0,bind_pure_comp,Sem.run_map,hz,pure_bind,lX,k0,newRow,run_newObj,Sem.run_pure]
   rw[<-dt]
   rfl
 have hex:execOp a.eval ⟨dst,.buildSlice T n ps,ty,pos,after,guard⟩=(Instr.buildSlice T n (ps.map fun p=>(p.1,a.eval p.2)) >>= fun v=>pure (.value v)):=rfl
 rw[List.append_nil,m2.1] at *
 refine⟨_,hq,.value (by rw[hex];simp only[Sem.run_bind,hrun,Result.andThen_ok,Sem.run_pure]) ⟨S',γ,β',k1,k2,k3,⟨_,_,rfl⟩,fun _ _ hh=>hh,fun id hid=>⟨rfl,k4 id fun hh=>?_⟩⟩⟩
 subst hh
 rcases hid with hid|hid
 ·rw[hd] at hid;exact hid (by rw[Nat.add_sub_cancel_left])
 ·omega
end
end Sy
end
end Go.Proofs.YtpahompifldeeaaGreat
