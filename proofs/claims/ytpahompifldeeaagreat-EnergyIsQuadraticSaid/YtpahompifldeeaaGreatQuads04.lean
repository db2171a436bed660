/- Part 4 of the proof that For every valid body with few parts -/
import Derived.Test.YtpahompifldeeaaGreatQuads03
import Derived.RangeFuncSeq
import Derived.RangeFuncRecord
import Derived.RangeFuncNested
set_option linter.unusedVariables false
set_option linter.unusedSimpArgs false
set_option linter.unnecessarySimpa false
set_option linter.defProp false
set_option maxRecDepth 20000
namespace Go.Proofs.YtpahompifldeeaaGreat
noncomputable section
namespace Sy
open Go
open Go.ChangeMaps (setBlock)
variable{ro:Option Nat}{nn:Nat}
def mh{c c':Cx}(hw:∀ b o,c.S b o->c'.w.cell? ⟨b,o,none⟩=c.w.cell? ⟨b,o,none⟩)(hS:∀ b o,c.S b o->c'.S b o){x:AV}{v:Value}(h:AR c x v):AR c' x.still v:=by
 cases x<;>simp only[AV.still]<;>try (simp only[AR];done)
 case d t x=>
  simp only[AR] at h ⊢;rcases h with⟨k1,k2,k3⟩|⟨ts,k1,k0,k2,k3⟩
  ·exact .inl ⟨k1,k2,k3.mono hw hS⟩
  ·exact .inr ⟨ts,k1,k0,k2,k3.mono hw hS⟩
 case own t u l=>
  simp only[AR,AC] at h;obtain⟨h0,hn,h1,a,cap,h2,h3,_⟩:=h;refine dX (by simpa only[au] using hn) (by simp only[wt];exact⟨l,rfl,h1⟩) ?_
  have hv:v=.slice a l.length cap:=az h0 h2;subst hv;exact gj.of_CR (h3.mono hw hS)
 case fptr t x=>
  simp only[AR,AC] at h ⊢;obtain⟨h0,h1,h2,b,off,h3,h4⟩:=h;exact⟨h0,h1,h2,b,off,h3,h4.mono hw hS⟩
section
variable{P:Program}{E:Env}{w0:Root}{S S':Nat->Nat->Prop}{γ γ':Nat->Option Nat}{β β' β'':Nat->Option (Nat×Nat)}{s sc:St}{a:Act}{w w':World}
def yQ{o':Ob}{x:Option Ob}(h:kE x (some o')=true):∃ o,x=some o/\∀ p,fB o' p=fB o p/\cE o' p=cE o p:=by
 cases x with
 | none=>simp[kE] at h
 | some o=>
  refine⟨o,rfl,λp=>?_⟩;cases o<;>cases o'<;>simp only[kE] at h<;>first|(cases h;done)|skip
  ·have:=Ty.eq_of_beq _ _ h;subst this;exact⟨rfl,rfl⟩
  ·have:=Ty.eq_of_beq _ _ h;subst this;cases p<;>exact⟨rfl,rfl⟩
  ·exact⟨rfl,rfl⟩
def xw{v:Nat}(h:v∈du s):v ∉ s.dead/\∃ t ty l,t<s.nt/\s.tm t=.own ty v l:=by
 unfold du at h;obtain⟨t,h1,h2⟩:=z0c.1 h;split at h2<;>first|(cases h2;done)|skip
 rename_i ty u l ht;split at h2<;>first|(cases h2;done)|skip
 rename_i hd;cases h2;exact⟨by simpa using hd,t,ty,l,zJa.1 h1,ht⟩
def wW{v t:Nat}{ty:Ty}{l:List D}(h1:t<s.nt)(h2:s.tm t=.own ty v l)(h3:v ∉ s.dead):v∈du s:=by
 grind [du]
def zh{t:Ty}{id:Nat}{p:List Nat}{cs:List Value}{dead dead':List Nat}(hg:∀ id b,γ id=some b->γ' id=some b)(hl:kE (s.ob id) (sc.ob id)=true)(h:AC ⟨w,S,γ,β,s.ob,dead⟩ (.ptr t id p) cs):AC ⟨w',S',γ',β'',sc.ob,dead'⟩ (.ptr t id p) cs:=by
 simp only[AC] at h ⊢;obtain⟨b,off,e,k1,k2⟩:=h;refine⟨b,off,e,hg _ _ k1,λo ho=>?_⟩;rw[ho] at hl;obtain⟨o0,q1,q2⟩:=yQ (o':=o) hl
 simp_all
theorem vG{dead dead':List Nat}(hg:∀ id b,γ id=some b->γ' id=some b):∀ (l:List AV) (cs:List Value),l.all (FG s.ob sc.ob)=true->mX ⟨w,S,γ,β,s.ob,dead⟩ l cs->mX ⟨w',S',γ',β'',sc.ob,dead'⟩ l cs
 | [],cs,_,h=>by simpa only[mX] using h
 | x::l,cs,hp,h=>by
  simp only[zKb,zaa] at hp;simp only[mX] at h ⊢;obtain⟨v,c2,rfl,k1,k2⟩:=h;refine⟨v,c2,rfl,?_,vG hg l c2 hp.2 k2⟩;cases x<;>simp only[FG] at hp<;>first|(cases hp.1;done)|skip
  exact zh hg hp.1 k1
def Je{n:Nat}{tk:List Nat}(hcell:∀ b o,S b o->w'.cell? ⟨b,o,none⟩=w.cell? ⟨b,o,none⟩)(hsub:∀ b o,S b o->S' b o)(hg:∀ id b,γ id=some b->γ' id=some b)
  {x:AV} {v:Value} (htok:∀ t u l,x=.own t u l->u ∉ s.dead->u∈tk/\β'' (n+tk.idxOf u)=β u/\∀ b e,β u=some (b,e)->∀ m,mU w b=some m->mU w' b=some m)
  (h:AR ⟨w,S,γ,β,s.ob,s.dead⟩ x v):AR ⟨w',S',γ',β'',sc.ob,sc.dead⟩ (pY s sc n tk x) v:=by
 cases x with
 | d t y=>exact mh (c:=⟨w,S,γ,β,s.ob,s.dead⟩) (x:=.d t y) hcell hsub h
 | fptr t y=>exact mh (c:=⟨w,S,γ,β,s.ob,s.dead⟩) (x:=.fptr t y) hcell hsub h
 | own t u l=>
  simp only[pY];split
  ·exact mh (c:=⟨w,S,γ,β,s.ob,s.dead⟩) (x:=.own t u l) hcell hsub h
  ·rename_i hd;have hd':u ∉ s.dead:=by simpa using hd
   obtain⟨k0,k1,k2⟩:=htok t u l rfl hd';simp only[AR,AC] at h ⊢;obtain⟨h0,h1,h2,A,cap,h3,h4,h5⟩:=h;refine⟨h0,h1,h2,A,cap,h3,h4.mono hcell hsub,λ_=>?_⟩;rcases h5 hd' with h6|⟨b,off,h6,h7,m,h8,h9⟩
   ·exact .inl h6
   ·exact .inr ⟨b,off,h6,k1.trans h7,m,k2 b _ h7 m h8,h9⟩
 | nils=>simpa only[pY,AR,AC] using h
 | ptr t id p=>
  simp only[pY];split
  ·rename_i hl;simp only[AR] at h ⊢;exact⟨h.1,zh hg hl h.2⟩
  ·simp only[AR]
 | mem t id=>simp only[pY,AR]
 | st ts l=>simp only[pY,AR]
 | clo f l=>
  simp only[pY];split
  ·rename_i hl;simp only[AR,AC] at h ⊢;obtain⟨h0,caps,h1,h2⟩:=h;exact⟨h0,caps,h1,vG hg l caps hl h2⟩
  ·simp only[AR]
 | map kt vt id=>
  simp only[pY];split
  ·rename_i hl;simp only[AR,AC] at h ⊢;obtain⟨h0,b,e,k1,k2,k3,k4⟩:=h;refine⟨h0,b,e,hg _ _ k1,k2,k3,λo ho=>?_⟩;cases hs:s.ob id with
   | none=>rw[hs,ho] at hl;simp[kE] at hl
   | some o0=>
    obtain⟨l,rfl⟩:=k4 o0 hs;rw[hs,ho] at hl;cases o<;>simp only[kE] at hl<;>first|(cases hl;done)|skip
    simp only[zaa] at hl;have e1:=Ty.eq_of_beq _ _ hl.1;have e2:=Ty.eq_of_beq _ _ hl.2
    simp_all
  ·simp only[AR]
 | yld id=>
  grind [pY,AR,AC]
 | sub sl t id p lo n=>simp only[pY,AR]
 | gone=>simp only[pY,AR]
 | undef=>simp only[pY,AR]
def BW(h:Rp w0 S γ β s a w){tk:List Nat}{sh:Nat->Prop}(htkd:tk=du s)(hsh:sh=λb=>(∃ id,γ id=some b)\/∃ v e,v ∉ tk++s.dead/\β v=some (b,e)){sI:St}{aI:Act}
  (hob:∀ j o,sI.ob j=some o->s.ob j=some o) (hfr:sI.fresh=s.fresh+1) (hdd:sI.dead=tk++s.dead) (hnt:aI.tmps.size=sI.nt) (htmu:∀ t,sI.nt<=t->sI.tm t=.undef)
  (htms:∀ t,t<aI.tmps.size->AR ⟨w,S,γ,β,sI.ob,tk++s.dead⟩ (sI.tm t) (aI.tmps.getD t undef)):Rp ⟨w,S,sh⟩ S γ β sI aI w:=by
 have ndd:∀ {u},u ∉ tk++s.dead->u ∉ s.dead:=λhu hh=>hu (zjb _ hh);have hb:sI.base=(s.fresh+1)*4096:=by simp only[St.base,hfr]
 have hb0:s.base+4096=(s.fresh+1)*4096:=by simp only[St.base];omega
 have le0:Cx.le ⟨w,S,γ,β,s.ob,s.dead⟩ ⟨w,S,γ,β,sI.ob,tk++s.dead⟩:=
  ⟨λ_ _ _=>rfl,λ_ _ hb=>hb,λ_ _ hb=>hb,λid o ho _=>⟨o,hob _ _ ho,λp=>⟨rfl,rfl⟩,λt l e=>⟨l,e,rfl⟩,λ_ _ l e=>⟨l,e⟩⟩,λu hu=>⟨ndd hu,λb e he=>⟨he,λn hn=>hn⟩⟩⟩
 refine⟨⟨rfl,rfl,rfl,zja _,zja _,λ_ _=>rfl⟩,λt ht=>by rw[hdd];exact htms t ht,hnt,htmu,λid o b ho hb=>?_,λid b hb=>⟨λho=>ho.2 (by show sh b;rw[hsh];exact .inl ⟨id,hb⟩),(h.γn id b hb).2⟩,h.γi,λid hid=>h.γf id ?_,λu b e hu he=>?_,λu u' b e e' hu hu'=>h.βi u u' b e e' (ndd (hdd ▸ hu)) (ndd (hdd ▸ hu')),λu id b e hu=>h.βγ u id b e (ndd (hdd ▸ hu)),λu hu=>h.βf u ?_,h.Sb,λb o hb _=>hb⟩
 ·rw[hdd];exact(h.obs id o b (hob _ _ ho) hb).mono le0 rfl λ_ hh=>hh
 ·omega
 ·have hu':u ∉ tk++s.dead:=hdd ▸ hu;obtain⟨k1,k2,k3⟩:=h.βn u b e (ndd hu') he;exact⟨λho=>ho.2 (by show sh b;rw[hsh];exact .inr ⟨u,e,hu',he⟩),k2,k3⟩
 ·omega
def Br(h:Rp w0 S γ β s a w){tk:List Nat}{sh:Nat->Prop}(htkd:tk=du s)(hsh:sh=λb=>(∃ id,γ id=some b)\/∃ v e,v ∉ tk++s.dead/\β v=some (b,e))(htk:tk.length<=4096){a':Act}
  (n1:Rp ⟨w,S,sh⟩ S' γ' β' sc a' w') (nsub:∀ b o,S b o->S' b o) (ncell:∀ b o,S b o->w'.cell? ⟨b,o,none⟩=w.cell? ⟨b,o,none⟩) (ngam:∀ id b,γ id=some b->γ' id=some b) (nsz:w.heap.size<=w'.heap.size) :
  ∃ β'',Rp w0 S' γ' β'' (nV s sc) a w'/\Cx.le ⟨w',S',γ',β',sc.ob,sc.dead⟩ ⟨w',S',γ',β'',sc.ob,sc.dead⟩:=by
 have tkm:∀ u,u∈tk->u ∉ s.dead:=λu hu=>by rw[htkd] at hu;exact(xw hu).1
 have ndd:∀ {u},u ∉ tk++s.dead->u ∉ s.dead:=λhu hh=>hu (zjb _ hh);have hshn:∀ b,sh b->¬ w0.Old b:=λb hb=>by
  rw[hsh] at hb;rcases hb with⟨id,hb⟩|⟨u,e,hu,hb⟩
  ·exact(h.γn id b hb).1
  ·exact(h.βn u b e (ndd hu) hb).1
 have old1:∀ b,w0.Old b->(Root.mk w S sh).Old b:=λb hb=>⟨zPa hb.1 h.ext.sz,λhh=>hshn b hh hb⟩;have tkOld:∀ u∈tk,∀ b e,β u=some (b,e)->(Root.mk w S sh).Old b:=λu hu b e hb=>by
  refine⟨(h.βn u b e (tkm u hu) hb).2.1,λhh=>?_⟩;have hh:sh b:=hh;rw[hsh] at hh;rcases hh with⟨id,hh⟩|⟨u',e',hu',hh⟩
  ·exact h.βγ u id b e (tkm u hu) hb hh
  ·have:=h.βi u u' b e e' (tkm u hu) (ndd hu') hb hh
   simp_all
 obtain⟨n,hn⟩:∃ n,n=(sc.fresh+1)*4096:=⟨_,rfl⟩;have hscb:sc.base+4096=n:=by rw[hn];simp only[St.base];omega
 obtain⟨β'',hβ⟩:∃ β'':Nat->Option (Nat×Nat),β''=λu=>if n<=u then(tk[u-n]?).bind (λx=>if tk.idxOf x=u-n then β x else none) else β' u:=⟨_,rfl⟩
 have bge:∀ u b e,n<=u->β'' u=some (b,e)->∃ x∈tk,u=n+tk.idxOf x/\β x=some (b,e):=λu b e hu he=>by
  grind
 have blt:∀ u,u<n->β'' u=β' u:=λu hu=>by grind
 have bix:∀ x∈tk,β'' (n+tk.idxOf x)=β x:=λx hx=>by
  have hlt:tk.idxOf x<tk.length:=List.idxOf_lt_length_of_mem hx
  simp_all
 have hle:Cx.le ⟨w',S',γ',β',sc.ob,sc.dead⟩ ⟨w',S',γ',β'',sc.ob,sc.dead⟩:=
  ⟨λ_ _ _=>rfl,λ_ _ hb=>hb,λ_ _ hb=>hb,λid o ho _=>⟨o,ho,λp=>⟨rfl,rfl⟩,λt l e=>⟨l,e,rfl⟩,λ_ _ l e=>⟨l,e⟩⟩,λu hu=>⟨hu,λb e he=>⟨(by
   have he':β' u=some (b,e):=he;show β'' u=some (b,e);rcases zna u n with hlt|hge
   ·simp_all
   ·rw[n1.βf u (by omega)] at he';cases he'),λm hm=>hm⟩⟩⟩
 have nOld:∀ b,¬ (Root.mk w S sh).Old b->¬ w0.Old b:=λb hb hh=>hb (old1 b hh);refine⟨β'',⟨⟨n1.ext.tape.trans h.ext.tape,n1.ext.os.trans h.ext.os,n1.ext.output.trans h.ext.output,zAa h.ext.sz n1.ext.sz,zAa h.ext.dr n1.ext.dr,λb hb=>(n1.ext.old b (old1 b hb)).trans (h.ext.old b hb)⟩,λt ht=>?_,h.nt,λt ht=>?_,λid o b ho hb=>(n1.obs id o b ho hb).mono hle rfl λ_ hh=>hh,λid b hb=>⟨nOld b (n1.γn id b hb).1,(n1.γn id b hb).2⟩,n1.γi,λid hid=>n1.γf id ?_,λu b e hu he=>?_,λu u' b e e' hu hu' he he'=>?_,λu id b e hu he=>?_,λu hu=>?_,n1.Sb,λb o hb hlt=>h.So b o (n1.So b o hb (old1 b hlt)) hlt⟩,hle⟩
 ·have htn:t<s.nt:=by rw[<-h.nt];exact ht
  simp only[nV,if_pos htn];rw[<-htkd,<-hn];refine Je ncell nsub ngam (λty u l hx hu=>?_) (h.tms t ht);have hm:u∈tk:=by rw[htkd];exact wW htn hx hu
  refine⟨hm,bix u hm,λb e he m hm'=>?_⟩;have:=n1.ext.old b (tkOld u hm b e he);simp only[mU,bN] at hm' ⊢;grind
 ·have ht':s.nt<=t:=ht;simp only[nV];grind
 ·have hid':(sc.fresh+1)*4096+4096<=id:=hid;omega
 ·rcases zna u n with hlt|hge
  ·rw[blt u hlt] at he;obtain⟨q1,q2,q3⟩:=n1.βn u b e hu he;grind
  ·obtain⟨x,hx,_,he⟩:=bge u b e hge he;obtain⟨q1,q2,q3⟩:=h.βn x b e (tkm x hx) he;exact⟨q1,zPa q2 nsz,λo ho hs=>q3 o ho (n1.So b o hs (tkOld x hx b e he))⟩
 ·rcases zna u n with hlt|hge
  ·rcases zna u' n with hlt'|hge'
   ·rw[blt u hlt] at he;rw[blt u' hlt'] at he';exact n1.βi u u' b e e' hu hu' he he'
   ·rw[blt u hlt] at he;obtain⟨x,hx,_,he'⟩:=bge u' b e' hge' he';exact absurd (tkOld x hx b e' he') (n1.βn u b e hu he).1
  ·obtain⟨x,hx,ex,he⟩:=bge u b e hge he;rcases zna u' n with hlt'|hge'
   ·rw[blt u' hlt'] at he';exact absurd (tkOld x hx b e he) (n1.βn u' b e' hu' he').1
   ·obtain⟨x',hx',ex',he'⟩:=bge u' b e' hge' he';have:=h.βi x x' b e e' (tkm x hx) (tkm x' hx') he he';grind
 ·rcases zna u n with hlt|hge
  ·rw[blt u hlt] at he;exact n1.βγ u id b e hu he
  ·obtain⟨x,hx,ex,he⟩:=bge u b e hge he;exact λhid=>(n1.γn id b hid).1 (tkOld x hx b e he)
 ·have hu':(sc.fresh+1)*4096+4096<=u:=hu;all_goals grind
end
end Sy
end
noncomputable section
namespace Sy
open Go
open Go.ChangeMaps (setBlock)
variable{ro:Option Nat}{nn:Nat}
section
variable{P:Program}{E:Env}{w0:Root}{S:Nat->Nat->Prop}{γ:Nat->Option Nat}{β:Nat->Option (Nat×Nat)}{s:St}{a:Act}{w:World}
mutual
theorem AC.anyOb{c:Cx}(ob':Nat->Option Ob):∀ (x:AV) (t:Ty) (cs:List Value),AV.fits t x=true->AC c x cs->AC ⟨c.w,c.S,c.γ,c.β,ob',c.dead⟩ x cs
 | .d t' x,t,cs,_,h=>by simpa only[AC] using h
 | .own t' v l,t,cs,_,h=>by simpa only[AC,VI] using h
 | .nils,t,cs,_,h=>by simpa only[AC] using h
 | .st ts' l,t,cs,hf,h=>by
  cases t<;>simp only[AV.fits] at hf<;>first|cases hf|skip
  rename_i ts;simp only[zaa] at hf;simp only[AC] at h ⊢;exact⟨h.1,h.2.1,kr.anyOb ob' l ts cs hf.2 h.2.2⟩
 | .ptr ..,t,cs,hf,_=>by cases t<;>simp[AV.fits] at hf
 | .fptr ..,t,cs,hf,_=>by cases t<;>simp[AV.fits] at hf
 | .mem ..,t,cs,hf,_=>by cases t<;>simp[AV.fits] at hf
 | .clo ..,t,cs,hf,_=>by cases t<;>simp[AV.fits] at hf
 | .map ..,t,cs,hf,_=>by cases t<;>simp[AV.fits] at hf
 | .sub ..,t,cs,hf,_=>by cases t<;>simp[AV.fits] at hf
 | .yld ..,t,cs,hf,_=>by cases t<;>simp[AV.fits] at hf
 | .gone,t,cs,hf,_=>by cases t<;>simp[AV.fits] at hf
 | .undef,t,cs,hf,_=>by cases t<;>simp[AV.fits] at hf
theorem kr.anyOb{c:Cx}(ob':Nat->Option Ob):∀ (l:List AV) (ts:List Ty) (cs:List Value),AV.fitss ts l=true->kr c l cs->kr ⟨c.w,c.S,c.γ,c.β,ob',c.dead⟩ l cs
 | [],ts,cs,_,h=>by simpa only[kr] using h
 | a::l,ts,cs,hf,h=>by
  cases ts<;>simp only[AV.fitss] at hf<;>first|cases hf|skip
  simp only[zaa] at hf;simp only[kr] at h ⊢;obtain⟨c1,c2,rfl,h1,h2⟩:=h;exact⟨c1,c2,rfl,AC.anyOb ob' a _ c1 hf.1 h1,kr.anyOb ob' l _ c2 hf.2 h2⟩
end
theorem iA.anyOb{c:Cx}{ob':Nat->Option Ob}{kt vt:Ty}:∀ {j:Nat} {l:List D} {es:List MapEntry},iA c kt vt j l es->iA ⟨c.w,c.S,c.γ,c.β,ob',c.dead⟩ kt vt j l es
 | _,[],[],_=>trivial
 | _,[],_::_,k=>k.elim
 | _,_::_,[],k=>k.elim
 | j,x::l,e::es,k=>by
  simp only[iA] at k ⊢;exact⟨k.1,iA.anyOb k.2⟩
def jB.anyOb{c:Cx}(ob':Nat->Option Ob){x:AV}{v:Value}(h:jB c x v):jB ⟨c.w,c.S,c.γ,c.β,ob',c.dead⟩ x v:=jB.mono (c:=c) (c':=⟨c.w,c.S,c.γ,c.β,ob',c.dead⟩) (λ_ _ _=>rfl) (λ_ _ h=>h) (λ_ _ h=>h) h
theorem gL.anyOb{c:Cx}(ob':Nat->Option Ob){b:Nat}{o:Ob}(h:gL c b o):gL ⟨c.w,c.S,c.γ,c.β,ob',c.dead⟩ b o:=by
 cases o<;>simp only[gL] at h ⊢
 case one t v=>
  obtain⟨h1,h2,h3,cs,h4,h5,h6⟩:=h;exact⟨h1,h2,h3,cs,h4,AC.anyOb ob' v t cs h2 h5,h6⟩
 case many t l=>exact h
 case mp kt vt l=>
  obtain⟨h1,h2,h3,es,h4,h5⟩:=h;exact⟨h1,h2,h3,es,h4,h5.anyOb⟩
 case lp i p=>
  obtain⟨r,h1,h2,h3,h4⟩:=h;exact⟨r,h1,h2,λt ht=>(h3 t ht).anyOb ob',h4⟩
def vf{b o:Nat}{r:Loop}(h:w.heap[b]?=some (Obj.loop r)):w.cell? ⟨b,o,none⟩=none:=by simp[World.cell?,h]
def ef{b b':Nat}{x:Obj}(hb:b'≠b):(setBlock w b x).heap[b']?=w.heap[b']?:=by simp only[setBlock];rw[z3c (Ne.symm hb)]
def gC{b:Nat}{x:Obj}(hb:b<w.heap.size):(setBlock w b x).heap[b]?=some x:=World.putObj_heap_same hb
def dT{b:Nat}{x:Obj}:(setBlock w b x).heap.size=w.heap.size:=by simp[setBlock]
def tR{L:Nat}{r r':Loop}(hl:w.heap[L]?=some (Obj.loop r))(b o:Nat):(setBlock w L (.loop r')).cell? ⟨b,o,none⟩=w.cell? ⟨b,o,none⟩:=by
 by_cases e:b=L
 ·subst e;rw[vf hl,vf (gC (zfa.1 hl).1)]
 ·simp only[World.cell?,ef e]
def Rp.setLp(h:Rp w0 S γ β s a w){id L:Nat}(hγ:γ id=some L){r:Loop}(hl:w.heap[L]?=some (Obj.loop r))(r':Loop):Rp w0 S γ β (s.setOb id none) a (setBlock w L (.loop r')):=by
 have hle:Cx.le ⟨w,S,γ,β,s.ob,s.dead⟩ ⟨setBlock w L (.loop r'),S,γ,β,(s.setOb id none).ob,s.dead⟩:=by
  refine⟨λb o _=>tR hl b o,λ_ _ hb=>hb,λ_ _ hb=>hb,λi y hy _=>⟨y,?_,λp=>⟨rfl,rfl⟩,λt l e=>⟨l,e,rfl⟩,λ_ _ l e=>⟨l,e⟩⟩,λv hv=>⟨hv,λb' e he=>⟨he,λn hn=>?_⟩⟩⟩
  ·simp_all [St.setOb]
  ·have hne:b'≠L:=λe'=>h.βγ v id b' e hv he (e' ▸ hγ);have hn':mU w b'=some n:=hn;show mU (setBlock w L (.loop r')) b'=some n;simp only[mU,bN,ef hne] at hn' ⊢;exact hn'
 refine⟨nv h.ext rfl rfl rfl (by rw[dT];exact zja _) (zja _) (λb' hb'=>ef λe=>(h.γn id L hγ).1 (e ▸ hb')),λt ht=>(h.tms t ht).mono hle,h.nt,h.tmu,λi y b' hy hb'=>?_,λi b' hb'=>by rw[dT];exact h.γn i b' hb',h.γi,h.γf,
  λv b' e hv he=>by rw[dT];exact h.βn v b' e hv he,h.βi,h.βγ,h.βf,λb' o hb=>by rw[dT];exact h.Sb b' o hb,h.So⟩
 have hy':i≠id/\s.ob i=some y:=by
  all_goals simp_all [St.setOb]
 have hne:b'≠L:=λe'=>hy'.1 (h.γi i id b' hb' (e' ▸ hγ));exact(h.obs i y b' hy'.2 hb').mono hle (ef hne) λ_ hh=>hh
def Fm.setLp(h:Rp w0 S γ β s a w){s1:St}{L:Nat}{r r':Loop}(hl:w.heap[L]?=some (Obj.loop r))(he:zU r r'):Fm s1 S γ a w S γ a (setBlock w L (.loop r')):=by
 have hlt:=(zfa.1 hl).1;refine⟨λ_ _ hb=>hb,λb o _=>tR hl b o,λ_ _=>rfl,λi _ b hb=>⟨hb,?_⟩,by rw[dT];exact zja _,λ_ _ hb=>hb,ku.same rfl λb=>?_⟩
 ·by_cases e:b=L
  ·subst e;exact .inr ⟨r,r',hl,gC hlt,he⟩
  ·exact .inl (ef e)
 ·by_cases e:b=L
  ·subst e;exact⟨λhb=>(by rw[hl] at hb;cases hb),λ_=>⟨r',gC hlt⟩⟩
  ·simp_all [ef]
theorem Rp.leaveY(h:Rp w0 S γ β s a w){id L:Nat}{i:LpI}{p:Option Ex}(hγ:γ id=some L)(ho:gL ⟨w,S,γ,β,s.ob,s.dead⟩ L (.lp i p)):Rp w0 S γ β (leaveY s id i p) a w:=by
 refine⟨h.ext,λt ht=>by simp only[Sy.leaveY,AR],h.nt,λt ht=>rfl,λj o b hj hb=>?_,h.γn,h.γi,h.γf,h.βn,h.βi,h.βγ,h.βf,h.Sb,h.So⟩
 have hj':(if j=id then some (Ob.lp i p) else s.ob j)=some o:=hj
 by_cases e:j=id
 ·subst e;rw[if_pos rfl] at hj';cases hj';rw[hγ] at hb;cases hb;exact ho.anyOb _
 ·rw[if_neg e] at hj';exact(h.obs j o b hj' hb).anyOb _
def uw(s:St)(id:Nat)(i:LpI)(p:Option Ex):leaveY (s.setOb id none) id i p=leaveY s id i p:=by
 have:(λj=>if j=id then some (Ob.lp i p) else(s.setOb id none).ob j)=λj=>if j=id then some (Ob.lp i p) else s.ob j:=by
  funext j;by_cases e:j=id
  ·simp[e]
  ·simp[St.setOb,e]
 simp only[leaveY,this];rfl
def BA{c:Cx}{x:AV}{v:Value}{dd:List Nat}(h:uf c x v)(hp:fW (rj c.ob x)=true):AC ⟨c.w,c.S,c.γ,c.β,c.ob,dd⟩ (rj c.ob x) [v]/\∀ cs,v≠.agg cs:=by
 unfold uf at h;split at h
 ·rename_i t id;obtain⟨b,rfl,hb⟩:=h;refine⟨?_,λcs hh=>by cases hh⟩
  simp only[rj] at hp ⊢;cases ho:c.ob id with
  | none=>rw[ho] at hp;simp[fW] at hp
  | some o=>
   rw[ho] at hp;cases o<;>simp only[fW] at hp<;>first|(cases hp;done)|skip
   simp only[AC];refine⟨b,0,rfl,hb,λo' ho'=>?_⟩;have:some o'=some _:=ho'.symm.trans ho;cases this;exact⟨rfl,rfl⟩
 ·exact h.elim
theorem yd{c:Cx}{dd:List Nat}:∀ {l:List AV} {vs:List Value},qm c l vs->(l.map (rj c.ob)).all fW=true->mX ⟨c.w,c.S,c.γ,c.β,c.ob,dd⟩ (l.map (rj c.ob)) vs
 | [],[],_,_=>by simp[mX]
 | [],_::_,h,_=>h.elim
 | _::_,[],h,_=>h.elim
 | x::l,v::vs,h,hp=>by
  simp only[z6a,zKb,zaa] at hp;simp only[z6a,mX];exact⟨v,vs,rfl,(BA h.1 hp.1).1,yd h.2 hp.2⟩
def EE{c:Cx}{x:AV}{v:Value}{dd:List Nat}(h:jB c x v):AR ⟨c.w,c.S,c.γ,c.β,c.ob,dd⟩ (Bz c.ob x) v:=by
 cases x<;>simp only[jB] at h<;>simp only[Bz]<;>first|(simp only[AR];done)|skip
 case d t y=>simpa only[AR] using h
 case fptr t y=>simpa only[AR,AC] using h
 case ptr t id p=>
  cases hp:fW (rj c.ob (.ptr t id p)) with
  | true=>
   obtain⟨k1,k2⟩:=BA (dd:=dd) h hp;have k3:v.cells.toList=[v]:=by
    unfold uf at h;split at h
    ·obtain⟨b,rfl,_⟩:=h;rfl
    ·exact h.elim
   cases hx:rj c.ob (.ptr t id p)<;>rw[hx] at hp k1<;>simp only[fW] at hp<;>first|(cases hp;done)|skip
   simp_all [AR,k3]
  | false=>
   have:rj c.ob (.ptr t id p)=.undef:=by
    unfold rj at hp ⊢;all_goals grind [fW]
   simp_all [AR]
 case clo f l=>
  obtain⟨caps,rfl,hc⟩:=h;split
  ·rename_i hp;simp only[AR,AC];exact⟨λcs hh=>(by cases hh),caps,rfl,yd hc hp⟩
  ·simp only[AR]
theorem tF{c:Cx}:∀ (l:List (Nat×AV)) (l':List (Nat×Value)) (f:Nat->AV) (T:Array Value),l.length=l'.length->(∀ (i p:Nat) (x:AV) (q:Nat) (v:Value),l[i]?=some (p,x)->l'[i]?=some (q,v)->p=q/\AR c x v) ->
  (∀ t,t<T.size->AR c (f t) (T.getD t undef))->(l'.foldl (λtmps p=>tmps.setIfInBounds p.1 p.2) T).size=T.size/\∀ t,t<T.size->AR c (kJ l f t) ((l'.foldl (λtmps p=>tmps.setIfInBounds p.1 p.2) T).getD t undef)
 | [],[],f,T,_,_,h=>⟨rfl,h⟩
 | [],_::_,f,T,hl,_,_=>by simp at hl
 | _::_,[],f,T,hl,_,_=>by simp at hl
 | (p,x)::l,(q,v)::l',f,T,hl,hx,h=>by
  obtain⟨e,hxv⟩:=hx 0 p x q v rfl rfl;subst e;simp only[zhc,kJ];obtain⟨h1,h2⟩:=tF l l' (λt=>if t=p then x else f t) (T.setIfInBounds p v) (by simpa using hl) (λi=>hx (i+1)) λt ht=>by
   have ht':t<T.size:=by simpa using ht
   by_cases e:t=p
   ·subst e;rw[if_pos rfl];simpa [Array.getD,ht'] using hxv
   ·rw[if_neg e];have:=h t ht';simp only[Array.getD] at this ⊢;rw[dif_pos ht'] at this;rw[dif_pos ht,Array.getInternal_eq_getElem,Array.getElem_setIfInBounds_ne ht' (Ne.symm e)]
    rwa [Array.getInternal_eq_getElem] at this
  refine⟨by rw[h1];simp,λt ht=>h2 t (by simpa using ht)⟩
theorem qK:∀ (l:List (Nat×AV)) (f:Nat->AV) (n t:Nat),(∀ p∈l,p.1<n)->n<=t->kJ l f t=f t
 | [],f,n,t,_,_=>rfl
 | (p,x)::l,f,n,t,h,ht=>by
  simp only[kJ];rw[qK l _ n t (λq hq=>h q (by simp[hq])) ht]
  have:=h (p,x) (by simp)
  simp only at this;rw[if_neg (by omega)]
theorem ks(h:Rp w0 S γ β s a w):∀ (l:List Operand) (i:Nat) (x:AV) (v:Value),(l.map s.opA)[i]?=some x->(l.map a.eval)[i]?=some v->AR ⟨w,S,γ,β,s.ob,s.dead⟩ x v
 | [],i,x,v,hx,_=>by simp at hx
 | y::l,0,x,v,hx,hv=>by simp at hx hv;subst hx;subst hv;exact aV h y
 | y::l,i+1,x,v,hx,hv=>by simp only[z6a,z7a] at hx hv;exact ks h l i x v hx hv
theorem Fm.less{s s2:St}{S':Nat->Nat->Prop}{γ':Nat->Option Nat}{a':Act}{w':World}(h:Fm s S γ a w S' γ' a' w')(e1:∀ t∈s2.lkS,t∈s.lkS)(e2:∀ t∈s2.lkO,t∈s.lkO):Fm s2 S γ a w S' γ' a' w':=
 ⟨h.sub,h.cell,λt ht=>h.slots t (e1 t ht),λid hid=>h.objs id (e2 id hid),h.sz,h.gam,h.dfs.less e2⟩
def rQ(c:Cx)(b:Bool):AR c (.d .bool (.bool b)) (.bool b):=gn _
def Gv(hE:EnvOk P E)(h:Rp w0 S γ β s a w){o:Oper}{c:Call}(hop:o.op=.call c){id:Nat}{i:LpI}{avs:List AV}(hy:LE s c=some (id,i,avs)){R:Type}{K:AV->St->Option R}{r:R}{an:Ann}(hev:Tm E an s id i avs K=some r)
  {next:Act->World->Prop} {Q:Exit->Act->World->Prop}
  (hk:∀ y v s' S' γ' β' w',K y s'=some r->Rp w0 S' γ' β' s' a w'->AR ⟨w',S',γ',β',s'.ob,s'.dead⟩ y v->Fm s S γ a w S' γ' a w'->Sk s s'->next (a.put o.dst v) w'):o.wpIn (FW ro) nn P a w next Q:=by
 obtain⟨dst,op,ty,pos,after,guard⟩:=o;simp only at hop;subst hop;obtain⟨callee,args,argTypes⟩:=c;unfold LE at hy;split at hy<;>first|(cases hy;done)|skip
 rename_i t hc;simp only at hc;subst hc;split at hy<;>first|(cases hy;done)|skip
 rename_i id' ht;split at hy<;>first|(cases hy;done)|skip
 rename_i i' hob;simp only[zda,Prod.mk.injEq] at hy;obtain⟨rfl,rfl,rfl⟩:=hy;have hA:=aV h (.tmp t);have hA':AR ⟨w,S,γ,β,s.ob,s.dead⟩ (.yld id') (a.eval (.tmp t)):=by rw[<-ht];exact hA
 simp only[AR,AC] at hA';obtain⟨na,L,hcs,hγ⟩:=hA';have hv:=az na hcs;have hO:=h.obs id' _ L hob hγ;simp only[gL] at hO;obtain⟨rec,hl,⟨p1,p2,p3,p4⟩,hcap,hst,hpe⟩:=hO;unfold Tm at hev;split at hev<;>first|(cases hev;done)|skip
 rename_i hcond;obtain⟨hlen,hps,htk⟩:=hcond;have hlen':args.size=rec.params.size:=by
  have:(args.toList.map s.opA).length=rec.params.toList.length:=by rw[p2];exact hlen
  simpa using this
 have hyr:=run_yield (P:=P) (args:=(args.map a.eval)) hl (by simpa using hlen')
 refine⟨λ_ _=>trivial,?_⟩;have hrun:((⟨dst,.call ⟨.value (.tmp t),args,argTypes⟩,ty,pos,after,guard⟩:Oper).semAt (FW ro).round a.eval).run P w=.ok (.round L rec.fn ((rec.params.zip (args.map a.eval)).foldl (λtmps (t,a)=>tmps.setIfInBounds t a) rec.tmps) rec.assign rec.body) w:=by
  rw[Oper.semAt_eq _ _ _ (λc=>by simp)]
  simp only[execOp,resolve,hv];simpa [Deferred.ofValue,invoke,go_sem] using hyr
 rw[hrun];simp only[Oper.uponIn];refine⟨λh=>(by cases h),?_⟩
 obtain⟨T,hT⟩:∃ T,T=(rec.params.zip (args.map a.eval)).foldl (λtmps (t,a)=>tmps.setIfInBounds t a) rec.tmps:=⟨_,rfl⟩;rw[<-hT];refine RoundIn.mono (R:=λen w''=>∃ v,en=.returned v/\next (a.put dst v) w'') ?_ (λen w'' ⟨v,he,hn⟩=>by subst he;exact hn)
 refine roundIn_of_wpIn trivial ?_;show Code.wpIn (FW (some L)) (nn-1) P rec.assign _ _ _;rw[p3,p4];obtain⟨tk,htkd⟩:∃ tk,tk=du s:=⟨_,rfl⟩;obtain⟨sh,hsh⟩:∃ sh:Nat->Prop,sh=λb=>(∃ id,γ id=some b)\/∃ v e,v ∉ tk++s.dead/\β v=some (b,e):=⟨_,rfl⟩;have hTT:T.size=rec.tmps.size/\∀ t,t<rec.tmps.size->AR ⟨w,S,γ,β,s.ob,tk++s.dead⟩ ((BV s i' id' (args.toList.map s.opA)).tm t) (T.getD t undef):=by
  have key:=tF (c:=⟨w,S,γ,β,s.ob,tk++s.dead⟩) (i'.ps.zip (args.toList.map s.opA)) (i'.ps.zip (args.toList.map a.eval)) (λt=>if t<i'.nt then Bz s.ob (i'.caps t) else .undef) rec.tmps (by simp) (λj p x q v hx hv=>by
   rw[List.getElem?_zip_eq_some] at hx hv;refine⟨by have:=hx.1.symm.trans hv.1;simpa using this,?_⟩
   refine AR.mono (c:=⟨w,S,γ,β,s.ob,s.dead⟩) (c':=⟨w,S,γ,β,s.ob,tk++s.dead⟩) ⟨λ_ _ _=>rfl,λ_ _ hb=>hb,λ_ _ hb=>hb,λid o ho _=>⟨o,ho,λp=>⟨rfl,rfl⟩,λt l e=>⟨l,e,rfl⟩,λ_ _ l e=>⟨l,e⟩⟩,λu hu=>⟨λhh=>hu (zjb _ hh),λb e he=>⟨he,λn hn=>hn⟩⟩⟩ (ks h _ j x v hx.2 hv.2))
   (λt ht=>by
    rw[if_pos (by omega)]
    exact EE (c:=⟨w,S,γ,β,s.ob,s.dead⟩) (hcap t (by omega)))
  have e:T=(i'.ps.zip (args.toList.map a.eval)).foldl (λtmps p=>tmps.setIfInBounds p.1 p.2) rec.tmps:=by
   rw[hT,<-p2,<-Array.foldl_toList,Array.toList_zip,Array.toList_map]
  rw[e];exact key
 have hsz:T.size=i'.nt:=hTT.1.trans p1;have RI:Rp ⟨w,S,sh⟩ S γ β (BV s i' id' (args.toList.map s.opA)) ⟨T,[]⟩ w:=by
  refine BW h htkd hsh (λj o hj=>hj) rfl (by rw[htkd];rfl) hsz (λu hu=>?_) (λu hu=>hTT.2 u (by rw[<-hTT.1];exact hu))
  have hu':i'.nt<=u:=hu;show kJ _ _ u=.undef;rw[qK _ _ i'.nt u (λp hp=>by
   have h1:=(List.of_mem_zip (a:=p.1) (b:=p.2) hp).1;have:=zpa.1 hps _ h1;simpa using this) hu',if_neg (by omega)]
 refine hE.cod (some L) (nn-1) ⟨w,S,sh⟩ i'.asg an.fst R _ S γ β _ _ w _ r (λl e=>by cases e;exact⟨rec,hl⟩) RI hev λe s1 S1 γ1 β1 a1 w1 n1 n2 n3 n4=>?_
 cases e with
 | exit j=>cases n4
 | ret=>cases n4
 | normal=>
 simp only at n4;split at n4<;>first|(cases n4;done)|skip
 rename_i i1 hob1;simp only[EP,Exit.then];obtain⟨g1,st1⟩:=n2.objs id' zka L hγ;have hO1:=n1.obs id' _ L hob1 g1;simp only[gL] at hO1;obtain⟨rec1,hl1,_,_,hst1,hpe1⟩:=hO1;have e1:zU rec rec1:=by
  rcases st1 with k|⟨r,r',k1,k2,k3⟩
  ·rw[hl1,hl] at k;cases k;exact⟨rfl,rfl,rfl,rfl⟩
  ·rw[hl] at k1;cases k1;rw[hl1] at k2;cases k2;exact k3
 refine⟨_,run_beginRound hl1 hst1,?_⟩;have hL1:=(zfa.1 hl1).1;have M1:=n1.setLp g1 hl1 { rec1 with state:=.busy };have F1:=Fm.setLp n1 (s1:=s1) hl1 (r':={ rec1 with state:=.busy }) ⟨rfl,rfl,rfl,rfl⟩;have hl2:(setBlock w1 L (.loop { rec1 with state:=.busy })).heap[L]?=some (.loop { rec1 with state:=.busy }):=gC hL1;show Code.wpIn (FW (some L)) (nn-1) P i'.bdy _ a1 (setBlock w1 L (.loop { rec1 with state:=.busy }));generalize setBlock w1 L (.loop { rec1 with state:=.busy })=w2 at M1 F1 hl2 ⊢;have hlk1:s1.lkO=id'::s.lkO:=n3.lkO;refine hE.cod (some L) (nn-1) ⟨w,S,sh⟩ i'.bdy an.snd R _ S1 γ1 β1 _ a1 w2 _ r (λl e=>by cases e;exact⟨_,hl2⟩) M1 n4 λe s2 S2 γ2 β2 a2 w3 m1 m2 m3 m4=>?_
 obtain⟨g2,st2⟩:=m2.objs id' (by rw[show(s1.setOb id' none).lkO=s1.lkO from rfl,hlk1];exact zka) L g1
 obtain⟨rec3,hl3,e3⟩:∃ rec3,w3.heap[L]?=some (Obj.loop rec3)/\zU rec rec3:=by
  rcases st2 with k|⟨r,r',k1,k2,k3⟩
  ·exact⟨_,k.trans hl2,e1⟩
  ·rw[hl2] at k1;cases k1;exact⟨r',k2,k3.1.trans e1.1,k3.2.1.trans e1.2.1,k3.2.2.1.trans e1.2.2.1,k3.2.2.2.trans e1.2.2.2⟩
 have hL3:=(zfa.1 hl3).1;have F2:Fm (BV s i' id' (args.toList.map s.opA)) S γ ⟨T,[]⟩ w S2 γ2 a2 w3:=(n2.trans (F1.less (s2:=s1) (λ_ h=>h) (λ_ h=>h)) n3.lkS n3.lkO).trans (s1:=s1) (m2.less (λ_ h=>h) (λ_ h=>h)) n3.lkS n3.lkO;have fin:∀ (rec4:Loop) (p:Option Ex) (v:Value) (y:AV),zU rec3 rec4->Vu p rec4->(∀ c,AR c y v)->K y (nV s (leaveY s2 id' i' p))=some r->next (a.put dst v) (setBlock w3 L (.loop rec4)):=by
  intro rec4 p v y e4 hd hyv hK;have e34:zU rec rec4:=⟨e4.1.trans e3.1,e4.2.1.trans e3.2.1,e4.2.2.1.trans e3.2.2.1,e4.2.2.2.trans e3.2.2.2⟩;have F3:=F2.trans (Fm.setLp m1 (s1:=s2) hl3 e4) (m3.lkS.trans n3.lkS) (m3.lkO.trans n3.lkO);have M2:=m1.setLp g2 hl3 rec4;have hl4:(setBlock w3 L (.loop rec4)).heap[L]?=some (.loop rec4):=gC hL3;generalize setBlock w3 L (.loop rec4)=w4 at F3 M2 hl4 ⊢;have M3:=M2.leaveY (i:=i') (p:=p) g2 (by
   simp only[gL];refine⟨rec4,hl4,⟨by rw[e34.1];exact p1,by rw[e34.2.1];exact p2,by rw[e34.2.2.1];exact p3,by rw[e34.2.2.2];exact p4⟩,λu hu=>?_,hd⟩
   rw[e34.1];exact jB.mono (c:=⟨w,S,γ,β,s.ob,s.dead⟩) F3.cell F3.sub F3.gam (hcap u hu))
  rw[uw] at M3;obtain⟨β'',B1,B2⟩:=Br h htkd hsh (by rw[htkd];exact htk) M3 F3.sub F3.cell F3.gam F3.sz
  exact hk y v _ S2 γ2 β'' w4 hK B1 (hyv _) ⟨F3.sub,F3.cell,λ_ _=>rfl,λj hj=>F3.objs j (zha _ hj),F3.sz,F3.gam,ku.same rfl F3.dfs.1⟩ ⟨rfl,rfl,rfl⟩
 cases e with
 | normal=>exact⟨_,_,run_endRound none hl3,_,rfl,fin _ none _ _ ⟨rfl,rfl,rfl,rfl⟩ ⟨rfl,rfl⟩ (λc=>rQ c true) m4⟩
 | ret=>exact⟨_,_,run_endRound (some .ret) hl3,_,rfl,fin _ (some .ret) _ _ ⟨rfl,rfl,rfl,rfl⟩ ⟨rfl,rfl⟩ (λc=>rQ c false) m4⟩
 | exit j=>exact⟨_,_,run_endRound (some (.exit j)) hl3,_,rfl,fin _ (some (.exit j)) _ _ ⟨rfl,rfl,rfl,rfl⟩ ⟨rfl,rfl⟩ (λc=>rQ c false) m4⟩
def Rp.later(h:Rp w0 S γ β s a w):Rp w0 S γ β (wl s) a w:=by
 have q:∀ i,((wl s):St).base+4096<=i->s.base+4096<=i:=λi hi=>by
  exact zAa (Nat.add_le_add_right (zxa 4096 (ztc s.fresh)) 4096) hi
 exact⟨h.ext,h.tms,h.nt,h.tmu,h.obs,h.γn,h.γi,λi hi=>h.γf i (q i hi),h.βn,h.βi,h.βγ,λv hv=>h.βf v (q v hv),h.Sb,h.So⟩
def Bv{E:Env}{s0:St}{γ0:Nat->Option Nat}{β0:Nat->Option (Nat×Nat)}(h:Rp w0 S γ β s a w){l:List (Nat×Oper)}(hna:(l.all λp=>xa p.2)=true)(hf:∀ o∈l.map Prod.snd,Fr E s0 γ0 β0 o):∀ o∈l.map Prod.snd,Fr E (wl s) γ β o:=by
 intro o' ho' hc d hd;have hb:(wl s).base=s.base+4096:=by simp only[wl,St.base];omega
 rw[hb];refine⟨(hf o' ho' hc d hd).1,h.γf _ (by omega),h.βf _ (by omega),λT t e=>?_⟩
 obtain⟨p,hp,rfl⟩:=z5a.1 ho';have:=zpa.1 hna p hp
 simp_all [xa]
end
end Sy
end
noncomputable section
namespace Sy
open Go
variable{ro:Option Nat}{nn:Nat}
def II{E:Env}{ops:Array Oper}{N:Nat}{R:Type}{i:Nat}{o:Oper}{l:List (Nat×Oper)}{s:St}{k:St->Option R}{r:R}(hg:o.guard=none)(hgu:me E s i o l=true){an:Ann}(h:eN E (N+1) R ops an ((i,o)::l) s k=some r) :
  ∃ seg jj pk l'' s5 s3,l=seg++(jj,pk)::l''/\gu o=true/\(∀ p∈seg,gu p.2=true)/\gu pk=true/\seqV E ops (o::(seg.map Prod.snd++[pk])) s=some s5/\Wk s5 s3/\eN E N R ops an l'' s3 k=some r:=by
 simp only[eN,hg,hgu,if_true] at h;simp only[me,zaa] at hgu;obtain⟨_,hcond⟩:=hgu;obtain⟨e1,e2⟩:=iZ o.dst l;generalize dw o.dst l=sp at *;obtain⟨seg,rest⟩:=sp;simp only at h e1 e2 hcond;split at h<;>first|(cases h;done)|skip
 rename_i _ _ jj pk l'' d hd;simp only[hd] at hcond;simp only[zaa,decide_eq_true_eq,zLa,zpa] at hcond;obtain⟨⟨⟨⟨⟨c1,c2⟩,c3⟩,cI⟩,c4⟩,c5⟩:=hcond;have ho:=kK c3;have hpk:=e2 _ _ rfl;obtain⟨pc,px,py,hop⟩:=qA hpk;unfold KM at h;split at h<;>first|(cases h;done)|skip
 rename_i hlk;rw[od E s ho] at h;obtain⟨v,h3,h4⟩:=ga h;rw[hd] at h4;obtain⟨c,h5,h6⟩:=bind_some_inv h4;rw[rM c1] at h5;have hv:=jb h5;subst hv;obtain⟨x,h7,h8⟩:=bind_some_inv h6;have hsame:∀ b,b=c->(s.put (some d) (.d .bool (.bool c))).put (some d) (.d .bool (.bool b))=s.put (some d) (.d .bool (.bool c)):=λb hb=>tG (by rw[rM c1,hb])
 have hsegv:∃ k2:St->Option Bool,(∀ s2,k2 s2=qv E s2 pk AV.truth)/\eN E N Bool ops .leaf seg (s.put (some d) (.d .bool (.bool c))) k2=some x:=by
  all_goals grind
 obtain⟨k2,hk2,h7⟩:=hsegv;obtain⟨s2,s2',N2,h9,h10,h11⟩:=sH N Bool seg _ k2 x seg.length .leaf (zja _) (λp hp=>by
  rw[zKa] at hp;exact⟨kK (c4 p hp).1.1,(c4 p hp).2⟩) (.inl λp hp=>by simp at hp) h7
 rw[zyc] at h11;rw[zKa] at h9;have h12:k2 s2'=some x:=by cases N2<;>simpa [eN] using h11
 rw[hk2] at h12;obtain⟨v2,h13,h14⟩:=ga h12;have hv2:=jb h14;obtain⟨v3,h15,h16⟩:=h10.qv h13;have hv3:v3=.d .bool (.bool x):=by
  all_goals simp_all
 subst hv3;have hwk:Wk (s2.put pk.dst (.d .bool (.bool x))) ((killD (s.put (some d) (.d .bool (.bool c))) (seg.map Prod.snd)).put pk.dst (.d .bool (.bool x))):=(kg _ h9).put pk.dst (.inl rfl);have hval:val E ops s o=some (.d .bool (.bool c)):=by unfold val;rw[if_neg hlk,hg];exact h3
 have hlk2:¬ j7 s2 pk=true:=by
  have:s2.lkS=s.lkS:=by
   have w1:=(kg _ h9).lkS;have w2:∀ (l:List Oper) (s:St),(killD s l).lkS=s.lkS:=by
    intro l
    induction l with
    | nil=>intro s;rfl
    | cons o l ih=>intro s;rw[killD,ih];exact(St.put_fields s o.dst .undef).2.2.2.2.1
   rw[<-w1,w2];exact(St.put_fields s (some d) _).2.2.2.2.1
  simp_all [j7]
 have hval2:val E ops s2 pk=some (.d .bool (.bool x)):=by
  unfold val
  simp_all
 refine⟨seg,jj,pk,l'',_,_,e1,ho,λp hp=>kK (c4 p hp).1.1,Dq hop,?_,hwk,h8⟩
 simp_all [seqV,hval,zba,mf,hval2]
section
variable{P:Program}{E:Env}{w0:Root}{S:Nat->Nat->Prop}{γ:Nat->Option Nat}{β:Nat->Option (Nat×Nat)}{s:St}{a:Act}{w:World}{ops:Array Oper}
def ql{o:Oper}(h:Rp w0 S γ β s a w):(o.guard=none->Region.wanted o (yielded ops a.tmps)=true) ∧
  (∀ j want g c,o.guard=some (j,want)->(ops[j]?).bind (·.dst)=some g->(s.tm g).truth=some c->Region.wanted o (yielded ops a.tmps)=(c==want)) ∧
  ∀ j want g,o.guard=some (j,want)->(ops[j]?).bind (·.dst)=some g->s.tm g=.gone->Region.wanted o (yielded ops a.tmps)=false:=by
 refine⟨λhg=>by simp[Region.wanted,hg],λj want g c hg h1 h2=>?_,λj want g hg h1 h2=>?_⟩
 rotate_left
 ·have h3:AR ⟨w,S,γ,β,s.ob,s.dead⟩ (s.tm g) (a.eval (.tmp g)):=aV h (.tmp g);rw[h2] at h3;have h3':a.eval (.tmp g)=undef:=h3;simp only[Act.eval] at h3';simp only[Region.wanted,hg,yielded,h1,zba];by_cases hlt:g<a.tmps.size
  ·have h4:a.tmps[g]?=some undef:=by
    simp_all
   rw[h4];rfl
  ·simp_all
 obtain⟨h3,_⟩:=nK h2 (aV h (.tmp g));have h4:a.tmps[g]?=some (.bool c):=by
  simp only[Act.eval] at h3;by_cases hlt:g<a.tmps.size
  ·simp_all
  ·exfalso;have:s.tm g=.undef:=h.tmu g (by rw[<-h.nt];exact Nat.le_of_not_lt hlt)
   simp_all
 simp_all [Region.wanted,yielded,zba]
def xD(hE:EnvOk P E)(h:Rp w0 S γ β s a w){o:Oper}(hf:Fr E s γ β o){v:AV}(hq:val E ops s o=some v) :
  (Region.wanted o (yielded ops a.tmps)=true->et P o a w λu w'=>∃ S' γ' β',Rp w0 S' γ' β' (s.put o.dst v) (a.put o.dst u) w'/\Fm s S γ a w S' γ' (a.put o.dst u) w'/\(∀ id,o.dst≠some (id-s.base)\/id<s.base->γ' id=γ id/\β' id=β id)) ∧
  (Region.wanted o (yielded ops a.tmps)=false->Rp w0 S γ β (s.put o.dst v) (a.put o.dst undef) w/\Fm s S γ a w S γ (a.put o.dst undef) w):=by
 unfold val at hq;split at hq<;>first|(cases hq;done)|skip
 rename_i hlk;have hlk':∀ t∈s.lkS,o.dst≠some t:=λt ht e=>hlk (by simp[j7,e];exact ht)
 have main:qv E s o some=some v->et P o a w λu w'=>∃ S' γ' β',Rp w0 S' γ' β' (s.put o.dst v) (a.put o.dst u) w'/\Fm s S γ a w S' γ' (a.put o.dst u) w'/\(∀ id,o.dst≠some (id-s.base)\/id<s.base->γ' id=γ id/\β' id=β id):=by
  intro hq;obtain⟨s',h1,h2⟩:=uU hE h hf (λT t _ ht=>hE.flat T t ht) hlk' (K:=some) (r:=s.put o.dst v) (by rw[FM,hq];rfl)
  cases h1;exact h2.2.2.2.2.2
 have skip:Rp w0 S γ β (s.put o.dst .gone) (a.put o.dst undef) w/\Fm s S γ a w S γ (a.put o.dst undef) w:=
  ⟨h.put (by simp[AR]) o.dst,λ_ _ hb=>hb,λ_ _ _=>rfl,λt ht=>bQ (hlk' t ht),λ_ _ _ hb=>⟨hb,jh.refl _ _⟩,zja _,λ_ _ hb=>hb,ku.same bF (cY.refl _)⟩
 obtain⟨w1,w2,w3⟩:=ql (ops:=ops) (o:=o) h;cases hg:o.guard with
 | none=>
  simp_all
 | some p=>
  obtain⟨j,want⟩:=p;rw[hg] at hq;simp only at hq;obtain⟨g,h1,h2⟩:=bind_some_inv hq;by_cases hgo:s.tm g=.gone
  ·grind [fE]
  rw[fF hgo] at h2;obtain⟨c,h3,h4⟩:=bind_some_inv h2;all_goals grind
def CA(E:Env)(s:St)(γ:Nat->Option Nat)(β:Nat->Option (Nat×Nat))(l:List Oper):Prop:=∀ o∈l,Fr E s γ β o
def Fr.keep{o o':Oper}{s':St}{γ':Nat->Option Nat}{β':Nat->Option (Nat×Nat)}(h:Fr E s γ β o')(hd:∀ d,o'.dst=some d->o.dst≠some d)(hfr:s'.fresh=s.fresh)
  (hob:∀ id,γ id=none->o.dst≠some (id-s.base)\/id<s.base->s'.ob id=s.ob id) (hk:∀ id,o.dst≠some (id-s.base)\/id<s.base->γ' id=γ id/\β' id=β id):Fr E s' γ' β' o':=by
 intro hc d hd';obtain⟨h1,h2,h3,h4⟩:=h hc d hd'
 simp_all [St.base,zzb]
structure Sm(s s':St):Prop where
 lkS:s'.lkS=s.lkS
 lkO:s'.lkO=s.lkO
 fresh:s'.fresh=s.fresh
 nt:s'.nt=s.nt
def Sm.sk{s s':St}(h:Sm s s'):Sk s s':=⟨h.lkS,h.lkO,h.nt⟩
def Sm.refl(s:St):Sm s s:=⟨rfl,rfl,rfl,rfl⟩
theorem Sm.trans{a b c:St}(h:Sm a b)(k:Sm b c):Sm a c:=⟨k.lkS.trans h.lkS,k.lkO.trans h.lkO,k.fresh.trans h.fresh,k.nt.trans h.nt⟩
theorem Sm.put(s:St)(d:Option Nat)(v:AV):Sm s (s.put d v):=by
 obtain⟨p1,p2,p3,p4,p5,p6,p7⟩:=St.put_fields s d v;exact⟨p5,p6,p2,p4⟩
def Sm.wk{s s':St}(h:Wk s s'):Sm s s':=⟨h.lkS,h.lkO,h.fresh,h.nt⟩
theorem xt(hE:EnvOk P E){Q:Exit->Act->World->Prop}:∀ (l l2:List Oper) {S:Nat->Nat->Prop} {γ:Nat->Option Nat} {β:Nat->Option (Nat×Nat)} {s:St} {a:Act} {w:World} {s':St},Rp w0 S γ β s a w->CA E s γ β (l++l2)->(∀ (A B:List Oper) o o',l++l2=A++o::B->o'∈B->∀ d,o'.dst=some d->o.dst≠some d)->seqV E ops l s=some s' ->
  (∀ S' γ' β' a' w',Rp w0 S' γ' β' s' a' w'->Fm s S γ a w S' γ' a' w'->Sm s s'->CA E s' γ' β' l2->wpListIn (FW ro) nn P ops Q l2 a' w')->wpListIn (FW ro) nn P ops Q (l++l2) a w
 | [],l2,S,γ,β,s,a,w,s',h,hf,_,hq,hk=>by
  simp only[seqV,zda] at hq;subst hq;exact hk S γ β a w h (Fm.refl _ _ _ _ _) (Sm.refl s) (by simpa using hf)
 | o::l,l2,S,γ,β,s,a,w,s',h,hf,hd,hq,hk=>by
  simp only[seqV] at hq;obtain⟨v,h1,h2⟩:=bind_some_inv hq;have hfo:Fr E s γ β o:=hf o (by simp)
  obtain⟨k1,k2⟩:=xD hE h hfo h1;have hdo:∀ o'∈l++l2,∀ d,o'.dst=some d->o.dst≠some d:=λo' ho'=>hd [] (l++l2) o o' rfl ho';have hd':∀ (A B:List Oper) x x',l++l2=A++x::B->x'∈B->∀ d,x'.dst=some d->x.dst≠some d:=λA B x x' e hx=>hd (o::A) B x x' (by simp[e]) hx
  have p:=St.put_fields s o.dst v;have frn:∀ {γ':Nat->Option Nat} {β':Nat->Option (Nat×Nat)},(∀ id,o.dst≠some (id-s.base)\/id<s.base->γ' id=γ id/\β' id=β id)->CA E (s.put o.dst v) γ' β' (l++l2):=λhk o' ho'=>
   (hf o' (by simp only[zdb,zCa];exact .inr ho')).keep (hdo o' ho') p.2.1 (λid _ _=>by rw[p.1]) hk
  simp only[zdb,wpListIn];split
  ·rename_i hw;refine(bg (k1 hw) λu w' ⟨S',γ',β',m1,m2,m3⟩=>?_);exact xt hE l l2 m1 (frn m3) hd' h2 λS2 γ2 β2 a2 w2 n1 n2 n3 n4=>hk S2 γ2 β2 a2 w2 n1 (m2.trans n2 p.2.2.2.2.1 p.2.2.2.2.2.1) ((Sm.put s o.dst v).trans n3) n4
  ·rename_i hw;obtain⟨m1,m2⟩:=k2 (by simpa using hw)
   exact⟨λ_ _=>trivial,xt hE l l2 m1 (frn λid _=>⟨rfl,rfl⟩) hd' h2 λS2 γ2 β2 a2 w2 n1 n2 n3 n4=>hk S2 γ2 β2 a2 w2 n1 (m2.trans n2 p.2.2.2.2.1 p.2.2.2.2.2.1) ((Sm.put s o.dst v).trans n3) n4⟩
theorem lr{c:Cx}:∀ (l:List AV) (caps:List Value),l.all fW=true->mX c l caps->l.length=caps.length/\∀ (i:Nat) (x:AV) (v:Value),l[i]?=some x->caps[i]?=some v->AR c x v
 | [],caps,_,h=>by simp_all [mX]
 | y::l,caps,hp,h=>by
  simp only[mX] at h;obtain⟨v0,c2,rfl,h1,h2⟩:=h;simp only[zKb,zaa] at hp;obtain⟨k1,k2⟩:=lr l c2 hp.2 h2;refine⟨by simp[k1],λi x v hx hv=>?_⟩
  cases i with
  | zero=>
   simp at hx hv;subst hx;subst hv;cases y<;>simp only[fW] at hp<;>first|(cases hp.1;done)|skip
   simp only[AC] at h1;obtain⟨b,off,e,h3⟩:=h1;simp only[List.cons.injEq,and_true] at e;grind [AR,AC,Value.cells]
  | succ i=>simp only[z7a] at hx hv;exact k2 i x v hx hv
def La(hE:EnvOk P E)(h:Rp w0 S γ β s a w){o:Oper}{c:Call}(hop:o.op=.call c)(hlk:∀ t∈s.lkS,o.dst≠some t){R:Type}{K:St->Option R}{r:R}{an:Ann}
  (hev:((pM s c).bind λq=>(E.inl q.1).bind λg=>g an R s q.2 λv s'=>K (s'.put o.dst v))=some r) :
  et P o a w λu w'=>∃ s' S' γ' β',K s'=some r/\Rp w0 S' γ' β' s' (a.put o.dst u) w'/\Fm s S γ a w S' γ' (a.put o.dst u) w'/\Sk s s':=by
 obtain⟨⟨f,avs⟩,h1,hev1⟩:=bind_some_inv hev;clear hev;obtain⟨g,h2,hev2⟩:=bind_some_inv hev1;clear hev1;simp only at h2 hev2;obtain⟨⟨fn,f1,f2,f3⟩,hI⟩:=hE.inl f g h2;have key:∃ vs:List Value,avs.length=vs.length/\(∀ (i:Nat) (x:AV) (v:Value),avs[i]?=some x->vs[i]?=some v->AR ⟨w,S,γ,β,s.ob,s.dead⟩ x v)/\(execOp a.eval o).run P w=.ok (.enter f vs.toArray) w:=by
  clear hev2 hI h2;have hb:¬ fn.body=none:=by grind
  have f2' : ¬ fn.name = "runtime.NumGoroutine" := by simpa using f2
  obtain⟨dst,op,ty,pos,after,guard⟩:=o;simp only at hop;subst hop;obtain⟨callee,args,argTypes⟩:=c;simp only[pM] at h1;split at h1<;>first|(cases h1;done)|skip
  ·rename_i f';simp only[zda,Prod.mk.injEq] at h1;obtain⟨rfl,rfl⟩:=h1;refine⟨args.toList.map a.eval,by simp,ks h _,?_⟩
   have hm:args.map a.eval=(args.toList.map a.eval).toArray:=z7b (by simp)
   simp[execOp,resolve,Act.eval,Deferred.ofValue,invoke,callFunc,f1,f2',hb,hm]
  ·rename_i t;split at h1<;>first|(cases h1;done)|skip
   rename_i f' l ht;split at h1<;>first|(cases h1;done)|skip
   rename_i hp;simp only[zda,Prod.mk.injEq] at h1;obtain⟨rfl,rfl⟩:=h1;have hA:=aV h (.tmp t);have hA':AR ⟨w,S,γ,β,s.ob,s.dead⟩ (.clo f' l) (a.eval (.tmp t)):=by rw[<-ht];exact hA
   simp only[AR,AC] at hA';obtain⟨na,caps,hcs,hcap⟩:=hA';have hv:=az na hcs;obtain⟨k1,k2⟩:=lr l caps hp hcap;refine⟨args.toList.map a.eval++caps,by simp[k1],λi x v hx hv'=>?_,?_⟩
   ·rcases zna i (args.toList.map s.opA).length with hi|hi
    ·rw[zfb hi] at hx;rw[zfb (by simpa using hi)] at hv'
     exact ks h _ i x v hx hv'
    ·grind
   ·have hm:args.map a.eval=(args.toList.map a.eval).toArray:=z7b (by simp)
    simp[execOp,resolve,hv,Deferred.ofValue,invoke,callFunc,f1,f2',hb,hm]
 obtain⟨vs,k1,k2,k3⟩:=key;have hc:=hI an R w0 S γ β s a w avs vs _ r h k1 k2 hev2;unfold et;rw[k3];refine hc.mono λe w' ⟨v,y,s',S',γ',β',e1,e2,e3,e4,e5,e6⟩=>⟨v,e1,s'.put o.dst y,S',γ',β',e2,e3.put e4 o.dst,⟨e5.sub,e5.cell,λt ht=>bQ (hlk t ht),e5.objs,e5.sz,e5.gam,ku.same bF e5.dfs.1⟩,?_⟩;have p:=St.put_fields s' o.dst y;exact⟨p.2.2.2.2.1.trans e6.lkS,p.2.2.2.2.2.1.trans e6.lkO,p.2.2.2.1.trans e6.nt⟩
def wE(hE:EnvOk P E)(h:Rp w0 S γ β s a w){o:Oper}(hlk:∀ t∈s.lkS,o.dst≠some t){R:Type}{K:St->Option R}{r:R}{an:Ann}
  (hev:OJ E an s o (λv s'=>K (s'.put o.dst v))=some r) {next:Act->World->Prop} {Q:Exit->Act->World->Prop}
  (hk:∀ u s' S' γ' β' w',K s'=some r->Rp w0 S' γ' β' s' (a.put o.dst u) w'->Fm s S γ a w S' γ' (a.put o.dst u) w'->Sk s s'->next (a.put o.dst u) w'):o.wpIn (FW ro) nn P a w next Q:=by
 unfold OJ at hev;split at hev<;>first|(cases hev;done)|skip
 rename_i c hop;split at hev
 ·rename_i q hy;obtain⟨id,i,avs⟩:=q;refine Gv hE h hop hy hev λy v s' S' γ' β' w' m0 m1 m2 m3 m4=>?_;have p:=St.put_fields s' o.dst y;exact hk v _ S' γ' β' w' m0 (m1.put m2 o.dst) ⟨m3.sub,m3.cell,λt ht=>bQ (hlk t ht),m3.objs,m3.sz,m3.gam,ku.same bF m3.dfs.1⟩ ⟨p.2.2.2.2.1.trans m4.lkS,p.2.2.2.2.2.1.trans m4.lkO,p.2.2.2.1.trans m4.nt⟩
 ·refine bg (La hE h hop hlk hev) λu w' ⟨s',S',γ',β',m0,m1,m2,m3⟩=>?_;grind
def sJ(hE:EnvOk P E){Q:Exit->Act->World->Prop}(hops:(ops.toList.all λo=>match o.op with|.store ..=>o.dst.isNone|_=>true)=true):∀ (N:Nat) (R:Type) (l:List (Nat×Oper)) {S:Nat->Nat->Prop} {γ:Nat->Option Nat} {β:Nat->Option (Nat×Nat)} {s:St} {a:Act} {w:World} (k:St->Option R) (r:R) (an:Ann),
  Rp w0 S γ β s a w->CA E s γ β (l.map Prod.snd)->(∀ (A B:List Oper) o o',l.map Prod.snd=A++o::B->o'∈B->∀ d,o'.dst=some d->o.dst≠some d)->(∀ p∈l,p.2∈ops.toList)->eN E N R ops an l s k=some r ->
  (∀ s' S' γ' β' a' w',Rp w0 S' γ' β' s' a' w'->Fm s S γ a w S' γ' a' w'->Sk s s'->k s'=some r->Q .normal a' w')->wpListIn (FW ro) nn P ops Q (l.map Prod.snd) a w:=by
 intro N
 induction N with
 | zero=>intro R l S γ β s a w k r an _ _ _ _ h;simp[eN] at h
 | succ N ih=>
  intro R l S γ β s a w k r an h hf hd hmem hev hQ;cases l with
  | nil=>
   simp only[eN] at hev;exact hQ s S γ β a w h (Fm.refl _ _ _ _ _) (Sk.refl s) hev
  | cons p l=>
   obtain⟨i,o⟩:=p;have hfo:Fr E s γ β o:=hf o (by simp)
   have hst:∀ T x y,o.op=.store T x y->o.dst=none:=λT x y e=>by
    have:=zpa.1 hops o (hmem (i,o) (by simp))
    rw[e] at this;simpa using this
   have hdo:∀ o'∈l.map Prod.snd,∀ d,o'.dst=some d->o.dst≠some d:=λo' ho'=>hd [] (l.map Prod.snd) o o' rfl ho';have hd':∀ (A B:List Oper) x x',l.map Prod.snd=A++x::B->x'∈B->∀ d,x'.dst=some d->x.dst≠some d:=λA B x x' e hx=>hd (o::A) B x x' (by simp[e]) hx
   have hmem':∀ p∈l,p.2∈ops.toList:=λp hp=>hmem p (by simp[hp])
   have run:¬ j7 s o=true->Aj E an l s o (λs'=>eN E N R ops (rK E o an) l s' k)=some r->o.wpIn (FW ro) nn P a w (wpListIn (FW ro) nn P ops Q (l.map Prod.snd)) Q:=by
    intro hlk he;have hlk':∀ t∈s.lkS,o.dst≠some t:=λt ht e=>hlk (by simp[j7,e];exact ht)
    unfold Aj at he;split at he
    ·split at he;rename_i hcr;refine wE (K:=λs1=>eN E N R ops (rK E o an) l s1 k) hE h hlk' he λu s' S' γ' β' w' m0 m1 m2 m3=>?_;have frn:CA E s' γ' β' (l.map Prod.snd):=λo' ho'=>by
      obtain⟨p,hp,rfl⟩:=z5a.1 ho';have:=zpa.1 hcr p hp;exact Bk (by simpa using this)
     exact ih R l k r _ m1 frn hd' hmem' m0 λs2 S2 γ2 β2 a2 w2 n1 n2 n3 n4=>hQ s2 S2 γ2 β2 a2 w2 n1 (m2.trans n2 m3.lkS m3.lkO) (m3.trans n3) n4;split at he<;>first|(cases he;done)|skip
     rename_i hna;refine wE (K:=λs1=>eN E N R ops (rK E o an) l (wl s1) k) hE h hlk' he λu s' S' γ' β' w' m0 m1 m2 m3=>?_;exact ih R l k r _ m1.later (Bv m1 hna λo' ho'=>hf o' (by simp only[z6a,zCa];exact .inr ho')) hd' hmem' m0 λs2 S2 γ2 β2 a2 w2 n1 n2 n3 n4=>hQ s2 S2 γ2 β2 a2 w2 n1 (m2.trans n2 m3.lkS m3.lkO) (m3.trans ⟨n3.lkS,n3.lkO,n3.nt⟩) n4
    obtain⟨s',h1,h2⟩:=wD hE h hfo (λT t _ ht=>hE.flat T t ht) hlk' hst he;obtain⟨f1,f2,f3,f4,f5,f6⟩:=h2;refine bg f6 λu w' ⟨S',γ',β',m1,m2,m3⟩=>?_;exact ih R l k r _ m1 (λo' ho'=>(hf o' (by simp only[z6a,zCa];exact .inr ho')).keep (hdo o' ho') f3 f5 m3) hd' hmem' h1 λs2 S2 γ2 β2 a2 w2 n1 n2 n3 n4=>hQ s2 S2 γ2 β2 a2 w2 n1 (m2.trans n2 f1 f2) (Sk.trans ⟨f1,f2,f4⟩ n3) n4
   obtain⟨w1,w2,w3⟩:=ql (ops:=ops) (o:=o) h;cases hg:o.guard with
   | some jw=>
    obtain⟨j,want⟩:=jw;simp only[eN,hg] at hev;split at hev<;>first|(cases hev;done)|skip
    rename_i g hgd;split at hev<;>first|(cases hev;done)|skip
    rename_i hlk;have hlk':∀ t∈s.lkS,o.dst≠some t:=λt ht e=>hlk (by simp[j7,e];exact ht)
    have p:=St.put_fields s o.dst .gone;have alt:(Region.wanted o (yielded ops a.tmps)=true/\(Aj E an l s o λs'=>eN E N R ops (rK E o an) l s' k)=some r)\/(Region.wanted o (yielded ops a.tmps)=false/\eN E N R ops (rK E o an) l (s.put o.dst .gone) k=some r):=by
     by_cases hgo:s.tm g=.gone
     ·grind [fE]
     rw[fF hgo] at hev;obtain⟨c,h1,h2⟩:=bind_some_inv hev;replace h2:=lJ (A:=λs=>Aj E an l s o λs'=>eN E N R ops (rK E o an) l s' k) (B:=λs=>eN E N R ops (rK E o an) l (s.put o.dst .gone) k) h1 h2;all_goals grind
    rcases alt with⟨hw,h2⟩|⟨hw,h2⟩
    ·simp only[z6a,wpListIn,hw,if_true];exact run hlk h2
    ·simp only[z6a,wpListIn,hw,zza,if_false];refine⟨λ_ _=>trivial,?_⟩;exact ih R l k r _ (h.put (v:=.gone) (val:=undef) (by simp[AR]) o.dst) (λo' ho'=>(hf o' (by simp only[z6a,zCa];exact .inr ho')).keep (hdo o' ho') p.2.1 (λid _ _=>by rw[p.1]) λid _=>⟨rfl,rfl⟩) hd' hmem' h2 λs2 S2 γ2 β2 a2 w2 n1 n2 n3 n4=>hQ s2 S2 γ2 β2 a2 w2 n1 (Fm.trans (s1:=s.put o.dst .gone) ⟨λ_ _ hb=>hb,λ_ _ _=>rfl,λt ht=>bQ (hlk' t ht),λ_ _ _ hb=>⟨hb,jh.refl _ _⟩,zja _,λ_ _ hb=>hb,ku.same bF (cY.refl _)⟩ n2 p.2.2.2.2.1 p.2.2.2.2.2.1) ((Sm.put s o.dst .gone).sk.trans n3) n4
   | none=>
    by_cases hgu:me E s i o l=true
    ·obtain⟨seg,jj,pk,l'',s5,s3,e1,q1,q2,q3,q4,q5,q6⟩:=II hg hgu hev;subst e1;have el:((i,o)::(seg++(jj,pk)::l'')).map Prod.snd=(o::(seg.map Prod.snd++[pk]))++l''.map Prod.snd:=by simp
     rw[el] at hf hd ⊢;refine xt hE _ _ h hf hd q4 λS2 γ2 β2 a2 w2 n1 n2 n3 n4=>?_;refine ih R l'' k r an (n1.wk q5) (λo' ho'=>?_) (λA B x x' e hx=>hd ((o::(seg.map Prod.snd++[pk]))++A) B x x' (by rw[e];simp) hx) (λp hp=>hmem p (by simp[hp])) q6 λs2 S3 γ3 β3 a3 w3 m1 m2 m3 m4=>hQ s2 S3 γ3 β3 a3 w3 m1 (n2.trans m2 (q5.lkS.trans n3.lkS) (q5.lkO.trans n3.lkO)) ((n3.trans (Sm.wk q5)).sk.trans m3) m4
     have:=n4 o' ho';intro hc d hd2;obtain⟨r1,r2,r3,r4⟩:=this hc d hd2;rw[q5.base_eq,q5.ob];exact⟨r1,r2,r3,r4⟩
    ·have hgu':me E s i o l=false:=by simpa using hgu
     simp only[eN,hg,hgu',zza,if_false] at hev;split at hev<;>first|(cases hev;done)|skip
     rename_i hlk;simp only[z6a,wpListIn,w1 hg,if_true];exact run hlk hev
end
end Sy
end
noncomputable section
namespace Sy
open Go
def mE{s:St}{d:Option Nat}{v:AV}{x:Operand}(h:∀ t,d=some t->x≠.tmp t):(s.put d v).opA x=s.opA x:=by
 cases x with
 | tmp t=>
  cases d with
  | none=>rfl
  | some d=>
   have hne:t≠d:=λe=>h d rfl (by rw[e])
   all_goals grind [St.opA,St.put]
 | const v=>rfl
 | global g=>rfl
 | func f=>rfl
section
variable{E:Env}{s s':St}
theorem kG(hob:s'.ob=s.ob)(ty:Nat->Option Ty):∀ (l:List (Nat×Operand)),(∀ p∈l,s'.opA p.2=s.opA p.2)->partsD s'.ob s' ty l=partsD s.ob s ty l
 | [],_=>rfl
 | (i,x)::l,h=>by
  have ih:=kG hob ty l (λp hp=>h p (by simp[hp]))
  simp_all [partsD,ih]
theorem og(ts:List Ty):∀ (l:List (Nat×Operand)),(∀ p∈l,s'.opA p.2=s.opA p.2)->l.all (fT s' ts)=l.all (fT s ts)
 | [],_=>rfl
 | p::l,h=>by
  simp only[zKb,og ts l (λq hq=>h q (by simp[hq])),fT,h p (by simp)]
def Av:∀ (l:List (Nat×Operand)),(∀ p∈l,s'.opA p.2=s.opA p.2)->(l.map λp=>(p.1,s'.opA p.2))=l.map λp=>(p.1,s.opA p.2):=λl h=>
 zZb λp hp=>by rw[h p hp]
def lW{o:Oper}(hob:s'.ob=s.ob)(hf:s'.fresh=s.fresh)(h:∀ x∈o.op.operands,s'.opA x=s.opA x):qv E s' o some=qv E s o some:=by
 have hb:s'.base=s.base:=by simp only[St.base,hf]
 obtain⟨dst,op,ty,pos,after,guard⟩:=o;have parts:∀ ps:Array (Nat×Operand),(∀ x∈(ps.toList.map Prod.snd).toArray,s'.opA x=s.opA x)->∀ p∈ps.toList,s'.opA p.2=s.opA p.2:=λps hp p hm=>hp p.2 (by rw[List.mem_toArray];exact zec hm)
 cases op
 case move x=>simp only[qv,h x (by simp[Op.operands])]
 case assign x=>simp only[qv,h x (by simp[Op.operands])]
 case pick c x y=>simp only[qv,h c (by simp[Op.operands]),h x (by simp[Op.operands]),h y (by simp[Op.operands])]
 case alloc T=>simp only[qv,hb]
 case build T ps=>
  have hp:=parts ps h;simp only[qv,kG hob _ _ hp,og _ _ hp,Av _ hp]
 case buildSlice T n ps=>
  have hp:=parts ps h;simp only[qv,kG hob _ _ hp,hb]
 case load T x=>simp only[qv,h x (by simp[Op.operands]),hob]
 case lookup T x i c=>simp only[qv,h x (by simp[Op.operands]),h i (by simp[Op.operands]),hob]
 case nilCheck x=>simp only[qv,h x (by simp[Op.operands])]
 case binOp op T x y T'=>simp only[qv,h x (by simp[Op.operands]),h y (by simp[Op.operands])]
 case unOp op T x=>simp only[qv,h x (by simp[Op.operands])]
 case convert U T x=>simp only[qv,h x (by simp[Op.operands])]
 case makeFunc fn x y=>
  have hy:∀ z∈y.toList,s'.opA z=s.opA z:=λz hz=>h z (by simp only[Op.operands,Array.mem_append];exact .inr (by simpa using hz))
  have e1:(y.toList.all λz=>fW (s'.opA z))=y.toList.all λz=>fW (s.opA z):=by
   grind
  have e2:y.toList.map s'.opA=y.toList.map s.opA:=zZb hy;simp only[qv,e1,e2]
 case slice T x lo hi mx=>
  have e0:=h x (by simp[Op.operands])
  cases mx with
  | some m=>simp only[qv]
  | none=>
   cases lo with
   | none=>
    cases hi with
    | none=>simp only[qv,e0,hob]
    | some j=>simp only[qv,e0,hob,h j (by simp[Op.operands])]
   | some i=>
    cases hi with
    | none=>simp only[qv,e0,hob,h i (by simp[Op.operands])]
    | some j=>simp only[qv,e0,hob,h i (by simp[Op.operands]),h j (by simp[Op.operands])]
 case sliceToArrayPointer T x=>simp only[qv,h x (by simp[Op.operands]),hob]
 case fieldAddr T x f=>simp only[qv,h x (by simp[Op.operands])]
 case field T x f=>simp only[qv,h x (by simp[Op.operands])]
 case indexAddr T x i=>simp only[qv,h x (by simp[Op.operands]),h i (by simp[Op.operands]),hob]
 case index T x i=>simp only[qv,h x (by simp[Op.operands]),h i (by simp[Op.operands])]
 case extract x i=>simp only[qv,h x (by simp[Op.operands])]
 case call c=>
  obtain⟨callee,args,argTypes⟩:=c;have ha:∀ z∈args.toList,s'.opA z=s.opA z:=λz hz=>h z (by simp only[Op.operands,Call.operands,Array.mem_append];exact .inr (by simpa using hz))
  have e2:args.toList.map s'.opA=args.toList.map s.opA:=zZb ha;cases callee with
  | invoke r m=>rfl
  | value f=>
   cases f with
   | tmp t=>
    have e3:s'.tm t=s.tm t:=h (.tmp t) (by simp[Op.operands,Call.operands])
    simp only[qv,e2,e3,hob]
   | func f=>simp only[qv,e2,hob]
   | const v=>rfl
   | global g=>rfl
  | builtin b=>
   cases b<;>first|rfl|skip
   case len=>
    simp only[qv];cases hT:argTypes[0]? with
    | none=>rfl
    | some T=>
     cases hx:args[0]? with
     | none=>rfl
     | some x=>
      have:=ha x (zNb.2 (z6b hx));simp only[zba,hob];all_goals grind
   case min=>
    simp only[qv];all_goals grind
   case max=>
    simp only[qv];all_goals grind
 all_goals rfl
def tH{s:St}{d:Option Nat}{v:AV}{t:Nat}(h:d≠some t):(s.put d v).tm t=s.tm t:=by
 have:=mE (s:=s) (d:=d) (v:=v) (x:=.tmp t) (λu hu e=>h (by cases e;exact hu))
 exact this
def Cu{ops:Array Oper}{o:Oper}{d:Option Nat}{v:AV}(h:∀ t,d=some t->t ∉ o.looksAt ops):val E ops (s.put d v) o=val E ops s o:=by
 obtain⟨p1,p2,p3,p4,p5,p6,p7⟩:=St.put_fields s d v;have e1:j7 (s.put d v) o=j7 s o:=by simp only[j7,p5]
 have e2:qv E (s.put d v) o some=qv E s o some:=lW p1 p2 λx hx=>mE λt ht e=>h t ht (by
  subst e;exact znb _ (z0c.2 ⟨.tmp t,by simpa using hx,rfl⟩))
 unfold val;rw[e1,e2];cases hg:o.guard with
 | none=>rfl
 | some p=>
  obtain⟨j,want⟩:=p;simp only;cases hgd:(ops[j]?).bind (·.dst) with
  | none=>rfl
  | some g=>
   have e3:(s.put d v).tm g=s.tm g:=tH λe=>h g e (by
    unfold Oper.looksAt;rw[hg];exact zjb _ (by simp[hgd]))
   simp_all
def zi{s:St}{x y:Option Nat}(v u:AV)(h:∀ d,x=some d->y≠some d):(s.put x v).put y u=(s.put y u).put x v:=by
 cases x with
 | none=>rfl
 | some d=>
  cases y with
  | none=>rfl
  | some e=>
   have hne:d≠e:=λhe=>h d rfl (he ▸ rfl);by_cases h1:d<s.nt
   ·by_cases h2:e<s.nt
    ·simp only[St.put,h1,h2,if_true];all_goals grind
    ·grind [St.put]
   ·grind [St.put]
end
end Sy
end
noncomputable section
namespace Sy
open Go
variable{ro:Option Nat}{nn:Nat}
section
variable{E:Env}{ops:Array Oper}{md:Region.Mode}
def zA(E:Env)(ops:Array Oper)(i:Nat)(K:St->Prop)(s:St):Prop:=
 match ops[i]? with
 | none=>K s
 | some o=>∃ v,val E ops s o=some v/\K (s.put o.dst v)
def CW(E:Env)(md:Region.Mode)(ops:Array Oper)(n:Nat)(L:Array Bool->St->Prop):Nat->Array Bool->St->Prop
 | 0,listed,s=>L listed s
 | f+1,listed,s=>Region.ready md ops listed≠[]/\∀ i∈Region.ready md ops listed,i<n/\zA E ops i (CW E md ops n L f (listed.setIfInBounds i true)) s
def ls(md:Region.Mode)(ops:Array Oper)(n:Nat):Prop:=∀ listed i,HeadInv md ops n listed->i<n->listed.getD i true=false->∀ t,n<=t->t ∉ Region.ready md ops listed
def sZ{n i:Nat}{oi:Oper}{v:AV}{L:Array Bool->St->Prop}(hi:ops[i]?=some oi)(hW:ls md ops n)(hin:i<n)
  (hdone:∀ listed s,L listed s->∀ j∈Region.ready md ops listed,n<=j) :
  ∀ (f:Nat) (listed:Array Bool) (s:St),HeadInv md ops n listed ->
   (∀ j oj,j<n->ops[j]?=some oj->j≠i->listed.getD j true=false->(∀ e∈oj.after,Region.binds md e=true->e.on≠i)->oi.apart ops oj=true) ->
   i∈Region.ready md ops listed->val E ops s oi=some v ->
   CW E md ops n L f (listed.setIfInBounds i true) (s.put oi.dst v)->CW E md ops n L (f+1) listed s:=by
 intro f
 induction f with
 | zero=>
  intro listed s inv _ hr hy H;have hun:=(mem_ready.1 hr).1;refine⟨λh=>(by rw[h] at hr;cases hr),λj hj=>?_⟩
  have hjn:j<n:=by
   rcases zna j n with h|h
   ·exact h
   ·exact absurd hj (hW _ _ inv hin hun j h)
  refine⟨hjn,?_⟩;by_cases hji:j=i
  ·simp_all [zA]
  ·have:=hdone _ _ H j (ready_mono hj hji);omega
 | succ f ih=>
  intro listed s inv hfree hr hy H;have hun:=(mem_ready.1 hr).1;refine⟨λh=>(by rw[h] at hr;cases hr),λj hj=>?_⟩
  have hjn:j<n:=by
   rcases zna j n with h|h
   ·exact h
   ·exact absurd hj (hW _ _ inv hin hun j h)
  refine⟨hjn,?_⟩;by_cases hji:j=i
  ·simp_all [zA]
  ·have h1:=(H.2 j (ready_mono hj hji)).2;obtain⟨hjun,oj,hoj,hall⟩:=mem_ready.1 hj;have hnot:∀ e∈oj.after,Region.binds md e=true->e.on≠i:=λe he hb heq=>by
    grind
   obtain⟨a1,a2,a3⟩:=Oper.apart_spec (hfree j oj hjn hoj hji hjun hnot);unfold zA at h1 ⊢;rw[hoj] at h1 ⊢;obtain⟨u,k1,k2⟩:=h1;rw[Cu a1] at k1;refine⟨u,k1,ih (listed.setIfInBounds j true) (s.put oj.dst u) (inv.set hj hjn) (λk ok hkn hk hki hun hno=>?_) (ready_mono hr (Ne.symm hji)) ?_ ?_⟩
   ·refine hfree k ok hkn hk hki ?_ hno;by_cases hjk:j=k
    ·simp_all
    ·simp_all
   ·rw[Cu a3];exact hy
   ·rw[Array.setIfInBounds_comm _ _ hji,zi u v (λd hd he=>a2 d he hd)];exact k2
theorem yF{n g:Nat}{Lq:St->Prop}(hW:ls md ops n) :
  ∀ (l:List Oper) (k:Nat) (listed:Array Bool) (s s':St),(∀ j,j<l.length->l[j]?=ops[k+j]?)->k+l.length=n->HeadInv md ops n listed ->
  Region.lexHead md ops g l.length k listed=true->seqV E ops l s=some s'->Lq s' ->
  CW E md ops n (λlisted' s'=>Region.seqB md ops g n listed'=true/\Lq s') l.length listed s
 | [],k,listed,s,s',_,hk,_,hB,h,hL=>by
  have:k=n:=by simpa using hk
  subst this;simp only[seqV,zda] at h;subst h;exact⟨by simpa [Region.lexHead] using hB,hL⟩
 | o::l,k,listed,s,s',hl,hk,inv,hB,h,hL=>by
  have h0:ops[k]?=some o:=by simpa using(hl 0 (by simp)).symm
  simp only[zBa,Region.lexHead,zaa] at hB;obtain⟨⟨hr,hf⟩,hB'⟩:=hB;have hkn:k<n:=by grind
  have hr':k∈Region.ready md ops listed:=by simpa using hr
  simp only[seqV] at h;obtain⟨v,h1,h2⟩:=bind_some_inv h;exact sZ h0 hW hkn (λlisted' s' hL=>seqB_ready hL.1) l.length listed s inv (λj oj _=>Region.free_spec h0 hf j oj) hr' h1
   (yF hW l (k+1) _ _ s' (λj hj=>by have:=hl (j+1) (by simp;omega);simpa [zAb,zEc 1 j] using this) (by simp only[zBa] at hk;omega) (inv.set hr' hkn) hB' h2 hL)
end
section
variable{P:Program}{E:Env}{w0:Root}{ops:Array Oper}
theorem gJ(hE:EnvOk P E){md:Region.Mode}{n g:Nat}{L:Array Bool->St->Prop}{Q:Exit->Act->World->Prop}{s0:St}{S0:Nat->Nat->Prop}{γ0:Nat->Option Nat}{a0:Act}{w1:World}
  (hd:∀ (i j:Nat) (oi oj:Oper),i≠j->ops[i]?=some oi->ops[j]?=some oj->∀ d,oj.dst=some d->oi.dst≠some d)
  (hL:∀ listed s S γ β a w,Rp w0 S γ β s a w->Fm s0 S0 γ0 a0 w1 S γ a w->Sm s0 s->(∀ j oj,ops[j]?=some oj->listed.getD j true=false->Fr E s γ β oj)->L listed s->wpAnyIn (FW ro) nn P md ops Q g listed a w) :
  ∀ (f:Nat) (listed:Array Bool) (s:St) (S:Nat->Nat->Prop) (γ:Nat->Option Nat) (β:Nat->Option (Nat×Nat)) (a:Act) (w:World),Rp w0 S γ β s a w->Fm s0 S0 γ0 a0 w1 S γ a w->Sm s0 s ->
   (∀ j oj,ops[j]?=some oj->listed.getD j true=false->Fr E s γ β oj)->CW E md ops n L f listed s->wpAnyIn (FW ro) nn P md ops Q (f+g) listed a w
 | 0,listed,s,S,γ,β,a,w,h,hF,hS,hfr,hh=>by rw[z9a];exact hL _ _ _ _ _ _ _ h hF hS hfr hh
 | f+1,listed,s,S,γ,β,a,w,h,hF,hS,hfr,hh=>by
  rw[show f+1+g=(f+g)+1 by omega]
  refine⟨λh0=>absurd h0 hh.1,λi hi=>?_⟩;obtain⟨_,hst⟩:=hh.2 i hi;have hun:=(mem_ready.1 hi).1;unfold zA at hst;unfold wpOpIn;cases ho:ops[i]? with
  | none=>
   obtain⟨_,o,ho',_⟩:=mem_ready.1 hi;rw[ho] at ho';cases ho'
  | some o=>
   rw[ho] at hst;simp only at hst ⊢;obtain⟨v,h1,h2⟩:=hst;obtain⟨k1,k2⟩:=xD hE h (hfr i o ho hun) h1;have p:=St.put_fields s o.dst v;have frn:∀ {γ':Nat->Option Nat} {β':Nat->Option (Nat×Nat)},(∀ id,o.dst≠some (id-s.base)\/id<s.base->γ' id=γ id/\β' id=β id)->∀ j oj,ops[j]?=some oj->(listed.setIfInBounds i true).getD j true=false->Fr E (s.put o.dst v) γ' β' oj:=λhk j oj hj hu=>by
    by_cases hij:i=j
    ·subst hij;exfalso;rcases zna i listed.size with hlt|hge
     ·simp[Array.getD,hlt] at hu
     ·simp[Array.getD,hge,zzc.2 hge] at hu
    ·rw[getD_set_ne true hij] at hu;exact(hfr j oj hj hu).keep (λd hdj=>hd i j o oj hij ho hj d hdj) p.2.1 (λid _ _=>by rw[p.1]) hk
   split
   ·rename_i hw;refine(bg (k1 hw) λu w' ⟨S',γ',β',m1,m2,m3⟩=>?_);exact gJ hE hd hL f _ _ S' γ' β' _ _ m1 (hF.trans m2 hS.lkS hS.lkO) (hS.trans (Sm.put s o.dst v)) (frn m3) h2
   ·rename_i hw;obtain⟨m1,m2⟩:=k2 (by simpa using hw)
    refine⟨λ_ _=>trivial,?_⟩;exact gJ hE hd hL f _ _ S γ β _ _ m1 (hF.trans m2 hS.lkS hS.lkO) (hS.trans (Sm.put s o.dst v)) (frn λid _=>⟨rfl,rfl⟩) h2
theorem tA:∀ {l:List Nat},df l=true->∀ A B x y,l=A++x::B->y∈B->y≠x
 | [],_,A,B,x,y,e,_=>by simp at e
 | a::l,h,A,B,x,y,e,hy=>by
  simp only[df,zaa,zLa] at h;cases A with
  | nil=>
   grind
  | cons a' A=>
   simp only[zdb,List.cons.injEq] at e;exact tA h.2 A B x y e.2 hy
def eG{l:List Oper}(h:df (l.filterMap (·.dst))=true)(A B:List Oper)(o o':Oper)(e:l=A++o::B)(ho:o'∈B)(d:Nat)(hd:o'.dst=some d):o.dst≠some d:=by
 intro hod;subst e;have e2:(A++o::B).filterMap (·.dst)=A.filterMap (·.dst)++d::B.filterMap (·.dst):=by
  simp_all
 exact tA h _ _ d d e2 (z0c.2 ⟨o',ho,hd⟩) rfl
def gO{l:List Oper}(h:df (l.filterMap (·.dst))=true){i j:Nat}{oi oj:Oper}(hij:i≠j)(hi:l[i]?=some oi)(hj:l[j]?=some oj)(d:Nat)(hd:oj.dst=some d):oi.dst≠some d:=by
 obtain⟨hi1,hi2⟩:=zla.1 hi;obtain⟨hj1,hj2⟩:=zla.1 hj;rcases zna i j with hlt|hge
 ·refine eG h (l.take i) (l.drop (i+1)) oi oj ?_ ?_ d hd
  ·grind [List.drop_eq_getElem_cons,List.take_append_drop]
  ·refine z8a (i:=j-(i+1)) ?_;grind
 ·intro hod;refine eG h (l.take j) (l.drop (j+1)) oj oi ?_ ?_ d hod hd
  ·grind [List.drop_eq_getElem_cons,List.take_append_drop]
  ·refine z8a (i:=i-(j+1)) ?_;grind
theorem aY:∀ (l:List Oper) (i:Nat),(aQ i l).map Prod.snd=l
 | [],_=>rfl
 | o::l,i=>by simp only[aQ,z6a,aY l (i+1)]
def iS{l:List Oper}{i:Nat}{p:Nat×Oper}(h:p∈aQ i l):p.2∈l:=by
 have:p.2∈(aQ i l).map Prod.snd:=zec h
 rwa [aY] at this
theorem gI:∀ (l:List Oper) (i:Nat),(aQ i l).length=l.length
 | [],_=>rfl
 | o::l,i=>by simp only[aQ,zBa,gI l (i+1)]
def DA(hE:EnvOk P E){id:Nat}{dr:Bool}{n:Nat}{Q:Exit->Act->World->Prop}{S:Nat->Nat->Prop}{γ:Nat->Option Nat}{β:Nat->Option (Nat×Nat)}{s:St}{a:Act}{w:World}{R:Type}{k:St->Option R}{r:R}{N:Nat}
  (h:Rp w0 S γ β s a w) (hf:CA E s γ β ops.toList) (hm:bP ops.toList=true) (hdr:(!dr||pC E ops n)=true) {an:Ann} (hev:eN E N R ops an (aQ 0 ops.toList) s k=some r)
  (hQ:∀ s' S' γ' β' a' w',Rp w0 S' γ' β' s' a' w'->Fm s S γ a w S' γ' a' w'->Sk s s'->k s'=some r->Q .normal a' w'):(Code.region id ops dr).wpIn (FW ro) nn P Q a w:=by
 simp only[bP,zaa] at hm;obtain⟨⟨hm1,hm2⟩,hm3⟩:=hm;have hstores:(ops.toList.all λo=>match o.op with|.store ..=>o.dst.isNone|_=>true)=true:=hm3
 cases dr with
 | false=>
  refine wpIn_region_list ?_;have:=sJ (ro:=ro) (nn:=nn) (ops:=ops) hE hstores N R (aQ 0 ops.toList) k r an h (by rw[aY];exact hf) (by rw[aY];exact λA B o o' e ho d hd=>eG hm1 A B o o' e ho d hd) (λp hp=>iS hp) hev hQ
  rwa [aY] at this
 | true=>
  simp only[zac,zwd,pC,zaa] at hdr;obtain⟨⟨⟨⟨⟨d0,d1⟩,d2⟩,d3⟩,d4⟩,d5⟩:=hdr;have hn:n<=ops.size:=by
   simp only[zHb,decide_eq_true_eq,zaa] at d3;rcases d3 with d3|d3
   ·omega
   ·omega
  have hW:ls .any ops n:=by
   intro listed i inv hin hun t ht hr;simp only[zHb,decide_eq_true_eq,zaa] at d3;rcases d3 with d3|⟨⟨d3,d6⟩,d7⟩
   ·obtain⟨_,o,ho,_⟩:=mem_ready.1 hr;have:=(zfa.1 ho).1;omega
   ·exact tail_waits d6 d7 d3 inv _ i rfl hin hun t ht hr
  obtain⟨s',s'',N',q1,q2,q3⟩:=sH N R (aQ 0 ops.toList) s k r n an (by rw[gI,zIb];exact hn) (λp hp=>by
    have hp':p.2∈ops.toList.take n:=by
     have:p.2∈((aQ 0 ops.toList).take n).map Prod.snd:=zec hp
     rwa [List.map_take,aY] at this
    exact⟨zpa.1 d4 _ hp',by simpa using zpa.1 d0 _ hp'⟩) (.inl λp hp c x y e=>by
    have hp':p.2∈ops.toList.drop n:=by
     have:p.2∈((aQ 0 ops.toList).drop n).map Prod.snd:=zec hp
     rwa [z9b,aY] at this
    have:=zpa.1 d5 _ hp';simp only[zaa] at this;have h2:=this.2;rw[e] at h2;cases h2) hev
  rw[List.map_take,aY] at q1;refine wpIn_region_any hE.mixed ?_;have hg:∃ os d,w.drawn<=d/\({ w with drawn:=w.drawn+1 }:World)=grown w os d:=⟨[],w.drawn+1,ztc _,by simp[grown]⟩
  obtain⟨os,d,hdr,hg⟩:=hg;obtain⟨g1,g2⟩:=h.grow (os:=os) (d:=d) hdr (S':=S) (λ_ _ hb=>hb) (λ_ _ hb=>.inl hb);rw[hg];have hlen:(ops.toList.take n).length=n:=by simp;omega
  have inv0:HeadInv .any ops n (Array.replicate ops.size false):=
   ⟨by simp,λj oj _ hl=>(by rw[getD_replicate_false] at hl;cases hl),λt _ ht=>getD_in (by simpa using ht) (getD_replicate_false _ _)⟩
  have H:=yF (E:=E) (md:=.any) (g:=ops.size-n) (Lq:=λs=>s=s') hW (ops.toList.take n) 0 (Array.replicate ops.size false) s s' (λj hj=>by
   rw[hlen] at hj;rw[zvb hj,z9a,zya]) (by rw[hlen,z9a]) inv0 (by rw[hlen];exact d2) q1 rfl
  have hdl:(ops.toList.drop n).length=ops.size-n:=by simp
  have:=gJ (ro:=ro) (nn:=nn) (Q:=Q) (g:=ops.size-n) hE (s0:=s) (S0:=S) (γ0:=γ) (a0:=a) (w1:=grown w os d) (λi j oi oj hij hi hj d hd=>gO hm1 hij (by rw[zya];exact hi) (by rw[zya];exact hj) d hd)
   (λlisted s2 S2 γ2 β2 a2 w2 m1 m2 m3 m4 m5=>by
    obtain⟨m5,m6⟩:=m5;subst m6;have hseq:=gb (F:=FW ro) (n:=nn) (P:=P) (md:=.any) (ops:=ops) (Q':=Q) (ops.toList.drop n) n listed a2 w2 (λj=>by rw[zgb,zya]) (by rw[hdl];exact m5) ?_
    ·rwa [hdl] at hseq
    have hunl:∀ j oj,ops[j]?=some oj->n<=j->listed.getD j true=false:=by
     intro j oj hj hnj;have key:∀ (g k:Nat) (listed:Array Bool),Region.seqB .any ops g k listed=true->∀ j,k<=j->j<k+g->listed.getD j true=false:=by
      intro g
      induction g with
      | zero=>intro k listed _ j h1 h2;omega
      | succ g ih=>
       intro k listed hB j h1 h2;simp only[Region.seqB,zaa,decide_eq_true_eq] at hB;by_cases hjk:j=k
       ·subst hjk;have:j∈Region.ready .any ops listed:=by rw[hB.1];simp
        exact(mem_ready.1 this).1
       ·have:=ih (k+1) _ hB.2 j (by omega) (by omega)
        rwa [getD_set_ne true (Ne.symm hjk)] at this
     have hjlt:=(zfa.1 hj).1;exact key _ _ _ m5 j hnj (by omega)
    have hsub:∀ o∈ops.toList.drop n,Fr E s'' γ2 β2 o:=λo ho=>by
     obtain⟨i,hi,he⟩:=zTa ho;have hi2:ops[n+i]?=some o:=by
      have:(ops.toList.drop n)[i]?=some o:=by rw[zca hi,he]
      rwa [zgb,zya] at this
     have:=m4 (n+i) o hi2 (hunl _ _ hi2 (by omega))
     intro hc d hd;obtain⟨r1,r2,r3,r4⟩:=this hc d hd;rw[q2.base_eq,q2.ob];exact⟨r1,r2,r3,r4⟩
    have fin:=sJ (ro:=ro) (nn:=nn) (ops:=ops) hE (Q:=Q) hstores N' R ((aQ 0 ops.toList).drop n) k r an (m1.wk q2) (by rw[z9b,aY];exact hsub)
     (by
      rw[z9b,aY];intro A B o o' e ho d hd;exact eG hm1 (ops.toList.take n++A) B o o' (by rw[zOa,<-e,zoa]) ho d hd)
     (λp hp=>iS (zMb hp)) q3 (λs3 S3 γ3 β3 a3 w3 n1 n2 n3 n4=>by
      refine hQ s3 S3 γ3 β3 a3 w3 n1 ?_ ((m3.trans (Sm.wk q2)).sk.trans n3) n4;have f0:Fm s S γ a w S γ a (grown w os d):=⟨λ_ _ hb=>hb,g2.cell,λ_ _=>rfl,λid hid b hb=>⟨hb,.inl (cJ (h.γn id b hb).2)⟩,by simp,λ_ _ hb=>hb,ku.same rfl cY.grown⟩
      exact(f0.trans m2 rfl rfl).trans n2 (q2.lkS.trans m3.lkS) (q2.lkO.trans m3.lkO))
    rwa [z9b,aY] at fin)
   (ops.toList.take n).length (Array.replicate ops.size false) s S γ β a (grown w os d) g1 (Fm.refl _ _ _ _ _) (Sm.refl s) (λj oj hj _=>hf oj (zNb.2 (z6b hj))) H
  rw[hlen,show n+(ops.size-n)=ops.size by omega] at this
  exact this
end
end Sy
end
noncomputable section
namespace Sy
open Go
mutual
theorem xq:∀ (a a':AV),AV.same a a'=true->a=a'
 | .ptr t id p,a',h=>by
  cases a'<;>simp only[AV.same,zaa,decide_eq_true_eq] at h<;>first|(cases h;done)|skip
  grind [Ty.eq_of_beq]
 | .mem t id,a',h=>by
  cases a'<;>simp only[AV.same,zaa,decide_eq_true_eq] at h<;>first|(cases h;done)|skip
  grind [Ty.eq_of_beq]
 | .clo f l,a',h=>by
  cases a'<;>simp only[AV.same,zaa,decide_eq_true_eq] at h<;>first|(cases h;done)|skip
  obtain⟨rfl,h1⟩:=h;rw[zu _ _ h1]
 | .map kt vt id,a',h=>by
  cases a'<;>simp only[AV.same,zaa,decide_eq_true_eq] at h<;>first|(cases h;done)|skip
  grind [Ty.eq_of_beq]
 | .yld id,a',h=>by
  cases a'<;>simp only[AV.same,decide_eq_true_eq] at h<;>first|(cases h;done)|skip
  subst h;rfl
 | .d ..,a',h=>by simp[AV.same] at h
 | .own ..,a',h=>by simp[AV.same] at h
 | .nils,a',h=>by simp[AV.same] at h
 | .fptr ..,a',h=>by simp[AV.same] at h
 | .st ..,a',h=>by simp[AV.same] at h
 | .undef,a',h=>by simp[AV.same] at h
theorem zu:∀ (l l':List AV),AV.sames l l'=true->l=l'
 | [],l',h=>by grind [AV.sames]
 | a::l,l',h=>by
  cases l' with
  | nil=>simp[AV.sames] at h
  | cons a' l'=>
   simp only[AV.sames,zaa] at h;rw[xq _ _ h.1,zu _ _ h.2]
end
structure Two(n:Nat)(c c':Cx):Prop where
 w:c'.w=c.w
 S:c'.S=c.S
 γ:∀ id,id<n->c'.γ id=c.γ id
 ob:∀ id,id<n->∀ o',c'.ob id=some o'->∃ o,c.ob id=some o/\(∀ p,fB o' p=fB o p/\cE o' p=cE o p)/\(∀ t l,o=.many t l->∃ l',o'=.many t l'/\l'.length=l.length)/\∀ kt vt l,o=.mp kt vt l->∃ l',o'=.mp kt vt l'
mutual
theorem Fx{n:Nat}{c c':Cx}(h:Two n c c'):∀ (a:AV) (cs:List Value),AV.old n a=true->AC c a cs->AC c' a cs
 | .ptr t id p,cs,ho,k=>by
  simp only[AV.old,decide_eq_true_eq] at ho;simp only[AC] at k ⊢;obtain⟨b,off,rfl,k1,k2⟩:=k;refine⟨b,off,rfl,by rw[h.γ id ho];exact k1,λo' ho'=>?_⟩
  obtain⟨o,h1,h2,_⟩:=h.ob id ho o' ho'
  simp_all
 | .mem t id,cs,ho,k=>by
  simp only[AV.old,decide_eq_true_eq] at ho;simp only[AC] at k ⊢;obtain⟨k0,b,k1,k2⟩:=k;refine⟨k0,b,by rw[h.γ id ho];exact k1,λo' ho'=>?_⟩
  obtain⟨o,h1,_,h3,_⟩:=h.ob id ho o' ho';grind
 | .map kt vt id,cs,ho,k=>by
  simp only[AV.old,decide_eq_true_eq] at ho;simp only[AC] at k ⊢;obtain⟨b,e,k1,k2,k3,k4⟩:=k;refine⟨b,e,by rw[h.γ id ho];exact k1,k2,k3,λo' ho'=>?_⟩
  obtain⟨o,h1,_,_,h3⟩:=h.ob id ho o' ho';grind
 | .yld id,cs,ho,k=>by
  simp only[AV.old,decide_eq_true_eq] at ho;simp only[AC] at k ⊢;obtain⟨L,rfl,k1⟩:=k;exact⟨L,rfl,by rw[h.γ id ho];exact k1⟩
 | .clo f l,cs,ho,k=>by
  simp only[AV.old] at ho;simp only[AC] at k ⊢;obtain⟨caps,rfl,k1⟩:=k;exact⟨caps,rfl,Cc h l caps ho k1⟩
 | .d ..,_,ho,_=>by simp[AV.old] at ho
 | .own ..,_,ho,_=>by simp[AV.old] at ho
 | .nils,_,ho,_=>by simp[AV.old] at ho
 | .fptr ..,_,ho,_=>by simp[AV.old] at ho
 | .st ..,_,ho,_=>by simp[AV.old] at ho
 | .undef,_,ho,_=>by simp[AV.old] at ho
theorem Cc{n:Nat}{c c':Cx}(h:Two n c c'):∀ (l:List AV) (cs:List Value),AV.olds n l=true->mX c l cs->mX c' l cs
 | [],cs,_,k=>by simpa only[mX] using k
 | a::l,cs,ho,k=>by
  simp only[AV.olds,zaa] at ho;simp only[mX] at k ⊢;obtain⟨v,c2,rfl,k1,k2⟩:=k;exact⟨v,c2,rfl,Fx h a _ ho.1 k1,Cc h l c2 ho.2 k2⟩
end
mutual
def Sh.tkp:Sh->AV->Nat->List (Nat×Nat)
 | .ow _,.own _ v _,j=>[(j,v)]
 | .st _ l,.st _ l',j=>Sh.tkps l l' j
 | _,_,_=>[]
def Sh.tkps:List Sh->List AV->Nat->List (Nat×Nat)
 | h::l,a::l',j=>Sh.tkp h a j++Sh.tkps l l' (j+h.cnt)
 | _,_,_=>[]
end
mutual
theorem xC:∀ (h:Sh) (a:AV) (j:Nat),(Sh.tkp h a j).map Prod.snd=Sh.toks h a
 | .ow _,a,j=>by cases a<;>rfl
 | .st _ l,a,j=>by cases a<;>first|rfl|exact zI l _ j
 | .dv _,a,j=>by cases a<;>rfl
 | .same _,a,j=>by cases a<;>rfl
theorem zI:∀ (l:List Sh) (l':List AV) (j:Nat),(Sh.tkps l l' j).map Prod.snd=Sh.tokss l l'
 | [],l',j=>by cases l'<;>rfl
 | h::l,[],j=>rfl
 | h::l,a::l',j=>by
  simp only[Sh.tkps,Sh.tokss,zPb,xC h a j,zI l l' _]
end
def Pl(l:List (Nat×Nat))(i j:Nat):Prop:=(∀ p∈l,i<=p.1/\p.1<j)/\∀ p∈l,∀ q∈l,p.1=q.1->p=q
def Pl.nil(i j:Nat):Pl [] i j:=⟨λp h=>(by cases h),λp h=>(by cases h)⟩
def Pl.append{l l':List (Nat×Nat)}{i j k:Nat}(h:Pl l i j)(h':Pl l' j k)(h1:i<=j)(h2:j<=k):Pl (l++l') i k:=by
 refine⟨λp hp=>?_,λp hp q hq e=>?_⟩
 ·rcases zDa.1 hp with hp|hp
  ·have:=h.1 p hp;omega
  ·have:=h'.1 p hp;omega
 ·rcases zDa.1 hp with hp|hp<;>rcases zDa.1 hq with hq|hq
  ·exact h.2 p hp q hq e
  ·have:=h.1 p hp;have:=h'.1 q hq;omega
  ·have:=h'.1 p hp;have:=h.1 q hq;omega
  ·exact h'.2 p hp q hq e
mutual
theorem A9:∀ (h:Sh) (a:AV) (j:Nat),Pl (Sh.tkp h a j) j (j+h.cnt)
 | .ow _,a,j=>by
  cases a<;>first
   | exact Pl.nil _ _
   | exact⟨λp hp=>by simp[Sh.tkp] at hp;subst hp;simp[Sh.cnt],λp hp q hq _=>by simp[Sh.tkp] at hp hq;rw[hp,hq]⟩
 | .st _ l,a,j=>by
  cases a<;>first
   | exact Pl.nil _ _
   | (simp only[Sh.tkp,Sh.cnt];exact Cq l _ j)
 | .dv _,a,j=>by cases a<;>exact Pl.nil _ _
 | .same _,a,j=>by cases a<;>exact Pl.nil _ _
theorem Cq:∀ (l:List Sh) (l':List AV) (j:Nat),Pl (Sh.tkps l l' j) j (j+Sh.cnts l)
 | [],l',j=>by cases l'<;>exact Pl.nil _ _
 | h::l,[],j=>Pl.nil _ _
 | h::l,a::l',j=>by
  simp only[Sh.tkps,Sh.cnts];rw[show j+(h.cnt+Sh.cnts l)=j+h.cnt+Sh.cnts l by omega]
  exact(A9 h a j).append (Cq l l' _) (by omega) (by omega)
end
mutual
theorem ms{ob:Nat->Option Ob}{dead:List Nat}:∀ (h:Sh) (a:AV) (x:List D),Sh.dec ob dead h a=some x->x.length=h.cnt
 | .dv t,a,x,e=>by
  have e':((AV.toD ob t a).bind λx=>some [x])=some x:=by cases a<;>exact e
  obtain⟨y,_,h2⟩:=bind_some_inv e';simp only[zda] at h2;subst h2;rfl
 | .ow t,a,x,e=>by
  cases a<;>simp only[Sh.dec] at e<;>first|(cases e;done)|skip
  ·split at e<;>first|(cases e;done)|skip
   simp only[zda] at e;subst e;rfl
  ·simp only[zda] at e;subst e;rfl
 | .same b,a,x,e=>by
  have e':(if AV.same b a then some ([]:List D) else none)=some x:=by cases a<;>exact e
  split at e'<;>first|(cases e';done)|skip
  simp only[zda] at e';subst e';rfl
 | .st ts l,a,x,e=>by
  cases a<;>simp only[Sh.dec] at e<;>first|(cases e;done)|skip
  split at e<;>first|(cases e;done)|skip
  exact yj l _ x e
theorem yj{ob:Nat->Option Ob}{dead:List Nat}:∀ (l:List Sh) (l':List AV) (x:List D),Sh.decs ob dead l l'=some x->x.length=Sh.cnts l
 | [],l',x,e=>by
  cases l'<;>simp only[Sh.decs] at e<;>first|(cases e;done)|skip
  simp only[zda] at e;subst e;rfl
 | h::l,[],x,e=>by simp[Sh.decs] at e
 | h::l,a::l',x,e=>by
  simp only[Sh.decs] at e;obtain⟨y,h1,e⟩:=bind_some_inv e;obtain⟨z,h2,e⟩:=bind_some_inv e;simp only[zda] at e;subst e;simp only[zva,ms h a y h1,yj l l' z h2,Sh.cnts]
end
mutual
theorem pw{ob:Nat->Option Ob}{dead:List Nat}:∀ (h:Sh) (a:AV) (x:List D),Sh.dec ob dead h a=some x->∀ v∈Sh.toks h a,v ∉ dead
 | .dv t,a,x,e=>by simp_all [Sh.toks]
 | .ow t,a,x,e=>by
  intro v hv;cases a<;>simp only[Sh.toks,zxc,zIa] at hv;subst hv;simp only[Sh.dec] at e
  simp_all
 | .same b,a,x,e=>by simp_all [Sh.toks]
 | .st ts l,a,x,e=>by
  intro v hv;cases a<;>simp only[Sh.toks,zxc] at hv;simp only[Sh.dec] at e;split at e<;>first|(cases e;done)|skip
  exact sv l _ x e v hv
theorem sv{ob:Nat->Option Ob}{dead:List Nat}:∀ (l:List Sh) (l':List AV) (x:List D),Sh.decs ob dead l l'=some x->∀ v∈Sh.tokss l l',v ∉ dead
 | [],l',x,e=>by simp_all [Sh.tokss]
 | h::l,[],x,e=>by simp[Sh.decs] at e
 | h::l,a::l',x,e=>by
  intro v hv;simp only[Sh.decs] at e;obtain⟨y,h1,e⟩:=bind_some_inv e;obtain⟨z,h2,e⟩:=bind_some_inv e;simp only[Sh.tokss] at hv;rcases zDa.1 hv with hv|hv
  ·exact pw h a y h1 v hv
  ·exact sv l l' z h2 v hv
end
mutual
theorem pW(b:Nat):∀ (h:Sh) (j:Nat) (s:List D),(Sh.mk b h j s).2=j+h.cnt
 | .dv t,j,s=>rfl
 | .ow t,j,s=>rfl
 | .same a,j,s=>rfl
 | .st ts l,j,s=>by simp only[Sh.mk,Sh.cnt];exact B7 b l j s
theorem B7(b:Nat):∀ (l:List Sh) (j:Nat) (s:List D),(Sh.mks b l j s).2=j+Sh.cnts l
 | [],j,s=>rfl
 | h::l,j,s=>by simp only[Sh.mks,Sh.cnts,pW b h j s,B7 b l,zAb]
end
mutual
theorem B6(b:Nat):∀ (h:Sh) (t:Ty) (j:Nat) (s:List D),Sh.fits t h=true->AV.fits t (Sh.mk b h j s).1=true
 | .dv t',t,j,s,h=>by
  have h':t.beq t'=true:=by cases t<;>exact h
  rw[Ty.eq_of_beq _ _ h'];exact bK _ _
 | .ow e,t,j,s,h=>by
  have h':t.beq (.sl e)=true:=by cases t<;>exact h
  rw[Ty.eq_of_beq _ _ h'];simp only[Sh.mk,AV.fits];exact Ty.beq_refl' _
 | .same a,t,j,s,h=>by cases t<;>simp[Sh.fits] at h
 | .st ts l,t,j,s,h=>by
  have h':(t.beq (.st ts)&&Sh.fitss ts l)=true:=by cases t<;>exact h
  simp only[zaa] at h';rw[Ty.eq_of_beq _ _ h'.1];simp only[Sh.mk,AV.fits,zaa];have:=Ty.beq_refl' (.st ts);simp only[Ty.beq] at this;exact⟨this,tx b l ts j s h'.2⟩
theorem tx(b:Nat):∀ (l:List Sh) (ts:List Ty) (j:Nat) (s:List D),Sh.fitss ts l=true->AV.fitss ts (Sh.mks b l j s).1=true
 | [],ts,j,s,h=>by cases ts<;>simp only[Sh.fitss] at h<;>first|(cases h;done)|rfl
 | h::l,[],j,s,e=>by simp[Sh.fitss] at e
 | h::l,t::ts,j,s,e=>by
  simp only[Sh.fitss,zaa] at e;simp only[Sh.mks,AV.fitss,zaa];exact⟨B6 b h t j s e.1,tx b l ts _ s e.2⟩
end
def Bq(s x:List D)(j:Nat):Prop:=∀ i,i<x.length->s[j+i]?=x[i]?
def Bq.left{s x y:List D}{j:Nat}(h:Bq s (x++y) j):Bq s x j:=λi hi=>by
 rw[h i (by simp;omega),zfb hi]
def Bq.right{s x y:List D}{j:Nat}(h:Bq s (x++y) j):Bq s y (j+x.length):=λi hi=>by
 rw[zAb,h (x.length+i) (by simp;omega),zyb (by omega),zzb]
mutual
theorem yV{n b:Nat}{c c':Cx}(T:Two n c c'):∀ (h:Sh) (a:AV) (j:Nat) (s x:List D) (cs:List Value),Sh.dec c.ob c.dead h a=some x->Bq s x j->Sh.fine n h=true ->
  (∀ p∈Sh.tkp h a j,c'.β (b+p.1)=c.β p.2)->AC c a cs->AC c' (Sh.mk b h j s).1 cs
 | .dv t,a,j,s,x,cs,e,hs,hf,hb,k=>by
  have e':((AV.toD c.ob t a).bind λx=>some [x])=some x:=by cases a<;>exact e
  obtain⟨y,h1,h2⟩:=bind_some_inv e';simp only[zda] at h2;subst h2;obtain⟨k1,k2,_⟩:=qg _ _ _ _ h1 k;have hj:s[j]?=some y:=by have:=hs 0 (by simp);simpa using this
  simp only[Sh.mk,AC,List.getD,hj,zBb,T.w,T.S];exact⟨k1,hf,k2⟩
 | .ow t,a,j,s,x,cs,e,hs,hf,hb,k=>by
  cases a<;>simp only[Sh.dec] at e<;>first|(cases e;done)|skip
  ·rename_i t' v l;split at e<;>first|(cases e;done)|skip
   rename_i hd;simp only[zaa,zLa] at hd;simp only[zda] at e;subst e;have hj:s[j]?=some (.sl l):=by have:=hs 0 (by simp);simpa using this
   have he:=Ty.eq_of_beq _ _ hd.1;subst he;simp only[AC] at k;obtain⟨k0,k1,ad,cap,rfl,k2,k3⟩:=k;simp only[Sh.mk,AC,List.getD,hj,zBb,D.els,T.w,T.S];refine⟨k0,k1,ad,cap,rfl,k2,λ_=>?_⟩;rcases k3 (by simpa using hd.2) with h3|⟨bb,off,h3,h4,m,h5,h6⟩
   ·exact .inl h3
   ·refine .inr ⟨bb,off,h3,?_,m,by rw[T.w];exact h5,h6⟩
    have:=hb (j,v) (by simp[Sh.tkp])
    rw[<-h4];exact this
  ·simp only[zda] at e;subst e;have hj:s[j]?=some (.sl []):=by have:=hs 0 (by simp);simpa using this
   simp only[AC] at k;subst k;simp only[Sh.mk,AC,List.getD,hj,zBb,D.els];refine⟨hf,λx hx=>(by cases hx),none,0,rfl,?_,λ_=>.inl ⟨rfl,rfl⟩⟩
   exact CR.of_elems (b:=0) (off:=0) (.inl rfl) (zia _) ⟨[],cS.nil,λi c hc=>by simp at hc⟩
 | .same a',a,j,s,x,cs,e,hs,hf,hb,k=>by
  have e':(if AV.same a' a then some ([]:List D) else none)=some x:=by cases a<;>exact e
  split at e'<;>first|(cases e';done)|skip
  rename_i hsm;have:=xq _ _ hsm;subst this;simp only[Sh.fine] at hf;exact Fx T _ _ hf k
 | .st ts l,a,j,s,x,cs,e,hs,hf,hb,k=>by
  cases a<;>simp only[Sh.dec] at e<;>first|(cases e;done)|skip
  rename_i ts' l';split at e<;>first|(cases e;done)|skip
  simp only[Sh.fine,zaa] at hf;simp only[AC] at k;simp only[Sh.mk,AC];exact⟨hf.1.1,tx b l ts j s hf.1.2,Fo T l l' j s x cs e hs hf.2 hb k.2.2⟩
theorem Fo{n b:Nat}{c c':Cx}(T:Two n c c'):∀ (l:List Sh) (l':List AV) (j:Nat) (s x:List D) (cs:List Value),Sh.decs c.ob c.dead l l'=some x->Bq s x j->Sh.fines n l=true ->
  (∀ p∈Sh.tkps l l' j,c'.β (b+p.1)=c.β p.2)->kr c l' cs->kr c' (Sh.mks b l j s).1 cs
 | [],l',j,s,x,cs,e,_,_,_,k=>by
  all_goals grind [Sh.decs,Sh.mks,kr]
 | h::l,[],j,s,x,cs,e,_,_,_,k=>by simp[Sh.decs] at e
 | h::l,a::l',j,s,x,cs,e,hs,hf,hb,k=>by
  simp only[Sh.decs] at e;obtain⟨y,h1,e⟩:=bind_some_inv e;obtain⟨z,h2,e⟩:=bind_some_inv e;simp only[zda] at e;subst e;simp only[Sh.fines,zaa] at hf;simp only[kr] at k;obtain⟨c1,c2,rfl,k1,k2⟩:=k;simp only[Sh.mks,kr,pW];simp only[Sh.tkps,zDa] at hb;have hr:=hs.right;rw[ms h a y h1] at hr;exact⟨c1,c2,rfl,yV T h a j s y c1 h1 hs.left hf.1 (λp hp=>hb p (.inl hp)) k1,Fo T l l' _ s z c2 h2 hr hf.2 (λp hp=>hb p (.inr hp)) k2⟩
end
def Nq{n b:Nat}{c c':Cx}(T:Two n c c')(h:Sh)(a:AV)(j:Nat)(s x:List D)(v:Value)(e:Sh.dec c.ob c.dead h a=some x)(hs:Bq s x j)(hf:Sh.fine n h=true)
  (hb:∀ p∈Sh.tkp h a j,c'.β (b+p.1)=c.β p.2) (k:AR c a v):AR c' (Sh.mk b h j s).1 v:=by
 cases h with
 | dv t=>
  have e':((AV.toD c.ob t a).bind λx=>some [x])=some x:=by cases a<;>exact e
  obtain⟨y,h1,h2⟩:=bind_some_inv e';simp only[zda] at h2;subst h2;have hj:s[j]?=some y:=by have:=hs 0 (by simp);simpa using this
  obtain⟨k1,k2⟩:=ni hf k h1;simp only[Sh.mk,List.getD,hj,zBb];exact dX hf k1 (by rw[T.w,T.S];exact k2)
 | ow t=>
  have key:=λcs=>yV T (.ow t) a j s x cs e hs hf hb;cases a<;>simp only[Sh.dec] at e<;>first|(cases e;done)|skip
  all_goals
   simp only[AR] at k;exact⟨k.1,key _ k.2⟩
 | same a'=>
  have key:=λcs=>yV T (.same a') a j s x cs e hs hf hb;have e':(if AV.same a' a then some ([]:List D) else none)=some x:=by cases a<;>exact e
  split at e'<;>first|(cases e';done)|skip
  rename_i hsm;have:=xq _ _ hsm;subst this;simp only[Sh.mk] at key ⊢;cases a'<;>simp only[Sh.fine,AV.old] at hf<;>first|(cases hf;done)|skip
  all_goals simp_all [AR]
 | st ts l=>
  have key:=λcs=>yV T (.st ts l) a j s x cs e hs hf hb;cases a<;>simp only[Sh.dec] at e<;>first|(cases e;done)|skip
  simp_all [Sh.mk,AR]
end Sy
end
noncomputable section
namespace Sy
open Go
def J2(s:St):List (Nat×Sh)->Nat->List (Nat×Nat)
 | [],_=>[]
 | (t,h)::l,j=>Sh.tkp h (s.tm t) j++J2 s l (j+h.cnt)
def Gf(h:Sh)(o:Option Ob)(j:Nat):List (Nat×Nat):=match o with|some (.one _ v)=>Sh.tkp h v j|_=>[]
def vS(s:St):List (Nat×ShO)->Nat->List (Nat×Nat)
 | [],_=>[]
 | (id,.one _ h)::l,j=>Gf h (s.ob id) j++vS s l (j+h.cnt)
 | (_,.many _)::l,j=>vS s l (j+1)
 | (_,.mp ..)::l,j=>vS s l (j+1)
 | (_,.keep ..)::l,j=>vS s l j
 | (_,.lp ..)::l,j=>vS s l j
theorem xB(s:St):∀ (l:List (Nat×Sh)) (j:Nat),(J2 s l j).map Prod.snd=Shape.toksS s l
 | [],_=>rfl
 | (t,h)::l,j=>by simp only[J2,Shape.toksS,zPb,xC,xB s l]
theorem kQ(s:St):∀ (l:List (Nat×ShO)) (j:Nat),(vS s l j).map Prod.snd=Shape.toksO s l
 | [],_=>rfl
 | (id,.one t h)::l,j=>by
  simp only[vS,Shape.toksO,zPb,kQ s l];congr 1;unfold Gf;split
  ·rename_i e;simp only[xC,e]
  ·simp_all
 | (_,.many _)::l,j=>by simp only[vS,Shape.toksO,kQ s l]
 | (_,.mp ..)::l,j=>by simp only[vS,Shape.toksO,kQ s l]
 | (_,.keep ..)::l,j=>by simp only[vS,Shape.toksO,kQ s l]
 | (_,.lp ..)::l,j=>by simp only[vS,Shape.toksO,kQ s l]
theorem Gg(s:St):∀ (l:List (Nat×Sh)) (j:Nat),Pl (J2 s l j) j (j+Shape.cntS l)
 | [],_=>Pl.nil _ _
 | (t,h)::l,j=>by
  simp only[J2,Shape.cntS];rw[show j+(h.cnt+Shape.cntS l)=j+h.cnt+Shape.cntS l by omega]
  exact(A9 h _ j).append (Gg s l _) (by omega) (by omega)
def Jy(h:Sh)(o:Option Ob)(j:Nat):Pl (Gf h o j) j (j+h.cnt):=by
 unfold Gf;split
 ·exact A9 h _ j
 ·exact Pl.nil _ _
theorem qf(s:St):∀ (l:List (Nat×ShO)) (j:Nat),Pl (vS s l j) j (j+Shape.cntO l)
 | [],_=>Pl.nil _ _
 | (id,.one t h)::l,j=>by
  simp only[vS,Shape.cntO,ShO.cnt];rw[show j+(h.cnt+Shape.cntO l)=j+h.cnt+Shape.cntO l by omega]
  exact(Jy h _ j).append (qf s l _) (by omega) (by omega)
 | (_,.many _)::l,j=>by
  simp only[vS,Shape.cntO,ShO.cnt];rw[show j+(1+Shape.cntO l)=j+1+Shape.cntO l by omega]
  exact(Pl.nil j (j+1)).append (qf s l _) (by omega) (by omega)
 | (_,.mp ..)::l,j=>by
  simp only[vS,Shape.cntO,ShO.cnt];rw[show j+(1+Shape.cntO l)=j+1+Shape.cntO l by omega]
  exact(Pl.nil j (j+1)).append (qf s l _) (by omega) (by omega)
 | (_,.keep ..)::l,j=>by
  simp only[vS,Shape.cntO,ShO.cnt,z9a];exact qf s l j
 | (_,.lp ..)::l,j=>by
  simp only[vS,Shape.cntO,ShO.cnt,z9a];exact qf s l j
theorem yi(s:St):∀ (l:List (Nat×Sh)) (x:List D),Shape.decS s l=some x->x.length=Shape.cntS l
 | [],x,e=>by simp only[Shape.decS,zda] at e;subst e;rfl
 | (t,h)::l,x,e=>by
  simp only[Shape.decS] at e;obtain⟨y,h1,e⟩:=bind_some_inv e;obtain⟨z,h2,e⟩:=bind_some_inv e;simp only[zda] at e;subst e;simp only[zva,ms h _ y h1,yi s l z h2,Shape.cntS]
theorem su(s:St):∀ (l:List (Nat×Sh)) (x:List D),Shape.decS s l=some x->∀ v∈Shape.toksS s l,v ∉ s.dead
 | [],x,_=>by simp_all [Shape.toksS]
 | (t,h)::l,x,e=>by
  intro v hv;simp only[Shape.decS] at e;obtain⟨y,h1,e⟩:=bind_some_inv e;obtain⟨z,h2,e⟩:=bind_some_inv e;simp only[Shape.toksS] at hv;rcases zDa.1 hv with hv|hv
  ·exact pw h _ y h1 v hv
  ·exact su s l z h2 v hv
def ss{s:St}{id:Nat}{t:Ty}{h:Sh}{l:List (Nat×ShO)}{x:List D}(e:Shape.decO s ((id,.one t h)::l)=some x):∃ v y z,s.ob id=some (.one t v)/\Sh.dec s.ob s.dead h v=some y/\Shape.decO s l=some z/\x=y++z:=by
 simp only[Shape.decO] at e;split at e<;>first|(cases e;done)|skip
 rename_i t' v ho;split at e<;>first|(cases e;done)|skip
 rename_i ht;obtain⟨y,h1,e⟩:=bind_some_inv e;obtain⟨z,h2,e⟩:=bind_some_inv e;grind [Option.some.injEq,Ty.eq_of_beq]
def pu{s:St}{id:Nat}{t:Ty}{l:List (Nat×ShO)}{x:List D}(e:Shape.decO s ((id,.many t)::l)=some x):∃ v z,s.ob id=some (.many t v)/\Shape.decO s l=some z/\x=[.sl v]++z:=by
 simp only[Shape.decO] at e;split at e<;>first|(cases e;done)|skip
 rename_i t' v ho;split at e<;>first|(cases e;done)|skip
 rename_i ht;obtain⟨z,h2,e⟩:=bind_some_inv e;grind [Option.some.injEq,Ty.eq_of_beq]
def wA{s:St}{id:Nat}{kt vt:Ty}{l:List (Nat×ShO)}{x:List D}(e:Shape.decO s ((id,.mp kt vt)::l)=some x):∃ v z,s.ob id=some (.mp kt vt v)/\Shape.decO s l=some z/\x=[.sl v]++z:=by
 simp only[Shape.decO] at e;split at e<;>first|(cases e;done)|skip
 rename_i t' u' v ho;split at e<;>first|(cases e;done)|skip
 rename_i ht;obtain⟨z,h2,e⟩:=bind_some_inv e;simp only[zda] at e;simp only[zaa] at ht;rw[<-Ty.eq_of_beq _ _ ht.1,<-Ty.eq_of_beq _ _ ht.2] at ho;exact⟨v,z,ho,h2,e.symm⟩
def pq{s:St}{id:Nat}{t:Ty}{wit:Nat}{l:List (Nat×ShO)}{x:List D}(e:Shape.decO s ((id,.keep t wit)::l)=some x):∃ v,s.ob id=some (.one t v)/\Shape.decO s l=some x:=by
 grind [Shape.decO,Ty.eq_of_beq]
theorem Dp:∀ {p p':Option Ex},AI p p'=true->p=p'
 | none,none,_=>rfl
 | none,some _,h=>by cases h
 | some _,none,h=>by cases h
 | some e,some e',h=>by
  simp only[AI] at h;cases e<;>cases e'<;>simp only[Ex.is,decide_eq_true_eq] at h<;>first|rfl|(cases h;done)|(subst h;rfl)
def ww{s:St}{id:Nat}{p:Option Ex}{wit:Nat}{l:List (Nat×ShO)}{x:List D}(e:Shape.decO s ((id,.lp p wit)::l)=some x):∃ i,s.ob id=some (.lp i p)/\Shape.decO s l=some x:=by
 grind [Shape.decO,Dp]
def vh{p:Option Ex}{o:Option Ob}{o':Ob}(h:Ob.lpOf p o=some o'):∃ i p0,o=some (.lp i p0)/\o'=.lp i p:=by
 unfold Ob.lpOf at h;grind
theorem gq(s:St):∀ (l:List (Nat×ShO)) (x:List D),Shape.decO s l=some x->∀ v∈Shape.toksO s l,v ∉ s.dead
 | [],x,_=>by simp_all [Shape.toksO]
 | (id,.one t h)::l,x,e=>by
  intro v hv;obtain⟨u,y,z,ho,h1,h2,_⟩:=ss e;simp only[Shape.toksO,ho] at hv;rcases zDa.1 hv with hv|hv
  ·exact pw h _ y h1 v hv
  ·exact gq s l z h2 v hv
 | (id,.many t)::l,x,e=>by
  obtain⟨u,z,_,h2,_⟩:=pu e;exact gq s l z h2
 | (id,.mp kt vt)::l,x,e=>by
  obtain⟨u,z,_,h2,_⟩:=wA e;exact gq s l z h2
 | (id,.keep t wit)::l,x,e=>by
  obtain⟨u,_,h2⟩:=pq e;exact gq s l x h2
 | (id,.lp p wit)::l,x,e=>by
  obtain⟨_,_,h2⟩:=ww e;exact gq s l x h2
theorem B5(b:Nat):∀ (l:List (Nat×Sh)) (j:Nat) (s:List D) (f:Nat->AV),(Shape.mkS b l j s f).2=j+Shape.cntS l
 | [],j,s,f=>rfl
 | (t,h)::l,j,s,f=>by simp only[Shape.mkS,B5 b l,pW,Shape.cntS,zAb]
theorem Fn{n b:Nat}{c c':Cx}(T:Two n c c'){s':St}(e1:c.ob=s'.ob)(e2:c.dead=s'.dead):∀ (l:List (Nat×Sh)) (j:Nat) (s x:List D) (f:Nat->AV),Shape.decS s' l=some x->Bq s x j->(∀ p∈l,Sh.fine n p.2=true) ->
  (∀ p∈J2 s' l j,c'.β (b+p.1)=c.β p.2)->∀ i,(i∈l.map (·.1)/\∀ v,AR c (s'.tm i) v->AR c' ((Shape.mkS b l j s f).1 i) v)\/(i ∉ l.map (·.1)/\(Shape.mkS b l j s f).1 i=f i)
 | [],j,s,x,f,e,hs,hf,hb,i=>.inr ⟨by simp,rfl⟩
 | (t,h)::l,j,s,x,f,e,hs,hf,hb,i=>by
  simp only[Shape.decS] at e;obtain⟨y,h1,e⟩:=bind_some_inv e;obtain⟨z,h2,e⟩:=bind_some_inv e;simp only[zda] at e;subst e;simp only[J2,zDa] at hb;have hr:=hs.right;rw[ms h _ y h1] at hr;simp only[Shape.mkS,pW];rcases Fn T e1 e2 l (j+h.cnt) s z (λi=>if i=t then(Sh.mk b h j s).1 else f i) h2 hr (λp hp=>hf p (by simp[hp])) (λp hp=>hb p (.inr hp)) i with⟨k1,k2⟩|⟨k1,k2⟩
  ·simp_all
  ·by_cases hit:i=t
   ·subst hit;refine .inl ⟨by simp,λv hv=>?_⟩
    rw[k2,if_pos rfl];exact Nq T h _ j s y v (by rw[e1,e2];exact h1) hs.left (hf (i,h) (by simp)) (λp hp=>hb p (.inl hp)) hv
   ·simp_all
def Kh(o' o:Ob):Prop:=(∀ p,fB o' p=fB o p/\cE o' p=cE o p)/\(∀ t l,o=.many t l->∃ l',o'=.many t l'/\l'.length=l.length)/\∀ kt vt l,o=.mp kt vt l->∃ l',o'=.mp kt vt l'
def yR{t:Ty}{a b:AV}:Kh (.one t a) (.one t b):=⟨λp=>⟨rfl,rfl⟩,(λu l e=>by cases e),λ_ _ l e=>by cases e⟩
def IY{i i':LpI}{p p':Option Ex}:Kh (.lp i p) (.lp i' p'):=⟨λp=>⟨rfl,rfl⟩,(λu l e=>by cases e),λ_ _ l e=>by cases e⟩
def tX{t:Ty}{o:Option Ob}{o':Ob}(h:Ob.still t o=some o'):∃ u x,o=some (.one t (.d u x))/\o'=.one t (.d u x):=by
 unfold Ob.still at h;split at h<;>first|(cases h;done)|skip
 split at h<;>first|(cases h;done)|skip
 rename_i ht;simp only[zda] at h;have:=Ty.eq_of_beq _ _ ht;grind
theorem pV{b:Nat}{base:Nat->Option Ob}{s':St}:∀ (l:List (Nat×ShO)) (j:Nat) (s x:List D) (f:Nat->Option Ob),Shape.decO s' l=some x->Bq s x j ->
  ∀ id o',Shape.mkO b base l j s f id=some o'->f id=some o'\/(id∈l.map (·.1)/\∃ o,s'.ob id=some o/\Kh o' o)
 | [],j,s,x,f,e,hs,id,o',ho=>.inl ho
 | (t,.one u h)::l,j,s,x,f,e,hs,id,o',ho=>by
  obtain⟨v,y,z,h0,h1,h2,rfl⟩:=ss e;have hr:=hs.right;rw[ms h _ y h1] at hr;simp only[Shape.mkO,pW] at ho;rcases pV l _ s z _ h2 hr id o' ho with k|⟨k1,k2⟩
  ·split at k
   ·rename_i hit;subst hit;simp only[zda] at k;subst k;exact .inr ⟨by simp,_,h0,yR⟩
   ·exact .inl k
  ·simp_all
 | (t,.many u)::l,j,s,x,f,e,hs,id,o',ho=>by
  obtain⟨v,z,h0,h2,rfl⟩:=pu e;have hj:s[j]?=some (.sl v):=by have:=hs 0 (by simp);simpa using this
  have hr:=hs.right;simp only[Shape.mkO] at ho;rcases pV l _ s z _ h2 hr id o' ho with k|⟨k1,k2⟩
  ·split at k
   ·rename_i hit;subst hit;simp only[zda,List.getD,hj,zBb,D.els] at k;subst k;exact .inr ⟨by simp,_,h0,λp=>⟨by cases p<;>rfl,by cases p<;>rfl⟩,(λu l e=>by cases e;exact⟨_,rfl,rfl⟩),λ_ _ l e=>by cases e⟩
   ·exact .inl k
  ·simp_all
 | (t,.mp u u')::l,j,s,x,f,e,hs,id,o',ho=>by
  obtain⟨v,z,h0,h2,rfl⟩:=wA e;have hj:s[j]?=some (.sl v):=by have:=hs 0 (by simp);simpa using this
  have hr:=hs.right;simp only[Shape.mkO] at ho;rcases pV l _ s z _ h2 hr id o' ho with k|⟨k1,k2⟩
  ·split at k
   ·rename_i hit;subst hit;simp only[zda,List.getD,hj,zBb,D.els] at k;subst k;exact .inr ⟨by simp,_,h0,λp=>⟨rfl,rfl⟩,(λu l e=>by cases e),λ_ _ l e=>by cases e;exact⟨_,rfl⟩⟩
   ·exact .inl k
  ·simp_all
 | (t,.keep u wit)::l,j,s,x,f,e,hs,id,o',ho=>by
  obtain⟨v,h0,h2⟩:=pq e;simp only[Shape.mkO] at ho;rcases pV l _ s x _ h2 hs id o' ho with k|⟨k1,k2⟩
  ·split at k
   ·rename_i hit;subst hit;obtain⟨u',y,_,rfl⟩:=tX k;exact .inr ⟨by simp,_,h0,yR⟩
   ·exact .inl k
  ·simp_all
 | (t,.lp p wit)::l,j,s,x,f,e,hs,id,o',ho=>by
  obtain⟨v,h0,h2⟩:=ww e;simp only[Shape.mkO] at ho;rcases pV l _ s x _ h2 hs id o' ho with k|⟨k1,k2⟩
  ·split at k
   ·rename_i hit;subst hit;obtain⟨i,p0,_,rfl⟩:=vh k;exact .inr ⟨by simp,_,h0,IY⟩
   ·exact .inl k
  ·simp_all
theorem pU{n b:Nat}{c c':Cx}(T:Two n c c'){s' base:St}(e1:c.ob=s'.ob)(e2:c.dead=s'.dead):∀ (l:List (Nat×ShO)) (j:Nat) (s x:List D) (f:Nat->Option Ob),Shape.decO s' l=some x->Bq s x j->(∀ p∈l,ShO.fine n base p.1 p.2=true) ->
  (∀ p∈vS s' l j,c'.β (b+p.1)=c.β p.2)->∀ id o',Shape.mkO b base.ob l j s f id=some o'->f id=some o' ∨
   ∃ o,s'.ob id=some o/\((∀ bl,gL c bl o->gL c' bl o')\/(∃ t wit,(id,ShO.keep t wit)∈l/\Ob.still t (base.ob id)=some o')\/∃ p wit i,(id,ShO.lp p wit)∈l/\o=.lp i p/\Ob.lpOf p (base.ob id)=some o')
 | [],j,s,x,f,e,hs,hf,hb,id,o',ho=>.inl ho
 | (t,.one u h)::l,j,s,x,f,e,hs,hf,hb,id,o',ho=>by
  obtain⟨v,y,z,h0,h1,h2,rfl⟩:=ss e;have hr:=hs.right;rw[ms h _ y h1] at hr;simp only[Shape.mkO,pW] at ho;simp only[vS,zDa] at hb;rcases pU T e1 e2 l _ s z _ h2 hr (λp hp=>hf p (by simp[hp])) (λp hp=>hb p (.inr hp)) id o' ho with k|⟨o,k1,k2⟩
  ·split at k
   ·rename_i hit;subst hit;simp only[zda] at k;subst k;refine .inr ⟨_,h0,.inl λbl k=>?_⟩;have hfi:=hf (id,.one u h) (by simp)
    simp only[ShO.fine,zaa] at hfi;simp only[gL] at k ⊢;obtain⟨k1,k2,k3,cs,k4,k5,k6⟩:=k;rw[T.w,T.S];refine⟨k1,B6 b h u j s hfi.2,k3,cs,k4,yV T h v j s y cs (by rw[e1,e2];exact h1) hs.left hfi.1 (λp hp=>hb p (.inl ?_)) k5,k6⟩
    simp_all [Gf]
   ·exact .inl k
  ·simp_all
 | (t,.many u)::l,j,s,x,f,e,hs,hf,hb,id,o',ho=>by
  obtain⟨v,z,h0,h2,rfl⟩:=pu e;have hj:s[j]?=some (.sl v):=by have:=hs 0 (by simp);simpa using this
  have hr:=hs.right;simp only[Shape.mkO] at ho;rcases pU T e1 e2 l _ s z _ h2 hr (λp hp=>hf p (by simp[hp])) (λp hp=>hb p hp) id o' ho with k|⟨o,k1,k2⟩
  ·split at k
   ·rename_i hit;subst hit;simp only[zda,List.getD,hj,zBb,D.els] at k;subst k
    simp_all [gL,T.w,T.S]
   ·exact .inl k
  ·simp_all
 | (t,.mp u u')::l,j,s,x,f,e,hs,hf,hb,id,o',ho=>by
  obtain⟨v,z,h0,h2,rfl⟩:=wA e;have hj:s[j]?=some (.sl v):=by have:=hs 0 (by simp);simpa using this
  have hr:=hs.right;simp only[Shape.mkO] at ho;rcases pU T e1 e2 l _ s z _ h2 hr (λp hp=>hf p (by simp[hp])) (λp hp=>hb p hp) id o' ho with k|⟨o,k1,k2⟩
  ·split at k
   ·rename_i hit;subst hit;simp only[zda,List.getD,hj,zBb,D.els] at k;subst k;refine .inr ⟨_,h0,.inl λbl k=>?_⟩;simp only[gL] at k ⊢;obtain⟨q1,q2,q3,es,q4,q5⟩:=k;rw[T.w,T.S];exact⟨q1,q2,q3,es,q4,iA.same T.w T.S q5⟩
   ·exact .inl k
  ·simp_all
 | (t,.keep u wit)::l,j,s,x,f,e,hs,hf,hb,id,o',ho=>by
  obtain⟨v,h0,h2⟩:=pq e;simp only[Shape.mkO] at ho;rcases pU T e1 e2 l _ s x _ h2 hs (λp hp=>hf p (by simp[hp])) (λp hp=>hb p hp) id o' ho with k|⟨o,k1,k2⟩
  ·grind
  ·grind
 | (t,.lp p wit)::l,j,s,x,f,e,hs,hf,hb,id,o',ho=>by
  obtain⟨v,h0,h2⟩:=ww e;simp only[Shape.mkO] at ho;rcases pU T e1 e2 l _ s x _ h2 hs (λp hp=>hf p (by simp[hp])) (λp hp=>hb p hp) id o' ho with k|⟨o,k1,k2⟩
  ·grind
  ·grind
theorem vC:∀ {l:List (Nat×Nat)},df (l.map Prod.snd)=true->∀ p∈l,∀ q∈l,p.2=q.2->p=q
 | [],_,p,hp,_,_,_=>by cases hp
 | x::l,h,p,hp,q,hq,e=>by
  simp only[z6a,df,zaa,zLa] at h;have hx:∀ y∈l,y.2≠x.2:=λy hy hxy=>by
   grind
  rcases zCa.1 hp with rfl|hp'
  ·simp_all
  ·rcases zCa.1 hq with rfl|hq'
   ·simp_all
   ·exact vC h.2 p hp' q hq' e
theorem qD:∀ {l:List (Nat×ShO)} {id:Nat} {t:Ty} {wit:Nat},(id,ShO.keep t wit)∈l->id∈cj l
 | [],_,_,_,h=>by cases h
 | (i,o)::l,id,t,wit,h=>by
  rcases zCa.1 h with k|k
  ·grind [cj]
  ·have ih:=qD k;cases o<;>simp only[cj]<;>first
    | exact ih
    | exact zha _ ih
theorem oD:∀ {l:List (Nat×ShO)} {id:Nat} {p:Option Ex} {wit:Nat},(id,ShO.lp p wit)∈l->id∈cj l
 | [],_,_,_,h=>by cases h
 | (i,o)::l,id,p,wit,h=>by
  rcases zCa.1 h with k|k
  ·grind [cj]
  ·have ih:=oD k;cases o<;>simp only[cj]<;>first
    | exact ih
    | exact zha _ ih
section
variable{w0:Root}{w w':World}{S S':Nat->Nat->Prop}{γ γ':Nat->Option Nat}{β β':Nat->Option (Nat×Nat)}{s s':St}{a a':Act}
def oO(h0:Rp w0 S γ β s a w)(h1:Rp w0 S' γ' β' s' a' w')(hsub:∀ b o,S b o->S' b o)(hcell:∀ b o,S b o->w'.cell? ⟨b,o,none⟩=w.cell? ⟨b,o,none⟩)(hnt:s'.nt=s.nt){h:Shape}
  (hs:∀ t∈h.keepS,a'.tmps.getD t undef=a.tmps.getD t undef) (hgam:∀ id b,γ id=some b->γ' id=some b) (ho:∀ id∈cj h.objs,∀ b,γ id=some b->γ' id=some b/\jh w w' b) {v:List D} (hd:h.dec s s'=some v) (lkS lkO:List Nat) :
  ∃ γ'' β'',Rp w0 S' γ'' β'' (h.mk' s v lkS lkO) a' w'/\∀ id,id<s.base+4096->γ'' id=γ' id:=by
 unfold Shape.dec at hd;split at hd<;>first|(cases hd;done)|skip
 rename_i hg;simp only[zaa] at hg;obtain⟨hg,htok⟩:=hg;obtain⟨x,hx,hd⟩:=bind_some_inv hd;obtain⟨y,hy,hd⟩:=bind_some_inv hd;simp only[zda] at hd;subst hd;simp only[Shape.good,zaa,zpa,decide_eq_true_eq] at hg;obtain⟨⟨⟨⟨hg1,hg2⟩,hg3⟩,hg4⟩,hg5⟩:=hg;have hlx:=yi s' h.slots x hx;obtain⟨n,hn⟩:∃ n,n=(s.fresh+1)*4096:=⟨_,rfl⟩;have hbase:s.base+4096=n:=by rw[hn];simp only[St.base];omega
 rw[<-hn] at hg3 hg4;obtain⟨tl,htl⟩:∃ tl,tl=J2 s' h.slots 0++vS s' h.objs (Shape.cntS h.slots):=⟨_,rfl⟩;have hpl:Pl tl 0 (Shape.cntS h.slots+Shape.cntO h.objs):=by
  rw[htl];have p1:=Gg s' h.slots 0;rw[z9a] at p1;exact p1.append (qf s' h.objs _) (by omega) (by omega)
 have hsnd:df (tl.map Prod.snd)=true:=by rw[htl,zPb,xB,kQ];exact htok
 have halive:∀ p∈tl,p.2 ∉ s'.dead:=λp hp=>by
  rw[htl] at hp;rcases zDa.1 hp with hp|hp
  ·exact su s' _ x hx _ (by rw[<-xB s' _ 0];exact zec hp)
  ·exact gq s' _ y hy _ (by rw[<-kQ s' _ (Shape.cntS h.slots)];exact zec hp)
 obtain⟨γ'',hγ⟩:∃ γ'':Nat->Option Nat,γ''=λid=>if id<n then γ' id else none:=⟨_,rfl⟩
 obtain⟨β'',hβ⟩:∃ β'':Nat->Option (Nat×Nat),β''=λu=>if n<=u then(tl.find? λp=>p.1==u-n).bind λp=>β' p.2 else none:=⟨_,rfl⟩
 have hγ1:∀ id,id<n->γ'' id=γ' id:=λid hi=>by rw[hγ];simp[hi]
 have hγ2:∀ id b,γ'' id=some b->id<n/\γ' id=some b:=λid b hb=>by
  rw[hγ] at hb;simp only at hb;split at hb
  ·rename_i hi;exact⟨hi,hb⟩
  ·cases hb
 have hβ1:∀ p∈tl,β'' (n+p.1)=β' p.2:=λp hp=>by
  rw[hβ];simp only[zjc,if_true,zzb];cases hfd:tl.find? λq=>q.1==p.1 with
  | none=>
   have:=List.find?_eq_none.1 hfd p hp;simp at this
  | some q=>
   have h1:=List.find?_some hfd;have h2:=List.mem_of_find?_eq_some hfd;rw[hpl.2 q h2 p hp (by simpa using h1)]
   rfl
 have hβ2:∀ u b,β'' u=some b->∃ p∈tl,u=n+p.1/\β' p.2=some b:=λu b hb=>by
  rw[hβ] at hb;simp only at hb;split at hb<;>first|(cases hb;done)|skip
  rename_i hu;obtain⟨p,h1,h2⟩:=bind_some_inv hb;refine⟨p,List.mem_of_find?_eq_some h1,?_,h2⟩;have:=List.find?_some h1;simp only[beq_iff_eq] at this;omega
 have hat1:Bq (x++y) x 0:=λi hi=>by rw[z9a,zfb hi]
 have hat2:Bq (x++y) y (Shape.cntS h.slots):=λi hi=>by rw[<-hlx,zyb (by omega),zzb]
 obtain⟨ob'',hob⟩:∃ ob'',ob''=(h.mk' s (x++y) lkS lkO).ob:=⟨_,rfl⟩;have hob':ob''=Shape.mkO n s.ob h.objs (Shape.cntS h.slots) (x++y) (λ_=>none):=by
  rw[hob];simp only[Shape.mk',B5,z9a,<-hn]
 have T:Two n ⟨w',S',γ',β',s'.ob,s'.dead⟩ ⟨w',S',γ'',β'',ob'',[]⟩:=by
  refine⟨rfl,rfl,hγ1,λid hi o' ho'=>?_⟩;rw[hob'] at ho';rcases pV h.objs _ _ y _ hy hat2 id o' ho' with k|⟨_,o,k1,k2⟩
  ·cases k
  ·exact⟨o,k1,k2.1,k2.2⟩
 have hszeq:a'.tmps.size=a.tmps.size:=by rw[h1.nt,hnt,h0.nt]
 have htm:(h.mk' s (x++y) lkS lkO).tm=(Shape.mkS n h.slots 0 (x++y) (λi=>if h.keepS.contains i then(s.tm i).still else .undef)).1:=by
  simp only[Shape.mk',<-hn]
 have hkeep:=Fn (b:=n) T (s':=s') rfl rfl h.slots 0 (x++y) x (λi=>if h.keepS.contains i then(s.tm i).still else .undef) hx hat1 (λp hp=>(hg4 p hp).2) (λp hp=>hβ1 p (by rw[htl];exact znb _ hp))
 refine⟨γ'',β'',⟨h1.ext,λt ht=>?_,?_,λt ht=>?_,λid o b hio hb=>?_,λid b hb=>h1.γn id b (hγ2 id b hb).2,λid id' b hb hb'=>h1.γi id id' b (hγ2 id b hb).2 (hγ2 id' b hb').2,λid hi=>?_,λu b e _ hb=>?_,λu u' b e e' _ _ hb hb'=>?_,λu id b e _ hb hid=>?_,λu hu=>?_,h1.Sb,h1.So⟩,λid hi=>hγ1 id (by omega)⟩
 ·rw[htm,<-hob];rcases hkeep t with⟨k1,k2⟩|⟨k1,k2⟩
  ·exact k2 _ (h1.tms t ht)
  ·rw[k2];by_cases hk:h.keepS.contains t=true
   ·have hk':t∈h.keepS:=by simpa using hk
    rw[if_pos hk,hs t hk'];exact mh (c:=⟨w,S,γ,β,s.ob,s.dead⟩) hcell hsub (h0.tms t (by rw[<-hszeq];exact ht))
   ·rw[if_neg hk];simp only[AR]
 ·show a'.tmps.size=s.nt;rw[h1.nt,hnt]
 ·have ht':s.nt<=t:=ht;rw[htm];rcases hkeep t with⟨k1,k2⟩|⟨k1,k2⟩
  ·obtain⟨p,hp,rfl⟩:=z5a.1 k1;have:=(hg4 p hp).1;omega
  ·rw[k2];split
   ·rw[h0.tmu t ht'];rfl
   ·rfl
 ·have hb':=(hγ2 id b hb).2;rw[<-hob] at hio ⊢;have hio':=hio;rw[hob'] at hio';rcases pU (b:=n) (base:=s) T (s':=s') rfl rfl h.objs (Shape.cntS h.slots) (x++y) y _ hy hat2 (λp hp=>(hg3 p hp).2) (λp hp=>hβ1 p (by rw[htl];exact zjb _ hp)) id o hio' with k|⟨o0,k1,k2|⟨t,wit,k2,k3⟩|⟨p,wit,i1,k2,rfl,k3⟩⟩
  ·cases k
  ·exact k2 b (h1.obs id o0 b k1 hb')
  ·have hfi:=(hg3 _ k2).2;simp only[ShO.fine] at hfi;split at hfi<;>first|(cases hfi;done)|skip
   rename_i u id' p hw;simp only[zaa,decide_eq_true_eq] at hfi;obtain⟨rfl,hwn⟩:=hfi;have hA:=h0.tms wit (by rw[h0.nt];exact hwn)
   rw[hw] at hA;simp only[AR,AC] at hA;obtain⟨_,b0,off,_,hγ0,_⟩:=hA;obtain⟨q1,q2⟩:=ho id (qD k2) b0 hγ0;rw[hb'] at q1;simp only[zda] at q1;subst q1;obtain⟨u',x',hob0,rfl⟩:=tX k3;have hO:=h0.obs id _ b hob0 hγ0;have hO1:=h1.obs id o0 b k1 hb';simp only[gL,AC] at hO ⊢;obtain⟨r1,r2,_,cs,r3,⟨r4,r5,r6⟩,r7⟩:=hO;have q2:=q2.row r3;have hnS:∀ o,¬ S' b o:=by
    cases o0
    case lp i p=>
     simp only[gL] at hO1;obtain⟨rr,z1,_⟩:=hO1;rw[q2] at z1;simp[bN,z1] at r3
    all_goals (simp only[gL] at hO1;exact hO1.2.2.1)
   refine⟨r1,r2,hnS,cs,?_,⟨r4,r5,r6.mono hcell hsub⟩,r7⟩;simp only[bN,q2];exact r3
  ·have hfi:=(hg3 _ k2).2;simp only[ShO.fine] at hfi;split at hfi<;>first|(cases hfi;done)|skip
   rename_i id' hw;simp only[zaa,decide_eq_true_eq] at hfi;obtain⟨rfl,hwn⟩:=hfi;have hA:=h0.tms wit (by rw[h0.nt];exact hwn)
   rw[hw] at hA;simp only[AR,AC] at hA;obtain⟨_,b0,_,hγ0⟩:=hA;obtain⟨q1,q2⟩:=ho id (oD k2) b0 hγ0;rw[hb'] at q1;simp only[zda] at q1;subst q1;obtain⟨i,p0,hob0,rfl⟩:=vh k3;have hO:=h0.obs id _ b hob0 hγ0;have hO1:=h1.obs id _ b k1 hb';simp only[gL] at hO hO1 ⊢;obtain⟨rec,r1,⟨r2,r3,r4,r5⟩,r6,_⟩:=hO;obtain⟨rec',v1,_,_,v4⟩:=hO1;have e:zU rec rec':=by
    rcases q2 with k|⟨r,r',z1,z2,z3⟩
    ·rw[v1,r1] at k;cases k;exact⟨rfl,rfl,rfl,rfl⟩
    ·rw[r1] at z1;cases z1;rw[v1] at z2;cases z2;exact z3
   refine⟨rec',v1,⟨by rw[e.1];exact r2,by rw[e.2.1];exact r3,by rw[e.2.2.1];exact r4,by rw[e.2.2.2];exact r5⟩,λt ht=>?_,v4⟩
   rw[e.1];refine jB.mono (c:=⟨w,S,γ,β,s.ob,s.dead⟩) hcell hsub (λj bj hj=>?_) (r6 t ht);rcases zna j n with k|k
   ·exact(hγ1 j k).trans (hgam j bj hj)
   ·have hj':γ j=some bj:=hj;rw[h0.γf j (by omega)] at hj';cases hj'
 ·have hi':(s.fresh+1)*4096+4096<=id:=hi;rw[hγ];simp only;rw[if_neg (by omega)]
 ·obtain⟨p,hp,_,hb'⟩:=hβ2 u _ hb;exact h1.βn _ b e (halive p hp) hb'
 ·obtain⟨p,hp,rfl,k⟩:=hβ2 u _ hb;obtain⟨q,hq,rfl,k'⟩:=hβ2 u' _ hb';have:=h1.βi _ _ b e e' (halive p hp) (halive q hq) k k';rw[vC hsnd p hp q hq this]
 ·obtain⟨p,hp,_,hb'⟩:=hβ2 u _ hb;exact h1.βγ _ id b e (halive p hp) hb' (hγ2 id b hid).2
 ·have hu':(s.fresh+1)*4096+4096<=u:=hu;cases hc:β'' u with
  | none=>rfl
  | some b=>
   obtain⟨p,hp,e,_⟩:=hβ2 u b hc;have:=(hpl.1 p hp).2;omega
end
end Sy
end
noncomputable section
namespace Sy
open Go
variable{ro:Option Nat}{nn:Nat}
section
variable{P:Program}{E:Env}{w0:Root}{S:Nat->Nat->Prop}{γ:Nat->Option Nat}{β:Nat->Option (Nat×Nat)}{s:St}{a:Act}{w:World}
def Fm.tr{s s1:St}{S S1 S2:Nat->Nat->Prop}{γ γ1 γ2:Nat->Option Nat}{a a1 a2:Act}{w w1 w2:World}(h:Fm s S γ a w S1 γ1 a1 w1)(k:Fm s1 S1 γ1 a1 w1 S2 γ2 a2 w2)(e:Sk s s1):Fm s S γ a w S2 γ2 a2 w2:=h.trans k e.lkS e.lkO
def rH(s:St)(t:Nat):St:=
 match s.tm t with
  | .mem t' id=>match s.ob id with
   | some (.many u l)=>if t'.beq u&&!(s.lkO.contains id) then{ s.setOb id none with tm:=λi=>if i=t then .d (.sl u) (.sl l) else s.tm i } else s
   | _=>s
  | _=>s
def yy(s:St)(t:Nat)(l:List Nat):fV s (t::l)=fV (rH s t) l:=rfl
def Al(h:Rp w0 S γ β s a w)(t:Nat):∃ S',Rp w0 S' γ β (rH s t) a w/\Fm s S γ a w S' γ a w/\Sm s (rH s t):=by
 have triv:∃ S',Rp w0 S' γ β s a w/\Fm s S γ a w S' γ a w/\Sm s s:=⟨S,h,Fm.refl _ _ _ _ _,Sm.refl s⟩;unfold rH;split
 ·rename_i t' id hm;split
  ·rename_i u l ho;split
   ·rename_i hc;simp only[zaa,zLa] at hc;obtain⟨hc1,hc2⟩:=hc;have hu:=Ty.eq_of_beq _ _ hc1;subst hu;have ht:t<a.tmps.size:=by
     rcases zna t a.tmps.size with k|k
     ·exact k
     ·have:=h.tmu t (by rw[<-h.nt];exact k)
      rw[hm] at this;cases this
    have hA:=h.tms t ht;rw[hm] at hA;simp only[AR,AC] at hA;obtain⟨hna,hnt,b,hγ,hA⟩:=hA;obtain⟨l',e1,hv⟩:=hA _ ho;simp only[Ob.many.injEq,true_and] at e1;subst e1;have hO:=h.obs id _ b ho hγ;simp only[gL] at hO;obtain⟨_,hwt,hnS,cs,hrow,hcs⟩:=hO;obtain⟨S',hS'⟩:∃ S':Nat->Nat->Prop,S'=λb' o=>S b' o\/b'=b:=⟨_,rfl⟩;have hsub:∀ b' o,S b' o->S' b' o:=λb' o hb=>by rw[hS'];exact .inl hb
    have hle:Cx.le ⟨w,S,γ,β,s.ob,s.dead⟩ ⟨w,S',γ,β,(s.setOb id none).ob,s.dead⟩:=by
     refine⟨λ_ _ _=>rfl,hsub,λ_ _ k=>k,λi o hi _=>?_,λv hv=>⟨hv,λb e he=>⟨he,λn hn=>hn⟩⟩⟩;simp only[St.setOb] at hi;split at hi<;>first|(cases hi;done)|skip
     exact⟨o,hi,λp=>⟨rfl,rfl⟩,λt l e=>⟨l,e,rfl⟩,λ_ _ l e=>⟨l,e⟩⟩
    refine⟨S',⟨h.ext,λi hi=>?_,h.nt,λi hi=>?_,λi o b' hi hb'=>?_,h.γn,h.γi,h.γf,λv b' e hvd he=>?_,h.βi,h.βγ,h.βf,λb' o hb=>?_,λb' o hb hlt=>?_⟩,⟨hsub,λ_ _ _=>rfl,λ_ _=>rfl,λ_ _ _ hb=>⟨hb,jh.refl _ _⟩,zja _,λ_ _ hb=>hb,ku.same rfl (cY.refl _)⟩,⟨rfl,rfl,rfl,rfl⟩⟩
    ·by_cases hit:i=t
     ·subst hit;simp only[if_true];have hval:=az hna hv;rw[hval];refine dX (by simpa only[au] using hnt) (by simp only[wt];exact⟨l,rfl,hwt⟩) (gj.of_CR ?_)
      refine CR.of_elems (b:=b) (off:=0) (.inr rfl) (zja _) ⟨cs,hcs.mono (λ_ _ _=>rfl) hsub,λi c hc=>⟨by rw[hS'];exact .inr rfl,?_⟩⟩
      rw[z9a,dG w hrow];simpa using hc
     ·simp only[if_neg hit];exact(h.tms i hi).mono hle
    ·have hi':s.nt<=i:=hi;have hit:i≠t:=λe=>by rw[h.nt] at ht;omega
     simp only[if_neg hit];exact h.tmu i hi'
    ·simp only[St.setOb] at hi;split at hi<;>first|(cases hi;done)|skip
     rename_i hne;refine(h.obs i o b' hi hb').mono hle rfl λo ho'=>?_;have ho2:S' b' o:=ho';rw[hS'] at ho2;rcases ho2 with k|k
     ·exact k
     ·subst k;exact absurd (h.γi i id b' hb' hγ) hne
    ·obtain⟨k1,k2,k3⟩:=h.βn v b' e hvd he;refine⟨k1,k2,λo ho' hs=>?_⟩;rw[hS'] at hs;rcases hs with k|k
     ·exact k3 o ho' k
     ·subst k;exact h.βγ v id b' e hvd he hγ
    ·rw[hS'] at hb;rcases hb with k|k
     ·exact h.Sb b' o k
     ·subst k;exact(h.γn id b' hγ).2
    ·rw[hS'] at hb;rcases hb with k|k
     ·exact h.So b' o k hlt
     ·subst k;exact absurd hlt (h.γn id b' hγ).1
   ·exact triv
  ·exact triv
 ·exact triv
theorem pH:∀ (l:List Nat) {S:Nat->Nat->Prop} {s:St},Rp w0 S γ β s a w->∃ S',Rp w0 S' γ β (fV s l) a w/\Fm s S γ a w S' γ a w/\Sm s (fV s l)
 | [],S,s,h=>⟨S,h,Fm.refl _ _ _ _ _,Sm.refl s⟩
 | t::l,S,s,h=>by
  obtain⟨S1,h1,f1,m1⟩:=Al h t;obtain⟨S2,h2,f2,m2⟩:=pH l h1;rw[yy];exact⟨S2,h2,f1.trans f2 m1.lkS m1.lkO,m1.trans m2⟩
def qI(E:Env)(s:St)(o:Oper):St:=match o.op,o.dst with
  | .alloc T,some d=>match E.L T with
   | some t=>s.setOb (s.base+d) (some (.one t (gm t)))
   | none=>s
  | _,_=>s
def pX(E:Env)(o:Oper)(l:List Oper)(s:St):ib E (o::l) s=ib E l (qI E s o):=rfl
def Rp.freeOb(h:Rp w0 S γ β s a w){id:Nat}(hγ:γ id=none)(o:Option Ob):Rp w0 S γ β (s.setOb id o) a w:=by
 have hle:Cx.le ⟨w,S,γ,β,s.ob,s.dead⟩ ⟨w,S,γ,β,(s.setOb id o).ob,s.dead⟩:=by
  refine⟨λ_ _ _=>rfl,λ_ _ k=>k,λ_ _ k=>k,λi x hx hb=>?_,λv hv=>⟨hv,λb e he=>⟨he,λn hn=>hn⟩⟩⟩;simp only[St.setOb] at hx;split at hx
  ·rename_i e;subst e;obtain⟨b,hb⟩:=hb;simp only[hγ] at hb;cases hb
  ·exact⟨x,hx,λp=>⟨rfl,rfl⟩,λt l e=>⟨l,e,rfl⟩,λ_ _ l e=>⟨l,e⟩⟩
 refine⟨h.ext,λi hi=>(h.tms i hi).mono hle,h.nt,h.tmu,λi x b hx hb=>?_,h.γn,h.γi,h.γf,h.βn,h.βi,h.βγ,h.βf,h.Sb,h.So⟩;simp only[St.setOb] at hx;split at hx
 ·rename_i e;subst e;rw[hγ] at hb;cases hb
 ·exact(h.obs i x b hx hb).mono hle rfl λ_ k=>k
def lV(E:Env)(s:St)(o:Oper):qI E s o=s\/∃ T d t,o.op=.alloc T/\o.dst=some d/\E.L T=some t/\qI E s o=s.setOb (s.base+d) (some (.one t (gm t))):=by
 unfold qI;split
 ·rename_i T d e1 e2;split
  ·rename_i t e3;exact .inr ⟨T,d,t,e1,e2,e3,rfl⟩
  ·exact .inl rfl
 ·exact .inl rfl
def FE(h:Rp w0 S γ β s a w)(hg:∀ d,γ (s.base+d)=none)(o:Oper):Rp w0 S γ β (qI E s o) a w/\Sm s (qI E s o):=by
 rcases lV E s o with e|⟨T,d,t,_,_,_,e⟩
 ·rw[e];exact⟨h,Sm.refl s⟩
 ·rw[e];exact⟨h.freeOb (hg d) _,rfl,rfl,rfl,rfl⟩
def Sm.base_eq{s s':St}(h:Sm s s'):s'.base=s.base:=by simp only[St.base,h.fresh]
def Cf(l:List Oper){s:St}(h:Rp w0 S γ β s a w)(hg:∀ d,γ (s.base+d)=none):Rp w0 S γ β (ib E l s) a w/\Sm s (ib E l s):=by
 induction l generalizing s with
 | nil=>exact And.intro h (Sm.refl s)
 | cons o l ih=>
  rw[pX];obtain⟨h1,h2⟩:=FE (E:=E) h hg o;obtain⟨k1,k2⟩:=ih h1 (by rw[h2.base_eq];exact hg)
  exact⟨k1,h2.trans k2⟩
theorem nE:∀ (l:List Oper) {s:St} {d:Nat},(∀ o∈l,o.dst≠some d)->(ib E l s).ob (s.base+d)=s.ob (s.base+d)
 | [],s,d,_=>rfl
 | o::l,s,d,h=>by
  rw[pX];rcases lV E s o with e|⟨T,d',t,_,e2,_,e⟩
  ·rw[e];exact nE l λo ho=>h o (by simp[ho])
  ·rw[e];have:=nE l (s:=s.setOb (s.base+d') (some (.one t (gm t)))) (d:=d) λo ho=>h o (by simp[ho])
   have hb:(s.setOb (s.base+d') (some (.one t (gm t)))).base=s.base:=rfl;rw[hb] at this;rw[this];have hne:d'≠d:=λe=>h o (by simp) (by rw[e2,e])
   simp only[St.setOb];rw[if_neg λe=>hne (Nat.add_left_cancel e).symm]
theorem xi:∀ (l:List Oper) {s:St} {o:Oper} {T:TypeId} {d:Nat} {t:Ty},df (l.filterMap (·.dst))=true->o∈l->o.op=.alloc T->o.dst=some d->E.L T=some t->(ib E l s).ob (s.base+d)=some (.one t (gm t))
 | [],_,_,_,_,_,_,h,_,_,_=>by cases h
 | x::l,s,o,T,d,t,hn,ho,e1,e2,e3=>by
  have hn':df (l.filterMap (·.dst))=true:=by
   rw[List.filterMap_cons] at hn;split at hn
   ·exact hn
   ·simp only[df,zaa] at hn;exact hn.2
  rw[pX];have hb:(qI E s x).base=s.base:=by rcases lV E s x with e|⟨_,_,_,_,_,_,e⟩<;>rw[e]<;>rfl
  rcases zCa.1 ho with rfl|ho'
  ·rw[<-hb,nE l λo' ho'=>λe=>eG hn [] l o o' rfl ho' d e e2];rw[hb];simp only[qI,e1,e2,e3,St.setOb,if_true]
  ·rw[<-hb];exact xi l hn' ho' e1 e2 e3
def Ni{e e':Ex}(h:e.is e'=true):e=e':=by
 cases e<;>cases e'<;>simp only[Ex.is,decide_eq_true_eq] at h<;>first|rfl|(cases h;done)|(rw[h])
theorem qu{e:Ex}:∀ {l:List (Ex×Shape)} {i j:Nat} {h:Shape},sP e l i=some (j,h)->i<=j/\l[j-i]?=some (e,h)
 | [],_,_,_,k=>by simp[sP] at k
 | (e',h')::l,i,j,h,k=>by
  simp only[sP] at k;split at k
  ·rename_i he;simp only[zda,Prod.mk.injEq] at k;obtain⟨rfl,rfl⟩:=k;exact⟨zja _,by simp[Ni he]⟩
  ·obtain⟨k1,k2⟩:=qu k;refine⟨by omega,?_⟩
   rw[show j-i=(j-(i+1))+1 by omega]
   simpa using k2
theorem lD{R:Type}{base:St}{k:Ex->St->Option R}{kS kO:List Nat}{r:R}{e:Ex}{h:Shape}{v:List D}:∀ {l:List (Ex×Shape)} {i j:Nat},i<=j->l[j-i]?=some (e,h)->nr base k kS kO l i (j,v)=some r ->
  k e (h.mk' base v base.lkS base.lkO)=some r/\subset h.keepS kS=true/\subset (cj h.objs) kO=true
 | [],_,_,_,hl,_=>by simp at hl
 | [(e',h')],i,j,hij,hl,hc=>by
  have:j-i=0:=by
   have:=(zla.1 hl).1;simpa using this
  rw[this] at hl;simp only[zeb,zda,Prod.mk.injEq] at hl;obtain⟨rfl,rfl⟩:=hl;simp only[nr] at hc;split at hc<;>first|(cases hc;done)|skip
  rename_i hs;simp only[zaa] at hs;exact⟨hc,hs⟩
 | (e',h')::x::l,i,j,hij,hl,hc=>by
  simp only[nr] at hc;split at hc<;>first|(cases hc;done)|skip
  rename_i hs;simp only[zaa] at hs;split at hc
  ·rename_i hji;subst hji;simp only[z4c,zeb,zda,Prod.mk.injEq] at hl;obtain⟨rfl,rfl⟩:=hl;exact⟨hc,hs⟩
  ·rename_i hji;refine lD (i:=i+1) (by omega) ?_ hc
   rw[show j-i=(j-(i+1))+1 by omega] at hl
   simpa using hl
def jy{l l':List Nat}(h:subset l l'=true):∀ x∈l,x∈l':=λx hx=>by
 have:=zpa.1 h x hx;simpa using this
def Rp.lk(h:Rp w0 S γ β s a w)(lkS lkO:List Nat):Rp w0 S γ β { s with lkS:=lkS,lkO:=lkO } a w:=
 ⟨h.ext,h.tms,h.nt,h.tmu,h.obs,h.γn,h.γi,h.γf,h.βn,h.βi,h.βγ,h.βf,h.Sb,h.So⟩
def Fm.shape{s2:St}{S':Nat->Nat->Prop}{γ' γ'':Nat->Option Nat}{a':Act}{w':World}(h0:Rp w0 S γ β s a w)(h:Fm s2 S γ a w S' γ' a' w')(hg:∀ id,id<s.base+4096->γ'' id=γ' id):Fm s2 S γ a w S' γ'' a' w':=
 ⟨h.sub,h.cell,h.slots,λid hid b hb=>by
  obtain⟨k1,k2⟩:=h.objs id hid b hb;refine⟨?_,k2⟩;rw[hg id ?_]
  ·exact k1
  ·rcases zna id (s.base+4096) with k|k
   ·exact k
   ·rw[h0.γf id k] at hb;exact absurd hb (by simp),h.sz,λid b hb=>by
  rw[hg id ?_]
  ·exact h.gam id b hb
  ·rcases zna id (s.base+4096) with k|k
   ·exact k
   ·rw[h0.γf id k] at hb;exact absurd hb (by simp),h.dfs⟩
def vU{base:St}{exits:List (Ex×Shape)}{e:Ex}{s':St}{r:Nat×List D}(h:DS base exits e s'=some r):∃ sh,exits[r.1]?=some (e,sh)/\sh.dec base s'=some r.2:=by
 unfold DS at h;obtain⟨q,h1,h⟩:=bind_some_inv h;obtain⟨v,h2,h⟩:=bind_some_inv h;simp only[zda] at h;subst h;obtain⟨_,h3⟩:=qu h1;exact⟨q.2,by simpa using h3,h2⟩
end
end Sy
end
end Go.Proofs.YtpahompifldeeaaGreat
