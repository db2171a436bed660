/- Part 4 of the proof that PlaneOfBoxes answers true at every input -/
import Derived.Test.YtphlmegkommlnaaGreatDoorBoxe03
import Derived.RangeFuncSeq
import Derived.RangeFuncRecord
import Derived.RangeFuncNested
set_option linter.unusedVariables false
set_option linter.unusedSimpArgs false
set_option linter.unnecessarySimpa false
set_option linter.defProp false
set_option maxRecDepth 20000
namespace Go.Proofs.YtphlmegkommlnaaGreatDoor
noncomputable section
namespace Sy
open Go
open Go.ChangeMaps (setBlock)
variable{ro:Option Nat}{nn:Nat}
def nH{c c':Cx}(hw:∀ b o,c.S b o->c'.w.cell? ⟨b,o,none⟩=c.w.cell? ⟨b,o,none⟩)(e:∀ b o,c.S b o->c'.S b o){x:AV}{v:Value}(h:AR c x v):AR c' x.still v:=by
 cases x<;>simp only[AV.still]<;>try (simp only[AR];done)
 case d t x=>
  simp only[AR] at h ⊢;rcases h with⟨f,g,i⟩|⟨n,f,m,g,i⟩
  ·exact .inl ⟨f,g,i.mono hw e⟩
  ·exact .inr ⟨n,f,m,g,i.mono hw e⟩
 case own t u l=>
  simp only[AR,AC] at h;obtain⟨h0,hn,h1,a,cap,h2,h3,_⟩:=h;refine dO (by simpa only[ao] using hn) (by simp only[wt];exact⟨l,rfl,h1⟩) ?_
  have k:v=.slice a l.length cap:=au h0 h2;subst k;exact acm (h3.mono hw e)
 case fptr t x=> simp only[AR,AC] at h ⊢;obtain⟨h0,h1,h2,b,off,h3,j⟩:=h;exact⟨h0,h1,h2,b,off,h3,j.mono hw e⟩
section
variable{P:Program}{E:Env}{w0:Root}{S S':Nat->Nat->Prop}{γ γ':Nat->Option Nat}{β β' β'':Nat->Option (Nat×Nat)}{s sc:St}{a:Act}{w w':World}
def BP{o':Ob}{x:Option Ob}(h:mh x (some o')=true):∃ o,x=some o/\∀ p,fo o' p=fo o p/\cG o' p=cG o p:=by
 cases x with
 | none=>simp[mh] at h
 | some o=>
  refine⟨o,rfl,λp=>?_⟩;cases o<;>cases o'<;>simp only[mh] at h<;>first|(cases h;done)|skip
  ·have:=acQ _ _ h;subst this;exact⟨rfl,rfl⟩
  ·have:=acQ _ _ h;subst this;cases p<;>exact⟨rfl,rfl⟩
  ·exact⟨rfl,rfl⟩
  ·cases p<;>exact⟨rfl,rfl⟩
def Aw{v:Nat}(h:v∈fr s):v ∉ s.dead/\∃ t ty l,t<s.nt/\s.tm t=.own ty v l:=by
 unfold fr at h;obtain⟨t,h1,h2⟩:=zVc.1 h;split at h2<;>first|(cases h2;done)|skip
 rename_i ty u l ht;split at h2<;>first|(cases h2;done)|skip
 rename_i a;cases h2;exact⟨by simpa using a,t,ty,l,zXa.1 h1,ht⟩
def zT{v t:Nat}{ty:Ty}{l:List D}(h1:t<s.nt)(h2:s.tm t=.own ty v l)(h3:v ∉ s.dead):v∈fr s:=by grind [fr]
def Ck{t:Ty}{id:Nat}{p:List Nat}{cs:List Value}{dead a:List Nat}(c:∀ id b,γ id=some b->γ' id=some b)(hl:mh (s.ob id) (sc.ob id)=true)(h:AC ⟨w,S,γ,β,s.ob,dead⟩ (.ptr t id p) cs):AC ⟨w',S',γ',β'',sc.ob,a⟩ (.ptr t id p) cs:=by
 simp only[AC] at h ⊢;obtain⟨b,off,e,f,g⟩:=h;refine⟨b,off,e,c _ _ f,λo d=>?_⟩;rw[d] at hl;obtain⟨i,j,k⟩:=BP (o':=o) hl
 simp_all
theorem yF{dead a:List Nat}(c:∀ id b,γ id=some b->γ' id=some b):∀ (l:List AV) (cs:List Value),l.all (JT s.ob sc.ob)=true->oH ⟨w,S,γ,β,s.ob,dead⟩ l cs->oH ⟨w',S',γ',β'',sc.ob,a⟩ l cs
 | [],cs,_,h=>by simpa only[oH] using h
 | x::l,cs,hp,h=>by
  simp only[zZb,zaa] at hp;simp only[oH] at h ⊢;obtain⟨v,c2,rfl,d,e⟩:=h;refine⟨v,c2,rfl,?_,yF c l c2 hp.2 e⟩;cases x<;>simp only[JT] at hp<;>first|(cases hp.1;done)|skip
  exact Ck c hp.1 d
def NT{n:Nat}{B D:List Nat}(a:∀ b o,S b o->w'.cell? ⟨b,o,none⟩=w.cell? ⟨b,o,none⟩)(hsub:∀ b o,S b o->S' b o)(q:∀ id b,γ id=some b->γ' id=some b)
  {x:AV} {v:Value} (i:∀ t u l,x=.own t u l->u ∉ s.dead->u ∉ D->u∈B/\β'' (n+B.idxOf u)=β u/\∀ b e,β u=some (b,e)->∀ m,nA w b=some m->nA w' b=some m)
  (h:AR ⟨w,S,γ,β,s.ob,s.dead⟩ x v):AR ⟨w',S',γ',β'',sc.ob,sc.dead⟩ (sJ s sc n B D x) v:=by
 cases x with
 | d t y=>exact nH (c:=⟨w,S,γ,β,s.ob,s.dead⟩) (x:=.d t y) a hsub h
 | fptr t y=>exact nH (c:=⟨w,S,γ,β,s.ob,s.dead⟩) (x:=.fptr t y) a hsub h
 | own t u l=>
  simp only[sJ];split
  ·exact nH (c:=⟨w,S,γ,β,s.ob,s.dead⟩) (x:=.own t u l) a hsub h
  ·rename_i k;simp only[zac,not_or,List.contains_iff_mem] at k;have g:u ∉ s.dead:=k.1;obtain⟨O,r,z⟩:=i t u l rfl g k.2;simp only[AR,AC] at h ⊢;obtain⟨h0,h1,h2,A,cap,h3,F,G⟩:=h;refine⟨h0,h1,h2,A,cap,h3,F.mono a hsub,λ_=>?_⟩;rcases G g with j|⟨b,off,j,C,m,H,I⟩
   ·exact .inl j
   ·exact .inr ⟨b,off,j,r.trans C,m,z b _ C m H,I⟩
 | nils=>simpa only[sJ,AR,AC] using h
 | ptr t id p=>
  simp only[sJ];split
  ·rename_i hl;simp only[AR] at h ⊢;exact⟨h.1,Ck q hl h.2⟩
  ·simp only[AR]
 | mem t id=>simp only[sJ,AR]
 | st Q l=>simp only[sJ,AR]
 | clo f l=>
  simp only[sJ];split
  ·rename_i hl;simp only[AR,AC] at h ⊢;obtain⟨h0,caps,h1,h2⟩:=h;exact⟨h0,caps,h1,yF q l caps hl h2⟩
  ·simp only[AR]
 | map P vt id=>
  simp only[sJ];split
  ·rename_i hl;simp only[AR,AC] at h ⊢;obtain⟨h0,b,e,r,z,J,K⟩:=h;refine⟨h0,b,e,q _ _ r,z,J,λo E=>?_⟩;cases hs:s.ob id with
   | none=>rw[hs,E] at hl;simp[mh] at hl
   | some L=>
    obtain⟨l,rfl⟩:=K L hs;rw[hs,E] at hl;cases o<;>simp only[mh] at hl<;>first|(cases hl;done)|skip
    simp only[zaa] at hl;have M:=acQ _ _ hl.1;have N:=acQ _ _ hl.2
    simp_all
  ·simp only[AR]
 | yld id=> grind [sJ,AR,AC]
 | sub sl t id p lo n=>simp only[sJ,AR]
 | gone=>simp only[sJ,AR]
 | undef=>simp only[sJ,AR]
def CN(s:St):xh s []=fr s:=by simp[xh]
def CM{s:St}{a:List Nat}{v:Nat}:v∈xh s a↔v∈fr s/\v ∉ a:=by simp[xh]
def E1(h:Rp w0 S γ β s a w){r J:List Nat}{sh:Nat->Prop}(G:r=xh s J)(y:sh=λb=>(∃ id,γ id=some b)\/∃ v e,v ∉ r++s.dead/\β v=some (b,e)){k:St}{B:Act}
  (x:∀ j o,k.ob j=some o->s.ob j=some o) (C:k.fresh=s.fresh+1) (c:k.dead=r++s.dead) (E:B.tmps.size=k.nt) (A:∀ t,k.nt<=t->k.tm t=.undef)
  (z:∀ t,t<B.tmps.size->AR ⟨w,S,γ,β,k.ob,r++s.dead⟩ (k.tm t) (B.tmps.getD t undef)):Rp ⟨w,S,sh⟩ S γ β k B w:=by
 have g:∀ {u},u ∉ r++s.dead->u ∉ s.dead:=λhu D=>hu (zLa _ D);have d:k.base=(s.fresh+1)*4096:=by simp only[St.base,C]
 have I:s.base+4096=(s.fresh+1)*4096:=by simp only[St.base];omega
 have F:Cx.le ⟨w,S,γ,β,s.ob,s.dead⟩ ⟨w,S,γ,β,k.ob,r++s.dead⟩:=
  ⟨λ_ _ _=>rfl,λ_ _ d=>d,λ_ _ d=>d,λid o q _=>⟨o,x _ _ q,λp=>⟨rfl,rfl⟩,λt l e=>⟨l,e,rfl⟩,λ_ _ l e=>⟨l,e⟩⟩,λu hu=>⟨g hu,λb e he=>⟨he,λn hn=>hn⟩⟩⟩
 refine⟨⟨rfl,rfl,rfl,zja _,zja _,λ_ _=>rfl⟩,λt ht=>by rw[c];exact z t ht,E,A,λid o b q d=>?_,λid b d=>⟨λq=>q.2 (by show sh b;rw[y];exact .inl ⟨id,d⟩),(h.γn id b d).2⟩,h.γi,λid hid=>h.γf id ?_,λu b e hu he=>?_,λu M b e H hu m=>h.βi u M b e H (g (c ▸ hu)) (g (c ▸ m)),λu id b e hu=>h.βγ u id b e (g (c ▸ hu)),λu hu=>h.βf u ?_,h.Sb,λb o d _=>d⟩
 ·rw[c];exact(h.obs id o b (x _ _ q) d).mono F rfl λ_ D=>D
 ·omega
 ·have m:u ∉ r++s.dead:=c ▸ hu;obtain⟨N,K,L⟩:=h.βn u b e (g m) he;exact⟨λq=>q.2 (by show sh b;rw[y];exact .inr ⟨u,e,m,he⟩),K,L⟩
 ·omega
def Et(h:Rp w0 S γ β s a w){q V:List Nat}{sh:Nat->Prop}(C:q=xh s V)(J:sh=λb=>(∃ id,γ id=some b)\/∃ v e,v ∉ q++s.dead/\β v=some (b,e))(aj:q.length<=4096){a':Act}
  (n1:Rp ⟨w,S,sh⟩ S' γ' β' sc a' w') (P:∀ b o,S b o->S' b o) (H:∀ b o,S b o->w'.cell? ⟨b,o,none⟩=w.cell? ⟨b,o,none⟩) (O:∀ id b,γ id=some b->γ' id=some b) (U:w.heap.size<=w'.heap.size) :
  ∃ β'',Rp w0 S' γ' β'' (oU s sc V) a w'/\Cx.le ⟨w',S',γ',β',sc.ob,sc.dead⟩ ⟨w',S',γ',β'',sc.ob,sc.dead⟩:=by
 have y:∀ u,u∈q->u ∉ s.dead:=λu hu=>by rw[C] at hu;exact(Aw (CM.1 hu).1).1
 have N:∀ {u},u ∉ q++s.dead->u ∉ s.dead:=λhu k=>hu (zLa _ k);have K:∀ b,sh b->¬ w0.Old b:=λb c=>by
  rw[J] at c;rcases c with⟨id,c⟩|⟨u,e,hu,c⟩
  ·exact(h.γn id b c).1
  ·exact(h.βn u b e (N hu) c).1
 have E:∀ b,w0.Old b->(Root.mk w S sh).Old b:=λb c=>⟨zob c.1 h.ext.sz,λk=>K b k c⟩;have j:∀ u∈q,∀ b e,β u=some (b,e)->(Root.mk w S sh).Old b:=λu hu b e c=>by
  refine⟨(h.βn u b e (y u hu) c).2.1,λk=>?_⟩;have k:sh b:=k;rw[J] at k;rcases k with⟨id,k⟩|⟨F,G,D,k⟩
  ·exact h.βγ u id b e (y u hu) c k
  ·have:=h.βi u F b e G (y u hu) (N D) c k
   simp_all
 obtain⟨n,hn⟩:∃ n,n=(sc.fresh+1)*4096:=⟨_,rfl⟩;have X:sc.base+4096=n:=by rw[hn];simp only[St.base];omega
 obtain⟨β'',hβ⟩:∃ β'':Nat->Option (Nat×Nat),β''=λu=>if n<=u then(q[u-n]?).bind (λx=>if q.idxOf x=u-n then β x else none) else β' u:=⟨_,rfl⟩
 have z:∀ u b e,n<=u->β'' u=some (b,e)->∃ x∈q,u=n+q.idxOf x/\β x=some (b,e):=λu b e hu he=>by grind
 have blt:∀ u,u<n->β'' u=β' u:=λu hu=>h7
 have Q:∀ x∈q,β'' (n+q.idxOf x)=β x:=λx hx=>by
  have g:q.idxOf x<q.length:=List.idxOf_lt_length_of_mem hx
  simp_all
 have hle:Cx.le ⟨w',S',γ',β',sc.ob,sc.dead⟩ ⟨w',S',γ',β'',sc.ob,sc.dead⟩:=
  ⟨λ_ _ _=>rfl,λ_ _ c=>c,λ_ _ c=>c,λid o I _=>⟨o,I,λp=>⟨rfl,rfl⟩,λt l e=>⟨l,e,rfl⟩,λ_ _ l e=>⟨l,e⟩⟩,λu hu=>⟨hu,λb e he=>⟨(by
   have d:β' u=some (b,e):=he;show β'' u=some (b,e);rcases zza u n with g|r
   ·simp_all
   ·rw[n1.βf u j1] at d;cases d),λm hm=>hm⟩⟩⟩
 have M:∀ b,¬ (Root.mk w S sh).Old b->¬ w0.Old b:=λb c k=>c (E b k);refine⟨β'',⟨⟨n1.ext.tape.trans h.ext.tape,n1.ext.os.trans h.ext.os,n1.ext.output.trans h.ext.output,zHa h.ext.sz n1.ext.sz,zHa h.ext.dr n1.ext.dr,λb c=>(n1.ext.old b (E b c)).trans (h.ext.old b c)⟩,λt ht=>?_,h.nt,λt ht=>?_,λid o b I c=>(n1.obs id o b I c).mono hle rfl λ_ k=>k,λid b c=>⟨M b (n1.γn id b c).1,(n1.γn id b c).2⟩,n1.γi,λid hid=>n1.γf id ?_,λu b e hu he=>?_,λu F b e G hu D he d=>?_,λu id b e hu he=>?_,λu hu=>?_,n1.Sb,λb o c g=>h.So b o (n1.So b o c (E b g)) g⟩,hle⟩
 ·have L:t<s.nt:=by rw[<-h.nt];exact ht
  simp only[oU,zma L];rw[<-C,<-hn];refine NT H P O (λty u l hx hu k=>?_) (h.tms t ht);have hm:u∈q:=by rw[C];exact CM.2 ⟨zT L hx hu,k⟩
  refine⟨hm,Q u hm,λb e he m R=>?_⟩;have:=n1.ext.old b (j u hm b e he);simp only[nA,bS] at R ⊢;grind
 ·have ai:s.nt<=t:=ht;simp only[oU];grind
 ·have W:(sc.fresh+1)*4096+4096<=id:=hid;omega
 ·rcases zza u n with g|r
  ·rw[blt u g] at he;obtain⟨Y,Z,q3⟩:=n1.βn u b e hu he;grind
  ·obtain⟨x,hx,_,he⟩:=z u b e r he;obtain⟨Y,Z,q3⟩:=h.βn x b e (y x hx) he;exact⟨Y,zob Z U,λo I hs=>q3 o I (n1.So b o hs (j x hx b e he))⟩
 ·rcases zza u n with g|r
  ·rcases zza F n with B|A
   ·rw[blt u g] at he;rw[blt F B] at d;exact n1.βi u F b e G hu D he d
   ·rw[blt u g] at he;obtain⟨x,hx,_,d⟩:=z F b G A d;exact z3a (j x hx b G d) (n1.βn u b e hu he).1
  ·obtain⟨x,hx,ex,he⟩:=z u b e r he;rcases zza F n with B|A
   ·rw[blt F B] at d;exact z3a (j x hx b e he) (n1.βn F b G D d).1
   ·obtain⟨x',T,ad,d⟩:=z F b G A d;have:=h.βi x x' b e G (y x hx) (y x' T) he d;grind
 ·rcases zza u n with g|r
  ·rw[blt u g] at he;exact n1.βγ u id b e hu he
  ·obtain⟨x,hx,ex,he⟩:=z u b e r he;exact λhid=>(n1.γn id b hid).1 (j x hx b e he)
 ·have D:(sc.fresh+1)*4096+4096<=u:=hu;all_goals grind
end
end Sy
end
noncomputable section
namespace Sy
open Go
open Go.ChangeMaps (setBlock)
variable{ro:Option Nat}{nn:Nat}
section
variable{P:Program}{E:Env}{w0:Root}{S:Nat->Nat->Prop}{γ:Nat->Option Nat}{β:Nat->Option (Nat×Nat)}{s:St}{a:Act}{w:World}
mutual
theorem AC.anyOb{c:Cx}(ob':Nat->Option Ob):∀ (x:AV) (t:Ty) (cs:List Value),AV.fits t x=true->AC c x cs->AC ⟨c.w,c.S,c.γ,c.β,ob',c.dead⟩ x cs
 | .d t' x,t,cs,_,h=>by simpa only[AC] using h
 | .own t' v l,t,cs,_,h=>by simpa only[AC,ZR] using h
 | .nils,t,cs,_,h=>by simpa only[AC] using h
 | .st ts' l,t,cs,hf,h=>by
  cases t<;>simp only[AV.fits] at hf<;>first|cases hf|skip
  rename_i ts;simp only[zaa] at hf;simp only[AC] at h ⊢;exact⟨h.1,h.2.1,lN.anyOb ob' l ts cs hf.2 h.2.2⟩
 | .ptr ..,t,cs,hf,_=>by cases t<;>simp[AV.fits] at hf
 | .fptr ..,t,cs,hf,_=>by cases t<;>simp[AV.fits] at hf
 | .mem ..,t,cs,hf,_=>by cases t<;>simp[AV.fits] at hf
 | .clo ..,t,cs,hf,_=>by cases t<;>simp[AV.fits] at hf
 | .map ..,t,cs,hf,_=>by cases t<;>simp[AV.fits] at hf
 | .sub ..,t,cs,hf,_=>by cases t<;>simp[AV.fits] at hf
 | .yld ..,t,cs,hf,_=>by cases t<;>simp[AV.fits] at hf
 | .gone,t,cs,hf,_=>by cases t<;>simp[AV.fits] at hf
 | .undef,t,cs,hf,_=>by cases t<;>simp[AV.fits] at hf
theorem lN.anyOb{c:Cx}(ob':Nat->Option Ob):∀ (l:List AV) (ts:List Ty) (cs:List Value),AV.fitss ts l=true->lN c l cs->lN ⟨c.w,c.S,c.γ,c.β,ob',c.dead⟩ l cs
 | [],ts,cs,_,h=>by simpa only[lN] using h
 | a::l,ts,cs,hf,h=>by
  cases ts<;>simp only[AV.fitss] at hf<;>first|cases hf|skip
  simp only[zaa] at hf;simp only[lN] at h ⊢;obtain⟨c1,c2,rfl,h1,h2⟩:=h;exact⟨c1,c2,rfl,AC.anyOb ob' a _ c1 hf.1 h1,lN.anyOb ob' l _ c2 hf.2 h2⟩
end
theorem jx.anyOb{c:Cx}{a:Nat->Option Ob}{b vt:Ty}:∀ {j:Nat} {l:List D} {es:List MapEntry},jx c b vt j l es->jx ⟨c.w,c.S,c.γ,c.β,a,c.dead⟩ b vt j l es
 | _,[],[],_=>trivial
 | _,[],_::_,k=>k.elim
 | _,_::_,[],k=>k.elim
 | j,x::l,e::es,k=>by simp only[jx] at k ⊢;exact⟨k.1,jx.anyOb k.2⟩
def fU.anyOb{c:Cx}(a:Nat->Option Ob){x:AV}{v:Value}(h:fU c x v):fU ⟨c.w,c.S,c.γ,c.β,a,c.dead⟩ x v:=fU.mono (c:=c) (c':=⟨c.w,c.S,c.γ,c.β,a,c.dead⟩) (λ_ _ _=>rfl) (λ_ _ h=>h) (λ_ _ h=>h) h
theorem gt.anyOb{c:Cx}(a:Nat->Option Ob){b:Nat}{o:Ob}(h:gt c b o):gt ⟨c.w,c.S,c.γ,c.β,a,c.dead⟩ b o:=by
 cases o<;>simp only[gt] at h ⊢
 case one t v=> obtain⟨h1,h2,h3,cs,d,e,f⟩:=h;exact⟨h1,h2,h3,cs,d,AC.anyOb a v t cs h2 e,f⟩
 case many t l=>exact h
 case mp kt vt l=> obtain⟨h1,h2,h3,es,d,e⟩:=h;exact⟨h1,h2,h3,es,d,e.anyOb⟩
 case lp i p=> obtain⟨r,h1,h2,h3,d⟩:=h;exact⟨r,h1,h2,λt ht=>(h3 t ht).anyOb a,d⟩
 case fv v=> obtain⟨h1,x,h2,h3,d⟩:=h;exact⟨h1,x,h2,h3.anyOb a,d⟩
def xY{b o:Nat}{r:Loop}(h:w.heap[b]?=some (Obj.loop r)):w.cell? ⟨b,o,none⟩=none:=by simp[World.cell?,h]
def fa{b a:Nat}{x:Obj}(c:a≠b):(setBlock w b x).heap[a]?=w.heap[a]?:=by simp only[setBlock];rw[z3c (Ne.symm c)]
def gX{b:Nat}{x:Obj}(a:b<w.heap.size):(setBlock w b x).heap[b]?=some x:=World.putObj_heap_same a
def eI{b:Nat}{x:Obj}:(setBlock w b x).heap.size=w.heap.size:=by simp[setBlock]
def wo{L:Nat}{r r':Loop}(hl:w.heap[L]?=some (Obj.loop r))(b o:Nat):(setBlock w L (.loop r')).cell? ⟨b,o,none⟩=w.cell? ⟨b,o,none⟩:=by
 by_cases e:b=L
 ·subst e;rw[xY hl,xY (gX (zAa.1 hl).1)]
 ·simp only[World.cell?,fa e]
def Rp.setLp(h:Rp w0 S γ β s a w){id L:Nat}(x:γ id=some L){r:Loop}(hl:w.heap[L]?=some (Obj.loop r))(r':Loop):Rp w0 S γ β (s.setOb id none) a (setBlock w L (.loop r')):=by
 have hle:Cx.le ⟨w,S,γ,β,s.ob,s.dead⟩ ⟨setBlock w L (.loop r'),S,γ,β,(s.setOb id none).ob,s.dead⟩:=by
  refine⟨λb o _=>wo hl b o,λ_ _ j=>j,λ_ _ j=>j,λi y hy _=>⟨y,?_,λp=>⟨rfl,rfl⟩,λt l e=>⟨l,e,rfl⟩,λ_ _ l e=>⟨l,e⟩⟩,λv q=>⟨q,λc e he=>⟨he,λn hn=>?_⟩⟩⟩
  ·simp_all [St.setOb]
  ·have g:c≠L:=λu=>h.βγ v id c e q he (u ▸ x);have k:nA w c=some n:=hn;show nA (setBlock w L (.loop r')) c=some n;simp only[nA,bS,fa g] at k ⊢;exact k
 refine⟨oZ h.ext rfl rfl rfl (by rw[eI];exact zja _) (zja _) (λc d=>fa λe=>(h.γn id L x).1 (e ▸ d)),λt ht=>(h.tms t ht).mono hle,h.nt,h.tmu,λi y c hy d=>?_,λi c d=>by rw[eI];exact h.γn i c d,h.γi,h.γf,
  λv c e q he=>by rw[eI];exact h.βn v c e q he,h.βi,h.βγ,h.βf,λc o j=>by rw[eI];exact h.Sb c o j,h.So⟩
 have m:i≠id/\s.ob i=some y:=by all_goals simp_all [St.setOb]
 have g:c≠L:=λu=>m.1 (h.γi i id c d (u ▸ x));exact(h.obs i y c m.2 d).mono hle (fa g) λ_ z=>z
def Fm.setLp(h:Rp w0 S γ β s a w){s1:St}{L:Nat}{r r':Loop}(hl:w.heap[L]?=some (Obj.loop r))(he:C0 r r'):Fm s1 S γ a w S γ a (setBlock w L (.loop r')):=by
 have d:=(zAa.1 hl).1;refine⟨λ_ _ c=>c,λb o _=>wo hl b o,λ_ _=>rfl,λi _ b c=>⟨c,?_⟩,by rw[eI];exact zja _,λ_ _ c=>c,mJ.same rfl λb=>?_⟩
 ·by_cases e:b=L
  ·subst e;exact .inr ⟨r,r',hl,gX d,he⟩
  ·exact .inl (fa e)
 ·by_cases e:b=L
  ·subst e;exact⟨λc=>(by rw[hl] at c;cases c),λ_=>⟨r',gX d⟩⟩
  ·simp_all [fa]
theorem Rp.leaveY(h:Rp w0 S γ β s a w){id L:Nat}{i:LpI}{p:Option Ex}(l:γ id=some L)(k:gt ⟨w,S,γ,β,s.ob,s.dead⟩ L (.lp i p)):Rp w0 S γ β (leaveY s id i p) a w:=by
 refine⟨h.ext,λt ht=>by simp only[Sy.leaveY,AR],h.nt,λt ht=>rfl,λj o b g d=>?_,h.γn,h.γi,h.γf,h.βn,h.βi,h.βγ,h.βf,h.Sb,h.So⟩
 have c:(if j=id then some (Ob.lp i p) else s.ob j)=some o:=g
 by_cases e:j=id
 ·subst e;rw[zma rfl] at c;cases c;rw[l] at d;cases d;exact k.anyOb _
 ·rw[zia e] at c;exact(h.obs j o b c d).anyOb _
def xb(s:St)(id:Nat)(i:LpI)(p:Option Ex):leaveY (s.setOb id none) id i p=leaveY s id i p:=by
 have:(λj=>if j=id then some (Ob.lp i p) else(s.setOb id none).ob j)=λj=>if j=id then some (Ob.lp i p) else s.ob j:=by
  funext j;by_cases e:j=id
  ·simp[e]
  ·simp[St.setOb,e]
 simp only[leaveY,this];rfl
theorem vT{c:Cx}:∀ (l:List (Nat×AV)) (l':List (Nat×Value)) (f:Nat->AV) (T:Array Value),l.length=l'.length->(∀ (i p:Nat) (x:AV) (q:Nat) (v:Value),l[i]?=some (p,x)->l'[i]?=some (q,v)->p=q/\AR c x v) ->
  (∀ t,t<T.size->AR c (f t) (T.getD t undef))->(l'.foldl (λtmps p=>tmps.setIfInBounds p.1 p.2) T).size=T.size/\∀ t,t<T.size->AR c (mr l f t) ((l'.foldl (λtmps p=>tmps.setIfInBounds p.1 p.2) T).getD t undef)
 | [],[],f,T,_,_,h=>⟨rfl,h⟩
 | [],_::_,f,T,hl,_,_=>by simp at hl
 | _::_,[],f,T,hl,_,_=>by simp at hl
 | (p,x)::l,(q,v)::l',f,T,hl,hx,h=>by
  obtain⟨e,b⟩:=hx 0 p x q v rfl rfl;subst e;simp only[zCc,mr];obtain⟨h1,h2⟩:=vT l l' (λt=>if t=p then x else f t) (T.setIfInBounds p v) (by simpa using hl) (λi=>hx (i+1)) λt ht=>by
   have a:t<T.size:=by simpa using ht
   by_cases e:t=p
   ·subst e;rw[zma rfl];simpa [Array.getD,a] using b
   ·rw[zia e];have:=h t a;simp only[Array.getD] at this ⊢;rw[dif_pos a] at this;rw[dif_pos ht,Array.getInternal_eq_getElem,Array.getElem_setIfInBounds_ne a (Ne.symm e)]
    rwa [Array.getInternal_eq_getElem] at this
  refine⟨by rw[h1];simp,λt ht=>h2 t (by simpa using ht)⟩
theorem tD:∀ (l:List (Nat×AV)) (f:Nat->AV) (n t:Nat),(∀ p∈l,p.1<n)->n<=t->mr l f t=f t
 | [],f,n,t,_,_=>rfl
 | (p,x)::l,f,n,t,h,ht=>by
  simp only[mr];rw[tD l _ n t (λq hq=>h q (by simp[hq])) ht]
  have:=h (p,x) j3
  simp only at this;rw[zia j1]
theorem lP(h:Rp w0 S γ β s a w):∀ (l:List Operand) (i:Nat) (x:AV) (v:Value),(l.map s.opA)[i]?=some x->(l.map a.eval)[i]?=some v->AR ⟨w,S,γ,β,s.ob,s.dead⟩ x v
 | [],i,x,v,hx,_=>by simp at hx
 | y::l,0,x,v,hx,b=>by simp at hx b;subst hx;subst b;exact aX h y
 | y::l,i+1,x,v,hx,b=>by simp only[zbb,zqb] at hx b;exact lP h l i x v hx b
theorem Fm.less{s s2:St}{S':Nat->Nat->Prop}{γ':Nat->Option Nat}{a':Act}{w':World}(h:Fm s S γ a w S' γ' a' w')(c:∀ t∈s2.lkS,t∈s.lkS)(b:∀ t∈s2.lkO,t∈s.lkO):Fm s2 S γ a w S' γ' a' w':=
 ⟨h.sub,h.cell,λt ht=>h.slots t (c t ht),λid hid=>h.objs id (b id hid),h.sz,h.gam,h.dfs.less b⟩
def ux(c:Cx)(b:Bool):AR c (.d .bool (.bool b)) (.bool b):=gM _
def KK(hE:EnvOk P E)(h:Rp w0 S γ β s a w){o:Oper}{c:Call}(al:o.op=.call c){id:Nat}{i:LpI}{W:List AV}(hy:QO s c=some (id,i,W)){R:Type}{K:AV->St->Option R}{r:R}{an:Ann}(F:XR E an s id i W K=some r)
  {next:Act->World->Prop} {Q:Exit->Act->World->Prop}
  (hk:∀ y v s' S' γ' β' w',K y s'=some r->Rp w0 S' γ' β' s' a w'->AR ⟨w',S',γ',β',s'.ob,s'.dead⟩ y v->Fm s S γ a w S' γ' a w'->Sk s s'->next (a.put o.dst v) w'):o.wpIn (FW ro) nn P a w next Q:=by
 obtain⟨dst,op,ty,pos,after,guard⟩:=o;simp only at al;subst al;obtain⟨callee,args,argTypes⟩:=c;unfold QO at hy;split at hy<;>first|(cases hy;done)|skip
 rename_i t hc;simp only at hc;subst hc;split at hy<;>first|(cases hy;done)|skip
 rename_i f ht;split at hy<;>first|(cases hy;done)|skip
 rename_i m a6;simp only[zda,Prod.mk.injEq] at hy;obtain⟨rfl,rfl,rfl⟩:=hy;have hA:=aX h (.tmp t);have Z:AR ⟨w,S,γ,β,s.ob,s.dead⟩ (.yld f) (a.eval (.tmp t)):=by rw[<-ht];exact hA
 simp only[AR,AC] at Z;obtain⟨na,L,a5,hγ⟩:=Z;have hv:=au na a5;have hO:=h.obs f _ L a6 hγ;simp only[gt] at hO;obtain⟨rec,hl,⟨p1,p2,p3,p4⟩,H,bp,bn⟩:=hO;unfold XR at F;split at F<;>first|(cases F;done)|skip
 rename_i J;obtain⟨hlen,a7,bi⟩:=J;have M:args.size=rec.params.size:=by
  have:(args.toList.map s.opA).length=rec.params.toList.length:=by rw[p2];exact hlen
  simpa using this
 have bk:=run_yield (P:=P) (args:=(args.map a.eval)) hl (by simpa using M)
 refine⟨λ_ _=>trivial,?_⟩;have ax:((⟨dst,.call ⟨.value (.tmp t),args,argTypes⟩,ty,pos,after,guard⟩:Oper).semAt (FW ro).round a.eval).run P w=.ok (.round L rec.fn ((rec.params.zip (args.map a.eval)).foldl (λtmps (t,a)=>tmps.setIfInBounds t a) rec.tmps) rec.assign rec.body) w:=by
  rw[Oper.semAt_eq _ _ _ (λc=>j3)]
  simp only[execOp,resolve,hv];simpa [Deferred.ofValue,invoke,go_sem] using bk
 rw[ax];simp only[Oper.uponIn];refine⟨λh=>(by cases h),?_⟩
 obtain⟨T,hT⟩:∃ T,T=(rec.params.zip (args.map a.eval)).foldl (λtmps (t,a)=>tmps.setIfInBounds t a) rec.tmps:=⟨_,rfl⟩;rw[<-hT];refine RoundIn.mono (R:=λen a0=>∃ v,en=.returned v/\next (a.put dst v) a0) ?_ (λen a0 ⟨v,he,hn⟩=>by subst he;exact hn)
 refine roundIn_of_wpIn trivial ?_;show Code.wpIn (FW (some L)) (nn-1) P rec.assign _ _ _;rw[p3,p4];obtain⟨V,z⟩:∃ V,V=xh s []:=⟨_,rfl⟩;obtain⟨sh,aB⟩:∃ sh:Nat->Prop,sh=λb=>(∃ id,γ id=some b)\/∃ v e,v ∉ V++s.dead/\β v=some (b,e):=⟨_,rfl⟩;have I:T.size=rec.tmps.size/\∀ t,t<rec.tmps.size->AR ⟨w,S,γ,β,s.ob,V++s.dead⟩ ((E0 s m f (args.toList.map s.opA)).tm t) (T.getD t undef):=by
  have key:=vT (c:=⟨w,S,γ,β,s.ob,V++s.dead⟩) (m.ps.zip (args.toList.map s.opA)) (m.ps.zip (args.toList.map a.eval)) (λt=>if t<m.nt then oK s.ob (m.caps t) else .undef) rec.tmps j3 (λj p x q v hx hv=>by
   rw[List.getElem?_zip_eq_some] at hx hv;refine⟨by have:=hx.1.symm.trans hv.1;simpa using this,?_⟩
   refine AR.mono (c:=⟨w,S,γ,β,s.ob,s.dead⟩) (c':=⟨w,S,γ,β,s.ob,V++s.dead⟩) ⟨λ_ _ _=>rfl,λ_ _ hb=>hb,λ_ _ hb=>hb,λid o ho _=>⟨o,ho,λp=>⟨rfl,rfl⟩,λt l e=>⟨l,e,rfl⟩,λ_ _ l e=>⟨l,e⟩⟩,λu hu=>⟨λhh=>hu (zLa _ hh),λb e he=>⟨he,λn hn=>hn⟩⟩⟩ (lP h _ j x v hx.2 hv.2))
   (λt ht=>by
    rw[zma j1]
    exact Ba (c:=⟨w,S,γ,β,s.ob,s.dead⟩) (H t j1))
  have e:T=(m.ps.zip (args.toList.map a.eval)).foldl (λtmps p=>tmps.setIfInBounds p.1 p.2) rec.tmps:=by rw[hT,<-p2,<-Array.foldl_toList,Array.toList_zip,Array.toList_map]
  rw[e];exact key
 have a9:T.size=m.nt:=I.1.trans p1;have RI:Rp ⟨w,S,sh⟩ S γ β (E0 s m f (args.toList.map s.opA)) ⟨T,[]⟩ w:=by
  refine E1 h z aB (λj o hj=>hj) rfl (by rw[z,CN];rfl) a9 (λu hu=>?_) (λu hu=>I.2 u (by rw[<-I.1];exact hu))
  have bj:m.nt<=u:=hu;show mr _ _ u=.undef;rw[tD _ _ m.nt u (λp hp=>by have h1:=(List.of_mem_zip (a:=p.1) (b:=p.2) hp).1;have:=zEa.1 a7 _ h1;simpa using this) bj,zia j1]
 refine hE.cod (some L) (nn-1) ⟨w,S,sh⟩ m.asg an.fst R _ S γ β _ _ w _ r (λl e=>by cases e;exact⟨rec,hl⟩) RI F λe s1 S1 γ1 β1 a1 w1 n1 n2 N U=>?_
 cases e with
 | exit j=>cases U
 | ret=>cases U
 | normal=>
 simp only at U;split at U<;>first|(cases U;done)|skip
 rename_i i1 ak;simp only[IX,Exit.then];obtain⟨g1,st1⟩:=n2.objs f zsa L hγ;have ad:=n1.obs f _ L ak g1;simp only[gt] at ad;obtain⟨g,B,_,_,aI,bm⟩:=ad;have X:C0 rec g:=by
  rcases st1 with k|⟨r,r',k1,k2,O⟩
  ·rw[B,hl] at k;cases k;exact⟨rfl,rfl,rfl,rfl⟩
  ·rw[hl] at k1;cases k1;rw[B] at k2;cases k2;exact O
 refine⟨_,run_beginRound B aI,?_⟩;have a3:=(zAa.1 B).1;have M1:=n1.setLp g1 B { g with state:=.busy };have F1:=Fm.setLp n1 (s1:=s1) B (r':={ g with state:=.busy }) ⟨rfl,rfl,rfl,rfl⟩;have G:(setBlock w1 L (.loop { g with state:=.busy })).heap[L]?=some (.loop { g with state:=.busy }):=gX a3;show Code.wpIn (FW (some L)) (nn-1) P m.bdy _ a1 (setBlock w1 L (.loop { g with state:=.busy }));generalize setBlock w1 L (.loop { g with state:=.busy })=w2 at M1 F1 G ⊢;have aj:s1.lkO=f::s.lkO:=N.lkO;refine hE.cod (some L) (nn-1) ⟨w,S,sh⟩ m.bdy an.snd R _ S1 γ1 β1 _ a1 w2 _ r (λl e=>by cases e;exact⟨_,G⟩) M1 U λe s2 S2 γ2 β2 a2 w3 m1 m2 m3 m4=>?_
 obtain⟨g2,st2⟩:=m2.objs f (by rw[show(s1.setOb f none).lkO=s1.lkO from rfl,aj];exact zsa) L g1
 obtain⟨A,C,e3⟩:∃ A,w3.heap[L]?=some (Obj.loop A)/\C0 rec A:=by
  rcases st2 with k|⟨r,r',k1,k2,O⟩
  ·exact⟨_,k.trans G,X⟩
  ·rw[G] at k1;cases k1;exact⟨r',k2,O.1.trans X.1,O.2.1.trans X.2.1,O.2.2.1.trans X.2.2.1,O.2.2.2.trans X.2.2.2⟩
 have a4:=(zAa.1 C).1;have F2:Fm (E0 s m f (args.toList.map s.opA)) S γ ⟨T,[]⟩ w S2 γ2 a2 w3:=(n2.trans (F1.less (s2:=s1) (λ_ h=>h) (λ_ h=>h)) N.lkS N.lkO).trans (s1:=s1) (m2.less (λ_ h=>h) (λ_ h=>h)) N.lkS N.lkO;have fin:∀ (d:Loop) (p:Option Ex) (v:Value) (y:AV),C0 A d->ZF p d->(∀ c,AR c y v)->K y (oU s (leaveY s2 f m p) [])=some r->next (a.put dst v) (setBlock w3 L (.loop d)):=by
  intro d p v y Y hd bl hK;have D:C0 rec d:=⟨Y.1.trans e3.1,Y.2.1.trans e3.2.1,Y.2.2.1.trans e3.2.2.1,Y.2.2.2.trans e3.2.2.2⟩;have F3:=F2.trans (Fm.setLp m1 (s1:=s2) C Y) (m3.lkS.trans N.lkS) (m3.lkO.trans N.lkO);have M2:=m1.setLp g2 C d;have ai:(setBlock w3 L (.loop d)).heap[L]?=some (.loop d):=gX a4;generalize setBlock w3 L (.loop d)=w4 at F3 M2 ai ⊢;have M3:=M2.leaveY (i:=m) (p:=p) g2 (by
   simp only[gt];refine⟨d,ai,⟨by rw[D.1];exact p1,by rw[D.2.1];exact p2,by rw[D.2.2.1];exact p3,by rw[D.2.2.2];exact p4⟩,λu hu=>?_,hd⟩
   rw[D.1];exact fU.mono (c:=⟨w,S,γ,β,s.ob,s.dead⟩) F3.cell F3.sub F3.gam (H u hu))
  rw[xb] at M3;obtain⟨β'',B1,B2⟩:=Et h z aB (by rw[z,CN];exact bi) M3 F3.sub F3.cell F3.gam F3.sz
  exact hk y v _ S2 γ2 β'' w4 hK B1 (bl _) ⟨F3.sub,F3.cell,λ_ _=>rfl,λj hj=>F3.objs j (zoa _ hj),F3.sz,F3.gam,mJ.same rfl F3.dfs.1⟩ ⟨rfl,rfl,rfl⟩
 cases e with
 | normal=>exact⟨_,_,run_endRound none C,_,rfl,fin _ none _ _ ⟨rfl,rfl,rfl,rfl⟩ ⟨rfl,rfl⟩ (λc=>ux c true) m4⟩
 | ret=>exact⟨_,_,run_endRound (some .ret) C,_,rfl,fin _ (some .ret) _ _ ⟨rfl,rfl,rfl,rfl⟩ ⟨rfl,rfl⟩ (λc=>ux c false) m4⟩
 | exit j=>exact⟨_,_,run_endRound (some (.exit j)) C,_,rfl,fin _ (some (.exit j)) _ _ ⟨rfl,rfl,rfl,rfl⟩ ⟨rfl,rfl⟩ (λc=>ux c false) m4⟩
def Rp.later(h:Rp w0 S γ β s a w):Rp w0 S γ β (C5 s) a w:=by
 have q:∀ i,((C5 s):St).base+4096<=i->s.base+4096<=i:=λi b=>by exact zHa (Nat.add_le_add_right (zMa 4096 (z1c s.fresh)) 4096) b
 exact⟨h.ext,h.tms,h.nt,h.tmu,h.obs,h.γn,h.γi,λi b=>h.γf i (q i b),h.βn,h.βi,h.βγ,λv c=>h.βf v (q v c),h.Sb,h.So⟩
def MN{E:Env}{s0:St}{k:Nat->Option Nat}{j:Nat->Option (Nat×Nat)}(h:Rp w0 S γ β s a w){l:List (Nat×Oper)}(c:(l.all λp=>z7 p.2)=true)(hf:∀ o∈l.map Prod.snd,Fr E s0 k j o):∀ o∈l.map Prod.snd,Fr E (C5 s) γ β o:=by
 intro o' b hc d i;have g:(C5 s).base=s.base+4096:=by simp only[C5,St.base];omega
 rw[g];refine⟨(hf o' b hc d i).1,h.γf _ j1,h.βf _ j1,λT t e=>?_⟩
 obtain⟨p,hp,rfl⟩:=zNa.1 b;have:=zEa.1 c p hp
 simp_all [z7]
end
end Sy
end
noncomputable section
namespace Sy
open Go
variable{ro:Option Nat}{nn:Nat}
def Nl{E:Env}{ops:Array Oper}{N:Nat}{R:Type}{i:Nat}{o:Oper}{l:List (Nat×Oper)}{s:St}{k:St->Option R}{r:R}(V:o.guard=none)(j:tG E s i o l=true){an:Ann}(h:jE E (N+1) R ops an ((i,o)::l) s k=some r) :
  ∃ e L f g Z Y,l=e++(L,f)::g/\iT o=true/\(∀ p∈e,iT p.2=true)/\iT f=true/\seqV E ops (o::(e.map Prod.snd++[f])) s=some Z/\Wk Z Y/\jE E N R ops an g Y k=some r:=by
 simp only[jE,V,j,if_true] at h;simp only[tG,zaa] at j;obtain⟨_,a⟩:=j;obtain⟨O,P⟩:=jP o.dst l;generalize dH o.dst l=sp at *;obtain⟨e,rest⟩:=sp;simp only at h O P a;split at h<;>first|(cases h;done)|skip
 rename_i _ _ L f g d U;simp only[U] at a;simp only[zaa,zfa,zTa,zEa] at a;obtain⟨⟨⟨⟨⟨c1,c2⟩,c3⟩,cI⟩,y⟩,c5⟩:=a;have X:=ms c3;have H:=P _ _ rfl;obtain⟨pc,px,py,G⟩:=tq H;unfold PP at h;split at h<;>first|(cases h;done)|skip
 rename_i F;rw[pZ E s X] at h;obtain⟨v,h3,Q⟩:=iK h;rw[U] at Q;obtain⟨c,S,h6⟩:=ab Q;rw[ur c1] at S;have hv:=jS S;subst hv;obtain⟨x,T,h8⟩:=ab h6;have I:∀ b,b=c->(s.put (some d) (.d .bool (.bool c))).put (some d) (.d .bool (.bool b))=s.put (some d) (.d .bool (.bool c)):=λb hb=>vU (by rw[ur c1,hb])
 have m:∃ w:St->Option Bool,(∀ s2,w s2=qv E s2 f AV.truth)/\jE E N Bool ops .leaf e (s.put (some d) (.d .bool (.bool c))) w=some x:=by all_goals grind
 obtain⟨w,D,T⟩:=m;obtain⟨s2,M,N2,C,z,q⟩:=Bv N Bool e _ w x e.length .leaf (zja _) (λp hp=>by rw[zub] at hp;exact⟨ms (y p hp).1.1,(y p hp).2⟩) (.inl λp hp=>by simp at hp) T
 rw[zad] at q;rw[zub] at C;have t:w M=some x:=by cases N2<;>simpa [jE] using q
 rw[D] at t;obtain⟨v2,A,B⟩:=iK t;have aj:=jS B;obtain⟨v3,ad,ai⟩:=z.qv A;have J:v3=.d .bool (.bool x):=by all_goals simp_all
 subst J;have K:Wk (s2.put f.dst (.d .bool (.bool x))) ((killD (s.put (some d) (.d .bool (.bool c))) (e.map Prod.snd)).put f.dst (.d .bool (.bool x))):=(lz _ C).put f.dst (.inl rfl);have u:val E ops s o=some (.d .bool (.bool c)):=by unfold val;rw[zia F,V];exact h3
 have W:¬ qm s2 f=true:=by
  have:s2.lkS=s.lkS:=by
   have w1:=(lz _ C).lkS;have w2:∀ (l:List Oper) (s:St),(killD s l).lkS=s.lkS:=by
    intro l
    induction l with
    | nil=>intro s;rfl
    | cons o l ih=>intro s;rw[killD,ih];exact(acK s o.dst .undef).2.2.2.2.1
   rw[<-w1,w2];exact(acK s (some d) _).2.2.2.2.1
  simp_all [qm]
 have n:val E ops s2 f=some (.d .bool (.bool x)):=by
  unfold val
  simp_all
 refine⟨e,L,f,g,_,_,O,X,λp hp=>ms (y p hp).1.1,GS G,?_,K,h8⟩
 simp_all [seqV,u,zba,nD,n]
section
variable{P:Program}{E:Env}{w0:Root}{S:Nat->Nat->Prop}{γ:Nat->Option Nat}{β:Nat->Option (Nat×Nat)}{s:St}{a:Act}{w:World}{ops:Array Oper}
def yV{o:Oper}(h:Rp w0 S γ β s a w):(o.guard=none->Region.wanted o (yielded ops a.tmps)=true) ∧
  (∀ j want g c,o.guard=some (j,want)->(ops[j]?).bind (·.dst)=some g->(s.tm g).truth=some c->Region.wanted o (yielded ops a.tmps)=(c==want)) ∧
  ∀ j want g,o.guard=some (j,want)->(ops[j]?).bind (·.dst)=some g->s.tm g=.gone->Region.wanted o (yielded ops a.tmps)=false:=by
 refine⟨λb=>by simp[Region.wanted,b],λj want g c b h1 h2=>?_,λj want g b h1 h2=>?_⟩
 rotate_left
 ·have h3:AR ⟨w,S,γ,β,s.ob,s.dead⟩ (s.tm g) (a.eval (.tmp g)):=aX h (.tmp g);rw[h2] at h3;have d:a.eval (.tmp g)=undef:=h3;simp only[Act.eval] at d;simp only[Region.wanted,b,yielded,h1,zba];by_cases hlt:g<a.tmps.size
  ·have e:a.tmps[g]?=some undef:=by
    simp_all
   rw[e];rfl
  ·simp_all
 obtain⟨h3,_⟩:=pF h2 (aX h (.tmp g));have e:a.tmps[g]?=some (.bool c):=by
  simp only[Act.eval] at h3;by_cases hlt:g<a.tmps.size
  ·simp_all
  ·exfalso;have:s.tm g=.undef:=h.tmu g (by rw[<-h.nt];exact Nat.le_of_not_lt hlt)
   simp_all
 simp_all [Region.wanted,yielded,zba]
def Ee(i:EnvOk P E)(h:Rp w0 S γ β s a w){o:Oper}(hf:Fr E s γ β o){v:AV}(hq:val E ops s o=some v) :
  (Region.wanted o (yielded ops a.tmps)=true->fd P o a w λu w'=>∃ S' γ' β',Rp w0 S' γ' β' (s.put o.dst v) (a.put o.dst u) w'/\Fm s S γ a w S' γ' (a.put o.dst u) w'/\(∀ id,o.dst≠some (id-s.base)\/id<s.base->γ' id=γ id/\β' id=β id)) ∧
  (Region.wanted o (yielded ops a.tmps)=false->Rp w0 S γ β (s.put o.dst v) (a.put o.dst undef) w/\Fm s S γ a w S γ (a.put o.dst undef) w):=by
 unfold val at hq;split at hq<;>first|(cases hq;done)|skip
 rename_i f;have b:∀ t∈s.lkS,o.dst≠some t:=λt ht e=>f (by simp[qm,e];exact ht)
 have main:qv E s o some=some v->fd P o a w λu w'=>∃ S' γ' β',Rp w0 S' γ' β' (s.put o.dst v) (a.put o.dst u) w'/\Fm s S γ a w S' γ' (a.put o.dst u) w'/\(∀ id,o.dst≠some (id-s.base)\/id<s.base->γ' id=γ id/\β' id=β id):=by
  intro hq;obtain⟨s',h1,h2⟩:=xJ i h hf (λT t _ ht=>i.flat T t ht) b (K:=some) (r:=s.put o.dst v) (by rw[JX,hq];rfl)
  cases h1;exact h2.2.2.2.2.2
 have skip:Rp w0 S γ β (s.put o.dst .gone) (a.put o.dst undef) w/\Fm s S γ a w S γ (a.put o.dst undef) w:=
  ⟨h.put (by simp[AR]) o.dst,λ_ _ d=>d,λ_ _ _=>rfl,λt ht=>cr (b t ht),λ_ _ _ d=>⟨d,ks.refl _ _⟩,zja _,λ_ _ d=>d,mJ.same bX (dB.refl _)⟩
 obtain⟨w1,l,m⟩:=yV (ops:=ops) (o:=o) h;cases hg:o.guard with
 | none=> simp_all
 | some p=>
  obtain⟨j,want⟩:=p;rw[hg] at hq;simp only at hq;obtain⟨g,h1,h2⟩:=ab hq;by_cases hgo:s.tm g=.gone
  ·grind [iE]
  rw[gR hgo] at h2;obtain⟨c,h3,k⟩:=ab h2;all_goals grind
def Mw(E:Env)(s:St)(γ:Nat->Option Nat)(β:Nat->Option (Nat×Nat))(l:List Oper):Prop:=∀ o∈l,Fr E s γ β o
def Fr.keep{o o':Oper}{s':St}{γ':Nat->Option Nat}{β':Nat->Option (Nat×Nat)}(h:Fr E s γ β o')(f:∀ d,o'.dst=some d->o.dst≠some d)(b:s'.fresh=s.fresh)
  (c:∀ id,γ id=none->o.dst≠some (id-s.base)\/id<s.base->s'.ob id=s.ob id) (hk:∀ id,o.dst≠some (id-s.base)\/id<s.base->γ' id=γ id/\β' id=β id):Fr E s' γ' β' o':=by
 intro hc d a;obtain⟨h1,h2,h3,e⟩:=h hc d a
 simp_all [St.base,zOb]
structure Sm(s s':St):Prop where
 lkS:s'.lkS=s.lkS
 lkO:s'.lkO=s.lkO
 fresh:s'.fresh=s.fresh
 nt:s'.nt=s.nt
def Sm.sk{s s':St}(h:Sm s s'):Sk s s':=⟨h.lkS,h.lkO,h.nt⟩
def Sm.refl(s:St):Sm s s:=⟨rfl,rfl,rfl,rfl⟩
theorem Sm.trans{a b c:St}(h:Sm a b)(k:Sm b c):Sm a c:=⟨k.lkS.trans h.lkS,k.lkO.trans h.lkO,k.fresh.trans h.fresh,k.nt.trans h.nt⟩
theorem Sm.put(s:St)(d:Option Nat)(v:AV):Sm s (s.put d v):=by obtain⟨f,a,g,b,c,e,h⟩:=acK s d v;exact⟨c,e,a,b⟩
def Sm.wk{s s':St}(h:Wk s s'):Sm s s':=⟨h.lkS,h.lkO,h.fresh,h.nt⟩
theorem As(j:EnvOk P E){Q:Exit->Act->World->Prop}:∀ (l b:List Oper) {S:Nat->Nat->Prop} {γ:Nat->Option Nat} {β:Nat->Option (Nat×Nat)} {s:St} {a:Act} {w:World} {s':St},Rp w0 S γ β s a w->Mw E s γ β (l++b)->(∀ (A B:List Oper) o o',l++b=A++o::B->o'∈B->∀ d,o'.dst=some d->o.dst≠some d)->seqV E ops l s=some s' ->
  (∀ S' γ' β' a' w',Rp w0 S' γ' β' s' a' w'->Fm s S γ a w S' γ' a' w'->Sm s s'->Mw E s' γ' β' b->wpListIn (FW ro) nn P ops Q b a' w')->wpListIn (FW ro) nn P ops Q (l++b) a w
 | [],b,S,γ,β,s,a,w,s',h,hf,_,hq,hk=>by simp only[seqV,zda] at hq;subst hq;exact hk S γ β a w h (Fm.refl _ _ _ _ _) (Sm.refl s) (by simpa using hf)
 | o::l,b,S,γ,β,s,a,w,s',h,hf,z,hq,hk=>by
  simp only[seqV] at hq;obtain⟨v,h1,h2⟩:=ab hq;have m:Fr E s γ β o:=hf o j3
  obtain⟨C,D⟩:=Ee j h m h1;have k:∀ o'∈l++b,∀ d,o'.dst=some d->o.dst≠some d:=λo' c=>z [] (l++b) o o' rfl c;have g:∀ (A B:List Oper) x i,l++b=A++x::B->i∈B->∀ d,i.dst=some d->x.dst≠some d:=λA B x i e hx=>z (o::A) B x i (by simp[e]) hx
  have p:=acK s o.dst v;have f:∀ {γ':Nat->Option Nat} {β':Nat->Option (Nat×Nat)},(∀ id,o.dst≠some (id-s.base)\/id<s.base->γ' id=γ id/\β' id=β id)->Mw E (s.put o.dst v) γ' β' (l++b):=λhk o' c=> (hf o' (by simp only[zBb,zBa];exact .inr c)).keep (k o' c) p.2.1 (λid _ _=>by rw[p.1]) hk
  simp only[zBb,wpListIn];split
  ·rename_i hw;refine(bE (C hw) λu w' ⟨S',γ',β',m1,m2,m3⟩=>?_);exact As j l b m1 (f m3) g h2 λS2 y t a2 r n1 n2 n q=>hk S2 y t a2 r n1 (m2.trans n2 p.2.2.2.2.1 p.2.2.2.2.2.1) ((Sm.put s o.dst v).trans n) q
  ·rename_i hw;obtain⟨m1,m2⟩:=D (by simpa using hw)
   exact⟨λ_ _=>trivial,As j l b m1 (f λid _=>⟨rfl,rfl⟩) g h2 λS2 y t a2 r n1 n2 n q=>hk S2 y t a2 r n1 (m2.trans n2 p.2.2.2.2.1 p.2.2.2.2.2.1) ((Sm.put s o.dst v).trans n) q⟩
theorem mO{c:Cx}:∀ (l:List AV) (caps:List Value),l.all ge=true->oH c l caps->l.length=caps.length/\∀ (i:Nat) (x:AV) (v:Value),l[i]?=some x->caps[i]?=some v->AR c x v
 | [],caps,_,h=>by simp_all [oH]
 | y::l,caps,hp,h=>by
  simp only[oH] at h;obtain⟨v0,c2,rfl,h1,h2⟩:=h;simp only[zZb,zaa] at hp;obtain⟨d,f⟩:=mO l c2 hp.2 h2;refine⟨by simp[d],λi x v hx a=>?_⟩
  cases i with
  | zero=>
   simp at hx a;subst hx;subst a;cases y<;>simp only[ge] at hp<;>first|(cases hp.1;done)|skip
   simp only[AC] at h1;obtain⟨b,off,e,h3⟩:=h1;simp only[List.cons.injEq,and_true] at e;grind [AR,AC,Value.cells]
  | succ i=>simp only[zqb] at hx a;exact f i x v hx a
def Qd(hE:EnvOk P E)(h:Rp w0 S γ β s a w){o:Oper}{c:Call}(hop:o.op=.call c)(hlk:∀ t∈s.lkS,o.dst≠some t){R:Type}{K:St->Option R}{r:R}{an:Ann}
  (hev:((rV s c).bind λq=>(E.inl q.1).bind λg=>g an R s q.2 λv s'=>K (s'.put o.dst v))=some r) :
  fd P o a w λu w'=>∃ s' S' γ' β',K s'=some r/\Rp w0 S' γ' β' s' (a.put o.dst u) w'/\Fm s S γ a w S' γ' (a.put o.dst u) w'/\Sk s s':=by
 obtain⟨⟨f,avs⟩,h1,hev1⟩:=ab hev;clear hev;obtain⟨g,h2,hev2⟩:=ab hev1;clear hev1;simp only at h2 hev2;obtain⟨⟨fn,f1,f2,f3⟩,hI⟩:=hE.inl f g h2;have key:∃ vs:List Value,avs.length=vs.length/\(∀ (i:Nat) (x:AV) (v:Value),avs[i]?=some x->vs[i]?=some v->AR ⟨w,S,γ,β,s.ob,s.dead⟩ x v)/\(execOp a.eval o).run P w=.ok (.enter f vs.toArray) w:=by
  clear hev2 hI h2;have hb:¬ fn.body=none:=h7
  have f2' : ¬ fn.name = "runtime.NumGoroutine" := by simpa using f2
  obtain⟨dst,op,ty,pos,after,guard⟩:=o;simp only at hop;subst hop;obtain⟨callee,args,argTypes⟩:=c;simp only[rV] at h1;split at h1<;>first|(cases h1;done)|skip
  ·rename_i f';simp only[zda,Prod.mk.injEq] at h1;obtain⟨rfl,rfl⟩:=h1;refine⟨args.toList.map a.eval,j3,lP h _,?_⟩
   have hm:args.map a.eval=(args.toList.map a.eval).toArray:=zpc j3
   simp[execOp,resolve,Act.eval,Deferred.ofValue,invoke,callFunc,f1,f2',hb,hm]
  ·rename_i t;split at h1<;>first|(cases h1;done)|skip
   rename_i f' l ht;split at h1<;>first|(cases h1;done)|skip
   rename_i hp;simp only[zda,Prod.mk.injEq] at h1;obtain⟨rfl,rfl⟩:=h1;have hA:=aX h (.tmp t);have hA':AR ⟨w,S,γ,β,s.ob,s.dead⟩ (.clo f' l) (a.eval (.tmp t)):=by rw[<-ht];exact hA
   simp only[AR,AC] at hA';obtain⟨na,caps,hcs,hcap⟩:=hA';have hv:=au na hcs;obtain⟨k1,k2⟩:=mO l caps hp hcap;refine⟨args.toList.map a.eval++caps,by simp[k1],λi x v hx hv'=>?_,?_⟩
   ·rcases zza i (args.toList.map s.opA).length with hi|hi
    ·rw[zxb hi] at hx;rw[zxb (by simpa using hi)] at hv'
     exact lP h _ i x v hx hv'
    ·grind
   ·have hm:args.map a.eval=(args.toList.map a.eval).toArray:=zpc j3
    simp[execOp,resolve,hv,Deferred.ofValue,invoke,callFunc,f1,f2',hb,hm]
 obtain⟨vs,k1,k2,k3⟩:=key;have hc:=hI an R w0 S γ β s a w avs vs _ r h k1 k2 hev2;unfold fd;rw[k3];refine hc.mono λe w' ⟨v,y,s',S',γ',β',e1,e2,e3,e4,e5,e6⟩=>⟨v,e1,s'.put o.dst y,S',γ',β',e2,e3.put e4 o.dst,⟨e5.sub,e5.cell,λt ht=>cr (hlk t ht),e5.objs,e5.sz,e5.gam,mJ.same bX e5.dfs.1⟩,?_⟩;have p:=acK s' o.dst y;exact⟨p.2.2.2.2.1.trans e6.lkS,p.2.2.2.2.2.1.trans e6.lkO,p.2.2.2.1.trans e6.nt⟩
def IU(f:EnvOk P E)(h:Rp w0 S γ β s a w){o:Oper}(d:∀ t∈s.lkS,o.dst≠some t){R:Type}{K:St->Option R}{r:R}{an:Ann}
  (b:TS E an s o (λv s'=>K (s'.put o.dst v))=some r) {next:Act->World->Prop} {Q:Exit->Act->World->Prop}
  (hk:∀ u s' S' γ' β' w',K s'=some r->Rp w0 S' γ' β' s' (a.put o.dst u) w'->Fm s S γ a w S' γ' (a.put o.dst u) w'->Sk s s'->next (a.put o.dst u) w'):o.wpIn (FW ro) nn P a w next Q:=by
 unfold TS at b;split at b<;>first|(cases b;done)|skip
 rename_i c e;split at b
 ·rename_i q hy;obtain⟨id,i,g⟩:=q;refine KK f h e hy b λy v s' S' γ' β' w' m0 m1 m2 m3 m4=>?_;have p:=acK s' o.dst y;exact hk v _ S' γ' β' w' m0 (m1.put m2 o.dst) ⟨m3.sub,m3.cell,λt ht=>cr (d t ht),m3.objs,m3.sz,m3.gam,mJ.same bX m3.dfs.1⟩ ⟨p.2.2.2.2.1.trans m4.lkS,p.2.2.2.2.2.1.trans m4.lkO,p.2.2.2.1.trans m4.nt⟩
 ·refine bE (Qd f h e d b) λu w' ⟨s',S',γ',β',m0,m1,m2,m3⟩=>?_;grind
def zx(V:EnvOk P E){Q:Exit->Act->World->Prop}(ad:(ops.toList.all λo=>match o.op with|.store ..=>o.dst.isNone|_=>true)=true):∀ (N:Nat) (R:Type) (l:List (Nat×Oper)) {S:Nat->Nat->Prop} {γ:Nat->Option Nat} {β:Nat->Option (Nat×Nat)} {s:St} {a:Act} {w:World} (k:St->Option R) (r:R) (an:Ann),
  Rp w0 S γ β s a w->Mw E s γ β (l.map Prod.snd)->(∀ (A B:List Oper) o o',l.map Prod.snd=A++o::B->o'∈B->∀ d,o'.dst=some d->o.dst≠some d)->(∀ p∈l,p.2∈ops.toList)->jE E N R ops an l s k=some r ->
  (∀ s' S' γ' β' a' w',Rp w0 S' γ' β' s' a' w'->Fm s S γ a w S' γ' a' w'->Sk s s'->k s'=some r->Q .normal a' w')->wpListIn (FW ro) nn P ops Q (l.map Prod.snd) a w:=by
 intro N
 induction N with
 | zero=>intro R l S γ β s a w k r an _ _ _ _ h;simp[jE] at h
 | succ N ih=>
  intro R l S γ β s a w k r an h hf X C b M;cases l with
  | nil=> simp only[jE] at b;exact M s S γ β a w h (Fm.refl _ _ _ _ _) (Sk.refl s) b
  | cons p l=>
   obtain⟨i,o⟩:=p;have al:Fr E s γ β o:=hf o j3
   have aB:∀ T x y,o.op=.store T x y->o.dst=none:=λT x y e=>by
    have:=zEa.1 ad o (C (i,o) j3)
    rw[e] at this;simpa using this
   have Y:∀ o'∈l.map Prod.snd,∀ d,o'.dst=some d->o.dst≠some d:=λo' f=>X [] (l.map Prod.snd) o o' rfl f;have D:∀ (A B:List Oper) x U,l.map Prod.snd=A++x::B->U∈B->∀ d,U.dst=some d->x.dst≠some d:=λA B x U e hx=>X (o::A) B x U (by simp[e]) hx
   have m:∀ p∈l,p.2∈ops.toList:=λp hp=>C p (by simp[hp])
   have run:¬ qm s o=true->IV E an l s o (λs'=>jE E N R ops (Cc E o an) l s' k)=some r->o.wpIn (FW ro) nn P a w (wpListIn (FW ro) nn P ops Q (l.map Prod.snd)) Q:=by
    intro q he;have n:∀ t∈s.lkS,o.dst≠some t:=λt ht e=>q (by simp[qm,e];exact ht)
    unfold IV at he;split at he
    ·split at he;rename_i aj;refine IU (K:=λs1=>jE E N R ops (Cc E o an) l s1 k) V h n he λu s' S' γ' β' w' m0 m1 m2 m3=>?_;have ai:Mw E s' γ' β' (l.map Prod.snd):=λo' f=>by
      obtain⟨p,hp,rfl⟩:=zNa.1 f;have:=zEa.1 aj p hp;exact Mx (by simpa using this)
     exact ih R l k r _ m1 ai D m m0 λs2 S2 I H a2 G n1 n2 z F=>M s2 S2 I H a2 G n1 (m2.trans n2 m3.lkS m3.lkO) (m3.trans z) F;split at he<;>first|(cases he;done)|skip
     rename_i ax;refine IU (K:=λs1=>jE E N R ops (Cc E o an) l (C5 s1) k) V h n he λu s' S' γ' β' w' m0 m1 m2 m3=>?_;exact ih R l k r _ m1.later (MN m1 ax λo' f=>hf o' (by simp only[zbb,zBa];exact .inr f)) D m m0 λs2 S2 I H a2 G n1 n2 z F=>M s2 S2 I H a2 G n1 (m2.trans n2 m3.lkS m3.lkO) (m3.trans ⟨z.lkS,z.lkO,z.nt⟩) F
    obtain⟨s',h1,h2⟩:=IT V h al (λT t _ ht=>V.flat T t ht) n aB he;obtain⟨f1,f2,f3,f4,f5,f6⟩:=h2;refine bE f6 λu w' ⟨S',γ',β',m1,m2,m3⟩=>?_;exact ih R l k r _ m1 (λo' f=>(hf o' (by simp only[zbb,zBa];exact .inr f)).keep (Y o' f) f3 f5 m3) D m h1 λs2 S2 I H a2 G n1 n2 z F=>M s2 S2 I H a2 G n1 (m2.trans n2 f1 f2) (Sk.trans ⟨f1,f2,f4⟩ z) F
   obtain⟨w1,G,w3⟩:=yV (ops:=ops) (o:=o) h;cases hg:o.guard with
   | some jw=>
    obtain⟨j,want⟩:=jw;simp only[jE,hg] at b;split at b<;>first|(cases b;done)|skip
    rename_i g aI;split at b<;>first|(cases b;done)|skip
    rename_i q;have n:∀ t∈s.lkS,o.dst≠some t:=λt ht e=>q (by simp[qm,e];exact ht)
    have p:=acK s o.dst .gone;have alt:(Region.wanted o (yielded ops a.tmps)=true/\(IV E an l s o λs'=>jE E N R ops (Cc E o an) l s' k)=some r)\/(Region.wanted o (yielded ops a.tmps)=false/\jE E N R ops (Cc E o an) l (s.put o.dst .gone) k=some r):=by
     by_cases hgo:s.tm g=.gone
     ·grind [iE]
     rw[gR hgo] at b;obtain⟨c,h1,h2⟩:=ab b;replace h2:=th (A:=λs=>IV E an l s o λs'=>jE E N R ops (Cc E o an) l s' k) (B:=λs=>jE E N R ops (Cc E o an) l (s.put o.dst .gone) k) h1 h2;all_goals grind
    rcases alt with⟨hw,h2⟩|⟨hw,h2⟩
    ·simp only[zbb,wpListIn,hw,if_true];exact run q h2
    ·simp only[zbb,wpListIn,hw,zFa,if_false];refine⟨λ_ _=>trivial,?_⟩;exact ih R l k r _ (h.put (v:=.gone) (val:=undef) (by simp[AR]) o.dst) (λo' f=>(hf o' (by simp only[zbb,zBa];exact .inr f)).keep (Y o' f) p.2.1 (λid _ _=>by rw[p.1]) λid _=>⟨rfl,rfl⟩) D m h2 λs2 S2 I H a2 G n1 n2 z F=>M s2 S2 I H a2 G n1 (Fm.trans (s1:=s.put o.dst .gone) ⟨λ_ _ W=>W,λ_ _ _=>rfl,λt ht=>cr (n t ht),λ_ _ _ W=>⟨W,ks.refl _ _⟩,zja _,λ_ _ W=>W,mJ.same bX (dB.refl _)⟩ n2 p.2.2.2.2.1 p.2.2.2.2.2.1) ((Sm.put s o.dst .gone).sk.trans z) F
   | none=>
    by_cases hgu:tG E s i o l=true
    ·obtain⟨L,jj,pk,J,s5,s3,e1,q1,q2,q3,q4,O,q6⟩:=Nl hg hgu b;subst e1;have el:((i,o)::(L++(jj,pk)::J)).map Prod.snd=(o::(L.map Prod.snd++[pk]))++J.map Prod.snd:=j3
     rw[el] at hf X ⊢;refine As V _ _ h hf X q4 λS2 I H a2 G n1 n2 z F=>?_;refine ih R J k r an (n1.wk O) (λo' f=>?_) (λA B x U e hx=>X ((o::(L.map Prod.snd++[pk]))++A) B x U (by rw[e];simp) hx) (λp hp=>C p (by simp[hp])) q6 λs2 S3 γ3 β3 a3 w3 m1 m2 m3 m4=>M s2 S3 γ3 β3 a3 w3 m1 (n2.trans m2 (O.lkS.trans z.lkS) (O.lkO.trans z.lkO)) ((z.trans (Sm.wk O)).sk.trans m3) m4
     have:=F o' f;intro hc d ak;obtain⟨r1,r2,r3,r4⟩:=this hc d ak;rw[O.base_eq,O.ob];exact⟨r1,r2,r3,r4⟩
    ·have Z:tG E s i o l=false:=by simpa using hgu
     simp only[jE,hg,Z,zFa,if_false] at b;split at b<;>first|(cases b;done)|skip
     rename_i q;simp only[zbb,wpListIn,w1 hg,if_true];exact run q b
end
end Sy
end
noncomputable section
namespace Sy
open Go
def ul{s:St}{d:Option Nat}{v:AV}{x:Operand}(h:∀ t,d=some t->x≠.tmp t):(s.put d v).opA x=s.opA x:=by
 cases x with
 | tmp t=>
  cases d with
  | none=>rfl
  | some d=>
   have a:t≠d:=λe=>h d rfl (by rw[e])
   all_goals grind [St.opA,St.put]
 | const v=>rfl
 | global g=>rfl
 | func f=>rfl
section
variable{E:Env}{s s':St}
theorem mq(a:s'.ob=s.ob)(ty:Nat->Option Ty):∀ (l:List (Nat×Operand)),(∀ p∈l,s'.opA p.2=s.opA p.2)->partsD s'.ob s' ty l=partsD s.ob s ty l
 | [],_=>rfl
 | (i,x)::l,h=>by
  have ih:=mq a ty l (λp hp=>h p (by simp[hp]))
  simp_all [partsD,ih]
theorem p9(a:List Ty):∀ (l:List (Nat×Operand)),(∀ p∈l,s'.opA p.2=s.opA p.2)->l.all (gA s' a)=l.all (gA s a)
 | [],_=>rfl
 | p::l,h=>by simp only[zZb,p9 a l (λq hq=>h q (by simp[hq])),gA,h p j3]
def Du:∀ (l:List (Nat×Operand)),(∀ p∈l,s'.opA p.2=s.opA p.2)->(l.map λp=>(p.1,s'.opA p.2))=l.map λp=>(p.1,s.opA p.2):=λl h=> zPc λp hp=>by rw[h p hp]
def vW{o:Oper}(a:s'.ob=s.ob)(hf:s'.fresh=s.fresh)(h:∀ x∈o.op.operands,s'.opA x=s.opA x):qv E s' o some=qv E s o some:=by
 have k:s'.base=s.base:=by simp only[St.base,hf]
 obtain⟨dst,op,ty,pos,after,guard⟩:=o;have parts:∀ ps:Array (Nat×Operand),(∀ x∈(ps.toList.map Prod.snd).toArray,s'.opA x=s.opA x)->∀ p∈ps.toList,s'.opA p.2=s.opA p.2:=λps hp p hm=>hp p.2 (by rw[List.mem_toArray];exact zfc hm)
 cases op
 case move x=>simp only[qv,h x (by simp[Op.operands])]
 case assign x=>simp only[qv,h x (by simp[Op.operands])]
 case pick c x y=>simp only[qv,h c (by simp[Op.operands]),h x (by simp[Op.operands]),h y (by simp[Op.operands])]
 case alloc T=>simp only[qv,k]
 case build T ps=> have hp:=parts ps h;simp only[qv,mq a _ _ hp,p9 _ _ hp,Du _ hp]
 case buildSlice T n ps=> have hp:=parts ps h;simp only[qv,mq a _ _ hp,k]
 case load T x=>simp only[qv,h x (by simp[Op.operands]),a]
 case lookup T x i c=>simp only[qv,h x (by simp[Op.operands]),h i (by simp[Op.operands]),a]
 case nilCheck x=>simp only[qv,h x (by simp[Op.operands])]
 case binOp op T x y T'=>simp only[qv,h x (by simp[Op.operands]),h y (by simp[Op.operands])]
 case unOp op T x=>simp only[qv,h x (by simp[Op.operands])]
 case convert U T x=>simp only[qv,h x (by simp[Op.operands])]
 case makeFunc fn x y=>
  have hy:∀ z∈y.toList,s'.opA z=s.opA z:=λz l=>h z (by simp only[Op.operands,Array.mem_append];exact .inr (by simpa using l))
  have u:(y.toList.all λz=>ge (s'.opA z))=y.toList.all λz=>ge (s.opA z):=by grind
  have e:y.toList.map s'.opA=y.toList.map s.opA:=zPc hy;simp only[qv,u,e]
 case slice T x lo hi mx=>
  have d:=h x (by simp[Op.operands])
  cases mx with
  | some m=>simp only[qv]
  | none=>
   cases lo with
   | none=>
    cases hi with
    | none=>simp only[qv,d,a]
    | some j=>simp only[qv,d,a,h j (by simp[Op.operands])]
   | some i=>
    cases hi with
    | none=>simp only[qv,d,a,h i (by simp[Op.operands])]
    | some j=>simp only[qv,d,a,h i (by simp[Op.operands]),h j (by simp[Op.operands])]
 case sliceToArrayPointer T x=>simp only[qv,h x (by simp[Op.operands]),a]
 case fieldAddr T x f=>simp only[qv,h x (by simp[Op.operands])]
 case field T x f=>simp only[qv,h x (by simp[Op.operands])]
 case indexAddr T x i=>simp only[qv,h x (by simp[Op.operands]),h i (by simp[Op.operands]),a]
 case index T x i=>simp only[qv,h x (by simp[Op.operands]),h i (by simp[Op.operands])]
 case extract x i=>simp only[qv,h x (by simp[Op.operands])]
 case call c=>
  obtain⟨callee,args,argTypes⟩:=c;have q:∀ z∈args.toList,s'.opA z=s.opA z:=λz l=>h z (by simp only[Op.operands,Call.operands,Array.mem_append];exact .inr (by simpa using l))
  have e:args.toList.map s'.opA=args.toList.map s.opA:=zPc q;cases callee with
  | invoke r m=>rfl
  | value f=>
   cases f with
   | tmp t=>
    have w:s'.tm t=s.tm t:=h (.tmp t) (by simp[Op.operands,Call.operands])
    simp only[qv,e,w,a]
   | func f=>simp only[qv,e,a,k]
   | const v=>rfl
   | global g=>rfl
  | builtin b=>
   cases b<;>first|rfl|skip
   case len=>
    simp only[qv];cases hT:argTypes[0]? with
    | none=>rfl
    | some T=>
     cases hx:args[0]? with
     | none=>rfl
     | some x=> have:=q x (zbd.2 (z8c hx));simp only[zba,a];all_goals grind
   case min=> simp only[qv];all_goals grind
   case max=> simp only[qv];all_goals grind
 all_goals rfl
def Aj{s:St}{d:Option Nat}{v:AV}{t:Nat}(h:d≠some t):(s.put d v).tm t=s.tm t:=by
 have:=ul (s:=s) (d:=d) (v:=v) (x:=.tmp t) (λu hu e=>h (by cases e;exact hu))
 exact this
def FM{ops:Array Oper}{o:Oper}{d:Option Nat}{v:AV}(h:∀ t,d=some t->t ∉ o.looksAt ops):val E ops (s.put d v) o=val E ops s o:=by
 obtain⟨c,f,l,m,i,n,q⟩:=acK s d v;have a:qm (s.put d v) o=qm s o:=by simp only[qm,i]
 have b:qv E (s.put d v) o some=qv E s o some:=vW c f λx hx=>ul λt ht e=>h t ht (by subst e;exact List.mem_append_left _ (zVc.2 ⟨.tmp t,by simpa using hx,rfl⟩))
 unfold val;rw[a,b];cases hg:o.guard with
 | none=>rfl
 | some p=>
  obtain⟨j,want⟩:=p;simp only;cases hgd:(ops[j]?).bind (·.dst) with
  | none=>rfl
  | some g=>
   have k:(s.put d v).tm g=s.tm g:=Aj λe=>h g e (by unfold Oper.looksAt;rw[hg];exact zLa _ (by simp[hgd]))
   simp_all
def Cm{s:St}{x y:Option Nat}(v u:AV)(h:∀ d,x=some d->y≠some d):(s.put x v).put y u=(s.put y u).put x v:=by
 cases x with
 | none=>rfl
 | some d=>
  cases y with
  | none=>rfl
  | some e=>
   have a:d≠e:=λhe=>h d rfl (he ▸ rfl);by_cases h1:d<s.nt
   ·by_cases h2:e<s.nt
    ·simp only[St.put,h1,h2,if_true];all_goals grind
    ·grind [St.put]
   ·grind [St.put]
end
variable{ro:Option Nat}{nn:Nat}
section
variable{E:Env}{ops:Array Oper}{md:Region.Mode}
def CF(E:Env)(ops:Array Oper)(i:Nat)(K:St->Prop)(s:St):Prop:=
 match ops[i]? with
 | none=>K s
 | some o=>∃ v,val E ops s o=some v/\K (s.put o.dst v)
def I2(E:Env)(md:Region.Mode)(ops:Array Oper)(n:Nat)(L:Array Bool->St->Prop):Nat->Array Bool->St->Prop
 | 0,listed,s=>L listed s
 | f+1,listed,s=>Region.ready md ops listed≠[]/\∀ i∈Region.ready md ops listed,i<n/\CF E ops i (I2 E md ops n L f (listed.setIfInBounds i true)) s
def xm(md:Region.Mode)(ops:Array Oper)(n:Nat):Prop:=∀ listed i,HeadInv md ops n listed->i<n->listed.getD i true=false->∀ t,n<=t->t ∉ Region.ready md ops listed
def Dn{n i:Nat}{w:Oper}{v:AV}{L:Array Bool->St->Prop}(I:ops[i]?=some w)(A:xm md ops n)(p:i<n)
  (l:∀ listed s,L listed s->∀ j∈Region.ready md ops listed,n<=j) :
  ∀ (f:Nat) (listed:Array Bool) (s:St),HeadInv md ops n listed ->
   (∀ j o,j<n->ops[j]?=some o->j≠i->listed.getD j true=false->(∀ e∈o.after,Region.binds md e=true->e.on≠i)->w.apart ops o=true) ->
   i∈Region.ready md ops listed->val E ops s w=some v ->
   I2 E md ops n L f (listed.setIfInBounds i true) (s.put w.dst v)->I2 E md ops n L (f+1) listed s:=by
 intro f
 induction f with
 | zero=>
  intro listed s inv _ g hy H;have c:=(mem_ready.1 g).1;refine⟨λh=>(by rw[h] at g;cases g),λj m=>?_⟩
  have b:j<n:=by
   rcases zza j n with h|h
   ·exact h
   ·exact z3a m (A _ _ inv p c j h)
  refine⟨b,?_⟩;by_cases hji:j=i
  ·simp_all [CF]
  ·have:=l _ _ H j (ready_mono m hji);omega
 | succ f ih=>
  intro listed s inv a g hy H;have c:=(mem_ready.1 g).1;refine⟨λh=>(by rw[h] at g;cases g),λj m=>?_⟩
  have b:j<n:=by
   rcases zza j n with h|h
   ·exact h
   ·exact z3a m (A _ _ inv p c j h)
  refine⟨b,?_⟩;by_cases hji:j=i
  ·simp_all [CF]
  ·have h1:=(H.2 j (ready_mono m hji)).2;obtain⟨q,o,t,B⟩:=mem_ready.1 m;have r:∀ e∈o.after,Region.binds md e=true->e.on≠i:=λe he G heq=>by
    grind
   obtain⟨a1,a2,a3⟩:=Oper.apart_spec (a j o b t hji q r);unfold CF at h1 ⊢;rw[t] at h1 ⊢;obtain⟨u,C,F⟩:=h1;rw[FM a1] at C;refine⟨u,C,ih (listed.setIfInBounds j true) (s.put o.dst u) (inv.set m b) (λk ok y hk x c z=>?_) (ready_mono g (Ne.symm hji)) ?_ ?_⟩
   ·refine a k ok y hk x ?_ z;by_cases hjk:j=k
    ·simp_all
    ·simp_all
   ·rw[FM a3];exact hy
   ·rw[Array.setIfInBounds_comm _ _ hji,Cm u v (λd D he=>a2 d he D)];exact F
theorem BE{n g:Nat}{Lq:St->Prop}(f:xm md ops n) :
  ∀ (l:List Oper) (k:Nat) (listed:Array Bool) (s s':St),(∀ j,j<l.length->l[j]?=ops[k+j]?)->k+l.length=n->HeadInv md ops n listed ->
  Region.lexHead md ops g l.length k listed=true->seqV E ops l s=some s'->Lq s' ->
  I2 E md ops n (λa s'=>Region.seqB md ops g n a=true/\Lq s') l.length listed s
 | [],k,listed,s,s',_,hk,_,d,h,hL=>by
  have:k=n:=by simpa using hk
  subst this;simp only[seqV,zda] at h;subst h;exact⟨by simpa [Region.lexHead] using d,hL⟩
 | o::l,k,listed,s,s',hl,hk,inv,d,h,hL=>by
  have h0:ops[k]?=some o:=by simpa using(hl 0 j3).symm
  simp only[zRa,Region.lexHead,zaa] at d;obtain⟨⟨i,hf⟩,e⟩:=d;have b:k<n:=h7
  have c:k∈Region.ready md ops listed:=by simpa using i
  simp only[seqV] at h;obtain⟨v,h1,h2⟩:=ab h;exact Dn h0 f b (λa s' hL=>seqB_ready hL.1) l.length listed s inv (λj m _=>Region.free_spec h0 hf j m) c h1
   (BE f l (k+1) _ _ s' (λj p=>by have:=hl (j+1) (by simp;omega);simpa [zXb,zTc 1 j] using this) (by simp only[zRa] at hk;omega) (inv.set c b) e h2 hL)
end
section
variable{P:Program}{E:Env}{w0:Root}{ops:Array Oper}
theorem kK(t:EnvOk P E){md:Region.Mode}{n g:Nat}{L:Array Bool->St->Prop}{Q:Exit->Act->World->Prop}{s0:St}{S0:Nat->Nat->Prop}{γ0:Nat->Option Nat}{a0:Act}{w1:World}
  (x:∀ (i j:Nat) (D b:Oper),i≠j->ops[i]?=some D->ops[j]?=some b->∀ d,b.dst=some d->D.dst≠some d)
  (hL:∀ listed s S γ β a w,Rp w0 S γ β s a w->Fm s0 S0 γ0 a0 w1 S γ a w->Sm s0 s->(∀ j b,ops[j]?=some b->listed.getD j true=false->Fr E s γ β b)->L listed s->wpAnyIn (FW ro) nn P md ops Q g listed a w) :
  ∀ (f:Nat) (listed:Array Bool) (s:St) (S:Nat->Nat->Prop) (γ:Nat->Option Nat) (β:Nat->Option (Nat×Nat)) (a:Act) (w:World),Rp w0 S γ β s a w->Fm s0 S0 γ0 a0 w1 S γ a w->Sm s0 s ->
   (∀ j b,ops[j]?=some b->listed.getD j true=false->Fr E s γ β b)->I2 E md ops n L f listed s->wpAnyIn (FW ro) nn P md ops Q (f+g) listed a w
 | 0,listed,s,S,γ,β,a,w,h,hF,k,c,r=>by rw[zeb];exact hL _ _ _ _ _ _ _ h hF k c r
 | f+1,listed,s,S,γ,β,a,w,h,hF,k,c,r=>by
  rw[show f+1+g=(f+g)+1 by omega]
  refine⟨λh0=>z3a h0 r.1,λi z=>?_⟩;obtain⟨_,e⟩:=r.2 i z;have B:=(mem_ready.1 z).1;unfold CF at e;unfold wpOpIn;cases ho:ops[i]? with
  | none=> obtain⟨_,o,q,_⟩:=mem_ready.1 z;rw[ho] at q;cases q
  | some o=>
   rw[ho] at e;simp only at e ⊢;obtain⟨v,h1,h2⟩:=e;obtain⟨F,G⟩:=Ee t h (c i o ho B) h1;have p:=acK s o.dst v;have l:∀ {γ':Nat->Option Nat} {β':Nat->Option (Nat×Nat)},(∀ id,o.dst≠some (id-s.base)\/id<s.base->γ' id=γ id/\β' id=β id)->∀ j b,ops[j]?=some b->(listed.setIfInBounds i true).getD j true=false->Fr E (s.put o.dst v) γ' β' b:=λhk j b C hu=>by
    by_cases hij:i=j
    ·subst hij;exfalso;rcases zza i listed.size with A|m
     ·simp[Array.getD,A] at hu
     ·simp[Array.getD,m,zDc.2 m] at hu
    ·rw[getD_set_ne true hij] at hu;exact(c j b C hu).keep (λd y=>x i j o b hij ho C d y) p.2.1 (λid _ _=>by rw[p.1]) hk
   split
   ·rename_i hw;refine(bE (F hw) λu w' ⟨S',γ',β',m1,m2,m3⟩=>?_);exact kK t x hL f _ _ S' γ' β' _ _ m1 (hF.trans m2 k.lkS k.lkO) (k.trans (Sm.put s o.dst v)) (l m3) h2
   ·rename_i hw;obtain⟨m1,m2⟩:=G (by simpa using hw)
    refine⟨λ_ _=>trivial,?_⟩;exact kK t x hL f _ _ S γ β _ _ m1 (hF.trans m2 k.lkS k.lkO) (k.trans (Sm.put s o.dst v)) (l λid _=>⟨rfl,rfl⟩) h2
theorem vM:∀ {l:List Nat},dG l=true->∀ A B x y,l=A++x::B->y∈B->y≠x
 | [],_,A,B,x,y,e,_=>by simp at e
 | a::l,h,A,B,x,y,e,hy=>by
  simp only[dG,zaa,zTa] at h;cases A with
  | nil=> grind
  | cons a' A=> simp only[zBb,List.cons.injEq] at e;exact vM h.2 A B x y e.2 hy
def fX{l:List Oper}(h:dG (l.filterMap (·.dst))=true)(A B:List Oper)(o o':Oper)(e:l=A++o::B)(c:o'∈B)(d:Nat)(b:o'.dst=some d):o.dst≠some d:=by
 intro f;subst e;have a:(A++o::B).filterMap (·.dst)=A.filterMap (·.dst)++d::B.filterMap (·.dst):=by simp_all
 exact vM h _ _ d d a (zVc.2 ⟨o',c,b⟩) rfl
def s8{l:List Oper}(h:dG (l.filterMap (·.dst))=true){i j:Nat}{a b:Oper}(n:i≠j)(g:l[i]?=some a)(o:l[j]?=some b)(d:Nat)(e:b.dst=some d):a.dst≠some d:=by
 obtain⟨k,m⟩:=zqa.1 g;obtain⟨p,q⟩:=zqa.1 o;rcases zza i j with r|f
 ·refine fX h (l.take i) (l.drop (i+1)) a b ?_ ?_ d e
  ·grind [List.drop_eq_getElem_cons,List.take_append_drop]
  ·refine zdb (i:=j-(i+1)) ?_;grind
 ·intro c;refine fX h (l.take j) (l.drop (j+1)) b a ?_ ?_ d c e
  ·grind [List.drop_eq_getElem_cons,List.take_append_drop]
  ·refine zdb (i:=i-(j+1)) ?_;grind
theorem bH:∀ (l:List Oper) (i:Nat),(bR i l).map Prod.snd=l
 | [],_=>rfl
 | o::l,i=>by simp only[bR,zbb,bH l (i+1)]
def mo{l:List Oper}{i:Nat}{p:Nat×Oper}(h:p∈bR i l):p.2∈l:=by
 have:p.2∈(bR i l).map Prod.snd:=zfc h
 rwa [bH] at this
theorem kG:∀ (l:List Oper) (i:Nat),(bR i l).length=l.length
 | [],_=>rfl
 | o::l,i=>by simp only[bR,zRa,kG l (i+1)]
def G0(U:EnvOk P E){id:Nat}{dr:Bool}{n:Nat}{Q:Exit->Act->World->Prop}{S:Nat->Nat->Prop}{γ:Nat->Option Nat}{β:Nat->Option (Nat×Nat)}{s:St}{a:Act}{w:World}{R:Type}{k:St->Option R}{r:R}{N:Nat}
  (h:Rp w0 S γ β s a w) (hf:Mw E s γ β ops.toList) (hm:eB ops.toList=true) (m:(!dr||rO E ops n)=true) {an:Ann} (J:jE E N R ops an (bR 0 ops.toList) s k=some r)
  (hQ:∀ s' S' γ' β' a' w',Rp w0 S' γ' β' s' a' w'->Fm s S γ a w S' γ' a' w'->Sk s s'->k s'=some r->Q .normal a' w'):(Code.region id ops dr).wpIn (FW ro) nn P Q a w:=by
 simp only[eB,zaa] at hm;obtain⟨⟨z,ax⟩,ad⟩:=hm;have f:(ops.toList.all λo=>match o.op with|.store ..=>o.dst.isNone|_=>true)=true:=ad
 cases dr with
 | false=>
  refine wpIn_region_list ?_;have:=zx (ro:=ro) (nn:=nn) (ops:=ops) U f N R (bR 0 ops.toList) k r an h (by rw[bH];exact hf) (by rw[bH];exact λA B o o' e C d v=>fX z A B o o' e C d v) (λp hp=>mo hp) J hQ
  rwa [bH] at this
 | true=>
  simp only[zlc,Bool.false_or,rO,zaa] at m;obtain⟨⟨⟨⟨⟨d0,d1⟩,d2⟩,d3⟩,d4⟩,d5⟩:=m;have hn:n<=ops.size:=by
   simp only[zac,zfa,zaa] at d3;rcases d3 with d3|d3
   ·omega
   ·omega
  have hW:xm .any ops n:=by
   intro listed i inv Z aj t ht hr;simp only[zac,zfa,zaa] at d3;rcases d3 with d3|⟨⟨d3,d6⟩,d7⟩
   ·obtain⟨_,o,C,_⟩:=mem_ready.1 hr;have:=(zAa.1 C).1;omega
   ·exact tail_waits d6 d7 d3 inv _ i rfl Z aj t ht hr
  obtain⟨s',ak,N',q1,G,q3⟩:=Bv N R (bR 0 ops.toList) s k r n an (by rw[kG,zTb];exact hn) (λp hp=>by
    have q:p.2∈ops.toList.take n:=by
     have:p.2∈((bR 0 ops.toList).take n).map Prod.snd:=zfc hp
     rwa [List.map_take,bH] at this
    exact⟨zEa.1 d4 _ q,by simpa using zEa.1 d0 _ q⟩) (.inl λp hp c x y e=>by
    have q:p.2∈ops.toList.drop n:=by
     have:p.2∈((bR 0 ops.toList).drop n).map Prod.snd:=zfc hp
     rwa [zFc,bH] at this
    have:=zEa.1 d5 _ q;simp only[zaa] at this;have h2:=this.2;rw[e] at h2;cases h2) J
  rw[List.map_take,bH] at q1;refine wpIn_region_any U.mixed ?_;have W:∃ os d,w.drawn<=d/\({ w with drawn:=w.drawn+1 }:World)=grown w os d:=⟨[],w.drawn+1,z1c _,by simp[grown]⟩
  obtain⟨os,d,m,W⟩:=W;obtain⟨g1,g2⟩:=h.grow (os:=os) (d:=d) m (S':=S) (λ_ _ l=>l) (λ_ _ l=>.inl l);rw[W];have hlen:(ops.toList.take n).length=n:=by simp;omega
  have T:HeadInv .any ops n (Array.replicate ops.size false):=
   ⟨j3,λj D _ hl=>(by rw[getD_replicate_false] at hl;cases hl),λt _ ht=>getD_in (by simpa using ht) (getD_replicate_false _ _)⟩
  have H:=BE (E:=E) (md:=.any) (g:=ops.size-n) (Lq:=λs=>s=s') hW (ops.toList.take n) 0 (Array.replicate ops.size false) s s' (λj u=>by rw[hlen] at u;rw[z6b u,zeb,zkb]) (by rw[hlen,zeb]) T (by rw[hlen];exact d2) q1 rfl
  have I:(ops.toList.drop n).length=ops.size-n:=j3
  have:=kK (ro:=ro) (nn:=nn) (Q:=Q) (g:=ops.size-n) U (s0:=s) (S0:=S) (γ0:=γ) (a0:=a) (w1:=grown w os d) (λi j oi D Y X u d v=>s8 z Y (by rw[zkb];exact X) (by rw[zkb];exact u) d v)
   (λlisted s2 S2 γ2 β2 a2 w2 m1 m2 m3 m4 m5=>by
    obtain⟨m5,m6⟩:=m5;subst m6;have M:=jU (F:=FW ro) (n:=nn) (P:=P) (md:=.any) (ops:=ops) (Q':=Q) (ops.toList.drop n) n listed a2 w2 (λj=>by rw[z9b,zkb]) (by rw[I];exact m5) ?_
    ·rwa [I] at M
    have O:∀ j D,ops[j]?=some D->n<=j->listed.getD j true=false:=by
     intro j D u ai;have key:∀ (g k:Nat) (listed:Array Bool),Region.seqB .any ops g k listed=true->∀ j,k<=j->j<k+g->listed.getD j true=false:=by
      intro g
      induction g with
      | zero=>intro k listed _ j h1 h2;omega
      | succ g ih=>
       intro k listed V j h1 h2;simp only[Region.seqB,zaa,zfa] at V;by_cases L:j=k
       ·subst L;have:j∈Region.ready .any ops listed:=by rw[V.1];simp
        exact(mem_ready.1 this).1
       ·have:=ih (k+1) _ V.2 j j1 j1
        rwa [getD_set_ne true (Ne.symm L)] at this
     have al:=(zAa.1 u).1;exact key _ _ _ m5 j ai j1
    have hsub:∀ o∈ops.toList.drop n,Fr E ak γ2 β2 o:=λo C=>by
     obtain⟨i,X,he⟩:=zZa C;have K:ops[n+i]?=some o:=by
      have:(ops.toList.drop n)[i]?=some o:=by rw[zca X,he]
      rwa [z9b,zkb] at this
     have:=m4 (n+i) o K (O _ _ K j1)
     intro hc d v;obtain⟨r1,r2,r3,r4⟩:=this hc d v;rw[G.base_eq,G.ob];exact⟨r1,r2,r3,r4⟩
    have fin:=zx (ro:=ro) (nn:=nn) (ops:=ops) U (Q:=Q) f N' R ((bR 0 ops.toList).drop n) k r an (m1.wk G) (by rw[zFc,bH];exact hsub)
     (by rw[zFc,bH];intro A B o o' e C d v;exact fX z (ops.toList.take n++A) B o o' (by rw[zPa,<-e,zva]) C d v)
     (λp hp=>mo (zcc hp)) q3 (λs3 S3 γ3 β3 a3 w3 n1 n2 n3 n4=>by
      refine hQ s3 S3 γ3 β3 a3 w3 n1 ?_ ((m3.trans (Sm.wk G)).sk.trans n3) n4;have f0:Fm s S γ a w S γ a (grown w os d):=⟨λ_ _ l=>l,g2.cell,λ_ _=>rfl,λid hid b l=>⟨l,.inl (dF (h.γn id b l).2)⟩,j3,λ_ _ l=>l,mJ.same rfl dB.grown⟩
      exact(f0.trans m2 rfl rfl).trans n2 (G.lkS.trans m3.lkS) (G.lkO.trans m3.lkO))
    rwa [zFc,bH] at fin)
   (ops.toList.take n).length (Array.replicate ops.size false) s S γ β a (grown w os d) g1 (Fm.refl _ _ _ _ _) (Sm.refl s) (λj D u _=>hf D (zbd.2 (z8c u))) H
  rw[hlen,show n+(ops.size-n)=ops.size by omega] at this
  exact this
end
end Sy
end
noncomputable section
namespace Sy
open Go
mutual
theorem ut:∀ (a a':AV),AV.same a a'=true->a=a'
 | .ptr t id p,a',h=>by
  cases a'<;>simp only[AV.same,zaa,zfa] at h<;>first|(cases h;done)|skip
  grind [acQ]
 | .mem t id,a',h=>by
  cases a'<;>simp only[AV.same,zaa,zfa] at h<;>first|(cases h;done)|skip
  grind [acQ]
 | .clo f l,a',h=>by
  cases a'<;>simp only[AV.same,zaa,zfa] at h<;>first|(cases h;done)|skip
  obtain⟨rfl,h1⟩:=h;rw[Cy _ _ h1]
 | .map kt vt id,a',h=>by
  cases a'<;>simp only[AV.same,zaa,zfa] at h<;>first|(cases h;done)|skip
  grind [acQ]
 | .yld id,a',h=>by
  cases a'<;>simp only[AV.same,zfa] at h<;>first|(cases h;done)|skip
  subst h;rfl
 | .d ..,a',h=>by simp[AV.same] at h
 | .own ..,a',h=>by simp[AV.same] at h
 | .nils,a',h=>by simp[AV.same] at h
 | .fptr ..,a',h=>by simp[AV.same] at h
 | .st ..,a',h=>by simp[AV.same] at h
 | .undef,a',h=>by simp[AV.same] at h
theorem Cy:∀ (l l':List AV),ab1 l l'=true->l=l'
 | [],l',h=>by grind [ab1]
 | a::l,l',h=>by
  cases l' with
  | nil=>simp[ab1] at h
  | cons a' l'=> simp only[ab1,zaa] at h;rw[ut _ _ h.1,Cy _ _ h.2]
end
structure Two(n:Nat)(c c':Cx):Prop where
 w:c'.w=c.w
 S:c'.S=c.S
 γ:∀ id,id<n->c'.γ id=c.γ id
 ob:∀ id,id<n->∀ o',c'.ob id=some o'->∃ o,c.ob id=some o/\(∀ p,fo o' p=fo o p/\cG o' p=cG o p)/\(∀ t l,o=.many t l->∃ l',o'=.many t l'/\l'.length=l.length)/\∀ kt vt l,o=.mp kt vt l->∃ l',o'=.mp kt vt l'
mutual
theorem JJ{n:Nat}{c c':Cx}(h:Two n c c'):∀ (a:AV) (cs:List Value),AV.old n a=true->AC c a cs->AC c' a cs
 | .ptr t id p,cs,ho,k=>by
  simp only[AV.old,zfa] at ho;simp only[AC] at k ⊢;obtain⟨b,off,rfl,k1,k2⟩:=k;refine⟨b,off,rfl,by rw[h.γ id ho];exact k1,λo' ho'=>?_⟩
  obtain⟨o,h1,h2,_⟩:=h.ob id ho o' ho'
  simp_all
 | .mem t id,cs,ho,k=>by
  simp only[AV.old,zfa] at ho;simp only[AC] at k ⊢;obtain⟨k0,b,k1,k2⟩:=k;refine⟨k0,b,by rw[h.γ id ho];exact k1,λo' ho'=>?_⟩
  obtain⟨o,h1,_,h3,_⟩:=h.ob id ho o' ho';grind
 | .map kt vt id,cs,ho,k=>by
  simp only[AV.old,zfa] at ho;simp only[AC] at k ⊢;obtain⟨b,e,k1,k2,k3,k4⟩:=k;refine⟨b,e,by rw[h.γ id ho];exact k1,k2,k3,λo' ho'=>?_⟩
  obtain⟨o,h1,_,_,h3⟩:=h.ob id ho o' ho';grind
 | .yld id,cs,ho,k=>by simp only[AV.old,zfa] at ho;simp only[AC] at k ⊢;obtain⟨L,rfl,k1⟩:=k;exact⟨L,rfl,by rw[h.γ id ho];exact k1⟩
 | .clo f l,cs,ho,k=>by simp only[AV.old] at ho;simp only[AC] at k ⊢;obtain⟨caps,rfl,k1⟩:=k;exact⟨caps,rfl,Fi h l caps ho k1⟩
 | .d ..,_,ho,_=>by simp[AV.old] at ho
 | .own ..,_,ho,_=>by simp[AV.old] at ho
 | .nils,_,ho,_=>by simp[AV.old] at ho
 | .fptr ..,_,ho,_=>by simp[AV.old] at ho
 | .st ..,_,ho,_=>by simp[AV.old] at ho
 | .undef,_,ho,_=>by simp[AV.old] at ho
theorem Fi{n:Nat}{c c':Cx}(h:Two n c c'):∀ (l:List AV) (cs:List Value),ab0 n l=true->oH c l cs->oH c' l cs
 | [],cs,_,k=>by simpa only[oH] using k
 | a::l,cs,ho,k=>by simp only[ab0,zaa] at ho;simp only[oH] at k ⊢;obtain⟨v,c2,rfl,k1,k2⟩:=k;exact⟨v,c2,rfl,JJ h a _ ho.1 k1,Fi h l c2 ho.2 k2⟩
end
mutual
def acx:Sh->AV->Nat->List (Nat×Nat)
 | .ow _,.own _ v _,j=>[(j,v)]
 | .st _ l,.st _ l',j=>acy l l' j
 | _,_,_=>[]
def acy:List Sh->List AV->Nat->List (Nat×Nat)
 | h::l,a::l',j=>acx h a j++acy l l' (j+h.cnt)
 | _,_,_=>[]
end
mutual
theorem AG:∀ (h:Sh) (a:AV) (j:Nat),(acx h a j).map Prod.snd=acz h a
 | .ow _,a,j=>by cases a<;>rfl
 | .st _ l,a,j=>by cases a<;>first|rfl|exact CO l _ j
 | .dv _,a,j=>by cases a<;>rfl
 | .same _,a,j=>by cases a<;>rfl
theorem CO:∀ (l:List Sh) (l':List AV) (j:Nat),(acy l l' j).map Prod.snd=acA l l'
 | [],l',j=>by cases l'<;>rfl
 | h::l,[],j=>rfl
 | h::l,a::l',j=>by simp only[acy,acA,zLb,AG h a j,CO l l' _]
end
def Pl(l:List (Nat×Nat))(i j:Nat):Prop:=(∀ p∈l,i<=p.1/\p.1<j)/\∀ p∈l,∀ q∈l,p.1=q.1->p=q
def Pl.nil(i j:Nat):Pl [] i j:=⟨λp h=>(by cases h),λp h=>(by cases h)⟩
def Pl.append{l l':List (Nat×Nat)}{i j k:Nat}(h:Pl l i j)(a:Pl l' j k)(h1:i<=j)(h2:j<=k):Pl (l++l') i k:=by
 refine⟨λp hp=>?_,λp hp q hq e=>?_⟩
 ·rcases List.mem_append.1 hp with hp|hp
  ·have:=h.1 p hp;omega
  ·have:=a.1 p hp;omega
 ·rcases List.mem_append.1 hp with hp|hp<;>rcases List.mem_append.1 hq with hq|hq
  ·exact h.2 p hp q hq e
  ·have:=h.1 p hp;have:=a.1 q hq;omega
  ·have:=a.1 p hp;have:=h.1 q hq;omega
  ·exact a.2 p hp q hq e
mutual
theorem D9:∀ (h:Sh) (a:AV) (j:Nat),Pl (acx h a j) j (j+h.cnt)
 | .ow _,a,j=>by
  cases a<;>first
   | exact Pl.nil _ _
   | exact⟨λp hp=>by simp[acx] at hp;subst hp;simp[Sh.cnt],λp hp q hq _=>by simp[acx] at hp hq;rw[hp,hq]⟩
 | .st _ l,a,j=>by
  cases a<;>first
   | exact Pl.nil _ _
   | (simp only[acx,Sh.cnt];exact FH l _ j)
 | .dv _,a,j=>by cases a<;>exact Pl.nil _ _
 | .same _,a,j=>by cases a<;>exact Pl.nil _ _
theorem FH:∀ (l:List Sh) (l':List AV) (j:Nat),Pl (acy l l' j) j (j+acs l)
 | [],l',j=>by cases l'<;>exact Pl.nil _ _
 | h::l,[],j=>Pl.nil _ _
 | h::l,a::l',j=>by
  simp only[acy,acs];rw[show j+(h.cnt+acs l)=j+h.cnt+acs l by omega]
  exact(D9 h a j).append (FH l l' _) j1 j1
end
mutual
theorem nN{ob:Nat->Option Ob}{dead:List Nat}:∀ (h:Sh) (a:AV) (x:List D),Sh.dec ob dead h a=some x->x.length=h.cnt
 | .dv t,a,x,e=>by
  have e':((ab2 ob t a).bind λx=>some [x])=some x:=by cases a<;>exact e
  obtain⟨y,_,h2⟩:=ab e';simp only[zda] at h2;subst h2;rfl
 | .ow t,a,x,e=>by
  cases a<;>simp only[Sh.dec] at e<;>first|(cases e;done)|skip
  ·split at e<;>first|(cases e;done)|skip
   simp only[zda] at e;subst e;rfl
  ·simp only[zda] at e;subst e;rfl
 | .same b,a,x,e=>by
  have e':(if AV.same b a then some ([]:List D) else none)=some x:=by cases a<;>exact e
  split at e'<;>first|(cases e';done)|skip
  simp only[zda] at e';subst e';rfl
 | .st ts l,a,x,e=>by
  cases a<;>simp only[Sh.dec] at e<;>first|(cases e;done)|skip
  split at e<;>first|(cases e;done)|skip
  exact Bm l _ x e
theorem Bm{ob:Nat->Option Ob}{dead:List Nat}:∀ (l:List Sh) (l':List AV) (x:List D),acu ob dead l l'=some x->x.length=acs l
 | [],l',x,e=>by
  cases l'<;>simp only[acu] at e<;>first|(cases e;done)|skip
  simp only[zda] at e;subst e;rfl
 | h::l,[],x,e=>by simp[acu] at e
 | h::l,a::l',x,e=>by simp only[acu] at e;obtain⟨y,h1,e⟩:=ab e;obtain⟨z,h2,e⟩:=ab e;simp only[zda] at e;subst e;simp only[zua,nN h a y h1,Bm l l' z h2,acs]
end
mutual
theorem rK{ob:Nat->Option Ob}{dead:List Nat}:∀ (h:Sh) (a:AV) (x:List D),Sh.dec ob dead h a=some x->∀ v∈acz h a,v ∉ dead
 | .dv t,a,x,e=>by simp_all [acz]
 | .ow t,a,x,e=>by
  intro v hv;cases a<;>simp only[acz,zdc,zKa] at hv;subst hv;simp only[Sh.dec] at e
  simp_all
 | .same b,a,x,e=>by simp_all [acz]
 | .st ts l,a,x,e=>by
  intro v hv;cases a<;>simp only[acz,zdc] at hv;simp only[Sh.dec] at e;split at e<;>first|(cases e;done)|skip
  exact uT l _ x e v hv
theorem uT{ob:Nat->Option Ob}{dead:List Nat}:∀ (l:List Sh) (l':List AV) (x:List D),acu ob dead l l'=some x->∀ v∈acA l l',v ∉ dead
 | [],l',x,e=>by simp_all [acA]
 | h::l,[],x,e=>by simp[acu] at e
 | h::l,a::l',x,e=>by
  intro v hv;simp only[acu] at e;obtain⟨y,h1,e⟩:=ab e;obtain⟨z,h2,e⟩:=ab e;simp only[acA] at hv;rcases List.mem_append.1 hv with hv|hv
  ·exact rK h a y h1 v hv
  ·exact uT l l' z h2 v hv
end
mutual
theorem su(b:Nat):∀ (h:Sh) (j:Nat) (s:List D),(Sh.mk b h j s).2=j+h.cnt
 | .dv t,j,s=>rfl
 | .ow t,j,s=>rfl
 | .same a,j,s=>rfl
 | .st ts l,j,s=>by simp only[Sh.mk,Sh.cnt];exact Fc b l j s
theorem Fc(b:Nat):∀ (l:List Sh) (j:Nat) (s:List D),(acw b l j s).2=j+acs l
 | [],j,s=>rfl
 | h::l,j,s=>by simp only[acw,acs,su b h j s,Fc b l,zXb]
end
mutual
theorem Fb(b:Nat):∀ (h:Sh) (t:Ty) (j:Nat) (s:List D),Sh.fits t h=true->AV.fits t (Sh.mk b h j s).1=true
 | .dv t',t,j,s,h=>by
  have h':t.beq t'=true:=by cases t<;>exact h
  rw[acQ _ _ h'];exact bY _ _
 | .ow e,t,j,s,h=>by
  have h':t.beq (.sl e)=true:=by cases t<;>exact h
  rw[acQ _ _ h'];simp only[Sh.mk,AV.fits];exact acP _
 | .same a,t,j,s,h=>by cases t<;>simp[Sh.fits] at h
 | .st ts l,t,j,s,h=>by
  have h':(t.beq (.st ts)&&Sh.fitss ts l)=true:=by cases t<;>exact h
  simp only[zaa] at h';rw[acQ _ _ h'.1];simp only[Sh.mk,AV.fits,zaa];have:=acP (.st ts);simp only[Ty.beq] at this;exact⟨this,vG b l ts j s h'.2⟩
theorem vG(b:Nat):∀ (l:List Sh) (ts:List Ty) (j:Nat) (s:List D),Sh.fitss ts l=true->AV.fitss ts (acw b l j s).1=true
 | [],ts,j,s,h=>by cases ts<;>simp only[Sh.fitss] at h<;>first|(cases h;done)|rfl
 | h::l,[],j,s,e=>by simp[Sh.fitss] at e
 | h::l,t::ts,j,s,e=>by simp only[Sh.fitss,zaa] at e;simp only[acw,AV.fitss,zaa];exact⟨Fb b h t j s e.1,vG b l ts _ s e.2⟩
end
def Er(s x:List D)(j:Nat):Prop:=∀ i,i<x.length->s[j+i]?=x[i]?
def Er.left{s x y:List D}{j:Nat}(h:Er s (x++y) j):Er s x j:=λi a=>by rw[h i (by simp;omega),zxb a]
def Er.right{s x y:List D}{j:Nat}(h:Er s (x++y) j):Er s y (j+x.length):=λi a=>by rw[zXb,h (x.length+i) (by simp;omega),z0b j1,zOb]
mutual
theorem BX{n b:Nat}{c c':Cx}(T:Two n c c'):∀ (h:Sh) (a:AV) (j:Nat) (s x:List D) (cs:List Value),Sh.dec c.ob c.dead h a=some x->Er s x j->Sh.fine n h=true ->
  (∀ p∈acx h a j,c'.β (b+p.1)=c.β p.2)->AC c a cs->AC c' (Sh.mk b h j s).1 cs
 | .dv t,a,j,s,x,cs,e,hs,hf,hb,k=>by
  have e':((ab2 c.ob t a).bind λx=>some [x])=some x:=by cases a<;>exact e
  obtain⟨y,h1,h2⟩:=ab e';simp only[zda] at h2;subst h2;obtain⟨k1,k2,_⟩:=sS _ _ _ _ h1 k;have hj:s[j]?=some y:=by have:=hs 0 j3;simpa using this
  simp only[Sh.mk,AC,List.getD,hj,zUb,T.w,T.S];exact⟨k1,hf,k2⟩
 | .ow t,a,j,s,x,cs,e,hs,hf,hb,k=>by
  cases a<;>simp only[Sh.dec] at e<;>first|(cases e;done)|skip
  ·rename_i t' v l;split at e<;>first|(cases e;done)|skip
   rename_i hd;simp only[zaa,zTa] at hd;simp only[zda] at e;subst e;have hj:s[j]?=some (.sl l):=by have:=hs 0 j3;simpa using this
   have he:=acQ _ _ hd.1;subst he;simp only[AC] at k;obtain⟨k0,k1,ad,cap,rfl,k2,k3⟩:=k;simp only[Sh.mk,AC,List.getD,hj,zUb,D.els,T.w,T.S];refine⟨k0,k1,ad,cap,rfl,k2,λ_=>?_⟩;rcases k3 (by simpa using hd.2) with h3|⟨bb,off,h3,h4,m,h5,h6⟩
   ·exact .inl h3
   ·refine .inr ⟨bb,off,h3,?_,m,by rw[T.w];exact h5,h6⟩
    have:=hb (j,v) (by simp[acx])
    rw[<-h4];exact this
  ·simp only[zda] at e;subst e;have hj:s[j]?=some (.sl []):=by have:=hs 0 j3;simpa using this
   simp only[AC] at k;subst k;simp only[Sh.mk,AC,List.getD,hj,zUb,D.els];refine⟨hf,λx hx=>(by cases hx),none,0,rfl,?_,λ_=>.inl ⟨rfl,rfl⟩⟩
   exact ab3 (b:=0) (off:=0) (.inl rfl) (zxa _) ⟨[],da.nil,λi c hc=>by simp at hc⟩
 | .same a',a,j,s,x,cs,e,hs,hf,hb,k=>by
  have e':(if AV.same a' a then some ([]:List D) else none)=some x:=by cases a<;>exact e
  split at e'<;>first|(cases e';done)|skip
  rename_i hsm;have:=ut _ _ hsm;subst this;simp only[Sh.fine] at hf;exact JJ T _ _ hf k
 | .st ts l,a,j,s,x,cs,e,hs,hf,hb,k=>by
  cases a<;>simp only[Sh.dec] at e<;>first|(cases e;done)|skip
  rename_i ts' l';split at e<;>first|(cases e;done)|skip
  simp only[Sh.fine,zaa] at hf;simp only[AC] at k;simp only[Sh.mk,AC];exact⟨hf.1.1,vG b l ts j s hf.1.2,Jx T l l' j s x cs e hs hf.2 hb k.2.2⟩
theorem Jx{n b:Nat}{c c':Cx}(T:Two n c c'):∀ (l:List Sh) (l':List AV) (j:Nat) (s x:List D) (cs:List Value),acu c.ob c.dead l l'=some x->Er s x j->acv n l=true ->
  (∀ p∈acy l l' j,c'.β (b+p.1)=c.β p.2)->lN c l' cs->lN c' (acw b l j s).1 cs
 | [],l',j,s,x,cs,e,_,_,_,k=>by all_goals grind [acu,acw,lN]
 | h::l,[],j,s,x,cs,e,_,_,_,k=>by simp[acu] at e
 | h::l,a::l',j,s,x,cs,e,hs,hf,hb,k=>by simp only[acu] at e;obtain⟨y,h1,e⟩:=ab e;obtain⟨z,h2,e⟩:=ab e;simp only[zda] at e;subst e;simp only[acv,zaa] at hf;simp only[lN] at k;obtain⟨c1,c2,rfl,k1,k2⟩:=k;simp only[acw,lN,su];simp only[acy,List.mem_append] at hb;have hr:=hs.right;rw[nN h a y h1] at hr;exact⟨c1,c2,rfl,BX T h a j s y c1 h1 hs.left hf.1 (λp hp=>hb p (.inl hp)) k1,Jx T l l' _ s z c2 h2 hr hf.2 (λp hp=>hb p (.inr hp)) k2⟩
end
def Sw{n b:Nat}{c c':Cx}(T:Two n c c')(h:Sh)(a:AV)(j:Nat)(s x:List D)(v:Value)(e:Sh.dec c.ob c.dead h a=some x)(hs:Er s x j)(hf:Sh.fine n h=true)
  (f:∀ p∈acx h a j,c'.β (b+p.1)=c.β p.2) (k:AR c a v):AR c' (Sh.mk b h j s).1 v:=by
 cases h with
 | dv t=>
  have d:((ab2 c.ob t a).bind λx=>some [x])=some x:=by cases a<;>exact e
  obtain⟨y,h1,h2⟩:=ab d;simp only[zda] at h2;subst h2;have i:s[j]?=some y:=by have:=hs 0 j3;simpa using this
  obtain⟨m,o⟩:=oR hf k h1;simp only[Sh.mk,List.getD,i,zUb];exact dO hf m (by rw[T.w,T.S];exact o)
 | ow t=>
  have key:=λcs=>BX T (.ow t) a j s x cs e hs hf f;cases a<;>simp only[Sh.dec] at e<;>first|(cases e;done)|skip
  all_goals
   simp only[AR] at k;exact⟨k.1,key _ k.2⟩
 | same a'=>
  have key:=λcs=>BX T (.same a') a j s x cs e hs hf f;have d:(if AV.same a' a then some ([]:List D) else none)=some x:=by cases a<;>exact e
  split at d<;>first|(cases d;done)|skip
  rename_i g;have:=ut _ _ g;subst this;simp only[Sh.mk] at key ⊢;cases a'<;>simp only[Sh.fine,AV.old] at hf<;>first|(cases hf;done)|skip
  all_goals simp_all [AR]
 | st q l=>
  have key:=λcs=>BX T (.st q l) a j s x cs e hs hf f;cases a<;>simp only[Sh.dec] at e<;>first|(cases e;done)|skip
  simp_all [Sh.mk,AR]
def O4(s:St):List (Nat×Sh)->Nat->List (Nat×Nat)
 | [],_=>[]
 | (t,h)::l,j=>acx h (s.tm t) j++O4 s l (j+h.cnt)
def Kq(h:Sh)(o:Option Ob)(j:Nat):List (Nat×Nat):=match o with|some (.one _ v)=>acx h v j|_=>[]
def wE(s:St):List (Nat×ShO)->Nat->List (Nat×Nat)
 | [],_=>[]
 | (id,.one _ h)::l,j=>Kq h (s.ob id) j++wE s l (j+h.cnt)
 | (_,.many _)::l,j=>wE s l (j+1)
 | (_,.mp ..)::l,j=>wE s l (j+1)
 | (_,.keep ..)::l,j=>wE s l j
 | (_,.lp ..)::l,j=>wE s l j
 | (_,.fv _)::l,j=>wE s l j
theorem AF(s:St):∀ (l:List (Nat×Sh)) (j:Nat),(O4 s l j).map Prod.snd=acI s l
 | [],_=>rfl
 | (t,h)::l,j=>by simp only[O4,acI,zLb,AG,AF s l]
theorem kq(s:St):∀ (l:List (Nat×ShO)) (j:Nat),(wE s l j).map Prod.snd=acH s l
 | [],_=>rfl
 | (id,.one t h)::l,j=>by
  simp only[wE,acH,zLb,kq s l];congr 1;unfold Kq;split
  ·rename_i e;simp only[AG,e]
  ·simp_all
 | (_,.many _)::l,j=>by simp only[wE,acH,kq s l]
 | (_,.mp ..)::l,j=>by simp only[wE,acH,kq s l]
 | (_,.keep ..)::l,j=>by simp only[wE,acH,kq s l]
 | (_,.lp ..)::l,j=>by simp only[wE,acH,kq s l]
 | (_,.fv _)::l,j=>by simp only[wE,acH,kq s l]
theorem Kr(s:St):∀ (l:List (Nat×Sh)) (j:Nat),Pl (O4 s l j) j (j+acC l)
 | [],_=>Pl.nil _ _
 | (t,h)::l,j=>by
  simp only[O4,acC];rw[show j+(h.cnt+acC l)=j+h.cnt+acC l by omega]
  exact(D9 h _ j).append (Kr s l _) j1 j1
def Oi(h:Sh)(o:Option Ob)(j:Nat):Pl (Kq h o j) j (j+h.cnt):=by
 unfold Kq;split
 ·exact D9 h _ j
 ·exact Pl.nil _ _
theorem pD(s:St):∀ (l:List (Nat×ShO)) (j:Nat),Pl (wE s l j) j (j+acB l)
 | [],_=>Pl.nil _ _
 | (id,.one t h)::l,j=>by
  simp only[wE,acB,ShO.cnt];rw[show j+(h.cnt+acB l)=j+h.cnt+acB l by omega]
  exact(Oi h _ j).append (pD s l _) j1 j1
 | (_,.many _)::l,j=>by
  simp only[wE,acB,ShO.cnt];rw[show j+(1+acB l)=j+1+acB l by omega]
  exact(Pl.nil j (j+1)).append (pD s l _) j1 j1
 | (_,.mp ..)::l,j=>by
  simp only[wE,acB,ShO.cnt];rw[show j+(1+acB l)=j+1+acB l by omega]
  exact(Pl.nil j (j+1)).append (pD s l _) j1 j1
 | (_,.keep ..)::l,j=>by simp only[wE,acB,ShO.cnt,zeb];exact pD s l j
 | (_,.fv _)::l,j=>by simp only[wE,acB,ShO.cnt,zeb];exact pD s l j
 | (_,.lp ..)::l,j=>by simp only[wE,acB,ShO.cnt,zeb];exact pD s l j
theorem Bl(s:St):∀ (l:List (Nat×Sh)) (x:List D),acE s l=some x->x.length=acC l
 | [],x,e=>by simp only[acE,zda] at e;subst e;rfl
 | (t,h)::l,x,e=>by simp only[acE] at e;obtain⟨y,h1,e⟩:=ab e;obtain⟨z,h2,e⟩:=ab e;simp only[zda] at e;subst e;simp only[zua,nN h _ y h1,Bl s l z h2,acC]
theorem uS(s:St):∀ (l:List (Nat×Sh)) (x:List D),acE s l=some x->∀ v∈acI s l,v ∉ s.dead
 | [],x,_=>by simp_all [acI]
 | (t,h)::l,x,e=>by
  intro v a;simp only[acE] at e;obtain⟨y,h1,e⟩:=ab e;obtain⟨z,h2,e⟩:=ab e;simp only[acI] at a;rcases List.mem_append.1 a with a|a
  ·exact rK h _ y h1 v a
  ·exact uS s l z h2 v a
def uR{s:St}{id:Nat}{t:Ty}{h:Sh}{l:List (Nat×ShO)}{x:List D}(e:acD s ((id,.one t h)::l)=some x):∃ v y z,s.ob id=some (.one t v)/\Sh.dec s.ob s.dead h v=some y/\acD s l=some z/\x=y++z:=by
 simp only[acD] at e;split at e<;>first|(cases e;done)|skip
 rename_i b v a;split at e<;>first|(cases e;done)|skip
 rename_i ht;obtain⟨y,h1,e⟩:=ab e;obtain⟨z,h2,e⟩:=ab e;grind [Option.some.injEq,acQ]
def rJ{s:St}{id:Nat}{t:Ty}{l:List (Nat×ShO)}{x:List D}(e:acD s ((id,.many t)::l)=some x):∃ v z,s.ob id=some (.many t v)/\acD s l=some z/\x=[.sl v]++z:=by
 simp only[acD] at e;split at e<;>first|(cases e;done)|skip
 rename_i b v a;split at e<;>first|(cases e;done)|skip
 rename_i ht;obtain⟨z,h2,e⟩:=ab e;grind [Option.some.injEq,acQ]
def zo{s:St}{id:Nat}{b vt:Ty}{l:List (Nat×ShO)}{x:List D}(e:acD s ((id,.mp b vt)::l)=some x):∃ v z,s.ob id=some (.mp b vt v)/\acD s l=some z/\x=[.sl v]++z:=by
 simp only[acD] at e;split at e<;>first|(cases e;done)|skip
 rename_i c d v a;split at e<;>first|(cases e;done)|skip
 rename_i ht;obtain⟨z,h2,e⟩:=ab e;simp only[zda] at e;simp only[zaa] at ht;rw[<-acQ _ _ ht.1,<-acQ _ _ ht.2] at a;exact⟨v,z,a,h2,e.symm⟩
def rI{s:St}{id:Nat}{t:Ty}{a:Nat}{l:List (Nat×ShO)}{x:List D}(e:acD s ((id,.keep t a)::l)=some x):∃ v,s.ob id=some (.one t v)/\acD s l=some x:=by grind [acD,acQ]
theorem GR:∀ {p a:Option Ex},DH p a=true->p=a
 | none,none,_=>rfl
 | none,some _,h=>by cases h
 | some _,none,h=>by cases h
 | some e,some b,h=>by simp only[DH] at h;cases e<;>cases b<;>simp only[Ex.is,zfa] at h<;>first|rfl|(cases h;done)|(subst h;rfl)
def zn{s:St}{id:Nat}{p:Option Ex}{a:Nat}{l:List (Nat×ShO)}{x:List D}(e:acD s ((id,.lp p a)::l)=some x):∃ i,s.ob id=some (.lp i p)/\acD s l=some x:=by grind [acD,GR]
def zm{s:St}{id:Nat}{a:AV}{l:List (Nat×ShO)}{x:List D}(e:acD s ((id,.fv a)::l)=some x):s.ob id=some (.fv a)/\acD s l=some x:=by
 simp only[acD] at e;split at e<;>first|(cases e;done)|skip
 split at e<;>first|(cases e;done)|skip
 rename_i h1 h2;rw[ut _ _ h2];exact⟨h1,e⟩
theorem xt{n:Nat}{c c':Cx}(T:Two n c c'):∀ {l:List AV} {vs:List Value},ab0 n l=true->oI c l vs->oI c' l vs
 | [],[],_,_=>trivial
 | [],_::_,_,k=>k.elim
 | _::_,[],_,k=>k.elim
 | a::l,v::vs,h,k=>by
  simp only[ab0,zaa] at h;refine⟨?_,xt T h.2 k.2⟩;have d:=k.1;unfold uz at d ⊢;split at d
  ·obtain⟨b,e,f⟩:=d;simp only[AV.old,zfa] at h;exact⟨b,e,(T.γ _ h.1).trans f⟩
  ·exact d.elim
theorem fU.old{n:Nat}{c c':Cx}(T:Two n c c'){a:AV}{v:Value}(h:AV.old n a=true)(i:mG a=true)(k:fU c a v):fU c' a v:=by
 cases a<;>simp only[mG] at i<;>first|(cases i;done)|skip
 all_goals simp only[AV.old] at h
 case clo f l=> obtain⟨caps,e,k⟩:=k;exact⟨caps,e,xt T h k⟩
 case map kt vt id=> obtain⟨b,e,d,g⟩:=k;exact⟨b,e,(T.γ id (of_decide_eq_true h)).trans d,g⟩
 case yld id=> simp only[fU,AR,AC] at k ⊢;obtain⟨d,L,e,g⟩:=k;exact⟨d,L,e,(T.γ id (of_decide_eq_true h)).trans g⟩
def Nx{a b:AV}:(∀ p,fo (.fv a) p=fo (.fv b) p/\cG (.fv a) p=cG (.fv b) p):=λp=>by cases p<;>exact⟨rfl,rfl⟩
def ya{p:Option Ex}{o:Option Ob}{o':Ob}(h:acr p o=some o'):∃ i a,o=some (.lp i a)/\o'=.lp i p:=by unfold acr at h;grind
theorem fW(s:St):∀ (l:List (Nat×ShO)) (x:List D),acD s l=some x->∀ v∈acH s l,v ∉ s.dead
 | [],x,_=>by simp_all [acH]
 | (id,.one t h)::l,x,e=>by
  intro v a;obtain⟨u,y,z,c,h1,h2,_⟩:=uR e;simp only[acH,c] at a;rcases List.mem_append.1 a with a|a
  ·exact rK h _ y h1 v a
  ·exact fW s l z h2 v a
 | (id,.many t)::l,x,e=>by obtain⟨u,z,_,h2,_⟩:=rJ e;exact fW s l z h2
 | (id,.mp d vt)::l,x,e=>by obtain⟨u,z,_,h2,_⟩:=zo e;exact fW s l z h2
 | (id,.keep t b)::l,x,e=>by obtain⟨u,_,h2⟩:=rI e;exact fW s l x h2
 | (id,.lp p b)::l,x,e=>by obtain⟨_,_,h2⟩:=zn e;exact fW s l x h2
 | (id,.fv v)::l,x,e=>by obtain⟨_,h2⟩:=zm e;exact fW s l x h2
theorem Fa(b:Nat):∀ (l:List (Nat×Sh)) (j:Nat) (s:List D) (f:Nat->AV),(acG b l j s f).2=j+acC l
 | [],j,s,f=>rfl
 | (t,h)::l,j,s,f=>by simp only[acG,Fa b l,su,acC,zXb]
theorem Jw{n b:Nat}{c c':Cx}(T:Two n c c'){s':St}(d:c.ob=s'.ob)(g:c.dead=s'.dead):∀ (l:List (Nat×Sh)) (j:Nat) (s x:List D) (f:Nat->AV),acE s' l=some x->Er s x j->(∀ p∈l,Sh.fine n p.2=true) ->
  (∀ p∈O4 s' l j,c'.β (b+p.1)=c.β p.2)->∀ i,(i∈l.map (·.1)/\∀ v,AR c (s'.tm i) v->AR c' ((acG b l j s f).1 i) v)\/(i ∉ l.map (·.1)/\(acG b l j s f).1 i=f i)
 | [],j,s,x,f,e,hs,hf,a,i=>.inr ⟨j3,rfl⟩
 | (t,h)::l,j,s,x,f,e,hs,hf,a,i=>by
  simp only[acE] at e;obtain⟨y,h1,e⟩:=ab e;obtain⟨z,h2,e⟩:=ab e;simp only[zda] at e;subst e;simp only[O4,List.mem_append] at a;have k:=hs.right;rw[nN h _ y h1] at k;simp only[acG,su];rcases Jw T d g l (j+h.cnt) s z (λi=>if i=t then(Sh.mk b h j s).1 else f i) h2 k (λp hp=>hf p (by simp[hp])) (λp hp=>a p (.inr hp)) i with⟨q,m⟩|⟨q,m⟩
  ·simp_all
  ·by_cases hit:i=t
   ·subst hit;refine .inl ⟨j3,λv o=>?_⟩
    rw[m,zma rfl];exact Sw T h _ j s y v (by rw[d,g];exact h1) hs.left (hf (i,h) j3) (λp hp=>a p (.inl hp)) o
   ·simp_all
def Ph(o' o:Ob):Prop:=(∀ p,fo o' p=fo o p/\cG o' p=cG o p)/\(∀ t l,o=.many t l->∃ l',o'=.many t l'/\l'.length=l.length)/\∀ a vt l,o=.mp a vt l->∃ l',o'=.mp a vt l'
def BQ{t:Ty}{a b:AV}:Ph (.one t a) (.one t b):=⟨λp=>⟨rfl,rfl⟩,(λu l e=>by cases e),λ_ _ l e=>by cases e⟩
def Ny{i a:LpI}{p b:Option Ex}:Ph (.lp i p) (.lp a b):=⟨λp=>⟨rfl,rfl⟩,(λu l e=>by cases e),λ_ _ l e=>by cases e⟩
def wD{t:Ty}{o:Option Ob}{o':Ob}(h:Ob.still t o=some o'):∃ u x,o=some (.one t (.d u x))/\o'=.one t (.d u x):=by
 unfold Ob.still at h;split at h<;>first|(cases h;done)|skip
 split at h<;>first|(cases h;done)|skip
 rename_i ht;simp only[zda] at h;have:=acQ _ _ ht;grind
theorem po{b:Nat}{base:Nat->Option Ob}{s':St}:∀ (l:List (Nat×ShO)) (j:Nat) (s x:List D) (f:Nat->Option Ob),acD s' l=some x->Er s x j ->
  ∀ id o',acF b base l j s f id=some o'->f id=some o'\/(id∈l.map (·.1)/\∃ o,s'.ob id=some o/\Ph o' o)
 | [],j,s,x,f,e,hs,id,o',c=>.inl c
 | (t,.one u h)::l,j,s,x,f,e,hs,id,o',c=>by
  obtain⟨v,y,z,h0,h1,h2,rfl⟩:=uR e;have d:=hs.right;rw[nN h _ y h1] at d;simp only[acF,su] at c;rcases po l _ s z _ h2 d id o' c with k|⟨g,m⟩
  ·split at k
   ·rename_i a;subst a;simp only[zda] at k;subst k;exact .inr ⟨j3,_,h0,BQ⟩
   ·exact .inl k
  ·simp_all
 | (t,.many u)::l,j,s,x,f,e,hs,id,o',c=>by
  obtain⟨v,z,h0,h2,rfl⟩:=rJ e;have n:s[j]?=some (.sl v):=by have:=hs 0 j3;simpa using this
  have d:=hs.right;simp only[acF] at c;rcases po l _ s z _ h2 d id o' c with k|⟨g,m⟩
  ·split at k
   ·rename_i a;subst a;simp only[zda,List.getD,n,zUb,D.els] at k;subst k;exact .inr ⟨j3,_,h0,λp=>⟨by cases p<;>rfl,by cases p<;>rfl⟩,(λu l e=>by cases e;exact⟨_,rfl,rfl⟩),λ_ _ l e=>by cases e⟩
   ·exact .inl k
  ·simp_all
 | (t,.mp u r)::l,j,s,x,f,e,hs,id,o',c=>by
  obtain⟨v,z,h0,h2,rfl⟩:=zo e;have n:s[j]?=some (.sl v):=by have:=hs 0 j3;simpa using this
  have d:=hs.right;simp only[acF] at c;rcases po l _ s z _ h2 d id o' c with k|⟨g,m⟩
  ·split at k
   ·rename_i a;subst a;simp only[zda,List.getD,n,zUb,D.els] at k;subst k;exact .inr ⟨j3,_,h0,λp=>⟨rfl,rfl⟩,(λu l e=>by cases e),λ_ _ l e=>by cases e;exact⟨_,rfl⟩⟩
   ·exact .inl k
  ·simp_all
 | (t,.keep u q)::l,j,s,x,f,e,hs,id,o',c=>by
  obtain⟨v,h0,h2⟩:=rI e;simp only[acF] at c;rcases po l _ s x _ h2 hs id o' c with k|⟨g,m⟩
  ·split at k
   ·rename_i a;subst a;obtain⟨r,y,_,rfl⟩:=wD k;exact .inr ⟨j3,_,h0,BQ⟩
   ·exact .inl k
  ·simp_all
 | (t,.lp p q)::l,j,s,x,f,e,hs,id,o',c=>by
  obtain⟨v,h0,h2⟩:=zn e;simp only[acF] at c;rcases po l _ s x _ h2 hs id o' c with k|⟨g,m⟩
  ·split at k
   ·rename_i a;subst a;obtain⟨i,w,_,rfl⟩:=ya k;exact .inr ⟨j3,_,h0,Ny⟩
   ·exact .inl k
  ·simp_all
 | (t,.fv u)::l,j,s,x,f,e,hs,id,o',c=>by
  obtain⟨h0,h2⟩:=zm e;simp only[acF] at c;rcases po l _ s x _ h2 hs id o' c with k|⟨g,m⟩
  ·split at k
   ·rename_i a;subst a;simp only[zda] at k;subst k;exact .inr ⟨j3,_,h0,Nx,(λu l e=>by cases e),λ_ _ l e=>by cases e⟩
   ·exact .inl k
  ·simp_all
theorem pn{n b:Nat}{c c':Cx}(T:Two n c c'){s' base:St}(B:c.ob=s'.ob)(C:c.dead=s'.dead):∀ (l:List (Nat×ShO)) (j:Nat) (s x:List D) (f:Nat->Option Ob),acD s' l=some x->Er s x j->(∀ p∈l,ShO.fine n base p.1 p.2=true) ->
  (∀ p∈wE s' l j,c'.β (b+p.1)=c.β p.2)->∀ id o',acF b base.ob l j s f id=some o'->f id=some o' ∨
   ∃ o,s'.ob id=some o/\((∀ F,gt c F o->gt c' F o')\/(∃ t q,(id,ShO.keep t q)∈l/\Ob.still t (base.ob id)=some o')\/∃ p q i,(id,ShO.lp p q)∈l/\o=.lp i p/\acr p (base.ob id)=some o')
 | [],j,s,x,f,e,hs,hf,m,id,o',a=>.inl a
 | (t,.one u h)::l,j,s,x,f,e,hs,hf,m,id,o',a=>by
  obtain⟨v,y,z,h0,h1,h2,rfl⟩:=uR e;have E:=hs.right;rw[nN h _ y h1] at E;simp only[acF,su] at a;simp only[wE,List.mem_append] at m;rcases pn T B C l _ s z _ h2 E (λp hp=>hf p (by simp[hp])) (λp hp=>m p (.inr hp)) id o' a with k|⟨o,r,A⟩
  ·split at k
   ·rename_i g;subst g;simp only[zda] at k;subst k;refine .inr ⟨_,h0,.inl λF k=>?_⟩;have d:=hf (id,.one u h) j3
    simp only[ShO.fine,zaa] at d;simp only[gt] at k ⊢;obtain⟨r,A,H,cs,I,J,K⟩:=k;rw[T.w,T.S];refine⟨r,Fb b h u j s d.2,H,cs,I,BX T h v j s y cs (by rw[B,C];exact h1) hs.left d.1 (λp hp=>m p (.inl ?_)) J,K⟩
    simp_all [Kq]
   ·exact .inl k
  ·simp_all
 | (t,.many u)::l,j,s,x,f,e,hs,hf,m,id,o',a=>by
  obtain⟨v,z,h0,h2,rfl⟩:=rJ e;have G:s[j]?=some (.sl v):=by have:=hs 0 j3;simpa using this
  have E:=hs.right;simp only[acF] at a;rcases pn T B C l _ s z _ h2 E (λp hp=>hf p (by simp[hp])) (λp hp=>m p hp) id o' a with k|⟨o,r,A⟩
  ·split at k
   ·rename_i g;subst g;simp only[zda,List.getD,G,zUb,D.els] at k;subst k
    simp_all [gt,T.w,T.S]
   ·exact .inl k
  ·simp_all
 | (t,.mp u Q)::l,j,s,x,f,e,hs,hf,m,id,o',a=>by
  obtain⟨v,z,h0,h2,rfl⟩:=zo e;have G:s[j]?=some (.sl v):=by have:=hs 0 j3;simpa using this
  have E:=hs.right;simp only[acF] at a;rcases pn T B C l _ s z _ h2 E (λp hp=>hf p (by simp[hp])) (λp hp=>m p hp) id o' a with k|⟨o,r,A⟩
  ·split at k
   ·rename_i g;subst g;simp only[zda,List.getD,G,zUb,D.els] at k;subst k;refine .inr ⟨_,h0,.inl λF k=>?_⟩;simp only[gt] at k ⊢;obtain⟨L,M,N,es,O,P⟩:=k;rw[T.w,T.S];exact⟨L,M,N,es,O,jx.same T.w T.S P⟩
   ·exact .inl k
  ·simp_all
 | (t,.keep u q)::l,j,s,x,f,e,hs,hf,m,id,o',a=>by
  obtain⟨v,h0,h2⟩:=rI e;simp only[acF] at a;rcases pn T B C l _ s x _ h2 hs (λp hp=>hf p (by simp[hp])) (λp hp=>m p hp) id o' a with k|⟨o,r,A⟩
  ·grind
  ·grind
 | (t,.lp p q)::l,j,s,x,f,e,hs,hf,m,id,o',a=>by
  obtain⟨v,h0,h2⟩:=zn e;simp only[acF] at a;rcases pn T B C l _ s x _ h2 hs (λp hp=>hf p (by simp[hp])) (λp hp=>m p hp) id o' a with k|⟨o,r,A⟩
  ·grind
  ·grind
 | (t,.fv u)::l,j,s,x,f,e,hs,hf,m,id,o',a=>by
  obtain⟨h0,h2⟩:=zm e;simp only[acF] at a;rcases pn T B C l _ s x _ h2 hs (λp hp=>hf p (by simp[hp])) (λp hp=>m p hp) id o' a with k|⟨o,r,A⟩
  ·split at k
   ·rename_i g;subst g;simp only[zda] at k;subst k;have d:=hf (id,.fv u) j3
    simp only[ShO.fine,zaa] at d;refine .inr ⟨_,h0,.inl λF k=>?_⟩;obtain⟨r,x,A,H,I⟩:=k;simp only[gt];rw[T.w,T.S];exact⟨r,x,A,H.old T d.1 d.2,I⟩
   ·exact .inl k
  ·grind
theorem yw:∀ {l:List (Nat×Nat)},dG (l.map Prod.snd)=true->∀ p∈l,∀ q∈l,p.2=q.2->p=q
 | [],_,p,hp,_,_,_=>by cases hp
 | x::l,h,p,hp,q,hq,e=>by
  simp only[zbb,dG,zaa,zTa] at h;have hx:∀ y∈l,y.2≠x.2:=λy hy c=>by grind
  rcases zBa.1 hp with rfl|a
  ·simp_all
  ·rcases zBa.1 hq with rfl|b
   ·simp_all
   ·exact yw h.2 p a q b e
theorem tu:∀ {l:List (Nat×ShO)} {id:Nat} {t:Ty} {a:Nat},(id,ShO.keep t a)∈l->id∈cC l
 | [],_,_,_,h=>by cases h
 | (i,o)::l,id,t,a,h=>by
  rcases zBa.1 h with k|k
  ·grind [cC]
  ·have ih:=tu k;cases o<;>simp only[cC]<;>first
    | exact ih
    | exact zoa _ ih
theorem qi:∀ {l:List (Nat×ShO)} {id:Nat} {p:Option Ex} {a:Nat},(id,ShO.lp p a)∈l->id∈cC l
 | [],_,_,_,h=>by cases h
 | (i,o)::l,id,p,a,h=>by
  rcases zBa.1 h with k|k
  ·grind [cC]
  ·have ih:=qi k;cases o<;>simp only[cC]<;>first
    | exact ih
    | exact zoa _ ih
section
variable{w0:Root}{w w':World}{S S':Nat->Nat->Prop}{γ γ':Nat->Option Nat}{β β':Nat->Option (Nat×Nat)}{s s':St}{a a':Act}
def nF(h0:Rp w0 S γ β s a w)(h1:Rp w0 S' γ' β' s' a' w')(hsub:∀ b o,S b o->S' b o)(E:∀ b o,S b o->w'.cell? ⟨b,o,none⟩=w.cell? ⟨b,o,none⟩)(aI:s'.nt=s.nt){h:Shape}
  (hs:∀ t∈h.keepS,a'.tmps.getD t undef=a.tmps.getD t undef) (an:∀ id b,γ id=some b->γ' id=some b) (ho:∀ id∈cC h.objs,∀ b,γ id=some b->γ' id=some b/\ks w w' b) {v:List D} (Q:h.dec s s'=some v) (lkS lkO:List Nat) :
  ∃ A β'',Rp w0 S' A β'' (h.mk' s v lkS lkO) a' w'/\∀ id,id<s.base+4096->A id=γ' id:=by
 unfold Shape.dec at Q;split at Q<;>first|(cases Q;done)|skip
 rename_i hg;simp only[zaa] at hg;obtain⟨hg,a4⟩:=hg;obtain⟨x,hx,Q⟩:=ab Q;obtain⟨y,hy,Q⟩:=ab Q;simp only[zda] at Q;subst Q;simp only[Shape.good,zaa,zEa,zfa] at hg;obtain⟨⟨⟨⟨bm,bn⟩,R⟩,Y⟩,bp⟩:=hg;have a9:=Bl s' h.slots x hx;obtain⟨n,hn⟩:∃ n,n=(s.fresh+1)*4096:=⟨_,rfl⟩;have a6:s.base+4096=n:=by rw[hn];simp only[St.base];omega
 rw[<-hn] at R Y;obtain⟨tl,I⟩:∃ tl,tl=O4 s' h.slots 0++wE s' h.objs (acC h.slots):=⟨_,rfl⟩;have a1:Pl tl 0 (acC h.slots+acB h.objs):=by rw[I];have p1:=Kr s' h.slots 0;rw[zeb] at p1;exact p1.append (pD s' h.objs _) j1 j1
 have a2:dG (tl.map Prod.snd)=true:=by rw[I,zLb,AF,kq];exact a4
 have l:∀ p∈tl,p.2 ∉ s'.dead:=λp hp=>by
  rw[I] at hp;rcases List.mem_append.1 hp with hp|hp
  ·exact uS s' _ x hx _ (by rw[<-AF s' _ 0];exact zfc hp)
  ·exact fW s' _ y hy _ (by rw[<-kq s' _ (acC h.slots)];exact zfc hp)
 obtain⟨A,hγ⟩:∃ A:Nat->Option Nat,A=λid=>if id<n then γ' id else none:=⟨_,rfl⟩
 obtain⟨β'',hβ⟩:∃ β'':Nat->Option (Nat×Nat),β''=λu=>if n<=u then(tl.find? λp=>p.1==u-n).bind λp=>β' p.2 else none:=⟨_,rfl⟩
 have aj:∀ id,id<n->A id=γ' id:=λid M=>by rw[hγ];simp[M]
 have K:∀ id b,A id=some b->id<n/\γ' id=some b:=λid b m=>by
  rw[hγ] at m;simp only at m;split at m
  ·rename_i M;exact⟨M,m⟩
  ·cases m
 have a5:∀ p∈tl,β'' (n+p.1)=β' p.2:=λp hp=>by
  rw[hβ];simp only[zxd,if_true,zOb];cases hfd:tl.find? λq=>q.1==p.1 with
  | none=> have:=List.find?_eq_none.1 hfd p hp;simp at this
  | some q=>
   have h1:=List.find?_some hfd;have h2:=List.mem_of_find?_eq_some hfd;rw[a1.2 q h2 p hp (by simpa using h1)]
   rfl
 have J:∀ u b,β'' u=some b->∃ p∈tl,u=n+p.1/\β' p.2=some b:=λu b m=>by
  rw[hβ] at m;simp only at m;split at m<;>first|(cases m;done)|skip
  rename_i hu;obtain⟨p,h1,h2⟩:=ab m;refine⟨p,List.mem_of_find?_eq_some h1,?_,h2⟩;have:=List.find?_some h1;simp only[beq_iff_eq] at this;omega
 have al:Er (x++y) x 0:=λi M=>by rw[zeb,zxb M]
 have U:Er (x++y) y (acC h.slots):=λi M=>by rw[<-a9,z0b j1,zOb]
 obtain⟨F,Z⟩:∃ F,F=(h.mk' s (x++y) lkS lkO).ob:=⟨_,rfl⟩;have W:F=acF n s.ob h.objs (acC h.slots) (x++y) (λ_=>none):=by rw[Z];simp only[Shape.mk',Fa,zeb,<-hn]
 have T:Two n ⟨w',S',γ',β',s'.ob,s'.dead⟩ ⟨w',S',A,β'',F,[]⟩:=by
  refine⟨rfl,rfl,aj,λid M o' a0=>?_⟩;rw[W] at a0;rcases po h.objs _ _ y _ hy U id o' a0 with k|⟨_,o,N,C⟩
  ·cases k
  ·exact⟨o,N,C.1,C.2⟩
 have ad:a'.tmps.size=a.tmps.size:=by rw[h1.nt,aI,h0.nt]
 have a3:(h.mk' s (x++y) lkS lkO).tm=(acG n h.slots 0 (x++y) (λi=>if h.keepS.contains i then(s.tm i).still else .undef)).1:=by simp only[Shape.mk',<-hn]
 have G:=Jw (b:=n) T (s':=s') rfl rfl h.slots 0 (x++y) x (λi=>if h.keepS.contains i then(s.tm i).still else .undef) hx al (λp hp=>(Y p hp).2) (λp hp=>a5 p (by rw[I];exact List.mem_append_left _ hp))
 refine⟨A,β'',⟨h1.ext,λt ht=>?_,?_,λt ht=>?_,λid o b ax m=>?_,λid b m=>h1.γn id b (K id b m).2,λid L b m g=>h1.γi id L b (K id b m).2 (K L b g).2,λid M=>?_,λu b e _ m=>?_,λu u' b e e' _ _ m g=>?_,λu id b e _ m hid=>?_,λu hu=>?_,h1.Sb,h1.So⟩,λid M=>aj id j1⟩
 ·rw[a3,<-Z];rcases G t with⟨N,C⟩|⟨N,C⟩
  ·exact C _ (h1.tms t ht)
  ·rw[C];by_cases hk:h.keepS.contains t=true
   ·have a7:t∈h.keepS:=by simpa using hk
    rw[zma hk,hs t a7];exact nH (c:=⟨w,S,γ,β,s.ob,s.dead⟩) E hsub (h0.tms t (by rw[<-ad];exact ht))
   ·rw[zia hk];simp only[AR]
 ·show a'.tmps.size=s.nt;rw[h1.nt,aI]
 ·have bk:s.nt<=t:=ht;rw[a3];rcases G t with⟨N,C⟩|⟨N,C⟩
  ·obtain⟨p,hp,rfl⟩:=zNa.1 N;have:=(Y p hp).1;omega
  ·rw[C];split
   ·rw[h0.tmu t bk];rfl
   ·rfl
 ·have g:=(K id b m).2;rw[<-Z] at ax ⊢;have V:=ax;rw[W] at V;rcases pn (b:=n) (base:=s) T (s':=s') rfl rfl h.objs (acC h.slots) (x++y) y _ hy U (λp hp=>(R p hp).2) (λp hp=>a5 p (by rw[I];exact zLa _ hp)) id o V with k|⟨o0,N,C|⟨t,ak,C,k3⟩|⟨p,ak,i1,C,rfl,k3⟩⟩
  ·cases k
  ·exact C b (h1.obs id o0 b N g)
  ·have d:=(R _ C).2;simp only[ShO.fine] at d;split at d<;>first|(cases d;done)|skip
   rename_i u L p hw;simp only[zaa,zfa] at d;obtain⟨rfl,ai⟩:=d;have P:=h0.tms ak (by rw[h0.nt];exact ai)
   rw[hw] at P;simp only[AR,AC] at P;obtain⟨_,O,off,_,z,_⟩:=P;obtain⟨q1,q2⟩:=ho id (tu C) O z;rw[g] at q1;simp only[zda] at q1;subst q1;obtain⟨u',x',H,rfl⟩:=wD k3;have hO:=h0.obs id _ b H z;have B:=h1.obs id o0 b N g;simp only[gt,AC] at hO ⊢;obtain⟨r1,r2,_,cs,r3,⟨r4,r5,r6⟩,r7⟩:=hO;have q2:=q2.row r3;have bi:∀ o,¬ S' b o:=by
    cases o0
    case lp i p=> simp only[gt] at B;obtain⟨rr,z1,_⟩:=B;rw[q2] at z1;simp[bS,z1] at r3
    case fv v=>exact B.1
    all_goals (simp only[gt] at B;exact B.2.2.1)
   refine⟨r1,r2,bi,cs,?_,⟨r4,r5,r6.mono E hsub⟩,r7⟩;simp only[bS,q2];exact r3
  ·have d:=(R _ C).2;simp only[ShO.fine,zaa,zfa] at d;obtain⟨d,ai⟩:=d;have P:=h0.tms ak (by rw[h0.nt];exact ai)
   obtain⟨O,z⟩:∃ O,γ id=some O:=by
    split at d<;>first|(cases d;done)|skip
    ·rename_i L hw;have e:=of_decide_eq_true d;subst e;rw[hw] at P;simp only[AR,AC] at P;obtain⟨_,O,_,z⟩:=P;exact⟨O,z⟩
    ·rename_i v hw;rw[hw] at P;split at d<;>first|(cases d;done)|skip
     rename_i L hv;have e:=of_decide_eq_true d;subst e;obtain⟨bv,_,_,bl,_⟩:=lO P;obtain⟨_,x,_,k,_⟩:=h0.obs v _ bv hv bl;simp only[fU,AR,AC] at k;obtain⟨_,O,_,z⟩:=k;exact⟨O,z⟩
   obtain⟨q1,q2⟩:=ho id (qi C) O z;rw[g] at q1;simp only[zda] at q1;subst q1;obtain⟨i,p0,H,rfl⟩:=ya k3;have hO:=h0.obs id _ b H z;have B:=h1.obs id _ b N g;simp only[gt] at hO B ⊢;obtain⟨rec,r1,⟨r2,r3,r4,r5⟩,r6,_⟩:=hO;obtain⟨X,v1,_,_,v4⟩:=B;have e:C0 rec X:=by
    rcases q2 with k|⟨r,r',z1,z2,z3⟩
    ·rw[v1,r1] at k;cases k;exact⟨rfl,rfl,rfl,rfl⟩
    ·rw[r1] at z1;cases z1;rw[v1] at z2;cases z2;exact z3
   refine⟨X,v1,⟨by rw[e.1];exact r2,by rw[e.2.1];exact r3,by rw[e.2.2.1];exact r4,by rw[e.2.2.2];exact r5⟩,λt ht=>?_,v4⟩
   rw[e.1];refine fU.mono (c:=⟨w,S,γ,β,s.ob,s.dead⟩) E hsub (λj bj hj=>?_) (r6 t ht);rcases zza j n with k|k
   ·exact(aj j k).trans (an j bj hj)
   ·have aB:γ j=some bj:=hj;rw[h0.γf j j1] at aB;cases aB
 ·have bs:(s.fresh+1)*4096+4096<=id:=M;rw[hγ];simp only;rw[zia j1]
 ·obtain⟨p,hp,_,g⟩:=J u _ m;exact h1.βn _ b e (l p hp) g
 ·obtain⟨p,hp,rfl,k⟩:=J u _ m;obtain⟨q,hq,rfl,k'⟩:=J u' _ g;have:=h1.βi _ _ b e e' (l p hp) (l q hq) k k';rw[yw a2 p hp q hq this]
 ·obtain⟨p,hp,_,g⟩:=J u _ m;exact h1.βγ _ id b e (l p hp) g (K id b hid).2
 ·have bt:(s.fresh+1)*4096+4096<=u:=hu;cases hc:β'' u with
  | none=>rfl
  | some b=> obtain⟨p,hp,e,_⟩:=J u b hc;have:=(a1.1 p hp).2;omega
end
variable{ro:Option Nat}{nn:Nat}
section
variable{P:Program}{E:Env}{w0:Root}{S:Nat->Nat->Prop}{γ:Nat->Option Nat}{β:Nat->Option (Nat×Nat)}{s:St}{a:Act}{w:World}
def Fm.tr{s s1:St}{S S1 S2:Nat->Nat->Prop}{γ γ1 γ2:Nat->Option Nat}{a a1 a2:Act}{w w1 b:World}(h:Fm s S γ a w S1 γ1 a1 w1)(k:Fm s1 S1 γ1 a1 w1 S2 γ2 a2 b)(e:Sk s s1):Fm s S γ a w S2 γ2 a2 b:=h.trans k e.lkS e.lkO
def ui(s:St)(t:Nat):St:=
 match s.tm t with
  | .mem a id=>match s.ob id with
   | some (.many u l)=>if a.beq u&&!(s.lkO.contains id) then{ s.setOb id none with tm:=λi=>if i=t then .d (.sl u) (.sl l) else s.tm i } else s
   | _=>s
  | _=>s
def By(s:St)(t:Nat)(l:List Nat):gP s (t::l)=gP (ui s t) l:=rfl
def Dk(h:Rp w0 S γ β s a w)(t:Nat):∃ S',Rp w0 S' γ β (ui s t) a w/\Fm s S γ a w S' γ a w/\Sm s (ui s t):=by
 have q:∃ S',Rp w0 S' γ β s a w/\Fm s S γ a w S' γ a w/\Sm s s:=⟨S,h,Fm.refl _ _ _ _ _,Sm.refl s⟩;unfold ui;split
 ·rename_i V id hm;split
  ·rename_i u l O;split
   ·rename_i hc;simp only[zaa,zTa] at hc;obtain⟨F,P⟩:=hc;have hu:=acQ _ _ F;subst hu;have ht:t<a.tmps.size:=by
     rcases zza t a.tmps.size with k|k
     ·exact k
     ·have:=h.tmu t (by rw[<-h.nt];exact k)
      simp_all
    have x:=h.tms t ht;rw[hm] at x;simp only[AR,AC] at x;obtain⟨I,K,b,E,x⟩:=x;obtain⟨l',N,L⟩:=x _ O;simp only[Ob.many.injEq,true_and] at N;subst N;have hO:=h.obs id _ b O E;simp only[gt] at hO;obtain⟨_,M,Q,cs,B,G⟩:=hO;obtain⟨S',g⟩:∃ S':Nat->Nat->Prop,S'=λd o=>S d o\/d=b:=⟨_,rfl⟩;have hsub:∀ d o,S d o->S' d o:=λd o j=>by rw[g];exact .inl j
    have hle:Cx.le ⟨w,S,γ,β,s.ob,s.dead⟩ ⟨w,S',γ,β,(s.setOb id none).ob,s.dead⟩:=by
     refine⟨λ_ _ _=>rfl,hsub,λ_ _ k=>k,λi o m _=>?_,λv L=>⟨L,λb e he=>⟨he,λn hn=>hn⟩⟩⟩
     simp_all [St.setOb]
    refine⟨S',⟨h.ext,λi m=>?_,h.nt,λi m=>?_,λi o d m y=>?_,h.γn,h.γi,h.γf,λv d e D he=>?_,h.βi,h.βγ,h.βf,λd o j=>?_,λd o j z=>?_⟩,⟨hsub,λ_ _ _=>rfl,λ_ _=>rfl,λ_ _ _ j=>⟨j,ks.refl _ _⟩,zja _,λ_ _ j=>j,mJ.same rfl (dB.refl _)⟩,⟨rfl,rfl,rfl,rfl⟩⟩
    ·by_cases p:i=t
     ·subst p;simp only[if_true];have C:=au I L;rw[C];refine dO (by simpa only[ao] using K) (by simp only[wt];exact⟨l,rfl,M⟩) (acm ?_)
      refine ab3 (b:=b) (off:=0) (.inr rfl) (zja _) ⟨cs,G.mono (λ_ _ _=>rfl) hsub,λi c hc=>⟨by rw[g];exact .inr rfl,?_⟩⟩
      rw[zeb,cell_of_row w B];simpa using hc
     ·simp only[zia p];exact(h.tms i m).mono hle
    ·have H:s.nt<=i:=m;have p:i≠t:=λe=>by rw[h.nt] at ht;omega
     simp only[zia p];exact h.tmu i H
    ·simp only[St.setOb] at m;split at m<;>first|(cases m;done)|skip
     rename_i J;refine(h.obs i o d m y).mono hle rfl λo r=>?_;have A:S' d o:=r;rw[g] at A;rcases A with k|k
     ·exact k
     ·subst k;exact z3a (h.γi i id d y E) J
    ·obtain⟨R,T,U⟩:=h.βn v d e D he;refine⟨R,T,λo r hs=>?_⟩;rw[g] at hs;rcases hs with k|k
     ·exact U o r k
     ·subst k;exact h.βγ v id d e D he E
    ·rw[g] at j;rcases j with k|k
     ·exact h.Sb d o k
     ·subst k;exact(h.γn id d E).2
    ·rw[g] at j;rcases j with k|k
     ·exact h.So d o k z
     ·subst k;exact z3a z (h.γn id d E).1
   ·exact q
  ·exact q
 ·omega
theorem rQ:∀ (l:List Nat) {S:Nat->Nat->Prop} {s:St},Rp w0 S γ β s a w->∃ S',Rp w0 S' γ β (gP s l) a w/\Fm s S γ a w S' γ a w/\Sm s (gP s l)
 | [],S,s,h=>⟨S,h,Fm.refl _ _ _ _ _,Sm.refl s⟩
 | t::l,S,s,h=>by obtain⟨S1,h1,f1,m1⟩:=Dk h t;obtain⟨S2,h2,f2,m2⟩:=rQ l h1;rw[By];exact⟨S2,h2,f1.trans f2 m1.lkS m1.lkO,m1.trans m2⟩
def tC(E:Env)(s:St)(o:Oper):St:=match o.op,o.dst with
  | .alloc T,some d=>match E.alOb T with
   | some x=>s.setOb (s.base+d) (some x)
   | none=>s
  | _,_=>s
def sD(E:Env)(o:Oper)(l:List Oper)(s:St):lq E (o::l) s=lq E l (tC E s o):=rfl
def Rp.freeOb(h:Rp w0 S γ β s a w){id:Nat}(j:γ id=none)(o:Option Ob):Rp w0 S γ β (s.setOb id o) a w:=by
 have hle:Cx.le ⟨w,S,γ,β,s.ob,s.dead⟩ ⟨w,S,γ,β,(s.setOb id o).ob,s.dead⟩:=by
  refine⟨λ_ _ _=>rfl,λ_ _ k=>k,λ_ _ k=>k,λi x hx c=>?_,λv g=>⟨g,λb e he=>⟨he,λn hn=>hn⟩⟩⟩;simp only[St.setOb] at hx;split at hx
  ·simp_all
  ·simp_all
 refine⟨h.ext,λi d=>(h.tms i d).mono hle,h.nt,h.tmu,λi x b hx c=>?_,h.γn,h.γi,h.γf,h.βn,h.βi,h.βγ,h.βf,h.Sb,h.So⟩;simp only[St.setOb] at hx;split at hx
 ·simp_all
 ·exact(h.obs i x b hx c).mono hle rfl λ_ k=>k
def nu(E:Env)(s:St)(o:Oper):tC E s o=s\/∃ T d t,o.op=.alloc T/\o.dst=some d/\E.alOb T=some t/\tC E s o=s.setOb (s.base+d) (some t):=by all_goals grind [tC]
def JS(h:Rp w0 S γ β s a w)(b:∀ d,γ (s.base+d)=none)(o:Oper):Rp w0 S γ β (tC E s o) a w/\Sm s (tC E s o):=by
 rcases nu E s o with e|⟨T,d,t,_,_,_,e⟩
 ·rw[e];exact⟨h,Sm.refl s⟩
 ·rw[e];exact⟨h.freeOb (b d) _,rfl,rfl,rfl,rfl⟩
def Sm.base_eq{s s':St}(h:Sm s s'):s'.base=s.base:=by simp only[St.base,h.fresh]
def Fo(l:List Oper){s:St}(h:Rp w0 S γ β s a w)(b:∀ d,γ (s.base+d)=none):Rp w0 S γ β (lq E l s) a w/\Sm s (lq E l s):=by
 induction l generalizing s with
 | nil=>exact And.intro h (Sm.refl s)
 | cons o l ih=>
  rw[sD];obtain⟨h1,h2⟩:=JS (E:=E) h b o;obtain⟨c,e⟩:=ih h1 (by rw[h2.base_eq];exact b)
  exact⟨c,h2.trans e⟩
theorem pw:∀ (l:List Oper) {s:St} {d:Nat},(∀ o∈l,o.dst≠some d)->(lq E l s).ob (s.base+d)=s.ob (s.base+d)
 | [],s,d,_=>rfl
 | o::l,s,d,h=>by
  rw[sD];rcases nu E s o with e|⟨T,d',t,_,b,_,e⟩
  ·rw[e];exact pw l λo a=>h o (by simp[a])
  ·rw[e];have:=pw l (s:=s.setOb (s.base+d') (some t)) (d:=d) λo a=>h o (by simp[a])
   have c:(s.setOb (s.base+d') (some t)).base=s.base:=rfl;rw[c] at this;rw[this];have f:d'≠d:=λe=>h o j3 (by rw[b,e])
   simp only[St.setOb];grind
theorem Af:∀ (l:List Oper) {s:St} {o:Oper} {T:TypeId} {d:Nat} {t:Ob},dG (l.filterMap (·.dst))=true->o∈l->o.op=.alloc T->o.dst=some d->E.alOb T=some t->(lq E l s).ob (s.base+d)=some t
 | [],_,_,_,_,_,_,h,_,_,_=>by cases h
 | x::l,s,o,T,d,t,hn,j,f,b,g=>by
  have c:dG (l.filterMap (·.dst))=true:=by
   rw[List.filterMap_cons] at hn;split at hn
   ·exact hn
   ·simp_all [dG,zaa]
  rw[sD];have i:(tC E s x).base=s.base:=by rcases nu E s x with e|⟨_,_,_,_,_,_,e⟩<;>rw[e]<;>rfl
  rcases zBa.1 j with rfl|a
  ·rw[<-i,pw l λo' a=>λe=>fX hn [] l o o' rfl a d e b]
   simp_all [tC,f,b,g,St.setOb]
  ·rw[<-i];exact Af l c a f b g
theorem Sn{e a:Ex}(h:e.is a=true):e=a:=by cases e<;>cases a<;>simp only[Ex.is,zfa] at h<;>first|rfl|(cases h;done)|(rw[h])
theorem tf{e:Ex}:∀ {l:List (Ex×Shape)} {i j:Nat} {h:Shape},u9 e l i=some (j,h)->i<=j/\l[j-i]?=some (e,h)
 | [],_,_,_,k=>by simp[u9] at k
 | (a,b)::l,i,j,h,k=>by
  simp only[u9] at k;split at k
  ·grind [Option.some.injEq,Prod.mk.injEq,Sn]
  ·obtain⟨c,d⟩:=tf k;grind
theorem ke{R:Type}{base:St}{k:Ex->St->Option R}{c b:List Nat}{r:R}{e:Ex}{h:Shape}{v:List D}:∀ {l:List (Ex×Shape)} {i j:Nat},i<=j->l[j-i]?=some (e,h)->mX base k c b l i (j,v)=some r ->
  k e (h.mk' base v base.lkS base.lkO)=some r/\subset h.keepS c=true/\subset (cC h.objs) b=true
 | [],_,_,_,hl,_=>by simp at hl
 | [(d,f)],i,j,a,hl,hc=>by
  have:j-i=0:=by grind
  rw[this] at hl;simp only[zYb,zda,Prod.mk.injEq] at hl
  simp_all [mX,zaa]
 | (d,f)::x::l,i,j,a,hl,hc=>by
  simp only[mX] at hc;split at hc<;>first|(cases hc;done)|skip
  rename_i hs;simp only[zaa] at hs;split at hc
  ·simp_all
  ·rename_i g;refine ke (i:=i+1) j1 ?_ hc
   grind
def gk{l l':List Nat}(h:subset l l'=true):∀ x∈l,x∈l':=λx hx=>by
 have:=zEa.1 h x hx
 simp_all
def Rp.lk(h:Rp w0 S γ β s a w)(lkS lkO:List Nat):Rp w0 S γ β { s with lkS:=lkS,lkO:=lkO } a w:=
 ⟨h.ext,h.tms,h.nt,h.tmu,h.obs,h.γn,h.γi,h.γf,h.βn,h.βi,h.βγ,h.βf,h.Sb,h.So⟩
def Fm.shape{s2:St}{S':Nat->Nat->Prop}{γ' γ'':Nat->Option Nat}{a':Act}{w':World}(h0:Rp w0 S γ β s a w)(h:Fm s2 S γ a w S' γ' a' w')(d:∀ id,id<s.base+4096->γ'' id=γ' id):Fm s2 S γ a w S' γ'' a' w':=
 ⟨h.sub,h.cell,h.slots,λid hid b c=>by
  obtain⟨e,g⟩:=h.objs id hid b c;refine⟨?_,g⟩;rw[d id ?_]
  ·exact e
  ·rcases zza id (s.base+4096) with k|k
   ·exact k
   ·rw[h0.γf id k] at c;exact z3a c j3,h.sz,λid b c=>by
  rw[d id ?_]
  ·exact h.gam id b c
  ·rcases zza id (s.base+4096) with k|k
   ·exact k
   ·rw[h0.γf id k] at c;exact z3a c j3,h.dfs⟩
def sU{base:St}{a:List (Ex×Shape)}{e:Ex}{s':St}{r:Nat×List D}(h:Ea base a e s'=some r):∃ sh,a[r.1]?=some (e,sh)/\sh.dec base s'=some r.2:=by
 unfold Ea at h;obtain⟨q,h1,h⟩:=ab h;obtain⟨v,h2,h⟩:=ab h;simp only[zda] at h;subst h;obtain⟨_,h3⟩:=tf h1
 simp_all
end
end Sy
end
end Go.Proofs.YtphlmegkommlnaaGreatDoor
