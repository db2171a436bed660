/- Part 4 of the proof that PlaneOfBoxes answers true at every input -/
import Derived.Test.YtphlmegkommlnaaGreatDoorBoxe03
import Derived.RangeFuncSeq
import Derived.RangeFuncRecord
import Derived.RangeFuncNested
set_option linter.unusedVariables false
set_option linter.unusedSimpArgs false
set_option linter.unnecessarySimpa false
set_option linter.defProp false
set_option maxRecDepth 20000
namespace Go.Proofs.YtphlmegkommlnaaGreatDoor
noncomputable section
namespace Sy
open Go
open Go.ChangeMaps (setBlock)
variable{ro:Option Nat}{nn:Nat}
def ny{c c':Cx}(hw:∀ b o,c.S b o->c'.w.cell? ⟨b,o,none⟩=c.w.cell? ⟨b,o,none⟩)(e:∀ b o,c.S b o->c'.S b o){x:AV}{v:Value}(h:AR c x v):AR c' x.still v:=by
 cases x<;>simp only[AV.still]<;>try (simp only[AR];done)
 case d t x=>
  simp only[AR] at h ⊢;rcases h with⟨f,g,i⟩|⟨n,f,m,g,i⟩
  ·exact .inl ⟨f,g,i.mono hw e⟩
  ·exact .inr ⟨n,f,m,g,i.mono hw e⟩
 case own t u l=>
  simp only[AR,AC] at h;obtain⟨h0,hn,h1,a,cap,h2,h3,_⟩:=h;refine dK (by simpa only[am] using hn) (by simp only[wt];exact⟨l,rfl,h1⟩) ?_
  have k:v=.slice a l.length cap:=ar h0 h2;subst k;exact abV (h3.mono hw e)
 case fptr t x=> simp only[AR,AC] at h ⊢;obtain⟨h0,h1,h2,b,off,h3,j⟩:=h;exact⟨h0,h1,h2,b,off,h3,j.mono hw e⟩
section
variable{P:Program}{E:Env}{w0:Root}{S S':Nat->Nat->Prop}{γ γ':Nat->Option Nat}{β β' β'':Nat->Option (Nat×Nat)}{s sc:St}{a:Act}{w w':World}
def BE{o':Ob}{x:Option Ob}(h:lY x (some o')=true):∃ o,x=some o/\∀ p,fk o' p=fk o p/\cD o' p=cD o p:=by
 cases x with
 | none=>simp[lY] at h
 | some o=>
  refine⟨o,rfl,λp=>?_⟩;cases o<;>cases o'<;>simp only[lY] at h<;>first|(cases h;done)|skip
  ·have:=aco _ _ h;subst this;exact⟨rfl,rfl⟩
  ·have:=aco _ _ h;subst this;cases p<;>exact⟨rfl,rfl⟩
  ·exact⟨rfl,rfl⟩
  ·cases p<;>exact⟨rfl,rfl⟩
def Am{v:Nat}(h:v∈fm s):v ∉ s.dead/\∃ t ty l,t<s.nt/\s.tm t=.own ty v l:=by
 unfold fm at h;obtain⟨t,h1,h2⟩:=zUc.1 h;split at h2<;>first|(cases h2;done)|skip
 rename_i ty u l ht;split at h2<;>first|(cases h2;done)|skip
 rename_i a;cases h2;exact⟨by simpa using a,t,ty,l,zWa.1 h1,ht⟩
def zJ{v t:Nat}{ty:Ty}{l:List D}(h1:t<s.nt)(h2:s.tm t=.own ty v l)(h3:v ∉ s.dead):v∈fm s:=by grind [fm]
def B6{t:Ty}{id:Nat}{p:List Nat}{cs:List Value}{dead a:List Nat}(c:∀ id b,γ id=some b->γ' id=some b)(hl:lY (s.ob id) (sc.ob id)=true)(h:AC ⟨w,S,γ,β,s.ob,dead⟩ (.ptr t id p) cs):AC ⟨w',S',γ',β'',sc.ob,a⟩ (.ptr t id p) cs:=by
 simp only[AC] at h ⊢;obtain⟨b,off,e,f,g⟩:=h;refine⟨b,off,e,c _ _ f,λo d=>?_⟩;rw[d] at hl;obtain⟨i,j,k⟩:=BE (o':=o) hl
 simp_all
theorem yt{dead a:List Nat}(c:∀ id b,γ id=some b->γ' id=some b):∀ (l:List AV) (cs:List Value),l.all (Jz s.ob sc.ob)=true->oz ⟨w,S,γ,β,s.ob,dead⟩ l cs->oz ⟨w',S',γ',β'',sc.ob,a⟩ l cs
 | [],cs,_,h=>by simpa only[oz] using h
 | x::l,cs,hp,h=>by
  simp only[zXb,zaa] at hp;simp only[oz] at h ⊢;obtain⟨v,c2,rfl,d,e⟩:=h;refine⟨v,c2,rfl,?_,yt c l c2 hp.2 e⟩;cases x<;>simp only[Jz] at hp<;>first|(cases hp.1;done)|skip
  exact B6 c hp.1 d
def Nw{n:Nat}{B D:List Nat}(a:∀ b o,S b o->w'.cell? ⟨b,o,none⟩=w.cell? ⟨b,o,none⟩)(hsub:∀ b o,S b o->S' b o)(q:∀ id b,γ id=some b->γ' id=some b)
  {x:AV} {v:Value} (i:∀ t u l,x=.own t u l->u ∉ s.dead->u ∉ D->u∈B/\β'' (n+B.idxOf u)=β u/\∀ b e,β u=some (b,e)->∀ m,nk w b=some m->nk w' b=some m)
  (h:AR ⟨w,S,γ,β,s.ob,s.dead⟩ x v):AR ⟨w',S',γ',β'',sc.ob,sc.dead⟩ (sf s sc n B D x) v:=by
 cases x with
 | d t y=>exact ny (c:=⟨w,S,γ,β,s.ob,s.dead⟩) (x:=.d t y) a hsub h
 | fptr t y=>exact ny (c:=⟨w,S,γ,β,s.ob,s.dead⟩) (x:=.fptr t y) a hsub h
 | own t u l=>
  simp only[sf];split
  ·exact ny (c:=⟨w,S,γ,β,s.ob,s.dead⟩) (x:=.own t u l) a hsub h
  ·rename_i k;simp only[z9b,not_or,List.contains_iff_mem] at k;have g:u ∉ s.dead:=k.1;obtain⟨O,r,z⟩:=i t u l rfl g k.2;simp only[AR,AC] at h ⊢;obtain⟨h0,h1,h2,A,cap,h3,F,G⟩:=h;refine⟨h0,h1,h2,A,cap,h3,F.mono a hsub,λ_=>?_⟩;rcases G g with j|⟨b,off,j,C,m,H,I⟩
   ·exact .inl j
   ·exact .inr ⟨b,off,j,r.trans C,m,z b _ C m H,I⟩
 | nils=>simpa only[sf,AR,AC] using h
 | ptr t id p=>
  simp only[sf];split
  ·rename_i hl;simp only[AR] at h ⊢;exact⟨h.1,B6 q hl h.2⟩
  ·simp only[AR]
 | mem t id=>simp only[sf,AR]
 | st Q l=>simp only[sf,AR]
 | clo f l=>
  simp only[sf];split
  ·rename_i hl;simp only[AR,AC] at h ⊢;obtain⟨h0,caps,h1,h2⟩:=h;exact⟨h0,caps,h1,yt q l caps hl h2⟩
  ·simp only[AR]
 | map P vt id=>
  simp only[sf];split
  ·rename_i hl;simp only[AR,AC] at h ⊢;obtain⟨h0,b,e,r,z,J,K⟩:=h;refine⟨h0,b,e,q _ _ r,z,J,λo E=>?_⟩;cases hs:s.ob id with
   | none=>rw[hs,E] at hl;simp[lY] at hl
   | some L=>
    obtain⟨l,rfl⟩:=K L hs;rw[hs,E] at hl;cases o<;>simp only[lY] at hl<;>first|(cases hl;done)|skip
    simp only[zaa] at hl;have M:=aco _ _ hl.1;have N:=aco _ _ hl.2
    simp_all
  ·simp only[AR]
 | yld id=> grind [sf,AR,AC]
 | sub sl t id p lo n=>simp only[sf,AR]
 | gone=>simp only[sf,AR]
 | undef=>simp only[sf,AR]
def CA(s:St):w6 s []=fm s:=by simp[w6]
def Cz{s:St}{a:List Nat}{v:Nat}:v∈w6 s a↔v∈fm s/\v ∉ a:=by simp[w6]
def EN(h:Rp w0 S γ β s a w){r J:List Nat}{sh:Nat->Prop}(G:r=w6 s J)(y:sh=λb=>(∃ id,γ id=some b)\/∃ v e,v ∉ r++s.dead/\β v=some (b,e)){k:St}{B:Act}
  (x:∀ j o,k.ob j=some o->s.ob j=some o) (C:k.fresh=s.fresh+1) (c:k.dead=r++s.dead) (E:B.tmps.size=k.nt) (A:∀ t,k.nt<=t->k.tm t=.undef)
  (z:∀ t,t<B.tmps.size->AR ⟨w,S,γ,β,k.ob,r++s.dead⟩ (k.tm t) (B.tmps.getD t undef)):Rp ⟨w,S,sh⟩ S γ β k B w:=by
 have g:∀ {u},u ∉ r++s.dead->u ∉ s.dead:=λhu D=>hu (zJa _ D);have d:k.base=(s.fresh+1)*4096:=by simp only[St.base,C]
 have I:s.base+4096=(s.fresh+1)*4096:=by simp only[St.base];omega
 have F:Cx.le ⟨w,S,γ,β,s.ob,s.dead⟩ ⟨w,S,γ,β,k.ob,r++s.dead⟩:=
  ⟨λ_ _ _=>rfl,λ_ _ d=>d,λ_ _ d=>d,λid o q _=>⟨o,x _ _ q,λp=>⟨rfl,rfl⟩,λt l e=>⟨l,e,rfl⟩,λ_ _ l e=>⟨l,e⟩⟩,λu hu=>⟨g hu,λb e he=>⟨he,λn hn=>hn⟩⟩⟩
 refine⟨⟨rfl,rfl,rfl,zia _,zia _,λ_ _=>rfl⟩,λt ht=>by rw[c];exact z t ht,E,A,λid o b q d=>?_,λid b d=>⟨λq=>q.2 (by show sh b;rw[y];exact .inl ⟨id,d⟩),(h.γn id b d).2⟩,h.γi,λid hid=>h.γf id ?_,λu b e hu he=>?_,λu M b e H hu m=>h.βi u M b e H (g (c ▸ hu)) (g (c ▸ m)),λu id b e hu=>h.βγ u id b e (g (c ▸ hu)),λu hu=>h.βf u ?_,h.Sb,λb o d _=>d⟩
 ·rw[c];exact(h.obs id o b (x _ _ q) d).mono F rfl λ_ D=>D
 ·omega
 ·have m:u ∉ r++s.dead:=c ▸ hu;obtain⟨N,K,L⟩:=h.βn u b e (g m) he;exact⟨λq=>q.2 (by show sh b;rw[y];exact .inr ⟨u,e,m,he⟩),K,L⟩
 ·omega
def Ee(h:Rp w0 S γ β s a w){q V:List Nat}{sh:Nat->Prop}(C:q=w6 s V)(J:sh=λb=>(∃ id,γ id=some b)\/∃ v e,v ∉ q++s.dead/\β v=some (b,e))(aj:q.length<=4096){a':Act}
  (n1:Rp ⟨w,S,sh⟩ S' γ' β' sc a' w') (P:∀ b o,S b o->S' b o) (H:∀ b o,S b o->w'.cell? ⟨b,o,none⟩=w.cell? ⟨b,o,none⟩) (O:∀ id b,γ id=some b->γ' id=some b) (U:w.heap.size<=w'.heap.size) :
  ∃ β'',Rp w0 S' γ' β'' (oM s sc V) a w'/\Cx.le ⟨w',S',γ',β',sc.ob,sc.dead⟩ ⟨w',S',γ',β'',sc.ob,sc.dead⟩:=by
 have y:∀ u,u∈q->u ∉ s.dead:=λu hu=>by rw[C] at hu;exact(Am (Cz.1 hu).1).1
 have N:∀ {u},u ∉ q++s.dead->u ∉ s.dead:=λhu k=>hu (zJa _ k);have K:∀ b,sh b->¬ w0.Old b:=λb c=>by
  rw[J] at c;rcases c with⟨id,c⟩|⟨u,e,hu,c⟩
  ·exact(h.γn id b c).1
  ·exact(h.βn u b e (N hu) c).1
 have E:∀ b,w0.Old b->(Root.mk w S sh).Old b:=λb c=>⟨znb c.1 h.ext.sz,λk=>K b k c⟩;have j:∀ u∈q,∀ b e,β u=some (b,e)->(Root.mk w S sh).Old b:=λu hu b e c=>by
  refine⟨(h.βn u b e (y u hu) c).2.1,λk=>?_⟩;have k:sh b:=k;rw[J] at k;rcases k with⟨id,k⟩|⟨F,G,D,k⟩
  ·exact h.βγ u id b e (y u hu) c k
  ·have:=h.βi u F b e G (y u hu) (N D) c k
   simp_all
 obtain⟨n,hn⟩:∃ n,n=(sc.fresh+1)*4096:=⟨_,rfl⟩;have X:sc.base+4096=n:=by rw[hn];simp only[St.base];omega
 obtain⟨β'',hβ⟩:∃ β'':Nat->Option (Nat×Nat),β''=λu=>if n<=u then(q[u-n]?).bind (λx=>if q.idxOf x=u-n then β x else none) else β' u:=⟨_,rfl⟩
 have z:∀ u b e,n<=u->β'' u=some (b,e)->∃ x∈q,u=n+q.idxOf x/\β x=some (b,e):=λu b e hu he=>by grind
 have blt:∀ u,u<n->β'' u=β' u:=λu hu=>h7
 have Q:∀ x∈q,β'' (n+q.idxOf x)=β x:=λx hx=>by
  have g:q.idxOf x<q.length:=List.idxOf_lt_length_of_mem hx
  simp_all
 have hle:Cx.le ⟨w',S',γ',β',sc.ob,sc.dead⟩ ⟨w',S',γ',β'',sc.ob,sc.dead⟩:=
  ⟨λ_ _ _=>rfl,λ_ _ c=>c,λ_ _ c=>c,λid o I _=>⟨o,I,λp=>⟨rfl,rfl⟩,λt l e=>⟨l,e,rfl⟩,λ_ _ l e=>⟨l,e⟩⟩,λu hu=>⟨hu,λb e he=>⟨(by
   have d:β' u=some (b,e):=he;show β'' u=some (b,e);rcases zxa u n with g|r
   ·simp_all
   ·rw[n1.βf u j1] at d;cases d),λm hm=>hm⟩⟩⟩
 have M:∀ b,¬ (Root.mk w S sh).Old b->¬ w0.Old b:=λb c k=>c (E b k);refine⟨β'',⟨⟨n1.ext.tape.trans h.ext.tape,n1.ext.os.trans h.ext.os,n1.ext.output.trans h.ext.output,zIa h.ext.sz n1.ext.sz,zIa h.ext.dr n1.ext.dr,λb c=>(n1.ext.old b (E b c)).trans (h.ext.old b c)⟩,λt ht=>?_,h.nt,λt ht=>?_,λid o b I c=>(n1.obs id o b I c).mono hle rfl λ_ k=>k,λid b c=>⟨M b (n1.γn id b c).1,(n1.γn id b c).2⟩,n1.γi,λid hid=>n1.γf id ?_,λu b e hu he=>?_,λu F b e G hu D he d=>?_,λu id b e hu he=>?_,λu hu=>?_,n1.Sb,λb o c g=>h.So b o (n1.So b o c (E b g)) g⟩,hle⟩
 ·have L:t<s.nt:=by rw[<-h.nt];exact ht
  simp only[oM,zna L];rw[<-C,<-hn];refine Nw H P O (λty u l hx hu k=>?_) (h.tms t ht);have hm:u∈q:=by rw[C];exact Cz.2 ⟨zJ L hx hu,k⟩
  refine⟨hm,Q u hm,λb e he m R=>?_⟩;have:=n1.ext.old b (j u hm b e he);simp only[nk,bO] at R ⊢;grind
 ·have ai:s.nt<=t:=ht;simp only[oM];grind
 ·have W:(sc.fresh+1)*4096+4096<=id:=hid;omega
 ·rcases zxa u n with g|r
  ·rw[blt u g] at he;obtain⟨Y,Z,q3⟩:=n1.βn u b e hu he;grind
  ·obtain⟨x,hx,_,he⟩:=z u b e r he;obtain⟨Y,Z,q3⟩:=h.βn x b e (y x hx) he;exact⟨Y,znb Z U,λo I hs=>q3 o I (n1.So b o hs (j x hx b e he))⟩
 ·rcases zxa u n with g|r
  ·rcases zxa F n with B|A
   ·rw[blt u g] at he;rw[blt F B] at d;exact n1.βi u F b e G hu D he d
   ·rw[blt u g] at he;obtain⟨x,hx,_,d⟩:=z F b G A d;exact z3a (j x hx b G d) (n1.βn u b e hu he).1
  ·obtain⟨x,hx,ex,he⟩:=z u b e r he;rcases zxa F n with B|A
   ·rw[blt F B] at d;exact z3a (j x hx b e he) (n1.βn F b G D d).1
   ·obtain⟨x',T,ad,d⟩:=z F b G A d;have:=h.βi x x' b e G (y x hx) (y x' T) he d;grind
 ·rcases zxa u n with g|r
  ·rw[blt u g] at he;exact n1.βγ u id b e hu he
  ·obtain⟨x,hx,ex,he⟩:=z u b e r he;exact λhid=>(n1.γn id b hid).1 (j x hx b e he)
 ·have D:(sc.fresh+1)*4096+4096<=u:=hu;all_goals grind
end
end Sy
end
noncomputable section
namespace Sy
open Go
open Go.ChangeMaps (setBlock)
variable{ro:Option Nat}{nn:Nat}
section
variable{P:Program}{E:Env}{w0:Root}{S:Nat->Nat->Prop}{γ:Nat->Option Nat}{β:Nat->Option (Nat×Nat)}{s:St}{a:Act}{w:World}
mutual
theorem AC.anyOb{c:Cx}(ob':Nat->Option Ob):∀ (x:AV) (t:Ty) (cs:List Value),AV.fits t x=true->AC c x cs->AC ⟨c.w,c.S,c.γ,c.β,ob',c.dead⟩ x cs
 | .d t' x,t,cs,_,h=>by simpa only[AC] using h
 | .own t' v l,t,cs,_,h=>by simpa only[AC,Zp] using h
 | .nils,t,cs,_,h=>by simpa only[AC] using h
 | .st ts' l,t,cs,hf,h=>by
  cases t<;>simp only[AV.fits] at hf<;>first|cases hf|skip
  rename_i ts;simp only[zaa] at hf;simp only[AC] at h ⊢;exact⟨h.1,h.2.1,lH.anyOb ob' l ts cs hf.2 h.2.2⟩
 | .ptr ..,t,cs,hf,_=>by cases t<;>simp[AV.fits] at hf
 | .fptr ..,t,cs,hf,_=>by cases t<;>simp[AV.fits] at hf
 | .mem ..,t,cs,hf,_=>by cases t<;>simp[AV.fits] at hf
 | .clo ..,t,cs,hf,_=>by cases t<;>simp[AV.fits] at hf
 | .map ..,t,cs,hf,_=>by cases t<;>simp[AV.fits] at hf
 | .sub ..,t,cs,hf,_=>by cases t<;>simp[AV.fits] at hf
 | .yld ..,t,cs,hf,_=>by cases t<;>simp[AV.fits] at hf
 | .gone,t,cs,hf,_=>by cases t<;>simp[AV.fits] at hf
 | .undef,t,cs,hf,_=>by cases t<;>simp[AV.fits] at hf
theorem lH.anyOb{c:Cx}(ob':Nat->Option Ob):∀ (l:List AV) (ts:List Ty) (cs:List Value),AV.fitss ts l=true->lH c l cs->lH ⟨c.w,c.S,c.γ,c.β,ob',c.dead⟩ l cs
 | [],ts,cs,_,h=>by simpa only[lH] using h
 | a::l,ts,cs,hf,h=>by
  cases ts<;>simp only[AV.fitss] at hf<;>first|cases hf|skip
  simp only[zaa] at hf;simp only[lH] at h ⊢;obtain⟨c1,c2,rfl,h1,h2⟩:=h;exact⟨c1,c2,rfl,AC.anyOb ob' a _ c1 hf.1 h1,lH.anyOb ob' l _ c2 hf.2 h2⟩
end
theorem jt.anyOb{c:Cx}{a:Nat->Option Ob}{b vt:Ty}:∀ {j:Nat} {l:List D} {es:List MapEntry},jt c b vt j l es->jt ⟨c.w,c.S,c.γ,c.β,a,c.dead⟩ b vt j l es
 | _,[],[],_=>trivial
 | _,[],_::_,k=>k.elim
 | _,_::_,[],k=>k.elim
 | j,x::l,e::es,k=>by simp only[jt] at k ⊢;exact⟨k.1,jt.anyOb k.2⟩
def fR.anyOb{c:Cx}(a:Nat->Option Ob){x:AV}{v:Value}(h:fR c x v):fR ⟨c.w,c.S,c.γ,c.β,a,c.dead⟩ x v:=fR.mono (c:=c) (c':=⟨c.w,c.S,c.γ,c.β,a,c.dead⟩) (λ_ _ _=>rfl) (λ_ _ h=>h) (λ_ _ h=>h) h
theorem gm.anyOb{c:Cx}(a:Nat->Option Ob){b:Nat}{o:Ob}(h:gm c b o):gm ⟨c.w,c.S,c.γ,c.β,a,c.dead⟩ b o:=by
 cases o<;>simp only[gm] at h ⊢
 case one t v=> obtain⟨h1,h2,h3,cs,d,e,f⟩:=h;exact⟨h1,h2,h3,cs,d,AC.anyOb a v t cs h2 e,f⟩
 case many t l=>exact h
 case mp kt vt l=> obtain⟨h1,h2,h3,es,d,e⟩:=h;exact⟨h1,h2,h3,es,d,e.anyOb⟩
 case lp i p=> obtain⟨r,h1,h2,h3,d⟩:=h;exact⟨r,h1,h2,λt ht=>(h3 t ht).anyOb a,d⟩
 case fv v=> obtain⟨h1,x,h2,h3,d⟩:=h;exact⟨h1,x,h2,h3.anyOb a,d⟩
def xO{b o:Nat}{r:Loop}(h:w.heap[b]?=some (Obj.loop r)):w.cell? ⟨b,o,none⟩=none:=by simp[World.cell?,h]
def eV{b a:Nat}{x:Obj}(c:a≠b):(setBlock w b x).heap[a]?=w.heap[a]?:=by simp only[setBlock];rw[z3c (Ne.symm c)]
def gV{b:Nat}{x:Obj}(a:b<w.heap.size):(setBlock w b x).heap[b]?=some x:=World.putObj_heap_same a
def eB{b:Nat}{x:Obj}:(setBlock w b x).heap.size=w.heap.size:=by simp[setBlock]
def vZ{L:Nat}{r r':Loop}(hl:w.heap[L]?=some (Obj.loop r))(b o:Nat):(setBlock w L (.loop r')).cell? ⟨b,o,none⟩=w.cell? ⟨b,o,none⟩:=by
 by_cases e:b=L
 ·subst e;rw[xO hl,xO (gV (zza.1 hl).1)]
 ·simp only[World.cell?,eV e]
def Rp.setLp(h:Rp w0 S γ β s a w){id L:Nat}(x:γ id=some L){r:Loop}(hl:w.heap[L]?=some (Obj.loop r))(r':Loop):Rp w0 S γ β (s.setOb id none) a (setBlock w L (.loop r')):=by
 have hle:Cx.le ⟨w,S,γ,β,s.ob,s.dead⟩ ⟨setBlock w L (.loop r'),S,γ,β,(s.setOb id none).ob,s.dead⟩:=by
  refine⟨λb o _=>vZ hl b o,λ_ _ j=>j,λ_ _ j=>j,λi y hy _=>⟨y,?_,λp=>⟨rfl,rfl⟩,λt l e=>⟨l,e,rfl⟩,λ_ _ l e=>⟨l,e⟩⟩,λv q=>⟨q,λc e he=>⟨he,λn hn=>?_⟩⟩⟩
  ·simp_all [St.setOb]
  ·have g:c≠L:=λu=>h.βγ v id c e q he (u ▸ x);have k:nk w c=some n:=hn;show nk (setBlock w L (.loop r')) c=some n;simp only[nk,bO,eV g] at k ⊢;exact k
 refine⟨oS h.ext rfl rfl rfl (by rw[eB];exact zia _) (zia _) (λc d=>eV λe=>(h.γn id L x).1 (e ▸ d)),λt ht=>(h.tms t ht).mono hle,h.nt,h.tmu,λi y c hy d=>?_,λi c d=>by rw[eB];exact h.γn i c d,h.γi,h.γf,
  λv c e q he=>by rw[eB];exact h.βn v c e q he,h.βi,h.βγ,h.βf,λc o j=>by rw[eB];exact h.Sb c o j,h.So⟩
 have m:i≠id/\s.ob i=some y:=by all_goals simp_all [St.setOb]
 have g:c≠L:=λu=>m.1 (h.γi i id c d (u ▸ x));exact(h.obs i y c m.2 d).mono hle (eV g) λ_ z=>z
def Fm.setLp(h:Rp w0 S γ β s a w){s1:St}{L:Nat}{r r':Loop}(hl:w.heap[L]?=some (Obj.loop r))(he:CM r r'):Fm s1 S γ a w S γ a (setBlock w L (.loop r')):=by
 have d:=(zza.1 hl).1;refine⟨λ_ _ c=>c,λb o _=>vZ hl b o,λ_ _=>rfl,λi _ b c=>⟨c,?_⟩,by rw[eB];exact zia _,λ_ _ c=>c,mD.same rfl λb=>?_⟩
 ·by_cases e:b=L
  ·subst e;exact .inr ⟨r,r',hl,gV d,he⟩
  ·exact .inl (eV e)
 ·by_cases e:b=L
  ·subst e;exact⟨λc=>(by rw[hl] at c;cases c),λ_=>⟨r',gV d⟩⟩
  ·simp_all [eV]
theorem Rp.leaveY(h:Rp w0 S γ β s a w){id L:Nat}{i:LpI}{p:Option Ex}(l:γ id=some L)(k:gm ⟨w,S,γ,β,s.ob,s.dead⟩ L (.lp i p)):Rp w0 S γ β (leaveY s id i p) a w:=by
 refine⟨h.ext,λt ht=>by simp only[Sy.leaveY,AR],h.nt,λt ht=>rfl,λj o b g d=>?_,h.γn,h.γi,h.γf,h.βn,h.βi,h.βγ,h.βf,h.Sb,h.So⟩
 have c:(if j=id then some (Ob.lp i p) else s.ob j)=some o:=g
 by_cases e:j=id
 ·subst e;rw[zna rfl] at c;cases c;rw[l] at d;cases d;exact k.anyOb _
 ·rw[zka e] at c;exact(h.obs j o b c d).anyOb _
def wU(s:St)(id:Nat)(i:LpI)(p:Option Ex):leaveY (s.setOb id none) id i p=leaveY s id i p:=by
 have:(λj=>if j=id then some (Ob.lp i p) else(s.setOb id none).ob j)=λj=>if j=id then some (Ob.lp i p) else s.ob j:=by
  funext j;by_cases e:j=id
  ·simp[e]
  ·simp[St.setOb,e]
 simp only[leaveY,this];rfl
theorem vK{c:Cx}:∀ (l:List (Nat×AV)) (l':List (Nat×Value)) (f:Nat->AV) (T:Array Value),l.length=l'.length->(∀ (i p:Nat) (x:AV) (q:Nat) (v:Value),l[i]?=some (p,x)->l'[i]?=some (q,v)->p=q/\AR c x v) ->
  (∀ t,t<T.size->AR c (f t) (T.getD t undef))->(l'.foldl (λtmps p=>tmps.setIfInBounds p.1 p.2) T).size=T.size/\∀ t,t<T.size->AR c (mf l f t) ((l'.foldl (λtmps p=>tmps.setIfInBounds p.1 p.2) T).getD t undef)
 | [],[],f,T,_,_,h=>⟨rfl,h⟩
 | [],_::_,f,T,hl,_,_=>by simp at hl
 | _::_,[],f,T,hl,_,_=>by simp at hl
 | (p,x)::l,(q,v)::l',f,T,hl,hx,h=>by
  obtain⟨e,b⟩:=hx 0 p x q v rfl rfl;subst e;simp only[zWc,mf];obtain⟨h1,h2⟩:=vK l l' (λt=>if t=p then x else f t) (T.setIfInBounds p v) (by simpa using hl) (λi=>hx (i+1)) λt ht=>by
   have a:t<T.size:=by simpa using ht
   by_cases e:t=p
   ·subst e;rw[zna rfl];simpa [Array.getD,a] using b
   ·rw[zka e];have:=h t a;simp only[Array.getD] at this ⊢;rw[dif_pos a] at this;rw[dif_pos ht,Array.getInternal_eq_getElem,Array.getElem_setIfInBounds_ne a (Ne.symm e)]
    rwa [Array.getInternal_eq_getElem] at this
  refine⟨by rw[h1];simp,λt ht=>h2 t (by simpa using ht)⟩
theorem tp:∀ (l:List (Nat×AV)) (f:Nat->AV) (n t:Nat),(∀ p∈l,p.1<n)->n<=t->mf l f t=f t
 | [],f,n,t,_,_=>rfl
 | (p,x)::l,f,n,t,h,ht=>by
  simp only[mf];rw[tp l _ n t (λq hq=>h q (by simp[hq])) ht]
  have:=h (p,x) j3
  simp only at this;rw[zka j1]
theorem lJ(h:Rp w0 S γ β s a w):∀ (l:List Operand) (i:Nat) (x:AV) (v:Value),(l.map s.opA)[i]?=some x->(l.map a.eval)[i]?=some v->AR ⟨w,S,γ,β,s.ob,s.dead⟩ x v
 | [],i,x,v,hx,_=>by simp at hx
 | y::l,0,x,v,hx,b=>by simp at hx b;subst hx;subst b;exact aT h y
 | y::l,i+1,x,v,hx,b=>by simp only[zab,zpb] at hx b;exact lJ h l i x v hx b
theorem Fm.less{s s2:St}{S':Nat->Nat->Prop}{γ':Nat->Option Nat}{a':Act}{w':World}(h:Fm s S γ a w S' γ' a' w')(c:∀ t∈s2.lkS,t∈s.lkS)(b:∀ t∈s2.lkO,t∈s.lkO):Fm s2 S γ a w S' γ' a' w':=
 ⟨h.sub,h.cell,λt ht=>h.slots t (c t ht),λid hid=>h.objs id (b id hid),h.sz,h.gam,h.dfs.less b⟩
def uj(c:Cx)(b:Bool):AR c (.d .bool (.bool b)) (.bool b):=gJ _
def Kn(hE:EnvOk P E)(h:Rp w0 S γ β s a w){o:Oper}{c:Call}(al:o.op=.call c){id:Nat}{i:LpI}{W:List AV}(hy:Qm s c=some (id,i,W)){R:Type}{K:AV->St->Option R}{r:R}{an:Ann}(F:Xs E an s id i W K=some r)
  {next:Act->World->Prop} {Q:Exit->Act->World->Prop}
  (hk:∀ y v s' S' γ' β' w',K y s'=some r->Rp w0 S' γ' β' s' a w'->AR ⟨w',S',γ',β',s'.ob,s'.dead⟩ y v->Fm s S γ a w S' γ' a w'->Sk s s'->next (a.put o.dst v) w'):o.wpIn (FW ro) nn P a w next Q:=by
 obtain⟨dst,op,ty,pos,after,guard⟩:=o;simp only at al;subst al;obtain⟨callee,args,argTypes⟩:=c;unfold Qm at hy;split at hy<;>first|(cases hy;done)|skip
 rename_i t hc;simp only at hc;subst hc;split at hy<;>first|(cases hy;done)|skip
 rename_i f ht;split at hy<;>first|(cases hy;done)|skip
 rename_i m a6;simp only[zda,Prod.mk.injEq] at hy;obtain⟨rfl,rfl,rfl⟩:=hy;have hA:=aT h (.tmp t);have Z:AR ⟨w,S,γ,β,s.ob,s.dead⟩ (.yld f) (a.eval (.tmp t)):=by rw[<-ht];exact hA
 simp only[AR,AC] at Z;obtain⟨na,L,a5,hγ⟩:=Z;have hv:=ar na a5;have hO:=h.obs f _ L a6 hγ;simp only[gm] at hO;obtain⟨rec,hl,⟨p1,p2,p3,p4⟩,H,bp,bn⟩:=hO;unfold Xs at F;split at F<;>first|(cases F;done)|skip
 rename_i J;obtain⟨hlen,a7,bi⟩:=J;have M:args.size=rec.params.size:=by
  have:(args.toList.map s.opA).length=rec.params.toList.length:=by rw[p2];exact hlen
  simpa using this
 have bk:=run_yield (P:=P) (args:=(args.map a.eval)) hl (by simpa using M)
 refine⟨λ_ _=>trivial,?_⟩;have ax:((⟨dst,.call ⟨.value (.tmp t),args,argTypes⟩,ty,pos,after,guard⟩:Oper).semAt (FW ro).round a.eval).run P w=.ok (.round L rec.fn ((rec.params.zip (args.map a.eval)).foldl (λtmps (t,a)=>tmps.setIfInBounds t a) rec.tmps) rec.assign rec.body) w:=by
  rw[Oper.semAt_eq _ _ _ (λc=>j3)]
  simp only[execOp,resolve,hv];simpa [Deferred.ofValue,invoke,go_sem] using bk
 rw[ax];simp only[Oper.uponIn];refine⟨λh=>(by cases h),?_⟩
 obtain⟨T,hT⟩:∃ T,T=(rec.params.zip (args.map a.eval)).foldl (λtmps (t,a)=>tmps.setIfInBounds t a) rec.tmps:=⟨_,rfl⟩;rw[<-hT];refine RoundIn.mono (R:=λen a0=>∃ v,en=.returned v/\next (a.put dst v) a0) ?_ (λen a0 ⟨v,he,hn⟩=>by subst he;exact hn)
 refine roundIn_of_wpIn trivial ?_;show Code.wpIn (FW (some L)) (nn-1) P rec.assign _ _ _;rw[p3,p4];obtain⟨V,z⟩:∃ V,V=w6 s []:=⟨_,rfl⟩;obtain⟨sh,aB⟩:∃ sh:Nat->Prop,sh=λb=>(∃ id,γ id=some b)\/∃ v e,v ∉ V++s.dead/\β v=some (b,e):=⟨_,rfl⟩;have I:T.size=rec.tmps.size/\∀ t,t<rec.tmps.size->AR ⟨w,S,γ,β,s.ob,V++s.dead⟩ ((EM s m f (args.toList.map s.opA)).tm t) (T.getD t undef):=by
  have key:=vK (c:=⟨w,S,γ,β,s.ob,V++s.dead⟩) (m.ps.zip (args.toList.map s.opA)) (m.ps.zip (args.toList.map a.eval)) (λt=>if t<m.nt then oC s.ob (m.caps t) else .undef) rec.tmps j3 (λj p x q v hx hv=>by
   rw[List.getElem?_zip_eq_some] at hx hv;refine⟨by have:=hx.1.symm.trans hv.1;simpa using this,?_⟩
   refine AR.mono (c:=⟨w,S,γ,β,s.ob,s.dead⟩) (c':=⟨w,S,γ,β,s.ob,V++s.dead⟩) ⟨λ_ _ _=>rfl,λ_ _ hb=>hb,λ_ _ hb=>hb,λid o ho _=>⟨o,ho,λp=>⟨rfl,rfl⟩,λt l e=>⟨l,e,rfl⟩,λ_ _ l e=>⟨l,e⟩⟩,λu hu=>⟨λhh=>hu (zJa _ hh),λb e he=>⟨he,λn hn=>hn⟩⟩⟩ (lJ h _ j x v hx.2 hv.2))
   (λt ht=>by
    rw[zna j1]
    exact A1 (c:=⟨w,S,γ,β,s.ob,s.dead⟩) (H t j1))
  have e:T=(m.ps.zip (args.toList.map a.eval)).foldl (λtmps p=>tmps.setIfInBounds p.1 p.2) rec.tmps:=by rw[hT,<-p2,<-Array.foldl_toList,Array.toList_zip,Array.toList_map]
  rw[e];exact key
 have a9:T.size=m.nt:=I.1.trans p1;have RI:Rp ⟨w,S,sh⟩ S γ β (EM s m f (args.toList.map s.opA)) ⟨T,[]⟩ w:=by
  refine EN h z aB (λj o hj=>hj) rfl (by rw[z,CA];rfl) a9 (λu hu=>?_) (λu hu=>I.2 u (by rw[<-I.1];exact hu))
  have bj:m.nt<=u:=hu;show mf _ _ u=.undef;rw[tp _ _ m.nt u (λp hp=>by have h1:=(List.of_mem_zip (a:=p.1) (b:=p.2) hp).1;have:=zCa.1 a7 _ h1;simpa using this) bj,zka j1]
 refine hE.cod (some L) (nn-1) ⟨w,S,sh⟩ m.asg an.fst R _ S γ β _ _ w _ r (λl e=>by cases e;exact⟨rec,hl⟩) RI F λe s1 S1 γ1 β1 a1 w1 n1 n2 N U=>?_
 cases e with
 | exit j=>cases U
 | ret=>cases U
 | normal=>
 simp only at U;split at U<;>first|(cases U;done)|skip
 rename_i i1 ak;simp only[IE,Exit.then];obtain⟨g1,st1⟩:=n2.objs f zsa L hγ;have ad:=n1.obs f _ L ak g1;simp only[gm] at ad;obtain⟨g,B,_,_,aI,bm⟩:=ad;have X:CM rec g:=by
  rcases st1 with k|⟨r,r',k1,k2,O⟩
  ·rw[B,hl] at k;cases k;exact⟨rfl,rfl,rfl,rfl⟩
  ·rw[hl] at k1;cases k1;rw[B] at k2;cases k2;exact O
 refine⟨_,run_beginRound B aI,?_⟩;have a3:=(zza.1 B).1;have M1:=n1.setLp g1 B { g with state:=.busy };have F1:=Fm.setLp n1 (s1:=s1) B (r':={ g with state:=.busy }) ⟨rfl,rfl,rfl,rfl⟩;have G:(setBlock w1 L (.loop { g with state:=.busy })).heap[L]?=some (.loop { g with state:=.busy }):=gV a3;show Code.wpIn (FW (some L)) (nn-1) P m.bdy _ a1 (setBlock w1 L (.loop { g with state:=.busy }));generalize setBlock w1 L (.loop { g with state:=.busy })=w2 at M1 F1 G ⊢;have aj:s1.lkO=f::s.lkO:=N.lkO;refine hE.cod (some L) (nn-1) ⟨w,S,sh⟩ m.bdy an.snd R _ S1 γ1 β1 _ a1 w2 _ r (λl e=>by cases e;exact⟨_,G⟩) M1 U λe s2 S2 γ2 β2 a2 w3 m1 m2 m3 m4=>?_
 obtain⟨g2,st2⟩:=m2.objs f (by rw[show(s1.setOb f none).lkO=s1.lkO from rfl,aj];exact zsa) L g1
 obtain⟨A,C,e3⟩:∃ A,w3.heap[L]?=some (Obj.loop A)/\CM rec A:=by
  rcases st2 with k|⟨r,r',k1,k2,O⟩
  ·exact⟨_,k.trans G,X⟩
  ·rw[G] at k1;cases k1;exact⟨r',k2,O.1.trans X.1,O.2.1.trans X.2.1,O.2.2.1.trans X.2.2.1,O.2.2.2.trans X.2.2.2⟩
 have a4:=(zza.1 C).1;have F2:Fm (EM s m f (args.toList.map s.opA)) S γ ⟨T,[]⟩ w S2 γ2 a2 w3:=(n2.trans (F1.less (s2:=s1) (λ_ h=>h) (λ_ h=>h)) N.lkS N.lkO).trans (s1:=s1) (m2.less (λ_ h=>h) (λ_ h=>h)) N.lkS N.lkO;have fin:∀ (d:Loop) (p:Option Ex) (v:Value) (y:AV),CM A d->Zf p d->(∀ c,AR c y v)->K y (oM s (leaveY s2 f m p) [])=some r->next (a.put dst v) (setBlock w3 L (.loop d)):=by
  intro d p v y Y hd bl hK;have D:CM rec d:=⟨Y.1.trans e3.1,Y.2.1.trans e3.2.1,Y.2.2.1.trans e3.2.2.1,Y.2.2.2.trans e3.2.2.2⟩;have F3:=F2.trans (Fm.setLp m1 (s1:=s2) C Y) (m3.lkS.trans N.lkS) (m3.lkO.trans N.lkO);have M2:=m1.setLp g2 C d;have ai:(setBlock w3 L (.loop d)).heap[L]?=some (.loop d):=gV a4;generalize setBlock w3 L (.loop d)=w4 at F3 M2 ai ⊢;have M3:=M2.leaveY (i:=m) (p:=p) g2 (by
   simp only[gm];refine⟨d,ai,⟨by rw[D.1];exact p1,by rw[D.2.1];exact p2,by rw[D.2.2.1];exact p3,by rw[D.2.2.2];exact p4⟩,λu hu=>?_,hd⟩
   rw[D.1];exact fR.mono (c:=⟨w,S,γ,β,s.ob,s.dead⟩) F3.cell F3.sub F3.gam (H u hu))
  rw[wU] at M3;obtain⟨β'',B1,B2⟩:=Ee h z aB (by rw[z,CA];exact bi) M3 F3.sub F3.cell F3.gam F3.sz
  exact hk y v _ S2 γ2 β'' w4 hK B1 (bl _) ⟨F3.sub,F3.cell,λ_ _=>rfl,λj hj=>F3.objs j (zoa _ hj),F3.sz,F3.gam,mD.same rfl F3.dfs.1⟩ ⟨rfl,rfl,rfl⟩
 cases e with
 | normal=>exact⟨_,_,run_endRound none C,_,rfl,fin _ none _ _ ⟨rfl,rfl,rfl,rfl⟩ ⟨rfl,rfl⟩ (λc=>uj c true) m4⟩
 | ret=>exact⟨_,_,run_endRound (some .ret) C,_,rfl,fin _ (some .ret) _ _ ⟨rfl,rfl,rfl,rfl⟩ ⟨rfl,rfl⟩ (λc=>uj c false) m4⟩
 | exit j=>exact⟨_,_,run_endRound (some (.exit j)) C,_,rfl,fin _ (some (.exit j)) _ _ ⟨rfl,rfl,rfl,rfl⟩ ⟨rfl,rfl⟩ (λc=>uj c false) m4⟩
def Rp.later(h:Rp w0 S γ β s a w):Rp w0 S γ β (CS s) a w:=by
 have q:∀ i,((CS s):St).base+4096<=i->s.base+4096<=i:=λi b=>by exact zIa (Nat.add_le_add_right (zKa 4096 (z1c s.fresh)) 4096) b
 exact⟨h.ext,h.tms,h.nt,h.tmu,h.obs,h.γn,h.γi,λi b=>h.γf i (q i b),h.βn,h.βi,h.βγ,λv c=>h.βf v (q v c),h.Sb,h.So⟩
def Ms{E:Env}{s0:St}{k:Nat->Option Nat}{j:Nat->Option (Nat×Nat)}(h:Rp w0 S γ β s a w){l:List (Nat×Oper)}(c:(l.all λp=>zQ p.2)=true)(hf:∀ o∈l.map Prod.snd,Fr E s0 k j o):∀ o∈l.map Prod.snd,Fr E (CS s) γ β o:=by
 intro o' b hc d i;have g:(CS s).base=s.base+4096:=by simp only[CS,St.base];omega
 rw[g];refine⟨(hf o' b hc d i).1,h.γf _ j1,h.βf _ j1,λT t e=>?_⟩
 obtain⟨p,hp,rfl⟩:=zMa.1 b;have:=zCa.1 c p hp
 simp_all [zQ]
end
end Sy
end
noncomputable section
namespace Sy
open Go
variable{ro:Option Nat}{nn:Nat}
def MR{E:Env}{ops:Array Oper}{N:Nat}{R:Type}{i:Nat}{o:Oper}{l:List (Nat×Oper)}{s:St}{k:St->Option R}{r:R}(V:o.guard=none)(j:tu E s i o l=true){an:Ann}(h:jB E (N+1) R ops an ((i,o)::l) s k=some r) :
  ∃ e L f g Z Y,l=e++(L,f)::g/\iP o=true/\(∀ p∈e,iP p.2=true)/\iP f=true/\seqV E ops (o::(e.map Prod.snd++[f])) s=some Z/\Wk Z Y/\jB E N R ops an g Y k=some r:=by
 simp only[jB,V,j,if_true] at h;simp only[tu,zaa] at j;obtain⟨_,a⟩:=j;obtain⟨O,P⟩:=jM o.dst l;generalize dD o.dst l=sp at *;obtain⟨e,rest⟩:=sp;simp only at h O P a;split at h<;>first|(cases h;done)|skip
 rename_i _ _ L f g d U;simp only[U] at a;simp only[zaa,zfa,zTa,zCa] at a;obtain⟨⟨⟨⟨⟨c1,c2⟩,c3⟩,cI⟩,y⟩,c5⟩:=a;have X:=mh c3;have H:=P _ _ rfl;obtain⟨pc,px,py,G⟩:=s8 H;unfold Pr at h;split at h<;>first|(cases h;done)|skip
 rename_i F;rw[pR E s X] at h;obtain⟨v,h3,Q⟩:=iH h;rw[U] at Q;obtain⟨c,S,h6⟩:=ab Q;rw[ug c1] at S;have hv:=jP S;subst hv;obtain⟨x,T,h8⟩:=ab h6;have I:∀ b,b=c->(s.put (some d) (.d .bool (.bool c))).put (some d) (.d .bool (.bool b))=s.put (some d) (.d .bool (.bool c)):=λb hb=>vL (by rw[ug c1,hb])
 have m:∃ w:St->Option Bool,(∀ s2,w s2=qv E s2 f AV.truth)/\jB E N Bool ops .leaf e (s.put (some d) (.d .bool (.bool c))) w=some x:=by all_goals grind
 obtain⟨w,D,T⟩:=m;obtain⟨s2,M,N2,C,z,q⟩:=Bm N Bool e _ w x e.length .leaf (zia _) (λp hp=>by rw[zOb] at hp;exact⟨mh (y p hp).1.1,(y p hp).2⟩) (.inl λp hp=>by simp at hp) T
 rw[zxd] at q;rw[zOb] at C;have t:w M=some x:=by cases N2<;>simpa [jB] using q
 rw[D] at t;obtain⟨v2,A,B⟩:=iH t;have aj:=jP B;obtain⟨v3,ad,ai⟩:=z.qv A;have J:v3=.d .bool (.bool x):=by all_goals simp_all
 subst J;have K:Wk (s2.put f.dst (.d .bool (.bool x))) ((killD (s.put (some d) (.d .bool (.bool c))) (e.map Prod.snd)).put f.dst (.d .bool (.bool x))):=(lr _ C).put f.dst (.inl rfl);have u:val E ops s o=some (.d .bool (.bool c)):=by unfold val;rw[zka F,V];exact h3
 have W:¬ qd s2 f=true:=by
  have:s2.lkS=s.lkS:=by
   have w1:=(lr _ C).lkS;have w2:∀ (l:List Oper) (s:St),(killD s l).lkS=s.lkS:=by
    intro l
    induction l with
    | nil=>intro s;rfl
    | cons o l ih=>intro s;rw[killD,ih];exact(aci s o.dst .undef).2.2.2.2.1
   rw[<-w1,w2];exact(aci s (some d) _).2.2.2.2.1
  simp_all [qd]
 have n:val E ops s2 f=some (.d .bool (.bool x)):=by
  unfold val
  simp_all
 refine⟨e,L,f,g,_,_,O,X,λp hp=>mh (y p hp).1.1,GD G,?_,K,h8⟩
 simp_all [seqV,u,zba,np,n]
section
variable{P:Program}{E:Env}{w0:Root}{S:Nat->Nat->Prop}{γ:Nat->Option Nat}{β:Nat->Option (Nat×Nat)}{s:St}{a:Act}{w:World}{ops:Array Oper}
def yL{o:Oper}(h:Rp w0 S γ β s a w):(o.guard=none->Region.wanted o (yielded ops a.tmps)=true) ∧
  (∀ j want g c,o.guard=some (j,want)->(ops[j]?).bind (·.dst)=some g->(s.tm g).truth=some c->Region.wanted o (yielded ops a.tmps)=(c==want)) ∧
  ∀ j want g,o.guard=some (j,want)->(ops[j]?).bind (·.dst)=some g->s.tm g=.gone->Region.wanted o (yielded ops a.tmps)=false:=by
 refine⟨λb=>by simp[Region.wanted,b],λj want g c b h1 h2=>?_,λj want g b h1 h2=>?_⟩
 rotate_left
 ·have h3:AR ⟨w,S,γ,β,s.ob,s.dead⟩ (s.tm g) (a.eval (.tmp g)):=aT h (.tmp g);rw[h2] at h3;have d:a.eval (.tmp g)=undef:=h3;simp only[Act.eval] at d;simp only[Region.wanted,b,yielded,h1,zba];by_cases hlt:g<a.tmps.size
  ·have e:a.tmps[g]?=some undef:=by
    simp_all
   rw[e];rfl
  ·simp_all
 obtain⟨h3,_⟩:=pq h2 (aT h (.tmp g));have e:a.tmps[g]?=some (.bool c):=by
  simp only[Act.eval] at h3;by_cases hlt:g<a.tmps.size
  ·simp_all
  ·exfalso;have:s.tm g=.undef:=h.tmu g (by rw[<-h.nt];exact Nat.le_of_not_lt hlt)
   simp_all
 simp_all [Region.wanted,yielded,zba]
def DY(i:EnvOk P E)(h:Rp w0 S γ β s a w){o:Oper}(hf:Fr E s γ β o){v:AV}(hq:val E ops s o=some v) :
  (Region.wanted o (yielded ops a.tmps)=true->eY P o a w λu w'=>∃ S' γ' β',Rp w0 S' γ' β' (s.put o.dst v) (a.put o.dst u) w'/\Fm s S γ a w S' γ' (a.put o.dst u) w'/\(∀ id,o.dst≠some (id-s.base)\/id<s.base->γ' id=γ id/\β' id=β id)) ∧
  (Region.wanted o (yielded ops a.tmps)=false->Rp w0 S γ β (s.put o.dst v) (a.put o.dst undef) w/\Fm s S γ a w S γ (a.put o.dst undef) w):=by
 unfold val at hq;split at hq<;>first|(cases hq;done)|skip
 rename_i f;have b:∀ t∈s.lkS,o.dst≠some t:=λt ht e=>f (by simp[qd,e];exact ht)
 have main:qv E s o some=some v->eY P o a w λu w'=>∃ S' γ' β',Rp w0 S' γ' β' (s.put o.dst v) (a.put o.dst u) w'/\Fm s S γ a w S' γ' (a.put o.dst u) w'/\(∀ id,o.dst≠some (id-s.base)\/id<s.base->γ' id=γ id/\β' id=β id):=by
  intro hq;obtain⟨s',h1,h2⟩:=xw i h hf (λT t _ ht=>i.flat T t ht) b (K:=some) (r:=s.put o.dst v) (by rw[JD,hq];rfl)
  cases h1;exact h2.2.2.2.2.2
 have skip:Rp w0 S γ β (s.put o.dst .gone) (a.put o.dst undef) w/\Fm s S γ a w S γ (a.put o.dst undef) w:=
  ⟨h.put (by simp[AR]) o.dst,λ_ _ d=>d,λ_ _ _=>rfl,λt ht=>co (b t ht),λ_ _ _ d=>⟨d,km.refl _ _⟩,zia _,λ_ _ d=>d,mD.same bS (dw.refl _)⟩
 obtain⟨w1,l,m⟩:=yL (ops:=ops) (o:=o) h;cases hg:o.guard with
 | none=> simp_all
 | some p=>
  obtain⟨j,want⟩:=p;rw[hg] at hq;simp only at hq;obtain⟨g,h1,h2⟩:=ab hq;by_cases hgo:s.tm g=.gone
  ·grind [iC]
  rw[gP hgo] at h2;obtain⟨c,h3,k⟩:=ab h2;all_goals grind
def L9(E:Env)(s:St)(γ:Nat->Option Nat)(β:Nat->Option (Nat×Nat))(l:List Oper):Prop:=∀ o∈l,Fr E s γ β o
def Fr.keep{o o':Oper}{s':St}{γ':Nat->Option Nat}{β':Nat->Option (Nat×Nat)}(h:Fr E s γ β o')(f:∀ d,o'.dst=some d->o.dst≠some d)(b:s'.fresh=s.fresh)
  (c:∀ id,γ id=none->o.dst≠some (id-s.base)\/id<s.base->s'.ob id=s.ob id) (hk:∀ id,o.dst≠some (id-s.base)\/id<s.base->γ' id=γ id/\β' id=β id):Fr E s' γ' β' o':=by
 intro hc d a;obtain⟨h1,h2,h3,e⟩:=h hc d a
 simp_all [St.base,zNb]
structure Sm(s s':St):Prop where
 lkS:s'.lkS=s.lkS
 lkO:s'.lkO=s.lkO
 fresh:s'.fresh=s.fresh
 nt:s'.nt=s.nt
def Sm.sk{s s':St}(h:Sm s s'):Sk s s':=⟨h.lkS,h.lkO,h.nt⟩
def Sm.refl(s:St):Sm s s:=⟨rfl,rfl,rfl,rfl⟩
theorem Sm.trans{a b c:St}(h:Sm a b)(k:Sm b c):Sm a c:=⟨k.lkS.trans h.lkS,k.lkO.trans h.lkO,k.fresh.trans h.fresh,k.nt.trans h.nt⟩
theorem Sm.put(s:St)(d:Option Nat)(v:AV):Sm s (s.put d v):=by obtain⟨f,a,g,b,c,e,h⟩:=aci s d v;exact⟨c,e,a,b⟩
def Sm.wk{s s':St}(h:Wk s s'):Sm s s':=⟨h.lkS,h.lkO,h.fresh,h.nt⟩
theorem Ai(j:EnvOk P E){Q:Exit->Act->World->Prop}:∀ (l b:List Oper) {S:Nat->Nat->Prop} {γ:Nat->Option Nat} {β:Nat->Option (Nat×Nat)} {s:St} {a:Act} {w:World} {s':St},Rp w0 S γ β s a w->L9 E s γ β (l++b)->(∀ (A B:List Oper) o o',l++b=A++o::B->o'∈B->∀ d,o'.dst=some d->o.dst≠some d)->seqV E ops l s=some s' ->
  (∀ S' γ' β' a' w',Rp w0 S' γ' β' s' a' w'->Fm s S γ a w S' γ' a' w'->Sm s s'->L9 E s' γ' β' b->wpListIn (FW ro) nn P ops Q b a' w')->wpListIn (FW ro) nn P ops Q (l++b) a w
 | [],b,S,γ,β,s,a,w,s',h,hf,_,hq,hk=>by simp only[seqV,zda] at hq;subst hq;exact hk S γ β a w h (Fm.refl _ _ _ _ _) (Sm.refl s) (by simpa using hf)
 | o::l,b,S,γ,β,s,a,w,s',h,hf,z,hq,hk=>by
  simp only[seqV] at hq;obtain⟨v,h1,h2⟩:=ab hq;have m:Fr E s γ β o:=hf o j3
  obtain⟨C,D⟩:=DY j h m h1;have k:∀ o'∈l++b,∀ d,o'.dst=some d->o.dst≠some d:=λo' c=>z [] (l++b) o o' rfl c;have g:∀ (A B:List Oper) x i,l++b=A++x::B->i∈B->∀ d,i.dst=some d->x.dst≠some d:=λA B x i e hx=>z (o::A) B x i (by simp[e]) hx
  have p:=aci s o.dst v;have f:∀ {γ':Nat->Option Nat} {β':Nat->Option (Nat×Nat)},(∀ id,o.dst≠some (id-s.base)\/id<s.base->γ' id=γ id/\β' id=β id)->L9 E (s.put o.dst v) γ' β' (l++b):=λhk o' c=> (hf o' (by simp only[zzb,zEa];exact .inr c)).keep (k o' c) p.2.1 (λid _ _=>by rw[p.1]) hk
  simp only[zzb,wpListIn];split
  ·rename_i hw;refine(bC (C hw) λu w' ⟨S',γ',β',m1,m2,m3⟩=>?_);exact Ai j l b m1 (f m3) g h2 λS2 y t a2 r n1 n2 n q=>hk S2 y t a2 r n1 (m2.trans n2 p.2.2.2.2.1 p.2.2.2.2.2.1) ((Sm.put s o.dst v).trans n) q
  ·rename_i hw;obtain⟨m1,m2⟩:=D (by simpa using hw)
   exact⟨λ_ _=>trivial,Ai j l b m1 (f λid _=>⟨rfl,rfl⟩) g h2 λS2 y t a2 r n1 n2 n q=>hk S2 y t a2 r n1 (m2.trans n2 p.2.2.2.2.1 p.2.2.2.2.2.1) ((Sm.put s o.dst v).trans n) q⟩
theorem mH{c:Cx}:∀ (l:List AV) (caps:List Value),l.all ga=true->oz c l caps->l.length=caps.length/\∀ (i:Nat) (x:AV) (v:Value),l[i]?=some x->caps[i]?=some v->AR c x v
 | [],caps,_,h=>by simp_all [oz]
 | y::l,caps,hp,h=>by
  simp only[oz] at h;obtain⟨v0,c2,rfl,h1,h2⟩:=h;simp only[zXb,zaa] at hp;obtain⟨d,f⟩:=mH l c2 hp.2 h2;refine⟨by simp[d],λi x v hx a=>?_⟩
  cases i with
  | zero=>
   simp at hx a;subst hx;subst a;cases y<;>simp only[ga] at hp<;>first|(cases hp.1;done)|skip
   simp only[AC] at h1;obtain⟨b,off,e,h3⟩:=h1;simp only[List.cons.injEq,and_true] at e;grind [AR,AC,Value.cells]
  | succ i=>simp only[zpb] at hx a;exact f i x v hx a
def PM(hE:EnvOk P E)(h:Rp w0 S γ β s a w){o:Oper}{c:Call}(hop:o.op=.call c)(hlk:∀ t∈s.lkS,o.dst≠some t){R:Type}{K:St->Option R}{r:R}{an:Ann}
  (hev:((rN s c).bind λq=>(E.inl q.1).bind λg=>g an R s q.2 λv s'=>K (s'.put o.dst v))=some r) :
  eY P o a w λu w'=>∃ s' S' γ' β',K s'=some r/\Rp w0 S' γ' β' s' (a.put o.dst u) w'/\Fm s S γ a w S' γ' (a.put o.dst u) w'/\Sk s s':=by
 obtain⟨⟨f,avs⟩,h1,hev1⟩:=ab hev;clear hev;obtain⟨g,h2,hev2⟩:=ab hev1;clear hev1;simp only at h2 hev2;obtain⟨⟨fn,f1,f2,f3⟩,hI⟩:=hE.inl f g h2;have key:∃ vs:List Value,avs.length=vs.length/\(∀ (i:Nat) (x:AV) (v:Value),avs[i]?=some x->vs[i]?=some v->AR ⟨w,S,γ,β,s.ob,s.dead⟩ x v)/\(execOp a.eval o).run P w=.ok (.enter f vs.toArray) w:=by
  clear hev2 hI h2;have hb:¬ fn.body=none:=h7
  have f2' : ¬ fn.name = "runtime.NumGoroutine" := by simpa using f2
  obtain⟨dst,op,ty,pos,after,guard⟩:=o;simp only at hop;subst hop;obtain⟨callee,args,argTypes⟩:=c;simp only[rN] at h1;split at h1<;>first|(cases h1;done)|skip
  ·rename_i f';simp only[zda,Prod.mk.injEq] at h1;obtain⟨rfl,rfl⟩:=h1;refine⟨args.toList.map a.eval,j3,lJ h _,?_⟩
   have hm:args.map a.eval=(args.toList.map a.eval).toArray:=zpc j3
   simp[execOp,resolve,Act.eval,Deferred.ofValue,invoke,callFunc,f1,f2',hb,hm]
  ·rename_i t;split at h1<;>first|(cases h1;done)|skip
   rename_i f' l ht;split at h1<;>first|(cases h1;done)|skip
   rename_i hp;simp only[zda,Prod.mk.injEq] at h1;obtain⟨rfl,rfl⟩:=h1;have hA:=aT h (.tmp t);have hA':AR ⟨w,S,γ,β,s.ob,s.dead⟩ (.clo f' l) (a.eval (.tmp t)):=by rw[<-ht];exact hA
   simp only[AR,AC] at hA';obtain⟨na,caps,hcs,hcap⟩:=hA';have hv:=ar na hcs;obtain⟨k1,k2⟩:=mH l caps hp hcap;refine⟨args.toList.map a.eval++caps,by simp[k1],λi x v hx hv'=>?_,?_⟩
   ·rcases zxa i (args.toList.map s.opA).length with hi|hi
    ·rw[zvb hi] at hx;rw[zvb (by simpa using hi)] at hv'
     exact lJ h _ i x v hx hv'
    ·grind
   ·have hm:args.map a.eval=(args.toList.map a.eval).toArray:=zpc j3
    simp[execOp,resolve,hv,Deferred.ofValue,invoke,callFunc,f1,f2',hb,hm]
 obtain⟨vs,k1,k2,k3⟩:=key;have hc:=hI an R w0 S γ β s a w avs vs _ r h k1 k2 hev2;unfold eY;rw[k3];refine hc.mono λe w' ⟨v,y,s',S',γ',β',e1,e2,e3,e4,e5,e6⟩=>⟨v,e1,s'.put o.dst y,S',γ',β',e2,e3.put e4 o.dst,⟨e5.sub,e5.cell,λt ht=>co (hlk t ht),e5.objs,e5.sz,e5.gam,mD.same bS e5.dfs.1⟩,?_⟩;have p:=aci s' o.dst y;exact⟨p.2.2.2.2.1.trans e6.lkS,p.2.2.2.2.2.1.trans e6.lkO,p.2.2.2.1.trans e6.nt⟩
def IB(f:EnvOk P E)(h:Rp w0 S γ β s a w){o:Oper}(d:∀ t∈s.lkS,o.dst≠some t){R:Type}{K:St->Option R}{r:R}{an:Ann}
  (b:Tp E an s o (λv s'=>K (s'.put o.dst v))=some r) {next:Act->World->Prop} {Q:Exit->Act->World->Prop}
  (hk:∀ u s' S' γ' β' w',K s'=some r->Rp w0 S' γ' β' s' (a.put o.dst u) w'->Fm s S γ a w S' γ' (a.put o.dst u) w'->Sk s s'->next (a.put o.dst u) w'):o.wpIn (FW ro) nn P a w next Q:=by
 unfold Tp at b;split at b<;>first|(cases b;done)|skip
 rename_i c e;split at b
 ·rename_i q hy;obtain⟨id,i,g⟩:=q;refine Kn f h e hy b λy v s' S' γ' β' w' m0 m1 m2 m3 m4=>?_;have p:=aci s' o.dst y;exact hk v _ S' γ' β' w' m0 (m1.put m2 o.dst) ⟨m3.sub,m3.cell,λt ht=>co (d t ht),m3.objs,m3.sz,m3.gam,mD.same bS m3.dfs.1⟩ ⟨p.2.2.2.2.1.trans m4.lkS,p.2.2.2.2.2.1.trans m4.lkO,p.2.2.2.1.trans m4.nt⟩
 ·refine bC (PM f h e d b) λu w' ⟨s',S',γ',β',m0,m1,m2,m3⟩=>?_;grind
def zk(V:EnvOk P E){Q:Exit->Act->World->Prop}(ad:(ops.toList.all λo=>match o.op with|.store ..=>o.dst.isNone|_=>true)=true):∀ (N:Nat) (R:Type) (l:List (Nat×Oper)) {S:Nat->Nat->Prop} {γ:Nat->Option Nat} {β:Nat->Option (Nat×Nat)} {s:St} {a:Act} {w:World} (k:St->Option R) (r:R) (an:Ann),
  Rp w0 S γ β s a w->L9 E s γ β (l.map Prod.snd)->(∀ (A B:List Oper) o o',l.map Prod.snd=A++o::B->o'∈B->∀ d,o'.dst=some d->o.dst≠some d)->(∀ p∈l,p.2∈ops.toList)->jB E N R ops an l s k=some r ->
  (∀ s' S' γ' β' a' w',Rp w0 S' γ' β' s' a' w'->Fm s S γ a w S' γ' a' w'->Sk s s'->k s'=some r->Q .normal a' w')->wpListIn (FW ro) nn P ops Q (l.map Prod.snd) a w:=by
 intro N
 induction N with
 | zero=>intro R l S γ β s a w k r an _ _ _ _ h;simp[jB] at h
 | succ N ih=>
  intro R l S γ β s a w k r an h hf X C b M;cases l with
  | nil=> simp only[jB] at b;exact M s S γ β a w h (Fm.refl _ _ _ _ _) (Sk.refl s) b
  | cons p l=>
   obtain⟨i,o⟩:=p;have al:Fr E s γ β o:=hf o j3
   have aB:∀ T x y,o.op=.store T x y->o.dst=none:=λT x y e=>by
    have:=zCa.1 ad o (C (i,o) j3)
    rw[e] at this;simpa using this
   have Y:∀ o'∈l.map Prod.snd,∀ d,o'.dst=some d->o.dst≠some d:=λo' f=>X [] (l.map Prod.snd) o o' rfl f;have D:∀ (A B:List Oper) x U,l.map Prod.snd=A++x::B->U∈B->∀ d,U.dst=some d->x.dst≠some d:=λA B x U e hx=>X (o::A) B x U (by simp[e]) hx
   have m:∀ p∈l,p.2∈ops.toList:=λp hp=>C p (by simp[hp])
   have run:¬ qd s o=true->IC E an l s o (λs'=>jB E N R ops (BY E o an) l s' k)=some r->o.wpIn (FW ro) nn P a w (wpListIn (FW ro) nn P ops Q (l.map Prod.snd)) Q:=by
    intro q he;have n:∀ t∈s.lkS,o.dst≠some t:=λt ht e=>q (by simp[qd,e];exact ht)
    unfold IC at he;split at he
    ·split at he;rename_i aj;refine IB (K:=λs1=>jB E N R ops (BY E o an) l s1 k) V h n he λu s' S' γ' β' w' m0 m1 m2 m3=>?_;have ai:L9 E s' γ' β' (l.map Prod.snd):=λo' f=>by
      obtain⟨p,hp,rfl⟩:=zMa.1 f;have:=zCa.1 aj p hp;exact Md (by simpa using this)
     exact ih R l k r _ m1 ai D m m0 λs2 S2 I H a2 G n1 n2 z F=>M s2 S2 I H a2 G n1 (m2.trans n2 m3.lkS m3.lkO) (m3.trans z) F;split at he<;>first|(cases he;done)|skip
     rename_i ax;refine IB (K:=λs1=>jB E N R ops (BY E o an) l (CS s1) k) V h n he λu s' S' γ' β' w' m0 m1 m2 m3=>?_;exact ih R l k r _ m1.later (Ms m1 ax λo' f=>hf o' (by simp only[zab,zEa];exact .inr f)) D m m0 λs2 S2 I H a2 G n1 n2 z F=>M s2 S2 I H a2 G n1 (m2.trans n2 m3.lkS m3.lkO) (m3.trans ⟨z.lkS,z.lkO,z.nt⟩) F
    obtain⟨s',h1,h2⟩:=IA V h al (λT t _ ht=>V.flat T t ht) n aB he;obtain⟨f1,f2,f3,f4,f5,f6⟩:=h2;refine bC f6 λu w' ⟨S',γ',β',m1,m2,m3⟩=>?_;exact ih R l k r _ m1 (λo' f=>(hf o' (by simp only[zab,zEa];exact .inr f)).keep (Y o' f) f3 f5 m3) D m h1 λs2 S2 I H a2 G n1 n2 z F=>M s2 S2 I H a2 G n1 (m2.trans n2 f1 f2) (Sk.trans ⟨f1,f2,f4⟩ z) F
   obtain⟨w1,G,w3⟩:=yL (ops:=ops) (o:=o) h;cases hg:o.guard with
   | some jw=>
    obtain⟨j,want⟩:=jw;simp only[jB,hg] at b;split at b<;>first|(cases b;done)|skip
    rename_i g aI;split at b<;>first|(cases b;done)|skip
    rename_i q;have n:∀ t∈s.lkS,o.dst≠some t:=λt ht e=>q (by simp[qd,e];exact ht)
    have p:=aci s o.dst .gone;have alt:(Region.wanted o (yielded ops a.tmps)=true/\(IC E an l s o λs'=>jB E N R ops (BY E o an) l s' k)=some r)\/(Region.wanted o (yielded ops a.tmps)=false/\jB E N R ops (BY E o an) l (s.put o.dst .gone) k=some r):=by
     by_cases hgo:s.tm g=.gone
     ·grind [iC]
     rw[gP hgo] at b;obtain⟨c,h1,h2⟩:=ab b;replace h2:=sY (A:=λs=>IC E an l s o λs'=>jB E N R ops (BY E o an) l s' k) (B:=λs=>jB E N R ops (BY E o an) l (s.put o.dst .gone) k) h1 h2;all_goals grind
    rcases alt with⟨hw,h2⟩|⟨hw,h2⟩
    ·simp only[zab,wpListIn,hw,if_true];exact run q h2
    ·simp only[zab,wpListIn,hw,zDa,if_false];refine⟨λ_ _=>trivial,?_⟩;exact ih R l k r _ (h.put (v:=.gone) (val:=undef) (by simp[AR]) o.dst) (λo' f=>(hf o' (by simp only[zab,zEa];exact .inr f)).keep (Y o' f) p.2.1 (λid _ _=>by rw[p.1]) λid _=>⟨rfl,rfl⟩) D m h2 λs2 S2 I H a2 G n1 n2 z F=>M s2 S2 I H a2 G n1 (Fm.trans (s1:=s.put o.dst .gone) ⟨λ_ _ W=>W,λ_ _ _=>rfl,λt ht=>co (n t ht),λ_ _ _ W=>⟨W,km.refl _ _⟩,zia _,λ_ _ W=>W,mD.same bS (dw.refl _)⟩ n2 p.2.2.2.2.1 p.2.2.2.2.2.1) ((Sm.put s o.dst .gone).sk.trans z) F
   | none=>
    by_cases hgu:tu E s i o l=true
    ·obtain⟨L,jj,pk,J,s5,s3,e1,q1,q2,q3,q4,O,q6⟩:=MR hg hgu b;subst e1;have el:((i,o)::(L++(jj,pk)::J)).map Prod.snd=(o::(L.map Prod.snd++[pk]))++J.map Prod.snd:=j3
     rw[el] at hf X ⊢;refine Ai V _ _ h hf X q4 λS2 I H a2 G n1 n2 z F=>?_;refine ih R J k r an (n1.wk O) (λo' f=>?_) (λA B x U e hx=>X ((o::(L.map Prod.snd++[pk]))++A) B x U (by rw[e];simp) hx) (λp hp=>C p (by simp[hp])) q6 λs2 S3 γ3 β3 a3 w3 m1 m2 m3 m4=>M s2 S3 γ3 β3 a3 w3 m1 (n2.trans m2 (O.lkS.trans z.lkS) (O.lkO.trans z.lkO)) ((z.trans (Sm.wk O)).sk.trans m3) m4
     have:=F o' f;intro hc d ak;obtain⟨r1,r2,r3,r4⟩:=this hc d ak;rw[O.base_eq,O.ob];exact⟨r1,r2,r3,r4⟩
    ·have Z:tu E s i o l=false:=by simpa using hgu
     simp only[jB,hg,Z,zDa,if_false] at b;split at b<;>first|(cases b;done)|skip
     rename_i q;simp only[zab,wpListIn,w1 hg,if_true];exact run q b
end
end Sy
end
noncomputable section
namespace Sy
open Go
def ud{s:St}{d:Option Nat}{v:AV}{x:Operand}(h:∀ t,d=some t->x≠.tmp t):(s.put d v).opA x=s.opA x:=by
 cases x with
 | tmp t=>
  cases d with
  | none=>rfl
  | some d=>
   have a:t≠d:=λe=>h d rfl (by rw[e])
   all_goals grind [St.opA,St.put]
 | const v=>rfl
 | global g=>rfl
 | func f=>rfl
section
variable{E:Env}{s s':St}
theorem me(a:s'.ob=s.ob)(ty:Nat->Option Ty):∀ (l:List (Nat×Operand)),(∀ p∈l,s'.opA p.2=s.opA p.2)->partsD s'.ob s' ty l=partsD s.ob s ty l
 | [],_=>rfl
 | (i,x)::l,h=>by
  have ih:=me a ty l (λp hp=>h p (by simp[hp]))
  simp_all [partsD,ih]
theorem pT(a:List Ty):∀ (l:List (Nat×Operand)),(∀ p∈l,s'.opA p.2=s.opA p.2)->l.all (gr s' a)=l.all (gr s a)
 | [],_=>rfl
 | p::l,h=>by simp only[zXb,pT a l (λq hq=>h q (by simp[hq])),gr,h p j3]
def Di:∀ (l:List (Nat×Operand)),(∀ p∈l,s'.opA p.2=s.opA p.2)->(l.map λp=>(p.1,s'.opA p.2))=l.map λp=>(p.1,s.opA p.2):=λl h=> zOc λp hp=>by rw[h p hp]
def vN{o:Oper}(a:s'.ob=s.ob)(hf:s'.fresh=s.fresh)(h:∀ x∈o.op.operands,s'.opA x=s.opA x):qv E s' o some=qv E s o some:=by
 have k:s'.base=s.base:=by simp only[St.base,hf]
 obtain⟨dst,op,ty,pos,after,guard⟩:=o;have parts:∀ ps:Array (Nat×Operand),(∀ x∈(ps.toList.map Prod.snd).toArray,s'.opA x=s.opA x)->∀ p∈ps.toList,s'.opA p.2=s.opA p.2:=λps hp p hm=>hp p.2 (by rw[List.mem_toArray];exact zec hm)
 cases op
 case move x=>simp only[qv,h x (by simp[Op.operands])]
 case assign x=>simp only[qv,h x (by simp[Op.operands])]
 case pick c x y=>simp only[qv,h c (by simp[Op.operands]),h x (by simp[Op.operands]),h y (by simp[Op.operands])]
 case alloc T=>simp only[qv,k]
 case build T ps=> have hp:=parts ps h;simp only[qv,me a _ _ hp,pT _ _ hp,Di _ hp]
 case buildSlice T n ps=> have hp:=parts ps h;simp only[qv,me a _ _ hp,k]
 case load T x=>simp only[qv,h x (by simp[Op.operands]),a]
 case lookup T x i c=>simp only[qv,h x (by simp[Op.operands]),h i (by simp[Op.operands]),a]
 case nilCheck x=>simp only[qv,h x (by simp[Op.operands])]
 case binOp op T x y T'=>simp only[qv,h x (by simp[Op.operands]),h y (by simp[Op.operands])]
 case unOp op T x=>simp only[qv,h x (by simp[Op.operands])]
 case convert U T x=>simp only[qv,h x (by simp[Op.operands])]
 case makeFunc fn x y=>
  have hy:∀ z∈y.toList,s'.opA z=s.opA z:=λz l=>h z (by simp only[Op.operands,Array.mem_append];exact .inr (by simpa using l))
  have u:(y.toList.all λz=>ga (s'.opA z))=y.toList.all λz=>ga (s.opA z):=by grind
  have e:y.toList.map s'.opA=y.toList.map s.opA:=zOc hy;simp only[qv,u,e]
 case slice T x lo hi mx=>
  have d:=h x (by simp[Op.operands])
  cases mx with
  | some m=>simp only[qv]
  | none=>
   cases lo with
   | none=>
    cases hi with
    | none=>simp only[qv,d,a]
    | some j=>simp only[qv,d,a,h j (by simp[Op.operands])]
   | some i=>
    cases hi with
    | none=>simp only[qv,d,a,h i (by simp[Op.operands])]
    | some j=>simp only[qv,d,a,h i (by simp[Op.operands]),h j (by simp[Op.operands])]
 case sliceToArrayPointer T x=>simp only[qv,h x (by simp[Op.operands]),a]
 case fieldAddr T x f=>simp only[qv,h x (by simp[Op.operands])]
 case field T x f=>simp only[qv,h x (by simp[Op.operands])]
 case indexAddr T x i=>simp only[qv,h x (by simp[Op.operands]),h i (by simp[Op.operands]),a]
 case index T x i=>simp only[qv,h x (by simp[Op.operands]),h i (by simp[Op.operands])]
 case extract x i=>simp only[qv,h x (by simp[Op.operands])]
 case call c=>
  obtain⟨callee,args,argTypes⟩:=c;have q:∀ z∈args.toList,s'.opA z=s.opA z:=λz l=>h z (by simp only[Op.operands,Call.operands,Array.mem_append];exact .inr (by simpa using l))
  have e:args.toList.map s'.opA=args.toList.map s.opA:=zOc q;cases callee with
  | invoke r m=>rfl
  | value f=>
   cases f with
   | tmp t=>
    have w:s'.tm t=s.tm t:=h (.tmp t) (by simp[Op.operands,Call.operands])
    simp only[qv,e,w,a]
   | func f=>simp only[qv,e,a,k]
   | const v=>rfl
   | global g=>rfl
  | builtin b=>
   cases b<;>first|rfl|skip
   case len=>
    simp only[qv];cases hT:argTypes[0]? with
    | none=>rfl
    | some T=>
     cases hx:args[0]? with
     | none=>rfl
     | some x=> have:=q x (zad.2 (z8c hx));simp only[zba,a];all_goals grind
   case min=> simp only[qv];all_goals grind
   case max=> simp only[qv];all_goals grind
 all_goals rfl
def z8{s:St}{d:Option Nat}{v:AV}{t:Nat}(h:d≠some t):(s.put d v).tm t=s.tm t:=by
 have:=ud (s:=s) (d:=d) (v:=v) (x:=.tmp t) (λu hu e=>h (by cases e;exact hu))
 exact this
def Fx{ops:Array Oper}{o:Oper}{d:Option Nat}{v:AV}(h:∀ t,d=some t->t ∉ o.looksAt ops):val E ops (s.put d v) o=val E ops s o:=by
 obtain⟨c,f,l,m,i,n,q⟩:=aci s d v;have a:qd (s.put d v) o=qd s o:=by simp only[qd,i]
 have b:qv E (s.put d v) o some=qv E s o some:=vN c f λx hx=>ud λt ht e=>h t ht (by subst e;exact List.mem_append_left _ (zUc.2 ⟨.tmp t,by simpa using hx,rfl⟩))
 unfold val;rw[a,b];cases hg:o.guard with
 | none=>rfl
 | some p=>
  obtain⟨j,want⟩:=p;simp only;cases hgd:(ops[j]?).bind (·.dst) with
  | none=>rfl
  | some g=>
   have k:(s.put d v).tm g=s.tm g:=z8 λe=>h g e (by unfold Oper.looksAt;rw[hg];exact zJa _ (by simp[hgd]))
   simp_all
def B8{s:St}{x y:Option Nat}(v u:AV)(h:∀ d,x=some d->y≠some d):(s.put x v).put y u=(s.put y u).put x v:=by
 cases x with
 | none=>rfl
 | some d=>
  cases y with
  | none=>rfl
  | some e=>
   have a:d≠e:=λhe=>h d rfl (he ▸ rfl);by_cases h1:d<s.nt
   ·by_cases h2:e<s.nt
    ·simp only[St.put,h1,h2,if_true];all_goals grind
    ·grind [St.put]
   ·grind [St.put]
end
variable{ro:Option Nat}{nn:Nat}
section
variable{E:Env}{ops:Array Oper}{md:Region.Mode}
def Cs(E:Env)(ops:Array Oper)(i:Nat)(K:St->Prop)(s:St):Prop:=
 match ops[i]? with
 | none=>K s
 | some o=>∃ v,val E ops s o=some v/\K (s.put o.dst v)
def II(E:Env)(md:Region.Mode)(ops:Array Oper)(n:Nat)(L:Array Bool->St->Prop):Nat->Array Bool->St->Prop
 | 0,listed,s=>L listed s
 | f+1,listed,s=>Region.ready md ops listed≠[]/\∀ i∈Region.ready md ops listed,i<n/\Cs E ops i (II E md ops n L f (listed.setIfInBounds i true)) s
def xa(md:Region.Mode)(ops:Array Oper)(n:Nat):Prop:=∀ listed i,HeadInv md ops n listed->i<n->listed.getD i true=false->∀ t,n<=t->t ∉ Region.ready md ops listed
def Db{n i:Nat}{w:Oper}{v:AV}{L:Array Bool->St->Prop}(I:ops[i]?=some w)(A:xa md ops n)(p:i<n)
  (l:∀ listed s,L listed s->∀ j∈Region.ready md ops listed,n<=j) :
  ∀ (f:Nat) (listed:Array Bool) (s:St),HeadInv md ops n listed ->
   (∀ j o,j<n->ops[j]?=some o->j≠i->listed.getD j true=false->(∀ e∈o.after,Region.binds md e=true->e.on≠i)->w.apart ops o=true) ->
   i∈Region.ready md ops listed->val E ops s w=some v ->
   II E md ops n L f (listed.setIfInBounds i true) (s.put w.dst v)->II E md ops n L (f+1) listed s:=by
 intro f
 induction f with
 | zero=>
  intro listed s inv _ g hy H;have c:=(mem_ready.1 g).1;refine⟨λh=>(by rw[h] at g;cases g),λj m=>?_⟩
  have b:j<n:=by
   rcases zxa j n with h|h
   ·exact h
   ·exact z3a m (A _ _ inv p c j h)
  refine⟨b,?_⟩;by_cases hji:j=i
  ·simp_all [Cs]
  ·have:=l _ _ H j (ready_mono m hji);omega
 | succ f ih=>
  intro listed s inv a g hy H;have c:=(mem_ready.1 g).1;refine⟨λh=>(by rw[h] at g;cases g),λj m=>?_⟩
  have b:j<n:=by
   rcases zxa j n with h|h
   ·exact h
   ·exact z3a m (A _ _ inv p c j h)
  refine⟨b,?_⟩;by_cases hji:j=i
  ·simp_all [Cs]
  ·have h1:=(H.2 j (ready_mono m hji)).2;obtain⟨q,o,t,B⟩:=mem_ready.1 m;have r:∀ e∈o.after,Region.binds md e=true->e.on≠i:=λe he G heq=>by
    grind
   obtain⟨a1,a2,a3⟩:=Oper.apart_spec (a j o b t hji q r);unfold Cs at h1 ⊢;rw[t] at h1 ⊢;obtain⟨u,C,F⟩:=h1;rw[Fx a1] at C;refine⟨u,C,ih (listed.setIfInBounds j true) (s.put o.dst u) (inv.set m b) (λk ok y hk x c z=>?_) (ready_mono g (Ne.symm hji)) ?_ ?_⟩
   ·refine a k ok y hk x ?_ z;by_cases hjk:j=k
    ·simp_all
    ·simp_all
   ·rw[Fx a3];exact hy
   ·rw[Array.setIfInBounds_comm _ _ hji,B8 u v (λd D he=>a2 d he D)];exact F
theorem Bv{n g:Nat}{Lq:St->Prop}(f:xa md ops n) :
  ∀ (l:List Oper) (k:Nat) (listed:Array Bool) (s s':St),(∀ j,j<l.length->l[j]?=ops[k+j]?)->k+l.length=n->HeadInv md ops n listed ->
  Region.lexHead md ops g l.length k listed=true->seqV E ops l s=some s'->Lq s' ->
  II E md ops n (λa s'=>Region.seqB md ops g n a=true/\Lq s') l.length listed s
 | [],k,listed,s,s',_,hk,_,d,h,hL=>by
  have:k=n:=by simpa using hk
  subst this;simp only[seqV,zda] at h;subst h;exact⟨by simpa [Region.lexHead] using d,hL⟩
 | o::l,k,listed,s,s',hl,hk,inv,d,h,hL=>by
  have h0:ops[k]?=some o:=by simpa using(hl 0 j3).symm
  simp only[zQa,Region.lexHead,zaa] at d;obtain⟨⟨i,hf⟩,e⟩:=d;have b:k<n:=h7
  have c:k∈Region.ready md ops listed:=by simpa using i
  simp only[seqV] at h;obtain⟨v,h1,h2⟩:=ab h;exact Db h0 f b (λa s' hL=>seqB_ready hL.1) l.length listed s inv (λj m _=>Region.free_spec h0 hf j m) c h1
   (Bv f l (k+1) _ _ s' (λj p=>by have:=hl (j+1) (by simp;omega);simpa [zVb,zSc 1 j] using this) (by simp only[zQa] at hk;omega) (inv.set c b) e h2 hL)
end
section
variable{P:Program}{E:Env}{w0:Root}{ops:Array Oper}
theorem kG(t:EnvOk P E){md:Region.Mode}{n g:Nat}{L:Array Bool->St->Prop}{Q:Exit->Act->World->Prop}{s0:St}{S0:Nat->Nat->Prop}{γ0:Nat->Option Nat}{a0:Act}{w1:World}
  (x:∀ (i j:Nat) (D b:Oper),i≠j->ops[i]?=some D->ops[j]?=some b->∀ d,b.dst=some d->D.dst≠some d)
  (hL:∀ listed s S γ β a w,Rp w0 S γ β s a w->Fm s0 S0 γ0 a0 w1 S γ a w->Sm s0 s->(∀ j b,ops[j]?=some b->listed.getD j true=false->Fr E s γ β b)->L listed s->wpAnyIn (FW ro) nn P md ops Q g listed a w) :
  ∀ (f:Nat) (listed:Array Bool) (s:St) (S:Nat->Nat->Prop) (γ:Nat->Option Nat) (β:Nat->Option (Nat×Nat)) (a:Act) (w:World),Rp w0 S γ β s a w->Fm s0 S0 γ0 a0 w1 S γ a w->Sm s0 s ->
   (∀ j b,ops[j]?=some b->listed.getD j true=false->Fr E s γ β b)->II E md ops n L f listed s->wpAnyIn (FW ro) nn P md ops Q (f+g) listed a w
 | 0,listed,s,S,γ,β,a,w,h,hF,k,c,r=>by rw[zcb];exact hL _ _ _ _ _ _ _ h hF k c r
 | f+1,listed,s,S,γ,β,a,w,h,hF,k,c,r=>by
  rw[show f+1+g=(f+g)+1 by omega]
  refine⟨λh0=>z3a h0 r.1,λi z=>?_⟩;obtain⟨_,e⟩:=r.2 i z;have B:=(mem_ready.1 z).1;unfold Cs at e;unfold wpOpIn;cases ho:ops[i]? with
  | none=> obtain⟨_,o,q,_⟩:=mem_ready.1 z;rw[ho] at q;cases q
  | some o=>
   rw[ho] at e;simp only at e ⊢;obtain⟨v,h1,h2⟩:=e;obtain⟨F,G⟩:=DY t h (c i o ho B) h1;have p:=aci s o.dst v;have l:∀ {γ':Nat->Option Nat} {β':Nat->Option (Nat×Nat)},(∀ id,o.dst≠some (id-s.base)\/id<s.base->γ' id=γ id/\β' id=β id)->∀ j b,ops[j]?=some b->(listed.setIfInBounds i true).getD j true=false->Fr E (s.put o.dst v) γ' β' b:=λhk j b C hu=>by
    by_cases hij:i=j
    ·subst hij;exfalso;rcases zxa i listed.size with A|m
     ·simp[Array.getD,A] at hu
     ·simp[Array.getD,m,zCc.2 m] at hu
    ·rw[getD_set_ne true hij] at hu;exact(c j b C hu).keep (λd y=>x i j o b hij ho C d y) p.2.1 (λid _ _=>by rw[p.1]) hk
   split
   ·rename_i hw;refine(bC (F hw) λu w' ⟨S',γ',β',m1,m2,m3⟩=>?_);exact kG t x hL f _ _ S' γ' β' _ _ m1 (hF.trans m2 k.lkS k.lkO) (k.trans (Sm.put s o.dst v)) (l m3) h2
   ·rename_i hw;obtain⟨m1,m2⟩:=G (by simpa using hw)
    refine⟨λ_ _=>trivial,?_⟩;exact kG t x hL f _ _ S γ β _ _ m1 (hF.trans m2 k.lkS k.lkO) (k.trans (Sm.put s o.dst v)) (l λid _=>⟨rfl,rfl⟩) h2
theorem vD:∀ {l:List Nat},dC l=true->∀ A B x y,l=A++x::B->y∈B->y≠x
 | [],_,A,B,x,y,e,_=>by simp at e
 | a::l,h,A,B,x,y,e,hy=>by
  simp only[dC,zaa,zTa] at h;cases A with
  | nil=> grind
  | cons a' A=> simp only[zzb,List.cons.injEq] at e;exact vD h.2 A B x y e.2 hy
def fU{l:List Oper}(h:dC (l.filterMap (·.dst))=true)(A B:List Oper)(o o':Oper)(e:l=A++o::B)(c:o'∈B)(d:Nat)(b:o'.dst=some d):o.dst≠some d:=by
 intro f;subst e;have a:(A++o::B).filterMap (·.dst)=A.filterMap (·.dst)++d::B.filterMap (·.dst):=by simp_all
 exact vD h _ _ d d a (zUc.2 ⟨o',c,b⟩) rfl
def sR{l:List Oper}(h:dC (l.filterMap (·.dst))=true){i j:Nat}{a b:Oper}(n:i≠j)(g:l[i]?=some a)(o:l[j]?=some b)(d:Nat)(e:b.dst=some d):a.dst≠some d:=by
 obtain⟨k,m⟩:=zqa.1 g;obtain⟨p,q⟩:=zqa.1 o;rcases zxa i j with r|f
 ·refine fU h (l.take i) (l.drop (i+1)) a b ?_ ?_ d e
  ·grind [List.drop_eq_getElem_cons,List.take_append_drop]
  ·refine zbb (i:=j-(i+1)) ?_;grind
 ·intro c;refine fU h (l.take j) (l.drop (j+1)) b a ?_ ?_ d c e
  ·grind [List.drop_eq_getElem_cons,List.take_append_drop]
  ·refine zbb (i:=i-(j+1)) ?_;grind
theorem bG:∀ (l:List Oper) (i:Nat),(bK i l).map Prod.snd=l
 | [],_=>rfl
 | o::l,i=>by simp only[bK,zab,bG l (i+1)]
def mc{l:List Oper}{i:Nat}{p:Nat×Oper}(h:p∈bK i l):p.2∈l:=by
 have:p.2∈(bK i l).map Prod.snd:=zec h
 rwa [bG] at this
theorem kC:∀ (l:List Oper) (i:Nat),(bK i l).length=l.length
 | [],_=>rfl
 | o::l,i=>by simp only[bK,zQa,kC l (i+1)]
def GL(U:EnvOk P E){id:Nat}{dr:Bool}{n:Nat}{Q:Exit->Act->World->Prop}{S:Nat->Nat->Prop}{γ:Nat->Option Nat}{β:Nat->Option (Nat×Nat)}{s:St}{a:Act}{w:World}{R:Type}{k:St->Option R}{r:R}{N:Nat}
  (h:Rp w0 S γ β s a w) (hf:L9 E s γ β ops.toList) (hm:dZ ops.toList=true) (m:(!dr||rG E ops n)=true) {an:Ann} (J:jB E N R ops an (bK 0 ops.toList) s k=some r)
  (hQ:∀ s' S' γ' β' a' w',Rp w0 S' γ' β' s' a' w'->Fm s S γ a w S' γ' a' w'->Sk s s'->k s'=some r->Q .normal a' w'):(Code.region id ops dr).wpIn (FW ro) nn P Q a w:=by
 simp only[dZ,zaa] at hm;obtain⟨⟨z,ax⟩,ad⟩:=hm;have f:(ops.toList.all λo=>match o.op with|.store ..=>o.dst.isNone|_=>true)=true:=ad
 cases dr with
 | false=>
  refine wpIn_region_list ?_;have:=zk (ro:=ro) (nn:=nn) (ops:=ops) U f N R (bK 0 ops.toList) k r an h (by rw[bG];exact hf) (by rw[bG];exact λA B o o' e C d v=>fU z A B o o' e C d v) (λp hp=>mc hp) J hQ
  rwa [bG] at this
 | true=>
  simp only[zlc,Bool.false_or,rG,zaa] at m;obtain⟨⟨⟨⟨⟨d0,d1⟩,d2⟩,d3⟩,d4⟩,d5⟩:=m;have hn:n<=ops.size:=by
   simp only[z9b,zfa,zaa] at d3;rcases d3 with d3|d3
   ·omega
   ·omega
  have hW:xa .any ops n:=by
   intro listed i inv Z aj t ht hr;simp only[z9b,zfa,zaa] at d3;rcases d3 with d3|⟨⟨d3,d6⟩,d7⟩
   ·obtain⟨_,o,C,_⟩:=mem_ready.1 hr;have:=(zza.1 C).1;omega
   ·exact tail_waits d6 d7 d3 inv _ i rfl Z aj t ht hr
  obtain⟨s',ak,N',q1,G,q3⟩:=Bm N R (bK 0 ops.toList) s k r n an (by rw[kC,zRb];exact hn) (λp hp=>by
    have q:p.2∈ops.toList.take n:=by
     have:p.2∈((bK 0 ops.toList).take n).map Prod.snd:=zec hp
     rwa [List.map_take,bG] at this
    exact⟨zCa.1 d4 _ q,by simpa using zCa.1 d0 _ q⟩) (.inl λp hp c x y e=>by
    have q:p.2∈ops.toList.drop n:=by
     have:p.2∈((bK 0 ops.toList).drop n).map Prod.snd:=zec hp
     rwa [zEc,bG] at this
    have:=zCa.1 d5 _ q;simp only[zaa] at this;have h2:=this.2;rw[e] at h2;cases h2) J
  rw[List.map_take,bG] at q1;refine wpIn_region_any U.mixed ?_;have W:∃ os d,w.drawn<=d/\({ w with drawn:=w.drawn+1 }:World)=grown w os d:=⟨[],w.drawn+1,z1c _,by simp[grown]⟩
  obtain⟨os,d,m,W⟩:=W;obtain⟨g1,g2⟩:=h.grow (os:=os) (d:=d) m (S':=S) (λ_ _ l=>l) (λ_ _ l=>.inl l);rw[W];have hlen:(ops.toList.take n).length=n:=by simp;omega
  have T:HeadInv .any ops n (Array.replicate ops.size false):=
   ⟨j3,λj D _ hl=>(by rw[getD_replicate_false] at hl;cases hl),λt _ ht=>getD_in (by simpa using ht) (getD_replicate_false _ _)⟩
  have H:=Bv (E:=E) (md:=.any) (g:=ops.size-n) (Lq:=λs=>s=s') hW (ops.toList.take n) 0 (Array.replicate ops.size false) s s' (λj u=>by rw[hlen] at u;rw[z6b u,zcb,zjb]) (by rw[hlen,zcb]) T (by rw[hlen];exact d2) q1 rfl
  have I:(ops.toList.drop n).length=ops.size-n:=j3
  have:=kG (ro:=ro) (nn:=nn) (Q:=Q) (g:=ops.size-n) U (s0:=s) (S0:=S) (γ0:=γ) (a0:=a) (w1:=grown w os d) (λi j oi D Y X u d v=>sR z Y (by rw[zjb];exact X) (by rw[zjb];exact u) d v)
   (λlisted s2 S2 γ2 β2 a2 w2 m1 m2 m3 m4 m5=>by
    obtain⟨m5,m6⟩:=m5;subst m6;have M:=jR (F:=FW ro) (n:=nn) (P:=P) (md:=.any) (ops:=ops) (Q':=Q) (ops.toList.drop n) n listed a2 w2 (λj=>by rw[z8b,zjb]) (by rw[I];exact m5) ?_
    ·rwa [I] at M
    have O:∀ j D,ops[j]?=some D->n<=j->listed.getD j true=false:=by
     intro j D u ai;have key:∀ (g k:Nat) (listed:Array Bool),Region.seqB .any ops g k listed=true->∀ j,k<=j->j<k+g->listed.getD j true=false:=by
      intro g
      induction g with
      | zero=>intro k listed _ j h1 h2;omega
      | succ g ih=>
       intro k listed V j h1 h2;simp only[Region.seqB,zaa,zfa] at V;by_cases L:j=k
       ·subst L;have:j∈Region.ready .any ops listed:=by rw[V.1];simp
        exact(mem_ready.1 this).1
       ·have:=ih (k+1) _ V.2 j j1 j1
        rwa [getD_set_ne true (Ne.symm L)] at this
     have al:=(zza.1 u).1;exact key _ _ _ m5 j ai j1
    have hsub:∀ o∈ops.toList.drop n,Fr E ak γ2 β2 o:=λo C=>by
     obtain⟨i,X,he⟩:=zYa C;have K:ops[n+i]?=some o:=by
      have:(ops.toList.drop n)[i]?=some o:=by rw[zca X,he]
      rwa [z8b,zjb] at this
     have:=m4 (n+i) o K (O _ _ K j1)
     intro hc d v;obtain⟨r1,r2,r3,r4⟩:=this hc d v;rw[G.base_eq,G.ob];exact⟨r1,r2,r3,r4⟩
    have fin:=zk (ro:=ro) (nn:=nn) (ops:=ops) U (Q:=Q) f N' R ((bK 0 ops.toList).drop n) k r an (m1.wk G) (by rw[zEc,bG];exact hsub)
     (by rw[zEc,bG];intro A B o o' e C d v;exact fU z (ops.toList.take n++A) B o o' (by rw[zOa,<-e,zua]) C d v)
     (λp hp=>mc (zbc hp)) q3 (λs3 S3 γ3 β3 a3 w3 n1 n2 n3 n4=>by
      refine hQ s3 S3 γ3 β3 a3 w3 n1 ?_ ((m3.trans (Sm.wk G)).sk.trans n3) n4;have f0:Fm s S γ a w S γ a (grown w os d):=⟨λ_ _ l=>l,g2.cell,λ_ _=>rfl,λid hid b l=>⟨l,.inl (dB (h.γn id b l).2)⟩,j3,λ_ _ l=>l,mD.same rfl dw.grown⟩
      exact(f0.trans m2 rfl rfl).trans n2 (G.lkS.trans m3.lkS) (G.lkO.trans m3.lkO))
    rwa [zEc,bG] at fin)
   (ops.toList.take n).length (Array.replicate ops.size false) s S γ β a (grown w os d) g1 (Fm.refl _ _ _ _ _) (Sm.refl s) (λj D u _=>hf D (zad.2 (z8c u))) H
  rw[hlen,show n+(ops.size-n)=ops.size by omega] at this
  exact this
end
end Sy
end
noncomputable section
namespace Sy
open Go
mutual
theorem uh:∀ (a a':AV),AV.same a a'=true->a=a'
 | .ptr t id p,a',h=>by
  cases a'<;>simp only[AV.same,zaa,zfa] at h<;>first|(cases h;done)|skip
  grind [aco]
 | .mem t id,a',h=>by
  cases a'<;>simp only[AV.same,zaa,zfa] at h<;>first|(cases h;done)|skip
  grind [aco]
 | .clo f l,a',h=>by
  cases a'<;>simp only[AV.same,zaa,zfa] at h<;>first|(cases h;done)|skip
  obtain⟨rfl,h1⟩:=h;rw[Cl _ _ h1]
 | .map kt vt id,a',h=>by
  cases a'<;>simp only[AV.same,zaa,zfa] at h<;>first|(cases h;done)|skip
  grind [aco]
 | .yld id,a',h=>by
  cases a'<;>simp only[AV.same,zfa] at h<;>first|(cases h;done)|skip
  subst h;rfl
 | .d ..,a',h=>by simp[AV.same] at h
 | .own ..,a',h=>by simp[AV.same] at h
 | .nils,a',h=>by simp[AV.same] at h
 | .fptr ..,a',h=>by simp[AV.same] at h
 | .st ..,a',h=>by simp[AV.same] at h
 | .undef,a',h=>by simp[AV.same] at h
theorem Cl:∀ (l l':List AV),abA l l'=true->l=l'
 | [],l',h=>by grind [abA]
 | a::l,l',h=>by
  cases l' with
  | nil=>simp[abA] at h
  | cons a' l'=> simp only[abA,zaa] at h;rw[uh _ _ h.1,Cl _ _ h.2]
end
structure Two(n:Nat)(c c':Cx):Prop where
 w:c'.w=c.w
 S:c'.S=c.S
 γ:∀ id,id<n->c'.γ id=c.γ id
 ob:∀ id,id<n->∀ o',c'.ob id=some o'->∃ o,c.ob id=some o/\(∀ p,fk o' p=fk o p/\cD o' p=cD o p)/\(∀ t l,o=.many t l->∃ l',o'=.many t l'/\l'.length=l.length)/\∀ kt vt l,o=.mp kt vt l->∃ l',o'=.mp kt vt l'
mutual
theorem Jo{n:Nat}{c c':Cx}(h:Two n c c'):∀ (a:AV) (cs:List Value),AV.old n a=true->AC c a cs->AC c' a cs
 | .ptr t id p,cs,ho,k=>by
  simp only[AV.old,zfa] at ho;simp only[AC] at k ⊢;obtain⟨b,off,rfl,k1,k2⟩:=k;refine⟨b,off,rfl,by rw[h.γ id ho];exact k1,λo' ho'=>?_⟩
  obtain⟨o,h1,h2,_⟩:=h.ob id ho o' ho'
  simp_all
 | .mem t id,cs,ho,k=>by
  simp only[AV.old,zfa] at ho;simp only[AC] at k ⊢;obtain⟨k0,b,k1,k2⟩:=k;refine⟨k0,b,by rw[h.γ id ho];exact k1,λo' ho'=>?_⟩
  obtain⟨o,h1,_,h3,_⟩:=h.ob id ho o' ho';grind
 | .map kt vt id,cs,ho,k=>by
  simp only[AV.old,zfa] at ho;simp only[AC] at k ⊢;obtain⟨b,e,k1,k2,k3,k4⟩:=k;refine⟨b,e,by rw[h.γ id ho];exact k1,k2,k3,λo' ho'=>?_⟩
  obtain⟨o,h1,_,_,h3⟩:=h.ob id ho o' ho';grind
 | .yld id,cs,ho,k=>by simp only[AV.old,zfa] at ho;simp only[AC] at k ⊢;obtain⟨L,rfl,k1⟩:=k;exact⟨L,rfl,by rw[h.γ id ho];exact k1⟩
 | .clo f l,cs,ho,k=>by simp only[AV.old] at ho;simp only[AC] at k ⊢;obtain⟨caps,rfl,k1⟩:=k;exact⟨caps,rfl,E4 h l caps ho k1⟩
 | .d ..,_,ho,_=>by simp[AV.old] at ho
 | .own ..,_,ho,_=>by simp[AV.old] at ho
 | .nils,_,ho,_=>by simp[AV.old] at ho
 | .fptr ..,_,ho,_=>by simp[AV.old] at ho
 | .st ..,_,ho,_=>by simp[AV.old] at ho
 | .undef,_,ho,_=>by simp[AV.old] at ho
theorem E4{n:Nat}{c c':Cx}(h:Two n c c'):∀ (l:List AV) (cs:List Value),abz n l=true->oz c l cs->oz c' l cs
 | [],cs,_,k=>by simpa only[oz] using k
 | a::l,cs,ho,k=>by simp only[abz,zaa] at ho;simp only[oz] at k ⊢;obtain⟨v,c2,rfl,k1,k2⟩:=k;exact⟨v,c2,rfl,Jo h a _ ho.1 k1,E4 h l c2 ho.2 k2⟩
end
mutual
def ab5:Sh->AV->Nat->List (Nat×Nat)
 | .ow _,.own _ v _,j=>[(j,v)]
 | .st _ l,.st _ l',j=>ab6 l l' j
 | _,_,_=>[]
def ab6:List Sh->List AV->Nat->List (Nat×Nat)
 | h::l,a::l',j=>ab5 h a j++ab6 l l' (j+h.cnt)
 | _,_,_=>[]
end
mutual
theorem Av:∀ (h:Sh) (a:AV) (j:Nat),(ab5 h a j).map Prod.snd=ab7 h a
 | .ow _,a,j=>by cases a<;>rfl
 | .st _ l,a,j=>by cases a<;>first|rfl|exact CB l _ j
 | .dv _,a,j=>by cases a<;>rfl
 | .same _,a,j=>by cases a<;>rfl
theorem CB:∀ (l:List Sh) (l':List AV) (j:Nat),(ab6 l l' j).map Prod.snd=ab8 l l'
 | [],l',j=>by cases l'<;>rfl
 | h::l,[],j=>rfl
 | h::l,a::l',j=>by simp only[ab6,ab8,zKb,Av h a j,CB l l' _]
end
def Pl(l:List (Nat×Nat))(i j:Nat):Prop:=(∀ p∈l,i<=p.1/\p.1<j)/\∀ p∈l,∀ q∈l,p.1=q.1->p=q
def Pl.nil(i j:Nat):Pl [] i j:=⟨λp h=>(by cases h),λp h=>(by cases h)⟩
def Pl.append{l l':List (Nat×Nat)}{i j k:Nat}(h:Pl l i j)(a:Pl l' j k)(h1:i<=j)(h2:j<=k):Pl (l++l') i k:=by
 refine⟨λp hp=>?_,λp hp q hq e=>?_⟩
 ·rcases List.mem_append.1 hp with hp|hp
  ·have:=h.1 p hp;omega
  ·have:=a.1 p hp;omega
 ·rcases List.mem_append.1 hp with hp|hp<;>rcases List.mem_append.1 hq with hq|hq
  ·exact h.2 p hp q hq e
  ·have:=h.1 p hp;have:=a.1 q hq;omega
  ·have:=a.1 p hp;have:=h.1 q hq;omega
  ·exact a.2 p hp q hq e
mutual
theorem DT:∀ (h:Sh) (a:AV) (j:Nat),Pl (ab5 h a j) j (j+h.cnt)
 | .ow _,a,j=>by
  cases a<;>first
   | exact Pl.nil _ _
   | exact⟨λp hp=>by simp[ab5] at hp;subst hp;simp[Sh.cnt],λp hp q hq _=>by simp[ab5] at hp hq;rw[hp,hq]⟩
 | .st _ l,a,j=>by
  cases a<;>first
   | exact Pl.nil _ _
   | (simp only[ab5,Sh.cnt];exact Ft l _ j)
 | .dv _,a,j=>by cases a<;>exact Pl.nil _ _
 | .same _,a,j=>by cases a<;>exact Pl.nil _ _
theorem Ft:∀ (l:List Sh) (l':List AV) (j:Nat),Pl (ab6 l l' j) j (j+ab1 l)
 | [],l',j=>by cases l'<;>exact Pl.nil _ _
 | h::l,[],j=>Pl.nil _ _
 | h::l,a::l',j=>by
  simp only[ab6,ab1];rw[show j+(h.cnt+ab1 l)=j+h.cnt+ab1 l by omega]
  exact(DT h a j).append (Ft l l' _) j1 j1
end
mutual
theorem nF{ob:Nat->Option Ob}{dead:List Nat}:∀ (h:Sh) (a:AV) (x:List D),Sh.dec ob dead h a=some x->x.length=h.cnt
 | .dv t,a,x,e=>by
  have e':((abB ob t a).bind λx=>some [x])=some x:=by cases a<;>exact e
  obtain⟨y,_,h2⟩:=ab e';simp only[zda] at h2;subst h2;rfl
 | .ow t,a,x,e=>by
  cases a<;>simp only[Sh.dec] at e<;>first|(cases e;done)|skip
  ·split at e<;>first|(cases e;done)|skip
   simp only[zda] at e;subst e;rfl
  ·simp only[zda] at e;subst e;rfl
 | .same b,a,x,e=>by
  have e':(if AV.same b a then some ([]:List D) else none)=some x:=by cases a<;>exact e
  split at e'<;>first|(cases e';done)|skip
  simp only[zda] at e';subst e';rfl
 | .st ts l,a,x,e=>by
  cases a<;>simp only[Sh.dec] at e<;>first|(cases e;done)|skip
  split at e<;>first|(cases e;done)|skip
  exact Bc l _ x e
theorem Bc{ob:Nat->Option Ob}{dead:List Nat}:∀ (l:List Sh) (l':List AV) (x:List D),ab2 ob dead l l'=some x->x.length=ab1 l
 | [],l',x,e=>by
  cases l'<;>simp only[ab2] at e<;>first|(cases e;done)|skip
  simp only[zda] at e;subst e;rfl
 | h::l,[],x,e=>by simp[ab2] at e
 | h::l,a::l',x,e=>by simp only[ab2] at e;obtain⟨y,h1,e⟩:=ab e;obtain⟨z,h2,e⟩:=ab e;simp only[zda] at e;subst e;simp only[zta,nF h a y h1,Bc l l' z h2,ab1]
end
mutual
theorem rC{ob:Nat->Option Ob}{dead:List Nat}:∀ (h:Sh) (a:AV) (x:List D),Sh.dec ob dead h a=some x->∀ v∈ab7 h a,v ∉ dead
 | .dv t,a,x,e=>by simp_all [ab7]
 | .ow t,a,x,e=>by
  intro v hv;cases a<;>simp only[ab7,zcc,zLa] at hv;subst hv;simp only[Sh.dec] at e
  simp_all
 | .same b,a,x,e=>by simp_all [ab7]
 | .st ts l,a,x,e=>by
  intro v hv;cases a<;>simp only[ab7,zcc] at hv;simp only[Sh.dec] at e;split at e<;>first|(cases e;done)|skip
  exact uL l _ x e v hv
theorem uL{ob:Nat->Option Ob}{dead:List Nat}:∀ (l:List Sh) (l':List AV) (x:List D),ab2 ob dead l l'=some x->∀ v∈ab8 l l',v ∉ dead
 | [],l',x,e=>by simp_all [ab8]
 | h::l,[],x,e=>by simp[ab2] at e
 | h::l,a::l',x,e=>by
  intro v hv;simp only[ab2] at e;obtain⟨y,h1,e⟩:=ab e;obtain⟨z,h2,e⟩:=ab e;simp only[ab8] at hv;rcases List.mem_append.1 hv with hv|hv
  ·exact rC h a y h1 v hv
  ·exact uL l l' z h2 v hv
end
mutual
theorem rX(b:Nat):∀ (h:Sh) (j:Nat) (s:List D),(Sh.mk b h j s).2=j+h.cnt
 | .dv t,j,s=>rfl
 | .ow t,j,s=>rfl
 | .same a,j,s=>rfl
 | .st ts l,j,s=>by simp only[Sh.mk,Sh.cnt];exact EY b l j s
theorem EY(b:Nat):∀ (l:List Sh) (j:Nat) (s:List D),(ab4 b l j s).2=j+ab1 l
 | [],j,s=>rfl
 | h::l,j,s=>by simp only[ab4,ab1,rX b h j s,EY b l,zVb]
end
mutual
theorem EX(b:Nat):∀ (h:Sh) (t:Ty) (j:Nat) (s:List D),Sh.fits t h=true->AV.fits t (Sh.mk b h j s).1=true
 | .dv t',t,j,s,h=>by
  have h':t.beq t'=true:=by cases t<;>exact h
  rw[aco _ _ h'];exact bU _ _
 | .ow e,t,j,s,h=>by
  have h':t.beq (.sl e)=true:=by cases t<;>exact h
  rw[aco _ _ h'];simp only[Sh.mk,AV.fits];exact acn _
 | .same a,t,j,s,h=>by cases t<;>simp[Sh.fits] at h
 | .st ts l,t,j,s,h=>by
  have h':(t.beq (.st ts)&&Sh.fitss ts l)=true:=by cases t<;>exact h
  simp only[zaa] at h';rw[aco _ _ h'.1];simp only[Sh.mk,AV.fits,zaa];have:=acn (.st ts);simp only[Ty.beq] at this;exact⟨this,vu b l ts j s h'.2⟩
theorem vu(b:Nat):∀ (l:List Sh) (ts:List Ty) (j:Nat) (s:List D),Sh.fitss ts l=true->AV.fitss ts (ab4 b l j s).1=true
 | [],ts,j,s,h=>by cases ts<;>simp only[Sh.fitss] at h<;>first|(cases h;done)|rfl
 | h::l,[],j,s,e=>by simp[Sh.fitss] at e
 | h::l,t::ts,j,s,e=>by simp only[Sh.fitss,zaa] at e;simp only[ab4,AV.fitss,zaa];exact⟨EX b h t j s e.1,vu b l ts _ s e.2⟩
end
def Ec(s x:List D)(j:Nat):Prop:=∀ i,i<x.length->s[j+i]?=x[i]?
def Ec.left{s x y:List D}{j:Nat}(h:Ec s (x++y) j):Ec s x j:=λi a=>by rw[h i (by simp;omega),zvb a]
def Ec.right{s x y:List D}{j:Nat}(h:Ec s (x++y) j):Ec s y (j+x.length):=λi a=>by rw[zVb,h (x.length+i) (by simp;omega),zYb j1,zNb]
mutual
theorem BL{n b:Nat}{c c':Cx}(T:Two n c c'):∀ (h:Sh) (a:AV) (j:Nat) (s x:List D) (cs:List Value),Sh.dec c.ob c.dead h a=some x->Ec s x j->Sh.fine n h=true ->
  (∀ p∈ab5 h a j,c'.β (b+p.1)=c.β p.2)->AC c a cs->AC c' (Sh.mk b h j s).1 cs
 | .dv t,a,j,s,x,cs,e,hs,hf,hb,k=>by
  have e':((abB c.ob t a).bind λx=>some [x])=some x:=by cases a<;>exact e
  obtain⟨y,h1,h2⟩:=ab e';simp only[zda] at h2;subst h2;obtain⟨k1,k2,_⟩:=sH _ _ _ _ h1 k;have hj:s[j]?=some y:=by have:=hs 0 j3;simpa using this
  simp only[Sh.mk,AC,List.getD,hj,zSb,T.w,T.S];exact⟨k1,hf,k2⟩
 | .ow t,a,j,s,x,cs,e,hs,hf,hb,k=>by
  cases a<;>simp only[Sh.dec] at e<;>first|(cases e;done)|skip
  ·rename_i t' v l;split at e<;>first|(cases e;done)|skip
   rename_i hd;simp only[zaa,zTa] at hd;simp only[zda] at e;subst e;have hj:s[j]?=some (.sl l):=by have:=hs 0 j3;simpa using this
   have he:=aco _ _ hd.1;subst he;simp only[AC] at k;obtain⟨k0,k1,ad,cap,rfl,k2,k3⟩:=k;simp only[Sh.mk,AC,List.getD,hj,zSb,D.els,T.w,T.S];refine⟨k0,k1,ad,cap,rfl,k2,λ_=>?_⟩;rcases k3 (by simpa using hd.2) with h3|⟨bb,off,h3,h4,m,h5,h6⟩
   ·exact .inl h3
   ·refine .inr ⟨bb,off,h3,?_,m,by rw[T.w];exact h5,h6⟩
    have:=hb (j,v) (by simp[ab5])
    rw[<-h4];exact this
  ·simp only[zda] at e;subst e;have hj:s[j]?=some (.sl []):=by have:=hs 0 j3;simpa using this
   simp only[AC] at k;subst k;simp only[Sh.mk,AC,List.getD,hj,zSb,D.els];refine⟨hf,λx hx=>(by cases hx),none,0,rfl,?_,λ_=>.inl ⟨rfl,rfl⟩⟩
   exact abC (b:=0) (off:=0) (.inl rfl) (zAa _) ⟨[],c8.nil,λi c hc=>by simp at hc⟩
 | .same a',a,j,s,x,cs,e,hs,hf,hb,k=>by
  have e':(if AV.same a' a then some ([]:List D) else none)=some x:=by cases a<;>exact e
  split at e'<;>first|(cases e';done)|skip
  rename_i hsm;have:=uh _ _ hsm;subst this;simp only[Sh.fine] at hf;exact Jo T _ _ hf k
 | .st ts l,a,j,s,x,cs,e,hs,hf,hb,k=>by
  cases a<;>simp only[Sh.dec] at e<;>first|(cases e;done)|skip
  rename_i ts' l';split at e<;>first|(cases e;done)|skip
  simp only[Sh.fine,zaa] at hf;simp only[AC] at k;simp only[Sh.mk,AC];exact⟨hf.1.1,vu b l ts j s hf.1.2,Jb T l l' j s x cs e hs hf.2 hb k.2.2⟩
theorem Jb{n b:Nat}{c c':Cx}(T:Two n c c'):∀ (l:List Sh) (l':List AV) (j:Nat) (s x:List D) (cs:List Value),ab2 c.ob c.dead l l'=some x->Ec s x j->ab3 n l=true ->
  (∀ p∈ab6 l l' j,c'.β (b+p.1)=c.β p.2)->lH c l' cs->lH c' (ab4 b l j s).1 cs
 | [],l',j,s,x,cs,e,_,_,_,k=>by all_goals grind [ab2,ab4,lH]
 | h::l,[],j,s,x,cs,e,_,_,_,k=>by simp[ab2] at e
 | h::l,a::l',j,s,x,cs,e,hs,hf,hb,k=>by simp only[ab2] at e;obtain⟨y,h1,e⟩:=ab e;obtain⟨z,h2,e⟩:=ab e;simp only[zda] at e;subst e;simp only[ab3,zaa] at hf;simp only[lH] at k;obtain⟨c1,c2,rfl,k1,k2⟩:=k;simp only[ab4,lH,rX];simp only[ab6,List.mem_append] at hb;have hr:=hs.right;rw[nF h a y h1] at hr;exact⟨c1,c2,rfl,BL T h a j s y c1 h1 hs.left hf.1 (λp hp=>hb p (.inl hp)) k1,Jb T l l' _ s z c2 h2 hr hf.2 (λp hp=>hb p (.inr hp)) k2⟩
end
def RS{n b:Nat}{c c':Cx}(T:Two n c c')(h:Sh)(a:AV)(j:Nat)(s x:List D)(v:Value)(e:Sh.dec c.ob c.dead h a=some x)(hs:Ec s x j)(hf:Sh.fine n h=true)
  (f:∀ p∈ab5 h a j,c'.β (b+p.1)=c.β p.2) (k:AR c a v):AR c' (Sh.mk b h j s).1 v:=by
 cases h with
 | dv t=>
  have d:((abB c.ob t a).bind λx=>some [x])=some x:=by cases a<;>exact e
  obtain⟨y,h1,h2⟩:=ab d;simp only[zda] at h2;subst h2;have i:s[j]?=some y:=by have:=hs 0 j3;simpa using this
  obtain⟨m,o⟩:=oJ hf k h1;simp only[Sh.mk,List.getD,i,zSb];exact dK hf m (by rw[T.w,T.S];exact o)
 | ow t=>
  have key:=λcs=>BL T (.ow t) a j s x cs e hs hf f;cases a<;>simp only[Sh.dec] at e<;>first|(cases e;done)|skip
  all_goals
   simp only[AR] at k;exact⟨k.1,key _ k.2⟩
 | same a'=>
  have key:=λcs=>BL T (.same a') a j s x cs e hs hf f;have d:(if AV.same a' a then some ([]:List D) else none)=some x:=by cases a<;>exact e
  split at d<;>first|(cases d;done)|skip
  rename_i g;have:=uh _ _ g;subst this;simp only[Sh.mk] at key ⊢;cases a'<;>simp only[Sh.fine,AV.old] at hf<;>first|(cases hf;done)|skip
  all_goals simp_all [AR]
 | st q l=>
  have key:=λcs=>BL T (.st q l) a j s x cs e hs hf f;cases a<;>simp only[Sh.dec] at e<;>first|(cases e;done)|skip
  simp_all [Sh.mk,AR]
def OG(s:St):List (Nat×Sh)->Nat->List (Nat×Nat)
 | [],_=>[]
 | (t,h)::l,j=>ab5 h (s.tm t) j++OG s l (j+h.cnt)
def J1(h:Sh)(o:Option Ob)(j:Nat):List (Nat×Nat):=match o with|some (.one _ v)=>ab5 h v j|_=>[]
def wn(s:St):List (Nat×ShO)->Nat->List (Nat×Nat)
 | [],_=>[]
 | (id,.one _ h)::l,j=>J1 h (s.ob id) j++wn s l (j+h.cnt)
 | (_,.many _)::l,j=>wn s l (j+1)
 | (_,.mp ..)::l,j=>wn s l (j+1)
 | (_,.keep ..)::l,j=>wn s l j
 | (_,.lp ..)::l,j=>wn s l j
 | (_,.fv _)::l,j=>wn s l j
theorem Au(s:St):∀ (l:List (Nat×Sh)) (j:Nat),(OG s l j).map Prod.snd=acg s l
 | [],_=>rfl
 | (t,h)::l,j=>by simp only[OG,acg,zKb,Av,Au s l]
theorem kj(s:St):∀ (l:List (Nat×ShO)) (j:Nat),(wn s l j).map Prod.snd=acf s l
 | [],_=>rfl
 | (id,.one t h)::l,j=>by
  simp only[wn,acf,zKb,kj s l];congr 1;unfold J1;split
  ·rename_i e;simp only[Av,e]
  ·simp_all
 | (_,.many _)::l,j=>by simp only[wn,acf,kj s l]
 | (_,.mp ..)::l,j=>by simp only[wn,acf,kj s l]
 | (_,.keep ..)::l,j=>by simp only[wn,acf,kj s l]
 | (_,.lp ..)::l,j=>by simp only[wn,acf,kj s l]
 | (_,.fv _)::l,j=>by simp only[wn,acf,kj s l]
theorem J2(s:St):∀ (l:List (Nat×Sh)) (j:Nat),Pl (OG s l j) j (j+aca l)
 | [],_=>Pl.nil _ _
 | (t,h)::l,j=>by
  simp only[OG,aca];rw[show j+(h.cnt+aca l)=j+h.cnt+aca l by omega]
  exact(DT h _ j).append (J2 s l _) j1 j1
def NQ(h:Sh)(o:Option Ob)(j:Nat):Pl (J1 h o j) j (j+h.cnt):=by
 unfold J1;split
 ·exact DT h _ j
 ·exact Pl.nil _ _
theorem pn(s:St):∀ (l:List (Nat×ShO)) (j:Nat),Pl (wn s l j) j (j+ab9 l)
 | [],_=>Pl.nil _ _
 | (id,.one t h)::l,j=>by
  simp only[wn,ab9,ShO.cnt];rw[show j+(h.cnt+ab9 l)=j+h.cnt+ab9 l by omega]
  exact(NQ h _ j).append (pn s l _) j1 j1
 | (_,.many _)::l,j=>by
  simp only[wn,ab9,ShO.cnt];rw[show j+(1+ab9 l)=j+1+ab9 l by omega]
  exact(Pl.nil j (j+1)).append (pn s l _) j1 j1
 | (_,.mp ..)::l,j=>by
  simp only[wn,ab9,ShO.cnt];rw[show j+(1+ab9 l)=j+1+ab9 l by omega]
  exact(Pl.nil j (j+1)).append (pn s l _) j1 j1
 | (_,.keep ..)::l,j=>by simp only[wn,ab9,ShO.cnt,zcb];exact pn s l j
 | (_,.fv _)::l,j=>by simp only[wn,ab9,ShO.cnt,zcb];exact pn s l j
 | (_,.lp ..)::l,j=>by simp only[wn,ab9,ShO.cnt,zcb];exact pn s l j
theorem Bb(s:St):∀ (l:List (Nat×Sh)) (x:List D),acc s l=some x->x.length=aca l
 | [],x,e=>by simp only[acc,zda] at e;subst e;rfl
 | (t,h)::l,x,e=>by simp only[acc] at e;obtain⟨y,h1,e⟩:=ab e;obtain⟨z,h2,e⟩:=ab e;simp only[zda] at e;subst e;simp only[zta,nF h _ y h1,Bb s l z h2,aca]
theorem uK(s:St):∀ (l:List (Nat×Sh)) (x:List D),acc s l=some x->∀ v∈acg s l,v ∉ s.dead
 | [],x,_=>by simp_all [acg]
 | (t,h)::l,x,e=>by
  intro v a;simp only[acc] at e;obtain⟨y,h1,e⟩:=ab e;obtain⟨z,h2,e⟩:=ab e;simp only[acg] at a;rcases List.mem_append.1 a with a|a
  ·exact rC h _ y h1 v a
  ·exact uK s l z h2 v a
def uJ{s:St}{id:Nat}{t:Ty}{h:Sh}{l:List (Nat×ShO)}{x:List D}(e:acb s ((id,.one t h)::l)=some x):∃ v y z,s.ob id=some (.one t v)/\Sh.dec s.ob s.dead h v=some y/\acb s l=some z/\x=y++z:=by
 simp only[acb] at e;split at e<;>first|(cases e;done)|skip
 rename_i b v a;split at e<;>first|(cases e;done)|skip
 rename_i ht;obtain⟨y,h1,e⟩:=ab e;obtain⟨z,h2,e⟩:=ab e;grind [Option.some.injEq,aco]
def rB{s:St}{id:Nat}{t:Ty}{l:List (Nat×ShO)}{x:List D}(e:acb s ((id,.many t)::l)=some x):∃ v z,s.ob id=some (.many t v)/\acb s l=some z/\x=[.sl v]++z:=by
 simp only[acb] at e;split at e<;>first|(cases e;done)|skip
 rename_i b v a;split at e<;>first|(cases e;done)|skip
 rename_i ht;obtain⟨z,h2,e⟩:=ab e;grind [Option.some.injEq,aco]
def ze{s:St}{id:Nat}{b vt:Ty}{l:List (Nat×ShO)}{x:List D}(e:acb s ((id,.mp b vt)::l)=some x):∃ v z,s.ob id=some (.mp b vt v)/\acb s l=some z/\x=[.sl v]++z:=by
 simp only[acb] at e;split at e<;>first|(cases e;done)|skip
 rename_i c d v a;split at e<;>first|(cases e;done)|skip
 rename_i ht;obtain⟨z,h2,e⟩:=ab e;simp only[zda] at e;simp only[zaa] at ht;rw[<-aco _ _ ht.1,<-aco _ _ ht.2] at a;exact⟨v,z,a,h2,e.symm⟩
def rA{s:St}{id:Nat}{t:Ty}{a:Nat}{l:List (Nat×ShO)}{x:List D}(e:acb s ((id,.keep t a)::l)=some x):∃ v,s.ob id=some (.one t v)/\acb s l=some x:=by grind [acb,aco]
theorem GC:∀ {p a:Option Ex},Dv p a=true->p=a
 | none,none,_=>rfl
 | none,some _,h=>by cases h
 | some _,none,h=>by cases h
 | some e,some b,h=>by simp only[Dv] at h;cases e<;>cases b<;>simp only[Ex.is,zfa] at h<;>first|rfl|(cases h;done)|(subst h;rfl)
def zd{s:St}{id:Nat}{p:Option Ex}{a:Nat}{l:List (Nat×ShO)}{x:List D}(e:acb s ((id,.lp p a)::l)=some x):∃ i,s.ob id=some (.lp i p)/\acb s l=some x:=by grind [acb,GC]
def zb{s:St}{id:Nat}{a:AV}{l:List (Nat×ShO)}{x:List D}(e:acb s ((id,.fv a)::l)=some x):s.ob id=some (.fv a)/\acb s l=some x:=by
 simp only[acb] at e;split at e<;>first|(cases e;done)|skip
 split at e<;>first|(cases e;done)|skip
 rename_i h1 h2;rw[uh _ _ h2];exact⟨h1,e⟩
theorem xf{n:Nat}{c c':Cx}(T:Two n c c'):∀ {l:List AV} {vs:List Value},abz n l=true->oA c l vs->oA c' l vs
 | [],[],_,_=>trivial
 | [],_::_,_,k=>k.elim
 | _::_,[],_,k=>k.elim
 | a::l,v::vs,h,k=>by
  simp only[abz,zaa] at h;refine⟨?_,xf T h.2 k.2⟩;have d:=k.1;unfold ul at d ⊢;split at d
  ·obtain⟨b,e,f⟩:=d;simp only[AV.old,zfa] at h;exact⟨b,e,(T.γ _ h.1).trans f⟩
  ·exact d.elim
theorem fR.old{n:Nat}{c c':Cx}(T:Two n c c'){a:AV}{v:Value}(h:AV.old n a=true)(i:mA a=true)(k:fR c a v):fR c' a v:=by
 cases a<;>simp only[mA] at i<;>first|(cases i;done)|skip
 all_goals simp only[AV.old] at h
 case clo f l=> obtain⟨caps,e,k⟩:=k;exact⟨caps,e,xf T h k⟩
 case map kt vt id=> obtain⟨b,e,d,g⟩:=k;exact⟨b,e,(T.γ id (of_decide_eq_true h)).trans d,g⟩
 case yld id=> simp only[fR,AR,AC] at k ⊢;obtain⟨d,L,e,g⟩:=k;exact⟨d,L,e,(T.γ id (of_decide_eq_true h)).trans g⟩
def M8{a b:AV}:(∀ p,fk (.fv a) p=fk (.fv b) p/\cD (.fv a) p=cD (.fv b) p):=λp=>by cases p<;>exact⟨rfl,rfl⟩
def xQ{p:Option Ex}{o:Option Ob}{o':Ob}(h:ab0 p o=some o'):∃ i a,o=some (.lp i a)/\o'=.lp i p:=by unfold ab0 at h;grind
theorem fT(s:St):∀ (l:List (Nat×ShO)) (x:List D),acb s l=some x->∀ v∈acf s l,v ∉ s.dead
 | [],x,_=>by simp_all [acf]
 | (id,.one t h)::l,x,e=>by
  intro v a;obtain⟨u,y,z,c,h1,h2,_⟩:=uJ e;simp only[acf,c] at a;rcases List.mem_append.1 a with a|a
  ·exact rC h _ y h1 v a
  ·exact fT s l z h2 v a
 | (id,.many t)::l,x,e=>by obtain⟨u,z,_,h2,_⟩:=rB e;exact fT s l z h2
 | (id,.mp d vt)::l,x,e=>by obtain⟨u,z,_,h2,_⟩:=ze e;exact fT s l z h2
 | (id,.keep t b)::l,x,e=>by obtain⟨u,_,h2⟩:=rA e;exact fT s l x h2
 | (id,.lp p b)::l,x,e=>by obtain⟨_,_,h2⟩:=zd e;exact fT s l x h2
 | (id,.fv v)::l,x,e=>by obtain⟨_,h2⟩:=zb e;exact fT s l x h2
theorem EW(b:Nat):∀ (l:List (Nat×Sh)) (j:Nat) (s:List D) (f:Nat->AV),(ace b l j s f).2=j+aca l
 | [],j,s,f=>rfl
 | (t,h)::l,j,s,f=>by simp only[ace,EW b l,rX,aca,zVb]
theorem Ja{n b:Nat}{c c':Cx}(T:Two n c c'){s':St}(d:c.ob=s'.ob)(g:c.dead=s'.dead):∀ (l:List (Nat×Sh)) (j:Nat) (s x:List D) (f:Nat->AV),acc s' l=some x->Ec s x j->(∀ p∈l,Sh.fine n p.2=true) ->
  (∀ p∈OG s' l j,c'.β (b+p.1)=c.β p.2)->∀ i,(i∈l.map (·.1)/\∀ v,AR c (s'.tm i) v->AR c' ((ace b l j s f).1 i) v)\/(i ∉ l.map (·.1)/\(ace b l j s f).1 i=f i)
 | [],j,s,x,f,e,hs,hf,a,i=>.inr ⟨j3,rfl⟩
 | (t,h)::l,j,s,x,f,e,hs,hf,a,i=>by
  simp only[acc] at e;obtain⟨y,h1,e⟩:=ab e;obtain⟨z,h2,e⟩:=ab e;simp only[zda] at e;subst e;simp only[OG,List.mem_append] at a;have k:=hs.right;rw[nF h _ y h1] at k;simp only[ace,rX];rcases Ja T d g l (j+h.cnt) s z (λi=>if i=t then(Sh.mk b h j s).1 else f i) h2 k (λp hp=>hf p (by simp[hp])) (λp hp=>a p (.inr hp)) i with⟨q,m⟩|⟨q,m⟩
  ·simp_all
  ·by_cases hit:i=t
   ·subst hit;refine .inl ⟨j3,λv o=>?_⟩
    rw[m,zna rfl];exact RS T h _ j s y v (by rw[d,g];exact h1) hs.left (hf (i,h) j3) (λp hp=>a p (.inl hp)) o
   ·simp_all
def OT(o' o:Ob):Prop:=(∀ p,fk o' p=fk o p/\cD o' p=cD o p)/\(∀ t l,o=.many t l->∃ l',o'=.many t l'/\l'.length=l.length)/\∀ a vt l,o=.mp a vt l->∃ l',o'=.mp a vt l'
def BF{t:Ty}{a b:AV}:OT (.one t a) (.one t b):=⟨λp=>⟨rfl,rfl⟩,(λu l e=>by cases e),λ_ _ l e=>by cases e⟩
def M9{i a:LpI}{p b:Option Ex}:OT (.lp i p) (.lp a b):=⟨λp=>⟨rfl,rfl⟩,(λu l e=>by cases e),λ_ _ l e=>by cases e⟩
def wl{t:Ty}{o:Option Ob}{o':Ob}(h:Ob.still t o=some o'):∃ u x,o=some (.one t (.d u x))/\o'=.one t (.d u x):=by
 unfold Ob.still at h;split at h<;>first|(cases h;done)|skip
 split at h<;>first|(cases h;done)|skip
 rename_i ht;simp only[zda] at h;have:=aco _ _ ht;grind
theorem o8{b:Nat}{base:Nat->Option Ob}{s':St}:∀ (l:List (Nat×ShO)) (j:Nat) (s x:List D) (f:Nat->Option Ob),acb s' l=some x->Ec s x j ->
  ∀ id o',acd b base l j s f id=some o'->f id=some o'\/(id∈l.map (·.1)/\∃ o,s'.ob id=some o/\OT o' o)
 | [],j,s,x,f,e,hs,id,o',c=>.inl c
 | (t,.one u h)::l,j,s,x,f,e,hs,id,o',c=>by
  obtain⟨v,y,z,h0,h1,h2,rfl⟩:=uJ e;have d:=hs.right;rw[nF h _ y h1] at d;simp only[acd,rX] at c;rcases o8 l _ s z _ h2 d id o' c with k|⟨g,m⟩
  ·split at k
   ·rename_i a;subst a;simp only[zda] at k;subst k;exact .inr ⟨j3,_,h0,BF⟩
   ·exact .inl k
  ·simp_all
 | (t,.many u)::l,j,s,x,f,e,hs,id,o',c=>by
  obtain⟨v,z,h0,h2,rfl⟩:=rB e;have n:s[j]?=some (.sl v):=by have:=hs 0 j3;simpa using this
  have d:=hs.right;simp only[acd] at c;rcases o8 l _ s z _ h2 d id o' c with k|⟨g,m⟩
  ·split at k
   ·rename_i a;subst a;simp only[zda,List.getD,n,zSb,D.els] at k;subst k;exact .inr ⟨j3,_,h0,λp=>⟨by cases p<;>rfl,by cases p<;>rfl⟩,(λu l e=>by cases e;exact⟨_,rfl,rfl⟩),λ_ _ l e=>by cases e⟩
   ·exact .inl k
  ·simp_all
 | (t,.mp u r)::l,j,s,x,f,e,hs,id,o',c=>by
  obtain⟨v,z,h0,h2,rfl⟩:=ze e;have n:s[j]?=some (.sl v):=by have:=hs 0 j3;simpa using this
  have d:=hs.right;simp only[acd] at c;rcases o8 l _ s z _ h2 d id o' c with k|⟨g,m⟩
  ·split at k
   ·rename_i a;subst a;simp only[zda,List.getD,n,zSb,D.els] at k;subst k;exact .inr ⟨j3,_,h0,λp=>⟨rfl,rfl⟩,(λu l e=>by cases e),λ_ _ l e=>by cases e;exact⟨_,rfl⟩⟩
   ·exact .inl k
  ·simp_all
 | (t,.keep u q)::l,j,s,x,f,e,hs,id,o',c=>by
  obtain⟨v,h0,h2⟩:=rA e;simp only[acd] at c;rcases o8 l _ s x _ h2 hs id o' c with k|⟨g,m⟩
  ·split at k
   ·rename_i a;subst a;obtain⟨r,y,_,rfl⟩:=wl k;exact .inr ⟨j3,_,h0,BF⟩
   ·exact .inl k
  ·simp_all
 | (t,.lp p q)::l,j,s,x,f,e,hs,id,o',c=>by
  obtain⟨v,h0,h2⟩:=zd e;simp only[acd] at c;rcases o8 l _ s x _ h2 hs id o' c with k|⟨g,m⟩
  ·split at k
   ·rename_i a;subst a;obtain⟨i,w,_,rfl⟩:=xQ k;exact .inr ⟨j3,_,h0,M9⟩
   ·exact .inl k
  ·simp_all
 | (t,.fv u)::l,j,s,x,f,e,hs,id,o',c=>by
  obtain⟨h0,h2⟩:=zb e;simp only[acd] at c;rcases o8 l _ s x _ h2 hs id o' c with k|⟨g,m⟩
  ·split at k
   ·rename_i a;subst a;simp only[zda] at k;subst k;exact .inr ⟨j3,_,h0,M8,(λu l e=>by cases e),λ_ _ l e=>by cases e⟩
   ·exact .inl k
  ·simp_all
theorem o7{n b:Nat}{c c':Cx}(T:Two n c c'){s' base:St}(B:c.ob=s'.ob)(C:c.dead=s'.dead):∀ (l:List (Nat×ShO)) (j:Nat) (s x:List D) (f:Nat->Option Ob),acb s' l=some x->Ec s x j->(∀ p∈l,ShO.fine n base p.1 p.2=true) ->
  (∀ p∈wn s' l j,c'.β (b+p.1)=c.β p.2)->∀ id o',acd b base.ob l j s f id=some o'->f id=some o' ∨
   ∃ o,s'.ob id=some o/\((∀ F,gm c F o->gm c' F o')\/(∃ t q,(id,ShO.keep t q)∈l/\Ob.still t (base.ob id)=some o')\/∃ p q i,(id,ShO.lp p q)∈l/\o=.lp i p/\ab0 p (base.ob id)=some o')
 | [],j,s,x,f,e,hs,hf,m,id,o',a=>.inl a
 | (t,.one u h)::l,j,s,x,f,e,hs,hf,m,id,o',a=>by
  obtain⟨v,y,z,h0,h1,h2,rfl⟩:=uJ e;have E:=hs.right;rw[nF h _ y h1] at E;simp only[acd,rX] at a;simp only[wn,List.mem_append] at m;rcases o7 T B C l _ s z _ h2 E (λp hp=>hf p (by simp[hp])) (λp hp=>m p (.inr hp)) id o' a with k|⟨o,r,A⟩
  ·split at k
   ·rename_i g;subst g;simp only[zda] at k;subst k;refine .inr ⟨_,h0,.inl λF k=>?_⟩;have d:=hf (id,.one u h) j3
    simp only[ShO.fine,zaa] at d;simp only[gm] at k ⊢;obtain⟨r,A,H,cs,I,J,K⟩:=k;rw[T.w,T.S];refine⟨r,EX b h u j s d.2,H,cs,I,BL T h v j s y cs (by rw[B,C];exact h1) hs.left d.1 (λp hp=>m p (.inl ?_)) J,K⟩
    simp_all [J1]
   ·exact .inl k
  ·simp_all
 | (t,.many u)::l,j,s,x,f,e,hs,hf,m,id,o',a=>by
  obtain⟨v,z,h0,h2,rfl⟩:=rB e;have G:s[j]?=some (.sl v):=by have:=hs 0 j3;simpa using this
  have E:=hs.right;simp only[acd] at a;rcases o7 T B C l _ s z _ h2 E (λp hp=>hf p (by simp[hp])) (λp hp=>m p hp) id o' a with k|⟨o,r,A⟩
  ·split at k
   ·rename_i g;subst g;simp only[zda,List.getD,G,zSb,D.els] at k;subst k
    simp_all [gm,T.w,T.S]
   ·exact .inl k
  ·simp_all
 | (t,.mp u Q)::l,j,s,x,f,e,hs,hf,m,id,o',a=>by
  obtain⟨v,z,h0,h2,rfl⟩:=ze e;have G:s[j]?=some (.sl v):=by have:=hs 0 j3;simpa using this
  have E:=hs.right;simp only[acd] at a;rcases o7 T B C l _ s z _ h2 E (λp hp=>hf p (by simp[hp])) (λp hp=>m p hp) id o' a with k|⟨o,r,A⟩
  ·split at k
   ·rename_i g;subst g;simp only[zda,List.getD,G,zSb,D.els] at k;subst k;refine .inr ⟨_,h0,.inl λF k=>?_⟩;simp only[gm] at k ⊢;obtain⟨L,M,N,es,O,P⟩:=k;rw[T.w,T.S];exact⟨L,M,N,es,O,jt.same T.w T.S P⟩
   ·exact .inl k
  ·simp_all
 | (t,.keep u q)::l,j,s,x,f,e,hs,hf,m,id,o',a=>by
  obtain⟨v,h0,h2⟩:=rA e;simp only[acd] at a;rcases o7 T B C l _ s x _ h2 hs (λp hp=>hf p (by simp[hp])) (λp hp=>m p hp) id o' a with k|⟨o,r,A⟩
  ·grind
  ·grind
 | (t,.lp p q)::l,j,s,x,f,e,hs,hf,m,id,o',a=>by
  obtain⟨v,h0,h2⟩:=zd e;simp only[acd] at a;rcases o7 T B C l _ s x _ h2 hs (λp hp=>hf p (by simp[hp])) (λp hp=>m p hp) id o' a with k|⟨o,r,A⟩
  ·grind
  ·grind
 | (t,.fv u)::l,j,s,x,f,e,hs,hf,m,id,o',a=>by
  obtain⟨h0,h2⟩:=zb e;simp only[acd] at a;rcases o7 T B C l _ s x _ h2 hs (λp hp=>hf p (by simp[hp])) (λp hp=>m p hp) id o' a with k|⟨o,r,A⟩
  ·split at k
   ·rename_i g;subst g;simp only[zda] at k;subst k;have d:=hf (id,.fv u) j3
    simp only[ShO.fine,zaa] at d;refine .inr ⟨_,h0,.inl λF k=>?_⟩;obtain⟨r,x,A,H,I⟩:=k;simp only[gm];rw[T.w,T.S];exact⟨r,x,A,H.old T d.1 d.2,I⟩
   ·exact .inl k
  ·grind
theorem yj:∀ {l:List (Nat×Nat)},dC (l.map Prod.snd)=true->∀ p∈l,∀ q∈l,p.2=q.2->p=q
 | [],_,p,hp,_,_,_=>by cases hp
 | x::l,h,p,hp,q,hq,e=>by
  simp only[zab,dC,zaa,zTa] at h;have hx:∀ y∈l,y.2≠x.2:=λy hy c=>by grind
  rcases zEa.1 hp with rfl|a
  ·simp_all
  ·rcases zEa.1 hq with rfl|b
   ·simp_all
   ·exact yj h.2 p a q b e
theorem s9:∀ {l:List (Nat×ShO)} {id:Nat} {t:Ty} {a:Nat},(id,ShO.keep t a)∈l->id∈cw l
 | [],_,_,_,h=>by cases h
 | (i,o)::l,id,t,a,h=>by
  rcases zEa.1 h with k|k
  ·grind [cw]
  ·have ih:=s9 k;cases o<;>simp only[cw]<;>first
    | exact ih
    | exact zoa _ ih
theorem qa:∀ {l:List (Nat×ShO)} {id:Nat} {p:Option Ex} {a:Nat},(id,ShO.lp p a)∈l->id∈cw l
 | [],_,_,_,h=>by cases h
 | (i,o)::l,id,p,a,h=>by
  rcases zEa.1 h with k|k
  ·grind [cw]
  ·have ih:=qa k;cases o<;>simp only[cw]<;>first
    | exact ih
    | exact zoa _ ih
section
variable{w0:Root}{w w':World}{S S':Nat->Nat->Prop}{γ γ':Nat->Option Nat}{β β':Nat->Option (Nat×Nat)}{s s':St}{a a':Act}
def nu(h0:Rp w0 S γ β s a w)(h1:Rp w0 S' γ' β' s' a' w')(hsub:∀ b o,S b o->S' b o)(E:∀ b o,S b o->w'.cell? ⟨b,o,none⟩=w.cell? ⟨b,o,none⟩)(aI:s'.nt=s.nt){h:Shape}
  (hs:∀ t∈h.keepS,a'.tmps.getD t undef=a.tmps.getD t undef) (an:∀ id b,γ id=some b->γ' id=some b) (ho:∀ id∈cw h.objs,∀ b,γ id=some b->γ' id=some b/\km w w' b) {v:List D} (Q:h.dec s s'=some v) (lkS lkO:List Nat) :
  ∃ A β'',Rp w0 S' A β'' (h.mk' s v lkS lkO) a' w'/\∀ id,id<s.base+4096->A id=γ' id:=by
 unfold Shape.dec at Q;split at Q<;>first|(cases Q;done)|skip
 rename_i hg;simp only[zaa] at hg;obtain⟨hg,a4⟩:=hg;obtain⟨x,hx,Q⟩:=ab Q;obtain⟨y,hy,Q⟩:=ab Q;simp only[zda] at Q;subst Q;simp only[Shape.good,zaa,zCa,zfa] at hg;obtain⟨⟨⟨⟨bm,bn⟩,R⟩,Y⟩,bp⟩:=hg;have a9:=Bb s' h.slots x hx;obtain⟨n,hn⟩:∃ n,n=(s.fresh+1)*4096:=⟨_,rfl⟩;have a6:s.base+4096=n:=by rw[hn];simp only[St.base];omega
 rw[<-hn] at R Y;obtain⟨tl,I⟩:∃ tl,tl=OG s' h.slots 0++wn s' h.objs (aca h.slots):=⟨_,rfl⟩;have a1:Pl tl 0 (aca h.slots+ab9 h.objs):=by rw[I];have p1:=J2 s' h.slots 0;rw[zcb] at p1;exact p1.append (pn s' h.objs _) j1 j1
 have a2:dC (tl.map Prod.snd)=true:=by rw[I,zKb,Au,kj];exact a4
 have l:∀ p∈tl,p.2 ∉ s'.dead:=λp hp=>by
  rw[I] at hp;rcases List.mem_append.1 hp with hp|hp
  ·exact uK s' _ x hx _ (by rw[<-Au s' _ 0];exact zec hp)
  ·exact fT s' _ y hy _ (by rw[<-kj s' _ (aca h.slots)];exact zec hp)
 obtain⟨A,hγ⟩:∃ A:Nat->Option Nat,A=λid=>if id<n then γ' id else none:=⟨_,rfl⟩
 obtain⟨β'',hβ⟩:∃ β'':Nat->Option (Nat×Nat),β''=λu=>if n<=u then(tl.find? λp=>p.1==u-n).bind λp=>β' p.2 else none:=⟨_,rfl⟩
 have aj:∀ id,id<n->A id=γ' id:=λid M=>by rw[hγ];simp[M]
 have K:∀ id b,A id=some b->id<n/\γ' id=some b:=λid b m=>by
  rw[hγ] at m;simp only at m;split at m
  ·rename_i M;exact⟨M,m⟩
  ·cases m
 have a5:∀ p∈tl,β'' (n+p.1)=β' p.2:=λp hp=>by
  rw[hβ];simp only[zwd,if_true,zNb];cases hfd:tl.find? λq=>q.1==p.1 with
  | none=> have:=List.find?_eq_none.1 hfd p hp;simp at this
  | some q=>
   have h1:=List.find?_some hfd;have h2:=List.mem_of_find?_eq_some hfd;rw[a1.2 q h2 p hp (by simpa using h1)]
   rfl
 have J:∀ u b,β'' u=some b->∃ p∈tl,u=n+p.1/\β' p.2=some b:=λu b m=>by
  rw[hβ] at m;simp only at m;split at m<;>first|(cases m;done)|skip
  rename_i hu;obtain⟨p,h1,h2⟩:=ab m;refine⟨p,List.mem_of_find?_eq_some h1,?_,h2⟩;have:=List.find?_some h1;simp only[beq_iff_eq] at this;omega
 have al:Ec (x++y) x 0:=λi M=>by rw[zcb,zvb M]
 have U:Ec (x++y) y (aca h.slots):=λi M=>by rw[<-a9,zYb j1,zNb]
 obtain⟨F,Z⟩:∃ F,F=(h.mk' s (x++y) lkS lkO).ob:=⟨_,rfl⟩;have W:F=acd n s.ob h.objs (aca h.slots) (x++y) (λ_=>none):=by rw[Z];simp only[Shape.mk',EW,zcb,<-hn]
 have T:Two n ⟨w',S',γ',β',s'.ob,s'.dead⟩ ⟨w',S',A,β'',F,[]⟩:=by
  refine⟨rfl,rfl,aj,λid M o' a0=>?_⟩;rw[W] at a0;rcases o8 h.objs _ _ y _ hy U id o' a0 with k|⟨_,o,N,C⟩
  ·cases k
  ·exact⟨o,N,C.1,C.2⟩
 have ad:a'.tmps.size=a.tmps.size:=by rw[h1.nt,aI,h0.nt]
 have a3:(h.mk' s (x++y) lkS lkO).tm=(ace n h.slots 0 (x++y) (λi=>if h.keepS.contains i then(s.tm i).still else .undef)).1:=by simp only[Shape.mk',<-hn]
 have G:=Ja (b:=n) T (s':=s') rfl rfl h.slots 0 (x++y) x (λi=>if h.keepS.contains i then(s.tm i).still else .undef) hx al (λp hp=>(Y p hp).2) (λp hp=>a5 p (by rw[I];exact List.mem_append_left _ hp))
 refine⟨A,β'',⟨h1.ext,λt ht=>?_,?_,λt ht=>?_,λid o b ax m=>?_,λid b m=>h1.γn id b (K id b m).2,λid L b m g=>h1.γi id L b (K id b m).2 (K L b g).2,λid M=>?_,λu b e _ m=>?_,λu u' b e e' _ _ m g=>?_,λu id b e _ m hid=>?_,λu hu=>?_,h1.Sb,h1.So⟩,λid M=>aj id j1⟩
 ·rw[a3,<-Z];rcases G t with⟨N,C⟩|⟨N,C⟩
  ·exact C _ (h1.tms t ht)
  ·rw[C];by_cases hk:h.keepS.contains t=true
   ·have a7:t∈h.keepS:=by simpa using hk
    rw[zna hk,hs t a7];exact ny (c:=⟨w,S,γ,β,s.ob,s.dead⟩) E hsub (h0.tms t (by rw[<-ad];exact ht))
   ·rw[zka hk];simp only[AR]
 ·show a'.tmps.size=s.nt;rw[h1.nt,aI]
 ·have bk:s.nt<=t:=ht;rw[a3];rcases G t with⟨N,C⟩|⟨N,C⟩
  ·obtain⟨p,hp,rfl⟩:=zMa.1 N;have:=(Y p hp).1;omega
  ·rw[C];split
   ·rw[h0.tmu t bk];rfl
   ·rfl
 ·have g:=(K id b m).2;rw[<-Z] at ax ⊢;have V:=ax;rw[W] at V;rcases o7 (b:=n) (base:=s) T (s':=s') rfl rfl h.objs (aca h.slots) (x++y) y _ hy U (λp hp=>(R p hp).2) (λp hp=>a5 p (by rw[I];exact zJa _ hp)) id o V with k|⟨o0,N,C|⟨t,ak,C,k3⟩|⟨p,ak,i1,C,rfl,k3⟩⟩
  ·cases k
  ·exact C b (h1.obs id o0 b N g)
  ·have d:=(R _ C).2;simp only[ShO.fine] at d;split at d<;>first|(cases d;done)|skip
   rename_i u L p hw;simp only[zaa,zfa] at d;obtain⟨rfl,ai⟩:=d;have P:=h0.tms ak (by rw[h0.nt];exact ai)
   rw[hw] at P;simp only[AR,AC] at P;obtain⟨_,O,off,_,z,_⟩:=P;obtain⟨q1,q2⟩:=ho id (s9 C) O z;rw[g] at q1;simp only[zda] at q1;subst q1;obtain⟨u',x',H,rfl⟩:=wl k3;have hO:=h0.obs id _ b H z;have B:=h1.obs id o0 b N g;simp only[gm,AC] at hO ⊢;obtain⟨r1,r2,_,cs,r3,⟨r4,r5,r6⟩,r7⟩:=hO;have q2:=q2.row r3;have bi:∀ o,¬ S' b o:=by
    cases o0
    case lp i p=> simp only[gm] at B;obtain⟨rr,z1,_⟩:=B;rw[q2] at z1;simp[bO,z1] at r3
    case fv v=>exact B.1
    all_goals (simp only[gm] at B;exact B.2.2.1)
   refine⟨r1,r2,bi,cs,?_,⟨r4,r5,r6.mono E hsub⟩,r7⟩;simp only[bO,q2];exact r3
  ·have d:=(R _ C).2;simp only[ShO.fine,zaa,zfa] at d;obtain⟨d,ai⟩:=d;have P:=h0.tms ak (by rw[h0.nt];exact ai)
   obtain⟨O,z⟩:∃ O,γ id=some O:=by
    split at d<;>first|(cases d;done)|skip
    ·rename_i L hw;have e:=of_decide_eq_true d;subst e;rw[hw] at P;simp only[AR,AC] at P;obtain⟨_,O,_,z⟩:=P;exact⟨O,z⟩
    ·rename_i v hw;rw[hw] at P;split at d<;>first|(cases d;done)|skip
     rename_i L hv;have e:=of_decide_eq_true d;subst e;obtain⟨bv,_,_,bl,_⟩:=lI P;obtain⟨_,x,_,k,_⟩:=h0.obs v _ bv hv bl;simp only[fR,AR,AC] at k;obtain⟨_,O,_,z⟩:=k;exact⟨O,z⟩
   obtain⟨q1,q2⟩:=ho id (qa C) O z;rw[g] at q1;simp only[zda] at q1;subst q1;obtain⟨i,p0,H,rfl⟩:=xQ k3;have hO:=h0.obs id _ b H z;have B:=h1.obs id _ b N g;simp only[gm] at hO B ⊢;obtain⟨rec,r1,⟨r2,r3,r4,r5⟩,r6,_⟩:=hO;obtain⟨X,v1,_,_,v4⟩:=B;have e:CM rec X:=by
    rcases q2 with k|⟨r,r',z1,z2,z3⟩
    ·rw[v1,r1] at k;cases k;exact⟨rfl,rfl,rfl,rfl⟩
    ·rw[r1] at z1;cases z1;rw[v1] at z2;cases z2;exact z3
   refine⟨X,v1,⟨by rw[e.1];exact r2,by rw[e.2.1];exact r3,by rw[e.2.2.1];exact r4,by rw[e.2.2.2];exact r5⟩,λt ht=>?_,v4⟩
   rw[e.1];refine fR.mono (c:=⟨w,S,γ,β,s.ob,s.dead⟩) E hsub (λj bj hj=>?_) (r6 t ht);rcases zxa j n with k|k
   ·exact(aj j k).trans (an j bj hj)
   ·have aB:γ j=some bj:=hj;rw[h0.γf j j1] at aB;cases aB
 ·have bs:(s.fresh+1)*4096+4096<=id:=M;rw[hγ];simp only;rw[zka j1]
 ·obtain⟨p,hp,_,g⟩:=J u _ m;exact h1.βn _ b e (l p hp) g
 ·obtain⟨p,hp,rfl,k⟩:=J u _ m;obtain⟨q,hq,rfl,k'⟩:=J u' _ g;have:=h1.βi _ _ b e e' (l p hp) (l q hq) k k';rw[yj a2 p hp q hq this]
 ·obtain⟨p,hp,_,g⟩:=J u _ m;exact h1.βγ _ id b e (l p hp) g (K id b hid).2
 ·have bt:(s.fresh+1)*4096+4096<=u:=hu;cases hc:β'' u with
  | none=>rfl
  | some b=> obtain⟨p,hp,e,_⟩:=J u b hc;have:=(a1.1 p hp).2;omega
end
variable{ro:Option Nat}{nn:Nat}
section
variable{P:Program}{E:Env}{w0:Root}{S:Nat->Nat->Prop}{γ:Nat->Option Nat}{β:Nat->Option (Nat×Nat)}{s:St}{a:Act}{w:World}
def Fm.tr{s s1:St}{S S1 S2:Nat->Nat->Prop}{γ γ1 γ2:Nat->Option Nat}{a a1 a2:Act}{w w1 b:World}(h:Fm s S γ a w S1 γ1 a1 w1)(k:Fm s1 S1 γ1 a1 w1 S2 γ2 a2 b)(e:Sk s s1):Fm s S γ a w S2 γ2 a2 b:=h.trans k e.lkS e.lkO
def t8(s:St)(t:Nat):St:=
 match s.tm t with
  | .mem a id=>match s.ob id with
   | some (.many u l)=>if a.beq u&&!(s.lkO.contains id) then{ s.setOb id none with tm:=λi=>if i=t then .d (.sl u) (.sl l) else s.tm i } else s
   | _=>s
  | _=>s
def Bp(s:St)(t:Nat)(l:List Nat):gN s (t::l)=gN (t8 s t) l:=rfl
def C8(h:Rp w0 S γ β s a w)(t:Nat):∃ S',Rp w0 S' γ β (t8 s t) a w/\Fm s S γ a w S' γ a w/\Sm s (t8 s t):=by
 have q:∃ S',Rp w0 S' γ β s a w/\Fm s S γ a w S' γ a w/\Sm s s:=⟨S,h,Fm.refl _ _ _ _ _,Sm.refl s⟩;unfold t8;split
 ·rename_i V id hm;split
  ·rename_i u l O;split
   ·rename_i hc;simp only[zaa,zTa] at hc;obtain⟨F,P⟩:=hc;have hu:=aco _ _ F;subst hu;have ht:t<a.tmps.size:=by
     rcases zxa t a.tmps.size with k|k
     ·exact k
     ·have:=h.tmu t (by rw[<-h.nt];exact k)
      simp_all
    have x:=h.tms t ht;rw[hm] at x;simp only[AR,AC] at x;obtain⟨I,K,b,E,x⟩:=x;obtain⟨l',N,L⟩:=x _ O;simp only[Ob.many.injEq,true_and] at N;subst N;have hO:=h.obs id _ b O E;simp only[gm] at hO;obtain⟨_,M,Q,cs,B,G⟩:=hO;obtain⟨S',g⟩:∃ S':Nat->Nat->Prop,S'=λd o=>S d o\/d=b:=⟨_,rfl⟩;have hsub:∀ d o,S d o->S' d o:=λd o j=>by rw[g];exact .inl j
    have hle:Cx.le ⟨w,S,γ,β,s.ob,s.dead⟩ ⟨w,S',γ,β,(s.setOb id none).ob,s.dead⟩:=by
     refine⟨λ_ _ _=>rfl,hsub,λ_ _ k=>k,λi o m _=>?_,λv L=>⟨L,λb e he=>⟨he,λn hn=>hn⟩⟩⟩
     simp_all [St.setOb]
    refine⟨S',⟨h.ext,λi m=>?_,h.nt,λi m=>?_,λi o d m y=>?_,h.γn,h.γi,h.γf,λv d e D he=>?_,h.βi,h.βγ,h.βf,λd o j=>?_,λd o j z=>?_⟩,⟨hsub,λ_ _ _=>rfl,λ_ _=>rfl,λ_ _ _ j=>⟨j,km.refl _ _⟩,zia _,λ_ _ j=>j,mD.same rfl (dw.refl _)⟩,⟨rfl,rfl,rfl,rfl⟩⟩
    ·by_cases p:i=t
     ·subst p;simp only[if_true];have C:=ar I L;rw[C];refine dK (by simpa only[am] using K) (by simp only[wt];exact⟨l,rfl,M⟩) (abV ?_)
      refine abC (b:=b) (off:=0) (.inr rfl) (zia _) ⟨cs,G.mono (λ_ _ _=>rfl) hsub,λi c hc=>⟨by rw[g];exact .inr rfl,?_⟩⟩
      rw[zcb,cell_of_row w B];simpa using hc
     ·simp only[zka p];exact(h.tms i m).mono hle
    ·have H:s.nt<=i:=m;have p:i≠t:=λe=>by rw[h.nt] at ht;omega
     simp only[zka p];exact h.tmu i H
    ·simp only[St.setOb] at m;split at m<;>first|(cases m;done)|skip
     rename_i J;refine(h.obs i o d m y).mono hle rfl λo r=>?_;have A:S' d o:=r;rw[g] at A;rcases A with k|k
     ·exact k
     ·subst k;exact z3a (h.γi i id d y E) J
    ·obtain⟨R,T,U⟩:=h.βn v d e D he;refine⟨R,T,λo r hs=>?_⟩;rw[g] at hs;rcases hs with k|k
     ·exact U o r k
     ·subst k;exact h.βγ v id d e D he E
    ·rw[g] at j;rcases j with k|k
     ·exact h.Sb d o k
     ·subst k;exact(h.γn id d E).2
    ·rw[g] at j;rcases j with k|k
     ·exact h.So d o k z
     ·subst k;exact z3a z (h.γn id d E).1
   ·exact q
  ·exact q
 ·omega
theorem rI:∀ (l:List Nat) {S:Nat->Nat->Prop} {s:St},Rp w0 S γ β s a w->∃ S',Rp w0 S' γ β (gN s l) a w/\Fm s S γ a w S' γ a w/\Sm s (gN s l)
 | [],S,s,h=>⟨S,h,Fm.refl _ _ _ _ _,Sm.refl s⟩
 | t::l,S,s,h=>by obtain⟨S1,h1,f1,m1⟩:=C8 h t;obtain⟨S2,h2,f2,m2⟩:=rI l h1;rw[Bp];exact⟨S2,h2,f1.trans f2 m1.lkS m1.lkO,m1.trans m2⟩
def to(E:Env)(s:St)(o:Oper):St:=match o.op,o.dst with
  | .alloc T,some d=>match E.alOb T with
   | some x=>s.setOb (s.base+d) (some x)
   | none=>s
  | _,_=>s
def sa(E:Env)(o:Oper)(l:List Oper)(s:St):lg E (o::l) s=lg E l (to E s o):=rfl
def Rp.freeOb(h:Rp w0 S γ β s a w){id:Nat}(j:γ id=none)(o:Option Ob):Rp w0 S γ β (s.setOb id o) a w:=by
 have hle:Cx.le ⟨w,S,γ,β,s.ob,s.dead⟩ ⟨w,S,γ,β,(s.setOb id o).ob,s.dead⟩:=by
  refine⟨λ_ _ _=>rfl,λ_ _ k=>k,λ_ _ k=>k,λi x hx c=>?_,λv g=>⟨g,λb e he=>⟨he,λn hn=>hn⟩⟩⟩;simp only[St.setOb] at hx;split at hx
  ·simp_all
  ·simp_all
 refine⟨h.ext,λi d=>(h.tms i d).mono hle,h.nt,h.tmu,λi x b hx c=>?_,h.γn,h.γi,h.γf,h.βn,h.βi,h.βγ,h.βf,h.Sb,h.So⟩;simp only[St.setOb] at hx;split at hx
 ·simp_all
 ·exact(h.obs i x b hx c).mono hle rfl λ_ k=>k
def nh(E:Env)(s:St)(o:Oper):to E s o=s\/∃ T d t,o.op=.alloc T/\o.dst=some d/\E.alOb T=some t/\to E s o=s.setOb (s.base+d) (some t):=by all_goals grind [to]
def Jy(h:Rp w0 S γ β s a w)(b:∀ d,γ (s.base+d)=none)(o:Oper):Rp w0 S γ β (to E s o) a w/\Sm s (to E s o):=by
 rcases nh E s o with e|⟨T,d,t,_,_,_,e⟩
 ·rw[e];exact⟨h,Sm.refl s⟩
 ·rw[e];exact⟨h.freeOb (b d) _,rfl,rfl,rfl,rfl⟩
def Sm.base_eq{s s':St}(h:Sm s s'):s'.base=s.base:=by simp only[St.base,h.fresh]
def E8(l:List Oper){s:St}(h:Rp w0 S γ β s a w)(b:∀ d,γ (s.base+d)=none):Rp w0 S γ β (lg E l s) a w/\Sm s (lg E l s):=by
 induction l generalizing s with
 | nil=>exact And.intro h (Sm.refl s)
 | cons o l ih=>
  rw[sa];obtain⟨h1,h2⟩:=Jy (E:=E) h b o;obtain⟨c,e⟩:=ih h1 (by rw[h2.base_eq];exact b)
  exact⟨c,h2.trans e⟩
theorem pe:∀ (l:List Oper) {s:St} {d:Nat},(∀ o∈l,o.dst≠some d)->(lg E l s).ob (s.base+d)=s.ob (s.base+d)
 | [],s,d,_=>rfl
 | o::l,s,d,h=>by
  rw[sa];rcases nh E s o with e|⟨T,d',t,_,b,_,e⟩
  ·rw[e];exact pe l λo a=>h o (by simp[a])
  ·rw[e];have:=pe l (s:=s.setOb (s.base+d') (some t)) (d:=d) λo a=>h o (by simp[a])
   have c:(s.setOb (s.base+d') (some t)).base=s.base:=rfl;rw[c] at this;rw[this];have f:d'≠d:=λe=>h o j3 (by rw[b,e])
   simp only[St.setOb];grind
theorem zX:∀ (l:List Oper) {s:St} {o:Oper} {T:TypeId} {d:Nat} {t:Ob},dC (l.filterMap (·.dst))=true->o∈l->o.op=.alloc T->o.dst=some d->E.alOb T=some t->(lg E l s).ob (s.base+d)=some t
 | [],_,_,_,_,_,_,h,_,_,_=>by cases h
 | x::l,s,o,T,d,t,hn,j,f,b,g=>by
  have c:dC (l.filterMap (·.dst))=true:=by
   rw[List.filterMap_cons] at hn;split at hn
   ·exact hn
   ·simp_all [dC,zaa]
  rw[sa];have i:(to E s x).base=s.base:=by rcases nh E s x with e|⟨_,_,_,_,_,_,e⟩<;>rw[e]<;>rfl
  rcases zEa.1 j with rfl|a
  ·rw[<-i,pe l λo' a=>λe=>fU hn [] l o o' rfl a d e b]
   simp_all [to,f,b,g,St.setOb]
  ·rw[<-i];exact zX l c a f b g
theorem RL{e a:Ex}(h:e.is a=true):e=a:=by cases e<;>cases a<;>simp only[Ex.is,zfa] at h<;>first|rfl|(cases h;done)|(rw[h])
theorem sV{e:Ex}:∀ {l:List (Ex×Shape)} {i j:Nat} {h:Shape},uW e l i=some (j,h)->i<=j/\l[j-i]?=some (e,h)
 | [],_,_,_,k=>by simp[uW] at k
 | (a,b)::l,i,j,h,k=>by
  simp only[uW] at k;split at k
  ·grind [Option.some.injEq,Prod.mk.injEq,RL]
  ·obtain⟨c,d⟩:=sV k;grind
theorem j6{R:Type}{base:St}{k:Ex->St->Option R}{c b:List Nat}{r:R}{e:Ex}{h:Shape}{v:List D}:∀ {l:List (Ex×Shape)} {i j:Nat},i<=j->l[j-i]?=some (e,h)->mR base k c b l i (j,v)=some r ->
  k e (h.mk' base v base.lkS base.lkO)=some r/\subset h.keepS c=true/\subset (cw h.objs) b=true
 | [],_,_,_,hl,_=>by simp at hl
 | [(d,f)],i,j,a,hl,hc=>by
  have:j-i=0:=by grind
  rw[this] at hl;simp only[zWb,zda,Prod.mk.injEq] at hl
  simp_all [mR,zaa]
 | (d,f)::x::l,i,j,a,hl,hc=>by
  simp only[mR] at hc;split at hc<;>first|(cases hc;done)|skip
  rename_i hs;simp only[zaa] at hs;split at hc
  ·simp_all
  ·rename_i g;refine j6 (i:=i+1) j1 ?_ hc
   grind
def ge{l l':List Nat}(h:subset l l'=true):∀ x∈l,x∈l':=λx hx=>by
 have:=zCa.1 h x hx
 simp_all
def Rp.lk(h:Rp w0 S γ β s a w)(lkS lkO:List Nat):Rp w0 S γ β { s with lkS:=lkS,lkO:=lkO } a w:=
 ⟨h.ext,h.tms,h.nt,h.tmu,h.obs,h.γn,h.γi,h.γf,h.βn,h.βi,h.βγ,h.βf,h.Sb,h.So⟩
def Fm.shape{s2:St}{S':Nat->Nat->Prop}{γ' γ'':Nat->Option Nat}{a':Act}{w':World}(h0:Rp w0 S γ β s a w)(h:Fm s2 S γ a w S' γ' a' w')(d:∀ id,id<s.base+4096->γ'' id=γ' id):Fm s2 S γ a w S' γ'' a' w':=
 ⟨h.sub,h.cell,h.slots,λid hid b c=>by
  obtain⟨e,g⟩:=h.objs id hid b c;refine⟨?_,g⟩;rw[d id ?_]
  ·exact e
  ·rcases zxa id (s.base+4096) with k|k
   ·exact k
   ·rw[h0.γf id k] at c;exact z3a c j3,h.sz,λid b c=>by
  rw[d id ?_]
  ·exact h.gam id b c
  ·rcases zxa id (s.base+4096) with k|k
   ·exact k
   ·rw[h0.γf id k] at c;exact z3a c j3,h.dfs⟩
def sK{base:St}{a:List (Ex×Shape)}{e:Ex}{s':St}{r:Nat×List D}(h:DU base a e s'=some r):∃ sh,a[r.1]?=some (e,sh)/\sh.dec base s'=some r.2:=by
 unfold DU at h;obtain⟨q,h1,h⟩:=ab h;obtain⟨v,h2,h⟩:=ab h;simp only[zda] at h;subst h;obtain⟨_,h3⟩:=sV h1
 simp_all
end
end Sy
end
end Go.Proofs.YtphlmegkommlnaaGreatDoor
