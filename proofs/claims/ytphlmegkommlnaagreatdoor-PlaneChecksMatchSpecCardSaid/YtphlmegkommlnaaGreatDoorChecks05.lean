/- Part 5 of the proof that PlaneChecksMatchSpec answers true at every input -/
import Derived.Test.YtphlmegkommlnaaGreatDoorChecks04
set_option linter.unusedVariables false
set_option linter.unusedSimpArgs false
set_option linter.unnecessarySimpa false
set_option linter.defProp false
set_option maxRecDepth 20000
namespace Go.Proofs.YtphlmegkommlnaaGreatDoor
noncomputable section
namespace Sy
open Go
def Jm(s:St):List (Nat×Sh)->Nat->List (Nat×Nat)
 | [],_=>[]
 | (t,h)::l,j=>Sh.tkp h (s.tm t) j++Jm s l (j+h.cnt)
def Fb(h:Sh)(o:Option Ob)(j:Nat):List (Nat×Nat):=match o with|some (.one _ v)=>Sh.tkp h v j|_=>[]
def sP(s:St):List (Nat×ShO)->Nat->List (Nat×Nat)
 | [],_=>[]
 | (id,.one _ h)::l,j=>Fb h (s.ob id) j++sP s l (j+h.cnt)
 | (_,.many _)::l,j=>sP s l (j+1)
 | (_,.mp ..)::l,j=>sP s l (j+1)
 | (_,.keep ..)::l,j=>sP s l j
 | (_,.lp ..)::l,j=>sP s l j
 | (_,.fv _)::l,j=>sP s l j
theorem wo(s:St):∀ (l:List (Nat×Sh)) (j:Nat),(Jm s l j).map Prod.snd=Shape.toksS s l
 | [],_=>rfl
 | (t,h)::l,j=>by simp only[Jm,Shape.toksS,zhc,wp,wo s l]
theorem iC(s:St):∀ (l:List (Nat×ShO)) (j:Nat),(sP s l j).map Prod.snd=Shape.toksO s l
 | [],_=>rfl
 | (id,.one t h)::l,j=>by
  simp only[sP,Shape.toksO,zhc,iC s l];congr 1;unfold Fb;split
  ·rename_i e;simp only[wp,e]
  ·simp_all
 | (_,.many _)::l,j=>by simp only[sP,Shape.toksO,iC s l]
 | (_,.mp ..)::l,j=>by simp only[sP,Shape.toksO,iC s l]
 | (_,.keep ..)::l,j=>by simp only[sP,Shape.toksO,iC s l]
 | (_,.lp ..)::l,j=>by simp only[sP,Shape.toksO,iC s l]
 | (_,.fv _)::l,j=>by simp only[sP,Shape.toksO,iC s l]
theorem Fc(s:St):∀ (l:List (Nat×Sh)) (j:Nat),Pl (Jm s l j) j (j+Shape.cntS l)
 | [],_=>Pl.nil _ _
 | (t,h)::l,j=>by
  simp only[Jm,Shape.cntS];rw[show j+(h.cnt+Shape.cntS l)=j+h.cnt+Shape.cntS l by omega]
  exact(zV h _ j).append (Fc s l _) (by omega) (by omega)
def IP(h:Sh)(o:Option Ob)(j:Nat):Pl (Fb h o j) j (j+h.cnt):=by
 unfold Fb;split
 ·exact zV h _ j
 ·exact Pl.nil _ _
theorem mF(s:St):∀ (l:List (Nat×ShO)) (j:Nat),Pl (sP s l j) j (j+Shape.cntO l)
 | [],_=>Pl.nil _ _
 | (id,.one t h)::l,j=>by
  simp only[sP,Shape.cntO,ShO.cnt];rw[show j+(h.cnt+Shape.cntO l)=j+h.cnt+Shape.cntO l by omega]
  exact(IP h _ j).append (mF s l _) (by omega) (by omega)
 | (_,.many _)::l,j=>by
  simp only[sP,Shape.cntO,ShO.cnt];rw[show j+(1+Shape.cntO l)=j+1+Shape.cntO l by omega]
  exact(Pl.nil j (j+1)).append (mF s l _) (by omega) (by omega)
 | (_,.mp ..)::l,j=>by
  simp only[sP,Shape.cntO,ShO.cnt];rw[show j+(1+Shape.cntO l)=j+1+Shape.cntO l by omega]
  exact(Pl.nil j (j+1)).append (mF s l _) (by omega) (by omega)
 | (_,.keep ..)::l,j=>by
  simp only[sP,Shape.cntO,ShO.cnt,z1a];exact mF s l j
 | (_,.fv _)::l,j=>by
  simp only[sP,Shape.cntO,ShO.cnt,z1a];exact mF s l j
 | (_,.lp ..)::l,j=>by
  simp only[sP,Shape.cntO,ShO.cnt,z1a];exact mF s l j
theorem w7(s:St):∀ (l:List (Nat×Sh)) (x:List D),Shape.decS s l=some x->x.length=Shape.cntS l
 | [],x,e=>by simp only[Shape.decS,zca] at e;subst e;rfl
 | (t,h)::l,x,e=>by
  simp only[Shape.decS] at e;obtain⟨y,h1,e⟩:=bind_some_inv e;obtain⟨z,h2,e⟩:=bind_some_inv e;simp only[zca] at e;subst e;simp only[zta,lh h _ y h1,w7 s l z h2,Shape.cntS]
theorem rd(s:St):∀ (l:List (Nat×Sh)) (x:List D),Shape.decS s l=some x->∀ v∈Shape.toksS s l,v ∉ s.dead
 | [],x,_=>by simp_all [Shape.toksS]
 | (t,h)::l,x,e=>by
  intro v hv;simp only[Shape.decS] at e;obtain⟨y,h1,e⟩:=bind_some_inv e;obtain⟨z,h2,e⟩:=bind_some_inv e;simp only[Shape.toksS] at hv;rcases zDa.1 hv with hv|hv
  ·exact ou h _ y h1 v hv
  ·exact rd s l z h2 v hv
def q9{s:St}{id:Nat}{t:Ty}{h:Sh}{l:List (Nat×ShO)}{x:List D}(e:Shape.decO s ((id,.one t h)::l)=some x):∃ v y z,s.ob id=some (.one t v)/\Sh.dec s.ob s.dead h v=some y/\Shape.decO s l=some z/\x=y++z:=by
 simp only[Shape.decO] at e;split at e<;>first|(cases e;done)|skip
 rename_i t' v ho;split at e<;>first|(cases e;done)|skip
 rename_i ht;obtain⟨y,h1,e⟩:=bind_some_inv e;obtain⟨z,h2,e⟩:=bind_some_inv e;grind [Option.some.injEq,Ty.eq_of_beq]
def oo{s:St}{id:Nat}{t:Ty}{l:List (Nat×ShO)}{x:List D}(e:Shape.decO s ((id,.many t)::l)=some x):∃ v z,s.ob id=some (.many t v)/\Shape.decO s l=some z/\x=[.sl v]++z:=by
 simp only[Shape.decO] at e;split at e<;>first|(cases e;done)|skip
 rename_i t' v ho;split at e<;>first|(cases e;done)|skip
 rename_i ht;obtain⟨z,h2,e⟩:=bind_some_inv e;grind [Option.some.injEq,Ty.eq_of_beq]
def vi{s:St}{id:Nat}{kt vt:Ty}{l:List (Nat×ShO)}{x:List D}(e:Shape.decO s ((id,.mp kt vt)::l)=some x):∃ v z,s.ob id=some (.mp kt vt v)/\Shape.decO s l=some z/\x=[.sl v]++z:=by
 simp only[Shape.decO] at e;split at e<;>first|(cases e;done)|skip
 rename_i t' u' v ho;split at e<;>first|(cases e;done)|skip
 rename_i ht;obtain⟨z,h2,e⟩:=bind_some_inv e;simp only[zca] at e;simp only[zaa] at ht;rw[<-Ty.eq_of_beq _ _ ht.1,<-Ty.eq_of_beq _ _ ht.2] at ho;exact⟨v,z,ho,h2,e.symm⟩
def om{s:St}{id:Nat}{t:Ty}{wit:Nat}{l:List (Nat×ShO)}{x:List D}(e:Shape.decO s ((id,.keep t wit)::l)=some x):∃ v,s.ob id=some (.one t v)/\Shape.decO s l=some x:=by
 grind [Shape.decO,Ty.eq_of_beq]
theorem Cr:∀ {p p':Option Ex},zx p p'=true->p=p'
 | none,none,_=>rfl
 | none,some _,h=>by cases h
 | some _,none,h=>by cases h
 | some e,some e',h=>by
  simp only[zx] at h;cases e<;>cases e'<;>simp only[Ex.is,decide_eq_true_eq] at h<;>first|rfl|(cases h;done)|(subst h;rfl)
def vh{s:St}{id:Nat}{p:Option Ex}{wit:Nat}{l:List (Nat×ShO)}{x:List D}(e:Shape.decO s ((id,.lp p wit)::l)=some x):∃ i,s.ob id=some (.lp i p)/\Shape.decO s l=some x:=by
 grind [Shape.decO,Cr]
def vg{s:St}{id:Nat}{a:AV}{l:List (Nat×ShO)}{x:List D}(e:Shape.decO s ((id,.fv a)::l)=some x):s.ob id=some (.fv a)/\Shape.decO s l=some x:=by
 simp only[Shape.decO] at e;split at e<;>first|(cases e;done)|skip
 split at e<;>first|(cases e;done)|skip
 rename_i h1 h2;rw[qr _ _ h2];exact⟨h1,e⟩
theorem tE{n:Nat}{c c':Cx}(T:Two n c c'):∀ {l:List AV} {vs:List Value},AV.olds n l=true->lO c l vs->lO c' l vs
 | [],[],_,_=>trivial
 | [],_::_,_,k=>k.elim
 | _::_,[],_,k=>k.elim
 | a::l,v::vs,h,k=>by
  simp only[AV.olds,zaa] at h;refine⟨?_,tE T h.2 k.2⟩;have k1:=k.1;unfold qw at k1 ⊢;split at k1
  ·obtain⟨b,e,k2⟩:=k1;simp only[AV.old,decide_eq_true_eq] at h;exact⟨b,e,(T.γ _ h.1).trans k2⟩
  ·exact k1.elim
theorem er.old{n:Nat}{c c':Cx}(T:Two n c c'){a:AV}{v:Value}(h:AV.old n a=true)(hr:j6 a=true)(k:er c a v):er c' a v:=by
 cases a<;>simp only[j6] at hr<;>first|(cases hr;done)|skip
 all_goals simp only[AV.old] at h
 case clo f l=>
  obtain⟨caps,e,k⟩:=k;exact⟨caps,e,tE T h k⟩
 case map kt vt id=>
  obtain⟨b,e,k1,k2⟩:=k;exact⟨b,e,(T.γ id (of_decide_eq_true h)).trans k1,k2⟩
 case yld id=>
  simp only[er,AR,AC] at k ⊢;obtain⟨k1,L,e,k2⟩:=k;exact⟨k1,L,e,(T.γ id (of_decide_eq_true h)).trans k2⟩
def Ia{a b:AV}:(∀ p,dG (.fv a) p=dG (.fv b) p/\bW (.fv a) p=bW (.fv b) p):=λp=>by cases p<;>exact⟨rfl,rfl⟩
def uf{p:Option Ex}{o:Option Ob}{o':Ob}(h:Ob.lpOf p o=some o'):∃ i p0,o=some (.lp i p0)/\o'=.lp i p:=by
 unfold Ob.lpOf at h;grind
theorem eu(s:St):∀ (l:List (Nat×ShO)) (x:List D),Shape.decO s l=some x->∀ v∈Shape.toksO s l,v ∉ s.dead
 | [],x,_=>by simp_all [Shape.toksO]
 | (id,.one t h)::l,x,e=>by
  intro v hv;obtain⟨u,y,z,ho,h1,h2,_⟩:=q9 e;simp only[Shape.toksO,ho] at hv;rcases zDa.1 hv with hv|hv
  ·exact ou h _ y h1 v hv
  ·exact eu s l z h2 v hv
 | (id,.many t)::l,x,e=>by
  obtain⟨u,z,_,h2,_⟩:=oo e;exact eu s l z h2
 | (id,.mp kt vt)::l,x,e=>by
  obtain⟨u,z,_,h2,_⟩:=vi e;exact eu s l z h2
 | (id,.keep t wit)::l,x,e=>by
  obtain⟨u,_,h2⟩:=om e;exact eu s l x h2
 | (id,.lp p wit)::l,x,e=>by
  obtain⟨_,_,h2⟩:=vh e;exact eu s l x h2
 | (id,.fv v)::l,x,e=>by
  obtain⟨_,h2⟩:=vg e;exact eu s l x h2
theorem A3(b:Nat):∀ (l:List (Nat×Sh)) (j:Nat) (s:List D) (f:Nat->AV),(Shape.mkS b l j s f).2=j+Shape.cntS l
 | [],j,s,f=>rfl
 | (t,h)::l,j,s,f=>by simp only[Shape.mkS,A3 b l,oT,Shape.cntS,zvb]
theorem Ey{n b:Nat}{c c':Cx}(T:Two n c c'){s':St}(e1:c.ob=s'.ob)(e2:c.dead=s'.dead):∀ (l:List (Nat×Sh)) (j:Nat) (s x:List D) (f:Nat->AV),Shape.decS s' l=some x->Ak s x j->(∀ p∈l,Sh.fine n p.2=true) ->
  (∀ p∈Jm s' l j,c'.β (b+p.1)=c.β p.2)->∀ i,(i∈l.map (·.1)/\∀ v,AR c (s'.tm i) v->AR c' ((Shape.mkS b l j s f).1 i) v)\/(i ∉ l.map (·.1)/\(Shape.mkS b l j s f).1 i=f i)
 | [],j,s,x,f,e,hs,hf,hb,i=>.inr ⟨by simp,rfl⟩
 | (t,h)::l,j,s,x,f,e,hs,hf,hb,i=>by
  simp only[Shape.decS] at e;obtain⟨y,h1,e⟩:=bind_some_inv e;obtain⟨z,h2,e⟩:=bind_some_inv e;simp only[zca] at e;subst e;simp only[Jm,zDa] at hb;have hr:=hs.right;rw[lh h _ y h1] at hr;simp only[Shape.mkS,oT];rcases Ey T e1 e2 l (j+h.cnt) s z (λi=>if i=t then(Sh.mk b h j s).1 else f i) h2 hr (λp hp=>hf p (by simp[hp])) (λp hp=>hb p (.inr hp)) i with⟨k1,k2⟩|⟨k1,k2⟩
  ·simp_all
  ·by_cases hit:i=t
   ·subst hit;refine .inl ⟨by simp,λv hv=>?_⟩
    rw[k2,if_pos rfl];exact MQ T h _ j s y v (by rw[e1,e2];exact h1) hs.left (hf (i,h) (by simp)) (λp hp=>hb p (.inl hp)) hv
   ·simp_all
def JB(o' o:Ob):Prop:=(∀ p,dG o' p=dG o p/\bW o' p=bW o p)/\(∀ t l,o=.many t l->∃ l',o'=.many t l'/\l'.length=l.length)/\∀ kt vt l,o=.mp kt vt l->∃ l',o'=.mp kt vt l'
def xH{t:Ty}{a b:AV}:JB (.one t a) (.one t b):=⟨λp=>⟨rfl,rfl⟩,(λu l e=>by cases e),λ_ _ l e=>by cases e⟩
def Ib{i i':LpI}{p p':Option Ex}:JB (.lp i p) (.lp i' p'):=⟨λp=>⟨rfl,rfl⟩,(λu l e=>by cases e),λ_ _ l e=>by cases e⟩
def sN{t:Ty}{o:Option Ob}{o':Ob}(h:Ob.still t o=some o'):∃ u x,o=some (.one t (.d u x))/\o'=.one t (.d u x):=by
 unfold Ob.still at h;split at h<;>first|(cases h;done)|skip
 split at h<;>first|(cases h;done)|skip
 rename_i ht;simp only[zca] at h;have:=Ty.eq_of_beq _ _ ht;grind
theorem my{b:Nat}{base:Nat->Option Ob}{s':St}:∀ (l:List (Nat×ShO)) (j:Nat) (s x:List D) (f:Nat->Option Ob),Shape.decO s' l=some x->Ak s x j ->
  ∀ id o',Shape.mkO b base l j s f id=some o'->f id=some o'\/(id∈l.map (·.1)/\∃ o,s'.ob id=some o/\JB o' o)
 | [],j,s,x,f,e,hs,id,o',ho=>.inl ho
 | (t,.one u h)::l,j,s,x,f,e,hs,id,o',ho=>by
  obtain⟨v,y,z,h0,h1,h2,rfl⟩:=q9 e;have hr:=hs.right;rw[lh h _ y h1] at hr;simp only[Shape.mkO,oT] at ho;rcases my l _ s z _ h2 hr id o' ho with k|⟨k1,k2⟩
  ·split at k
   ·rename_i hit;subst hit;simp only[zca] at k;subst k;exact .inr ⟨by simp,_,h0,xH⟩
   ·exact .inl k
  ·simp_all
 | (t,.many u)::l,j,s,x,f,e,hs,id,o',ho=>by
  obtain⟨v,z,h0,h2,rfl⟩:=oo e;have hj:s[j]?=some (.sl v):=by have:=hs 0 (by simp);simpa using this
  have hr:=hs.right;simp only[Shape.mkO] at ho;rcases my l _ s z _ h2 hr id o' ho with k|⟨k1,k2⟩
  ·split at k
   ·rename_i hit;subst hit;simp only[zca,List.getD,hj,zCb,D.els] at k;subst k;exact .inr ⟨by simp,_,h0,λp=>⟨by cases p<;>rfl,by cases p<;>rfl⟩,(λu l e=>by cases e;exact⟨_,rfl,rfl⟩),λ_ _ l e=>by cases e⟩
   ·exact .inl k
  ·simp_all
 | (t,.mp u u')::l,j,s,x,f,e,hs,id,o',ho=>by
  obtain⟨v,z,h0,h2,rfl⟩:=vi e;have hj:s[j]?=some (.sl v):=by have:=hs 0 (by simp);simpa using this
  have hr:=hs.right;simp only[Shape.mkO] at ho;rcases my l _ s z _ h2 hr id o' ho with k|⟨k1,k2⟩
  ·split at k
   ·rename_i hit;subst hit;simp only[zca,List.getD,hj,zCb,D.els] at k;subst k;exact .inr ⟨by simp,_,h0,λp=>⟨rfl,rfl⟩,(λu l e=>by cases e),λ_ _ l e=>by cases e;exact⟨_,rfl⟩⟩
   ·exact .inl k
  ·simp_all
 | (t,.keep u wit)::l,j,s,x,f,e,hs,id,o',ho=>by
  obtain⟨v,h0,h2⟩:=om e;simp only[Shape.mkO] at ho;rcases my l _ s x _ h2 hs id o' ho with k|⟨k1,k2⟩
  ·split at k
   ·rename_i hit;subst hit;obtain⟨u',y,_,rfl⟩:=sN k;exact .inr ⟨by simp,_,h0,xH⟩
   ·exact .inl k
  ·simp_all
 | (t,.lp p wit)::l,j,s,x,f,e,hs,id,o',ho=>by
  obtain⟨v,h0,h2⟩:=vh e;simp only[Shape.mkO] at ho;rcases my l _ s x _ h2 hs id o' ho with k|⟨k1,k2⟩
  ·split at k
   ·rename_i hit;subst hit;obtain⟨i,p0,_,rfl⟩:=uf k;exact .inr ⟨by simp,_,h0,Ib⟩
   ·exact .inl k
  ·simp_all
 | (t,.fv u)::l,j,s,x,f,e,hs,id,o',ho=>by
  obtain⟨h0,h2⟩:=vg e;simp only[Shape.mkO] at ho;rcases my l _ s x _ h2 hs id o' ho with k|⟨k1,k2⟩
  ·split at k
   ·rename_i hit;subst hit;simp only[zca] at k;subst k;exact .inr ⟨by simp,_,h0,Ia,(λu l e=>by cases e),λ_ _ l e=>by cases e⟩
   ·exact .inl k
  ·simp_all
theorem mw{n b:Nat}{c c':Cx}(T:Two n c c'){s' base:St}(e1:c.ob=s'.ob)(e2:c.dead=s'.dead):∀ (l:List (Nat×ShO)) (j:Nat) (s x:List D) (f:Nat->Option Ob),Shape.decO s' l=some x->Ak s x j->(∀ p∈l,ShO.fine n base p.1 p.2=true) ->
  (∀ p∈sP s' l j,c'.β (b+p.1)=c.β p.2)->∀ id o',Shape.mkO b base.ob l j s f id=some o'->f id=some o' ∨
   ∃ o,s'.ob id=some o/\((∀ bl,eR c bl o->eR c' bl o')\/(∃ t wit,(id,ShO.keep t wit)∈l/\Ob.still t (base.ob id)=some o')\/∃ p wit i,(id,ShO.lp p wit)∈l/\o=.lp i p/\Ob.lpOf p (base.ob id)=some o')
 | [],j,s,x,f,e,hs,hf,hb,id,o',ho=>.inl ho
 | (t,.one u h)::l,j,s,x,f,e,hs,hf,hb,id,o',ho=>by
  obtain⟨v,y,z,h0,h1,h2,rfl⟩:=q9 e;have hr:=hs.right;rw[lh h _ y h1] at hr;simp only[Shape.mkO,oT] at ho;simp only[sP,zDa] at hb;rcases mw T e1 e2 l _ s z _ h2 hr (λp hp=>hf p (by simp[hp])) (λp hp=>hb p (.inr hp)) id o' ho with k|⟨o,k1,k2⟩
  ·split at k
   ·rename_i hit;subst hit;simp only[zca] at k;subst k;refine .inr ⟨_,h0,.inl λbl k=>?_⟩;have hfi:=hf (id,.one u h) (by simp)
    simp only[ShO.fine,zaa] at hfi;simp only[eR] at k ⊢;obtain⟨k1,k2,k3,cs,k4,k5,k6⟩:=k;rw[T.w,T.S];refine⟨k1,A4 b h u j s hfi.2,k3,cs,k4,xM T h v j s y cs (by rw[e1,e2];exact h1) hs.left hfi.1 (λp hp=>hb p (.inl ?_)) k5,k6⟩
    simp_all [Fb]
   ·exact .inl k
  ·simp_all
 | (t,.many u)::l,j,s,x,f,e,hs,hf,hb,id,o',ho=>by
  obtain⟨v,z,h0,h2,rfl⟩:=oo e;have hj:s[j]?=some (.sl v):=by have:=hs 0 (by simp);simpa using this
  have hr:=hs.right;simp only[Shape.mkO] at ho;rcases mw T e1 e2 l _ s z _ h2 hr (λp hp=>hf p (by simp[hp])) (λp hp=>hb p hp) id o' ho with k|⟨o,k1,k2⟩
  ·split at k
   ·rename_i hit;subst hit;simp only[zca,List.getD,hj,zCb,D.els] at k;subst k
    simp_all [eR,T.w,T.S]
   ·exact .inl k
  ·simp_all
 | (t,.mp u u')::l,j,s,x,f,e,hs,hf,hb,id,o',ho=>by
  obtain⟨v,z,h0,h2,rfl⟩:=vi e;have hj:s[j]?=some (.sl v):=by have:=hs 0 (by simp);simpa using this
  have hr:=hs.right;simp only[Shape.mkO] at ho;rcases mw T e1 e2 l _ s z _ h2 hr (λp hp=>hf p (by simp[hp])) (λp hp=>hb p hp) id o' ho with k|⟨o,k1,k2⟩
  ·split at k
   ·rename_i hit;subst hit;simp only[zca,List.getD,hj,zCb,D.els] at k;subst k;refine .inr ⟨_,h0,.inl λbl k=>?_⟩;simp only[eR] at k ⊢;obtain⟨q1,q2,q3,es,q4,q5⟩:=k;rw[T.w,T.S];exact⟨q1,q2,q3,es,q4,gK.same T.w T.S q5⟩
   ·exact .inl k
  ·simp_all
 | (t,.keep u wit)::l,j,s,x,f,e,hs,hf,hb,id,o',ho=>by
  obtain⟨v,h0,h2⟩:=om e;simp only[Shape.mkO] at ho;rcases mw T e1 e2 l _ s x _ h2 hs (λp hp=>hf p (by simp[hp])) (λp hp=>hb p hp) id o' ho with k|⟨o,k1,k2⟩
  ·grind
  ·grind
 | (t,.lp p wit)::l,j,s,x,f,e,hs,hf,hb,id,o',ho=>by
  obtain⟨v,h0,h2⟩:=vh e;simp only[Shape.mkO] at ho;rcases mw T e1 e2 l _ s x _ h2 hs (λp hp=>hf p (by simp[hp])) (λp hp=>hb p hp) id o' ho with k|⟨o,k1,k2⟩
  ·grind
  ·grind
 | (t,.fv u)::l,j,s,x,f,e,hs,hf,hb,id,o',ho=>by
  obtain⟨h0,h2⟩:=vg e;simp only[Shape.mkO] at ho;rcases mw T e1 e2 l _ s x _ h2 hs (λp hp=>hf p (by simp[hp])) (λp hp=>hb p hp) id o' ho with k|⟨o,k1,k2⟩
  ·split at k
   ·rename_i hit;subst hit;simp only[zca] at k;subst k;have hfi:=hf (id,.fv u) (by simp)
    simp only[ShO.fine,zaa] at hfi;refine .inr ⟨_,h0,.inl λbl k=>?_⟩;obtain⟨k1,x,k2,k3,k4⟩:=k;simp only[eR];rw[T.w,T.S];exact⟨k1,x,k2,k3.old T hfi.1 hfi.2,k4⟩
   ·exact .inl k
  ·grind
theorem uy:∀ {l:List (Nat×Nat)},cS (l.map Prod.snd)=true->∀ p∈l,∀ q∈l,p.2=q.2->p=q
 | [],_,p,hp,_,_,_=>by cases hp
 | x::l,h,p,hp,q,hq,e=>by
  simp only[z7a,cS,zaa,zxa] at h;have hx:∀ y∈l,y.2≠x.2:=λy hy hxy=>by
   grind
  rcases zva.1 hp with rfl|hp'
  ·simp_all
  ·rcases zva.1 hq with rfl|hq'
   ·simp_all
   ·exact uy h.2 p hp' q hq' e
theorem pG:∀ {l:List (Nat×ShO)} {id:Nat} {t:Ty} {wit:Nat},(id,ShO.keep t wit)∈l->id∈bU l
 | [],_,_,_,h=>by cases h
 | (i,o)::l,id,t,wit,h=>by
  rcases zva.1 h with k|k
  ·grind [bU]
  ·have ih:=pG k;cases o<;>simp only[bU]<;>first
    | exact ih
    | exact zma _ ih
theorem nu:∀ {l:List (Nat×ShO)} {id:Nat} {p:Option Ex} {wit:Nat},(id,ShO.lp p wit)∈l->id∈bU l
 | [],_,_,_,h=>by cases h
 | (i,o)::l,id,p,wit,h=>by
  rcases zva.1 h with k|k
  ·grind [bU]
  ·have ih:=nu k;cases o<;>simp only[bU]<;>first
    | exact ih
    | exact zma _ ih
section
variable{w0:Root}{w w':World}{S S':Nat->Nat->Prop}{γ γ':Nat->Option Nat}{β β':Nat->Option (Nat×Nat)}{s s':St}{a a':Act}
def kU(h0:Rp w0 S γ β s a w)(h1:Rp w0 S' γ' β' s' a' w')(hsub:∀ b o,S b o->S' b o)(hcell:∀ b o,S b o->w'.cell? ⟨b,o,none⟩=w.cell? ⟨b,o,none⟩)(hnt:s'.nt=s.nt){h:Shape}
  (hs:∀ t∈h.keepS,a'.tmps.getD t undef=a.tmps.getD t undef) (hgam:∀ id b,γ id=some b->γ' id=some b) (ho:∀ id∈bU h.objs,∀ b,γ id=some b->γ' id=some b/\ic w w' b) {v:List D} (hd:h.dec s s'=some v) (lkS lkO:List Nat) :
  ∃ γ'' β'',Rp w0 S' γ'' β'' (h.mk' s v lkS lkO) a' w'/\∀ id,id<s.base+4096->γ'' id=γ' id:=by
 unfold Shape.dec at hd;split at hd<;>first|(cases hd;done)|skip
 rename_i hg;simp only[zaa] at hg;obtain⟨hg,htok⟩:=hg;obtain⟨x,hx,hd⟩:=bind_some_inv hd;obtain⟨y,hy,hd⟩:=bind_some_inv hd;simp only[zca] at hd;subst hd;simp only[Shape.good,zaa,zja,decide_eq_true_eq] at hg;obtain⟨⟨⟨⟨hg1,hg2⟩,hg3⟩,hg4⟩,hg5⟩:=hg;have hlx:=w7 s' h.slots x hx;obtain⟨n,hn⟩:∃ n,n=(s.fresh+1)*4096:=⟨_,rfl⟩;have hbase:s.base+4096=n:=by rw[hn];simp only[St.base];omega
 rw[<-hn] at hg3 hg4;obtain⟨tl,htl⟩:∃ tl,tl=Jm s' h.slots 0++sP s' h.objs (Shape.cntS h.slots):=⟨_,rfl⟩;have hpl:Pl tl 0 (Shape.cntS h.slots+Shape.cntO h.objs):=by
  rw[htl];have p1:=Fc s' h.slots 0;rw[z1a] at p1;exact p1.append (mF s' h.objs _) (by omega) (by omega)
 have hsnd:cS (tl.map Prod.snd)=true:=by rw[htl,zhc,wo,iC];exact htok
 have halive:∀ p∈tl,p.2 ∉ s'.dead:=λp hp=>by
  rw[htl] at hp;rcases zDa.1 hp with hp|hp
  ·exact rd s' _ x hx _ (by rw[<-wo s' _ 0];exact zQb hp)
  ·exact eu s' _ y hy _ (by rw[<-iC s' _ (Shape.cntS h.slots)];exact zQb hp)
 obtain⟨γ'',hγ⟩:∃ γ'':Nat->Option Nat,γ''=λid=>if id<n then γ' id else none:=⟨_,rfl⟩
 obtain⟨β'',hβ⟩:∃ β'':Nat->Option (Nat×Nat),β''=λu=>if n<=u then(tl.find? λp=>p.1==u-n).bind λp=>β' p.2 else none:=⟨_,rfl⟩
 have hγ1:∀ id,id<n->γ'' id=γ' id:=λid hi=>by rw[hγ];simp[hi]
 have hγ2:∀ id b,γ'' id=some b->id<n/\γ' id=some b:=λid b hb=>by
  rw[hγ] at hb;simp only at hb;split at hb
  ·rename_i hi;exact⟨hi,hb⟩
  ·cases hb
 have hβ1:∀ p∈tl,β'' (n+p.1)=β' p.2:=λp hp=>by
  rw[hβ];simp only[zFc,if_true,zub];cases hfd:tl.find? λq=>q.1==p.1 with
  | none=>
   have:=List.find?_eq_none.1 hfd p hp;simp at this
  | some q=>
   have h1:=List.find?_some hfd;have h2:=List.mem_of_find?_eq_some hfd;rw[hpl.2 q h2 p hp (by simpa using h1)]
   rfl
 have hβ2:∀ u b,β'' u=some b->∃ p∈tl,u=n+p.1/\β' p.2=some b:=λu b hb=>by
  rw[hβ] at hb;simp only at hb;split at hb<;>first|(cases hb;done)|skip
  rename_i hu;obtain⟨p,h1,h2⟩:=bind_some_inv hb;refine⟨p,List.mem_of_find?_eq_some h1,?_,h2⟩;have:=List.find?_some h1;simp only[beq_iff_eq] at this;omega
 have hat1:Ak (x++y) x 0:=λi hi=>by rw[z1a,zdb hi]
 have hat2:Ak (x++y) y (Shape.cntS h.slots):=λi hi=>by rw[<-hlx,ztb (by omega),zub]
 obtain⟨ob'',hob⟩:∃ ob'',ob''=(h.mk' s (x++y) lkS lkO).ob:=⟨_,rfl⟩;have hob':ob''=Shape.mkO n s.ob h.objs (Shape.cntS h.slots) (x++y) (λ_=>none):=by
  rw[hob];simp only[Shape.mk',A3,z1a,<-hn]
 have T:Two n ⟨w',S',γ',β',s'.ob,s'.dead⟩ ⟨w',S',γ'',β'',ob'',[]⟩:=by
  refine⟨rfl,rfl,hγ1,λid hi o' ho'=>?_⟩;rw[hob'] at ho';rcases my h.objs _ _ y _ hy hat2 id o' ho' with k|⟨_,o,k1,k2⟩
  ·cases k
  ·exact⟨o,k1,k2.1,k2.2⟩
 have hszeq:a'.tmps.size=a.tmps.size:=by rw[h1.nt,hnt,h0.nt]
 have htm:(h.mk' s (x++y) lkS lkO).tm=(Shape.mkS n h.slots 0 (x++y) (λi=>if h.keepS.contains i then(s.tm i).still else .undef)).1:=by
  simp only[Shape.mk',<-hn]
 have hkeep:=Ey (b:=n) T (s':=s') rfl rfl h.slots 0 (x++y) x (λi=>if h.keepS.contains i then(s.tm i).still else .undef) hx hat1 (λp hp=>(hg4 p hp).2) (λp hp=>hβ1 p (by rw[htl];exact zab _ hp))
 refine⟨γ'',β'',⟨h1.ext,λt ht=>?_,?_,λt ht=>?_,λid o b hio hb=>?_,λid b hb=>h1.γn id b (hγ2 id b hb).2,λid id' b hb hb'=>h1.γi id id' b (hγ2 id b hb).2 (hγ2 id' b hb').2,λid hi=>?_,λu b e _ hb=>?_,λu u' b e e' _ _ hb hb'=>?_,λu id b e _ hb hid=>?_,λu hu=>?_,h1.Sb,h1.So⟩,λid hi=>hγ1 id (by omega)⟩
 ·rw[htm,<-hob];rcases hkeep t with⟨k1,k2⟩|⟨k1,k2⟩
  ·exact k2 _ (h1.tms t ht)
  ·rw[k2];by_cases hk:h.keepS.contains t=true
   ·have hk':t∈h.keepS:=by simpa using hk
    rw[if_pos hk,hs t hk'];exact kW (c:=⟨w,S,γ,β,s.ob,s.dead⟩) hcell hsub (h0.tms t (by rw[<-hszeq];exact ht))
   ·rw[if_neg hk];simp only[AR]
 ·show a'.tmps.size=s.nt;rw[h1.nt,hnt]
 ·have ht':s.nt<=t:=ht;rw[htm];rcases hkeep t with⟨k1,k2⟩|⟨k1,k2⟩
  ·obtain⟨p,hp,rfl⟩:=zsb.1 k1;have:=(hg4 p hp).1;omega
  ·rw[k2];split
   ·rw[h0.tmu t ht'];rfl
   ·rfl
 ·have hb':=(hγ2 id b hb).2;rw[<-hob] at hio ⊢;have hio':=hio;rw[hob'] at hio';rcases mw (b:=n) (base:=s) T (s':=s') rfl rfl h.objs (Shape.cntS h.slots) (x++y) y _ hy hat2 (λp hp=>(hg3 p hp).2) (λp hp=>hβ1 p (by rw[htl];exact z4a _ hp)) id o hio' with k|⟨o0,k1,k2|⟨t,wit,k2,k3⟩|⟨p,wit,i1,k2,rfl,k3⟩⟩
  ·cases k
  ·exact k2 b (h1.obs id o0 b k1 hb')
  ·have hfi:=(hg3 _ k2).2;simp only[ShO.fine] at hfi;split at hfi<;>first|(cases hfi;done)|skip
   rename_i u id' p hw;simp only[zaa,decide_eq_true_eq] at hfi;obtain⟨rfl,hwn⟩:=hfi;have hA:=h0.tms wit (by rw[h0.nt];exact hwn)
   rw[hw] at hA;simp only[AR,AC] at hA;obtain⟨_,b0,off,_,hγ0,_⟩:=hA;obtain⟨q1,q2⟩:=ho id (pG k2) b0 hγ0;rw[hb'] at q1;simp only[zca] at q1;subst q1;obtain⟨u',x',hob0,rfl⟩:=sN k3;have hO:=h0.obs id _ b hob0 hγ0;have hO1:=h1.obs id o0 b k1 hb';simp only[eR,AC] at hO ⊢;obtain⟨r1,r2,_,cs,r3,⟨r4,r5,r6⟩,r7⟩:=hO;have q2:=q2.row r3;have hnS:∀ o,¬ S' b o:=by
    cases o0
    case lp i p=>
     simp only[eR] at hO1;obtain⟨rr,z1,_⟩:=hO1;rw[q2] at z1;simp[bx,z1] at r3
    case fv v=>exact hO1.1
    all_goals (simp only[eR] at hO1;exact hO1.2.2.1)
   refine⟨r1,r2,hnS,cs,?_,⟨r4,r5,r6.mono hcell hsub⟩,r7⟩;simp only[bx,q2];exact r3
  ·have hfi:=(hg3 _ k2).2;simp only[ShO.fine,zaa,decide_eq_true_eq] at hfi;obtain⟨hfi,hwn⟩:=hfi;have hA:=h0.tms wit (by rw[h0.nt];exact hwn)
   obtain⟨b0,hγ0⟩:∃ b0,γ id=some b0:=by
    split at hfi<;>first|(cases hfi;done)|skip
    ·rename_i id' hw;have e:=of_decide_eq_true hfi;subst e;rw[hw] at hA;simp only[AR,AC] at hA;obtain⟨_,b0,_,hγ0⟩:=hA;exact⟨b0,hγ0⟩
    ·rename_i v hw;rw[hw] at hA;split at hfi<;>first|(cases hfi;done)|skip
     rename_i id' hv;have e:=of_decide_eq_true hfi;subst e;obtain⟨bv,_,_,hγv,_⟩:=jr hA;obtain⟨_,x,_,k,_⟩:=h0.obs v _ bv hv hγv;simp only[er,AR,AC] at k;obtain⟨_,b0,_,hγ0⟩:=k;exact⟨b0,hγ0⟩
   obtain⟨q1,q2⟩:=ho id (nu k2) b0 hγ0;rw[hb'] at q1;simp only[zca] at q1;subst q1;obtain⟨i,p0,hob0,rfl⟩:=uf k3;have hO:=h0.obs id _ b hob0 hγ0;have hO1:=h1.obs id _ b k1 hb';simp only[eR] at hO hO1 ⊢;obtain⟨rec,r1,⟨r2,r3,r4,r5⟩,r6,_⟩:=hO;obtain⟨rec',v1,_,_,v4⟩:=hO1;have e:yN rec rec':=by
    rcases q2 with k|⟨r,r',z1,z2,z3⟩
    ·rw[v1,r1] at k;cases k;exact⟨rfl,rfl,rfl,rfl⟩
    ·rw[r1] at z1;cases z1;rw[v1] at z2;cases z2;exact z3
   refine⟨rec',v1,⟨by rw[e.1];exact r2,by rw[e.2.1];exact r3,by rw[e.2.2.1];exact r4,by rw[e.2.2.2];exact r5⟩,λt ht=>?_,v4⟩
   rw[e.1];refine er.mono (c:=⟨w,S,γ,β,s.ob,s.dead⟩) hcell hsub (λj bj hj=>?_) (r6 t ht);rcases zla j n with k|k
   ·exact(hγ1 j k).trans (hgam j bj hj)
   ·have hj':γ j=some bj:=hj;rw[h0.γf j (by omega)] at hj';cases hj'
 ·have hi':(s.fresh+1)*4096+4096<=id:=hi;rw[hγ];simp only;rw[if_neg (by omega)]
 ·obtain⟨p,hp,_,hb'⟩:=hβ2 u _ hb;exact h1.βn _ b e (halive p hp) hb'
 ·obtain⟨p,hp,rfl,k⟩:=hβ2 u _ hb;obtain⟨q,hq,rfl,k'⟩:=hβ2 u' _ hb';have:=h1.βi _ _ b e e' (halive p hp) (halive q hq) k k';rw[uy hsnd p hp q hq this]
 ·obtain⟨p,hp,_,hb'⟩:=hβ2 u _ hb;exact h1.βγ _ id b e (halive p hp) hb' (hγ2 id b hid).2
 ·have hu':(s.fresh+1)*4096+4096<=u:=hu;cases hc:β'' u with
  | none=>rfl
  | some b=>
   obtain⟨p,hp,e,_⟩:=hβ2 u b hc;have:=(hpl.1 p hp).2;omega
end
end Sy
end
noncomputable section
namespace Sy
open Go
variable{ro:Option Nat}{nn:Nat}
section
variable{P:Program}{E:Env}{w0:Root}{S:Nat->Nat->Prop}{γ:Nat->Option Nat}{β:Nat->Option (Nat×Nat)}{s:St}{a:Act}{w:World}
def Fm.tr{s s1:St}{S S1 S2:Nat->Nat->Prop}{γ γ1 γ2:Nat->Option Nat}{a a1 a2:Act}{w w1 w2:World}(h:Fm s S γ a w S1 γ1 a1 w1)(k:Fm s1 S1 γ1 a1 w1 S2 γ2 a2 w2)(e:Sk s s1):Fm s S γ a w S2 γ2 a2 w2:=h.trans k e.lkS e.lkO
def qj(s:St)(t:Nat):St:=
 match s.tm t with
  | .mem t' id=>match s.ob id with
   | some (.many u l)=>if t'.beq u&&!(s.lkO.contains id) then{ s.setOb id none with tm:=λi=>if i=t then .d (.sl u) (.sl l) else s.tm i } else s
   | _=>s
  | _=>s
def xj(s:St)(t:Nat)(l:List Nat):fB s (t::l)=fB (qj s t) l:=rfl
def ze(h:Rp w0 S γ β s a w)(t:Nat):∃ S',Rp w0 S' γ β (qj s t) a w/\Fm s S γ a w S' γ a w/\Sm s (qj s t):=by
 have triv:∃ S',Rp w0 S' γ β s a w/\Fm s S γ a w S' γ a w/\Sm s s:=⟨S,h,Fm.refl _ _ _ _ _,Sm.refl s⟩;unfold qj;split
 ·rename_i t' id hm;split
  ·rename_i u l ho;split
   ·rename_i hc;simp only[zaa,zxa] at hc;obtain⟨hc1,hc2⟩:=hc;have hu:=Ty.eq_of_beq _ _ hc1;subst hu;have ht:t<a.tmps.size:=by
     rcases zla t a.tmps.size with k|k
     ·exact k
     ·have:=h.tmu t (by rw[<-h.nt];exact k)
      simp_all
    have hA:=h.tms t ht;rw[hm] at hA;simp only[AR,AC] at hA;obtain⟨hna,hnt,b,hγ,hA⟩:=hA;obtain⟨l',e1,hv⟩:=hA _ ho;simp only[Ob.many.injEq,true_and] at e1;subst e1;have hO:=h.obs id _ b ho hγ;simp only[eR] at hO;obtain⟨_,hwt,hnS,cs,hrow,hcs⟩:=hO;obtain⟨S',hS'⟩:∃ S':Nat->Nat->Prop,S'=λb' o=>S b' o\/b'=b:=⟨_,rfl⟩;have hsub:∀ b' o,S b' o->S' b' o:=λb' o hb=>by rw[hS'];exact .inl hb
    have hle:Cx.le ⟨w,S,γ,β,s.ob,s.dead⟩ ⟨w,S',γ,β,(s.setOb id none).ob,s.dead⟩:=by
     refine⟨λ_ _ _=>rfl,hsub,λ_ _ k=>k,λi o hi _=>?_,λv hv=>⟨hv,λb e he=>⟨he,λn hn=>hn⟩⟩⟩
     simp_all [St.setOb]
    refine⟨S',⟨h.ext,λi hi=>?_,h.nt,λi hi=>?_,λi o b' hi hb'=>?_,h.γn,h.γi,h.γf,λv b' e hvd he=>?_,h.βi,h.βγ,h.βf,λb' o hb=>?_,λb' o hb hlt=>?_⟩,⟨hsub,λ_ _ _=>rfl,λ_ _=>rfl,λ_ _ _ hb=>⟨hb,ic.refl _ _⟩,zha _,λ_ _ hb=>hb,jp.same rfl (cG.refl _)⟩,⟨rfl,rfl,rfl,rfl⟩⟩
    ·by_cases hit:i=t
     ·subst hit;simp only[if_true];have hval:=ap hna hv;rw[hval];refine c9 (by simpa only[am] using hnt) (by simp only[wt];exact⟨l,rfl,hwt⟩) (fj.of_CR ?_)
      refine CR.of_elems (b:=b) (off:=0) (.inr rfl) (zha _) ⟨cs,hcs.mono (λ_ _ _=>rfl) hsub,λi c hc=>⟨by rw[hS'];exact .inr rfl,?_⟩⟩
      rw[z1a,cell_of_row w hrow];simpa using hc
     ·simp only[if_neg hit];exact(h.tms i hi).mono hle
    ·have hi':s.nt<=i:=hi;have hit:i≠t:=λe=>by rw[h.nt] at ht;omega
     simp only[if_neg hit];exact h.tmu i hi'
    ·simp only[St.setOb] at hi;split at hi<;>first|(cases hi;done)|skip
     rename_i hne;refine(h.obs i o b' hi hb').mono hle rfl λo ho'=>?_;have ho2:S' b' o:=ho';rw[hS'] at ho2;rcases ho2 with k|k
     ·exact k
     ·subst k;exact absurd (h.γi i id b' hb' hγ) hne
    ·obtain⟨k1,k2,k3⟩:=h.βn v b' e hvd he;refine⟨k1,k2,λo ho' hs=>?_⟩;rw[hS'] at hs;rcases hs with k|k
     ·exact k3 o ho' k
     ·subst k;exact h.βγ v id b' e hvd he hγ
    ·rw[hS'] at hb;rcases hb with k|k
     ·exact h.Sb b' o k
     ·subst k;exact(h.γn id b' hγ).2
    ·rw[hS'] at hb;rcases hb with k|k
     ·exact h.So b' o k hlt
     ·subst k;exact absurd hlt (h.γn id b' hγ).1
   ·exact triv
  ·exact triv
 ·omega
theorem oH:∀ (l:List Nat) {S:Nat->Nat->Prop} {s:St},Rp w0 S γ β s a w->∃ S',Rp w0 S' γ β (fB s l) a w/\Fm s S γ a w S' γ a w/\Sm s (fB s l)
 | [],S,s,h=>⟨S,h,Fm.refl _ _ _ _ _,Sm.refl s⟩
 | t::l,S,s,h=>by
  obtain⟨S1,h1,f1,m1⟩:=ze h t;obtain⟨S2,h2,f2,m2⟩:=oH l h1;rw[xj];exact⟨S2,h2,f1.trans f2 m1.lkS m1.lkO,m1.trans m2⟩
def pK(E:Env)(s:St)(o:Oper):St:=match o.op,o.dst with
  | .alloc T,some d=>match E.alOb T with
   | some x=>s.setOb (s.base+d) (some x)
   | none=>s
  | _,_=>s
def oV(E:Env)(o:Oper)(l:List Oper)(s:St):gB E (o::l) s=gB E l (pK E s o):=rfl
def Rp.freeOb(h:Rp w0 S γ β s a w){id:Nat}(hγ:γ id=none)(o:Option Ob):Rp w0 S γ β (s.setOb id o) a w:=by
 have hle:Cx.le ⟨w,S,γ,β,s.ob,s.dead⟩ ⟨w,S,γ,β,(s.setOb id o).ob,s.dead⟩:=by
  refine⟨λ_ _ _=>rfl,λ_ _ k=>k,λ_ _ k=>k,λi x hx hb=>?_,λv hv=>⟨hv,λb e he=>⟨he,λn hn=>hn⟩⟩⟩;simp only[St.setOb] at hx;split at hx
  ·simp_all
  ·simp_all
 refine⟨h.ext,λi hi=>(h.tms i hi).mono hle,h.nt,h.tmu,λi x b hx hb=>?_,h.γn,h.γi,h.γf,h.βn,h.βi,h.βγ,h.βf,h.Sb,h.So⟩;simp only[St.setOb] at hx;split at hx
 ·simp_all
 ·exact(h.obs i x b hx hb).mono hle rfl λ_ k=>k
def kK(E:Env)(s:St)(o:Oper):pK E s o=s\/∃ T d t,o.op=.alloc T/\o.dst=some d/\E.alOb T=some t/\pK E s o=s.setOb (s.base+d) (some t):=by
 all_goals grind [pK]
def EN(h:Rp w0 S γ β s a w)(hg:∀ d,γ (s.base+d)=none)(o:Oper):Rp w0 S γ β (pK E s o) a w/\Sm s (pK E s o):=by
 rcases kK E s o with e|⟨T,d,t,_,_,_,e⟩
 ·rw[e];exact⟨h,Sm.refl s⟩
 ·rw[e];exact⟨h.freeOb (hg d) _,rfl,rfl,rfl,rfl⟩
def Sm.base_eq{s s':St}(h:Sm s s'):s'.base=s.base:=by simp only[St.base,h.fresh]
def Be(l:List Oper){s:St}(h:Rp w0 S γ β s a w)(hg:∀ d,γ (s.base+d)=none):Rp w0 S γ β (gB E l s) a w/\Sm s (gB E l s):=by
 induction l generalizing s with
 | nil=>exact And.intro h (Sm.refl s)
 | cons o l ih=>
  rw[oV];obtain⟨h1,h2⟩:=EN (E:=E) h hg o;obtain⟨k1,k2⟩:=ih h1 (by rw[h2.base_eq];exact hg)
  exact⟨k1,h2.trans k2⟩
theorem mC:∀ (l:List Oper) {s:St} {d:Nat},(∀ o∈l,o.dst≠some d)->(gB E l s).ob (s.base+d)=s.ob (s.base+d)
 | [],s,d,_=>rfl
 | o::l,s,d,h=>by
  rw[oV];rcases kK E s o with e|⟨T,d',t,_,e2,_,e⟩
  ·rw[e];exact mC l λo ho=>h o (by simp[ho])
  ·rw[e];have:=mC l (s:=s.setOb (s.base+d') (some t)) (d:=d) λo ho=>h o (by simp[ho])
   have hb:(s.setOb (s.base+d') (some t)).base=s.base:=rfl;rw[hb] at this;rw[this];have hne:d'≠d:=λe=>h o (by simp) (by rw[e2,e])
   simp only[St.setOb];grind
theorem vN:∀ (l:List Oper) {s:St} {o:Oper} {T:TypeId} {d:Nat} {t:Ob},cS (l.filterMap (·.dst))=true->o∈l->o.op=.alloc T->o.dst=some d->E.alOb T=some t->(gB E l s).ob (s.base+d)=some t
 | [],_,_,_,_,_,_,h,_,_,_=>by cases h
 | x::l,s,o,T,d,t,hn,ho,e1,e2,e3=>by
  have hn':cS (l.filterMap (·.dst))=true:=by
   rw[List.filterMap_cons] at hn;split at hn
   ·exact hn
   ·simp_all [cS,zaa]
  rw[oV];have hb:(pK E s x).base=s.base:=by rcases kK E s x with e|⟨_,_,_,_,_,_,e⟩<;>rw[e]<;>rfl
  rcases zva.1 ho with rfl|ho'
  ·rw[<-hb,mC l λo' ho'=>λe=>dD hn [] l o o' rfl ho' d e e2]
   simp_all [pK,e1,e2,e3,St.setOb]
  ·rw[<-hb];exact vN l hn' ho' e1 e2 e3
theorem ML{e e':Ex}(h:e.is e'=true):e=e':=by
 cases e<;>cases e'<;>simp only[Ex.is,decide_eq_true_eq] at h<;>first|rfl|(cases h;done)|(rw[h])
theorem pC{e:Ex}:∀ {l:List (Ex×Shape)} {i j:Nat} {h:Shape},rz e l i=some (j,h)->i<=j/\l[j-i]?=some (e,h)
 | [],_,_,_,k=>by simp[rz] at k
 | (e',h')::l,i,j,h,k=>by
  simp only[rz] at k;split at k
  ·grind [Option.some.injEq,Prod.mk.injEq,ML]
  ·obtain⟨k1,k2⟩:=pC k;grind
theorem ik{R:Type}{base:St}{k:Ex->St->Option R}{kS kO:List Nat}{r:R}{e:Ex}{h:Shape}{v:List D}:∀ {l:List (Ex×Shape)} {i j:Nat},i<=j->l[j-i]?=some (e,h)->kr base k kS kO l i (j,v)=some r ->
  k e (h.mk' base v base.lkS base.lkO)=some r/\subset h.keepS kS=true/\subset (bU h.objs) kO=true
 | [],_,_,_,hl,_=>by simp at hl
 | [(e',h')],i,j,hij,hl,hc=>by
  have:j-i=0:=by
   grind
  rw[this] at hl;simp only[zDb,zca,Prod.mk.injEq] at hl
  simp_all [kr,zaa]
 | (e',h')::x::l,i,j,hij,hl,hc=>by
  simp only[kr] at hc;split at hc<;>first|(cases hc;done)|skip
  rename_i hs;simp only[zaa] at hs;split at hc
  ·simp_all
  ·rename_i hji;refine ik (i:=i+1) (by omega) ?_ hc
   grind
def eM{l l':List Nat}(h:subset l l'=true):∀ x∈l,x∈l':=λx hx=>by
 have:=zja.1 h x hx
 simp_all
def Rp.lk(h:Rp w0 S γ β s a w)(lkS lkO:List Nat):Rp w0 S γ β { s with lkS:=lkS,lkO:=lkO } a w:=
 ⟨h.ext,h.tms,h.nt,h.tmu,h.obs,h.γn,h.γi,h.γf,h.βn,h.βi,h.βγ,h.βf,h.Sb,h.So⟩
def Fm.shape{s2:St}{S':Nat->Nat->Prop}{γ' γ'':Nat->Option Nat}{a':Act}{w':World}(h0:Rp w0 S γ β s a w)(h:Fm s2 S γ a w S' γ' a' w')(hg:∀ id,id<s.base+4096->γ'' id=γ' id):Fm s2 S γ a w S' γ'' a' w':=
 ⟨h.sub,h.cell,h.slots,λid hid b hb=>by
  obtain⟨k1,k2⟩:=h.objs id hid b hb;refine⟨?_,k2⟩;rw[hg id ?_]
  ·exact k1
  ·rcases zla id (s.base+4096) with k|k
   ·exact k
   ·rw[h0.γf id k] at hb;exact absurd hb (by simp),h.sz,λid b hb=>by
  rw[hg id ?_]
  ·exact h.gam id b hb
  ·rcases zla id (s.base+4096) with k|k
   ·exact k
   ·rw[h0.γf id k] at hb;exact absurd hb (by simp),h.dfs⟩
def pi{base:St}{exits:List (Ex×Shape)}{e:Ex}{s':St}{r:Nat×List D}(h:zW base exits e s'=some r):∃ sh,exits[r.1]?=some (e,sh)/\sh.dec base s'=some r.2:=by
 unfold zW at h;obtain⟨q,h1,h⟩:=bind_some_inv h;obtain⟨v,h2,h⟩:=bind_some_inv h;simp only[zca] at h;subst h;obtain⟨_,h3⟩:=pC h1
 simp_all
end
end Sy
end
noncomputable section
namespace Sy
open Go
open Go.ChangeMaps (setBlock)
open Go.RowKit
variable{ro:Option Nat}{nn:Nat}
section
variable{P:Program}{E:Env}{w0:Root}{S:Nat->Nat->Prop}{γ:Nat->Option Nat}{β:Nat->Option (Nat×Nat)}{s:St}{a:Act}{w:World}
def Kp(Q:Exit->Act->World->Prop)(w0:Root)(s:St)(S:Nat->Nat->Prop)(γ:Nat->Option Nat)(a:Act)(w:World){R:Type}(k:Ex->St->Option R)(r:R):Prop:=
 ∀ e s' S' γ' β' a' w',Rp w0 S' γ' β' s' a' w'->Fm s S γ a w S' γ' a' w'->Sk s s'->k e s'=some r->Q (D7 e) a' w'
def Fd{c:Cx}{x:AV}{v:Value}(h:AR c x v):er c (g7 c.ob x) v:=by
 cases x<;>simp only[g7]<;>first|(simp only[er];done)|skip
 case d t y=>exact h
 case own t u l=>exact kW (c:=c) (c':=c) (λ_ _ _=>rfl) (λ_ _ h=>h) h
 case fptr t y=>exact h
 case ptr t id p=>
  cases p with
  | cons i p=>simp only[er]
  | nil=>
   simp only;split
   ·rename_i ho;simp only[AR] at h;simp only[er,qw];exact uD ho h.1 h.2
   ·simp only[er]
 case clo f l=>exact Bh h
 case yld id=>exact h
 case map kt vt id=>exact Bi h
def Rp.act(h:Rp w0 S γ β s a w){a':Act}(ht:a'.tmps=a.tmps):Rp w0 S γ β s a' w:=
 ⟨h.ext,by rw[ht];exact h.tms,by rw[ht];exact h.nt,h.tmu,h.obs,h.γn,h.γi,h.γf,h.βn,h.βi,h.βγ,h.βf,h.Sb,h.So⟩
def D3(hro:∀ l,ro=some l->∃ r0,w.heap[l]?=some (Obj.loop r0))(fid:FuncId)(tmps:Array Value)(ps:Array Tmp)(asg bdy:Code) :
  ∃ L mark os rec,(Instr.enterLoop fid tmps ps asg bdy ro).run P w=.ok (L,mark) (grown w os w.drawn)/\(grown w os w.drawn).heap[L]?=some (Obj.loop rec)/\rec.tmps=tmps/\rec.params=ps/\rec.assign=asg/\rec.body=bdy/\rec.state=.ready/\rec.pending=none ∧
   w.heap.size<=L/\cd w.heap.size (grown w os w.drawn) (grown w os w.drawn).heap.size mark:=by
 cases ro with
 | none=>
  obtain⟨W1,hW1⟩:∃ W1,W1=(w.alloc (.deferred (some []))).alloc (.loop { state:=.ready,pending:=none,fn:=fid,tmps,params:=ps,assign:=asg,body:=bdy,defers:=w.heap.size }):=⟨_,rfl⟩;have hgr:W1=grown w [.deferred (some []),.loop { state:=.ready,pending:=none,fn:=fid,tmps,params:=ps,assign:=asg,body:=bdy,defers:=w.heap.size }] w.drawn:=by
   rw[hW1];unfold grown;show({ w with heap:=(w.heap.push _).push _ }:World)=_;congr 1<;>(apply z4b;simp)
  have hL1:W1.heap[w.heap.size+1]?=some (.loop { state:=.ready,pending:=none,fn:=fid,tmps,params:=ps,assign:=asg,body:=bdy,defers:=w.heap.size }):=by
   rw[hW1];have:=World.alloc_heap_new (w.alloc (.deferred (some []))) (.loop { state:=.ready,pending:=none,fn:=fid,tmps,params:=ps,assign:=asg,body:=bdy,defers:=w.heap.size });rwa [World.size_alloc] at this
  have hK1:W1.heap[w.heap.size]?=some (.deferred (some [])):=by
   rw[hW1];exact(Below.heap_alloc _ _ _ (by simp)).trans (World.alloc_heap_new w _)
  refine⟨w.heap.size+1,[{ target:=.collected w.heap.size,args:=#[] }],[.deferred (some []),.loop { state:=.ready,pending:=none,fn:=fid,tmps,params:=ps,assign:=asg,body:=bdy,defers:=w.heap.size }],{ state:=.ready,pending:=none,fn:=fid,tmps,params:=ps,assign:=asg,body:=bdy,defers:=w.heap.size },(run_enterLoop_outer fid tmps ps asg bdy).trans ?_,?_,rfl,rfl,rfl,rfl,rfl,rfl,zlc _,w.heap.size,rfl,zha _,?_,?_,trivial⟩
  rotate_left 1
  ·simp_all
  rotate_left 1
  ·simp_all
  ·simp_all
  ·grind
 | some l0=>
  obtain⟨r0,h0⟩:=hro l0 rfl;obtain⟨W1,hW1⟩:∃ W1,W1=w.alloc (.loop { state:=.ready,pending:=none,fn:=fid,tmps,params:=ps,assign:=asg,body:=bdy,defers:=r0.defers }):=⟨_,rfl⟩;have hgr:W1=grown w [.loop { state:=.ready,pending:=none,fn:=fid,tmps,params:=ps,assign:=asg,body:=bdy,defers:=r0.defers }] w.drawn:=by
   simp_all [grown]
  refine⟨w.heap.size,[],[.loop { state:=.ready,pending:=none,fn:=fid,tmps,params:=ps,assign:=asg,body:=bdy,defers:=r0.defers }],{ state:=.ready,pending:=none,fn:=fid,tmps,params:=ps,assign:=asg,body:=bdy,defers:=r0.defers },(run_enterLoop_inner h0 fid tmps ps asg bdy).trans ?_,?_,rfl,rfl,rfl,rfl,rfl,rfl,zha _,trivial⟩
  rotate_left 1
  ·rw[<-hgr,hW1];exact World.alloc_heap_new w _
  ·simp_all
def J8(hE:EnvOk P E){Q:Exit->Act->World->Prop}(hro:∀ l,ro=some l->∃ r0,w.heap[l]?=some (Obj.loop r0))(h:Rp w0 S γ β s a w){f:Operand}{ps:Array Tmp}{asg bdy:Code}{an:Ann}{R:Type}{k:Ex->St->Option R}{r:R}
  (hev:Tx E f ps asg bdy an s k=some r) (hQ:Kp Q w0 s S γ a w k r):(Code.rangeFunc f ps asg bdy).wpIn (FW ro) nn P Q a w:=by
 unfold Tx at hev;split at hev<;>first|(cases hev;done)|skip
 rename_i t;split at hev<;>first|(cases hev;done)|skip
 rename_i g l htm;split at hev<;>first|(cases hev;done)|skip
 rename_i hcond;simp only[zaa,zxa] at hcond;obtain⟨hp,h4095⟩:=hcond;obtain⟨G,hG,hev⟩:=bind_some_inv hev;obtain⟨id,hid⟩:∃ id,id=(s.fresh+1)*4096:=⟨_,rfl⟩;rw[<-hid] at hev;obtain⟨info,hinfo⟩:∃ info:LpI,info={ nt:=s.nt,ps:=ps.toList,asg:=asg,bdy:=bdy,caps:=λj=>g7 s.ob (s.tm j) }:=⟨_,rfl⟩;rw[<-hinfo] at hev;obtain⟨⟨fn,f1,f2,f3⟩,hI⟩:=hE.inl g G hG;have hb:¬ fn.body=none:=by grind
 have f2' : ¬ fn.name = "runtime.NumGoroutine" := by simpa using f2
 refine wpIn_rangeFunc λfid _=>?_;obtain⟨L,mark,os,rec,e1,e2,e3,e4,e5,e6,e7,e8,e9,e10⟩:=D3 (P:=P) hro fid a.tmps ps asg bdy;obtain⟨w1,hw1⟩:∃ w1,w1=grown w os w.drawn:=⟨_,rfl⟩;obtain⟨g1,le1⟩:=h.grow (os:=os) (d:=w.drawn) (zha _) (S':=S) (λ_ _ hb=>hb) (λ_ _ hb=>.inl hb);have kept1:cG w (grown w os w.drawn):=cG.grown;have hsz1:w.heap.size<=(grown w os w.drawn).heap.size:=by simp
 have hcell1:∀ b o,S b o->(grown w os w.drawn).cell? ⟨b,o,none⟩=w.cell? ⟨b,o,none⟩:=λb o hb=>da (h.Sb b o hb);have hold1:∀ b,b<w.heap.size->(grown w os w.drawn).heap[b]?=w.heap[b]?:=λb hb=>cr hb;rw[<-hw1] at e1 e2 e10 g1 kept1 hsz1 hcell1 hold1;clear le1 hw1;have hLlt:=(zfa.1 e2).1;have hγid:γ id=none:=h.γf id (by rw[hid];simp only[St.base];omega)
 obtain⟨sX,hsX⟩:∃ sX,sX=({ s with fresh:=s.fresh+1 }:St).setOb id (some (.lp info none)):=⟨_,rfl⟩;rw[<-hsX] at hev;have q1:Rp w0 S γ β sX a w1:=by rw[hsX];exact(g1.later.setFree (id:=id) hγid _).1
 have RX:Rp w0 S (mI γ id L) β sX a w1:=by
  refine(q1.newOb (id:=id) (b:=L) hγid (λho=>?_) hLlt (λi hi=>?_) (λu f hu hf=>?_) ?_ λo ho=>?_).1
  ·have:=ho.1;have:=h.ext.sz;omega
  ·have:=(h.γn i _ hi).2;omega
  ·have hu':u ∉ s.dead:=by rw[hsX] at hu;exact hu
   have:=(h.βn u _ _ hu' hf).2.1;omega
  ·rw[hsX];show id<(s.fresh+1)*4096+4096;omega
  ·have ho':some (Ob.lp info none)=some o:=by rw[<-ho,hsX];simp[St.setOb]
   cases ho';simp only[eR];refine⟨rec,e2,⟨by rw[e3,hinfo];exact h.nt,by rw[e4,hinfo],by rw[e5,hinfo],by rw[e6,hinfo]⟩,λu hu=>?_,e7,e8⟩
   rw[e3,hinfo];have hu':u<s.nt:=by rw[hinfo] at hu;exact hu
   exact er.mono (c:=⟨w,S,γ,β,s.ob,s.dead⟩) (c':=⟨w1,S,mI γ id L,β,sX.ob,sX.dead⟩) hcell1 (λ_ _ hb=>hb) (λi b hb=>dH hγid hb) (Fd (h.tms u (by rw[h.nt];exact hu')))
 have hA:=aQ RX (.tmp t);have htX:sX.tm t=.clo g l:=by rw[hsX];exact htm
 have hA':AR ⟨w1,S,mI γ id L,β,sX.ob,sX.dead⟩ (.clo g l) (a.eval (.tmp t)):=by rw[<-htX];exact hA
 simp only[AR,AC] at hA';obtain⟨na,caps,hcs,hcap⟩:=hA';have hv:=ap na hcs;obtain⟨k1,k2⟩:=kc l caps hp hcap;refine⟨L,mark,w1,{ target:=.fn (.func g) caps.toArray,args:=#[.func (.yield L) #[] #[]] },w1,g,(Value.func (.yield L) #[] #[]::caps).toArray,w1,e1,?_,λ_ _=>trivial,?_,λh=>(by cases h),?_⟩
 ·simp_all [resolve,go_sem,Deferred.ofValue,Act.eval]
 ·simp[invoke,callFunc,f1,f2',hb]
 have hc:=hI an R w0 S (mI γ id L) β sX a w1 (.yld id::l) (Value.func (.yield L) #[] #[]::caps) _ r RX (by simp[k1]) (λi x v hx hv=>by
  cases i with
  | zero=>
   simp only[zDb,zca] at hx hv;subst hx;subst hv;simp only[AR,AC];exact⟨λ_ h=>(by cases h),L,rfl,bk _ _ _⟩
  | succ i=>exact k2 i x v (by simpa using hx) (by simpa using hv)) hev
 refine wT (hc.mono λe w' ⟨v,y,s',S',γ',β',z1,z2,z3,_,z5,z6⟩=>?_);subst z1;have hγ':γ' id=some L:=z5.gam id L (bk _ _ _);have fin:∀ (p:Option Ex) (i:LpI),s'.ob id=some (.lp i p)->∃ w4,(Instr.endLoop L).run P w'=.ok (p.map y6) w4/\Rp w0 S' γ' β' (s'.setOb id none) { a with defers:=mark++a.defers } w4/\Fm s S γ a w S' γ' { a with defers:=mark++a.defers } w4/\Sk s (s'.setOb id none):=by
  intro p i hob;have hO:=z3.obs id _ L hob hγ';simp only[eR] at hO;obtain⟨rec',v1,_,_,v4⟩:=hO;have hst:rec'.state≠.busy/\rec'.pending=p.map y6:=by
   cases p with
   | none=>exact⟨by rw[v4.1];simp,v4.2⟩
   | some e=>exact⟨by rw[v4.1];simp,v4.2⟩
  have F4:=Fm.setLp z3 (s1:=s) v1 (r':={ rec' with state:=.exhausted }) ⟨rfl,rfl,rfl,rfl⟩;have hlkO:sX.lkO=s.lkO:=by rw[hsX];rfl
  have hlkS:sX.lkS=s.lkS:=by rw[hsX];rfl
  have hnt:sX.nt=s.nt:=by rw[hsX];rfl
  refine⟨_,by rw[<-hst.2];exact run_endLoop v1 hst.1,(z3.setLp hγ' v1 _).act rfl,⟨z5.sub,λb o hb=>(F4.cell b o (z5.sub b o hb)).trans ((z5.cell b o hb).trans (hcell1 b o hb)),λ_ _=>rfl,λj hj b hb=>?_,zMa hsz1 (zMa z5.sz F4.sz),λj b hb=>z5.gam j b (dH hγid hb),?_,mark,rfl,?_,?_⟩,⟨z6.lkS.trans hlkS,z6.lkO.trans hlkO,z6.nt.trans hnt⟩⟩
  ·obtain⟨y1,y2⟩:=z5.objs j (by rw[hlkO];exact hj) b (dH hγid hb)
   obtain⟨_,y3⟩:=F4.objs j hj b y1;exact⟨y1,(ic.trans (.inl (hold1 b (h.γn j b hb).2)) y2).trans y3⟩
  ·exact(kept1.trans z5.dfs.1).trans F4.dfs.1
  ·exact e10.mono (zha _) (z5.dfs.1.trans F4.dfs.1) (zMa z5.sz F4.sz)
  ·intro hh;have:s.lkO.contains 4095=true:=by simpa using hh
   rw[this] at h4095;cases h4095
 simp only[rangePost];split at z2<;>first|(cases z2;done)|skip
 ·rename_i i hob;obtain⟨w4,y1,y2,y3,y4⟩:=fin none i hob;exact⟨_,w4,y1,hQ .normal _ S' γ' β' _ w4 y2 y3 y4 z2⟩
 ·rename_i i e hob;obtain⟨w4,y1,y2,y3,y4⟩:=fin (some e) i hob;refine⟨_,w4,y1,?_⟩;have hq:=hQ e _ S' γ' β' _ w4 y2 y3 y4 z2;cases e with
  | normal=>exact wpIn_skip hq
  | exit j=>exact wpIn_exit hq
  | ret=>exact wpIn_ret hq
end
end Sy
end
noncomputable section
namespace Sy
open Go
variable{ro:Option Nat}{nn:Nat}
section
variable{V:Nat->St->Option AV}{ops:Array Oper}{md:Region.Mode}
def pR(V:Nat->St->Option AV)(ops:Array Oper)(i:Nat)(K:St->Prop)(s:St):Prop:=
 match ops[i]? with
 | none=>K s
 | some o=>∃ v,V i s=some v/\K (s.put o.dst v)
def nl(V:Nat->St->Option AV)(md:Region.Mode)(ops:Array Oper)(n:Nat)(L:Array Bool->St->Prop):Nat->Array Bool->St->Prop
 | 0,listed,s=>L listed s
 | f+1,listed,s=>Region.ready md ops listed≠[]/\∀ i∈Region.ready md ops listed,i<n/\pR V ops i (nl V md ops n L f (listed.setIfInBounds i true)) s
def ig(V:Nat->St->Option AV)(ops:Array Oper):Nat->Nat->St->Option St
 | 0,_,s=>some s
 | c+1,k,s=>(V k s).bind λv=>ig V ops c (k+1) (s.put ((ops[k]?).bind (·.dst)) v)
theorem yq:∀ (c d k:Nat) (s:St),ig V ops (c+d) k s=(ig V ops c k s).bind λs'=>ig V ops d (k+c) s'
 | 0,d,k,s=>by simp[ig]
 | c+1,d,k,s=>by
  rw[show c+1+d=(c+d)+1 by omega]
  simp only[ig];cases V k s with
  | none=>rfl
  | some v=>
   simp only[zba];rw[yq c d (k+1),show k+1+c=k+(c+1) by omega]
def N6(V:Nat->St->Option AV)(ops:Array Oper):Prop:=∀ i oi,ops[i]?=some oi->∀ (s:St) (d:Option Nat) (v:AV),(∀ t,d=some t->t ∉ oi.looksAt ops)->V i (s.put d v)=V i s
def xq{n i:Nat}{oi:Oper}{v:AV}{L:Array Bool->St->Prop}(hV:N6 V ops)(hi:ops[i]?=some oi)(hW:ki md ops n)(hin:i<n)
  (hdone:∀ listed s,L listed s->∀ j∈Region.ready md ops listed,n<=j) :
  ∀ (f:Nat) (listed:Array Bool) (s:St),HeadInv md ops n listed ->
   (∀ j oj,ops[j]?=some oj->j≠i->listed.getD j true=false->(∀ e∈oj.after,Region.binds md e=true->e.on≠i)->oi.apart ops oj=true) ->
   i∈Region.ready md ops listed->V i s=some v ->
   nl V md ops n L f (listed.setIfInBounds i true) (s.put oi.dst v)->nl V md ops n L (f+1) listed s:=by
 intro f
 induction f with
 | zero=>
  intro listed s inv _ hr hy H;have hun:=(mem_ready.1 hr).1;refine⟨λh=>(by rw[h] at hr;cases hr),λj hj=>?_⟩
  have hjn:j<n:=by
   rcases zla j n with h|h
   ·exact h
   ·exact absurd hj (hW _ _ inv hin hun j h)
  refine⟨hjn,?_⟩;by_cases hji:j=i
  ·simp_all [pR]
  ·have:=hdone _ _ H j (ready_mono hj hji);omega
 | succ f ih=>
  intro listed s inv hfree hr hy H;have hun:=(mem_ready.1 hr).1;refine⟨λh=>(by rw[h] at hr;cases hr),λj hj=>?_⟩
  have hjn:j<n:=by
   rcases zla j n with h|h
   ·exact h
   ·exact absurd hj (hW _ _ inv hin hun j h)
  refine⟨hjn,?_⟩;by_cases hji:j=i
  ·simp_all [pR]
  ·have h1:=(H.2 j (ready_mono hj hji)).2;obtain⟨hjun,oj,hoj,hall⟩:=mem_ready.1 hj;have hnot:∀ e∈oj.after,Region.binds md e=true->e.on≠i:=λe he hb heq=>by
    grind
   obtain⟨a1,a2,a3⟩:=Oper.apart_spec (hfree j oj hoj hji hjun hnot);unfold pR at h1 ⊢;rw[hoj] at h1 ⊢;obtain⟨u,k1,k2⟩:=h1;rw[hV j oj hoj _ _ _ a1] at k1;refine⟨u,k1,ih (listed.setIfInBounds j true) (s.put oj.dst u) (inv.set hj hjn) (λk ok hk hki hun hno=>?_) (ready_mono hr (Ne.symm hji)) ?_ ?_⟩
   ·refine hfree k ok hk hki ?_ hno;by_cases hjk:j=k
    ·simp_all
    ·simp_all
   ·rw[hV i oi hi _ _ _ a3];exact hy
   ·rw[Array.setIfInBounds_comm _ _ hji,ye u v (λd hd he=>a2 d he hd)];exact k2
theorem oK{n g:Nat}{sF:St}(hV:N6 V ops)(hn:n<=ops.size)(hW:ki md ops n) :
  ∀ (c k:Nat) (listed:Array Bool) (s:St),k+c=n->HeadInv md ops n listed->(∀ i,i<k->listed.getD i false=true) ->
  Region.lexHead md ops g c k listed=true->ig V ops c k s=some sF ->
  nl V md ops n (λlisted' s'=>Region.seqB md ops g n listed'=true/\(∀ i,i<n->listed'.getD i false=true)/\s'=sF) c listed s
 | 0,k,listed,s,hk,_,hl,hB,h=>by
  have:k=n:=by simpa using hk
  subst this;simp only[ig,zca] at h;exact⟨by simpa [Region.lexHead] using hB,hl,h⟩
 | c+1,k,listed,s,hk,inv,hl,hB,h=>by
  have hkn:k<n:=by omega
  have hks:k<ops.size:=by omega
  have h0:ops[k]?=some ops[k]:=zyb hks;simp only[Region.lexHead,zaa] at hB;obtain⟨⟨hr,hf⟩,hB'⟩:=hB;have hr':k∈Region.ready md ops listed:=by simpa using hr
  simp only[ig] at h;obtain⟨v,h1,h2⟩:=bind_some_inv h;rw[h0,zba] at h2;refine xq hV h0 hW hkn (λlisted' s' hL=>seqB_ready hL.1) c listed s inv (Region.free_spec h0 hf) hr' h1
   (oK hV hn hW c (k+1) _ _ (by omega) (inv.set hr' hkn) (λi hi=>?_) hB' h2)
  by_cases e:i=k
  ·simp_all [inv.size]
  ·exact getD_set_true (hl i (by omega))
theorem oJ{n:Nat}{L:Array Bool->St->Prop}{T:List Nat}:∀ (f:Nat) (listed:Array Bool) (s:St),nl V md ops n L f listed s ->
  (∀ t∈T,∀ j oj,ops[j]?=some oj->listed.getD j true=false->oj.dst≠some t)->∃ listed' s',L listed' s'/\(∀ t∈T,s'.tm t=s.tm t)/\s'.ob=s.ob/\Sm s s'
 | 0,listed,s,h,_=>⟨listed,s,h,λ_ _=>rfl,rfl,Sm.refl s⟩
 | f+1,listed,s,h,hT=>by
  obtain⟨h1,h2⟩:=h;obtain⟨i,hi⟩:=List.exists_mem_of_ne_nil _ h1;obtain⟨hin,hst⟩:=h2 i hi;obtain⟨hun,o,ho,_⟩:=mem_ready.1 hi;unfold pR at hst;rw[ho] at hst;obtain⟨v,_,k2⟩:=hst;obtain⟨l',s',m1,m2,m3,m4⟩:=oJ f _ _ k2 (λt ht j oj hj hu=>by
   by_cases e:i=j
   ·subst e;exfalso;rcases zla i listed.size with hlt|hge
    ·simp[Array.getD,hlt] at hu
    ·simp[Array.getD,znc.2 hge] at hu
   ·rw[getD_set_ne true e] at hu;exact hT t ht j oj hj hu)
  have p:=St.put_fields s o.dst v;exact⟨l',s',m1,λt ht=>(m2 t ht).trans (sn (hT t ht i o ho hun)),m3.trans p.1,(Sm.put s o.dst v).trans m4⟩
end
section
variable{E:Env}{ops:Array Oper}
def lU(E:Env)(ops:Array Oper)(n id i:Nat)(s:St):Option AV:=if i=n then some .undef else rM E ops n id i s some
def uH(s:St)(d:Option Nat)(v:AV)(id:Nat)(o:Option Ob):(s.put d v).setOb id o=(s.setOb id o).put d v:=by
 cases d with
 | none=>rfl
 | some d=>
  by_cases h:d<s.nt
  ·simp_all [St.put,St.setOb]
  ·grind [St.put,St.setOb]
def Eo(n id:Nat):N6 (lU E ops n id) ops:=by
 intro i oi hi s d v h;unfold lU;split
 ·rfl
 ·obtain⟨p1,p2,p3,p4,p5,p6,p7⟩:=St.put_fields s d v;obtain⟨q1,q2,q3,q4,q5,q6,q7⟩:=St.put_fields (s.setOb id none) d v;have e1:iZ (s.put d v) oi=iZ s oi:=by simp only[iZ,p5]
  have hx:∀ x∈oi.op.operands,∀ t,d=some t->x≠.tmp t:=λx hx t ht e=>h t ht (by
   subst e;exact zab _ (zKc.2 ⟨.tmp t,by simpa using hx,rfl⟩))
  have e2:qv E (s.put d v) oi some=qv E s oi some:=kL p1 p2 λx hm=>lu (hx x hm);have e3:qv E ((s.put d v).setOb id none) oi some=qv E (s.setOb id none) oi some:=by
   rw[uH];exact kL q1 q2 λx hm=>lu (hx x hm)
  unfold rM
  simp_all
def xC{R:Type}{n id i:Nat}{s:St}{K:AV->Option R}{r:R}(h:rM E ops n id i s K=some r):∃ v,rM E ops n id i s some=some v/\K v=some r:=by
 unfold rM at h ⊢;split at h<;>first|(cases h;done)|skip
 split at h<;>first|(cases h;done)|skip
 rename_i hlk;rw[if_neg hlk];split at h
 ·rename_i hw;rw[if_pos hw];exact fd h
 ·rename_i hw;rw[if_neg hw];split at h<;>first|(cases h;done)|skip
  rename_i hk;rw[if_pos hk];exact fd h
theorem AJ{R:Type}{n id:Nat}{K:St->Option R}{r:R}:∀ (c k:Nat) (s:St),k+c<=n->J7 E ops n id c k s K=some r->∃ s',ig (lU E ops n id) ops c k s=some s'/\K s'=some r
 | 0,k,s,_,h=>⟨s,rfl,h⟩
 | c+1,k,s,hk,h=>by
  simp only[J7] at h;obtain⟨v,h1,h2⟩:=xC h;obtain⟨s',h3,h4⟩:=AJ c (k+1) _ (by omega) h2
  refine⟨s',?_,h4⟩;simp only[ig,lU,if_neg (show ¬ k=n by omega),h1,zba]
  exact h3
mutual
theorem Fe(ob ob':Nat->Option Ob):∀ (t:Ty) (a:AV),AV.toD ob t a=AV.toD ob' t a
 | t,.st ts l=>by simp only[AV.toD,Br ob ob' ts l]
 | t,.d _ _=>by simp_all [AV.toD]
 | t,.own _ _ _=>by cases t<;>simp only[AV.toD]
 | t,.nils=>by simp_all [AV.toD]
 | t,.ptr _ _ _=>by cases t<;>simp only[AV.toD]
 | t,.yld _=>by simp_all [AV.toD]
 | t,.fptr _ _=>by cases t<;>simp only[AV.toD]
 | t,.mem _ _=>by cases t<;>simp only[AV.toD]
 | t,.clo _ _=>by cases t<;>simp only[AV.toD]
 | t,.map _ _ _=>by cases t<;>simp only[AV.toD]
 | t,.sub _ _ _ _ _ _=>by cases t<;>simp only[AV.toD]
 | t,.gone=>by simp_all [AV.toD]
 | t,.undef=>by simp_all [AV.toD]
theorem Br(ob ob':Nat->Option Ob):∀ (ts:List Ty) (l:List AV),AV.toDl ob ts l=AV.toDl ob' ts l
 | [],[]=>rfl
 | [],_::_=>rfl
 | _::_,[]=>rfl
 | t::ts,a::l=>by simp only[AV.toDl,Fe ob ob' t a,Br ob ob' ts l]
end
theorem uC{s s':St}(htm:s'.tm=s.tm)(ty:Nat->Option Ty):∀ l:List (Nat×Operand),partsD s'.ob s' ty l=partsD s.ob s ty l
 | []=>rfl
 | (i,x)::l=>by
  have e:s'.opA x=s.opA x:=by cases x<;>simp only[St.opA,htm]
  simp only[partsD,e,uC htm ty l];cases ty i with
  | none=>rfl
  | some t=>simp only[zba,Fe s'.ob s.ob t]
def tD{ob ob':Nat->Option Ob}(h:∀ j o,ob j=some o->ob' j=some o){x:AV}(hp:eJ (jy ob x)=true):jy ob' x=jy ob x:=by
 unfold jy at hp ⊢;split
 ·rename_i t id;simp only at hp;cases ho:ob id with
  | none=>rw[ho] at hp;cases hp
  | some o=>rw[h _ _ ho]
 ·rfl
def yY{ob ob':Nat->Option Ob}(h:∀ j o,ob j=some o->ob' j=some o){x:AV}(hr:j6 (lS ob x)=true):lS ob' x=lS ob x:=by
 cases x<;>simp only[lS] at hr ⊢
 case ptr t id p=>
  refine tD h ?_;unfold jy at hr ⊢;split at hr<;>first|(cases hr;done)|skip
  split at hr<;>first|(cases hr;done)|skip
 case clo f l=>
  split at hr<;>first|(cases hr;done)|skip
  rename_i hl;rw[if_pos hl];have e:l.map (jy ob')=l.map (jy ob):=zRb λx hx=>tD h (zja.1 hl _ (zQb hx));rw[e,if_pos hl]
 case map kt vt id=>
  cases ho:ob id with
  | none=>rw[ho] at hr;cases hr
  | some o=>rw[h _ _ ho]
def B7{s s':St}{id:Nat}(htm:s'.tm=s.tm)(hfr:s'.fresh=s.fresh)(hob:∀ j,j≠id->s'.ob j=s.ob j)(hid:s.ob id=none){o:Oper}(hk:rK o=true){v:AV}(h:qv E s o some=some v):qv E s' o some=some v:=by
 have op:∀ x,s'.opA x=s.opA x:=λx=>by cases x<;>simp only[St.opA,htm]
 have obm:∀ {j:Nat} {ob:Ob},s.ob j=some ob->s'.ob j=some ob:=λ{j ob} hj=>by
  all_goals grind
 obtain⟨dst,op',ty,pos,after,guard⟩:=o;cases op'<;>simp only[rK] at hk<;>first|(cases hk;done)|skip
 case build T ps=>
  simp only[qv] at h ⊢;obtain⟨t,ht,h2⟩:=bind_some_inv h;rw[ht,zba];have e2:∀ ts,ps.toList.all (eW s' ts)=ps.toList.all (eW s ts):=λts=>by
   congr 1;funext p;simp only[eW,op]
  have e3:(ps.toList.map λp=>(p.1,s'.opA p.2))=ps.toList.map λp=>(p.1,s.opA p.2):=by simp only[op]
  cases t<;>simp only[uC htm,e2,e3]<;>exact h2
 case load T a=>
  simp only[qv] at h ⊢;cases hfn:E.fnT T with
  | true=>
   rw[hfn] at h;simp only[cond_true] at h ⊢;split at h<;>first|(cases h;done)|skip
   rename_i j e;split at h<;>first|(cases h;done)|skip
   rename_i y ho;split at h<;>first|(cases h;done)|skip
   rename_i hr;rw[op,e];simp only;rw[obm ho];simp only;rw[yY (λj o=>obm) hr,if_pos hr];exact h
  | false=>
  rw[hfn] at h;simp only[cond_false] at h ⊢;obtain⟨t,ht,h2⟩:=bind_some_inv h;rw[ht,zba,op];all_goals grind
 case fieldAddr T x f=>
  simp_all [qv,op]
 case extract x i=>
  simp_all [qv,op]
 case move x=>
  simp_all [qv,op]
 case alloc T=>
  simp_all [qv,St.base]
end
section
variable{P:Program}{E:Env}{w0:Root}{ops:Array Oper}
def nX(n id:Nat)(ob1:Ob)(listed:Array Bool)(s:St):St:=if listed.getD n false then s.setOb id (some ob1) else s
theorem Sm.setOb(s:St)(id:Nat)(o:Option Ob):Sm s (s.setOb id o):=⟨rfl,rfl,rfl,rfl⟩
theorem jT(hE:EnvOk P E){n g id T p x:Nat}{u t t':Ty}{v0 v1:AV}{ostore:Oper}{L:Array Bool->St->Prop}{Q:Exit->Act->World->Prop}{s0:St}{S0:Nat->Nat->Prop}{γ0:Nat->Option Nat}{a0:Act}{w1:World}
  (hn:ops[n]?=some ostore) (hop:ostore.op=.store T (.tmp p) (.tmp x)) (hdst:ostore.dst=none) (hgd:ostore.guard=none)
  (hp:∀ (j:Nat) (oj:Oper),ops[j]?=some oj->oj.dst=some p->Region.waitsFor .any ops n j=true) (hx:∀ (j:Nat) (oj:Oper),ops[j]?=some oj->oj.dst=some x->Region.waitsFor .any ops n j=true)
  (hheads:∀ (j:Nat) (oj:Oper),j<n->ops[j]?=some oj->oj.guard=none)
  (hT:E.L T=some t) (hfn:E.fnT T=false) (htt:t.beq t'=true) (hf1:AV.fits t v1=true) (hlk:s0.lkO.contains id=false) (hob0:s0.ob id=some (.one u v0))
  (hd:∀ (i j:Nat) (oi oj:Oper),i≠j->ops[i]?=some oi->ops[j]?=some oj->∀ d,oj.dst=some d->oi.dst≠some d)
  (hLs:∀ listed s,L listed s->s.tm p=.ptr t' id []/\s.tm x=v1/\listed.getD n false=true)
  (hL:∀ listed s S γ β a w,Rp w0 S γ β (s.setOb id (some (.one u v1))) a w->Fm s0 S0 γ0 a0 w1 S γ a w->Sm s0 s->(∀ j oj,ops[j]?=some oj->listed.getD j true=false->Fr E (s.setOb id (some (.one u v1))) γ β oj)->L listed s->wpAnyIn (FW ro) nn P .any ops Q g listed a w) :
  ∀ (f:Nat) (listed:Array Bool) (s:St) (S:Nat->Nat->Prop) (γ:Nat->Option Nat) (β:Nat->Option (Nat×Nat)) (a:Act) (w:World),Rp w0 S γ β (nX n id (.one u v1) listed s) a w->Fm s0 S0 γ0 a0 w1 S γ a w->Sm s0 s->s.ob=s0.ob ->
   (listed.getD n false=true->∀ j,Region.waitsFor .any ops n j=true->listed.getD j false=true) ->
   (∀ j oj,ops[j]?=some oj->listed.getD j true=false->Fr E (nX n id (.one u v1) listed s) γ β oj)->nl (lU E ops n id) .any ops (n+1) L f listed s->wpAnyIn (FW ro) nn P .any ops Q (f+g) listed a w
 | 0,listed,s,S,γ,β,a,w,h,hF,hS,hob,hcl,hfr,hh=>by
  rw[z1a];have hh':L listed s:=hh;have e:nX n id (.one u v1) listed s=s.setOb id (some (.one u v1)):=by unfold nX;rw[if_pos (hLs _ _ hh').2.2]
  grind
 | f+1,listed,s,S,γ,β,a,w,h,hF,hS,hob,hcl,hfr,hh=>by
  rw[show f+1+g=(f+g)+1 by omega]
  refine⟨λh0=>absurd h0 hh.1,λi hi=>?_⟩;obtain⟨hin,hst⟩:=hh.2 i hi;have hun:=(mem_ready.1 hi).1;have unl:∀ j,(listed.setIfInBounds i true).getD j true=false->i≠j/\listed.getD j true=false:=λj hu=>by
   by_cases hij:i=j
   ·subst hij;exfalso;rcases zla i listed.size with hlt|hge
    ·simp[Array.getD,hlt] at hu
    ·simp[Array.getD,znc.2 hge] at hu
   ·rw[getD_set_ne true hij] at hu;exact⟨hij,hu⟩
  by_cases hni:i=n
  ·
   subst hni;have hlf:=getD_both hun;have hsz:i<listed.size:=by
    rcases zla i listed.size with hlt|hge
    ·exact hlt
    ·simp[Array.getD,znc.2 hge] at hun
   have e0:nX i id (.one u v1) listed s=s:=by unfold nX;rw[hlf];rfl
   rw[e0] at h;unfold pR at hst;rw[hn] at hst;simp only at hst;obtain⟨v,hv,hst⟩:=hst;rw[hdst] at hst;have hst:nl (lU E ops i id) .any ops (i+1) L f (listed.setIfInBounds i true) s:=hst;obtain⟨_,o',ho',hall⟩:=mem_ready.1 hi;rw[hn] at ho';cases ho';obtain⟨l',s',m1,m2,m3,m4⟩:=oJ (T:=[p,x]) f _ _ hst (λt ht j oj hj hu=>by
    simp only[zva,z9b,or_false] at ht;intro hdj;have hw:Region.waitsFor .any ops i j=true:=by
     rcases ht with rfl|rfl
     ·exact hp j oj hj hdj
     ·exact hx j oj hj hdj
    obtain⟨ow,how,e,he,hb,hon⟩:=Region.waitsFor_spec hw;rw[hn] at how;cases how;have h1:=hall e he hb;rw[hon] at h1;obtain⟨_,hu'⟩:=unl j hu;rw[getD_both hu'] at h1;cases h1)
   obtain⟨z1,z2,z3⟩:=hLs _ _ m1;rw[m2 p (by simp)] at z1
   rw[m2 x (by simp)] at z2
   have hobs:s.ob id=some (.one u v0):=by rw[hob];exact hob0
   have hlks:s.lkO.contains id=false:=by rw[hS.lkO];exact hlk
   have hev:pB E s ostore some=some (s.setOb id (some (.one u v1))):=by
    unfold pB;rw[hop];simp only[hT,hfn,cond_false,zba,St.opA,z1,z2,htt,hf1,hlks,hobs,zxb,Bool.and_true,if_true,zM]
   obtain⟨s1,k1,k2⟩:=vm hE h (e0 ▸ hfr i ostore hn hun) (λT t _ ht=>hE.flat T t ht) (λt _=>by rw[hdst];simp) (λ_ _ _ _=>hdst) hev
   cases k1;obtain⟨r1,r2,r3,r4,r5,r6⟩:=k2;unfold wpOpIn;rw[hn];simp only;rw[if_pos (by simp[Region.wanted,hgd])]
   refine(aY r6 λval w' ⟨S',γ',β',m1,m2,m3⟩=>?_);have el:nX i id (.one u v1) (listed.setIfInBounds i true) s=s.setOb id (some (.one u v1)):=by
    unfold nX;rw[if_pos (by simp[hsz])]
   refine jT hE hn hop hdst hgd hp hx hheads hT hfn htt hf1 hlk hob0 hd hLs hL f _ s S' γ' β' _ _ (by rw[el];exact m1) (hF.trans m2 hS.lkS hS.lkO) hS hob (λ_ j hw=>?_) (λj oj hj hu=>?_) hst
   ·obtain⟨ow,how,e,he,hb,hon⟩:=Region.waitsFor_spec hw;rw[hn] at how;cases how;have h1:=hall e he hb;rw[hon] at h1;exact getD_set_true h1
   ·rw[el];obtain⟨_,hu'⟩:=unl j hu;exact(e0 ▸ hfr j oj hj hu':Fr E s γ β oj).keep (λd _=>by rw[hdst];simp) rfl (λid' h1 h2=>r5 id' h1 h2) m3
  ·
   have hilt:i<n:=by omega
   obtain⟨_,o,ho,hall⟩:=mem_ready.1 hi;unfold pR at hst;rw[ho] at hst;simp only at hst;obtain⟨v,hv,hst⟩:=hst;unfold lU at hv;rw[if_neg hni] at hv;unfold rM at hv;rw[ho] at hv;simp only at hv;split at hv<;>first|(cases hv;done)|skip
   rename_i hlko;have hog:=hheads i o hilt ho;have hlkl:iZ (nX n id (.one u v1) listed s) o=iZ s o:=by unfold nX;split<;>rfl
   have hval:val E ops (nX n id (.one u v1) listed s) o=some v:=by
    unfold val;rw[hlkl,if_neg hlko,hog];simp only;split at hv
    ·rename_i hw;have:listed.getD n false=false:=by
      cases hln:listed.getD n false with
      | false=>rfl
      | true=>
       have:=hcl hln i hw;rw[getD_both hun] at this;cases this
     have e:nX n id (.one u v1) listed s=s:=by unfold nX;rw[this];rfl
     rw[e];exact hv
    ·split at hv<;>first|(cases hv;done)|skip
     rename_i hk;refine B7 (s:=s.setOb id none) (id:=id) ?_ ?_ (λj hj=>?_) ?_ hk hv
     ·unfold nX;split<;>rfl
     ·unfold nX;split<;>rfl
     ·unfold nX;split<;>simp[St.setOb,hj]
     ·simp[St.setOb]
   have el:(nX n id (.one u v1) listed s).put o.dst v=nX n id (.one u v1) (listed.setIfInBounds i true) (s.put o.dst v):=by
    unfold nX;rw[getD_set_ne false hni];split
    ·rw[uH]
    ·rfl
   obtain⟨k1,k2⟩:=wq hE h (hfr i o ho hun) hval;have pf:=St.put_fields s o.dst v;have smL:Sm s0 (nX n id (.one u v1) listed s):=by
    unfold nX;split
    ·exact hS.trans (Sm.setOb s id _)
    ·exact hS
   have pl:=St.put_fields (nX n id (.one u v1) listed s) o.dst v;have frn:∀ {γ':Nat->Option Nat} {β':Nat->Option (Nat×Nat)},(∀ id':Nat,o.dst≠some (id'-(nX n id (.one u v1) listed s).base)\/id'<(nX n id (.one u v1) listed s).base->γ' id'=γ id'/\β' id'=β id')->∀ j oj,ops[j]?=some oj->(listed.setIfInBounds i true).getD j true=false->Fr E (nX n id (.one u v1) (listed.setIfInBounds i true) (s.put o.dst v)) γ' β' oj:=λhk j oj hj hu=>by
    obtain⟨hij,hu'⟩:=unl j hu;rw[<-el];exact(hfr j oj hj hu').keep (λd hdj=>hd i j o oj hij ho hj d hdj) pl.2.1 (λid' _ _=>by rw[pl.1]) hk
   have hcl':(listed.setIfInBounds i true).getD n false=true->∀ j,Region.waitsFor .any ops n j=true->(listed.setIfInBounds i true).getD j false=true:=λh1 j hw=>by
    rw[getD_set_ne false hni] at h1;exact getD_set_true (hcl h1 j hw)
   unfold wpOpIn;rw[ho];simp only;split
   ·rename_i hw;refine(aY (k1 hw) λu' w' ⟨S',γ',β',m1,m2,m3⟩=>?_);exact jT hE hn hop hdst hgd hp hx hheads hT hfn htt hf1 hlk hob0 hd hLs hL f _ _ S' γ' β' _ _ (el ▸ m1) (hF.trans m2 smL.lkS smL.lkO) (hS.trans (Sm.put s o.dst v)) (pf.1.trans hob) hcl' (frn m3) hst
   ·rename_i hw;obtain⟨m1,m2⟩:=k2 (by simpa using hw)
    refine⟨λ_ _=>trivial,?_⟩;exact jT hE hn hop hdst hgd hp hx hheads hT hfn htt hf1 hlk hob0 hd hLs hL f _ _ S γ β _ _ (el ▸ m1) (hF.trans m2 smL.lkS smL.lkO) (hS.trans (Sm.put s o.dst v)) (pf.1.trans hob) hcl' (frn λid _=>⟨rfl,rfl⟩) hst
def so(hE:EnvOk P E){id:Nat}{n:Nat}{Q:Exit->Act->World->Prop}{S:Nat->Nat->Prop}{γ:Nat->Option Nat}{β:Nat->Option (Nat×Nat)}{s:St}{a:Act}{w:World}{R:Type}{k:St->Option R}{r:R}{N:Nat}
  (h:Rp w0 S γ β s a w) (hf:BB E s γ β ops.toList) (hm:bI ops.toList=true) (hlt:rL ops n=true) {an:Ann}
  (hev:J7 E ops n (jG ops n s) n 0 s (λs2=>if rJ ops n s2=some (jG ops n s) then dI E N R ops an ((aL 0 ops.toList).drop n) s2 k else none)=some r)
  (hQ:∀ s' S' γ' β' a' w',Rp w0 S' γ' β' s' a' w'->Fm s S γ a w S' γ' a' w'->Sk s s'->k s'=some r->Q .normal a' w'):(Code.region id ops true).wpIn (FW ro) nn P Q a w:=by
 simp only[bI,zaa] at hm;obtain⟨⟨hm1,hm2⟩,hm3⟩:=hm;have hstores:(ops.toList.all λo=>match o.op with|.store ..=>o.dst.isNone|_=>true)=true:=hm3
 unfold rL at hlt;split at hlt<;>first|(cases hlt;done)|skip
 rename_i ostore hn;split at hlt<;>first|(cases hlt;done)|skip
 rename_i T p x hop;obtain⟨ido,hid⟩:∃ ido,jG ops n s=ido:=⟨_,rfl⟩;rw[hid] at hev;simp only[zaa] at hlt;obtain⟨⟨⟨⟨⟨l2,l3⟩,l4⟩,l5⟩,l6⟩,l7⟩:=hlt;have hns:n<ops.size:=(zfa.1 hn).1;have hnm:ostore∈ops.toList:=zIb.2 (zZb hn);have hdst:ostore.dst=none:=by
  grind
 have hpx:∀ (j:Nat) (oj:Oper),ops[j]?=some oj->(oj.dst=some p\/oj.dst=some x)->Region.waitsFor .any ops n j=true:=λj oj hj e=>by
  grind
 have hp:∀ (j:Nat) (oj:Oper),ops[j]?=some oj->oj.dst=some p->Region.waitsFor .any ops n j=true:=λj oj hj e=>hpx j oj hj (.inl e);have hx:∀ (j:Nat) (oj:Oper),ops[j]?=some oj->oj.dst=some x->Region.waitsFor .any ops n j=true:=λj oj hj e=>hpx j oj hj (.inr e);have hheads:∀ (j:Nat) (oj:Oper),j<n->ops[j]?=some oj->oj.guard=none:=λj oj hjn hj=>by
  have hm':oj∈ops.toList.take n:=by
   refine zYa (i:=j) ?_;rw[zqb hjn,zua];exact hj
  have:=zja.1 l3 oj hm';simp only[zaa] at this;simpa using this.2
 have htails:∀ o∈ops.toList.drop n,o.guard=none:=λo ho=>by
  have:=zja.1 l4 o ho;simp only[zaa] at this;simpa using this.1
 have hdrop:ops.toList.drop n=ostore::ops.toList.drop (n+1):=by
  have h1:n<ops.toList.length:=by simpa using hns
  rw[zmb h1];have:ops.toList[n]=ostore:=by
   have:=(zfa.1 hn).2;simpa using this
  rw[this]
 have hgd:ostore.guard=none:=htails ostore (by rw[hdrop];simp)
 obtain⟨s',q1,q2⟩:=AJ n 0 s (by omega) hev
 split at q2<;>first|(cases q2;done)|skip
 rename_i hat;obtain⟨t0,hptr,htf⟩:∃ t0,s'.tm p=.ptr t0 ido []/\¬ t0.beq .fn=true:=by
  unfold rJ at hat;simp only[hn,hop] at hat;split at hat<;>first|(cases hat;done)|skip
  rename_i t0 id0 hpe;split at hat<;>first|(cases hat;done)|skip
  rename_i hb;cases hat;exact⟨t0,hpe,hb⟩
 have hnum:(aL 0 ops.toList).drop n=(n,ostore)::(aL 0 ops.toList).drop (n+1):=by
  have h1:n<(aL 0 ops.toList).length:=by rw[fP];simpa using hns
  rw[zmb h1];have key:∀ (l:List Oper) (i j:Nat) (o:Oper),l[j]?=some o->(aL i l)[j]?=some (i+j,o):=by
   intro l
   induction l with
   | nil=>intro i j o hj;simp at hj
   | cons y l ih=>
    intro i j o hj;cases j with
    | zero=>simp at hj;subst hj;simp[aL]
    | succ j=>simp only[zcb] at hj;simp only[aL,zcb];rw[ih (i+1) j o hj];congr 2;omega
  have:=key ops.toList 0 n ostore (by rw[zua];exact hn)
  rw[zda h1,z1a] at this;rw[zhd this]
 rw[hnum] at q2;obtain⟨N',hN⟩:∃ N',N=N'+1:=by
  cases N with
  | zero=>simp[dI] at q2
  | succ N'=>exact⟨N',rfl⟩
 subst hN;have hseg:pd n ((aL 0 ops.toList).drop (n+1))=false:=by
  unfold pd;split
  ·rename_i p' l' hl;have hmem:p'.2∈ops.toList.drop n:=by
    have h1:p'∈(aL 0 ops.toList).drop n:=by rw[hnum,hl];simp
    have:p'.2∈((aL 0 ops.toList).drop n).map Prod.snd:=zQb h1
    rwa [z1b,aU] at this
   unfold tY;rw[htails _ hmem]
  ·rfl
 have hinl:iV E ostore=false:=by unfold iV;rw[hop]
 have hnx:ql E ostore an=an:=by simp[ql,hinl]
 have hev1:∀ (l:List (Nat×Oper)) (s:St) (K:St->Option R),zd E an l s ostore K=pB E s ostore K:=λl s K=>by simp[zd,hinl]
 have hsg:∀ s,kQ E s n ostore ((aL 0 ops.toList).drop (n+1))=false:=λs=>by simp[kQ,hseg]
 simp only[dI,hgd,hsg,hnx,hev1,zsa,if_false] at q2;have hlkn:iZ s' ostore=false:=by unfold iZ;rw[hdst]
 rw[if_neg (by rw[hlkn];simp)] at q2
 unfold pB at q2;rw[hop] at q2;simp only at q2;have keep:∀ (c kk:Nat) (s s':St),ig (lU E ops n ido) ops c kk s=some s'->s'.ob=s.ob/\Sm s s':=by
  intro c
  induction c with
  | zero=>intro kk s s' hs;simp only[ig,zca] at hs;subst hs;exact⟨rfl,Sm.refl s⟩
  | succ c ih=>
   intro kk s s' hs;simp only[ig] at hs;obtain⟨v,h1,h2⟩:=bind_some_inv hs;obtain⟨m2,m3⟩:=ih _ _ _ h2;have pf:=St.put_fields s ((ops[kk]?).bind (·.dst)) v;exact⟨m2.trans pf.1,(Sm.put s _ v).trans m3⟩
 obtain⟨c2,c3⟩:=keep n 0 s s' q1;cases hfn:E.fnT T with
 | true=>
  rw[hfn,show s'.opA (.tmp p)=.ptr t0 ido [] from hptr] at q2;simp only[cond_true] at q2;split at q2<;>first|(cases q2;done)|skip
  rename_i e;cases e;exact absurd rfl htf
 | false=>
 rw[hfn] at q2;simp only[cond_false] at q2;obtain⟨t,hT,q3⟩:=bind_some_inv q2;rw[show s'.opA (.tmp p)=.ptr t0 ido [] from hptr] at q3;simp only at q3;split at q3<;>first|(cases q3;done)|skip
 rename_i hcond;simp only[zaa,zxa] at hcond;obtain⟨⟨d1,d2⟩,d3⟩:=hcond;split at q3<;>first|(cases q3;done)|skip
 ·rename_i u v0 hobs;obtain⟨v1,hv1⟩:∃ v1,s'.opA (.tmp x)=v1:=⟨_,rfl⟩;rw[hv1] at q3 d2;have q4:dI E N' R ops an ((aL 0 ops.toList).drop (n+1)) (s'.setOb ido (some (.one u v1))) k=some r:=by
   cases v0<;>simpa only[zM] using q3
  clear q3 q2;have hW:ki .any ops (n+1):=by
   intro listed i inv hin hun t ht hr;simp only[zKb,decide_eq_true_eq,zaa] at l7;rcases l7 with l7|⟨⟨l7,l8⟩,l9⟩
   ·obtain⟨_,o,ho,_⟩:=mem_ready.1 hr;have:=(zfa.1 ho).1;omega
   ·exact tail_waits l8 l9 l7 inv _ i rfl hin hun t ht hr
  refine wpIn_region_any hE.mixed ?_;have hg:∃ os d,w.drawn<=d/\({ w with drawn:=w.drawn+1 }:World)=grown w os d:=⟨[],w.drawn+1,zlc _,by simp[grown]⟩
  obtain⟨os,d,hdr,hg⟩:=hg;obtain⟨g1,g2⟩:=h.grow (os:=os) (d:=d) hdr (S':=S) (λ_ _ hb=>hb) (λ_ _ hb=>.inl hb);rw[hg];have inv0:HeadInv .any ops (n+1) (Array.replicate ops.size false):=
   ⟨by simp,λj oj _ hl=>(by rw[getD_replicate_false] at hl;cases hl),λt _ ht=>getD_in (by simpa using ht) (getD_replicate_false _ _)⟩
  have hseq:ig (lU E ops n ido) ops (n+1) 0 s=some s':=by
   rw[yq n 1 0,q1,zba];simp only[ig,lU,z1a,if_true,zba,hn,hdst];rfl
  have H:=oK (sF:=s') (Eo (E:=E) (ops:=ops) n ido) (by omega) hW (n+1) 0 (Array.replicate ops.size false) s (by omega) inv0 (λi hi=>by omega) l6 hseq
  have e0:nX n ido (.one u v1) (Array.replicate ops.size false) s=s:=by unfold nX;rw[getD_replicate_false];rfl
  have hdl:(ops.toList.drop (n+1)).length=ops.size-(n+1):=by simp
  have hsub0:∀ j oj,ops[j]?=some oj->(Array.replicate ops.size false).getD j true=false->Fr E (nX n ido (.one u v1) (Array.replicate ops.size false) s) γ β oj:=λj oj hj _=>by
   rw[e0];exact hf oj (zIb.2 (zZb hj))
  have:=jT (ro:=ro) (nn:=nn) (w0:=w0) (Q:=Q) (g:=ops.size-(n+1)) (s0:=s) (S0:=S) (γ0:=γ) (a0:=a) (w1:=grown w os d) hE hn hop hdst hgd hp hx hheads hT hfn d1 d2 (by rw[<-c3.lkO];exact d3) (by rw[<-c2];exact hobs) (λi j oi oj hij hi hj d hd=>fU hm1 hij (by rw[zua];exact hi) (by rw[zua];exact hj) d hd)
   (λlisted s2 hL=>by
    obtain⟨_,hl,rfl⟩:=hL;exact⟨hptr,hv1,hl n (by omega)⟩)
   (λlisted s2 S2 γ2 β2 a2 w2 m1 m2 m3 m4 m5=>by
    obtain⟨m5,m6,m7⟩:=m5;subst m7;have hseq:=fh (F:=FW ro) (n:=nn) (P:=P) (md:=.any) (ops:=ops) (Q':=Q) (ops.toList.drop (n+1)) (n+1) listed a2 w2 (λj=>by rw[zeb,zua]) (by rw[hdl];exact m5) ?_
    ·rwa [hdl] at hseq
    have hunl:∀ j oj,ops[j]?=some oj->n+1<=j->listed.getD j true=false:=by
     intro j oj hj hnj;have key:∀ (g k:Nat) (listed:Array Bool),Region.seqB .any ops g k listed=true->∀ j,k<=j->j<k+g->listed.getD j true=false:=by
      intro g
      induction g with
      | zero=>intro k listed _ j h1 h2;omega
      | succ g ih=>
       intro k listed hB j h1 h2;simp only[Region.seqB,zaa,decide_eq_true_eq] at hB;by_cases hjk:j=k
       ·subst hjk;have:j∈Region.ready .any ops listed:=by rw[hB.1];simp
        exact(mem_ready.1 this).1
       ·have:=ih (k+1) _ hB.2 j (by omega) (by omega)
        rwa [getD_set_ne true (Ne.symm hjk)] at this
     have hjlt:=(zfa.1 hj).1;exact key _ _ _ m5 j hnj (by omega)
    have fin:=rt (ro:=ro) (nn:=nn) (ops:=ops) hE (Q:=Q) hstores N' R ((aL 0 ops.toList).drop (n+1)) k r an m1 (by
      rw[z1b,aU];intro o ho;obtain⟨i,hi,he⟩:=zRa ho;have hi2:ops[n+1+i]?=some o:=by
       have:(ops.toList.drop (n+1))[i]?=some o:=by rw[zda hi,he]
       rwa [zeb,zua] at this
      exact m4 (n+1+i) o hi2 (hunl _ _ hi2 (by omega)))
     (by
      rw[z1b,aU];intro A B o o' e ho d hd;exact dD hm1 (ops.toList.take (n+1)++A) B o o' (by rw[zTa,<-e,zna]) ho d hd)
     (λp hp=>gV (zHb hp)) q4 (λs3 S3 γ3 β3 a3 w3 n1 n2 n3 n4=>by
      refine hQ s3 S3 γ3 β3 a3 w3 n1 ?_ (Sk.trans (m3.trans (Sm.setOb _ ido (some (.one u v1)))).sk n3) n4;have f0:Fm s S γ a w S γ a (grown w os d):=⟨λ_ _ hb=>hb,g2.cell,λ_ _=>rfl,λid hid b hb=>⟨hb,.inl (cr (h.γn id b hb).2)⟩,by simp,λ_ _ hb=>hb,jp.same rfl cG.grown⟩
      exact(f0.trans m2 rfl rfl).trans n2 (show _=_ from m3.lkS) (show _=_ from m3.lkO))
    rwa [z1b,aU] at fin)
   (n+1) (Array.replicate ops.size false) s S γ β a (grown w os d) (by rw[e0];exact g1) (Fm.refl _ _ _ _ _) (Sm.refl s) rfl (λhl=>by rw[getD_replicate_false] at hl;cases hl) hsub0 H
  rw[show n+1+(ops.size-(n+1))=ops.size by omega] at this
  exact this
end
end Sy
end
noncomputable section
namespace Sy
open Go
variable{ro:Option Nat}{nn:Nat}
section
variable{E:Env}{ops:Array Oper}
def yE(E:Env)(ops:Array Oper)(m i:Nat)(s:St):Option AV:=match ops[i]? with
 | none=>none
 | some o=>if iZ s o then none else if i=m then(mO E s o).map Prod.fst else qv E s o some
def yR{s s':St}{o:Oper}(hob:s'.ob=s.ob)(hf:s'.fresh=s.fresh)(hd:s'.dead=s.dead)(h:∀ x∈o.op.operands,s'.opA x=s.opA x):mO E s' o=mO E s o:=by
 unfold mO wI;obtain⟨dst,op,ty,pos,after,guard⟩:=o;cases op<;>try rfl
 rename_i c;obtain⟨callee,args,argTypes⟩:=c;cases callee<;>try rfl
 rename_i b;cases b<;>try rfl
 simp only;cases hT:argTypes[0]? with
 | none=>rfl
 | some T=>
 simp only[zba];cases hL:E.L T with
 | none=>rfl
 | some t=>
 simp only[zba];cases dst with
 | none=>rfl
 | some d=>
 simp only[zba];split
 ·rename_i e x y T0 T' hargs htys;have hx:s'.opA x=s.opA x:=h x (by
   show x∈(Op.call ⟨.builtin .append,args,argTypes⟩).operands;have e:(Op.call ⟨.builtin .append,args,argTypes⟩).operands=args:=by first|rfl|simp[Op.operands,Call.operands]
   rw[e,<-zIb,hargs];simp)
  have hy:s'.opA y=s.opA y:=h y (by
   show y∈(Op.call ⟨.builtin .append,args,argTypes⟩).operands;have e:(Op.call ⟨.builtin .append,args,argTypes⟩).operands=args:=by first|rfl|simp[Op.operands,Call.operands]
   rw[e,<-zIb,hargs];simp)
  simp_all [St.base]
 ·rfl
def IS(m:Nat):N6 (yE E ops m) ops:=by
 intro i oi hi s d v h;obtain⟨p1,p2,p3,p4,p5,p6,p7⟩:=St.put_fields s d v;have e1:iZ (s.put d v) oi=iZ s oi:=by simp only[iZ,p5]
 have hx:∀ x∈oi.op.operands,∀ t,d=some t->x≠.tmp t:=λx hx t ht e=>h t ht (by
  subst e;exact zab _ (zKc.2 ⟨.tmp t,by simpa using hx,rfl⟩))
 have e2:qv E (s.put d v) oi some=qv E s oi some:=kL p1 p2 λx hm=>lu (hx x hm);have e3:mO E (s.put d v) oi=mO E s oi:=yR p1 p2 p3 λx hm=>lu (hx x hm);unfold yE
 simp_all
def yQ{R:Type}{s:St}{o:Oper}{K:AV×List Nat->Option R}{r:R}(h:wI E s o K=some r):∃ v,mO E s o=some v/\K v=some r:=by
 unfold wI at h;obtain⟨dst,op,ty,pos,after,guard⟩:=o;cases op<;>first|(cases h;done)|skip
 rename_i c;obtain⟨callee,args,argTypes⟩:=c;cases callee<;>first|(cases h;done)|skip
 rename_i b;cases b<;>first|(cases h;done)|skip
 simp only at h;replace h:=bind_some_inv h;obtain⟨T,hT,h⟩:=h;replace h:=bind_some_inv h;obtain⟨t,ht,h⟩:=h;replace h:=bind_some_inv h;obtain⟨d,hd,h⟩:=h;split at h<;>first|(cases h;done)|skip
 rename_i e x y T0 T' hargs htys;split at h<;>first|(cases h;done)|skip
 rename_i e2 ht2;replace h:=bind_some_inv h;obtain⟨l',hl',h⟩:=h;unfold mO wI;simp only[hT,ht,hd,hargs,htys,ht2,hl',zba];all_goals grind
def HV{R:Type}{s:St}{o:Oper}{v:AV}{D:List Nat}(h:mO E s o=some (v,D))(K:St->Option R):pB E s o K=K (({ s with dead:=D }:St).put o.dst v):=by
 unfold mO wI at h;obtain⟨dst,op,ty,pos,after,guard⟩:=o;cases op<;>first|(cases h;done)|skip
 rename_i c;obtain⟨callee,args,argTypes⟩:=c;cases callee<;>first|(cases h;done)|skip
 rename_i b;cases b<;>first|(cases h;done)|skip
 simp only at h;replace h:=bind_some_inv h;obtain⟨T,hT,h⟩:=h;replace h:=bind_some_inv h;obtain⟨t,ht,h⟩:=h;replace h:=bind_some_inv h;obtain⟨d,hd,h⟩:=h;split at h<;>first|(cases h;done)|skip
 rename_i e x y T0 T' hargs htys;split at h<;>first|(cases h;done)|skip
 rename_i e2 ht2;replace h:=bind_some_inv h;obtain⟨l',hl',h⟩:=h;unfold pB;simp only[hT,ht,hd,hargs,htys,ht2,hl',zba];split at h<;>first|(cases h;done)|skip
 ·simp_all
 ·rename_i hx;split at h<;>first|(cases h;done)|skip
  rename_i hlen;cases h
  simp_all
def BE{s:St}{dst:Option Nat}{args:Array Operand}{argTypes:Array TypeId}{ty:TypeId}{pos:String}{after:Array Edge}{guard:Option (Nat×Bool)}{v:AV}{D:List Nat}{p:Nat}{y:Operand}(h:mO E s ⟨dst,.call ⟨.builtin .append,args,argTypes⟩,ty,pos,after,guard⟩=some (v,D))(hargs:args.toList=[.tmp p,y]):D=kE s p:=by
 unfold mO wI at h;simp only at h;replace h:=bind_some_inv h;obtain⟨T,hT,h⟩:=h;replace h:=bind_some_inv h;obtain⟨t,ht,h⟩:=h;replace h:=bind_some_inv h;obtain⟨d,hd,h⟩:=h;split at h<;>first|(cases h;done)|skip
 rename_i e x y' T0 T' hargs' htys;rw[hargs] at hargs';cases hargs';split at h<;>first|(cases h;done)|skip
 replace h:=bind_some_inv h;obtain⟨l',hl',h⟩:=h;have ho:s.opA (.tmp p)=s.tm p:=rfl;all_goals grind [kE]
theorem vo{R:Type}{m:Nat}{K:St->Option R}{r:R}:∀ (c k:Nat) (s:St),I9 E ops m c k s K=some r->∃ s',ig (yE E ops m) ops c k s=some s'/\K s'=some r
 | 0,k,s,h=>⟨s,rfl,h⟩
 | c+1,k,s,h=>by
  simp only[I9] at h;cases ho:ops[k]? with
  | none=>rw[ho] at h;cases h
  | some o=>
   rw[ho] at h;simp only at h;split at h<;>first|(cases h;done)|skip
   rename_i hlk;split at h
   ·rename_i hkm;obtain⟨v,h1,h2⟩:=yQ h;obtain⟨s',h3,h4⟩:=vo c (k+1) _ h2
    simp_all [ig,yE,zjb,zba]
   ·rename_i hkm;obtain⟨v,h1,h2⟩:=fd h;obtain⟨s',h3,h4⟩:=vo c (k+1) _ h2
    simp_all [ig,yE,zba]
def eY(m:Nat)(D:List Nat)(listed:Array Bool)(s:St):St:=if listed.getD m false then{ s with dead:=D } else s
def w6(s:St)(d:Option Nat)(v:AV)(D:List Nat):({ s with dead:=D }:St).put d v={ s.put d v with dead:=D }:=by
 cases d with
 | none=>rfl
 | some d=>
  all_goals grind [St.put]
def xB(m:Nat)(D:List Nat)(listed:Array Bool)(s:St):(eY m D listed s).ob=s.ob/\(eY m D listed s).fresh=s.fresh/\(eY m D listed s).lkS=s.lkS/\(eY m D listed s).lkO=s.lkO/\(eY m D listed s).nt=s.nt/\(eY m D listed s).tm=s.tm:=by
 grind [eY]
def zh{V:Nat->St->Option AV}{md:Region.Mode}{n:Nat}{L:Array Bool->St->Prop}{T:List Nat}:∀ (f:Nat) (listed:Array Bool) (s:St),nl V md ops n L f listed s ->
  (∀ t∈T,∀ j oj,ops[j]?=some oj->listed.getD j true=false->oj.dst≠some t)->∃ listed' s',L listed' s'/\(∀ t∈T,s'.tm t=s.tm t)
 | f,listed,s,h,hT=>by
  obtain⟨l',s',m1,m2,_⟩:=oJ f listed s h hT;grind
end
section
variable{P:Program}{E:Env}{w0:Root}{ops:Array Oper}
theorem lI(hE:EnvOk P E){n m g p:Nat}{tp:AV}{D:List Nat}{y:Operand}{dst:Option Nat}{args:Array Operand}{argTypes:Array TypeId}{ty:TypeId}{pos:String}{after:Array Edge}{L:Array Bool->St->Prop}{Q:Exit->Act->World->Prop}{s0:St}{S0:Nat->Nat->Prop}{γ0:Nat->Option Nat}{a0:Act}{w1:World}
  (hm:ops[m]?=some ⟨dst,.call ⟨.builtin .append,args,argTypes⟩,ty,pos,after,none⟩) (hargs:args.toList=[.tmp p,y])
  (hp:∀ (j:Nat) (oj:Oper),ops[j]?=some oj->oj.dst=some p->Region.waitsFor .any ops m j=true)
  (hheads:∀ (j:Nat) (oj:Oper),j<n->ops[j]?=some oj->oj.guard=none)
  (hD:∀ s:St,s.tm p=tp->s.dead=s0.dead->kE s p=D)
  (hd:∀ (i j:Nat) (oi oj:Oper),i≠j->ops[i]?=some oi->ops[j]?=some oj->∀ d,oj.dst=some d->oi.dst≠some d)
  (hLs:∀ listed s,L listed s->s.tm p=tp/\listed.getD m false=true)
  (hL:∀ listed s S γ β a w,Rp w0 S γ β { s with dead:=D } a w->Fm s0 S0 γ0 a0 w1 S γ a w->Sm s0 s->(∀ j oj,ops[j]?=some oj->listed.getD j true=false->Fr E { s with dead:=D } γ β oj)->L listed s->wpAnyIn (FW ro) nn P .any ops Q g listed a w) :
  ∀ (f:Nat) (listed:Array Bool) (s:St) (S:Nat->Nat->Prop) (γ:Nat->Option Nat) (β:Nat->Option (Nat×Nat)) (a:Act) (w:World),Rp w0 S γ β (eY m D listed s) a w->Fm s0 S0 γ0 a0 w1 S γ a w->Sm s0 s->s.dead=s0.dead ->
   (∀ j oj,ops[j]?=some oj->listed.getD j true=false->Fr E (eY m D listed s) γ β oj)->nl (yE E ops m) .any ops n L f listed s->wpAnyIn (FW ro) nn P .any ops Q (f+g) listed a w
 | 0,listed,s,S,γ,β,a,w,h,hF,hS,hdd,hfr,hh=>by
  rw[z1a];have hh':L listed s:=hh;grind [eY]
 | f+1,listed,s,S,γ,β,a,w,h,hF,hS,hdd,hfr,hh=>by
  rw[show f+1+g=(f+g)+1 by omega]
  refine⟨λh0=>absurd h0 hh.1,λi hi=>?_⟩;obtain⟨hin,hst⟩:=hh.2 i hi;have hun:=(mem_ready.1 hi).1;have unl:∀ j,(listed.setIfInBounds i true).getD j true=false->i≠j/\listed.getD j true=false:=λj hu=>by
   by_cases hij:i=j
   ·subst hij;exfalso;rcases zla i listed.size with hlt|hge
    ·simp[Array.getD,hlt] at hu
    ·simp[Array.getD,znc.2 hge] at hu
   ·rw[getD_set_ne true hij] at hu;exact⟨hij,hu⟩
  have hsz:i<listed.size:=by
   rcases zla i listed.size with hlt|hge
   ·exact hlt
   ·simp[Array.getD,znc.2 hge] at hun
  obtain⟨_,o,ho,hall⟩:=mem_ready.1 hi;unfold pR at hst;rw[ho] at hst;simp only at hst;obtain⟨v,hv,hst⟩:=hst;unfold yE at hv;rw[ho] at hv;simp only at hv;split at hv<;>first|(cases hv;done)|skip
  rename_i hlko;have pf:=St.put_fields s o.dst v;obtain⟨z1,z2,z3,z4,z5,z6⟩:=xB m D listed s;have smL:Sm s0 (eY m D listed s):=⟨z3.trans hS.lkS,z4.trans hS.lkO,z2.trans hS.fresh,z5.trans hS.nt⟩;have hlk':∀ t∈(eY m D listed s).lkS,o.dst≠some t:=λt ht e=>hlko (by
   rw[z3] at ht;simp[iZ,e];exact ht)
  by_cases hmi:i=m
  ·
   subst hmi;rw[if_pos rfl] at hv;rw[hm] at ho;cases ho;have hlf:=getD_both hun;have e0:eY i D listed s=s:=by unfold eY;rw[hlf];rfl
   have hv2:∃ D',mO E s ⟨dst,.call ⟨.builtin .append,args,argTypes⟩,ty,pos,after,none⟩=some (v,D'):=by
    cases ha:mO E s ⟨dst,.call ⟨.builtin .append,args,argTypes⟩,ty,pos,after,none⟩ with
    | none=>rw[ha] at hv;cases hv
    | some q=>rw[ha] at hv;obtain⟨q1,q2⟩:=q;cases hv;exact⟨q2,rfl⟩
   obtain⟨D',hv2⟩:=hv2;have hdp:dst≠some p:=λe=>by
    have hw:=hp i _ hm e;obtain⟨ow,how,e',he,hb,hon⟩:=Region.waitsFor_spec hw;rw[hm] at how;cases how;have h1:=hall e' he hb;rw[hon] at h1;rw[hlf] at h1;cases h1
   obtain⟨l',s',m1,m2⟩:=zh (T:=[p]) f _ _ hst (λt ht j oj hj hu=>by
    simp only[zva,z9b,or_false] at ht;subst ht;intro hdj;have hw:=hp j oj hj hdj;obtain⟨ow,how,e,he,hb,hon⟩:=Region.waitsFor_spec hw;rw[hm] at how;cases how;have h1:=hall e he hb;rw[hon] at h1;obtain⟨_,hu'⟩:=unl j hu;rw[getD_both hu'] at h1;cases h1)
   have z7:=(hLs _ _ m1).1;rw[m2 p (by simp),sn hdp] at z7
   have eD:D'=D:=(BE hv2 hargs).trans (hD s z7 hdd);subst eD;rw[e0] at h hlk';obtain⟨s1,k1,k2⟩:=vm hE h (e0 ▸ hfr i _ hm hun) (λT t _ ht=>hE.flat T t ht) hlk' (λ_ _ _ e=>by cases e) (K:=some) (r:=(({ s with dead:=D' }:St).put dst v)) (by rw[HV hv2])
   cases k1;obtain⟨r1,r2,r3,r4,r5,r6⟩:=k2;unfold wpOpIn;rw[hm];simp only;rw[if_pos (by simp[Region.wanted])]
   refine(aY r6 λval w' ⟨S',γ',β',m1,m2,m3⟩=>?_);have el:eY i D' (listed.setIfInBounds i true) (s.put dst v)=({ s with dead:=D' }:St).put dst v:=by
    unfold eY;rw[if_pos (by simp[hsz])]
    exact(w6 s dst v D').symm
   refine lI hE hm hargs hp hheads hD hd hLs hL f _ _ S' γ' β' _ _ (by rw[el];exact m1) (hF.trans m2 hS.lkS hS.lkO) (hS.trans (Sm.put s dst v)) (pf.2.2.1.trans hdd) (λj oj hj hu=>?_) hst
   rw[el];obtain⟨hij,hu'⟩:=unl j hu;exact(e0 ▸ hfr j oj hj hu':Fr E s γ β oj).keep (o:=⟨dst,.call ⟨.builtin .append,args,argTypes⟩,ty,pos,after,none⟩) (λd hdj=>hd i j _ oj hij hm hj d hdj) r3 r5 m3
  ·
   rw[if_neg hmi] at hv;have hog:=hheads i o hin ho;have hval:val E ops (eY m D listed s) o=some v:=by
    have e1:iZ (eY m D listed s) o=iZ s o:=by simp only[iZ,z3]
    have e2:qv E (eY m D listed s) o some=qv E s o some:=kL z1 z2 λx _=>by
     cases x<;>simp only[St.opA,z6]
    unfold val;rw[e1,if_neg hlko,hog,e2];exact hv
   have el:(eY m D listed s).put o.dst v=eY m D (listed.setIfInBounds i true) (s.put o.dst v):=by
    unfold eY;rw[getD_set_ne false hmi];split
    ·rw[w6]
    ·rfl
   obtain⟨k1,k2⟩:=wq hE h (hfr i o ho hun) hval;have pl:=St.put_fields (eY m D listed s) o.dst v;have frn:∀ {γ':Nat->Option Nat} {β':Nat->Option (Nat×Nat)},(∀ id':Nat,o.dst≠some (id'-(eY m D listed s).base)\/id'<(eY m D listed s).base->γ' id'=γ id'/\β' id'=β id')->∀ j oj,ops[j]?=some oj->(listed.setIfInBounds i true).getD j true=false->Fr E (eY m D (listed.setIfInBounds i true) (s.put o.dst v)) γ' β' oj:=λhk j oj hj hu=>by
    obtain⟨hij,hu'⟩:=unl j hu;rw[<-el];exact(hfr j oj hj hu').keep (λd hdj=>hd i j o oj hij ho hj d hdj) pl.2.1 (λid' _ _=>by rw[pl.1]) hk
   unfold wpOpIn;rw[ho];simp only;split
   ·rename_i hw;refine(aY (k1 hw) λu' w' ⟨S',γ',β',m1,m2,m3⟩=>?_);exact lI hE hm hargs hp hheads hD hd hLs hL f _ _ S' γ' β' _ _ (el ▸ m1) (hF.trans m2 smL.lkS smL.lkO) (hS.trans (Sm.put s o.dst v)) (pf.2.2.1.trans hdd) (frn m3) hst
   ·rename_i hw;obtain⟨m1,m2⟩:=k2 (by simpa using hw)
    refine⟨λ_ _=>trivial,?_⟩;exact lI hE hm hargs hp hheads hD hd hLs hL f _ _ S γ β _ _ (el ▸ m1) (hF.trans m2 smL.lkS smL.lkO) (hS.trans (Sm.put s o.dst v)) (pf.2.2.1.trans hdd) (frn λid _=>⟨rfl,rfl⟩) hst
def tw(hE:EnvOk P E){id:Nat}{n m:Nat}{Q:Exit->Act->World->Prop}{S:Nat->Nat->Prop}{γ:Nat->Option Nat}{β:Nat->Option (Nat×Nat)}{s:St}{a:Act}{w:World}{R:Type}{k:St->Option R}{r:R}{N:Nat}
  (h:Rp w0 S γ β s a w) (hf:BB E s γ β ops.toList) (hmk:bI ops.toList=true) (hap:wJ E ops n m=true) {an:Ann}
  (hev:I9 E ops m n 0 s (λs2=>dI E N R ops an ((aL 0 ops.toList).drop n) { s2 with dead:=kE s2 (BD ops m) } k)=some r)
  (hQ:∀ s' S' γ' β' a' w',Rp w0 S' γ' β' s' a' w'->Fm s S γ a w S' γ' a' w'->Sk s s'->k s'=some r->Q .normal a' w'):(Code.region id ops true).wpIn (FW ro) nn P Q a w:=by
 simp only[bI,zaa] at hmk;obtain⟨⟨hm1,hm2⟩,hm3⟩:=hmk;have hstores:(ops.toList.all λo=>match o.op with|.store ..=>o.dst.isNone|_=>true)=true:=hm3
 unfold wJ at hap;split at hap<;>first|(cases hap;done)|skip
 rename_i oa hoa;split at hap<;>first|(cases hap;done)|skip
 rename_i c hop;split at hap<;>first|(cases hap;done)|skip
 rename_i p y hcal hargs;simp only[zaa,decide_eq_true_eq] at hap;obtain⟨⟨⟨⟨⟨⟨l1,l2⟩,l3⟩,l4⟩,l5⟩,l6⟩,l7⟩:=hap;have heads:∀ j,j<n->∃ o,ops[j]?=some o/\o.guard=none:=λj hj=>by
  have:=zja.1 l3 j (zWa.2 hj);split at this<;>first|(cases this;done)|skip
  rename_i o ho;simp only[zaa] at this;exact⟨o,ho,by simpa using this.1.2⟩
 have hn:n<=ops.size:=by
  rcases zla ops.size n with c|c
  ·obtain⟨o,ho,_⟩:=heads ops.size c;have:=(zfa.1 ho).1;omega
  ·exact c
 obtain⟨dst,op,ty,pos,after,guard⟩:=oa;have hg0:guard=none:=by
  obtain⟨o,ho,hg⟩:=heads m l1;rw[hoa] at ho;cases ho;exact hg
 subst hg0;obtain⟨callee,args,argTypes⟩:=c;simp only at hop hcal hargs;subst hop;subst hcal;have hpeq:BD ops m=p:=by unfold BD;rw[hoa];simp only[hargs]
 rw[hpeq] at hev;have hp:∀ (j:Nat) (oj:Oper),ops[j]?=some oj->oj.dst=some p->Region.waitsFor .any ops m j=true:=λj oj hj e=>by
  have hjlt:=(zfa.1 hj).1;have:=zja.1 l2 j (zWa.2 hjlt);rw[hj,zba,e] at this;simpa using this
 have hheads:∀ (j:Nat) (oj:Oper),j<n->ops[j]?=some oj->oj.guard=none:=λj oj hjn hj=>by
  obtain⟨o,ho,hg⟩:=heads j hjn;rw[hj] at ho;cases ho;exact hg
 obtain⟨sF,q1,q2⟩:=vo n 0 s hev;have keep:∀ (c kk:Nat) (s s':St),ig (yE E ops m) ops c kk s=some s'->s'.dead=s.dead/\Sm s s':=by
  intro c
  induction c with
  | zero=>intro kk s s' hs;simp only[ig,zca] at hs;subst hs;exact⟨rfl,Sm.refl s⟩
  | succ c ih=>
   intro kk s s' hs;simp only[ig] at hs;obtain⟨v,h1,h2⟩:=bind_some_inv hs;obtain⟨m2,m3⟩:=ih _ _ _ h2;have pf:=St.put_fields s ((ops[kk]?).bind (·.dst)) v;exact⟨m2.trans pf.2.2.1,(Sm.put s _ v).trans m3⟩
 obtain⟨c2,c3⟩:=keep n 0 s sF q1;have hD:∀ s2:St,s2.tm p=sF.tm p->s2.dead=s.dead->kE s2 p=kE sF p:=λs2 e1 e2=>by
  unfold kE;rw[e1,e2,c2]
 generalize kE sF p=D at q2 hD;have hW:ki .any ops n:=by
  intro listed i inv hin hun t ht hr;simp only[zKb,decide_eq_true_eq,zaa] at l7;rcases l7 with l7|⟨⟨l7,l8⟩,l9⟩
  ·obtain⟨_,o,ho,_⟩:=mem_ready.1 hr;have:=(zfa.1 ho).1;omega
  ·exact tail_waits l8 l9 l7 inv _ i rfl hin hun t ht hr
 refine wpIn_region_any hE.mixed ?_;have hg:∃ os d,w.drawn<=d/\({ w with drawn:=w.drawn+1 }:World)=grown w os d:=⟨[],w.drawn+1,zlc _,by simp[grown]⟩
 obtain⟨os,d,hdr,hg⟩:=hg;obtain⟨g1,g2⟩:=h.grow (os:=os) (d:=d) hdr (S':=S) (λ_ _ hb=>hb) (λ_ _ hb=>.inl hb);rw[hg];have inv0:HeadInv .any ops n (Array.replicate ops.size false):=
  ⟨by simp,λj oj _ hl=>(by rw[getD_replicate_false] at hl;cases hl),λt _ ht=>getD_in (by simpa using ht) (getD_replicate_false _ _)⟩
 have H:=oK (sF:=sF) (IS (E:=E) (ops:=ops) m) hn hW n 0 (Array.replicate ops.size false) s (by omega) inv0 (λi hi=>by omega) l6 q1
 have e0:eY m D (Array.replicate ops.size false) s=s:=by unfold eY;rw[getD_replicate_false];rfl
 have hdl:(ops.toList.drop n).length=ops.size-n:=by simp
 have hsub0:∀ j oj,ops[j]?=some oj->(Array.replicate ops.size false).getD j true=false->Fr E (eY m D (Array.replicate ops.size false) s) γ β oj:=λj oj hj _=>by
  rw[e0];exact hf oj (zIb.2 (zZb hj))
 have:=lI (ro:=ro) (nn:=nn) (w0:=w0) (Q:=Q) (g:=ops.size-n) (s0:=s) (S0:=S) (γ0:=γ) (a0:=a) (w1:=grown w os d) (tp:=sF.tm p) hE hoa hargs hp hheads hD (λi j oi oj hij hi hj d hd=>fU hm1 hij (by rw[zua];exact hi) (by rw[zua];exact hj) d hd)
  (λlisted s2 hL=>by
   obtain⟨_,hl,rfl⟩:=hL;exact⟨rfl,hl m l1⟩)
  (λlisted s2 S2 γ2 β2 a2 w2 m1 m2 m3 m4 m5=>by
   obtain⟨m5,m6,m7⟩:=m5;subst m7;have hseq:=fh (F:=FW ro) (n:=nn) (P:=P) (md:=.any) (ops:=ops) (Q':=Q) (ops.toList.drop n) n listed a2 w2 (λj=>by rw[zeb,zua]) (by rw[hdl];exact m5) ?_
   ·rwa [hdl] at hseq
   have hunl:∀ j oj,ops[j]?=some oj->n<=j->listed.getD j true=false:=by
    intro j oj hj hnj;have key:∀ (g k:Nat) (listed:Array Bool),Region.seqB .any ops g k listed=true->∀ j,k<=j->j<k+g->listed.getD j true=false:=by
     intro g
     induction g with
     | zero=>intro k listed _ j h1 h2;omega
     | succ g ih=>
      intro k listed hB j h1 h2;simp only[Region.seqB,zaa,decide_eq_true_eq] at hB;by_cases hjk:j=k
      ·subst hjk;have:j∈Region.ready .any ops listed:=by rw[hB.1];simp
       exact(mem_ready.1 this).1
      ·have:=ih (k+1) _ hB.2 j (by omega) (by omega)
       rwa [getD_set_ne true (Ne.symm hjk)] at this
    have hjlt:=(zfa.1 hj).1;exact key _ _ _ m5 j hnj (by omega)
   have fin:=rt (ro:=ro) (nn:=nn) (ops:=ops) hE (Q:=Q) hstores N R ((aL 0 ops.toList).drop n) k r an m1 (by
     rw[z1b,aU];intro o ho;obtain⟨i,hi,he⟩:=zRa ho;have hi2:ops[n+i]?=some o:=by
      have:(ops.toList.drop n)[i]?=some o:=by rw[zda hi,he]
      rwa [zeb,zua] at this
     exact m4 (n+i) o hi2 (hunl _ _ hi2 (by omega)))
    (by
     rw[z1b,aU];intro A B o o' e ho d hd;exact dD hm1 (ops.toList.take n++A) B o o' (by rw[zTa,<-e,zna]) ho d hd)
    (λp hp=>gV (zHb hp)) q2 (λs3 S3 γ3 β3 a3 w3 n1 n2 n3 n4=>by
     have smD:Sm s2 ({ s2 with dead:=D }:St):=⟨rfl,rfl,rfl,rfl⟩;refine hQ s3 S3 γ3 β3 a3 w3 n1 ?_ (Sk.trans (m3.trans smD).sk n3) n4;have f0:Fm s S γ a w S γ a (grown w os d):=⟨λ_ _ hb=>hb,g2.cell,λ_ _=>rfl,λid hid b hb=>⟨hb,.inl (cr (h.γn id b hb).2)⟩,by simp,λ_ _ hb=>hb,jp.same rfl cG.grown⟩
     exact(f0.trans m2 rfl rfl).trans n2 (show _=_ from m3.lkS) (show _=_ from m3.lkO))
   rwa [z1b,aU] at fin)
  n (Array.replicate ops.size false) s S γ β a (grown w os d) (by rw[e0];exact g1) (Fm.refl _ _ _ _ _) (Sm.refl s) rfl hsub0 H
 rw[show n+(ops.size-n)=ops.size by omega] at this
 exact this
end
end Sy
end
noncomputable section
namespace Sy
open Go
variable{ro:Option Nat}{nn:Nat}
section
variable{ops:Array Oper}
theorem lH:∀ n,(sW ops n).length=n
 | 0=>rfl
 | n+1=>by simp[sW,lH n]
def pj(ops:Array Oper)(t:Nat):Nat:=match ops[t]? with
 | some o=>o.after.toList.foldl (λm e=>if Region.binds .any e&&decide (e.on<t) then(m ||| 2^e.on) ||| (sW ops t).getD e.on 0 else m) 0
 | none=>0
theorem lG{t:Nat}:∀ {n:Nat},t<n->(sW ops n).getD t 0=pj ops t
 | 0,h=>by omega
 | n+1,h=>by
  show(sW ops n++[pj ops n]).getD t 0=_;by_cases e:t=n
  ·subst e;rw[z8a,ztb (by rw[lH];exact zha _),lH,z1c]
   rfl
  ·rw[z8a,zdb (by rw[lH];omega),<-z8a]
   exact lG (by omega)
theorem tT{t i:Nat}{l:List Nat}:∀ (es:List Edge) (m:Nat),Nat.testBit (es.foldl (λm e=>if Region.binds .any e&&decide (e.on<t) then(m ||| 2^e.on) ||| l.getD e.on 0 else m) m) i=true ->
  Nat.testBit m i=true\/∃ e∈es,Region.binds .any e=true/\e.on<t/\(e.on=i\/Nat.testBit (l.getD e.on 0) i=true)
 | [],m,h=>.inl h
 | e::es,m,h=>by
  simp only[z7b] at h;rcases tT es _ h with k|⟨e',h1,h2⟩
  ·grind
  ·grind
def jS{listed:Array Bool}(hcl:∀ j oj,ops[j]?=some oj->listed.getD j false=true->∀ e∈oj.after,Region.binds .any e=true->listed.getD e.on false=true) :
  ∀ (t:Nat) (o:Oper),ops[t]?=some o->(∀ e∈o.after,Region.binds .any e=true->listed.getD e.on false=true)->∀ i,Nat.testBit (pj ops t) i=true->listed.getD i false=true:=by
 intro t
 induction t using Nat.strongRecOn with
 | _ t ih=>
  intro o ho hd i hi;unfold pj at hi;rw[ho] at hi;simp only at hi;rcases tT _ _ hi with k|⟨e,h1,h2,h3,h4⟩
  ·simp at k
  ·grind [lG]
end
section
variable{E:Env}{ops:Array Oper}
theorem lW{i:Nat}{o:Oper}:∀ (f j0:Nat),kN E ops i o f j0=true->∀ j oj,j0<=j->j<j0+f->(∀ q oq,j0<=q->q<=j->ops[q]?=some oq->iP E oq=true)->ops[j]?=some oj->(∀ e∈oj.after,Region.binds .any e=true->e.on≠i)->o.apart ops oj=true
 | 0,j0,_,j,oj,h1,h2,_,_,_=>by omega
 | f+1,j0,h,j,oj,h1,h2,h3,h4,h5=>by
  have hlt:j0<ops.size:=by grind
  have h0:=zyb hlt;simp only[kN,h0] at h;rw[if_pos (h3 j0 _ (zha _) h1 h0)] at h;simp only[zaa,zKb] at h;by_cases e:j=j0
  ·grind
  ·exact lW f (j0+1) h.2 j oj (by omega) (by omega) (λq oq q1 q2=>h3 q oq (by omega) q2) h4 h5
def jg(h:gm E ops=true){i:Nat}{o:Oper}(ho:ops[i]?=some o) :
  (∀ e∈o.after,Region.binds .any e=true->e.on<i)/\(iP E o=true->kN E ops i o ops.size (i+1)=true) ∧
  (iP E o=false->(∀ j,j<i->Nat.testBit (pj ops i) j=true)/\∀ j,i<j->j<ops.size->Nat.testBit (pj ops j) i=true):=by
 have hi:=(zfa.1 ho).1;simp only[gm,zja,zWa] at h;have h1:=h i hi;rw[ho] at h1;simp only[zaa,zja,zKb,zxa,decide_eq_true_eq] at h1;refine⟨λe he hb=>?_,λhc=>?_,λhc=>⟨λj hj=>?_,λj hj hlt=>?_⟩⟩
 ·rcases h1.1 e (by simpa using he) with k|k
  ·rw[hb] at k;cases k
  ·exact k
 ·have:=h1.2;rw[if_pos hc] at this;exact this
 ·have:=h1.2;rw[if_neg (by simp[hc])] at this
  simp only[zja,zWa] at this;have h2:=this j (by omega)
  rw[if_pos hj,lG hi] at h2;exact h2
 ·have:=h1.2;rw[if_neg (by simp[hc])] at this
  simp only[zja,zWa] at this;have h2:=this j hlt;rw[if_neg (by omega),lG hlt] at h2
  simp only[zKb,decide_eq_true_eq] at h2;rcases h2 with h2|h2
  ·omega
  ·exact h2
structure Full(ops:Array Oper)(k:Nat)(listed:Array Bool):Prop where
 size:listed.size=ops.size
 done:∀ j,j<k->j<ops.size->listed.getD j false=true
 rest:∀ j,k<=j->j<ops.size->listed.getD j true=false
def Full.set{k:Nat}{listed:Array Bool}(h:Full ops k listed)(hk:k<ops.size):Full ops (k+1) (listed.setIfInBounds k true):=by
 refine⟨by simp[h.size],λj hj hlt=>?_,λj hj hlt=>?_⟩
 ·by_cases e:j=k
  ·simp_all [h.size]
  ·exact getD_set_true (h.done j (by omega) hlt)
 ·rw[getD_set_ne true (by omega)];exact h.rest j (by omega) hlt
def Full.inv{k n:Nat}{listed:Array Bool}(hr:gm E ops=true)(h:Full ops k listed)(hkn:k<=n):HeadInv .any ops n listed:=by
 refine⟨h.size,λj oj hj hl e he hb=>?_,λt ht hlt=>h.rest t (by omega) hlt⟩
 have hlt:=(zfa.1 hj).1;have h1:=(jg hr hj).1 e he hb;rcases zla j k with hk|hk
 ·exact h.done e.on (by omega) (by omega)
 ·have:=getD_both (h.rest j hk hlt)
  simp_all
theorem Full.ready{k:Nat}{listed:Array Bool}(hr:gm E ops=true)(h:Full ops k listed)(hk:k<ops.size):k∈Region.ready .any ops listed:=
 mem_ready.2 ⟨h.rest k (zha _) hk,_,zyb hk,λe he hb=>by
  have:=(jg hr (zyb hk)).1 e he hb;exact h.done e.on this (by omega)⟩
def Full.later{k:Nat}{listed:Array Bool}(h:Full ops k listed):∀ j∈Region.ready .any ops listed,k<=j:=by
 intro j hj;obtain⟨hun,o,ho,_⟩:=mem_ready.1 hj;have hlt:=(zfa.1 ho).1;rcases zla j k with hk|hk
 ·have:=h.done j hk hlt;grind
 ·exact hk
def CW(hr:gm E ops=true){n:Nat}{o:Oper}(ho:ops[n]?=some o)(hc:iP E o=false):ki .any ops n:=by
 intro listed i inv hin hun t ht hrd;have hn:=(zfa.1 ho).1;obtain⟨_,ot,hot,hdeps⟩:=mem_ready.1 hrd;have htlt:=(zfa.1 hot).1;have h3:=(jg hr ho).2.2 hc;rcases zla n t with h|h
 ·have h1:=jS inv.closed t ot hot hdeps n (h3.2 t h htlt);have h2:=inv.tail n (zha _) hn;grind
 ·have e:t=n:=by omega
  subst e;have h1:=jS inv.closed t ot hot hdeps i (h3.1 i hin);grind
def CX:ki .any ops ops.size:=λlisted i _ _ _ t ht hrd=>by
 obtain⟨_,ot,hot,_⟩:=mem_ready.1 hrd
 simp_all
def EJ(hr:gm E ops=true){k:Nat}{o:Oper}{listed:Array Bool}(h:Full ops k listed)(ho:ops[k]?=some o)(hc:iP E o=false):∀ j∈Region.ready .any ops listed,j=k:=by
 intro j hj;have h1:=h.later j hj;obtain⟨_,oj,hoj,hdeps⟩:=mem_ready.1 hj;have hlt:=(zfa.1 hoj).1;rcases zla k j with h2|h2
 ·exfalso;have h3:=jS (h.inv hr (zha _)).closed j oj hoj hdeps k (((jg hr ho).2.2 hc).2 j h2 hlt);have h4:=h.rest k (zha _) (by omega)
  grind
 ·omega
def gX(E:Env)(ops:Array Oper):Nat->Nat->Nat
 | 0,k=>k
 | f+1,k=>match ops[k]? with
  | some o=>if iP E o then gX E ops f (k+1) else k
  | none=>k
theorem pN:∀ (f k:Nat),k+f=ops.size->k<=gX E ops f k/\gX E ops f k<=ops.size/\(∀ j oj,k<=j->j<gX E ops f k->ops[j]?=some oj->iP E oj=true)/\(gX E ops f k=ops.size\/∃ o,ops[gX E ops f k]?=some o/\iP E o=false)
 | 0,k,h=>⟨zha _,by simp only[gX];omega,λj oj h1 h2=>by simp only[gX] at h2;omega,.inl (by simpa [gX] using h)⟩
 | f+1,k,h=>by
  have hk:k<ops.size:=by omega
  have h0:=zyb hk;simp only[gX,h0];split
  ·rename_i hc;obtain⟨q1,q2,q3,q4⟩:=pN f (k+1) (by omega)
   all_goals grind
  ·grind
theorem xt(hr:gm E ops=true){n:Nat}{L:Array Bool->St->Prop}(hW:ki .any ops n)(hdone:∀ listed s,L listed s->∀ j∈Region.ready .any ops listed,n<=j)(hn:n<=ops.size) :
  ∀ (l:List Oper) (k:Nat) (listed:Array Bool) (s s':St),(∀ j,j<l.length->l[j]?=ops[k+j]?)->k+l.length=n->Full ops k listed->(∀ j oj,k<=j->j<n->ops[j]?=some oj->iP E oj=true) ->
  seqV E ops l s=some s'->(∀ listed',Full ops n listed'->L listed' s')->BY E .any ops n L l.length listed s
 | [],k,listed,s,s',_,hk,hF,_,h,hL=>by
  have:k=n:=by simpa using hk
  subst this;simp only[seqV,zca] at h;subst h;exact hL listed hF
 | o::l,k,listed,s,s',hl,hk,hF,hcm,h,hL=>by
  have h0:ops[k]?=some o:=by simpa using(hl 0 (by simp)).symm
  have hkn:k<n:=by grind
  have hks:k<ops.size:=by omega
  simp only[seqV] at h;obtain⟨v,h1,h2⟩:=bind_some_inv h;refine rG h0 hW hkn hdone l.length listed s (hF.inv hr (zbc hkn)) (λj oj hjn hj hne hun hno=>?_) (hF.ready hr hks) h1
   (xt hr hW hdone hn l (k+1) _ _ s' (λj hj=>by have:=hl (j+1) (by simp;omega);simpa [zvb,zjc 1 j] using this) (by simp only[zBa] at hk;omega) (hF.set hks) (λj oj h1=>hcm j oj (by omega)) h2 hL)
  have hjlt:=(zfa.1 hj).1;have hkj:k<j:=by
   rcases zla j k with h3|h3
   ·have:=hF.done j h3 hjlt;grind
   ·omega
  exact lW ops.size (k+1) ((jg hr h0).2.1 (hcm k o (zha _) hkn h0)) j oj (by omega) (by omega) (λq oq q1 q2=>hcm q oq (by omega) (by omega)) hj hno
end
section
variable{P:Program}{E:Env}{w0:Root}{ops:Array Oper}
def D5(hE:EnvOk P E){N:Nat}{R:Type}{i:Nat}{o:Oper}{l:List (Nat×Oper)}{S:Nat->Nat->Prop}{γ:Nat->Option Nat}{β:Nat->Option (Nat×Nat)}{s:St}{a:Act}{w:World}{k:St->Option R}{r:R}{an:Ann}
  (h:Rp w0 S γ β s a w) (hst:∀ T x y,o.op=.store T x y->o.dst=none) (hf:Fr E s γ β o) (hfl:BB E s γ β (l.map Prod.snd)) (hd:∀ o'∈l.map Prod.snd,∀ d,o'.dst=some d->o.dst≠some d) (hsg:o.guard=none->kQ E s i o l=false)
  (hev:dI E (N+1) R ops an ((i,o)::l) s k=some r) {next:Act->World->Prop} {Q:Exit->Act->World->Prop}
  (hk:∀ u an' s' S' γ' β' w',dI E N R ops an' l s' k=some r->Rp w0 S' γ' β' s' (a.put o.dst u) w'->Fm s S γ a w S' γ' (a.put o.dst u) w'->Sk s s'->BB E s' γ' β' (l.map Prod.snd)->next (a.put o.dst u) w') :
  if Region.wanted o (yielded ops a.tmps) then o.wpIn (FW ro) nn P a w next Q else(∀ f,o.about P w a.eval=some f->(FW ro).fn f)/\next (a.put o.dst undef) w:=by
 have run:¬ iZ s o=true->zd E an l s o (λs'=>dI E N R ops (ql E o an) l s' k)=some r->o.wpIn (FW ro) nn P a w next Q:=by
  intro hlk he;have hlk':∀ t∈s.lkS,o.dst≠some t:=λt ht e=>hlk (by simp[iZ,e];exact ht)
  unfold zd at he;split at he
  ·split at he;rename_i hcr;refine vn (K:=λs1=>dI E N R ops (ql E o an) l s1 k) hE h hlk' he λu s' S' γ' β' w' m0 m1 m2 m3=>?_;exact hk u _ s' S' γ' β' w' m0 m1 m2 m3 λo' ho'=>by
    obtain⟨p,hp,rfl⟩:=zsb.1 ho';have:=zja.1 hcr p hp;exact Ae (by simpa using this)
   split at he<;>first|(cases he;done)|skip
   rename_i hna;refine vn (K:=λs1=>dI E N R ops (ql E o an) l (u5 s1) k) hE h hlk' he λu s' S' γ' β' w' m0 m1 m2 m3=>?_;exact hk u _ (u5 s') S' γ' β' w' m0 m1.later m2 ⟨m3.lkS,m3.lkO,m3.nt⟩ (Aq m1 hna hfl)
  obtain⟨s',h1,h2⟩:=vm hE h hf (λT t _ ht=>hE.flat T t ht) hlk' hst he;obtain⟨f1,f2,f3,f4,f5,f6⟩:=h2;refine aY f6 λu w' ⟨S',γ',β',m1,m2,m3⟩=>?_;exact hk u _ s' S' γ' β' w' h1 m1 m2 ⟨f1,f2,f4⟩ λo' ho'=>(hfl o' ho').keep (hd o' ho') f3 f5 m3
 obtain⟨w1,w2,w3⟩:=pm (ops:=ops) (o:=o) h;cases hg:o.guard with
 | some jw=>
  obtain⟨j,want⟩:=jw;simp only[dI,hg] at hev;split at hev<;>first|(cases hev;done)|skip
  rename_i g hgd;split at hev<;>first|(cases hev;done)|skip
  rename_i hlk;have hlk':∀ t∈s.lkS,o.dst≠some t:=λt ht e=>hlk (by simp[iZ,e];exact ht)
  have p:=St.put_fields s o.dst .gone;have alt:(Region.wanted o (yielded ops a.tmps)=true/\(zd E an l s o λs'=>dI E N R ops (ql E o an) l s' k)=some r)\/(Region.wanted o (yielded ops a.tmps)=false/\dI E N R ops (ql E o an) l (s.put o.dst .gone) k=some r):=by
   by_cases hgo:s.tm g=.gone
   ·rw[hgo,eH] at hev;exact .inr ⟨w3 j want g hg hgd hgo,hev⟩
   rw[eI hgo] at hev;obtain⟨c,h1,h2⟩:=bind_some_inv hev;replace h2:=kz (A:=λs=>zd E an l s o λs'=>dI E N R ops (ql E o an) l s' k) (B:=λs=>dI E N R ops (ql E o an) l (s.put o.dst .gone) k) h1 h2;have hw:=w2 j want g c hg hgd h1;split at h2
   ·rename_i hc;exact .inl ⟨by rw[hw];exact hc,h2⟩
   ·rename_i hc;exact .inr ⟨by rw[hw];simpa using hc,h2⟩
  rcases alt with⟨hw,h2⟩|⟨hw,h2⟩
  ·rw[if_pos hw];exact run hlk h2
  ·rw[if_neg (by simp[hw])]
   refine⟨λ_ _=>trivial,?_⟩;exact hk undef _ _ S γ β w h2 (h.put (v:=.gone) (val:=undef) (by simp[AR]) o.dst) ⟨λ_ _ hb=>hb,λ_ _ _=>rfl,λt ht=>bJ (hlk' t ht),λ_ _ _ hb=>⟨hb,ic.refl _ _⟩,zha _,λ_ _ hb=>hb,jp.same bq (cG.refl _)⟩ (Sm.put s o.dst .gone).sk
    λo' ho'=>(hfl o' ho').keep (hd o' ho') p.2.1 (λid _ _=>by rw[p.1]) λid _=>⟨rfl,rfl⟩
 | none=>
  rw[if_pos (w1 hg)];simp only[dI,hg,hsg hg,zsa,if_false] at hev;split at hev<;>first|(cases hev;done)|skip
  rename_i hlk;exact run hlk hev
theorem kI:∀ (l:List Oper) (i m:Nat),(aL i l).drop m=aL (i+m) (l.drop m)
 | l,i,0=>by simp
 | [],i,m+1=>by simp[aL]
 | o::l,i,m+1=>by
  simp only[aL,zIc];rw[kI l (i+1) m,show i+1+m=i+(m+1) by omega]
def p9{l:List Oper}{i m:Nat}{p:Nat×Oper}(h:p∈(aL i l).take m):∃ j,j<m/\l[j]?=some p.2:=by
 obtain⟨j,hj,he⟩:=zRa h;have h1:((aL i l).take m)[j]?=some p:=by grind
 have hjm:j<m:=by grind
 rw[zqb hjm] at h1;have h2:((aL i l).map Prod.snd)[j]?=some p.2:=by rw[z9a,h1];rfl
 grind [aU]
def CH(hE:EnvOk P E)(hr:gm E ops=true)(hm1:cS (ops.toList.filterMap (·.dst))=true)(hst:∀ o∈ops.toList,∀ T x y,o.op=.store T x y->o.dst=none){Q:Exit->Act->World->Prop}{R:Type}{k:St->Option R}{r:R} :
  ∀ (g:Nat) (k0:Nat) (listed:Array Bool) (N:Nat) (an:Ann) {S:Nat->Nat->Prop} {γ:Nat->Option Nat} {β:Nat->Option (Nat×Nat)} {s:St} {a:Act} {w:World},k0+g=ops.size->Full ops k0 listed->Rp w0 S γ β s a w ->
   (∀ j oj,ops[j]?=some oj->k0<=j->Fr E s γ β oj)->dI E N R ops an (aL k0 (ops.toList.drop k0)) s k=some r ->
   (∀ s' S' γ' β' a' w',Rp w0 S' γ' β' s' a' w'->Fm s S γ a w S' γ' a' w'->Sk s s'->k s'=some r->Q .normal a' w')->wpAnyIn (FW ro) nn P .any ops Q g listed a w:=by
 intro g
 induction g using Nat.strongRecOn with
 | _ g ih=>
 intro k0 listed N an S γ β s a w hkg hF h hfr hev hQ;cases g with
 | zero=>
  have hk:k0=ops.size:=by omega
  subst hk;rw[z8b (by simp)] at hev
  cases N with
  | zero=>simp[dI] at hev
  | succ N=>
   simp only[aL,dI] at hev;refine⟨?_,hQ s S γ β a w h (Fm.refl _ _ _ _ _) (Sk.refl s) hev⟩;cases hrd:Region.ready .any ops listed with
   | nil=>rfl
   | cons j l=>
    exfalso;have hj:j∈Region.ready .any ops listed:=by rw[hrd];simp
    have h1:=hF.later j hj;obtain⟨_,o,ho,_⟩:=mem_ready.1 hj
    simp_all
 | succ g=>
 have hk0:k0<ops.size:=by omega
 have ho:=zyb hk0;obtain⟨o,hoe⟩:∃ o,o=ops[k0]:=⟨_,rfl⟩;rw[<-hoe] at ho;clear hoe;have hdr:ops.toList.drop k0=o::ops.toList.drop (k0+1):=by
  have hlt:k0<ops.toList.length:=by simpa using hk0
  rw[zmb hlt]
  simp_all
 cases hc:iP E o with
 | false=>
  refine⟨λh0=>(by have:=hF.ready hr hk0;rw[h0] at this;cases this),λi hi=>?_⟩
  have hik:=EJ hr hF ho hc i hi;subst hik;unfold wpOpIn;rw[ho];simp only;rw[hdr] at hev;simp only[aL] at hev;cases N with
  | zero=>simp[dI] at hev
  | succ N=>
  have hmap:(aL (i+1) (ops.toList.drop (i+1))).map Prod.snd=ops.toList.drop (i+1):=aU _ _;have hidx:∀ o'∈ops.toList.drop (i+1),∃ j,i<j/\ops[j]?=some o':=λo' ho'=>by
   obtain⟨j,hj,he⟩:=zRa ho';refine⟨i+1+j,by omega,?_⟩
   grind
  refine D5 hE h (hst o (zIb.2 (zZb ho))) (hfr i o ho (zha _)) (λo' ho'=>?_) (λo' ho' d hd=>?_) (λ_=>?_) hev λu an' s' S' γ' β' w' m0 m1 m2 m3 m4=>?_
  ·grind
  ·rw[hmap] at ho';obtain⟨j,hj,hoj⟩:=hidx o' ho';exact fU hm1 (show i≠j by omega) (by rw[zua];exact ho) (by rw[zua];exact hoj) d hd
  ·cases hsg:kQ E s i o (aL (i+1) (ops.toList.drop (i+1))) with
   | false=>rfl
   | true=>
    exfalso;simp only[kQ,zaa] at hsg;have h2:=hsg.2;split at h2<;>first|(cases h2;done)|skip
    simp only[zaa,zxa] at h2;have h3:iP E o=true:=by simp[iP,h2.1.1.1.2,h2.1.1.2]
    rw[h3] at hc;cases hc
  ·refine ih g (zed _) (i+1) _ N an' (by omega) (hF.set hk0) m1 (λj oj hj hij=>m4 oj ?_) m0 λs2 S2 γ2 β2 a2 w2 n1 n2 n3 n4=>hQ s2 S2 γ2 β2 a2 w2 n1 (m2.trans n2 m3.lkS m3.lkO) (m3.trans n3) n4
   rw[hmap];refine zYa (i:=j-(i+1)) ?_;rw[zeb,zua,show i+1+(j-(i+1))=j by omega]
   exact hj
 | true=>
  obtain⟨m,hm⟩:∃ m,m=gX E ops (g+1) k0:=⟨_,rfl⟩;obtain⟨e1,e2,e3,e4⟩:=pN (E:=E) (ops:=ops) (g+1) k0 hkg;rw[<-hm] at e1 e2 e3 e4;have hkm:k0<m:=by
   rcases zla k0 m with q|q
   ·exact q
   ·exfalso;have:m=k0:=by omega
    rw[this] at e4;rcases e4 with e4|⟨o',q1,q2⟩
    ·omega
    ·rw[ho] at q1;cases q1;rw[hc] at q2;cases q2
  have hW:ki .any ops m:=by
   rcases e4 with e4|⟨o',q1,q2⟩
   ·rw[e4];exact CX
   ·exact CW hr q1 q2
  have hlen:(aL k0 (ops.toList.drop k0)).length=ops.size-k0:=by rw[fP];simp
  have calmOf:∀ o',iP E o'=true->fD o'=true/\iV E o'=false:=λo' hc'=>by
   simp only[iP,zaa,zxa] at hc';exact hc'
  obtain⟨s',s'',N',q1,q2,q3⟩:=rq N R (aL k0 (ops.toList.drop k0)) s k r (m-k0) an (by rw[hlen];omega) (λp hp=>by
    obtain⟨j,hj,hoj⟩:=p9 hp;rw[zeb,zua] at hoj;exact calmOf _ (e3 (k0+j) p.2 (by omega) (by omega) hoj)) (.inr λp q hpq=>by
    rw[kI,zrd,show k0+(m-k0)=m by omega] at hpq
    rcases e4 with e4|⟨o',z1,z2⟩
    ·rw[e4,z8b (by simp)] at hpq
     simp[aL] at hpq
    ·have hmlt:=(zfa.1 z1).1;have:p.2=o':=by
      have h1:(aL m (ops.toList.drop m)).map Prod.snd=ops.toList.drop m:=aU _ _;rw[hpq] at h1;have h2:(ops.toList.drop m)[0]?=some p.2:=by rw[<-h1];rfl
      rw[zeb,zua,zOb,z1] at h2;exact(zhd h2).symm
     rw[this];exact z2) hev
  rw[kI,zrd,show k0+(m-k0)=m by omega] at q3
  rw[List.map_take,aU] at q1;have hll:((ops.toList.drop k0).take (m-k0)).length=m-k0:=by simp;omega
  have H:=xt (E:=E) hr (n:=m) (L:=λlisted' s2=>Full ops m listed'/\s2=s') hW (λlisted' s2 hL=>hL.1.later) e2 ((ops.toList.drop k0).take (m-k0)) k0 listed s s' (λj hj=>by
   rw[hll] at hj;rw[zqb hj,zeb,zua]) (by rw[hll];omega) hF e3 q1 (λlisted' hF'=>⟨hF',rfl⟩)
  have:=fQ (ro:=ro) (nn:=nn) (Q:=Q) (g:=ops.size-m) hE (s0:=s) (S0:=S) (γ0:=γ) (a0:=a) (w1:=w) (λi j oi oj hij hi hj d hd=>fU hm1 hij (by rw[zua];exact hi) (by rw[zua];exact hj) d hd)
   (λlisted' s2 S2 γ2 β2 a2 w2 m1 m2 m3 m4 m5=>by
    obtain⟨m5,m6⟩:=m5;subst m6;refine ih (ops.size-m) (by omega) m listed' N' an (by omega) m5 (m1.wk q2) (λj oj hj hmj=>?_) q3 λs3 S3 γ3 β3 a3 w3 n1 n2 n3 n4=>hQ s3 S3 γ3 β3 a3 w3 n1 (m2.trans n2 (q2.lkS.trans m3.lkS) (q2.lkO.trans m3.lkO)) ((m3.trans (Sm.wk q2)).sk.trans n3) n4
    have hjlt:=(zfa.1 hj).1;have:=m4 j oj hj (m5.rest j hmj hjlt);intro hc d hd;obtain⟨r1,r2,r3,r4⟩:=this hc d hd;rw[q2.base_eq,q2.ob];exact⟨r1,r2,r3,r4⟩)
   ((ops.toList.drop k0).take (m-k0)).length listed s S γ β a w h (Fm.refl _ _ _ _ _) (Sm.refl s) (λj oj hj hun=>by
    have hjlt:=(zfa.1 hj).1;refine hfr j oj hj ?_;rcases zla j k0 with q|q
    ·have:=hF.done j q hjlt;rw[getD_both hun] at this;cases this
    ·exact q) H
  rw[hll,show m-k0+(ops.size-m)=g+1 by omega] at this
  exact this
def sq(hE:EnvOk P E){id:Nat}{Q:Exit->Act->World->Prop}{S:Nat->Nat->Prop}{γ:Nat->Option Nat}{β:Nat->Option (Nat×Nat)}{s:St}{a:Act}{w:World}{R:Type}{k:St->Option R}{r:R}{N:Nat}
  (h:Rp w0 S γ β s a w) (hf:BB E s γ β ops.toList) (hm:bI ops.toList=true) (hr:gm E ops=true) {an:Ann} (hev:dI E N R ops an (aL 0 ops.toList) s k=some r)
  (hQ:∀ s' S' γ' β' a' w',Rp w0 S' γ' β' s' a' w'->Fm s S γ a w S' γ' a' w'->Sk s s'->k s'=some r->Q .normal a' w'):(Code.region id ops true).wpIn (FW ro) nn P Q a w:=by
 simp only[bI,zaa] at hm;obtain⟨⟨hm1,_⟩,hm3⟩:=hm;have hstores:∀ o∈ops.toList,∀ T x y,o.op=.store T x y->o.dst=none:=λo ho T x y e=>by
  have:=zja.1 hm3 o ho;rw[e] at this;simpa using this
 refine wpIn_region_any hE.mixed ?_;have hg:({ w with drawn:=w.drawn+1 }:World)=grown w [] (w.drawn+1):=by simp[grown]
 obtain⟨g1,g2⟩:=h.grow (os:=[]) (d:=w.drawn+1) (zlc _) (S':=S) (λ_ _ hb=>hb) (λ_ _ hb=>.inl hb);rw[hg];have f0:Fm s S γ a w S γ a (grown w [] (w.drawn+1)):=⟨λ_ _ hb=>hb,g2.cell,λ_ _=>rfl,λid hid b hb=>⟨hb,.inl (cr (h.γn id b hb).2)⟩,by simp,λ_ _ hb=>hb,jp.same rfl cG.grown⟩
 refine CH (ro:=ro) (nn:=nn) hE hr hm1 hstores ops.size 0 _ N an (by omega) ⟨by simp,λj hj=>by omega,λj _ hj=>getD_in (by simpa using hj) (getD_replicate_false _ _)⟩ g1 (λj oj hj _=>hf oj (zIb.2 (zZb hj))) (by simpa using hev) λs' S' γ' β' a' w' n1 n2 n3 n4=>hQ s' S' γ' β' a' w' n1 (f0.trans n2 rfl rfl) n3 n4
end
end Sy
end
end Go.Proofs.YtphlmegkommlnaaGreatDoor
