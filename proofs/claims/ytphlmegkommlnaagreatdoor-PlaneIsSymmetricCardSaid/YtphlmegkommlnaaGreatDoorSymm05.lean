/- Part 5 of the proof that PlaneIsSymmetric answers true at every input -/
import Derived.Test.YtphlmegkommlnaaGreatDoorSymm04
set_option linter.unusedVariables false
set_option linter.unusedSimpArgs false
set_option linter.unnecessarySimpa false
set_option linter.defProp false
set_option maxRecDepth 20000
namespace Go.Proofs.YtphlmegkommlnaaGreatDoor
noncomputable section
namespace Sy
open Go
def Km(s:St):List (Nat×Sh)->Nat->List (Nat×Nat)
 | [],_=>[]
 | (t,h)::l,j=>Sh.tkp h (s.tm t) j++Km s l (j+h.cnt)
def Gz(h:Sh)(o:Option Ob)(j:Nat):List (Nat×Nat):=match o with|some (.one _ v)=>Sh.tkp h v j|_=>[]
def tP(s:St):List (Nat×ShO)->Nat->List (Nat×Nat)
 | [],_=>[]
 | (id,.one _ h)::l,j=>Gz h (s.ob id) j++tP s l (j+h.cnt)
 | (_,.many _)::l,j=>tP s l (j+1)
 | (_,.mp ..)::l,j=>tP s l (j+1)
 | (_,.keep ..)::l,j=>tP s l j
 | (_,.lp ..)::l,j=>tP s l j
 | (_,.fv _)::l,j=>tP s l j
theorem xz(s:St):∀ (l:List (Nat×Sh)) (j:Nat),(Km s l j).map Prod.snd=Shape.toksS s l
 | [],_=>rfl
 | (t,h)::l,j=>by simp only[Km,Shape.toksS,z3b,xA,xz s l]
theorem jf(s:St):∀ (l:List (Nat×ShO)) (j:Nat),(tP s l j).map Prod.snd=Shape.toksO s l
 | [],_=>rfl
 | (id,.one t h)::l,j=>by
  simp only[tP,Shape.toksO,z3b,jf s l];congr 1;unfold Gz;split
  ·rename_i e;simp only[xA,e]
  ·simp_all
 | (_,.many _)::l,j=>by simp only[tP,Shape.toksO,jf s l]
 | (_,.mp ..)::l,j=>by simp only[tP,Shape.toksO,jf s l]
 | (_,.keep ..)::l,j=>by simp only[tP,Shape.toksO,jf s l]
 | (_,.lp ..)::l,j=>by simp only[tP,Shape.toksO,jf s l]
 | (_,.fv _)::l,j=>by simp only[tP,Shape.toksO,jf s l]
theorem GA(s:St):∀ (l:List (Nat×Sh)) (j:Nat),Pl (Km s l j) j (j+Shape.cntS l)
 | [],_=>Pl.nil _ _
 | (t,h)::l,j=>by
  simp only[Km,Shape.cntS];rw[show j+(h.cnt+Shape.cntS l)=j+h.cnt+Shape.cntS l by omega]
  exact(A6 h _ j).append (GA s l _) (by omega) (by omega)
def JN(h:Sh)(o:Option Ob)(j:Nat):Pl (Gz h o j) j (j+h.cnt):=by
 unfold Gz;split
 ·exact A6 h _ j
 ·exact Pl.nil _ _
theorem nv(s:St):∀ (l:List (Nat×ShO)) (j:Nat),Pl (tP s l j) j (j+Shape.cntO l)
 | [],_=>Pl.nil _ _
 | (id,.one t h)::l,j=>by
  simp only[tP,Shape.cntO,ShO.cnt];rw[show j+(h.cnt+Shape.cntO l)=j+h.cnt+Shape.cntO l by omega]
  exact(JN h _ j).append (nv s l _) (by omega) (by omega)
 | (_,.many _)::l,j=>by
  simp only[tP,Shape.cntO,ShO.cnt];rw[show j+(1+Shape.cntO l)=j+1+Shape.cntO l by omega]
  exact(Pl.nil j (j+1)).append (nv s l _) (by omega) (by omega)
 | (_,.mp ..)::l,j=>by
  simp only[tP,Shape.cntO,ShO.cnt];rw[show j+(1+Shape.cntO l)=j+1+Shape.cntO l by omega]
  exact(Pl.nil j (j+1)).append (nv s l _) (by omega) (by omega)
 | (_,.keep ..)::l,j=>by
  simp only[tP,Shape.cntO,ShO.cnt,z6a];exact nv s l j
 | (_,.fv _)::l,j=>by
  simp only[tP,Shape.cntO,ShO.cnt,z6a];exact nv s l j
 | (_,.lp ..)::l,j=>by
  simp only[tP,Shape.cntO,ShO.cnt,z6a];exact nv s l j
theorem yh(s:St):∀ (l:List (Nat×Sh)) (x:List D),Shape.decS s l=some x->x.length=Shape.cntS l
 | [],x,e=>by simp only[Shape.decS,zca] at e;subst e;rfl
 | (t,h)::l,x,e=>by
  simp only[Shape.decS] at e;obtain⟨y,h1,e⟩:=bind_some_inv e;obtain⟨z,h2,e⟩:=bind_some_inv e;simp only[zca] at e;subst e;simp only[zta,lM h _ y h1,yh s l z h2,Shape.cntS]
theorem sf(s:St):∀ (l:List (Nat×Sh)) (x:List D),Shape.decS s l=some x->∀ v∈Shape.toksS s l,v ∉ s.dead
 | [],x,_=>by simp_all [Shape.toksS]
 | (t,h)::l,x,e=>by
  intro v hv;simp only[Shape.decS] at e;obtain⟨y,h1,e⟩:=bind_some_inv e;obtain⟨z,h2,e⟩:=bind_some_inv e;simp only[Shape.toksS] at hv;rcases List.mem_append.1 hv with hv|hv
  ·exact pd h _ y h1 v hv
  ·exact sf s l z h2 v hv
def se{s:St}{id:Nat}{t:Ty}{h:Sh}{l:List (Nat×ShO)}{x:List D}(e:Shape.decO s ((id,.one t h)::l)=some x):∃ v y z,s.ob id=some (.one t v)/\Sh.dec s.ob s.dead h v=some y/\Shape.decO s l=some z/\x=y++z:=by
 simp only[Shape.decO] at e;split at e<;>first|(cases e;done)|skip
 rename_i t' v ho;split at e<;>first|(cases e;done)|skip
 rename_i ht;obtain⟨y,h1,e⟩:=bind_some_inv e;obtain⟨z,h2,e⟩:=bind_some_inv e;grind [Option.some.injEq,Ty.eq_of_beq]
def o9{s:St}{id:Nat}{t:Ty}{l:List (Nat×ShO)}{x:List D}(e:Shape.decO s ((id,.many t)::l)=some x):∃ v z,s.ob id=some (.many t v)/\Shape.decO s l=some z/\x=[.sl v]++z:=by
 simp only[Shape.decO] at e;split at e<;>first|(cases e;done)|skip
 rename_i t' v ho;split at e<;>first|(cases e;done)|skip
 rename_i ht;obtain⟨z,h2,e⟩:=bind_some_inv e;grind [Option.some.injEq,Ty.eq_of_beq]
def ww{s:St}{id:Nat}{kt vt:Ty}{l:List (Nat×ShO)}{x:List D}(e:Shape.decO s ((id,.mp kt vt)::l)=some x):∃ v z,s.ob id=some (.mp kt vt v)/\Shape.decO s l=some z/\x=[.sl v]++z:=by
 simp only[Shape.decO] at e;split at e<;>first|(cases e;done)|skip
 rename_i t' u' v ho;split at e<;>first|(cases e;done)|skip
 rename_i ht;obtain⟨z,h2,e⟩:=bind_some_inv e;simp only[zca] at e;simp only[zaa] at ht;rw[<-Ty.eq_of_beq _ _ ht.1,<-Ty.eq_of_beq _ _ ht.2] at ho;exact⟨v,z,ho,h2,e.symm⟩
def o8{s:St}{id:Nat}{t:Ty}{wit:Nat}{l:List (Nat×ShO)}{x:List D}(e:Shape.decO s ((id,.keep t wit)::l)=some x):∃ v,s.ob id=some (.one t v)/\Shape.decO s l=some x:=by
 grind [Shape.decO,Ty.eq_of_beq]
theorem Ds:∀ {p p':Option Ex},AK p p'=true->p=p'
 | none,none,_=>rfl
 | none,some _,h=>by cases h
 | some _,none,h=>by cases h
 | some e,some e',h=>by
  simp only[AK] at h;cases e<;>cases e'<;>simp only[Ex.is,decide_eq_true_eq] at h<;>first|rfl|(cases h;done)|(subst h;rfl)
def wv{s:St}{id:Nat}{p:Option Ex}{wit:Nat}{l:List (Nat×ShO)}{x:List D}(e:Shape.decO s ((id,.lp p wit)::l)=some x):∃ i,s.ob id=some (.lp i p)/\Shape.decO s l=some x:=by
 grind [Shape.decO,Ds]
def wu{s:St}{id:Nat}{a:AV}{l:List (Nat×ShO)}{x:List D}(e:Shape.decO s ((id,.fv a)::l)=some x):s.ob id=some (.fv a)/\Shape.decO s l=some x:=by
 simp only[Shape.decO] at e;split at e<;>first|(cases e;done)|skip
 split at e<;>first|(cases e;done)|skip
 rename_i h1 h2;rw[rD _ _ h2];exact⟨h1,e⟩
theorem uD{n:Nat}{c c':Cx}(T:Two n c c'):∀ {l:List AV} {vs:List Value},AV.olds n l=true->mB c l vs->mB c' l vs
 | [],[],_,_=>trivial
 | [],_::_,_,k=>k.elim
 | _::_,[],_,k=>k.elim
 | a::l,v::vs,h,k=>by
  simp only[AV.olds,zaa] at h;refine⟨?_,uD T h.2 k.2⟩;have k1:=k.1;unfold rH at k1 ⊢;split at k1
  ·obtain⟨b,e,k2⟩:=k1;simp only[AV.old,decide_eq_true_eq] at h;exact⟨b,e,(T.γ _ h.1).trans k2⟩
  ·exact k1.elim
theorem eK.old{n:Nat}{c c':Cx}(T:Two n c c'){a:AV}{v:Value}(h:AV.old n a=true)(hr:kB a=true)(k:eK c a v):eK c' a v:=by
 cases a<;>simp only[kB] at hr<;>first|(cases hr;done)|skip
 all_goals simp only[AV.old] at h
 case clo f l=>
  obtain⟨caps,e,k⟩:=k;exact⟨caps,e,uD T h k⟩
 case map kt vt id=>
  obtain⟨b,e,k1,k2⟩:=k;exact⟨b,e,(T.γ id (of_decide_eq_true h)).trans k1,k2⟩
 case yld id=>
  simp only[eK,AR,AC] at k ⊢;obtain⟨k1,L,e,k2⟩:=k;exact⟨k1,L,e,(T.γ id (of_decide_eq_true h)).trans k2⟩
def Ja{a b:AV}:(∀ p,dP (.fv a) p=dP (.fv b) p/\bX (.fv a) p=bX (.fv b) p):=λp=>by cases p<;>exact⟨rfl,rfl⟩
def vg{p:Option Ex}{o:Option Ob}{o':Ob}(h:Ob.lpOf p o=some o'):∃ i p0,o=some (.lp i p0)/\o'=.lp i p:=by
 unfold Ob.lpOf at h;grind
theorem eN(s:St):∀ (l:List (Nat×ShO)) (x:List D),Shape.decO s l=some x->∀ v∈Shape.toksO s l,v ∉ s.dead
 | [],x,_=>by simp_all [Shape.toksO]
 | (id,.one t h)::l,x,e=>by
  intro v hv;obtain⟨u,y,z,ho,h1,h2,_⟩:=se e;simp only[Shape.toksO,ho] at hv;rcases List.mem_append.1 hv with hv|hv
  ·exact pd h _ y h1 v hv
  ·exact eN s l z h2 v hv
 | (id,.many t)::l,x,e=>by
  obtain⟨u,z,_,h2,_⟩:=o9 e;exact eN s l z h2
 | (id,.mp kt vt)::l,x,e=>by
  obtain⟨u,z,_,h2,_⟩:=ww e;exact eN s l z h2
 | (id,.keep t wit)::l,x,e=>by
  obtain⟨u,_,h2⟩:=o8 e;exact eN s l x h2
 | (id,.lp p wit)::l,x,e=>by
  obtain⟨_,_,h2⟩:=wv e;exact eN s l x h2
 | (id,.fv v)::l,x,e=>by
  obtain⟨_,h2⟩:=wu e;exact eN s l x h2
theorem B4(b:Nat):∀ (l:List (Nat×Sh)) (j:Nat) (s:List D) (f:Nat->AV),(Shape.mkS b l j s f).2=j+Shape.cntS l
 | [],j,s,f=>rfl
 | (t,h)::l,j,s,f=>by simp only[Shape.mkS,B4 b l,pH,Shape.cntS,zwb]
theorem FE{n b:Nat}{c c':Cx}(T:Two n c c'){s':St}(e1:c.ob=s'.ob)(e2:c.dead=s'.dead):∀ (l:List (Nat×Sh)) (j:Nat) (s x:List D) (f:Nat->AV),Shape.decS s' l=some x->Bn s x j->(∀ p∈l,Sh.fine n p.2=true) ->
  (∀ p∈Km s' l j,c'.β (b+p.1)=c.β p.2)->∀ i,(i∈l.map (·.1)/\∀ v,AR c (s'.tm i) v->AR c' ((Shape.mkS b l j s f).1 i) v)\/(i ∉ l.map (·.1)/\(Shape.mkS b l j s f).1 i=f i)
 | [],j,s,x,f,e,hs,hf,hb,i=>.inr ⟨by simp,rfl⟩
 | (t,h)::l,j,s,x,f,e,hs,hf,hb,i=>by
  simp only[Shape.decS] at e;obtain⟨y,h1,e⟩:=bind_some_inv e;obtain⟨z,h2,e⟩:=bind_some_inv e;simp only[zca] at e;subst e;simp only[Km,List.mem_append] at hb;have hr:=hs.right;rw[lM h _ y h1] at hr;simp only[Shape.mkS,pH];rcases FE T e1 e2 l (j+h.cnt) s z (λi=>if i=t then(Sh.mk b h j s).1 else f i) h2 hr (λp hp=>hf p (by simp[hp])) (λp hp=>hb p (.inr hp)) i with⟨k1,k2⟩|⟨k1,k2⟩
  ·simp_all
  ·by_cases hit:i=t
   ·subst hit;refine .inl ⟨by simp,λv hv=>?_⟩
    rw[k2,if_pos rfl];exact NN T h _ j s y v (by rw[e1,e2];exact h1) hs.left (hf (i,h) (by simp)) (λp hp=>hb p (.inl hp)) hv
   ·simp_all
def Kz(o' o:Ob):Prop:=(∀ p,dP o' p=dP o p/\bX o' p=bX o p)/\(∀ t l,o=.many t l->∃ l',o'=.many t l'/\l'.length=l.length)/\∀ kt vt l,o=.mp kt vt l->∃ l',o'=.mp kt vt l'
def yM{t:Ty}{a b:AV}:Kz (.one t a) (.one t b):=⟨λp=>⟨rfl,rfl⟩,(λu l e=>by cases e),λ_ _ l e=>by cases e⟩
def Jb{i i':LpI}{p p':Option Ex}:Kz (.lp i p) (.lp i' p'):=⟨λp=>⟨rfl,rfl⟩,(λu l e=>by cases e),λ_ _ l e=>by cases e⟩
def tO{t:Ty}{o:Option Ob}{o':Ob}(h:Ob.still t o=some o'):∃ u x,o=some (.one t (.d u x))/\o'=.one t (.d u x):=by
 unfold Ob.still at h;split at h<;>first|(cases h;done)|skip
 split at h<;>first|(cases h;done)|skip
 rename_i ht;simp only[zca] at h;have:=Ty.eq_of_beq _ _ ht;grind
theorem nh{b:Nat}{base:Nat->Option Ob}{s':St}:∀ (l:List (Nat×ShO)) (j:Nat) (s x:List D) (f:Nat->Option Ob),Shape.decO s' l=some x->Bn s x j ->
  ∀ id o',Shape.mkO b base l j s f id=some o'->f id=some o'\/(id∈l.map (·.1)/\∃ o,s'.ob id=some o/\Kz o' o)
 | [],j,s,x,f,e,hs,id,o',ho=>.inl ho
 | (t,.one u h)::l,j,s,x,f,e,hs,id,o',ho=>by
  obtain⟨v,y,z,h0,h1,h2,rfl⟩:=se e;have hr:=hs.right;rw[lM h _ y h1] at hr;simp only[Shape.mkO,pH] at ho;rcases nh l _ s z _ h2 hr id o' ho with k|⟨k1,k2⟩
  ·split at k
   ·rename_i hit;subst hit;simp only[zca] at k;subst k;exact .inr ⟨by simp,_,h0,yM⟩
   ·exact .inl k
  ·simp_all
 | (t,.many u)::l,j,s,x,f,e,hs,id,o',ho=>by
  obtain⟨v,z,h0,h2,rfl⟩:=o9 e;have hj:s[j]?=some (.sl v):=by have:=hs 0 (by simp);simpa using this
  have hr:=hs.right;simp only[Shape.mkO] at ho;rcases nh l _ s z _ h2 hr id o' ho with k|⟨k1,k2⟩
  ·split at k
   ·rename_i hit;subst hit;simp only[zca,List.getD,hj,zxb,D.els] at k;subst k;exact .inr ⟨by simp,_,h0,λp=>⟨by cases p<;>rfl,by cases p<;>rfl⟩,(λu l e=>by cases e;exact⟨_,rfl,rfl⟩),λ_ _ l e=>by cases e⟩
   ·exact .inl k
  ·simp_all
 | (t,.mp u u')::l,j,s,x,f,e,hs,id,o',ho=>by
  obtain⟨v,z,h0,h2,rfl⟩:=ww e;have hj:s[j]?=some (.sl v):=by have:=hs 0 (by simp);simpa using this
  have hr:=hs.right;simp only[Shape.mkO] at ho;rcases nh l _ s z _ h2 hr id o' ho with k|⟨k1,k2⟩
  ·split at k
   ·rename_i hit;subst hit;simp only[zca,List.getD,hj,zxb,D.els] at k;subst k;exact .inr ⟨by simp,_,h0,λp=>⟨rfl,rfl⟩,(λu l e=>by cases e),λ_ _ l e=>by cases e;exact⟨_,rfl⟩⟩
   ·exact .inl k
  ·simp_all
 | (t,.keep u wit)::l,j,s,x,f,e,hs,id,o',ho=>by
  obtain⟨v,h0,h2⟩:=o8 e;simp only[Shape.mkO] at ho;rcases nh l _ s x _ h2 hs id o' ho with k|⟨k1,k2⟩
  ·split at k
   ·rename_i hit;subst hit;obtain⟨u',y,_,rfl⟩:=tO k;exact .inr ⟨by simp,_,h0,yM⟩
   ·exact .inl k
  ·simp_all
 | (t,.lp p wit)::l,j,s,x,f,e,hs,id,o',ho=>by
  obtain⟨v,h0,h2⟩:=wv e;simp only[Shape.mkO] at ho;rcases nh l _ s x _ h2 hs id o' ho with k|⟨k1,k2⟩
  ·split at k
   ·rename_i hit;subst hit;obtain⟨i,p0,_,rfl⟩:=vg k;exact .inr ⟨by simp,_,h0,Jb⟩
   ·exact .inl k
  ·simp_all
 | (t,.fv u)::l,j,s,x,f,e,hs,id,o',ho=>by
  obtain⟨h0,h2⟩:=wu e;simp only[Shape.mkO] at ho;rcases nh l _ s x _ h2 hs id o' ho with k|⟨k1,k2⟩
  ·split at k
   ·rename_i hit;subst hit;simp only[zca] at k;subst k;exact .inr ⟨by simp,_,h0,Ja,(λu l e=>by cases e),λ_ _ l e=>by cases e⟩
   ·exact .inl k
  ·simp_all
theorem nc{n b:Nat}{c c':Cx}(T:Two n c c'){s' base:St}(e1:c.ob=s'.ob)(e2:c.dead=s'.dead):∀ (l:List (Nat×ShO)) (j:Nat) (s x:List D) (f:Nat->Option Ob),Shape.decO s' l=some x->Bn s x j->(∀ p∈l,ShO.fine n base p.1 p.2=true) ->
  (∀ p∈tP s' l j,c'.β (b+p.1)=c.β p.2)->∀ id o',Shape.mkO b base.ob l j s f id=some o'->f id=some o' ∨
   ∃ o,s'.ob id=some o/\((∀ bl,fh c bl o->fh c' bl o')\/(∃ t wit,(id,ShO.keep t wit)∈l/\Ob.still t (base.ob id)=some o')\/∃ p wit i,(id,ShO.lp p wit)∈l/\o=.lp i p/\Ob.lpOf p (base.ob id)=some o')
 | [],j,s,x,f,e,hs,hf,hb,id,o',ho=>.inl ho
 | (t,.one u h)::l,j,s,x,f,e,hs,hf,hb,id,o',ho=>by
  obtain⟨v,y,z,h0,h1,h2,rfl⟩:=se e;have hr:=hs.right;rw[lM h _ y h1] at hr;simp only[Shape.mkO,pH] at ho;simp only[tP,List.mem_append] at hb;rcases nc T e1 e2 l _ s z _ h2 hr (λp hp=>hf p (by simp[hp])) (λp hp=>hb p (.inr hp)) id o' ho with k|⟨o,k1,k2⟩
  ·split at k
   ·rename_i hit;subst hit;simp only[zca] at k;subst k;refine .inr ⟨_,h0,.inl λbl k=>?_⟩;have hfi:=hf (id,.one u h) (by simp)
    simp only[ShO.fine,zaa] at hfi;simp only[fh] at k ⊢;obtain⟨k1,k2,k3,cs,k4,k5,k6⟩:=k;rw[T.w,T.S];refine⟨k1,B5 b h u j s hfi.2,k3,cs,k4,yV T h v j s y cs (by rw[e1,e2];exact h1) hs.left hfi.1 (λp hp=>hb p (.inl ?_)) k5,k6⟩
    simp_all [Gz]
   ·exact .inl k
  ·simp_all
 | (t,.many u)::l,j,s,x,f,e,hs,hf,hb,id,o',ho=>by
  obtain⟨v,z,h0,h2,rfl⟩:=o9 e;have hj:s[j]?=some (.sl v):=by have:=hs 0 (by simp);simpa using this
  have hr:=hs.right;simp only[Shape.mkO] at ho;rcases nc T e1 e2 l _ s z _ h2 hr (λp hp=>hf p (by simp[hp])) (λp hp=>hb p hp) id o' ho with k|⟨o,k1,k2⟩
  ·split at k
   ·rename_i hit;subst hit;simp only[zca,List.getD,hj,zxb,D.els] at k;subst k
    simp_all [fh,T.w,T.S]
   ·exact .inl k
  ·simp_all
 | (t,.mp u u')::l,j,s,x,f,e,hs,hf,hb,id,o',ho=>by
  obtain⟨v,z,h0,h2,rfl⟩:=ww e;have hj:s[j]?=some (.sl v):=by have:=hs 0 (by simp);simpa using this
  have hr:=hs.right;simp only[Shape.mkO] at ho;rcases nc T e1 e2 l _ s z _ h2 hr (λp hp=>hf p (by simp[hp])) (λp hp=>hb p hp) id o' ho with k|⟨o,k1,k2⟩
  ·split at k
   ·rename_i hit;subst hit;simp only[zca,List.getD,hj,zxb,D.els] at k;subst k;refine .inr ⟨_,h0,.inl λbl k=>?_⟩;simp only[fh] at k ⊢;obtain⟨q1,q2,q3,es,q4,q5⟩:=k;rw[T.w,T.S];exact⟨q1,q2,q3,es,q4,gW.same T.w T.S q5⟩
   ·exact .inl k
  ·simp_all
 | (t,.keep u wit)::l,j,s,x,f,e,hs,hf,hb,id,o',ho=>by
  obtain⟨v,h0,h2⟩:=o8 e;simp only[Shape.mkO] at ho;rcases nc T e1 e2 l _ s x _ h2 hs (λp hp=>hf p (by simp[hp])) (λp hp=>hb p hp) id o' ho with k|⟨o,k1,k2⟩
  ·grind
  ·grind
 | (t,.lp p wit)::l,j,s,x,f,e,hs,hf,hb,id,o',ho=>by
  obtain⟨v,h0,h2⟩:=wv e;simp only[Shape.mkO] at ho;rcases nc T e1 e2 l _ s x _ h2 hs (λp hp=>hf p (by simp[hp])) (λp hp=>hb p hp) id o' ho with k|⟨o,k1,k2⟩
  ·grind
  ·grind
 | (t,.fv u)::l,j,s,x,f,e,hs,hf,hb,id,o',ho=>by
  obtain⟨h0,h2⟩:=wu e;simp only[Shape.mkO] at ho;rcases nc T e1 e2 l _ s x _ h2 hs (λp hp=>hf p (by simp[hp])) (λp hp=>hb p hp) id o' ho with k|⟨o,k1,k2⟩
  ·split at k
   ·rename_i hit;subst hit;simp only[zca] at k;subst k;have hfi:=hf (id,.fv u) (by simp)
    simp only[ShO.fine,zaa] at hfi;refine .inr ⟨_,h0,.inl λbl k=>?_⟩;obtain⟨k1,x,k2,k3,k4⟩:=k;simp only[fh];rw[T.w,T.S];exact⟨k1,x,k2,k3.old T hfi.1 hfi.2,k4⟩
   ·exact .inl k
  ·grind
theorem vE:∀ {l:List (Nat×Nat)},cT (l.map Prod.snd)=true->∀ p∈l,∀ q∈l,p.2=q.2->p=q
 | [],_,p,hp,_,_,_=>by cases hp
 | x::l,h,p,hp,q,hq,e=>by
  simp only[z4a,cT,zaa,zFa] at h;have hx:∀ y∈l,y.2≠x.2:=λy hy hxy=>by
   grind
  rcases zva.1 hp with rfl|hp'
  ·simp_all
  ·rcases zva.1 hq with rfl|hq'
   ·simp_all
   ·exact vE h.2 p hp' q hq' e
theorem qm:∀ {l:List (Nat×ShO)} {id:Nat} {t:Ty} {wit:Nat},(id,ShO.keep t wit)∈l->id∈bU l
 | [],_,_,_,h=>by cases h
 | (i,o)::l,id,t,wit,h=>by
  rcases zva.1 h with k|k
  ·grind [bU]
  ·have ih:=qm k;cases o<;>simp only[bU]<;>first
    | exact ih
    | exact zia _ ih
theorem oe:∀ {l:List (Nat×ShO)} {id:Nat} {p:Option Ex} {wit:Nat},(id,ShO.lp p wit)∈l->id∈bU l
 | [],_,_,_,h=>by cases h
 | (i,o)::l,id,p,wit,h=>by
  rcases zva.1 h with k|k
  ·grind [bU]
  ·have ih:=oe k;cases o<;>simp only[bU]<;>first
    | exact ih
    | exact zia _ ih
section
variable{w0:Root}{w w':World}{S S':Nat->Nat->Prop}{γ γ':Nat->Option Nat}{β β':Nat->Option (Nat×Nat)}{s s':St}{a a':Act}
def lE(h0:Rp w0 S γ β s a w)(h1:Rp w0 S' γ' β' s' a' w')(hsub:∀ b o,S b o->S' b o)(hcell:∀ b o,S b o->w'.cell? ⟨b,o,none⟩=w.cell? ⟨b,o,none⟩)(hnt:s'.nt=s.nt){h:Shape}
  (hs:∀ t∈h.keepS,a'.tmps.getD t undef=a.tmps.getD t undef) (hgam:∀ id b,γ id=some b->γ' id=some b) (ho:∀ id∈bU h.objs,∀ b,γ id=some b->γ' id=some b/\iN w w' b) {v:List D} (hd:h.dec s s'=some v) (lkS lkO:List Nat) :
  ∃ γ'' β'',Rp w0 S' γ'' β'' (h.mk' s v lkS lkO) a' w'/\∀ id,id<s.base+4096->γ'' id=γ' id:=by
 unfold Shape.dec at hd;split at hd<;>first|(cases hd;done)|skip
 rename_i hg;simp only[zaa] at hg;obtain⟨hg,htok⟩:=hg;obtain⟨x,hx,hd⟩:=bind_some_inv hd;obtain⟨y,hy,hd⟩:=bind_some_inv hd;simp only[zca] at hd;subst hd;simp only[Shape.good,zaa,zka,decide_eq_true_eq] at hg;obtain⟨⟨⟨⟨hg1,hg2⟩,hg3⟩,hg4⟩,hg5⟩:=hg;have hlx:=yh s' h.slots x hx;obtain⟨n,hn⟩:∃ n,n=(s.fresh+1)*4096:=⟨_,rfl⟩;have hbase:s.base+4096=n:=by rw[hn];simp only[St.base];omega
 rw[<-hn] at hg3 hg4;obtain⟨tl,htl⟩:∃ tl,tl=Km s' h.slots 0++tP s' h.objs (Shape.cntS h.slots):=⟨_,rfl⟩;have hpl:Pl tl 0 (Shape.cntS h.slots+Shape.cntO h.objs):=by
  rw[htl];have p1:=GA s' h.slots 0;rw[z6a] at p1;exact p1.append (nv s' h.objs _) (by omega) (by omega)
 have hsnd:cT (tl.map Prod.snd)=true:=by rw[htl,z3b,xz,jf];exact htok
 have halive:∀ p∈tl,p.2 ∉ s'.dead:=λp hp=>by
  rw[htl] at hp;rcases List.mem_append.1 hp with hp|hp
  ·exact sf s' _ x hx _ (by rw[<-xz s' _ 0];exact zWb hp)
  ·exact eN s' _ y hy _ (by rw[<-jf s' _ (Shape.cntS h.slots)];exact zWb hp)
 obtain⟨γ'',hγ⟩:∃ γ'':Nat->Option Nat,γ''=λid=>if id<n then γ' id else none:=⟨_,rfl⟩
 obtain⟨β'',hβ⟩:∃ β'':Nat->Option (Nat×Nat),β''=λu=>if n<=u then(tl.find? λp=>p.1==u-n).bind λp=>β' p.2 else none:=⟨_,rfl⟩
 have hγ1:∀ id,id<n->γ'' id=γ' id:=λid hi=>by rw[hγ];simp[hi]
 have hγ2:∀ id b,γ'' id=some b->id<n/\γ' id=some b:=λid b hb=>by
  rw[hγ] at hb;simp only at hb;split at hb
  ·rename_i hi;exact⟨hi,hb⟩
  ·cases hb
 have hβ1:∀ p∈tl,β'' (n+p.1)=β' p.2:=λp hp=>by
  rw[hβ];simp only[zNc,if_true,zvb];cases hfd:tl.find? λq=>q.1==p.1 with
  | none=>
   have:=List.find?_eq_none.1 hfd p hp;simp at this
  | some q=>
   have h1:=List.find?_some hfd;have h2:=List.mem_of_find?_eq_some hfd;rw[hpl.2 q h2 p hp (by simpa using h1)]
   rfl
 have hβ2:∀ u b,β'' u=some b->∃ p∈tl,u=n+p.1/\β' p.2=some b:=λu b hb=>by
  rw[hβ] at hb;simp only at hb;split at hb<;>first|(cases hb;done)|skip
  rename_i hu;obtain⟨p,h1,h2⟩:=bind_some_inv hb;refine⟨p,List.mem_of_find?_eq_some h1,?_,h2⟩;have:=List.find?_some h1;simp only[beq_iff_eq] at this;omega
 have hat1:Bn (x++y) x 0:=λi hi=>by rw[z6a,zeb hi]
 have hat2:Bn (x++y) y (Shape.cntS h.slots):=λi hi=>by rw[<-hlx,zub (by omega),zvb]
 obtain⟨ob'',hob⟩:∃ ob'',ob''=(h.mk' s (x++y) lkS lkO).ob:=⟨_,rfl⟩;have hob':ob''=Shape.mkO n s.ob h.objs (Shape.cntS h.slots) (x++y) (λ_=>none):=by
  rw[hob];simp only[Shape.mk',B4,z6a,<-hn]
 have T:Two n ⟨w',S',γ',β',s'.ob,s'.dead⟩ ⟨w',S',γ'',β'',ob'',[]⟩:=by
  refine⟨rfl,rfl,hγ1,λid hi o' ho'=>?_⟩;rw[hob'] at ho';rcases nh h.objs _ _ y _ hy hat2 id o' ho' with k|⟨_,o,k1,k2⟩
  ·cases k
  ·exact⟨o,k1,k2.1,k2.2⟩
 have hszeq:a'.tmps.size=a.tmps.size:=by rw[h1.nt,hnt,h0.nt]
 have htm:(h.mk' s (x++y) lkS lkO).tm=(Shape.mkS n h.slots 0 (x++y) (λi=>if h.keepS.contains i then(s.tm i).still else .undef)).1:=by
  simp only[Shape.mk',<-hn]
 have hkeep:=FE (b:=n) T (s':=s') rfl rfl h.slots 0 (x++y) x (λi=>if h.keepS.contains i then(s.tm i).still else .undef) hx hat1 (λp hp=>(hg4 p hp).2) (λp hp=>hβ1 p (by rw[htl];exact List.mem_append_left _ hp))
 refine⟨γ'',β'',⟨h1.ext,λt ht=>?_,?_,λt ht=>?_,λid o b hio hb=>?_,λid b hb=>h1.γn id b (hγ2 id b hb).2,λid id' b hb hb'=>h1.γi id id' b (hγ2 id b hb).2 (hγ2 id' b hb').2,λid hi=>?_,λu b e _ hb=>?_,λu u' b e e' _ _ hb hb'=>?_,λu id b e _ hb hid=>?_,λu hu=>?_,h1.Sb,h1.So⟩,λid hi=>hγ1 id (by omega)⟩
 ·rw[htm,<-hob];rcases hkeep t with⟨k1,k2⟩|⟨k1,k2⟩
  ·exact k2 _ (h1.tms t ht)
  ·rw[k2];by_cases hk:h.keepS.contains t=true
   ·have hk':t∈h.keepS:=by simpa using hk
    rw[if_pos hk,hs t hk'];exact lG (c:=⟨w,S,γ,β,s.ob,s.dead⟩) hcell hsub (h0.tms t (by rw[<-hszeq];exact ht))
   ·rw[if_neg hk];simp only[AR]
 ·show a'.tmps.size=s.nt;rw[h1.nt,hnt]
 ·have ht':s.nt<=t:=ht;rw[htm];rcases hkeep t with⟨k1,k2⟩|⟨k1,k2⟩
  ·obtain⟨p,hp,rfl⟩:=z7a.1 k1;have:=(hg4 p hp).1;omega
  ·rw[k2];split
   ·rw[h0.tmu t ht'];rfl
   ·rfl
 ·have hb':=(hγ2 id b hb).2;rw[<-hob] at hio ⊢;have hio':=hio;rw[hob'] at hio';rcases nc (b:=n) (base:=s) T (s':=s') rfl rfl h.objs (Shape.cntS h.slots) (x++y) y _ hy hat2 (λp hp=>(hg3 p hp).2) (λp hp=>hβ1 p (by rw[htl];exact zQa _ hp)) id o hio' with k|⟨o0,k1,k2|⟨t,wit,k2,k3⟩|⟨p,wit,i1,k2,rfl,k3⟩⟩
  ·cases k
  ·exact k2 b (h1.obs id o0 b k1 hb')
  ·have hfi:=(hg3 _ k2).2;simp only[ShO.fine] at hfi;split at hfi<;>first|(cases hfi;done)|skip
   rename_i u id' p hw;simp only[zaa,decide_eq_true_eq] at hfi;obtain⟨rfl,hwn⟩:=hfi;have hA:=h0.tms wit (by rw[h0.nt];exact hwn)
   rw[hw] at hA;simp only[AR,AC] at hA;obtain⟨_,b0,off,_,hγ0,_⟩:=hA;obtain⟨q1,q2⟩:=ho id (qm k2) b0 hγ0;rw[hb'] at q1;simp only[zca] at q1;subst q1;obtain⟨u',x',hob0,rfl⟩:=tO k3;have hO:=h0.obs id _ b hob0 hγ0;have hO1:=h1.obs id o0 b k1 hb';simp only[fh,AC] at hO ⊢;obtain⟨r1,r2,_,cs,r3,⟨r4,r5,r6⟩,r7⟩:=hO;have q2:=q2.row r3;have hnS:∀ o,¬ S' b o:=by
    cases o0
    case lp i p=>
     simp only[fh] at hO1;obtain⟨rr,z1,_⟩:=hO1;rw[q2] at z1;simp[bE,z1] at r3
    case fv v=>exact hO1.1
    all_goals (simp only[fh] at hO1;exact hO1.2.2.1)
   refine⟨r1,r2,hnS,cs,?_,⟨r4,r5,r6.mono hcell hsub⟩,r7⟩;simp only[bE,q2];exact r3
  ·have hfi:=(hg3 _ k2).2;simp only[ShO.fine,zaa,decide_eq_true_eq] at hfi;obtain⟨hfi,hwn⟩:=hfi;have hA:=h0.tms wit (by rw[h0.nt];exact hwn)
   obtain⟨b0,hγ0⟩:∃ b0,γ id=some b0:=by
    split at hfi<;>first|(cases hfi;done)|skip
    ·rename_i id' hw;have e:=of_decide_eq_true hfi;subst e;rw[hw] at hA;simp only[AR,AC] at hA;obtain⟨_,b0,_,hγ0⟩:=hA;exact⟨b0,hγ0⟩
    ·rename_i v hw;rw[hw] at hA;split at hfi<;>first|(cases hfi;done)|skip
     rename_i id' hv;have e:=of_decide_eq_true hfi;subst e;obtain⟨bv,_,_,hγv,_⟩:=jY hA;obtain⟨_,x,_,k,_⟩:=h0.obs v _ bv hv hγv;simp only[eK,AR,AC] at k;obtain⟨_,b0,_,hγ0⟩:=k;exact⟨b0,hγ0⟩
   obtain⟨q1,q2⟩:=ho id (oe k2) b0 hγ0;rw[hb'] at q1;simp only[zca] at q1;subst q1;obtain⟨i,p0,hob0,rfl⟩:=vg k3;have hO:=h0.obs id _ b hob0 hγ0;have hO1:=h1.obs id _ b k1 hb';simp only[fh] at hO hO1 ⊢;obtain⟨rec,r1,⟨r2,r3,r4,r5⟩,r6,_⟩:=hO;obtain⟨rec',v1,_,_,v4⟩:=hO1;have e:zW rec rec':=by
    rcases q2 with k|⟨r,r',z1,z2,z3⟩
    ·rw[v1,r1] at k;cases k;exact⟨rfl,rfl,rfl,rfl⟩
    ·rw[r1] at z1;cases z1;rw[v1] at z2;cases z2;exact z3
   refine⟨rec',v1,⟨by rw[e.1];exact r2,by rw[e.2.1];exact r3,by rw[e.2.2.1];exact r4,by rw[e.2.2.2];exact r5⟩,λt ht=>?_,v4⟩
   rw[e.1];refine eK.mono (c:=⟨w,S,γ,β,s.ob,s.dead⟩) hcell hsub (λj bj hj=>?_) (r6 t ht);rcases zna j n with k|k
   ·exact(hγ1 j k).trans (hgam j bj hj)
   ·have hj':γ j=some bj:=hj;rw[h0.γf j (by omega)] at hj';cases hj'
 ·have hi':(s.fresh+1)*4096+4096<=id:=hi;rw[hγ];simp only;rw[if_neg (by omega)]
 ·obtain⟨p,hp,_,hb'⟩:=hβ2 u _ hb;exact h1.βn _ b e (halive p hp) hb'
 ·obtain⟨p,hp,rfl,k⟩:=hβ2 u _ hb;obtain⟨q,hq,rfl,k'⟩:=hβ2 u' _ hb';have:=h1.βi _ _ b e e' (halive p hp) (halive q hq) k k';rw[vE hsnd p hp q hq this]
 ·obtain⟨p,hp,_,hb'⟩:=hβ2 u _ hb;exact h1.βγ _ id b e (halive p hp) hb' (hγ2 id b hid).2
 ·have hu':(s.fresh+1)*4096+4096<=u:=hu;cases hc:β'' u with
  | none=>rfl
  | some b=>
   obtain⟨p,hp,e,_⟩:=hβ2 u b hc;have:=(hpl.1 p hp).2;omega
end
end Sy
end
noncomputable section
namespace Sy
open Go
variable{ro:Option Nat}{nn:Nat}
section
variable{P:Program}{E:Env}{w0:Root}{S:Nat->Nat->Prop}{γ:Nat->Option Nat}{β:Nat->Option (Nat×Nat)}{s:St}{a:Act}{w:World}
def Fm.tr{s s1:St}{S S1 S2:Nat->Nat->Prop}{γ γ1 γ2:Nat->Option Nat}{a a1 a2:Act}{w w1 w2:World}(h:Fm s S γ a w S1 γ1 a1 w1)(k:Fm s1 S1 γ1 a1 w1 S2 γ2 a2 w2)(e:Sk s s1):Fm s S γ a w S2 γ2 a2 w2:=h.trans k e.lkS e.lkO
def rp(s:St)(t:Nat):St:=
 match s.tm t with
  | .mem t' id=>match s.ob id with
   | some (.many u l)=>if t'.beq u&&!(s.lkO.contains id) then{ s.setOb id none with tm:=λi=>if i=t then .d (.sl u) (.sl l) else s.tm i } else s
   | _=>s
  | _=>s
def yq(s:St)(t:Nat)(l:List Nat):fN s (t::l)=fN (rp s t) l:=rfl
def Aq(h:Rp w0 S γ β s a w)(t:Nat):∃ S',Rp w0 S' γ β (rp s t) a w/\Fm s S γ a w S' γ a w/\Sm s (rp s t):=by
 have triv:∃ S',Rp w0 S' γ β s a w/\Fm s S γ a w S' γ a w/\Sm s s:=⟨S,h,Fm.refl _ _ _ _ _,Sm.refl s⟩;unfold rp;split
 ·rename_i t' id hm;split
  ·rename_i u l ho;split
   ·rename_i hc;simp only[zaa,zFa] at hc;obtain⟨hc1,hc2⟩:=hc;have hu:=Ty.eq_of_beq _ _ hc1;subst hu;have ht:t<a.tmps.size:=by
     rcases zna t a.tmps.size with k|k
     ·exact k
     ·have:=h.tmu t (by rw[<-h.nt];exact k)
      simp_all
    have hA:=h.tms t ht;rw[hm] at hA;simp only[AR,AC] at hA;obtain⟨hna,hnt,b,hγ,hA⟩:=hA;obtain⟨l',e1,hv⟩:=hA _ ho;simp only[Ob.many.injEq,true_and] at e1;subst e1;have hO:=h.obs id _ b ho hγ;simp only[fh] at hO;obtain⟨_,hwt,hnS,cs,hrow,hcs⟩:=hO;obtain⟨S',hS'⟩:∃ S':Nat->Nat->Prop,S'=λb' o=>S b' o\/b'=b:=⟨_,rfl⟩;have hsub:∀ b' o,S b' o->S' b' o:=λb' o hb=>by rw[hS'];exact .inl hb
    have hle:Cx.le ⟨w,S,γ,β,s.ob,s.dead⟩ ⟨w,S',γ,β,(s.setOb id none).ob,s.dead⟩:=by
     refine⟨λ_ _ _=>rfl,hsub,λ_ _ k=>k,λi o hi _=>?_,λv hv=>⟨hv,λb e he=>⟨he,λn hn=>hn⟩⟩⟩
     simp_all [St.setOb]
    refine⟨S',⟨h.ext,λi hi=>?_,h.nt,λi hi=>?_,λi o b' hi hb'=>?_,h.γn,h.γi,h.γf,λv b' e hvd he=>?_,h.βi,h.βγ,h.βf,λb' o hb=>?_,λb' o hb hlt=>?_⟩,⟨hsub,λ_ _ _=>rfl,λ_ _=>rfl,λ_ _ _ hb=>⟨hb,iN.refl _ _⟩,zha _,λ_ _ hb=>hb,jW.same rfl (cJ.refl _)⟩,⟨rfl,rfl,rfl,rfl⟩⟩
    ·by_cases hit:i=t
     ·subst hit;simp only[if_true];have hval:=am hna hv;rw[hval];refine dc (by simpa only[aj] using hnt) (by simp only[wt];exact⟨l,rfl,hwt⟩) (fD.of_CR ?_)
      refine CR.of_elems (b:=b) (off:=0) (.inr rfl) (zha _) ⟨cs,hcs.mono (λ_ _ _=>rfl) hsub,λi c hc=>⟨by rw[hS'];exact .inr rfl,?_⟩⟩
      rw[z6a,cell_of_row w hrow];simpa using hc
     ·simp only[if_neg hit];exact(h.tms i hi).mono hle
    ·have hi':s.nt<=i:=hi;have hit:i≠t:=λe=>by rw[h.nt] at ht;omega
     simp only[if_neg hit];exact h.tmu i hi'
    ·simp only[St.setOb] at hi;split at hi<;>first|(cases hi;done)|skip
     rename_i hne;refine(h.obs i o b' hi hb').mono hle rfl λo ho'=>?_;have ho2:S' b' o:=ho';rw[hS'] at ho2;rcases ho2 with k|k
     ·exact k
     ·subst k;exact absurd (h.γi i id b' hb' hγ) hne
    ·obtain⟨k1,k2,k3⟩:=h.βn v b' e hvd he;refine⟨k1,k2,λo ho' hs=>?_⟩;rw[hS'] at hs;rcases hs with k|k
     ·exact k3 o ho' k
     ·subst k;exact h.βγ v id b' e hvd he hγ
    ·rw[hS'] at hb;rcases hb with k|k
     ·exact h.Sb b' o k
     ·subst k;exact(h.γn id b' hγ).2
    ·rw[hS'] at hb;rcases hb with k|k
     ·exact h.So b' o k hlt
     ·subst k;exact absurd hlt (h.γn id b' hγ).1
   ·exact triv
  ·exact triv
 ·omega
theorem pn:∀ (l:List Nat) {S:Nat->Nat->Prop} {s:St},Rp w0 S γ β s a w->∃ S',Rp w0 S' γ β (fN s l) a w/\Fm s S γ a w S' γ a w/\Sm s (fN s l)
 | [],S,s,h=>⟨S,h,Fm.refl _ _ _ _ _,Sm.refl s⟩
 | t::l,S,s,h=>by
  obtain⟨S1,h1,f1,m1⟩:=Aq h t;obtain⟨S2,h2,f2,m2⟩:=pn l h1;rw[yq];exact⟨S2,h2,f1.trans f2 m1.lkS m1.lkO,m1.trans m2⟩
def qr(E:Env)(s:St)(o:Oper):St:=match o.op,o.dst with
  | .alloc T,some d=>match E.alOb T with
   | some x=>s.setOb (s.base+d) (some x)
   | none=>s
  | _,_=>s
def pK(E:Env)(o:Oper)(l:List Oper)(s:St):gM E (o::l) s=gM E l (qr E s o):=rfl
def Rp.freeOb(h:Rp w0 S γ β s a w){id:Nat}(hγ:γ id=none)(o:Option Ob):Rp w0 S γ β (s.setOb id o) a w:=by
 have hle:Cx.le ⟨w,S,γ,β,s.ob,s.dead⟩ ⟨w,S,γ,β,(s.setOb id o).ob,s.dead⟩:=by
  refine⟨λ_ _ _=>rfl,λ_ _ k=>k,λ_ _ k=>k,λi x hx hb=>?_,λv hv=>⟨hv,λb e he=>⟨he,λn hn=>hn⟩⟩⟩;simp only[St.setOb] at hx;split at hx
  ·simp_all
  ·simp_all
 refine⟨h.ext,λi hi=>(h.tms i hi).mono hle,h.nt,h.tmu,λi x b hx hb=>?_,h.γn,h.γi,h.γf,h.βn,h.βi,h.βγ,h.βf,h.Sb,h.So⟩;simp only[St.setOb] at hx;split at hx
 ·simp_all
 ·exact(h.obs i x b hx hb).mono hle rfl λ_ k=>k
def lr(E:Env)(s:St)(o:Oper):qr E s o=s\/∃ T d t,o.op=.alloc T/\o.dst=some d/\E.alOb T=some t/\qr E s o=s.setOb (s.base+d) (some t):=by
 all_goals grind [qr]
def FX(h:Rp w0 S γ β s a w)(hg:∀ d,γ (s.base+d)=none)(o:Oper):Rp w0 S γ β (qr E s o) a w/\Sm s (qr E s o):=by
 rcases lr E s o with e|⟨T,d,t,_,_,_,e⟩
 ·rw[e];exact⟨h,Sm.refl s⟩
 ·rw[e];exact⟨h.freeOb (hg d) _,rfl,rfl,rfl,rfl⟩
def Sm.base_eq{s s':St}(h:Sm s s'):s'.base=s.base:=by simp only[St.base,h.fresh]
def Ch(l:List Oper){s:St}(h:Rp w0 S γ β s a w)(hg:∀ d,γ (s.base+d)=none):Rp w0 S γ β (gM E l s) a w/\Sm s (gM E l s):=by
 induction l generalizing s with
 | nil=>exact And.intro h (Sm.refl s)
 | cons o l ih=>
  rw[pK];obtain⟨h1,h2⟩:=FX (E:=E) h hg o;obtain⟨k1,k2⟩:=ih h1 (by rw[h2.base_eq];exact hg)
  exact⟨k1,h2.trans k2⟩
theorem nk:∀ (l:List Oper) {s:St} {d:Nat},(∀ o∈l,o.dst≠some d)->(gM E l s).ob (s.base+d)=s.ob (s.base+d)
 | [],s,d,_=>rfl
 | o::l,s,d,h=>by
  rw[pK];rcases lr E s o with e|⟨T,d',t,_,e2,_,e⟩
  ·rw[e];exact nk l λo ho=>h o (by simp[ho])
  ·rw[e];have:=nk l (s:=s.setOb (s.base+d') (some t)) (d:=d) λo ho=>h o (by simp[ho])
   have hb:(s.setOb (s.base+d') (some t)).base=s.base:=rfl;rw[hb] at this;rw[this];have hne:d'≠d:=λe=>h o (by simp) (by rw[e2,e])
   simp only[St.setOb];grind
theorem xc:∀ (l:List Oper) {s:St} {o:Oper} {T:TypeId} {d:Nat} {t:Ob},cT (l.filterMap (·.dst))=true->o∈l->o.op=.alloc T->o.dst=some d->E.alOb T=some t->(gM E l s).ob (s.base+d)=some t
 | [],_,_,_,_,_,_,h,_,_,_=>by cases h
 | x::l,s,o,T,d,t,hn,ho,e1,e2,e3=>by
  have hn':cT (l.filterMap (·.dst))=true:=by
   rw[List.filterMap_cons] at hn;split at hn
   ·exact hn
   ·simp_all [cT,zaa]
  rw[pK];have hb:(qr E s x).base=s.base:=by rcases lr E s x with e|⟨_,_,_,_,_,_,e⟩<;>rw[e]<;>rfl
  rcases zva.1 ho with rfl|ho'
  ·rw[<-hb,nk l λo' ho'=>λe=>dL hn [] l o o' rfl ho' d e e2]
   simp_all [qr,e1,e2,e3,St.setOb]
  ·rw[<-hb];exact xc l hn' ho' e1 e2 e3
theorem NI{e e':Ex}(h:e.is e'=true):e=e':=by
 cases e<;>cases e'<;>simp only[Ex.is,decide_eq_true_eq] at h<;>first|rfl|(cases h;done)|(rw[h])
theorem qg{e:Ex}:∀ {l:List (Ex×Shape)} {i j:Nat} {h:Shape},sD e l i=some (j,h)->i<=j/\l[j-i]?=some (e,h)
 | [],_,_,_,k=>by simp[sD] at k
 | (e',h')::l,i,j,h,k=>by
  simp only[sD] at k;split at k
  ·grind [Option.some.injEq,Prod.mk.injEq,NI]
  ·obtain⟨k1,k2⟩:=qg k;grind
theorem iU{R:Type}{base:St}{k:Ex->St->Option R}{kS kO:List Nat}{r:R}{e:Ex}{h:Shape}{v:List D}:∀ {l:List (Ex×Shape)} {i j:Nat},i<=j->l[j-i]?=some (e,h)->kU base k kS kO l i (j,v)=some r ->
  k e (h.mk' base v base.lkS base.lkO)=some r/\subset h.keepS kS=true/\subset (bU h.objs) kO=true
 | [],_,_,_,hl,_=>by simp at hl
 | [(e',h')],i,j,hij,hl,hc=>by
  have:j-i=0:=by
   grind
  rw[this] at hl;simp only[zEb,zca,Prod.mk.injEq] at hl
  simp_all [kU,zaa]
 | (e',h')::x::l,i,j,hij,hl,hc=>by
  simp only[kU] at hc;split at hc<;>first|(cases hc;done)|skip
  rename_i hs;simp only[zaa] at hs;split at hc
  ·simp_all
  ·rename_i hji;refine iU (i:=i+1) (by omega) ?_ hc
   grind
def fd{l l':List Nat}(h:subset l l'=true):∀ x∈l,x∈l':=λx hx=>by
 have:=zka.1 h x hx
 simp_all
def Rp.lk(h:Rp w0 S γ β s a w)(lkS lkO:List Nat):Rp w0 S γ β { s with lkS:=lkS,lkO:=lkO } a w:=
 ⟨h.ext,h.tms,h.nt,h.tmu,h.obs,h.γn,h.γi,h.γf,h.βn,h.βi,h.βγ,h.βf,h.Sb,h.So⟩
def Fm.shape{s2:St}{S':Nat->Nat->Prop}{γ' γ'':Nat->Option Nat}{a':Act}{w':World}(h0:Rp w0 S γ β s a w)(h:Fm s2 S γ a w S' γ' a' w')(hg:∀ id,id<s.base+4096->γ'' id=γ' id):Fm s2 S γ a w S' γ'' a' w':=
 ⟨h.sub,h.cell,h.slots,λid hid b hb=>by
  obtain⟨k1,k2⟩:=h.objs id hid b hb;refine⟨?_,k2⟩;rw[hg id ?_]
  ·exact k1
  ·rcases zna id (s.base+4096) with k|k
   ·exact k
   ·rw[h0.γf id k] at hb;exact absurd hb (by simp),h.sz,λid b hb=>by
  rw[hg id ?_]
  ·exact h.gam id b hb
  ·rcases zna id (s.base+4096) with k|k
   ·exact k
   ·rw[h0.γf id k] at hb;exact absurd hb (by simp),h.dfs⟩
def pV{base:St}{exits:List (Ex×Shape)}{e:Ex}{s':St}{r:Nat×List D}(h:A7 base exits e s'=some r):∃ sh,exits[r.1]?=some (e,sh)/\sh.dec base s'=some r.2:=by
 unfold A7 at h;obtain⟨q,h1,h⟩:=bind_some_inv h;obtain⟨v,h2,h⟩:=bind_some_inv h;simp only[zca] at h;subst h;obtain⟨_,h3⟩:=qg h1
 simp_all
end
end Sy
end
noncomputable section
namespace Sy
open Go
open Go.ChangeMaps (setBlock)
open Go.RowKit
variable{ro:Option Nat}{nn:Nat}
section
variable{P:Program}{E:Env}{w0:Root}{S:Nat->Nat->Prop}{γ:Nat->Option Nat}{β:Nat->Option (Nat×Nat)}{s:St}{a:Act}{w:World}
def Kp(Q:Exit->Act->World->Prop)(w0:Root)(s:St)(S:Nat->Nat->Prop)(γ:Nat->Option Nat)(a:Act)(w:World){R:Type}(k:Ex->St->Option R)(r:R):Prop:=
 ∀ e s' S' γ' β' a' w',Rp w0 S' γ' β' s' a' w'->Fm s S γ a w S' γ' a' w'->Sk s s'->k e s'=some r->Q (Fa e) a' w'
def GB{c:Cx}{x:AV}{v:Value}(h:AR c x v):eK c (iG c.ob x) v:=by
 cases x<;>simp only[iG]<;>first|(simp only[eK];done)|skip
 case d t y=>exact h
 case own t u l=>exact lG (c:=c) (c':=c) (λ_ _ _=>rfl) (λ_ _ h=>h) h
 case fptr t y=>exact h
 case ptr t id p=>
  cases p with
  | cons i p=>simp only[eK]
  | nil=>
   simp only;split
   ·rename_i ho;simp only[AR] at h;simp only[eK,rH];exact vJ ho h.1 h.2
   ·simp only[eK]
 case clo f l=>exact Ck h
 case yld id=>exact h
 case map kt vt id=>exact Cl h
def Rp.act(h:Rp w0 S γ β s a w){a':Act}(ht:a'.tmps=a.tmps):Rp w0 S γ β s a' w:=
 ⟨h.ext,by rw[ht];exact h.tms,by rw[ht];exact h.nt,h.tmu,h.obs,h.γn,h.γi,h.γf,h.βn,h.βi,h.βγ,h.βf,h.Sb,h.So⟩
def E6(hro:∀ l,ro=some l->∃ r0,w.heap[l]?=some (Obj.loop r0))(fid:FuncId)(tmps:Array Value)(ps:Array Tmp)(asg bdy:Code) :
  ∃ L mark os rec,(Instr.enterLoop fid tmps ps asg bdy ro).run P w=.ok (L,mark) (grown w os w.drawn)/\(grown w os w.drawn).heap[L]?=some (Obj.loop rec)/\rec.tmps=tmps/\rec.params=ps/\rec.assign=asg/\rec.body=bdy/\rec.state=.ready/\rec.pending=none ∧
   w.heap.size<=L/\cc w.heap.size (grown w os w.drawn) (grown w os w.drawn).heap.size mark:=by
 cases ro with
 | none=>
  obtain⟨W1,hW1⟩:∃ W1,W1=(w.alloc (.deferred (some []))).alloc (.loop { state:=.ready,pending:=none,fn:=fid,tmps,params:=ps,assign:=asg,body:=bdy,defers:=w.heap.size }):=⟨_,rfl⟩;have hgr:W1=grown w [.deferred (some []),.loop { state:=.ready,pending:=none,fn:=fid,tmps,params:=ps,assign:=asg,body:=bdy,defers:=w.heap.size }] w.drawn:=by
   rw[hW1];unfold grown;show({ w with heap:=(w.heap.push _).push _ }:World)=_;congr 1<;>(apply zcc;simp)
  have hL1:W1.heap[w.heap.size+1]?=some (.loop { state:=.ready,pending:=none,fn:=fid,tmps,params:=ps,assign:=asg,body:=bdy,defers:=w.heap.size }):=by
   rw[hW1];have:=World.alloc_heap_new (w.alloc (.deferred (some []))) (.loop { state:=.ready,pending:=none,fn:=fid,tmps,params:=ps,assign:=asg,body:=bdy,defers:=w.heap.size });rwa [World.size_alloc] at this
  have hK1:W1.heap[w.heap.size]?=some (.deferred (some [])):=by
   rw[hW1];exact(Below.heap_alloc _ _ _ (by simp)).trans (World.alloc_heap_new w _)
  refine⟨w.heap.size+1,[{ target:=.collected w.heap.size,args:=#[] }],[.deferred (some []),.loop { state:=.ready,pending:=none,fn:=fid,tmps,params:=ps,assign:=asg,body:=bdy,defers:=w.heap.size }],{ state:=.ready,pending:=none,fn:=fid,tmps,params:=ps,assign:=asg,body:=bdy,defers:=w.heap.size },(run_enterLoop_outer fid tmps ps asg bdy).trans ?_,?_,rfl,rfl,rfl,rfl,rfl,rfl,ztc _,w.heap.size,rfl,zha _,?_,?_,trivial⟩
  rotate_left 1
  ·simp_all
  rotate_left 1
  ·simp_all
  ·simp_all
  ·grind
 | some l0=>
  obtain⟨r0,h0⟩:=hro l0 rfl;obtain⟨W1,hW1⟩:∃ W1,W1=w.alloc (.loop { state:=.ready,pending:=none,fn:=fid,tmps,params:=ps,assign:=asg,body:=bdy,defers:=r0.defers }):=⟨_,rfl⟩;have hgr:W1=grown w [.loop { state:=.ready,pending:=none,fn:=fid,tmps,params:=ps,assign:=asg,body:=bdy,defers:=r0.defers }] w.drawn:=by
   simp_all [grown]
  refine⟨w.heap.size,[],[.loop { state:=.ready,pending:=none,fn:=fid,tmps,params:=ps,assign:=asg,body:=bdy,defers:=r0.defers }],{ state:=.ready,pending:=none,fn:=fid,tmps,params:=ps,assign:=asg,body:=bdy,defers:=r0.defers },(run_enterLoop_inner h0 fid tmps ps asg bdy).trans ?_,?_,rfl,rfl,rfl,rfl,rfl,rfl,zha _,trivial⟩
  rotate_left 1
  ·rw[<-hgr,hW1];exact World.alloc_heap_new w _
  ·simp_all
def Lf(hE:EnvOk P E){Q:Exit->Act->World->Prop}(hro:∀ l,ro=some l->∃ r0,w.heap[l]?=some (Obj.loop r0))(h:Rp w0 S γ β s a w){f:Operand}{ps:Array Tmp}{asg bdy:Code}{an:Ann}{R:Type}{k:Ex->St->Option R}{r:R}
  (hev:T5 E f ps asg bdy an s k=some r) (hQ:Kp Q w0 s S γ a w k r):(Code.rangeFunc f ps asg bdy).wpIn (FW ro) nn P Q a w:=by
 unfold T5 at hev;split at hev<;>first|(cases hev;done)|skip
 rename_i t;split at hev<;>first|(cases hev;done)|skip
 rename_i g l htm;split at hev<;>first|(cases hev;done)|skip
 rename_i hcond;simp only[zaa,zFa] at hcond;obtain⟨hp,h4095⟩:=hcond;obtain⟨G,hG,hev⟩:=bind_some_inv hev;obtain⟨id,hid⟩:∃ id,id=(s.fresh+1)*4096:=⟨_,rfl⟩;rw[<-hid] at hev;obtain⟨info,hinfo⟩:∃ info:LpI,info={ nt:=s.nt,ps:=ps.toList,asg:=asg,bdy:=bdy,caps:=λj=>iG s.ob (s.tm j) }:=⟨_,rfl⟩;rw[<-hinfo] at hev;obtain⟨⟨fn,f1,f2,f3⟩,hI⟩:=hE.inl g G hG;have hb:¬ fn.body=none:=by grind
 have f2' : ¬ fn.name = "runtime.NumGoroutine" := by simpa using f2
 refine wpIn_rangeFunc λfid _=>?_;obtain⟨L,mark,os,rec,e1,e2,e3,e4,e5,e6,e7,e8,e9,e10⟩:=E6 (P:=P) hro fid a.tmps ps asg bdy;obtain⟨w1,hw1⟩:∃ w1,w1=grown w os w.drawn:=⟨_,rfl⟩;obtain⟨g1,le1⟩:=h.grow (os:=os) (d:=w.drawn) (zha _) (S':=S) (λ_ _ hb=>hb) (λ_ _ hb=>.inl hb);have kept1:cJ w (grown w os w.drawn):=cJ.grown;have hsz1:w.heap.size<=(grown w os w.drawn).heap.size:=by simp
 have hcell1:∀ b o,S b o->(grown w os w.drawn).cell? ⟨b,o,none⟩=w.cell? ⟨b,o,none⟩:=λb o hb=>df (h.Sb b o hb);have hold1:∀ b,b<w.heap.size->(grown w os w.drawn).heap[b]?=w.heap[b]?:=λb hb=>ct hb;rw[<-hw1] at e1 e2 e10 g1 kept1 hsz1 hcell1 hold1;clear le1 hw1;have hLlt:=(zfa.1 e2).1;have hγid:γ id=none:=h.γf id (by rw[hid];simp only[St.base];omega)
 obtain⟨sX,hsX⟩:∃ sX,sX=({ s with fresh:=s.fresh+1 }:St).setOb id (some (.lp info none)):=⟨_,rfl⟩;rw[<-hsX] at hev;have q1:Rp w0 S γ β sX a w1:=by rw[hsX];exact(g1.later.setFree (id:=id) hγid _).1
 have RX:Rp w0 S (nA γ id L) β sX a w1:=by
  refine(q1.newOb (id:=id) (b:=L) hγid (λho=>?_) hLlt (λi hi=>?_) (λu f hu hf=>?_) ?_ λo ho=>?_).1
  ·have:=ho.1;have:=h.ext.sz;omega
  ·have:=(h.γn i _ hi).2;omega
  ·have hu':u ∉ s.dead:=by rw[hsX] at hu;exact hu
   have:=(h.βn u _ _ hu' hf).2.1;omega
  ·rw[hsX];show id<(s.fresh+1)*4096+4096;omega
  ·have ho':some (Ob.lp info none)=some o:=by rw[<-ho,hsX];simp[St.setOb]
   cases ho';simp only[fh];refine⟨rec,e2,⟨by rw[e3,hinfo];exact h.nt,by rw[e4,hinfo],by rw[e5,hinfo],by rw[e6,hinfo]⟩,λu hu=>?_,e7,e8⟩
   rw[e3,hinfo];have hu':u<s.nt:=by rw[hinfo] at hu;exact hu
   exact eK.mono (c:=⟨w,S,γ,β,s.ob,s.dead⟩) (c':=⟨w1,S,nA γ id L,β,sX.ob,sX.dead⟩) hcell1 (λ_ _ hb=>hb) (λi b hb=>dQ hγid hb) (GB (h.tms u (by rw[h.nt];exact hu')))
 have hA:=aN RX (.tmp t);have htX:sX.tm t=.clo g l:=by rw[hsX];exact htm
 have hA':AR ⟨w1,S,nA γ id L,β,sX.ob,sX.dead⟩ (.clo g l) (a.eval (.tmp t)):=by rw[<-htX];exact hA
 simp only[AR,AC] at hA';obtain⟨na,caps,hcs,hcap⟩:=hA';have hv:=am na hcs;obtain⟨k1,k2⟩:=kI l caps hp hcap;refine⟨L,mark,w1,{ target:=.fn (.func g) caps.toArray,args:=#[.func (.yield L) #[] #[]] },w1,g,(Value.func (.yield L) #[] #[]::caps).toArray,w1,e1,?_,λ_ _=>trivial,?_,λh=>(by cases h),?_⟩
 ·simp_all [resolve,go_sem,Deferred.ofValue,Act.eval]
 ·simp[invoke,callFunc,f1,f2',hb]
 have hc:=hI an R w0 S (nA γ id L) β sX a w1 (.yld id::l) (Value.func (.yield L) #[] #[]::caps) _ r RX (by simp[k1]) (λi x v hx hv=>by
  cases i with
  | zero=>
   simp only[zEb,zca] at hx hv;subst hx;subst hv;simp only[AR,AC];exact⟨λ_ h=>(by cases h),L,rfl,bw _ _ _⟩
  | succ i=>exact k2 i x v (by simpa using hx) (by simpa using hv)) hev
 refine xZ (hc.mono λe w' ⟨v,y,s',S',γ',β',z1,z2,z3,_,z5,z6⟩=>?_);subst z1;have hγ':γ' id=some L:=z5.gam id L (bw _ _ _);have fin:∀ (p:Option Ex) (i:LpI),s'.ob id=some (.lp i p)->∃ w4,(Instr.endLoop L).run P w'=.ok (p.map Af) w4/\Rp w0 S' γ' β' (s'.setOb id none) { a with defers:=mark++a.defers } w4/\Fm s S γ a w S' γ' { a with defers:=mark++a.defers } w4/\Sk s (s'.setOb id none):=by
  intro p i hob;have hO:=z3.obs id _ L hob hγ';simp only[fh] at hO;obtain⟨rec',v1,_,_,v4⟩:=hO;have hst:rec'.state≠.busy/\rec'.pending=p.map Af:=by
   cases p with
   | none=>exact⟨by rw[v4.1];simp,v4.2⟩
   | some e=>exact⟨by rw[v4.1];simp,v4.2⟩
  have F4:=Fm.setLp z3 (s1:=s) v1 (r':={ rec' with state:=.exhausted }) ⟨rfl,rfl,rfl,rfl⟩;have hlkO:sX.lkO=s.lkO:=by rw[hsX];rfl
  have hlkS:sX.lkS=s.lkS:=by rw[hsX];rfl
  have hnt:sX.nt=s.nt:=by rw[hsX];rfl
  refine⟨_,by rw[<-hst.2];exact run_endLoop v1 hst.1,(z3.setLp hγ' v1 _).act rfl,⟨z5.sub,λb o hb=>(F4.cell b o (z5.sub b o hb)).trans ((z5.cell b o hb).trans (hcell1 b o hb)),λ_ _=>rfl,λj hj b hb=>?_,zDa hsz1 (zDa z5.sz F4.sz),λj b hb=>z5.gam j b (dQ hγid hb),?_,mark,rfl,?_,?_⟩,⟨z6.lkS.trans hlkS,z6.lkO.trans hlkO,z6.nt.trans hnt⟩⟩
  ·obtain⟨y1,y2⟩:=z5.objs j (by rw[hlkO];exact hj) b (dQ hγid hb)
   obtain⟨_,y3⟩:=F4.objs j hj b y1;exact⟨y1,(iN.trans (.inl (hold1 b (h.γn j b hb).2)) y2).trans y3⟩
  ·exact(kept1.trans z5.dfs.1).trans F4.dfs.1
  ·exact e10.mono (zha _) (z5.dfs.1.trans F4.dfs.1) (zDa z5.sz F4.sz)
  ·intro hh;have:s.lkO.contains 4095=true:=by simpa using hh
   rw[this] at h4095;cases h4095
 simp only[rangePost];split at z2<;>first|(cases z2;done)|skip
 ·rename_i i hob;obtain⟨w4,y1,y2,y3,y4⟩:=fin none i hob;exact⟨_,w4,y1,hQ .normal _ S' γ' β' _ w4 y2 y3 y4 z2⟩
 ·rename_i i e hob;obtain⟨w4,y1,y2,y3,y4⟩:=fin (some e) i hob;refine⟨_,w4,y1,?_⟩;have hq:=hQ e _ S' γ' β' _ w4 y2 y3 y4 z2;cases e with
  | normal=>exact wpIn_skip hq
  | exit j=>exact wpIn_exit hq
  | ret=>exact wpIn_ret hq
end
end Sy
end
noncomputable section
namespace Sy
open Go
variable{ro:Option Nat}{nn:Nat}
section
variable{V:Nat->St->Option AV}{ops:Array Oper}{md:Region.Mode}
def qz(V:Nat->St->Option AV)(ops:Array Oper)(i:Nat)(K:St->Prop)(s:St):Prop:=
 match ops[i]? with
 | none=>K s
 | some o=>∃ v,V i s=some v/\K (s.put o.dst v)
def n7(V:Nat->St->Option AV)(md:Region.Mode)(ops:Array Oper)(n:Nat)(L:Array Bool->St->Prop):Nat->Array Bool->St->Prop
 | 0,listed,s=>L listed s
 | f+1,listed,s=>Region.ready md ops listed≠[]/\∀ i∈Region.ready md ops listed,i<n/\qz V ops i (n7 V md ops n L f (listed.setIfInBounds i true)) s
def iP(V:Nat->St->Option AV)(ops:Array Oper):Nat->Nat->St->Option St
 | 0,_,s=>some s
 | c+1,k,s=>(V k s).bind λv=>iP V ops c (k+1) (s.put ((ops[k]?).bind (·.dst)) v)
theorem zz:∀ (c d k:Nat) (s:St),iP V ops (c+d) k s=(iP V ops c k s).bind λs'=>iP V ops d (k+c) s'
 | 0,d,k,s=>by simp[iP]
 | c+1,d,k,s=>by
  rw[show c+1+d=(c+d)+1 by omega]
  simp only[iP];cases V k s with
  | none=>rfl
  | some v=>
   simp only[zba];rw[zz c d (k+1),show k+1+c=k+(c+1) by omega]
def O4(V:Nat->St->Option AV)(ops:Array Oper):Prop:=∀ i oi,ops[i]?=some oi->∀ (s:St) (d:Option Nat) (v:AV),(∀ t,d=some t->t ∉ oi.looksAt ops)->V i (s.put d v)=V i s
def yy{n i:Nat}{oi:Oper}{v:AV}{L:Array Bool->St->Prop}(hV:O4 V ops)(hi:ops[i]?=some oi)(hW:kM md ops n)(hin:i<n)
  (hdone:∀ listed s,L listed s->∀ j∈Region.ready md ops listed,n<=j) :
  ∀ (f:Nat) (listed:Array Bool) (s:St),HeadInv md ops n listed ->
   (∀ j oj,ops[j]?=some oj->j≠i->listed.getD j true=false->(∀ e∈oj.after,Region.binds md e=true->e.on≠i)->oi.apart ops oj=true) ->
   i∈Region.ready md ops listed->V i s=some v ->
   n7 V md ops n L f (listed.setIfInBounds i true) (s.put oi.dst v)->n7 V md ops n L (f+1) listed s:=by
 intro f
 induction f with
 | zero=>
  intro listed s inv _ hr hy H;have hun:=(mem_ready.1 hr).1;refine⟨λh=>(by rw[h] at hr;cases hr),λj hj=>?_⟩
  have hjn:j<n:=by
   rcases zna j n with h|h
   ·exact h
   ·exact absurd hj (hW _ _ inv hin hun j h)
  refine⟨hjn,?_⟩;by_cases hji:j=i
  ·simp_all [qz]
  ·have:=hdone _ _ H j (ready_mono hj hji);omega
 | succ f ih=>
  intro listed s inv hfree hr hy H;have hun:=(mem_ready.1 hr).1;refine⟨λh=>(by rw[h] at hr;cases hr),λj hj=>?_⟩
  have hjn:j<n:=by
   rcases zna j n with h|h
   ·exact h
   ·exact absurd hj (hW _ _ inv hin hun j h)
  refine⟨hjn,?_⟩;by_cases hji:j=i
  ·simp_all [qz]
  ·have h1:=(H.2 j (ready_mono hj hji)).2;obtain⟨hjun,oj,hoj,hall⟩:=mem_ready.1 hj;have hnot:∀ e∈oj.after,Region.binds md e=true->e.on≠i:=λe he hb heq=>by
    grind
   obtain⟨a1,a2,a3⟩:=Oper.apart_spec (hfree j oj hoj hji hjun hnot);unfold qz at h1 ⊢;rw[hoj] at h1 ⊢;obtain⟨u,k1,k2⟩:=h1;rw[hV j oj hoj _ _ _ a1] at k1;refine⟨u,k1,ih (listed.setIfInBounds j true) (s.put oj.dst u) (inv.set hj hjn) (λk ok hk hki hun hno=>?_) (ready_mono hr (Ne.symm hji)) ?_ ?_⟩
   ·refine hfree k ok hk hki ?_ hno;by_cases hjk:j=k
    ·simp_all
    ·simp_all
   ·rw[hV i oi hi _ _ _ a3];exact hy
   ·rw[Array.setIfInBounds_comm _ _ hji,zl u v (λd hd he=>a2 d he hd)];exact k2
theorem pw{n g:Nat}{sF:St}(hV:O4 V ops)(hn:n<=ops.size)(hW:kM md ops n) :
  ∀ (c k:Nat) (listed:Array Bool) (s:St),k+c=n->HeadInv md ops n listed->(∀ i,i<k->listed.getD i false=true) ->
  Region.lexHead md ops g c k listed=true->iP V ops c k s=some sF ->
  n7 V md ops n (λlisted' s'=>Region.seqB md ops g n listed'=true/\(∀ i,i<n->listed'.getD i false=true)/\s'=sF) c listed s
 | 0,k,listed,s,hk,_,hl,hB,h=>by
  have:k=n:=by simpa using hk
  subst this;simp only[iP,zca] at h;exact⟨by simpa [Region.lexHead] using hB,hl,h⟩
 | c+1,k,listed,s,hk,inv,hl,hB,h=>by
  have hkn:k<n:=by omega
  have hks:k<ops.size:=by omega
  have h0:ops[k]?=some ops[k]:=zBb hks;simp only[Region.lexHead,zaa] at hB;obtain⟨⟨hr,hf⟩,hB'⟩:=hB;have hr':k∈Region.ready md ops listed:=by simpa using hr
  simp only[iP] at h;obtain⟨v,h1,h2⟩:=bind_some_inv h;rw[h0,zba] at h2;refine yy hV h0 hW hkn (λlisted' s' hL=>seqB_ready hL.1) c listed s inv (Region.free_spec h0 hf) hr' h1
   (pw hV hn hW c (k+1) _ _ (by omega) (inv.set hr' hkn) (λi hi=>?_) hB' h2)
  by_cases e:i=k
  ·simp_all [inv.size]
  ·exact getD_set_true (hl i (by omega))
theorem pu{n:Nat}{L:Array Bool->St->Prop}{T:List Nat}:∀ (f:Nat) (listed:Array Bool) (s:St),n7 V md ops n L f listed s ->
  (∀ t∈T,∀ j oj,ops[j]?=some oj->listed.getD j true=false->oj.dst≠some t)->∃ listed' s',L listed' s'/\(∀ t∈T,s'.tm t=s.tm t)/\s'.ob=s.ob/\Sm s s'
 | 0,listed,s,h,_=>⟨listed,s,h,λ_ _=>rfl,rfl,Sm.refl s⟩
 | f+1,listed,s,h,hT=>by
  obtain⟨h1,h2⟩:=h;obtain⟨i,hi⟩:=List.exists_mem_of_ne_nil _ h1;obtain⟨hin,hst⟩:=h2 i hi;obtain⟨hun,o,ho,_⟩:=mem_ready.1 hi;unfold qz at hst;rw[ho] at hst;obtain⟨v,_,k2⟩:=hst;obtain⟨l',s',m1,m2,m3,m4⟩:=pu f _ _ k2 (λt ht j oj hj hu=>by
   by_cases e:i=j
   ·subst e;exfalso;rcases zna i listed.size with hlt|hge
    ·simp[Array.getD,hlt] at hu
    ·simp[Array.getD,zwc.2 hge] at hu
   ·rw[getD_set_ne true e] at hu;exact hT t ht j oj hj hu)
  have p:=St.put_fields s o.dst v;exact⟨l',s',m1,λt ht=>(m2 t ht).trans (to (hT t ht i o ho hun)),m3.trans p.1,(Sm.put s o.dst v).trans m4⟩
end
section
variable{E:Env}{ops:Array Oper}
def mG(E:Env)(ops:Array Oper)(n id i:Nat)(s:St):Option AV:=if i=n then some .undef else sR E ops n id i s some
def vN(s:St)(d:Option Nat)(v:AV)(id:Nat)(o:Option Ob):(s.put d v).setOb id o=(s.setOb id o).put d v:=by
 cases d with
 | none=>rfl
 | some d=>
  by_cases h:d<s.nt
  ·simp_all [St.put,St.setOb]
  ·grind [St.put,St.setOb]
def Fx(n id:Nat):O4 (mG E ops n id) ops:=by
 intro i oi hi s d v h;unfold mG;split
 ·rfl
 ·obtain⟨p1,p2,p3,p4,p5,p6,p7⟩:=St.put_fields s d v;obtain⟨q1,q2,q3,q4,q5,q6,q7⟩:=St.put_fields (s.setOb id none) d v;have e1:jF (s.put d v) oi=jF s oi:=by simp only[jF,p5]
  have hx:∀ x∈oi.op.operands,∀ t,d=some t->x≠.tmp t:=λx hx t ht e=>h t ht (by
   subst e;exact List.mem_append_left _ (zxc.2 ⟨.tmp t,by simpa using hx,rfl⟩))
  have e2:qv E (s.put d v) oi some=qv E s oi some:=ls p1 p2 λx hm=>lW (hx x hm);have e3:qv E ((s.put d v).setOb id none) oi some=qv E (s.setOb id none) oi some:=by
   rw[vN];exact ls q1 q2 λx hm=>lW (hx x hm)
  unfold sR
  simp_all
def yI{R:Type}{n id i:Nat}{s:St}{K:AV->Option R}{r:R}(h:sR E ops n id i s K=some r):∃ v,sR E ops n id i s some=some v/\K v=some r:=by
 unfold sR at h ⊢;split at h<;>first|(cases h;done)|skip
 split at h<;>first|(cases h;done)|skip
 rename_i hlk;rw[if_neg hlk];split at h
 ·rename_i hw;rw[if_pos hw];exact ft h
 ·rename_i hw;rw[if_neg hw];split at h<;>first|(cases h;done)|skip
  rename_i hk;rw[if_pos hk];exact ft h
theorem BJ{R:Type}{n id:Nat}{K:St->Option R}{r:R}:∀ (c k:Nat) (s:St),k+c<=n->Le E ops n id c k s K=some r->∃ s',iP (mG E ops n id) ops c k s=some s'/\K s'=some r
 | 0,k,s,_,h=>⟨s,rfl,h⟩
 | c+1,k,s,hk,h=>by
  simp only[Le] at h;obtain⟨v,h1,h2⟩:=yI h;obtain⟨s',h3,h4⟩:=BJ c (k+1) _ (by omega) h2
  refine⟨s',?_,h4⟩;simp only[iP,mG,if_neg (show ¬ k=n by omega),h1,zba]
  exact h3
mutual
theorem GC(ob ob':Nat->Option Ob):∀ (t:Ty) (a:AV),AV.toD ob t a=AV.toD ob' t a
 | t,.st ts l=>by simp only[AV.toD,Cv ob ob' ts l]
 | t,.d _ _=>by simp_all [AV.toD]
 | t,.own _ _ _=>by cases t<;>simp only[AV.toD]
 | t,.nils=>by simp_all [AV.toD]
 | t,.ptr _ _ _=>by cases t<;>simp only[AV.toD]
 | t,.yld _=>by simp_all [AV.toD]
 | t,.fptr _ _=>by cases t<;>simp only[AV.toD]
 | t,.mem _ _=>by cases t<;>simp only[AV.toD]
 | t,.clo _ _=>by cases t<;>simp only[AV.toD]
 | t,.map _ _ _=>by cases t<;>simp only[AV.toD]
 | t,.sub _ _ _ _ _ _=>by cases t<;>simp only[AV.toD]
 | t,.gone=>by simp_all [AV.toD]
 | t,.undef=>by simp_all [AV.toD]
theorem Cv(ob ob':Nat->Option Ob):∀ (ts:List Ty) (l:List AV),AV.toDl ob ts l=AV.toDl ob' ts l
 | [],[]=>rfl
 | [],_::_=>rfl
 | _::_,[]=>rfl
 | t::ts,a::l=>by simp only[AV.toDl,GC ob ob' t a,Cv ob ob' ts l]
end
theorem vI{s s':St}(htm:s'.tm=s.tm)(ty:Nat->Option Ty):∀ l:List (Nat×Operand),partsD s'.ob s' ty l=partsD s.ob s ty l
 | []=>rfl
 | (i,x)::l=>by
  have e:s'.opA x=s.opA x:=by cases x<;>simp only[St.opA,htm]
  simp only[partsD,e,vI htm ty l];cases ty i with
  | none=>rfl
  | some t=>simp only[zba,GC s'.ob s.ob t]
def uC{ob ob':Nat->Option Ob}(h:∀ j o,ob j=some o->ob' j=some o){x:AV}(hp:eZ (j4 ob x)=true):j4 ob' x=j4 ob x:=by
 unfold j4 at hp ⊢;split
 ·rename_i t id;simp only at hp;cases ho:ob id with
  | none=>rw[ho] at hp;cases hp
  | some o=>rw[h _ _ ho]
 ·rfl
def Ad{ob ob':Nat->Option Ob}(h:∀ j o,ob j=some o->ob' j=some o){x:AV}(hr:kB (mD ob x)=true):mD ob' x=mD ob x:=by
 cases x<;>simp only[mD] at hr ⊢
 case ptr t id p=>
  refine uC h ?_;unfold j4 at hr ⊢;split at hr<;>first|(cases hr;done)|skip
  split at hr<;>first|(cases hr;done)|skip
 case clo f l=>
  split at hr<;>first|(cases hr;done)|skip
  rename_i hl;rw[if_pos hl];have e:l.map (j4 ob')=l.map (j4 ob):=zec λx hx=>uC h (zka.1 hl _ (zWb hx));rw[e,if_pos hl]
 case map kt vt id=>
  cases ho:ob id with
  | none=>rw[ho] at hr;cases hr
  | some o=>rw[h _ _ ho]
def Db{s s':St}{id:Nat}(htm:s'.tm=s.tm)(hfr:s'.fresh=s.fresh)(hob:∀ j,j≠id->s'.ob j=s.ob j)(hid:s.ob id=none){o:Oper}(hk:sP o=true){v:AV}(h:qv E s o some=some v):qv E s' o some=some v:=by
 have op:∀ x,s'.opA x=s.opA x:=λx=>by cases x<;>simp only[St.opA,htm]
 have obm:∀ {j:Nat} {ob:Ob},s.ob j=some ob->s'.ob j=some ob:=λ{j ob} hj=>by
  all_goals grind
 obtain⟨dst,op',ty,pos,after,guard⟩:=o;cases op'<;>simp only[sP] at hk<;>first|(cases hk;done)|skip
 case build T ps=>
  simp only[qv] at h ⊢;obtain⟨t,ht,h2⟩:=bind_some_inv h;rw[ht,zba];have e2:∀ ts,ps.toList.all (fk s' ts)=ps.toList.all (fk s ts):=λts=>by
   congr 1;funext p;simp only[fk,op]
  have e3:(ps.toList.map λp=>(p.1,s'.opA p.2))=ps.toList.map λp=>(p.1,s.opA p.2):=by simp only[op]
  cases t<;>simp only[vI htm,e2,e3]<;>exact h2
 case load T a=>
  simp only[qv] at h ⊢;cases hfn:E.fnT T with
  | true=>
   rw[hfn] at h;simp only[cond_true] at h ⊢;split at h<;>first|(cases h;done)|skip
   rename_i j e;split at h<;>first|(cases h;done)|skip
   rename_i y ho;split at h<;>first|(cases h;done)|skip
   rename_i hr;rw[op,e];simp only;rw[obm ho];simp only;rw[Ad (λj o=>obm) hr,if_pos hr];exact h
  | false=>
  rw[hfn] at h;simp only[cond_false] at h ⊢;obtain⟨t,ht,h2⟩:=bind_some_inv h;rw[ht,zba,op];all_goals grind
 case fieldAddr T x f=>
  simp_all [qv,op]
 case extract x i=>
  simp_all [qv,op]
 case move x=>
  simp_all [qv,op]
 case alloc T=>
  simp_all [qv,St.base]
end
section
variable{P:Program}{E:Env}{w0:Root}{ops:Array Oper}
def oS(n id:Nat)(ob1:Ob)(listed:Array Bool)(s:St):St:=if listed.getD n false then s.setOb id (some ob1) else s
theorem Sm.setOb(s:St)(id:Nat)(o:Option Ob):Sm s (s.setOb id o):=⟨rfl,rfl,rfl,rfl⟩
theorem ks(hE:EnvOk P E){n g id T p x:Nat}{u t t':Ty}{v0 v1:AV}{ostore:Oper}{L:Array Bool->St->Prop}{Q:Exit->Act->World->Prop}{s0:St}{S0:Nat->Nat->Prop}{γ0:Nat->Option Nat}{a0:Act}{w1:World}
  (hn:ops[n]?=some ostore) (hop:ostore.op=.store T (.tmp p) (.tmp x)) (hdst:ostore.dst=none) (hgd:ostore.guard=none)
  (hp:∀ (j:Nat) (oj:Oper),ops[j]?=some oj->oj.dst=some p->Region.waitsFor .any ops n j=true) (hx:∀ (j:Nat) (oj:Oper),ops[j]?=some oj->oj.dst=some x->Region.waitsFor .any ops n j=true)
  (hheads:∀ (j:Nat) (oj:Oper),j<n->ops[j]?=some oj->oj.guard=none)
  (hT:E.L T=some t) (hfn:E.fnT T=false) (htt:t.beq t'=true) (hf1:AV.fits t v1=true) (hlk:s0.lkO.contains id=false) (hob0:s0.ob id=some (.one u v0))
  (hd:∀ (i j:Nat) (oi oj:Oper),i≠j->ops[i]?=some oi->ops[j]?=some oj->∀ d,oj.dst=some d->oi.dst≠some d)
  (hLs:∀ listed s,L listed s->s.tm p=.ptr t' id []/\s.tm x=v1/\listed.getD n false=true)
  (hL:∀ listed s S γ β a w,Rp w0 S γ β (s.setOb id (some (.one u v1))) a w->Fm s0 S0 γ0 a0 w1 S γ a w->Sm s0 s->(∀ j oj,ops[j]?=some oj->listed.getD j true=false->Fr E (s.setOb id (some (.one u v1))) γ β oj)->L listed s->wpAnyIn (FW ro) nn P .any ops Q g listed a w) :
  ∀ (f:Nat) (listed:Array Bool) (s:St) (S:Nat->Nat->Prop) (γ:Nat->Option Nat) (β:Nat->Option (Nat×Nat)) (a:Act) (w:World),Rp w0 S γ β (oS n id (.one u v1) listed s) a w->Fm s0 S0 γ0 a0 w1 S γ a w->Sm s0 s->s.ob=s0.ob ->
   (listed.getD n false=true->∀ j,Region.waitsFor .any ops n j=true->listed.getD j false=true) ->
   (∀ j oj,ops[j]?=some oj->listed.getD j true=false->Fr E (oS n id (.one u v1) listed s) γ β oj)->n7 (mG E ops n id) .any ops (n+1) L f listed s->wpAnyIn (FW ro) nn P .any ops Q (f+g) listed a w
 | 0,listed,s,S,γ,β,a,w,h,hF,hS,hob,hcl,hfr,hh=>by
  rw[z6a];have hh':L listed s:=hh;have e:oS n id (.one u v1) listed s=s.setOb id (some (.one u v1)):=by unfold oS;rw[if_pos (hLs _ _ hh').2.2]
  grind
 | f+1,listed,s,S,γ,β,a,w,h,hF,hS,hob,hcl,hfr,hh=>by
  rw[show f+1+g=(f+g)+1 by omega]
  refine⟨λh0=>absurd h0 hh.1,λi hi=>?_⟩;obtain⟨hin,hst⟩:=hh.2 i hi;have hun:=(mem_ready.1 hi).1;have unl:∀ j,(listed.setIfInBounds i true).getD j true=false->i≠j/\listed.getD j true=false:=λj hu=>by
   by_cases hij:i=j
   ·subst hij;exfalso;rcases zna i listed.size with hlt|hge
    ·simp[Array.getD,hlt] at hu
    ·simp[Array.getD,zwc.2 hge] at hu
   ·rw[getD_set_ne true hij] at hu;exact⟨hij,hu⟩
  by_cases hni:i=n
  ·
   subst hni;have hlf:=getD_both hun;have hsz:i<listed.size:=by
    rcases zna i listed.size with hlt|hge
    ·exact hlt
    ·simp[Array.getD,zwc.2 hge] at hun
   have e0:oS i id (.one u v1) listed s=s:=by unfold oS;rw[hlf];rfl
   rw[e0] at h;unfold qz at hst;rw[hn] at hst;simp only at hst;obtain⟨v,hv,hst⟩:=hst;rw[hdst] at hst;have hst:n7 (mG E ops i id) .any ops (i+1) L f (listed.setIfInBounds i true) s:=hst;obtain⟨_,o',ho',hall⟩:=mem_ready.1 hi;rw[hn] at ho';cases ho';obtain⟨l',s',m1,m2,m3,m4⟩:=pu (T:=[p,x]) f _ _ hst (λt ht j oj hj hu=>by
    simp only[zva,zUb,or_false] at ht;intro hdj;have hw:Region.waitsFor .any ops i j=true:=by
     rcases ht with rfl|rfl
     ·exact hp j oj hj hdj
     ·exact hx j oj hj hdj
    obtain⟨ow,how,e,he,hb,hon⟩:=Region.waitsFor_spec hw;rw[hn] at how;cases how;have h1:=hall e he hb;rw[hon] at h1;obtain⟨_,hu'⟩:=unl j hu;rw[getD_both hu'] at h1;cases h1)
   obtain⟨z1,z2,z3⟩:=hLs _ _ m1;rw[m2 p (by simp)] at z1
   rw[m2 x (by simp)] at z2
   have hobs:s.ob id=some (.one u v0):=by rw[hob];exact hob0
   have hlks:s.lkO.contains id=false:=by rw[hS.lkO];exact hlk
   have hev:qf E s ostore some=some (s.setOb id (some (.one u v1))):=by
    unfold qf;rw[hop];simp only[hT,hfn,cond_false,zba,St.opA,z1,z2,htt,hf1,hlks,hobs,zNb,Bool.and_true,if_true,AZ]
   obtain⟨s1,k1,k2⟩:=wE hE h (e0 ▸ hfr i ostore hn hun) (λT t _ ht=>hE.flat T t ht) (λt _=>by rw[hdst];simp) (λ_ _ _ _=>hdst) hev
   cases k1;obtain⟨r1,r2,r3,r4,r5,r6⟩:=k2;unfold wpOpIn;rw[hn];simp only;rw[if_pos (by simp[Region.wanted,hgd])]
   refine(bf r6 λval w' ⟨S',γ',β',m1,m2,m3⟩=>?_);have el:oS i id (.one u v1) (listed.setIfInBounds i true) s=s.setOb id (some (.one u v1)):=by
    unfold oS;rw[if_pos (by simp[hsz])]
   refine ks hE hn hop hdst hgd hp hx hheads hT hfn htt hf1 hlk hob0 hd hLs hL f _ s S' γ' β' _ _ (by rw[el];exact m1) (hF.trans m2 hS.lkS hS.lkO) hS hob (λ_ j hw=>?_) (λj oj hj hu=>?_) hst
   ·obtain⟨ow,how,e,he,hb,hon⟩:=Region.waitsFor_spec hw;rw[hn] at how;cases how;have h1:=hall e he hb;rw[hon] at h1;exact getD_set_true h1
   ·rw[el];obtain⟨_,hu'⟩:=unl j hu;exact(e0 ▸ hfr j oj hj hu':Fr E s γ β oj).keep (λd _=>by rw[hdst];simp) rfl (λid' h1 h2=>r5 id' h1 h2) m3
  ·
   have hilt:i<n:=by omega
   obtain⟨_,o,ho,hall⟩:=mem_ready.1 hi;unfold qz at hst;rw[ho] at hst;simp only at hst;obtain⟨v,hv,hst⟩:=hst;unfold mG at hv;rw[if_neg hni] at hv;unfold sR at hv;rw[ho] at hv;simp only at hv;split at hv<;>first|(cases hv;done)|skip
   rename_i hlko;have hog:=hheads i o hilt ho;have hlkl:jF (oS n id (.one u v1) listed s) o=jF s o:=by unfold oS;split<;>rfl
   have hval:val E ops (oS n id (.one u v1) listed s) o=some v:=by
    unfold val;rw[hlkl,if_neg hlko,hog];simp only;split at hv
    ·rename_i hw;have:listed.getD n false=false:=by
      cases hln:listed.getD n false with
      | false=>rfl
      | true=>
       have:=hcl hln i hw;rw[getD_both hun] at this;cases this
     have e:oS n id (.one u v1) listed s=s:=by unfold oS;rw[this];rfl
     rw[e];exact hv
    ·split at hv<;>first|(cases hv;done)|skip
     rename_i hk;refine Db (s:=s.setOb id none) (id:=id) ?_ ?_ (λj hj=>?_) ?_ hk hv
     ·unfold oS;split<;>rfl
     ·unfold oS;split<;>rfl
     ·unfold oS;split<;>simp[St.setOb,hj]
     ·simp[St.setOb]
   have el:(oS n id (.one u v1) listed s).put o.dst v=oS n id (.one u v1) (listed.setIfInBounds i true) (s.put o.dst v):=by
    unfold oS;rw[getD_set_ne false hni];split
    ·rw[vN]
    ·rfl
   obtain⟨k1,k2⟩:=xB hE h (hfr i o ho hun) hval;have pf:=St.put_fields s o.dst v;have smL:Sm s0 (oS n id (.one u v1) listed s):=by
    unfold oS;split
    ·exact hS.trans (Sm.setOb s id _)
    ·exact hS
   have pl:=St.put_fields (oS n id (.one u v1) listed s) o.dst v;have frn:∀ {γ':Nat->Option Nat} {β':Nat->Option (Nat×Nat)},(∀ id':Nat,o.dst≠some (id'-(oS n id (.one u v1) listed s).base)\/id'<(oS n id (.one u v1) listed s).base->γ' id'=γ id'/\β' id'=β id')->∀ j oj,ops[j]?=some oj->(listed.setIfInBounds i true).getD j true=false->Fr E (oS n id (.one u v1) (listed.setIfInBounds i true) (s.put o.dst v)) γ' β' oj:=λhk j oj hj hu=>by
    obtain⟨hij,hu'⟩:=unl j hu;rw[<-el];exact(hfr j oj hj hu').keep (λd hdj=>hd i j o oj hij ho hj d hdj) pl.2.1 (λid' _ _=>by rw[pl.1]) hk
   have hcl':(listed.setIfInBounds i true).getD n false=true->∀ j,Region.waitsFor .any ops n j=true->(listed.setIfInBounds i true).getD j false=true:=λh1 j hw=>by
    rw[getD_set_ne false hni] at h1;exact getD_set_true (hcl h1 j hw)
   unfold wpOpIn;rw[ho];simp only;split
   ·rename_i hw;refine(bf (k1 hw) λu' w' ⟨S',γ',β',m1,m2,m3⟩=>?_);exact ks hE hn hop hdst hgd hp hx hheads hT hfn htt hf1 hlk hob0 hd hLs hL f _ _ S' γ' β' _ _ (el ▸ m1) (hF.trans m2 smL.lkS smL.lkO) (hS.trans (Sm.put s o.dst v)) (pf.1.trans hob) hcl' (frn m3) hst
   ·rename_i hw;obtain⟨m1,m2⟩:=k2 (by simpa using hw)
    refine⟨λ_ _=>trivial,?_⟩;exact ks hE hn hop hdst hgd hp hx hheads hT hfn htt hf1 hlk hob0 hd hLs hL f _ _ S γ β _ _ (el ▸ m1) (hF.trans m2 smL.lkS smL.lkO) (hS.trans (Sm.put s o.dst v)) (pf.1.trans hob) hcl' (frn λid _=>⟨rfl,rfl⟩) hst
def tt(hE:EnvOk P E){id:Nat}{n:Nat}{Q:Exit->Act->World->Prop}{S:Nat->Nat->Prop}{γ:Nat->Option Nat}{β:Nat->Option (Nat×Nat)}{s:St}{a:Act}{w:World}{R:Type}{k:St->Option R}{r:R}{N:Nat}
  (h:Rp w0 S γ β s a w) (hf:CD E s γ β ops.toList) (hm:bL ops.toList=true) (hlt:sQ ops n=true) {an:Ann}
  (hev:Le E ops n (ke ops n s) n 0 s (λs2=>if sO ops n s2=some (ke ops n s) then dS E N R ops an ((aJ 0 ops.toList).drop n) s2 k else none)=some r)
  (hQ:∀ s' S' γ' β' a' w',Rp w0 S' γ' β' s' a' w'->Fm s S γ a w S' γ' a' w'->Sk s s'->k s'=some r->Q .normal a' w'):(Code.region id ops true).wpIn (FW ro) nn P Q a w:=by
 simp only[bL,zaa] at hm;obtain⟨⟨hm1,hm2⟩,hm3⟩:=hm;have hstores:(ops.toList.all λo=>match o.op with|.store ..=>o.dst.isNone|_=>true)=true:=hm3
 unfold sQ at hlt;split at hlt<;>first|(cases hlt;done)|skip
 rename_i ostore hn;split at hlt<;>first|(cases hlt;done)|skip
 rename_i T p x hop;obtain⟨ido,hid⟩:∃ ido,ke ops n s=ido:=⟨_,rfl⟩;rw[hid] at hev;simp only[zaa] at hlt;obtain⟨⟨⟨⟨⟨l2,l3⟩,l4⟩,l5⟩,l6⟩,l7⟩:=hlt;have hns:n<ops.size:=(zfa.1 hn).1;have hnm:ostore∈ops.toList:=zJb.2 (z5b hn);have hdst:ostore.dst=none:=by
  grind
 have hpx:∀ (j:Nat) (oj:Oper),ops[j]?=some oj->(oj.dst=some p\/oj.dst=some x)->Region.waitsFor .any ops n j=true:=λj oj hj e=>by
  grind
 have hp:∀ (j:Nat) (oj:Oper),ops[j]?=some oj->oj.dst=some p->Region.waitsFor .any ops n j=true:=λj oj hj e=>hpx j oj hj (.inl e);have hx:∀ (j:Nat) (oj:Oper),ops[j]?=some oj->oj.dst=some x->Region.waitsFor .any ops n j=true:=λj oj hj e=>hpx j oj hj (.inr e);have hheads:∀ (j:Nat) (oj:Oper),j<n->ops[j]?=some oj->oj.guard=none:=λj oj hjn hj=>by
  have hm':oj∈ops.toList.take n:=by
   refine z0a (i:=j) ?_;rw[zqb hjn,zya];exact hj
  have:=zka.1 l3 oj hm';simp only[zaa] at this;simpa using this.2
 have htails:∀ o∈ops.toList.drop n,o.guard=none:=λo ho=>by
  have:=zka.1 l4 o ho;simp only[zaa] at this;simpa using this.1
 have hdrop:ops.toList.drop n=ostore::ops.toList.drop (n+1):=by
  have h1:n<ops.toList.length:=by simpa using hns
  rw[zob h1];have:ops.toList[n]=ostore:=by
   have:=(zfa.1 hn).2;simpa using this
  rw[this]
 have hgd:ostore.guard=none:=htails ostore (by rw[hdrop];simp)
 obtain⟨s',q1,q2⟩:=BJ n 0 s (by omega) hev
 split at q2<;>first|(cases q2;done)|skip
 rename_i hat;obtain⟨t0,hptr,htf⟩:∃ t0,s'.tm p=.ptr t0 ido []/\¬ t0.beq .fn=true:=by
  unfold sO at hat;simp only[hn,hop] at hat;split at hat<;>first|(cases hat;done)|skip
  rename_i t0 id0 hpe;split at hat<;>first|(cases hat;done)|skip
  rename_i hb;cases hat;exact⟨t0,hpe,hb⟩
 have hnum:(aJ 0 ops.toList).drop n=(n,ostore)::(aJ 0 ops.toList).drop (n+1):=by
  have h1:n<(aJ 0 ops.toList).length:=by rw[gb];simpa using hns
  rw[zob h1];have key:∀ (l:List Oper) (i j:Nat) (o:Oper),l[j]?=some o->(aJ i l)[j]?=some (i+j,o):=by
   intro l
   induction l with
   | nil=>intro i j o hj;simp at hj
   | cons y l ih=>
    intro i j o hj;cases j with
    | zero=>simp at hj;subst hj;simp[aJ]
    | succ j=>simp only[zdb] at hj;simp only[aJ,zdb];rw[ih (i+1) j o hj];congr 2;omega
  have:=key ops.toList 0 n ostore (by rw[zya];exact hn)
  rw[zda h1,z6a] at this;rw[zrd this]
 rw[hnum] at q2;obtain⟨N',hN⟩:∃ N',N=N'+1:=by
  cases N with
  | zero=>simp[dS] at q2
  | succ N'=>exact⟨N',rfl⟩
 subst hN;have hseg:pR n ((aJ 0 ops.toList).drop (n+1))=false:=by
  unfold pR;split
  ·rename_i p' l' hl;have hmem:p'.2∈ops.toList.drop n:=by
    have h1:p'∈(aJ 0 ops.toList).drop n:=by rw[hnum,hl];simp
    have:p'.2∈((aJ 0 ops.toList).drop n).map Prod.snd:=zWb h1
    rwa [z9b,aV] at this
   unfold uZ;rw[htails _ hmem]
  ·rfl
 have hinl:jB E ostore=false:=by unfold jB;rw[hop]
 have hnx:ru E ostore an=an:=by simp[ru,hinl]
 have hev1:∀ (l:List (Nat×Oper)) (s:St) (K:St->Option R),Ap E an l s ostore K=qf E s ostore K:=λl s K=>by simp[Ap,hinl]
 have hsg:∀ s,lz E s n ostore ((aJ 0 ops.toList).drop (n+1))=false:=λs=>by simp[lz,hseg]
 simp only[dS,hgd,hsg,hnx,hev1,zwa,if_false] at q2;have hlkn:jF s' ostore=false:=by unfold jF;rw[hdst]
 rw[if_neg (by rw[hlkn];simp)] at q2
 unfold qf at q2;rw[hop] at q2;simp only at q2;have keep:∀ (c kk:Nat) (s s':St),iP (mG E ops n ido) ops c kk s=some s'->s'.ob=s.ob/\Sm s s':=by
  intro c
  induction c with
  | zero=>intro kk s s' hs;simp only[iP,zca] at hs;subst hs;exact⟨rfl,Sm.refl s⟩
  | succ c ih=>
   intro kk s s' hs;simp only[iP] at hs;obtain⟨v,h1,h2⟩:=bind_some_inv hs;obtain⟨m2,m3⟩:=ih _ _ _ h2;have pf:=St.put_fields s ((ops[kk]?).bind (·.dst)) v;exact⟨m2.trans pf.1,(Sm.put s _ v).trans m3⟩
 obtain⟨c2,c3⟩:=keep n 0 s s' q1;cases hfn:E.fnT T with
 | true=>
  rw[hfn,show s'.opA (.tmp p)=.ptr t0 ido [] from hptr] at q2;simp only[cond_true] at q2;split at q2<;>first|(cases q2;done)|skip
  rename_i e;cases e;exact absurd rfl htf
 | false=>
 rw[hfn] at q2;simp only[cond_false] at q2;obtain⟨t,hT,q3⟩:=bind_some_inv q2;rw[show s'.opA (.tmp p)=.ptr t0 ido [] from hptr] at q3;simp only at q3;split at q3<;>first|(cases q3;done)|skip
 rename_i hcond;simp only[zaa,zFa] at hcond;obtain⟨⟨d1,d2⟩,d3⟩:=hcond;split at q3<;>first|(cases q3;done)|skip
 ·rename_i u v0 hobs;obtain⟨v1,hv1⟩:∃ v1,s'.opA (.tmp x)=v1:=⟨_,rfl⟩;rw[hv1] at q3 d2;have q4:dS E N' R ops an ((aJ 0 ops.toList).drop (n+1)) (s'.setOb ido (some (.one u v1))) k=some r:=by
   cases v0<;>simpa only[AZ] using q3
  clear q3 q2;have hW:kM .any ops (n+1):=by
   intro listed i inv hin hun t ht hr;simp only[zCb,decide_eq_true_eq,zaa] at l7;rcases l7 with l7|⟨⟨l7,l8⟩,l9⟩
   ·obtain⟨_,o,ho,_⟩:=mem_ready.1 hr;have:=(zfa.1 ho).1;omega
   ·exact tail_waits l8 l9 l7 inv _ i rfl hin hun t ht hr
  refine wpIn_region_any hE.mixed ?_;have hg:∃ os d,w.drawn<=d/\({ w with drawn:=w.drawn+1 }:World)=grown w os d:=⟨[],w.drawn+1,ztc _,by simp[grown]⟩
  obtain⟨os,d,hdr,hg⟩:=hg;obtain⟨g1,g2⟩:=h.grow (os:=os) (d:=d) hdr (S':=S) (λ_ _ hb=>hb) (λ_ _ hb=>.inl hb);rw[hg];have inv0:HeadInv .any ops (n+1) (Array.replicate ops.size false):=
   ⟨by simp,λj oj _ hl=>(by rw[getD_replicate_false] at hl;cases hl),λt _ ht=>getD_in (by simpa using ht) (getD_replicate_false _ _)⟩
  have hseq:iP (mG E ops n ido) ops (n+1) 0 s=some s':=by
   rw[zz n 1 0,q1,zba];simp only[iP,mG,z6a,if_true,zba,hn,hdst];rfl
  have H:=pw (sF:=s') (Fx (E:=E) (ops:=ops) n ido) (by omega) hW (n+1) 0 (Array.replicate ops.size false) s (by omega) inv0 (λi hi=>by omega) l6 hseq
  have e0:oS n ido (.one u v1) (Array.replicate ops.size false) s=s:=by unfold oS;rw[getD_replicate_false];rfl
  have hdl:(ops.toList.drop (n+1)).length=ops.size-(n+1):=by simp
  have hsub0:∀ j oj,ops[j]?=some oj->(Array.replicate ops.size false).getD j true=false->Fr E (oS n ido (.one u v1) (Array.replicate ops.size false) s) γ β oj:=λj oj hj _=>by
   rw[e0];exact hf oj (zJb.2 (z5b hj))
  have:=ks (ro:=ro) (nn:=nn) (w0:=w0) (Q:=Q) (g:=ops.size-(n+1)) (s0:=s) (S0:=S) (γ0:=γ) (a0:=a) (w1:=grown w os d) hE hn hop hdst hgd hp hx hheads hT hfn d1 d2 (by rw[<-c3.lkO];exact d3) (by rw[<-c2];exact hobs) (λi j oi oj hij hi hj d hd=>gj hm1 hij (by rw[zya];exact hi) (by rw[zya];exact hj) d hd)
   (λlisted s2 hL=>by
    obtain⟨_,hl,rfl⟩:=hL;exact⟨hptr,hv1,hl n (by omega)⟩)
   (λlisted s2 S2 γ2 β2 a2 w2 m1 m2 m3 m4 m5=>by
    obtain⟨m5,m6,m7⟩:=m5;subst m7;have hseq:=fB (F:=FW ro) (n:=nn) (P:=P) (md:=.any) (ops:=ops) (Q':=Q) (ops.toList.drop (n+1)) (n+1) listed a2 w2 (λj=>by rw[zfb,zya]) (by rw[hdl];exact m5) ?_
    ·rwa [hdl] at hseq
    have hunl:∀ j oj,ops[j]?=some oj->n+1<=j->listed.getD j true=false:=by
     intro j oj hj hnj;have key:∀ (g k:Nat) (listed:Array Bool),Region.seqB .any ops g k listed=true->∀ j,k<=j->j<k+g->listed.getD j true=false:=by
      intro g
      induction g with
      | zero=>intro k listed _ j h1 h2;omega
      | succ g ih=>
       intro k listed hB j h1 h2;simp only[Region.seqB,zaa,decide_eq_true_eq] at hB;by_cases hjk:j=k
       ·subst hjk;have:j∈Region.ready .any ops listed:=by rw[hB.1];simp
        exact(mem_ready.1 this).1
       ·have:=ih (k+1) _ hB.2 j (by omega) (by omega)
        rwa [getD_set_ne true (Ne.symm hjk)] at this
     have hjlt:=(zfa.1 hj).1;exact key _ _ _ m5 j hnj (by omega)
    have fin:=sB (ro:=ro) (nn:=nn) (ops:=ops) hE (Q:=Q) hstores N' R ((aJ 0 ops.toList).drop (n+1)) k r an m1 (by
      rw[z9b,aV];intro o ho;obtain⟨i,hi,he⟩:=zRa ho;have hi2:ops[n+1+i]?=some o:=by
       have:(ops.toList.drop (n+1))[i]?=some o:=by rw[zda hi,he]
       rwa [zfb,zya] at this
      exact m4 (n+1+i) o hi2 (hunl _ _ hi2 (by omega)))
     (by
      rw[z9b,aV];intro A B o o' e ho d hd;exact dL hm1 (ops.toList.take (n+1)++A) B o o' (by rw[zEa,<-e,zpa]) ho d hd)
     (λp hp=>iu (zIb hp)) q4 (λs3 S3 γ3 β3 a3 w3 n1 n2 n3 n4=>by
      refine hQ s3 S3 γ3 β3 a3 w3 n1 ?_ (Sk.trans (m3.trans (Sm.setOb _ ido (some (.one u v1)))).sk n3) n4;have f0:Fm s S γ a w S γ a (grown w os d):=⟨λ_ _ hb=>hb,g2.cell,λ_ _=>rfl,λid hid b hb=>⟨hb,.inl (ct (h.γn id b hb).2)⟩,by simp,λ_ _ hb=>hb,jW.same rfl cJ.grown⟩
      exact(f0.trans m2 rfl rfl).trans n2 (show _=_ from m3.lkS) (show _=_ from m3.lkO))
    rwa [z9b,aV] at fin)
   (n+1) (Array.replicate ops.size false) s S γ β a (grown w os d) (by rw[e0];exact g1) (Fm.refl _ _ _ _ _) (Sm.refl s) rfl (λhl=>by rw[getD_replicate_false] at hl;cases hl) hsub0 H
  rw[show n+1+(ops.size-(n+1))=ops.size by omega] at this
  exact this
end
end Sy
end
noncomputable section
namespace Sy
open Go
variable{ro:Option Nat}{nn:Nat}
section
variable{E:Env}{ops:Array Oper}
def zO(E:Env)(ops:Array Oper)(m i:Nat)(s:St):Option AV:=match ops[i]? with
 | none=>none
 | some o=>if jF s o then none else if i=m then(nK E s o).map Prod.fst else qv E s o some
def z8{s s':St}{o:Oper}(hob:s'.ob=s.ob)(hf:s'.fresh=s.fresh)(hd:s'.dead=s.dead)(h:∀ x∈o.op.operands,s'.opA x=s.opA x):nK E s' o=nK E s o:=by
 unfold nK xN;obtain⟨dst,op,ty,pos,after,guard⟩:=o;cases op<;>try rfl
 rename_i c;obtain⟨callee,args,argTypes⟩:=c;cases callee<;>try rfl
 rename_i b;cases b<;>try rfl
 simp only;cases hT:argTypes[0]? with
 | none=>rfl
 | some T=>
 simp only[zba];cases hL:E.L T with
 | none=>rfl
 | some t=>
 simp only[zba];cases dst with
 | none=>rfl
 | some d=>
 simp only[zba];split
 ·rename_i e x y T0 T' hargs htys;have hx:s'.opA x=s.opA x:=h x (by
   show x∈(Op.call ⟨.builtin .append,args,argTypes⟩).operands;have e:(Op.call ⟨.builtin .append,args,argTypes⟩).operands=args:=by first|rfl|simp[Op.operands,Call.operands]
   rw[e,<-zJb,hargs];simp)
  have hy:s'.opA y=s.opA y:=h y (by
   show y∈(Op.call ⟨.builtin .append,args,argTypes⟩).operands;have e:(Op.call ⟨.builtin .append,args,argTypes⟩).operands=args:=by first|rfl|simp[Op.operands,Call.operands]
   rw[e,<-zJb,hargs];simp)
  simp_all [St.base]
 ·rfl
def JQ(m:Nat):O4 (zO E ops m) ops:=by
 intro i oi hi s d v h;obtain⟨p1,p2,p3,p4,p5,p6,p7⟩:=St.put_fields s d v;have e1:jF (s.put d v) oi=jF s oi:=by simp only[jF,p5]
 have hx:∀ x∈oi.op.operands,∀ t,d=some t->x≠.tmp t:=λx hx t ht e=>h t ht (by
  subst e;exact List.mem_append_left _ (zxc.2 ⟨.tmp t,by simpa using hx,rfl⟩))
 have e2:qv E (s.put d v) oi some=qv E s oi some:=ls p1 p2 λx hm=>lW (hx x hm);have e3:nK E (s.put d v) oi=nK E s oi:=z8 p1 p2 p3 λx hm=>lW (hx x hm);unfold zO
 simp_all
def zZ{R:Type}{s:St}{o:Oper}{K:AV×List Nat->Option R}{r:R}(h:xN E s o K=some r):∃ v,nK E s o=some v/\K v=some r:=by
 unfold xN at h;obtain⟨dst,op,ty,pos,after,guard⟩:=o;cases op<;>first|(cases h;done)|skip
 rename_i c;obtain⟨callee,args,argTypes⟩:=c;cases callee<;>first|(cases h;done)|skip
 rename_i b;cases b<;>first|(cases h;done)|skip
 simp only at h;replace h:=bind_some_inv h;obtain⟨T,hT,h⟩:=h;replace h:=bind_some_inv h;obtain⟨t,ht,h⟩:=h;replace h:=bind_some_inv h;obtain⟨d,hd,h⟩:=h;split at h<;>first|(cases h;done)|skip
 rename_i e x y T0 T' hargs htys;split at h<;>first|(cases h;done)|skip
 rename_i e2 ht2;replace h:=bind_some_inv h;obtain⟨l',hl',h⟩:=h;unfold nK xN;simp only[hT,ht,hd,hargs,htys,ht2,hl',zba];all_goals grind
def IU{R:Type}{s:St}{o:Oper}{v:AV}{D:List Nat}(h:nK E s o=some (v,D))(K:St->Option R):qf E s o K=K (({ s with dead:=D }:St).put o.dst v):=by
 unfold nK xN at h;obtain⟨dst,op,ty,pos,after,guard⟩:=o;cases op<;>first|(cases h;done)|skip
 rename_i c;obtain⟨callee,args,argTypes⟩:=c;cases callee<;>first|(cases h;done)|skip
 rename_i b;cases b<;>first|(cases h;done)|skip
 simp only at h;replace h:=bind_some_inv h;obtain⟨T,hT,h⟩:=h;replace h:=bind_some_inv h;obtain⟨t,ht,h⟩:=h;replace h:=bind_some_inv h;obtain⟨d,hd,h⟩:=h;split at h<;>first|(cases h;done)|skip
 rename_i e x y T0 T' hargs htys;split at h<;>first|(cases h;done)|skip
 rename_i e2 ht2;replace h:=bind_some_inv h;obtain⟨l',hl',h⟩:=h;unfold qf;simp only[hT,ht,hd,hargs,htys,ht2,hl',zba];split at h<;>first|(cases h;done)|skip
 ·simp_all
 ·rename_i hx;split at h<;>first|(cases h;done)|skip
  rename_i hlen;cases h
  simp_all
def CG{s:St}{dst:Option Nat}{args:Array Operand}{argTypes:Array TypeId}{ty:TypeId}{pos:String}{after:Array Edge}{guard:Option (Nat×Bool)}{v:AV}{D:List Nat}{p:Nat}{y:Operand}(h:nK E s ⟨dst,.call ⟨.builtin .append,args,argTypes⟩,ty,pos,after,guard⟩=some (v,D))(hargs:args.toList=[.tmp p,y]):D=lg s p:=by
 unfold nK xN at h;simp only at h;replace h:=bind_some_inv h;obtain⟨T,hT,h⟩:=h;replace h:=bind_some_inv h;obtain⟨t,ht,h⟩:=h;replace h:=bind_some_inv h;obtain⟨d,hd,h⟩:=h;split at h<;>first|(cases h;done)|skip
 rename_i e x y' T0 T' hargs' htys;rw[hargs] at hargs';cases hargs';split at h<;>first|(cases h;done)|skip
 replace h:=bind_some_inv h;obtain⟨l',hl',h⟩:=h;have ho:s.opA (.tmp p)=s.tm p:=rfl;all_goals grind [lg]
theorem wG{R:Type}{m:Nat}{K:St->Option R}{r:R}:∀ (c k:Nat) (s:St),Kc E ops m c k s K=some r->∃ s',iP (zO E ops m) ops c k s=some s'/\K s'=some r
 | 0,k,s,h=>⟨s,rfl,h⟩
 | c+1,k,s,h=>by
  simp only[Kc] at h;cases ho:ops[k]? with
  | none=>rw[ho] at h;cases h
  | some o=>
   rw[ho] at h;simp only at h;split at h<;>first|(cases h;done)|skip
   rename_i hlk;split at h
   ·rename_i hkm;obtain⟨v,h1,h2⟩:=zZ h;obtain⟨s',h3,h4⟩:=wG c (k+1) _ h2
    simp_all [iP,zO,zkb,zba]
   ·rename_i hkm;obtain⟨v,h1,h2⟩:=ft h;obtain⟨s',h3,h4⟩:=wG c (k+1) _ h2
    simp_all [iP,zO,zba]
def fo(m:Nat)(D:List Nat)(listed:Array Bool)(s:St):St:=if listed.getD m false then{ s with dead:=D } else s
def yg(s:St)(d:Option Nat)(v:AV)(D:List Nat):({ s with dead:=D }:St).put d v={ s.put d v with dead:=D }:=by
 cases d with
 | none=>rfl
 | some d=>
  all_goals grind [St.put]
def yH(m:Nat)(D:List Nat)(listed:Array Bool)(s:St):(fo m D listed s).ob=s.ob/\(fo m D listed s).fresh=s.fresh/\(fo m D listed s).lkS=s.lkS/\(fo m D listed s).lkO=s.lkO/\(fo m D listed s).nt=s.nt/\(fo m D listed s).tm=s.tm:=by
 grind [fo]
def At{V:Nat->St->Option AV}{md:Region.Mode}{n:Nat}{L:Array Bool->St->Prop}{T:List Nat}:∀ (f:Nat) (listed:Array Bool) (s:St),n7 V md ops n L f listed s ->
  (∀ t∈T,∀ j oj,ops[j]?=some oj->listed.getD j true=false->oj.dst≠some t)->∃ listed' s',L listed' s'/\(∀ t∈T,s'.tm t=s.tm t)
 | f,listed,s,h,hT=>by
  obtain⟨l',s',m1,m2,_⟩:=pu f listed s h hT;grind
end
section
variable{P:Program}{E:Env}{w0:Root}{ops:Array Oper}
theorem mn(hE:EnvOk P E){n m g p:Nat}{tp:AV}{D:List Nat}{y:Operand}{dst:Option Nat}{args:Array Operand}{argTypes:Array TypeId}{ty:TypeId}{pos:String}{after:Array Edge}{L:Array Bool->St->Prop}{Q:Exit->Act->World->Prop}{s0:St}{S0:Nat->Nat->Prop}{γ0:Nat->Option Nat}{a0:Act}{w1:World}
  (hm:ops[m]?=some ⟨dst,.call ⟨.builtin .append,args,argTypes⟩,ty,pos,after,none⟩) (hargs:args.toList=[.tmp p,y])
  (hp:∀ (j:Nat) (oj:Oper),ops[j]?=some oj->oj.dst=some p->Region.waitsFor .any ops m j=true)
  (hheads:∀ (j:Nat) (oj:Oper),j<n->ops[j]?=some oj->oj.guard=none)
  (hD:∀ s:St,s.tm p=tp->s.dead=s0.dead->lg s p=D)
  (hd:∀ (i j:Nat) (oi oj:Oper),i≠j->ops[i]?=some oi->ops[j]?=some oj->∀ d,oj.dst=some d->oi.dst≠some d)
  (hLs:∀ listed s,L listed s->s.tm p=tp/\listed.getD m false=true)
  (hL:∀ listed s S γ β a w,Rp w0 S γ β { s with dead:=D } a w->Fm s0 S0 γ0 a0 w1 S γ a w->Sm s0 s->(∀ j oj,ops[j]?=some oj->listed.getD j true=false->Fr E { s with dead:=D } γ β oj)->L listed s->wpAnyIn (FW ro) nn P .any ops Q g listed a w) :
  ∀ (f:Nat) (listed:Array Bool) (s:St) (S:Nat->Nat->Prop) (γ:Nat->Option Nat) (β:Nat->Option (Nat×Nat)) (a:Act) (w:World),Rp w0 S γ β (fo m D listed s) a w->Fm s0 S0 γ0 a0 w1 S γ a w->Sm s0 s->s.dead=s0.dead ->
   (∀ j oj,ops[j]?=some oj->listed.getD j true=false->Fr E (fo m D listed s) γ β oj)->n7 (zO E ops m) .any ops n L f listed s->wpAnyIn (FW ro) nn P .any ops Q (f+g) listed a w
 | 0,listed,s,S,γ,β,a,w,h,hF,hS,hdd,hfr,hh=>by
  rw[z6a];have hh':L listed s:=hh;grind [fo]
 | f+1,listed,s,S,γ,β,a,w,h,hF,hS,hdd,hfr,hh=>by
  rw[show f+1+g=(f+g)+1 by omega]
  refine⟨λh0=>absurd h0 hh.1,λi hi=>?_⟩;obtain⟨hin,hst⟩:=hh.2 i hi;have hun:=(mem_ready.1 hi).1;have unl:∀ j,(listed.setIfInBounds i true).getD j true=false->i≠j/\listed.getD j true=false:=λj hu=>by
   by_cases hij:i=j
   ·subst hij;exfalso;rcases zna i listed.size with hlt|hge
    ·simp[Array.getD,hlt] at hu
    ·simp[Array.getD,zwc.2 hge] at hu
   ·rw[getD_set_ne true hij] at hu;exact⟨hij,hu⟩
  have hsz:i<listed.size:=by
   rcases zna i listed.size with hlt|hge
   ·exact hlt
   ·simp[Array.getD,zwc.2 hge] at hun
  obtain⟨_,o,ho,hall⟩:=mem_ready.1 hi;unfold qz at hst;rw[ho] at hst;simp only at hst;obtain⟨v,hv,hst⟩:=hst;unfold zO at hv;rw[ho] at hv;simp only at hv;split at hv<;>first|(cases hv;done)|skip
  rename_i hlko;have pf:=St.put_fields s o.dst v;obtain⟨z1,z2,z3,z4,z5,z6⟩:=yH m D listed s;have smL:Sm s0 (fo m D listed s):=⟨z3.trans hS.lkS,z4.trans hS.lkO,z2.trans hS.fresh,z5.trans hS.nt⟩;have hlk':∀ t∈(fo m D listed s).lkS,o.dst≠some t:=λt ht e=>hlko (by
   rw[z3] at ht;simp[jF,e];exact ht)
  by_cases hmi:i=m
  ·
   subst hmi;rw[if_pos rfl] at hv;rw[hm] at ho;cases ho;have hlf:=getD_both hun;have e0:fo i D listed s=s:=by unfold fo;rw[hlf];rfl
   have hv2:∃ D',nK E s ⟨dst,.call ⟨.builtin .append,args,argTypes⟩,ty,pos,after,none⟩=some (v,D'):=by
    cases ha:nK E s ⟨dst,.call ⟨.builtin .append,args,argTypes⟩,ty,pos,after,none⟩ with
    | none=>rw[ha] at hv;cases hv
    | some q=>rw[ha] at hv;obtain⟨q1,q2⟩:=q;cases hv;exact⟨q2,rfl⟩
   obtain⟨D',hv2⟩:=hv2;have hdp:dst≠some p:=λe=>by
    have hw:=hp i _ hm e;obtain⟨ow,how,e',he,hb,hon⟩:=Region.waitsFor_spec hw;rw[hm] at how;cases how;have h1:=hall e' he hb;rw[hon] at h1;rw[hlf] at h1;cases h1
   obtain⟨l',s',m1,m2⟩:=At (T:=[p]) f _ _ hst (λt ht j oj hj hu=>by
    simp only[zva,zUb,or_false] at ht;subst ht;intro hdj;have hw:=hp j oj hj hdj;obtain⟨ow,how,e,he,hb,hon⟩:=Region.waitsFor_spec hw;rw[hm] at how;cases how;have h1:=hall e he hb;rw[hon] at h1;obtain⟨_,hu'⟩:=unl j hu;rw[getD_both hu'] at h1;cases h1)
   have z7:=(hLs _ _ m1).1;rw[m2 p (by simp),to hdp] at z7
   have eD:D'=D:=(CG hv2 hargs).trans (hD s z7 hdd);subst eD;rw[e0] at h hlk';obtain⟨s1,k1,k2⟩:=wE hE h (e0 ▸ hfr i _ hm hun) (λT t _ ht=>hE.flat T t ht) hlk' (λ_ _ _ e=>by cases e) (K:=some) (r:=(({ s with dead:=D' }:St).put dst v)) (by rw[IU hv2])
   cases k1;obtain⟨r1,r2,r3,r4,r5,r6⟩:=k2;unfold wpOpIn;rw[hm];simp only;rw[if_pos (by simp[Region.wanted])]
   refine(bf r6 λval w' ⟨S',γ',β',m1,m2,m3⟩=>?_);have el:fo i D' (listed.setIfInBounds i true) (s.put dst v)=({ s with dead:=D' }:St).put dst v:=by
    unfold fo;rw[if_pos (by simp[hsz])]
    exact(yg s dst v D').symm
   refine mn hE hm hargs hp hheads hD hd hLs hL f _ _ S' γ' β' _ _ (by rw[el];exact m1) (hF.trans m2 hS.lkS hS.lkO) (hS.trans (Sm.put s dst v)) (pf.2.2.1.trans hdd) (λj oj hj hu=>?_) hst
   rw[el];obtain⟨hij,hu'⟩:=unl j hu;exact(e0 ▸ hfr j oj hj hu':Fr E s γ β oj).keep (o:=⟨dst,.call ⟨.builtin .append,args,argTypes⟩,ty,pos,after,none⟩) (λd hdj=>hd i j _ oj hij hm hj d hdj) r3 r5 m3
  ·
   rw[if_neg hmi] at hv;have hog:=hheads i o hin ho;have hval:val E ops (fo m D listed s) o=some v:=by
    have e1:jF (fo m D listed s) o=jF s o:=by simp only[jF,z3]
    have e2:qv E (fo m D listed s) o some=qv E s o some:=ls z1 z2 λx _=>by
     cases x<;>simp only[St.opA,z6]
    unfold val;rw[e1,if_neg hlko,hog,e2];exact hv
   have el:(fo m D listed s).put o.dst v=fo m D (listed.setIfInBounds i true) (s.put o.dst v):=by
    unfold fo;rw[getD_set_ne false hmi];split
    ·rw[yg]
    ·rfl
   obtain⟨k1,k2⟩:=xB hE h (hfr i o ho hun) hval;have pl:=St.put_fields (fo m D listed s) o.dst v;have frn:∀ {γ':Nat->Option Nat} {β':Nat->Option (Nat×Nat)},(∀ id':Nat,o.dst≠some (id'-(fo m D listed s).base)\/id'<(fo m D listed s).base->γ' id'=γ id'/\β' id'=β id')->∀ j oj,ops[j]?=some oj->(listed.setIfInBounds i true).getD j true=false->Fr E (fo m D (listed.setIfInBounds i true) (s.put o.dst v)) γ' β' oj:=λhk j oj hj hu=>by
    obtain⟨hij,hu'⟩:=unl j hu;rw[<-el];exact(hfr j oj hj hu').keep (λd hdj=>hd i j o oj hij ho hj d hdj) pl.2.1 (λid' _ _=>by rw[pl.1]) hk
   unfold wpOpIn;rw[ho];simp only;split
   ·rename_i hw;refine(bf (k1 hw) λu' w' ⟨S',γ',β',m1,m2,m3⟩=>?_);exact mn hE hm hargs hp hheads hD hd hLs hL f _ _ S' γ' β' _ _ (el ▸ m1) (hF.trans m2 smL.lkS smL.lkO) (hS.trans (Sm.put s o.dst v)) (pf.2.2.1.trans hdd) (frn m3) hst
   ·rename_i hw;obtain⟨m1,m2⟩:=k2 (by simpa using hw)
    refine⟨λ_ _=>trivial,?_⟩;exact mn hE hm hargs hp hheads hD hd hLs hL f _ _ S γ β _ _ (el ▸ m1) (hF.trans m2 smL.lkS smL.lkO) (hS.trans (Sm.put s o.dst v)) (pf.2.2.1.trans hdd) (frn λid _=>⟨rfl,rfl⟩) hst
def ut(hE:EnvOk P E){id:Nat}{n m:Nat}{Q:Exit->Act->World->Prop}{S:Nat->Nat->Prop}{γ:Nat->Option Nat}{β:Nat->Option (Nat×Nat)}{s:St}{a:Act}{w:World}{R:Type}{k:St->Option R}{r:R}{N:Nat}
  (h:Rp w0 S γ β s a w) (hf:CD E s γ β ops.toList) (hmk:bL ops.toList=true) (hap:xO E ops n m=true) {an:Ann}
  (hev:Kc E ops m n 0 s (λs2=>dS E N R ops an ((aJ 0 ops.toList).drop n) { s2 with dead:=lg s2 (CF ops m) } k)=some r)
  (hQ:∀ s' S' γ' β' a' w',Rp w0 S' γ' β' s' a' w'->Fm s S γ a w S' γ' a' w'->Sk s s'->k s'=some r->Q .normal a' w'):(Code.region id ops true).wpIn (FW ro) nn P Q a w:=by
 simp only[bL,zaa] at hmk;obtain⟨⟨hm1,hm2⟩,hm3⟩:=hmk;have hstores:(ops.toList.all λo=>match o.op with|.store ..=>o.dst.isNone|_=>true)=true:=hm3
 unfold xO at hap;split at hap<;>first|(cases hap;done)|skip
 rename_i oa hoa;split at hap<;>first|(cases hap;done)|skip
 rename_i c hop;split at hap<;>first|(cases hap;done)|skip
 rename_i p y hcal hargs;simp only[zaa,decide_eq_true_eq] at hap;obtain⟨⟨⟨⟨⟨⟨l1,l2⟩,l3⟩,l4⟩,l5⟩,l6⟩,l7⟩:=hap;have heads:∀ j,j<n->∃ o,ops[j]?=some o/\o.guard=none:=λj hj=>by
  have:=zka.1 l3 j (zNa.2 hj);split at this<;>first|(cases this;done)|skip
  rename_i o ho;simp only[zaa] at this;exact⟨o,ho,by simpa using this.1.2⟩
 have hn:n<=ops.size:=by
  rcases zna ops.size n with c|c
  ·obtain⟨o,ho,_⟩:=heads ops.size c;have:=(zfa.1 ho).1;omega
  ·exact c
 obtain⟨dst,op,ty,pos,after,guard⟩:=oa;have hg0:guard=none:=by
  obtain⟨o,ho,hg⟩:=heads m l1;rw[hoa] at ho;cases ho;exact hg
 subst hg0;obtain⟨callee,args,argTypes⟩:=c;simp only at hop hcal hargs;subst hop;subst hcal;have hpeq:CF ops m=p:=by unfold CF;rw[hoa];simp only[hargs]
 rw[hpeq] at hev;have hp:∀ (j:Nat) (oj:Oper),ops[j]?=some oj->oj.dst=some p->Region.waitsFor .any ops m j=true:=λj oj hj e=>by
  have hjlt:=(zfa.1 hj).1;have:=zka.1 l2 j (zNa.2 hjlt);rw[hj,zba,e] at this;simpa using this
 have hheads:∀ (j:Nat) (oj:Oper),j<n->ops[j]?=some oj->oj.guard=none:=λj oj hjn hj=>by
  obtain⟨o,ho,hg⟩:=heads j hjn;rw[hj] at ho;cases ho;exact hg
 obtain⟨sF,q1,q2⟩:=wG n 0 s hev;have keep:∀ (c kk:Nat) (s s':St),iP (zO E ops m) ops c kk s=some s'->s'.dead=s.dead/\Sm s s':=by
  intro c
  induction c with
  | zero=>intro kk s s' hs;simp only[iP,zca] at hs;subst hs;exact⟨rfl,Sm.refl s⟩
  | succ c ih=>
   intro kk s s' hs;simp only[iP] at hs;obtain⟨v,h1,h2⟩:=bind_some_inv hs;obtain⟨m2,m3⟩:=ih _ _ _ h2;have pf:=St.put_fields s ((ops[kk]?).bind (·.dst)) v;exact⟨m2.trans pf.2.2.1,(Sm.put s _ v).trans m3⟩
 obtain⟨c2,c3⟩:=keep n 0 s sF q1;have hD:∀ s2:St,s2.tm p=sF.tm p->s2.dead=s.dead->lg s2 p=lg sF p:=λs2 e1 e2=>by
  unfold lg;rw[e1,e2,c2]
 generalize lg sF p=D at q2 hD;have hW:kM .any ops n:=by
  intro listed i inv hin hun t ht hr;simp only[zCb,decide_eq_true_eq,zaa] at l7;rcases l7 with l7|⟨⟨l7,l8⟩,l9⟩
  ·obtain⟨_,o,ho,_⟩:=mem_ready.1 hr;have:=(zfa.1 ho).1;omega
  ·exact tail_waits l8 l9 l7 inv _ i rfl hin hun t ht hr
 refine wpIn_region_any hE.mixed ?_;have hg:∃ os d,w.drawn<=d/\({ w with drawn:=w.drawn+1 }:World)=grown w os d:=⟨[],w.drawn+1,ztc _,by simp[grown]⟩
 obtain⟨os,d,hdr,hg⟩:=hg;obtain⟨g1,g2⟩:=h.grow (os:=os) (d:=d) hdr (S':=S) (λ_ _ hb=>hb) (λ_ _ hb=>.inl hb);rw[hg];have inv0:HeadInv .any ops n (Array.replicate ops.size false):=
  ⟨by simp,λj oj _ hl=>(by rw[getD_replicate_false] at hl;cases hl),λt _ ht=>getD_in (by simpa using ht) (getD_replicate_false _ _)⟩
 have H:=pw (sF:=sF) (JQ (E:=E) (ops:=ops) m) hn hW n 0 (Array.replicate ops.size false) s (by omega) inv0 (λi hi=>by omega) l6 q1
 have e0:fo m D (Array.replicate ops.size false) s=s:=by unfold fo;rw[getD_replicate_false];rfl
 have hdl:(ops.toList.drop n).length=ops.size-n:=by simp
 have hsub0:∀ j oj,ops[j]?=some oj->(Array.replicate ops.size false).getD j true=false->Fr E (fo m D (Array.replicate ops.size false) s) γ β oj:=λj oj hj _=>by
  rw[e0];exact hf oj (zJb.2 (z5b hj))
 have:=mn (ro:=ro) (nn:=nn) (w0:=w0) (Q:=Q) (g:=ops.size-n) (s0:=s) (S0:=S) (γ0:=γ) (a0:=a) (w1:=grown w os d) (tp:=sF.tm p) hE hoa hargs hp hheads hD (λi j oi oj hij hi hj d hd=>gj hm1 hij (by rw[zya];exact hi) (by rw[zya];exact hj) d hd)
  (λlisted s2 hL=>by
   obtain⟨_,hl,rfl⟩:=hL;exact⟨rfl,hl m l1⟩)
  (λlisted s2 S2 γ2 β2 a2 w2 m1 m2 m3 m4 m5=>by
   obtain⟨m5,m6,m7⟩:=m5;subst m7;have hseq:=fB (F:=FW ro) (n:=nn) (P:=P) (md:=.any) (ops:=ops) (Q':=Q) (ops.toList.drop n) n listed a2 w2 (λj=>by rw[zfb,zya]) (by rw[hdl];exact m5) ?_
   ·rwa [hdl] at hseq
   have hunl:∀ j oj,ops[j]?=some oj->n<=j->listed.getD j true=false:=by
    intro j oj hj hnj;have key:∀ (g k:Nat) (listed:Array Bool),Region.seqB .any ops g k listed=true->∀ j,k<=j->j<k+g->listed.getD j true=false:=by
     intro g
     induction g with
     | zero=>intro k listed _ j h1 h2;omega
     | succ g ih=>
      intro k listed hB j h1 h2;simp only[Region.seqB,zaa,decide_eq_true_eq] at hB;by_cases hjk:j=k
      ·subst hjk;have:j∈Region.ready .any ops listed:=by rw[hB.1];simp
       exact(mem_ready.1 this).1
      ·have:=ih (k+1) _ hB.2 j (by omega) (by omega)
       rwa [getD_set_ne true (Ne.symm hjk)] at this
    have hjlt:=(zfa.1 hj).1;exact key _ _ _ m5 j hnj (by omega)
   have fin:=sB (ro:=ro) (nn:=nn) (ops:=ops) hE (Q:=Q) hstores N R ((aJ 0 ops.toList).drop n) k r an m1 (by
     rw[z9b,aV];intro o ho;obtain⟨i,hi,he⟩:=zRa ho;have hi2:ops[n+i]?=some o:=by
      have:(ops.toList.drop n)[i]?=some o:=by rw[zda hi,he]
      rwa [zfb,zya] at this
     exact m4 (n+i) o hi2 (hunl _ _ hi2 (by omega)))
    (by
     rw[z9b,aV];intro A B o o' e ho d hd;exact dL hm1 (ops.toList.take n++A) B o o' (by rw[zEa,<-e,zpa]) ho d hd)
    (λp hp=>iu (zIb hp)) q2 (λs3 S3 γ3 β3 a3 w3 n1 n2 n3 n4=>by
     have smD:Sm s2 ({ s2 with dead:=D }:St):=⟨rfl,rfl,rfl,rfl⟩;refine hQ s3 S3 γ3 β3 a3 w3 n1 ?_ (Sk.trans (m3.trans smD).sk n3) n4;have f0:Fm s S γ a w S γ a (grown w os d):=⟨λ_ _ hb=>hb,g2.cell,λ_ _=>rfl,λid hid b hb=>⟨hb,.inl (ct (h.γn id b hb).2)⟩,by simp,λ_ _ hb=>hb,jW.same rfl cJ.grown⟩
     exact(f0.trans m2 rfl rfl).trans n2 (show _=_ from m3.lkS) (show _=_ from m3.lkO))
   rwa [z9b,aV] at fin)
  n (Array.replicate ops.size false) s S γ β a (grown w os d) (by rw[e0];exact g1) (Fm.refl _ _ _ _ _) (Sm.refl s) rfl hsub0 H
 rw[show n+(ops.size-n)=ops.size by omega] at this
 exact this
end
end Sy
end
noncomputable section
namespace Sy
open Go
variable{ro:Option Nat}{nn:Nat}
section
variable{ops:Array Oper}
theorem ml:∀ n,(tW ops n).length=n
 | 0=>rfl
 | n+1=>by simp[tW,ml n]
def pW(ops:Array Oper)(t:Nat):Nat:=match ops[t]? with
 | some o=>o.after.toList.foldl (λm e=>if Region.binds .any e&&decide (e.on<t) then(m ||| 2^e.on) ||| (tW ops t).getD e.on 0 else m) 0
 | none=>0
theorem mh{t:Nat}:∀ {n:Nat},t<n->(tW ops n).getD t 0=pW ops t
 | 0,h=>by omega
 | n+1,h=>by
  show(tW ops n++[pW ops n]).getD t 0=_;by_cases e:t=n
  ·subst e;rw[z5a,zub (by rw[ml];exact zha _),ml,z8c]
   rfl
  ·rw[z5a,zeb (by rw[ml];omega),<-z5a]
   exact mh (by omega)
theorem uV{t i:Nat}{l:List Nat}:∀ (es:List Edge) (m:Nat),Nat.testBit (es.foldl (λm e=>if Region.binds .any e&&decide (e.on<t) then(m ||| 2^e.on) ||| l.getD e.on 0 else m) m) i=true ->
  Nat.testBit m i=true\/∃ e∈es,Region.binds .any e=true/\e.on<t/\(e.on=i\/Nat.testBit (l.getD e.on 0) i=true)
 | [],m,h=>.inl h
 | e::es,m,h=>by
  simp only[zfc] at h;rcases uV es _ h with k|⟨e',h1,h2⟩
  ·grind
  ·grind
def kr{listed:Array Bool}(hcl:∀ j oj,ops[j]?=some oj->listed.getD j false=true->∀ e∈oj.after,Region.binds .any e=true->listed.getD e.on false=true) :
  ∀ (t:Nat) (o:Oper),ops[t]?=some o->(∀ e∈o.after,Region.binds .any e=true->listed.getD e.on false=true)->∀ i,Nat.testBit (pW ops t) i=true->listed.getD i false=true:=by
 intro t
 induction t using Nat.strongRecOn with
 | _ t ih=>
  intro o ho hd i hi;unfold pW at hi;rw[ho] at hi;simp only at hi;rcases uV _ _ hi with k|⟨e,h1,h2,h3,h4⟩
  ·simp at k
  ·grind [mh]
end
section
variable{E:Env}{ops:Array Oper}
theorem mH{i:Nat}{o:Oper}:∀ (f j0:Nat),lv E ops i o f j0=true->∀ j oj,j0<=j->j<j0+f->(∀ q oq,j0<=q->q<=j->ops[q]?=some oq->jv E oq=true)->ops[j]?=some oj->(∀ e∈oj.after,Region.binds .any e=true->e.on≠i)->o.apart ops oj=true
 | 0,j0,_,j,oj,h1,h2,_,_,_=>by omega
 | f+1,j0,h,j,oj,h1,h2,h3,h4,h5=>by
  have hlt:j0<ops.size:=by grind
  have h0:=zBb hlt;simp only[lv,h0] at h;rw[if_pos (h3 j0 _ (zha _) h1 h0)] at h;simp only[zaa,zCb] at h;by_cases e:j=j0
  ·grind
  ·exact mH f (j0+1) h.2 j oj (by omega) (by omega) (λq oq q1 q2=>h3 q oq (by omega) q2) h4 h5
def jN(h:gC E ops=true){i:Nat}{o:Oper}(ho:ops[i]?=some o) :
  (∀ e∈o.after,Region.binds .any e=true->e.on<i)/\(jv E o=true->lv E ops i o ops.size (i+1)=true) ∧
  (jv E o=false->(∀ j,j<i->Nat.testBit (pW ops i) j=true)/\∀ j,i<j->j<ops.size->Nat.testBit (pW ops j) i=true):=by
 have hi:=(zfa.1 ho).1;simp only[gC,zka,zNa] at h;have h1:=h i hi;rw[ho] at h1;simp only[zaa,zka,zCb,zFa,decide_eq_true_eq] at h1;refine⟨λe he hb=>?_,λhc=>?_,λhc=>⟨λj hj=>?_,λj hj hlt=>?_⟩⟩
 ·rcases h1.1 e (by simpa using he) with k|k
  ·rw[hb] at k;cases k
  ·exact k
 ·have:=h1.2;rw[if_pos hc] at this;exact this
 ·have:=h1.2;rw[if_neg (by simp[hc])] at this
  simp only[zka,zNa] at this;have h2:=this j (by omega)
  rw[if_pos hj,mh hi] at h2;exact h2
 ·have:=h1.2;rw[if_neg (by simp[hc])] at this
  simp only[zka,zNa] at this;have h2:=this j hlt;rw[if_neg (by omega),mh hlt] at h2
  simp only[zCb,decide_eq_true_eq] at h2;rcases h2 with h2|h2
  ·omega
  ·exact h2
structure Full(ops:Array Oper)(k:Nat)(listed:Array Bool):Prop where
 size:listed.size=ops.size
 done:∀ j,j<k->j<ops.size->listed.getD j false=true
 rest:∀ j,k<=j->j<ops.size->listed.getD j true=false
def Full.set{k:Nat}{listed:Array Bool}(h:Full ops k listed)(hk:k<ops.size):Full ops (k+1) (listed.setIfInBounds k true):=by
 refine⟨by simp[h.size],λj hj hlt=>?_,λj hj hlt=>?_⟩
 ·by_cases e:j=k
  ·simp_all [h.size]
  ·exact getD_set_true (h.done j (by omega) hlt)
 ·rw[getD_set_ne true (by omega)];exact h.rest j (by omega) hlt
def Full.inv{k n:Nat}{listed:Array Bool}(hr:gC E ops=true)(h:Full ops k listed)(hkn:k<=n):HeadInv .any ops n listed:=by
 refine⟨h.size,λj oj hj hl e he hb=>?_,λt ht hlt=>h.rest t (by omega) hlt⟩
 have hlt:=(zfa.1 hj).1;have h1:=(jN hr hj).1 e he hb;rcases zna j k with hk|hk
 ·exact h.done e.on (by omega) (by omega)
 ·have:=getD_both (h.rest j hk hlt)
  simp_all
theorem Full.ready{k:Nat}{listed:Array Bool}(hr:gC E ops=true)(h:Full ops k listed)(hk:k<ops.size):k∈Region.ready .any ops listed:=
 mem_ready.2 ⟨h.rest k (zha _) hk,_,zBb hk,λe he hb=>by
  have:=(jN hr (zBb hk)).1 e he hb;exact h.done e.on this (by omega)⟩
def Full.later{k:Nat}{listed:Array Bool}(h:Full ops k listed):∀ j∈Region.ready .any ops listed,k<=j:=by
 intro j hj;obtain⟨hun,o,ho,_⟩:=mem_ready.1 hj;have hlt:=(zfa.1 ho).1;rcases zna j k with hk|hk
 ·have:=h.done j hk hlt;grind
 ·exact hk
def DU(hr:gC E ops=true){n:Nat}{o:Oper}(ho:ops[n]?=some o)(hc:jv E o=false):kM .any ops n:=by
 intro listed i inv hin hun t ht hrd;have hn:=(zfa.1 ho).1;obtain⟨_,ot,hot,hdeps⟩:=mem_ready.1 hrd;have htlt:=(zfa.1 hot).1;have h3:=(jN hr ho).2.2 hc;rcases zna n t with h|h
 ·have h1:=kr inv.closed t ot hot hdeps n (h3.2 t h htlt);have h2:=inv.tail n (zha _) hn;grind
 ·have e:t=n:=by omega
  subst e;have h1:=kr inv.closed t ot hot hdeps i (h3.1 i hin);grind
def DV:kM .any ops ops.size:=λlisted i _ _ _ t ht hrd=>by
 obtain⟨_,ot,hot,_⟩:=mem_ready.1 hrd
 simp_all
def FS(hr:gC E ops=true){k:Nat}{o:Oper}{listed:Array Bool}(h:Full ops k listed)(ho:ops[k]?=some o)(hc:jv E o=false):∀ j∈Region.ready .any ops listed,j=k:=by
 intro j hj;have h1:=h.later j hj;obtain⟨_,oj,hoj,hdeps⟩:=mem_ready.1 hj;have hlt:=(zfa.1 hoj).1;rcases zna k j with h2|h2
 ·exfalso;have h3:=kr (h.inv hr (zha _)).closed j oj hoj hdeps k (((jN hr ho).2.2 hc).2 j h2 hlt);have h4:=h.rest k (zha _) (by omega)
  grind
 ·omega
def iC(E:Env)(ops:Array Oper):Nat->Nat->Nat
 | 0,k=>k
 | f+1,k=>match ops[k]? with
  | some o=>if jv E o then iC E ops f (k+1) else k
  | none=>k
theorem qu:∀ (f k:Nat),k+f=ops.size->k<=iC E ops f k/\iC E ops f k<=ops.size/\(∀ j oj,k<=j->j<iC E ops f k->ops[j]?=some oj->jv E oj=true)/\(iC E ops f k=ops.size\/∃ o,ops[iC E ops f k]?=some o/\jv E o=false)
 | 0,k,h=>⟨zha _,by simp only[iC];omega,λj oj h1 h2=>by simp only[iC] at h2;omega,.inl (by simpa [iC] using h)⟩
 | f+1,k,h=>by
  have hk:k<ops.size:=by omega
  have h0:=zBb hk;simp only[iC,h0];split
  ·rename_i hc;obtain⟨q1,q2,q3,q4⟩:=qu f (k+1) (by omega)
   all_goals grind
  ·grind
theorem yA(hr:gC E ops=true){n:Nat}{L:Array Bool->St->Prop}(hW:kM .any ops n)(hdone:∀ listed s,L listed s->∀ j∈Region.ready .any ops listed,n<=j)(hn:n<=ops.size) :
  ∀ (l:List Oper) (k:Nat) (listed:Array Bool) (s s':St),(∀ j,j<l.length->l[j]?=ops[k+j]?)->k+l.length=n->Full ops k listed->(∀ j oj,k<=j->j<n->ops[j]?=some oj->jv E oj=true) ->
  seqV E ops l s=some s'->(∀ listed',Full ops n listed'->L listed' s')->C4 E .any ops n L l.length listed s
 | [],k,listed,s,s',_,hk,hF,_,h,hL=>by
  have:k=n:=by simpa using hk
  subst this;simp only[seqV,zca] at h;subst h;exact hL listed hF
 | o::l,k,listed,s,s',hl,hk,hF,hcm,h,hL=>by
  have h0:ops[k]?=some o:=by simpa using(hl 0 (by simp)).symm
  have hkn:k<n:=by grind
  have hks:k<ops.size:=by omega
  simp only[seqV] at h;obtain⟨v,h1,h2⟩:=bind_some_inv h;refine sM h0 hW hkn hdone l.length listed s (hF.inv hr (zhc hkn)) (λj oj hjn hj hne hun hno=>?_) (hF.ready hr hks) h1
   (yA hr hW hdone hn l (k+1) _ _ s' (λj hj=>by have:=hl (j+1) (by simp;omega);simpa [zwb,zrc 1 j] using this) (by simp only[zza] at hk;omega) (hF.set hks) (λj oj h1=>hcm j oj (by omega)) h2 hL)
  have hjlt:=(zfa.1 hj).1;have hkj:k<j:=by
   rcases zna j k with h3|h3
   ·have:=hF.done j h3 hjlt;grind
   ·omega
  exact mH ops.size (k+1) ((jN hr h0).2.1 (hcm k o (zha _) hkn h0)) j oj (by omega) (by omega) (λq oq q1 q2=>hcm q oq (by omega) (by omega)) hj hno
end
section
variable{P:Program}{E:Env}{w0:Root}{ops:Array Oper}
def E8(hE:EnvOk P E){N:Nat}{R:Type}{i:Nat}{o:Oper}{l:List (Nat×Oper)}{S:Nat->Nat->Prop}{γ:Nat->Option Nat}{β:Nat->Option (Nat×Nat)}{s:St}{a:Act}{w:World}{k:St->Option R}{r:R}{an:Ann}
  (h:Rp w0 S γ β s a w) (hst:∀ T x y,o.op=.store T x y->o.dst=none) (hf:Fr E s γ β o) (hfl:CD E s γ β (l.map Prod.snd)) (hd:∀ o'∈l.map Prod.snd,∀ d,o'.dst=some d->o.dst≠some d) (hsg:o.guard=none->lz E s i o l=false)
  (hev:dS E (N+1) R ops an ((i,o)::l) s k=some r) {next:Act->World->Prop} {Q:Exit->Act->World->Prop}
  (hk:∀ u an' s' S' γ' β' w',dS E N R ops an' l s' k=some r->Rp w0 S' γ' β' s' (a.put o.dst u) w'->Fm s S γ a w S' γ' (a.put o.dst u) w'->Sk s s'->CD E s' γ' β' (l.map Prod.snd)->next (a.put o.dst u) w') :
  if Region.wanted o (yielded ops a.tmps) then o.wpIn (FW ro) nn P a w next Q else(∀ f,o.about P w a.eval=some f->(FW ro).fn f)/\next (a.put o.dst undef) w:=by
 have run:¬ jF s o=true->Ap E an l s o (λs'=>dS E N R ops (ru E o an) l s' k)=some r->o.wpIn (FW ro) nn P a w next Q:=by
  intro hlk he;have hlk':∀ t∈s.lkS,o.dst≠some t:=λt ht e=>hlk (by simp[jF,e];exact ht)
  unfold Ap at he;split at he
  ·split at he;rename_i hcr;refine wF (K:=λs1=>dS E N R ops (ru E o an) l s1 k) hE h hlk' he λu s' S' γ' β' w' m0 m1 m2 m3=>?_;exact hk u _ s' S' γ' β' w' m0 m1 m2 m3 λo' ho'=>by
    obtain⟨p,hp,rfl⟩:=z7a.1 ho';have:=zka.1 hcr p hp;exact Bh (by simpa using this)
   split at he<;>first|(cases he;done)|skip
   rename_i hna;refine wF (K:=λs1=>dS E N R ops (ru E o an) l (wj s1) k) hE h hlk' he λu s' S' γ' β' w' m0 m1 m2 m3=>?_;exact hk u _ (wj s') S' γ' β' w' m0 m1.later m2 ⟨m3.lkS,m3.lkO,m3.nt⟩ (Bu m1 hna hfl)
  obtain⟨s',h1,h2⟩:=wE hE h hf (λT t _ ht=>hE.flat T t ht) hlk' hst he;obtain⟨f1,f2,f3,f4,f5,f6⟩:=h2;refine bf f6 λu w' ⟨S',γ',β',m1,m2,m3⟩=>?_;exact hk u _ s' S' γ' β' w' h1 m1 m2 ⟨f1,f2,f4⟩ λo' ho'=>(hfl o' ho').keep (hd o' ho') f3 f5 m3
 obtain⟨w1,w2,w3⟩:=pX (ops:=ops) (o:=o) h;cases hg:o.guard with
 | some jw=>
  obtain⟨j,want⟩:=jw;simp only[dS,hg] at hev;split at hev<;>first|(cases hev;done)|skip
  rename_i g hgd;split at hev<;>first|(cases hev;done)|skip
  rename_i hlk;have hlk':∀ t∈s.lkS,o.dst≠some t:=λt ht e=>hlk (by simp[jF,e];exact ht)
  have p:=St.put_fields s o.dst .gone;have alt:(Region.wanted o (yielded ops a.tmps)=true/\(Ap E an l s o λs'=>dS E N R ops (ru E o an) l s' k)=some r)\/(Region.wanted o (yielded ops a.tmps)=false/\dS E N R ops (ru E o an) l (s.put o.dst .gone) k=some r):=by
   by_cases hgo:s.tm g=.gone
   ·rw[hgo,eW] at hev;exact .inr ⟨w3 j want g hg hgd hgo,hev⟩
   rw[eY hgo] at hev;obtain⟨c,h1,h2⟩:=bind_some_inv hev;replace h2:=kZ (A:=λs=>Ap E an l s o λs'=>dS E N R ops (ru E o an) l s' k) (B:=λs=>dS E N R ops (ru E o an) l (s.put o.dst .gone) k) h1 h2;have hw:=w2 j want g c hg hgd h1;split at h2
   ·rename_i hc;exact .inl ⟨by rw[hw];exact hc,h2⟩
   ·rename_i hc;exact .inr ⟨by rw[hw];simpa using hc,h2⟩
  rcases alt with⟨hw,h2⟩|⟨hw,h2⟩
  ·rw[if_pos hw];exact run hlk h2
  ·rw[if_neg (by simp[hw])]
   refine⟨λ_ _=>trivial,?_⟩;exact hk undef _ _ S γ β w h2 (h.put (v:=.gone) (val:=undef) (by simp[AR]) o.dst) ⟨λ_ _ hb=>hb,λ_ _ _=>rfl,λt ht=>bM (hlk' t ht),λ_ _ _ hb=>⟨hb,iN.refl _ _⟩,zha _,λ_ _ hb=>hb,jW.same bA (cJ.refl _)⟩ (Sm.put s o.dst .gone).sk
    λo' ho'=>(hfl o' ho').keep (hd o' ho') p.2.1 (λid _ _=>by rw[p.1]) λid _=>⟨rfl,rfl⟩
 | none=>
  rw[if_pos (w1 hg)];simp only[dS,hg,hsg hg,zwa,if_false] at hev;split at hev<;>first|(cases hev;done)|skip
  rename_i hlk;exact run hlk hev
theorem lm:∀ (l:List Oper) (i m:Nat),(aJ i l).drop m=aJ (i+m) (l.drop m)
 | l,i,0=>by simp
 | [],i,m+1=>by simp[aJ]
 | o::l,i,m+1=>by
  simp only[aJ,zPc];rw[lm l (i+1) m,show i+1+m=i+(m+1) by omega]
def q8{l:List Oper}{i m:Nat}{p:Nat×Oper}(h:p∈(aJ i l).take m):∃ j,j<m/\l[j]?=some p.2:=by
 obtain⟨j,hj,he⟩:=zRa h;have h1:((aJ i l).take m)[j]?=some p:=by grind
 have hjm:j<m:=by grind
 rw[zqb hjm] at h1;have h2:((aJ i l).map Prod.snd)[j]?=some p.2:=by rw[z8a,h1];rfl
 grind [aV]
def DH(hE:EnvOk P E)(hr:gC E ops=true)(hm1:cT (ops.toList.filterMap (·.dst))=true)(hst:∀ o∈ops.toList,∀ T x y,o.op=.store T x y->o.dst=none){Q:Exit->Act->World->Prop}{R:Type}{k:St->Option R}{r:R} :
  ∀ (g:Nat) (k0:Nat) (listed:Array Bool) (N:Nat) (an:Ann) {S:Nat->Nat->Prop} {γ:Nat->Option Nat} {β:Nat->Option (Nat×Nat)} {s:St} {a:Act} {w:World},k0+g=ops.size->Full ops k0 listed->Rp w0 S γ β s a w ->
   (∀ j oj,ops[j]?=some oj->k0<=j->Fr E s γ β oj)->dS E N R ops an (aJ k0 (ops.toList.drop k0)) s k=some r ->
   (∀ s' S' γ' β' a' w',Rp w0 S' γ' β' s' a' w'->Fm s S γ a w S' γ' a' w'->Sk s s'->k s'=some r->Q .normal a' w')->wpAnyIn (FW ro) nn P .any ops Q g listed a w:=by
 intro g
 induction g using Nat.strongRecOn with
 | _ g ih=>
 intro k0 listed N an S γ β s a w hkg hF h hfr hev hQ;cases g with
 | zero=>
  have hk:k0=ops.size:=by omega
  subst hk;rw[zgc (by simp)] at hev
  cases N with
  | zero=>simp[dS] at hev
  | succ N=>
   simp only[aJ,dS] at hev;refine⟨?_,hQ s S γ β a w h (Fm.refl _ _ _ _ _) (Sk.refl s) hev⟩;cases hrd:Region.ready .any ops listed with
   | nil=>rfl
   | cons j l=>
    exfalso;have hj:j∈Region.ready .any ops listed:=by rw[hrd];simp
    have h1:=hF.later j hj;obtain⟨_,o,ho,_⟩:=mem_ready.1 hj
    simp_all
 | succ g=>
 have hk0:k0<ops.size:=by omega
 have ho:=zBb hk0;obtain⟨o,hoe⟩:∃ o,o=ops[k0]:=⟨_,rfl⟩;rw[<-hoe] at ho;clear hoe;have hdr:ops.toList.drop k0=o::ops.toList.drop (k0+1):=by
  have hlt:k0<ops.toList.length:=by simpa using hk0
  rw[zob hlt]
  simp_all
 cases hc:jv E o with
 | false=>
  refine⟨λh0=>(by have:=hF.ready hr hk0;rw[h0] at this;cases this),λi hi=>?_⟩
  have hik:=FS hr hF ho hc i hi;subst hik;unfold wpOpIn;rw[ho];simp only;rw[hdr] at hev;simp only[aJ] at hev;cases N with
  | zero=>simp[dS] at hev
  | succ N=>
  have hmap:(aJ (i+1) (ops.toList.drop (i+1))).map Prod.snd=ops.toList.drop (i+1):=aV _ _;have hidx:∀ o'∈ops.toList.drop (i+1),∃ j,i<j/\ops[j]?=some o':=λo' ho'=>by
   obtain⟨j,hj,he⟩:=zRa ho';refine⟨i+1+j,by omega,?_⟩
   grind
  refine E8 hE h (hst o (zJb.2 (z5b ho))) (hfr i o ho (zha _)) (λo' ho'=>?_) (λo' ho' d hd=>?_) (λ_=>?_) hev λu an' s' S' γ' β' w' m0 m1 m2 m3 m4=>?_
  ·grind
  ·rw[hmap] at ho';obtain⟨j,hj,hoj⟩:=hidx o' ho';exact gj hm1 (show i≠j by omega) (by rw[zya];exact ho) (by rw[zya];exact hoj) d hd
  ·cases hsg:lz E s i o (aJ (i+1) (ops.toList.drop (i+1))) with
   | false=>rfl
   | true=>
    exfalso;simp only[lz,zaa] at hsg;have h2:=hsg.2;split at h2<;>first|(cases h2;done)|skip
    simp only[zaa,zFa] at h2;have h3:jv E o=true:=by simp[jv,h2.1.1.1.2,h2.1.1.2]
    rw[h3] at hc;cases hc
  ·refine ih g (zod _) (i+1) _ N an' (by omega) (hF.set hk0) m1 (λj oj hj hij=>m4 oj ?_) m0 λs2 S2 γ2 β2 a2 w2 n1 n2 n3 n4=>hQ s2 S2 γ2 β2 a2 w2 n1 (m2.trans n2 m3.lkS m3.lkO) (m3.trans n3) n4
   rw[hmap];refine z0a (i:=j-(i+1)) ?_;rw[zfb,zya,show i+1+(j-(i+1))=j by omega]
   exact hj
 | true=>
  obtain⟨m,hm⟩:∃ m,m=iC E ops (g+1) k0:=⟨_,rfl⟩;obtain⟨e1,e2,e3,e4⟩:=qu (E:=E) (ops:=ops) (g+1) k0 hkg;rw[<-hm] at e1 e2 e3 e4;have hkm:k0<m:=by
   rcases zna k0 m with q|q
   ·exact q
   ·exfalso;have:m=k0:=by omega
    rw[this] at e4;rcases e4 with e4|⟨o',q1,q2⟩
    ·omega
    ·rw[ho] at q1;cases q1;rw[hc] at q2;cases q2
  have hW:kM .any ops m:=by
   rcases e4 with e4|⟨o',q1,q2⟩
   ·rw[e4];exact DV
   ·exact DU hr q1 q2
  have hlen:(aJ k0 (ops.toList.drop k0)).length=ops.size-k0:=by rw[gb];simp
  have calmOf:∀ o',jv E o'=true->fP o'=true/\jB E o'=false:=λo' hc'=>by
   simp only[jv,zaa,zFa] at hc';exact hc'
  obtain⟨s',s'',N',q1,q2,q3⟩:=sA N R (aJ k0 (ops.toList.drop k0)) s k r (m-k0) an (by rw[hlen];omega) (λp hp=>by
    obtain⟨j,hj,hoj⟩:=q8 hp;rw[zfb,zya] at hoj;exact calmOf _ (e3 (k0+j) p.2 (by omega) (by omega) hoj)) (.inr λp q hpq=>by
    rw[lm,zzd,show k0+(m-k0)=m by omega] at hpq
    rcases e4 with e4|⟨o',z1,z2⟩
    ·rw[e4,zgc (by simp)] at hpq
     simp[aJ] at hpq
    ·have hmlt:=(zfa.1 z1).1;have:p.2=o':=by
      have h1:(aJ m (ops.toList.drop m)).map Prod.snd=ops.toList.drop m:=aV _ _;rw[hpq] at h1;have h2:(ops.toList.drop m)[0]?=some p.2:=by rw[<-h1];rfl
      rw[zfb,zya,zTb,z1] at h2;exact(zrd h2).symm
     rw[this];exact z2) hev
  rw[lm,zzd,show k0+(m-k0)=m by omega] at q3
  rw[List.map_take,aV] at q1;have hll:((ops.toList.drop k0).take (m-k0)).length=m-k0:=by simp;omega
  have H:=yA (E:=E) hr (n:=m) (L:=λlisted' s2=>Full ops m listed'/\s2=s') hW (λlisted' s2 hL=>hL.1.later) e2 ((ops.toList.drop k0).take (m-k0)) k0 listed s s' (λj hj=>by
   rw[hll] at hj;rw[zqb hj,zfb,zya]) (by rw[hll];omega) hF e3 q1 (λlisted' hF'=>⟨hF',rfl⟩)
  have:=gd (ro:=ro) (nn:=nn) (Q:=Q) (g:=ops.size-m) hE (s0:=s) (S0:=S) (γ0:=γ) (a0:=a) (w1:=w) (λi j oi oj hij hi hj d hd=>gj hm1 hij (by rw[zya];exact hi) (by rw[zya];exact hj) d hd)
   (λlisted' s2 S2 γ2 β2 a2 w2 m1 m2 m3 m4 m5=>by
    obtain⟨m5,m6⟩:=m5;subst m6;refine ih (ops.size-m) (by omega) m listed' N' an (by omega) m5 (m1.wk q2) (λj oj hj hmj=>?_) q3 λs3 S3 γ3 β3 a3 w3 n1 n2 n3 n4=>hQ s3 S3 γ3 β3 a3 w3 n1 (m2.trans n2 (q2.lkS.trans m3.lkS) (q2.lkO.trans m3.lkO)) ((m3.trans (Sm.wk q2)).sk.trans n3) n4
    have hjlt:=(zfa.1 hj).1;have:=m4 j oj hj (m5.rest j hmj hjlt);intro hc d hd;obtain⟨r1,r2,r3,r4⟩:=this hc d hd;rw[q2.base_eq,q2.ob];exact⟨r1,r2,r3,r4⟩)
   ((ops.toList.drop k0).take (m-k0)).length listed s S γ β a w h (Fm.refl _ _ _ _ _) (Sm.refl s) (λj oj hj hun=>by
    have hjlt:=(zfa.1 hj).1;refine hfr j oj hj ?_;rcases zna j k0 with q|q
    ·have:=hF.done j q hjlt;rw[getD_both hun] at this;cases this
    ·exact q) H
  rw[hll,show m-k0+(ops.size-m)=g+1 by omega] at this
  exact this
def tu(hE:EnvOk P E){id:Nat}{Q:Exit->Act->World->Prop}{S:Nat->Nat->Prop}{γ:Nat->Option Nat}{β:Nat->Option (Nat×Nat)}{s:St}{a:Act}{w:World}{R:Type}{k:St->Option R}{r:R}{N:Nat}
  (h:Rp w0 S γ β s a w) (hf:CD E s γ β ops.toList) (hm:bL ops.toList=true) (hr:gC E ops=true) {an:Ann} (hev:dS E N R ops an (aJ 0 ops.toList) s k=some r)
  (hQ:∀ s' S' γ' β' a' w',Rp w0 S' γ' β' s' a' w'->Fm s S γ a w S' γ' a' w'->Sk s s'->k s'=some r->Q .normal a' w'):(Code.region id ops true).wpIn (FW ro) nn P Q a w:=by
 simp only[bL,zaa] at hm;obtain⟨⟨hm1,_⟩,hm3⟩:=hm;have hstores:∀ o∈ops.toList,∀ T x y,o.op=.store T x y->o.dst=none:=λo ho T x y e=>by
  have:=zka.1 hm3 o ho;rw[e] at this;simpa using this
 refine wpIn_region_any hE.mixed ?_;have hg:({ w with drawn:=w.drawn+1 }:World)=grown w [] (w.drawn+1):=by simp[grown]
 obtain⟨g1,g2⟩:=h.grow (os:=[]) (d:=w.drawn+1) (ztc _) (S':=S) (λ_ _ hb=>hb) (λ_ _ hb=>.inl hb);rw[hg];have f0:Fm s S γ a w S γ a (grown w [] (w.drawn+1)):=⟨λ_ _ hb=>hb,g2.cell,λ_ _=>rfl,λid hid b hb=>⟨hb,.inl (ct (h.γn id b hb).2)⟩,by simp,λ_ _ hb=>hb,jW.same rfl cJ.grown⟩
 refine DH (ro:=ro) (nn:=nn) hE hr hm1 hstores ops.size 0 _ N an (by omega) ⟨by simp,λj hj=>by omega,λj _ hj=>getD_in (by simpa using hj) (getD_replicate_false _ _)⟩ g1 (λj oj hj _=>hf oj (zJb.2 (z5b hj))) (by simpa using hev) λs' S' γ' β' a' w' n1 n2 n3 n4=>hQ s' S' γ' β' a' w' n1 (f0.trans n2 rfl rfl) n3 n4
end
end Sy
end
end Go.Proofs.YtphlmegkommlnaaGreatDoor
