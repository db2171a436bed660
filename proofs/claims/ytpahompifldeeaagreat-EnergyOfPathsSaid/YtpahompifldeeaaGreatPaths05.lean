/- Part 5 of the proof that EnergyOfPaths answers true at every input -/
import Derived.Test.YtpahompifldeeaaGreatPaths04
set_option linter.unusedVariables false
set_option linter.unusedSimpArgs false
set_option linter.unnecessarySimpa false
set_option maxRecDepth 20000
namespace Go.Proofs.YtpahompifldeeaaGreat
noncomputable section
namespace Sy
open Go
def Gd(s:St):List (Nat×Sh)->Nat->List (Nat×Nat)
 | [],_=>[]
 | (t,h)::l,j=>Sh.tkp h (s.tm t) j++Gd s l (j+h.cnt)
def Cq(h:Sh)(o:Option Ob)(j:Nat):List (Nat×Nat):=match o with|some (.one _ v)=>Sh.tkp h v j|_=>[]
def sY(s:St):List (Nat×ShO)->Nat->List (Nat×Nat)
 | [],_=>[]
 | (id,.one _ h)::l,j=>Cq h (s.ob id) j++sY s l (j+h.cnt)
 | (_,.many _)::l,j=>sY s l (j+1)
 | (_,.mp ..)::l,j=>sY s l (j+1)
 | (_,.keep ..)::l,j=>sY s l j
 | (_,.lp ..)::l,j=>sY s l j
theorem ur(s:St):∀ (l:List (Nat×Sh)) (j:Nat),(Gd s l j).map Prod.snd=Shape.toksS s l
 | [],_=>rfl
 | (t,h)::l,j=>by simp only[Gd,Shape.toksS,List.map_append,ut,ur s l]
theorem jk(s:St):∀ (l:List (Nat×ShO)) (j:Nat),(sY s l j).map Prod.snd=Shape.toksO s l
 | [],_=>rfl
 | (id,.one t h)::l,j=>by
  simp only[sY,Shape.toksO,List.map_append,jk s l]
  congr 1
  unfold Cq
  split
  ·rename_i e;simp only[ut,e]
  ·rename_i e
   split
   ·rename_i u v e';exact absurd e' (e _ _)
   ·rfl
 | (_,.many _)::l,j=>by simp only[sY,Shape.toksO,jk s l]
 | (_,.mp ..)::l,j=>by simp only[sY,Shape.toksO,jk s l]
 | (_,.keep ..)::l,j=>by simp only[sY,Shape.toksO,jk s l]
 | (_,.lp ..)::l,j=>by simp only[sY,Shape.toksO,jk s l]
theorem Cr(s:St):∀ (l:List (Nat×Sh)) (j:Nat),Pl (Gd s l j) j (j+Shape.cntS l)
 | [],_=>Pl.nil _ _
 | (t,h)::l,j=>by
  simp only[Gd,Shape.cntS]
  rw[show j+(h.cnt+Shape.cntS l)=j+h.cnt+Shape.cntS l by omega]
  exact(xT h _ j).append (Cr s l _) (by omega) (by omega)
theorem FH(h:Sh)(o:Option Ob)(j:Nat):Pl (Cq h o j) j (j+h.cnt):=by
 unfold Cq
 split
 ·exact xT h _ j
 ·exact Pl.nil _ _
theorem nS(s:St):∀ (l:List (Nat×ShO)) (j:Nat),Pl (sY s l j) j (j+Shape.cntO l)
 | [],_=>Pl.nil _ _
 | (id,.one t h)::l,j=>by
  simp only[sY,Shape.cntO,ShO.cnt]
  rw[show j+(h.cnt+Shape.cntO l)=j+h.cnt+Shape.cntO l by omega]
  exact(FH h _ j).append (nS s l _) (by omega) (by omega)
 | (_,.many _)::l,j=>by
  simp only[sY,Shape.cntO,ShO.cnt]
  rw[show j+(1+Shape.cntO l)=j+1+Shape.cntO l by omega]
  exact(Pl.nil j (j+1)).append (nS s l _) (by omega) (by omega)
 | (_,.mp ..)::l,j=>by
  simp only[sY,Shape.cntO,ShO.cnt]
  rw[show j+(1+Shape.cntO l)=j+1+Shape.cntO l by omega]
  exact(Pl.nil j (j+1)).append (nS s l _) (by omega) (by omega)
 | (_,.keep ..)::l,j=>by
  simp only[sY,Shape.cntO,ShO.cnt,Nat.zero_add]
  exact nS s l j
 | (_,.lp ..)::l,j=>by
  simp only[sY,Shape.cntO,ShO.cnt,Nat.zero_add]
  exact nS s l j
theorem uZ(s:St):∀ (l:List (Nat×Sh)) (x:List D),Shape.decS s l=some x->x.length=Shape.cntS l
 | [],x,e=>by simp only[Shape.decS,Option.some.injEq] at e;subst e;rfl
 | (t,h)::l,x,e=>by
  simp only[Shape.decS] at e
  obtain⟨y,h1,e⟩:=bind_some_inv e
  obtain⟨z,h2,e⟩:=bind_some_inv e
  simp only[Option.some.injEq] at e
  subst e
  simp only[List.length_append,kg h _ y h1,uZ s l z h2,Shape.cntS]
theorem pH(s:St):∀ (l:List (Nat×Sh)) (x:List D),Shape.decS s l=some x->∀ v∈Shape.toksS s l,v ∉ s.dead
 | [],x,_=>by intro v hv;simp[Shape.toksS] at hv
 | (t,h)::l,x,e=>by
  intro v hv
  simp only[Shape.decS] at e
  obtain⟨y,h1,e⟩:=bind_some_inv e
  obtain⟨z,h2,e⟩:=bind_some_inv e
  simp only[Shape.toksS] at hv
  rcases List.mem_append.1 hv with hv|hv
  ·exact mZ h _ y h1 v hv
  ·exact pH s l z h2 v hv
theorem pG{s:St}{id:Nat}{t:Ty}{h:Sh}{l:List (Nat×ShO)}{x:List D}(e:Shape.decO s ((id,.one t h)::l)=some x):∃ v y z,s.ob id=some (.one t v)/\Sh.dec s.ob s.dead h v=some y/\Shape.decO s l=some z/\x=y++z:=by
 simp only[Shape.decO] at e
 split at e<;>first|(cases e;done)|skip
 rename_i t' v ho
 split at e<;>first|(cases e;done)|skip
 rename_i ht
 obtain⟨y,h1,e⟩:=bind_some_inv e
 obtain⟨z,h2,e⟩:=bind_some_inv e
 simp only[Option.some.injEq] at e
 rw[<-Ty.eq_of_beq _ _ ht] at ho
 exact⟨v,y,z,ho,h1,h2,e.symm⟩
theorem mY{s:St}{id:Nat}{t:Ty}{l:List (Nat×ShO)}{x:List D}(e:Shape.decO s ((id,.many t)::l)=some x):∃ v z,s.ob id=some (.many t v)/\Shape.decO s l=some z/\x=[.sl v]++z:=by
 simp only[Shape.decO] at e
 split at e<;>first|(cases e;done)|skip
 rename_i t' v ho
 split at e<;>first|(cases e;done)|skip
 rename_i ht
 obtain⟨z,h2,e⟩:=bind_some_inv e
 simp only[Option.some.injEq] at e
 rw[<-Ty.eq_of_beq _ _ ht] at ho
 exact⟨v,z,ho,h2,e.symm⟩
theorem tB{s:St}{id:Nat}{kt vt:Ty}{l:List (Nat×ShO)}{x:List D}(e:Shape.decO s ((id,.mp kt vt)::l)=some x):∃ v z,s.ob id=some (.mp kt vt v)/\Shape.decO s l=some z/\x=[.sl v]++z:=by
 simp only[Shape.decO] at e
 split at e<;>first|(cases e;done)|skip
 rename_i t' u' v ho
 split at e<;>first|(cases e;done)|skip
 rename_i ht
 obtain⟨z,h2,e⟩:=bind_some_inv e
 simp only[Option.some.injEq] at e
 simp only[Bool.and_eq_true] at ht
 rw[<-Ty.eq_of_beq _ _ ht.1,<-Ty.eq_of_beq _ _ ht.2] at ho
 exact⟨v,z,ho,h2,e.symm⟩
theorem mX{s:St}{id:Nat}{t:Ty}{wit:Nat}{l:List (Nat×ShO)}{x:List D}(e:Shape.decO s ((id,.keep t wit)::l)=some x):∃ v,s.ob id=some (.one t v)/\Shape.decO s l=some x:=by
 simp only[Shape.decO] at e
 split at e<;>first|(cases e;done)|skip
 rename_i t' v ho
 split at e<;>first|(cases e;done)|skip
 rename_i ht
 rw[<-Ty.eq_of_beq _ _ ht] at ho
 exact⟨v,ho,e⟩
theorem zZ:∀ {p p':Option Ex},xx p p'=true->p=p'
 | none,none,_=>rfl
 | none,some _,h=>by cases h
 | some _,none,h=>by cases h
 | some e,some e',h=>by
  simp only[xx] at h
  cases e<;>cases e'<;>simp only[Ex.is,decide_eq_true_eq] at h<;>first|rfl|(cases h;done)|(subst h;rfl)
theorem tA{s:St}{id:Nat}{p:Option Ex}{wit:Nat}{l:List (Nat×ShO)}{x:List D}(e:Shape.decO s ((id,.lp p wit)::l)=some x):∃ i,s.ob id=some (.lp i p)/\Shape.decO s l=some x:=by
 simp only[Shape.decO] at e
 split at e<;>first|(cases e;done)|skip
 rename_i i' p' ho
 split at e<;>first|(cases e;done)|skip
 rename_i ht
 rw[<-zZ ht] at ho
 exact⟨i',ho,e⟩
theorem si{p:Option Ex}{o:Option Ob}{o':Ob}(h:Ob.lpOf p o=some o'):∃ i p0,o=some (.lp i p0)/\o'=.lp i p:=by
 unfold Ob.lpOf at h
 split at h<;>first|(cases h;done)|skip
 simp only[Option.some.injEq] at h
 exact⟨_,_,rfl,h.symm⟩
theorem fk(s:St):∀ (l:List (Nat×ShO)) (x:List D),Shape.decO s l=some x->∀ v∈Shape.toksO s l,v ∉ s.dead
 | [],x,_=>by intro v hv;simp[Shape.toksO] at hv
 | (id,.one t h)::l,x,e=>by
  intro v hv
  obtain⟨u,y,z,ho,h1,h2,_⟩:=pG e
  simp only[Shape.toksO,ho] at hv
  rcases List.mem_append.1 hv with hv|hv
  ·exact mZ h _ y h1 v hv
  ·exact fk s l z h2 v hv
 | (id,.many t)::l,x,e=>by
  obtain⟨u,z,_,h2,_⟩:=mY e
  exact fk s l z h2
 | (id,.mp kt vt)::l,x,e=>by
  obtain⟨u,z,_,h2,_⟩:=tB e
  exact fk s l z h2
 | (id,.keep t wit)::l,x,e=>by
  obtain⟨u,_,h2⟩:=mX e
  exact fk s l x h2
 | (id,.lp p wit)::l,x,e=>by
  obtain⟨_,_,h2⟩:=tA e
  exact fk s l x h2
theorem yR(b:Nat):∀ (l:List (Nat×Sh)) (j:Nat) (s:List D) (f:Nat->AV),(Shape.mkS b l j s f).2=j+Shape.cntS l
 | [],j,s,f=>rfl
 | (t,h)::l,j,s,f=>by simp only[Shape.mkS,yR b l,nH,Shape.cntS,Nat.add_assoc]
theorem BJ{n b:Nat}{c c':Cx}(T:Two n c c'){s':St}(e1:c.ob=s'.ob)(e2:c.dead=s'.dead):∀ (l:List (Nat×Sh)) (j:Nat) (s x:List D) (f:Nat->AV),Shape.decS s' l=some x->yi s x j->(∀ p∈l,Sh.fine n p.2=true) ->
  (∀ p∈Gd s' l j,c'.β (b+p.1)=c.β p.2)->∀ i,(i∈l.map (·.1)/\∀ v,AR c (s'.tm i) v->AR c' ((Shape.mkS b l j s f).1 i) v)\/(i ∉ l.map (·.1)/\(Shape.mkS b l j s f).1 i=f i)
 | [],j,s,x,f,e,hs,hf,hb,i=>.inr ⟨by simp,rfl⟩
 | (t,h)::l,j,s,x,f,e,hs,hf,hb,i=>by
  simp only[Shape.decS] at e
  obtain⟨y,h1,e⟩:=bind_some_inv e
  obtain⟨z,h2,e⟩:=bind_some_inv e
  simp only[Option.some.injEq] at e
  subst e
  simp only[Gd,List.mem_append] at hb
  have hr:=hs.right
  rw[kg h _ y h1] at hr
  simp only[Shape.mkS,nH]
  rcases BJ T e1 e2 l (j+h.cnt) s z (fun i=>if i=t then(Sh.mk b h j s).1 else f i) h2 hr (fun p hp=>hf p (by simp[hp])) (fun p hp=>hb p (.inr hp)) i with⟨k1,k2⟩|⟨k1,k2⟩
  ·exact .inl ⟨by simp only[List.map_cons,List.mem_cons];exact .inr k1,k2⟩
  ·by_cases hit:i=t
   ·subst hit
    refine .inl ⟨by simp,fun v hv=>?_⟩
    rw[k2,if_pos rfl]
    exact IZ T h _ j s y v (by rw[e1,e2];exact h1) hs.left (hf (i,h) (by simp)) (fun p hp=>hb p (.inl hp)) hv
   ·refine .inr ⟨by simp only[List.map_cons,List.mem_cons];rintro(h|h);exact hit h;exact k1 h,?_⟩
    rw[k2,if_neg hit]
def Gt(o' o:Ob):Prop:=(∀ p,eh o' p=eh o p/\ci o' p=ci o p)/\(∀ t l,o=.many t l->∃ l',o'=.many t l'/\l'.length=l.length)/\∀ kt vt l,o=.mp kt vt l->∃ l',o'=.mp kt vt l'
theorem vO{t:Ty}{a b:AV}:Gt (.one t a) (.one t b):=⟨fun p=>⟨rfl,rfl⟩,(fun u l e=>by cases e),fun _ _ l e=>by cases e⟩
theorem E8{i i':LpI}{p p':Option Ex}:Gt (.lp i p) (.lp i' p'):=⟨fun p=>⟨rfl,rfl⟩,(fun u l e=>by cases e),fun _ _ l e=>by cases e⟩
theorem qN{t:Ty}{o:Option Ob}{o':Ob}(h:Ob.still t o=some o'):∃ u x,o=some (.one t (.d u x))/\o'=.one t (.d u x):=by
 unfold Ob.still at h
 split at h<;>first|(cases h;done)|skip
 split at h<;>first|(cases h;done)|skip
 rename_i ht
 simp only[Option.some.injEq] at h
 have:=Ty.eq_of_beq _ _ ht
 subst this
 exact⟨_,_,rfl,h.symm⟩
theorem nG{b:Nat}{base:Nat->Option Ob}{s':St}:∀ (l:List (Nat×ShO)) (j:Nat) (s x:List D) (f:Nat->Option Ob),Shape.decO s' l=some x->yi s x j ->
  ∀ id o',Shape.mkO b base l j s f id=some o'->f id=some o'\/(id∈l.map (·.1)/\∃ o,s'.ob id=some o/\Gt o' o)
 | [],j,s,x,f,e,hs,id,o',ho=>.inl ho
 | (t,.one u h)::l,j,s,x,f,e,hs,id,o',ho=>by
  obtain⟨v,y,z,h0,h1,h2,rfl⟩:=pG e
  have hr:=hs.right
  rw[kg h _ y h1] at hr
  simp only[Shape.mkO,nH] at ho
  rcases nG l _ s z _ h2 hr id o' ho with k|⟨k1,k2⟩
  ·split at k
   ·rename_i hit;subst hit
    simp only[Option.some.injEq] at k;subst k
    exact .inr ⟨by simp,_,h0,vO⟩
   ·exact .inl k
  ·exact .inr ⟨by simp only[List.map_cons,List.mem_cons];exact .inr k1,k2⟩
 | (t,.many u)::l,j,s,x,f,e,hs,id,o',ho=>by
  obtain⟨v,z,h0,h2,rfl⟩:=mY e
  have hj:s[j]?=some (.sl v):=by have:=hs 0 (by simp);simpa using this
  have hr:=hs.right
  simp only[Shape.mkO] at ho
  rcases nG l _ s z _ h2 hr id o' ho with k|⟨k1,k2⟩
  ·split at k
   ·rename_i hit;subst hit
    simp only[Option.some.injEq,List.getD,hj,Option.getD_some,D.els] at k;subst k
    exact .inr ⟨by simp,_,h0,fun p=>⟨by cases p<;>rfl,by cases p<;>rfl⟩,(fun u l e=>by cases e;exact⟨_,rfl,rfl⟩),fun _ _ l e=>by cases e⟩
   ·exact .inl k
  ·exact .inr ⟨by simp only[List.map_cons,List.mem_cons];exact .inr k1,k2⟩
 | (t,.mp u u')::l,j,s,x,f,e,hs,id,o',ho=>by
  obtain⟨v,z,h0,h2,rfl⟩:=tB e
  have hj:s[j]?=some (.sl v):=by have:=hs 0 (by simp);simpa using this
  have hr:=hs.right
  simp only[Shape.mkO] at ho
  rcases nG l _ s z _ h2 hr id o' ho with k|⟨k1,k2⟩
  ·split at k
   ·rename_i hit;subst hit
    simp only[Option.some.injEq,List.getD,hj,Option.getD_some,D.els] at k;subst k
    exact .inr ⟨by simp,_,h0,fun p=>⟨rfl,rfl⟩,(fun u l e=>by cases e),fun _ _ l e=>by cases e;exact⟨_,rfl⟩⟩
   ·exact .inl k
  ·exact .inr ⟨by simp only[List.map_cons,List.mem_cons];exact .inr k1,k2⟩
 | (t,.keep u wit)::l,j,s,x,f,e,hs,id,o',ho=>by
  obtain⟨v,h0,h2⟩:=mX e
  simp only[Shape.mkO] at ho
  rcases nG l _ s x _ h2 hs id o' ho with k|⟨k1,k2⟩
  ·split at k
   ·rename_i hit;subst hit
    obtain⟨u',y,_,rfl⟩:=qN k
    exact .inr ⟨by simp,_,h0,vO⟩
   ·exact .inl k
  ·exact .inr ⟨by simp only[List.map_cons,List.mem_cons];exact .inr k1,k2⟩
 | (t,.lp p wit)::l,j,s,x,f,e,hs,id,o',ho=>by
  obtain⟨v,h0,h2⟩:=tA e
  simp only[Shape.mkO] at ho
  rcases nG l _ s x _ h2 hs id o' ho with k|⟨k1,k2⟩
  ·split at k
   ·rename_i hit;subst hit
    obtain⟨i,p0,_,rfl⟩:=si k
    exact .inr ⟨by simp,_,h0,E8⟩
   ·exact .inl k
  ·exact .inr ⟨by simp only[List.map_cons,List.mem_cons];exact .inr k1,k2⟩
theorem nF{n b:Nat}{c c':Cx}(T:Two n c c'){s' base:St}(e1:c.ob=s'.ob)(e2:c.dead=s'.dead):∀ (l:List (Nat×ShO)) (j:Nat) (s x:List D) (f:Nat->Option Ob),Shape.decO s' l=some x->yi s x j->(∀ p∈l,ShO.fine n base p.1 p.2=true) ->
  (∀ p∈sY s' l j,c'.β (b+p.1)=c.β p.2)->∀ id o',Shape.mkO b base.ob l j s f id=some o'->f id=some o' ∨
   ∃ o,s'.ob id=some o/\((∀ bl,fK c bl o->fK c' bl o')\/(∃ t wit,(id,ShO.keep t wit)∈l/\Ob.still t (base.ob id)=some o')\/∃ p wit i,(id,ShO.lp p wit)∈l/\o=.lp i p/\Ob.lpOf p (base.ob id)=some o')
 | [],j,s,x,f,e,hs,hf,hb,id,o',ho=>.inl ho
 | (t,.one u h)::l,j,s,x,f,e,hs,hf,hb,id,o',ho=>by
  obtain⟨v,y,z,h0,h1,h2,rfl⟩:=pG e
  have hr:=hs.right
  rw[kg h _ y h1] at hr
  simp only[Shape.mkO,nH] at ho
  simp only[sY,List.mem_append] at hb
  rcases nF T e1 e2 l _ s z _ h2 hr (fun p hp=>hf p (by simp[hp])) (fun p hp=>hb p (.inr hp)) id o' ho with k|⟨o,k1,k2⟩
  ·split at k
   ·rename_i hit;subst hit
    simp only[Option.some.injEq] at k;subst k
    refine .inr ⟨_,h0,.inl fun bl k=>?_⟩
    have hfi:=hf (id,.one u h) (by simp)
    simp only[ShO.fine,Bool.and_eq_true] at hfi
    simp only[fK] at k ⊢
    obtain⟨k1,k2,k3,cs,k4,k5,k6⟩:=k
    rw[T.w,T.S]
    refine⟨k1,yS b h u j s hfi.2,k3,cs,k4,vT T h v j s y cs (by rw[e1,e2];exact h1) hs.left hfi.1 (fun p hp=>hb p (.inl ?_)) k5,k6⟩
    simp only[Cq,h0];exact hp
   ·exact .inl k
  ·refine .inr ⟨o,k1,k2.imp (fun k=>k) fun k=>k.imp (fun⟨t,wit,q1,q2⟩=>⟨t,wit,by simp[q1],q2⟩) fun⟨p,wit,i,q1,q2⟩=>⟨p,wit,i,by simp[q1],q2⟩⟩
 | (t,.many u)::l,j,s,x,f,e,hs,hf,hb,id,o',ho=>by
  obtain⟨v,z,h0,h2,rfl⟩:=mY e
  have hj:s[j]?=some (.sl v):=by have:=hs 0 (by simp);simpa using this
  have hr:=hs.right
  simp only[Shape.mkO] at ho
  rcases nF T e1 e2 l _ s z _ h2 hr (fun p hp=>hf p (by simp[hp])) (fun p hp=>hb p hp) id o' ho with k|⟨o,k1,k2⟩
  ·split at k
   ·rename_i hit;subst hit
    simp only[Option.some.injEq,List.getD,hj,Option.getD_some,D.els] at k;subst k
    refine .inr ⟨_,h0,.inl fun bl k=>?_⟩
    simp only[fK] at k ⊢
    rw[T.w,T.S];exact k
   ·exact .inl k
  ·refine .inr ⟨o,k1,k2.imp (fun k=>k) fun k=>k.imp (fun⟨t,wit,q1,q2⟩=>⟨t,wit,by simp[q1],q2⟩) fun⟨p,wit,i,q1,q2⟩=>⟨p,wit,i,by simp[q1],q2⟩⟩
 | (t,.mp u u')::l,j,s,x,f,e,hs,hf,hb,id,o',ho=>by
  obtain⟨v,z,h0,h2,rfl⟩:=tB e
  have hj:s[j]?=some (.sl v):=by have:=hs 0 (by simp);simpa using this
  have hr:=hs.right
  simp only[Shape.mkO] at ho
  rcases nF T e1 e2 l _ s z _ h2 hr (fun p hp=>hf p (by simp[hp])) (fun p hp=>hb p hp) id o' ho with k|⟨o,k1,k2⟩
  ·split at k
   ·rename_i hit;subst hit
    simp only[Option.some.injEq,List.getD,hj,Option.getD_some,D.els] at k;subst k
    refine .inr ⟨_,h0,.inl fun bl k=>?_⟩
    simp only[fK] at k ⊢
    obtain⟨q1,q2,q3,es,q4,q5⟩:=k
    rw[T.w,T.S]
    exact⟨q1,q2,q3,es,q4,gk.same T.w T.S q5⟩
   ·exact .inl k
  ·refine .inr ⟨o,k1,k2.imp (fun k=>k) fun k=>k.imp (fun⟨t,wit,q1,q2⟩=>⟨t,wit,by simp[q1],q2⟩) fun⟨p,wit,i,q1,q2⟩=>⟨p,wit,i,by simp[q1],q2⟩⟩
 | (t,.keep u wit)::l,j,s,x,f,e,hs,hf,hb,id,o',ho=>by
  obtain⟨v,h0,h2⟩:=mX e
  simp only[Shape.mkO] at ho
  rcases nF T e1 e2 l _ s x _ h2 hs (fun p hp=>hf p (by simp[hp])) (fun p hp=>hb p hp) id o' ho with k|⟨o,k1,k2⟩
  ·split at k
   ·rename_i hit;subst hit
    exact .inr ⟨_,h0,.inr (.inl ⟨u,wit,by simp,k⟩)⟩
   ·exact .inl k
  ·refine .inr ⟨o,k1,k2.imp (fun k=>k) fun k=>k.imp (fun⟨t,wit,q1,q2⟩=>⟨t,wit,by simp[q1],q2⟩) fun⟨p,wit,i,q1,q2⟩=>⟨p,wit,i,by simp[q1],q2⟩⟩
 | (t,.lp p wit)::l,j,s,x,f,e,hs,hf,hb,id,o',ho=>by
  obtain⟨v,h0,h2⟩:=tA e
  simp only[Shape.mkO] at ho
  rcases nF T e1 e2 l _ s x _ h2 hs (fun p hp=>hf p (by simp[hp])) (fun p hp=>hb p hp) id o' ho with k|⟨o,k1,k2⟩
  ·split at k
   ·rename_i hit;subst hit
    exact .inr ⟨_,h0,.inr (.inr ⟨p,wit,v,by simp,rfl,k⟩)⟩
   ·exact .inl k
  ·refine .inr ⟨o,k1,k2.imp (fun k=>k) fun k=>k.imp (fun⟨t,wit,q1,q2⟩=>⟨t,wit,by simp[q1],q2⟩) fun⟨p,wit,i,q1,q2⟩=>⟨p,wit,i,by simp[q1],q2⟩⟩
theorem sE:∀ {l:List (Nat×Nat)},cK (l.map Prod.snd)=true->∀ p∈l,∀ q∈l,p.2=q.2->p=q
 | [],_,p,hp,_,_,_=>by cases hp
 | x::l,h,p,hp,q,hq,e=>by
  simp only[List.map_cons,cK,Bool.and_eq_true,Bool.not_eq_true'] at h
  have hx:∀ y∈l,y.2≠x.2:=fun y hy hxy=>by
   have:(l.map Prod.snd).contains x.2=true:=by rw[List.contains_iff_mem];exact hxy ▸ List.mem_map_of_mem hy
   rw[this] at h;cases h.1
  rcases List.mem_cons.1 hp with rfl|hp'
  ·rcases List.mem_cons.1 hq with rfl|hq'
   ·rfl
   ·exact absurd e.symm (hx q hq')
  ·rcases List.mem_cons.1 hq with rfl|hq'
   ·exact absurd e (hx p hp')
   ·exact sE h.2 p hp' q hq' e
theorem ox:∀ {l:List (Nat×ShO)} {id:Nat} {t:Ty} {wit:Nat},(id,ShO.keep t wit)∈l->id∈bM l
 | [],_,_,_,h=>by cases h
 | (i,o)::l,id,t,wit,h=>by
  rcases List.mem_cons.1 h with k|k
  ·cases k;simp[bM]
  ·have ih:=ox k
   cases o<;>simp only[bM]<;>first
    | exact ih
    | exact List.mem_cons_of_mem _ ih
theorem mq:∀ {l:List (Nat×ShO)} {id:Nat} {p:Option Ex} {wit:Nat},(id,ShO.lp p wit)∈l->id∈bM l
 | [],_,_,_,h=>by cases h
 | (i,o)::l,id,p,wit,h=>by
  rcases List.mem_cons.1 h with k|k
  ·cases k;simp[bM]
  ·have ih:=mq k
   cases o<;>simp only[bM]<;>first
    | exact ih
    | exact List.mem_cons_of_mem _ ih
section
variable{w0:Root}{w w':World}{S S':Nat->Nat->Prop}{γ γ':Nat->Option Nat}{β β':Nat->Option (Nat×Nat)}{s s':St}{a a':Act}
theorem mE(h0:Rp w0 S γ β s a w)(h1:Rp w0 S' γ' β' s' a' w')(hsub:∀ b o,S b o->S' b o)(hcell:∀ b o,S b o->w'.cell? ⟨b,o,none⟩=w.cell? ⟨b,o,none⟩)(hnt:s'.nt=s.nt){h:Shape}
  (hs:∀ t∈h.keepS,a'.tmps.getD t undef=a.tmps.getD t undef) (hgam:∀ id b,γ id=some b->γ' id=some b) (ho:∀ id∈bM h.objs,∀ b,γ id=some b->γ' id=some b/\gN w w' b) {v:List D} (hd:h.dec s s'=some v) (lkS lkO:List Nat) :
  ∃ γ'' β'',Rp w0 S' γ'' β'' (h.mk' s v lkS lkO) a' w'/\∀ id,id<s.base+4096->γ'' id=γ' id:=by
 unfold Shape.dec at hd
 split at hd<;>first|(cases hd;done)|skip
 rename_i hg
 simp only[Bool.and_eq_true] at hg
 obtain⟨hg,htok⟩:=hg
 obtain⟨x,hx,hd⟩:=bind_some_inv hd
 obtain⟨y,hy,hd⟩:=bind_some_inv hd
 simp only[Option.some.injEq] at hd
 subst hd
 simp only[Shape.good,Bool.and_eq_true,List.all_eq_true,decide_eq_true_eq] at hg
 obtain⟨⟨⟨⟨hg1,hg2⟩,hg3⟩,hg4⟩,hg5⟩:=hg
 have hlx:=uZ s' h.slots x hx
 obtain⟨n,hn⟩:∃ n,n=(s.fresh+1)*4096:=⟨_,rfl⟩
 have hbase:s.base+4096=n:=by rw[hn];simp only[St.base];omega
 rw[<-hn] at hg3 hg4
 obtain⟨tl,htl⟩:∃ tl,tl=Gd s' h.slots 0++sY s' h.objs (Shape.cntS h.slots):=⟨_,rfl⟩
 have hpl:Pl tl 0 (Shape.cntS h.slots+Shape.cntO h.objs):=by
  rw[htl]
  have p1:=Cr s' h.slots 0
  rw[Nat.zero_add] at p1
  exact p1.append (nS s' h.objs _) (by omega) (by omega)
 have hsnd:cK (tl.map Prod.snd)=true:=by rw[htl,List.map_append,ur,jk];exact htok
 have halive:∀ p∈tl,p.2 ∉ s'.dead:=fun p hp=>by
  rw[htl] at hp
  rcases List.mem_append.1 hp with hp|hp
  ·exact pH s' _ x hx _ (by rw[<-ur s' _ 0];exact List.mem_map_of_mem hp)
  ·exact fk s' _ y hy _ (by rw[<-jk s' _ (Shape.cntS h.slots)];exact List.mem_map_of_mem hp)
 obtain⟨γ'',hγ⟩:∃ γ'':Nat->Option Nat,γ''=fun id=>if id<n then γ' id else none:=⟨_,rfl⟩
 obtain⟨β'',hβ⟩:∃ β'':Nat->Option (Nat×Nat),β''=fun u=>if n<=u then(tl.find? fun p=>p.1==u-n).bind fun p=>β' p.2 else none:=⟨_,rfl⟩
 have hγ1:∀ id,id<n->γ'' id=γ' id:=fun id hi=>by rw[hγ];simp[hi]
 have hγ2:∀ id b,γ'' id=some b->id<n/\γ' id=some b:=fun id b hb=>by
  rw[hγ] at hb
  simp only at hb
  split at hb
  ·rename_i hi;exact⟨hi,hb⟩
  ·cases hb
 have hβ1:∀ p∈tl,β'' (n+p.1)=β' p.2:=fun p hp=>by
  rw[hβ]
  simp only[Nat.le_add_right,if_true,Nat.add_sub_cancel_left]
  cases hfd:tl.find? fun q=>q.1==p.1 with
  | none=>
   have:=List.find?_eq_none.1 hfd p hp
   simp at this
  | some q=>
   have h1:=List.find?_some hfd
   have h2:=List.mem_of_find?_eq_some hfd
   rw[hpl.2 q h2 p hp (by simpa using h1)]
   rfl
 have hβ2:∀ u b,β'' u=some b->∃ p∈tl,u=n+p.1/\β' p.2=some b:=fun u b hb=>by
  rw[hβ] at hb
  simp only at hb
  split at hb<;>first|(cases hb;done)|skip
  rename_i hu
  obtain⟨p,h1,h2⟩:=bind_some_inv hb
  refine⟨p,List.mem_of_find?_eq_some h1,?_,h2⟩
  have:=List.find?_some h1
  simp only[beq_iff_eq] at this
  omega
 have hat1:yi (x++y) x 0:=fun i hi=>by rw[Nat.zero_add,List.getElem?_append_left hi]
 have hat2:yi (x++y) y (Shape.cntS h.slots):=fun i hi=>by rw[<-hlx,List.getElem?_append_right (by omega),Nat.add_sub_cancel_left]
 obtain⟨ob'',hob⟩:∃ ob'',ob''=(h.mk' s (x++y) lkS lkO).ob:=⟨_,rfl⟩
 have hob':ob''=Shape.mkO n s.ob h.objs (Shape.cntS h.slots) (x++y) (fun _=>none):=by
  rw[hob]
  simp only[Shape.mk',yR,Nat.zero_add,<-hn]
 have T:Two n ⟨w',S',γ',β',s'.ob,s'.dead⟩ ⟨w',S',γ'',β'',ob'',[]⟩:=by
  refine⟨rfl,rfl,hγ1,fun id hi o' ho'=>?_⟩
  rw[hob'] at ho'
  rcases nG h.objs _ _ y _ hy hat2 id o' ho' with k|⟨_,o,k1,k2⟩
  ·cases k
  ·exact⟨o,k1,k2.1,k2.2⟩
 have hszeq:a'.tmps.size=a.tmps.size:=by rw[h1.nt,hnt,h0.nt]
 have htm:(h.mk' s (x++y) lkS lkO).tm=(Shape.mkS n h.slots 0 (x++y) (fun i=>if h.keepS.contains i then(s.tm i).still else .undef)).1:=by
  simp only[Shape.mk',<-hn]
 have hkeep:=BJ (b:=n) T (s':=s') rfl rfl h.slots 0 (x++y) x (fun i=>if h.keepS.contains i then(s.tm i).still else .undef) hx hat1 (fun p hp=>(hg4 p hp).2) (fun p hp=>hβ1 p (by rw[htl];exact List.mem_append_left _ hp))
 refine⟨γ'',β'',⟨h1.ext,fun t ht=>?_,?_,fun t ht=>?_,fun id o b hio hb=>?_,fun id b hb=>h1.γn id b (hγ2 id b hb).2,fun id id' b hb hb'=>h1.γi id id' b (hγ2 id b hb).2 (hγ2 id' b hb').2,fun id hi=>?_,fun u b e _ hb=>?_,fun u u' b e e' _ _ hb hb'=>?_,fun u id b e _ hb hid=>?_,fun u hu=>?_,h1.Sb,h1.So⟩,fun id hi=>hγ1 id (by omega)⟩
 ·rw[htm,<-hob]
  rcases hkeep t with⟨k1,k2⟩|⟨k1,k2⟩
  ·exact k2 _ (h1.tms t ht)
  ·rw[k2]
   by_cases hk:h.keepS.contains t=true
   ·have hk':t∈h.keepS:=by simpa using hk
    rw[if_pos hk,hs t hk']
    exact j7 (c:=⟨w,S,γ,β,s.ob,s.dead⟩) hcell hsub (h0.tms t (by rw[<-hszeq];exact ht))
   ·rw[if_neg hk];simp only[AR]
 ·show a'.tmps.size=s.nt
  rw[h1.nt,hnt]
 ·have ht':s.nt<=t:=ht
  rw[htm]
  rcases hkeep t with⟨k1,k2⟩|⟨k1,k2⟩
  ·obtain⟨p,hp,rfl⟩:=List.mem_map.1 k1
   have:=(hg4 p hp).1
   omega
  ·rw[k2]
   split
   ·rw[h0.tmu t ht'];rfl
   ·rfl
 ·have hb':=(hγ2 id b hb).2
  rw[<-hob] at hio ⊢
  have hio':=hio
  rw[hob'] at hio'
  rcases nF (b:=n) (base:=s) T (s':=s') rfl rfl h.objs (Shape.cntS h.slots) (x++y) y _ hy hat2 (fun p hp=>(hg3 p hp).2) (fun p hp=>hβ1 p (by rw[htl];exact List.mem_append_right _ hp)) id o hio' with k|⟨o0,k1,k2|⟨t,wit,k2,k3⟩|⟨p,wit,i1,k2,rfl,k3⟩⟩
  ·cases k
  ·exact k2 b (h1.obs id o0 b k1 hb')
  ·have hfi:=(hg3 _ k2).2
   simp only[ShO.fine] at hfi
   split at hfi<;>first|(cases hfi;done)|skip
   rename_i u id' p hw
   simp only[Bool.and_eq_true,decide_eq_true_eq] at hfi
   obtain⟨rfl,hwn⟩:=hfi
   have hA:=h0.tms wit (by rw[h0.nt];exact hwn)
   rw[hw] at hA
   simp only[AR,AC] at hA
   obtain⟨_,b0,off,_,hγ0,_⟩:=hA
   obtain⟨q1,q2⟩:=ho id (ox k2) b0 hγ0
   rw[hb'] at q1
   simp only[Option.some.injEq] at q1
   subst q1
   obtain⟨u',x',hob0,rfl⟩:=qN k3
   have hO:=h0.obs id _ b hob0 hγ0
   have hO1:=h1.obs id o0 b k1 hb'
   simp only[fK,AC] at hO ⊢
   obtain⟨r1,r2,_,cs,r3,⟨r4,r5,r6⟩,r7⟩:=hO
   have q2:=q2.row r3
   have hnS:∀ o,¬ S' b o:=by
    cases o0
    case lp i p=>
     simp only[fK] at hO1
     obtain⟨rr,z1,_⟩:=hO1
     rw[q2] at z1
     simp[bw,z1] at r3
    all_goals (simp only[fK] at hO1;exact hO1.2.2.1)
   refine⟨r1,r2,hnS,cs,?_,⟨r4,r5,r6.mono hcell hsub⟩,r7⟩
   simp only[bw,q2];exact r3
  ·have hfi:=(hg3 _ k2).2
   simp only[ShO.fine] at hfi
   split at hfi<;>first|(cases hfi;done)|skip
   rename_i id' hw
   simp only[Bool.and_eq_true,decide_eq_true_eq] at hfi
   obtain⟨rfl,hwn⟩:=hfi
   have hA:=h0.tms wit (by rw[h0.nt];exact hwn)
   rw[hw] at hA
   simp only[AR,AC] at hA
   obtain⟨_,b0,_,hγ0⟩:=hA
   obtain⟨q1,q2⟩:=ho id (mq k2) b0 hγ0
   rw[hb'] at q1
   simp only[Option.some.injEq] at q1
   subst q1
   obtain⟨i,p0,hob0,rfl⟩:=si k3
   have hO:=h0.obs id _ b hob0 hγ0
   have hO1:=h1.obs id _ b k1 hb'
   simp only[fK] at hO hO1 ⊢
   obtain⟨rec,r1,⟨r2,r3,r4,r5⟩,r6,_⟩:=hO
   obtain⟨rec',v1,_,_,v4⟩:=hO1
   have e:wR rec rec':=by
    rcases q2 with k|⟨r,r',z1,z2,z3⟩
    ·rw[v1,r1] at k;cases k;exact⟨rfl,rfl,rfl,rfl⟩
    ·rw[r1] at z1;cases z1;rw[v1] at z2;cases z2;exact z3
   refine⟨rec',v1,⟨by rw[e.1];exact r2,by rw[e.2.1];exact r3,by rw[e.2.2.1];exact r4,by rw[e.2.2.2];exact r5⟩,fun t ht=>?_,v4⟩
   rw[e.1]
   refine g9.mono (c:=⟨w,S,γ,β,s.ob,s.dead⟩) hcell hsub (fun j bj hj=>?_) (r6 t ht)
   rcases Nat.lt_or_ge j n with k|k
   ·exact(hγ1 j k).trans (hgam j bj hj)
   ·have hj':γ j=some bj:=hj
    rw[h0.γf j (by omega)] at hj';cases hj'
 ·have hi':(s.fresh+1)*4096+4096<=id:=hi
  rw[hγ];simp only;rw[if_neg (by omega)]
 ·obtain⟨p,hp,_,hb'⟩:=hβ2 u _ hb
  exact h1.βn _ b e (halive p hp) hb'
 ·obtain⟨p,hp,rfl,k⟩:=hβ2 u _ hb
  obtain⟨q,hq,rfl,k'⟩:=hβ2 u' _ hb'
  have:=h1.βi _ _ b e e' (halive p hp) (halive q hq) k k'
  rw[sE hsnd p hp q hq this]
 ·obtain⟨p,hp,_,hb'⟩:=hβ2 u _ hb
  exact h1.βγ _ id b e (halive p hp) hb' (hγ2 id b hid).2
 ·have hu':(s.fresh+1)*4096+4096<=u:=hu
  cases hc:β'' u with
  | none=>rfl
  | some b=>
   obtain⟨p,hp,e,_⟩:=hβ2 u b hc
   have:=(hpl.1 p hp).2
   omega
end
end Sy
end
noncomputable section
namespace Sy
open Go
variable{ro:Option Nat}{nn:Nat}
section
variable{P:Program}{E:Env}{w0:Root}{S:Nat->Nat->Prop}{γ:Nat->Option Nat}{β:Nat->Option (Nat×Nat)}{s:St}{a:Act}{w:World}
theorem Fm.tr{s s1:St}{S S1 S2:Nat->Nat->Prop}{γ γ1 γ2:Nat->Option Nat}{a a1 a2:Act}{w w1 w2:World}(h:Fm s S γ a w S1 γ1 a1 w1)(k:Fm s1 S1 γ1 a1 w1 S2 γ2 a2 w2)(e:Sk s s1):Fm s S γ a w S2 γ2 a2 w2:=h.trans k e.lkS e.lkO
def oZ(s:St)(t:Nat):St:=
 match s.tm t with
  | .mem t' id=>match s.ob id with
   | some (.many u l)=>if t'.beq u&&!(s.lkO.contains id) then{ s.setOb id none with tm:=fun i=>if i=t then .d (.sl u) (.sl l) else s.tm i } else s
   | _=>s
  | _=>s
theorem vn(s:St)(t:Nat)(l:List Nat):eO s (t::l)=eO (oZ s t) l:=rfl
theorem xc(h:Rp w0 S γ β s a w)(t:Nat):∃ S',Rp w0 S' γ β (oZ s t) a w/\Fm s S γ a w S' γ a w/\Sm s (oZ s t):=by
 have triv:∃ S',Rp w0 S' γ β s a w/\Fm s S γ a w S' γ a w/\Sm s s:=⟨S,h,Fm.refl _ _ _ _ _,Sm.refl s⟩
 unfold oZ
 split
 ·rename_i t' id hm
  split
  ·rename_i u l ho
   split
   ·rename_i hc
    simp only[Bool.and_eq_true,Bool.not_eq_true'] at hc
    obtain⟨hc1,hc2⟩:=hc
    have hu:=Ty.eq_of_beq _ _ hc1
    subst hu
    have ht:t<a.tmps.size:=by
     rcases Nat.lt_or_ge t a.tmps.size with k|k
     ·exact k
     ·have:=h.tmu t (by rw[<-h.nt];exact k)
      rw[hm] at this;cases this
    have hA:=h.tms t ht
    rw[hm] at hA
    simp only[AR,AC] at hA
    obtain⟨hna,hnt,b,hγ,hA⟩:=hA
    obtain⟨l',e1,hv⟩:=hA _ ho
    simp only[Ob.many.injEq,true_and] at e1
    subst e1
    have hO:=h.obs id _ b ho hγ
    simp only[fK] at hO
    obtain⟨_,hwt,hnS,cs,hrow,hcs⟩:=hO
    obtain⟨S',hS'⟩:∃ S':Nat->Nat->Prop,S'=fun b' o=>S b' o\/b'=b:=⟨_,rfl⟩
    have hsub:∀ b' o,S b' o->S' b' o:=fun b' o hb=>by rw[hS'];exact .inl hb
    have hle:Cx.le ⟨w,S,γ,β,s.ob,s.dead⟩ ⟨w,S',γ,β,(s.setOb id none).ob,s.dead⟩:=by
     refine⟨fun _ _ _=>rfl,hsub,fun _ _ k=>k,fun i o hi _=>?_,fun v hv=>⟨hv,fun b e he=>⟨he,fun n hn=>hn⟩⟩⟩
     simp only[St.setOb] at hi
     split at hi<;>first|(cases hi;done)|skip
     exact⟨o,hi,fun p=>⟨rfl,rfl⟩,fun t l e=>⟨l,e,rfl⟩,fun _ _ l e=>⟨l,e⟩⟩
    refine⟨S',⟨h.ext,fun i hi=>?_,h.nt,fun i hi=>?_,fun i o b' hi hb'=>?_,h.γn,h.γi,h.γf,fun v b' e hvd he=>?_,h.βi,h.βγ,h.βf,fun b' o hb=>?_,fun b' o hb hlt=>?_⟩,⟨hsub,fun _ _ _=>rfl,fun _ _=>rfl,fun _ _ _ hb=>⟨hb,gN.refl _ _⟩,Nat.le_refl _,fun _ _ hb=>hb,iR.same rfl (cC.refl _)⟩,⟨rfl,rfl,rfl,rfl⟩⟩
    ·by_cases hit:i=t
     ·subst hit
      simp only[if_true]
      have hval:=au hna hv
      rw[hval]
      refine df (by simpa only[am] using hnt) (by simp only[wt];exact⟨l,rfl,hwt⟩) (eZ.of_CR ?_)
      refine CR.of_elems (b:=b) (off:=0) (.inr rfl) (Nat.le_refl _) ⟨cs,hcs.mono (fun _ _ _=>rfl) hsub,fun i c hc=>⟨by rw[hS'];exact .inr rfl,?_⟩⟩
      rw[Nat.zero_add,cF w hrow]
      simpa using hc
     ·simp only[if_neg hit]
      exact(h.tms i hi).mono hle
    ·have hi':s.nt<=i:=hi
     have hit:i≠t:=fun e=>by rw[h.nt] at ht;omega
     simp only[if_neg hit]
     exact h.tmu i hi'
    ·simp only[St.setOb] at hi
     split at hi<;>first|(cases hi;done)|skip
     rename_i hne
     refine(h.obs i o b' hi hb').mono hle rfl fun o ho'=>?_
     have ho2:S' b' o:=ho'
     rw[hS'] at ho2
     rcases ho2 with k|k
     ·exact k
     ·subst k
      exact absurd (h.γi i id b' hb' hγ) hne
    ·obtain⟨k1,k2,k3⟩:=h.βn v b' e hvd he
     refine⟨k1,k2,fun o ho' hs=>?_⟩
     rw[hS'] at hs
     rcases hs with k|k
     ·exact k3 o ho' k
     ·subst k
      exact h.βγ v id b' e hvd he hγ
    ·rw[hS'] at hb
     rcases hb with k|k
     ·exact h.Sb b' o k
     ·subst k;exact(h.γn id b' hγ).2
    ·rw[hS'] at hb
     rcases hb with k|k
     ·exact h.So b' o k hlt
     ·subst k
      exact absurd hlt (h.γn id b' hγ).1
   ·exact triv
  ·exact triv
 ·exact triv
theorem np:∀ (l:List Nat) {S:Nat->Nat->Prop} {s:St},Rp w0 S γ β s a w->∃ S',Rp w0 S' γ β (eO s l) a w/\Fm s S γ a w S' γ a w/\Sm s (eO s l)
 | [],S,s,h=>⟨S,h,Fm.refl _ _ _ _ _,Sm.refl s⟩
 | t::l,S,s,h=>by
  obtain⟨S1,h1,f1,m1⟩:=xc h t
  obtain⟨S2,h2,f2,m2⟩:=np l h1
  rw[vn]
  exact⟨S2,h2,f1.trans f2 m1.lkS m1.lkO,m1.trans m2⟩
def oB(E:Env)(s:St)(o:Oper):St:=match o.op,o.dst with
  | .alloc T,some d=>match E.L T with
   | some t=>s.setOb (s.base+d) (some (.one t (fh t)))
   | none=>s
  | _,_=>s
theorem nI(E:Env)(o:Oper)(l:List Oper)(s:St):fZ E (o::l) s=fZ E l (oB E s o):=rfl
theorem Rp.freeOb(h:Rp w0 S γ β s a w){id:Nat}(hγ:γ id=none)(o:Option Ob):Rp w0 S γ β (s.setOb id o) a w:=by
 have hle:Cx.le ⟨w,S,γ,β,s.ob,s.dead⟩ ⟨w,S,γ,β,(s.setOb id o).ob,s.dead⟩:=by
  refine⟨fun _ _ _=>rfl,fun _ _ k=>k,fun _ _ k=>k,fun i x hx hb=>?_,fun v hv=>⟨hv,fun b e he=>⟨he,fun n hn=>hn⟩⟩⟩
  simp only[St.setOb] at hx
  split at hx
  ·rename_i e;subst e
   obtain⟨b,hb⟩:=hb
   simp only[hγ] at hb;cases hb
  ·exact⟨x,hx,fun p=>⟨rfl,rfl⟩,fun t l e=>⟨l,e,rfl⟩,fun _ _ l e=>⟨l,e⟩⟩
 refine⟨h.ext,fun i hi=>(h.tms i hi).mono hle,h.nt,h.tmu,fun i x b hx hb=>?_,h.γn,h.γi,h.γf,h.βn,h.βi,h.βγ,h.βf,h.Sb,h.So⟩
 simp only[St.setOb] at hx
 split at hx
 ·rename_i e;subst e;rw[hγ] at hb;cases hb
 ·exact(h.obs i x b hx hb).mono hle rfl fun _ k=>k
theorem jW(E:Env)(s:St)(o:Oper):oB E s o=s\/∃ T d t,o.op=.alloc T/\o.dst=some d/\E.L T=some t/\oB E s o=s.setOb (s.base+d) (some (.one t (fh t))):=by
 unfold oB
 split
 ·rename_i T d e1 e2
  split
  ·rename_i t e3;exact .inr ⟨T,d,t,e1,e2,e3,rfl⟩
  ·exact .inl rfl
 ·exact .inl rfl
theorem BX(h:Rp w0 S γ β s a w)(hg:∀ d,γ (s.base+d)=none)(o:Oper):Rp w0 S γ β (oB E s o) a w/\Sm s (oB E s o):=by
 rcases jW E s o with e|⟨T,d,t,_,_,_,e⟩
 ·rw[e];exact⟨h,Sm.refl s⟩
 ·rw[e];exact⟨h.freeOb (hg d) _,rfl,rfl,rfl,rfl⟩
theorem Sm.base_eq{s s':St}(h:Sm s s'):s'.base=s.base:=by simp only[St.base,h.fresh]
theorem yY(l:List Oper){s:St}(h:Rp w0 S γ β s a w)(hg:∀ d,γ (s.base+d)=none):Rp w0 S γ β (fZ E l s) a w/\Sm s (fZ E l s):=by
 induction l generalizing s with
 | nil=>exact And.intro h (Sm.refl s)
 | cons o l ih=>
  rw[nI]
  obtain⟨h1,h2⟩:=BX (E:=E) h hg o
  obtain⟨k1,k2⟩:=ih h1 (by rw[h2.base_eq];exact hg)
  exact⟨k1,h2.trans k2⟩
theorem lr:∀ (l:List Oper) {s:St} {d:Nat},(∀ o∈l,o.dst≠some d)->(fZ E l s).ob (s.base+d)=s.ob (s.base+d)
 | [],s,d,_=>rfl
 | o::l,s,d,h=>by
  rw[nI]
  rcases jW E s o with e|⟨T,d',t,_,e2,_,e⟩
  ·rw[e];exact lr l fun o ho=>h o (by simp[ho])
  ·rw[e]
   have:=lr l (s:=s.setOb (s.base+d') (some (.one t (fh t)))) (d:=d) fun o ho=>h o (by simp[ho])
   have hb:(s.setOb (s.base+d') (some (.one t (fh t)))).base=s.base:=rfl
   rw[hb] at this
   rw[this]
   have hne:d'≠d:=fun e=>h o (by simp) (by rw[e2,e])
   simp only[St.setOb]
   rw[if_neg fun e=>hne (Nat.add_left_cancel e).symm]
theorem ua:∀ (l:List Oper) {s:St} {o:Oper} {T:TypeId} {d:Nat} {t:Ty},cK (l.filterMap (·.dst))=true->o∈l->o.op=.alloc T->o.dst=some d->E.L T=some t->(fZ E l s).ob (s.base+d)=some (.one t (fh t))
 | [],_,_,_,_,_,_,h,_,_,_=>by cases h
 | x::l,s,o,T,d,t,hn,ho,e1,e2,e3=>by
  have hn':cK (l.filterMap (·.dst))=true:=by
   rw[List.filterMap_cons] at hn
   split at hn
   ·exact hn
   ·simp only[cK,Bool.and_eq_true] at hn;exact hn.2
  rw[nI]
  have hb:(oB E s x).base=s.base:=by rcases jW E s x with e|⟨_,_,_,_,_,_,e⟩<;>rw[e]<;>rfl
  rcases List.mem_cons.1 ho with rfl|ho'
  ·rw[<-hb,lr l fun o' ho'=>fun e=>du hn [] l o o' rfl ho' d e e2]
   rw[hb]
   simp only[oB,e1,e2,e3,St.setOb,if_true]
  ·rw[<-hb]
   exact ua l hn' ho' e1 e2 e3
theorem IR{e e':Ex}(h:e.is e'=true):e=e':=by
 cases e<;>cases e'<;>simp only[Ex.is,decide_eq_true_eq] at h<;>first|rfl|(cases h;done)|(rw[h])
theorem oh{e:Ex}:∀ {l:List (Ex×Shape)} {i j:Nat} {h:Shape},pR e l i=some (j,h)->i<=j/\l[j-i]?=some (e,h)
 | [],_,_,_,k=>by simp[pR] at k
 | (e',h')::l,i,j,h,k=>by
  simp only[pR] at k
  split at k
  ·rename_i he
   simp only[Option.some.injEq,Prod.mk.injEq] at k
   obtain⟨rfl,rfl⟩:=k
   exact⟨Nat.le_refl _,by simp[IR he]⟩
  ·obtain⟨k1,k2⟩:=oh k
   refine⟨by omega,?_⟩
   rw[show j-i=(j-(i+1))+1 by omega]
   simpa using k2
theorem jG{R:Type}{base:St}{k:Ex->St->Option R}{kS kO:List Nat}{r:R}{e:Ex}{h:Shape}{v:List D}:∀ {l:List (Ex×Shape)} {i j:Nat},i<=j->l[j-i]?=some (e,h)->kY base k kS kO l i (j,v)=some r ->
  k e (h.mk' base v base.lkS base.lkO)=some r/\subset h.keepS kS=true/\subset (bM h.objs) kO=true
 | [],_,_,_,hl,_=>by simp at hl
 | [(e',h')],i,j,hij,hl,hc=>by
  have:j-i=0:=by
   have:=(List.getElem?_eq_some_iff.1 hl).1
   simpa using this
  rw[this] at hl
  simp only[List.getElem?_cons_zero,Option.some.injEq,Prod.mk.injEq] at hl
  obtain⟨rfl,rfl⟩:=hl
  simp only[kY] at hc
  split at hc<;>first|(cases hc;done)|skip
  rename_i hs
  simp only[Bool.and_eq_true] at hs
  exact⟨hc,hs⟩
 | (e',h')::x::l,i,j,hij,hl,hc=>by
  simp only[kY] at hc
  split at hc<;>first|(cases hc;done)|skip
  rename_i hs
  simp only[Bool.and_eq_true] at hs
  split at hc
  ·rename_i hji
   subst hji
   simp only[Nat.sub_self,List.getElem?_cons_zero,Option.some.injEq,Prod.mk.injEq] at hl
   obtain⟨rfl,rfl⟩:=hl
   exact⟨hc,hs⟩
  ·rename_i hji
   refine jG (i:=i+1) (by omega) ?_ hc
   rw[show j-i=(j-(i+1))+1 by omega] at hl
   simpa using hl
theorem g7{l l':List Nat}(h:subset l l'=true):∀ x∈l,x∈l':=fun x hx=>by
 have:=List.all_eq_true.1 h x hx
 simpa using this
theorem Rp.lk(h:Rp w0 S γ β s a w)(lkS lkO:List Nat):Rp w0 S γ β { s with lkS:=lkS,lkO:=lkO } a w:=
 ⟨h.ext,h.tms,h.nt,h.tmu,h.obs,h.γn,h.γi,h.γf,h.βn,h.βi,h.βγ,h.βf,h.Sb,h.So⟩
theorem Fm.shape{s2:St}{S':Nat->Nat->Prop}{γ' γ'':Nat->Option Nat}{a':Act}{w':World}(h0:Rp w0 S γ β s a w)(h:Fm s2 S γ a w S' γ' a' w')(hg:∀ id,id<s.base+4096->γ'' id=γ' id):Fm s2 S γ a w S' γ'' a' w':=
 ⟨h.sub,h.cell,h.slots,fun id hid b hb=>by
  obtain⟨k1,k2⟩:=h.objs id hid b hb
  refine⟨?_,k2⟩
  rw[hg id ?_]
  ·exact k1
  ·rcases Nat.lt_or_ge id (s.base+4096) with k|k
   ·exact k
   ·rw[h0.γf id k] at hb
    exact absurd hb (by simp),h.sz,fun id b hb=>by
  rw[hg id ?_]
  ·exact h.gam id b hb
  ·rcases Nat.lt_or_ge id (s.base+4096) with k|k
   ·exact k
   ·rw[h0.γf id k] at hb
    exact absurd hb (by simp),h.dfs⟩
theorem s7{base:St}{exits:List (Ex×Shape)}{e:Ex}{s':St}{r:Nat×List D}(h:Ax base exits e s'=some r):∃ sh,exits[r.1]?=some (e,sh)/\sh.dec base s'=some r.2:=by
 unfold Ax at h
 obtain⟨q,h1,h⟩:=bind_some_inv h
 obtain⟨v,h2,h⟩:=bind_some_inv h
 simp only[Option.some.injEq] at h
 subst h
 obtain⟨_,h3⟩:=oh h1
 exact⟨q.2,by simpa using h3,h2⟩
end
end Sy
end
noncomputable section
namespace Sy
open Go
open Go.ChangeMaps (setBlock)
open Go.RowKit
variable{ro:Option Nat}{nn:Nat}
section
variable{P:Program}{E:Env}{w0:Root}{S:Nat->Nat->Prop}{γ:Nat->Option Nat}{β:Nat->Option (Nat×Nat)}{s:St}{a:Act}{w:World}
def Kp(Q:Exit->Act->World->Prop)(w0:Root)(s:St)(S:Nat->Nat->Prop)(γ:Nat->Option Nat)(a:Act)(w:World){R:Type}(k:Ex->St->Option R)(r:R):Prop:=
 ∀ e s' S' γ' β' a' w',Rp w0 S' γ' β' s' a' w'->Fm s S γ a w S' γ' a' w'->Sk s s'->k e s'=some r->Q (Bo e) a' w'
theorem Ae{c:Cx}{t:Ty}{id:Nat}{v:Value}{u:Ty}{x:AV}(ho:c.ob id=some (.one u x))(na:∀ cs,v≠.agg cs)(h:AC c (.ptr t id []) v.cells.toList):∃ b,v=.pointer (some ⟨b,0,none⟩)/\c.γ id=some b:=by
 simp only[AC] at h
 obtain⟨b,off,h1,h2,h3⟩:=h
 obtain⟨_,h4⟩:=h3 _ ho
 have:off=0:=h4
 subst this
 exact⟨b,au na h1,h2⟩
theorem oK{c:Cx}:∀ (l:List AV) (caps:List Value),uA l=true->(l.all (fun a=>match a with|.ptr _ id _=>(match c.ob id with|some (.one _ _)=>true|_=>false)|_=>false))=true->kI c l caps->nX c l caps
 | [],caps,_,_,h=>by simp only[kI] at h;subst h;trivial
 | x::l,caps,hw,ho,h=>by
  simp only[kI] at h
  obtain⟨v,c2,rfl,h1,h2⟩:=h
  simp only[List.all_cons,Bool.and_eq_true] at ho
  unfold uA at hw
  split at hw<;>first|(cases hw;done)|skip
  ·rename_i e;cases e
  ·rename_i t id l' e
   cases e
   refine⟨?_,oK l c2 hw ho.2 h2⟩
   have h3:=ho.1
   simp only at h3
   split at h3<;>first|(cases h3;done)|skip
   rename_i u x hob
   simp only[AC] at h1
   obtain⟨b,off,q1,q2,q3⟩:=h1
   obtain⟨_,q4⟩:=q3 _ hob
   have:off=0:=q4
   subst this
   exact⟨b,by simpa using q1,q2⟩
theorem Cs{c:Cx}{x:AV}{v:Value}(h:AR c x v):g9 c (zb c.ob x) v:=by
 cases x<;>simp only[zb]<;>first|(simp only[g9];done)|skip
 case d t y=>exact h
 case own t u l=>exact j7 (c:=c) (c':=c) (fun _ _ _=>rfl) (fun _ _ h=>h) h
 case fptr t y=>exact h
 case ptr t id p=>
  cases p with
  | cons i p=>simp only[g9]
  | nil=>
   simp only
   split
   ·rename_i u y ho
    simp only[AR] at h
    simp only[g9,qY]
    exact Ae ho h.1 h.2
   ·simp only[g9]
 case clo f l=>
  split
  ·rename_i hc
   simp only[Bool.and_eq_true] at hc
   simp only[AR,AC] at h
   obtain⟨na,caps,h1,h2⟩:=h
   simp only[g9]
   exact⟨caps,au na h1,oK l caps hc.1 hc.2 h2⟩
  ·simp only[g9]
theorem Rp.act(h:Rp w0 S γ β s a w){a':Act}(ht:a'.tmps=a.tmps):Rp w0 S γ β s a' w:=
 ⟨h.ext,by rw[ht];exact h.tms,by rw[ht];exact h.nt,h.tmu,h.obs,h.γn,h.γi,h.γf,h.βn,h.βi,h.βγ,h.βf,h.Sb,h.So⟩
theorem Bl(hro:∀ l,ro=some l->∃ r0,w.heap[l]?=some (Obj.loop r0))(fid:FuncId)(tmps:Array Value)(ps:Array Tmp)(asg bdy:Code) :
  ∃ L mark os rec,(Instr.enterLoop fid tmps ps asg bdy ro).run P w=.ok (L,mark) (grown w os w.drawn)/\(grown w os w.drawn).heap[L]?=some (Obj.loop rec)/\rec.tmps=tmps/\rec.params=ps/\rec.assign=asg/\rec.body=bdy/\rec.state=.ready/\rec.pending=none ∧
   w.heap.size<=L/\bV w.heap.size (grown w os w.drawn) (grown w os w.drawn).heap.size mark:=by
 cases ro with
 | none=>
  obtain⟨W1,hW1⟩:∃ W1,W1=(w.alloc (.deferred (some []))).alloc (.loop { state:=.ready,pending:=none,fn:=fid,tmps,params:=ps,assign:=asg,body:=bdy,defers:=w.heap.size }):=⟨_,rfl⟩
  have hgr:W1=grown w [.deferred (some []),.loop { state:=.ready,pending:=none,fn:=fid,tmps,params:=ps,assign:=asg,body:=bdy,defers:=w.heap.size }] w.drawn:=by
   rw[hW1]
   unfold grown
   show({ w with heap:=(w.heap.push _).push _ }:World)=_
   congr 1<;>(apply Array.ext';simp)
  have hL1:W1.heap[w.heap.size+1]?=some (.loop { state:=.ready,pending:=none,fn:=fid,tmps,params:=ps,assign:=asg,body:=bdy,defers:=w.heap.size }):=by
   rw[hW1];have:=World.alloc_heap_new (w.alloc (.deferred (some []))) (.loop { state:=.ready,pending:=none,fn:=fid,tmps,params:=ps,assign:=asg,body:=bdy,defers:=w.heap.size });rwa [World.size_alloc] at this
  have hK1:W1.heap[w.heap.size]?=some (.deferred (some [])):=by
   rw[hW1];exact(Below.heap_alloc _ _ _ (by simp)).trans (World.alloc_heap_new w _)
  refine⟨w.heap.size+1,[{ target:=.collected w.heap.size,args:=#[] }],[.deferred (some []),.loop { state:=.ready,pending:=none,fn:=fid,tmps,params:=ps,assign:=asg,body:=bdy,defers:=w.heap.size }],{ state:=.ready,pending:=none,fn:=fid,tmps,params:=ps,assign:=asg,body:=bdy,defers:=w.heap.size },(run_enterLoop_outer fid tmps ps asg bdy).trans ?_,?_,rfl,rfl,rfl,rfl,rfl,rfl,Nat.le_succ _,w.heap.size,rfl,Nat.le_refl _,?_,?_,trivial⟩
  rotate_left 1
  ·rw[<-hgr];exact hL1
  rotate_left 1
  ·rw[<-hgr];exact hK1
  ·rw[<-hgr,hW1]
  ·simp[grown]
 | some l0=>
  obtain⟨r0,h0⟩:=hro l0 rfl
  obtain⟨W1,hW1⟩:∃ W1,W1=w.alloc (.loop { state:=.ready,pending:=none,fn:=fid,tmps,params:=ps,assign:=asg,body:=bdy,defers:=r0.defers }):=⟨_,rfl⟩
  have hgr:W1=grown w [.loop { state:=.ready,pending:=none,fn:=fid,tmps,params:=ps,assign:=asg,body:=bdy,defers:=r0.defers }] w.drawn:=by
   rw[hW1]
   unfold grown
   show({ w with heap:=w.heap.push _ }:World)=_
   congr 1<;>(apply Array.ext';simp)
  refine⟨w.heap.size,[],[.loop { state:=.ready,pending:=none,fn:=fid,tmps,params:=ps,assign:=asg,body:=bdy,defers:=r0.defers }],{ state:=.ready,pending:=none,fn:=fid,tmps,params:=ps,assign:=asg,body:=bdy,defers:=r0.defers },(run_enterLoop_inner h0 fid tmps ps asg bdy).trans ?_,?_,rfl,rfl,rfl,rfl,rfl,rfl,Nat.le_refl _,trivial⟩
  rotate_left 1
  ·rw[<-hgr,hW1];exact World.alloc_heap_new w _
  ·rw[<-hgr,hW1]
theorem GW(hE:EnvOk P E){Q:Exit->Act->World->Prop}(hro:∀ l,ro=some l->∃ r0,w.heap[l]?=some (Obj.loop r0))(h:Rp w0 S γ β s a w){f:Operand}{ps:Array Tmp}{asg bdy:Code}{an:Ann}{R:Type}{k:Ex->St->Option R}{r:R}
  (hev:OP E f ps asg bdy an s k=some r) (hQ:Kp Q w0 s S γ a w k r):(Code.rangeFunc f ps asg bdy).wpIn (FW ro) nn P Q a w:=by
 unfold OP at hev
 split at hev<;>first|(cases hev;done)|skip
 rename_i t
 split at hev<;>first|(cases hev;done)|skip
 rename_i g l htm
 split at hev<;>first|(cases hev;done)|skip
 rename_i hcond
 simp only[Bool.and_eq_true,Bool.not_eq_true'] at hcond
 obtain⟨hp,h4095⟩:=hcond
 obtain⟨G,hG,hev⟩:=bind_some_inv hev
 obtain⟨id,hid⟩:∃ id,id=(s.fresh+1)*4096:=⟨_,rfl⟩
 rw[<-hid] at hev
 obtain⟨info,hinfo⟩:∃ info:LpI,info={ nt:=s.nt,ps:=ps.toList,asg:=asg,bdy:=bdy,caps:=fun j=>zb s.ob (s.tm j) }:=⟨_,rfl⟩
 rw[<-hinfo] at hev
 obtain⟨⟨fn,f1,f2,f3⟩,hI⟩:=hE.inl g G hG
 have hb:¬ fn.body=none:=by intro hh;rw[hh] at f3;cases f3
 have f2' : ¬ fn.name = "runtime.NumGoroutine" := by simpa using f2
 refine wpIn_rangeFunc fun fid _=>?_
 obtain⟨L,mark,os,rec,e1,e2,e3,e4,e5,e6,e7,e8,e9,e10⟩:=Bl (P:=P) hro fid a.tmps ps asg bdy
 obtain⟨w1,hw1⟩:∃ w1,w1=grown w os w.drawn:=⟨_,rfl⟩
 obtain⟨g1,le1⟩:=h.grow (os:=os) (d:=w.drawn) (Nat.le_refl _) (S':=S) (fun _ _ hb=>hb) (fun _ _ hb=>.inl hb)
 have kept1:cC w (grown w os w.drawn):=cC.grown
 have hsz1:w.heap.size<=(grown w os w.drawn).heap.size:=by simp
 have hcell1:∀ b o,S b o->(grown w os w.drawn).cell? ⟨b,o,none⟩=w.cell? ⟨b,o,none⟩:=fun b o hb=>cZ (h.Sb b o hb)
 have hold1:∀ b,b<w.heap.size->(grown w os w.drawn).heap[b]?=w.heap[b]?:=fun b hb=>bW hb
 rw[<-hw1] at e1 e2 e10 g1 kept1 hsz1 hcell1 hold1
 clear le1 hw1
 have hLlt:=(Array.getElem?_eq_some_iff.1 e2).1
 have hγid:γ id=none:=h.γf id (by rw[hid];simp only[St.base];omega)
 obtain⟨sX,hsX⟩:∃ sX,sX=({ s with fresh:=s.fresh+1 }:St).setOb id (some (.lp info none)):=⟨_,rfl⟩
 rw[<-hsX] at hev
 have q1:Rp w0 S γ β sX a w1:=by rw[hsX];exact(g1.later.setFree (id:=id) hγid _).1
 have RX:Rp w0 S (mQ γ id L) β sX a w1:=by
  refine(q1.newOb (id:=id) (b:=L) hγid (fun ho=>?_) hLlt (fun i hi=>?_) (fun u f hu hf=>?_) ?_ fun o ho=>?_).1
  ·have:=ho.1;have:=h.ext.sz;omega
  ·have:=(h.γn i _ hi).2;omega
  ·have hu':u ∉ s.dead:=by rw[hsX] at hu;exact hu
   have:=(h.βn u _ _ hu' hf).2.1;omega
  ·rw[hsX];show id<(s.fresh+1)*4096+4096;omega
  ·have ho':some (Ob.lp info none)=some o:=by rw[<-ho,hsX];simp[St.setOb]
   cases ho'
   simp only[fK]
   refine⟨rec,e2,⟨by rw[e3,hinfo];exact h.nt,by rw[e4,hinfo],by rw[e5,hinfo],by rw[e6,hinfo]⟩,fun u hu=>?_,e7,e8⟩
   rw[e3,hinfo]
   have hu':u<s.nt:=by rw[hinfo] at hu;exact hu
   exact g9.mono (c:=⟨w,S,γ,β,s.ob,s.dead⟩) (c':=⟨w1,S,mQ γ id L,β,sX.ob,sX.dead⟩) hcell1 (fun _ _ hb=>hb) (fun i b hb=>dN hγid hb) (Cs (h.tms u (by rw[h.nt];exact hu')))
 have hA:=aM RX (.tmp t)
 have htX:sX.tm t=.clo g l:=by rw[hsX];exact htm
 have hA':AR ⟨w1,S,mQ γ id L,β,sX.ob,sX.dead⟩ (.clo g l) (a.eval (.tmp t)):=by rw[<-htX];exact hA
 simp only[AR,AC] at hA'
 obtain⟨na,caps,hcs,hcap⟩:=hA'
 have hv:=au na hcs
 obtain⟨k1,k2⟩:=jy l caps hp hcap
 refine⟨L,mark,w1,{ target:=.fn (.func g) caps.toArray,args:=#[.func (.yield L) #[] #[]] },w1,g,(Value.func (.yield L) #[] #[]::caps).toArray,w1,e1,?_,fun _ _=>trivial,?_,fun h=>(by cases h),?_⟩
 ·simp only[resolve,hv]
  simp[go_sem,Deferred.ofValue,Act.eval]
 ·simp[invoke,callFunc,f1,f2',hb]
 have hc:=hI an R w0 S (mQ γ id L) β sX a w1 (.yld id::l) (Value.func (.yield L) #[] #[]::caps) _ r RX (by simp[k1]) (fun i x v hx hv=>by
  cases i with
  | zero=>
   simp only[List.getElem?_cons_zero,Option.some.injEq] at hx hv
   subst hx;subst hv
   simp only[AR,AC]
   exact⟨fun _ h=>(by cases h),L,rfl,bn _ _ _⟩
  | succ i=>exact k2 i x v (by simpa using hx) (by simpa using hv)) hev
 refine uU (hc.mono fun e w' ⟨v,y,s',S',γ',β',z1,z2,z3,_,z5,z6⟩=>?_)
 subst z1
 have hγ':γ' id=some L:=z5.gam id L (bn _ _ _)
 have fin:∀ (p:Option Ex) (i:LpI),s'.ob id=some (.lp i p)->∃ w4,(Instr.endLoop L).run P w'=.ok (p.map wY) w4/\Rp w0 S' γ' β' (s'.setOb id none) { a with defers:=mark++a.defers } w4/\Fm s S γ a w S' γ' { a with defers:=mark++a.defers } w4/\Sk s (s'.setOb id none):=by
  intro p i hob
  have hO:=z3.obs id _ L hob hγ'
  simp only[fK] at hO
  obtain⟨rec',v1,_,_,v4⟩:=hO
  have hst:rec'.state≠.busy/\rec'.pending=p.map wY:=by
   cases p with
   | none=>exact⟨by rw[v4.1];simp,v4.2⟩
   | some e=>exact⟨by rw[v4.1];simp,v4.2⟩
  have F4:=Fm.setLp z3 (s1:=s) v1 (r':={ rec' with state:=.exhausted }) ⟨rfl,rfl,rfl,rfl⟩
  have hlkO:sX.lkO=s.lkO:=by rw[hsX];rfl
  have hlkS:sX.lkS=s.lkS:=by rw[hsX];rfl
  have hnt:sX.nt=s.nt:=by rw[hsX];rfl
  refine⟨_,by rw[<-hst.2];exact run_endLoop v1 hst.1,(z3.setLp hγ' v1 _).act rfl,⟨z5.sub,fun b o hb=>(F4.cell b o (z5.sub b o hb)).trans ((z5.cell b o hb).trans (hcell1 b o hb)),fun _ _=>rfl,fun j hj b hb=>?_,Nat.le_trans hsz1 (Nat.le_trans z5.sz F4.sz),fun j b hb=>z5.gam j b (dN hγid hb),?_,mark,rfl,?_,?_⟩,⟨z6.lkS.trans hlkS,z6.lkO.trans hlkO,z6.nt.trans hnt⟩⟩
  ·obtain⟨y1,y2⟩:=z5.objs j (by rw[hlkO];exact hj) b (dN hγid hb)
   obtain⟨_,y3⟩:=F4.objs j hj b y1
   exact⟨y1,(gN.trans (.inl (hold1 b (h.γn j b hb).2)) y2).trans y3⟩
  ·exact(kept1.trans z5.dfs.1).trans F4.dfs.1
  ·exact e10.mono (Nat.le_refl _) (z5.dfs.1.trans F4.dfs.1) (Nat.le_trans z5.sz F4.sz)
  ·intro hh
   have:s.lkO.contains 4095=true:=by simpa using hh
   rw[this] at h4095;cases h4095
 simp only[rangePost]
 split at z2<;>first|(cases z2;done)|skip
 ·rename_i i hob
  obtain⟨w4,y1,y2,y3,y4⟩:=fin none i hob
  exact⟨_,w4,y1,hQ .normal _ S' γ' β' _ w4 y2 y3 y4 z2⟩
 ·rename_i i e hob
  obtain⟨w4,y1,y2,y3,y4⟩:=fin (some e) i hob
  refine⟨_,w4,y1,?_⟩
  have hq:=hQ e _ S' γ' β' _ w4 y2 y3 y4 z2
  cases e with
  | normal=>exact wpIn_skip hq
  | exit j=>exact wpIn_exit hq
  | ret=>exact wpIn_ret hq
end
end Sy
end
noncomputable section
namespace Sy
open Go
variable{ro:Option Nat}{nn:Nat}
section
variable{V:Nat->St->Option AV}{ops:Array Oper}{md:Region.Mode}
def oI(V:Nat->St->Option AV)(ops:Array Oper)(i:Nat)(K:St->Prop)(s:St):Prop:=
 match ops[i]? with
 | none=>K s
 | some o=>∃ v,V i s=some v/\K (s.put o.dst v)
def me(V:Nat->St->Option AV)(md:Region.Mode)(ops:Array Oper)(n:Nat)(L:Array Bool->St->Prop):Nat->Array Bool->St->Prop
 | 0,listed,s=>L listed s
 | f+1,listed,s=>Region.ready md ops listed≠[]/\∀ i∈Region.ready md ops listed,i<n/\oI V ops i (me V md ops n L f (listed.setIfInBounds i true)) s
def gO(V:Nat->St->Option AV)(ops:Array Oper):Nat->Nat->St->Option St
 | 0,_,s=>some s
 | c+1,k,s=>(V k s).bind fun v=>gO V ops c (k+1) (s.put ((ops[k]?).bind (·.dst)) v)
theorem wA:∀ (c d k:Nat) (s:St),gO V ops (c+d) k s=(gO V ops c k s).bind fun s'=>gO V ops d (k+c) s'
 | 0,d,k,s=>by simp[gO]
 | c+1,d,k,s=>by
  rw[show c+1+d=(c+d)+1 by omega]
  simp only[gO]
  cases V k s with
  | none=>rfl
  | some v=>
   simp only[Option.bind_some]
   rw[wA c d (k+1),show k+1+c=k+(c+1) by omega]
def JW(V:Nat->St->Option AV)(ops:Array Oper):Prop:=∀ i oi,ops[i]?=some oi->∀ (s:St) (d:Option Nat) (v:AV),(∀ t,d=some t->t ∉ oi.looksAt ops)->V i (s.put d v)=V i s
theorem vA{n i:Nat}{oi:Oper}{v:AV}{L:Array Bool->St->Prop}(hV:JW V ops)(hi:ops[i]?=some oi)(hW:jA md ops n)(hin:i<n)
  (hdone:∀ listed s,L listed s->∀ j∈Region.ready md ops listed,n<=j) :
  ∀ (f:Nat) (listed:Array Bool) (s:St),HeadInv md ops n listed ->
   (∀ j oj,ops[j]?=some oj->j≠i->listed.getD j true=false->(∀ e∈oj.after,Region.binds md e=true->e.on≠i)->oi.apart ops oj=true) ->
   i∈Region.ready md ops listed->V i s=some v ->
   me V md ops n L f (listed.setIfInBounds i true) (s.put oi.dst v)->me V md ops n L (f+1) listed s:=by
 intro f
 induction f with
 | zero=>
  intro listed s inv _ hr hy H
  have hun:=(mem_ready.1 hr).1
  refine⟨fun h=>(by rw[h] at hr;cases hr),fun j hj=>?_⟩
  have hjn:j<n:=by
   rcases Nat.lt_or_ge j n with h|h
   ·exact h
   ·exact absurd hj (hW _ _ inv hin hun j h)
  refine⟨hjn,?_⟩
  by_cases hji:j=i
  ·subst hji;unfold oI;rw[hi];exact⟨v,hy,H⟩
  ·have:=hdone _ _ H j (ready_mono hj hji)
   omega
 | succ f ih=>
  intro listed s inv hfree hr hy H
  have hun:=(mem_ready.1 hr).1
  refine⟨fun h=>(by rw[h] at hr;cases hr),fun j hj=>?_⟩
  have hjn:j<n:=by
   rcases Nat.lt_or_ge j n with h|h
   ·exact h
   ·exact absurd hj (hW _ _ inv hin hun j h)
  refine⟨hjn,?_⟩
  by_cases hji:j=i
  ·subst hji;unfold oI;rw[hi];exact⟨v,hy,H⟩
  ·have h1:=(H.2 j (ready_mono hj hji)).2
   obtain⟨hjun,oj,hoj,hall⟩:=mem_ready.1 hj
   have hnot:∀ e∈oj.after,Region.binds md e=true->e.on≠i:=fun e he hb heq=>by
    have h1:=hall e he hb
    rw[heq,getD_both hun] at h1
    cases h1
   obtain⟨a1,a2,a3⟩:=Oper.apart_spec (hfree j oj hoj hji hjun hnot)
   unfold oI at h1 ⊢
   rw[hoj] at h1 ⊢
   obtain⟨u,k1,k2⟩:=h1
   rw[hV j oj hoj _ _ _ a1] at k1
   refine⟨u,k1,ih (listed.setIfInBounds j true) (s.put oj.dst u) (inv.set hj hjn) (fun k ok hk hki hun hno=>?_) (ready_mono hr (Ne.symm hji)) ?_ ?_⟩
   ·refine hfree k ok hk hki ?_ hno
    by_cases hjk:j=k
    ·subst hjk;exact hjun
    ·rw[getD_set_ne true hjk] at hun;exact hun
   ·rw[hV i oi hi _ _ _ a3];exact hy
   ·rw[Array.setIfInBounds_comm _ _ hji,wj u v (fun d hd he=>a2 d he hd)]
    exact k2
theorem nu{n g:Nat}{sF:St}(hV:JW V ops)(hn:n<=ops.size)(hW:jA md ops n) :
  ∀ (c k:Nat) (listed:Array Bool) (s:St),k+c=n->HeadInv md ops n listed->(∀ i,i<k->listed.getD i false=true) ->
  Region.lexHead md ops g c k listed=true->gO V ops c k s=some sF ->
  me V md ops n (fun listed' s'=>Region.seqB md ops g n listed'=true/\(∀ i,i<n->listed'.getD i false=true)/\s'=sF) c listed s
 | 0,k,listed,s,hk,_,hl,hB,h=>by
  have:k=n:=by simpa using hk
  subst this
  simp only[gO,Option.some.injEq] at h
  exact⟨by simpa [Region.lexHead] using hB,hl,h⟩
 | c+1,k,listed,s,hk,inv,hl,hB,h=>by
  have hkn:k<n:=by omega
  have hks:k<ops.size:=by omega
  have h0:ops[k]?=some ops[k]:=Array.getElem?_eq_getElem hks
  simp only[Region.lexHead,Bool.and_eq_true] at hB
  obtain⟨⟨hr,hf⟩,hB'⟩:=hB
  have hr':k∈Region.ready md ops listed:=by simpa using hr
  simp only[gO] at h
  obtain⟨v,h1,h2⟩:=bind_some_inv h
  rw[h0,Option.bind_some] at h2
  refine vA hV h0 hW hkn (fun listed' s' hL=>seqB_ready hL.1) c listed s inv (Region.free_spec h0 hf) hr' h1
   (nu hV hn hW c (k+1) _ _ (by omega) (inv.set hr' hkn) (fun i hi=>?_) hB' h2)
  by_cases e:i=k
  ·subst e
   have:i<listed.size:=by rw[inv.size];exact hks
   simp[this]
  ·exact getD_set_true (hl i (by omega))
theorem ns{n:Nat}{L:Array Bool->St->Prop}{T:List Nat}:∀ (f:Nat) (listed:Array Bool) (s:St),me V md ops n L f listed s ->
  (∀ t∈T,∀ j oj,ops[j]?=some oj->listed.getD j true=false->oj.dst≠some t)->∃ listed' s',L listed' s'/\(∀ t∈T,s'.tm t=s.tm t)/\s'.ob=s.ob/\Sm s s'
 | 0,listed,s,h,_=>⟨listed,s,h,fun _ _=>rfl,rfl,Sm.refl s⟩
 | f+1,listed,s,h,hT=>by
  obtain⟨h1,h2⟩:=h
  obtain⟨i,hi⟩:=List.exists_mem_of_ne_nil _ h1
  obtain⟨hin,hst⟩:=h2 i hi
  obtain⟨hun,o,ho,_⟩:=mem_ready.1 hi
  unfold oI at hst
  rw[ho] at hst
  obtain⟨v,_,k2⟩:=hst
  obtain⟨l',s',m1,m2,m3,m4⟩:=ns f _ _ k2 (fun t ht j oj hj hu=>by
   by_cases e:i=j
   ·subst e
    exfalso
    rcases Nat.lt_or_ge i listed.size with hlt|hge
    ·simp[Array.getD,hlt] at hu
    ·simp[Array.getD,Nat.not_lt.2 hge] at hu
   ·rw[getD_set_ne true e] at hu;exact hT t ht j oj hj hu)
  have p:=St.put_fields s o.dst v
  exact⟨l',s',m1,fun t ht=>(m2 t ht).trans (qy (hT t ht i o ho hun)),m3.trans p.1,(Sm.put s o.dst v).trans m4⟩
end
section
variable{E:Env}{ops:Array Oper}
def kL(E:Env)(ops:Array Oper)(n id i:Nat)(s:St):Option AV:=if i=n then some .undef else qb E ops n id i s some
theorem sO(s:St)(d:Option Nat)(v:AV)(id:Nat)(o:Option Ob):(s.put d v).setOb id o=(s.setOb id o).put d v:=by
 cases d with
 | none=>rfl
 | some d=>
  by_cases h:d<s.nt
  ·simp only[St.put,St.setOb,h,if_true]
  ·simp only[St.put,St.setOb,h,if_false]
theorem BC(n id:Nat):JW (kL E ops n id) ops:=by
 intro i oi hi s d v h
 unfold kL
 split
 ·rfl
 ·obtain⟨p1,p2,p3,p4,p5,p6,p7⟩:=St.put_fields s d v
  obtain⟨q1,q2,q3,q4,q5,q6,q7⟩:=St.put_fields (s.setOb id none) d v
  have e1:ij (s.put d v) oi=ij s oi:=by simp only[ij,p5]
  have hx:∀ x∈oi.op.operands,∀ t,d=some t->x≠.tmp t:=fun x hx t ht e=>h t ht (by
   subst e
   exact List.mem_append_left _ (List.mem_filterMap.2 ⟨.tmp t,by simpa using hx,rfl⟩))
  have e2:qv E (s.put d v) oi some=qv E s oi some:=jX p1 p2 fun x hm=>ko (hx x hm)
  have e3:qv E ((s.put d v).setOb id none) oi some=qv E (s.setOb id none) oi some:=by
   rw[sO]
   exact jX q1 q2 fun x hm=>ko (hx x hm)
  unfold qb
  rw[hi]
  simp only[e1,e2,e3]
theorem vK{R:Type}{n id i:Nat}{s:St}{K:AV->Option R}{r:R}(h:qb E ops n id i s K=some r):∃ v,qb E ops n id i s some=some v/\K v=some r:=by
 unfold qb at h ⊢
 split at h<;>first|(cases h;done)|skip
 split at h<;>first|(cases h;done)|skip
 rename_i hlk
 rw[if_neg hlk]
 split at h
 ·rename_i hw
  rw[if_pos hw];exact eU h
 ·rename_i hw
  rw[if_neg hw]
  split at h<;>first|(cases h;done)|skip
  rename_i hk
  rw[if_pos hk];exact eU h
theorem yA{R:Type}{n id:Nat}{K:St->Option R}{r:R}:∀ (c k:Nat) (s:St),k+c<=n->GV E ops n id c k s K=some r->∃ s',gO (kL E ops n id) ops c k s=some s'/\K s'=some r
 | 0,k,s,_,h=>⟨s,rfl,h⟩
 | c+1,k,s,hk,h=>by
  simp only[GV] at h
  obtain⟨v,h1,h2⟩:=vK h
  obtain⟨s',h3,h4⟩:=yA c (k+1) _ (by omega) h2
  refine⟨s',?_,h4⟩
  simp only[gO,kL,if_neg (show ¬ k=n by omega),h1,Option.bind_some]
  exact h3
mutual
theorem Ct(ob ob':Nat->Option Ob):∀ (t:Ty) (a:AV),AV.toD ob t a=AV.toD ob' t a
 | t,.st ts l=>by simp only[AV.toD,zd ob ob' ts l]
 | t,.d _ _=>by cases t<;>simp only[AV.toD]
 | t,.own _ _ _=>by cases t<;>simp only[AV.toD]
 | t,.nils=>by cases t<;>simp only[AV.toD]
 | t,.ptr _ _ _=>by cases t<;>simp only[AV.toD]
 | t,.yld _=>by cases t<;>simp only[AV.toD]
 | t,.fptr _ _=>by cases t<;>simp only[AV.toD]
 | t,.mem _ _=>by cases t<;>simp only[AV.toD]
 | t,.clo _ _=>by cases t<;>simp only[AV.toD]
 | t,.map _ _ _=>by cases t<;>simp only[AV.toD]
 | t,.sub _ _ _ _ _ _=>by cases t<;>simp only[AV.toD]
 | t,.gone=>by cases t<;>simp only[AV.toD]
 | t,.undef=>by cases t<;>simp only[AV.toD]
theorem zd(ob ob':Nat->Option Ob):∀ (ts:List Ty) (l:List AV),AV.toDl ob ts l=AV.toDl ob' ts l
 | [],[]=>rfl
 | [],_::_=>rfl
 | _::_,[]=>rfl
 | t::ts,a::l=>by simp only[AV.toDl,Ct ob ob' t a,zd ob ob' ts l]
end
theorem sJ{s s':St}(htm:s'.tm=s.tm)(ty:Nat->Option Ty):∀ l:List (Nat×Operand),partsD s'.ob s' ty l=partsD s.ob s ty l
 | []=>rfl
 | (i,x)::l=>by
  have e:s'.opA x=s.opA x:=by cases x<;>simp only[St.opA,htm]
  simp only[partsD,e,sJ htm ty l]
  cases ty i with
  | none=>rfl
  | some t=>simp only[Option.bind_some,Ct s'.ob s.ob t]
theorem zH{s s':St}{id:Nat}(htm:s'.tm=s.tm)(hfr:s'.fresh=s.fresh)(hob:∀ j,j≠id->s'.ob j=s.ob j)(hid:s.ob id=none){o:Oper}(hk:p9 o=true){v:AV}(h:qv E s o some=some v):qv E s' o some=some v:=by
 have op:∀ x,s'.opA x=s.opA x:=fun x=>by cases x<;>simp only[St.opA,htm]
 have obm:∀ {j:Nat} {ob:Ob},s.ob j=some ob->s'.ob j=some ob:=fun{j ob} hj=>by
  by_cases e:j=id
  ·subst e;rw[hid] at hj;cases hj
  ·rw[hob j e];exact hj
 obtain⟨dst,op',ty,pos,after,guard⟩:=o
 cases op'<;>simp only[p9] at hk<;>first|(cases hk;done)|skip
 case build T ps=>
  simp only[qv] at h ⊢
  obtain⟨t,ht,h2⟩:=bind_some_inv h
  rw[ht,Option.bind_some]
  have e2:∀ ts,ps.toList.all (eM s' ts)=ps.toList.all (eM s ts):=fun ts=>by
   congr 1;funext p;simp only[eM,op]
  have e3:(ps.toList.map fun p=>(p.1,s'.opA p.2))=ps.toList.map fun p=>(p.1,s.opA p.2):=by simp only[op]
  cases t<;>simp only[sJ htm,e2,e3]<;>exact h2
 case load T a=>
  simp only[qv] at h ⊢
  obtain⟨t,ht,h2⟩:=bind_some_inv h
  rw[ht,Option.bind_some,op]
  cases hs:s.opA a<;>rw[hs] at h2<;>simp only at h2 ⊢<;>first|(cases h2;done)|exact h2|skip
  ·split at h2<;>first|(cases h2;done)|skip
   rename_i hc
   rw[if_pos hc]
   obtain⟨ob,h3,h4⟩:=bind_some_inv h2
   rw[obm h3];exact h4
  ·split at h2<;>first|(cases h2;done)|skip
   rename_i hc
   rw[if_pos hc]
   obtain⟨ob,h3,h4⟩:=bind_some_inv h2
   rw[obm h3];exact h4
 case fieldAddr T x f=>
  simp only[qv,op] at h ⊢
  exact h
 case extract x i=>
  simp only[qv,op] at h ⊢
  exact h
 case move x=>
  simp only[qv,op] at h ⊢
  exact h
 case alloc T=>
  simp only[qv,St.base,hfr] at h ⊢
  exact h
end
section
variable{P:Program}{E:Env}{w0:Root}{ops:Array Oper}
def mP(n id:Nat)(ob1:Ob)(listed:Array Bool)(s:St):St:=if listed.getD n false then s.setOb id (some ob1) else s
theorem Sm.setOb(s:St)(id:Nat)(o:Option Ob):Sm s (s.setOb id o):=⟨rfl,rfl,rfl,rfl⟩
theorem jm(hE:EnvOk P E){n g id T p x:Nat}{u t t':Ty}{v0 v1:AV}{ostore:Oper}{L:Array Bool->St->Prop}{Q:Exit->Act->World->Prop}{s0:St}{S0:Nat->Nat->Prop}{γ0:Nat->Option Nat}{a0:Act}{w1:World}
  (hn:ops[n]?=some ostore) (hop:ostore.op=.store T (.tmp p) (.tmp x)) (hdst:ostore.dst=none) (hgd:ostore.guard=none)
  (hp:∀ (j:Nat) (oj:Oper),ops[j]?=some oj->oj.dst=some p->Region.waitsFor .any ops n j=true) (hx:∀ (j:Nat) (oj:Oper),ops[j]?=some oj->oj.dst=some x->Region.waitsFor .any ops n j=true)
  (hheads:∀ (j:Nat) (oj:Oper),j<n->ops[j]?=some oj->oj.guard=none)
  (hT:E.L T=some t) (htt:t.beq t'=true) (hf1:AV.fits t v1=true) (hlk:s0.lkO.contains id=false) (hob0:s0.ob id=some (.one u v0))
  (hd:∀ (i j:Nat) (oi oj:Oper),i≠j->ops[i]?=some oi->ops[j]?=some oj->∀ d,oj.dst=some d->oi.dst≠some d)
  (hLs:∀ listed s,L listed s->s.tm p=.ptr t' id []/\s.tm x=v1/\listed.getD n false=true)
  (hL:∀ listed s S γ β a w,Rp w0 S γ β (s.setOb id (some (.one u v1))) a w->Fm s0 S0 γ0 a0 w1 S γ a w->Sm s0 s->(∀ j oj,ops[j]?=some oj->listed.getD j true=false->Fr E (s.setOb id (some (.one u v1))) γ β oj)->L listed s->wpAnyIn (FW ro) nn P .any ops Q g listed a w) :
  ∀ (f:Nat) (listed:Array Bool) (s:St) (S:Nat->Nat->Prop) (γ:Nat->Option Nat) (β:Nat->Option (Nat×Nat)) (a:Act) (w:World),Rp w0 S γ β (mP n id (.one u v1) listed s) a w->Fm s0 S0 γ0 a0 w1 S γ a w->Sm s0 s->s.ob=s0.ob ->
   (listed.getD n false=true->∀ j,Region.waitsFor .any ops n j=true->listed.getD j false=true) ->
   (∀ j oj,ops[j]?=some oj->listed.getD j true=false->Fr E (mP n id (.one u v1) listed s) γ β oj)->me (kL E ops n id) .any ops (n+1) L f listed s->wpAnyIn (FW ro) nn P .any ops Q (f+g) listed a w
 | 0,listed,s,S,γ,β,a,w,h,hF,hS,hob,hcl,hfr,hh=>by
  rw[Nat.zero_add]
  have hh':L listed s:=hh
  have e:mP n id (.one u v1) listed s=s.setOb id (some (.one u v1)):=by unfold mP;rw[if_pos (hLs _ _ hh').2.2]
  rw[e] at h
  exact hL _ _ _ _ _ _ _ h hF hS (fun j oj hj hu=>e ▸ hfr j oj hj hu) hh'
 | f+1,listed,s,S,γ,β,a,w,h,hF,hS,hob,hcl,hfr,hh=>by
  rw[show f+1+g=(f+g)+1 by omega]
  refine⟨fun h0=>absurd h0 hh.1,fun i hi=>?_⟩
  obtain⟨hin,hst⟩:=hh.2 i hi
  have hun:=(mem_ready.1 hi).1
  have unl:∀ j,(listed.setIfInBounds i true).getD j true=false->i≠j/\listed.getD j true=false:=fun j hu=>by
   by_cases hij:i=j
   ·subst hij
    exfalso
    rcases Nat.lt_or_ge i listed.size with hlt|hge
    ·simp[Array.getD,hlt] at hu
    ·simp[Array.getD,Nat.not_lt.2 hge] at hu
   ·rw[getD_set_ne true hij] at hu;exact⟨hij,hu⟩
  by_cases hni:i=n
  ·
   subst hni
   have hlf:=getD_both hun
   have hsz:i<listed.size:=by
    rcases Nat.lt_or_ge i listed.size with hlt|hge
    ·exact hlt
    ·simp[Array.getD,Nat.not_lt.2 hge] at hun
   have e0:mP i id (.one u v1) listed s=s:=by unfold mP;rw[hlf];rfl
   rw[e0] at h
   unfold oI at hst
   rw[hn] at hst
   simp only at hst
   obtain⟨v,hv,hst⟩:=hst
   rw[hdst] at hst
   have hst:me (kL E ops i id) .any ops (i+1) L f (listed.setIfInBounds i true) s:=hst
   obtain⟨_,o',ho',hall⟩:=mem_ready.1 hi
   rw[hn] at ho';cases ho'
   obtain⟨l',s',m1,m2,m3,m4⟩:=ns (T:=[p,x]) f _ _ hst (fun t ht j oj hj hu=>by
    simp only[List.mem_cons,List.not_mem_nil,or_false] at ht
    intro hdj
    have hw:Region.waitsFor .any ops i j=true:=by
     rcases ht with rfl|rfl
     ·exact hp j oj hj hdj
     ·exact hx j oj hj hdj
    obtain⟨ow,how,e,he,hb,hon⟩:=Region.waitsFor_spec hw
    rw[hn] at how;cases how
    have h1:=hall e he hb
    rw[hon] at h1
    obtain⟨_,hu'⟩:=unl j hu
    rw[getD_both hu'] at h1;cases h1)
   obtain⟨z1,z2,z3⟩:=hLs _ _ m1
   rw[m2 p (by simp)] at z1
   rw[m2 x (by simp)] at z2
   have hobs:s.ob id=some (.one u v0):=by rw[hob];exact hob0
   have hlks:s.lkO.contains id=false:=by rw[hS.lkO];exact hlk
   have hev:og E s ostore some=some (s.setOb id (some (.one u v1))):=by
    unfold og
    rw[hop]
    simp only[hT,Option.bind_some,St.opA,z1,z2,htt,hf1,hlks,hobs,Bool.not_false,Bool.and_true,if_true,xM]
   obtain⟨s1,k1,k2⟩:=tD hE h (e0 ▸ hfr i ostore hn hun) (fun T t _ ht=>hE.flat T t ht) (fun t _=>by rw[hdst];simp) (fun _ _ _ _=>hdst) hev
   cases k1
   obtain⟨r1,r2,r3,r4,r5,r6⟩:=k2
   unfold wpOpIn
   rw[hn]
   simp only
   rw[if_pos (by simp[Region.wanted,hgd])]
   refine(aV r6 fun val w' ⟨S',γ',β',m1,m2,m3⟩=>?_)
   have el:mP i id (.one u v1) (listed.setIfInBounds i true) s=s.setOb id (some (.one u v1)):=by
    unfold mP;rw[if_pos (by simp[hsz])]
   refine jm hE hn hop hdst hgd hp hx hheads hT htt hf1 hlk hob0 hd hLs hL f _ s S' γ' β' _ _ (by rw[el];exact m1) (hF.trans m2 hS.lkS hS.lkO) hS hob (fun _ j hw=>?_) (fun j oj hj hu=>?_) hst
   ·obtain⟨ow,how,e,he,hb,hon⟩:=Region.waitsFor_spec hw
    rw[hn] at how;cases how
    have h1:=hall e he hb
    rw[hon] at h1
    exact getD_set_true h1
   ·rw[el]
    obtain⟨_,hu'⟩:=unl j hu
    exact(e0 ▸ hfr j oj hj hu':Fr E s γ β oj).keep (fun d _=>by rw[hdst];simp) rfl (fun id' h1 h2=>r5 id' h1 h2) m3
  ·
   have hilt:i<n:=by omega
   obtain⟨_,o,ho,hall⟩:=mem_ready.1 hi
   unfold oI at hst
   rw[ho] at hst
   simp only at hst
   obtain⟨v,hv,hst⟩:=hst
   unfold kL at hv
   rw[if_neg hni] at hv
   unfold qb at hv
   rw[ho] at hv
   simp only at hv
   split at hv<;>first|(cases hv;done)|skip
   rename_i hlko
   have hog:=hheads i o hilt ho
   have hlkl:ij (mP n id (.one u v1) listed s) o=ij s o:=by unfold mP;split<;>rfl
   have hval:val E ops (mP n id (.one u v1) listed s) o=some v:=by
    unfold val
    rw[hlkl,if_neg hlko,hog]
    simp only
    split at hv
    ·rename_i hw
     have:listed.getD n false=false:=by
      cases hln:listed.getD n false with
      | false=>rfl
      | true=>
       have:=hcl hln i hw
       rw[getD_both hun] at this;cases this
     have e:mP n id (.one u v1) listed s=s:=by unfold mP;rw[this];rfl
     rw[e];exact hv
    ·split at hv<;>first|(cases hv;done)|skip
     rename_i hk
     refine zH (s:=s.setOb id none) (id:=id) ?_ ?_ (fun j hj=>?_) ?_ hk hv
     ·unfold mP;split<;>rfl
     ·unfold mP;split<;>rfl
     ·unfold mP;split<;>simp[St.setOb,hj]
     ·simp[St.setOb]
   have el:(mP n id (.one u v1) listed s).put o.dst v=mP n id (.one u v1) (listed.setIfInBounds i true) (s.put o.dst v):=by
    unfold mP
    rw[getD_set_ne false hni]
    split
    ·rw[sO]
    ·rfl
   obtain⟨k1,k2⟩:=uu hE h (hfr i o ho hun) hval
   have pf:=St.put_fields s o.dst v
   have smL:Sm s0 (mP n id (.one u v1) listed s):=by
    unfold mP;split
    ·exact hS.trans (Sm.setOb s id _)
    ·exact hS
   have pl:=St.put_fields (mP n id (.one u v1) listed s) o.dst v
   have frn:∀ {γ':Nat->Option Nat} {β':Nat->Option (Nat×Nat)},(∀ id':Nat,o.dst≠some (id'-(mP n id (.one u v1) listed s).base)\/id'<(mP n id (.one u v1) listed s).base->γ' id'=γ id'/\β' id'=β id')->∀ j oj,ops[j]?=some oj->(listed.setIfInBounds i true).getD j true=false->Fr E (mP n id (.one u v1) (listed.setIfInBounds i true) (s.put o.dst v)) γ' β' oj:=fun hk j oj hj hu=>by
    obtain⟨hij,hu'⟩:=unl j hu
    rw[<-el]
    exact(hfr j oj hj hu').keep (fun d hdj=>hd i j o oj hij ho hj d hdj) pl.2.1 (fun id' _ _=>by rw[pl.1]) hk
   have hcl':(listed.setIfInBounds i true).getD n false=true->∀ j,Region.waitsFor .any ops n j=true->(listed.setIfInBounds i true).getD j false=true:=fun h1 j hw=>by
    rw[getD_set_ne false hni] at h1
    exact getD_set_true (hcl h1 j hw)
   unfold wpOpIn
   rw[ho]
   simp only
   split
   ·rename_i hw
    refine(aV (k1 hw) fun u' w' ⟨S',γ',β',m1,m2,m3⟩=>?_)
    exact jm hE hn hop hdst hgd hp hx hheads hT htt hf1 hlk hob0 hd hLs hL f _ _ S' γ' β' _ _ (el ▸ m1) (hF.trans m2 smL.lkS smL.lkO) (hS.trans (Sm.put s o.dst v)) (pf.1.trans hob) hcl' (frn m3) hst
   ·rename_i hw
    obtain⟨m1,m2⟩:=k2 (by simpa using hw)
    refine⟨fun _ _=>trivial,?_⟩
    exact jm hE hn hop hdst hgd hp hx hheads hT htt hf1 hlk hob0 hd hLs hL f _ _ S γ β _ _ (el ▸ m1) (hF.trans m2 smL.lkS smL.lkO) (hS.trans (Sm.put s o.dst v)) (pf.1.trans hob) hcl' (frn fun id _=>⟨rfl,rfl⟩) hst
theorem qz(hE:EnvOk P E){id:Nat}{n:Nat}{Q:Exit->Act->World->Prop}{S:Nat->Nat->Prop}{γ:Nat->Option Nat}{β:Nat->Option (Nat×Nat)}{s:St}{a:Act}{w:World}{R:Type}{k:St->Option R}{r:R}{N:Nat}
  (h:Rp w0 S γ β s a w) (hf:zh E s γ β ops.toList) (hm:bz ops.toList=true) (hlt:qa ops n=true) {an:Ann}
  (hev:GV E ops n (iZ ops n s) n 0 s (fun s2=>if p8 ops n s2=some (iZ ops n s) then dD E N R ops an ((aJ 0 ops.toList).drop n) s2 k else none)=some r)
  (hQ:∀ s' S' γ' β' a' w',Rp w0 S' γ' β' s' a' w'->Fm s S γ a w S' γ' a' w'->Sk s s'->k s'=some r->Q .normal a' w'):(Code.region id ops true).wpIn (FW ro) nn P Q a w:=by
 simp only[bz,Bool.and_eq_true] at hm
 obtain⟨⟨hm1,hm2⟩,hm3⟩:=hm
 have hstores:(ops.toList.all fun o=>match o.op with|.store ..=>o.dst.isNone|_=>true)=true:=hm3
 unfold qa at hlt
 split at hlt<;>first|(cases hlt;done)|skip
 rename_i ostore hn
 split at hlt<;>first|(cases hlt;done)|skip
 rename_i T p x hop
 obtain⟨ido,hid⟩:∃ ido,iZ ops n s=ido:=⟨_,rfl⟩
 rw[hid] at hev
 simp only[Bool.and_eq_true] at hlt
 obtain⟨⟨⟨⟨⟨l2,l3⟩,l4⟩,l5⟩,l6⟩,l7⟩:=hlt
 have hns:n<ops.size:=(Array.getElem?_eq_some_iff.1 hn).1
 have hnm:ostore∈ops.toList:=Array.mem_toList_iff.2 (Array.mem_of_getElem? hn)
 have hdst:ostore.dst=none:=by
  have:=List.all_eq_true.1 hm3 ostore hnm
  rw[hop] at this
  simpa using this
 have hpx:∀ (j:Nat) (oj:Oper),ops[j]?=some oj->(oj.dst=some p\/oj.dst=some x)->Region.waitsFor .any ops n j=true:=fun j oj hj e=>by
  have hjlt:=(Array.getElem?_eq_some_iff.1 hj).1
  have:=List.all_eq_true.1 l2 j (List.mem_range.2 hjlt)
  rw[hj,Option.bind_some] at this
  rcases e with e|e<;>(rw[e] at this;simpa using this)
 have hp:∀ (j:Nat) (oj:Oper),ops[j]?=some oj->oj.dst=some p->Region.waitsFor .any ops n j=true:=fun j oj hj e=>hpx j oj hj (.inl e)
 have hx:∀ (j:Nat) (oj:Oper),ops[j]?=some oj->oj.dst=some x->Region.waitsFor .any ops n j=true:=fun j oj hj e=>hpx j oj hj (.inr e)
 have hheads:∀ (j:Nat) (oj:Oper),j<n->ops[j]?=some oj->oj.guard=none:=fun j oj hjn hj=>by
  have hm':oj∈ops.toList.take n:=by
   refine List.mem_of_getElem? (i:=j) ?_
   rw[List.getElem?_take_of_lt hjn,Array.getElem?_toList];exact hj
  have:=List.all_eq_true.1 l3 oj hm'
  simp only[Bool.and_eq_true] at this
  simpa using this.2
 have htails:∀ o∈ops.toList.drop n,o.guard=none:=fun o ho=>by
  have:=List.all_eq_true.1 l4 o ho
  simp only[Bool.and_eq_true] at this
  simpa using this.1
 have hdrop:ops.toList.drop n=ostore::ops.toList.drop (n+1):=by
  have h1:n<ops.toList.length:=by simpa using hns
  rw[List.drop_eq_getElem_cons h1]
  have:ops.toList[n]=ostore:=by
   have:=(Array.getElem?_eq_some_iff.1 hn).2
   simpa using this
  rw[this]
 have hgd:ostore.guard=none:=htails ostore (by rw[hdrop];simp)
 obtain⟨s',q1,q2⟩:=yA n 0 s (by omega) hev
 split at q2<;>first|(cases q2;done)|skip
 rename_i hat
 obtain⟨t0,hptr⟩:∃ t0,s'.tm p=.ptr t0 ido []:=by
  unfold p8 at hat
  simp only[hn,hop] at hat
  split at hat<;>first|(cases hat;done)|skip
  rename_i t0 id0 hpe
  cases hat
  exact⟨t0,hpe⟩
 have hnum:(aJ 0 ops.toList).drop n=(n,ostore)::(aJ 0 ops.toList).drop (n+1):=by
  have h1:n<(aJ 0 ops.toList).length:=by rw[fH];simpa using hns
  rw[List.drop_eq_getElem_cons h1]
  have key:∀ (l:List Oper) (i j:Nat) (o:Oper),l[j]?=some o->(aJ i l)[j]?=some (i+j,o):=by
   intro l
   induction l with
   | nil=>intro i j o hj;simp at hj
   | cons y l ih=>
    intro i j o hj
    cases j with
    | zero=>simp at hj;subst hj;simp[aJ]
    | succ j=>simp only[List.getElem?_cons_succ] at hj;simp only[aJ,List.getElem?_cons_succ];rw[ih (i+1) j o hj];congr 2;omega
  have:=key ops.toList 0 n ostore (by rw[Array.getElem?_toList];exact hn)
  rw[List.getElem?_eq_getElem h1,Nat.zero_add] at this
  rw[Option.some.inj this]
 rw[hnum] at q2
 obtain⟨N',hN⟩:∃ N',N=N'+1:=by
  cases N with
  | zero=>simp[dD] at q2
  | succ N'=>exact⟨N',rfl⟩
 subst hN
 have hseg:nQ n ((aJ 0 ops.toList).drop (n+1))=false:=by
  unfold nQ
  split
  ·rename_i p' l' hl
   have hmem:p'.2∈ops.toList.drop n:=by
    have h1:p'∈(aJ 0 ops.toList).drop n:=by rw[hnum,hl];simp
    have:p'.2∈((aJ 0 ops.toList).drop n).map Prod.snd:=List.mem_map_of_mem h1
    rwa [List.map_drop,aS] at this
   unfold rX
   rw[htails _ hmem]
  ·rfl
 have hinl:iu E ostore=false:=by unfold iu;rw[hop]
 have hnx:o9 E ostore an=an:=by simp[o9,hinl]
 have hev1:∀ (l:List (Nat×Oper)) (s:St) (K:St->Option R),xb E an l s ostore K=og E s ostore K:=fun l s K=>by simp[xb,hinl]
 have hsg:∀ s,j4 E s n ostore ((aJ 0 ops.toList).drop (n+1))=false:=fun s=>by simp[j4,hseg]
 simp only[dD,hgd,hsg,hnx,hev1,Bool.false_eq_true,if_false] at q2
 have hlkn:ij s' ostore=false:=by unfold ij;rw[hdst]
 rw[if_neg (by rw[hlkn];simp)] at q2
 unfold og at q2
 rw[hop] at q2
 simp only at q2
 have keep:∀ (c kk:Nat) (s s':St),gO (kL E ops n ido) ops c kk s=some s'->s'.ob=s.ob/\Sm s s':=by
  intro c
  induction c with
  | zero=>intro kk s s' hs;simp only[gO,Option.some.injEq] at hs;subst hs;exact⟨rfl,Sm.refl s⟩
  | succ c ih=>
   intro kk s s' hs
   simp only[gO] at hs
   obtain⟨v,h1,h2⟩:=bind_some_inv hs
   obtain⟨m2,m3⟩:=ih _ _ _ h2
   have pf:=St.put_fields s ((ops[kk]?).bind (·.dst)) v
   exact⟨m2.trans pf.1,(Sm.put s _ v).trans m3⟩
 obtain⟨c2,c3⟩:=keep n 0 s s' q1
 obtain⟨t,hT,q3⟩:=bind_some_inv q2
 rw[show s'.opA (.tmp p)=.ptr t0 ido [] from hptr] at q3
 simp only at q3
 split at q3<;>first|(cases q3;done)|skip
 rename_i hcond
 simp only[Bool.and_eq_true,Bool.not_eq_true'] at hcond
 obtain⟨⟨d1,d2⟩,d3⟩:=hcond
 split at q3<;>first|(cases q3;done)|skip
 ·rename_i u v0 hobs
  obtain⟨v1,hv1⟩:∃ v1,s'.opA (.tmp x)=v1:=⟨_,rfl⟩
  rw[hv1] at q3 d2
  have q4:dD E N' R ops an ((aJ 0 ops.toList).drop (n+1)) (s'.setOb ido (some (.one u v1))) k=some r:=by
   cases v0<;>simpa only[xM] using q3
  clear q3 q2
  have hW:jA .any ops (n+1):=by
   intro listed i inv hin hun t ht hr
   simp only[Bool.or_eq_true,decide_eq_true_eq,Bool.and_eq_true] at l7
   rcases l7 with l7|⟨⟨l7,l8⟩,l9⟩
   ·obtain⟨_,o,ho,_⟩:=mem_ready.1 hr
    have:=(Array.getElem?_eq_some_iff.1 ho).1
    omega
   ·exact tail_waits l8 l9 l7 inv _ i rfl hin hun t ht hr
  refine wpIn_region_any hE.mixed ?_
  have hg:∃ os d,w.drawn<=d/\({ w with drawn:=w.drawn+1 }:World)=grown w os d:=⟨[],w.drawn+1,Nat.le_succ _,by simp[grown]⟩
  obtain⟨os,d,hdr,hg⟩:=hg
  obtain⟨g1,g2⟩:=h.grow (os:=os) (d:=d) hdr (S':=S) (fun _ _ hb=>hb) (fun _ _ hb=>.inl hb)
  rw[hg]
  have inv0:HeadInv .any ops (n+1) (Array.replicate ops.size false):=
   ⟨by simp,fun j oj _ hl=>(by rw[getD_replicate_false] at hl;cases hl),fun t _ ht=>getD_in (by simpa using ht) (getD_replicate_false _ _)⟩
  have hseq:gO (kL E ops n ido) ops (n+1) 0 s=some s':=by
   rw[wA n 1 0,q1,Option.bind_some]
   simp only[gO,kL,Nat.zero_add,if_true,Option.bind_some,hn,hdst]
   rfl
  have H:=nu (sF:=s') (BC (E:=E) (ops:=ops) n ido) (by omega) hW (n+1) 0 (Array.replicate ops.size false) s (by omega) inv0 (fun i hi=>by omega) l6 hseq
  have e0:mP n ido (.one u v1) (Array.replicate ops.size false) s=s:=by unfold mP;rw[getD_replicate_false];rfl
  have hdl:(ops.toList.drop (n+1)).length=ops.size-(n+1):=by simp
  have hsub0:∀ j oj,ops[j]?=some oj->(Array.replicate ops.size false).getD j true=false->Fr E (mP n ido (.one u v1) (Array.replicate ops.size false) s) γ β oj:=fun j oj hj _=>by
   rw[e0];exact hf oj (Array.mem_toList_iff.2 (Array.mem_of_getElem? hj))
  have:=jm (ro:=ro) (nn:=nn) (w0:=w0) (Q:=Q) (g:=ops.size-(n+1)) (s0:=s) (S0:=S) (γ0:=γ) (a0:=a) (w1:=grown w os d) hE hn hop hdst hgd hp hx hheads hT d1 d2 (by rw[<-c3.lkO];exact d3) (by rw[<-c2];exact hobs) (fun i j oi oj hij hi hj d hd=>fM hm1 hij (by rw[Array.getElem?_toList];exact hi) (by rw[Array.getElem?_toList];exact hj) d hd)
   (fun listed s2 hL=>by
    obtain⟨_,hl,rfl⟩:=hL
    exact⟨hptr,hv1,hl n (by omega)⟩)
   (fun listed s2 S2 γ2 β2 a2 w2 m1 m2 m3 m4 m5=>by
    obtain⟨m5,m6,m7⟩:=m5
    subst m7
    have hseq:=eV (F:=FW ro) (n:=nn) (P:=P) (md:=.any) (ops:=ops) (Q':=Q) (ops.toList.drop (n+1)) (n+1) listed a2 w2 (fun j=>by rw[List.getElem?_drop,Array.getElem?_toList]) (by rw[hdl];exact m5) ?_
    ·rwa [hdl] at hseq
    have hunl:∀ j oj,ops[j]?=some oj->n+1<=j->listed.getD j true=false:=by
     intro j oj hj hnj
     have key:∀ (g k:Nat) (listed:Array Bool),Region.seqB .any ops g k listed=true->∀ j,k<=j->j<k+g->listed.getD j true=false:=by
      intro g
      induction g with
      | zero=>intro k listed _ j h1 h2;omega
      | succ g ih=>
       intro k listed hB j h1 h2
       simp only[Region.seqB,Bool.and_eq_true,decide_eq_true_eq] at hB
       by_cases hjk:j=k
       ·subst hjk
        have:j∈Region.ready .any ops listed:=by rw[hB.1];simp
        exact(mem_ready.1 this).1
       ·have:=ih (k+1) _ hB.2 j (by omega) (by omega)
        rwa [getD_set_ne true (Ne.symm hjk)] at this
     have hjlt:=(Array.getElem?_eq_some_iff.1 hj).1
     exact key _ _ _ m5 j hnj (by omega)
    have fin:=pP (ro:=ro) (nn:=nn) (ops:=ops) hE (Q:=Q) hstores N' R ((aJ 0 ops.toList).drop (n+1)) k r an m1 (by
      rw[List.map_drop,aS]
      intro o ho
      obtain⟨i,hi,he⟩:=List.getElem_of_mem ho
      have hi2:ops[n+1+i]?=some o:=by
       have:(ops.toList.drop (n+1))[i]?=some o:=by rw[List.getElem?_eq_getElem hi,he]
       rwa [List.getElem?_drop,Array.getElem?_toList] at this
      exact m4 (n+1+i) o hi2 (hunl _ _ hi2 (by omega)))
     (by
      rw[List.map_drop,aS]
      intro A B o o' e ho d hd
      exact du hm1 (ops.toList.take (n+1)++A) B o o' (by rw[List.append_assoc,<-e,List.take_append_drop]) ho d hd)
     (fun p hp=>gB (List.mem_of_mem_drop hp)) q4 (fun s3 S3 γ3 β3 a3 w3 n1 n2 n3 n4=>by
      refine hQ s3 S3 γ3 β3 a3 w3 n1 ?_ (Sk.trans (m3.trans (Sm.setOb _ ido (some (.one u v1)))).sk n3) n4
      have f0:Fm s S γ a w S γ a (grown w os d):=⟨fun _ _ hb=>hb,g2.cell,fun _ _=>rfl,fun id hid b hb=>⟨hb,.inl (bW (h.γn id b hb).2)⟩,by simp,fun _ _ hb=>hb,iR.same rfl cC.grown⟩
      exact(f0.trans m2 rfl rfl).trans n2 (show _=_ from m3.lkS) (show _=_ from m3.lkO))
    rwa [List.map_drop,aS] at fin)
   (n+1) (Array.replicate ops.size false) s S γ β a (grown w os d) (by rw[e0];exact g1) (Fm.refl _ _ _ _ _) (Sm.refl s) rfl (fun hl=>by rw[getD_replicate_false] at hl;cases hl) hsub0 H
  rw[show n+1+(ops.size-(n+1))=ops.size by omega] at this
  exact this
end
end Sy
end
noncomputable section
namespace Sy
open Go
variable{ro:Option Nat}{nn:Nat}
section
variable{E:Env}{ops:Array Oper}
def wL(E:Env)(ops:Array Oper)(m i:Nat)(s:St):Option AV:=match ops[i]? with
 | none=>none
 | some o=>if ij s o then none else if i=m then(lK E s o).map Prod.fst else qv E s o some
theorem wT{s s':St}{o:Oper}(hob:s'.ob=s.ob)(hf:s'.fresh=s.fresh)(hd:s'.dead=s.dead)(h:∀ x∈o.op.operands,s'.opA x=s.opA x):lK E s' o=lK E s o:=by
 unfold lK uN
 obtain⟨dst,op,ty,pos,after,guard⟩:=o
 cases op<;>try rfl
 rename_i c
 obtain⟨callee,args,argTypes⟩:=c
 cases callee<;>try rfl
 rename_i b
 cases b<;>try rfl
 simp only
 cases hT:argTypes[0]? with
 | none=>rfl
 | some T=>
 simp only[Option.bind_some]
 cases hL:E.L T with
 | none=>rfl
 | some t=>
 simp only[Option.bind_some]
 cases dst with
 | none=>rfl
 | some d=>
 simp only[Option.bind_some]
 split
 ·rename_i e x y T0 T' hargs htys
  have hx:s'.opA x=s.opA x:=h x (by
   show x∈(Op.call ⟨.builtin .append,args,argTypes⟩).operands
   have e:(Op.call ⟨.builtin .append,args,argTypes⟩).operands=args:=by first|rfl|simp[Op.operands,Call.operands]
   rw[e,<-Array.mem_toList_iff,hargs];simp)
  have hy:s'.opA y=s.opA y:=h y (by
   show y∈(Op.call ⟨.builtin .append,args,argTypes⟩).operands
   have e:(Op.call ⟨.builtin .append,args,argTypes⟩).operands=args:=by first|rfl|simp[Op.operands,Call.operands]
   rw[e,<-Array.mem_toList_iff,hargs];simp)
  have hb:s'.base=s.base:=by unfold St.base;rw[hf]
  rw[hx,hy,hob,hd,hb]
 ·rfl
theorem FK(m:Nat):JW (wL E ops m) ops:=by
 intro i oi hi s d v h
 obtain⟨p1,p2,p3,p4,p5,p6,p7⟩:=St.put_fields s d v
 have e1:ij (s.put d v) oi=ij s oi:=by simp only[ij,p5]
 have hx:∀ x∈oi.op.operands,∀ t,d=some t->x≠.tmp t:=fun x hx t ht e=>h t ht (by
  subst e
  exact List.mem_append_left _ (List.mem_filterMap.2 ⟨.tmp t,by simpa using hx,rfl⟩))
 have e2:qv E (s.put d v) oi some=qv E s oi some:=jX p1 p2 fun x hm=>ko (hx x hm)
 have e3:lK E (s.put d v) oi=lK E s oi:=wT p1 p2 p3 fun x hm=>ko (hx x hm)
 unfold wL
 rw[hi]
 simp only[e1,e2,e3]
theorem wS{R:Type}{s:St}{o:Oper}{K:AV×List Nat->Option R}{r:R}(h:uN E s o K=some r):∃ v,lK E s o=some v/\K v=some r:=by
 unfold uN at h
 obtain⟨dst,op,ty,pos,after,guard⟩:=o
 cases op<;>first|(cases h;done)|skip
 rename_i c
 obtain⟨callee,args,argTypes⟩:=c
 cases callee<;>first|(cases h;done)|skip
 rename_i b
 cases b<;>first|(cases h;done)|skip
 simp only at h
 replace h:=bind_some_inv h;obtain⟨T,hT,h⟩:=h
 replace h:=bind_some_inv h;obtain⟨t,ht,h⟩:=h
 replace h:=bind_some_inv h;obtain⟨d,hd,h⟩:=h
 split at h<;>first|(cases h;done)|skip
 rename_i e x y T0 T' hargs htys
 split at h<;>first|(cases h;done)|skip
 rename_i e2 ht2
 replace h:=bind_some_inv h;obtain⟨l',hl',h⟩:=h
 unfold lK uN
 simp only[hT,ht,hd,hargs,htys,ht2,hl',Option.bind_some]
 split at h<;>first|(cases h;done)|skip
 ·rename_i e' v0 l hx
  split at h<;>first|(cases h;done)|skip
  rename_i hc
  split at h<;>first|(cases h;done)|skip
  rename_i hlen
  exact⟨_,by simp only[hx,hc,hlen,if_true],h⟩
 ·rename_i hx
  split at h<;>first|(cases h;done)|skip
  rename_i hlen
  exact⟨_,by simp only[hx,hlen,if_true],h⟩
theorem ER{R:Type}{s:St}{o:Oper}{v:AV}{D:List Nat}(h:lK E s o=some (v,D))(K:St->Option R):og E s o K=K (({ s with dead:=D }:St).put o.dst v):=by
 unfold lK uN at h
 obtain⟨dst,op,ty,pos,after,guard⟩:=o
 cases op<;>first|(cases h;done)|skip
 rename_i c
 obtain⟨callee,args,argTypes⟩:=c
 cases callee<;>first|(cases h;done)|skip
 rename_i b
 cases b<;>first|(cases h;done)|skip
 simp only at h
 replace h:=bind_some_inv h;obtain⟨T,hT,h⟩:=h
 replace h:=bind_some_inv h;obtain⟨t,ht,h⟩:=h
 replace h:=bind_some_inv h;obtain⟨d,hd,h⟩:=h
 split at h<;>first|(cases h;done)|skip
 rename_i e x y T0 T' hargs htys
 split at h<;>first|(cases h;done)|skip
 rename_i e2 ht2
 replace h:=bind_some_inv h;obtain⟨l',hl',h⟩:=h
 unfold og
 simp only[hT,ht,hd,hargs,htys,ht2,hl',Option.bind_some]
 split at h<;>first|(cases h;done)|skip
 ·rename_i e' v0 l hx
  split at h<;>first|(cases h;done)|skip
  rename_i hc
  split at h<;>first|(cases h;done)|skip
  rename_i hlen
  cases h
  simp only[hx,hc,hlen,if_true]
 ·rename_i hx
  split at h<;>first|(cases h;done)|skip
  rename_i hlen
  cases h
  simp only[hx,hlen,if_true]
theorem zl{s:St}{dst:Option Nat}{args:Array Operand}{argTypes:Array TypeId}{ty:TypeId}{pos:String}{after:Array Edge}{guard:Option (Nat×Bool)}{v:AV}{D:List Nat}{p:Nat}{y:Operand}(h:lK E s ⟨dst,.call ⟨.builtin .append,args,argTypes⟩,ty,pos,after,guard⟩=some (v,D))(hargs:args.toList=[.tmp p,y]):D=jS s p:=by
 unfold lK uN at h
 simp only at h
 replace h:=bind_some_inv h;obtain⟨T,hT,h⟩:=h
 replace h:=bind_some_inv h;obtain⟨t,ht,h⟩:=h
 replace h:=bind_some_inv h;obtain⟨d,hd,h⟩:=h
 split at h<;>first|(cases h;done)|skip
 rename_i e x y' T0 T' hargs' htys
 rw[hargs] at hargs'
 cases hargs'
 split at h<;>first|(cases h;done)|skip
 replace h:=bind_some_inv h;obtain⟨l',hl',h⟩:=h
 have ho:s.opA (.tmp p)=s.tm p:=rfl
 unfold jS
 rw[ho] at h
 split at h<;>first|(cases h;done)|skip
 ·rename_i hx
  rw[hx]
  split at h<;>first|(cases h;done)|skip
  split at h<;>first|(cases h;done)|skip
  cases h;rfl
 ·rename_i hx
  rw[hx]
  split at h<;>first|(cases h;done)|skip
  cases h;rfl
theorem tF{R:Type}{m:Nat}{K:St->Option R}{r:R}:∀ (c k:Nat) (s:St),FV E ops m c k s K=some r->∃ s',gO (wL E ops m) ops c k s=some s'/\K s'=some r
 | 0,k,s,h=>⟨s,rfl,h⟩
 | c+1,k,s,h=>by
  simp only[FV] at h
  cases ho:ops[k]? with
  | none=>rw[ho] at h;cases h
  | some o=>
   rw[ho] at h
   simp only at h
   split at h<;>first|(cases h;done)|skip
   rename_i hlk
   split at h
   ·rename_i hkm
    obtain⟨v,h1,h2⟩:=wS h
    obtain⟨s',h3,h4⟩:=tF c (k+1) _ h2
    refine⟨s',?_,h4⟩
    subst hkm
    simp only[gO,wL,ho,if_neg hlk,if_true,h1,Option.map_some,Option.bind_some]
    exact h3
   ·rename_i hkm
    obtain⟨v,h1,h2⟩:=eU h
    obtain⟨s',h3,h4⟩:=tF c (k+1) _ h2
    refine⟨s',?_,h4⟩
    simp only[gO,wL,ho,if_neg hlk,if_neg hkm,h1,Option.bind_some]
    exact h3
def eE(m:Nat)(D:List Nat)(listed:Array Bool)(s:St):St:=if listed.getD m false then{ s with dead:=D } else s
theorem uY(s:St)(d:Option Nat)(v:AV)(D:List Nat):({ s with dead:=D }:St).put d v={ s.put d v with dead:=D }:=by
 cases d with
 | none=>rfl
 | some d=>
  by_cases h:d<s.nt
  ·simp only[St.put,h,if_true]
  ·simp only[St.put,h,if_false]
theorem vJ(m:Nat)(D:List Nat)(listed:Array Bool)(s:St):(eE m D listed s).ob=s.ob/\(eE m D listed s).fresh=s.fresh/\(eE m D listed s).lkS=s.lkS/\(eE m D listed s).lkO=s.lkO/\(eE m D listed s).nt=s.nt/\(eE m D listed s).tm=s.tm:=by
 unfold eE;split<;>exact⟨rfl,rfl,rfl,rfl,rfl,rfl⟩
theorem xf{V:Nat->St->Option AV}{md:Region.Mode}{n:Nat}{L:Array Bool->St->Prop}{T:List Nat}:∀ (f:Nat) (listed:Array Bool) (s:St),me V md ops n L f listed s ->
  (∀ t∈T,∀ j oj,ops[j]?=some oj->listed.getD j true=false->oj.dst≠some t)->∃ listed' s',L listed' s'/\(∀ t∈T,s'.tm t=s.tm t)
 | f,listed,s,h,hT=>by
  obtain⟨l',s',m1,m2,_⟩:=ns f listed s h hT
  exact⟨l',s',m1,m2⟩
end
section
variable{P:Program}{E:Env}{w0:Root}{ops:Array Oper}
theorem kB(hE:EnvOk P E){n m g p:Nat}{tp:AV}{D:List Nat}{y:Operand}{dst:Option Nat}{args:Array Operand}{argTypes:Array TypeId}{ty:TypeId}{pos:String}{after:Array Edge}{L:Array Bool->St->Prop}{Q:Exit->Act->World->Prop}{s0:St}{S0:Nat->Nat->Prop}{γ0:Nat->Option Nat}{a0:Act}{w1:World}
  (hm:ops[m]?=some ⟨dst,.call ⟨.builtin .append,args,argTypes⟩,ty,pos,after,none⟩) (hargs:args.toList=[.tmp p,y])
  (hp:∀ (j:Nat) (oj:Oper),ops[j]?=some oj->oj.dst=some p->Region.waitsFor .any ops m j=true)
  (hheads:∀ (j:Nat) (oj:Oper),j<n->ops[j]?=some oj->oj.guard=none)
  (hD:∀ s:St,s.tm p=tp->s.dead=s0.dead->jS s p=D)
  (hd:∀ (i j:Nat) (oi oj:Oper),i≠j->ops[i]?=some oi->ops[j]?=some oj->∀ d,oj.dst=some d->oi.dst≠some d)
  (hLs:∀ listed s,L listed s->s.tm p=tp/\listed.getD m false=true)
  (hL:∀ listed s S γ β a w,Rp w0 S γ β { s with dead:=D } a w->Fm s0 S0 γ0 a0 w1 S γ a w->Sm s0 s->(∀ j oj,ops[j]?=some oj->listed.getD j true=false->Fr E { s with dead:=D } γ β oj)->L listed s->wpAnyIn (FW ro) nn P .any ops Q g listed a w) :
  ∀ (f:Nat) (listed:Array Bool) (s:St) (S:Nat->Nat->Prop) (γ:Nat->Option Nat) (β:Nat->Option (Nat×Nat)) (a:Act) (w:World),Rp w0 S γ β (eE m D listed s) a w->Fm s0 S0 γ0 a0 w1 S γ a w->Sm s0 s->s.dead=s0.dead ->
   (∀ j oj,ops[j]?=some oj->listed.getD j true=false->Fr E (eE m D listed s) γ β oj)->me (wL E ops m) .any ops n L f listed s->wpAnyIn (FW ro) nn P .any ops Q (f+g) listed a w
 | 0,listed,s,S,γ,β,a,w,h,hF,hS,hdd,hfr,hh=>by
  rw[Nat.zero_add]
  have hh':L listed s:=hh
  have e:eE m D listed s={ s with dead:=D }:=by unfold eE;rw[if_pos (hLs _ _ hh').2]
  rw[e] at h
  exact hL _ _ _ _ _ _ _ h hF hS (fun j oj hj hu=>e ▸ hfr j oj hj hu) hh'
 | f+1,listed,s,S,γ,β,a,w,h,hF,hS,hdd,hfr,hh=>by
  rw[show f+1+g=(f+g)+1 by omega]
  refine⟨fun h0=>absurd h0 hh.1,fun i hi=>?_⟩
  obtain⟨hin,hst⟩:=hh.2 i hi
  have hun:=(mem_ready.1 hi).1
  have unl:∀ j,(listed.setIfInBounds i true).getD j true=false->i≠j/\listed.getD j true=false:=fun j hu=>by
   by_cases hij:i=j
   ·subst hij
    exfalso
    rcases Nat.lt_or_ge i listed.size with hlt|hge
    ·simp[Array.getD,hlt] at hu
    ·simp[Array.getD,Nat.not_lt.2 hge] at hu
   ·rw[getD_set_ne true hij] at hu;exact⟨hij,hu⟩
  have hsz:i<listed.size:=by
   rcases Nat.lt_or_ge i listed.size with hlt|hge
   ·exact hlt
   ·simp[Array.getD,Nat.not_lt.2 hge] at hun
  obtain⟨_,o,ho,hall⟩:=mem_ready.1 hi
  unfold oI at hst
  rw[ho] at hst
  simp only at hst
  obtain⟨v,hv,hst⟩:=hst
  unfold wL at hv
  rw[ho] at hv
  simp only at hv
  split at hv<;>first|(cases hv;done)|skip
  rename_i hlko
  have pf:=St.put_fields s o.dst v
  obtain⟨z1,z2,z3,z4,z5,z6⟩:=vJ m D listed s
  have smL:Sm s0 (eE m D listed s):=⟨z3.trans hS.lkS,z4.trans hS.lkO,z2.trans hS.fresh,z5.trans hS.nt⟩
  have hlk':∀ t∈(eE m D listed s).lkS,o.dst≠some t:=fun t ht e=>hlko (by
   rw[z3] at ht
   simp[ij,e];exact ht)
  by_cases hmi:i=m
  ·
   subst hmi
   rw[if_pos rfl] at hv
   rw[hm] at ho
   cases ho
   have hlf:=getD_both hun
   have e0:eE i D listed s=s:=by unfold eE;rw[hlf];rfl
   have hv2:∃ D',lK E s ⟨dst,.call ⟨.builtin .append,args,argTypes⟩,ty,pos,after,none⟩=some (v,D'):=by
    cases ha:lK E s ⟨dst,.call ⟨.builtin .append,args,argTypes⟩,ty,pos,after,none⟩ with
    | none=>rw[ha] at hv;cases hv
    | some q=>rw[ha] at hv;obtain⟨q1,q2⟩:=q;cases hv;exact⟨q2,rfl⟩
   obtain⟨D',hv2⟩:=hv2
   have hdp:dst≠some p:=fun e=>by
    have hw:=hp i _ hm e
    obtain⟨ow,how,e',he,hb,hon⟩:=Region.waitsFor_spec hw
    rw[hm] at how;cases how
    have h1:=hall e' he hb
    rw[hon] at h1
    rw[hlf] at h1;cases h1
   obtain⟨l',s',m1,m2⟩:=xf (T:=[p]) f _ _ hst (fun t ht j oj hj hu=>by
    simp only[List.mem_cons,List.not_mem_nil,or_false] at ht
    subst ht
    intro hdj
    have hw:=hp j oj hj hdj
    obtain⟨ow,how,e,he,hb,hon⟩:=Region.waitsFor_spec hw
    rw[hm] at how;cases how
    have h1:=hall e he hb
    rw[hon] at h1
    obtain⟨_,hu'⟩:=unl j hu
    rw[getD_both hu'] at h1;cases h1)
   have z7:=(hLs _ _ m1).1
   rw[m2 p (by simp),qy hdp] at z7
   have eD:D'=D:=(zl hv2 hargs).trans (hD s z7 hdd)
   subst eD
   rw[e0] at h hlk'
   obtain⟨s1,k1,k2⟩:=tD hE h (e0 ▸ hfr i _ hm hun) (fun T t _ ht=>hE.flat T t ht) hlk' (fun _ _ _ e=>by cases e) (K:=some) (r:=(({ s with dead:=D' }:St).put dst v)) (by rw[ER hv2])
   cases k1
   obtain⟨r1,r2,r3,r4,r5,r6⟩:=k2
   unfold wpOpIn
   rw[hm]
   simp only
   rw[if_pos (by simp[Region.wanted])]
   refine(aV r6 fun val w' ⟨S',γ',β',m1,m2,m3⟩=>?_)
   have el:eE i D' (listed.setIfInBounds i true) (s.put dst v)=({ s with dead:=D' }:St).put dst v:=by
    unfold eE;rw[if_pos (by simp[hsz])]
    exact(uY s dst v D').symm
   refine kB hE hm hargs hp hheads hD hd hLs hL f _ _ S' γ' β' _ _ (by rw[el];exact m1) (hF.trans m2 hS.lkS hS.lkO) (hS.trans (Sm.put s dst v)) (pf.2.2.1.trans hdd) (fun j oj hj hu=>?_) hst
   rw[el]
   obtain⟨hij,hu'⟩:=unl j hu
   exact(e0 ▸ hfr j oj hj hu':Fr E s γ β oj).keep (o:=⟨dst,.call ⟨.builtin .append,args,argTypes⟩,ty,pos,after,none⟩) (fun d hdj=>hd i j _ oj hij hm hj d hdj) r3 r5 m3
  ·
   rw[if_neg hmi] at hv
   have hog:=hheads i o hin ho
   have hval:val E ops (eE m D listed s) o=some v:=by
    have e1:ij (eE m D listed s) o=ij s o:=by simp only[ij,z3]
    have e2:qv E (eE m D listed s) o some=qv E s o some:=jX z1 z2 fun x _=>by
     cases x<;>simp only[St.opA,z6]
    unfold val
    rw[e1,if_neg hlko,hog,e2]
    exact hv
   have el:(eE m D listed s).put o.dst v=eE m D (listed.setIfInBounds i true) (s.put o.dst v):=by
    unfold eE
    rw[getD_set_ne false hmi]
    split
    ·rw[uY]
    ·rfl
   obtain⟨k1,k2⟩:=uu hE h (hfr i o ho hun) hval
   have pl:=St.put_fields (eE m D listed s) o.dst v
   have frn:∀ {γ':Nat->Option Nat} {β':Nat->Option (Nat×Nat)},(∀ id':Nat,o.dst≠some (id'-(eE m D listed s).base)\/id'<(eE m D listed s).base->γ' id'=γ id'/\β' id'=β id')->∀ j oj,ops[j]?=some oj->(listed.setIfInBounds i true).getD j true=false->Fr E (eE m D (listed.setIfInBounds i true) (s.put o.dst v)) γ' β' oj:=fun hk j oj hj hu=>by
    obtain⟨hij,hu'⟩:=unl j hu
    rw[<-el]
    exact(hfr j oj hj hu').keep (fun d hdj=>hd i j o oj hij ho hj d hdj) pl.2.1 (fun id' _ _=>by rw[pl.1]) hk
   unfold wpOpIn
   rw[ho]
   simp only
   split
   ·rename_i hw
    refine(aV (k1 hw) fun u' w' ⟨S',γ',β',m1,m2,m3⟩=>?_)
    exact kB hE hm hargs hp hheads hD hd hLs hL f _ _ S' γ' β' _ _ (el ▸ m1) (hF.trans m2 smL.lkS smL.lkO) (hS.trans (Sm.put s o.dst v)) (pf.2.2.1.trans hdd) (frn m3) hst
   ·rename_i hw
    obtain⟨m1,m2⟩:=k2 (by simpa using hw)
    refine⟨fun _ _=>trivial,?_⟩
    exact kB hE hm hargs hp hheads hD hd hLs hL f _ _ S γ β _ _ (el ▸ m1) (hF.trans m2 smL.lkS smL.lkO) (hS.trans (Sm.put s o.dst v)) (pf.2.2.1.trans hdd) (frn fun id _=>⟨rfl,rfl⟩) hst
theorem ru(hE:EnvOk P E){id:Nat}{n m:Nat}{Q:Exit->Act->World->Prop}{S:Nat->Nat->Prop}{γ:Nat->Option Nat}{β:Nat->Option (Nat×Nat)}{s:St}{a:Act}{w:World}{R:Type}{k:St->Option R}{r:R}{N:Nat}
  (h:Rp w0 S γ β s a w) (hf:zh E s γ β ops.toList) (hmk:bz ops.toList=true) (hap:uO E ops n m=true) {an:Ann}
  (hev:FV E ops m n 0 s (fun s2=>dD E N R ops an ((aJ 0 ops.toList).drop n) { s2 with dead:=jS s2 (zk ops m) } k)=some r)
  (hQ:∀ s' S' γ' β' a' w',Rp w0 S' γ' β' s' a' w'->Fm s S γ a w S' γ' a' w'->Sk s s'->k s'=some r->Q .normal a' w'):(Code.region id ops true).wpIn (FW ro) nn P Q a w:=by
 simp only[bz,Bool.and_eq_true] at hmk
 obtain⟨⟨hm1,hm2⟩,hm3⟩:=hmk
 have hstores:(ops.toList.all fun o=>match o.op with|.store ..=>o.dst.isNone|_=>true)=true:=hm3
 unfold uO at hap
 split at hap<;>first|(cases hap;done)|skip
 rename_i oa hoa
 split at hap<;>first|(cases hap;done)|skip
 rename_i c hop
 split at hap<;>first|(cases hap;done)|skip
 rename_i p y hcal hargs
 simp only[Bool.and_eq_true,decide_eq_true_eq] at hap
 obtain⟨⟨⟨⟨⟨⟨l1,l2⟩,l3⟩,l4⟩,l5⟩,l6⟩,l7⟩:=hap
 have heads:∀ j,j<n->∃ o,ops[j]?=some o/\o.guard=none:=fun j hj=>by
  have:=List.all_eq_true.1 l3 j (List.mem_range.2 hj)
  split at this<;>first|(cases this;done)|skip
  rename_i o ho
  simp only[Bool.and_eq_true] at this
  exact⟨o,ho,by simpa using this.1.2⟩
 have hn:n<=ops.size:=by
  rcases Nat.lt_or_ge ops.size n with c|c
  ·obtain⟨o,ho,_⟩:=heads ops.size c
   have:=(Array.getElem?_eq_some_iff.1 ho).1
   omega
  ·exact c
 obtain⟨dst,op,ty,pos,after,guard⟩:=oa
 have hg0:guard=none:=by
  obtain⟨o,ho,hg⟩:=heads m l1
  rw[hoa] at ho;cases ho;exact hg
 subst hg0
 obtain⟨callee,args,argTypes⟩:=c
 simp only at hop hcal hargs
 subst hop
 subst hcal
 have hpeq:zk ops m=p:=by unfold zk;rw[hoa];simp only[hargs]
 rw[hpeq] at hev
 have hp:∀ (j:Nat) (oj:Oper),ops[j]?=some oj->oj.dst=some p->Region.waitsFor .any ops m j=true:=fun j oj hj e=>by
  have hjlt:=(Array.getElem?_eq_some_iff.1 hj).1
  have:=List.all_eq_true.1 l2 j (List.mem_range.2 hjlt)
  rw[hj,Option.bind_some,e] at this
  simpa using this
 have hheads:∀ (j:Nat) (oj:Oper),j<n->ops[j]?=some oj->oj.guard=none:=fun j oj hjn hj=>by
  obtain⟨o,ho,hg⟩:=heads j hjn
  rw[hj] at ho;cases ho;exact hg
 obtain⟨sF,q1,q2⟩:=tF n 0 s hev
 have keep:∀ (c kk:Nat) (s s':St),gO (wL E ops m) ops c kk s=some s'->s'.dead=s.dead/\Sm s s':=by
  intro c
  induction c with
  | zero=>intro kk s s' hs;simp only[gO,Option.some.injEq] at hs;subst hs;exact⟨rfl,Sm.refl s⟩
  | succ c ih=>
   intro kk s s' hs
   simp only[gO] at hs
   obtain⟨v,h1,h2⟩:=bind_some_inv hs
   obtain⟨m2,m3⟩:=ih _ _ _ h2
   have pf:=St.put_fields s ((ops[kk]?).bind (·.dst)) v
   exact⟨m2.trans pf.2.2.1,(Sm.put s _ v).trans m3⟩
 obtain⟨c2,c3⟩:=keep n 0 s sF q1
 have hD:∀ s2:St,s2.tm p=sF.tm p->s2.dead=s.dead->jS s2 p=jS sF p:=fun s2 e1 e2=>by
  unfold jS;rw[e1,e2,c2]
 generalize jS sF p=D at q2 hD
 have hW:jA .any ops n:=by
  intro listed i inv hin hun t ht hr
  simp only[Bool.or_eq_true,decide_eq_true_eq,Bool.and_eq_true] at l7
  rcases l7 with l7|⟨⟨l7,l8⟩,l9⟩
  ·obtain⟨_,o,ho,_⟩:=mem_ready.1 hr
   have:=(Array.getElem?_eq_some_iff.1 ho).1
   omega
  ·exact tail_waits l8 l9 l7 inv _ i rfl hin hun t ht hr
 refine wpIn_region_any hE.mixed ?_
 have hg:∃ os d,w.drawn<=d/\({ w with drawn:=w.drawn+1 }:World)=grown w os d:=⟨[],w.drawn+1,Nat.le_succ _,by simp[grown]⟩
 obtain⟨os,d,hdr,hg⟩:=hg
 obtain⟨g1,g2⟩:=h.grow (os:=os) (d:=d) hdr (S':=S) (fun _ _ hb=>hb) (fun _ _ hb=>.inl hb)
 rw[hg]
 have inv0:HeadInv .any ops n (Array.replicate ops.size false):=
  ⟨by simp,fun j oj _ hl=>(by rw[getD_replicate_false] at hl;cases hl),fun t _ ht=>getD_in (by simpa using ht) (getD_replicate_false _ _)⟩
 have H:=nu (sF:=sF) (FK (E:=E) (ops:=ops) m) hn hW n 0 (Array.replicate ops.size false) s (by omega) inv0 (fun i hi=>by omega) l6 q1
 have e0:eE m D (Array.replicate ops.size false) s=s:=by unfold eE;rw[getD_replicate_false];rfl
 have hdl:(ops.toList.drop n).length=ops.size-n:=by simp
 have hsub0:∀ j oj,ops[j]?=some oj->(Array.replicate ops.size false).getD j true=false->Fr E (eE m D (Array.replicate ops.size false) s) γ β oj:=fun j oj hj _=>by
  rw[e0];exact hf oj (Array.mem_toList_iff.2 (Array.mem_of_getElem? hj))
 have:=kB (ro:=ro) (nn:=nn) (w0:=w0) (Q:=Q) (g:=ops.size-n) (s0:=s) (S0:=S) (γ0:=γ) (a0:=a) (w1:=grown w os d) (tp:=sF.tm p) hE hoa hargs hp hheads hD (fun i j oi oj hij hi hj d hd=>fM hm1 hij (by rw[Array.getElem?_toList];exact hi) (by rw[Array.getElem?_toList];exact hj) d hd)
  (fun listed s2 hL=>by
   obtain⟨_,hl,rfl⟩:=hL
   exact⟨rfl,hl m l1⟩)
  (fun listed s2 S2 γ2 β2 a2 w2 m1 m2 m3 m4 m5=>by
   obtain⟨m5,m6,m7⟩:=m5
   subst m7
   have hseq:=eV (F:=FW ro) (n:=nn) (P:=P) (md:=.any) (ops:=ops) (Q':=Q) (ops.toList.drop n) n listed a2 w2 (fun j=>by rw[List.getElem?_drop,Array.getElem?_toList]) (by rw[hdl];exact m5) ?_
   ·rwa [hdl] at hseq
   have hunl:∀ j oj,ops[j]?=some oj->n<=j->listed.getD j true=false:=by
    intro j oj hj hnj
    have key:∀ (g k:Nat) (listed:Array Bool),Region.seqB .any ops g k listed=true->∀ j,k<=j->j<k+g->listed.getD j true=false:=by
     intro g
     induction g with
     | zero=>intro k listed _ j h1 h2;omega
     | succ g ih=>
      intro k listed hB j h1 h2
      simp only[Region.seqB,Bool.and_eq_true,decide_eq_true_eq] at hB
      by_cases hjk:j=k
      ·subst hjk
       have:j∈Region.ready .any ops listed:=by rw[hB.1];simp
       exact(mem_ready.1 this).1
      ·have:=ih (k+1) _ hB.2 j (by omega) (by omega)
       rwa [getD_set_ne true (Ne.symm hjk)] at this
    have hjlt:=(Array.getElem?_eq_some_iff.1 hj).1
    exact key _ _ _ m5 j hnj (by omega)
   have fin:=pP (ro:=ro) (nn:=nn) (ops:=ops) hE (Q:=Q) hstores N R ((aJ 0 ops.toList).drop n) k r an m1 (by
     rw[List.map_drop,aS]
     intro o ho
     obtain⟨i,hi,he⟩:=List.getElem_of_mem ho
     have hi2:ops[n+i]?=some o:=by
      have:(ops.toList.drop n)[i]?=some o:=by rw[List.getElem?_eq_getElem hi,he]
      rwa [List.getElem?_drop,Array.getElem?_toList] at this
     exact m4 (n+i) o hi2 (hunl _ _ hi2 (by omega)))
    (by
     rw[List.map_drop,aS]
     intro A B o o' e ho d hd
     exact du hm1 (ops.toList.take n++A) B o o' (by rw[List.append_assoc,<-e,List.take_append_drop]) ho d hd)
    (fun p hp=>gB (List.mem_of_mem_drop hp)) q2 (fun s3 S3 γ3 β3 a3 w3 n1 n2 n3 n4=>by
     have smD:Sm s2 ({ s2 with dead:=D }:St):=⟨rfl,rfl,rfl,rfl⟩
     refine hQ s3 S3 γ3 β3 a3 w3 n1 ?_ (Sk.trans (m3.trans smD).sk n3) n4
     have f0:Fm s S γ a w S γ a (grown w os d):=⟨fun _ _ hb=>hb,g2.cell,fun _ _=>rfl,fun id hid b hb=>⟨hb,.inl (bW (h.γn id b hb).2)⟩,by simp,fun _ _ hb=>hb,iR.same rfl cC.grown⟩
     exact(f0.trans m2 rfl rfl).trans n2 (show _=_ from m3.lkS) (show _=_ from m3.lkO))
   rwa [List.map_drop,aS] at fin)
  n (Array.replicate ops.size false) s S γ β a (grown w os d) (by rw[e0];exact g1) (Fm.refl _ _ _ _ _) (Sm.refl s) rfl hsub0 H
 rw[show n+(ops.size-n)=ops.size by omega] at this
 exact this
end
end Sy
end
end Go.Proofs.YtpahompifldeeaaGreat
