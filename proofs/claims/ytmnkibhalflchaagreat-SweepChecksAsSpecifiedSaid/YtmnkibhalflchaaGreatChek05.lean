/- Part 5 of the proof that SweepChecksAsSpecified answers true at every input -/
import Derived.Test.YtmnkibhalflchaaGreatChek04
import Derived.Scope
import Derived.RangeFuncLeaves
set_option linter.unusedVariables false
set_option linter.unusedSimpArgs false
set_option linter.unnecessarySimpa false
set_option linter.defProp false
set_option maxRecDepth 20000
namespace Go.Proofs.YtmnkibhalflchaaGreat
noncomputable section
namespace Sy
open Go
def Mw(s:St):List (Nat×Sh)->Nat->List (Nat×Nat)
 | [],_=>[]
 | (t,h)::l,j=>aer h (s.tm t) j++Mw s l (j+h.cnt)
def Hw(h:Sh)(o:Option Ob)(j:Nat):List (Nat×Nat):=match o with|some (.one _ v)=>aer h v j|_=>[]
def uk(s:St):List (Nat×ShO)->Nat->List (Nat×Nat)
 | [],_=>[]
 | (id,.one _ h)::l,j=>Hw h (s.ob id) j++uk s l (j+h.cnt)
 | (_,.many _)::l,j=>uk s l (j+1)
 | (_,.mp ..)::l,j=>uk s l (j+1)
 | (_,.keep ..)::l,j=>uk s l j
 | (_,.lp ..)::l,j=>uk s l j
 | (_,.fv _)::l,j=>uk s l j
theorem xW(s:St):∀ (l:List (Nat×Sh)) (j:Nat),(Mw s l j).map Prod.snd=aeC s l
 | [],_=>rfl
 | (t,h)::l,j=>by simp only[Mw,aeC,zmb,xX,xW s l]
theorem jm(s:St):∀ (l:List (Nat×ShO)) (j:Nat),(uk s l j).map Prod.snd=aeB s l
 | [],_=>rfl
 | (id,.one t h)::l,j=>by
  simp only[uk,aeB,zmb,jm s l];congr 1;unfold Hw;split
  ·rename_i e;simp only[xX,e]
  ·simp_all
 | (_,.many _)::l,j=>by simp only[uk,aeB,jm s l]
 | (_,.mp ..)::l,j=>by simp only[uk,aeB,jm s l]
 | (_,.keep ..)::l,j=>by simp only[uk,aeB,jm s l]
 | (_,.lp ..)::l,j=>by simp only[uk,aeB,jm s l]
 | (_,.fv _)::l,j=>by simp only[uk,aeB,jm s l]
theorem Hx(s:St):∀ (l:List (Nat×Sh)) (j:Nat),Pl (Mw s l j) j (j+aew l)
 | [],_=>Pl.nil _ _
 | (t,h)::l,j=>by
  simp only[Mw,aew];rw[show j+(h.cnt+aew l)=j+h.cnt+aew l by omega]
  exact(BP h _ j).append (Hx s l _) j1 j1
def LL(h:Sh)(o:Option Ob)(j:Nat):Pl (Hw h o j) j (j+h.cnt):=by
 unfold Hw;split
 ·exact BP h _ j
 ·exact Pl.nil _ _
theorem nT(s:St):∀ (l:List (Nat×ShO)) (j:Nat),Pl (uk s l j) j (j+aev l)
 | [],_=>Pl.nil _ _
 | (id,.one t h)::l,j=>by
  simp only[uk,aev,ShO.cnt];rw[show j+(h.cnt+aev l)=j+h.cnt+aev l by omega]
  exact(LL h _ j).append (nT s l _) j1 j1
 | (_,.many _)::l,j=>by
  simp only[uk,aev,ShO.cnt];rw[show j+(1+aev l)=j+1+aev l by omega]
  exact(Pl.nil j (j+1)).append (nT s l _) j1 j1
 | (_,.mp ..)::l,j=>by
  simp only[uk,aev,ShO.cnt];rw[show j+(1+aev l)=j+1+aev l by omega]
  exact(Pl.nil j (j+1)).append (nT s l _) j1 j1
 | (_,.keep ..)::l,j=>by simp only[uk,aev,ShO.cnt,z8a];exact nT s l j
 | (_,.fv _)::l,j=>by simp only[uk,aev,ShO.cnt,z8a];exact nT s l j
 | (_,.lp ..)::l,j=>by simp only[uk,aev,ShO.cnt,z8a];exact nT s l j
theorem yO(s:St):∀ (l:List (Nat×Sh)) (x:List D),aey s l=some x->x.length=aew l
 | [],x,e=>by simp only[aey,zda] at e;subst e;rfl
 | (t,h)::l,x,e=>by simp only[aey] at e;obtain⟨y,h1,e⟩:=ab e;obtain⟨z,a,e⟩:=ab e;simp only[zda] at e;subst e;simp only[zFa,lV h _ y h1,yO s l z a,aew]
theorem sR(s:St):∀ (l:List (Nat×Sh)) (x:List D),aey s l=some x->∀ v∈aeC s l,v ∉ s.dead
 | [],x,_=>by simp_all [aeC]
 | (t,h)::l,x,e=>by
  intro v a;simp only[aey] at e;obtain⟨y,h1,e⟩:=ab e;obtain⟨z,b,e⟩:=ab e;simp only[aeC] at a;rcases zIa.1 a with a|a
  ·exact pL h _ y h1 v a
  ·exact sR s l z b v a
def sQ{s:St}{id:Nat}{t:Ty}{h:Sh}{l:List (Nat×ShO)}{x:List D}(e:aex s ((id,.one t h)::l)=some x):∃ v y z,s.ob id=some (.one t v)/\Sh.dec s.ob s.dead h v=some y/\aex s l=some z/\x=y++z:=by
 simp only[aex] at e;split at e<;>first|(cases e;done)|skip
 rename_i d v b;split at e<;>first|(cases e;done)|skip
 rename_i c;obtain⟨y,h1,e⟩:=ab e;obtain⟨z,a,e⟩:=ab e;grind [Option.some.injEq,aeK]
def pK{s:St}{id:Nat}{t:Ty}{l:List (Nat×ShO)}{x:List D}(e:aex s ((id,.many t)::l)=some x):∃ v z,s.ob id=some (.many t v)/\aex s l=some z/\x=[.sl v]++z:=by
 simp only[aex] at e;split at e<;>first|(cases e;done)|skip
 rename_i d v b;split at e<;>first|(cases e;done)|skip
 rename_i c;obtain⟨z,a,e⟩:=ab e;grind [Option.some.injEq,aeK]
def xb{s:St}{id:Nat}{c vt:Ty}{l:List (Nat×ShO)}{x:List D}(e:aex s ((id,.mp c vt)::l)=some x):∃ v z,s.ob id=some (.mp c vt v)/\aex s l=some z/\x=[.sl v]++z:=by
 simp only[aex] at e;split at e<;>first|(cases e;done)|skip
 rename_i f g v b;split at e<;>first|(cases e;done)|skip
 rename_i a;obtain⟨z,d,e⟩:=ab e;simp only[zda] at e;simp only[zaa] at a;rw[<-aeK _ _ a.1,<-aeK _ _ a.2] at b;exact⟨v,z,b,d,e.symm⟩
def pJ{s:St}{id:Nat}{t:Ty}{a:Nat}{l:List (Nat×ShO)}{x:List D}(e:aex s ((id,.keep t a)::l)=some x):∃ v,s.ob id=some (.one t v)/\aex s l=some x:=by grind [aex,aeK]
theorem Ej:∀ {p a:Option Ex},Bq p a=true->p=a
 | none,none,_=>rfl
 | none,some _,h=>by cases h
 | some _,none,h=>by cases h
 | some e,some b,h=>by simp only[Bq] at h;cases e<;>cases b<;>simp only[Ex.is,zia] at h<;>first|rfl|(cases h;done)|(subst h;rfl)
def xa{s:St}{id:Nat}{p:Option Ex}{a:Nat}{l:List (Nat×ShO)}{x:List D}(e:aex s ((id,.lp p a)::l)=some x):∃ i,s.ob id=some (.lp i p)/\aex s l=some x:=by grind [aex,Ej]
def w9{s:St}{id:Nat}{a:AV}{l:List (Nat×ShO)}{x:List D}(e:aex s ((id,.fv a)::l)=some x):s.ob id=some (.fv a)/\aex s l=some x:=by
 simp only[aex] at e;split at e<;>first|(cases e;done)|skip
 split at e<;>first|(cases e;done)|skip
 rename_i h1 b;rw[rV _ _ b];exact⟨h1,e⟩
theorem u7{n:Nat}{c c':Cx}(T:Two n c c'):∀ {l:List AV} {vs:List Value},adP n l=true->mO c l vs->mO c' l vs
 | [],[],_,_=>trivial
 | [],_::_,_,k=>k.elim
 | _::_,[],_,k=>k.elim
 | a::l,v::vs,h,k=>by
  simp only[adP,zaa] at h;refine⟨?_,u7 T h.2 k.2⟩;have d:=k.1;unfold se at d ⊢;split at d
  ·obtain⟨b,e,f⟩:=d;simp only[AV.old,zia] at h;exact⟨b,e,(T.γ _ h.1).trans f⟩
  ·exact d.elim
theorem fi.old{n:Nat}{c c':Cx}(T:Two n c c'){a:AV}{v:Value}(h:AV.old n a=true)(i:kI a=true)(k:fi c a v):fi c' a v:=by
 cases a<;>simp only[kI] at i<;>first|(cases i;done)|skip
 all_goals simp only[AV.old] at h
 case clo f l=> obtain⟨caps,e,k⟩:=k;exact⟨caps,e,u7 T h k⟩
 case map kt vt id=> obtain⟨b,e,d,g⟩:=k;exact⟨b,e,(T.γ id (of_decide_eq_true h)).trans d,g⟩
 case yld id=> simp only[fi,AR,AC] at k ⊢;obtain⟨d,L,e,g⟩:=k;exact⟨d,L,e,(T.γ id (of_decide_eq_true h)).trans g⟩
def KS{a b:AV}:(∀ p,eC (.fv a) p=eC (.fv b) p/\ci (.fv a) p=ci (.fv b) p):=λp=>by cases p<;>exact⟨rfl,rfl⟩
def vN{p:Option Ex}{o:Option Ob}{o':Ob}(h:aef p o=some o'):∃ i p0,o=some (.lp i p0)/\o'=.lp i p:=by unfold aef at h;grind
theorem fo(s:St):∀ (l:List (Nat×ShO)) (x:List D),aex s l=some x->∀ v∈aeB s l,v ∉ s.dead
 | [],x,_=>by simp_all [aeB]
 | (id,.one t h)::l,x,e=>by
  intro v b;obtain⟨u,y,z,d,h1,a,_⟩:=sQ e;simp only[aeB,d] at b;rcases zIa.1 b with b|b
  ·exact pL h _ y h1 v b
  ·exact fo s l z a v b
 | (id,.many t)::l,x,e=>by obtain⟨u,z,_,a,_⟩:=pK e;exact fo s l z a
 | (id,.mp f vt)::l,x,e=>by obtain⟨u,z,_,a,_⟩:=xb e;exact fo s l z a
 | (id,.keep t c)::l,x,e=>by obtain⟨u,_,a⟩:=pJ e;exact fo s l x a
 | (id,.lp p c)::l,x,e=>by obtain⟨_,_,a⟩:=xa e;exact fo s l x a
 | (id,.fv v)::l,x,e=>by obtain⟨_,a⟩:=w9 e;exact fo s l x a
theorem CZ(b:Nat):∀ (l:List (Nat×Sh)) (j:Nat) (s:List D) (f:Nat->AV),(aeA b l j s f).2=j+aew l
 | [],j,s,f=>rfl
 | (t,h)::l,j,s,f=>by simp only[aeA,CZ b l,p8,aew,zEb]
theorem GN{n b:Nat}{c c':Cx}(T:Two n c c'){s':St}(k:c.ob=s'.ob)(m:c.dead=s'.dead):∀ (l:List (Nat×Sh)) (j:Nat) (s x:List D) (f:Nat->AV),aey s' l=some x->Cf s x j->(∀ p∈l,Sh.fine n p.2=true) ->
  (∀ p∈Mw s' l j,c'.β (b+p.1)=c.β p.2)->∀ i,(i∈l.map (·.1)/\∀ v,AR c (s'.tm i) v->AR c' ((aeA b l j s f).1 i) v)\/(i ∉ l.map (·.1)/\(aeA b l j s f).1 i=f i)
 | [],j,s,x,f,e,g,d,a,i=>.inr ⟨s6,rfl⟩
 | (t,h)::l,j,s,x,f,e,g,d,a,i=>by
  simp only[aey] at e;obtain⟨y,h1,e⟩:=ab e;obtain⟨z,r,e⟩:=ab e;simp only[zda] at e;subst e;simp only[Mw,zIa] at a;have o:=g.right;rw[lV h _ y h1] at o;simp only[aeA,p8];rcases GN T k m l (j+h.cnt) s z (λi=>if i=t then(Sh.mk b h j s).1 else f i) r o (λp hp=>d p (by simp[hp])) (λp hp=>a p (.inr hp)) i with⟨w,q⟩|⟨w,q⟩
  ·simp_all
  ·by_cases hit:i=t
   ·subst hit;refine .inl ⟨s6,λv u=>?_⟩
    rw[q,zja rfl];exact QI T h _ j s y v (by rw[k,m];exact h1) g.left (d (i,h) s6) (λp hp=>a p (.inl hp)) u
   ·simp_all
def MI(o' o:Ob):Prop:=(∀ p,eC o' p=eC o p/\ci o' p=ci o p)/\(∀ t l,o=.many t l->∃ l',o'=.many t l'/\l'.length=l.length)/\∀ a vt l,o=.mp a vt l->∃ l',o'=.mp a vt l'
def zv{t:Ty}{a b:AV}:MI (.one t a) (.one t b):=⟨λp=>⟨rfl,rfl⟩,(λu l e=>by cases e),λ_ _ l e=>by cases e⟩
def KU{i a:LpI}{p b:Option Ex}:MI (.lp i p) (.lp a b):=⟨λp=>⟨rfl,rfl⟩,(λu l e=>by cases e),λ_ _ l e=>by cases e⟩
def uf{t:Ty}{o:Option Ob}{o':Ob}(h:Ob.still t o=some o'):∃ u x,o=some (.one t (.d u x))/\o'=.one t (.d u x):=by
 unfold Ob.still at h;split at h<;>first|(cases h;done)|skip
 split at h<;>first|(cases h;done)|skip
 rename_i a;simp only[zda] at h;have:=aeK _ _ a;grind
theorem nI{b:Nat}{base:Nat->Option Ob}{s':St}:∀ (l:List (Nat×ShO)) (j:Nat) (s x:List D) (f:Nat->Option Ob),aex s' l=some x->Cf s x j ->
  ∀ id o',aez b base l j s f id=some o'->f id=some o'\/(id∈l.map (·.1)/\∃ o,s'.ob id=some o/\MI o' o)
 | [],j,s,x,f,e,d,id,o',c=>.inl c
 | (t,.one u h)::l,j,s,x,f,e,d,id,o',c=>by
  obtain⟨v,y,z,h0,h1,g,rfl⟩:=sQ e;have m:=d.right;rw[lV h _ y h1] at m;simp only[aez,p8] at c;rcases nI l _ s z _ g m id o' c with k|⟨n,q⟩
  ·split at k
   ·rename_i a;subst a;simp only[zda] at k;subst k;exact .inr ⟨s6,_,h0,zv⟩
   ·exact .inl k
  ·simp_all
 | (t,.many u)::l,j,s,x,f,e,d,id,o',c=>by
  obtain⟨v,z,h0,g,rfl⟩:=pK e;have r:s[j]?=some (.sl v):=by have:=d 0 s6;simpa using this
  have m:=d.right;simp only[aez] at c;rcases nI l _ s z _ g m id o' c with k|⟨n,q⟩
  ·split at k
   ·rename_i a;subst a;simp only[zda,List.getD,r,z4b,D.els] at k;subst k;exact .inr ⟨s6,_,h0,λp=>⟨by cases p<;>rfl,by cases p<;>rfl⟩,(λu l e=>by cases e;exact⟨_,rfl,rfl⟩),λ_ _ l e=>by cases e⟩
   ·exact .inl k
  ·simp_all
 | (t,.mp u A)::l,j,s,x,f,e,d,id,o',c=>by
  obtain⟨v,z,h0,g,rfl⟩:=xb e;have r:s[j]?=some (.sl v):=by have:=d 0 s6;simpa using this
  have m:=d.right;simp only[aez] at c;rcases nI l _ s z _ g m id o' c with k|⟨n,q⟩
  ·split at k
   ·rename_i a;subst a;simp only[zda,List.getD,r,z4b,D.els] at k;subst k;exact .inr ⟨s6,_,h0,λp=>⟨rfl,rfl⟩,(λu l e=>by cases e),λ_ _ l e=>by cases e;exact⟨_,rfl⟩⟩
   ·exact .inl k
  ·simp_all
 | (t,.keep u w)::l,j,s,x,f,e,d,id,o',c=>by
  obtain⟨v,h0,g⟩:=pJ e;simp only[aez] at c;rcases nI l _ s x _ g d id o' c with k|⟨n,q⟩
  ·split at k
   ·rename_i a;subst a;obtain⟨A,y,_,rfl⟩:=uf k;exact .inr ⟨s6,_,h0,zv⟩
   ·exact .inl k
  ·simp_all
 | (t,.lp p w)::l,j,s,x,f,e,d,id,o',c=>by
  obtain⟨v,h0,g⟩:=xa e;simp only[aez] at c;rcases nI l _ s x _ g d id o' c with k|⟨n,q⟩
  ·split at k
   ·rename_i a;subst a;obtain⟨i,p0,_,rfl⟩:=vN k;exact .inr ⟨s6,_,h0,KU⟩
   ·exact .inl k
  ·simp_all
 | (t,.fv u)::l,j,s,x,f,e,d,id,o',c=>by
  obtain⟨h0,g⟩:=w9 e;simp only[aez] at c;rcases nI l _ s x _ g d id o' c with k|⟨n,q⟩
  ·split at k
   ·rename_i a;subst a;simp only[zda] at k;subst k;exact .inr ⟨s6,_,h0,KS,(λu l e=>by cases e),λ_ _ l e=>by cases e⟩
   ·exact .inl k
  ·simp_all
theorem nH{n b:Nat}{c c':Cx}(T:Two n c c'){s' base:St}(F:c.ob=s'.ob)(G:c.dead=s'.dead):∀ (l:List (Nat×ShO)) (j:Nat) (s x:List D) (f:Nat->Option Ob),aex s' l=some x->Cf s x j->(∀ p∈l,ShO.fine n base p.1 p.2=true) ->
  (∀ p∈uk s' l j,c'.β (b+p.1)=c.β p.2)->∀ id o',aez b base.ob l j s f id=some o'->f id=some o' ∨
   ∃ o,s'.ob id=some o/\((∀ I,fN c I o->fN c' I o')\/(∃ t B,(id,ShO.keep t B)∈l/\Ob.still t (base.ob id)=some o')\/∃ p B i,(id,ShO.lp p B)∈l/\o=.lp i p/\aef p (base.ob id)=some o')
 | [],j,s,x,f,e,m,r,q,id,o',a=>.inl a
 | (t,.one u h)::l,j,s,x,f,e,m,r,q,id,o',a=>by
  obtain⟨v,y,z,h0,h1,A,rfl⟩:=sQ e;have H:=m.right;rw[lV h _ y h1] at H;simp only[aez,p8] at a;simp only[uk,zIa] at q;rcases nH T F G l _ s z _ A H (λp hp=>r p (by simp[hp])) (λp hp=>q p (.inr hp)) id o' a with k|⟨o,C,E⟩
  ·split at k
   ·rename_i g;subst g;simp only[zda] at k;subst k;refine .inr ⟨_,h0,.inl λI k=>?_⟩;have d:=r (id,.one u h) s6
    simp only[ShO.fine,zaa] at d;simp only[fN] at k ⊢;obtain⟨C,E,K,cs,L,M,N⟩:=k;rw[T.w,T.S];refine⟨C,C0 b h u j s d.2,K,cs,L,zD T h v j s y cs (by rw[F,G];exact h1) m.left d.1 (λp hp=>q p (.inl ?_)) M,N⟩
    simp_all [Hw]
   ·exact .inl k
  ·simp_all
 | (t,.many u)::l,j,s,x,f,e,m,r,q,id,o',a=>by
  obtain⟨v,z,h0,A,rfl⟩:=pK e;have J:s[j]?=some (.sl v):=by have:=m 0 s6;simpa using this
  have H:=m.right;simp only[aez] at a;rcases nH T F G l _ s z _ A H (λp hp=>r p (by simp[hp])) (λp hp=>q p hp) id o' a with k|⟨o,C,E⟩
  ·split at k
   ·rename_i g;subst g;simp only[zda,List.getD,J,z4b,D.els] at k;subst k
    simp_all [fN,T.w,T.S]
   ·exact .inl k
  ·simp_all
 | (t,.mp u U)::l,j,s,x,f,e,m,r,q,id,o',a=>by
  obtain⟨v,z,h0,A,rfl⟩:=xb e;have J:s[j]?=some (.sl v):=by have:=m 0 s6;simpa using this
  have H:=m.right;simp only[aez] at a;rcases nH T F G l _ s z _ A H (λp hp=>r p (by simp[hp])) (λp hp=>q p hp) id o' a with k|⟨o,C,E⟩
  ·split at k
   ·rename_i g;subst g;simp only[zda,List.getD,J,z4b,D.els] at k;subst k;refine .inr ⟨_,h0,.inl λI k=>?_⟩;simp only[fN] at k ⊢;obtain⟨q1,O,P,es,Q,R⟩:=k;rw[T.w,T.S];exact⟨q1,O,P,es,Q,iA.same T.w T.S R⟩
   ·exact .inl k
  ·simp_all
 | (t,.keep u B)::l,j,s,x,f,e,m,r,q,id,o',a=>by
  obtain⟨v,h0,A⟩:=pJ e;simp only[aez] at a;rcases nH T F G l _ s x _ A m (λp hp=>r p (by simp[hp])) (λp hp=>q p hp) id o' a with k|⟨o,C,E⟩
  ·grind
  ·grind
 | (t,.lp p B)::l,j,s,x,f,e,m,r,q,id,o',a=>by
  obtain⟨v,h0,A⟩:=xa e;simp only[aez] at a;rcases nH T F G l _ s x _ A m (λp hp=>r p (by simp[hp])) (λp hp=>q p hp) id o' a with k|⟨o,C,E⟩
  ·grind
  ·grind
 | (t,.fv u)::l,j,s,x,f,e,m,r,q,id,o',a=>by
  obtain⟨h0,A⟩:=w9 e;simp only[aez] at a;rcases nH T F G l _ s x _ A m (λp hp=>r p (by simp[hp])) (λp hp=>q p hp) id o' a with k|⟨o,C,E⟩
  ·split at k
   ·rename_i g;subst g;simp only[zda] at k;subst k;have d:=r (id,.fv u) s6
    simp only[ShO.fine,zaa] at d;refine .inr ⟨_,h0,.inl λI k=>?_⟩;obtain⟨C,x,E,K,L⟩:=k;simp only[fN];rw[T.w,T.S];exact⟨C,x,E,K.old T d.1 d.2,L⟩
   ·exact .inl k
  ·grind
theorem vZ:∀ {l:List (Nat×Nat)},cZ (l.map Prod.snd)=true->∀ p∈l,∀ q∈l,p.2=q.2->p=q
 | [],_,p,hp,_,_,_=>by cases hp
 | x::l,h,p,hp,q,hq,e=>by
  simp only[znb,cZ,zaa,zCa] at h;have hx:∀ y∈l,y.2≠x.2:=λy d c=>by grind
  rcases zGa.1 hp with rfl|a
  ·simp_all
  ·rcases zGa.1 hq with rfl|b
   ·simp_all
   ·exact vZ h.2 p a q b e
theorem qD:∀ {l:List (Nat×ShO)} {id:Nat} {t:Ty} {a:Nat},(id,ShO.keep t a)∈l->id∈cn l
 | [],_,_,_,h=>by cases h
 | (i,o)::l,id,t,a,h=>by
  rcases zGa.1 h with k|k
  ·grind [cn]
  ·have ih:=qD k;cases o<;>simp only[cn]<;>first
    | exact ih
    | exact zma _ ih
theorem oR:∀ {l:List (Nat×ShO)} {id:Nat} {p:Option Ex} {a:Nat},(id,ShO.lp p a)∈l->id∈cn l
 | [],_,_,_,h=>by cases h
 | (i,o)::l,id,p,a,h=>by
  rcases zGa.1 h with k|k
  ·grind [cn]
  ·have ih:=oR k;cases o<;>simp only[cn]<;>first
    | exact ih
    | exact zma _ ih
section
variable{w0:Root}{w w':World}{S S':Nat->Nat->Prop}{γ γ':Nat->Option Nat}{β β':Nat->Option (Nat×Nat)}{s s':St}{a a':Act}
def lM(h0:Rp w0 S γ β s a w)(h1:Rp w0 S' γ' β' s' a' w')(I:∀ b o,S b o->S' b o)(E:∀ b o,S b o->w'.cell? ⟨b,o,none⟩=w.cell? ⟨b,o,none⟩)(a3:s'.nt=s.nt){h:Shape}
  (hs:∀ t∈h.keepS,a'.tmps.getD t undef=a.tmps.getD t undef) (a0:∀ id b,γ id=some b->γ' id=some b) (ho:∀ id∈cn h.objs,∀ b,γ id=some b->γ' id=some b/\jd w w' b) {v:List D} (Q:h.dec s s'=some v) (lkS lkO:List Nat) :
  ∃ A β'',Rp w0 S' A β'' (h.mk' s v lkS lkO) a' w'/\∀ id,id<s.base+4096->A id=γ' id:=by
 unfold Shape.dec at Q;split at Q<;>first|(cases Q;done)|skip
 rename_i hg;simp only[zaa] at hg;obtain⟨hg,a8⟩:=hg;obtain⟨x,hx,Q⟩:=ab Q;obtain⟨y,hy,Q⟩:=ab Q;simp only[zda] at Q;subst Q;simp only[Shape.good,zaa,zya,zia] at hg;obtain⟨⟨⟨⟨b1,b2⟩,R⟩,Y⟩,b3⟩:=hg;have bp:=yO s' h.slots x hx;obtain⟨n,hn⟩:∃ n,n=(s.fresh+1)*4096:=⟨_,rfl⟩;have bl:s.base+4096=n:=by rw[hn];simp only[St.base];omega
 rw[<-hn] at R Y;obtain⟨tl,J⟩:∃ tl,tl=Mw s' h.slots 0++uk s' h.objs (aew h.slots):=⟨_,rfl⟩;have a5:Pl tl 0 (aew h.slots+aev h.objs):=by rw[J];have p1:=Hx s' h.slots 0;rw[z8a] at p1;exact p1.append (nT s' h.objs _) j1 j1
 have a6:cZ (tl.map Prod.snd)=true:=by rw[J,zmb,xW,jm];exact a8
 have l:∀ p∈tl,p.2 ∉ s'.dead:=λp hp=>by
  rw[J] at hp;rcases zIa.1 hp with hp|hp
  ·exact sR s' _ x hx _ (by rw[<-xW s' _ 0];exact zwb hp)
  ·exact fo s' _ y hy _ (by rw[<-jm s' _ (aew h.slots)];exact zwb hp)
 obtain⟨A,hγ⟩:∃ A:Nat->Option Nat,A=λid=>if id<n then γ' id else none:=⟨_,rfl⟩
 obtain⟨β'',hβ⟩:∃ β'':Nat->Option (Nat×Nat),β''=λu=>if n<=u then(tl.find? λp=>p.1==u-n).bind λp=>β' p.2 else none:=⟨_,rfl⟩
 have an:∀ id,id<n->A id=γ' id:=λid N=>by rw[hγ];simp[N]
 have L:∀ id b,A id=some b->id<n/\γ' id=some b:=λid b m=>by
  rw[hγ] at m;simp only at m;split at m
  ·rename_i N;exact⟨N,m⟩
  ·cases m
 have a9:∀ p∈tl,β'' (n+p.1)=β' p.2:=λp hp=>by
  rw[hβ];simp only[zad,if_true,zvb];cases hfd:tl.find? λq=>q.1==p.1 with
  | none=> have:=List.find?_eq_none.1 hfd p hp;simp at this
  | some q=>
   have h1:=List.find?_some hfd;have h2:=List.mem_of_find?_eq_some hfd;rw[a5.2 q h2 p hp (by simpa using h1)]
   rfl
 have K:∀ u b,β'' u=some b->∃ p∈tl,u=n+p.1/\β' p.2=some b:=λu b m=>by
  rw[hβ] at m;simp only at m;split at m<;>first|(cases m;done)|skip
  rename_i hu;obtain⟨p,h1,h2⟩:=ab m;refine⟨p,List.mem_of_find?_eq_some h1,?_,h2⟩;have:=List.find?_some h1;simp only[beq_iff_eq] at this;omega
 have aI:Cf (x++y) x 0:=λi N=>by rw[z8a,zeb N]
 have U:Cf (x++y) y (aew h.slots):=λi N=>by rw[<-bp,zOb j1,zvb]
 obtain⟨F,Z⟩:∃ F,F=(h.mk' s (x++y) lkS lkO).ob:=⟨_,rfl⟩;have W:F=aez n s.ob h.objs (aew h.slots) (x++y) (λ_=>none):=by rw[Z];simp only[Shape.mk',CZ,z8a,<-hn]
 have T:Two n ⟨w',S',γ',β',s'.ob,s'.dead⟩ ⟨w',S',A,β'',F,[]⟩:=by
  refine⟨rfl,rfl,an,λid N o' a4=>?_⟩;rw[W] at a4;rcases nI h.objs _ _ y _ hy U id o' a4 with k|⟨_,o,O,C⟩
  ·cases k
  ·exact⟨o,O,C.1,C.2⟩
 have ad:a'.tmps.size=a.tmps.size:=by rw[h1.nt,a3,h0.nt]
 have a7:(h.mk' s (x++y) lkS lkO).tm=(aeA n h.slots 0 (x++y) (λi=>if h.keepS.contains i then(s.tm i).still else .undef)).1:=by simp only[Shape.mk',<-hn]
 have G:=GN (b:=n) T (s':=s') rfl rfl h.slots 0 (x++y) x (λi=>if h.keepS.contains i then(s.tm i).still else .undef) hx aI (λp hp=>(Y p hp).2) (λp hp=>a9 p (by rw[J];exact zlb _ hp))
 refine⟨A,β'',⟨h1.ext,λt ht=>?_,?_,λt ht=>?_,λid o b a1 m=>?_,λid b m=>h1.γn id b (L id b m).2,λid M b m g=>h1.γi id M b (L id b m).2 (L M b g).2,λid N=>?_,λu b e _ m=>?_,λu u' b e e' _ _ m g=>?_,λu id b e _ m hid=>?_,λu hu=>?_,h1.Sb,h1.So⟩,λid N=>an id j1⟩
 ·rw[a7,<-Z];rcases G t with⟨O,C⟩|⟨O,C⟩
  ·exact C _ (h1.tms t ht)
  ·rw[C];by_cases hk:h.keepS.contains t=true
   ·have bm:t∈h.keepS:=by simpa using hk
    rw[zja hk,hs t bm];exact lN (c:=⟨w,S,γ,β,s.ob,s.dead⟩) E I (h0.tms t (by rw[<-ad];exact ht))
   ·rw[zga hk];simp only[AR]
 ·show a'.tmps.size=s.nt;rw[h1.nt,a3]
 ·have bt:s.nt<=t:=ht;rw[a7];rcases G t with⟨O,C⟩|⟨O,C⟩
  ·obtain⟨p,hp,rfl⟩:=zDb.1 O;have:=(Y p hp).1;omega
  ·rw[C];split
   ·rw[h0.tmu t bt];rfl
   ·rfl
 ·have g:=(L id b m).2;rw[<-Z] at a1 ⊢;have V:=a1;rw[W] at V;rcases nH (b:=n) (base:=s) T (s':=s') rfl rfl h.objs (aew h.slots) (x++y) y _ hy U (λp hp=>(R p hp).2) (λp hp=>a9 p (by rw[J];exact zfb _ hp)) id o V with k|⟨o0,O,C|⟨t,ax,C,k3⟩|⟨p,ax,i1,C,rfl,k3⟩⟩
  ·cases k
  ·exact C b (h1.obs id o0 b O g)
  ·have d:=(R _ C).2;simp only[ShO.fine] at d;split at d<;>first|(cases d;done)|skip
   rename_i u M p hw;simp only[zaa,zia] at d;obtain⟨rfl,al⟩:=d;have P:=h0.tms ax (by rw[h0.nt];exact al)
   rw[hw] at P;simp only[AR,AC] at P;obtain⟨_,b0,off,_,z,_⟩:=P;obtain⟨q1,q2⟩:=ho id (qD C) b0 z;rw[g] at q1;simp only[zda] at q1;subst q1;obtain⟨u',x',H,rfl⟩:=uf k3;have hO:=h0.obs id _ b H z;have B:=h1.obs id o0 b O g;simp only[fN,AC] at hO ⊢;obtain⟨r1,r2,_,cs,r3,⟨r4,r5,r6⟩,r7⟩:=hO;have q2:=q2.row r3;have bs:∀ o,¬ S' b o:=by
    cases o0
    case lp i p=> simp only[fN] at B;obtain⟨rr,z1,_⟩:=B;rw[q2] at z1;simp[bO,z1] at r3
    case fv v=>exact B.1
    all_goals (simp only[fN] at B;exact B.2.2.1)
   refine⟨r1,r2,bs,cs,?_,⟨r4,r5,r6.mono E I⟩,r7⟩;simp only[bO,q2];exact r3
  ·have d:=(R _ C).2;simp only[ShO.fine,zaa,zia] at d;obtain⟨d,al⟩:=d;have P:=h0.tms ax (by rw[h0.nt];exact al)
   obtain⟨b0,z⟩:∃ b0,γ id=some b0:=by
    split at d<;>first|(cases d;done)|skip
    ·rename_i M hw;have e:=of_decide_eq_true d;subst e;rw[hw] at P;simp only[AR,AC] at P;obtain⟨_,b0,_,z⟩:=P;exact⟨b0,z⟩
    ·rename_i v hw;rw[hw] at P;split at d<;>first|(cases d;done)|skip
     rename_i M hv;have e:=of_decide_eq_true d;subst e;obtain⟨bv,_,_,bz,_⟩:=jp P;obtain⟨_,x,_,k,_⟩:=h0.obs v _ bv hv bz;simp only[fi,AR,AC] at k;obtain⟨_,b0,_,z⟩:=k;exact⟨b0,z⟩
   obtain⟨q1,q2⟩:=ho id (oR C) b0 z;rw[g] at q1;simp only[zda] at q1;subst q1;obtain⟨i,p0,H,rfl⟩:=vN k3;have hO:=h0.obs id _ b H z;have B:=h1.obs id _ b O g;simp only[fN] at hO B ⊢;obtain⟨rec,r1,⟨r2,r3,r4,r5⟩,r6,_⟩:=hO;obtain⟨X,v1,_,_,v4⟩:=B;have e:AE rec X:=by
    rcases q2 with k|⟨r,r',z1,z2,z3⟩
    ·rw[v1,r1] at k;cases k;exact⟨rfl,rfl,rfl,rfl⟩
    ·rw[r1] at z1;cases z1;rw[v1] at z2;cases z2;exact z3
   refine⟨X,v1,⟨by rw[e.1];exact r2,by rw[e.2.1];exact r3,by rw[e.2.2.1];exact r4,by rw[e.2.2.2];exact r5⟩,λt ht=>?_,v4⟩
   rw[e.1];refine fi.mono (c:=⟨w,S,γ,β,s.ob,s.dead⟩) E I (λj bj hj=>?_) (r6 t ht);rcases zta j n with k|k
   ·exact(an j k).trans (a0 j bj hj)
   ·have a2:γ j=some bj:=hj;rw[h0.γf j j1] at a2;cases a2
 ·have b4:(s.fresh+1)*4096+4096<=id:=N;rw[hγ];simp only;rw[zga j1]
 ·obtain⟨p,hp,_,g⟩:=K u _ m;exact h1.βn _ b e (l p hp) g
 ·obtain⟨p,hp,rfl,k⟩:=K u _ m;obtain⟨q,hq,rfl,k'⟩:=K u' _ g;have:=h1.βi _ _ b e e' (l p hp) (l q hq) k k';rw[vZ a6 p hp q hq this]
 ·obtain⟨p,hp,_,g⟩:=K u _ m;exact h1.βγ _ id b e (l p hp) g (L id b hid).2
 ·have b5:(s.fresh+1)*4096+4096<=u:=hu;cases hc:β'' u with
  | none=>rfl
  | some b=> obtain⟨p,hp,e,_⟩:=K u b hc;have:=(a5.1 p hp).2;omega
end
variable{ro:Option Nat}{nn:Nat}
section
variable{P:Program}{E:Env}{w0:Root}{S:Nat->Nat->Prop}{γ:Nat->Option Nat}{β:Nat->Option (Nat×Nat)}{s:St}{a:Act}{w:World}
def Fm.tr{s s1:St}{S S1 S2:Nat->Nat->Prop}{γ γ1 γ2:Nat->Option Nat}{a a1 a2:Act}{w w1 b:World}(h:Fm s S γ a w S1 γ1 a1 w1)(k:Fm s1 S1 γ1 a1 w1 S2 γ2 a2 b)(e:Sk s s1):Fm s S γ a w S2 γ2 a2 b:=h.trans k e.lkS e.lkO
def rO(s:St)(t:Nat):St:=
 match s.tm t with
  | .mem a id=>match s.ob id with
   | some (.many u l)=>if a.beq u&&!(s.lkO.contains id) then{ s.setOb id none with tm:=λi=>if i=t then .d (.sl u) (.sl l) else s.tm i } else s
   | _=>s
  | _=>s
def yZ(s:St)(t:Nat)(l:List Nat):gn s (t::l)=gn (rO s t) l:=rfl
def A5(h:Rp w0 S γ β s a w)(t:Nat):∃ S',Rp w0 S' γ β (rO s t) a w/\Fm s S γ a w S' γ a w/\Sm s (rO s t):=by
 have r:∃ S',Rp w0 S' γ β s a w/\Fm s S γ a w S' γ a w/\Sm s s:=⟨S,h,Fm.refl _ _ _ _ _,Sm.refl s⟩;unfold rO;split
 ·rename_i t' id hm;split
  ·rename_i u l Q;split
   ·rename_i hc;simp only[zaa,zCa] at hc;obtain⟨H,U⟩:=hc;have hu:=aeK _ _ H;subst hu;have T:t<a.tmps.size:=by
     rcases zta t a.tmps.size with k|k
     ·exact k
     ·have:=h.tmu t (by rw[<-h.nt];exact k)
      simp_all
    have y:=h.tms t T;rw[hm] at y;simp only[AR,AC] at y;obtain⟨K,M,b,G,y⟩:=y;obtain⟨l',cap,P,A,N⟩:=y _ Q;simp only[Ob.many.injEq,true_and] at P;subst P;have hO:=h.obs id _ b Q G;simp only[fN] at hO;obtain⟨_,O,V,cs,Z,D,I⟩:=hO;obtain⟨S',g⟩:∃ S':Nat->Nat->Prop,S'=λd o=>S d o\/d=b:=⟨_,rfl⟩;have m:∀ d o,S d o->S' d o:=λd o j=>by rw[g];exact .inl j
    have hle:Cx.le ⟨w,S,γ,β,s.ob,s.dead⟩ ⟨w,S',γ,β,(s.setOb id none).ob,s.dead⟩:=by
     refine⟨λ_ _ _=>rfl,m,λ_ _ k=>k,λi o p _=>?_,λv N=>⟨N,λb e he=>⟨he,λn hn=>hn⟩⟩⟩
     simp_all [St.setOb]
    refine⟨S',⟨h.ext,λi p=>?_,h.nt,λi p=>?_,λi o d p z=>?_,h.γn,h.γi,h.γf,λv d e F he=>?_,h.βi,h.βγ,h.βf,λd o j=>?_,λd o j B=>?_⟩,⟨m,λ_ _ _=>rfl,λ_ _=>rfl,λ_ _ _ j=>⟨j,jd.refl _ _⟩,zka _,λ_ _ j=>j,j6.same rfl (da.refl _)⟩,⟨rfl,rfl,rfl,rfl⟩⟩
    ·by_cases q:i=t
     ·subst q;simp only[if_true];have E:=ar K N;rw[E];refine c6 (by simpa only[ao] using M) (by simp only[wt];exact⟨l,rfl,O⟩) (aec ?_)
      refine adS (b:=b) (off:=0) (.inr rfl) A ⟨cs,I.mono (λ_ _ _=>rfl) m,λi c hc=>⟨by rw[g];exact .inr rfl,?_⟩⟩
      rw[z8a,cell_of_row w D];have:=(zna.1 hc).1;rw[<-hc,zoc,zeb this]
     ·simp only[zga q];exact(h.tms i p).mono hle
    ·have J:s.nt<=i:=p;have q:i≠t:=λe=>by rw[h.nt] at T;omega
     simp only[zga q];exact h.tmu i J
    ·simp only[St.setOb] at p;split at p<;>first|(cases p;done)|skip
     rename_i L;refine(h.obs i o d p z).mono hle rfl λo x=>?_;have C:S' d o:=x;rw[g] at C;rcases C with k|k
     ·exact k
     ·subst k;exact z3a (h.γi i id d z G) L
    ·obtain⟨W,X,Y⟩:=h.βn v d e F he;refine⟨W,X,λo x R=>?_⟩;rw[g] at R;rcases R with k|k
     ·exact Y o x k
     ·subst k;exact h.βγ v id d e F he G
    ·rw[g] at j;rcases j with k|k
     ·exact h.Sb d o k
     ·subst k;exact(h.γn id d G).2
    ·rw[g] at j;rcases j with k|k
     ·exact h.So d o k B
     ·subst k;exact z3a B (h.γn id d G).1
   ·exact r
  ·exact r
 ·omega
theorem pR:∀ (l:List Nat) {S:Nat->Nat->Prop} {s:St},Rp w0 S γ β s a w->∃ S',Rp w0 S' γ β (gn s l) a w/\Fm s S γ a w S' γ a w/\Sm s (gn s l)
 | [],S,s,h=>⟨S,h,Fm.refl _ _ _ _ _,Sm.refl s⟩
 | t::l,S,s,h=>by obtain⟨S1,h1,f1,m1⟩:=A5 h t;obtain⟨S2,b,f2,m2⟩:=pR l h1;rw[yZ];exact⟨S2,b,f1.trans f2 m1.lkS m1.lkO,m1.trans m2⟩
theorem Qy{e a:Ex}(h:e.is a=true):e=a:=by cases e<;>cases a<;>simp only[Ex.is,zia] at h<;>first|rfl|(cases h;done)|(rw[h])
theorem qx{e:Ex}:∀ {l:List (Ex×Shape)} {i j:Nat} {h:Shape},s9 e l i=some (j,h)->i<=j/\l[j-i]?=some (e,h)
 | [],_,_,_,k=>by simp[s9] at k
 | (a,b)::l,i,j,h,k=>by
  simp only[s9] at k;split at k
  ·grind [Option.some.injEq,Prod.mk.injEq,Qy]
  ·obtain⟨c,d⟩:=qx k;grind
theorem jh{R:Type}{base:St}{k:Ex->St->Option R}{c b:List Nat}{r:R}{e:Ex}{h:Shape}{v:List D}:∀ {l:List (Ex×Shape)} {i j:Nat},i<=j->l[j-i]?=some (e,h)->lr base k c b l i (j,v)=some r ->
  k e (h.mk' base v base.lkS base.lkO)=some r/\subset h.keepS c=true/\subset (cn h.objs) b=true
 | [],_,_,_,hl,_=>by simp at hl
 | [(d,f)],i,j,a,hl,hc=>by
  have:j-i=0:=by grind
  rw[this] at hl;simp only[zMb,zda,Prod.mk.injEq] at hl
  simp_all [lr,zaa]
 | (d,f)::x::l,i,j,a,hl,hc=>by
  simp only[lr] at hc;split at hc<;>first|(cases hc;done)|skip
  rename_i m;simp only[zaa] at m;split at hc
  ·simp_all
  ·rename_i g;refine jh (i:=i+1) j1 ?_ hc
   grind
def fL{l l':List Nat}(h:subset l l'=true):∀ x∈l,x∈l':=λx hx=>by
 have:=zya.1 h x hx
 simp_all
def Rp.lk(h:Rp w0 S γ β s a w)(lkS lkO:List Nat):Rp w0 S γ β { s with lkS:=lkS,lkO:=lkO } a w:=
 ⟨h.ext,h.tms,h.nt,h.tmu,h.obs,h.γn,h.γi,h.γf,h.βn,h.βi,h.βγ,h.βf,h.Sb,h.So⟩
def Fm.shape{s2:St}{S':Nat->Nat->Prop}{γ' γ'':Nat->Option Nat}{a':Act}{w':World}(h0:Rp w0 S γ β s a w)(h:Fm s2 S γ a w S' γ' a' w')(d:∀ id,id<s.base+4096->γ'' id=γ' id):Fm s2 S γ a w S' γ'' a' w':=
 ⟨h.sub,h.cell,h.slots,λid hid b c=>by
  obtain⟨e,g⟩:=h.objs id hid b c;refine⟨?_,g⟩;rw[d id ?_]
  ·exact e
  ·rcases zta id (s.base+4096) with k|k
   ·exact k
   ·rw[h0.γf id k] at c;exact z3a c s6,h.sz,λid b c=>by
  rw[d id ?_]
  ·exact h.gam id b c
  ·rcases zta id (s.base+4096) with k|k
   ·exact k
   ·rw[h0.γf id k] at c;exact z3a c s6,h.dfs⟩
def ql{base:St}{a:List (Ex×Shape)}{e:Ex}{s':St}{r:Nat×List D}(h:BR base a e s'=some r):∃ sh,a[r.1]?=some (e,sh)/\sh.dec base s'=some r.2:=by
 unfold BR at h;obtain⟨q,h1,h⟩:=ab h;obtain⟨v,b,h⟩:=ab h;simp only[zda] at h;subst h;obtain⟨_,c⟩:=qx h1
 simp_all
end
end Sy
end
noncomputable section
namespace Sy
open Go
open Go.ChangeMaps (setBlock)
open Go.RowKit
variable{ro:Option Nat}{nn:Nat}
section
variable{P:Program}{E:Env}{w0:Root}{S:Nat->Nat->Prop}{γ:Nat->Option Nat}{β:Nat->Option (Nat×Nat)}{s:St}{a:Act}{w:World}
def Kp(Q:Exit->Act->World->Prop)(w0:Root)(s:St)(S:Nat->Nat->Prop)(γ:Nat->Option Nat)(a:Act)(w:World){R:Type}(k:Ex->St->Option R)(r:R):Prop:=
 ∀ e s' S' γ' β' a' w',Rp w0 S' γ' β' s' a' w'->Fm s S γ a w S' γ' a' w'->Sk s s'->k e s'=some r->Q (Gg e) a' w'
def Hz{c:Cx}{x:AV}{v:Value}(h:AR c x v):fi c (iX c.ob x) v:=by
 cases x<;>simp only[iX]<;>first|(simp only[fi];done)|skip
 case d t y=>exact h
 case own t u l=>exact lN (c:=c) (c':=c) (λ_ _ _=>rfl) (λ_ _ h=>h) h
 case fptr t y=>exact h
 case ptr t id p=>
  cases p with
  | cons i p=>simp only[fi]
  | nil=>
   simp only;split
   ·rename_i a;simp only[AR] at h;simp only[fi,se];exact we a h.1 h.2
   ·simp only[fi]
 case clo f l=>exact De h
 case yld id=>exact h
 case map kt vt id=>exact Df h
def Rp.act(h:Rp w0 S γ β s a w){a':Act}(b:a'.tmps=a.tmps):Rp w0 S γ β s a' w:=
 ⟨h.ext,by rw[b];exact h.tms,by rw[b];exact h.nt,h.tmu,h.obs,h.γn,h.γi,h.γf,h.βn,h.βi,h.βγ,h.βf,h.Sb,h.So⟩
def Gc(d:∀ l,ro=some l->∃ r0,w.heap[l]?=some (Obj.loop r0))(a:FuncId)(tmps:Array Value)(ps:Array Tmp)(asg bdy:Code) :
  ∃ L mark os rec,(Instr.enterLoop a tmps ps asg bdy ro).run P w=.ok (L,mark) (grown w os w.drawn)/\(grown w os w.drawn).heap[L]?=some (Obj.loop rec)/\rec.tmps=tmps/\rec.params=ps/\rec.assign=asg/\rec.body=bdy/\rec.state=.ready/\rec.pending=none ∧
   w.heap.size<=L/\cB w.heap.size (grown w os w.drawn) (grown w os w.drawn).heap.size mark:=by
 cases ro with
 | none=>
  obtain⟨W1,b⟩:∃ W1,W1=(w.alloc (.deferred (some []))).alloc (.loop { state:=.ready,pending:=none,fn:=a,tmps,params:=ps,assign:=asg,body:=bdy,defers:=w.heap.size }):=⟨_,rfl⟩;have c:W1=grown w [.deferred (some []),.loop { state:=.ready,pending:=none,fn:=a,tmps,params:=ps,assign:=asg,body:=bdy,defers:=w.heap.size }] w.drawn:=by rw[b];unfold grown;show({ w with heap:=(w.heap.push _).push _ }:World)=_;congr 1<;>(apply zdc;simp)
  have f:W1.heap[w.heap.size+1]?=some (.loop { state:=.ready,pending:=none,fn:=a,tmps,params:=ps,assign:=asg,body:=bdy,defers:=w.heap.size }):=by rw[b];have:=World.alloc_heap_new (w.alloc (.deferred (some []))) (.loop { state:=.ready,pending:=none,fn:=a,tmps,params:=ps,assign:=asg,body:=bdy,defers:=w.heap.size });rwa [World.size_alloc] at this
  have e:W1.heap[w.heap.size]?=some (.deferred (some [])):=by rw[b];exact(Below.heap_alloc _ _ _ s6).trans (World.alloc_heap_new w _)
  refine⟨w.heap.size+1,[{ target:=.collected w.heap.size,args:=#[] }],[.deferred (some []),.loop { state:=.ready,pending:=none,fn:=a,tmps,params:=ps,assign:=asg,body:=bdy,defers:=w.heap.size }],{ state:=.ready,pending:=none,fn:=a,tmps,params:=ps,assign:=asg,body:=bdy,defers:=w.heap.size },(run_enterLoop_outer a tmps ps asg bdy).trans ?_,?_,rfl,rfl,rfl,rfl,rfl,rfl,zCc _,w.heap.size,rfl,zka _,?_,?_,trivial⟩
  rotate_left 1
  ·simp_all
  rotate_left 1
  ·simp_all
  ·simp_all
  ·grind
 | some g=>
  obtain⟨r0,h0⟩:=d g rfl;obtain⟨W1,b⟩:∃ W1,W1=w.alloc (.loop { state:=.ready,pending:=none,fn:=a,tmps,params:=ps,assign:=asg,body:=bdy,defers:=r0.defers }):=⟨_,rfl⟩;have c:W1=grown w [.loop { state:=.ready,pending:=none,fn:=a,tmps,params:=ps,assign:=asg,body:=bdy,defers:=r0.defers }] w.drawn:=by simp_all [grown]
  refine⟨w.heap.size,[],[.loop { state:=.ready,pending:=none,fn:=a,tmps,params:=ps,assign:=asg,body:=bdy,defers:=r0.defers }],{ state:=.ready,pending:=none,fn:=a,tmps,params:=ps,assign:=asg,body:=bdy,defers:=r0.defers },(run_enterLoop_inner h0 a tmps ps asg bdy).trans ?_,?_,rfl,rfl,rfl,rfl,rfl,rfl,zka _,trivial⟩
  rotate_left 1
  ·rw[<-c,b];exact World.alloc_heap_new w _
  ·simp_all
def Nn(hE:EnvOk P E){Q:Exit->Act->World->Prop}(hro:∀ l,ro=some l->∃ r0,w.heap[l]?=some (Obj.loop r0))(h:Rp w0 S γ β s a w){f:Operand}{ps:Array Tmp}{asg bdy:Code}{an:Ann}{R:Type}{k:Ex->St->Option R}{r:R}
  (hev:YR E f ps asg bdy an s k=some r) (hQ:Kp Q w0 s S γ a w k r):(Code.rangeFunc f ps asg bdy).wpIn (FW ro) nn P Q a w:=by
 unfold YR at hev;split at hev<;>first|(cases hev;done)|skip
 rename_i t;split at hev<;>first|(cases hev;done)|skip
 rename_i g l htm;split at hev<;>first|(cases hev;done)|skip
 rename_i hcond;simp only[zaa,zCa] at hcond;obtain⟨hp,h4095⟩:=hcond;obtain⟨G,hG,hev⟩:=ab hev;obtain⟨id,hid⟩:∃ id,id=(s.fresh+1)*4096:=⟨_,rfl⟩;rw[<-hid] at hev;obtain⟨info,hinfo⟩:∃ info:LpI,info={ nt:=s.nt,ps:=ps.toList,asg:=asg,bdy:=bdy,caps:=λj=>iX s.ob (s.tm j) }:=⟨_,rfl⟩;rw[<-hinfo] at hev;obtain⟨⟨fn,f1,f2,f3⟩,hI⟩:=hE.inl g G hG;have hb:¬ fn.body=none:=k7
 have f2' : ¬ fn.name = "runtime.NumGoroutine" := by simpa using f2
 refine wpIn_rangeFunc λfid _=>?_;obtain⟨L,mark,os,rec,e1,e2,e3,e4,e5,e6,e7,e8,e9,e10⟩:=Gc (P:=P) hro fid a.tmps ps asg bdy;obtain⟨w1,hw1⟩:∃ w1,w1=grown w os w.drawn:=⟨_,rfl⟩;obtain⟨g1,le1⟩:=h.grow (os:=os) (d:=w.drawn) (zka _) (S':=S) (λ_ _ hb=>hb) (λ_ _ hb=>.inl hb);have kept1:da w (grown w os w.drawn):=da.grown;have hsz1:w.heap.size<=(grown w os w.drawn).heap.size:=s6
 have hcell1:∀ b o,S b o->(grown w os w.drawn).cell? ⟨b,o,none⟩=w.cell? ⟨b,o,none⟩:=λb o hb=>dD (h.Sb b o hb);have hold1:∀ b,b<w.heap.size->(grown w os w.drawn).heap[b]?=w.heap[b]?:=λb hb=>c9 hb;rw[<-hw1] at e1 e2 e10 g1 kept1 hsz1 hcell1 hold1;clear le1 hw1;have hLlt:=(zpa.1 e2).1;have hγid:γ id=none:=h.γf id (by rw[hid];simp only[St.base];omega)
 obtain⟨sX,hsX⟩:∃ sX,sX=({ s with fresh:=s.fresh+1 }:St).setOb id (some (.lp info none)):=⟨_,rfl⟩;rw[<-hsX] at hev;have q1:Rp w0 S γ β sX a w1:=by rw[hsX];exact(g1.later.setFree (id:=id) hγid _).1
 have RX:Rp w0 S (m8 γ id L) β sX a w1:=by
  refine(q1.newOb (id:=id) (b:=L) hγid (λho=>?_) hLlt (λi hi=>?_) (λu f hu hf=>?_) ?_ λo ho=>?_).1
  ·have:=ho.1;have:=h.ext.sz;omega
  ·have:=(h.γn i _ hi).2;omega
  ·have hu':u ∉ s.dead:=by rw[hsX] at hu;exact hu
   have:=(h.βn u _ _ hu' hf).2.1;omega
  ·rw[hsX];show id<(s.fresh+1)*4096+4096;omega
  ·have ho':some (Ob.lp info none)=some o:=by rw[<-ho,hsX];simp[St.setOb]
   cases ho';simp only[fN];refine⟨rec,e2,⟨by rw[e3,hinfo];exact h.nt,by rw[e4,hinfo],by rw[e5,hinfo],by rw[e6,hinfo]⟩,λu hu=>?_,e7,e8⟩
   rw[e3,hinfo];have hu':u<s.nt:=by rw[hinfo] at hu;exact hu
   exact fi.mono (c:=⟨w,S,γ,β,s.ob,s.dead⟩) (c':=⟨w1,S,m8 γ id L,β,sX.ob,sX.dead⟩) hcell1 (λ_ _ hb=>hb) (λi b hb=>eK hγid hb) (Hz (h.tms u (by rw[h.nt];exact hu')))
 have hA:=aS RX (.tmp t);have htX:sX.tm t=.clo g l:=by rw[hsX];exact htm
 have hA':AR ⟨w1,S,m8 γ id L,β,sX.ob,sX.dead⟩ (.clo g l) (a.eval (.tmp t)):=by rw[<-htX];exact hA
 simp only[AR,AC] at hA';obtain⟨na,caps,hcs,hcap⟩:=hA';have hv:=ar na hcs;obtain⟨k1,k2⟩:=kX l caps hp hcap;refine⟨L,mark,w1,{ target:=.fn (.func g) caps.toArray,args:=#[.func (.yield L) #[] #[]] },w1,g,(Value.func (.yield L) #[] #[]::caps).toArray,w1,e1,?_,λ_ _=>trivial,?_,λh=>(by cases h),?_⟩
 ·simp_all [resolve,go_sem,Deferred.ofValue,Act.eval]
 ·simp[invoke,callFunc,f1,f2',hb]
 have hc:=hI an R w0 S (m8 γ id L) β sX a w1 (.yld id::l) (Value.func (.yield L) #[] #[]::caps) _ r RX (by simp[k1]) (λi x v hx hv=>by
  cases i with
  | zero=> simp only[zMb,zda] at hx hv;subst hx;subst hv;simp only[AR,AC];exact⟨λ_ h=>(by cases h),L,rfl,bA _ _ _⟩
  | succ i=>exact k2 i x v (by simpa using hx) (by simpa using hv)) hev
 refine yF (hc.mono λe w' ⟨v,y,s',S',γ',β',z1,z2,z3,_,z5,z6⟩=>?_);subst z1;have hγ':γ' id=some L:=z5.gam id L (bA _ _ _);have fin:∀ (p:Option Ex) (i:LpI),s'.ob id=some (.lp i p)->∃ w4,(Instr.endLoop L).run P w'=.ok (p.map AQ) w4/\Rp w0 S' γ' β' (s'.setOb id none) { a with defers:=mark++a.defers } w4/\Fm s S γ a w S' γ' { a with defers:=mark++a.defers } w4/\Sk s (s'.setOb id none):=by
  intro p i hob;have hO:=z3.obs id _ L hob hγ';simp only[fN] at hO;obtain⟨rec',v1,_,_,v4⟩:=hO;have hst:rec'.state≠.busy/\rec'.pending=p.map AQ:=by
   cases p with
   | none=>exact⟨by rw[v4.1];simp,v4.2⟩
   | some e=>exact⟨by rw[v4.1];simp,v4.2⟩
  have F4:=Fm.setLp z3 (s1:=s) v1 (r':={ rec' with state:=.exhausted }) ⟨rfl,rfl,rfl,rfl⟩;have hlkO:sX.lkO=s.lkO:=by rw[hsX];rfl
  have hlkS:sX.lkS=s.lkS:=by rw[hsX];rfl
  have hnt:sX.nt=s.nt:=by rw[hsX];rfl
  refine⟨_,by rw[<-hst.2];exact run_endLoop v1 hst.1,(z3.setLp hγ' v1 _).act rfl,⟨z5.sub,λb o hb=>(F4.cell b o (z5.sub b o hb)).trans ((z5.cell b o hb).trans (hcell1 b o hb)),λ_ _=>rfl,λj hj b hb=>?_,zNa hsz1 (zNa z5.sz F4.sz),λj b hb=>z5.gam j b (eK hγid hb),?_,mark,rfl,?_,?_⟩,⟨z6.lkS.trans hlkS,z6.lkO.trans hlkO,z6.nt.trans hnt⟩⟩
  ·obtain⟨y1,y2⟩:=z5.objs j (by rw[hlkO];exact hj) b (eK hγid hb)
   obtain⟨_,y3⟩:=F4.objs j hj b y1;exact⟨y1,(jd.trans (.inl (hold1 b (h.γn j b hb).2)) y2).trans y3⟩
  ·exact(kept1.trans z5.dfs.1).trans F4.dfs.1
  ·exact e10.mono (zka _) (z5.dfs.1.trans F4.dfs.1) (zNa z5.sz F4.sz)
  ·intro hh;have:s.lkO.contains 4095=true:=by simpa using hh
   rw[this] at h4095;cases h4095
 simp only[rangePost];split at z2<;>first|(cases z2;done)|skip
 ·rename_i i hob;obtain⟨w4,y1,y2,y3,y4⟩:=fin none i hob;exact⟨_,w4,y1,hQ .normal _ S' γ' β' _ w4 y2 y3 y4 z2⟩
 ·rename_i i e hob;obtain⟨w4,y1,y2,y3,y4⟩:=fin (some e) i hob;refine⟨_,w4,y1,?_⟩;have hq:=hQ e _ S' γ' β' _ w4 y2 y3 y4 z2;cases e with
  | normal=>exact wpIn_skip hq
  | exit j=>exact wpIn_exit hq
  | ret=>exact wpIn_ret hq
end
end Sy
end
noncomputable section
namespace Sy
open Go
variable{ro:Option Nat}{nn:Nat}
section
variable{V:Nat->St->Option AV}{ops:Array Oper}{md:Region.Mode}
def ue(V:Nat->St->Option AV)(ops:Array Oper)(i:Nat)(K:St->Prop)(s:St):Prop:=
 match ops[i]? with
 | none=>K s
 | some o=>∃ v,V i s=some v/\K (s.put o.dst v)
def ti(V:Nat->St->Option AV)(md:Region.Mode)(ops:Array Oper)(n:Nat)(L:Array Bool->St->Prop):Nat->Array Bool->St->Prop
 | 0,a,s=>L a s
 | f+1,a,s=>Region.ready md ops a≠[]/\∀ i∈Region.ready md ops a,i<n/\ue V ops i (ti V md ops n L f (a.setIfInBounds i true)) s
def mJ(V:Nat->St->Option AV)(ops:Array Oper):Nat->Nat->St->Option St
 | 0,_,s=>some s
 | c+1,k,s=>(V k s).bind λv=>mJ V ops c (k+1) (s.put ((ops[k]?).bind (·.dst)) v)
theorem Ae:∀ (c d k:Nat) (s:St),mJ V ops (c+d) k s=(mJ V ops c k s).bind λs'=>mJ V ops d (k+c) s'
 | 0,d,k,s=>by simp[mJ]
 | c+1,d,k,s=>by
  rw[show c+1+d=(c+d)+1 by omega]
  simp only[mJ];cases V k s with
  | none=>rfl
  | some v=> simp only[zba];rw[Ae c d (k+1),show k+1+c=k+(c+1) by omega]
def XE(V:Nat->St->Option AV)(ops:Array Oper):Prop:=∀ i a,ops[i]?=some a->∀ (s:St) (d:Option Nat) (v:AV),(∀ t,d=some t->t ∉ a.looksAt ops)->V i (s.put d v)=V i s
def zf{n i:Nat}{x:Oper}{v:AV}{L:Array Bool->St->Prop}(A:XE V ops)(G:ops[i]?=some x)(B:mQ md ops n)(r:i<n)
  (o:∀ a s,L a s->∀ j∈Region.ready md ops a,n<=j) :
  ∀ (f:Nat) (a:Array Bool) (s:St),HeadInv md ops n a ->
   (∀ j m,ops[j]?=some m->j≠i->a.getD j true=false->(∀ e∈m.after,Region.binds md e=true->e.on≠i)->x.apart ops m=true) ->
   i∈Region.ready md ops a->V i s=some v ->
   ti V md ops n L f (a.setIfInBounds i true) (s.put x.dst v)->ti V md ops n L (f+1) a s:=by
 intro f
 induction f with
 | zero=>
  intro a s inv _ l D H;have g:=(mem_ready.1 l).1;refine⟨λh=>(by rw[h] at l;cases l),λj p=>?_⟩
  have c:j<n:=by
   rcases zta j n with h|h
   ·exact h
   ·exact z3a p (B _ _ inv r g j h)
  refine⟨c,?_⟩;by_cases hji:j=i
  ·simp_all [ue]
  ·have:=o _ _ H j (ready_mono p hji);omega
 | succ f ih=>
  intro a s inv b l D H;have g:=(mem_ready.1 l).1;refine⟨λh=>(by rw[h] at l;cases l),λj p=>?_⟩
  have c:j<n:=by
   rcases zta j n with h|h
   ·exact h
   ·exact z3a p (B _ _ inv r g j h)
  refine⟨c,?_⟩;by_cases hji:j=i
  ·simp_all [ue]
  ·have h1:=(H.2 j (ready_mono p hji)).2;obtain⟨t,m,q,C⟩:=mem_ready.1 p;have w:∀ e∈m.after,Region.binds md e=true->e.on≠i:=λe he J heq=>by
    grind
   obtain⟨a1,a2,a3⟩:=Oper.apart_spec (b j m q hji t w);unfold ue at h1 ⊢;rw[q] at h1 ⊢;obtain⟨u,E,I⟩:=h1;rw[A j m q _ _ _ a1] at E;refine⟨u,E,ih (a.setIfInBounds j true) (s.put m.dst u) (inv.set p c) (λk ok hk y g z=>?_) (ready_mono l (Ne.symm hji)) ?_ ?_⟩
   ·refine b k ok hk y ?_ z;by_cases hjk:j=k
    ·simp_all
    ·simp_all
   ·rw[A i x G _ _ _ a3];exact D
   ·rw[Array.setIfInBounds_comm _ _ hji,zT u v (λd F he=>a2 d he F)];exact I
theorem vC{n g:Nat}{sF:St}(p:XE V ops)(hn:n<=ops.size)(q:mQ md ops n) :
  ∀ (c k:Nat) (a:Array Bool) (s:St),k+c=n->HeadInv md ops n a->(∀ i,i<k->a.getD i false=true) ->
  Region.lexHead md ops g c k a=true->mJ V ops c k s=some sF ->
  ti V md ops n (λb s'=>Region.seqB md ops g n b=true/\(∀ i,i<n->b.getD i false=true)/\s'=sF) c a s
 | 0,k,a,s,hk,_,hl,j,h=>by
  have:k=n:=by simpa using hk
  subst this;simp only[mJ,zda] at h;exact⟨by simpa [Region.lexHead] using j,hl,h⟩
 | c+1,k,a,s,hk,inv,hl,j,h=>by
  have d:k<n:=j1
  have m:k<ops.size:=j1
  have h0:ops[k]?=some ops[k]:=zIb m;simp only[Region.lexHead,zaa] at j;obtain⟨⟨t,r⟩,l⟩:=j;have f:k∈Region.ready md ops a:=by simpa using t
  simp only[mJ] at h;obtain⟨v,h1,o⟩:=ab h;rw[h0,zba] at o;refine zf p h0 q d (λb s' hL=>seqB_ready hL.1) c a s inv (Region.free_spec h0 r) f h1
   (vC p hn q c (k+1) _ _ j1 (inv.set f d) (λi u=>?_) l o)
  by_cases e:i=k
  ·simp_all [inv.size]
  ·exact getD_set_true (hl i j1)
theorem vB{n:Nat}{L:Array Bool->St->Prop}{T:List Nat}:∀ (f:Nat) (a:Array Bool) (s:St),ti V md ops n L f a s ->
  (∀ t∈T,∀ j g,ops[j]?=some g->a.getD j true=false->g.dst≠some t)->∃ b s',L b s'/\(∀ t∈T,s'.tm t=s.tm t)/\s'.ob=s.ob/\Sm s s'
 | 0,a,s,h,_=>⟨a,s,h,λ_ _=>rfl,rfl,Sm.refl s⟩
 | f+1,a,s,h,hT=>by
  obtain⟨h1,u⟩:=h;obtain⟨i,q⟩:=zpd _ h1;obtain⟨w,c⟩:=u i q;obtain⟨m,o,r,_⟩:=mem_ready.1 q;unfold ue at c;rw[r] at c;obtain⟨v,_,y⟩:=c;obtain⟨l',s',m1,m2,m3,m4⟩:=vB f _ _ y (λt d j g x hu=>by
   by_cases e:i=j
   ·subst e;exfalso;rcases zta i a.size with l|k
    ·simp[Array.getD,l] at hu
    ·simp[Array.getD,zIc.2 k] at hu
   ·rw[getD_set_ne true e] at hu;exact hT t d j g x hu)
  have p:=aeE s o.dst v;exact⟨l',s',m1,λt d=>(m2 t d).trans (xE (hT t d i o r m)),m3.trans p.1,(Sm.put s o.dst v).trans m4⟩
end
section
variable{E:Env}{ops:Array Oper}
def mV(E:Env)(ops:Array Oper)(n id i:Nat)(s:St):Option AV:=if i=n then some .undef else tq E ops n id i s some
def wj(s:St)(d:Option Nat)(v:AV)(id:Nat)(o:Option Ob):(s.put d v).setOb id o=(s.setOb id o).put d v:=by
 cases d with
 | none=>rfl
 | some d=>
  by_cases h:d<s.nt
  ·simp_all [St.put,St.setOb]
  ·grind [St.put,St.setOb]
def GA(n id:Nat):XE (mV E ops n id) ops:=by
 intro i a m s d v h;unfold mV;split
 ·rfl
 ·obtain⟨p1,c,o,p,f,q,r⟩:=aeE s d v;obtain⟨q1,g,u,w,y,z,A⟩:=aeE (s.setOb id none) d v;have j:mW (s.put d v) a=mW s a:=by simp only[mW,f]
  have hx:∀ x∈a.op.operands,∀ t,d=some t->x≠.tmp t:=λx hx t b e=>h t b (by subst e;exact zlb _ (zmd.2 ⟨.tmp t,by simpa using hx,rfl⟩))
  have k:qv E (s.put d v) a some=qv E s a some:=tU p1 c λx hm=>rR (hx x hm);have l:qv E ((s.put d v).setOb id none) a some=qv E (s.setOb id none) a some:=by rw[wj];exact tU q1 g λx hm=>rR (hx x hm)
  unfold tq
  simp_all
def zq{R:Type}{n id i:Nat}{s:St}{K:AV->Option R}{r:R}(h:tq E ops n id i s K=some r):∃ v,tq E ops n id i s some=some v/\K v=some r:=by
 unfold tq at h ⊢;split at h<;>first|(cases h;done)|skip
 split at h<;>first|(cases h;done)|skip
 rename_i a;rw[zga a];split at h
 ·rename_i hw;rw[zja hw];exact gR h
 ·rename_i hw;rw[zga hw];split at h<;>first|(cases h;done)|skip
  rename_i hk;rw[zja hk];exact gR h
theorem CG{R:Type}{n id:Nat}{K:St->Option R}{r:R}:∀ (c k:Nat) (s:St),k+c<=n->Nm E ops n id c k s K=some r->∃ s',mJ (mV E ops n id) ops c k s=some s'/\K s'=some r
 | 0,k,s,_,h=>⟨s,rfl,h⟩
 | c+1,k,s,hk,h=>by
  simp only[Nm] at h;obtain⟨v,h1,a⟩:=zq h;obtain⟨s',b,d⟩:=CG c (k+1) _ j1 a
  refine⟨s',?_,d⟩;simp only[mJ,mV,zga (show ¬ k=n by omega),h1,zba]
  exact b
mutual
theorem xY(ob ob':Nat->Option Ob):∀ (t:Ty) (a:AV),adR ob t a=adR ob' t a
 | t,.st ts l=>by simp only[adR,Dn ob ob' ts l]
 | t,.d _ _=>by simp_all [adR]
 | t,.own _ _ _=>by cases t<;>simp only[adR]
 | t,.nils=>by simp_all [adR]
 | t,.ptr _ _ _=>by cases t<;>simp only[adR]
 | t,.yld _=>by simp_all [adR]
 | t,.fptr _ _=>by cases t<;>simp only[adR]
 | t,.mem _ _=>by cases t<;>simp only[adR]
 | t,.clo _ _=>by cases t<;>simp only[adR]
 | t,.map _ _ _=>by cases t<;>simp only[adR]
 | t,.sub _ _ _ _ _ _=>by cases t<;>simp only[adR]
 | t,.gone=>by simp_all [adR]
 | t,.tpo _ _ _ _=>by cases t<;>simp only[adR]
 | t,.undef=>by simp_all [adR]
theorem Dn(ob ob':Nat->Option Ob):∀ (ts:List Ty) (l:List AV),AV.toDl ob ts l=AV.toDl ob' ts l
 | [],[]=>rfl
 | [],_::_=>rfl
 | _::_,[]=>rfl
 | t::ts,a::l=>by simp only[AV.toDl,xY ob ob' t a,Dn ob ob' ts l]
end
theorem wd{s s':St}(a:s'.tm=s.tm)(ty:Nat->Option Ty):∀ l:List (Nat×Operand),partsD s'.ob s' ty l=partsD s.ob s ty l
 | []=>rfl
 | (i,x)::l=>by
  have e:s'.opA x=s.opA x:=by cases x<;>simp only[St.opA,a]
  simp only[partsD,e,wd a ty l];cases ty i with
  | none=>rfl
  | some t=>simp only[zba,xY s'.ob s.ob t]
def u6{ob a:Nat->Option Ob}(h:∀ j o,ob j=some o->a j=some o){x:AV}(hp:fH (j7 ob x)=true):j7 a x=j7 ob x:=by
 unfold j7 at hp ⊢;split
 ·rename_i t id;simp only at hp;cases b:ob id with
  | none=>rw[b] at hp;cases hp
  | some o=>rw[h _ _ b]
 ·rfl
def AM{ob b:Nat->Option Ob}(h:∀ j o,ob j=some o->b j=some o){x:AV}(a:kI (mR ob x)=true):mR b x=mR ob x:=by
 cases x<;>simp only[mR] at a ⊢
 case ptr t id p=>
  refine u6 h ?_;unfold j7 at a ⊢;split at a<;>first|(cases a;done)|skip
  split at a<;>first|(cases a;done)|skip
 case clo f l=>
  split at a<;>first|(cases a;done)|skip
  rename_i hl;rw[zja hl];have e:l.map (j7 b)=l.map (j7 ob):=z5b λx hx=>u6 h (zya.1 hl _ (zwb hx));rw[e,zja hl]
 case map kt vt id=>
  cases ho:ob id with
  | none=>rw[ho] at a;cases a
  | some o=>rw[h _ _ ho]
def D0{s s':St}{id:Nat}(l:s'.tm=s.tm)(A:s'.fresh=s.fresh)(D:∀ j,j≠id->s'.ob j=s.ob j)(hid:s.ob id=none){o:Oper}(hk:to o=true){v:AV}(h:qv E s o some=some v):qv E s' o some=some v:=by
 have op:∀ x,s'.opA x=s.opA x:=λx=>by cases x<;>simp only[St.opA,l]
 have m:∀ {j:Nat} {ob:Ob},s.ob j=some ob->s'.ob j=some ob:=λ{j ob} F=>by all_goals grind
 obtain⟨dst,n,ty,pos,after,guard⟩:=o;cases n<;>simp only[to] at hk<;>first|(cases hk;done)|skip
 case build T ps=>
  simp only[qv] at h ⊢;obtain⟨t,d,g⟩:=ab h;rw[d,zba];have w:∀ q,ps.toList.all (fT s' q)=ps.toList.all (fT s q):=λq=>by congr 1;funext p;simp only[fT,op]
  have z:(ps.toList.map λp=>(p.1,s'.opA p.2))=ps.toList.map λp=>(p.1,s.opA p.2):=by simp only[op]
  cases t<;>simp only[wd l,w,z]<;>exact g
 case load T a=>
  simp only[qv] at h ⊢;cases hfn:E.fnT T with
  | true=>
   rw[hfn] at h;simp only[cond_true] at h ⊢;split at h<;>first|(cases h;done)|skip
   rename_i j e;split at h<;>first|(cases h;done)|skip
   rename_i y C;split at h<;>first|(cases h;done)|skip
   rename_i r;rw[op,e];simp only;rw[m C];simp only;rw[AM (λj o=>m) r,zja r];exact h
  | false=>
  rw[hfn] at h;simp only[cond_false] at h ⊢;obtain⟨t,d,g⟩:=ab h;rw[d,zba,op];all_goals grind
 case fieldAddr T x f=> simp_all [qv,op]
 case extract x i=> simp_all [qv,op]
 case move x=> simp_all [qv,op]
 case alloc T=> simp_all [qv,St.base]
 case binOp=> simp only[qv,op] at h ⊢;exact h
 case indexAddr T x i=>
  simp only[qv,op] at h ⊢;obtain⟨t,d,g⟩:=ab h;rw[d,zba];obtain⟨G,B,b⟩:=ab g;rw[B,zba];cases t<;>first|(simp only at b;cases b;done)|skip
  ·exact b
  ·cases hx:s.opA x<;>rw[hx] at b<;>simp only[AV.asList,xY s'.ob s.ob] at b ⊢<;>first|exact b|skip
   all_goals grind
 case call c=>
  obtain⟨callee,args,u⟩:=c;simp only at hk;split at hk<;>first|(cases hk;done)|skip
  ·simp only[qv,op] at h ⊢;obtain⟨T,hT,g⟩:=ab h;rw[hT,zba];obtain⟨t,d,b⟩:=ab g;rw[d,zba];obtain⟨x,hx,k⟩:=ab b;rw[hx,zba];have e:=op x;cases t<;>simp only[e] at k ⊢<;>first|(cases k;done)|exact k|skip
   cases hy:s.opA x<;>rw[hy] at k<;>simp only[AV.asList,xY s'.ob s.ob] at k ⊢<;>first|exact k|skip
   all_goals grind
  ·simp only[qv,op] at h ⊢;exact h
  ·simp only[qv,op] at h ⊢;exact h
end
section
variable{P:Program}{E:Env}{w0:Root}{ops:Array Oper}
def pB(n id:Nat)(b:Ob)(a:Array Bool)(s:St):St:=if a.getD n false then s.setOb id (some b) else s
theorem Sm.setOb(s:St)(id:Nat)(o:Option Ob):Sm s (s.setOb id o):=⟨rfl,rfl,rfl,rfl⟩
theorem kA(hE:EnvOk P E){n g id T p x:Nat}{u t t':Ty}{v0 v1:AV}{k:Oper}{L:Array Bool->St->Prop}{Q:Exit->Act->World->Prop}{s0:St}{S0:Nat->Nat->Prop}{γ0:Nat->Option Nat}{a0:Act}{w1:World}
  (hn:ops[n]?=some k) (V:k.op=.store T (.tmp p) (.tmp x)) (q:k.dst=none) (O:k.guard=none)
  (hp:∀ (j:Nat) (l:Oper),ops[j]?=some l->l.dst=some p->Region.waitsFor .any ops n j=true) (hx:∀ (j:Nat) (l:Oper),ops[j]?=some l->l.dst=some x->Region.waitsFor .any ops n j=true)
  (m:∀ (j:Nat) (l:Oper),j<n->ops[j]?=some l->l.guard=none)
  (hT:E.L T=some t) (N:E.fnT T=false) (W:t.beq t'=true) (M:AV.fits t v1=true) (U:s0.lkO.contains id=false) (y:s0.ob id=some (.one u v0))
  (hd:∀ (i j:Nat) (oi l:Oper),i≠j->ops[i]?=some oi->ops[j]?=some l->∀ d,l.dst=some d->oi.dst≠some d)
  (A:∀ b s,L b s->s.tm p=.ptr t' id []/\s.tm x=v1/\b.getD n false=true)
  (hL:∀ b s S γ β a w,Rp w0 S γ β (s.setOb id (some (.one u v1))) a w->Fm s0 S0 γ0 a0 w1 S γ a w->Sm s0 s->(∀ j l,ops[j]?=some l->b.getD j true=false->Fr E (s.setOb id (some (.one u v1))) γ β l)->L b s->wpAnyIn (FW ro) nn P .any ops Q g b a w) :
  ∀ (f:Nat) (b:Array Bool) (s:St) (S:Nat->Nat->Prop) (γ:Nat->Option Nat) (β:Nat->Option (Nat×Nat)) (a:Act) (w:World),Rp w0 S γ β (pB n id (.one u v1) b s) a w->Fm s0 S0 γ0 a0 w1 S γ a w->Sm s0 s->s.ob=s0.ob ->
   (b.getD n false=true->∀ j,Region.waitsFor .any ops n j=true->b.getD j false=true) ->
   (∀ j l,ops[j]?=some l->b.getD j true=false->Fr E (pB n id (.one u v1) b s) γ β l)->ti (mV E ops n id) .any ops (n+1) L f b s->wpAnyIn (FW ro) nn P .any ops Q (f+g) b a w
 | 0,b,s,S,γ,β,a,w,h,hF,J,F,Z,C,hh=>by
  rw[z8a];have a9:L b s:=hh;have e:pB n id (.one u v1) b s=s.setOb id (some (.one u v1)):=by unfold pB;rw[zja (A _ _ a9).2.2]
  grind
 | f+1,b,s,S,γ,β,a,w,h,hF,J,F,Z,C,hh=>by
  rw[show f+1+g=(f+g)+1 by omega]
  refine⟨λh0=>z3a h0 hh.1,λi hi=>?_⟩;obtain⟨bp,c⟩:=hh.2 i hi;have I:=(mem_ready.1 hi).1;have ax:∀ j,(b.setIfInBounds i true).getD j true=false->i≠j/\b.getD j true=false:=λj hu=>by
   by_cases D:i=j
   ·subst D;exfalso;rcases zta i b.size with al|ad
    ·simp[Array.getD,al] at hu
    ·simp[Array.getD,zIc.2 ad] at hu
   ·rw[getD_set_ne true D] at hu;exact⟨D,hu⟩
  by_cases hni:i=n
  ·
   subst hni;have bj:=getD_both I;have bm:i<b.size:=by
    rcases zta i b.size with al|ad
    ·exact al
    ·simp[Array.getD,zIc.2 ad] at I
   have e0:pB i id (.one u v1) b s=s:=by unfold pB;rw[bj];rfl
   rw[e0] at h;unfold ue at c;rw[hn] at c;simp only at c;obtain⟨v,z,c⟩:=c;rw[q] at c;have c:ti (mV E ops i id) .any ops (i+1) L f (b.setIfInBounds i true) s:=c;obtain⟨_,o',a5,B⟩:=mem_ready.1 hi;rw[hn] at a5;cases a5;obtain⟨l',s',m1,m2,m3,m4⟩:=vB (T:=[p,x]) f _ _ c (λt ht j l R hu=>by
    simp only[zGa,zTb,or_false] at ht;intro K;have hw:Region.waitsFor .any ops i j=true:=by
     rcases ht with rfl|rfl
     ·exact hp j l R K
     ·exact hx j l R K
    obtain⟨ow,G,e,he,hb,an⟩:=Region.waitsFor_spec hw;rw[hn] at G;cases G;have h1:=B e he hb;rw[an] at h1;obtain⟨_,H⟩:=ax j hu;rw[getD_both H] at h1;cases h1)
   obtain⟨z1,z2,z3⟩:=A _ _ m1;rw[m2 p s6] at z1
   rw[m2 x s6] at z2
   have a6:s.ob id=some (.one u v0):=by rw[F];exact y
   have a4:s.lkO.contains id=false:=by rw[J.lkO];exact U
   have a8:rL E s k some=some (s.setOb id (some (.one u v1))):=by unfold rL;rw[V];simp only[hT,N,cond_false,zba,St.opA,z1,z2,W,M,a4,a6,zqc,zzd,if_true,BF]
   obtain⟨s1,k1,k2⟩:=A3 hE h (e0 ▸ C i k hn I) (λT t _ ht=>hE.flat T t ht) (λt _=>by rw[q];simp) (λ_ _ _ _=>q) a8
   cases k1;obtain⟨r1,r2,r3,r4,r5,r6⟩:=k2;unfold wpOpIn;rw[hn];simp only;rw[zja (by simp[Region.wanted,O])]
   refine(bq r6 λval w' ⟨S',γ',β',m1,m2,m3⟩=>?_);have el:pB i id (.one u v1) (b.setIfInBounds i true) s=s.setOb id (some (.one u v1)):=by unfold pB;rw[zja (by simp[bm])]
   refine kA hE hn V q O hp hx m hT N W M U y hd A hL f _ s S' γ' β' _ _ (by rw[el];exact m1) (hF.trans m2 J.lkS J.lkO) J F (λ_ j hw=>?_) (λj l R hu=>?_) c
   ·obtain⟨ow,G,e,he,hb,an⟩:=Region.waitsFor_spec hw;rw[hn] at G;cases G;have h1:=B e he hb;rw[an] at h1;exact getD_set_true h1
   ·rw[el];obtain⟨_,H⟩:=ax j hu;exact(e0 ▸ C j l R H:Fr E s γ β l).keep (λd _=>by rw[q];simp) rfl (λr h1 h2=>r5 r h1 h2) m3
  ·
   have a1:i<n:=j1
   obtain⟨_,o,ho,B⟩:=mem_ready.1 hi;unfold ue at c;rw[ho] at c;simp only at c;obtain⟨v,z,c⟩:=c;unfold mV at z;rw[zga hni] at z;unfold tq at z;rw[ho] at z;simp only at z;split at z<;>first|(cases z;done)|skip
   rename_i a3;have bl:=m i o a1 ho;have a2:mW (pB n id (.one u v1) b s) o=mW s o:=by unfold pB;split<;>rfl
   have a7:val E ops (pB n id (.one u v1) b s) o=some v:=by
    unfold val;rw[a2,zga a3,bl];simp only;split at z
    ·rename_i hw;have:b.getD n false=false:=by
      cases hln:b.getD n false with
      | false=>rfl
      | true=> have:=Z hln i hw;rw[getD_both I] at this;cases this
     have e:pB n id (.one u v1) b s=s:=by unfold pB;rw[this];rfl
     rw[e];exact z
    ·split at z<;>first|(cases z;done)|skip
     rename_i hk;refine D0 (s:=s.setOb id none) (id:=id) ?_ ?_ (λj R=>?_) ?_ hk z
     ·unfold pB;split<;>rfl
     ·unfold pB;split<;>rfl
     ·unfold pB;split<;>simp[St.setOb,R]
     ·simp[St.setOb]
   have el:(pB n id (.one u v1) b s).put o.dst v=pB n id (.one u v1) (b.setIfInBounds i true) (s.put o.dst v):=by
    unfold pB;rw[getD_set_ne false hni];split
    ·rw[wj]
    ·rfl
   obtain⟨k1,k2⟩:=BW hE h (C i o ho I) a7;have pf:=aeE s o.dst v;have X:Sm s0 (pB n id (.one u v1) b s):=by
    unfold pB;split
    ·exact J.trans (Sm.setOb s id _)
    ·exact J
   have pl:=aeE (pB n id (.one u v1) b s) o.dst v;have aI:∀ {γ':Nat->Option Nat} {β':Nat->Option (Nat×Nat)},(∀ r:Nat,o.dst≠some (r-(pB n id (.one u v1) b s).base)\/r<(pB n id (.one u v1) b s).base->γ' r=γ r/\β' r=β r)->∀ j l,ops[j]?=some l->(b.setIfInBounds i true).getD j true=false->Fr E (pB n id (.one u v1) (b.setIfInBounds i true) (s.put o.dst v)) γ' β' l:=λhk j l R hu=>by obtain⟨D,H⟩:=ax j hu;rw[<-el];exact(C j l R H).keep (λd K=>hd i j o l D ho R d K) pl.2.1 (λr _ _=>by rw[pl.1]) hk
   have Y:(b.setIfInBounds i true).getD n false=true->∀ j,Region.waitsFor .any ops n j=true->(b.setIfInBounds i true).getD j false=true:=λh1 j hw=>by rw[getD_set_ne false hni] at h1;exact getD_set_true (Z h1 j hw)
   unfold wpOpIn;rw[ho];simp only;split
   ·rename_i hw;refine(bq (k1 hw) λu' w' ⟨S',γ',β',m1,m2,m3⟩=>?_);exact kA hE hn V q O hp hx m hT N W M U y hd A hL f _ _ S' γ' β' _ _ (el ▸ m1) (hF.trans m2 X.lkS X.lkO) (J.trans (Sm.put s o.dst v)) (pf.1.trans F) Y (aI m3) c
   ·rename_i hw;obtain⟨m1,m2⟩:=k2 (by simpa using hw)
    refine⟨λ_ _=>trivial,?_⟩;exact kA hE hn V q O hp hx m hT N W M U y hd A hL f _ _ S γ β _ _ (el ▸ m1) (hF.trans m2 X.lkS X.lkO) (J.trans (Sm.put s o.dst v)) (pf.1.trans F) Y (aI λid _=>⟨rfl,rfl⟩) c
def tV(hE:EnvOk P E){id:Nat}{n:Nat}{Q:Exit->Act->World->Prop}{S:Nat->Nat->Prop}{γ:Nat->Option Nat}{β:Nat->Option (Nat×Nat)}{s:St}{a:Act}{w:World}{R:Type}{k:St->Option R}{r:R}{N:Nat}
  (h:Rp w0 S γ β s a w) (hf:EV E s γ β ops.toList) (hm:cH ops.toList=true) (I:tp ops n=true) {an:Ann}
  (a4:Nm E ops n (kj ops n s) n 0 s (λs2=>if tn ops n s2=some (kj ops n s) then eZ E N R ops an ((aW 0 ops.toList).drop n) s2 k else none)=some r)
  (hQ:∀ s' S' γ' β' a' w',Rp w0 S' γ' β' s' a' w'->Fm s S γ a w S' γ' a' w'->Sk s s'->k s'=some r->Q .normal a' w'):(Code.region id ops true).wpIn (FW ro) nn P Q a w:=by
 simp only[cH,zaa] at hm;obtain⟨⟨bj,cv⟩,b6⟩:=hm;have W:(ops.toList.all λo=>match o.op with|.store ..=>o.dst.isNone|_=>true)=true:=b6
 unfold tp at I;split at I<;>first|(cases I;done)|skip
 rename_i f hn;split at I<;>first|(cases I;done)|skip
 rename_i T p x Y;obtain⟨z,hid⟩:∃ z,kj ops n s=z:=⟨_,rfl⟩;rw[hid] at a4;simp only[zaa] at I;obtain⟨⟨⟨⟨⟨l2,l3⟩,l4⟩,l5⟩,l6⟩,l7⟩:=I;have bm:n<ops.size:=(zpa.1 hn).1;have cx:f∈ops.toList:=ztc.2 (zpc hn);have O:f.dst=none:=by grind
 have bs:∀ (j:Nat) (q:Oper),ops[j]?=some q->(q.dst=some p\/q.dst=some x)->Region.waitsFor .any ops n j=true:=λj q C e=>by grind
 have hp:∀ (j:Nat) (q:Oper),ops[j]?=some q->q.dst=some p->Region.waitsFor .any ops n j=true:=λj q C e=>bs j q C (.inl e);have hx:∀ (j:Nat) (q:Oper),ops[j]?=some q->q.dst=some x->Region.waitsFor .any ops n j=true:=λj q C e=>bs j q C (.inr e);have X:∀ (j:Nat) (q:Oper),j<n->ops[j]?=some q->q.guard=none:=λj q b4 C=>by
  have b5:q∈ops.toList.take n:=by refine zbb (i:=j) ?_;rw[zsb b4,zJa];exact C
  have:=zya.1 l3 q b5;simp only[zaa] at this;simpa using this.2
 have J:∀ o∈ops.toList.drop n,o.guard=none:=λo ho=>by have:=zya.1 l4 o ho;simp only[zaa] at this;simpa using this.1
 have ax:ops.toList.drop n=f::ops.toList.drop (n+1):=by
  have h1:n<ops.toList.length:=by simpa using bm
  rw[zpb h1];have:ops.toList[n]=f:=by have:=(zpa.1 hn).2;simpa using this
  rw[this]
 have a6:f.guard=none:=J f (by rw[ax];simp)
 obtain⟨s',q1,D⟩:=CG n 0 s j1 a4
 split at D<;>first|(cases D;done)|skip
 rename_i G;obtain⟨t0,U,ch⟩:∃ t0,s'.tm p=.ptr t0 z []/\¬ t0.beq .fn=true:=by
  unfold tn at G;simp only[hn,Y] at G;split at G<;>first|(cases G;done)|skip
  rename_i t0 cy b9;split at G<;>first|(cases G;done)|skip
  rename_i L;cases G;exact⟨t0,b9,L⟩
 have al:(aW 0 ops.toList).drop n=(n,f)::(aW 0 ops.toList).drop (n+1):=by
  have h1:n<(aW 0 ops.toList).length:=by rw[gE];simpa using bm
  rw[zpb h1];have key:∀ (l:List Oper) (i j:Nat) (o:Oper),l[j]?=some o->(aW i l)[j]?=some (i+j,o):=by
   intro l
   induction l with
   | nil=>intro i j o C;simp at C
   | cons y l ih=>
    intro i j o C;cases j with
    | zero=>simp at C;subst C;simp[aW]
    | succ j=>simp only[zhb] at C;simp only[aW,zhb];rw[ih (i+1) j o C];congr 2;omega
  have:=key ops.toList 0 n f (by rw[zJa];exact hn)
  rw[zea h1,z8a] at this;rw[Option.some.inj this]
 rw[al] at D;obtain⟨N',hN⟩:∃ N',N=N'+1:=by
  cases N with
  | zero=>simp[eZ] at D
  | succ N'=>exact⟨N',rfl⟩
 subst hN;have bt:qi n ((aW 0 ops.toList).drop (n+1))=false:=by
  unfold qi;split
  ·rename_i p' l' hl;have bl:p'.2∈ops.toList.drop n:=by
    have h1:p'∈(aW 0 ops.toList).drop n:=by rw[al,hl];simp
    have:p'.2∈((aW 0 ops.toList).drop n).map Prod.snd:=zwb h1
    rwa [zLc,bi] at this
   unfold vE;rw[J _ bl]
  ·rfl
 have ad:kG E f=false:=by unfold kG;rw[Y]
 have b8:rQ E f an=an:=by simp[rQ,ad]
 have a5:∀ (l:List (Nat×Oper)) (s:St) (K:St->Option R),A4 E an l s f K=rL E s f K:=λl s K=>by simp[A4,ad]
 have cf:∀ s,lJ E s n f ((aW 0 ops.toList).drop (n+1))=false:=λs=>by simp[lJ,bt]
 simp only[eZ,a6,cf,b8,a5,zLa,if_false] at D;have a9:mW s' f=false:=by unfold mW;rw[O]
 rw[zga (by rw[a9];simp)] at D
 unfold rL at D;rw[Y] at D;simp only at D;have keep:∀ (c kk:Nat) (s s':St),mJ (mV E ops n z) ops c kk s=some s'->s'.ob=s.ob/\Sm s s':=by
  intro c
  induction c with
  | zero=>intro kk s s' hs;simp only[mJ,zda] at hs;subst hs;exact⟨rfl,Sm.refl s⟩
  | succ c ih=> intro kk s s' hs;simp only[mJ] at hs;obtain⟨v,h1,h2⟩:=ab hs;obtain⟨m2,m3⟩:=ih _ _ _ h2;have pf:=aeE s ((ops[kk]?).bind (·.dst)) v;exact⟨m2.trans pf.1,(Sm.put s _ v).trans m3⟩
 obtain⟨c2,c3⟩:=keep n 0 s s' q1;cases hfn:E.fnT T with
 | true=>
  rw[hfn,show s'.opA (.tmp p)=.ptr t0 z [] from U] at D;simp only[cond_true] at D;split at D<;>first|(cases D;done)|skip
  rename_i e;cases e;exact z3a rfl ch
 | false=>
 rw[hfn] at D;simp only[cond_false] at D;obtain⟨t,hT,Z⟩:=ab D;rw[show s'.opA (.tmp p)=.ptr t0 z [] from U] at Z;simp only at Z;split at Z<;>first|(cases Z;done)|skip
 rename_i M;simp only[zaa,zCa] at M;obtain⟨⟨d1,d2⟩,d3⟩:=M;split at Z<;>first|(cases Z;done)|skip
 ·rename_i u v0 bp;obtain⟨v1,bz⟩:∃ v1,s'.opA (.tmp x)=v1:=⟨_,rfl⟩;rw[bz] at Z d2;have q4:eZ E N' R ops an ((aW 0 ops.toList).drop (n+1)) (s'.setOb z (some (.one u v1))) k=some r:=by
   cases v0<;>simpa only[BF] using Z
  clear Z D;have hW:mQ .any ops (n+1):=by
   intro m i inv b3 cm t ht hr;simp only[zKb,zia,zaa] at l7;rcases l7 with l7|⟨⟨l7,l8⟩,l9⟩
   ·obtain⟨_,o,ho,_⟩:=mem_ready.1 hr;have:=(zpa.1 ho).1;omega
   ·exact tail_waits l8 l9 l7 inv _ i rfl b3 cm t ht hr
  refine wpIn_region_any hE.mixed ?_;have hg:∃ os d,w.drawn<=d/\({ w with drawn:=w.drawn+1 }:World)=grown w os d:=⟨[],w.drawn+1,zCc _,by simp[grown]⟩
  obtain⟨os,d,b1,hg⟩:=hg;obtain⟨g1,g2⟩:=h.grow (os:=os) (d:=d) b1 (S':=S) (λ_ _ L=>L) (λ_ _ L=>.inl L);rw[hg];have b0:HeadInv .any ops (n+1) (Array.replicate ops.size false):=
   ⟨s6,λj q _ hl=>(by rw[getD_replicate_false] at hl;cases hl),λt _ ht=>getD_in (by simpa using ht) (getD_replicate_false _ _)⟩
  have V:mJ (mV E ops n z) ops (n+1) 0 s=some s':=by rw[Ae n 1 0,q1,zba];simp only[mJ,mV,z8a,if_true,zba,hn,O];rfl
  have H:=vC (sF:=s') (GA (E:=E) (ops:=ops) n z) j1 hW (n+1) 0 (Array.replicate ops.size false) s j1 b0 (λi hi=>j1) l6 V
  have e0:pB n z (.one u v1) (Array.replicate ops.size false) s=s:=by unfold pB;rw[getD_replicate_false];rfl
  have a1:(ops.toList.drop (n+1)).length=ops.size-(n+1):=s6
  have aI:∀ j q,ops[j]?=some q->(Array.replicate ops.size false).getD j true=false->Fr E (pB n z (.one u v1) (Array.replicate ops.size false) s) γ β q:=λj q C _=>by rw[e0];exact hf q (ztc.2 (zpc C))
  have:=kA (ro:=ro) (nn:=nn) (w0:=w0) (Q:=Q) (g:=ops.size-(n+1)) (s0:=s) (S0:=S) (γ0:=γ) (a0:=a) (w1:=grown w os d) hE hn Y O a6 hp hx X hT hfn d1 d2 (by rw[<-c3.lkO];exact d3) (by rw[<-c2];exact bp) (λi j oi q b2 hi C d hd=>ji bj b2 (by rw[zJa];exact hi) (by rw[zJa];exact C) d hd)
   (λm s2 hL=>by obtain⟨_,hl,rfl⟩:=hL;exact⟨U,bz,hl n j1⟩)
   (λm s2 S2 γ2 β2 a2 w2 m1 m2 m3 m4 m5=>by
    obtain⟨m5,m6,m7⟩:=m5;subst m7;have V:=jb (F:=FW ro) (n:=nn) (P:=P) (md:=.any) (ops:=ops) (Q':=Q) (ops.toList.drop (n+1)) (n+1) m a2 w2 (λj=>by rw[zBb,zJa]) (by rw[a1];exact m5) ?_
    ·rwa [a1] at V
    have bv:∀ j q,ops[j]?=some q->n+1<=j->m.getD j true=false:=by
     intro j q C b7;have key:∀ (g k:Nat) (m:Array Bool),Region.seqB .any ops g k m=true->∀ j,k<=j->j<k+g->m.getD j true=false:=by
      intro g
      induction g with
      | zero=>intro k m _ j h1 h2;omega
      | succ g ih=>
       intro k m hB j h1 h2;simp only[Region.seqB,zaa,zia] at hB;by_cases a8:j=k
       ·subst a8;have:j∈Region.ready .any ops m:=by rw[hB.1];simp
        exact(mem_ready.1 this).1
       ·have:=ih (k+1) _ hB.2 j j1 j1
        rwa [getD_set_ne true (Ne.symm a8)] at this
     have cs:=(zpa.1 C).1;exact key _ _ _ m5 j b7 j1
    have fin:=xe (ro:=ro) (nn:=nn) (ops:=ops) hE (Q:=Q) W N' R ((aW 0 ops.toList).drop (n+1)) k r an m1 (by
      rw[zLc,bi];intro o ho;obtain⟨i,hi,he⟩:=z2a ho;have a7:ops[n+1+i]?=some o:=by
       have:(ops.toList.drop (n+1))[i]?=some o:=by rw[zea hi,he]
       rwa [zBb,zJa] at this
      exact m4 (n+1+i) o a7 (bv _ _ a7 j1))
     (by rw[zLc,bi];intro A B o o' e ho d hd;exact fr bj (ops.toList.take (n+1)++A) B o o' (by rw[zXa,<-e,zua]) ho d hd)
     (λp hp=>kn (z2b hp)) q4 (λs3 S3 γ3 β3 a3 w3 n1 n2 n3 n4=>by
      refine hQ s3 S3 γ3 β3 a3 w3 n1 ?_ (Sk.trans (m3.trans (Sm.setOb _ z (some (.one u v1)))).sk n3) n4;have f0:Fm s S γ a w S γ a (grown w os d):=⟨λ_ _ L=>L,g2.cell,λ_ _=>rfl,λid hid b L=>⟨L,.inl (c9 (h.γn id b L).2)⟩,s6,λ_ _ L=>L,j6.same rfl da.grown⟩
      exact(f0.trans m2 rfl rfl).trans n2 (show _=_ from m3.lkS) (show _=_ from m3.lkO))
    rwa [zLc,bi] at fin)
   (n+1) (Array.replicate ops.size false) s S γ β a (grown w os d) (by rw[e0];exact g1) (Fm.refl _ _ _ _ _) (Sm.refl s) rfl (λhl=>by rw[getD_replicate_false] at hl;cases hl) aI H
  rw[show n+1+(ops.size-(n+1))=ops.size by omega] at this
  exact this
end
end Sy
end
noncomputable section
namespace Sy
open Go
variable{ro:Option Nat}{nn:Nat}
section
variable{ops:Array Oper}
theorem mE:∀ n,(uz ops n).length=n
 | 0=>rfl
 | n+1=>by simp[uz,mE n]
def qm(ops:Array Oper)(t:Nat):Nat:=match ops[t]? with
 | some o=>o.after.toList.foldl (λm e=>if Region.binds .any e&&decide (e.on<t) then(m ||| 2^e.on) ||| (uz ops t).getD e.on 0 else m) 0
 | none=>0
theorem mD{t:Nat}:∀ {n:Nat},t<n->(uz ops n).getD t 0=qm ops t
 | 0,h=>j1
 | n+1,h=>by
  show(uz ops n++[qm ops n]).getD t 0=_;by_cases e:t=n
  ·subst e;rw[zsa,zOb (by rw[mE];exact zka _),mE,z6c]
   rfl
  ·rw[zsa,zeb (by rw[mE];omega),<-zsa]
   exact mD j1
theorem vu{t i:Nat}{l:List Nat}:∀ (es:List Edge) (m:Nat),Nat.testBit (es.foldl (λm e=>if Region.binds .any e&&decide (e.on<t) then(m ||| 2^e.on) ||| l.getD e.on 0 else m) m) i=true ->
  Nat.testBit m i=true\/∃ e∈es,Region.binds .any e=true/\e.on<t/\(e.on=i\/Nat.testBit (l.getD e.on 0) i=true)
 | [],m,h=>.inl h
 | e::es,m,h=>by
  simp only[zhd] at h;rcases vu es _ h with k|⟨a,h1,b⟩
  ·grind
  ·grind
def kz{a:Array Bool}(d:∀ j c,ops[j]?=some c->a.getD j false=true->∀ e∈c.after,Region.binds .any e=true->a.getD e.on false=true) :
  ∀ (t:Nat) (o:Oper),ops[t]?=some o->(∀ e∈o.after,Region.binds .any e=true->a.getD e.on false=true)->∀ i,Nat.testBit (qm ops t) i=true->a.getD i false=true:=by
 intro t
 induction t using Nat.strongRecOn with
 | _ t ih=>
  intro o f m i b;unfold qm at b;rw[f] at b;simp only at b;rcases vu _ _ b with k|⟨e,h1,g,h,l⟩
  ·simp at k
  ·grind [mD]
end
section
variable{E:Env}{ops:Array Oper}
theorem mY{i:Nat}{o:Oper}:∀ (f a:Nat),lH E ops i o f a=true->∀ j b,a<=j->j<a+f->(∀ q c,a<=q->q<=j->ops[q]?=some c->jB E c=true)->ops[j]?=some b->(∀ e∈b.after,Region.binds .any e=true->e.on≠i)->o.apart ops b=true
 | 0,a,_,j,b,h1,k,_,_,_=>j1
 | f+1,a,h,j,b,h1,k,g,l,m=>by
  have d:a<ops.size:=k7
  have h0:=zIb d;simp only[lH,h0] at h;rw[zja (g a _ (zka _) h1 h0)] at h;simp only[zaa,zKb] at h;by_cases e:j=a
  ·grind
  ·exact mY f (a+1) h.2 j b j1 j1 (λq c q1 n=>g q c j1 n) l m
def jT(h:g8 E ops=true){i:Nat}{o:Oper}(f:ops[i]?=some o) :
  (∀ e∈o.after,Region.binds .any e=true->e.on<i)/\(jB E o=true->lH E ops i o ops.size (i+1)=true) ∧
  (jB E o=false->(∀ j,j<i->Nat.testBit (qm ops i) j=true)/\∀ j,i<j->j<ops.size->Nat.testBit (qm ops j) i=true):=by
 have c:=(zpa.1 f).1;simp only[g8,zya,zHa] at h;have h1:=h i c;rw[f] at h1;simp only[zaa,zya,zKb,zCa,zia] at h1;refine⟨λe he g=>?_,λhc=>?_,λhc=>⟨λj d=>?_,λj d b=>?_⟩⟩
 ·rcases h1.1 e (by simpa using he) with k|k
  ·rw[g] at k;cases k
  ·exact k
 ·have:=h1.2;rw[zja hc] at this;exact this
 ·have:=h1.2;rw[zga (by simp[hc])] at this
  simp only[zya,zHa] at this;have a:=this j j1
  rw[zja d,mD c] at a;exact a
 ·have:=h1.2;rw[zga (by simp[hc])] at this
  simp only[zya,zHa] at this;have a:=this j b;rw[zga j1,mD b] at a
  simp only[zKb,zia] at a;rcases a with a|a
  ·omega
  ·exact a
structure Full(ops:Array Oper)(k:Nat)(listed:Array Bool):Prop where
 size:listed.size=ops.size
 done:∀ j,j<k->j<ops.size->listed.getD j false=true
 rest:∀ j,k<=j->j<ops.size->listed.getD j true=false
def Full.set{k:Nat}{a:Array Bool}(h:Full ops k a)(hk:k<ops.size):Full ops (k+1) (a.setIfInBounds k true):=by
 refine⟨by simp[h.size],λj c b=>?_,λj c b=>?_⟩
 ·by_cases e:j=k
  ·simp_all [h.size]
  ·exact getD_set_true (h.done j j1 b)
 ·rw[getD_set_ne true j1];exact h.rest j j1 b
def Full.inv{k n:Nat}{a:Array Bool}(g:g8 E ops=true)(h:Full ops k a)(f:k<=n):HeadInv .any ops n a:=by
 refine⟨h.size,λj l c hl e he d=>?_,λt i b=>h.rest t j1 b⟩
 have b:=(zpa.1 c).1;have h1:=(jT g c).1 e he d;rcases zta j k with hk|hk
 ·exact h.done e.on j1 j1
 ·have:=getD_both (h.rest j hk b)
  simp_all
theorem Full.ready{k:Nat}{a:Array Bool}(c:g8 E ops=true)(h:Full ops k a)(hk:k<ops.size):k∈Region.ready .any ops a:=
 mem_ready.2 ⟨h.rest k (zka _) hk,_,zIb hk,λe he b=>by have:=(jT c (zIb hk)).1 e he b;exact h.done e.on this j1⟩
def Full.later{k:Nat}{a:Array Bool}(h:Full ops k a):∀ j∈Region.ready .any ops a,k<=j:=by
 intro j c;obtain⟨e,o,d,_⟩:=mem_ready.1 c;have b:=(zpa.1 d).1;rcases zta j k with hk|hk
 ·have:=h.done j hk b;grind
 ·exact hk
def ER(m:g8 E ops=true){n:Nat}{o:Oper}(k:ops[n]?=some o)(hc:jB E o=false):mQ .any ops n:=by
 intro d i inv f p t r g;have hn:=(zpa.1 k).1;obtain⟨_,l,b,a⟩:=mem_ready.1 g;have c:=(zpa.1 b).1;have j:=(jT m k).2.2 hc;rcases zta n t with h|h
 ·have h1:=kz inv.closed t l b a n (j.2 t h c);have q:=inv.tail n (zka _) hn;grind
 ·have e:t=n:=j1
  subst e;have h1:=kz inv.closed t l b a i (j.1 i f);grind
def ES:mQ .any ops ops.size:=λa i _ _ _ t d b=>by
 obtain⟨_,e,c,_⟩:=mem_ready.1 b
 simp_all
def GX(g:g8 E ops=true){k:Nat}{o:Oper}{a:Array Bool}(h:Full ops k a)(i:ops[k]?=some o)(hc:jB E o=false):∀ j∈Region.ready .any ops a,j=k:=by
 intro j f;have h1:=h.later j f;obtain⟨_,l,c,b⟩:=mem_ready.1 f;have d:=(zpa.1 c).1;rcases zta k j with e|e
 ·exfalso;have m:=kz (h.inv g (zka _)).closed j l c b k (((jT g i).2.2 hc).2 j e d);have n:=h.rest k (zka _) j1
  grind
 ·omega
def iQ(E:Env)(ops:Array Oper):Nat->Nat->Nat
 | 0,k=>k
 | f+1,k=>match ops[k]? with
  | some o=>if jB E o then iQ E ops f (k+1) else k
  | none=>k
theorem q8:∀ (f k:Nat),k+f=ops.size->k<=iQ E ops f k/\iQ E ops f k<=ops.size/\(∀ j a,k<=j->j<iQ E ops f k->ops[j]?=some a->jB E a=true)/\(iQ E ops f k=ops.size\/∃ o,ops[iQ E ops f k]?=some o/\jB E o=false)
 | 0,k,h=>⟨zka _,by simp only[iQ];omega,λj a h1 b=>by simp only[iQ] at b;omega,.inl (by simpa [iQ] using h)⟩
 | f+1,k,h=>by
  have hk:k<ops.size:=j1
  have h0:=zIb hk;simp only[iQ,h0];split
  ·rename_i hc;obtain⟨q1,c,d,e⟩:=q8 f (k+1) j1
   all_goals grind
  ·grind
theorem zh(p:g8 E ops=true){n:Nat}{L:Array Bool->St->Prop}(w:mQ .any ops n)(c:∀ a s,L a s->∀ j∈Region.ready .any ops a,n<=j)(hn:n<=ops.size) :
  ∀ (l:List Oper) (k:Nat) (a:Array Bool) (s s':St),(∀ j,j<l.length->l[j]?=ops[k+j]?)->k+l.length=n->Full ops k a->(∀ j g,k<=j->j<n->ops[j]?=some g->jB E g=true) ->
  seqV E ops l s=some s'->(∀ b,Full ops n b->L b s')->DW E .any ops n L l.length a s
 | [],k,a,s,s',_,hk,f,_,h,hL=>by
  have:k=n:=by simpa using hk
  subst this;simp only[seqV,zda] at h;subst h;exact hL a f
 | o::l,k,a,s,s',hl,hk,f,d,h,hL=>by
  have h0:ops[k]?=some o:=by simpa using(hl 0 s6).symm
  have e:k<n:=k7
  have m:k<ops.size:=j1
  simp only[seqV] at h;obtain⟨v,h1,x⟩:=ab h;refine tj h0 w e c l.length a s (f.inv p (zmc e)) (λj g y r A B t=>?_) (f.ready p m) h1
   (zh p w c hn l (k+1) _ _ s' (λj r=>by have:=hl (j+1) (by simp;omega);simpa [zEb,zxc 1 j] using this) (by simp only[zOa] at hk;omega) (f.set m) (λj g h1=>d j g j1) x hL)
  have i:=(zpa.1 r).1;have z:k<j:=by
   rcases zta j k with u|u
   ·have:=f.done j u i;grind
   ·omega
  exact mY ops.size (k+1) ((jT p h0).2.1 (d k o (zka _) e h0)) j g j1 j1 (λq C q1 D=>d q C j1 j1) r t
end
section
variable{P:Program}{E:Env}{w0:Root}{ops:Array Oper}
def Gf(H:EnvOk P E){N:Nat}{R:Type}{i:Nat}{o:Oper}{l:List (Nat×Oper)}{S:Nat->Nat->Prop}{γ:Nat->Option Nat}{β:Nat->Option (Nat×Nat)}{s:St}{a:Act}{w:World}{k:St->Option R}{r:R}{an:Ann}
  (h:Rp w0 S γ β s a w) (O:∀ T x y,o.op=.store T x y->o.dst=none) (V:Fr E s γ β o) (C:EV E s γ β (l.map Prod.snd)) (U:∀ o'∈l.map Prod.snd,∀ d,o'.dst=some d->o.dst≠some d) (M:o.guard=none->lJ E s i o l=false)
  (b:eZ E (N+1) R ops an ((i,o)::l) s k=some r) {next:Act->World->Prop} {Q:Exit->Act->World->Prop}
  (hk:∀ u I s' S' γ' β' w',eZ E N R ops I l s' k=some r->Rp w0 S' γ' β' s' (a.put o.dst u) w'->Fm s S γ a w S' γ' (a.put o.dst u) w'->Sk s s'->EV E s' γ' β' (l.map Prod.snd)->next (a.put o.dst u) w') :
  if Region.wanted o (yielded ops a.tmps) then o.wpIn (FW ro) nn P a w next Q else(∀ f,o.about P w a.eval=some f->(FW ro).fn f)/\next (a.put o.dst undef) w:=by
 have run:¬ mW s o=true->A4 E an l s o (λs'=>eZ E N R ops (rQ E o an) l s' k)=some r->o.wpIn (FW ro) nn P a w next Q:=by
  intro q he;have m:∀ t∈s.lkS,o.dst≠some t:=λt D e=>q (by simp[mW,e];exact D)
  unfold A4 at he;split at he
  ·split at he;rename_i J;refine xd (K:=λs1=>eZ E N R ops (rQ E o an) l s1 k) H h m he λu s' S' γ' β' w' m0 m1 m2 m3=>?_;exact hk u _ s' S' γ' β' w' m0 m1 m2 m3 λo' n=>by
    obtain⟨p,hp,rfl⟩:=zDb.1 n;have:=zya.1 J p hp;exact B5 (by simpa using this)
   split at he<;>first|(cases he;done)|skip
   rename_i L;refine xd (K:=λs1=>eZ E N R ops (rQ E o an) l (gf E (l.map Prod.snd) (uI s1)) k) H h m he λu s' S' γ' β' w' m0 m1 m2 m3=>?_;obtain⟨q1,X,Y⟩:=Cm (E:=E) m1 L C;exact hk u _ _ S' γ' β' w' m0 q1 m2 (m3.trans X) Y
  obtain⟨s',h1,z⟩:=A3 H h V (λT t _ D=>H.flat T t D) m O he;obtain⟨f1,f2,f3,f4,f5,f6⟩:=z;refine bq f6 λu w' ⟨S',γ',β',m1,m2,m3⟩=>?_;exact hk u _ s' S' γ' β' w' h1 m1 m2 ⟨f1,f2,f4⟩ λo' n=>(C o' n).keep (U o' n) f3 f5 m3
 obtain⟨w1,Z,w3⟩:=qn (ops:=ops) (o:=o) h;cases hg:o.guard with
 | some W=>
  obtain⟨j,want⟩:=W;simp only[eZ,hg] at b;split at b<;>first|(cases b;done)|skip
  rename_i g G;split at b<;>first|(cases b;done)|skip
  rename_i q;have m:∀ t∈s.lkS,o.dst≠some t:=λt D e=>q (by simp[mW,e];exact D)
  have p:=aeE s o.dst .gone;have alt:(Region.wanted o (yielded ops a.tmps)=true/\(A4 E an l s o λs'=>eZ E N R ops (rQ E o an) l s' k)=some r)\/(Region.wanted o (yielded ops a.tmps)=false/\eZ E N R ops (rQ E o an) l (s.put o.dst .gone) k=some r):=by
   by_cases hgo:s.tm g=.gone
   ·rw[hgo,fF] at b;exact .inr ⟨w3 j want g hg G hgo,b⟩
   rw[fG hgo] at b;obtain⟨c,h1,z⟩:=ab b;replace z:=lv (A:=λs=>A4 E an l s o λs'=>eZ E N R ops (rQ E o an) l s' k) (B:=λs=>eZ E N R ops (rQ E o an) l (s.put o.dst .gone) k) h1 z;have hw:=Z j want g c hg G h1;split at z
   ·rename_i hc;exact .inl ⟨by rw[hw];exact hc,z⟩
   ·rename_i hc;exact .inr ⟨by rw[hw];simpa using hc,z⟩
  rcases alt with⟨hw,z⟩|⟨hw,z⟩
  ·rw[zja hw];exact run q z
  ·rw[zga (by simp[hw])]
   refine⟨λ_ _=>trivial,?_⟩;exact hk undef _ _ S γ β w z (h.put (v:=.gone) (val:=undef) (by simp[AR]) o.dst) ⟨λ_ _ F=>F,λ_ _ _=>rfl,λt D=>bZ (m t D),λ_ _ _ F=>⟨F,jd.refl _ _⟩,zka _,λ_ _ F=>F,j6.same bG (da.refl _)⟩ (Sm.put s o.dst .gone).sk
    λo' n=>(C o' n).keep (U o' n) p.2.1 (λid _ _=>by rw[p.1]) λid _=>⟨rfl,rfl⟩
 | none=>
  rw[zja (w1 hg)];simp only[eZ,hg,M hg,zLa,if_false] at b;split at b<;>first|(cases b;done)|skip
  rename_i q;exact run q b
theorem lD:∀ (l:List Oper) (i m:Nat),(aW i l).drop m=aW (i+m) (l.drop m)
 | l,i,0=>s6
 | [],i,m+1=>by simp[aW]
 | o::l,i,m+1=>by simp only[aW,zUc];rw[lD l (i+1) m,show i+1+m=i+(m+1) by omega]
def ru{l:List Oper}{i m:Nat}{p:Nat×Oper}(h:p∈(aW i l).take m):∃ j,j<m/\l[j]?=some p.2:=by
 obtain⟨j,c,he⟩:=z2a h;have h1:((aW i l).take m)[j]?=some p:=k7
 have a:j<m:=k7
 rw[zsb a] at h1;have b:((aW i l).map Prod.snd)[j]?=some p.2:=by rw[zgb,h1];rfl
 grind [bi]
def EA(hE:EnvOk P E)(hr:g8 E ops=true)(ad:cZ (ops.toList.filterMap (·.dst))=true)(a8:∀ o∈ops.toList,∀ T x y,o.op=.store T x y->o.dst=none){Q:Exit->Act->World->Prop}{R:Type}{k:St->Option R}{r:R} :
  ∀ (g:Nat) (c:Nat) (b:Array Bool) (N:Nat) (an:Ann) {S:Nat->Nat->Prop} {γ:Nat->Option Nat} {β:Nat->Option (Nat×Nat)} {s:St} {a:Act} {w:World},c+g=ops.size->Full ops c b->Rp w0 S γ β s a w ->
   (∀ j I,ops[j]?=some I->c<=j->Fr E s γ β I)->eZ E N R ops an (aW c (ops.toList.drop c)) s k=some r ->
   (∀ s' S' γ' β' a' w',Rp w0 S' γ' β' s' a' w'->Fm s S γ a w S' γ' a' w'->Sk s s'->k s'=some r->Q .normal a' w')->wpAnyIn (FW ro) nn P .any ops Q g b a w:=by
 intro g
 induction g using Nat.strongRecOn with
 | _ g ih=>
 intro c b N an S γ β s a w a5 U h X f hQ;cases g with
 | zero=>
  have hk:c=ops.size:=j1
  subst hk;rw[zic s6] at f
  cases N with
  | zero=>simp[eZ] at f
  | succ N=>
   simp only[aW,eZ] at f;refine⟨?_,hQ s S γ β a w h (Fm.refl _ _ _ _ _) (Sk.refl s) f⟩;cases hrd:Region.ready .any ops b with
   | nil=>rfl
   | cons j l=>
    exfalso;have t:j∈Region.ready .any ops b:=by rw[hrd];simp
    have h1:=U.later j t;obtain⟨_,o,M,_⟩:=mem_ready.1 t
    simp_all
 | succ g=>
 have D:c<ops.size:=j1
 have M:=zIb D;obtain⟨o,al⟩:∃ o,o=ops[c]:=⟨_,rfl⟩;rw[<-al] at M;clear al;have a1:ops.toList.drop c=o::ops.toList.drop (c+1):=by
  have a6:c<ops.toList.length:=by simpa using D
  rw[zpb a6]
  simp_all
 cases hc:jB E o with
 | false=>
  refine⟨λh0=>(by have:=U.ready hr D;rw[h0] at this;cases this),λi hi=>?_⟩
  have a4:=GX hr U M hc i hi;subst a4;unfold wpOpIn;rw[M];simp only;rw[a1] at f;simp only[aW] at f;cases N with
  | zero=>simp[eZ] at f
  | succ N=>
  have K:(aW (i+1) (ops.toList.drop (i+1))).map Prod.snd=ops.toList.drop (i+1):=bi _ _;have Y:∀ o'∈ops.toList.drop (i+1),∃ j,i<j/\ops[j]?=some o':=λo' z=>by
   obtain⟨j,t,he⟩:=z2a z;refine⟨i+1+j,j1,?_⟩
   grind
  refine Gf hE h (a8 o (ztc.2 (zpc M))) (X i o M (zka _)) (λo' z=>?_) (λo' z d W=>?_) (λ_=>?_) f λu ax s' S' γ' β' w' m0 m1 m2 m3 m4=>?_
  ·grind
  ·rw[K] at z;obtain⟨j,t,F⟩:=Y o' z;exact ji ad (show i≠j by omega) (by rw[zJa];exact M) (by rw[zJa];exact F) d W
  ·cases hsg:lJ E s i o (aW (i+1) (ops.toList.drop (i+1))) with
   | false=>rfl
   | true=>
    exfalso;simp only[lJ,zaa] at hsg;have J:=hsg.2;split at J<;>first|(cases J;done)|skip
    simp only[zaa,zCa] at J;have h3:jB E o=true:=by simp[jB,J.1.1.1.2,J.1.1.2]
    rw[h3] at hc;cases hc
  ·refine ih g (zAd _) (i+1) _ N ax j1 (U.set D) m1 (λj I t Z=>m4 I ?_) m0 λs2 S2 γ2 β2 a2 w2 n1 n2 n3 n4=>hQ s2 S2 γ2 β2 a2 w2 n1 (m2.trans n2 m3.lkS m3.lkO) (m3.trans n3) n4
   rw[K];refine zbb (i:=j-(i+1)) ?_;rw[zBb,zJa,show i+1+(j-(i+1))=j by omega]
   exact t
 | true=>
  obtain⟨m,hm⟩:∃ m,m=iQ E ops (g+1) c:=⟨_,rfl⟩;obtain⟨e1,e2,e3,B⟩:=q8 (E:=E) (ops:=ops) (g+1) c a5;rw[<-hm] at e1 e2 e3 B;have bl:c<m:=by
   rcases zta c m with q|q
   ·exact q
   ·exfalso;have:m=c:=j1
    rw[this] at B;rcases B with B|⟨o',q1,A⟩
    ·omega
    ·rw[M] at q1;cases q1;rw[hc] at A;cases A
  have hW:mQ .any ops m:=by
   rcases B with B|⟨o',q1,A⟩
   ·rw[B];exact ES
   ·exact ER hr q1 A
  have hlen:(aW c (ops.toList.drop c)).length=ops.size-c:=by rw[gE];simp
  have C:∀ o',jB E o'=true->gr o'=true/\kG E o'=false:=λo' V=>by simp only[jB,zaa,zCa] at V;exact V
  obtain⟨s',bm,N',q1,A,q3⟩:=s7 N R (aW c (ops.toList.drop c)) s k r (m-c) an (by rw[hlen];omega) (λp hp=>by
    obtain⟨j,t,F⟩:=ru hp;rw[zBb,zJa] at F;exact C _ (e3 (c+j) p.2 j1 j1 F)) (.inr λp q G=>by
    rw[lD,zLd,show c+(m-c)=m by omega] at G
    rcases B with B|⟨o',z1,z2⟩
    ·rw[B,zic s6] at G
     simp[aW] at G
    ·have bj:=(zpa.1 z1).1;have:p.2=o':=by
      have h1:(aW m (ops.toList.drop m)).map Prod.snd=ops.toList.drop m:=bi _ _;rw[G] at h1;have J:(ops.toList.drop m)[0]?=some p.2:=by rw[<-h1];rfl
      rw[zBb,zJa,zWb,z1] at J;exact(Option.some.inj J).symm
     rw[this];exact z2) f
  rw[lD,zLd,show c+(m-c)=m by omega] at q3
  rw[zxd,bi] at q1;have O:((ops.toList.drop c).take (m-c)).length=m-c:=by simp;omega
  have H:=zh (E:=E) hr (n:=m) (L:=λe s2=>Full ops m e/\s2=s') hW (λe s2 hL=>hL.1.later) e2 ((ops.toList.drop c).take (m-c)) c b s s' (λj t=>by rw[O] at t;rw[zsb t,zBb,zJa]) (by rw[O];omega) U e3 q1 (λe aI=>⟨aI,rfl⟩)
  have:=gG (ro:=ro) (nn:=nn) (Q:=Q) (g:=ops.size-m) hE (s0:=s) (S0:=S) (γ0:=γ) (a0:=a) (w1:=w) (λi j oi I Z hi t d W=>ji ad Z (by rw[zJa];exact hi) (by rw[zJa];exact t) d W)
   (λe s2 S2 γ2 β2 a2 w2 m1 m2 m3 m4 m5=>by
    obtain⟨m5,m6⟩:=m5;subst m6;refine ih (ops.size-m) j1 m e N' an j1 m5 (m1.wk A) (λj I t a7=>?_) q3 λs3 S3 γ3 β3 a3 w3 n1 n2 n3 n4=>hQ s3 S3 γ3 β3 a3 w3 n1 (m2.trans n2 (A.lkS.trans m3.lkS) (A.lkO.trans m3.lkO)) ((m3.trans (Sm.wk A)).sk.trans n3) n4
    have v:=(zpa.1 t).1;have:=m4 j I t (m5.rest j a7 v);intro hc d W;obtain⟨r1,r2,r3,r4⟩:=this hc d W;rw[A.base_eq,A.ob];exact⟨r1,r2,r3,r4⟩)
   ((ops.toList.drop c).take (m-c)).length b s S γ β a w h (Fm.refl _ _ _ _ _) (Sm.refl s) (λj I t a9=>by
    have v:=(zpa.1 t).1;refine X j I t ?_;rcases zta j c with q|q
    ·have:=U.done j q v;rw[getD_both a9] at this;cases this
    ·exact q) H
  rw[O,show m-c+(ops.size-m)=g+1 by omega] at this
  exact this
def tW(p:EnvOk P E){id:Nat}{Q:Exit->Act->World->Prop}{S:Nat->Nat->Prop}{γ:Nat->Option Nat}{β:Nat->Option (Nat×Nat)}{s:St}{a:Act}{w:World}{R:Type}{k:St->Option R}{r:R}{N:Nat}
  (h:Rp w0 S γ β s a w) (t:EV E s γ β ops.toList) (hm:cH ops.toList=true) (z:g8 E ops=true) {an:Ann} (i:eZ E N R ops an (aW 0 ops.toList) s k=some r)
  (q:∀ s' S' γ' β' a' w',Rp w0 S' γ' β' s' a' w'->Fm s S γ a w S' γ' a' w'->Sk s s'->k s'=some r->Q .normal a' w'):(Code.region id ops true).wpIn (FW ro) nn P Q a w:=by
 simp only[cH,zaa] at hm;obtain⟨⟨l,_⟩,m⟩:=hm;have c:∀ o∈ops.toList,∀ T x y,o.op=.store T x y->o.dst=none:=λo v T x y e=>by have:=zya.1 m o v;rw[e] at this;simpa using this
 refine wpIn_region_any p.mixed ?_;have u:({ w with drawn:=w.drawn+1 }:World)=grown w [] (w.drawn+1):=by simp[grown]
 obtain⟨g1,g2⟩:=h.grow (os:=[]) (d:=w.drawn+1) (zCc _) (S':=S) (λ_ _ f=>f) (λ_ _ f=>.inl f);rw[u];have f0:Fm s S γ a w S γ a (grown w [] (w.drawn+1)):=⟨λ_ _ f=>f,g2.cell,λ_ _=>rfl,λid hid b f=>⟨f,.inl (c9 (h.γn id b f).2)⟩,s6,λ_ _ f=>f,j6.same rfl da.grown⟩
 refine EA (ro:=ro) (nn:=nn) p z l c ops.size 0 _ N an j1 ⟨s6,λj g=>j1,λj _ g=>getD_in (by simpa using g) (getD_replicate_false _ _)⟩ g1 (λj F g _=>t F (ztc.2 (zpc g))) (by simpa using i) λs' S' γ' β' a' w' A B C D=>q s' S' γ' β' a' w' A (f0.trans B rfl rfl) C D
end
end Sy
end
noncomputable section
namespace Sy
open Go
variable{ro:Option Nat}{nn:Nat}
section
variable{P:Program}{E:Env}{w0:Root}
def vq{id:Nat}{ops:Array Oper}{dr:Bool}{ann:Ann}{R:Type}{s s1:St}(a:s1={ gn s ann.fz with fresh:=s.fresh+1 }){k:Ex->St->Option R}{r:R}(h:ev E (.region id ops dr) ann R s k=some r) :
  cH ops.toList=true/\(((!dr||pN E ops (ann.heads ops.size))=true/\eZ E (ops.size+1) R ops ann.inner (aW 0 ops.toList) (gf E ops.toList s1) (λs'=>k .normal s')=some r) ∨
   (dr=true/\tp ops (ann.heads ops.size)=true/\Nm E ops (ann.heads ops.size) (kj ops (ann.heads ops.size) (gf E ops.toList s1)) (ann.heads ops.size) 0 (gf E ops.toList s1) (λs2=>if tn ops (ann.heads ops.size) s2=some (kj ops (ann.heads ops.size) (gf E ops.toList s1)) then eZ E (ops.size+1) R ops ann.inner ((aW 0 ops.toList).drop (ann.heads ops.size)) s2 (λs'=>k .normal s') else none)=some r) ∨
   (dr=true/\g8 E ops=true/\eZ E (ops.size+1) R ops ann.inner (aW 0 ops.toList) (gf E ops.toList s1) (λs'=>k .normal s')=some r)):=by
 have key:(if cH ops.toList&&(!dr||pN E ops (ann.heads ops.size)) then eZ E (ops.size+1) R ops ann.inner (aW 0 ops.toList) (gf E ops.toList s1) (λs'=>k .normal s')
  else if cH ops.toList&&tp ops (ann.heads ops.size) then Nm E ops (ann.heads ops.size) (kj ops (ann.heads ops.size) (gf E ops.toList s1)) (ann.heads ops.size) 0 (gf E ops.toList s1) (λs2=>if tn ops (ann.heads ops.size) s2=some (kj ops (ann.heads ops.size) (gf E ops.toList s1)) then eZ E (ops.size+1) R ops ann.inner ((aW 0 ops.toList).drop (ann.heads ops.size)) s2 (λs'=>k .normal s') else none)
  else if cH ops.toList&&(dr&&g8 E ops) then eZ E (ops.size+1) R ops ann.inner (aW 0 ops.toList) (gf E ops.toList s1) (λs'=>k .normal s')
  else none)=some r:=by
  subst a;cases ann<;>exact h
 split at key
 ·rename_i hc;simp only[zaa] at hc;exact⟨hc.1,.inl ⟨hc.2,key⟩⟩
 ·rename_i hn;split at key
  ·rename_i hc;simp only[zaa] at hc;refine⟨hc.1,.inr (.inl ⟨?_,hc.2,key⟩)⟩;cases dr
   ·exfalso;exact hn (by simp[hc.1])
   ·rfl
  ·split at key
   ·rename_i hc;simp only[zaa] at hc;exact⟨hc.1,.inr (.inr ⟨hc.2.1,hc.2.2,key⟩)⟩
   ·cases key
def Es(B:EnvOk P E){Q:Exit->Act->World->Prop}{id:Nat}{ops:Array Oper}{dr:Bool}{ann:Ann}{R:Type}{S:Nat->Nat->Prop}{γ:Nat->Option Nat}{β:Nat->Option (Nat×Nat)}{s:St}{a:Act}{w:World}{k:Ex->St->Option R}{r:R}
  (h:Rp w0 S γ β s a w) (D:ev E (.region id ops dr) ann R s k=some r) (C:Kp Q w0 s S γ a w k r):(Code.region id ops dr).wpIn (FW ro) nn P Q a w:=by
 obtain⟨S1,f1,f2,f3⟩:=pR ann.fz h;obtain⟨s1,c⟩:∃ s1,s1={ gn s ann.fz with fresh:=s.fresh+1 }:=⟨_,rfl⟩;obtain⟨h1,A⟩:=vq c D;have O:s1.base=s.base+4096:=by rw[c];simp only[St.base];omega
 have U:(gn s ann.fz).base=s.base:=f3.base_eq;have r1:Rp w0 S1 γ β s1 a w:=by
  rw[c];have q1:∀ id,({ gn s ann.fz with fresh:=s.fresh+1 }:St).base+4096<=id->s.base+4096<=id:=λid hid=>by grind
  exact⟨f1.ext,f1.tms,f1.nt,f1.tmu,f1.obs,f1.γn,f1.γi,λid hid=>h.γf id (q1 id hid),f1.βn,f1.βi,f1.βγ,λv V=>h.βf v (q1 v V),f1.Sb,f1.So⟩
 have e:∀ d,s.base+4096<=s1.base+d:=λd=>j1
 have K:∀ d,γ (s1.base+d)=none:=λd=>h.γf (s1.base+d) (e d);have F:∀ d,β (s1.base+d)=none:=λd=>h.βf (s1.base+d) (e d);obtain⟨I,m2⟩:=xC (E:=E) ops.toList r1 K;have q:=h1;simp only[cH,zaa,zya] at q;obtain⟨⟨G,H⟩,_⟩:=q;have l:EV E (gf E ops.toList s1) γ β ops.toList:=by intro o L hc d J;rw[m2.base_eq];have g:=H o L;rw[J] at g;simp only[zia] at g;exact⟨g,K d,F d,λT t M N=>rT ops.toList G L M J N⟩
 have b:Sk s (gf E ops.toList s1):=by
  refine⟨m2.lkS.trans ?_,m2.lkO.trans ?_,m2.nt.trans ?_⟩<;>rw[c]
  ·exact f3.lkS
  ·exact f3.lkO
  ·exact f3.nt
 rcases A with⟨m,p⟩|⟨j,m,p⟩|⟨j,m,p⟩
 rotate_right
 ·subst j;exact tW B I l h1 m p λs' S' γ' β' a' w' u x y z=>C .normal s' S' γ' β' a' w' u (f2.tr x b) (b.trans y) z
 rotate_left
 ·subst j;exact tV B I l h1 m p λs' S' γ' β' a' w' u x y z=>C .normal s' S' γ' β' a' w' u (f2.tr x b) (b.trans y) z
 refine Et B I l h1 m p λs' S' γ' β' a' w' u x y z=>?_;exact C .normal s' S' γ' β' a' w' u (f2.tr x b) (b.trans y) z
def HB{S:Nat->Nat->Prop}{γ:Nat->Option Nat}{β:Nat->Option (Nat×Nat)}{s:St}{a:Act}{w:World}(h:Rp w0 S γ β s a w){c:Operand}{t:Bool}(b:(s.opA c).truth=some t):a.eval c=.bool t:=
 (nV b (aS h c)).1
def YU{S S':Nat->Nat->Prop}{γ γ':Nat->Option Nat}{s:St}{a a':Act}{w w':World}(b:∀ l,ro=some l->∃ r0,w.heap[l]?=some (Obj.loop r0))(F:Fm s S γ a w S' γ' a' w'):∀ l,ro=some l->∃ r0,w'.heap[l]?=some (Obj.loop r0):=λl hl=>(F.dfs.1 l).2 (b l hl)
def tA(E:Env)(c:Code)(h:Shape)(b:List (Ex×Shape))(a:Ann)(s:St)(v:List D):Option (Sum (List D) (Nat×List D)):=
 ev E c a (Sum (List D) (Nat×List D)) (h.mk' s v (h.keepS++s.lkS) (cn h.objs++s.lkO)) λe s'=>match e with
    | .normal=>(h.dec s s').bind λv'=>some (.inl v')
    | e=>(BR s b e s').bind λr=>some (.inr r)
theorem gY(J:EnvOk P E):∀ (c:Code) (ann:Ann) (R:Type) {Q:Exit->Act->World->Prop} {S:Nat->Nat->Prop} {γ:Nat->Option Nat} {β:Nat->Option (Nat×Nat)} {s:St} {a:Act} {w:World} (k:Ex->St->Option R) (r:R),
  (∀ l,ro=some l->∃ r0,w.heap[l]?=some (Obj.loop r0))->Rp w0 S γ β s a w->ev E c ann R s k=some r->Kp Q w0 s S γ a w k r->c.wpIn (FW ro) nn P Q a w
 | .skip,ann,R,Q,S,γ,β,s,a,w,k,r,o,h,g,q=>by simp only[ev] at g;exact wpIn_skip (q .normal s S γ β a w h (Fm.refl _ _ _ _ _) (Sk.refl s) g)
 | .label l,ann,R,Q,S,γ,β,s,a,w,k,r,o,h,g,q=>by simp only[ev] at g;exact wpIn_label (q .normal s S γ β a w h (Fm.refl _ _ _ _ _) (Sk.refl s) g)
 | .exit id,ann,R,Q,S,γ,β,s,a,w,k,r,o,h,g,q=>by simp only[ev] at g;exact wpIn_exit (q (.exit id) s S γ β a w h (Fm.refl _ _ _ _ _) (Sk.refl s) g)
 | .ret,ann,R,Q,S,γ,β,s,a,w,k,r,o,h,g,q=>by simp only[ev] at g;exact wpIn_ret (q .ret s S γ β a w h (Fm.refl _ _ _ _ _) (Sk.refl s) g)
 | .region id ops dr,ann,R,Q,S,γ,β,s,a,w,k,r,o,h,g,q=>Es J h g q
 | .cond c x y,ann,R,Q,S,γ,β,s,a,w,k,r,o,h,g,q=>by
  simp only[ev] at g;obtain⟨t,C,g⟩:=ab g;refine wpIn_cond (HB h C) ?_;cases t
  ·exact gY J y _ R k r o h (by simpa using g) q
  ·exact gY J x _ R k r o h (by simpa using g) q
 | .block id c,ann,R,Q,S,γ,β,s,a,w,k,r,o,h,g,q=>by
  simp only[ev] at g;refine wpIn_block (gY J c _ R _ r o h g λe s' S' γ' β' a' w' D B G A=>?_);cases e with
  | normal=>exact q .normal s' S' γ' β' a' w' D B G A
  | ret=>exact q .ret s' S' γ' β' a' w' D B G A
  | exit j=>
   simp only[Gg,Exit.inBlock];simp only at A;split at A
   ·rename_i W;rw[zja W];exact q .normal s' S' γ' β' a' w' D B G A
   ·rename_i W;rw[zga W];exact q (.exit j) s' S' γ' β' a' w' D B G A
 | .seq c d,ann,R,Q,S,γ,β,s,a,w,k,r,o,h,g,q=>by
  have plain:(ev E c ann.fst R s λe s'=>match e with|.normal=>ev E d ann.snd R s' k|e=>k e s')=some r->(Code.seq c d).wpIn (FW ro) nn P Q a w:=λg=>by
   refine wpIn_seq (gY J c _ R _ r o h g λe s' S' γ' β' a' w' D B G A=>?_);cases e with
   | normal=> exact gY J d _ R k r (YU o B) D A λU s2 S2 γ2 β2 a2 w2 m1 m2 m3 m4=>q U s2 S2 γ2 β2 a2 w2 m1 (B.tr m2 G) (G.trans m3) m4
   | ret=>exact q .ret s' S' γ' β' a' w' D B G A
   | exit j=>exact q (.exit j) s' S' γ' β' a' w' D B G A
  cases ann with
  | leaf=>simp only[ev] at g;exact plain g
  | reg fz n=>simp only[ev] at g;exact plain g
  | regI fz n x=>simp only[ev] at g;exact plain g
  | two x y=>simp only[ev] at g;exact plain g
  | loop x y z=>simp only[ev] at g;exact plain g
  | all x y z u=>simp only[ev] at g;exact plain g
  | cut p Y X x y=>
   clear plain;simp only[ev] at g;obtain⟨⟨j,v⟩,h1,V⟩:=ab g;refine wpIn_seq (gY J c x _ _ (j,v) o (h.lk (Y++s.lkS) (X++s.lkO)) h1 λe s' S' γ' β' a' w' D B G A=>?_);obtain⟨sh,q1,I⟩:=ql A;simp only at q1 I;obtain⟨c1,c2,T⟩:=jh (zoa j) (by simpa using q1) V
   obtain⟨H,β'',p1,p2⟩:=lM h D B.sub B.cell G.nt (h:=sh) (λt C=>B.slots t (zlb _ (fL c2 t C))) B.gam (λid hid=>B.objs id (zlb _ (fL T id hid))) I s.lkS s.lkO;have F:Fm s S γ a w S' H a' w':=(B.less (s2:=s) (λt C=>zfb _ C) (λt C=>zfb _ C)).shape h p2;cases e with
   | normal=> exact gY J d y R k r (YU o F) p1 c1 λU s2 S2 γ2 β2 a2 w2 m1 m2 m3 m4=>q U s2 S2 γ2 β2 a2 w2 m1 (F.tr m2 ⟨rfl,rfl,rfl⟩) (Sk.trans (b:=sh.mk' s v s.lkS s.lkO) ⟨rfl,rfl,rfl⟩ m3) m4
   | ret=>exact q .ret _ S' H β'' a' w' p1 F ⟨rfl,rfl,rfl⟩ c1
   | exit i=>exact q (.exit i) _ S' H β'' a' w' p1 F ⟨rfl,rfl,rfl⟩ c1
 | .loop c,ann,R,Q,S,γ,β,s,a,w,k,r,o,h,g,q=>by
  cases ann with
  | loop sh p x=>
   have K:(sh.dec s s).bind (λv0=>(E.lp (tA E c sh p x s) v0).bind λr=>lr s k sh.keepS (cn sh.objs) p 0 r)=some r:=g;obtain⟨v0,h1,K⟩:=ab K;obtain⟨⟨j,vj⟩,V,h3⟩:=ab K;obtain⟨n,hn⟩:=J.lp _ _ _ _ _ V;obtain⟨N,L⟩:∃ N:St,N={ s with lkS:=sh.keepS++s.lkS,lkO:=cn sh.objs++s.lkO }:=⟨_,rfl⟩;obtain⟨γ0,β0,p1,p2⟩:=lM h h (λ_ _ M=>M) (λ_ _ _=>rfl) rfl (h:=sh) (λ_ _=>rfl) (λ_ _ M=>M) (λ_ _ _ M=>⟨M,jd.refl _ _⟩) h1 (sh.keepS++s.lkS) (cn sh.objs++s.lkO);have F0:Fm N S γ a w S γ0 a w:=(Fm.refl N S γ a w).shape h p2;refine wH (λn a1 w1=>∃ v S1 γ1 β1,Rp w0 S1 γ1 β1 (sh.mk' s v (sh.keepS++s.lkS) (cn sh.objs++s.lkO)) a1 w1/\Fm N S γ a w S1 γ1 a1 w1/\oQ (tA E c sh p x s) n v=some (j,vj)) (m:=n) ⟨v0,S,γ0,β0,p1,F0,hn⟩ ?_;rintro n a1 w1 ⟨v,S1,γ1,β1,g1,g2,g3⟩;cases n with
   | zero=>simp[pX] at g3
   | succ m=>
    simp only[jL] at g3;cases M:tA E c sh p x s v with
    | none=>rw[M] at g3;cases g3
    | some res=>
     rw[M] at g3;refine gY J c x _ _ res (YU o g2) g1 M λe s' S' γ' β' a' w' D B G A=>?_;have F:Fm N S γ a w S' γ' a' w':=g2.tr B (by rw[L];exact⟨rfl,rfl,rfl⟩)
     have O:s'.nt=s.nt:=G.nt;have sl:∀ t∈sh.keepS,a'.tmps.getD t undef=a.tmps.getD t undef:=λt C=>F.slots t (by rw[L];exact zlb _ C)
     have ob:∀ id∈cn sh.objs,∀ b,γ id=some b->γ' id=some b/\jd w w' b:=λid hid=>F.objs id (by rw[L];exact zlb _ hid)
     have fin:∀ e,BR s p e s'=some (j,vj)->Q (Gg e) a' w':=λe he=>by
      obtain⟨ad,q1,I⟩:=ql he;simp only at q1 I;obtain⟨c1,c2,T⟩:=jh (zoa j) (by simpa using q1) h3
      obtain⟨H,β'',Z,o2⟩:=lM h D F.sub F.cell O (h:=ad) (λt C=>sl t (fL c2 t C)) F.gam (λid hid=>ob id (fL T id hid)) I s.lkS s.lkO;exact q e _ S' H β'' a' w' Z ((F.less (s2:=s) (λt C=>by rw[L];exact zfb _ C) (λt C=>by rw[L];exact zfb _ C)).shape h o2) ⟨rfl,rfl,rfl⟩ c1
     cases e with
     | normal=> simp only at A;obtain⟨v',q1,I⟩:=ab A;simp only[zda] at I;subst I;obtain⟨H,β'',Z,o2⟩:=lM h D F.sub F.cell O (h:=sh) sl F.gam ob q1 (sh.keepS++s.lkS) (cn sh.objs++s.lkO);exact⟨m,zAd m,v',S',H,β'',Z,F.shape h o2,g3⟩
     | ret=> simp only at A;obtain⟨v',q1,I⟩:=ab A;simp only[zda] at I;subst I;simp only[zda] at g3;subst g3;exact fin .ret q1
     | exit i=> simp only at A;obtain⟨v',q1,I⟩:=ab A;simp only[zda] at I;subst I;simp only[zda] at g3;subst g3;exact fin (.exit i) q1
  | leaf=>simp[ev] at g
  | reg fz n=>simp[ev] at g
  | regI fz n x=>simp[ev] at g
  | two x y=>simp[ev] at g
  | cut p Y X x y=>simp[ev] at g
  | all p Y X x=>simp[ev] at g
 | .goto l,ann,R,Q,S,γ,β,s,a,w,k,r,o,h,g,q=>by
  have:(none:Option R)=some r:=by cases ann<;>exact g
  cases this
 | .scope c,ann,R,Q,S,γ,β,s,a,w,k,r,o,h,g,q=>by simp only[ev] at g;refine mM (gY J c _ R k r o h g λe s' S' γ' β' a' w' D B G A=>?_);cases e<;>exact q _ s' S' γ' β' a' w' D B G A
 | .rangeFunc f ps x y,ann,R,Q,S,γ,β,s,a,w,k,r,o,h,g,q=>Nn J (an:=ann) o h (by cases ann<;>exact g) q
def CF(n:EnvOk P E)(c:Code)(ann:Ann)(R:Type){Q:Exit->Act->World->Prop}{S:Nat->Nat->Prop}{γ:Nat->Option Nat}{β:Nat->Option (Nat×Nat)}{s:St}{a:Act}{w:World}(k:Ex->St->Option R)(r:R)
  (f:∀ l,ro=some l->∃ r0,w.heap[l]?=some (Obj.loop r0)) (h:Rp w0 S γ β s a w) (b:HV E c ann R s k=some r) (o:Kp Q w0 s S γ a w k r):c.wpIn (FW ro) nn P Q a w:=by
 cases ann with
 | all i z y x=>
  simp only[HV] at b;obtain⟨⟨j,v⟩,h1,u⟩:=ab b;refine gY n c x _ _ (j,v) f (h.lk (z++s.lkS) (y++s.lkO)) h1 λe s' S' γ' β' a' w' A d B C=>?_;obtain⟨sh,q1,p⟩:=ql C;simp only at q1 p;obtain⟨c1,c2,q⟩:=jh (zoa j) (by simpa using q1) u
  obtain⟨m,β'',p1,D⟩:=lM h A d.sub d.cell B.nt (h:=sh) (λt g=>d.slots t (zlb _ (fL c2 t g))) d.gam (λid hid=>d.objs id (zlb _ (fL q id hid))) p s.lkS s.lkO;exact o e _ S' m β'' a' w' p1 ((d.less (s2:=s) (λt g=>zfb _ g) (λt g=>zfb _ g)).shape h D) ⟨rfl,rfl,rfl⟩ c1
 | _=>exact gY n c _ R k r f h b o
def yX(d:EnvOk P E)(c:Code)(ann:Ann)(R:Type){Q:Exit->Act->World->Prop}{S:Nat->Nat->Prop}{γ:Nat->Option Nat}{β:Nat->Option (Nat×Nat)}{s:St}{a:Act}{w:World}(k:Ex->St->Option R)(r:R)
  (h:Rp w0 S γ β s a w) (b:ev E c ann R s k=some r) (e:Kp Q w0 s S γ a w k r):c.wpIn (FW none) nn P Q a w:=
 gY d c ann R k r (λ_ h=>by cases h) h b e
end
def Nc{P:Program}{E:Env}(d:EnvOk P E):E2 P (HV E):=λ_ _ _ c ann R _ _ _ _ _ _ _ k r b h a e=>CF d c ann R k r b h a e
end Sy
end
noncomputable section
namespace Sy
open Go
open Go.ChangeMaps (setBlock)
open Go.RowKit
variable{ro:Option Nat}{nn:Nat}
section
variable{P:Program}{E:Env}{w0:Root}{S:Nat->Nat->Prop}{γ:Nat->Option Nat}{β:Nat->Option (Nat×Nat)}{s:St}{a:Act}{w:World}
def jf(tmps:Array Value):ResultVar->Sem Value
 | .tmp t=>pure (tmps.getD t undef)
 | .cell a t=>do loadVar t (<-asAddr (tmps.getD a undef))
def iO(fn:Func)(tmps:Array Value):Go.results fn tmps=(do
  let vs <-fn.results.mapM (jf tmps)
  pure (if h:vs.size=1 then vs[0] else .tuple vs)):=by
 unfold Go.results;congr 1
def Gj{t b:Ty}{a:AV}(h:AV.fits t a=true)(c:AV.fits b a=true):cW t=cW b:=by
 cases a
 case d u x=>rw[nv h,nv c]
 all_goals (cases t<;>cases b<;>simp_all [AV.fits,cW])
def Dg(A:EnvOk P E)(h:Rp w0 S γ β s a w){R:Type}{t:Ty}(hn:ao t=true){k:D->Option R}{r:ResultVar}{y:R}(hq:Hj E s t k r=some y) :
  ∃ x v,k x=some y/\(jf a.tmps r).run P w=.ok v w/\wt t x/\fa w S x v:=by
 cases r with
 | tmp i=>
  simp only[Hj] at hq;obtain⟨x,h1,l⟩:=ab hq;have m:i<a.tmps.size:=by
   rcases zta i a.tmps.size with e|d
   ·exact e
   ·rw[h.tmu i (by rw[<-h.nt];exact d)] at h1
    simp[adR] at h1
  obtain⟨q,G⟩:=nc hn (h.tms i m) h1;exact⟨x,a.tmps.getD i undef,l,rfl,q,G⟩
 | cell i T=>
  simp only[Hj] at hq;obtain⟨u,hu,hq⟩:=ab hq;split at hq<;>first|(cases hq;done)|skip
  rename_i J id p j;split at hq<;>first|(cases hq;done)|skip
  rename_i B;have:=aeK _ _ B;subst this;obtain⟨o,z,hq⟩:=ab hq;have m:i<a.tmps.size:=by
   rcases zta i a.tmps.size with e|d
   ·exact e
   ·have:=h.tmu i (by rw[<-h.nt];exact d)
    rw[j] at this;cases this
  have hx:=h.tms i m;rw[j] at hx;obtain⟨b,off,C,F,n⟩:=jp hx;obtain⟨q,rfl⟩:=n o z;obtain⟨a',cs,m1,m2,m3,m4,m5⟩:=jP (h.obs id o b z F) q hq;obtain⟨m6,m7⟩:=gl _ _ _ m3 m2;obtain⟨v,g,c⟩:=gS (ii A hu m4) (w:=w) (b:=b) (off:=ci o p) m6 m7 m5;obtain⟨x,h1,l⟩:=ab m1;obtain⟨q1,I,H⟩:=qj _ _ _ _ h1 m2;have f:=Gj (ul _ _ _ h1) m3;refine⟨x,v,l,?_,q1,H v ⟨c.1,by rw[f];exact c.2.1,by rw[f];exact c.2.2⟩ hn⟩
  rw[<-g];simp only[jf,Instr.loadAt,Instr.sureAddr,pure_bind];rw[show a.tmps.getD i undef=.pointer (some ⟨b,ci o p,none⟩) from C];rfl
theorem o7(f:EnvOk P E)(h:Rp w0 S γ β s a w){R:Type}:∀ (c:List Ty) (b:List ResultVar) (k:List D->Option R) (y:R),aO c=true->qU E s c b k=some y ->
  ∃ xs vs,k xs=some y/\(b.mapM (jf a.tmps)).run P w=.ok vs w/\eu c xs/\vs.length=b.length/\xs.length=vs.length/\∀ (i:Nat) (d:D) (u:Value),xs[i]?=some d->vs[i]?=some u->fa w S d u
 | [],[],k,y,_,hq=>by simp only[qU] at hq;exact⟨[],[],hq,rfl,rfl,rfl,rfl,λi d u h=>by simp at h⟩
 | [],_::_,k,y,_,hq=>by simp[qU] at hq
 | _::_,[],k,y,_,hq=>by simp[qU] at hq
 | t::c,r::b,k,y,hn,hq=>by
  simp only[qU] at hq;simp only[aO,zaa] at hn;obtain⟨x,v,h1,g,j,l⟩:=Dg f h hn.1 hq;obtain⟨xs,vs,m,n,o,p,q,z⟩:=o7 f h c b _ y hn.2 h1;refine⟨x::xs,v::vs,m,?_,⟨x,xs,rfl,j,o⟩,by simp[p],by simp[q],λi d u e hu=>?_⟩
  ·simp only[zBc,zla,g,zfa,n,zra]
  ·cases i with
   | zero=>simp at e hu;subst e;subst hu;exact l
   | succ i=>simp at e hu;exact z i d u e hu
def fd(n:Nat)(a:Ty):Bool:=if n=1 then ao a else match a with|.tup b=>aO b|_=>false
def iP(g:EnvOk P E)(h:Rp w0 S γ β s a w){fn:Func}{b:Ty}{y:D}(c:fd fn.results.size b=true)(hq:results E s b fn.results.toList=some y) :
  ∃ v,(Go.results fn a.tmps).run P w=.ok v w/\wt b y/\DR w S y v:=by
 rw[iO];have hm:fn.results.mapM (jf a.tmps)=Functor.map List.toArray (fn.results.toList.mapM (jf a.tmps)):=by rw[zrc]
 rw[hm];have j:fn.results.size=fn.results.toList.length:=s6
 rw[j] at c;generalize fn.results.toList=f at *
 match f,c,hq with
 | [r],c,hq=>
  have i:ao b=true:=by simpa [fd] using c
  simp only[results] at hq;obtain⟨x,v,h1,q,t,u⟩:=Dg g h i hq;simp only[zda] at h1;subst h1;refine⟨v,?_,t,DR.of0 u⟩;simp[zBc,q]
 | [],c,hq=>
  simp only[fd,z1b] at c;obtain⟨d,rfl⟩:∃ d,b=.tup d:=by cases b<;>first|exact⟨_,rfl⟩|(simp[results] at hq;done)
  simp only[results] at hq;obtain⟨xs,vs,e,p,l,m,n,o⟩:=o7 g h d [] _ y (by simpa using c) hq
  simp only[zda] at e;subst e;refine⟨.tuple vs.toArray,?_,by simp only[wt];exact⟨xs,rfl,l⟩,vs,rfl,n,o⟩
  have:vs=[]:=zec.1 m;subst this;simp
 | r::r'::f,c,hq=>
  simp only[fd,zOa] at c;rw[zga j1] at c
  obtain⟨d,rfl⟩:∃ d,b=.tup d:=by cases b<;>first|exact⟨_,rfl⟩|(simp[results] at hq;done)
  simp only[results] at hq;obtain⟨xs,vs,e,p,l,m,n,o⟩:=o7 g h d (r::r'::f) _ y c hq;simp only[zda] at e;subst e;refine⟨.tuple vs.toArray,?_,by simp only[wt];exact⟨xs,rfl,l⟩,vs,rfl,n,o⟩
  have:vs.length≠1:=by rw[m];simp
  have k:((List.mapM (jf a.tmps) (r::r'::f)).run P w)=.ok vs w:=p;simp only[zla,map_eq_pure_bind,k,zfa,zra];simp[this]
def eO{r:Root}{w:World}(h:kU r w)(k:∀ b,¬ r.sh b):∃ os d,r.w.drawn<=d/\w=grown r.w os d:=by
 obtain⟨w0,S0,sh⟩:=r;obtain⟨h1,f,g,l,a,j⟩:=h;simp only[Root.heap,Root.Old] at *;refine⟨(w.heap.toList.drop w0.heap.size),w.drawn,a,?_⟩;have e:w.heap=w0.heap++(w.heap.toList.drop w0.heap.size).toArray:=by
  apply zdc;rw[Array.toList_append]
  conv=>lhs;rw[<-zua w0.heap.size w.heap.toList]
  congr 1;apply zNb;intro i;by_cases c:i<w0.heap.size
  ·rw[zsb c,zJa,j i ⟨c,k i⟩,zJa]
  ·rw[zBa (by simp;omega),zBa (by simpa using c)]
 cases w;simp only[grown] at *;subst h1;subst f;subst g;congr 1
theorem shut_row{K:Nat}{a:Option (List Deferred)}{x:Option (List Deferred)}(hk:w.heap[K]?=some (.deferred a))(b:Nat):bO (setBlock w K (.deferred x)) b=bO w b:=by
 by_cases e:b=K
 ·subst e;simp only[bO,hk,gw (zpa.1 hk).1]
 ·simp only[bO,eh e]
def wl{K:Nat}{a:Option (List Deferred)}{x:Option (List Deferred)}(hk:w.heap[K]?=some (.deferred a))(b o:Nat):(setBlock w K (.deferred x)).cell? ⟨b,o,none⟩=w.cell? ⟨b,o,none⟩:=by
 by_cases e:b=K
 ·subst e;simp only[World.cell?,hk,gw (zpa.1 hk).1]
 ·simp only[World.cell?,eh e]
def Rp.shut(h:Rp w0 S γ β s a w){K:Nat}{u:Option (List Deferred)}(hk:w.heap[K]?=some (.deferred u))(z:¬ w0.Old K)(x:Option (List Deferred)):Rp w0 S γ β s a (setBlock w K (.deferred x)):=by
 have hle:Cx.le ⟨w,S,γ,β,s.ob,s.dead⟩ ⟨setBlock w K (.deferred x),S,γ,β,s.ob,s.dead⟩:=
  ⟨λb o _=>wl hk b o,λ_ _ g=>g,λ_ _ g=>g,λi y q _=>⟨y,q,λp=>⟨rfl,rfl⟩,λt l e=>⟨l,e,rfl⟩,λ_ _ l e=>⟨l,e⟩⟩,λv m=>⟨m,λc e he=>⟨he,λn hn=>by have j:kW w c=some n:=hn;show kW (setBlock w K (.deferred x)) c=some n;simp only[kW,shut_row hk] at j ⊢;exact j⟩⟩⟩
 refine⟨nu h.ext rfl rfl rfl (by rw[dQ];exact zka _) (zka _) (λc d=>eh λe=>z (e ▸ d)),λt B=>(h.tms t B).mono hle,h.nt,h.tmu,λi y c q d=>?_,λi c d=>by rw[dQ];exact h.γn i c d,h.γi,h.γf,
  λv c e m he=>by rw[dQ];exact h.βn v c e m he,h.βi,h.βγ,h.βf,λc o g=>by rw[dQ];exact h.Sb c o g,h.So⟩
 have hO:=h.obs i y c q d;refine hO.mono hle (eh λe=>?_) λ_ A=>A;subst e;cases y<;>simp only[fN] at hO
 case one=>obtain⟨_,_,_,cs,k,_⟩:=hO;simp[bO,hk] at k
 case many=>obtain⟨_,_,_,cs,C,k,_⟩:=hO;simp[bO,hk] at k
 case mp=>obtain⟨_,_,_,es,k,_⟩:=hO;rw[hk] at k;cases k
 case lp=>obtain⟨r,k,_⟩:=hO;rw[hk] at k;cases k
 case fv=>obtain⟨_,x,k,_⟩:=hO;simp[bO,hk] at k
theorem cB.set{lo:Nat}:∀ {l:List Deferred} {a K:Nat} {x:Option (List Deferred)},a<=K->cB lo w a l->cB lo (setBlock w K (.deferred x)) a l
 | [],_,_,_,_,_=>trivial
 | d::l,a,K,x,g,⟨J,h1,b,c,e,f⟩=>⟨J,h1,b,c,by rw[eh j1];exact e,cB.set j1 f⟩
theorem vI{fn:Func}{tmps:Array Value}{Rn:Ending->World->Prop}{J:World->Prop}{lo:Nat}(b:∀ w K,J w->lo<=K->w.heap[K]?=some (.deferred (some []))->J (setBlock w K (.deferred none)))
  (c:∀ w,J w->∃ v,(Go.results fn tmps).run P w=.ok v w/\Rn (.returned v) w):∀ (m:List Deferred) (e:Nat) (w:World),cB lo w e m->J w->LeavesInM (FW none) 0 P fn tmps Rn m .returning w
 | [],_,w,_,hw=>c w hw
 | d::m,e,w,⟨K,h1,f,_,a,g⟩,hw=>by refine⟨s6,.inl ⟨K,_,by rw[h1],run_takeDeferred a,vI b c m K _ (cB.set (zka _) g) (b w K hw f a)⟩⟩
def gK(C:EnvOk P E){f:FuncId}{fn:Func}{c:Code}(G:P.funcs[f]?=some fn)(d:fn.body=some c){args:Array Value}{ann:Ann}{R:Type}{k:Ex->St->Option R}{r:R}{Rn:Ending->World->Prop}
  (z:a={ tmps:=args++Array.replicate (fn.ntmps-args.size) undef,defers:=[] }) (h:Rp w0 S γ β s a w) (t:HV E c ann R s k=some r) (hk:∀ i s',k (.exit i) s'≠some r)
  (fin:∀ e s' S' γ' β' a' w',Rp w0 S' γ' β' s' a' w'->Fm s S γ a w S' γ' a' w'->Sk s s'->k e s'=some r->∃ v,(Go.results fn a'.tmps).run P w'=.ok v w'/\Rn (.returned v) w'):Calls P f args w Rn:=by
 refine callsIn_wide.1 (callsIn_of_wp_marks (F:=FW none) (n:=0) G d trivial ?_);rw[<-z];refine CF C c ann R k r (λ_ h=>by cases h) h t λe s' S' γ' β' a' w' N j O A=>?_
 have D:a.defers=[]:=by rw[z]
 have key:LeavesInM (FW none) 0 P fn a'.tmps Rn a'.defers .returning w':=by
  obtain⟨q1,m,B,Q,_⟩:=j.dfs;rw[D,zZc] at B;rw[B];refine vI (J:=λp=>Rp w0 S' γ' β' s' { a' with defers:=a.defers } p/\Fm s S γ a w S' γ' { a' with defers:=a.defers } p) (lo:=w.heap.size) (λp K ⟨u,g⟩ I y=>?_) (λp ⟨u,g⟩=>fin e s' S' γ' β' _ p u g O A) m _ w' Q ⟨N.act rfl,⟨j.sub,j.cell,j.slots,j.objs,j.sz,j.gam,j6.same rfl q1⟩⟩;have hold:¬ w0.Old K:=λM=>by have:=M.1;have:=h.ext.sz;omega
  refine⟨u.shut y hold none,g.sub,λb o q=>(wl y b o).trans (g.cell b o q),g.slots,λi H b d=>?_,by rw[dQ];exact g.sz,g.gam,j6.same rfl λb=>?_⟩
  ·obtain⟨x,z2⟩:=g.objs i H b d;have L:=(h.γn i b d).2;exact⟨x,z2.trans (.inl (eh j1))⟩
  ·obtain⟨x,z2⟩:=g.dfs.1 b;have l:b<w.heap.size->b≠K:=λ_=>j1
   refine⟨λd=>?_,λ⟨r,d⟩=>?_⟩
   ·rw[eh (l (zpa.1 d).1)];exact x d
   ·rw[eh (l (zpa.1 d).1)];exact z2 ⟨r,d⟩
 cases e with
 | normal=>exact key
 | ret=>exact key
 | exit i=>exact z3a A (hk i s')
def DP(G:EnvOk P E){f:FuncId}{fn:Func}{ann:Ann}{a:List Ty}{j:Ty}{xs:List D}{y:D}(m:P.funcs[f]?=some fn)(M:a.length<=fn.ntmps)(hn:aO a=true)(L:fd fn.results.size j=true)
  (h:YQ E fn ann a j xs=some y):HZ P a j f xs y:=by
 intro w S vs I q hlen A;unfold YQ at h;split at h<;>first|(cases h;done)|skip
 rename_i c g;have Q:xs.length=a.length:=gA q;have p:(vs.toArray++Array.replicate (fn.ntmps-vs.toArray.size) undef).size=fn.ntmps:=by simp;omega
 refine gK (w0:=⟨w,S,λ_=>False⟩) (S:=S) (γ:=λ_=>none) (β:=λ_=>none) G m g rfl ?_ h (λ_ _ J=>by cases J) λe s' S' γ' β' a' w' s X Y C=>?_
 ·refine⟨⟨rfl,rfl,rfl,zka _,zka _,λ_ _=>rfl⟩,λt H=>?_,p,λt H=>?_,λid o b K=>(by cases K),λid b g=>(by cases g),λid R b g=>(by cases g),λ_ _=>rfl,λv b e _ g=>(by cases g),λv v' b e W _ _ g=>(by cases g),λv id b e _ g=>(by cases g),λ_ _=>rfl,I,λb o g _=>g⟩
  ·simp only[fX];split
   ·rename_i ty x F u;have n:=(zna.1 u).1;have k:t<vs.length:=j1
    have O:(vs.toArray++Array.replicate (fn.ntmps-vs.toArray.size) undef).getD t undef=vs[t]:=by simp[Array.getD,zuc,k];omega
    show AR _ _ ((vs.toArray++Array.replicate (fn.ntmps-vs.toArray.size) undef).getD t undef);rw[O];obtain⟨Z,r,B⟩:=fg q F;rw[u] at r;cases r;exact c6 (bJ hn F) B (A t x _ u (zea k))
   ·simp only[AR]
  ·have N:fn.ntmps<=t:=H;simp only[fX];rw[zBa j1]
 ·have l:results E s' j fn.results.toList=some y->(∃ v,(Go.results fn a'.tmps).run P w'=.ok v w'/\∃ v',Ending.returned v=.returned v'/\(∃ os d,w.drawn<=d/\w'=grown w os d)/\wt j y/\DR w' (λb o=>S b o\/(w.heap.size<=b/\b<w'.heap.size)) y v'):=λhq=>by
   obtain⟨v,T,U,V⟩:=iP G s L hq;refine⟨v,T,v,rfl,eO s.ext (λ_ m=>m),U,V.mono (λ_ _ _=>rfl) λb o g=>?_⟩;rcases zta b w.heap.size with n|z
   ·exact .inl (s.So b o g ⟨n,λm=>m⟩)
   ·exact .inr ⟨z,s.Sb b o g⟩
  cases e with
  | normal=>exact l C
  | ret=>exact l C
  | exit i=>cases C
def zl(a:List Ty)(k:Nat)(args:List D)(i:Nat):AV:=
 if i+k<a.length then fX a args i else match a[i]? with
  | some t=>.ptr t (i+k-a.length) []
  | none=>.undef
def Ox(a:List Ty)(k:Nat)(args:List D)(j:Nat):Option Ob:=
 if j<k then match a[a.length-k+j]?,args[a.length-k+j]? with
  | some t,some x=>some (.one t (.d t x))
  | _,_=>none
 else none
def kH:Option Ob->Bool
 | some (.one _ _)=>true
 | _=>false
def Ni(E:Env)(fn:Func)(ann:Ann)(a:List Ty)(k:Nat)(b:Ty)(args:List D):Option D:=
 match fn.body with
 | none=>none
 | some c=>HV E c ann D { tm:=zl a k args,ob:=Ox a k args,fresh:=0,dead:=[],nt:=fn.ntmps,lkS:=[],lkO:=List.range k } λe s=>match e with
  | .exit _=>none
  | _=>if(List.range k).all (λj=>kH (s.ob j)) then results E s b fn.results.toList else none
def AT(hE:EnvOk P E){f:FuncId}{fn:Func}{ann:Ann}{a:List Ty}{k:Nat}{A:Ty}{xs:List D}{y:D}(W:P.funcs[f]?=some fn)(a2:a.length<=fn.ntmps)(hn:aO a=true)(hk:k<=a.length)(a0:k<=4095)(hr:fd fn.results.size A=true)
  (h:Ni E fn ann a k A xs=some y):OE P a A f xs y k:=by
 intro w S vs p hS J U hlen Y al V;unfold Ni at h;split at h<;>first|(cases h;done)|skip
 rename_i c g;have a3:xs.length=a.length:=gA J;have ad:vs.length=a.length-k:=j1
 obtain⟨l,hl⟩:∃ l,l=vs++p.map En:=⟨_,rfl⟩;have a1:l.length=a.length:=by rw[hl];simp;omega
 rw[<-hl];have N:(l.toArray++Array.replicate (fn.ntmps-l.toArray.size) undef).size=fn.ntmps:=by simp;omega
 have G:∀ t,t<l.length->(l.toArray++Array.replicate (fn.ntmps-l.toArray.size) undef).getD t undef=l.getD t undef:=λt R=>by simp[Array.getD,zuc,R];omega
 have cap:∀ j b,p[j]?=some b->j<k/\∃ t x,a[a.length-k+j]?=some t/\xs[a.length-k+j]?=some x/\wt t x/\MF w S x b:=λj b C=>by
  have n:j<k:=by rw[<-U];exact(zna.1 C).1
  have h1:a.length-k+j<a.length:=j1
  obtain⟨x,hx,hw⟩:=fg J (zea h1);exact⟨n,_,x,zea h1,hx,hw,V j x b (by rw[ad];exact hx) C⟩
 have K:∀ j b,p[j]?=some b->b<w.heap.size:=λj b C=>by
  obtain⟨_,t,x,_,_,_,_,cs,q,_⟩:=cap j b C;simp only[bO] at q;split at q<;>first|(cases q;done)|skip
  rename_i X;exact(zpa.1 X).1
 have key:∀ t,AR ⟨w,S,λid=>p[id]?,λ_=>none,Ox a k xs,[]⟩ (zl a k xs t) ((l.toArray++Array.replicate (fn.ntmps-l.toArray.size) undef).getD t undef):=λt=>by
  simp only[zl];split
  ·rename_i I;rw[G t j1]
   simp only[fX];split
   ·rename_i ty x L e2;have z:t<vs.length:=j1
    have Z:l.getD t undef=vs[t]:=by rw[hl,zsa,zeb z,zea z];rfl
    rw[Z];obtain⟨x',Q,an⟩:=fg J L;rw[e2] at Q;cases Q;exact c6 (bJ hn L) an (al t x _ e2 (zea z))
   ·simp only[AR]
  ·rename_i M;split
   ·rename_i ty L;have I:=(zna.1 L).1;obtain⟨j,C⟩:∃ j,j=t+k-a.length:=⟨_,rfl⟩;have n:j<p.length:=j1
    have O:t=a.length-k+j:=j1
    rw[G t j1,<-C]
    have Z:l.getD t undef=En p[j]:=by rw[hl,zsa,zOb j1,show t-vs.length=j by omega,zgb,zea n];rfl
    rw[Z];refine fB (zea n) λo F=>?_;have m:Ox a k xs j=some o:=F;unfold Ox at m;split at m<;>first|(cases m;done)|skip
    split at m<;>first|(cases m;done)|skip
    rename_i u x q1 q2;cases m;rw[<-O,L] at q1;cases q1;exact⟨rfl,rfl⟩
   ·simp only[AR]
 refine gK (w0:=⟨w,S,λb=>b∈p⟩) (S:=S) (γ:=λid=>p[id]?) (β:=λ_=>none) hE W g rfl ?_ h (λ_ _ X=>by cases X) λe s' S' γ' β' a' w' B n2 n3 n4=>?_
 ·refine⟨⟨rfl,rfl,rfl,zka _,zka _,λ_ _=>rfl⟩,λt R=>?_,N,λt R=>?_,λid o b F g=>?_,λid b g=>⟨λF=>F.2 (zbb g),K id b g⟩,λid ax b g T=>Y id ax b g T,λid hid=>zBa ?_,λv b e _ g=>(by cases g),λv v' b e e' _ _ g=>(by cases g),λv id b e _ g=>(by cases g),λ_ _=>rfl,hS,λb o g _=>g⟩
  ·exact key t
  ·have O:fn.ntmps<=t:=R;show zl a k xs t=.undef;unfold zl;rw[zga j1,zBa j1]
  ·have m:Ox a k xs id=some o:=F;obtain⟨n,t,x,q1,q2,q3,q4,cs,q5,q6⟩:=cap id b g;unfold Ox at m;rw[zja n,q1,q2] at m;cases m;have q0:=bJ hn q1;simp only[fN,AV.fits,AC];exact⟨q0,aeJ t,q4,cs,q5,⟨q3,q0,q6⟩,by rw[<-q6.1];exact ct _ _ q3 q0⟩
  ·have aI:0*4096+4096<=id:=hid;omega
 ·have stay:∀ b∈p,w'.heap[b]?=w.heap[b]?/\((List.range k).all (λj=>kH (s'.ob j))=true->∀ o,¬ S' b o):=λb g=>by
   obtain⟨j,C⟩:=List.getElem?_of_mem g;obtain⟨n,t,x,q1,q2,q3,q4,cs,q5,q6⟩:=cap j b C;obtain⟨z1,z2⟩:=n2.objs j (zHa.2 n) b C;refine⟨z2.row q5,λs=>?_⟩;have:=zya.1 s j (zHa.2 n);cases F:s'.ob j with
   | none=>rw[F] at this;cases this
   | some o=>
    rw[F] at this;have hO:=B.obs j o b F z1;cases o<;>simp only[kH] at this<;>first|(cases this;done)|skip
    simp only[fN] at hO;exact hO.2.2.1
  have H:(if(List.range k).all (λj=>kH (s'.ob j)) then results E s' A fn.results.toList else none)=some y->(∃ v,(Go.results fn a'.tmps).run P w'=.ok v w'/\∃ v',Ending.returned v=.returned v'/\(∃ os d,w.drawn<=d/\w'=grown w os d)/\wt A y/\DR w' (λb o=>S b o\/(w.heap.size<=b/\b<w'.heap.size)) y v'):=λhq=>by
   split at hq<;>first|(cases hq;done)|skip
   rename_i s;obtain⟨v,k1,k2,k3⟩:=iP hE B hr hq;refine⟨v,k1,v,rfl,eO (r:=⟨w,S,λ_=>False⟩) ⟨B.ext.tape,B.ext.os,B.ext.output,B.ext.sz,B.ext.dr,λb g=>?_⟩ (λ_ W=>W),k2,k3.mono (λ_ _ _=>rfl) λb o g=>?_⟩
   ·by_cases hm:b∈p
    ·exact(stay b hm).1
    ·exact B.ext.old b ⟨g.1,hm⟩
   ·rcases zta b w.heap.size with I|M
    ·by_cases hm:b∈p
     ·exact z3a g ((stay b hm).2 s o)
     ·exact .inl (B.So b o g ⟨I,hm⟩)
    ·exact .inr ⟨M,B.Sb b o g⟩
  cases e with
  | normal=>exact H n4
  | ret=>exact H n4
  | exit i=>cases n4
end
end Sy
end
end Go.Proofs.YtmnkibhalflchaaGreat
