/- Part 6 of the proof that PlaneIsSymmetric answers true at every input -/
import Derived.Test.YtphlmegkommlnaaGreatDoorSymm01
import Derived.Test.YtphlmegkommlnaaGreatDoorSymm02
import Derived.Test.YtphlmegkommlnaaGreatDoorSymm05
import Derived.Scope
import Derived.RangeFuncLeaves
import Derived.Shelf.SlSortCmp.InsertionK
import Derived.ProofKit
import Derived.Carry
import Derived.Test.YtphlmegkommlnaaGreatDoorProg
import Derived.KernelRfl
set_option linter.unusedVariables false
set_option linter.unusedSimpArgs false
set_option linter.unnecessarySimpa false
set_option linter.defProp false
set_option maxRecDepth 20000
namespace Go.Proofs.YtphlmegkommlnaaGreatDoor
noncomputable section
namespace Sy
open Go
variable{ro:Option Nat}{nn:Nat}
section
variable{P:Program}{E:Env}{w0:Root}
def uS{id:Nat}{ops:Array Oper}{dr:Bool}{ann:Ann}{R:Type}{s s1:St}(hs1:s1={ fN s ann.fz with fresh:=s.fresh+1 }){k:Ex->St->Option R}{r:R}(h:ev E (.region id ops dr) ann R s k=some r) :
  bL ops.toList=true/\(((!dr||pi E ops (ann.heads ops.size))=true/\dS E (ops.size+1) R ops ann.inner (aJ 0 ops.toList) (gM E ops.toList s1) (λs'=>k .normal s')=some r) ∨
   (dr=true/\sQ ops (ann.heads ops.size)=true/\Le E ops (ann.heads ops.size) (ke ops (ann.heads ops.size) (gM E ops.toList s1)) (ann.heads ops.size) 0 (gM E ops.toList s1) (λs2=>if sO ops (ann.heads ops.size) s2=some (ke ops (ann.heads ops.size) (gM E ops.toList s1)) then dS E (ops.size+1) R ops ann.inner ((aJ 0 ops.toList).drop (ann.heads ops.size)) s2 (λs'=>k .normal s') else none)=some r) ∨
   (dr=true/\xO E ops (ann.heads ops.size) (nJ ops)=true/\Kc E ops (nJ ops) (ann.heads ops.size) 0 (gM E ops.toList s1) (λs2=>dS E (ops.size+1) R ops ann.inner ((aJ 0 ops.toList).drop (ann.heads ops.size)) { s2 with dead:=lg s2 (CF ops (nJ ops)) } (λs'=>k .normal s'))=some r) ∨
   (dr=true/\gC E ops=true/\dS E (ops.size+1) R ops ann.inner (aJ 0 ops.toList) (gM E ops.toList s1) (λs'=>k .normal s')=some r)):=by
 have key:(if bL ops.toList&&(!dr||pi E ops (ann.heads ops.size)) then dS E (ops.size+1) R ops ann.inner (aJ 0 ops.toList) (gM E ops.toList s1) (λs'=>k .normal s')
  else if bL ops.toList&&sQ ops (ann.heads ops.size) then Le E ops (ann.heads ops.size) (ke ops (ann.heads ops.size) (gM E ops.toList s1)) (ann.heads ops.size) 0 (gM E ops.toList s1) (λs2=>if sO ops (ann.heads ops.size) s2=some (ke ops (ann.heads ops.size) (gM E ops.toList s1)) then dS E (ops.size+1) R ops ann.inner ((aJ 0 ops.toList).drop (ann.heads ops.size)) s2 (λs'=>k .normal s') else none)
  else if bL ops.toList&&(dr&&xO E ops (ann.heads ops.size) (nJ ops)) then Kc E ops (nJ ops) (ann.heads ops.size) 0 (gM E ops.toList s1) (λs2=>dS E (ops.size+1) R ops ann.inner ((aJ 0 ops.toList).drop (ann.heads ops.size)) { s2 with dead:=lg s2 (CF ops (nJ ops)) } (λs'=>k .normal s'))
  else if bL ops.toList&&(dr&&gC E ops) then dS E (ops.size+1) R ops ann.inner (aJ 0 ops.toList) (gM E ops.toList s1) (λs'=>k .normal s')
  else none)=some r:=by
  subst hs1;cases ann<;>exact h
 split at key
 ·rename_i hc;simp only[zaa] at hc;exact⟨hc.1,.inl ⟨hc.2,key⟩⟩
 ·rename_i hn;split at key
  ·rename_i hc;simp only[zaa] at hc;refine⟨hc.1,.inr (.inl ⟨?_,hc.2,key⟩)⟩;cases dr
   ·exfalso;exact hn (by simp[hc.1])
   ·rfl
  ·split at key
   ·rename_i hc;simp only[zaa] at hc;exact⟨hc.1,.inr (.inr (.inl ⟨hc.2.1,hc.2.2,key⟩))⟩
   ·split at key<;>first|(cases key;done)|skip
    rename_i hc;simp only[zaa] at hc;exact⟨hc.1,.inr (.inr (.inr ⟨hc.2.1,hc.2.2,key⟩))⟩
def DA(hE:EnvOk P E){Q:Exit->Act->World->Prop}{id:Nat}{ops:Array Oper}{dr:Bool}{ann:Ann}{R:Type}{S:Nat->Nat->Prop}{γ:Nat->Option Nat}{β:Nat->Option (Nat×Nat)}{s:St}{a:Act}{w:World}{k:Ex->St->Option R}{r:R}
  (h:Rp w0 S γ β s a w) (hev:ev E (.region id ops dr) ann R s k=some r) (hQ:Kp Q w0 s S γ a w k r):(Code.region id ops dr).wpIn (FW ro) nn P Q a w:=by
 obtain⟨S1,f1,f2,f3⟩:=pn ann.fz h;obtain⟨s1,hs1⟩:∃ s1,s1={ fN s ann.fz with fresh:=s.fresh+1 }:=⟨_,rfl⟩;obtain⟨h1,h23⟩:=uS hs1 hev;have hb1:s1.base=s.base+4096:=by rw[hs1];simp only[St.base];omega
 have hfb:(fN s ann.fz).base=s.base:=f3.base_eq;have r1:Rp w0 S1 γ β s1 a w:=by
  rw[hs1];have q1:∀ id,({ fN s ann.fz with fresh:=s.fresh+1 }:St).base+4096<=id->s.base+4096<=id:=λid hid=>by
   grind
  exact⟨f1.ext,f1.tms,f1.nt,f1.tmu,f1.obs,f1.γn,f1.γi,λid hid=>h.γf id (q1 id hid),f1.βn,f1.βi,f1.βγ,λv hv=>h.βf v (q1 v hv),f1.Sb,f1.So⟩
 have hle1:∀ d,s.base+4096<=s1.base+d:=λd=>by omega
 have hg:∀ d,γ (s1.base+d)=none:=λd=>h.γf (s1.base+d) (hle1 d);have hgb:∀ d,β (s1.base+d)=none:=λd=>h.βf (s1.base+d) (hle1 d);obtain⟨r2,m2⟩:=Ch (E:=E) ops.toList r1 hg;have hmk:=h1;simp only[bL,zaa,zka] at hmk;obtain⟨⟨hm1,hm2⟩,_⟩:=hmk;have hfr:CD E (gM E ops.toList s1) γ β ops.toList:=by
  intro o ho hc d hd;rw[m2.base_eq];have hd4:=hm2 o ho;rw[hd] at hd4;simp only[decide_eq_true_eq] at hd4;exact⟨hd4,hg d,hgb d,λT t e1 e2=>xc ops.toList hm1 ho e1 hd e2⟩
 have hsk:Sk s (gM E ops.toList s1):=by
  refine⟨m2.lkS.trans ?_,m2.lkO.trans ?_,m2.nt.trans ?_⟩<;>rw[hs1]
  ·exact f3.lkS
  ·exact f3.lkO
  ·exact f3.nt
 rcases h23 with⟨h2,h3⟩|⟨hdr,h2,h3⟩|⟨hdr,h2,h3⟩|⟨hdr,h2,h3⟩
 rotate_right
 ·subst hdr;exact tu hE r2 hfr h1 h2 h3 λs' S' γ' β' a' w' n1 n2 n3 n4=>hQ .normal s' S' γ' β' a' w' n1 (f2.tr n2 hsk) (hsk.trans n3) n4
 rotate_right
 ·subst hdr;exact ut hE r2 hfr h1 h2 h3 λs' S' γ' β' a' w' n1 n2 n3 n4=>hQ .normal s' S' γ' β' a' w' n1 (f2.tr n2 hsk) (hsk.trans n3) n4
 rotate_left
 ·subst hdr;exact tt hE r2 hfr h1 h2 h3 λs' S' γ' β' a' w' n1 n2 n3 n4=>hQ .normal s' S' γ' β' a' w' n1 (f2.tr n2 hsk) (hsk.trans n3) n4
 refine DB hE r2 hfr h1 h2 h3 λs' S' γ' β' a' w' n1 n2 n3 n4=>?_;exact hQ .normal s' S' γ' β' a' w' n1 (f2.tr n2 hsk) (hsk.trans n3) n4
def GE{S:Nat->Nat->Prop}{γ:Nat->Option Nat}{β:Nat->Option (Nat×Nat)}{s:St}{a:Act}{w:World}(h:Rp w0 S γ β s a w){c:Operand}{t:Bool}(ht:(s.opA c).truth=some t):a.eval c=.bool t:=
 (ny ht (aN h c)).1
def T9{S S':Nat->Nat->Prop}{γ γ':Nat->Option Nat}{s:St}{a a':Act}{w w':World}(hro:∀ l,ro=some l->∃ r0,w.heap[l]?=some (Obj.loop r0))(F:Fm s S γ a w S' γ' a' w'):∀ l,ro=some l->∃ r0,w'.heap[l]?=some (Obj.loop r0):=λl hl=>(F.dfs.1 l).2 (hro l hl)
def sY(E:Env)(c:Code)(h:Shape)(exits:List (Ex×Shape))(a:Ann)(s:St)(v:List D):Option (Sum (List D) (Nat×List D)):=
 ev E c a (Sum (List D) (Nat×List D)) (h.mk' s v (h.keepS++s.lkS) (bU h.objs++s.lkO)) λe s'=>match e with
    | .normal=>(h.dec s s').bind λv'=>some (.inl v')
    | e=>(A7 s exits e s').bind λr=>some (.inr r)
theorem gA(hE:EnvOk P E):∀ (c:Code) (ann:Ann) (R:Type) {Q:Exit->Act->World->Prop} {S:Nat->Nat->Prop} {γ:Nat->Option Nat} {β:Nat->Option (Nat×Nat)} {s:St} {a:Act} {w:World} (k:Ex->St->Option R) (r:R),
  (∀ l,ro=some l->∃ r0,w.heap[l]?=some (Obj.loop r0))->Rp w0 S γ β s a w->ev E c ann R s k=some r->Kp Q w0 s S γ a w k r->c.wpIn (FW ro) nn P Q a w
 | .skip,ann,R,Q,S,γ,β,s,a,w,k,r,hro,h,hev,hQ=>by
  simp only[ev] at hev;exact wpIn_skip (hQ .normal s S γ β a w h (Fm.refl _ _ _ _ _) (Sk.refl s) hev)
 | .label l,ann,R,Q,S,γ,β,s,a,w,k,r,hro,h,hev,hQ=>by
  simp only[ev] at hev;exact wpIn_label (hQ .normal s S γ β a w h (Fm.refl _ _ _ _ _) (Sk.refl s) hev)
 | .exit id,ann,R,Q,S,γ,β,s,a,w,k,r,hro,h,hev,hQ=>by
  simp only[ev] at hev;exact wpIn_exit (hQ (.exit id) s S γ β a w h (Fm.refl _ _ _ _ _) (Sk.refl s) hev)
 | .ret,ann,R,Q,S,γ,β,s,a,w,k,r,hro,h,hev,hQ=>by
  simp only[ev] at hev;exact wpIn_ret (hQ .ret s S γ β a w h (Fm.refl _ _ _ _ _) (Sk.refl s) hev)
 | .region id ops dr,ann,R,Q,S,γ,β,s,a,w,k,r,hro,h,hev,hQ=>DA hE h hev hQ
 | .cond c x y,ann,R,Q,S,γ,β,s,a,w,k,r,hro,h,hev,hQ=>by
  simp only[ev] at hev;obtain⟨t,ht,hev⟩:=bind_some_inv hev;refine wpIn_cond (GE h ht) ?_;cases t
  ·exact gA hE y _ R k r hro h (by simpa using hev) hQ
  ·exact gA hE x _ R k r hro h (by simpa using hev) hQ
 | .block id c,ann,R,Q,S,γ,β,s,a,w,k,r,hro,h,hev,hQ=>by
  simp only[ev] at hev;refine wpIn_block (gA hE c _ R _ r hro h hev λe s' S' γ' β' a' w' n1 n2 n3 n4=>?_);cases e with
  | normal=>exact hQ .normal s' S' γ' β' a' w' n1 n2 n3 n4
  | ret=>exact hQ .ret s' S' γ' β' a' w' n1 n2 n3 n4
  | exit j=>
   simp only[Fa,Exit.inBlock];simp only at n4;split at n4
   ·rename_i hj;rw[if_pos hj];exact hQ .normal s' S' γ' β' a' w' n1 n2 n3 n4
   ·rename_i hj;rw[if_neg hj];exact hQ (.exit j) s' S' γ' β' a' w' n1 n2 n3 n4
 | .seq c d,ann,R,Q,S,γ,β,s,a,w,k,r,hro,h,hev,hQ=>by
  have plain:(ev E c ann.fst R s λe s'=>match e with|.normal=>ev E d ann.snd R s' k|e=>k e s')=some r->(Code.seq c d).wpIn (FW ro) nn P Q a w:=λhev=>by
   refine wpIn_seq (gA hE c _ R _ r hro h hev λe s' S' γ' β' a' w' n1 n2 n3 n4=>?_);cases e with
   | normal=>
    exact gA hE d _ R k r (T9 hro n2) n1 n4 λe2 s2 S2 γ2 β2 a2 w2 m1 m2 m3 m4=>hQ e2 s2 S2 γ2 β2 a2 w2 m1 (n2.tr m2 n3) (n3.trans m3) m4
   | ret=>exact hQ .ret s' S' γ' β' a' w' n1 n2 n3 n4
   | exit j=>exact hQ (.exit j) s' S' γ' β' a' w' n1 n2 n3 n4
  cases ann with
  | leaf=>simp only[ev] at hev;exact plain hev
  | reg fz n=>simp only[ev] at hev;exact plain hev
  | regI fz n x=>simp only[ev] at hev;exact plain hev
  | two x y=>simp only[ev] at hev;exact plain hev
  | loop x y z=>simp only[ev] at hev;exact plain hev
  | all x y z u=>simp only[ev] at hev;exact plain hev
  | cut exits kS kO x y=>
   clear plain;simp only[ev] at hev;obtain⟨⟨j,v⟩,h1,h2⟩:=bind_some_inv hev;refine wpIn_seq (gA hE c x _ _ (j,v) hro (h.lk (kS++s.lkS) (kO++s.lkO)) h1 λe s' S' γ' β' a' w' n1 n2 n3 n4=>?_);obtain⟨sh,q1,q2⟩:=pV n4;simp only at q1 q2;obtain⟨c1,c2,c3⟩:=iU (zma j) (by simpa using q1) h2
   obtain⟨γ'',β'',p1,p2⟩:=lE h n1 n2.sub n2.cell n3.nt (h:=sh) (λt ht=>n2.slots t (List.mem_append_left _ (fd c2 t ht))) n2.gam (λid hid=>n2.objs id (List.mem_append_left _ (fd c3 id hid))) q2 s.lkS s.lkO;have F:Fm s S γ a w S' γ'' a' w':=(n2.less (s2:=s) (λt ht=>zQa _ ht) (λt ht=>zQa _ ht)).shape h p2;cases e with
   | normal=>
    exact gA hE d y R k r (T9 hro F) p1 c1 λe2 s2 S2 γ2 β2 a2 w2 m1 m2 m3 m4=>hQ e2 s2 S2 γ2 β2 a2 w2 m1 (F.tr m2 ⟨rfl,rfl,rfl⟩) (Sk.trans (b:=sh.mk' s v s.lkS s.lkO) ⟨rfl,rfl,rfl⟩ m3) m4
   | ret=>exact hQ .ret _ S' γ'' β'' a' w' p1 F ⟨rfl,rfl,rfl⟩ c1
   | exit i=>exact hQ (.exit i) _ S' γ'' β'' a' w' p1 F ⟨rfl,rfl,rfl⟩ c1
 | .loop c,ann,R,Q,S,γ,β,s,a,w,k,r,hro,h,hev,hQ=>by
  cases ann with
  | loop sh exits x=>
   have hev':(sh.dec s s).bind (λv0=>(E.lp (sY E c sh exits x s) v0).bind λr=>kU s k sh.keepS (bU sh.objs) exits 0 r)=some r:=hev;obtain⟨v0,h1,hev'⟩:=bind_some_inv hev';obtain⟨⟨j,vj⟩,h2,h3⟩:=bind_some_inv hev';obtain⟨n,hn⟩:=hE.lp _ _ _ _ _ h2;obtain⟨sL,hsL⟩:∃ sL:St,sL={ s with lkS:=sh.keepS++s.lkS,lkO:=bU sh.objs++s.lkO }:=⟨_,rfl⟩;obtain⟨γ0,β0,p1,p2⟩:=lE h h (λ_ _ hb=>hb) (λ_ _ _=>rfl) rfl (h:=sh) (λ_ _=>rfl) (λ_ _ hb=>hb) (λ_ _ _ hb=>⟨hb,iN.refl _ _⟩) h1 (sh.keepS++s.lkS) (bU sh.objs++s.lkO);have F0:Fm sL S γ a w S γ0 a w:=(Fm.refl sL S γ a w).shape h p2;refine wd (λn a1 w1=>∃ v S1 γ1 β1,Rp w0 S1 γ1 β1 (sh.mk' s v (sh.keepS++s.lkS) (bU sh.objs++s.lkO)) a1 w1/\Fm sL S γ a w S1 γ1 a1 w1/\od (sY E c sh exits x s) n v=some (j,vj)) (m:=n) ⟨v0,S,γ0,β0,p1,F0,hn⟩ ?_;rintro n a1 w1 ⟨v,S1,γ1,β1,g1,g2,g3⟩;cases n with
   | zero=>simp[pD] at g3
   | succ m=>
    simp only[jC] at g3;cases hb:sY E c sh exits x s v with
    | none=>rw[hb] at g3;cases g3
    | some res=>
     rw[hb] at g3;refine gA hE c x _ _ res (T9 hro g2) g1 hb λe s' S' γ' β' a' w' n1 n2 n3 n4=>?_;have F:Fm sL S γ a w S' γ' a' w':=g2.tr n2 (by rw[hsL];exact⟨rfl,rfl,rfl⟩)
     have hnt:s'.nt=s.nt:=n3.nt;have sl:∀ t∈sh.keepS,a'.tmps.getD t undef=a.tmps.getD t undef:=λt ht=>F.slots t (by rw[hsL];exact List.mem_append_left _ ht)
     have ob:∀ id∈bU sh.objs,∀ b,γ id=some b->γ' id=some b/\iN w w' b:=λid hid=>F.objs id (by rw[hsL];exact List.mem_append_left _ hid)
     have fin:∀ e,A7 s exits e s'=some (j,vj)->Q (Fa e) a' w':=λe he=>by
      obtain⟨sh2,q1,q2⟩:=pV he;simp only at q1 q2;obtain⟨c1,c2,c3⟩:=iU (zma j) (by simpa using q1) h3
      obtain⟨γ'',β'',o1,o2⟩:=lE h n1 F.sub F.cell hnt (h:=sh2) (λt ht=>sl t (fd c2 t ht)) F.gam (λid hid=>ob id (fd c3 id hid)) q2 s.lkS s.lkO;exact hQ e _ S' γ'' β'' a' w' o1 ((F.less (s2:=s) (λt ht=>by rw[hsL];exact zQa _ ht) (λt ht=>by rw[hsL];exact zQa _ ht)).shape h o2) ⟨rfl,rfl,rfl⟩ c1
     cases e with
     | normal=>
      simp only at n4;obtain⟨v',q1,q2⟩:=bind_some_inv n4;simp only[zca] at q2;subst q2;obtain⟨γ'',β'',o1,o2⟩:=lE h n1 F.sub F.cell hnt (h:=sh) sl F.gam ob q1 (sh.keepS++s.lkS) (bU sh.objs++s.lkO);exact⟨m,zod m,v',S',γ'',β'',o1,F.shape h o2,g3⟩
     | ret=>
      simp only at n4;obtain⟨v',q1,q2⟩:=bind_some_inv n4;simp only[zca] at q2;subst q2;simp only[zca] at g3;subst g3;exact fin .ret q1
     | exit i=>
      simp only at n4;obtain⟨v',q1,q2⟩:=bind_some_inv n4;simp only[zca] at q2;subst q2;simp only[zca] at g3;subst g3;exact fin (.exit i) q1
  | leaf=>simp[ev] at hev
  | reg fz n=>simp[ev] at hev
  | regI fz n x=>simp[ev] at hev
  | two x y=>simp[ev] at hev
  | cut exits kS kO x y=>simp[ev] at hev
  | all exits kS kO x=>simp[ev] at hev
 | .goto l,ann,R,Q,S,γ,β,s,a,w,k,r,hro,h,hev,hQ=>by
  have:(none:Option R)=some r:=by cases ann<;>exact hev
  cases this
 | .scope c,ann,R,Q,S,γ,β,s,a,w,k,r,hro,h,hev,hQ=>by
  simp only[ev] at hev;refine mz (gA hE c _ R k r hro h hev λe s' S' γ' β' a' w' n1 n2 n3 n4=>?_);cases e<;>exact hQ _ s' S' γ' β' a' w' n1 n2 n3 n4
 | .rangeFunc f ps x y,ann,R,Q,S,γ,β,s,a,w,k,r,hro,h,hev,hQ=>Lf hE (an:=ann) hro h (by cases ann<;>exact hev) hQ
def BI(hE:EnvOk P E)(c:Code)(ann:Ann)(R:Type){Q:Exit->Act->World->Prop}{S:Nat->Nat->Prop}{γ:Nat->Option Nat}{β:Nat->Option (Nat×Nat)}{s:St}{a:Act}{w:World}(k:Ex->St->Option R)(r:R)
  (hro:∀ l,ro=some l->∃ r0,w.heap[l]?=some (Obj.loop r0)) (h:Rp w0 S γ β s a w) (hev:IX E c ann R s k=some r) (hQ:Kp Q w0 s S γ a w k r):c.wpIn (FW ro) nn P Q a w:=by
 cases ann with
 | all exits kS kO x=>
  simp only[IX] at hev;obtain⟨⟨j,v⟩,h1,h2⟩:=bind_some_inv hev;refine gA hE c x _ _ (j,v) hro (h.lk (kS++s.lkS) (kO++s.lkO)) h1 λe s' S' γ' β' a' w' n1 n2 n3 n4=>?_;obtain⟨sh,q1,q2⟩:=pV n4;simp only at q1 q2;obtain⟨c1,c2,c3⟩:=iU (zma j) (by simpa using q1) h2
  obtain⟨γ'',β'',p1,p2⟩:=lE h n1 n2.sub n2.cell n3.nt (h:=sh) (λt ht=>n2.slots t (List.mem_append_left _ (fd c2 t ht))) n2.gam (λid hid=>n2.objs id (List.mem_append_left _ (fd c3 id hid))) q2 s.lkS s.lkO;exact hQ e _ S' γ'' β'' a' w' p1 ((n2.less (s2:=s) (λt ht=>zQa _ ht) (λt ht=>zQa _ ht)).shape h p2) ⟨rfl,rfl,rfl⟩ c1
 | _=>exact gA hE c _ R k r hro h hev hQ
def E9(hE:EnvOk P E)(c:Code)(ann:Ann)(R:Type){Q:Exit->Act->World->Prop}{S:Nat->Nat->Prop}{γ:Nat->Option Nat}{β:Nat->Option (Nat×Nat)}{s:St}{a:Act}{w:World}(k:Ex->St->Option R)(r:R)
  (h:Rp w0 S γ β s a w) (hev:ev E c ann R s k=some r) (hQ:Kp Q w0 s S γ a w k r):c.wpIn (FW none) nn P Q a w:=
 gA hE c ann R k r (λ_ h=>by cases h) h hev hQ
end
def KY{P:Program}{E:Env}(hE:EnvOk P E):D7 P (IX E):=λ_ _ _ c ann R _ _ _ _ _ _ _ k r hro h hev hQ=>BI hE c ann R k r hro h hev hQ
end Sy
end
noncomputable section
namespace Sy
open Go
open Go.ChangeMaps (setBlock)
open Go.RowKit
variable{ro:Option Nat}{nn:Nat}
section
variable{P:Program}{E:Env}{w0:Root}{S:Nat->Nat->Prop}{γ:Nat->Option Nat}{β:Nat->Option (Nat×Nat)}{s:St}{a:Act}{w:World}
def pP(tmps:Array Value):ResultVar->Sem Value
 | .tmp t=>pure (tmps.getD t undef)
 | .cell a t=>do loadVar t (<-asAddr (tmps.getD a undef))
def nu(fn:Func)(tmps:Array Value):Go.results fn tmps=(do
  let vs <-fn.results.mapM (pP tmps)
  pure (if h:vs.size=1 then vs[0] else .tuple vs)):=by
 unfold Go.results;congr 1
def Fb{t t':Ty}{a:AV}(h:AV.fits t a=true)(h':AV.fits t' a=true):cw t=cw t':=by
 cases a
 case d u x=>rw[mU h,mU h']
 all_goals (cases t<;>cases t'<;>simp_all [AV.fits,cw])
def Cm(hE:EnvOk P E)(h:Rp w0 S γ β s a w){R:Type}{t:Ty}(hn:aj t=true){k:D->Option R}{r:ResultVar}{y:R}(hq:Ge E s t k r=some y) :
  ∃ x v,k x=some y/\(pP a.tmps r).run P w=.ok v w/\wt t x/\fD w S x v:=by
 cases r with
 | tmp i=>
  simp only[Ge] at hq;obtain⟨x,h1,h2⟩:=bind_some_inv hq;have hi:i<a.tmps.size:=by
   rcases zna i a.tmps.size with hlt|hge
   ·exact hlt
   ·rw[h.tmu i (by rw[<-h.nt];exact hge)] at h1
    simp[AV.toD] at h1
  obtain⟨k1,k2⟩:=mM hn (h.tms i hi) h1;exact⟨x,a.tmps.getD i undef,h2,rfl,k1,k2⟩
 | cell i T=>
  simp only[Ge] at hq;obtain⟨u,hu,hq⟩:=bind_some_inv hq;split at hq<;>first|(cases hq;done)|skip
  rename_i t' id p htm;split at hq<;>first|(cases hq;done)|skip
  rename_i hb;have:=Ty.eq_of_beq _ _ hb;subst this;obtain⟨o,ho,hq⟩:=bind_some_inv hq;have hi:i<a.tmps.size:=by
   rcases zna i a.tmps.size with hlt|hge
   ·exact hlt
   ·have:=h.tmu i (by rw[<-h.nt];exact hge)
    rw[htm] at this;cases this
  have hx:=h.tms i hi;rw[htm] at hx;obtain⟨b,off,hv,hγ,hob⟩:=jY hx;obtain⟨k1,rfl⟩:=hob o ho;obtain⟨a',cs,m1,m2,m3,m4,m5⟩:=lZ (h.obs id o b ho hγ) k1 hq;obtain⟨m6,m7⟩:=gv _ _ _ m3 m2;obtain⟨v,hrun,hval⟩:=jc (iZ hE hu m4) (w:=w) (b:=b) (off:=bX o p) m6 m7 m5;obtain⟨x,h1,h2⟩:=bind_some_inv m1;obtain⟨q1,q2,q3⟩:=pT _ _ _ _ h1 m2;have hag:=Fb (tQ _ _ _ h1) m3;refine⟨x,v,h2,?_,q1,q3 v ⟨hval.1,by rw[hag];exact hval.2.1,by rw[hag];exact hval.2.2⟩ hn⟩
  rw[<-hrun];simp only[pP,Instr.loadAt,Instr.sureAddr,pure_bind];rw[show a.tmps.getD i undef=.pointer (some ⟨b,bX o p,none⟩) from hv];rfl
theorem tw(hE:EnvOk P E)(h:Rp w0 S γ β s a w){R:Type}:∀ (ts:List Ty) (rs:List ResultVar) (k:List D->Option R) (y:R),bg ts=true->tv E s ts rs k=some y ->
  ∃ xs vs,k xs=some y/\(rs.mapM (pP a.tmps)).run P w=.ok vs w/\er ts xs/\vs.length=rs.length/\xs.length=vs.length/\∀ (i:Nat) (d:D) (u:Value),xs[i]?=some d->vs[i]?=some u->fD w S d u
 | [],[],k,y,_,hq=>by
  simp only[tv] at hq;exact⟨[],[],hq,rfl,rfl,rfl,rfl,λi d u h=>by simp at h⟩
 | [],_::_,k,y,_,hq=>by simp[tv] at hq
 | _::_,[],k,y,_,hq=>by simp[tv] at hq
 | t::ts,r::rs,k,y,hn,hq=>by
  simp only[tv] at hq;simp only[bg,zaa] at hn;obtain⟨x,v,h1,h2,h3,h4⟩:=Cm hE h hn.1 hq;obtain⟨xs,vs,k1,k2,k3,k4,k5,k6⟩:=tw hE h ts rs _ y hn.2 h1;refine⟨x::xs,v::vs,k1,?_,⟨x,xs,rfl,h3,k3⟩,by simp[k4],by simp[k5],λi d u hd hu=>?_⟩
  ·simp only[zdd,zga,h2,zea,k2,zla]
  ·cases i with
   | zero=>simp at hd hu;subst hd;subst hu;exact h4
   | succ i=>simp at hd hu;exact k6 i d u hd hu
def iB(n:Nat)(rty:Ty):Bool:=if n=1 then aj rty else match rty with|.tup ts=>bg ts|_=>false
def kl(hE:EnvOk P E)(h:Rp w0 S γ β s a w){fn:Func}{rty:Ty}{y:D}(hr:iB fn.results.size rty=true)(hq:results E s rty fn.results.toList=some y) :
  ∃ v,(Go.results fn a.tmps).run P w=.ok v w/\wt rty y/\DR w S y v:=by
 rw[nu];have hm:fn.results.mapM (pP a.tmps)=Functor.map List.toArray (fn.results.toList.mapM (pP a.tmps)):=by
  rw[zfd]
 rw[hm];have hsz:fn.results.size=fn.results.toList.length:=by simp
 rw[hsz] at hr;generalize fn.results.toList=rs at *
 match rs,hr,hq with
 | [r],hr,hq=>
  have hr':aj rty=true:=by simpa [iB] using hr
  simp only[results] at hq;obtain⟨x,v,h1,h2,h3,h4⟩:=Cm hE h hr' hq;simp only[zca] at h1;subst h1;refine⟨v,?_,h3,DR.of0 h4⟩;simp[zdd,h2]
 | [],hr,hq=>
  simp only[iB,zmb] at hr;obtain⟨ts,rfl⟩:∃ ts,rty=.tup ts:=by
   cases rty<;>first|exact⟨_,rfl⟩|(simp[results] at hq;done)
  simp only[results] at hq;obtain⟨xs,vs,k1,k2,k3,k4,k5,k6⟩:=tw hE h ts [] _ y (by simpa using hr) hq
  simp only[zca] at k1;subst k1;refine⟨.tuple vs.toArray,?_,by simp only[wt];exact⟨xs,rfl,k3⟩,vs,rfl,k5,k6⟩
  have:vs=[]:=zuc.1 k4;subst this;simp
 | r::r'::rs,hr,hq=>
  simp only[iB,zza] at hr;rw[if_neg (by omega)] at hr
  obtain⟨ts,rfl⟩:∃ ts,rty=.tup ts:=by
   cases rty<;>first|exact⟨_,rfl⟩|(simp[results] at hq;done)
  simp only[results] at hq;obtain⟨xs,vs,k1,k2,k3,k4,k5,k6⟩:=tw hE h ts (r::r'::rs) _ y hr hq;simp only[zca] at k1;subst k1;refine⟨.tuple vs.toArray,?_,by simp only[wt];exact⟨xs,rfl,k3⟩,vs,rfl,k5,k6⟩
  have:vs.length≠1:=by rw[k4];simp
  have k2':((List.mapM (pP a.tmps) (r::r'::rs)).run P w)=.ok vs w:=k2;simp only[zga,map_eq_pure_bind,k2',zea,zla];simp[this]
def gI{r:Root}{w:World}(h:lK r w)(hs:∀ b,¬ r.sh b):∃ os d,r.w.drawn<=d/\w=grown r.w os d:=by
 obtain⟨w0,S0,sh⟩:=r;obtain⟨h1,h2,h3,h4,hdr,h5⟩:=h;simp only[Root.heap,Root.Old] at *;refine⟨(w.heap.toList.drop w0.heap.size),w.drawn,hdr,?_⟩;have e:w.heap=w0.heap++(w.heap.toList.drop w0.heap.size).toArray:=by
  apply zcc;rw[Array.toList_append]
  conv=>lhs;rw[<-zpa w0.heap.size w.heap.toList]
  congr 1;apply zbc;intro i;by_cases hi:i<w0.heap.size
  ·rw[zqb hi,zya,h5 i ⟨hi,hs i⟩,zya]
  ·rw[zUa (by simp;omega),zUa (by simpa using hi)]
 cases w;simp only[grown] at *;subst h1;subst h2;subst h3;congr 1
theorem shut_row{K:Nat}{ds:Option (List Deferred)}{x:Option (List Deferred)}(hk:w.heap[K]?=some (.deferred ds))(b:Nat):bE (setBlock w K (.deferred x)) b=bE w b:=by
 by_cases e:b=K
 ·subst e;simp only[bE,hk,fV (zfa.1 hk).1]
 ·simp only[bE,dF e]
def vO{K:Nat}{ds:Option (List Deferred)}{x:Option (List Deferred)}(hk:w.heap[K]?=some (.deferred ds))(b o:Nat):(setBlock w K (.deferred x)).cell? ⟨b,o,none⟩=w.cell? ⟨b,o,none⟩:=by
 by_cases e:b=K
 ·subst e;simp only[World.cell?,hk,fV (zfa.1 hk).1]
 ·simp only[World.cell?,dF e]
def Rp.shut(h:Rp w0 S γ β s a w){K:Nat}{ds:Option (List Deferred)}(hk:w.heap[K]?=some (.deferred ds))(hK:¬ w0.Old K)(x:Option (List Deferred)):Rp w0 S γ β s a (setBlock w K (.deferred x)):=by
 have hle:Cx.le ⟨w,S,γ,β,s.ob,s.dead⟩ ⟨setBlock w K (.deferred x),S,γ,β,s.ob,s.dead⟩:=
  ⟨λb o _=>vO hk b o,λ_ _ hb=>hb,λ_ _ hb=>hb,λi y hy _=>⟨y,hy,λp=>⟨rfl,rfl⟩,λt l e=>⟨l,e,rfl⟩,λ_ _ l e=>⟨l,e⟩⟩,λv hv=>⟨hv,λb' e he=>⟨he,λn hn=>by
   have hn':lu w b'=some n:=hn;show lu (setBlock w K (.deferred x)) b'=some n;simp only[lu,shut_row hk] at hn' ⊢;exact hn'⟩⟩⟩
 refine⟨mT h.ext rfl rfl rfl (by rw[dq];exact zha _) (zha _) (λb' hb'=>dF λe=>hK (e ▸ hb')),λt ht=>(h.tms t ht).mono hle,h.nt,h.tmu,λi y b' hy hb'=>?_,λi b' hb'=>by rw[dq];exact h.γn i b' hb',h.γi,h.γf,
  λv b' e hv he=>by rw[dq];exact h.βn v b' e hv he,h.βi,h.βγ,h.βf,λb' o hb=>by rw[dq];exact h.Sb b' o hb,h.So⟩
 have hO:=h.obs i y b' hy hb';refine hO.mono hle (dF λe=>?_) λ_ hh=>hh;subst e;cases y<;>simp only[fh] at hO
 case one=>obtain⟨_,_,_,cs,k,_⟩:=hO;simp[bE,hk] at k
 case many=>obtain⟨_,_,_,cs,k,_⟩:=hO;simp[bE,hk] at k
 case mp=>obtain⟨_,_,_,es,k,_⟩:=hO;rw[hk] at k;cases k
 case lp=>obtain⟨r,k,_⟩:=hO;rw[hk] at k;cases k
 case fv=>obtain⟨_,x,k,_⟩:=hO;simp[bE,hk] at k
theorem cc.set{lo:Nat}:∀ {l:List Deferred} {hi K:Nat} {x:Option (List Deferred)},hi<=K->cc lo w hi l->cc lo (setBlock w K (.deferred x)) hi l
 | [],_,_,_,_,_=>trivial
 | d::l,hi,K,x,hh,⟨J,h1,h2,h3,h4,h5⟩=>⟨J,h1,h2,h3,by rw[dF (by omega)];exact h4,cc.set (by omega) h5⟩
theorem u7{fn:Func}{tmps:Array Value}{Rn:Ending->World->Prop}{J:World->Prop}{lo:Nat}(hJ:∀ w K,J w->lo<=K->w.heap[K]?=some (.deferred (some []))->J (setBlock w K (.deferred none)))
  (hR:∀ w,J w->∃ v,(Go.results fn tmps).run P w=.ok v w/\Rn (.returned v) w):∀ (m:List Deferred) (hi:Nat) (w:World),cc lo w hi m->J w->LeavesInM (FW none) 0 P fn tmps Rn m .returning w
 | [],_,w,_,hw=>hR w hw
 | d::m,hi,w,⟨K,h1,h2,_,h4,h5⟩,hw=>by
  refine⟨by simp,.inl ⟨K,_,by rw[h1],run_takeDeferred h4,u7 hJ hR m K _ (cc.set (zha _) h5) (hJ w K hw h2 h4)⟩⟩
def iS(hE:EnvOk P E){f:FuncId}{fn:Func}{c:Code}(hf:P.funcs[f]?=some fn)(hb:fn.body=some c){args:Array Value}{ann:Ann}{R:Type}{k:Ex->St->Option R}{r:R}{Rn:Ending->World->Prop}
  (ha:a={ tmps:=args++Array.replicate (fn.ntmps-args.size) undef,defers:=[] }) (h:Rp w0 S γ β s a w) (hev:IX E c ann R s k=some r) (hk:∀ i s',k (.exit i) s'≠some r)
  (fin:∀ e s' S' γ' β' a' w',Rp w0 S' γ' β' s' a' w'->Fm s S γ a w S' γ' a' w'->Sk s s'->k e s'=some r->∃ v,(Go.results fn a'.tmps).run P w'=.ok v w'/\Rn (.returned v) w'):Calls P f args w Rn:=by
 refine callsIn_wide.1 (callsIn_of_wp_marks (F:=FW none) (n:=0) hf hb trivial ?_);rw[<-ha];refine BI hE c ann R k r (λ_ h=>by cases h) h hev λe s' S' γ' β' a' w' n1 n2 n3 n4=>?_
 have hd:a.defers=[]:=by rw[ha]
 have key:LeavesInM (FW none) 0 P fn a'.tmps Rn a'.defers .returning w':=by
  obtain⟨q1,m,q2,q3,_⟩:=n2.dfs;rw[hd,zLb] at q2;rw[q2];refine u7 (J:=λw2=>Rp w0 S' γ' β' s' { a' with defers:=a.defers } w2/\Fm s S γ a w S' γ' { a' with defers:=a.defers } w2) (lo:=w.heap.size) (λw2 K ⟨j1,j2⟩ hlo h4=>?_) (λw2 ⟨j1,j2⟩=>fin e s' S' γ' β' _ w2 j1 j2 n3 n4) m _ w' q3 ⟨n1.act rfl,⟨n2.sub,n2.cell,n2.slots,n2.objs,n2.sz,n2.gam,jW.same rfl q1⟩⟩;have hold:¬ w0.Old K:=λho=>by have:=ho.1;have:=h.ext.sz;omega
  refine⟨j1.shut h4 hold none,j2.sub,λb o hbo=>(vO h4 b o).trans (j2.cell b o hbo),j2.slots,λi hi b hb=>?_,by rw[dq];exact j2.sz,j2.gam,jW.same rfl λb=>?_⟩
  ·obtain⟨z1,z2⟩:=j2.objs i hi b hb;have hlt:=(h.γn i b hb).2;exact⟨z1,z2.trans (.inl (dF (by omega)))⟩
  ·obtain⟨z1,z2⟩:=j2.dfs.1 b;have hne:b<w.heap.size->b≠K:=λ_=>by omega
   refine⟨λhb=>?_,λ⟨r,hb⟩=>?_⟩
   ·rw[dF (hne (zfa.1 hb).1)];exact z1 hb
   ·rw[dF (hne (zfa.1 hb).1)];exact z2 ⟨r,hb⟩
 cases e with
 | normal=>exact key
 | ret=>exact key
 | exit i=>exact absurd n4 (hk i s')
def CY(hE:EnvOk P E){f:FuncId}{fn:Func}{ann:Ann}{ptys:List Ty}{rty:Ty}{xs:List D}{y:D}(hf:P.funcs[f]?=some fn)(hsz:ptys.length<=fn.ntmps)(hn:bg ptys=true)(hr:iB fn.results.size rty=true)
  (h:T4 E fn ann ptys rty xs=some y):Kx P ptys rty f xs y:=by
 intro w S vs hS hwt hlen hvs;unfold T4 at h;split at h<;>first|(cases h;done)|skip
 rename_i c hb;have hxl:xs.length=ptys.length:=iJ hwt;have hntm:(vs.toArray++Array.replicate (fn.ntmps-vs.toArray.size) undef).size=fn.ntmps:=by
  simp;omega
 refine iS (w0:=⟨w,S,λ_=>False⟩) (S:=S) (γ:=λ_=>none) (β:=λ_=>none) hE hf hb rfl ?_ h (λ_ _ hh=>by cases hh) λe s' S' γ' β' a' w' n1 n2 n3 n4=>?_
 ·refine⟨⟨rfl,rfl,rfl,zha _,zha _,λ_ _=>rfl⟩,λt ht=>?_,hntm,λt ht=>?_,λid o b ho=>(by cases ho),λid b hb=>(by cases hb),λid id' b hb=>(by cases hb),λ_ _=>rfl,λv b e _ hb=>(by cases hb),λv v' b e e' _ _ hb=>(by cases hb),λv id b e _ hb=>(by cases hb),λ_ _=>rfl,hS,λb o hb _=>hb⟩
  ·simp only[ic];split
   ·rename_i ty x e1 e2;have hlt:=(zja.1 e2).1;have hlt':t<vs.length:=by omega
    have hv:(vs.toArray++Array.replicate (fn.ntmps-vs.toArray.size) undef).getD t undef=vs[t]:=by
     simp[Array.getD,zKc,hlt'];omega
    show AR _ _ ((vs.toArray++Array.replicate (fn.ntmps-vs.toArray.size) undef).getD t undef);rw[hv];obtain⟨x',hx',hw'⟩:=ge hwt e1;rw[e2] at hx';cases hx';exact dc (bI hn e1) hw' (hvs t x _ e2 (zda hlt'))
   ·simp only[AR]
  ·have ht':fn.ntmps<=t:=ht;simp only[ic];rw[zUa (by omega)]
 ·have hres:results E s' rty fn.results.toList=some y->(∃ v,(Go.results fn a'.tmps).run P w'=.ok v w'/\∃ v',Ending.returned v=.returned v'/\(∃ os d,w.drawn<=d/\w'=grown w os d)/\wt rty y/\DR w' (λb o=>S b o\/(w.heap.size<=b/\b<w'.heap.size)) y v'):=λhq=>by
   obtain⟨v,k1,k2,k3⟩:=kl hE n1 hr hq;refine⟨v,k1,v,rfl,gI n1.ext (λ_ hf=>hf),k2,k3.mono (λ_ _ _=>rfl) λb o hb=>?_⟩;rcases zna b w.heap.size with hlt|hge
   ·exact .inl (n1.So b o hb ⟨hlt,λhf=>hf⟩)
   ·exact .inr ⟨hge,n1.Sb b o hb⟩
  cases e with
  | normal=>exact hres n4
  | ret=>exact hres n4
  | exit i=>cases n4
def yD(tys:List Ty)(k:Nat)(args:List D)(i:Nat):AV:=
 if i+k<tys.length then ic tys args i else match tys[i]? with
  | some t=>.ptr t (i+k-tys.length) []
  | none=>.undef
def Ma(tys:List Ty)(k:Nat)(args:List D)(j:Nat):Option Ob:=
 if j<k then match tys[tys.length-k+j]?,args[tys.length-k+j]? with
  | some t,some x=>some (.one t (.d t x))
  | _,_=>none
 else none
def kA:Option Ob->Bool
 | some (.one _ _)=>true
 | _=>false
def Ld(E:Env)(fn:Func)(ann:Ann)(tys:List Ty)(k:Nat)(rty:Ty)(args:List D):Option D:=
 match fn.body with
 | none=>none
 | some c=>IX E c ann D { tm:=yD tys k args,ob:=Ma tys k args,fresh:=0,dead:=[],nt:=fn.ntmps,lkS:=[],lkO:=List.range k } λe s=>match e with
  | .exit _=>none
  | _=>if(List.range k).all (λj=>kA (s.ob j)) then results E s rty fn.results.toList else none
def Ah(hE:EnvOk P E){f:FuncId}{fn:Func}{ann:Ann}{ptys:List Ty}{k:Nat}{rty:Ty}{xs:List D}{y:D}(hf:P.funcs[f]?=some fn)(hsz:ptys.length<=fn.ntmps)(hn:bg ptys=true)(hk:k<=ptys.length)(hk4:k<=4095)(hr:iB fn.results.size rty=true)
  (h:Ld E fn ann ptys k rty xs=some y):Mf P ptys rty f xs y k:=by
 intro w S vs bs hS hwt hbl hlen hnd hvs hbs;unfold Ld at h;split at h<;>first|(cases h;done)|skip
 rename_i c hb;have hxl:xs.length=ptys.length:=iJ hwt;have hvl:vs.length=ptys.length-k:=by omega
 obtain⟨l,hl⟩:∃ l,l=vs++bs.map Dw:=⟨_,rfl⟩;have hll:l.length=ptys.length:=by rw[hl];simp;omega
 rw[<-hl];have hntm:(l.toArray++Array.replicate (fn.ntmps-l.toArray.size) undef).size=fn.ntmps:=by
  simp;omega
 have hget:∀ t,t<l.length->(l.toArray++Array.replicate (fn.ntmps-l.toArray.size) undef).getD t undef=l.getD t undef:=λt ht=>by
  simp[Array.getD,zKc,ht];omega
 have cap:∀ j b,bs[j]?=some b->j<k/\∃ t x,ptys[ptys.length-k+j]?=some t/\xs[ptys.length-k+j]?=some x/\wt t x/\Kw w S x b:=λj b hj=>by
  have hjk:j<k:=by rw[<-hbl];exact(zja.1 hj).1
  have h1:ptys.length-k+j<ptys.length:=by omega
  obtain⟨x,hx,hw⟩:=ge hwt (zda h1);exact⟨hjk,_,x,zda h1,hx,hw,hbs j x b (by rw[hvl];exact hx) hj⟩
 have capn:∀ j b,bs[j]?=some b->b<w.heap.size:=λj b hj=>by
  obtain⟨_,t,x,_,_,_,_,cs,q,_⟩:=cap j b hj;simp only[bE] at q;split at q<;>first|(cases q;done)|skip
  rename_i hh;exact(zfa.1 hh).1
 have key:∀ t,AR ⟨w,S,λid=>bs[id]?,λ_=>none,Ma ptys k xs,[]⟩ (yD ptys k xs t) ((l.toArray++Array.replicate (fn.ntmps-l.toArray.size) undef).getD t undef):=λt=>by
  simp only[yD];split
  ·rename_i hlt;rw[hget t (by omega)]
   simp only[ic];split
   ·rename_i ty x e1 e2;have hlt':t<vs.length:=by omega
    have hv:l.getD t undef=vs[t]:=by
     rw[hl,z5a,zeb hlt',zda hlt'];rfl
    rw[hv];obtain⟨x',hx',hw'⟩:=ge hwt e1;rw[e2] at hx';cases hx';exact dc (bI hn e1) hw' (hvs t x _ e2 (zda hlt'))
   ·simp only[AR]
  ·rename_i hge;split
   ·rename_i ty e1;have hlt:=(zja.1 e1).1;obtain⟨j,hj⟩:∃ j,j=t+k-ptys.length:=⟨_,rfl⟩;have hjk:j<bs.length:=by omega
    have ht':t=ptys.length-k+j:=by omega
    rw[hget t (by omega),<-hj]
    have hv:l.getD t undef=Dw bs[j]:=by
     rw[hl,z5a,zub (by omega),show t-vs.length=j by omega,z8a,zda hjk];rfl
    rw[hv];refine fJ (zda hjk) λo ho=>?_;have ho':Ma ptys k xs j=some o:=ho;unfold Ma at ho';split at ho'<;>first|(cases ho';done)|skip
    split at ho'<;>first|(cases ho';done)|skip
    rename_i u x q1 q2;cases ho';rw[<-ht',e1] at q1;cases q1;exact⟨rfl,rfl⟩
   ·simp only[AR]
 refine iS (w0:=⟨w,S,λb=>b∈bs⟩) (S:=S) (γ:=λid=>bs[id]?) (β:=λ_=>none) hE hf hb rfl ?_ h (λ_ _ hh=>by cases hh) λe s' S' γ' β' a' w' n1 n2 n3 n4=>?_
 ·refine⟨⟨rfl,rfl,rfl,zha _,zha _,λ_ _=>rfl⟩,λt ht=>?_,hntm,λt ht=>?_,λid o b ho hb=>?_,λid b hb=>⟨λho=>ho.2 (z0a hb),capn id b hb⟩,λid id' b hb hb'=>hnd id id' b hb hb',λid hid=>zUa ?_,λv b e _ hb=>(by cases hb),λv v' b e e' _ _ hb=>(by cases hb),λv id b e _ hb=>(by cases hb),λ_ _=>rfl,hS,λb o hb _=>hb⟩
  ·exact key t
  ·have ht':fn.ntmps<=t:=ht;show yD ptys k xs t=.undef;unfold yD;rw[if_neg (by omega),zUa (by omega)]
  ·have ho':Ma ptys k xs id=some o:=ho;obtain⟨hjk,t,x,q1,q2,q3,q4,cs,q5,q6⟩:=cap id b hb;unfold Ma at ho';rw[if_pos hjk,q1,q2] at ho';cases ho';have q0:=bI hn q1;simp only[fh,AV.fits,AC];exact⟨q0,Ty.beq_refl' t,q4,cs,q5,⟨q3,q0,q6⟩,by rw[<-q6.1];exact cb _ _ q3 q0⟩
  ·have hid':0*4096+4096<=id:=hid;omega
 ·have stay:∀ b∈bs,w'.heap[b]?=w.heap[b]?/\((List.range k).all (λj=>kA (s'.ob j))=true->∀ o,¬ S' b o):=λb hb=>by
   obtain⟨j,hj⟩:=List.getElem?_of_mem hb;obtain⟨hjk,t,x,q1,q2,q3,q4,cs,q5,q6⟩:=cap j b hj;obtain⟨z1,z2⟩:=n2.objs j (zNa.2 hjk) b hj;refine⟨z2.row q5,λhall=>?_⟩;have:=zka.1 hall j (zNa.2 hjk);cases ho:s'.ob j with
   | none=>rw[ho] at this;cases this
   | some o=>
    rw[ho] at this;have hO:=n1.obs j o b ho z1;cases o<;>simp only[kA] at this<;>first|(cases this;done)|skip
    simp only[fh] at hO;exact hO.2.2.1
  have hres:(if(List.range k).all (λj=>kA (s'.ob j)) then results E s' rty fn.results.toList else none)=some y->(∃ v,(Go.results fn a'.tmps).run P w'=.ok v w'/\∃ v',Ending.returned v=.returned v'/\(∃ os d,w.drawn<=d/\w'=grown w os d)/\wt rty y/\DR w' (λb o=>S b o\/(w.heap.size<=b/\b<w'.heap.size)) y v'):=λhq=>by
   split at hq<;>first|(cases hq;done)|skip
   rename_i hall;obtain⟨v,k1,k2,k3⟩:=kl hE n1 hr hq;refine⟨v,k1,v,rfl,gI (r:=⟨w,S,λ_=>False⟩) ⟨n1.ext.tape,n1.ext.os,n1.ext.output,n1.ext.sz,n1.ext.dr,λb hb=>?_⟩ (λ_ hf=>hf),k2,k3.mono (λ_ _ _=>rfl) λb o hb=>?_⟩
   ·by_cases hm:b∈bs
    ·exact(stay b hm).1
    ·exact n1.ext.old b ⟨hb.1,hm⟩
   ·rcases zna b w.heap.size with hlt|hge
    ·by_cases hm:b∈bs
     ·exact absurd hb ((stay b hm).2 hall o)
     ·exact .inl (n1.So b o hb ⟨hlt,hm⟩)
    ·exact .inr ⟨hge,n1.Sb b o hb⟩
  cases e with
  | normal=>exact hres n4
  | ret=>exact hres n4
  | exit i=>cases n4
end
end Sy
end
noncomputable section
namespace Sy
open Go Go.Proofs Go.Sort Go.Lib
def rX(E:Env)(g:Nat)(x y:D):Option Int:=(E.call g [x,y]).bind λr=>match r with|.int .i64 n=>some n|_=>none
def pG(E:Env)(g:Nat)(x y:D):Bool:=match rX E g x y with|some n=>decide (n<0)|none=>false
def D2(E:Env)(g:Nat)(x y:D):Bool:=match rX E g x y with|some n=>decide (0<=n)|none=>false
def Au(lt:D->D->Bool)(x:D):List D->List D
 | []=>[x]
 | y::l=>if lt x y then x::y::l else y::Au lt x l
def kD(lt:D->D->Bool):List D->List D
 | []=>[]
 | x::l=>Au lt x (kD lt l)
def qR(E:Env)(g:Nat):List D->Bool
 | []=>true
 | x::l=>D2 E g x x&&l.all (λy=>pG E g x y&&D2 E g y x)&&qR E g l
def je(E:Env)(g:Nat)(l:List D):Option (List D):=if qR E g (kD (pG E g) l) then some (kD (pG E g) l) else none
theorem pB(lt:D->D->Bool)(x:D):∀ l:List D,(Au lt x l).Perm (x::l)
 | []=>.refl _
 | y::l=>by
  simp only[Au];split
  ·exact .refl _
  ·exact((pB lt x l).cons y).trans (.swap x y l)
theorem fX(lt:D->D->Bool):∀ l:List D,(kD lt l).Perm l
 | []=>.refl _
 | x::l=>(pB lt x _).trans ((fX lt l).cons x)
section
variable{E:Env}{g:Nat}
theorem jx:∀ {l:List D},qR E g l=true->l.Pairwise (λx y=>pG E g x y=true/\D2 E g y x=true)/\∀ x∈l,D2 E g x x=true
 | [],_=>⟨.nil,by simp⟩
 | x::l,h=>by
  simp only[qR,zaa,zka] at h;obtain⟨⟨h1,h2⟩,h3⟩:=h;obtain⟨k1,k2⟩:=jx h3;exact⟨zCa.2 ⟨h2,k1⟩,λy hy=>by
   rcases zva.1 hy with rfl|hy
   ·exact h1
   ·exact k2 y hy⟩
def Fe{x y:D}(h:D2 E g x y=true):pG E g x y=false:=by
 unfold D2 at h;unfold pG;split at h
 ·rename_i n hn;simp only[decide_eq_true_eq] at h;simp only[decide_eq_false_iff_not];omega
 ·cases h
def LH{x y:D}(h:pG E g x y=true\/D2 E g x y=true):∃ n,rX E g x y=some n:=by
 rcases h with h|h
 ·unfold pG at h;split at h
  ·exact⟨_,by assumption⟩
  ·cases h
 ·unfold D2 at h;split at h
  ·exact⟨_,by assumption⟩
  ·cases h
variable{l:List D}(hc:qR E g l=true)
include hc
def dU{i j:Nat}{x y:D}(hi:l[i]?=some x)(hj:l[j]?=some y):(pG E g x y=true↔i<j)/\∃ n,rX E g x y=some n:=by
 obtain⟨h1,h2⟩:=jx hc;obtain⟨hi',rfl⟩:=zja.1 hi;obtain⟨hj',rfl⟩:=zja.1 hj;rcases zgd i j with k|k|k
 ·have:=zAb.1 h1 i j hi' hj' k;exact⟨⟨λ_=>k,λ_=>this.1⟩,LH (.inl this.1)⟩
 ·subst k;have:=h2 _ (zIa hi');exact⟨⟨λh=>(by rw[Fe this] at h;cases h),λh=>absurd h (Nat.lt_irrefl _)⟩,LH (.inr this)⟩
 ·have:=zAb.1 h1 j i hj' hi' k;exact⟨⟨λh=>(by rw[Fe this.2] at h;cases h),λh=>by omega⟩,LH (.inr this.2)⟩
def uG:l.Nodup:=by
 obtain⟨h1,h2⟩:=jx hc;refine h1.imp λ{x y} h e=>?_;subst e;rw[Fe h.2] at h;cases h.1
def D1(E:Env)(g:Nat)(l:List D)(x y:{d:D // d∈l}):Int:=(rX E g x.1 y.1).getD 0
omit hc in
def yO{x y:{d:D // d∈l}}:ltOf (D1 E g l) x y=pG E g x.1 y.1:=by
 unfold ltOf D1 pG;cases rX E g x.1 y.1<;>simp
def JI:SWO (ltOf (D1 E g l)):=by
 have ix:∀ x:{d:D // d∈l},∃ i,l[i]?=some x.1:=λx=>by
  obtain⟨i,h1,h2⟩:=zRa x.2;exact⟨i,by rw[zda h1,h2]⟩
 have key:∀ (x y:{d:D // d∈l}) (i j:Nat),l[i]?=some x.1->l[j]?=some y.1->(ltOf (D1 E g l) x y=true↔i<j):=λx y i j hi hj=>by rw[yO];exact(dU hc hi hj).1
 refine⟨λx=>?_,λx y z h1 h2=>?_,λx y z h1 h2=>?_⟩
 ·obtain⟨i,hi⟩:=ix x;cases h:ltOf (D1 E g l) x x with
  | false=>rfl
  | true=>exact absurd ((key x x i i hi hi).1 h) (Nat.lt_irrefl _)
 ·obtain⟨i,hi⟩:=ix x;obtain⟨j,hj⟩:=ix y;obtain⟨k,hk⟩:=ix z;have a:=(key x y i j hi hj).1 h1;have b:=(key y z j k hj hk).1 h2;exact(key x z i k hi hk).2 (by omega)
 ·obtain⟨i,hi⟩:=ix x;obtain⟨j,hj⟩:=ix y;obtain⟨k,hk⟩:=ix z;have a:¬ i<j:=λh=>by rw[(key x y i j hi hj).2 h] at h1;cases h1
  have b:¬ j<k:=λh=>by rw[(key y z j k hj hk).2 h] at h2;cases h2
  cases h:ltOf (D1 E g l) x z with
  | false=>rfl
  | true=>have:=(key x z i k hi hk).1 h;omega
def DM[Inhabited {d:D // d∈l}]{d d':Array {d:D // d∈l}}(hd:(d.toList.map (·.1)).Perm l)(hp:PermIn 0 d.size d d')(hs:SortedIn (ltOf (D1 E g l)) 0 d.size d'):d'.toList.map (·.1)=l:=by
 obtain⟨p1,_,p3⟩:=hp;have q:d'.toList.Perm d.toList:=by
  have e1:d'.extract 0 d.size=d':=by rw[<-p1];simp
  rw[e1] at p3;simpa using p3
 have qp:(d'.toList.map (·.1)).Perm l:=(q.map _).trans hd;have hlen:(d'.toList.map (·.1)).length=l.length:=qp.length_eq;have nd:=qp.symm.nodup (uG hc);have asc:(d'.toList.map (·.1)).Pairwise (λx y=>pG E g x y=true):=by
  rw[zAb];intro i j hi hj hij;simp only[zua,zDb] at hi hj;have h1:=hs i j (zma _) hij (by omega)
  rw[getElem!_pos d' j hj,getElem!_pos d' i hi,yO] at h1;simp only[List.getElem_map,zyd];obtain⟨a,ha1,ha2⟩:=zRa (d'[i]).2;obtain⟨b,hb1,hb2⟩:=zRa (d'[j]).2;have ea:l[a]?=some (d'[i]).1:=by rw[zda ha1,ha2]
  have eb:l[b]?=some (d'[j]).1:=by rw[zda hb1,hb2]
  have k1:¬ b<a:=λh=>by rw[(dU hc eb ea).1.2 h] at h1;cases h1
  have k2:a≠b:=λe=>by
   subst e;have:(d'[i]).1=(d'[j]).1:=by rw[<-ha2,<-hb2]
   have:=zAb.1 nd i j (by simpa using hi) (by simpa using hj) hij
   simp only[List.getElem_map,zyd] at this;contradiction
  exact(dU hc ea eb).1.2 (by omega)
 have key:∀ {a b:List D},a.Pairwise (λx y=>pG E g x y=true)->b.Pairwise (λx y=>pG E g x y=true)->a.Perm b->(∀ x∈a,x∈l)->a=b:=by
  intro a
  induction a with
  | nil=>intro b _ _ hp _;exact hp.symm.eq_nil.symm ▸ rfl
  | cons x a ih=>
   intro b ha hb hp hm;cases b with
   | nil=>exact absurd hp.eq_nil (by simp)
   | cons y b=>
    obtain⟨a1,a2⟩:=zCa.1 ha;obtain⟨b1,b2⟩:=zCa.1 hb;have e:x=y:=by
     rcases zva.1 (hp.subset zoa) with e|m1
     ·exact e
     ·rcases zva.1 (hp.symm.subset (zoa (a:=y))) with e|m2
      ·exact e.symm
      ·exfalso;have h1:=b1 x m1;have h2:=a1 y m2;obtain⟨i,hi1,hi2⟩:=zRa (hm x zoa);obtain⟨j,hj1,hj2⟩:=zRa (hm y (zia _ m2));have ei:l[i]?=some x:=by rw[zda hi1,hi2]
       have ej:l[j]?=some y:=by rw[zda hj1,hj2]
       have:=(dU hc ei ej).1.1 h2;have:=(dU hc ej ei).1.1 h1;omega
    subst e;rw[ih a2 b2 ((List.perm_cons x).1 hp) (λz hz=>hm z (zia _ hz))]
 exact key asc ((jx hc).1.imp λh=>h.1) qp λx hx=>qp.subset hx
end
end Sy
end
noncomputable section
namespace Sy
open Go Go.Proofs Go.Sort Go.Lib
def qn:D->Bool
 | .int ..=>true
 | .bool _=>true
 | _=>false
def fe:D->Value
 | .int k n=>.int k n
 | .bool b=>.bool b
 | _=>undef
mutual
theorem jE:∀ (t:Ty) (x:D),bH t=true->wt t x->∀ d∈x.flat,qn d=true
 | .int k,x,_,h=>by simp only[wt] at h;obtain⟨n,rfl⟩:=h;intro d hd;simp only[D.flat,zHa] at hd;subst hd;rfl
 | .bool,x,_,h=>by simp only[wt] at h;obtain⟨n,rfl⟩:=h;intro d hd;simp only[D.flat,zHa] at hd;subst hd;rfl
 | .str,x,hc,h=>by simp[bH] at hc
 | .st ts,x,hc,h=>by
  simp only[wt] at h;obtain⟨l,rfl,hl⟩:=h;simp only[bH] at hc;simp only[D.flat];exact sT ts l hc hl
 | .arr n t,x,hc,h=>by
  simp only[wt] at h;obtain⟨l,rfl,hn,hl⟩:=h;clear hn;simp only[bH] at hc;simp only[D.flat]
  induction l with
  | nil=>intro d hd;simp[D.flats] at hd
  | cons y l ih=>
   intro d hd;simp only[D.flats,List.mem_append] at hd;rcases hd with hd|hd
   ·exact jE t y hc (hl y zoa) d hd
   ·exact ih (λz hz=>hl z (zia _ hz)) d hd
 | .sl t,x,hc,h=>by simp[bH] at hc
 | .tup l,x,hc,h=>by simp[bH] at hc
 | .fn,x,hc,h=>by simp[bH] at hc
theorem sT:∀ (ts:List Ty) (l:List D),kR ts=true->er ts l->∀ d∈D.flats l,qn d=true
 | [],l,_,h=>by simp only[er] at h;subst h;intro d hd;simp[D.flats] at hd
 | t::ts,l,hc,h=>by
  simp only[er] at h;obtain⟨y,l',rfl,h1,h2⟩:=h;simp only[kR,zaa] at hc;intro d hd;simp only[D.flats,List.mem_append] at hd;rcases hd with hd|hd
  ·exact jE t y hc.1 h1 d hd
  ·exact sT ts l' hc.2 h2 d hd
end
def Bf{w:World}{S:Nat->Nat->Prop}{d:D}{c:Value}(hl:qn d=true):CR w S d c↔c=fe d:=by
 cases d<;>simp only[qn] at hl<;>first|(cases hl;done)|skip
 ·exact⟨λh=>h.int_inv,λh=>by subst h;exact .int _ _⟩
 ·exact⟨λh=>h.bool_inv,λh=>by subst h;exact .bool _⟩
def fg{w:World}{S:Nat->Nat->Prop}{ds:List D}{cs:List Value}(hl:∀ d∈ds,qn d=true):cF w S ds cs↔cs=ds.map fe:=by
 constructor
 ·rintro⟨h1,h2⟩;apply zbc;intro i;rw[z8a];rcases zna i ds.length with k|k
  ·have a:=zda k;have b:cs[i]?=some cs[i]:=zda (h1 ▸ k);rw[a,b];simp only[zkb,zca];exact(Bf (hl _ (zIa k))).1 (h2 i _ _ a b)
  ·rw[zUa k,zUa (by omega)];rfl
 ·rintro rfl;refine⟨by simp,λi d c hd hc=>?_⟩
  rw[z8a,hd] at hc;simp only[zkb,zca] at hc;exact(Bf (hl d (z0a hd))).2 hc.symm
theorem uU{k:Nat}(hk:0<k):∀ (l:List D),(∀ x∈l,x.flat.length=k)->∀ t,(D.flats l)[t]?=(l[t/k]?).bind λx=>x.flat[t%k]?
 | [],_,t=>by simp[D.flats]
 | x::l,h,t=>by
  have hx:=h x zoa;simp only[D.flats];rcases zna t k with c|c
  ·rw[zeb (by omega),zWa c,zJa c];rfl
  ·rw[zub (by omega),hx,uU hk l (λy hy=>h y (zia _ hy)) (t-k)]
   have e1:t/k=(t-k)/k+1:=by rw[Nat.div_eq_sub_div hk c]
   have e2:t%k=(t-k)%k:=Nat.mod_eq_sub_mod c;rw[e1,e2];rfl
structure SortOk(P:Program)(f:Nat)(e:Ty):Prop where
 cmp:bH e=true
 agg:cw e=true
 pos:0<e.size
 nt:aj e=true
 fn : ∃ fn, P.funcs[f]? = some fn /\ (fn.name == "runtime.NumGoroutine") = false /\ fn.body.isSome = true
 empty:∀ (p:Option Addr) (cap:Nat) (fv:Value) (w:World),Calls P f #[.slice p 0 cap,fv] w λen w'=>en=.returned (.tuple #[])/\w'=w
 whole:∀ (α:Type) [Inhabited α] (enc:α->List Value) (_:∀ x,(enc x).length=e.size) (_:∀ x,∀ v∈enc x,v.oneCell'=true) (cf:α->α->Int) (_:SWO (ltOf cf)) (g:Nat) (blk off cap:Nat) (d:Array α) (w:World)
  (_:∀ args w,(callFunc g args).run P w=.ok (.enter g args) w) (_:CmpLays P g #[] enc e.size cf blk off d.size w) (_:HoldsK enc e.size w blk off d) (_:blk<w.heap.size) (_:d.size<4611686018427387904),
  Calls P f #[.slice (some ⟨blk,off,none⟩) d.size cap,.func (.func g) #[] #[]] w λen w'=>en=.returned (.tuple #[])/\∃ d' n os,PermIn 0 d.size d d'/\SortedIn (ltOf cf) 0 d.size d'/\w'=sortWorldK enc e.size w blk off n d' os
section
variable{P:Program}{E:Env}
def Am(hE:EnvOk P E){g:Nat}{ptys:List Ty}{rty:Ty}(h:E.sig g=some (ptys,rty))(args:Array Value)(w:World):(callFunc g args).run P w=.ok (.enter g args) w:=by
 obtain⟨_,_,fn,f1,f2,f3⟩:=hE.sig g ptys rty h;have f2' : ¬ fn.name = "runtime.NumGoroutine" := by simpa using f2
 have hb':¬ fn.body=none:=by intro hh;rw[hh] at f3;cases f3
 simp[callFunc,f1,f2',hb']
def DL(hE:EnvOk P E){f:Nat}{e:Ty}(hf:SortOk P f e){g:Nat}(hsig:E.sig g=some ([e,e],.int .i64)/\E.free g=0){l l':List D}(hwt:∀ x∈l,wt e x)(hs:je E g l=some l')(hne:l≠[]){w:World}{b off cap:Nat}{row:Array Value}
  (hr:bE w b=some row) (hc:∀ (i:Nat) (d:D),(D.flats l)[i]?=some d->w.cell? ⟨b,off+i,none⟩=some (fe d)) (hlen:l.length<4611686018427387904) :
  Calls P f #[.slice (some ⟨b,off,none⟩) l.length cap,.func (.func g) #[] #[]] w λen w'=>en=.returned (.tuple #[])/\l'.Perm l/\w.drawn<=w'.drawn/\w'.tape=w.tape/\w'.os=w.os/\w'.output=w.output/\w.heap.size<=w'.heap.size ∧
   (∀ b',b'≠b->b'<w.heap.size->w'.heap[b']?=w.heap[b']?)/\∀ (i:Nat) (d:D),(D.flats l')[i]?=some d->w'.cell? ⟨b,off+i,none⟩=some (fe d):=by
 have hsd:qR E g l'=true/\l'=kD (pG E g) l:=by
  unfold je at hs;split at hs
  ·rename_i h;cases hs;exact⟨h,rfl⟩
  ·cases hs
 obtain⟨hchk,hl'⟩:=hsd;have hperm:l'.Perm l:=hl' ▸ fX _ l;have hmem:∀ x∈l,x∈l':=λx hx=>hperm.symm.subset hx;have hwt':∀ x∈l',wt e x:=λx hx=>hwt x (hperm.subset hx);obtain⟨x0,hx0⟩:∃ x0,x0∈l':=by
  cases l with
  | nil=>exact absurd rfl hne
  | cons x l=>exact⟨x,hmem x zoa⟩
 have hinh:Inhabited {d:D // d∈l'}:=⟨⟨x0,hx0⟩⟩;have hfl:∀ x:{d:D // d∈l'},x.1.flat.length=e.size:=λx=>cb e x.1 (hwt' x.1 x.2) hf.nt;have hleaf:∀ x:{d:D // d∈l'},∀ d∈x.1.flat,qn d=true:=λx=>jE e x.1 hf.cmp (hwt' x.1 x.2);obtain⟨d,hd⟩:∃ d:Array {d:D // d∈l'},d.toList.map (·.1)=l:=⟨(l.pmap Subtype.mk hmem).toArray,by simp[List.map_pmap]⟩
 have hds:d.size=l.length:=by rw[<-hd];simp
 have hbs:b<w.heap.size:=by
  unfold bE at hr;cases hb:w.heap[b]? with
  | none=>rw[hb] at hr;cases hr
  | some o=>exact(zfa.1 hb).1
 have hfro:∀ o,w.frozen? ⟨b,o,none⟩=false:=λo=>by
  unfold bE at hr;split at hr
  ·rename_i c t hb;unfold World.frozen?;simp[hb]
  ·cases hr
 have at_:∀ (dd:Array {d:D // d∈l'}) (t:Nat),t<dd.size*e.size->(D.flats (dd.toList.map (·.1)))[t]?.map fe=some ((flatK (λx:{d:D // d∈l'}=>x.1.flat.map fe) e.size dd)[t]!):=λdd t ht=>by
  rw[get_flatK _ _ _ _ ht,uU hf.pos _ (λx hx=>by
   obtain⟨y,_,rfl⟩:=z7a.1 hx;exact hfl y)]
  have h1:t/e.size<dd.size:=(zSa hf.pos).2 ht;have h2:t%e.size<e.size:=zPa _ hf.pos;rw[z8a,zya,zBb h1,getElem!_pos dd _ h1];simp only[zkb,zba];have h3:t%e.size<(dd[t/e.size]).1.flat.length:=by rw[hfl];exact h2
  rw[zda h3,getElem!_pos _ _ (by simpa using h3)]
  simp
 have hH:HoldsK (λx:{d:D // d∈l'}=>x.1.flat.map fe) e.size w b off d:=by
  intro j hj;rw[size_flatK] at hj;refine⟨?_,hfro _⟩;have:=at_ d j hj;rw[hd] at this;cases hq:(D.flats l)[j]? with
  | none=>rw[hq] at this;cases this
  | some q=>
   rw[hq] at this;simp only[zkb,zca] at this;rw[hc j q hq,this];rfl
 have hcmp:CmpLays P g #[] (λx:{d:D // d∈l'}=>x.1.flat.map fe) e.size (D1 E g l') b off d.size w:=by
  intro m os dk _ x y;obtain⟨i,hi1,hi2⟩:=zRa x.2;obtain⟨j,hj1,hj2⟩:=zRa y.2;obtain⟨_,n,hn⟩:=dU hchk (i:=i) (j:=j) (x:=x.1) (y:=y.1) (by rw[zda hi1,hi2]) (by rw[zda hj1,hj2])
  have hcall:E.call g [x.1,y.1]=some (.int .i64 n):=by
   unfold rX at hn;obtain⟨r,h1,h2⟩:=bind_some_inv hn;rw[h1];split at h2
   ·cases h2;rfl
   ·cases h2
  have hcf:D1 E g l' x y=n:=by simp[D1,hn]
  rw[hcf];have shpa:∀ z:{d:D // d∈l'},∀ (w:World) (S:Nat->Nat->Prop),fD w S z.1 (.agg (z.1.flat.map fe).toArray):=λz w S=>by
   refine⟨?_,?_⟩
   ·have hz:=hwt' z.1 z.2;have ha:=hf.agg;cases e<;>simp only[cw] at ha<;>first|(cases ha;done)|skip
    ·simp only[wt] at hz;obtain⟨ll,h1,_⟩:=hz;rw[h1];exact⟨_,rfl⟩
    ·simp only[wt] at hz;obtain⟨ll,h1,_⟩:=hz;rw[h1];exact⟨_,rfl⟩
   ·exact(fg (hleaf z)).2 (by simp[Value.cells])
  have hw2:er [e,e] [x.1,y.1]:=⟨x.1,[y.1],rfl,hwt' _ x.2,⟨y.1,[],rfl,hwt' _ y.2,rfl⟩⟩;have hctr0:=(hE.call g [e,e] (.int .i64) [x.1,y.1] (.int .i64 n) hsig.1 hcall hw2).1;rw[hsig.2] at hctr0;have hctr:=hctr0
   (sortWorldK (λx:{d:D // d∈l'}=>x.1.flat.map fe) e.size w b off m dk os) (λ_ _=>False) [.agg (x.1.flat.map fe).toArray,.agg (y.1.flat.map fe).toArray] (λ_ _ h=>h.elim) hw2 rfl
   (λi z v hz hv=>by
    cases i with
    | zero=>simp at hz hv;subst hz;subst hv;exact shpa x _ _
    | succ i=>cases i with
     | zero=>simp at hz hv;subst hz;subst hv;exact shpa y _ _
     | succ i=>simp at hz)
  refine hctr.mono ?_;rintro en w' ⟨v,rfl,⟨os',dr,hdr,rfl⟩,_,hv⟩;have hv':v=.int .i64 n:=by
   obtain⟨c1,c2⟩:=(hv:fD _ _ _ _);have:=(fg (by intro d hd;simp only[D.flat,zHa] at hd;subst hd;rfl)).1 c2
   exact am c1 (by simpa [D.flat,fe] using this)
  refine⟨by rw[hv'],dr-(sortWorldK (λx:{d:D // d∈l'}=>x.1.flat.map fe) e.size w b off m dk os).drawn,os'.toArray,?_⟩
  unfold grown grow World.drewN;simp only[show ∀ a b:Nat,a<=b->a+(b-a)=b from λa b h=>by omega,hdr]
 have hO:SWO (ltOf (D1 E g l')):=JI hchk;have key:=hf.whole {d:D // d∈l'} (λx=>x.1.flat.map fe) (λx=>by simp[hfl x]) (λx v hv=>by
   obtain⟨q,hq,rfl⟩:=z7a.1 hv;have:=hleaf x q hq;cases q<;>simp only[qn] at this<;>first|(cases this;done)|rfl) (D1 E g l') hO g b off cap d w (Am hE hsig.1) hcmp hH hbs (by omega)
 rw[hds] at key;refine key.mono ?_;rintro en w' ⟨rfl,d',n,os,hp,hso,rfl⟩;rw[<-hds] at hp hso;have hd'l:d'.toList.map (·.1)=l':=DM hchk (d:=d) (by rw[hd];exact hperm.symm) hp hso
 have hd's:d'.size=d.size:=hp.1;have hH':=holdsK_sortWorldK_c (λx:{d:D // d∈l'}=>x.1.flat.map fe) e.size w b off d d' n os hH hbs hd's;refine⟨rfl,hperm,?_,rfl,rfl,rfl,?_,λb' hb hb'=>?_,λi q hq=>?_⟩
 ·show w.drawn<=w.drawn+n;omega
 ·simp only[sortWorldK,grow,putRowK,putRow,mapBlock,Go.Sort.ahead,Array.size_append,Array.size_modify];omega
 ·simp only[sortWorldK,grow,putRowK,putRow,mapBlock,Go.Sort.ahead];rw[Array.getElem?_append_left (by simpa using hb'),z0c,if_neg (Ne.symm hb)]
 ·have hi:i<d'.size*e.size:=by
   have h1:=(zja.1 hq).1;rw[aB hf.nt l' hwt'] at h1;rw[hd's,hds,<-hperm.length_eq];exact h1
  have h2:=at_ d' i hi;rw[hd'l,hq] at h2;simp only[zkb,zca] at h2;have h3:=(hH' i (by rw[size_flatK];exact hi)).1
  rw[h3,<-h2];rfl
end
end Sy
end
noncomputable section
namespace Sy
open Go Go.ChangeShapes Go.WideShapes Go.ChangeAt Go.RowKit
def bool_of{W:World}{S:Nat->Nat->Prop}{b:Bool}{v:Value}(h:DR W S (.bool b) v):v=.bool b:=by
 obtain⟨h1,h2⟩:=(h:fD W S (.bool b) v);have h3:=(fg (by intro d hd;simp only[D.flat,zHa] at hd;subst hd;rfl)).1 h2
 exact am h1 (by simpa [D.flat,fe] using h3)
section
variable{H:Type}{enc:TypeId×Value->H}{P:Program}{W:World}
def KB{ty:Ty}{T:TypeId}(hl:bC P ty T=true)(hp:oB ty=true){base:Nat}{v:Value}(hv:Value.okWide P W .any base T v){d0:DataW H}{p0:List MemPlace}{spare:Nat->Bool}{held:Bool}(h:DataW.Trod enc P W 0 spare held T v d0 p0) :
  ∃ d,wt ty d/\Mb d/\fD W (oO W) d v:=by
 obtain⟨fuel,hf⟩:=h;obtain⟨d,h1,h2,h3⟩:=rE (W:=W) ty T fuel _ _ hl hp hf;refine⟨d,h1,h2,?_,h3⟩;have na:∀ {u:TypeDesc},P.underlying T=some u->(match u with|.struct _=>False|.array _ _=>False|_=>True)->∀ cs,v≠.agg cs:=λ{u} hu hn cs e=>by
  subst e;simp only[Value.okWide,hu] at hv;cases u<;>simp only[Cell.okWide,Cell.ok,hu] at hv<;>first|exact hn|(cases hv;done)|exact hv
 cases ty with
 | int k=>obtain⟨n,rfl⟩:=h1;exact na (ja hl) trivial
 | bool=>obtain⟨b,rfl⟩:=h1;exact na (u:=.bool) (by simp only[bC,zaa] at hl;have h2:=hl.2;split at h2<;>first|assumption|cases h2) trivial
 | str=>obtain⟨s,rfl⟩:=h1;exact na (u:=.string) (by simp only[bC,zaa] at hl;have h2:=hl.2;split at h2<;>first|assumption|cases h2) trivial
 | st ts=>
  obtain⟨l,rfl,_⟩:=h1;obtain⟨fs,hu,_⟩:=ij hl;obtain⟨cs,h,_⟩:=okWide_struct hu hv;exact⟨cs,h⟩
 | arr n e=>
  obtain⟨l,rfl,_⟩:=h1;obtain⟨u,hu,_⟩:=dC hl;simp only[Value.okWide,hu] at hv;obtain⟨cs,h,_⟩:=hv;exact⟨cs,h⟩
 | sl e=>
  obtain⟨l,rfl,_⟩:=h1;obtain⟨u,hu,_⟩:=ii hl;exact na hu trivial
 | tup l=>simp[bC] at hl
 | fn=>simp[bC] at hl
def yK(P:Program):List Ty->List TypeId->Bool
 | [],[]=>true
 | ty::tys,T::Ts=>bC P ty T&&oB ty&&yK P tys Ts
 | _,_=>false
theorem Ip:∀ {tys:List Ty} {Ts:List TypeId},yK P tys Ts=true->∀ {vs:List Value} {ds:List (DataW H)} {ps:List MemPlace} {base:Nat} {spare:Nat->Bool} {held:Bool},DataW.TrodAll enc P W 0 spare held Ts vs ds ps ->
  (∀ (j:Nat) t v,Ts[j]?=some t->vs[j]?=some v->Value.okWide P W .any base t v)->∃ xs,er tys xs/\w8 xs/\vs.length=xs.length/\∀ (i:Nat) (x:D) (v:Value),xs[i]?=some x->vs[i]?=some v->fD W (oO W) x v
 | [],[],_,vs,ds,ps,base,spare,held,h,hv=>by
  obtain⟨rfl,rfl,rfl⟩:=trodAll_nil h;exact⟨[],rfl,trivial,rfl,by simp⟩
 | ty::tys,T::Ts,hl,vs,ds,ps,base,spare,held,h,hv=>by
  simp only[yK,zaa] at hl;obtain⟨v,vs',d,ds',p,q,rfl,rfl,rfl,h0,h1⟩:=trodAll_cons h;obtain⟨x,x1,x2,x3⟩:=KB hl.1.1 hl.1.2 (hv 0 T v rfl rfl) h0;obtain⟨xs,y1,y2,y3,y4⟩:=Ip hl.2 h1 (λj t u a b=>hv (j+1) t u (by simpa using a) (by simpa using b))
  refine⟨x::xs,⟨x,xs,rfl,x1,y1⟩,⟨x2,y2⟩,by simp[y3],λi z u hz hu=>?_⟩
  cases i with
  | zero=>simp at hz hu;subst hz;subst hu;exact x3
  | succ i=>exact y4 i z u (by simpa using hz) (by simpa using hu)
 | [],_::_,h,_,_,_,_,_,_,_,_=>by simp[yK] at h
 | _::_,[],h,_,_,_,_,_,_,_,_=>by simp[yK] at h
theorem La:∀ {Ts:List TypeId} {vs:List Value} {ds:List (DataW H)} {ps:List MemPlace} {base:Nat} {spare:Nat->Bool} {held:Bool},DataW.TrodAll enc P W base spare held Ts vs ds ps->ds.length=Ts.length
 | [],vs,ds,ps,_,_,_,h=>by obtain⟨rfl,rfl,rfl⟩:=trodAll_nil h;rfl
 | T::Ts,vs,ds,ps,_,_,_,h=>by
  obtain⟨v,vs',d,ds',p,q,rfl,rfl,rfl,h0,h1⟩:=trodAll_cons h;simp[La h1]
theorem CI{W':World}(hl:laidOutB P=true):∀ {Ts:List TypeId},Ts.all (λt=>P.readableRec t&&decide (t<P.types.size))=true->∀ {vs:List Value} {ds:List (DataW H)} {ps:List MemPlace},
  DataW.TrodAll enc P W 0 (λ_=>true) true Ts vs ds ps->Below W.heap.size W W'->(∀ x∈ps,x.block<W.heap.size)->DataW.TrodAll enc P W' 0 (λb=>decide (b<W.heap.size)) true Ts vs ds ps
 | [],_,vs,ds,ps,h,_,_=>by
  obtain⟨rfl,rfl,rfl⟩:=trodAll_nil h;exact trodAll_mk0
 | T::Ts,ht,vs,ds,ps,h,hb,hlt=>by
  simp only[zFb,zaa,decide_eq_true_eq] at ht;obtain⟨v,vs',d,ds',p,q,rfl,rfl,rfl,h0,h1⟩:=trodAll_cons h;exact⟨p,q,Below.trod hl ht.1.1 ht.1.2 h0 hb (λx hx=>hlt x (by simp[hx])),CI hl ht.2 h1 hb (λx hx=>hlt x (by simp[hx])),rfl⟩
end
end Sy
end
noncomputable section
namespace Sy
open Go
variable{ro:Option Nat}{nn:Nat}
def Ae(s:St):List ResultVar->Option (Nat×List AV)
 | [.tmp i]=>match s.tm i with
  | .clo f l=>some (f,l)
  | _=>none
 | _=>none
def pJ(s:St)(t:Ty):List ResultVar->Option (Nat×List D)
 | [.tmp i]=>match s.tm i with
  | .own t' v l=>if t'.beq t&&!(s.dead.contains v) then some (v,l) else none
  | _=>none
 | _=>none
def I4{R:Type}(E:Env)(s sc:St)(rs:List ResultVar)(K:AV->St->Option R):Ty->Option R
 | .fn=>(Ae sc rs).bind λq=>K (.clo q.1 q.2) (nM s sc)
 | .sl t=>match pJ sc t rs with
  | some q=>K (.own t q.1 q.2) (nM s sc)
  | none=>(results E sc (.sl t) rs).bind λy=>K (.d (.sl t) y) (nM s sc)
 | rty=>(results E sc rty rs).bind λy=>K (.d rty y) (nM s sc)
def Lv(E:Env)(fn:Func)(rty:Ty)(ann:Ann)(R:Type)(s:St)(avs:List AV)(K:AV->St->Option R):Option R:=
 match fn.body with
 | none=>none
 | some c=>if avs.length<=fn.ntmps/\(c6 s).length<=4096 then IX E c ann R (I6 s fn.ntmps avs) λe sc=>match e with
   | .exit _=>none
   | _=>I4 E s sc fn.results.toList K rty
  else none
def AX(n:Nat)(rty:Ty):Bool:=match rty with|.fn=>decide (n=1)|rty=>iB n rty
section
variable{P:Program}{E:Env}{w0:Root}{S S':Nat->Nat->Prop}{γ γ':Nat->Option Nat}{β β' β'':Nat->Option (Nat×Nat)}{s sc:St}{a:Act}{w w':World}
def Ku{c:Cx}{rty:Ty}{n:Nat}{y:D}{v:Value}(hr:iB n rty=true)(hwt:wt rty y)(h:DR c.w c.S y v):AR c (.d rty y) v:=by
 simp only[AR];have key:aj rty=true\/∃ ts,rty=.tup ts/\bg ts=true:=by
  unfold iB at hr;split at hr
  ·exact .inl hr
  ·split at hr
   ·exact .inr ⟨_,rfl,hr⟩
   ·cases hr
 rcases key with n2|⟨ts,rfl,n2⟩
 ·refine .inl ⟨n2,hwt,?_⟩;cases rty<;>simp only[wt] at hwt<;>first
   | (obtain⟨m,rfl⟩:=hwt;exact h)
   | (obtain⟨m,rfl,_⟩:=hwt;exact h)
   | (exact hwt.elim)
   | (simp[aj] at n2)
 ·exact .inr ⟨ts,rfl,n2,hwt,h⟩
def CV(h:Rp w0 S γ β s a w){fn:Func}{q:Nat×List AV}(hq:Ae s fn.results.toList=some q):∃ v,(Go.results fn a.tmps).run P w=.ok v w/\AR ⟨w,S,γ,β,s.ob,s.dead⟩ (.clo q.1 q.2) v:=by
 rw[nu];have hm:fn.results.mapM (pP a.tmps)=Functor.map List.toArray (fn.results.toList.mapM (pP a.tmps)):=by
  rw[zfd]
 rw[hm];generalize fn.results.toList=rs at *;unfold Ae at hq;split at hq<;>first|(cases hq;done)|skip
 rename_i i;split at hq<;>first|(cases hq;done)|skip
 rename_i f l htm;cases hq;have hi:i<a.tmps.size:=by
  rcases zna i a.tmps.size with hlt|hge
  ·exact hlt
  ·have:=h.tmu i (by rw[<-h.nt];exact hge)
   rw[htm] at this;cases this
 have:=h.tms i hi;rw[htm] at this;exact⟨a.tmps.getD i undef,by simp[zdd,pP],this⟩
def vH(h:Rp w0 S γ β s a w){fn:Func}{t:Ty}{q:Nat×List D}(hq:pJ s t fn.results.toList=some q):∃ v,(Go.results fn a.tmps).run P w=.ok v w/\AR ⟨w,S,γ,β,s.ob,s.dead⟩ (.own t q.1 q.2) v:=by
 rw[nu];have hm:fn.results.mapM (pP a.tmps)=Functor.map List.toArray (fn.results.toList.mapM (pP a.tmps)):=by
  rw[zfd]
 rw[hm];generalize fn.results.toList=rs at *;unfold pJ at hq;split at hq<;>first|(cases hq;done)|skip
 rename_i i;split at hq<;>first|(cases hq;done)|skip
 rename_i t' v l htm;split at hq<;>first|(cases hq;done)|skip
 rename_i hb;simp only[zaa] at hb;have:=Ty.eq_of_beq _ _ hb.1;subst this;cases hq;have hi:i<a.tmps.size:=by
  rcases zna i a.tmps.size with hlt|hge
  ·exact hlt
  ·have:=h.tmu i (by rw[<-h.nt];exact hge)
   rw[htm] at this;cases this
 have:=h.tms i hi;rw[htm] at this;exact⟨a.tmps.getD i undef,by simp[zdd,pP],this⟩
def I5(hE:EnvOk P E){a':Act}(n1:Rp w0 S γ β sc a' w'){fn:Func}{rty:Ty}(hr:AX fn.results.size rty=true){R:Type}{K:AV->St->Option R}{r:R}(hq:I4 E s sc fn.results.toList K rty=some r) :
  ∃ v x,(Go.results fn a'.tmps).run P w'=.ok v w'/\AR ⟨w',S,γ,β,sc.ob,sc.dead⟩ x v/\K x (nM s sc)=some r:=by
 have plain:iB fn.results.size rty=true->(results E sc rty fn.results.toList).bind (λy=>K (.d rty y) (nM s sc))=some r->∃ v x,(Go.results fn a'.tmps).run P w'=.ok v w'/\AR ⟨w',S,γ,β,sc.ob,sc.dead⟩ x v/\K x (nM s sc)=some r:=λhr hq=>by
  obtain⟨y,h1,h2⟩:=bind_some_inv hq;obtain⟨v,k1,k2,k3⟩:=kl hE n1 hr h1;exact⟨v,_,k1,Ku hr k2 k3,h2⟩
 cases rty
 case fn=>
  obtain⟨q,h1,h2⟩:=bind_some_inv hq;obtain⟨v,k1,k2⟩:=CV (P:=P) n1 h1;exact⟨v,_,k1,k2,h2⟩
 case sl t=>
  simp only[I4] at hq;split at hq
  ·rename_i q h1;obtain⟨v,k1,k2⟩:=vH (P:=P) n1 h1;exact⟨v,_,k1,k2,hq⟩
  ·exact plain hr hq
 all_goals exact plain hr hq
def I3(hE:EnvOk P E){f:FuncId}{fn:Func}{rty:Ty}(hf:P.funcs[f]?=some fn)(hr:AX fn.results.size rty=true):Et P f (Lv E fn rty):=by
 intro ann R w0 S γ β s a w avs vs K r h hlen hAR hev;unfold Lv at hev;split at hev<;>first|(cases hev;done)|skip
 rename_i c hb;split at hev<;>first|(cases hev;done)|skip
 rename_i hcond;obtain⟨hnt,htk⟩:=hcond;obtain⟨tk,htkd⟩:∃ tk,tk=c6 s:=⟨_,rfl⟩;obtain⟨sh,hsh⟩:∃ sh:Nat->Prop,sh=λb=>(∃ id,γ id=some b)\/∃ v e,v ∉ tk++s.dead/\β v=some (b,e):=⟨_,rfl⟩;have hvl:vs.length<=fn.ntmps:=by omega
 have hntm:(vs.toArray++Array.replicate (fn.ntmps-vs.toArray.size) undef).size=fn.ntmps:=by
  simp;omega
 have le0:Cx.le ⟨w,S,γ,β,s.ob,s.dead⟩ ⟨w,S,γ,β,s.ob,tk++s.dead⟩:=
  ⟨λ_ _ _=>rfl,λ_ _ hb=>hb,λ_ _ hb=>hb,λid o ho _=>⟨o,ho,λp=>⟨rfl,rfl⟩,λt l e=>⟨l,e,rfl⟩,λ_ _ l e=>⟨l,e⟩⟩,λu hu=>⟨λhh=>hu (zQa _ hh),λb e he=>⟨he,λn hn=>hn⟩⟩⟩
 have hI:Rp ⟨w,S,sh⟩ S γ β (I6 s fn.ntmps avs) { tmps:=vs.toArray++Array.replicate (fn.ntmps-vs.toArray.size) undef,defers:=[] } w:=by
  refine BR h htkd hsh (λ_ _ hh=>hh) rfl (by rw[htkd];rfl) hntm (λt ht=>?_) λt ht=>?_
  ·have ht':fn.ntmps<=t:=ht;simp only[I6];rw[z5a,zUa (by omega)]
   rfl
  ·simp only[I6];by_cases hlt:t<vs.length
   ·have hlt':t<avs.length:=by omega
    have hv:(vs.toArray++Array.replicate (fn.ntmps-vs.toArray.size) undef).getD t undef=vs[t]:=by
     simp[Array.getD,zKc,hlt];omega
    rw[hv,z5a,zda hlt'];exact(hAR t _ _ (zda hlt') (zda hlt)).mono le0
   ·rw[z5a,zUa (by omega)]
    simp only[Option.getD_none,AR]
 refine iS hE hf hb rfl hI hev (λ_ _ hh=>by cases hh) λe sc S' γ' β' a' w' n1 n2 n3 n4=>?_
 have hres:I4 E s sc fn.results.toList K rty=some r->(∃ v,(Go.results fn a'.tmps).run P w'=.ok v w'/\∃ v' y s' S' γ' β',Ending.returned v=.returned v'/\K y s'=some r/\Rp w0 S' γ' β' s' a w'/\AR ⟨w',S',γ',β',s'.ob,s'.dead⟩ y v'/\Fm s S γ a w S' γ' a w'/\Sk s s'):=λhq=>by
  obtain⟨v,x,k1,k2,k3⟩:=I5 hE n1 hr hq;obtain⟨β'',q1,q2⟩:=Bp h htkd hsh (by rw[htkd];exact htk) n1 n2.sub n2.cell n2.gam n2.sz
  exact⟨v,k1,v,x,nM s sc,S',γ',β'',rfl,k3,q1,k2.mono q2,⟨n2.sub,n2.cell,λ_ _=>rfl,n2.objs,n2.sz,n2.gam,jW.same rfl n2.dfs.1⟩,⟨rfl,rfl,rfl⟩⟩
 cases e with
 | normal=>exact hres n4
 | ret=>exact hres n4
 | exit i=>cases n4
def Lc(E:Env)(fn:Func)(ann:Ann)(tys:List Ty)(t:Ty)(args:List D):Option (List D):=
 match fn.body with
 | none=>none
 | some c=>IX E c ann (List D) { tm:=ic tys args,ob:=λ_=>none,fresh:=0,dead:=[],nt:=fn.ntmps,lkS:=[],lkO:=[] } λe s=>match e with
  | .exit _=>none
  | _=>(pJ s t fn.results.toList).bind λq=>some q.2
def D8.ctr{ptys:List Ty}{t:Ty}{f:FuncId}{xs l:List D}(h:D8 P ptys t f xs l):Kx P ptys (.sl t) f xs (.sl l):=by
 intro w S vs hS hwt hlen hvs;refine(h w S vs hS hwt hlen hvs).mono λe w' ⟨A,cap,he,hg,hnt,hl,S',s1,s2,hcr,_⟩=>⟨_,he,hg,⟨l,rfl,hl⟩,?_⟩;exact⟨λcs hh=>(by cases hh),cF.single.2 (hcr.mono (λ_ _ _=>rfl) s2)⟩
def yf(hE:EnvOk P E){f:FuncId}{fn:Func}{ann:Ann}{ptys:List Ty}{t:Ty}{xs l:List D}(hf:P.funcs[f]?=some fn)(hsz:ptys.length<=fn.ntmps)(hn:bg ptys=true)
  (h:Lc E fn ann ptys t xs=some l):D8 P ptys t f xs l:=by
 intro w S vs hS hwt hlen hvs;unfold Lc at h;split at h<;>first|(cases h;done)|skip
 rename_i c hb;have hxl:xs.length=ptys.length:=iJ hwt;have hntm:(vs.toArray++Array.replicate (fn.ntmps-vs.toArray.size) undef).size=fn.ntmps:=by
  simp;omega
 refine iS (w0:=⟨w,S,λ_=>False⟩) (S:=S) (γ:=λ_=>none) (β:=λ_=>none) hE hf hb rfl ?_ h (λ_ _ hh=>by cases hh) λe s' S' γ' β' a' w' n1 n2 n3 n4=>?_
 ·refine⟨⟨rfl,rfl,rfl,zha _,zha _,λ_ _=>rfl⟩,λt ht=>?_,hntm,λt ht=>?_,λid o b ho=>(by cases ho),λid b hb=>(by cases hb),λid id' b hb=>(by cases hb),λ_ _=>rfl,λv b e _ hb=>(by cases hb),λv v' b e e' _ _ hb=>(by cases hb),λv id b e _ hb=>(by cases hb),λ_ _=>rfl,hS,λb o hb _=>hb⟩
  ·simp only[ic];split
   ·rename_i ty x e1 e2;have hlt:=(zja.1 e2).1;have hlt':t<vs.length:=by omega
    have hv:(vs.toArray++Array.replicate (fn.ntmps-vs.toArray.size) undef).getD t undef=vs[t]:=by
     simp[Array.getD,zKc,hlt'];omega
    show AR _ _ ((vs.toArray++Array.replicate (fn.ntmps-vs.toArray.size) undef).getD t undef);rw[hv];obtain⟨x',hx',hw'⟩:=ge hwt e1;rw[e2] at hx';cases hx';exact dc (bI hn e1) hw' (hvs t x _ e2 (zda hlt'))
   ·simp only[AR]
  ·have ht':fn.ntmps<=t:=ht;simp only[ic];rw[zUa (by omega)]
 ·have hres:(pJ s' t fn.results.toList).bind (λq=>some q.2)=some l->(∃ v,(Go.results fn a'.tmps).run P w'=.ok v w'/\∃ a cap,Ending.returned v=.returned (.slice a l.length cap)/\(∃ os d,w.drawn<=d/\w'=grown w os d)/\aj t=true/\(∀ x∈l,wt t x)/\∃ S':Nat->Nat->Prop,(∀ b o,S b o->S' b o)/\(∀ b o,S' b o->S b o\/(w.heap.size<=b/\b<w'.heap.size)) ∧
    CR w' S' (.sl l) (.slice a l.length cap)/\((a=none/\cap=0)\/∃ b off,a=some ⟨b,off,none⟩/\(w.heap.size<=b/\b<w'.heap.size)/\(∃ n,lu w' b=some n/\off+cap*t.size<=n)/\∀ o,off+l.length*t.size<=o->¬ S' b o)):=λhq=>by
   obtain⟨q,hq1,hq2⟩:=bind_some_inv hq;cases hq2;have hdd:q.1 ∉ s'.dead:=by
    unfold pJ at hq1;split at hq1<;>first|(cases hq1;done)|skip
    split at hq1<;>first|(cases hq1;done)|skip
    split at hq1<;>first|(cases hq1;done)|skip
    rename_i hb;cases hq1;simp only[zaa,zFa] at hb;simpa using hb.2
   obtain⟨v,k1,k2⟩:=vH (P:=P) n1 hq1;simp only[AR,AC] at k2;obtain⟨na,m1,m2,A,cap,m3,m4,m5⟩:=k2;refine⟨v,k1,A,cap,by rw[am na m3],gI n1.ext (λ_ hf=>hf),m1,m2,S',n2.sub,λb o hb=>?_,m4,?_⟩
   ·rcases zna b w.heap.size with hlt|hge
    ·exact .inl (n1.So b o hb ⟨hlt,λhf=>hf⟩)
    ·exact .inr ⟨hge,n1.Sb b o hb⟩
   ·rcases m5 hdd with m5|⟨b,off,rfl,m6,m7⟩
    ·exact .inl m5
    ·obtain⟨z1,z2,z3⟩:=n1.βn _ _ _ hdd m6;refine .inr ⟨b,off,rfl,⟨?_,z2⟩,m7,z3⟩;rcases zna b w.heap.size with hlt|hge
     ·exact absurd ⟨hlt,λhf=>hf⟩ z1
     ·exact hge
  cases e with
  | normal=>exact hres n4
  | ret=>exact hres n4
  | exit i=>cases n4
end
end Sy
end
noncomputable section
namespace Sy
abbrev K0:Ty:=Ty.st [Ty.int .i64,Ty.int .i64,Ty.bool,Ty.int .u8]
abbrev K1:Ty:=Ty.arr 3 (Ty.int .i64)
abbrev K2:Ty:=Ty.sl (K1)
abbrev K3:Ty:=Ty.st [K2]
abbrev K4:Ty:=Ty.st [K3,Ty.int .i64]
abbrev K5:Ty:=Ty.sl (Ty.int .i64)
abbrev K6:Ty:=Ty.st [K1,Ty.int .i64,K5]
abbrev K7:Ty:=Ty.sl (K6)
abbrev K8:Ty:=Ty.arr 2 (Ty.int .i64)
abbrev K9:Ty:=Ty.sl (K8)
abbrev aQ:Ty:=Ty.arr 16 (Ty.int .u32)
abbrev aM:Ty:=Ty.st [Ty.bool,Ty.bool,aQ]
abbrev bN:Ty:=Ty.st [aM,aM]
abbrev bS:Ty:=Ty.arr 3 (bN)
abbrev QE:Ty:=Ty.arr 3 (Ty.int .u8)
abbrev dm:Ty:=Ty.st [K1,Ty.int .i64]
abbrev L7:Ty:=Ty.sl (dm)
abbrev gf:Ty:=Ty.arr 3 (aM)
abbrev Ii:Ty:=Ty.arr 32 (Ty.int .u32)
abbrev WP:Ty:=Ty.sl (Ty.int .u32)
abbrev VN:Ty:=Ty.sl (aM)
abbrev rh:Ty:=Ty.arr 17 (Ty.int .u32)
abbrev WQ:Ty:=Ty.tup [aQ,Ty.bool]
abbrev QF:Ty:=Ty.tup [Ty.int .i64,Ty.bool]
abbrev WR:Ty:=Ty.tup [K5,K5]
abbrev WS:Ty:=Ty.tup [aQ,aQ]
abbrev WT:Ty:=Ty.tup [aM,aM]
abbrev VO:Ty:=Ty.tup [aQ,Ty.int .u32]
abbrev O2:Ty:=Ty.tup []
abbrev pY:Ty:=Ty.arr 4 (Ty.int .i64)
abbrev cG:Ty:=Ty.st [K1,pY]
abbrev Ky:Ty:=Ty.arr 2 (aM)
abbrev ML:Ty:=Ty.arr 9 (Ty.int .i64)
abbrev WU:Ty:=Ty.tup [pY,Ty.bool]
abbrev eG:Ty:=Ty.st [K1,bN]
abbrev QG:Ty:=Ty.st [eG,Ty.bool]
abbrev bx:Ty:=Ty.st [cG,K3,Ty.int .i64,K2]
abbrev xJ:Ty:=Ty.sl (bS)
abbrev WV:Ty:=Ty.sl (bx)
abbrev WW:Ty:=Ty.arr 32 (Ty.int .u8)
abbrev WX:Ty:=Ty.tup [eG,Ty.bool]
abbrev WY:Ty:=Ty.tup [bS,Ty.bool]
abbrev WZ:Ty:=Ty.tup [bN,bN]
abbrev W0:Ty:=Ty.tup [K1,Ty.int .i64]
def GU:Nat:=261
def DK:Nat:=273
abbrev bb{α:Type}(t n:Nat)(a b:α):α:=bif Nat.blt t n then a else b
abbrev Ti:Ty:=.int .i64
abbrev ed{α:Type}(a:α):Option α:=some a
abbrev aS(n:Nat)(l:List Ty)(t:Ty):Option (Nat×List Ty×Ty):=some (n,l,t)
def N3(t:Nat):Option Ty:=bif Nat.blt t GU then(bb t 130 (bb t 65 (bb t 32 (bb t 16 (bb t 8 (bb t 4 (bb t 2 none (bb t 3 (ed Ti) (ed Ti))) (bb t 6 (bb t 5 (ed Ty.bool) (ed (Ty.int .u8))) (bb t 7 (ed (Ty.int .u8)) (ed K0)))) (bb t 12 (bb t 10 (bb t 9 (ed K0) (ed Ty.str)) (bb t 11 (ed Ty.str) (ed Ty.str))) (bb t 14 (bb t 13 (ed (Ty.int .u64)) none) none))) (bb t 24 (bb t 20 none (bb t 22 (bb t 21 none (ed (Ty.int .i32))) (bb t 23 (ed K1) (ed K1)))) (bb t 28 (bb t 26 (bb t 25 (ed pY) (ed pY)) (bb t 27 (ed cG) (ed cG))) (bb t 30 (bb t 29 (ed K2) (ed K3)) (bb t 31 (ed K3) none))))) (bb t 48 (bb t 40 (bb t 36 (bb t 34 (bb t 33 none (ed (Ty.int .u32))) (bb t 35 (ed aQ) (ed aM))) (bb t 38 (bb t 37 (ed aM) (ed bN)) (bb t 39 (ed bN) (ed eG)))) (bb t 44 (bb t 42 (bb t 41 (ed eG) none) (bb t 43 none (ed QG))) (bb t 46 (bb t 45 (ed QG) none) (bb t 47 (ed bS) (ed bS))))) none)) (bb t 97 (bb t 81 (bb t 73 (bb t 69 (bb t 67 (bb t 66 none (ed QE)) none) none) (bb t 77 (bb t 75 none (bb t 76 (ed bx) (ed bx))) none)) (bb t 89 none (bb t 93 none (bb t 95 (bb t 94 (ed K7) none) (bb t 96 (ed K5) (ed K6)))))) (bb t 113 (bb t 105 (bb t 101 (bb t 99 (bb t 98 (ed K6) none) (bb t 100 none (ed xJ))) none) none) (bb t 121 (bb t 117 (bb t 115 (bb t 114 (ed gf) none) (bb t 116 (ed Ti) none)) (bb t 119 none (bb t 120 (ed Ky) none))) (bb t 125 (bb t 123 none (bb t 124 none (ed WV))) (bb t 127 none (bb t 128 none (bb t 129 (ed (Ty.int .u64)) none)))))))) (bb t 195 (bb t 162 (bb t 146 (bb t 138 (bb t 134 (bb t 132 (bb t 131 (ed (Ty.int .u64)) none) (bb t 133 (ed K9) none)) (bb t 136 (bb t 135 (ed K8) none) (bb t 137 none (ed L7)))) (bb t 142 (bb t 140 (bb t 139 none (ed dm)) (bb t 141 (ed dm) none)) (bb t 144 (bb t 143 none (ed ML)) none))) none) (bb t 178 (bb t 170 (bb t 166 (bb t 164 (bb t 163 none (ed K4)) (bb t 165 (ed K4) none)) (bb t 168 none (bb t 169 none (ed Ii)))) (bb t 174 (bb t 172 (bb t 171 none (ed WP)) none) none)) (bb t 186 (bb t 182 (bb t 180 none (bb t 181 (ed dm) (ed dm))) none) none))) (bb t 228 (bb t 211 (bb t 203 none (bb t 207 (bb t 205 (bb t 204 (ed VN) none) (bb t 206 none (ed rh))) none)) (bb t 219 none (bb t 223 (bb t 221 (bb t 220 none (ed Ti)) none) none))) (bb t 244 (bb t 236 (bb t 232 none (bb t 234 (bb t 233 (ed (Ty.int .u64)) none) none)) (bb t 240 none (bb t 242 (bb t 241 (ed WW) none) none))) (bb t 252 none (bb t 256 (bb t 254 (bb t 253 (ed (Ty.int .u8)) (ed (Ty.int .u8))) none) (bb t 258 (bb t 257 (ed (Ty.int .i32)) (ed (Ty.int .i32))) none))))))) else none
def JD(t:Nat):Option (Nat×List Ty×Ty):=bif Nat.blt t DK then(bb t 136 (bb t 68 (bb t 34 (bb t 17 (bb t 8 (bb t 4 (bb t 2 none (bb t 3 none (aS 408 [cG,K3,cG,K3] Ty.bool))) (bb t 6 (bb t 5 (aS 409 [cG,K3,cG,K3,eG,bS] Ty.bool) (aS 410 [cG,K3,cG,K3] Ty.bool)) (bb t 7 (aS 411 [cG,K3,cG,K3,K1,bN] Ty.bool) (aS 412 [cG,K3,cG,K3,K1] Ty.bool)))) (bb t 12 (bb t 10 (bb t 9 (aS 413 [K1,K1,QE,QE] Ty.bool) (aS 414 [cG,K3,cG,K3] Ty.bool)) (bb t 11 (aS 415 [] Ty.bool) (aS 416 [cG,K3,cG,K3] WX))) (bb t 14 (bb t 13 (aS 417 [cG,K3,cG,K3] QG) (aS 418 [bN] Ty.bool)) (bb t 15 (aS 187 [K1] Ty.bool) (bb t 16 (aS 419 [K1,cG,K3,cG,K3] bN) (aS 420 [K1,cG,K3,cG,K3] bN)))))) (bb t 25 (bb t 21 (bb t 19 (bb t 18 (aS 421 [eG,cG,K3,cG,K3] Ty.bool) (aS 422 [eG,cG,K3,cG,K3] Ty.bool)) (bb t 20 (aS 423 [cG,K3,bS] Ti) (aS 424 [cG,K3,bS] Ti))) (bb t 23 (bb t 22 (aS 425 [cG,K3,cG,K3] WY) (aS 426 [aM] Ti)) (bb t 24 (aS 322 [bN] Ti) (aS 64 [K1,K1] K1)))) (bb t 29 (bb t 27 (bb t 26 (aS 427 [cG] Ty.bool) (aS 428 [K1,bN] bN)) (bb t 28 (aS 40 [bN,bN] bN) (aS 63 [aM] bN))) (bb t 31 (bb t 30 (aS 33 [K1,K1] aM) (aS 429 [K1,K1] K3)) (bb t 32 (aS 430 [Ti,Ti,Ti] cG) (bb t 33 (aS 431 [K3,Ti] Ty.bool) (aS 432 [K1,Ti] eG))))))) (bb t 51 (bb t 42 (bb t 38 (bb t 36 (bb t 35 (aS 31 [K1] bS) (aS 324 [bN,bN] Ti)) (bb t 37 (aS 75 [Ti] bN) (aS 433 [cG,K3] bx))) (bb t 40 (bb t 39 none (aS 434 [K1,bx,bx] bN)) (bb t 41 (aS 342 [bN] Ti) (aS 352 [bN,bN] bN)))) (bb t 46 (bb t 44 (bb t 43 (aS 174 [bN,bN] bN) (aS 62 [aM,aM] bN)) (bb t 45 (aS 91 [K1,K1] aM) (aS 54 [Ti] aM))) (bb t 48 (bb t 47 (aS 73 [bN,bN] Ti) (aS 173 [bN,bN] bN)) (bb t 49 (aS 435 [bx,K1] bN) (bb t 50 (aS 74 [Ti] bN) (aS 436 [cG,K3,cG,K3] K2)))))) (bb t 59 (bb t 55 (bb t 53 (bb t 52 (aS 437 [K1,cG,K3] bN) (aS 70 [bN] bN)) (bb t 54 (aS 438 [K1] K1) (aS 38 [bN,bN] bN))) (bb t 57 (bb t 56 (aS 42 [Ti,Ti] bN) (aS 439 [bN] Ty.bool)) (bb t 58 (aS 39 [bN,bN] bN) (aS 97 [K1] K1)))) (bb t 63 (bb t 61 (bb t 60 (aS 357 [bN] bN) (aS 71 [bS] Ty.bool)) (bb t 62 (aS 440 [bS,bS] bS) (aS 135 [K1] bS))) (bb t 65 (bb t 64 (aS 385 [pY] Ti) (aS 18 [K3] K7)) (bb t 66 (aS 72 [K1,bS] bN) (bb t 67 (aS 386 [pY,K1] K1) (aS 441 [bS] Ty.bool)))))))) (bb t 102 (bb t 85 (bb t 76 (bb t 72 (bb t 70 (bb t 69 (aS 442 [bS,bS] bS) (aS 19 [K3] K7)) (bb t 71 (aS 340 [K1,bS] bN) (aS 373 [pY,K1] K1))) (bb t 74 (bb t 73 (aS 374 [pY] Ti) (aS 443 [bx,bx] xJ)) (bb t 75 (aS 444 [bN,Ti] WZ) (aS 371 [bS,bS] bS)))) (bb t 80 (bb t 78 (bb t 77 (aS 445 [bN,bS] bS) (aS 333 [Ti,Ti] bN)) (bb t 79 (aS 76 [aM] Ty.bool) (aS 77 [aM] K5))) (bb t 82 (bb t 81 (aS 446 [K5,Ti] Ti) (aS 88 [bN] Ty.bool)) (bb t 83 (aS 83 [aM] Ti) (bb t 84 (aS 331 [pY] Ty.bool) (aS 65 [bN,bN] bN)))))) (bb t 93 (bb t 89 (bb t 87 (bb t 86 (aS 84 [] bN) (aS 85 [aM,aM] aM)) (bb t 88 (aS 87 [aM,aM] aM) (aS 37 [aM,aM] bN))) (bb t 91 (bb t 90 (aS 59 [aM,aM] aM) (aS 89 [aM,aM] aM)) (bb t 92 (aS 133 [] aM) (aS 79 [gf,gf] aM)))) (bb t 97 (bb t 95 (bb t 94 (aS 80 [K1] gf) (aS 15 [K3] Ti)) (bb t 96 (aS 32 [aM,aM] Ti) (aS 344 [bN,Ty.bool] aM))) (bb t 99 (bb t 98 (aS 345 [aM,aM] aM) (aS 34 [Ti] aM)) (bb t 100 none (bb t 101 none (aS 447 [gf] W0))))))) (bb t 119 (bb t 110 (bb t 106 (bb t 104 (bb t 103 (aS 448 [K1] gf) (aS 449 [bx] K2)) (bb t 105 (aS 450 [K1,K1] gf) (aS 136 [bN] Ty.bool))) (bb t 108 (bb t 107 (aS 129 [aM] Ti) (aS 130 [] bN)) (bb t 109 (aS 61 [aM,aM] aM) (aS 128 [aM] Ty.bool)))) (bb t 114 (bb t 112 (bb t 111 (aS 131 [aM,aM] aM) (aS 68 [aM] aM)) (bb t 113 (aS 132 [aM,aM] aM) (aS 147 [gf,gf] aM))) (bb t 116 (bb t 115 (aS 148 [K1] gf) (aS 116 [Ty.bool,aQ] aM)) (bb t 117 (aS 90 [aM,aM] Ti) (bb t 118 (aS 137 [aM,aM] aM) (aS 57 [aM,aM] aM)))))) (bb t 127 (bb t 123 (bb t 121 (bb t 120 (aS 138 [aM] bN) (aS 451 [K2,gf,Ti] K2)) (bb t 122 (aS 22 [K3] K9) (aS 112 [K1,K1] K1))) (bb t 125 (bb t 124 (aS 379 [K1,K1] gf) (aS 452 [cG,K3] K2)) (bb t 126 (aS 86 [aM] aM) (aS 336 [bN,bN] bN)))) (bb t 131 (bb t 129 (bb t 128 (aS 392 [pY,pY] Ti) (aS 45 [K2] L7)) (bb t 130 (aS 46 [K2,dm] K5) (aS 134 [bS,bS] bN))) (bb t 133 (bb t 132 (aS 393 [pY] ML) (aS 394 [K5] Ti)) (bb t 134 (aS 48 [K2] K7) (bb t 135 (aS 41 [bS,bS] bN) (aS 387 [pY] ML))))))))) (bb t 204 (bb t 170 (bb t 153 (bb t 144 (bb t 140 (bb t 138 (bb t 137 (aS 388 [pY,pY] Ti) (aS 453 [bS,bx,bx,xJ] O2)) (bb t 139 (aS 454 [bx,Ti] bS) (aS 21 [K3] K9))) (bb t 142 (bb t 141 (aS 455 [aM,Ti] aM) (aS 169 [] aM)) (bb t 143 (aS 139 [aM] Ty.bool) (aS 140 [K5] K5)))) (bb t 148 (bb t 146 (bb t 145 (aS 141 [K5,Ti] Ti) (aS 348 [pY] Ty.bool)) (bb t 147 (aS 349 [pY] WU) (aS 125 [] aM))) (bb t 150 (bb t 149 (aS 124 [aM] QF) (aS 142 [aM] aM)) (bb t 151 (aS 143 [K5,K5] WR) (bb t 152 (aS 81 [Ty.bool,K5] aM) (aS 144 [Ti,Ti] Ti)))))) (bb t 161 (bb t 157 (bb t 155 (bb t 154 (aS 82 [K5,K5] K5) (aS 78 [K5,K5] Ty.bool)) (bb t 156 (aS 126 [K5,K5] K5) (aS 145 [Ti] Ty.bool))) (bb t 159 (bb t 158 (aS 146 [K5,K5] K5) (aS 12 [K2] K4)) (bb t 160 (aS 13 [K2,K2] Ty.bool) (aS 202 [aM] QF)))) (bb t 165 (bb t 163 (bb t 162 (aS 103 [K1,K1] K1) (aS 456 [gf,gf] gf)) (bb t 164 (aS 118 [VN] Ty.bool) (aS 119 [] aM))) (bb t 167 (bb t 166 (aS 127 [aQ] Ti) (aS 167 [aM] Ty.bool)) (bb t 168 (aS 170 [aQ,aQ] WS) (bb t 169 (aS 171 [aM] aM) (aS 172 [aM,aM] WT))))))) (bb t 187 (bb t 178 (bb t 174 (bb t 172 (bb t 171 (aS 121 [aQ,aQ] Ti) (aS 120 [aQ,aQ] WQ)) (bb t 173 (aS 122 [aQ,aQ] aQ) (aS 155 [gf] dm))) (bb t 176 (bb t 175 (aS 390 [gf,gf] gf) (aS 96 [K1,K1,K1] dm)) (bb t 177 (aS 98 [K2,dm] Ty.bool) none))) (bb t 182 (bb t 180 (bb t 179 (aS 100 [dm,dm] Ti) (aS 52 [K5] Ti)) (bb t 181 (aS 53 [Ti,Ti] Ti) (aS 101 [K1,K1] Ti))) (bb t 184 (bb t 183 (aS 102 [Ti,K5,K2,dm] Ti) (aS 104 [K1,K1,K1] Ti)) (bb t 185 (aS 106 [K1,K1,K1] K1) (bb t 186 (aS 107 [K1,K1] Ti) (aS 108 [K7,K1] Ty.bool)))))) (bb t 195 (bb t 191 (bb t 189 (bb t 188 (aS 109 [K2,K1,Ti] Ty.bool) (aS 110 [K7,K6] K7)) (bb t 190 (aS 111 [K2,K1,Ti] K5) none)) (bb t 193 (bb t 192 (aS 51 [K8,K8] Ti) (aS 217 [aM] Ti)) (bb t 194 (aS 457 [aM,aQ,K5] aM) (aS 197 [aQ,Ti] VO)))) (bb t 199 (bb t 197 (bb t 196 (aS 201 [aQ,Ti] aQ) (aS 364 [Ti,Ti] Ti)) (bb t 198 (aS 365 [Ti] Ti) (aS 175 [K5,Ti] Ti))) (bb t 201 (bb t 200 (aS 47 [K2] K2) (aS 154 [K1,K1] K1)) (bb t 202 (aS 203 [aM,aM] aM) (bb t 203 (aS 195 [aQ,Ty.int .u32] VO) (aS 196 [Ty.int .u32] Ti)))))))) (bb t 238 (bb t 221 (bb t 212 (bb t 208 (bb t 206 none (bb t 207 none (aS 168 [Ty.int .u32,Ty.int .u32] Ti))) (bb t 210 (bb t 209 (aS 186 [aM] QF) (aS 395 [aM,aM,aM,aM] aM)) (bb t 211 (aS 117 [K1,K1] K1) (aS 152 [Ti,Ti] Ti)))) (bb t 216 (bb t 214 (bb t 213 none (aS 114 [Ty.int .u64] Ti)) (bb t 215 (aS 115 [Ti] Ty.bool) (aS 123 [K1,K1] K1))) (bb t 218 (bb t 217 (aS 105 [K1,K1] Ty.bool) (aS 156 [K2,K1,Ti,K1,K1] Ty.bool)) (bb t 219 none (bb t 220 (aS 165 [Ty.int .u32] Ti) (aS 458 [aQ] Ti)))))) (bb t 229 (bb t 225 (bb t 223 (bb t 222 (aS 194 [Ty.int .u32] Ty.bool) (aS 396 [aM,aM] aM)) none) none) (bb t 233 (bb t 231 none (bb t 232 (aS 166 [Ty.int .u64] Ti) (aS 188 [K1,K1] Ti))) none))) (bb t 255 (bb t 246 (bb t 242 (bb t 240 none (bb t 241 none (aS 459 [Ty.int .u32] Ti))) (bb t 244 (bb t 243 none (aS 190 [Ti] (Ty.int .u64))) none)) (bb t 250 (bb t 248 (bb t 247 none (aS 215 [Ti] Ti)) none) none)) none)))) else none
def oI(t:Nat):Option (List Ty×Ty):=match JD t with|some p=>some p.2|none=>none
def rT(t:Nat):Nat:=match JD t with|some p=>p.1|none=>0
def iX(t:Nat):Nat:=(bb t 136 0 (bb t 204 (bb t 170 (bb t 153 (bb t 144 (bb t 140 (bb t 138 (bb t 137 0 3) 0) 0) 0) 0) (bb t 187 (bb t 178 0 (bb t 182 0 (bb t 184 (bb t 183 3 0) 0))) 0)) 0))
def FB(t:Nat):Option (Ty×Ty):=bif Nat.blt t GU then(bb t 130 (bb t 65 none (bb t 97 none (bb t 113 none (bb t 121 (bb t 117 none (bb t 119 none (bb t 120 none (some (K1,Ty.bool))))) none)))) (bb t 195 (bb t 162 none (bb t 178 none (bb t 186 (bb t 182 none (bb t 184 (bb t 183 none (some (dm,Ty.bool))) none)) none))) none)) else none
def S5:List Nat:=[0,1,2,0,0,0,0,0,0,0,0,0,158,159,0,94,0,0,64,69,0,139,121,0,0,0,0,0,0,0,0,34,95,29,98,0,0,88,54,57,27,134,55,0,0,128,129,199,133,0,190,191,179,180,45,0,0,118,0,89,0,108,43,28,24,84,0,0,111,0,52,60,65,46,49,36,78,79,154,92,93,151,153,82,85,86,125,87,81,90,116,44,0,0,0,0,175,58,176,177,178,181,182,161,183,216,184,185,186,187,188,189,122,218,213,214,115,210,163,164,171,170,172,215,148,147,155,165,109,106,107,110,112,91,130,62,105,117,119,142,143,144,149,150,152,156,157,113,114,0,0,0,211,212,200,173,217,233,234,235,236,237,238,239,240,219,231,166,207,141,167,168,169,47,42,198,0,0,223,224,225,226,227,228,229,230,208,14,232,248,243,244,249,250,221,202,203,194,204,205,206,195,160,201,0,0,0,0,0,0,0,0,242,245,246,247,252,192,0,0,0,251,0,253,254,255,256,257,258,259,260,261,262,263,264,265,266,267,268,0,0,0,0,0,0,0,0,0,0,0,0,0,0,0,0,0,0,0,0,0,0,0,0,0,0,0,0,0,0,0,0,0,0,0,0,0,0,0,0,0,0,0,0,0,0,0,0,0,0,0,0,0,0,0,0,0,0,0,0,0,0,0,0,0,0,0,0,0,0,0,0,0,0,0,0,0,0,0,0,0,0,0,23,0,35,0,0,0,0,0,0,83,0,77,0,0,126,0,0,0,70,0,40,0,96,97,0,0,145,146,0,0,41,0,0,0,0,59,0,0,0,0,0,0,196,197,0,0,0,0,0,75,0,71,72,0,0,0,0,123,0,0,0,0,0,63,66,135,136,0,174,0,127,131,132,209,222,0,0,0,0,0,0,0,0,0,0,0,3,4,5,6,7,8,9,10,11,12,13,15,16,17,18,19,20,21,22,25,26,30,31,32,33,37,39,48,50,51,53,56,61,67,68,73,74,76,80,101,102,103,104,120,124,137,138,140,162,193,220,241,269,270,271,272,38,100,99]
def bV(k:Nat):Nat:=S5.getD k 0
def NR:List Nat:=[73]
def oA(f:Nat):Bool:=NR.any (Nat.beq f)
def VZ:List Nat:=[49,120]
def T7(t:Nat):Bool:=VZ.any (Nat.beq t)
def cH(lp:{α β:Type}->(α->Option (Sum α β))->α->Option β)(call:Nat->List D->Option D)(inl:Inl):Env:={ L:=N3,sig:=oI,call:=λf=>call (rT f),mapL:=FB,fnT:=T7,ownF:=oA,lp:=lp,inl:=inl.f,cod:=inl.cod,free:=iX,pv:=inl.pv }
def BV:List (Nat×(Func×Ty))->Nat->Option (Func×Ty)
 | [],_=>none
 | p::l,f=>bif Nat.beq f p.1 then some p.2 else BV l f
theorem pF:∀ {l:List (Nat×(Func×Ty))} {f:Nat} {p:Func×Ty},BV l f=some p->(f,p)∈l
 | [],_,_,h=>by cases h
 | q::l,f,p,h=>by
  simp only[BV] at h;cases hb:Nat.beq f q.1
  ·rw[hb] at h;exact zia _ (pF h)
  ·rw[hb] at h;cases h;rw[zic hb];exact zoa
open Go.Proofs in
def LL:List (Nat×(Func×Ty)):=[(38,(Tryz.f38,Ty.fn)),(99,(Tryz.f99,O2)),(100,(Tryz.f100,Ty.bool)),(137,(Tryz.f137,O2)),(178,(Tryz.f178,Ty.int .i64)),(182,(Tryz.f182,Ty.int .i64)),(191,(Tryz.f191,Ty.int .i64)),(204,(Tryz.f204,Ty.int .u64)),(205,(Tryz.f205,Ty.bool)),(206,(Tryz.f206,O2))]
open Go.Proofs in
def JL:List (Nat×(Func×Ty)):=LL++[(69,(Tryz.f69,K7)),(120,(Tryz.f120,K2)),(133,(Tryz.f133,K7)),(188,(Tryz.f188,K7))]
def JJ(v f:Nat):Option (Func×Ty):=BV (bif Nat.beq v 2 then JL else LL) f
def Gv{v f:Nat}{p:Func×Ty}(h:JJ v f=some p):(f,p)∈JL:=by
 unfold JJ at h;cases hb:Nat.beq v 2
 ·rw[hb] at h;exact List.mem_append_left _ (pF h)
 ·rw[hb] at h;exact pF h
end Sy
end
noncomputable section
namespace Sy
open Go
def sS(P:Program):Bool:=((List.range GU).all λt=>match N3 t with|some ty=>bC P ty t&&decide (ty.high<=1000)&&aj ty|none=>true)&&VZ.all (IZ P)
def Gn(P:Program)(f:Nat)(g:List Ty×Ty):Bool:=
 bg g.1 && (aj g.2 || match g.2 with | .tup ts => bg ts | _ => false) && match P.funcs[f]? with | some fn => !(fn.name == "runtime.NumGoroutine") && fn.body.isSome | none => false
def Ay(P:Program):Bool:=(List.range GU).all λt=>match FB t with|some g=>bH g.1&&decide (g.1.high<=1000)&&(match P.underlying t with|some (.map K V)=>bC P g.1 K&&bC P g.2 V|_=>false)|none=>true
def A1(P:Program):Bool:=(List.range DK).all λf=>match oI f with|some g=>Gn P f g|none=>true
def JP{t:Nat}{ty:Ty}(h:N3 t=some ty):t<GU:=by
 unfold N3 at h;rcases zna t GU with k|k
 ·exact k
 ·have:Nat.blt t GU=false:=zXb.2 λhb=>absurd (Nat.blt_eq ▸ hb) (zwc.2 k);rw[this] at h;cases h
def FC{t:Nat}{g:Ty×Ty}(h:FB t=some g):t<GU:=by
 unfold FB at h;rcases zna t GU with k|k
 ·exact k
 ·have:Nat.blt t GU=false:=zXb.2 λhb=>absurd (Nat.blt_eq ▸ hb) (zwc.2 k);rw[this] at h;cases h
def zD{t:Nat}{ty:List Ty×Ty}(h:oI t=some ty):t<DK:=by
 unfold oI JD at h;rcases zna t DK with k|k
 ·exact k
 ·have:Nat.blt t DK=false:=zXb.2 λhb=>absurd (Nat.blt_eq ▸ hb) (zwc.2 k);rw[this] at h;cases h
def gw(P:Program)(call:Nat->List D->Option D):Prop:=∀ f ptys rty xs y,oI f=some (ptys,rty)->call (rT f) xs=some y->er ptys xs->GW P (oA f) (iX f) ptys rty f xs y
abbrev Lp:Type 1:={α β:Type}->(α->Option (Sum α β))->α->Option β
def ak(lp:Lp):Prop:=∀ (α β:Type) (body:α->Option (Sum α β)) (x:α) (y:β),lp body x=some y->∃ n,od body n x=some y
def vh(N:Nat):ak (λbody=>od body N):=λ_ _ _ _ _ h=>⟨N,h⟩
def sZ:ak (λbody=>lc body):=λ_ _ _ _ _ h=>m8 h
def Fp(pv:Bool)(tab:Nat->Option (Func×Ty))(lp:Lp)(call:Nat->List D->Option D):Nat->Inl
 | 0=>⟨pv,λ_=>none,λ_ _ _ _ _=>none⟩
 | n+1=>⟨pv,λf=>match tab f with
  | some p=>some (Lv (cH lp call (Fp pv tab lp call n)) p.1 p.2)
  | none=>none,λc an R s k=>IX (cH lp call (Fp pv tab lp call n)) c an R s k⟩
def Lj{P:Program}(h:sS P=true){t:Nat}(ht:T7 t=true):IZ P t=true:=by
 simp only[sS,zaa] at h;exact zka.1 h.2 t (by simpa [T7] using ht)
section
variable{P:Program}
def su(h1:sS P=true)(h2:A1 P=true)(h4:Ay P=true)(h3:P.follows .mixedOrders=true){lp:Lp}(hlp:ak lp){call:Nat->List D->Option D}(hc:gw P call)
  {inl : Inl} (hcod : D7 P inl.cod) (hi : ∀ f g, inl.f f = some g -> (∃ fn, P.funcs[f]? = some fn /\ (fn.name == "runtime.NumGoroutine") = false /\ fn.body.isSome = true) /\ Et P f g) : EnvOk P (cH lp call inl) := by
 have k1:∀ t ty,N3 t=some ty->bC P ty t=true/\ty.high<=1000/\aj ty=true:=λt ty ht=>by
  have:=zka.1 (zaa _ _ ▸ h1:_/\_).1 t (zNa.2 (JP ht));rw[ht] at this;simp only[zaa,decide_eq_true_eq] at this;exact⟨this.1.1,this.1.2,this.2⟩
 refine⟨λt ty ht=>.inr (k1 t ty ht).1,λt ty ht=>(k1 t ty ht).2.1,λt ty ht=>(k1 t ty ht).2.2,λf ptys rty hf=>?_,hc,h3,hlp,λt kt vt ht=>?_,hi,hcod,λt ht=>Lj h1 ht⟩
 ·have:=zka.1 h2 f (zNa.2 (zD hf));rw[show oI f=some (ptys,rty) from hf] at this;simp only[Gn,zaa,zCb] at this;obtain⟨⟨q1,q2⟩,q3⟩:=this;refine⟨q1,?_,?_⟩
  ·rcases q2 with q2|q2
   ·exact .inl q2
   ·right;split at q2
    ·rename_i ts;exact⟨_,rfl,q2⟩
    ·cases q2
  ·split at q3
   ·rename_i fn hfn;simp only[zaa,zFa] at q3;exact⟨fn,hfn,q3⟩
   ·cases q3
 ·have:=zka.1 h4 t (zNa.2 (FC ht));rw[show FB t=some (kt,vt) from ht] at this;simp only[zaa,decide_eq_true_eq] at this;obtain⟨⟨m1,m2⟩,m3⟩:=this;refine⟨m1,?_⟩;split at m3<;>first|(cases m3;done)|skip
  rename_i K V hu;simp only[zaa] at m3;exact⟨K,V,hu,m3.1,m3.2,m2⟩
def A5 (P : Program) (f : Nat) (p : Func × Ty) : Prop := P.funcs[f]? = some p.1 /\ (!(p.1.name == "runtime.NumGoroutine") && p.1.body.isSome && AX p.1.results.size p.2) = true
theorem wM{pv:Bool}{tab:Nat->Option (Func×Ty)}(h1:sS P=true)(h2:A1 P=true)(h4:Ay P=true)(h3:P.follows .mixedOrders=true)(ht:∀ f p,tab f=some p->A5 P f p){lp:Lp}(hlp:ak lp){call:Nat->List D->Option D}(hc:gw P call) :
  ∀ n,EnvOk P (cH lp call (Fp pv tab lp call n))
 | 0=>su h1 h2 h4 h3 hlp hc (λ_ _ _ _ _ _ _ _ _ _ _ _ _ _ _ _ _ h=>by cases h) λf g h=>by cases h
 | n+1=>su h1 h2 h4 h3 hlp hc (KY (wM h1 h2 h4 h3 ht hlp hc n)) λf g h=>by
  simp only[Fp] at h;split at h<;>first|(cases h;done)|skip
  rename_i p hp;cases h;obtain⟨q1,q2⟩:=ht f p hp;simp only[zaa,zFa] at q2;exact⟨⟨p.1,q1,q2.1.1,q2.1.2⟩,I3 (wM h1 h2 h4 h3 ht hlp hc n) q1 q2.2⟩
end
end Sy
end
noncomputable section
namespace Sy
open Go Go.Proofs
def yJ:sS Tryz.prog=true:=by kernel_rfl
def zC:A1 Tryz.prog=true:=by kernel_rfl
def yP:Ay Tryz.prog=true:=by kernel_rfl
def Az:Tryz.prog.follows .mixedOrders=true:=by kernel_rfl
def Fo(v:Nat)(lp:Lp)(call:Nat->List D->Option D):Inl:=Fp (Nat.beq v 1) (JJ v) lp call 9
noncomputable abbrev iO(lp:Lp)(call:Nat->List D->Option D):Inl:=Fo 0 lp call
def JK(v:Nat):∀ f p,JJ v f=some p->A5 Tryz.prog f p:=by
 intro f p h;have key:∀ q∈JL,A5 Tryz.prog q.1 q.2:=by
  intro q hq;simp only[JL,LL,zib,z2b,zva,zUb,or_false] at hq;repeat' first
   | (rcases hq with hq|hq;· subst hq;exact⟨by kernel_rfl,by kernel_rfl⟩)
   | (subst hq;exact⟨by kernel_rfl,by kernel_rfl⟩)
 exact key (f,p) (Gv h)
def Nz{v:Nat}{lp:Lp}(hlp:ak lp){call:Nat->List D->Option D}(hc:gw Tryz.prog call):EnvOk Tryz.prog (cH lp call (Fo v lp call)):=
 wM yJ zC yP Az (JK v) hlp hc 9
def NA{lp:Lp}(hlp:ak lp){call:Nat->List D->Option D}(hc:gw Tryz.prog call):EnvOk Tryz.prog (cH lp call (iO lp call)):=Nz hlp hc
def NP(o:Oper):Option ByteArray:=match o.op with|.index _ (.const (.string s)) _=>some s|_=>none
def oL:Code->Option ByteArray
 | .region _ ops _=>ops.toList.findSome? NP
 | .seq a b=>(oL a).orElse λ_=>oL b
 | .cond _ a b=>(oL a).orElse λ_=>oL b
 | .block _ a=>oL a
 | .loop a=>oL a
 | .scope a=>oL a
 | _=>none
def EX(f:Func):Code:=match f.body with|some c=>c|none=>.skip
end Sy
end
noncomputable section
namespace Sy
open Go Go.Proofs
inductive CT where
 | leaf (k:Nat) (g:(Nat->List D->Option D)->List D->Option D)
 | node (m:Nat) (a b:CT)
def CT.get:CT->Nat->(Nat->List D->Option D)->List D->Option D
 | .leaf k g,f,call,xs=>bif Nat.beq f k then g call xs else none
 | .node m a b,f,call,xs=>bif Nat.blt f m then a.get f call xs else b.get f call xs
def af(f:Nat)(g:(Nat->List D->Option D)->List D->Option D):Prop:=
 ∀ call,gw Tryz.prog call->∀ ptys rty xs y,oI (bV f)=some (ptys,rty)->g call xs=some y->er ptys xs->GW Tryz.prog (oA (bV f)) (iX (bV f)) ptys rty (bV f) xs y
def CT.ok:CT->Prop
 | .leaf k g=>af k g
 | .node _ a b=>a.ok/\b.ok
theorem CT.get_ok':∀ {t:CT},t.ok->∀ {call},gw Tryz.prog call->∀ f ptys rty xs y,oI (bV f)=some (ptys,rty)->t.get f call xs=some y->er ptys xs->GW Tryz.prog (oA (bV f)) (iX (bV f)) ptys rty (bV f) xs y
 | .leaf k g,h,call,hc,f,ptys,rty,xs,y,hs,hy,hw=>by
  simp only[CT.get] at hy;cases hb:Nat.beq f k with
  | false=>rw[hb] at hy;cases hy
  | true=>
   rw[hb] at hy;have:=zic hb;subst this;exact h call hc ptys rty xs y hs hy hw
 | .node m a b,h,call,hc,f,ptys,rty,xs,y,hs,hy,hw=>by
  simp only[CT.get] at hy;cases hb:Nat.blt f m with
  | false=>rw[hb] at hy;exact CT.get_ok' h.2 hc f ptys rty xs y hs hy hw
  | true=>rw[hb] at hy;exact CT.get_ok' h.1 hc f ptys rty xs y hs hy hw
def KA:((List.range DK).all λf=>match JD f with|some p=>Nat.beq (bV p.1) f|none=>true)=true:=by kernel_rfl
def Il{f:Nat}{g:List Ty×Ty}(h:oI f=some g):bV (rT f)=f:=by
 have h2:=zka.1 KA f (zNa.2 (zD h));unfold oI at h;unfold rT;split at h<;>first|(cases h;done)|skip
 rename_i p hp;rw[hp] at h2;exact zic h2
def CT.get_ok{t:CT}(h:t.ok){call}(hc:gw Tryz.prog call):gw Tryz.prog λf xs=>t.get f call xs:=λf ptys rty xs y hs hy hw=>by
 have e:=Il hs;have:=CT.get_ok' h hc (rT f) ptys rty xs y (by rw[e];exact hs) hy hw
 rwa [e] at this
def C1(v:Nat)(lp:Lp)(f:Nat)(fn:Func)(ann:Ann)(call:Nat->List D->Option D)(xs:List D):Option D:=
 (oI (bV f)).bind λs=>bif oA (bV f) then(match s.2 with|.sl t=>(Lc (cH lp call (Fo v lp call)) fn ann s.1 t xs).bind λl=>some (.sl l)|_=>none) else bif Nat.beq (iX (bV f)) 0 then T4 (cH lp call (Fo v lp call)) fn ann s.1 s.2 xs else Ld (cH lp call (Fo v lp call)) fn ann s.1 (iX (bV f)) s.2 xs
def I9(f:Nat)(fn:Func):Bool:=match oI (bV f) with
 | some (p,r)=>decide (p.length<=fn.ntmps)&&iB fn.results.size r&&bg p&&(decide (iX (bV f)<=p.length)&&(bif oA (bV f) then Nat.beq (iX (bV f)) 0 else decide (iX (bV f)<=4095)))
 | none=>false
def oh{v:Nat}{lp:Lp}(hlp:ak lp){f:Nat}{fn:Func}{ann:Ann}(hf:Tryz.prog.funcs[bV f]?=some fn)(hk:I9 f fn=true):af f (C1 v lp f fn ann):=by
 intro call hc ptys rty xs y hs hy hw;unfold C1 at hy;unfold I9 at hk;rw[hs] at hy hk;simp only[zba] at hy;simp only[zaa,decide_eq_true_eq] at hk;obtain⟨⟨⟨k1,k2⟩,k3⟩,k4,k5⟩:=hk;have hE:=Nz (v:=v) hlp hc;cases how:oA (bV f) with
 | true=>
  rw[how] at hy;simp only[cond_true] at hy;split at hy<;>first|(cases hy;done)|skip
  rename_i t;obtain⟨l,h1,h2⟩:=bind_some_inv hy;cases h2;have hO:=yf hE hf k1 k3 h1;have h0:iX (bV f)=0:=by
   rw[how] at k5;simpa using k5
  rw[h0];exact⟨hO.ctr,λ_=>⟨t,l,rfl,rfl,hO⟩⟩
 | false=>
 rw[how] at hy;simp only[cond_false] at hy;refine⟨?_,λh=>by cases h⟩
 cases hz:iX (bV f) with
 | zero=>
  rw[hz] at hy;exact CY hE hf k1 k3 k2 hy
 | succ k=>
  rw[hz] at hy;exact Ah hE hf k1 k3 (by rw[<-hz];exact k4) (by rw[<-hz];rw[how] at k5;simpa using k5) k2 hy
abbrev Ann.tl(a:Ann):Ann:=.two .leaf a
section
variable{α:Type}
noncomputable abbrev qT(x:D)(f:Bool->Option α):Option α:=(D.truth x).bind f
noncomputable abbrev qG(x:D)(p:List Nat)(f:D->Option α):Option α:=(D.get x p).bind f
noncomputable abbrev qS(x:D)(f:List D->Option α):Option α:=(D.asSl x).bind f
noncomputable abbrev qI(x:D)(l:List D)(f:D->Option α):Option α:=(D.idx x l.length).bind λk=>(l[k]?).bind f
noncomputable abbrev qB(o:BinOp)(x y:D)(f:D->Option α):Option α:=(D.bin o x y).bind f
noncomputable abbrev qC(o:BinOp)(x y:D)(f:Bool->Option α):Option α:=(D.bin o x y).bind λz=>(D.truth z).bind f
noncomputable abbrev qN(x:D)(f:Bool->Option α):Option α:=(D.un .not x).bind λz=>(D.truth z).bind f
noncomputable abbrev qX(x i:D)(f:D->Option α):Option α:=(D.asSl x).bind λl=>(D.idx i l.length).bind λk=>(l[k]?).bind f
noncomputable abbrev qL(x i:D)(f:Bool->Option α):Option α:=(D.asSl x).bind λl=>(D.bin .lss i (.int .i64 l.length)).bind λz=>(D.truth z).bind f
noncomputable abbrev qY(x:D)(p:List Nat)(i:D)(f:D->Option α):Option α:=(D.get x p).bind λx=>(D.asSl x).bind λl=>(D.idx i l.length).bind λk=>(l[k]?).bind f
noncomputable abbrev qM(x:D)(p:List Nat)(i:D)(f:Bool->Option α):Option α:=(D.get x p).bind λx=>(D.asSl x).bind λl=>(D.bin .lss i (.int .i64 l.length)).bind λz=>(D.truth z).bind f
noncomputable abbrev qP(x:D)(p:List Nat)(f:List D->Option α):Option α:=(D.get x p).bind λx=>(D.asSl x).bind f
noncomputable abbrev qJ(i:D)(n:Nat)(x:D)(f:D->Option α):Option α:=(D.idx i n).bind λk=>(D.get x [k]).bind f
end
abbrev qV(l:List D)(i:Nat):List D:=(l.getD i (.bool false)).els
abbrev qW(l:List D)(i:Nat):D:=D.sl ((l.getD i (.bool false)).els)
abbrev qZ(lp:Lp)(f:List D->Option (Sum (List D) (Nat×List D))):List D->Option (Nat×List D):=lp f
abbrev iL(l:List D):Option (Sum (List D) (Nat×List D)):=some (Sum.inl l)
abbrev iR(l:Nat×List D):Option (Sum (List D) (Nat×List D)):=some (Sum.inr l)
abbrev LO:Type:=List (Nat×ShO)
abbrev LS:Type:=List (Nat×Sh)
abbrev Jn(n:Int):D:=.int .i64 n
abbrev Ca:Type:=Nat->List D->Option D
abbrev Sh.di:Sh:=.dv (.int .i64)
abbrev Sh.sp(t:Ty)(i:Nat):Sh:=.same (.ptr t i [])
def m0(F:(Nat->List D->Option D)->Option D)(call:Nat->List D->Option D)(xs:List D):Option D:=match xs with|[]=>F call|_=>none
def u6(v:Nat)(fn:Func)(ann:Ann){lp:Lp}(hlp:ak lp){f:Nat}{F:(Nat->List D->Option D)->Option D}(hf:Tryz.prog.funcs[bV f]?=some fn:=by kernel_rfl)(hk:I9 f fn=true:=by kernel_rfl)
  (hE:∀ call,C1 v lp f fn ann call []=F call:=by intros;kernel_rfl):af f (m0 F):=by
 intro call hc ptys rty xs y hs hy hw;unfold m0 at hy;split at hy<;>first|(cases hy;done)|skip
 exact oh (v:=v) hlp hf hk call hc ptys rty _ y hs ((hE call).trans hy) hw
def m1(F:(Nat->List D->Option D)->D->Option D)(call:Nat->List D->Option D)(xs:List D):Option D:=match xs with|[a0]=>F call a0|_=>none
def bc(v:Nat)(fn:Func)(ann:Ann){lp:Lp}(hlp:ak lp){f:Nat}{F:(Nat->List D->Option D)->D->Option D}(hf:Tryz.prog.funcs[bV f]?=some fn:=by kernel_rfl)(hk:I9 f fn=true:=by kernel_rfl)
  (hE:∀ call a0,C1 v lp f fn ann call [a0]=F call a0:=by intros;kernel_rfl):af f (m1 F):=by
 intro call hc ptys rty xs y hs hy hw;unfold m1 at hy;split at hy<;>first|(cases hy;done)|skip
 exact oh (v:=v) hlp hf hk call hc ptys rty _ y hs ((hE call _).trans hy) hw
def m2(F:(Nat->List D->Option D)->D->D->Option D)(call:Nat->List D->Option D)(xs:List D):Option D:=match xs with|[a0,a1]=>F call a0 a1|_=>none
def aA(v:Nat)(fn:Func)(ann:Ann){lp:Lp}(hlp:ak lp){f:Nat}{F:(Nat->List D->Option D)->D->D->Option D}(hf:Tryz.prog.funcs[bV f]?=some fn:=by kernel_rfl)(hk:I9 f fn=true:=by kernel_rfl)
  (hE:∀ call a0 a1,C1 v lp f fn ann call [a0,a1]=F call a0 a1:=by intros;kernel_rfl):af f (m2 F):=by
 intro call hc ptys rty xs y hs hy hw;unfold m2 at hy;split at hy<;>first|(cases hy;done)|skip
 exact oh (v:=v) hlp hf hk call hc ptys rty _ y hs ((hE call _ _).trans hy) hw
def m3(F:(Nat->List D->Option D)->D->D->D->Option D)(call:Nat->List D->Option D)(xs:List D):Option D:=match xs with|[a0,a1,a2]=>F call a0 a1 a2|_=>none
def og(v:Nat)(fn:Func)(ann:Ann){lp:Lp}(hlp:ak lp){f:Nat}{F:(Nat->List D->Option D)->D->D->D->Option D}(hf:Tryz.prog.funcs[bV f]?=some fn:=by kernel_rfl)(hk:I9 f fn=true:=by kernel_rfl)
  (hE:∀ call a0 a1 a2,C1 v lp f fn ann call [a0,a1,a2]=F call a0 a1 a2:=by intros;kernel_rfl):af f (m3 F):=by
 intro call hc ptys rty xs y hs hy hw;unfold m3 at hy;split at hy<;>first|(cases hy;done)|skip
 exact oh (v:=v) hlp hf hk call hc ptys rty _ y hs ((hE call _ _ _).trans hy) hw
def m4(F:(Nat->List D->Option D)->D->D->D->D->Option D)(call:Nat->List D->Option D)(xs:List D):Option D:=match xs with|[a0,a1,a2,a3]=>F call a0 a1 a2 a3|_=>none
def Fy(v:Nat)(fn:Func)(ann:Ann){lp:Lp}(hlp:ak lp){f:Nat}{F:(Nat->List D->Option D)->D->D->D->D->Option D}(hf:Tryz.prog.funcs[bV f]?=some fn:=by kernel_rfl)(hk:I9 f fn=true:=by kernel_rfl)
  (hE:∀ call a0 a1 a2 a3,C1 v lp f fn ann call [a0,a1,a2,a3]=F call a0 a1 a2 a3:=by intros;kernel_rfl):af f (m4 F):=by
 intro call hc ptys rty xs y hs hy hw;unfold m4 at hy;split at hy<;>first|(cases hy;done)|skip
 exact oh (v:=v) hlp hf hk call hc ptys rty _ y hs ((hE call _ _ _ _).trans hy) hw
def m5(F:(Nat->List D->Option D)->D->D->D->D->D->Option D)(call:Nat->List D->Option D)(xs:List D):Option D:=match xs with|[a0,a1,a2,a3,a4]=>F call a0 a1 a2 a3 a4|_=>none
def BT(v:Nat)(fn:Func)(ann:Ann){lp:Lp}(hlp:ak lp){f:Nat}{F:(Nat->List D->Option D)->D->D->D->D->D->Option D}(hf:Tryz.prog.funcs[bV f]?=some fn:=by kernel_rfl)(hk:I9 f fn=true:=by kernel_rfl)
  (hE:∀ call a0 a1 a2 a3 a4,C1 v lp f fn ann call [a0,a1,a2,a3,a4]=F call a0 a1 a2 a3 a4:=by intros;kernel_rfl):af f (m5 F):=by
 intro call hc ptys rty xs y hs hy hw;unfold m5 at hy;split at hy<;>first|(cases hy;done)|skip
 exact oh (v:=v) hlp hf hk call hc ptys rty _ y hs ((hE call _ _ _ _ _).trans hy) hw
def m6(F:(Nat->List D->Option D)->D->D->D->D->D->D->Option D)(call:Nat->List D->Option D)(xs:List D):Option D:=match xs with|[a0,a1,a2,a3,a4,a5]=>F call a0 a1 a2 a3 a4 a5|_=>none
def leaf6(v:Nat)(fn:Func)(ann:Ann){lp:Lp}(hlp:ak lp){f:Nat}{F:(Nat->List D->Option D)->D->D->D->D->D->D->Option D}(hf:Tryz.prog.funcs[bV f]?=some fn:=by kernel_rfl)(hk:I9 f fn=true:=by kernel_rfl)
  (hE:∀ call a0 a1 a2 a3 a4 a5,C1 v lp f fn ann call [a0,a1,a2,a3,a4,a5]=F call a0 a1 a2 a3 a4 a5:=by intros;kernel_rfl):af f (m6 F):=by
 intro call hc ptys rty xs y hs hy hw;unfold m6 at hy;split at hy<;>first|(cases hy;done)|skip
 exact oh (v:=v) hlp hf hk call hc ptys rty _ y hs ((hE call _ _ _ _ _ _).trans hy) hw
abbrev gx(l:List D)(i:Nat):D:=l.getD i (.bool false)
end Sy
end
noncomputable section
set_option maxHeartbeats 0
noncomputable section
namespace Sy
open Go Go.Proofs
def Wa:Ann:=let o0:LO:=[(4098,.one K4 (.st [K3,Ti] [.st [K2] [.ow K1],.di])),(36871,.one K4 (.st [K3,Ti] [.st [K2] [.ow K1],.di]))]
 let o1:LO:=[(4098,.one K4 (.st [K3,Ti] [.st [K2] [.ow K1],.di]))]
 let o2:LS:=[(2,.sp K4 4098),(7,.sp K4 36871),(9,.dv Ty.bool)]
 let o3:LS:=[(2,.sp K4 4098),(7,.sp K4 36871)]
 (.tl (.tl (.two (.tl (.two (.loop ⟨[(2,.sp K4 4098),(3,.di)],o1,[0]⟩ [(.ret,⟨[(2,.sp K4 4098)],o1,[]⟩),(.exit 0,⟨[(2,.sp K4 4098)],o1,[0]⟩)] (.tl (.two (.two (.tl (.two (.loop ⟨[(2,.sp K4 4098),(4,.di)],o1,[0,3]⟩ [(.ret,⟨[(2,.sp K4 4098)],o1,[]⟩),(.exit 2,⟨[(2,.sp K4 4098)],o1,[0,3]⟩)] .leaf) .leaf)) .leaf) .leaf))) .leaf)) (.tl (.tl (.tl (.tl (.tl (.two (.tl (.two (.loop ⟨[(2,.sp K4 4098),(7,.sp K4 36871),(8,.di)],o0,[5,6]⟩ [(.exit 4,⟨o3,o0,[]⟩)] (.tl (.cut [(.normal,⟨o3,o0,[5,6,8]⟩)] [5,6,8] [] (.two (.tl (.two (.tl (.two (.loop ⟨[(2,.sp K4 4098),(7,.sp K4 36871),(9,.dv Ty.bool),(10,.di)],o0,[5,6,8]⟩ [(.exit 6,⟨o2,o0,[5,6,8]⟩)] (.tl (.two (.two (.tl (.two (.loop ⟨[(2,.sp K4 4098),(7,.sp K4 36871),(9,.dv Ty.bool),(11,.di)],o0,[5,6,8,10]⟩ [(.exit 8,⟨o2,o0,[5,6,8,10]⟩)] .leaf) .leaf)) .leaf) .leaf))) .leaf)) (.tl (.two (.reg [] 8) .leaf)))) .leaf) .leaf))) .leaf)) .leaf)))))))))
def L0(lp:Lp)(c:Ca)(a0:D):Option D:=
 qS a0 λl1=>
 qC .gtr (Jn (l1.length)) (Jn 64) λb3=>
 if b3 then(some (D.st [(D.st [(D.sl [])]),(Jn 2)])) else((qZ lp (λv4=>
 qL a0 (gx v4 0) λb7=>
 if b7 then((qZ lp (λv8=>
 qC .lss (gx v8 0) (Jn 3) λb10=>
 if b10 then(qX a0 (gx v4 0) λx13=>
(D.idx (gx v8 0) 3).bind λi14=>
(D.fld x13 i14).bind λx15=>
 qC .gtr x15 (Jn 262144) λb17=>
(if b17 then(some true) else(qX a0 (gx v4 0) λx20=>
(D.idx (gx v8 0) 3).bind λi21=>
(D.fld x20 i21).bind λx22=>
 qB .lss x22 (Jn (-262144)) λx23=>
 D.truth x23)).bind λb24=>
 qT (D.bool b24) λb25=>
 if b25 then(iR (0,[(D.sl []),(Jn 1)])) else(qB .add (gx v8 0) (Jn 1) λx26=>
 iL [x26,(qW v8 1),(gx v8 2)])) else(iR (1,[(qW v8 1),(gx v8 2)]))) [(Jn 0),(qW v4 1),(gx v4 2)]).bind λr27=>
 if r27.1=0 then(iR (0,[(qW r27.2 0),(gx r27.2 1)])) else(qB .add (gx v4 0) (Jn 1) λx28=>
 iL [x28,(qW r27.2 0),(gx r27.2 1)])) else(iR (1,[(qW v4 1),(gx v4 2)]))) [(Jn 0),(D.sl []),(Jn 0)]).bind λr29=>
 if r29.1=0 then(some (D.st [(D.st [(qW r29.2 0)]),(gx r29.2 1)])) else((c 47 [a0]).bind λr30=>
(c 48 [r30]).bind λr31=>
 qS r31 λl32=>
 qT (D.bool (D.beq (Jn (l32.length)) (Jn 0))) λb33=>
 if b33 then(some (D.st [(D.st [(D.sl [])]),(Jn 120)])) else(qS r31 λl34=>
 qC .gtr (Jn (l34.length)) (Jn 64) λb36=>
 if b36 then(some (D.st [(D.st [(D.sl [])]),(Jn 2)])) else((qZ lp (λv37=>
 qL r30 (gx v37 0) λb40=>
 if b40 then(((qZ lp (λv41=>
 qL r31 (gx v41 1) λb44=>
 if b44 then((qZ lp (λv45=>
 qX r31 (gx v41 1) λx48=>
(D.fld x48 2).bind λx49=>
 qL x49 (gx v45 1) λb52=>
 if b52 then(qT (gx v45 0) λb53=>
(if b53 then(some true) else(qX r31 (gx v41 1) λx56=>
(D.fld x56 2).bind λx57=>
 qX x57 (gx v45 1) λx60=>
 D.truth (D.bool (D.beq x60 (gx v37 0))))).bind λb61=>
 qB .add (gx v45 1) (Jn 1) λx62=>
 iL [(D.bool b61),x62,(qW v45 2),(gx v45 3),(qW v45 4),(gx v45 5)]) else(iR (0,[(gx v45 0),(qW v45 2),(gx v45 3),(qW v45 4),(gx v45 5)]))) [(gx v41 0),(Jn 0),(qW v41 2),(gx v41 3),(qW v41 4),(gx v41 5)]).bind λr63=>
 qB .add (gx v41 1) (Jn 1) λx64=>
 iL [(gx r63.2 0),x64,(qW r63.2 1),(gx r63.2 2),(qW r63.2 3),(gx r63.2 4)]) else(iR (0,[(gx v41 0),(qW v41 2),(gx v41 3),(qW v41 4),(gx v41 5)]))) [(D.bool false),(Jn 0),(qW v37 1),(gx v37 2),(qW v37 3),(gx v37 4)]).bind λr65=>
 qT (gx r65.2 0) λb66=>
 if b66 then(qX r30 (gx v37 0) λx69=>
 if List.length (qV r65.2 3)+List.length [x69]<=1073741824 then(some (0,[(qW r65.2 1),(gx r65.2 2),(D.sl ((qV r65.2 3)++[x69])),(gx r65.2 4)])) else none) else(some (0,[(qW r65.2 1),(gx r65.2 2),(qW r65.2 3),(gx r65.2 4)]))).bind λ(r70:Nat×List D)=>
 qB .add (gx v37 0) (Jn 1) λx71=>
 iL [x71,(qW r70.2 0),(gx r70.2 1),(qW r70.2 2),(gx r70.2 3)]) else(iR (0,[(qW v37 1),(gx v37 2),(qW v37 3),(gx v37 4)]))) [(Jn 0),(qW r29.2 0),(gx r29.2 1),(D.sl []),(Jn 0)]).bind λr72=>
 some (D.st [(D.st [(qW r72.2 2)]),(gx r72.2 3)])))))
def W2{lp}(hlp:ak lp):af 12 (m1 (L0 lp)):=bc 0 Tryz.f158 Wa hlp
def Wb:Ann:=(.tl (.tl (.two (.tl (.two (.loop ⟨[(5,.di)],[],[0,1]⟩ [(.ret,⟨[(4,.dv Ty.bool)],[],[]⟩),(.exit 0,⟨[],[],[]⟩)] (.tl (.two (.two (.two (.reg [] 8) .leaf) .leaf) .leaf))) .leaf)) .leaf)))
def Oo(lp:Lp)(c:Ca)(a0:D)(a1:D):Option D:=
 qS a0 λl1=>
 qS a1 λl2=>
 qT (D.bool (!(D.beq (Jn (l1.length)) (Jn (l2.length))))) λb3=>
 if b3 then(some (D.bool false)) else((qZ lp (λv4=>
 qL a0 (gx v4 0) λb7=>
 if b7 then(qX a0 (gx v4 0) λx10=>
 qX a1 (gx v4 0) λx13=>
 qT (D.bool (!(D.beq x10 x13))) λb14=>
 if b14 then(iR (0,[(D.bool false)])) else(qB .add (gx v4 0) (Jn 1) λx15=>
 iL [x15])) else(iR (1,[]))) [(Jn 0)]).bind λr16=>
 if r16.1=0 then(some (gx r16.2 0)) else(some (D.bool true)))
def W3{lp}(hlp:ak lp):af 13 (m2 (Oo lp)):=aA 0 Tryz.f159 Wb hlp
def Oq(lp:Lp)(c:Ca)(a0:D):Option D:=
 qG a0 [0] λx1=>
(c 12 [x1]).bind λr2=>
 qG r2 [1] λx3=>
 qT (D.bool (D.beq x3 (Jn 0))) λb4=>
(if b4 then(qG r2 [0,0] λx5=>
 qG a0 [0] λx6=>
(c 13 [x5,x6]).bind λr7=>
(D.un .not r7).bind λx8=>
 D.truth x8) else(some false)).bind λb9=>
 qT (D.bool b9) λb10=>
 if b10 then(some (Jn 3)) else(qG r2 [1] λx11=>
 some x11)
def W4{lp}(hlp:ak lp):af 15 (m1 (Oq lp)):=bc 0 Tryz.f94 .leaf hlp
def Wc:Ann:=(.tl (.tl (.two (.tl (.two (.loop ⟨[(1,.sp K3 4097),(3,.ow K6),(10,.di)],[(4097,.keep K3 1)],[8,9]⟩ [(.exit 0,⟨[(3,.ow K6)],[],[]⟩)] (.tl (.tl (.two (.two (.tl (.reg [] 11)) .leaf) .leaf)))) .leaf)) .leaf)))
def Ot(lp:Lp)(c:Ca)(a0:D):Option D:=
 qG a0 [0] λx1=>
(c 45 [x1]).bind λr2=>
 qS r2 λl3=>
(qZ lp (λv4=>
 qC .lss (gx v4 1) (Jn (l3.length)) λb6=>
 if b6 then(qX r2 (gx v4 1) λx9=>
 qG x9 [0] λx10=>
 qG x9 [1] λx11=>
 qG a0 [0] λx12=>
(c 46 [x12,x9]).bind λr13=>
 if List.length (qV v4 0)+List.length [(D.st [x10,x11,r13])]<=1073741824 then(qB .add (gx v4 1) (Jn 1) λx14=>
 iL [(D.sl ((qV v4 0)++[(D.st [x10,x11,r13])])),x14]) else none) else(iR (0,[(qW v4 0)]))) [(D.sl []),(Jn 0)]).bind λr15=>
 some (qW r15.2 0)
def W5{lp}(hlp:ak lp):af 18 (m1 (Ot lp)):=bc 0 Tryz.f64 Wc hlp
def Ou(lp:Lp)(c:Ca)(a0:D):Option D:=
 qG a0 [0] λx1=>
(c 48 [x1]).bind λr2=>
 some r2
def W6{lp}(hlp:ak lp):af 19 (m1 (Ou lp)):=bc 0 Tryz.f69 .leaf hlp
def We:Ann:=let o0:LS:=[(1,.sp K3 4097),(3,.ow K8),(7,.dv Ty.bool)]
 let o1:LS:=[(1,.sp K3 4097),(3,.ow K8)]
 (.tl (.tl (.tl (.two (.tl (.two (.loop ⟨[(1,.sp K3 4097),(3,.ow K8),(5,.di)],[(4097,.keep K3 1)],[4]⟩ [(.exit 0,⟨[(3,.ow K8)],[],[]⟩)] (.tl (.two (.two (.tl (.two (.loop ⟨[(1,.sp K3 4097),(3,.ow K8),(6,.di)],[(4097,.keep K3 1)],[4,5]⟩ [(.exit 2,⟨o1,[(4097,.keep K3 1)],[4,5]⟩)] (.tl (.cut [(.normal,⟨o1,[(4097,.keep K3 1)],[4,5,6]⟩)] [4,5,6] [4097] (.two (.tl (.two (.tl (.two (.loop ⟨[(1,.sp K3 4097),(3,.ow K8),(7,.dv Ty.bool),(8,.di)],[(4097,.keep K3 1)],[4,5,6]⟩ [(.exit 4,⟨o0,[(4097,.keep K3 1)],[4,5,6]⟩)] (.tl (.two (.two (.tl (.tl (.two (.loop ⟨[(1,.sp K3 4097),(3,.ow K8),(7,.dv Ty.bool),(10,.di)],[(4097,.keep K3 1)],[4,5,6,8,9]⟩ [(.exit 6,⟨o0,[(4097,.keep K3 1)],[4,5,6,8]⟩)] .leaf) .leaf))) .leaf) .leaf))) .leaf)) .leaf)) .leaf) .leaf))) .leaf)) .leaf) .leaf))) .leaf)) .leaf))))
def Ov(lp:Lp)(c:Ca)(a0:D):Option D:=
(c 19 [a0]).bind λr1=>
(qZ lp (λv2=>
 qM a0 [0] (gx v2 1) λb6=>
 if b6 then(qB .add (gx v2 1) (Jn 1) λx7=>
(qZ lp (λv8=>
 qM a0 [0] (gx v8 1) λb12=>
 if b12 then(((qZ lp (λv13=>
 qL r1 (gx v13 2) λb16=>
 if b16 then(qX r1 (gx v13 2) λx19=>
(D.fld x19 2).bind λx20=>
(qZ lp (λv21=>
 qL x20 (gx v21 2) λb24=>
 if b24 then(qT (gx v21 1) λb25=>
(if b25 then(some true) else(qX x20 (gx v21 2) λx28=>
 qT (D.bool (D.beq x28 (gx v2 1))) λb29=>
 if b29 then(qB .add (gx v21 2) (Jn 1) λx30=>
 qS x20 λl31=>
 qB .rem x30 (Jn (l31.length)) λx32=>
 qX x20 x32 λx35=>
 D.truth (D.bool (D.beq x35 (gx v8 1)))) else(some false))).bind λb36=>
 qT (D.bool b36) λb37=>
(if b37 then(some true) else(qX x20 (gx v21 2) λx40=>
 qT (D.bool (D.beq x40 (gx v8 1))) λb41=>
 if b41 then(qB .add (gx v21 2) (Jn 1) λx42=>
 qS x20 λl43=>
 qB .rem x42 (Jn (l43.length)) λx44=>
 qX x20 x44 λx47=>
 D.truth (D.bool (D.beq x47 (gx v2 1)))) else(some false))).bind λb48=>
 qB .add (gx v21 2) (Jn 1) λx49=>
 iL [(qW v21 0),(D.bool b48),x49]) else(iR (0,[(qW v21 0),(gx v21 1)]))) [(qW v13 0),(gx v13 1),(Jn 0)]).bind λr50=>
 qB .add (gx v13 2) (Jn 1) λx51=>
 iL [(qW r50.2 0),(gx r50.2 1),x51]) else(iR (0,[(qW v13 0),(gx v13 1)]))) [(qW v8 0),(D.bool false),(Jn 0)]).bind λr52=>
 qT (gx r52.2 1) λb53=>
 if b53 then(if List.length (qV r52.2 0)+List.length [(D.st [(gx v2 1),(gx v8 1)])]<=1073741824 then(some (0,[(D.sl ((qV r52.2 0)++[(D.st [(gx v2 1),(gx v8 1)])]))])) else none) else(some (0,[(qW r52.2 0)]))).bind λ(r54:Nat×List D)=>
 qB .add (gx v8 1) (Jn 1) λx55=>
 iL [(qW r54.2 0),x55]) else(iR (0,[(qW v8 0)]))) [(qW v2 0),x7]).bind λr56=>
 qB .add (gx v2 1) (Jn 1) λx57=>
 iL [(qW r56.2 0),x57]) else(iR (0,[(qW v2 0)]))) [(D.sl []),(Jn 0)]).bind λr58=>
 some (qW r58.2 0)
def W8{lp}(hlp:ak lp):af 22 (m1 (Ov lp)):=bc 0 Tryz.f121 We hlp
def Wf:Ann:=(.tl (.two (.reg [] 10) .leaf))
def VJ(lp:Lp)(c:Ca)(a0:D):Option D:=
 qG a0 [0] λx1=>
(c 75 [x1]).bind λr2=>
 qG a0 [1] λx3=>
(c 75 [x3]).bind λr4=>
 qG a0 [2] λx5=>
(c 75 [x5]).bind λr6=>
 some (D.st [r2,r4,r6])
def W9{lp}(hlp:ak lp):af 31 (m1 (VJ lp)):=bc 0 Tryz.f34 Wf hlp
def Wg:Ann:=(.tl (.tl (.tl (.tl (.tl (.tl (.tl (.cut [(.normal,⟨[(5,.dv K5),(6,.dv K5)],[],[]⟩)] [] [] .leaf .leaf))))))))
def Ow(lp:Lp)(c:Ca)(a0:D)(a1:D):Option D:=
(c 76 [a0]).bind λr1=>
 qN r1 λb3=>
(if b3 then((c 76 [a1]).bind λr4=>
(D.un .not r4).bind λx5=>
 D.truth x5) else(some false)).bind λb6=>
 qT (D.bool b6) λb7=>
 if b7 then(some (Jn 0)) else((c 76 [a0]).bind λr8=>
 qN r8 λb10=>
 if b10 then(some (Jn (-1))) else((c 76 [a1]).bind λr11=>
 qN r11 λb13=>
 if b13 then(some (Jn 1)) else(qG a0 [1] λx14=>
 qG a1 [1] λx15=>
 qT (D.bool (!(D.beq x14 x15))) λb16=>
 if b16 then(qG a0 [1] λx17=>
 qT x17 λb18=>
 if b18 then(some (Jn (-1))) else(some (Jn 1))) else((c 77 [a0]).bind λr19=>
(c 77 [a1]).bind λr20=>
(qG a0 [1] λx21=>
 qT x21 λb22=>
 if b22 then((c 77 [a1]).bind λr23=>
(c 77 [a0]).bind λr24=>
 some (0,[r23,r24])) else(some (0,[r19,r20]))).bind λ(r25:Nat×List D)=>
(c 78 [(gx r25.2 0),(gx r25.2 1)]).bind λr26=>
(c 78 [(gx r25.2 1),(gx r25.2 0)]).bind λr27=>
 qT r26 λb28=>
 if b28 then(some (Jn (-1))) else(qT r27 λb29=>
 if b29 then(some (Jn 1)) else(some (Jn 0)))))))
def Xa{lp}(hlp:ak lp):af 32 (m2 (Ow lp)):=aA 0 Tryz.f95 Wg hlp
def Wh:Ann:=(.tl (.two (.reg [] 5) .leaf))
def Ox(lp:Lp)(c:Ca)(a0:D)(a1:D):Option D:=
(c 80 [a0]).bind λr1=>
(c 80 [a1]).bind λr2=>
(c 79 [r1,r2]).bind λr3=>
 some r3
def Xb{lp}(hlp:ak lp):af 33 (m2 (Ox lp)):=aA 0 Tryz.f29 Wh hlp
def Oy(lp:Lp)(c:Ca)(a0:D):Option D:=
 qC .geq a0 (Jn 0) λb2=>
 if b2 then(qB .rem a0 (Jn 65536) λx3=>
 qB .quo a0 (Jn 65536) λx4=>
 qB .rem x4 (Jn 65536) λx5=>
 qB .quo a0 (Jn 4294967296) λx6=>
 qB .rem x6 (Jn 65536) λx7=>
 qB .quo a0 (Jn 281474976710656) λx8=>
(c 81 [(D.bool false),(D.sl [x3,x5,x7,x8])]).bind λr9=>
 some r9) else(qB .add a0 (Jn 1) λx10=>
(D.un .neg x10).bind λx11=>
 qB .rem x11 (Jn 65536) λx12=>
 qB .quo x11 (Jn 65536) λx13=>
 qB .rem x13 (Jn 65536) λx14=>
 qB .quo x11 (Jn 4294967296) λx15=>
 qB .rem x15 (Jn 65536) λx16=>
 qB .quo x11 (Jn 281474976710656) λx17=>
(c 82 [(D.sl [x12,x14,x16,x17]),(D.sl [(Jn 1)])]).bind λr18=>
(c 81 [(D.bool true),r18]).bind λr19=>
 some r19)
def Xc{lp}(hlp:ak lp):af 34 (m1 (Oy lp)):=bc 0 Tryz.f98 .leaf hlp
def Wi:Ann:=(.tl (.tl (.tl (.cut [(.normal,⟨[(2,.sp aM 4098),(3,.sp aM 4099),(4,.sp bN 4100),(5,.sp aM 12293)],[(4098,.keep aM 2),(4099,.keep aM 3),(4100,.keep bN 4),(12293,.one aM (.dv aM))],[]⟩)] [] [4098,4099,4100] .leaf (.two (.reg [] 7) .leaf)))))
def L2(lp:Lp)(c:Ca)(a0:D)(a1:D):Option D:=
(c 76 [a0]).bind λr1=>
 qN r1 λb3=>
(if b3 then(some true) else((c 76 [a1]).bind λr4=>
(D.un .not r4).bind λx5=>
 D.truth x5)).bind λb6=>
 qT (D.bool b6) λb7=>
(if b7 then(some true) else((c 83 [a1]).bind λr8=>
 D.truth (D.bool (D.beq r8 (Jn 0))))).bind λb9=>
 qT (D.bool b9) λb10=>
 if b10 then((c 84 []).bind λr11=>
 some r11) else((c 85 [a0,a1]).bind λr12=>
((c 83 [a1]).bind λr13=>
 qC .lss r13 (Jn 0) λb15=>
 if b15 then((c 86 [r12]).bind λr16=>
 some (0,[r16])) else(some (0,[r12]))).bind λ(r17:Nat×List D)=>
(c 87 [a0,(gx r17.2 0)]).bind λr18=>
(c 87 [a1,(gx r17.2 0)]).bind λr19=>
 some (D.st [r18,r19]))
def Xd{lp}(hlp:ak lp):af 37 (m2 (L2 lp)):=aA 0 Tryz.f88 Wi hlp
def Mo(lp:Lp)(c:Ca)(a0:D)(a1:D):Option D:=
(c 88 [a0]).bind λr1=>
 qN r1 λb3=>
(if b3 then(some true) else((c 88 [a1]).bind λr4=>
(D.un .not r4).bind λx5=>
 D.truth x5)).bind λb6=>
 qT (D.bool b6) λb7=>
 if b7 then((c 84 []).bind λr8=>
 some r8) else(qG a0 [0] λx9=>
 qG a1 [1] λx10=>
(c 37 [x9,x10]).bind λr11=>
 qG a1 [0] λx12=>
 qG a0 [1] λx13=>
(c 37 [x12,x13]).bind λr14=>
 qG r11 [0] λx15=>
 qG r14 [0] λx16=>
(c 89 [x15,x16]).bind λr17=>
 qG r11 [1] λx18=>
 qG r14 [1] λx19=>
(c 89 [x18,x19]).bind λr20=>
(c 37 [r17,r20]).bind λr21=>
 some r21)
def Xe{lp}(hlp:ak lp):af 38 (m2 (Mo lp)):=aA 0 Tryz.f54 .leaf hlp
def Wj:Ann:=(.tl (.tl (.tl (.tl (.tl (.two (.reg [] 14) .leaf))))))
def Mp(lp:Lp)(c:Ca)(a0:D)(a1:D):Option D:=
(c 88 [a0]).bind λr1=>
 qN r1 λb3=>
(if b3 then(some true) else((c 88 [a1]).bind λr4=>
(D.un .not r4).bind λx5=>
 D.truth x5)).bind λb6=>
 qT (D.bool b6) λb7=>
 if b7 then((c 84 []).bind λr8=>
 some r8) else(qG a0 [1] λx9=>
 qG a1 [1] λx10=>
(c 85 [x9,x10]).bind λr11=>
 qG a0 [1] λx12=>
(c 87 [x12,r11]).bind λr13=>
 qG a1 [1] λx14=>
(c 87 [x14,r11]).bind λr15=>
 qG a0 [0] λx16=>
(c 89 [x16,r15]).bind λr17=>
 qG a1 [0] λx18=>
(c 89 [x18,r13]).bind λr19=>
(c 59 [r17,r19]).bind λr20=>
 qG a1 [1] λx21=>
(c 89 [r13,x21]).bind λr22=>
(c 37 [r20,r22]).bind λr23=>
 some r23)
def Xf{lp}(hlp:ak lp):af 40 (m2 (Mp lp)):=aA 0 Tryz.f27 Wj hlp
def Wl:Ann:=let o0:LO:=[(4098,.keep K2 2),(4099,.keep dm 3),(8197,.one K5 (.dv K5))]
 let o1:LO:=[(4098,.keep K2 2),(4099,.keep dm 3),(8197,.one K5 (.ow Ti))]
 let o2:LO:=[(4098,.keep K2 2),(4099,.keep dm 3),(8197,.keep K5 1)]
 let o3:LS:=[(2,.sp K2 4098),(3,.sp dm 4099),(5,.sp K5 8197)]
 let o4:LS:=[(2,.sp K2 4098),(3,.sp dm 4099),(6,.di)]
 (.tl (.tl (.two (.tl (.two (.loop ⟨[(2,.sp K2 4098),(3,.sp dm 4099),(5,.sp K5 8197),(13,.di)],o1,[11,12]⟩ [(.exit 0,⟨o3,o1,[]⟩)] (.tl (.tl (.cut [(.normal,⟨o3,o1,[11,12,13]⟩)] [11,12,13] [4098,4099] (.two (.tl (.two (.reg [] 6) .leaf)) .leaf) .leaf)))) .leaf)) (.tl (.tl (.two (.two (.regI [] 6 (.two (.tl (.tl (.two (.tl (.two (.loop ⟨[(2,.sp K2 4098),(3,.sp dm 4099),(6,.di),(12,.dv K5),(14,.di)],o0,[0,13]⟩ [(.exit 0,⟨[(6,.di)],o0,[]⟩)] (.tl (.tl (.cut [(.normal,⟨o4,o0,[0,12,13,14]⟩)] [0,12,13,14] [4098,4099] (.two (.tl (.tl (.tl (.two (.reg [] 20) .leaf)))) .leaf) .leaf)))) .leaf)) .leaf))) .leaf)) (.two (.loop ⟨[(5,.sp K5 8197),(8,.same (.clo 182 [(.ptr K5 8197 []),(.ptr K2 4098 []),(.ptr dm 4099 [])])),(9,.ow Ti),(10,.di)],[(4098,.keep K2 2),(4099,.keep dm 3),(8197,.keep K5 5)],[]⟩ [(.exit 2,⟨[(9,.ow Ti)],[],[]⟩)] (.tl (.tl (.regI [] 4 (.two (.tl (.tl (.two (.tl (.two (.loop ⟨[(2,.sp K2 4098),(3,.sp dm 4099),(6,.di),(14,.di)],o2,[0,12,13]⟩ [(.exit 0,⟨[(6,.di)],o2,[]⟩)] (.tl (.tl (.cut [(.normal,⟨o4,o0,[0,12,13,14]⟩)] [0,12,13,14] [4098,4099] (.two (.tl (.tl (.tl (.two (.reg [] 20) .leaf)))) .leaf) .leaf)))) .leaf)) .leaf))) .leaf))))) .leaf)) .leaf))))))
def Oz(lp:Lp)(c:Ca)(a0:D)(a1:D):Option D:=
 qS a0 λl1=>
(qZ lp (λv2=>
 qC .lss (gx v2 0) (Jn (l1.length)) λb4=>
 if b4 then((qX a0 (gx v2 0) λx7=>
 qG a1 [0] λx8=>
(c 101 [x8,x7]).bind λr9=>
 qG a1 [1] λx10=>
 qT (D.bool (D.beq r9 x10)) λb11=>
 if b11 then(if List.length (qV v2 1)+List.length [(gx v2 0)]<=1073741824 then(some (0,[(D.sl ((qV v2 1)++[(gx v2 0)]))])) else none) else(some (0,[(qW v2 1)]))).bind λ(r12:Nat×List D)=>
 qB .add (gx v2 0) (Jn 1) λx13=>
 iL [x13,(qW r12.2 0)]) else(iR (0,[(qW v2 1)]))) [(Jn 0),(D.sl [])]).bind λr14=>
(D.idx (Jn 0) (List.length (qV r14.2 0))).bind λi15=>
((qV r14.2 0)[i15]?).bind λx16=>
(D.idx (Jn 0) (List.length (qV r14.2 0))).bind λi17=>
((qV r14.2 0)[i17]?).bind λx18=>
(qZ lp (λv19=>
 qC .lss (gx v19 2) (Jn (List.length (qV r14.2 0))) λb21=>
 if b21 then((qX (gx v19 1) (gx v19 2) λx24=>
 qT (D.bool (D.beq x24 x18)) λb25=>
 if b25 then(some (0,[(gx v19 0),(gx v19 3)])) else(qC .lss (gx v19 0) (Jn 0) λb27=>
 if b27 then(some (0,[x24,(gx v19 3)])) else(qX a0 x24 λx30=>
 qX a0 x18 λx33=>
(c 103 [x30,x33]).bind λr34=>
 qX a0 (gx v19 0) λx37=>
 qX a0 x18 λx40=>
(c 103 [x37,x40]).bind λr41=>
 qG a1 [0] λx42=>
(c 104 [x42,r41,r34]).bind λr43=>
 qC .lss r43 (Jn 0) λb45=>
(if b45 then(some true) else(qT (D.bool (D.beq r43 (Jn 0))) λb46=>
 if b46 then((c 101 [r34,r34]).bind λr47=>
(c 101 [r41,r41]).bind λr48=>
 qB .gtr r47 r48 λx49=>
 D.truth x49) else(some false))).bind λb50=>
 qT (D.bool b50) λb51=>
 if b51 then(some (0,[x24,(gx v19 3)])) else(some (0,[(gx v19 0),(gx v19 3)]))))).bind λ(r52:Nat×List D)=>
 qB .add (gx v19 2) (Jn 1) λx53=>
 iL [(gx r52.2 0),(gx v19 1),x53,(gx r52.2 1)]) else(iR (0,[(gx v19 0),(gx v19 3)]))) [(Jn (-1)),(qW r14.2 0),(Jn 0),(qW r14.2 0)]).bind λr54=>
(qZ lp (λv55=>
 qX (gx r54.2 1) (Jn 0) λx58=>
 qT (D.bool (!(D.beq (gx v55 1) x58))) λb59=>
 if b59 then(if List.length (qV v55 0)+List.length [(gx v55 1)]<=1073741824 then(qS (gx r54.2 1) λl60=>
(qZ lp (λv61=>
 qC .lss (gx v61 1) (Jn (l60.length)) λb63=>
 if b63 then((qX (gx r54.2 1) (gx v61 1) λx66=>
 qT (D.bool (D.beq x66 (gx v55 1))) λb67=>
 if b67 then(some (0,[(gx v61 0),(gx r54.2 1)])) else(qC .lss (gx v61 0) (Jn 0) λb69=>
 if b69 then(some (0,[x66,(gx r54.2 1)])) else(qX a0 x66 λx72=>
 qX a0 (gx v55 1) λx75=>
(c 103 [x72,x75]).bind λr76=>
 qX a0 (gx v61 0) λx79=>
 qX a0 (gx v55 1) λx82=>
(c 103 [x79,x82]).bind λr83=>
 qG a1 [0] λx84=>
(c 104 [x84,r83,r76]).bind λr85=>
 qC .lss r85 (Jn 0) λb87=>
(if b87 then(some true) else(qT (D.bool (D.beq r85 (Jn 0))) λb88=>
 if b88 then((c 101 [r76,r76]).bind λr89=>
(c 101 [r83,r83]).bind λr90=>
 qB .gtr r89 r90 λx91=>
 D.truth x91) else(some false))).bind λb92=>
 qT (D.bool b92) λb93=>
 if b93 then(some (0,[x66,(gx r54.2 1)])) else(some (0,[(gx v61 0),(gx r54.2 1)]))))).bind λ(r94:Nat×List D)=>
 qB .add (gx v61 1) (Jn 1) λx95=>
 iL [(gx r94.2 0),x95]) else(iR (0,[(gx v61 0)]))) [(Jn (-1)),(Jn 0)]).bind λr96=>
 iL [(D.sl ((qV v55 0)++[(gx v55 1)])),(gx r96.2 0)]) else none) else(iR (0,[(qW v55 0)]))) [(D.sl [x16]),(gx r54.2 0)]).bind λr97=>
 some (qW r97.2 0)
def Xh{lp}(hlp:ak lp):af 46 (m2 (Oz lp)):=aA 0 Tryz.f129 Wl hlp
end Sy
end
end
end Go.Proofs.YtphlmegkommlnaaGreatDoor
