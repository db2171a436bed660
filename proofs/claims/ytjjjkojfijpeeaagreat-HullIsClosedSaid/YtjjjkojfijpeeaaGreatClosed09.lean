/- Part 9 of the proof that HullIsClosed answers true at every input -/
import Derived.Test.YtjjjkojfijpeeaaGreatClosed06
import Derived.Test.YtjjjkojfijpeeaaGreatClosed07
import Derived.Test.YtjjjkojfijpeeaaGreatClosed08
import Derived.Maps.RangeRun
import Derived.Shelf.SlSortCmp.NoneTotal
import Derived.Ground.SlsfProg
import Derived.KernelRfl
import Derived.Test.YtjjjkojfijpeeaaGreatProg
import Derived.Test.YtjjjkojfijpeeaaGreatChecked
set_option linter.unusedVariables false
set_option linter.unusedSimpArgs false
set_option linter.unnecessarySimpa false
section
namespace Go.Proofs.YtjjjkojfijpeeaaGreat.Sy
open Go Go.Proofs Go.Sort Go.Lib
variable {ro : Option Nat} {nn : Nat}
open Go.ChangeMaps (setBlock)
section
variable {P : Program} {E : Env} {w0 : Root}
theorem wpList_any {ops ops' : Array Oper} {Q : Exit -> Act -> World -> Prop} : ∀ (l : List Oper) (a : Act) (w : World), (∀ o ∈ l, o.guard = none) -> wpListIn (FW ro) nn P ops Q l a w -> wpListIn (FW ro) nn P ops' Q l a w
 | [], _, _, _, h => h
 | o :: l, a, w, hg, h => by
   have hgo := hg o List.mem_cons_self
   have hfun : ∀ a w, wpListIn (FW ro) nn P ops Q l a w -> wpListIn (FW ro) nn P ops' Q l a w := fun a w => wpList_any l a w fun o ho => hg o (List.mem_cons_of_mem _ ho)
   simp only [wpListIn, Region.wanted, hgo, if_true] at h ⊢
   exact Oper.wpIn_mono hfun h
theorem list_ev (hE : EnvOk P E) {Q : Exit -> Act -> World -> Prop} {id : Nat} {ops : Array Oper} {R : Type} {S : Nat -> Nat -> Prop} {γ : Nat -> Option Nat} {β : Nat -> Option (Nat × Nat)} {s : St} {a : Act} {w : World} {k : Ex -> St -> Option R} {r : R}
   (h : Rp w0 S γ β s a w) (hev : ev E (.region id ops false) .leaf R s k = some r) (hQ : Kp Q w0 s S γ a w k r) : wpListIn (FW ro) nn P ops Q ops.toList a w := by
 obtain ⟨S1, f1, f2, f3⟩ := freeze_ok (Ann.leaf).fz h
 obtain ⟨s1, hs1⟩ : ∃ s1, s1 = { freeze s (Ann.leaf).fz with fresh := s.fresh + 1 } := ⟨_, rfl⟩
 obtain ⟨h1, h23⟩ := ev_region hs1 hev
 obtain ⟨h2, h3⟩ : (!false || drawOk E ops ((Ann.leaf).heads ops.size)) = true /\ _ := h23.resolve_right fun h => by cases h.1
 have hb1 : s1.base = s.base + 4096 := by rw [hs1]; simp only [St.base]; omega
 have r1 : Rp w0 S1 γ β s1 a w := by
   rw [hs1]
   have q1 : ∀ id, ({ freeze s (Ann.leaf).fz with fresh := s.fresh + 1 } : St).base + 4096 <= id -> s.base + 4096 <= id := fun id hid => by
     have e : ({ freeze s (Ann.leaf).fz with fresh := s.fresh + 1 } : St).base = s.base + 4096 := by simp only [St.base]; omega
     rw [e] at hid
     exact Nat.le_trans (Nat.le_add_right _ _) hid
   exact ⟨f1.ext, f1.tms, f1.nt, f1.tmu, f1.obs, f1.γn, f1.γi, fun id hid => h.γf id (q1 id hid), f1.βn, f1.βi, f1.βγ, fun v hv => h.βf v (q1 v hv), f1.Sb, f1.So, f1.df⟩
 have hle1 : ∀ d, s.base + 4096 <= s1.base + d := fun d => by have := Nat.le_add_right s1.base d; rw [hb1] at this ⊢; exact this
 have hg : ∀ d, γ (s1.base + d) = none := fun d => h.γf (s1.base + d) (hle1 d)
 have hgb : ∀ d, β (s1.base + d) = none := fun d => h.βf (s1.base + d) (hle1 d)
 obtain ⟨r2, m2⟩ := prep_ok (E := E) ops.toList r1 hg
 have hmk := h1
 simp only [makersOk, Bool.and_eq_true, List.all_eq_true] at hmk
 obtain ⟨⟨hm1, hm2⟩, hm3⟩ := hmk
 have hfr : FrL E (prep E ops.toList s1) γ β ops.toList := by
   intro o ho hc d hd
   rw [m2.base_eq]
   have hd4 := hm2 o ho
   rw [hd] at hd4
   simp only [decide_eq_true_eq] at hd4
   exact ⟨hd4, hg d, hgb d, fun T t e1 e2 => prep_at ops.toList hm1 ho e1 hd e2⟩
 have hsk : Sk s (prep E ops.toList s1) := by
   refine ⟨m2.lkS.trans ?_, m2.lkO.trans ?_, m2.nt.trans ?_⟩ <;> rw [hs1]
   . exact f3.lkS
   . exact f3.lkO
   . exact f3.nt
 have hstores : (ops.toList.all fun o => match o.op with | .store .. => o.dst.isNone | _ => true) = true := by
   simp only [makersOk, Bool.and_eq_true] at h1; exact h1.2
 have := evR_ok (ro := ro) (nn := nn) (ops := ops) hE hstores _ R (number 0 ops.toList) _ r _ r2 (by rw [number_map]; exact hfr) (by rw [number_map]; exact fun A B o o' e ho d hd => dsts_apart hm1 A B o o' e ho d hd) (fun p hp => number_mem hp) h3
   (Q := Q) fun s' S' γ' β' a' w' n1 n2 n3 n4 => hQ .normal s' S' γ' β' a' w' n1 (f2.tr n2 hsk) (hsk.trans n3) n4
 rwa [number_map] at this
def σL (nt o it : Nat) (X : AV) : St := { tm := fun i => if i = o then X else .undef, ob := fun _ => none, fresh := 0, dead := [], nt := nt, lkS := [it], lkO := [0, 1] }
def γs (m r : Nat) : Nat -> Option Nat := fun i => if i = 0 then some m else if i = 1 then some r else none
def isX (e : Ty) (L : List D) (X : AV) : Prop := (X = .nils /\ L = []) \/ X = .own e 5 L
theorem freshL_inv {s : St} {e : Ty} {o : Nat} {L : List D} (h : freshL s e o = some L) : (s.tm o = .nils /\ L = []) \/ ∃ v, s.tm o = .own e v L /\ v ∉ s.dead := by
 unfold freshL at h
 split at h
 . rename_i e' v l htm
   split at h
   . rename_i hb
     simp only [Bool.and_eq_true, Bool.not_eq_true', decide_eq_true_eq] at hb
     cases h
     have := Ty.eq_of_beq _ _ hb.1.1; subst this
     exact .inr ⟨v, htm, by simpa using hb.1.2⟩
   . cases h
 . rename_i htm
   cases h
   exact .inl ⟨htm, rfl⟩
 . cases h
theorem Rp.std {S : Nat -> Nat -> Prop} {γ : Nat -> Option Nat} {β : Nat -> Option (Nat × Nat)} {s : St} {a : Act} {w : World} (h : Rp w0 S γ β s a w) {m r : Nat} (hm : ¬ w0.Old m /\ m < w.heap.size) (hr : ¬ w0.Old r /\ r < w.heap.size) (hmr : m ≠ r)
   (hβ : ∀ v b e, v ∉ s.dead -> β v = some (b, e) -> b ≠ m /\ b ≠ r) {e : Ty} (hce : cmpTy e = true) {o : Nat} {L : List D} (hv : freshL s e o = some L) (it : Nat) :
   ∃ β' X, isX e L X /\ Rp w0 (fun b i => S b i /\ b ≠ m /\ b ≠ r) (γs m r) β' (σL s.nt o it X) a w := by
 have ho : o < s.nt := by
   rcases Nat.lt_or_ge o s.nt with k | k
   . exact k
   . unfold freshL at hv; rw [h.tmu o k] at hv; cases hv
 have hao := h.tms o (by rw [h.nt]; exact ho)
 have g1 : ∀ id b, γs m r id = some b -> (id = 0 /\ b = m) \/ (id = 1 /\ b = r) := fun id b hb => by
   unfold γs at hb
   split at hb
   . rename_i e; cases hb; exact .inl ⟨e, rfl⟩
   . split at hb
     . rename_i e; cases hb; exact .inr ⟨e, rfl⟩
     . cases hb
 have γn' : ∀ id b, γs m r id = some b -> ¬ w0.Old b /\ b < w.heap.size := fun id b hb => by
   rcases g1 id b hb with ⟨_, rfl⟩ | ⟨_, rfl⟩
   . exact hm
   . exact hr
 have γi' : ∀ id id' b, γs m r id = some b -> γs m r id' = some b -> id = id' := fun id id' b hb hb' => by
   rcases g1 id b hb with ⟨k1, k2⟩ | ⟨k1, k2⟩ <;> rcases g1 id' b hb' with ⟨k3, k4⟩ | ⟨k3, k4⟩
   . omega
   . exact absurd (k2.symm.trans k4) hmr
   . exact absurd (k4.symm.trans k2) hmr
   . omega
 have γf' : ∀ id, 0 * 4096 + 4096 <= id -> γs m r id = none := fun id hid => by
   unfold γs; rw [if_neg (by omega), if_neg (by omega)]
 rcases freshL_inv hv with ⟨h1, h2⟩ | ⟨v, h1, h2⟩
 . refine ⟨fun _ => none, .nils, .inl ⟨rfl, h2⟩, h.ext, fun t ht => ?_, h.nt, fun t ht => ?_, fun id o b ho => (by cases ho), γn', γi', γf', fun v b e _ hb => (by cases hb), fun v v' b e e' _ _ hb => (by cases hb), fun v id b e _ hb => (by cases hb), fun _ _ => rfl, fun b i hb => h.Sb b i hb.1, fun b i hb => h.So b i hb.1, h.df⟩
   . show AR _ (if t = o then AV.nils else .undef) (a.tmps.getD t undef)
     by_cases hto : t = o
     . rw [if_pos hto]; subst hto; rw [h1] at hao; simpa only [AR, AC] using hao
     . rw [if_neg hto]; simp only [AR]
   . show (if t = o then AV.nils else .undef) = _
     rw [if_neg (fun h => by subst h; exact absurd ho (Nat.not_lt.2 ht))]
 . refine ⟨fun i => if i = 5 then β v else none, .own e 5 L, .inr rfl, h.ext, fun t ht => ?_, h.nt, fun t ht => ?_, fun id o b ho => (by cases ho), γn', γi', γf', fun u b e' _ hb => ?_, fun u u' b e' e'' _ _ hb hb' => ?_, fun u id b e' _ hb hid => ?_, fun u hu => ?_, fun b i hb => h.Sb b i hb.1, fun b i hb => h.So b i hb.1, h.df⟩
   . show AR _ (if t = o then AV.own e 5 L else .undef) (a.tmps.getD t undef)
     by_cases hto : t = o
     . rw [if_pos hto]
       subst hto
       rw [h1] at hao
       simp only [AR, AC] at hao ⊢
       obtain ⟨n0, n1, n2, ad, cap, n3, n4, n5⟩ := hao
       have n4' : CR w (fun b i => S b i /\ b ≠ m /\ b ≠ r) (.sl L) (.slice ad L.length cap) := by
         obtain ⟨ad', cap', b', off', e1, e2, e3, cs, e4, e5⟩ := n4.elems
         cases e1
         by_cases hL : L = []
         . subst hL; exact CR.of_elems (b := 0) (off := 0) (.inl rfl) e3 ⟨[], CRl.nil, by simp⟩
         . have e2 : ad = some ⟨b', off', none⟩ := e2.resolve_left hL
           have hb' : b' ≠ m /\ b' ≠ r := by
             rcases n5 h2 with q | ⟨b, off, q1, q2, q3⟩
             . rw [q.1] at e2; cases e2
             . rw [q1] at e2; cases e2; exact hβ v _ _ h2 q2
           have lf := leaf_list hce L n2
           exact CR.of_elems (.inr e2) e3 ⟨cs, (CRl_leaf lf).2 ((CRl_leaf lf).1 e4), fun i c hc => ⟨⟨(e5 i c hc).1, hb'⟩, (e5 i c hc).2⟩⟩
       refine ⟨n0, n1, n2, ad, cap, n3, n4', fun _ => ?_⟩
       rcases n5 h2 with q | ⟨b, off, q1, q2, q3⟩
       . exact .inl q
       . exact .inr ⟨b, off, q1, by simpa using q2, q3⟩
     . rw [if_neg hto]; simp only [AR]
   . show (if t = o then AV.own e 5 L else .undef) = _
     rw [if_neg (fun h => by subst h; exact absurd ho (Nat.not_lt.2 ht))]
   . have hb : (if u = 5 then β v else none) = some (b, e') := hb
     split at hb
     . obtain ⟨q1, q2, q3⟩ := h.βn v b e' h2 hb
       exact ⟨q1, q2, fun i hi hs => q3 i hi hs.1⟩
     . cases hb
   . have hb : (if u = 5 then β v else none) = some (b, e') := hb
     have hb' : (if u' = 5 then β v else none) = some (b, e'') := hb'
     split at hb <;> split at hb' <;> first | (cases hb; done) | (cases hb'; done) | omega
   . have hb : (if u = 5 then β v else none) = some (b, e') := hb
     split at hb
     . have := hβ v b e' h2 hb
       rcases g1 id b hid with ⟨_, q⟩ | ⟨_, q⟩
       . exact this.1 q
       . exact this.2 q
     . cases hb
   . have hu' : 4096 <= u := by simpa [σL, St.base] using hu
     show (if u = 5 then β v else none) = none
     rw [if_neg (by omega)]
theorem Rp.setB {S : Nat -> Nat -> Prop} {γ : Nat -> Option Nat} {β : Nat -> Option (Nat × Nat)} {s : St} {a : Act} {w : World} (h : Rp w0 S γ β s a w) {id b : Nat} (ho : s.ob id = none) (hγ : γ id = some b) (hS : ∀ o, ¬ S b o) (x : Obj) :
   Rp w0 S γ β s a (setBlock w b x) := by
 have hbS : ∀ b' o, S b' o -> b' ≠ b := fun b' o hb e => hS o (e ▸ hb)
 have hh : ∀ b', b' ≠ b -> (setBlock w b x).heap[b']? = w.heap[b']? := fun b' hb' => by simp only [setBlock]; rw [Array.getElem?_setIfInBounds_ne (Ne.symm hb')]
 have hsz : (setBlock w b x).heap.size = w.heap.size := by simp [setBlock]
 have hle : Cx.le ⟨w, S, γ, β, s.ob, s.dead⟩ ⟨setBlock w b x, S, γ, β, s.ob, s.dead⟩ := by
   refine ⟨fun b' o hb => by simp only [World.cell?, hh b' (hbS b' o hb)], fun _ _ hb => hb, fun _ _ hb => hb, fun i y hy _ => ⟨y, hy, fun p => ⟨rfl, rfl⟩, fun t l e => ⟨l, e, rfl⟩, fun _ _ l e => ⟨l, e⟩⟩, fun v hv => ⟨hv, fun b' e he => ⟨he, fun n hn => ?_⟩⟩⟩
   have hne : b' ≠ b := fun e' => h.βγ v id b' e hv he (e' ▸ hγ)
   have hn' : rsz w b' = some n := hn
   show rsz (setBlock w b x) b' = some n
   simp only [rsz, row?, hh b' hne] at hn' ⊢
   exact hn'
 refine ⟨ext_of h.ext rfl rfl rfl (by rw [hsz]; exact Nat.le_refl _) (Nat.le_refl _) (fun b' hb' => hh b' fun e => (h.γn id b hγ).1 (e ▸ hb')), fun t ht => (h.tms t ht).mono hle, h.nt, h.tmu, fun i y b' hy hb' => ?_, fun i b' hb' => by rw [hsz]; exact h.γn i b' hb', h.γi, h.γf,
   fun v b' e hv he => by rw [hsz]; exact h.βn v b' e hv he, h.βi, h.βγ, h.βf, fun b' o hb => by rw [hsz]; exact h.Sb b' o hb, h.So, h.df⟩
 have hne : b' ≠ b := fun e' => by
   have := h.γi i id b' hb' (e' ▸ hγ)
   subst this
   rw [ho] at hy; cases hy
 exact (h.obs i y b' hy hb').mono hle (hh b' hne) fun _ hh => hh
end
end Go.Proofs.YtjjjkojfijpeeaaGreat.Sy
end
section
namespace Go.Proofs.YtjjjkojfijpeeaaGreat.Sy
open Go Go.Proofs Go.Sort Go.Lib
variable {ro : Option Nat} {nn : Nat}
open Go.ChangeMaps (setBlock)
def keyD : D -> D
 | .st (k :: _) => k
 | x => x
theorem MpR_at {c : Cx} {kt vt : Ty} : ∀ {l : List D} {es : List MapEntry} {j : Nat}, MpR c kt vt j l es -> es.length = l.length /\ ∀ (i : Nat) (en : MapEntry), es[i]? = some en -> en.born = j + i /\ ∃ k v, l[i]? = some (.st [k, v]) /\ wt kt k /\ wt vt v /\ DR0 c.w c.S k en.key /\ DR0 c.w c.S v en.val
 | [], [], j, _ => ⟨rfl, fun i en h => by simp at h⟩
 | [], _ :: _, _, h => h.elim
 | _ :: _, [], _, h => h.elim
 | x :: l, e :: es, j, h => by
   simp only [MpR] at h
   obtain ⟨⟨h1, k, v, rfl, h2, h3, h4, h5⟩, h6⟩ := h
   obtain ⟨q1, q2⟩ := MpR_at h6
   refine ⟨by simp [q1], fun i en hi => ?_⟩
   cases i with
   | zero => simp at hi; subst hi; exact ⟨by simpa using h1, k, v, by simp, h2, h3, h4, h5⟩
   | succ i =>
     simp only [List.getElem?_cons_succ] at hi
     obtain ⟨r1, r2⟩ := q2 i en hi
     exact ⟨by omega, by simpa using r2⟩
theorem DR0_any {t : Ty} (hc : cmpTy t = true) {x : D} (hx : wt t x) {w w' : World} {S S' : Nat -> Nat -> Prop} {v : Value} (h : DR0 w S x v) : DR0 w' S' x v := by
 have lf := leaf_flat t x hc hx
 exact ⟨h.1, (CRl_leaf lf).2 ((CRl_leaf lf).1 h.2)⟩
theorem nodup_lt : ∀ (n : Nat) (l : List Nat), l.Nodup -> (∀ x ∈ l, x < n) -> l.length <= n
 | 0, l, _, h => by
   cases l with
   | nil => simp
   | cons x l => exact absurd (h x List.mem_cons_self) (by omega)
 | n + 1, l, hn, h => by
   have h1 : (l.erase n).length <= n := nodup_lt n (l.erase n) (hn.erase n) fun x hx => by
     have hx' := (hn.mem_erase_iff).1 hx
     have := h x hx'.2
     have := hx'.1
     omega
   have h2 := List.length_erase (a := n) (l := l)
   split at h2 <;> omega
section
variable {P : Program} {E : Env} {w0 : Root}
theorem value_op {a : Act} {o : Oper} {m : Sem Value} {v : Value} {w w' : World} (hex : execOp a.eval o = (m >>= fun r => pure (Next.value r))) (hrun : m.run P w = .ok v w') : (execOp a.eval o).run P w = .ok (.value v) w' := by
 rw [hex]
 simp only [Sem.run_bind, hrun, Result.andThen_ok, Sem.run_pure]
theorem σL_put {nt o it t : Nat} {X : AV} (h : t ≠ o) : (σL nt o it X).put (some t) .undef = σL nt o it X := by
 unfold St.put σL
 simp only
 split
 . congr 1
   funext i
   by_cases hi : i = t
   . subst hi; rw [if_pos rfl, if_neg h]
   . rw [if_neg hi]
 . rfl
theorem eval_put {a : Act} {t : Nat} {v : Value} (h : t < a.tmps.size) : (a.put (some t) v).eval (.tmp t) = v := by
 simp [Act.eval, Act.put, Array.getD, h]
theorem size_put {a : Act} {d : Option Nat} {v : Value} : (a.put d v).tmps.size = a.tmps.size := by
 cases d <;> simp [Act.put]
theorem loop_wp (hE : EnvOk P E) {e vt : Ty} (he : cmpTy e = true) (hvt : cmpTy vt = true) (hne : noTup e = true) (hnv : noTup vt = true) {id23 id24 id25 b b2 : Nat} {t72 m0 it T nx ok en o : Nat} {o23 o24 o25 : Array Oper} {rest : List Oper} {c26 : Code}
   {y1 y2 y3 y4 y5 : TypeId} {p1 p2 p3 p4 p5 : String} {f1 f2 f3 f4 f5 : Array Edge} {TK TV : TypeId}
   (h23 : o23.toList = [⟨some t72, .move (.tmp m0), y1, p1, f1, none⟩, ⟨some it, .range T (.tmp t72), y2, p2, f2, none⟩])
   (h24 : o24.toList = [⟨some nx, .next (.tmp it) false, y3, p3, f3, none⟩, ⟨some ok, .extract (.tmp nx) 0, y4, p4, f4, none⟩])
   (h25 : o25.toList = ⟨some en, .entry (.tmp it), y5, p5, f5, none⟩ :: rest) (hrest : ∀ x ∈ rest, x.guard = none) (hT : P.underlying T = some (.map TK TV))
   {S : Nat -> Nat -> Prop} {γ : Nat -> Option Nat} {β : Nat -> Option (Nat × Nat)} {s : St} {a : Act} {w : World} (h : Rp w0 S γ β s a w)
   (d1 : o ≠ t72) (d2 : o ≠ it) (d3 : nx ≠ o) (d4 : ok ≠ o) (d5 : en ≠ o) (d6 : it ≠ t72) (d7 : it ≠ nx) (d8 : it ≠ ok) (d9 : it ≠ en) (d10 : nx ≠ ok) (n1 : t72 < s.nt) (n2 : it < s.nt) (n3 : nx < s.nt) (n4 : ok < s.nt) (n5 : en < s.nt)
   {idm : Nat} {l : List D} (hm : s.tm m0 = .map e vt idm) (hob : s.ob idm = some (.mp e vt l)) (hl : l.length <= 1073741824) (hv : freshL s e o = some [])
   (hround : ∀ X L k v, isX e L X -> L.length < 1073741824 -> wt e k -> ev E (.region 0 rest.toArray false) .leaf D ((σL s.nt o it X).put (some en) (.d (.tup [e, vt]) (.tup [k, v]))) (fun x s' => match x with
     | .normal => ev E c26 .leaf D s' (fun x s'' => match x with | .normal => (freshL s'' e o).bind fun l => some (.sl l) | _ => none)
     | _ => none) = some (.sl (L ++ [k])))
   {Q : Exit -> Act -> World -> Prop} (hQ : ∀ L S' γ' β' X a' w', isX e L X -> L.Perm (l.map keyD) -> Rp w0 S' γ' β' (σL s.nt o it X) a' w' -> Q .normal a' w') :
   (Code.seq (.region id23 o23 false) (.block b (.loop (.seq (.region id24 o24 false) (.seq (.cond (.tmp ok) .skip (.exit b)) (.block b2 (.seq (.region id25 o25 false) c26))))))).wpIn (FW ro) nn P Q a w := by
 have hm0 : m0 < s.nt := by
   rcases Nat.lt_or_ge m0 s.nt with k | k
   . exact k
   . rw [h.tmu m0 k] at hm; cases hm
 have hmv := h.tms m0 (by rw [h.nt]; exact hm0)
 rw [hm] at hmv
 simp only [AR, AC] at hmv
 obtain ⟨hna, m, hmc, hγm, _, _, _⟩ := hmv
 have hmval := cells_single hna hmc
 have hO := h.obs idm _ m hob hγm
 simp only [ObR] at hO
 obtain ⟨_, _, hSm, es, hes, hM⟩ := hO
 obtain ⟨hesl, hesat⟩ := MpR_at hM
 have hmn := h.γn idm m hγm
 have hborn : ∀ x ∈ es.toList, x.born < l.length := fun x hx => by
   obtain ⟨i, hi, rfl⟩ := List.getElem_of_mem hx
   have := (hesat i _ (List.getElem?_eq_getElem hi)).1
   omega
 have hbn : (es.toList.map (·.born)).Nodup := by
   rw [List.Nodup, List.pairwise_iff_getElem]
   intro i j hi hj hij
   simp only [List.length_map] at hi hj
   have a1 := (hesat i _ (List.getElem?_eq_getElem hi)).1
   have a2 := (hesat j _ (List.getElem?_eq_getElem hj)).1
   simp only [List.getElem_map, a1, a2]
   omega
 refine wpIn_seq ?_
 refine wpIn_region_list ?_
 rw [h23]
 simp only [wpListIn, Region.wanted, if_true]
 refine (wpIn_of_OpOk (K := fun v w1 => v = a.tmps.getD m0 undef /\ w = w1) (OpOk.value (v := a.eval (.tmp m0)) (w' := w) rfl ⟨rfl, rfl⟩) ?_)
 rintro _ _ ⟨rfl, rfl⟩
 rw [hmval]
 have ha1 : (a.put (some t72) (.map (some m))).eval (.tmp t72) = .map (some m) := eval_put (by rw [h.nt]; exact n1)
 refine (wpIn_of_OpOk (K := fun v w1 => v = .pointer (some ⟨w.heap.size, 0, none⟩) /\ w1 = w.alloc (.mapIter (some m) l.length #[] l.length)) (OpOk.value (value_op (m := Instr.range T (.map (some m))) ?_ (run_range_map w T TK TV m es l.length hT hes)) ⟨rfl, rfl⟩) ?_)
 . show (Instr.range T ((a.put (some t72) (.map (some m))).eval (.tmp t72)) >>= fun r => pure (Next.value r)) = _
   rw [ha1]
 rintro _ _ ⟨rfl, rfl⟩
 simp only [Exit.then]
 refine wpIn_block ?_
 obtain ⟨r, hr0⟩ : ∃ r, r = w.heap.size := ⟨_, rfl⟩
 rw [<- hr0]
 have hmr : m ≠ r := by have := hmn.2; omega
 have hgr : w.alloc (.mapIter (some m) l.length #[] l.length) = grown w [.mapIter (some m) l.length #[] l.length] w.drawn := by
   show ({ w with heap := w.heap.push (.mapIter (some m) l.length #[] l.length) } : World) = { w with heap := w.heap ++ [Obj.mapIter (some m) l.length #[] l.length].toArray, drawn := w.drawn }
   rw [Array.push_eq_append]
 have h1 : Rp w0 S γ β ((s.put (some t72) .undef).put (some it) .undef) ((a.put (some t72) (.map (some m))).put (some it) (.pointer (some ⟨r, 0, none⟩))) (w.alloc (.mapIter (some m) l.length #[] l.length)) := by
   rw [hgr]
   exact (((h.put (v := .undef) (val := .map (some m)) (by simp [AR]) (some t72)).put (v := .undef) (val := .pointer (some ⟨r, 0, none⟩)) (by simp [AR]) (some it)).grow (os := [.mapIter (some m) l.length #[] l.length]) (d := w.drawn) (Nat.le_refl _) (S' := S) (fun _ _ hb => hb) (fun _ _ hb => .inl hb)).1
 have hv1 : freshL ((s.put (some t72) .undef).put (some it) .undef) e o = some [] := by
   have q1 : ((s.put (some t72) .undef).put (some it) .undef).tm o = s.tm o := by rw [put_tm (fun e => d2 (by cases e; rfl)), put_tm (fun e => d1 (by cases e; rfl))]
   have q2 : ((s.put (some t72) .undef).put (some it) .undef).dead = s.dead := by
     rw [(St.put_fields _ _ _).2.2.1, (St.put_fields _ _ _).2.2.1]
   unfold freshL at hv ⊢
   rw [q1, q2]; exact hv
 have hnt1 : ((s.put (some t72) .undef).put (some it) .undef).nt = s.nt := by rw [(St.put_fields _ _ _).2.2.2.1, (St.put_fields _ _ _).2.2.2.1]
 have hsz1 : (w.alloc (.mapIter (some m) l.length #[] l.length)).heap.size = w.heap.size + 1 := by rw [hgr]; simp [grown]
 have hrn : ¬ w0.Old r := fun ho => by have := ho.1; have := h.ext.sz; omega
 have hdead1 : ((s.put (some t72) .undef).put (some it) .undef).dead = s.dead := by rw [(St.put_fields _ _ _).2.2.1, (St.put_fields _ _ _).2.2.1]
 obtain ⟨β1, X1, hX1, R1⟩ := h1.std (m := m) (r := r) ⟨hmn.1, by rw [hsz1]; omega⟩ ⟨hrn, by rw [hsz1]; omega⟩ hmr (fun v bb ee hd hb => by
   rw [hdead1] at hd
   exact ⟨fun eq => h.βγ v idm bb ee hd hb (eq ▸ hγm), fun eq => by have := (h.βn v bb ee hd hb).2.1; omega⟩) he hv1 it
 rw [hnt1] at R1
 have hes1 : (w.alloc (.mapIter (some m) l.length #[] l.length)).heap[m]? = some (.map es l.length) := by
   rw [hgr, grown_old hmn.2]; exact hes
 have hit1 : (w.alloc (.mapIter (some m) l.length #[] l.length)).heap[r]? = some (.mapIter (some m) l.length #[] l.length) := by rw [hr0]; exact heap_alloc_new w _
 have hp1 : ((a.put (some t72) (.map (some m))).put (some it) (.pointer (some ⟨r, 0, none⟩))).tmps.getD it undef = .pointer (some ⟨r, 0, none⟩) := by
   exact eval_put (by rw [size_put, h.nt]; exact n2)
 refine wp_loop_n (m := l.length) (fun n a w => ∃ (S : Nat -> Nat -> Prop) (β : Nat -> Option (Nat × Nat)) (X : AV) (L : List D) (seen : Array Nat) (c0 : Nat), isX e L X /\ Rp w0 (fun b i => S b i /\ b ≠ m /\ b ≠ r) (γs m r) β (σL s.nt o it X) a w /\ a.tmps.getD it undef = .pointer (some ⟨r, 0, none⟩) ∧
   w.heap[m]? = some (.map es l.length) /\ w.heap[r]? = some (.mapIter (some m) l.length seen c0) /\ l.length <= c0 /\ L = seen.toList.map (fun j => keyD (l.getD j default)) /\ seen.toList.Nodup /\ (∀ j ∈ seen.toList, j < l.length) /\ n + seen.size = l.length)
   ⟨S, β1, X1, [], #[], l.length, hX1, R1, hp1, hes1, hit1, Nat.le_refl _, rfl, by simp, by simp, by simp⟩ ?_
 clear R1 h1 hv1 hp1 hes1 hit1 hX1 hgr
 rintro n a w ⟨S, β, X, L, seen, c0, hX, R, hp, hes, hit, hc0, hL, hnd, hlt, hn⟩
 have hsz := R.nt
 refine wpIn_seq (wpIn_region_list ?_)
 rw [h24]
 simp only [wpListIn, Region.wanted, if_true]
 have hev : a.eval (.tmp it) = .pointer (some ⟨r, 0, none⟩) := hp
 rcases run_next_at w y3 r m l.length c0 seen es l.length hit hes hborn hc0 with ⟨hz, hrun⟩ | ⟨e0, he0, w1, hw1, hrun⟩
 . -- nothing is left
   refine (wpIn_of_OpOk (K := fun v w1 => v = .tuple #[.bool false] /\ w = w1) (OpOk.value (value_op (m := Instr.next (.pointer (some ⟨r, 0, none⟩)) false y3) ?_ hrun) ⟨rfl, rfl⟩) ?_)
   . show (Instr.next (a.eval (.tmp it)) false y3 >>= fun r => pure (Next.value r)) = _
     rw [hev]
   rintro _ _ ⟨rfl, rfl⟩
   have ex : (a.put (some nx) (.tuple #[.bool false])).eval (.tmp nx) = .tuple #[.bool false] := eval_put (by rw [hsz]; exact n3)
   refine (wpIn_of_OpOk (K := fun v w1 => v = .bool false /\ w = w1) (OpOk.value (value_op (m := Instr.extract (.tuple #[.bool false]) 0) ?_ (v := .bool false) (w' := w) rfl) ⟨rfl, rfl⟩) ?_)
   . show (Instr.extract ((a.put (some nx) (.tuple #[.bool false])).eval (.tmp nx)) 0 >>= fun r => pure (Next.value r)) = _
     rw [ex]
   rintro _ _ ⟨rfl, rfl⟩
   simp only [Exit.then]
   refine wpIn_seq (wpIn_cond_false (eval_put (by rw [size_put, hsz]; exact n4)) (wpIn_exit ?_))
   simp only [Exit.then, Exit.inBlock, if_true]
   have R2 := (R.put (v := .undef) (val := .tuple #[.bool false]) (by simp [AR]) (some nx)).put (v := .undef) (val := .bool false) (by simp [AR]) (some ok)
   rw [σL_put d3, σL_put d4] at R2
   refine hQ L _ _ _ X _ _ hX ?_ R2
   have hall : ∀ j, j < l.length -> j ∈ seen.toList := fun j hj => by
     have hj' : j < es.toList.length := by omega
     have e1 := (hesat j _ (List.getElem?_eq_getElem hj')).1
     have hno : es.toList[j] ∉ (leftOf es seen).toList := fun hm => by
       have := List.length_pos_of_mem hm
       simp at this; omega
     simp only [leftOf, Array.toList_filter, List.mem_filter, List.getElem_mem, true_and] at hno
     simp at hno
     simp only [Array.getElem_toList, Nat.zero_add] at e1
     rw [e1] at hno
     simpa using hno
   have hperm : seen.toList.Perm (List.range l.length) := (List.perm_ext_iff_of_nodup hnd List.nodup_range).2 fun j => ⟨fun hj => List.mem_range.2 (hlt j hj), fun hj => hall j (List.mem_range.1 hj)⟩
   rw [hL]
   refine (hperm.map _).trans ?_
   have : (List.range l.length).map (fun j => keyD (l.getD j default)) = l.map keyD := by
     apply List.ext_getElem?
     intro j
     rw [List.getElem?_map, List.getElem?_map]
     rcases Nat.lt_or_ge j l.length with k | k
     . simp [k, List.getD]
     . rw [List.getElem?_eq_none (by simpa using k), List.getElem?_eq_none k]; rfl
   rw [this]
 . -- one more
   have hw1m : w1.heap[m]? = some (.map es l.length) := by rcases hw1 with rfl | rfl <;> exact hes
   have hw1s : w1.heap.size = w.heap.size := by rcases hw1 with rfl | rfl <;> rfl
   have hrs : r < w1.heap.size := by rw [hw1s]; exact (Array.getElem?_eq_some_iff.1 hit).1
   have Rw : Rp w0 (fun b i => S b i /\ b ≠ m /\ b ≠ r) (γs m r) β (σL s.nt o it X) a w1 := by
     rcases hw1 with rfl | rfl
     . exact R
     . have := (R.grow (os := []) (d := w.drawn + 1) (Nat.le_succ _) (S' := fun b i => S b i /\ b ≠ m /\ b ≠ r) (fun _ _ hb => hb) (fun _ _ hb => .inl hb)).1
       have e2 : grown w [] (w.drawn + 1) = w.drew := by
         unfold grown
         rw [show w.heap ++ ([] : List Obj).toArray = w.heap by simp]
         rfl
       rw [e2] at this
       exact this
   obtain ⟨w2, hw2⟩ : ∃ w2, w2 = setBlock w1 r (.mapIter (some m) l.length (seen.push e0.born) l.length) := ⟨_, rfl⟩
   rw [<- hw2] at hrun
   have R2 : Rp w0 (fun b i => S b i /\ b ≠ m /\ b ≠ r) (γs m r) β (σL s.nt o it X) a w2 := by
     rw [hw2]
     exact Rw.setB (id := 1) rfl rfl (fun i hi => hi.2.2 rfl) _
   have hes2 : w2.heap[m]? = some (.map es l.length) := by
     rw [hw2]; simp only [setBlock]; rw [Array.getElem?_setIfInBounds_ne (Ne.symm hmr)]; exact hw1m
   have hit2 : w2.heap[r]? = some (.mapIter (some m) l.length (seen.push e0.born) l.length) := by
     rw [hw2]; simp only [setBlock]; rw [Array.getElem?_setIfInBounds_self_of_lt hrs]
   have he0' : e0 ∈ es.toList /\ e0.born ∉ seen.toList := by
     simp only [leftOf, Array.toList_filter, List.mem_filter] at he0
     exact ⟨he0.1, by have := he0.2; simpa using this⟩
   obtain ⟨j, hj, hje⟩ := List.getElem_of_mem he0'.1
   obtain ⟨q1, k, v, q2, q3, q4, q5, q6⟩ := hesat j e0 (by rw [List.getElem?_eq_getElem hj, hje])
   rw [Nat.zero_add] at q1
   have hjl : j < l.length := by omega
   have hgetj : l.getD j default = .st [k, v] := by simp [List.getD, q2]
   refine (wpIn_of_OpOk (K := fun v w1 => v = .tuple #[.bool true, e0.key, e0.val] /\ w2 = w1) (OpOk.value (value_op (m := Instr.next (.pointer (some ⟨r, 0, none⟩)) false y3) ?_ hrun) ⟨rfl, rfl⟩) ?_)
   . show (Instr.next (a.eval (.tmp it)) false y3 >>= fun r => pure (Next.value r)) = _
     rw [hev]
   rintro _ _ ⟨rfl, rfl⟩
   have ex : (a.put (some nx) (.tuple #[.bool true, e0.key, e0.val])).eval (.tmp nx) = .tuple #[.bool true, e0.key, e0.val] := eval_put (by rw [hsz]; exact n3)
   refine (wpIn_of_OpOk (K := fun v w1 => v = .bool true /\ w2 = w1) (OpOk.value (value_op (m := Instr.extract (.tuple #[.bool true, e0.key, e0.val]) 0) ?_ (v := .bool true) (w' := w2) rfl) ⟨rfl, rfl⟩) ?_)
   . show (Instr.extract ((a.put (some nx) (.tuple #[.bool true, e0.key, e0.val])).eval (.tmp nx)) 0 >>= fun r => pure (Next.value r)) = _
     rw [ex]
   rintro _ _ ⟨rfl, rfl⟩
   simp only [Exit.then]
   refine wpIn_seq (wpIn_cond_true (eval_put (by rw [size_put, hsz]; exact n4)) (wpIn_skip ?_))
   simp only [Exit.then]
   refine wpIn_block (wpIn_seq (wpIn_region_list ?_))
   have R3 := (R2.put (v := .undef) (val := .tuple #[.bool true, e0.key, e0.val]) (by simp [AR]) (some nx)).put (v := .undef) (val := .bool true) (by simp [AR]) (some ok)
   rw [σL_put d3, σL_put d4] at R3
   have hp3 : ((a.put (some nx) (.tuple #[.bool true, e0.key, e0.val])).put (some ok) (.bool true)).tmps.getD it undef = .pointer (some ⟨r, 0, none⟩) := by
     rw [put_slot (fun e => d8 (by cases e; rfl)), put_slot (fun e => d7 (by cases e; rfl))]; exact hp
   generalize ((a.put (some nx) (.tuple #[.bool true, e0.key, e0.val])).put (some ok) (.bool true)) = a3 at R3 hp3 ⊢
   rw [h25]
   simp only [wpListIn, Region.wanted, if_true]
   refine (wpIn_of_OpOk (K := fun v w1 => v = .tuple #[e0.key, e0.val] /\ w2 = w1) (OpOk.value (value_op (m := Instr.entry (.pointer (some ⟨r, 0, none⟩))) ?_ (run_entry_at w2 r m l.length seen es l.length e0 hit2 hes2 he0'.1 hbn)) ⟨rfl, rfl⟩) ?_)
   . show (Instr.entry (a3.eval (.tmp it)) >>= fun r => pure (Next.value r)) = _
     rw [show a3.eval (.tmp it) = .pointer (some ⟨r, 0, none⟩) from hp3]
   rintro _ _ ⟨rfl, rfl⟩
   have R4 := R3.put (v := .d (.tup [e, vt]) (.tup [k, v])) (val := .tuple #[e0.key, e0.val]) (by
     simp only [AR]
     refine .inr ⟨[e, vt], rfl, by simp [noTups, hne, hnv], ⟨[k, v], rfl, k, [v], rfl, q3, v, [], rfl, q4, rfl⟩, [e0.key, e0.val], rfl, rfl, fun i d u hd hu => ?_⟩
     cases i with
     | zero => simp at hd hu; subst hd; subst hu; exact DR0_any he q3 q5
     | succ i => cases i with
       | zero => simp at hd hu; subst hd; subst hu; exact DR0_any hvt q4 q6
       | succ i => simp at hd) (some en)
   have hp4 : (a3.put (some en) (.tuple #[e0.key, e0.val])).tmps.getD it undef = .pointer (some ⟨r, 0, none⟩) := by
     rw [put_slot (fun e => d9 (by cases e; rfl))]; exact hp3
   generalize (a3.put (some en) (.tuple #[e0.key, e0.val])) = a4 at R4 hp4 ⊢
   have hbs : (e0.born :: seen.toList).length <= l.length := nodup_lt _ _ (List.nodup_cons.2 ⟨he0'.2, hnd⟩) (fun x hx => by
     rcases List.mem_cons.1 hx with rfl | hx
     . omega
     . exact hlt x hx)
   have hLl : L.length = seen.size := by rw [hL]; simp
   simp only [List.length_cons, Array.length_toList] at hbs
   have lkS4 : ((σL s.nt o it X).put (some en) (.d (.tup [e, vt]) (.tup [k, v]))).lkS = [it] := (St.put_fields _ _ _).2.2.2.2.1
   have lkO4 : ((σL s.nt o it X).put (some en) (.d (.tup [e, vt]) (.tup [k, v]))).lkO = [0, 1] := (St.put_fields _ _ _).2.2.2.2.2.1
   refine wpList_any (ops := rest.toArray) rest _ _ hrest ?_
   have key := list_ev (ro := ro) (nn := nn) hE (Q := Exit.then (c26.wpIn (FW ro) nn P (Exit.inBlock b2 (Exit.then (fun a' w' => ∃ m_1, m_1 < n /\ ∃ (S : Nat -> Nat -> Prop) (β : Nat -> Option (Nat × Nat)) (X : AV) (L : List D) (seen : Array Nat) (c0 : Nat), isX e L X /\ Rp w0 (fun b i => S b i /\ b ≠ m /\ b ≠ r) (γs m r) β (σL s.nt o it X) a' w' /\ a'.tmps.getD it undef = .pointer (some ⟨r, 0, none⟩) ∧
     w'.heap[m]? = some (.map es l.length) /\ w'.heap[r]? = some (.mapIter (some m) l.length seen c0) /\ l.length <= c0 /\ L = seen.toList.map (fun j => keyD (l.getD j default)) /\ seen.toList.Nodup /\ (∀ j ∈ seen.toList, j < l.length) /\ m_1 + seen.size = l.length) (Exit.inBlock b Q)))) (Exit.inBlock b2 (Exit.then (fun a' w' => ∃ m_1, m_1 < n /\ ∃ (S : Nat -> Nat -> Prop) (β : Nat -> Option (Nat × Nat)) (X : AV) (L : List D) (seen : Array Nat) (c0 : Nat), isX e L X /\ Rp w0 (fun b i => S b i /\ b ≠ m /\ b ≠ r) (γs m r) β (σL s.nt o it X) a' w' /\ a'.tmps.getD it undef = .pointer (some ⟨r, 0, none⟩) ∧
     w'.heap[m]? = some (.map es l.length) /\ w'.heap[r]? = some (.mapIter (some m) l.length seen c0) /\ l.length <= c0 /\ L = seen.toList.map (fun j => keyD (l.getD j default)) /\ seen.toList.Nodup /\ (∀ j ∈ seen.toList, j < l.length) /\ m_1 + seen.size = l.length) (Exit.inBlock b Q)))) R4 (hround X L k v hX (by omega) q3) ?_
   . simpa using key
   intro x s' S' γ' β' a' w' g1 g2 g3 g4
   cases x with
   | ret => cases g4
   | exit i => cases g4
   | normal =>
     show c26.wpIn (FW ro) nn P _ a' w'
     refine ev_ok hE c26 .leaf D _ _ g1 g4 fun x2 s2 S2 γ2 β2 a5 w5 k1 k2 k3 k4 => ?_
     cases x2 with
     | ret => cases k4
     | exit i => cases k4
     | normal =>
       have hfr : freshL s2 e o = some (L ++ [k]) := by
         obtain ⟨l2, u1, u2⟩ := bind_some_inv k4
         simp only [Option.some.injEq, D.sl.injEq] at u2
         rw [u1, u2]
       have F := g2.tr k2 g3
       obtain ⟨z1, z2⟩ := F.objs 0 (by rw [lkO4]; simp) m rfl
       obtain ⟨z3, z4⟩ := F.objs 1 (by rw [lkO4]; simp) r rfl
       have z5 := F.slots it (by rw [lkS4]; simp)
       obtain ⟨β6, X6, hX6, R6⟩ := k1.std (m := m) (r := r) (k1.γn 0 m z1) (k1.γn 1 r z3) hmr (fun u bb ee hd hb => ⟨fun eq => k1.βγ u 0 bb ee hd hb (eq ▸ z1), fun eq => k1.βγ u 1 bb ee hd hb (eq ▸ z3)⟩) he hfr it
       have hnt6 : s2.nt = s.nt := by
         rw [k3.nt, g3.nt, (St.put_fields _ _ _).2.2.2.1]; rfl
       rw [hnt6] at R6
       show ∃ m_1, m_1 < n /\ _
       refine ⟨n - 1, by omega, S2, β6, X6, L ++ [k], seen.push e0.born, l.length, hX6, R6, z5.trans hp4, z2.trans hes2, z4.trans hit2, Nat.le_refl _, ?_, ?_, ?_, ?_⟩
       . rw [Array.toList_push, List.map_append, <- hL, List.map_cons, List.map_nil, q1, hgetj]; rfl
       . rw [Array.toList_push, List.nodup_append]
         refine ⟨hnd, by simp, fun x hx y hy => ?_⟩
         rw [List.mem_singleton.1 hy]
         exact fun eq => he0'.2 (eq ▸ hx)
       . intro x hx
         rw [Array.toList_push] at hx
         rcases List.mem_append.1 hx with hx | hx
         . exact hlt x hx
         . rw [List.mem_singleton.1 hx]; omega
       . simp; omega
end
end Go.Proofs.YtjjjkojfijpeeaaGreat.Sy
end
section
namespace Go.Proofs.YtjjjkojfijpeeaaGreat.Sy
open Go Go.Proofs Go.Sort Go.Lib
section
variable {P : Program} {E : Env}
def rootOf (w : World) (S : Nat -> Nat -> Prop) : Root := ⟨w, S, fun _ => False⟩
def Qok (P : Program) (fn : Func) (w : World) (S : Nat -> Nat -> Prop) (rty : Ty) (y : D) : Exit -> Act -> World -> Prop :=
 bodyPost P fn fun e w' => ∃ v, e = .returned v /\ (∃ os d, w.drawn <= d /\ w' = grown w os d) /\ wt rty y /\ DR w' (fun b o => S b o \/ (w.heap.size <= b /\ b < w'.heap.size)) y v
theorem fin_wp (hE : EnvOk P E) {fn : Func} {rty : Ty} {y : D} {w : World} {S : Nat -> Nat -> Prop} (hr : rtyOk fn.results.size rty = true) {d : Code} {ann : Ann} {S' : Nat -> Nat -> Prop} {γ' : Nat -> Option Nat} {β' : Nat -> Option (Nat × Nat)} {s' : St} {a' : Act} {w' : World}
   (h : Rp (rootOf w S) S' γ' β' s' a' w') (hev : (ev E d ann D s' fun e s => match e with | .exit _ => none | _ => results E s rty fn.results.toList) = some y) : d.wpIn (FW none) 0 P (Qok P fn w S rty y) a' w' := by
 refine ev_ok hE d ann D _ y h hev fun e s' S' γ' β' a' w' n1 n2 n3 n4 => ?_
 have hres : results E s' rty fn.results.toList = some y -> (∃ v, (Go.results fn a'.tmps).run P w' = .ok v w' /\ ∃ v', Ending.returned v = .returned v' /\ (∃ os d, w.drawn <= d /\ w' = grown w os d) /\ wt rty y /\ DR w' (fun b o => S b o \/ (w.heap.size <= b /\ b < w'.heap.size)) y v') := fun hq => by
   obtain ⟨v, k1, k2, k3⟩ := results_ok hE n1 hr hq
   refine ⟨v, k1, v, rfl, grown_of_ext n1.ext (fun _ hf => hf), k2, k3.mono (fun _ _ _ => rfl) fun b o hb => ?_⟩
   rcases Nat.lt_or_ge b w.heap.size with hlt | hge
   . exact .inl (n1.So b o hb ⟨hlt, fun hf => hf⟩)
   . exact .inr ⟨hge, n1.Sb b o hb⟩
 cases e with
 | normal => exact ⟨n1.df, hres n4⟩
 | ret => exact ⟨n1.df, hres n4⟩
 | exit i => cases n4
theorem ctr_of_evS (hE : EnvOk P E) {f : FuncId} {fn : Func} {ann : AnnT} {ptys : List Ty} {rty : Ty} {xs : List D} {y : D} {K : St -> Option D} (hf : P.funcs[f]? = some fn) (hk : (decide (ptys.length <= fn.ntmps) && rtyOk fn.results.size rty && noTups ptys) = true)
   (h : evFS E K fn ann ptys xs = some y) (hK : ∀ c, fn.body = some c -> ∀ (w : World) (S S' : Nat -> Nat -> Prop) γ' β' s' a' w', Rp (rootOf w S) S' γ' β' s' a' w' -> K s' = some y -> (stopC c ann).wpIn (FW none) 0 P (Qok P fn w S rty y) a' w') : Ctr P ptys rty f xs y := by
 intro w S vs hS hwt hlen hvs
 simp only [Bool.and_eq_true, decide_eq_true_eq] at hk
 obtain ⟨⟨hsz, hr⟩, hn⟩ := hk
 unfold evFS at h
 split at h <;> first | (cases h; done) | skip
 rename_i c hb
 have hxl : xs.length = ptys.length := wts_length hwt
 have hntm : (vs.toArray ++ Array.replicate (fn.ntmps - vs.toArray.size) undef).size = fn.ntmps := by
   simp; omega
 refine calls_of_wpI hf hb (evS_ok (w0 := rootOf w S) hE c ann (S := S) (γ := fun _ => none) (β := fun _ => none) (s := initSt fn ptys xs) ?_ h fun s' S' γ' β' a' w' n1 n2 => hK c hb w S S' γ' β' s' a' w' n1 n2)
 refine ⟨⟨rfl, rfl, rfl, Nat.le_refl _, Nat.le_refl _, fun _ _ => rfl⟩, fun t ht => ?_, hntm, fun t ht => ?_, fun id o b ho => (by cases ho), fun id b hb => (by cases hb), fun id id' b hb => (by cases hb), fun _ _ => rfl, fun v b e _ hb => (by cases hb), fun v v' b e e' _ _ hb => (by cases hb), fun v id b e _ hb => (by cases hb), fun _ _ => rfl, hS, fun b o hb _ => hb, rfl⟩
 . simp only [initSt, initTm]
   split
   . rename_i ty x e1 e2
     have hlt := (List.getElem?_eq_some_iff.1 e2).1
     have hlt' : t < vs.length := by omega
     have hv : (vs.toArray ++ Array.replicate (fn.ntmps - vs.toArray.size) undef).getD t undef = vs[t] := by
       simp [Array.getD, Array.getElem_append, hlt']
       omega
     show AR _ _ ((vs.toArray ++ Array.replicate (fn.ntmps - vs.toArray.size) undef).getD t undef)
     rw [hv]
     obtain ⟨x', hx', hw'⟩ := wts_get hwt e1
     rw [e2] at hx'; cases hx'
     exact AR_of_d (noTups_get hn e1) hw' (hvs t x _ e2 (List.getElem?_eq_getElem hlt'))
   . simp only [AR]
 . have ht' : fn.ntmps <= t := ht
   simp only [initSt, initTm]
   rw [List.getElem?_eq_none (by omega)]
def sEnd (nt x : Nat) (e : Ty) (l : List D) : St := { tm := fun i => if i = x then .d (.sl e) (.sl l) else .undef, ob := fun _ => none, fresh := 0, dead := [], nt := nt, lkS := [], lkO := [] }
theorem Rp.reset {w0 : Root} {S : Nat -> Nat -> Prop} {s : St} {x : Nat} {e : Ty} {l : List D} {a : Act} {w : World} (h : Rp w0 S (fun _ => none) (fun _ => none) (sNew s x e l) a w) {nt : Nat} (hnt : s.nt = nt) : Rp w0 S (fun _ => none) (fun _ => none) (sEnd nt x e l) a w := by
 subst hnt
 exact ⟨h.ext, h.tms, h.nt, h.tmu, fun id o b ho => (by cases ho), h.γn, h.γi, fun _ _ => rfl, h.βn, h.βi, h.βγ, fun _ _ => rfl, h.Sb, h.So, h.df⟩
def sortK (E : Env) (nt x g : Nat) (e : Ty) (s : St) : Option D := (freshL s e x).bind fun l => if s.nt = nt then (sortD E g l).bind fun l' => some (.sl l') else none
theorem sort_tail (hE : EnvOk P E) {f0 : Nat} {e : Ty} (hf : SortOk P f0 e) {g : Nat} (hsig : E.sig g = some ([e, e], .int .i64)) {fn : Func} {rty : Ty} {y : D} {w : World} {S : Nat -> Nat -> Prop} (hr : rtyOk fn.results.size rty = true)
   {id x t d2 nt : Nat} {ops : Array Oper} {d : Code} {ann : Ann} {ty1 ty2 : TypeId} {p1 p2 : String} {af1 af2 : Array Edge} {args : Array Operand} {ats : Array TypeId}
   (hops : ops.toList = [⟨some t, .move (.tmp x), ty1, p1, af1, none⟩, ⟨some d2, .call ⟨.value (.func f0), args, ats⟩, ty2, p2, af2, none⟩]) (hargs : args = #[.tmp t, .func g]) (hd : (decide (x ≠ t) && decide (x ≠ d2) && decide (t < nt)) = true)
   (hev : ∀ l', (ev E d ann D (sEnd nt x e l') fun e s => match e with | .exit _ => none | _ => results E s rty fn.results.toList) = some (.sl l'))
   {S' : Nat -> Nat -> Prop} {γ' : Nat -> Option Nat} {β' : Nat -> Option (Nat × Nat)} {s' : St} {a' : Act} {w' : World} (h : Rp (rootOf w S) S' γ' β' s' a' w') (hK : sortK E nt x g e s' = some y) : (Code.seq (.region id ops false) d).wpIn (FW none) 0 P (Qok P fn w S rty y) a' w' := by
 simp only [Bool.and_eq_true, decide_eq_true_eq] at hd
 obtain ⟨⟨hd1, hd2⟩, hd3⟩ := hd
 obtain ⟨l, h1, h2⟩ := bind_some_inv hK
 split at h2 <;> first | (cases h2; done) | skip
 rename_i hnt
 obtain ⟨l', h3, h4⟩ := bind_some_inv h2
 cases h4
 refine wpIn_seq (sort_wp hE hf hsig hops hargs h hd1 hd2 (by rw [hnt]; exact hd3) h1 h3 fun a2 w2 S2 hR => ?_)
 exact fin_wp hE hr (hR.reset hnt) (hev l')
theorem insL_sorted {lt : D -> D -> Bool} {x : D} : ∀ {l : List D}, (∀ a ∈ x :: l, ∀ b ∈ x :: l, ∀ c ∈ x :: l, lt a b = true -> lt b c = true -> lt a c = true) -> (∀ y ∈ l, lt x y = true \/ lt y x = true) -> l.Pairwise (fun a b => lt a b = true) -> (insL lt x l).Pairwise (fun a b => lt a b = true)
 | [], _, _, _ => by simp [insL]
 | y :: l, htr, hto, hp => by
   obtain ⟨p1, p2⟩ := List.pairwise_cons.1 hp
   simp only [insL]
   split
   . rename_i hxy
     refine List.pairwise_cons.2 ⟨fun z hz => ?_, hp⟩
     rcases List.mem_cons.1 hz with rfl | hz
     . exact hxy
     . exact htr x (by simp) y (by simp) z (by simp [hz]) hxy (p1 z hz)
   . rename_i hxy
     have hyx : lt y x = true := (hto y List.mem_cons_self).resolve_left hxy
     refine List.pairwise_cons.2 ⟨fun z hz => ?_, insL_sorted (fun a ha b hb c hc => ?_) (fun z hz => hto z (List.mem_cons_of_mem _ hz)) p2⟩
     . rcases List.mem_cons.1 ((insL_perm lt x l).subset hz) with rfl | hz
       . exact hyx
       . exact p1 z hz
     . have up : ∀ q, q ∈ x :: l -> q ∈ x :: y :: l := fun q hq => by
         rcases List.mem_cons.1 hq with rfl | hq
         . simp
         . simp [hq]
       exact htr a (up a ha) b (up b hb) c (up c hc)
theorem sortL_sorted {lt : D -> D -> Bool} : ∀ {l : List D}, (∀ a ∈ l, ∀ b ∈ l, ∀ c ∈ l, lt a b = true -> lt b c = true -> lt a c = true) -> l.Pairwise (fun a b => lt a b = true \/ lt b a = true) -> (sortL lt l).Pairwise (fun a b => lt a b = true)
 | [], _, _ => by simp [sortL]
 | x :: l, htr, hto => by
   obtain ⟨p1, p2⟩ := List.pairwise_cons.1 hto
   have hs : ∀ q, q ∈ sortL lt l -> q ∈ l := fun q hq => (sortL_perm lt l).subset hq
   have up : ∀ q, q ∈ x :: sortL lt l -> q ∈ x :: l := fun q hq => by
     rcases List.mem_cons.1 hq with rfl | hq
     . simp
     . simp [hs q hq]
   exact insL_sorted (fun a ha b hb c hc => htr a (up a ha) b (up b hb) c (up c hc)) (fun y hy => p1 y (hs y hy)) (sortL_sorted (fun a ha b hb c hc => htr a (List.mem_cons_of_mem _ ha) b (List.mem_cons_of_mem _ hb) c (List.mem_cons_of_mem _ hc)) p2)
theorem sortD_of {g : Nat} {l l' : List D} (hc : chkS E g l' = true) (hp : l.Perm l') : sortD E g l = some l' := by
 obtain ⟨h1, h2⟩ := chkS_spec hc
 have ix : ∀ x ∈ l', ∃ i, l'[i]? = some x := fun x hx => by
   obtain ⟨i, k1, k2⟩ := List.getElem_of_mem hx
   exact ⟨i, by rw [List.getElem?_eq_getElem k1, k2]⟩
 have htr : ∀ a ∈ l, ∀ b ∈ l, ∀ c ∈ l, ltD E g a b = true -> ltD E g b c = true -> ltD E g a c = true := fun a ha b hb c hc' k1 k2 => by
   obtain ⟨i, hi⟩ := ix a (hp.subset ha); obtain ⟨j, hj⟩ := ix b (hp.subset hb); obtain ⟨k, hk⟩ := ix c (hp.subset hc')
   have := (chk_idx hc hi hj).1.1 k1
   have := (chk_idx hc hj hk).1.1 k2
   exact (chk_idx hc hi hk).1.2 (by omega)
 have hnd : l.Nodup := hp.symm.nodup (chk_nodup hc)
 have hto : l.Pairwise (fun a b => ltD E g a b = true \/ ltD E g b a = true) := by
   refine List.Pairwise.imp_of_mem (fun {a b} ha hb hab => ?_) hnd
   obtain ⟨i, hi⟩ := ix a (hp.subset ha); obtain ⟨j, hj⟩ := ix b (hp.subset hb)
   rcases Nat.lt_trichotomy i j with k | k | k
   . exact .inl ((chk_idx hc hi hj).1.2 k)
   . subst k; rw [hi] at hj; cases hj; exact absurd rfl hab
   . exact .inr ((chk_idx hc hj hi).1.2 k)
 have hs := sortL_sorted htr hto
 have hsp : (sortL (ltD E g) l).Perm l' := (sortL_perm _ l).trans hp
 have : sortL (ltD E g) l = l' := by
   have key : ∀ {a b : List D}, a.Pairwise (fun x y => ltD E g x y = true) -> b.Pairwise (fun x y => ltD E g x y = true) -> a.Perm b -> (∀ x ∈ a, x ∈ l') -> a = b := by
     intro a
     induction a with
     | nil => intro b _ _ hp _; exact hp.symm.eq_nil.symm ▸ rfl
     | cons x a ih =>
       intro b ha hb hp hm
       cases b with
       | nil => exact absurd hp.eq_nil (by simp)
       | cons y b =>
         obtain ⟨a1, a2⟩ := List.pairwise_cons.1 ha
         obtain ⟨b1, b2⟩ := List.pairwise_cons.1 hb
         have e : x = y := by
           rcases List.mem_cons.1 (hp.subset List.mem_cons_self) with e | m1
           . exact e
           . rcases List.mem_cons.1 (hp.symm.subset (List.mem_cons_self (a := y))) with e | m2
             . exact e.symm
             . exfalso
               obtain ⟨i, hi⟩ := ix x (hm x List.mem_cons_self)
               obtain ⟨j, hj⟩ := ix y (hm y (List.mem_cons_of_mem _ m2))
               have := (chk_idx hc hi hj).1.1 (a1 y m2)
               have := (chk_idx hc hj hi).1.1 (b1 x m1)
               omega
         subst e
         rw [ih a2 b2 ((List.perm_cons x).1 hp) (fun z hz => hm z (List.mem_cons_of_mem _ hz))]
   exact key hs (h1.imp fun h => h.1) hsp fun x hx => hsp.subset hx
 unfold sortD
 rw [this, if_pos hc]
theorem sortD_perm {g : Nat} {l l2 l' : List D} (h : sortD E g l = some l') (hp : l2.Perm l) : sortD E g l2 = some l' := by
 have hsd : chkS E g l' = true /\ l' = sortL (ltD E g) l := by
   unfold sortD at h
   split at h
   . rename_i hh; cases h; exact ⟨hh, rfl⟩
   . cases h
 exact sortD_of hsd.1 (hp.trans (by rw [hsd.2]; exact (sortL_perm _ l).symm))
end
end Go.Proofs.YtjjjkojfijpeeaaGreat.Sy
end
section
namespace Go.Proofs.YtjjjkojfijpeeaaGreat.Sy
open Go Go.Proofs Go.Sort Go.Lib
section
variable {P : Program} {E : Env}
def rsortK (E : Env) (nt m0 o g : Nat) (e vt : Ty) (s : St) : Option D :=
 match s.tm m0 with
 | .map kt vt' id => if kt.beq e && vt'.beq vt then (match s.ob id with
     | some (.mp kt2 vt2 l) => if kt2.beq e && vt2.beq vt && decide (l.length <= 1073741824) then (match freshL s e o with
         | some [] => if s.nt = nt then (sortD E g (l.map keyD)).bind fun l' => some (.sl l') else none
         | _ => none) else none
     | _ => none) else none
 | _ => none
theorem rsort_tail (hE : EnvOk P E) {e vt : Ty} (he : cmpTy e = true) (hvt : cmpTy vt = true) (hne : noTup e = true) (hnv : noTup vt = true) {fn : Func} {rty : Ty} {y : D} {w : World} {S : Nat -> Nat -> Prop} (hr : rtyOk fn.results.size rty = true)
   {id23 id24 id25 b b2 : Nat} {t72 m0 it T nx ok en o nt : Nat} {o23 o24 o25 : Array Oper} {rest : List Oper} {c26 : Code}
   {y1 y2 y3 y4 y5 : TypeId} {p1 p2 p3 p4 p5 : String} {f1 f2 f3 f4 f5 : Array Edge} {TK TV : TypeId}
   (h23 : o23.toList = [⟨some t72, .move (.tmp m0), y1, p1, f1, none⟩, ⟨some it, .range T (.tmp t72), y2, p2, f2, none⟩])
   (h24 : o24.toList = [⟨some nx, .next (.tmp it) false, y3, p3, f3, none⟩, ⟨some ok, .extract (.tmp nx) 0, y4, p4, f4, none⟩])
   (h25 : o25.toList = ⟨some en, .entry (.tmp it), y5, p5, f5, none⟩ :: rest) (hrest : (rest.all fun x => x.guard.isNone) = true) (hT : P.underlying T = some (.map TK TV))
   (hd : (decide (o ≠ t72) && decide (o ≠ it) && decide (nx ≠ o) && decide (ok ≠ o) && decide (en ≠ o) && decide (it ≠ t72) && decide (it ≠ nx) && decide (it ≠ ok) && decide (it ≠ en) && decide (nx ≠ ok) && decide (t72 < nt) && decide (it < nt) && decide (nx < nt) && decide (ok < nt) && decide (en < nt)) = true)
   (hround : ∀ X L k v, isX e L X -> L.length < 1073741824 -> wt e k -> ev E (.region 0 rest.toArray false) .leaf D ((σL nt o it X).put (some en) (.d (.tup [e, vt]) (.tup [k, v]))) (fun x s' => match x with
     | .normal => ev E c26 .leaf D s' (fun x s'' => match x with | .normal => (freshL s'' e o).bind fun l => some (.sl l) | _ => none)
     | _ => none) = some (.sl (L ++ [k])))
   {f0 g : Nat} (hf : SortOk P f0 e) (hsig : E.sig g = some ([e, e], .int .i64)) {id t d2 : Nat} {ops : Array Oper} {d : Code} {ann : Ann} {ty1 ty2 : TypeId} {q1 q2 : String} {af1 af2 : Array Edge} {args : Array Operand} {ats : Array TypeId}
   (hops : ops.toList = [⟨some t, .move (.tmp o), ty1, q1, af1, none⟩, ⟨some d2, .call ⟨.value (.func f0), args, ats⟩, ty2, q2, af2, none⟩]) (hargs : args = #[.tmp t, .func g]) (hd' : (decide (o ≠ t) && decide (o ≠ d2) && decide (t < nt)) = true)
   (hev : ∀ l', (ev E d ann D (sEnd nt o e l') fun x s => match x with | .exit _ => none | _ => results E s rty fn.results.toList) = some (.sl l'))
   {S' : Nat -> Nat -> Prop} {γ' : Nat -> Option Nat} {β' : Nat -> Option (Nat × Nat)} {s' : St} {a' : Act} {w' : World} (h : Rp (rootOf w S) S' γ' β' s' a' w') (hK : rsortK E nt m0 o g e vt s' = some y) :
   (Code.seq (Code.seq (.region id23 o23 false) (.block b (.loop (.seq (.region id24 o24 false) (.seq (.cond (.tmp ok) .skip (.exit b)) (.block b2 (.seq (.region id25 o25 false) c26))))))) (Code.seq (.region id ops false) d)).wpIn (FW none) 0 P (Qok P fn w S rty y) a' w' := by
 unfold rsortK at hK
 split at hK <;> first | (cases hK; done) | skip
 rename_i kt vt' idm htm
 split at hK <;> first | (cases hK; done) | skip
 rename_i hb1
 split at hK <;> first | (cases hK; done) | skip
 rename_i kt2 vt2 l hob
 split at hK <;> first | (cases hK; done) | skip
 rename_i hb2
 split at hK <;> first | (cases hK; done) | skip
 rename_i hfr
 split at hK <;> first | (cases hK; done) | skip
 rename_i hnt
 obtain ⟨l', h3, h4⟩ := bind_some_inv hK
 cases h4
 simp only [Bool.and_eq_true, decide_eq_true_eq] at hb1 hb2 hd
 have e1 := Ty.eq_of_beq _ _ hb1.1; have e2 := Ty.eq_of_beq _ _ hb1.2; have e3 := Ty.eq_of_beq _ _ hb2.1.1; have e4 := Ty.eq_of_beq _ _ hb2.1.2
 subst e1; subst e2; subst e3; subst e4
 obtain ⟨⟨⟨⟨⟨⟨⟨⟨⟨⟨⟨⟨⟨⟨d1, d2'⟩, d3⟩, d4⟩, d5⟩, d6⟩, d7⟩, d8⟩, d9⟩, d10⟩, n1⟩, n2⟩, n3⟩, n4⟩, n5⟩ := hd
 subst hnt
 refine wpIn_seq (loop_wp hE he hvt hne hnv h23 h24 h25 (fun x hx => by simpa using List.all_eq_true.1 hrest x hx) hT h d1 d2' d3 d4 d5 d6 d7 d8 d9 d10 n1 n2 n3 n4 n5 htm hob hb2.2 hfr hround fun L S2 γ2 β2 X a2 w2 hX hp hR => ?_)
 have hlen : L.length <= 1073741824 := by rw [hp.length_eq]; simpa using hb2.2
 have hfX : freshL (σL s'.nt o it X) kt2 o = some L := by
   unfold freshL σL
   simp only [if_true]
   rcases hX with ⟨rfl, rfl⟩ | rfl
   . rfl
   . simp only
     have : (kt2.beq kt2 && !(([] : List Nat).contains 5) && decide (L.length <= 1073741824)) = true := by
       simp only [Bool.and_eq_true, decide_eq_true_eq]
       exact ⟨⟨hb2.1.1, rfl⟩, hlen⟩
     rw [if_pos this]
 refine sort_tail hE hf hsig hr hops hargs hd' hev hR ?_
 unfold sortK
 rw [hfX, Option.bind_some, if_pos (show (σL s'.nt o it X).nt = s'.nt from rfl), sortD_perm h3 hp]
 rfl
end
end Go.Proofs.YtjjjkojfijpeeaaGreat.Sy
end
section
namespace Go.Proofs
open Go.Shelf
def Tryz.sortE_ren : Go.Shelf.Ren := ⟨fun | 6 => 50 | 15 => 114 | 14 => 113 | 28 => 165 | 29 => 166 | 20 => 157 | 21 => 158 | 22 => 159 | 23 => 160 | 24 => 161 | 25 => 162 | 26 => 163 | 27 => 164 | 46 => 189 | 47 => 190 | 48 => 191 | 49 => 192 | 50 => 193 | 57 => 216 | n => n, fun | 22 => 40 | 24 => 66 | 25 => 91 | 3 => 3 | 39 => 143 | 0 => 0 | 53 => 42 | 55 => 145 | 4 => 4 | 46 => 172 | 45 => 171 | 50 => 153 | 5 => 5 | 9 => 9 | 66 => 192 | 70 => 196 | 76 => 215 | 77 => 216 | n => n, fun | n => n⟩
theorem Tryz.sortE : Go.Proofs.SlLaysF0.n6 Tryz.prog Tryz.sortE_ren := {
 mixed := by kernel_rfl
 f6 := ⟨Tryz.f50.name, by decide, Tryz.func50.trans (congrArg some (by kernel_rfl))⟩
 f14 := ⟨Tryz.f113.name, by decide, Tryz.func113.trans (congrArg some (by kernel_rfl))⟩
 f15 := Tryz.func114.trans (congrArg some (by kernel_rfl))
 f20 := ⟨Tryz.f157.name, by decide, Tryz.func157.trans (congrArg some (by kernel_rfl))⟩
 f21 := ⟨Tryz.f158.name, by decide, Tryz.func158.trans (congrArg some (by kernel_rfl))⟩
 f22 := ⟨Tryz.f159.name, by decide, Tryz.func159.trans (congrArg some (by kernel_rfl))⟩
 f23 := ⟨Tryz.f160.name, by decide, Tryz.func160.trans (congrArg some (by kernel_rfl))⟩
 f24 := ⟨Tryz.f161.name, by decide, Tryz.func161.trans (congrArg some (by kernel_rfl))⟩
 f25 := ⟨Tryz.f162.name, by decide, Tryz.func162.trans (congrArg some (by kernel_rfl))⟩
 f26 := ⟨Tryz.f163.name, by decide, Tryz.func163.trans (congrArg some (by kernel_rfl))⟩
 f27 := ⟨Tryz.f164.name, by decide, Tryz.func164.trans (congrArg some (by kernel_rfl))⟩
 f28 := Tryz.func165.trans (congrArg some (by kernel_rfl))
 f29 := Tryz.func166.trans (congrArg some (by kernel_rfl))
 f46 := ⟨Tryz.f189.name, by decide, Tryz.func189.trans (congrArg some (by kernel_rfl))⟩
 f47 := Tryz.func190.trans (congrArg some (by kernel_rfl))
 f48 := Tryz.func191.trans (congrArg some (by kernel_rfl))
 f49 := ⟨Tryz.f192.name, by decide, Tryz.func192.trans (congrArg some (by kernel_rfl))⟩
 f50 := ⟨Tryz.f193.name, by decide, Tryz.func193.trans (congrArg some (by kernel_rfl))⟩
 f57 := ⟨Tryz.f216.name, by decide, Tryz.func216.trans (congrArg some (by kernel_rfl))⟩
 t0 := Tryz.underlying0
 a0 := Tryz.isAgg0
 z0 := Tryz.sizeOf0
 v0 := Tryz.zeroValue0
 t3 := Tryz.underlying3
 a3 := Tryz.isAgg3
 z3 := Tryz.sizeOf3
 v3 := Tryz.zeroValue3
 t4 := Tryz.underlying4
 a4 := Tryz.isAgg4
 z4 := Tryz.sizeOf4
 v4 := Tryz.zeroValue4
 t5 := Tryz.underlying5
 a5 := Tryz.isAgg5
 z5 := Tryz.sizeOf5
 v5 := Tryz.zeroValue5
 t9 := Tryz.underlying9
 a9 := Tryz.isAgg9
 z9 := Tryz.sizeOf9
 v9 := Tryz.zeroValue9
 t22 := Tryz.underlying40
 a22 := Tryz.isAgg40
 z22 := Tryz.sizeOf40
 v22 := Tryz.zeroValue40
 t25 := Tryz.underlying91
 a25 := Tryz.isAgg91
 z25 := Tryz.sizeOf91
 v25 := Tryz.zeroValue91
 t39 := Tryz.underlying143
 a39 := Tryz.isAgg143
 z39 := Tryz.sizeOf143
 v39 := Tryz.zeroValue143
 t45 := Tryz.underlying171
 a45 := Tryz.isAgg171
 z45 := Tryz.sizeOf171
 v45 := Tryz.zeroValue171
 t46 := Tryz.underlying172
 a46 := Tryz.isAgg172
 z46 := Tryz.sizeOf172
 v46 := Tryz.zeroValue172
 t50 := Tryz.underlying153
 a50 := Tryz.isAgg153
 z50 := Tryz.sizeOf153
 v50 := Tryz.zeroValue153
 t53 := Tryz.underlying42
 a53 := Tryz.isAgg42
 z53 := Tryz.sizeOf42
 v53 := Tryz.zeroValue42
 t55 := Tryz.underlying145
 a55 := Tryz.isAgg145
 z55 := Tryz.sizeOf145
 v55 := Tryz.zeroValue145
 t66 := Tryz.underlying192
 a66 := Tryz.isAgg192
 z66 := Tryz.sizeOf192
 v66 := Tryz.zeroValue192
 t70 := Tryz.underlying196
 a70 := Tryz.isAgg196
 z70 := Tryz.sizeOf196
 v70 := Tryz.zeroValue196
 t76 := Tryz.underlying215
 a76 := Tryz.isAgg215
 z76 := Tryz.sizeOf215
 v76 := Tryz.zeroValue215
 t77 := Tryz.underlying216
 a77 := Tryz.isAgg216
 z77 := Tryz.sizeOf216
 v77 := Tryz.zeroValue216 }
def Tryz.sortP_ren : Go.Shelf.Ren := ⟨fun | 6 => 99 | 15 => 114 | 14 => 153 | 28 => 165 | 29 => 166 | 20 => 178 | 21 => 179 | 22 => 180 | 23 => 181 | 24 => 182 | 25 => 183 | 26 => 184 | 27 => 185 | 46 => 212 | 47 => 190 | 48 => 191 | 49 => 213 | 50 => 214 | 57 => 221 | n => n, fun | 22 => 81 | 24 => 85 | 25 => 132 | 3 => 3 | 39 => 143 | 0 => 0 | 53 => 42 | 55 => 145 | 4 => 4 | 46 => 172 | 45 => 171 | 50 => 153 | 5 => 5 | 9 => 9 | 66 => 192 | 70 => 196 | 76 => 215 | 77 => 216 | n => n, fun | n => n⟩
theorem Tryz.sortP : Go.Proofs.SlLaysF0.n6 Tryz.prog Tryz.sortP_ren := {
 mixed := by kernel_rfl
 f6 := ⟨Tryz.f99.name, by decide, Tryz.func99.trans (congrArg some (by kernel_rfl))⟩
 f14 := ⟨Tryz.f153.name, by decide, Tryz.func153.trans (congrArg some (by kernel_rfl))⟩
 f15 := Tryz.func114.trans (congrArg some (by kernel_rfl))
 f20 := ⟨Tryz.f178.name, by decide, Tryz.func178.trans (congrArg some (by kernel_rfl))⟩
 f21 := ⟨Tryz.f179.name, by decide, Tryz.func179.trans (congrArg some (by kernel_rfl))⟩
 f22 := ⟨Tryz.f180.name, by decide, Tryz.func180.trans (congrArg some (by kernel_rfl))⟩
 f23 := ⟨Tryz.f181.name, by decide, Tryz.func181.trans (congrArg some (by kernel_rfl))⟩
 f24 := ⟨Tryz.f182.name, by decide, Tryz.func182.trans (congrArg some (by kernel_rfl))⟩
 f25 := ⟨Tryz.f183.name, by decide, Tryz.func183.trans (congrArg some (by kernel_rfl))⟩
 f26 := ⟨Tryz.f184.name, by decide, Tryz.func184.trans (congrArg some (by kernel_rfl))⟩
 f27 := ⟨Tryz.f185.name, by decide, Tryz.func185.trans (congrArg some (by kernel_rfl))⟩
 f28 := Tryz.func165.trans (congrArg some (by kernel_rfl))
 f29 := Tryz.func166.trans (congrArg some (by kernel_rfl))
 f46 := ⟨Tryz.f212.name, by decide, Tryz.func212.trans (congrArg some (by kernel_rfl))⟩
 f47 := Tryz.func190.trans (congrArg some (by kernel_rfl))
 f48 := Tryz.func191.trans (congrArg some (by kernel_rfl))
 f49 := ⟨Tryz.f213.name, by decide, Tryz.func213.trans (congrArg some (by kernel_rfl))⟩
 f50 := ⟨Tryz.f214.name, by decide, Tryz.func214.trans (congrArg some (by kernel_rfl))⟩
 f57 := ⟨Tryz.f221.name, by decide, Tryz.func221.trans (congrArg some (by kernel_rfl))⟩
 t0 := Tryz.underlying0
 a0 := Tryz.isAgg0
 z0 := Tryz.sizeOf0
 v0 := Tryz.zeroValue0
 t3 := Tryz.underlying3
 a3 := Tryz.isAgg3
 z3 := Tryz.sizeOf3
 v3 := Tryz.zeroValue3
 t4 := Tryz.underlying4
 a4 := Tryz.isAgg4
 z4 := Tryz.sizeOf4
 v4 := Tryz.zeroValue4
 t5 := Tryz.underlying5
 a5 := Tryz.isAgg5
 z5 := Tryz.sizeOf5
 v5 := Tryz.zeroValue5
 t9 := Tryz.underlying9
 a9 := Tryz.isAgg9
 z9 := Tryz.sizeOf9
 v9 := Tryz.zeroValue9
 t22 := Tryz.underlying81
 a22 := Tryz.isAgg81
 z22 := Tryz.sizeOf81
 v22 := Tryz.zeroValue81
 t25 := Tryz.underlying132
 a25 := Tryz.isAgg132
 z25 := Tryz.sizeOf132
 v25 := Tryz.zeroValue132
 t39 := Tryz.underlying143
 a39 := Tryz.isAgg143
 z39 := Tryz.sizeOf143
 v39 := Tryz.zeroValue143
 t45 := Tryz.underlying171
 a45 := Tryz.isAgg171
 z45 := Tryz.sizeOf171
 v45 := Tryz.zeroValue171
 t46 := Tryz.underlying172
 a46 := Tryz.isAgg172
 z46 := Tryz.sizeOf172
 v46 := Tryz.zeroValue172
 t50 := Tryz.underlying153
 a50 := Tryz.isAgg153
 z50 := Tryz.sizeOf153
 v50 := Tryz.zeroValue153
 t53 := Tryz.underlying42
 a53 := Tryz.isAgg42
 z53 := Tryz.sizeOf42
 v53 := Tryz.zeroValue42
 t55 := Tryz.underlying145
 a55 := Tryz.isAgg145
 z55 := Tryz.sizeOf145
 v55 := Tryz.zeroValue145
 t66 := Tryz.underlying192
 a66 := Tryz.isAgg192
 z66 := Tryz.sizeOf192
 v66 := Tryz.zeroValue192
 t70 := Tryz.underlying196
 a70 := Tryz.isAgg196
 z70 := Tryz.sizeOf196
 v70 := Tryz.zeroValue196
 t76 := Tryz.underlying215
 a76 := Tryz.isAgg215
 z76 := Tryz.sizeOf215
 v76 := Tryz.zeroValue215
 t77 := Tryz.underlying216
 a77 := Tryz.isAgg216
 z77 := Tryz.sizeOf216
 v77 := Tryz.zeroValue216 }
def Tryz.sortV_ren : Go.Shelf.Ren := ⟨fun | 6 => 150 | 15 => 114 | 14 => 177 | 28 => 165 | 29 => 166 | 20 => 204 | 21 => 205 | 22 => 206 | 23 => 207 | 24 => 208 | 25 => 209 | 26 => 210 | 27 => 211 | 46 => 218 | 47 => 190 | 48 => 191 | 49 => 219 | 50 => 220 | 57 => 222 | n => n, fun | 22 => 22 | 24 => 60 | 25 => 126 | 3 => 3 | 39 => 143 | 0 => 0 | 53 => 42 | 55 => 145 | 4 => 4 | 46 => 172 | 45 => 171 | 50 => 153 | 5 => 5 | 9 => 9 | 66 => 192 | 70 => 196 | 76 => 215 | 77 => 216 | n => n, fun | n => n⟩
theorem Tryz.sortV : Go.Proofs.SlLaysF0.n6 Tryz.prog Tryz.sortV_ren := {
 mixed := by kernel_rfl
 f6 := ⟨Tryz.f150.name, by decide, Tryz.func150.trans (congrArg some (by kernel_rfl))⟩
 f14 := ⟨Tryz.f177.name, by decide, Tryz.func177.trans (congrArg some (by kernel_rfl))⟩
 f15 := Tryz.func114.trans (congrArg some (by kernel_rfl))
 f20 := ⟨Tryz.f204.name, by decide, Tryz.func204.trans (congrArg some (by kernel_rfl))⟩
 f21 := ⟨Tryz.f205.name, by decide, Tryz.func205.trans (congrArg some (by kernel_rfl))⟩
 f22 := ⟨Tryz.f206.name, by decide, Tryz.func206.trans (congrArg some (by kernel_rfl))⟩
 f23 := ⟨Tryz.f207.name, by decide, Tryz.func207.trans (congrArg some (by kernel_rfl))⟩
 f24 := ⟨Tryz.f208.name, by decide, Tryz.func208.trans (congrArg some (by kernel_rfl))⟩
 f25 := ⟨Tryz.f209.name, by decide, Tryz.func209.trans (congrArg some (by kernel_rfl))⟩
 f26 := ⟨Tryz.f210.name, by decide, Tryz.func210.trans (congrArg some (by kernel_rfl))⟩
 f27 := ⟨Tryz.f211.name, by decide, Tryz.func211.trans (congrArg some (by kernel_rfl))⟩
 f28 := Tryz.func165.trans (congrArg some (by kernel_rfl))
 f29 := Tryz.func166.trans (congrArg some (by kernel_rfl))
 f46 := ⟨Tryz.f218.name, by decide, Tryz.func218.trans (congrArg some (by kernel_rfl))⟩
 f47 := Tryz.func190.trans (congrArg some (by kernel_rfl))
 f48 := Tryz.func191.trans (congrArg some (by kernel_rfl))
 f49 := ⟨Tryz.f219.name, by decide, Tryz.func219.trans (congrArg some (by kernel_rfl))⟩
 f50 := ⟨Tryz.f220.name, by decide, Tryz.func220.trans (congrArg some (by kernel_rfl))⟩
 f57 := ⟨Tryz.f222.name, by decide, Tryz.func222.trans (congrArg some (by kernel_rfl))⟩
 t0 := Tryz.underlying0
 a0 := Tryz.isAgg0
 z0 := Tryz.sizeOf0
 v0 := Tryz.zeroValue0
 t3 := Tryz.underlying3
 a3 := Tryz.isAgg3
 z3 := Tryz.sizeOf3
 v3 := Tryz.zeroValue3
 t4 := Tryz.underlying4
 a4 := Tryz.isAgg4
 z4 := Tryz.sizeOf4
 v4 := Tryz.zeroValue4
 t5 := Tryz.underlying5
 a5 := Tryz.isAgg5
 z5 := Tryz.sizeOf5
 v5 := Tryz.zeroValue5
 t9 := Tryz.underlying9
 a9 := Tryz.isAgg9
 z9 := Tryz.sizeOf9
 v9 := Tryz.zeroValue9
 t22 := Tryz.underlying22
 a22 := Tryz.isAgg22
 z22 := Tryz.sizeOf22
 v22 := Tryz.zeroValue22
 t25 := Tryz.underlying126
 a25 := Tryz.isAgg126
 z25 := Tryz.sizeOf126
 v25 := Tryz.zeroValue126
 t39 := Tryz.underlying143
 a39 := Tryz.isAgg143
 z39 := Tryz.sizeOf143
 v39 := Tryz.zeroValue143
 t45 := Tryz.underlying171
 a45 := Tryz.isAgg171
 z45 := Tryz.sizeOf171
 v45 := Tryz.zeroValue171
 t46 := Tryz.underlying172
 a46 := Tryz.isAgg172
 z46 := Tryz.sizeOf172
 v46 := Tryz.zeroValue172
 t50 := Tryz.underlying153
 a50 := Tryz.isAgg153
 z50 := Tryz.sizeOf153
 v50 := Tryz.zeroValue153
 t53 := Tryz.underlying42
 a53 := Tryz.isAgg42
 z53 := Tryz.sizeOf42
 v53 := Tryz.zeroValue42
 t55 := Tryz.underlying145
 a55 := Tryz.isAgg145
 z55 := Tryz.sizeOf145
 v55 := Tryz.zeroValue145
 t66 := Tryz.underlying192
 a66 := Tryz.isAgg192
 z66 := Tryz.sizeOf192
 v66 := Tryz.zeroValue192
 t70 := Tryz.underlying196
 a70 := Tryz.isAgg196
 z70 := Tryz.sizeOf196
 v70 := Tryz.zeroValue196
 t76 := Tryz.underlying215
 a76 := Tryz.isAgg215
 z76 := Tryz.sizeOf215
 v76 := Tryz.zeroValue215
 t77 := Tryz.underlying216
 a77 := Tryz.isAgg216
 z77 := Tryz.sizeOf216
 v77 := Tryz.zeroValue216 }
end Go.Proofs
end
section
namespace Go.Proofs.YtjjjkojfijpeeaaGreat.Sy
open Go Go.Proofs Go.Shelf Go.RowKit Go.Lib Go.Sort
theorem fnOf {P : Program} {f : Nat} (h : (match P.funcs[f]? with | some fn => !(fn.name == "runtime.NumGoroutine") && fn.body.isSome | none => false) = true) : ∃ fn, P.funcs[f]? = some fn /\ (fn.name == "runtime.NumGoroutine") = false /\ fn.body.isSome = true := by
 split at h
 . rename_i fn hf
   simp only [Bool.and_eq_true, Bool.not_eq_true'] at h
   exact ⟨fn, hf, h.1, h.2⟩
 . cases h
theorem sortOk_E : SortOk Tryz.prog 50 K8 :=
 ⟨rfl, rfl, by decide, rfl, fnOf (by kernel_rfl), fun p cap fv w => AnyF.slices_SortFunc_none Tryz.sortE p cap fv w,
   fun _ _ enc hk h1 cf hO g blk off cap d w eg hcmp hH hblk hsz => AnyQ.slices_SortFunc Tryz.sortE 2 Tryz.isAgg66 Tryz.sizeOf66 enc hk h1 cf hO g #[] blk off cap d w eg hcmp hH hblk hsz⟩
theorem sortOk_P : SortOk Tryz.prog 99 K17 :=
 ⟨rfl, rfl, by decide, rfl, fnOf (by kernel_rfl), fun p cap fv w => AnyF.slices_SortFunc_none Tryz.sortP p cap fv w,
   fun _ _ enc hk h1 cf hO g blk off cap d w eg hcmp hH hblk hsz => AnyQ.slices_SortFunc Tryz.sortP 4 Tryz.isAgg85 Tryz.sizeOf85 enc hk h1 cf hO g #[] blk off cap d w eg hcmp hH hblk hsz⟩
theorem sortOk_V : SortOk Tryz.prog 150 K1 :=
 ⟨rfl, rfl, by decide, rfl, fnOf (by kernel_rfl), fun p cap fv w => AnyF.slices_SortFunc_none Tryz.sortV p cap fv w,
   fun _ _ enc hk h1 cf hO g blk off cap d w eg hcmp hH hblk hsz => AnyQ.slices_SortFunc Tryz.sortV 3 Tryz.isAgg60 Tryz.sizeOf60 enc hk h1 cf hO g #[] blk off cap d w eg hcmp hH hblk hsz⟩
end Go.Proofs.YtjjjkojfijpeeaaGreat.Sy
end
section
set_option maxRecDepth 20000
set_option maxHeartbeats 0
set_option linter.unusedVariables false
namespace Go.Proofs.YtjjjkojfijpeeaaGreat.Sy
open Go Go.Proofs
def inBlk : Code -> Code | .block _ c => c | c => c
def inLoop : Code -> Code | .loop c => c | c => c
def sq1 : Code -> Code | .seq a _ => a | c => c
def sq2 : Code -> Code | .seq _ b => b | c => c
def opsOf : Code -> List Oper | .region _ o _ => o.toList | _ => []
def A21 : AnnT := (.seq .leaf (.seq .leaf (.seq (.two .leaf (.two (.loop ⟨[(3, .ow K8), (12, .dv (Ty.int .i64))], [], [10, 11]⟩ [(.exit 0, ⟨[(3, .ow K8)], [], []⟩)] (.two .leaf (.two .leaf (.two (.two (.two .leaf (.two .leaf (.two (.loop ⟨[(3, .ow K8), (5, .same (.ptr K6 24581 [])), (19, .dv (Ty.int .i64))], [(24581, .keep K6 5)], [10, 11, 12, 17, 18]⟩ [(.exit 2, ⟨[(3, .ow K8)], [], [10, 11, 12]⟩)] (.two .leaf (.two .leaf (.cut [(.normal, ⟨[(3, .ow K8), (5, .same (.ptr K6 24581 []))], [(24581, .keep K6 5)], [10, 11, 12, 17, 18, 19]⟩)] [10, 11, 12, 17, 18, 19] [24581] (.two (.two .leaf (.two (.reg [] 10) .leaf)) .leaf) .leaf)))) .leaf))) .leaf) .leaf)))) .leaf)) .hand)))
noncomputable def F21 (lp : Lp) (call : Nat -> List D -> Option D) (a0 : D) : Option D :=
 Option.bind (call 18 [a0]) fun r1 =>
 Option.bind (D.asSl r1) fun l2 =>
 Option.bind (lp (β := Nat × List D) (fun (v3 : List D) =>
 Option.bind (D.bin .lss (List.getD v3 1 (D.bool false)) (D.int .i64 (List.length l2))) fun x4 =>
 Option.bind (D.truth x4) fun b5 =>
 if b5 then (Option.bind (D.asSl r1) fun l6 =>
 Option.bind (D.idx (List.getD v3 1 (D.bool false)) (List.length l6)) fun i7 =>
 Option.bind (l6[i7]?) fun x8 =>
 Option.bind (D.get x8 [2]) fun x9 =>
 Option.bind (D.asSl x9) fun l10 =>
 Option.bind (lp (β := Nat × List D) (fun (v11 : List D) =>
 Option.bind (D.bin .lss (List.getD v11 1 (D.bool false)) (D.int .i64 (List.length l10))) fun x12 =>
 Option.bind (D.truth x12) fun b13 =>
 if b13 then (Option.bind (Option.bind (D.asSl x9) fun l14 =>
 Option.bind (D.idx (List.getD v11 1 (D.bool false)) (List.length l14)) fun i15 =>
 Option.bind (l14[i15]?) fun x16 =>
 Option.bind (D.get x8 [2]) fun x17 =>
 Option.bind (D.bin .add (List.getD v11 1 (D.bool false)) (D.int .i64 1)) fun x18 =>
 Option.bind (D.get x8 [2]) fun x19 =>
 Option.bind (D.asSl x19) fun l20 =>
 Option.bind (D.bin .rem x18 (D.int .i64 (List.length l20))) fun x21 =>
 Option.bind (D.asSl x17) fun l22 =>
 Option.bind (D.idx x21 (List.length l22)) fun i23 =>
 Option.bind (l22[i23]?) fun x24 =>
 Option.bind (D.bin .lss x16 x24) fun x25 =>
 Option.bind (D.truth x25) fun b26 =>
 if b26 then (if List.length (D.els (List.getD v11 0 (D.bool false))) + List.length [(D.st [x16, x24])] <= 1073741824 then (some (0, [(D.sl ((D.els (List.getD v11 0 (D.bool false))) ++ [(D.st [x16, x24])]))])) else none) else (some (0, [(D.sl (D.els (List.getD v11 0 (D.bool false))))]))) fun (r27 : Nat × List D) =>
 Option.bind (D.bin .add (List.getD v11 1 (D.bool false)) (D.int .i64 1)) fun x28 =>
 some (Sum.inl [(D.sl (D.els (List.getD r27.2 0 (D.bool false)))), x28])) else (some (Sum.inr (0, [(D.sl (D.els (List.getD v11 0 (D.bool false))))])))) [(D.sl (D.els (List.getD v3 0 (D.bool false)))), (D.int .i64 0)]) fun r29 =>
 Option.bind (D.bin .add (List.getD v3 1 (D.bool false)) (D.int .i64 1)) fun x30 =>
 some (Sum.inl [(D.sl (D.els (List.getD r29.2 0 (D.bool false)))), x30])) else (some (Sum.inr (0, [(D.sl (D.els (List.getD v3 0 (D.bool false))))])))) [(D.sl []), (D.int .i64 0)]) fun r31 =>
 Option.bind (if decide (List.length (D.els (List.getD r31.2 0 (D.bool false))) <= 1073741824) then some (D.els (List.getD r31.2 0 (D.bool false))) else none) fun l1 =>
 Option.bind (sortD (envOf lp call (inlP lp call)) 51 l1) fun l2 => some (D.sl l2)
theorem E21 (lp : Lp) (call : Nat -> List D -> Option D) (a0 : D) : evFS (envOf lp call (inlP lp call)) (sortK (envOf lp call (inlP lp call)) 48 3 51 K8) Tryz.f21 A21 [K3] [a0] = F21 lp call a0 := by kernel_rfl
def A45 : AnnT := (.seq .leaf (.seq .leaf (.seq (.two .leaf (.two (.loop ⟨[(3, .same (.map K17 Ty.bool 8204)), (15, .dv (Ty.int .i64))], [(8204, .mp K17 Ty.bool)], [0, 14]⟩ [(.exit 0, ⟨[(3, .same (.map K17 Ty.bool 8204))], [(8204, .mp K17 Ty.bool)], []⟩)] (.two .leaf (.two .leaf (.two (.two (.two .leaf (.two .leaf (.two (.loop ⟨[(3, .same (.map K17 Ty.bool 8204)), (19, .dv (Ty.int .i64))], [(8204, .mp K17 Ty.bool)], [0, 4, 14, 15, 18]⟩ [(.exit 2, ⟨[(3, .same (.map K17 Ty.bool 8204))], [(8204, .mp K17 Ty.bool)], [0, 14, 15]⟩)] (.two .leaf (.two .leaf (.two (.two (.two .leaf (.two .leaf (.two (.loop ⟨[(3, .same (.map K17 Ty.bool 8204)), (23, .dv (Ty.int .i64))], [(8204, .mp K17 Ty.bool)], [0, 4, 5, 14, 15, 18, 19, 22]⟩ [(.exit 4, ⟨[(3, .same (.map K17 Ty.bool 8204))], [(8204, .mp K17 Ty.bool)], [0, 4, 14, 15, 18, 19]⟩)] (.two .leaf (.two .leaf (.cut [(.normal, ⟨[(3, .same (.map K17 Ty.bool 8204))], [(8204, .mp K17 Ty.bool)], [0, 4, 5, 14, 15, 18, 19, 22, 23]⟩)] [0, 4, 5, 14, 15, 18, 19, 22, 23] [] (.two (.two .leaf (.two (.reg [] 14) (.two .leaf (.two .leaf (.two (.loop ⟨[(3, .same (.map K17 Ty.bool 8204)), (51, .ow K17), (53, .dv (Ty.int .i64))], [(8204, .mp K17 Ty.bool)], [0, 4, 5, 14, 15, 18, 19, 22, 23, 52]⟩ [(.exit 6, ⟨[(3, .same (.map K17 Ty.bool 8204))], [(8204, .mp K17 Ty.bool)], [0, 4, 5, 14, 15, 18, 19, 22, 23]⟩)] (.two .leaf (.two .leaf (.cut [(.normal, ⟨[(3, .same (.map K17 Ty.bool 8204)), (51, .ow K17)], [(8204, .mp K17 Ty.bool)], [0, 4, 5, 14, 15, 18, 19, 22, 23, 52, 53]⟩)] [0, 4, 5, 14, 15, 18, 19, 22, 23, 52, 53] [] .leaf .leaf)))) .leaf))))) .leaf) .leaf)))) .leaf))) .leaf) .leaf)))) .leaf))) .leaf) .leaf)))) .leaf)) (.seq .leaf .hand))))
noncomputable def F45 (lp : Lp) (call : Nat -> List D -> Option D) (a0 : D) : Option D :=
 Option.bind (D.asSl a0) fun l1 =>
 Option.bind (lp (β := Nat × List D) (fun (v2 : List D) =>
 Option.bind (D.bin .lss (List.getD v2 0 (D.bool false)) (D.int .i64 (List.length l1))) fun x3 =>
 Option.bind (D.truth x3) fun b4 =>
 if b4 then (Option.bind (lp (β := Nat × List D) (fun (v5 : List D) =>
 Option.bind (D.bin .lss (List.getD v5 0 (D.bool false)) (List.getD v2 0 (D.bool false))) fun x6 =>
 Option.bind (D.truth x6) fun b7 =>
 if b7 then (Option.bind (lp (β := Nat × List D) (fun (v8 : List D) =>
 Option.bind (D.bin .lss (List.getD v8 0 (D.bool false)) (List.getD v5 0 (D.bool false))) fun x9 =>
 Option.bind (D.truth x9) fun b10 =>
 if b10 then (Option.bind (Option.bind (D.asSl a0) fun l11 =>
 Option.bind (D.idx (List.getD v2 0 (D.bool false)) (List.length l11)) fun i12 =>
 Option.bind (l11[i12]?) fun x13 =>
 Option.bind (D.asSl a0) fun l14 =>
 Option.bind (D.idx (List.getD v5 0 (D.bool false)) (List.length l14)) fun i15 =>
 Option.bind (l14[i15]?) fun x16 =>
 Option.bind (D.asSl a0) fun l17 =>
 Option.bind (D.idx (List.getD v8 0 (D.bool false)) (List.length l17)) fun i18 =>
 Option.bind (l17[i18]?) fun x19 =>
 Option.bind (call 96 [x13, x16, x19]) fun r20 =>
 Option.bind (D.get r20 [0]) fun x21 =>
 Option.bind (D.truth (D.bool (D.beq x21 (D.st [(D.int .i64 0), (D.int .i64 0), (D.int .i64 0)])))) fun b22 =>
 if b22 then (some (0, [(D.sl (D.els (List.getD v8 1 (D.bool false))))])) else (Option.bind (D.get r20 [0]) fun x23 =>
 Option.bind (call 97 [x23]) fun r24 =>
 Option.bind (D.get r20 [1]) fun x25 =>
 Option.bind (D.un .neg x25) fun x26 =>
 Option.bind (lp (β := Nat × List D) (fun (v27 : List D) =>
 Option.bind (D.bin .lss (List.getD v27 1 (D.bool false)) (D.int .i64 2)) fun x28 =>
 Option.bind (D.truth x28) fun b29 =>
 if b29 then (Option.bind (Option.bind (D.idx (List.getD v27 1 (D.bool false)) (List.length (D.els (List.getD v27 0 (D.bool false))))) fun i30 =>
 Option.bind ((D.els (List.getD v27 0 (D.bool false)))[i30]?) fun x31 =>
 Option.bind (D.un .not (Option.getD (D.mget (D.els (List.getD v27 2 (D.bool false))) x31) (D.bool false))) fun x32 =>
 Option.bind (D.truth x32) fun b33 =>
 Option.bind (if b33 then (Option.bind (call 98 [a0, x31]) fun r34 =>
 D.truth r34) else (some false)) fun b35 =>
 Option.bind (D.truth (D.bool b35)) fun b36 =>
 if b36 then (some (0, [(D.sl (D.els (List.getD v27 0 (D.bool false)))), (D.sl (D.mput (D.els (List.getD v27 2 (D.bool false))) x31 (D.bool true)))])) else (some (0, [(D.sl (D.els (List.getD v27 0 (D.bool false)))), (D.sl (D.els (List.getD v27 2 (D.bool false))))]))) fun (r37 : Nat × List D) =>
 Option.bind (D.bin .add (List.getD v27 1 (D.bool false)) (D.int .i64 1)) fun x38 =>
 some (Sum.inl [(D.sl (D.els (List.getD r37.2 0 (D.bool false)))), x38, (D.sl (D.els (List.getD r37.2 1 (D.bool false))))])) else (some (Sum.inr (0, [(D.sl (D.els (List.getD v27 2 (D.bool false))))])))) [(D.sl [r20, (D.st [r24, x26])]), (D.int .i64 0), (D.sl (D.els (List.getD v8 1 (D.bool false))))]) fun r39 =>
 some (0, [(D.sl (D.els (List.getD r39.2 0 (D.bool false))))]))) fun (r40 : Nat × List D) =>
 Option.bind (D.bin .add (List.getD v8 0 (D.bool false)) (D.int .i64 1)) fun x41 =>
 some (Sum.inl [x41, (D.sl (D.els (List.getD r40.2 0 (D.bool false))))])) else (some (Sum.inr (0, [(D.sl (D.els (List.getD v8 1 (D.bool false))))])))) [(D.int .i64 0), (D.sl (D.els (List.getD v5 1 (D.bool false))))]) fun r42 =>
 Option.bind (D.bin .add (List.getD v5 0 (D.bool false)) (D.int .i64 1)) fun x43 =>
 some (Sum.inl [x43, (D.sl (D.els (List.getD r42.2 0 (D.bool false))))])) else (some (Sum.inr (0, [(D.sl (D.els (List.getD v5 1 (D.bool false))))])))) [(D.int .i64 0), (D.sl (D.els (List.getD v2 1 (D.bool false))))]) fun r44 =>
 Option.bind (D.bin .add (List.getD v2 0 (D.bool false)) (D.int .i64 1)) fun x45 =>
 some (Sum.inl [x45, (D.sl (D.els (List.getD r44.2 0 (D.bool false))))])) else (some (Sum.inr (0, [(D.sl (D.els (List.getD v2 1 (D.bool false))))])))) [(D.int .i64 0), (D.sl [])]) fun r46 =>
 if decide (List.length (D.els (List.getD r46.2 0 (D.bool false))) <= 1073741824) then (Option.bind (sortD (envOf lp call (inlP lp call)) 100 (List.map keyD (D.els (List.getD r46.2 0 (D.bool false))))) fun l2 => some (D.sl l2)) else none
theorem E45 (lp : Lp) (call : Nat -> List D -> Option D) (a0 : D) : evFS (envOf lp call (inlP lp call)) (rsortK (envOf lp call (inlP lp call)) 85 3 10 100 K17 Ty.bool) Tryz.f45 A45 [K2] [a0] = F45 lp call a0 := by kernel_rfl
def bodyOf (f : Func) : Code := match f.body with | some c => c | none => .skip
noncomputable def round45C : Code := inBlk (sq2 (sq2 (inLoop (inBlk (sq2 (sq1 (stopC (bodyOf Tryz.f45) A45)))))))
noncomputable def rest45 : List Oper := (opsOf (sq1 round45C)).tail
noncomputable def c45 : Code := sq2 round45C
theorem ctr21 {lp : Lp} {call : Nat -> List D -> Option D} (hE : EnvOk Tryz.prog (envOf lp call (inlP lp call))) {a0 y : D} (h : F21 lp call a0 = some y) : Ctr Tryz.prog [K3] K9 21 [a0] y := by
 refine ctr_of_evS hE (f := 21) (fn := Tryz.f21) (ann := A21) (K := sortK (envOf lp call (inlP lp call)) 48 3 51 K8) (by kernel_rfl) (by kernel_rfl) ((E21 lp call a0).trans h) ?_
 intro c hb w S S' γ' β' s' a' w' hR hK
 have e : ∀ c', Tryz.f21.body = some c' -> (stopC c' A21).wpIn (FW none) 0 Tryz.prog (Qok Tryz.prog Tryz.f21 w S K9 y) a' w' -> (stopC c A21).wpIn (FW none) 0 Tryz.prog (Qok Tryz.prog Tryz.f21 w S K9 y) a' w' := fun c' h1 h2 => by
   rw [hb] at h1; cases h1; exact h2
 refine e _ rfl ?_
 exact sort_tail hE sortOk_E (g := 51) (x := 3) (t := 45) (d2 := 46) (nt := 48) (ann := .leaf) (by kernel_rfl) (by kernel_rfl) rfl rfl (by decide) (fun l' => by kernel_rfl) hR hK
theorem round45 {lp : Lp} {call : Nat -> List D -> Option D} : ∀ X L k v, isX K17 L X -> L.length < 1073741824 -> wt K17 k -> ev (envOf lp call (inlP lp call)) (.region 0 (rest45).toArray false) .leaf D ((σL 85 10 73 X).put (some 76) (.d (.tup [K17, .bool]) (.tup [k, v]))) (fun x s' => match x with
     | .normal => ev (envOf lp call (inlP lp call)) c45 .leaf D s' (fun x s'' => match x with | .normal => (freshL s'' K17 10).bind fun l => some (.sl l) | _ => none)
     | _ => none) = some (.sl (L ++ [k])) := by
 intro X L k v hX hL _
 rcases hX with ⟨rfl, rfl⟩ | rfl
 . kernel_rfl
 . have key : ev (envOf lp call (inlP lp call)) (.region 0 (rest45).toArray false) .leaf D ((σL 85 10 73 (.own K17 5 L)).put (some 76) (.d (.tup [K17, .bool]) (.tup [k, v]))) (fun x s' => match x with
     | .normal => ev (envOf lp call (inlP lp call)) c45 .leaf D s' (fun x s'' => match x with | .normal => (freshL s'' K17 10).bind fun l => some (.sl l) | _ => none)
     | _ => none) = (if List.length L + List.length [k] <= 1073741824 then (Option.bind (if decide (List.length (L ++ [k]) <= 1073741824) then some (L ++ [k]) else none) fun l => some (.sl l)) else none) := by kernel_rfl
   rw [key, if_pos (by simp; omega), if_pos (by simp; omega)]
   rfl
theorem ctr45 {lp : Lp} {call : Nat -> List D -> Option D} (hE : EnvOk Tryz.prog (envOf lp call (inlP lp call))) {a0 y : D} (h : F45 lp call a0 = some y) : Ctr Tryz.prog [K2] K18 45 [a0] y := by
 refine ctr_of_evS hE (f := 45) (fn := Tryz.f45) (ann := A45) (K := rsortK (envOf lp call (inlP lp call)) 85 3 10 100 K17 .bool) (by kernel_rfl) (by kernel_rfl) ((E45 lp call a0).trans h) ?_
 intro c hb w S S' γ' β' s' a' w' hR hK
 have e : ∀ c', Tryz.f45.body = some c' -> (stopC c' A45).wpIn (FW none) 0 Tryz.prog (Qok Tryz.prog Tryz.f45 w S K18 y) a' w' -> (stopC c A45).wpIn (FW none) 0 Tryz.prog (Qok Tryz.prog Tryz.f45 w S K18 y) a' w' := fun c' h1 h2 => by
   rw [hb] at h1; cases h1; exact h2
 refine e _ rfl ?_
 exact rsort_tail hE rfl rfl rfl rfl (by kernel_rfl) (t72 := 72) (m0 := 3) (it := 73) (T := 127) (nx := 74) (ok := 75) (en := 76) (o := 10) (nt := 85) (c26 := c45) (rest := rest45) rfl rfl rfl rfl (TK := 85) (TV := 4) (by kernel_rfl) (by decide) round45 sortOk_P (g := 100) (by kernel_rfl) (t := 82) (d2 := 83) (ann := .leaf) rfl rfl (by decide) (fun l' => by kernel_rfl) hR hK
end Go.Proofs.YtjjjkojfijpeeaaGreat.Sy
end
section
namespace Go.Proofs.YtjjjkojfijpeeaaGreat.Sy
open Go Go.Proofs
theorem L21 {lp : Lp} (hlp : LpOk lp) : leafOk 21 (m1 (F21 lp)) := by
 intro call hc ptys rty' xs y hs hy hw
 have : sigF 21 = some ([K3], K9) := by kernel_rfl
 rw [this] at hs; cases hs
 unfold m1 at hy
 split at hy <;> first | (cases hy; done) | skip
 exact ctr21 (envP hlp hc) hy
theorem L45 {lp : Lp} (hlp : LpOk lp) : leafOk 45 (m1 (F45 lp)) := by
 intro call hc ptys rty' xs y hs hy hw
 have : sigF 45 = some ([K2], K18) := by kernel_rfl
 rw [this] at hs; cases hs
 unfold m1 at hy
 split at hy <;> first | (cases hy; done) | skip
 exact ctr45 (envP hlp hc) hy
def dedF (x : D) : List D -> List D
 | [] => []
 | y :: l => if y.beq x then dedF y l else y :: dedF y l
def dedR : List D -> List D
 | [] => []
 | x :: l => x :: dedF x l
def sortDW (E : Env) (g : Nat) (l : List D) : Option (List D) := if chkS E g (dedR (sortL (ltD E g) l)) then some (sortL (ltD E g) l) else none
noncomputable def spec44 (lp : Lp) (call : Nat -> List D -> Option D) (xs : List D) : Option D := match xs with
 | [.sl l] => if decide (l.length <= 1073741824) then (sortDW (envOf lp call (inlP lp call)) 94 l).bind fun l' => some (.sl (dedR l')) else none
 | _ => none
end Go.Proofs.YtjjjkojfijpeeaaGreat.Sy
end
section
set_option maxRecDepth 20000
set_option maxHeartbeats 0
namespace Go.Proofs.YtjjjkojfijpeeaaGreat.Sy
open Go Go.Proofs
noncomputable def tabA (lp : Lp) : CT := .node 104 (.node 54 (.node 30 (.node 17 (.node 13 (.node 11 (.node 10 (.leaf 7 (m1 (F7 lp))) (.leaf 10 (evG lp 10 Tryz.f10 A10))) (.node 12 (.leaf 11 (m1 (F11 lp))) (.leaf 12 (m1 (F12 lp))))) (.node 15 (.node 14 (.leaf 13 (m2 (F13 lp))) (.leaf 14 (evG lp 14 Tryz.f14 .leaf))) (.node 16 (.leaf 15 (m1 (F15 lp))) (.leaf 16 (m1 (F16 lp)))))) (.node 23 (.node 20 (.node 18 (.leaf 17 (evG lp 17 Tryz.f17 A17)) (.leaf 18 (m1 (F18 lp)))) (.node 21 (.leaf 20 (evG lp 20 Tryz.f20 A20)) (.leaf 21 (m1 (F21 lp))))) (.node 27 (.node 25 (.leaf 23 (m1 (F23 lp))) (.leaf 25 (m1 (F25 lp)))) (.node 28 (.leaf 27 (evG lp 27 Tryz.f27 A27)) (.leaf 28 (m1 (F28 lp))))))) (.node 44 (.node 34 (.node 32 (.node 31 (.leaf 30 (evG lp 30 Tryz.f30 A30)) (.leaf 31 (m1 (F31 lp)))) (.node 33 (.leaf 32 (m2 (F32 lp))) (.leaf 33 (m2 (F33 lp))))) (.node 42 (.node 37 (.leaf 34 (m1 (F34 lp))) (.leaf 37 (m2 (F37 lp)))) (.node 43 (.leaf 42 (m2 (F42 lp))) (.leaf 43 (evG lp 43 Tryz.f43 A43))))) (.node 48 (.node 46 (.node 45 (.leaf 44 (spec44 lp)) (.leaf 45 (m1 (F45 lp)))) (.node 47 (.leaf 46 (m2 (F46 lp))) (.leaf 47 (m1 (F47 lp))))) (.node 51 (.node 49 (.leaf 48 (m1 (F48 lp))) (.leaf 49 (evG lp 49 Tryz.f49 A49))) (.node 52 (.leaf 51 (m2 (F51 lp))) (.node 53 (.leaf 52 (m1 (F52 lp))) (.leaf 53 (m2 (F53 lp))))))))) (.node 81 (.node 73 (.node 62 (.node 59 (.node 57 (.leaf 54 (m1 (F54 lp))) (.leaf 57 (m2 (F57 lp)))) (.node 61 (.leaf 59 (m2 (F59 lp))) (.leaf 61 (m2 (F61 lp))))) (.node 71 (.node 68 (.leaf 62 (m2 (F62 lp))) (.leaf 68 (m1 (F68 lp)))) (.node 72 (.leaf 71 (m1 (F71 lp))) (.leaf 72 (m2 (F72 lp)))))) (.node 77 (.node 75 (.node 74 (.leaf 73 (m2 (F73 lp))) (.leaf 74 (m1 (F74 lp)))) (.node 76 (.leaf 75 (m1 (F75 lp))) (.leaf 76 (m1 (F76 lp))))) (.node 79 (.node 78 (.leaf 77 (m1 (F77 lp))) (.leaf 78 (m2 (F78 lp)))) (.node 80 (.leaf 79 (m2 (F79 lp))) (.leaf 80 (m1 (F80 lp))))))) (.node 90 (.node 85 (.node 83 (.node 82 (.leaf 81 (m2 (F81 lp))) (.leaf 82 (m2 (F82 lp)))) (.node 84 (.leaf 83 (m1 (F83 lp))) (.leaf 84 (m0 (F84 lp))))) (.node 87 (.node 86 (.leaf 85 (m2 (F85 lp))) (.leaf 86 (m1 (F86 lp)))) (.node 89 (.leaf 87 (m2 (F87 lp))) (.leaf 89 (m2 (F89 lp)))))) (.node 97 (.node 94 (.node 91 (.leaf 90 (m2 (F90 lp))) (.leaf 91 (m2 (F91 lp)))) (.node 96 (.leaf 94 (m2 (F94 lp))) (.leaf 96 (m3 (F96 lp))))) (.node 100 (.node 98 (.leaf 97 (m1 (F97 lp))) (.leaf 98 (m2 (F98 lp)))) (.node 101 (.leaf 100 (m2 (F100 lp))) (.node 103 (.leaf 101 (m2 (F101 lp))) (.leaf 103 (m2 (F103 lp)))))))))) (.node 139 (.node 122 (.node 112 (.node 108 (.node 106 (.node 105 (.leaf 104 (m3 (F104 lp))) (.leaf 105 (m2 (F105 lp)))) (.node 107 (.leaf 106 (m3 (F106 lp))) (.leaf 107 (m2 (F107 lp))))) (.node 110 (.node 109 (.leaf 108 (m2 (F108 lp))) (.leaf 109 (m3 (F109 lp)))) (.node 111 (.leaf 110 (m2 (F110 lp))) (.leaf 111 (m3 (F111 lp)))))) (.node 118 (.node 116 (.node 115 (.leaf 112 (m2 (F112 lp))) (.leaf 115 (m1 (F115 lp)))) (.node 117 (.leaf 116 (m2 (F116 lp))) (.leaf 117 (m2 (F117 lp))))) (.node 120 (.node 119 (.leaf 118 (m1 (F118 lp))) (.leaf 119 (m0 (F119 lp)))) (.node 121 (.leaf 120 (m2 (F120 lp))) (.leaf 121 (m2 (F121 lp))))))) (.node 130 (.node 126 (.node 124 (.node 123 (.leaf 122 (m2 (F122 lp))) (.leaf 123 (m2 (F123 lp)))) (.node 125 (.leaf 124 (m1 (F124 lp))) (.leaf 125 (m0 (F125 lp))))) (.node 128 (.node 127 (.leaf 126 (m2 (F126 lp))) (.leaf 127 (m1 (F127 lp)))) (.node 129 (.leaf 128 (m1 (F128 lp))) (.leaf 129 (m1 (F129 lp)))))) (.node 134 (.node 132 (.node 131 (.leaf 130 (m0 (F130 lp))) (.leaf 131 (m2 (F131 lp)))) (.node 133 (.leaf 132 (m2 (F132 lp))) (.leaf 133 (m0 (F133 lp))))) (.node 136 (.node 135 (.leaf 134 (m2 (F134 lp))) (.leaf 135 (m1 (F135 lp)))) (.node 137 (.leaf 136 (m1 (F136 lp))) (.node 138 (.leaf 137 (m2 (F137 lp))) (.leaf 138 (m1 (F138 lp))))))))) (.node 169 (.node 147 (.node 143 (.node 141 (.node 140 (.leaf 139 (m1 (F139 lp))) (.leaf 140 (m1 (F140 lp)))) (.node 142 (.leaf 141 (m2 (F141 lp))) (.leaf 142 (m1 (F142 lp))))) (.node 145 (.node 144 (.leaf 143 (m2 (F143 lp))) (.leaf 144 (m2 (F144 lp)))) (.node 146 (.leaf 145 (m1 (F145 lp))) (.leaf 146 (m2 (F146 lp)))))) (.node 155 (.node 152 (.node 148 (.leaf 147 (m2 (F147 lp))) (.leaf 148 (m1 (F148 lp)))) (.node 154 (.leaf 152 (m2 (F152 lp))) (.leaf 154 (m2 (F154 lp))))) (.node 165 (.node 156 (.leaf 155 (m1 (F155 lp))) (.leaf 156 (m5 (F156 lp)))) (.node 167 (.leaf 165 (m1 (F165 lp))) (.node 168 (.leaf 167 (m1 (F167 lp))) (.leaf 168 (m2 (F168 lp)))))))) (.node 188 (.node 174 (.node 172 (.node 170 (.leaf 169 (m0 (F169 lp))) (.leaf 170 (m2 (F170 lp)))) (.node 173 (.leaf 172 (m2 (F172 lp))) (.leaf 173 (m2 (F173 lp))))) (.node 186 (.node 175 (.leaf 174 (m2 (F174 lp))) (.leaf 175 (m2 (F175 lp)))) (.node 187 (.leaf 186 (m1 (F186 lp))) (.leaf 187 (m1 (F187 lp)))))) (.node 197 (.node 195 (.node 194 (.leaf 188 (m2 (F188 lp))) (.leaf 194 (m1 (F194 lp)))) (.node 196 (.leaf 195 (m2 (F195 lp))) (.leaf 196 (m1 (F196 lp))))) (.node 203 (.node 202 (.leaf 197 (m2 (F197 lp))) (.leaf 202 (m1 (F202 lp)))) (.node 215 (.leaf 203 (m2 (F203 lp))) (.node 217 (.leaf 215 (m1 (F215 lp))) (.leaf 217 (m1 (F217 lp))))))))))
theorem tabA_ok {lp : Lp} (hlp : LpOk lp) (h44 : leafOk 44 (spec44 lp)) : (tabA lp).ok := ⟨⟨⟨⟨⟨⟨⟨L7 hlp, L10 hlp⟩, ⟨L11 hlp, L12 hlp⟩⟩, ⟨⟨L13 hlp, L14 hlp⟩, ⟨L15 hlp, L16 hlp⟩⟩⟩, ⟨⟨⟨L17 hlp, L18 hlp⟩, ⟨L20 hlp, L21 hlp⟩⟩, ⟨⟨L23 hlp, L25 hlp⟩, ⟨L27 hlp, L28 hlp⟩⟩⟩⟩, ⟨⟨⟨⟨L30 hlp, L31 hlp⟩, ⟨L32 hlp, L33 hlp⟩⟩, ⟨⟨L34 hlp, L37 hlp⟩, ⟨L42 hlp, L43 hlp⟩⟩⟩, ⟨⟨⟨h44, L45 hlp⟩, ⟨L46 hlp, L47 hlp⟩⟩, ⟨⟨L48 hlp, L49 hlp⟩, ⟨L51 hlp, ⟨L52 hlp, L53 hlp⟩⟩⟩⟩⟩⟩, ⟨⟨⟨⟨⟨L54 hlp, L57 hlp⟩, ⟨L59 hlp, L61 hlp⟩⟩, ⟨⟨L62 hlp, L68 hlp⟩, ⟨L71 hlp, L72 hlp⟩⟩⟩, ⟨⟨⟨L73 hlp, L74 hlp⟩, ⟨L75 hlp, L76 hlp⟩⟩, ⟨⟨L77 hlp, L78 hlp⟩, ⟨L79 hlp, L80 hlp⟩⟩⟩⟩, ⟨⟨⟨⟨L81 hlp, L82 hlp⟩, ⟨L83 hlp, L84 hlp⟩⟩, ⟨⟨L85 hlp, L86 hlp⟩, ⟨L87 hlp, L89 hlp⟩⟩⟩, ⟨⟨⟨L90 hlp, L91 hlp⟩, ⟨L94 hlp, L96 hlp⟩⟩, ⟨⟨L97 hlp, L98 hlp⟩, ⟨L100 hlp, ⟨L101 hlp, L103 hlp⟩⟩⟩⟩⟩⟩⟩, ⟨⟨⟨⟨⟨⟨L104 hlp, L105 hlp⟩, ⟨L106 hlp, L107 hlp⟩⟩, ⟨⟨L108 hlp, L109 hlp⟩, ⟨L110 hlp, L111 hlp⟩⟩⟩, ⟨⟨⟨L112 hlp, L115 hlp⟩, ⟨L116 hlp, L117 hlp⟩⟩, ⟨⟨L118 hlp, L119 hlp⟩, ⟨L120 hlp, L121 hlp⟩⟩⟩⟩, ⟨⟨⟨⟨L122 hlp, L123 hlp⟩, ⟨L124 hlp, L125 hlp⟩⟩, ⟨⟨L126 hlp, L127 hlp⟩, ⟨L128 hlp, L129 hlp⟩⟩⟩, ⟨⟨⟨L130 hlp, L131 hlp⟩, ⟨L132 hlp, L133 hlp⟩⟩, ⟨⟨L134 hlp, L135 hlp⟩, ⟨L136 hlp, ⟨L137 hlp, L138 hlp⟩⟩⟩⟩⟩⟩, ⟨⟨⟨⟨⟨L139 hlp, L140 hlp⟩, ⟨L141 hlp, L142 hlp⟩⟩, ⟨⟨L143 hlp, L144 hlp⟩, ⟨L145 hlp, L146 hlp⟩⟩⟩, ⟨⟨⟨L147 hlp, L148 hlp⟩, ⟨L152 hlp, L154 hlp⟩⟩, ⟨⟨L155 hlp, L156 hlp⟩, ⟨L165 hlp, ⟨L167 hlp, L168 hlp⟩⟩⟩⟩⟩, ⟨⟨⟨⟨L169 hlp, L170 hlp⟩, ⟨L172 hlp, L173 hlp⟩⟩, ⟨⟨L174 hlp, L175 hlp⟩, ⟨L186 hlp, L187 hlp⟩⟩⟩, ⟨⟨⟨L188 hlp, L194 hlp⟩, ⟨L195 hlp, L196 hlp⟩⟩, ⟨⟨L197 hlp, L202 hlp⟩, ⟨L203 hlp, ⟨L215 hlp, L217 hlp⟩⟩⟩⟩⟩⟩⟩⟩
noncomputable def callA (lp : Lp) : Nat -> Nat -> List D -> Option D
 | 0 => fun _ _ => none
 | n + 1 => fun f xs => (tabA lp).get f (callA lp n) xs
theorem callA_ok {lp : Lp} (hlp : LpOk lp) (h44 : leafOk 44 (spec44 lp)) : ∀ n, CallOk Tryz.prog (callA lp n)
 | 0 => fun f ptys rty xs y _ h _ => by cases h
 | n + 1 => CT.get_ok (tabA_ok hlp h44) (callA_ok hlp h44 n)
end Go.Proofs.YtjjjkojfijpeeaaGreat.Sy
end
section
set_option maxRecDepth 100000
set_option maxHeartbeats 0
namespace Go.Proofs.YtjjjkojfijpeeaaGreat.Sy
open Go Go.Proofs
noncomputable def itN (N : Nat) : Lp := fun {α β} body => iter (α := α) (β := β) body N
theorem sanity_val : callA (itN 2000) 20 10 [] = some (.bool true) := by kernel_rfl
end Go.Proofs.YtjjjkojfijpeeaaGreat.Sy
end
section
set_option maxRecDepth 20000
namespace Go.Proofs.YtjjjkojfijpeeaaGreat.Sy
open Go Go.Proofs
noncomputable def lpW : Lp := fun {α β} body => loopW (α := α) (β := β) body
noncomputable def cA (n : Nat) : Nat -> List D -> Option D := callA lpW n
theorem u11 (n : Nat) (a0 : D) : cA (n + 1) 11 [a0] = F11 lpW (cA n) a0 := by kernel_rfl
theorem u12 (n : Nat) (a0 : D) : cA (n + 1) 12 [a0] = F12 lpW (cA n) a0 := by kernel_rfl
theorem u13 (n : Nat) (a0 a1 : D) : cA (n + 1) 13 [a0, a1] = F13 lpW (cA n) a0 a1 := by kernel_rfl
theorem u15 (n : Nat) (a0 : D) : cA (n + 1) 15 [a0] = F15 lpW (cA n) a0 := by kernel_rfl
theorem u16 (n : Nat) (a0 : D) : cA (n + 1) 16 [a0] = F16 lpW (cA n) a0 := by kernel_rfl
theorem u18 (n : Nat) (a0 : D) : cA (n + 1) 18 [a0] = F18 lpW (cA n) a0 := by kernel_rfl
theorem u21 (n : Nat) (a0 : D) : cA (n + 1) 21 [a0] = F21 lpW (cA n) a0 := by kernel_rfl
theorem u32 (n : Nat) (a0 a1 : D) : cA (n + 1) 32 [a0, a1] = F32 lpW (cA n) a0 a1 := by kernel_rfl
theorem u33 (n : Nat) (a0 a1 : D) : cA (n + 1) 33 [a0, a1] = F33 lpW (cA n) a0 a1 := by kernel_rfl
theorem u34 (n : Nat) (a0 : D) : cA (n + 1) 34 [a0] = F34 lpW (cA n) a0 := by kernel_rfl
theorem u45 (n : Nat) (a0 : D) : cA (n + 1) 45 [a0] = F45 lpW (cA n) a0 := by kernel_rfl
theorem u46 (n : Nat) (a0 a1 : D) : cA (n + 1) 46 [a0, a1] = F46 lpW (cA n) a0 a1 := by kernel_rfl
theorem u47 (n : Nat) (a0 : D) : cA (n + 1) 47 [a0] = F47 lpW (cA n) a0 := by kernel_rfl
theorem u48 (n : Nat) (a0 : D) : cA (n + 1) 48 [a0] = F48 lpW (cA n) a0 := by kernel_rfl
theorem u51 (n : Nat) (a0 a1 : D) : cA (n + 1) 51 [a0, a1] = F51 lpW (cA n) a0 a1 := by kernel_rfl
theorem u52 (n : Nat) (a0 : D) : cA (n + 1) 52 [a0] = F52 lpW (cA n) a0 := by kernel_rfl
theorem u53 (n : Nat) (a0 a1 : D) : cA (n + 1) 53 [a0, a1] = F53 lpW (cA n) a0 a1 := by kernel_rfl
theorem u59 (n : Nat) (a0 a1 : D) : cA (n + 1) 59 [a0, a1] = F59 lpW (cA n) a0 a1 := by kernel_rfl
theorem u76 (n : Nat) (a0 : D) : cA (n + 1) 76 [a0] = F76 lpW (cA n) a0 := by kernel_rfl
theorem u77 (n : Nat) (a0 : D) : cA (n + 1) 77 [a0] = F77 lpW (cA n) a0 := by kernel_rfl
theorem u78 (n : Nat) (a0 a1 : D) : cA (n + 1) 78 [a0, a1] = F78 lpW (cA n) a0 a1 := by kernel_rfl
theorem u79 (n : Nat) (a0 a1 : D) : cA (n + 1) 79 [a0, a1] = F79 lpW (cA n) a0 a1 := by kernel_rfl
theorem u80 (n : Nat) (a0 : D) : cA (n + 1) 80 [a0] = F80 lpW (cA n) a0 := by kernel_rfl
theorem u81 (n : Nat) (a0 a1 : D) : cA (n + 1) 81 [a0, a1] = F81 lpW (cA n) a0 a1 := by kernel_rfl
theorem u82 (n : Nat) (a0 a1 : D) : cA (n + 1) 82 [a0, a1] = F82 lpW (cA n) a0 a1 := by kernel_rfl
theorem u83 (n : Nat) (a0 : D) : cA (n + 1) 83 [a0] = F83 lpW (cA n) a0 := by kernel_rfl
theorem u85 (n : Nat) (a0 a1 : D) : cA (n + 1) 85 [a0, a1] = F85 lpW (cA n) a0 a1 := by kernel_rfl
theorem u87 (n : Nat) (a0 a1 : D) : cA (n + 1) 87 [a0, a1] = F87 lpW (cA n) a0 a1 := by kernel_rfl
theorem u89 (n : Nat) (a0 a1 : D) : cA (n + 1) 89 [a0, a1] = F89 lpW (cA n) a0 a1 := by kernel_rfl
theorem u96 (n : Nat) (a0 a1 a2 : D) : cA (n + 1) 96 [a0, a1, a2] = F96 lpW (cA n) a0 a1 a2 := by kernel_rfl
theorem u97 (n : Nat) (a0 : D) : cA (n + 1) 97 [a0] = F97 lpW (cA n) a0 := by kernel_rfl
theorem u98 (n : Nat) (a0 a1 : D) : cA (n + 1) 98 [a0, a1] = F98 lpW (cA n) a0 a1 := by kernel_rfl
theorem u100 (n : Nat) (a0 a1 : D) : cA (n + 1) 100 [a0, a1] = F100 lpW (cA n) a0 a1 := by kernel_rfl
theorem u101 (n : Nat) (a0 a1 : D) : cA (n + 1) 101 [a0, a1] = F101 lpW (cA n) a0 a1 := by kernel_rfl
theorem u103 (n : Nat) (a0 a1 : D) : cA (n + 1) 103 [a0, a1] = F103 lpW (cA n) a0 a1 := by kernel_rfl
theorem u104 (n : Nat) (a0 a1 a2 : D) : cA (n + 1) 104 [a0, a1, a2] = F104 lpW (cA n) a0 a1 a2 := by kernel_rfl
theorem u105 (n : Nat) (a0 a1 : D) : cA (n + 1) 105 [a0, a1] = F105 lpW (cA n) a0 a1 := by kernel_rfl
theorem u106 (n : Nat) (a0 a1 a2 : D) : cA (n + 1) 106 [a0, a1, a2] = F106 lpW (cA n) a0 a1 a2 := by kernel_rfl
theorem u107 (n : Nat) (a0 a1 : D) : cA (n + 1) 107 [a0, a1] = F107 lpW (cA n) a0 a1 := by kernel_rfl
theorem u108 (n : Nat) (a0 a1 : D) : cA (n + 1) 108 [a0, a1] = F108 lpW (cA n) a0 a1 := by kernel_rfl
theorem u109 (n : Nat) (a0 a1 a2 : D) : cA (n + 1) 109 [a0, a1, a2] = F109 lpW (cA n) a0 a1 a2 := by kernel_rfl
theorem u110 (n : Nat) (a0 a1 : D) : cA (n + 1) 110 [a0, a1] = F110 lpW (cA n) a0 a1 := by kernel_rfl
theorem u111 (n : Nat) (a0 a1 a2 : D) : cA (n + 1) 111 [a0, a1, a2] = F111 lpW (cA n) a0 a1 a2 := by kernel_rfl
theorem u112 (n : Nat) (a0 a1 : D) : cA (n + 1) 112 [a0, a1] = F112 lpW (cA n) a0 a1 := by kernel_rfl
theorem u115 (n : Nat) (a0 : D) : cA (n + 1) 115 [a0] = F115 lpW (cA n) a0 := by kernel_rfl
theorem u117 (n : Nat) (a0 a1 : D) : cA (n + 1) 117 [a0, a1] = F117 lpW (cA n) a0 a1 := by kernel_rfl
theorem u123 (n : Nat) (a0 a1 : D) : cA (n + 1) 123 [a0, a1] = F123 lpW (cA n) a0 a1 := by kernel_rfl
theorem u124 (n : Nat) (a0 : D) : cA (n + 1) 124 [a0] = F124 lpW (cA n) a0 := by kernel_rfl
theorem u139 (n : Nat) (a0 : D) : cA (n + 1) 139 [a0] = F139 lpW (cA n) a0 := by kernel_rfl
theorem u140 (n : Nat) (a0 : D) : cA (n + 1) 140 [a0] = F140 lpW (cA n) a0 := by kernel_rfl
theorem u141 (n : Nat) (a0 a1 : D) : cA (n + 1) 141 [a0, a1] = F141 lpW (cA n) a0 a1 := by kernel_rfl
theorem u142 (n : Nat) (a0 : D) : cA (n + 1) 142 [a0] = F142 lpW (cA n) a0 := by kernel_rfl
theorem u144 (n : Nat) (a0 a1 : D) : cA (n + 1) 144 [a0, a1] = F144 lpW (cA n) a0 a1 := by kernel_rfl
theorem u145 (n : Nat) (a0 : D) : cA (n + 1) 145 [a0] = F145 lpW (cA n) a0 := by kernel_rfl
theorem u146 (n : Nat) (a0 a1 : D) : cA (n + 1) 146 [a0, a1] = F146 lpW (cA n) a0 a1 := by kernel_rfl
theorem u152 (n : Nat) (a0 a1 : D) : cA (n + 1) 152 [a0, a1] = F152 lpW (cA n) a0 a1 := by kernel_rfl
theorem u154 (n : Nat) (a0 a1 : D) : cA (n + 1) 154 [a0, a1] = F154 lpW (cA n) a0 a1 := by kernel_rfl
theorem u155 (n : Nat) (a0 : D) : cA (n + 1) 155 [a0] = F155 lpW (cA n) a0 := by kernel_rfl
theorem u156 (n : Nat) (a0 a1 a2 a3 a4 : D) : cA (n + 1) 156 [a0, a1, a2, a3, a4] = F156 lpW (cA n) a0 a1 a2 a3 a4 := by kernel_rfl
theorem u186 (n : Nat) (a0 : D) : cA (n + 1) 186 [a0] = F186 lpW (cA n) a0 := by kernel_rfl
theorem u187 (n : Nat) (a0 : D) : cA (n + 1) 187 [a0] = F187 lpW (cA n) a0 := by kernel_rfl
theorem u188 (n : Nat) (a0 a1 : D) : cA (n + 1) 188 [a0, a1] = F188 lpW (cA n) a0 a1 := by kernel_rfl
theorem u215 (n : Nat) (a0 : D) : cA (n + 1) 215 [a0] = F215 lpW (cA n) a0 := by kernel_rfl
end Go.Proofs.YtjjjkojfijpeeaaGreat.Sy
end
