/- Part 5 of the proof that HullIsClosed answers true at every input -/
import Derived.Test.YtjjjkojfijpeeaaGreatClosed04
import Derived.Scope
set_option linter.unusedVariables false
set_option linter.unusedSimpArgs false
set_option linter.unnecessarySimpa false
section
namespace Go.Proofs.YtjjjkojfijpeeaaGreat.Sy
open Go
mutual
theorem same_eq : ∀ (a a' : AV), AV.same a a' = true -> a = a'
 | .ptr t id p, a', h => by
   cases a' <;> simp only [AV.same, Bool.and_eq_true, decide_eq_true_eq] at h <;> first | (cases h; done) | skip
   obtain ⟨⟨h1, rfl⟩, rfl⟩ := h
   rw [Ty.eq_of_beq _ _ h1]
 | .mem t id, a', h => by
   cases a' <;> simp only [AV.same, Bool.and_eq_true, decide_eq_true_eq] at h <;> first | (cases h; done) | skip
   obtain ⟨h1, rfl⟩ := h
   rw [Ty.eq_of_beq _ _ h1]
 | .clo f l, a', h => by
   cases a' <;> simp only [AV.same, Bool.and_eq_true, decide_eq_true_eq] at h <;> first | (cases h; done) | skip
   obtain ⟨rfl, h1⟩ := h
   rw [sames_eq _ _ h1]
 | .map kt vt id, a', h => by
   cases a' <;> simp only [AV.same, Bool.and_eq_true, decide_eq_true_eq] at h <;> first | (cases h; done) | skip
   obtain ⟨⟨h1, h2⟩, rfl⟩ := h
   rw [Ty.eq_of_beq _ _ h1, Ty.eq_of_beq _ _ h2]
 | .d .., a', h => by simp [AV.same] at h
 | .own .., a', h => by simp [AV.same] at h
 | .nils, a', h => by simp [AV.same] at h
 | .fptr .., a', h => by simp [AV.same] at h
 | .st .., a', h => by simp [AV.same] at h
 | .undef, a', h => by simp [AV.same] at h
theorem sames_eq : ∀ (l l' : List AV), AV.sames l l' = true -> l = l'
 | [], l', h => by cases l' <;> simp [AV.sames] at h; rfl
 | a :: l, l', h => by
   cases l' with
   | nil => simp [AV.sames] at h
   | cons a' l' =>
     simp only [AV.sames, Bool.and_eq_true] at h
     rw [same_eq _ _ h.1, sames_eq _ _ h.2]
end
structure Two (n : Nat) (c c' : Cx) : Prop where
 w : c'.w = c.w
 S : c'.S = c.S
 γ : ∀ id, id < n -> c'.γ id = c.γ id
 ob : ∀ id, id < n -> ∀ o', c'.ob id = some o' -> ∃ o, c.ob id = some o /\ (∀ p, obTy o' p = obTy o p /\ obOff o' p = obOff o p) /\ (∀ t l, o = .many t l -> ∃ l', o' = .many t l' /\ l'.length = l.length) /\ ∀ kt vt l, o = .mp kt vt l -> ∃ l', o' = .mp kt vt l'
mutual
theorem old_ok {n : Nat} {c c' : Cx} (h : Two n c c') : ∀ (a : AV) (cs : List Value), AV.old n a = true -> AC c a cs -> AC c' a cs
 | .ptr t id p, cs, ho, k => by
   simp only [AV.old, decide_eq_true_eq] at ho
   simp only [AC] at k ⊢
   obtain ⟨b, off, rfl, k1, k2⟩ := k
   refine ⟨b, off, rfl, by rw [h.γ id ho]; exact k1, fun o' ho' => ?_⟩
   obtain ⟨o, h1, h2, _⟩ := h.ob id ho o' ho'
   rw [(h2 p).1, (h2 p).2]; exact k2 o h1
 | .mem t id, cs, ho, k => by
   simp only [AV.old, decide_eq_true_eq] at ho
   simp only [AC] at k ⊢
   obtain ⟨k0, b, k1, k2⟩ := k
   refine ⟨k0, b, by rw [h.γ id ho]; exact k1, fun o' ho' => ?_⟩
   obtain ⟨o, h1, _, h3, _⟩ := h.ob id ho o' ho'
   obtain ⟨l, rfl, h4⟩ := k2 o h1
   obtain ⟨l', rfl, h5⟩ := h3 _ _ rfl
   exact ⟨l', rfl, by rw [h5]; exact h4⟩
 | .map kt vt id, cs, ho, k => by
   simp only [AV.old, decide_eq_true_eq] at ho
   simp only [AC] at k ⊢
   obtain ⟨b, e, k1, k2, k3, k4⟩ := k
   refine ⟨b, e, by rw [h.γ id ho]; exact k1, k2, k3, fun o' ho' => ?_⟩
   obtain ⟨o, h1, _, _, h3⟩ := h.ob id ho o' ho'
   obtain ⟨l, rfl⟩ := k4 o h1
   exact h3 _ _ _ rfl
 | .clo f l, cs, ho, k => by
   simp only [AV.old] at ho
   simp only [AC] at k ⊢
   obtain ⟨caps, rfl, k1⟩ := k
   exact ⟨caps, rfl, olds_ok h l caps ho k1⟩
 | .d .., _, ho, _ => by simp [AV.old] at ho
 | .own .., _, ho, _ => by simp [AV.old] at ho
 | .nils, _, ho, _ => by simp [AV.old] at ho
 | .fptr .., _, ho, _ => by simp [AV.old] at ho
 | .st .., _, ho, _ => by simp [AV.old] at ho
 | .undef, _, ho, _ => by simp [AV.old] at ho
theorem olds_ok {n : Nat} {c c' : Cx} (h : Two n c c') : ∀ (l : List AV) (cs : List Value), AV.olds n l = true -> ACc c l cs -> ACc c' l cs
 | [], cs, _, k => by simpa only [ACc] using k
 | a :: l, cs, ho, k => by
   simp only [AV.olds, Bool.and_eq_true] at ho
   simp only [ACc] at k ⊢
   obtain ⟨v, c2, rfl, k1, k2⟩ := k
   exact ⟨v, c2, rfl, old_ok h a _ ho.1 k1, olds_ok h l c2 ho.2 k2⟩
end
mutual
def Sh.tkp : Sh -> AV -> Nat -> List (Nat × Nat)
 | .ow _, .own _ v _, j => [(j, v)]
 | .st _ l, .st _ l', j => Sh.tkps l l' j
 | _, _, _ => []
def Sh.tkps : List Sh -> List AV -> Nat -> List (Nat × Nat)
 | h :: l, a :: l', j => Sh.tkp h a j ++ Sh.tkps l l' (j + h.cnt)
 | _, _, _ => []
end
mutual
theorem tkp_snd : ∀ (h : Sh) (a : AV) (j : Nat), (Sh.tkp h a j).map Prod.snd = Sh.toks h a
 | .ow _, a, j => by cases a <;> rfl
 | .st _ l, a, j => by cases a <;> first | rfl | exact tkps_snd l _ j
 | .dv _, a, j => by cases a <;> rfl
 | .same _, a, j => by cases a <;> rfl
theorem tkps_snd : ∀ (l : List Sh) (l' : List AV) (j : Nat), (Sh.tkps l l' j).map Prod.snd = Sh.tokss l l'
 | [], l', j => by cases l' <;> rfl
 | h :: l, [], j => rfl
 | h :: l, a :: l', j => by
   simp only [Sh.tkps, Sh.tokss, List.map_append, tkp_snd h a j, tkps_snd l l' _]
end
def Pl (l : List (Nat × Nat)) (i j : Nat) : Prop := (∀ p ∈ l, i <= p.1 /\ p.1 < j) /\ ∀ p ∈ l, ∀ q ∈ l, p.1 = q.1 -> p = q
theorem Pl.nil (i j : Nat) : Pl [] i j := ⟨fun p h => (by cases h), fun p h => (by cases h)⟩
theorem Pl.append {l l' : List (Nat × Nat)} {i j k : Nat} (h : Pl l i j) (h' : Pl l' j k) (h1 : i <= j) (h2 : j <= k) : Pl (l ++ l') i k := by
 refine ⟨fun p hp => ?_, fun p hp q hq e => ?_⟩
 . rcases List.mem_append.1 hp with hp | hp
   . have := h.1 p hp; omega
   . have := h'.1 p hp; omega
 . rcases List.mem_append.1 hp with hp | hp <;> rcases List.mem_append.1 hq with hq | hq
   . exact h.2 p hp q hq e
   . have := h.1 p hp; have := h'.1 q hq; omega
   . have := h'.1 p hp; have := h.1 q hq; omega
   . exact h'.2 p hp q hq e
mutual
theorem tkp_pl : ∀ (h : Sh) (a : AV) (j : Nat), Pl (Sh.tkp h a j) j (j + h.cnt)
 | .ow _, a, j => by
   cases a <;> first
     | exact Pl.nil _ _
     | exact ⟨fun p hp => by simp [Sh.tkp] at hp; subst hp; simp [Sh.cnt], fun p hp q hq _ => by simp [Sh.tkp] at hp hq; rw [hp, hq]⟩
 | .st _ l, a, j => by
   cases a <;> first
     | exact Pl.nil _ _
     | (simp only [Sh.tkp, Sh.cnt]; exact tkps_pl l _ j)
 | .dv _, a, j => by cases a <;> exact Pl.nil _ _
 | .same _, a, j => by cases a <;> exact Pl.nil _ _
theorem tkps_pl : ∀ (l : List Sh) (l' : List AV) (j : Nat), Pl (Sh.tkps l l' j) j (j + Sh.cnts l)
 | [], l', j => by cases l' <;> exact Pl.nil _ _
 | h :: l, [], j => Pl.nil _ _
 | h :: l, a :: l', j => by
   simp only [Sh.tkps, Sh.cnts]
   rw [show j + (h.cnt + Sh.cnts l) = j + h.cnt + Sh.cnts l by omega]
   exact (tkp_pl h a j).append (tkps_pl l l' _) (by omega) (by omega)
end
mutual
theorem dec_len {ob : Nat -> Option Ob} {dead : List Nat} : ∀ (h : Sh) (a : AV) (x : List D), Sh.dec ob dead h a = some x -> x.length = h.cnt
 | .dv t, a, x, e => by
   have e' : ((AV.toD ob t a).bind fun x => some [x]) = some x := by cases a <;> exact e
   obtain ⟨y, _, h2⟩ := bind_some_inv e'
   simp only [Option.some.injEq] at h2
   subst h2; rfl
 | .ow t, a, x, e => by
   cases a <;> simp only [Sh.dec] at e <;> first | (cases e; done) | skip
   . split at e <;> first | (cases e; done) | skip
     simp only [Option.some.injEq] at e; subst e; rfl
   . simp only [Option.some.injEq] at e; subst e; rfl
 | .same b, a, x, e => by
   have e' : (if AV.same b a then some ([] : List D) else none) = some x := by cases a <;> exact e
   split at e' <;> first | (cases e'; done) | skip
   simp only [Option.some.injEq] at e'; subst e'; rfl
 | .st ts l, a, x, e => by
   cases a <;> simp only [Sh.dec] at e <;> first | (cases e; done) | skip
   split at e <;> first | (cases e; done) | skip
   exact decs_len l _ x e
theorem decs_len {ob : Nat -> Option Ob} {dead : List Nat} : ∀ (l : List Sh) (l' : List AV) (x : List D), Sh.decs ob dead l l' = some x -> x.length = Sh.cnts l
 | [], l', x, e => by
   cases l' <;> simp only [Sh.decs] at e <;> first | (cases e; done) | skip
   simp only [Option.some.injEq] at e; subst e; rfl
 | h :: l, [], x, e => by simp [Sh.decs] at e
 | h :: l, a :: l', x, e => by
   simp only [Sh.decs] at e
   obtain ⟨y, h1, e⟩ := bind_some_inv e
   obtain ⟨z, h2, e⟩ := bind_some_inv e
   simp only [Option.some.injEq] at e
   subst e
   simp only [List.length_append, dec_len h a y h1, decs_len l l' z h2, Sh.cnts]
end
mutual
theorem dec_alive {ob : Nat -> Option Ob} {dead : List Nat} : ∀ (h : Sh) (a : AV) (x : List D), Sh.dec ob dead h a = some x -> ∀ v ∈ Sh.toks h a, v ∉ dead
 | .dv t, a, x, e => by intro v hv; cases a <;> simp [Sh.toks] at hv
 | .ow t, a, x, e => by
   intro v hv
   cases a <;> simp only [Sh.toks, List.not_mem_nil, List.mem_singleton] at hv
   subst hv
   simp only [Sh.dec] at e
   split at e <;> first | (cases e; done) | skip
   rename_i h
   simp only [Bool.and_eq_true, Bool.not_eq_true'] at h
   simpa using h.2
 | .same b, a, x, e => by intro v hv; cases a <;> simp [Sh.toks] at hv
 | .st ts l, a, x, e => by
   intro v hv
   cases a <;> simp only [Sh.toks, List.not_mem_nil] at hv
   simp only [Sh.dec] at e
   split at e <;> first | (cases e; done) | skip
   exact decs_alive l _ x e v hv
theorem decs_alive {ob : Nat -> Option Ob} {dead : List Nat} : ∀ (l : List Sh) (l' : List AV) (x : List D), Sh.decs ob dead l l' = some x -> ∀ v ∈ Sh.tokss l l', v ∉ dead
 | [], l', x, e => by intro v hv; cases l' <;> simp [Sh.tokss] at hv
 | h :: l, [], x, e => by simp [Sh.decs] at e
 | h :: l, a :: l', x, e => by
   intro v hv
   simp only [Sh.decs] at e
   obtain ⟨y, h1, e⟩ := bind_some_inv e
   obtain ⟨z, h2, e⟩ := bind_some_inv e
   simp only [Sh.tokss] at hv
   rcases List.mem_append.1 hv with hv | hv
   . exact dec_alive h a y h1 v hv
   . exact decs_alive l l' z h2 v hv
end
mutual
theorem mk_snd (b : Nat) : ∀ (h : Sh) (j : Nat) (s : List D), (Sh.mk b h j s).2 = j + h.cnt
 | .dv t, j, s => rfl
 | .ow t, j, s => rfl
 | .same a, j, s => rfl
 | .st ts l, j, s => by simp only [Sh.mk, Sh.cnt]; exact mks_snd b l j s
theorem mks_snd (b : Nat) : ∀ (l : List Sh) (j : Nat) (s : List D), (Sh.mks b l j s).2 = j + Sh.cnts l
 | [], j, s => rfl
 | h :: l, j, s => by simp only [Sh.mks, Sh.cnts, mk_snd b h j s, mks_snd b l, Nat.add_assoc]
end
mutual
theorem mk_fits (b : Nat) : ∀ (h : Sh) (t : Ty) (j : Nat) (s : List D), Sh.fits t h = true -> AV.fits t (Sh.mk b h j s).1 = true
 | .dv t', t, j, s, h => by
   have h' : t.beq t' = true := by cases t <;> exact h
   rw [Ty.eq_of_beq _ _ h']
   exact fits_d_refl _ _
 | .ow e, t, j, s, h => by
   have h' : t.beq (.sl e) = true := by cases t <;> exact h
   rw [Ty.eq_of_beq _ _ h']
   simp only [Sh.mk, AV.fits]
   exact Ty.beq_refl' _
 | .same a, t, j, s, h => by cases t <;> simp [Sh.fits] at h
 | .st ts l, t, j, s, h => by
   have h' : (t.beq (.st ts) && Sh.fitss ts l) = true := by cases t <;> exact h
   simp only [Bool.and_eq_true] at h'
   rw [Ty.eq_of_beq _ _ h'.1]
   simp only [Sh.mk, AV.fits, Bool.and_eq_true]
   have := Ty.beq_refl' (.st ts)
   simp only [Ty.beq] at this
   exact ⟨this, mks_fits b l ts j s h'.2⟩
theorem mks_fits (b : Nat) : ∀ (l : List Sh) (ts : List Ty) (j : Nat) (s : List D), Sh.fitss ts l = true -> AV.fitss ts (Sh.mks b l j s).1 = true
 | [], ts, j, s, h => by cases ts <;> simp only [Sh.fitss] at h <;> first | (cases h; done) | rfl
 | h :: l, [], j, s, e => by simp [Sh.fitss] at e
 | h :: l, t :: ts, j, s, e => by
   simp only [Sh.fitss, Bool.and_eq_true] at e
   simp only [Sh.mks, AV.fitss, Bool.and_eq_true]
   exact ⟨mk_fits b h t j s e.1, mks_fits b l ts _ s e.2⟩
end
def atS (s x : List D) (j : Nat) : Prop := ∀ i, i < x.length -> s[j + i]? = x[i]?
theorem atS.left {s x y : List D} {j : Nat} (h : atS s (x ++ y) j) : atS s x j := fun i hi => by
 rw [h i (by simp; omega), List.getElem?_append_left hi]
theorem atS.right {s x y : List D} {j : Nat} (h : atS s (x ++ y) j) : atS s y (j + x.length) := fun i hi => by
 rw [Nat.add_assoc, h (x.length + i) (by simp; omega), List.getElem?_append_right (by omega), Nat.add_sub_cancel_left]
mutual
theorem mk_ok {n b : Nat} {c c' : Cx} (T : Two n c c') : ∀ (h : Sh) (a : AV) (j : Nat) (s x : List D) (cs : List Value), Sh.dec c.ob c.dead h a = some x -> atS s x j -> Sh.fine n h = true ->
   (∀ p ∈ Sh.tkp h a j, c'.β (b + p.1) = c.β p.2) -> AC c a cs -> AC c' (Sh.mk b h j s).1 cs
 | .dv t, a, j, s, x, cs, e, hs, hf, hb, k => by
   have e' : ((AV.toD c.ob t a).bind fun x => some [x]) = some x := by cases a <;> exact e
   obtain ⟨y, h1, h2⟩ := bind_some_inv e'
   simp only [Option.some.injEq] at h2
   subst h2
   obtain ⟨k1, k2, _⟩ := toD_ok _ _ _ _ h1 k
   have hj : s[j]? = some y := by have := hs 0 (by simp); simpa using this
   simp only [Sh.mk, AC, List.getD, hj, Option.getD_some, T.w, T.S]
   exact ⟨k1, hf, k2⟩
 | .ow t, a, j, s, x, cs, e, hs, hf, hb, k => by
   cases a <;> simp only [Sh.dec] at e <;> first | (cases e; done) | skip
   . rename_i t' v l
     split at e <;> first | (cases e; done) | skip
     rename_i hd
     simp only [Bool.and_eq_true, Bool.not_eq_true'] at hd
     simp only [Option.some.injEq] at e; subst e
     have hj : s[j]? = some (.sl l) := by have := hs 0 (by simp); simpa using this
     have he := Ty.eq_of_beq _ _ hd.1
     subst he
     simp only [AC] at k
     obtain ⟨k0, k1, ad, cap, rfl, k2, k3⟩ := k
     simp only [Sh.mk, AC, List.getD, hj, Option.getD_some, D.els, T.w, T.S]
     refine ⟨k0, k1, ad, cap, rfl, k2, fun _ => ?_⟩
     rcases k3 (by simpa using hd.2) with h3 | ⟨bb, off, h3, h4, m, h5, h6⟩
     . exact .inl h3
     . refine .inr ⟨bb, off, h3, ?_, m, by rw [T.w]; exact h5, h6⟩
       have := hb (j, v) (by simp [Sh.tkp])
       rw [<- h4]; exact this
   . simp only [Option.some.injEq] at e; subst e
     have hj : s[j]? = some (.sl []) := by have := hs 0 (by simp); simpa using this
     simp only [AC] at k
     subst k
     simp only [Sh.mk, AC, List.getD, hj, Option.getD_some, D.els]
     refine ⟨hf, fun x hx => (by cases hx), none, 0, rfl, ?_, fun _ => .inl ⟨rfl, rfl⟩⟩
     exact CR.of_elems (b := 0) (off := 0) (.inl rfl) (Nat.zero_le _) ⟨[], CRl.nil, fun i c hc => by simp at hc⟩
 | .same a', a, j, s, x, cs, e, hs, hf, hb, k => by
   have e' : (if AV.same a' a then some ([] : List D) else none) = some x := by cases a <;> exact e
   split at e' <;> first | (cases e'; done) | skip
   rename_i hsm
   have := same_eq _ _ hsm
   subst this
   simp only [Sh.fine] at hf
   exact old_ok T _ _ hf k
 | .st ts l, a, j, s, x, cs, e, hs, hf, hb, k => by
   cases a <;> simp only [Sh.dec] at e <;> first | (cases e; done) | skip
   rename_i ts' l'
   split at e <;> first | (cases e; done) | skip
   simp only [Sh.fine, Bool.and_eq_true] at hf
   simp only [AC] at k
   simp only [Sh.mk, AC]
   exact ⟨hf.1.1, mks_fits b l ts j s hf.1.2, mks_ok T l l' j s x cs e hs hf.2 hb k.2.2⟩
theorem mks_ok {n b : Nat} {c c' : Cx} (T : Two n c c') : ∀ (l : List Sh) (l' : List AV) (j : Nat) (s x : List D) (cs : List Value), Sh.decs c.ob c.dead l l' = some x -> atS s x j -> Sh.fines n l = true ->
   (∀ p ∈ Sh.tkps l l' j, c'.β (b + p.1) = c.β p.2) -> ACs c l' cs -> ACs c' (Sh.mks b l j s).1 cs
 | [], l', j, s, x, cs, e, _, _, _, k => by
   cases l' <;> simp only [Sh.decs] at e <;> first | (cases e; done) | skip
   simpa only [Sh.mks, ACs] using k
 | h :: l, [], j, s, x, cs, e, _, _, _, k => by simp [Sh.decs] at e
 | h :: l, a :: l', j, s, x, cs, e, hs, hf, hb, k => by
   simp only [Sh.decs] at e
   obtain ⟨y, h1, e⟩ := bind_some_inv e
   obtain ⟨z, h2, e⟩ := bind_some_inv e
   simp only [Option.some.injEq] at e
   subst e
   simp only [Sh.fines, Bool.and_eq_true] at hf
   simp only [ACs] at k
   obtain ⟨c1, c2, rfl, k1, k2⟩ := k
   simp only [Sh.mks, ACs, mk_snd]
   simp only [Sh.tkps, List.mem_append] at hb
   have hr := hs.right
   rw [dec_len h a y h1] at hr
   exact ⟨c1, c2, rfl, mk_ok T h a j s y c1 h1 hs.left hf.1 (fun p hp => hb p (.inl hp)) k1, mks_ok T l l' _ s z c2 h2 hr hf.2 (fun p hp => hb p (.inr hp)) k2⟩
end
theorem mk_AR {n b : Nat} {c c' : Cx} (T : Two n c c') (h : Sh) (a : AV) (j : Nat) (s x : List D) (v : Value) (e : Sh.dec c.ob c.dead h a = some x) (hs : atS s x j) (hf : Sh.fine n h = true)
   (hb : ∀ p ∈ Sh.tkp h a j, c'.β (b + p.1) = c.β p.2) (k : AR c a v) : AR c' (Sh.mk b h j s).1 v := by
 cases h with
 | dv t =>
   have e' : ((AV.toD c.ob t a).bind fun x => some [x]) = some x := by cases a <;> exact e
   obtain ⟨y, h1, h2⟩ := bind_some_inv e'
   simp only [Option.some.injEq] at h2
   subst h2
   have hj : s[j]? = some y := by have := hs 0 (by simp); simpa using this
   obtain ⟨k1, k2⟩ := AR_toD hf k h1
   simp only [Sh.mk, List.getD, hj, Option.getD_some]
   exact AR_of_d hf k1 (by rw [T.w, T.S]; exact k2)
 | ow t =>
   have key := fun cs => mk_ok T (.ow t) a j s x cs e hs hf hb
   cases a <;> simp only [Sh.dec] at e <;> first | (cases e; done) | skip
   all_goals
     simp only [AR] at k
     exact ⟨k.1, key _ k.2⟩
 | same a' =>
   have key := fun cs => mk_ok T (.same a') a j s x cs e hs hf hb
   have e' : (if AV.same a' a then some ([] : List D) else none) = some x := by cases a <;> exact e
   split at e' <;> first | (cases e'; done) | skip
   rename_i hsm
   have := same_eq _ _ hsm
   subst this
   simp only [Sh.mk] at key ⊢
   cases a' <;> simp only [Sh.fine, AV.old] at hf <;> first | (cases hf; done) | skip
   all_goals
     simp only [AR] at k ⊢
     exact ⟨k.1, key _ k.2⟩
 | st ts l =>
   have key := fun cs => mk_ok T (.st ts l) a j s x cs e hs hf hb
   cases a <;> simp only [Sh.dec] at e <;> first | (cases e; done) | skip
   simp only [Sh.mk] at key ⊢
   simp only [AR] at k ⊢
   exact ⟨k.1, key _ k.2⟩
end Go.Proofs.YtjjjkojfijpeeaaGreat.Sy
end
section
namespace Go.Proofs.YtjjjkojfijpeeaaGreat.Sy
open Go
def tkS (s : St) : List (Nat × Sh) -> Nat -> List (Nat × Nat)
 | [], _ => []
 | (t, h) :: l, j => Sh.tkp h (s.tm t) j ++ tkS s l (j + h.cnt)
def tkO1 (h : Sh) (o : Option Ob) (j : Nat) : List (Nat × Nat) := match o with | some (.one _ v) => Sh.tkp h v j | _ => []
def tkO (s : St) : List (Nat × ShO) -> Nat -> List (Nat × Nat)
 | [], _ => []
 | (id, .one _ h) :: l, j => tkO1 h (s.ob id) j ++ tkO s l (j + h.cnt)
 | (_, .many _) :: l, j => tkO s l (j + 1)
 | (_, .mp ..) :: l, j => tkO s l (j + 1)
 | (_, .keep ..) :: l, j => tkO s l j
theorem tkS_snd (s : St) : ∀ (l : List (Nat × Sh)) (j : Nat), (tkS s l j).map Prod.snd = Shape.toksS s l
 | [], _ => rfl
 | (t, h) :: l, j => by simp only [tkS, Shape.toksS, List.map_append, tkp_snd, tkS_snd s l]
theorem tkO_snd (s : St) : ∀ (l : List (Nat × ShO)) (j : Nat), (tkO s l j).map Prod.snd = Shape.toksO s l
 | [], _ => rfl
 | (id, .one t h) :: l, j => by
   simp only [tkO, Shape.toksO, List.map_append, tkO_snd s l]
   congr 1
   unfold tkO1
   split
   . rename_i e; simp only [tkp_snd, e]
   . rename_i e
     split
     . rename_i u v e'; exact absurd e' (e _ _)
     . rfl
 | (_, .many _) :: l, j => by simp only [tkO, Shape.toksO, tkO_snd s l]
 | (_, .mp ..) :: l, j => by simp only [tkO, Shape.toksO, tkO_snd s l]
 | (_, .keep ..) :: l, j => by simp only [tkO, Shape.toksO, tkO_snd s l]
theorem tkS_pl (s : St) : ∀ (l : List (Nat × Sh)) (j : Nat), Pl (tkS s l j) j (j + Shape.cntS l)
 | [], _ => Pl.nil _ _
 | (t, h) :: l, j => by
   simp only [tkS, Shape.cntS]
   rw [show j + (h.cnt + Shape.cntS l) = j + h.cnt + Shape.cntS l by omega]
   exact (tkp_pl h _ j).append (tkS_pl s l _) (by omega) (by omega)
theorem tkO1_pl (h : Sh) (o : Option Ob) (j : Nat) : Pl (tkO1 h o j) j (j + h.cnt) := by
 unfold tkO1
 split
 . exact tkp_pl h _ j
 . exact Pl.nil _ _
theorem tkO_pl (s : St) : ∀ (l : List (Nat × ShO)) (j : Nat), Pl (tkO s l j) j (j + Shape.cntO l)
 | [], _ => Pl.nil _ _
 | (id, .one t h) :: l, j => by
   simp only [tkO, Shape.cntO, ShO.cnt]
   rw [show j + (h.cnt + Shape.cntO l) = j + h.cnt + Shape.cntO l by omega]
   exact (tkO1_pl h _ j).append (tkO_pl s l _) (by omega) (by omega)
 | (_, .many _) :: l, j => by
   simp only [tkO, Shape.cntO, ShO.cnt]
   rw [show j + (1 + Shape.cntO l) = j + 1 + Shape.cntO l by omega]
   exact (Pl.nil j (j + 1)).append (tkO_pl s l _) (by omega) (by omega)
 | (_, .mp ..) :: l, j => by
   simp only [tkO, Shape.cntO, ShO.cnt]
   rw [show j + (1 + Shape.cntO l) = j + 1 + Shape.cntO l by omega]
   exact (Pl.nil j (j + 1)).append (tkO_pl s l _) (by omega) (by omega)
 | (_, .keep ..) :: l, j => by
   simp only [tkO, Shape.cntO, ShO.cnt, Nat.zero_add]
   exact tkO_pl s l j
theorem decS_len (s : St) : ∀ (l : List (Nat × Sh)) (x : List D), Shape.decS s l = some x -> x.length = Shape.cntS l
 | [], x, e => by simp only [Shape.decS, Option.some.injEq] at e; subst e; rfl
 | (t, h) :: l, x, e => by
   simp only [Shape.decS] at e
   obtain ⟨y, h1, e⟩ := bind_some_inv e
   obtain ⟨z, h2, e⟩ := bind_some_inv e
   simp only [Option.some.injEq] at e
   subst e
   simp only [List.length_append, dec_len h _ y h1, decS_len s l z h2, Shape.cntS]
theorem decS_alive (s : St) : ∀ (l : List (Nat × Sh)) (x : List D), Shape.decS s l = some x -> ∀ v ∈ Shape.toksS s l, v ∉ s.dead
 | [], x, _ => by intro v hv; simp [Shape.toksS] at hv
 | (t, h) :: l, x, e => by
   intro v hv
   simp only [Shape.decS] at e
   obtain ⟨y, h1, e⟩ := bind_some_inv e
   obtain ⟨z, h2, e⟩ := bind_some_inv e
   simp only [Shape.toksS] at hv
   rcases List.mem_append.1 hv with hv | hv
   . exact dec_alive h _ y h1 v hv
   . exact decS_alive s l z h2 v hv
theorem decO_one {s : St} {id : Nat} {t : Ty} {h : Sh} {l : List (Nat × ShO)} {x : List D} (e : Shape.decO s ((id, .one t h) :: l) = some x) : ∃ v y z, s.ob id = some (.one t v) /\ Sh.dec s.ob s.dead h v = some y /\ Shape.decO s l = some z /\ x = y ++ z := by
 simp only [Shape.decO] at e
 split at e <;> first | (cases e; done) | skip
 rename_i t' v ho
 split at e <;> first | (cases e; done) | skip
 rename_i ht
 obtain ⟨y, h1, e⟩ := bind_some_inv e
 obtain ⟨z, h2, e⟩ := bind_some_inv e
 simp only [Option.some.injEq] at e
 rw [<- Ty.eq_of_beq _ _ ht] at ho
 exact ⟨v, y, z, ho, h1, h2, e.symm⟩
theorem decO_many {s : St} {id : Nat} {t : Ty} {l : List (Nat × ShO)} {x : List D} (e : Shape.decO s ((id, .many t) :: l) = some x) : ∃ v z, s.ob id = some (.many t v) /\ Shape.decO s l = some z /\ x = [.sl v] ++ z := by
 simp only [Shape.decO] at e
 split at e <;> first | (cases e; done) | skip
 rename_i t' v ho
 split at e <;> first | (cases e; done) | skip
 rename_i ht
 obtain ⟨z, h2, e⟩ := bind_some_inv e
 simp only [Option.some.injEq] at e
 rw [<- Ty.eq_of_beq _ _ ht] at ho
 exact ⟨v, z, ho, h2, e.symm⟩
theorem decO_mp {s : St} {id : Nat} {kt vt : Ty} {l : List (Nat × ShO)} {x : List D} (e : Shape.decO s ((id, .mp kt vt) :: l) = some x) : ∃ v z, s.ob id = some (.mp kt vt v) /\ Shape.decO s l = some z /\ x = [.sl v] ++ z := by
 simp only [Shape.decO] at e
 split at e <;> first | (cases e; done) | skip
 rename_i t' u' v ho
 split at e <;> first | (cases e; done) | skip
 rename_i ht
 obtain ⟨z, h2, e⟩ := bind_some_inv e
 simp only [Option.some.injEq] at e
 simp only [Bool.and_eq_true] at ht
 rw [<- Ty.eq_of_beq _ _ ht.1, <- Ty.eq_of_beq _ _ ht.2] at ho
 exact ⟨v, z, ho, h2, e.symm⟩
theorem decO_keep {s : St} {id : Nat} {t : Ty} {wit : Nat} {l : List (Nat × ShO)} {x : List D} (e : Shape.decO s ((id, .keep t wit) :: l) = some x) : ∃ v, s.ob id = some (.one t v) /\ Shape.decO s l = some x := by
 simp only [Shape.decO] at e
 split at e <;> first | (cases e; done) | skip
 rename_i t' v ho
 split at e <;> first | (cases e; done) | skip
 rename_i ht
 rw [<- Ty.eq_of_beq _ _ ht] at ho
 exact ⟨v, ho, e⟩
theorem decO_alive (s : St) : ∀ (l : List (Nat × ShO)) (x : List D), Shape.decO s l = some x -> ∀ v ∈ Shape.toksO s l, v ∉ s.dead
 | [], x, _ => by intro v hv; simp [Shape.toksO] at hv
 | (id, .one t h) :: l, x, e => by
   intro v hv
   obtain ⟨u, y, z, ho, h1, h2, _⟩ := decO_one e
   simp only [Shape.toksO, ho] at hv
   rcases List.mem_append.1 hv with hv | hv
   . exact dec_alive h _ y h1 v hv
   . exact decO_alive s l z h2 v hv
 | (id, .many t) :: l, x, e => by
   obtain ⟨u, z, _, h2, _⟩ := decO_many e
   exact decO_alive s l z h2
 | (id, .mp kt vt) :: l, x, e => by
   obtain ⟨u, z, _, h2, _⟩ := decO_mp e
   exact decO_alive s l z h2
 | (id, .keep t wit) :: l, x, e => by
   obtain ⟨u, _, h2⟩ := decO_keep e
   exact decO_alive s l x h2
theorem mkS_snd (b : Nat) : ∀ (l : List (Nat × Sh)) (j : Nat) (s : List D) (f : Nat -> AV), (Shape.mkS b l j s f).2 = j + Shape.cntS l
 | [], j, s, f => rfl
 | (t, h) :: l, j, s, f => by simp only [Shape.mkS, mkS_snd b l, mk_snd, Shape.cntS, Nat.add_assoc]
theorem mkS_ok {n b : Nat} {c c' : Cx} (T : Two n c c') {s' : St} (e1 : c.ob = s'.ob) (e2 : c.dead = s'.dead) : ∀ (l : List (Nat × Sh)) (j : Nat) (s x : List D) (f : Nat -> AV), Shape.decS s' l = some x -> atS s x j -> (∀ p ∈ l, Sh.fine n p.2 = true) ->
   (∀ p ∈ tkS s' l j, c'.β (b + p.1) = c.β p.2) -> ∀ i, (i ∈ l.map (·.1) /\ ∀ v, AR c (s'.tm i) v -> AR c' ((Shape.mkS b l j s f).1 i) v) \/ (i ∉ l.map (·.1) /\ (Shape.mkS b l j s f).1 i = f i)
 | [], j, s, x, f, e, hs, hf, hb, i => .inr ⟨by simp, rfl⟩
 | (t, h) :: l, j, s, x, f, e, hs, hf, hb, i => by
   simp only [Shape.decS] at e
   obtain ⟨y, h1, e⟩ := bind_some_inv e
   obtain ⟨z, h2, e⟩ := bind_some_inv e
   simp only [Option.some.injEq] at e
   subst e
   simp only [tkS, List.mem_append] at hb
   have hr := hs.right
   rw [dec_len h _ y h1] at hr
   simp only [Shape.mkS, mk_snd]
   rcases mkS_ok T e1 e2 l (j + h.cnt) s z (fun i => if i = t then (Sh.mk b h j s).1 else f i) h2 hr (fun p hp => hf p (by simp [hp])) (fun p hp => hb p (.inr hp)) i with ⟨k1, k2⟩ | ⟨k1, k2⟩
   . exact .inl ⟨by simp only [List.map_cons, List.mem_cons]; exact .inr k1, k2⟩
   . by_cases hit : i = t
     . subst hit
       refine .inl ⟨by simp, fun v hv => ?_⟩
       rw [k2, if_pos rfl]
       exact mk_AR T h _ j s y v (by rw [e1, e2]; exact h1) hs.left (hf (i, h) (by simp)) (fun p hp => hb p (.inl hp)) hv
     . refine .inr ⟨by simp only [List.map_cons, List.mem_cons]; rintro (h | h); exact hit h; exact k1 h, ?_⟩
       rw [k2, if_neg hit]
def Like (o' o : Ob) : Prop := (∀ p, obTy o' p = obTy o p /\ obOff o' p = obOff o p) /\ (∀ t l, o = .many t l -> ∃ l', o' = .many t l' /\ l'.length = l.length) /\ ∀ kt vt l, o = .mp kt vt l -> ∃ l', o' = .mp kt vt l'
theorem like_one {t : Ty} {a b : AV} : Like (.one t a) (.one t b) := ⟨fun p => ⟨rfl, rfl⟩, (fun u l e => by cases e), fun _ _ l e => by cases e⟩
theorem still_some {t : Ty} {o : Option Ob} {o' : Ob} (h : Ob.still t o = some o') : ∃ u x, o = some (.one t (.d u x)) /\ o' = .one t (.d u x) := by
 unfold Ob.still at h
 split at h <;> first | (cases h; done) | skip
 split at h <;> first | (cases h; done) | skip
 rename_i ht
 simp only [Option.some.injEq] at h
 have := Ty.eq_of_beq _ _ ht
 subst this
 exact ⟨_, _, rfl, h.symm⟩
theorem mkO_ty {b : Nat} {base : Nat -> Option Ob} {s' : St} : ∀ (l : List (Nat × ShO)) (j : Nat) (s x : List D) (f : Nat -> Option Ob), Shape.decO s' l = some x -> atS s x j ->
   ∀ id o', Shape.mkO b base l j s f id = some o' -> f id = some o' \/ (id ∈ l.map (·.1) /\ ∃ o, s'.ob id = some o /\ Like o' o)
 | [], j, s, x, f, e, hs, id, o', ho => .inl ho
 | (t, .one u h) :: l, j, s, x, f, e, hs, id, o', ho => by
   obtain ⟨v, y, z, h0, h1, h2, rfl⟩ := decO_one e
   have hr := hs.right
   rw [dec_len h _ y h1] at hr
   simp only [Shape.mkO, mk_snd] at ho
   rcases mkO_ty l _ s z _ h2 hr id o' ho with k | ⟨k1, k2⟩
   . split at k
     . rename_i hit; subst hit
       simp only [Option.some.injEq] at k; subst k
       exact .inr ⟨by simp, _, h0, like_one⟩
     . exact .inl k
   . exact .inr ⟨by simp only [List.map_cons, List.mem_cons]; exact .inr k1, k2⟩
 | (t, .many u) :: l, j, s, x, f, e, hs, id, o', ho => by
   obtain ⟨v, z, h0, h2, rfl⟩ := decO_many e
   have hj : s[j]? = some (.sl v) := by have := hs 0 (by simp); simpa using this
   have hr := hs.right
   simp only [Shape.mkO] at ho
   rcases mkO_ty l _ s z _ h2 hr id o' ho with k | ⟨k1, k2⟩
   . split at k
     . rename_i hit; subst hit
       simp only [Option.some.injEq, List.getD, hj, Option.getD_some, D.els] at k; subst k
       exact .inr ⟨by simp, _, h0, fun p => ⟨by cases p <;> rfl, by cases p <;> rfl⟩, (fun u l e => by cases e; exact ⟨_, rfl, rfl⟩), fun _ _ l e => by cases e⟩
     . exact .inl k
   . exact .inr ⟨by simp only [List.map_cons, List.mem_cons]; exact .inr k1, k2⟩
 | (t, .mp u u') :: l, j, s, x, f, e, hs, id, o', ho => by
   obtain ⟨v, z, h0, h2, rfl⟩ := decO_mp e
   have hj : s[j]? = some (.sl v) := by have := hs 0 (by simp); simpa using this
   have hr := hs.right
   simp only [Shape.mkO] at ho
   rcases mkO_ty l _ s z _ h2 hr id o' ho with k | ⟨k1, k2⟩
   . split at k
     . rename_i hit; subst hit
       simp only [Option.some.injEq, List.getD, hj, Option.getD_some, D.els] at k; subst k
       exact .inr ⟨by simp, _, h0, fun p => ⟨rfl, rfl⟩, (fun u l e => by cases e), fun _ _ l e => by cases e; exact ⟨_, rfl⟩⟩
     . exact .inl k
   . exact .inr ⟨by simp only [List.map_cons, List.mem_cons]; exact .inr k1, k2⟩
 | (t, .keep u wit) :: l, j, s, x, f, e, hs, id, o', ho => by
   obtain ⟨v, h0, h2⟩ := decO_keep e
   simp only [Shape.mkO] at ho
   rcases mkO_ty l _ s x _ h2 hs id o' ho with k | ⟨k1, k2⟩
   . split at k
     . rename_i hit; subst hit
       obtain ⟨u', y, _, rfl⟩ := still_some k
       exact .inr ⟨by simp, _, h0, like_one⟩
     . exact .inl k
   . exact .inr ⟨by simp only [List.map_cons, List.mem_cons]; exact .inr k1, k2⟩
theorem mkO_ok {n b : Nat} {c c' : Cx} (T : Two n c c') {s' base : St} (e1 : c.ob = s'.ob) (e2 : c.dead = s'.dead) : ∀ (l : List (Nat × ShO)) (j : Nat) (s x : List D) (f : Nat -> Option Ob), Shape.decO s' l = some x -> atS s x j -> (∀ p ∈ l, ShO.fine n base p.1 p.2 = true) ->
   (∀ p ∈ tkO s' l j, c'.β (b + p.1) = c.β p.2) -> ∀ id o', Shape.mkO b base.ob l j s f id = some o' -> f id = some o' ∨
     ∃ o, s'.ob id = some o /\ ((∀ bl, ObR c bl o -> ObR c' bl o') \/ ∃ t wit, (id, ShO.keep t wit) ∈ l /\ Ob.still t (base.ob id) = some o')
 | [], j, s, x, f, e, hs, hf, hb, id, o', ho => .inl ho
 | (t, .one u h) :: l, j, s, x, f, e, hs, hf, hb, id, o', ho => by
   obtain ⟨v, y, z, h0, h1, h2, rfl⟩ := decO_one e
   have hr := hs.right
   rw [dec_len h _ y h1] at hr
   simp only [Shape.mkO, mk_snd] at ho
   simp only [tkO, List.mem_append] at hb
   rcases mkO_ok T e1 e2 l _ s z _ h2 hr (fun p hp => hf p (by simp [hp])) (fun p hp => hb p (.inr hp)) id o' ho with k | ⟨o, k1, k2⟩
   . split at k
     . rename_i hit; subst hit
       simp only [Option.some.injEq] at k; subst k
       refine .inr ⟨_, h0, .inl fun bl k => ?_⟩
       have hfi := hf (id, .one u h) (by simp)
       simp only [ShO.fine, Bool.and_eq_true] at hfi
       simp only [ObR] at k ⊢
       obtain ⟨k1, k2, k3, cs, k4, k5, k6⟩ := k
       rw [T.w, T.S]
       refine ⟨k1, mk_fits b h u j s hfi.2, k3, cs, k4, mk_ok T h v j s y cs (by rw [e1, e2]; exact h1) hs.left hfi.1 (fun p hp => hb p (.inl ?_)) k5, k6⟩
       simp only [tkO1, h0]; exact hp
     . exact .inl k
   . refine .inr ⟨o, k1, k2.imp (fun k => k) fun ⟨t, wit, q1, q2⟩ => ⟨t, wit, by simp [q1], q2⟩⟩
 | (t, .many u) :: l, j, s, x, f, e, hs, hf, hb, id, o', ho => by
   obtain ⟨v, z, h0, h2, rfl⟩ := decO_many e
   have hj : s[j]? = some (.sl v) := by have := hs 0 (by simp); simpa using this
   have hr := hs.right
   simp only [Shape.mkO] at ho
   rcases mkO_ok T e1 e2 l _ s z _ h2 hr (fun p hp => hf p (by simp [hp])) (fun p hp => hb p hp) id o' ho with k | ⟨o, k1, k2⟩
   . split at k
     . rename_i hit; subst hit
       simp only [Option.some.injEq, List.getD, hj, Option.getD_some, D.els] at k; subst k
       refine .inr ⟨_, h0, .inl fun bl k => ?_⟩
       simp only [ObR] at k ⊢
       rw [T.w, T.S]; exact k
     . exact .inl k
   . refine .inr ⟨o, k1, k2.imp (fun k => k) fun ⟨t, wit, q1, q2⟩ => ⟨t, wit, by simp [q1], q2⟩⟩
 | (t, .mp u u') :: l, j, s, x, f, e, hs, hf, hb, id, o', ho => by
   obtain ⟨v, z, h0, h2, rfl⟩ := decO_mp e
   have hj : s[j]? = some (.sl v) := by have := hs 0 (by simp); simpa using this
   have hr := hs.right
   simp only [Shape.mkO] at ho
   rcases mkO_ok T e1 e2 l _ s z _ h2 hr (fun p hp => hf p (by simp [hp])) (fun p hp => hb p hp) id o' ho with k | ⟨o, k1, k2⟩
   . split at k
     . rename_i hit; subst hit
       simp only [Option.some.injEq, List.getD, hj, Option.getD_some, D.els] at k; subst k
       refine .inr ⟨_, h0, .inl fun bl k => ?_⟩
       simp only [ObR] at k ⊢
       obtain ⟨q1, q2, q3, es, q4, q5⟩ := k
       rw [T.w, T.S]
       exact ⟨q1, q2, q3, es, q4, MpR.same T.w T.S q5⟩
     . exact .inl k
   . refine .inr ⟨o, k1, k2.imp (fun k => k) fun ⟨t, wit, q1, q2⟩ => ⟨t, wit, by simp [q1], q2⟩⟩
 | (t, .keep u wit) :: l, j, s, x, f, e, hs, hf, hb, id, o', ho => by
   obtain ⟨v, h0, h2⟩ := decO_keep e
   simp only [Shape.mkO] at ho
   rcases mkO_ok T e1 e2 l _ s x _ h2 hs (fun p hp => hf p (by simp [hp])) (fun p hp => hb p hp) id o' ho with k | ⟨o, k1, k2⟩
   . split at k
     . rename_i hit; subst hit
       exact .inr ⟨_, h0, .inr ⟨u, wit, by simp, k⟩⟩
     . exact .inl k
   . refine .inr ⟨o, k1, k2.imp (fun k => k) fun ⟨t, wit, q1, q2⟩ => ⟨t, wit, by simp [q1], q2⟩⟩
theorem nodup_snd : ∀ {l : List (Nat × Nat)}, nodupB (l.map Prod.snd) = true -> ∀ p ∈ l, ∀ q ∈ l, p.2 = q.2 -> p = q
 | [], _, p, hp, _, _, _ => by cases hp
 | x :: l, h, p, hp, q, hq, e => by
   simp only [List.map_cons, nodupB, Bool.and_eq_true, Bool.not_eq_true'] at h
   have hx : ∀ y ∈ l, y.2 ≠ x.2 := fun y hy hxy => by
     have : (l.map Prod.snd).contains x.2 = true := by rw [List.contains_iff_mem]; exact hxy ▸ List.mem_map_of_mem hy
     rw [this] at h; cases h.1
   rcases List.mem_cons.1 hp with rfl | hp'
   . rcases List.mem_cons.1 hq with rfl | hq'
     . rfl
     . exact absurd e.symm (hx q hq')
   . rcases List.mem_cons.1 hq with rfl | hq'
     . exact absurd e (hx p hp')
     . exact nodup_snd h.2 p hp' q hq' e
theorem keepIds_mem : ∀ {l : List (Nat × ShO)} {id : Nat} {t : Ty} {wit : Nat}, (id, ShO.keep t wit) ∈ l -> id ∈ keepIds l
 | [], _, _, _, h => by cases h
 | (i, o) :: l, id, t, wit, h => by
   rcases List.mem_cons.1 h with k | k
   . cases k; simp [keepIds]
   . have ih := keepIds_mem k
     cases o <;> simp only [keepIds] <;> first
       | exact ih
       | exact List.mem_cons_of_mem _ ih
theorem still_AR {c c' : Cx} (hw : ∀ b o, c.S b o -> c'.w.cell? ⟨b, o, none⟩ = c.w.cell? ⟨b, o, none⟩) (hS : ∀ b o, c.S b o -> c'.S b o) {x : AV} {v : Value} (h : AR c x v) : AR c' x.still v := by
 cases x <;> simp only [AV.still] <;> try (simp only [AR]; done)
 case d t x =>
   simp only [AR] at h ⊢
   rcases h with ⟨k1, k2, k3⟩ | ⟨ts, k1, k0, k2, k3⟩
   . exact .inl ⟨k1, k2, k3.mono hw hS⟩
   . exact .inr ⟨ts, k1, k0, k2, k3.mono hw hS⟩
 case own t u l =>
   simp only [AR, AC] at h
   obtain ⟨h0, hn, h1, a, cap, h2, h3, _⟩ := h
   refine AR_of_d (by simpa only [noTup] using hn) (by simp only [wt]; exact ⟨l, rfl, h1⟩) ?_
   have hv : v = .slice a l.length cap := cells_single h0 h2
   subst hv
   exact DR0.of_CR (h3.mono hw hS)
 case fptr t x =>
   simp only [AR, AC] at h ⊢
   obtain ⟨h0, h1, h2, b, off, h3, h4⟩ := h
   exact ⟨h0, h1, h2, b, off, h3, h4.mono hw hS⟩
section
variable {w0 : Root} {w w' : World} {S S' : Nat -> Nat -> Prop} {γ γ' : Nat -> Option Nat} {β β' : Nat -> Option (Nat × Nat)} {s s' : St} {a a' : Act}
theorem shape_ok (h0 : Rp w0 S γ β s a w) (h1 : Rp w0 S' γ' β' s' a' w') (hsub : ∀ b o, S b o -> S' b o) (hcell : ∀ b o, S b o -> w'.cell? ⟨b, o, none⟩ = w.cell? ⟨b, o, none⟩) (hnt : s'.nt = s.nt) {h : Shape}
   (hs : ∀ t ∈ h.keepS, a'.tmps.getD t undef = a.tmps.getD t undef) (ho : ∀ id ∈ keepIds h.objs, ∀ b, γ id = some b -> γ' id = some b /\ w'.heap[b]? = w.heap[b]?) {v : List D} (hd : h.dec s s' = some v) (lkS lkO : List Nat) :
   ∃ γ'' β'', Rp w0 S' γ'' β'' (h.mk' s v lkS lkO) a' w' /\ ∀ id, id < s.base + 4096 -> γ'' id = γ' id := by
 unfold Shape.dec at hd
 split at hd <;> first | (cases hd; done) | skip
 rename_i hg
 simp only [Bool.and_eq_true] at hg
 obtain ⟨hg, htok⟩ := hg
 obtain ⟨x, hx, hd⟩ := bind_some_inv hd
 obtain ⟨y, hy, hd⟩ := bind_some_inv hd
 simp only [Option.some.injEq] at hd
 subst hd
 simp only [Shape.good, Bool.and_eq_true, List.all_eq_true, decide_eq_true_eq] at hg
 obtain ⟨⟨⟨⟨hg1, hg2⟩, hg3⟩, hg4⟩, hg5⟩ := hg
 have hlx := decS_len s' h.slots x hx
 obtain ⟨n, hn⟩ : ∃ n, n = (s.fresh + 1) * 4096 := ⟨_, rfl⟩
 have hbase : s.base + 4096 = n := by rw [hn]; simp only [St.base]; omega
 rw [<- hn] at hg3 hg4
 obtain ⟨tl, htl⟩ : ∃ tl, tl = tkS s' h.slots 0 ++ tkO s' h.objs (Shape.cntS h.slots) := ⟨_, rfl⟩
 have hpl : Pl tl 0 (Shape.cntS h.slots + Shape.cntO h.objs) := by
   rw [htl]
   have p1 := tkS_pl s' h.slots 0
   rw [Nat.zero_add] at p1
   exact p1.append (tkO_pl s' h.objs _) (by omega) (by omega)
 have hsnd : nodupB (tl.map Prod.snd) = true := by rw [htl, List.map_append, tkS_snd, tkO_snd]; exact htok
 have halive : ∀ p ∈ tl, p.2 ∉ s'.dead := fun p hp => by
   rw [htl] at hp
   rcases List.mem_append.1 hp with hp | hp
   . exact decS_alive s' _ x hx _ (by rw [<- tkS_snd s' _ 0]; exact List.mem_map_of_mem hp)
   . exact decO_alive s' _ y hy _ (by rw [<- tkO_snd s' _ (Shape.cntS h.slots)]; exact List.mem_map_of_mem hp)
 obtain ⟨γ'', hγ⟩ : ∃ γ'' : Nat -> Option Nat, γ'' = fun id => if id < n then γ' id else none := ⟨_, rfl⟩
 obtain ⟨β'', hβ⟩ : ∃ β'' : Nat -> Option (Nat × Nat), β'' = fun u => if n <= u then (tl.find? fun p => p.1 == u - n).bind fun p => β' p.2 else none := ⟨_, rfl⟩
 have hγ1 : ∀ id, id < n -> γ'' id = γ' id := fun id hi => by rw [hγ]; simp [hi]
 have hγ2 : ∀ id b, γ'' id = some b -> id < n /\ γ' id = some b := fun id b hb => by
   rw [hγ] at hb
   simp only at hb
   split at hb
   . rename_i hi; exact ⟨hi, hb⟩
   . cases hb
 have hβ1 : ∀ p ∈ tl, β'' (n + p.1) = β' p.2 := fun p hp => by
   rw [hβ]
   simp only [Nat.le_add_right, if_true, Nat.add_sub_cancel_left]
   cases hfd : tl.find? fun q => q.1 == p.1 with
   | none =>
     have := List.find?_eq_none.1 hfd p hp
     simp at this
   | some q =>
     have h1 := List.find?_some hfd
     have h2 := List.mem_of_find?_eq_some hfd
     rw [hpl.2 q h2 p hp (by simpa using h1)]
     rfl
 have hβ2 : ∀ u b, β'' u = some b -> ∃ p ∈ tl, u = n + p.1 /\ β' p.2 = some b := fun u b hb => by
   rw [hβ] at hb
   simp only at hb
   split at hb <;> first | (cases hb; done) | skip
   rename_i hu
   obtain ⟨p, h1, h2⟩ := bind_some_inv hb
   refine ⟨p, List.mem_of_find?_eq_some h1, ?_, h2⟩
   have := List.find?_some h1
   simp only [beq_iff_eq] at this
   omega
 have hat1 : atS (x ++ y) x 0 := fun i hi => by rw [Nat.zero_add, List.getElem?_append_left hi]
 have hat2 : atS (x ++ y) y (Shape.cntS h.slots) := fun i hi => by rw [<- hlx, List.getElem?_append_right (by omega), Nat.add_sub_cancel_left]
 obtain ⟨ob'', hob⟩ : ∃ ob'', ob'' = (h.mk' s (x ++ y) lkS lkO).ob := ⟨_, rfl⟩
 have hob' : ob'' = Shape.mkO n s.ob h.objs (Shape.cntS h.slots) (x ++ y) (fun _ => none) := by
   rw [hob]
   simp only [Shape.mk', mkS_snd, Nat.zero_add, <- hn]
 have T : Two n ⟨w', S', γ', β', s'.ob, s'.dead⟩ ⟨w', S', γ'', β'', ob'', []⟩ := by
   refine ⟨rfl, rfl, hγ1, fun id hi o' ho' => ?_⟩
   rw [hob'] at ho'
   rcases mkO_ty h.objs _ _ y _ hy hat2 id o' ho' with k | ⟨_, o, k1, k2⟩
   . cases k
   . exact ⟨o, k1, k2.1, k2.2⟩
 have hszeq : a'.tmps.size = a.tmps.size := by rw [h1.nt, hnt, h0.nt]
 have htm : (h.mk' s (x ++ y) lkS lkO).tm = (Shape.mkS n h.slots 0 (x ++ y) (fun i => if h.keepS.contains i then (s.tm i).still else .undef)).1 := by
   simp only [Shape.mk', <- hn]
 have hkeep := mkS_ok (b := n) T (s' := s') rfl rfl h.slots 0 (x ++ y) x (fun i => if h.keepS.contains i then (s.tm i).still else .undef) hx hat1 (fun p hp => (hg4 p hp).2) (fun p hp => hβ1 p (by rw [htl]; exact List.mem_append_left _ hp))
 refine ⟨γ'', β'', ⟨h1.ext, fun t ht => ?_, ?_, fun t ht => ?_, fun id o b hio hb => ?_, fun id b hb => h1.γn id b (hγ2 id b hb).2, fun id id' b hb hb' => h1.γi id id' b (hγ2 id b hb).2 (hγ2 id' b hb').2, fun id hi => ?_, fun u b e _ hb => ?_, fun u u' b e e' _ _ hb hb' => ?_, fun u id b e _ hb hid => ?_, fun u hu => ?_, h1.Sb, h1.So, h1.df⟩, fun id hi => hγ1 id (by omega)⟩
 . rw [htm, <- hob]
   rcases hkeep t with ⟨k1, k2⟩ | ⟨k1, k2⟩
   . exact k2 _ (h1.tms t ht)
   . rw [k2]
     by_cases hk : h.keepS.contains t = true
     . have hk' : t ∈ h.keepS := by simpa using hk
       rw [if_pos hk, hs t hk']
       exact still_AR (c := ⟨w, S, γ, β, s.ob, s.dead⟩) hcell hsub (h0.tms t (by rw [<- hszeq]; exact ht))
     . rw [if_neg hk]; simp only [AR]
 . show a'.tmps.size = s.nt
   rw [h1.nt, hnt]
 . have ht' : s.nt <= t := ht
   rw [htm]
   rcases hkeep t with ⟨k1, k2⟩ | ⟨k1, k2⟩
   . obtain ⟨p, hp, rfl⟩ := List.mem_map.1 k1
     have := (hg4 p hp).1
     omega
   . rw [k2]
     split
     . rw [h0.tmu t ht']; rfl
     . rfl
 . have hb' := (hγ2 id b hb).2
   rw [<- hob] at hio ⊢
   have hio' := hio
   rw [hob'] at hio'
   rcases mkO_ok (b := n) (base := s) T (s' := s') rfl rfl h.objs (Shape.cntS h.slots) (x ++ y) y _ hy hat2 (fun p hp => (hg3 p hp).2) (fun p hp => hβ1 p (by rw [htl]; exact List.mem_append_right _ hp)) id o hio' with k | ⟨o0, k1, k2 | ⟨t, wit, k2, k3⟩⟩
   . cases k
   . exact k2 b (h1.obs id o0 b k1 hb')
   . have hfi := (hg3 _ k2).2
     simp only [ShO.fine] at hfi
     split at hfi <;> first | (cases hfi; done) | skip
     rename_i u id' p hw
     simp only [Bool.and_eq_true, decide_eq_true_eq] at hfi
     obtain ⟨rfl, hwn⟩ := hfi
     have hA := h0.tms wit (by rw [h0.nt]; exact hwn)
     rw [hw] at hA
     simp only [AR, AC] at hA
     obtain ⟨_, b0, off, _, hγ0, _⟩ := hA
     obtain ⟨q1, q2⟩ := ho id (keepIds_mem k2) b0 hγ0
     rw [hb'] at q1
     simp only [Option.some.injEq] at q1
     subst q1
     obtain ⟨u', x', hob0, rfl⟩ := still_some k3
     have hO := h0.obs id _ b hob0 hγ0
     have hO1 := h1.obs id o0 b k1 hb'
     have hnS : ∀ o, ¬ S' b o := by
       cases o0 <;> simp only [ObR] at hO1 <;> exact hO1.2.2.1
     simp only [ObR, AC] at hO ⊢
     obtain ⟨r1, r2, _, cs, r3, ⟨r4, r5, r6⟩, r7⟩ := hO
     refine ⟨r1, r2, hnS, cs, ?_, ⟨r4, r5, r6.mono hcell hsub⟩, r7⟩
     simp only [row?, q2]; exact r3
 . have hi' : (s.fresh + 1) * 4096 + 4096 <= id := hi
   rw [hγ]; simp only; rw [if_neg (by omega)]
 . obtain ⟨p, hp, _, hb'⟩ := hβ2 u _ hb
   exact h1.βn _ b e (halive p hp) hb'
 . obtain ⟨p, hp, rfl, k⟩ := hβ2 u _ hb
   obtain ⟨q, hq, rfl, k'⟩ := hβ2 u' _ hb'
   have := h1.βi _ _ b e e' (halive p hp) (halive q hq) k k'
   rw [nodup_snd hsnd p hp q hq this]
 . obtain ⟨p, hp, _, hb'⟩ := hβ2 u _ hb
   exact h1.βγ _ id b e (halive p hp) hb' (hγ2 id b hid).2
 . have hu' : (s.fresh + 1) * 4096 + 4096 <= u := hu
   cases hc : β'' u with
   | none => rfl
   | some b =>
     obtain ⟨p, hp, e, _⟩ := hβ2 u b hc
     have := (hpl.1 p hp).2
     omega
end
end Go.Proofs.YtjjjkojfijpeeaaGreat.Sy
end
section
namespace Go.Proofs.YtjjjkojfijpeeaaGreat.Sy
open Go
variable {ro : Option Nat} {nn : Nat}
section
variable {P : Program} {E : Env} {w0 : Root} {S : Nat -> Nat -> Prop} {γ : Nat -> Option Nat} {β : Nat -> Option (Nat × Nat)} {s : St} {a : Act} {w : World}
theorem Fm.tr {s s1 : St} {S S1 S2 : Nat -> Nat -> Prop} {γ γ1 γ2 : Nat -> Option Nat} {a a1 a2 : Act} {w w1 w2 : World} (h : Fm s S γ a w S1 γ1 a1 w1) (k : Fm s1 S1 γ1 a1 w1 S2 γ2 a2 w2) (e : Sk s s1) : Fm s S γ a w S2 γ2 a2 w2 := h.trans k e.lkS e.lkO
def freeze1 (s : St) (t : Nat) : St :=
 match s.tm t with
   | .mem t' id => match s.ob id with
     | some (.many u l) => if t'.beq u && !(s.lkO.contains id) then { s.setOb id none with tm := fun i => if i = t then .d (.sl u) (.sl l) else s.tm i } else s
     | _ => s
   | _ => s
theorem freeze_cons (s : St) (t : Nat) (l : List Nat) : freeze s (t :: l) = freeze (freeze1 s t) l := rfl
theorem freeze1_ok (h : Rp w0 S γ β s a w) (t : Nat) : ∃ S', Rp w0 S' γ β (freeze1 s t) a w /\ Fm s S γ a w S' γ a w /\ Sm s (freeze1 s t) := by
 have triv : ∃ S', Rp w0 S' γ β s a w /\ Fm s S γ a w S' γ a w /\ Sm s s := ⟨S, h, Fm.refl _ _ _ _ _, Sm.refl s⟩
 unfold freeze1
 split
 . rename_i t' id hm
   split
   . rename_i u l ho
     split
     . rename_i hc
       simp only [Bool.and_eq_true, Bool.not_eq_true'] at hc
       obtain ⟨hc1, hc2⟩ := hc
       have hu := Ty.eq_of_beq _ _ hc1
       subst hu
       have ht : t < a.tmps.size := by
         rcases Nat.lt_or_ge t a.tmps.size with k | k
         . exact k
         . have := h.tmu t (by rw [<- h.nt]; exact k)
           rw [hm] at this; cases this
       have hA := h.tms t ht
       rw [hm] at hA
       simp only [AR, AC] at hA
       obtain ⟨hna, hnt, b, hγ, hA⟩ := hA
       obtain ⟨l', e1, hv⟩ := hA _ ho
       simp only [Ob.many.injEq, true_and] at e1
       subst e1
       have hO := h.obs id _ b ho hγ
       simp only [ObR] at hO
       obtain ⟨_, hwt, hnS, cs, hrow, hcs⟩ := hO
       obtain ⟨S', hS'⟩ : ∃ S' : Nat -> Nat -> Prop, S' = fun b' o => S b' o \/ b' = b := ⟨_, rfl⟩
       have hsub : ∀ b' o, S b' o -> S' b' o := fun b' o hb => by rw [hS']; exact .inl hb
       have hle : Cx.le ⟨w, S, γ, β, s.ob, s.dead⟩ ⟨w, S', γ, β, (s.setOb id none).ob, s.dead⟩ := by
         refine ⟨fun _ _ _ => rfl, hsub, fun _ _ k => k, fun i o hi _ => ?_, fun v hv => ⟨hv, fun b e he => ⟨he, fun n hn => hn⟩⟩⟩
         simp only [St.setOb] at hi
         split at hi <;> first | (cases hi; done) | skip
         exact ⟨o, hi, fun p => ⟨rfl, rfl⟩, fun t l e => ⟨l, e, rfl⟩, fun _ _ l e => ⟨l, e⟩⟩
       refine ⟨S', ⟨h.ext, fun i hi => ?_, h.nt, fun i hi => ?_, fun i o b' hi hb' => ?_, h.γn, h.γi, h.γf, fun v b' e hvd he => ?_, h.βi, h.βγ, h.βf, fun b' o hb => ?_, fun b' o hb hlt => ?_, h.df⟩, ⟨hsub, fun _ _ _ => rfl, fun _ _ => rfl, fun _ _ _ hb => ⟨hb, rfl⟩, Nat.le_refl _, fun _ _ hb => hb⟩, ⟨rfl, rfl, rfl, rfl⟩⟩
       . by_cases hit : i = t
         . subst hit
           simp only [if_true]
           have hval := cells_single hna hv
           rw [hval]
           refine AR_of_d (by simpa only [noTup] using hnt) (by simp only [wt]; exact ⟨l, rfl, hwt⟩) (DR0.of_CR ?_)
           refine CR.of_elems (b := b) (off := 0) (.inr rfl) (Nat.le_refl _) ⟨cs, hcs.mono (fun _ _ _ => rfl) hsub, fun i c hc => ⟨by rw [hS']; exact .inr rfl, ?_⟩⟩
           rw [Nat.zero_add, cell_of_row w hrow]
           simpa using hc
         . simp only [if_neg hit]
           exact (h.tms i hi).mono hle
       . have hi' : s.nt <= i := hi
         have hit : i ≠ t := fun e => by rw [h.nt] at ht; omega
         simp only [if_neg hit]
         exact h.tmu i hi'
       . simp only [St.setOb] at hi
         split at hi <;> first | (cases hi; done) | skip
         rename_i hne
         refine (h.obs i o b' hi hb').mono hle rfl fun o ho' => ?_
         have ho2 : S' b' o := ho'
         rw [hS'] at ho2
         rcases ho2 with k | k
         . exact k
         . subst k
           exact absurd (h.γi i id b' hb' hγ) hne
       . obtain ⟨k1, k2, k3⟩ := h.βn v b' e hvd he
         refine ⟨k1, k2, fun o ho' hs => ?_⟩
         rw [hS'] at hs
         rcases hs with k | k
         . exact k3 o ho' k
         . subst k
           exact h.βγ v id b' e hvd he hγ
       . rw [hS'] at hb
         rcases hb with k | k
         . exact h.Sb b' o k
         . subst k; exact (h.γn id b' hγ).2
       . rw [hS'] at hb
         rcases hb with k | k
         . exact h.So b' o k hlt
         . subst k
           exact absurd hlt (h.γn id b' hγ).1
     . exact triv
   . exact triv
 . exact triv
theorem freeze_ok : ∀ (l : List Nat) {S : Nat -> Nat -> Prop} {s : St}, Rp w0 S γ β s a w -> ∃ S', Rp w0 S' γ β (freeze s l) a w /\ Fm s S γ a w S' γ a w /\ Sm s (freeze s l)
 | [], S, s, h => ⟨S, h, Fm.refl _ _ _ _ _, Sm.refl s⟩
 | t :: l, S, s, h => by
   obtain ⟨S1, h1, f1, m1⟩ := freeze1_ok h t
   obtain ⟨S2, h2, f2, m2⟩ := freeze_ok l h1
   rw [freeze_cons]
   exact ⟨S2, h2, f1.trans f2 m1.lkS m1.lkO, m1.trans m2⟩
def prep1 (E : Env) (s : St) (o : Oper) : St := match o.op, o.dst with
   | .alloc T, some d => match E.L T with
     | some t => s.setOb (s.base + d) (some (.one t (zeroA t)))
     | none => s
   | _, _ => s
theorem prep_cons (E : Env) (o : Oper) (l : List Oper) (s : St) : prep E (o :: l) s = prep E l (prep1 E s o) := rfl
theorem Rp.freeOb (h : Rp w0 S γ β s a w) {id : Nat} (hγ : γ id = none) (o : Option Ob) : Rp w0 S γ β (s.setOb id o) a w := by
 have hle : Cx.le ⟨w, S, γ, β, s.ob, s.dead⟩ ⟨w, S, γ, β, (s.setOb id o).ob, s.dead⟩ := by
   refine ⟨fun _ _ _ => rfl, fun _ _ k => k, fun _ _ k => k, fun i x hx hb => ?_, fun v hv => ⟨hv, fun b e he => ⟨he, fun n hn => hn⟩⟩⟩
   simp only [St.setOb] at hx
   split at hx
   . rename_i e; subst e
     obtain ⟨b, hb⟩ := hb
     simp only [hγ] at hb; cases hb
   . exact ⟨x, hx, fun p => ⟨rfl, rfl⟩, fun t l e => ⟨l, e, rfl⟩, fun _ _ l e => ⟨l, e⟩⟩
 refine ⟨h.ext, fun i hi => (h.tms i hi).mono hle, h.nt, h.tmu, fun i x b hx hb => ?_, h.γn, h.γi, h.γf, h.βn, h.βi, h.βγ, h.βf, h.Sb, h.So, h.df⟩
 simp only [St.setOb] at hx
 split at hx
 . rename_i e; subst e; rw [hγ] at hb; cases hb
 . exact (h.obs i x b hx hb).mono hle rfl fun _ k => k
theorem prep1_cases (E : Env) (s : St) (o : Oper) : prep1 E s o = s \/ ∃ T d t, o.op = .alloc T /\ o.dst = some d /\ E.L T = some t /\ prep1 E s o = s.setOb (s.base + d) (some (.one t (zeroA t))) := by
 unfold prep1
 split
 . rename_i T d e1 e2
   split
   . rename_i t e3; exact .inr ⟨T, d, t, e1, e2, e3, rfl⟩
   . exact .inl rfl
 . exact .inl rfl
theorem prep1_ok (h : Rp w0 S γ β s a w) (hg : ∀ d, γ (s.base + d) = none) (o : Oper) : Rp w0 S γ β (prep1 E s o) a w /\ Sm s (prep1 E s o) := by
 rcases prep1_cases E s o with e | ⟨T, d, t, _, _, _, e⟩
 . rw [e]; exact ⟨h, Sm.refl s⟩
 . rw [e]; exact ⟨h.freeOb (hg d) _, rfl, rfl, rfl, rfl⟩
theorem Sm.base_eq {s s' : St} (h : Sm s s') : s'.base = s.base := by simp only [St.base, h.fresh]
theorem prep_ok (l : List Oper) {s : St} (h : Rp w0 S γ β s a w) (hg : ∀ d, γ (s.base + d) = none) : Rp w0 S γ β (prep E l s) a w /\ Sm s (prep E l s) := by
 induction l generalizing s with
 | nil => exact And.intro h (Sm.refl s)
 | cons o l ih =>
   rw [prep_cons]
   obtain ⟨h1, h2⟩ := prep1_ok (E := E) h hg o
   obtain ⟨k1, k2⟩ := ih h1 (by rw [h2.base_eq]; exact hg)
   exact ⟨k1, h2.trans k2⟩
theorem prep_other : ∀ (l : List Oper) {s : St} {d : Nat}, (∀ o ∈ l, o.dst ≠ some d) -> (prep E l s).ob (s.base + d) = s.ob (s.base + d)
 | [], s, d, _ => rfl
 | o :: l, s, d, h => by
   rw [prep_cons]
   rcases prep1_cases E s o with e | ⟨T, d', t, _, e2, _, e⟩
   . rw [e]; exact prep_other l fun o ho => h o (by simp [ho])
   . rw [e]
     have := prep_other l (s := s.setOb (s.base + d') (some (.one t (zeroA t)))) (d := d) fun o ho => h o (by simp [ho])
     have hb : (s.setOb (s.base + d') (some (.one t (zeroA t)))).base = s.base := rfl
     rw [hb] at this
     rw [this]
     have hne : d' ≠ d := fun e => h o (by simp) (by rw [e2, e])
     simp only [St.setOb]
     rw [if_neg fun e => hne (Nat.add_left_cancel e).symm]
theorem prep_at : ∀ (l : List Oper) {s : St} {o : Oper} {T : TypeId} {d : Nat} {t : Ty}, nodupB (l.filterMap (·.dst)) = true -> o ∈ l -> o.op = .alloc T -> o.dst = some d -> E.L T = some t -> (prep E l s).ob (s.base + d) = some (.one t (zeroA t))
 | [], _, _, _, _, _, _, h, _, _, _ => by cases h
 | x :: l, s, o, T, d, t, hn, ho, e1, e2, e3 => by
   have hn' : nodupB (l.filterMap (·.dst)) = true := by
     rw [List.filterMap_cons] at hn
     split at hn
     . exact hn
     . simp only [nodupB, Bool.and_eq_true] at hn; exact hn.2
   rw [prep_cons]
   have hb : (prep1 E s x).base = s.base := by rcases prep1_cases E s x with e | ⟨_, _, _, _, _, _, e⟩ <;> rw [e] <;> rfl
   rcases List.mem_cons.1 ho with rfl | ho'
   . rw [<- hb, prep_other l fun o' ho' => fun e => dsts_apart hn [] l o o' rfl ho' d e e2]
     rw [hb]
     simp only [prep1, e1, e2, e3, St.setOb, if_true]
   . rw [<- hb]
     exact prep_at l hn' ho' e1 e2 e3
theorem is_eq {e e' : Ex} (h : e.is e' = true) : e = e' := by
 cases e <;> cases e' <;> simp only [Ex.is, decide_eq_true_eq] at h <;> first | rfl | (cases h; done) | (rw [h])
theorem findEx_spec {e : Ex} : ∀ {l : List (Ex × Shape)} {i j : Nat} {h : Shape}, findEx e l i = some (j, h) -> i <= j /\ l[j - i]? = some (e, h)
 | [], _, _, _, k => by simp [findEx] at k
 | (e', h') :: l, i, j, h, k => by
   simp only [findEx] at k
   split at k
   . rename_i he
     simp only [Option.some.injEq, Prod.mk.injEq] at k
     obtain ⟨rfl, rfl⟩ := k
     exact ⟨Nat.le_refl _, by simp [is_eq he]⟩
   . obtain ⟨k1, k2⟩ := findEx_spec k
     refine ⟨by omega, ?_⟩
     rw [show j - i = (j - (i + 1)) + 1 by omega]
     simpa using k2
theorem contEx_spec {R : Type} {base : St} {k : Ex -> St -> Option R} {kS kO : List Nat} {r : R} {e : Ex} {h : Shape} {v : List D} : ∀ {l : List (Ex × Shape)} {i j : Nat}, i <= j -> l[j - i]? = some (e, h) -> contEx base k kS kO l i (j, v) = some r ->
   k e (h.mk' base v base.lkS base.lkO) = some r /\ subset h.keepS kS = true /\ subset (keepIds h.objs) kO = true
 | [], _, _, _, hl, _ => by simp at hl
 | [(e', h')], i, j, hij, hl, hc => by
   have : j - i = 0 := by
     have := (List.getElem?_eq_some_iff.1 hl).1
     simpa using this
   rw [this] at hl
   simp only [List.getElem?_cons_zero, Option.some.injEq, Prod.mk.injEq] at hl
   obtain ⟨rfl, rfl⟩ := hl
   simp only [contEx] at hc
   split at hc <;> first | (cases hc; done) | skip
   rename_i hs
   simp only [Bool.and_eq_true] at hs
   exact ⟨hc, hs⟩
 | (e', h') :: x :: l, i, j, hij, hl, hc => by
   simp only [contEx] at hc
   split at hc <;> first | (cases hc; done) | skip
   rename_i hs
   simp only [Bool.and_eq_true] at hs
   split at hc
   . rename_i hji
     subst hji
     simp only [Nat.sub_self, List.getElem?_cons_zero, Option.some.injEq, Prod.mk.injEq] at hl
     obtain ⟨rfl, rfl⟩ := hl
     exact ⟨hc, hs⟩
   . rename_i hji
     refine contEx_spec (i := i + 1) (by omega) ?_ hc
     rw [show j - i = (j - (i + 1)) + 1 by omega] at hl
     simpa using hl
theorem subset_spec {l l' : List Nat} (h : subset l l' = true) : ∀ x ∈ l, x ∈ l' := fun x hx => by
 have := List.all_eq_true.1 h x hx
 simpa using this
def exOf : Ex -> Exit
 | .normal => .normal
 | .exit i => .exit i
 | .ret => .ret
theorem Rp.lk (h : Rp w0 S γ β s a w) (lkS lkO : List Nat) : Rp w0 S γ β { s with lkS := lkS, lkO := lkO } a w :=
 ⟨h.ext, h.tms, h.nt, h.tmu, h.obs, h.γn, h.γi, h.γf, h.βn, h.βi, h.βγ, h.βf, h.Sb, h.So, h.df⟩
theorem Fm.less {s s2 : St} {S' : Nat -> Nat -> Prop} {γ' : Nat -> Option Nat} {a' : Act} {w' : World} (h : Fm s S γ a w S' γ' a' w') (e1 : ∀ t ∈ s2.lkS, t ∈ s.lkS) (e2 : ∀ t ∈ s2.lkO, t ∈ s.lkO) : Fm s2 S γ a w S' γ' a' w' :=
 ⟨h.sub, h.cell, fun t ht => h.slots t (e1 t ht), fun id hid => h.objs id (e2 id hid), h.sz, h.gam⟩
theorem Fm.shape {s2 : St} {S' : Nat -> Nat -> Prop} {γ' γ'' : Nat -> Option Nat} {a' : Act} {w' : World} (h0 : Rp w0 S γ β s a w) (h : Fm s2 S γ a w S' γ' a' w') (hg : ∀ id, id < s.base + 4096 -> γ'' id = γ' id) : Fm s2 S γ a w S' γ'' a' w' :=
 ⟨h.sub, h.cell, h.slots, fun id hid b hb => by
   obtain ⟨k1, k2⟩ := h.objs id hid b hb
   refine ⟨?_, k2⟩
   rw [hg id ?_]
   . exact k1
   . rcases Nat.lt_or_ge id (s.base + 4096) with k | k
     . exact k
     . rw [h0.γf id k] at hb
       exact absurd hb (by simp), h.sz, fun id b hb => by
   rw [hg id ?_]
   . exact h.gam id b hb
   . rcases Nat.lt_or_ge id (s.base + 4096) with k | k
     . exact k
     . rw [h0.γf id k] at hb
       exact absurd hb (by simp)⟩
theorem toEx_spec {base : St} {exits : List (Ex × Shape)} {e : Ex} {s' : St} {r : Nat × List D} (h : toEx base exits e s' = some r) : ∃ sh, exits[r.1]? = some (e, sh) /\ sh.dec base s' = some r.2 := by
 unfold toEx at h
 obtain ⟨q, h1, h⟩ := bind_some_inv h
 obtain ⟨v, h2, h⟩ := bind_some_inv h
 simp only [Option.some.injEq] at h
 subst h
 obtain ⟨_, h3⟩ := findEx_spec h1
 exact ⟨q.2, by simpa using h3, h2⟩
end
end Go.Proofs.YtjjjkojfijpeeaaGreat.Sy
end
section
namespace Go.Proofs.YtjjjkojfijpeeaaGreat.Sy
open Go
variable {ro : Option Nat} {nn : Nat}
section
variable {V : Nat -> St -> Option AV} {ops : Array Oper} {md : Region.Mode}
def stepV (V : Nat -> St -> Option AV) (ops : Array Oper) (i : Nat) (K : St -> Prop) (s : St) : Prop :=
 match ops[i]? with
 | none => K s
 | some o => ∃ v, V i s = some v /\ K (s.put o.dst v)
def hAnyV (V : Nat -> St -> Option AV) (md : Region.Mode) (ops : Array Oper) (n : Nat) (L : Array Bool -> St -> Prop) : Nat -> Array Bool -> St -> Prop
 | 0, listed, s => L listed s
 | f + 1, listed, s => Region.ready md ops listed ≠ [] /\ ∀ i ∈ Region.ready md ops listed, i < n /\ stepV V ops i (hAnyV V md ops n L f (listed.setIfInBounds i true)) s
def seqI (V : Nat -> St -> Option AV) (ops : Array Oper) : Nat -> Nat -> St -> Option St
 | 0, _, s => some s
 | c + 1, k, s => (V k s).bind fun v => seqI V ops c (k + 1) (s.put ((ops[k]?).bind (·.dst)) v)
theorem seqI_add : ∀ (c d k : Nat) (s : St), seqI V ops (c + d) k s = (seqI V ops c k s).bind fun s' => seqI V ops d (k + c) s'
 | 0, d, k, s => by simp [seqI]
 | c + 1, d, k, s => by
   rw [show c + 1 + d = (c + d) + 1 by omega]
   simp only [seqI]
   cases V k s with
   | none => rfl
   | some v =>
     simp only [Option.bind_some]
     rw [seqI_add c d (k + 1), show k + 1 + c = k + (c + 1) by omega]
def VOk (V : Nat -> St -> Option AV) (ops : Array Oper) : Prop := ∀ i oi, ops[i]? = some oi -> ∀ (s : St) (d : Option Nat) (v : AV), (∀ t, d = some t -> t ∉ oi.looksAt ops) -> V i (s.put d v) = V i s
theorem hAnyV_first {n i : Nat} {oi : Oper} {v : AV} {L : Array Bool -> St -> Prop} (hV : VOk V ops) (hi : ops[i]? = some oi) (hW : Waits md ops n) (hin : i < n)
   (hdone : ∀ listed s, L listed s -> ∀ j ∈ Region.ready md ops listed, n <= j) :
   ∀ (f : Nat) (listed : Array Bool) (s : St), HeadInv md ops n listed ->
     (∀ j oj, ops[j]? = some oj -> j ≠ i -> listed.getD j true = false -> (∀ e ∈ oj.after, Region.binds md e = true -> e.on ≠ i) -> oi.apart ops oj = true) ->
     i ∈ Region.ready md ops listed -> V i s = some v ->
     hAnyV V md ops n L f (listed.setIfInBounds i true) (s.put oi.dst v) -> hAnyV V md ops n L (f + 1) listed s := by
 intro f
 induction f with
 | zero =>
   intro listed s inv _ hr hy H
   have hun := (mem_ready.1 hr).1
   refine ⟨fun h => (by rw [h] at hr; cases hr), fun j hj => ?_⟩
   have hjn : j < n := by
     rcases Nat.lt_or_ge j n with h | h
     . exact h
     . exact absurd hj (hW _ _ inv hin hun j h)
   refine ⟨hjn, ?_⟩
   by_cases hji : j = i
   . subst hji; unfold stepV; rw [hi]; exact ⟨v, hy, H⟩
   . have := hdone _ _ H j (ready_mono hj hji)
     omega
 | succ f ih =>
   intro listed s inv hfree hr hy H
   have hun := (mem_ready.1 hr).1
   refine ⟨fun h => (by rw [h] at hr; cases hr), fun j hj => ?_⟩
   have hjn : j < n := by
     rcases Nat.lt_or_ge j n with h | h
     . exact h
     . exact absurd hj (hW _ _ inv hin hun j h)
   refine ⟨hjn, ?_⟩
   by_cases hji : j = i
   . subst hji; unfold stepV; rw [hi]; exact ⟨v, hy, H⟩
   . have h1 := (H.2 j (ready_mono hj hji)).2
     obtain ⟨hjun, oj, hoj, hall⟩ := mem_ready.1 hj
     have hnot : ∀ e ∈ oj.after, Region.binds md e = true -> e.on ≠ i := fun e he hb heq => by
       have h1 := hall e he hb
       rw [heq, getD_both hun] at h1
       cases h1
     obtain ⟨a1, a2, a3⟩ := Oper.apart_spec (hfree j oj hoj hji hjun hnot)
     unfold stepV at h1 ⊢
     rw [hoj] at h1 ⊢
     obtain ⟨u, k1, k2⟩ := h1
     rw [hV j oj hoj _ _ _ a1] at k1
     refine ⟨u, k1, ih (listed.setIfInBounds j true) (s.put oj.dst u) (inv.set hj hjn) (fun k ok hk hki hun hno => ?_) (ready_mono hr (Ne.symm hji)) ?_ ?_⟩
     . refine hfree k ok hk hki ?_ hno
       by_cases hjk : j = k
       . subst hjk; exact hjun
       . rw [getD_set_ne true hjk] at hun; exact hun
     . rw [hV i oi hi _ _ _ a3]; exact hy
     . rw [Array.setIfInBounds_comm _ _ hji, put_comm u v (fun d hd he => a2 d he hd)]
       exact k2
theorem hAnyV_lex {n g : Nat} {sF : St} (hV : VOk V ops) (hn : n <= ops.size) (hW : Waits md ops n) :
   ∀ (c k : Nat) (listed : Array Bool) (s : St), k + c = n -> HeadInv md ops n listed -> (∀ i, i < k -> listed.getD i false = true) ->
   Region.lexHead md ops g c k listed = true -> seqI V ops c k s = some sF ->
   hAnyV V md ops n (fun listed' s' => Region.seqB md ops g n listed' = true /\ (∀ i, i < n -> listed'.getD i false = true) /\ s' = sF) c listed s
 | 0, k, listed, s, hk, _, hl, hB, h => by
   have : k = n := by simpa using hk
   subst this
   simp only [seqI, Option.some.injEq] at h
   exact ⟨by simpa [Region.lexHead] using hB, hl, h⟩
 | c + 1, k, listed, s, hk, inv, hl, hB, h => by
   have hkn : k < n := by omega
   have hks : k < ops.size := by omega
   have h0 : ops[k]? = some ops[k] := Array.getElem?_eq_getElem hks
   simp only [Region.lexHead, Bool.and_eq_true] at hB
   obtain ⟨⟨hr, hf⟩, hB'⟩ := hB
   have hr' : k ∈ Region.ready md ops listed := by simpa using hr
   simp only [seqI] at h
   obtain ⟨v, h1, h2⟩ := bind_some_inv h
   rw [h0, Option.bind_some] at h2
   refine hAnyV_first hV h0 hW hkn (fun listed' s' hL => seqB_ready hL.1) c listed s inv (Region.free_spec h0 hf) hr' h1
     (hAnyV_lex hV hn hW c (k + 1) _ _ (by omega) (inv.set hr' hkn) (fun i hi => ?_) hB' h2)
   by_cases e : i = k
   . subst e
     have : i < listed.size := by rw [inv.size]; exact hks
     simp [this]
   . exact getD_set_true (hl i (by omega))
theorem hAnyV_end {n : Nat} {L : Array Bool -> St -> Prop} {T : List Nat} : ∀ (f : Nat) (listed : Array Bool) (s : St), hAnyV V md ops n L f listed s ->
   (∀ t ∈ T, ∀ j oj, ops[j]? = some oj -> listed.getD j true = false -> oj.dst ≠ some t) -> ∃ listed' s', L listed' s' /\ (∀ t ∈ T, s'.tm t = s.tm t) /\ s'.ob = s.ob /\ Sm s s'
 | 0, listed, s, h, _ => ⟨listed, s, h, fun _ _ => rfl, rfl, Sm.refl s⟩
 | f + 1, listed, s, h, hT => by
   obtain ⟨h1, h2⟩ := h
   obtain ⟨i, hi⟩ := List.exists_mem_of_ne_nil _ h1
   obtain ⟨hin, hst⟩ := h2 i hi
   obtain ⟨hun, o, ho, _⟩ := mem_ready.1 hi
   unfold stepV at hst
   rw [ho] at hst
   obtain ⟨v, _, k2⟩ := hst
   obtain ⟨l', s', m1, m2, m3, m4⟩ := hAnyV_end f _ _ k2 (fun t ht j oj hj hu => by
     by_cases e : i = j
     . subst e
       exfalso
       rcases Nat.lt_or_ge i listed.size with hlt | hge
       . simp [Array.getD, hlt] at hu
       . simp [Array.getD, Nat.not_lt.2 hge] at hu
     . rw [getD_set_ne true e] at hu; exact hT t ht j oj hj hu)
   have p := St.put_fields s o.dst v
   exact ⟨l', s', m1, fun t ht => (m2 t ht).trans (put_tm (hT t ht i o ho hun)), m3.trans p.1, (Sm.put s o.dst v).trans m4⟩
end
section
variable {E : Env} {ops : Array Oper}
def lateV (E : Env) (ops : Array Oper) (n id i : Nat) (s : St) : Option AV := if i = n then some .undef else lateQ E ops n id i s some
theorem setOb_put (s : St) (d : Option Nat) (v : AV) (id : Nat) (o : Option Ob) : (s.put d v).setOb id o = (s.setOb id o).put d v := by
 cases d with
 | none => rfl
 | some d =>
   by_cases h : d < s.nt
   . simp only [St.put, St.setOb, h, if_true]
   . simp only [St.put, St.setOb, h, if_false]
theorem lateV_ok (n id : Nat) : VOk (lateV E ops n id) ops := by
 intro i oi hi s d v h
 unfold lateV
 split
 . rfl
 . obtain ⟨p1, p2, p3, p4, p5, p6, p7⟩ := St.put_fields s d v
   obtain ⟨q1, q2, q3, q4, q5, q6, q7⟩ := St.put_fields (s.setOb id none) d v
   have e1 : lkd (s.put d v) oi = lkd s oi := by simp only [lkd, p5]
   have hx : ∀ x ∈ oi.op.operands, ∀ t, d = some t -> x ≠ .tmp t := fun x hx t ht e => h t ht (by
     subst e
     exact List.mem_append_left _ (List.mem_filterMap.2 ⟨.tmp t, by simpa using hx, rfl⟩))
   have e2 : qv E (s.put d v) oi some = qv E s oi some := qv_congr p1 p2 fun x hm => opA_put (hx x hm)
   have e3 : qv E ((s.put d v).setOb id none) oi some = qv E (s.setOb id none) oi some := by
     rw [setOb_put]
     exact qv_congr q1 q2 fun x hm => opA_put (hx x hm)
   unfold lateQ
   rw [hi]
   simp only [e1, e2, e3]
theorem lateQ_split {R : Type} {n id i : Nat} {s : St} {K : AV -> Option R} {r : R} (h : lateQ E ops n id i s K = some r) : ∃ v, lateQ E ops n id i s some = some v /\ K v = some r := by
 unfold lateQ at h ⊢
 split at h <;> first | (cases h; done) | skip
 split at h <;> first | (cases h; done) | skip
 rename_i hlk
 rw [if_neg hlk]
 split at h
 . rename_i hw
   rw [if_pos hw]; exact qv_split h
 . rename_i hw
   rw [if_neg hw]
   split at h <;> first | (cases h; done) | skip
   rename_i hk
   rw [if_pos hk]; exact qv_split h
theorem evL_seq {R : Type} {n id : Nat} {K : St -> Option R} {r : R} : ∀ (c k : Nat) (s : St), k + c <= n -> evL E ops n id c k s K = some r -> ∃ s', seqI (lateV E ops n id) ops c k s = some s' /\ K s' = some r
 | 0, k, s, _, h => ⟨s, rfl, h⟩
 | c + 1, k, s, hk, h => by
   simp only [evL] at h
   obtain ⟨v, h1, h2⟩ := lateQ_split h
   obtain ⟨s', h3, h4⟩ := evL_seq c (k + 1) _ (by omega) h2
   refine ⟨s', ?_, h4⟩
   simp only [seqI, lateV, if_neg (show ¬ k = n by omega), h1, Option.bind_some]
   exact h3
mutual
theorem toD_ob (ob ob' : Nat -> Option Ob) : ∀ (t : Ty) (a : AV), AV.toD ob t a = AV.toD ob' t a
 | t, .st ts l => by simp only [AV.toD, toDl_ob ob ob' ts l]
 | t, .d _ _ => by cases t <;> simp only [AV.toD]
 | t, .own _ _ _ => by cases t <;> simp only [AV.toD]
 | t, .nils => by cases t <;> simp only [AV.toD]
 | t, .ptr _ _ _ => by cases t <;> simp only [AV.toD]
 | t, .fptr _ _ => by cases t <;> simp only [AV.toD]
 | t, .mem _ _ => by cases t <;> simp only [AV.toD]
 | t, .clo _ _ => by cases t <;> simp only [AV.toD]
 | t, .map _ _ _ => by cases t <;> simp only [AV.toD]
 | t, .sub _ _ _ _ _ _ => by cases t <;> simp only [AV.toD]
 | t, .gone => by cases t <;> simp only [AV.toD]
 | t, .undef => by cases t <;> simp only [AV.toD]
theorem toDl_ob (ob ob' : Nat -> Option Ob) : ∀ (ts : List Ty) (l : List AV), AV.toDl ob ts l = AV.toDl ob' ts l
 | [], [] => rfl
 | [], _ :: _ => rfl
 | _ :: _, [] => rfl
 | t :: ts, a :: l => by simp only [AV.toDl, toD_ob ob ob' t a, toDl_ob ob ob' ts l]
end
theorem partsD_ob {s s' : St} (htm : s'.tm = s.tm) (ty : Nat -> Option Ty) : ∀ l : List (Nat × Operand), partsD s'.ob s' ty l = partsD s.ob s ty l
 | [] => rfl
 | (i, x) :: l => by
   have e : s'.opA x = s.opA x := by cases x <;> simp only [St.opA, htm]
   simp only [partsD, e, partsD_ob htm ty l]
   cases ty i with
   | none => rfl
   | some t => simp only [Option.bind_some, toD_ob s'.ob s.ob t]
theorem late_mono {s s' : St} {id : Nat} (htm : s'.tm = s.tm) (hob : ∀ j, j ≠ id -> s'.ob j = s.ob j) (hid : s.ob id = none) {o : Oper} (hk : lateKind o = true) {v : AV} (h : qv E s o some = some v) : qv E s' o some = some v := by
 have op : ∀ x, s'.opA x = s.opA x := fun x => by cases x <;> simp only [St.opA, htm]
 have obm : ∀ {j : Nat} {ob : Ob}, s.ob j = some ob -> s'.ob j = some ob := fun {j ob} hj => by
   by_cases e : j = id
   . subst e; rw [hid] at hj; cases hj
   . rw [hob j e]; exact hj
 obtain ⟨dst, op', ty, pos, after, guard⟩ := o
 cases op' <;> simp only [lateKind] at hk <;> first | (cases hk; done) | skip
 case build T ps =>
   simp only [qv] at h ⊢
   obtain ⟨t, ht, h2⟩ := bind_some_inv h
   rw [ht, Option.bind_some]
   have e2 : ∀ ts, ps.toList.all (fitsAt s' ts) = ps.toList.all (fitsAt s ts) := fun ts => by
     congr 1; funext p; simp only [fitsAt, op]
   have e3 : (ps.toList.map fun p => (p.1, s'.opA p.2)) = ps.toList.map fun p => (p.1, s.opA p.2) := by simp only [op]
   cases t <;> simp only [partsD_ob htm, e2, e3] <;> exact h2
 case load T a =>
   simp only [qv] at h ⊢
   obtain ⟨t, ht, h2⟩ := bind_some_inv h
   rw [ht, Option.bind_some, op]
   cases hs : s.opA a <;> rw [hs] at h2 <;> simp only at h2 ⊢ <;> first | (cases h2; done) | exact h2 | skip
   . split at h2 <;> first | (cases h2; done) | skip
     rename_i hc
     rw [if_pos hc]
     obtain ⟨ob, h3, h4⟩ := bind_some_inv h2
     rw [obm h3]; exact h4
   . split at h2 <;> first | (cases h2; done) | skip
     rename_i hc
     rw [if_pos hc]
     obtain ⟨ob, h3, h4⟩ := bind_some_inv h2
     rw [obm h3]; exact h4
 case fieldAddr T x f =>
   simp only [qv, op] at h ⊢
   exact h
end
section
variable {P : Program} {E : Env} {w0 : Root} {ops : Array Oper}
def lag (n id : Nat) (ob1 : Ob) (listed : Array Bool) (s : St) : St := if listed.getD n false then s.setOb id (some ob1) else s
theorem Sm.setOb (s : St) (id : Nat) (o : Option Ob) : Sm s (s.setOb id o) := ⟨rfl, rfl, rfl, rfl⟩
theorem wpAny_late (hE : EnvOk P E) {n g id T p x : Nat} {u t t' : Ty} {v0 v1 : AV} {ostore : Oper} {L : Array Bool -> St -> Prop} {Q : Exit -> Act -> World -> Prop} {s0 : St} {S0 : Nat -> Nat -> Prop} {γ0 : Nat -> Option Nat} {a0 : Act} {w1 : World}
   (hn : ops[n]? = some ostore) (hop : ostore.op = .store T (.tmp p) (.tmp x)) (hdst : ostore.dst = none) (hgd : ostore.guard = none)
   (hp : ∀ (j : Nat) (oj : Oper), ops[j]? = some oj -> oj.dst ≠ some p) (hx : ∀ (j : Nat) (oj : Oper), ops[j]? = some oj -> oj.dst = some x -> Region.waitsFor .any ops n j = true)
   (hheads : ∀ (j : Nat) (oj : Oper), j < n -> ops[j]? = some oj -> oj.guard = none)
   (hT : E.L T = some t) (htt : t.beq t' = true) (hf1 : AV.fits t v1 = true) (hlk : s0.lkO.contains id = false) (hob0 : s0.ob id = some (.one u v0))
   (hd : ∀ (i j : Nat) (oi oj : Oper), i ≠ j -> ops[i]? = some oi -> ops[j]? = some oj -> ∀ d, oj.dst = some d -> oi.dst ≠ some d)
   (hLs : ∀ listed s, L listed s -> s.tm p = .ptr t' id [] /\ s.tm x = v1 /\ listed.getD n false = true)
   (hL : ∀ listed s S γ β a w, Rp w0 S γ β (s.setOb id (some (.one u v1))) a w -> Fm s0 S0 γ0 a0 w1 S γ a w -> Sm s0 s -> (∀ j oj, ops[j]? = some oj -> listed.getD j true = false -> Fr E (s.setOb id (some (.one u v1))) γ β oj) -> L listed s -> wpAnyIn (FW ro) nn P .any ops Q g listed a w) :
   ∀ (f : Nat) (listed : Array Bool) (s : St) (S : Nat -> Nat -> Prop) (γ : Nat -> Option Nat) (β : Nat -> Option (Nat × Nat)) (a : Act) (w : World), Rp w0 S γ β (lag n id (.one u v1) listed s) a w -> Fm s0 S0 γ0 a0 w1 S γ a w -> Sm s0 s -> s.ob = s0.ob ->
     (listed.getD n false = true -> ∀ j, Region.waitsFor .any ops n j = true -> listed.getD j false = true) ->
     (∀ j oj, ops[j]? = some oj -> listed.getD j true = false -> Fr E (lag n id (.one u v1) listed s) γ β oj) -> hAnyV (lateV E ops n id) .any ops (n + 1) L f listed s -> wpAnyIn (FW ro) nn P .any ops Q (f + g) listed a w
 | 0, listed, s, S, γ, β, a, w, h, hF, hS, hob, hcl, hfr, hh => by
   rw [Nat.zero_add]
   have hh' : L listed s := hh
   have e : lag n id (.one u v1) listed s = s.setOb id (some (.one u v1)) := by unfold lag; rw [if_pos (hLs _ _ hh').2.2]
   rw [e] at h
   exact hL _ _ _ _ _ _ _ h hF hS (fun j oj hj hu => e ▸ hfr j oj hj hu) hh'
 | f + 1, listed, s, S, γ, β, a, w, h, hF, hS, hob, hcl, hfr, hh => by
   rw [show f + 1 + g = (f + g) + 1 by omega]
   refine ⟨fun h0 => absurd h0 hh.1, fun i hi => ?_⟩
   obtain ⟨hin, hst⟩ := hh.2 i hi
   have hun := (mem_ready.1 hi).1
   have unl : ∀ j, (listed.setIfInBounds i true).getD j true = false -> i ≠ j /\ listed.getD j true = false := fun j hu => by
     by_cases hij : i = j
     . subst hij
       exfalso
       rcases Nat.lt_or_ge i listed.size with hlt | hge
       . simp [Array.getD, hlt] at hu
       . simp [Array.getD, Nat.not_lt.2 hge] at hu
     . rw [getD_set_ne true hij] at hu; exact ⟨hij, hu⟩
   by_cases hni : i = n
   . -- the store
     subst hni
     have hlf := getD_both hun
     have hsz : i < listed.size := by
       rcases Nat.lt_or_ge i listed.size with hlt | hge
       . exact hlt
       . simp [Array.getD, Nat.not_lt.2 hge] at hun
     have e0 : lag i id (.one u v1) listed s = s := by unfold lag; rw [hlf]; rfl
     rw [e0] at h
     unfold stepV at hst
     rw [hn] at hst
     simp only at hst
     obtain ⟨v, hv, hst⟩ := hst
     rw [hdst] at hst
     have hst : hAnyV (lateV E ops i id) .any ops (i + 1) L f (listed.setIfInBounds i true) s := hst
     obtain ⟨_, o', ho', hall⟩ := mem_ready.1 hi
     rw [hn] at ho'; cases ho'
     obtain ⟨l', s', m1, m2, m3, m4⟩ := hAnyV_end (T := [p, x]) f _ _ hst (fun t ht j oj hj hu => by
       simp only [List.mem_cons, List.not_mem_nil, or_false] at ht
       rcases ht with rfl | rfl
       . exact hp j oj hj
       . intro hdj
         obtain ⟨ow, how, e, he, hb, hon⟩ := Region.waitsFor_spec (hx j oj hj hdj)
         rw [hn] at how; cases how
         have h1 := hall e he hb
         rw [hon] at h1
         obtain ⟨_, hu'⟩ := unl j hu
         rw [getD_both hu'] at h1; cases h1)
     obtain ⟨z1, z2, z3⟩ := hLs _ _ m1
     rw [m2 p (by simp)] at z1
     rw [m2 x (by simp)] at z2
     have hobs : s.ob id = some (.one u v0) := by rw [hob]; exact hob0
     have hlks : s.lkO.contains id = false := by rw [hS.lkO]; exact hlk
     have hev : ev1 E s ostore some = some (s.setOb id (some (.one u v1))) := by
       unfold ev1
       rw [hop]
       simp only [hT, Option.bind_some, St.opA, z1, z2, htt, hf1, hlks, hobs, Bool.not_false, Bool.and_true, if_true, setA]
     obtain ⟨s1, k1, k2⟩ := ev1_ok hE h (e0 ▸ hfr i ostore hn hun) (fun T t _ ht => hE.flat T t ht) (fun t _ => by rw [hdst]; simp) (fun _ _ _ _ => hdst) hev
     cases k1
     obtain ⟨r1, r2, r3, r4, r5, r6⟩ := k2
     unfold wpOpIn
     rw [hn]
     simp only
     rw [if_pos (by simp [Region.wanted, hgd])]
     refine (wpIn_of_OpOk r6 fun val w' ⟨S', γ', β', m1, m2, m3⟩ => ?_)
     have el : lag i id (.one u v1) (listed.setIfInBounds i true) s = s.setOb id (some (.one u v1)) := by
       unfold lag; rw [if_pos (by simp [hsz])]
     refine wpAny_late hE hn hop hdst hgd hp hx hheads hT htt hf1 hlk hob0 hd hLs hL f _ s S' γ' β' _ _ (by rw [el]; exact m1) (hF.trans m2 hS.lkS hS.lkO) hS hob (fun _ j hw => ?_) (fun j oj hj hu => ?_) hst
     . obtain ⟨ow, how, e, he, hb, hon⟩ := Region.waitsFor_spec hw
       rw [hn] at how; cases how
       have h1 := hall e he hb
       rw [hon] at h1
       exact getD_set_true h1
     . rw [el]
       obtain ⟨_, hu'⟩ := unl j hu
       exact (e0 ▸ hfr j oj hj hu' : Fr E s γ β oj).keep (fun d _ => by rw [hdst]; simp) rfl (fun id' h1 h2 => r5 id' h1 h2) m3
   . -- a head
     have hilt : i < n := by omega
     obtain ⟨_, o, ho, hall⟩ := mem_ready.1 hi
     unfold stepV at hst
     rw [ho] at hst
     simp only at hst
     obtain ⟨v, hv, hst⟩ := hst
     unfold lateV at hv
     rw [if_neg hni] at hv
     unfold lateQ at hv
     rw [ho] at hv
     simp only at hv
     split at hv <;> first | (cases hv; done) | skip
     rename_i hlko
     have hog := hheads i o hilt ho
     have hlkl : lkd (lag n id (.one u v1) listed s) o = lkd s o := by unfold lag; split <;> rfl
     have hval : val E ops (lag n id (.one u v1) listed s) o = some v := by
       unfold val
       rw [hlkl, if_neg hlko, hog]
       simp only
       split at hv
       . rename_i hw
         have : listed.getD n false = false := by
           cases hln : listed.getD n false with
           | false => rfl
           | true =>
             have := hcl hln i hw
             rw [getD_both hun] at this; cases this
         have e : lag n id (.one u v1) listed s = s := by unfold lag; rw [this]; rfl
         rw [e]; exact hv
       . split at hv <;> first | (cases hv; done) | skip
         rename_i hk
         refine late_mono (s := s.setOb id none) (id := id) ?_ (fun j hj => ?_) ?_ hk hv
         . unfold lag; split <;> rfl
         . unfold lag; split <;> simp [St.setOb, hj]
         . simp [St.setOb]
     have el : (lag n id (.one u v1) listed s).put o.dst v = lag n id (.one u v1) (listed.setIfInBounds i true) (s.put o.dst v) := by
       unfold lag
       rw [getD_set_ne false hni]
       split
       . rw [setOb_put]
       . rfl
     obtain ⟨k1, k2⟩ := val_ok hE h (hfr i o ho hun) hval
     have pf := St.put_fields s o.dst v
     have smL : Sm s0 (lag n id (.one u v1) listed s) := by unfold lag; split
                                                            . exact hS.trans (Sm.setOb s id _)
                                                            . exact hS
     have pl := St.put_fields (lag n id (.one u v1) listed s) o.dst v
     have frn : ∀ {γ' : Nat -> Option Nat} {β' : Nat -> Option (Nat × Nat)}, (∀ id' : Nat, o.dst ≠ some (id' - (lag n id (.one u v1) listed s).base) \/ id' < (lag n id (.one u v1) listed s).base -> γ' id' = γ id' /\ β' id' = β id') -> ∀ j oj, ops[j]? = some oj -> (listed.setIfInBounds i true).getD j true = false -> Fr E (lag n id (.one u v1) (listed.setIfInBounds i true) (s.put o.dst v)) γ' β' oj := fun hk j oj hj hu => by
       obtain ⟨hij, hu'⟩ := unl j hu
       rw [<- el]
       exact (hfr j oj hj hu').keep (fun d hdj => hd i j o oj hij ho hj d hdj) pl.2.1 (fun id' _ _ => by rw [pl.1]) hk
     have hcl' : (listed.setIfInBounds i true).getD n false = true -> ∀ j, Region.waitsFor .any ops n j = true -> (listed.setIfInBounds i true).getD j false = true := fun h1 j hw => by
       rw [getD_set_ne false hni] at h1
       exact getD_set_true (hcl h1 j hw)
     unfold wpOpIn
     rw [ho]
     simp only
     split
     . rename_i hw
       refine (wpIn_of_OpOk (k1 hw) fun u' w' ⟨S', γ', β', m1, m2, m3⟩ => ?_)
       exact wpAny_late hE hn hop hdst hgd hp hx hheads hT htt hf1 hlk hob0 hd hLs hL f _ _ S' γ' β' _ _ (el ▸ m1) (hF.trans m2 smL.lkS smL.lkO) (hS.trans (Sm.put s o.dst v)) (pf.1.trans hob) hcl' (frn m3) hst
     . rename_i hw
       obtain ⟨m1, m2⟩ := k2 (by simpa using hw)
       refine ⟨fun _ _ => trivial, ?_⟩
       exact wpAny_late hE hn hop hdst hgd hp hx hheads hT htt hf1 hlk hob0 hd hLs hL f _ _ S γ β _ _ (el ▸ m1) (hF.trans m2 smL.lkS smL.lkO) (hS.trans (Sm.put s o.dst v)) (pf.1.trans hob) hcl' (frn fun id _ => ⟨rfl, rfl⟩) hst
theorem region_late_ok (hE : EnvOk P E) {id : Nat} {n : Nat} {Q : Exit -> Act -> World -> Prop} {S : Nat -> Nat -> Prop} {γ : Nat -> Option Nat} {β : Nat -> Option (Nat × Nat)} {s : St} {a : Act} {w : World} {R : Type} {k : St -> Option R} {r : R} {N : Nat}
   (h : Rp w0 S γ β s a w) (hf : FrL E s γ β ops.toList) (hm : makersOk ops.toList = true) (hlt : lateOk ops n s = true) {an : Ann}
   (hev : evL E ops n (lateId ops n s) n 0 s (fun s2 => evR E N R ops an ((number 0 ops.toList).drop n) s2 k) = some r)
   (hQ : ∀ s' S' γ' β' a' w', Rp w0 S' γ' β' s' a' w' -> Fm s S γ a w S' γ' a' w' -> Sk s s' -> k s' = some r -> Q .normal a' w') : (Code.region id ops true).wpIn (FW ro) nn P Q a w := by
 simp only [makersOk, Bool.and_eq_true] at hm
 obtain ⟨⟨hm1, hm2⟩, hm3⟩ := hm
 have hstores : (ops.toList.all fun o => match o.op with | .store .. => o.dst.isNone | _ => true) = true := hm3
 unfold lateOk at hlt
 split at hlt <;> first | (cases hlt; done) | skip
 rename_i ostore hn
 split at hlt <;> first | (cases hlt; done) | skip
 rename_i T p x hop
 split at hlt <;> first | (cases hlt; done) | skip
 rename_i t0 ido hptr
 have hid : lateId ops n s = ido := by unfold lateId; simp only [hn, hop, hptr]
 rw [hid] at hev
 simp only [Bool.and_eq_true] at hlt
 obtain ⟨⟨⟨⟨⟨⟨l1, l2⟩, l3⟩, l4⟩, l5⟩, l6⟩, l7⟩ := hlt
 have hns : n < ops.size := (Array.getElem?_eq_some_iff.1 hn).1
 have hnm : ostore ∈ ops.toList := Array.mem_toList_iff.2 (Array.mem_of_getElem? hn)
 have hdst : ostore.dst = none := by
   have := List.all_eq_true.1 hm3 ostore hnm
   rw [hop] at this
   simpa using this
 have hp : ∀ (j : Nat) (oj : Oper), ops[j]? = some oj -> oj.dst ≠ some p := fun j oj hj e => by
   have := List.all_eq_true.1 l1 oj (Array.mem_toList_iff.2 (Array.mem_of_getElem? hj))
   rw [e] at this
   simp at this
 have hx : ∀ (j : Nat) (oj : Oper), ops[j]? = some oj -> oj.dst = some x -> Region.waitsFor .any ops n j = true := fun j oj hj e => by
   have hjlt := (Array.getElem?_eq_some_iff.1 hj).1
   have := List.all_eq_true.1 l2 j (List.mem_range.2 hjlt)
   rw [hj, Option.bind_some, e] at this
   simpa using this
 have hheads : ∀ (j : Nat) (oj : Oper), j < n -> ops[j]? = some oj -> oj.guard = none := fun j oj hjn hj => by
   have hm' : oj ∈ ops.toList.take n := by
     refine List.mem_of_getElem? (i := j) ?_
     rw [List.getElem?_take_of_lt hjn, Array.getElem?_toList]; exact hj
   have := List.all_eq_true.1 l3 oj hm'
   simp only [Bool.and_eq_true] at this
   simpa using this.2
 have htails : ∀ o ∈ ops.toList.drop n, o.guard = none := fun o ho => by
   have := List.all_eq_true.1 l4 o ho
   simp only [Bool.and_eq_true] at this
   simpa using this.1
 have hdrop : ops.toList.drop n = ostore :: ops.toList.drop (n + 1) := by
   have h1 : n < ops.toList.length := by simpa using hns
   rw [List.drop_eq_getElem_cons h1]
   have : ops.toList[n] = ostore := by
     have := (Array.getElem?_eq_some_iff.1 hn).2
     simpa using this
   rw [this]
 have hgd : ostore.guard = none := htails ostore (by rw [hdrop]; simp)
 obtain ⟨s', q1, q2⟩ := evL_seq n 0 s (by omega) hev
 have hnum : (number 0 ops.toList).drop n = (n, ostore) :: (number 0 ops.toList).drop (n + 1) := by
   have h1 : n < (number 0 ops.toList).length := by rw [number_length]; simpa using hns
   rw [List.drop_eq_getElem_cons h1]
   have key : ∀ (l : List Oper) (i j : Nat) (o : Oper), l[j]? = some o -> (number i l)[j]? = some (i + j, o) := by
     intro l
     induction l with
     | nil => intro i j o hj; simp at hj
     | cons y l ih =>
       intro i j o hj
       cases j with
       | zero => simp at hj; subst hj; simp [number]
       | succ j => simp only [List.getElem?_cons_succ] at hj; simp only [number, List.getElem?_cons_succ]; rw [ih (i + 1) j o hj]; congr 2; omega
   have := key ops.toList 0 n ostore (by rw [Array.getElem?_toList]; exact hn)
   rw [List.getElem?_eq_getElem h1, Nat.zero_add] at this
   rw [Option.some.inj this]
 rw [hnum] at q2
 obtain ⟨N', hN⟩ : ∃ N', N = N' + 1 := by
   cases N with
   | zero => simp [evR] at q2
   | succ N' => exact ⟨N', rfl⟩
 subst hN
 have hseg : startsSeg n ((number 0 ops.toList).drop (n + 1)) = false := by
   unfold startsSeg
   split
   . rename_i p' l' hl
     have hmem : p'.2 ∈ ops.toList.drop n := by
       have h1 : p' ∈ (number 0 ops.toList).drop n := by rw [hnum, hl]; simp
       have : p'.2 ∈ ((number 0 ops.toList).drop n).map Prod.snd := List.mem_map_of_mem h1
       rwa [List.map_drop, number_map] at this
     unfold isGuardOf
     rw [htails _ hmem]
   . rfl
 have hinl : isInl E ostore = false := by unfold isInl; rw [hop]
 simp only [evR, hgd, hseg, hinl, Bool.false_eq_true, if_false] at q2
 unfold ev1L at q2
 have hlkn : lkd s' ostore = false := by unfold lkd; rw [hdst]
 rw [if_neg (by rw [hlkn]; simp)] at q2
 unfold ev1 at q2
 rw [hop] at q2
 simp only at q2
 have keep : ∀ (c kk : Nat) (s s' : St), seqI (lateV E ops n ido) ops c kk s = some s' -> s'.tm p = s.tm p /\ s'.ob = s.ob /\ Sm s s' := by
   intro c
   induction c with
   | zero => intro kk s s' hs; simp only [seqI, Option.some.injEq] at hs; subst hs; exact ⟨rfl, rfl, Sm.refl s⟩
   | succ c ih =>
     intro kk s s' hs
     simp only [seqI] at hs
     obtain ⟨v, h1, h2⟩ := bind_some_inv hs
     obtain ⟨m1, m2, m3⟩ := ih _ _ _ h2
     have pf := St.put_fields s ((ops[kk]?).bind (·.dst)) v
     refine ⟨m1.trans (put_tm ?_), m2.trans pf.1, (Sm.put s _ v).trans m3⟩
     cases hk : ops[kk]? with
     | none => simp
     | some o => exact hp kk o hk
 obtain ⟨c1, c2, c3⟩ := keep n 0 s s' q1
 obtain ⟨t, hT, q3⟩ := bind_some_inv q2
 rw [show s'.opA (.tmp p) = .ptr t0 ido [] from c1.trans hptr] at q3
 simp only at q3
 split at q3 <;> first | (cases q3; done) | skip
 rename_i hcond
 simp only [Bool.and_eq_true, Bool.not_eq_true'] at hcond
 obtain ⟨⟨d1, d2⟩, d3⟩ := hcond
 split at q3 <;> first | (cases q3; done) | skip
 . rename_i u v0 hobs
   obtain ⟨v1, hv1⟩ : ∃ v1, s'.opA (.tmp x) = v1 := ⟨_, rfl⟩
   rw [hv1] at q3 d2
   have q4 : evR E N' R ops an ((number 0 ops.toList).drop (n + 1)) (s'.setOb ido (some (.one u v1))) k = some r := by
     cases v0 <;> simpa only [setA] using q3
   clear q3 q2
   have hW : Waits .any ops (n + 1) := by
     intro listed i inv hin hun t ht hr
     simp only [Bool.or_eq_true, decide_eq_true_eq, Bool.and_eq_true] at l7
     rcases l7 with l7 | ⟨⟨l7, l8⟩, l9⟩
     . obtain ⟨_, o, ho, _⟩ := mem_ready.1 hr
       have := (Array.getElem?_eq_some_iff.1 ho).1
       omega
     . exact tail_waits l8 l9 l7 inv _ i rfl hin hun t ht hr
   refine wpIn_region_any hE.mixed ?_
   have hg : ∃ os d, w.drawn <= d /\ ({ w with drawn := w.drawn + 1 } : World) = grown w os d := ⟨[], w.drawn + 1, Nat.le_succ _, by simp [grown]⟩
   obtain ⟨os, d, hdr, hg⟩ := hg
   obtain ⟨g1, g2⟩ := h.grow (os := os) (d := d) hdr (S' := S) (fun _ _ hb => hb) (fun _ _ hb => .inl hb)
   rw [hg]
   have inv0 : HeadInv .any ops (n + 1) (Array.replicate ops.size false) :=
     ⟨by simp, fun j oj _ hl => (by rw [getD_replicate_false] at hl; cases hl), fun t _ ht => getD_in (by simpa using ht) (getD_replicate_false _ _)⟩
   have hseq : seqI (lateV E ops n ido) ops (n + 1) 0 s = some s' := by
     rw [seqI_add n 1 0, q1, Option.bind_some]
     simp only [seqI, lateV, Nat.zero_add, if_true, Option.bind_some, hn, hdst]
     rfl
   have H := hAnyV_lex (sF := s') (lateV_ok (E := E) (ops := ops) n ido) (by omega) hW (n + 1) 0 (Array.replicate ops.size false) s (by omega) inv0 (fun i hi => by omega) l6 hseq
   have e0 : lag n ido (.one u v1) (Array.replicate ops.size false) s = s := by unfold lag; rw [getD_replicate_false]; rfl
   have hdl : (ops.toList.drop (n + 1)).length = ops.size - (n + 1) := by simp
   have hsub0 : ∀ j oj, ops[j]? = some oj -> (Array.replicate ops.size false).getD j true = false -> Fr E (lag n ido (.one u v1) (Array.replicate ops.size false) s) γ β oj := fun j oj hj _ => by
     rw [e0]; exact hf oj (Array.mem_toList_iff.2 (Array.mem_of_getElem? hj))
   have := wpAny_late (ro := ro) (nn := nn) (w0 := w0) (Q := Q) (g := ops.size - (n + 1)) (s0 := s) (S0 := S) (γ0 := γ) (a0 := a) (w1 := grown w os d) hE hn hop hdst hgd hp hx hheads hT d1 d2 (by rw [<- c3.lkO]; exact d3) (by rw [<- c2]; exact hobs) (fun i j oi oj hij hi hj d hd => dsts_apart' hm1 hij (by rw [Array.getElem?_toList]; exact hi) (by rw [Array.getElem?_toList]; exact hj) d hd)
     (fun listed s2 hL => by
       obtain ⟨_, hl, rfl⟩ := hL
       exact ⟨c1.trans hptr, hv1, hl n (by omega)⟩)
     (fun listed s2 S2 γ2 β2 a2 w2 m1 m2 m3 m4 m5 => by
       obtain ⟨m5, m6, m7⟩ := m5
       subst m7
       have hseq := wpAnyIn_of_seq (F := FW ro) (n := nn) (P := P) (md := .any) (ops := ops) (Q' := Q) (ops.toList.drop (n + 1)) (n + 1) listed a2 w2 (fun j => by rw [List.getElem?_drop, Array.getElem?_toList]) (by rw [hdl]; exact m5) ?_
       . rwa [hdl] at hseq
       have hunl : ∀ j oj, ops[j]? = some oj -> n + 1 <= j -> listed.getD j true = false := by
         intro j oj hj hnj
         have key : ∀ (g k : Nat) (listed : Array Bool), Region.seqB .any ops g k listed = true -> ∀ j, k <= j -> j < k + g -> listed.getD j true = false := by
           intro g
           induction g with
           | zero => intro k listed _ j h1 h2; omega
           | succ g ih =>
             intro k listed hB j h1 h2
             simp only [Region.seqB, Bool.and_eq_true, decide_eq_true_eq] at hB
             by_cases hjk : j = k
             . subst hjk
               have : j ∈ Region.ready .any ops listed := by rw [hB.1]; simp
               exact (mem_ready.1 this).1
             . have := ih (k + 1) _ hB.2 j (by omega) (by omega)
               rwa [getD_set_ne true (Ne.symm hjk)] at this
         have hjlt := (Array.getElem?_eq_some_iff.1 hj).1
         exact key _ _ _ m5 j hnj (by omega)
       have fin := evR_ok (ro := ro) (nn := nn) (ops := ops) hE (Q := Q) hstores N' R ((number 0 ops.toList).drop (n + 1)) k r an m1 (by
           rw [List.map_drop, number_map]
           intro o ho
           obtain ⟨i, hi, he⟩ := List.getElem_of_mem ho
           have hi2 : ops[n + 1 + i]? = some o := by
             have : (ops.toList.drop (n + 1))[i]? = some o := by rw [List.getElem?_eq_getElem hi, he]
             rwa [List.getElem?_drop, Array.getElem?_toList] at this
           exact m4 (n + 1 + i) o hi2 (hunl _ _ hi2 (by omega)))
         (by
           rw [List.map_drop, number_map]
           intro A B o o' e ho d hd
           exact dsts_apart hm1 (ops.toList.take (n + 1) ++ A) B o o' (by rw [List.append_assoc, <- e, List.take_append_drop]) ho d hd)
         (fun p hp => number_mem (List.mem_of_mem_drop hp)) q4 (fun s3 S3 γ3 β3 a3 w3 n1 n2 n3 n4 => by
           refine hQ s3 S3 γ3 β3 a3 w3 n1 ?_ (Sk.trans (m3.trans (Sm.setOb _ ido (some (.one u v1)))).sk n3) n4
           have f0 : Fm s S γ a w S γ a (grown w os d) := ⟨fun _ _ hb => hb, g2.cell, fun _ _ => rfl, fun id hid b hb => ⟨hb, grown_old (h.γn id b hb).2⟩, by simp, fun _ _ hb => hb⟩
           exact (f0.trans m2 rfl rfl).trans n2 (show _ = _ from m3.lkS) (show _ = _ from m3.lkO))
       rwa [List.map_drop, number_map] at fin)
     (n + 1) (Array.replicate ops.size false) s S γ β a (grown w os d) (by rw [e0]; exact g1) (Fm.refl _ _ _ _ _) (Sm.refl s) rfl (fun hl => by rw [getD_replicate_false] at hl; cases hl) hsub0 H
   rw [show n + 1 + (ops.size - (n + 1)) = ops.size by omega] at this
   exact this
end
end Go.Proofs.YtjjjkojfijpeeaaGreat.Sy
end
section
namespace Go.Proofs.YtjjjkojfijpeeaaGreat.Sy
open Go
variable {ro : Option Nat} {nn : Nat}
section
variable {P : Program} {E : Env} {w0 : Root}
def Kp (Q : Exit -> Act -> World -> Prop) (w0 : Root) (s : St) (S : Nat -> Nat -> Prop) (γ : Nat -> Option Nat) (a : Act) (w : World) {R : Type} (k : Ex -> St -> Option R) (r : R) : Prop :=
 ∀ e s' S' γ' β' a' w', Rp w0 S' γ' β' s' a' w' -> Fm s S γ a w S' γ' a' w' -> Sk s s' -> k e s' = some r -> Q (exOf e) a' w'
theorem ev_region {id : Nat} {ops : Array Oper} {dr : Bool} {ann : Ann} {R : Type} {s s1 : St} (hs1 : s1 = { freeze s ann.fz with fresh := s.fresh + 1 }) {k : Ex -> St -> Option R} {r : R} (h : ev E (.region id ops dr) ann R s k = some r) :
   makersOk ops.toList = true /\ (((!dr || drawOk E ops (ann.heads ops.size)) = true /\ evR E (ops.size + 1) R ops ann.inner (number 0 ops.toList) (prep E ops.toList s1) (fun s' => k .normal s') = some r) ∨
     (dr = true /\ lateOk ops (ann.heads ops.size) (prep E ops.toList s1) = true /\ evL E ops (ann.heads ops.size) (lateId ops (ann.heads ops.size) (prep E ops.toList s1)) (ann.heads ops.size) 0 (prep E ops.toList s1) (fun s2 => evR E (ops.size + 1) R ops ann.inner ((number 0 ops.toList).drop (ann.heads ops.size)) s2 (fun s' => k .normal s')) = some r)) := by
 have key : (if makersOk ops.toList && (!dr || drawOk E ops (ann.heads ops.size)) then evR E (ops.size + 1) R ops ann.inner (number 0 ops.toList) (prep E ops.toList s1) (fun s' => k .normal s')
   else if makersOk ops.toList && lateOk ops (ann.heads ops.size) (prep E ops.toList s1) then evL E ops (ann.heads ops.size) (lateId ops (ann.heads ops.size) (prep E ops.toList s1)) (ann.heads ops.size) 0 (prep E ops.toList s1) (fun s2 => evR E (ops.size + 1) R ops ann.inner ((number 0 ops.toList).drop (ann.heads ops.size)) s2 (fun s' => k .normal s'))
   else none) = some r := by
   subst hs1
   cases ann <;> exact h
 split at key
 . rename_i hc
   simp only [Bool.and_eq_true] at hc
   exact ⟨hc.1, .inl ⟨hc.2, key⟩⟩
 . rename_i hn
   split at key <;> first | (cases key; done) | skip
   rename_i hc
   simp only [Bool.and_eq_true] at hc
   refine ⟨hc.1, .inr ⟨?_, hc.2, key⟩⟩
   cases dr
   . exfalso; exact hn (by simp [hc.1])
   . rfl
theorem region_ev (hE : EnvOk P E) {Q : Exit -> Act -> World -> Prop} {id : Nat} {ops : Array Oper} {dr : Bool} {ann : Ann} {R : Type} {S : Nat -> Nat -> Prop} {γ : Nat -> Option Nat} {β : Nat -> Option (Nat × Nat)} {s : St} {a : Act} {w : World} {k : Ex -> St -> Option R} {r : R}
   (h : Rp w0 S γ β s a w) (hev : ev E (.region id ops dr) ann R s k = some r) (hQ : Kp Q w0 s S γ a w k r) : (Code.region id ops dr).wpIn (FW ro) nn P Q a w := by
 obtain ⟨S1, f1, f2, f3⟩ := freeze_ok ann.fz h
 obtain ⟨s1, hs1⟩ : ∃ s1, s1 = { freeze s ann.fz with fresh := s.fresh + 1 } := ⟨_, rfl⟩
 obtain ⟨h1, h23⟩ := ev_region hs1 hev
 have hb1 : s1.base = s.base + 4096 := by rw [hs1]; simp only [St.base]; omega
 have hfb : (freeze s ann.fz).base = s.base := f3.base_eq
 have r1 : Rp w0 S1 γ β s1 a w := by
   rw [hs1]
   have q1 : ∀ id, ({ freeze s ann.fz with fresh := s.fresh + 1 } : St).base + 4096 <= id -> s.base + 4096 <= id := fun id hid => by
     have e : ({ freeze s ann.fz with fresh := s.fresh + 1 } : St).base = s.base + 4096 := by simp only [St.base]; omega
     rw [e] at hid
     exact Nat.le_trans (Nat.le_add_right _ _) hid
   exact ⟨f1.ext, f1.tms, f1.nt, f1.tmu, f1.obs, f1.γn, f1.γi, fun id hid => h.γf id (q1 id hid), f1.βn, f1.βi, f1.βγ, fun v hv => h.βf v (q1 v hv), f1.Sb, f1.So, f1.df⟩
 have hle1 : ∀ d, s.base + 4096 <= s1.base + d := fun d => by have := Nat.le_add_right s1.base d; rw [hb1] at this ⊢; exact this
 have hg : ∀ d, γ (s1.base + d) = none := fun d => h.γf (s1.base + d) (hle1 d)
 have hgb : ∀ d, β (s1.base + d) = none := fun d => h.βf (s1.base + d) (hle1 d)
 obtain ⟨r2, m2⟩ := prep_ok (E := E) ops.toList r1 hg
 have hmk := h1
 simp only [makersOk, Bool.and_eq_true, List.all_eq_true] at hmk
 obtain ⟨⟨hm1, hm2⟩, _⟩ := hmk
 have hfr : FrL E (prep E ops.toList s1) γ β ops.toList := by
   intro o ho hc d hd
   rw [m2.base_eq]
   have hd4 := hm2 o ho
   rw [hd] at hd4
   simp only [decide_eq_true_eq] at hd4
   exact ⟨hd4, hg d, hgb d, fun T t e1 e2 => prep_at ops.toList hm1 ho e1 hd e2⟩
 have hsk : Sk s (prep E ops.toList s1) := by
   refine ⟨m2.lkS.trans ?_, m2.lkO.trans ?_, m2.nt.trans ?_⟩ <;> rw [hs1]
   . exact f3.lkS
   . exact f3.lkO
   . exact f3.nt
 rcases h23 with ⟨h2, h3⟩ | ⟨hdr, h2, h3⟩
 rotate_left
 . subst hdr
   exact region_late_ok hE r2 hfr h1 h2 h3 fun s' S' γ' β' a' w' n1 n2 n3 n4 => hQ .normal s' S' γ' β' a' w' n1 (f2.tr n2 hsk) (hsk.trans n3) n4
 refine region_ok hE r2 hfr h1 h2 h3 fun s' S' γ' β' a' w' n1 n2 n3 n4 => ?_
 exact hQ .normal s' S' γ' β' a' w' n1 (f2.tr n2 hsk) (hsk.trans n3) n4
theorem truth_wp {S : Nat -> Nat -> Prop} {γ : Nat -> Option Nat} {β : Nat -> Option (Nat × Nat)} {s : St} {a : Act} {w : World} (h : Rp w0 S γ β s a w) {c : Operand} {t : Bool} (ht : (s.opA c).truth = some t) : a.eval c = .bool t :=
 (truthA_inv ht (opA_ok h c)).1
def loopBody (E : Env) (c : Code) (h : Shape) (exits : List (Ex × Shape)) (a : Ann) (s : St) (v : List D) : Option (Sum (List D) (Nat × List D)) :=
 ev E c a (Sum (List D) (Nat × List D)) (h.mk' s v (h.keepS ++ s.lkS) (keepIds h.objs ++ s.lkO)) fun e s' => match e with
       | .normal => (h.dec s s').bind fun v' => some (.inl v')
       | e => (toEx s exits e s').bind fun r => some (.inr r)
theorem ev_ok (hE : EnvOk P E) : ∀ (c : Code) (ann : Ann) (R : Type) {Q : Exit -> Act -> World -> Prop} {S : Nat -> Nat -> Prop} {γ : Nat -> Option Nat} {β : Nat -> Option (Nat × Nat)} {s : St} {a : Act} {w : World} (k : Ex -> St -> Option R) (r : R),
   Rp w0 S γ β s a w -> ev E c ann R s k = some r -> Kp Q w0 s S γ a w k r -> c.wpIn (FW ro) nn P Q a w
 | .skip, ann, R, Q, S, γ, β, s, a, w, k, r, h, hev, hQ => by
   simp only [ev] at hev
   exact wpIn_skip (hQ .normal s S γ β a w h (Fm.refl _ _ _ _ _) (Sk.refl s) hev)
 | .label l, ann, R, Q, S, γ, β, s, a, w, k, r, h, hev, hQ => by
   simp only [ev] at hev
   exact wpIn_label (hQ .normal s S γ β a w h (Fm.refl _ _ _ _ _) (Sk.refl s) hev)
 | .exit id, ann, R, Q, S, γ, β, s, a, w, k, r, h, hev, hQ => by
   simp only [ev] at hev
   exact wpIn_exit (hQ (.exit id) s S γ β a w h (Fm.refl _ _ _ _ _) (Sk.refl s) hev)
 | .ret, ann, R, Q, S, γ, β, s, a, w, k, r, h, hev, hQ => by
   simp only [ev] at hev
   exact wpIn_ret (hQ .ret s S γ β a w h (Fm.refl _ _ _ _ _) (Sk.refl s) hev)
 | .region id ops dr, ann, R, Q, S, γ, β, s, a, w, k, r, h, hev, hQ => region_ev hE h hev hQ
 | .cond c x y, ann, R, Q, S, γ, β, s, a, w, k, r, h, hev, hQ => by
   simp only [ev] at hev
   obtain ⟨t, ht, hev⟩ := bind_some_inv hev
   refine wpIn_cond (truth_wp h ht) ?_
   cases t
   . exact ev_ok hE y _ R k r h (by simpa using hev) hQ
   . exact ev_ok hE x _ R k r h (by simpa using hev) hQ
 | .block id c, ann, R, Q, S, γ, β, s, a, w, k, r, h, hev, hQ => by
   simp only [ev] at hev
   refine wpIn_block (ev_ok hE c _ R _ r h hev fun e s' S' γ' β' a' w' n1 n2 n3 n4 => ?_)
   cases e with
   | normal => exact hQ .normal s' S' γ' β' a' w' n1 n2 n3 n4
   | ret => exact hQ .ret s' S' γ' β' a' w' n1 n2 n3 n4
   | exit j =>
     simp only [exOf, Exit.inBlock]
     simp only at n4
     split at n4
     . rename_i hj; rw [if_pos hj]; exact hQ .normal s' S' γ' β' a' w' n1 n2 n3 n4
     . rename_i hj; rw [if_neg hj]; exact hQ (.exit j) s' S' γ' β' a' w' n1 n2 n3 n4
 | .seq c d, ann, R, Q, S, γ, β, s, a, w, k, r, h, hev, hQ => by
   have plain : (ev E c ann.fst R s fun e s' => match e with | .normal => ev E d ann.snd R s' k | e => k e s') = some r -> (Code.seq c d).wpIn (FW ro) nn P Q a w := fun hev => by
     refine wpIn_seq (ev_ok hE c _ R _ r h hev fun e s' S' γ' β' a' w' n1 n2 n3 n4 => ?_)
     cases e with
     | normal =>
       exact ev_ok hE d _ R k r n1 n4 fun e2 s2 S2 γ2 β2 a2 w2 m1 m2 m3 m4 => hQ e2 s2 S2 γ2 β2 a2 w2 m1 (n2.tr m2 n3) (n3.trans m3) m4
     | ret => exact hQ .ret s' S' γ' β' a' w' n1 n2 n3 n4
     | exit j => exact hQ (.exit j) s' S' γ' β' a' w' n1 n2 n3 n4
   cases ann with
   | leaf => simp only [ev] at hev; exact plain hev
   | reg fz n => simp only [ev] at hev; exact plain hev
   | regI fz n x => simp only [ev] at hev; exact plain hev
   | two x y => simp only [ev] at hev; exact plain hev
   | loop x y z => simp only [ev] at hev; exact plain hev
   | cut exits kS kO x y =>
     clear plain
     simp only [ev] at hev
     obtain ⟨⟨j, v⟩, h1, h2⟩ := bind_some_inv hev
     refine wpIn_seq (ev_ok hE c x _ _ (j, v) (h.lk (kS ++ s.lkS) (kO ++ s.lkO)) h1 fun e s' S' γ' β' a' w' n1 n2 n3 n4 => ?_)
     obtain ⟨sh, q1, q2⟩ := toEx_spec n4
     simp only at q1 q2
     obtain ⟨c1, c2, c3⟩ := contEx_spec (Nat.zero_le j) (by simpa using q1) h2
     obtain ⟨γ'', β'', p1, p2⟩ := shape_ok h n1 n2.sub n2.cell n3.nt (h := sh) (fun t ht => n2.slots t (List.mem_append_left _ (subset_spec c2 t ht))) (fun id hid => n2.objs id (List.mem_append_left _ (subset_spec c3 id hid))) q2 s.lkS s.lkO
     have F : Fm s S γ a w S' γ'' a' w' := (n2.less (s2 := s) (fun t ht => List.mem_append_right _ ht) (fun t ht => List.mem_append_right _ ht)).shape h p2
     cases e with
     | normal =>
       exact ev_ok hE d y R k r p1 c1 fun e2 s2 S2 γ2 β2 a2 w2 m1 m2 m3 m4 => hQ e2 s2 S2 γ2 β2 a2 w2 m1 (F.tr m2 ⟨rfl, rfl, rfl⟩) (Sk.trans (b := sh.mk' s v s.lkS s.lkO) ⟨rfl, rfl, rfl⟩ m3) m4
     | ret => exact hQ .ret _ S' γ'' β'' a' w' p1 F ⟨rfl, rfl, rfl⟩ c1
     | exit i => exact hQ (.exit i) _ S' γ'' β'' a' w' p1 F ⟨rfl, rfl, rfl⟩ c1
 | .loop c, ann, R, Q, S, γ, β, s, a, w, k, r, h, hev, hQ => by
   cases ann with
   | loop sh exits x =>
     have hev' : (sh.dec s s).bind (fun v0 => (E.lp (loopBody E c sh exits x s) v0).bind fun r => contEx s k sh.keepS (keepIds sh.objs) exits 0 r) = some r := hev
     obtain ⟨v0, h1, hev'⟩ := bind_some_inv hev'
     obtain ⟨⟨j, vj⟩, h2, h3⟩ := bind_some_inv hev'
     obtain ⟨n, hn⟩ := hE.lp _ _ _ _ _ h2
     obtain ⟨sL, hsL⟩ : ∃ sL : St, sL = { s with lkS := sh.keepS ++ s.lkS, lkO := keepIds sh.objs ++ s.lkO } := ⟨_, rfl⟩
     obtain ⟨γ0, β0, p1, p2⟩ := shape_ok h h (fun _ _ hb => hb) (fun _ _ _ => rfl) rfl (h := sh) (fun _ _ => rfl) (fun _ _ _ hb => ⟨hb, rfl⟩) h1 (sh.keepS ++ s.lkS) (keepIds sh.objs ++ s.lkO)
     have F0 : Fm sL S γ a w S γ0 a w := (Fm.refl sL S γ a w).shape h p2
     refine wp_loop_n (fun n a1 w1 => ∃ v S1 γ1 β1, Rp w0 S1 γ1 β1 (sh.mk' s v (sh.keepS ++ s.lkS) (keepIds sh.objs ++ s.lkO)) a1 w1 /\ Fm sL S γ a w S1 γ1 a1 w1 /\ iter (loopBody E c sh exits x s) n v = some (j, vj)) (m := n) ⟨v0, S, γ0, β0, p1, F0, hn⟩ ?_
     rintro n a1 w1 ⟨v, S1, γ1, β1, g1, g2, g3⟩
     cases n with
     | zero => simp [iter_zero] at g3
     | succ m =>
       simp only [iter_succ] at g3
       cases hb : loopBody E c sh exits x s v with
       | none => rw [hb] at g3; cases g3
       | some res =>
         rw [hb] at g3
         refine ev_ok hE c x _ _ res g1 hb fun e s' S' γ' β' a' w' n1 n2 n3 n4 => ?_
         have F : Fm sL S γ a w S' γ' a' w' := g2.tr n2 (by rw [hsL]; exact ⟨rfl, rfl, rfl⟩)
         have hnt : s'.nt = s.nt := n3.nt
         have sl : ∀ t ∈ sh.keepS, a'.tmps.getD t undef = a.tmps.getD t undef := fun t ht => F.slots t (by rw [hsL]; exact List.mem_append_left _ ht)
         have ob : ∀ id ∈ keepIds sh.objs, ∀ b, γ id = some b -> γ' id = some b /\ w'.heap[b]? = w.heap[b]? := fun id hid => F.objs id (by rw [hsL]; exact List.mem_append_left _ hid)
         have fin : ∀ e, toEx s exits e s' = some (j, vj) -> Q (exOf e) a' w' := fun e he => by
           obtain ⟨sh2, q1, q2⟩ := toEx_spec he
           simp only at q1 q2
           obtain ⟨c1, c2, c3⟩ := contEx_spec (Nat.zero_le j) (by simpa using q1) h3
           obtain ⟨γ'', β'', o1, o2⟩ := shape_ok h n1 F.sub F.cell hnt (h := sh2) (fun t ht => sl t (subset_spec c2 t ht)) (fun id hid => ob id (subset_spec c3 id hid)) q2 s.lkS s.lkO
           exact hQ e _ S' γ'' β'' a' w' o1 ((F.less (s2 := s) (fun t ht => by rw [hsL]; exact List.mem_append_right _ ht) (fun t ht => by rw [hsL]; exact List.mem_append_right _ ht)).shape h o2) ⟨rfl, rfl, rfl⟩ c1
         cases e with
         | normal =>
           simp only at n4
           obtain ⟨v', q1, q2⟩ := bind_some_inv n4
           simp only [Option.some.injEq] at q2
           subst q2
           obtain ⟨γ'', β'', o1, o2⟩ := shape_ok h n1 F.sub F.cell hnt (h := sh) sl ob q1 (sh.keepS ++ s.lkS) (keepIds sh.objs ++ s.lkO)
           exact ⟨m, Nat.lt_succ_self m, v', S', γ'', β'', o1, F.shape h o2, g3⟩
         | ret =>
           simp only at n4
           obtain ⟨v', q1, q2⟩ := bind_some_inv n4
           simp only [Option.some.injEq] at q2
           subst q2
           simp only [Option.some.injEq] at g3
           subst g3
           exact fin .ret q1
         | exit i =>
           simp only at n4
           obtain ⟨v', q1, q2⟩ := bind_some_inv n4
           simp only [Option.some.injEq] at q2
           subst q2
           simp only [Option.some.injEq] at g3
           subst g3
           exact fin (.exit i) q1
   | leaf => simp [ev] at hev
   | reg fz n => simp [ev] at hev
   | regI fz n x => simp [ev] at hev
   | two x y => simp [ev] at hev
   | cut exits kS kO x y => simp [ev] at hev
 | .goto l, ann, R, Q, S, γ, β, s, a, w, k, r, h, hev, hQ => by
   have : (none : Option R) = some r := by cases ann <;> exact hev
   cases this
 | .scope c, ann, R, Q, S, γ, β, s, a, w, k, r, h, hev, hQ => by
   simp only [ev] at hev
   refine wpIn_scope_straight (ev_ok hE c _ R k r h hev fun e s' S' γ' β' a' w' n1 n2 n3 n4 => ?_)
   cases e <;> exact hQ _ s' S' γ' β' a' w' n1 n2 n3 n4
 | .rangeFunc f ps x y, ann, R, Q, S, γ, β, s, a, w, k, r, h, hev, hQ => by
   have : (none : Option R) = some r := by cases ann <;> exact hev
   cases this
end
end Go.Proofs.YtjjjkojfijpeeaaGreat.Sy
end
section
namespace Go.Proofs.YtjjjkojfijpeeaaGreat.Sy
open Go
variable {ro : Option Nat} {nn : Nat}
section
variable {P : Program} {E : Env} {w0 : Root} {S : Nat -> Nat -> Prop} {γ : Nat -> Option Nat} {β : Nat -> Option (Nat × Nat)} {s : St} {a : Act} {w : World}
def resF (tmps : Array Value) : ResultVar -> Sem Value
 | .tmp t => pure (tmps.getD t undef)
 | .cell a t => do loadVar t (<- asAddr (tmps.getD a undef))
theorem results_eq (fn : Func) (tmps : Array Value) : Go.results fn tmps = (do
   let vs <- fn.results.mapM (resF tmps)
   pure (if h : vs.size = 1 then vs[0] else .tuple vs)) := by
 unfold Go.results
 congr 1
theorem fits_agg {t t' : Ty} {a : AV} (h : AV.fits t a = true) (h' : AV.fits t' a = true) : aggTy t = aggTy t' := by
 cases a
 case d u x => rw [fits_d h, fits_d h']
 all_goals (cases t <;> cases t' <;> simp_all [AV.fits, aggTy])
theorem resD_ok (hE : EnvOk P E) (h : Rp w0 S γ β s a w) {R : Type} {t : Ty} (hn : noTup t = true) {k : D -> Option R} {r : ResultVar} {y : R} (hq : resD E s t k r = some y) :
   ∃ x v, k x = some y /\ (resF a.tmps r).run P w = .ok v w /\ wt t x /\ DR0 w S x v := by
 cases r with
 | tmp i =>
   simp only [resD] at hq
   obtain ⟨x, h1, h2⟩ := bind_some_inv hq
   have hi : i < a.tmps.size := by
     rcases Nat.lt_or_ge i a.tmps.size with hlt | hge
     . exact hlt
     . rw [h.tmu i (by rw [<- h.nt]; exact hge)] at h1
       simp [AV.toD] at h1
   obtain ⟨k1, k2⟩ := AR_toD hn (h.tms i hi) h1
   exact ⟨x, a.tmps.getD i undef, h2, rfl, k1, k2⟩
 | cell i T =>
   simp only [resD] at hq
   obtain ⟨u, hu, hq⟩ := bind_some_inv hq
   split at hq <;> first | (cases hq; done) | skip
   rename_i t' id p htm
   split at hq <;> first | (cases hq; done) | skip
   rename_i hb
   have := Ty.eq_of_beq _ _ hb
   subst this
   obtain ⟨o, ho, hq⟩ := bind_some_inv hq
   have hi : i < a.tmps.size := by
     rcases Nat.lt_or_ge i a.tmps.size with hlt | hge
     . exact hlt
     . have := h.tmu i (by rw [<- h.nt]; exact hge)
       rw [htm] at this; cases this
   have hx := h.tms i hi
   rw [htm] at hx
   obtain ⟨b, off, hv, hγ, hob⟩ := AR_ptr hx
   obtain ⟨k1, rfl⟩ := hob o ho
   obtain ⟨a', cs, m1, m2, m3, m4, m5⟩ := readOb_ok (h.obs id o b ho hγ) k1 hq
   obtain ⟨m6, m7⟩ := AC_len _ _ _ m3 m2
   obtain ⟨v, hrun, hval⟩ := run_load_ok (layB_of hE hu m4) (w := w) (b := b) (off := obOff o p) m6 m7 m5
   obtain ⟨x, h1, h2⟩ := bind_some_inv m1
   obtain ⟨q1, q2, q3⟩ := toD_ok _ _ _ _ h1 m2
   have hag := fits_agg (toD_fits _ _ _ h1) m3
   refine ⟨x, v, h2, ?_, q1, q3 v ⟨hval.1, by rw [hag]; exact hval.2.1, by rw [hag]; exact hval.2.2⟩ hn⟩
   rw [<- hrun]
   simp only [resF, Instr.loadAt, Instr.sureAddr, pure_bind]
   rw [show a.tmps.getD i undef = .pointer (some ⟨b, obOff o p, none⟩) from hv]
   rfl
theorem resDs_ok (hE : EnvOk P E) (h : Rp w0 S γ β s a w) {R : Type} : ∀ (ts : List Ty) (rs : List ResultVar) (k : List D -> Option R) (y : R), noTups ts = true -> resDs E s ts rs k = some y ->
   ∃ xs vs, k xs = some y /\ (rs.mapM (resF a.tmps)).run P w = .ok vs w /\ wts ts xs /\ vs.length = rs.length /\ xs.length = vs.length /\ ∀ (i : Nat) (d : D) (u : Value), xs[i]? = some d -> vs[i]? = some u -> DR0 w S d u
 | [], [], k, y, _, hq => by
   simp only [resDs] at hq
   exact ⟨[], [], hq, rfl, rfl, rfl, rfl, fun i d u h => by simp at h⟩
 | [], _ :: _, k, y, _, hq => by simp [resDs] at hq
 | _ :: _, [], k, y, _, hq => by simp [resDs] at hq
 | t :: ts, r :: rs, k, y, hn, hq => by
   simp only [resDs] at hq
   simp only [noTups, Bool.and_eq_true] at hn
   obtain ⟨x, v, h1, h2, h3, h4⟩ := resD_ok hE h hn.1 hq
   obtain ⟨xs, vs, k1, k2, k3, k4, k5, k6⟩ := resDs_ok hE h ts rs _ y hn.2 h1
   refine ⟨x :: xs, v :: vs, k1, ?_, ⟨x, xs, rfl, h3, k3⟩, by simp [k4], by simp [k5], fun i d u hd hu => ?_⟩
   . simp only [List.mapM_cons, Sem.run_bind, h2, Result.andThen_ok, k2, Sem.run_pure]
   . cases i with
     | zero => simp at hd hu; subst hd; subst hu; exact h4
     | succ i => simp at hd hu; exact k6 i d u hd hu
def rtyOk (n : Nat) (rty : Ty) : Bool := if n = 1 then noTup rty else match rty with | .tup ts => noTups ts | _ => false
theorem results_ok (hE : EnvOk P E) (h : Rp w0 S γ β s a w) {fn : Func} {rty : Ty} {y : D} (hr : rtyOk fn.results.size rty = true) (hq : results E s rty fn.results.toList = some y) :
   ∃ v, (Go.results fn a.tmps).run P w = .ok v w /\ wt rty y /\ DR w S y v := by
 rw [results_eq]
 have hm : fn.results.mapM (resF a.tmps) = Functor.map List.toArray (fn.results.toList.mapM (resF a.tmps)) := by
   rw [Array.mapM_eq_mapM_toList]
 rw [hm]
 have hsz : fn.results.size = fn.results.toList.length := by simp
 rw [hsz] at hr
 generalize fn.results.toList = rs at *
 match rs, hr, hq with
 | [r], hr, hq =>
   have hr' : noTup rty = true := by simpa [rtyOk] using hr
   simp only [results] at hq
   obtain ⟨x, v, h1, h2, h3, h4⟩ := resD_ok hE h hr' hq
   simp only [Option.some.injEq] at h1
   subst h1
   refine ⟨v, ?_, h3, DR.of0 h4⟩
   simp [List.mapM_cons, h2]
 | [], hr, hq =>
   simp only [rtyOk, List.length_nil] at hr
   obtain ⟨ts, rfl⟩ : ∃ ts, rty = .tup ts := by
     cases rty <;> first | exact ⟨_, rfl⟩ | (simp [results] at hq; done)
   simp only [results] at hq
   obtain ⟨xs, vs, k1, k2, k3, k4, k5, k6⟩ := resDs_ok hE h ts [] _ y (by simpa using hr) hq
   simp only [Option.some.injEq] at k1
   subst k1
   refine ⟨.tuple vs.toArray, ?_, by simp only [wt]; exact ⟨xs, rfl, k3⟩, vs, rfl, k5, k6⟩
   have : vs = [] := List.length_eq_zero_iff.1 k4
   subst this
   simp
 | r :: r' :: rs, hr, hq =>
   simp only [rtyOk, List.length_cons] at hr
   rw [if_neg (by omega)] at hr
   obtain ⟨ts, rfl⟩ : ∃ ts, rty = .tup ts := by
     cases rty <;> first | exact ⟨_, rfl⟩ | (simp [results] at hq; done)
   simp only [results] at hq
   obtain ⟨xs, vs, k1, k2, k3, k4, k5, k6⟩ := resDs_ok hE h ts (r :: r' :: rs) _ y hr hq
   simp only [Option.some.injEq] at k1
   subst k1
   refine ⟨.tuple vs.toArray, ?_, by simp only [wt]; exact ⟨xs, rfl, k3⟩, vs, rfl, k5, k6⟩
   have : vs.length ≠ 1 := by rw [k4]; simp
   have k2' : ((List.mapM (resF a.tmps) (r :: r' :: rs)).run P w) = .ok vs w := k2
   simp only [Sem.run_bind, map_eq_pure_bind, k2', Result.andThen_ok, Sem.run_pure]
   simp [this]
theorem grown_of_ext {r : Root} {w : World} (h : Ext r w) (hs : ∀ b, ¬ r.sh b) : ∃ os d, r.w.drawn <= d /\ w = grown r.w os d := by
 obtain ⟨w0, S0, sh⟩ := r
 obtain ⟨h1, h2, h3, h4, hdr, h5⟩ := h
 simp only [Root.heap, Root.Old] at *
 refine ⟨(w.heap.toList.drop w0.heap.size), w.drawn, hdr, ?_⟩
 have e : w.heap = w0.heap ++ (w.heap.toList.drop w0.heap.size).toArray := by
   apply Array.ext'
   rw [Array.toList_append]
   conv => lhs; rw [<- List.take_append_drop w0.heap.size w.heap.toList]
   congr 1
   apply List.ext_getElem?
   intro i
   by_cases hi : i < w0.heap.size
   . rw [List.getElem?_take_of_lt hi, Array.getElem?_toList, h5 i ⟨hi, hs i⟩, Array.getElem?_toList]
   . rw [List.getElem?_eq_none (by simp; omega), List.getElem?_eq_none (by simpa using hi)]
 cases w
 simp only [grown] at *
 subst h1; subst h2; subst h3
 congr 1
theorem ctr_of_ev (hE : EnvOk P E) {f : FuncId} {fn : Func} {ann : Ann} {ptys : List Ty} {rty : Ty} {xs : List D} {y : D} (hf : P.funcs[f]? = some fn) (hsz : ptys.length <= fn.ntmps) (hn : noTups ptys = true) (hr : rtyOk fn.results.size rty = true)
   (h : evF E fn ann ptys rty xs = some y) : Ctr P ptys rty f xs y := by
 intro w S vs hS hwt hlen hvs
 unfold evF at h
 split at h <;> first | (cases h; done) | skip
 rename_i c hb
 have hxl : xs.length = ptys.length := wts_length hwt
 have hntm : (vs.toArray ++ Array.replicate (fn.ntmps - vs.toArray.size) undef).size = fn.ntmps := by
   simp; omega
 refine calls_of_wpI hf hb (ev_ok (w0 := ⟨w, S, fun _ => False⟩) (S := S) (γ := fun _ => none) (β := fun _ => none) hE c ann D _ y ?_ h fun e s' S' γ' β' a' w' n1 n2 n3 n4 => ?_)
 . refine ⟨⟨rfl, rfl, rfl, Nat.le_refl _, Nat.le_refl _, fun _ _ => rfl⟩, fun t ht => ?_, hntm, fun t ht => ?_, fun id o b ho => (by cases ho), fun id b hb => (by cases hb), fun id id' b hb => (by cases hb), fun _ _ => rfl, fun v b e _ hb => (by cases hb), fun v v' b e e' _ _ hb => (by cases hb), fun v id b e _ hb => (by cases hb), fun _ _ => rfl, hS, fun b o hb _ => hb, rfl⟩
   . simp only [initTm]
     split
     . rename_i ty x e1 e2
       have hlt := (List.getElem?_eq_some_iff.1 e2).1
       have hlt' : t < vs.length := by omega
       have hv : (vs.toArray ++ Array.replicate (fn.ntmps - vs.toArray.size) undef).getD t undef = vs[t] := by
         simp [Array.getD, Array.getElem_append, hlt']
         omega
       show AR _ _ ((vs.toArray ++ Array.replicate (fn.ntmps - vs.toArray.size) undef).getD t undef)
       rw [hv]
       obtain ⟨x', hx', hw'⟩ := wts_get hwt e1
       rw [e2] at hx'; cases hx'
       exact AR_of_d (noTups_get hn e1) hw' (hvs t x _ e2 (List.getElem?_eq_getElem hlt'))
     . simp only [AR]
   . have ht' : fn.ntmps <= t := ht
     simp only [initTm]
     rw [List.getElem?_eq_none (by omega)]
 . have hres : results E s' rty fn.results.toList = some y -> (∃ v, (Go.results fn a'.tmps).run P w' = .ok v w' /\ ∃ v', Ending.returned v = .returned v' /\ (∃ os d, w.drawn <= d /\ w' = grown w os d) /\ wt rty y /\ DR w' (fun b o => S b o \/ (w.heap.size <= b /\ b < w'.heap.size)) y v') := fun hq => by
     obtain ⟨v, k1, k2, k3⟩ := results_ok hE n1 hr hq
     refine ⟨v, k1, v, rfl, grown_of_ext n1.ext (fun _ hf => hf), k2, k3.mono (fun _ _ _ => rfl) fun b o hb => ?_⟩
     rcases Nat.lt_or_ge b w.heap.size with hlt | hge
     . exact .inl (n1.So b o hb ⟨hlt, fun hf => hf⟩)
     . exact .inr ⟨hge, n1.Sb b o hb⟩
   cases e with
   | normal => exact ⟨n1.df, hres n4⟩
   | ret => exact ⟨n1.df, hres n4⟩
   | exit i => cases n4
end
end Go.Proofs.YtjjjkojfijpeeaaGreat.Sy
end
