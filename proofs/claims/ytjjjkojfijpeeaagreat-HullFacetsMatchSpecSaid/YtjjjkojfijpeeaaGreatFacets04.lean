/- Part 4 of the proof of this: HullFacetsMatchSpec answers true at every input, and the input reads afterwards as it read before (HullFacetsMatchSpecSaid). No condition. -/
import Derived.Test.YtjjjkojfijpeeaaGreatFacets03
import Derived.IntWalk
set_option linter.unusedVariables false
set_option linter.unusedSimpArgs false
set_option linter.unnecessarySimpa false
section
/- Sy: boxes, new slices, appends; every operation. -/
namespace Go.Proofs.YtjjjkojfijpeeaaGreat.Sy
open Go

section
variable {P : Program} {E : Env} {w0 : Root} {S : Nat → Nat → Prop} {γ : Nat → Option Nat} {β : Nat → Option (Nat × Nat)} {s : St} {a : Act} {w : World}
/-- An object that no slot knows of. -/
theorem Rp.setFree (h : Rp w0 S γ β s a w) {id : Nat} (hid : γ id = none) (o : Option Ob) : Rp w0 S γ β (s.setOb id o) a w ∧ Cx.le ⟨w, S, γ, β, s.ob, s.dead⟩ ⟨w, S, γ, β, (s.setOb id o).ob, s.dead⟩ := by
  have hle : Cx.le ⟨w, S, γ, β, s.ob, s.dead⟩ ⟨w, S, γ, β, (s.setOb id o).ob, s.dead⟩ := by
    refine ⟨fun _ _ _ => rfl, fun _ _ k => k, fun _ _ k => k, fun i x hx ⟨b, hb⟩ => ?_, fun v hv => ⟨hv, fun b e he => ⟨he, fun n hn => hn⟩⟩⟩
    simp only [St.setOb] at hx
    by_cases e : i = id
    · subst e
      have hb' : γ i = some b := hb
      rw [hid] at hb'; cases hb'
    · rw [if_neg e] at hx
      exact ⟨x, hx, fun p => ⟨rfl, rfl⟩, fun t l e => ⟨l, e, rfl⟩, fun _ _ l e => ⟨l, e⟩⟩
  refine ⟨⟨h.ext, fun t ht => (h.tms t ht).mono hle, h.nt, h.tmu, fun i x b hx hb => ?_, h.γn, h.γi, h.γf, h.βn, h.βi, h.βγ, h.βf, h.Sb, h.So, h.df⟩, hle⟩
  simp only [St.setOb] at hx
  by_cases e : i = id
  · subst e; rw [hid] at hb; cases hb
  · rw [if_neg e] at hx
    exact (h.obs i x b hx hb).mono hle rfl fun _ k => k
theorem setOb_get (s : St) (id : Nat) (o : Option Ob) : (s.setOb id o).ob id = o := by simp [St.setOb]
theorem setOb_ne (s : St) {id i : Nat} (o : Option Ob) (h : i ≠ id) : (s.setOb id o).ob i = s.ob i := by simp [St.setOb, h]
/-- A new object in a block of its own. -/
theorem Rp.make (h : Rp w0 S γ β s a w) {id : Nat} (hid : γ id = none) (hi : id < s.base + 4096) {c : Array Value} {T : TypeId} {o : Ob} (d : Nat) (hdr : w.drawn ≤ d)
    (ho : ObR ⟨grown w [.cells c T] d, S, upd γ id w.heap.size, β, (s.setOb id (some o)).ob, s.dead⟩ w.heap.size o) :
    Rp w0 S (upd γ id w.heap.size) β (s.setOb id (some o)) a (grown w [.cells c T] d) ∧ Cx.le ⟨w, S, γ, β, s.ob, s.dead⟩ ⟨grown w [.cells c T] d, S, upd γ id w.heap.size, β, (s.setOb id (some o)).ob, s.dead⟩ := by
  obtain ⟨h1, le1⟩ := h.grow (os := [.cells c T]) (d := d) hdr (S' := S) (fun _ _ hb => hb) (fun _ _ hb => .inl hb)
  obtain ⟨h2, le2⟩ := h1.setFree hid (some o)
  have hw0 : ¬ w0.Old w.heap.size := fun ho => by have := ho.1; have := h.ext.sz; omega
  obtain ⟨h3, le3⟩ := h2.newOb (id := id) (b := w.heap.size) hid hw0 (by simp) (fun i hi => by have := (h.γn i _ hi).2; omega) (fun u f hu hf => by have := (h.βn u _ _ hu hf).2.1; omega) hi (fun x hx => by
    rw [setOb_get] at hx; cases hx; exact ho)
  refine ⟨h3, ⟨fun b o hb => le1.cell b o hb, fun _ _ hb => hb, fun i b hb => upd_le hid hb, fun i x hx hb => ?_, fun v hv => ⟨hv, fun b e he => ⟨he, fun n hn => by
    have := le1.β v hv; exact (this.2 b e he).2 n hn⟩⟩⟩⟩
  obtain ⟨b, hb⟩ := hb
  exact le2.ob i x hx ⟨b, hb⟩
theorem ev1_box (hE : EnvOk P E) (h : Rp w0 S γ β s a w) {dst T x ty pos after guard} (hf : Fr E s γ β ⟨dst, .box T x, ty, pos, after, guard⟩) (hlk : ∀ t ∈ s.lkS, dst ≠ some t) {R : Type} {K : St → Option R} {r : R} (hT : ∀ t, E.L T = some t → noTup t = true)
    (hq : ev1 E s ⟨dst, .box T x, ty, pos, after, guard⟩ K = some r) : ∃ s', K s' = some r ∧ Ev1 P w0 S γ β s a w ⟨dst, .box T x, ty, pos, after, guard⟩ s' := by
  simp only [ev1] at hq
  replace hq := bind_some_inv hq; obtain ⟨t, ht, hq⟩ := hq
  replace hq := bind_some_inv hq; obtain ⟨d, hd, hq⟩ := hq
  split at hq <;> first | (cases hq; done) | skip
  rename_i hfit
  obtain ⟨hd4, hγ, hβ, _⟩ := hf rfl d hd
  have hn := hT t ht
  obtain ⟨k1, k2⟩ := AR_AC hfit hn (opA_ok h x)
  obtain ⟨k3, _⟩ := AC_len _ _ _ hfit k1
  have hle : Cx.le ⟨w, S, γ, β, s.ob, s.dead⟩ ⟨grown w [.cells (a.eval x).cells T] w.drawn, S, upd γ (s.base + d) w.heap.size, β, (s.setOb (s.base + d) (some (.one t (s.opA x)))).ob, s.dead⟩ := by
    refine ⟨fun b o hb => cell_grown (h.Sb b o hb), fun _ _ hb => hb, fun i b hb => upd_le hγ hb, fun i z hz ⟨b, hb⟩ => ?_, fun v hv => ⟨hv, fun b e he => ⟨he, fun n hn => by rw [rsz_grown (h.βn v b e hv he).2.1]; exact hn⟩⟩⟩
    by_cases e : i = s.base + d
    · subst e; have hb' : γ (s.base + d) = some b := hb; rw [hγ] at hb'; cases hb'
    · have hz' : s.ob i = some z := by rw [← hz]; exact (setOb_ne s _ e).symm
      exact ⟨z, hz', fun p => ⟨rfl, rfl⟩, fun t l e => ⟨l, e, rfl⟩, fun _ _ l e => ⟨l, e⟩⟩
  obtain ⟨h1, le1⟩ := h.make (id := s.base + d) hγ (by omega) (c := (a.eval x).cells) (T := T) (o := .one t (s.opA x)) w.drawn (Nat.le_refl _) (by
    simp only [ObR]
    exact ⟨hn, hfit, fun o ho => by have := h.Sb _ _ ho; omega, (a.eval x).cells.toList, by rw [Array.toArray_toList]; exact row_new, AC.mono hle _ _ k1, k3⟩)
  obtain ⟨p1, p2, p3, p4, p5, p6, p7⟩ := St.put_fields (s.setOb (s.base + d) (some (.one t (s.opA x)))) dst (.ptr t (s.base + d) [])
  refine ⟨_, hq, p5, p6, p2, p4, fun id hid hh => ?_, .value (v := .pointer (some ⟨w.heap.size, 0, none⟩)) (w' := grown w [.cells (a.eval x).cells T] w.drawn) ?_ ⟨S, _, β, h1.put (AR_ptr_mk (upd_same _ _ _) fun o ho => ?_) dst, ?_, fun id hid => ⟨upd_ne _ _ ?_, rfl⟩⟩⟩
  · rw [p1]
    refine setOb_ne s _ fun e => ?_
    subst e
    rcases hh with hh | hh
    · exact hh (by rw [hd, Nat.add_sub_cancel_left])
    · omega
  · rw [← alloc_grown]
    simp only [execOp, Instr.box, newVar, newRow, Sem.run_bind, Result.andThen_ok, run_newObj, Sem.run_pure]
    rfl
  · have ho' : (s.setOb (s.base + d) (some (.one t (s.opA x)))).ob (s.base + d) = some o := ho
    rw [setOb_get] at ho'
    cases ho'
    exact ⟨by cases t <;> rfl, by cases t <;> rfl⟩
  · exact ⟨fun _ _ hb => hb, fun b o hb => cell_grown (h.Sb b o hb), fun t ht => put_slot (hlk t ht), fun id hid b hb => ⟨upd_le hγ hb, grown_old (h.γn id b hb).2⟩, by simp, fun _ _ hb => upd_le hγ hb⟩
  · intro e
    subst e
    rcases hid with hid | hid
    · exact hid (by rw [hd, Nat.add_sub_cancel_left])
    · omega
theorem wrap64_nat {n : Nat} (h : n ≤ 1073741824) : IntKind.i64.wrap (n : Int) = (n : Int) := by
  exact IntWalk.i64_in _ (by omega)
theorem ev1_makeSlice (hE : EnvOk P E) (h : Rp w0 S γ β s a w) {dst T x y ty pos after guard} (hf : Fr E s γ β ⟨dst, .makeSlice T x y, ty, pos, after, guard⟩) (hlk : ∀ t ∈ s.lkS, dst ≠ some t) {R : Type} {K : St → Option R} {r : R}
    (hq : ev1 E s ⟨dst, .makeSlice T x y, ty, pos, after, guard⟩ K = some r) : ∃ s', K s' = some r ∧ Ev1 P w0 S γ β s a w ⟨dst, .makeSlice T x y, ty, pos, after, guard⟩ s' := by
  simp only [ev1] at hq
  replace hq := bind_some_inv hq; obtain ⟨t, ht, hq⟩ := hq
  replace hq := bind_some_inv hq; obtain ⟨d, hd, hq⟩ := hq
  split at hq <;> first | (cases hq; done) | skip
  rename_i e i j
  split at hq <;> first | (cases hq; done) | skip
  rename_i hij
  subst hij
  replace hq := bind_some_inv hq; obtain ⟨p, hp, hq⟩ := hq
  replace hq := bind_some_inv hq; obtain ⟨n, hn1, hq⟩ := hq
  split at hq <;> first | (cases hq; done) | skip
  rename_i hn30
  obtain ⟨hd4, hγ, hβ, _⟩ := hf rfl d hd
  rcases hE.lay T _ ht with ⟨ts', hts⟩ | hl
  · cases hts
  have hn := layB_noTup _ _ hl
  simp only [noTup] at hn
  obtain ⟨u, h1, h2⟩ := lay_sl hl
  obtain ⟨i0, z0, hi1, hi2, hi3, hi4, hi5, _⟩ := infoB_info (layB_info h2)
  have hv : a.eval (.tmp i) = .int .i64 n ∨ ∃ k, a.eval (.tmp i) = .int k n := by
    obtain ⟨kk, h3⟩ := natOf_inv hn1
    have h4 := opA_ok h (.tmp i)
    rw [show s.opA (.tmp i) = s.tm i from rfl, isD_inv hp, h3] at h4
    exact .inr ⟨kk, (AR_int h4).1⟩
  obtain ⟨k, hv⟩ : ∃ k, a.eval (.tmp i) = .int k n := by
    rcases hv with hv | hv
    · exact ⟨_, hv⟩
    · exact hv
  have hzs : z0.cells.size = e.size := by
    have := (zeroB_CRl (w := w) (S := S) hi5).1
    rw [← Array.length_toList, ← this]; exact wt_len _ _ (zeroD_wt e hn) hn
  let cells : Array Value := (Array.range (n * e.size)).map fun i => z0.cells[i % z0.cells.size]!
  have hz : ∀ w', CRl w' S (D.flats (List.replicate n (zeroD e))) cells.toList := fun w' => zeros_CRl hi5 hzs n
  obtain ⟨r1, le1⟩ := h.make (id := s.base + d) hγ (by omega) (c := cells) (T := u) (o := .many e (List.replicate n (zeroD e))) w.drawn (Nat.le_refl _) (by
    simp only [ObR]
    exact ⟨hn, fun x hx => by rw [(List.mem_replicate.1 hx).2]; exact zeroD_wt e hn, fun o ho => by have := h.Sb _ _ ho; omega, cells.toList, by rw [Array.toArray_toList]; exact row_new, hz _⟩)
  have hrun : (Instr.makeSlice T (.int k n) (.int k n)).run P w = .ok (.slice (some ⟨w.heap.size, 0, none⟩) n n) (grown w [.cells cells u] w.drawn) := by
    have hb : ((i0.bytes : Int) * (n : Int)) ≤ 2 ^ 48 := by
      have h5 : i0.bytes * n ≤ 16384 * 1073741824 := Nat.mul_le_mul hi3.1 hn30
      have : ((i0.bytes * n : Nat) : Int) ≤ ((16384 * 1073741824 : Nat) : Int) := Int.ofNat_le.2 h5
      rw [Int.natCast_mul] at this
      omega
    have hw := wrap64_nat hn30
    have c1 : ¬ ((n : Int) < 0) := by omega
    have c2 : ¬ ((i0.bytes : Int) * (n : Int) > 2 ^ 48) := by omega
    simp only [Instr.makeSlice, Sem.run_bind, run_underlying h1, Result.andThen_ok, asInt, asIntOf, pure_bind, typeInfo, run_program, hi1, Sem.run_pure, hw]
    rw [decide_eq_false c1, decide_eq_false c2, decide_eq_false (show ¬ ((n : Int) > n) from Int.lt_irrefl _)]
    simp only [Bool.or_self, Bool.false_eq_true, if_false, Sem.run_bind, run_askRoom, Result.andThen_ok, lay_size h2, Int.toNat_natCast]
    by_cases h0 : n * e.size = 0
    · have e0 : ((Array.range (n * e.size)).map fun i => (#[] : Array Value)[i % (#[] : Array Value).size]!) = cells := by
        show _ = ((Array.range (n * e.size)).map fun i => z0.cells[i % z0.cells.size]!)
        rw [h0]; simp
      rw [if_pos h0]
      simp only [pure_bind, e0, newRow, Sem.run_bind, run_newObj, Result.andThen_ok, Sem.run_pure]
      rw [← alloc_grown]
      rfl
    · rw [if_neg h0]
      simp only [zeroValue, typeInfo, Sem.run_bind, run_program, hi1, hi4, Result.andThen_ok, Sem.run_pure, bind_pure_comp, Sem.run_map, newRow, run_newObj]
      rw [← alloc_grown]
      rfl
  obtain ⟨p1, p2, p3, p4, p5, p6, p7⟩ := St.put_fields (s.setOb (s.base + d) (some (.many e (List.replicate n (zeroD e))))) dst (.mem e (s.base + d))
  refine ⟨_, hq, p5, p6, p2, p4, fun id hid hh => ?_, .value (v := .slice (some ⟨w.heap.size, 0, none⟩) n n) (w' := grown w [.cells cells u] w.drawn) (by simp only [execOp, hv, Sem.run_bind, hrun, Result.andThen_ok, Sem.run_pure]) ⟨S, _, β, r1.put ?_ dst, ?_, fun id hid => ⟨upd_ne _ _ ?_, rfl⟩⟩⟩
  · rw [p1]
    refine setOb_ne s _ fun e => ?_
    subst e
    rcases hh with hh | hh
    · exact hh (by rw [hd, Nat.add_sub_cancel_left])
    · omega
  · simp only [AR, AC, Value.cells]
    refine ⟨by simp, hn, w.heap.size, upd_same _ _ _, fun o ho => ?_⟩
    rw [setOb_get] at ho
    cases ho
    exact ⟨_, rfl, by simp⟩
  · exact ⟨fun _ _ hb => hb, fun b o hb => cell_grown (h.Sb b o hb), fun t ht => put_slot (hlk t ht), fun id hid b hb => ⟨upd_le hγ hb, grown_old (h.γn id b hb).2⟩, by simp, fun _ _ hb => upd_le hγ hb⟩
  · intro e
    subst e
    rcases hid with hid | hid
    · exact hid (by rw [hd, Nat.add_sub_cancel_left])
    · omega
theorem growBy_le (m : Nat) : ∀ (r c : Nat), c ≤ 2 * m + 200 → Builtin.growBy m r c ≤ 2 * m + 200
  | 0, c, h => by simpa [Builtin.growBy] using h
  | r + 1, c, h => by
    simp only [Builtin.growBy]
    split
    · exact h
    · exact growBy_le m r _ (by omega)
theorem nextcap_le {need cap : Nat} (h : cap < need) : Builtin.nextslicecap need cap ≤ 2 * need + 200 := by
  unfold Builtin.nextslicecap
  split
  · omega
  · split
    · omega
    · exact growBy_le need 4 cap (by omega)
/-- The elements of a slice, read. -/
theorem run_firstCells {w : World} {S : Nat → Nat → Prop} {e : Ty} {l : List D} {v : Value} (hn : noTup e = true) (hl : ∀ x ∈ l, wt e x) (h : CR w S (.sl l) v) : ∃ cs : List Value, CRl w S (D.flats l) cs ∧ (Builtin.firstCells e.size l.length v).run P w = .ok cs.toArray w := by
  obtain ⟨A, cap, b, off, hv, k1, k2, cs, k3, k4⟩ := h.elems
  refine ⟨cs, k3, ?_⟩
  have hlen : cs.length = l.length * e.size := by rw [← k3.1]; exact flats_len_of hn l hl
  subst hv
  cases A with
  | none =>
    rcases k1 with rfl | k1
    · have : cs = [] := by
        simp at hlen; exact hlen
      subst this; rfl
    · cases k1
  | some A =>
    rcases k1 with rfl | k1
    · have : cs = [] := by
        simp at hlen; exact hlen
      subst this
      simp [Builtin.firstCells, loadCells, loadCellsFrom]
    · cases k1
      simp only [Builtin.firstCells]
      rw [← hlen]
      exact run_loadCells_list (P := P) w ⟨b, off, none⟩ cs (fun j v hv => by rw [add_none]; exact (k4 j v hv).2)
/-- A slice with no block of its own yet. -/
theorem AR_own_nil {c : Cx} {e : Ty} {v : Nat} (hn : noTup e = true) : AR c (.own e v []) (.slice none 0 0) := by
  simp only [AR, AC, Value.cells]
  exact ⟨by simp, hn, fun x hx => by simp at hx, none, 0, rfl, .sl [] none 0 0 0 (fun _ => undef) (.inl rfl) (Nat.le_refl 0) (fun i d hd => by simp [D.flats] at hd) (fun i d hd => by simp [D.flats] at hd), fun _ => .inl ⟨rfl, rfl⟩⟩
/-- A mark is gone. -/
theorem Rp.bury (h : Rp w0 S γ β s a w) (v : Nat) : Rp w0 S γ β { s with dead := v :: s.dead } a w ∧ Cx.le ⟨w, S, γ, β, s.ob, s.dead⟩ ⟨w, S, γ, β, s.ob, v :: s.dead⟩ := by
  have hle : Cx.le ⟨w, S, γ, β, s.ob, s.dead⟩ ⟨w, S, γ, β, s.ob, v :: s.dead⟩ :=
    ⟨fun _ _ _ => rfl, fun _ _ k => k, fun _ _ k => k, fun id o ho _ => ⟨o, ho, fun p => ⟨rfl, rfl⟩, fun t l e => ⟨l, e, rfl⟩, fun _ _ l e => ⟨l, e⟩⟩, fun u hu => ⟨fun hh => hu (List.mem_cons_of_mem _ hh), fun b e he => ⟨he, fun n hn => hn⟩⟩⟩
  have nd : ∀ {u}, u ∉ v :: s.dead → u ∉ s.dead := fun hu hh => hu (List.mem_cons_of_mem _ hh)
  exact ⟨⟨h.ext, fun t ht => (h.tms t ht).mono hle, h.nt, h.tmu, fun id o b ho hb => (h.obs id o b ho hb).mono hle rfl fun _ k => k, h.γn, h.γi, h.γf, fun u b e hu => h.βn u b e (nd hu), fun u u' b e e' hu hu' => h.βi u u' b e e' (nd hu) (nd hu'), fun u id b e hu => h.βγ u id b e (nd hu), h.βf, h.Sb, h.So, h.df⟩, hle⟩
end
end Go.Proofs.YtjjjkojfijpeeaaGreat.Sy
end
section
/- Sy: maps of the call's own: made, written. -/
namespace Go.Proofs.YtjjjkojfijpeeaaGreat.Sy
open Go

section
variable {P : Program} {E : Env} {w0 : Root} {S : Nat → Nat → Prop} {γ : Nat → Option Nat} {β : Nat → Option (Nat × Nat)} {s : St} {a : Act} {w : World}
/-- A new object in a block of its own, whatever lies there. -/
theorem Rp.makeG (h : Rp w0 S γ β s a w) {id : Nat} (hid : γ id = none) (hi : id < s.base + 4096) {x : Obj} {o : Ob} (d : Nat) (hdr : w.drawn ≤ d)
    (ho : ObR ⟨grown w [x] d, S, upd γ id w.heap.size, β, (s.setOb id (some o)).ob, s.dead⟩ w.heap.size o) :
    Rp w0 S (upd γ id w.heap.size) β (s.setOb id (some o)) a (grown w [x] d) ∧ Cx.le ⟨w, S, γ, β, s.ob, s.dead⟩ ⟨grown w [x] d, S, upd γ id w.heap.size, β, (s.setOb id (some o)).ob, s.dead⟩ := by
  obtain ⟨h1, le1⟩ := h.grow (os := [x]) (d := d) hdr (S' := S) (fun _ _ hb => hb) (fun _ _ hb => .inl hb)
  obtain ⟨h2, le2⟩ := h1.setFree hid (some o)
  have hw0 : ¬ w0.Old w.heap.size := fun ho => by have := ho.1; have := h.ext.sz; omega
  obtain ⟨h3, le3⟩ := h2.newOb (id := id) (b := w.heap.size) hid hw0 (by simp) (fun i hi => by have := (h.γn i _ hi).2; omega) (fun u f hu hf => by have := (h.βn u _ _ hu hf).2.1; omega) hi (fun x hx => by
    rw [setOb_get] at hx; cases hx; exact ho)
  refine ⟨h3, ⟨fun b o hb => le1.cell b o hb, fun _ _ hb => hb, fun i b hb => upd_le hid hb, fun i x hx hb => ?_, fun v hv => ⟨hv, fun b e he => ⟨he, fun n hn => by
    have := le1.β v hv; exact (this.2 b e he).2 n hn⟩⟩⟩⟩
  obtain ⟨b, hb⟩ := hb
  exact le2.ob i x hx ⟨b, hb⟩
theorem ev1_makeMap (hE : EnvOk P E) (h : Rp w0 S γ β s a w) {dst T rsv ty pos after guard} (hf : Fr E s γ β ⟨dst, .makeMap T rsv, ty, pos, after, guard⟩) (hlk : ∀ t ∈ s.lkS, dst ≠ some t) {R : Type} {K : St → Option R} {r : R}
    (hq : ev1 E s ⟨dst, .makeMap T rsv, ty, pos, after, guard⟩ K = some r) : ∃ s', K s' = some r ∧ Ev1 P w0 S γ β s a w ⟨dst, .makeMap T rsv, ty, pos, after, guard⟩ s' := by
  simp only [ev1] at hq
  cases rsv with
  | some x => cases hq
  | none =>
  simp only at hq
  replace hq := bind_some_inv hq; obtain ⟨kv, hkv, hq⟩ := hq
  replace hq := bind_some_inv hq; obtain ⟨d, hd, hq⟩ := hq
  obtain ⟨kt, vt⟩ := kv
  simp only at hq
  obtain ⟨hd4, hγ, hβ, _⟩ := hf rfl d hd
  obtain ⟨hc, KT, VT, hu, hlk1, hlv, hh⟩ := hE.mapL T _ _ hkv
  have hnk := layB_noTup _ _ hlk1
  have hnv := layB_noTup _ _ hlv
  obtain ⟨h1, le1⟩ := h.makeG (id := s.base + d) hγ (by omega) (x := .map #[] 0) (o := .mp kt vt []) w.drawn (Nat.le_refl _) (by
    simp only [ObR]
    refine ⟨hnk, hnv, fun o ho => by have := h.Sb _ _ ho; omega, #[], ?_, by simp [MpR]⟩
    show (w.heap ++ #[Obj.map #[] 0])[w.heap.size]? = some (.map #[] 0)
    rw [Array.getElem?_append_right (Nat.le_refl _), Nat.sub_self]
    rfl)
  obtain ⟨p1, p2, p3, p4, p5, p6, p7⟩ := St.put_fields (s.setOb (s.base + d) (some (.mp kt vt []))) dst (.map kt vt (s.base + d))
  refine ⟨_, hq, p5, p6, p2, p4, fun id hid hhh => ?_, .value (v := .map (some w.heap.size)) (w' := grown w [.map #[] 0] w.drawn) ?_ ⟨S, _, β, h1.put ?_ dst, ?_, fun id hid => ⟨upd_ne _ _ ?_, rfl⟩⟩⟩
  · rw [p1]
    refine setOb_ne s _ fun e => ?_
    subst e
    rcases hhh with hhh | hhh
    · exact hhh (by rw [hd, Nat.add_sub_cancel_left])
    · omega
  · have : (grown w [.map #[] 0] w.drawn) = { w with heap := w.heap.push (.map #[] 0) } := by simp [grown]
    rw [this]
    simp only [execOp, Instr.makeMap, Option.map_none, Sem.run_bind, Result.andThen_ok, run_newObj, Sem.run_pure]
  · simp only [AR, AC, Value.cells]
    refine ⟨by simp, w.heap.size, rfl, upd_same _ _ _, hnk, hnv, fun o ho => ?_⟩
    have ho' : (s.setOb (s.base + d) (some (.mp kt vt []))).ob (s.base + d) = some o := ho
    rw [setOb_get] at ho'
    cases ho'
    exact ⟨_, rfl⟩
  · exact ⟨fun _ _ hb => hb, fun b o hb => cell_grown (h.Sb b o hb), fun t ht => put_slot (hlk t ht), fun id hid b hb => ⟨upd_le hγ hb, grown_old (h.γn id b hb).2⟩, by simp, fun _ _ hb => upd_le hγ hb⟩
  · intro e
    subst e
    rcases hid with hid | hid
    · exact hid (by rw [hd, Nat.add_sub_cancel_left])
    · omega
def setM (w : World) (b : Nat) (o : Obj) : World := { w with heap := w.heap.setIfInBounds b o }
theorem heap_setM {w : World} {b b' : Nat} {o : Obj} (h : b' ≠ b) : (setM w b o).heap[b']? = w.heap[b']? := by
  simp only [setM]
  rw [Array.getElem?_setIfInBounds_ne (Ne.symm h)]
theorem size_setM {w : World} {b : Nat} {o : Obj} : (setM w b o).heap.size = w.heap.size := by simp [setM]
theorem cell_setM {w : World} {b b' o' : Nat} {o : Obj} (h : b' ≠ b) : (setM w b o).cell? ⟨b', o', none⟩ = w.cell? ⟨b', o', none⟩ := by simp only [World.cell?, heap_setM h]
theorem Rp.writeM (h : Rp w0 S γ β s a w) {id b : Nat} {kt vt : Ty} {l l' : List D} {es' : Array MapEntry} (ho : s.ob id = some (.mp kt vt l)) (hγ : γ id = some b) (hM : MpR ⟨w, S, γ, β, s.ob, s.dead⟩ kt vt 0 l' es'.toList) :
    Rp w0 S γ β (s.setOb id (some (.mp kt vt l'))) a (setM w b (.map es' l'.length)) ∧ (∀ b' o, S b' o → (setM w b (.map es' l'.length)).cell? ⟨b', o, none⟩ = w.cell? ⟨b', o, none⟩) := by
  have hO := h.obs id _ b ho hγ
  simp only [ObR] at hO
  obtain ⟨hnk, hnv, hS, es, hes, _⟩ := hO
  have hbS : ∀ b' o, S b' o → b' ≠ b := fun b' o hb e => hS o (e ▸ hb)
  have hlt : b < w.heap.size := (h.γn id b hγ).2
  have hle : Cx.le ⟨w, S, γ, β, s.ob, s.dead⟩ ⟨setM w b (.map es' l'.length), S, γ, β, (s.setOb id (some (.mp kt vt l'))).ob, s.dead⟩ := by
    refine ⟨fun b' o hb => cell_setM (hbS b' o hb), fun _ _ hb => hb, fun _ _ hb => hb, fun i x hx _ => ?_, fun v hv => ⟨hv, fun b' e he => ⟨he, fun n hn => ?_⟩⟩⟩
    · simp only [St.setOb] at hx
      by_cases e : i = id
      · subst e
        simp only [if_true, Option.some.injEq] at hx
        subst hx
        exact ⟨_, ho, fun p => ⟨rfl, rfl⟩, (fun t l e => by cases e), (fun k v l e => by cases e; exact ⟨_, rfl⟩)⟩
      · rw [if_neg e] at hx
        exact ⟨x, hx, fun p => ⟨rfl, rfl⟩, fun t l e => ⟨l, e, rfl⟩, fun _ _ l e => ⟨l, e⟩⟩
    · have hne : b' ≠ b := fun e' => h.βγ v id b' e hv he (e' ▸ hγ)
      have hn' : rsz w b' = some n := hn
      show rsz (setM w b (.map es' l'.length)) b' = some n
      simp only [rsz, row?, heap_setM hne] at hn' ⊢
      exact hn'
  refine ⟨⟨ext_of h.ext rfl rfl rfl (by simp [size_setM]) (Nat.le_refl _) (fun b' hb' => heap_setM fun e => (h.γn id b hγ).1 (e ▸ hb')), fun t ht => (h.tms t ht).mono hle, h.nt, h.tmu, fun i x b' hx hb' => ?_, fun i b' hb' => by rw [size_setM]; exact h.γn i b' hb', h.γi, h.γf,
    fun v b' e hv he => by rw [size_setM]; exact h.βn v b' e hv he, h.βi, h.βγ, h.βf, fun b' o hb => by rw [size_setM]; exact h.Sb b' o hb, h.So, h.df⟩, fun b' o hb => cell_setM (hbS b' o hb)⟩
  simp only [St.setOb] at hx
  by_cases e : i = id
  · subst e
    simp only [if_true, Option.some.injEq] at hx
    subst hx
    rw [hγ] at hb'; cases hb'
    simp only [ObR]
    refine ⟨hnk, hnv, hS, es', ?_, hM.mono hle⟩
    simp only [setM]
    rw [Array.getElem?_setIfInBounds_self_of_lt hlt]
  · rw [if_neg e] at hx
    have hne : b' ≠ b := fun e' => e (h.γi i id b' hb' (e' ▸ hγ))
    exact (h.obs i x b' hx hb').mono hle (heap_setM hne) fun _ hh => hh
theorem MpR.push {c : Cx} {kt vt : Ty} {k v : D} {ek ev : Value} (hk : wt kt k) (hv : wt vt v) (rk : DR0 c.w c.S k ek) (rv : DR0 c.w c.S v ev) : ∀ {l : List D} {es : List MapEntry} {j : Nat}, MpR c kt vt j l es → MpR c kt vt j (l ++ [.st [k, v]]) (es ++ [{ key := ek, val := ev, born := j + l.length }])
  | [], [], j, _ => by simp only [List.nil_append, MpR, List.length_nil, Nat.add_zero]; exact ⟨⟨trivial, k, v, rfl, hk, hv, rk, rv⟩, trivial⟩
  | [], _ :: _, _, h => h.elim
  | _ :: _, [], _, h => h.elim
  | x :: l, e :: es, j, h => by
    simp only [List.cons_append, MpR] at h ⊢
    refine ⟨h.1, ?_⟩
    have := MpR.push hk hv rk rv h.2
    rw [List.length_cons, show j + (l.length + 1) = j + 1 + l.length by omega]
    exact this
theorem mput_new {c : Cx} {kt vt : Ty} {x y : D} : ∀ {l : List D} {es : List MapEntry} {j i : Nat}, MpR c kt vt j l es → fnd l x es i = none → D.mput l x y = l ++ [.st [x, y]]
  | [], [], _, _, _, _ => rfl
  | [], _ :: _, _, _, h, _ => h.elim
  | _ :: _, [], _, _, h, _ => h.elim
  | z :: l, e :: es, j, i, h, hf => by
    simp only [MpR] at h
    obtain ⟨⟨_, k, v, rfl, _⟩, h2⟩ := h
    simp only [fnd] at hf
    simp only [D.mput]
    cases hb : D.beq x k
    · rw [hb] at hf
      simp only [Bool.false_eq_true, if_false] at hf ⊢
      rw [mput_new h2 hf]
      rfl
    · rw [hb] at hf; simp at hf
theorem mput_old {c : Cx} {kt vt : Ty} {x y : D} {ek ev : Value} (hv : wt vt y) (rv : DR0 c.w c.S y ev) (rk : DR0 c.w c.S x ek) : ∀ {l : List D} {es : List MapEntry} {j i n : Nat} {v0 : Value}, MpR c kt vt j l es → fnd l x es i = some (n, v0) →
    ∃ m e0, n = i + m ∧ es[m]? = some e0 ∧ (D.mput l x y).length = l.length ∧ MpR c kt vt j (D.mput l x y) (es.modify m fun e => { e with key := e0.key, val := ev }) ∧ MpR c kt vt j (D.mput l x y) (es.modify m fun e => { e with key := ek, val := ev })
  | [], [], _, _, _, _, _, hf => by simp [fnd] at hf
  | [], _ :: _, _, _, _, _, h, _ => h.elim
  | _ :: _, [], _, _, _, _, h, _ => h.elim
  | z :: l, e :: es, j, i, n, v0, h, hf => by
    simp only [MpR] at h
    obtain ⟨⟨hb0, k, v, rfl, q1, q2, q3, q4⟩, h2⟩ := h
    simp only [fnd] at hf
    simp only [D.mput]
    cases hb : D.beq x k
    · rw [hb] at hf
      simp only [Bool.false_eq_true, if_false] at hf ⊢
      obtain ⟨m, e0, e1, e2, e3, e4, e5⟩ := mput_old (y := y) hv rv rk h2 hf
      refine ⟨m + 1, e0, by omega, by simpa using e2, by simp [e3], ?_, ?_⟩
      · simp only [List.modify_succ_cons, MpR]; exact ⟨⟨hb0, k, v, rfl, q1, q2, q3, q4⟩, e4⟩
      · simp only [List.modify_succ_cons, MpR]; exact ⟨⟨hb0, k, v, rfl, q1, q2, q3, q4⟩, e5⟩
    · rw [hb] at hf
      simp only [if_true, Option.some.injEq, Prod.mk.injEq] at hf
      have := beq_eq _ _ hb
      subst this
      simp only [if_true]
      refine ⟨0, e, by omega, rfl, rfl, ?_, ?_⟩
      · simp only [List.modify_zero_cons, MpR]; exact ⟨⟨hb0, x, y, rfl, q1, hv, q3, rv⟩, h2⟩
      · simp only [List.modify_zero_cons, MpR]; exact ⟨⟨hb0, x, y, rfl, q1, hv, rk, rv⟩, h2⟩
theorem keeps_run (old new : Value) (w : World) : ∃ k d, w.drawn ≤ d ∧ (Instr.keyThatStays old new).run P w = .ok k { w with drawn := d } ∧ (k = old ∨ k = new) := by
  unfold Instr.keyThatStays
  split
  · exact ⟨new, w.drawn, Nat.le_refl _, rfl, .inr rfl⟩
  · simp only [Sem.run_bind, run_choose]
    split
    · simp only [Result.andThen_ok, Sem.run_pure]
      exact ⟨_, w.drawn, Nat.le_refl _, rfl, by split <;> simp⟩
    · simp only [Result.andThen_ok, Sem.run_pure]
      exact ⟨_, w.drawn + 1, Nat.le_succ _, rfl, by split <;> simp⟩
theorem ev1_mapUpdate (hE : EnvOk P E) (h : Rp w0 S γ β s a w) {dst T x k v ty pos after guard} {R : Type} {K : St → Option R} {r : R}
    (hq : ev1 E s ⟨dst, .mapUpdate T x k v, ty, pos, after, guard⟩ K = some r) : ∃ s', K s' = some r ∧ Ev1 P w0 S γ β s a w ⟨dst, .mapUpdate T x k v, ty, pos, after, guard⟩ s' := by
  simp only [ev1] at hq
  cases dst with
  | some d => simp at hq
  | none =>
  simp only [Option.isSome_none, Bool.false_eq_true, if_false] at hq
  replace hq := bind_some_inv hq; obtain ⟨kv, hkv, hq⟩ := hq
  obtain ⟨kt0, vt0⟩ := kv
  have hx := opA_ok h x
  generalize s.opA x = ax at *
  cases ax <;> (try simp only at hq) <;> first | (cases hq; done) | skip
  rename_i kt vt id
  split at hq <;> first | (cases hq; done) | skip
  rename_i hb
  simp only [Bool.and_eq_true, Bool.not_eq_true'] at hb
  obtain ⟨⟨hb1, hb2⟩, hb3⟩ := hb
  have e1 := Ty.eq_of_beq _ _ hb1
  have e2 := Ty.eq_of_beq _ _ hb2
  subst e1; subst e2
  have hlo : id ∉ s.lkO := by
    intro hh
    have : s.lkO.contains id = true := by simpa using hh
    rw [this] at hb3; cases hb3
  split at hq <;> first | (cases hq; done) | skip
  rename_i kt' vt' l hob
  split at hq <;> first | (cases hq; done) | skip
  rename_i hb2
  simp only [Bool.and_eq_true] at hb2
  have e1 := Ty.eq_of_beq _ _ hb2.1
  have e2 := Ty.eq_of_beq _ _ hb2.2
  subst e1; subst e2
  replace hq := bind_some_inv hq; obtain ⟨kd, hkd, hq⟩ := hq
  replace hq := bind_some_inv hq; obtain ⟨vd, hvd, hq⟩ := hq
  obtain ⟨hc, KT, VT, hu, hlk, hlv, hh⟩ := hE.mapL T _ _ hkv
  have hnk := layB_noTup _ _ hlk
  have hnv := layB_noTup _ _ hlv
  obtain ⟨k1, k2⟩ := AR_toD hnk (opA_ok h k) hkd
  obtain ⟨v1, v2⟩ := AR_toD hnv (opA_ok h v) hvd
  simp only [AR, AC] at hx
  obtain ⟨na, b, hcs, hγ, _, _, _⟩ := hx
  have hv := cells_single na hcs
  have hO := h.obs id _ b hob hγ
  simp only [ObR] at hO
  obtain ⟨_, _, hnS, es, hes, hM⟩ := hO
  have i1 : isVal kt' (a.eval k).cells.toList (a.eval k) := ⟨rfl, wt_agg k1 hnk k2.1⟩
  have rc := checkKey_ok (S := S) (w := w) kt' KT kd _ _ 10000 false hlk hc (by omega) k1 k2.2 i1 w
  have rf := findKey_ok (P := P) hlk hc hh k1 k2 w hM
  have hex : (execOp a.eval ⟨none, .mapUpdate T x k v, ty, pos, after, guard⟩) = (Instr.mapUpdate T (a.eval x) (a.eval k) (a.eval v) >>= fun _ => pure .skip) := rfl
  have hlt : b < w.heap.size := (h.γn id b hγ).2
  have run : ∃ es' d, w.drawn ≤ d ∧ MpR ⟨w, S, γ, β, s.ob, s.dead⟩ kt' vt' 0 (D.mput l kd vd) es'.toList ∧ (execOp a.eval ⟨none, .mapUpdate T x k v, ty, pos, after, guard⟩).run P w = .ok .skip (setM { w with drawn := d } b (.map es' (D.mput l kd vd).length)) := by
    rw [hex, hv]
    cases hf : fnd l kd es.toList 0 with
    | none =>
      rw [hf] at rf
      have hm := mput_new (y := vd) hM hf
      refine ⟨es.push { key := a.eval k, val := a.eval v, born := l.length }, w.drawn, Nat.le_refl _, ?_, ?_⟩
      · rw [hm, Array.toList_push]
        have := MpR.push k1 v1 k2 v2 hM
        rwa [Nat.zero_add] at this
      · have hl : (D.mput l kd vd).length = l.length + 1 := by rw [hm]; simp
        rw [hl]
        simp only [Instr.mapUpdate, Sem.run_bind, run_underlying hu, Result.andThen_ok, getMap_run hes, rc, rf]
        simp [setObj, Sem.run, hes, setM]
    | some p =>
      obtain ⟨n, v0⟩ := p
      rw [hf] at rf
      obtain ⟨m, e0, e1, e2, e3, e4, e5⟩ := mput_old (ek := a.eval k) v1 v2 k2 hM hf
      have e1' : n = m := by omega
      subst e1'
      have e2' : es[n]? = some e0 := by simpa using e2
      obtain ⟨kk, d, hdr1, r1, r2⟩ := keeps_run (P := P) e0.key (a.eval k) w
      refine ⟨es.modify n fun e => { e with key := kk, val := a.eval v }, d, hdr1, ?_, ?_⟩
      · rw [Array.toList_modify]
        rcases r2 with rfl | rfl
        · exact e4
        · exact e5
      · rw [e3]
        simp only [Instr.mapUpdate, Sem.run_bind, run_underlying hu, Result.andThen_ok, getMap_run hes, rc, rf, e2', Option.map_some, Option.getD_some, r1]
        simp [setObj, Sem.run, hes, setM]
  obtain ⟨es', d, hdr2, hM', hrun⟩ := run
  have hg : ({ w with drawn := d } : World) = grown w [] d := by simp [grown]
  rw [hg] at hrun
  obtain ⟨g1, g2⟩ := h.grow (os := []) (d := d) hdr2 (S' := S) (fun _ _ hb => hb) (fun _ _ hb => .inl hb)
  obtain ⟨w1, w2⟩ := g1.writeM (l' := D.mput l kd vd) (es' := es') hob hγ (hM'.mono g2)
  refine ⟨_, hq, rfl, rfl, rfl, rfl, fun i hi _ => ?_, .skip hrun ⟨S, γ, β, w1, ?_, fun _ _ => ⟨rfl, rfl⟩⟩⟩
  · refine setOb_ne s _ fun e => ?_
    subst e
    rw [hγ] at hi; cases hi
  · refine ⟨fun _ _ hb => hb, fun b' o hb => (w2 b' o hb).trans (g2.cell b' o hb), fun _ _ => rfl, fun i hi b' hb' => ⟨hb', ?_⟩, by rw [size_setM]; simp, fun _ _ hb => hb⟩
    have hne : b' ≠ b := fun e => by
      subst e
      exact hlo ((h.γi id i _ hγ hb') ▸ hi)
    rw [heap_setM hne]
    exact grown_old (h.γn i b' hb').2
end
end Go.Proofs.YtjjjkojfijpeeaaGreat.Sy
end
section
/- Sy: append. -/
namespace Go.Proofs.YtjjjkojfijpeeaaGreat.Sy
open Go

theorem CR.at_ {w : World} {S : Nat → Nat → Prop} {l : List D} {b off n cap : Nat} (h : CR w S (.sl l) (.slice (some ⟨b, off, none⟩) n cap)) : CRat w S b off (D.flats l) := by
  obtain ⟨A, cap', b', off', hv, k1, k2, k3⟩ := h.elems
  simp only [Value.slice.injEq] at hv
  rcases k1 with rfl | k1
  · exact ⟨[], CRl.nil, fun i c hc => by simp at hc⟩
  · rw [← hv.1] at k1
    cases k1
    exact k3
theorem row_of_rsz {w : World} {b n : Nat} (h : rsz w b = some n) : ∃ c, row? w b = some c ∧ c.size = n := by
  unfold rsz at h
  cases hr : row? w b with
  | none => rw [hr] at h; cases h
  | some c => rw [hr] at h; simp at h; exact ⟨c, rfl, h⟩
theorem cell_putAt_below {w : World} {b off o : Nat} {c cs : Array Value} (h : row? w b = some c) (hs : off + cs.size ≤ c.size) (ho : o < off) : (putAt w b off cs).cell? ⟨b, o, none⟩ = w.cell? ⟨b, o, none⟩ := by
  rw [cell_of_row _ (row_putAt h), cell_of_row _ h, splice_get _ _ _ _ hs, if_pos ho]
theorem cell_putAt_in {w : World} {b off o : Nat} {c cs : Array Value} (h : row? w b = some c) (hs : off + cs.size ≤ c.size) (ho : o < cs.size) : (putAt w b off cs).cell? ⟨b, off + o, none⟩ = cs[o]? := by
  rw [cell_of_row _ (row_putAt h), splice_get _ _ _ _ hs, if_neg (by omega), if_pos (by omega), Nat.add_sub_cancel_left]
section
variable {P : Program} {E : Env} {w0 : Root} {S : Nat → Nat → Prop} {γ : Nat → Option Nat} {β : Nat → Option (Nat × Nat)} {s : St} {a : Act} {w : World}
/-- Elements put behind a slice, in its own block. -/
theorem own_more (h : Rp w0 S γ β s a w) {v v' b off : Nat} {e : Ty} {l l' : List D} {cap n : Nat} {cs' : List Value} (hn : noTup e = true) (hl : ∀ x ∈ l, wt e x) (hl' : ∀ x ∈ l', wt e x) (hv : v ∉ s.dead) (hβ : β v = some (b, off + l.length * e.size)) (hr : rsz w b = some n) (hcap : off + cap * e.size ≤ n)
    (hneed : l.length + l'.length ≤ cap) (hc : CRat w S b off (D.flats l)) (hc' : CRl w S (D.flats l') cs') (hv' : β v' = none) (hi : v' < s.base + 4096) :
    ∃ S' β', Rp w0 S' γ β' { s with dead := v :: s.dead } a (putAt w b (off + l.length * e.size) cs'.toArray) ∧
      AR ⟨putAt w b (off + l.length * e.size) cs'.toArray, S', γ, β', s.ob, v :: s.dead⟩ (.own e v' (l ++ l')) (.slice (some ⟨b, off, none⟩) (l.length + l'.length) cap) ∧
      (∀ b o, S b o → S' b o) ∧ (∀ b' o, S b' o → (putAt w b (off + l.length * e.size) cs'.toArray).cell? ⟨b', o, none⟩ = w.cell? ⟨b', o, none⟩) ∧ (∀ u, u ≠ v' → β' u = β u) := by
  obtain ⟨c, hrow, hcn⟩ := row_of_rsz hr
  have len' : cs'.length = l'.length * e.size := by rw [← hc'.1]; exact flats_len_of hn l' hl'
  generalize he0 : off + l.length * e.size = e0 at *
  obtain ⟨bn1, bn2, bn3⟩ := h.βn v b e0 hv hβ
  have hsz : e0 + cs'.toArray.size ≤ c.size := by
    simp only [List.size_toArray, len', hcn]
    have : (l.length + l'.length) * e.size ≤ cap * e.size := Nat.mul_le_mul_right _ hneed
    rw [Nat.add_mul] at this
    omega
  let S' : Nat → Nat → Prop := fun b' o => S b' o ∨ (b' = b ∧ e0 ≤ o ∧ o < e0 + cs'.length)
  have hcell : ∀ b' o, S b' o → (putAt w b e0 cs'.toArray).cell? ⟨b', o, none⟩ = w.cell? ⟨b', o, none⟩ := fun b' o hb => by
    by_cases e : b' = b
    · subst e
      exact cell_putAt_below hrow hsz (Nat.lt_of_not_le fun hh => bn3 o hh hb)
    · exact cell_putAt_ne e
  have nd : ∀ {u}, u ∉ v :: s.dead → u ∉ s.dead ∧ u ≠ v := fun hu => ⟨fun hh => hu (List.mem_cons_of_mem _ hh), fun hh => hu (hh ▸ List.mem_cons_self)⟩
  have hle : Cx.le ⟨w, S, γ, β, s.ob, s.dead⟩ ⟨putAt w b e0 cs'.toArray, S', γ, upd β v' (b, e0 + cs'.length), s.ob, v :: s.dead⟩ :=
    ⟨hcell, fun _ _ hb => .inl hb, fun _ _ k => k, fun id o ho _ => ⟨o, ho, fun p => ⟨rfl, rfl⟩, fun t l e => ⟨l, e, rfl⟩, fun _ _ l e => ⟨l, e⟩⟩, fun u hu => ⟨(nd hu).1, fun b' e he => ⟨upd_le hv' he, fun n hn => by rw [rsz_putAt hrow hsz]; exact hn⟩⟩⟩
  have hRp : Rp w0 S' γ (upd β v' (b, e0 + cs'.length)) { s with dead := v :: s.dead } a (putAt w b e0 cs'.toArray) := by
    refine ⟨ext_of h.ext rfl rfl rfl (by simp) (Nat.le_refl _) (fun b' hb' => heap_putAt (fun e => bn1 (e ▸ hb'))), fun t ht => (h.tms t ht).mono hle, h.nt, h.tmu, fun id o b' ho hb' => ?_, fun id b' hb' => by simpa using h.γn id b' hb', h.γi, h.γf, fun u b' e hu he => ?_, fun u u' b' e e' hu hu' he he' => ?_, fun u id b' e hu he => ?_, fun u hu => ?_, fun b' o hb' => ?_, fun b' o hb' hlt => ?_, h.df⟩
    · have hne : b' ≠ b := fun e => h.βγ v id b e0 hv hβ (e ▸ hb')
      refine (h.obs id o b' ho hb').mono hle (heap_putAt hne) fun o hh => ?_
      rcases hh with hh | hh
      · exact hh
      · exact absurd hh.1 hne
    · obtain ⟨nu1, nu2⟩ := nd hu
      by_cases e1 : u = v'
      · subst e1
        rw [upd_same] at he
        cases he
        refine ⟨bn1, by simpa using bn2, fun o ho hh => ?_⟩
        rcases hh with hh | hh
        · exact bn3 o (by omega) hh
        · omega
      · rw [upd_ne β _ e1] at he
        obtain ⟨k1, k2, k3⟩ := h.βn u b' e nu1 he
        refine ⟨k1, by simpa using k2, fun o ho hh => ?_⟩
        rcases hh with hh | hh
        · exact k3 o ho hh
        · obtain ⟨hh, _⟩ := hh
          subst hh
          exact nu2 (h.βi u v b' _ _ nu1 hv he hβ)
    · obtain ⟨nu1, nu2⟩ := nd hu
      obtain ⟨nu1', nu2'⟩ := nd hu'
      by_cases e1 : u = v'
      · by_cases e2 : u' = v'
        · rw [e1, e2]
        · subst e1
          rw [upd_same] at he; cases he
          rw [upd_ne β _ e2] at he'
          exact absurd (h.βi u' v b _ _ nu1' hv he' hβ) nu2'
      · by_cases e2 : u' = v'
        · subst e2
          rw [upd_same] at he'; cases he'
          rw [upd_ne β _ e1] at he
          exact absurd (h.βi u v b _ _ nu1 hv he hβ) nu2
        · rw [upd_ne β _ e1] at he; rw [upd_ne β _ e2] at he'
          exact h.βi u u' b' e e' nu1 nu1' he he'
    · by_cases e1 : u = v'
      · subst e1
        rw [upd_same] at he; cases he
        exact h.βγ v id b e0 hv hβ
      · rw [upd_ne β _ e1] at he
        exact h.βγ u id b' e (nd hu).1 he
    · have hu' : s.base + 4096 ≤ u := hu
      rw [upd_ne β _ (by omega)]
      exact h.βf u hu'
    · rcases hb' with hb' | hb'
      · simpa using h.Sb b' o hb'
      · simpa [hb'.1] using bn2
    · rcases hb' with hb' | hb'
      · exact h.So b' o hb' hlt
      · exact absurd (hb'.1 ▸ hlt) bn1
  refine ⟨S', _, hRp, ?_, fun _ _ hb => .inl hb, hcell, fun u hu => upd_ne β _ hu⟩
  simp only [AR, AC, Value.cells]
  refine ⟨by simp, hn, fun x hx => (List.mem_append.1 hx).elim (hl x) (hl' x), some ⟨b, off, none⟩, cap, by rw [List.length_append], ?_, fun _ => .inr ⟨b, off, rfl, ?_, n, by show rsz (putAt w b e0 cs'.toArray) b = some n; rw [rsz_putAt hrow hsz]; exact hr, hcap⟩⟩
  · obtain ⟨cs, k1, k2⟩ := hc
    refine CR.of_elems (.inr rfl) (by rw [List.length_append]; exact hneed) ⟨cs ++ cs', ?_, fun i x hx => ?_⟩
    · rw [flats_append]
      exact (k1.append hc').mono hcell fun _ _ hh => .inl hh
    · have len : cs.length = l.length * e.size := by rw [← k1.1]; exact flats_len_of hn l hl
      rw [List.getElem?_append] at hx
      by_cases hi2 : i < cs.length
      · rw [if_pos hi2] at hx
        obtain ⟨m1, m2⟩ := k2 i x hx
        exact ⟨.inl m1, (hcell _ _ m1).trans m2⟩
      · rw [if_neg hi2] at hx
        have hlt := (List.getElem?_eq_some_iff.1 hx).1
        refine ⟨.inr ⟨rfl, by omega, by omega⟩, ?_⟩
        rw [show off + i = e0 + (i - cs.length) by omega, cell_putAt_in hrow hsz (by simpa using hlt)]
        simpa using hx
  · show upd β v' (b, e0 + cs'.length) v' = _
    rw [upd_same, List.length_append, len', Nat.add_mul]
    congr 2; omega
/-- append, run. -/
theorem run_append {T T' u' : TypeId} {e : Ty} (hE : layB P (.sl e) T = true) (hT' : P.underlying T' = some (.slice u')) {A : Option Addr} {len cap : Nat} {l l' : List D} {vy : Value} (ty : TypeId) (hlen : len = l.length) (hl : ∀ x ∈ l, wt e x) (hl' : ∀ x ∈ l', wt e x)
    (hx : CR w S (.sl l) (.slice A len cap)) (hy : CR w S (.sl l') vy) (hb : l.length + l'.length ≤ 1073741824) :
    ∃ cs cs' : List Value, CRl w S (D.flats l) cs ∧ CRl w S (D.flats l') cs' ∧ ∃ u, 
      (l.length + l'.length ≤ cap → (A = none → (Builtin.append_ #[T, T'] ty #[.slice A len cap, vy]).run P w = .ok (.slice none (l.length + l'.length) cap) w) ∧
        (∀ b off c, A = some ⟨b, off, none⟩ → row? w b = some c → off + cap * e.size ≤ c.size → (Builtin.append_ #[T, T'] ty #[.slice A len cap, vy]).run P w = .ok (.slice A (l.length + l'.length) cap) (putAt w b (off + l.length * e.size) cs'.toArray))) ∧
      (cap < l.length + l'.length → ∃ newCap rest, l.length + l'.length ≤ newCap ∧ (cs ++ cs').length + rest.length = newCap * e.size ∧
        (Builtin.append_ #[T, T'] ty #[.slice A len cap, vy]).run P w = .ok (.slice (some ⟨w.heap.size, 0, none⟩) (l.length + l'.length) newCap) (grown w [.cells ((cs ++ cs') ++ rest).toArray u] (w.drawn + 1))) := by
  subst hlen
  obtain ⟨u, k1, k2⟩ := lay_sl hE
  have hn : noTup e = true := layB_noTup _ _ k2
  obtain ⟨i0, z0, hi1, hi2, hi3, hi4, hi5, _⟩ := infoB_info (layB_info k2)
  have hx1 : CR { w with drawn := w.drawn + 1 } S (.sl l) (.slice A l.length cap) := CR.mono (w := w) (w' := { w with drawn := w.drawn + 1 }) (S := S) (S' := S) (fun _ _ _ => rfl) (fun _ _ h => h) hx
  have hy1 : CR { w with drawn := w.drawn + 1 } S (.sl l') vy := CR.mono (w := w) (w' := { w with drawn := w.drawn + 1 }) (S := S) (S' := S) (fun _ _ _ => rfl) (fun _ _ h => h) hy
  obtain ⟨cs, c1, c2⟩ := run_firstCells (P := P) hn hl hx1
  obtain ⟨cs', d1, d2⟩ := run_firstCells (P := P) hn hl' hy
  obtain ⟨cs'', d3, d4⟩ := run_firstCells (P := P) hn hl' hy1
  have len : cs.length = l.length * e.size := by rw [← c1.1]; exact flats_len_of hn l hl
  have len' : cs'.length = l'.length * e.size := by rw [← d1.1]; exact flats_len_of hn l' hl'
  have len'' : cs''.length = l'.length * e.size := by rw [← d3.1]; exact flats_len_of hn l' hl'
  have hcs : cs'' = cs' := by
    obtain ⟨A', cap', b, off, hv, q1, q2, q3⟩ := hy.elems
    subst hv
    have e1 := d2
    have e2 := d4
    cases A' with
    | none =>
      simp only [Builtin.firstCells, Sem.run_pure, Result.ok.injEq] at e1 e2
      have := e1.1.symm.trans e2.1
      simpa using this.symm
    | some A' =>
      rcases q1 with rfl | q1
      · simp at len' len''
        rw [len', len'']
      · cases q1
        obtain ⟨ds, r1, r2⟩ := q3
        have hld : ds.length = l'.length * e.size := by rw [← r1.1]; exact flats_len_of hn l' hl'
        have f1 := run_loadCells_list (P := P) w ⟨b, off, none⟩ ds (fun j v hv => by rw [add_none]; exact (r2 j v hv).2)
        have f2 := run_loadCells_list (P := P) { w with drawn := w.drawn + 1 } ⟨b, off, none⟩ ds (fun j v hv => by rw [add_none]; exact (r2 j v hv).2)
        simp only [Builtin.firstCells] at e1 e2
        rw [hld] at f1 f2
        rw [f1] at e1
        rw [f2] at e2
        simp only [Result.ok.injEq] at e1 e2
        have := e1.1.symm.trans e2.1
        simpa using this.symm
  subst hcs
  have hlenOf : (Builtin.lenOf vy).run P w = .ok l'.length w := by
    obtain ⟨A', cap', b, off, hv, _⟩ := hy.elems; subst hv; rfl
  refine ⟨cs, cs'', CRl.mono (w := { w with drawn := w.drawn + 1 }) (w' := w) (S := S) (S' := S) (fun _ _ _ => rfl) (fun _ _ h => h) c1, d1, u, fun hcap => ⟨fun hA => ?_, fun b off c hA hrow hsz => ?_⟩, fun hcap => ?_⟩
  · subst hA
    simp only [Builtin.append_, List.getElem?_toArray, List.getElem?_cons_zero, List.getElem?_cons_succ, Sem.run_bind, run_underlying k1, run_underlying hT', Result.andThen_ok, lay_size k2, Sem.run_pure, Bool.false_eq_true, if_false, hlenOf, hcap, if_true, Bool.not_false, d2]
  · subst hA
    have hst := run_storeCells_list (P := P) b (off + l.length * e.size) cs'' 0 w c hrow (by
      have : (l.length + l'.length) * e.size ≤ cap * e.size := Nat.mul_le_mul_right _ hcap
      rw [Nat.add_mul] at this
      omega) (by rw [List.all_eq_true]; intro x hx; have := d1.nag x hx; cases x <;> simp_all [Value.oneCell', isOne])
    simp only [Nat.add_zero] at hst
    simp only [Builtin.append_, List.getElem?_toArray, List.getElem?_cons_zero, List.getElem?_cons_succ, Sem.run_bind, run_underlying k1, run_underlying hT', Result.andThen_ok, lay_size k2, Sem.run_pure, Bool.false_eq_true, if_false, hlenOf, hcap, if_true, Bool.not_false, d2, add_none, hst]
  · have hnc : ¬ (l.length + l'.length ≤ cap) := by omega
    have hb1 : ¬ (Builtin.nextslicecap (l.length + l'.length) cap * i0.bytes > 2 ^ 48) := by
      have h1 := nextcap_le hcap
      have h2 : Builtin.nextslicecap (l.length + l'.length) cap * i0.bytes ≤ (2 * 1073741824 + 200) * 16384 := Nat.mul_le_mul (by omega) hi3.1
      omega
    have hmax : ¬ (((l.length + l'.length : Nat) : Int) > IntKind.i64.max) := by
      have : IntKind.i64.max = 9223372036854775807 := by decide
      omega
    let t := w.tape w.drawn (.appendCap (l.length + l'.length) cap u)
    let newCap := l.length + l'.length + t % (2 ^ 63 - (l.length + l'.length))
    have hzs : z0.cells.size = e.size := by
      have := (zeroB_CRl (w := w) (S := S) hi5).1
      rw [← Array.length_toList, ← this]; exact wt_len _ _ (zeroD_wt e hn) hn
    refine ⟨newCap, (Builtin.zeroCells z0.cells (newCap - (l.length + l'.length))).toList, by omega, ?_, ?_⟩
    · have : (Builtin.zeroCells z0.cells (newCap - (l.length + l'.length))).toList.length = (newCap - (l.length + l'.length)) * e.size := by simp [Builtin.zeroCells, hzs]
      rw [this, List.length_append, len, len', ← Nat.add_mul, ← Nat.add_mul]
      congr 1; omega
    · have hf : Question.forced (.appendCap (l.length + l'.length) cap u) = false := rfl
      simp only [Builtin.append_, List.getElem?_toArray, List.getElem?_cons_zero, List.getElem?_cons_succ, Sem.run_bind, run_underlying k1, run_underlying hT', Result.andThen_ok, lay_size k2, Sem.run_pure, Bool.false_eq_true, if_false, hlenOf, hnc, Bool.not_false, if_true, typeInfo, run_program, hi1, false_or, hmax, false_and, hb1, run_choose, hf, run_askRoom, c2, d4, zeroValue, hi4, newRow, run_newObj]
      have e1 : (cs ++ cs'' ++ (Builtin.zeroCells z0.cells (newCap - (l.length + l'.length))).toList).toArray = cs.toArray ++ cs''.toArray ++ Builtin.zeroCells z0.cells (newCap - (l.length + l'.length)) := by simp
      rw [e1]
      simp only [grown]
      rw [Array.push_eq_append]
      rfl
theorem ev1_append (hE : EnvOk P E) (h : Rp w0 S γ β s a w) {dst args argTypes ty pos after guard} (hf : Fr E s γ β ⟨dst, .call ⟨.builtin .append, args, argTypes⟩, ty, pos, after, guard⟩) (hlk : ∀ t ∈ s.lkS, dst ≠ some t) {R : Type} {K : St → Option R} {r : R}
    (hq : ev1 E s ⟨dst, .call ⟨.builtin .append, args, argTypes⟩, ty, pos, after, guard⟩ K = some r) : ∃ s', K s' = some r ∧ Ev1 P w0 S γ β s a w ⟨dst, .call ⟨.builtin .append, args, argTypes⟩, ty, pos, after, guard⟩ s' := by
  simp only [ev1] at hq
  replace hq := bind_some_inv hq; obtain ⟨T, hT, hq⟩ := hq
  replace hq := bind_some_inv hq; obtain ⟨t, ht, hq⟩ := hq
  replace hq := bind_some_inv hq; obtain ⟨d, hd, hq⟩ := hq
  split at hq <;> first | (cases hq; done) | skip
  rename_i e x y T0 T' hargs htys
  split at hq <;> first | (cases hq; done) | skip
  rename_i e2 ht2
  replace hq := bind_some_inv hq; obtain ⟨l', hl', hq⟩ := hq
  obtain ⟨hd4, hγ, hβ, _⟩ := hf rfl d hd
  rcases hE.lay T _ ht with ⟨ts', hts⟩ | hl
  · cases hts
  rcases hE.lay T' _ ht2 with ⟨ts', hts⟩ | hlT'
  · cases hts
  obtain ⟨u2, hu2, _⟩ := lay_sl hlT'
  have hn := layB_noTup _ _ hl
  simp only [noTup] at hn
  have hT0 : T0 = T := by
    have : argTypes = #[T0, T'] := Array.ext' (by simpa using htys)
    subst this; simpa using hT
  subst hT0
  have eT : argTypes = #[T0, T'] := Array.ext' (by simpa using htys)
  have eA : args.map a.eval = #[a.eval x, a.eval y] := Array.ext' (by simp [hargs])
  have hex : execOp a.eval ⟨dst, .call ⟨.builtin .append, args, argTypes⟩, ty, pos, after, guard⟩ = (Builtin.append_ #[T0, T'] ty #[a.eval x, a.eval y] >>= fun v => pure (.value v)) := by
    rw [← eA, ← eT]; rfl
  obtain ⟨y1, y2⟩ := asList_ok hn (opA_ok h y) hl'
  have hx := opA_ok h x
  have own : ∀ id : Nat, (dst ≠ some (id - s.base) ∨ id < s.base) → id ≠ s.base + d := fun id hid e => by
    subst e
    rcases hid with hid | hid
    · exact hid (by rw [hd, Nat.add_sub_cancel_left])
    · omega
  split at hq <;> first | (cases hq; done) | skip
  · -- a slice of this call's own
    rename_i e' v l hox
    rw [hox] at hx
    split at hq <;> first | (cases hq; done) | skip
    rename_i hb
    split at hq <;> first | (cases hq; done) | skip
    rename_i hlen
    simp only [Bool.and_eq_true, Bool.not_eq_true'] at hb
    have := Ty.eq_of_beq _ _ hb.1; subst this
    have hvd : v ∉ s.dead := fun hh => by
      have : s.dead.contains v = true := by simpa using hh
      rw [this] at hb; cases hb.2
    simp only [AR, AC] at hx
    obtain ⟨x0, x1, x2, A, cap, x3, x4, x5⟩ := hx
    have x3 := cells_single x0 x3
    obtain ⟨cs, cs', c1, c2, u, r1, r2⟩ := run_append (P := P) (w := w) (S := S) hl hu2 ty rfl x2 y1 x4 y2 hlen
    obtain ⟨p1, p2, p3, p4, p5, p6, p7⟩ := St.put_fields { s with dead := v :: s.dead } dst (.own e' (s.base + d) (l ++ l'))
    refine ⟨_, hq, p5, p6, p2, p4, fun id _ _ => by rw [p1], ?_⟩
    rcases Nat.lt_or_ge cap (l.length + l'.length) with hcap | hcap
    · obtain ⟨newCap, rest, n1, n2, n3⟩ := r2 hcap
      obtain ⟨b1, b2⟩ := h.bury v
      obtain ⟨S', β', k1, k2, k3, k4, k5, k6⟩ := own_new b1 (v := s.base + d) hβ (by show s.base + d < s.base + 4096; omega) hn (l := l ++ l') (fun z hz => (List.mem_append.1 hz).elim (x2 z) (y1 z)) (cs := cs ++ cs') (by rw [flats_append]; exact c1.append c2) (T := u) (rest := rest) (cap := newCap) (w.drawn + 1) (Nat.le_succ _) (by rw [List.length_append]; exact n1) n2
      rw [List.length_append] at k2
      refine .value (by rw [hex, x3]; simp only [Sem.run_bind, n3, Result.andThen_ok, Sem.run_pure]) ⟨S', γ, β', k1.put k2 dst, ⟨k3, fun b o hb => cell_grown (h.Sb b o hb), fun t ht => put_slot (hlk t ht), fun id hid b hb => ⟨hb, grown_old (h.γn id b hb).2⟩, by simp, fun _ _ hb => hb⟩, fun id hid => ⟨rfl, k4 id (own id hid)⟩⟩
    · obtain ⟨r3, r4⟩ := r1 hcap
      rcases x5 hvd with ⟨rfl, rfl⟩ | ⟨b, off, rfl, hbv, n, hn1, hn2⟩
      · have z1 : l = [] := by apply List.eq_nil_of_length_eq_zero; omega
        have z2 : l' = [] := by apply List.eq_nil_of_length_eq_zero; omega
        obtain ⟨b1, b2⟩ := h.bury v
        subst z1; subst z2
        refine .value (by rw [hex, x3]; simp only [Sem.run_bind, r3 rfl, Result.andThen_ok, Sem.run_pure]; rfl) ⟨S, γ, β, b1.put (AR_own_nil hn) dst, ⟨fun _ _ hb => hb, fun _ _ _ => rfl, fun t ht => put_slot (hlk t ht), fun id hid b hb => ⟨hb, rfl⟩, Nat.le_refl _, fun _ _ hb => hb⟩, fun id hid => ⟨rfl, rfl⟩⟩
      · obtain ⟨c, hrow, hcn⟩ := row_of_rsz hn1
        obtain ⟨S', β', k1, k2, k3, k4, k5⟩ := own_more h (v' := s.base + d) hn x2 y1 hvd hbv hn1 hn2 hcap x4.at_ c2 hβ (by omega)
        refine .value (by rw [hex, x3]; simp only [Sem.run_bind, r4 b off c rfl hrow (by omega), Result.andThen_ok, Sem.run_pure]) ⟨S', γ, β', k1.put k2 dst, ⟨k3, k4, fun t ht => put_slot (hlk t ht), fun id hid b' hb' => ⟨hb', heap_putAt fun e => h.βγ v id b _ hvd hbv (e ▸ hb')⟩, by simp, fun _ _ hb => hb⟩, fun id hid => ⟨rfl, k5 id (own id hid)⟩⟩
  · -- the nil slice
    rename_i hox
    rw [hox] at hx
    split at hq <;> first | (cases hq; done) | skip
    rename_i hlen
    simp only [AR, AC] at hx
    have x3 := cells_single hx.1 hx.2
    have hnil : CR w S (.sl []) (.slice none 0 0) := .sl [] none 0 0 0 (fun _ => undef) (.inl rfl) (Nat.le_refl 0) (fun i d hd => by simp [D.flats] at hd) (fun i d hd => by simp [D.flats] at hd)
    obtain ⟨cs, cs', c1, c2, u, r1, r2⟩ := run_append (P := P) (w := w) (S := S) hl hu2 (len := 0) ty (l := []) rfl (fun x hx => by simp at hx) y1 hnil y2 (by simpa using hlen)
    obtain ⟨p1, p2, p3, p4, p5, p6, p7⟩ := St.put_fields s dst (.own e (s.base + d) l')
    refine ⟨_, hq, p5, p6, p2, p4, fun id _ _ => by rw [p1], ?_⟩
    rcases Nat.lt_or_ge 0 l'.length with hcap | hcap
    · obtain ⟨newCap, rest, n1, n2, n3⟩ := r2 (by simpa using hcap)
      obtain ⟨S', β', k1, k2, k3, k4, k5, k6⟩ := own_new h (v := s.base + d) hβ (by omega) hn (l := [] ++ l') (fun z hz => y1 z (by simpa using hz)) (cs := cs ++ cs') (by rw [flats_append]; exact c1.append c2) (T := u) (rest := rest) (cap := newCap) (w.drawn + 1) (Nat.le_succ _) (by rw [List.length_append]; exact n1) n2
      rw [List.length_append] at k2
      rw [List.nil_append] at k2
      refine .value (by rw [hex, x3]; simp only [Sem.run_bind, n3, Result.andThen_ok, Sem.run_pure]) ⟨S', γ, β', k1.put k2 dst, ⟨k3, fun b o hb => cell_grown (h.Sb b o hb), fun t ht => put_slot (hlk t ht), fun id hid b hb => ⟨hb, grown_old (h.γn id b hb).2⟩, by simp, fun _ _ hb => hb⟩, fun id hid => ⟨rfl, k4 id (own id hid)⟩⟩
    · have z2 : l' = [] := by apply List.eq_nil_of_length_eq_zero; omega
      subst z2
      obtain ⟨r3, _⟩ := r1 (by simp)
      refine .value (by rw [hex, x3]; simp only [Sem.run_bind, r3 rfl, Result.andThen_ok, Sem.run_pure]; rfl) ⟨S, γ, β, h.put (AR_own_nil hn) dst, ⟨fun _ _ hb => hb, fun _ _ _ => rfl, fun t ht => put_slot (hlk t ht), fun id hid b hb => ⟨hb, rfl⟩, Nat.le_refl _, fun _ _ hb => hb⟩, fun id hid => ⟨rfl, rfl⟩⟩
/-- Every operation. -/
theorem ev1_ok (hE : EnvOk P E) (h : Rp w0 S γ β s a w) {o : Oper} (hf : Fr E s γ β o) (hT : ∀ T t, (o.op = .alloc T ∨ ∃ x, o.op = .box T x) → E.L T = some t → noTup t = true) (hlk : ∀ t ∈ s.lkS, o.dst ≠ some t) (hst : ∀ T x y, o.op = .store T x y → o.dst = none) {R : Type} {K : St → Option R} {r : R}
    (hq : ev1 E s o K = some r) : ∃ s', K s' = some r ∧ Ev1 P w0 S γ β s a w o s' := by
  have quiet : qv E s o (fun v => K (s.put o.dst v)) = some r → ∃ s', K s' = some r ∧ Ev1 P w0 S γ β s a w o s' := fun hq => ev1_quiet hE h hf (fun T t e => hT T t (.inl e)) hlk hq
  obtain ⟨dst, op, ty, pos, after, guard⟩ := o
  cases op
  case store T x y => exact ev1_store hE h hlk (hst T x y rfl) hq
  case box T x => exact ev1_box hE h hf hlk (fun t => hT T t (.inr ⟨x, rfl⟩)) hq
  case makeSlice T x y => exact ev1_makeSlice hE h hf hlk hq
  case makeMap T x => exact ev1_makeMap hE h hf hlk hq
  case mapUpdate T x y z => exact ev1_mapUpdate hE h hq
  case call c =>
    obtain ⟨callee, args, argTypes⟩ := c
    cases callee
    case builtin b =>
      cases b
      case append => exact ev1_append hE h hf hlk hq
      all_goals exact quiet hq
    all_goals exact quiet hq
  all_goals exact quiet hq
end
end Go.Proofs.YtjjjkojfijpeeaaGreat.Sy
end
section
/- Sy: the evaluator's steps as values; weaker states; the order of a region's first operations. -/
namespace Go.Proofs.YtjjjkojfijpeeaaGreat.Sy
open Go

theorem bind_fac {α β R : Type} {x : Option α} {f : α → Option R} {g : α → Option β} {K : β → Option R} (h : ∀ a, f a = (g a).bind K) : x.bind f = (x.bind g).bind K := by
  cases x with
  | none => rfl
  | some a => exact h a
theorem getA_fac {R : Type} : ∀ (p : List Nat) (a : AV) (K : AV → Option R), getA a p K = (getA a p some).bind K := by
  intro p
  induction p with
  | nil => intro a K; cases a <;> rfl
  | cons i p ih =>
    intro a K
    cases a <;> simp only [getA] <;> first
      | rfl
      | exact bind_fac fun t => bind_fac fun y => rfl
      | exact bind_fac fun b => ih b K
theorem readOb_fac {R : Type} (o : Ob) (p : List Nat) (K : AV → Option R) : readOb o p K = (readOb o p some).bind K := by
  cases o with
  | one t v => exact getA_fac p v K
  | many t l =>
    cases p with
    | nil => rfl
    | cons i p => exact bind_fac fun x => getA_fac p _ K
  | mp kt vt l => rfl
theorem setA_fac : ∀ (p : List Nat) (R : Type) (a b : AV) (K : AV → Option R), setA a p b K = (setA a p b some).bind K := by
  intro p
  induction p with
  | nil => intro R a b K; cases a <;> rfl
  | cons i p ih =>
    intro R a b K
    cases a <;> simp only [setA] <;> first
      | rfl
      | (cases b <;> first | rfl | exact bind_fac fun y => rfl)
      | skip
    rename_i ts l
    refine bind_fac fun c => ?_
    rw [ih R c b, ih AV c b fun a' => some (AV.st ts (l.set i a'))]
    cases setA c p b some <;> rfl
theorem readOb_fac2 {R : Type} {o : Ob} {p : List Nat} {f : AV → Option R} {g : AV → Option AV} {K : AV → Option R} (h : ∀ v, f v = (g v).bind K) : readOb o p f = (readOb o p g).bind K := by
  rw [readOb_fac, readOb_fac _ _ g]
  cases readOb o p some with
  | none => rfl
  | some v => exact h v
theorem qv_fac {R : Type} (E : Env) (s : St) (o : Oper) (K : AV → Option R) : qv E s o K = (qv E s o some).bind K := by
  obtain ⟨dst, op, ty, pos, after, guard⟩ := o
  cases op <;> simp only [qv] <;> (repeat' first | rfl | exact readOb_fac _ _ _ | refine readOb_fac2 fun _ => ?_ | refine bind_fac fun _ => ?_ | split)
theorem ev1_fac {R : Type} (E : Env) (s : St) (o : Oper) (K : St → Option R) : ev1 E s o K = (ev1 E s o some).bind K := by
  have q : qv E s o (fun v => K (s.put o.dst v)) = (qv E s o (fun v => some (s.put o.dst v))).bind K := by
    rw [qv_fac, qv_fac E s o fun v => some (s.put o.dst v)]
    cases qv E s o some <;> rfl
  obtain ⟨dst, op, ty, pos, after, guard⟩ := o
  cases op
  case store T x y =>
    simp only [ev1]
    repeat' first
      | rfl
      | refine bind_fac fun _ => ?_
      | split
    rename_i u v _
    rw [setA_fac _ R, setA_fac _ St]
    cases setA v _ (s.opA y) some <;> rfl
  case makeMap T x => simp only [ev1]; repeat' first | rfl | refine bind_fac fun _ => ?_ | split
  case mapUpdate T x y z => simp only [ev1]; repeat' first | rfl | refine bind_fac fun _ => ?_ | split
  case box T x => simp only [ev1]; repeat' first | rfl | refine bind_fac fun _ => ?_ | split
  case makeSlice T x y => simp only [ev1]; repeat' first | rfl | refine bind_fac fun _ => ?_ | split
  case call c =>
    obtain ⟨callee, args, argTypes⟩ := c
    cases callee
    case builtin b =>
      cases b
      case append => simp only [ev1]; repeat' first | rfl | refine bind_fac fun _ => ?_ | split
      all_goals exact q
    all_goals exact q
  all_goals exact q
theorem ev1L_fac {R : Type} (E : Env) (s : St) (o : Oper) (K : St → Option R) : ev1L E s o K = (ev1L E s o some).bind K := by
  unfold ev1L
  split
  · rfl
  · exact ev1_fac E s o K

/-- A state that knows less of its slots. -/
structure Wk (s s' : St) : Prop where
  tm : ∀ t, s'.tm t = s.tm t ∨ s'.tm t = .undef
  ob : s'.ob = s.ob
  fresh : s'.fresh = s.fresh
  dead : s'.dead = s.dead
  nt : s'.nt = s.nt
  lkS : s'.lkS = s.lkS
  lkO : s'.lkO = s.lkO
theorem Wk.refl (s : St) : Wk s s := ⟨fun _ => .inl rfl, rfl, rfl, rfl, rfl, rfl, rfl⟩
theorem Wk.trans {a b c : St} (h : Wk a b) (k : Wk b c) : Wk a c :=
  ⟨fun t => by
    rcases k.tm t with e | e
    · rw [e]; exact h.tm t
    · exact .inr e, k.ob.trans h.ob, k.fresh.trans h.fresh, k.dead.trans h.dead, k.nt.trans h.nt, k.lkS.trans h.lkS, k.lkO.trans h.lkO⟩
theorem Wk.put {s s' : St} (h : Wk s s') (d : Option Nat) {v v' : AV} (hv : v' = v ∨ v' = .undef) : Wk (s.put d v) (s'.put d v') := by
  cases d with
  | none => exact h
  | some d =>
    simp only [St.put, h.nt]
    split
    · refine ⟨fun t => ?_, h.ob, h.fresh, h.dead, by first | exact h.nt | rfl, h.lkS, h.lkO⟩
      by_cases e : t = d
      · simp only [e, if_true]; exact hv
      · simp only [e, if_false]; exact h.tm t
    · exact h
theorem Wk.kill (s : St) (d : Option Nat) : Wk s (s.put d .undef) := by
  cases d with
  | none => exact Wk.refl s
  | some d =>
    simp only [St.put]
    split
    · refine ⟨fun t => ?_, rfl, rfl, rfl, rfl, rfl, rfl⟩
      by_cases e : t = d
      · simp [e]
      · simp [e]
    · exact Wk.refl s
theorem Wk.killD : ∀ (l : List Oper) (s : St), Wk s (killD s l)
  | [], s => Wk.refl s
  | o :: l, s => (Wk.kill s o.dst).trans (Wk.killD l _)
theorem Wk.opA {s s' : St} (h : Wk s s') (x : Operand) : s'.opA x = s.opA x ∨ s'.opA x = .undef := by
  cases x with
  | tmp t => exact h.tm t
  | const v => exact .inl rfl
  | global g => exact .inl rfl
  | func f => exact .inl rfl
theorem toD_undef {ob : Nat → Option Ob} {t : Ty} : AV.toD ob t .undef = none := by cases t <;> rfl
theorem Rp.wk {w0 : Root} {S : Nat → Nat → Prop} {γ : Nat → Option Nat} {β : Nat → Option (Nat × Nat)} {s s' : St} {a : Act} {w : World} (h : Rp w0 S γ β s a w) (k : Wk s s') : Rp w0 S γ β s' a w := by
  have e1 := k.ob
  have e2 := k.dead
  have e3 : s'.base = s.base := by simp only [St.base, k.fresh]
  refine ⟨h.ext, fun t ht => ?_, h.nt.trans k.nt.symm, fun t ht => ?_, ?_, h.γn, h.γi, ?_, ?_, ?_, ?_, ?_, h.Sb, h.So, h.df⟩
  · rw [e1, e2]
    rcases k.tm t with e | e
    · rw [e]; exact h.tms t ht
    · rw [e]; simp [AR]
  · rcases k.tm t with e | e
    · rw [e]; exact h.tmu t (k.nt ▸ ht)
    · exact e
  · rw [e1, e2]; exact h.obs
  · rw [e3]; exact h.γf
  · rw [e2]; exact h.βn
  · rw [e2]; exact h.βi
  · rw [e2]; exact h.βγ
  · rw [e3]; exact h.βf
section
variable {E : Env} {s s' : St}
theorem Wk.toDl (h : Wk s s') : ∀ (l : List Operand) (ts : List Ty) {xs : List D}, AV.toDl s'.ob ts (l.map s'.opA) = some xs → AV.toDl s.ob ts (l.map s.opA) = some xs
  | [], ts, xs, hx => by cases ts <;> simpa [AV.toDl] using hx
  | y :: l, ts, xs, hx => by
    cases ts <;> simp only [List.map_cons, AV.toDl] at hx ⊢ <;> first | (cases hx; done) | skip
    obtain ⟨x, h1, h2⟩ := bind_some_inv hx
    obtain ⟨ys, h3, h4⟩ := bind_some_inv h2
    rcases h.opA y with e | e
    · rw [e, h.ob] at h1
      rw [h1, Option.bind_some, h.toDl l _ h3]
      exact h4
    · rw [e, toD_undef] at h1; cases h1
theorem Wk.partsD (h : Wk s s') (ty : Nat → Option Ty) : ∀ (l : List (Nat × Operand)) {xs : List (Nat × D)}, Sy.partsD s'.ob s' ty l = some xs → Sy.partsD s.ob s ty l = some xs
  | [], xs, hx => hx
  | (i, y) :: l, xs, hx => by
    simp only [Sy.partsD] at hx ⊢
    obtain ⟨t, h0, hx⟩ := bind_some_inv hx
    obtain ⟨x, h1, h2⟩ := bind_some_inv hx
    obtain ⟨ys, h3, h4⟩ := bind_some_inv h2
    rw [h0, Option.bind_some]
    rcases h.opA y with e | e
    · rw [e, h.ob] at h1
      rw [h1, Option.bind_some, h.partsD ty l h3]
      exact h4
    · rw [e, toD_undef] at h1; cases h1
theorem Wk.asList (h : Wk s s') {e : Ty} {x : Operand} {l : List D} (hx : (s'.opA x).asList s'.ob e = some l) : s'.opA x = s.opA x := by
  rcases h.opA x with k | k
  · exact k
  · rw [k] at hx; simp [AV.asList, toD_undef] at hx
theorem Wk.isD (h : Wk s s') {x : Operand} {p : Ty × D} (hx : Sy.isD (s'.opA x) = some p) : s'.opA x = s.opA x := by
  rcases h.opA x with k | k
  · exact k
  · rw [k] at hx; simp [Sy.isD] at hx
theorem Wk.truth (h : Wk s s') {x : Operand} {b : Bool} (hx : (s'.opA x).truth = some b) : s'.opA x = s.opA x := by
  rcases h.opA x with k | k
  · exact k
  · rw [k] at hx; simp [AV.truth] at hx
end
end Go.Proofs.YtjjjkojfijpeeaaGreat.Sy
end
section
/- Sy: operations that only look, in weaker states, and one behind the other. -/
namespace Go.Proofs.YtjjjkojfijpeeaaGreat.Sy
open Go

section
variable {E : Env} {s s' : St}
theorem Wk.base_eq (h : Wk s s') : s'.base = s.base := by simp only [St.base, h.fresh]
theorem Wk.qv (h : Wk s s') {o : Oper} {v' : AV} (hq : Sy.qv E s' o some = some v') : ∃ v, Sy.qv E s o some = some v ∧ (v' = v ∨ v' = .undef) := by
  obtain ⟨dst, op, ty, pos, after, guard⟩ := o
  have hob := h.ob
  have hba := h.base_eq
  have same : ∀ {x y : Option AV}, x = some v' → y = x → ∃ v, y = some v ∧ (v' = v ∨ v' = .undef) := fun hx hy => ⟨v', hy.trans hx, .inl rfl⟩
  cases op <;> simp only [Sy.qv] at hq ⊢ <;> (try (cases hq; done))
  case move x =>
    simp only [Option.some.injEq] at hq
    exact ⟨_, rfl, by rcases h.opA x with e | e <;> simp [← hq, e]⟩
  case assign x =>
    simp only [Option.some.injEq] at hq
    exact ⟨_, rfl, by rcases h.opA x with e | e <;> simp [← hq, e]⟩
  case pick c x y =>
    obtain ⟨b, h1, h2⟩ := bind_some_inv hq
    rw [← h.truth h1, h1, Option.bind_some]
    cases b
    · simp only [Bool.false_eq_true, if_false, Option.some.injEq] at h2 ⊢
      exact ⟨_, rfl, by rcases h.opA y with e | e <;> simp [← h2, e]⟩
    · simp only [if_true, Option.some.injEq] at h2 ⊢
      exact ⟨_, rfl, by rcases h.opA x with e | e <;> simp [← h2, e]⟩
  case alloc T => rw [hba] at hq; exact same hq rfl
  case load T x =>
    obtain ⟨t, h1, h2⟩ := bind_some_inv hq
    rcases h.opA x with e | e
    · rw [e, hob] at hq; exact same hq rfl
    · rw [e] at h2; cases h2
  case fieldAddr T x f =>
    obtain ⟨t, h1, h2⟩ := bind_some_inv hq
    rcases h.opA x with e | e
    · rw [e] at hq; exact same hq rfl
    · rw [e] at h2; cases t <;> cases h2
  case indexAddr T x i =>
    obtain ⟨t, h1, h2⟩ := bind_some_inv hq
    obtain ⟨p, h3, h4⟩ := bind_some_inv h2
    have ei := h.isD h3
    rcases h.opA x with e | e
    · rw [e, ei, hob] at hq; exact same hq rfl
    · rw [e] at h4
      cases t <;> simp [AV.asList, toD_undef] at h4
  case lookup T x i c =>
    obtain ⟨t, h1, h2⟩ := bind_some_inv hq
    rcases h.opA x with e | e
    · rw [e, hob] at h2 hq
      have ei : s'.opA i = s.opA i := by
        split at h2 <;> first | (cases h2; done) | skip
        split at h2 <;> first | (cases h2; done) | skip
        split at h2 <;> first | (cases h2; done) | skip
        split at h2 <;> first | (cases h2; done) | skip
        obtain ⟨p, h3, _⟩ := bind_some_inv h2
        exact h.isD h3
      rw [ei] at hq
      exact same hq rfl
    · rw [e] at h2; cases h2
  case field T x f =>
    obtain ⟨t, h1, h2⟩ := bind_some_inv hq
    rcases h.opA x with e | e
    · rw [e] at hq; exact same hq rfl
    · rw [e] at h2; cases t <;> cases h2
  case index T x i =>
    obtain ⟨t, h1, h2⟩ := bind_some_inv hq
    obtain ⟨p, h3, h4⟩ := bind_some_inv h2
    have ei := h.isD h3
    rcases h.opA x with e | e
    · rw [e, ei] at hq; exact same hq rfl
    · rw [e] at h4; cases t <;> cases h4
  case binOp op T x y T' =>
    obtain ⟨t, h1, h2⟩ := bind_some_inv hq
    obtain ⟨p, h3, h4⟩ := bind_some_inv h2
    obtain ⟨q, h5, h6⟩ := bind_some_inv h4
    rw [h.isD h3, h.isD h5] at hq
    exact same hq rfl
  case unOp op T x =>
    obtain ⟨p, h3, h4⟩ := bind_some_inv hq
    rw [h.isD h3] at hq
    exact same hq rfl
  case convert U T x =>
    obtain ⟨u, h1, h2⟩ := bind_some_inv hq
    obtain ⟨t, h1', h2⟩ := bind_some_inv h2
    obtain ⟨p, h3, h4⟩ := bind_some_inv h2
    rw [h.isD h3] at hq
    exact same hq rfl
  case nilCheck x =>
    rcases h.opA x with e | e
    · rw [e] at hq; exact same hq rfl
    · rw [e] at hq; cases hq
  case extract x i =>
    rcases h.opA x with e | e
    · rw [e] at hq; exact same hq rfl
    · rw [e] at hq; cases hq
  case build T ps =>
    obtain ⟨t, h1, h2⟩ := bind_some_inv hq
    rw [h1, Option.bind_some]
    cases t <;> simp only at h2 ⊢ <;> (try (cases h2; done))
    case st ts =>
      split at h2
      · rename_i hs
        rw [if_pos hs]
        split at h2 <;> first | (cases h2; done) | skip
        rename_i hall
        have key : ∀ (l : List (Nat × Operand)), l.all (fitsAt s' ts) = true → l.all (fitsAt s ts) = true ∧ (l.map fun p => (p.1, s'.opA p.2)) = l.map fun p => (p.1, s.opA p.2) := by
          intro l
          induction l with
          | nil => intro _; exact ⟨rfl, rfl⟩
          | cons p l ih =>
            intro hh
            simp only [List.all_cons, Bool.and_eq_true] at hh
            obtain ⟨k1, k2⟩ := ih hh.2
            have h3 := hh.1
            have e : s'.opA p.2 = s.opA p.2 := by
              rcases h.opA p.2 with e | e
              · exact e
              · unfold fitsAt at h3
                rw [e] at h3
                split at h3
                · rename_i u _; cases u <;> simp [AV.fits] at h3
                · cases h3
            have h3' : fitsAt s ts p = true := by unfold fitsAt at h3 ⊢; rw [e] at h3; exact h3
            simp only [List.all_cons, Bool.and_eq_true, List.map_cons, e, k2]
            exact ⟨⟨h3', k1⟩, trivial⟩
        obtain ⟨k1, k2⟩ := key _ hall
        rw [if_pos k1, ← k2]
        exact ⟨v', h2, .inl rfl⟩
      · rename_i hs
        rw [if_neg hs]
        obtain ⟨l, h3, h4⟩ := bind_some_inv h2
        rw [h.partsD _ _ h3, Option.bind_some]
        exact ⟨v', h4, .inl rfl⟩
    case arr n e =>
      obtain ⟨l, h3, h4⟩ := bind_some_inv h2
      rw [h.partsD _ _ h3, Option.bind_some]
      exact ⟨v', h4, .inl rfl⟩
  case buildSlice T n ps =>
    obtain ⟨t, h1, h2⟩ := bind_some_inv hq
    rw [h1, Option.bind_some]
    cases t <;> simp only at h2 ⊢ <;> (try (cases h2; done))
    split at h2 <;> first | (cases h2; done) | skip
    rename_i hn
    rw [if_pos hn]
    obtain ⟨d, h3, h4⟩ := bind_some_inv h2
    obtain ⟨l, h5, h6⟩ := bind_some_inv h4
    rw [h3, Option.bind_some, h.partsD _ _ h5, Option.bind_some, ← hba]
    exact ⟨v', h6, .inl rfl⟩
  case slice T x lo hi mx =>
    cases mx with
    | some m => cases hq
    | none =>
      obtain ⟨t, h1, h2⟩ := bind_some_inv hq
      cases t <;> simp only at h2 <;> (try (cases h2; done))
      case arr m e =>
        rcases h.opA x with ex | ex
        · rw [ex] at h2 hq
          rw [hob] at hq
          have key : (∀ i, lo = some i → s'.opA i = s.opA i) ∧ (∀ i, hi = some i → s'.opA i = s.opA i) := by
            clear hq
            split at h2 <;> first | (cases h2; done) | skip
            split at h2 <;> first | (cases h2; done) | skip
            obtain ⟨lo', h5, h6⟩ := bind_some_inv h2
            obtain ⟨hi', h7, h8⟩ := bind_some_inv h6
            refine ⟨fun i hi => ?_, fun i hi => ?_⟩
            · subst hi
              obtain ⟨p, h9, _⟩ := bind_some_inv h5
              exact h.isD h9
            · subst hi
              obtain ⟨p, h9, _⟩ := bind_some_inv h7
              exact h.isD h9
          obtain ⟨elo, ehi⟩ := key
          clear h2
          cases lo <;> cases hi <;> simp only at hq ⊢
          · exact same hq rfl
          · rw [ehi _ rfl] at hq; exact same hq rfl
          · rw [elo _ rfl] at hq; exact same hq rfl
          · rw [elo _ rfl, ehi _ rfl] at hq; exact same hq rfl
        · rw [ex] at h2; cases h2
      obtain ⟨l, h3, h4⟩ := bind_some_inv h2
      obtain ⟨lo', h5, h6⟩ := bind_some_inv h4
      obtain ⟨hi', h7, h8⟩ := bind_some_inv h6
      have ex := h.asList h3
      have elo : ∀ i, lo = some i → s'.opA i = s.opA i := fun i hi => by
        subst hi
        obtain ⟨p, h9, _⟩ := bind_some_inv h5
        exact h.isD h9
      have ehi : ∀ i, hi = some i → s'.opA i = s.opA i := fun i hi => by
        subst hi
        obtain ⟨p, h9, _⟩ := bind_some_inv h7
        exact h.isD h9
      rw [ex, hob] at hq
      cases lo <;> cases hi <;> simp only at hq ⊢
      · exact same hq rfl
      · rw [ehi _ rfl] at hq; exact same hq rfl
      · rw [elo _ rfl] at hq; exact same hq rfl
      · rw [elo _ rfl, ehi _ rfl] at hq; exact same hq rfl
  case sliceToArrayPointer T x =>
    obtain ⟨t, h1, h2⟩ := bind_some_inv hq
    rcases h.opA x with e | e
    · rw [e] at hq; exact same hq rfl
    · rw [e] at h2; cases t <;> cases h2
  case makeFunc fn first captured =>
    cases fn <;> simp only at hq ⊢ <;> (try (cases hq; done))
    split at hq <;> first | (cases hq; done) | skip
    rename_i hh
    have key : ∀ (l : List Operand), (l.all fun x => isPtr (s'.opA x)) = true → (l.all fun x => isPtr (s.opA x)) = true ∧ l.map s'.opA = l.map s.opA := by
      intro l
      induction l with
      | nil => intro _; exact ⟨rfl, rfl⟩
      | cons p l ih =>
        intro hh
        simp only [List.all_cons, Bool.and_eq_true] at hh
        obtain ⟨k1, k2⟩ := ih hh.2
        have h3 := hh.1
        have e : s'.opA p = s.opA p := by
          rcases h.opA p with e | e
          · exact e
          · rw [e] at h3; simp [isPtr] at h3
        rw [e] at h3
        simp only [List.all_cons, Bool.and_eq_true, List.map_cons, e, k2]
        exact ⟨⟨h3, k1⟩, trivial⟩
    obtain ⟨k1, k2⟩ := key _ hh.2
    rw [if_pos ⟨hh.1, k1⟩, ← k2]
    exact ⟨v', hq, .inl rfl⟩
  case call c =>
    obtain ⟨callee, args, argTypes⟩ := c
    cases callee <;> simp only at hq ⊢ <;> (try (cases hq; done))
    case value f =>
      cases f <;> simp only at hq ⊢ <;> (try (cases hq; done))
      obtain ⟨g, h1, h2⟩ := bind_some_inv hq
      obtain ⟨xs, h3, h4⟩ := bind_some_inv h2
      rw [h1, Option.bind_some, h.toDl _ _ h3, Option.bind_some]
      exact ⟨v', h4, .inl rfl⟩
    case builtin b =>
      cases b <;> simp only at hq ⊢ <;> (try (cases hq; done))
      case len =>
        obtain ⟨T, h1, h2⟩ := bind_some_inv hq
        obtain ⟨t, h3, h4⟩ := bind_some_inv h2
        obtain ⟨x, h5, h6⟩ := bind_some_inv h4
        rcases h.opA x with e | e
        · rw [h1, Option.bind_some, h3, Option.bind_some, h5, Option.bind_some]
          cases t <;> simp only at h6 ⊢ <;> first
            | (cases h6; done)
            | (rw [e, hob] at h6; exact same h6 rfl)
            | exact ⟨v', h6, .inl rfl⟩
        · rw [h1, Option.bind_some, h3, Option.bind_some, h5, Option.bind_some]
          cases t <;> simp only at h6 ⊢ <;> first
            | (cases h6; done)
            | (rw [e] at h6; simp [AV.asList, toD_undef] at h6; done)
            | exact ⟨v', h6, .inl rfl⟩
      case min =>
        split at hq <;> first | (cases hq; done) | skip
        obtain ⟨p, h3, h4⟩ := bind_some_inv hq
        obtain ⟨q, h5, h6⟩ := bind_some_inv h4
        rw [h.isD h3, h.isD h5] at hq
        exact same hq rfl
      case max =>
        split at hq <;> first | (cases hq; done) | skip
        obtain ⟨p, h3, h4⟩ := bind_some_inv hq
        obtain ⟨q, h5, h6⟩ := bind_some_inv h4
        rw [h.isD h3, h.isD h5] at hq
        exact same hq rfl
end
/-- The value that an operation of a region yields, if it changes no object. -/
def val (E : Env) (ops : Array Oper) (s : St) (o : Oper) : Option AV :=
  if lkd s o then none else
  match o.guard with
  | none => qv E s o some
  | some (j, want) => ((ops[j]?).bind (·.dst)).bind fun g => ifGone (s.tm g) (some .gone) ((s.tm g).truth.bind fun c => if c == want then qv E s o some else some .gone)
def seqV (E : Env) (ops : Array Oper) : List Oper → St → Option St
  | [], s => some s
  | o :: l, s => (val E ops s o).bind fun v => seqV E ops l (s.put o.dst v)
section
variable {E : Env} {ops : Array Oper} {s s' : St}
theorem Wk.lkd_eq (h : Wk s s') (o : Oper) : lkd s' o = lkd s o := by simp only [lkd, h.lkS]
theorem Wk.val (h : Wk s s') {o : Oper} {v' : AV} (hq : Sy.val E ops s' o = some v') : ∃ v, Sy.val E ops s o = some v ∧ (v' = v ∨ v' = .undef) := by
  unfold Sy.val at hq ⊢
  rw [h.lkd_eq] at hq
  split at hq <;> first | (cases hq; done) | skip
  rename_i hlk
  rw [if_neg hlk]
  cases hg : o.guard with
  | none => rw [hg] at hq; exact h.qv hq
  | some p =>
    obtain ⟨j, want⟩ := p
    rw [hg] at hq
    simp only at hq ⊢
    obtain ⟨g, h1, h2⟩ := bind_some_inv hq
    rw [h1, Option.bind_some]
    by_cases hgo : s'.tm g = .gone
    · have e : s'.tm g = s.tm g := by
        rcases h.tm g with e | e
        · exact e
        · rw [hgo] at e; cases e
      rw [hgo, ifGone_gone] at h2
      rw [← e, hgo, ifGone_gone]
      exact ⟨v', h2, .inl rfl⟩
    rw [ifGone_ne hgo] at h2
    obtain ⟨c, h3, h4⟩ := bind_some_inv h2
    have e : s'.tm g = s.tm g := h.truth (x := .tmp g) h3
    rw [← e, ifGone_ne hgo, h3, Option.bind_some]
    split at h4
    · rename_i hc; rw [if_pos hc]; exact h.qv h4
    · rename_i hc; rw [if_neg hc]; exact ⟨v', h4, .inl rfl⟩
theorem Wk.seqV : ∀ (l : List Oper) {s s' t' : St}, Wk s s' → Sy.seqV E ops l s' = some t' → ∃ t, Sy.seqV E ops l s = some t ∧ Wk t t'
  | [], s, s', t', h, hq => by simp only [Sy.seqV, Option.some.injEq] at hq; subst hq; exact ⟨s, rfl, h⟩
  | o :: l, s, s', t', h, hq => by
    simp only [Sy.seqV] at hq ⊢
    obtain ⟨v', h1, h2⟩ := bind_some_inv hq
    obtain ⟨v, h3, h4⟩ := h.val h1
    rw [h3, Option.bind_some]
    exact Wk.seqV l (h.put o.dst h4) h2
theorem seqV_append : ∀ (l l' : List Oper) (s : St), Sy.seqV E ops (l ++ l') s = (Sy.seqV E ops l s).bind (Sy.seqV E ops l')
  | [], l', s => rfl
  | o :: l, l', s => by
    simp only [List.cons_append, Sy.seqV]
    cases val E ops s o with
    | none => rfl
    | some v => exact seqV_append l l' _
theorem Wk.killD_mono : ∀ (l : List Oper) {s s' : St}, Wk s s' → Wk (Sy.killD s l) (Sy.killD s' l)
  | [], _, _, h => h
  | o :: l, _, _, h => Wk.killD_mono l (h.put o.dst (.inl rfl))
theorem seqV_kill : ∀ (l : List Oper) {s t : St}, Sy.seqV E ops l s = some t → Wk t (killD s l)
  | [], s, t, h => by simp only [Sy.seqV, Option.some.injEq] at h; subst h; exact Wk.refl s
  | o :: l, s, t, h => by
    simp only [Sy.seqV] at h
    obtain ⟨v, h1, h2⟩ := bind_some_inv h
    have k1 := seqV_kill l h2
    refine k1.trans ?_
    show Wk (killD (s.put o.dst v) l) (killD (s.put o.dst .undef) l)
    exact Wk.killD_mono l ((Wk.refl s).put o.dst (.inr rfl))
end
end Go.Proofs.YtjjjkojfijpeeaaGreat.Sy
end
section
/- Sy: a region's first operations, as values; in every order. -/
namespace Go.Proofs.YtjjjkojfijpeeaaGreat.Sy
open Go

def headOp (o : Oper) : Bool := quietOp o || (match o.op with | .alloc _ => true | _ => false)
theorem ev1_head {R : Type} (E : Env) (s : St) {o : Oper} (h : headOp o = true) (K : St → Option R) : ev1 E s o K = qv E s o fun v => K (s.put o.dst v) := by
  obtain ⟨dst, op, ty, pos, after, guard⟩ := o
  cases op <;> first | rfl | (simp [headOp, quietOp] at h; done) | skip
  rename_i c
  obtain ⟨callee, args, argTypes⟩ := c
  cases callee <;> first | rfl | skip
  rename_i b
  cases b <;> first | rfl | (simp [headOp, quietOp] at h)
theorem qv_split {R : Type} {E : Env} {s : St} {o : Oper} {K : AV → Option R} {r : R} (h : qv E s o K = some r) : ∃ v, qv E s o some = some v ∧ K v = some r := by
  rw [qv_fac] at h
  exact bind_some_inv h
theorem splitPick_spec (d : Option Nat) : ∀ (l : List (Nat × Oper)), l = (splitPick d l).1 ++ (splitPick d l).2 ∧ ∀ p q, (splitPick d l).2 = p :: q → isPickOf d p.2 = true
  | [] => ⟨rfl, fun p q h => by simp [splitPick] at h⟩
  | p :: l => by
    simp only [splitPick]
    split
    · rename_i hp
      exact ⟨rfl, fun p' q h => by cases h; exact hp⟩
    · obtain ⟨h1, h2⟩ := splitPick_spec d l
      exact ⟨by simp only [List.cons_append]; rw [← h1], h2⟩
theorem put_same {s : St} {d : Nat} {v : AV} (h : s.tm d = v) : s.put (some d) v = s := by
  simp only [St.put]
  split
  · have : (fun i => if i = d then v else s.tm i) = s.tm := by
      funext i
      by_cases e : i = d
      · subst e; simp [h]
      · simp [e]
    rw [this]
  · rfl
theorem put_get {s : St} {d : Nat} {v : AV} (h : d < s.nt) : (s.put (some d) v).tm d = v := by simp [St.put, h]
theorem truth_spec {v : AV} {b : Bool} (h : v.truth = some b) : v = .d .bool (.bool b) := by
  cases v <;> simp only [AV.truth] at h <;> first | (cases h; done) | skip
  split at h <;> first | (cases h; done) | skip
  rename_i ht
  rw [Ty.eq_of_beq _ _ ht, truth_inv h]
theorem guard_split {R : Type} {s : St} {g : Nat} {c want : Bool} (hc : (s.tm g).truth = some c) {A B : St → Option R} {r : R}
    (h : (if c then (if want then A (s.put (some g) (.d .bool (.bool true))) else B (s.put (some g) (.d .bool (.bool true)))) else (if want then B (s.put (some g) (.d .bool (.bool false))) else A (s.put (some g) (.d .bool (.bool false))))) = some r) : (if c == want then A s else B s) = some r := by
  have e := put_same (truth_spec hc)
  cases c <;> cases want <;> simp only [Bool.false_eq_true, if_true, if_false] at h <;> rw [e] at h <;> simpa using h
theorem isPickOf_op {d : Option Nat} {o : Oper} (h : isPickOf d o = true) : ∃ c x y, o.op = .pick c x y := by
  cases hop : o.op <;> first | exact ⟨_, _, _, rfl⟩ | (simp [isPickOf, hop] at h)
theorem quiet_head {o : Oper} (h : quietOp o = true) : headOp o = true := by simp [headOp, h]
theorem pick_head {o : Oper} {c x y : Operand} (h : o.op = .pick c x y) : headOp o = true := by simp [headOp, quietOp, h]
/-- The first m operations of a region as values, the others as they come. -/
theorem evR_head {E : Env} {ops : Array Oper} : ∀ (N : Nat) (R : Type) (l : List (Nat × Oper)) (s : St) (k : St → Option R) (r : R) (m : Nat) (an : Ann), m ≤ l.length → (∀ p ∈ l.take m, headOp p.2 = true ∧ isInl E p.2 = false) →
    (∀ p ∈ l.drop m, p.2.guard = none ∧ ∀ c x y, p.2.op ≠ .pick c x y) → evR E N R ops an l s k = some r →
    ∃ s' s'' N', seqV E ops ((l.take m).map Prod.snd) s = some s' ∧ Wk s' s'' ∧ evR E N' R ops an (l.drop m) s'' k = some r := by
  intro N
  induction N with
  | zero => intro R l s k r m an _ _ _ h; simp [evR] at h
  | succ N ih =>
    intro R l s k r m an hm hq ht h
    cases m with
    | zero => exact ⟨s, s, N + 1, rfl, Wk.refl s, by simpa using h⟩
    | succ m =>
      cases l with
      | nil => simp at hm
      | cons p l =>
        obtain ⟨i, o⟩ := p
        simp only [List.length_cons, Nat.add_le_add_iff_right] at hm
        obtain ⟨ho, hin⟩ := hq (i, o) (by simp)
        simp only at ho hin
        have hq' : ∀ p ∈ l.take m, headOp p.2 = true ∧ isInl E p.2 = false := fun p hp => hq p (by simp [hp])
        have ht' : ∀ p ∈ l.drop m, p.2.guard = none ∧ ∀ c x y, p.2.op ≠ .pick c x y := fun p hp => ht p (by simpa using hp)
        simp only [evR] at h
        have step : ∀ {v : AV}, val E ops s o = some v → evR E N R ops an l (s.put o.dst v) k = some r → ∃ s' s'' N', seqV E ops (((i, o) :: l).take (m + 1) |>.map Prod.snd) s = some s' ∧ Wk s' s'' ∧ evR E N' R ops an (((i, o) :: l).drop (m + 1)) s'' k = some r := by
          intro v hv hr
          obtain ⟨s', s'', N', h1, h2, h3⟩ := ih R l (s.put o.dst v) k r m an hm hq' ht' hr
          refine ⟨s', s'', N', ?_, h2, by simpa using h3⟩
          simp only [List.take_succ_cons, List.map_cons, seqV, hv, Option.bind_some]
          exact h1
        cases hg : o.guard with
        | some jw =>
          obtain ⟨j, want⟩ := jw
          rw [hg] at h
          simp only at h
          split at h <;> first | (cases h; done) | skip
          rename_i g hgd
          split at h <;> first | (cases h; done) | skip
          rename_i hlk
          by_cases hgo : s.tm g = .gone
          · rw [hgo, ifGone_gone] at h
            exact step (by unfold val; rw [if_neg hlk, hg]; simp only; rw [hgd, Option.bind_some, hgo, ifGone_gone]) h
          rw [ifGone_ne hgo] at h
          obtain ⟨c, h1, h2⟩ := bind_some_inv h
          replace h2 := guard_split (A := fun s => ev1 E s o fun s' => evR E N R ops an l s' k) (B := fun s => evR E N R ops an l (s.put o.dst .gone) k) h1 h2
          split at h2
          · rename_i hc
            rw [ev1_head E s ho] at h2
            obtain ⟨v, h3, h4⟩ := qv_split h2
            exact step (by unfold val; rw [if_neg hlk, hg]; simp only; rw [hgd, Option.bind_some, ifGone_ne hgo, h1, Option.bind_some, if_pos hc]; exact h3) h4
          · rename_i hc
            exact step (by unfold val; rw [if_neg hlk, hg]; simp only; rw [hgd, Option.bind_some, ifGone_ne hgo, h1, Option.bind_some, if_neg hc]) h2
        | none =>
          rw [hg] at h
          simp only at h
          split at h
          · -- a short-circuit
            rename_i hgu
            obtain ⟨e1, e2⟩ := splitPick_spec o.dst l
            generalize splitPick o.dst l = sp at *
            obtain ⟨seg, rest⟩ := sp
            simp only at h e1 e2
            split at h <;> first | (cases h; done) | skip
            rename_i _ _ jj pk l'' d hd
            split at h <;> first | (cases h; done) | skip
            rename_i hcond
            simp only [Bool.and_eq_true, decide_eq_true_eq, Bool.not_eq_true', List.all_eq_true] at hcond
            obtain ⟨⟨⟨⟨⟨c1, c2⟩, c3⟩, cI⟩, c4⟩, c5⟩ := hcond

            have hpk := e2 _ _ rfl
            obtain ⟨pc, px, py, hop⟩ := isPickOf_op hpk
            have hseg : seg.length < m := by
              rcases Nat.lt_or_ge seg.length m with h0 | h0
              · exact h0
              · exfalso
                have : (jj, pk) ∈ l.drop m := by
                  rw [e1, List.drop_append_of_le_length h0]
                  simp
                exact (ht' _ this).2 _ _ _ hop
            unfold ev1L at h
            split at h <;> first | (cases h; done) | skip
            rename_i hlk
            rw [ev1_head E s ho] at h
            obtain ⟨v, h3, h4⟩ := qv_split h
            rw [hd] at h4
            obtain ⟨c, h5, h6⟩ := bind_some_inv h4
            rw [put_get c1] at h5
            have hv := truth_spec h5
            subst hv
            obtain ⟨x, h7, h8⟩ := bind_some_inv h6
            have hsame : ∀ b, b = c → (s.put (some d) (.d .bool (.bool c))).put (some d) (.d .bool (.bool b)) = s.put (some d) (.d .bool (.bool c)) := fun b hb => put_same (by rw [put_get c1, hb])
            have hsegv : ∃ k2 : St → Option Bool, (∀ s2, k2 s2 = qv E s2 pk AV.truth) ∧ evR E N Bool ops .leaf seg (s.put (some d) (.d .bool (.bool c))) k2 = some x := by
              cases c
              · simp only [Bool.false_eq_true, if_false] at h7
                rw [hsame false rfl] at h7
                exact ⟨_, fun _ => rfl, h7⟩
              · simp only [if_true] at h7
                rw [hsame true rfl] at h7
                exact ⟨_, fun _ => rfl, h7⟩
            obtain ⟨k2, hk2, h7⟩ := hsegv
            obtain ⟨s2, s2', N2, h9, h10, h11⟩ := ih Bool seg _ k2 x seg.length .leaf (Nat.le_refl _) (fun p hp => by
              rw [List.take_length] at hp
              exact ⟨quiet_head (c4 p hp).1.1, (c4 p hp).2⟩) (fun p hp => by simp at hp) h7
            rw [List.drop_length] at h11
            rw [List.take_length] at h9
            have h12 : k2 s2' = some x := by cases N2 <;> simpa [evR] using h11
            rw [hk2] at h12
            obtain ⟨v2, h13, h14⟩ := qv_split h12
            have hv2 := truth_spec h14
            obtain ⟨v3, h15, h16⟩ := h10.qv h13
            have hv3 : v3 = .d .bool (.bool x) := by
              rcases h16 with e | e
              · rw [← e]; exact hv2
              · rw [hv2] at e; cases e
            subst hv3
            -- the rest
            have hwk : Wk (s2.put pk.dst (.d .bool (.bool x))) ((killD (s.put (some d) (.d .bool (.bool c))) (seg.map Prod.snd)).put pk.dst (.d .bool (.bool x))) := (seqV_kill _ h9).put pk.dst (.inl rfl)
            have hlen : l.length = seg.length + 1 + l''.length := by rw [e1]; simp; omega
            obtain ⟨s4, s4', N4, h17, h18, h19⟩ := ih R l'' _ k r (m - seg.length - 1) an (by omega) (fun p hp => hq' p (by
              rw [e1, List.take_append, List.mem_append]
              right
              rw [show m - seg.length = (m - seg.length - 1) + 1 by omega, List.take_succ_cons]
              exact List.mem_cons_of_mem _ hp)) (fun p hp => ht' p (by
              rw [e1, List.drop_append, List.mem_append]
              right
              rw [show m - seg.length = (m - seg.length - 1) + 1 by omega, List.drop_succ_cons]
              exact hp)) h8
            obtain ⟨s5, h20, h21⟩ := Wk.seqV _ hwk h17
            refine ⟨s5, s4', N4, ?_, h21.trans h18, ?_⟩
            · have etake : l.take m = seg ++ (jj, pk) :: l''.take (m - seg.length - 1) := by
                conv => lhs; rw [e1, List.take_append, List.take_of_length_le (by omega), show m - seg.length = (m - seg.length - 1) + 1 by omega, List.take_succ_cons]
              have hval : val E ops s o = some (.d .bool (.bool c)) := by unfold val; rw [if_neg hlk, hg]; exact h3
              have hlk2 : ¬ lkd s2 pk = true := by
                have : s2.lkS = s.lkS := by
                  have w1 := (seqV_kill _ h9).lkS
                  have w2 : ∀ (l : List Oper) (s : St), (killD s l).lkS = s.lkS := by
                    intro l
                    induction l with
                    | nil => intro s; rfl
                    | cons o l ih => intro s; rw [killD, ih]; exact (St.put_fields s o.dst .undef).2.2.2.2.1
                  rw [← w1, w2]
                  exact (St.put_fields s (some d) _).2.2.2.2.1
                simp only [lkd, this]
                have := c5
                simp only [lkd] at this
                rw [this]; simp
              have hval2 : val E ops s2 pk = some (.d .bool (.bool x)) := by
                unfold val
                rw [if_neg hlk2]
                have : pk.guard = none := by simpa using c2
                rw [this]; exact h15
              simp only [List.take_succ_cons, List.map_cons, seqV, hval, Option.bind_some, etake, List.map_append, seqV_append, hd, h9, hval2]
              exact h20
            · have edrop : l.drop m = l''.drop (m - seg.length - 1) := by
                conv => lhs; rw [e1, List.drop_append, List.drop_of_length_le (by omega), List.nil_append, show m - seg.length = (m - seg.length - 1) + 1 by omega, List.drop_succ_cons]
              simp only [List.drop_succ_cons, edrop]
              exact h19
          · rw [hin] at h
            simp only [Bool.false_eq_true, if_false] at h
            unfold ev1L at h
            split at h <;> first | (cases h; done) | skip
            rename_i hlk
            rw [ev1_head E s ho] at h
            obtain ⟨v, h3, h4⟩ := qv_split h
            exact step (by unfold val; rw [if_neg hlk, hg]; exact h3) h4
end Go.Proofs.YtjjjkojfijpeeaaGreat.Sy
end
section
/- Sy: regions against the model: one behind the other, and in whatever order the tape picks. -/
namespace Go.Proofs.YtjjjkojfijpeeaaGreat.Sy
open Go
variable {ro : Option Nat} {nn : Nat}

/-- A short-circuit, as values. -/
theorem evR_seg {E : Env} {ops : Array Oper} {N : Nat} {R : Type} {i : Nat} {o : Oper} {l : List (Nat × Oper)} {s : St} {k : St → Option R} {r : R} (hg : o.guard = none) (hgu : startsSeg i l = true) {an : Ann} (h : evR E (N + 1) R ops an ((i, o) :: l) s k = some r) :
    ∃ seg jj pk l'' s5 s3, l = seg ++ (jj, pk) :: l'' ∧ headOp o = true ∧ (∀ p ∈ seg, headOp p.2 = true) ∧ headOp pk = true ∧ seqV E ops (o :: (seg.map Prod.snd ++ [pk])) s = some s5 ∧ Wk s5 s3 ∧ evR E N R ops an l'' s3 k = some r := by
  simp only [evR, hg, hgu, if_true] at h
  obtain ⟨e1, e2⟩ := splitPick_spec o.dst l
  generalize splitPick o.dst l = sp at *
  obtain ⟨seg, rest⟩ := sp
  simp only at h e1 e2
  split at h <;> first | (cases h; done) | skip
  rename_i _ _ jj pk l'' d hd
  split at h <;> first | (cases h; done) | skip
  rename_i hcond
  simp only [Bool.and_eq_true, decide_eq_true_eq, Bool.not_eq_true', List.all_eq_true] at hcond
  obtain ⟨⟨⟨⟨⟨c1, c2⟩, c3⟩, cI⟩, c4⟩, c5⟩ := hcond
  have ho := quiet_head c3
  have hpk := e2 _ _ rfl
  obtain ⟨pc, px, py, hop⟩ := isPickOf_op hpk
  unfold ev1L at h
  split at h <;> first | (cases h; done) | skip
  rename_i hlk
  rw [ev1_head E s ho] at h
  obtain ⟨v, h3, h4⟩ := qv_split h
  rw [hd] at h4
  obtain ⟨c, h5, h6⟩ := bind_some_inv h4
  rw [put_get c1] at h5
  have hv := truth_spec h5
  subst hv
  obtain ⟨x, h7, h8⟩ := bind_some_inv h6
  have hsame : ∀ b, b = c → (s.put (some d) (.d .bool (.bool c))).put (some d) (.d .bool (.bool b)) = s.put (some d) (.d .bool (.bool c)) := fun b hb => put_same (by rw [put_get c1, hb])
  have hsegv : ∃ k2 : St → Option Bool, (∀ s2, k2 s2 = qv E s2 pk AV.truth) ∧ evR E N Bool ops .leaf seg (s.put (some d) (.d .bool (.bool c))) k2 = some x := by
    cases c
    · simp only [Bool.false_eq_true, if_false] at h7
      rw [hsame false rfl] at h7
      exact ⟨_, fun _ => rfl, h7⟩
    · simp only [if_true] at h7
      rw [hsame true rfl] at h7
      exact ⟨_, fun _ => rfl, h7⟩
  obtain ⟨k2, hk2, h7⟩ := hsegv
  obtain ⟨s2, s2', N2, h9, h10, h11⟩ := evR_head N Bool seg _ k2 x seg.length .leaf (Nat.le_refl _) (fun p hp => by
    rw [List.take_length] at hp
    exact ⟨quiet_head (c4 p hp).1.1, (c4 p hp).2⟩) (fun p hp => by simp at hp) h7
  rw [List.drop_length] at h11
  rw [List.take_length] at h9
  have h12 : k2 s2' = some x := by cases N2 <;> simpa [evR] using h11
  rw [hk2] at h12
  obtain ⟨v2, h13, h14⟩ := qv_split h12
  have hv2 := truth_spec h14
  obtain ⟨v3, h15, h16⟩ := h10.qv h13
  have hv3 : v3 = .d .bool (.bool x) := by
    rcases h16 with e | e
    · rw [← e]; exact hv2
    · rw [hv2] at e; cases e
  subst hv3
  have hwk : Wk (s2.put pk.dst (.d .bool (.bool x))) ((killD (s.put (some d) (.d .bool (.bool c))) (seg.map Prod.snd)).put pk.dst (.d .bool (.bool x))) := (seqV_kill _ h9).put pk.dst (.inl rfl)
  have hval : val E ops s o = some (.d .bool (.bool c)) := by unfold val; rw [if_neg hlk, hg]; exact h3
  have hlk2 : ¬ lkd s2 pk = true := by
    have : s2.lkS = s.lkS := by
      have w1 := (seqV_kill _ h9).lkS
      have w2 : ∀ (l : List Oper) (s : St), (killD s l).lkS = s.lkS := by
        intro l
        induction l with
        | nil => intro s; rfl
        | cons o l ih => intro s; rw [killD, ih]; exact (St.put_fields s o.dst .undef).2.2.2.2.1
      rw [← w1, w2]
      exact (St.put_fields s (some d) _).2.2.2.2.1
    simp only [lkd, this]
    have := c5
    simp only [lkd] at this
    rw [this]; simp
  have hval2 : val E ops s2 pk = some (.d .bool (.bool x)) := by
    unfold val
    rw [if_neg hlk2]
    have : pk.guard = none := by simpa using c2
    rw [this]; exact h15
  refine ⟨seg, jj, pk, l'', _, _, e1, ho, fun p hp => quiet_head (c4 p hp).1.1, pick_head hop, ?_, hwk, h8⟩
  simp only [seqV, hval, Option.bind_some, seqV_append, hd, h9, hval2]
section
variable {P : Program} {E : Env} {w0 : Root} {S : Nat → Nat → Prop} {γ : Nat → Option Nat} {β : Nat → Option (Nat × Nat)} {s : St} {a : Act} {w : World} {ops : Array Oper}
theorem wanted_of {o : Oper} (h : Rp w0 S γ β s a w) : (o.guard = none → Region.wanted o (yielded ops a.tmps) = true) ∧
    (∀ j want g c, o.guard = some (j, want) → (ops[j]?).bind (·.dst) = some g → (s.tm g).truth = some c → Region.wanted o (yielded ops a.tmps) = (c == want)) ∧
    ∀ j want g, o.guard = some (j, want) → (ops[j]?).bind (·.dst) = some g → s.tm g = .gone → Region.wanted o (yielded ops a.tmps) = false := by
  refine ⟨fun hg => by simp [Region.wanted, hg], fun j want g c hg h1 h2 => ?_, fun j want g hg h1 h2 => ?_⟩
  rotate_left
  · have h3 : AR ⟨w, S, γ, β, s.ob, s.dead⟩ (s.tm g) (a.eval (.tmp g)) := opA_ok h (.tmp g)
    rw [h2] at h3
    have h3' : a.eval (.tmp g) = undef := h3
    simp only [Act.eval] at h3'
    simp only [Region.wanted, hg, yielded, h1, Option.bind_some]
    by_cases hlt : g < a.tmps.size
    · have h4 : a.tmps[g]? = some undef := by
        rw [Array.getElem?_eq_getElem hlt]
        simpa [Array.getD, hlt] using h3'
      rw [h4]; rfl
    · have h4 : a.tmps[g]? = none := Array.getElem?_eq_none (Nat.le_of_not_lt hlt)
      rw [h4]; rfl
  obtain ⟨h3, _⟩ := truthA_inv h2 (opA_ok h (.tmp g))
  have h4 : a.tmps[g]? = some (.bool c) := by
    simp only [Act.eval] at h3
    by_cases hlt : g < a.tmps.size
    · rw [Array.getElem?_eq_getElem hlt]
      simpa [Array.getD, hlt] using h3
    · exfalso
      have : s.tm g = .undef := h.tmu g (by rw [← h.nt]; exact Nat.le_of_not_lt hlt)
      rw [this] at h2; cases h2
  simp only [Region.wanted, hg, yielded, h1, Option.bind_some, h4]
  cases c <;> cases want <;> rfl
/-- What one of a region's operations leaves, if it changes no object. -/
theorem val_ok (hE : EnvOk P E) (h : Rp w0 S γ β s a w) {o : Oper} (hf : Fr E s γ β o) {v : AV} (hq : val E ops s o = some v) :
    (Region.wanted o (yielded ops a.tmps) = true → OpOk P o a w fun u w' => ∃ S' γ' β', Rp w0 S' γ' β' (s.put o.dst v) (a.put o.dst u) w' ∧ Fm s S γ a w S' γ' (a.put o.dst u) w' ∧ (∀ id, o.dst ≠ some (id - s.base) ∨ id < s.base → γ' id = γ id ∧ β' id = β id)) ∧
    (Region.wanted o (yielded ops a.tmps) = false → Rp w0 S γ β (s.put o.dst v) (a.put o.dst undef) w ∧ Fm s S γ a w S γ (a.put o.dst undef) w) := by
  unfold val at hq
  split at hq <;> first | (cases hq; done) | skip
  rename_i hlk
  have hlk' : ∀ t ∈ s.lkS, o.dst ≠ some t := fun t ht e => hlk (by simp [lkd, e]; exact ht)
  have main : qv E s o some = some v → OpOk P o a w fun u w' => ∃ S' γ' β', Rp w0 S' γ' β' (s.put o.dst v) (a.put o.dst u) w' ∧ Fm s S γ a w S' γ' (a.put o.dst u) w' ∧ (∀ id, o.dst ≠ some (id - s.base) ∨ id < s.base → γ' id = γ id ∧ β' id = β id) := by
    intro hq
    obtain ⟨s', h1, h2⟩ := ev1_quiet hE h hf (fun T t _ ht => hE.flat T t ht) hlk' (K := some) (r := s.put o.dst v) (by rw [qv_fac, hq]; rfl)
    cases h1
    exact h2.2.2.2.2.2
  have skip : Rp w0 S γ β (s.put o.dst .gone) (a.put o.dst undef) w ∧ Fm s S γ a w S γ (a.put o.dst undef) w :=
    ⟨h.put (by simp [AR]) o.dst, fun _ _ hb => hb, fun _ _ _ => rfl, fun t ht => put_slot (hlk' t ht), fun _ _ _ hb => ⟨hb, rfl⟩, Nat.le_refl _, fun _ _ hb => hb⟩
  obtain ⟨w1, w2, w3⟩ := wanted_of (ops := ops) (o := o) h
  cases hg : o.guard with
  | none =>
    rw [hg] at hq
    exact ⟨fun _ => main hq, fun hw => by rw [w1 hg] at hw; cases hw⟩
  | some p =>
    obtain ⟨j, want⟩ := p
    rw [hg] at hq
    simp only at hq
    obtain ⟨g, h1, h2⟩ := bind_some_inv hq
    by_cases hgo : s.tm g = .gone
    · rw [hgo, ifGone_gone] at h2
      have hw := w3 j want g hg h1 hgo
      cases h2
      exact ⟨fun hh => (by rw [hw] at hh; cases hh), fun _ => skip⟩
    rw [ifGone_ne hgo] at h2
    obtain ⟨c, h3, h4⟩ := bind_some_inv h2
    have hw := w2 j want g c hg h1 h3
    split at h4
    · rename_i hc
      exact ⟨fun _ => main h4, fun hh => by rw [hw, hc] at hh; cases hh⟩
    · rename_i hc
      cases h4
      exact ⟨fun hh => by rw [hw] at hh; exact absurd hh hc, fun _ => skip⟩
/-- Makers that are still to come find their marks new. -/
def FrL (E : Env) (s : St) (γ : Nat → Option Nat) (β : Nat → Option (Nat × Nat)) (l : List Oper) : Prop := ∀ o ∈ l, Fr E s γ β o
theorem Fr.keep {o o' : Oper} {s' : St} {γ' : Nat → Option Nat} {β' : Nat → Option (Nat × Nat)} (h : Fr E s γ β o') (hd : ∀ d, o'.dst = some d → o.dst ≠ some d) (hfr : s'.fresh = s.fresh)
    (hob : ∀ id, γ id = none → o.dst ≠ some (id - s.base) ∨ id < s.base → s'.ob id = s.ob id) (hk : ∀ id, o.dst ≠ some (id - s.base) ∨ id < s.base → γ' id = γ id ∧ β' id = β id) : Fr E s' γ' β' o' := by
  intro hc d hd'
  obtain ⟨h1, h2, h3, h4⟩ := h hc d hd'
  have hb : s'.base = s.base := by simp only [St.base, hfr]
  have hne : o.dst ≠ some (s.base + d - s.base) := by rw [Nat.add_sub_cancel_left]; exact hd d hd'
  obtain ⟨k1, k2⟩ := hk (s.base + d) (.inl hne)
  rw [hb]
  exact ⟨h1, k1.trans h2, k2.trans h3, fun T t e1 e2 => (hob _ h2 (.inl hne)).trans (h4 T t e1 e2)⟩
/-- What a state keeps of another one. -/
structure Sm (s s' : St) : Prop where
  lkS : s'.lkS = s.lkS
  lkO : s'.lkO = s.lkO
  fresh : s'.fresh = s.fresh
  nt : s'.nt = s.nt
theorem Sm.sk {s s' : St} (h : Sm s s') : Sk s s' := ⟨h.lkS, h.lkO, h.nt⟩
theorem Sm.refl (s : St) : Sm s s := ⟨rfl, rfl, rfl, rfl⟩
theorem Sm.trans {a b c : St} (h : Sm a b) (k : Sm b c) : Sm a c := ⟨k.lkS.trans h.lkS, k.lkO.trans h.lkO, k.fresh.trans h.fresh, k.nt.trans h.nt⟩
theorem Sm.put (s : St) (d : Option Nat) (v : AV) : Sm s (s.put d v) := by
  obtain ⟨p1, p2, p3, p4, p5, p6, p7⟩ := St.put_fields s d v
  exact ⟨p5, p6, p2, p4⟩
theorem Sm.wk {s s' : St} (h : Wk s s') : Sm s s' := ⟨h.lkS, h.lkO, h.fresh, h.nt⟩
/-- Operations that change no object, one behind the other. -/
theorem seqV_ok (hE : EnvOk P E) {Q : Exit → Act → World → Prop} : ∀ (l l2 : List Oper) {S : Nat → Nat → Prop} {γ : Nat → Option Nat} {β : Nat → Option (Nat × Nat)} {s : St} {a : Act} {w : World} {s' : St}, Rp w0 S γ β s a w → FrL E s γ β (l ++ l2) → (∀ (A B : List Oper) o o', l ++ l2 = A ++ o :: B → o' ∈ B → ∀ d, o'.dst = some d → o.dst ≠ some d) → seqV E ops l s = some s' →
    (∀ S' γ' β' a' w', Rp w0 S' γ' β' s' a' w' → Fm s S γ a w S' γ' a' w' → Sm s s' → FrL E s' γ' β' l2 → wpListIn (FW ro) nn P ops Q l2 a' w') → wpListIn (FW ro) nn P ops Q (l ++ l2) a w
  | [], l2, S, γ, β, s, a, w, s', h, hf, _, hq, hk => by
    simp only [seqV, Option.some.injEq] at hq
    subst hq
    exact hk S γ β a w h (Fm.refl _ _ _ _ _) (Sm.refl s) (by simpa using hf)
  | o :: l, l2, S, γ, β, s, a, w, s', h, hf, hd, hq, hk => by
    simp only [seqV] at hq
    obtain ⟨v, h1, h2⟩ := bind_some_inv hq
    have hfo : Fr E s γ β o := hf o (by simp)
    obtain ⟨k1, k2⟩ := val_ok hE h hfo h1
    have hdo : ∀ o' ∈ l ++ l2, ∀ d, o'.dst = some d → o.dst ≠ some d := fun o' ho' => hd [] (l ++ l2) o o' rfl ho'
    have hd' : ∀ (A B : List Oper) x x', l ++ l2 = A ++ x :: B → x' ∈ B → ∀ d, x'.dst = some d → x.dst ≠ some d := fun A B x x' e hx => hd (o :: A) B x x' (by simp [e]) hx
    have p := St.put_fields s o.dst v
    have frn : ∀ {γ' : Nat → Option Nat} {β' : Nat → Option (Nat × Nat)}, (∀ id, o.dst ≠ some (id - s.base) ∨ id < s.base → γ' id = γ id ∧ β' id = β id) → FrL E (s.put o.dst v) γ' β' (l ++ l2) := fun hk o' ho' =>
      (hf o' (by simp only [List.cons_append, List.mem_cons]; exact .inr ho')).keep (hdo o' ho') p.2.1 (fun id _ _ => by rw [p.1]) hk
    simp only [List.cons_append, wpListIn]
    split
    · rename_i hw
      refine (wpIn_of_OpOk (k1 hw) fun u w' ⟨S', γ', β', m1, m2, m3⟩ => ?_)
      exact seqV_ok hE l l2 m1 (frn m3) hd' h2 fun S2 γ2 β2 a2 w2 n1 n2 n3 n4 => hk S2 γ2 β2 a2 w2 n1 (m2.trans n2 p.2.2.2.2.1 p.2.2.2.2.2.1) ((Sm.put s o.dst v).trans n3) n4
    · rename_i hw
      obtain ⟨m1, m2⟩ := k2 (by simpa using hw)
      exact ⟨fun _ _ => trivial, seqV_ok hE l l2 m1 (frn fun id _ => ⟨rfl, rfl⟩) hd' h2 fun S2 γ2 β2 a2 w2 n1 n2 n3 n4 => hk S2 γ2 β2 a2 w2 n1 (m2.trans n2 p.2.2.2.2.1 p.2.2.2.2.2.1) ((Sm.put s o.dst v).trans n3) n4⟩
theorem ARs_of_ops (h : Rp w0 S γ β s a w) : ∀ (l : List Operand) (i : Nat) (x : AV) (v : Value), (l.map s.opA)[i]? = some x → (l.map a.eval)[i]? = some v → AR ⟨w, S, γ, β, s.ob, s.dead⟩ x v
  | [], i, x, v, hx, _ => by simp at hx
  | y :: l, 0, x, v, hx, hv => by simp at hx hv; subst hx; subst hv; exact opA_ok h y
  | y :: l, i + 1, x, v, hx, hv => by simp only [List.map_cons, List.getElem?_cons_succ] at hx hv; exact ARs_of_ops h l i x v hx hv
theorem ARs_of_caps {c : Cx} : ∀ (l : List AV) (caps : List Value), l.all isPtr = true → ACc c l caps → l.length = caps.length ∧ ∀ (i : Nat) (x : AV) (v : Value), l[i]? = some x → caps[i]? = some v → AR c x v
  | [], caps, _, h => by simp only [ACc] at h; subst h; exact ⟨rfl, fun i x v hx => by simp at hx⟩
  | y :: l, caps, hp, h => by
    simp only [ACc] at h
    obtain ⟨v0, c2, rfl, h1, h2⟩ := h
    simp only [List.all_cons, Bool.and_eq_true] at hp
    obtain ⟨k1, k2⟩ := ARs_of_caps l c2 hp.2 h2
    refine ⟨by simp [k1], fun i x v hx hv => ?_⟩
    cases i with
    | zero =>
      simp at hx hv; subst hx; subst hv
      cases y <;> simp only [isPtr] at hp <;> first | (cases hp.1; done) | skip
      simp only [AC] at h1
      obtain ⟨b, off, e, h3⟩ := h1
      simp only [List.cons.injEq, and_true] at e
      subst e
      simp only [AR, AC, Value.cells]
      exact ⟨by simp, b, off, rfl, h3⟩
    | succ i => simp only [List.getElem?_cons_succ] at hx hv; exact k2 i x v hx hv
/-- A call that is evaluated together with its caller. -/
theorem inl_ok (hE : EnvOk P E) (h : Rp w0 S γ β s a w) {o : Oper} {c : Call} (hop : o.op = .call c) (hlk : ∀ t ∈ s.lkS, o.dst ≠ some t) {R : Type} {K : St → Option R} {r : R} {an : Ann}
    (hev : ((inlTarget s c).bind fun q => (E.inl q.1).bind fun g => g an.fst R s q.2 fun v s' => K (s'.put o.dst v)) = some r) :
    OpOk P o a w fun u w' => ∃ s' S' γ' β', K s' = some r ∧ Rp w0 S' γ' β' s' (a.put o.dst u) w' ∧ Fm s S γ a w S' γ' (a.put o.dst u) w' ∧ Sk s s' := by
  obtain ⟨⟨f, avs⟩, h1, hev1⟩ := bind_some_inv hev
  clear hev
  obtain ⟨g, h2, hev2⟩ := bind_some_inv hev1
  clear hev1
  simp only at h2 hev2
  obtain ⟨⟨fn, f1, f2, f3⟩, hI⟩ := hE.inl f g h2
  have key : ∃ vs : List Value, avs.length = vs.length ∧ (∀ (i : Nat) (x : AV) (v : Value), avs[i]? = some x → vs[i]? = some v → AR ⟨w, S, γ, β, s.ob, s.dead⟩ x v) ∧ (execOp a.eval o).run P w = .ok (.enter f vs.toArray) w := by
    clear hev2 hI h2
    have hb : ¬ fn.body = none := by intro hh; rw [hh] at f3; cases f3
    have f2' : ¬ fn.name = "runtime.NumGoroutine" := by simpa using f2
    obtain ⟨dst, op, ty, pos, after, guard⟩ := o
    simp only at hop
    subst hop
    obtain ⟨callee, args, argTypes⟩ := c
    simp only [inlTarget] at h1
    split at h1 <;> first | (cases h1; done) | skip
    · rename_i f' 
      simp only [Option.some.injEq, Prod.mk.injEq] at h1
      obtain ⟨rfl, rfl⟩ := h1
      refine ⟨args.toList.map a.eval, by simp, ARs_of_ops h _, ?_⟩
      have hm : args.map a.eval = (args.toList.map a.eval).toArray := Array.ext' (by simp)
      simp [execOp, resolve, Act.eval, Deferred.ofValue, invoke, callFunc, f1, f2', hb, hm]
    · rename_i t
      split at h1 <;> first | (cases h1; done) | skip
      rename_i f' l ht
      split at h1 <;> first | (cases h1; done) | skip
      rename_i hp
      simp only [Option.some.injEq, Prod.mk.injEq] at h1
      obtain ⟨rfl, rfl⟩ := h1
      have hA := opA_ok h (.tmp t)
      have hA' : AR ⟨w, S, γ, β, s.ob, s.dead⟩ (.clo f' l) (a.eval (.tmp t)) := by rw [← ht]; exact hA
      simp only [AR, AC] at hA'
      obtain ⟨na, caps, hcs, hcap⟩ := hA'
      have hv := cells_single na hcs
      obtain ⟨k1, k2⟩ := ARs_of_caps l caps hp hcap
      refine ⟨args.toList.map a.eval ++ caps, by simp [k1], fun i x v hx hv' => ?_, ?_⟩
      · rcases Nat.lt_or_ge i (args.toList.map s.opA).length with hi | hi
        · rw [List.getElem?_append_left hi] at hx
          rw [List.getElem?_append_left (by simpa using hi)] at hv'
          exact ARs_of_ops h _ i x v hx hv'
        · rw [List.getElem?_append_right hi] at hx
          rw [List.getElem?_append_right (by simpa using hi)] at hv'
          refine k2 _ x v hx ?_
          simpa using hv'
      · have hm : args.map a.eval = (args.toList.map a.eval).toArray := Array.ext' (by simp)
        simp [execOp, resolve, hv, Deferred.ofValue, invoke, callFunc, f1, f2', hb, hm]
  obtain ⟨vs, k1, k2, k3⟩ := key
  have hc := hI an.fst R w0 S γ β s a w avs vs _ r h k1 k2 hev2
  unfold OpOk
  rw [k3]
  refine hc.mono fun e w' ⟨v, y, s', S', γ', β', e1, e2, e3, e4, e5, e6⟩ => ⟨v, e1, s'.put o.dst y, S', γ', β', e2, e3.put e4 o.dst, ⟨e5.sub, e5.cell, fun t ht => put_slot (hlk t ht), e5.objs, e5.sz, e5.gam⟩, ?_⟩
  have p := St.put_fields s' o.dst y
  exact ⟨p.2.2.2.2.1.trans e6.lkS, p.2.2.2.2.2.1.trans e6.lkO, p.2.2.2.1.trans e6.nt⟩
/-- A region's operations, one behind the other. -/
theorem evR_ok (hE : EnvOk P E) {Q : Exit → Act → World → Prop} (hops : (ops.toList.all fun o => match o.op with | .store .. => o.dst.isNone | _ => true) = true) : ∀ (N : Nat) (R : Type) (l : List (Nat × Oper)) {S : Nat → Nat → Prop} {γ : Nat → Option Nat} {β : Nat → Option (Nat × Nat)} {s : St} {a : Act} {w : World} (k : St → Option R) (r : R) (an : Ann),
    Rp w0 S γ β s a w → FrL E s γ β (l.map Prod.snd) → (∀ (A B : List Oper) o o', l.map Prod.snd = A ++ o :: B → o' ∈ B → ∀ d, o'.dst = some d → o.dst ≠ some d) → (∀ p ∈ l, p.2 ∈ ops.toList) → evR E N R ops an l s k = some r →
    (∀ s' S' γ' β' a' w', Rp w0 S' γ' β' s' a' w' → Fm s S γ a w S' γ' a' w' → Sk s s' → k s' = some r → Q .normal a' w') → wpListIn (FW ro) nn P ops Q (l.map Prod.snd) a w := by
  intro N
  induction N with
  | zero => intro R l S γ β s a w k r an _ _ _ _ h; simp [evR] at h
  | succ N ih =>
    intro R l S γ β s a w k r an h hf hd hmem hev hQ
    cases l with
    | nil =>
      simp only [evR] at hev
      exact hQ s S γ β a w h (Fm.refl _ _ _ _ _) (Sk.refl s) hev
    | cons p l =>
      obtain ⟨i, o⟩ := p
      have hfo : Fr E s γ β o := hf o (by simp)
      have hst : ∀ T x y, o.op = .store T x y → o.dst = none := fun T x y e => by
        have := List.all_eq_true.1 hops o (hmem (i, o) (by simp))
        rw [e] at this
        simpa using this
      have hdo : ∀ o' ∈ l.map Prod.snd, ∀ d, o'.dst = some d → o.dst ≠ some d := fun o' ho' => hd [] (l.map Prod.snd) o o' rfl ho'
      have hd' : ∀ (A B : List Oper) x x', l.map Prod.snd = A ++ x :: B → x' ∈ B → ∀ d, x'.dst = some d → x.dst ≠ some d := fun A B x x' e hx => hd (o :: A) B x x' (by simp [e]) hx
      have hmem' : ∀ p ∈ l, p.2 ∈ ops.toList := fun p hp => hmem p (by simp [hp])
      -- one operation, carried out
      have run : ¬ lkd s o = true → ev1 E s o (fun s' => evR E N R ops an l s' k) = some r → o.wpIn (FW ro) nn P a w (wpListIn (FW ro) nn P ops Q (l.map Prod.snd)) Q := by
        intro hlk he
        have hlk' : ∀ t ∈ s.lkS, o.dst ≠ some t := fun t ht e => hlk (by simp [lkd, e]; exact ht)
        obtain ⟨s', h1, h2⟩ := ev1_ok hE h hfo (fun T t _ ht => hE.flat T t ht) hlk' hst he
        obtain ⟨f1, f2, f3, f4, f5, f6⟩ := h2
        refine wpIn_of_OpOk f6 fun u w' ⟨S', γ', β', m1, m2, m3⟩ => ?_
        exact ih R l k r an m1 (fun o' ho' => (hf o' (by simp only [List.map_cons, List.mem_cons]; exact .inr ho')).keep (hdo o' ho') f3 f5 m3) hd' hmem' h1 fun s2 S2 γ2 β2 a2 w2 n1 n2 n3 n4 => hQ s2 S2 γ2 β2 a2 w2 n1 (m2.trans n2 f1 f2) (Sk.trans ⟨f1, f2, f4⟩ n3) n4
      obtain ⟨w1, w2, w3⟩ := wanted_of (ops := ops) (o := o) h
      cases hg : o.guard with
      | some jw =>
        obtain ⟨j, want⟩ := jw
        simp only [evR, hg] at hev
        split at hev <;> first | (cases hev; done) | skip
        rename_i g hgd
        split at hev <;> first | (cases hev; done) | skip
        rename_i hlk
        have hlk' : ∀ t ∈ s.lkS, o.dst ≠ some t := fun t ht e => hlk (by simp [lkd, e]; exact ht)
        have p := St.put_fields s o.dst .gone
        have alt : (Region.wanted o (yielded ops a.tmps) = true ∧ (ev1 E s o fun s' => evR E N R ops an l s' k) = some r) ∨ (Region.wanted o (yielded ops a.tmps) = false ∧ evR E N R ops an l (s.put o.dst .gone) k = some r) := by
          by_cases hgo : s.tm g = .gone
          · rw [hgo, ifGone_gone] at hev
            exact .inr ⟨w3 j want g hg hgd hgo, hev⟩
          rw [ifGone_ne hgo] at hev
          obtain ⟨c, h1, h2⟩ := bind_some_inv hev
          replace h2 := guard_split (A := fun s => ev1 E s o fun s' => evR E N R ops an l s' k) (B := fun s => evR E N R ops an l (s.put o.dst .gone) k) h1 h2
          have hw := w2 j want g c hg hgd h1
          split at h2
          · rename_i hc; exact .inl ⟨by rw [hw]; exact hc, h2⟩
          · rename_i hc; exact .inr ⟨by rw [hw]; simpa using hc, h2⟩
        rcases alt with ⟨hw, h2⟩ | ⟨hw, h2⟩
        · simp only [List.map_cons, wpListIn, hw, if_true]
          exact run hlk h2
        · simp only [List.map_cons, wpListIn, hw, Bool.false_eq_true, if_false]
          refine ⟨fun _ _ => trivial, ?_⟩
          exact ih R l k r an (h.put (v := .gone) (val := undef) (by simp [AR]) o.dst) (fun o' ho' => (hf o' (by simp only [List.map_cons, List.mem_cons]; exact .inr ho')).keep (hdo o' ho') p.2.1 (fun id _ _ => by rw [p.1]) fun id _ => ⟨rfl, rfl⟩) hd' hmem' h2 fun s2 S2 γ2 β2 a2 w2 n1 n2 n3 n4 => hQ s2 S2 γ2 β2 a2 w2 n1 (Fm.trans (s1 := s.put o.dst .gone) ⟨fun _ _ hb => hb, fun _ _ _ => rfl, fun t ht => put_slot (hlk' t ht), fun _ _ _ hb => ⟨hb, rfl⟩, Nat.le_refl _, fun _ _ hb => hb⟩ n2 p.2.2.2.2.1 p.2.2.2.2.2.1) ((Sm.put s o.dst .gone).sk.trans n3) n4
      | none =>
        by_cases hgu : startsSeg i l = true
        · obtain ⟨seg, jj, pk, l'', s5, s3, e1, q1, q2, q3, q4, q5, q6⟩ := evR_seg hg hgu hev
          subst e1
          have el : ((i, o) :: (seg ++ (jj, pk) :: l'')).map Prod.snd = (o :: (seg.map Prod.snd ++ [pk])) ++ l''.map Prod.snd := by simp
          rw [el] at hf hd ⊢
          refine seqV_ok hE _ _ h hf hd q4 fun S2 γ2 β2 a2 w2 n1 n2 n3 n4 => ?_
          refine ih R l'' k r an (n1.wk q5) (fun o' ho' => ?_) (fun A B x x' e hx => hd ((o :: (seg.map Prod.snd ++ [pk])) ++ A) B x x' (by rw [e]; simp) hx) (fun p hp => hmem p (by simp [hp])) q6 fun s2 S3 γ3 β3 a3 w3 m1 m2 m3 m4 => hQ s2 S3 γ3 β3 a3 w3 m1 (n2.trans m2 (q5.lkS.trans n3.lkS) (q5.lkO.trans n3.lkO)) ((n3.trans (Sm.wk q5)).sk.trans m3) m4
          have := n4 o' ho'
          intro hc d hd2
          obtain ⟨r1, r2, r3, r4⟩ := this hc d hd2
          rw [q5.base_eq, q5.ob]
          exact ⟨r1, r2, r3, r4⟩
        · have hgu' : startsSeg i l = false := by simpa using hgu
          simp only [evR, hg, hgu', Bool.false_eq_true, if_false] at hev
          split at hev
          · -- a call that is evaluated together with its caller
            split at hev <;> first | (cases hev; done) | skip
            rename_i hcr
            simp only [Bool.or_eq_true, Bool.not_eq_true', not_or, Bool.not_eq_false] at hcr
            obtain ⟨hlk, hcr⟩ := hcr
            split at hev <;> first | (cases hev; done) | skip
            rename_i c hop
            simp only [List.map_cons, wpListIn, w1 hg, if_true]
            have hlk' : ∀ t ∈ s.lkS, o.dst ≠ some t := fun t ht e => hlk (by simp [lkd, e]; exact ht)
            refine (wpIn_of_OpOk (inl_ok (an := an) (K := fun s1 => evR E N R ops an.snd l s1 k) hE h hop hlk' hev) fun u w' ⟨s', S', γ', β', m0, m1, m2, m3⟩ => ?_)
            have frn : FrL E s' γ' β' (l.map Prod.snd) := fun o' ho' => by
              obtain ⟨p, hp, rfl⟩ := List.mem_map.1 ho'
              have := List.all_eq_true.1 hcr p hp
              exact Fr_none (by simpa using this)
            exact ih R l k r an.snd m1 frn hd' hmem' m0 fun s2 S2 γ2 β2 a2 w2 n1 n2 n3 n4 => hQ s2 S2 γ2 β2 a2 w2 n1 (m2.trans n2 m3.lkS m3.lkO) (m3.trans n3) n4
          unfold ev1L at hev
          split at hev <;> first | (cases hev; done) | skip
          rename_i hlk
          simp only [List.map_cons, wpListIn, w1 hg, if_true]
          exact run hlk hev
end
end Go.Proofs.YtjjjkojfijpeeaaGreat.Sy
end
