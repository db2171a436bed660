/- Part 4 of the proof that HullIsClosed answers true at every input -/
import Derived.Test.YtjjjkojfijpeeaaGreatClosed03
set_option linter.unusedVariables false
set_option linter.unusedSimpArgs false
set_option linter.unnecessarySimpa false
section
namespace Go.Proofs.YtjjjkojfijpeeaaGreat.Sy
open Go
theorem CR.at_ {w : World} {S : Nat -> Nat -> Prop} {l : List D} {b off n cap : Nat} (h : CR w S (.sl l) (.slice (some ⟨b, off, none⟩) n cap)) : CRat w S b off (D.flats l) := by
 obtain ⟨A, cap', b', off', hv, k1, k2, k3⟩ := h.elems
 simp only [Value.slice.injEq] at hv
 rcases k1 with rfl | k1
 . exact ⟨[], CRl.nil, fun i c hc => by simp at hc⟩
 . rw [<- hv.1] at k1
   cases k1
   exact k3
theorem row_of_rsz {w : World} {b n : Nat} (h : rsz w b = some n) : ∃ c, row? w b = some c /\ c.size = n := by
 unfold rsz at h
 cases hr : row? w b with
 | none => rw [hr] at h; cases h
 | some c => rw [hr] at h; simp at h; exact ⟨c, rfl, h⟩
theorem cell_putAt_below {w : World} {b off o : Nat} {c cs : Array Value} (h : row? w b = some c) (hs : off + cs.size <= c.size) (ho : o < off) : (putAt w b off cs).cell? ⟨b, o, none⟩ = w.cell? ⟨b, o, none⟩ := by
 rw [cell_of_row _ (row_putAt h), cell_of_row _ h, splice_get _ _ _ _ hs, if_pos ho]
theorem cell_putAt_in {w : World} {b off o : Nat} {c cs : Array Value} (h : row? w b = some c) (hs : off + cs.size <= c.size) (ho : o < cs.size) : (putAt w b off cs).cell? ⟨b, off + o, none⟩ = cs[o]? := by
 rw [cell_of_row _ (row_putAt h), splice_get _ _ _ _ hs, if_neg (by omega), if_pos (by omega), Nat.add_sub_cancel_left]
section
variable {P : Program} {E : Env} {w0 : Root} {S : Nat -> Nat -> Prop} {γ : Nat -> Option Nat} {β : Nat -> Option (Nat × Nat)} {s : St} {a : Act} {w : World}
theorem own_more (h : Rp w0 S γ β s a w) {v v' b off : Nat} {e : Ty} {l l' : List D} {cap n : Nat} {cs' : List Value} (hn : noTup e = true) (hl : ∀ x ∈ l, wt e x) (hl' : ∀ x ∈ l', wt e x) (hv : v ∉ s.dead) (hβ : β v = some (b, off + l.length * e.size)) (hr : rsz w b = some n) (hcap : off + cap * e.size <= n)
   (hneed : l.length + l'.length <= cap) (hc : CRat w S b off (D.flats l)) (hc' : CRl w S (D.flats l') cs') (hv' : β v' = none) (hi : v' < s.base + 4096) :
   ∃ S' β', Rp w0 S' γ β' { s with dead := v :: s.dead } a (putAt w b (off + l.length * e.size) cs'.toArray) ∧
     AR ⟨putAt w b (off + l.length * e.size) cs'.toArray, S', γ, β', s.ob, v :: s.dead⟩ (.own e v' (l ++ l')) (.slice (some ⟨b, off, none⟩) (l.length + l'.length) cap) ∧
     (∀ b o, S b o -> S' b o) /\ (∀ b' o, S b' o -> (putAt w b (off + l.length * e.size) cs'.toArray).cell? ⟨b', o, none⟩ = w.cell? ⟨b', o, none⟩) /\ (∀ u, u ≠ v' -> β' u = β u) := by
 obtain ⟨c, hrow, hcn⟩ := row_of_rsz hr
 have len' : cs'.length = l'.length * e.size := by rw [<- hc'.1]; exact flats_len_of hn l' hl'
 generalize he0 : off + l.length * e.size = e0 at *
 obtain ⟨bn1, bn2, bn3⟩ := h.βn v b e0 hv hβ
 have hsz : e0 + cs'.toArray.size <= c.size := by
   simp only [List.size_toArray, len', hcn]
   have : (l.length + l'.length) * e.size <= cap * e.size := Nat.mul_le_mul_right _ hneed
   rw [Nat.add_mul] at this
   omega
 let S' : Nat -> Nat -> Prop := fun b' o => S b' o \/ (b' = b /\ e0 <= o /\ o < e0 + cs'.length)
 have hcell : ∀ b' o, S b' o -> (putAt w b e0 cs'.toArray).cell? ⟨b', o, none⟩ = w.cell? ⟨b', o, none⟩ := fun b' o hb => by
   by_cases e : b' = b
   . subst e
     exact cell_putAt_below hrow hsz (Nat.lt_of_not_le fun hh => bn3 o hh hb)
   . exact cell_putAt_ne e
 have nd : ∀ {u}, u ∉ v :: s.dead -> u ∉ s.dead /\ u ≠ v := fun hu => ⟨fun hh => hu (List.mem_cons_of_mem _ hh), fun hh => hu (hh ▸ List.mem_cons_self)⟩
 have hle : Cx.le ⟨w, S, γ, β, s.ob, s.dead⟩ ⟨putAt w b e0 cs'.toArray, S', γ, upd β v' (b, e0 + cs'.length), s.ob, v :: s.dead⟩ :=
   ⟨hcell, fun _ _ hb => .inl hb, fun _ _ k => k, fun id o ho _ => ⟨o, ho, fun p => ⟨rfl, rfl⟩, fun t l e => ⟨l, e, rfl⟩, fun _ _ l e => ⟨l, e⟩⟩, fun u hu => ⟨(nd hu).1, fun b' e he => ⟨upd_le hv' he, fun n hn => by rw [rsz_putAt hrow hsz]; exact hn⟩⟩⟩
 have hRp : Rp w0 S' γ (upd β v' (b, e0 + cs'.length)) { s with dead := v :: s.dead } a (putAt w b e0 cs'.toArray) := by
   refine ⟨ext_of h.ext rfl rfl rfl (by simp) (Nat.le_refl _) (fun b' hb' => heap_putAt (fun e => bn1 (e ▸ hb'))), fun t ht => (h.tms t ht).mono hle, h.nt, h.tmu, fun id o b' ho hb' => ?_, fun id b' hb' => by simpa using h.γn id b' hb', h.γi, h.γf, fun u b' e hu he => ?_, fun u u' b' e e' hu hu' he he' => ?_, fun u id b' e hu he => ?_, fun u hu => ?_, fun b' o hb' => ?_, fun b' o hb' hlt => ?_, h.df⟩
   . have hne : b' ≠ b := fun e => h.βγ v id b e0 hv hβ (e ▸ hb')
     refine (h.obs id o b' ho hb').mono hle (heap_putAt hne) fun o hh => ?_
     rcases hh with hh | hh
     . exact hh
     . exact absurd hh.1 hne
   . obtain ⟨nu1, nu2⟩ := nd hu
     by_cases e1 : u = v'
     . subst e1
       rw [upd_same] at he
       cases he
       refine ⟨bn1, by simpa using bn2, fun o ho hh => ?_⟩
       rcases hh with hh | hh
       . exact bn3 o (by omega) hh
       . omega
     . rw [upd_ne β _ e1] at he
       obtain ⟨k1, k2, k3⟩ := h.βn u b' e nu1 he
       refine ⟨k1, by simpa using k2, fun o ho hh => ?_⟩
       rcases hh with hh | hh
       . exact k3 o ho hh
       . obtain ⟨hh, _⟩ := hh
         subst hh
         exact nu2 (h.βi u v b' _ _ nu1 hv he hβ)
   . obtain ⟨nu1, nu2⟩ := nd hu
     obtain ⟨nu1', nu2'⟩ := nd hu'
     by_cases e1 : u = v'
     . by_cases e2 : u' = v'
       . rw [e1, e2]
       . subst e1
         rw [upd_same] at he; cases he
         rw [upd_ne β _ e2] at he'
         exact absurd (h.βi u' v b _ _ nu1' hv he' hβ) nu2'
     . by_cases e2 : u' = v'
       . subst e2
         rw [upd_same] at he'; cases he'
         rw [upd_ne β _ e1] at he
         exact absurd (h.βi u v b _ _ nu1 hv he hβ) nu2
       . rw [upd_ne β _ e1] at he; rw [upd_ne β _ e2] at he'
         exact h.βi u u' b' e e' nu1 nu1' he he'
   . by_cases e1 : u = v'
     . subst e1
       rw [upd_same] at he; cases he
       exact h.βγ v id b e0 hv hβ
     . rw [upd_ne β _ e1] at he
       exact h.βγ u id b' e (nd hu).1 he
   . have hu' : s.base + 4096 <= u := hu
     rw [upd_ne β _ (by omega)]
     exact h.βf u hu'
   . rcases hb' with hb' | hb'
     . simpa using h.Sb b' o hb'
     . simpa [hb'.1] using bn2
   . rcases hb' with hb' | hb'
     . exact h.So b' o hb' hlt
     . exact absurd (hb'.1 ▸ hlt) bn1
 refine ⟨S', _, hRp, ?_, fun _ _ hb => .inl hb, hcell, fun u hu => upd_ne β _ hu⟩
 simp only [AR, AC, Value.cells]
 refine ⟨by simp, hn, fun x hx => (List.mem_append.1 hx).elim (hl x) (hl' x), some ⟨b, off, none⟩, cap, by rw [List.length_append], ?_, fun _ => .inr ⟨b, off, rfl, ?_, n, by show rsz (putAt w b e0 cs'.toArray) b = some n; rw [rsz_putAt hrow hsz]; exact hr, hcap⟩⟩
 . obtain ⟨cs, k1, k2⟩ := hc
   refine CR.of_elems (.inr rfl) (by rw [List.length_append]; exact hneed) ⟨cs ++ cs', ?_, fun i x hx => ?_⟩
   . rw [flats_append]
     exact (k1.append hc').mono hcell fun _ _ hh => .inl hh
   . have len : cs.length = l.length * e.size := by rw [<- k1.1]; exact flats_len_of hn l hl
     rw [List.getElem?_append] at hx
     by_cases hi2 : i < cs.length
     . rw [if_pos hi2] at hx
       obtain ⟨m1, m2⟩ := k2 i x hx
       exact ⟨.inl m1, (hcell _ _ m1).trans m2⟩
     . rw [if_neg hi2] at hx
       have hlt := (List.getElem?_eq_some_iff.1 hx).1
       refine ⟨.inr ⟨rfl, by omega, by omega⟩, ?_⟩
       rw [show off + i = e0 + (i - cs.length) by omega, cell_putAt_in hrow hsz (by simpa using hlt)]
       simpa using hx
 . show upd β v' (b, e0 + cs'.length) v' = _
   rw [upd_same, List.length_append, len', Nat.add_mul]
   congr 2; omega
theorem run_append {T T' u' : TypeId} {e : Ty} (hE : layB P (.sl e) T = true) (hT' : P.underlying T' = some (.slice u')) {A : Option Addr} {len cap : Nat} {l l' : List D} {vy : Value} (ty : TypeId) (hlen : len = l.length) (hl : ∀ x ∈ l, wt e x) (hl' : ∀ x ∈ l', wt e x)
   (hx : CR w S (.sl l) (.slice A len cap)) (hy : CR w S (.sl l') vy) (hb : l.length + l'.length <= 1073741824) :
   ∃ cs cs' : List Value, CRl w S (D.flats l) cs /\ CRl w S (D.flats l') cs' /\ ∃ u,
     (l.length + l'.length <= cap -> (A = none -> (Builtin.append_ #[T, T'] ty #[.slice A len cap, vy]).run P w = .ok (.slice none (l.length + l'.length) cap) w) ∧
       (∀ b off c, A = some ⟨b, off, none⟩ -> row? w b = some c -> off + cap * e.size <= c.size -> (Builtin.append_ #[T, T'] ty #[.slice A len cap, vy]).run P w = .ok (.slice A (l.length + l'.length) cap) (putAt w b (off + l.length * e.size) cs'.toArray))) ∧
     (cap < l.length + l'.length -> ∃ newCap rest, l.length + l'.length <= newCap /\ (cs ++ cs').length + rest.length = newCap * e.size ∧
       (Builtin.append_ #[T, T'] ty #[.slice A len cap, vy]).run P w = .ok (.slice (some ⟨w.heap.size, 0, none⟩) (l.length + l'.length) newCap) (grown w [.cells ((cs ++ cs') ++ rest).toArray u] (w.drawn + 1))) := by
 subst hlen
 obtain ⟨u, k1, k2⟩ := lay_sl hE
 have hn : noTup e = true := layB_noTup _ _ k2
 obtain ⟨i0, z0, hi1, hi2, hi3, hi4, hi5, _⟩ := infoB_info (layB_info k2)
 have hx1 : CR { w with drawn := w.drawn + 1 } S (.sl l) (.slice A l.length cap) := CR.mono (w := w) (w' := { w with drawn := w.drawn + 1 }) (S := S) (S' := S) (fun _ _ _ => rfl) (fun _ _ h => h) hx
 have hy1 : CR { w with drawn := w.drawn + 1 } S (.sl l') vy := CR.mono (w := w) (w' := { w with drawn := w.drawn + 1 }) (S := S) (S' := S) (fun _ _ _ => rfl) (fun _ _ h => h) hy
 obtain ⟨cs, c1, c2⟩ := run_firstCells (P := P) hn hl hx1
 obtain ⟨cs', d1, d2⟩ := run_firstCells (P := P) hn hl' hy
 obtain ⟨cs'', d3, d4⟩ := run_firstCells (P := P) hn hl' hy1
 have len : cs.length = l.length * e.size := by rw [<- c1.1]; exact flats_len_of hn l hl
 have len' : cs'.length = l'.length * e.size := by rw [<- d1.1]; exact flats_len_of hn l' hl'
 have len'' : cs''.length = l'.length * e.size := by rw [<- d3.1]; exact flats_len_of hn l' hl'
 have hcs : cs'' = cs' := by
   obtain ⟨A', cap', b, off, hv, q1, q2, q3⟩ := hy.elems
   subst hv
   have e1 := d2
   have e2 := d4
   cases A' with
   | none =>
     simp only [Builtin.firstCells, Sem.run_pure, Result.ok.injEq] at e1 e2
     have := e1.1.symm.trans e2.1
     simpa using this.symm
   | some A' =>
     rcases q1 with rfl | q1
     . simp at len' len''
       rw [len', len'']
     . cases q1
       obtain ⟨ds, r1, r2⟩ := q3
       have hld : ds.length = l'.length * e.size := by rw [<- r1.1]; exact flats_len_of hn l' hl'
       have f1 := run_loadCells_list (P := P) w ⟨b, off, none⟩ ds (fun j v hv => by rw [add_none]; exact (r2 j v hv).2)
       have f2 := run_loadCells_list (P := P) { w with drawn := w.drawn + 1 } ⟨b, off, none⟩ ds (fun j v hv => by rw [add_none]; exact (r2 j v hv).2)
       simp only [Builtin.firstCells] at e1 e2
       rw [hld] at f1 f2
       rw [f1] at e1
       rw [f2] at e2
       simp only [Result.ok.injEq] at e1 e2
       have := e1.1.symm.trans e2.1
       simpa using this.symm
 subst hcs
 have hlenOf : (Builtin.lenOf vy).run P w = .ok l'.length w := by
   obtain ⟨A', cap', b, off, hv, _⟩ := hy.elems; subst hv; rfl
 refine ⟨cs, cs'', CRl.mono (w := { w with drawn := w.drawn + 1 }) (w' := w) (S := S) (S' := S) (fun _ _ _ => rfl) (fun _ _ h => h) c1, d1, u, fun hcap => ⟨fun hA => ?_, fun b off c hA hrow hsz => ?_⟩, fun hcap => ?_⟩
 . subst hA
   simp only [Builtin.append_, List.getElem?_toArray, List.getElem?_cons_zero, List.getElem?_cons_succ, Sem.run_bind, run_underlying k1, run_underlying hT', Result.andThen_ok, lay_size k2, Sem.run_pure, Bool.false_eq_true, if_false, hlenOf, hcap, if_true, Bool.not_false, d2]
 . subst hA
   have hst := run_storeCells_list (P := P) b (off + l.length * e.size) cs'' 0 w c hrow (by
     have : (l.length + l'.length) * e.size <= cap * e.size := Nat.mul_le_mul_right _ hcap
     rw [Nat.add_mul] at this
     omega) (by rw [List.all_eq_true]; intro x hx; have := d1.nag x hx; cases x <;> simp_all [Value.oneCell', isOne])
   simp only [Nat.add_zero] at hst
   simp only [Builtin.append_, List.getElem?_toArray, List.getElem?_cons_zero, List.getElem?_cons_succ, Sem.run_bind, run_underlying k1, run_underlying hT', Result.andThen_ok, lay_size k2, Sem.run_pure, Bool.false_eq_true, if_false, hlenOf, hcap, if_true, Bool.not_false, d2, add_none, hst]
 . have hnc : ¬ (l.length + l'.length <= cap) := by omega
   have hb1 : ¬ (Builtin.nextslicecap (l.length + l'.length) cap * i0.bytes > 2 ^ 48) := by
     have h1 := nextcap_le hcap
     have h2 : Builtin.nextslicecap (l.length + l'.length) cap * i0.bytes <= (2 * 1073741824 + 200) * 16384 := Nat.mul_le_mul (by omega) hi3.1
     omega
   have hmax : ¬ (((l.length + l'.length : Nat) : Int) > IntKind.i64.max) := by
     have : IntKind.i64.max = 9223372036854775807 := by decide
     omega
   let t := w.tape w.drawn (.appendCap (l.length + l'.length) cap u)
   let newCap := l.length + l'.length + t % (2 ^ 63 - (l.length + l'.length))
   have hzs : z0.cells.size = e.size := by
     have := (zeroB_CRl (w := w) (S := S) hi5).1
     rw [<- Array.length_toList, <- this]; exact wt_len _ _ (zeroD_wt e hn) hn
   refine ⟨newCap, (Builtin.zeroCells z0.cells (newCap - (l.length + l'.length))).toList, by omega, ?_, ?_⟩
   . have : (Builtin.zeroCells z0.cells (newCap - (l.length + l'.length))).toList.length = (newCap - (l.length + l'.length)) * e.size := by simp [Builtin.zeroCells, hzs]
     rw [this, List.length_append, len, len', <- Nat.add_mul, <- Nat.add_mul]
     congr 1; omega
   . have hf : Question.forced (.appendCap (l.length + l'.length) cap u) = false := rfl
     simp only [Builtin.append_, List.getElem?_toArray, List.getElem?_cons_zero, List.getElem?_cons_succ, Sem.run_bind, run_underlying k1, run_underlying hT', Result.andThen_ok, lay_size k2, Sem.run_pure, Bool.false_eq_true, if_false, hlenOf, hnc, Bool.not_false, if_true, typeInfo, run_program, hi1, false_or, hmax, false_and, hb1, run_choose, hf, run_askRoom, c2, d4, zeroValue, hi4, newRow, run_newObj]
     have e1 : (cs ++ cs'' ++ (Builtin.zeroCells z0.cells (newCap - (l.length + l'.length))).toList).toArray = cs.toArray ++ cs''.toArray ++ Builtin.zeroCells z0.cells (newCap - (l.length + l'.length)) := by simp
     rw [e1]
     simp only [grown]
     rw [Array.push_eq_append]
     rfl
theorem ev1_append (hE : EnvOk P E) (h : Rp w0 S γ β s a w) {dst args argTypes ty pos after guard} (hf : Fr E s γ β ⟨dst, .call ⟨.builtin .append, args, argTypes⟩, ty, pos, after, guard⟩) (hlk : ∀ t ∈ s.lkS, dst ≠ some t) {R : Type} {K : St -> Option R} {r : R}
   (hq : ev1 E s ⟨dst, .call ⟨.builtin .append, args, argTypes⟩, ty, pos, after, guard⟩ K = some r) : ∃ s', K s' = some r /\ Ev1 P w0 S γ β s a w ⟨dst, .call ⟨.builtin .append, args, argTypes⟩, ty, pos, after, guard⟩ s' := by
 simp only [ev1] at hq
 replace hq := bind_some_inv hq; obtain ⟨T, hT, hq⟩ := hq
 replace hq := bind_some_inv hq; obtain ⟨t, ht, hq⟩ := hq
 replace hq := bind_some_inv hq; obtain ⟨d, hd, hq⟩ := hq
 split at hq <;> first | (cases hq; done) | skip
 rename_i e x y T0 T' hargs htys
 split at hq <;> first | (cases hq; done) | skip
 rename_i e2 ht2
 replace hq := bind_some_inv hq; obtain ⟨l', hl', hq⟩ := hq
 obtain ⟨hd4, hγ, hβ, _⟩ := hf rfl d hd
 rcases hE.lay T _ ht with ⟨ts', hts⟩ | hl
 . cases hts
 rcases hE.lay T' _ ht2 with ⟨ts', hts⟩ | hlT'
 . cases hts
 obtain ⟨u2, hu2, _⟩ := lay_sl hlT'
 have hn := layB_noTup _ _ hl
 simp only [noTup] at hn
 have hT0 : T0 = T := by
   have : argTypes = #[T0, T'] := Array.ext' (by simpa using htys)
   subst this; simpa using hT
 subst hT0
 have eT : argTypes = #[T0, T'] := Array.ext' (by simpa using htys)
 have eA : args.map a.eval = #[a.eval x, a.eval y] := Array.ext' (by simp [hargs])
 have hex : execOp a.eval ⟨dst, .call ⟨.builtin .append, args, argTypes⟩, ty, pos, after, guard⟩ = (Builtin.append_ #[T0, T'] ty #[a.eval x, a.eval y] >>= fun v => pure (.value v)) := by
   rw [<- eA, <- eT]; rfl
 obtain ⟨y1, y2⟩ := asList_ok hn (opA_ok h y) hl'
 have hx := opA_ok h x
 have own : ∀ id : Nat, (dst ≠ some (id - s.base) \/ id < s.base) -> id ≠ s.base + d := fun id hid e => by
   subst e
   rcases hid with hid | hid
   . exact hid (by rw [hd, Nat.add_sub_cancel_left])
   . omega
 split at hq <;> first | (cases hq; done) | skip
 . -- a slice of this call's own
   rename_i e' v l hox
   rw [hox] at hx
   split at hq <;> first | (cases hq; done) | skip
   rename_i hb
   split at hq <;> first | (cases hq; done) | skip
   rename_i hlen
   simp only [Bool.and_eq_true, Bool.not_eq_true'] at hb
   have := Ty.eq_of_beq _ _ hb.1; subst this
   have hvd : v ∉ s.dead := fun hh => by
     have : s.dead.contains v = true := by simpa using hh
     rw [this] at hb; cases hb.2
   simp only [AR, AC] at hx
   obtain ⟨x0, x1, x2, A, cap, x3, x4, x5⟩ := hx
   have x3 := cells_single x0 x3
   obtain ⟨cs, cs', c1, c2, u, r1, r2⟩ := run_append (P := P) (w := w) (S := S) hl hu2 ty rfl x2 y1 x4 y2 hlen
   obtain ⟨p1, p2, p3, p4, p5, p6, p7⟩ := St.put_fields { s with dead := v :: s.dead } dst (.own e' (s.base + d) (l ++ l'))
   refine ⟨_, hq, p5, p6, p2, p4, fun id _ _ => by rw [p1], ?_⟩
   rcases Nat.lt_or_ge cap (l.length + l'.length) with hcap | hcap
   . obtain ⟨newCap, rest, n1, n2, n3⟩ := r2 hcap
     obtain ⟨b1, b2⟩ := h.bury v
     obtain ⟨S', β', k1, k2, k3, k4, k5, k6⟩ := own_new b1 (v := s.base + d) hβ (by show s.base + d < s.base + 4096; omega) hn (l := l ++ l') (fun z hz => (List.mem_append.1 hz).elim (x2 z) (y1 z)) (cs := cs ++ cs') (by rw [flats_append]; exact c1.append c2) (T := u) (rest := rest) (cap := newCap) (w.drawn + 1) (Nat.le_succ _) (by rw [List.length_append]; exact n1) n2
     rw [List.length_append] at k2
     refine .value (by rw [hex, x3]; simp only [Sem.run_bind, n3, Result.andThen_ok, Sem.run_pure]) ⟨S', γ, β', k1.put k2 dst, ⟨k3, fun b o hb => cell_grown (h.Sb b o hb), fun t ht => put_slot (hlk t ht), fun id hid b hb => ⟨hb, grown_old (h.γn id b hb).2⟩, by simp, fun _ _ hb => hb⟩, fun id hid => ⟨rfl, k4 id (own id hid)⟩⟩
   . obtain ⟨r3, r4⟩ := r1 hcap
     rcases x5 hvd with ⟨rfl, rfl⟩ | ⟨b, off, rfl, hbv, n, hn1, hn2⟩
     . have z1 : l = [] := by apply List.eq_nil_of_length_eq_zero; omega
       have z2 : l' = [] := by apply List.eq_nil_of_length_eq_zero; omega
       obtain ⟨b1, b2⟩ := h.bury v
       subst z1; subst z2
       refine .value (by rw [hex, x3]; simp only [Sem.run_bind, r3 rfl, Result.andThen_ok, Sem.run_pure]; rfl) ⟨S, γ, β, b1.put (AR_own_nil hn) dst, ⟨fun _ _ hb => hb, fun _ _ _ => rfl, fun t ht => put_slot (hlk t ht), fun id hid b hb => ⟨hb, rfl⟩, Nat.le_refl _, fun _ _ hb => hb⟩, fun id hid => ⟨rfl, rfl⟩⟩
     . obtain ⟨c, hrow, hcn⟩ := row_of_rsz hn1
       obtain ⟨S', β', k1, k2, k3, k4, k5⟩ := own_more h (v' := s.base + d) hn x2 y1 hvd hbv hn1 hn2 hcap x4.at_ c2 hβ (by omega)
       refine .value (by rw [hex, x3]; simp only [Sem.run_bind, r4 b off c rfl hrow (by omega), Result.andThen_ok, Sem.run_pure]) ⟨S', γ, β', k1.put k2 dst, ⟨k3, k4, fun t ht => put_slot (hlk t ht), fun id hid b' hb' => ⟨hb', heap_putAt fun e => h.βγ v id b _ hvd hbv (e ▸ hb')⟩, by simp, fun _ _ hb => hb⟩, fun id hid => ⟨rfl, k5 id (own id hid)⟩⟩
 . -- the nil slice
   rename_i hox
   rw [hox] at hx
   split at hq <;> first | (cases hq; done) | skip
   rename_i hlen
   simp only [AR, AC] at hx
   have x3 := cells_single hx.1 hx.2
   have hnil : CR w S (.sl []) (.slice none 0 0) := .sl [] none 0 0 0 (fun _ => undef) (.inl rfl) (Nat.le_refl 0) (fun i d hd => by simp [D.flats] at hd) (fun i d hd => by simp [D.flats] at hd)
   obtain ⟨cs, cs', c1, c2, u, r1, r2⟩ := run_append (P := P) (w := w) (S := S) hl hu2 (len := 0) ty (l := []) rfl (fun x hx => by simp at hx) y1 hnil y2 (by simpa using hlen)
   obtain ⟨p1, p2, p3, p4, p5, p6, p7⟩ := St.put_fields s dst (.own e (s.base + d) l')
   refine ⟨_, hq, p5, p6, p2, p4, fun id _ _ => by rw [p1], ?_⟩
   rcases Nat.lt_or_ge 0 l'.length with hcap | hcap
   . obtain ⟨newCap, rest, n1, n2, n3⟩ := r2 (by simpa using hcap)
     obtain ⟨S', β', k1, k2, k3, k4, k5, k6⟩ := own_new h (v := s.base + d) hβ (by omega) hn (l := [] ++ l') (fun z hz => y1 z (by simpa using hz)) (cs := cs ++ cs') (by rw [flats_append]; exact c1.append c2) (T := u) (rest := rest) (cap := newCap) (w.drawn + 1) (Nat.le_succ _) (by rw [List.length_append]; exact n1) n2
     rw [List.length_append] at k2
     rw [List.nil_append] at k2
     refine .value (by rw [hex, x3]; simp only [Sem.run_bind, n3, Result.andThen_ok, Sem.run_pure]) ⟨S', γ, β', k1.put k2 dst, ⟨k3, fun b o hb => cell_grown (h.Sb b o hb), fun t ht => put_slot (hlk t ht), fun id hid b hb => ⟨hb, grown_old (h.γn id b hb).2⟩, by simp, fun _ _ hb => hb⟩, fun id hid => ⟨rfl, k4 id (own id hid)⟩⟩
   . have z2 : l' = [] := by apply List.eq_nil_of_length_eq_zero; omega
     subst z2
     obtain ⟨r3, _⟩ := r1 (by simp)
     refine .value (by rw [hex, x3]; simp only [Sem.run_bind, r3 rfl, Result.andThen_ok, Sem.run_pure]; rfl) ⟨S, γ, β, h.put (AR_own_nil hn) dst, ⟨fun _ _ hb => hb, fun _ _ _ => rfl, fun t ht => put_slot (hlk t ht), fun id hid b hb => ⟨hb, rfl⟩, Nat.le_refl _, fun _ _ hb => hb⟩, fun id hid => ⟨rfl, rfl⟩⟩
theorem ev1_ok (hE : EnvOk P E) (h : Rp w0 S γ β s a w) {o : Oper} (hf : Fr E s γ β o) (hT : ∀ T t, (o.op = .alloc T \/ ∃ x, o.op = .box T x) -> E.L T = some t -> noTup t = true) (hlk : ∀ t ∈ s.lkS, o.dst ≠ some t) (hst : ∀ T x y, o.op = .store T x y -> o.dst = none) {R : Type} {K : St -> Option R} {r : R}
   (hq : ev1 E s o K = some r) : ∃ s', K s' = some r /\ Ev1 P w0 S γ β s a w o s' := by
 have quiet : qv E s o (fun v => K (s.put o.dst v)) = some r -> ∃ s', K s' = some r /\ Ev1 P w0 S γ β s a w o s' := fun hq => ev1_quiet hE h hf (fun T t e => hT T t (.inl e)) hlk hq
 obtain ⟨dst, op, ty, pos, after, guard⟩ := o
 cases op
 case store T x y => exact ev1_store hE h hlk (hst T x y rfl) hq
 case box T x => exact ev1_box hE h hf hlk (fun t => hT T t (.inr ⟨x, rfl⟩)) hq
 case makeSlice T x y => exact ev1_makeSlice hE h hf hlk hq
 case makeMap T x => exact ev1_makeMap hE h hf hlk hq
 case mapUpdate T x y z => exact ev1_mapUpdate hE h hq
 case call c =>
   obtain ⟨callee, args, argTypes⟩ := c
   cases callee
   case builtin b =>
     cases b
     case append => exact ev1_append hE h hf hlk hq
     all_goals exact quiet hq
   all_goals exact quiet hq
 all_goals exact quiet hq
end
end Go.Proofs.YtjjjkojfijpeeaaGreat.Sy
end
section
namespace Go.Proofs.YtjjjkojfijpeeaaGreat.Sy
open Go
theorem bind_fac {α β R : Type} {x : Option α} {f : α -> Option R} {g : α -> Option β} {K : β -> Option R} (h : ∀ a, f a = (g a).bind K) : x.bind f = (x.bind g).bind K := by
 cases x with
 | none => rfl
 | some a => exact h a
theorem getA_fac {R : Type} : ∀ (p : List Nat) (a : AV) (K : AV -> Option R), getA a p K = (getA a p some).bind K := by
 intro p
 induction p with
 | nil => intro a K; cases a <;> rfl
 | cons i p ih =>
   intro a K
   cases a <;> simp only [getA] <;> first
     | rfl
     | exact bind_fac fun t => bind_fac fun y => rfl
     | exact bind_fac fun b => ih b K
theorem readOb_fac {R : Type} (o : Ob) (p : List Nat) (K : AV -> Option R) : readOb o p K = (readOb o p some).bind K := by
 cases o with
 | one t v => exact getA_fac p v K
 | many t l =>
   cases p with
   | nil => rfl
   | cons i p => exact bind_fac fun x => getA_fac p _ K
 | mp kt vt l => rfl
theorem readOb_fac2 {R : Type} {o : Ob} {p : List Nat} {f : AV -> Option R} {g : AV -> Option AV} {K : AV -> Option R} (h : ∀ v, f v = (g v).bind K) : readOb o p f = (readOb o p g).bind K := by
 rw [readOb_fac, readOb_fac _ _ g]
 cases readOb o p some with
 | none => rfl
 | some v => exact h v
theorem qv_fac {R : Type} (E : Env) (s : St) (o : Oper) (K : AV -> Option R) : qv E s o K = (qv E s o some).bind K := by
 obtain ⟨dst, op, ty, pos, after, guard⟩ := o
 cases op <;> simp only [qv] <;> (repeat' first | rfl | exact readOb_fac _ _ _ | refine readOb_fac2 fun _ => ?_ | refine bind_fac fun _ => ?_ | split)
structure Wk (s s' : St) : Prop where
 tm : ∀ t, s'.tm t = s.tm t \/ s'.tm t = .undef
 ob : s'.ob = s.ob
 fresh : s'.fresh = s.fresh
 dead : s'.dead = s.dead
 nt : s'.nt = s.nt
 lkS : s'.lkS = s.lkS
 lkO : s'.lkO = s.lkO
theorem Wk.refl (s : St) : Wk s s := ⟨fun _ => .inl rfl, rfl, rfl, rfl, rfl, rfl, rfl⟩
theorem Wk.trans {a b c : St} (h : Wk a b) (k : Wk b c) : Wk a c :=
 ⟨fun t => by
   rcases k.tm t with e | e
   . rw [e]; exact h.tm t
   . exact .inr e, k.ob.trans h.ob, k.fresh.trans h.fresh, k.dead.trans h.dead, k.nt.trans h.nt, k.lkS.trans h.lkS, k.lkO.trans h.lkO⟩
theorem Wk.put {s s' : St} (h : Wk s s') (d : Option Nat) {v v' : AV} (hv : v' = v \/ v' = .undef) : Wk (s.put d v) (s'.put d v') := by
 cases d with
 | none => exact h
 | some d =>
   simp only [St.put, h.nt]
   split
   . refine ⟨fun t => ?_, h.ob, h.fresh, h.dead, by first | exact h.nt | rfl, h.lkS, h.lkO⟩
     by_cases e : t = d
     . simp only [e, if_true]; exact hv
     . simp only [e, if_false]; exact h.tm t
   . exact h
theorem Wk.kill (s : St) (d : Option Nat) : Wk s (s.put d .undef) := by
 cases d with
 | none => exact Wk.refl s
 | some d =>
   simp only [St.put]
   split
   . refine ⟨fun t => ?_, rfl, rfl, rfl, rfl, rfl, rfl⟩
     by_cases e : t = d
     . simp [e]
     . simp [e]
   . exact Wk.refl s
theorem Wk.killD : ∀ (l : List Oper) (s : St), Wk s (killD s l)
 | [], s => Wk.refl s
 | o :: l, s => (Wk.kill s o.dst).trans (Wk.killD l _)
theorem Wk.opA {s s' : St} (h : Wk s s') (x : Operand) : s'.opA x = s.opA x \/ s'.opA x = .undef := by
 cases x with
 | tmp t => exact h.tm t
 | const v => exact .inl rfl
 | global g => exact .inl rfl
 | func f => exact .inl rfl
theorem toD_undef {ob : Nat -> Option Ob} {t : Ty} : AV.toD ob t .undef = none := by cases t <;> rfl
theorem Rp.wk {w0 : Root} {S : Nat -> Nat -> Prop} {γ : Nat -> Option Nat} {β : Nat -> Option (Nat × Nat)} {s s' : St} {a : Act} {w : World} (h : Rp w0 S γ β s a w) (k : Wk s s') : Rp w0 S γ β s' a w := by
 have e1 := k.ob
 have e2 := k.dead
 have e3 : s'.base = s.base := by simp only [St.base, k.fresh]
 refine ⟨h.ext, fun t ht => ?_, h.nt.trans k.nt.symm, fun t ht => ?_, ?_, h.γn, h.γi, ?_, ?_, ?_, ?_, ?_, h.Sb, h.So, h.df⟩
 . rw [e1, e2]
   rcases k.tm t with e | e
   . rw [e]; exact h.tms t ht
   . rw [e]; simp [AR]
 . rcases k.tm t with e | e
   . rw [e]; exact h.tmu t (k.nt ▸ ht)
   . exact e
 . rw [e1, e2]; exact h.obs
 . rw [e3]; exact h.γf
 . rw [e2]; exact h.βn
 . rw [e2]; exact h.βi
 . rw [e2]; exact h.βγ
 . rw [e3]; exact h.βf
section
variable {E : Env} {s s' : St}
theorem Wk.toDl (h : Wk s s') : ∀ (l : List Operand) (ts : List Ty) {xs : List D}, AV.toDl s'.ob ts (l.map s'.opA) = some xs -> AV.toDl s.ob ts (l.map s.opA) = some xs
 | [], ts, xs, hx => by cases ts <;> simpa [AV.toDl] using hx
 | y :: l, ts, xs, hx => by
   cases ts <;> simp only [List.map_cons, AV.toDl] at hx ⊢ <;> first | (cases hx; done) | skip
   obtain ⟨x, h1, h2⟩ := bind_some_inv hx
   obtain ⟨ys, h3, h4⟩ := bind_some_inv h2
   rcases h.opA y with e | e
   . rw [e, h.ob] at h1
     rw [h1, Option.bind_some, h.toDl l _ h3]
     exact h4
   . rw [e, toD_undef] at h1; cases h1
theorem Wk.partsD (h : Wk s s') (ty : Nat -> Option Ty) : ∀ (l : List (Nat × Operand)) {xs : List (Nat × D)}, Sy.partsD s'.ob s' ty l = some xs -> Sy.partsD s.ob s ty l = some xs
 | [], xs, hx => hx
 | (i, y) :: l, xs, hx => by
   simp only [Sy.partsD] at hx ⊢
   obtain ⟨t, h0, hx⟩ := bind_some_inv hx
   obtain ⟨x, h1, h2⟩ := bind_some_inv hx
   obtain ⟨ys, h3, h4⟩ := bind_some_inv h2
   rw [h0, Option.bind_some]
   rcases h.opA y with e | e
   . rw [e, h.ob] at h1
     rw [h1, Option.bind_some, h.partsD ty l h3]
     exact h4
   . rw [e, toD_undef] at h1; cases h1
theorem Wk.asList (h : Wk s s') {e : Ty} {x : Operand} {l : List D} (hx : (s'.opA x).asList s'.ob e = some l) : s'.opA x = s.opA x := by
 rcases h.opA x with k | k
 . exact k
 . rw [k] at hx; simp [AV.asList, toD_undef] at hx
theorem Wk.isD (h : Wk s s') {x : Operand} {p : Ty × D} (hx : Sy.isD (s'.opA x) = some p) : s'.opA x = s.opA x := by
 rcases h.opA x with k | k
 . exact k
 . rw [k] at hx; simp [Sy.isD] at hx
theorem Wk.truth (h : Wk s s') {x : Operand} {b : Bool} (hx : (s'.opA x).truth = some b) : s'.opA x = s.opA x := by
 rcases h.opA x with k | k
 . exact k
 . rw [k] at hx; simp [AV.truth] at hx
end
end Go.Proofs.YtjjjkojfijpeeaaGreat.Sy
end
section
namespace Go.Proofs.YtjjjkojfijpeeaaGreat.Sy
open Go
section
variable {E : Env} {s s' : St}
theorem Wk.base_eq (h : Wk s s') : s'.base = s.base := by simp only [St.base, h.fresh]
theorem Wk.qv (h : Wk s s') {o : Oper} {v' : AV} (hq : Sy.qv E s' o some = some v') : ∃ v, Sy.qv E s o some = some v /\ (v' = v \/ v' = .undef) := by
 obtain ⟨dst, op, ty, pos, after, guard⟩ := o
 have hob := h.ob
 have hba := h.base_eq
 have same : ∀ {x y : Option AV}, x = some v' -> y = x -> ∃ v, y = some v /\ (v' = v \/ v' = .undef) := fun hx hy => ⟨v', hy.trans hx, .inl rfl⟩
 cases op <;> simp only [Sy.qv] at hq ⊢ <;> (try (cases hq; done))
 case move x =>
   simp only [Option.some.injEq] at hq
   exact ⟨_, rfl, by rcases h.opA x with e | e <;> simp [<- hq, e]⟩
 case assign x =>
   simp only [Option.some.injEq] at hq
   exact ⟨_, rfl, by rcases h.opA x with e | e <;> simp [<- hq, e]⟩
 case pick c x y =>
   obtain ⟨b, h1, h2⟩ := bind_some_inv hq
   rw [<- h.truth h1, h1, Option.bind_some]
   cases b
   . simp only [Bool.false_eq_true, if_false, Option.some.injEq] at h2 ⊢
     exact ⟨_, rfl, by rcases h.opA y with e | e <;> simp [<- h2, e]⟩
   . simp only [if_true, Option.some.injEq] at h2 ⊢
     exact ⟨_, rfl, by rcases h.opA x with e | e <;> simp [<- h2, e]⟩
 case alloc T => rw [hba] at hq; exact same hq rfl
 case load T x =>
   obtain ⟨t, h1, h2⟩ := bind_some_inv hq
   rcases h.opA x with e | e
   . rw [e, hob] at hq; exact same hq rfl
   . rw [e] at h2; cases h2
 case fieldAddr T x f =>
   obtain ⟨t, h1, h2⟩ := bind_some_inv hq
   rcases h.opA x with e | e
   . rw [e] at hq; exact same hq rfl
   . rw [e] at h2; cases t <;> cases h2
 case indexAddr T x i =>
   obtain ⟨t, h1, h2⟩ := bind_some_inv hq
   obtain ⟨p, h3, h4⟩ := bind_some_inv h2
   have ei := h.isD h3
   rcases h.opA x with e | e
   . rw [e, ei, hob] at hq; exact same hq rfl
   . rw [e] at h4
     cases t <;> simp [AV.asList, toD_undef] at h4
 case lookup T x i c =>
   obtain ⟨t, h1, h2⟩ := bind_some_inv hq
   rcases h.opA x with e | e
   . rw [e, hob] at h2 hq
     have ei : s'.opA i = s.opA i := by
       split at h2 <;> first | (cases h2; done) | skip
       split at h2 <;> first | (cases h2; done) | skip
       split at h2 <;> first | (cases h2; done) | skip
       split at h2 <;> first | (cases h2; done) | skip
       obtain ⟨p, h3, _⟩ := bind_some_inv h2
       exact h.isD h3
     rw [ei] at hq
     exact same hq rfl
   . rw [e] at h2; cases h2
 case field T x f =>
   obtain ⟨t, h1, h2⟩ := bind_some_inv hq
   rcases h.opA x with e | e
   . rw [e] at hq; exact same hq rfl
   . rw [e] at h2; cases t <;> cases h2
 case index T x i =>
   obtain ⟨t, h1, h2⟩ := bind_some_inv hq
   obtain ⟨p, h3, h4⟩ := bind_some_inv h2
   have ei := h.isD h3
   rcases h.opA x with e | e
   . rw [e, ei] at hq; exact same hq rfl
   . rw [e] at h4; cases t <;> cases h4
 case binOp op T x y T' =>
   obtain ⟨t, h1, h2⟩ := bind_some_inv hq
   obtain ⟨p, h3, h4⟩ := bind_some_inv h2
   obtain ⟨q, h5, h6⟩ := bind_some_inv h4
   rw [h.isD h3, h.isD h5] at hq
   exact same hq rfl
 case unOp op T x =>
   obtain ⟨p, h3, h4⟩ := bind_some_inv hq
   rw [h.isD h3] at hq
   exact same hq rfl
 case convert U T x =>
   obtain ⟨u, h1, h2⟩ := bind_some_inv hq
   obtain ⟨t, h1', h2⟩ := bind_some_inv h2
   obtain ⟨p, h3, h4⟩ := bind_some_inv h2
   rw [h.isD h3] at hq
   exact same hq rfl
 case nilCheck x =>
   rcases h.opA x with e | e
   . rw [e] at hq; exact same hq rfl
   . rw [e] at hq; cases hq
 case extract x i =>
   rcases h.opA x with e | e
   . rw [e] at hq; exact same hq rfl
   . rw [e] at hq; cases hq
 case build T ps =>
   obtain ⟨t, h1, h2⟩ := bind_some_inv hq
   rw [h1, Option.bind_some]
   cases t <;> simp only at h2 ⊢ <;> (try (cases h2; done))
   case st ts =>
     split at h2
     . rename_i hs
       rw [if_pos hs]
       split at h2 <;> first | (cases h2; done) | skip
       rename_i hall
       have key : ∀ (l : List (Nat × Operand)), l.all (fitsAt s' ts) = true -> l.all (fitsAt s ts) = true /\ (l.map fun p => (p.1, s'.opA p.2)) = l.map fun p => (p.1, s.opA p.2) := by
         intro l
         induction l with
         | nil => intro _; exact ⟨rfl, rfl⟩
         | cons p l ih =>
           intro hh
           simp only [List.all_cons, Bool.and_eq_true] at hh
           obtain ⟨k1, k2⟩ := ih hh.2
           have h3 := hh.1
           have e : s'.opA p.2 = s.opA p.2 := by
             rcases h.opA p.2 with e | e
             . exact e
             . unfold fitsAt at h3
               rw [e] at h3
               split at h3
               . rename_i u _; cases u <;> simp [AV.fits] at h3
               . cases h3
           have h3' : fitsAt s ts p = true := by unfold fitsAt at h3 ⊢; rw [e] at h3; exact h3
           simp only [List.all_cons, Bool.and_eq_true, List.map_cons, e, k2]
           exact ⟨⟨h3', k1⟩, trivial⟩
       obtain ⟨k1, k2⟩ := key _ hall
       rw [if_pos k1, <- k2]
       exact ⟨v', h2, .inl rfl⟩
     . rename_i hs
       rw [if_neg hs]
       obtain ⟨l, h3, h4⟩ := bind_some_inv h2
       rw [h.partsD _ _ h3, Option.bind_some]
       exact ⟨v', h4, .inl rfl⟩
   case arr n e =>
     obtain ⟨l, h3, h4⟩ := bind_some_inv h2
     rw [h.partsD _ _ h3, Option.bind_some]
     exact ⟨v', h4, .inl rfl⟩
 case buildSlice T n ps =>
   obtain ⟨t, h1, h2⟩ := bind_some_inv hq
   rw [h1, Option.bind_some]
   cases t <;> simp only at h2 ⊢ <;> (try (cases h2; done))
   split at h2 <;> first | (cases h2; done) | skip
   rename_i hn
   rw [if_pos hn]
   obtain ⟨d, h3, h4⟩ := bind_some_inv h2
   obtain ⟨l, h5, h6⟩ := bind_some_inv h4
   rw [h3, Option.bind_some, h.partsD _ _ h5, Option.bind_some, <- hba]
   exact ⟨v', h6, .inl rfl⟩
 case slice T x lo hi mx =>
   cases mx with
   | some m => cases hq
   | none =>
     obtain ⟨t, h1, h2⟩ := bind_some_inv hq
     cases t <;> simp only at h2 <;> (try (cases h2; done))
     case arr m e =>
       rcases h.opA x with ex | ex
       . rw [ex] at h2 hq
         rw [hob] at hq
         have key : (∀ i, lo = some i -> s'.opA i = s.opA i) /\ (∀ i, hi = some i -> s'.opA i = s.opA i) := by
           clear hq
           split at h2 <;> first | (cases h2; done) | skip
           split at h2 <;> first | (cases h2; done) | skip
           obtain ⟨lo', h5, h6⟩ := bind_some_inv h2
           obtain ⟨hi', h7, h8⟩ := bind_some_inv h6
           refine ⟨fun i hi => ?_, fun i hi => ?_⟩
           . subst hi
             obtain ⟨p, h9, _⟩ := bind_some_inv h5
             exact h.isD h9
           . subst hi
             obtain ⟨p, h9, _⟩ := bind_some_inv h7
             exact h.isD h9
         obtain ⟨elo, ehi⟩ := key
         clear h2
         cases lo <;> cases hi <;> simp only at hq ⊢
         . exact same hq rfl
         . rw [ehi _ rfl] at hq; exact same hq rfl
         . rw [elo _ rfl] at hq; exact same hq rfl
         . rw [elo _ rfl, ehi _ rfl] at hq; exact same hq rfl
       . rw [ex] at h2; cases h2
     obtain ⟨l, h3, h4⟩ := bind_some_inv h2
     obtain ⟨lo', h5, h6⟩ := bind_some_inv h4
     obtain ⟨hi', h7, h8⟩ := bind_some_inv h6
     have ex := h.asList h3
     have elo : ∀ i, lo = some i -> s'.opA i = s.opA i := fun i hi => by
       subst hi
       obtain ⟨p, h9, _⟩ := bind_some_inv h5
       exact h.isD h9
     have ehi : ∀ i, hi = some i -> s'.opA i = s.opA i := fun i hi => by
       subst hi
       obtain ⟨p, h9, _⟩ := bind_some_inv h7
       exact h.isD h9
     rw [ex, hob] at hq
     cases lo <;> cases hi <;> simp only at hq ⊢
     . exact same hq rfl
     . rw [ehi _ rfl] at hq; exact same hq rfl
     . rw [elo _ rfl] at hq; exact same hq rfl
     . rw [elo _ rfl, ehi _ rfl] at hq; exact same hq rfl
 case sliceToArrayPointer T x =>
   obtain ⟨t, h1, h2⟩ := bind_some_inv hq
   rcases h.opA x with e | e
   . rw [e] at hq; exact same hq rfl
   . rw [e] at h2; cases t <;> cases h2
 case makeFunc fn first captured =>
   cases fn <;> simp only at hq ⊢ <;> (try (cases hq; done))
   split at hq <;> first | (cases hq; done) | skip
   rename_i hh
   have key : ∀ (l : List Operand), (l.all fun x => isPtr (s'.opA x)) = true -> (l.all fun x => isPtr (s.opA x)) = true /\ l.map s'.opA = l.map s.opA := by
     intro l
     induction l with
     | nil => intro _; exact ⟨rfl, rfl⟩
     | cons p l ih =>
       intro hh
       simp only [List.all_cons, Bool.and_eq_true] at hh
       obtain ⟨k1, k2⟩ := ih hh.2
       have h3 := hh.1
       have e : s'.opA p = s.opA p := by
         rcases h.opA p with e | e
         . exact e
         . rw [e] at h3; simp [isPtr] at h3
       rw [e] at h3
       simp only [List.all_cons, Bool.and_eq_true, List.map_cons, e, k2]
       exact ⟨⟨h3, k1⟩, trivial⟩
   obtain ⟨k1, k2⟩ := key _ hh.2
   rw [if_pos ⟨hh.1, k1⟩, <- k2]
   exact ⟨v', hq, .inl rfl⟩
 case call c =>
   obtain ⟨callee, args, argTypes⟩ := c
   cases callee <;> simp only at hq ⊢ <;> (try (cases hq; done))
   case value f =>
     cases f <;> simp only at hq ⊢ <;> (try (cases hq; done))
     obtain ⟨g, h1, h2⟩ := bind_some_inv hq
     obtain ⟨xs, h3, h4⟩ := bind_some_inv h2
     rw [h1, Option.bind_some, h.toDl _ _ h3, Option.bind_some]
     exact ⟨v', h4, .inl rfl⟩
   case builtin b =>
     cases b <;> simp only at hq ⊢ <;> (try (cases hq; done))
     case len =>
       obtain ⟨T, h1, h2⟩ := bind_some_inv hq
       obtain ⟨t, h3, h4⟩ := bind_some_inv h2
       obtain ⟨x, h5, h6⟩ := bind_some_inv h4
       rcases h.opA x with e | e
       . rw [h1, Option.bind_some, h3, Option.bind_some, h5, Option.bind_some]
         cases t <;> simp only at h6 ⊢ <;> first
           | (cases h6; done)
           | (rw [e, hob] at h6; exact same h6 rfl)
           | exact ⟨v', h6, .inl rfl⟩
       . rw [h1, Option.bind_some, h3, Option.bind_some, h5, Option.bind_some]
         cases t <;> simp only at h6 ⊢ <;> first
           | (cases h6; done)
           | (rw [e] at h6; simp [AV.asList, toD_undef] at h6; done)
           | exact ⟨v', h6, .inl rfl⟩
     case min =>
       split at hq <;> first | (cases hq; done) | skip
       obtain ⟨p, h3, h4⟩ := bind_some_inv hq
       obtain ⟨q, h5, h6⟩ := bind_some_inv h4
       rw [h.isD h3, h.isD h5] at hq
       exact same hq rfl
     case max =>
       split at hq <;> first | (cases hq; done) | skip
       obtain ⟨p, h3, h4⟩ := bind_some_inv hq
       obtain ⟨q, h5, h6⟩ := bind_some_inv h4
       rw [h.isD h3, h.isD h5] at hq
       exact same hq rfl
end
def val (E : Env) (ops : Array Oper) (s : St) (o : Oper) : Option AV :=
 if lkd s o then none else
 match o.guard with
 | none => qv E s o some
 | some (j, want) => ((ops[j]?).bind (·.dst)).bind fun g => ifGone (s.tm g) (some .gone) ((s.tm g).truth.bind fun c => if c == want then qv E s o some else some .gone)
def seqV (E : Env) (ops : Array Oper) : List Oper -> St -> Option St
 | [], s => some s
 | o :: l, s => (val E ops s o).bind fun v => seqV E ops l (s.put o.dst v)
section
variable {E : Env} {ops : Array Oper} {s s' : St}
theorem Wk.lkd_eq (h : Wk s s') (o : Oper) : lkd s' o = lkd s o := by simp only [lkd, h.lkS]
theorem Wk.val (h : Wk s s') {o : Oper} {v' : AV} (hq : Sy.val E ops s' o = some v') : ∃ v, Sy.val E ops s o = some v /\ (v' = v \/ v' = .undef) := by
 unfold Sy.val at hq ⊢
 rw [h.lkd_eq] at hq
 split at hq <;> first | (cases hq; done) | skip
 rename_i hlk
 rw [if_neg hlk]
 cases hg : o.guard with
 | none => rw [hg] at hq; exact h.qv hq
 | some p =>
   obtain ⟨j, want⟩ := p
   rw [hg] at hq
   simp only at hq ⊢
   obtain ⟨g, h1, h2⟩ := bind_some_inv hq
   rw [h1, Option.bind_some]
   by_cases hgo : s'.tm g = .gone
   . have e : s'.tm g = s.tm g := by
       rcases h.tm g with e | e
       . exact e
       . rw [hgo] at e; cases e
     rw [hgo, ifGone_gone] at h2
     rw [<- e, hgo, ifGone_gone]
     exact ⟨v', h2, .inl rfl⟩
   rw [ifGone_ne hgo] at h2
   obtain ⟨c, h3, h4⟩ := bind_some_inv h2
   have e : s'.tm g = s.tm g := h.truth (x := .tmp g) h3
   rw [<- e, ifGone_ne hgo, h3, Option.bind_some]
   split at h4
   . rename_i hc; rw [if_pos hc]; exact h.qv h4
   . rename_i hc; rw [if_neg hc]; exact ⟨v', h4, .inl rfl⟩
theorem Wk.seqV : ∀ (l : List Oper) {s s' t' : St}, Wk s s' -> Sy.seqV E ops l s' = some t' -> ∃ t, Sy.seqV E ops l s = some t /\ Wk t t'
 | [], s, s', t', h, hq => by simp only [Sy.seqV, Option.some.injEq] at hq; subst hq; exact ⟨s, rfl, h⟩
 | o :: l, s, s', t', h, hq => by
   simp only [Sy.seqV] at hq ⊢
   obtain ⟨v', h1, h2⟩ := bind_some_inv hq
   obtain ⟨v, h3, h4⟩ := h.val h1
   rw [h3, Option.bind_some]
   exact Wk.seqV l (h.put o.dst h4) h2
theorem seqV_append : ∀ (l l' : List Oper) (s : St), Sy.seqV E ops (l ++ l') s = (Sy.seqV E ops l s).bind (Sy.seqV E ops l')
 | [], l', s => rfl
 | o :: l, l', s => by
   simp only [List.cons_append, Sy.seqV]
   cases val E ops s o with
   | none => rfl
   | some v => exact seqV_append l l' _
theorem Wk.killD_mono : ∀ (l : List Oper) {s s' : St}, Wk s s' -> Wk (Sy.killD s l) (Sy.killD s' l)
 | [], _, _, h => h
 | o :: l, _, _, h => Wk.killD_mono l (h.put o.dst (.inl rfl))
theorem seqV_kill : ∀ (l : List Oper) {s t : St}, Sy.seqV E ops l s = some t -> Wk t (killD s l)
 | [], s, t, h => by simp only [Sy.seqV, Option.some.injEq] at h; subst h; exact Wk.refl s
 | o :: l, s, t, h => by
   simp only [Sy.seqV] at h
   obtain ⟨v, h1, h2⟩ := bind_some_inv h
   have k1 := seqV_kill l h2
   refine k1.trans ?_
   show Wk (killD (s.put o.dst v) l) (killD (s.put o.dst .undef) l)
   exact Wk.killD_mono l ((Wk.refl s).put o.dst (.inr rfl))
end
end Go.Proofs.YtjjjkojfijpeeaaGreat.Sy
end
section
namespace Go.Proofs.YtjjjkojfijpeeaaGreat.Sy
open Go
def headOp (o : Oper) : Bool := quietOp o || (match o.op with | .alloc _ => true | _ => false)
theorem ev1_head {R : Type} (E : Env) (s : St) {o : Oper} (h : headOp o = true) (K : St -> Option R) : ev1 E s o K = qv E s o fun v => K (s.put o.dst v) := by
 obtain ⟨dst, op, ty, pos, after, guard⟩ := o
 cases op <;> first | rfl | (simp [headOp, quietOp] at h; done) | skip
 rename_i c
 obtain ⟨callee, args, argTypes⟩ := c
 cases callee <;> first | rfl | skip
 rename_i b
 cases b <;> first | rfl | (simp [headOp, quietOp] at h)
theorem qv_split {R : Type} {E : Env} {s : St} {o : Oper} {K : AV -> Option R} {r : R} (h : qv E s o K = some r) : ∃ v, qv E s o some = some v /\ K v = some r := by
 rw [qv_fac] at h
 exact bind_some_inv h
theorem splitPick_spec (d : Option Nat) : ∀ (l : List (Nat × Oper)), l = (splitPick d l).1 ++ (splitPick d l).2 /\ ∀ p q, (splitPick d l).2 = p :: q -> isPickOf d p.2 = true
 | [] => ⟨rfl, fun p q h => by simp [splitPick] at h⟩
 | p :: l => by
   simp only [splitPick]
   split
   . rename_i hp
     exact ⟨rfl, fun p' q h => by cases h; exact hp⟩
   . obtain ⟨h1, h2⟩ := splitPick_spec d l
     exact ⟨by simp only [List.cons_append]; rw [<- h1], h2⟩
theorem put_same {s : St} {d : Nat} {v : AV} (h : s.tm d = v) : s.put (some d) v = s := by
 simp only [St.put]
 split
 . have : (fun i => if i = d then v else s.tm i) = s.tm := by
     funext i
     by_cases e : i = d
     . subst e; simp [h]
     . simp [e]
   rw [this]
 . rfl
theorem put_get {s : St} {d : Nat} {v : AV} (h : d < s.nt) : (s.put (some d) v).tm d = v := by simp [St.put, h]
theorem truth_spec {v : AV} {b : Bool} (h : v.truth = some b) : v = .d .bool (.bool b) := by
 cases v <;> simp only [AV.truth] at h <;> first | (cases h; done) | skip
 split at h <;> first | (cases h; done) | skip
 rename_i ht
 rw [Ty.eq_of_beq _ _ ht, truth_inv h]
theorem guard_split {R : Type} {s : St} {g : Nat} {c want : Bool} (hc : (s.tm g).truth = some c) {A B : St -> Option R} {r : R}
   (h : (if c then (if want then A (s.put (some g) (.d .bool (.bool true))) else B (s.put (some g) (.d .bool (.bool true)))) else (if want then B (s.put (some g) (.d .bool (.bool false))) else A (s.put (some g) (.d .bool (.bool false))))) = some r) : (if c == want then A s else B s) = some r := by
 have e := put_same (truth_spec hc)
 cases c <;> cases want <;> simp only [Bool.false_eq_true, if_true, if_false] at h <;> rw [e] at h <;> simpa using h
theorem isPickOf_op {d : Option Nat} {o : Oper} (h : isPickOf d o = true) : ∃ c x y, o.op = .pick c x y := by
 cases hop : o.op <;> first | exact ⟨_, _, _, rfl⟩ | (simp [isPickOf, hop] at h)
theorem quiet_head {o : Oper} (h : quietOp o = true) : headOp o = true := by simp [headOp, h]
theorem pick_head {o : Oper} {c x y : Operand} (h : o.op = .pick c x y) : headOp o = true := by simp [headOp, quietOp, h]
theorem evR_head {E : Env} {ops : Array Oper} : ∀ (N : Nat) (R : Type) (l : List (Nat × Oper)) (s : St) (k : St -> Option R) (r : R) (m : Nat) (an : Ann), m <= l.length -> (∀ p ∈ l.take m, headOp p.2 = true /\ isInl E p.2 = false) ->
   (∀ p ∈ l.drop m, p.2.guard = none /\ ∀ c x y, p.2.op ≠ .pick c x y) -> evR E N R ops an l s k = some r ->
   ∃ s' s'' N', seqV E ops ((l.take m).map Prod.snd) s = some s' /\ Wk s' s'' /\ evR E N' R ops an (l.drop m) s'' k = some r := by
 intro N
 induction N with
 | zero => intro R l s k r m an _ _ _ h; simp [evR] at h
 | succ N ih =>
   intro R l s k r m an hm hq ht h
   cases m with
   | zero => exact ⟨s, s, N + 1, rfl, Wk.refl s, by simpa using h⟩
   | succ m =>
     cases l with
     | nil => simp at hm
     | cons p l =>
       obtain ⟨i, o⟩ := p
       simp only [List.length_cons, Nat.add_le_add_iff_right] at hm
       obtain ⟨ho, hin⟩ := hq (i, o) (by simp)
       simp only at ho hin
       have hq' : ∀ p ∈ l.take m, headOp p.2 = true /\ isInl E p.2 = false := fun p hp => hq p (by simp [hp])
       have ht' : ∀ p ∈ l.drop m, p.2.guard = none /\ ∀ c x y, p.2.op ≠ .pick c x y := fun p hp => ht p (by simpa using hp)
       simp only [evR] at h
       have step : ∀ {v : AV}, val E ops s o = some v -> evR E N R ops an l (s.put o.dst v) k = some r -> ∃ s' s'' N', seqV E ops (((i, o) :: l).take (m + 1) |>.map Prod.snd) s = some s' /\ Wk s' s'' /\ evR E N' R ops an (((i, o) :: l).drop (m + 1)) s'' k = some r := by
         intro v hv hr
         obtain ⟨s', s'', N', h1, h2, h3⟩ := ih R l (s.put o.dst v) k r m an hm hq' ht' hr
         refine ⟨s', s'', N', ?_, h2, by simpa using h3⟩
         simp only [List.take_succ_cons, List.map_cons, seqV, hv, Option.bind_some]
         exact h1
       cases hg : o.guard with
       | some jw =>
         obtain ⟨j, want⟩ := jw
         rw [hg] at h
         simp only at h
         split at h <;> first | (cases h; done) | skip
         rename_i g hgd
         split at h <;> first | (cases h; done) | skip
         rename_i hlk
         by_cases hgo : s.tm g = .gone
         . rw [hgo, ifGone_gone] at h
           exact step (by unfold val; rw [if_neg hlk, hg]; simp only; rw [hgd, Option.bind_some, hgo, ifGone_gone]) h
         rw [ifGone_ne hgo] at h
         obtain ⟨c, h1, h2⟩ := bind_some_inv h
         replace h2 := guard_split (A := fun s => ev1 E s o fun s' => evR E N R ops an l s' k) (B := fun s => evR E N R ops an l (s.put o.dst .gone) k) h1 h2
         split at h2
         . rename_i hc
           rw [ev1_head E s ho] at h2
           obtain ⟨v, h3, h4⟩ := qv_split h2
           exact step (by unfold val; rw [if_neg hlk, hg]; simp only; rw [hgd, Option.bind_some, ifGone_ne hgo, h1, Option.bind_some, if_pos hc]; exact h3) h4
         . rename_i hc
           exact step (by unfold val; rw [if_neg hlk, hg]; simp only; rw [hgd, Option.bind_some, ifGone_ne hgo, h1, Option.bind_some, if_neg hc]) h2
       | none =>
         rw [hg] at h
         simp only at h
         split at h
         . -- a short-circuit
           rename_i hgu
           obtain ⟨e1, e2⟩ := splitPick_spec o.dst l
           generalize splitPick o.dst l = sp at *
           obtain ⟨seg, rest⟩ := sp
           simp only at h e1 e2
           split at h <;> first | (cases h; done) | skip
           rename_i _ _ jj pk l'' d hd
           split at h <;> first | (cases h; done) | skip
           rename_i hcond
           simp only [Bool.and_eq_true, decide_eq_true_eq, Bool.not_eq_true', List.all_eq_true] at hcond
           obtain ⟨⟨⟨⟨⟨c1, c2⟩, c3⟩, cI⟩, c4⟩, c5⟩ := hcond
           have hpk := e2 _ _ rfl
           obtain ⟨pc, px, py, hop⟩ := isPickOf_op hpk
           have hseg : seg.length < m := by
             rcases Nat.lt_or_ge seg.length m with h0 | h0
             . exact h0
             . exfalso
               have : (jj, pk) ∈ l.drop m := by
                 rw [e1, List.drop_append_of_le_length h0]
                 simp
               exact (ht' _ this).2 _ _ _ hop
           unfold ev1L at h
           split at h <;> first | (cases h; done) | skip
           rename_i hlk
           rw [ev1_head E s ho] at h
           obtain ⟨v, h3, h4⟩ := qv_split h
           rw [hd] at h4
           obtain ⟨c, h5, h6⟩ := bind_some_inv h4
           rw [put_get c1] at h5
           have hv := truth_spec h5
           subst hv
           obtain ⟨x, h7, h8⟩ := bind_some_inv h6
           have hsame : ∀ b, b = c -> (s.put (some d) (.d .bool (.bool c))).put (some d) (.d .bool (.bool b)) = s.put (some d) (.d .bool (.bool c)) := fun b hb => put_same (by rw [put_get c1, hb])
           have hsegv : ∃ k2 : St -> Option Bool, (∀ s2, k2 s2 = qv E s2 pk AV.truth) /\ evR E N Bool ops .leaf seg (s.put (some d) (.d .bool (.bool c))) k2 = some x := by
             cases c
             . simp only [Bool.false_eq_true, if_false] at h7
               rw [hsame false rfl] at h7
               exact ⟨_, fun _ => rfl, h7⟩
             . simp only [if_true] at h7
               rw [hsame true rfl] at h7
               exact ⟨_, fun _ => rfl, h7⟩
           obtain ⟨k2, hk2, h7⟩ := hsegv
           obtain ⟨s2, s2', N2, h9, h10, h11⟩ := ih Bool seg _ k2 x seg.length .leaf (Nat.le_refl _) (fun p hp => by
             rw [List.take_length] at hp
             exact ⟨quiet_head (c4 p hp).1.1, (c4 p hp).2⟩) (fun p hp => by simp at hp) h7
           rw [List.drop_length] at h11
           rw [List.take_length] at h9
           have h12 : k2 s2' = some x := by cases N2 <;> simpa [evR] using h11
           rw [hk2] at h12
           obtain ⟨v2, h13, h14⟩ := qv_split h12
           have hv2 := truth_spec h14
           obtain ⟨v3, h15, h16⟩ := h10.qv h13
           have hv3 : v3 = .d .bool (.bool x) := by
             rcases h16 with e | e
             . rw [<- e]; exact hv2
             . rw [hv2] at e; cases e
           subst hv3
           have hwk : Wk (s2.put pk.dst (.d .bool (.bool x))) ((killD (s.put (some d) (.d .bool (.bool c))) (seg.map Prod.snd)).put pk.dst (.d .bool (.bool x))) := (seqV_kill _ h9).put pk.dst (.inl rfl)
           have hlen : l.length = seg.length + 1 + l''.length := by rw [e1]; simp; omega
           obtain ⟨s4, s4', N4, h17, h18, h19⟩ := ih R l'' _ k r (m - seg.length - 1) an (by omega) (fun p hp => hq' p (by
             rw [e1, List.take_append, List.mem_append]
             right
             rw [show m - seg.length = (m - seg.length - 1) + 1 by omega, List.take_succ_cons]
             exact List.mem_cons_of_mem _ hp)) (fun p hp => ht' p (by
             rw [e1, List.drop_append, List.mem_append]
             right
             rw [show m - seg.length = (m - seg.length - 1) + 1 by omega, List.drop_succ_cons]
             exact hp)) h8
           obtain ⟨s5, h20, h21⟩ := Wk.seqV _ hwk h17
           refine ⟨s5, s4', N4, ?_, h21.trans h18, ?_⟩
           . have etake : l.take m = seg ++ (jj, pk) :: l''.take (m - seg.length - 1) := by
               conv => lhs; rw [e1, List.take_append, List.take_of_length_le (by omega), show m - seg.length = (m - seg.length - 1) + 1 by omega, List.take_succ_cons]
             have hval : val E ops s o = some (.d .bool (.bool c)) := by unfold val; rw [if_neg hlk, hg]; exact h3
             have hlk2 : ¬ lkd s2 pk = true := by
               have : s2.lkS = s.lkS := by
                 have w1 := (seqV_kill _ h9).lkS
                 have w2 : ∀ (l : List Oper) (s : St), (killD s l).lkS = s.lkS := by
                   intro l
                   induction l with
                   | nil => intro s; rfl
                   | cons o l ih => intro s; rw [killD, ih]; exact (St.put_fields s o.dst .undef).2.2.2.2.1
                 rw [<- w1, w2]
                 exact (St.put_fields s (some d) _).2.2.2.2.1
               simp only [lkd, this]
               have := c5
               simp only [lkd] at this
               rw [this]; simp
             have hval2 : val E ops s2 pk = some (.d .bool (.bool x)) := by
               unfold val
               rw [if_neg hlk2]
               have : pk.guard = none := by simpa using c2
               rw [this]; exact h15
             simp only [List.take_succ_cons, List.map_cons, seqV, hval, Option.bind_some, etake, List.map_append, seqV_append, hd, h9, hval2]
             exact h20
           . have edrop : l.drop m = l''.drop (m - seg.length - 1) := by
               conv => lhs; rw [e1, List.drop_append, List.drop_of_length_le (by omega), List.nil_append, show m - seg.length = (m - seg.length - 1) + 1 by omega, List.drop_succ_cons]
             simp only [List.drop_succ_cons, edrop]
             exact h19
         . rw [hin] at h
           simp only [Bool.false_eq_true, if_false] at h
           unfold ev1L at h
           split at h <;> first | (cases h; done) | skip
           rename_i hlk
           rw [ev1_head E s ho] at h
           obtain ⟨v, h3, h4⟩ := qv_split h
           exact step (by unfold val; rw [if_neg hlk, hg]; exact h3) h4
end Go.Proofs.YtjjjkojfijpeeaaGreat.Sy
end
section
namespace Go.Proofs.YtjjjkojfijpeeaaGreat.Sy
open Go
variable {ro : Option Nat} {nn : Nat}
theorem evR_seg {E : Env} {ops : Array Oper} {N : Nat} {R : Type} {i : Nat} {o : Oper} {l : List (Nat × Oper)} {s : St} {k : St -> Option R} {r : R} (hg : o.guard = none) (hgu : startsSeg i l = true) {an : Ann} (h : evR E (N + 1) R ops an ((i, o) :: l) s k = some r) :
   ∃ seg jj pk l'' s5 s3, l = seg ++ (jj, pk) :: l'' /\ headOp o = true /\ (∀ p ∈ seg, headOp p.2 = true) /\ headOp pk = true /\ seqV E ops (o :: (seg.map Prod.snd ++ [pk])) s = some s5 /\ Wk s5 s3 /\ evR E N R ops an l'' s3 k = some r := by
 simp only [evR, hg, hgu, if_true] at h
 obtain ⟨e1, e2⟩ := splitPick_spec o.dst l
 generalize splitPick o.dst l = sp at *
 obtain ⟨seg, rest⟩ := sp
 simp only at h e1 e2
 split at h <;> first | (cases h; done) | skip
 rename_i _ _ jj pk l'' d hd
 split at h <;> first | (cases h; done) | skip
 rename_i hcond
 simp only [Bool.and_eq_true, decide_eq_true_eq, Bool.not_eq_true', List.all_eq_true] at hcond
 obtain ⟨⟨⟨⟨⟨c1, c2⟩, c3⟩, cI⟩, c4⟩, c5⟩ := hcond
 have ho := quiet_head c3
 have hpk := e2 _ _ rfl
 obtain ⟨pc, px, py, hop⟩ := isPickOf_op hpk
 unfold ev1L at h
 split at h <;> first | (cases h; done) | skip
 rename_i hlk
 rw [ev1_head E s ho] at h
 obtain ⟨v, h3, h4⟩ := qv_split h
 rw [hd] at h4
 obtain ⟨c, h5, h6⟩ := bind_some_inv h4
 rw [put_get c1] at h5
 have hv := truth_spec h5
 subst hv
 obtain ⟨x, h7, h8⟩ := bind_some_inv h6
 have hsame : ∀ b, b = c -> (s.put (some d) (.d .bool (.bool c))).put (some d) (.d .bool (.bool b)) = s.put (some d) (.d .bool (.bool c)) := fun b hb => put_same (by rw [put_get c1, hb])
 have hsegv : ∃ k2 : St -> Option Bool, (∀ s2, k2 s2 = qv E s2 pk AV.truth) /\ evR E N Bool ops .leaf seg (s.put (some d) (.d .bool (.bool c))) k2 = some x := by
   cases c
   . simp only [Bool.false_eq_true, if_false] at h7
     rw [hsame false rfl] at h7
     exact ⟨_, fun _ => rfl, h7⟩
   . simp only [if_true] at h7
     rw [hsame true rfl] at h7
     exact ⟨_, fun _ => rfl, h7⟩
 obtain ⟨k2, hk2, h7⟩ := hsegv
 obtain ⟨s2, s2', N2, h9, h10, h11⟩ := evR_head N Bool seg _ k2 x seg.length .leaf (Nat.le_refl _) (fun p hp => by
   rw [List.take_length] at hp
   exact ⟨quiet_head (c4 p hp).1.1, (c4 p hp).2⟩) (fun p hp => by simp at hp) h7
 rw [List.drop_length] at h11
 rw [List.take_length] at h9
 have h12 : k2 s2' = some x := by cases N2 <;> simpa [evR] using h11
 rw [hk2] at h12
 obtain ⟨v2, h13, h14⟩ := qv_split h12
 have hv2 := truth_spec h14
 obtain ⟨v3, h15, h16⟩ := h10.qv h13
 have hv3 : v3 = .d .bool (.bool x) := by
   rcases h16 with e | e
   . rw [<- e]; exact hv2
   . rw [hv2] at e; cases e
 subst hv3
 have hwk : Wk (s2.put pk.dst (.d .bool (.bool x))) ((killD (s.put (some d) (.d .bool (.bool c))) (seg.map Prod.snd)).put pk.dst (.d .bool (.bool x))) := (seqV_kill _ h9).put pk.dst (.inl rfl)
 have hval : val E ops s o = some (.d .bool (.bool c)) := by unfold val; rw [if_neg hlk, hg]; exact h3
 have hlk2 : ¬ lkd s2 pk = true := by
   have : s2.lkS = s.lkS := by
     have w1 := (seqV_kill _ h9).lkS
     have w2 : ∀ (l : List Oper) (s : St), (killD s l).lkS = s.lkS := by
       intro l
       induction l with
       | nil => intro s; rfl
       | cons o l ih => intro s; rw [killD, ih]; exact (St.put_fields s o.dst .undef).2.2.2.2.1
     rw [<- w1, w2]
     exact (St.put_fields s (some d) _).2.2.2.2.1
   simp only [lkd, this]
   have := c5
   simp only [lkd] at this
   rw [this]; simp
 have hval2 : val E ops s2 pk = some (.d .bool (.bool x)) := by
   unfold val
   rw [if_neg hlk2]
   have : pk.guard = none := by simpa using c2
   rw [this]; exact h15
 refine ⟨seg, jj, pk, l'', _, _, e1, ho, fun p hp => quiet_head (c4 p hp).1.1, pick_head hop, ?_, hwk, h8⟩
 simp only [seqV, hval, Option.bind_some, seqV_append, hd, h9, hval2]
section
variable {P : Program} {E : Env} {w0 : Root} {S : Nat -> Nat -> Prop} {γ : Nat -> Option Nat} {β : Nat -> Option (Nat × Nat)} {s : St} {a : Act} {w : World} {ops : Array Oper}
theorem wanted_of {o : Oper} (h : Rp w0 S γ β s a w) : (o.guard = none -> Region.wanted o (yielded ops a.tmps) = true) ∧
   (∀ j want g c, o.guard = some (j, want) -> (ops[j]?).bind (·.dst) = some g -> (s.tm g).truth = some c -> Region.wanted o (yielded ops a.tmps) = (c == want)) ∧
   ∀ j want g, o.guard = some (j, want) -> (ops[j]?).bind (·.dst) = some g -> s.tm g = .gone -> Region.wanted o (yielded ops a.tmps) = false := by
 refine ⟨fun hg => by simp [Region.wanted, hg], fun j want g c hg h1 h2 => ?_, fun j want g hg h1 h2 => ?_⟩
 rotate_left
 . have h3 : AR ⟨w, S, γ, β, s.ob, s.dead⟩ (s.tm g) (a.eval (.tmp g)) := opA_ok h (.tmp g)
   rw [h2] at h3
   have h3' : a.eval (.tmp g) = undef := h3
   simp only [Act.eval] at h3'
   simp only [Region.wanted, hg, yielded, h1, Option.bind_some]
   by_cases hlt : g < a.tmps.size
   . have h4 : a.tmps[g]? = some undef := by
       rw [Array.getElem?_eq_getElem hlt]
       simpa [Array.getD, hlt] using h3'
     rw [h4]; rfl
   . have h4 : a.tmps[g]? = none := Array.getElem?_eq_none (Nat.le_of_not_lt hlt)
     rw [h4]; rfl
 obtain ⟨h3, _⟩ := truthA_inv h2 (opA_ok h (.tmp g))
 have h4 : a.tmps[g]? = some (.bool c) := by
   simp only [Act.eval] at h3
   by_cases hlt : g < a.tmps.size
   . rw [Array.getElem?_eq_getElem hlt]
     simpa [Array.getD, hlt] using h3
   . exfalso
     have : s.tm g = .undef := h.tmu g (by rw [<- h.nt]; exact Nat.le_of_not_lt hlt)
     rw [this] at h2; cases h2
 simp only [Region.wanted, hg, yielded, h1, Option.bind_some, h4]
 cases c <;> cases want <;> rfl
theorem val_ok (hE : EnvOk P E) (h : Rp w0 S γ β s a w) {o : Oper} (hf : Fr E s γ β o) {v : AV} (hq : val E ops s o = some v) :
   (Region.wanted o (yielded ops a.tmps) = true -> OpOk P o a w fun u w' => ∃ S' γ' β', Rp w0 S' γ' β' (s.put o.dst v) (a.put o.dst u) w' /\ Fm s S γ a w S' γ' (a.put o.dst u) w' /\ (∀ id, o.dst ≠ some (id - s.base) \/ id < s.base -> γ' id = γ id /\ β' id = β id)) ∧
   (Region.wanted o (yielded ops a.tmps) = false -> Rp w0 S γ β (s.put o.dst v) (a.put o.dst undef) w /\ Fm s S γ a w S γ (a.put o.dst undef) w) := by
 unfold val at hq
 split at hq <;> first | (cases hq; done) | skip
 rename_i hlk
 have hlk' : ∀ t ∈ s.lkS, o.dst ≠ some t := fun t ht e => hlk (by simp [lkd, e]; exact ht)
 have main : qv E s o some = some v -> OpOk P o a w fun u w' => ∃ S' γ' β', Rp w0 S' γ' β' (s.put o.dst v) (a.put o.dst u) w' /\ Fm s S γ a w S' γ' (a.put o.dst u) w' /\ (∀ id, o.dst ≠ some (id - s.base) \/ id < s.base -> γ' id = γ id /\ β' id = β id) := by
   intro hq
   obtain ⟨s', h1, h2⟩ := ev1_quiet hE h hf (fun T t _ ht => hE.flat T t ht) hlk' (K := some) (r := s.put o.dst v) (by rw [qv_fac, hq]; rfl)
   cases h1
   exact h2.2.2.2.2.2
 have skip : Rp w0 S γ β (s.put o.dst .gone) (a.put o.dst undef) w /\ Fm s S γ a w S γ (a.put o.dst undef) w :=
   ⟨h.put (by simp [AR]) o.dst, fun _ _ hb => hb, fun _ _ _ => rfl, fun t ht => put_slot (hlk' t ht), fun _ _ _ hb => ⟨hb, rfl⟩, Nat.le_refl _, fun _ _ hb => hb⟩
 obtain ⟨w1, w2, w3⟩ := wanted_of (ops := ops) (o := o) h
 cases hg : o.guard with
 | none =>
   rw [hg] at hq
   exact ⟨fun _ => main hq, fun hw => by rw [w1 hg] at hw; cases hw⟩
 | some p =>
   obtain ⟨j, want⟩ := p
   rw [hg] at hq
   simp only at hq
   obtain ⟨g, h1, h2⟩ := bind_some_inv hq
   by_cases hgo : s.tm g = .gone
   . rw [hgo, ifGone_gone] at h2
     have hw := w3 j want g hg h1 hgo
     cases h2
     exact ⟨fun hh => (by rw [hw] at hh; cases hh), fun _ => skip⟩
   rw [ifGone_ne hgo] at h2
   obtain ⟨c, h3, h4⟩ := bind_some_inv h2
   have hw := w2 j want g c hg h1 h3
   split at h4
   . rename_i hc
     exact ⟨fun _ => main h4, fun hh => by rw [hw, hc] at hh; cases hh⟩
   . rename_i hc
     cases h4
     exact ⟨fun hh => by rw [hw] at hh; exact absurd hh hc, fun _ => skip⟩
def FrL (E : Env) (s : St) (γ : Nat -> Option Nat) (β : Nat -> Option (Nat × Nat)) (l : List Oper) : Prop := ∀ o ∈ l, Fr E s γ β o
theorem Fr.keep {o o' : Oper} {s' : St} {γ' : Nat -> Option Nat} {β' : Nat -> Option (Nat × Nat)} (h : Fr E s γ β o') (hd : ∀ d, o'.dst = some d -> o.dst ≠ some d) (hfr : s'.fresh = s.fresh)
   (hob : ∀ id, γ id = none -> o.dst ≠ some (id - s.base) \/ id < s.base -> s'.ob id = s.ob id) (hk : ∀ id, o.dst ≠ some (id - s.base) \/ id < s.base -> γ' id = γ id /\ β' id = β id) : Fr E s' γ' β' o' := by
 intro hc d hd'
 obtain ⟨h1, h2, h3, h4⟩ := h hc d hd'
 have hb : s'.base = s.base := by simp only [St.base, hfr]
 have hne : o.dst ≠ some (s.base + d - s.base) := by rw [Nat.add_sub_cancel_left]; exact hd d hd'
 obtain ⟨k1, k2⟩ := hk (s.base + d) (.inl hne)
 rw [hb]
 exact ⟨h1, k1.trans h2, k2.trans h3, fun T t e1 e2 => (hob _ h2 (.inl hne)).trans (h4 T t e1 e2)⟩
structure Sm (s s' : St) : Prop where
 lkS : s'.lkS = s.lkS
 lkO : s'.lkO = s.lkO
 fresh : s'.fresh = s.fresh
 nt : s'.nt = s.nt
theorem Sm.sk {s s' : St} (h : Sm s s') : Sk s s' := ⟨h.lkS, h.lkO, h.nt⟩
theorem Sm.refl (s : St) : Sm s s := ⟨rfl, rfl, rfl, rfl⟩
theorem Sm.trans {a b c : St} (h : Sm a b) (k : Sm b c) : Sm a c := ⟨k.lkS.trans h.lkS, k.lkO.trans h.lkO, k.fresh.trans h.fresh, k.nt.trans h.nt⟩
theorem Sm.put (s : St) (d : Option Nat) (v : AV) : Sm s (s.put d v) := by
 obtain ⟨p1, p2, p3, p4, p5, p6, p7⟩ := St.put_fields s d v
 exact ⟨p5, p6, p2, p4⟩
theorem Sm.wk {s s' : St} (h : Wk s s') : Sm s s' := ⟨h.lkS, h.lkO, h.fresh, h.nt⟩
theorem seqV_ok (hE : EnvOk P E) {Q : Exit -> Act -> World -> Prop} : ∀ (l l2 : List Oper) {S : Nat -> Nat -> Prop} {γ : Nat -> Option Nat} {β : Nat -> Option (Nat × Nat)} {s : St} {a : Act} {w : World} {s' : St}, Rp w0 S γ β s a w -> FrL E s γ β (l ++ l2) -> (∀ (A B : List Oper) o o', l ++ l2 = A ++ o :: B -> o' ∈ B -> ∀ d, o'.dst = some d -> o.dst ≠ some d) -> seqV E ops l s = some s' ->
   (∀ S' γ' β' a' w', Rp w0 S' γ' β' s' a' w' -> Fm s S γ a w S' γ' a' w' -> Sm s s' -> FrL E s' γ' β' l2 -> wpListIn (FW ro) nn P ops Q l2 a' w') -> wpListIn (FW ro) nn P ops Q (l ++ l2) a w
 | [], l2, S, γ, β, s, a, w, s', h, hf, _, hq, hk => by
   simp only [seqV, Option.some.injEq] at hq
   subst hq
   exact hk S γ β a w h (Fm.refl _ _ _ _ _) (Sm.refl s) (by simpa using hf)
 | o :: l, l2, S, γ, β, s, a, w, s', h, hf, hd, hq, hk => by
   simp only [seqV] at hq
   obtain ⟨v, h1, h2⟩ := bind_some_inv hq
   have hfo : Fr E s γ β o := hf o (by simp)
   obtain ⟨k1, k2⟩ := val_ok hE h hfo h1
   have hdo : ∀ o' ∈ l ++ l2, ∀ d, o'.dst = some d -> o.dst ≠ some d := fun o' ho' => hd [] (l ++ l2) o o' rfl ho'
   have hd' : ∀ (A B : List Oper) x x', l ++ l2 = A ++ x :: B -> x' ∈ B -> ∀ d, x'.dst = some d -> x.dst ≠ some d := fun A B x x' e hx => hd (o :: A) B x x' (by simp [e]) hx
   have p := St.put_fields s o.dst v
   have frn : ∀ {γ' : Nat -> Option Nat} {β' : Nat -> Option (Nat × Nat)}, (∀ id, o.dst ≠ some (id - s.base) \/ id < s.base -> γ' id = γ id /\ β' id = β id) -> FrL E (s.put o.dst v) γ' β' (l ++ l2) := fun hk o' ho' =>
     (hf o' (by simp only [List.cons_append, List.mem_cons]; exact .inr ho')).keep (hdo o' ho') p.2.1 (fun id _ _ => by rw [p.1]) hk
   simp only [List.cons_append, wpListIn]
   split
   . rename_i hw
     refine (wpIn_of_OpOk (k1 hw) fun u w' ⟨S', γ', β', m1, m2, m3⟩ => ?_)
     exact seqV_ok hE l l2 m1 (frn m3) hd' h2 fun S2 γ2 β2 a2 w2 n1 n2 n3 n4 => hk S2 γ2 β2 a2 w2 n1 (m2.trans n2 p.2.2.2.2.1 p.2.2.2.2.2.1) ((Sm.put s o.dst v).trans n3) n4
   . rename_i hw
     obtain ⟨m1, m2⟩ := k2 (by simpa using hw)
     exact ⟨fun _ _ => trivial, seqV_ok hE l l2 m1 (frn fun id _ => ⟨rfl, rfl⟩) hd' h2 fun S2 γ2 β2 a2 w2 n1 n2 n3 n4 => hk S2 γ2 β2 a2 w2 n1 (m2.trans n2 p.2.2.2.2.1 p.2.2.2.2.2.1) ((Sm.put s o.dst v).trans n3) n4⟩
theorem ARs_of_ops (h : Rp w0 S γ β s a w) : ∀ (l : List Operand) (i : Nat) (x : AV) (v : Value), (l.map s.opA)[i]? = some x -> (l.map a.eval)[i]? = some v -> AR ⟨w, S, γ, β, s.ob, s.dead⟩ x v
 | [], i, x, v, hx, _ => by simp at hx
 | y :: l, 0, x, v, hx, hv => by simp at hx hv; subst hx; subst hv; exact opA_ok h y
 | y :: l, i + 1, x, v, hx, hv => by simp only [List.map_cons, List.getElem?_cons_succ] at hx hv; exact ARs_of_ops h l i x v hx hv
theorem ARs_of_caps {c : Cx} : ∀ (l : List AV) (caps : List Value), l.all isPtr = true -> ACc c l caps -> l.length = caps.length /\ ∀ (i : Nat) (x : AV) (v : Value), l[i]? = some x -> caps[i]? = some v -> AR c x v
 | [], caps, _, h => by simp only [ACc] at h; subst h; exact ⟨rfl, fun i x v hx => by simp at hx⟩
 | y :: l, caps, hp, h => by
   simp only [ACc] at h
   obtain ⟨v0, c2, rfl, h1, h2⟩ := h
   simp only [List.all_cons, Bool.and_eq_true] at hp
   obtain ⟨k1, k2⟩ := ARs_of_caps l c2 hp.2 h2
   refine ⟨by simp [k1], fun i x v hx hv => ?_⟩
   cases i with
   | zero =>
     simp at hx hv; subst hx; subst hv
     cases y <;> simp only [isPtr] at hp <;> first | (cases hp.1; done) | skip
     simp only [AC] at h1
     obtain ⟨b, off, e, h3⟩ := h1
     simp only [List.cons.injEq, and_true] at e
     subst e
     simp only [AR, AC, Value.cells]
     exact ⟨by simp, b, off, rfl, h3⟩
   | succ i => simp only [List.getElem?_cons_succ] at hx hv; exact k2 i x v hx hv
theorem inl_ok (hE : EnvOk P E) (h : Rp w0 S γ β s a w) {o : Oper} {c : Call} (hop : o.op = .call c) (hlk : ∀ t ∈ s.lkS, o.dst ≠ some t) {R : Type} {K : St -> Option R} {r : R} {an : Ann}
   (hev : ((inlTarget s c).bind fun q => (E.inl q.1).bind fun g => g an.fst R s q.2 fun v s' => K (s'.put o.dst v)) = some r) :
   OpOk P o a w fun u w' => ∃ s' S' γ' β', K s' = some r /\ Rp w0 S' γ' β' s' (a.put o.dst u) w' /\ Fm s S γ a w S' γ' (a.put o.dst u) w' /\ Sk s s' := by
 obtain ⟨⟨f, avs⟩, h1, hev1⟩ := bind_some_inv hev
 clear hev
 obtain ⟨g, h2, hev2⟩ := bind_some_inv hev1
 clear hev1
 simp only at h2 hev2
 obtain ⟨⟨fn, f1, f2, f3⟩, hI⟩ := hE.inl f g h2
 have key : ∃ vs : List Value, avs.length = vs.length /\ (∀ (i : Nat) (x : AV) (v : Value), avs[i]? = some x -> vs[i]? = some v -> AR ⟨w, S, γ, β, s.ob, s.dead⟩ x v) /\ (execOp a.eval o).run P w = .ok (.enter f vs.toArray) w := by
   clear hev2 hI h2
   have hb : ¬ fn.body = none := by intro hh; rw [hh] at f3; cases f3
   have f2' : ¬ fn.name = "runtime.NumGoroutine" := by simpa using f2
   obtain ⟨dst, op, ty, pos, after, guard⟩ := o
   simp only at hop
   subst hop
   obtain ⟨callee, args, argTypes⟩ := c
   simp only [inlTarget] at h1
   split at h1 <;> first | (cases h1; done) | skip
   . rename_i f'
     simp only [Option.some.injEq, Prod.mk.injEq] at h1
     obtain ⟨rfl, rfl⟩ := h1
     refine ⟨args.toList.map a.eval, by simp, ARs_of_ops h _, ?_⟩
     have hm : args.map a.eval = (args.toList.map a.eval).toArray := Array.ext' (by simp)
     simp [execOp, resolve, Act.eval, Deferred.ofValue, invoke, callFunc, f1, f2', hb, hm]
   . rename_i t
     split at h1 <;> first | (cases h1; done) | skip
     rename_i f' l ht
     split at h1 <;> first | (cases h1; done) | skip
     rename_i hp
     simp only [Option.some.injEq, Prod.mk.injEq] at h1
     obtain ⟨rfl, rfl⟩ := h1
     have hA := opA_ok h (.tmp t)
     have hA' : AR ⟨w, S, γ, β, s.ob, s.dead⟩ (.clo f' l) (a.eval (.tmp t)) := by rw [<- ht]; exact hA
     simp only [AR, AC] at hA'
     obtain ⟨na, caps, hcs, hcap⟩ := hA'
     have hv := cells_single na hcs
     obtain ⟨k1, k2⟩ := ARs_of_caps l caps hp hcap
     refine ⟨args.toList.map a.eval ++ caps, by simp [k1], fun i x v hx hv' => ?_, ?_⟩
     . rcases Nat.lt_or_ge i (args.toList.map s.opA).length with hi | hi
       . rw [List.getElem?_append_left hi] at hx
         rw [List.getElem?_append_left (by simpa using hi)] at hv'
         exact ARs_of_ops h _ i x v hx hv'
       . rw [List.getElem?_append_right hi] at hx
         rw [List.getElem?_append_right (by simpa using hi)] at hv'
         refine k2 _ x v hx ?_
         simpa using hv'
     . have hm : args.map a.eval = (args.toList.map a.eval).toArray := Array.ext' (by simp)
       simp [execOp, resolve, hv, Deferred.ofValue, invoke, callFunc, f1, f2', hb, hm]
 obtain ⟨vs, k1, k2, k3⟩ := key
 have hc := hI an.fst R w0 S γ β s a w avs vs _ r h k1 k2 hev2
 unfold OpOk
 rw [k3]
 refine hc.mono fun e w' ⟨v, y, s', S', γ', β', e1, e2, e3, e4, e5, e6⟩ => ⟨v, e1, s'.put o.dst y, S', γ', β', e2, e3.put e4 o.dst, ⟨e5.sub, e5.cell, fun t ht => put_slot (hlk t ht), e5.objs, e5.sz, e5.gam⟩, ?_⟩
 have p := St.put_fields s' o.dst y
 exact ⟨p.2.2.2.2.1.trans e6.lkS, p.2.2.2.2.2.1.trans e6.lkO, p.2.2.2.1.trans e6.nt⟩
theorem evR_ok (hE : EnvOk P E) {Q : Exit -> Act -> World -> Prop} (hops : (ops.toList.all fun o => match o.op with | .store .. => o.dst.isNone | _ => true) = true) : ∀ (N : Nat) (R : Type) (l : List (Nat × Oper)) {S : Nat -> Nat -> Prop} {γ : Nat -> Option Nat} {β : Nat -> Option (Nat × Nat)} {s : St} {a : Act} {w : World} (k : St -> Option R) (r : R) (an : Ann),
   Rp w0 S γ β s a w -> FrL E s γ β (l.map Prod.snd) -> (∀ (A B : List Oper) o o', l.map Prod.snd = A ++ o :: B -> o' ∈ B -> ∀ d, o'.dst = some d -> o.dst ≠ some d) -> (∀ p ∈ l, p.2 ∈ ops.toList) -> evR E N R ops an l s k = some r ->
   (∀ s' S' γ' β' a' w', Rp w0 S' γ' β' s' a' w' -> Fm s S γ a w S' γ' a' w' -> Sk s s' -> k s' = some r -> Q .normal a' w') -> wpListIn (FW ro) nn P ops Q (l.map Prod.snd) a w := by
 intro N
 induction N with
 | zero => intro R l S γ β s a w k r an _ _ _ _ h; simp [evR] at h
 | succ N ih =>
   intro R l S γ β s a w k r an h hf hd hmem hev hQ
   cases l with
   | nil =>
     simp only [evR] at hev
     exact hQ s S γ β a w h (Fm.refl _ _ _ _ _) (Sk.refl s) hev
   | cons p l =>
     obtain ⟨i, o⟩ := p
     have hfo : Fr E s γ β o := hf o (by simp)
     have hst : ∀ T x y, o.op = .store T x y -> o.dst = none := fun T x y e => by
       have := List.all_eq_true.1 hops o (hmem (i, o) (by simp))
       rw [e] at this
       simpa using this
     have hdo : ∀ o' ∈ l.map Prod.snd, ∀ d, o'.dst = some d -> o.dst ≠ some d := fun o' ho' => hd [] (l.map Prod.snd) o o' rfl ho'
     have hd' : ∀ (A B : List Oper) x x', l.map Prod.snd = A ++ x :: B -> x' ∈ B -> ∀ d, x'.dst = some d -> x.dst ≠ some d := fun A B x x' e hx => hd (o :: A) B x x' (by simp [e]) hx
     have hmem' : ∀ p ∈ l, p.2 ∈ ops.toList := fun p hp => hmem p (by simp [hp])
     have run : ¬ lkd s o = true -> ev1 E s o (fun s' => evR E N R ops an l s' k) = some r -> o.wpIn (FW ro) nn P a w (wpListIn (FW ro) nn P ops Q (l.map Prod.snd)) Q := by
       intro hlk he
       have hlk' : ∀ t ∈ s.lkS, o.dst ≠ some t := fun t ht e => hlk (by simp [lkd, e]; exact ht)
       obtain ⟨s', h1, h2⟩ := ev1_ok hE h hfo (fun T t _ ht => hE.flat T t ht) hlk' hst he
       obtain ⟨f1, f2, f3, f4, f5, f6⟩ := h2
       refine wpIn_of_OpOk f6 fun u w' ⟨S', γ', β', m1, m2, m3⟩ => ?_
       exact ih R l k r an m1 (fun o' ho' => (hf o' (by simp only [List.map_cons, List.mem_cons]; exact .inr ho')).keep (hdo o' ho') f3 f5 m3) hd' hmem' h1 fun s2 S2 γ2 β2 a2 w2 n1 n2 n3 n4 => hQ s2 S2 γ2 β2 a2 w2 n1 (m2.trans n2 f1 f2) (Sk.trans ⟨f1, f2, f4⟩ n3) n4
     obtain ⟨w1, w2, w3⟩ := wanted_of (ops := ops) (o := o) h
     cases hg : o.guard with
     | some jw =>
       obtain ⟨j, want⟩ := jw
       simp only [evR, hg] at hev
       split at hev <;> first | (cases hev; done) | skip
       rename_i g hgd
       split at hev <;> first | (cases hev; done) | skip
       rename_i hlk
       have hlk' : ∀ t ∈ s.lkS, o.dst ≠ some t := fun t ht e => hlk (by simp [lkd, e]; exact ht)
       have p := St.put_fields s o.dst .gone
       have alt : (Region.wanted o (yielded ops a.tmps) = true /\ (ev1 E s o fun s' => evR E N R ops an l s' k) = some r) \/ (Region.wanted o (yielded ops a.tmps) = false /\ evR E N R ops an l (s.put o.dst .gone) k = some r) := by
         by_cases hgo : s.tm g = .gone
         . rw [hgo, ifGone_gone] at hev
           exact .inr ⟨w3 j want g hg hgd hgo, hev⟩
         rw [ifGone_ne hgo] at hev
         obtain ⟨c, h1, h2⟩ := bind_some_inv hev
         replace h2 := guard_split (A := fun s => ev1 E s o fun s' => evR E N R ops an l s' k) (B := fun s => evR E N R ops an l (s.put o.dst .gone) k) h1 h2
         have hw := w2 j want g c hg hgd h1
         split at h2
         . rename_i hc; exact .inl ⟨by rw [hw]; exact hc, h2⟩
         . rename_i hc; exact .inr ⟨by rw [hw]; simpa using hc, h2⟩
       rcases alt with ⟨hw, h2⟩ | ⟨hw, h2⟩
       . simp only [List.map_cons, wpListIn, hw, if_true]
         exact run hlk h2
       . simp only [List.map_cons, wpListIn, hw, Bool.false_eq_true, if_false]
         refine ⟨fun _ _ => trivial, ?_⟩
         exact ih R l k r an (h.put (v := .gone) (val := undef) (by simp [AR]) o.dst) (fun o' ho' => (hf o' (by simp only [List.map_cons, List.mem_cons]; exact .inr ho')).keep (hdo o' ho') p.2.1 (fun id _ _ => by rw [p.1]) fun id _ => ⟨rfl, rfl⟩) hd' hmem' h2 fun s2 S2 γ2 β2 a2 w2 n1 n2 n3 n4 => hQ s2 S2 γ2 β2 a2 w2 n1 (Fm.trans (s1 := s.put o.dst .gone) ⟨fun _ _ hb => hb, fun _ _ _ => rfl, fun t ht => put_slot (hlk' t ht), fun _ _ _ hb => ⟨hb, rfl⟩, Nat.le_refl _, fun _ _ hb => hb⟩ n2 p.2.2.2.2.1 p.2.2.2.2.2.1) ((Sm.put s o.dst .gone).sk.trans n3) n4
     | none =>
       by_cases hgu : startsSeg i l = true
       . obtain ⟨seg, jj, pk, l'', s5, s3, e1, q1, q2, q3, q4, q5, q6⟩ := evR_seg hg hgu hev
         subst e1
         have el : ((i, o) :: (seg ++ (jj, pk) :: l'')).map Prod.snd = (o :: (seg.map Prod.snd ++ [pk])) ++ l''.map Prod.snd := by simp
         rw [el] at hf hd ⊢
         refine seqV_ok hE _ _ h hf hd q4 fun S2 γ2 β2 a2 w2 n1 n2 n3 n4 => ?_
         refine ih R l'' k r an (n1.wk q5) (fun o' ho' => ?_) (fun A B x x' e hx => hd ((o :: (seg.map Prod.snd ++ [pk])) ++ A) B x x' (by rw [e]; simp) hx) (fun p hp => hmem p (by simp [hp])) q6 fun s2 S3 γ3 β3 a3 w3 m1 m2 m3 m4 => hQ s2 S3 γ3 β3 a3 w3 m1 (n2.trans m2 (q5.lkS.trans n3.lkS) (q5.lkO.trans n3.lkO)) ((n3.trans (Sm.wk q5)).sk.trans m3) m4
         have := n4 o' ho'
         intro hc d hd2
         obtain ⟨r1, r2, r3, r4⟩ := this hc d hd2
         rw [q5.base_eq, q5.ob]
         exact ⟨r1, r2, r3, r4⟩
       . have hgu' : startsSeg i l = false := by simpa using hgu
         simp only [evR, hg, hgu', Bool.false_eq_true, if_false] at hev
         split at hev
         . -- a call that is evaluated together with its caller
           split at hev <;> first | (cases hev; done) | skip
           rename_i hcr
           simp only [Bool.or_eq_true, Bool.not_eq_true', not_or, Bool.not_eq_false] at hcr
           obtain ⟨hlk, hcr⟩ := hcr
           split at hev <;> first | (cases hev; done) | skip
           rename_i c hop
           simp only [List.map_cons, wpListIn, w1 hg, if_true]
           have hlk' : ∀ t ∈ s.lkS, o.dst ≠ some t := fun t ht e => hlk (by simp [lkd, e]; exact ht)
           refine (wpIn_of_OpOk (inl_ok (an := an) (K := fun s1 => evR E N R ops an.snd l s1 k) hE h hop hlk' hev) fun u w' ⟨s', S', γ', β', m0, m1, m2, m3⟩ => ?_)
           have frn : FrL E s' γ' β' (l.map Prod.snd) := fun o' ho' => by
             obtain ⟨p, hp, rfl⟩ := List.mem_map.1 ho'
             have := List.all_eq_true.1 hcr p hp
             exact Fr_none (by simpa using this)
           exact ih R l k r an.snd m1 frn hd' hmem' m0 fun s2 S2 γ2 β2 a2 w2 n1 n2 n3 n4 => hQ s2 S2 γ2 β2 a2 w2 n1 (m2.trans n2 m3.lkS m3.lkO) (m3.trans n3) n4
         unfold ev1L at hev
         split at hev <;> first | (cases hev; done) | skip
         rename_i hlk
         simp only [List.map_cons, wpListIn, w1 hg, if_true]
         exact run hlk hev
end
end Go.Proofs.YtjjjkojfijpeeaaGreat.Sy
end
section
namespace Go.Proofs.YtjjjkojfijpeeaaGreat.Sy
open Go
theorem opA_put {s : St} {d : Option Nat} {v : AV} {x : Operand} (h : ∀ t, d = some t -> x ≠ .tmp t) : (s.put d v).opA x = s.opA x := by
 cases x with
 | tmp t =>
   cases d with
   | none => rfl
   | some d =>
     have hne : t ≠ d := fun e => h d rfl (by rw [e])
     simp only [St.opA, St.put]
     split
     . simp [hne]
     . rfl
 | const v => rfl
 | global g => rfl
 | func f => rfl
section
variable {E : Env} {s s' : St}
theorem partsD_congr (hob : s'.ob = s.ob) (ty : Nat -> Option Ty) : ∀ (l : List (Nat × Operand)), (∀ p ∈ l, s'.opA p.2 = s.opA p.2) -> partsD s'.ob s' ty l = partsD s.ob s ty l
 | [], _ => rfl
 | (i, x) :: l, h => by
   have ih := partsD_congr hob ty l (fun p hp => h p (by simp [hp]))
   have hx := h (i, x) (by simp)
   simp only at hx
   simp only [partsD, hx, ih]
   rw [hob]
theorem fitsAt_congr (ts : List Ty) : ∀ (l : List (Nat × Operand)), (∀ p ∈ l, s'.opA p.2 = s.opA p.2) -> l.all (fitsAt s' ts) = l.all (fitsAt s ts)
 | [], _ => rfl
 | p :: l, h => by
   simp only [List.all_cons, fitsAt_congr ts l (fun q hq => h q (by simp [hq])), fitsAt, h p (by simp)]
theorem mapA_congr : ∀ (l : List (Nat × Operand)), (∀ p ∈ l, s'.opA p.2 = s.opA p.2) -> (l.map fun p => (p.1, s'.opA p.2)) = l.map fun p => (p.1, s.opA p.2) := fun l h =>
 List.map_congr_left fun p hp => by rw [h p hp]
theorem qv_congr {o : Oper} (hob : s'.ob = s.ob) (hf : s'.fresh = s.fresh) (h : ∀ x ∈ o.op.operands, s'.opA x = s.opA x) : qv E s' o some = qv E s o some := by
 have hb : s'.base = s.base := by simp only [St.base, hf]
 obtain ⟨dst, op, ty, pos, after, guard⟩ := o
 have parts : ∀ ps : Array (Nat × Operand), (∀ x ∈ (ps.toList.map Prod.snd).toArray, s'.opA x = s.opA x) -> ∀ p ∈ ps.toList, s'.opA p.2 = s.opA p.2 := fun ps hp p hm => hp p.2 (by rw [List.mem_toArray]; exact List.mem_map_of_mem hm)
 cases op
 case move x => simp only [qv, h x (by simp [Op.operands])]
 case assign x => simp only [qv, h x (by simp [Op.operands])]
 case pick c x y => simp only [qv, h c (by simp [Op.operands]), h x (by simp [Op.operands]), h y (by simp [Op.operands])]
 case alloc T => simp only [qv, hb]
 case build T ps =>
   have hp := parts ps h
   simp only [qv, partsD_congr hob _ _ hp, fitsAt_congr _ _ hp, mapA_congr _ hp]
 case buildSlice T n ps =>
   have hp := parts ps h
   simp only [qv, partsD_congr hob _ _ hp, hb]
 case load T x => simp only [qv, h x (by simp [Op.operands]), hob]
 case lookup T x i c => simp only [qv, h x (by simp [Op.operands]), h i (by simp [Op.operands]), hob]
 case nilCheck x => simp only [qv, h x (by simp [Op.operands])]
 case binOp op T x y T' => simp only [qv, h x (by simp [Op.operands]), h y (by simp [Op.operands])]
 case unOp op T x => simp only [qv, h x (by simp [Op.operands])]
 case convert U T x => simp only [qv, h x (by simp [Op.operands])]
 case makeFunc fn x y =>
   have hy : ∀ z ∈ y.toList, s'.opA z = s.opA z := fun z hz => h z (by simp only [Op.operands, Array.mem_append]; exact .inr (by simpa using hz))
   have e1 : (y.toList.all fun z => isPtr (s'.opA z)) = y.toList.all fun z => isPtr (s.opA z) := by
     rw [Bool.eq_iff_iff, List.all_eq_true, List.all_eq_true]
     exact ⟨fun hh z hz => by rw [<- hy z hz]; exact hh z hz, fun hh z hz => by rw [hy z hz]; exact hh z hz⟩
   have e2 : y.toList.map s'.opA = y.toList.map s.opA := List.map_congr_left hy
   simp only [qv, e1, e2]
 case slice T x lo hi mx =>
   have e0 := h x (by simp [Op.operands])
   cases mx with
   | some m => simp only [qv]
   | none =>
     cases lo with
     | none =>
       cases hi with
       | none => simp only [qv, e0, hob]
       | some j => simp only [qv, e0, hob, h j (by simp [Op.operands])]
     | some i =>
       cases hi with
       | none => simp only [qv, e0, hob, h i (by simp [Op.operands])]
       | some j => simp only [qv, e0, hob, h i (by simp [Op.operands]), h j (by simp [Op.operands])]
 case sliceToArrayPointer T x => simp only [qv, h x (by simp [Op.operands])]
 case fieldAddr T x f => simp only [qv, h x (by simp [Op.operands])]
 case field T x f => simp only [qv, h x (by simp [Op.operands])]
 case indexAddr T x i => simp only [qv, h x (by simp [Op.operands]), h i (by simp [Op.operands]), hob]
 case index T x i => simp only [qv, h x (by simp [Op.operands]), h i (by simp [Op.operands])]
 case extract x i => simp only [qv, h x (by simp [Op.operands])]
 case call c =>
   obtain ⟨callee, args, argTypes⟩ := c
   have ha : ∀ z ∈ args.toList, s'.opA z = s.opA z := fun z hz => h z (by simp only [Op.operands, Call.operands, Array.mem_append]; exact .inr (by simpa using hz))
   have e2 : args.toList.map s'.opA = args.toList.map s.opA := List.map_congr_left ha
   cases callee with
   | invoke r m => rfl
   | value f => cases f <;> first | rfl | simp only [qv, e2, hob]
   | builtin b =>
     cases b <;> first | rfl | skip
     case len =>
       simp only [qv]
       cases hT : argTypes[0]? with
       | none => rfl
       | some T =>
         cases hx : args[0]? with
         | none => rfl
         | some x =>
           have := ha x (Array.mem_toList_iff.2 (Array.mem_of_getElem? hx))
           simp only [Option.bind_some, hob]
           cases E.L T with
           | none => rfl
           | some t => cases t <;> simp only [Option.bind_some, this]
     case min =>
       simp only [qv]
       split
       . rename_i x y he
         rw [ha x (by rw [he]; simp), ha y (by rw [he]; simp)]
       . rfl
     case max =>
       simp only [qv]
       split
       . rename_i x y he
         rw [ha x (by rw [he]; simp), ha y (by rw [he]; simp)]
       . rfl
 all_goals rfl
theorem put_tm {s : St} {d : Option Nat} {v : AV} {t : Nat} (h : d ≠ some t) : (s.put d v).tm t = s.tm t := by
 have := opA_put (s := s) (d := d) (v := v) (x := .tmp t) (fun u hu e => h (by cases e; exact hu))
 exact this
theorem val_put {ops : Array Oper} {o : Oper} {d : Option Nat} {v : AV} (h : ∀ t, d = some t -> t ∉ o.looksAt ops) : val E ops (s.put d v) o = val E ops s o := by
 obtain ⟨p1, p2, p3, p4, p5, p6, p7⟩ := St.put_fields s d v
 have e1 : lkd (s.put d v) o = lkd s o := by simp only [lkd, p5]
 have e2 : qv E (s.put d v) o some = qv E s o some := qv_congr p1 p2 fun x hx => opA_put fun t ht e => h t ht (by
   subst e
   exact List.mem_append_left _ (List.mem_filterMap.2 ⟨.tmp t, by simpa using hx, rfl⟩))
 unfold val
 rw [e1, e2]
 cases hg : o.guard with
 | none => rfl
 | some p =>
   obtain ⟨j, want⟩ := p
   simp only
   cases hgd : (ops[j]?).bind (·.dst) with
   | none => rfl
   | some g =>
     have e3 : (s.put d v).tm g = s.tm g := put_tm fun e => h g e (by
       unfold Oper.looksAt
       rw [hg]
       exact List.mem_append_right _ (by simp [hgd]))
     simp only [Option.bind_some, e3]
theorem put_comm {s : St} {x y : Option Nat} (v u : AV) (h : ∀ d, x = some d -> y ≠ some d) : (s.put x v).put y u = (s.put y u).put x v := by
 cases x with
 | none => rfl
 | some d =>
   cases y with
   | none => rfl
   | some e =>
     have hne : d ≠ e := fun he => h d rfl (he ▸ rfl)
     by_cases h1 : d < s.nt
     . by_cases h2 : e < s.nt
       . simp only [St.put, h1, h2, if_true]
         congr 1
         funext i
         by_cases i1 : i = d
         . subst i1; simp [hne]
         . by_cases i2 : i = e
           . subst i2; simp [i1]
           . simp [i1, i2]
       . simp only [St.put, h1, h2, if_true, if_false]
     . by_cases h2 : e < s.nt <;> simp only [St.put, h1, h2, if_true, if_false]
end
end Go.Proofs.YtjjjkojfijpeeaaGreat.Sy
end
section
namespace Go.Proofs.YtjjjkojfijpeeaaGreat.Sy
open Go
variable {ro : Option Nat} {nn : Nat}
section
variable {E : Env} {ops : Array Oper} {md : Region.Mode}
def stepK (E : Env) (ops : Array Oper) (i : Nat) (K : St -> Prop) (s : St) : Prop :=
 match ops[i]? with
 | none => K s
 | some o => ∃ v, val E ops s o = some v /\ K (s.put o.dst v)
def hAny (E : Env) (md : Region.Mode) (ops : Array Oper) (n : Nat) (L : Array Bool -> St -> Prop) : Nat -> Array Bool -> St -> Prop
 | 0, listed, s => L listed s
 | f + 1, listed, s => Region.ready md ops listed ≠ [] /\ ∀ i ∈ Region.ready md ops listed, i < n /\ stepK E ops i (hAny E md ops n L f (listed.setIfInBounds i true)) s
def Waits (md : Region.Mode) (ops : Array Oper) (n : Nat) : Prop := ∀ listed i, HeadInv md ops n listed -> i < n -> listed.getD i true = false -> ∀ t, n <= t -> t ∉ Region.ready md ops listed
theorem hAny_first {n i : Nat} {oi : Oper} {v : AV} {L : Array Bool -> St -> Prop} (hi : ops[i]? = some oi) (hW : Waits md ops n) (hin : i < n)
   (hdone : ∀ listed s, L listed s -> ∀ j ∈ Region.ready md ops listed, n <= j) :
   ∀ (f : Nat) (listed : Array Bool) (s : St), HeadInv md ops n listed ->
     (∀ j oj, ops[j]? = some oj -> j ≠ i -> listed.getD j true = false -> (∀ e ∈ oj.after, Region.binds md e = true -> e.on ≠ i) -> oi.apart ops oj = true) ->
     i ∈ Region.ready md ops listed -> val E ops s oi = some v ->
     hAny E md ops n L f (listed.setIfInBounds i true) (s.put oi.dst v) -> hAny E md ops n L (f + 1) listed s := by
 intro f
 induction f with
 | zero =>
   intro listed s inv _ hr hy H
   have hun := (mem_ready.1 hr).1
   refine ⟨fun h => (by rw [h] at hr; cases hr), fun j hj => ?_⟩
   have hjn : j < n := by
     rcases Nat.lt_or_ge j n with h | h
     . exact h
     . exact absurd hj (hW _ _ inv hin hun j h)
   refine ⟨hjn, ?_⟩
   by_cases hji : j = i
   . subst hji; unfold stepK; rw [hi]; exact ⟨v, hy, H⟩
   . have := hdone _ _ H j (ready_mono hj hji)
     omega
 | succ f ih =>
   intro listed s inv hfree hr hy H
   have hun := (mem_ready.1 hr).1
   refine ⟨fun h => (by rw [h] at hr; cases hr), fun j hj => ?_⟩
   have hjn : j < n := by
     rcases Nat.lt_or_ge j n with h | h
     . exact h
     . exact absurd hj (hW _ _ inv hin hun j h)
   refine ⟨hjn, ?_⟩
   by_cases hji : j = i
   . subst hji; unfold stepK; rw [hi]; exact ⟨v, hy, H⟩
   . have h1 := (H.2 j (ready_mono hj hji)).2
     obtain ⟨hjun, oj, hoj, hall⟩ := mem_ready.1 hj
     have hnot : ∀ e ∈ oj.after, Region.binds md e = true -> e.on ≠ i := fun e he hb heq => by
       have h1 := hall e he hb
       rw [heq, getD_both hun] at h1
       cases h1
     obtain ⟨a1, a2, a3⟩ := Oper.apart_spec (hfree j oj hoj hji hjun hnot)
     unfold stepK at h1 ⊢
     rw [hoj] at h1 ⊢
     obtain ⟨u, k1, k2⟩ := h1
     rw [val_put a1] at k1
     refine ⟨u, k1, ih (listed.setIfInBounds j true) (s.put oj.dst u) (inv.set hj hjn) (fun k ok hk hki hun hno => ?_) (ready_mono hr (Ne.symm hji)) ?_ ?_⟩
     . refine hfree k ok hk hki ?_ hno
       by_cases hjk : j = k
       . subst hjk; exact hjun
       . rw [getD_set_ne true hjk] at hun; exact hun
     . rw [val_put a3]; exact hy
     . rw [Array.setIfInBounds_comm _ _ hji, put_comm u v (fun d hd he => a2 d he hd)]
       exact k2
theorem hAny_lex {n g : Nat} {Lq : St -> Prop} (hW : Waits md ops n) :
   ∀ (l : List Oper) (k : Nat) (listed : Array Bool) (s s' : St), (∀ j, j < l.length -> l[j]? = ops[k + j]?) -> k + l.length = n -> HeadInv md ops n listed ->
   Region.lexHead md ops g l.length k listed = true -> seqV E ops l s = some s' -> Lq s' ->
   hAny E md ops n (fun listed' s' => Region.seqB md ops g n listed' = true /\ Lq s') l.length listed s
 | [], k, listed, s, s', _, hk, _, hB, h, hL => by
   have : k = n := by simpa using hk
   subst this
   simp only [seqV, Option.some.injEq] at h
   subst h
   exact ⟨by simpa [Region.lexHead] using hB, hL⟩
 | o :: l, k, listed, s, s', hl, hk, inv, hB, h, hL => by
   have h0 : ops[k]? = some o := by simpa using (hl 0 (by simp)).symm
   simp only [List.length_cons, Region.lexHead, Bool.and_eq_true] at hB
   obtain ⟨⟨hr, hf⟩, hB'⟩ := hB
   have hkn : k < n := by simp only [List.length_cons] at hk; omega
   have hr' : k ∈ Region.ready md ops listed := by simpa using hr
   simp only [seqV] at h
   obtain ⟨v, h1, h2⟩ := bind_some_inv h
   exact hAny_first h0 hW hkn (fun listed' s' hL => seqB_ready hL.1) l.length listed s inv (Region.free_spec h0 hf) hr' h1
     (hAny_lex hW l (k + 1) _ _ s' (fun j hj => by have := hl (j + 1) (by simp; omega); simpa [Nat.add_assoc, Nat.add_comm 1 j] using this) (by simp only [List.length_cons] at hk; omega) (inv.set hr' hkn) hB' h2 hL)
end
section
variable {P : Program} {E : Env} {w0 : Root} {ops : Array Oper}
theorem wpAny_of_hAny (hE : EnvOk P E) {md : Region.Mode} {n g : Nat} {L : Array Bool -> St -> Prop} {Q : Exit -> Act -> World -> Prop} {s0 : St} {S0 : Nat -> Nat -> Prop} {γ0 : Nat -> Option Nat} {a0 : Act} {w1 : World}
   (hd : ∀ (i j : Nat) (oi oj : Oper), i ≠ j -> ops[i]? = some oi -> ops[j]? = some oj -> ∀ d, oj.dst = some d -> oi.dst ≠ some d)
   (hL : ∀ listed s S γ β a w, Rp w0 S γ β s a w -> Fm s0 S0 γ0 a0 w1 S γ a w -> Sm s0 s -> (∀ j oj, ops[j]? = some oj -> listed.getD j true = false -> Fr E s γ β oj) -> L listed s -> wpAnyIn (FW ro) nn P md ops Q g listed a w) :
   ∀ (f : Nat) (listed : Array Bool) (s : St) (S : Nat -> Nat -> Prop) (γ : Nat -> Option Nat) (β : Nat -> Option (Nat × Nat)) (a : Act) (w : World), Rp w0 S γ β s a w -> Fm s0 S0 γ0 a0 w1 S γ a w -> Sm s0 s ->
     (∀ j oj, ops[j]? = some oj -> listed.getD j true = false -> Fr E s γ β oj) -> hAny E md ops n L f listed s -> wpAnyIn (FW ro) nn P md ops Q (f + g) listed a w
 | 0, listed, s, S, γ, β, a, w, h, hF, hS, hfr, hh => by rw [Nat.zero_add]; exact hL _ _ _ _ _ _ _ h hF hS hfr hh
 | f + 1, listed, s, S, γ, β, a, w, h, hF, hS, hfr, hh => by
   rw [show f + 1 + g = (f + g) + 1 by omega]
   refine ⟨fun h0 => absurd h0 hh.1, fun i hi => ?_⟩
   obtain ⟨_, hst⟩ := hh.2 i hi
   have hun := (mem_ready.1 hi).1
   unfold stepK at hst
   unfold wpOpIn
   cases ho : ops[i]? with
   | none =>
     obtain ⟨_, o, ho', _⟩ := mem_ready.1 hi
     rw [ho] at ho'; cases ho'
   | some o =>
     rw [ho] at hst
     simp only at hst ⊢
     obtain ⟨v, h1, h2⟩ := hst
     obtain ⟨k1, k2⟩ := val_ok hE h (hfr i o ho hun) h1
     have p := St.put_fields s o.dst v
     have frn : ∀ {γ' : Nat -> Option Nat} {β' : Nat -> Option (Nat × Nat)}, (∀ id, o.dst ≠ some (id - s.base) \/ id < s.base -> γ' id = γ id /\ β' id = β id) -> ∀ j oj, ops[j]? = some oj -> (listed.setIfInBounds i true).getD j true = false -> Fr E (s.put o.dst v) γ' β' oj := fun hk j oj hj hu => by
       by_cases hij : i = j
       . subst hij
         exfalso
         rcases Nat.lt_or_ge i listed.size with hlt | hge
         . simp [Array.getD, hlt] at hu
         . simp [Array.getD, hge, Nat.not_lt.2 hge] at hu
       . rw [getD_set_ne true hij] at hu
         exact (hfr j oj hj hu).keep (fun d hdj => hd i j o oj hij ho hj d hdj) p.2.1 (fun id _ _ => by rw [p.1]) hk
     split
     . rename_i hw
       refine (wpIn_of_OpOk (k1 hw) fun u w' ⟨S', γ', β', m1, m2, m3⟩ => ?_)
       exact wpAny_of_hAny hE hd hL f _ _ S' γ' β' _ _ m1 (hF.trans m2 hS.lkS hS.lkO) (hS.trans (Sm.put s o.dst v)) (frn m3) h2
     . rename_i hw
       obtain ⟨m1, m2⟩ := k2 (by simpa using hw)
       refine ⟨fun _ _ => trivial, ?_⟩
       exact wpAny_of_hAny hE hd hL f _ _ S γ β _ _ m1 (hF.trans m2 hS.lkS hS.lkO) (hS.trans (Sm.put s o.dst v)) (frn fun id _ => ⟨rfl, rfl⟩) h2
theorem nodup_spec : ∀ {l : List Nat}, nodupB l = true -> ∀ A B x y, l = A ++ x :: B -> y ∈ B -> y ≠ x
 | [], _, A, B, x, y, e, _ => by simp at e
 | a :: l, h, A, B, x, y, e, hy => by
   simp only [nodupB, Bool.and_eq_true, Bool.not_eq_true'] at h
   cases A with
   | nil =>
     simp only [List.nil_append, List.cons.injEq] at e
     obtain ⟨rfl, rfl⟩ := e
     intro hyx
     subst hyx
     have : l.contains y = true := by simpa using hy
     rw [this] at h; cases h.1
   | cons a' A =>
     simp only [List.cons_append, List.cons.injEq] at e
     exact nodup_spec h.2 A B x y e.2 hy
theorem dsts_apart {l : List Oper} (h : nodupB (l.filterMap (·.dst)) = true) (A B : List Oper) (o o' : Oper) (e : l = A ++ o :: B) (ho : o' ∈ B) (d : Nat) (hd : o'.dst = some d) : o.dst ≠ some d := by
 intro hod
 subst e
 have e2 : (A ++ o :: B).filterMap (·.dst) = A.filterMap (·.dst) ++ d :: B.filterMap (·.dst) := by
   rw [List.filterMap_append, List.filterMap_cons]
   simp [hod]
 exact nodup_spec h _ _ d d e2 (List.mem_filterMap.2 ⟨o', ho, hd⟩) rfl
theorem dsts_apart' {l : List Oper} (h : nodupB (l.filterMap (·.dst)) = true) {i j : Nat} {oi oj : Oper} (hij : i ≠ j) (hi : l[i]? = some oi) (hj : l[j]? = some oj) (d : Nat) (hd : oj.dst = some d) : oi.dst ≠ some d := by
 obtain ⟨hi1, hi2⟩ := List.getElem?_eq_some_iff.1 hi
 obtain ⟨hj1, hj2⟩ := List.getElem?_eq_some_iff.1 hj
 rcases Nat.lt_or_ge i j with hlt | hge
 . refine dsts_apart h (l.take i) (l.drop (i + 1)) oi oj ?_ ?_ d hd
   . rw [<- hi2, <- List.drop_eq_getElem_cons hi1, List.take_append_drop]
   . refine List.mem_of_getElem? (i := j - (i + 1)) ?_
     rw [List.getElem?_drop, show i + 1 + (j - (i + 1)) = j by omega]
     exact hj
 . intro hod
   refine dsts_apart h (l.take j) (l.drop (j + 1)) oj oi ?_ ?_ d hod hd
   . rw [<- hj2, <- List.drop_eq_getElem_cons hj1, List.take_append_drop]
   . refine List.mem_of_getElem? (i := i - (j + 1)) ?_
     rw [List.getElem?_drop, show j + 1 + (i - (j + 1)) = i by omega]
     exact hi
theorem number_map : ∀ (l : List Oper) (i : Nat), (number i l).map Prod.snd = l
 | [], _ => rfl
 | o :: l, i => by simp only [number, List.map_cons, number_map l (i + 1)]
theorem number_mem {l : List Oper} {i : Nat} {p : Nat × Oper} (h : p ∈ number i l) : p.2 ∈ l := by
 have : p.2 ∈ (number i l).map Prod.snd := List.mem_map_of_mem h
 rwa [number_map] at this
theorem number_length : ∀ (l : List Oper) (i : Nat), (number i l).length = l.length
 | [], _ => rfl
 | o :: l, i => by simp only [number, List.length_cons, number_length l (i + 1)]
theorem region_ok (hE : EnvOk P E) {id : Nat} {dr : Bool} {n : Nat} {Q : Exit -> Act -> World -> Prop} {S : Nat -> Nat -> Prop} {γ : Nat -> Option Nat} {β : Nat -> Option (Nat × Nat)} {s : St} {a : Act} {w : World} {R : Type} {k : St -> Option R} {r : R} {N : Nat}
   (h : Rp w0 S γ β s a w) (hf : FrL E s γ β ops.toList) (hm : makersOk ops.toList = true) (hdr : (!dr || drawOk E ops n) = true) {an : Ann} (hev : evR E N R ops an (number 0 ops.toList) s k = some r)
   (hQ : ∀ s' S' γ' β' a' w', Rp w0 S' γ' β' s' a' w' -> Fm s S γ a w S' γ' a' w' -> Sk s s' -> k s' = some r -> Q .normal a' w') : (Code.region id ops dr).wpIn (FW ro) nn P Q a w := by
 simp only [makersOk, Bool.and_eq_true] at hm
 obtain ⟨⟨hm1, hm2⟩, hm3⟩ := hm
 have hstores : (ops.toList.all fun o => match o.op with | .store .. => o.dst.isNone | _ => true) = true := hm3
 cases dr with
 | false =>
   refine wpIn_region_list ?_
   have := evR_ok (ro := ro) (nn := nn) (ops := ops) hE hstores N R (number 0 ops.toList) k r an h (by rw [number_map]; exact hf) (by rw [number_map]; exact fun A B o o' e ho d hd => dsts_apart hm1 A B o o' e ho d hd) (fun p hp => number_mem hp) hev hQ
   rwa [number_map] at this
 | true =>
   simp only [Bool.not_true, Bool.false_or, drawOk, Bool.and_eq_true] at hdr
   obtain ⟨⟨⟨⟨⟨d0, d1⟩, d2⟩, d3⟩, d4⟩, d5⟩ := hdr
   have hn : n <= ops.size := by
     simp only [Bool.or_eq_true, decide_eq_true_eq, Bool.and_eq_true] at d3
     rcases d3 with d3 | d3
     . omega
     . omega
   have hW : Waits .any ops n := by
     intro listed i inv hin hun t ht hr
     simp only [Bool.or_eq_true, decide_eq_true_eq, Bool.and_eq_true] at d3
     rcases d3 with d3 | ⟨⟨d3, d6⟩, d7⟩
     . obtain ⟨_, o, ho, _⟩ := mem_ready.1 hr
       have := (Array.getElem?_eq_some_iff.1 ho).1
       omega
     . exact tail_waits d6 d7 d3 inv _ i rfl hin hun t ht hr
   obtain ⟨s', s'', N', q1, q2, q3⟩ := evR_head N R (number 0 ops.toList) s k r n an (by rw [number_length, Array.length_toList]; exact hn) (fun p hp => by
       have hp' : p.2 ∈ ops.toList.take n := by
         have : p.2 ∈ ((number 0 ops.toList).take n).map Prod.snd := List.mem_map_of_mem hp
         rwa [List.map_take, number_map] at this
       exact ⟨List.all_eq_true.1 d4 _ hp', by simpa using List.all_eq_true.1 d0 _ hp'⟩) (fun p hp => by
       have hp' : p.2 ∈ ops.toList.drop n := by
         have : p.2 ∈ ((number 0 ops.toList).drop n).map Prod.snd := List.mem_map_of_mem hp
         rwa [List.map_drop, number_map] at this
       have := List.all_eq_true.1 d5 _ hp'
       simp only [Bool.and_eq_true] at this
       refine ⟨by simpa using this.1, fun c x y e => ?_⟩
       have h2 := this.2
       rw [e] at h2
       cases h2) hev
   rw [List.map_take, number_map] at q1
   refine wpIn_region_any hE.mixed ?_
   have hg : ∃ os d, w.drawn <= d /\ ({ w with drawn := w.drawn + 1 } : World) = grown w os d := ⟨[], w.drawn + 1, Nat.le_succ _, by simp [grown]⟩
   obtain ⟨os, d, hdr, hg⟩ := hg
   obtain ⟨g1, g2⟩ := h.grow (os := os) (d := d) hdr (S' := S) (fun _ _ hb => hb) (fun _ _ hb => .inl hb)
   rw [hg]
   have hlen : (ops.toList.take n).length = n := by simp; omega
   have inv0 : HeadInv .any ops n (Array.replicate ops.size false) :=
     ⟨by simp, fun j oj _ hl => (by rw [getD_replicate_false] at hl; cases hl), fun t _ ht => getD_in (by simpa using ht) (getD_replicate_false _ _)⟩
   have H := hAny_lex (E := E) (md := .any) (g := ops.size - n) (Lq := fun s => s = s') hW (ops.toList.take n) 0 (Array.replicate ops.size false) s s' (fun j hj => by
     rw [hlen] at hj
     rw [List.getElem?_take_of_lt hj, Nat.zero_add, Array.getElem?_toList]) (by rw [hlen, Nat.zero_add]) inv0 (by rw [hlen]; exact d2) q1 rfl
   have hdl : (ops.toList.drop n).length = ops.size - n := by simp
   have := wpAny_of_hAny (ro := ro) (nn := nn) (Q := Q) (g := ops.size - n) hE (s0 := s) (S0 := S) (γ0 := γ) (a0 := a) (w1 := grown w os d) (fun i j oi oj hij hi hj d hd => dsts_apart' hm1 hij (by rw [Array.getElem?_toList]; exact hi) (by rw [Array.getElem?_toList]; exact hj) d hd)
     (fun listed s2 S2 γ2 β2 a2 w2 m1 m2 m3 m4 m5 => by
       obtain ⟨m5, m6⟩ := m5
       subst m6
       have hseq := wpAnyIn_of_seq (F := FW ro) (n := nn) (P := P) (md := .any) (ops := ops) (Q' := Q) (ops.toList.drop n) n listed a2 w2 (fun j => by rw [List.getElem?_drop, Array.getElem?_toList]) (by rw [hdl]; exact m5) ?_
       . rwa [hdl] at hseq
       have hunl : ∀ j oj, ops[j]? = some oj -> n <= j -> listed.getD j true = false := by
         intro j oj hj hnj
         have key : ∀ (g k : Nat) (listed : Array Bool), Region.seqB .any ops g k listed = true -> ∀ j, k <= j -> j < k + g -> listed.getD j true = false := by
           intro g
           induction g with
           | zero => intro k listed _ j h1 h2; omega
           | succ g ih =>
             intro k listed hB j h1 h2
             simp only [Region.seqB, Bool.and_eq_true, decide_eq_true_eq] at hB
             by_cases hjk : j = k
             . subst hjk
               have : j ∈ Region.ready .any ops listed := by rw [hB.1]; simp
               exact (mem_ready.1 this).1
             . have := ih (k + 1) _ hB.2 j (by omega) (by omega)
               rwa [getD_set_ne true (Ne.symm hjk)] at this
         have hjlt := (Array.getElem?_eq_some_iff.1 hj).1
         exact key _ _ _ m5 j hnj (by omega)
       have hsub : ∀ o ∈ ops.toList.drop n, Fr E s'' γ2 β2 o := fun o ho => by
         obtain ⟨i, hi, he⟩ := List.getElem_of_mem ho
         have hi2 : ops[n + i]? = some o := by
           have : (ops.toList.drop n)[i]? = some o := by rw [List.getElem?_eq_getElem hi, he]
           rwa [List.getElem?_drop, Array.getElem?_toList] at this
         have := m4 (n + i) o hi2 (hunl _ _ hi2 (by omega))
         intro hc d hd
         obtain ⟨r1, r2, r3, r4⟩ := this hc d hd
         rw [q2.base_eq, q2.ob]
         exact ⟨r1, r2, r3, r4⟩
       have fin := evR_ok (ro := ro) (nn := nn) (ops := ops) hE (Q := Q) hstores N' R ((number 0 ops.toList).drop n) k r an (m1.wk q2) (by rw [List.map_drop, number_map]; exact hsub)
         (by
           rw [List.map_drop, number_map]
           intro A B o o' e ho d hd
           exact dsts_apart hm1 (ops.toList.take n ++ A) B o o' (by rw [List.append_assoc, <- e, List.take_append_drop]) ho d hd)
         (fun p hp => number_mem (List.mem_of_mem_drop hp)) q3 (fun s3 S3 γ3 β3 a3 w3 n1 n2 n3 n4 => by
           refine hQ s3 S3 γ3 β3 a3 w3 n1 ?_ ((m3.trans (Sm.wk q2)).sk.trans n3) n4
           have f0 : Fm s S γ a w S γ a (grown w os d) := ⟨fun _ _ hb => hb, g2.cell, fun _ _ => rfl, fun id hid b hb => ⟨hb, grown_old (h.γn id b hb).2⟩, by simp, fun _ _ hb => hb⟩
           exact (f0.trans m2 rfl rfl).trans n2 (q2.lkS.trans m3.lkS) (q2.lkO.trans m3.lkO))
       rwa [List.map_drop, number_map] at fin)
     (ops.toList.take n).length (Array.replicate ops.size false) s S γ β a (grown w os d) g1 (Fm.refl _ _ _ _ _) (Sm.refl s) (fun j oj hj _ => hf oj (Array.mem_toList_iff.2 (Array.mem_of_getElem? hj))) H
   rw [hlen, show n + (ops.size - n) = ops.size by omega] at this
   exact this
end
end Go.Proofs.YtjjjkojfijpeeaaGreat.Sy
end
