/- Part 3 of the proof that HullIsClosed answers true at every input -/
import Derived.Test.YtjjjkojfijpeeaaGreatClosed02
import Derived.MapKept
import Derived.IntWalk
set_option linter.unusedVariables false
set_option linter.unusedSimpArgs false
set_option linter.unnecessarySimpa false
section
namespace Go.Proofs.YtjjjkojfijpeeaaGreat.Sy
open Go
theorem splice_list (pre mid post cs : List Value) (h : mid.length = cs.length) : splice (pre ++ (mid ++ post)).toArray pre.length cs.toArray = (pre ++ (cs ++ post)).toArray := by
 unfold splice
 apply Array.ext'
 simp [h]
 rw [List.take_of_length_le (by omega)]
theorem zeroB_uniq : ∀ {ds : List D} {c1 c2 : List Value}, zeroB ds c1 = true -> zeroB ds c2 = true -> c1 = c2
 | [], [], [], _, _ => rfl
 | [], _ :: _, _, h, _ => by simp [zeroB] at h
 | [], [], _ :: _, _, h => by simp [zeroB] at h
 | _ :: _, [], _, h, _ => by simp [zeroB] at h
 | _ :: _, _ :: _, [], _, h => by simp [zeroB] at h
 | d :: ds, v1 :: c1, v2 :: c2, q1, q2 => by
   simp only [zeroB, Bool.and_eq_true] at q1 q2
   rw [zeroB_uniq q1.2 q2.2]
   congr 1
   have a1 := q1.1
   have a2 := q2.1
   cases d <;> cases v1 <;> simp only [embB] at a1 <;> first | (cases a1; done) | skip
   all_goals (cases v2 <;> simp only [embB] at a2 <;> first | (cases a2; done) | skip)
   all_goals simp_all
section
variable {w : World} {S : Nat -> Nat -> Prop}
def PV (w : World) (S : Nat -> Nat -> Prop) (ty : Nat -> Option Ty) : List (Nat × D) -> List (Nat × Value) -> Prop
 | [], [] => True
 | (i, x) :: ps, (j, v) :: vs => i = j /\ (∃ t, ty i = some t /\ wt t x /\ noTup t = true /\ DR0 w S x v) /\ PV w S ty ps vs
 | _, _ => False
theorem fill_ok {place : Nat -> Option (Nat × Nat)} {ty : Nat -> Option Ty} {off : Nat -> Nat} {Good : List D -> Prop}
   (hset : ∀ l i t z, Good l -> ty i = some t -> wt t z -> Good (l.set i z))
   (hget : ∀ l i t, Good l -> ty i = some t -> ∃ y, l[i]? = some y /\ wt t y /\ (D.flats (l.take i)).length = off i)
   (hplace : ∀ i t, ty i = some t -> place i = some (off i, t.size)) :
   ∀ (ps : List (Nat × D)) (vs : List (Nat × Value)) (l : List D) (cs : List Value), Good l -> CRl w S (D.flats l) cs -> PV w S ty ps vs ->
     ∃ cs' : List Value, fillA place cs.toArray vs = some cs'.toArray /\ Good (D.putParts l ps) /\ CRl w S (D.flats (D.putParts l ps)) cs'
 | [], [], l, cs, hg, hc, _ => ⟨cs, rfl, hg, hc⟩
 | [], _ :: _, _, _, _, _, h => by simp [PV] at h
 | _ :: _, [], _, _, _, _, h => by simp [PV] at h
 | (i, x) :: ps, (j, v) :: vs, l, cs, hg, hc, h => by
   simp only [PV] at h
   obtain ⟨rfl, ⟨t, h1, h2, h3, h4⟩, h5⟩ := h
   obtain ⟨y, k1, k2, k3⟩ := hget l i t hg h1
   rw [flats_split k1] at hc
   obtain ⟨c1, c2⟩ := hc.split
   obtain ⟨c3, c4⟩ := c2.split
   have e : cs = cs.take (D.flats (l.take i)).length ++ ((cs.drop (D.flats (l.take i)).length).take y.flat.length ++ (cs.drop (D.flats (l.take i)).length).drop y.flat.length) := by simp only [List.take_append_drop]
   have l1 : (cs.take (D.flats (l.take i)).length).length = off i := by rw [<- c1.1, k3]
   have l2 : ((cs.drop (D.flats (l.take i)).length).take y.flat.length).length = t.size := by rw [<- c3.1]; exact wt_len _ _ k2 h3
   have l3 : v.cells.toList.length = t.size := by rw [<- h4.2.1]; exact wt_len _ _ h2 h3
   have hc' : CRl w S (D.flats (l.set i x)) (cs.take (D.flats (l.take i)).length ++ (v.cells.toList ++ (cs.drop (D.flats (l.take i)).length).drop y.flat.length)) := by
     rw [flats_set k1]
     exact c1.append (h4.2.append c4)
   obtain ⟨cs', m1, m2, m3⟩ := fill_ok hset hget hplace ps vs (l.set i x) _ (hset l i t x hg h1 h2) hc' h5
   refine ⟨cs', ?_, m2, m3⟩
   rw [fillA_cons (hplace i t h1) (by rw [<- Array.length_toList]; exact l3) (by rw [<- l1]; have := congrArg List.length e; simp only [List.length_append] at this; simp only [List.size_toArray]; omega), <- m1]
   congr 1
   conv => lhs; rw [e]
   have := splice_list (cs.take (D.flats (l.take i)).length) ((cs.drop (D.flats (l.take i)).length).take y.flat.length) ((cs.drop (D.flats (l.take i)).length).drop y.flat.length) v.cells.toList (by rw [l2, l3])
   rw [l1] at this
   simpa using this
end
section
variable {P : Program} {E : Env} {w0 : Root} {S : Nat -> Nat -> Prop} {γ : Nat -> Option Nat} {β : Nat -> Option (Nat × Nat)} {s : St} {a : Act} {w : World}
theorem partsD_ok (h : Rp w0 S γ β s a w) {ty : Nat -> Option Ty} (hn : ∀ i t, ty i = some t -> noTup t = true) : ∀ (ps : List (Nat × Operand)) (l : List (Nat × D)), partsD s.ob s ty ps = some l -> PV w S ty l (ps.map fun p => (p.1, a.eval p.2))
 | [], l, hp => by simp only [partsD, Option.some.injEq] at hp; subst hp; simp [PV]
 | (i, x) :: ps, l, hp => by
   simp only [partsD] at hp
   replace hp := bind_some_inv hp; obtain ⟨t, ht, hp⟩ := hp
   replace hp := bind_some_inv hp; obtain ⟨y, hy, hp⟩ := hp
   replace hp := bind_some_inv hp; obtain ⟨ys, hys, hp⟩ := hp
   simp only [Option.some.injEq] at hp
   subst hp
   obtain ⟨k1, k2⟩ := AR_toD (hn i t ht) (opA_ok h x) hy
   simp only [List.map_cons, PV]
   exact ⟨trivial, ⟨t, ht, k1, hn i t ht, k2⟩, partsD_ok h hn ps ys hys⟩
theorem zero_run {t : Ty} {T : TypeId} (hl : layB P t T = true) : ∃ z, (∀ w, (zeroValue T).run P w = .ok z w) /\ zeroB (zeroD t).flat z.cells.toList = true /\ ((∃ cs, z = .agg cs) ↔ aggTy t = true) := by
 obtain ⟨i, z, h1, h2, h3, h4, h5, h6⟩ := infoB_info (layB_info hl)
 exact ⟨z, fun w => by simp [zeroValue, typeInfo, h1, h4], h5, h6⟩
theorem run_places : ∀ {ts : List Ty} {fs : List Field} {off : Nat} (w : World), fldB P ts fs off = true ->
   ((fs.mapM fun f => do pure (f.offset, <- sizeOf f.type) : Sem (List (Nat × Nat))).run P w = .ok (fs.zipWith (fun f t => (f.offset, Ty.size t)) ts) w)
 | [], [], _, w, _ => rfl
 | [], _ :: _, _, _, h => by simp [fldB] at h
 | _ :: _, [], _, _, h => by simp [fldB] at h
 | t :: ts, f :: fs, off, w, h => by
   simp only [fldB, Bool.and_eq_true, decide_eq_true_eq] at h
   obtain ⟨⟨⟨⟨h1, h2⟩, h3⟩, h4⟩, h5⟩ := h
   simp only [List.mapM_cons, Sem.run_bind, lay_size h4, Result.andThen_ok, Sem.run_pure, run_places w h5, List.zipWith_cons_cons]
theorem place_get : ∀ {ts : List Ty} {fs : List Field} {off i : Nat} {t : Ty}, fldB P ts fs off = true -> ts[i]? = some t -> (fs.zipWith (fun f t => (f.offset, Ty.size t)) ts)[i]? = some (off + Ty.sizes (ts.take i), t.size)
 | ts, fs, off, i, t, h, hi => by
   obtain ⟨f, h1, h2, _⟩ := fld_get h hi
   simp [List.getElem?_zipWith, h1, hi, h2]
theorem run_build_st {T : TypeId} {ts : List Ty} (hl : layB P (.st ts) T = true) (vs : Array (Nat × Value)) (w : World) {r : List Value}
   (hf : ∀ z : Value, zeroB (zeroD (.st ts)).flat z.cells.toList = true -> fillA (fun i => if i < ts.length then some (Ty.sizes (ts.take i), (ts.getD i .bool).size) else none) z.cells vs.toList = some r.toArray) :
   (Instr.build T vs).run P w = .ok (.agg r.toArray) w := by
 obtain ⟨fs, h1, h2⟩ := lay_st hl
 obtain ⟨z, hz, hz2, _⟩ := zero_run hl
 have hlen : (fs.toList.zipWith (fun f t => (f.offset, Ty.size t)) ts).length = ts.length := by
   have : ∀ {ts : List Ty} {fs : List Field} {off : Nat}, fldB P ts fs off = true -> fs.length = ts.length := by
     intro ts
     induction ts with
     | nil => intro fs off h; cases fs <;> simp [fldB] at h ⊢
     | cons t ts ih => intro fs off h; cases fs with
       | nil => simp [fldB] at h
       | cons f fs => simp only [fldB, Bool.and_eq_true] at h; simp [ih h.2]
   simp [this h2]
 have hp : (fun i => (fs.toList.zipWith (fun f t => (f.offset, Ty.size t)) ts).toArray[i]?) = fun i => if i < ts.length then some (Ty.sizes (ts.take i), (ts.getD i .bool).size) else none := by
   funext i
   by_cases hi : i < ts.length
   . have := place_get (i := i) h2 (List.getElem?_eq_getElem hi)
     simp only [Nat.zero_add] at this
     rw [if_pos hi]
     simp only [List.getElem?_toArray, this]
     simp [List.getD, List.getElem?_eq_getElem hi]
   . rw [if_neg hi]
     simp only [List.getElem?_toArray]
     exact List.getElem?_eq_none (by omega)
 have hm : (fs.mapM fun f => (do pure (f.offset, <- sizeOf f.type) : Sem (Nat × Nat))).run P w = .ok (fs.toList.zipWith (fun f t => (f.offset, Ty.size t)) ts).toArray w := by
   rw [<- Array.toArray_toList (xs := fs), List.mapM_toArray]
   simp only [Sem.run_map, run_places w h2, Result.andThen_ok]
 simp only [Instr.build, Sem.run_bind, hz, Result.andThen_ok, run_underlying h1, hm, hp, fill_eq, hf z hz2, Sem.run_pure]
theorem flats_replicate (n : Nat) (x : D) : D.flats (List.replicate n x) = (List.replicate n x.flat).flatten := by
 induction n with
 | zero => rfl
 | succ n ih => simp only [List.replicate_succ, D.flats, ih, List.flatten_cons]
def PVA (c : Cx) (ts : List Ty) : List (Nat × AV) -> List (Nat × Value) -> Prop
 | [], [] => True
 | (i, x) :: ps, (j, v) :: vs => i = j /\ (∃ t, ts[i]? = some t /\ AV.fits t x = true /\ AC c x v.cells.toList) /\ PVA c ts ps vs
 | _, _ => False
theorem fillA_ok {c : Cx} {ts : List Ty} (hn : noTups ts = true) :
   ∀ (ps : List (Nat × AV)) (vs : List (Nat × Value)) (l : List AV) (cs : List Value), AV.fitss ts l = true -> ACs c l cs -> PVA c ts ps vs ->
     ∃ cs' : List Value, fillA (fun i => if i < ts.length then some (Ty.sizes (ts.take i), (ts.getD i .bool).size) else none) cs.toArray vs = some cs'.toArray /\ AV.fitss ts (putPartsA l ps) = true /\ ACs c (putPartsA l ps) cs'
 | [], [], l, cs, hf, hc, _ => ⟨cs, rfl, hf, hc⟩
 | [], _ :: _, _, _, _, _, h => by simp [PVA] at h
 | _ :: _, [], _, _, _, _, h => by simp [PVA] at h
 | (i, x) :: ps, (j, v) :: vs, l, cs, hf, hc, h => by
   simp only [PVA] at h
   obtain ⟨rfl, ⟨t, h1, h2, h3⟩, h5⟩ := h
   obtain ⟨y, k1, k2⟩ := fitss_get' hf h1
   obtain ⟨pre, mid, post, rfl, m1, m2, m3⟩ := ACs_get hf hn hc k1
   have l2 := (AC_len _ _ _ k2 m2).1
   have l3 := (AC_len _ _ _ h2 h3).1
   obtain ⟨cs', n1, n2, n3⟩ := fillA_ok hn ps vs (l.set i x) _ (fitss_set hf h1 h2) (m3 x _ h3) h5
   refine ⟨cs', ?_, n2, n3⟩
   have hi := (List.getElem?_eq_some_iff.1 h1).1
   rw [fillA_cons (off := Ty.sizes (ts.take i)) (size := t.size) (by rw [if_pos hi]; simp [List.getD, h1]) (by rw [<- Array.length_toList]; exact l3) (by simp; omega), <- n1]
   congr 1
   have := splice_list pre mid post v.cells.toList (by rw [l2, l3])
   rw [m1] at this
   simpa using this
theorem qv_build (hE : EnvOk P E) (h : Rp w0 S γ β s a w) {dst T ps ty pos after guard} : QvOk P E w0 S γ β s a w ⟨dst, .build T ps, ty, pos, after, guard⟩ := by
 intro R K r hq
 simp only [qv] at hq
 replace hq := bind_some_inv hq; obtain ⟨t, ht, hq⟩ := hq
 have hex : execOp a.eval ⟨dst, .build T ps, ty, pos, after, guard⟩ = (Instr.build T (ps.map fun p => (p.1, a.eval p.2)) >>= fun v => pure (.value v)) := rfl
 have hmap : (ps.map fun p => (p.1, a.eval p.2)).toList = ps.toList.map fun p => (p.1, a.eval p.2) := by simp
 cases t <;> (try simp only at hq) <;> first | cases hq | skip
 case st ts =>
   rcases hE.lay T _ ht with ⟨ts', hts⟩ | hl
   . cases hts
   have hn := layB_noTup _ _ hl
   simp only [noTup] at hn
   split at hq
   . rename_i hsl
     split at hq <;> first | cases hq | skip
     rename_i hall
     have hpv : ∀ (l : List (Nat × Operand)), l.all (fitsAt s ts) = true -> PVA ⟨w, S, γ, β, s.ob, s.dead⟩ ts (l.map fun p => (p.1, s.opA p.2)) (l.map fun p => (p.1, a.eval p.2)) := by
       intro l
       induction l with
       | nil => intro _; simp [PVA]
       | cons p l ih =>
         intro hh
         simp only [List.all_cons, Bool.and_eq_true] at hh
         simp only [List.map_cons, PVA]
         refine ⟨trivial, ?_, ih hh.2⟩
         have h1 := hh.1
         unfold fitsAt at h1
         split at h1 <;> first | cases h1 | skip
         rename_i u hu
         exact ⟨u, hu, h1, (AR_AC h1 (noTups_get hn hu) (opA_ok h p.2)).1⟩
     obtain ⟨z, hz, hz2, _⟩ := zero_run hl
     have hz3 : ACs ⟨w, S, γ, β, s.ob, s.dead⟩ (zeroAs ts) z.cells.toList := zeroAs_ACs ts _ hn (by simpa [zeroD, D.flat] using hz2)
     obtain ⟨cs', m1, m2, m3⟩ := fillA_ok hn _ _ _ _ (zeroAs_fits ts hn) hz3 (hpv ps.toList hall)
     have hrun : (Instr.build T (ps.map fun p => (p.1, a.eval p.2))).run P w = .ok (.agg cs'.toArray) w := by
       obtain ⟨fs, h1, h2⟩ := lay_st hl
       refine run_build_st hl _ w (r := cs') fun z' hz' => ?_
       have hz4 : ACs ⟨w, S, γ, β, s.ob, s.dead⟩ (zeroAs ts) z'.cells.toList := zeroAs_ACs ts _ hn (by simpa [zeroD, D.flat] using hz')
       have : z'.cells = z.cells := Array.ext' (zeroB_uniq hz' hz2)
       rw [this, hmap, <- m1]
     exact ⟨_, hq, .value (v := .agg cs'.toArray) (w' := w) (by rw [hex]; simp only [Sem.run_bind, hrun, Result.andThen_ok, Sem.run_pure]) (Qp.same h (by
       simp only [AR]
       exact ⟨⟨_, rfl⟩, by simp only [AC]; exact ⟨hn, m2, by simpa [Value.cells] using m3⟩⟩) _)⟩
   . replace hq := bind_some_inv hq; obtain ⟨l, hp, hq⟩ := hq
     have hpv := partsD_ok h (ty := fun i => ts[i]?) (fun i t hi => noTups_get hn hi) _ _ hp
     have main : ∀ z : Value, zeroB (zeroD (.st ts)).flat z.cells.toList = true -> ∃ cs' : List Value, fillA (fun i => if i < ts.length then some (Ty.sizes (ts.take i), (ts.getD i .bool).size) else none) z.cells (ps.toList.map fun p => (p.1, a.eval p.2)) = some cs'.toArray /\ wts ts (D.putParts (zeroDs ts) l) /\ CRl w S (D.flats (D.putParts (zeroDs ts) l)) cs' := by
       intro z hz
       refine fill_ok (ty := fun i => ts[i]?) (off := fun i => Ty.sizes (ts.take i)) (Good := fun l => wts ts l) (fun l i t z hg hi hz => wts_set hg hi hz) (fun l i t hg hi => ?_) (fun i t hi => ?_) l _ (zeroDs ts) z.cells.toList (zeroDs_wts ts hn) (zeroB_CRl (by simpa [zeroD, D.flat] using hz)) hpv
       . obtain ⟨y, h1, h2⟩ := wts_get hg hi
         exact ⟨y, h1, h2, wts_len _ _ (wts_take i hg) (noTups_take i hn)⟩
       . rw [if_pos (List.getElem?_eq_some_iff.1 hi).1]
         simp only [List.getD, hi, Option.getD_some]
     obtain ⟨z, hz, hz2, _⟩ := zero_run hl
     obtain ⟨cs', m1, m2, m3⟩ := main z hz2
     have hrun : (Instr.build T (ps.map fun p => (p.1, a.eval p.2))).run P w = .ok (.agg cs'.toArray) w := by
       refine run_build_st hl _ w (r := cs') fun z' hz' => ?_
       have : z'.cells = z.cells := Array.ext' (zeroB_uniq hz' hz2)
       rw [this, hmap, <- m1]
     have hw : wt (.st ts) (.st (D.putParts (zeroDs ts) l)) := by simp only [wt]; exact ⟨_, rfl, m2⟩
     exact ⟨_, hq, .value (v := .agg cs'.toArray) (w' := w) (by rw [hex]; simp only [Sem.run_bind, hrun, Result.andThen_ok, Sem.run_pure]) (Qp.same h (AR_of_d (by simpa [noTup] using hn) hw ⟨⟨_, rfl⟩, by simpa [Value.cells, D.flat] using m3⟩) _)⟩
 case arr n e =>
   rcases hE.lay T _ ht with ⟨ts', hts⟩ | hl
   . cases hts
   have hn := layB_noTup _ _ hl
   simp only [noTup] at hn
   replace hq := bind_some_inv hq; obtain ⟨l, hp, hq⟩ := hq
   have hpv := partsD_ok h (ty := fun i => if i < n then some e else none) (fun i t hi => by split at hi <;> first | (cases hi; exact hn) | cases hi) _ _ hp
   have main : ∀ z : Value, zeroB (zeroD (.arr n e)).flat z.cells.toList = true -> ∃ cs' : List Value, fillA (fun i => some (i * e.size, e.size)) z.cells (ps.toList.map fun p => (p.1, a.eval p.2)) = some cs'.toArray /\ ((D.putParts (List.replicate n (zeroD e)) l).length = n /\ ∀ x ∈ D.putParts (List.replicate n (zeroD e)) l, wt e x) /\ CRl w S (D.flats (D.putParts (List.replicate n (zeroD e)) l)) cs' := by
     intro z hz
     refine fill_ok (ty := fun i => if i < n then some e else none) (off := fun i => i * e.size) (Good := fun l => l.length = n /\ ∀ x ∈ l, wt e x) (fun l i t z hg hi hz => ?_) (fun l i t hg hi => ?_) (fun i t hi => ?_) l _ (List.replicate n (zeroD e)) z.cells.toList ⟨by simp, fun x hx => by rw [(List.mem_replicate.1 hx).2]; exact zeroD_wt e hn⟩ (zeroB_CRl (by simpa [zeroD, D.flat] using hz)) hpv
     . split at hi <;> first | cases hi | skip
       refine ⟨by simpa using hg.1, fun x hx => ?_⟩
       rcases List.mem_or_eq_of_mem_set hx with h | h
       . exact hg.2 x h
       . rw [h]; exact hz
     . split at hi <;> first | cases hi | skip
       rename_i hin
       have hil : i < l.length := by rw [hg.1]; exact hin
       refine ⟨l[i], List.getElem?_eq_getElem hil, hg.2 _ (List.getElem_mem hil), ?_⟩
       rw [flats_len_of hn _ (fun x hx => hg.2 x (List.mem_of_mem_take hx)), List.length_take, Nat.min_eq_left (by omega)]
     . split at hi <;> first | cases hi | skip
       rfl
   obtain ⟨z, hz, hz2, _⟩ := zero_run hl
   obtain ⟨cs', m1, m2, m3⟩ := main z hz2
   have hrun : (Instr.build T (ps.map fun p => (p.1, a.eval p.2))).run P w = .ok (.agg cs'.toArray) w := by
     obtain ⟨u, h1, h2⟩ := lay_arr hl
     simp only [Instr.build, Sem.run_bind, hz, Result.andThen_ok, run_underlying h1, lay_size h2, fill_eq, hmap, m1, Sem.run_pure]
   have hw : wt (.arr n e) (.st (D.putParts (List.replicate n (zeroD e)) l)) := by simp only [wt]; exact ⟨_, rfl, m2⟩
   exact ⟨_, hq, .value (v := .agg cs'.toArray) (w' := w) (by rw [hex]; simp only [Sem.run_bind, hrun, Result.andThen_ok, Sem.run_pure]) (Qp.same h (AR_of_d (by simpa [noTup] using hn) hw ⟨⟨_, rfl⟩, by simpa [Value.cells, D.flat] using m3⟩) _)⟩
theorem qv_extract (h : Rp w0 S γ β s a w) {dst x i ty pos after guard} : QvOk P E w0 S γ β s a w ⟨dst, .extract x i, ty, pos, after, guard⟩ := by
 intro R K r hq
 simp only [qv] at hq
 have hx := opA_ok h x
 generalize s.opA x = y at *
 split at hq <;> first | cases hq | skip
 rename_i ts z
 replace hq := bind_some_inv hq; obtain ⟨u, hu, hq⟩ := hq
 replace hq := bind_some_inv hq; obtain ⟨z', hz, hq⟩ := hq
 simp only [AR] at hx
 rcases hx with ⟨h1, _⟩ | ⟨ts', e, hn, h2, h3⟩
 . simp [noTup] at h1
 . cases e
   simp only [wt] at h2
   obtain ⟨l, rfl, hw⟩ := h2
   simp only [D.tupAt] at hz
   simp only [DR] at h3
   obtain ⟨vs, hv, hlen, hvs⟩ := h3
   have hi : i < vs.length := by rw [<- hlen]; exact (List.getElem?_eq_some_iff.1 hz).1
   obtain ⟨z2, k1, k2⟩ := wts_get hw hu
   rw [hz] at k1; cases k1
   have hv2 := hvs i z' vs[i] hz (List.getElem?_eq_getElem hi)
   exact ⟨_, hq, .value (v := vs[i]) (w' := w) (by simp [execOp, Instr.extract, hv, hi]) (Qp.same h (AR_of_d (noTups_get hn hu) k2 hv2) _)⟩
theorem qv_makeFunc (h : Rp w0 S γ β s a w) {dst fn first captured ty pos after guard} : QvOk P E w0 S γ β s a w ⟨dst, .makeFunc fn first captured, ty, pos, after, guard⟩ := by
 intro R K r hq
 simp only [qv] at hq
 split at hq <;> first | cases hq | skip
 rename_i f
 split at hq <;> first | cases hq | skip
 rename_i hf
 have e : first = #[] := Array.eq_empty_of_size_eq_zero hf.1
 refine ⟨_, hq, .value (v := .func (.func f) #[] (captured.map a.eval)) (w' := w) (by simp [execOp, Instr.makeFunc, e]) (Qp.same h ?_ _)⟩
 simp only [AR, AC]
 refine ⟨by simp, (captured.toList.map a.eval), by rw [show captured.map a.eval = (captured.toList.map a.eval).toArray from Array.ext' (by simp)]; simp [Value.cells], ?_⟩
 have h2 := hf.2
 clear hf hq
 generalize captured.toList = l at *
 induction l with
 | nil => simp [ACc]
 | cons x l ih =>
   simp only [List.all_cons, Bool.and_eq_true] at h2
   simp only [List.map_cons, ACc]
   refine ⟨_, _, rfl, ?_, ih h2.2⟩
   have h3 := h2.1
   have h4 := opA_ok h x
   cases hx : s.opA x <;> rw [hx] at h3 h4 <;> simp only [isPtr] at h3 <;> first | (cases h3; done) | skip
   simp only [AR] at h4
   obtain ⟨k1, k2⟩ := h4
   have : (a.eval x).cells.toList = [a.eval x] := by
     cases hv : a.eval x <;> simp [Value.cells]
     exact absurd hv (k1 _)
   rwa [this] at k2
end
end Go.Proofs.YtjjjkojfijpeeaaGreat.Sy
end
section
namespace Go.Proofs.YtjjjkojfijpeeaaGreat.Sy
open Go
theorem flatten_replicate_get {α : Type} (l : List α) : ∀ (n i : Nat), i < n * l.length -> ((List.replicate n l).flatten)[i]? = l[i % l.length]?
 | 0, i, h => by omega
 | n + 1, i, h => by
   rw [List.replicate_succ, List.flatten_cons, List.getElem?_append]
   by_cases hi : i < l.length
   . rw [if_pos hi, Nat.mod_eq_of_lt hi]
   . rw [if_neg hi, flatten_replicate_get l n (i - l.length) (by rw [Nat.add_mul] at h; omega)]
     rw [<- Nat.mod_eq_sub_mod (by omega)]
theorem zeros_CRl {w : World} {S : Nat -> Nat -> Prop} {e : Ty} {zc : Array Value} {m : Nat} (hz : zeroB (zeroD e).flat zc.toList = true) (hs : zc.size = m) (n : Nat) :
   CRl w S (D.flats (List.replicate n (zeroD e))) ((Array.range (n * m)).map fun i => zc[i % zc.size]!).toList := by
 have h0 := zeroB_CRl (w := w) (S := S) hz
 have hl : (zeroD e).flat.length = m := by rw [h0.1]; simpa using hs
 refine ⟨by rw [flats_replicate]; simp [hl], fun i d c hd hc => ?_⟩
 rw [flats_replicate] at hd
 have hi : i < n * m := by have := (List.getElem?_eq_some_iff.1 hc).1; simpa using this
 rw [flatten_replicate_get _ _ _ (by rw [hl]; exact hi), hl] at hd
 have hm : 0 < m := by
   rcases Nat.eq_zero_or_pos m with h | h
   . subst h; omega
   . exact h
 have him : i % m < zc.size := by rw [hs]; exact Nat.mod_lt _ hm
 refine h0.2 (i % m) d c hd ?_
 simp only [Array.toList_map, List.getElem?_map, Array.toList_range, List.getElem?_range hi, Option.map_some, Option.some.injEq] at hc
 rw [<- hc, hs]
 simp [him]
section
variable {P : Program} {E : Env} {w0 : Root} {S : Nat -> Nat -> Prop} {γ : Nat -> Option Nat} {β : Nat -> Option (Nat × Nat)} {s : St} {a : Act} {w : World}
theorem row_new {c : Array Value} {t : TypeId} : row? (grown w [.cells c t] w.drawn) w.heap.size = some c := by
 rw [<- alloc_grown]; exact row?_alloc_new w _ rfl
theorem row_new' {c : Array Value} {t : TypeId} {d : Nat} : row? (grown w [.cells c t] d) w.heap.size = some c := by
 have := row_new (w := w) (c := c) (t := t)
 rw [show row? (grown w [.cells c t] d) w.heap.size = row? (grown w [.cells c t] w.drawn) w.heap.size from rfl]; exact this
theorem cell_new' {c : Array Value} {t : TypeId} {d : Nat} (j : Nat) : (grown w [.cells c t] d).cell? ⟨w.heap.size, j, none⟩ = c[j]? := cell_of_row _ row_new' j
theorem own_new (h : Rp w0 S γ β s a w) {v : Nat} (hv : β v = none) (hi : v < s.base + 4096) {e : Ty} (hn : noTup e = true) {l : List D} (hl : ∀ x ∈ l, wt e x) {cs : List Value} (hc : CRl w S (D.flats l) cs) {T : TypeId} {rest : List Value} {cap : Nat} (d : Nat) (hdr : w.drawn <= d) (hcap : l.length <= cap) (hrest : cs.length + rest.length = cap * e.size) :
   ∃ S' β', Rp w0 S' γ β' s a (grown w [.cells (cs ++ rest).toArray T] d) /\ AR ⟨grown w [.cells (cs ++ rest).toArray T] d, S', γ, β', s.ob, s.dead⟩ (.own e v l) (.slice (some ⟨w.heap.size, 0, none⟩) l.length cap) ∧
     (∀ b o, S b o -> S' b o) /\ (∀ u, u ≠ v -> β' u = β u) /\ β' v = some (w.heap.size, l.length * e.size) /\ (∀ b o, S' b o -> S b o \/ b = w.heap.size) := by
 let S' : Nat -> Nat -> Prop := fun b o => S b o \/ (b = w.heap.size /\ o < l.length * e.size)
 have hSz : ∀ b o, S' b o -> S b o \/ (w.heap.size <= b /\ b < (grown w [.cells (cs ++ rest).toArray T] d).heap.size) := fun b o hb => by
   rcases hb with hb | ⟨rfl, _⟩
   . exact .inl hb
   . exact .inr ⟨Nat.le_refl _, by simp⟩
 obtain ⟨h1, le1⟩ := h.grow (os := [.cells (cs ++ rest).toArray T]) (d := d) hdr (S' := S') (fun b o hb => .inl hb) hSz
 have hw0 : ¬ w0.Old w.heap.size := fun ho => by have := ho.1; have := h.ext.sz; omega
 obtain ⟨h2, le2⟩ := h1.newTok (v := v) (b := w.heap.size) (e := l.length * e.size) hv hw0 (by simp) (fun id hid => by have := (h.γn id _ hid).2; omega) (fun u f hu hf => by have := (h.βn u _ _ hu hf).2.1; omega) hi
   (fun o ho hs => hs.elim (fun hs => by have := h.Sb _ _ hs; omega) fun hs => by omega)
 refine ⟨S', upd β v (w.heap.size, l.length * e.size), h2, ?_, fun b o hb => .inl hb, fun u hu => upd_ne β _ hu, upd_same β _ _, fun b o hb => hb.imp id fun hh => hh.1⟩
 have hlen : cs.length = l.length * e.size := by rw [<- hc.1]; exact flats_len_of hn l hl
 simp only [AR, AC, Value.cells]
 refine ⟨by simp, hn, hl, _, cap, rfl, ?_, fun _ => .inr ⟨w.heap.size, 0, rfl, by simp [upd_same], (cs ++ rest).length, ?_, ?_⟩⟩
 . refine CR.of_elems (b := w.heap.size) (off := 0) (.inr rfl) hcap ⟨cs, hc.mono le1.cell le1.S, fun i c hci => ?_⟩
   have hi := (List.getElem?_eq_some_iff.1 hci).1
   refine ⟨.inr ⟨rfl, by omega⟩, ?_⟩
   rw [cell_new']
   simp only [List.getElem?_toArray, Nat.zero_add]
   rw [List.getElem?_append_left hi]; exact hci
 . simp [rsz, row_new']
 . simp; omega
theorem qv_buildSlice (hE : EnvOk P E) (h : Rp w0 S γ β s a w) {dst T n ps ty pos after guard} (hf : Fr E s γ β ⟨dst, .buildSlice T n ps, ty, pos, after, guard⟩) : QvOk P E w0 S γ β s a w ⟨dst, .buildSlice T n ps, ty, pos, after, guard⟩ := by
 intro R K r hq
 simp only [qv] at hq
 replace hq := bind_some_inv hq; obtain ⟨t, ht, hq⟩ := hq
 cases t <;> (try simp only at hq) <;> first | (cases hq; done) | skip
 rename_i e
 rcases hE.lay T _ ht with ⟨ts', hts⟩ | hl
 . cases hts
 have hn := layB_noTup _ _ hl
 simp only [noTup] at hn
 split at hq <;> first | (cases hq; done) | skip
 rename_i hn4
 replace hq := bind_some_inv hq; obtain ⟨d, hd, hq⟩ := hq
 replace hq := bind_some_inv hq; obtain ⟨l, hp, hq⟩ := hq
 obtain ⟨hd4, hγ, hβ, _⟩ := hf rfl d hd
 have hpv := partsD_ok h (ty := fun i => if i < n then some e else none) (fun i t hi => by split at hi <;> first | (cases hi; exact hn) | cases hi) _ _ hp
 obtain ⟨u, h1, h2⟩ := lay_sl hl
 obtain ⟨z, hz, hz2, _⟩ := zero_run h2
 obtain ⟨i0, z0, hi1, hi2, hi3, _⟩ := infoB_info (layB_info h2)
 have hzs : z.cells.size = e.size := by
   have := (zeroB_CRl (w := w) (S := S) hz2).1
   rw [<- Array.length_toList, <- this]; exact wt_len _ _ (zeroD_wt e hn) hn
 have hzero : CRl w S (D.flats (List.replicate n (zeroD e))) ((Array.range (n * e.size)).map fun i => z.cells[i % z.cells.size]!).toList := zeros_CRl hz2 hzs n
 obtain ⟨cs', m1, m2, m3⟩ := fill_ok (place := fun i => some (i * e.size, e.size)) (ty := fun i => if i < n then some e else none) (off := fun i => i * e.size) (Good := fun l => l.length = n /\ ∀ x ∈ l, wt e x) (fun l i t z hg hi hz => by
     split at hi <;> first | (cases hi; done) | skip
     have : e = t := by injection hi
     subst this
     refine ⟨by simpa using hg.1, fun x hx => ?_⟩
     rcases List.mem_or_eq_of_mem_set hx with h | h
     . exact hg.2 x h
     . rw [h]; exact hz) (fun l i t hg hi => by
     split at hi <;> first | (cases hi; done) | skip
     rename_i hin
     have : e = t := by injection hi
     subst this
     have hil : i < l.length := by rw [hg.1]; exact hin
     refine ⟨l[i], List.getElem?_eq_getElem hil, hg.2 _ (List.getElem_mem hil), ?_⟩
     rw [flats_len_of hn _ (fun x hx => hg.2 x (List.mem_of_mem_take hx)), List.length_take, Nat.min_eq_left (by omega)]) (fun i t hi => by
     split at hi <;> first | (cases hi; done) | skip
     have : e = t := by injection hi
     subst this
     rfl) l _ (List.replicate n (zeroD e)) _ ⟨by simp, fun x hx => by rw [(List.mem_replicate.1 hx).2]; exact zeroD_wt e hn⟩ hzero hpv
 obtain ⟨S', β', k1, k2, k3, k4, k5, _⟩ := own_new h (v := s.base + d) hβ (by omega) hn m2.2 m3 (T := u) (rest := []) (cap := n) w.drawn (Nat.le_refl _) (by rw [m2.1]; exact Nat.le_refl _) (by rw [List.length_nil, Nat.add_zero, <- m3.1, flats_len_of hn _ m2.2, m2.1])
 have hsz : ¬ n * e.size > 2 ^ 24 := by
   have : n * e.size <= 4096 * 4096 := Nat.mul_le_mul hn4 hi3.2
   omega
 have hmap : (ps.map fun p => (p.1, a.eval p.2)).toList = ps.toList.map fun p => (p.1, a.eval p.2) := by simp
 have hrun : (Instr.buildSlice T n (ps.map fun p => (p.1, a.eval p.2))).run P w = .ok (.slice (some ⟨w.heap.size, 0, none⟩) n n) (grown w [.cells cs'.toArray u] w.drawn) := by
   have key : ∀ zc : Array Value, ((Array.range (n * e.size)).map fun i => zc[i % zc.size]!) = ((Array.range (n * e.size)).map fun i => z.cells[i % z.cells.size]!) ->
       fillA (fun i => some (i * e.size, e.size)) ((Array.range (n * e.size)).map fun i => zc[i % zc.size]!) (ps.map fun p => (p.1, a.eval p.2)).toList = some cs'.toArray := fun zc hzc => by
     rw [hzc, hmap]; rw [Array.toArray_toList] at m1; exact m1
   by_cases h0 : n * e.size = 0
   . have k0 := key #[] (by simp [h0])
     simp only [Instr.buildSlice, Sem.run_bind, run_underlying h1, Result.andThen_ok, lay_size h2, hsz, if_false, if_pos h0, pure_bind, fill_eq, k0, newRow, run_newObj, Sem.run_pure]
     rw [<- alloc_grown]
     rfl
   . have k0 := key z.cells rfl
     simp only [Instr.buildSlice, Sem.run_bind, run_underlying h1, Result.andThen_ok, lay_size h2, hsz, if_false, if_neg h0, bind_pure_comp, Sem.run_map, hz, pure_bind, fill_eq, k0, newRow, run_newObj, Sem.run_pure]
     rw [<- alloc_grown]
     rfl
 have hex : execOp a.eval ⟨dst, .buildSlice T n ps, ty, pos, after, guard⟩ = (Instr.buildSlice T n (ps.map fun p => (p.1, a.eval p.2)) >>= fun v => pure (.value v)) := rfl
 rw [List.append_nil, m2.1] at *
 refine ⟨_, hq, .value (by rw [hex]; simp only [Sem.run_bind, hrun, Result.andThen_ok, Sem.run_pure]) ⟨S', γ, β', k1, k2, k3, ⟨_, _, rfl⟩, fun _ _ hh => hh, fun id hid => ⟨rfl, k4 id fun hh => ?_⟩⟩⟩
 subst hh
 rcases hid with hid | hid
 . rw [hd] at hid; exact hid (by rw [Nat.add_sub_cancel_left])
 . omega
end
end Go.Proofs.YtjjjkojfijpeeaaGreat.Sy
end
section
namespace Go.Proofs.YtjjjkojfijpeeaaGreat.Sy
open Go
mutual
theorem beq_eq : ∀ (x y : D), D.beq x y = true -> x = y
 | .int k n, y, h => by cases y <;> simp_all [D.beq]
 | .bool b, y, h => by cases y <;> simp_all [D.beq]
 | .str b, y, h => by cases y <;> simp_all [D.beq]
 | .st l, y, h => by
   cases y <;> simp only [D.beq] at h <;> first | (cases h; done) | skip
   rw [beqs_eq _ _ h]
 | .sl l, y, h => by cases y <;> simp [D.beq] at h
 | .tup l, y, h => by cases y <;> simp [D.beq] at h
theorem beqs_eq : ∀ (l l' : List D), D.beqs l l' = true -> l = l'
 | [], l', h => by cases l' <;> simp_all [D.beqs]
 | x :: l, l', h => by
   cases l' with
   | nil => simp [D.beqs] at h
   | cons y l' =>
     simp only [D.beqs, Bool.and_eq_true] at h
     rw [beq_eq _ _ h.1, beqs_eq _ _ h.2]
end
section
variable {P : Program} {E : Env} {w0 : Root} {S : Nat -> Nat -> Prop} {γ : Nat -> Option Nat} {β : Nat -> Option (Nat × Nat)} {s : St} {a : Act} {w : World}
theorem forIn_unit {α : Type} (g : α -> PUnit -> Sem (ForInStep PUnit)) {w : World} : ∀ (l : List α), (∀ x ∈ l, (g x ⟨⟩).run P w = .ok (.yield ⟨⟩) w) -> (forIn l PUnit.unit g).run P w = .ok ⟨⟩ w
 | [], _ => rfl
 | x :: l, h => by
   simp only [List.forIn_cons, Sem.run_bind, h x List.mem_cons_self, Result.andThen_ok]
   exact forIn_unit g l fun y hy => h y (List.mem_cons_of_mem _ hy)
theorem getMap_run {w : World} {b n : Nat} {es : Array MapEntry} (h : w.heap[b]? = some (.map es n)) : (getObj b).run P w = .ok (.map es n) w := by simp [getObj, Sem.run, h]
mutual
theorem checkKey_ok : ∀ (ty : Ty) (T : TypeId) (x : D) (cx : List Value) (vx : Value) (n : Nat) (e : Bool), layB P ty T = true -> cmpTy ty = true -> ty.high <= n -> wt ty x -> CRl w S x.flat cx -> isVal ty cx vx -> ∀ w', (Instr.checkKey e n T vx).run P w' = .ok () w'
 | .int k, T, x, cx, vx, n, e, hl, _, hd, hx, rx, ix, w' => by
   simp only [wt] at hx
   obtain ⟨m, rfl⟩ := hx
   obtain ⟨c1, rfl, r1⟩ := rx.single'
   rw [isVal_single ix rfl, r1.int_inv]
   obtain ⟨n, rfl⟩ : ∃ e, n = e + 1 := ⟨n - 1, by simp only [Ty.high] at hd; omega⟩
   simp only [Instr.checkKey, Sem.run_bind, run_underlying (lay_int hl), Result.andThen_ok, Sem.run_pure]
 | .bool, T, x, cx, vx, n, e, hl, _, hd, hx, rx, ix, w' => by
   simp only [wt] at hx
   obtain ⟨m, rfl⟩ := hx
   obtain ⟨c1, rfl, r1⟩ := rx.single'
   rw [isVal_single ix rfl, r1.bool_inv]
   obtain ⟨n, rfl⟩ : ∃ e, n = e + 1 := ⟨n - 1, by simp only [Ty.high] at hd; omega⟩
   have hu : P.underlying T = some .bool := by
     simp only [layB, Bool.and_eq_true] at hl
     have h2 := hl.2
     split at h2
     . rename_i hu; exact hu
     . cases h2
   simp only [Instr.checkKey, Sem.run_bind, run_underlying hu, Result.andThen_ok, Sem.run_pure]
 | .st ts, T, x, cx, vx, n, e, hl, hc, hd, hx, rx, ix, w' => by
   simp only [wt] at hx
   obtain ⟨l, rfl, hx⟩ := hx
   rw [isVal_agg ix rfl]
   obtain ⟨fs, h1, h2⟩ := lay_st hl
   simp only [Ty.high] at hd
   obtain ⟨n, rfl⟩ : ∃ e, n = e + 1 := ⟨n - 1, by omega⟩
   simp only [cmpTy] at hc
   simp only [D.flat] at rx
   simp only [Instr.checkKey, Sem.run_bind, run_underlying h1, Result.andThen_ok]
   rw [<- Array.forIn_toList, forIn_unit (P := P) (w := w')]
   . rfl
   . intro f hf
     have key := checkFields_ok ts fs.toList 0 l [] cx cx.toArray n e h2 hc (by omega) hx rx rfl rfl w' f hf
     by_cases hn : f.name ≠ "_"
     . rw [if_pos hn] at key ⊢
       simp only [Sem.run_bind] at key ⊢
       cases hp : (part f.type cx.toArray f.offset).run P w' with
       | ok v w2 =>
         rw [hp] at key
         simp only [Result.andThen_ok] at key ⊢
         rw [key]
         rfl
       | _ => rw [hp] at key; simp [Result.andThen] at key
     . rw [if_neg hn]
       rfl
 | .arr m t, T, x, cx, vx, n, e, hl, hc, hd, hx, rx, ix, w' => by
   simp only [wt] at hx
   obtain ⟨l, rfl, hxl, hx⟩ := hx
   rw [isVal_agg ix rfl]
   obtain ⟨u, h1, h2⟩ := lay_arr hl
   simp only [Ty.high] at hd
   obtain ⟨n, rfl⟩ : ∃ e, n = e + 1 := ⟨n - 1, by omega⟩
   simp only [cmpTy] at hc
   simp only [D.flat] at rx
   have hn := layB_noTup _ _ h2
   simp only [Instr.checkKey, Sem.run_bind, run_underlying h1, Result.andThen_ok]
   rw [Std.Legacy.Range.forIn_eq_forIn_range', forIn_unit (P := P) (w := w')]
   . rfl
   . intro j hj
     have hjn : j < m := by simp at hj; omega
     have e1 : l[j]? = some (l.getD j (.bool false)) := by simp [List.getD, List.getElem?_eq_getElem (hxl ▸ hjn)]
     generalize l.getD j (.bool false) = dx at *
     have wx := hx dx (List.mem_of_getElem? e1)
     have rx' := rx
     rw [flats_split e1] at rx'
     obtain ⟨p1, p2⟩ := rx'.split
     obtain ⟨p3, p4⟩ := p2.split
     have o1 : (cx.take (D.flats (l.take j)).length).length = j * t.size := by
       rw [<- p1.1, flats_len_of hn _ (fun x hx' => hx x (List.mem_of_mem_take hx')), List.length_take, Nat.min_eq_left (by omega)]
     obtain ⟨v1, r1, i1⟩ := run_part h2 (cs := cx.toArray) (pre := cx.take (D.flats (l.take j)).length) (mid := (cx.drop (D.flats (l.take j)).length).take dx.flat.length) (post := (cx.drop (D.flats (l.take j)).length).drop dx.flat.length)
         (by simp only [List.take_append_drop]) (by rw [<- p3.1]; exact wt_len _ _ wx hn) p3.nag w'
     rw [o1] at r1
     have r3 := checkKey_ok t u dx _ v1 n e h2 hc (by omega) wx p3 i1 w'
     simp only [Sem.run_bind, lay_size h2, Result.andThen_ok, r1, r3, Sem.run_pure]
 | .str, _, _, _, _, _, _, _, hc, _, _, _, _, _ => by simp [cmpTy] at hc
 | .sl _, _, _, _, _, _, _, _, hc, _, _, _, _, _ => by simp [cmpTy] at hc
 | .tup _, _, _, _, _, _, _, _, hc, _, _, _, _, _ => by simp [cmpTy] at hc
 | .fn, _, _, _, _, _, _, _, hc, _, _, _, _, _ => by simp [cmpTy] at hc
theorem checkFields_ok : ∀ (ts : List Ty) (fs : List Field) (off : Nat) (l : List D) (px cx : List Value) (xs : Array Value) (n : Nat) (e : Bool), fldB P ts fs off = true -> cmpTys ts = true -> Ty.highs ts <= n -> wts ts l -> CRl w S (D.flats l) cx ->
   xs.toList = px ++ cx -> px.length = off -> ∀ w', ∀ f ∈ fs, (if f.name ≠ "_" then (part f.type xs f.offset >>= fun v => Instr.checkKey e n f.type v) else pure ()).run P w' = .ok () w'
 | [], fs, off, l, px, cx, xs, n, e, hf, _, _, _, _, _, _, w' => by
   cases fs with
   | nil => intro f hf; cases hf
   | cons f fs => simp [fldB] at hf
 | t :: ts, [], off, l, px, cx, xs, n, e, hf, _, _, _, _, _, _, w' => by simp [fldB] at hf
 | t :: ts, f :: fs, off, l, px, cx, xs, n, e, hf, hc, hd, hx, rx, ex, lx, w' => by
   simp only [fldB, Bool.and_eq_true, decide_eq_true_eq] at hf
   obtain ⟨⟨⟨⟨h1, h2⟩, h3⟩, h4⟩, h5⟩ := hf
   simp only [wts] at hx
   obtain ⟨dx, l, rfl, hx1, hx2⟩ := hx
   simp only [D.flats] at rx
   obtain ⟨p3, p4⟩ := rx.split
   have hn := layB_noTup _ _ h4
   simp only [cmpTys, Bool.and_eq_true] at hc
   simp only [Ty.highs] at hd
   obtain ⟨v1, r1, i1⟩ := run_part h4 (cs := xs) (pre := px) (mid := cx.take dx.flat.length) (post := cx.drop dx.flat.length) (by rw [ex, List.take_append_drop]) (by rw [<- p3.1]; exact wt_len _ _ hx1 hn) p3.nag w'
   rw [lx, <- h1] at r1
   have r3 := checkKey_ok t f.type dx _ v1 n e h4 hc.1 (by omega) hx1 p3 i1 w'
   have hs1 : (cx.take dx.flat.length).length = t.size := by rw [<- p3.1]; exact wt_len _ _ hx1 hn
   have ih := checkFields_ok ts fs (off + t.size) l (px ++ cx.take dx.flat.length) (cx.drop dx.flat.length) xs n e h5 hc.2 (by omega) hx2 p4
     (by rw [List.append_assoc, List.take_append_drop]; exact ex) (by rw [List.length_append, lx, hs1]) w'
   intro g hg
   rcases List.mem_cons.1 hg with rfl | hg
   . rw [if_pos h2, Sem.run_bind, r1, Result.andThen_ok, r3]
   . exact ih g hg
end
def fnd : List D -> D -> List MapEntry -> Nat -> Option (Nat × Value)
 | .st [k, _] :: l, x, e :: es, i => if D.beq x k then some (i, e.val) else fnd l x es (i + 1)
 | _, _, _, _ => none
theorem findNow_ok {c : Cx} {kt vt : Ty} {T : TypeId} {x : D} {vx : Value} (hl : layB P kt T = true) (hc : cmpTy kt = true) (hx : wt kt x) (rx : DR0 c.w c.S x vx) {desc : TypeDesc} (hu : P.underlying T = some desc) : ∀ (l : List D) (es : List MapEntry) (j i : Nat) (r : Option (Nat × Value)), MpR c kt vt j l es -> Instr.findNow desc vx es i = some r -> r = fnd l x es i
 | [], [], j, i, r, _, h => by simp only [Instr.findNow, Option.some.injEq] at h; rw [<- h]; rfl
 | [], _ :: _, j, i, r, h, _ => h.elim
 | _ :: _, [], j, i, r, h, _ => h.elim
 | y :: l, e :: es, j, i, r, h, hr => by
   simp only [MpR] at h
   obtain ⟨⟨_, k, v, rfl, hk, hv, rk, rv⟩, h2⟩ := h
   simp only [Instr.findNow] at hr
   have key : ∀ b, Instr.sameNow desc vx e.key = some b -> b = D.beq x k := by
     intro b hb
     cases kt <;> simp only [wt] at hx hk
     case int kk =>
       obtain ⟨n, rfl⟩ := hx
       obtain ⟨m, rfl⟩ := hk
       rw [rx.int_inv, rk.int_inv] at hb
       rw [lay_int hl] at hu
       cases hu
       simp only [Instr.sameNow, if_true, Option.some.injEq] at hb
       rw [<- hb]
       simp [D.beq]
       rfl
     case bool =>
       obtain ⟨n, rfl⟩ := hx
       obtain ⟨m, rfl⟩ := hk
       rw [rx.bool_inv, rk.bool_inv] at hb
       simp only [layB, Bool.and_eq_true] at hl
       have h3 := hl.2
       rw [hu] at h3
       cases desc <;> simp at h3
       simp only [Instr.sameNow, Option.some.injEq] at hb
       rw [<- hb]
       rfl
     case st ts =>
       obtain ⟨fs, h3, _⟩ := lay_st hl
       rw [hu] at h3; cases h3
       simp [Instr.sameNow] at hb
     case arr m t =>
       obtain ⟨u, h3, _⟩ := lay_arr hl
       rw [hu] at h3; cases h3
       simp [Instr.sameNow] at hb
     all_goals simp [cmpTy] at hc
   cases hs : Instr.sameNow desc vx e.key with
   | none => rw [hs] at hr; simp at hr
   | some b =>
     rw [hs] at hr
     have := key b hs
     subst this
     cases hb : D.beq x k
     . rw [hb] at hr
       simp only at hr
       have := findNow_ok hl hc hx rx hu l es (j + 1) (i + 1) r h2 hr
       simp only [fnd, hb, Bool.false_eq_true, if_false]
       exact this
     . rw [hb] at hr
       simp only [Option.some.injEq] at hr
       simp only [fnd, hb, if_true]
       exact hr.symm
theorem findAsking_ok {c : Cx} {kt vt : Ty} {T : TypeId} {x : D} {vx : Value} (hl : layB P kt T = true) (hc : cmpTy kt = true) (hh : kt.high <= 1000) (hx : wt kt x) (rx : DR0 c.w c.S x vx) (w' : World) : ∀ (l : List D) (es : List MapEntry) (j i : Nat), MpR c kt vt j l es -> (Instr.findAsking T vx es i).run P w' = .ok (fnd l x es i) w'
 | [], [], j, i, _ => rfl
 | [], _ :: _, j, i, h => h.elim
 | _ :: _, [], j, i, h => h.elim
 | y :: l, e :: es, j, i, h => by
   simp only [MpR] at h
   obtain ⟨⟨_, k, v, rfl, hk, hv, rk, rv⟩, h2⟩ := h
   have hn := layB_noTup _ _ hl
   have i1 : isVal kt vx.cells.toList vx := ⟨rfl, wt_agg hx hn rx.1⟩
   have i2 : isVal kt e.key.cells.toList e.key := ⟨rfl, wt_agg hk hn rk.1⟩
   have r3 := equal_ok kt T x k _ _ _ _ 10000 hl hc (by omega) hx hk rx.2 rk.2 i1 i2 w'
   simp only [Instr.findAsking, Op.equal, Op.maxDepth, Sem.run_bind, r3, Result.andThen_ok, fnd]
   cases D.beq x k
   . simp only [Bool.false_eq_true, if_false]
     exact findAsking_ok hl hc hh hx rx w' l es (j + 1) (i + 1) h2
   . simp
theorem findKey_ok {c : Cx} {kt vt : Ty} {T : TypeId} {x : D} {vx : Value} (hl : layB P kt T = true) (hc : cmpTy kt = true) (hh : kt.high <= 1000) (hx : wt kt x) (rx : DR0 c.w c.S x vx) (w' : World) {l : List D} {es : List MapEntry} {j : Nat} (h : MpR c kt vt j l es) :
   (Instr.findKey T vx es).run P w' = .ok (fnd l x es 0) w' := by
 have hu : ∃ d, P.underlying T = some d := by
   cases kt <;> simp only [cmpTy] at hc <;> first | (cases hc; done) | skip
   . exact ⟨_, lay_int hl⟩
   . simp only [layB, Bool.and_eq_true] at hl
     have h2 := hl.2
     split at h2
     . rename_i hu; exact ⟨_, hu⟩
     . cases h2
   . obtain ⟨fs, h1, _⟩ := lay_st hl; exact ⟨_, h1⟩
   . obtain ⟨u, h1, _⟩ := lay_arr hl; exact ⟨_, h1⟩
 obtain ⟨d, hu⟩ := hu
 simp only [Instr.findKey, Sem.run_bind, run_underlying hu, Result.andThen_ok]
 split
 . rename_i r hr
   rw [findNow_ok hl hc hx rx hu l es j 0 r h hr]
   rfl
 . exact findAsking_ok hl hc hh hx rx w' l es j 0 h
theorem fnd_get {c : Cx} {kt vt : Ty} {x : D} : ∀ (l : List D) (es : List MapEntry) (j i : Nat), MpR c kt vt j l es ->
   match fnd l x es i with
   | none => D.mget l x = none
   | some (_, v) => ∃ d, D.mget l x = some d /\ wt vt d /\ DR0 c.w c.S d v
 | [], [], j, i, _ => rfl
 | [], _ :: _, j, i, h => h.elim
 | _ :: _, [], j, i, h => h.elim
 | y :: l, e :: es, j, i, h => by
   simp only [MpR] at h
   obtain ⟨⟨_, k, v, rfl, hk, hv, rk, rv⟩, h2⟩ := h
   simp only [fnd, D.mget]
   cases hb : D.beq x k
   . simp only [Bool.false_eq_true, if_false]
     exact fnd_get l es (j + 1) (i + 1) h2
   . simp only [if_true]
     exact ⟨v, rfl, hv, rv⟩
theorem qv_lookup (hE : EnvOk P E) (h : Rp w0 S γ β s a w) {dst T x i cok ty pos after guard} : QvOk P E w0 S γ β s a w ⟨dst, .lookup T x i cok, ty, pos, after, guard⟩ := by
 intro R K r hq
 simp only [qv] at hq
 replace hq := bind_some_inv hq; obtain ⟨kv, hkv, hq⟩ := hq
 obtain ⟨kt0, vt0⟩ := kv
 have hx := opA_ok h x
 generalize s.opA x = ax at *
 cases ax <;> (try simp only at hq) <;> first | (cases hq; done) | skip
 rename_i kt vt id
 split at hq <;> first | (cases hq; done) | skip
 rename_i hb
 simp only [Bool.and_eq_true] at hb
 have e1 := Ty.eq_of_beq _ _ hb.1
 have e2 := Ty.eq_of_beq _ _ hb.2
 subst e1; subst e2
 split at hq <;> first | (cases hq; done) | skip
 rename_i kt' vt' l hob
 split at hq <;> first | (cases hq; done) | skip
 rename_i hb2
 simp only [Bool.and_eq_true] at hb2
 have e1 := Ty.eq_of_beq _ _ hb2.1
 have e2 := Ty.eq_of_beq _ _ hb2.2
 subst e1; subst e2
 replace hq := bind_some_inv hq; obtain ⟨ix, hix, hq⟩ := hq
 split at hq <;> first | (cases hq; done) | skip
 rename_i hb3
 have hi := opA_ok h i
 rw [isD_inv hix, Ty.eq_of_beq _ _ hb3] at hi
 obtain ⟨hc, KT, VT, hu, hlk, hlv, hh⟩ := hE.mapL T _ _ hkv
 have hnk := layB_noTup _ _ hlk
 have hnv := layB_noTup _ _ hlv
 obtain ⟨k1, k2⟩ := AR_d hi hnk
 simp only [AR, AC] at hx
 obtain ⟨na, b, hcs, hγ, _, _, _⟩ := hx
 have hv := cells_single na hcs
 have hO := h.obs id _ b hob hγ
 simp only [ObR] at hO
 obtain ⟨_, _, _, es, hes, hM⟩ := hO
 have i1 : isVal kt' (a.eval i).cells.toList (a.eval i) := ⟨rfl, wt_agg k1 hnk k2.1⟩
 have rc := checkKey_ok (S := S) (w := w) kt' KT ix.2 _ _ 10000 es.isEmpty hlk hc (by omega) k1 k2.2 i1 w
 have rf := findKey_ok (P := P) hlk hc hh k1 k2 w hM
 have rg := fnd_get (x := ix.2) l es.toList 0 0 hM
 obtain ⟨z, hz1, hz2, hz3⟩ := zero_run hlv
 have hzAR : wt vt' (zeroD vt') /\ DR0 w S (zeroD vt') z := by
   have wz := zeroD_wt vt' hnv
   refine ⟨wz, ?_⟩
   have hAC : AC ⟨w, S, γ, β, s.ob, s.dead⟩ (.d vt' (zeroD vt')) z.cells.toList := by simp only [AC]; exact ⟨wz, hnv, zeroB_CRl hz2⟩
   have iv : isVal vt' z.cells.toList z := ⟨rfl, fun ha => (hz3.2 ha), fun ha xs e => by have := hz3.1 ⟨xs, e⟩; rw [ha] at this; cases this⟩
   exact (AR_d (AC_AR (fits_d_refl _ _) hAC iv) hnv).2
 have run : ∃ v d, (D.mget l ix.2).getD (zeroD vt') = d /\ wt vt' d /\ DR0 w S d v /\ (execOp a.eval ⟨dst, .lookup T x i cok, ty, pos, after, guard⟩).run P w = .ok (.value (if cok then .tuple #[v, .bool (D.mget l ix.2).isSome] else v)) w := by
   have hex : (execOp a.eval ⟨dst, .lookup T x i cok, ty, pos, after, guard⟩) = (Instr.lookup T (a.eval x) (a.eval i) cok >>= fun v => pure (.value v)) := rfl
   rw [hex, hv]
   cases hf : fnd l ix.2 es.toList 0 with
   | none =>
     rw [hf] at rg rf
     simp only at rg
     refine ⟨z, zeroD vt', by rw [rg]; rfl, hzAR.1, hzAR.2, ?_⟩
     simp only [Instr.lookup, Sem.run_bind, run_underlying hu, Result.andThen_ok, getMap_run hes, Sem.run_pure, rc, rf, hz1, rg]
     rfl
   | some p =>
     obtain ⟨n, v⟩ := p
     rw [hf] at rg rf
     simp only at rg
     obtain ⟨d, g1, g2, g3⟩ := rg
     refine ⟨v, d, by rw [g1]; rfl, g2, g3, ?_⟩
     simp only [Instr.lookup, Sem.run_bind, run_underlying hu, Result.andThen_ok, getMap_run hes, Sem.run_pure, rc, rf, g1]
     rfl
 obtain ⟨v, d, r1, r2, r3, r4⟩ := run
 rw [r1] at hq
 cases cok with
 | false =>
   simp only at hq
   simp only [Bool.false_eq_true, if_false] at r4
   exact ⟨_, hq, .value r4 (Qp.same h (AR_of_d hnv r2 r3) _)⟩
 | true =>
   simp only at hq
   simp only [if_true] at r4
   refine ⟨_, hq, .value r4 (Qp.same h ?_ _)⟩
   simp only [AR]
   refine .inr ⟨_, rfl, by simp [noTups, hnv, noTup], ?_, ?_⟩
   . simp only [wt, wts]
     exact ⟨_, rfl, d, _, rfl, r2, _, _, rfl, ⟨_, rfl⟩, rfl⟩
   . refine ⟨[v, .bool (D.mget l ix.2).isSome], rfl, rfl, fun i dd u h1 h2 => ?_⟩
     rcases i with _ | _ | i
     . simp at h1 h2; subst h1; subst h2; exact r3
     . simp at h1 h2; subst h1; subst h2; exact DR0.of_CR (.bool _)
     . simp at h1
end
end Go.Proofs.YtjjjkojfijpeeaaGreat.Sy
end
section
namespace Go.Proofs.YtjjjkojfijpeeaaGreat.Sy
open Go
section
variable {P : Program} {E : Env} {w0 : Root} {S : Nat -> Nat -> Prop} {γ : Nat -> Option Nat} {β : Nat -> Option (Nat × Nat)} {s : St} {a : Act} {w : World}
theorem qv_alloc (hE : EnvOk P E) (h : Rp w0 S γ β s a w) {dst T ty pos after guard} (hf : Fr E s γ β ⟨dst, .alloc T, ty, pos, after, guard⟩) (hT : ∀ t, E.L T = some t -> noTup t = true) : QvOk P E w0 S γ β s a w ⟨dst, .alloc T, ty, pos, after, guard⟩ := by
 intro R K r hq
 simp only [qv] at hq
 replace hq := bind_some_inv hq; obtain ⟨t, ht, hq⟩ := hq
 replace hq := bind_some_inv hq; obtain ⟨d, hd, hq⟩ := hq
 obtain ⟨hd4, hγ, hβ, hob⟩ := hf rfl d hd
 have hob := hob T t rfl ht
 have hn := hT t ht
 have hl := layB_of hE ht hn
 obtain ⟨z, hz, hz2, _⟩ := zero_run hl
 obtain ⟨h1, le1⟩ := h.grow (os := [.cells z.cells T]) (d := w.drawn) (Nat.le_refl _) (S' := S) (fun _ _ hb => hb) (fun _ _ hb => .inl hb)
 have hw0 : ¬ w0.Old w.heap.size := fun ho => by have := ho.1; have := h.ext.sz; omega
 have hlen : z.cells.toList.length = t.size := by
   rw [<- (zeroB_CRl (w := w) (S := S) hz2).1]; exact wt_len _ _ (zeroD_wt t hn) hn
 obtain ⟨h2, le2⟩ := h1.newOb (id := s.base + d) (b := w.heap.size) hγ hw0 (by simp) (fun id hid => by have := (h.γn id _ hid).2; omega) (fun u f hu hf => by have := (h.βn u _ _ hu hf).2.1; omega) (by omega)
   (fun o ho => by
     rw [hob] at ho; cases ho
     simp only [ObR]
     exact ⟨hn, zeroA_fits t hn, fun o ho => by have := h.Sb _ _ ho; omega, z.cells.toList, by rw [Array.toArray_toList]; exact row_new, zeroA_AC t _ hn hz2, hlen⟩)
 refine ⟨_, hq, .value (v := .pointer (some ⟨w.heap.size, 0, none⟩)) (w' := grown w [.cells z.cells T] w.drawn) (by
   rw [<- alloc_grown]
   simp only [execOp, Instr.alloc, newVar, newRow, Sem.run_bind, hz, Result.andThen_ok, run_newObj, Sem.run_pure]
   rfl) ⟨S, _, β, h2, AR_ptr_mk (upd_same _ _ _) (fun o ho => ?_), fun _ _ hb => hb, ⟨_, _, rfl⟩, fun id b hb => upd_le hγ hb, fun id hid => ⟨upd_ne _ _ fun hh => ?_, rfl⟩⟩⟩
 . have ho' : s.ob (s.base + d) = some o := ho
   have : o = .one t (zeroA t) := by rw [hob] at ho'; cases ho'; rfl
   subst this
   exact ⟨by cases t <;> rfl, by cases t <;> rfl⟩
 . subst hh
   rcases hid with hid | hid
   . rw [hd] at hid; exact hid (by rw [Nat.add_sub_cancel_left])
   . omega
theorem asList_len {c : Cx} {e : Ty} {y : AV} {v : Value} {l : List D} {ob : Nat -> Option Ob} (hn : noTup e = true) (h : AR c y v) (hl : y.asList ob e = some l) : ∃ a cap, v = .slice a l.length cap := by
 obtain ⟨_, h2⟩ := asList_ok hn h hl
 obtain ⟨a, cap, b, off, hv, _⟩ := h2.elems
 exact ⟨a, cap, hv⟩
theorem run_slice_ok {T : TypeId} {e : Ty} (hl : layB P (.sl e) T = true) {A : Option Addr} {len cap lo hi : Nat} {vlo vhi : Option Value} (h1 : lo <= hi) (h2 : hi <= len) (h3 : len <= cap)
   (hlo : (vlo = none /\ lo = 0) \/ ∃ k, vlo = some (.int k lo)) (hhi : (vhi = none /\ hi = len) \/ ∃ k, vhi = some (.int k hi)) (w : World) :
   (Instr.sliceAt T (.slice A len cap) vlo vhi none).run P w = .ok (.slice (if cap = lo then A else A.map (·.add (lo * e.size))) (hi - lo) (cap - lo)) w := by
 obtain ⟨u, k1, k2⟩ := lay_sl hl
 have e1 : (0 : Int) <= (hi : Int) /\ (hi : Int) <= (cap : Int) := by omega
 have e2 : (0 : Int) <= (lo : Int) /\ (lo : Int) <= (hi : Int) := by omega
 have hb : (Instr.sliceBounds true len cap vlo vhi none).run P w = .ok (lo, hi, cap) w := by
   rcases hlo with ⟨rfl, rfl⟩ | ⟨k, rfl⟩ <;> rcases hhi with ⟨rfl, rfl⟩ | ⟨k', rfl⟩ <;>
     simp only [Instr.sliceBounds, Instr.sliceBound, asIntOf, pure_bind, Sem.run_bind, Sem.run_pure, Sem.run_ite, Result.andThen_ok, e1, e2, and_self, if_true, Int.toNat_natCast]
 simp only [Instr.sliceAt, Sem.run_bind, run_underlying k1, Result.andThen_ok, Instr.slice, hb, lay_size k2, Sem.run_pure]
theorem run_sliceAt_arr {T : TypeId} {m : Nat} {e : Ty} (hl : layB P (.arr m e) T = true) {b off lo hi : Nat} {vlo vhi : Option Value} (h1 : lo <= hi) (h2 : hi <= m) (h3 : lo < m)
   (hlo : (vlo = none /\ lo = 0) \/ ∃ k, vlo = some (.int k lo)) (hhi : (vhi = none /\ hi = m) \/ ∃ k, vhi = some (.int k hi)) (w : World) :
   (Instr.sliceAt T (.pointer (some ⟨b, off, none⟩)) vlo vhi none).run P w = .ok (.slice (some ⟨b, off + lo * e.size, none⟩) (hi - lo) (m - lo)) w := by
 obtain ⟨u, k1, k2⟩ := lay_arr hl
 have e1 : (0 : Int) <= (hi : Int) /\ (hi : Int) <= (m : Int) := by omega
 have e2 : (0 : Int) <= (lo : Int) /\ (lo : Int) <= (hi : Int) := by omega
 have e3 : ¬ m = lo := by omega
 have hb : (Instr.sliceBounds false m m vlo vhi none).run P w = .ok (lo, hi, m) w := by
   rcases hlo with ⟨rfl, rfl⟩ | ⟨k, rfl⟩ <;> rcases hhi with ⟨rfl, rfl⟩ | ⟨k', rfl⟩ <;>
     simp only [Instr.sliceBounds, Instr.sliceBound, asIntOf, pure_bind, Sem.run_bind, Sem.run_pure, Sem.run_ite, Result.andThen_ok, e1, e2, and_self, if_true, Int.toNat_natCast]
 simp only [Instr.sliceAt, Sem.run_bind, run_underlying k1, Result.andThen_ok, run_sureAddr, hb, lay_size k2, Sem.run_pure, e3, if_false, add_none]
theorem CR_cut {w : World} {S : Nat -> Nat -> Prop} {e : Ty} {l : List D} {v : Value} {lo hi : Nat} (hn : noTup e = true) (hw : ∀ x ∈ l, wt e x) (h : CR w S (.sl l) v) (h1 : lo <= hi) (h2 : hi <= l.length) :
   ∃ A cap, v = .slice A l.length cap /\ l.length <= cap /\ CR w S (.sl ((l.take hi).drop lo)) (.slice (if cap = lo then A else A.map (·.add (lo * e.size))) (hi - lo) (cap - lo)) := by
 obtain ⟨A, cap, b, off, hv, k1, k2, k3⟩ := h.elems
 refine ⟨A, cap, hv, k2, ?_⟩
 have hlen : ((l.take hi).drop lo).length = hi - lo := by simp; omega
 rw [<- hlen]
 have e1 : l = l.take lo ++ ((l.take hi).drop lo ++ l.drop hi) := by
   rw [<- List.append_assoc, show l.take lo = (l.take hi).take lo by rw [List.take_take, Nat.min_eq_left h1], List.take_append_drop, List.take_append_drop]
 rw [e1, flats_append, flats_append] at k3
 have k4 := k3.part
 rw [flats_len_of hn _ (fun x hx => hw x (List.mem_of_mem_take hx)), List.length_take, Nat.min_eq_left (by omega)] at k4
 refine CR.of_elems (b := b) (off := off + lo * e.size) ?_ (by rw [hlen]; omega) k4
 by_cases he : (l.take hi).drop lo = []
 . exact .inl he
 . right
   have hne : 0 < hi - lo := by rw [<- hlen]; exact List.length_pos_iff.2 he
   rw [if_neg (by omega)]
   rcases k1 with rfl | rfl
   . simp at h2; omega
   . simp only [Option.map_some, add_none]
theorem qv_slice (hE : EnvOk P E) (h : Rp w0 S γ β s a w) {dst T x lo hi mx ty pos after guard} : QvOk P E w0 S γ β s a w ⟨dst, .slice T x lo hi mx, ty, pos, after, guard⟩ := by
 intro R K r hq
 simp only [qv] at hq
 split at hq <;> first | (cases hq; done) | skip
 replace hq := bind_some_inv hq; obtain ⟨t, ht, hq⟩ := hq
 have num : ∀ {i : Operand} {n : Nat}, ((isD (s.opA i)).bind fun a => a.2.natOf) = some n -> ∃ k, a.eval i = .int k n := by
   intro i n hh
   obtain ⟨p, h1, h2⟩ := bind_some_inv hh
   obtain ⟨kk, h3⟩ := natOf_inv h2
   have h4 := opA_ok h i
   rw [isD_inv h1, h3] at h4
   exact ⟨kk, (AR_int h4).1⟩
 cases t <;> (try simp only at hq) <;> first | (cases hq; done) | skip
 case arr m e =>
   rcases hE.lay T _ ht with ⟨ts', hts⟩ | hl
   . cases hts
   have hn := layB_noTup _ _ hl
   simp only [noTup] at hn
   have hx := opA_ok h x
   generalize s.opA x = y at *
   cases y <;> (try simp only at hq) <;> first | (cases hq; done) | skip
   rename_i t' id p
   split at hq <;> first | (cases hq; done) | skip
   rename_i hb
   have := Ty.eq_of_beq _ _ hb; subst this
   replace hq := bind_some_inv hq; obtain ⟨lo', hlo, hq⟩ := hq
   replace hq := bind_some_inv hq; obtain ⟨hi', hhi, hq⟩ := hq
   split at hq <;> first | (cases hq; done) | skip
   rename_i hbd
   obtain ⟨b, off, hv, hγ, hob⟩ := AR_ptr hx
   have hlo2 : ((lo.map a.eval) = none /\ lo' = 0) \/ ∃ k, (lo.map a.eval) = some (.int k lo') := by
     cases lo with
     | none => simp at hlo; exact .inl ⟨rfl, hlo.symm⟩
     | some i => obtain ⟨k, hk⟩ := num hlo; exact .inr ⟨k, by simp [hk]⟩
   have hhi2 : ((hi.map a.eval) = none /\ hi' = m) \/ ∃ k, (hi.map a.eval) = some (.int k hi') := by
     cases hi with
     | none => simp at hhi; exact .inl ⟨rfl, hhi.symm⟩
     | some i => obtain ⟨k, hk⟩ := num hhi; exact .inr ⟨k, by simp [hk]⟩
   have hrun := run_sliceAt_arr hl (b := b) (off := off) hbd.1 hbd.2.1 hbd.2.2 hlo2 hhi2 w
   refine ⟨_, hq, .value (v := .slice (some ⟨b, off + lo' * e.size, none⟩) (hi' - lo') (m - lo')) (w' := w) (by simp only [execOp, Option.map_none, hv, Sem.run_bind, hrun, Result.andThen_ok, Sem.run_pure]) (Qp.same h ?_ _)⟩
   simp only [AR, AC, Value.cells]
   refine ⟨by simp, hn, b, off + lo' * e.size, m - lo', rfl, hγ, fun o ho => ?_⟩
   obtain ⟨k1, k2⟩ := hob o ho
   exact ⟨m, k1, by omega, by rw [k2]⟩
 rename_i e
 rcases hE.lay T _ ht with ⟨ts', hts⟩ | hl
 . cases hts
 have hn := layB_noTup _ _ hl
 simp only [noTup] at hn
 replace hq := bind_some_inv hq; obtain ⟨l, hlist, hq⟩ := hq
 replace hq := bind_some_inv hq; obtain ⟨lo', hlo, hq⟩ := hq
 replace hq := bind_some_inv hq; obtain ⟨hi', hhi, hq⟩ := hq
 replace hq := bind_some_inv hq; obtain ⟨l', hl', hq⟩ := hq
 simp only [D.cut] at hl'
 split at hl' <;> first | (cases hl'; done) | skip
 rename_i hb
 simp only [Option.some.injEq] at hl'
 subst hl'
 obtain ⟨k1, k2⟩ := asList_ok hn (opA_ok h x) hlist
 obtain ⟨A, cap, hv, hcap, k3⟩ := CR_cut hn k1 k2 hb.1 hb.2
 have hlo2 : ((lo.map a.eval) = none /\ lo' = 0) \/ ∃ k, (lo.map a.eval) = some (.int k lo') := by
   cases lo with
   | none => simp at hlo; exact .inl ⟨rfl, hlo.symm⟩
   | some i => obtain ⟨k, hk⟩ := num hlo; exact .inr ⟨k, by simp [hk]⟩
 have hhi2 : ((hi.map a.eval) = none /\ hi' = l.length) \/ ∃ k, (hi.map a.eval) = some (.int k hi') := by
   cases hi with
   | none => simp at hhi; exact .inl ⟨rfl, hhi.symm⟩
   | some i => obtain ⟨k, hk⟩ := num hhi; exact .inr ⟨k, by simp [hk]⟩
 have hrun := run_slice_ok hl (A := A) (len := l.length) (cap := cap) hb.1 hb.2 hcap hlo2 hhi2 w
 have hw : wt (.sl e) (.sl ((l.take hi').drop lo')) := by simp only [wt]; exact ⟨_, rfl, fun x hx => k1 x (List.mem_of_mem_take (List.mem_of_mem_drop hx))⟩
 exact ⟨_, hq, .value (w' := w) (by simp only [execOp, Option.map_none, hv, Sem.run_bind, hrun, Result.andThen_ok, Sem.run_pure]) (Qp.same h (AR_of_d (by simpa [noTup] using hn) hw (DR0.of_CR k3)) _)⟩
theorem qv_arrp (hE : EnvOk P E) (h : Rp w0 S γ β s a w) {dst T x ty pos after guard} : QvOk P E w0 S γ β s a w ⟨dst, .sliceToArrayPointer T x, ty, pos, after, guard⟩ := by
 intro R K r hq
 simp only [qv] at hq
 replace hq := bind_some_inv hq; obtain ⟨t, ht, hq⟩ := hq
 have hx := opA_ok h x
 generalize s.opA x = y at *
 cases t <;> (try simp only at hq) <;> first | (cases hq; done) | skip
 rename_i n e
 cases y <;> (try simp only at hq) <;> first | (cases hq; done) | skip
 rename_i sl e' id p lo n'
 split at hq <;> first | (cases hq; done) | skip
 rename_i hb
 simp only [Bool.and_eq_true, decide_eq_true_eq] at hb
 obtain ⟨⟨hb1, hb2⟩, hb3⟩ := hb
 subst hb1
 have := Ty.eq_of_beq _ _ hb2; subst this
 rcases hE.lay T _ ht with ⟨ts', hts⟩ | hl
 . cases hts
 obtain ⟨u, hu, _⟩ := lay_arr hl
 simp only [AR, AC, if_true] at hx
 obtain ⟨hna, hne, b, off, cap, hcs, hγ, hob⟩ := hx
 have hv := cells_single hna hcs
 have hlt : ¬ n' < n := by omega
 refine ⟨_, hq, .value (v := .pointer (some ⟨b, off, none⟩)) (w' := w) (by simp only [execOp, hv, Instr.arrayAt, Sem.run_bind, run_underlying hu, Result.andThen_ok, hlt, if_false, Sem.run_pure]) (Qp.same h ?_ _)⟩
 simp only [AR, AC, Value.cells]
 refine ⟨by simp, hne, b, off, 0, rfl, hγ, fun o ho => ?_⟩
 obtain ⟨m, k1, k2, k3⟩ := hob o ho
 exact ⟨m, k1, by omega, k3⟩
theorem toDl_vals (h : Rp w0 S γ β s a w) : ∀ (ts : List Ty) (l : List Operand) (xs : List D), noTups ts = true -> AV.toDl s.ob ts (l.map s.opA) = some xs ->
   wts ts xs /\ (l.map a.eval).length = xs.length /\ ∀ (i : Nat) (x : D) (v : Value), xs[i]? = some x -> (l.map a.eval)[i]? = some v -> DR0 w S x v
 | ts, [], xs, _, hx => by
   cases ts <;> simp only [List.map_nil, AV.toDl] at hx <;> first | (cases hx; done) | skip
   simp only [Option.some.injEq] at hx
   subst hx
   exact ⟨by simp [wts], rfl, fun i x v hx => by simp at hx⟩
 | ts, y :: l, xs, hn, hx => by
   cases ts <;> simp only [List.map_cons, AV.toDl] at hx <;> first | (cases hx; done) | skip
   rename_i t ts
   obtain ⟨x, h1, h2⟩ := bind_some_inv hx
   obtain ⟨ys, h3, h4⟩ := bind_some_inv h2
   simp only [Option.some.injEq] at h4
   subst h4
   simp only [noTups, Bool.and_eq_true] at hn
   obtain ⟨k1, k2⟩ := AR_toD hn.1 (opA_ok h y) h1
   obtain ⟨k3, k4, k5⟩ := toDl_vals h ts l ys hn.2 h3
   refine ⟨by simp only [wts]; exact ⟨x, ys, rfl, k1, k3⟩, by simpa using k4, fun i z v hz hv => ?_⟩
   cases i with
   | zero => simp at hz hv; subst hz; subst hv; exact k2
   | succ i => simp only [List.getElem?_cons_succ, List.map_cons] at hz hv; exact k5 i z v hz hv
theorem qv_call (hE : EnvOk P E) (h : Rp w0 S γ β s a w) {dst c ty pos after guard} : QvOk P E w0 S γ β s a w ⟨dst, .call c, ty, pos, after, guard⟩ := by
 intro R K r hq
 obtain ⟨callee, args, argTypes⟩ := c
 simp only [qv] at hq
 split at hq <;> first | (cases hq; done) | skip
 case h_1 =>
   replace hq := bind_some_inv hq; obtain ⟨T, hT, hq⟩ := hq
   replace hq := bind_some_inv hq; obtain ⟨t, ht, hq⟩ := hq
   replace hq := bind_some_inv hq; obtain ⟨x, hx, hq⟩ := hq
   have hx' : (args.map a.eval)[0]? = some (a.eval x) := by simp [hx]
   have hex : execOp a.eval ⟨dst, .call ⟨.builtin .len, args, argTypes⟩, ty, pos, after, guard⟩ = (Builtin.len_ argTypes ty (args.map a.eval) >>= fun v => pure (.value v)) := rfl
   cases t <;> (try simp only at hq) <;> first | (cases hq; done) | skip
   case sl e =>
     rcases hE.lay T _ ht with ⟨ts', hts⟩ | hl
     . cases hts
     have hn := layB_noTup _ _ hl
     simp only [noTup] at hn
     obtain ⟨u, k1, _⟩ := lay_sl hl
     have run : ∀ {A : Option Addr} {n cap : Nat}, a.eval x = .slice A n cap -> (execOp a.eval ⟨dst, .call ⟨.builtin .len, args, argTypes⟩, ty, pos, after, guard⟩).run P w = .ok (.value (.int .i64 n)) w := by
       intro A n cap hv
       rw [hex]
       simp [Builtin.len_, hT, hx', run_underlying k1, hv, goInt]
     by_cases hm : ∃ t' id, s.opA x = .mem t' id
     . obtain ⟨t', id, hm⟩ := hm
       have hx2 := opA_ok h x
       rw [hm] at hq hx2
       simp only at hq
       split at hq <;> first | (cases hq; done) | skip
       split at hq <;> first | (cases hq; done) | skip
       rename_i u' l hob
       obtain ⟨_, b, hγ, hob2⟩ := AR_mem hx2
       obtain ⟨l', e1, hv⟩ := hob2 _ hob
       cases e1
       exact ⟨_, hq, .value (run hv) (Qp.same h (AR_mk_int _ _) _)⟩
     . have hq' : ((s.opA x).asList s.ob e).bind (fun l => K (.d (.int .i64) (.int .i64 l.length))) = some r := by
         revert hq hm
         generalize s.opA x = y
         intro hq hm
         cases y <;> first | exact hq | exact absurd ⟨_, _, rfl⟩ hm
       obtain ⟨l, h1, hq⟩ := bind_some_inv hq'
       obtain ⟨A, cap, hv⟩ := asList_len hn (opA_ok h x) h1
       exact ⟨_, hq, .value (run hv) (Qp.same h (AR_mk_int _ _) _)⟩
   case arr n e =>
     rcases hE.lay T _ ht with ⟨ts', hts⟩ | hl
     . cases hts
     obtain ⟨u, k1, _⟩ := lay_arr hl
     exact ⟨_, hq, .value (v := .int .i64 n) (w' := w) (by rw [hex]; simp [Builtin.len_, hT, hx', run_underlying k1, goInt]) (Qp.same h (AR_mk_int _ _) _)⟩
 case h_2 =>
   split at hq <;> first | (cases hq; done) | skip
   rename_i x y he
   have he' : (args.map a.eval).toList = [a.eval x, a.eval y] := by simp [he]
   replace hq := bind_some_inv hq; obtain ⟨p, hp, hq⟩ := hq
   replace hq := bind_some_inv hq; obtain ⟨q, hqq, hq⟩ := hq
   split at hq <;> first | (cases hq; done) | skip
   replace hq := bind_some_inv hq; obtain ⟨z, hz, hq⟩ := hq
   have h1 := opA_ok h x
   have h2 := opA_ok h y
   rw [isD_inv hp] at h1
   rw [isD_inv hqq] at h2
   cases hp2 : p.2 <;> rw [hp2] at hz h1 <;> cases hq2 : q.2 <;> rw [hq2] at hz h2 <;> simp only [D.min2] at hz <;> first | (cases hz; done) | skip
   rename_i k n k' m
   simp only [Option.some.injEq] at hz
   subst hz
   obtain ⟨v1, t1⟩ := AR_int h1
   obtain ⟨v2, _⟩ := AR_int h2
   have hex : execOp a.eval ⟨dst, .call ⟨.builtin .min, args, argTypes⟩, ty, pos, after, guard⟩ = (Builtin.min_ argTypes ty (args.map a.eval) >>= fun v => pure (.value v)) := rfl
   refine ⟨_, hq, .value (v := .int k (if m < n then m else n)) (w' := w) ?_ (Qp.same h (by rw [t1]; exact AR_mk_int _ _) _)⟩
   rw [hex]
   simp [Builtin.min_, he, v1, v2, Builtin.min2]
 case h_3 =>
   split at hq <;> first | (cases hq; done) | skip
   rename_i x y he
   have he' : (args.map a.eval).toList = [a.eval x, a.eval y] := by simp [he]
   replace hq := bind_some_inv hq; obtain ⟨p, hp, hq⟩ := hq
   replace hq := bind_some_inv hq; obtain ⟨q, hqq, hq⟩ := hq
   split at hq <;> first | (cases hq; done) | skip
   replace hq := bind_some_inv hq; obtain ⟨z, hz, hq⟩ := hq
   have h1 := opA_ok h x
   have h2 := opA_ok h y
   rw [isD_inv hp] at h1
   rw [isD_inv hqq] at h2
   cases hp2 : p.2 <;> rw [hp2] at hz h1 <;> cases hq2 : q.2 <;> rw [hq2] at hz h2 <;> simp only [D.max2] at hz <;> first | (cases hz; done) | skip
   rename_i k n k' m
   simp only [Option.some.injEq] at hz
   subst hz
   obtain ⟨v1, t1⟩ := AR_int h1
   obtain ⟨v2, _⟩ := AR_int h2
   have hex : execOp a.eval ⟨dst, .call ⟨.builtin .max, args, argTypes⟩, ty, pos, after, guard⟩ = (Builtin.max_ argTypes ty (args.map a.eval) >>= fun v => pure (.value v)) := rfl
   refine ⟨_, hq, .value (v := .int k (if m > n then m else n)) (w' := w) ?_ (Qp.same h (by rw [t1]; exact AR_mk_int _ _) _)⟩
   rw [hex]
   simp [Builtin.max_, he, v1, v2, Builtin.max2]
 case h_4 f =>
   replace hq := bind_some_inv hq; obtain ⟨g, hg, hq⟩ := hq
   replace hq := bind_some_inv hq; obtain ⟨xs, hxs, hq⟩ := hq
   replace hq := bind_some_inv hq; obtain ⟨y, hy, hq⟩ := hq
   obtain ⟨ptys, rty⟩ := g
   obtain ⟨n1, n2, fn, f1, f2, f3⟩ := hE.sig f ptys rty hg
   obtain ⟨k1, k2, k3⟩ := toDl_vals h ptys args.toList xs n1 hxs
   have hc := hE.call f ptys rty xs y hg hy k1 w S (args.toList.map a.eval) h.Sb k1 k2 k3
   refine ⟨_, hq, .enter (f := f) (args := (args.toList.map a.eval).toArray) (w' := w) ?_ (hc.mono fun e w' ⟨v, he, ⟨os, d, hdr0, hw'⟩, hwt, hdr⟩ => ⟨v, he, ?_⟩)⟩
   . have hb : fn.body.isNone = false := by cases hb : fn.body <;> simp [hb] at f3 ⊢
     have hm : args.map a.eval = (args.toList.map a.eval).toArray := Array.ext' (by simp)
     have f2' : ¬ fn.name = "runtime.NumGoroutine" := by simpa using f2
     have hb' : ¬ fn.body = none := by intro hh; rw [hh] at hb; cases hb
     simp [execOp, resolve, Act.eval, Deferred.ofValue, invoke, callFunc, f1, f2', hb', hm]
   . subst hw'
     obtain ⟨h1, le1⟩ := h.grow (os := os) (d := d) hdr0 (S' := fun b o => S b o \/ (w.heap.size <= b /\ b < (grown w os d).heap.size)) (fun _ _ hb => .inl hb) (fun _ _ hb => hb)
     refine ⟨_, γ, β, h1, ?_, fun _ _ hb => .inl hb, ⟨os, d, rfl⟩, fun _ _ hb => hb, fun _ _ => ⟨rfl, rfl⟩⟩
     simp only [AR]
     rcases n2 with n2 | ⟨ts, rfl, n2⟩
     . refine .inl ⟨n2, hwt, ?_⟩
       cases rty <;> simp only [wt] at hwt <;> first
         | (obtain ⟨m, rfl⟩ := hwt; exact hdr)
         | (obtain ⟨m, rfl, _⟩ := hwt; exact hdr)
         | (exact hwt.elim)
         | (simp [noTup] at n2)
     . exact .inr ⟨ts, rfl, n2, hwt, hdr⟩
theorem qv_ok (hE : EnvOk P E) (h : Rp w0 S γ β s a w) {o : Oper} (hf : Fr E s γ β o) (hT : ∀ T t, o.op = .alloc T -> E.L T = some t -> noTup t = true) : QvOk P E w0 S γ β s a w o := by
 obtain ⟨dst, op, ty, pos, after, guard⟩ := o
 cases op
 case move x => exact qv_move h
 case assign x => exact qv_assign h
 case pick c x y => exact qv_pick h
 case alloc T => exact qv_alloc hE h hf (fun t => hT T t rfl)
 case load T x => exact qv_load hE h
 case lookup T x i c => exact qv_lookup hE h
 case fieldAddr T x f => exact qv_fieldAddr hE h
 case indexAddr T x i => exact qv_indexAddr hE h
 case field T x f => exact qv_field hE h
 case index T x f => exact qv_index hE h
 case binOp op T x y T' => exact qv_binOp hE h
 case unOp op T x => exact qv_unOp h
 case convert U T x => exact qv_convert hE h
 case build T ps => exact qv_build hE h
 case buildSlice T n ps => exact qv_buildSlice hE h hf
 case extract x i => exact qv_extract h
 case nilCheck x => exact qv_nilCheck h
 case slice T x lo hi mx => exact qv_slice hE h
 case sliceToArrayPointer T x => exact qv_arrp hE h
 case makeFunc fn x y => exact qv_makeFunc h
 case call c => exact qv_call hE h
 all_goals (intro R K r hq; simp only [qv] at hq; cases hq)
end
end Go.Proofs.YtjjjkojfijpeeaaGreat.Sy
end
section
namespace Go.Proofs.YtjjjkojfijpeeaaGreat.Sy
open Go
theorem ext_of {w0 : Root} {w w' : World} (h : Ext w0 w) (ht : w'.tape = w.tape) (ho : w'.os = w.os) (hu : w'.output = w.output) (hs : w.heap.size <= w'.heap.size) (hd : w.drawn <= w'.drawn) (hh : ∀ b, w0.Old b -> w'.heap[b]? = w.heap[b]?) : Ext w0 w' :=
 ⟨ht.trans h.tape, ho.trans h.os, hu.trans h.output, Nat.le_trans h.sz hs, Nat.le_trans h.dr hd, fun b hb => (hh b hb).trans (h.old b hb)⟩
theorem heap_putAt {w : World} {b b' off : Nat} {cs : Array Value} (h : b' ≠ b) : (putAt w b off cs).heap[b']? = w.heap[b']? := by
 simp only [putAt, Array.getElem?_modify]
 rw [if_neg (Ne.symm h)]
theorem row_putAt {w : World} {b off : Nat} {c cs : Array Value} (h : row? w b = some c) : row? (putAt w b off cs) b = some (splice c off cs) := by
 unfold row? at h ⊢
 split at h <;> first | (cases h; done) | skip
 rename_i hb
 simp only [Option.some.injEq] at h
 subst h
 simp only [putAt, Array.getElem?_modify, if_true, hb, Option.map_some]
theorem row_putAt_ne {w : World} {b b' off : Nat} {cs : Array Value} (h : b' ≠ b) : row? (putAt w b off cs) b' = row? w b' := by
 simp only [row?, heap_putAt h]
theorem cell_putAt_ne {w : World} {b b' off o : Nat} {cs : Array Value} (h : b' ≠ b) : (putAt w b off cs).cell? ⟨b', o, none⟩ = w.cell? ⟨b', o, none⟩ := by
 simp only [World.cell?, heap_putAt h]
theorem rsz_putAt {w : World} {b b' off : Nat} {c cs : Array Value} (h : row? w b = some c) (hs : off + cs.size <= c.size) : rsz (putAt w b off cs) b' = rsz w b' := by
 by_cases e : b' = b
 . subst e
   simp only [rsz, row_putAt h, h, Option.map_some, splice_size _ _ _ hs]
 . simp only [rsz, row_putAt_ne e]
theorem Fm.refl (s : St) (S : Nat -> Nat -> Prop) (γ : Nat -> Option Nat) (a : Act) (w : World) : Fm s S γ a w S γ a w :=
 ⟨fun _ _ h => h, fun _ _ _ => rfl, fun _ _ => rfl, fun _ _ _ h => ⟨h, rfl⟩, Nat.le_refl _, fun _ _ h => h⟩
theorem Fm.trans {s s1 : St} {S S1 S2 : Nat -> Nat -> Prop} {γ γ1 γ2 : Nat -> Option Nat} {a a1 a2 : Act} {w w1 w2 : World} (h : Fm s S γ a w S1 γ1 a1 w1) (k : Fm s1 S1 γ1 a1 w1 S2 γ2 a2 w2) (e1 : s1.lkS = s.lkS) (e2 : s1.lkO = s.lkO) : Fm s S γ a w S2 γ2 a2 w2 :=
 ⟨fun b o hb => k.sub b o (h.sub b o hb), fun b o hb => (k.cell b o (h.sub b o hb)).trans (h.cell b o hb), fun t ht => (k.slots t (e1 ▸ ht)).trans (h.slots t ht),
   fun id hid b hb => by
     obtain ⟨h1, h2⟩ := h.objs id hid b hb
     obtain ⟨k1, k2⟩ := k.objs id (e2 ▸ hid) b h1
     exact ⟨k1, k2.trans h2⟩, Nat.le_trans h.sz k.sz, fun id b hb => k.gam id b (h.gam id b hb)⟩
theorem put_slot {a : Act} {dst : Option Nat} {v : Value} {t : Nat} (h : dst ≠ some t) : (a.put dst v).tmps.getD t undef = a.tmps.getD t undef := by
 cases dst with
 | none => rfl
 | some d =>
   have hd : d ≠ t := fun e => h (by rw [e])
   simp only [Act.put]
   by_cases ht : t < a.tmps.size
   . simp [Array.getD, ht, Array.getElem_setIfInBounds_ne ht hd]
   . simp [Array.getD, ht]
def Ev1 (P : Program) (w0 : Root) (S : Nat -> Nat -> Prop) (γ : Nat -> Option Nat) (β : Nat -> Option (Nat × Nat)) (s : St) (a : Act) (w : World) (o : Oper) (s' : St) : Prop :=
 s'.lkS = s.lkS /\ s'.lkO = s.lkO /\ s'.fresh = s.fresh /\ s'.nt = s.nt /\ (∀ id, γ id = none -> o.dst ≠ some (id - s.base) \/ id < s.base -> s'.ob id = s.ob id) ∧
 OpOk P o a w fun val w' => ∃ S' γ' β', Rp w0 S' γ' β' s' (a.put o.dst val) w' /\ Fm s S γ a w S' γ' (a.put o.dst val) w' /\ (∀ id, o.dst ≠ some (id - s.base) \/ id < s.base -> γ' id = γ id /\ β' id = β id)
section
variable {P : Program} {E : Env} {w0 : Root} {S : Nat -> Nat -> Prop} {γ : Nat -> Option Nat} {β : Nat -> Option (Nat × Nat)} {s : St} {a : Act} {w : World}
theorem St.put_fields (s : St) (d : Option Nat) (v : AV) : (s.put d v).ob = s.ob /\ (s.put d v).fresh = s.fresh /\ (s.put d v).dead = s.dead /\ (s.put d v).nt = s.nt /\ (s.put d v).lkS = s.lkS /\ (s.put d v).lkO = s.lkO /\ (s.put d v).base = s.base := by
 cases d with
 | none => exact ⟨rfl, rfl, rfl, rfl, rfl, rfl, rfl⟩
 | some d => simp only [St.put]; split <;> exact ⟨rfl, rfl, rfl, rfl, rfl, rfl, rfl⟩
theorem grown_old {os : List Obj} {d b : Nat} (h : b < w.heap.size) : (grown w os d).heap[b]? = w.heap[b]? := grown_heap_old w os d h
theorem ev1_quiet (hE : EnvOk P E) (h : Rp w0 S γ β s a w) {o : Oper} (hf : Fr E s γ β o) (hT : ∀ T t, o.op = .alloc T -> E.L T = some t -> noTup t = true) (hlk : ∀ t ∈ s.lkS, o.dst ≠ some t) {R : Type} {K : St -> Option R} {r : R} (hq : qv E s o (fun v => K (s.put o.dst v)) = some r) :
   ∃ s', K s' = some r /\ Ev1 P w0 S γ β s a w o s' := by
 obtain ⟨v, h1, h2⟩ := qv_ok hE h hf hT R _ r hq
 obtain ⟨p1, p2, p3, p4, p5, p6, p7⟩ := St.put_fields s o.dst v
 refine ⟨_, h1, p5, p6, p2, p4, fun id _ _ => by rw [p1], h2.mono fun val w' ⟨S', γ', β', k1, k2, k3, ⟨os, d, k4⟩, k5, k6⟩ => ?_⟩
 subst k4
 exact ⟨S', γ', β', k1.put k2 o.dst, ⟨k3, fun b o hb => cell_grown (h.Sb b o hb), fun t ht => put_slot (hlk t ht), fun id hid b hb => ⟨k5 id b hb, grown_old (h.γn id b hb).2⟩, by simp, k5⟩, k6⟩
theorem Rp.write (h : Rp w0 S γ β s a w) {id b off : Nat} {o o' : Ob} {c cs : Array Value} (ho : s.ob id = some o) (hγ : γ id = some b) (hS : ∀ o, ¬ S b o) (hr : row? w b = some c) (hs : off + cs.size <= c.size)
   (hty : ∀ p, obTy o' p = obTy o p /\ obOff o' p = obOff o p) (hmany : ∀ t l, o = .many t l -> ∃ l', o' = .many t l' /\ l'.length = l.length) (hmp : ∀ kt vt l, o ≠ .mp kt vt l)
   (hob : ObR ⟨putAt w b off cs, S, γ, β, (s.setOb id (some o')).ob, s.dead⟩ b o') :
   Rp w0 S γ β (s.setOb id (some o')) a (putAt w b off cs) /\ Cx.le ⟨w, S, γ, β, s.ob, s.dead⟩ ⟨putAt w b off cs, S, γ, β, (s.setOb id (some o')).ob, s.dead⟩ := by
 have hbS : ∀ b' o, S b' o -> b' ≠ b := fun b' o hb e => hS o (e ▸ hb)
 have hle : Cx.le ⟨w, S, γ, β, s.ob, s.dead⟩ ⟨putAt w b off cs, S, γ, β, (s.setOb id (some o')).ob, s.dead⟩ := by
   refine ⟨fun b' o hb => cell_putAt_ne (hbS b' o hb), fun _ _ hb => hb, fun _ _ hb => hb, fun i x hx _ => ?_, fun v hv => ⟨hv, fun b' e he => ⟨he, fun n hn => by rw [rsz_putAt hr hs]; exact hn⟩⟩⟩
   simp only [St.setOb] at hx
   by_cases e : i = id
   . subst e
     simp only [if_true, Option.some.injEq] at hx
     subst hx
     exact ⟨o, ho, hty, hmany, fun kt vt l e => absurd e (hmp kt vt l)⟩
   . rw [if_neg e] at hx
     exact ⟨x, hx, fun p => ⟨rfl, rfl⟩, fun t l e => ⟨l, e, rfl⟩, fun _ _ l e => ⟨l, e⟩⟩
 refine ⟨⟨ext_of h.ext rfl rfl rfl (by simp) (Nat.le_refl _) (fun b' hb' => heap_putAt (fun e => (h.γn id b hγ).1 (e ▸ hb'))), fun t ht => (h.tms t ht).mono hle, h.nt, h.tmu, fun i x b' hx hb' => ?_, fun i b' hb' => by simpa using h.γn i b' hb', h.γi, h.γf,
   fun v b' e hv he => by simpa using h.βn v b' e hv he, h.βi, h.βγ, h.βf, fun b' o hb => by simpa using h.Sb b' o hb, h.So, h.df⟩, hle⟩
 simp only [St.setOb] at hx
 by_cases e : i = id
 . subst e
   simp only [if_true, Option.some.injEq] at hx
   subst hx
   rw [hγ] at hb'; cases hb'
   exact hob
 . rw [if_neg e] at hx
   have hne : b' ≠ b := fun e' => e (h.γi i id b' hb' (e' ▸ hγ))
   exact (h.obs i x b' hx hb').mono hle (heap_putAt hne) fun _ hh => hh
theorem ev1_store (hE : EnvOk P E) (h : Rp w0 S γ β s a w) {dst T x y ty pos after guard} (hlk : ∀ t ∈ s.lkS, dst ≠ some t) {R : Type} {K : St -> Option R} {r : R} (hd : dst = none)
   (hq : ev1 E s ⟨dst, .store T x y, ty, pos, after, guard⟩ K = some r) : ∃ s', K s' = some r /\ Ev1 P w0 S γ β s a w ⟨dst, .store T x y, ty, pos, after, guard⟩ s' := by
 subst hd
 simp only [ev1] at hq
 replace hq := bind_some_inv hq; obtain ⟨t, ht, hq⟩ := hq
 have hx := opA_ok h x
 have hy := opA_ok h y
 generalize s.opA x = ax at *
 cases ax <;> (try simp only at hq) <;> first | (cases hq; done) | skip
 rename_i t' id p
 split at hq <;> first | (cases hq; done) | skip
 rename_i hb
 simp only [Bool.and_eq_true, Bool.not_eq_true'] at hb
 obtain ⟨⟨hb1, hb2⟩, hb3⟩ := hb
 have := Ty.eq_of_beq _ _ hb1; subst this
 have hlo : id ∉ s.lkO := by
   intro hh
   have : s.lkO.contains id = true := by simpa using hh
   rw [this] at hb3; cases hb3
 obtain ⟨b, off, hv, hγ, hob⟩ := AR_ptr hx
 split at hq <;> first | (cases hq; done) | skip
 . -- a variable
   rename_i u v hov
   obtain ⟨k1, rfl⟩ := hob _ hov
   have hO := h.obs id _ b hov hγ
   simp only [ObR] at hO
   obtain ⟨o1, o2, o3, cs, o4, o5, o6⟩ := hO
   simp only [obTy] at k1
   have hn := pathTy_noTup p o1 k1
   have hl := layB_of hE ht hn
   obtain ⟨y1, y2⟩ := AR_AC hb2 hn hy
   obtain ⟨v', pre, mid, post, m1, rfl, m2, m3, m4, m5⟩ := setA_ok p o2 o1 k1 o5 y1 hb2 hq
   obtain ⟨y3, y4⟩ := AC_len _ _ _ hb2 y1
   have hr := run_store_ok hl (w := w) (b := b) (off := pathOff u p) o4 y2 y3 y4 (by simp only [List.size_toArray, List.length_append]; omega)
   have hsz : pathOff u p + (a.eval y).cells.toList.toArray.size <= (pre ++ (mid ++ post)).toArray.size := by simp only [List.size_toArray, List.length_append, Array.length_toList] at *; omega
   have hle0 : ObR ⟨putAt w b (pathOff u p) (a.eval y).cells.toList.toArray, S, γ, β, (s.setOb id (some (.one u v'))).ob, s.dead⟩ b (.one u v') := by
     have hbS : ∀ b' o, S b' o -> b' ≠ b := fun b' o hb e => o3 o (e ▸ hb)
     have hle : Cx.le ⟨w, S, γ, β, s.ob, s.dead⟩ ⟨putAt w b (pathOff u p) (a.eval y).cells.toList.toArray, S, γ, β, (s.setOb id (some (.one u v'))).ob, s.dead⟩ := by
       refine ⟨fun b' o hb => cell_putAt_ne (hbS b' o hb), fun _ _ hb => hb, fun _ _ hb => hb, fun i z hz _ => ?_, fun v hv => ⟨hv, fun b' e he => ⟨he, fun n hn => by rw [rsz_putAt o4 hsz]; exact hn⟩⟩⟩
       simp only [St.setOb] at hz
       by_cases e : i = id
       . subst e
         simp only [if_true, Option.some.injEq] at hz
         subst hz
         exact ⟨_, hov, fun p => ⟨rfl, rfl⟩, (fun t l e => by cases e), fun _ _ l e => by cases e⟩
       . rw [if_neg e] at hz
         exact ⟨z, hz, fun p => ⟨rfl, rfl⟩, fun t l e => ⟨l, e, rfl⟩, fun _ _ l e => ⟨l, e⟩⟩
     simp only [ObR]
     refine ⟨o1, m5, o3, pre ++ ((a.eval y).cells.toList ++ post), ?_, AC.mono hle _ _ m4, (AC_len _ _ _ m5 m4).1⟩
     rw [row_putAt o4, <- m2, splice_list pre mid post _ m3]
   obtain ⟨n1, n2⟩ := h.write (o' := .one u v') hov hγ o3 o4 hsz (fun p => ⟨rfl, rfl⟩) (fun t l e => by cases e) (fun _ _ _ e => by cases e) hle0
   refine ⟨_, m1, rfl, rfl, rfl, rfl, fun i hi _ => ?_, .skip (w' := putAt w b (pathOff u p) (a.eval y).cells.toList.toArray) ?_ ⟨S, γ, β, n1, ?_, fun _ _ => ⟨rfl, rfl⟩⟩⟩
   . simp only [St.setOb]; rw [if_neg]; intro e; subst e; have hγ' : γ i = some b := hγ; rw [hγ'] at hi; cases hi
   . simp only [execOp, hv, Sem.run_bind, obOff, hr, Result.andThen_ok, Sem.run_pure]
   . exact ⟨fun _ _ hb => hb, fun b' o hb => cell_putAt_ne (fun e => o3 o (e ▸ hb)), fun _ _ => rfl, fun i hi b' hb' => ⟨hb', heap_putAt fun e => hlo ((h.γi id i b hγ (e ▸ hb')) ▸ hi)⟩, by simp, fun _ _ hb => hb⟩
 . -- an element of a slice
   rename_i u l hov
   cases p with
   | nil => simp only at hq; cases hq
   | cons i p =>
     simp only at hq
     replace hq := bind_some_inv hq; obtain ⟨z, hz, hq⟩ := hq
     replace hq := bind_some_inv hq; obtain ⟨y', hy', hq⟩ := hq
     replace hq := bind_some_inv hq; obtain ⟨z', hz', hq⟩ := hq
     obtain ⟨k1, rfl⟩ := hob _ hov
     have hO := h.obs id _ b hov hγ
     simp only [ObR] at hO
     obtain ⟨o1, o2, o3, cs, o4, o5⟩ := hO
     simp only [obTy] at k1
     have hn := pathTy_noTup p o1 k1
     have hl := layB_of hE ht hn
     obtain ⟨y1, y2⟩ := AR_AC hb2 hn hy
     obtain ⟨y3, y4⟩ := AC_len _ _ _ hb2 y1
     obtain ⟨q1, q2, _⟩ := toD_ok _ _ _ _ hy' y1
     obtain ⟨s1, A, C, B, s2, s3, s4, s5⟩ := set_flat p (o2 z (List.mem_of_getElem? hz)) o1 k1 hz' q1
     have hi := (List.getElem?_eq_some_iff.1 hz).1
     have e0 : (D.flats (l.take i)).length = i * u.size := by
       rw [flats_len_of o1 _ (fun x hx => o2 x (List.mem_of_mem_take hx)), List.length_take, Nat.min_eq_left (Nat.le_of_lt hi)]
     rw [flats_split hz, s2, show D.flats (l.take i) ++ (A ++ (C ++ B) ++ D.flats (l.drop (i + 1))) = (D.flats (l.take i) ++ A) ++ (C ++ (B ++ D.flats (l.drop (i + 1)))) by simp [List.append_assoc]] at o5
     obtain ⟨c1, c2⟩ := o5.split
     obtain ⟨c3, c4⟩ := c2.split
     generalize hpre : cs.take (D.flats (l.take i) ++ A).length = pre at *
     generalize hrest : cs.drop (D.flats (l.take i) ++ A).length = rest at *
     have ecs : cs = pre ++ (rest.take C.length ++ rest.drop C.length) := by rw [<- hpre, List.take_append_drop, <- hrest, List.take_append_drop]
     have lpre : pre.length = i * u.size + pathOff u p := by rw [<- c1.1, List.length_append, e0, s4]
     have lmid : (rest.take C.length).length = (a.eval y).cells.toList.length := by rw [<- c3.1, s5, y3]
     subst ecs
     have hr := run_store_ok hl (w := w) (b := b) (off := i * u.size + pathOff u p) o4 y2 y3 y4 (by simp only [List.size_toArray, List.length_append]; omega)
     have hsz : i * u.size + pathOff u p + (a.eval y).cells.toList.toArray.size <= (pre ++ (rest.take C.length ++ rest.drop C.length)).toArray.size := by simp only [List.size_toArray, List.length_append, Array.length_toList] at *; omega
     have hnew : ObR ⟨putAt w b (i * u.size + pathOff u p) (a.eval y).cells.toList.toArray, S, γ, β, (s.setOb id (some (.many u (l.set i z')))).ob, s.dead⟩ b (.many u (l.set i z')) := by
       have hbS : ∀ b' o, S b' o -> b' ≠ b := fun b' o hb e => o3 o (e ▸ hb)
       simp only [ObR]
       refine ⟨o1, fun x hx => ?_, o3, pre ++ ((a.eval y).cells.toList ++ rest.drop C.length), ?_, ?_⟩
       . rcases List.mem_or_eq_of_mem_set hx with hx | hx
         . exact o2 x hx
         . rw [hx]; exact s1
       . rw [row_putAt o4, <- lpre, splice_list pre _ _ _ lmid]
       . rw [flats_set hz, s3, show D.flats (l.take i) ++ (A ++ (y'.flat ++ B) ++ D.flats (l.drop (i + 1))) = (D.flats (l.take i) ++ A) ++ (y'.flat ++ (B ++ D.flats (l.drop (i + 1)))) by simp [List.append_assoc]]
         exact (c1.append (q2.append c4)).mono (fun b' o hb => cell_putAt_ne (hbS b' o hb)) fun _ _ hh => hh
     obtain ⟨n1, n2⟩ := h.write (o' := .many u (l.set i z')) hov hγ o3 o4 hsz (fun p => by cases p <;> exact ⟨rfl, rfl⟩) (fun t l' e => by cases e; exact ⟨_, rfl, by simp⟩) (fun _ _ _ e => by cases e) hnew
     refine ⟨_, hq, rfl, rfl, rfl, rfl, fun j hj _ => ?_, .skip (w' := putAt w b (i * u.size + pathOff u p) (a.eval y).cells.toList.toArray) ?_ ⟨S, γ, β, n1, ?_, fun _ _ => ⟨rfl, rfl⟩⟩⟩
     . simp only [St.setOb]; rw [if_neg]; intro e; subst e; have hγ' : γ j = some b := hγ; rw [hγ'] at hj; cases hj
     . simp only [execOp, hv, Sem.run_bind, obOff, hr, Result.andThen_ok, Sem.run_pure]
     . exact ⟨fun _ _ hb => hb, fun b' o hb => cell_putAt_ne (fun e => o3 o (e ▸ hb)), fun _ _ => rfl, fun j hj b' hb' => ⟨hb', heap_putAt fun e => hlo ((h.γi id j b hγ (e ▸ hb')) ▸ hj)⟩, by simp, fun _ _ hb => hb⟩
end
end Go.Proofs.YtjjjkojfijpeeaaGreat.Sy
end
section
namespace Go.Proofs.YtjjjkojfijpeeaaGreat.Sy
open Go
section
variable {P : Program} {E : Env} {w0 : Root} {S : Nat -> Nat -> Prop} {γ : Nat -> Option Nat} {β : Nat -> Option (Nat × Nat)} {s : St} {a : Act} {w : World}
theorem Rp.setFree (h : Rp w0 S γ β s a w) {id : Nat} (hid : γ id = none) (o : Option Ob) : Rp w0 S γ β (s.setOb id o) a w /\ Cx.le ⟨w, S, γ, β, s.ob, s.dead⟩ ⟨w, S, γ, β, (s.setOb id o).ob, s.dead⟩ := by
 have hle : Cx.le ⟨w, S, γ, β, s.ob, s.dead⟩ ⟨w, S, γ, β, (s.setOb id o).ob, s.dead⟩ := by
   refine ⟨fun _ _ _ => rfl, fun _ _ k => k, fun _ _ k => k, fun i x hx ⟨b, hb⟩ => ?_, fun v hv => ⟨hv, fun b e he => ⟨he, fun n hn => hn⟩⟩⟩
   simp only [St.setOb] at hx
   by_cases e : i = id
   . subst e
     have hb' : γ i = some b := hb
     rw [hid] at hb'; cases hb'
   . rw [if_neg e] at hx
     exact ⟨x, hx, fun p => ⟨rfl, rfl⟩, fun t l e => ⟨l, e, rfl⟩, fun _ _ l e => ⟨l, e⟩⟩
 refine ⟨⟨h.ext, fun t ht => (h.tms t ht).mono hle, h.nt, h.tmu, fun i x b hx hb => ?_, h.γn, h.γi, h.γf, h.βn, h.βi, h.βγ, h.βf, h.Sb, h.So, h.df⟩, hle⟩
 simp only [St.setOb] at hx
 by_cases e : i = id
 . subst e; rw [hid] at hb; cases hb
 . rw [if_neg e] at hx
   exact (h.obs i x b hx hb).mono hle rfl fun _ k => k
theorem setOb_get (s : St) (id : Nat) (o : Option Ob) : (s.setOb id o).ob id = o := by simp [St.setOb]
theorem setOb_ne (s : St) {id i : Nat} (o : Option Ob) (h : i ≠ id) : (s.setOb id o).ob i = s.ob i := by simp [St.setOb, h]
theorem Rp.make (h : Rp w0 S γ β s a w) {id : Nat} (hid : γ id = none) (hi : id < s.base + 4096) {c : Array Value} {T : TypeId} {o : Ob} (d : Nat) (hdr : w.drawn <= d)
   (ho : ObR ⟨grown w [.cells c T] d, S, upd γ id w.heap.size, β, (s.setOb id (some o)).ob, s.dead⟩ w.heap.size o) :
   Rp w0 S (upd γ id w.heap.size) β (s.setOb id (some o)) a (grown w [.cells c T] d) /\ Cx.le ⟨w, S, γ, β, s.ob, s.dead⟩ ⟨grown w [.cells c T] d, S, upd γ id w.heap.size, β, (s.setOb id (some o)).ob, s.dead⟩ := by
 obtain ⟨h1, le1⟩ := h.grow (os := [.cells c T]) (d := d) hdr (S' := S) (fun _ _ hb => hb) (fun _ _ hb => .inl hb)
 obtain ⟨h2, le2⟩ := h1.setFree hid (some o)
 have hw0 : ¬ w0.Old w.heap.size := fun ho => by have := ho.1; have := h.ext.sz; omega
 obtain ⟨h3, le3⟩ := h2.newOb (id := id) (b := w.heap.size) hid hw0 (by simp) (fun i hi => by have := (h.γn i _ hi).2; omega) (fun u f hu hf => by have := (h.βn u _ _ hu hf).2.1; omega) hi (fun x hx => by
   rw [setOb_get] at hx; cases hx; exact ho)
 refine ⟨h3, ⟨fun b o hb => le1.cell b o hb, fun _ _ hb => hb, fun i b hb => upd_le hid hb, fun i x hx hb => ?_, fun v hv => ⟨hv, fun b e he => ⟨he, fun n hn => by
   have := le1.β v hv; exact (this.2 b e he).2 n hn⟩⟩⟩⟩
 obtain ⟨b, hb⟩ := hb
 exact le2.ob i x hx ⟨b, hb⟩
theorem ev1_box (hE : EnvOk P E) (h : Rp w0 S γ β s a w) {dst T x ty pos after guard} (hf : Fr E s γ β ⟨dst, .box T x, ty, pos, after, guard⟩) (hlk : ∀ t ∈ s.lkS, dst ≠ some t) {R : Type} {K : St -> Option R} {r : R} (hT : ∀ t, E.L T = some t -> noTup t = true)
   (hq : ev1 E s ⟨dst, .box T x, ty, pos, after, guard⟩ K = some r) : ∃ s', K s' = some r /\ Ev1 P w0 S γ β s a w ⟨dst, .box T x, ty, pos, after, guard⟩ s' := by
 simp only [ev1] at hq
 replace hq := bind_some_inv hq; obtain ⟨t, ht, hq⟩ := hq
 replace hq := bind_some_inv hq; obtain ⟨d, hd, hq⟩ := hq
 split at hq <;> first | (cases hq; done) | skip
 rename_i hfit
 obtain ⟨hd4, hγ, hβ, _⟩ := hf rfl d hd
 have hn := hT t ht
 obtain ⟨k1, k2⟩ := AR_AC hfit hn (opA_ok h x)
 obtain ⟨k3, _⟩ := AC_len _ _ _ hfit k1
 have hle : Cx.le ⟨w, S, γ, β, s.ob, s.dead⟩ ⟨grown w [.cells (a.eval x).cells T] w.drawn, S, upd γ (s.base + d) w.heap.size, β, (s.setOb (s.base + d) (some (.one t (s.opA x)))).ob, s.dead⟩ := by
   refine ⟨fun b o hb => cell_grown (h.Sb b o hb), fun _ _ hb => hb, fun i b hb => upd_le hγ hb, fun i z hz ⟨b, hb⟩ => ?_, fun v hv => ⟨hv, fun b e he => ⟨he, fun n hn => by rw [rsz_grown (h.βn v b e hv he).2.1]; exact hn⟩⟩⟩
   by_cases e : i = s.base + d
   . subst e; have hb' : γ (s.base + d) = some b := hb; rw [hγ] at hb'; cases hb'
   . have hz' : s.ob i = some z := by rw [<- hz]; exact (setOb_ne s _ e).symm
     exact ⟨z, hz', fun p => ⟨rfl, rfl⟩, fun t l e => ⟨l, e, rfl⟩, fun _ _ l e => ⟨l, e⟩⟩
 obtain ⟨h1, le1⟩ := h.make (id := s.base + d) hγ (by omega) (c := (a.eval x).cells) (T := T) (o := .one t (s.opA x)) w.drawn (Nat.le_refl _) (by
   simp only [ObR]
   exact ⟨hn, hfit, fun o ho => by have := h.Sb _ _ ho; omega, (a.eval x).cells.toList, by rw [Array.toArray_toList]; exact row_new, AC.mono hle _ _ k1, k3⟩)
 obtain ⟨p1, p2, p3, p4, p5, p6, p7⟩ := St.put_fields (s.setOb (s.base + d) (some (.one t (s.opA x)))) dst (.ptr t (s.base + d) [])
 refine ⟨_, hq, p5, p6, p2, p4, fun id hid hh => ?_, .value (v := .pointer (some ⟨w.heap.size, 0, none⟩)) (w' := grown w [.cells (a.eval x).cells T] w.drawn) ?_ ⟨S, _, β, h1.put (AR_ptr_mk (upd_same _ _ _) fun o ho => ?_) dst, ?_, fun id hid => ⟨upd_ne _ _ ?_, rfl⟩⟩⟩
 . rw [p1]
   refine setOb_ne s _ fun e => ?_
   subst e
   rcases hh with hh | hh
   . exact hh (by rw [hd, Nat.add_sub_cancel_left])
   . omega
 . rw [<- alloc_grown]
   simp only [execOp, Instr.box, newVar, newRow, Sem.run_bind, Result.andThen_ok, run_newObj, Sem.run_pure]
   rfl
 . have ho' : (s.setOb (s.base + d) (some (.one t (s.opA x)))).ob (s.base + d) = some o := ho
   rw [setOb_get] at ho'
   cases ho'
   exact ⟨by cases t <;> rfl, by cases t <;> rfl⟩
 . exact ⟨fun _ _ hb => hb, fun b o hb => cell_grown (h.Sb b o hb), fun t ht => put_slot (hlk t ht), fun id hid b hb => ⟨upd_le hγ hb, grown_old (h.γn id b hb).2⟩, by simp, fun _ _ hb => upd_le hγ hb⟩
 . intro e
   subst e
   rcases hid with hid | hid
   . exact hid (by rw [hd, Nat.add_sub_cancel_left])
   . omega
theorem wrap64_nat {n : Nat} (h : n <= 1073741824) : IntKind.i64.wrap (n : Int) = (n : Int) := by
 exact IntWalk.i64_in _ (by omega)
theorem ev1_makeSlice (hE : EnvOk P E) (h : Rp w0 S γ β s a w) {dst T x y ty pos after guard} (hf : Fr E s γ β ⟨dst, .makeSlice T x y, ty, pos, after, guard⟩) (hlk : ∀ t ∈ s.lkS, dst ≠ some t) {R : Type} {K : St -> Option R} {r : R}
   (hq : ev1 E s ⟨dst, .makeSlice T x y, ty, pos, after, guard⟩ K = some r) : ∃ s', K s' = some r /\ Ev1 P w0 S γ β s a w ⟨dst, .makeSlice T x y, ty, pos, after, guard⟩ s' := by
 simp only [ev1] at hq
 replace hq := bind_some_inv hq; obtain ⟨t, ht, hq⟩ := hq
 replace hq := bind_some_inv hq; obtain ⟨d, hd, hq⟩ := hq
 split at hq <;> first | (cases hq; done) | skip
 rename_i e i j
 split at hq <;> first | (cases hq; done) | skip
 rename_i hij
 subst hij
 replace hq := bind_some_inv hq; obtain ⟨p, hp, hq⟩ := hq
 replace hq := bind_some_inv hq; obtain ⟨n, hn1, hq⟩ := hq
 split at hq <;> first | (cases hq; done) | skip
 rename_i hn30
 obtain ⟨hd4, hγ, hβ, _⟩ := hf rfl d hd
 rcases hE.lay T _ ht with ⟨ts', hts⟩ | hl
 . cases hts
 have hn := layB_noTup _ _ hl
 simp only [noTup] at hn
 obtain ⟨u, h1, h2⟩ := lay_sl hl
 obtain ⟨i0, z0, hi1, hi2, hi3, hi4, hi5, _⟩ := infoB_info (layB_info h2)
 have hv : a.eval (.tmp i) = .int .i64 n \/ ∃ k, a.eval (.tmp i) = .int k n := by
   obtain ⟨kk, h3⟩ := natOf_inv hn1
   have h4 := opA_ok h (.tmp i)
   rw [show s.opA (.tmp i) = s.tm i from rfl, isD_inv hp, h3] at h4
   exact .inr ⟨kk, (AR_int h4).1⟩
 obtain ⟨k, hv⟩ : ∃ k, a.eval (.tmp i) = .int k n := by
   rcases hv with hv | hv
   . exact ⟨_, hv⟩
   . exact hv
 have hzs : z0.cells.size = e.size := by
   have := (zeroB_CRl (w := w) (S := S) hi5).1
   rw [<- Array.length_toList, <- this]; exact wt_len _ _ (zeroD_wt e hn) hn
 let cells : Array Value := (Array.range (n * e.size)).map fun i => z0.cells[i % z0.cells.size]!
 have hz : ∀ w', CRl w' S (D.flats (List.replicate n (zeroD e))) cells.toList := fun w' => zeros_CRl hi5 hzs n
 obtain ⟨r1, le1⟩ := h.make (id := s.base + d) hγ (by omega) (c := cells) (T := u) (o := .many e (List.replicate n (zeroD e))) w.drawn (Nat.le_refl _) (by
   simp only [ObR]
   exact ⟨hn, fun x hx => by rw [(List.mem_replicate.1 hx).2]; exact zeroD_wt e hn, fun o ho => by have := h.Sb _ _ ho; omega, cells.toList, by rw [Array.toArray_toList]; exact row_new, hz _⟩)
 have hrun : (Instr.makeSlice T (.int k n) (.int k n)).run P w = .ok (.slice (some ⟨w.heap.size, 0, none⟩) n n) (grown w [.cells cells u] w.drawn) := by
   have hb : ((i0.bytes : Int) * (n : Int)) <= 2 ^ 48 := by
     have h5 : i0.bytes * n <= 16384 * 1073741824 := Nat.mul_le_mul hi3.1 hn30
     have : ((i0.bytes * n : Nat) : Int) <= ((16384 * 1073741824 : Nat) : Int) := Int.ofNat_le.2 h5
     rw [Int.natCast_mul] at this
     omega
   have hw := wrap64_nat hn30
   have c1 : ¬ ((n : Int) < 0) := by omega
   have c2 : ¬ ((i0.bytes : Int) * (n : Int) > 2 ^ 48) := by omega
   simp only [Instr.makeSlice, Sem.run_bind, run_underlying h1, Result.andThen_ok, asInt, asIntOf, pure_bind, typeInfo, run_program, hi1, Sem.run_pure, hw]
   rw [decide_eq_false c1, decide_eq_false c2, decide_eq_false (show ¬ ((n : Int) > n) from Int.lt_irrefl _)]
   simp only [Bool.or_self, Bool.false_eq_true, if_false, Sem.run_bind, run_askRoom, Result.andThen_ok, lay_size h2, Int.toNat_natCast]
   by_cases h0 : n * e.size = 0
   . have e0 : ((Array.range (n * e.size)).map fun i => (#[] : Array Value)[i % (#[] : Array Value).size]!) = cells := by
       show _ = ((Array.range (n * e.size)).map fun i => z0.cells[i % z0.cells.size]!)
       rw [h0]; simp
     rw [if_pos h0]
     simp only [pure_bind, e0, newRow, Sem.run_bind, run_newObj, Result.andThen_ok, Sem.run_pure]
     rw [<- alloc_grown]
     rfl
   . rw [if_neg h0]
     simp only [zeroValue, typeInfo, Sem.run_bind, run_program, hi1, hi4, Result.andThen_ok, Sem.run_pure, bind_pure_comp, Sem.run_map, newRow, run_newObj]
     rw [<- alloc_grown]
     rfl
 obtain ⟨p1, p2, p3, p4, p5, p6, p7⟩ := St.put_fields (s.setOb (s.base + d) (some (.many e (List.replicate n (zeroD e))))) dst (.mem e (s.base + d))
 refine ⟨_, hq, p5, p6, p2, p4, fun id hid hh => ?_, .value (v := .slice (some ⟨w.heap.size, 0, none⟩) n n) (w' := grown w [.cells cells u] w.drawn) (by simp only [execOp, hv, Sem.run_bind, hrun, Result.andThen_ok, Sem.run_pure]) ⟨S, _, β, r1.put ?_ dst, ?_, fun id hid => ⟨upd_ne _ _ ?_, rfl⟩⟩⟩
 . rw [p1]
   refine setOb_ne s _ fun e => ?_
   subst e
   rcases hh with hh | hh
   . exact hh (by rw [hd, Nat.add_sub_cancel_left])
   . omega
 . simp only [AR, AC, Value.cells]
   refine ⟨by simp, hn, w.heap.size, upd_same _ _ _, fun o ho => ?_⟩
   rw [setOb_get] at ho
   cases ho
   exact ⟨_, rfl, by simp⟩
 . exact ⟨fun _ _ hb => hb, fun b o hb => cell_grown (h.Sb b o hb), fun t ht => put_slot (hlk t ht), fun id hid b hb => ⟨upd_le hγ hb, grown_old (h.γn id b hb).2⟩, by simp, fun _ _ hb => upd_le hγ hb⟩
 . intro e
   subst e
   rcases hid with hid | hid
   . exact hid (by rw [hd, Nat.add_sub_cancel_left])
   . omega
theorem growBy_le (m : Nat) : ∀ (r c : Nat), c <= 2 * m + 200 -> Builtin.growBy m r c <= 2 * m + 200
 | 0, c, h => by simpa [Builtin.growBy] using h
 | r + 1, c, h => by
   simp only [Builtin.growBy]
   split
   . exact h
   . exact growBy_le m r _ (by omega)
theorem nextcap_le {need cap : Nat} (h : cap < need) : Builtin.nextslicecap need cap <= 2 * need + 200 := by
 unfold Builtin.nextslicecap
 split
 . omega
 . split
   . omega
   . exact growBy_le need 4 cap (by omega)
theorem run_firstCells {w : World} {S : Nat -> Nat -> Prop} {e : Ty} {l : List D} {v : Value} (hn : noTup e = true) (hl : ∀ x ∈ l, wt e x) (h : CR w S (.sl l) v) : ∃ cs : List Value, CRl w S (D.flats l) cs /\ (Builtin.firstCells e.size l.length v).run P w = .ok cs.toArray w := by
 obtain ⟨A, cap, b, off, hv, k1, k2, cs, k3, k4⟩ := h.elems
 refine ⟨cs, k3, ?_⟩
 have hlen : cs.length = l.length * e.size := by rw [<- k3.1]; exact flats_len_of hn l hl
 subst hv
 cases A with
 | none =>
   rcases k1 with rfl | k1
   . have : cs = [] := by
       simp at hlen; exact hlen
     subst this; rfl
   . cases k1
 | some A =>
   rcases k1 with rfl | k1
   . have : cs = [] := by
       simp at hlen; exact hlen
     subst this
     simp [Builtin.firstCells, loadCells, loadCellsFrom]
   . cases k1
     simp only [Builtin.firstCells]
     rw [<- hlen]
     exact run_loadCells_list (P := P) w ⟨b, off, none⟩ cs (fun j v hv => by rw [add_none]; exact (k4 j v hv).2)
theorem AR_own_nil {c : Cx} {e : Ty} {v : Nat} (hn : noTup e = true) : AR c (.own e v []) (.slice none 0 0) := by
 simp only [AR, AC, Value.cells]
 exact ⟨by simp, hn, fun x hx => by simp at hx, none, 0, rfl, .sl [] none 0 0 0 (fun _ => undef) (.inl rfl) (Nat.le_refl 0) (fun i d hd => by simp [D.flats] at hd) (fun i d hd => by simp [D.flats] at hd), fun _ => .inl ⟨rfl, rfl⟩⟩
theorem Rp.bury (h : Rp w0 S γ β s a w) (v : Nat) : Rp w0 S γ β { s with dead := v :: s.dead } a w /\ Cx.le ⟨w, S, γ, β, s.ob, s.dead⟩ ⟨w, S, γ, β, s.ob, v :: s.dead⟩ := by
 have hle : Cx.le ⟨w, S, γ, β, s.ob, s.dead⟩ ⟨w, S, γ, β, s.ob, v :: s.dead⟩ :=
   ⟨fun _ _ _ => rfl, fun _ _ k => k, fun _ _ k => k, fun id o ho _ => ⟨o, ho, fun p => ⟨rfl, rfl⟩, fun t l e => ⟨l, e, rfl⟩, fun _ _ l e => ⟨l, e⟩⟩, fun u hu => ⟨fun hh => hu (List.mem_cons_of_mem _ hh), fun b e he => ⟨he, fun n hn => hn⟩⟩⟩
 have nd : ∀ {u}, u ∉ v :: s.dead -> u ∉ s.dead := fun hu hh => hu (List.mem_cons_of_mem _ hh)
 exact ⟨⟨h.ext, fun t ht => (h.tms t ht).mono hle, h.nt, h.tmu, fun id o b ho hb => (h.obs id o b ho hb).mono hle rfl fun _ k => k, h.γn, h.γi, h.γf, fun u b e hu => h.βn u b e (nd hu), fun u u' b e e' hu hu' => h.βi u u' b e e' (nd hu) (nd hu'), fun u id b e hu => h.βγ u id b e (nd hu), h.βf, h.Sb, h.So, h.df⟩, hle⟩
end
end Go.Proofs.YtjjjkojfijpeeaaGreat.Sy
end
section
namespace Go.Proofs.YtjjjkojfijpeeaaGreat.Sy
open Go
section
variable {P : Program} {E : Env} {w0 : Root} {S : Nat -> Nat -> Prop} {γ : Nat -> Option Nat} {β : Nat -> Option (Nat × Nat)} {s : St} {a : Act} {w : World}
theorem Rp.makeG (h : Rp w0 S γ β s a w) {id : Nat} (hid : γ id = none) (hi : id < s.base + 4096) {x : Obj} {o : Ob} (d : Nat) (hdr : w.drawn <= d)
   (ho : ObR ⟨grown w [x] d, S, upd γ id w.heap.size, β, (s.setOb id (some o)).ob, s.dead⟩ w.heap.size o) :
   Rp w0 S (upd γ id w.heap.size) β (s.setOb id (some o)) a (grown w [x] d) /\ Cx.le ⟨w, S, γ, β, s.ob, s.dead⟩ ⟨grown w [x] d, S, upd γ id w.heap.size, β, (s.setOb id (some o)).ob, s.dead⟩ := by
 obtain ⟨h1, le1⟩ := h.grow (os := [x]) (d := d) hdr (S' := S) (fun _ _ hb => hb) (fun _ _ hb => .inl hb)
 obtain ⟨h2, le2⟩ := h1.setFree hid (some o)
 have hw0 : ¬ w0.Old w.heap.size := fun ho => by have := ho.1; have := h.ext.sz; omega
 obtain ⟨h3, le3⟩ := h2.newOb (id := id) (b := w.heap.size) hid hw0 (by simp) (fun i hi => by have := (h.γn i _ hi).2; omega) (fun u f hu hf => by have := (h.βn u _ _ hu hf).2.1; omega) hi (fun x hx => by
   rw [setOb_get] at hx; cases hx; exact ho)
 refine ⟨h3, ⟨fun b o hb => le1.cell b o hb, fun _ _ hb => hb, fun i b hb => upd_le hid hb, fun i x hx hb => ?_, fun v hv => ⟨hv, fun b e he => ⟨he, fun n hn => by
   have := le1.β v hv; exact (this.2 b e he).2 n hn⟩⟩⟩⟩
 obtain ⟨b, hb⟩ := hb
 exact le2.ob i x hx ⟨b, hb⟩
theorem ev1_makeMap (hE : EnvOk P E) (h : Rp w0 S γ β s a w) {dst T rsv ty pos after guard} (hf : Fr E s γ β ⟨dst, .makeMap T rsv, ty, pos, after, guard⟩) (hlk : ∀ t ∈ s.lkS, dst ≠ some t) {R : Type} {K : St -> Option R} {r : R}
   (hq : ev1 E s ⟨dst, .makeMap T rsv, ty, pos, after, guard⟩ K = some r) : ∃ s', K s' = some r /\ Ev1 P w0 S γ β s a w ⟨dst, .makeMap T rsv, ty, pos, after, guard⟩ s' := by
 simp only [ev1] at hq
 cases rsv with
 | some x => cases hq
 | none =>
 simp only at hq
 replace hq := bind_some_inv hq; obtain ⟨kv, hkv, hq⟩ := hq
 replace hq := bind_some_inv hq; obtain ⟨d, hd, hq⟩ := hq
 obtain ⟨kt, vt⟩ := kv
 simp only at hq
 obtain ⟨hd4, hγ, hβ, _⟩ := hf rfl d hd
 obtain ⟨hc, KT, VT, hu, hlk1, hlv, hh⟩ := hE.mapL T _ _ hkv
 have hnk := layB_noTup _ _ hlk1
 have hnv := layB_noTup _ _ hlv
 obtain ⟨h1, le1⟩ := h.makeG (id := s.base + d) hγ (by omega) (x := .map #[] 0) (o := .mp kt vt []) w.drawn (Nat.le_refl _) (by
   simp only [ObR]
   refine ⟨hnk, hnv, fun o ho => by have := h.Sb _ _ ho; omega, #[], ?_, by simp [MpR]⟩
   show (w.heap ++ #[Obj.map #[] 0])[w.heap.size]? = some (.map #[] 0)
   rw [Array.getElem?_append_right (Nat.le_refl _), Nat.sub_self]
   rfl)
 obtain ⟨p1, p2, p3, p4, p5, p6, p7⟩ := St.put_fields (s.setOb (s.base + d) (some (.mp kt vt []))) dst (.map kt vt (s.base + d))
 refine ⟨_, hq, p5, p6, p2, p4, fun id hid hhh => ?_, .value (v := .map (some w.heap.size)) (w' := grown w [.map #[] 0] w.drawn) ?_ ⟨S, _, β, h1.put ?_ dst, ?_, fun id hid => ⟨upd_ne _ _ ?_, rfl⟩⟩⟩
 . rw [p1]
   refine setOb_ne s _ fun e => ?_
   subst e
   rcases hhh with hhh | hhh
   . exact hhh (by rw [hd, Nat.add_sub_cancel_left])
   . omega
 . have : (grown w [.map #[] 0] w.drawn) = { w with heap := w.heap.push (.map #[] 0) } := by simp [grown]
   rw [this]
   simp only [execOp, Instr.makeMap, Option.map_none, Sem.run_bind, Result.andThen_ok, run_newObj, Sem.run_pure]
 . simp only [AR, AC, Value.cells]
   refine ⟨by simp, w.heap.size, rfl, upd_same _ _ _, hnk, hnv, fun o ho => ?_⟩
   have ho' : (s.setOb (s.base + d) (some (.mp kt vt []))).ob (s.base + d) = some o := ho
   rw [setOb_get] at ho'
   cases ho'
   exact ⟨_, rfl⟩
 . exact ⟨fun _ _ hb => hb, fun b o hb => cell_grown (h.Sb b o hb), fun t ht => put_slot (hlk t ht), fun id hid b hb => ⟨upd_le hγ hb, grown_old (h.γn id b hb).2⟩, by simp, fun _ _ hb => upd_le hγ hb⟩
 . intro e
   subst e
   rcases hid with hid | hid
   . exact hid (by rw [hd, Nat.add_sub_cancel_left])
   . omega
def setM (w : World) (b : Nat) (o : Obj) : World := { w with heap := w.heap.setIfInBounds b o }
theorem heap_setM {w : World} {b b' : Nat} {o : Obj} (h : b' ≠ b) : (setM w b o).heap[b']? = w.heap[b']? := by
 simp only [setM]
 rw [Array.getElem?_setIfInBounds_ne (Ne.symm h)]
theorem size_setM {w : World} {b : Nat} {o : Obj} : (setM w b o).heap.size = w.heap.size := by simp [setM]
theorem cell_setM {w : World} {b b' o' : Nat} {o : Obj} (h : b' ≠ b) : (setM w b o).cell? ⟨b', o', none⟩ = w.cell? ⟨b', o', none⟩ := by simp only [World.cell?, heap_setM h]
theorem Rp.writeM (h : Rp w0 S γ β s a w) {id b : Nat} {kt vt : Ty} {l l' : List D} {es' : Array MapEntry} (ho : s.ob id = some (.mp kt vt l)) (hγ : γ id = some b) (hM : MpR ⟨w, S, γ, β, s.ob, s.dead⟩ kt vt 0 l' es'.toList) :
   Rp w0 S γ β (s.setOb id (some (.mp kt vt l'))) a (setM w b (.map es' l'.length)) /\ (∀ b' o, S b' o -> (setM w b (.map es' l'.length)).cell? ⟨b', o, none⟩ = w.cell? ⟨b', o, none⟩) := by
 have hO := h.obs id _ b ho hγ
 simp only [ObR] at hO
 obtain ⟨hnk, hnv, hS, es, hes, _⟩ := hO
 have hbS : ∀ b' o, S b' o -> b' ≠ b := fun b' o hb e => hS o (e ▸ hb)
 have hlt : b < w.heap.size := (h.γn id b hγ).2
 have hle : Cx.le ⟨w, S, γ, β, s.ob, s.dead⟩ ⟨setM w b (.map es' l'.length), S, γ, β, (s.setOb id (some (.mp kt vt l'))).ob, s.dead⟩ := by
   refine ⟨fun b' o hb => cell_setM (hbS b' o hb), fun _ _ hb => hb, fun _ _ hb => hb, fun i x hx _ => ?_, fun v hv => ⟨hv, fun b' e he => ⟨he, fun n hn => ?_⟩⟩⟩
   . simp only [St.setOb] at hx
     by_cases e : i = id
     . subst e
       simp only [if_true, Option.some.injEq] at hx
       subst hx
       exact ⟨_, ho, fun p => ⟨rfl, rfl⟩, (fun t l e => by cases e), (fun k v l e => by cases e; exact ⟨_, rfl⟩)⟩
     . rw [if_neg e] at hx
       exact ⟨x, hx, fun p => ⟨rfl, rfl⟩, fun t l e => ⟨l, e, rfl⟩, fun _ _ l e => ⟨l, e⟩⟩
   . have hne : b' ≠ b := fun e' => h.βγ v id b' e hv he (e' ▸ hγ)
     have hn' : rsz w b' = some n := hn
     show rsz (setM w b (.map es' l'.length)) b' = some n
     simp only [rsz, row?, heap_setM hne] at hn' ⊢
     exact hn'
 refine ⟨⟨ext_of h.ext rfl rfl rfl (by simp [size_setM]) (Nat.le_refl _) (fun b' hb' => heap_setM fun e => (h.γn id b hγ).1 (e ▸ hb')), fun t ht => (h.tms t ht).mono hle, h.nt, h.tmu, fun i x b' hx hb' => ?_, fun i b' hb' => by rw [size_setM]; exact h.γn i b' hb', h.γi, h.γf,
   fun v b' e hv he => by rw [size_setM]; exact h.βn v b' e hv he, h.βi, h.βγ, h.βf, fun b' o hb => by rw [size_setM]; exact h.Sb b' o hb, h.So, h.df⟩, fun b' o hb => cell_setM (hbS b' o hb)⟩
 simp only [St.setOb] at hx
 by_cases e : i = id
 . subst e
   simp only [if_true, Option.some.injEq] at hx
   subst hx
   rw [hγ] at hb'; cases hb'
   simp only [ObR]
   refine ⟨hnk, hnv, hS, es', ?_, hM.mono hle⟩
   simp only [setM]
   rw [Array.getElem?_setIfInBounds_self_of_lt hlt]
 . rw [if_neg e] at hx
   have hne : b' ≠ b := fun e' => e (h.γi i id b' hb' (e' ▸ hγ))
   exact (h.obs i x b' hx hb').mono hle (heap_setM hne) fun _ hh => hh
theorem MpR.push {c : Cx} {kt vt : Ty} {k v : D} {ek ev : Value} (hk : wt kt k) (hv : wt vt v) (rk : DR0 c.w c.S k ek) (rv : DR0 c.w c.S v ev) : ∀ {l : List D} {es : List MapEntry} {j : Nat}, MpR c kt vt j l es -> MpR c kt vt j (l ++ [.st [k, v]]) (es ++ [{ key := ek, val := ev, born := j + l.length }])
 | [], [], j, _ => by simp only [List.nil_append, MpR, List.length_nil, Nat.add_zero]; exact ⟨⟨trivial, k, v, rfl, hk, hv, rk, rv⟩, trivial⟩
 | [], _ :: _, _, h => h.elim
 | _ :: _, [], _, h => h.elim
 | x :: l, e :: es, j, h => by
   simp only [List.cons_append, MpR] at h ⊢
   refine ⟨h.1, ?_⟩
   have := MpR.push hk hv rk rv h.2
   rw [List.length_cons, show j + (l.length + 1) = j + 1 + l.length by omega]
   exact this
theorem mput_new {c : Cx} {kt vt : Ty} {x y : D} : ∀ {l : List D} {es : List MapEntry} {j i : Nat}, MpR c kt vt j l es -> fnd l x es i = none -> D.mput l x y = l ++ [.st [x, y]]
 | [], [], _, _, _, _ => rfl
 | [], _ :: _, _, _, h, _ => h.elim
 | _ :: _, [], _, _, h, _ => h.elim
 | z :: l, e :: es, j, i, h, hf => by
   simp only [MpR] at h
   obtain ⟨⟨_, k, v, rfl, _⟩, h2⟩ := h
   simp only [fnd] at hf
   simp only [D.mput]
   cases hb : D.beq x k
   . rw [hb] at hf
     simp only [Bool.false_eq_true, if_false] at hf ⊢
     rw [mput_new h2 hf]
     rfl
   . rw [hb] at hf; simp at hf
theorem mput_old {c : Cx} {kt vt : Ty} {x y : D} {ek ev : Value} (hv : wt vt y) (rv : DR0 c.w c.S y ev) (rk : DR0 c.w c.S x ek) : ∀ {l : List D} {es : List MapEntry} {j i n : Nat} {v0 : Value}, MpR c kt vt j l es -> fnd l x es i = some (n, v0) ->
   ∃ m e0, n = i + m /\ es[m]? = some e0 /\ (D.mput l x y).length = l.length /\ MpR c kt vt j (D.mput l x y) (es.modify m fun e => { e with key := e0.key, val := ev }) /\ MpR c kt vt j (D.mput l x y) (es.modify m fun e => { e with key := ek, val := ev })
 | [], [], _, _, _, _, _, hf => by simp [fnd] at hf
 | [], _ :: _, _, _, _, _, h, _ => h.elim
 | _ :: _, [], _, _, _, _, h, _ => h.elim
 | z :: l, e :: es, j, i, n, v0, h, hf => by
   simp only [MpR] at h
   obtain ⟨⟨hb0, k, v, rfl, q1, q2, q3, q4⟩, h2⟩ := h
   simp only [fnd] at hf
   simp only [D.mput]
   cases hb : D.beq x k
   . rw [hb] at hf
     simp only [Bool.false_eq_true, if_false] at hf ⊢
     obtain ⟨m, e0, e1, e2, e3, e4, e5⟩ := mput_old (y := y) hv rv rk h2 hf
     refine ⟨m + 1, e0, by omega, by simpa using e2, by simp [e3], ?_, ?_⟩
     . simp only [List.modify_succ_cons, MpR]; exact ⟨⟨hb0, k, v, rfl, q1, q2, q3, q4⟩, e4⟩
     . simp only [List.modify_succ_cons, MpR]; exact ⟨⟨hb0, k, v, rfl, q1, q2, q3, q4⟩, e5⟩
   . rw [hb] at hf
     simp only [if_true, Option.some.injEq, Prod.mk.injEq] at hf
     have := beq_eq _ _ hb
     subst this
     simp only [if_true]
     refine ⟨0, e, by omega, rfl, rfl, ?_, ?_⟩
     . simp only [List.modify_zero_cons, MpR]; exact ⟨⟨hb0, x, y, rfl, q1, hv, q3, rv⟩, h2⟩
     . simp only [List.modify_zero_cons, MpR]; exact ⟨⟨hb0, x, y, rfl, q1, hv, rk, rv⟩, h2⟩
theorem keeps_run (old new : Value) (w : World) : ∃ k d, w.drawn <= d /\ (Instr.keyThatStays old new).run P w = .ok k { w with drawn := d } /\ (k = old \/ k = new) := by
 unfold Instr.keyThatStays
 split
 . exact ⟨new, w.drawn, Nat.le_refl _, rfl, .inr rfl⟩
 . simp only [Sem.run_bind, run_choose]
   split
   . simp only [Result.andThen_ok, Sem.run_pure]
     exact ⟨_, w.drawn, Nat.le_refl _, rfl, by split <;> simp⟩
   . simp only [Result.andThen_ok, Sem.run_pure]
     exact ⟨_, w.drawn + 1, Nat.le_succ _, rfl, by split <;> simp⟩
theorem ev1_mapUpdate (hE : EnvOk P E) (h : Rp w0 S γ β s a w) {dst T x k v ty pos after guard} {R : Type} {K : St -> Option R} {r : R}
   (hq : ev1 E s ⟨dst, .mapUpdate T x k v, ty, pos, after, guard⟩ K = some r) : ∃ s', K s' = some r /\ Ev1 P w0 S γ β s a w ⟨dst, .mapUpdate T x k v, ty, pos, after, guard⟩ s' := by
 simp only [ev1] at hq
 cases dst with
 | some d => simp at hq
 | none =>
 simp only [Option.isSome_none, Bool.false_eq_true, if_false] at hq
 replace hq := bind_some_inv hq; obtain ⟨kv, hkv, hq⟩ := hq
 obtain ⟨kt0, vt0⟩ := kv
 have hx := opA_ok h x
 generalize s.opA x = ax at *
 cases ax <;> (try simp only at hq) <;> first | (cases hq; done) | skip
 rename_i kt vt id
 split at hq <;> first | (cases hq; done) | skip
 rename_i hb
 simp only [Bool.and_eq_true, Bool.not_eq_true'] at hb
 obtain ⟨⟨hb1, hb2⟩, hb3⟩ := hb
 have e1 := Ty.eq_of_beq _ _ hb1
 have e2 := Ty.eq_of_beq _ _ hb2
 subst e1; subst e2
 have hlo : id ∉ s.lkO := by
   intro hh
   have : s.lkO.contains id = true := by simpa using hh
   rw [this] at hb3; cases hb3
 split at hq <;> first | (cases hq; done) | skip
 rename_i kt' vt' l hob
 split at hq <;> first | (cases hq; done) | skip
 rename_i hb2
 simp only [Bool.and_eq_true] at hb2
 have e1 := Ty.eq_of_beq _ _ hb2.1
 have e2 := Ty.eq_of_beq _ _ hb2.2
 subst e1; subst e2
 replace hq := bind_some_inv hq; obtain ⟨kd, hkd, hq⟩ := hq
 replace hq := bind_some_inv hq; obtain ⟨vd, hvd, hq⟩ := hq
 obtain ⟨hc, KT, VT, hu, hlk, hlv, hh⟩ := hE.mapL T _ _ hkv
 have hnk := layB_noTup _ _ hlk
 have hnv := layB_noTup _ _ hlv
 obtain ⟨k1, k2⟩ := AR_toD hnk (opA_ok h k) hkd
 obtain ⟨v1, v2⟩ := AR_toD hnv (opA_ok h v) hvd
 simp only [AR, AC] at hx
 obtain ⟨na, b, hcs, hγ, _, _, _⟩ := hx
 have hv := cells_single na hcs
 have hO := h.obs id _ b hob hγ
 simp only [ObR] at hO
 obtain ⟨_, _, hnS, es, hes, hM⟩ := hO
 have i1 : isVal kt' (a.eval k).cells.toList (a.eval k) := ⟨rfl, wt_agg k1 hnk k2.1⟩
 have rc := checkKey_ok (S := S) (w := w) kt' KT kd _ _ 10000 false hlk hc (by omega) k1 k2.2 i1 w
 have rf := findKey_ok (P := P) hlk hc hh k1 k2 w hM
 have hex : (execOp a.eval ⟨none, .mapUpdate T x k v, ty, pos, after, guard⟩) = (Instr.mapUpdate T (a.eval x) (a.eval k) (a.eval v) >>= fun _ => pure .skip) := rfl
 have hlt : b < w.heap.size := (h.γn id b hγ).2
 have run : ∃ es' d, w.drawn <= d /\ MpR ⟨w, S, γ, β, s.ob, s.dead⟩ kt' vt' 0 (D.mput l kd vd) es'.toList /\ (execOp a.eval ⟨none, .mapUpdate T x k v, ty, pos, after, guard⟩).run P w = .ok .skip (setM { w with drawn := d } b (.map es' (D.mput l kd vd).length)) := by
   rw [hex, hv]
   cases hf : fnd l kd es.toList 0 with
   | none =>
     rw [hf] at rf
     have hm := mput_new (y := vd) hM hf
     refine ⟨es.push { key := a.eval k, val := a.eval v, born := l.length }, w.drawn, Nat.le_refl _, ?_, ?_⟩
     . rw [hm, Array.toList_push]
       have := MpR.push k1 v1 k2 v2 hM
       rwa [Nat.zero_add] at this
     . have hl : (D.mput l kd vd).length = l.length + 1 := by rw [hm]; simp
       rw [hl]
       simp only [Instr.mapUpdate, Sem.run_bind, run_underlying hu, Result.andThen_ok, getMap_run hes, rc, rf]
       simp [setObj, Sem.run, hes, setM]
   | some p =>
     obtain ⟨n, v0⟩ := p
     rw [hf] at rf
     obtain ⟨m, e0, e1, e2, e3, e4, e5⟩ := mput_old (ek := a.eval k) v1 v2 k2 hM hf
     have e1' : n = m := by omega
     subst e1'
     have e2' : es[n]? = some e0 := by simpa using e2
     obtain ⟨kk, d, hdr1, r1, r2⟩ := keeps_run (P := P) e0.key (a.eval k) w
     refine ⟨es.modify n fun e => { e with key := kk, val := a.eval v }, d, hdr1, ?_, ?_⟩
     . rw [Array.toList_modify]
       rcases r2 with rfl | rfl
       . exact e4
       . exact e5
     . rw [e3]
       simp only [Instr.mapUpdate, Sem.run_bind, run_underlying hu, Result.andThen_ok, getMap_run hes, rc, rf, e2', Option.map_some, Option.getD_some, r1]
       simp [setObj, Sem.run, hes, setM]
 obtain ⟨es', d, hdr2, hM', hrun⟩ := run
 have hg : ({ w with drawn := d } : World) = grown w [] d := by simp [grown]
 rw [hg] at hrun
 obtain ⟨g1, g2⟩ := h.grow (os := []) (d := d) hdr2 (S' := S) (fun _ _ hb => hb) (fun _ _ hb => .inl hb)
 obtain ⟨w1, w2⟩ := g1.writeM (l' := D.mput l kd vd) (es' := es') hob hγ (hM'.mono g2)
 refine ⟨_, hq, rfl, rfl, rfl, rfl, fun i hi _ => ?_, .skip hrun ⟨S, γ, β, w1, ?_, fun _ _ => ⟨rfl, rfl⟩⟩⟩
 . refine setOb_ne s _ fun e => ?_
   subst e
   rw [hγ] at hi; cases hi
 . refine ⟨fun _ _ hb => hb, fun b' o hb => (w2 b' o hb).trans (g2.cell b' o hb), fun _ _ => rfl, fun i hi b' hb' => ⟨hb', ?_⟩, by rw [size_setM]; simp, fun _ _ hb => hb⟩
   have hne : b' ≠ b := fun e => by
     subst e
     exact hlo ((h.γi id i _ hγ hb') ▸ hi)
   rw [heap_setM hne]
   exact grown_old (h.γn i b' hb').2
end
end Go.Proofs.YtjjjkojfijpeeaaGreat.Sy
end
