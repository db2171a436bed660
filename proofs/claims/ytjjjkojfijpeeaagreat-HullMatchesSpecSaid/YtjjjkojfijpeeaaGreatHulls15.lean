/- HullMatchesSpec answers true at every input, and the input reads afterwards as it read before (HullMatchesSpecSaid). No condition. -/
import Derived.Test.YtjjjkojfijpeeaaGreatHulls02
import Derived.Test.YtjjjkojfijpeeaaGreatHulls11
import Derived.Test.YtjjjkojfijpeeaaGreatHulls13
import Derived.Test.YtjjjkojfijpeeaaGreatHulls14
import Derived.Test.YtjjjkojfijpeeaaGreatRows
import Derived.ProofKit
set_option linter.unusedVariables false
set_option linter.unusedSimpArgs false
set_option linter.unnecessarySimpa false
section
namespace Go.Proofs.YtjjjkojfijpeeaaGreat.Geo
open V
section
variable {P : Nat -> V} {N : Nat}
theorem same_plane (hl : ∀ i j, i < j -> j < N -> lexlt (P i) (P j)) {n1 n2 : V} {d1 d2 : Int} (h1 : IsF P N n1 d1) (h2 : IsF P N n2 d2) {a b c : Nat} (a1 : a ∈ OnPl P N n1 d1) (b1 : b ∈ OnPl P N n1 d1) (c1 : c ∈ OnPl P N n1 d1)
   (a2 : a ∈ OnPl P N n2 d2) (b2 : b ∈ OnPl P N n2 d2) (c2 : c ∈ OnPl P N n2 d2) (ht : T n1 (wy P a b) (wy P a c) ≠ 0) : n1 = n2 := by
 have F1 := h1.flat hl; have F2 := h2.flat hl
 have k1 := cross_par (F1.pl a a1 b b1) (F1.pl a a1 c c1)
 have k2 := cross_par (F2.pl a a2 b b2) (F2.pl a a2 c c2)
 have ht' : dot n1 (cross (wy P a b) (wy P a c)) ≠ 0 := ht
 generalize cross (wy P a b) (wy P a c) = m at k1 k2 ht'
 have hm : m ≠ zero := fun e => ht' (by rw [e]; simp [dot, zero])
 have hmm := dot_self_pos hm
 have p1 := par k1 m; have p2 := par k2 m
 have e1 : ∀ v : V, dot m n1 * dot m v = dot m m * dot n1 v := fun v => by
   have x1 := congrArg V.x p1; have x2 := congrArg V.y p1; have x3 := congrArg V.z p1
   simp only [smul] at x1 x2 x3
   simp only [dot] at *; grind
 have e2 : ∀ v : V, dot m n2 * dot m v = dot m m * dot n2 v := fun v => by
   have x1 := congrArg V.x p2; have x2 := congrArg V.y p2; have x3 := congrArg V.z p2
   simp only [smul] at x1 x2 x3
   simp only [dot] at *; grind
 have cm : ∀ u v : V, dot u v = dot v u := fun u v => by simp only [dot]; grind
 rw [cm] at ht'
 have hB : dot m n2 ≠ 0 := fun e => by
   have := e2 n2
   rw [e, Int.zero_mul] at this
   have n0 := zero_of_mul hmm this.symm
   exact F2.nz (dot_self_zero n0)
 obtain ⟨z, hz, hzd⟩ := h1.supp.2
 have w1 : dot n1 (wy P a z) < 0 := by rw [dot_wy, (mem_onPl.1 a1).2]; omega
 have w2 : dot n2 (wy P a z) <= 0 := by rw [dot_wy, (mem_onPl.1 a2).2]; have := h2.supp.1 z hz; omega
 have q1 := e1 (wy P a z); have q2 := e2 (wy P a z)
 have r1 : dot m n1 * dot m (wy P a z) < 0 := by rw [q1]; exact Int.mul_neg_of_pos_of_neg hmm w1
 have r2 : dot m n2 * dot m (wy P a z) <= 0 := by rw [q2]; exact Int.mul_nonpos_of_nonneg_of_nonpos (Int.le_of_lt hmm) w2
 generalize dot m (wy P a z) = t at r1 r2
 have fin : ∀ A B : Int, 0 < A -> 0 < B -> smul A (smul (dot m m) n1) = smul B (smul (dot m m) n2) -> n1 = n2 := fun A B hA hB h => by
   refine prim_par h1.nz.2 h2.nz.2 (Int.mul_pos hA hmm) (Int.mul_pos hB hmm) ?_
   have x1 := congrArg V.x h; have x2 := congrArg V.y h; have x3 := congrArg V.z h
   simp only [smul] at x1 x2 x3
   apply V.ext' <;> simp only [smul] <;> grind
 rcases Int.lt_trichotomy (dot m n1) 0 with s | s | s
 . have ht0 : 0 < t := by
     rcases Int.lt_or_le 0 t with k | k
     . exact k
     . have := Int.mul_nonneg_of_nonpos_of_nonpos (Int.le_of_lt s) k; omega
   have s2 : dot m n2 < 0 := by
     rcases Int.lt_or_le 0 (dot m n2) with k | k
     . have := Int.mul_pos k ht0; omega
     . omega
   refine fin (-dot m n2) (-dot m n1) (by omega) (by omega) ?_
   rw [<- p1, <- p2]
   apply V.ext' <;> simp only [smul] <;> grind
 . exact absurd s ht'
 . have ht0 : t < 0 := by
     rcases Int.lt_or_le t 0 with k | k
     . exact k
     . have := Int.mul_nonneg (Int.le_of_lt s) k; omega
   have s2 : 0 < dot m n2 := by
     rcases Int.lt_or_le (dot m n2) 0 with k | k
     . have := Int.mul_pos_of_neg_of_neg k ht0; omega
     . omega
   refine fin (dot m n2) (dot m n1) s2 s ?_
   rw [<- p1, <- p2]
   apply V.ext' <;> simp only [smul] <;> grind
theorem no_back (hl : ∀ i j, i < j -> j < N -> lexlt (P i) (P j)) {n : V} {d : Int} (h : IsF P N n d) {a b : Nat} (ha : a ∈ OnPl P N n d) (h1 : Side n P (OnPl P N n d) a b) (h2 : Side n P (OnPl P N n d) b a) : False := by
 obtain ⟨c, hc, ht⟩ := h.left hl ha h1
 have := (h2.all c hc).1
 have e : T n (wy P b a) (wy P b c) = - T n (wy P a b) (wy P a c) := by simp only [T, dot, cross, wy, sub]; grind
 omega
theorem len_le {α : Type} [DecidableEq α] : ∀ {l m : List α}, l.Nodup -> (∀ x ∈ l, x ∈ m) -> l.length <= m.length
 | [], m, _, _ => Nat.zero_le _
 | x :: l, m, hn, hs => by
   obtain ⟨h1, h2⟩ := List.nodup_cons.1 hn
   have hx := hs x List.mem_cons_self
   have ih := len_le (l := l) (m := m.erase x) h2 fun y hy => (List.mem_erase_of_ne (fun e : y = x => h1 (by rw [<- e]; exact hy))).2 (hs y (List.mem_cons_of_mem _ hy))
   rw [List.length_erase_of_mem hx] at ih
   have := List.length_pos_of_mem hx
   simp only [List.length_cons]; omega
theorem four (hl : ∀ i j, i < j -> j < N -> lexlt (P i) (P j)) {L : List (V × Int)} (hL : Facets P N L) (hne : L ≠ []) : 4 <= L.length := by
 obtain ⟨⟨n, d⟩, hq⟩ := List.exists_mem_of_ne_nil L hne
 have h : IsF P N n d := (hL.mem (n, d)).1 hq
 have F := h.flat hl
 obtain ⟨a0, _, m0, x0, _, hoth⟩ := h.head hl
 obtain ⟨a1, _, s01⟩ := next_side F m0 x0 (hoth a0 m0)
 have m1 := s01.mem; have x1 := s01.ext F m0
 obtain ⟨a2, _, s12⟩ := next_side F m1 x1 (hoth a1 m1)
 have m2 := s12.mem; have x2 := s12.ext F m1
 obtain ⟨a3, _, s23⟩ := next_side F m2 x2 (hoth a2 m2)
 have m3 := s23.mem; have x3 := s23.ext F m2
 have d02 : a0 ≠ a2 := fun e => no_back hl h m0 s01 (e ▸ s12)
 have d13 : a1 ≠ a3 := fun e => no_back hl h m1 s12 (e ▸ s23)
 have t1 : T n (wy P a1 a0) (wy P a1 a2) ≠ 0 := fun e => d02 (Ext.ray F m1 m0 m2 x1 x0 x2 (Ne.symm s01.ne) s12.ne e)
 have t2 : T n (wy P a2 a1) (wy P a2 a3) ≠ 0 := fun e => d13 (Ext.ray F m2 m1 m3 x2 x1 x3 (Ne.symm s12.ne) s23.ne e)
 obtain ⟨n1, e1, h1, p1, q1, r1⟩ := edge_other hl h m0 s01
 obtain ⟨n2, e2, h2, p2, q2, r2⟩ := edge_other hl h m1 s12
 obtain ⟨n3, e3, h3, p3, q3, r3⟩ := edge_other hl h m2 s23
 have ne : ∀ {n' : V} {d' : Int} {a b : Nat}, IsF P N n' d' -> a ∈ OnPl P N n d -> Side n P (OnPl P N n d) a b -> Side n' P (OnPl P N n' d') b a -> n ≠ n' := fun h' ma s s' e => by
   subst e
   have := h.d_eq h'
   subst this
   exact no_back hl h ma s s'
 have n01 := ne h1 m0 s01 r1; have n02 := ne h2 m1 s12 r2; have n03 := ne h3 m2 s23 r3
 have n12 : n1 ≠ n2 := fun e => by
   subst e
   have := h1.d_eq h2; subst this
   exact n01 (same_plane hl h h1 m1 m0 m2 q1 p1 q2 t1)
 have n23 : n2 ≠ n3 := fun e => by
   subst e
   have := h2.d_eq h3; subst this
   exact n02 (same_plane hl h h2 m2 m1 m3 q2 p2 q3 t2)
 have n13 : n1 ≠ n3 := fun e => by
   subst e
   have := h1.d_eq h3; subst this
   exact n01 (same_plane hl h h1 m1 m0 m2 q1 p1 p3 t1)
 have := len_le (l := [n, n1, n2, n3]) (m := L.map (·.1)) (by simp [n01, n02, n03, n12, n13, n23]) (fun x hx => by
   simp only [List.mem_cons, List.not_mem_nil, or_false] at hx
   rcases hx with rfl | rfl | rfl | rfl
   . exact List.mem_map_of_mem (f := (·.1)) hq
   . exact List.mem_map_of_mem (f := (·.1)) ((hL.mem (x, e1)).2 h1)
   . exact List.mem_map_of_mem (f := (·.1)) ((hL.mem (x, e2)).2 h2)
   . exact List.mem_map_of_mem (f := (·.1)) ((hL.mem (x, e3)).2 h3))
 simpa using this
end
end Go.Proofs.YtjjjkojfijpeeaaGreat.Geo
end
section
namespace Go.Proofs.YtjjjkojfijpeeaaGreat.Geo
open V
section
variable {P : Nat -> V} {N : Nat}
theorem dot_smul (k : Int) (v w : V) : dot (smul k v) w = k * dot v w := by simp only [dot, smul]; grind
theorem par_dot {u v : V} (h : cross u v = zero) (f w : V) : dot f u * dot v w = dot f v * dot u w := by
 have := congrArg (fun z => dot z w) (par h f)
 simpa only [dot_smul] using this
theorem wy_self (a : Nat) : wy P a a = zero := by apply V.ext' <;> simp [wy, sub, zero]
theorem dot_zero (v : V) : dot v zero = 0 := by simp [dot, zero]
theorem not_flat {n0 : V} {d0 : Int} (h0 : IsF P N n0 d0) (a : Nat) {m : V} (hm : m ≠ zero) : ∃ x, x < N /\ dot m (wy P a x) ≠ 0 := by
 apply Classical.byContradiction
 intro hno
 have hz : ∀ x, x < N -> dot m (wy P a x) = 0 := fun x hx => Classical.byContradiction fun h => hno ⟨x, hx, h⟩
 obtain ⟨i, j, k, hij, hjk, hk, mi, mj, mk, ht⟩ := h0.three
 obtain ⟨z, hzN, hzd⟩ := h0.supp.2
 have sh : ∀ x, x < N -> dot m (wy P i x) = 0 := fun x hx => by
   have e : dot m (wy P i x) = dot m (wy P a x) - dot m (wy P a i) := by simp only [dot, wy, sub]; grind
   rw [e, hz x hx, hz i (by omega)]; omega
 have hn : ∀ x, x ∈ OnPl P N n0 d0 -> dot n0 (wy P i x) = 0 := fun x hx => by
   rw [dot_wy, (mem_onPl.1 hx).2, (mem_onPl.1 mi).2]; omega
 have c1 := cross_par (sh j (by omega)) (sh k hk)
 have c2 := cross_par (hn j mj) (hn k mk)
 have ht' : cross (wy P i j) (wy P i k) ≠ zero := ht
 generalize cross (wy P i j) (wy P i k) = t at c1 c2 ht'
 have hmm := dot_self_pos hm; have htt := dot_self_pos ht'
 have hv := sh z hzN
 have hw : dot n0 (wy P i z) < 0 := by rw [dot_wy, (mem_onPl.1 mi).2]; omega
 generalize wy P i z = v at hv hw
 have e1 := par_dot c1 m v
 have e2 := par_dot c2 t v
 rw [hv, Int.mul_zero] at e1
 have tv := zero_of_mul hmm e1
 rw [tv, Int.mul_zero] at e2
 have := Int.mul_neg_of_pos_of_neg htt hw
 omega
theorem facet_at {n0 : V} {d0 : Int} (h0 : IsF P N n0 d0) {a : Nat} (haN : a < N) {f : V} (hf : ∀ x, x < N -> x ≠ a -> 0 < dot f (wy P a x)) : ∃ n d, IsF P N n d /\ a ∈ OnPl P N n d := by
 have nf := fun {m : V} (hm : m ≠ zero) => not_flat h0 a hm
 have self : ∀ u v : V, dot u (cross v v) = 0 := fun u v => by simp only [dot, cross]; grind
 have done : ∀ q r : Nat, q < N -> r < N -> a ≠ q -> a ≠ r -> q ≠ r -> tri P a q r ≠ zero -> (∀ x, x < N -> dot (tri P a q r) (wy P a x) <= 0) -> ∃ n d, IsF P N n d /\ a ∈ OnPl P N n d := fun q r hq hr h1 h2 h3 hne hle => by
   obtain ⟨x, hx, hx0⟩ := nf hne
   have := hle x hx
   obtain ⟨n', g, _, _, hF⟩ := isF_of haN hq hr h1 h2 h3 rfl hle ⟨x, hx, by omega⟩
   exact ⟨n', _, hF, mem_onPl.2 ⟨haN, rfl⟩⟩
 obtain ⟨e, he0, hfe⟩ : ∃ e : V, e ≠ zero /\ dot f e = 0 := by
   by_cases hxy : f.x = 0 /\ f.y = 0
   . exact ⟨⟨1, 0, 0⟩, fun h => by simp [zero] at h, by simp [dot, hxy.1]⟩
   . refine ⟨⟨-f.y, f.x, 0⟩, fun h => hxy ?_, by simp only [dot]; grind⟩
     simp only [zero, V.mk.injEq] at h; omega
 obtain ⟨b, hbN, hb0⟩ := nf he0
 have hba : b ≠ a := fun h => hb0 (by rw [h, wy_self, dot_zero])
 have hfn : dot (neg f) e = 0 := by simp only [dot, neg] at *; grind
 obtain ⟨y, hy, hfar⟩ := far (w := wy P a) hfn ((List.range N).filter fun k => decide (k ≠ a)) (List.ne_nil_of_mem (a := b) (by simp [hbN, hba])) (fun y hy => by
   have := List.mem_filter.1 hy
   have h1 := hf y (by simpa using this.1) (by simpa using this.2)
   have e : dot (neg f) (wy P a y) = - dot f (wy P a y) := by simp only [dot, neg]; grind
   omega)
 have hyN : y < N := by simpa using (List.mem_filter.1 hy).1
 have hya : y ≠ a := by simpa using (List.mem_filter.1 hy).2
 have fy := hf y hyN hya
 obtain ⟨m, hm⟩ : ∃ m, m = cross (wy P a y) e := ⟨_, rfl⟩
 have mle : ∀ x, x < N -> dot m (wy P a x) <= 0 := fun x hx => by
   by_cases hxa : x = a
   . rw [hxa, wy_self, dot_zero]; omega
   . have h1 := hfar x (by simp [hx, hxa])
     have e2 : dot m (wy P a x) = - dot e (cross (wy P a y) (wy P a x)) := by rw [hm]; simp only [dot, cross]; grind
     omega
 have m0 : m ≠ zero := fun h => by
   have p := par (hm ▸ h) f
   rw [hfe] at p
   have x1 := congrArg V.x p; have x2 := congrArg V.y p; have x3 := congrArg V.z p
   simp only [smul, Int.zero_mul] at x1 x2 x3
   exact he0 (V.ext' (zero_of_mul fy x1) (zero_of_mul fy x2) (zero_of_mul fy x3))
 have my : dot m (wy P a y) = 0 := by rw [hm]; simp only [dot, cross]; grind
 have mm := dot_self_pos m0
 clear hfar hm he0 hfe hfn
 by_cases hx : ∃ x, x < N /\ dot m (wy P a x) = 0 /\ cross (wy P a y) (wy P a x) ≠ zero
 . obtain ⟨x, hxN, hxm, hxc⟩ := hx
   have hxa : a ≠ x := fun h => hxc (by rw [<- h, wy_self]; apply V.ext' <;> simp [cross, zero])
   have hyx : y ≠ x := fun h => hxc (by rw [<- h]; apply V.ext' <;> simp only [cross, zero] <;> grind)
   have c := cross_par my hxm
   have ev := par_dot c m
   rcases Int.lt_trichotomy 0 (dot m (cross (wy P a y) (wy P a x))) with s | s | s
   . refine done y x hyN hxN (Ne.symm hya) hxa hyx hxc fun u hu => ?_
     have h1 := ev (wy P a u)
     have h2 : dot m (cross (wy P a y) (wy P a x)) * dot m (wy P a u) <= 0 := Int.mul_nonpos_of_nonneg_of_nonpos (Int.le_of_lt s) (mle u hu)
     rcases Int.lt_or_le 0 (dot (cross (wy P a y) (wy P a x)) (wy P a u)) with k | k
     . have := Int.mul_pos mm k; omega
     . exact k
   . exfalso
     have h1 := ev (cross (wy P a y) (wy P a x))
     rw [<- s, Int.zero_mul] at h1
     exact hxc (dot_self_zero (zero_of_mul mm h1))
   . have sw : ∀ v : V, dot (cross (wy P a x) (wy P a y)) v = - dot (cross (wy P a y) (wy P a x)) v := fun v => by simp only [dot, cross]; grind
     refine done x y hxN hyN hxa (Ne.symm hya) (Ne.symm hyx) (fun h => hxc ?_) fun u hu => ?_
     . have h' : cross (wy P a x) (wy P a y) = zero := h
       have x1 := congrArg V.x h'; have x2 := congrArg V.y h'; have x3 := congrArg V.z h'
       simp only [cross, zero] at x1 x2 x3
       apply V.ext' <;> simp only [cross, zero] <;> grind
     . have h1 := ev (wy P a u)
       have h2 : 0 <= dot m (cross (wy P a y) (wy P a x)) * dot m (wy P a u) := Int.mul_nonneg_of_nonpos_of_nonpos (Int.le_of_lt s) (mle u hu)
       show dot (cross (wy P a x) (wy P a y)) (wy P a u) <= 0
       rw [sw]
       have := nn_of_mul mm (h1 ▸ h2)
       omega
 . have hcol : ∀ x, x < N -> dot m (wy P a x) = 0 -> cross (wy P a y) (wy P a x) = zero := fun x h1 h2 => Classical.byContradiction fun h3 => hx ⟨x, h1, h2, h3⟩
   obtain ⟨z0, hz0N, hz0⟩ := nf m0
   have hz0' := mle z0 hz0N
   obtain ⟨z, hz, hfar⟩ := far (w := wy P a) my ((List.range N).filter fun k => decide (dot m (wy P a k) < 0)) (List.ne_nil_of_mem (a := z0) (by simp [hz0N]; omega)) (fun y hy => by simpa using (List.mem_filter.1 hy).2)
   have hzN : z < N := by simpa using (List.mem_filter.1 hz).1
   have hzm : dot m (wy P a z) < 0 := by simpa using (List.mem_filter.1 hz).2
   have haz : a ≠ z := fun h => by rw [<- h, wy_self, dot_zero] at hzm; omega
   have hzy : z ≠ y := fun h => by rw [h] at hzm; omega
   refine done z y hzN hyN haz (Ne.symm hya) hzy (fun h => ?_) fun u hu => ?_
   . have p := par (h : cross (wy P a z) (wy P a y) = zero) m
     rw [my] at p
     have hf0 : dot (wy P a y) f = dot f (wy P a y) := by simp only [dot]; grind
     have x1 := congrArg V.x p; have x2 := congrArg V.y p; have x3 := congrArg V.z p
     simp only [smul, Int.zero_mul] at x1 x2 x3
     have y1 : (wy P a y).x = 0 := (Int.mul_eq_zero.1 x1).resolve_left (by omega)
     have y2 : (wy P a y).y = 0 := (Int.mul_eq_zero.1 x2).resolve_left (by omega)
     have y3 : (wy P a y).z = 0 := (Int.mul_eq_zero.1 x3).resolve_left (by omega)
     have : dot f (wy P a y) = 0 := by simp only [dot, y1, y2, y3]; omega
     omega
   . show dot (cross (wy P a z) (wy P a y)) (wy P a u) <= 0
     rcases Int.lt_or_eq_of_le (mle u hu) with k | k
     . have h1 := hfar u (by simp [hu, k])
       have e2 : dot (cross (wy P a z) (wy P a y)) (wy P a u) = - dot (wy P a y) (cross (wy P a z) (wy P a u)) := by simp only [dot, cross]; grind
       omega
     . have h1 := hcol u hu k
       have e2 : dot (cross (wy P a z) (wy P a y)) (wy P a u) = dot (wy P a z) (cross (wy P a y) (wy P a u)) := by simp only [dot, cross]; grind
       rw [e2, h1, dot_zero]; omega
def Vtx (P : Nat -> V) (N : Nat) (k : Nat) : Prop := ∃ n d, IsF P N n d /\ k ∈ OnPl P N n d /\ Ext P (OnPl P N n d) k
theorem argmax (φ : Nat -> Int) : ∀ N, 0 < N -> ∃ a, a < N /\ (∀ x, x < N -> φ x <= φ a) /\ ∀ x, x < a -> φ x < φ a
 | 0, h => absurd h (by omega)
 | 1, _ => ⟨0, by omega, fun x hx => by have : x = 0 := by omega
                                        subst this; omega, fun x hx => by omega⟩
 | N + 2, _ => by
   obtain ⟨a, h1, h2, h3⟩ := argmax φ (N + 1) (by omega)
   by_cases h : φ (N + 1) <= φ a
   . refine ⟨a, by omega, fun x hx => ?_, h3⟩
     rcases Nat.lt_or_ge x (N + 1) with k | k
     . exact h2 x k
     . rw [show x = N + 1 by omega]; exact h
   . refine ⟨N + 1, by omega, fun x hx => ?_, fun x hx => ?_⟩
     . rcases Nat.lt_or_ge x (N + 1) with k | k
       . have := h2 x k; omega
       . rw [show x = N + 1 by omega]; omega
     . have := h2 x hx; omega
theorem vtx_max (hl : ∀ i j, i < j -> j < N -> lexlt (P i) (P j)) {n0 : V} {d0 : Int} (h0 : IsF P N n0 d0) (n : V) : ∃ a, Vtx P N a /\ ∀ x, x < N -> dot n (P x) <= dot n (P a) := by
 obtain ⟨i, j, k, _, _, hk, _⟩ := h0.ex
 obtain ⟨a, haN, hmax, hfst⟩ := argmax (fun x => dot n (P x)) N (by omega)
 obtain ⟨g, hg⟩ : Ext P ((List.range N).filter fun x => decide (dot n (P x) = dot n (P a))) a := first_ext fun x hx hxa => by
   have h1 := List.mem_filter.1 hx
   have hxN : x < N := by simpa using h1.1
   have hxe : dot n (P x) = dot n (P a) := by simpa using h1.2
   rcases Nat.lt_trichotomy x a with c | c | c
   . have := hfst x c; omega
   . exact absurd c hxa
   . exact hl a x c hxN
 obtain ⟨K, hK, hb⟩ := list_bound (fun x => dot g (wy P a x)) (List.range N)
 have hf : ∀ x, x < N -> x ≠ a -> 0 < dot (add (smul (-K) n) g) (wy P a x) := fun x hx hxa => by
   have e : dot (add (smul (-K) n) g) (wy P a x) = -K * dot n (wy P a x) + dot g (wy P a x) := by simp only [dot, add, smul]; grind
   rw [e, dot_wy]
   have h1 := hmax x hx
   by_cases hxe : dot n (P x) = dot n (P a)
   . have := hg x (by simp [hx, hxe]) hxa
     rw [hxe, Int.sub_self, Int.mul_zero]; omega
   . have h2 := (hb x (by simp [hx])).1
     have h3 : K * 1 <= K * (dot n (P a) - dot n (P x)) := Int.mul_le_mul_of_nonneg_left (by omega) (by omega)
     have h4 : -K * (dot n (P x) - dot n (P a)) = K * (dot n (P a) - dot n (P x)) := by rw [Int.neg_mul, <- Int.mul_neg]; congr 1; omega
     rw [h4]
     omega
 obtain ⟨n', d', hF, hm⟩ := facet_at h0 haN hf
 exact ⟨a, ⟨n', d', hF, hm, _, fun x hx hxa => hf x (mem_onPl.1 hx).1 hxa⟩, fun x hx => hmax x hx⟩
end
end Go.Proofs.YtjjjkojfijpeeaaGreat.Geo
end
section
namespace Go.Proofs.YtjjjkojfijpeeaaGreat.Geo
open V
section
variable {P P' : Nat -> V} {N N' : Nat}
theorem wy_eq {a b a' b' : Nat} (h1 : P a = P' a') (h2 : P b = P' b') : wy P a b = wy P' a' b' := by simp only [wy, h1, h2]
theorem inj_of (hl : ∀ i j, i < j -> j < N -> lexlt (P i) (P j)) {i j : Nat} (hi : i < N) (hj : j < N) (h : P i = P j) : i = j := by
 rcases Nat.lt_trichotomy i j with c | c | c
 . have := hl i j c hj; rw [h] at this; exact absurd this (lexlt_irr _)
 . exact c
 . have := hl j i c hi; rw [h] at this; exact absurd this (lexlt_irr _)
theorem lt_of_lex (hl : ∀ i j, i < j -> j < N -> lexlt (P i) (P j)) {i j : Nat} (hi : i < N) (hj : j < N) (h : lexlt (P i) (P j)) : i < j := by
 rcases Nat.lt_trichotomy i j with c | c | c
 . exact c
 . subst c; exact absurd h (lexlt_irr _)
 . exact absurd (hl j i c hi) (lexlt_asy _ _ h)
theorem IsF.corners (hl : ∀ i j, i < j -> j < N -> lexlt (P i) (P j)) {n : V} {d : Int} (h : IsF P N n d) : ∃ a b c, a ∈ OnPl P N n d /\ b ∈ OnPl P N n d /\ c ∈ OnPl P N n d /\ Vtx P N a /\ Vtx P N b /\ Vtx P N c /\ 0 < T n (wy P a b) (wy P a c) := by
 have F := h.flat hl
 obtain ⟨a0, _, m0, x0, _, hoth⟩ := h.head hl
 obtain ⟨a1, _, s01⟩ := next_side F m0 x0 (hoth a0 m0)
 have m1 := s01.mem; have x1 := s01.ext F m0
 obtain ⟨a2, _, s12⟩ := next_side F m1 x1 (hoth a1 m1)
 have m2 := s12.mem; have x2 := s12.ext F m1
 have d02 : a0 ≠ a2 := fun e => no_back hl h m0 s01 (e ▸ s12)
 have t1 : T n (wy P a1 a2) (wy P a1 a0) ≠ 0 := fun e => d02 (Ext.ray F m1 m2 m0 x1 x2 x0 s12.ne (Ne.symm s01.ne) e).symm
 have := (s12.all a0 m0).1
 exact ⟨a1, a2, a0, m1, m2, m0, ⟨n, d, h, m1, x1⟩, ⟨n, d, h, m2, x2⟩, ⟨n, d, h, m0, x0⟩, by omega⟩
variable (hl : ∀ i j, i < j -> j < N -> lexlt (P i) (P j)) (hl' : ∀ i j, i < j -> j < N' -> lexlt (P' i) (P' j))
 (hsub : ∀ k, k < N' -> ∃ j, j < N /\ P j = P' k /\ Vtx P N j) (hsup : ∀ k, Vtx P N k -> ∃ j, j < N' /\ P' j = P k)
include hl hl' hsub hsup
theorem isF_sub {n : V} {d : Int} (h : IsF P N n d) : IsF P' N' n d := by
 have _ := hl'
 obtain ⟨a, b, c, ma, mb, mc, va, vb, vc, ht⟩ := h.corners hl
 have F := h.flat hl
 obtain ⟨a', ha', ea⟩ := hsup a va
 obtain ⟨b', hb', eb⟩ := hsup b vb
 obtain ⟨c', hc', ec⟩ := hsup c vc
 have w1 : wy P' a' b' = wy P a b := wy_eq ea eb
 have w2 : wy P' a' c' = wy P a c := wy_eq ea ec
 have ct : cross n (cross (wy P a b) (wy P a c)) = zero := cross_par (F.pl a ma b mb) (F.pl a ma c mc)
 have tn : 0 < dot n (cross (wy P a b) (wy P a c)) := ht
 have hm : tri P' a' b' c' = cross (wy P a b) (wy P a c) := by unfold tri; rw [w1, w2]
 have nn := dot_self_pos F.nz
 have ev := fun v => par_dot ct n v
 have hab : a' ≠ b' := fun e => by
   have : wy P a b = zero := by rw [<- w1, e, wy_self]
   rw [this] at tn; simp [cross, dot, zero] at tn
 have hac : a' ≠ c' := fun e => by
   have : wy P a c = zero := by rw [<- w2, e, wy_self]
   rw [this] at tn; simp [cross, dot, zero] at tn
 have hbc : b' ≠ c' := fun e => by
   have : wy P a c = wy P a b := by rw [<- w2, <- e, w1]
   rw [this] at tn
   have : dot n (cross (wy P a b) (wy P a b)) = 0 := by simp only [dot, cross]; grind
   omega
 have low : ∀ x, x < N' -> dot n (wy P' a' x) <= 0 /\ ∀ j, j < N -> P j = P' x -> dot n (wy P' a' x) = dot n (P j) - d := fun x hx => by
   obtain ⟨j, hj, ej, _⟩ := hsub x hx
   have e1 : dot n (P' a') = d := by rw [ea]; exact (mem_onPl.1 ma).2
   refine ⟨?_, fun j _ ej => by rw [dot_wy, e1, ej]⟩
   rw [dot_wy, e1, <- ej]; have := h.supp.1 j hj; omega
 obtain ⟨z, hz, hzd⟩ := h.supp.2
 obtain ⟨y, vy, hy⟩ := vtx_max hl h (neg n)
 obtain ⟨y', hy', ey⟩ := hsup y vy
 have hyl : dot n (P y) < d := by
   have := hy z hz
   have e1 : dot (neg n) (P z) = - dot n (P z) := by simp only [dot, neg]; grind
   have e2 : dot (neg n) (P y) = - dot n (P y) := by simp only [dot, neg]; grind
   omega
 have hle : ∀ x, x < N' -> dot (cross (wy P a b) (wy P a c)) (wy P' a' x) <= 0 := fun x hx => by
   have h1 := ev (wy P' a' x)
   have h2 : dot n (cross (wy P a b) (wy P a c)) * dot n (wy P' a' x) <= 0 := Int.mul_nonpos_of_nonneg_of_nonpos (Int.le_of_lt tn) (low x hx).1
   rcases Int.lt_or_le 0 (dot (cross (wy P a b) (wy P a c)) (wy P' a' x)) with k | k
   . have := Int.mul_pos nn k; omega
   . exact k
 have hlt : dot (cross (wy P a b) (wy P a c)) (wy P' a' y') < 0 := by
   have h1 := ev (wy P' a' y')
   have h3 : dot n (wy P' a' y') < 0 := by
     obtain ⟨n1, d1, f1, my, _⟩ := vy
     have := (low y' hy').2 y (mem_onPl.1 my).1 ey.symm
     omega
   have h2 : dot n (cross (wy P a b) (wy P a c)) * dot n (wy P' a' y') < 0 := Int.mul_neg_of_pos_of_neg tn h3
   rcases Int.lt_or_le (dot (cross (wy P a b) (wy P a c)) (wy P' a' y')) 0 with k | k
   . exact k
   . have := Int.mul_nonneg (Int.le_of_lt nn) k; omega
 obtain ⟨n', g, hg, hmg, hF⟩ := isF_of (P := P') ha' hb' hc' hab hac hbc hm.symm hle ⟨y', hy', hlt⟩
 have hnn : n = n' := by
   refine prim_par h.nz.2 hF.nz.2 tn (Int.mul_pos nn hg) ?_
   have p := par ct n
   rw [<- p, hmg]
   apply V.ext' <;> simp only [smul] <;> grind
 subst hnn
 have : dot n (P' a') = d := by rw [ea]; exact (mem_onPl.1 ma).2
 rw [this] at hF
 exact hF
theorem isF_sup {n0 : V} {d0 : Int} (h0 : IsF P N n0 d0) {n : V} {d : Int} (h : IsF P' N' n d) : IsF P N n d := by
 obtain ⟨i, j, k, hij, hjk, hk, h1, h2, h3⟩ := h.ex
 obtain ⟨i', hi', ei, _⟩ := hsub i (by omega)
 obtain ⟨j', hj', ej, _⟩ := hsub j (by omega)
 obtain ⟨k', hk', ek, _⟩ := hsub k hk
 have ht : tri P i' j' k' = tri P' i j k := by unfold tri; rw [wy_eq ei ej, wy_eq ei ek]
 refine ⟨⟨i', j', k', lt_of_lex hl hi' hj' (by rw [ei, ej]; exact hl' i j hij (by omega)), lt_of_lex hl hj' hk' (by rw [ej, ek]; exact hl' j k hjk hk), hk', by rw [ht]; exact h1, by rw [ht]; exact h2, by rw [ei]; exact h3⟩, fun x hx => ?_, ?_⟩
 . obtain ⟨a, va, hmax⟩ := vtx_max hl h0 n
   obtain ⟨a', ha', ea⟩ := hsup a va
   have h4 := h.supp.1 a' ha'
   rw [ea] at h4
   have := hmax x hx
   omega
 . obtain ⟨z, hz, hzd⟩ := h.supp.2
   obtain ⟨z', hz', ez, _⟩ := hsub z hz
   exact ⟨z', hz', by rw [ez]; exact hzd⟩
theorem vtx_sub {k : Nat} (hk : k < N') : Vtx P' N' k := by
 obtain ⟨j, hj, ej, n, d, hF, hm, f, hf⟩ := hsub k hk
 have hF' := isF_sub hl hl' hsub hsup hF
 refine ⟨n, d, hF', mem_onPl.2 ⟨hk, by rw [<- ej]; exact (mem_onPl.1 hm).2⟩, f, fun x hx hxk => ?_⟩
 have hx' := mem_onPl.1 hx
 obtain ⟨y, hy, ey, _⟩ := hsub x hx'.1
 have hyj : y ≠ j := fun e => hxk (inj_of hl' hx'.1 hk (by rw [<- ey, <- ej, e]))
 have := hf y (mem_onPl.2 ⟨hy, by rw [ey]; exact hx'.2⟩) hyj
 rw [wy_eq ej ey] at this
 exact this
end
end Go.Proofs.YtjjjkojfijpeeaaGreat.Geo
end
section
set_option linter.unusedVariables false
namespace Go.Proofs.YtjjjkojfijpeeaaGreat.Sy
open Go Go.Proofs Go.Proofs.YtjjjkojfijpeeaaGreat.Geo
theorem c49 (n : Nat) (a b : List V) (ha : a.length <= 1000000) : cA (n + 1) 49 [encL a, encL b] = some (.bool (decide (a = b))) := by
 rw [u49]
 unfold F49
 refine bind_eq (z := a.map encV) rfl (bind_eq (z := b.map encV) rfl ?_)
 rw [mapV_len, mapV_len, beq_nat]
 by_cases hab : a.length = b.length
 . rw [decide_eq_true hab]
   refine bind_eq (z := false) rfl ?_
   rw [if_neg (by decide)]
   refine bind_eq (z := a.map encV) rfl ?_
   refine lp_for (fun i s => s = [I (i : Int)] /\ a.take i = b.take i) a.length 0 (Nat.zero_le _) ⟨rfl, by simp⟩ (fun i hi s hJ => ?_) (fun s hJ => ?_)
   . obtain ⟨rfl, hz⟩ := hJ
     have hib : i < b.length := by omega
     have pre : ∀ z, (Option.bind (D.truth (D.bool (!(D.beq (encV (a.getD i V.zero)) (encV (b.getD i V.zero)))))) fun b14 =>
         if b14 then (some (Sum.inr (0, [(D.bool false)]))) else (Option.bind (D.bin .add (I (i : Int)) (D.int .i64 1)) fun x15 => some (Sum.inl [x15]))) = some z ->
         (Option.bind (D.bin .lss (I (i : Int)) (D.int .i64 (List.length (a.map encV)))) fun x6 => Option.bind (D.truth x6) fun b7 =>
         if b7 then (Option.bind (D.asSl (encL a)) fun l8 => Option.bind (D.idx (I (i : Int)) (List.length l8)) fun i9 => Option.bind (l8[i9]?) fun x10 => Option.bind (D.asSl (encL b)) fun l11 => Option.bind (D.idx (I (i : Int)) (List.length l11)) fun i12 => Option.bind (l11[i12]?) fun x13 =>
         Option.bind (D.truth (D.bool (!(D.beq x10 x13)))) fun b14 =>
         if b14 then (some (Sum.inr (0, [(D.bool false)]))) else (Option.bind (D.bin .add (I (i : Int)) (D.int .i64 1)) fun x15 => some (Sum.inl [x15]))) else (some (Sum.inr (1, []) : Sum (List D) (Nat × List D)))) = some z := fun z hz =>
       bind_eq b_lss (bind_eq tr_b (iteT (by show ((i : Int) < ((a.map encV).length : Int)); rw [mapV_len]; omega) (bind_eq (z := a.map encV) rfl (bind_eq (z := i) (by rw [mapV_len]; exact idx_n hi) (bind_eq (getDL hi) (bind_eq (z := b.map encV) rfl (bind_eq (z := i) (by rw [mapV_len]; exact idx_n hib) (bind_eq (getDL hib) hz))))))))
     rw [beq_V] at pre
     by_cases he : a.getD i V.zero = b.getD i V.zero
     . left
       refine ⟨[I ((i + 1 : Nat) : Int)], pre _ ?_, rfl, ?_⟩
       . rw [decide_eq_true he]
         refine bind_eq (z := false) rfl ?_
         rw [if_neg (by decide)]
         exact bind_eq (b_add (inR_nat (i := i) (by omega))) rfl
       . rw [List.take_succ_eq_append_getElem hi, List.take_succ_eq_append_getElem hib, hz]
         simp only [List.getD, hi, hib, List.getElem?_eq_getElem, Option.getD_some] at he
         rw [he]
     . right
       refine ⟨(0, [.bool false]), pre _ ?_, ?_⟩
       . rw [decide_eq_false he]; rfl
       . rw [decide_eq_false (fun e => he (by rw [e]))]; rfl
   . obtain ⟨rfl, hz⟩ := hJ
     refine ⟨(1, []), ?_, ?_⟩
     . exact bind_eq b_lss (bind_eq tr_b (iteF (by show ¬ ((a.length : Int) < ((a.map encV).length : Int)); rw [mapV_len]; omega) rfl))
     . rw [List.take_length, hab, List.take_length] at hz
       rw [decide_eq_true hz]; rfl
 . rw [decide_eq_false hab, decide_eq_false (fun e => hab (by rw [e]))]
   rfl
theorem h11 (n : Nat) (l : List V) : ∃ (e : Int) (vs : List V), cA (n + 9) 11 [encL l] = some (.tup [encC vs, I e]) /\ cA (n + 9) 12 [encL l] = some (.st [encC vs, I e]) /\ vs.length <= 64 ∧
   (e = 0 -> l.length <= 64 /\ (∀ x ∈ l, bd MV x) /\ ∃ F : FL, KnF (srtL l) (srtL l).length 0 0 F /\ 4 <= F.length /\ F.length <= 64 /\ vs = verts (srtL l) F (srtL l).length) := by
 by_cases h64 : 64 < l.length
 . exact ⟨2, [], c11_big (n + 8) h64, c12_big (n + 8) h64, by simp, fun h => by omega⟩
 by_cases hb : ∀ x ∈ l, bd MV x
 rotate_left
 . exact ⟨1, [], c11_bad (n + 8) (by omega) hb, c12_bad (n + 8) (by omega) hb, by simp, fun h => by omega⟩
 have hsl := srtL_len l
 have hS := srt_of (srtL_ord l)
 have hSb := srtL_bd hb
 obtain ⟨F, hK, h48⟩ := c48 (n + 1) hSb (by omega) hS
 have hFk := hK.fok
 have hpl : ∀ f ∈ F, f.2.length <= 1000000 /\ ∀ x ∈ f.2, x < (srtL l).length := fun f hf => by
   obtain ⟨q1, q2⟩ := hFk.ok f hf
   have := poly_len hS q1 q2
   exact ⟨by omega, this.2.2.2⟩
 have hFl := Nat.le_trans (hFk.len (by omega)) (show 2000000 <= 3000000 by decide)
 have g12 := c12_good (n + 6) (by omega) hb (fun f hf => (hpl f hf).1) hFl h48
 obtain ⟨y, h45, K, L, k1, k2, k3, rfl⟩ := p45 (n + 2) hSb (by omega)
 have eL : F.map Prod.fst = L := Facets.eq hK.facets (k1.facets k2 k3)
 have h45' : cA (n + 8) 45 [encL (srtL l)] = some (.sl (F.map fun f => encP f.1)) := by rw [h45, <- eL, List.map_map]; rfl
 have g11 := c11_good (n + 8) (by omega) hb (by omega) hpl hFl (c44 (n + 4) l (by omega)) h45' fun f hf => by
   obtain ⟨q1, q2⟩ := hFk.ok f hf
   obtain ⟨p, p1, p2⟩ := p46 (n + 3) hSb (by omega) hS q1 (isF_bd hSb q1)
   rw [IsPoly.eq hS q1 q2 p1]
   exact p2
 have hvl := verts_len (srtL l) F (srtL l).length
 have h4 : F.length = 0 \/ 4 <= F.length := by
   by_cases h : F.length = 0
   . exact .inl h
   . right
     have := four hS hK.facets (fun e => h (by rw [<- List.length_map (f := Prod.fst), e]; rfl))
     rwa [List.length_map] at this
 unfold hullP at g11
 unfold hullD at g12
 rcases h4 with h4 | h4
 . rw [if_pos (by omega)] at g11
   rw [if_pos h4] at g12
   exact ⟨120, [], g11, g12, by simp, fun h => by omega⟩
 . rw [if_neg (by omega)] at g11
   rw [if_neg (by omega)] at g12
   by_cases h5 : F.length > 64
   . rw [if_pos h5] at g11 g12
     exact ⟨2, [], g11, g12, by simp, fun h => by omega⟩
   . rw [if_neg h5] at g11 g12
     exact ⟨0, _, g11, g12, by omega, fun _ => ⟨by omega, hb, F, hK, h4, by omega, rfl⟩⟩
theorem h14 (n : Nat) (l : List V) {e : Int} {vs : List V} (h1 : cA (n + 9) 11 [encL l] = some (.tup [encC vs, I e])) (h2 : cA (n + 9) 12 [encL l] = some (.st [encC vs, I e])) (hv : vs.length <= 64) :
   cA (n + 10) 14 [encC l] = some (I (if e = 0 /\ vs ≠ l then 3 else e)) /\ cA (n + 10) 15 [encC l] = some (I (if e = 0 /\ vs ≠ l then 3 else e)) := by
 rw [u14, u15]
 unfold F14 F15
 have h13 := c13 (n + 8) vs l (by omega)
 have h49 := c49 (n + 8) vs l (by omega)
 have hbe : D.beq (I e) (D.int .i64 0) = decide (e = 0) := beq_i
 by_cases he : e = 0
 . subst he
   by_cases hvl : vs = l
   . rw [if_neg (fun h => h.2 hvl)]
     rw [decide_eq_true hvl] at h13 h49
     constructor
     . refine bind_eq (z := encL l) rfl (bind_eq h1 (bind_eq (z := encC vs) rfl (bind_eq (z := I 0) rfl (bind_eq (z := true) rfl (bind_eq (z := false) ?_ (bind_eq (z := false) rfl rfl))))))
       rw [if_pos rfl]
       exact bind_eq (z := encL vs) rfl (bind_eq (z := encL l) rfl (bind_eq h49 rfl))
     . refine bind_eq (z := encL l) rfl (bind_eq h2 (bind_eq (z := I 0) rfl (bind_eq (z := true) rfl (bind_eq (z := false) ?_ (bind_eq (z := false) rfl rfl)))))
       rw [if_pos rfl]
       exact bind_eq (z := encL vs) rfl (bind_eq (z := encL l) rfl (bind_eq h13 rfl))
   . rw [if_pos ⟨rfl, hvl⟩]
     rw [decide_eq_false hvl] at h13 h49
     constructor
     . refine bind_eq (z := encL l) rfl (bind_eq h1 (bind_eq (z := encC vs) rfl (bind_eq (z := I 0) rfl (bind_eq (z := true) rfl (bind_eq (z := true) ?_ (bind_eq (z := true) rfl rfl))))))
       rw [if_pos rfl]
       exact bind_eq (z := encL vs) rfl (bind_eq (z := encL l) rfl (bind_eq h49 rfl))
     . refine bind_eq (z := encL l) rfl (bind_eq h2 (bind_eq (z := I 0) rfl (bind_eq (z := true) rfl (bind_eq (z := true) ?_ (bind_eq (z := true) rfl rfl)))))
       rw [if_pos rfl]
       exact bind_eq (z := encL vs) rfl (bind_eq (z := encL l) rfl (bind_eq h13 rfl))
 . rw [if_neg (fun h => he h.1)]
   constructor
   . refine bind_eq (z := encL l) rfl (bind_eq h1 (bind_eq (z := encC vs) rfl (bind_eq (z := I e) rfl (bind_eq (z := false) ?_ (bind_eq (z := false) rfl (bind_eq (z := false) rfl rfl))))))
     rw [hbe, decide_eq_false he]; rfl
   . refine bind_eq (z := encL l) rfl (bind_eq h2 (bind_eq (z := I e) rfl (bind_eq (z := false) ?_ (bind_eq (z := false) rfl (bind_eq (z := false) rfl rfl)))))
     rw [hbe, decide_eq_false he]; rfl
end Go.Proofs.YtjjjkojfijpeeaaGreat.Sy
end
section
set_option linter.unusedVariables false
namespace Go.Proofs.YtjjjkojfijpeeaaGreat.Sy
open Go Go.Proofs Go.Proofs.YtjjjkojfijpeeaaGreat.Geo
theorem good11 (n : Nat) {l : List V} (h64 : l.length <= 64) (hb : ∀ x ∈ l, bd MV x) : ∃ F : FL, KnF (srtL l) (srtL l).length 0 0 F /\ cA (n + 9) 11 [encL l] = some (hullP (srtL l) F) /\ cA (n + 9) 12 [encL l] = some (hullD (srtL l) F) := by
 have hsl := srtL_len l
 have hS := srt_of (srtL_ord l)
 have hSb := srtL_bd hb
 obtain ⟨F, hK, h48⟩ := c48 (n + 1) hSb (by omega) hS
 have hFk := hK.fok
 have hpl : ∀ f ∈ F, f.2.length <= 1000000 /\ ∀ x ∈ f.2, x < (srtL l).length := fun f hf => by
   obtain ⟨q1, q2⟩ := hFk.ok f hf
   have := poly_len hS q1 q2
   exact ⟨by omega, this.2.2.2⟩
 have hFl := Nat.le_trans (hFk.len (by omega)) (show 2000000 <= 3000000 by decide)
 have g12 := c12_good (n + 6) (by omega) hb (fun f hf => (hpl f hf).1) hFl h48
 obtain ⟨y, h45, K, L, k1, k2, k3, rfl⟩ := p45 (n + 2) hSb (by omega)
 have eL : F.map Prod.fst = L := Facets.eq hK.facets (k1.facets k2 k3)
 have h45' : cA (n + 8) 45 [encL (srtL l)] = some (.sl (F.map fun f => encP f.1)) := by rw [h45, <- eL, List.map_map]; rfl
 exact ⟨F, hK, c11_good (n + 8) (by omega) hb (by omega) hpl hFl (c44 (n + 4) l (by omega)) h45' (fun f hf => by
   obtain ⟨q1, q2⟩ := hFk.ok f hf
   obtain ⟨p, p1, p2⟩ := p46 (n + 3) hSb (by omega) hS q1 (isF_bd hSb q1)
   rw [IsPoly.eq hS q1 q2 p1]
   exact p2), g12⟩
theorem inFac_vtx {S : List V} (hS : Srt S) {F : FL} (hK : KnF S S.length 0 0 F) {k : Nat} : inFac F k = true ↔ Vtx (pt S) S.length k := by
 constructor
 . intro h
   obtain ⟨f, hf, h2⟩ := List.any_eq_true.1 h
   obtain ⟨x, hx, hxk⟩ := List.any_eq_true.1 h2
   have hxk : x = k := by simpa using hxk
   subst hxk
   obtain ⟨q1, q2⟩ := hK.fok.ok f hf
   obtain ⟨p, p1, _, p3⟩ := q1.poly hS
   rw [<- IsPoly.eq hS q1 q2 p1] at p3
   obtain ⟨r1, r2⟩ := (p3 x).1 hx
   exact ⟨_, _, q1, r1, r2⟩
 . rintro ⟨m, d, hF, h1, h2⟩
   have hq : (m, d) ∈ F.map Prod.fst := (hK.facets.mem (m, d)).2 hF
   obtain ⟨f, hf, hfe⟩ := List.mem_map.1 hq
   obtain ⟨q1, q2⟩ := hK.fok.ok f hf
   rw [hfe] at q1 q2
   obtain ⟨p, p1, _, p3⟩ := q1.poly hS
   rw [<- IsPoly.eq hS q1 q2 p1] at p3
   exact List.any_eq_true.2 ⟨f, hf, List.any_eq_true.2 ⟨k, (p3 k).2 ⟨h1, h2⟩, by simp⟩⟩
theorem pt_all (S : List V) : ((List.range S.length).map (pt S)) = S := by
 apply List.ext_getElem?
 intro i
 by_cases h : i < S.length
 . rw [List.getElem?_map, List.getElem?_range h]; simp [pt, List.getD, h]
 . rw [List.getElem?_map, show (List.range S.length)[i]? = none by simp; omega]; simp; omega
theorem again (n : Nat) {l vs : List V} (hb : ∀ x ∈ l, bd MV x) {F : FL} (hK : KnF (srtL l) (srtL l).length 0 0 F) (h4 : 4 <= F.length) (h64 : F.length <= 64) (hvs : vs = verts (srtL l) F (srtL l).length) (hvl : vs.length <= 64) :
   cA (n + 9) 11 [encL vs] = some (.tup [encC vs, I 0]) /\ cA (n + 9) 12 [encL vs] = some (.st [encC vs, I 0]) := by
 have hS := srt_of (srtL_ord l)
 have hsub0 : vs.Sublist (srtL l) := hvs ▸ verts_sub (srtL l) F
 have hord : vs.Pairwise lexlt := List.Pairwise.sublist hsub0 (srtL_ord l)
 have hS' := srt_of hord
 have hvb : ∀ x ∈ vs, bd MV x := fun x hx => srtL_bd hb x (hsub0.subset hx)
 have hvm : ∀ x : V, x ∈ vs ↔ ∃ j, j < (srtL l).length /\ inFac F j = true /\ pt (srtL l) j = x := fun x => by
   rw [hvs]; unfold verts
   simp only [List.mem_map, List.mem_filter, List.mem_range, and_assoc]
 have hsub : ∀ k, k < vs.length -> ∃ j, j < (srtL l).length /\ pt (srtL l) j = pt vs k /\ Vtx (pt (srtL l)) (srtL l).length j := fun k hk => by
   have hm : pt vs k ∈ vs := by simp [pt, List.getD, hk]
   obtain ⟨j, j1, j2, j3⟩ := (hvm _).1 hm
   exact ⟨j, j1, j3, (inFac_vtx hS hK).1 j2⟩
 have hsup : ∀ k, Vtx (pt (srtL l)) (srtL l).length k -> ∃ j, j < vs.length /\ pt vs j = pt (srtL l) k := fun k hv => by
   have hk : k < (srtL l).length := by obtain ⟨_, _, _, hm, _⟩ := hv; exact (mem_onPl.1 hm).1
   have hm : pt (srtL l) k ∈ vs := (hvm _).2 ⟨k, hk, (inFac_vtx hS hK).2 hv, rfl⟩
   obtain ⟨j, j1, j2⟩ := List.getElem_of_mem hm
   exact ⟨j, j1, by simp [pt, List.getD, j1, j2]⟩
 obtain ⟨f0, hf0⟩ : ∃ f0, f0 ∈ F := List.exists_mem_of_ne_nil F (fun e => by rw [e] at h4; simp at h4)
 have h0 := (hK.fok.ok f0 hf0).1
 have hFa : Facets (pt vs) vs.length (F.map Prod.fst) := ⟨hK.facets.ord, fun q => (hK.facets.mem q).trans ⟨fun h => isF_sub hS hS' hsub hsup h, fun h => isF_sup hS hS' hsub hsup h0 h⟩⟩
 obtain ⟨F', hK', g11, g12⟩ := good11 n hvl hvb
 rw [srtL_id hord] at hK' g11 g12
 have eF : F'.map Prod.fst = F.map Prod.fst := Facets.eq hK'.facets hFa
 have hlen : F'.length = F.length := by rw [<- List.length_map (f := Prod.fst), eF, List.length_map]
 have hvv : verts vs F' vs.length = vs := by
   unfold verts
   have : (List.range vs.length).filter (inFac F') = List.range vs.length := List.filter_eq_self.2 fun k hk => (inFac_vtx hS' hK').2 (vtx_sub hS hS' hsub hsup (List.mem_range.1 hk))
   rw [this, pt_all]
 unfold hullP at g11
 unfold hullD at g12
 rw [if_neg (by omega), if_neg (by omega), hvv] at g11
 rw [if_neg (by omega), if_neg (by omega), hvv] at g12
 exact ⟨g11, g12⟩
theorem law3 {call : Nat -> List D -> Option D} (n : Nat) (l : List V) (hc : ∀ f xs, f ≠ 10 -> call f xs = cA (n + 10) f xs) (h10 : call 10 [] = some (.bool true)) : F3 lpW call (encL l) = some (.bool true) := by
 unfold F3
 refine bind_eq (z := l.map encV) rfl (bind_eq b_gtr (bind_eq tr_b ?_))
 refine bind_eq (z := decide (l.length > 16 /\ (l.length <= 64 \/ l.length > 100))) ?_ (bind_eq tr_b ?_)
 . by_cases h16 : l.length > 16
   . refine iteT (by show ((l.map encV).length : Int) > 16; rw [mapV_len]; omega) (bind_eq (z := l.map encV) rfl (bind_eq b_leq (bind_eq tr_b ?_)))
     by_cases h64 : l.length <= 64
     . refine iteT (by show ((l.map encV).length : Int) <= 64; rw [mapV_len]; omega) ?_
       rw [decide_eq_true ⟨h16, .inl h64⟩]
     . refine iteF (by show ¬ ((l.map encV).length : Int) <= 64; rw [mapV_len]; omega) (bind_eq (z := l.map encV) rfl (bind_eq b_gtr ?_))
       rw [tr_b]
       congr 1
       rw [decide_eq_decide, mapV_len]
       omega
   . refine iteF (by show ¬ ((l.map encV).length : Int) > 16; rw [mapV_len]; omega) ?_
     rw [decide_eq_false fun h => h16 h.1]
 by_cases hcnd : l.length > 16 /\ (l.length <= 64 \/ l.length > 100)
 . exact iteT hcnd (bind_eq h10 rfl)
 refine iteF hcnd ?_
 obtain ⟨e, vs, h1, h2, hv, h0⟩ := h11 (n + 1) l
 obtain ⟨e', vs', k1, k2, kv, _⟩ := h11 n l
 obtain ⟨k14, k15⟩ := h14 n l k1 k2 kv
 have hbe : ∀ a b : Int, D.beq (I a) (I b) = decide (a = b) := fun a b => beq_i
 have h13 := c13 (n + 9) vs vs (by omega)
 rw [decide_eq_true rfl] at h13
 refine bind_eq ((hc 11 _ (by decide)).trans h1) (bind_eq (z := encC vs) rfl (bind_eq (z := I e) rfl (bind_eq ((hc 12 _ (by decide)).trans h2) (bind_eq (z := I e) rfl (bind_eq (z := false) (by rw [hbe, decide_eq_true rfl]; rfl) ?_)))))
 refine bind_eq (z := false) ?_ (bind_eq (z := false) rfl ?_)
 . rw [if_neg (by decide)]
   exact bind_eq (z := encL vs) rfl (bind_eq (z := encL vs) rfl (bind_eq ((hc 13 _ (by decide)).trans h13) rfl))
 rw [if_neg (by decide)]
 refine bind_eq h10 (bind_eq (z := true) rfl (bind_eq (z := true) ?_ (bind_eq (z := true) rfl (bind_eq (z := true) ?_ rfl))))
 . rw [if_pos rfl]
   exact bind_eq ((hc 14 _ (by decide)).trans k14) (bind_eq ((hc 15 _ (by decide)).trans k15) (by rw [hbe, decide_eq_true rfl]; rfl))
 . rw [if_pos rfl]
   by_cases he : e = 0
   . subst he
     obtain ⟨_, hb, F, hK, h4, h64, hvs⟩ := h0 rfl
     obtain ⟨g1, g2⟩ := again n hb hK h4 h64 hvs hv
     obtain ⟨g14, _⟩ := h14 n vs g1 g2 hv
     rw [if_neg fun h => h.2 rfl] at g14
     refine bind_eq (z := false) rfl ?_
     rw [if_neg (by decide)]
     exact bind_eq ((hc 14 _ (by decide)).trans g14) rfl
   . refine bind_eq (z := true) (by rw [show D.beq (I e) (D.int .i64 0) = decide (e = 0) from beq_i, decide_eq_false he]; rfl) ?_
     rw [if_pos rfl]
end Go.Proofs.YtjjjkojfijpeeaaGreat.Sy
end
section
namespace Go.Proofs.YtjjjkojfijpeeaaGreat.Sy
open Go Go.Proofs Go.Proofs.YtjjjkojfijpeeaaGreat.Geo
theorem sig3 : sigF 3 = some ([K2], .bool) := by kernel_rfl
theorem ctr3 {d : D} (h : wt K2 d) : Ctr Tryz.prog [K2] .bool 3 [d] (.bool true) := by
 obtain ⟨l, rfl⟩ := wt_K2 h
 refine L3 lpOk_loopW callM callM_ok [K2] .bool [encL l] (.bool true) sig3 ?_ ⟨_, [], rfl, h, rfl⟩
 exact law3 0 l (fun f xs hf => by unfold callM; rw [if_neg hf]) (by unfold callM; rw [if_pos rfl]; exact sanity_val)
end Go.Proofs.YtjjjkojfijpeeaaGreat.Sy
end
section
namespace Go.Proofs.YtjjjkojfijpeeaaGreat
open Go Go.ChangeShapes Go.WideShapes Go.ChangeAt Go.RowKit
namespace Sy
theorem lay22 : layB Tryz.prog K2 22 = true := by kernel_rfl
theorem under4 : Tryz.prog.underlying 4 = some .bool := by kernel_rfl
theorem DR0_of {W : World} {S : Nat -> Nat -> Prop} {d : D} {a : Option Addr} {n m : Nat} (h : wt K2 d) (k : CRl W S d.flat (Value.slice a n m).cells.toList) : DR0 W S d (.slice a n m) := by
 obtain ⟨l, rfl, _⟩ := h
 exact ⟨fun cs h => (by cases h), k⟩
theorem bool_of {W : World} {S : Nat -> Nat -> Prop} {b : Bool} {v : Value} (h : DR W S (.bool b) v) : v = .bool b := by
 obtain ⟨h1, h2⟩ := (h : DR0 W S (.bool b) v)
 have h3 := (CRl_leaf (by intro d hd; simp only [D.flat, List.mem_singleton] at hd; subst hd; rfl)).1 h2
 exact cells_single h1 (by simpa [D.flat, valOf] using h3)
theorem slice_of {P : Program} {t : Ty} {T : TypeId} (hl : layB P (.sl t) T = true) {W : World} {base : Nat} {v : Value} (h : Value.okWide P W .any base T v) : ∃ a n m, v = .slice a n m := by
 obtain ⟨u, hu, _⟩ := lay_sl hl
 exact okWide_slice hu h
end Sy
theorem ownT : ownKnob Tryz.prog.godebug = none := by kernel_rfl
theorem laidOutT : laidOutB Tryz.prog = true := by kernel_rfl
theorem params3T : Tryz.f3.params = #[22] := by kernel_rfl
set_option maxRecDepth 100000 in
theorem hull_lifted (os : Os) (started : os.Started) (H : Type) (enc : TypeId × Value -> H) :
   ReturnsInHanded {} Tryz.checked os 3 .any (Rows.hullMatchesSpecSpec.pre6 enc Tryz.prog Tryz.f3 Rows.hullMatchesSpecRow.domain false) (Rows.hullMatchesSpecSpec.post enc Tryz.prog Tryz.f3 false true false false) := by
 refine returnsInHanded_of_change (C := Tryz.checked) ownT started (by kernel_rfl) (show Tryz.prog.funcs[3]? = some Tryz.f3 by kernel_rfl)
   (ChangeSpec.witness6 (enc := enc) (C := Tryz.checked) false ⟨#[], #[.slice none 0 0], []⟩ 8 (by kernel_rfl) (by kernel_rfl) (by kernel_rfl) (by kernel_rfl)) ?_
 intro W base args ds gs before hval0 hW hcnd _
 have hval : ∀ (j : Nat) t v, Tryz.f3.params[j]? = some t -> args[j]? = some v -> Value.okWide Tryz.prog W .any base t v := hval0
 have hW' := hW
 obtain ⟨p, q, hA0, hV, rfl, hfz, hnd⟩ := hW
 have hA : DataW.TrodAll enc Tryz.prog W 0 (fun _ => true) true Tryz.f3.params.toList args.toList ds p := hA0
 rw [params3T] at hA hval
 obtain ⟨v0, d0, rfl, rfl, h0⟩ := trodAll_one hA
 obtain ⟨rfl, rfl⟩ := trodVars_none hV
 clear hA0 hval0
 obtain ⟨sa, sn, sm, rfl⟩ : ∃ a n m, v0 = .slice a n m := Sy.slice_of (P := Tryz.prog) (T := 22) Sy.lay22 (hval 0 22 v0 rfl rfl)
 have h0' := h0
 obtain ⟨fuel, hf⟩ := h0
 obtain ⟨d, hd1, hd2⟩ := Sy.trod_CR (W := W) Sy.K2 22 fuel _ _ Sy.lay22 (by rfl) hf
 have hctr := Sy.ctr3 hd1 W (Sy.valid W) [.slice sa sn sm] (fun _ _ h => Sy.valid_lt h) ⟨_, [], rfl, hd1, rfl⟩ rfl (fun i x v hx hv => by
   cases i with
   | zero => simp at hx hv; subst hx; subst hv; exact Sy.DR0_of hd1 hd2
   | succ i => simp at hx)
 refine Go.Calls.mono hctr fun e W' he => ?_
 obtain ⟨v, rfl, ⟨os', dr, hdr, rfl⟩, _, hv⟩ := he
 have hv' : v = .bool true := Sy.bool_of hv
 subst hv'
 have hb : Below W.heap.size W (grown W os' dr) := ⟨rfl, rfl, rfl, by simp [grown], fun k hk => grown_heap_old W os' dr hk⟩
 have hlt : ∀ x ∈ p, x.block < W.heap.size := fun x hx => by simpa using hW'.lt x (by simpa using hx)
 exact ⟨_, rfl, _, _, _, [], p, [], hW', trodAll_mk1 ((Go.RowKit.shut_bool (P := Tryz.prog) Sy.under4 true)), trodAll_mk1 (Below.trod laidOutT (by kernel_rfl) (of_decide_eq_true (by kernel_rfl)) h0' hb hlt), rfl, hb.frame _, fun h => by cases h⟩
theorem hullMatchesSpec_holds : Rows.HullMatchesSpecSaid :=
 OpenClaim.holds_of_wide 3 Tryz.f3 rfl rfl rfl rfl rfl rfl rfl ⟨rfl, rfl, rfl, rfl, rfl⟩ rfl rfl rfl rfl rfl (by kernel_rfl) (show Tryz.prog.funcs[3]? = some Tryz.f3 by kernel_rfl) (by kernel_rfl)
   (of_decide_eq_true (by kernel_rfl)) (by unfold Func.isWrapper; first | (rw [if_pos (by decide +kernel)]; kernel_rfl) | (rw [if_neg (by decide +kernel)]; exact ⟨rfl, rfl⟩))
   (fun os started H enc _ => hull_lifted os started H enc)
end Go.Proofs.YtjjjkojfijpeeaaGreat
end
