/- Part 12 of the proof of this: HullFacetsMatchSpec answers true at every input, and the input reads afterwards as it read before (HullFacetsMatchSpecSaid). No condition. -/
import Derived.Test.YtjjjkojfijpeeaaGreatFacets11
set_option linter.unusedVariables false
set_option linter.unusedSimpArgs false
set_option linter.unnecessarySimpa false
section
/- The functions' plain texts: loops; sums, comparisons. -/
set_option linter.unusedVariables false
namespace Go.Proofs.YtjjjkojfijpeeaaGreat.Sy
open Go Go.Proofs Go.Proofs.YtjjjkojfijpeeaaGreat.Geo

abbrev Bd := List D → Option (Sum (List D) (Nat × List D))
theorem lp_next {body : Bd} {s s' : List D} {k : Nat × List D → Option D} {y : D} (h : body s = some (.inl s')) (hk : Option.bind (lpW body s') k = some y) : Option.bind (lpW body s) k = some y := by
  have : lpW body s = lpW body s' := loopW_next h
  rw [this]; exact hk
theorem lp_end {body : Bd} {s : List D} {r : Nat × List D} {k : Nat × List D → Option D} {y : D} (h : body s = some (.inr r)) (hk : k r = some y) : Option.bind (lpW body s) k = some y := by
  have : lpW body s = some r := loopW_end h
  rw [this]; exact hk
theorem lp_val {body : Bd} {s : List D} {r : Nat × List D} {k : Nat × List D → Option D} {y : D} (h : lpW body s = some r) (hk : k r = some y) : Option.bind (lpW body s) k = some y := by
  rw [h]; exact hk
/-- A loop that counts. -/
theorem lp_for {body : Bd} {s0 : List D} {k : Nat × List D → Option D} {y : D} (J : Nat → List D → Prop) (n i0 : Nat) (hi : i0 ≤ n) (h0 : J i0 s0)
    (hs : ∀ i, i < n → ∀ s, J i s → (∃ s', body s = some (.inl s') ∧ J (i + 1) s') ∨ ∃ r, body s = some (.inr r) ∧ k r = some y) (he : ∀ s, J n s → ∃ r, body s = some (.inr r) ∧ k r = some y) : Option.bind (lpW body s0) k = some y := by
  obtain ⟨m, hm⟩ : ∃ m, m = n - i0 := ⟨_, rfl⟩
  induction m generalizing i0 s0 with
  | zero =>
    have : i0 = n := by omega
    subst this
    obtain ⟨r, h1, h2⟩ := he s0 h0
    exact lp_end h1 h2
  | succ m ih =>
    rcases hs i0 (by omega) s0 h0 with ⟨s', h1, h2⟩ | ⟨r, h1, h2⟩
    · exact lp_next h1 (ih (i0 := i0 + 1) (by omega) h2 (by omega))
    · exact lp_end h1 h2
/-- The same, where the value is asked for in the end. -/
theorem lp_for' {body : Bd} {s0 : List D} (J : Nat → List D → Prop) (Q : Nat × List D → Prop) (n i0 : Nat) (hi : i0 ≤ n) (h0 : J i0 s0)
    (hs : ∀ i, i < n → ∀ s, J i s → (∃ s', body s = some (.inl s') ∧ J (i + 1) s') ∨ ∃ r, body s = some (.inr r) ∧ Q r) (he : ∀ s, J n s → ∃ r, body s = some (.inr r) ∧ Q r) : ∃ r, lpW body s0 = some r ∧ Q r := by
  obtain ⟨m, hm⟩ : ∃ m, m = n - i0 := ⟨_, rfl⟩
  induction m generalizing i0 s0 with
  | zero =>
    have : i0 = n := by omega
    subst this
    obtain ⟨r, h1, h2⟩ := he s0 h0
    exact ⟨r, loopW_end h1, h2⟩
  | succ m ih =>
    rcases hs i0 (by omega) s0 h0 with ⟨s', h1, h2⟩ | ⟨r, h1, h2⟩
    · obtain ⟨r, k1, k2⟩ := ih (i0 := i0 + 1) (by omega) h2 (by omega)
      exact ⟨r, by rw [show lpW body s0 = lpW body s' from loopW_next h1]; exact k1, k2⟩
    · exact ⟨r, loopW_end h1, h2⟩
theorem idx_n {i n : Nat} (h : i < n) : D.idx (I (i : Int)) n = some i := by
  simp only [D.idx]
  rw [if_pos (by omega)]; simp
theorem inR_nat {i : Nat} (h : i ≤ 9223372036854775806) : inR ((i : Int) + 1) := by simp only [inR]; omega
theorem g0 {x : D} {l : List D} {d : D} : List.getD (x :: l) 0 d = x := rfl
theorem g1 {x y : D} {l : List D} {d : D} : List.getD (x :: y :: l) 1 d = y := rfl
theorem g2 {x y z : D} {l : List D} {d : D} : List.getD (x :: y :: z :: l) 2 d = z := rfl
theorem g3 {x y z w : D} {l : List D} {d : D} : List.getD (x :: y :: z :: w :: l) 3 d = w := rfl
theorem set0 (v : V) (a : Int) : D.set (encV v) [0] (I a) = some (encV ⟨a, v.y, v.z⟩) := rfl
theorem set1 (v : V) (a : Int) : D.set (encV v) [1] (I a) = some (encV ⟨v.x, a, v.z⟩) := rfl
theorem set2 (v : V) (a : Int) : D.set (encV v) [2] (I a) = some (encV ⟨v.x, v.y, a⟩) := rfl
theorem ix0 : D.idx (I 0) 3 = some 0 := rfl
theorem ix1 : D.idx (I 1) 3 = some 1 := rfl
theorem ix2 : D.idx (I 2) 3 = some 2 := rfl
theorem c154 (n : Nat) {A B : Int} {u v : V} (hu : bd A u) (hv : bd B v) (h : A + B ≤ 9223372036854775807) : cA (n + 1) 154 [encV u, encV v] = some (encV (u.add v)) := by
  have h1 : inR (u.x + v.x) := by simp only [bd, inR] at *; omega
  have h2 : inR (u.y + v.y) := by simp only [bd, inR] at *; omega
  have h3 : inR (u.z + v.z) := by simp only [bd, inR] at *; omega
  rw [u154]
  unfold F154
  refine lp_next (s' := [I 1, encV ⟨u.x + v.x, u.y, u.z⟩]) ?_ (lp_next (s' := [I 2, encV ⟨u.x + v.x, u.y + v.y, u.z⟩]) ?_ (lp_next (s' := [I 3, encV ⟨u.x + v.x, u.y + v.y, u.z + v.z⟩]) ?_ (lp_end (r := (0, [encV (u.add v)])) ?_ rfl)))
  · simp only [g0, g1, b_lss, Option.bind_some, tr_b, ix0, get0, set0, b_add h1, b_add (show inR (0 + 1) from ⟨by decide, by decide⟩)]; rfl
  · simp only [g0, g1, b_lss, Option.bind_some, tr_b, ix1, get1, set1, b_add h2, b_add (show inR (1 + 1) from ⟨by decide, by decide⟩)]; rfl
  · simp only [g0, g1, b_lss, Option.bind_some, tr_b, ix2, get2, set2, b_add h3, b_add (show inR (2 + 1) from ⟨by decide, by decide⟩)]; rfl
  · simp only [g0, g1, b_lss, Option.bind_some, tr_b]; rfl
theorem add_neg (u v : V) : u.add v.neg = u.sub v := by apply V.ext' <;> simp only [V.add, V.neg, V.sub] <;> omega
theorem c103 (n : Nat) {A B : Int} {u v : V} (hu : bd A u) (hv : bd B v) (h : A + B ≤ 9223372036854775807) : cA (n + 2) 103 [encV u, encV v] = some (encV (u.sub v)) := by
  have hA : 0 ≤ A := by simp only [bd] at hu; omega
  rw [u103]
  simp only [F103, c97 n hv (by omega), Option.bind_some, c154 n hu (bd_neg hv) h, add_neg]
theorem c112 (n : Nat) {A B : Int} {u v : V} (hu : bd A u) (hv : bd B v) (h : A + B ≤ 9223372036854775807) : cA (n + 1) 112 [encV u, encV v] = some (encV (u.sub v)) := by
  have h1 : inR (u.x - v.x) := by simp only [bd, inR] at *; omega
  have h2 : inR (u.y - v.y) := by simp only [bd, inR] at *; omega
  have h3 : inR (u.z - v.z) := by simp only [bd, inR] at *; omega
  rw [u112]
  simp only [F112, get0, get1, get2, Option.bind_some, b_sub h1, b_sub h2, b_sub h3]
  rfl
def cmpZ (a b : Int) : Int := if a < b then -1 else if a > b then 1 else 0
theorem c115 (n : Nat) (a : Int) : cA (n + 1) 115 [I a] = some (.bool false) := by
  rw [u115]; simp only [F115, beq_i]; simp
theorem c53 (n : Nat) (a b : Int) : cA (n + 2) 53 [I a, I b] = some (I (cmpZ a b)) := by
  rw [u53]
  simp only [F53, c115, Option.bind_some, tr_b, Bool.false_eq_true, if_false, b_lss, b_gtr, cmpZ, decide_eq_true_eq]
  split
  · rfl
  · split <;> rfl
def orZ : List Int → Int
  | [] => 0
  | x :: l => if x = 0 then orZ l else x
theorem c52 (n : Nat) (l : List Int) (hl : l.length ≤ 1000) : cA (n + 1) 52 [.sl (l.map fun x => I x)] = some (I (orZ l)) := by
  rw [u52]
  unfold F52
  simp only [D.asSl, Option.bind_some]
  refine lp_for (fun i s => s = [I i] ∧ orZ l = orZ (l.drop i)) l.length 0 (Nat.zero_le _) ⟨rfl, rfl⟩ (fun i hi s hJ => ?_) (fun s hJ => ?_)
  · obtain ⟨rfl, hz⟩ := hJ
    have hx : (l.map fun x => I x)[i]? = some (I l[i]) := by simp [hi]
    simp only [g0, List.length_map, b_lss, Option.bind_some, tr_b, decide_eq_true_eq, show ((i : Int) < (l.length : Int)) from by omega, if_true, idx_n hi, hx, beq_i]
    have hd : l.drop i = l[i] :: l.drop (i + 1) := List.drop_eq_getElem_cons hi
    rw [hd] at hz
    by_cases h0 : l[i] = 0
    · left
      refine ⟨[I ((i + 1 : Nat) : Int)], ?_, rfl, ?_⟩
      · simp only [h0, decide_true, Bool.not_true, Bool.false_eq_true, if_false, b_add (inR_nat (i := i) (by omega)), Option.bind_some]; rfl
      · rw [hz]; simp [orZ, h0]
    · right
      refine ⟨(0, [I l[i]]), ?_, ?_⟩
      · simp [h0]
      · rw [hz]; simp [orZ, h0]
  · obtain ⟨rfl, hz⟩ := hJ
    refine ⟨(1, []), ?_, ?_⟩
    · simp only [g0, List.length_map, b_lss, Option.bind_some, tr_b, decide_eq_true_eq, Int.lt_irrefl, if_false]
    · rw [hz]; simp [orZ]
end Go.Proofs.YtjjjkojfijpeeaaGreat.Sy
end
section
/- The functions' plain texts: divisors, planes, orders. -/
set_option linter.unusedVariables false
namespace Go.Proofs.YtjjjkojfijpeeaaGreat.Sy
open Go Go.Proofs Go.Proofs.YtjjjkojfijpeeaaGreat.Geo

theorem gcd_loop {body : Bd} (h0 : ∀ a b : Int, b ≠ 0 → body [I a, I b] = some (.inl [I b, I (a.tmod b)])) (h1 : ∀ a : Int, body [I a, I 0] = some (.inr (0, [I a]))) :
    ∀ (m : Nat) (a b : Int), b.natAbs = m → ∃ r : Int, lpW body [I a, I b] = some (0, [I r]) ∧ r.natAbs = Nat.gcd a.natAbs b.natAbs := by
  intro m
  induction m using Nat.strongRecOn with
  | _ m ih =>
    intro a b hb
    by_cases hz : b = 0
    · subst hz
      exact ⟨a, loopW_end (h1 a), by simp⟩
    · have hlt : (a.tmod b).natAbs < m := by
        rw [Int.natAbs_tmod, ← hb]
        exact Nat.mod_lt _ (by omega)
      obtain ⟨r, k1, k2⟩ := ih _ hlt b (a.tmod b) rfl
      refine ⟨r, ?_, ?_⟩
      · rw [show lpW body [I a, I b] = lpW body [I b, I (a.tmod b)] from loopW_next (h0 a b hz)]; exact k1
      · rw [k2, Int.natAbs_tmod, Nat.gcd_comm a.natAbs, Nat.gcd_rec b.natAbs a.natAbs, Nat.gcd_comm]
theorem gcd_le {a b : Int} {k : Nat} (ha : a.natAbs ≤ k) (hb : b.natAbs ≤ k) : Nat.gcd a.natAbs b.natAbs ≤ k := by
  rcases Nat.eq_zero_or_pos a.natAbs with h | h
  · rw [h, Nat.gcd_zero_left]; exact hb
  · exact Nat.le_trans (Nat.le_of_dvd h (Nat.gcd_dvd_left _ _)) ha
theorem c152 (n : Nat) {a b : Int} (ha : a.natAbs ≤ 9223372036854775807) (hb : b.natAbs ≤ 9223372036854775807) : cA (n + 1) 152 [I a, I b] = some (I (Nat.gcd a.natAbs b.natAbs : Nat)) := by
  rw [u152]
  unfold F152
  obtain ⟨r, h1, h2⟩ := gcd_loop (body := fun (v1 : List D) =>
    Option.bind (D.truth (D.bool (!(D.beq (List.getD v1 1 (D.bool false)) (D.int .i64 0))))) fun b2 =>
    if b2 then (Option.bind (D.bin .rem (List.getD v1 0 (D.bool false)) (List.getD v1 1 (D.bool false))) fun x3 =>
    some (Sum.inl [(List.getD v1 1 (D.bool false)), x3])) else (some (Sum.inr (0, [(List.getD v1 0 (D.bool false))]))))
    (fun a b hb => by simp only [g0, g1, beq_i, tr_b, Option.bind_some, hb, decide_false, Bool.not_false, if_true, b_rem hb])
    (fun a => by simp only [g0, g1, beq_i, tr_b, Option.bind_some, decide_true, Bool.not_true, Bool.false_eq_true, if_false]) _ a b rfl
  refine lp_val h1 ?_
  have hr : r.natAbs ≤ 9223372036854775807 := by rw [h2]; exact gcd_le ha hb
  have hn : inR (-r) := by simp only [inR]; omega
  simp only [Option.bind_some, g0, u_neg hn, max_i]
  congr 2
  omega
theorem tdiv_exact {a : Int} {g : Nat} (hg : 0 < g) (h : (g : Int) ∣ a) : a.tdiv g = a / g := by
  obtain ⟨c, rfl⟩ := h
  rw [Int.mul_tdiv_cancel_left _ (by omega), Int.mul_ediv_cancel_left _ (by omega)]
theorem dvd_x (v : V) : (gcd3 v : Int) ∣ v.x := Int.ofNat_dvd_left.2 (Nat.dvd_trans (Nat.gcd_dvd_left _ _) (Nat.gcd_dvd_left _ _))
theorem dvd_y (v : V) : (gcd3 v : Int) ∣ v.y := Int.ofNat_dvd_left.2 (Nat.dvd_trans (Nat.gcd_dvd_left _ _) (Nat.gcd_dvd_right _ _))
theorem dvd_z (v : V) : (gcd3 v : Int) ∣ v.z := Int.ofNat_dvd_left.2 (Nat.gcd_dvd_right _ _)
theorem div_le {a : Int} {g : Nat} {k : Int} (h : -k ≤ a ∧ a ≤ k) (hd : (g : Int) ∣ a) : -k ≤ a / g ∧ a / g ≤ k := by
  have h1 : (a / (g : Int)).natAbs ≤ a.natAbs := by
    rcases Nat.eq_zero_or_pos g with e | e
    · subst e; simp
    · obtain ⟨c, rfl⟩ := hd
      rw [Int.mul_ediv_cancel_left _ (by omega), Int.natAbs_mul]
      exact Nat.le_mul_of_pos_left _ (by omega)
  omega
theorem bd_prim {k : Int} {v : V} (h : bd k v) : bd k (prim v) := ⟨div_le h.1 (dvd_x v), div_le h.2.1 (dvd_y v), div_le h.2.2 (dvd_z v)⟩
/-- A plane. -/
def encP (q : V × Int) : D := .st [encV q.1, I q.2]
def MV : Int := 262144
theorem bd_wy {P : Nat → V} {i j : Nat} (hi : bd MV (P i)) (hj : bd MV (P j)) : bd 524288 (wy P i j) := by
  have := bd_sub hj hi; simpa [MV, wy] using this
theorem c96 (n : Nat) {a b c : V} (ha : bd MV a) (hb : bd MV b) (hc : bd MV c) : cA (n + 3) 96 [encV a, encV b, encV c] = some (encP (prim (V.cross (b.sub a) (c.sub a)), V.dot (prim (V.cross (b.sub a) (c.sub a))) a)) := by
  have h1 : bd 524288 (b.sub a) := by have := bd_sub hb ha; simpa [MV] using this
  have h2 : bd 524288 (c.sub a) := by have := bd_sub hc ha; simpa [MV] using this
  rw [u96]
  unfold F96
  simp only [c103 n hb ha (by decide), c103 n hc ha (by decide), Option.bind_some, c117 (n + 1) h1 h2 (by decide)]
  have h3 := bd_cross h1 h2
  generalize V.cross (b.sub a) (c.sub a) = m at *
  have e1 : m.x.natAbs ≤ 549755813888 := by have := h3.1; omega
  have e2 : m.y.natAbs ≤ 549755813888 := by have := h3.2.1; omega
  have e3 : m.z.natAbs ≤ 549755813888 := by have := h3.2.2; omega
  have e4 : Nat.gcd m.x.natAbs m.y.natAbs ≤ 549755813888 := gcd_le e1 e2
  have e5 : Nat.gcd (Nat.gcd m.x.natAbs m.y.natAbs) m.z.natAbs = gcd3 m := rfl
  simp only [get0, get1, get2, Option.bind_some, c152 (n + 1) (a := m.x) (b := m.y) (by omega) (by omega), c152 (n + 1) (a := ((Nat.gcd m.x.natAbs m.y.natAbs : Nat) : Int)) (b := m.z) (by rw [Int.natAbs_natCast]; omega) (by omega), Int.natAbs_natCast, e5, b_gtr, tr_b, decide_eq_true_eq]
  have h4 := bd_prim h3
  have fin : ∀ w : V, w = prim m → cA (n + 2) 101 [encV w, encV a] = some (I (V.dot w a)) := fun w hw => c101 (n + 1) (hw ▸ h4) ha (by decide)
  by_cases hg : (gcd3 m : Int) > 1
  · have hg0 : (gcd3 m : Int) ≠ 0 := by omega
    have hgp : 0 < gcd3 m := by omega
    have r1 : inR (m.x.tdiv (gcd3 m)) := by rw [tdiv_exact hgp (dvd_x m)]; have := div_le h3.1 (dvd_x m); simp only [inR]; omega
    have r2 : inR (m.y.tdiv (gcd3 m)) := by rw [tdiv_exact hgp (dvd_y m)]; have := div_le h3.2.1 (dvd_y m); simp only [inR]; omega
    have r3 : inR (m.z.tdiv (gcd3 m)) := by rw [tdiv_exact hgp (dvd_z m)]; have := div_le h3.2.2 (dvd_z m); simp only [inR]; omega
    have ep : (D.st [I (m.x.tdiv (gcd3 m)), I (m.y.tdiv (gcd3 m)), I (m.z.tdiv (gcd3 m))]) = encV (prim m) := by
      rw [tdiv_exact hgp (dvd_x m), tdiv_exact hgp (dvd_y m), tdiv_exact hgp (dvd_z m)]; rfl
    simp only [if_pos hg, b_quo hg0 r1, b_quo hg0 r2, b_quo hg0 r3, Option.bind_some, g0, ep, fin _ rfl]
    rfl
  · have ep : m = prim m := by
      rcases Nat.lt_or_ge 0 (gcd3 m) with k | k
      · have e : gcd3 m = 1 := by omega
        have := prim_mul m
        rw [e] at this
        rw [this]
        conv => rhs; rw [← this]
        apply V.ext' <;> simp [V.smul]
      · have e : gcd3 m = 0 := by omega
        have hm : m = V.zero := by
          by_cases hm : m = V.zero
          · exact hm
          · have := gcd3_pos hm; omega
        rw [hm]; rfl
    simp only [if_neg hg, Option.bind_some, g0, fin m ep]
    rw [← ep]
    rfl
end Go.Proofs.YtjjjkojfijpeeaaGreat.Sy
end
section
/- The functions' plain texts: orders, turns, tests of points against planes. -/
set_option linter.unusedVariables false
namespace Go.Proofs.YtjjjkojfijpeeaaGreat.Sy
open Go Go.Proofs Go.Proofs.YtjjjkojfijpeeaaGreat.Geo

theorem map2 (a b : Int) : D.sl [I a, I b] = D.sl ([a, b].map fun x => I x) := rfl
theorem map3 (a b c : Int) : D.sl [I a, I b, I c] = D.sl ([a, b, c].map fun x => I x) := rfl
theorem c51 (n : Nat) (a b c d : Int) : cA (n + 3) 51 [.st [I a, I b], .st [I c, I d]] = some (I (orZ [cmpZ a c, cmpZ b d])) := by
  rw [u51]
  unfold F51
  simp only [show ∀ a b : Int, D.get (.st [I a, I b]) [0] = some (I a) from fun _ _ => rfl, show ∀ a b : Int, D.get (.st [I a, I b]) [1] = some (I b) from fun _ _ => rfl, Option.bind_some, c53, map2, c52 (n + 1) [cmpZ a c, cmpZ b d] (by simp)]
theorem c100 (n : Nat) (p q : V × Int) : cA (n + 3) 100 [encP p, encP q] = some (I (orZ [cmpZ p.1.x q.1.x, cmpZ p.1.y q.1.y, cmpZ p.1.z q.1.z])) := by
  rw [u100]
  unfold F100
  simp only [show ∀ p : V × Int, D.get (encP p) [0] = some (encV p.1) from fun _ => rfl, show ∀ p : V × Int, D.get (encP p) [0, 0] = some (I p.1.x) from fun _ => rfl, show ∀ p : V × Int, D.get (encP p) [0, 1] = some (I p.1.y) from fun _ => rfl, show ∀ p : V × Int, D.get (encP p) [0, 2] = some (I p.1.z) from fun _ => rfl, get0, get1, get2, Option.bind_some, c53, map3, c52 (n + 1) [cmpZ p.1.x q.1.x, cmpZ p.1.y q.1.y, cmpZ p.1.z q.1.z] (by simp)]
theorem cmpZ_sg (a : Int) : cmpZ a 0 = sg a := rfl
theorem sg_b (a : Int) : -1 ≤ sg a ∧ sg a ≤ 1 := by unfold sg; split <;> (try split) <;> omega
theorem inR_sg (a b : Int) : inR (sg a * sg b) := by
  have := mulb (A := 1) (B := 1) (sg_b a) (sg_b b); simp only [inR]; omega
theorem fld0 (v : V) : D.fld (encV v) 0 = some (I v.x) := rfl
theorem fld1 (v : V) : D.fld (encV v) 1 = some (I v.y) := rfl
theorem fld2 (v : V) : D.fld (encV v) 2 = some (I v.z) := rfl
theorem i01 : inR (0 + 1) := ⟨by decide, by decide⟩
theorem i12 : inR (1 + 1) := ⟨by decide, by decide⟩
theorem i23 : inR (2 + 1) := ⟨by decide, by decide⟩
theorem c104 (n : Nat) {A B : Int} {m u v : V} (hu : bd A u) (hv : bd B v) (h : 2 * (A * B) ≤ 9223372036854775807) : cA (n + 3) 104 [encV m, encV u, encV v] = some (I (leftI m (V.cross u v))) := by
  rw [u104]
  unfold F104
  simp only [c117 (n + 1) hu hv h, Option.bind_some]
  generalize V.cross u v = c
  unfold leftI
  by_cases hx : m.x = 0
  · refine lp_next (s' := [I 1]) (by simp only [g0, b_lss, Option.bind_some, tr_b, ix0, fld0, beq_i, hx, decide_true, Bool.not_true, Bool.false_eq_true, if_false, b_add i01]; rfl) ?_
    by_cases hy : m.y = 0
    · refine lp_next (s' := [I 2]) (by simp only [g0, b_lss, Option.bind_some, tr_b, ix1, fld1, beq_i, hy, decide_true, Bool.not_true, Bool.false_eq_true, if_false, b_add i12]; rfl) ?_
      by_cases hz : m.z = 0
      · refine lp_next (s' := [I 3]) (by simp only [g0, b_lss, Option.bind_some, tr_b, ix2, fld2, beq_i, hz, decide_true, Bool.not_true, Bool.false_eq_true, if_false, b_add i23]; rfl) ?_
        refine lp_end (r := (1, [])) (by simp only [g0, b_lss, Option.bind_some, tr_b]; rfl) ?_
        simp [hx, hy, hz]
      · refine lp_end (r := (0, [I (sg c.z * sg m.z)])) ?_ (by simp [hx, hy, hz, Int.mul_comm])
        simp only [g0, b_lss, Option.bind_some, tr_b, ix2, fld2, get2, beq_i, hz, decide_false, Bool.not_false, if_true, c53, cmpZ_sg, b_mul (inR_sg _ _)]; rfl
    · refine lp_end (r := (0, [I (sg c.y * sg m.y)])) ?_ (by simp [hx, hy, Int.mul_comm])
      simp only [g0, b_lss, Option.bind_some, tr_b, ix1, fld1, get1, beq_i, hy, decide_false, Bool.not_false, if_true, c53, cmpZ_sg, b_mul (inR_sg _ _)]; rfl
  · refine lp_end (r := (0, [I (sg c.x * sg m.x)])) ?_ (by simp [hx, Int.mul_comm])
    simp only [g0, b_lss, Option.bind_some, tr_b, ix0, fld0, get0, beq_i, hx, decide_false, Bool.not_false, if_true, c53, cmpZ_sg, b_mul (inR_sg _ _)]; rfl
theorem c215 (n : Nat) (a : Int) : cA (n + 1) 215 [I a] = some (I (sg a)) := by
  rw [u215]
  simp only [F215, b_lss, b_gtr, Option.bind_some, tr_b, decide_eq_true_eq, sg]
  split
  · rfl
  · split
    · rfl
    · rfl
theorem c188 (n : Nat) (m c : V) : cA (n + 2) 188 [encV m, encV c] = some (I (leftI m c)) := by
  rw [u188]
  unfold F188 leftI
  by_cases hx : m.x = 0
  · refine lp_next (s' := [I 1]) (by simp only [g0, b_lss, Option.bind_some, tr_b, ix0, get0, beq_i, hx, decide_true, Bool.not_true, Bool.false_eq_true, if_false, b_add i01]; rfl) ?_
    by_cases hy : m.y = 0
    · refine lp_next (s' := [I 2]) (by simp only [g0, b_lss, Option.bind_some, tr_b, ix1, get1, beq_i, hy, decide_true, Bool.not_true, Bool.false_eq_true, if_false, b_add i12]; rfl) ?_
      by_cases hz : m.z = 0
      · refine lp_next (s' := [I 3]) (by simp only [g0, b_lss, Option.bind_some, tr_b, ix2, get2, beq_i, hz, decide_true, Bool.not_true, Bool.false_eq_true, if_false, b_add i23]; rfl) ?_
        refine lp_end (r := (1, [])) (by simp only [g0, b_lss, Option.bind_some, tr_b]; rfl) ?_
        simp [hx, hy, hz]
      · refine lp_end (r := (0, [I (sg m.z * sg c.z)])) ?_ (by simp [hx, hy, hz])
        simp only [g0, b_lss, Option.bind_some, tr_b, ix2, get2, beq_i, hz, decide_false, Bool.not_false, if_true, c215, b_mul (inR_sg _ _)]; rfl
    · refine lp_end (r := (0, [I (sg m.y * sg c.y)])) ?_ (by simp [hx, hy])
      simp only [g0, b_lss, Option.bind_some, tr_b, ix1, get1, beq_i, hy, decide_false, Bool.not_false, if_true, c215, b_mul (inR_sg _ _)]; rfl
  · refine lp_end (r := (0, [I (sg m.x * sg c.x)])) ?_ (by simp [hx])
    simp only [g0, b_lss, Option.bind_some, tr_b, ix0, get0, beq_i, hx, decide_false, Bool.not_false, if_true, c215, b_mul (inR_sg _ _)]; rfl
instance decLex (a b : V) : Decidable (lexlt a b) := by unfold lexlt; exact inferInstance
theorem c105 (n : Nat) (a b : V) : cA (n + 1) 105 [encV a, encV b] = some (.bool (decide (lexlt a b))) := by
  rw [u105]
  simp only [F105, get0, get1, get2, Option.bind_some, beq_i, tr_b, b_lss, Bool.not_eq_true', decide_eq_false_iff_not]
  by_cases h1 : a.x = b.x
  · by_cases h2 : a.y = b.y
    · simp [h1, h2, lexlt]
    · simp only [h1, h2, lexlt, not_true, if_false, not_false_iff, if_true, Int.lt_irrefl, false_or, true_and, false_and, or_false]
  · simp only [h1, lexlt, not_false_iff, if_true, false_and, or_false]
/-- A list of points. -/
def encL (l : List V) : D := .sl (l.map encV)
/-- No point is beyond the plane. -/
def supB (l : List V) (m : V) (d : Int) : Bool := l.all fun x => decide (V.dot m x ≤ d)
def lowB (l : List V) (m : V) (d : Int) : Bool := l.any fun x => decide (V.dot m x < d)
theorem getL {l : List V} {i : Nat} (h : i < l.length) : (l.map encV)[i]? = some (encV l[i]) := by simp [h]
theorem c109 (n : Nat) {A : Int} {l : List V} {m : V} {d : Int} (hl : ∀ x ∈ l, bd MV x) (hm : bd A m) (hA : 3 * (A * 262144) ≤ 9223372036854775807) (hlen : l.length ≤ 1000000) : cA (n + 2) 109 [encL l, encV m, I d] = some (.bool (supB l m d && lowB l m d)) := by
  rw [u109]
  unfold F109
  refine lp_for (fun i s => s = [.bool (lowB (l.take i) m d), I i] ∧ supB (l.take i) m d = true) l.length 0 (Nat.zero_le _) ⟨by simp [lowB], by simp [supB]⟩ (fun i hi s hJ => ?_) (fun s hJ => ?_)
  · obtain ⟨rfl, hs⟩ := hJ
    have ht : l.take (i + 1) = l.take i ++ [l[i]] := List.take_succ_eq_append_getElem hi
    have hc := c107 n hm (hl l[i] (List.getElem_mem hi)) hA
    simp only [encL, D.asSl, g0, g1, List.length_map, b_lss, b_gtr, Option.bind_some, tr_b, decide_eq_true_eq, show ((i : Int) < (l.length : Int)) from by omega, if_true, idx_n hi, getL hi, hc]
    by_cases hgt : V.dot m l[i] > d
    · right
      refine ⟨(0, [.bool false]), by simp only [hgt, if_true], ?_⟩
      have : supB l m d = false := by
        rw [Bool.eq_false_iff]; intro h
        have := List.all_eq_true.1 h l[i] (List.getElem_mem hi)
        simp at this; omega
      simp [g0, this]
    · left
      refine ⟨[.bool (lowB (l.take (i + 1)) m d), I ((i + 1 : Nat) : Int)], ?_, rfl, ?_⟩
      · simp only [hgt, if_false, b_add (inR_nat (i := i) (by omega)), Option.bind_some]
        have e : lowB (l.take (i + 1)) m d = (lowB (l.take i) m d || decide (V.dot m l[i] < d)) := by rw [ht]; simp only [lowB, List.any_append, List.any_cons, List.any_nil, Bool.or_false]
        rw [e]
        cases lowB (l.take i) m d <;> simp
      · rw [ht]; simp only [supB, List.all_append, Bool.and_eq_true] at hs ⊢
        exact ⟨hs, by simp; omega⟩
  · obtain ⟨rfl, hs⟩ := hJ
    refine ⟨(1, [.bool (lowB (l.take l.length) m d)]), ?_, ?_⟩
    · simp only [encL, D.asSl, g0, g1, List.length_map, b_lss, Option.bind_some, tr_b, decide_eq_true_eq, Int.lt_irrefl, if_false]
    · rw [List.take_length] at *
      simp [g0, hs]
theorem c98 (n : Nat) {A : Int} {l : List V} {m : V} {d : Int} (hl : ∀ x ∈ l, bd MV x) (hm : bd A m) (hA : 3 * (A * 262144) ≤ 9223372036854775807) (hlen : l.length ≤ 1000000) : cA (n + 2) 98 [encL l, encP (m, d)] = some (.bool (supB l m d && lowB l m d)) := by
  rw [u98]
  unfold F98
  simp only [encL, D.asSl, Option.bind_some]
  refine lp_for (fun i s => s = [.bool (!lowB (l.take i) m d), I i] ∧ supB (l.take i) m d = true) l.length 0 (Nat.zero_le _) ⟨by simp [lowB], by simp [supB]⟩ (fun i hi s hJ => ?_) (fun s hJ => ?_)
  · obtain ⟨rfl, hs⟩ := hJ
    have ht : l.take (i + 1) = l.take i ++ [l[i]] := List.take_succ_eq_append_getElem hi
    have hc := c101 n hm (hl l[i] (List.getElem_mem hi)) hA
    simp only [g0, g1, List.length_map, b_lss, b_gtr, Option.bind_some, tr_b, decide_eq_true_eq, show ((i : Int) < (l.length : Int)) from by omega, if_true, idx_n hi, getL hi, show D.get (encP (m, d)) [0] = some (encV m) from rfl, show D.get (encP (m, d)) [1] = some (I d) from rfl, hc, beq_i]
    by_cases hgt : V.dot m l[i] > d
    · right
      refine ⟨(0, [.bool false]), by simp only [hgt, if_true], ?_⟩
      have : supB l m d = false := by
        rw [Bool.eq_false_iff]; intro h
        have := List.all_eq_true.1 h l[i] (List.getElem_mem hi)
        simp at this; omega
      simp [g0, this]
    · left
      refine ⟨[.bool (!lowB (l.take (i + 1)) m d), I ((i + 1 : Nat) : Int)], ?_, rfl, ?_⟩
      · simp only [hgt, if_false, b_add (inR_nat (i := i) (by omega)), Option.bind_some]
        have e : (!lowB (l.take (i + 1)) m d) = (!lowB (l.take i) m d && decide (V.dot m l[i] = d)) := by
          rw [ht]; simp only [lowB, List.any_append, List.any_cons, List.any_nil, Bool.or_false, Bool.not_or]
          congr 1
          by_cases h2 : V.dot m l[i] = d
          · simp [h2]
          · have : V.dot m l[i] < d := by omega
            simp [h2, this]
        rw [e]
        cases lowB (l.take i) m d <;> simp
      · rw [ht]; simp only [supB, List.all_append, Bool.and_eq_true] at hs ⊢
        exact ⟨hs, by simp; omega⟩
  · obtain ⟨rfl, hs⟩ := hJ
    refine ⟨(1, [.bool (!lowB (l.take l.length) m d)]), ?_, ?_⟩
    · simp only [g0, g1, List.length_map, b_lss, Option.bind_some, tr_b, decide_eq_true_eq, Int.lt_irrefl, if_false]
    · rw [List.take_length] at *
      simp [g0, hs, u_not]
end Go.Proofs.YtjjjkojfijpeeaaGreat.Sy
end
section
/- The functions' plain texts: planes. -/
set_option linter.unusedVariables false
namespace Go.Proofs.YtjjjkojfijpeeaaGreat.Sy
open Go Go.Proofs Go.Proofs.YtjjjkojfijpeeaaGreat.Geo

theorem lp_ex {α : Type} {body : Bd} {s0 : List D} {k : Nat × List D → Option α} {Y : α → Prop} (J : Nat → List D → Prop) (n i0 : Nat) (hi : i0 ≤ n) (h0 : J i0 s0)
    (hs : ∀ i, i < n → ∀ s, J i s → ∃ z, body s = some z ∧ match z with | .inl s' => J (i + 1) s' | .inr r => ∃ y, k r = some y ∧ Y y)
    (he : ∀ s, J n s → ∃ z, body s = some z ∧ match z with | .inl _ => False | .inr r => ∃ y, k r = some y ∧ Y y) : ∃ y, Option.bind (lpW body s0) k = some y ∧ Y y := by
  obtain ⟨m, hm⟩ : ∃ m, m = n - i0 := ⟨_, rfl⟩
  induction m generalizing i0 s0 with
  | zero =>
    have : i0 = n := by omega
    subst this
    obtain ⟨z, h1, h2⟩ := he s0 h0
    cases z with
    | inl s' => exact h2.elim
    | inr r => obtain ⟨y, h3, h4⟩ := h2; exact ⟨y, by rw [show lpW body s0 = some r from loopW_end h1]; exact h3, h4⟩
  | succ m ih =>
    obtain ⟨z, h1, h2⟩ := hs i0 (by omega) s0 h0
    cases z with
    | inl s' =>
      obtain ⟨y, h3, h4⟩ := ih (i0 := i0 + 1) (by omega) h2 (by omega)
      exact ⟨y, by rw [show lpW body s0 = lpW body s' from loopW_next h1]; exact h3, h4⟩
    | inr r => obtain ⟨y, h3, h4⟩ := h2; exact ⟨y, by rw [show lpW body s0 = some r from loopW_end h1]; exact h3, h4⟩
theorem lp_nextA {α : Type} {body : Bd} {s s' : List D} {k : Nat × List D → Option α} {y : α} (h : body s = some (.inl s')) (hk : Option.bind (lpW body s') k = some y) : Option.bind (lpW body s) k = some y := by
  have : lpW body s = lpW body s' := loopW_next h
  rw [this]; exact hk
theorem lp_endA {α : Type} {body : Bd} {s : List D} {r : Nat × List D} {k : Nat × List D → Option α} {y : α} (h : body s = some (.inr r)) (hk : k r = some y) : Option.bind (lpW body s) k = some y := by
  have : lpW body s = some r := loopW_end h
  rw [this]; exact hk
theorem lp_forA {α : Type} {body : Bd} {s0 : List D} {k : Nat × List D → Option α} {y : α} (J : Nat → List D → Prop) (n i0 : Nat) (hi : i0 ≤ n) (h0 : J i0 s0)
    (hs : ∀ i, i < n → ∀ s, J i s → (∃ s', body s = some (.inl s') ∧ J (i + 1) s') ∨ ∃ r, body s = some (.inr r) ∧ k r = some y) (he : ∀ s, J n s → ∃ r, body s = some (.inr r) ∧ k r = some y) : Option.bind (lpW body s0) k = some y := by
  obtain ⟨m, hm⟩ : ∃ m, m = n - i0 := ⟨_, rfl⟩
  induction m generalizing i0 s0 with
  | zero =>
    have : i0 = n := by omega
    subst this
    obtain ⟨r, h1, h2⟩ := he s0 h0
    exact lp_endA h1 h2
  | succ m ih =>
    rcases hs i0 (by omega) s0 h0 with ⟨s', h1, h2⟩ | ⟨r, h1, h2⟩
    · exact lp_nextA h1 (ih (i0 := i0 + 1) (by omega) h2 (by omega))
    · exact lp_endA h1 h2
theorem bind_eq {α β : Type} {A : Option α} {g : α → Option β} {z : α} {y : β} (h : A = some z) (hk : g z = some y) : Option.bind A g = some y := by
  rw [h]; exact hk
theorem beq_V (u v : V) : D.beq (encV u) (encV v) = decide (u = v) := by
  simp only [encV, D.beq, D.beqs, decide_true, Bool.true_and, Bool.and_true]
  by_cases h : u = v
  · subst h; simp
  · by_cases h1 : u.x = v.x <;> by_cases h2 : u.y = v.y <;> by_cases h3 : u.z = v.z <;> simp [h, h1, h2, h3]
    exact h (V.ext' h1 h2 h3)
theorem beq_P (p q : V × Int) : D.beq (encP p) (encP q) = decide (p = q) := by
  have : D.beq (encP p) (encP q) = (D.beq (encV p.1) (encV q.1) && (D.beq (I p.2) (I q.2) && true)) := rfl
  rw [this, beq_V, beq_i]
  obtain ⟨a, b⟩ := p
  obtain ⟨c, d⟩ := q
  by_cases h1 : a = c <;> by_cases h2 : b = d <;> simp [h1, h2]
/-- The known planes. -/
def mapD (K : List (V × Int)) : List D := K.map fun q => .st [encP q, .bool true]
theorem mget_mapD : ∀ (K : List (V × Int)) (q : V × Int), D.mget (mapD K) (encP q) = if q ∈ K then some (.bool true) else none
  | [], q => by simp [mapD, D.mget]
  | p :: K, q => by
    have ih := mget_mapD K q
    simp only [mapD, List.map_cons, D.mget, beq_P] at ih ⊢
    by_cases h : q = p
    · simp [h]
    · rw [ih]; simp [h]
theorem mput_mapD : ∀ (K : List (V × Int)) (q : V × Int), q ∉ K → D.mput (mapD K) (encP q) (.bool true) = mapD (K ++ [q])
  | [], q, _ => rfl
  | p :: K, q, h => by
    have ih := mput_mapD K q (fun hq => h (List.mem_cons_of_mem _ hq))
    have hne : ¬ q = p := fun e => h (by rw [e]; exact List.mem_cons_self)
    simp only [mapD, List.map_cons, List.cons_append, D.mput, beq_P, hne, decide_false, Bool.false_eq_true, if_false] at ih ⊢
    rw [ih]
theorem keys_mapD (K : List (V × Int)) : (mapD K).map keyD = K.map encP := by simp [mapD, keyD]
def supp (l : List V) (q : V × Int) : Bool := supB l q.1 q.2 && lowB l q.1 q.2
/-- A plane is noted if it is a facet's. -/
def note (l : List V) (K : List (V × Int)) (q : V × Int) : List (V × Int) := if q ∈ K then K else if supp l q then K ++ [q] else K
theorem note_sub {l : List V} {K : List (V × Int)} {q x : V × Int} (h : x ∈ K) : x ∈ note l K q := by
  unfold note
  split
  · exact h
  · split
    · exact List.mem_append_left _ h
    · exact h
theorem note_new {l : List V} {K : List (V × Int)} {q : V × Int} (h : supp l q = true) : q ∈ note l K q := by
  unfold note
  split
  · assumption
  · simp
theorem note_inv {l : List V} {K : List (V × Int)} {q x : V × Int} (h : x ∈ note l K q) : x ∈ K ∨ (x = q ∧ supp l q = true) := by
  unfold note at h
  split at h
  · exact .inl h
  · split at h
    · rename_i hs
      rcases List.mem_append.1 h with h | h
      · exact .inl h
      · exact .inr ⟨List.mem_singleton.1 h, hs⟩
    · exact .inl h
theorem note_nodup {l : List V} {K : List (V × Int)} {q : V × Int} (h : K.Nodup) : (note l K q).Nodup := by
  unfold note
  split
  · exact h
  · rename_i hq
    split
    · exact List.nodup_append.2 ⟨h, by simp, fun x hx y hy e => hq (by rw [List.mem_singleton.1 hy] at e; exact e ▸ hx)⟩
    · exact h
/-- Normal and distance of the plane through three points. -/
def thr (a b c : V) : V × Int := (prim (V.cross (b.sub a) (c.sub a)), V.dot (prim (V.cross (b.sub a) (c.sub a))) a)
def flip (q : V × Int) : V × Int := (q.1.neg, -q.2)
def Cd (l : List V) (i j k : Nat) (q : V × Int) : Prop := (thr (l.getD i V.zero) (l.getD j V.zero) (l.getD k V.zero)).1 ≠ V.zero ∧ (q = thr (l.getD i V.zero) (l.getD j V.zero) (l.getD k V.zero) ∨ q = flip (thr (l.getD i V.zero) (l.getD j V.zero) (l.getD k V.zero)))
structure Known (l : List V) (i j k : Nat) (K : List (V × Int)) : Prop where
  nd : K.Nodup
  ok : ∀ q ∈ K, supp l q = true ∧ ∃ i j k, k < j ∧ j < i ∧ i < l.length ∧ Cd l i j k q
  all : ∀ i' j' k', k' < j' → j' < i' → i' < l.length → (i' < i ∨ i' = i ∧ (j' < j ∨ j' = j ∧ k' < k)) → ∀ q, Cd l i' j' k' q → supp l q = true → q ∈ K
theorem bd_thr {a b c : V} (ha : bd MV a) (hb : bd MV b) (hc : bd MV c) : bd 549755813888 (thr a b c).1 ∧ inR (thr a b c).2 ∧ inR (-(thr a b c).2) := by
  have h1 : bd 524288 (b.sub a) := by have := bd_sub hb ha; simpa [MV] using this
  have h2 : bd 524288 (c.sub a) := by have := bd_sub hc ha; simpa [MV] using this
  have h3 := bd_prim (bd_cross h1 h2)
  have h4 := bd_dot h3 ha
  simp only [MV] at h4
  refine ⟨h3, ?_, ?_⟩ <;> simp only [inR, thr] <;> omega
theorem Known.step {l : List V} {i j k : Nat} {K : List (V × Int)} (h : Known l i j k K) (hk : k < j) (hj : j < i) (hi : i < l.length) (hz : (thr (l.getD i V.zero) (l.getD j V.zero) (l.getD k V.zero)).1 ≠ V.zero) :
    Known l i j (k + 1) (note l (note l K (thr (l.getD i V.zero) (l.getD j V.zero) (l.getD k V.zero))) (flip (thr (l.getD i V.zero) (l.getD j V.zero) (l.getD k V.zero)))) := by
  refine ⟨note_nodup (note_nodup h.nd), fun q hq => ?_, fun i' j' k' h1 h2 h3 h4 q hq hs => ?_⟩
  · rcases note_inv hq with hq | ⟨rfl, hs⟩
    · rcases note_inv hq with hq | ⟨rfl, hs⟩
      · exact h.ok q hq
      · exact ⟨hs, i, j, k, hk, hj, hi, hz, .inl rfl⟩
    · exact ⟨hs, i, j, k, hk, hj, hi, hz, .inr rfl⟩
  · by_cases e : i' = i ∧ j' = j ∧ k' = k
    · obtain ⟨rfl, rfl, rfl⟩ := e
      rcases hq.2 with rfl | rfl
      · exact note_sub (note_new hs)
      · exact note_new hs
    · exact note_sub (note_sub (h.all i' j' k' h1 h2 h3 (by omega) q hq hs))
theorem Known.skip {l : List V} {i j k : Nat} {K : List (V × Int)} (h : Known l i j k K) (hz : (thr (l.getD i V.zero) (l.getD j V.zero) (l.getD k V.zero)).1 = V.zero) : Known l i j (k + 1) K := by
  refine ⟨h.nd, h.ok, fun i' j' k' h1 h2 h3 h4 q hq hs => ?_⟩
  by_cases e : i' = i ∧ j' = j ∧ k' = k
  · obtain ⟨rfl, rfl, rfl⟩ := e
    exact absurd hz hq.1
  · exact h.all i' j' k' h1 h2 h3 (by omega) q hq hs
theorem Known.next {l : List V} {i j : Nat} {K : List (V × Int)} (h : Known l i j j K) : Known l i (j + 1) 0 K :=
  ⟨h.nd, h.ok, fun i' j' k' h1 h2 h3 h4 => h.all i' j' k' h1 h2 h3 (by omega)⟩
theorem Known.next2 {l : List V} {i : Nat} {K : List (V × Int)} (h : Known l i i 0 K) : Known l (i + 1) 0 0 K :=
  ⟨h.nd, h.ok, fun i' j' k' h1 h2 h3 h4 => h.all i' j' k' h1 h2 h3 (by omega)⟩
theorem len_fm {α β : Type} {f : α → List β} {c : Nat} : ∀ l : List α, (∀ x ∈ l, (f x).length = c) → (l.flatMap f).length = l.length * c
  | [], _ => by simp
  | x :: l, h => by
    rw [List.flatMap_cons, List.length_append, h x List.mem_cons_self, len_fm l (fun y hy => h y (List.mem_cons_of_mem _ hy)), List.length_cons, Nat.succ_mul]
    omega
theorem Known.len {l : List V} {i j k : Nat} {K : List (V × Int)} (h : Known l i j k K) (hl : l.length ≤ 100) : K.length ≤ 2000000 := by
  have h1 := List.Nodup.length_le_of_subset (l₂ := (List.range l.length).flatMap fun i => (List.range l.length).flatMap fun j => (List.range l.length).flatMap fun k => [thr (l.getD i V.zero) (l.getD j V.zero) (l.getD k V.zero), flip (thr (l.getD i V.zero) (l.getD j V.zero) (l.getD k V.zero))]) h.nd (fun q hq => by
    obtain ⟨_, i, j, k, h1, h2, h3, h4⟩ := h.ok q hq
    refine List.mem_flatMap.2 ⟨i, List.mem_range.2 h3, List.mem_flatMap.2 ⟨j, List.mem_range.2 (by omega), List.mem_flatMap.2 ⟨k, List.mem_range.2 (by omega), ?_⟩⟩⟩
    rcases h4.2 with rfl | rfl <;> simp)
  rw [len_fm (c := l.length * (l.length * 2)) _ (fun i _ => by rw [len_fm (c := l.length * 2) _ (fun j _ => by rw [len_fm (c := 2) _ (fun k _ => rfl), List.length_range]), List.length_range]), List.length_range] at h1
  refine Nat.le_trans h1 ?_
  have a1 : l.length * 2 ≤ 200 := by omega
  have a2 : l.length * (l.length * 2) ≤ 100 * 200 := Nat.mul_le_mul hl a1
  have a3 : l.length * (l.length * (l.length * 2)) ≤ 100 * (100 * 200) := Nat.mul_le_mul hl a2
  exact a3
theorem getDL {l : List V} {i : Nat} (h : i < l.length) : (l.map encV)[i]? = some (encV (l.getD i V.zero)) := by simp [h, List.getD]
theorem memD {l : List V} {i : Nat} (h : i < l.length) : l.getD i V.zero ∈ l := by simp [List.getD, h]
theorem note_text {n : Nat} {l : List V} {K : List (V × Int)} {q : V × Int} (hl : ∀ x ∈ l, bd MV x) (hq : bd 549755813888 q.1) (hlen : l.length ≤ 1000) :
    (if (!decide (q ∈ K)) = true then (Option.bind (cA (n + 2) 98 [encL l, encP q]) fun r => D.truth r) else some false) = some (!decide (q ∈ K) && supp l q) := by
  obtain ⟨m, d⟩ := q
  have hc := c98 n (d := d) hl hq (by decide) (by omega)
  simp only [hc, Option.bind_some, tr_b]
  cases decide ((m, d) ∈ K) <;> rfl
end Go.Proofs.YtjjjkojfijpeeaaGreat.Sy
end
section
/- The functions' plain texts: planes gives the facets in order. -/
set_option linter.unusedVariables false
namespace Go.Proofs.YtjjjkojfijpeeaaGreat.Sy
open Go Go.Proofs Go.Proofs.YtjjjkojfijpeeaaGreat.Geo

theorem cmp3_lt {a b : V} (h : lexlt a b) : orZ [cmpZ a.x b.x, cmpZ a.y b.y, cmpZ a.z b.z] = -1 := by
  simp only [lexlt] at h
  rcases h with h | ⟨h1, h | ⟨h2, h⟩⟩
  · simp [orZ, cmpZ, h]
  · simp [orZ, cmpZ, h1, h]
  · simp [orZ, cmpZ, h1, h2, h]
theorem cmp3_gt {a b : V} (h : lexlt b a) : orZ [cmpZ a.x b.x, cmpZ a.y b.y, cmpZ a.z b.z] = 1 := by
  simp only [lexlt] at h
  rcases h with h | ⟨h1, h | ⟨h2, h⟩⟩
  · simp [orZ, cmpZ, h, Int.not_lt.2 (Int.le_of_lt h)]
  · simp [orZ, cmpZ, h1, h, Int.not_lt.2 (Int.le_of_lt h)]
  · simp [orZ, cmpZ, h1, h2, h, Int.not_lt.2 (Int.le_of_lt h)]
theorem cmp3_eq (a : V) : orZ [cmpZ a.x a.x, cmpZ a.y a.y, cmpZ a.z a.z] = 0 := by simp [orZ, cmpZ]
/-- Any list without equal keys has an order. -/
theorem sort_ex {α : Type} (key : α → V) : ∀ (K : List α), K.Pairwise (fun a b => key a ≠ key b) → ∃ L : List α, L.Perm K ∧ L.Pairwise (fun a b => lexlt (key a) (key b))
  | [], _ => ⟨[], .refl _, .nil⟩
  | x :: K, h => by
    obtain ⟨h1, h2⟩ := List.pairwise_cons.1 h
    obtain ⟨L, p1, p2⟩ := sort_ex key K h2
    have hne : ∀ y ∈ L, key x ≠ key y := fun y hy => h1 y (p1.subset hy)
    have ins : ∀ L : List α, L.Pairwise (fun a b => lexlt (key a) (key b)) → (∀ y ∈ L, key x ≠ key y) → ∃ M : List α, M.Perm (x :: L) ∧ M.Pairwise (fun a b => lexlt (key a) (key b)) := by
      intro L
      induction L with
      | nil => intro _ _; exact ⟨[x], .refl _, by simp⟩
      | cons y L ih =>
        intro hp hn
        obtain ⟨q1, q2⟩ := List.pairwise_cons.1 hp
        rcases lexlt_tri (hn y List.mem_cons_self) with k | k
        · refine ⟨x :: y :: L, .refl _, List.pairwise_cons.2 ⟨fun z hz => ?_, hp⟩⟩
          rcases List.mem_cons.1 hz with rfl | hz
          · exact k
          · exact lexlt_trans k (q1 z hz)
        · obtain ⟨M, m1, m2⟩ := ih q2 (fun z hz => hn z (List.mem_cons_of_mem _ hz))
          refine ⟨y :: M, (m1.cons y).trans (.swap x y L), List.pairwise_cons.2 ⟨fun z hz => ?_, m2⟩⟩
          rcases List.mem_cons.1 (m1.subset hz) with rfl | hz
          · exact k
          · exact q1 z hz
    obtain ⟨M, m1, m2⟩ := ins L p2 hne
    exact ⟨M, m1.trans (p1.cons x), m2⟩
theorem cmpI100 (n : Nat) (p q : V × Int) : cmpI (envOf lpW (cA (n + 3)) (inlP lpW (cA (n + 3)))) 100 (encP p) (encP q) = some (orZ [cmpZ p.1.x q.1.x, cmpZ p.1.y q.1.y, cmpZ p.1.z q.1.z]) := by
  unfold cmpI
  rw [show (envOf lpW (cA (n + 3)) (inlP lpW (cA (n + 3)))).call = cA (n + 3) from rfl, c100]
  rfl
theorem chk100 (n : Nat) : ∀ (L : List (V × Int)), L.Pairwise (fun a b => lexlt a.1 b.1) → chkS (envOf lpW (cA (n + 3)) (inlP lpW (cA (n + 3)))) 100 (L.map encP) = true
  | [], _ => rfl
  | p :: L, h => by
    obtain ⟨h1, h2⟩ := List.pairwise_cons.1 h
    simp only [List.map_cons, chkS, Bool.and_eq_true, List.all_eq_true, List.mem_map]
    refine ⟨⟨?_, ?_⟩, chk100 n L h2⟩
    · simp only [geD, cmpI100, cmp3_eq]; decide
    · rintro _ ⟨q, hq, rfl⟩
      simp only [ltD, geD, cmpI100, cmp3_lt (h1 q hq), cmp3_gt (h1 q hq)]; decide
theorem sort100 (n : Nat) {K L : List (V × Int)} (hp : L.Perm K) (h : L.Pairwise (fun a b => lexlt a.1 b.1)) : sortD (envOf lpW (cA (n + 3)) (inlP lpW (cA (n + 3)))) 100 (K.map encP) = some (L.map encP) :=
  sortD_of (chk100 n L h) (hp.symm.map _)
/-- The points, by their numbers. -/
def pt (l : List V) (i : Nat) : V := l.getD i V.zero
theorem dot_neg (a b : V) : V.dot a.neg b = - V.dot a b := by simp only [V.dot, V.neg]; grind
theorem Cd.dist {l : List V} {i j k : Nat} {q : V × Int} (h : Cd l i j k q) : q.2 = V.dot q.1 (l.getD i V.zero) := by
  rcases h.2 with rfl | rfl
  · rfl
  · simp only [flip, dot_neg]; rfl
theorem supp_le {l : List V} {q : V × Int} (h : supp l q = true) {x : V} (hx : x ∈ l) : V.dot q.1 x ≤ q.2 := by
  simp only [supp, supB, Bool.and_eq_true, List.all_eq_true, decide_eq_true_eq] at h
  exact h.1 x hx
theorem Known.keys {l : List V} {i j k : Nat} {K : List (V × Int)} (h : Known l i j k K) : K.Pairwise (fun a b => a.1 ≠ b.1) := by
  refine List.Pairwise.imp_of_mem (fun {a b} ha hb hab e => hab ?_) h.nd
  obtain ⟨s1, i1, j1, k1, _, _, h1, c1⟩ := h.ok a ha
  obtain ⟨s2, i2, j2, k2, _, _, h2, c2⟩ := h.ok b hb
  have e1 := c1.dist
  have e2 := c2.dist
  have l1 := supp_le s1 (memD h2)
  have l2 := supp_le s2 (memD h1)
  rw [e] at e1 l1
  exact Prod.ext e (by omega)
theorem p45 (n : Nat) {l : List V} (hl : ∀ x ∈ l, bd MV x) (hlen : l.length ≤ 100) : ∃ y, cA (n + 6) 45 [encL l] = some y ∧ ∃ K L : List (V × Int), Known l l.length 0 0 K ∧ L.Perm K ∧ L.Pairwise (fun a b => lexlt a.1 b.1) ∧ y = .sl (L.map encP) := by
  rw [u45]
  unfold F45
  simp only [encL, D.asSl, Option.bind_some]
  refine lp_ex (fun i s => ∃ K, s = [I i, .sl (mapD K)] ∧ Known l i 0 0 K) l.length 0 (Nat.zero_le _) ⟨[], rfl, ⟨List.nodup_nil, by simp, fun i' j' k' _ _ _ h => by omega⟩⟩ (fun i hi s hJ => ?_) (fun s hJ => ?_)
  · obtain ⟨K, rfl, hK⟩ := hJ
    simp only [g0, g1, List.length_map, b_lss, Option.bind_some, tr_b, decide_eq_true_eq, show ((i : Int) < (l.length : Int)) from by omega, if_true, D.els]
    refine lp_ex (fun j s => ∃ K, s = [I j, .sl (mapD K)] ∧ Known l i j 0 K) i 0 (Nat.zero_le _) ⟨K, rfl, hK⟩ (fun j hj s hJ => ?_) (fun s hJ => ?_)
    · obtain ⟨K, rfl, hK⟩ := hJ
      simp only [g0, g1, b_lss, Option.bind_some, tr_b, decide_eq_true_eq, show ((j : Int) < (i : Int)) from by omega, if_true, D.els]
      refine lp_ex (fun k s => ∃ K, s = [I k, .sl (mapD K)] ∧ Known l i j k K) j 0 (Nat.zero_le _) ⟨K, rfl, hK⟩ (fun k hk s hJ => ?_) (fun s hJ => ?_)
      · obtain ⟨K, rfl, hK⟩ := hJ
        have hthr := bd_thr (hl _ (memD hi)) (hl _ (memD (show j < l.length by omega))) (hl _ (memD (show k < l.length by omega)))
        have hc := c96 (n + 2) (hl _ (memD hi)) (hl _ (memD (show j < l.length by omega))) (hl _ (memD (show k < l.length by omega)))
        rw [show (prim (V.cross ((l.getD j V.zero).sub (l.getD i V.zero)) ((l.getD k V.zero).sub (l.getD i V.zero))), V.dot (prim (V.cross ((l.getD j V.zero).sub (l.getD i V.zero)) ((l.getD k V.zero).sub (l.getD i V.zero)))) (l.getD i V.zero)) = thr (l.getD i V.zero) (l.getD j V.zero) (l.getD k V.zero) from rfl] at hc
        simp only [g0, g1, b_lss, Option.bind_some, tr_b, decide_eq_true_eq, show ((k : Int) < (j : Int)) from by omega, if_true, D.els, List.length_map, idx_n hi, idx_n (show j < l.length by omega), idx_n (show k < l.length by omega), getDL hi, getDL (show j < l.length by omega), getDL (show k < l.length by omega), hc]
        by_cases hz : (thr (l.getD i V.zero) (l.getD j V.zero) (l.getD k V.zero)).1 = V.zero
        · have hb : D.beq (encV (thr (l.getD i V.zero) (l.getD j V.zero) (l.getD k V.zero)).1) (D.st [D.int .i64 0, D.int .i64 0, D.int .i64 0]) = true := by
            rw [enc_mk, beq_V]; exact decide_eq_true hz
          simp only [show D.get (encP (thr (l.getD i V.zero) (l.getD j V.zero) (l.getD k V.zero))) [0] = some (encV (thr (l.getD i V.zero) (l.getD j V.zero) (l.getD k V.zero)).1) from rfl, Option.bind_some, hb, tr_b, if_true, g0, D.els, b_add (inR_nat (i := k) (by omega))]
          exact ⟨_, rfl, K, rfl, hK.skip hz⟩
        · have hb : D.beq (encV (thr (l.getD i V.zero) (l.getD j V.zero) (l.getD k V.zero)).1) (D.st [D.int .i64 0, D.int .i64 0, D.int .i64 0]) = false := by
            rw [enc_mk, beq_V]; exact decide_eq_false hz
          have step := hK.step hk hj hi hz
          generalize hq : thr (l.getD i V.zero) (l.getD j V.zero) (l.getD k V.zero) = q at *
          obtain ⟨b1, b2, b3⟩ := hthr
          have hfl : D.st [encV q.1.neg, I (-q.2)] = encP (flip q) := rfl
          have b4 : bd 549755813888 (flip q).1 := bd_neg b1
          simp only [show D.get (encP q) [0] = some (encV q.1) from rfl, show D.get (encP q) [1] = some (I q.2) from rfl, Option.bind_some, hb, tr_b, Bool.false_eq_true, if_false, c97 (n + 4) b1 (by decide), u_neg b3, hfl]
          have one : ∀ (K : List (V × Int)) (p : V × Int), bd 549755813888 p.1 → (Option.bind (D.un .not (Option.getD (D.mget (mapD K) (encP p)) (D.bool false))) fun x32 => Option.bind (D.truth x32) fun b33 => Option.bind (if b33 then (Option.bind (cA (n + 5) 98 [D.sl (l.map encV), encP p]) fun r34 => D.truth r34) else (some false)) fun b36 =>
              if b36 then (some ((0 : Nat), [(D.sl [encP q, encP (flip q)]), (D.sl (D.mput (mapD K) (encP p) (D.bool true)))])) else (some (0, [(D.sl [encP q, encP (flip q)]), (D.sl (mapD K))]))) = some (0, [D.sl [encP q, encP (flip q)], D.sl (mapD (note l K p))]) := fun K p hp => by
            rw [mget_mapD]
            have ht := note_text (n := n + 3) (K := K) hl hp (by omega)
            simp only [encL] at ht
            by_cases hm : p ∈ K
            · simp [hm, u_not, tr_b, note]
            · simp only [hm, if_false, Option.getD_none, u_not, Bool.not_false, Option.bind_some, tr_b, if_true, decide_false, Bool.true_and] at ht ⊢
              rw [ht]
              simp only [Option.bind_some, note, hm, if_false]
              split
              · rw [mput_mapD K p hm]
              · rfl
          refine ⟨.inl [I ((k + 1 : Nat) : Int), .sl (mapD (note l (note l K q) (flip q)))], ?_, _, rfl, step⟩
          refine bind_eq (z := (0, [.sl (mapD (note l (note l K q) (flip q)))])) ?_ ?_
          · refine lp_nextA (s' := [.sl [encP q, encP (flip q)], I 1, .sl (mapD (note l K q))]) ?_ (lp_nextA (s' := [.sl [encP q, encP (flip q)], I 2, .sl (mapD (note l (note l K q) (flip q)))]) ?_ (lp_endA (r := (0, [.sl (mapD (note l (note l K q) (flip q)))])) ?_ rfl))
            · simp only [g0, g1, g2, D.els, b_lss, Option.bind_some, tr_b, decide_eq_true_eq, show ((0 : Int) < 2) from by decide, if_true, List.length_cons, List.length_nil, show D.idx (I 0) (0 + 1 + 1) = some 0 from rfl, List.getElem?_cons_zero, b_add i01]
              exact bind_eq (one K q b1) rfl
            · simp only [g0, g1, g2, D.els, b_lss, Option.bind_some, tr_b, decide_eq_true_eq, show ((1 : Int) < 2) from by decide, if_true, List.length_cons, List.length_nil, show D.idx (I 1) (0 + 1 + 1) = some 1 from rfl, List.getElem?_cons_succ, List.getElem?_cons_zero, b_add i12]
              exact bind_eq (one (note l K q) (flip q) b4) rfl
            · simp only [g0, g1, g2, D.els, b_lss, Option.bind_some, tr_b]; rfl
          · simp only [g0, D.els, b_add (inR_nat (i := k) (by omega)), Option.bind_some]
            rfl
      · obtain ⟨K, rfl, hK⟩ := hJ
        simp only [g0, g1, b_lss, Option.bind_some, tr_b, decide_eq_true_eq, Int.lt_irrefl, if_false, D.els]
        refine ⟨_, rfl, .inl [I ((j + 1 : Nat) : Int), .sl (mapD K)], ?_, K, rfl, hK.next⟩
        simp only [g0, D.els, b_add (inR_nat (i := j) (by omega)), Option.bind_some]
        rfl
    · obtain ⟨K, rfl, hK⟩ := hJ
      simp only [g0, g1, b_lss, Option.bind_some, tr_b, decide_eq_true_eq, Int.lt_irrefl, if_false, D.els]
      refine ⟨_, rfl, .inl [I ((i + 1 : Nat) : Int), .sl (mapD K)], ?_, K, rfl, hK.next2⟩
      simp only [g0, D.els, b_add (inR_nat (i := i) (by omega)), Option.bind_some]
      rfl
  · obtain ⟨K, rfl, hK⟩ := hJ
    simp only [g0, g1, List.length_map, b_lss, Option.bind_some, tr_b, decide_eq_true_eq, Int.lt_irrefl, if_false, D.els]
    obtain ⟨L, p1, p2⟩ := sort_ex (fun q : V × Int => q.1) K hK.keys
    refine ⟨_, rfl, .sl (L.map encP), ?_, K, L, hK, p1, p2, rfl⟩
    have hKl : (mapD K).length ≤ 1073741824 := by
      have := hK.len hlen
      simp only [mapD, List.length_map]; omega
    simp only [g0, D.els, hKl, decide_true, if_true, keys_mapD, sort100 (n + 2) p1 p2, Option.bind_some]
end Go.Proofs.YtjjjkojfijpeeaaGreat.Sy
end
section
/- The functions' plain texts: the planes are those of the facets. -/
set_option linter.unusedVariables false
namespace Go.Proofs.YtjjjkojfijpeeaaGreat.Sy
open Go Go.Proofs Go.Proofs.YtjjjkojfijpeeaaGreat.Geo

theorem supp_iff {l : List V} {q : V × Int} : supp l q = true ↔ Supp (pt l) l.length q.1 q.2 := by
  simp only [supp, supB, lowB, Bool.and_eq_true, List.all_eq_true, List.any_eq_true, decide_eq_true_eq, Supp, pt]
  constructor
  · rintro ⟨h1, x, hx, h2⟩
    obtain ⟨k, hk, rfl⟩ := List.getElem_of_mem hx
    exact ⟨fun k hk => h1 _ (memD hk), k, hk, by simpa [List.getD, hk] using h2⟩
  · rintro ⟨h1, k, hk, h2⟩
    refine ⟨fun x hx => ?_, _, memD hk, h2⟩
    obtain ⟨k, hk, rfl⟩ := List.getElem_of_mem hx
    simpa [List.getD, hk] using h1 k hk
theorem tri_rev (P : Nat → V) (i j k : Nat) : V.cross ((P j).sub (P i)) ((P k).sub (P i)) = (tri P k j i).neg := by
  apply V.ext' <;> simp only [tri, wy, V.cross, V.sub, V.neg] <;> grind
theorem dot_prim_eq {P : Nat → V} {i j k : Nat} : V.dot (prim (tri P i j k)) (P k) = V.dot (prim (tri P i j k)) (P i) := by
  by_cases h : tri P i j k = V.zero
  · have e0 : prim V.zero = V.zero := by apply V.ext' <;> simp [prim, V.zero]
    rw [h, e0]; simp [V.dot, V.zero]
  · have g := gcd3_pos h
    have e := prim_mul (tri P i j k)
    have t2 : V.dot (tri P i j k) (wy P i k) = 0 := by simp only [tri, V.dot, V.cross]; grind
    rw [e] at t2
    have : (gcd3 (tri P i j k) : Int) * V.dot (prim (tri P i j k)) (wy P i k) = 0 := by rw [← t2]; simp only [V.dot, V.smul]; grind
    have h0 := zero_of_mul (by omega) this
    rw [dot_wy] at h0
    omega
theorem neg_ne {v : V} (h : v ≠ V.zero) : v.neg ≠ V.zero := fun e => by
  have e1 := congrArg V.x e; have e2 := congrArg V.y e; have e3 := congrArg V.z e
  simp only [V.neg, V.zero] at e1 e2 e3
  exact h (V.ext' (by simp only [V.zero]; omega) (by simp only [V.zero]; omega) (by simp only [V.zero]; omega))
theorem thr_tri (l : List V) (i j k : Nat) : (thr (pt l i) (pt l j) (pt l k)).1 = (prim (tri (pt l) k j i)).neg := by
  simp only [thr, tri_rev (pt l) i j k, prim_neg]
theorem neg_neg' (v : V) : v.neg.neg = v := by apply V.ext' <;> simp [V.neg]
theorem Cd_iff {l : List V} {i j k : Nat} {q : V × Int} : Cd l i j k q ↔ tri (pt l) k j i ≠ V.zero ∧ (q.1 = prim (tri (pt l) k j i) ∨ q.1 = (prim (tri (pt l) k j i)).neg) ∧ q.2 = V.dot q.1 (pt l k) := by
  have e := thr_tri l i j k
  have hd : V.dot (prim (tri (pt l) k j i)) (pt l i) = V.dot (prim (tri (pt l) k j i)) (pt l k) := dot_prim_eq
  have hz : (thr (pt l i) (pt l j) (pt l k)).1 ≠ V.zero ↔ tri (pt l) k j i ≠ V.zero := by
    rw [e]
    constructor
    · intro h h0; rw [h0] at h; exact h rfl
    · intro h; exact neg_ne (prim_ne h)
  constructor
  · intro h
    have hds := h.dist
    obtain ⟨h1, h2⟩ := h
    refine ⟨hz.1 h1, ?_⟩
    have hq : q.1 = prim (tri (pt l) k j i) ∨ q.1 = (prim (tri (pt l) k j i)).neg := by
      rcases h2 with rfl | rfl
      · exact .inr e
      · left
        show (thr (pt l i) (pt l j) (pt l k)).1.neg = _
        rw [e, neg_neg']
    refine ⟨hq, ?_⟩
    rw [hds]
    rcases hq with hq | hq
    · rw [hq]; exact hd
    · rw [hq, dot_neg, dot_neg]; exact congrArg Neg.neg hd
  · rintro ⟨h1, h2, h3⟩
    refine ⟨hz.2 h1, ?_⟩
    have e2 : (thr (pt l i) (pt l j) (pt l k)).2 = V.dot (thr (pt l i) (pt l j) (pt l k)).1 (pt l i) := rfl
    obtain ⟨a, b⟩ := q
    simp only at h2 h3
    subst h3
    rcases h2 with rfl | rfl
    · right
      show _ = ((thr (pt l i) (pt l j) (pt l k)).1.neg, -(thr (pt l i) (pt l j) (pt l k)).2)
      rw [e2, e, neg_neg', dot_neg, hd, Int.neg_neg]
    · left
      refine Prod.ext e.symm ?_
      show _ = (thr (pt l i) (pt l j) (pt l k)).2
      rw [e2, e, dot_neg, dot_neg, hd]
theorem Known.facets {l : List V} {K L : List (V × Int)} (h : Known l l.length 0 0 K) (hp : L.Perm K) (ho : L.Pairwise (fun a b => lexlt a.1 b.1)) : Facets (pt l) l.length L := by
  refine ⟨ho, fun q => ⟨fun hq => ?_, fun hq => ?_⟩⟩
  · obtain ⟨hs, i, j, k, h1, h2, h3, hc⟩ := h.ok q (hp.subset hq)
    obtain ⟨c1, c2, c3⟩ := Cd_iff.1 hc
    exact ⟨⟨k, j, i, h1, h2, h3, c1, c2, c3⟩, supp_iff.1 hs⟩
  · obtain ⟨⟨i, j, k, h1, h2, h3, c1, c2, c3⟩, hs⟩ := hq
    exact hp.symm.subset (h.all k j i h1 h2 h3 (.inl h3) q (Cd_iff.2 ⟨c1, c2, c3⟩) (supp_iff.2 hs))
/-- planes gives the planes of the facets. -/
theorem q45 (n : Nat) {l : List V} (hl : ∀ x ∈ l, bd MV x) (hlen : l.length ≤ 100) : ∃ L : List (V × Int), Facets (pt l) l.length L ∧ cA (n + 6) 45 [encL l] = some (.sl (L.map encP)) := by
  obtain ⟨y, h1, K, L, h2, h3, h4, rfl⟩ := p45 n hl hlen
  exact ⟨L, h2.facets h3 h4, h1⟩
end Go.Proofs.YtjjjkojfijpeeaaGreat.Sy
end
section
/- The functions' plain texts: the polygon of a facet, by going round. -/
set_option linter.unusedVariables false
namespace Go.Proofs.YtjjjkojfijpeeaaGreat.Sy
open Go Go.Proofs Go.Proofs.YtjjjkojfijpeeaaGreat.Geo

/-- The best so far; -1 if there is none. -/
def encB : Option Nat → D
  | none => I (-1)
  | some b => I (b : Int)
theorem iteD {α : Type} {p : Prop} [Decidable p] {A B : α} (h : p) : (if decide p = true then A else B) = A := by rw [if_pos (decide_eq_true h)]
theorem iteN {α : Type} {p : Prop} [Decidable p] {A B : α} (h : ¬ p) : (if decide p = true then A else B) = B := by rw [if_neg (by simpa using h)]
theorem iteT {α : Type} {p : Prop} [Decidable p] {A B y : α} (h : p) (hA : A = y) : (if decide p = true then A else B) = y := by rw [if_pos (decide_eq_true h)]; exact hA
theorem iteF {α : Type} {p : Prop} [Decidable p] {A B y : α} (h : ¬ p) (hA : B = y) : (if decide p = true then A else B) = y := by rw [if_neg (by simpa using h)]; exact hA
theorem sg_lt {x : Int} : sg x < 0 ↔ x < 0 := by unfold sg; split <;> (try split) <;> omega
theorem sg_zero {x : Int} : sg x = 0 ↔ x = 0 := by unfold sg; split <;> (try split) <;> omega
theorem beq_nat (a b : Nat) : D.beq (I (a : Int)) (I (b : Int)) = decide (a = b) := by
  rw [beq_i]; by_cases h : a = b <;> simp [h]; omega
theorem core46 (n : Nat) {l : List V} (hl : ∀ x ∈ l, bd MV x) {m : V} {d : Int} {a k : Nat} {best : Option Nat} (hm0 : m ≠ V.zero) (ha : a < l.length) (hk : k < l.length) (hb : ∀ b, best = some b → b < l.length ∧ V.dot m (wy (pt l) a b) = 0) (hk0 : V.dot m (wy (pt l) a k) = 0) (X : D) :
    (Option.bind (D.truth (D.bool (D.beq (I (k : Int)) (I (a : Int))))) fun b25 =>
    if b25 then (some ((0 : Nat), [encB best, X])) else (Option.bind (D.bin .lss (encB best) (D.int .i64 0)) fun x26 =>
    Option.bind (D.truth x26) fun b27 =>
    if b27 then (some (0, [I (k : Int), X])) else (Option.bind (D.asSl (encL l)) fun l28 =>
    Option.bind (D.idx (I (k : Int)) (List.length l28)) fun i29 =>
    Option.bind (l28[i29]?) fun x30 =>
    Option.bind (D.asSl (encL l)) fun l31 =>
    Option.bind (D.idx (I (a : Int)) (List.length l31)) fun i32 =>
    Option.bind (l31[i32]?) fun x33 =>
    Option.bind (cA (n + 4) 103 [x30, x33]) fun r34 =>
    Option.bind (D.asSl (encL l)) fun l35 =>
    Option.bind (D.idx (encB best) (List.length l35)) fun i36 =>
    Option.bind (l35[i36]?) fun x37 =>
    Option.bind (D.asSl (encL l)) fun l38 =>
    Option.bind (D.idx (I (a : Int)) (List.length l38)) fun i39 =>
    Option.bind (l38[i39]?) fun x40 =>
    Option.bind (cA (n + 4) 103 [x37, x40]) fun r41 =>
    Option.bind (D.get (encP (m, d)) [0]) fun x42 =>
    Option.bind (cA (n + 4) 104 [x42, r41, r34]) fun r43 =>
    Option.bind (D.bin .lss r43 (D.int .i64 0)) fun x44 =>
    Option.bind (D.truth x44) fun b45 =>
    Option.bind (if b45 then (some true) else (Option.bind (D.truth (D.bool (D.beq r43 (D.int .i64 0)))) fun b46 =>
    if b46 then (Option.bind (cA (n + 4) 101 [r34, r34]) fun r47 =>
    Option.bind (cA (n + 4) 101 [r41, r41]) fun r48 =>
    Option.bind (D.bin .gtr r47 r48) fun x49 =>
    D.truth x49) else (some false))) fun b50 =>
    Option.bind (D.truth (D.bool b50)) fun b51 =>
    if b51 then (some (0, [I (k : Int), X])) else (some (0, [encB best, X]))))) = some (0, [encB (nextStep m (pt l) a best k), X]) := by
  by_cases hka : k = a
  · subst hka
    have h0 : D.beq (I (k : Int)) (I (k : Int)) = true := by rw [beq_nat]; simp
    rw [h0, show nextStep m (pt l) k best k = best from if_pos rfl]
    exact bind_eq (z := true) rfl (if_pos rfl)
  · have h0 : D.beq (I (k : Int)) (I (a : Int)) = false := by rw [beq_nat]; simp [hka]
    rw [h0]
    refine bind_eq (z := false) rfl ?_
    rw [if_neg (by decide)]
    have hns : ∀ b, nextStep m (pt l) a b k = match b with
      | none => some k
      | some b => if better m (pt l) a b k then some k else some b := fun b => if_neg hka
    rw [hns]
    clear hns h0
    cases best with
    | none => exact bind_eq (z := .bool true) rfl (bind_eq (z := true) rfl rfl)
    | some b =>
      obtain ⟨hb1, hb2⟩ := hb b rfl
      have c1 := c103 (n + 2) (hl _ (memD hk)) (hl _ (memD ha)) (by decide)
      have c2 := c103 (n + 2) (hl _ (memD hb1)) (hl _ (memD ha)) (by decide)
      have w1 : bd 524288 (wy (pt l) a k) := bd_wy (hl _ (memD ha)) (hl _ (memD hk))
      have w2 : bd 524288 (wy (pt l) a b) := bd_wy (hl _ (memD ha)) (hl _ (memD hb1))
      have e1 : (l.getD k V.zero).sub (l.getD a V.zero) = wy (pt l) a k := rfl
      have e2 : (l.getD b V.zero).sub (l.getD a V.zero) = wy (pt l) a b := rfl
      rw [e1] at c1; rw [e2] at c2
      have c3 := c104 (n + 1) (m := m) w2 w1 (by decide)
      have c4 := c101 (n + 3) w1 w1 (by decide)
      have c5 := c101 (n + 3) w2 w2 (by decide)
      have hle := left_eq hm0 (cross_par hb2 hk0)
      rw [hle] at c3
      have hlt : ¬ ((b : Int) < 0) := by omega
      have ll : (l.map encV).length = l.length := List.length_map ..
      refine bind_eq (z := .bool false) (by rw [show encB (some b) = I (b : Int) from rfl, b_lss, decide_eq_false hlt]) (bind_eq (z := false) rfl ?_)
      rw [if_neg (by decide)]
      refine bind_eq (z := l.map encV) rfl (bind_eq (z := k) (by rw [ll]; exact idx_n hk) (bind_eq (getDL hk) ?_))
      refine bind_eq (z := l.map encV) rfl (bind_eq (z := a) (by rw [ll]; exact idx_n ha) (bind_eq (getDL ha) ?_))
      refine bind_eq c1 ?_
      refine bind_eq (z := l.map encV) rfl (bind_eq (z := b) (by rw [ll]; exact idx_n hb1) (bind_eq (getDL hb1) ?_))
      refine bind_eq (z := l.map encV) rfl (bind_eq (z := a) (by rw [ll]; exact idx_n ha) (bind_eq (getDL ha) ?_))
      refine bind_eq c2 (bind_eq (z := encV m) rfl (bind_eq c3 (bind_eq b_lss (bind_eq tr_b ?_))))
      simp only [sg_lt, beq_i, sg_zero, tr_b, Option.bind_some, c4, c5, b_gtr, better, T]
      by_cases t1 : V.dot m (V.cross (wy (pt l) a b) (wy (pt l) a k)) < 0
      · simp [t1, encB]
      · by_cases t2 : V.dot m (V.cross (wy (pt l) a b) (wy (pt l) a k)) = 0
        · by_cases t3 : V.dot (wy (pt l) a b) (wy (pt l) a b) < V.dot (wy (pt l) a k) (wy (pt l) a k)
          · simp [t2, t3, encB]
          · simp [t2, t3, encB]
        · simp [t1, t2, encB]
end Go.Proofs.YtjjjkojfijpeeaaGreat.Sy
end
section
/- The functions' plain texts: the polygon of a facet. -/
set_option linter.unusedVariables false
namespace Go.Proofs.YtjjjkojfijpeeaaGreat.Sy
open Go Go.Proofs Go.Proofs.YtjjjkojfijpeeaaGreat.Geo

def enumN (L : List Nat) : List D := L.map fun (k : Nat) => I (k : Int)
theorem enumN_len (L : List Nat) : (enumN L).length = L.length := List.length_map ..
theorem enumN_get {L : List Nat} {t k : Nat} (h : L[t]? = some k) : (enumN L)[t]? = some (I (k : Int)) := by simp [enumN, h]
theorem idx_0 {n : Nat} (h : 0 < n) : D.idx (D.int .i64 0) n = some 0 := idx_n (i := 0) h
theorem fold_mem {m : V} {P : Nat → V} {a : Nat} : ∀ (L : List Nat) (best : Option Nat) (b : Nat), L.foldl (nextStep m P a) best = some b → b ∈ L ∨ best = some b
  | [], best, b, h => .inr h
  | k :: L, best, b, h => by
    rw [List.foldl_cons] at h
    rcases fold_mem L _ b h with h1 | h1
    · exact .inl (List.mem_cons_of_mem _ h1)
    · unfold nextStep at h1
      split at h1
      · exact .inr h1
      · split at h1
        · cases h1; exact .inl List.mem_cons_self
        · split at h1 <;> cases h1
          · exact .inl List.mem_cons_self
          · exact .inr rfl
theorem chain_loop {body : Bd} {S : Nat → Nat → Prop} {a : Nat} {G : Nat → Prop} (hS : ∀ c b, G c → S c b → b ≠ a → G b)
    (hstep : ∀ (c b : Nat) (out : List Nat), G c → c ≠ a → S c b → out.length ≤ 1000 → body [.sl (enumN out), I (c : Int)] = some (.inl [.sl (enumN (out ++ [c])), I (b : Int)]))
    (hend : ∀ out : List Nat, body [.sl (enumN out), I (a : Int)] = some (.inr (0, [.sl (enumN out)]))) :
    ∀ {c : Nat} {p : List Nat}, Chain S a c p → G c → c ≠ a → ∀ out : List Nat, (out ++ p).length ≤ 1000 → lpW body [.sl (enumN out), I (c : Int)] = some (0, [.sl (enumN (out ++ p))])
  | c, _, .done s, hc, hca, out, hl => by
    have h1 := hstep c a out hc hca s (by simp at hl; omega)
    rw [show lpW body [.sl (enumN out), I (c : Int)] = lpW body [.sl (enumN (out ++ [c])), I (a : Int)] from loopW_next h1]
    exact loopW_end (hend _)
  | c, _, .step (y := y) (l := p) s hy k, hc, hca, out, hl => by
    have h1 := hstep c y out hc hca s (by simp at hl; omega)
    rw [show lpW body [.sl (enumN out), I (c : Int)] = lpW body [.sl (enumN (out ++ [c])), I (y : Int)] from loopW_next h1]
    have := chain_loop hS hstep hend k (hS c y hc s hy) hy (out ++ [c]) (by simpa using hl)
    rw [this]; simp
theorem onPl_succ {P : Nat → V} {i : Nat} {m : V} {d : Int} : OnPl P (i + 1) m d = if V.dot m (P i) = d then OnPl P i m d ++ [i] else OnPl P i m d := by
  unfold OnPl
  rw [List.range_succ, List.filter_append]
  by_cases h : V.dot m (P i) = d
  · simp [h]
  · simp [h]
theorem p46 (n : Nat) {l : List V} (hl : ∀ x ∈ l, bd MV x) (hlen : l.length ≤ 100) (hs : ∀ i j, i < j → j < l.length → lexlt (pt l i) (pt l j)) {m : V} {d : Int} (hF : IsF (pt l) l.length m d) (hm : bd 549755813888 m) :
    ∃ p, IsPoly (pt l) l.length m d p ∧ cA (n + 5) 46 [encL l, encP (m, d)] = some (.sl (enumN p)) := by
  obtain ⟨p, hp, hnd, hmem⟩ := hF.poly hs
  refine ⟨p, hp, ?_⟩
  have F := hF.flat hs
  obtain ⟨a, ha1, ha, hea, hale, h3⟩ := hF.head hs
  obtain ⟨a', ha1', hch⟩ := hp
  rw [ha1] at ha1'; cases ha1'
  obtain ⟨on, hon⟩ : ∃ on, OnPl (pt l) l.length m d = on := ⟨_, rfl⟩
  rw [hon] at F ha1 ha hea hale h3 hch hmem
  have hlt : ∀ k ∈ on, k < l.length := fun k hk => by rw [← hon] at hk; exact (mem_onPl.1 hk).1
  have hdk : ∀ k ∈ on, V.dot m (pt l k) = d := fun k hk => by rw [← hon] at hk; exact (mem_onPl.1 hk).2
  have hw : ∀ b ∈ on, ∀ k ∈ on, V.dot m (wy (pt l) b k) = 0 := fun b hb k hk => by rw [dot_wy, hdk b hb, hdk k hk]; omega
  have honl : on.length ≤ 100 := by
    rw [← hon]; unfold OnPl
    exact Nat.le_trans (List.length_filter_le _ _) (by rw [List.length_range]; exact hlen)
  have hpl : p.length ≤ on.length := List.Nodup.length_le_of_subset hnd fun z hz => ((hmem z).1 hz).1
  have ll : (l.map encV).length = l.length := List.length_map ..
  have hcore := fun (c k : Nat) (hc : c ∈ on) (hk : k ∈ on) (best : Option Nat) (hb : ∀ b, best = some b → b ∈ on) (X : D) => core46 n hl (d := d) hF.nz.1 (hlt c hc) (hlt k hk) (best := best) (fun b e => ⟨hlt b (hb b e), hw c hc b (hb b e)⟩) (hw c hc k hk) X
  have hnx : ∀ c ∈ on, Geo.Ext (pt l) on c → ∃ b, on.foldl (nextStep m (pt l) c) none = some b ∧ Side m (pt l) on c b := fun c hc ec => next_side F hc ec (h3 c hc)
  obtain ⟨t0, hon0⟩ : ∃ t0, on = a :: t0 := by
    cases hx : on with
    | nil => rw [hx] at ha; simp at ha
    | cons y t0 => rw [hx] at ha1; simp at ha1; subst ha1; exact ⟨t0, rfl⟩
  have hget0 : (enumN on)[0]? = some (I (a : Int)) := by rw [hon0]; rfl
  have hpos : 0 < (enumN on).length := by rw [enumN_len, hon0]; simp
  rw [u46]
  unfold F46
  refine bind_eq (z := l.map encV) rfl ?_
  -- the points of the plane
  refine lp_for (fun i s => s = [I (i : Int), .sl (enumN (OnPl (pt l) i m d))]) l.length 0 (Nat.zero_le _) rfl (fun i hi s hJ => ?_) (fun s hJ => ?_)
  · subst hJ
    left
    refine ⟨_, ?_, rfl⟩
    refine bind_eq b_lss (bind_eq tr_b ?_)
    refine iteT (by show ((i : Int) < ((l.map encV).length : Int)); rw [ll]; omega) ?_
    refine bind_eq (z := (0, [.sl (enumN (OnPl (pt l) (i + 1) m d))])) ?_ (bind_eq (b_add (inR_nat (i := i) (by omega))) rfl)
    refine bind_eq (z := l.map encV) rfl (bind_eq (z := i) (by rw [ll]; exact idx_n hi) (bind_eq (getDL hi) (bind_eq (z := encV m) rfl (bind_eq (c101 (n + 3) hm (hl _ (memD hi)) (by decide)) (bind_eq (z := I d) rfl ?_)))))
    rw [beq_i]
    refine bind_eq tr_b ?_
    rw [onPl_succ]
    by_cases hd : V.dot m (pt l i) = d
    · have hd' : V.dot m (l.getD i V.zero) = d := hd
      rw [if_pos hd, iteD hd', if_pos ?_]
      · simp [g1, D.els, enumN, g0]
      · have : (OnPl (pt l) i m d).length ≤ i := by unfold OnPl; exact Nat.le_trans (List.length_filter_le _ _) (by simp)
        simp only [g0, g1, D.els, enumN_len, List.length_cons, List.length_nil]; omega
    · have hd' : ¬ V.dot m (l.getD i V.zero) = d := hd
      rw [if_neg hd, iteN hd']
      rfl
  · subst hJ
    refine ⟨(0, [.sl (enumN on)]), ?_, ?_⟩
    · refine bind_eq b_lss (bind_eq tr_b ?_)
      rw [← hon]
      exact iteF (by show ¬ ((l.length : Int) < ((l.map encV).length : Int)); rw [ll]; omega) rfl
    -- the first one and its next
    refine bind_eq (idx_0 hpos) (bind_eq hget0 (bind_eq (idx_0 hpos) (bind_eq hget0 ?_)))
    obtain ⟨b1, hb1, hs1⟩ := hnx a ha hea
    refine lp_for (fun t s => s = [encB ((on.take t).foldl (nextStep m (pt l) a) none), .sl (enumN on), I (t : Int), .sl (enumN on)]) on.length 0 (Nat.zero_le _) rfl (fun t ht s hJ => ?_) (fun s hJ => ?_)
    · subst hJ
      left
      refine ⟨_, ?_, rfl⟩
      refine bind_eq b_lss (bind_eq tr_b ?_)
      refine iteT (by show ((t : Int) < ((enumN on).length : Int)); rw [enumN_len]; omega) ?_
      have hk : on[t]? = some on[t] := List.getElem?_eq_getElem ht
      refine bind_eq (z := (0, [encB ((on.take (t + 1)).foldl (nextStep m (pt l) a) none), .sl (enumN on)])) ?_ (bind_eq (b_add (inR_nat (i := t) (by omega))) rfl)
      refine bind_eq (z := enumN on) rfl (bind_eq (z := t) (by rw [enumN_len]; exact idx_n ht) (bind_eq (enumN_get hk) ?_))
      rw [List.take_succ_eq_append_getElem ht, List.foldl_append, List.foldl_cons, List.foldl_nil]
      exact hcore a on[t] ha (List.getElem_mem ht) _ (fun b hb => by
        rcases fold_mem _ _ b hb with h | h
        · exact List.mem_of_mem_take h
        · cases h) (.sl (enumN on))
    · subst hJ
      rw [List.take_length, hb1]
      refine ⟨(0, [I (b1 : Int), .sl (enumN on)]), ?_, ?_⟩
      · refine bind_eq b_lss (bind_eq tr_b ?_)
        refine iteF (by show ¬ ((on.length : Int) < ((enumN on).length : Int)); rw [enumN_len]; omega) ?_
        rfl
      -- round
      obtain ⟨p', hpp, hch', hy⟩ : ∃ p', p = a :: p' ∧ Chain (Side m (pt l) on) a b1 p' ∧ b1 ≠ a := by
        cases hch with
        | done s => exact absurd rfl s.ne
        | step s hne k =>
          have := Side.unique F ha s hs1
          subst this
          exact ⟨_, rfl, k, hne⟩
      refine lp_val (chain_loop (S := Side m (pt l) on) (a := a) (G := fun c => c ∈ on ∧ Geo.Ext (pt l) on c) (fun c b hc s _ => ⟨s.mem, s.ext F hc.1⟩) (fun c b out hc hca hsd hol => ?_) (fun out => ?_) hch' ⟨hs1.mem, hs1.ext F ha⟩ hy [a] ?_) ?_
      · obtain ⟨b', hb', hsb'⟩ := hnx c hc.1 hc.2
        have := Side.unique F hc.1 hsd hsb'
        subst this
        refine bind_eq (z := enumN on) rfl (bind_eq (idx_0 hpos) (bind_eq hget0 ?_))
        have e0 : D.beq (I (c : Int)) (I (a : Int)) = false := by rw [beq_nat]; simp [hca]
        refine bind_eq (z := true) (by show D.truth (D.bool (!(D.beq (I (c : Int)) (I (a : Int))))) = _; rw [e0]; rfl) ?_
        rw [if_pos rfl, if_pos (by simp only [g0, D.els, enumN_len, List.length_cons, List.length_nil]; omega)]
        refine bind_eq (z := enumN on) rfl ?_
        refine lp_forA (fun t s => s = [encB ((on.take t).foldl (nextStep m (pt l) c) none), I (t : Int)]) on.length 0 (Nat.zero_le _) rfl (fun t ht s hJ => ?_) (fun s hJ => ?_)
        · subst hJ
          left
          refine ⟨_, ?_, rfl⟩
          refine bind_eq b_lss (bind_eq tr_b ?_)
          refine iteT (by show ((t : Int) < ((enumN on).length : Int)); rw [enumN_len]; omega) ?_
          have hk : on[t]? = some on[t] := List.getElem?_eq_getElem ht
          refine bind_eq (z := (0, [encB ((on.take (t + 1)).foldl (nextStep m (pt l) c) none), .sl (enumN on)])) ?_ (bind_eq (b_add (inR_nat (i := t) (by omega))) rfl)
          refine bind_eq (z := enumN on) rfl (bind_eq (z := t) (by rw [enumN_len]; exact idx_n ht) (bind_eq (enumN_get hk) ?_))
          rw [List.take_succ_eq_append_getElem ht, List.foldl_append, List.foldl_cons, List.foldl_nil]
          exact hcore c on[t] hc.1 (List.getElem_mem ht) _ (fun b hb => by
            rcases fold_mem _ _ b hb with h | h
            · exact List.mem_of_mem_take h
            · cases h) (.sl (enumN on))
        · subst hJ
          rw [List.take_length, hb']
          refine ⟨(0, [I (b : Int)]), ?_, ?_⟩
          · refine bind_eq b_lss (bind_eq tr_b ?_)
            refine iteF (by show ¬ ((on.length : Int) < ((enumN on).length : Int)); rw [enumN_len]; omega) ?_
            rfl
          · simp [g0, g1, D.els, enumN]
      · refine bind_eq (z := enumN on) rfl (bind_eq (idx_0 hpos) (bind_eq hget0 ?_))
        have e0 : D.beq (I (a : Int)) (I (a : Int)) = true := by rw [beq_nat]; simp
        refine bind_eq (z := false) (by show D.truth (D.bool (!(D.beq (I (a : Int)) (I (a : Int))))) = _; rw [e0]; rfl) ?_
        rfl
      · have : ([a] ++ p').length = p.length := by rw [hpp]; rfl
        omega
      · rw [hpp]; rfl
end Go.Proofs.YtjjjkojfijpeeaaGreat.Sy
end
section
/- The functions' plain texts: facets, edges. -/
set_option linter.unusedVariables false
namespace Go.Proofs.YtjjjkojfijpeeaaGreat.Sy
open Go Go.Proofs Go.Proofs.YtjjjkojfijpeeaaGreat.Geo

def encF (q : V × Int) (p : List Nat) : D := .st [encV q.1, I q.2, .sl (enumN p)]
def encC (l : List V) : D := .st [encL l]
def Srt (l : List V) : Prop := ∀ i j, i < j → j < l.length → lexlt (pt l i) (pt l j)
theorem isF_bd {l : List V} (hl : ∀ x ∈ l, bd MV x) {m : V} {d : Int} (h : IsF (pt l) l.length m d) : bd 549755813888 m := by
  obtain ⟨i, j, k, h1, h2, h3, h4, h5, h6⟩ := h.ex
  have hi := hl _ (memD (show i < l.length by omega))
  have hj := hl _ (memD (show j < l.length by omega))
  have hk := hl _ (memD h3)
  have := bd_prim (bd_cross (bd_wy (P := pt l) hi hj) (bd_wy (P := pt l) hi hk))
  rcases h5 with rfl | rfl
  · exact this
  · exact bd_neg this
theorem p18 (n : Nat) {l : List V} (hl : ∀ x ∈ l, bd MV x) (hlen : l.length ≤ 100) (hs : Srt l) : ∃ (L : List (V × Int)) (poly : V × Int → List Nat), Facets (pt l) l.length L ∧ (∀ q ∈ L, IsPoly (pt l) l.length q.1 q.2 (poly q)) ∧ L.length ≤ 2000000 ∧
    cA (n + 7) 18 [encC l] = some (.sl (L.map fun q => encF q (poly q))) := by
  obtain ⟨y, h1, K, L, h2, h3, h4, rfl⟩ := p45 n hl hlen
  have hLF := h2.facets h3 h4
  have hLl : L.length ≤ 2000000 := by rw [h3.length_eq]; exact h2.len hlen
  have hex : ∀ q : V × Int, ∃ p, q ∈ L → IsPoly (pt l) l.length q.1 q.2 p ∧ cA (n + 6) 46 [encL l, encP q] = some (.sl (enumN p)) := fun q => by
    by_cases hq : q ∈ L
    · have hF := (hLF.mem q).1 hq
      obtain ⟨p, k1, k2⟩ := p46 (n + 1) hl hlen hs hF (isF_bd hl hF)
      exact ⟨p, fun _ => ⟨k1, k2⟩⟩
    · exact ⟨[], fun h => absurd h hq⟩
  obtain ⟨poly, hpoly⟩ : ∃ poly : V × Int → List Nat, ∀ q ∈ L, IsPoly (pt l) l.length q.1 q.2 (poly q) ∧ cA (n + 6) 46 [encL l, encP q] = some (.sl (enumN (poly q))) := ⟨fun q => Classical.choose (hex q), fun q hq => Classical.choose_spec (hex q) hq⟩
  refine ⟨L, poly, hLF, fun q hq => (hpoly q hq).1, hLl, ?_⟩
  have hp := fun q (hq : q ∈ L) => (hpoly q hq).2
  rw [u18]
  unfold F18
  refine bind_eq (z := encL l) rfl (bind_eq h1 (bind_eq (z := L.map encP) rfl ?_))
  have ll : (L.map encP).length = L.length := List.length_map ..
  refine lp_for (fun i s => s = [.sl ((L.take i).map fun q => encF q (poly q)), I (i : Int)]) L.length 0 (Nat.zero_le _) rfl (fun i hi s hJ => ?_) (fun s hJ => ?_)
  · subst hJ
    left
    refine ⟨_, ?_, rfl⟩
    refine bind_eq b_lss (bind_eq tr_b (iteT (by show ((i : Int) < ((L.map encP).length : Int)); rw [ll]; omega) ?_))
    have hg : (L.map encP)[i]? = some (encP L[i]) := by simp [hi]
    refine bind_eq (z := L.map encP) rfl (bind_eq (z := i) (by rw [ll]; exact idx_n hi) (bind_eq hg ?_))
    refine bind_eq (z := encV L[i].1) rfl (bind_eq (z := I L[i].2) rfl (bind_eq (z := encL l) rfl (bind_eq (hp L[i] (List.getElem_mem hi)) ?_)))
    rw [if_pos (by simp only [g0, D.els, List.length_map, List.length_take, List.length_cons, List.length_nil]; omega)]
    refine bind_eq (b_add (inR_nat (i := i) (by omega))) ?_
    rw [List.take_succ_eq_append_getElem hi, List.map_append]
    rfl
  · subst hJ
    refine ⟨(0, [.sl ((L.take L.length).map fun q => encF q (poly q))]), ?_, ?_⟩
    · refine bind_eq b_lss (bind_eq tr_b (iteF (by show ¬ ((L.length : Int) < ((L.map encP).length : Int)); rw [ll]; omega) rfl))
    · rw [List.take_length]; rfl
def encE (e : Nat × Nat) : D := .st [I (e.1 : Int), I (e.2 : Int)]
theorem cmp2_lt {a b : Nat × Nat} (h : plt a b) : orZ [cmpZ (a.1 : Int) b.1, cmpZ (a.2 : Int) b.2] = -1 := by
  simp only [plt] at h
  rcases h with h | ⟨h1, h⟩
  · have : (a.1 : Int) < b.1 := by omega
    simp [orZ, cmpZ, this]
  · have e : (a.1 : Int) = b.1 := by omega
    have : (a.2 : Int) < b.2 := by omega
    simp [orZ, cmpZ, e, this]
theorem cmp2_gt {a b : Nat × Nat} (h : plt b a) : orZ [cmpZ (a.1 : Int) b.1, cmpZ (a.2 : Int) b.2] = 1 := by
  simp only [plt] at h
  rcases h with h | ⟨h1, h⟩
  · have : (b.1 : Int) < a.1 := by omega
    simp [orZ, cmpZ, this, Int.not_lt.2 (Int.le_of_lt this)]
  · have e : (a.1 : Int) = b.1 := by omega
    have : (b.2 : Int) < a.2 := by omega
    simp [orZ, cmpZ, e, this, Int.not_lt.2 (Int.le_of_lt this)]
theorem cmpI51 (n : Nat) (p q : Nat × Nat) : cmpI (envOf lpW (cA (n + 3)) (inlP lpW (cA (n + 3)))) 51 (encE p) (encE q) = some (orZ [cmpZ (p.1 : Int) q.1, cmpZ (p.2 : Int) q.2]) := by
  unfold cmpI
  rw [show (envOf lpW (cA (n + 3)) (inlP lpW (cA (n + 3)))).call = cA (n + 3) from rfl, show encE p = .st [I (p.1 : Int), I (p.2 : Int)] from rfl, show encE q = .st [I (q.1 : Int), I (q.2 : Int)] from rfl, c51]
  rfl
theorem chk51 (n : Nat) : ∀ (L : List (Nat × Nat)), L.Pairwise plt → chkS (envOf lpW (cA (n + 3)) (inlP lpW (cA (n + 3)))) 51 (L.map encE) = true
  | [], _ => rfl
  | p :: L, h => by
    obtain ⟨h1, h2⟩ := List.pairwise_cons.1 h
    simp only [List.map_cons, chkS, Bool.and_eq_true, List.all_eq_true, List.mem_map]
    refine ⟨⟨?_, ?_⟩, chk51 n L h2⟩
    · simp only [geD, cmpI51]; simp [orZ, cmpZ]
    · rintro _ ⟨q, hq, rfl⟩
      simp only [ltD, geD, cmpI51, cmp2_lt (h1 q hq), cmp2_gt (h1 q hq)]; decide
theorem plt_tri {a b : Nat × Nat} (h : a ≠ b) : plt a b ∨ plt b a := by
  obtain ⟨a1, a2⟩ := a
  obtain ⟨b1, b2⟩ := b
  simp only [plt]
  by_cases h1 : a1 = b1 <;> by_cases h2 : a2 = b2
  · subst h1; subst h2; exact absurd rfl h
  all_goals omega
theorem sort_exP : ∀ (K : List (Nat × Nat)), K.Nodup → ∃ L : List (Nat × Nat), L.Perm K ∧ L.Pairwise plt
  | [], _ => ⟨[], .refl _, .nil⟩
  | x :: K, h => by
    obtain ⟨h1, h2⟩ := List.nodup_cons.1 h
    obtain ⟨L, p1, p2⟩ := sort_exP K h2
    have ins : ∀ L : List (Nat × Nat), L.Pairwise plt → (∀ y ∈ L, x ≠ y) → ∃ M : List (Nat × Nat), M.Perm (x :: L) ∧ M.Pairwise plt := by
      intro L
      induction L with
      | nil => intro _ _; exact ⟨[x], .refl _, by simp⟩
      | cons y L ih =>
        intro hp hn
        obtain ⟨q1, q2⟩ := List.pairwise_cons.1 hp
        rcases plt_tri (hn y List.mem_cons_self) with k | k
        · refine ⟨x :: y :: L, .refl _, List.pairwise_cons.2 ⟨fun z hz => ?_, hp⟩⟩
          rcases List.mem_cons.1 hz with rfl | hz
          · exact k
          · have := q1 z hz; simp only [plt] at *; omega
        · obtain ⟨M, m1, m2⟩ := ih q2 (fun z hz => hn z (List.mem_cons_of_mem _ hz))
          refine ⟨y :: M, (m1.cons y).trans (.swap x y L), List.pairwise_cons.2 ⟨fun z hz => ?_, m2⟩⟩
          rcases List.mem_cons.1 (m1.subset hz) with rfl | hz
          · exact k
          · exact q1 z hz
    obtain ⟨M, m1, m2⟩ := ins L p2 (fun y hy e => h1 (p1.subset (e ▸ hy)))
    exact ⟨M, m1.trans (p1.cons x), m2⟩
theorem enumN_getD {p : List Nat} {k : Nat} (h : k < p.length) : (enumN p)[k]? = some (I (p.getD k 0 : Nat)) := by simp [enumN, List.getD, h]
/-- The edges of the first k places. -/
def edgesTo (p : List Nat) (k : Nat) : List (Nat × Nat) := (List.range k).filterMap fun k => if p.getD k 0 < p.getD ((k + 1) % p.length) 0 then some (p.getD k 0, p.getD ((k + 1) % p.length) 0) else none
theorem edgesTo_succ (p : List Nat) (k : Nat) : edgesTo p (k + 1) = if p.getD k 0 < p.getD ((k + 1) % p.length) 0 then edgesTo p k ++ [(p.getD k 0, p.getD ((k + 1) % p.length) 0)] else edgesTo p k := by
  unfold edgesTo
  rw [List.range_succ, List.filterMap_append]
  split
  · rename_i h; simp only [List.filterMap_cons, List.filterMap_nil, if_pos h]
  · rename_i h; simp only [List.filterMap_cons, List.filterMap_nil, if_neg h, List.append_nil]
theorem edgesTo_len (p : List Nat) (k : Nat) : (edgesTo p k).length ≤ k := by
  unfold edgesTo; exact Nat.le_trans (List.length_filterMap_le _ _) (by simp)
theorem p21 (n : Nat) {l : List V} {L : List (V × Int)} {poly : V × Int → List Nat} (h18 : cA (n + 7) 18 [encC l] = some (.sl (L.map fun q => encF q (poly q)))) (hL : L.length ≤ 2000000) (hp : ∀ q ∈ L, (poly q).length ≤ 100 ∧ 0 < (poly q).length)
    (hnd : (upEdges L poly).Nodup) : ∃ E : List (Nat × Nat), E.Perm (upEdges L poly) ∧ E.Pairwise plt ∧ cA (n + 8) 21 [encC l] = some (.sl (E.map encE)) := by
  obtain ⟨E, e1, e2⟩ := sort_exP _ hnd
  refine ⟨E, e1, e2, ?_⟩
  rw [u21]
  unfold F21
  refine bind_eq h18 (bind_eq (z := L.map fun q => encF q (poly q)) rfl ?_)
  have ll : (L.map fun q => encF q (poly q)).length = L.length := List.length_map ..
  have ub : ∀ i, i ≤ L.length → (upEdges (L.take i) poly).length ≤ i * 100 := fun i hi => by
    induction i with
    | zero => simp [upEdges]
    | succ i ih =>
      have hi' : i < L.length := by omega
      rw [List.take_succ_eq_append_getElem hi', upEdges, List.flatMap_append, List.length_append]
      have h1 := ih (by omega)
      simp only [upEdges] at h1
      have h2 : (edgesOf (poly L[i])).length ≤ 100 := Nat.le_trans (edgesTo_len (poly L[i]) (poly L[i]).length) (hp _ (List.getElem_mem hi')).1
      simp only [List.flatMap_cons, List.flatMap_nil, List.append_nil]
      omega
  refine lp_for (fun i s => s = [.sl ((upEdges (L.take i) poly).map encE), I (i : Int)]) L.length 0 (Nat.zero_le _) rfl (fun i hi s hJ => ?_) (fun s hJ => ?_)
  · subst hJ
    left
    refine ⟨_, ?_, rfl⟩
    refine bind_eq b_lss (bind_eq tr_b (iteT (by show ((i : Int) < ((L.map fun q => encF q (poly q)).length : Int)); rw [ll]; omega) ?_))
    have hg : (L.map fun q => encF q (poly q))[i]? = some (encF L[i] (poly L[i])) := by simp [hi]
    refine bind_eq (z := L.map fun q => encF q (poly q)) rfl (bind_eq (z := i) (by rw [ll]; exact idx_n hi) (bind_eq hg (bind_eq (z := .sl (enumN (poly L[i]))) rfl (bind_eq (z := enumN (poly L[i])) rfl ?_))))
    obtain ⟨pl1, pl2⟩ := hp L[i] (List.getElem_mem hi)
    have hM := ub i (by omega)
    obtain ⟨M, hMd⟩ : ∃ M, M = upEdges (L.take i) poly := ⟨_, rfl⟩
    rw [← hMd] at hM ⊢
    have hMn : upEdges (L.take (i + 1)) poly = M ++ edgesTo (poly L[i]) (poly L[i]).length := by
      rw [List.take_succ_eq_append_getElem hi, hMd, upEdges, List.flatMap_append]
      simp [upEdges, edgesOf, edgesTo]
    rw [hMn]
    generalize poly L[i] = p at *
    refine lp_forA (fun k s => s = [.sl ((M ++ edgesTo p k).map encE), I (k : Int)]) p.length 0 (Nat.zero_le _) (by simp [edgesTo, g0, D.els]) (fun k hk s hJ => ?_) (fun s hJ => ?_)
    · subst hJ
      left
      refine ⟨_, ?_, rfl⟩
      refine bind_eq b_lss (bind_eq tr_b (iteT (by show ((k : Int) < ((enumN p).length : Int)); rw [enumN_len]; omega) ?_))
      have hmod : (k + 1) % p.length < p.length := Nat.mod_lt _ pl2
      have hrem : (((k : Int) + 1).tmod (p.length : Int)) = (((k + 1) % p.length : Nat) : Int) := by
        rw [show ((k : Int) + 1) = ((k + 1 : Nat) : Int) by omega]; exact Int.ofNat_tmod ..
      refine bind_eq (z := (0, [.sl ((M ++ edgesTo p (k + 1)).map encE)])) ?_ (bind_eq (b_add (inR_nat (i := k) (by omega))) rfl)
      refine bind_eq (z := enumN p) rfl (bind_eq (z := k) (by rw [enumN_len]; exact idx_n hk) (bind_eq (enumN_getD hk) (bind_eq (z := .sl (enumN p)) rfl (bind_eq (b_add (inR_nat (i := k) (by omega))) (bind_eq (z := .sl (enumN p)) rfl (bind_eq (z := enumN p) rfl ?_))))))
      refine bind_eq (z := I (((k + 1) % p.length : Nat) : Int)) (by rw [show ((enumN p).length : Int) = (p.length : Int) by rw [enumN_len], b_rem (by omega), hrem]) ?_
      refine bind_eq (z := enumN p) rfl (bind_eq (z := (k + 1) % p.length) (by rw [enumN_len]; exact idx_n hmod) (bind_eq (enumN_getD hmod) (bind_eq b_lss (bind_eq tr_b ?_))))
      rw [edgesTo_succ]
      have hel := edgesTo_len p k
      by_cases hab : p.getD k 0 < p.getD ((k + 1) % p.length) 0
      · refine iteT (by show ((p.getD k 0 : Nat) : Int) < ((p.getD ((k + 1) % p.length) 0 : Nat) : Int); omega) ?_
        rw [if_pos hab, if_pos (by simp only [g0, D.els, List.length_map, List.length_append, List.length_cons, List.length_nil]; omega)]
        simp [g0, D.els, encE]
      · refine iteF (by show ¬ ((p.getD k 0 : Nat) : Int) < ((p.getD ((k + 1) % p.length) 0 : Nat) : Int); omega) ?_
        rw [if_neg hab]; rfl
    · subst hJ
      refine ⟨(0, [.sl ((M ++ edgesTo p p.length).map encE)]), ?_, ?_⟩
      · refine bind_eq b_lss (bind_eq tr_b (iteF (by show ¬ ((p.length : Int) < ((enumN p).length : Int)); rw [enumN_len]; omega) rfl))
      · exact bind_eq (b_add (inR_nat (i := i) (by omega))) rfl
  · subst hJ
    refine ⟨(0, [.sl ((upEdges (L.take L.length) poly).map encE)]), ?_, ?_⟩
    · refine bind_eq b_lss (bind_eq tr_b (iteF (by show ¬ ((L.length : Int) < ((L.map fun q => encF q (poly q)).length : Int)); rw [ll]; omega) rfl))
    · have hu := ub L.length (Nat.le_refl _)
      rw [List.take_length] at hu ⊢
      refine bind_eq (z := (upEdges L poly).map encE) ?_ (bind_eq (sortD_of (chk51 (n + 4) E e2) (e1.symm.map _)) rfl)
      exact iteT (by show ((upEdges L poly).map encE).length ≤ 1073741824; rw [List.length_map]; omega) rfl
end Go.Proofs.YtjjjkojfijpeeaaGreat.Sy
end
section
/- The specification's plain texts: lists of facets, sides. -/
set_option linter.unusedVariables false
namespace Go.Proofs.YtjjjkojfijpeeaaGreat.Sy
open Go Go.Proofs Go.Proofs.YtjjjkojfijpeeaaGreat.Geo

abbrev FL := List ((V × Int) × List Nat)
def encFL (L : FL) : List D := L.map fun f => encF f.1 f.2
theorem encFL_len (L : FL) : (encFL L).length = L.length := List.length_map ..
theorem encFL_get {L : FL} {i : Nat} (h : i < L.length) : (encFL L)[i]? = some (encF L[i].1 L[i].2) := by simp [encFL, h]
theorem c108 (n : Nat) (L : FL) (m : V) (hL : L.length ≤ 3000000) : cA (n + 1) 108 [.sl (encFL L), encV m] = some (.bool (L.any fun f => decide (f.1.1 = m))) := by
  rw [u108]
  unfold F108
  refine lp_for (fun i s => s = [I (i : Int)] ∧ (L.take i).any (fun f => decide (f.1.1 = m)) = false) L.length 0 (Nat.zero_le _) ⟨rfl, by simp⟩ (fun i hi s hJ => ?_) (fun s hJ => ?_)
  · obtain ⟨rfl, hz⟩ := hJ
    by_cases he : L[i].1.1 = m
    · right
      refine ⟨(0, [.bool true]), ?_, ?_⟩
      · refine bind_eq (z := encFL L) rfl (bind_eq b_lss (bind_eq tr_b (iteT (by show ((i : Int) < ((encFL L).length : Int)); rw [encFL_len]; omega) ?_)))
        refine bind_eq (z := encFL L) rfl (bind_eq (z := i) (by rw [encFL_len]; exact idx_n hi) (bind_eq (encFL_get hi) (bind_eq (z := encV L[i].1.1) rfl ?_)))
        rw [beq_V]
        exact bind_eq tr_b (iteT he rfl)
      · have : L.any (fun f => decide (f.1.1 = m)) = true := List.any_eq_true.2 ⟨L[i], List.getElem_mem hi, by simpa using he⟩
        simp [this, g0]
    · left
      refine ⟨[I ((i + 1 : Nat) : Int)], ?_, rfl, ?_⟩
      · refine bind_eq (z := encFL L) rfl (bind_eq b_lss (bind_eq tr_b (iteT (by show ((i : Int) < ((encFL L).length : Int)); rw [encFL_len]; omega) ?_)))
        refine bind_eq (z := encFL L) rfl (bind_eq (z := i) (by rw [encFL_len]; exact idx_n hi) (bind_eq (encFL_get hi) (bind_eq (z := encV L[i].1.1) rfl ?_)))
        rw [beq_V]
        exact bind_eq tr_b (iteF he (bind_eq (b_add (inR_nat (i := i) (by omega))) rfl))
      · rw [List.take_succ_eq_append_getElem hi, List.any_append, hz]; simp [he]
  · obtain ⟨rfl, hz⟩ := hJ
    rw [List.take_length] at hz
    refine ⟨(1, []), ?_, by simp [hz]⟩
    exact bind_eq (z := encFL L) rfl (bind_eq b_lss (bind_eq tr_b (iteF (by show ¬ ((L.length : Int) < ((encFL L).length : Int)); rw [encFL_len]; omega) rfl)))
/-- A facet put in its place. -/
def insF (f : (V × Int) × List Nat) : FL → FL
  | [] => [f]
  | x :: L => if lexlt f.1.1 x.1.1 then f :: x :: L else x :: insF f L
theorem c110 (n : Nat) (L : FL) (f : (V × Int) × List Nat) (hL : L.length ≤ 3000000) : cA (n + 2) 110 [.sl (encFL L), encF f.1 f.2] = some (.sl (encFL (insF f L))) := by
  rw [u110]
  unfold F110
  have app : ∀ (o : FL) (x : (V × Int) × List Nat), encFL o ++ [encF x.1 x.2] = encFL (o ++ [x]) := fun o x => by simp [encFL]
  refine lp_for (fun i s => ∃ (out : FL) (put : Bool), s = [.sl (encFL out), .bool put, I (i : Int)] ∧ out.length ≤ 2 * i ∧ (put = false → insF f L = out ++ insF f (L.drop i)) ∧ (put = true → insF f L = out ++ L.drop i)) L.length 0 (Nat.zero_le _) ⟨[], false, rfl, by simp, by simp, by simp⟩ (fun i hi s hJ => ?_) (fun s hJ => ?_)
  · obtain ⟨out, put, rfl, hol, h1, h2⟩ := hJ
    left
    have hd : L.drop i = L[i] :: L.drop (i + 1) := List.drop_eq_getElem_cons hi
    have hc := c105 n f.1.1 L[i].1.1
    obtain ⟨o, p, he, ho, q1, q2⟩ : ∃ o p, (if put = false ∧ lexlt f.1.1 L[i].1.1 then (out ++ [f], true) else (out, put)) = (o, p) ∧ o.length ≤ 2 * i + 1 ∧ (p = false → insF f L = o ++ L[i] :: insF f (L.drop (i + 1))) ∧ (p = true → insF f L = o ++ L[i] :: L.drop (i + 1)) := by
      by_cases hput : put = false ∧ lexlt f.1.1 L[i].1.1
      · refine ⟨_, _, if_pos hput, by simp; omega, by simp, fun _ => ?_⟩
        rw [h1 hput.1, hd]; simp [insF, hput.2]
      · refine ⟨_, _, if_neg hput, by omega, fun hp => ?_, fun hp => ?_⟩
        · have hnl : ¬ lexlt f.1.1 L[i].1.1 := fun h => hput ⟨hp, h⟩
          rw [h1 hp, hd]; simp [insF, hnl]
        · rw [h2 hp, hd]
    refine ⟨[.sl (encFL (o ++ [L[i]])), .bool p, I ((i + 1 : Nat) : Int)], ?_, o ++ [L[i]], p, rfl, by simp; omega, fun hp => by rw [q1 hp]; simp, fun hp => by rw [q2 hp]; simp⟩
    refine bind_eq (z := encFL L) rfl (bind_eq b_lss (bind_eq tr_b (iteT (by show ((i : Int) < ((encFL L).length : Int)); rw [encFL_len]; omega) ?_)))
    refine bind_eq (z := encV f.1.1) rfl (bind_eq (z := encFL L) rfl (bind_eq (z := i) (by rw [encFL_len]; exact idx_n hi) (bind_eq (encFL_get hi) (bind_eq (z := encV L[i].1.1) rfl (bind_eq hc ?_)))))
    refine bind_eq (z := (0, [.sl (encFL o), .bool p])) ?_ ?_
    · refine bind_eq (z := .bool (!put)) rfl (bind_eq (z := !put) rfl (bind_eq (z := !put && decide (lexlt f.1.1 L[i].1.1)) ?_ (bind_eq (z := !put && decide (lexlt f.1.1 L[i].1.1)) rfl ?_)))
      · cases put
        · exact tr_b
        · rfl
      · by_cases hput : put = false ∧ lexlt f.1.1 L[i].1.1
        · rw [if_pos hput] at he
          obtain ⟨rfl, hlt⟩ := hput
          cases he
          rw [show (!false && decide (lexlt f.1.1 L[i].1.1)) = true by simp [hlt], if_pos rfl, if_pos (by simp only [g0, D.els, encFL_len, List.length_cons, List.length_nil]; omega)]
          simp only [g0, D.els, app]
        · rw [if_neg hput] at he
          cases he
          rw [show (!put && decide (lexlt f.1.1 L[i].1.1)) = false by
            cases put
            · simpa using hput
            · rfl]
          rfl
    · refine bind_eq (z := encFL L) rfl (bind_eq (z := i) (by rw [encFL_len]; exact idx_n hi) (bind_eq (encFL_get hi) ?_))
      rw [if_pos (by simp only [g0, D.els, encFL_len, List.length_cons, List.length_nil]; omega)]
      refine bind_eq (b_add (inR_nat (i := i) (by omega))) ?_
      simp only [g0, g1, D.els, app]
      rfl
  · obtain ⟨out, put, rfl, hol, h1, h2⟩ := hJ
    refine ⟨(0, [.sl (encFL out), .bool put]), ?_, ?_⟩
    · exact bind_eq (z := encFL L) rfl (bind_eq b_lss (bind_eq tr_b (iteF (by show ¬ ((L.length : Int) < ((encFL L).length : Int)); rw [encFL_len]; omega) rfl)))
    · cases put
      · have := h1 rfl
        rw [List.drop_length] at this
        rw [this]
        refine bind_eq (z := (0, [.sl (encFL (out ++ [f]))])) ?_ rfl
        refine bind_eq (z := .bool true) rfl (bind_eq (z := true) rfl ?_)
        rw [if_pos rfl, if_pos (by simp only [g0, D.els, encFL_len, List.length_cons, List.length_nil]; omega)]
        simp only [g0, D.els, app]
      · have := h2 rfl
        rw [List.drop_length, List.append_nil] at this
        rw [this]
        rfl
end Go.Proofs.YtjjjkojfijpeeaaGreat.Sy
end
section
/- The specification's plain texts: sides of a facet, its polygon. -/
set_option linter.unusedVariables false
namespace Go.Proofs.YtjjjkojfijpeeaaGreat.Sy
open Go Go.Proofs Go.Proofs.YtjjjkojfijpeeaaGreat.Geo

def sideOk (l : List V) (m : V) (a b x : Nat) : Bool :=
  decide (0 ≤ T m (wy (pt l) a b) (wy (pt l) a x)) && (!decide (T m (wy (pt l) a b) (wy (pt l) a x) = 0) || (decide (0 ≤ V.dot (wy (pt l) a x) (wy (pt l) a b)) && decide (V.dot (wy (pt l) a x) (wy (pt l) a b) ≤ V.dot (wy (pt l) a b) (wy (pt l) a b))))
theorem sideOk_iff {l : List V} {m : V} {a b x : Nat} : sideOk l m a b x = true ↔ (0 ≤ T m (wy (pt l) a b) (wy (pt l) a x) ∧ (T m (wy (pt l) a b) (wy (pt l) a x) = 0 → 0 ≤ V.dot (wy (pt l) a x) (wy (pt l) a b) ∧ V.dot (wy (pt l) a x) (wy (pt l) a b) ≤ V.dot (wy (pt l) a b) (wy (pt l) a b))) := by
  simp only [sideOk, Bool.and_eq_true, Bool.or_eq_true, Bool.not_eq_true', decide_eq_true_eq, decide_eq_false_iff_not]
  by_cases h : T m (wy (pt l) a b) (wy (pt l) a x) = 0 <;> simp [h]
def sideB (l : List V) (m : V) (d : Int) (a b : Nat) : Bool := (OnPl (pt l) l.length m d).all fun x => sideOk l m a b x
theorem sideB_iff {l : List V} {m : V} {d : Int} {a b : Nat} (hb : b ∈ OnPl (pt l) l.length m d) (hne : b ≠ a) : sideB l m d a b = true ↔ Side m (pt l) (OnPl (pt l) l.length m d) a b := by
  simp only [sideB, List.all_eq_true, sideOk_iff]
  exact ⟨fun h => ⟨hb, hne, h⟩, fun h => h.all⟩
theorem c156 (n : Nat) {l : List V} (hl : ∀ x ∈ l, bd MV x) (hlen : l.length ≤ 100) {m : V} {d : Int} (hm0 : m ≠ V.zero) (hm : bd 549755813888 m) {a b : Nat} (ha : a < l.length) (hb : b < l.length) (hda : V.dot m (pt l a) = d) (hdb : V.dot m (pt l b) = d) :
    cA (n + 3) 156 [encL l, encV m, I d, encV (pt l a), encV (pt l b)] = some (.bool (sideB l m d a b)) := by
  rw [u156]
  unfold F156
  have w1 : bd 524288 (wy (pt l) a b) := bd_wy (hl _ (memD ha)) (hl _ (memD hb))
  refine bind_eq (z := encV (wy (pt l) a b)) (c112 (n + 1) (hl _ (memD hb)) (hl _ (memD ha)) (by decide)) ?_
  have ll : (l.map encV).length = l.length := List.length_map ..
  have hmb : V.dot m (wy (pt l) a b) = 0 := by rw [dot_wy, hda, hdb]; omega
  refine lp_for (fun i s => s = [I (i : Int)] ∧ (OnPl (pt l) i m d).all (fun x => sideOk l m a b x) = true) l.length 0 (Nat.zero_le _) ⟨rfl, by simp [OnPl]⟩ (fun i hi s hJ => ?_) (fun s hJ => ?_)
  · obtain ⟨rfl, hz⟩ := hJ
    have hc := c107 (n + 1) hm (hl _ (memD hi)) (by decide)
    by_cases hon : V.dot m (pt l i) = d
    · have w2 : bd 524288 (wy (pt l) a i) := bd_wy (hl _ (memD ha)) (hl _ (memD hi))
      have hmi : V.dot m (wy (pt l) a i) = 0 := by rw [dot_wy, hda, hon]; omega
      have c1 := c112 (n + 1) (hl _ (memD hi)) (hl _ (memD ha)) (by decide)
      have c2 := c123 (n + 1) w1 w2 (by decide)
      have c3 := c188 n m (V.cross (wy (pt l) a b) (wy (pt l) a i))
      rw [left_eq hm0 (cross_par hmb hmi)] at c3
      have c4 := c107 (n + 1) w2 w1 (by decide)
      have c5 := c107 (n + 1) w1 w1 (by decide)
      have step : ∀ (y : Nat × List D), y = (if sideOk l m a b i then (0, []) else (1, [D.bool false])) → (Option.bind (D.asSl (encL l)) fun l6 => Option.bind (D.idx (I (i : Int)) (List.length l6)) fun i7 =>
          Option.bind (l6[i7]?) fun x8 => Option.bind (cA (n + 2) 107 [encV m, x8]) fun r9 => Option.bind (D.truth (D.bool (!(D.beq r9 (I d))))) fun b10 =>
          if b10 then (some ((0 : Nat), ([] : List D))) else (Option.bind (D.asSl (encL l)) fun l11 => Option.bind (D.idx (I (i : Int)) (List.length l11)) fun i12 =>
          Option.bind (l11[i12]?) fun x13 => Option.bind (cA (n + 2) 112 [x13, encV (pt l a)]) fun r14 => Option.bind (cA (n + 2) 123 [encV (wy (pt l) a b), r14]) fun r15 => Option.bind (cA (n + 2) 188 [encV m, r15]) fun r16 =>
          Option.bind (D.bin .lss r16 (D.int .i64 0)) fun x17 => Option.bind (D.truth x17) fun b18 =>
          Option.bind (if b18 then (some true) else (Option.bind (D.truth (D.bool (D.beq r16 (D.int .i64 0)))) fun b19 =>
          if b19 then (Option.bind (cA (n + 2) 107 [r14, encV (wy (pt l) a b)]) fun r20 => Option.bind (D.bin .lss r20 (D.int .i64 0)) fun x21 => Option.bind (D.truth x21) fun b22 =>
          if b22 then (some true) else (Option.bind (cA (n + 2) 107 [r14, encV (wy (pt l) a b)]) fun r23 => Option.bind (cA (n + 2) 107 [encV (wy (pt l) a b), encV (wy (pt l) a b)]) fun r24 =>
          Option.bind (D.bin .gtr r23 r24) fun x25 => D.truth x25)) else (some false))) fun b26 => Option.bind (D.truth (D.bool b26)) fun b27 =>
          if b27 then (some (1, [(D.bool false)])) else (some (0, [])))) = some y := by
        intro y hy
        refine bind_eq (z := l.map encV) rfl (bind_eq (z := i) (by rw [ll]; exact idx_n hi) (bind_eq (getDL hi) (bind_eq hc (bind_eq (z := false) ?_ ?_))))
        · rw [beq_i, show V.dot m (l.getD i V.zero) = d from hon]; simp [D.truth]
        rw [if_neg (by decide)]
        refine bind_eq (z := l.map encV) rfl (bind_eq (z := i) (by rw [ll]; exact idx_n hi) (bind_eq (getDL hi) (bind_eq (z := encV (wy (pt l) a i)) c1 (bind_eq c2 (bind_eq c3 (bind_eq b_lss (bind_eq tr_b ?_)))))))
        rw [hy]
        have e : V.dot m (V.cross (wy (pt l) a b) (wy (pt l) a i)) = T m (wy (pt l) a b) (wy (pt l) a i) := rfl
        rw [e]
        refine bind_eq (z := !sideOk l m a b i) ?_ ?_
        · by_cases t1 : T m (wy (pt l) a b) (wy (pt l) a i) < 0
          · rw [iteD (sg_lt.2 t1)]
            have : ¬ (0 ≤ T m (wy (pt l) a b) (wy (pt l) a i)) := by omega
            simp [sideOk, this]
          · rw [iteN (fun h => t1 (sg_lt.1 h))]
            have t1' : 0 ≤ T m (wy (pt l) a b) (wy (pt l) a i) := by omega
            by_cases t2 : T m (wy (pt l) a b) (wy (pt l) a i) = 0
            · refine bind_eq (z := true) (by rw [beq_i, decide_eq_true (sg_zero.2 t2)]; rfl) ?_
              rw [if_pos rfl]
              refine bind_eq c4 (bind_eq b_lss (bind_eq tr_b ?_))
              by_cases t3 : V.dot (wy (pt l) a i) (wy (pt l) a b) < 0
              · rw [iteD t3]
                have : ¬ (0 ≤ V.dot (wy (pt l) a i) (wy (pt l) a b)) := by omega
                simp [sideOk, t2, this]
              · rw [iteN t3]
                refine bind_eq c4 (bind_eq c5 (bind_eq b_gtr ?_))
                rw [tr_b]
                have t3' : 0 ≤ V.dot (wy (pt l) a i) (wy (pt l) a b) := by omega
                simp only [sideOk, t2, t3', decide_true, Bool.true_and, Bool.not_true, Bool.false_or, Int.le_refl]
                by_cases t4 : V.dot (wy (pt l) a i) (wy (pt l) a b) ≤ V.dot (wy (pt l) a b) (wy (pt l) a b)
                · have : ¬ (V.dot (wy (pt l) a i) (wy (pt l) a b) > V.dot (wy (pt l) a b) (wy (pt l) a b)) := by omega
                  simp [t4, this]
                · have : (V.dot (wy (pt l) a i) (wy (pt l) a b) > V.dot (wy (pt l) a b) (wy (pt l) a b)) := by omega
                  simp [t4, this]
            · refine bind_eq (z := false) (by rw [beq_i, decide_eq_false (fun h => t2 (sg_zero.1 h))]; rfl) ?_
              simp [sideOk, t2, t1']
        · refine bind_eq tr_b ?_
          cases sideOk l m a b i <;> rfl
      cases hk : sideOk l m a b i
      · right
        rw [hk] at step
        refine ⟨(0, [.bool false]), ?_, ?_⟩
        · exact bind_eq (z := l.map encV) rfl (bind_eq b_lss (bind_eq tr_b (iteT (by show ((i : Int) < ((l.map encV).length : Int)); rw [ll]; omega) (bind_eq (step _ rfl) rfl))))
        · have : sideB l m d a b = false := by
            rw [Bool.eq_false_iff]; intro h
            have := List.all_eq_true.1 h i (mem_onPl.2 ⟨hi, hon⟩)
            rw [hk] at this; exact absurd this (by decide)
          rw [this]; rfl
      · left
        rw [hk] at step
        refine ⟨[I ((i + 1 : Nat) : Int)], ?_, rfl, ?_⟩
        · exact bind_eq (z := l.map encV) rfl (bind_eq b_lss (bind_eq tr_b (iteT (by show ((i : Int) < ((l.map encV).length : Int)); rw [ll]; omega) (bind_eq (step _ rfl) (by rw [if_pos rfl, if_pos rfl]; exact bind_eq (b_add (inR_nat (i := i) (by omega))) rfl)))))
        · rw [onPl_succ, if_pos hon, List.all_append, hz]; simp [hk]
    · left
      refine ⟨[I ((i + 1 : Nat) : Int)], ?_, rfl, ?_⟩
      · refine bind_eq (z := l.map encV) rfl (bind_eq b_lss (bind_eq tr_b (iteT (by show ((i : Int) < ((l.map encV).length : Int)); rw [ll]; omega) (bind_eq (z := (0, [])) ?_ (by rw [if_pos rfl]; exact bind_eq (b_add (inR_nat (i := i) (by omega))) rfl)))))
        refine bind_eq (z := l.map encV) rfl (bind_eq (z := i) (by rw [ll]; exact idx_n hi) (bind_eq (getDL hi) (bind_eq hc (bind_eq (z := true) ?_ rfl))))
        rw [beq_i, decide_eq_false (show ¬ V.dot m (l.getD i V.zero) = d from hon)]; rfl
      · rw [onPl_succ, if_neg hon]; exact hz
  · obtain ⟨rfl, hz⟩ := hJ
    refine ⟨(1, []), ?_, ?_⟩
    · exact bind_eq (z := l.map encV) rfl (bind_eq b_lss (bind_eq tr_b (iteF (by show ¬ ((l.length : Int) < ((l.map encV).length : Int)); rw [ll]; omega) rfl)))
    · have : sideB l m d a b = true := hz
      rw [this]; rfl
end Go.Proofs.YtjjjkojfijpeeaaGreat.Sy
end
section
/- The specification's plain texts: the polygon of a facet. -/
set_option linter.unusedVariables false
namespace Go.Proofs.YtjjjkojfijpeeaaGreat.Sy
open Go Go.Proofs Go.Proofs.YtjjjkojfijpeeaaGreat.Geo

theorem lp_some {body : Bd} {s0 : List D} {r : Nat × List D} (h : Option.bind (lpW body s0) some = some r) : lpW body s0 = some r := by
  cases hb : lpW body s0 with
  | none => rw [hb] at h; cases h
  | some z => rw [hb] at h; exact h
theorem onPl_pre {P : Nat → V} {m : V} {d : Int} {i N a : Nat} (h : (OnPl P i m d).head? = some a) (hi : i ≤ N) : (OnPl P N m d).head? = some a := by
  induction N with
  | zero => have : i = 0 := by omega
            subst this; exact h
  | succ N ih =>
    by_cases e : i = N + 1
    · rw [← e]; exact h
    · have := ih (by omega)
      rw [onPl_succ]
      split
      · rw [List.head?_append, this]; rfl
      · exact this
theorem chain_loop2 {body : Bd} {S : Nat → Nat → Prop} {a M : Nat} {G : Nat → Prop} (hS : ∀ c b, G c → S c b → G b)
    (hstep : ∀ (c b : Nat) (out : List Nat), G c → S c b → b ≠ a → out.length ≤ M → body [.sl (enumN out), I (c : Int)] = some (.inl [.sl (enumN (out ++ [c])), I (b : Int)]))
    (hend : ∀ (c : Nat) (out : List Nat), G c → S c a → out.length ≤ M → body [.sl (enumN out), I (c : Int)] = some (.inr (0, [.sl (enumN (out ++ [c]))]))) :
    ∀ {c : Nat} {p : List Nat}, Chain S a c p → G c → ∀ out : List Nat, (out ++ p).length ≤ M → lpW body [.sl (enumN out), I (c : Int)] = some (0, [.sl (enumN (out ++ p))])
  | c, _, .done s, hc, out, hl => loopW_end (hend c out hc s (by simp at hl; omega))
  | c, _, .step (y := y) (l := p) s hy k, hc, out, hl => by
    have h1 := hstep c y out hc s hy (by simp at hl; omega)
    rw [show lpW body [.sl (enumN out), I (c : Int)] = lpW body [.sl (enumN (out ++ [c])), I (y : Int)] from loopW_next h1]
    have := chain_loop2 hS hstep hend k (hS c y hc s) (out ++ [c]) (by simpa using hl)
    rw [this]; simp
theorem neg1 : ¬ (0 : Int) ≤ -1 := by decide
theorem p111 (n : Nat) {l : List V} (hl : ∀ x ∈ l, bd MV x) (hlen : l.length ≤ 100) (hs : Srt l) {m : V} {d : Int} (hF : IsF (pt l) l.length m d) (hm : bd 549755813888 m) {p : List Nat} (hp : IsPoly (pt l) l.length m d p) :
    cA (n + 4) 111 [encL l, encV m, I d] = some (.sl (enumN p)) := by
  have F := hF.flat hs
  obtain ⟨p', hp', hnd, hmem⟩ := hF.poly hs
  have e := IsPoly.eq hs hF hp hp'
  subst e
  obtain ⟨a, ha1, hch⟩ := hp
  have ha : a ∈ OnPl (pt l) l.length m d := List.mem_of_mem_head? (by rw [ha1]; rfl)
  have hlt : ∀ k ∈ OnPl (pt l) l.length m d, k < l.length := fun k hk => (mem_onPl.1 hk).1
  have hdk : ∀ k ∈ OnPl (pt l) l.length m d, V.dot m (pt l k) = d := fun k hk => (mem_onPl.1 hk).2
  have honl : (OnPl (pt l) l.length m d).length ≤ l.length := by
    unfold OnPl
    exact Nat.le_trans (List.length_filter_le _ _) (by rw [List.length_range]; omega)
  have hpl : p.length ≤ l.length := Nat.le_trans (List.Nodup.length_le_of_subset hnd fun z hz => ((hmem z).1 hz).1) honl
  have ll : (l.map encV).length = l.length := List.length_map ..
  rw [u111]
  unfold F111
  have hdot := fun (i : Nat) (hi : i < l.length) => c107 (n + 2) hm (hl _ (memD hi)) (by decide)
  refine bind_eq (z := (0, [.sl [], I (a : Int)])) ?_ ?_
  · refine lp_some (lp_forA (fun i s => s = [.sl [], encB ((OnPl (pt l) i m d).head?), I (i : Int)]) l.length 0 (Nat.zero_le _) rfl (fun i hi s hJ => ?_) (fun s hJ => ?_))
    · subst hJ
      cases hh : (OnPl (pt l) i m d).head? with
      | some a' =>
        right
        have := onPl_pre hh (Nat.le_of_lt hi)
        rw [ha1] at this; cases this
        refine ⟨(0, [.sl [], I (a : Int)]), ?_, rfl⟩
        refine bind_eq (z := l.map encV) rfl (bind_eq b_lss (bind_eq tr_b (bind_eq (z := false) (iteT (by show ((i : Int) < ((l.map encV).length : Int)); rw [ll]; omega) ?_) (bind_eq tr_b ?_))))
        · refine bind_eq b_lss ?_
          rw [decide_eq_false (by omega)]; rfl
        · rfl
      | none =>
        left
        have hnil : OnPl (pt l) i m d = [] := by simpa using hh
        refine ⟨[.sl [], encB ((OnPl (pt l) (i + 1) m d).head?), I ((i + 1 : Nat) : Int)], ?_, rfl⟩
        refine bind_eq (z := l.map encV) rfl (bind_eq b_lss (bind_eq tr_b (bind_eq (z := true) (iteT (by show ((i : Int) < ((l.map encV).length : Int)); rw [ll]; omega) (bind_eq (b_lss (a := -1) (b := 0)) rfl)) (bind_eq tr_b ?_))))
        rw [if_pos rfl]
        refine bind_eq (z := (0, [.sl [], encB ((OnPl (pt l) (i + 1) m d).head?)])) ?_ (bind_eq (b_add (inR_nat (i := i) (by omega))) rfl)
        refine bind_eq (z := l.map encV) rfl (bind_eq (z := i) (by rw [ll]; exact idx_n hi) (bind_eq (getDL hi) (bind_eq (hdot i hi) ?_)))
        rw [beq_i, onPl_succ, hnil]
        by_cases hon : V.dot m (pt l i) = d
        · rw [if_pos hon, decide_eq_true (show V.dot m (l.getD i V.zero) = d from hon)]; rfl
        · rw [if_neg hon, decide_eq_false (show ¬ V.dot m (l.getD i V.zero) = d from hon)]; rfl
    · subst hJ
      rw [ha1]
      refine ⟨(0, [.sl [], I (a : Int)]), ?_, rfl⟩
      refine bind_eq (z := l.map encV) rfl (bind_eq b_lss (bind_eq tr_b (bind_eq (z := false) (iteF (by show ¬ ((l.length : Int) < ((l.map encV).length : Int)); rw [ll]; omega) rfl) (bind_eq tr_b rfl))))
  · refine bind_eq (z := (0, [.sl (enumN ([] ++ p))])) ?_ rfl
    -- the search of the next vertex
    refine chain_loop2 (M := l.length) (G := fun c => c ∈ OnPl (pt l) l.length m d) (fun c b hc hb => hb.mem) (fun c b out hc hb hba hol => ?_) (fun c out hc hb hol => ?_) hch ha [] (by simpa using hpl)
    all_goals
      obtain ⟨b', hbb, hb'⟩ : ∃ b', (b' = a ∨ b' ≠ a) ∧ Side m (pt l) (OnPl (pt l) l.length m d) c b' := by first | exact ⟨_, Classical.em _, hb⟩
      refine bind_eq (z := l.map encV) rfl (bind_eq b_leq (bind_eq tr_b (iteT (by show (((enumN out).length : Int) ≤ ((l.map encV).length : Int)); rw [ll, enumN_len]; omega) ?_)))
      rw [if_pos (by simp only [g0, D.els, enumN_len, List.length_cons, List.length_nil]; omega)]
      have happ : enumN out ++ [I (c : Int)] = enumN (out ++ [c]) := by simp [enumN]
      have hbl := hlt b' hb'.mem
      refine bind_eq (z := (0, [.sl (enumN (out ++ [c])), I (b' : Int)])) ?_ ?_
      · refine lp_some (lp_forA (fun i s => s = [.sl (enumN (out ++ [c])), encB (if b' < i then some b' else none), I (i : Int)]) l.length 0 (Nat.zero_le _) (by simp [g0, g1, D.els, happ, encB]) (fun i hi s hJ => ?_) (fun s hJ => ?_))
        · subst hJ
          by_cases hbi : b' < i
          · right
            rw [if_pos hbi]
            refine ⟨(0, [.sl (enumN (out ++ [c])), I (b' : Int)]), ?_, rfl⟩
            refine bind_eq (z := l.map encV) rfl (bind_eq b_lss (bind_eq tr_b (bind_eq (z := false) (iteT (by show ((i : Int) < ((l.map encV).length : Int)); rw [ll]; omega) ?_) (bind_eq tr_b ?_))))
            · refine bind_eq b_lss ?_
              rw [decide_eq_false (by omega)]; rfl
            · rfl
          · left
            rw [if_neg hbi]
            refine ⟨[.sl (enumN (out ++ [c])), encB (if b' < i + 1 then some b' else none), I ((i + 1 : Nat) : Int)], ?_, rfl⟩
            refine bind_eq (z := l.map encV) rfl (bind_eq b_lss (bind_eq tr_b (bind_eq (z := true) (iteT (by show ((i : Int) < ((l.map encV).length : Int)); rw [ll]; omega) (bind_eq (b_lss (a := -1) (b := 0)) rfl)) (bind_eq tr_b ?_))))
            rw [if_pos rfl]
            refine bind_eq (z := (0, [.sl (enumN (out ++ [c])), encB (if b' < i + 1 then some b' else none)])) ?_ (bind_eq (b_add (inR_nat (i := i) (by omega))) rfl)
            have hcl := hlt c hc
            -- on the plane, and another
            by_cases hon : i ≠ c ∧ V.dot m (pt l i) = d
            · have hion : i ∈ OnPl (pt l) l.length m d := mem_onPl.2 ⟨hi, hon.2⟩
              refine bind_eq (z := true) (by show D.truth (D.bool (!(D.beq (I (i : Int)) (I (c : Int))))) = _; rw [beq_nat, decide_eq_false hon.1]; rfl) (bind_eq (z := true) ?_ (bind_eq tr_b ?_))
              · rw [if_pos rfl]
                refine bind_eq (z := l.map encV) rfl (bind_eq (z := i) (by rw [ll]; exact idx_n hi) (bind_eq (getDL hi) (bind_eq (hdot i hi) ?_)))
                rw [beq_i, decide_eq_true (show V.dot m (l.getD i V.zero) = d from hon.2)]; rfl
              · rw [if_pos rfl]
                refine bind_eq (z := l.map encV) rfl (bind_eq (z := c) (by rw [ll]; exact idx_n hcl) (bind_eq (getDL hcl) (bind_eq (z := l.map encV) rfl (bind_eq (z := i) (by rw [ll]; exact idx_n hi) (bind_eq (getDL hi) (bind_eq (c156 n hl hlen hF.nz.1 hm hcl hi (hdk c hc) hon.2) (bind_eq tr_b ?_)))))))
                by_cases hib : i = b'
                · subst hib
                  rw [(sideB_iff hion hon.1).2 hb', if_pos rfl, if_pos (by omega)]; rfl
                · have : sideB l m d c i = false := by
                    rw [Bool.eq_false_iff]; intro h
                    exact hib (Side.unique F hc ((sideB_iff hion hon.1).1 h) hb')
                  rw [this, if_neg (show ¬ b' < i + 1 by omega)]; rfl
            · have hib : i ≠ b' := fun e => hon (by subst e; exact ⟨hb'.ne, hdk _ hb'.mem⟩)
              rw [if_neg (show ¬ b' < i + 1 by omega)]
              by_cases hic : i = c
              · subst hic
                refine bind_eq (z := false) (by show D.truth (D.bool (!(D.beq (I (i : Int)) (I (i : Int))))) = _; rw [beq_nat, decide_eq_true rfl]; rfl) (bind_eq (z := false) rfl (bind_eq tr_b rfl))
              · have hnd : ¬ V.dot m (l.getD i V.zero) = d := fun h => hon ⟨hic, h⟩
                refine bind_eq (z := true) (by show D.truth (D.bool (!(D.beq (I (i : Int)) (I (c : Int))))) = _; rw [beq_nat, decide_eq_false hic]; rfl) (bind_eq (z := false) ?_ (bind_eq tr_b rfl))
                rw [if_pos rfl]
                refine bind_eq (z := l.map encV) rfl (bind_eq (z := i) (by rw [ll]; exact idx_n hi) (bind_eq (getDL hi) (bind_eq (hdot i hi) ?_)))
                rw [beq_i, decide_eq_false hnd]; rfl
        · subst hJ
          rw [if_pos hbl]
          refine ⟨(0, [.sl (enumN (out ++ [c])), I (b' : Int)]), ?_, rfl⟩
          exact bind_eq (z := l.map encV) rfl (bind_eq b_lss (bind_eq tr_b (bind_eq (z := false) (iteF (by show ¬ ((l.length : Int) < ((l.map encV).length : Int)); rw [ll]; omega) rfl) (bind_eq tr_b rfl))))
      · have hu := Side.unique F hc hb hb'
        subst hu
        first
          | exact bind_eq (z := true) (by show D.truth (D.bool (D.beq (I (_ : Int)) (I (_ : Int)))) = _; rw [beq_nat, decide_eq_true rfl]; rfl) (bind_eq (z := true) rfl (bind_eq tr_b rfl))
          | exact bind_eq (z := false) (by show D.truth (D.bool (D.beq (I (_ : Int)) (I (_ : Int)))) = _; rw [beq_nat, decide_eq_false hba]; rfl) (bind_eq (z := false) (by rw [if_neg (by decide)]; refine bind_eq b_lss ?_; rw [decide_eq_false (by omega)]; rfl) (bind_eq tr_b rfl))
end Go.Proofs.YtjjjkojfijpeeaaGreat.Sy
end
