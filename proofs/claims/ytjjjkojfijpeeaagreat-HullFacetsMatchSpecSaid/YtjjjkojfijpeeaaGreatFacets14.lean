/- Part 14 of the proof of this: HullFacetsMatchSpec answers true at every input, and the input reads afterwards as it read before (HullFacetsMatchSpecSaid). No condition. -/
import Derived.Test.YtjjjkojfijpeeaaGreatFacets10
import Derived.Test.YtjjjkojfijpeeaaGreatFacets11
import Derived.Test.YtjjjkojfijpeeaaGreatFacets13
import Derived.RangeFuncRecord
import Derived.RangeFuncLeaves
import Derived.RangeFuncSeq
import Derived.KernelRfl
set_option linter.unusedVariables false
set_option linter.unusedSimpArgs false
set_option linter.unnecessarySimpa false
section
/- The specification's plain texts: edges; lists compared; the law about facets and edges. -/
set_option linter.unusedVariables false
namespace Go.Proofs.YtjjjkojfijpeeaaGreat.Sy
open Go Go.Proofs Go.Proofs.YtjjjkojfijpeeaaGreat.Geo

/-- Are a and b neighbours in a polygon, in one of the two directions? -/
def nbB (p : List Nat) (a b i : Nat) : Bool := (decide (p.getD i 0 = a) && decide (p.getD ((i + 1) % p.length) 0 = b)) || (decide (p.getD i 0 = b) && decide (p.getD ((i + 1) % p.length) 0 = a))
def isE (p : List Nat) (a b t : Nat) : Bool := (List.range t).any (nbB p a b)
def isEF (F : FL) (a b : Nat) : Bool := F.any fun f => isE f.2 a b f.2.length
def rowE (F : FL) (a b : Nat) : List (Nat × Nat) := ((List.range b).filter fun c => decide (a < c) && isEF F a c).map fun c => (a, c)
def allE (F : FL) (N a : Nat) : List (Nat × Nat) := (List.range a).flatMap fun a => rowE F a N
theorem isE_succ (p : List Nat) (a b t : Nat) : isE p a b (t + 1) = (isE p a b t || nbB p a b t) := by
  unfold isE; rw [List.range_succ, List.any_append]; simp
theorem rowE_succ (F : FL) {a b : Nat} (h : a < b) : rowE F a (b + 1) = if isEF F a b then rowE F a b ++ [(a, b)] else rowE F a b := by
  unfold rowE
  rw [List.range_succ, List.filter_append]
  by_cases k : isEF F a b = true <;> simp [h, k]
theorem rowE_nil (F : FL) (a : Nat) : rowE F a (a + 1) = [] := by
  unfold rowE
  rw [List.map_eq_nil_iff, List.filter_eq_nil_iff]
  intro c hc
  have := List.mem_range.1 hc
  simp; omega
theorem rowE_len (F : FL) (a b : Nat) : (rowE F a b).length ≤ b := by
  unfold rowE; rw [List.length_map]; exact Nat.le_trans (List.length_filter_le _ _) (by simp)
theorem allE_succ (F : FL) (N a : Nat) : allE F N (a + 1) = allE F N a ++ rowE F a N := by
  unfold allE; rw [List.range_succ, List.flatMap_append]; simp
theorem allE_len (F : FL) (N a : Nat) : (allE F N a).length ≤ a * N := by
  induction a with
  | zero => simp [allE]
  | succ a ih => rw [allE_succ, List.length_append, Nat.succ_mul]; have := rowE_len F a N; omega
theorem mem_allE {F : FL} {N : Nat} {e : Nat × Nat} : e ∈ allE F N N ↔ e.1 < N ∧ e.2 < N ∧ e.1 < e.2 ∧ isEF F e.1 e.2 = true := by
  obtain ⟨a, b⟩ := e
  simp only [allE, rowE, List.mem_flatMap, List.mem_range, List.mem_map, List.mem_filter, Bool.and_eq_true, decide_eq_true_eq, Prod.mk.injEq]
  constructor
  · rintro ⟨c, hc, d, ⟨hd, h1, h2⟩, rfl, rfl⟩
    exact ⟨hc, hd, h1, h2⟩
  · rintro ⟨h1, h2, h3, h4⟩
    exact ⟨a, h1, b, ⟨h2, h3, h4⟩, rfl, rfl⟩
theorem allE_ord (F : FL) (N : Nat) : (allE F N N).Pairwise plt := by
  unfold allE
  rw [List.pairwise_flatMap]
  refine ⟨fun a _ => ?_, ?_⟩
  · unfold rowE
    refine List.pairwise_map.2 ((List.Pairwise.filter _ List.pairwise_lt_range).imp fun h => .inr ⟨rfl, h⟩)
  · refine List.pairwise_lt_range.imp fun {a b} h x hx y hy => ?_
    simp only [rowE, List.mem_map] at hx hy
    obtain ⟨c, _, rfl⟩ := hx
    obtain ⟨d, _, rfl⟩ := hy
    exact .inl h
theorem app2 {M : List (Nat × Nat)} (e : Nat × Nat) : D.sl (M.map encE ++ [encE e]) = .sl ((M ++ [e]).map encE) := by simp
theorem mapE_len (M : List (Nat × Nat)) : (M.map encE).length = M.length := List.length_map ..
/-- The specification's edges. -/
theorem c22 (n : Nat) {l : List V} (hlen : l.length ≤ 100) {F : FL} (hF : F.length ≤ 3000000) (hp : ∀ f ∈ F, 0 < f.2.length ∧ f.2.length ≤ 1000000) (h19 : cA (n + 1) 19 [encC l] = some (.sl (encFL F))) : cA (n + 2) 22 [encC l] = some (.sl ((allE F l.length l.length).map encE)) := by
  rw [u22]
  unfold F22
  refine bind_eq h19 ?_
  refine lp_for (fun a s => s = [.sl ((allE F l.length a).map encE), I (a : Int)]) l.length 0 (Nat.zero_le _) rfl (fun a ha s hJ => ?_) (fun s hJ => ?_)
  · subst hJ
    left
    refine ⟨[.sl ((allE F l.length (a + 1)).map encE), I ((a + 1 : Nat) : Int)], ?_, rfl⟩
    have hal : (allE F l.length a).length ≤ 10000 := Nat.le_trans (allE_len F l.length a) (Nat.mul_le_mul (show a ≤ 100 by omega) hlen)
    refine bind_eq (z := encL l) rfl (bind_eq (z := l.map encV) rfl (bind_eq b_lss (bind_eq tr_b (iteT (by show ((a : Int) < ((l.map encV).length : Int)); rw [mapV_len]; omega) (bind_eq (b_add (inR_nat (i := a) (by omega))) ?_)))))
    rw [allE_succ]
    obtain ⟨M, hM⟩ : ∃ M, allE F l.length a = M := ⟨_, rfl⟩
    rw [hM] at hal ⊢
    refine lp_forA (fun b s => a + 1 ≤ b ∧ s = [.sl ((M ++ rowE F a b).map encE), I (b : Int)]) l.length (a + 1) (by omega) ⟨Nat.le_refl _, by rw [rowE_nil, List.append_nil]; rfl⟩ (fun b hb s hJ => ?_) (fun s hJ => ?_)
    · obtain ⟨hab, rfl⟩ := hJ
      left
      refine ⟨[.sl ((M ++ rowE F a (b + 1)).map encE), I ((b + 1 : Nat) : Int)], ?_, by omega, rfl⟩
      have hrl := rowE_len F a b
      rw [rowE_succ F (show a < b by omega)]
      obtain ⟨R, hR⟩ : ∃ R, M ++ rowE F a b = R := ⟨_, rfl⟩
      have hRl : R.length ≤ 10100 := by rw [← hR, List.length_append]; omega
      have eR : (M ++ if isEF F a b = true then rowE F a b ++ [(a, b)] else rowE F a b) = if isEF F a b = true then R ++ [(a, b)] else R := by
        split
        · rw [← hR, List.append_assoc]
        · exact hR
      rw [eR, hR]
      refine bind_eq (z := encL l) rfl (bind_eq (z := l.map encV) rfl (bind_eq b_lss (bind_eq tr_b (iteT (by show ((b : Int) < ((l.map encV).length : Int)); rw [mapV_len]; omega) ?_))))
      refine bind_eq (z := (0, [.sl ((if isEF F a b = true then R ++ [(a, b)] else R).map encE)])) ?_ (bind_eq (b_add (inR_nat (i := b) (by omega))) rfl)
      refine lp_forA (fun k s => s = [.sl (R.map encE), .bool (isEF (F.take k) a b), I (k : Int)]) F.length 0 (Nat.zero_le _) rfl (fun k hk s hJ => ?_) (fun s hJ => ?_)
      · subst hJ
        left
        refine ⟨[.sl (R.map encE), .bool (isEF (F.take (k + 1)) a b), I ((k + 1 : Nat) : Int)], ?_, rfl⟩
        obtain ⟨hp0, hpk⟩ := hp F[k] (List.getElem_mem hk)
        have e1 : isEF (F.take (k + 1)) a b = (isEF (F.take k) a b || isE F[k].2 a b F[k].2.length) := by
          unfold isEF; rw [List.take_succ_eq_append_getElem hk, List.any_append]; simp
        refine bind_eq (z := encFL F) rfl (bind_eq b_lss (bind_eq tr_b (iteT (by show ((k : Int) < ((encFL F).length : Int)); rw [encFL_len]; omega) ?_)))
        refine bind_eq (z := encFL F) rfl (bind_eq (z := k) (by rw [encFL_len]; exact idx_n hk) (bind_eq (encFL_get hk) (bind_eq (z := .sl (enumN F[k].2)) rfl ?_)))
        rw [e1]
        generalize isEF (F.take k) a b = b0
        obtain ⟨p, hpp⟩ : ∃ p, F[k].2 = p := ⟨_, rfl⟩
        rw [hpp] at hp0 hpk ⊢
        refine lp_forA (fun i s => s = [.sl (R.map encE), .bool (b0 || isE p a b i), I (i : Int)]) p.length 0 (Nat.zero_le _) (by rw [show isE p a b 0 = false from rfl, Bool.or_false]; rfl) (fun i hi s hJ => ?_) (fun s hJ => ?_)
        · subst hJ
          left
          refine ⟨[.sl (R.map encE), .bool (b0 || isE p a b (i + 1)), I ((i + 1 : Nat) : Int)], ?_, rfl⟩
          have hmod : (i + 1) % p.length < p.length := Nat.mod_lt _ hp0
          have hrem : (((i : Int) + 1).tmod (p.length : Int)) = (((i + 1) % p.length : Nat) : Int) := by
            rw [show ((i : Int) + 1) = ((i + 1 : Nat) : Int) by omega]; exact Int.ofNat_tmod ..
          have nb : ∀ (x y : Nat) {X : Option Bool}, X = (Option.bind (D.asSl (.sl (enumN p))) fun l26 =>
              Option.bind (D.idx (I (i : Int)) (List.length l26)) fun i27 =>
              Option.bind (l26[i27]?) fun x28 =>
              Option.bind (D.truth (D.bool (D.beq x28 (I (x : Int))))) fun b29 =>
              if b29 then (Option.bind (D.bin .add (I (i : Int)) (D.int .i64 1)) fun x30 =>
              Option.bind (D.asSl (.sl (enumN p))) fun l31 =>
              Option.bind (D.bin .rem x30 (D.int .i64 (List.length l31))) fun x32 =>
              Option.bind (D.asSl (.sl (enumN p))) fun l33 =>
              Option.bind (D.idx x32 (List.length l33)) fun i34 =>
              Option.bind (l33[i34]?) fun x35 =>
              D.truth (D.bool (D.beq x35 (I (y : Int))))) else (some false)) → X = some (decide (p.getD i 0 = x) && decide (p.getD ((i + 1) % p.length) 0 = y)) := fun x y X hX => by
            rw [hX]
            refine bind_eq (z := enumN p) rfl (bind_eq (z := i) (by rw [enumN_len]; exact idx_n hi) (bind_eq (enumN_getD hi) ?_))
            rw [beq_nat]
            refine bind_eq tr_b ?_
            by_cases h : p.getD i 0 = x
            · refine iteT h (bind_eq (b_add (inR_nat (i := i) (by omega))) (bind_eq (z := enumN p) rfl (bind_eq (z := I (((i + 1) % p.length : Nat) : Int)) (by rw [show ((enumN p).length : Int) = (p.length : Int) by rw [enumN_len], b_rem (by omega), hrem]) (bind_eq (z := enumN p) rfl (bind_eq (z := (i + 1) % p.length) (by rw [enumN_len]; exact idx_n hmod) (bind_eq (enumN_getD hmod) ?_))))))
              rw [beq_nat, tr_b, decide_eq_true h, Bool.true_and]
            · refine iteF h ?_
              rw [decide_eq_false h, Bool.false_and]
          refine bind_eq (z := enumN p) rfl (bind_eq b_lss (bind_eq tr_b (iteT (by show ((i : Int) < ((enumN p).length : Int)); rw [enumN_len]; omega) (bind_eq tr_b ?_))))
          rw [isE_succ]
          generalize isE p a b i = b1
          refine bind_eq (z := (b0 || b1) || (decide (p.getD i 0 = a) && decide (p.getD ((i + 1) % p.length) 0 = b))) ?_ (bind_eq tr_b (bind_eq (z := b0 || (b1 || nbB p a b i)) ?_ (bind_eq (b_add (inR_nat (i := i) (by omega))) rfl)))
          · cases hb : (b0 || b1)
            · rw [show (if false = true then some true else _) = _ from if_neg (by decide), Bool.false_or]
              exact nb a b rfl
            · rfl
          · rw [← Bool.or_assoc]
            unfold nbB
            rw [← Bool.or_assoc]
            cases hb : (b0 || b1 || (decide (p.getD i 0 = a) && decide (p.getD ((i + 1) % p.length) 0 = b)))
            · rw [show (if false = true then some true else _) = _ from if_neg (by decide), Bool.false_or]
              exact nb b a rfl
            · rfl
        · subst hJ
          refine ⟨(0, [.sl (R.map encE), .bool (b0 || isE p a b p.length)]), bind_eq (z := enumN p) rfl (bind_eq b_lss (bind_eq tr_b (iteF (by show ¬ ((p.length : Int) < ((enumN p).length : Int)); rw [enumN_len]; omega) rfl))), ?_⟩
          exact bind_eq (b_add (inR_nat (i := k) (by omega))) rfl
      · subst hJ
        rw [List.take_length]
        refine ⟨(0, [.sl (R.map encE), .bool (isEF F a b)]), ?_, ?_⟩
        · exact bind_eq (z := encFL F) rfl (bind_eq b_lss (bind_eq tr_b (iteF (by show ¬ ((F.length : Int) < ((encFL F).length : Int)); rw [encFL_len]; omega) rfl)))
        · refine bind_eq (z := isEF F a b) tr_b ?_
          cases isEF F a b
          · rfl
          · rw [if_pos rfl, if_pos rfl, if_pos (by show (R.map encE).length + 1 ≤ 1073741824; rw [mapE_len]; omega), ← app2]
            rfl
    · obtain ⟨hab, rfl⟩ := hJ
      refine ⟨(0, [.sl ((M ++ rowE F a l.length).map encE)]), ?_, bind_eq (b_add (inR_nat (i := a) (by omega))) rfl⟩
      exact bind_eq (z := encL l) rfl (bind_eq (z := l.map encV) rfl (bind_eq b_lss (bind_eq tr_b (iteF (by show ¬ ((l.length : Int) < ((l.map encV).length : Int)); rw [mapV_len]; omega) rfl))))
  · subst hJ
    refine ⟨(0, [.sl ((allE F l.length l.length).map encE)]), ?_, rfl⟩
    exact bind_eq (z := encL l) rfl (bind_eq (z := l.map encV) rfl (bind_eq b_lss (bind_eq tr_b (iteF (by show ¬ ((l.length : Int) < ((l.map encV).length : Int)); rw [mapV_len]; omega) rfl))))
theorem beq_E (e : Nat × Nat) : D.beq (encE e) (encE e) = true := by
  simp [encE, D.beq, D.beqs]
/-- A list of edges is the same as itself. -/
theorem c20 (n : Nat) (E : List (Nat × Nat)) (hE : E.length ≤ 3000000) : cA (n + 1) 20 [.sl (E.map encE), .sl (E.map encE)] = some (.bool true) := by
  rw [u20]
  unfold F20
  refine bind_eq (z := E.map encE) rfl (bind_eq (z := E.map encE) rfl (bind_eq (z := false) ?_ ?_))
  · rw [beq_nat, decide_eq_true rfl]; rfl
  rw [if_neg (by decide)]
  refine lp_for (fun i s => s = [I (i : Int)]) E.length 0 (Nat.zero_le _) rfl (fun i hi s hJ => ?_) (fun s hJ => ?_)
  · subst hJ
    left
    have hg : (E.map encE)[i]? = some (encE E[i]) := by simp [hi]
    refine ⟨[I ((i + 1 : Nat) : Int)], ?_, rfl⟩
    refine bind_eq (z := E.map encE) rfl (bind_eq b_lss (bind_eq tr_b (iteT (by show ((i : Int) < ((E.map encE).length : Int)); rw [mapE_len]; omega) ?_)))
    refine bind_eq (z := E.map encE) rfl (bind_eq (z := i) (by rw [mapE_len]; exact idx_n hi) (bind_eq hg (bind_eq (z := E.map encE) rfl (bind_eq (z := i) (by rw [mapE_len]; exact idx_n hi) (bind_eq hg (bind_eq (z := false) ?_ ?_))))))
    · rw [beq_E]; rfl
    · rw [if_neg (by decide)]; exact bind_eq (b_add (inR_nat (i := i) (by omega))) rfl
  · subst hJ
    refine ⟨(1, []), ?_, rfl⟩
    exact bind_eq (z := E.map encE) rfl (bind_eq b_lss (bind_eq tr_b (iteF (by show ¬ ((E.length : Int) < ((E.map encE).length : Int)); rw [mapE_len]; omega) rfl)))
/-- A list of facets is the same as itself. -/
theorem c17 (n : Nat) (F : FL) (hF : F.length ≤ 3000000) (hp : ∀ f ∈ F, f.2.length ≤ 1000000) : cA (n + 1) 17 [.sl (encFL F), .sl (encFL F)] = some (.bool true) := by
  rw [u17]
  unfold F17
  refine bind_eq (z := encFL F) rfl (bind_eq (z := encFL F) rfl (bind_eq (z := false) ?_ ?_))
  · rw [beq_nat, decide_eq_true rfl]; rfl
  rw [if_neg (by decide)]
  refine lp_for (fun i s => s = [I (i : Int)]) F.length 0 (Nat.zero_le _) rfl (fun i hi s hJ => ?_) (fun s hJ => ?_)
  · subst hJ
    left
    refine ⟨[I ((i + 1 : Nat) : Int)], ?_, rfl⟩
    have hpk := hp F[i] (List.getElem_mem hi)
    have hg := encFL_get hi
    refine bind_eq (z := encFL F) rfl (bind_eq b_lss (bind_eq tr_b (iteT (by show ((i : Int) < ((encFL F).length : Int)); rw [encFL_len]; omega) ?_)))
    have fp : ∀ {β : Type} {g : D → Option β} {y : β}, g (encF F[i].1 F[i].2) = some y → (Option.bind (D.asSl (.sl (encFL F))) fun l8 => Option.bind (D.idx (I (i : Int)) (List.length l8)) fun i9 => Option.bind (l8[i9]?) g) = some y := fun h =>
      bind_eq (z := encFL F) rfl (bind_eq (z := i) (by rw [encFL_len]; exact idx_n hi) (bind_eq hg h))
    generalize F[i].1 = q at *
    obtain ⟨p, hpp⟩ : ∃ p, F[i].2 = p := ⟨_, rfl⟩
    rw [hpp] at hpk fp
    refine fp (bind_eq (z := encV q.1) rfl (fp (bind_eq (z := encV q.1) rfl (bind_eq (z := false) ?_ (bind_eq (z := false) ?_ (bind_eq (z := false) rfl (bind_eq (z := false) ?_ (bind_eq (z := false) rfl ?_))))))))
    · rw [beq_V, decide_eq_true rfl]; rfl
    · rw [if_neg (by decide)]
      refine fp (bind_eq (z := I q.2) rfl (fp (bind_eq (z := I q.2) rfl ?_)))
      rw [beq_i, decide_eq_true rfl]; rfl
    · rw [if_neg (by decide)]
      refine fp (bind_eq (z := .sl (enumN p)) rfl (bind_eq (z := enumN p) rfl (fp (bind_eq (z := .sl (enumN p)) rfl (bind_eq (z := enumN p) rfl ?_)))))
      rw [beq_nat, decide_eq_true rfl]; rfl
    · rw [if_neg (by decide)]
      refine lp_forA (fun j s => s = [I (j : Int)]) p.length 0 (Nat.zero_le _) rfl (fun j hj s hJ => ?_) (fun s hJ => ?_)
      · subst hJ
        left
        refine ⟨[I ((j + 1 : Nat) : Int)], ?_, rfl⟩
        refine fp (bind_eq (z := .sl (enumN p)) rfl (bind_eq (z := enumN p) rfl (bind_eq b_lss (bind_eq tr_b (iteT (by show ((j : Int) < ((enumN p).length : Int)); rw [enumN_len]; omega) ?_)))))
        refine fp (bind_eq (z := .sl (enumN p)) rfl (bind_eq (z := enumN p) rfl (bind_eq (z := j) (by rw [enumN_len]; exact idx_n hj) (bind_eq (enumN_getD hj) ?_))))
        refine fp (bind_eq (z := .sl (enumN p)) rfl (bind_eq (z := enumN p) rfl (bind_eq (z := j) (by rw [enumN_len]; exact idx_n hj) (bind_eq (enumN_getD hj) (bind_eq (z := false) ?_ ?_)))))
        · rw [beq_nat, decide_eq_true rfl]; rfl
        · rw [if_neg (by decide)]; exact bind_eq (b_add (inR_nat (i := j) (by omega))) rfl
      · subst hJ
        refine ⟨(1, []), fp (bind_eq (z := .sl (enumN p)) rfl (bind_eq (z := enumN p) rfl (bind_eq b_lss (bind_eq tr_b (iteF (by show ¬ ((p.length : Int) < ((enumN p).length : Int)); rw [enumN_len]; omega) rfl))))), ?_⟩
        rw [if_neg (show ¬ (1 : Nat) = 0 by decide)]
        exact bind_eq (b_add (inR_nat (i := i) (by omega))) rfl
  · subst hJ
    refine ⟨(1, []), ?_, rfl⟩
    exact bind_eq (z := encFL F) rfl (bind_eq b_lss (bind_eq tr_b (iteF (by show ¬ ((F.length : Int) < ((encFL F).length : Int)); rw [encFL_len]; omega) rfl)))
/-- The code's facets and edges are the specification's. -/
theorem both (n : Nat) {l : List V} (hl : ∀ x ∈ l, bd MV x) (hlen : l.length ≤ 100) (hs : Srt l) : ∃ (F : FL) (E : List (Nat × Nat)), F.length ≤ 2000000 ∧ E.length ≤ 10000 ∧ KnF l l.length 0 0 F ∧
    cA (n + 8) 18 [encC l] = some (.sl (encFL F)) ∧ cA (n + 8) 19 [encC l] = some (.sl (encFL F)) ∧ cA (n + 9) 21 [encC l] = some (.sl (E.map encE)) ∧ cA (n + 9) 22 [encC l] = some (.sl (E.map encE)) ∧ E = allE F l.length l.length := by
  obtain ⟨F, hK, h48⟩ := c48 n hl hlen hs
  obtain ⟨L, poly, hL, hP, hLl, h18⟩ := p18 (n + 1) hl hlen hs
  have hFk := hK.fok
  have hFl := hFk.len hlen
  have eL : F.map Prod.fst = L := Facets.eq hK.facets hL
  have eq1 : ∀ f ∈ F, poly f.1 = f.2 := fun f hf => by
    obtain ⟨q1, q2⟩ := hFk.ok f hf
    exact IsPoly.eq hs q1 (hP f.1 (by rw [← eL]; exact List.mem_map.2 ⟨f, hf, rfl⟩)) q2
  have eF : (L.map fun q => encF q (poly q)) = encFL F := by
    rw [← eL, List.map_map]
    refine List.map_congr_left fun f hf => ?_
    simp only [Function.comp_apply, eq1 f hf]
  have hpl : ∀ f ∈ F, 0 < f.2.length ∧ f.2.length ≤ 1000000 := fun f hf => by
    obtain ⟨q1, q2⟩ := hFk.ok f hf
    have := poly_len hs q1 q2
    omega
  have h19 : cA (n + 8) 19 [encC l] = some (.sl (encFL F)) := by
    rw [u19]
    unfold F19
    exact bind_eq (z := encL l) rfl (bind_eq h48 rfl)
  have h22 := c22 (n + 7) hlen (show F.length ≤ 3000000 by omega) hpl h19
  obtain ⟨E, e1, e2, h21⟩ := p21 (n + 1) h18 hLl (fun q hq => by
    have hq' := hq
    rw [← eL] at hq'
    obtain ⟨f, hf, rfl⟩ := List.mem_map.1 hq'
    rw [eq1 f hf]
    obtain ⟨q1, q2⟩ := hFk.ok f hf
    have := poly_len hs q1 q2
    exact ⟨by omega, this.2.2.1⟩) (upEdges_nodup hs hL hP)
  have eE : E = allE F l.length l.length := by
    refine sorted_eq (r := plt) (fun a => by simp only [plt]; omega) (fun a b => by simp only [plt]; omega) e2 (allE_ord F l.length) fun e => ?_
    obtain ⟨a, b⟩ := e
    rw [e1.mem_iff, upEdges_mem hs hL hP, mem_allE]
    constructor
    · rintro ⟨h1, m, d, h2, h3⟩
      have hb := (mem_onPl.1 h3.2.mem).1
      have ha := (mem_onPl.1 h3.1).1
      refine ⟨ha, hb, h1, ?_⟩
      have hq : (m, d) ∈ F.map Prod.fst := by rw [eL]; exact (hL.mem (m, d)).2 h2
      obtain ⟨f, hf, hfe⟩ := List.mem_map.1 hq
      obtain ⟨q1, q2⟩ := hFk.ok f hf
      rw [hfe] at q1 q2
      obtain ⟨i, i1, i2, i3⟩ := (IsPoly.dir hs q1 q2).2 h3
      refine List.any_eq_true.2 ⟨f, hf, List.any_eq_true.2 ⟨i, List.mem_range.2 i1, ?_⟩⟩
      unfold nbB
      rw [decide_eq_true i2, decide_eq_true i3]; rfl
    · rintro ⟨ha, hb, h1, h2⟩
      refine ⟨h1, (edges_both hs).1 ?_⟩
      obtain ⟨f, hf, h3⟩ := List.any_eq_true.1 h2
      obtain ⟨i, i1, i2⟩ := List.any_eq_true.1 h3
      obtain ⟨q1, q2⟩ := hFk.ok f hf
      have i1 := List.mem_range.1 i1
      simp only [nbB, Bool.or_eq_true, Bool.and_eq_true, decide_eq_true_eq] at i2
      refine ⟨f.1.1, f.1.2, q1, ?_⟩
      rcases i2 with ⟨j1, j2⟩ | ⟨j1, j2⟩
      · exact .inl ((IsPoly.dir hs q1 q2).1 ⟨i, i1, j1, j2⟩)
      · exact .inr ((IsPoly.dir hs q1 q2).1 ⟨i, i1, j1, j2⟩)
  have hEl : E.length ≤ 10000 := by
    rw [eE]; exact Nat.le_trans (allE_len _ _ _) (Nat.mul_le_mul hlen hlen)
  rw [← eE] at h22
  rw [eF] at h18
  exact ⟨F, E, hFl, hEl, hK, h18, h19, h21, h22, eE⟩
/-- The law's text is true, whatever the examples' call is answered by, if it is true. -/
theorem law4 {call : Nat → List D → Option D} (n : Nat) (l : List V) (hc : ∀ f xs, f ≠ 10 → call f xs = cA (n + 10) f xs) (h10 : call 10 [] = some (.bool true)) : F4 lpW call (encC l) = some (.bool true) := by
  unfold F4
  rcases c16 n l with h | ⟨h, hlen, hl, hs⟩
  · exact bind_eq (z := .bool false) ((hc 16 _ (by decide)).trans h) (bind_eq (z := .bool true) rfl (bind_eq (z := true) rfl (bind_eq h10 rfl)))
  · obtain ⟨F, E, hFl, hEl, hK, h18, h19, h21, h22, _⟩ := both (n + 2) hl (show l.length ≤ 100 by omega) hs
    have hpl : ∀ f ∈ F, f.2.length ≤ 1000000 := fun f hf => by
      obtain ⟨q1, q2⟩ := hK.fok.ok f hf
      have := poly_len hs q1 q2
      omega
    have h21' := h21
    refine bind_eq (z := .bool true) ((hc 16 _ (by decide)).trans h) (bind_eq (z := .bool false) rfl (bind_eq (z := false) rfl ?_))
    rw [if_neg (by decide)]
    refine bind_eq h10 (bind_eq (z := true) rfl (bind_eq (z := true) ?_ (bind_eq (z := true) rfl (bind_eq (z := true) ?_ rfl))))
    · rw [if_pos rfl]
      exact bind_eq ((hc 18 _ (by decide)).trans h18) (bind_eq ((hc 19 _ (by decide)).trans h19) (bind_eq ((hc 17 _ (by decide)).trans (c17 (n + 9) F (by omega) hpl)) rfl))
    · rw [if_pos rfl]
      obtain ⟨F', E', _, hEl', _, _, _, h21, h22, _⟩ := both (n + 1) hl (show l.length ≤ 100 by omega) hs
      exact bind_eq ((hc 21 _ (by decide)).trans h21) (bind_eq ((hc 22 _ (by decide)).trans h22) (bind_eq ((hc 20 _ (by decide)).trans (c20 (n + 9) E' (by omega))) rfl))
end Go.Proofs.YtjjjkojfijpeeaaGreat.Sy
end
section
/- Sy: a slice's values, by a loop over a function: the iterator. -/
set_option linter.unusedVariables false
namespace Go.Proofs.YtjjjkojfijpeeaaGreat.Sy
open Go Go.Proofs

/-- A state of slots alone. -/
def dS (nt : Nat) (lk : List Nat) (f : Nat → AV) : St := { tm := f, ob := fun _ => none, fresh := 0, dead := [], nt := nt, lkS := lk, lkO := [] }
section
variable {P : Program} {E : Env} {w0 : Root} {S S' : Nat → Nat → Prop} {γ : Nat → Option Nat} {β : Nat → Option (Nat × Nat)} {s : St} {a : Act} {w w' : World}
theorem mkRp (hS : ∀ b o, S b o → b < w.heap.size) {nt : Nat} {lk : List Nat} {f : Nat → AV} (hsz : a.tmps.size = nt) (hdf : a.defers = [])
    (hf : ∀ t, t < nt → AR ⟨w, S, fun _ => none, fun _ => none, fun _ => none, []⟩ (f t) (a.tmps.getD t undef)) (hu : ∀ t, nt ≤ t → f t = .undef) : Rp (rootOf w S) S (fun _ => none) (fun _ => none) (dS nt lk f) a w :=
  ⟨⟨rfl, rfl, rfl, Nat.le_refl _, Nat.le_refl _, fun _ _ => rfl⟩, fun t ht => hf t (by rw [← hsz]; exact ht), hsz, hu, fun id o b ho => (by cases ho), fun id b hb => (by cases hb), fun id id' b hb => (by cases hb), fun _ _ => rfl, fun v b e _ hb => (by cases hb), fun v v' b e e' _ _ hb => (by cases hb), fun v id b e _ hb => (by cases hb), fun _ _ => rfl, hS, fun b o hb _ => hb, hdf⟩
theorem Rp.slot (h : Rp w0 S γ β s a w) {t : Nat} {x : AV} (hx : s.tm t = x) (hne : x ≠ .undef) : t < a.tmps.size ∧ AR ⟨w, S, γ, β, s.ob, s.dead⟩ x (a.tmps.getD t undef) := by
  have ht : t < s.nt := by
    rcases Nat.lt_or_ge t s.nt with k | k
    · exact k
    · rw [h.tmu t k] at hx; exact absurd hx.symm hne
  have := h.tms t (by rw [h.nt]; exact ht)
  rw [hx] at this
  exact ⟨by rw [h.nt]; exact ht, this⟩
theorem AR_leaf {c : Cx} {t : Ty} {x : D} {v : Value} (hc : cmpTy t = true) (hl : leafB x = true) (h : AR c (.d t x) v) : v = valOf x := by
  simp only [AR] at h
  rcases h with ⟨_, _, h1, h2⟩ | ⟨ts, rfl, _⟩
  · have : D.flat x = [x] := by cases x <;> simp only [leafB] at hl <;> first | (cases hl; done) | rfl
    rw [this] at h2
    have h3 := (CRl_leaf (ds := [x]) (by intro d hd; rw [List.mem_singleton.1 hd]; exact hl)).1 h2
    have hs : ∀ cs, v ≠ .agg cs := by
      cases x <;> simp only [leafB] at hl <;> first | (cases hl; done) | exact h1
    exact cells_single hs h3
  · simp [cmpTy] at hc
/-- What slots of plain words hold. -/
def sWords (s : St) : List (Nat × Ty) → Option (List D)
  | [] => some []
  | (t, ty) :: l => match s.tm t with
    | .d ty' x => if ty'.beq ty && leafB x then (sWords s l).bind fun r => some (x :: r) else none
    | _ => none
theorem sWords_inv : ∀ {l : List (Nat × Ty)} {xs : List D}, sWords s l = some xs → ∀ (i t : Nat) (ty : Ty) (x : D), l[i]? = some (t, ty) → xs[i]? = some x → s.tm t = .d ty x ∧ leafB x = true
  | [], xs, h, i, t, ty, x, hi, _ => by simp at hi
  | (t0, ty0) :: l, xs, h, i, t, ty, x, hi, hx => by
    simp only [sWords] at h
    split at h <;> first | (cases h; done) | skip
    rename_i ty' x' htm
    split at h <;> first | (cases h; done) | skip
    rename_i hc
    simp only [Bool.and_eq_true] at hc
    have he := Ty.eq_of_beq _ _ hc.1
    subst he
    obtain ⟨r, h1, h2⟩ := bind_some_inv h
    cases h2
    cases i with
    | zero => simp at hi hx; obtain ⟨rfl, rfl⟩ := hi; subst hx; exact ⟨htm, hc.2⟩
    | succ i => exact sWords_inv h1 i t ty x (by simpa using hi) (by simpa using hx)
theorem Rp.word (h : Rp w0 S γ β s a w) {l : List (Nat × Ty)} {xs : List D} (hs : sWords s l = some xs) {i t : Nat} {ty : Ty} {x : D} (hi : l[i]? = some (t, ty)) (hx : xs[i]? = some x) (hc : cmpTy ty = true) : a.tmps.getD t undef = valOf x := by
  obtain ⟨h1, h2⟩ := sWords_inv hs i t ty x hi hx
  exact AR_leaf hc h2 (h.slot h1 (by simp)).2
end
theorem Ext.trans {r : Root} {w w' : World} {S : Nat → Nat → Prop} (h : Ext r w) (k : Ext (rootOf w S) w') : Ext r w' :=
  ⟨k.tape.trans h.tape, k.os.trans h.os, k.output.trans h.output, Nat.le_trans h.sz k.sz, Nat.le_trans h.dr k.dr, fun b hb => (k.old b ⟨Nat.lt_of_lt_of_le hb.1 h.sz, fun hf => hf⟩).trans (h.old b hb)⟩
theorem cell_of_ext {w W : World} {S0 S : Nat → Nat → Prop} (h : Ext (rootOf w S0) W) (hS : ∀ b o, S b o → b < w.heap.size) : ∀ b o, S b o → W.cell? ⟨b, o, none⟩ = w.cell? ⟨b, o, none⟩ := fun b o hb => by
  have := h.old b ⟨hS b o hb, fun hf => hf⟩
  simp only [World.cell?, this]; rfl
abbrev i64 (n : Int) : Value := .int .i64 n
/-- The iterator's slots at the beginning of round k. -/
def sIt (e : Ty) (l : List D) (k : Nat) (lk : List Nat) : St := dS 16 lk (fun i => if i = 5 then .d (.sl e) (.sl l) else if i = 6 then .d (.int .i64) (.int .i64 (l.length : Nat)) else if i = 7 then .d (.int .i64) (.int .i64 (k : Nat)) else .undef)
def kW (l : List (Nat × Ty)) (e : Ex) (s : St) : Option D := match e with | .normal => (sWords s l).bind fun r => some (.tup r) | _ => none
/-- What the boxed loop variable holds. -/
def kBox (e : Ty) (x : Ex) (s : St) : Option D := match x with
  | .normal => match s.tm 4 with
    | .ptr t id [] => match s.ob id with
      | some (.one t' (.d t'' y)) => if t.beq e && t'.beq e && t''.beq e then some y else none
      | _ => none
    | _ => none
  | _ => none
theorem kW_inv {l : List (Nat × Ty)} {x : Ex} {s : St} {r : List D} (h : kW l x s = some (.tup r)) : x = .normal ∧ sWords s l = some r := by
  unfold kW at h
  split at h <;> first | (cases h; done) | skip
  obtain ⟨r', h1, h2⟩ := bind_some_inv h
  cases h2
  exact ⟨rfl, h1⟩
theorem kBox_inv {e : Ty} {x : Ex} {s : St} {y : D} (h : kBox e x s = some y) : x = .normal ∧ ∃ id, s.tm 4 = .ptr e id [] ∧ s.ob id = some (.one e (.d e y)) := by
  unfold kBox at h
  split at h <;> first | (cases h; done) | skip
  split at h <;> first | (cases h; done) | skip
  rename_i t id htm
  split at h <;> first | (cases h; done) | skip
  rename_i t' t'' y' hob
  split at h <;> first | (cases h; done) | skip
  rename_i hc
  simp only [Bool.and_eq_true] at hc
  cases h
  have e1 := Ty.eq_of_beq _ _ hc.1.1; have e2 := Ty.eq_of_beq _ _ hc.1.2; have e3 := Ty.eq_of_beq _ _ hc.2
  subst e1; subst e2; subst e3
  exact ⟨rfl, id, htm, hob⟩
theorem getD_put_self {a : Act} {t : Nat} {v : Value} (h : t < a.tmps.size) : (a.put (some t) v).tmps.getD t undef = v := by
  simp [Act.put, Array.getD, h]
theorem getD_put_ne {a : Act} {t u : Nat} {v : Value} (h : u ≠ t) : (a.put (some u) v).tmps.getD t undef = a.tmps.getD t undef := put_slot (fun e => h (by cases e; rfl))
theorem defers_put {a : Act} {d : Option Nat} {v : Value} : (a.put d v).defers = a.defers := by cases d <;> rfl
theorem wrap_small {n : Int} (h1 : 0 ≤ n) (h2 : n < 9223372036854775807) : IntKind.wrap .i64 n = n := by
  simp only [IntKind.wrap, IntKind.signed, IntKind.bits]
  first
    | omega
    | (simp; omega)
/-- One operation by what it leaves. -/
theorem wl_op {P : Program} {ro : Option Nat} {nn : Nat} {ops : Array Oper} {o : Oper} {rest : List Oper} {a : Act} {w : World} {K : Value → World → Prop} {Q : Exit → Act → World → Prop} (hg : o.guard = none) (h : OpOk P o a w K)
    (hk : ∀ v w', K v w' → wpListIn (FW ro) nn P ops Q rest (a.put o.dst v) w') : wpListIn (FW ro) nn P ops Q (o :: rest) a w := by
  simp only [wpListIn, Region.wanted, hg, if_true]
  exact wpIn_of_OpOk h hk
theorem wl_plain {P : Program} {ro : Option Nat} {nn : Nat} {ops : Array Oper} {o : Oper} {rest : List Oper} {a : Act} {w : World} {Q : Exit → Act → World → Prop} (hg : o.guard = none) (h : o.wpIn (FW ro) nn P a w (wpListIn (FW ro) nn P ops Q rest) Q) : wpListIn (FW ro) nn P ops Q (o :: rest) a w := by
  simp only [wpListIn, Region.wanted, hg, if_true]
  exact h
set_option maxHeartbeats 1000000 in
/-- slices.Values hands on the elements, one behind the other. -/
theorem vals_gen {P : Program} {E : Env} (hE : EnvOk P E) {nn : Nat} {e : Ty} (hce : cmpTy e = true) (hne : noTup e = true) {l : List D} (hwt : ∀ x ∈ l, wt e x) (hlen : l.length ≤ 1073741824) {w : World} {S S0 : Nat → Nat → Prop} (hS : ∀ b o, S b o → b < w.heap.size)
    {f151 L B : Nat} {fn : Func} {sv : Value} (hB : ∀ W, Ext (rootOf w S0) W → W.cell? ⟨B, 0, none⟩ = some sv) (hsv : CR w S (.sl l) sv) (J : Nat → World → Prop) (hJe : ∀ k W, J k W → Ext (rootOf w S0) W) (hJ : ∀ k W os d, J k W → W.drawn ≤ d → J k (grown W os d))
    (hY : ∀ k x W v, l[k]? = some x → J k W → (∀ c : Cx, AR c (.d e x) v) → YieldAt (FW none) (nn - 1) P L #[v] W fun en W' => en = .returned (.bool true) ∧ J (k + 1) W')
    (hfn : P.funcs[f151]? = some fn) {i0 i1 i2 i3 i4 b0 b1 : Nat} {R0 R1 R2 R3 R4 : Array Oper} (hbody : fn.body = some (.seq (.region i0 R0 false) (.block b0 (.loop (.seq (.region i1 R1 false) (.seq (.cond (.tmp 8) .skip (.exit b0)) (.seq (.block b1 (.seq (.region i2 R2 false) (.seq (.region i3 R3 false) (.cond (.tmp 14) .ret .skip)))) (.region i4 R4 false))))))))
    (hnt : fn.ntmps = 16) (hres : fn.results = #[])
    {Ts Te : Nat} (hTs : E.L Ts = some (.sl e)) (hTe : E.L Te = some e) {y1 y11 y12 y13 y14 : TypeId} {p1 p11 p12 p13 p14 : String} {f1 f11 f12 f13 f14 : Array Edge} {rest0 : List Oper} {ats : Array TypeId} {Tb : TypeId}
    (hR0 : R0.toList = ⟨some 5, .load Ts (.tmp 1), y1, p1, f1, none⟩ :: rest0) (hr0 : ∀ x ∈ rest0, x.guard = none)
    (hR3 : R3.toList = [⟨some 11, .move (.tmp 0), y11, p11, f11, none⟩, ⟨some 12, .load Te (.tmp 4), y12, p12, f12, none⟩, ⟨some 13, .call ⟨.value (.tmp 11), #[.tmp 12], ats⟩, y13, p13, f13, none⟩, ⟨some 14, .unOp .not Tb (.tmp 13), y14, p14, f14, none⟩])
    (hv0 : ev E (.region 0 rest0.toArray false) .leaf D (dS 16 [0, 5] (fun i => if i = 5 then .d (.sl e) (.sl l) else .undef)) (kW [(6, .int .i64), (7, .int .i64)]) = some (.tup [.int .i64 (l.length : Nat), .int .i64 0]))
    (hv1 : ∀ k : Nat, ev E (.region i1 R1 false) .leaf D (sIt e l k [0, 5, 6, 7]) (kW [(7, .int .i64), (8, .bool)]) = some (.tup [.int .i64 (k : Nat), .bool (decide ((k : Int) < (l.length : Nat)))]))
    (hv2 : ∀ k : Nat, ev E (.region i2 R2 false) .leaf D (sIt e l k [0, 5, 6, 7]) (kBox e) = (D.idx (.int .i64 (k : Nat)) l.length).bind fun i => l[i]?)
    (hv4 : ∀ k : Nat, ev E (.region i4 R4 false) .leaf D (sIt e l k [0, 5, 6]) (kW [(7, .int .i64)]) = (D.bin .add (.int .i64 (k : Nat)) (.int .i64 1)).bind fun x => some (.tup [x]))
    {W0 : World} (h0 : J 0 W0) : CallsIn (FW none) nn P f151 #[.func (.yield L) #[] #[], .pointer (some ⟨B, 0, none⟩)] W0 fun en W' => (∃ v, en = .returned v) ∧ J l.length W' := by
  refine callsIn_of_wp hfn hbody trivial ?_
  generalize ha0 : Act.mk _ _ = a0
  have hsz0 : a0.tmps.size = 16 := by rw [← ha0]; simp [hnt]
  have e0 : a0.tmps.getD 0 undef = .func (.yield L) #[] #[] := by rw [← ha0, hnt]; rfl
  have e1 : a0.tmps.getD 1 undef = .pointer (some ⟨B, 0, none⟩) := by rw [← ha0, hnt]; rfl
  have hd0 : a0.defers = [] := by rw [← ha0]
  clear ha0
  -- what the slice's value says, whenever
  have hcr : ∀ W, Ext (rootOf w S0) W → CR W S (.sl l) sv := fun W hW => hsv.mono (cell_of_ext hW hS) fun _ _ hb => hb
  obtain ⟨ad, cap, svb, svo, rfl, _, _, _⟩ := hsv.elems
  have ARsv : ∀ (W : World), Ext (rootOf w S0) W → AR ⟨W, S, fun _ => none, fun _ => none, fun _ => none, []⟩ (.d (.sl e) (.sl l)) (.slice ad l.length cap) := fun W hW => .inl ⟨by simp only [noTup]; exact hne, ⟨l, rfl, hwt⟩, DR0_sl (hcr W hW)⟩
  have hSW : ∀ (W : World), Ext (rootOf w S0) W → ∀ b o, S b o → b < W.heap.size := fun W hW b o hb => Nat.lt_of_lt_of_le (hS b o hb) hW.sz
  have ARint : ∀ (c : Cx) (n : Int), AR c (.d (.int .i64) (.int .i64 n)) (.int .i64 n) := fun c n => .inl ⟨rfl, ⟨n, rfl⟩, fun _ h => (by cases h), (CRl_leaf (ds := [.int .i64 n]) (by intro d hd; rw [List.mem_singleton.1 hd]; rfl)).2 rfl⟩
  have hX0 := hJe 0 W0 h0
  have lay := fun T t h => (hE.lay T t h).resolve_left
  -- the beginning: the slice is looked at
  refine wpIn_seq (wpIn_region_list ?_)
  rw [hR0]
  have hls : layB P (.sl e) Ts = true := (hE.lay Ts _ hTs).resolve_left (by rintro ⟨ts, h⟩; cases h)
  obtain ⟨v5, hrun5, hv5⟩ := run_load_ok (P := P) hls (w := W0) (b := B) (off := 0) (cs := [.slice ad l.length cap]) rfl (by intro v hv; rw [List.mem_singleton.1 hv]; rfl) (fun i c hi => by
    cases i with
    | zero => simp at hi; subst hi; exact hB W0 hX0
    | succ i => simp at hi)
  have hv5' : v5 = .slice ad l.length cap := cells_single (hv5.2.2 rfl) hv5.1
  subst hv5'
  refine wl_op (K := fun v w1 => v = .slice ad l.length cap ∧ W0 = w1) rfl (OpOk.value (value_op (m := Instr.loadAt Ts (.pointer (some ⟨B, 0, none⟩))) ?_ hrun5) ⟨rfl, rfl⟩) ?_
  · show (Instr.loadAt Ts (a0.eval (.tmp 1)) >>= fun r => pure (Next.value r)) = _
    rw [show a0.eval (.tmp 1) = .pointer (some ⟨B, 0, none⟩) from e1]
  rintro _ _ ⟨rfl, rfl⟩
  obtain ⟨a1, ha1⟩ : ∃ a1, a0.put (some 5) (.slice ad l.length cap) = a1 := ⟨_, rfl⟩
  have q1 : a1.tmps.size = 16 := by rw [← ha1, size_put]; exact hsz0
  have q2 : a1.tmps.getD 0 undef = .func (.yield L) #[] #[] := by rw [← ha1, getD_put_ne (by decide)]; exact e0
  have q3 : a1.tmps.getD 5 undef = .slice ad l.length cap := by rw [← ha1]; exact getD_put_self (by rw [hsz0]; decide)
  have q4 : a1.defers = [] := by rw [← ha1, defers_put]; exact hd0
  show wpListIn (FW none) nn P R0 _ rest0 (a0.put (some 5) (.slice ad l.length cap)) W0
  rw [ha1]
  clear ha1 e0 e1 hd0 hsz0
  refine wpList_any (ops := rest0.toArray) rest0 _ _ hr0 ?_
  have RA := mkRp (lk := [0, 5]) (f := fun i => if i = 5 then .d (.sl e) (.sl l) else .undef) (hSW _ hX0) q1 q4 (fun t ht => by
    by_cases h5 : t = 5
    · subst h5; rw [if_pos rfl, q3]; exact ARsv _ hX0
    · rw [if_neg h5]; simp only [AR]) (fun t ht => by rw [if_neg (by omega)])
  have key := list_ev (ro := none) (nn := nn) hE (Q := Exit.then ((Code.block b0 (.loop (.seq (.region i1 R1 false) (.seq (.cond (.tmp 8) .skip (.exit b0)) (.seq (.block b1 (.seq (.region i2 R2 false) (.seq (.region i3 R3 false) (.cond (.tmp 14) .ret .skip)))) (.region i4 R4 false)))))).wpIn (FW none) nn P (bodyPost P fn fun en W' => (∃ v, en = .returned v) ∧ J l.length W')) (bodyPost P fn fun en W' => (∃ v, en = .returned v) ∧ J l.length W')) RA hv0 ?_
  · simpa using key
  clear RA
  intro x s' S' γ' β' a2 w2 g1 g2 g3 g4
  obtain ⟨rfl, g5⟩ := kW_inv g4
  obtain ⟨os, dd, hdd, rfl⟩ := grown_of_ext g1.ext (fun _ hf => hf)
  have hJ2 := hJ 0 _ os dd h0 hdd
  have w6 := g1.word g5 (i := 0) (t := 6) rfl rfl rfl
  have w7 := g1.word g5 (i := 1) (t := 7) rfl rfl rfl
  have w0' : a2.tmps.getD 0 undef = .func (.yield L) #[] #[] := (g2.slots 0 (by simp [dS])).trans q2
  have w5 : a2.tmps.getD 5 undef = .slice ad l.length cap := (g2.slots 5 (by simp [dS])).trans q3
  have hsz2 : a2.tmps.size = 16 := by rw [g1.nt, g3.nt]; rfl
  have hdf2 := g1.df
  clear g1 g2 g3 g4 g5 q1 q2 q3 q4
  -- the loop
  show Code.wpIn (FW none) nn P _ _ a2 (grown W0 os dd)
  refine wpIn_block ?_
  refine wp_loop_n (m := l.length) (fun m a W => ∃ k, m + k = l.length ∧ J k W ∧ a.tmps.size = 16 ∧ a.defers = [] ∧ a.tmps.getD 0 undef = .func (.yield L) #[] #[] ∧ a.tmps.getD 5 undef = .slice ad l.length cap ∧ a.tmps.getD 6 undef = .int .i64 (l.length : Nat) ∧ a.tmps.getD 7 undef = .int .i64 (k : Nat))
    ⟨0, rfl, hJ2, hsz2, hdf2, w0', w5, w6, w7⟩ ?_
  clear w0' w5 w6 w7 hsz2 hdf2 hJ2 hdd
  rintro m a W ⟨k, hmk, hJk, c1, c2, c3, c4, c5, c6⟩
  have hX := hJe k W hJk
  have mk : ∀ (a : Act) (W : World) (lk : List Nat), Ext (rootOf w S0) W → a.tmps.size = 16 → a.defers = [] → a.tmps.getD 5 undef = .slice ad l.length cap → a.tmps.getD 6 undef = .int .i64 (l.length : Nat) → a.tmps.getD 7 undef = .int .i64 (k : Nat) → Rp (rootOf W S) S (fun _ => none) (fun _ => none) (sIt e l k lk) a W := fun a W lk hX c1 c2 c4 c5 c6 =>
    mkRp (hSW W hX) c1 c2 (fun t ht => by
      by_cases h5 : t = 5
      · subst h5; rw [if_pos rfl, c4]; exact ARsv W hX
      · rw [if_neg h5]
        by_cases h6 : t = 6
        · subst h6; rw [if_pos rfl, c5]; exact ARint _ _
        · rw [if_neg h6]
          by_cases h7 : t = 7
          · subst h7; rw [if_pos rfl, c6]; exact ARint _ _
          · rw [if_neg h7]; simp only [AR]) (fun t ht => by rw [if_neg (by omega), if_neg (by omega), if_neg (by omega)])
  refine wpIn_seq (ev_ok hE _ .leaf D _ _ (mk a W _ hX c1 c2 c4 c5 c6) (hv1 k) fun x s' S' γ' β' a3 w3 g1 g2 g3 g4 => ?_)
  obtain ⟨rfl, g5⟩ := kW_inv g4
  obtain ⟨os3, d3, hd3, rfl⟩ := grown_of_ext g1.ext (fun _ hf => hf)
  have hJ3 := hJ k _ os3 d3 hJk hd3
  have hX3 := hJe k _ hJ3
  have w7 := g1.word g5 (i := 0) (t := 7) rfl rfl rfl
  have w8 := g1.word g5 (i := 1) (t := 8) rfl rfl rfl
  have w0' : a3.tmps.getD 0 undef = .func (.yield L) #[] #[] := (g2.slots 0 (by simp [sIt, dS])).trans c3
  have w5 : a3.tmps.getD 5 undef = .slice ad l.length cap := (g2.slots 5 (by simp [sIt, dS])).trans c4
  have w6 : a3.tmps.getD 6 undef = .int .i64 (l.length : Nat) := (g2.slots 6 (by simp [sIt, dS])).trans c5
  have hsz3 : a3.tmps.size = 16 := by rw [g1.nt, g3.nt]; rfl
  have hdf3 := g1.df
  clear g1 g2 g3 g4 g5
  simp only [exOf, Exit.then]
  by_cases hk : k < l.length
  rotate_left
  · -- nothing is left
    have hkl : k = l.length := by omega
    subst hkl
    refine wpIn_seq (wpIn_cond_false (w8.trans (by rw [decide_eq_false (by omega)]; rfl)) (wpIn_exit ?_))
    simp only [Exit.then, Exit.inBlock, if_true]
    exact ⟨hdf3, _, results_none hres _ _ _, ⟨_, rfl⟩, hJ3⟩
  refine wpIn_seq (wpIn_cond_true (w8.trans (by rw [decide_eq_true (by omega)]; rfl)) (wpIn_skip ?_))
  simp only [Exit.then]
  have hx := List.getElem?_eq_getElem hk
  obtain ⟨x, hxd⟩ : ∃ x, l[k] = x := ⟨_, rfl⟩
  rw [hxd] at hx
  have hv2' : ev E (.region i2 R2 false) .leaf D (sIt e l k [0, 5, 6, 7]) (kBox e) = some x := by
    rw [hv2 k]
    simp only [D.idx]
    rw [if_pos (by omega)]
    simpa using hx
  refine wpIn_seq (wpIn_block (wpIn_seq (ev_ok hE _ .leaf D _ _ (mk a3 _ _ hX3 hsz3 hdf3 w5 w6 w7) hv2' fun y s' S' γ' β' a4 w4 g1 g2 g3 g4 => ?_)))
  obtain ⟨rfl, id, g5, g6⟩ := kBox_inv g4
  obtain ⟨os4, d4, hd4, hw4⟩ := grown_of_ext g1.ext (fun _ hf => hf)
  have hJ4 := hJ k _ os4 d4 hJ3 hd4
  have v0 : a4.tmps.getD 0 undef = .func (.yield L) #[] #[] := (g2.slots 0 (by simp [sIt, dS])).trans w0'
  have v5 : a4.tmps.getD 5 undef = .slice ad l.length cap := (g2.slots 5 (by simp [sIt, dS])).trans w5
  have v6 : a4.tmps.getD 6 undef = .int .i64 (l.length : Nat) := (g2.slots 6 (by simp [sIt, dS])).trans w6
  have hsz4 : a4.tmps.size = 16 := by rw [g1.nt, g3.nt]; rfl
  have v7 : a4.tmps.getD 7 undef = .int .i64 (k : Nat) := (g2.slots 7 (by simp [sIt, dS])).trans w7
  have hnt4 : s'.nt = 16 := by rw [g3.nt]; rfl
  have hlk4 : s'.lkS = [0, 5, 6, 7] := g3.lkS
  have hdf4 := g1.df
  clear g2 g4
  simp only [exOf, Exit.then]
  refine wpIn_seq (wpIn_region_list ?_)
  rw [hR3]
  refine wl_op (K := fun v w1 => v = .func (.yield L) #[] #[] ∧ w4 = w1) rfl (OpOk.value (v := a4.eval (.tmp 0)) (w' := w4) rfl ⟨v0, rfl⟩) ?_
  rintro _ _ ⟨rfl, rfl⟩
  have R5 := g1.put (v := .undef) (val := .func (.yield L) #[] #[]) (by simp [AR]) (some 11)
  have pf := St.put_fields s' (some 11) .undef
  have hev : ev1 E (s'.put (some 11) .undef) ⟨some 12, .load Te (.tmp 4), y12, p12, f12, none⟩ some = some ((s'.put (some 11) .undef).put (some 12) (.d e x)) := by
    have t4 : (s'.put (some 11) .undef).tm 4 = .ptr e id [] := (put_tm (by simp)).trans g5
    have hee : e.beq e = true := Ty.beq_refl' e
    simp only [ev1, qv, hTe, Option.bind_some, St.opA, t4, hee, if_true, pf.1, g6, readOb, getA]
  obtain ⟨s5, k1, k2⟩ := ev1_ok hE R5 (o := ⟨some 12, .load Te (.tmp 4), y12, p12, f12, none⟩) (Fr_none rfl) (fun T t h => by rcases h with h | ⟨y, h⟩ <;> cases h) (fun t ht => by rw [pf.2.2.2.2.1, hlk4] at ht; intro h; cases h; simp at ht) (fun T x y h => by cases h) hev
  cases k1
  obtain ⟨_, _, _, _, _, r6⟩ := k2
  refine wl_op rfl r6 ?_
  rintro v w5 ⟨S5, γ5, β5, m1, m2, _⟩
  have hax := (m1.slot (t := 12) (x := .d e x) (put_get (by rw [pf.2.2.2.1, hnt4]; decide)) (by simp)).2
  have hsz5 : (a4.put (some 11) (.func (.yield L) #[] #[])).tmps.size = 16 := by rw [size_put]; exact hsz4
  rw [show ((a4.put (some 11) (.func (.yield L) #[] #[])).put (some 12) v).tmps.getD 12 undef = v from getD_put_self (by rw [hsz5]; decide)] at hax
  have ARx : ∀ c : Cx, AR c (.d e x) v := fun c => by
    simp only [AR] at hax ⊢
    rcases hax with ⟨z1, z2, z3⟩ | ⟨ts, rfl, _⟩
    · exact .inl ⟨z1, z2, DR0_any hce z2 z3⟩
    · simp [cmpTy] at hce
  obtain ⟨os5, d5, hd5, hw5⟩ := grown_of_ext m1.ext (fun _ hf => hf)
  have hJ5 : J k w5 := by rw [hw5]; exact hJ k _ os5 d5 hJ3 hd5
  obtain ⟨a5, ha5⟩ : ∃ a5, (a4.put (some 11) (.func (.yield L) #[] #[])).put (some 12) v = a5 := ⟨_, rfl⟩
  have u11 : a5.tmps.getD 11 undef = .func (.yield L) #[] #[] := by rw [← ha5, getD_put_ne (by decide)]; exact getD_put_self (by rw [hsz4]; decide)
  have u12 : a5.tmps.getD 12 undef = v := by rw [← ha5]; exact getD_put_self (by rw [hsz5]; decide)
  have u : ∀ t, t ≠ 11 → t ≠ 12 → a5.tmps.getD t undef = a4.tmps.getD t undef := fun t h1 h2 => by rw [← ha5, getD_put_ne (Ne.symm h2), getD_put_ne (Ne.symm h1)]
  have usz : a5.tmps.size = 16 := by rw [← ha5, size_put]; exact hsz5
  have udf : a5.defers = [] := by rw [← ha5, defers_put, defers_put]; exact hdf4
  show wpListIn (FW none) nn P R3 _ _ ((a4.put (some 11) (.func (.yield L) #[] #[])).put (some 12) v) w5
  rw [ha5]
  clear ha5 m1 m2 r6 hev R5 g1 hax
  -- the round
  obtain ⟨fn', tmps', as', bd', hy, hR⟩ := hY k x w5 v hx hJ5 ARx
  refine wl_plain rfl ⟨fun _ _ => trivial, ?_⟩
  have hrun : ((⟨some 13, .call ⟨.value (.tmp 11), #[.tmp 12], ats⟩, y13, p13, f13, none⟩ : Oper).semAt (FW none).round a5.eval).run P w5 = .ok (.round L fn' tmps' as' bd') w5 := by
    have e11 : a5.eval (.tmp 11) = .func (.yield L) #[] #[] := u11
    have e12 : a5.eval (.tmp 12) = v := u12
    show (execOp a5.eval ⟨some 13, .call ⟨.value (.tmp 11), #[.tmp 12], ats⟩, y13, p13, f13, none⟩).run P w5 = _
    simp only [execOp, resolve, e11, e12, List.map_toArray, List.map_cons, List.map_nil]
    simpa [Deferred.ofValue, invoke, go_sem] using hy
  rw [hrun]
  simp only [Oper.uponIn]
  refine ⟨fun h => (by cases h), hR.mono ?_⟩
  rintro en w6 ⟨rfl, hJ6⟩
  have hX6 := hJe _ _ hJ6
  -- behind it
  obtain ⟨a6, ha6⟩ : ∃ a6, a5.put (some 13) (.bool true) = a6 := ⟨_, rfl⟩
  have t13 : a6.tmps.getD 13 undef = .bool true := by rw [← ha6]; exact getD_put_self (by rw [usz]; decide)
  have tt : ∀ t, t ≠ 13 → a6.tmps.getD t undef = a5.tmps.getD t undef := fun t h => by rw [← ha6, getD_put_ne (Ne.symm h)]
  have tsz : a6.tmps.size = 16 := by rw [← ha6, size_put]; exact usz
  have tdf : a6.defers = [] := by rw [← ha6, defers_put]; exact udf
  show wpListIn (FW none) nn P R3 _ _ (a5.put (some 13) (.bool true)) w6
  rw [ha6]
  have R7 := mkRp (lk := []) (f := fun i => if i = 13 then .d .bool (.bool true) else .undef) (hSW _ hX6) tsz tdf (fun t ht => by
    by_cases h5 : t = 13
    · subst h5; rw [if_pos rfl, t13]; exact .inl ⟨rfl, ⟨true, rfl⟩, fun _ h => (by cases h), (CRl_leaf (ds := [.bool true]) (by intro d hd; rw [List.mem_singleton.1 hd]; rfl)).2 rfl⟩
    · rw [if_neg h5]; simp only [AR]) (fun t ht => by rw [if_neg (by omega)])
  obtain ⟨s7, k1, k2⟩ := ev1_ok hE R7 (o := ⟨some 14, .unOp .not Tb (.tmp 13), y14, p14, f14, none⟩) (Fr_none rfl) (fun T t h => by rcases h with h | ⟨y, h⟩ <;> cases h) (fun t ht => by simp [dS] at ht) (fun T x y h => by cases h) (K := some)
    (r := (dS 16 [] (fun i => if i = 13 then .d .bool (.bool true) else .undef)).put (some 14) (.d .bool (.bool false))) rfl
  cases k1
  obtain ⟨_, _, _, _, _, r7⟩ := k2
  refine wl_op rfl r7 ?_
  rintro v w7 ⟨S7, γ7, β7, m1, m2, _⟩
  have hb := AR_leaf rfl rfl (m1.slot (t := 14) (x := .d .bool (.bool false)) (put_get (by decide)) (by simp)).2
  obtain ⟨os7, d7, hd7, hw7⟩ := grown_of_ext m1.ext (fun _ hf => hf)
  have hJ7 : J (k + 1) w7 := by rw [hw7]; exact hJ _ _ os7 d7 hJ6 hd7
  have hX7 := hJe _ _ hJ7
  obtain ⟨a7, ha7⟩ : ∃ a7, a6.put (some 14) v = a7 := ⟨_, rfl⟩
  have z : ∀ t, t ≠ 14 → a7.tmps.getD t undef = a6.tmps.getD t undef := fun t h => by rw [← ha7, getD_put_ne (Ne.symm h)]
  have zsz : a7.tmps.size = 16 := by rw [← ha7, size_put]; exact tsz
  have zdf : a7.defers = [] := by rw [← ha7, defers_put]; exact tdf
  show Exit.then _ _ .normal (a6.put (some 14) v) w7
  rw [show (a6.put (some 14) v).tmps.getD 14 undef = a7.tmps.getD 14 undef by rw [ha7]] at hb
  rw [ha7]
  simp only [Exit.then]
  refine wpIn_cond_false hb (wpIn_skip ?_)
  simp only [Exit.inBlock, Exit.then]
  have keep : ∀ t, t ≠ 11 → t ≠ 12 → t ≠ 13 → t ≠ 14 → a7.tmps.getD t undef = a4.tmps.getD t undef := fun t h1 h2 h3 h4 => (z t h4).trans ((tt t h3).trans (u t h1 h2))
  clear m1 m2 R7 r7 ha7 ha6
  have hv4' : ev E (.region i4 R4 false) .leaf D (sIt e l k [0, 5, 6]) (kW [(7, .int .i64)]) = some (.tup [.int .i64 ((k + 1 : Nat) : Int)]) := by
    rw [hv4 k]
    simp only [D.bin, if_true]
    rw [show IntKind.wrap .i64 ((k : Int) + 1) = ((k + 1 : Nat) : Int) from by rw [show ((k : Int) + 1) = ((k + 1 : Nat) : Int) by omega]; exact wrap_small (by omega) (by omega)]
    rfl
  refine ev_ok hE _ .leaf D _ _ (mk a7 w7 [0, 5, 6] hX7 zsz zdf ((keep 5 (by decide) (by decide) (by decide) (by decide)).trans v5) ((keep 6 (by decide) (by decide) (by decide) (by decide)).trans v6) ((keep 7 (by decide) (by decide) (by decide) (by decide)).trans v7))
    hv4' fun y s' S' γ' β' a8 w8 g1 g2 g3 g4 => ?_
  obtain ⟨rfl, g5⟩ := kW_inv g4
  obtain ⟨os8, d8, hd8, rfl⟩ := grown_of_ext g1.ext (fun _ hf => hf)
  have w7' := g1.word g5 (i := 0) (t := 7) rfl rfl rfl
  simp only [exOf]
  refine ⟨m - 1, by omega, k + 1, by omega, hJ _ _ os8 d8 hJ7 hd8, by rw [g1.nt, g3.nt]; rfl, g1.df, ?_, ?_, ?_, w7'⟩
  · exact (g2.slots 0 (by simp [sIt, dS])).trans ((keep 0 (by decide) (by decide) (by decide) (by decide)).trans v0)
  · exact (g2.slots 5 (by simp [sIt, dS])).trans ((keep 5 (by decide) (by decide) (by decide) (by decide)).trans v5)
  · exact (g2.slots 6 (by simp [sIt, dS])).trans ((keep 6 (by decide) (by decide) (by decide) (by decide)).trans v6)
end Go.Proofs.YtjjjkojfijpeeaaGreat.Sy
end
section
/- Sy: appending what a function hands on, one behind the other (slices.AppendSeq at a nil slice). -/
set_option linter.unusedVariables false
namespace Go.Proofs.YtjjjkojfijpeeaaGreat.Sy
open Go Go.Proofs
open Go.ChangeMaps (setBlock)

def freshO (s : St) (e : Ty) (id : Nat) : Option (List D) := match s.ob id with
  | some (.one t X) => if t.beq (.sl e) then (match X with
    | .own e' v l => if e'.beq e && !(s.dead.contains v) then some l else none
    | .nils => some []
    | _ => none) else none
  | _ => none
theorem freshO_inv {s : St} {e : Ty} {id : Nat} {L : List D} (h : freshO s e id = some L) : ∃ X, s.ob id = some (.one (.sl e) X) ∧ ((X = .nils ∧ L = []) ∨ ∃ v, X = .own e v L ∧ v ∉ s.dead) := by
  unfold freshO at h
  split at h <;> first | (cases h; done) | skip
  rename_i t X hob
  split at h <;> first | (cases h; done) | skip
  rename_i ht
  have := Ty.eq_of_beq _ _ ht; subst this
  split at h <;> first | (cases h; done) | skip
  · rename_i e' v l
    split at h <;> first | (cases h; done) | skip
    rename_i hb
    simp only [Bool.and_eq_true, Bool.not_eq_true'] at hb
    have := Ty.eq_of_beq _ _ hb.1; subst this
    cases h
    exact ⟨_, hob, .inr ⟨v, rfl, by simpa using hb.2⟩⟩
  · cases h
    exact ⟨_, hob, .inl ⟨rfl, rfl⟩⟩
def γR (L K B : Nat) : Nat → Option Nat := fun i => if i = 0 then some L else if i = 1 then some K else if i = 2 then some B else none
theorem γR_inv {L K B id b : Nat} (h : γR L K B id = some b) : (id = 0 ∧ b = L) ∨ (id = 1 ∧ b = K) ∨ (id = 2 ∧ b = B) := by
  unfold γR at h
  split at h
  · rename_i e; cases h; exact .inl ⟨e, rfl⟩
  · split at h
    · rename_i e; cases h; exact .inr (.inl ⟨e, rfl⟩)
    · split at h
      · rename_i e; cases h; exact .inr (.inr ⟨e, rfl⟩)
      · cases h
/-- Ahead of a round: a slot points to the slice; the loop's two blocks are locked. -/
def σR (nt t : Nat) (e : Ty) (X : AV) : St := { tm := fun i => if i = t then .ptr (.sl e) 2 [] else .undef, ob := fun i => if i = 2 then some (.one (.sl e) X) else none, fresh := 0, dead := [], nt := nt, lkS := [], lkO := [0, 1] }
def plainAV (dead : List Nat) : AV → Bool
  | .d t _ => cmpTy t
  | .own t v _ => cmpTy t && !(dead.contains v)
  | .ptr .. => true
  | .nils => true
  | .undef => true
  | _ => false
section
variable {P : Program} {E : Env} {r : Root}
theorem CR_shr {w : World} {S : Nat → Nat → Prop} {e : Ty} (hce : cmpTy e = true) {l : List D} (hwt : ∀ x ∈ l, wt e x) {ad : Option Addr} {n cap L K : Nat} (h : CR w S (.sl l) (.slice ad n cap)) (hb : ∀ b off, ad = some ⟨b, off, none⟩ → b ≠ L ∧ b ≠ K) :
    CR w (fun b i => S b i ∧ b ≠ L ∧ b ≠ K) (.sl l) (.slice ad n cap) := by
  obtain ⟨ad', cap', b', off', e1, e2, e3, cs, e4, e5⟩ := h.elems
  cases e1
  by_cases hL : l = []
  · subst hL; exact CR.of_elems (b := 0) (off := 0) (.inl rfl) e3 ⟨[], CRl.nil, by simp⟩
  · have e2 : ad = some ⟨b', off', none⟩ := e2.resolve_left hL
    have hb' := hb _ _ e2
    have lf := leaf_list hce l hwt
    exact CR.of_elems (.inr e2) e3 ⟨cs, (CRl_leaf lf).2 ((CRl_leaf lf).1 e4), fun i c hc => ⟨⟨(e5 i c hc).1, hb'⟩, (e5 i c hc).2⟩⟩
theorem AC_shr {c : Cx} {ob' : Nat → Option Ob} {L K : Nat} (hβ : ∀ v b e, v ∉ c.dead → c.β v = some (b, e) → b ≠ L ∧ b ≠ K) (hob : ∀ i o, ob' i = some o → c.ob i = some o) {a : AV} {cs : List Value} (hp : plainAV c.dead a = true) (h : AC c a cs) :
    AC ⟨c.w, fun b i => c.S b i ∧ b ≠ L ∧ b ≠ K, c.γ, c.β, ob', c.dead⟩ a cs := by
  cases a <;> simp only [plainAV] at hp <;> first | (cases hp; done) | skip
  case d t x =>
    simp only [AC] at h ⊢
    have lf := leaf_flat t x hp h.1
    exact ⟨h.1, h.2.1, (CRl_leaf lf).2 ((CRl_leaf lf).1 h.2.2)⟩
  case own t v l =>
    simp only [Bool.and_eq_true, Bool.not_eq_true'] at hp
    have hd : v ∉ c.dead := by simpa using hp.2
    simp only [AC] at h ⊢
    obtain ⟨n0, n1, ad, cap, rfl, n4, n5⟩ := h
    refine ⟨n0, n1, ad, cap, rfl, CR_shr hp.1 n1 n4 fun b off hb => ?_, n5⟩
    rcases n5 hd with q | ⟨b', off', q1, q2, q3⟩
    · rw [q.1] at hb; cases hb
    · rw [q1] at hb; cases hb; exact hβ v _ _ hd q2
  case nils => simpa only [AC] using h
  case ptr t id p =>
    simp only [AC] at h ⊢
    obtain ⟨b, off, rfl, k1, k2⟩ := h
    exact ⟨b, off, rfl, k1, fun o ho => k2 o (hob _ _ ho)⟩
  case undef => simp only [AC]
theorem AR_shr {c : Cx} {ob' : Nat → Option Ob} {L K : Nat} (hβ : ∀ v b e, v ∉ c.dead → c.β v = some (b, e) → b ≠ L ∧ b ≠ K) (hob : ∀ i o, ob' i = some o → c.ob i = some o) {a : AV} {v : Value} (hp : plainAV c.dead a = true) (h : AR c a v) :
    AR ⟨c.w, fun b i => c.S b i ∧ b ≠ L ∧ b ≠ K, c.γ, c.β, ob', c.dead⟩ a v := by
  have hp' := hp
  cases a <;> simp only [plainAV] at hp <;> first | (cases hp; done) | skip
  case d t x =>
    simp only [AR] at h ⊢
    rcases h with ⟨k1, k2, k3⟩ | ⟨ts, rfl, _⟩
    · exact .inl ⟨k1, k2, DR0_any hp k2 k3⟩
    · simp [cmpTy] at hp
  case undef => simp only [AR]
  all_goals
    simp only [AR] at h ⊢
    exact ⟨h.1, AC_shr hβ hob hp' h.2⟩
def St.only (s : St) (ids : List Nat) : St := { s with ob := fun i => if ids.contains i then s.ob i else none }
def plainOb (dead : List Nat) : Option Ob → Bool
  | some (.one _ X) => plainAV dead X
  | none => true
  | _ => false
def plainSt (s : St) (ids : List Nat) : Bool := (List.range s.nt).all (fun t => plainAV s.dead (s.tm t)) && ids.all fun i => plainOb s.dead (s.ob i)
/-- What is known of two blocks is forgotten. -/
theorem Rp.shrink {S : Nat → Nat → Prop} {γ : Nat → Option Nat} {β : Nat → Option (Nat × Nat)} {s : St} {a : Act} {w : World} (h : Rp r S γ β s a w) {L K : Nat} (hβ : ∀ v b e, v ∉ s.dead → β v = some (b, e) → b ≠ L ∧ b ≠ K) {ids : List Nat} (hp : plainSt s ids = true) :
    Rp r (fun b i => S b i ∧ b ≠ L ∧ b ≠ K) γ β (s.only ids) a w := by
  simp only [plainSt, Bool.and_eq_true, List.all_eq_true, List.mem_range] at hp
  have hob : ∀ i o, (s.only ids).ob i = some o → s.ob i = some o ∧ i ∈ ids := fun i o ho => by
    simp only [St.only] at ho
    split at ho
    · rename_i hc; exact ⟨ho, by simpa using hc⟩
    · cases ho
  refine ⟨h.ext, fun t ht => AR_shr (c := ⟨w, S, γ, β, s.ob, s.dead⟩) hβ (fun i o ho => (hob i o ho).1) (hp.1 t (by rw [← h.nt]; exact ht)) (h.tms t ht), h.nt, h.tmu, fun id o b ho hb => ?_, h.γn, h.γi, h.γf, fun v b e hv hb => ⟨(h.βn v b e hv hb).1, (h.βn v b e hv hb).2.1, fun o ho hs => (h.βn v b e hv hb).2.2 o ho hs.1⟩, h.βi, h.βγ, h.βf, fun b o hb => h.Sb b o hb.1, fun b o hb => h.So b o hb.1, h.df⟩
  obtain ⟨h1, h2⟩ := hob id o ho
  have hO := h.obs id o b h1 hb
  have hpo := hp.2 id h2
  rw [h1] at hpo
  cases o <;> simp only [plainOb] at hpo <;> first | (cases hpo; done) | skip
  simp only [ObR] at hO ⊢
  obtain ⟨q1, q2, q3, cs, q4, q5, q6⟩ := hO
  exact ⟨q1, q2, fun o hs => q3 o hs.1, cs, q4, AC_shr (c := ⟨w, S, γ, β, s.ob, s.dead⟩) hβ (fun i o ho => (hob i o ho).1) hpo q5, q6⟩
theorem Rp.stdO {S : Nat → Nat → Prop} {γ : Nat → Option Nat} {β : Nat → Option (Nat × Nat)} {s : St} {a : Act} {w : World} (h : Rp r S γ β s a w) {L K B id : Nat} (hL : ¬ r.Old L ∧ L < w.heap.size) (hK : ¬ r.Old K ∧ K < w.heap.size) (hLK : L ≠ K)
    (hβ : ∀ v b e, v ∉ s.dead → β v = some (b, e) → b ≠ L ∧ b ≠ K) {e : Ty} (hce : cmpTy e = true) (hid : γ id = some B) (hB : B ≠ L ∧ B ≠ K) {l : List D} (hv : freshO s e id = some l)
    {aR : Act} {nt t : Nat} (hsz : aR.tmps.size = nt) (ht : t < nt) (hp : aR.tmps.getD t undef = .pointer (some ⟨B, 0, none⟩)) (hdf : aR.defers = []) :
    ∃ β' X, isX e l X ∧ Rp r (fun b i => S b i ∧ b ≠ L ∧ b ≠ K) (γR L K B) β' (σR nt t e X) aR w := by
  obtain ⟨X0, ho, hX0⟩ := freshO_inv hv
  have hO := h.obs id _ B ho hid
  simp only [ObR] at hO
  obtain ⟨q1, q2, q3, cs, q4, q5, q6⟩ := hO
  have hBn := h.γn id B hid
  have γn' : ∀ id b, γR L K B id = some b → ¬ r.Old b ∧ b < w.heap.size := fun id b hb => by
    rcases γR_inv hb with ⟨_, rfl⟩ | ⟨_, rfl⟩ | ⟨_, rfl⟩
    · exact hL
    · exact hK
    · exact hBn
  have γi' : ∀ id id' b, γR L K B id = some b → γR L K B id' = some b → id = id' := fun id id' b hb hb' => by
    rcases γR_inv hb with ⟨k1, k2⟩ | ⟨k1, k2⟩ | ⟨k1, k2⟩ <;> rcases γR_inv hb' with ⟨k3, k4⟩ | ⟨k3, k4⟩ | ⟨k3, k4⟩ <;> first
      | omega
      | (exfalso; have := hB.1; have := hB.2; omega)
  have γf' : ∀ id, 0 * 4096 + 4096 ≤ id → γR L K B id = none := fun id hid => by
    unfold γR; rw [if_neg (by omega), if_neg (by omega), if_neg (by omega)]
  have tms' : ∀ (β' : Nat → Option (Nat × Nat)) (X : AV), ∀ t', t' < aR.tmps.size → AR ⟨w, fun b i => S b i ∧ b ≠ L ∧ b ≠ K, γR L K B, β', (σR nt t e X).ob, []⟩ ((σR nt t e X).tm t') (aR.tmps.getD t' undef) := fun β' X t' ht' => by
    show AR _ (if t' = t then AV.ptr (.sl e) 2 [] else .undef) _
    by_cases hh : t' = t
    · subst hh
      rw [if_pos rfl, hp]
      simp only [AR, AC]
      refine ⟨fun cs hcs => (by cases hcs), B, 0, rfl, rfl, fun o ho' => ?_⟩
      have : (σR nt t' e X).ob 2 = some (.one (.sl e) X) := rfl
      rw [this] at ho'
      cases ho'
      exact ⟨rfl, rfl⟩
    · rw [if_neg hh]; simp only [AR]
  have tmu' : ∀ X t', nt ≤ t' → (σR nt t e X).tm t' = .undef := fun X t' ht' => by
    show (if t' = t then AV.ptr (.sl e) 2 [] else .undef) = _
    rw [if_neg (by omega)]
  have ob' : ∀ X i o, (σR nt t e X).ob i = some o → i = 2 ∧ o = .one (.sl e) X := fun X i o ho' => by
    have : (if i = 2 then some (Ob.one (.sl e) X) else none) = some o := ho'
    split at this
    · rename_i hi; cases this; exact ⟨hi, rfl⟩
    · cases this
  have γ2 : ∀ b, γR L K B 2 = some b → b = B := fun b hb => by cases hb; rfl
  rcases hX0 with ⟨rfl, rfl⟩ | ⟨v, rfl, hd⟩
  · refine ⟨fun _ => none, .nils, .inl ⟨rfl, rfl⟩, h.ext, tms' _ _, hsz, tmu' _, fun i o b ho' hb => ?_, γn', γi', γf', fun v b e _ hb => (by cases hb), fun v v' b e e' _ _ hb => (by cases hb), fun v id b e _ hb => (by cases hb), fun _ _ => rfl, fun b i hb => h.Sb b i hb.1, fun b i hb => h.So b i hb.1, hdf⟩
    obtain ⟨rfl, rfl⟩ := ob' _ i o ho'
    have := γ2 b hb; subst this
    simp only [ObR]
    exact ⟨q1, q2, fun o hs => q3 o hs.1, cs, q4, by simpa only [AC] using q5, q6⟩
  · simp only [AC] at q5
    obtain ⟨n0, n1, ad, cap, rfl, n4, n5⟩ := q5
    refine ⟨fun i => if i = 5 then β v else none, .own e 5 l, .inr rfl, h.ext, tms' _ _, hsz, tmu' _, fun i o b ho' hb => ?_, γn', γi', γf', fun u b e' _ hb => ?_, fun u u' b e' e'' _ _ hb hb' => ?_, fun u id' b e' _ hb hid' => ?_, fun u hu => ?_, fun b i hb => h.Sb b i hb.1, fun b i hb => h.So b i hb.1, hdf⟩
    · obtain ⟨rfl, rfl⟩ := ob' _ i o ho'
      have := γ2 b hb; subst this
      simp only [ObR]
      refine ⟨q1, q2, fun o hs => q3 o hs.1, _, q4, ?_, q6⟩
      simp only [AC]
      refine ⟨n0, n1, ad, cap, rfl, CR_shr hce n1 n4 fun b' off hb' => ?_, fun _ => ?_⟩
      · rcases n5 hd with q | ⟨b2, off', k1, k2, k3⟩
        · rw [q.1] at hb'; cases hb'
        · rw [k1] at hb'; cases hb'; exact hβ v _ _ hd k2
      · rcases n5 hd with q | ⟨b2, off', k1, k2, k3⟩
        · exact .inl q
        · exact .inr ⟨b2, off', k1, by simpa using k2, k3⟩
    · have hb : (if u = 5 then β v else none) = some (b, e') := hb
      split at hb
      · obtain ⟨k1, k2, k3⟩ := h.βn v b e' hd hb
        exact ⟨k1, k2, fun i hi hs => k3 i hi hs.1⟩
      · cases hb
    · have hb : (if u = 5 then β v else none) = some (b, e') := hb
      have hb' : (if u' = 5 then β v else none) = some (b, e'') := hb'
      split at hb <;> split at hb' <;> first | (cases hb; done) | (cases hb'; done) | omega
    · have hb : (if u = 5 then β v else none) = some (b, e') := hb
      split at hb
      · have := hβ v b e' hd hb
        rcases γR_inv hid' with ⟨_, q⟩ | ⟨_, q⟩ | ⟨_, q⟩
        · exact this.1 q
        · exact this.2 q
        · exact h.βγ v id b e' hd hb (q ▸ hid)
      · cases hb
    · have hu' : 4096 ≤ u := by simpa [σR, St.base] using hu
      show (if u = 5 then β v else none) = none
      rw [if_neg (by omega)]
/-- A slot points to the slice. -/
def kO (e : Ty) (t : Nat) (x : Ex) (s : St) : Option D := match x with
  | .normal => match s.tm t with
    | .ptr ty id [] => if ty.beq (.sl e) then (freshO s e id).bind fun l => some (.sl l) else none
    | _ => none
  | _ => none
theorem kO_inv {e : Ty} {t : Nat} {x : Ex} {s : St} {l : List D} (h : kO e t x s = some (.sl l)) : x = .normal ∧ ∃ id, s.tm t = .ptr (.sl e) id [] ∧ freshO s e id = some l := by
  unfold kO at h
  split at h <;> first | (cases h; done) | skip
  split at h <;> first | (cases h; done) | skip
  rename_i ty id htm
  split at h <;> first | (cases h; done) | skip
  rename_i ht
  have := Ty.eq_of_beq _ _ ht; subst this
  obtain ⟨l', h1, h2⟩ := bind_some_inv h
  cases h2
  exact ⟨rfl, id, htm, h1⟩
def kI (e : Ty) (x : Ex) (s : St) : Option D := match x with | .normal => (freshO s e 2).bind fun l => some (.sl l) | _ => none
theorem kI_inv {e : Ty} {x : Ex} {s : St} {l : List D} (h : kI e x s = some (.sl l)) : x = .normal ∧ freshO s e 2 = some l := by
  unfold kI at h
  split at h <;> first | (cases h; done) | skip
  obtain ⟨l', h1, h2⟩ := bind_some_inv h
  cases h2
  exact ⟨rfl, h1⟩
def idsR (s : St) (t : Nat) : List Nat := match s.tm t with | .ptr _ id _ => [2, id] | _ => [2]
/-- A function that hands on a list's elements, one behind the other. -/
def ItOk (P : Program) (r : Root) (e : Ty) (l : List D) (g : Nat) (lb : Array Value) : Prop :=
  ∀ (nn L : Nat) (J : Nat → World → Prop), (∀ k W, J k W → Ext r W) → (∀ k W os d, J k W → W.drawn ≤ d → J k (grown W os d)) →
    (∀ k x W v, l[k]? = some x → J k W → (∀ c : Cx, AR c (.d e x) v) → YieldAt (FW none) (nn - 1) P L #[v] W fun en W' => en = .returned (.bool true) ∧ J (k + 1) W') →
    ∀ W0, J 0 W0 → CallsIn (FW none) nn P g (#[.func (.yield L) #[] #[]] ++ lb) W0 fun en W' => (∃ v, en = .returned v) ∧ J l.length W'
/-- A slice of the call's own, and nothing else. -/
def OwnRes (r : Root) (e : Ty) (l : List D) (v : Value) (W : World) : Prop :=
  ∃ X S β, isX e l X ∧ Rp r S (fun _ => none) β (dS 1 [] (fun i => if i = 0 then X else .undef)) ⟨#[v], []⟩ W
/-- A state of which nothing is known but slots. -/
theorem mkRp0 {a : Act} {w : World} (hX : Ext r w) {nt : Nat} {lk : List Nat} {f : Nat → AV} (hsz : a.tmps.size = nt) (hdf : a.defers = [])
    (hf : ∀ t, t < nt → AR ⟨w, fun _ _ => False, fun _ => none, fun _ => none, fun _ => none, []⟩ (f t) (a.tmps.getD t undef)) (hu : ∀ t, nt ≤ t → f t = .undef) : Rp r (fun _ _ => False) (fun _ => none) (fun _ => none) (dS nt lk f) a w :=
  ⟨hX, fun t ht => hf t (by rw [← hsz]; exact ht), hsz, hu, fun id o b ho => (by cases ho), fun id b hb => (by cases hb), fun id id' b hb => (by cases hb), fun _ _ => rfl, fun v b e _ hb => (by cases hb), fun v v' b e e' _ _ hb => (by cases hb), fun v id b e _ hb => (by cases hb), fun _ _ => rfl, fun b o hb => hb.elim, fun b o hb _ => hb.elim, hdf⟩
end
end Go.Proofs.YtjjjkojfijpeeaaGreat.Sy
end
section
/- Sy: slices.AppendSeq at a nil slice. -/
set_option linter.unusedVariables false
namespace Go.Proofs.YtjjjkojfijpeeaaGreat.Sy
open Go Go.Proofs
open Go.ChangeMaps (setBlock)
open Go.RowKit
section
variable {P : Program} {E : Env} {r : Root}
set_option maxHeartbeats 1000000 in
theorem appendSeq_gen (hE : EnvOk P E) {nn : Nat} {e : Ty} (hce : cmpTy e = true) {l : List D} (hwt : ∀ x ∈ l, wt e x) (hlen : l.length ≤ 1073741824) {g : Nat} {lb : Array Value} (hIt : ItOk P r e l g lb)
    (eg : ∀ args w, (callFunc g args).run P w = .ok (.enter g args) w)
    {f : Nat} {fn : Func} (hfn : P.funcs[f]? = some fn) {i0 i1 i4 b0 : Nat} {R0 R1 R4 : Array Oper} {asg bdy : Code} (hbody : fn.body = some (.seq (.region i0 R0 false) (.seq (.seq (.region i1 R1 false) (.block b0 (.rangeFunc (.tmp 6) #[7] asg bdy))) (.seq (.region i4 R4 false) .ret))))
    (hnt : fn.ntmps = 13) (hres : fn.results = #[.tmp 4])
    {Ts : Nat} (hTs : E.L Ts = some (.sl e)) {y6 y12 y4 : TypeId} {p6 p12 p4 : String} {f6 f12 f4 : Array Edge}
    (hR1 : R1.toList = [⟨some 6, .move (.tmp 1), y6, p6, f6, none⟩]) (hR4 : R4.toList = [⟨some 12, .load Ts (.tmp 2), y12, p12, f12, none⟩, ⟨some 4, .assign (.tmp 12), y4, p4, f4, none⟩])
    (hv0 : ev E (.region i0 R0 false) .leaf D (dS 13 [1] (fun i => if i = 0 then .nils else .undef)) (kO e 2) = some (.sl []))
    (hround : ∀ X L k, isX e L X → L.length < 1073741824 → ev E asg .leaf D ((σR 13 2 e X).put (some 7) (.d e k)) (fun x s' => match x with
      | .normal => if plainSt s' (idsR s' 5) then ev E bdy .leaf D (s'.only (idsR s' 5)) (kI e) else none
      | _ => none) = some (.sl (L ++ [k])))
    {W0 : World} (h0 : Ext r W0) : CallsIn (FW none) nn P f #[.slice none 0 0, .func (.func g) #[] lb] W0 fun en W' => ∃ v, en = .returned v ∧ OwnRes r e l v W' := by
  refine callsIn_of_wp_marks hfn hbody trivial ?_
  generalize ha0 : Act.mk _ _ = a0
  have hsz0 : a0.tmps.size = 13 := by rw [← ha0]; simp [hnt]
  have e0 : a0.tmps.getD 0 undef = .slice none 0 0 := by rw [← ha0, hnt]; rfl
  have e1 : a0.tmps.getD 1 undef = .func (.func g) #[] lb := by rw [← ha0, hnt]; rfl
  have hd0 : a0.defers = [] := by rw [← ha0]
  clear ha0
  have RA := mkRp0 (r := r) (lk := [1]) (f := fun i => if i = 0 then .nils else .undef) h0 hsz0 hd0 (fun t ht => by
    by_cases h5 : t = 0
    · subst h5; rw [if_pos rfl, e0]; simp only [AR, AC]; exact ⟨fun cs h => (by cases h), rfl⟩
    · rw [if_neg h5]; simp only [AR]) (fun t ht => by rw [if_neg (by omega)])
  refine wpIn_seq (ev_ok hE _ .leaf D _ _ RA hv0 fun x s1 S1 γ1 β1 a1 w1 g1 g2 g3 g4 => ?_)
  obtain ⟨rfl, id, htm, hfr⟩ := kO_inv g4
  simp only [exOf, Exit.then]
  have hlt2 := (g1.slot htm (by simp)).1
  have hA := (g1.slot htm (by simp)).2
  simp only [AR, AC] at hA
  obtain ⟨_, B, off, hB1, hγB, hB2⟩ := hA
  have hv2 : a1.tmps.getD 2 undef = .pointer (some ⟨B, off, none⟩) := cells_single (by assumption) hB1
  obtain ⟨X0, hX0, _⟩ := freshO_inv hfr
  have hoff : off = 0 := (hB2 _ hX0).2
  subst hoff
  have hv1 : a1.tmps.getD 1 undef = .func (.func g) #[] lb := (g2.slots 1 (by simp [dS])).trans e1
  have hsz1 : a1.tmps.size = 13 := by rw [g1.nt, g3.nt]; rfl
  -- the loop's beginning
  refine wpIn_seq (wpIn_seq (wpIn_region_list ?_))
  rw [hR1]
  refine wl_op (K := fun v w' => v = .func (.func g) #[] lb ∧ w1 = w') rfl (OpOk.value (v := a1.eval (.tmp 1)) (w' := w1) rfl ⟨hv1, rfl⟩) ?_
  rintro _ _ ⟨rfl, rfl⟩
  obtain ⟨a2, ha2⟩ : ∃ a2, a1.put (some 6) (.func (.func g) #[] lb) = a2 := ⟨_, rfl⟩
  show Exit.then _ _ .normal (a1.put (some 6) (.func (.func g) #[] lb)) w1
  rw [ha2]
  have k6 : a2.eval (.tmp 6) = .func (.func g) #[] lb := by rw [← ha2]; exact getD_put_self (by rw [hsz1]; decide)
  have k2 : a2.tmps.getD 2 undef = .pointer (some ⟨B, 0, none⟩) := by rw [← ha2, getD_put_ne (by decide)]; exact hv2
  have ksz : a2.tmps.size = 13 := by rw [← ha2, size_put]; exact hsz1
  have kdf : a2.defers = [] := by rw [← ha2, defers_put]; exact g1.df
  clear ha2
  simp only [Exit.then]
  refine wpIn_block (wpIn_rangeFunc ?_)
  intro fid hfid
  obtain ⟨K, hK⟩ : ∃ K, K = w1.heap.size := ⟨_, rfl⟩
  obtain ⟨L, hL⟩ : ∃ L, L = w1.heap.size + 1 := ⟨_, rfl⟩
  obtain ⟨rec, hrec⟩ : ∃ rec : LoopState → Option Code → Loop, rec = fun st pe => { state := st, pending := pe, fn := fid, tmps := a2.tmps, params := #[7], assign := asg, body := bdy, defers := K } := ⟨_, rfl⟩
  obtain ⟨W1, hW1⟩ : ∃ W1, (w1.alloc (.deferred (some []))).alloc (.loop (rec .ready none)) = W1 := ⟨_, rfl⟩
  have hgr : W1 = grown w1 [.deferred (some []), .loop (rec .ready none)] w1.drawn := by
    rw [← hW1]
    unfold grown
    show ({ w1 with heap := (w1.heap.push _).push _ } : World) = _
    congr 1 <;> (apply Array.ext'; simp)
  have hL1 : W1.heap[L]? = some (.loop (rec .ready none)) := by
    rw [← hW1, hL]; have := World.alloc_heap_new (w1.alloc (.deferred (some []))) (.loop (rec .ready none)); rwa [World.size_alloc] at this
  have hK1 : W1.heap[K]? = some (.deferred (some [])) := by
    rw [← hW1, hK]; exact (Below.heap_alloc _ _ _ (by simp)).trans (World.alloc_heap_new w1 _)
  have hLK : L ≠ K := by omega
  obtain ⟨aR, haR⟩ : ∃ aR : Act, aR = ⟨a2.tmps, []⟩ := ⟨_, rfl⟩
  have r1 : aR.tmps.size = 13 := by rw [haR]; exact ksz
  have r2 : aR.tmps.getD 2 undef = .pointer (some ⟨B, 0, none⟩) := by rw [haR]; exact k2
  have r3 : aR.defers = [] := by rw [haR]
  obtain ⟨J, hJdef⟩ : ∃ J : Nat → World → Prop, J = fun k W => ∃ S1 β1 X, isX e (l.take k) X ∧ Rp r S1 (γR L K B) β1 (σR 13 2 e X) aR W ∧ (∀ o, ¬ S1 L o) ∧ (∀ o, ¬ S1 K o) ∧ W.heap[L]? = some (.loop (rec .ready none)) ∧ W.heap[K]? = some (.deferred (some [])) := ⟨_, rfl⟩
  have hJ0 : J 0 W1 := by
    have G := (g1.grow (os := [.deferred (some []), .loop (rec .ready none)]) (d := w1.drawn) (Nat.le_refl _) (S' := S1) (fun _ _ hb => hb) (fun _ _ hb => .inl hb)).1
    rw [← hgr] at G
    have hBn := g1.γn id B hγB
    have hs : w1.heap.size + 1 < W1.heap.size := by rw [hgr]; simp [grown]
    have hold : ∀ b, w1.heap.size ≤ b → ¬ r.Old b := fun b hb ho => by have := ho.1; have := g1.ext.sz; omega
    obtain ⟨β', X, hX, hR⟩ := G.stdO (L := L) (K := K) (B := B) (id := id) ⟨hold L (by omega), by omega⟩ ⟨hold K (by omega), by omega⟩ hLK (fun v b e' hd hb => by have := (g1.βn v b e' hd hb).2.1; omega) hce hγB (by have := hBn.2; omega) hfr r1 (t := 2) (by decide) r2 r3
    rw [hJdef]
    exact ⟨_, β', X, by simpa using hX, hR, fun o h => h.2.1 rfl, fun o h => h.2.2 rfl, hL1, hK1⟩
  have hJe : ∀ k W, J k W → Ext r W := fun k W h => by
    rw [hJdef] at h
    obtain ⟨_, _, _, _, hR, _⟩ := h
    exact hR.ext
  have hJg : ∀ k W os d, J k W → W.drawn ≤ d → J k (grown W os d) := fun k W os d h hd => by
    rw [hJdef] at h ⊢
    obtain ⟨S, β, X, hX, hR, h1, h2, h3, h4⟩ := h
    refine ⟨S, β, X, hX, (hR.grow hd (S' := S) (fun _ _ hb => hb) (fun _ _ hb => .inl hb)).1, h1, h2, ?_, ?_⟩
    · rw [grown_old (Array.getElem?_eq_some_iff.1 h3).1]; exact h3
    · rw [grown_old (Array.getElem?_eq_some_iff.1 h4).1]; exact h4
  clear g1 g2 g3 g4 RA
  refine ⟨L, [{ target := .collected K, args := #[] }], W1, { target := .fn (.func g) lb, args := #[.func (.yield L) #[] #[]] }, W1, g, #[.func (.yield L) #[] #[]] ++ lb, W1, ?_, ?_, fun _ _ => trivial, ?_, fun h => (by cases h), ?_⟩
  · rw [← hW1, hrec, hL, hK]; exact run_enterLoop_outer _ _ _ _ _
  · simp only [resolve, k6]
    simp [go_sem]
  · simp [invoke, go_sem, eg]
  refine (hIt (nn - 1) L J hJe hJg ?_ W1 hJ0).mono ?_
  · -- one round
    intro k x W v hx hJ hAR
    rw [hJdef] at hJ
    obtain ⟨S, β, X, hX, hR, hSL, hSK, hl, hk⟩ := hJ
    have hkl : k < l.length := (List.getElem?_eq_some_iff.1 hx).1
    have hy := run_yield (P := P) (args := #[v]) hl (by rw [hrec]; rfl)
    rw [hrec] at hy
    refine ⟨fid, _, asg, bdy, hy, roundIn_of_wpIn trivial ?_⟩
    have hact : ({ tmps := ((#[7] : Array Tmp).zip #[v]).foldl (fun tmps (t, a) => tmps.setIfInBounds t a) a2.tmps, defers := [] } : Act) = aR.put (some 7) v := by
      rw [haR]; simp [Act.put]
    show Code.wpIn (FW (some L)) _ P asg _ { tmps := ((#[7] : Array Tmp).zip #[v]).foldl (fun tmps (t, a) => tmps.setIfInBounds t a) a2.tmps, defers := [] } W
    rw [hact]
    have RP := hR.put (v := .d e x) (val := v) (hAR _) (some 7)
    have hlk : ((σR 13 2 e X).put (some 7) (.d e x)).lkO = [0, 1] := (St.put_fields _ _ _).2.2.2.2.2.1
    have hnt7 : ((σR 13 2 e X).put (some 7) (.d e x)).nt = 13 := (St.put_fields _ _ _).2.2.2.1
    refine ev_ok hE asg .leaf D _ _ RP (hround X (l.take k) x hX (by rw [List.length_take]; omega)) fun ex s' S' γ' β' a' w' n1 n2 n3 n4 => ?_
    cases ex with
    | ret => cases n4
    | exit i => cases n4
    | normal =>
    simp only at n4
    split at n4 <;> first | (cases n4; done) | skip
    rename_i hpl
    obtain ⟨m1, m2⟩ := n2.objs 0 (by rw [hlk]; simp) L rfl
    obtain ⟨m3, m4⟩ := n2.objs 1 (by rw [hlk]; simp) K rfl
    have m5 := n2.gam 2 B rfl
    have hl' : w'.heap[L]? = some (.loop (rec .ready none)) := m2.trans hl
    have hk' : w'.heap[K]? = some (.deferred (some [])) := m4.trans hk
    have N1 := n1.shrink (L := L) (K := K) (fun v b e' hd hb => ⟨fun h => n1.βγ v 0 b e' hd hb (h ▸ m1), fun h => n1.βγ v 1 b e' hd hb (h ▸ m3)⟩) hpl
    refine ⟨_, run_beginRound hl' (by rw [hrec]), ?_⟩
    have hob : ∀ i, i ≠ 2 → (∀ id, (∃ t p, s'.tm 5 = .ptr t id p) → i ≠ id) → (s'.only (idsR s' 5)).ob i = none := fun i h1 h2 => by
      simp only [St.only]
      rw [if_neg]
      simp only [idsR]
      split
      · rename_i t id p htm5
        have := h2 id ⟨t, p, htm5⟩
        simp [h1, this]
      · simp [h1]
    have h05 : ∀ id, (∃ t p, s'.tm 5 = .ptr t id p) → (∃ o, s'.ob id = some o) → (0 ≠ id ∧ 1 ≠ id) ∨ True := fun _ _ _ => .inr trivial
    by_cases hob0 : (s'.only (idsR s' 5)).ob 0 = none
    rotate_left
    · -- the loop's block is no object that is known
      exfalso
      cases hq : (s'.only (idsR s' 5)).ob 0 with
      | none => exact hob0 hq
      | some o =>
        have hO := N1.obs 0 o L hq m1
        cases o with
        | one t v => simp only [ObR] at hO; obtain ⟨_, _, _, cs, h4, _⟩ := hO; simp [row?, hl'] at h4
        | many t v => simp only [ObR] at hO; obtain ⟨_, _, _, cs, h4, _⟩ := hO; simp [row?, hl'] at h4
        | mp kt vt v => simp only [ObR] at hO; obtain ⟨_, _, _, es, h4, _⟩ := hO; rw [hl'] at h4; cases h4
    have N2 := N1.setB hob0 m1 (fun o h => h.2.1 rfl) (.loop { rec .ready none with state := .busy })
    have hsL : L < w'.heap.size := (Array.getElem?_eq_some_iff.1 hl').1
    have hput : w'.putObj L (.loop { rec .ready none with state := .busy }) = setBlock w' L (.loop { rec .ready none with state := .busy }) := rfl
    rw [hput]
    have hl2 : (setBlock w' L (.loop { rec .ready none with state := .busy })).heap[L]? = some (.loop { rec .ready none with state := .busy }) := World.putObj_heap_same hsL
    have hk2 : (setBlock w' L (.loop { rec .ready none with state := .busy })).heap[K]? = some (.deferred (some [])) := (World.putObj_heap_other (Ne.symm hLK)).trans hk'
    have hlk' : (s'.only (idsR s' 5)).lkO = [0, 1] := n3.lkO.trans hlk
    have hnt' : (s'.only (idsR s' 5)).nt = 13 := n3.nt.trans hnt7
    refine ev_ok hE bdy .leaf D _ _ N2 n4 fun ex s2 S2 γ2 β2 a3 w3 o1 o2 o3 o4 => ?_
    obtain ⟨rfl, hfr2⟩ := kI_inv o4
    obtain ⟨u1, u2⟩ := o2.objs 0 (by rw [hlk']; simp) L m1
    obtain ⟨u3, u4⟩ := o2.objs 1 (by rw [hlk']; simp) K m3
    have u5 := o2.gam 2 B m5
    have hl3 := u2.trans hl2
    have hk3 := u4.trans hk2
    refine ⟨_, _, run_endRound none hl3, rfl, ?_⟩
    have hBne : B ≠ L ∧ B ≠ K := ⟨fun h => by have := o1.γi 2 0 B u5 (h ▸ u1); omega, fun h => by have := o1.γi 2 1 B u5 (h ▸ u3); omega⟩
    obtain ⟨β6, X6, hX6, R6⟩ := o1.stdO (L := L) (K := K) (B := B) (id := 2) (o1.γn 0 L u1) (o1.γn 1 K u3) hLK (fun v b e' hd hb => ⟨fun h => o1.βγ v 0 b e' hd hb (h ▸ u1), fun h => o1.βγ v 1 b e' hd hb (h ▸ u3)⟩) hce u5 hBne hfr2 r1 (t := 2) (by decide) r2 r3
    have R7 := R6.setB (id := 0) (b := L) rfl rfl (fun o h => h.2.1 rfl) (.loop (rec .ready none))
    have hsL3 : L < w3.heap.size := (Array.getElem?_eq_some_iff.1 hl3).1
    have hw : w3.putObj L (.loop { ({ rec .ready none with state := .busy } : Loop) with state := if (none : Option Code).isNone then .ready else .done, pending := none }) = setBlock w3 L (.loop (rec .ready none)) := by
      rw [hrec]; rfl
    rw [hw, hJdef]
    refine ⟨_, β6, X6, ?_, R7, fun o h => h.2.1 rfl, fun o h => h.2.2 rfl, World.putObj_heap_same hsL3, (World.putObj_heap_other (Ne.symm hLK)).trans hk3⟩
    have : l.take k ++ [x] = l.take (k + 1) := by rw [List.take_add_one, hx]; rfl
    rw [← this]; exact hX6
  · -- behind the loop
    rintro en W2 ⟨⟨v, rfl⟩, hJ⟩
    rw [hJdef] at hJ
    obtain ⟨S, β, X, hX, hR, hSL, hSK, hl, hk⟩ := hJ
    rw [List.take_of_length_le (Nat.le_refl _)] at hX
    refine ⟨none, _, by have := run_endLoop (P := P) hl (by rw [hrec]; simp); rw [hrec] at this; exact this, ?_⟩
    obtain ⟨o3, ho3⟩ : ∃ o3 : Obj, o3 = .loop { ({ state := .ready, pending := none, fn := fid, tmps := a2.tmps, params := #[7], assign := asg, body := bdy, defers := K } : Loop) with state := .exhausted } := ⟨_, rfl⟩
    have hR3 := hR.setB (id := 0) (b := L) rfl rfl hSL o3
    have hk3 : (setBlock W2 L o3).heap[K]? = some (.deferred (some [])) := (World.putObj_heap_other (Ne.symm hLK)).trans hk
    rw [ho3] at hR3 hk3
    show Exit.inBlock _ _ .normal _ (setBlock W2 L _)
    generalize setBlock W2 L _ = W3 at hR3 hk3 ⊢
    -- the slice's value
    have hO := hR3.obs 2 _ B rfl rfl
    simp only [ObR] at hO
    obtain ⟨q1, q2, q3, cs, q4, q5, q6⟩ := hO
    have hval : ∃ sv, cs = [sv] ∧ (∀ xs, sv ≠ .agg xs) ∧ sv.oneCell' = true ∧ AR ⟨W3, S, γR L K B, β, (σR 13 2 e X).ob, []⟩ X sv := by
      rcases hX with ⟨rfl, _⟩ | rfl
      · simp only [AC] at q5
        subst q5
        exact ⟨_, rfl, fun _ h => (by cases h), rfl, by simp only [AR, AC]; exact ⟨fun _ h => (by cases h), rfl⟩⟩
      · have q5' := q5
        simp only [AC] at q5
        obtain ⟨_, _, ad, cap, rfl, _⟩ := q5
        exact ⟨_, rfl, fun _ h => (by cases h), rfl, by simp only [AR]; exact ⟨fun _ h => (by cases h), q5'⟩⟩
    obtain ⟨sv, rfl, hna, hone, hAX⟩ := hval
    have hls : layB P (.sl e) Ts = true := (hE.lay Ts _ hTs).resolve_left (by rintro ⟨ts, h⟩; cases h)
    obtain ⟨v5, hrun5, hv5⟩ := run_load_ok (P := P) hls (w := W3) (b := B) (off := 0) (cs := [sv]) rfl (by intro v hv; rw [List.mem_singleton.1 hv]; exact hone) (fun i c hi => by
      cases i with
      | zero => simp at hi; subst hi; rw [cell_of_row W3 q4]; rfl
      | succ i => simp at hi)
    have hv5' : v5 = sv := cells_single (hv5.2.2 rfl) hv5.1
    subst hv5'
    simp only [Exit.inBlock, Exit.then]
    obtain ⟨a4, ha4⟩ : ∃ a4 : Act, a4 = { a2 with defers := [{ target := .collected K, args := #[] }] ++ a2.defers } := ⟨_, rfl⟩
    rw [← ha4]
    have t2 : a4.eval (.tmp 2) = .pointer (some ⟨B, 0, none⟩) := by rw [ha4]; exact k2
    have tsz : a4.tmps.size = 13 := by rw [ha4]; exact ksz
    have tdf : a4.defers = [{ target := .collected K, args := #[] }] := by rw [ha4]; show [_] ++ a2.defers = _; rw [kdf]; rfl
    refine wpIn_seq (wpIn_region_list ?_)
    rw [hR4]
    refine wl_op (K := fun v w' => v = v5 ∧ W3 = w') rfl (OpOk.value (value_op (m := Instr.loadAt Ts (.pointer (some ⟨B, 0, none⟩))) ?_ hrun5) ⟨rfl, rfl⟩) ?_
    · show (Instr.loadAt Ts (a4.eval (.tmp 2)) >>= fun r => pure (Next.value r)) = _
      rw [t2]
    rintro v5 _ ⟨rfl, rfl⟩
    refine wl_op (K := fun v w' => v = v5 ∧ W3 = w') rfl (OpOk.value (v := (a4.put (some 12) v5).eval (.tmp 12)) (w' := W3) rfl ⟨eval_put (by rw [tsz]; decide), rfl⟩) ?_
    rintro v5 _ ⟨rfl, rfl⟩
    show Exit.then _ _ .normal _ W3
    simp only [Exit.then]
    have t4 : ((a4.put (some 12) v5).put (some 4) v5).tmps.getD 4 undef = v5 := getD_put_self (by rw [size_put, tsz]; decide)
    refine wpIn_ret ?_
    show LeavesInM _ _ P fn ((a4.put (some 12) v5).put (some 4) v5).tmps _ ((a4.put (some 12) v5).put (some 4) v5).defers .returning W3
    rw [defers_put, defers_put, tdf]
    refine ⟨by simp, .inl ⟨K, _, rfl, run_takeDeferred hk3, v5, ?_, v5, rfl, ?_⟩⟩
    · exact (results_tmp hres _ _ _).trans (by rw [t4])
    · have hR4 := hR3.setB (id := 1) (b := K) rfl rfl hSK (.deferred none)
      have hle := hR4
      refine ⟨X, S, β, hX, hR4.ext, fun t ht => ?_, rfl, fun t ht => ?_, fun id o b ho => (by cases ho), fun id b hb => (by cases hb), fun id id' b hb => (by cases hb), fun _ _ => rfl, hR4.βn, hR4.βi, fun v id b e _ hb hq => (by cases hq), hR4.βf, hR4.Sb, hR4.So, rfl⟩
      · have ht0 : t = 0 := by have : t < 1 := ht; omega
        subst ht0
        have hO := hR4.obs 2 _ B rfl rfl
        simp only [ObR] at hO
        obtain ⟨_, _, _, cs, z4, z5, _⟩ := hO
        have hBK : B ≠ K := fun h => by
          have := hR4.γi 2 1 B rfl (by rw [h]; rfl)
          omega
        have hrow : row? (setBlock W3 K (.deferred none)) B = row? W3 B := by
          simp only [row?, setBlock]; rw [Array.getElem?_setIfInBounds_ne (Ne.symm hBK)]
        rw [hrow, q4] at z4
        have hcs : cs = [v5] := by
          have := congrArg (Option.map Array.toList) z4
          simpa using this.symm
        subst hcs
        show AR _ X v5
        rcases hX with ⟨rfl, _⟩ | rfl
        · simp only [AR, AC] at hAX ⊢; exact hAX
        · simp only [AR, AC] at hAX z5 ⊢
          refine ⟨hAX.1, ?_⟩
          obtain ⟨z1, z2, ad, cap, z3, z6⟩ := z5
          refine ⟨z1, z2, ad, cap, ?_, z6⟩
          obtain ⟨_, _, ad', cap', z7, _⟩ := hAX.2
          cases z3
          rfl
      · show (if t = 0 then X else .undef) = _
        rw [if_neg (by have : 1 ≤ t := ht; omega)]
end
end Go.Proofs.YtjjjkojfijpeeaaGreat.Sy
end
section
/- Sy: slices.Values, Collect, SortedFunc: parts for functions that call them. -/
set_option linter.unusedVariables false
namespace Go.Proofs.YtjjjkojfijpeeaaGreat.Sy
open Go Go.Proofs Go.Sort Go.Lib
section
variable {P : Program} {E : Env} {r : Root}
theorem exec_call {f : Nat} (hf : ∃ fn, P.funcs[f]? = some fn ∧ (fn.name == "runtime.NumGoroutine") = false ∧ fn.body.isSome = true) (a : Act) (w : World) (d : Option Nat) (args : Array Operand) (ats : Array TypeId) (y : TypeId) (p : String) (fs : Array Edge) :
    (execOp a.eval ⟨d, .call ⟨.value (.func f), args, ats⟩, y, p, fs, none⟩).run P w = .ok (.enter f (args.map a.eval)) w := by
  obtain ⟨fn, f1, f2, f3⟩ := hf
  have hb : ¬ fn.body = none := by intro hh; rw [hh] at f3; cases f3
  have f2' : ¬ fn.name = "runtime.NumGoroutine" := by simpa using f2
  have e2 : a.eval (.func f) = .func (.func f) #[] #[] := rfl
  simp [execOp, resolve, Deferred.ofValue, invoke, callFunc, f1, f2', hb, e2]
theorem call_enter {f : Nat} (hf : ∃ fn, P.funcs[f]? = some fn ∧ (fn.name == "runtime.NumGoroutine") = false ∧ fn.body.isSome = true) (args : Array Value) (w : World) : (callFunc f args).run P w = .ok (.enter f args) w := by
  obtain ⟨fn, f1, f2, f3⟩ := hf
  have hb : ¬ fn.body = none := by intro hh; rw [hh] at f3; cases f3
  have f2' : ¬ fn.name = "runtime.NumGoroutine" := by simpa using f2
  simp [callFunc, f1, f2', hb]
theorem OwnRes.at {e : Ty} {l : List D} {v : Value} {W : World} (h : OwnRes r e l v W) {a : Act} {nt t : Nat} (hsz : a.tmps.size = nt) (ht : t < nt) (hv : a.tmps.getD t undef = v) (hd : a.defers = []) :
    ∃ X S β, isX e l X ∧ Rp r S (fun _ => none) β (dS nt [] (fun i => if i = t then X else .undef)) a W := by
  obtain ⟨X, S, β, hX, h⟩ := h
  refine ⟨X, S, β, hX, h.ext, fun t' ht' => ?_, hsz, fun t' ht' => ?_, fun id o b ho => (by cases ho), h.γn, h.γi, h.γf, h.βn, h.βi, h.βγ, h.βf, h.Sb, h.So, hd⟩
  · show AR _ (if t' = t then X else .undef) _
    by_cases hh : t' = t
    · subst hh
      rw [if_pos rfl, hv]
      exact h.tms 0 Nat.one_pos
    · rw [if_neg hh]; simp only [AR]
  · show (if t' = t then X else .undef) = _
    rw [if_neg (by have : nt ≤ t' := ht'; omega)]
theorem freshL_of {e : Ty} {l : List D} {X : AV} (hX : isX e l X) (hlen : l.length ≤ 1073741824) {nt t : Nat} : freshL (dS nt [] (fun i => if i = t then X else .undef)) e t = some l := by
  rcases hX with ⟨rfl, rfl⟩ | rfl
  · simp [freshL, dS]
  · simp [freshL, dS, Ty.beq_refl', hlen]
/-- A call of the library's sorting function. -/
theorem sort_calls (hE : EnvOk P E) {f : Nat} {e : Ty} (hf : SortOk P f e) {g : Nat} (hsig : E.sig g = some ([e, e], .int .i64)) {x : Nat} {S : Nat → Nat → Prop} {γ : Nat → Option Nat} {β : Nat → Option (Nat × Nat)} {s : St} {a : Act} {w : World} (h : Rp r S γ β s a w)
    {l l' : List D} (hv : freshL s e x = some l) (hs : sortD E g l = some l') :
    Calls P f #[a.tmps.getD x undef, .func (.func g) #[] #[]] w fun en w1 => (∃ v, en = .returned v) ∧ ∃ S', Ext r w1 ∧ DR0 w1 S' (.sl l') (a.tmps.getD x undef) ∧ (∀ b o, S' b o → b < w1.heap.size) ∧ (∀ b o, S' b o → r.Old b → r.S0 b o) := by
  have hx : x < s.nt := by
    rcases Nat.lt_or_ge x s.nt with k | k
    · exact k
    · unfold freshL at hv; rw [h.tmu x k] at hv; cases hv
  have hax : AR ⟨w, S, γ, β, s.ob, s.dead⟩ (s.tm x) (a.tmps.getD x undef) := h.tms x (by rw [h.nt]; exact hx)
  obtain ⟨ad, cap, val, hwt, hcr, hown⟩ : ∃ ad cap, a.tmps.getD x undef = .slice ad l.length cap ∧ (∀ y ∈ l, wt e y) ∧ CR w S (.sl l) (.slice ad l.length cap) ∧ (l ≠ [] → ∃ b off row, ad = some ⟨b, off, none⟩ ∧ row? w b = some row ∧ ¬ r.Old b ∧ b < w.heap.size) ∧ l.length ≤ 1073741824 := by
    unfold freshL at hv
    split at hv
    · rename_i e' v l0 htm
      split at hv
      · rename_i hb
        simp only [Bool.and_eq_true, Bool.not_eq_true', decide_eq_true_eq] at hb
        obtain ⟨⟨hb1, hb2⟩, hb3⟩ := hb
        cases hv
        have := Ty.eq_of_beq _ _ hb1; subst this
        rw [htm] at hax
        simp only [AR, AC] at hax
        obtain ⟨n0, n1, n2, ad, cap, n3, n4, n5⟩ := hax
        have hval := cells_single n0 n3
        have hdead : v ∉ s.dead := by simpa using hb2
        refine ⟨ad, cap, hval, n2, n4, fun hne => ?_, hb3⟩
        rcases n5 hdead with ⟨q1, q2⟩ | ⟨b, off, q1, q2, n, q3, q4⟩
        · exfalso
          obtain ⟨_, _, b, off, e1, e2, e3, e4⟩ := n4.elems
          cases e1
          rcases e2 with e2 | e2
          · exact hne e2
          · rw [q1] at e2; cases e2
        · obtain ⟨k1, k2, _⟩ := h.βn v b _ hdead q2
          unfold rsz at q3
          cases hr : row? w b with
          | none => rw [hr] at q3; cases q3
          | some row => exact ⟨b, off, row, q1, hr, k1, k2⟩
      · cases hv
    · rename_i htm
      cases hv
      rw [htm] at hax
      simp only [AR, AC] at hax
      have hval := cells_single hax.1 hax.2
      exact ⟨none, 0, hval, by simp, CR.of_elems (b := 0) (off := 0) (.inl rfl) (Nat.le_refl _) ⟨[], CRl.nil, by simp⟩, fun h => absurd rfl h, by simp⟩
    · cases hv
  obtain ⟨hown, hlen⟩ := hown
  have hperm : l'.Perm l := by
    unfold sortD at hs
    split at hs
    · cases hs; exact sortL_perm _ l
    · cases hs
  have hll : l'.length = l.length := hperm.length_eq
  have hwt' : ∀ y ∈ l', wt e y := fun y hy => hwt y (hperm.subset hy)
  rw [val]
  by_cases hne : l = []
  · subst hne
    have e0 : l' = [] := by cases l' with | nil => rfl | cons y l' => simp at hll
    subst e0
    refine (hf.empty ad cap _ w).mono ?_
    rintro en w1 ⟨rfl, rfl⟩
    exact ⟨⟨_, rfl⟩, S, h.ext, DR0_sl hcr, h.Sb, h.So⟩
  · obtain ⟨b, off, row, rfl, hr, hold, hbs⟩ := hown hne
    have hcell : ∀ (i : Nat) (d : D), (D.flats l)[i]? = some d → w.cell? ⟨b, off + i, none⟩ = some (valOf d) := by
      obtain ⟨_, _, b', off', e1, e2, e3, cs, e4, e5⟩ := hcr.elems
      cases e1
      rcases e2 with e2 | e2
      · exact absurd e2 hne
      · cases e2
        have hleaf := leaf_list hf.cmp l hwt
        have := (CRl_leaf hleaf).1 e4
        subst this
        intro i d hd
        exact (e5 i (valOf d) (by rw [List.getElem?_map, hd]; rfl)).2
    refine (sort_call hE hf hsig hwt hs hne (b := b) (off := off) (cap := cap) hr hcell (by omega)).mono ?_
    rintro en w1 ⟨rfl, _, q1, q2, q3, q4, q5, q6, q7⟩
    refine ⟨⟨_, rfl⟩, fun b' o => (S b' o ∧ b' ≠ b) ∨ (b' = b ∧ off ≤ o ∧ o < off + (D.flats l').length), ?_, ?_, ?_, ?_⟩
    · refine ext_of h.ext q2 q3 q4 q5 q1 fun b' hb' => q6 b' (fun e => hold (e ▸ hb')) (Nat.lt_of_lt_of_le hb'.1 h.ext.sz)
    · refine DR0_sl ?_
      rw [← hll]
      refine CR.of_elems (b := b) (off := off) (.inr rfl) (by obtain ⟨_, _, _, _, e1, _, e3, _⟩ := hcr.elems; cases e1; rw [hll]; exact e3) ⟨(D.flats l').map valOf, ?_, fun i c hc => ?_⟩
      · exact (CRl_leaf (leaf_list hf.cmp l' hwt')).2 rfl
      · rw [List.getElem?_map] at hc
        cases hd : (D.flats l')[i]? with
        | none => rw [hd] at hc; cases hc
        | some d =>
          rw [hd] at hc
          simp only [Option.map_some, Option.some.injEq] at hc
          subst hc
          exact ⟨.inr ⟨rfl, by omega, by have := (List.getElem?_eq_some_iff.1 hd).1; omega⟩, q7 i d hd⟩
    · rintro b' o (⟨hb', _⟩ | ⟨rfl, _, _⟩)
      · exact Nat.lt_of_lt_of_le (h.Sb b' o hb') q5
      · exact Nat.lt_of_lt_of_le hbs q5
    · rintro b' o (⟨hb', _⟩ | ⟨rfl, _, _⟩) ho
      · exact h.So b' o hb' ho
      · exact absurd ho hold
/-- What the boxed argument holds. -/
def kBoxT (e : Ty) (t : Nat) (x : Ex) (s : St) : Option D := match x with
  | .normal => match s.tm t with
    | .ptr t id [] => match s.ob id with
      | some (.one t' (.d t'' y)) => if t.beq e && t'.beq e && t''.beq e then some y else none
      | _ => none
    | _ => none
  | _ => none
theorem kBoxT_inv {e : Ty} {t : Nat} {x : Ex} {s : St} {y : D} (h : kBoxT e t x s = some y) : x = .normal ∧ ∃ id, s.tm t = .ptr e id [] ∧ s.ob id = some (.one e (.d e y)) := by
  unfold kBoxT at h
  split at h <;> first | (cases h; done) | skip
  split at h <;> first | (cases h; done) | skip
  rename_i t id htm
  split at h <;> first | (cases h; done) | skip
  rename_i t' t'' y' hob
  split at h <;> first | (cases h; done) | skip
  rename_i hc
  simp only [Bool.and_eq_true] at hc
  cases h
  have e1 := Ty.eq_of_beq _ _ hc.1.1; have e2 := Ty.eq_of_beq _ _ hc.1.2; have e3 := Ty.eq_of_beq _ _ hc.2
  subst e1; subst e2; subst e3
  exact ⟨rfl, id, htm, hob⟩
end
end Go.Proofs.YtjjjkojfijpeeaaGreat.Sy
end
section
/- Sy: hull.sorted at points of which no two are equal. -/
set_option linter.unusedVariables false
namespace Go.Proofs.YtjjjkojfijpeeaaGreat.Sy
open Go Go.Proofs Go.Sort Go.Lib
section
variable {r : Root} {lp : Lp} {call : Nat → List D → Option D}
noncomputable abbrev envQ (lp : Lp) (call : Nat → List D → Option D) : Env := envOf lp call (inlP lp call)
theorem fn149 : ∃ fn, Tryz.prog.funcs[149]? = some fn ∧ (fn.name == "runtime.NumGoroutine") = false ∧ fn.body.isSome = true := fnOf (by kernel_rfl)
theorem fn176 : ∃ fn, Tryz.prog.funcs[176]? = some fn ∧ (fn.name == "runtime.NumGoroutine") = false ∧ fn.body.isSome = true := fnOf (by kernel_rfl)
theorem fn92 : ∃ fn, Tryz.prog.funcs[92]? = some fn ∧ (fn.name == "runtime.NumGoroutine") = false ∧ fn.body.isSome = true := fnOf (by kernel_rfl)
theorem fn93 : ∃ fn, Tryz.prog.funcs[93]? = some fn ∧ (fn.name == "runtime.NumGoroutine") = false ∧ fn.body.isSome = true := fnOf (by kernel_rfl)
theorem fn151 : ∃ fn, Tryz.prog.funcs[151]? = some fn ∧ (fn.name == "runtime.NumGoroutine") = false ∧ fn.body.isSome = true := fnOf (by kernel_rfl)
theorem fn150 : ∃ fn, Tryz.prog.funcs[150]? = some fn ∧ (fn.name == "runtime.NumGoroutine") = false ∧ fn.body.isSome = true := fnOf (by kernel_rfl)
noncomputable def asg176 : Code := match bodyOf Tryz.f176 with | .seq _ (.seq (.seq _ (.block _ (.rangeFunc _ _ a _))) _) => a | c => c
noncomputable def bdy176 : Code := match bodyOf Tryz.f176 with | .seq _ (.seq (.seq _ (.block _ (.rangeFunc _ _ _ b))) _) => b | c => c
theorem round176 : ∀ X L k, isX K1 L X → L.length < 1073741824 → ev (envQ lp call) asg176 .leaf D ((σR 13 2 K1 X).put (some 7) (.d K1 k)) (fun x s' => match x with
      | .normal => if plainSt s' (idsR s' 5) then ev (envQ lp call) bdy176 .leaf D (s'.only (idsR s' 5)) (kI K1) else none
      | _ => none) = some (.sl (L ++ [k])) := by
  intro X L k hX hL
  rcases hX with ⟨rfl, rfl⟩ | rfl
  · kernel_rfl
  · have key : ev (envQ lp call) asg176 .leaf D ((σR 13 2 K1 (.own K1 5 L)).put (some 7) (.d K1 k)) (fun x s' => match x with
      | .normal => if plainSt s' (idsR s' 5) then ev (envQ lp call) bdy176 .leaf D (s'.only (idsR s' 5)) (kI K1) else none
      | _ => none) = (if List.length L + List.length [k] ≤ 1073741824 then some (.sl (L ++ [k])) else none) := by kernel_rfl
    rw [key, if_pos (by simp; omega)]
theorem ev176 : ev (envQ lp call) (sq1 (bodyOf Tryz.f176)) .leaf D (dS 13 [1] (fun i => if i = 0 then .nils else .undef)) (kO K1 2) = some (.sl []) := by kernel_rfl
theorem appendSeq176 (hE : EnvOk Tryz.prog (envQ lp call)) {nn : Nat} {l : List D} (hwt : ∀ x ∈ l, wt K1 x) (hlen : l.length ≤ 1073741824) {lb : Array Value} (hIt : ItOk Tryz.prog r K1 l 151 lb) {W0 : World} (h0 : Ext r W0) :
    CallsIn (FW none) nn Tryz.prog 176 #[.slice none 0 0, .func (.func 151) #[] lb] W0 fun en W' => ∃ v, en = .returned v ∧ OwnRes r K1 l v W' :=
  appendSeq_gen hE rfl hwt hlen hIt (call_enter fn151) (fn := Tryz.f176) (by kernel_rfl) rfl rfl rfl (Ts := 22) (by kernel_rfl) rfl rfl ev176 round176 h0
end
end Go.Proofs.YtjjjkojfijpeeaaGreat.Sy
end
section
/- Sy: hull.sorted at points of which no two are equal: the functions of package slices. -/
set_option linter.unusedVariables false
namespace Go.Proofs.YtjjjkojfijpeeaaGreat.Sy
open Go Go.Proofs Go.Sort Go.Lib
section
variable {r : Root} {lp : Lp} {call : Nat → List D → Option D}
theorem wl_call {P : Program} {ro : Option Nat} {nn : Nat} {ops : Array Oper} {rest : List Oper} {a : Act} {w : World} {K : Value → World → Prop} {Q : Exit → Act → World → Prop} {d : Option Nat} {args : Array Operand} {ats : Array TypeId} {y : TypeId} {p : String} {fs : Array Edge} {f : Nat}
    (hf : ∃ fn, P.funcs[f]? = some fn ∧ (fn.name == "runtime.NumGoroutine") = false ∧ fn.body.isSome = true) (vs : Array Value) (h : args.map a.eval = vs) (hc : Calls P f vs w fun en w' => ∃ v, en = .returned v ∧ K v w')
    (hk : ∀ v w', K v w' → wpListIn (FW ro) nn P ops Q rest (a.put d v) w') : wpListIn (FW ro) nn P ops Q (⟨d, .call ⟨.value (.func f), args, ats⟩, y, p, fs, none⟩ :: rest) a w :=
  wl_op rfl (OpOk.enter (h ▸ exec_call hf a w d args ats y p fs) hc) hk
theorem guards_of {l : List Oper} (h : (l.all fun o => o.guard.isNone) = true) : ∀ x ∈ l, x.guard = none := fun x hx => by
  have := List.all_eq_true.1 h x hx
  cases hg : x.guard with
  | none => rfl
  | some g => rw [hg] at this; cases this
theorem hv0_151 {l : List D} : ev (envQ lp call) (.region 0 ((opsOf (sq1 (bodyOf Tryz.f151))).tail).toArray false) .leaf D (dS 16 [0, 5] (fun i => if i = 5 then .d (.sl K1) (.sl l) else .undef)) (kW [(6, .int .i64), (7, .int .i64)]) = some (.tup [.int .i64 (l.length : Nat), .int .i64 0]) := by kernel_rfl
noncomputable def loop151 : Code := inLoop (inBlk (sq2 (bodyOf Tryz.f151)))
theorem hv1_151 {l : List D} (k : Nat) : ev (envQ lp call) (sq1 loop151) .leaf D (sIt K1 l k [0, 5, 6, 7]) (kW [(7, .int .i64), (8, .bool)]) = some (.tup [.int .i64 (k : Nat), .bool (decide ((k : Int) < (l.length : Nat)))]) := by kernel_rfl
theorem hv2_151 {l : List D} (k : Nat) : ev (envQ lp call) (sq1 (inBlk (sq1 (sq2 (sq2 loop151))))) .leaf D (sIt K1 l k [0, 5, 6, 7]) (kBox K1) = (D.idx (.int .i64 (k : Nat)) l.length).bind fun i => l[i]? := by
  have : ev (envQ lp call) (sq1 (inBlk (sq1 (sq2 (sq2 loop151))))) .leaf D (sIt K1 l k [0, 5, 6, 7]) (kBox K1) = (D.idx (.int .i64 (k : Nat)) l.length).bind fun i => (l[i]?).bind fun x => some x := by kernel_rfl
  rw [this]
  simp
theorem hv4_151 {l : List D} (k : Nat) : ev (envQ lp call) (sq2 (sq2 (sq2 loop151))) .leaf D (sIt K1 l k [0, 5, 6]) (kW [(7, .int .i64)]) = (D.bin .add (.int .i64 (k : Nat)) (.int .i64 1)).bind fun x => some (.tup [x]) := by
  have : ev (envQ lp call) (sq2 (sq2 (sq2 loop151))) .leaf D (sIt K1 l k [0, 5, 6]) (kW [(7, .int .i64)]) = some (.tup [.int .i64 (IntKind.wrap .i64 ((k : Int) + 1))]) := by kernel_rfl
  rw [this]; rfl
theorem vals151 (hE : EnvOk Tryz.prog (envQ lp call)) {l : List D} (hwt : ∀ x ∈ l, wt K1 x) (hlen : l.length ≤ 1073741824) {w : World} {S S0 : Nat → Nat → Prop} (hS : ∀ b o, S b o → b < w.heap.size) {B : Nat} {sv : Value} (hB : ∀ W, Ext (rootOf w S0) W → W.cell? ⟨B, 0, none⟩ = some sv) (hsv : CR w S (.sl l) sv) :
    ItOk Tryz.prog (rootOf w S0) K1 l 151 #[.pointer (some ⟨B, 0, none⟩)] := by
  intro nn L J hJe hJ hY W0 h0
  exact vals_gen hE (e := K1) rfl rfl hwt hlen hS hB hsv J hJe hJ hY (fn := Tryz.f151) (by kernel_rfl) rfl rfl rfl (Ts := 22) (Te := 60) (by kernel_rfl) (by kernel_rfl) rfl (guards_of rfl) rfl hv0_151 hv1_151 hv2_151 hv4_151 h0
theorem slot_put {a : Act} {t u : Nat} {v : Value} (h : t < a.tmps.size) : (a.put (some t) v).tmps.getD u undef = if u = t then v else a.tmps.getD u undef := by
  by_cases hh : u = t
  · subst hh; rw [if_pos rfl, getD_put_self h]
  · rw [if_neg hh, getD_put_ne fun e => hh e.symm]
theorem eval_tmp {a : Act} {t : Nat} : a.eval (.tmp t) = a.tmps.getD t undef := rfl
theorem eval_const {a : Act} {v : Value} : a.eval (.const v) = v := rfl
theorem eval_func {a : Act} {f : Nat} : a.eval (.func f) = .func (.func f) #[] #[] := rfl
section
variable {P : Program} {ro : Option Nat} {nn : Nat} {ops : Array Oper} {rest : List Oper} {a : Act} {w : World} {Q : Exit → Act → World → Prop} {d : Option Nat} {x : Operand} {y : TypeId} {p : String} {fs : Array Edge}
theorem wl_move (h : wpListIn (FW ro) nn P ops Q rest (a.put d (a.eval x)) w) : wpListIn (FW ro) nn P ops Q (⟨d, .move x, y, p, fs, none⟩ :: rest) a w := by
  refine wl_op (K := fun v w' => v = a.eval x ∧ w = w') rfl (OpOk.value (v := a.eval x) (w' := w) rfl ⟨rfl, rfl⟩) ?_
  rintro _ _ ⟨rfl, rfl⟩
  exact h
theorem wl_assign (h : wpListIn (FW ro) nn P ops Q rest (a.put d (a.eval x)) w) : wpListIn (FW ro) nn P ops Q (⟨d, .assign x, y, p, fs, none⟩ :: rest) a w := by
  refine wl_op (K := fun v w' => v = a.eval x ∧ w = w') rfl (OpOk.value (v := a.eval x) (w' := w) rfl ⟨rfl, rfl⟩) ?_
  rintro _ _ ⟨rfl, rfl⟩
  exact h
theorem wl_nil (h : Q .normal a w) : wpListIn (FW ro) nn P ops Q [] a w := h
end
theorem collect_gen {P : Program} {f g : Nat} {fn : Func} (hfn : P.funcs[f]? = some fn) {i0 i1 : Nat} {R0 R1 : Array Oper} (hbody : fn.body = some (.seq (.region i0 R0 false) (.seq (.region i1 R1 false) .ret))) (hnt : fn.ntmps = 5) (hres : fn.results = #[.tmp 2])
    {y2 y3 y4 y5 : TypeId} {p2 p3 p4 p5 : String} {f2 f3 f4 f5 : Array Edge} {ats : Array TypeId} (hR0 : R0.toList = [⟨some 2, .assign (.const (.slice none 0 0)), y2, p2, f2, none⟩])
    (hR1 : R1.toList = [⟨some 3, .move (.tmp 0), y3, p3, f3, none⟩, ⟨some 4, .call ⟨.value (.func g), #[.const (.slice none 0 0), .tmp 3], ats⟩, y4, p4, f4, none⟩, ⟨some 2, .assign (.tmp 4), y5, p5, f5, none⟩])
    (hg : ∃ fn, P.funcs[g]? = some fn ∧ (fn.name == "runtime.NumGoroutine") = false ∧ fn.body.isSome = true) {fv : Value} {R : Value → World → Prop} {W0 : World} (hc : Calls P g #[.slice none 0 0, fv] W0 fun en W' => ∃ v, en = .returned v ∧ R v W') :
    Calls P f #[fv] W0 fun en W' => ∃ v, en = .returned v ∧ R v W' := by
  refine calls_of_wpI hfn hbody ?_
  generalize ha0 : Act.mk _ _ = a0
  have hsz0 : a0.tmps.size = 5 := by rw [← ha0]; simp [hnt]
  have e0 : a0.tmps.getD 0 undef = fv := by rw [← ha0, hnt]; rfl
  have hd0 : a0.defers = [] := by rw [← ha0]
  clear ha0
  refine wpIn_seq (wpIn_region_list ?_)
  rw [hR0]
  refine wl_assign (wl_nil ?_)
  refine wpIn_seq (wpIn_region_list ?_)
  rw [hR1]
  refine wl_move (wl_call hg _ ?_ hc fun v w1 hv => wl_assign (wl_nil ?_))
  · simp only [List.map_toArray, List.map_cons, List.map_nil, eval_tmp, eval_const, slot_put, size_put, hsz0, e0, reduceIte, Nat.reduceLT, Nat.reduceEqDiff]
  · refine wpIn_ret ⟨by simp only [defers_put, hd0], v, (results_tmp hres _ _ _).trans ?_, v, rfl, hv⟩
    simp only [eval_tmp, eval_const, slot_put, size_put, hsz0, e0, reduceIte, Nat.reduceLT, Nat.reduceEqDiff]
theorem collect149 (hE : EnvOk Tryz.prog (envQ lp call)) {l : List D} (hwt : ∀ x ∈ l, wt K1 x) (hlen : l.length ≤ 1073741824) {lb : Array Value} (hIt : ItOk Tryz.prog r K1 l 151 lb) {W0 : World} (h0 : Ext r W0) :
    Calls Tryz.prog 149 #[.func (.func 151) #[] lb] W0 fun en W' => ∃ v, en = .returned v ∧ OwnRes r K1 l v W' :=
  collect_gen (fn := Tryz.f149) (by kernel_rfl) rfl rfl rfl rfl rfl fn176 (callsIn_wide.1 (appendSeq176 hE (nn := 0) hwt hlen hIt h0))
end
end Go.Proofs.YtjjjkojfijpeeaaGreat.Sy
end
section
/- Sy: hull.sorted at points of which no two are equal: slices.Values, SortedFunc, and hull.sorted. -/
set_option linter.unusedVariables false
namespace Go.Proofs.YtjjjkojfijpeeaaGreat.Sy
open Go Go.Proofs Go.Sort Go.Lib
section
variable {P : Program} {E : Env} {r : Root}
theorem wl_fn {ro : Option Nat} {nn : Nat} {ops : Array Oper} {rest : List Oper} {a : Act} {w : World} {Q : Exit → Act → World → Prop} {d : Option Nat} {y : TypeId} {p : String} {fs : Array Edge} {g t : Nat}
    (h : wpListIn (FW ro) nn P ops Q rest (a.put d (.func (.func g) #[] #[a.tmps.getD t undef])) w) : wpListIn (FW ro) nn P ops Q (⟨d, .makeFunc (.func g) #[] #[.tmp t], y, p, fs, none⟩ :: rest) a w := by
  refine wl_op (K := fun v w' => v = .func (.func g) #[] #[a.tmps.getD t undef] ∧ w = w') rfl (OpOk.value (v := .func (.func g) #[] #[a.tmps.getD t undef]) (w' := w) ?_ ⟨rfl, rfl⟩) ?_
  · simp [execOp, Instr.makeFunc, eval_tmp]
  rintro _ _ ⟨rfl, rfl⟩
  exact h
theorem sortedFunc_gen (hE : EnvOk P E) {e : Ty} {f150 : Nat} (hf : SortOk P f150 e) {g : Nat} (hsig : E.sig g = some ([e, e], .int .i64)) {l l' : List D} (hlen : l.length ≤ 1073741824) (hs : sortD E g l = some l')
    {f f149 : Nat} {fn : Func} (hfn : P.funcs[f]? = some fn) {i0 i1 i2 i3 : Nat} {R0 R1 R2 R3 : Array Oper} (hbody : fn.body = some (.seq (.region i0 R0 false) (.seq (.region i1 R1 false) (.seq (.region i2 R2 false) (.seq (.region i3 R3 false) .ret))))) (hnt : fn.ntmps = 12) (hres : fn.results = #[.tmp 4])
    {y2 y3 y4 y5 y6 y7 y8 y9 y10 : TypeId} {p2 p3 p4 p5 p6 p7 p8 p9 p10 : String} {f2 f3 f4 f5 f6 f7 f8 f9 f10 : Array Edge} {ats ats2 : Array TypeId} (hR0 : R0.toList = [⟨some 4, .assign (.const (.slice none 0 0)), y2, p2, f2, none⟩])
    (hR1 : R1.toList = [⟨some 6, .move (.tmp 0), y3, p3, f3, none⟩, ⟨some 7, .call ⟨.value (.func f149), #[.tmp 6], ats⟩, y4, p4, f4, none⟩, ⟨some 5, .assign (.tmp 7), y5, p5, f5, none⟩])
    (hR2 : R2.toList = [⟨some 8, .move (.tmp 5), y6, p6, f6, none⟩, ⟨some 9, .move (.tmp 1), y7, p7, f7, none⟩, ⟨some 10, .call ⟨.value (.func f150), #[.tmp 8, .tmp 9], ats2⟩, y8, p8, f8, none⟩])
    (hR3 : R3.toList = [⟨some 11, .move (.tmp 5), y9, p9, f9, none⟩, ⟨some 4, .assign (.tmp 11), y10, p10, f10, none⟩])
    (hg : ∃ fn, P.funcs[f149]? = some fn ∧ (fn.name == "runtime.NumGoroutine") = false ∧ fn.body.isSome = true) {fv : Value} {W0 : World} (hc : Calls P f149 #[fv] W0 fun en W' => ∃ v, en = .returned v ∧ OwnRes r e l v W') :
    Calls P f #[fv, .func (.func g) #[] #[]] W0 fun en W' => ∃ v, en = .returned v ∧ ∃ S', Ext r W' ∧ DR0 W' S' (.sl l') v ∧ (∀ b o, S' b o → b < W'.heap.size) ∧ (∀ b o, S' b o → r.Old b → r.S0 b o) := by
  refine calls_of_wpI hfn hbody ?_
  generalize ha0 : Act.mk _ _ = a0
  have hsz0 : a0.tmps.size = 12 := by rw [← ha0]; simp [hnt]
  have e0 : a0.tmps.getD 0 undef = fv := by rw [← ha0, hnt]; rfl
  have e1 : a0.tmps.getD 1 undef = .func (.func g) #[] #[] := by rw [← ha0, hnt]; rfl
  have hd0 : a0.defers = [] := by rw [← ha0]
  clear ha0
  refine wpIn_seq (wpIn_region_list ?_)
  rw [hR0]
  refine wl_assign (wl_nil ?_)
  refine wpIn_seq (wpIn_region_list ?_)
  rw [hR1]
  refine wl_move (wl_call hg _ ?_ hc fun v w1 hv => wl_assign (wl_nil ?_))
  · simp only [List.map_toArray, List.map_cons, List.map_nil, eval_tmp, eval_const, slot_put, size_put, hsz0, e0, reduceIte, Nat.reduceLT, Nat.reduceEqDiff]
  generalize ha2 : Act.put _ (some 5) _ = a2
  have hsz2 : a2.tmps.size = 12 := by rw [← ha2]; simp only [size_put, hsz0]
  have e5 : a2.tmps.getD 5 undef = v := by rw [← ha2]; simp only [eval_tmp, eval_const, slot_put, size_put, hsz0, reduceIte, Nat.reduceLT, Nat.reduceEqDiff]
  have e1' : a2.tmps.getD 1 undef = .func (.func g) #[] #[] := by rw [← ha2]; simp only [eval_tmp, eval_const, slot_put, size_put, hsz0, e1, reduceIte, Nat.reduceLT, Nat.reduceEqDiff]
  have hd2 : a2.defers = [] := by rw [← ha2]; simp only [defers_put, hd0]
  clear ha2
  obtain ⟨X, S, β, hX, hR⟩ := hv.at (a := a2) hsz2 (t := 5) (by decide) e5 hd2
  have hcs := sort_calls hE hf hsig hR (freshL_of hX hlen) hs
  rw [e5] at hcs
  have hcs' : Calls P f150 #[v, .func (.func g) #[] #[]] w1 fun en w2 => ∃ u, en = .returned u ∧ ∃ S', Ext r w2 ∧ DR0 w2 S' (.sl l') v ∧ (∀ b o, S' b o → b < w2.heap.size) ∧ (∀ b o, S' b o → r.Old b → r.S0 b o) := hcs.mono (by
    rintro en w2 ⟨⟨u, rfl⟩, h⟩
    exact ⟨u, rfl, h⟩)
  refine wpIn_seq (wpIn_region_list ?_)
  rw [hR2]
  refine wl_move (wl_move (wl_call hf.fn _ ?_ hcs' fun u w2 hu => wl_nil ?_))
  · simp only [List.map_toArray, List.map_cons, List.map_nil, eval_tmp, eval_const, slot_put, size_put, hsz2, e5, e1', reduceIte, Nat.reduceLT, Nat.reduceEqDiff]
  generalize ha3 : Act.put _ (some 10) _ = a3
  have hsz3 : a3.tmps.size = 12 := by rw [← ha3]; simp only [size_put, hsz2]
  have e5' : a3.tmps.getD 5 undef = v := by rw [← ha3]; simp only [eval_tmp, eval_const, slot_put, size_put, hsz2, e5, reduceIte, Nat.reduceLT, Nat.reduceEqDiff]
  have hd3 : a3.defers = [] := by rw [← ha3]; simp only [defers_put, hd2]
  clear ha3
  refine wpIn_seq (wpIn_region_list ?_)
  rw [hR3]
  refine wl_move (wl_assign (wl_nil (wpIn_ret ⟨by simp only [defers_put, hd3], v, (results_tmp hres _ _ _).trans ?_, v, rfl, hu⟩)))
  simp only [eval_tmp, eval_const, slot_put, size_put, hsz3, e5', reduceIte, Nat.reduceLT, Nat.reduceEqDiff]
/-- What slices.Values hands back. -/
def ValsRes (w : World) (S : Nat → Nat → Prop) (l : List D) (g : Nat) (v : Value) (w1 : World) : Prop :=
  ∃ B S1 sv, v = .func (.func g) #[] #[.pointer (some ⟨B, 0, none⟩)] ∧ Ext (rootOf w S) w1 ∧ w1.cell? ⟨B, 0, none⟩ = some sv ∧ B < w1.heap.size ∧ CR w1 S1 (.sl l) sv ∧ (∀ b o, S1 b o → b < w1.heap.size) ∧ (∀ b o, S1 b o → b < w.heap.size → S b o)
theorem values_gen (hE : EnvOk P E) {e : Ty} (hne : noTup e = true) {l : List D} (hwt : ∀ x ∈ l, wt e x) {g : Nat}
    {f : Nat} {fn : Func} (hfn : P.funcs[f]? = some fn) {i0 i1 : Nat} {R0 R1 : Array Oper} (hbody : fn.body = some (.seq (.region i0 R0 false) (.seq (.region i1 R1 false) .ret))) (hnt : fn.ntmps = 4) (hres : fn.results = #[.tmp 2])
    {y2 y3 : TypeId} {p2 p3 : String} {f2 f3 : Array Edge} (hR1 : R1.toList = [⟨some 3, .makeFunc (.func g) #[] #[.tmp 1], y2, p2, f2, none⟩, ⟨some 2, .assign (.tmp 3), y3, p3, f3, none⟩])
    (hv0 : ev E (.region i0 R0 false) .leaf D (dS 4 [] (fun i => if i = 0 then .d (.sl e) (.sl l) else .undef)) (kBoxT (.sl e) 1) = some (.sl l))
    {w : World} {S : Nat → Nat → Prop} (hS : ∀ b o, S b o → b < w.heap.size) {v0 : Value} (hv : DR0 w S (.sl l) v0) : Calls P f #[v0] w fun en w1 => ∃ v, en = .returned v ∧ ValsRes w S l g v w1 := by
  refine calls_of_wpI hfn hbody ?_
  generalize ha0 : Act.mk _ _ = a0
  have hsz0 : a0.tmps.size = 4 := by rw [← ha0]; simp [hnt]
  have e0 : a0.tmps.getD 0 undef = v0 := by rw [← ha0, hnt]; rfl
  have hd0 : a0.defers = [] := by rw [← ha0]
  clear ha0
  have RA := mkRp (lk := []) (f := fun i => if i = 0 then .d (.sl e) (.sl l) else .undef) hS hsz0 hd0 (fun t ht => by
    by_cases h5 : t = 0
    · subst h5; rw [if_pos rfl, e0]; exact .inl ⟨by simp only [noTup]; exact hne, ⟨l, rfl, hwt⟩, hv⟩
    · rw [if_neg h5]; simp only [AR]) (fun t ht => by rw [if_neg (by omega)])
  refine wpIn_seq (ev_ok hE _ .leaf D _ _ RA hv0 fun x s1 S1 γ1 β1 a1 w1 g1 g2 g3 g4 => ?_)
  obtain ⟨rfl, id, htm, hob⟩ := kBoxT_inv g4
  have hA := (g1.slot htm (by simp)).2
  simp only [AR, AC] at hA
  obtain ⟨hna, B, off, hB1, hγB, hB2⟩ := hA
  have hv1 : a1.tmps.getD 1 undef = .pointer (some ⟨B, off, none⟩) := cells_single hna hB1
  have hoff : off = 0 := (hB2 _ hob).2
  subst hoff
  have hO := g1.obs id _ B hob hγB
  simp only [ObR] at hO
  obtain ⟨_, _, _, cs, q4, q5, q6⟩ := hO
  simp only [AC] at q5
  obtain ⟨_, _, q7⟩ := q5
  have hl1 : cs.length = 1 := q6
  obtain ⟨sv, rfl⟩ : ∃ sv, cs = [sv] := by
    match cs, hl1 with
    | [sv], _ => exact ⟨sv, rfl⟩
  have hcr : CR w1 S1 (.sl l) sv := q7.2 0 _ sv (by simp [D.flat]) rfl
  have hsz1 : a1.tmps.size = 4 := by rw [g1.nt, g3.nt]; rfl
  have hd1 := g1.df
  simp only [exOf, Exit.then]
  refine wpIn_seq (wpIn_region_list ?_)
  rw [hR1]
  refine wl_fn (wl_assign (wl_nil (wpIn_ret ⟨by simp only [defers_put, hd1], _, (results_tmp hres _ _ _).trans ?_, _, rfl, B, S1, sv, rfl, g1.ext, ?_, (g1.γn id B hγB).2, hcr, g1.Sb, fun b o hb hlt => g1.So b o hb ⟨hlt, fun hf => hf⟩⟩)))
  · simp only [eval_tmp, eval_const, slot_put, size_put, hsz1, hv1, reduceIte, Nat.reduceLT, Nat.reduceEqDiff]
  · rw [cell_of_row w1 q4]; rfl
theorem sorted_gen {f f93 f92 f95 g : Nat} {fn : Func} (hfn : P.funcs[f]? = some fn) {i0 i1 i2 : Nat} {R0 R1 R2 : Array Oper} (hbody : fn.body = some (.seq (.region i0 R0 false) (.seq (.region i1 R1 false) (.seq (.region i2 R2 false) .ret)))) (hnt : fn.ntmps = 9) (hres : fn.results = #[.tmp 2])
    {y2 y3 y4 y5 y6 y7 y8 y9 : TypeId} {p2 p3 p4 p5 p6 p7 p8 p9 : String} {f2 f3 f4 f5 f6 f7 f8 f9 : Array Edge} {ats ats2 ats3 : Array TypeId} (hR0 : R0.toList = [⟨some 2, .assign (.const (.slice none 0 0)), y2, p2, f2, none⟩])
    (hR1 : R1.toList = [⟨some 4, .move (.tmp 0), y3, p3, f3, none⟩, ⟨some 5, .call ⟨.value (.func f93), #[.tmp 4], ats⟩, y4, p4, f4, none⟩, ⟨some 6, .call ⟨.value (.func f92), #[.tmp 5, .func g], ats2⟩, y5, p5, f5, none⟩, ⟨some 3, .assign (.tmp 6), y6, p6, f6, none⟩])
    (hR2 : R2.toList = [⟨some 7, .move (.tmp 3), y7, p7, f7, none⟩, ⟨some 8, .call ⟨.value (.func f95), #[.tmp 7], ats3⟩, y8, p8, f8, none⟩, ⟨some 2, .assign (.tmp 8), y9, p9, f9, none⟩])
    (hg93 : ∃ fn, P.funcs[f93]? = some fn ∧ (fn.name == "runtime.NumGoroutine") = false ∧ fn.body.isSome = true) (hg92 : ∃ fn, P.funcs[f92]? = some fn ∧ (fn.name == "runtime.NumGoroutine") = false ∧ fn.body.isSome = true) (hg95 : ∃ fn, P.funcs[f95]? = some fn ∧ (fn.name == "runtime.NumGoroutine") = false ∧ fn.body.isSome = true)
    {v0 : Value} {w : World} {K1 K2 K3 : Value → World → Prop} (h93 : Calls P f93 #[v0] w fun en w1 => ∃ v, en = .returned v ∧ K1 v w1) (h92 : ∀ v w1, K1 v w1 → Calls P f92 #[v, .func (.func g) #[] #[]] w1 fun en w2 => ∃ v, en = .returned v ∧ K2 v w2)
    (h95 : ∀ v w2, K2 v w2 → Calls P f95 #[v] w2 fun en w3 => ∃ v, en = .returned v ∧ K3 v w3) : Calls P f #[v0] w fun en w3 => ∃ v, en = .returned v ∧ K3 v w3 := by
  refine calls_of_wpI hfn hbody ?_
  generalize ha0 : Act.mk _ _ = a0
  have hsz0 : a0.tmps.size = 9 := by rw [← ha0]; simp [hnt]
  have e0 : a0.tmps.getD 0 undef = v0 := by rw [← ha0, hnt]; rfl
  have hd0 : a0.defers = [] := by rw [← ha0]
  clear ha0
  refine wpIn_seq (wpIn_region_list ?_)
  rw [hR0]
  refine wl_assign (wl_nil ?_)
  refine wpIn_seq (wpIn_region_list ?_)
  rw [hR1]
  refine wl_move (wl_call hg93 _ ?_ h93 fun v w1 hv => wl_call hg92 _ ?_ (h92 v w1 hv) fun v2 w2 hv2 => wl_assign (wl_nil ?_))
  · simp only [List.map_toArray, List.map_cons, List.map_nil, eval_tmp, eval_const, slot_put, size_put, hsz0, e0, reduceIte, Nat.reduceLT, Nat.reduceEqDiff]
  · simp only [List.map_toArray, List.map_cons, List.map_nil, eval_tmp, eval_const, eval_func, slot_put, size_put, hsz0, e0, reduceIte, Nat.reduceLT, Nat.reduceEqDiff]
  generalize ha2 : Act.put _ (some 3) _ = a2
  have hsz2 : a2.tmps.size = 9 := by rw [← ha2]; simp only [size_put, hsz0]
  have e3 : a2.tmps.getD 3 undef = v2 := by rw [← ha2]; simp only [eval_tmp, eval_const, slot_put, size_put, hsz0, reduceIte, Nat.reduceLT, Nat.reduceEqDiff]
  have hd2 : a2.defers = [] := by rw [← ha2]; simp only [defers_put, hd0]
  clear ha2
  refine wpIn_seq (wpIn_region_list ?_)
  rw [hR2]
  refine wl_move (wl_call hg95 _ ?_ (h95 v2 w2 hv2) fun v3 w3 hv3 => wl_assign (wl_nil (wpIn_ret ⟨by simp only [defers_put, hd2], v3, (results_tmp hres _ _ _).trans ?_, v3, rfl, hv3⟩)))
  · simp only [List.map_toArray, List.map_cons, List.map_nil, eval_tmp, eval_const, slot_put, size_put, hsz2, e3, reduceIte, Nat.reduceLT, Nat.reduceEqDiff]
  · simp only [eval_tmp, eval_const, slot_put, size_put, hsz2, reduceIte, Nat.reduceLT, Nat.reduceEqDiff]
end
end Go.Proofs.YtjjjkojfijpeeaaGreat.Sy
end
