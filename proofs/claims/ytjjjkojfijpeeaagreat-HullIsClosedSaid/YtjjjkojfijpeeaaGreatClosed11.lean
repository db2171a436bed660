/- Part 11 of the proof that HullIsClosed answers true at every input -/
import Derived.Test.YtjjjkojfijpeeaaGreatClosed09
import Derived.Test.YtjjjkojfijpeeaaGreatClosed10
import Derived.RangeFuncRecord
import Derived.RangeFuncLeaves
import Derived.RangeFuncSeq
import Derived.KernelRfl
set_option linter.unusedVariables false
set_option linter.unusedSimpArgs false
set_option linter.unnecessarySimpa false
section
set_option linter.unusedVariables false
namespace Go.Proofs.YtjjjkojfijpeeaaGreat.Sy
open Go Go.Proofs Go.Proofs.YtjjjkojfijpeeaaGreat.Geo
theorem cmp3_lt {a b : V} (h : lexlt a b) : orZ [cmpZ a.x b.x, cmpZ a.y b.y, cmpZ a.z b.z] = -1 := by
 simp only [lexlt] at h
 rcases h with h | ⟨h1, h | ⟨h2, h⟩⟩
 . simp [orZ, cmpZ, h]
 . simp [orZ, cmpZ, h1, h]
 . simp [orZ, cmpZ, h1, h2, h]
theorem cmp3_gt {a b : V} (h : lexlt b a) : orZ [cmpZ a.x b.x, cmpZ a.y b.y, cmpZ a.z b.z] = 1 := by
 simp only [lexlt] at h
 rcases h with h | ⟨h1, h | ⟨h2, h⟩⟩
 . simp [orZ, cmpZ, h, Int.not_lt.2 (Int.le_of_lt h)]
 . simp [orZ, cmpZ, h1, h, Int.not_lt.2 (Int.le_of_lt h)]
 . simp [orZ, cmpZ, h1, h2, h, Int.not_lt.2 (Int.le_of_lt h)]
theorem cmp3_eq (a : V) : orZ [cmpZ a.x a.x, cmpZ a.y a.y, cmpZ a.z a.z] = 0 := by simp [orZ, cmpZ]
theorem sort_ex {α : Type} (key : α -> V) : ∀ (K : List α), K.Pairwise (fun a b => key a ≠ key b) -> ∃ L : List α, L.Perm K /\ L.Pairwise (fun a b => lexlt (key a) (key b))
 | [], _ => ⟨[], .refl _, .nil⟩
 | x :: K, h => by
   obtain ⟨h1, h2⟩ := List.pairwise_cons.1 h
   obtain ⟨L, p1, p2⟩ := sort_ex key K h2
   have hne : ∀ y ∈ L, key x ≠ key y := fun y hy => h1 y (p1.subset hy)
   have ins : ∀ L : List α, L.Pairwise (fun a b => lexlt (key a) (key b)) -> (∀ y ∈ L, key x ≠ key y) -> ∃ M : List α, M.Perm (x :: L) /\ M.Pairwise (fun a b => lexlt (key a) (key b)) := by
     intro L
     induction L with
     | nil => intro _ _; exact ⟨[x], .refl _, by simp⟩
     | cons y L ih =>
       intro hp hn
       obtain ⟨q1, q2⟩ := List.pairwise_cons.1 hp
       rcases lexlt_tri (hn y List.mem_cons_self) with k | k
       . refine ⟨x :: y :: L, .refl _, List.pairwise_cons.2 ⟨fun z hz => ?_, hp⟩⟩
         rcases List.mem_cons.1 hz with rfl | hz
         . exact k
         . exact lexlt_trans k (q1 z hz)
       . obtain ⟨M, m1, m2⟩ := ih q2 (fun z hz => hn z (List.mem_cons_of_mem _ hz))
         refine ⟨y :: M, (m1.cons y).trans (.swap x y L), List.pairwise_cons.2 ⟨fun z hz => ?_, m2⟩⟩
         rcases List.mem_cons.1 (m1.subset hz) with rfl | hz
         . exact k
         . exact q1 z hz
   obtain ⟨M, m1, m2⟩ := ins L p2 hne
   exact ⟨M, m1.trans (p1.cons x), m2⟩
theorem cmpI100 (n : Nat) (p q : V × Int) : cmpI (envOf lpW (cA (n + 3)) (inlP lpW (cA (n + 3)))) 100 (encP p) (encP q) = some (orZ [cmpZ p.1.x q.1.x, cmpZ p.1.y q.1.y, cmpZ p.1.z q.1.z]) := by
 unfold cmpI
 rw [show (envOf lpW (cA (n + 3)) (inlP lpW (cA (n + 3)))).call = cA (n + 3) from rfl, c100]
 rfl
theorem chk100 (n : Nat) : ∀ (L : List (V × Int)), L.Pairwise (fun a b => lexlt a.1 b.1) -> chkS (envOf lpW (cA (n + 3)) (inlP lpW (cA (n + 3)))) 100 (L.map encP) = true
 | [], _ => rfl
 | p :: L, h => by
   obtain ⟨h1, h2⟩ := List.pairwise_cons.1 h
   simp only [List.map_cons, chkS, Bool.and_eq_true, List.all_eq_true, List.mem_map]
   refine ⟨⟨?_, ?_⟩, chk100 n L h2⟩
   . simp only [geD, cmpI100, cmp3_eq]; decide
   . rintro _ ⟨q, hq, rfl⟩
     simp only [ltD, geD, cmpI100, cmp3_lt (h1 q hq), cmp3_gt (h1 q hq)]; decide
theorem sort100 (n : Nat) {K L : List (V × Int)} (hp : L.Perm K) (h : L.Pairwise (fun a b => lexlt a.1 b.1)) : sortD (envOf lpW (cA (n + 3)) (inlP lpW (cA (n + 3)))) 100 (K.map encP) = some (L.map encP) :=
 sortD_of (chk100 n L h) (hp.symm.map _)
def pt (l : List V) (i : Nat) : V := l.getD i V.zero
theorem dot_neg (a b : V) : V.dot a.neg b = - V.dot a b := by simp only [V.dot, V.neg]; grind
theorem Cd.dist {l : List V} {i j k : Nat} {q : V × Int} (h : Cd l i j k q) : q.2 = V.dot q.1 (l.getD i V.zero) := by
 rcases h.2 with rfl | rfl
 . rfl
 . simp only [flip, dot_neg]; rfl
theorem supp_le {l : List V} {q : V × Int} (h : supp l q = true) {x : V} (hx : x ∈ l) : V.dot q.1 x <= q.2 := by
 simp only [supp, supB, Bool.and_eq_true, List.all_eq_true, decide_eq_true_eq] at h
 exact h.1 x hx
theorem Known.keys {l : List V} {i j k : Nat} {K : List (V × Int)} (h : Known l i j k K) : K.Pairwise (fun a b => a.1 ≠ b.1) := by
 refine List.Pairwise.imp_of_mem (fun {a b} ha hb hab e => hab ?_) h.nd
 obtain ⟨s1, i1, j1, k1, _, _, h1, c1⟩ := h.ok a ha
 obtain ⟨s2, i2, j2, k2, _, _, h2, c2⟩ := h.ok b hb
 have e1 := c1.dist
 have e2 := c2.dist
 have l1 := supp_le s1 (memD h2)
 have l2 := supp_le s2 (memD h1)
 rw [e] at e1 l1
 exact Prod.ext e (by omega)
theorem p45 (n : Nat) {l : List V} (hl : ∀ x ∈ l, bd MV x) (hlen : l.length <= 100) : ∃ y, cA (n + 6) 45 [encL l] = some y /\ ∃ K L : List (V × Int), Known l l.length 0 0 K /\ L.Perm K /\ L.Pairwise (fun a b => lexlt a.1 b.1) /\ y = .sl (L.map encP) := by
 rw [u45]
 unfold F45
 simp only [encL, D.asSl, Option.bind_some]
 refine lp_ex (fun i s => ∃ K, s = [I i, .sl (mapD K)] /\ Known l i 0 0 K) l.length 0 (Nat.zero_le _) ⟨[], rfl, ⟨List.nodup_nil, by simp, fun i' j' k' _ _ _ h => by omega⟩⟩ (fun i hi s hJ => ?_) (fun s hJ => ?_)
 . obtain ⟨K, rfl, hK⟩ := hJ
   simp only [g0, g1, List.length_map, b_lss, Option.bind_some, tr_b, decide_eq_true_eq, show ((i : Int) < (l.length : Int)) from by omega, if_true, D.els]
   refine lp_ex (fun j s => ∃ K, s = [I j, .sl (mapD K)] /\ Known l i j 0 K) i 0 (Nat.zero_le _) ⟨K, rfl, hK⟩ (fun j hj s hJ => ?_) (fun s hJ => ?_)
   . obtain ⟨K, rfl, hK⟩ := hJ
     simp only [g0, g1, b_lss, Option.bind_some, tr_b, decide_eq_true_eq, show ((j : Int) < (i : Int)) from by omega, if_true, D.els]
     refine lp_ex (fun k s => ∃ K, s = [I k, .sl (mapD K)] /\ Known l i j k K) j 0 (Nat.zero_le _) ⟨K, rfl, hK⟩ (fun k hk s hJ => ?_) (fun s hJ => ?_)
     . obtain ⟨K, rfl, hK⟩ := hJ
       have hthr := bd_thr (hl _ (memD hi)) (hl _ (memD (show j < l.length by omega))) (hl _ (memD (show k < l.length by omega)))
       have hc := c96 (n + 2) (hl _ (memD hi)) (hl _ (memD (show j < l.length by omega))) (hl _ (memD (show k < l.length by omega)))
       rw [show (prim (V.cross ((l.getD j V.zero).sub (l.getD i V.zero)) ((l.getD k V.zero).sub (l.getD i V.zero))), V.dot (prim (V.cross ((l.getD j V.zero).sub (l.getD i V.zero)) ((l.getD k V.zero).sub (l.getD i V.zero)))) (l.getD i V.zero)) = thr (l.getD i V.zero) (l.getD j V.zero) (l.getD k V.zero) from rfl] at hc
       simp only [g0, g1, b_lss, Option.bind_some, tr_b, decide_eq_true_eq, show ((k : Int) < (j : Int)) from by omega, if_true, D.els, List.length_map, idx_n hi, idx_n (show j < l.length by omega), idx_n (show k < l.length by omega), getDL hi, getDL (show j < l.length by omega), getDL (show k < l.length by omega), hc]
       by_cases hz : (thr (l.getD i V.zero) (l.getD j V.zero) (l.getD k V.zero)).1 = V.zero
       . have hb : D.beq (encV (thr (l.getD i V.zero) (l.getD j V.zero) (l.getD k V.zero)).1) (D.st [D.int .i64 0, D.int .i64 0, D.int .i64 0]) = true := by
           rw [enc_mk, beq_V]; exact decide_eq_true hz
         simp only [show D.get (encP (thr (l.getD i V.zero) (l.getD j V.zero) (l.getD k V.zero))) [0] = some (encV (thr (l.getD i V.zero) (l.getD j V.zero) (l.getD k V.zero)).1) from rfl, Option.bind_some, hb, tr_b, if_true, g0, D.els, b_add (inR_nat (i := k) (by omega))]
         exact ⟨_, rfl, K, rfl, hK.skip hz⟩
       . have hb : D.beq (encV (thr (l.getD i V.zero) (l.getD j V.zero) (l.getD k V.zero)).1) (D.st [D.int .i64 0, D.int .i64 0, D.int .i64 0]) = false := by
           rw [enc_mk, beq_V]; exact decide_eq_false hz
         have step := hK.step hk hj hi hz
         generalize hq : thr (l.getD i V.zero) (l.getD j V.zero) (l.getD k V.zero) = q at *
         obtain ⟨b1, b2, b3⟩ := hthr
         have hfl : D.st [encV q.1.neg, I (-q.2)] = encP (flip q) := rfl
         have b4 : bd 549755813888 (flip q).1 := bd_neg b1
         simp only [show D.get (encP q) [0] = some (encV q.1) from rfl, show D.get (encP q) [1] = some (I q.2) from rfl, Option.bind_some, hb, tr_b, Bool.false_eq_true, if_false, c97 (n + 4) b1 (by decide), u_neg b3, hfl]
         have one : ∀ (K : List (V × Int)) (p : V × Int), bd 549755813888 p.1 -> (Option.bind (D.un .not (Option.getD (D.mget (mapD K) (encP p)) (D.bool false))) fun x32 => Option.bind (D.truth x32) fun b33 => Option.bind (if b33 then (Option.bind (cA (n + 5) 98 [D.sl (l.map encV), encP p]) fun r34 => D.truth r34) else (some false)) fun b36 =>
             if b36 then (some ((0 : Nat), [(D.sl [encP q, encP (flip q)]), (D.sl (D.mput (mapD K) (encP p) (D.bool true)))])) else (some (0, [(D.sl [encP q, encP (flip q)]), (D.sl (mapD K))]))) = some (0, [D.sl [encP q, encP (flip q)], D.sl (mapD (note l K p))]) := fun K p hp => by
           rw [mget_mapD]
           have ht := note_text (n := n + 3) (K := K) hl hp (by omega)
           simp only [encL] at ht
           by_cases hm : p ∈ K
           . simp [hm, u_not, tr_b, note]
           . simp only [hm, if_false, Option.getD_none, u_not, Bool.not_false, Option.bind_some, tr_b, if_true, decide_false, Bool.true_and] at ht ⊢
             rw [ht]
             simp only [Option.bind_some, note, hm, if_false]
             split
             . rw [mput_mapD K p hm]
             . rfl
         refine ⟨.inl [I ((k + 1 : Nat) : Int), .sl (mapD (note l (note l K q) (flip q)))], ?_, _, rfl, step⟩
         refine bind_eq (z := (0, [.sl (mapD (note l (note l K q) (flip q)))])) ?_ ?_
         . refine lp_nextA (s' := [.sl [encP q, encP (flip q)], I 1, .sl (mapD (note l K q))]) ?_ (lp_nextA (s' := [.sl [encP q, encP (flip q)], I 2, .sl (mapD (note l (note l K q) (flip q)))]) ?_ (lp_endA (r := (0, [.sl (mapD (note l (note l K q) (flip q)))])) ?_ rfl))
           . simp only [g0, g1, g2, D.els, b_lss, Option.bind_some, tr_b, decide_eq_true_eq, show ((0 : Int) < 2) from by decide, if_true, List.length_cons, List.length_nil, show D.idx (I 0) (0 + 1 + 1) = some 0 from rfl, List.getElem?_cons_zero, b_add i01]
             exact bind_eq (one K q b1) rfl
           . simp only [g0, g1, g2, D.els, b_lss, Option.bind_some, tr_b, decide_eq_true_eq, show ((1 : Int) < 2) from by decide, if_true, List.length_cons, List.length_nil, show D.idx (I 1) (0 + 1 + 1) = some 1 from rfl, List.getElem?_cons_succ, List.getElem?_cons_zero, b_add i12]
             exact bind_eq (one (note l K q) (flip q) b4) rfl
           . simp only [g0, g1, g2, D.els, b_lss, Option.bind_some, tr_b]; rfl
         . simp only [g0, D.els, b_add (inR_nat (i := k) (by omega)), Option.bind_some]
           rfl
     . obtain ⟨K, rfl, hK⟩ := hJ
       simp only [g0, g1, b_lss, Option.bind_some, tr_b, decide_eq_true_eq, Int.lt_irrefl, if_false, D.els]
       refine ⟨_, rfl, .inl [I ((j + 1 : Nat) : Int), .sl (mapD K)], ?_, K, rfl, hK.next⟩
       simp only [g0, D.els, b_add (inR_nat (i := j) (by omega)), Option.bind_some]
       rfl
   . obtain ⟨K, rfl, hK⟩ := hJ
     simp only [g0, g1, b_lss, Option.bind_some, tr_b, decide_eq_true_eq, Int.lt_irrefl, if_false, D.els]
     refine ⟨_, rfl, .inl [I ((i + 1 : Nat) : Int), .sl (mapD K)], ?_, K, rfl, hK.next2⟩
     simp only [g0, D.els, b_add (inR_nat (i := i) (by omega)), Option.bind_some]
     rfl
 . obtain ⟨K, rfl, hK⟩ := hJ
   simp only [g0, g1, List.length_map, b_lss, Option.bind_some, tr_b, decide_eq_true_eq, Int.lt_irrefl, if_false, D.els]
   obtain ⟨L, p1, p2⟩ := sort_ex (fun q : V × Int => q.1) K hK.keys
   refine ⟨_, rfl, .sl (L.map encP), ?_, K, L, hK, p1, p2, rfl⟩
   have hKl : (mapD K).length <= 1073741824 := by
     have := hK.len hlen
     simp only [mapD, List.length_map]; omega
   simp only [g0, D.els, hKl, decide_true, if_true, keys_mapD, sort100 (n + 2) p1 p2, Option.bind_some]
end Go.Proofs.YtjjjkojfijpeeaaGreat.Sy
end
section
set_option linter.unusedVariables false
namespace Go.Proofs.YtjjjkojfijpeeaaGreat.Sy
open Go Go.Proofs Go.Proofs.YtjjjkojfijpeeaaGreat.Geo
theorem supp_iff {l : List V} {q : V × Int} : supp l q = true ↔ Supp (pt l) l.length q.1 q.2 := by
 simp only [supp, supB, lowB, Bool.and_eq_true, List.all_eq_true, List.any_eq_true, decide_eq_true_eq, Supp, pt]
 constructor
 . rintro ⟨h1, x, hx, h2⟩
   obtain ⟨k, hk, rfl⟩ := List.getElem_of_mem hx
   exact ⟨fun k hk => h1 _ (memD hk), k, hk, by simpa [List.getD, hk] using h2⟩
 . rintro ⟨h1, k, hk, h2⟩
   refine ⟨fun x hx => ?_, _, memD hk, h2⟩
   obtain ⟨k, hk, rfl⟩ := List.getElem_of_mem hx
   simpa [List.getD, hk] using h1 k hk
theorem tri_rev (P : Nat -> V) (i j k : Nat) : V.cross ((P j).sub (P i)) ((P k).sub (P i)) = (tri P k j i).neg := by
 apply V.ext' <;> simp only [tri, wy, V.cross, V.sub, V.neg] <;> grind
theorem dot_prim_eq {P : Nat -> V} {i j k : Nat} : V.dot (prim (tri P i j k)) (P k) = V.dot (prim (tri P i j k)) (P i) := by
 by_cases h : tri P i j k = V.zero
 . have e0 : prim V.zero = V.zero := by apply V.ext' <;> simp [prim, V.zero]
   rw [h, e0]; simp [V.dot, V.zero]
 . have g := gcd3_pos h
   have e := prim_mul (tri P i j k)
   have t2 : V.dot (tri P i j k) (wy P i k) = 0 := by simp only [tri, V.dot, V.cross]; grind
   rw [e] at t2
   have : (gcd3 (tri P i j k) : Int) * V.dot (prim (tri P i j k)) (wy P i k) = 0 := by rw [<- t2]; simp only [V.dot, V.smul]; grind
   have h0 := zero_of_mul (by omega) this
   rw [dot_wy] at h0
   omega
theorem neg_ne {v : V} (h : v ≠ V.zero) : v.neg ≠ V.zero := fun e => by
 have e1 := congrArg V.x e; have e2 := congrArg V.y e; have e3 := congrArg V.z e
 simp only [V.neg, V.zero] at e1 e2 e3
 exact h (V.ext' (by simp only [V.zero]; omega) (by simp only [V.zero]; omega) (by simp only [V.zero]; omega))
theorem thr_tri (l : List V) (i j k : Nat) : (thr (pt l i) (pt l j) (pt l k)).1 = (prim (tri (pt l) k j i)).neg := by
 simp only [thr, tri_rev (pt l) i j k, prim_neg]
theorem neg_neg' (v : V) : v.neg.neg = v := by apply V.ext' <;> simp [V.neg]
theorem Cd_iff {l : List V} {i j k : Nat} {q : V × Int} : Cd l i j k q ↔ tri (pt l) k j i ≠ V.zero /\ (q.1 = prim (tri (pt l) k j i) \/ q.1 = (prim (tri (pt l) k j i)).neg) /\ q.2 = V.dot q.1 (pt l k) := by
 have e := thr_tri l i j k
 have hd : V.dot (prim (tri (pt l) k j i)) (pt l i) = V.dot (prim (tri (pt l) k j i)) (pt l k) := dot_prim_eq
 have hz : (thr (pt l i) (pt l j) (pt l k)).1 ≠ V.zero ↔ tri (pt l) k j i ≠ V.zero := by
   rw [e]
   constructor
   . intro h h0; rw [h0] at h; exact h rfl
   . intro h; exact neg_ne (prim_ne h)
 constructor
 . intro h
   have hds := h.dist
   obtain ⟨h1, h2⟩ := h
   refine ⟨hz.1 h1, ?_⟩
   have hq : q.1 = prim (tri (pt l) k j i) \/ q.1 = (prim (tri (pt l) k j i)).neg := by
     rcases h2 with rfl | rfl
     . exact .inr e
     . left
       show (thr (pt l i) (pt l j) (pt l k)).1.neg = _
       rw [e, neg_neg']
   refine ⟨hq, ?_⟩
   rw [hds]
   rcases hq with hq | hq
   . rw [hq]; exact hd
   . rw [hq, dot_neg, dot_neg]; exact congrArg Neg.neg hd
 . rintro ⟨h1, h2, h3⟩
   refine ⟨hz.2 h1, ?_⟩
   have e2 : (thr (pt l i) (pt l j) (pt l k)).2 = V.dot (thr (pt l i) (pt l j) (pt l k)).1 (pt l i) := rfl
   obtain ⟨a, b⟩ := q
   simp only at h2 h3
   subst h3
   rcases h2 with rfl | rfl
   . right
     show _ = ((thr (pt l i) (pt l j) (pt l k)).1.neg, -(thr (pt l i) (pt l j) (pt l k)).2)
     rw [e2, e, neg_neg', dot_neg, hd, Int.neg_neg]
   . left
     refine Prod.ext e.symm ?_
     show _ = (thr (pt l i) (pt l j) (pt l k)).2
     rw [e2, e, dot_neg, dot_neg, hd]
theorem Known.facets {l : List V} {K L : List (V × Int)} (h : Known l l.length 0 0 K) (hp : L.Perm K) (ho : L.Pairwise (fun a b => lexlt a.1 b.1)) : Facets (pt l) l.length L := by
 refine ⟨ho, fun q => ⟨fun hq => ?_, fun hq => ?_⟩⟩
 . obtain ⟨hs, i, j, k, h1, h2, h3, hc⟩ := h.ok q (hp.subset hq)
   obtain ⟨c1, c2, c3⟩ := Cd_iff.1 hc
   exact ⟨⟨k, j, i, h1, h2, h3, c1, c2, c3⟩, supp_iff.1 hs⟩
 . obtain ⟨⟨i, j, k, h1, h2, h3, c1, c2, c3⟩, hs⟩ := hq
   exact hp.symm.subset (h.all k j i h1 h2 h3 (.inl h3) q (Cd_iff.2 ⟨c1, c2, c3⟩) (supp_iff.2 hs))
end Go.Proofs.YtjjjkojfijpeeaaGreat.Sy
end
section
set_option linter.unusedVariables false
namespace Go.Proofs.YtjjjkojfijpeeaaGreat.Sy
open Go Go.Proofs Go.Proofs.YtjjjkojfijpeeaaGreat.Geo
def encB : Option Nat -> D
 | none => I (-1)
 | some b => I (b : Int)
theorem iteD {α : Type} {p : Prop} [Decidable p] {A B : α} (h : p) : (if decide p = true then A else B) = A := by rw [if_pos (decide_eq_true h)]
theorem iteN {α : Type} {p : Prop} [Decidable p] {A B : α} (h : ¬ p) : (if decide p = true then A else B) = B := by rw [if_neg (by simpa using h)]
theorem iteT {α : Type} {p : Prop} [Decidable p] {A B y : α} (h : p) (hA : A = y) : (if decide p = true then A else B) = y := by rw [if_pos (decide_eq_true h)]; exact hA
theorem iteF {α : Type} {p : Prop} [Decidable p] {A B y : α} (h : ¬ p) (hA : B = y) : (if decide p = true then A else B) = y := by rw [if_neg (by simpa using h)]; exact hA
theorem sg_lt {x : Int} : sg x < 0 ↔ x < 0 := by unfold sg; split <;> (try split) <;> omega
theorem sg_zero {x : Int} : sg x = 0 ↔ x = 0 := by unfold sg; split <;> (try split) <;> omega
theorem beq_nat (a b : Nat) : D.beq (I (a : Int)) (I (b : Int)) = decide (a = b) := by
 rw [beq_i]; by_cases h : a = b <;> simp [h]; omega
theorem core46 (n : Nat) {l : List V} (hl : ∀ x ∈ l, bd MV x) {m : V} {d : Int} {a k : Nat} {best : Option Nat} (hm0 : m ≠ V.zero) (ha : a < l.length) (hk : k < l.length) (hb : ∀ b, best = some b -> b < l.length /\ V.dot m (wy (pt l) a b) = 0) (hk0 : V.dot m (wy (pt l) a k) = 0) (X : D) :
   (Option.bind (D.truth (D.bool (D.beq (I (k : Int)) (I (a : Int))))) fun b25 =>
   if b25 then (some ((0 : Nat), [encB best, X])) else (Option.bind (D.bin .lss (encB best) (D.int .i64 0)) fun x26 =>
   Option.bind (D.truth x26) fun b27 =>
   if b27 then (some (0, [I (k : Int), X])) else (Option.bind (D.asSl (encL l)) fun l28 =>
   Option.bind (D.idx (I (k : Int)) (List.length l28)) fun i29 =>
   Option.bind (l28[i29]?) fun x30 =>
   Option.bind (D.asSl (encL l)) fun l31 =>
   Option.bind (D.idx (I (a : Int)) (List.length l31)) fun i32 =>
   Option.bind (l31[i32]?) fun x33 =>
   Option.bind (cA (n + 4) 103 [x30, x33]) fun r34 =>
   Option.bind (D.asSl (encL l)) fun l35 =>
   Option.bind (D.idx (encB best) (List.length l35)) fun i36 =>
   Option.bind (l35[i36]?) fun x37 =>
   Option.bind (D.asSl (encL l)) fun l38 =>
   Option.bind (D.idx (I (a : Int)) (List.length l38)) fun i39 =>
   Option.bind (l38[i39]?) fun x40 =>
   Option.bind (cA (n + 4) 103 [x37, x40]) fun r41 =>
   Option.bind (D.get (encP (m, d)) [0]) fun x42 =>
   Option.bind (cA (n + 4) 104 [x42, r41, r34]) fun r43 =>
   Option.bind (D.bin .lss r43 (D.int .i64 0)) fun x44 =>
   Option.bind (D.truth x44) fun b45 =>
   Option.bind (if b45 then (some true) else (Option.bind (D.truth (D.bool (D.beq r43 (D.int .i64 0)))) fun b46 =>
   if b46 then (Option.bind (cA (n + 4) 101 [r34, r34]) fun r47 =>
   Option.bind (cA (n + 4) 101 [r41, r41]) fun r48 =>
   Option.bind (D.bin .gtr r47 r48) fun x49 =>
   D.truth x49) else (some false))) fun b50 =>
   Option.bind (D.truth (D.bool b50)) fun b51 =>
   if b51 then (some (0, [I (k : Int), X])) else (some (0, [encB best, X]))))) = some (0, [encB (nextStep m (pt l) a best k), X]) := by
 by_cases hka : k = a
 . subst hka
   have h0 : D.beq (I (k : Int)) (I (k : Int)) = true := by rw [beq_nat]; simp
   rw [h0, show nextStep m (pt l) k best k = best from if_pos rfl]
   exact bind_eq (z := true) rfl (if_pos rfl)
 . have h0 : D.beq (I (k : Int)) (I (a : Int)) = false := by rw [beq_nat]; simp [hka]
   rw [h0]
   refine bind_eq (z := false) rfl ?_
   rw [if_neg (by decide)]
   have hns : ∀ b, nextStep m (pt l) a b k = match b with
     | none => some k
     | some b => if better m (pt l) a b k then some k else some b := fun b => if_neg hka
   rw [hns]
   clear hns h0
   cases best with
   | none => exact bind_eq (z := .bool true) rfl (bind_eq (z := true) rfl rfl)
   | some b =>
     obtain ⟨hb1, hb2⟩ := hb b rfl
     have c1 := c103 (n + 2) (hl _ (memD hk)) (hl _ (memD ha)) (by decide)
     have c2 := c103 (n + 2) (hl _ (memD hb1)) (hl _ (memD ha)) (by decide)
     have w1 : bd 524288 (wy (pt l) a k) := bd_wy (hl _ (memD ha)) (hl _ (memD hk))
     have w2 : bd 524288 (wy (pt l) a b) := bd_wy (hl _ (memD ha)) (hl _ (memD hb1))
     have e1 : (l.getD k V.zero).sub (l.getD a V.zero) = wy (pt l) a k := rfl
     have e2 : (l.getD b V.zero).sub (l.getD a V.zero) = wy (pt l) a b := rfl
     rw [e1] at c1; rw [e2] at c2
     have c3 := c104 (n + 1) (m := m) w2 w1 (by decide)
     have c4 := c101 (n + 3) w1 w1 (by decide)
     have c5 := c101 (n + 3) w2 w2 (by decide)
     have hle := left_eq hm0 (cross_par hb2 hk0)
     rw [hle] at c3
     have hlt : ¬ ((b : Int) < 0) := by omega
     have ll : (l.map encV).length = l.length := List.length_map ..
     refine bind_eq (z := .bool false) (by rw [show encB (some b) = I (b : Int) from rfl, b_lss, decide_eq_false hlt]) (bind_eq (z := false) rfl ?_)
     rw [if_neg (by decide)]
     refine bind_eq (z := l.map encV) rfl (bind_eq (z := k) (by rw [ll]; exact idx_n hk) (bind_eq (getDL hk) ?_))
     refine bind_eq (z := l.map encV) rfl (bind_eq (z := a) (by rw [ll]; exact idx_n ha) (bind_eq (getDL ha) ?_))
     refine bind_eq c1 ?_
     refine bind_eq (z := l.map encV) rfl (bind_eq (z := b) (by rw [ll]; exact idx_n hb1) (bind_eq (getDL hb1) ?_))
     refine bind_eq (z := l.map encV) rfl (bind_eq (z := a) (by rw [ll]; exact idx_n ha) (bind_eq (getDL ha) ?_))
     refine bind_eq c2 (bind_eq (z := encV m) rfl (bind_eq c3 (bind_eq b_lss (bind_eq tr_b ?_))))
     simp only [sg_lt, beq_i, sg_zero, tr_b, Option.bind_some, c4, c5, b_gtr, better, T]
     by_cases t1 : V.dot m (V.cross (wy (pt l) a b) (wy (pt l) a k)) < 0
     . simp [t1, encB]
     . by_cases t2 : V.dot m (V.cross (wy (pt l) a b) (wy (pt l) a k)) = 0
       . by_cases t3 : V.dot (wy (pt l) a b) (wy (pt l) a b) < V.dot (wy (pt l) a k) (wy (pt l) a k)
         . simp [t2, t3, encB]
         . simp [t2, t3, encB]
       . simp [t1, t2, encB]
end Go.Proofs.YtjjjkojfijpeeaaGreat.Sy
end
section
set_option linter.unusedVariables false
namespace Go.Proofs.YtjjjkojfijpeeaaGreat.Sy
open Go Go.Proofs Go.Proofs.YtjjjkojfijpeeaaGreat.Geo
def enumN (L : List Nat) : List D := L.map fun (k : Nat) => I (k : Int)
theorem enumN_len (L : List Nat) : (enumN L).length = L.length := List.length_map ..
theorem enumN_get {L : List Nat} {t k : Nat} (h : L[t]? = some k) : (enumN L)[t]? = some (I (k : Int)) := by simp [enumN, h]
theorem idx_0 {n : Nat} (h : 0 < n) : D.idx (D.int .i64 0) n = some 0 := idx_n (i := 0) h
theorem fold_mem {m : V} {P : Nat -> V} {a : Nat} : ∀ (L : List Nat) (best : Option Nat) (b : Nat), L.foldl (nextStep m P a) best = some b -> b ∈ L \/ best = some b
 | [], best, b, h => .inr h
 | k :: L, best, b, h => by
   rw [List.foldl_cons] at h
   rcases fold_mem L _ b h with h1 | h1
   . exact .inl (List.mem_cons_of_mem _ h1)
   . unfold nextStep at h1
     split at h1
     . exact .inr h1
     . split at h1
       . cases h1; exact .inl List.mem_cons_self
       . split at h1 <;> cases h1
         . exact .inl List.mem_cons_self
         . exact .inr rfl
theorem chain_loop {body : Bd} {S : Nat -> Nat -> Prop} {a : Nat} {G : Nat -> Prop} (hS : ∀ c b, G c -> S c b -> b ≠ a -> G b)
   (hstep : ∀ (c b : Nat) (out : List Nat), G c -> c ≠ a -> S c b -> out.length <= 1000 -> body [.sl (enumN out), I (c : Int)] = some (.inl [.sl (enumN (out ++ [c])), I (b : Int)]))
   (hend : ∀ out : List Nat, body [.sl (enumN out), I (a : Int)] = some (.inr (0, [.sl (enumN out)]))) :
   ∀ {c : Nat} {p : List Nat}, Chain S a c p -> G c -> c ≠ a -> ∀ out : List Nat, (out ++ p).length <= 1000 -> lpW body [.sl (enumN out), I (c : Int)] = some (0, [.sl (enumN (out ++ p))])
 | c, _, .done s, hc, hca, out, hl => by
   have h1 := hstep c a out hc hca s (by simp at hl; omega)
   rw [show lpW body [.sl (enumN out), I (c : Int)] = lpW body [.sl (enumN (out ++ [c])), I (a : Int)] from loopW_next h1]
   exact loopW_end (hend _)
 | c, _, .step (y := y) (l := p) s hy k, hc, hca, out, hl => by
   have h1 := hstep c y out hc hca s (by simp at hl; omega)
   rw [show lpW body [.sl (enumN out), I (c : Int)] = lpW body [.sl (enumN (out ++ [c])), I (y : Int)] from loopW_next h1]
   have := chain_loop hS hstep hend k (hS c y hc s hy) hy (out ++ [c]) (by simpa using hl)
   rw [this]; simp
theorem onPl_succ {P : Nat -> V} {i : Nat} {m : V} {d : Int} : OnPl P (i + 1) m d = if V.dot m (P i) = d then OnPl P i m d ++ [i] else OnPl P i m d := by
 unfold OnPl
 rw [List.range_succ, List.filter_append]
 by_cases h : V.dot m (P i) = d
 . simp [h]
 . simp [h]
theorem p46 (n : Nat) {l : List V} (hl : ∀ x ∈ l, bd MV x) (hlen : l.length <= 100) (hs : ∀ i j, i < j -> j < l.length -> lexlt (pt l i) (pt l j)) {m : V} {d : Int} (hF : IsF (pt l) l.length m d) (hm : bd 549755813888 m) :
   ∃ p, IsPoly (pt l) l.length m d p /\ cA (n + 5) 46 [encL l, encP (m, d)] = some (.sl (enumN p)) := by
 obtain ⟨p, hp, hnd, hmem⟩ := hF.poly hs
 refine ⟨p, hp, ?_⟩
 have F := hF.flat hs
 obtain ⟨a, ha1, ha, hea, hale, h3⟩ := hF.head hs
 obtain ⟨a', ha1', hch⟩ := hp
 rw [ha1] at ha1'; cases ha1'
 obtain ⟨on, hon⟩ : ∃ on, OnPl (pt l) l.length m d = on := ⟨_, rfl⟩
 rw [hon] at F ha1 ha hea hale h3 hch hmem
 have hlt : ∀ k ∈ on, k < l.length := fun k hk => by rw [<- hon] at hk; exact (mem_onPl.1 hk).1
 have hdk : ∀ k ∈ on, V.dot m (pt l k) = d := fun k hk => by rw [<- hon] at hk; exact (mem_onPl.1 hk).2
 have hw : ∀ b ∈ on, ∀ k ∈ on, V.dot m (wy (pt l) b k) = 0 := fun b hb k hk => by rw [dot_wy, hdk b hb, hdk k hk]; omega
 have honl : on.length <= 100 := by
   rw [<- hon]; unfold OnPl
   exact Nat.le_trans (List.length_filter_le _ _) (by rw [List.length_range]; exact hlen)
 have hpl : p.length <= on.length := List.Nodup.length_le_of_subset hnd fun z hz => ((hmem z).1 hz).1
 have ll : (l.map encV).length = l.length := List.length_map ..
 have hcore := fun (c k : Nat) (hc : c ∈ on) (hk : k ∈ on) (best : Option Nat) (hb : ∀ b, best = some b -> b ∈ on) (X : D) => core46 n hl (d := d) hF.nz.1 (hlt c hc) (hlt k hk) (best := best) (fun b e => ⟨hlt b (hb b e), hw c hc b (hb b e)⟩) (hw c hc k hk) X
 have hnx : ∀ c ∈ on, Geo.Ext (pt l) on c -> ∃ b, on.foldl (nextStep m (pt l) c) none = some b /\ Side m (pt l) on c b := fun c hc ec => next_side F hc ec (h3 c hc)
 obtain ⟨t0, hon0⟩ : ∃ t0, on = a :: t0 := by
   cases hx : on with
   | nil => rw [hx] at ha; simp at ha
   | cons y t0 => rw [hx] at ha1; simp at ha1; subst ha1; exact ⟨t0, rfl⟩
 have hget0 : (enumN on)[0]? = some (I (a : Int)) := by rw [hon0]; rfl
 have hpos : 0 < (enumN on).length := by rw [enumN_len, hon0]; simp
 rw [u46]
 unfold F46
 refine bind_eq (z := l.map encV) rfl ?_
 refine lp_for (fun i s => s = [I (i : Int), .sl (enumN (OnPl (pt l) i m d))]) l.length 0 (Nat.zero_le _) rfl (fun i hi s hJ => ?_) (fun s hJ => ?_)
 . subst hJ
   left
   refine ⟨_, ?_, rfl⟩
   refine bind_eq b_lss (bind_eq tr_b ?_)
   refine iteT (by show ((i : Int) < ((l.map encV).length : Int)); rw [ll]; omega) ?_
   refine bind_eq (z := (0, [.sl (enumN (OnPl (pt l) (i + 1) m d))])) ?_ (bind_eq (b_add (inR_nat (i := i) (by omega))) rfl)
   refine bind_eq (z := l.map encV) rfl (bind_eq (z := i) (by rw [ll]; exact idx_n hi) (bind_eq (getDL hi) (bind_eq (z := encV m) rfl (bind_eq (c101 (n + 3) hm (hl _ (memD hi)) (by decide)) (bind_eq (z := I d) rfl ?_)))))
   rw [beq_i]
   refine bind_eq tr_b ?_
   rw [onPl_succ]
   by_cases hd : V.dot m (pt l i) = d
   . have hd' : V.dot m (l.getD i V.zero) = d := hd
     rw [if_pos hd, iteD hd', if_pos ?_]
     . simp [g1, D.els, enumN, g0]
     . have : (OnPl (pt l) i m d).length <= i := by unfold OnPl; exact Nat.le_trans (List.length_filter_le _ _) (by simp)
       simp only [g0, g1, D.els, enumN_len, List.length_cons, List.length_nil]; omega
   . have hd' : ¬ V.dot m (l.getD i V.zero) = d := hd
     rw [if_neg hd, iteN hd']
     rfl
 . subst hJ
   refine ⟨(0, [.sl (enumN on)]), ?_, ?_⟩
   . refine bind_eq b_lss (bind_eq tr_b ?_)
     rw [<- hon]
     exact iteF (by show ¬ ((l.length : Int) < ((l.map encV).length : Int)); rw [ll]; omega) rfl
   refine bind_eq (idx_0 hpos) (bind_eq hget0 (bind_eq (idx_0 hpos) (bind_eq hget0 ?_)))
   obtain ⟨b1, hb1, hs1⟩ := hnx a ha hea
   refine lp_for (fun t s => s = [encB ((on.take t).foldl (nextStep m (pt l) a) none), .sl (enumN on), I (t : Int), .sl (enumN on)]) on.length 0 (Nat.zero_le _) rfl (fun t ht s hJ => ?_) (fun s hJ => ?_)
   . subst hJ
     left
     refine ⟨_, ?_, rfl⟩
     refine bind_eq b_lss (bind_eq tr_b ?_)
     refine iteT (by show ((t : Int) < ((enumN on).length : Int)); rw [enumN_len]; omega) ?_
     have hk : on[t]? = some on[t] := List.getElem?_eq_getElem ht
     refine bind_eq (z := (0, [encB ((on.take (t + 1)).foldl (nextStep m (pt l) a) none), .sl (enumN on)])) ?_ (bind_eq (b_add (inR_nat (i := t) (by omega))) rfl)
     refine bind_eq (z := enumN on) rfl (bind_eq (z := t) (by rw [enumN_len]; exact idx_n ht) (bind_eq (enumN_get hk) ?_))
     rw [List.take_succ_eq_append_getElem ht, List.foldl_append, List.foldl_cons, List.foldl_nil]
     exact hcore a on[t] ha (List.getElem_mem ht) _ (fun b hb => by
       rcases fold_mem _ _ b hb with h | h
       . exact List.mem_of_mem_take h
       . cases h) (.sl (enumN on))
   . subst hJ
     rw [List.take_length, hb1]
     refine ⟨(0, [I (b1 : Int), .sl (enumN on)]), ?_, ?_⟩
     . refine bind_eq b_lss (bind_eq tr_b ?_)
       refine iteF (by show ¬ ((on.length : Int) < ((enumN on).length : Int)); rw [enumN_len]; omega) ?_
       rfl
     obtain ⟨p', hpp, hch', hy⟩ : ∃ p', p = a :: p' /\ Chain (Side m (pt l) on) a b1 p' /\ b1 ≠ a := by
       cases hch with
       | done s => exact absurd rfl s.ne
       | step s hne k =>
         have := Side.unique F ha s hs1
         subst this
         exact ⟨_, rfl, k, hne⟩
     refine lp_val (chain_loop (S := Side m (pt l) on) (a := a) (G := fun c => c ∈ on /\ Geo.Ext (pt l) on c) (fun c b hc s _ => ⟨s.mem, s.ext F hc.1⟩) (fun c b out hc hca hsd hol => ?_) (fun out => ?_) hch' ⟨hs1.mem, hs1.ext F ha⟩ hy [a] ?_) ?_
     . obtain ⟨b', hb', hsb'⟩ := hnx c hc.1 hc.2
       have := Side.unique F hc.1 hsd hsb'
       subst this
       refine bind_eq (z := enumN on) rfl (bind_eq (idx_0 hpos) (bind_eq hget0 ?_))
       have e0 : D.beq (I (c : Int)) (I (a : Int)) = false := by rw [beq_nat]; simp [hca]
       refine bind_eq (z := true) (by show D.truth (D.bool (!(D.beq (I (c : Int)) (I (a : Int))))) = _; rw [e0]; rfl) ?_
       rw [if_pos rfl, if_pos (by simp only [g0, D.els, enumN_len, List.length_cons, List.length_nil]; omega)]
       refine bind_eq (z := enumN on) rfl ?_
       refine lp_forA (fun t s => s = [encB ((on.take t).foldl (nextStep m (pt l) c) none), I (t : Int)]) on.length 0 (Nat.zero_le _) rfl (fun t ht s hJ => ?_) (fun s hJ => ?_)
       . subst hJ
         left
         refine ⟨_, ?_, rfl⟩
         refine bind_eq b_lss (bind_eq tr_b ?_)
         refine iteT (by show ((t : Int) < ((enumN on).length : Int)); rw [enumN_len]; omega) ?_
         have hk : on[t]? = some on[t] := List.getElem?_eq_getElem ht
         refine bind_eq (z := (0, [encB ((on.take (t + 1)).foldl (nextStep m (pt l) c) none), .sl (enumN on)])) ?_ (bind_eq (b_add (inR_nat (i := t) (by omega))) rfl)
         refine bind_eq (z := enumN on) rfl (bind_eq (z := t) (by rw [enumN_len]; exact idx_n ht) (bind_eq (enumN_get hk) ?_))
         rw [List.take_succ_eq_append_getElem ht, List.foldl_append, List.foldl_cons, List.foldl_nil]
         exact hcore c on[t] hc.1 (List.getElem_mem ht) _ (fun b hb => by
           rcases fold_mem _ _ b hb with h | h
           . exact List.mem_of_mem_take h
           . cases h) (.sl (enumN on))
       . subst hJ
         rw [List.take_length, hb']
         refine ⟨(0, [I (b : Int)]), ?_, ?_⟩
         . refine bind_eq b_lss (bind_eq tr_b ?_)
           refine iteF (by show ¬ ((on.length : Int) < ((enumN on).length : Int)); rw [enumN_len]; omega) ?_
           rfl
         . simp [g0, g1, D.els, enumN]
     . refine bind_eq (z := enumN on) rfl (bind_eq (idx_0 hpos) (bind_eq hget0 ?_))
       have e0 : D.beq (I (a : Int)) (I (a : Int)) = true := by rw [beq_nat]; simp
       refine bind_eq (z := false) (by show D.truth (D.bool (!(D.beq (I (a : Int)) (I (a : Int))))) = _; rw [e0]; rfl) ?_
       rfl
     . have : ([a] ++ p').length = p.length := by rw [hpp]; rfl
       omega
     . rw [hpp]; rfl
end Go.Proofs.YtjjjkojfijpeeaaGreat.Sy
end
section
set_option linter.unusedVariables false
namespace Go.Proofs.YtjjjkojfijpeeaaGreat.Sy
open Go Go.Proofs Go.Proofs.YtjjjkojfijpeeaaGreat.Geo
def encF (q : V × Int) (p : List Nat) : D := .st [encV q.1, I q.2, .sl (enumN p)]
def encC (l : List V) : D := .st [encL l]
def Srt (l : List V) : Prop := ∀ i j, i < j -> j < l.length -> lexlt (pt l i) (pt l j)
theorem isF_bd {l : List V} (hl : ∀ x ∈ l, bd MV x) {m : V} {d : Int} (h : IsF (pt l) l.length m d) : bd 549755813888 m := by
 obtain ⟨i, j, k, h1, h2, h3, h4, h5, h6⟩ := h.ex
 have hi := hl _ (memD (show i < l.length by omega))
 have hj := hl _ (memD (show j < l.length by omega))
 have hk := hl _ (memD h3)
 have := bd_prim (bd_cross (bd_wy (P := pt l) hi hj) (bd_wy (P := pt l) hi hk))
 rcases h5 with rfl | rfl
 . exact this
 . exact bd_neg this
theorem p18 (n : Nat) {l : List V} (hl : ∀ x ∈ l, bd MV x) (hlen : l.length <= 100) (hs : Srt l) : ∃ (L : List (V × Int)) (poly : V × Int -> List Nat), Facets (pt l) l.length L /\ (∀ q ∈ L, IsPoly (pt l) l.length q.1 q.2 (poly q)) /\ L.length <= 2000000 ∧
   cA (n + 7) 18 [encC l] = some (.sl (L.map fun q => encF q (poly q))) := by
 obtain ⟨y, h1, K, L, h2, h3, h4, rfl⟩ := p45 n hl hlen
 have hLF := h2.facets h3 h4
 have hLl : L.length <= 2000000 := by rw [h3.length_eq]; exact h2.len hlen
 have hex : ∀ q : V × Int, ∃ p, q ∈ L -> IsPoly (pt l) l.length q.1 q.2 p /\ cA (n + 6) 46 [encL l, encP q] = some (.sl (enumN p)) := fun q => by
   by_cases hq : q ∈ L
   . have hF := (hLF.mem q).1 hq
     obtain ⟨p, k1, k2⟩ := p46 (n + 1) hl hlen hs hF (isF_bd hl hF)
     exact ⟨p, fun _ => ⟨k1, k2⟩⟩
   . exact ⟨[], fun h => absurd h hq⟩
 obtain ⟨poly, hpoly⟩ : ∃ poly : V × Int -> List Nat, ∀ q ∈ L, IsPoly (pt l) l.length q.1 q.2 (poly q) /\ cA (n + 6) 46 [encL l, encP q] = some (.sl (enumN (poly q))) := ⟨fun q => Classical.choose (hex q), fun q hq => Classical.choose_spec (hex q) hq⟩
 refine ⟨L, poly, hLF, fun q hq => (hpoly q hq).1, hLl, ?_⟩
 have hp := fun q (hq : q ∈ L) => (hpoly q hq).2
 rw [u18]
 unfold F18
 refine bind_eq (z := encL l) rfl (bind_eq h1 (bind_eq (z := L.map encP) rfl ?_))
 have ll : (L.map encP).length = L.length := List.length_map ..
 refine lp_for (fun i s => s = [.sl ((L.take i).map fun q => encF q (poly q)), I (i : Int)]) L.length 0 (Nat.zero_le _) rfl (fun i hi s hJ => ?_) (fun s hJ => ?_)
 . subst hJ
   left
   refine ⟨_, ?_, rfl⟩
   refine bind_eq b_lss (bind_eq tr_b (iteT (by show ((i : Int) < ((L.map encP).length : Int)); rw [ll]; omega) ?_))
   have hg : (L.map encP)[i]? = some (encP L[i]) := by simp [hi]
   refine bind_eq (z := L.map encP) rfl (bind_eq (z := i) (by rw [ll]; exact idx_n hi) (bind_eq hg ?_))
   refine bind_eq (z := encV L[i].1) rfl (bind_eq (z := I L[i].2) rfl (bind_eq (z := encL l) rfl (bind_eq (hp L[i] (List.getElem_mem hi)) ?_)))
   rw [if_pos (by simp only [g0, D.els, List.length_map, List.length_take, List.length_cons, List.length_nil]; omega)]
   refine bind_eq (b_add (inR_nat (i := i) (by omega))) ?_
   rw [List.take_succ_eq_append_getElem hi, List.map_append]
   rfl
 . subst hJ
   refine ⟨(0, [.sl ((L.take L.length).map fun q => encF q (poly q))]), ?_, ?_⟩
   . refine bind_eq b_lss (bind_eq tr_b (iteF (by show ¬ ((L.length : Int) < ((L.map encP).length : Int)); rw [ll]; omega) rfl))
   . rw [List.take_length]; rfl
def encE (e : Nat × Nat) : D := .st [I (e.1 : Int), I (e.2 : Int)]
theorem cmp2_lt {a b : Nat × Nat} (h : plt a b) : orZ [cmpZ (a.1 : Int) b.1, cmpZ (a.2 : Int) b.2] = -1 := by
 simp only [plt] at h
 rcases h with h | ⟨h1, h⟩
 . have : (a.1 : Int) < b.1 := by omega
   simp [orZ, cmpZ, this]
 . have e : (a.1 : Int) = b.1 := by omega
   have : (a.2 : Int) < b.2 := by omega
   simp [orZ, cmpZ, e, this]
theorem cmp2_gt {a b : Nat × Nat} (h : plt b a) : orZ [cmpZ (a.1 : Int) b.1, cmpZ (a.2 : Int) b.2] = 1 := by
 simp only [plt] at h
 rcases h with h | ⟨h1, h⟩
 . have : (b.1 : Int) < a.1 := by omega
   simp [orZ, cmpZ, this, Int.not_lt.2 (Int.le_of_lt this)]
 . have e : (a.1 : Int) = b.1 := by omega
   have : (b.2 : Int) < a.2 := by omega
   simp [orZ, cmpZ, e, this, Int.not_lt.2 (Int.le_of_lt this)]
theorem cmpI51 (n : Nat) (p q : Nat × Nat) : cmpI (envOf lpW (cA (n + 3)) (inlP lpW (cA (n + 3)))) 51 (encE p) (encE q) = some (orZ [cmpZ (p.1 : Int) q.1, cmpZ (p.2 : Int) q.2]) := by
 unfold cmpI
 rw [show (envOf lpW (cA (n + 3)) (inlP lpW (cA (n + 3)))).call = cA (n + 3) from rfl, show encE p = .st [I (p.1 : Int), I (p.2 : Int)] from rfl, show encE q = .st [I (q.1 : Int), I (q.2 : Int)] from rfl, c51]
 rfl
theorem chk51 (n : Nat) : ∀ (L : List (Nat × Nat)), L.Pairwise plt -> chkS (envOf lpW (cA (n + 3)) (inlP lpW (cA (n + 3)))) 51 (L.map encE) = true
 | [], _ => rfl
 | p :: L, h => by
   obtain ⟨h1, h2⟩ := List.pairwise_cons.1 h
   simp only [List.map_cons, chkS, Bool.and_eq_true, List.all_eq_true, List.mem_map]
   refine ⟨⟨?_, ?_⟩, chk51 n L h2⟩
   . simp only [geD, cmpI51]; simp [orZ, cmpZ]
   . rintro _ ⟨q, hq, rfl⟩
     simp only [ltD, geD, cmpI51, cmp2_lt (h1 q hq), cmp2_gt (h1 q hq)]; decide
theorem plt_tri {a b : Nat × Nat} (h : a ≠ b) : plt a b \/ plt b a := by
 obtain ⟨a1, a2⟩ := a
 obtain ⟨b1, b2⟩ := b
 simp only [plt]
 by_cases h1 : a1 = b1 <;> by_cases h2 : a2 = b2
 . subst h1; subst h2; exact absurd rfl h
 all_goals omega
theorem sort_exP : ∀ (K : List (Nat × Nat)), K.Nodup -> ∃ L : List (Nat × Nat), L.Perm K /\ L.Pairwise plt
 | [], _ => ⟨[], .refl _, .nil⟩
 | x :: K, h => by
   obtain ⟨h1, h2⟩ := List.nodup_cons.1 h
   obtain ⟨L, p1, p2⟩ := sort_exP K h2
   have ins : ∀ L : List (Nat × Nat), L.Pairwise plt -> (∀ y ∈ L, x ≠ y) -> ∃ M : List (Nat × Nat), M.Perm (x :: L) /\ M.Pairwise plt := by
     intro L
     induction L with
     | nil => intro _ _; exact ⟨[x], .refl _, by simp⟩
     | cons y L ih =>
       intro hp hn
       obtain ⟨q1, q2⟩ := List.pairwise_cons.1 hp
       rcases plt_tri (hn y List.mem_cons_self) with k | k
       . refine ⟨x :: y :: L, .refl _, List.pairwise_cons.2 ⟨fun z hz => ?_, hp⟩⟩
         rcases List.mem_cons.1 hz with rfl | hz
         . exact k
         . have := q1 z hz; simp only [plt] at *; omega
       . obtain ⟨M, m1, m2⟩ := ih q2 (fun z hz => hn z (List.mem_cons_of_mem _ hz))
         refine ⟨y :: M, (m1.cons y).trans (.swap x y L), List.pairwise_cons.2 ⟨fun z hz => ?_, m2⟩⟩
         rcases List.mem_cons.1 (m1.subset hz) with rfl | hz
         . exact k
         . exact q1 z hz
   obtain ⟨M, m1, m2⟩ := ins L p2 (fun y hy e => h1 (p1.subset (e ▸ hy)))
   exact ⟨M, m1.trans (p1.cons x), m2⟩
theorem enumN_getD {p : List Nat} {k : Nat} (h : k < p.length) : (enumN p)[k]? = some (I (p.getD k 0 : Nat)) := by simp [enumN, List.getD, h]
def edgesTo (p : List Nat) (k : Nat) : List (Nat × Nat) := (List.range k).filterMap fun k => if p.getD k 0 < p.getD ((k + 1) % p.length) 0 then some (p.getD k 0, p.getD ((k + 1) % p.length) 0) else none
theorem edgesTo_succ (p : List Nat) (k : Nat) : edgesTo p (k + 1) = if p.getD k 0 < p.getD ((k + 1) % p.length) 0 then edgesTo p k ++ [(p.getD k 0, p.getD ((k + 1) % p.length) 0)] else edgesTo p k := by
 unfold edgesTo
 rw [List.range_succ, List.filterMap_append]
 split
 . rename_i h; simp only [List.filterMap_cons, List.filterMap_nil, if_pos h]
 . rename_i h; simp only [List.filterMap_cons, List.filterMap_nil, if_neg h, List.append_nil]
theorem edgesTo_len (p : List Nat) (k : Nat) : (edgesTo p k).length <= k := by
 unfold edgesTo; exact Nat.le_trans (List.length_filterMap_le _ _) (by simp)
theorem p21 (n : Nat) {l : List V} {L : List (V × Int)} {poly : V × Int -> List Nat} (h18 : cA (n + 7) 18 [encC l] = some (.sl (L.map fun q => encF q (poly q)))) (hL : L.length <= 2000000) (hp : ∀ q ∈ L, (poly q).length <= 100 /\ 0 < (poly q).length)
   (hnd : (upEdges L poly).Nodup) : ∃ E : List (Nat × Nat), E.Perm (upEdges L poly) /\ E.Pairwise plt /\ cA (n + 8) 21 [encC l] = some (.sl (E.map encE)) := by
 obtain ⟨E, e1, e2⟩ := sort_exP _ hnd
 refine ⟨E, e1, e2, ?_⟩
 rw [u21]
 unfold F21
 refine bind_eq h18 (bind_eq (z := L.map fun q => encF q (poly q)) rfl ?_)
 have ll : (L.map fun q => encF q (poly q)).length = L.length := List.length_map ..
 have ub : ∀ i, i <= L.length -> (upEdges (L.take i) poly).length <= i * 100 := fun i hi => by
   induction i with
   | zero => simp [upEdges]
   | succ i ih =>
     have hi' : i < L.length := by omega
     rw [List.take_succ_eq_append_getElem hi', upEdges, List.flatMap_append, List.length_append]
     have h1 := ih (by omega)
     simp only [upEdges] at h1
     have h2 : (edgesOf (poly L[i])).length <= 100 := Nat.le_trans (edgesTo_len (poly L[i]) (poly L[i]).length) (hp _ (List.getElem_mem hi')).1
     simp only [List.flatMap_cons, List.flatMap_nil, List.append_nil]
     omega
 refine lp_for (fun i s => s = [.sl ((upEdges (L.take i) poly).map encE), I (i : Int)]) L.length 0 (Nat.zero_le _) rfl (fun i hi s hJ => ?_) (fun s hJ => ?_)
 . subst hJ
   left
   refine ⟨_, ?_, rfl⟩
   refine bind_eq b_lss (bind_eq tr_b (iteT (by show ((i : Int) < ((L.map fun q => encF q (poly q)).length : Int)); rw [ll]; omega) ?_))
   have hg : (L.map fun q => encF q (poly q))[i]? = some (encF L[i] (poly L[i])) := by simp [hi]
   refine bind_eq (z := L.map fun q => encF q (poly q)) rfl (bind_eq (z := i) (by rw [ll]; exact idx_n hi) (bind_eq hg (bind_eq (z := .sl (enumN (poly L[i]))) rfl (bind_eq (z := enumN (poly L[i])) rfl ?_))))
   obtain ⟨pl1, pl2⟩ := hp L[i] (List.getElem_mem hi)
   have hM := ub i (by omega)
   obtain ⟨M, hMd⟩ : ∃ M, M = upEdges (L.take i) poly := ⟨_, rfl⟩
   rw [<- hMd] at hM ⊢
   have hMn : upEdges (L.take (i + 1)) poly = M ++ edgesTo (poly L[i]) (poly L[i]).length := by
     rw [List.take_succ_eq_append_getElem hi, hMd, upEdges, List.flatMap_append]
     simp [upEdges, edgesOf, edgesTo]
   rw [hMn]
   generalize poly L[i] = p at *
   refine lp_forA (fun k s => s = [.sl ((M ++ edgesTo p k).map encE), I (k : Int)]) p.length 0 (Nat.zero_le _) (by simp [edgesTo, g0, D.els]) (fun k hk s hJ => ?_) (fun s hJ => ?_)
   . subst hJ
     left
     refine ⟨_, ?_, rfl⟩
     refine bind_eq b_lss (bind_eq tr_b (iteT (by show ((k : Int) < ((enumN p).length : Int)); rw [enumN_len]; omega) ?_))
     have hmod : (k + 1) % p.length < p.length := Nat.mod_lt _ pl2
     have hrem : (((k : Int) + 1).tmod (p.length : Int)) = (((k + 1) % p.length : Nat) : Int) := by
       rw [show ((k : Int) + 1) = ((k + 1 : Nat) : Int) by omega]; exact Int.ofNat_tmod ..
     refine bind_eq (z := (0, [.sl ((M ++ edgesTo p (k + 1)).map encE)])) ?_ (bind_eq (b_add (inR_nat (i := k) (by omega))) rfl)
     refine bind_eq (z := enumN p) rfl (bind_eq (z := k) (by rw [enumN_len]; exact idx_n hk) (bind_eq (enumN_getD hk) (bind_eq (z := .sl (enumN p)) rfl (bind_eq (b_add (inR_nat (i := k) (by omega))) (bind_eq (z := .sl (enumN p)) rfl (bind_eq (z := enumN p) rfl ?_))))))
     refine bind_eq (z := I (((k + 1) % p.length : Nat) : Int)) (by rw [show ((enumN p).length : Int) = (p.length : Int) by rw [enumN_len], b_rem (by omega), hrem]) ?_
     refine bind_eq (z := enumN p) rfl (bind_eq (z := (k + 1) % p.length) (by rw [enumN_len]; exact idx_n hmod) (bind_eq (enumN_getD hmod) (bind_eq b_lss (bind_eq tr_b ?_))))
     rw [edgesTo_succ]
     have hel := edgesTo_len p k
     by_cases hab : p.getD k 0 < p.getD ((k + 1) % p.length) 0
     . refine iteT (by show ((p.getD k 0 : Nat) : Int) < ((p.getD ((k + 1) % p.length) 0 : Nat) : Int); omega) ?_
       rw [if_pos hab, if_pos (by simp only [g0, D.els, List.length_map, List.length_append, List.length_cons, List.length_nil]; omega)]
       simp [g0, D.els, encE]
     . refine iteF (by show ¬ ((p.getD k 0 : Nat) : Int) < ((p.getD ((k + 1) % p.length) 0 : Nat) : Int); omega) ?_
       rw [if_neg hab]; rfl
   . subst hJ
     refine ⟨(0, [.sl ((M ++ edgesTo p p.length).map encE)]), ?_, ?_⟩
     . refine bind_eq b_lss (bind_eq tr_b (iteF (by show ¬ ((p.length : Int) < ((enumN p).length : Int)); rw [enumN_len]; omega) rfl))
     . exact bind_eq (b_add (inR_nat (i := i) (by omega))) rfl
 . subst hJ
   refine ⟨(0, [.sl ((upEdges (L.take L.length) poly).map encE)]), ?_, ?_⟩
   . refine bind_eq b_lss (bind_eq tr_b (iteF (by show ¬ ((L.length : Int) < ((L.map fun q => encF q (poly q)).length : Int)); rw [ll]; omega) rfl))
   . have hu := ub L.length (Nat.le_refl _)
     rw [List.take_length] at hu ⊢
     refine bind_eq (z := (upEdges L poly).map encE) ?_ (bind_eq (sortD_of (chk51 (n + 4) E e2) (e1.symm.map _)) rfl)
     exact iteT (by show ((upEdges L poly).map encE).length <= 1073741824; rw [List.length_map]; omega) rfl
end Go.Proofs.YtjjjkojfijpeeaaGreat.Sy
end
section
set_option linter.unusedVariables false
namespace Go.Proofs.YtjjjkojfijpeeaaGreat.Sy
open Go Go.Proofs
def dS (nt : Nat) (lk : List Nat) (f : Nat -> AV) : St := { tm := f, ob := fun _ => none, fresh := 0, dead := [], nt := nt, lkS := lk, lkO := [] }
section
variable {P : Program} {E : Env} {w0 : Root} {S S' : Nat -> Nat -> Prop} {γ : Nat -> Option Nat} {β : Nat -> Option (Nat × Nat)} {s : St} {a : Act} {w w' : World}
theorem mkRp (hS : ∀ b o, S b o -> b < w.heap.size) {nt : Nat} {lk : List Nat} {f : Nat -> AV} (hsz : a.tmps.size = nt) (hdf : a.defers = [])
   (hf : ∀ t, t < nt -> AR ⟨w, S, fun _ => none, fun _ => none, fun _ => none, []⟩ (f t) (a.tmps.getD t undef)) (hu : ∀ t, nt <= t -> f t = .undef) : Rp (rootOf w S) S (fun _ => none) (fun _ => none) (dS nt lk f) a w :=
 ⟨⟨rfl, rfl, rfl, Nat.le_refl _, Nat.le_refl _, fun _ _ => rfl⟩, fun t ht => hf t (by rw [<- hsz]; exact ht), hsz, hu, fun id o b ho => (by cases ho), fun id b hb => (by cases hb), fun id id' b hb => (by cases hb), fun _ _ => rfl, fun v b e _ hb => (by cases hb), fun v v' b e e' _ _ hb => (by cases hb), fun v id b e _ hb => (by cases hb), fun _ _ => rfl, hS, fun b o hb _ => hb, hdf⟩
theorem Rp.slot (h : Rp w0 S γ β s a w) {t : Nat} {x : AV} (hx : s.tm t = x) (hne : x ≠ .undef) : t < a.tmps.size /\ AR ⟨w, S, γ, β, s.ob, s.dead⟩ x (a.tmps.getD t undef) := by
 have ht : t < s.nt := by
   rcases Nat.lt_or_ge t s.nt with k | k
   . exact k
   . rw [h.tmu t k] at hx; exact absurd hx.symm hne
 have := h.tms t (by rw [h.nt]; exact ht)
 rw [hx] at this
 exact ⟨by rw [h.nt]; exact ht, this⟩
theorem AR_leaf {c : Cx} {t : Ty} {x : D} {v : Value} (hc : cmpTy t = true) (hl : leafB x = true) (h : AR c (.d t x) v) : v = valOf x := by
 simp only [AR] at h
 rcases h with ⟨_, _, h1, h2⟩ | ⟨ts, rfl, _⟩
 . have : D.flat x = [x] := by cases x <;> simp only [leafB] at hl <;> first | (cases hl; done) | rfl
   rw [this] at h2
   have h3 := (CRl_leaf (ds := [x]) (by intro d hd; rw [List.mem_singleton.1 hd]; exact hl)).1 h2
   have hs : ∀ cs, v ≠ .agg cs := by
     cases x <;> simp only [leafB] at hl <;> first | (cases hl; done) | exact h1
   exact cells_single hs h3
 . simp [cmpTy] at hc
def sWords (s : St) : List (Nat × Ty) -> Option (List D)
 | [] => some []
 | (t, ty) :: l => match s.tm t with
   | .d ty' x => if ty'.beq ty && leafB x then (sWords s l).bind fun r => some (x :: r) else none
   | _ => none
theorem sWords_inv : ∀ {l : List (Nat × Ty)} {xs : List D}, sWords s l = some xs -> ∀ (i t : Nat) (ty : Ty) (x : D), l[i]? = some (t, ty) -> xs[i]? = some x -> s.tm t = .d ty x /\ leafB x = true
 | [], xs, h, i, t, ty, x, hi, _ => by simp at hi
 | (t0, ty0) :: l, xs, h, i, t, ty, x, hi, hx => by
   simp only [sWords] at h
   split at h <;> first | (cases h; done) | skip
   rename_i ty' x' htm
   split at h <;> first | (cases h; done) | skip
   rename_i hc
   simp only [Bool.and_eq_true] at hc
   have he := Ty.eq_of_beq _ _ hc.1
   subst he
   obtain ⟨r, h1, h2⟩ := bind_some_inv h
   cases h2
   cases i with
   | zero => simp at hi hx; obtain ⟨rfl, rfl⟩ := hi; subst hx; exact ⟨htm, hc.2⟩
   | succ i => exact sWords_inv h1 i t ty x (by simpa using hi) (by simpa using hx)
theorem Rp.word (h : Rp w0 S γ β s a w) {l : List (Nat × Ty)} {xs : List D} (hs : sWords s l = some xs) {i t : Nat} {ty : Ty} {x : D} (hi : l[i]? = some (t, ty)) (hx : xs[i]? = some x) (hc : cmpTy ty = true) : a.tmps.getD t undef = valOf x := by
 obtain ⟨h1, h2⟩ := sWords_inv hs i t ty x hi hx
 exact AR_leaf hc h2 (h.slot h1 (by simp)).2
end
theorem Ext.trans {r : Root} {w w' : World} {S : Nat -> Nat -> Prop} (h : Ext r w) (k : Ext (rootOf w S) w') : Ext r w' :=
 ⟨k.tape.trans h.tape, k.os.trans h.os, k.output.trans h.output, Nat.le_trans h.sz k.sz, Nat.le_trans h.dr k.dr, fun b hb => (k.old b ⟨Nat.lt_of_lt_of_le hb.1 h.sz, fun hf => hf⟩).trans (h.old b hb)⟩
theorem cell_of_ext {w W : World} {S0 S : Nat -> Nat -> Prop} (h : Ext (rootOf w S0) W) (hS : ∀ b o, S b o -> b < w.heap.size) : ∀ b o, S b o -> W.cell? ⟨b, o, none⟩ = w.cell? ⟨b, o, none⟩ := fun b o hb => by
 have := h.old b ⟨hS b o hb, fun hf => hf⟩
 simp only [World.cell?, this]; rfl
abbrev i64 (n : Int) : Value := .int .i64 n
def sIt (e : Ty) (l : List D) (k : Nat) (lk : List Nat) : St := dS 16 lk (fun i => if i = 5 then .d (.sl e) (.sl l) else if i = 6 then .d (.int .i64) (.int .i64 (l.length : Nat)) else if i = 7 then .d (.int .i64) (.int .i64 (k : Nat)) else .undef)
def kW (l : List (Nat × Ty)) (e : Ex) (s : St) : Option D := match e with | .normal => (sWords s l).bind fun r => some (.tup r) | _ => none
def kBox (e : Ty) (x : Ex) (s : St) : Option D := match x with
 | .normal => match s.tm 4 with
   | .ptr t id [] => match s.ob id with
     | some (.one t' (.d t'' y)) => if t.beq e && t'.beq e && t''.beq e then some y else none
     | _ => none
   | _ => none
 | _ => none
theorem kW_inv {l : List (Nat × Ty)} {x : Ex} {s : St} {r : List D} (h : kW l x s = some (.tup r)) : x = .normal /\ sWords s l = some r := by
 unfold kW at h
 split at h <;> first | (cases h; done) | skip
 obtain ⟨r', h1, h2⟩ := bind_some_inv h
 cases h2
 exact ⟨rfl, h1⟩
theorem kBox_inv {e : Ty} {x : Ex} {s : St} {y : D} (h : kBox e x s = some y) : x = .normal /\ ∃ id, s.tm 4 = .ptr e id [] /\ s.ob id = some (.one e (.d e y)) := by
 unfold kBox at h
 split at h <;> first | (cases h; done) | skip
 split at h <;> first | (cases h; done) | skip
 rename_i t id htm
 split at h <;> first | (cases h; done) | skip
 rename_i t' t'' y' hob
 split at h <;> first | (cases h; done) | skip
 rename_i hc
 simp only [Bool.and_eq_true] at hc
 cases h
 have e1 := Ty.eq_of_beq _ _ hc.1.1; have e2 := Ty.eq_of_beq _ _ hc.1.2; have e3 := Ty.eq_of_beq _ _ hc.2
 subst e1; subst e2; subst e3
 exact ⟨rfl, id, htm, hob⟩
theorem getD_put_self {a : Act} {t : Nat} {v : Value} (h : t < a.tmps.size) : (a.put (some t) v).tmps.getD t undef = v := by
 simp [Act.put, Array.getD, h]
theorem getD_put_ne {a : Act} {t u : Nat} {v : Value} (h : u ≠ t) : (a.put (some u) v).tmps.getD t undef = a.tmps.getD t undef := put_slot (fun e => h (by cases e; rfl))
theorem defers_put {a : Act} {d : Option Nat} {v : Value} : (a.put d v).defers = a.defers := by cases d <;> rfl
theorem wrap_small {n : Int} (h1 : 0 <= n) (h2 : n < 9223372036854775807) : IntKind.wrap .i64 n = n := by
 simp only [IntKind.wrap, IntKind.signed, IntKind.bits]
 first
   | omega
   | (simp; omega)
theorem wl_op {P : Program} {ro : Option Nat} {nn : Nat} {ops : Array Oper} {o : Oper} {rest : List Oper} {a : Act} {w : World} {K : Value -> World -> Prop} {Q : Exit -> Act -> World -> Prop} (hg : o.guard = none) (h : OpOk P o a w K)
   (hk : ∀ v w', K v w' -> wpListIn (FW ro) nn P ops Q rest (a.put o.dst v) w') : wpListIn (FW ro) nn P ops Q (o :: rest) a w := by
 simp only [wpListIn, Region.wanted, hg, if_true]
 exact wpIn_of_OpOk h hk
theorem wl_plain {P : Program} {ro : Option Nat} {nn : Nat} {ops : Array Oper} {o : Oper} {rest : List Oper} {a : Act} {w : World} {Q : Exit -> Act -> World -> Prop} (hg : o.guard = none) (h : o.wpIn (FW ro) nn P a w (wpListIn (FW ro) nn P ops Q rest) Q) : wpListIn (FW ro) nn P ops Q (o :: rest) a w := by
 simp only [wpListIn, Region.wanted, hg, if_true]
 exact h
set_option maxHeartbeats 1000000 in
theorem vals_gen {P : Program} {E : Env} (hE : EnvOk P E) {nn : Nat} {e : Ty} (hce : cmpTy e = true) (hne : noTup e = true) {l : List D} (hwt : ∀ x ∈ l, wt e x) (hlen : l.length <= 1073741824) {w : World} {S S0 : Nat -> Nat -> Prop} (hS : ∀ b o, S b o -> b < w.heap.size)
   {f151 L B : Nat} {fn : Func} {sv : Value} (hB : ∀ W, Ext (rootOf w S0) W -> W.cell? ⟨B, 0, none⟩ = some sv) (hsv : CR w S (.sl l) sv) (J : Nat -> World -> Prop) (hJe : ∀ k W, J k W -> Ext (rootOf w S0) W) (hJ : ∀ k W os d, J k W -> W.drawn <= d -> J k (grown W os d))
   (hY : ∀ k x W v, l[k]? = some x -> J k W -> (∀ c : Cx, AR c (.d e x) v) -> YieldAt (FW none) (nn - 1) P L #[v] W fun en W' => en = .returned (.bool true) /\ J (k + 1) W')
   (hfn : P.funcs[f151]? = some fn) {i0 i1 i2 i3 i4 b0 b1 : Nat} {R0 R1 R2 R3 R4 : Array Oper} (hbody : fn.body = some (.seq (.region i0 R0 false) (.block b0 (.loop (.seq (.region i1 R1 false) (.seq (.cond (.tmp 8) .skip (.exit b0)) (.seq (.block b1 (.seq (.region i2 R2 false) (.seq (.region i3 R3 false) (.cond (.tmp 14) .ret .skip)))) (.region i4 R4 false))))))))
   (hnt : fn.ntmps = 16) (hres : fn.results = #[])
   {Ts Te : Nat} (hTs : E.L Ts = some (.sl e)) (hTe : E.L Te = some e) {y1 y11 y12 y13 y14 : TypeId} {p1 p11 p12 p13 p14 : String} {f1 f11 f12 f13 f14 : Array Edge} {rest0 : List Oper} {ats : Array TypeId} {Tb : TypeId}
   (hR0 : R0.toList = ⟨some 5, .load Ts (.tmp 1), y1, p1, f1, none⟩ :: rest0) (hr0 : ∀ x ∈ rest0, x.guard = none)
   (hR3 : R3.toList = [⟨some 11, .move (.tmp 0), y11, p11, f11, none⟩, ⟨some 12, .load Te (.tmp 4), y12, p12, f12, none⟩, ⟨some 13, .call ⟨.value (.tmp 11), #[.tmp 12], ats⟩, y13, p13, f13, none⟩, ⟨some 14, .unOp .not Tb (.tmp 13), y14, p14, f14, none⟩])
   (hv0 : ev E (.region 0 rest0.toArray false) .leaf D (dS 16 [0, 5] (fun i => if i = 5 then .d (.sl e) (.sl l) else .undef)) (kW [(6, .int .i64), (7, .int .i64)]) = some (.tup [.int .i64 (l.length : Nat), .int .i64 0]))
   (hv1 : ∀ k : Nat, ev E (.region i1 R1 false) .leaf D (sIt e l k [0, 5, 6, 7]) (kW [(7, .int .i64), (8, .bool)]) = some (.tup [.int .i64 (k : Nat), .bool (decide ((k : Int) < (l.length : Nat)))]))
   (hv2 : ∀ k : Nat, ev E (.region i2 R2 false) .leaf D (sIt e l k [0, 5, 6, 7]) (kBox e) = (D.idx (.int .i64 (k : Nat)) l.length).bind fun i => l[i]?)
   (hv4 : ∀ k : Nat, ev E (.region i4 R4 false) .leaf D (sIt e l k [0, 5, 6]) (kW [(7, .int .i64)]) = (D.bin .add (.int .i64 (k : Nat)) (.int .i64 1)).bind fun x => some (.tup [x]))
   {W0 : World} (h0 : J 0 W0) : CallsIn (FW none) nn P f151 #[.func (.yield L) #[] #[], .pointer (some ⟨B, 0, none⟩)] W0 fun en W' => (∃ v, en = .returned v) /\ J l.length W' := by
 refine callsIn_of_wp hfn hbody trivial ?_
 generalize ha0 : Act.mk _ _ = a0
 have hsz0 : a0.tmps.size = 16 := by rw [<- ha0]; simp [hnt]
 have e0 : a0.tmps.getD 0 undef = .func (.yield L) #[] #[] := by rw [<- ha0, hnt]; rfl
 have e1 : a0.tmps.getD 1 undef = .pointer (some ⟨B, 0, none⟩) := by rw [<- ha0, hnt]; rfl
 have hd0 : a0.defers = [] := by rw [<- ha0]
 clear ha0
 have hcr : ∀ W, Ext (rootOf w S0) W -> CR W S (.sl l) sv := fun W hW => hsv.mono (cell_of_ext hW hS) fun _ _ hb => hb
 obtain ⟨ad, cap, svb, svo, rfl, _, _, _⟩ := hsv.elems
 have ARsv : ∀ (W : World), Ext (rootOf w S0) W -> AR ⟨W, S, fun _ => none, fun _ => none, fun _ => none, []⟩ (.d (.sl e) (.sl l)) (.slice ad l.length cap) := fun W hW => .inl ⟨by simp only [noTup]; exact hne, ⟨l, rfl, hwt⟩, DR0_sl (hcr W hW)⟩
 have hSW : ∀ (W : World), Ext (rootOf w S0) W -> ∀ b o, S b o -> b < W.heap.size := fun W hW b o hb => Nat.lt_of_lt_of_le (hS b o hb) hW.sz
 have ARint : ∀ (c : Cx) (n : Int), AR c (.d (.int .i64) (.int .i64 n)) (.int .i64 n) := fun c n => .inl ⟨rfl, ⟨n, rfl⟩, fun _ h => (by cases h), (CRl_leaf (ds := [.int .i64 n]) (by intro d hd; rw [List.mem_singleton.1 hd]; rfl)).2 rfl⟩
 have hX0 := hJe 0 W0 h0
 have lay := fun T t h => (hE.lay T t h).resolve_left
 refine wpIn_seq (wpIn_region_list ?_)
 rw [hR0]
 have hls : layB P (.sl e) Ts = true := (hE.lay Ts _ hTs).resolve_left (by rintro ⟨ts, h⟩; cases h)
 obtain ⟨v5, hrun5, hv5⟩ := run_load_ok (P := P) hls (w := W0) (b := B) (off := 0) (cs := [.slice ad l.length cap]) rfl (by intro v hv; rw [List.mem_singleton.1 hv]; rfl) (fun i c hi => by
   cases i with
   | zero => simp at hi; subst hi; exact hB W0 hX0
   | succ i => simp at hi)
 have hv5' : v5 = .slice ad l.length cap := cells_single (hv5.2.2 rfl) hv5.1
 subst hv5'
 refine wl_op (K := fun v w1 => v = .slice ad l.length cap /\ W0 = w1) rfl (OpOk.value (value_op (m := Instr.loadAt Ts (.pointer (some ⟨B, 0, none⟩))) ?_ hrun5) ⟨rfl, rfl⟩) ?_
 . show (Instr.loadAt Ts (a0.eval (.tmp 1)) >>= fun r => pure (Next.value r)) = _
   rw [show a0.eval (.tmp 1) = .pointer (some ⟨B, 0, none⟩) from e1]
 rintro _ _ ⟨rfl, rfl⟩
 obtain ⟨a1, ha1⟩ : ∃ a1, a0.put (some 5) (.slice ad l.length cap) = a1 := ⟨_, rfl⟩
 have q1 : a1.tmps.size = 16 := by rw [<- ha1, size_put]; exact hsz0
 have q2 : a1.tmps.getD 0 undef = .func (.yield L) #[] #[] := by rw [<- ha1, getD_put_ne (by decide)]; exact e0
 have q3 : a1.tmps.getD 5 undef = .slice ad l.length cap := by rw [<- ha1]; exact getD_put_self (by rw [hsz0]; decide)
 have q4 : a1.defers = [] := by rw [<- ha1, defers_put]; exact hd0
 show wpListIn (FW none) nn P R0 _ rest0 (a0.put (some 5) (.slice ad l.length cap)) W0
 rw [ha1]
 clear ha1 e0 e1 hd0 hsz0
 refine wpList_any (ops := rest0.toArray) rest0 _ _ hr0 ?_
 have RA := mkRp (lk := [0, 5]) (f := fun i => if i = 5 then .d (.sl e) (.sl l) else .undef) (hSW _ hX0) q1 q4 (fun t ht => by
   by_cases h5 : t = 5
   . subst h5; rw [if_pos rfl, q3]; exact ARsv _ hX0
   . rw [if_neg h5]; simp only [AR]) (fun t ht => by rw [if_neg (by omega)])
 have key := list_ev (ro := none) (nn := nn) hE (Q := Exit.then ((Code.block b0 (.loop (.seq (.region i1 R1 false) (.seq (.cond (.tmp 8) .skip (.exit b0)) (.seq (.block b1 (.seq (.region i2 R2 false) (.seq (.region i3 R3 false) (.cond (.tmp 14) .ret .skip)))) (.region i4 R4 false)))))).wpIn (FW none) nn P (bodyPost P fn fun en W' => (∃ v, en = .returned v) /\ J l.length W')) (bodyPost P fn fun en W' => (∃ v, en = .returned v) /\ J l.length W')) RA hv0 ?_
 . simpa using key
 clear RA
 intro x s' S' γ' β' a2 w2 g1 g2 g3 g4
 obtain ⟨rfl, g5⟩ := kW_inv g4
 obtain ⟨os, dd, hdd, rfl⟩ := grown_of_ext g1.ext (fun _ hf => hf)
 have hJ2 := hJ 0 _ os dd h0 hdd
 have w6 := g1.word g5 (i := 0) (t := 6) rfl rfl rfl
 have w7 := g1.word g5 (i := 1) (t := 7) rfl rfl rfl
 have w0' : a2.tmps.getD 0 undef = .func (.yield L) #[] #[] := (g2.slots 0 (by simp [dS])).trans q2
 have w5 : a2.tmps.getD 5 undef = .slice ad l.length cap := (g2.slots 5 (by simp [dS])).trans q3
 have hsz2 : a2.tmps.size = 16 := by rw [g1.nt, g3.nt]; rfl
 have hdf2 := g1.df
 clear g1 g2 g3 g4 g5 q1 q2 q3 q4
 show Code.wpIn (FW none) nn P _ _ a2 (grown W0 os dd)
 refine wpIn_block ?_
 refine wp_loop_n (m := l.length) (fun m a W => ∃ k, m + k = l.length /\ J k W /\ a.tmps.size = 16 /\ a.defers = [] /\ a.tmps.getD 0 undef = .func (.yield L) #[] #[] /\ a.tmps.getD 5 undef = .slice ad l.length cap /\ a.tmps.getD 6 undef = .int .i64 (l.length : Nat) /\ a.tmps.getD 7 undef = .int .i64 (k : Nat))
   ⟨0, rfl, hJ2, hsz2, hdf2, w0', w5, w6, w7⟩ ?_
 clear w0' w5 w6 w7 hsz2 hdf2 hJ2 hdd
 rintro m a W ⟨k, hmk, hJk, c1, c2, c3, c4, c5, c6⟩
 have hX := hJe k W hJk
 have mk : ∀ (a : Act) (W : World) (lk : List Nat), Ext (rootOf w S0) W -> a.tmps.size = 16 -> a.defers = [] -> a.tmps.getD 5 undef = .slice ad l.length cap -> a.tmps.getD 6 undef = .int .i64 (l.length : Nat) -> a.tmps.getD 7 undef = .int .i64 (k : Nat) -> Rp (rootOf W S) S (fun _ => none) (fun _ => none) (sIt e l k lk) a W := fun a W lk hX c1 c2 c4 c5 c6 =>
   mkRp (hSW W hX) c1 c2 (fun t ht => by
     by_cases h5 : t = 5
     . subst h5; rw [if_pos rfl, c4]; exact ARsv W hX
     . rw [if_neg h5]
       by_cases h6 : t = 6
       . subst h6; rw [if_pos rfl, c5]; exact ARint _ _
       . rw [if_neg h6]
         by_cases h7 : t = 7
         . subst h7; rw [if_pos rfl, c6]; exact ARint _ _
         . rw [if_neg h7]; simp only [AR]) (fun t ht => by rw [if_neg (by omega), if_neg (by omega), if_neg (by omega)])
 refine wpIn_seq (ev_ok hE _ .leaf D _ _ (mk a W _ hX c1 c2 c4 c5 c6) (hv1 k) fun x s' S' γ' β' a3 w3 g1 g2 g3 g4 => ?_)
 obtain ⟨rfl, g5⟩ := kW_inv g4
 obtain ⟨os3, d3, hd3, rfl⟩ := grown_of_ext g1.ext (fun _ hf => hf)
 have hJ3 := hJ k _ os3 d3 hJk hd3
 have hX3 := hJe k _ hJ3
 have w7 := g1.word g5 (i := 0) (t := 7) rfl rfl rfl
 have w8 := g1.word g5 (i := 1) (t := 8) rfl rfl rfl
 have w0' : a3.tmps.getD 0 undef = .func (.yield L) #[] #[] := (g2.slots 0 (by simp [sIt, dS])).trans c3
 have w5 : a3.tmps.getD 5 undef = .slice ad l.length cap := (g2.slots 5 (by simp [sIt, dS])).trans c4
 have w6 : a3.tmps.getD 6 undef = .int .i64 (l.length : Nat) := (g2.slots 6 (by simp [sIt, dS])).trans c5
 have hsz3 : a3.tmps.size = 16 := by rw [g1.nt, g3.nt]; rfl
 have hdf3 := g1.df
 clear g1 g2 g3 g4 g5
 simp only [exOf, Exit.then]
 by_cases hk : k < l.length
 rotate_left
 . -- nothing is left
   have hkl : k = l.length := by omega
   subst hkl
   refine wpIn_seq (wpIn_cond_false (w8.trans (by rw [decide_eq_false (by omega)]; rfl)) (wpIn_exit ?_))
   simp only [Exit.then, Exit.inBlock, if_true]
   exact ⟨hdf3, _, results_none hres _ _ _, ⟨_, rfl⟩, hJ3⟩
 refine wpIn_seq (wpIn_cond_true (w8.trans (by rw [decide_eq_true (by omega)]; rfl)) (wpIn_skip ?_))
 simp only [Exit.then]
 have hx := List.getElem?_eq_getElem hk
 obtain ⟨x, hxd⟩ : ∃ x, l[k] = x := ⟨_, rfl⟩
 rw [hxd] at hx
 have hv2' : ev E (.region i2 R2 false) .leaf D (sIt e l k [0, 5, 6, 7]) (kBox e) = some x := by
   rw [hv2 k]
   simp only [D.idx]
   rw [if_pos (by omega)]
   simpa using hx
 refine wpIn_seq (wpIn_block (wpIn_seq (ev_ok hE _ .leaf D _ _ (mk a3 _ _ hX3 hsz3 hdf3 w5 w6 w7) hv2' fun y s' S' γ' β' a4 w4 g1 g2 g3 g4 => ?_)))
 obtain ⟨rfl, id, g5, g6⟩ := kBox_inv g4
 obtain ⟨os4, d4, hd4, hw4⟩ := grown_of_ext g1.ext (fun _ hf => hf)
 have hJ4 := hJ k _ os4 d4 hJ3 hd4
 have v0 : a4.tmps.getD 0 undef = .func (.yield L) #[] #[] := (g2.slots 0 (by simp [sIt, dS])).trans w0'
 have v5 : a4.tmps.getD 5 undef = .slice ad l.length cap := (g2.slots 5 (by simp [sIt, dS])).trans w5
 have v6 : a4.tmps.getD 6 undef = .int .i64 (l.length : Nat) := (g2.slots 6 (by simp [sIt, dS])).trans w6
 have hsz4 : a4.tmps.size = 16 := by rw [g1.nt, g3.nt]; rfl
 have v7 : a4.tmps.getD 7 undef = .int .i64 (k : Nat) := (g2.slots 7 (by simp [sIt, dS])).trans w7
 have hnt4 : s'.nt = 16 := by rw [g3.nt]; rfl
 have hlk4 : s'.lkS = [0, 5, 6, 7] := g3.lkS
 have hdf4 := g1.df
 clear g2 g4
 simp only [exOf, Exit.then]
 refine wpIn_seq (wpIn_region_list ?_)
 rw [hR3]
 refine wl_op (K := fun v w1 => v = .func (.yield L) #[] #[] /\ w4 = w1) rfl (OpOk.value (v := a4.eval (.tmp 0)) (w' := w4) rfl ⟨v0, rfl⟩) ?_
 rintro _ _ ⟨rfl, rfl⟩
 have R5 := g1.put (v := .undef) (val := .func (.yield L) #[] #[]) (by simp [AR]) (some 11)
 have pf := St.put_fields s' (some 11) .undef
 have hev : ev1 E (s'.put (some 11) .undef) ⟨some 12, .load Te (.tmp 4), y12, p12, f12, none⟩ some = some ((s'.put (some 11) .undef).put (some 12) (.d e x)) := by
   have t4 : (s'.put (some 11) .undef).tm 4 = .ptr e id [] := (put_tm (by simp)).trans g5
   have hee : e.beq e = true := Ty.beq_refl' e
   simp only [ev1, qv, hTe, Option.bind_some, St.opA, t4, hee, if_true, pf.1, g6, readOb, getA]
 obtain ⟨s5, k1, k2⟩ := ev1_ok hE R5 (o := ⟨some 12, .load Te (.tmp 4), y12, p12, f12, none⟩) (Fr_none rfl) (fun T t h => by rcases h with h | ⟨y, h⟩ <;> cases h) (fun t ht => by rw [pf.2.2.2.2.1, hlk4] at ht; intro h; cases h; simp at ht) (fun T x y h => by cases h) hev
 cases k1
 obtain ⟨_, _, _, _, _, r6⟩ := k2
 refine wl_op rfl r6 ?_
 rintro v w5 ⟨S5, γ5, β5, m1, m2, _⟩
 have hax := (m1.slot (t := 12) (x := .d e x) (put_get (by rw [pf.2.2.2.1, hnt4]; decide)) (by simp)).2
 have hsz5 : (a4.put (some 11) (.func (.yield L) #[] #[])).tmps.size = 16 := by rw [size_put]; exact hsz4
 rw [show ((a4.put (some 11) (.func (.yield L) #[] #[])).put (some 12) v).tmps.getD 12 undef = v from getD_put_self (by rw [hsz5]; decide)] at hax
 have ARx : ∀ c : Cx, AR c (.d e x) v := fun c => by
   simp only [AR] at hax ⊢
   rcases hax with ⟨z1, z2, z3⟩ | ⟨ts, rfl, _⟩
   . exact .inl ⟨z1, z2, DR0_any hce z2 z3⟩
   . simp [cmpTy] at hce
 obtain ⟨os5, d5, hd5, hw5⟩ := grown_of_ext m1.ext (fun _ hf => hf)
 have hJ5 : J k w5 := by rw [hw5]; exact hJ k _ os5 d5 hJ3 hd5
 obtain ⟨a5, ha5⟩ : ∃ a5, (a4.put (some 11) (.func (.yield L) #[] #[])).put (some 12) v = a5 := ⟨_, rfl⟩
 have u11 : a5.tmps.getD 11 undef = .func (.yield L) #[] #[] := by rw [<- ha5, getD_put_ne (by decide)]; exact getD_put_self (by rw [hsz4]; decide)
 have u12 : a5.tmps.getD 12 undef = v := by rw [<- ha5]; exact getD_put_self (by rw [hsz5]; decide)
 have u : ∀ t, t ≠ 11 -> t ≠ 12 -> a5.tmps.getD t undef = a4.tmps.getD t undef := fun t h1 h2 => by rw [<- ha5, getD_put_ne (Ne.symm h2), getD_put_ne (Ne.symm h1)]
 have usz : a5.tmps.size = 16 := by rw [<- ha5, size_put]; exact hsz5
 have udf : a5.defers = [] := by rw [<- ha5, defers_put, defers_put]; exact hdf4
 show wpListIn (FW none) nn P R3 _ _ ((a4.put (some 11) (.func (.yield L) #[] #[])).put (some 12) v) w5
 rw [ha5]
 clear ha5 m1 m2 r6 hev R5 g1 hax
 obtain ⟨fn', tmps', as', bd', hy, hR⟩ := hY k x w5 v hx hJ5 ARx
 refine wl_plain rfl ⟨fun _ _ => trivial, ?_⟩
 have hrun : ((⟨some 13, .call ⟨.value (.tmp 11), #[.tmp 12], ats⟩, y13, p13, f13, none⟩ : Oper).semAt (FW none).round a5.eval).run P w5 = .ok (.round L fn' tmps' as' bd') w5 := by
   have e11 : a5.eval (.tmp 11) = .func (.yield L) #[] #[] := u11
   have e12 : a5.eval (.tmp 12) = v := u12
   show (execOp a5.eval ⟨some 13, .call ⟨.value (.tmp 11), #[.tmp 12], ats⟩, y13, p13, f13, none⟩).run P w5 = _
   simp only [execOp, resolve, e11, e12, List.map_toArray, List.map_cons, List.map_nil]
   simpa [Deferred.ofValue, invoke, go_sem] using hy
 rw [hrun]
 simp only [Oper.uponIn]
 refine ⟨fun h => (by cases h), hR.mono ?_⟩
 rintro en w6 ⟨rfl, hJ6⟩
 have hX6 := hJe _ _ hJ6
 obtain ⟨a6, ha6⟩ : ∃ a6, a5.put (some 13) (.bool true) = a6 := ⟨_, rfl⟩
 have t13 : a6.tmps.getD 13 undef = .bool true := by rw [<- ha6]; exact getD_put_self (by rw [usz]; decide)
 have tt : ∀ t, t ≠ 13 -> a6.tmps.getD t undef = a5.tmps.getD t undef := fun t h => by rw [<- ha6, getD_put_ne (Ne.symm h)]
 have tsz : a6.tmps.size = 16 := by rw [<- ha6, size_put]; exact usz
 have tdf : a6.defers = [] := by rw [<- ha6, defers_put]; exact udf
 show wpListIn (FW none) nn P R3 _ _ (a5.put (some 13) (.bool true)) w6
 rw [ha6]
 have R7 := mkRp (lk := []) (f := fun i => if i = 13 then .d .bool (.bool true) else .undef) (hSW _ hX6) tsz tdf (fun t ht => by
   by_cases h5 : t = 13
   . subst h5; rw [if_pos rfl, t13]; exact .inl ⟨rfl, ⟨true, rfl⟩, fun _ h => (by cases h), (CRl_leaf (ds := [.bool true]) (by intro d hd; rw [List.mem_singleton.1 hd]; rfl)).2 rfl⟩
   . rw [if_neg h5]; simp only [AR]) (fun t ht => by rw [if_neg (by omega)])
 obtain ⟨s7, k1, k2⟩ := ev1_ok hE R7 (o := ⟨some 14, .unOp .not Tb (.tmp 13), y14, p14, f14, none⟩) (Fr_none rfl) (fun T t h => by rcases h with h | ⟨y, h⟩ <;> cases h) (fun t ht => by simp [dS] at ht) (fun T x y h => by cases h) (K := some)
   (r := (dS 16 [] (fun i => if i = 13 then .d .bool (.bool true) else .undef)).put (some 14) (.d .bool (.bool false))) rfl
 cases k1
 obtain ⟨_, _, _, _, _, r7⟩ := k2
 refine wl_op rfl r7 ?_
 rintro v w7 ⟨S7, γ7, β7, m1, m2, _⟩
 have hb := AR_leaf rfl rfl (m1.slot (t := 14) (x := .d .bool (.bool false)) (put_get (by decide)) (by simp)).2
 obtain ⟨os7, d7, hd7, hw7⟩ := grown_of_ext m1.ext (fun _ hf => hf)
 have hJ7 : J (k + 1) w7 := by rw [hw7]; exact hJ _ _ os7 d7 hJ6 hd7
 have hX7 := hJe _ _ hJ7
 obtain ⟨a7, ha7⟩ : ∃ a7, a6.put (some 14) v = a7 := ⟨_, rfl⟩
 have z : ∀ t, t ≠ 14 -> a7.tmps.getD t undef = a6.tmps.getD t undef := fun t h => by rw [<- ha7, getD_put_ne (Ne.symm h)]
 have zsz : a7.tmps.size = 16 := by rw [<- ha7, size_put]; exact tsz
 have zdf : a7.defers = [] := by rw [<- ha7, defers_put]; exact tdf
 show Exit.then _ _ .normal (a6.put (some 14) v) w7
 rw [show (a6.put (some 14) v).tmps.getD 14 undef = a7.tmps.getD 14 undef by rw [ha7]] at hb
 rw [ha7]
 simp only [Exit.then]
 refine wpIn_cond_false hb (wpIn_skip ?_)
 simp only [Exit.inBlock, Exit.then]
 have keep : ∀ t, t ≠ 11 -> t ≠ 12 -> t ≠ 13 -> t ≠ 14 -> a7.tmps.getD t undef = a4.tmps.getD t undef := fun t h1 h2 h3 h4 => (z t h4).trans ((tt t h3).trans (u t h1 h2))
 clear m1 m2 R7 r7 ha7 ha6
 have hv4' : ev E (.region i4 R4 false) .leaf D (sIt e l k [0, 5, 6]) (kW [(7, .int .i64)]) = some (.tup [.int .i64 ((k + 1 : Nat) : Int)]) := by
   rw [hv4 k]
   simp only [D.bin, if_true]
   rw [show IntKind.wrap .i64 ((k : Int) + 1) = ((k + 1 : Nat) : Int) from by rw [show ((k : Int) + 1) = ((k + 1 : Nat) : Int) by omega]; exact wrap_small (by omega) (by omega)]
   rfl
 refine ev_ok hE _ .leaf D _ _ (mk a7 w7 [0, 5, 6] hX7 zsz zdf ((keep 5 (by decide) (by decide) (by decide) (by decide)).trans v5) ((keep 6 (by decide) (by decide) (by decide) (by decide)).trans v6) ((keep 7 (by decide) (by decide) (by decide) (by decide)).trans v7))
   hv4' fun y s' S' γ' β' a8 w8 g1 g2 g3 g4 => ?_
 obtain ⟨rfl, g5⟩ := kW_inv g4
 obtain ⟨os8, d8, hd8, rfl⟩ := grown_of_ext g1.ext (fun _ hf => hf)
 have w7' := g1.word g5 (i := 0) (t := 7) rfl rfl rfl
 simp only [exOf]
 refine ⟨m - 1, by omega, k + 1, by omega, hJ _ _ os8 d8 hJ7 hd8, by rw [g1.nt, g3.nt]; rfl, g1.df, ?_, ?_, ?_, w7'⟩
 . exact (g2.slots 0 (by simp [sIt, dS])).trans ((keep 0 (by decide) (by decide) (by decide) (by decide)).trans v0)
 . exact (g2.slots 5 (by simp [sIt, dS])).trans ((keep 5 (by decide) (by decide) (by decide) (by decide)).trans v5)
 . exact (g2.slots 6 (by simp [sIt, dS])).trans ((keep 6 (by decide) (by decide) (by decide) (by decide)).trans v6)
end Go.Proofs.YtjjjkojfijpeeaaGreat.Sy
end
section
set_option linter.unusedVariables false
namespace Go.Proofs.YtjjjkojfijpeeaaGreat.Sy
open Go Go.Proofs
open Go.ChangeMaps (setBlock)
def freshO (s : St) (e : Ty) (id : Nat) : Option (List D) := match s.ob id with
 | some (.one t X) => if t.beq (.sl e) then (match X with
   | .own e' v l => if e'.beq e && !(s.dead.contains v) then some l else none
   | .nils => some []
   | _ => none) else none
 | _ => none
theorem freshO_inv {s : St} {e : Ty} {id : Nat} {L : List D} (h : freshO s e id = some L) : ∃ X, s.ob id = some (.one (.sl e) X) /\ ((X = .nils /\ L = []) \/ ∃ v, X = .own e v L /\ v ∉ s.dead) := by
 unfold freshO at h
 split at h <;> first | (cases h; done) | skip
 rename_i t X hob
 split at h <;> first | (cases h; done) | skip
 rename_i ht
 have := Ty.eq_of_beq _ _ ht; subst this
 split at h <;> first | (cases h; done) | skip
 . rename_i e' v l
   split at h <;> first | (cases h; done) | skip
   rename_i hb
   simp only [Bool.and_eq_true, Bool.not_eq_true'] at hb
   have := Ty.eq_of_beq _ _ hb.1; subst this
   cases h
   exact ⟨_, hob, .inr ⟨v, rfl, by simpa using hb.2⟩⟩
 . cases h
   exact ⟨_, hob, .inl ⟨rfl, rfl⟩⟩
def γR (L K B : Nat) : Nat -> Option Nat := fun i => if i = 0 then some L else if i = 1 then some K else if i = 2 then some B else none
theorem γR_inv {L K B id b : Nat} (h : γR L K B id = some b) : (id = 0 /\ b = L) \/ (id = 1 /\ b = K) \/ (id = 2 /\ b = B) := by
 unfold γR at h
 split at h
 . rename_i e; cases h; exact .inl ⟨e, rfl⟩
 . split at h
   . rename_i e; cases h; exact .inr (.inl ⟨e, rfl⟩)
   . split at h
     . rename_i e; cases h; exact .inr (.inr ⟨e, rfl⟩)
     . cases h
def σR (nt t : Nat) (e : Ty) (X : AV) : St := { tm := fun i => if i = t then .ptr (.sl e) 2 [] else .undef, ob := fun i => if i = 2 then some (.one (.sl e) X) else none, fresh := 0, dead := [], nt := nt, lkS := [], lkO := [0, 1] }
def plainAV (dead : List Nat) : AV -> Bool
 | .d t _ => cmpTy t
 | .own t v _ => cmpTy t && !(dead.contains v)
 | .ptr .. => true
 | .nils => true
 | .undef => true
 | _ => false
section
variable {P : Program} {E : Env} {r : Root}
theorem CR_shr {w : World} {S : Nat -> Nat -> Prop} {e : Ty} (hce : cmpTy e = true) {l : List D} (hwt : ∀ x ∈ l, wt e x) {ad : Option Addr} {n cap L K : Nat} (h : CR w S (.sl l) (.slice ad n cap)) (hb : ∀ b off, ad = some ⟨b, off, none⟩ -> b ≠ L /\ b ≠ K) :
   CR w (fun b i => S b i /\ b ≠ L /\ b ≠ K) (.sl l) (.slice ad n cap) := by
 obtain ⟨ad', cap', b', off', e1, e2, e3, cs, e4, e5⟩ := h.elems
 cases e1
 by_cases hL : l = []
 . subst hL; exact CR.of_elems (b := 0) (off := 0) (.inl rfl) e3 ⟨[], CRl.nil, by simp⟩
 . have e2 : ad = some ⟨b', off', none⟩ := e2.resolve_left hL
   have hb' := hb _ _ e2
   have lf := leaf_list hce l hwt
   exact CR.of_elems (.inr e2) e3 ⟨cs, (CRl_leaf lf).2 ((CRl_leaf lf).1 e4), fun i c hc => ⟨⟨(e5 i c hc).1, hb'⟩, (e5 i c hc).2⟩⟩
theorem AC_shr {c : Cx} {ob' : Nat -> Option Ob} {L K : Nat} (hβ : ∀ v b e, v ∉ c.dead -> c.β v = some (b, e) -> b ≠ L /\ b ≠ K) (hob : ∀ i o, ob' i = some o -> c.ob i = some o) {a : AV} {cs : List Value} (hp : plainAV c.dead a = true) (h : AC c a cs) :
   AC ⟨c.w, fun b i => c.S b i /\ b ≠ L /\ b ≠ K, c.γ, c.β, ob', c.dead⟩ a cs := by
 cases a <;> simp only [plainAV] at hp <;> first | (cases hp; done) | skip
 case d t x =>
   simp only [AC] at h ⊢
   have lf := leaf_flat t x hp h.1
   exact ⟨h.1, h.2.1, (CRl_leaf lf).2 ((CRl_leaf lf).1 h.2.2)⟩
 case own t v l =>
   simp only [Bool.and_eq_true, Bool.not_eq_true'] at hp
   have hd : v ∉ c.dead := by simpa using hp.2
   simp only [AC] at h ⊢
   obtain ⟨n0, n1, ad, cap, rfl, n4, n5⟩ := h
   refine ⟨n0, n1, ad, cap, rfl, CR_shr hp.1 n1 n4 fun b off hb => ?_, n5⟩
   rcases n5 hd with q | ⟨b', off', q1, q2, q3⟩
   . rw [q.1] at hb; cases hb
   . rw [q1] at hb; cases hb; exact hβ v _ _ hd q2
 case nils => simpa only [AC] using h
 case ptr t id p =>
   simp only [AC] at h ⊢
   obtain ⟨b, off, rfl, k1, k2⟩ := h
   exact ⟨b, off, rfl, k1, fun o ho => k2 o (hob _ _ ho)⟩
 case undef => simp only [AC]
theorem AR_shr {c : Cx} {ob' : Nat -> Option Ob} {L K : Nat} (hβ : ∀ v b e, v ∉ c.dead -> c.β v = some (b, e) -> b ≠ L /\ b ≠ K) (hob : ∀ i o, ob' i = some o -> c.ob i = some o) {a : AV} {v : Value} (hp : plainAV c.dead a = true) (h : AR c a v) :
   AR ⟨c.w, fun b i => c.S b i /\ b ≠ L /\ b ≠ K, c.γ, c.β, ob', c.dead⟩ a v := by
 have hp' := hp
 cases a <;> simp only [plainAV] at hp <;> first | (cases hp; done) | skip
 case d t x =>
   simp only [AR] at h ⊢
   rcases h with ⟨k1, k2, k3⟩ | ⟨ts, rfl, _⟩
   . exact .inl ⟨k1, k2, DR0_any hp k2 k3⟩
   . simp [cmpTy] at hp
 case undef => simp only [AR]
 all_goals
   simp only [AR] at h ⊢
   exact ⟨h.1, AC_shr hβ hob hp' h.2⟩
def St.only (s : St) (ids : List Nat) : St := { s with ob := fun i => if ids.contains i then s.ob i else none }
def plainOb (dead : List Nat) : Option Ob -> Bool
 | some (.one _ X) => plainAV dead X
 | none => true
 | _ => false
def plainSt (s : St) (ids : List Nat) : Bool := (List.range s.nt).all (fun t => plainAV s.dead (s.tm t)) && ids.all fun i => plainOb s.dead (s.ob i)
theorem Rp.shrink {S : Nat -> Nat -> Prop} {γ : Nat -> Option Nat} {β : Nat -> Option (Nat × Nat)} {s : St} {a : Act} {w : World} (h : Rp r S γ β s a w) {L K : Nat} (hβ : ∀ v b e, v ∉ s.dead -> β v = some (b, e) -> b ≠ L /\ b ≠ K) {ids : List Nat} (hp : plainSt s ids = true) :
   Rp r (fun b i => S b i /\ b ≠ L /\ b ≠ K) γ β (s.only ids) a w := by
 simp only [plainSt, Bool.and_eq_true, List.all_eq_true, List.mem_range] at hp
 have hob : ∀ i o, (s.only ids).ob i = some o -> s.ob i = some o /\ i ∈ ids := fun i o ho => by
   simp only [St.only] at ho
   split at ho
   . rename_i hc; exact ⟨ho, by simpa using hc⟩
   . cases ho
 refine ⟨h.ext, fun t ht => AR_shr (c := ⟨w, S, γ, β, s.ob, s.dead⟩) hβ (fun i o ho => (hob i o ho).1) (hp.1 t (by rw [<- h.nt]; exact ht)) (h.tms t ht), h.nt, h.tmu, fun id o b ho hb => ?_, h.γn, h.γi, h.γf, fun v b e hv hb => ⟨(h.βn v b e hv hb).1, (h.βn v b e hv hb).2.1, fun o ho hs => (h.βn v b e hv hb).2.2 o ho hs.1⟩, h.βi, h.βγ, h.βf, fun b o hb => h.Sb b o hb.1, fun b o hb => h.So b o hb.1, h.df⟩
 obtain ⟨h1, h2⟩ := hob id o ho
 have hO := h.obs id o b h1 hb
 have hpo := hp.2 id h2
 rw [h1] at hpo
 cases o <;> simp only [plainOb] at hpo <;> first | (cases hpo; done) | skip
 simp only [ObR] at hO ⊢
 obtain ⟨q1, q2, q3, cs, q4, q5, q6⟩ := hO
 exact ⟨q1, q2, fun o hs => q3 o hs.1, cs, q4, AC_shr (c := ⟨w, S, γ, β, s.ob, s.dead⟩) hβ (fun i o ho => (hob i o ho).1) hpo q5, q6⟩
theorem Rp.stdO {S : Nat -> Nat -> Prop} {γ : Nat -> Option Nat} {β : Nat -> Option (Nat × Nat)} {s : St} {a : Act} {w : World} (h : Rp r S γ β s a w) {L K B id : Nat} (hL : ¬ r.Old L /\ L < w.heap.size) (hK : ¬ r.Old K /\ K < w.heap.size) (hLK : L ≠ K)
   (hβ : ∀ v b e, v ∉ s.dead -> β v = some (b, e) -> b ≠ L /\ b ≠ K) {e : Ty} (hce : cmpTy e = true) (hid : γ id = some B) (hB : B ≠ L /\ B ≠ K) {l : List D} (hv : freshO s e id = some l)
   {aR : Act} {nt t : Nat} (hsz : aR.tmps.size = nt) (ht : t < nt) (hp : aR.tmps.getD t undef = .pointer (some ⟨B, 0, none⟩)) (hdf : aR.defers = []) :
   ∃ β' X, isX e l X /\ Rp r (fun b i => S b i /\ b ≠ L /\ b ≠ K) (γR L K B) β' (σR nt t e X) aR w := by
 obtain ⟨X0, ho, hX0⟩ := freshO_inv hv
 have hO := h.obs id _ B ho hid
 simp only [ObR] at hO
 obtain ⟨q1, q2, q3, cs, q4, q5, q6⟩ := hO
 have hBn := h.γn id B hid
 have γn' : ∀ id b, γR L K B id = some b -> ¬ r.Old b /\ b < w.heap.size := fun id b hb => by
   rcases γR_inv hb with ⟨_, rfl⟩ | ⟨_, rfl⟩ | ⟨_, rfl⟩
   . exact hL
   . exact hK
   . exact hBn
 have γi' : ∀ id id' b, γR L K B id = some b -> γR L K B id' = some b -> id = id' := fun id id' b hb hb' => by
   rcases γR_inv hb with ⟨k1, k2⟩ | ⟨k1, k2⟩ | ⟨k1, k2⟩ <;> rcases γR_inv hb' with ⟨k3, k4⟩ | ⟨k3, k4⟩ | ⟨k3, k4⟩ <;> first
     | omega
     | (exfalso; have := hB.1; have := hB.2; omega)
 have γf' : ∀ id, 0 * 4096 + 4096 <= id -> γR L K B id = none := fun id hid => by
   unfold γR; rw [if_neg (by omega), if_neg (by omega), if_neg (by omega)]
 have tms' : ∀ (β' : Nat -> Option (Nat × Nat)) (X : AV), ∀ t', t' < aR.tmps.size -> AR ⟨w, fun b i => S b i /\ b ≠ L /\ b ≠ K, γR L K B, β', (σR nt t e X).ob, []⟩ ((σR nt t e X).tm t') (aR.tmps.getD t' undef) := fun β' X t' ht' => by
   show AR _ (if t' = t then AV.ptr (.sl e) 2 [] else .undef) _
   by_cases hh : t' = t
   . subst hh
     rw [if_pos rfl, hp]
     simp only [AR, AC]
     refine ⟨fun cs hcs => (by cases hcs), B, 0, rfl, rfl, fun o ho' => ?_⟩
     have : (σR nt t' e X).ob 2 = some (.one (.sl e) X) := rfl
     rw [this] at ho'
     cases ho'
     exact ⟨rfl, rfl⟩
   . rw [if_neg hh]; simp only [AR]
 have tmu' : ∀ X t', nt <= t' -> (σR nt t e X).tm t' = .undef := fun X t' ht' => by
   show (if t' = t then AV.ptr (.sl e) 2 [] else .undef) = _
   rw [if_neg (by omega)]
 have ob' : ∀ X i o, (σR nt t e X).ob i = some o -> i = 2 /\ o = .one (.sl e) X := fun X i o ho' => by
   have : (if i = 2 then some (Ob.one (.sl e) X) else none) = some o := ho'
   split at this
   . rename_i hi; cases this; exact ⟨hi, rfl⟩
   . cases this
 have γ2 : ∀ b, γR L K B 2 = some b -> b = B := fun b hb => by cases hb; rfl
 rcases hX0 with ⟨rfl, rfl⟩ | ⟨v, rfl, hd⟩
 . refine ⟨fun _ => none, .nils, .inl ⟨rfl, rfl⟩, h.ext, tms' _ _, hsz, tmu' _, fun i o b ho' hb => ?_, γn', γi', γf', fun v b e _ hb => (by cases hb), fun v v' b e e' _ _ hb => (by cases hb), fun v id b e _ hb => (by cases hb), fun _ _ => rfl, fun b i hb => h.Sb b i hb.1, fun b i hb => h.So b i hb.1, hdf⟩
   obtain ⟨rfl, rfl⟩ := ob' _ i o ho'
   have := γ2 b hb; subst this
   simp only [ObR]
   exact ⟨q1, q2, fun o hs => q3 o hs.1, cs, q4, by simpa only [AC] using q5, q6⟩
 . simp only [AC] at q5
   obtain ⟨n0, n1, ad, cap, rfl, n4, n5⟩ := q5
   refine ⟨fun i => if i = 5 then β v else none, .own e 5 l, .inr rfl, h.ext, tms' _ _, hsz, tmu' _, fun i o b ho' hb => ?_, γn', γi', γf', fun u b e' _ hb => ?_, fun u u' b e' e'' _ _ hb hb' => ?_, fun u id' b e' _ hb hid' => ?_, fun u hu => ?_, fun b i hb => h.Sb b i hb.1, fun b i hb => h.So b i hb.1, hdf⟩
   . obtain ⟨rfl, rfl⟩ := ob' _ i o ho'
     have := γ2 b hb; subst this
     simp only [ObR]
     refine ⟨q1, q2, fun o hs => q3 o hs.1, _, q4, ?_, q6⟩
     simp only [AC]
     refine ⟨n0, n1, ad, cap, rfl, CR_shr hce n1 n4 fun b' off hb' => ?_, fun _ => ?_⟩
     . rcases n5 hd with q | ⟨b2, off', k1, k2, k3⟩
       . rw [q.1] at hb'; cases hb'
       . rw [k1] at hb'; cases hb'; exact hβ v _ _ hd k2
     . rcases n5 hd with q | ⟨b2, off', k1, k2, k3⟩
       . exact .inl q
       . exact .inr ⟨b2, off', k1, by simpa using k2, k3⟩
   . have hb : (if u = 5 then β v else none) = some (b, e') := hb
     split at hb
     . obtain ⟨k1, k2, k3⟩ := h.βn v b e' hd hb
       exact ⟨k1, k2, fun i hi hs => k3 i hi hs.1⟩
     . cases hb
   . have hb : (if u = 5 then β v else none) = some (b, e') := hb
     have hb' : (if u' = 5 then β v else none) = some (b, e'') := hb'
     split at hb <;> split at hb' <;> first | (cases hb; done) | (cases hb'; done) | omega
   . have hb : (if u = 5 then β v else none) = some (b, e') := hb
     split at hb
     . have := hβ v b e' hd hb
       rcases γR_inv hid' with ⟨_, q⟩ | ⟨_, q⟩ | ⟨_, q⟩
       . exact this.1 q
       . exact this.2 q
       . exact h.βγ v id b e' hd hb (q ▸ hid)
     . cases hb
   . have hu' : 4096 <= u := by simpa [σR, St.base] using hu
     show (if u = 5 then β v else none) = none
     rw [if_neg (by omega)]
def kO (e : Ty) (t : Nat) (x : Ex) (s : St) : Option D := match x with
 | .normal => match s.tm t with
   | .ptr ty id [] => if ty.beq (.sl e) then (freshO s e id).bind fun l => some (.sl l) else none
   | _ => none
 | _ => none
theorem kO_inv {e : Ty} {t : Nat} {x : Ex} {s : St} {l : List D} (h : kO e t x s = some (.sl l)) : x = .normal /\ ∃ id, s.tm t = .ptr (.sl e) id [] /\ freshO s e id = some l := by
 unfold kO at h
 split at h <;> first | (cases h; done) | skip
 split at h <;> first | (cases h; done) | skip
 rename_i ty id htm
 split at h <;> first | (cases h; done) | skip
 rename_i ht
 have := Ty.eq_of_beq _ _ ht; subst this
 obtain ⟨l', h1, h2⟩ := bind_some_inv h
 cases h2
 exact ⟨rfl, id, htm, h1⟩
def kI (e : Ty) (x : Ex) (s : St) : Option D := match x with | .normal => (freshO s e 2).bind fun l => some (.sl l) | _ => none
theorem kI_inv {e : Ty} {x : Ex} {s : St} {l : List D} (h : kI e x s = some (.sl l)) : x = .normal /\ freshO s e 2 = some l := by
 unfold kI at h
 split at h <;> first | (cases h; done) | skip
 obtain ⟨l', h1, h2⟩ := bind_some_inv h
 cases h2
 exact ⟨rfl, h1⟩
def idsR (s : St) (t : Nat) : List Nat := match s.tm t with | .ptr _ id _ => [2, id] | _ => [2]
def ItOk (P : Program) (r : Root) (e : Ty) (l : List D) (g : Nat) (lb : Array Value) : Prop :=
 ∀ (nn L : Nat) (J : Nat -> World -> Prop), (∀ k W, J k W -> Ext r W) -> (∀ k W os d, J k W -> W.drawn <= d -> J k (grown W os d)) ->
   (∀ k x W v, l[k]? = some x -> J k W -> (∀ c : Cx, AR c (.d e x) v) -> YieldAt (FW none) (nn - 1) P L #[v] W fun en W' => en = .returned (.bool true) /\ J (k + 1) W') ->
   ∀ W0, J 0 W0 -> CallsIn (FW none) nn P g (#[.func (.yield L) #[] #[]] ++ lb) W0 fun en W' => (∃ v, en = .returned v) /\ J l.length W'
def OwnRes (r : Root) (e : Ty) (l : List D) (v : Value) (W : World) : Prop :=
 ∃ X S β, isX e l X /\ Rp r S (fun _ => none) β (dS 1 [] (fun i => if i = 0 then X else .undef)) ⟨#[v], []⟩ W
theorem mkRp0 {a : Act} {w : World} (hX : Ext r w) {nt : Nat} {lk : List Nat} {f : Nat -> AV} (hsz : a.tmps.size = nt) (hdf : a.defers = [])
   (hf : ∀ t, t < nt -> AR ⟨w, fun _ _ => False, fun _ => none, fun _ => none, fun _ => none, []⟩ (f t) (a.tmps.getD t undef)) (hu : ∀ t, nt <= t -> f t = .undef) : Rp r (fun _ _ => False) (fun _ => none) (fun _ => none) (dS nt lk f) a w :=
 ⟨hX, fun t ht => hf t (by rw [<- hsz]; exact ht), hsz, hu, fun id o b ho => (by cases ho), fun id b hb => (by cases hb), fun id id' b hb => (by cases hb), fun _ _ => rfl, fun v b e _ hb => (by cases hb), fun v v' b e e' _ _ hb => (by cases hb), fun v id b e _ hb => (by cases hb), fun _ _ => rfl, fun b o hb => hb.elim, fun b o hb _ => hb.elim, hdf⟩
end
end Go.Proofs.YtjjjkojfijpeeaaGreat.Sy
end
section
set_option linter.unusedVariables false
namespace Go.Proofs.YtjjjkojfijpeeaaGreat.Sy
open Go Go.Proofs
open Go.ChangeMaps (setBlock)
open Go.RowKit
section
variable {P : Program} {E : Env} {r : Root}
set_option maxHeartbeats 1000000 in
theorem appendSeq_gen (hE : EnvOk P E) {nn : Nat} {e : Ty} (hce : cmpTy e = true) {l : List D} (hwt : ∀ x ∈ l, wt e x) (hlen : l.length <= 1073741824) {g : Nat} {lb : Array Value} (hIt : ItOk P r e l g lb)
   (eg : ∀ args w, (callFunc g args).run P w = .ok (.enter g args) w)
   {f : Nat} {fn : Func} (hfn : P.funcs[f]? = some fn) {i0 i1 i4 b0 : Nat} {R0 R1 R4 : Array Oper} {asg bdy : Code} (hbody : fn.body = some (.seq (.region i0 R0 false) (.seq (.seq (.region i1 R1 false) (.block b0 (.rangeFunc (.tmp 6) #[7] asg bdy))) (.seq (.region i4 R4 false) .ret))))
   (hnt : fn.ntmps = 13) (hres : fn.results = #[.tmp 4])
   {Ts : Nat} (hTs : E.L Ts = some (.sl e)) {y6 y12 y4 : TypeId} {p6 p12 p4 : String} {f6 f12 f4 : Array Edge}
   (hR1 : R1.toList = [⟨some 6, .move (.tmp 1), y6, p6, f6, none⟩]) (hR4 : R4.toList = [⟨some 12, .load Ts (.tmp 2), y12, p12, f12, none⟩, ⟨some 4, .assign (.tmp 12), y4, p4, f4, none⟩])
   (hv0 : ev E (.region i0 R0 false) .leaf D (dS 13 [1] (fun i => if i = 0 then .nils else .undef)) (kO e 2) = some (.sl []))
   (hround : ∀ X L k, isX e L X -> L.length < 1073741824 -> ev E asg .leaf D ((σR 13 2 e X).put (some 7) (.d e k)) (fun x s' => match x with
     | .normal => if plainSt s' (idsR s' 5) then ev E bdy .leaf D (s'.only (idsR s' 5)) (kI e) else none
     | _ => none) = some (.sl (L ++ [k])))
   {W0 : World} (h0 : Ext r W0) : CallsIn (FW none) nn P f #[.slice none 0 0, .func (.func g) #[] lb] W0 fun en W' => ∃ v, en = .returned v /\ OwnRes r e l v W' := by
 refine callsIn_of_wp_marks hfn hbody trivial ?_
 generalize ha0 : Act.mk _ _ = a0
 have hsz0 : a0.tmps.size = 13 := by rw [<- ha0]; simp [hnt]
 have e0 : a0.tmps.getD 0 undef = .slice none 0 0 := by rw [<- ha0, hnt]; rfl
 have e1 : a0.tmps.getD 1 undef = .func (.func g) #[] lb := by rw [<- ha0, hnt]; rfl
 have hd0 : a0.defers = [] := by rw [<- ha0]
 clear ha0
 have RA := mkRp0 (r := r) (lk := [1]) (f := fun i => if i = 0 then .nils else .undef) h0 hsz0 hd0 (fun t ht => by
   by_cases h5 : t = 0
   . subst h5; rw [if_pos rfl, e0]; simp only [AR, AC]; exact ⟨fun cs h => (by cases h), rfl⟩
   . rw [if_neg h5]; simp only [AR]) (fun t ht => by rw [if_neg (by omega)])
 refine wpIn_seq (ev_ok hE _ .leaf D _ _ RA hv0 fun x s1 S1 γ1 β1 a1 w1 g1 g2 g3 g4 => ?_)
 obtain ⟨rfl, id, htm, hfr⟩ := kO_inv g4
 simp only [exOf, Exit.then]
 have hlt2 := (g1.slot htm (by simp)).1
 have hA := (g1.slot htm (by simp)).2
 simp only [AR, AC] at hA
 obtain ⟨_, B, off, hB1, hγB, hB2⟩ := hA
 have hv2 : a1.tmps.getD 2 undef = .pointer (some ⟨B, off, none⟩) := cells_single (by assumption) hB1
 obtain ⟨X0, hX0, _⟩ := freshO_inv hfr
 have hoff : off = 0 := (hB2 _ hX0).2
 subst hoff
 have hv1 : a1.tmps.getD 1 undef = .func (.func g) #[] lb := (g2.slots 1 (by simp [dS])).trans e1
 have hsz1 : a1.tmps.size = 13 := by rw [g1.nt, g3.nt]; rfl
 refine wpIn_seq (wpIn_seq (wpIn_region_list ?_))
 rw [hR1]
 refine wl_op (K := fun v w' => v = .func (.func g) #[] lb /\ w1 = w') rfl (OpOk.value (v := a1.eval (.tmp 1)) (w' := w1) rfl ⟨hv1, rfl⟩) ?_
 rintro _ _ ⟨rfl, rfl⟩
 obtain ⟨a2, ha2⟩ : ∃ a2, a1.put (some 6) (.func (.func g) #[] lb) = a2 := ⟨_, rfl⟩
 show Exit.then _ _ .normal (a1.put (some 6) (.func (.func g) #[] lb)) w1
 rw [ha2]
 have k6 : a2.eval (.tmp 6) = .func (.func g) #[] lb := by rw [<- ha2]; exact getD_put_self (by rw [hsz1]; decide)
 have k2 : a2.tmps.getD 2 undef = .pointer (some ⟨B, 0, none⟩) := by rw [<- ha2, getD_put_ne (by decide)]; exact hv2
 have ksz : a2.tmps.size = 13 := by rw [<- ha2, size_put]; exact hsz1
 have kdf : a2.defers = [] := by rw [<- ha2, defers_put]; exact g1.df
 clear ha2
 simp only [Exit.then]
 refine wpIn_block (wpIn_rangeFunc ?_)
 intro fid hfid
 obtain ⟨K, hK⟩ : ∃ K, K = w1.heap.size := ⟨_, rfl⟩
 obtain ⟨L, hL⟩ : ∃ L, L = w1.heap.size + 1 := ⟨_, rfl⟩
 obtain ⟨rec, hrec⟩ : ∃ rec : LoopState -> Option Code -> Loop, rec = fun st pe => { state := st, pending := pe, fn := fid, tmps := a2.tmps, params := #[7], assign := asg, body := bdy, defers := K } := ⟨_, rfl⟩
 obtain ⟨W1, hW1⟩ : ∃ W1, (w1.alloc (.deferred (some []))).alloc (.loop (rec .ready none)) = W1 := ⟨_, rfl⟩
 have hgr : W1 = grown w1 [.deferred (some []), .loop (rec .ready none)] w1.drawn := by
   rw [<- hW1]
   unfold grown
   show ({ w1 with heap := (w1.heap.push _).push _ } : World) = _
   congr 1 <;> (apply Array.ext'; simp)
 have hL1 : W1.heap[L]? = some (.loop (rec .ready none)) := by
   rw [<- hW1, hL]; have := World.alloc_heap_new (w1.alloc (.deferred (some []))) (.loop (rec .ready none)); rwa [World.size_alloc] at this
 have hK1 : W1.heap[K]? = some (.deferred (some [])) := by
   rw [<- hW1, hK]; exact (Below.heap_alloc _ _ _ (by simp)).trans (World.alloc_heap_new w1 _)
 have hLK : L ≠ K := by omega
 obtain ⟨aR, haR⟩ : ∃ aR : Act, aR = ⟨a2.tmps, []⟩ := ⟨_, rfl⟩
 have r1 : aR.tmps.size = 13 := by rw [haR]; exact ksz
 have r2 : aR.tmps.getD 2 undef = .pointer (some ⟨B, 0, none⟩) := by rw [haR]; exact k2
 have r3 : aR.defers = [] := by rw [haR]
 obtain ⟨J, hJdef⟩ : ∃ J : Nat -> World -> Prop, J = fun k W => ∃ S1 β1 X, isX e (l.take k) X /\ Rp r S1 (γR L K B) β1 (σR 13 2 e X) aR W /\ (∀ o, ¬ S1 L o) /\ (∀ o, ¬ S1 K o) /\ W.heap[L]? = some (.loop (rec .ready none)) /\ W.heap[K]? = some (.deferred (some [])) := ⟨_, rfl⟩
 have hJ0 : J 0 W1 := by
   have G := (g1.grow (os := [.deferred (some []), .loop (rec .ready none)]) (d := w1.drawn) (Nat.le_refl _) (S' := S1) (fun _ _ hb => hb) (fun _ _ hb => .inl hb)).1
   rw [<- hgr] at G
   have hBn := g1.γn id B hγB
   have hs : w1.heap.size + 1 < W1.heap.size := by rw [hgr]; simp [grown]
   have hold : ∀ b, w1.heap.size <= b -> ¬ r.Old b := fun b hb ho => by have := ho.1; have := g1.ext.sz; omega
   obtain ⟨β', X, hX, hR⟩ := G.stdO (L := L) (K := K) (B := B) (id := id) ⟨hold L (by omega), by omega⟩ ⟨hold K (by omega), by omega⟩ hLK (fun v b e' hd hb => by have := (g1.βn v b e' hd hb).2.1; omega) hce hγB (by have := hBn.2; omega) hfr r1 (t := 2) (by decide) r2 r3
   rw [hJdef]
   exact ⟨_, β', X, by simpa using hX, hR, fun o h => h.2.1 rfl, fun o h => h.2.2 rfl, hL1, hK1⟩
 have hJe : ∀ k W, J k W -> Ext r W := fun k W h => by
   rw [hJdef] at h
   obtain ⟨_, _, _, _, hR, _⟩ := h
   exact hR.ext
 have hJg : ∀ k W os d, J k W -> W.drawn <= d -> J k (grown W os d) := fun k W os d h hd => by
   rw [hJdef] at h ⊢
   obtain ⟨S, β, X, hX, hR, h1, h2, h3, h4⟩ := h
   refine ⟨S, β, X, hX, (hR.grow hd (S' := S) (fun _ _ hb => hb) (fun _ _ hb => .inl hb)).1, h1, h2, ?_, ?_⟩
   . rw [grown_old (Array.getElem?_eq_some_iff.1 h3).1]; exact h3
   . rw [grown_old (Array.getElem?_eq_some_iff.1 h4).1]; exact h4
 clear g1 g2 g3 g4 RA
 refine ⟨L, [{ target := .collected K, args := #[] }], W1, { target := .fn (.func g) lb, args := #[.func (.yield L) #[] #[]] }, W1, g, #[.func (.yield L) #[] #[]] ++ lb, W1, ?_, ?_, fun _ _ => trivial, ?_, fun h => (by cases h), ?_⟩
 . rw [<- hW1, hrec, hL, hK]; exact run_enterLoop_outer _ _ _ _ _
 . simp only [resolve, k6]
   simp [go_sem]
 . simp [invoke, go_sem, eg]
 refine (hIt (nn - 1) L J hJe hJg ?_ W1 hJ0).mono ?_
 . -- one round
   intro k x W v hx hJ hAR
   rw [hJdef] at hJ
   obtain ⟨S, β, X, hX, hR, hSL, hSK, hl, hk⟩ := hJ
   have hkl : k < l.length := (List.getElem?_eq_some_iff.1 hx).1
   have hy := run_yield (P := P) (args := #[v]) hl (by rw [hrec]; rfl)
   rw [hrec] at hy
   refine ⟨fid, _, asg, bdy, hy, roundIn_of_wpIn trivial ?_⟩
   have hact : ({ tmps := ((#[7] : Array Tmp).zip #[v]).foldl (fun tmps (t, a) => tmps.setIfInBounds t a) a2.tmps, defers := [] } : Act) = aR.put (some 7) v := by
     rw [haR]; simp [Act.put]
   show Code.wpIn (FW (some L)) _ P asg _ { tmps := ((#[7] : Array Tmp).zip #[v]).foldl (fun tmps (t, a) => tmps.setIfInBounds t a) a2.tmps, defers := [] } W
   rw [hact]
   have RP := hR.put (v := .d e x) (val := v) (hAR _) (some 7)
   have hlk : ((σR 13 2 e X).put (some 7) (.d e x)).lkO = [0, 1] := (St.put_fields _ _ _).2.2.2.2.2.1
   have hnt7 : ((σR 13 2 e X).put (some 7) (.d e x)).nt = 13 := (St.put_fields _ _ _).2.2.2.1
   refine ev_ok hE asg .leaf D _ _ RP (hround X (l.take k) x hX (by rw [List.length_take]; omega)) fun ex s' S' γ' β' a' w' n1 n2 n3 n4 => ?_
   cases ex with
   | ret => cases n4
   | exit i => cases n4
   | normal =>
   simp only at n4
   split at n4 <;> first | (cases n4; done) | skip
   rename_i hpl
   obtain ⟨m1, m2⟩ := n2.objs 0 (by rw [hlk]; simp) L rfl
   obtain ⟨m3, m4⟩ := n2.objs 1 (by rw [hlk]; simp) K rfl
   have m5 := n2.gam 2 B rfl
   have hl' : w'.heap[L]? = some (.loop (rec .ready none)) := m2.trans hl
   have hk' : w'.heap[K]? = some (.deferred (some [])) := m4.trans hk
   have N1 := n1.shrink (L := L) (K := K) (fun v b e' hd hb => ⟨fun h => n1.βγ v 0 b e' hd hb (h ▸ m1), fun h => n1.βγ v 1 b e' hd hb (h ▸ m3)⟩) hpl
   refine ⟨_, run_beginRound hl' (by rw [hrec]), ?_⟩
   have hob : ∀ i, i ≠ 2 -> (∀ id, (∃ t p, s'.tm 5 = .ptr t id p) -> i ≠ id) -> (s'.only (idsR s' 5)).ob i = none := fun i h1 h2 => by
     simp only [St.only]
     rw [if_neg]
     simp only [idsR]
     split
     . rename_i t id p htm5
       have := h2 id ⟨t, p, htm5⟩
       simp [h1, this]
     . simp [h1]
   have h05 : ∀ id, (∃ t p, s'.tm 5 = .ptr t id p) -> (∃ o, s'.ob id = some o) -> (0 ≠ id /\ 1 ≠ id) \/ True := fun _ _ _ => .inr trivial
   by_cases hob0 : (s'.only (idsR s' 5)).ob 0 = none
   rotate_left
   . -- the loop's block is no object that is known
     exfalso
     cases hq : (s'.only (idsR s' 5)).ob 0 with
     | none => exact hob0 hq
     | some o =>
       have hO := N1.obs 0 o L hq m1
       cases o with
       | one t v => simp only [ObR] at hO; obtain ⟨_, _, _, cs, h4, _⟩ := hO; simp [row?, hl'] at h4
       | many t v => simp only [ObR] at hO; obtain ⟨_, _, _, cs, h4, _⟩ := hO; simp [row?, hl'] at h4
       | mp kt vt v => simp only [ObR] at hO; obtain ⟨_, _, _, es, h4, _⟩ := hO; rw [hl'] at h4; cases h4
   have N2 := N1.setB hob0 m1 (fun o h => h.2.1 rfl) (.loop { rec .ready none with state := .busy })
   have hsL : L < w'.heap.size := (Array.getElem?_eq_some_iff.1 hl').1
   have hput : w'.putObj L (.loop { rec .ready none with state := .busy }) = setBlock w' L (.loop { rec .ready none with state := .busy }) := rfl
   rw [hput]
   have hl2 : (setBlock w' L (.loop { rec .ready none with state := .busy })).heap[L]? = some (.loop { rec .ready none with state := .busy }) := World.putObj_heap_same hsL
   have hk2 : (setBlock w' L (.loop { rec .ready none with state := .busy })).heap[K]? = some (.deferred (some [])) := (World.putObj_heap_other (Ne.symm hLK)).trans hk'
   have hlk' : (s'.only (idsR s' 5)).lkO = [0, 1] := n3.lkO.trans hlk
   have hnt' : (s'.only (idsR s' 5)).nt = 13 := n3.nt.trans hnt7
   refine ev_ok hE bdy .leaf D _ _ N2 n4 fun ex s2 S2 γ2 β2 a3 w3 o1 o2 o3 o4 => ?_
   obtain ⟨rfl, hfr2⟩ := kI_inv o4
   obtain ⟨u1, u2⟩ := o2.objs 0 (by rw [hlk']; simp) L m1
   obtain ⟨u3, u4⟩ := o2.objs 1 (by rw [hlk']; simp) K m3
   have u5 := o2.gam 2 B m5
   have hl3 := u2.trans hl2
   have hk3 := u4.trans hk2
   refine ⟨_, _, run_endRound none hl3, rfl, ?_⟩
   have hBne : B ≠ L /\ B ≠ K := ⟨fun h => by have := o1.γi 2 0 B u5 (h ▸ u1); omega, fun h => by have := o1.γi 2 1 B u5 (h ▸ u3); omega⟩
   obtain ⟨β6, X6, hX6, R6⟩ := o1.stdO (L := L) (K := K) (B := B) (id := 2) (o1.γn 0 L u1) (o1.γn 1 K u3) hLK (fun v b e' hd hb => ⟨fun h => o1.βγ v 0 b e' hd hb (h ▸ u1), fun h => o1.βγ v 1 b e' hd hb (h ▸ u3)⟩) hce u5 hBne hfr2 r1 (t := 2) (by decide) r2 r3
   have R7 := R6.setB (id := 0) (b := L) rfl rfl (fun o h => h.2.1 rfl) (.loop (rec .ready none))
   have hsL3 : L < w3.heap.size := (Array.getElem?_eq_some_iff.1 hl3).1
   have hw : w3.putObj L (.loop { ({ rec .ready none with state := .busy } : Loop) with state := if (none : Option Code).isNone then .ready else .done, pending := none }) = setBlock w3 L (.loop (rec .ready none)) := by
     rw [hrec]; rfl
   rw [hw, hJdef]
   refine ⟨_, β6, X6, ?_, R7, fun o h => h.2.1 rfl, fun o h => h.2.2 rfl, World.putObj_heap_same hsL3, (World.putObj_heap_other (Ne.symm hLK)).trans hk3⟩
   have : l.take k ++ [x] = l.take (k + 1) := by rw [List.take_add_one, hx]; rfl
   rw [<- this]; exact hX6
 . -- behind the loop
   rintro en W2 ⟨⟨v, rfl⟩, hJ⟩
   rw [hJdef] at hJ
   obtain ⟨S, β, X, hX, hR, hSL, hSK, hl, hk⟩ := hJ
   rw [List.take_of_length_le (Nat.le_refl _)] at hX
   refine ⟨none, _, by have := run_endLoop (P := P) hl (by rw [hrec]; simp); rw [hrec] at this; exact this, ?_⟩
   obtain ⟨o3, ho3⟩ : ∃ o3 : Obj, o3 = .loop { ({ state := .ready, pending := none, fn := fid, tmps := a2.tmps, params := #[7], assign := asg, body := bdy, defers := K } : Loop) with state := .exhausted } := ⟨_, rfl⟩
   have hR3 := hR.setB (id := 0) (b := L) rfl rfl hSL o3
   have hk3 : (setBlock W2 L o3).heap[K]? = some (.deferred (some [])) := (World.putObj_heap_other (Ne.symm hLK)).trans hk
   rw [ho3] at hR3 hk3
   show Exit.inBlock _ _ .normal _ (setBlock W2 L _)
   generalize setBlock W2 L _ = W3 at hR3 hk3 ⊢
   have hO := hR3.obs 2 _ B rfl rfl
   simp only [ObR] at hO
   obtain ⟨q1, q2, q3, cs, q4, q5, q6⟩ := hO
   have hval : ∃ sv, cs = [sv] /\ (∀ xs, sv ≠ .agg xs) /\ sv.oneCell' = true /\ AR ⟨W3, S, γR L K B, β, (σR 13 2 e X).ob, []⟩ X sv := by
     rcases hX with ⟨rfl, _⟩ | rfl
     . simp only [AC] at q5
       subst q5
       exact ⟨_, rfl, fun _ h => (by cases h), rfl, by simp only [AR, AC]; exact ⟨fun _ h => (by cases h), rfl⟩⟩
     . have q5' := q5
       simp only [AC] at q5
       obtain ⟨_, _, ad, cap, rfl, _⟩ := q5
       exact ⟨_, rfl, fun _ h => (by cases h), rfl, by simp only [AR]; exact ⟨fun _ h => (by cases h), q5'⟩⟩
   obtain ⟨sv, rfl, hna, hone, hAX⟩ := hval
   have hls : layB P (.sl e) Ts = true := (hE.lay Ts _ hTs).resolve_left (by rintro ⟨ts, h⟩; cases h)
   obtain ⟨v5, hrun5, hv5⟩ := run_load_ok (P := P) hls (w := W3) (b := B) (off := 0) (cs := [sv]) rfl (by intro v hv; rw [List.mem_singleton.1 hv]; exact hone) (fun i c hi => by
     cases i with
     | zero => simp at hi; subst hi; rw [cell_of_row W3 q4]; rfl
     | succ i => simp at hi)
   have hv5' : v5 = sv := cells_single (hv5.2.2 rfl) hv5.1
   subst hv5'
   simp only [Exit.inBlock, Exit.then]
   obtain ⟨a4, ha4⟩ : ∃ a4 : Act, a4 = { a2 with defers := [{ target := .collected K, args := #[] }] ++ a2.defers } := ⟨_, rfl⟩
   rw [<- ha4]
   have t2 : a4.eval (.tmp 2) = .pointer (some ⟨B, 0, none⟩) := by rw [ha4]; exact k2
   have tsz : a4.tmps.size = 13 := by rw [ha4]; exact ksz
   have tdf : a4.defers = [{ target := .collected K, args := #[] }] := by rw [ha4]; show [_] ++ a2.defers = _; rw [kdf]; rfl
   refine wpIn_seq (wpIn_region_list ?_)
   rw [hR4]
   refine wl_op (K := fun v w' => v = v5 /\ W3 = w') rfl (OpOk.value (value_op (m := Instr.loadAt Ts (.pointer (some ⟨B, 0, none⟩))) ?_ hrun5) ⟨rfl, rfl⟩) ?_
   . show (Instr.loadAt Ts (a4.eval (.tmp 2)) >>= fun r => pure (Next.value r)) = _
     rw [t2]
   rintro v5 _ ⟨rfl, rfl⟩
   refine wl_op (K := fun v w' => v = v5 /\ W3 = w') rfl (OpOk.value (v := (a4.put (some 12) v5).eval (.tmp 12)) (w' := W3) rfl ⟨eval_put (by rw [tsz]; decide), rfl⟩) ?_
   rintro v5 _ ⟨rfl, rfl⟩
   show Exit.then _ _ .normal _ W3
   simp only [Exit.then]
   have t4 : ((a4.put (some 12) v5).put (some 4) v5).tmps.getD 4 undef = v5 := getD_put_self (by rw [size_put, tsz]; decide)
   refine wpIn_ret ?_
   show LeavesInM _ _ P fn ((a4.put (some 12) v5).put (some 4) v5).tmps _ ((a4.put (some 12) v5).put (some 4) v5).defers .returning W3
   rw [defers_put, defers_put, tdf]
   refine ⟨by simp, .inl ⟨K, _, rfl, run_takeDeferred hk3, v5, ?_, v5, rfl, ?_⟩⟩
   . exact (results_tmp hres _ _ _).trans (by rw [t4])
   . have hR4 := hR3.setB (id := 1) (b := K) rfl rfl hSK (.deferred none)
     have hle := hR4
     refine ⟨X, S, β, hX, hR4.ext, fun t ht => ?_, rfl, fun t ht => ?_, fun id o b ho => (by cases ho), fun id b hb => (by cases hb), fun id id' b hb => (by cases hb), fun _ _ => rfl, hR4.βn, hR4.βi, fun v id b e _ hb hq => (by cases hq), hR4.βf, hR4.Sb, hR4.So, rfl⟩
     . have ht0 : t = 0 := by have : t < 1 := ht; omega
       subst ht0
       have hO := hR4.obs 2 _ B rfl rfl
       simp only [ObR] at hO
       obtain ⟨_, _, _, cs, z4, z5, _⟩ := hO
       have hBK : B ≠ K := fun h => by
         have := hR4.γi 2 1 B rfl (by rw [h]; rfl)
         omega
       have hrow : row? (setBlock W3 K (.deferred none)) B = row? W3 B := by
         simp only [row?, setBlock]; rw [Array.getElem?_setIfInBounds_ne (Ne.symm hBK)]
       rw [hrow, q4] at z4
       have hcs : cs = [v5] := by
         have := congrArg (Option.map Array.toList) z4
         simpa using this.symm
       subst hcs
       show AR _ X v5
       rcases hX with ⟨rfl, _⟩ | rfl
       . simp only [AR, AC] at hAX ⊢; exact hAX
       . simp only [AR, AC] at hAX z5 ⊢
         refine ⟨hAX.1, ?_⟩
         obtain ⟨z1, z2, ad, cap, z3, z6⟩ := z5
         refine ⟨z1, z2, ad, cap, ?_, z6⟩
         obtain ⟨_, _, ad', cap', z7, _⟩ := hAX.2
         cases z3
         rfl
     . show (if t = 0 then X else .undef) = _
       rw [if_neg (by have : 1 <= t := ht; omega)]
end
end Go.Proofs.YtjjjkojfijpeeaaGreat.Sy
end
section
set_option linter.unusedVariables false
namespace Go.Proofs.YtjjjkojfijpeeaaGreat.Sy
open Go Go.Proofs Go.Sort Go.Lib
section
variable {P : Program} {E : Env} {r : Root}
theorem exec_call {f : Nat} (hf : ∃ fn, P.funcs[f]? = some fn /\ (fn.name == "runtime.NumGoroutine") = false /\ fn.body.isSome = true) (a : Act) (w : World) (d : Option Nat) (args : Array Operand) (ats : Array TypeId) (y : TypeId) (p : String) (fs : Array Edge) :
   (execOp a.eval ⟨d, .call ⟨.value (.func f), args, ats⟩, y, p, fs, none⟩).run P w = .ok (.enter f (args.map a.eval)) w := by
 obtain ⟨fn, f1, f2, f3⟩ := hf
 have hb : ¬ fn.body = none := by intro hh; rw [hh] at f3; cases f3
 have f2' : ¬ fn.name = "runtime.NumGoroutine" := by simpa using f2
 have e2 : a.eval (.func f) = .func (.func f) #[] #[] := rfl
 simp [execOp, resolve, Deferred.ofValue, invoke, callFunc, f1, f2', hb, e2]
theorem call_enter {f : Nat} (hf : ∃ fn, P.funcs[f]? = some fn /\ (fn.name == "runtime.NumGoroutine") = false /\ fn.body.isSome = true) (args : Array Value) (w : World) : (callFunc f args).run P w = .ok (.enter f args) w := by
 obtain ⟨fn, f1, f2, f3⟩ := hf
 have hb : ¬ fn.body = none := by intro hh; rw [hh] at f3; cases f3
 have f2' : ¬ fn.name = "runtime.NumGoroutine" := by simpa using f2
 simp [callFunc, f1, f2', hb]
theorem OwnRes.at {e : Ty} {l : List D} {v : Value} {W : World} (h : OwnRes r e l v W) {a : Act} {nt t : Nat} (hsz : a.tmps.size = nt) (ht : t < nt) (hv : a.tmps.getD t undef = v) (hd : a.defers = []) :
   ∃ X S β, isX e l X /\ Rp r S (fun _ => none) β (dS nt [] (fun i => if i = t then X else .undef)) a W := by
 obtain ⟨X, S, β, hX, h⟩ := h
 refine ⟨X, S, β, hX, h.ext, fun t' ht' => ?_, hsz, fun t' ht' => ?_, fun id o b ho => (by cases ho), h.γn, h.γi, h.γf, h.βn, h.βi, h.βγ, h.βf, h.Sb, h.So, hd⟩
 . show AR _ (if t' = t then X else .undef) _
   by_cases hh : t' = t
   . subst hh
     rw [if_pos rfl, hv]
     exact h.tms 0 Nat.one_pos
   . rw [if_neg hh]; simp only [AR]
 . show (if t' = t then X else .undef) = _
   rw [if_neg (by have : nt <= t' := ht'; omega)]
theorem freshL_of {e : Ty} {l : List D} {X : AV} (hX : isX e l X) (hlen : l.length <= 1073741824) {nt t : Nat} : freshL (dS nt [] (fun i => if i = t then X else .undef)) e t = some l := by
 rcases hX with ⟨rfl, rfl⟩ | rfl
 . simp [freshL, dS]
 . simp [freshL, dS, Ty.beq_refl', hlen]
def kBoxT (e : Ty) (t : Nat) (x : Ex) (s : St) : Option D := match x with
 | .normal => match s.tm t with
   | .ptr t id [] => match s.ob id with
     | some (.one t' (.d t'' y)) => if t.beq e && t'.beq e && t''.beq e then some y else none
     | _ => none
   | _ => none
 | _ => none
theorem kBoxT_inv {e : Ty} {t : Nat} {x : Ex} {s : St} {y : D} (h : kBoxT e t x s = some y) : x = .normal /\ ∃ id, s.tm t = .ptr e id [] /\ s.ob id = some (.one e (.d e y)) := by
 unfold kBoxT at h
 split at h <;> first | (cases h; done) | skip
 split at h <;> first | (cases h; done) | skip
 rename_i t id htm
 split at h <;> first | (cases h; done) | skip
 rename_i t' t'' y' hob
 split at h <;> first | (cases h; done) | skip
 rename_i hc
 simp only [Bool.and_eq_true] at hc
 cases h
 have e1 := Ty.eq_of_beq _ _ hc.1.1; have e2 := Ty.eq_of_beq _ _ hc.1.2; have e3 := Ty.eq_of_beq _ _ hc.2
 subst e1; subst e2; subst e3
 exact ⟨rfl, id, htm, hob⟩
end
end Go.Proofs.YtjjjkojfijpeeaaGreat.Sy
end
section
set_option linter.unusedVariables false
namespace Go.Proofs.YtjjjkojfijpeeaaGreat.Sy
open Go Go.Proofs Go.Sort Go.Lib
section
variable {r : Root} {lp : Lp} {call : Nat -> List D -> Option D}
noncomputable abbrev envQ (lp : Lp) (call : Nat -> List D -> Option D) : Env := envOf lp call (inlP lp call)
theorem fn149 : ∃ fn, Tryz.prog.funcs[149]? = some fn /\ (fn.name == "runtime.NumGoroutine") = false /\ fn.body.isSome = true := fnOf (by kernel_rfl)
theorem fn176 : ∃ fn, Tryz.prog.funcs[176]? = some fn /\ (fn.name == "runtime.NumGoroutine") = false /\ fn.body.isSome = true := fnOf (by kernel_rfl)
theorem fn92 : ∃ fn, Tryz.prog.funcs[92]? = some fn /\ (fn.name == "runtime.NumGoroutine") = false /\ fn.body.isSome = true := fnOf (by kernel_rfl)
theorem fn93 : ∃ fn, Tryz.prog.funcs[93]? = some fn /\ (fn.name == "runtime.NumGoroutine") = false /\ fn.body.isSome = true := fnOf (by kernel_rfl)
theorem fn151 : ∃ fn, Tryz.prog.funcs[151]? = some fn /\ (fn.name == "runtime.NumGoroutine") = false /\ fn.body.isSome = true := fnOf (by kernel_rfl)
noncomputable def asg176 : Code := match bodyOf Tryz.f176 with | .seq _ (.seq (.seq _ (.block _ (.rangeFunc _ _ a _))) _) => a | c => c
noncomputable def bdy176 : Code := match bodyOf Tryz.f176 with | .seq _ (.seq (.seq _ (.block _ (.rangeFunc _ _ _ b))) _) => b | c => c
theorem round176 : ∀ X L k, isX K1 L X -> L.length < 1073741824 -> ev (envQ lp call) asg176 .leaf D ((σR 13 2 K1 X).put (some 7) (.d K1 k)) (fun x s' => match x with
     | .normal => if plainSt s' (idsR s' 5) then ev (envQ lp call) bdy176 .leaf D (s'.only (idsR s' 5)) (kI K1) else none
     | _ => none) = some (.sl (L ++ [k])) := by
 intro X L k hX hL
 rcases hX with ⟨rfl, rfl⟩ | rfl
 . kernel_rfl
 . have key : ev (envQ lp call) asg176 .leaf D ((σR 13 2 K1 (.own K1 5 L)).put (some 7) (.d K1 k)) (fun x s' => match x with
     | .normal => if plainSt s' (idsR s' 5) then ev (envQ lp call) bdy176 .leaf D (s'.only (idsR s' 5)) (kI K1) else none
     | _ => none) = (if List.length L + List.length [k] <= 1073741824 then some (.sl (L ++ [k])) else none) := by kernel_rfl
   rw [key, if_pos (by simp; omega)]
theorem ev176 : ev (envQ lp call) (sq1 (bodyOf Tryz.f176)) .leaf D (dS 13 [1] (fun i => if i = 0 then .nils else .undef)) (kO K1 2) = some (.sl []) := by kernel_rfl
theorem appendSeq176 (hE : EnvOk Tryz.prog (envQ lp call)) {nn : Nat} {l : List D} (hwt : ∀ x ∈ l, wt K1 x) (hlen : l.length <= 1073741824) {lb : Array Value} (hIt : ItOk Tryz.prog r K1 l 151 lb) {W0 : World} (h0 : Ext r W0) :
   CallsIn (FW none) nn Tryz.prog 176 #[.slice none 0 0, .func (.func 151) #[] lb] W0 fun en W' => ∃ v, en = .returned v /\ OwnRes r K1 l v W' :=
 appendSeq_gen hE rfl hwt hlen hIt (call_enter fn151) (fn := Tryz.f176) (by kernel_rfl) rfl rfl rfl (Ts := 22) (by kernel_rfl) rfl rfl ev176 round176 h0
end
end Go.Proofs.YtjjjkojfijpeeaaGreat.Sy
end
