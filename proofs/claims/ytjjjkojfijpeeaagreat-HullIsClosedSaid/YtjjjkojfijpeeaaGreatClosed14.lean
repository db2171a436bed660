/- HullIsClosed answers true at every input, and the input reads afterwards as it read before (HullIsClosedSaid). No condition. -/
import Derived.Test.YtjjjkojfijpeeaaGreatClosed02
import Derived.Test.YtjjjkojfijpeeaaGreatClosed10
import Derived.Test.YtjjjkojfijpeeaaGreatClosed12
import Derived.Test.YtjjjkojfijpeeaaGreatClosed13
import Derived.Test.YtjjjkojfijpeeaaGreatRows
import Derived.ProofKit
set_option linter.unusedVariables false
set_option linter.unusedSimpArgs false
set_option linter.unnecessarySimpa false
section
set_option linter.unusedVariables false
namespace Go.Proofs.YtjjjkojfijpeeaaGreat.Sy
open Go Go.Proofs Go.Proofs.YtjjjkojfijpeeaaGreat.Geo
theorem mapV_len (l : List V) : (l.map encV).length = l.length := List.length_map ..
theorem c13 (n : Nat) (a b : List V) (ha : a.length <= 1000000) : cA (n + 1) 13 [encL a, encL b] = some (.bool (decide (a = b))) := by
 rw [u13]
 unfold F13
 refine bind_eq (z := a.map encV) rfl (bind_eq (z := b.map encV) rfl ?_)
 rw [mapV_len, mapV_len, beq_nat]
 by_cases hab : a.length = b.length
 . rw [decide_eq_true hab]
   refine bind_eq (z := false) rfl ?_
   rw [if_neg (by decide)]
   refine lp_for (fun i s => s = [I (i : Int)] /\ a.take i = b.take i) a.length 0 (Nat.zero_le _) ⟨rfl, by simp⟩ (fun i hi s hJ => ?_) (fun s hJ => ?_)
   . obtain ⟨rfl, hz⟩ := hJ
     have hib : i < b.length := by omega
     have pre : ∀ z, (Option.bind (D.truth (D.bool (!(D.beq (encV (a.getD i V.zero)) (encV (b.getD i V.zero)))))) fun b14 =>
         if b14 then (some (Sum.inr (0, [(D.bool false)]))) else (Option.bind (D.bin .add (I (i : Int)) (D.int .i64 1)) fun x15 => some (Sum.inl [x15]))) = some z ->
         (Option.bind (D.asSl (encL a)) fun l5 => Option.bind (D.bin .lss (I (i : Int)) (D.int .i64 (List.length l5))) fun x6 => Option.bind (D.truth x6) fun b7 =>
         if b7 then (Option.bind (D.asSl (encL a)) fun l8 => Option.bind (D.idx (I (i : Int)) (List.length l8)) fun i9 => Option.bind (l8[i9]?) fun x10 => Option.bind (D.asSl (encL b)) fun l11 => Option.bind (D.idx (I (i : Int)) (List.length l11)) fun i12 => Option.bind (l11[i12]?) fun x13 =>
         Option.bind (D.truth (D.bool (!(D.beq x10 x13)))) fun b14 =>
         if b14 then (some (Sum.inr (0, [(D.bool false)]))) else (Option.bind (D.bin .add (I (i : Int)) (D.int .i64 1)) fun x15 => some (Sum.inl [x15]))) else (some (Sum.inr (1, []) : Sum (List D) (Nat × List D)))) = some z := fun z hz =>
       bind_eq (z := a.map encV) rfl (bind_eq b_lss (bind_eq tr_b (iteT (by show ((i : Int) < ((a.map encV).length : Int)); rw [mapV_len]; omega) (bind_eq (z := a.map encV) rfl (bind_eq (z := i) (by rw [mapV_len]; exact idx_n hi) (bind_eq (getDL hi) (bind_eq (z := b.map encV) rfl (bind_eq (z := i) (by rw [mapV_len]; exact idx_n hib) (bind_eq (getDL hib) hz)))))))))
     rw [beq_V] at pre
     by_cases he : a.getD i V.zero = b.getD i V.zero
     . left
       refine ⟨[I ((i + 1 : Nat) : Int)], pre _ ?_, rfl, ?_⟩
       . rw [decide_eq_true he]
         refine bind_eq (z := false) rfl ?_
         rw [if_neg (by decide)]
         exact bind_eq (b_add (inR_nat (i := i) (by omega))) rfl
       . rw [List.take_succ_eq_append_getElem hi, List.take_succ_eq_append_getElem hib, hz]
         simp only [List.getD, hi, hib, List.getElem?_eq_getElem, Option.getD_some] at he
         rw [he]
     . right
       refine ⟨(0, [.bool false]), pre _ ?_, ?_⟩
       . rw [decide_eq_false he]; rfl
       . rw [decide_eq_false (fun e => he (by rw [e]))]; rfl
   . obtain ⟨rfl, hz⟩ := hJ
     refine ⟨(1, []), ?_, ?_⟩
     . exact bind_eq (z := a.map encV) rfl (bind_eq b_lss (bind_eq tr_b (iteF (by show ¬ ((a.length : Int) < ((a.map encV).length : Int)); rw [mapV_len]; omega) rfl)))
     . rw [List.take_length, hab, List.take_length] at hz
       rw [decide_eq_true hz]; rfl
 . rw [decide_eq_false hab, decide_eq_false (fun e => hab (by rw [e]))]
   rfl
instance decBd (k : Int) (v : V) : Decidable (bd k v) := by unfold bd; exact inferInstance
def cmpn (v : V) : Nat -> Int
 | 0 => v.x
 | 1 => v.y
 | _ => v.z
theorem fld_cmpn (v : V) {t : Nat} (h : t < 3) : D.fld (encV v) t = some (I (cmpn v t)) := by
 have : t = 0 \/ t = 1 \/ t = 2 := by omega
 rcases this with rfl | rfl | rfl <;> rfl
theorem bd_cmpn {v : V} : bd MV v ↔ ∀ t, t < 3 -> ¬ (cmpn v t > 262144) /\ ¬ (cmpn v t < -262144) := by
 constructor
 . intro h t ht
   have : t = 0 \/ t = 1 \/ t = 2 := by omega
   simp only [bd, MV] at h
   rcases this with rfl | rfl | rfl <;> simp only [cmpn] <;> omega
 . intro h
   have h0 := h 0 (by decide); have h1 := h 1 (by decide); have h2 := h 2 (by decide)
   simp only [cmpn] at h0 h1 h2
   simp only [bd, MV]; omega
def inFac (F : FL) (i : Nat) : Bool := F.any fun f => f.2.any fun x => decide (x = i)
def verts (S : List V) (F : FL) (k : Nat) : List V := ((List.range k).filter (inFac F)).map (pt S)
theorem verts_succ (S : List V) (F : FL) (k : Nat) : verts S F (k + 1) = if inFac F k then verts S F k ++ [pt S k] else verts S F k := by
 unfold verts
 rw [List.range_succ, List.filter_append]
 by_cases h : inFac F k = true <;> simp [h]
theorem verts_len (S : List V) (F : FL) (k : Nat) : (verts S F k).length <= k := by
 unfold verts; rw [List.length_map]; exact Nat.le_trans (List.length_filter_le _ _) (by simp)
def errH (e : Int) : D := .st [.st [.sl []], I e]
def hullD (S : List V) (F : FL) : D := if F.length = 0 then errH 120 else if F.length > 64 then errH 2 else .st [.st [encL (verts S F S.length)], I 0]
theorem c12_big (n : Nat) {l : List V} (h : 64 < l.length) : cA (n + 1) 12 [encL l] = some (errH 2) := by
 rw [u12]
 unfold F12
 exact bind_eq (z := l.map encV) rfl (bind_eq b_gtr (bind_eq tr_b (iteT (by show ((l.map encV).length : Int) > 64; rw [mapV_len]; omega) rfl)))
theorem in12 {l : List V} {i : Nat} (hi : i < l.length) {α : Type} {k : Nat × List D -> Option α} {y : α} (hy : k (if bd MV (l.getD i V.zero) then (1, [.sl [], I 0]) else (0, [.sl [], I 1])) = some y) :
   Option.bind (lpW (fun (v8 : List D) =>
 Option.bind (D.bin .lss (List.getD v8 0 (D.bool false)) (D.int .i64 3)) fun x9 =>
 Option.bind (D.truth x9) fun b10 =>
 if b10 then (Option.bind (D.asSl (encL l)) fun l11 =>
 Option.bind (D.idx (I (i : Int)) (List.length l11)) fun i12 =>
 Option.bind (l11[i12]?) fun x13 =>
 Option.bind (D.idx (List.getD v8 0 (D.bool false)) 3) fun i14 =>
 Option.bind (D.fld x13 i14) fun x15 =>
 Option.bind (D.bin .gtr x15 (D.int .i64 262144)) fun x16 =>
 Option.bind (D.truth x16) fun b17 =>
 Option.bind (if b17 then (some true) else (Option.bind (D.asSl (encL l)) fun l18 =>
 Option.bind (D.idx (I (i : Int)) (List.length l18)) fun i19 =>
 Option.bind (l18[i19]?) fun x20 =>
 Option.bind (D.idx (List.getD v8 0 (D.bool false)) 3) fun i21 =>
 Option.bind (D.fld x20 i21) fun x22 =>
 Option.bind (D.bin .lss x22 (D.int .i64 (-262144))) fun x23 =>
 D.truth x23)) fun b24 =>
 Option.bind (D.truth (D.bool b24)) fun b25 =>
 if b25 then (some (Sum.inr (0, [(D.sl []), (D.int .i64 1)]))) else (Option.bind (D.bin .add (List.getD v8 0 (D.bool false)) (D.int .i64 1)) fun x26 =>
 some (Sum.inl [x26, (D.sl (D.els (List.getD v8 1 (D.bool false)))), (List.getD v8 2 (D.bool false))]))) else (some (Sum.inr (1, [(D.sl (D.els (List.getD v8 1 (D.bool false)))), (List.getD v8 2 (D.bool false))])))) [(D.int .i64 0), .sl [], I 0]) k = some y := by
 refine lp_forA (fun t s => s = [I (t : Int), .sl [], I 0] /\ ∀ t', t' < t -> ¬ (cmpn (l.getD i V.zero) t' > 262144) /\ ¬ (cmpn (l.getD i V.zero) t' < -262144)) 3 0 (by decide) ⟨rfl, fun t' h => by omega⟩ (fun t ht s hJ => ?_) (fun s hJ => ?_)
 . obtain ⟨rfl, hz⟩ := hJ
   have hf := fld_cmpn (l.getD i V.zero) ht
   have ix : D.idx (I (t : Int)) 3 = some t := idx_n ht
   have pre : ∀ z, (if decide (cmpn (l.getD i V.zero) t > 262144 \/ cmpn (l.getD i V.zero) t < -262144) = true then (some (Sum.inr (0, [(D.sl []), (D.int .i64 1)]))) else (Option.bind (D.bin .add (I (t : Int)) (D.int .i64 1)) fun x26 => some (Sum.inl [x26, .sl [], I 0]))) = some z -> _ := fun (z : Sum (List D) (Nat × List D)) hz' =>
     bind_eq (g := fun x9 => Option.bind (D.truth x9) fun b10 => if b10 then (Option.bind (D.asSl (encL l)) fun l11 => Option.bind (D.idx (I (i : Int)) (List.length l11)) fun i12 => Option.bind (l11[i12]?) fun x13 => Option.bind (D.idx (I (t : Int)) 3) fun i14 => Option.bind (D.fld x13 i14) fun x15 => Option.bind (D.bin .gtr x15 (D.int .i64 262144)) fun x16 => Option.bind (D.truth x16) fun b17 =>
       Option.bind (if b17 then (some true) else (Option.bind (D.asSl (encL l)) fun l18 => Option.bind (D.idx (I (i : Int)) (List.length l18)) fun i19 => Option.bind (l18[i19]?) fun x20 => Option.bind (D.idx (I (t : Int)) 3) fun i21 => Option.bind (D.fld x20 i21) fun x22 => Option.bind (D.bin .lss x22 (D.int .i64 (-262144))) fun x23 => D.truth x23)) fun b24 =>
       Option.bind (D.truth (D.bool b24)) fun b25 =>
       if b25 then (some (Sum.inr (0, [(D.sl []), (D.int .i64 1)]))) else (Option.bind (D.bin .add (I (t : Int)) (D.int .i64 1)) fun x26 => some (Sum.inl [x26, .sl [], I 0]))) else (some (Sum.inr (1, [.sl [], I 0]))))
       (b_lss (a := (t : Int)) (b := 3)) (y := z) (bind_eq tr_b (iteT (by omega) (bind_eq (z := l.map encV) rfl (bind_eq (z := i) (by rw [mapV_len]; exact idx_n hi) (bind_eq (getDL hi) (bind_eq ix (bind_eq hf (bind_eq b_gtr (bind_eq tr_b (bind_eq (z := decide (cmpn (l.getD i V.zero) t > 262144 \/ cmpn (l.getD i V.zero) t < -262144)) (by
         by_cases h1 : cmpn (l.getD i V.zero) t > 262144
         . refine iteT h1 ?_
           rw [decide_eq_true (.inl h1)]
         . refine iteF h1 (bind_eq (z := l.map encV) rfl (bind_eq (z := i) (by rw [mapV_len]; exact idx_n hi) (bind_eq (getDL hi) (bind_eq ix (bind_eq hf (bind_eq b_lss ?_))))))
           rw [tr_b]; congr 1; rw [decide_eq_decide]; exact ⟨.inr, fun h => h.resolve_left h1⟩) (bind_eq tr_b hz')))))))))))
   by_cases hb : cmpn (l.getD i V.zero) t > 262144 \/ cmpn (l.getD i V.zero) t < -262144
   . right
     refine ⟨_, pre _ (iteT hb rfl), ?_⟩
     rw [if_neg (fun h => by have := bd_cmpn.1 h t ht; omega)] at hy
     exact hy
   . left
     refine ⟨[I ((t + 1 : Nat) : Int), .sl [], I 0], pre _ (iteF hb (bind_eq (b_add (inR_nat (i := t) (by omega))) rfl)), rfl, fun t' ht' => ?_⟩
     by_cases e : t' = t
     . subst e; omega
     . exact hz t' (by omega)
 . obtain ⟨rfl, hz⟩ := hJ
   refine ⟨(1, [.sl [], I 0]), bind_eq b_lss (bind_eq tr_b (iteF (by decide) rfl)), ?_⟩
   rw [if_pos (bd_cmpn.2 hz)] at hy
   exact hy
theorem c12_bad (n : Nat) {l : List V} (hlen : l.length <= 64) (hb : ¬ ∀ x ∈ l, bd MV x) : cA (n + 1) 12 [encL l] = some (errH 1) := by
 rw [u12]
 unfold F12
 refine bind_eq (z := l.map encV) rfl (bind_eq b_gtr (bind_eq tr_b (iteF (by show ¬ ((l.map encV).length : Int) > 64; rw [mapV_len]; omega) ?_)))
 refine lp_for (fun i s => s = [I (i : Int), .sl [], I 0] /\ ∀ x ∈ l.take i, bd MV x) l.length 0 (Nat.zero_le _) ⟨rfl, by simp⟩ (fun i hi s hJ => ?_) (fun s hJ => ?_)
 . obtain ⟨rfl, hz⟩ := hJ
   by_cases hx : bd MV (l.getD i V.zero)
   . left
     refine ⟨[I ((i + 1 : Nat) : Int), .sl [], I 0], ?_, rfl, fun x hx' => ?_⟩
     . refine bind_eq (z := l.map encV) rfl (bind_eq b_lss (bind_eq tr_b (iteT (by show ((i : Int) < ((l.map encV).length : Int)); rw [mapV_len]; omega) (in12 hi ?_))))
       rw [if_pos hx, if_neg (show ¬ (1 : Nat) = 0 by decide)]
       exact bind_eq (b_add (inR_nat (i := i) (by omega))) rfl
     . rw [List.take_succ_eq_append_getElem hi] at hx'
       rcases List.mem_append.1 hx' with h | h
       . exact hz x h
       . rw [List.mem_singleton.1 h]; simpa [List.getD, hi] using hx
   . right
     refine ⟨(0, [.sl [], I 1]), ?_, rfl⟩
     refine bind_eq (z := l.map encV) rfl (bind_eq b_lss (bind_eq tr_b (iteT (by show ((i : Int) < ((l.map encV).length : Int)); rw [mapV_len]; omega) (in12 hi ?_))))
     rw [if_neg hx]; rfl
 . obtain ⟨rfl, hz⟩ := hJ
   rw [List.take_length] at hz
   exact absurd hz hb
theorem c12_good (n : Nat) {l : List V} (hlen : l.length <= 64) (hl : ∀ x ∈ l, bd MV x) {F : FL} (hpl : ∀ f ∈ F, f.2.length <= 1000000) (hFl : F.length <= 3000000) (h48 : cA (n + 2) 48 [encL (srtL l)] = some (.sl (encFL F))) : cA (n + 3) 12 [encL l] = some (hullD (srtL l) F) := by
 rw [u12]
 unfold F12
 refine bind_eq (z := l.map encV) rfl (bind_eq b_gtr (bind_eq tr_b (iteF (by show ¬ ((l.map encV).length : Int) > 64; rw [mapV_len]; omega) ?_)))
 refine lp_for (fun i s => s = [I (i : Int), .sl [], I 0]) l.length 0 (Nat.zero_le _) rfl (fun i hi s hJ => ?_) (fun s hJ => ?_)
 . subst hJ
   left
   refine ⟨[I ((i + 1 : Nat) : Int), .sl [], I 0], ?_, rfl⟩
   refine bind_eq (z := l.map encV) rfl (bind_eq b_lss (bind_eq tr_b (iteT (by show ((i : Int) < ((l.map encV).length : Int)); rw [mapV_len]; omega) (in12 hi ?_))))
   rw [if_pos (hl _ (memD hi)), if_neg (show ¬ (1 : Nat) = 0 by decide)]
   exact bind_eq (b_add (inR_nat (i := i) (by omega))) rfl
 . subst hJ
   refine ⟨(1, [.sl [], I 0]), bind_eq (z := l.map encV) rfl (bind_eq b_lss (bind_eq tr_b (iteF (by show ¬ ((l.length : Int) < ((l.map encV).length : Int)); rw [mapV_len]; omega) rfl))), ?_⟩
   rw [if_neg (show ¬ (1 : Nat) = 0 by decide)]
   have hSl := Nat.le_trans (srtL_len l) hlen
   refine bind_eq (c47 n l (by omega)) (bind_eq h48 (bind_eq (z := encFL F) rfl ?_))
   obtain ⟨S, hS⟩ : ∃ S, srtL l = S := ⟨_, rfl⟩
   rw [hS] at hSl ⊢
   rw [encFL_len, show D.beq (D.int .i64 (F.length : Nat)) (D.int .i64 0) = decide (F.length = 0) from beq_nat F.length 0]
   refine bind_eq tr_b ?_
   unfold hullD
   by_cases h0 : F.length = 0
   . refine iteT h0 ?_
     rw [if_pos h0]; rfl
   refine iteF h0 (bind_eq (z := encFL F) rfl (bind_eq b_gtr (bind_eq tr_b ?_)))
   rw [if_neg h0]
   by_cases h64 : F.length > 64
   . refine iteT (by rw [encFL_len]; omega) ?_
     rw [if_pos h64]; rfl
   refine iteF (by rw [encFL_len]; omega) ?_
   rw [if_neg h64]
   refine lp_for (fun i s => s = [I (i : Int), .sl [], I 0, encL (verts S F i), I 0]) S.length 0 (Nat.zero_le _) rfl (fun i hi s hJ => ?_) (fun s hJ => ?_)
   . subst hJ
     left
     refine ⟨[I ((i + 1 : Nat) : Int), .sl [], I 0, encL (verts S F (i + 1)), I 0], ?_, rfl⟩
     have hvl := verts_len S F i
     refine bind_eq (z := S.map encV) rfl (bind_eq b_lss (bind_eq tr_b (iteT (by show ((i : Int) < ((S.map encV).length : Int)); rw [mapV_len]; omega) ?_)))
     refine bind_eq (z := (0, [.sl [], I 0, encL (verts S F (i + 1)), I 0])) ?_ (bind_eq (b_add (inR_nat (i := i) (by omega))) rfl)
     refine lp_forA (fun k s => s = [.bool (inFac (F.take k) i), I (k : Int), .sl [], I 0, encL (verts S F i), I 0]) F.length 0 (Nat.zero_le _) rfl (fun k hk s hJ => ?_) (fun s hJ => ?_)
     . subst hJ
       left
       refine ⟨[.bool (inFac (F.take (k + 1)) i), I ((k + 1 : Nat) : Int), .sl [], I 0, encL (verts S F i), I 0], ?_, rfl⟩
       have hpk := hpl F[k] (List.getElem_mem hk)
       have e1 : inFac (F.take (k + 1)) i = (inFac (F.take k) i || F[k].2.any fun x => decide (x = i)) := by
         unfold inFac; rw [List.take_succ_eq_append_getElem hk, List.any_append]; simp
       refine bind_eq (z := encFL F) rfl (bind_eq b_lss (bind_eq tr_b (iteT (by show ((k : Int) < ((encFL F).length : Int)); rw [encFL_len]; omega) ?_)))
       have fp : ∀ {β : Type} {g : List D -> Option β} {y : β}, g (enumN F[k].2) = some y -> (Option.bind (D.asSl (.sl (encFL F))) fun l46 => Option.bind (D.idx (I (k : Int)) (List.length l46)) fun i47 => Option.bind (l46[i47]?) fun x48 => Option.bind (D.fld x48 2) fun x49 => Option.bind (D.asSl x49) g) = some y := fun h =>
         bind_eq (z := encFL F) rfl (bind_eq (z := k) (by rw [encFL_len]; exact idx_n hk) (bind_eq (encFL_get hk) (bind_eq (z := .sl (enumN F[k].2)) rfl (bind_eq (z := enumN F[k].2) rfl h))))
       rw [e1]
       generalize inFac (F.take k) i = b0
       obtain ⟨p, hp⟩ : ∃ p, F[k].2 = p := ⟨_, rfl⟩
       rw [hp] at hpk fp ⊢
       refine lp_forA (fun j s => s = [.bool (b0 || (p.take j).any fun x => decide (x = i)), I (j : Int), .sl [], I 0, encL (verts S F i), I 0]) p.length 0 (Nat.zero_le _) (by rw [List.take_zero, List.any_nil, Bool.or_false]; rfl) (fun j hj s hJ => ?_) (fun s hJ => ?_)
       . subst hJ
         left
         refine ⟨[.bool (b0 || (p.take (j + 1)).any fun x => decide (x = i)), I ((j + 1 : Nat) : Int), .sl [], I 0, encL (verts S F i), I 0], ?_, rfl⟩
         refine fp (bind_eq b_lss (bind_eq tr_b (iteT (by show ((j : Int) < ((enumN p).length : Int)); rw [enumN_len]; omega) (bind_eq tr_b (bind_eq (z := b0 || (p.take (j + 1)).any fun x => decide (x = i)) ?_ (bind_eq (b_add (inR_nat (i := j) (by omega))) rfl))))))
         rw [List.take_succ_eq_append_getElem hj, List.any_append]
         generalize (p.take j).any (fun x => decide (x = i)) = b1
         cases hb : (b0 || b1)
         . rw [<- Bool.or_assoc, hb, if_neg (by decide)]
           refine fp (bind_eq (z := j) (by rw [enumN_len]; exact idx_n hj) (bind_eq (enumN_getD hj) ?_))
           have : D.beq (I ((p.getD j 0 : Nat) : Int)) (I (i : Int)) = decide (p[j] = i) := by rw [beq_nat]; simp [List.getD, hj]
           show D.truth (D.bool (D.beq (I ((p.getD j 0 : Nat) : Int)) (I (i : Int)))) = _
           rw [this, tr_b]; simp
         . rw [<- Bool.or_assoc, hb]; rfl
       . subst hJ
         rw [List.take_length]
         refine ⟨(0, [.bool (b0 || p.any fun x => decide (x = i)), .sl [], I 0, encL (verts S F i), I 0]), fp (bind_eq b_lss (bind_eq tr_b (iteF (by show ¬ ((p.length : Int) < ((enumN p).length : Int)); rw [enumN_len]; omega) rfl))), ?_⟩
         exact bind_eq (b_add (inR_nat (i := k) (by omega))) rfl
     . subst hJ
       rw [List.take_length]
       refine ⟨(0, [.bool (inFac F i), .sl [], I 0, encL (verts S F i), I 0]), ?_, ?_⟩
       . exact bind_eq (z := encFL F) rfl (bind_eq b_lss (bind_eq tr_b (iteF (by show ¬ ((F.length : Int) < ((encFL F).length : Int)); rw [encFL_len]; omega) rfl)))
       . rw [verts_succ]
         refine bind_eq (z := inFac F i) tr_b ?_
         cases inFac F i
         . rfl
         . rw [if_pos rfl, if_pos rfl]
           refine bind_eq (z := S.map encV) rfl (bind_eq (z := i) (by rw [mapV_len]; exact idx_n hi) (bind_eq (getDL hi) ?_))
           rw [if_pos (by show ((verts S F i).map encV).length + 1 <= 1073741824; rw [mapV_len]; omega)]
           have : D.sl ((verts S F i).map encV ++ [encV (S.getD i V.zero)]) = encL (verts S F i ++ [pt S i]) := by simp [encL, pt]
           rw [<- this]; rfl
   . subst hJ
     refine ⟨(0, [.sl [], I 0, encL (verts S F S.length), I 0]), ?_, rfl⟩
     exact bind_eq (z := S.map encV) rfl (bind_eq b_lss (bind_eq tr_b (iteF (by show ¬ ((S.length : Int) < ((S.map encV).length : Int)); rw [mapV_len]; omega) rfl)))
theorem poly_len {l : List V} (hs : Srt l) {m : V} {d : Int} (hF : IsF (pt l) l.length m d) {p : List Nat} (hp : IsPoly (pt l) l.length m d p) : p.Nodup /\ p.length <= l.length /\ 0 < p.length /\ ∀ x ∈ p, x < l.length := by
 obtain ⟨p', hp', hnd, hmem⟩ := hF.poly hs
 have e := IsPoly.eq hs hF hp hp'
 subst e
 obtain ⟨a, _, ha, hea, _, _⟩ := hF.head hs
 have hm : a ∈ p := (hmem a).2 ⟨ha, hea⟩
 refine ⟨hnd, ?_, List.length_pos_iff.2 (fun e => by rw [e] at hm; cases hm), fun x hx => (mem_onPl.1 ((hmem x).1 hx).1).1⟩
 have := List.Nodup.length_le_of_subset (l₂ := List.range l.length) hnd fun x hx => List.mem_range.2 (mem_onPl.1 ((hmem x).1 hx).1).1
 simpa using this
theorem srtL_bd {l : List V} (hl : ∀ x ∈ l, bd MV x) : ∀ x ∈ srtL l, bd MV x := fun x hx => hl x (mem_srtL.1 hx)
theorem c12 (n : Nat) {l : List V} (hlen : l.length <= 100) : (64 < l.length /\ cA (n + 8) 12 [encL l] = some (errH 2)) \/ (l.length <= 64 /\ (¬ ∀ x ∈ l, bd MV x) /\ cA (n + 8) 12 [encL l] = some (errH 1)) ∨
   (l.length <= 64 /\ (∀ x ∈ l, bd MV x) /\ ∃ F : FL, KnF (srtL l) (srtL l).length 0 0 F /\ cA (n + 8) 12 [encL l] = some (hullD (srtL l) F)) := by
 by_cases h64 : 64 < l.length
 . exact .inl ⟨h64, c12_big (n + 7) h64⟩
 . by_cases hb : ∀ x ∈ l, bd MV x
   . right; right
     refine ⟨by omega, hb, ?_⟩
     have hsl := srtL_len l
     have hS := srt_of (srtL_ord l)
     obtain ⟨F, h1, h2⟩ := c48 n (srtL_bd hb) (by omega) hS
     refine ⟨F, h1, c12_good (n + 5) (by omega) hb (fun f hf => ?_) (Nat.le_trans (h1.fok.len (by omega)) (by decide)) h2⟩
     obtain ⟨q1, q2⟩ := h1.fok.ok f hf
     have := (poly_len hS q1 q2).2.1
     omega
   . exact .inr (.inl ⟨by omega, hb, c12_bad (n + 7) (by omega) hb⟩)
theorem verts_sub (S : List V) (F : FL) : (verts S F S.length).Sublist S := by
 have h1 : ((List.range S.length).map (pt S)) = S := by
   apply List.ext_getElem?
   intro i
   by_cases h : i < S.length
   . rw [List.getElem?_map, List.getElem?_range h]; simp [pt, List.getD, h]
   . rw [List.getElem?_map, show (List.range S.length)[i]? = none by simp; omega]; simp; omega
 have h2 : (verts S F S.length).Sublist ((List.range S.length).map (pt S)) := List.Sublist.map _ List.filter_sublist
 rw [h1] at h2; exact h2
theorem c15 (n : Nat) {l : List V} (hlen : l.length <= 100) : (∃ e : Int, cA (n + 9) 15 [encC l] = some (I e) /\ e ≠ 0) \/ (cA (n + 9) 15 [encC l] = some (I 0) /\ l.length <= 64 /\ (∀ x ∈ l, bd MV x) /\ ∃ F : FL, KnF (srtL l) (srtL l).length 0 0 F /\ F.length ≠ 0 /\ F.length <= 64 /\ verts (srtL l) F (srtL l).length = l) := by
 rw [u15]
 unfold F15
 have err : ∀ e : Int, e ≠ 0 -> cA (n + 8) 12 [encL l] = some (errH e) -> ∃ e : Int, (Option.bind (D.get (encC l) [0]) fun x1 =>
 Option.bind (cA (n + 8) 12 [x1]) fun r2 =>
 Option.bind (D.get r2 [1]) fun x3 =>
 Option.bind (D.truth (D.bool (D.beq x3 (D.int .i64 0)))) fun b4 =>
 Option.bind (if b4 then (Option.bind (D.get r2 [0, 0]) fun x5 =>
 Option.bind (D.get (encC l) [0]) fun x6 =>
 Option.bind (cA (n + 8) 13 [x5, x6]) fun r7 =>
 Option.bind (D.un .not r7) fun x8 =>
 D.truth x8) else (some false)) fun b9 =>
 Option.bind (D.truth (D.bool b9)) fun b10 =>
 if b10 then (some (D.int .i64 3)) else (Option.bind (D.get r2 [1]) fun x11 =>
 some x11)) = some (I e) /\ e ≠ 0 := fun e he h => ⟨e, by
   refine bind_eq (z := encL l) rfl (bind_eq h (bind_eq (z := I e) rfl (bind_eq (z := false) ?_ (bind_eq (z := false) rfl (bind_eq (z := false) rfl rfl)))))
   rw [show D.beq (I e) (D.int .i64 0) = decide (e = 0) from beq_i, decide_eq_false he]; rfl, he⟩
 rcases c12 n hlen with ⟨h1, h2⟩ | ⟨h0, h1, h2⟩ | ⟨h0, h1, F, h2, h3⟩
 . exact .inl (err 2 (by decide) h2)
 . exact .inl (err 1 (by decide) h2)
 . unfold hullD at h3
   by_cases f0 : F.length = 0
   . rw [if_pos f0] at h3; exact .inl (err 120 (by decide) h3)
   . rw [if_neg f0] at h3
     by_cases f1 : F.length > 64
     . rw [if_pos f1] at h3; exact .inl (err 2 (by decide) h3)
     . rw [if_neg f1] at h3
       have hvl := verts_len (srtL l) F (srtL l).length
       have hsl := srtL_len l
       have h13 := c13 (n + 7) (verts (srtL l) F (srtL l).length) l (by omega)
       by_cases hv : verts (srtL l) F (srtL l).length = l
       . rw [decide_eq_true hv] at h13
         refine .inr ⟨?_, h0, h1, F, h2, f0, by omega, hv⟩
         refine bind_eq (z := encL l) rfl (bind_eq h3 (bind_eq (z := I 0) rfl (bind_eq (z := true) rfl (bind_eq (z := false) ?_ (bind_eq (z := false) rfl rfl)))))
         rw [if_pos rfl]
         exact bind_eq (z := encL (verts (srtL l) F (srtL l).length)) rfl (bind_eq (z := encL l) rfl (bind_eq h13 rfl))
       . rw [decide_eq_false hv] at h13
         refine .inl ⟨3, ?_, by decide⟩
         refine bind_eq (z := encL l) rfl (bind_eq h3 (bind_eq (z := I 0) rfl (bind_eq (z := true) rfl (bind_eq (z := true) ?_ (bind_eq (z := true) rfl rfl)))))
         rw [if_pos rfl]
         exact bind_eq (z := encL (verts (srtL l) F (srtL l).length)) rfl (bind_eq (z := encL l) rfl (bind_eq h13 rfl))
end Go.Proofs.YtjjjkojfijpeeaaGreat.Sy
end
section
namespace Go.Proofs.YtjjjkojfijpeeaaGreat.Geo
open V
section
variable {P : Nat -> V} {N : Nat}
theorem same_plane (hl : ∀ i j, i < j -> j < N -> lexlt (P i) (P j)) {n1 n2 : V} {d1 d2 : Int} (h1 : IsF P N n1 d1) (h2 : IsF P N n2 d2) {a b c : Nat} (a1 : a ∈ OnPl P N n1 d1) (b1 : b ∈ OnPl P N n1 d1) (c1 : c ∈ OnPl P N n1 d1)
   (a2 : a ∈ OnPl P N n2 d2) (b2 : b ∈ OnPl P N n2 d2) (c2 : c ∈ OnPl P N n2 d2) (ht : T n1 (wy P a b) (wy P a c) ≠ 0) : n1 = n2 := by
 have F1 := h1.flat hl; have F2 := h2.flat hl
 have k1 := cross_par (F1.pl a a1 b b1) (F1.pl a a1 c c1)
 have k2 := cross_par (F2.pl a a2 b b2) (F2.pl a a2 c c2)
 have ht' : dot n1 (cross (wy P a b) (wy P a c)) ≠ 0 := ht
 generalize cross (wy P a b) (wy P a c) = m at k1 k2 ht'
 have hm : m ≠ zero := fun e => ht' (by rw [e]; simp [dot, zero])
 have hmm := dot_self_pos hm
 have p1 := par k1 m; have p2 := par k2 m
 have e1 : ∀ v : V, dot m n1 * dot m v = dot m m * dot n1 v := fun v => by
   have x1 := congrArg V.x p1; have x2 := congrArg V.y p1; have x3 := congrArg V.z p1
   simp only [smul] at x1 x2 x3
   simp only [dot] at *; grind
 have e2 : ∀ v : V, dot m n2 * dot m v = dot m m * dot n2 v := fun v => by
   have x1 := congrArg V.x p2; have x2 := congrArg V.y p2; have x3 := congrArg V.z p2
   simp only [smul] at x1 x2 x3
   simp only [dot] at *; grind
 have cm : ∀ u v : V, dot u v = dot v u := fun u v => by simp only [dot]; grind
 rw [cm] at ht'
 have hB : dot m n2 ≠ 0 := fun e => by
   have := e2 n2
   rw [e, Int.zero_mul] at this
   have n0 := zero_of_mul hmm this.symm
   exact F2.nz (dot_self_zero n0)
 obtain ⟨z, hz, hzd⟩ := h1.supp.2
 have w1 : dot n1 (wy P a z) < 0 := by rw [dot_wy, (mem_onPl.1 a1).2]; omega
 have w2 : dot n2 (wy P a z) <= 0 := by rw [dot_wy, (mem_onPl.1 a2).2]; have := h2.supp.1 z hz; omega
 have q1 := e1 (wy P a z); have q2 := e2 (wy P a z)
 have r1 : dot m n1 * dot m (wy P a z) < 0 := by rw [q1]; exact Int.mul_neg_of_pos_of_neg hmm w1
 have r2 : dot m n2 * dot m (wy P a z) <= 0 := by rw [q2]; exact Int.mul_nonpos_of_nonneg_of_nonpos (Int.le_of_lt hmm) w2
 generalize dot m (wy P a z) = t at r1 r2
 have fin : ∀ A B : Int, 0 < A -> 0 < B -> smul A (smul (dot m m) n1) = smul B (smul (dot m m) n2) -> n1 = n2 := fun A B hA hB h => by
   refine prim_par h1.nz.2 h2.nz.2 (Int.mul_pos hA hmm) (Int.mul_pos hB hmm) ?_
   have x1 := congrArg V.x h; have x2 := congrArg V.y h; have x3 := congrArg V.z h
   simp only [smul] at x1 x2 x3
   apply V.ext' <;> simp only [smul] <;> grind
 rcases Int.lt_trichotomy (dot m n1) 0 with s | s | s
 . have ht0 : 0 < t := by
     rcases Int.lt_or_le 0 t with k | k
     . exact k
     . have := Int.mul_nonneg_of_nonpos_of_nonpos (Int.le_of_lt s) k; omega
   have s2 : dot m n2 < 0 := by
     rcases Int.lt_or_le 0 (dot m n2) with k | k
     . have := Int.mul_pos k ht0; omega
     . omega
   refine fin (-dot m n2) (-dot m n1) (by omega) (by omega) ?_
   rw [<- p1, <- p2]
   apply V.ext' <;> simp only [smul] <;> grind
 . exact absurd s ht'
 . have ht0 : t < 0 := by
     rcases Int.lt_or_le t 0 with k | k
     . exact k
     . have := Int.mul_nonneg (Int.le_of_lt s) k; omega
   have s2 : 0 < dot m n2 := by
     rcases Int.lt_or_le (dot m n2) 0 with k | k
     . have := Int.mul_pos_of_neg_of_neg k ht0; omega
     . omega
   refine fin (dot m n2) (dot m n1) s2 s ?_
   rw [<- p1, <- p2]
   apply V.ext' <;> simp only [smul] <;> grind
theorem no_back (hl : ∀ i j, i < j -> j < N -> lexlt (P i) (P j)) {n : V} {d : Int} (h : IsF P N n d) {a b : Nat} (ha : a ∈ OnPl P N n d) (h1 : Side n P (OnPl P N n d) a b) (h2 : Side n P (OnPl P N n d) b a) : False := by
 obtain ⟨c, hc, ht⟩ := h.left hl ha h1
 have := (h2.all c hc).1
 have e : T n (wy P b a) (wy P b c) = - T n (wy P a b) (wy P a c) := by simp only [T, dot, cross, wy, sub]; grind
 omega
theorem len_le {α : Type} [DecidableEq α] : ∀ {l m : List α}, l.Nodup -> (∀ x ∈ l, x ∈ m) -> l.length <= m.length
 | [], m, _, _ => Nat.zero_le _
 | x :: l, m, hn, hs => by
   obtain ⟨h1, h2⟩ := List.nodup_cons.1 hn
   have hx := hs x List.mem_cons_self
   have ih := len_le (l := l) (m := m.erase x) h2 fun y hy => (List.mem_erase_of_ne (fun e : y = x => h1 (by rw [<- e]; exact hy))).2 (hs y (List.mem_cons_of_mem _ hy))
   rw [List.length_erase_of_mem hx] at ih
   have := List.length_pos_of_mem hx
   simp only [List.length_cons]; omega
end
end Go.Proofs.YtjjjkojfijpeeaaGreat.Geo
end
section
namespace Go.Proofs.YtjjjkojfijpeeaaGreat.Geo
open V
section
variable {P : Nat -> V} {N : Nat}
theorem dot_smul (k : Int) (v w : V) : dot (smul k v) w = k * dot v w := by simp only [dot, smul]; grind
theorem par_dot {u v : V} (h : cross u v = zero) (f w : V) : dot f u * dot v w = dot f v * dot u w := by
 have := congrArg (fun z => dot z w) (par h f)
 simpa only [dot_smul] using this
theorem wy_self (a : Nat) : wy P a a = zero := by apply V.ext' <;> simp [wy, sub, zero]
theorem dot_zero (v : V) : dot v zero = 0 := by simp [dot, zero]
theorem not_flat {n0 : V} {d0 : Int} (h0 : IsF P N n0 d0) (a : Nat) {m : V} (hm : m ≠ zero) : ∃ x, x < N /\ dot m (wy P a x) ≠ 0 := by
 apply Classical.byContradiction
 intro hno
 have hz : ∀ x, x < N -> dot m (wy P a x) = 0 := fun x hx => Classical.byContradiction fun h => hno ⟨x, hx, h⟩
 obtain ⟨i, j, k, hij, hjk, hk, mi, mj, mk, ht⟩ := h0.three
 obtain ⟨z, hzN, hzd⟩ := h0.supp.2
 have sh : ∀ x, x < N -> dot m (wy P i x) = 0 := fun x hx => by
   have e : dot m (wy P i x) = dot m (wy P a x) - dot m (wy P a i) := by simp only [dot, wy, sub]; grind
   rw [e, hz x hx, hz i (by omega)]; omega
 have hn : ∀ x, x ∈ OnPl P N n0 d0 -> dot n0 (wy P i x) = 0 := fun x hx => by
   rw [dot_wy, (mem_onPl.1 hx).2, (mem_onPl.1 mi).2]; omega
 have c1 := cross_par (sh j (by omega)) (sh k hk)
 have c2 := cross_par (hn j mj) (hn k mk)
 have ht' : cross (wy P i j) (wy P i k) ≠ zero := ht
 generalize cross (wy P i j) (wy P i k) = t at c1 c2 ht'
 have hmm := dot_self_pos hm; have htt := dot_self_pos ht'
 have hv := sh z hzN
 have hw : dot n0 (wy P i z) < 0 := by rw [dot_wy, (mem_onPl.1 mi).2]; omega
 generalize wy P i z = v at hv hw
 have e1 := par_dot c1 m v
 have e2 := par_dot c2 t v
 rw [hv, Int.mul_zero] at e1
 have tv := zero_of_mul hmm e1
 rw [tv, Int.mul_zero] at e2
 have := Int.mul_neg_of_pos_of_neg htt hw
 omega
def Vtx (P : Nat -> V) (N : Nat) (k : Nat) : Prop := ∃ n d, IsF P N n d /\ k ∈ OnPl P N n d /\ Ext P (OnPl P N n d) k
end
end Go.Proofs.YtjjjkojfijpeeaaGreat.Geo
end
section
namespace Go.Proofs.YtjjjkojfijpeeaaGreat.Geo
open V
section
variable {P P' : Nat -> V} {N N' : Nat}
variable (hl : ∀ i j, i < j -> j < N -> lexlt (P i) (P j)) (hl' : ∀ i j, i < j -> j < N' -> lexlt (P' i) (P' j))
 (hsub : ∀ k, k < N' -> ∃ j, j < N /\ P j = P' k /\ Vtx P N j) (hsup : ∀ k, Vtx P N k -> ∃ j, j < N' /\ P' j = P k)
include hl hl' hsub hsup
end
end Go.Proofs.YtjjjkojfijpeeaaGreat.Geo
end
section
namespace Go.Proofs.YtjjjkojfijpeeaaGreat.Geo
open V
section
variable {P : Nat -> V} {N : Nat}
theorem height (hl : ∀ i j, i < j -> j < N -> lexlt (P i) (P j)) : ∃ h : V, ∀ i j, i < j -> j < N -> 0 < dot h (wy P i j) := by
 obtain ⟨N1, p1, b1⟩ := list_bound (fun x => (P x).y) (List.range N)
 obtain ⟨N2, p2, b2⟩ := list_bound (fun x => (P x).z) (List.range N)
 refine ⟨⟨(2 * (N1 + N2)) * (2 * (N1 + N2)) + 2 * (N1 + N2), 2 * (N1 + N2), 1⟩, fun i j hij hj => ?_⟩
 have ci := b1 i (by simp; omega)
 have cj := b1 j (by simp; omega)
 have di := b2 i (by simp; omega)
 have dj := b2 j (by simp; omega)
 have hl := hl i j hij hj
 simp only [wy, sub, lexlt, dot] at *
 generalize hX : (P j).x - (P i).x = X at *
 generalize hY : (P j).y - (P i).y = Y at *
 generalize hZ : (P j).z - (P i).z = Z at *
 generalize hN : 2 * (N1 + N2) = K
 have hN0 : 0 < K := by omega
 have hY1 : -K + 1 <= Y := by omega
 have hZ1 : -K + 1 <= Z := by omega
 have m1 : K * (-K + 1) <= K * Y := Int.mul_le_mul_of_nonneg_left hY1 (Int.le_of_lt hN0)
 have m2 : K * (-K + 1) = -(K * K) + K := by grind
 have hNN : 0 < K * K := Int.mul_pos hN0 hN0
 rcases hl with hl | ⟨h1, hl | ⟨h2, hl⟩⟩
 . have hX1 : 1 <= X := by omega
   have m3 : (K * K + K) * 1 <= (K * K + K) * X := Int.mul_le_mul_of_nonneg_left hX1 (by omega)
   omega
 . have hX0 : X = 0 := by omega
   have hY3 : 1 <= Y := by omega
   have m3 : K * 1 <= K * Y := Int.mul_le_mul_of_nonneg_left hY3 (by omega)
   subst hX0
   simp only [Int.mul_zero]
   omega
 . have hX0 : X = 0 := by omega
   have hY0 : Y = 0 := by omega
   subst hX0; subst hY0
   simp only [Int.mul_zero]
   omega
theorem wy_swap (h : V) (i j : Nat) : dot h (wy P j i) = - dot h (wy P i j) := by simp only [dot, wy, sub]; grind
theorem cone {n : V} {on : List Nat} (F : Flat n P on) {a v c x : Nat} (ha : a ∈ on) (hv : v ∈ on) (hx : x ∈ on) (s1 : Side n P on a v) (s2 : Side n P on v c) (hne : a ≠ c) :
   0 < T n (wy P v c) (wy P v a) /\ 0 <= T n (wy P v x) (wy P v a) /\ 0 <= T n (wy P v c) (wy P v x) ∧
   ∀ h, T n (wy P v c) (wy P v a) * dot h (wy P v x) = T n (wy P v x) (wy P v a) * dot h (wy P v c) + T n (wy P v c) (wy P v x) * dot h (wy P v a) := by
 have q1 : 0 <= T n (wy P v x) (wy P v a) := by rw [tcyc]; exact (s1.all x hx).1
 have q2 := (s2.all x hx).1
 have q3 := (s2.all a ha).1
 refine ⟨?_, q1, q2, fun h => ?_⟩
 . rcases Int.lt_or_eq_of_le q3 with k | k
   . exact k
   . exact absurd (Ext.ray F hv s2.mem ha (s2.start F hv) (s2.ext F hv) (s1.start F ha) s2.ne (Ne.symm s1.ne) k.symm).symm hne
 . have p := plucker F.nz h (F.pl v hv x hx) (F.pl v hv c s2.mem) (F.pl v hv a ha)
   have e1 : T n (wy P v a) (wy P v x) = - T n (wy P v x) (wy P v a) := tswap ..
   have e2 : T n (wy P v x) (wy P v c) = - T n (wy P v c) (wy P v x) := tswap ..
   rw [e1, e2] at p
   grind
def Up (P : Nat -> V) (N : Nat) (n : V) (d : Int) (v : Nat) : Prop := ∃ a c, a < v /\ v < c /\ DirE P N n d a v /\ DirE P N n d v c
theorem sgn_of {a b m n : Int} (hb : 0 < b) (ha : 0 < a) (h : a * m = b * n) (hn : n <= 0) : m <= 0 /\ (m = 0 -> n = 0) := by
 constructor
 . have h1 := Int.mul_nonpos_of_nonneg_of_nonpos (Int.le_of_lt hb) hn
   rcases Int.lt_or_le 0 m with k | k
   . have := Int.mul_pos ha k; omega
   . exact k
 . intro e
   rw [e, Int.mul_zero] at h
   exact zero_of_mul hb h.symm
theorem corner_plane (hl : ∀ i j, i < j -> j < N -> lexlt (P i) (P j)) {n : V} {d : Int} (hF : IsF P N n d) {a v c : Nat} (ma : a ∈ OnPl P N n d) (mv : v ∈ OnPl P N n d) (mc : c ∈ OnPl P N n d) (ht : 0 < T n (wy P v c) (wy P v a)) {x : Nat} (hx : x < N) :
   dot (cross (wy P v c) (wy P v a)) (wy P v x) <= 0 /\ (dot (cross (wy P v c) (wy P v a)) (wy P v x) = 0 -> x ∈ OnPl P N n d) := by
 have F := hF.flat hl
 have ct := cross_par (F.pl v mv c mc) (F.pl v mv a ma)
 have k := par_dot ct n (wy P v x)
 have h1 := hF.supp.1 x hx
 have h2 := (mem_onPl.1 mv).2
 obtain ⟨r1, r2⟩ := sgn_of ht (dot_self_pos F.nz) k (by rw [dot_wy]; omega)
 refine ⟨r1, fun e => mem_onPl.2 ⟨hx, ?_⟩⟩
 have := r2 e
 rw [dot_wy] at this; omega
theorem four_vec (h u1 w1 u2 w2 : V) : dot h u2 * dot (cross u1 w1) w2 - dot h w2 * dot (cross u1 w1) u2 + dot h u1 * dot (cross u2 w2) w1 - dot h w1 * dot (cross u2 w2) u1 = 0 := by
 simp only [dot, cross]; grind
theorem up_one (hl : ∀ i j, i < j -> j < N -> lexlt (P i) (P j)) {n1 n2 : V} {d1 d2 : Int} (h1 : IsF P N n1 d1) (h2 : IsF P N n2 d2) {v : Nat} (u1 : Up P N n1 d1 v) (u2 : Up P N n2 d2 v) : n1 = n2 := by
 obtain ⟨a1, c1, av1, vc1, ⟨ma1, s1⟩, mv1, t1⟩ := u1
 obtain ⟨a2, c2, av2, vc2, ⟨ma2, s2⟩, mv2, t2⟩ := u2
 have F1 := h1.flat hl; have F2 := h2.flat hl
 obtain ⟨h, hh⟩ := height hl
 have g1 := (cone F1 ma1 mv1 ma1 s1 t1 (by omega)).1
 have g2 := (cone F2 ma2 mv2 ma2 s2 t2 (by omega)).1
 have mc1 := t1.mem; have mc2 := t2.mem
 have ca2 := (mem_onPl.1 ma2).1; have cc2 := (mem_onPl.1 mc2).1
 have ca1 := (mem_onPl.1 ma1).1; have cc1 := (mem_onPl.1 mc1).1
 obtain ⟨x1, y1⟩ := corner_plane hl h1 ma1 mv1 mc1 g1 ca2
 obtain ⟨x2, y2⟩ := corner_plane hl h1 ma1 mv1 mc1 g1 cc2
 obtain ⟨x3, y3⟩ := corner_plane hl h2 ma2 mv2 mc2 g2 ca1
 obtain ⟨x4, y4⟩ := corner_plane hl h2 ma2 mv2 mc2 g2 cc1
 have hc1 := hh v c1 vc1 cc1; have hc2 := hh v c2 vc2 cc2
 have ha1 := hh a1 v av1 (mem_onPl.1 mv1).1; have ha2 := hh a2 v av2 (mem_onPl.1 mv1).1
 rw [wy_swap] at ha1 ha2
 have id := four_vec h (wy P v c1) (wy P v a1) (wy P v c2) (wy P v a2)
 have z1 := Int.mul_nonpos_of_nonneg_of_nonpos (Int.le_of_lt hc2) x1
 have z2 := Int.mul_nonpos_of_nonneg_of_nonpos (Int.le_of_lt ha2) x2
 have z3 := Int.mul_nonpos_of_nonneg_of_nonpos (Int.le_of_lt hc1) x3
 have z4 := Int.mul_nonpos_of_nonneg_of_nonpos (Int.le_of_lt ha1) x4
 rw [Int.neg_mul] at z2 z4
 have m2a := y1 (zero_of_mul hc2 (by omega))
 have m2c := y2 (zero_of_mul ha2 (by rw [Int.neg_mul]; omega))
 exact same_plane hl h1 h2 mv1 m2c m2a mv2 mc2 ma2 (fun e => by
   have c0 := cross_zero F1.nz (F1.pl v mv1 c2 m2c) (F1.pl v mv1 a2 m2a) e
   unfold T at g2
   rw [c0] at g2
   simp [dot, zero] at g2)
def dd (h u w : V) : V := cross (cross u w) h
theorem dd_dot (f h u w : V) : dot f (dd h u w) = dot h u * dot f w - dot h w * dot f u := by simp only [dd, dot, cross]; grind
theorem dd_h (h u w : V) : dot h (dd h u w) = 0 := by simp only [dd, dot, cross]; grind
theorem dd_cross (h m e : V) : dot h (cross (cross m h) e) = dot h h * dot m e - dot h m * dot h e := by simp only [dot, cross]; grind
theorem cyc3 (f k h : V) : dot f (cross k h) = dot k (cross h f) := by simp only [dot, cross]; grind
theorem Vtx.front {k : Nat} (hv : Vtx P N k) : ∃ f : V, ∀ x, x < N -> x ≠ k -> 0 < dot f (wy P k x) := by
 obtain ⟨n, d, hF, hm, g, hg⟩ := hv
 obtain ⟨K, hK, hb⟩ := list_bound (fun x => dot g (wy P k x)) (List.range N)
 refine ⟨add (smul (-K) n) g, fun x hx hxa => ?_⟩
 have e : dot (add (smul (-K) n) g) (wy P k x) = -K * dot n (wy P k x) + dot g (wy P k x) := by simp only [dot, add, smul]; grind
 rw [e, dot_wy]
 have h1 := hF.supp.1 x hx
 have h0 := (mem_onPl.1 hm).2
 by_cases hxe : dot n (P x) = d
 . have := hg x (mem_onPl.2 ⟨hx, hxe⟩) hxa
   rw [hxe, h0, Int.sub_self, Int.mul_zero]; omega
 . have h2 := (hb x (by simp [hx])).1
   have h3 : K * 1 <= K * (d - dot n (P x)) := Int.mul_le_mul_of_nonneg_left (by omega) (by omega)
   have h4 : -K * (dot n (P x) - d) = K * (d - dot n (P x)) := by rw [Int.neg_mul, <- Int.mul_neg]; congr 1; omega
   rw [h0, h4]
   omega
theorem prev_side (hl : ∀ i j, i < j -> j < N -> lexlt (P i) (P j)) {n : V} {d : Int} (h : IsF P N n d) {v : Nat} (hv : v ∈ OnPl P N n d) (ev : Ext P (OnPl P N n d) v) : ∃ b, b ∈ OnPl P N n d /\ Side n P (OnPl P N n d) b v := by
 obtain ⟨l, p1, p2, p3⟩ := h.poly hl
 obtain ⟨i, hi, e⟩ := List.getElem_of_mem ((p3 v).2 ⟨hv, ev⟩)
 have ei : l.getD i 0 = v := by simp [List.getD, List.getElem?_eq_getElem hi, e]
 have hj : (i + l.length - 1) % l.length < l.length := Nat.mod_lt _ (by omega)
 have s := p1.next hj
 have e2 : ((i + l.length - 1) % l.length + 1) % l.length = i := by
   rw [Nat.mod_add_mod, show i + l.length - 1 + 1 = i + l.length by omega, Nat.add_mod_right, Nat.mod_eq_of_lt hi]
 rw [e2, ei] at s
 refine ⟨_, ((p3 _).1 ?_).1, s⟩
 simp [List.getD, List.getElem?_eq_getElem hj]
theorem up_ex (hl : ∀ i j, i < j -> j < N -> lexlt (P i) (P j)) {n0 : V} {d0 : Int} (h0 : IsF P N n0 d0) {v : Nat} (hv : Vtx P N v) (v0 : 0 < v) (v1 : v + 1 < N) : ∃ n d, IsF P N n d /\ Up P N n d v := by
 obtain ⟨f, hf⟩ := hv.front
 obtain ⟨h, hh⟩ := height hl
 have hup : ∀ x, v < x -> x < N -> 0 < dot h (wy P v x) := fun x h1 h2 => hh v x h1 h2
 have hdn : ∀ x, x < v -> dot h (wy P v x) < 0 := fun x h1 => by have := hh x v h1 (by omega); rw [wy_swap] at this; omega
 have hh0 : h ≠ zero := fun e => by have := hup (v + 1) (by omega) v1; rw [e] at this; simp [dot, zero] at this
 have hhp := dot_self_pos hh0
 have fpos : ∀ c a, v < c -> c < N -> a < v -> 0 < dot f (dd h (wy P v c) (wy P v a)) := fun c a h1 h2 h3 => by
   rw [dd_dot]
   have q1 := Int.mul_pos (hup c h1 h2) (hf a (by omega) (by omega))
   have q2 := Int.mul_neg_of_neg_of_pos (hdn a h3) (hf c h2 (by omega))
   omega
 obtain ⟨y, hy, hfar⟩ := far (n := sub (smul (dot f h) h) (smul (dot h h) f)) (e := neg h) (by simp only [dot, sub, smul, neg]; grind) (w := fun k => dd h (wy P v (k / N)) (wy P v (k % N)))
   ((List.range (N * N)).filter fun k => decide (v < k / N) && decide (k % N < v)) (by
     intro e
     have : (v + 1) * N + 0 ∈ (List.range (N * N)).filter fun k => decide (v < k / N) && decide (k % N < v) := by
       rw [List.mem_filter]
       refine ⟨List.mem_range.2 ?_, ?_⟩
       . rw [Nat.add_zero]; exact Nat.mul_lt_mul_of_pos_right v1 (by omega)
       . have d1 : ((v + 1) * N + 0) / N = v + 1 := by rw [Nat.add_zero, Nat.mul_div_cancel _ (by omega)]
         have d2 : ((v + 1) * N + 0) % N = 0 := by rw [Nat.add_zero, Nat.mul_mod_left]
         rw [d1, d2]; simp; omega
     rw [e] at this; simp at this) (fun k hk => by
     simp only [List.mem_filter, List.mem_range, Bool.and_eq_true, decide_eq_true_eq] at hk
     have hc : k / N < N := Nat.div_lt_of_lt_mul hk.1
     have := fpos (k / N) (k % N) hk.2.1 hc hk.2.2
     have e := dd_h h (wy P v (k / N)) (wy P v (k % N))
     generalize dd h (wy P v (k / N)) (wy P v (k % N)) = D at *
     have e2 : dot (sub (smul (dot f h) h) (smul (dot h h) f)) D = dot f h * dot h D - dot h h * dot f D := by simp only [dot, sub, smul]; grind
     rw [e2, e, Int.mul_zero]
     have := Int.mul_pos hhp this
     omega)
 simp only [List.mem_filter, List.mem_range, Bool.and_eq_true, decide_eq_true_eq] at hy
 obtain ⟨hyN, hyc, hya⟩ := hy
 have hcN : y / N < N := Nat.div_lt_of_lt_mul hyN
 have hfar' : ∀ c a, v < c -> c < N -> a < v -> dot (cross (wy P v (y / N)) (wy P v (y % N))) (dd h (wy P v c) (wy P v a)) <= 0 := fun c a h1 h2 h3 => by
   have d1 : (c * N + a) / N = c := by rw [Nat.mul_comm, Nat.mul_add_div (by omega), Nat.div_eq_of_lt (by omega)]; omega
   have d2 : (c * N + a) % N = a := by rw [Nat.mul_comm, Nat.mul_add_mod]; exact Nat.mod_eq_of_lt (by omega)
   have := hfar (c * N + a) (by
     rw [List.mem_filter]
     refine ⟨List.mem_range.2 ?_, by rw [d1, d2]; simp [h1, h3]⟩
     have : (c + 1) * N <= N * N := Nat.mul_le_mul_right _ (by omega)
     rw [Nat.succ_mul] at this
     omega)
   simp only [d1, d2] at this
   have e1 : dot (neg h) (cross (dd h (wy P v (y / N)) (wy P v (y % N))) (dd h (wy P v c) (wy P v a))) = - dot h (cross (cross (cross (wy P v (y / N)) (wy P v (y % N))) h) (dd h (wy P v c) (wy P v a))) := by simp only [dd, dot, neg]; grind
   rw [e1, dd_cross, dd_h, Int.mul_zero] at this
   rcases Int.lt_or_le 0 (dot (cross (wy P v (y / N)) (wy P v (y % N))) (dd h (wy P v c) (wy P v a))) with k | k
   . have := Int.mul_pos hhp k; omega
   . exact k
 generalize hC : y / N = c at *
 generalize hA : y % N = a at *
 have fd := fpos c a hyc hcN hya
 have m1 : dot (cross (wy P v c) (wy P v a)) (wy P v a) = 0 := by simp only [dot, cross]; grind
 have m2 : dot (cross (wy P v c) (wy P v a)) (wy P v c) = 0 := by simp only [dot, cross]; grind
 have hle : ∀ x, x < N -> dot (cross (wy P v c) (wy P v a)) (wy P v x) <= 0 := fun x hx => by
   rcases Nat.lt_trichotomy x v with k | k | k
   . have := hfar' c x hyc hcN k
     rw [dd_dot, m2, Int.mul_zero, Int.sub_zero] at this
     rcases Int.lt_or_le 0 (dot (cross (wy P v c) (wy P v a)) (wy P v x)) with q | q
     . have := Int.mul_pos (hup c hyc hcN) q; omega
     . exact q
   . subst k
     have : dot (cross (wy P x c) (wy P x a)) (wy P x x) = 0 := by rw [wy_self, dot_zero]
     omega
   . have := hfar' x a k hx hya
     rw [dd_dot, m1, Int.mul_zero, Int.zero_sub] at this
     rcases Int.lt_or_le 0 (dot (cross (wy P v c) (wy P v a)) (wy P v x)) with q | q
     . have := Int.mul_neg_of_neg_of_pos (hdn a hya) q; omega
     . exact q
 have hm0 : cross (wy P v c) (wy P v a) ≠ zero := fun e => by
   unfold dd at fd
   rw [e] at fd; simp [dot, cross, zero] at fd
 obtain ⟨n', g, hg, hmg, hF⟩ := isF_of (P := P) (N := N) (p := v) (q := c) (r := a) (m := cross (wy P v c) (wy P v a)) (by omega) hcN (by omega) (by omega) (by omega) (by omega) rfl hle (by
   obtain ⟨x, hx, h2⟩ := not_flat h0 v hm0
   have := hle x hx
   exact ⟨x, hx, by omega⟩)
 have mv : v ∈ OnPl P N n' (dot n' (P v)) := mem_onPl.2 ⟨by omega, rfl⟩
 have on_of : ∀ x, x < N -> dot (cross (wy P v c) (wy P v a)) (wy P v x) = 0 -> x ∈ OnPl P N n' (dot n' (P v)) := fun x hx e => by
   rw [hmg, dot_smul] at e
   have := zero_of_mul hg e
   rw [dot_wy] at this
   exact mem_onPl.2 ⟨hx, by omega⟩
 have mc := on_of c hcN m2
 have ma := on_of a (by omega) m1
 have F := hF.flat hl
 have ev : Ext P (OnPl P N n' (dot n' (P v))) v := ⟨f, fun x hx hne => hf x (mem_onPl.1 hx).1 hne⟩
 obtain ⟨b1, _, s1⟩ := next_side F mv ev ⟨c, mc, by omega⟩
 obtain ⟨b0, mb0, s0⟩ := prev_side hl hF mv ev
 have mb1 := s1.mem
 have hb : b0 ≠ b1 := fun e => by subst e; exact no_back hl hF mv s1 s0
 have nb0 := s0.ne; have nb1 := s1.ne
 have lb0 := (mem_onPl.1 mb0).1; have lb1 := (mem_onPl.1 mb1).1
 obtain ⟨k1, k2, k3, k4⟩ := cone F mb0 mv ma s0 s1 hb
 obtain ⟨_, j2, j3, j4⟩ := cone F mb0 mv mc s0 s1 hb
 have k5 := k4 h; have j5 := j4 h
 refine ⟨n', _, hF, b0, b1, ?_⟩
 rcases Nat.lt_or_gt_of_ne nb1 with c1 | c1 <;> rcases Nat.lt_or_gt_of_ne nb0 with c0 | c0
 . -- the next one is lower, the one ahead higher
   exfalso
   have e1 := hdn b1 c1; have e0 := hup b0 c0 lb0
   have neg1 : dot f (dd h (wy P v b1) (wy P v b0)) < 0 := by
     rw [dd_dot]
     have q1 := Int.mul_neg_of_neg_of_pos e1 (hf b0 lb0 (by omega))
     have q2 := Int.mul_pos e0 (hf b1 lb1 (by omega))
     omega
   unfold dd at neg1 fd
   rw [cyc3] at neg1 fd
   rw [hmg, dot_smul] at fd
   have f1 := pos_of_mul hg fd
   have ct := cross_par (F.pl v mv b1 mb1) (F.pl v mv b0 mb0)
   have p := par_dot ct n' (cross h f)
   have q1 := Int.mul_pos (show 0 < dot n' (cross (wy P v b1) (wy P v b0)) from k1) f1
   have q2 := Int.mul_neg_of_pos_of_neg (dot_self_pos F.nz) neg1
   omega
 . -- both lower
   exfalso
   have e1 := hdn b1 c1; have e0 := hdn b0 c0
   have q1 := Int.mul_nonpos_of_nonneg_of_nonpos j2 (Int.le_of_lt e1)
   have q2 := Int.mul_nonpos_of_nonneg_of_nonpos j3 (Int.le_of_lt e0)
   have q3 := Int.mul_pos k1 (hup c hyc hcN)
   omega
 . exfalso
   have e1 := hup b1 c1 lb1; have e0 := hup b0 c0 lb0
   have q1 := Int.mul_nonneg k2 (Int.le_of_lt e1)
   have q2 := Int.mul_nonneg k3 (Int.le_of_lt e0)
   have q3 := Int.mul_neg_of_pos_of_neg k1 (hdn a hya)
   omega
 . exact ⟨c0, c1, ⟨mb0, s0⟩, mv, s1⟩
end
end Go.Proofs.YtjjjkojfijpeeaaGreat.Geo
end
section
namespace Go.Proofs.YtjjjkojfijpeeaaGreat.Geo
open V
section
variable {P : Nat -> V} {N : Nat}
def darts (l : List Nat) : List (Nat × Nat) := (List.range l.length).map fun k => (l.getD k 0, l.getD ((k + 1) % l.length) 0)
theorem mem_darts {l : List Nat} {a b : Nat} : (a, b) ∈ darts l ↔ ∃ i, i < l.length /\ l.getD i 0 = a /\ l.getD ((i + 1) % l.length) 0 = b := by
 simp only [darts, List.mem_map, List.mem_range, Prod.mk.injEq]
theorem darts_nodup {l : List Nat} (h : l.Nodup) : (darts l).Nodup := by
 unfold darts List.Nodup
 rw [List.pairwise_map]
 refine List.Pairwise.imp_of_mem ?_ (List.nodup_range (n := l.length))
 intro i j hi hj hne e
 have hi := List.mem_range.1 hi; have hj := List.mem_range.1 hj
 have e1 := congrArg Prod.fst e
 simp only [List.getD, List.getElem?_eq_getElem hi, List.getElem?_eq_getElem hj, Option.getD_some] at e1
 rcases Nat.lt_or_gt_of_ne hne with c | c
 . exact List.pairwise_iff_getElem.1 h i j hi hj c e1
 . exact List.pairwise_iff_getElem.1 h j i hj hi c e1.symm
def allDarts (L : List (V × Int)) (poly : V × Int -> List Nat) : List (Nat × Nat) := L.flatMap fun q => darts (poly q)
section
variable (hl : ∀ i j, i < j -> j < N -> lexlt (P i) (P j)) {L : List (V × Int)} (hL : Facets P N L) {poly : V × Int -> List Nat} (hp : ∀ q ∈ L, IsPoly P N q.1 q.2 (poly q))
include hl hL hp
theorem poly_nodup {q : V × Int} (hq : q ∈ L) : (poly q).Nodup := by
 obtain ⟨l, p1, p2, _⟩ := ((hL.mem q).1 hq).poly hl
 have := IsPoly.eq hl ((hL.mem q).1 hq) (hp q hq) p1
 rw [this]; exact p2
theorem allDarts_mem {a b : Nat} : (a, b) ∈ allDarts L poly ↔ ∃ n d, IsF P N n d /\ DirE P N n d a b := by
 simp only [allDarts, List.mem_flatMap, mem_darts]
 constructor
 . rintro ⟨q, hq, hi⟩
   exact ⟨q.1, q.2, (hL.mem q).1 hq, (IsPoly.dir hl ((hL.mem q).1 hq) (hp q hq)).1 hi⟩
 . rintro ⟨n, d, hF, hd⟩
   have hq := (hL.mem (n, d)).2 hF
   exact ⟨(n, d), hq, (IsPoly.dir hl hF (hp _ hq)).2 hd⟩
theorem allDarts_nodup : (allDarts L poly).Nodup := by
 unfold allDarts List.Nodup
 rw [List.pairwise_flatMap]
 refine ⟨fun q hq => darts_nodup (poly_nodup hl hL hp hq), ?_⟩
 refine List.Pairwise.imp_of_mem ?_ hL.ord
 intro q q' hq hq' hlt x hx y hy e
 subst e
 obtain ⟨a, b⟩ := x
 have F := (hL.mem q).1 hq
 have F' := (hL.mem q').1 hq'
 obtain ⟨d1, d2⟩ := (IsPoly.dir hl F (hp q hq)).1 (mem_darts.1 hx)
 obtain ⟨d1', d2'⟩ := (IsPoly.dir hl F' (hp q' hq')).1 (mem_darts.1 hy)
 have := edge_one hl F F' d1 d1' d2 d2'
 rw [this] at hlt
 exact lexlt_irr _ hlt
theorem edge_counts {a b : Nat} (h : (a, b) ∈ upEdges L poly) : (allDarts L poly).count (a, b) = 1 /\ (allDarts L poly).count (b, a) = 1 := by
 obtain ⟨_, n, d, hF, hd⟩ := (upEdges_mem hl hL hp).1 h
 obtain ⟨n', d', h1, h2, h3, h4⟩ := edge_other hl hF hd.1 hd.2
 have nd := allDarts_nodup hl hL hp
 refine ⟨?_, ?_⟩
 . exact nd.count.trans (if_pos ((allDarts_mem hl hL hp).2 ⟨n, d, hF, hd⟩))
 . exact nd.count.trans (if_pos ((allDarts_mem hl hL hp).2 ⟨n', d', h1, h3, h4⟩))
omit hl hL hp in
theorem len_split {α : Type} (p : α -> Bool) : ∀ l : List α, l.length = (l.filter p).length + (l.filter fun x => !p x).length
 | [] => rfl
 | x :: l => by
   have ih := len_split p l
   cases h : p x <;> simp [List.filter_cons, h] <;> omega
def tops (l : List Nat) : List Nat := ((edgesOf l).filter fun e => decide (e.1 ≠ l.getD 0 0)).map Prod.fst
omit hp in
theorem poly_head {q : V × Int} (hq : q ∈ L) {l : List Nat} (k : IsPoly P N q.1 q.2 l) : (∀ x ∈ OnPl P N q.1 q.2, l.getD 0 0 <= x) /\ l.getD 0 0 ∈ OnPl P N q.1 q.2 /\ Ext P (OnPl P N q.1 q.2) (l.getD 0 0) /\ (∃ x ∈ OnPl P N q.1 q.2, x ≠ l.getD 0 0) := by
 obtain ⟨a, h1, h2⟩ := k
 obtain ⟨b, g1, g2, g3, g4, g5⟩ := ((hL.mem q).1 hq).head hl
 rw [h1] at g1; cases g1
 obtain ⟨l', e⟩ := h2.head
 have e0 : l.getD 0 0 = a := by rw [e]; rfl
 rw [e0]
 exact ⟨g4, g2, g3, g5 a g2⟩
omit hp in
theorem edges_tops {q : V × Int} (hq : q ∈ L) {l : List Nat} (k : IsPoly P N q.1 q.2 l) : (edgesOf l).length = 1 + (tops l).length := by
 have hF := (hL.mem q).1 hq
 have F := hF.flat hl
 obtain ⟨h1, h2, h3, h4⟩ := poly_head hl hL hq k
 obtain ⟨l2, p1, p2, _⟩ := hF.poly hl
 have := IsPoly.eq hl hF k p1
 subst this
 obtain ⟨b, _, sb⟩ := next_side F h2 h3 h4
 have hb := h1 b sb.mem
 have hne := sb.ne
 have one : ((edgesOf l).filter fun e => !decide (e.1 ≠ l.getD 0 0)).length = 1 := by
   have nd : ((edgesOf l).filter fun e => !decide (e.1 ≠ l.getD 0 0)).Nodup := (edgesOf_nodup p2).sublist List.filter_sublist
   have mem : ∀ e, e ∈ ((edgesOf l).filter fun e => !decide (e.1 ≠ l.getD 0 0)) ↔ e = (l.getD 0 0, b) := fun e => by
     obtain ⟨x, y⟩ := e
     rw [List.mem_filter, mem_edgesOf, IsPoly.dir hl hF k]
     constructor
     . rintro ⟨⟨_, d1, d2⟩, hx⟩
       have hx : x = l.getD 0 0 := by simpa using hx
       subst hx
       rw [Side.unique F h2 d2 sb]
     . intro e
       simp only [Prod.mk.injEq] at e
       obtain ⟨rfl, rfl⟩ := e
       exact ⟨⟨by omega, h2, sb⟩, by simp⟩
   have l1 := len_le (m := [(l.getD 0 0, b)]) nd (fun x hx => by rw [(mem x).1 hx]; exact List.mem_cons_self)
   have l2 := List.length_pos_of_mem ((mem _).2 rfl)
   simp only [List.length_singleton] at l1
   omega
 have tot := len_split (fun e : Nat × Nat => decide (e.1 ≠ l.getD 0 0)) (edgesOf l)
 unfold tops
 rw [List.length_map]
 omega
omit hp in
theorem mem_tops {q : V × Int} (hq : q ∈ L) {l : List Nat} (k : IsPoly P N q.1 q.2 l) {v : Nat} : v ∈ tops l ↔ Up P N q.1 q.2 v := by
 have hF := (hL.mem q).1 hq
 have F := hF.flat hl
 obtain ⟨h1, h2, h3, h4⟩ := poly_head hl hL hq k
 simp only [tops, List.mem_map, List.mem_filter, decide_eq_true_eq]
 constructor
 . rintro ⟨⟨x, c⟩, ⟨he, hne⟩, rfl⟩
   obtain ⟨hlt, hd⟩ := mem_edgesOf.1 he
   obtain ⟨mv, sc⟩ := (IsPoly.dir hl hF k).1 hd
   obtain ⟨a, ma, sa⟩ := prev_side hl hF mv (sc.start F mv)
   refine ⟨a, c, ?_, hlt, ⟨ma, sa⟩, mv, sc⟩
   obtain ⟨h, hh⟩ := height hl
   have hx := h1 x mv
   have hac : a ≠ c := fun e => by subst e; exact no_back hl hF mv sc sa
   obtain ⟨k1, k2, k3, k4⟩ := cone F ma mv h2 sa sc hac
   have k5 := k4 h
   have nva := sa.ne
   simp only at hne
   rcases Nat.lt_or_ge a x with q | q
   . exact q
   . exfalso
     have e1 := hh x a (by omega) (mem_onPl.1 ma).1
     have e2 := hh x c hlt (mem_onPl.1 sc.mem).1
     have e3 := hh (l.getD 0 0) x (by omega) (mem_onPl.1 mv).1
     rw [wy_swap] at e3
     have q1 := Int.mul_nonneg k2 (Int.le_of_lt e2)
     have q2 := Int.mul_nonneg k3 (Int.le_of_lt e1)
     have q3 := Int.mul_neg_of_pos_of_neg k1 (show dot h (wy P x (l.getD 0 0)) < 0 by omega)
     omega
 . rintro ⟨a, c, hav, hvc, d1, d2⟩
   refine ⟨(v, c), ⟨mem_edgesOf.2 ⟨hvc, (IsPoly.dir hl hF k).2 d2⟩, ?_⟩, rfl⟩
   have := h1 a d1.1
   simp only; omega
omit hp in
theorem tops_nodup {q : V × Int} (hq : q ∈ L) {l : List Nat} (k : IsPoly P N q.1 q.2 l) : (tops l).Nodup := by
 have hF := (hL.mem q).1 hq
 obtain ⟨l2, p1, p2, _⟩ := hF.poly hl
 have := IsPoly.eq hl hF k p1
 subst this
 unfold tops List.Nodup
 rw [List.pairwise_map]
 refine List.Pairwise.imp_of_mem ?_ ((edgesOf_nodup p2).sublist (List.filter_sublist (p := fun e : Nat × Nat => decide (e.1 ≠ l.getD 0 0))))
 intro x y hx hy hne e
 apply hne
 obtain ⟨x1, x2⟩ := x
 obtain ⟨y1, y2⟩ := y
 simp only at e
 subst e
 have dx := (IsPoly.dir hl hF k).1 (mem_edgesOf.1 (List.mem_filter.1 hx).1).2
 have dy := (IsPoly.dir hl hF k).1 (mem_edgesOf.1 (List.mem_filter.1 hy).1).2
 rw [Side.unique (hF.flat hl) dx.1 dx.2 dy.2]
theorem sum_tops : ∀ M : List (V × Int), (∀ q ∈ M, q ∈ L) -> (upEdges M poly).length = M.length + (M.flatMap fun q => tops (poly q)).length
 | [], _ => rfl
 | q :: M, h => by
   have ih := sum_tops M fun x hx => h x (List.mem_cons_of_mem _ hx)
   have hq := h q List.mem_cons_self
   have e := edges_tops hl hL hq (hp q hq)
   unfold upEdges at *
   rw [List.flatMap_cons, List.flatMap_cons, List.length_append, List.length_append, List.length_cons, ih, e]
   omega
theorem euler (hne : L ≠ []) (hv : ∀ k, k < N -> Vtx P N k) : N + L.length = (upEdges L poly).length + 2 := by
 rw [sum_tops hl hL hp L fun q hq => hq]
 obtain ⟨q0, hq0⟩ := List.exists_mem_of_ne_nil L hne
 have h0 := (hL.mem q0).1 hq0
 have hN : 2 <= N := by obtain ⟨i, j, k, _, _, _, _⟩ := h0.ex; omega
 have nd : (L.flatMap fun q => tops (poly q)).Nodup := by
   unfold List.Nodup
   rw [List.pairwise_flatMap]
   refine ⟨fun q hq => tops_nodup hl hL hq (hp q hq), ?_⟩
   refine List.Pairwise.imp_of_mem ?_ hL.ord
   intro q q' hq hq' hlt x hx y hy e
   subst e
   have := up_one hl ((hL.mem q).1 hq) ((hL.mem q').1 hq') ((mem_tops hl hL hq (hp q hq)).1 hx) ((mem_tops hl hL hq' (hp q' hq')).1 hy)
   rw [this] at hlt
   exact lexlt_irr _ hlt
 have mem : ∀ v, v ∈ (L.flatMap fun q => tops (poly q)) ↔ 0 < v /\ v + 1 < N := fun v => by
   rw [List.mem_flatMap]
   constructor
   . rintro ⟨q, hq, hx⟩
     obtain ⟨a, c, h1, h2, h3, h4⟩ := (mem_tops hl hL hq (hp q hq)).1 hx
     have := (mem_onPl.1 h4.2.mem).1
     omega
   . rintro ⟨h1, h2⟩
     obtain ⟨n, d, hF, hU⟩ := up_ex hl h0 (hv v (by omega)) h1 h2
     have hq := (hL.mem (n, d)).2 hF
     exact ⟨(n, d), hq, (mem_tops hl hL hq (hp _ hq)).2 hU⟩
 have l1 := len_le (m := (List.range (N - 2)).map (· + 1)) nd (fun v hv => by
   have := (mem v).1 hv
   exact List.mem_map.2 ⟨v - 1, List.mem_range.2 (by omega), by omega⟩)
 have l2 := len_le (l := (List.range (N - 2)).map (· + 1)) (m := L.flatMap fun q => tops (poly q)) (by
   unfold List.Nodup
   rw [List.pairwise_map]
   exact List.Pairwise.imp (fun {a b} h e => h (by omega)) (List.nodup_range (n := N - 2))) (fun v hv => by
   obtain ⟨u, hu, rfl⟩ := List.mem_map.1 hv
   have := List.mem_range.1 hu
   exact (mem _).2 (by omega))
 rw [List.length_map, List.length_range] at l1 l2
 omega
end
end
end Go.Proofs.YtjjjkojfijpeeaaGreat.Geo
end
section
set_option linter.unusedVariables false
namespace Go.Proofs.YtjjjkojfijpeeaaGreat.Sy
open Go Go.Proofs Go.Proofs.YtjjjkojfijpeeaaGreat.Geo
theorem inFac_is {S : List V} (hS : Srt S) {F : FL} (hK : FOk S F) {k : Nat} (h : inFac F k = true) : Vtx (pt S) S.length k := by
 obtain ⟨f, hf, h2⟩ := List.any_eq_true.1 h
 obtain ⟨x, hx, hxk⟩ := List.any_eq_true.1 h2
 have hxk : x = k := by simpa using hxk
 subst hxk
 obtain ⟨q1, q2⟩ := hK.ok f hf
 obtain ⟨p, p1, _, p3⟩ := q1.poly hS
 rw [<- IsPoly.eq hS q1 q2 p1] at p3
 obtain ⟨r1, r2⟩ := (p3 x).1 hx
 exact ⟨_, _, q1, r1, r2⟩
theorem c16v (n : Nat) (l : List V) : cA (n + 10) 16 [encC l] = some (.bool false) \/ (cA (n + 10) 16 [encC l] = some (.bool true) /\ l.length <= 16 /\ (∀ x ∈ l, bd MV x) /\ Srt l /\ (∀ k, k < l.length -> Vtx (pt l) l.length k) /\ ∃ m d, IsF (pt l) l.length m d) := by
 rw [u16]
 unfold F16
 by_cases h : l.length <= 16
 . rcases c15 n (l := l) (by omega) with ⟨e, h1, h2⟩ | ⟨h1, _, h3, F, h4, hne, _, h5⟩
   . left
     refine bind_eq (z := encL l) rfl (bind_eq (z := l.map encV) rfl (bind_eq b_leq (bind_eq tr_b (bind_eq (z := false) (iteT (by show ((l.map encV).length : Int) <= 16; rw [mapV_len]; omega) (bind_eq h1 ?_)) rfl))))
     rw [show D.beq (I e) (D.int .i64 0) = decide (e = 0) from beq_i, decide_eq_false h2]; rfl
   . right
     have ho := List.Pairwise.sublist (verts_sub (srtL l) F) (srtL_ord l)
     rw [h5] at ho
     have hs := srt_of ho
     rw [srtL_id ho] at h4 h5
     refine ⟨?_, h, h3, hs, fun k hk => ?_, ?_⟩
     . exact bind_eq (z := encL l) rfl (bind_eq (z := l.map encV) rfl (bind_eq b_leq (bind_eq tr_b (bind_eq (z := true) (iteT (by show ((l.map encV).length : Int) <= 16; rw [mapV_len]; omega) (bind_eq h1 rfl)) rfl))))
     . refine inFac_is hs h4.fok ?_
       have e := congrArg List.length h5
       unfold verts at e
       rw [List.length_map] at e
       have e2 : ((List.range l.length).filter (inFac F)).length = (List.range l.length).length := by rw [e, List.length_range]
       exact List.length_filter_eq_length_iff.1 e2 k (List.mem_range.2 hk)
     . obtain ⟨f, hf⟩ : ∃ f, f ∈ F := List.exists_mem_of_ne_nil F (fun e => hne (by rw [e]; rfl))
       exact ⟨_, _, (h4.fok.ok f hf).1⟩
 . left
   exact bind_eq (z := encL l) rfl (bind_eq (z := l.map encV) rfl (bind_eq b_leq (bind_eq tr_b (bind_eq (z := false) (iteF (by show ¬ ((l.map encV).length : Int) <= 16; rw [mapV_len]; omega) rfl) rfl))))
def cnt (p : List Nat) (j : Nat) (x : Nat × Nat) : Nat := ((darts p).take j).count x
theorem darts_len (p : List Nat) : (darts p).length = p.length := by simp [darts]
theorem cnt_succ {p : List Nat} {j : Nat} (h : j < p.length) (a b : Nat) : cnt p (j + 1) (a, b) = cnt p j (a, b) + if (decide (p.getD j 0 = a) && decide (p.getD ((j + 1) % p.length) 0 = b)) = true then 1 else 0 := by
 unfold cnt
 have hd : j < (darts p).length := by rw [darts_len]; exact h
 rw [List.take_succ_eq_append_getElem hd, List.count_append, List.count_singleton]
 have e : (darts p)[j] = (p.getD j 0, p.getD ((j + 1) % p.length) 0) := by simp [darts]
 rw [e]
 congr 1
theorem cnt_all (p : List Nat) (x : Nat × Nat) : cnt p p.length x = (darts p).count x := by
 unfold cnt; rw [List.take_of_length_le (by rw [darts_len]; exact Nat.le_refl _)]
theorem cnt_le (p : List Nat) (j : Nat) (x : Nat × Nat) : cnt p j x <= j := by
 unfold cnt; exact Nat.le_trans List.count_le_length (by rw [List.length_take]; omega)
theorem mapE_len (M : List (Nat × Nat)) : (M.map encE).length = M.length := List.length_map ..
def encQ (poly : V × Int -> List Nat) (q : V × Int) : D := encF q (poly q)
theorem mapQ_len (poly : V × Int -> List Nat) (L : List (V × Int)) : (L.map (encQ poly)).length = L.length := List.length_map ..
theorem law7 {call : Nat -> List D -> Option D} (n : Nat) (l : List V) (hc : ∀ f xs, f ≠ 10 -> call f xs = cA (n + 10) f xs) (h10 : call 10 [] = some (.bool true)) : F7 lpW call (encC l) = some (.bool true) := by
 unfold F7
 rcases c16v n l with h | ⟨h, hlen, hl, hs, hv, m0, d0, hF0⟩
 . exact bind_eq (z := .bool false) ((hc 16 _ (by decide)).trans h) (bind_eq (z := .bool true) rfl (bind_eq (z := true) rfl (bind_eq h10 rfl)))
 obtain ⟨L, poly, hL, hP, hLl, h18⟩ := p18 (n + 2) hl (show l.length <= 100 by omega) hs
 have hpl : ∀ q ∈ L, (poly q).length <= 100 /\ 0 < (poly q).length := fun q hq => by
   have := poly_len hs ((hL.mem q).1 hq) (hP q hq)
   omega
 obtain ⟨E, e1, _, h21⟩ := p21 (n + 2) h18 hLl hpl (upEdges_nodup hs hL hP)
 have h18 : cA (n + 10) 18 [encC l] = some (.sl (L.map (encQ poly))) := by
   obtain ⟨L', poly', hL', hP', _, h18'⟩ := p18 (n + 3) hl (show l.length <= 100 by omega) hs
   have := Facets.eq hL hL'
   subst this
   rw [h18']
   congr 2
   refine List.map_congr_left fun q hq => ?_
   unfold encQ
   rw [IsPoly.eq hs ((hL.mem q).1 hq) (hP q hq) (hP' q hq)]
 have hne : L ≠ [] := fun e => by
   have := (hL.mem (m0, d0)).2 hF0
   rw [e] at this; cases this
 have hEu := euler hs hL hP hne hv
 rw [<- e1.length_eq] at hEu
 have hcount : ∀ e ∈ E, (allDarts L poly).count (e.1, e.2) = 1 /\ (allDarts L poly).count (e.2, e.1) = 1 := fun e he => edge_counts hs hL hP (e1.mem_iff.1 he)
 have hEl : E.length <= 2000016 := by omega
 have hside : ∀ q ∈ L, ∀ k, k < l.length -> V.dot q.1 (pt l k) <= q.2 /\ (k ∈ poly q ↔ V.dot q.1 (pt l k) = q.2) := fun q hq k hk => by
   have hF := (hL.mem q).1 hq
   obtain ⟨p, p1, _, p3⟩ := hF.poly hs
   rw [<- IsPoly.eq hs hF (hP q hq) p1] at p3
   refine ⟨hF.supp.1 k hk, ?_⟩
   rw [p3]
   constructor
   . exact fun h => (mem_onPl.1 h.1).2
   . intro h
     obtain ⟨f, hf⟩ := (hv k hk).front
     exact ⟨mem_onPl.2 ⟨hk, h⟩, f, fun x hx hne => hf x (mem_onPl.1 hx).1 hne⟩
 refine bind_eq (z := .bool true) ((hc 16 _ (by decide)).trans h) (bind_eq (z := .bool false) rfl (bind_eq (z := false) rfl ?_))
 rw [if_neg (by decide)]
 refine bind_eq ((hc 18 _ (by decide)).trans h18) (bind_eq ((hc 21 _ (by decide)).trans h21) ?_)
 refine bind_eq (z := encL l) rfl (bind_eq (z := l.map encV) rfl (bind_eq (z := L.map (encQ poly)) rfl (bind_eq (z := I ((l.length + L.length : Nat) : Int)) (by rw [mapV_len, mapQ_len]; exact b_addN (by omega)) (bind_eq (z := E.map encE) rfl (bind_eq (z := I ((E.length + 2 : Nat) : Int)) (by rw [mapE_len]; exact b_addN (b := 2) (by omega)) (bind_eq (z := false) ?_ ?_))))))
 . rw [beq_nat, decide_eq_true hEu]; rfl
 rw [if_neg (by decide)]
 refine lp_for (fun i s => s = [I (i : Int)]) E.length 0 (Nat.zero_le _) rfl (fun i hi s hJ => ?_) (fun s hJ => ?_)
 . subst hJ
   left
   refine ⟨[I ((i + 1 : Nat) : Int)], ?_, rfl⟩
   have hg : (E.map encE)[i]? = some (encE E[i]) := by simp [hi]
   have hcE := hcount E[i] (List.getElem_mem hi)
   generalize E[i] = e at hg hcE
   obtain ⟨a, b⟩ := e
   obtain ⟨c1, c2⟩ := hcE
   have ge : ∀ {β : Type} {g : D -> Option β} {y : β}, g (encE (a, b)) = some y -> (Option.bind (D.asSl (.sl (E.map encE))) fun l33 => Option.bind (D.idx (I (i : Int)) (List.length l33)) fun i34 => Option.bind (l33[i34]?) g) = some y := fun h =>
     bind_eq (z := E.map encE) rfl (bind_eq (z := i) (by rw [mapE_len]; exact idx_n hi) (bind_eq hg h))
   refine bind_eq (z := E.map encE) rfl (bind_eq b_lss (bind_eq tr_b (iteT (by show ((i : Int) < ((E.map encE).length : Int)); rw [mapE_len]; omega) ?_)))
   refine lp_forA (fun t s => s = [I (((allDarts (L.take t) poly).count (a, b) : Nat) : Int), I (((allDarts (L.take t) poly).count (b, a) : Nat) : Int), I (t : Int)]) L.length 0 (Nat.zero_le _) rfl (fun t ht s hJ => ?_) (fun s hJ => ?_)
   . subst hJ
     left
     refine ⟨_, ?_, rfl⟩
     have hgq : (L.map (encQ poly))[t]? = some (encF L[t] (poly L[t])) := by simp [ht, encQ]
     have e1 : ∀ x : Nat × Nat, (allDarts (L.take (t + 1)) poly).count x = (allDarts (L.take t) poly).count x + (darts (poly L[t])).count x := fun x => by
       unfold allDarts
       rw [List.take_succ_eq_append_getElem ht, List.flatMap_append, List.count_append]; simp
     have e2 : ∀ x : Nat × Nat, (allDarts (L.take t) poly).count x <= (allDarts L poly).count x := fun x => by
       unfold allDarts
       have : L.flatMap (fun q => darts (poly q)) = (L.take t).flatMap (fun q => darts (poly q)) ++ (L.drop t).flatMap (fun q => darts (poly q)) := by rw [<- List.flatMap_append, List.take_append_drop]
       rw [this, List.count_append]; omega
     have hpq := hpl L[t] (List.getElem_mem ht)
     have k1 := Nat.le_trans (e2 (a, b)) (Nat.le_of_eq c1); have k2 := Nat.le_trans (e2 (b, a)) (Nat.le_of_eq c2)
     rw [e1, e1]
     generalize L[t] = q at *
     obtain ⟨p, hp⟩ : ∃ p, poly q = p := ⟨_, rfl⟩
     rw [hp] at hpq hgq ⊢
     generalize (allDarts (L.take t) poly).count (a, b) = A at *
     generalize (allDarts (L.take t) poly).count (b, a) = B at *
     refine bind_eq (z := L.map (encQ poly)) rfl (bind_eq b_lss (bind_eq tr_b (iteT (by show ((t : Int) < ((L.map (encQ poly)).length : Int)); rw [mapQ_len]; omega) ?_)))
     refine bind_eq (z := L.map (encQ poly)) rfl (bind_eq (z := t) (by rw [mapQ_len]; exact idx_n ht) (bind_eq hgq (bind_eq (z := .sl (enumN p)) rfl ?_)))
     refine lp_forA (fun j s => s = [I ((A + cnt p j (a, b) : Nat) : Int), I ((B + cnt p j (b, a) : Nat) : Int), I (j : Int)]) p.length 0 (Nat.zero_le _) rfl (fun j hj s hJ => ?_) (fun s hJ => ?_)
     . subst hJ
       left
       refine ⟨_, ?_, rfl⟩
       have l1 := cnt_le p j (a, b); have l2 := cnt_le p j (b, a)
       rw [cnt_succ hj, cnt_succ hj]
       generalize cnt p j (a, b) = C at *
       generalize cnt p j (b, a) = C' at *
       have hmod : (j + 1) % p.length < p.length := Nat.mod_lt _ (by omega)
       have hrem : (((j : Int) + 1).tmod (p.length : Int)) = (((j + 1) % p.length : Nat) : Int) := by
         rw [show ((j : Int) + 1) = ((j + 1 : Nat) : Int) by omega]; exact Int.ofNat_tmod ..
       refine bind_eq (z := enumN p) rfl (bind_eq b_lss (bind_eq tr_b (iteT (by show ((j : Int) < ((enumN p).length : Int)); rw [enumN_len]; omega) ?_)))
       refine bind_eq (z := (0, [I ((A + (C + (if (decide (p.getD j 0 = a) && decide (p.getD ((j + 1) % p.length) 0 = b)) = true then 1 else 0)) : Nat) : Int), I ((B + (C' + (if (decide (p.getD j 0 = b) && decide (p.getD ((j + 1) % p.length) 0 = a)) = true then 1 else 0)) : Nat) : Int)])) (bind_eq (z := (0, [I ((A + (C + (if (decide (p.getD j 0 = a) && decide (p.getD ((j + 1) % p.length) 0 = b)) = true then 1 else 0)) : Nat) : Int)])) ?_ ?_) (bind_eq (b_add (inR_nat (i := j) (by omega))) rfl)
       . refine bind_eq (z := enumN p) rfl ?_
         refine bind_eq (idxE hj) ?_
         refine bind_eq (enumN_getD hj) ?_
         refine ge ?_
         refine bind_eq (z := I (a : Int)) rfl ?_
         rw [beq_nat]
         refine bind_eq tr_b (bind_eq (z := decide (p.getD j 0 = a) && decide (p.getD ((j + 1) % p.length) 0 = b)) ?_ (bind_eq tr_b ?_))
         . by_cases h : p.getD j 0 = a
           . refine iteT h (bind_eq (b_add (inR_nat (i := j) (by omega))) (bind_eq (z := enumN p) rfl (bind_eq (z := I (((j + 1) % p.length : Nat) : Int)) (by rw [show ((enumN p).length : Int) = (p.length : Int) by rw [enumN_len], b_rem (by omega), hrem]) (bind_eq (z := enumN p) rfl (bind_eq (idxE hmod) (bind_eq (enumN_getD hmod) (ge (bind_eq (z := I (b : Int)) rfl ?_))))))))
             rw [beq_nat, tr_b, decide_eq_true h, Bool.true_and]
           . refine iteF h ?_
             rw [decide_eq_false h, Bool.false_and]
         . split
           . exact bind_eq (b_addN (a := A + C) (b := 1) (by omega)) rfl
           . rfl
       generalize (if (decide (p.getD j 0 = a) && decide (p.getD ((j + 1) % p.length) 0 = b)) = true then 1 else 0) = X
       refine bind_eq (z := enumN p) rfl ?_
       refine bind_eq (idxE hj) ?_
       refine bind_eq (enumN_getD hj) ?_
       refine ge ?_
       refine bind_eq (z := I (b : Int)) rfl ?_
       rw [beq_nat]
       refine bind_eq tr_b (bind_eq (z := decide (p.getD j 0 = b) && decide (p.getD ((j + 1) % p.length) 0 = a)) ?_ (bind_eq tr_b ?_))
       . by_cases h : p.getD j 0 = b
         . refine iteT h (bind_eq (b_add (inR_nat (i := j) (by omega))) (bind_eq (z := enumN p) rfl (bind_eq (z := I (((j + 1) % p.length : Nat) : Int)) (by rw [show ((enumN p).length : Int) = (p.length : Int) by rw [enumN_len], b_rem (by omega), hrem]) (bind_eq (z := enumN p) rfl (bind_eq (idxE hmod) (bind_eq (enumN_getD hmod) (ge (bind_eq (z := I (a : Int)) rfl ?_))))))))
           rw [beq_nat, tr_b, decide_eq_true h, Bool.true_and]
         . refine iteF h ?_
           rw [decide_eq_false h, Bool.false_and]
       . split
         . exact bind_eq (b_addN (a := B + C') (b := 1) (by omega)) rfl
         . rfl
     . subst hJ
       rw [cnt_all, cnt_all]
       refine ⟨_, bind_eq (z := enumN p) rfl (bind_eq b_lss (bind_eq tr_b (iteF (by show ¬ ((p.length : Int) < ((enumN p).length : Int)); rw [enumN_len]; omega) rfl))), ?_⟩
       exact bind_eq (b_add (inR_nat (i := t) (by omega))) rfl
   . subst hJ
     rw [List.take_length, c1, c2]
     refine ⟨_, bind_eq (z := L.map (encQ poly)) rfl (bind_eq b_lss (bind_eq tr_b (iteF (by show ¬ ((L.length : Int) < ((L.map (encQ poly)).length : Int)); rw [mapQ_len]; omega) rfl))), ?_⟩
     refine bind_eq (z := false) rfl (bind_eq (z := false) rfl (bind_eq (z := false) rfl ?_))
     rw [if_neg (by decide)]
     exact bind_eq (b_add (inR_nat (i := i) (by omega))) rfl
 subst hJ
 refine ⟨(1, []), bind_eq (z := E.map encE) rfl (bind_eq b_lss (bind_eq tr_b (iteF (by show ¬ ((E.length : Int) < ((E.map encE).length : Int)); rw [mapE_len]; omega) rfl))), ?_⟩
 rw [if_neg (by decide)]
 refine lp_for (fun i s => s = [I (i : Int)]) L.length 0 (Nat.zero_le _) rfl (fun i hi s hJ => ?_) (fun s hJ => ?_)
 . subst hJ
   left
   refine ⟨[I ((i + 1 : Nat) : Int)], ?_, rfl⟩
   have hgq : (L.map (encQ poly))[i]? = some (encF L[i] (poly L[i])) := by simp [hi, encQ]
   have hsd := hside L[i] (List.getElem_mem hi)
   have hpq := hpl L[i] (List.getElem_mem hi)
   have hFq := (hL.mem L[i]).1 (List.getElem_mem hi)
   generalize L[i] = q at *
   obtain ⟨p, hp⟩ : ∃ p, poly q = p := ⟨_, rfl⟩
   rw [hp] at hpq hgq hsd
   have hbq := isF_bd hl hFq
   have gq : ∀ {β : Type} {g : D -> Option β} {y : β}, g (encF q p) = some y -> (Option.bind (D.asSl (.sl (L.map (encQ poly)))) fun l33 => Option.bind (D.idx (I (i : Int)) (List.length l33)) fun i34 => Option.bind (l33[i34]?) g) = some y := fun h =>
     bind_eq (z := L.map (encQ poly)) rfl (bind_eq (z := i) (by rw [mapQ_len]; exact idx_n hi) (bind_eq hgq h))
   refine bind_eq (z := L.map (encQ poly)) rfl (bind_eq b_lss (bind_eq tr_b (iteT (by show ((i : Int) < ((L.map (encQ poly)).length : Int)); rw [mapQ_len]; omega) ?_)))
   refine lp_forA (fun k s => s = [I (k : Int)]) l.length 0 (Nat.zero_le _) rfl (fun k hk s hJ => ?_) (fun s hJ => ?_)
   . subst hJ
     left
     refine ⟨[I ((k + 1 : Nat) : Int)], ?_, rfl⟩
     obtain ⟨s1, s2⟩ := hsd k hk
     refine bind_eq (z := encL l) rfl (bind_eq (z := l.map encV) rfl (bind_eq b_lss (bind_eq tr_b (iteT (by show ((k : Int) < ((l.map encV).length : Int)); rw [mapV_len]; omega) ?_))))
     refine lp_forA (fun j s => s = [.bool ((p.take j).any fun x => decide (x = k)), I (j : Int)]) p.length 0 (Nat.zero_le _) rfl (fun j hj s hJ => ?_) (fun s hJ => ?_)
     . subst hJ
       left
       refine ⟨[.bool ((p.take (j + 1)).any fun x => decide (x = k)), I ((j + 1 : Nat) : Int)], ?_, rfl⟩
       refine gq (bind_eq (z := .sl (enumN p)) rfl (bind_eq (z := enumN p) rfl (bind_eq b_lss (bind_eq tr_b (iteT (by show ((j : Int) < ((enumN p).length : Int)); rw [enumN_len]; omega) ?_)))))
       have eB : ((p.take (j + 1)).any fun x => decide (x = k)) = (((p.take j).any fun x => decide (x = k)) || decide (p.getD j 0 = k)) := by
         rw [List.take_succ_eq_append_getElem hj, List.any_append]; simp [List.getD, hj]
       rw [eB]
       generalize ((p.take j).any fun x => decide (x = k)) = b0
       refine bind_eq tr_b (bind_eq (z := b0 || decide (p.getD j 0 = k)) ?_ (bind_eq (b_add (inR_nat (i := j) (by omega))) rfl))
       cases b0
       . rw [if_neg (by decide), Bool.false_or]
         refine gq (bind_eq (z := .sl (enumN p)) rfl (bind_eq (z := enumN p) rfl (bind_eq (idxE hj) (bind_eq (enumN_getD hj) ?_))))
         show D.truth (D.bool (D.beq (I ((p.getD j 0 : Nat) : Int)) (I (k : Int)))) = _
         rw [beq_nat]; rfl
       . rfl
     . subst hJ
       rw [List.take_length]
       refine ⟨_, gq (bind_eq (z := .sl (enumN p)) rfl (bind_eq (z := enumN p) rfl (bind_eq b_lss (bind_eq tr_b (iteF (by show ¬ ((p.length : Int) < ((enumN p).length : Int)); rw [enumN_len]; omega) rfl))))), ?_⟩
       have hbk : bd MV (pt l k) := hl _ (by simp [pt, List.getD, hk])
       have hgk : (l.map encV)[k]? = some (encV (pt l k)) := by simp [pt, List.getD, hk]
       have hdb := bd_dot hbq hbk
       have hq2 : inR q.2 := by
         obtain ⟨i', _, _, j1, j2, j3, _, _, j4⟩ := hFq.ex
         have := bd_dot hbq (hl (pt l i') (by simp [pt, List.getD, show i' < l.length by omega]))
         unfold MV at this
         simp only [inR]; omega
       unfold MV at hdb
       refine gq (bind_eq (z := encV q.1) rfl (bind_eq (z := encL l) rfl (bind_eq (z := l.map encV) rfl (bind_eq (z := k) (by rw [mapV_len]; exact idx_n hk) (bind_eq hgk (bind_eq ((hc 33 _ (by decide)).trans (c33 (n + 4) hbq hbk (by decide) (by unfold MV; decide) (by unfold MV; decide))) ?_))))))
       refine gq (bind_eq (z := I q.2) rfl (bind_eq ((hc 34 _ (by decide)).trans (c34 (n + 7) hq2)) (bind_eq ((hc 32 _ (by decide)).trans (c32 (n + 7) (In.of (by simp only [inR]; omega)) (In.of hq2))) (bind_eq b_gtr (bind_eq tr_b (bind_eq (z := false) ?_ (bind_eq (z := false) rfl ?_)))))))
       . refine iteF (by unfold cmpZ; split; · omega
                         . split <;> omega) ?_
         have : (p.any fun x => decide (x = k)) = D.beq (I (cmpZ (V.dot q.1 (pt l k)) q.2)) (D.int .i64 0) := by
           rw [show D.beq (I (cmpZ (V.dot q.1 (pt l k)) q.2)) (D.int .i64 0) = decide (cmpZ (V.dot q.1 (pt l k)) q.2 = 0) from beq_i]
           have e : (p.any fun x => decide (x = k)) = decide (k ∈ p) := by
             rw [Bool.eq_iff_iff]
             simp
           rw [e, decide_eq_decide, s2]
           unfold cmpZ
           constructor
           . intro h; rw [h]; simp
           . intro h
             split at h
             . omega
             . split at h <;> omega
         rw [<- this]
         show D.truth (D.bool (!(D.beq (.bool (p.any fun x => decide (x = k))) (.bool (p.any fun x => decide (x = k)))))) = _
         cases (p.any fun x => decide (x = k)) <;> rfl
       . rw [if_neg (by decide)]
         exact bind_eq (b_add (inR_nat (i := k) (by omega))) rfl
   . subst hJ
     refine ⟨(1, []), bind_eq (z := encL l) rfl (bind_eq (z := l.map encV) rfl (bind_eq b_lss (bind_eq tr_b (iteF (by show ¬ ((l.length : Int) < ((l.map encV).length : Int)); rw [mapV_len]; omega) rfl)))), ?_⟩
     rw [if_neg (by decide)]
     exact bind_eq (b_add (inR_nat (i := i) (by omega))) rfl
 . subst hJ
   refine ⟨(1, []), bind_eq (z := L.map (encQ poly)) rfl (bind_eq b_lss (bind_eq tr_b (iteF (by show ¬ ((L.length : Int) < ((L.map (encQ poly)).length : Int)); rw [mapQ_len]; omega) rfl))), ?_⟩
   rw [if_neg (by decide)]
   exact bind_eq h10 rfl
end Go.Proofs.YtjjjkojfijpeeaaGreat.Sy
end
section
namespace Go.Proofs.YtjjjkojfijpeeaaGreat.Sy
open Go Go.Proofs Go.Proofs.YtjjjkojfijpeeaaGreat.Geo
theorem sig7 : sigF 7 = some ([K3], .bool) := by kernel_rfl
theorem ctr7 {d : D} (h : wt K3 d) : Ctr Tryz.prog [K3] .bool 7 [d] (.bool true) := by
 obtain ⟨l, rfl⟩ := wt_K3 h
 refine L7 lpOk_loopW callM callM_ok [K3] .bool [encC l] (.bool true) sig7 ?_ ⟨_, [], rfl, h, rfl⟩
 exact law7 0 l (fun f xs hf => by unfold callM; rw [if_neg hf]) (by unfold callM; rw [if_pos rfl]; exact sanity_val)
end Go.Proofs.YtjjjkojfijpeeaaGreat.Sy
end
section
namespace Go.Proofs.YtjjjkojfijpeeaaGreat
open Go Go.ChangeShapes Go.WideShapes Go.ChangeAt Go.RowKit
namespace Sy
theorem lay25 : layB Tryz.prog K3 25 = true := by kernel_rfl
theorem under4 : Tryz.prog.underlying 4 = some .bool := by kernel_rfl
theorem DR0_of {W : World} {S : Nat -> Nat -> Prop} {d : D} {cs : Array Value} (h : wt K3 d) (k : CRl W S d.flat (Value.agg cs).cells.toList) : DR0 W S d (.agg cs) := by
 obtain ⟨l, rfl, _⟩ := h
 exact ⟨⟨_, rfl⟩, k⟩
theorem bool_of {W : World} {S : Nat -> Nat -> Prop} {b : Bool} {v : Value} (h : DR W S (.bool b) v) : v = .bool b := by
 obtain ⟨h1, h2⟩ := (h : DR0 W S (.bool b) v)
 have h3 := (CRl_leaf (by intro d hd; simp only [D.flat, List.mem_singleton] at hd; subst hd; rfl)).1 h2
 exact cells_single h1 (by simpa [D.flat, valOf] using h3)
theorem agg_of {P : Program} {ts : List Ty} {t : TypeId} (hl : layB P (.st ts) t = true) {W : World} {base : Nat} {v : Value} (h : Value.okWide P W .any base t v) : ∃ cs, v = .agg cs := by
 obtain ⟨fs, hu, _⟩ := lay_st hl
 obtain ⟨cs, h1, _⟩ := okWide_struct hu h
 exact ⟨cs, h1⟩
end Sy
theorem ownT : ownKnob Tryz.prog.godebug = none := by kernel_rfl
theorem laidOutT : laidOutB Tryz.prog = true := by kernel_rfl
theorem params7T : Tryz.f7.params = #[25] := by kernel_rfl
set_option maxRecDepth 100000 in
theorem closed_lifted (os : Os) (started : os.Started) (H : Type) (enc : TypeId × Value -> H) :
   ReturnsInHanded {} Tryz.checked os 7 .any (Rows.hullIsClosedSpec.pre6 enc Tryz.prog Tryz.f7 Rows.hullIsClosedRow.domain false) (Rows.hullIsClosedSpec.post enc Tryz.prog Tryz.f7 false true false false) := by
 refine returnsInHanded_of_change (C := Tryz.checked) ownT started (by kernel_rfl) (show Tryz.prog.funcs[7]? = some Tryz.f7 by kernel_rfl)
   (ChangeSpec.witness6 (enc := enc) (C := Tryz.checked) false ⟨#[], #[.agg #[.slice none 0 0]], []⟩ 8 (by kernel_rfl) (by kernel_rfl) (by kernel_rfl) (by kernel_rfl)) ?_
 intro W base args ds gs before hval0 hW hcnd _
 have hval : ∀ (j : Nat) t v, Tryz.f7.params[j]? = some t -> args[j]? = some v -> Value.okWide Tryz.prog W .any base t v := hval0
 have hW' := hW
 obtain ⟨p, q, hA0, hV, rfl, hfz, hnd⟩ := hW
 have hA : DataW.TrodAll enc Tryz.prog W 0 (fun _ => true) true Tryz.f7.params.toList args.toList ds p := hA0
 rw [params7T] at hA hval
 obtain ⟨v0, d0, rfl, rfl, h0⟩ := trodAll_one hA
 obtain ⟨rfl, rfl⟩ := trodVars_none hV
 clear hA0 hval0
 obtain ⟨cs, rfl⟩ : ∃ cs, v0 = .agg cs := Sy.agg_of (P := Tryz.prog) (t := 25) Sy.lay25 (hval 0 25 v0 rfl rfl)
 have h0' := h0
 obtain ⟨fuel, hf⟩ := h0
 obtain ⟨d, hd1, hd2⟩ := Sy.trod_CR (W := W) Sy.K3 25 fuel _ _ Sy.lay25 (by rfl) hf
 have hctr := Sy.ctr7 hd1 W (Sy.valid W) [.agg cs] (fun _ _ h => Sy.valid_lt h) ⟨_, [], rfl, hd1, rfl⟩ rfl (fun i x v hx hv => by
   cases i with
   | zero => simp at hx hv; subst hx; subst hv; exact Sy.DR0_of hd1 hd2
   | succ i => simp at hx)
 refine Go.Calls.mono hctr fun e W' he => ?_
 obtain ⟨v, rfl, ⟨os', dr, hdr, rfl⟩, _, hv⟩ := he
 have hv' : v = .bool true := Sy.bool_of hv
 subst hv'
 have hb : Below W.heap.size W (grown W os' dr) := ⟨rfl, rfl, rfl, by simp [grown], fun k hk => grown_heap_old W os' dr hk⟩
 have hlt : ∀ x ∈ p, x.block < W.heap.size := fun x hx => by simpa using hW'.lt x (by simpa using hx)
 exact ⟨_, rfl, _, _, _, [], p, [], hW', trodAll_mk1 ((Go.RowKit.shut_bool (P := Tryz.prog) Sy.under4 true)), trodAll_mk1 (Below.trod laidOutT (by kernel_rfl) (of_decide_eq_true (by kernel_rfl)) h0' hb hlt), rfl, hb.frame _, fun h => by cases h⟩
theorem hullIsClosed_holds : Rows.HullIsClosedSaid :=
 OpenClaim.holds_of_wide 7 Tryz.f7 rfl rfl rfl rfl rfl rfl rfl ⟨rfl, rfl, rfl, rfl, rfl⟩ rfl rfl rfl rfl rfl (by kernel_rfl) (show Tryz.prog.funcs[7]? = some Tryz.f7 by kernel_rfl) (by kernel_rfl)
   (of_decide_eq_true (by kernel_rfl)) (by unfold Func.isWrapper; first | (rw [if_pos (by decide +kernel)]; kernel_rfl) | (rw [if_neg (by decide +kernel)]; exact ⟨rfl, rfl⟩))
   (fun os started H enc _ => closed_lifted os started H enc)
end Go.Proofs.YtjjjkojfijpeeaaGreat
end
