/- Part 13 of the proof that HullIsClosed answers true at every input -/
import Derived.Test.YtjjjkojfijpeeaaGreatClosed12
set_option linter.unusedVariables false
set_option linter.unusedSimpArgs false
set_option linter.unnecessarySimpa false
section
set_option linter.unusedVariables false
namespace Go.Proofs.YtjjjkojfijpeeaaGreat.Sy
open Go Go.Proofs Go.Proofs.YtjjjkojfijpeeaaGreat.Geo
theorem lp_some {body : Bd} {s0 : List D} {r : Nat × List D} (h : Option.bind (lpW body s0) some = some r) : lpW body s0 = some r := by
 cases hb : lpW body s0 with
 | none => rw [hb] at h; cases h
 | some z => rw [hb] at h; exact h
theorem onPl_pre {P : Nat -> V} {m : V} {d : Int} {i N a : Nat} (h : (OnPl P i m d).head? = some a) (hi : i <= N) : (OnPl P N m d).head? = some a := by
 induction N with
 | zero => have : i = 0 := by omega
           subst this; exact h
 | succ N ih =>
   by_cases e : i = N + 1
   . rw [<- e]; exact h
   . have := ih (by omega)
     rw [onPl_succ]
     split
     . rw [List.head?_append, this]; rfl
     . exact this
theorem chain_loop2 {body : Bd} {S : Nat -> Nat -> Prop} {a M : Nat} {G : Nat -> Prop} (hS : ∀ c b, G c -> S c b -> G b)
   (hstep : ∀ (c b : Nat) (out : List Nat), G c -> S c b -> b ≠ a -> out.length <= M -> body [.sl (enumN out), I (c : Int)] = some (.inl [.sl (enumN (out ++ [c])), I (b : Int)]))
   (hend : ∀ (c : Nat) (out : List Nat), G c -> S c a -> out.length <= M -> body [.sl (enumN out), I (c : Int)] = some (.inr (0, [.sl (enumN (out ++ [c]))]))) :
   ∀ {c : Nat} {p : List Nat}, Chain S a c p -> G c -> ∀ out : List Nat, (out ++ p).length <= M -> lpW body [.sl (enumN out), I (c : Int)] = some (0, [.sl (enumN (out ++ p))])
 | c, _, .done s, hc, out, hl => loopW_end (hend c out hc s (by simp at hl; omega))
 | c, _, .step (y := y) (l := p) s hy k, hc, out, hl => by
   have h1 := hstep c y out hc s hy (by simp at hl; omega)
   rw [show lpW body [.sl (enumN out), I (c : Int)] = lpW body [.sl (enumN (out ++ [c])), I (y : Int)] from loopW_next h1]
   have := chain_loop2 hS hstep hend k (hS c y hc s) (out ++ [c]) (by simpa using hl)
   rw [this]; simp
theorem neg1 : ¬ (0 : Int) <= -1 := by decide
theorem p111 (n : Nat) {l : List V} (hl : ∀ x ∈ l, bd MV x) (hlen : l.length <= 100) (hs : Srt l) {m : V} {d : Int} (hF : IsF (pt l) l.length m d) (hm : bd 549755813888 m) {p : List Nat} (hp : IsPoly (pt l) l.length m d p) :
   cA (n + 4) 111 [encL l, encV m, I d] = some (.sl (enumN p)) := by
 have F := hF.flat hs
 obtain ⟨p', hp', hnd, hmem⟩ := hF.poly hs
 have e := IsPoly.eq hs hF hp hp'
 subst e
 obtain ⟨a, ha1, hch⟩ := hp
 have ha : a ∈ OnPl (pt l) l.length m d := List.mem_of_mem_head? (by rw [ha1]; rfl)
 have hlt : ∀ k ∈ OnPl (pt l) l.length m d, k < l.length := fun k hk => (mem_onPl.1 hk).1
 have hdk : ∀ k ∈ OnPl (pt l) l.length m d, V.dot m (pt l k) = d := fun k hk => (mem_onPl.1 hk).2
 have honl : (OnPl (pt l) l.length m d).length <= l.length := by
   unfold OnPl
   exact Nat.le_trans (List.length_filter_le _ _) (by rw [List.length_range]; omega)
 have hpl : p.length <= l.length := Nat.le_trans (List.Nodup.length_le_of_subset hnd fun z hz => ((hmem z).1 hz).1) honl
 have ll : (l.map encV).length = l.length := List.length_map ..
 rw [u111]
 unfold F111
 have hdot := fun (i : Nat) (hi : i < l.length) => c107 (n + 2) hm (hl _ (memD hi)) (by decide)
 refine bind_eq (z := (0, [.sl [], I (a : Int)])) ?_ ?_
 . refine lp_some (lp_forA (fun i s => s = [.sl [], encB ((OnPl (pt l) i m d).head?), I (i : Int)]) l.length 0 (Nat.zero_le _) rfl (fun i hi s hJ => ?_) (fun s hJ => ?_))
   . subst hJ
     cases hh : (OnPl (pt l) i m d).head? with
     | some a' =>
       right
       have := onPl_pre hh (Nat.le_of_lt hi)
       rw [ha1] at this; cases this
       refine ⟨(0, [.sl [], I (a : Int)]), ?_, rfl⟩
       refine bind_eq (z := l.map encV) rfl (bind_eq b_lss (bind_eq tr_b (bind_eq (z := false) (iteT (by show ((i : Int) < ((l.map encV).length : Int)); rw [ll]; omega) ?_) (bind_eq tr_b ?_))))
       . refine bind_eq b_lss ?_
         rw [decide_eq_false (by omega)]; rfl
       . rfl
     | none =>
       left
       have hnil : OnPl (pt l) i m d = [] := by simpa using hh
       refine ⟨[.sl [], encB ((OnPl (pt l) (i + 1) m d).head?), I ((i + 1 : Nat) : Int)], ?_, rfl⟩
       refine bind_eq (z := l.map encV) rfl (bind_eq b_lss (bind_eq tr_b (bind_eq (z := true) (iteT (by show ((i : Int) < ((l.map encV).length : Int)); rw [ll]; omega) (bind_eq (b_lss (a := -1) (b := 0)) rfl)) (bind_eq tr_b ?_))))
       rw [if_pos rfl]
       refine bind_eq (z := (0, [.sl [], encB ((OnPl (pt l) (i + 1) m d).head?)])) ?_ (bind_eq (b_add (inR_nat (i := i) (by omega))) rfl)
       refine bind_eq (z := l.map encV) rfl (bind_eq (z := i) (by rw [ll]; exact idx_n hi) (bind_eq (getDL hi) (bind_eq (hdot i hi) ?_)))
       rw [beq_i, onPl_succ, hnil]
       by_cases hon : V.dot m (pt l i) = d
       . rw [if_pos hon, decide_eq_true (show V.dot m (l.getD i V.zero) = d from hon)]; rfl
       . rw [if_neg hon, decide_eq_false (show ¬ V.dot m (l.getD i V.zero) = d from hon)]; rfl
   . subst hJ
     rw [ha1]
     refine ⟨(0, [.sl [], I (a : Int)]), ?_, rfl⟩
     refine bind_eq (z := l.map encV) rfl (bind_eq b_lss (bind_eq tr_b (bind_eq (z := false) (iteF (by show ¬ ((l.length : Int) < ((l.map encV).length : Int)); rw [ll]; omega) rfl) (bind_eq tr_b rfl))))
 . refine bind_eq (z := (0, [.sl (enumN ([] ++ p))])) ?_ rfl
   refine chain_loop2 (M := l.length) (G := fun c => c ∈ OnPl (pt l) l.length m d) (fun c b hc hb => hb.mem) (fun c b out hc hb hba hol => ?_) (fun c out hc hb hol => ?_) hch ha [] (by simpa using hpl)
   all_goals
     obtain ⟨b', hbb, hb'⟩ : ∃ b', (b' = a \/ b' ≠ a) /\ Side m (pt l) (OnPl (pt l) l.length m d) c b' := by first | exact ⟨_, Classical.em _, hb⟩
     refine bind_eq (z := l.map encV) rfl (bind_eq b_leq (bind_eq tr_b (iteT (by show (((enumN out).length : Int) <= ((l.map encV).length : Int)); rw [ll, enumN_len]; omega) ?_)))
     rw [if_pos (by simp only [g0, D.els, enumN_len, List.length_cons, List.length_nil]; omega)]
     have happ : enumN out ++ [I (c : Int)] = enumN (out ++ [c]) := by simp [enumN]
     have hbl := hlt b' hb'.mem
     refine bind_eq (z := (0, [.sl (enumN (out ++ [c])), I (b' : Int)])) ?_ ?_
     . refine lp_some (lp_forA (fun i s => s = [.sl (enumN (out ++ [c])), encB (if b' < i then some b' else none), I (i : Int)]) l.length 0 (Nat.zero_le _) (by simp [g0, g1, D.els, happ, encB]) (fun i hi s hJ => ?_) (fun s hJ => ?_))
       . subst hJ
         by_cases hbi : b' < i
         . right
           rw [if_pos hbi]
           refine ⟨(0, [.sl (enumN (out ++ [c])), I (b' : Int)]), ?_, rfl⟩
           refine bind_eq (z := l.map encV) rfl (bind_eq b_lss (bind_eq tr_b (bind_eq (z := false) (iteT (by show ((i : Int) < ((l.map encV).length : Int)); rw [ll]; omega) ?_) (bind_eq tr_b ?_))))
           . refine bind_eq b_lss ?_
             rw [decide_eq_false (by omega)]; rfl
           . rfl
         . left
           rw [if_neg hbi]
           refine ⟨[.sl (enumN (out ++ [c])), encB (if b' < i + 1 then some b' else none), I ((i + 1 : Nat) : Int)], ?_, rfl⟩
           refine bind_eq (z := l.map encV) rfl (bind_eq b_lss (bind_eq tr_b (bind_eq (z := true) (iteT (by show ((i : Int) < ((l.map encV).length : Int)); rw [ll]; omega) (bind_eq (b_lss (a := -1) (b := 0)) rfl)) (bind_eq tr_b ?_))))
           rw [if_pos rfl]
           refine bind_eq (z := (0, [.sl (enumN (out ++ [c])), encB (if b' < i + 1 then some b' else none)])) ?_ (bind_eq (b_add (inR_nat (i := i) (by omega))) rfl)
           have hcl := hlt c hc
           by_cases hon : i ≠ c /\ V.dot m (pt l i) = d
           . have hion : i ∈ OnPl (pt l) l.length m d := mem_onPl.2 ⟨hi, hon.2⟩
             refine bind_eq (z := true) (by show D.truth (D.bool (!(D.beq (I (i : Int)) (I (c : Int))))) = _; rw [beq_nat, decide_eq_false hon.1]; rfl) (bind_eq (z := true) ?_ (bind_eq tr_b ?_))
             . rw [if_pos rfl]
               refine bind_eq (z := l.map encV) rfl (bind_eq (z := i) (by rw [ll]; exact idx_n hi) (bind_eq (getDL hi) (bind_eq (hdot i hi) ?_)))
               rw [beq_i, decide_eq_true (show V.dot m (l.getD i V.zero) = d from hon.2)]; rfl
             . rw [if_pos rfl]
               refine bind_eq (z := l.map encV) rfl (bind_eq (z := c) (by rw [ll]; exact idx_n hcl) (bind_eq (getDL hcl) (bind_eq (z := l.map encV) rfl (bind_eq (z := i) (by rw [ll]; exact idx_n hi) (bind_eq (getDL hi) (bind_eq (c156 n hl hlen hF.nz.1 hm hcl hi (hdk c hc) hon.2) (bind_eq tr_b ?_)))))))
               by_cases hib : i = b'
               . subst hib
                 rw [(sideB_iff hion hon.1).2 hb', if_pos rfl, if_pos (by omega)]; rfl
               . have : sideB l m d c i = false := by
                   rw [Bool.eq_false_iff]; intro h
                   exact hib (Side.unique F hc ((sideB_iff hion hon.1).1 h) hb')
                 rw [this, if_neg (show ¬ b' < i + 1 by omega)]; rfl
           . have hib : i ≠ b' := fun e => hon (by subst e; exact ⟨hb'.ne, hdk _ hb'.mem⟩)
             rw [if_neg (show ¬ b' < i + 1 by omega)]
             by_cases hic : i = c
             . subst hic
               refine bind_eq (z := false) (by show D.truth (D.bool (!(D.beq (I (i : Int)) (I (i : Int))))) = _; rw [beq_nat, decide_eq_true rfl]; rfl) (bind_eq (z := false) rfl (bind_eq tr_b rfl))
             . have hnd : ¬ V.dot m (l.getD i V.zero) = d := fun h => hon ⟨hic, h⟩
               refine bind_eq (z := true) (by show D.truth (D.bool (!(D.beq (I (i : Int)) (I (c : Int))))) = _; rw [beq_nat, decide_eq_false hic]; rfl) (bind_eq (z := false) ?_ (bind_eq tr_b rfl))
               rw [if_pos rfl]
               refine bind_eq (z := l.map encV) rfl (bind_eq (z := i) (by rw [ll]; exact idx_n hi) (bind_eq (getDL hi) (bind_eq (hdot i hi) ?_)))
               rw [beq_i, decide_eq_false hnd]; rfl
       . subst hJ
         rw [if_pos hbl]
         refine ⟨(0, [.sl (enumN (out ++ [c])), I (b' : Int)]), ?_, rfl⟩
         exact bind_eq (z := l.map encV) rfl (bind_eq b_lss (bind_eq tr_b (bind_eq (z := false) (iteF (by show ¬ ((l.length : Int) < ((l.map encV).length : Int)); rw [ll]; omega) rfl) (bind_eq tr_b rfl))))
     . have hu := Side.unique F hc hb hb'
       subst hu
       first
         | exact bind_eq (z := true) (by show D.truth (D.bool (D.beq (I (_ : Int)) (I (_ : Int)))) = _; rw [beq_nat, decide_eq_true rfl]; rfl) (bind_eq (z := true) rfl (bind_eq tr_b rfl))
         | exact bind_eq (z := false) (by show D.truth (D.bool (D.beq (I (_ : Int)) (I (_ : Int)))) = _; rw [beq_nat, decide_eq_false hba]; rfl) (bind_eq (z := false) (by rw [if_neg (by decide)]; refine bind_eq b_lss ?_; rw [decide_eq_false (by omega)]; rfl) (bind_eq tr_b rfl))
end Go.Proofs.YtjjjkojfijpeeaaGreat.Sy
end
section
set_option linter.unusedVariables false
namespace Go.Proofs.YtjjjkojfijpeeaaGreat.Sy
open Go Go.Proofs Go.Proofs.YtjjjkojfijpeeaaGreat.Geo
def dval : List Nat -> Nat
 | [] => 0
 | d :: l => d + 65536 * dval l
def dl (l : List Nat) : Prop := ∀ d ∈ l, d < 65536
theorem dl.cons {d : Nat} {l : List Nat} (hd : d < 65536) (h : dl l) : dl (d :: l) := fun x hx => by
 rcases List.mem_cons.1 hx with rfl | hx
 . exact hd
 . exact h x hx
theorem dl.append {a b : List Nat} (ha : dl a) (hb : dl b) : dl (a ++ b) := fun x hx => by
 rcases List.mem_append.1 hx with hx | hx
 . exact ha x hx
 . exact hb x hx
theorem dl.getD {l : List Nat} (h : dl l) (i : Nat) : l.getD i 0 < 65536 := by
 simp only [List.getD]
 cases hi : l[i]? with
 | none => simp
 | some x => exact h x (List.mem_of_getElem? hi)
def digs (m : Nat) : List Nat := if h : m = 0 then [] else m % 65536 :: digs (m / 65536)
termination_by m
decreasing_by omega
theorem digs_zero : digs 0 = [] := by unfold digs; simp
theorem digs_pos {m : Nat} (h : m ≠ 0) : digs m = m % 65536 :: digs (m / 65536) := by rw [digs, dif_neg h]
theorem digs_cons {d v : Nat} (hd : d < 65536) (h : d + 65536 * v ≠ 0) : digs (d + 65536 * v) = d :: digs v := by
 rw [digs_pos h, show (d + 65536 * v) % 65536 = d by omega, show (d + 65536 * v) / 65536 = v by omega]
theorem dval_digs (m : Nat) : dval (digs m) = m := by
 induction m using Nat.strongRecOn with
 | _ m ih =>
   by_cases h : m = 0
   . subst h; rw [digs_zero]; rfl
   . rw [digs_pos h, dval, ih _ (by omega)]; omega
theorem dl_digs (m : Nat) : dl (digs m) := by
 induction m using Nat.strongRecOn with
 | _ m ih =>
   by_cases h : m = 0
   . subst h; rw [digs_zero]; intro d hd; cases hd
   . rw [digs_pos h]; exact dl.cons (by omega) (ih _ (by omega))
theorem digs_nil {m : Nat} : digs m = [] ↔ m = 0 := by
 constructor
 . intro h; have := dval_digs m; rw [h] at this; exact this.symm
 . rintro rfl; exact digs_zero
theorem digs_getD (i : Nat) : ∀ m, (digs m).getD i 0 = m / 65536 ^ i % 65536 := by
 induction i with
 | zero =>
   intro m
   by_cases h : m = 0
   . subst h; rw [digs_zero]; simp
   . rw [digs_pos h]; simp
 | succ i ih =>
   intro m
   by_cases h : m = 0
   . subst h; rw [digs_zero]; simp
   . rw [digs_pos h]
     show (digs (m / 65536)).getD i 0 = _
     rw [ih, Nat.div_div_eq_div_mul, Nat.pow_succ, Nat.mul_comm 65536]
theorem digs_len (k : Nat) : ∀ m, m < 65536 ^ k -> (digs m).length <= k := by
 induction k with
 | zero => intro m h; have : m = 0 := by simpa using h
           subst this; rw [digs_zero]; simp
 | succ k ih =>
   intro m h
   by_cases h0 : m = 0
   . subst h0; rw [digs_zero]; simp
   . rw [digs_pos h0, List.length_cons]
     have := ih (m / 65536) (by rw [Nat.pow_succ] at h; exact Nat.div_lt_of_lt_mul (by rw [Nat.mul_comm]; exact h))
     omega
theorem dval_append (a b : List Nat) : dval (a ++ b) = dval a + 65536 ^ a.length * dval b := by
 induction a with
 | nil => simp [dval]
 | cons d a ih =>
   simp only [List.cons_append, dval, ih, List.length_cons, Nat.pow_succ]
   rw [Nat.mul_add, <- Nat.mul_assoc, Nat.mul_comm 65536 (65536 ^ a.length)]
   omega
theorem dval_zeros (l : List Nat) (n : Nat) : dval (l ++ List.replicate n 0) = dval l := by
 rw [dval_append]
 have : ∀ n, dval (List.replicate n 0) = 0 := fun n => by
   induction n with
   | zero => rfl
   | succ n ih => rw [List.replicate_succ, dval, ih]
 rw [this]; simp
def vt (l : List Nat) : Nat -> Nat
 | 0 => 0
 | k + 1 => vt l k + l.getD k 0 * 65536 ^ k
theorem vt_cons (d : Nat) (l : List Nat) (k : Nat) : vt (d :: l) (k + 1) = d + 65536 * vt l k := by
 induction k with
 | zero => simp [vt]
 | succ k ih =>
   rw [vt, ih, vt, Nat.mul_add]
   have : (d :: l).getD (k + 1) 0 = l.getD k 0 := rfl
   rw [this, Nat.pow_succ, <- Nat.mul_assoc, <- Nat.mul_assoc, Nat.mul_comm 65536 (l.getD k 0), Nat.mul_assoc, Nat.mul_comm (65536 ^ k), <- Nat.mul_assoc]
   omega
theorem vt_len (l : List Nat) : vt l l.length = dval l := by
 induction l with
 | nil => rfl
 | cons d l ih => rw [List.length_cons, vt_cons, ih]; rfl
theorem vt_dval {l : List Nat} {k : Nat} (h : l.length <= k) : vt l k = dval l := by
 obtain ⟨j, rfl⟩ : ∃ j, k = l.length + j := ⟨k - l.length, by omega⟩
 clear h
 induction j with
 | zero => exact vt_len l
 | succ j ih =>
   rw [<- Nat.add_assoc, vt, ih]
   have : l.getD (l.length + j) 0 = 0 := by simp [List.getD]
   rw [this]; simp
theorem vt_lt {l : List Nat} (h : dl l) (k : Nat) : vt l k < 65536 ^ k := by
 induction k with
 | zero => simp [vt]
 | succ k ih =>
   have h1 := h.getD k
   have h2 : l.getD k 0 * 65536 ^ k <= 65535 * 65536 ^ k := Nat.mul_le_mul_right _ (by omega)
   rw [vt, Nat.pow_succ, Nat.mul_comm (65536 ^ k)]
   omega
theorem dval_lt {l : List Nat} (h : dl l) : dval l < 65536 ^ l.length := by rw [<- vt_len]; exact vt_lt h _
def trimN : List Nat -> List Nat
 | [] => []
 | d :: l => match trimN l with
   | [] => if d = 0 then [] else [d]
   | x :: t => d :: x :: t
theorem trimN_eq {l : List Nat} (h : dl l) : trimN l = digs (dval l) := by
 induction l with
 | nil => rw [dval, digs_zero]; rfl
 | cons d l ih =>
   have hd : d < 65536 := h d List.mem_cons_self
   have ih := ih fun x hx => h x (List.mem_cons_of_mem _ hx)
   rw [trimN, ih, dval]
   by_cases hv : dval l = 0
   . rw [hv, digs_zero]
     by_cases h0 : d = 0
     . subst h0; simp [digs_zero]
     . rw [digs_cons hd (by omega), digs_zero]; simp [h0]
   . rw [digs_cons hd (by omega), digs_pos hv]
theorem trimN_zero {l : List Nat} (h : ∀ i, i < l.length -> l.getD i 0 = 0) : trimN l = [] := by
 induction l with
 | nil => rfl
 | cons d l ih =>
   have h0 : d = 0 := h 0 (by simp)
   rw [trimN, ih (fun i hi => h (i + 1) (by simpa using hi)), h0]; simp
theorem trim_take : ∀ {l : List Nat} {n : Nat}, n <= l.length -> (∀ i, n <= i -> i < l.length -> l.getD i 0 = 0) -> (n = 0 \/ l.getD (n - 1) 0 ≠ 0) -> l.take n = trimN l
 | [], n, _, _, _ => by simp [trimN]
 | d :: l, 0, _, hz, _ => by rw [trimN_zero (fun i hi => hz i (by omega) hi)]; rfl
 | d :: l, n + 1, hn, hz, hl => by
   have hl' : (d :: l).getD n 0 ≠ 0 := by rcases hl with h | h; · omega
                                          . exact h
   have ih : l.take n = trimN l := trim_take (l := l) (n := n) (by simpa using hn) (fun i h1 h2 => hz (i + 1) (by omega) (by simpa using h2)) (by
     cases n with
     | zero => exact .inl rfl
     | succ k => exact .inr hl')
   rw [List.take_succ_cons, ih, trimN]
   cases ht : trimN l with
   | nil =>
     rw [ht] at ih
     have : n = 0 := by
       cases n with
       | zero => rfl
       | succ k => cases l with
         | nil => simp at hn
         | cons e l => simp at ih
     subst this
     have : d ≠ 0 := hl'
     simp [this]
   | cons x t => rfl
end Go.Proofs.YtjjjkojfijpeeaaGreat.Sy
end
section
set_option linter.unusedVariables false
namespace Go.Proofs.YtjjjkojfijpeeaaGreat.Sy
open Go Go.Proofs Go.Proofs.YtjjjkojfijpeeaaGreat.Geo
theorem enumN_at {l : List Nat} {i : Nat} (h : i < l.length) : (enumN l)[i]? = some (I (l.getD i 0 : Nat)) := enumN_getD h
theorem enumN_app (a : List Nat) (d : Nat) : enumN a ++ [I (d : Int)] = enumN (a ++ [d]) := by simp [enumN]
theorem c140 (n : Nat) {l : List Nat} (hl : l.length <= 1000000) : cA (n + 1) 140 [.sl (enumN l)] = some (.sl (enumN (trimN l))) := by
 rw [u140]
 unfold F140
 refine bind_eq (z := enumN l) rfl ?_
 have fin : ∀ j : Nat, j <= l.length -> (∀ i, j <= i -> i < l.length -> l.getD i 0 = 0) -> (j = 0 \/ l.getD (j - 1) 0 ≠ 0) -> (Option.bind (D.asSl (.sl (enumN l))) fun l13 => Option.bind (D.natOf (I (j : Int))) fun i14 => Option.bind (D.cut l13 0 i14) fun l15 => some (D.sl l15)) = some (.sl (enumN (trimN l))) := by
   intro j hj hz hd
   refine bind_eq (z := enumN l) rfl (bind_eq (z := j) (by simp [D.natOf]) (bind_eq (z := enumN (l.take j)) ?_ (by rw [trim_take hj hz hd])))
   simp only [D.cut]
   rw [if_pos ⟨Nat.zero_le _, by rw [enumN_len]; exact hj⟩]
   simp [enumN, List.map_take]
 refine lp_for (fun i s => s = [I ((l.length - i : Nat) : Int)] /\ ∀ k, l.length - i <= k -> k < l.length -> l.getD k 0 = 0) l.length 0 (Nat.zero_le _) ⟨by rw [enumN_len]; rfl, fun k h1 h2 => by omega⟩ (fun i hi s hJ => ?_) (fun s hJ => ?_)
 . obtain ⟨rfl, hz⟩ := hJ
   have hb : inR (((l.length - i : Nat) : Int) - 1) := by simp only [inR]; omega
   have e1 : ((l.length - i : Nat) : Int) - 1 = ((l.length - i - 1 : Nat) : Int) := by omega
   have hx : (enumN l)[l.length - i - 1]? = some (I (l.getD (l.length - i - 1) 0 : Nat)) := enumN_at (by omega)
   by_cases h0 : l.getD (l.length - i - 1) 0 = 0
   . left
     refine ⟨[I ((l.length - (i + 1) : Nat) : Int)], ?_, rfl, fun k h1 h2 => ?_⟩
     . refine bind_eq b_gtr (bind_eq tr_b (bind_eq (z := true) (iteT (by show ((l.length - i : Nat) : Int) > 0; omega) ?_) (bind_eq tr_b ?_)))
       . refine bind_eq (b_sub hb) (bind_eq (z := enumN l) rfl (bind_eq (z := l.length - i - 1) (by rw [e1, enumN_len]; exact idx_n (by omega)) (bind_eq hx ?_)))
         rw [h0]; rfl
       . rw [if_pos rfl]
         refine bind_eq (b_sub hb) ?_
         rw [e1, Nat.sub_sub]
     . by_cases e : k = l.length - i - 1
       . rw [e]; exact h0
       . exact hz k (by omega) h2
   . right
     refine ⟨(0, [I ((l.length - i : Nat) : Int)]), ?_, fin _ (by omega) hz (.inr h0)⟩
     refine bind_eq b_gtr (bind_eq tr_b (bind_eq (z := false) (iteT (by show ((l.length - i : Nat) : Int) > 0; omega) ?_) (bind_eq tr_b rfl)))
     refine bind_eq (b_sub hb) (bind_eq (z := enumN l) rfl (bind_eq (z := l.length - i - 1) (by rw [e1, enumN_len]; exact idx_n (by omega)) (bind_eq hx ?_)))
     rw [beq_i, decide_eq_false (by omega)]; rfl
 . obtain ⟨rfl, hz⟩ := hJ
   refine ⟨(0, [I ((l.length - l.length : Nat) : Int)]), ?_, fin _ (by omega) hz (.inl (by omega))⟩
   refine bind_eq b_gtr (bind_eq tr_b (bind_eq (z := false) (iteF (by show ¬ ((l.length - l.length : Nat) : Int) > 0; omega) rfl) (bind_eq tr_b rfl)))
theorem c141 (n : Nat) (l : List Nat) (k : Nat) : cA (n + 1) 141 [.sl (enumN l), I (k : Int)] = some (I (l.getD k 0 : Nat)) := by
 rw [u141]
 unfold F141
 refine bind_eq (z := enumN l) rfl (bind_eq b_lss (bind_eq tr_b ?_))
 by_cases h : k < l.length
 . refine iteT (by show (k : Int) < ((enumN l).length : Int); rw [enumN_len]; omega) ?_
   exact bind_eq (z := enumN l) rfl (bind_eq (z := k) (by rw [enumN_len]; exact idx_n h) (bind_eq (enumN_at h) rfl))
 . refine iteF (by show ¬ (k : Int) < ((enumN l).length : Int); rw [enumN_len]; omega) ?_
   have : l.getD k 0 = 0 := by simp [List.getD, h]
   rw [this]; rfl
def limb (l : List Nat) (i : Nat) : Nat := l.getD (2 * i) 0 + 65536 * l.getD (2 * i + 1) 0
abbrev U (n : Nat) : D := .int .u32 (n : Int)
def limbsD (l : List Nat) : D := .st ((List.range 16).map fun i => U (limb l i))
def encN (x : Int) : D := .st [.bool false, .bool (decide (x < 0)), limbsD (digs x.natAbs)]
theorem limb_lt {l : List Nat} (h : dl l) (i : Nat) : limb l i < 4294967296 := by
 have := h.getD (2 * i); have := h.getD (2 * i + 1); unfold limb; omega
theorem limbsD_fld {l : List Nat} {i : Nat} (h : i < 16) : D.fld (limbsD l) i = some (U (limb l i)) := by simp [limbsD, D.fld, h]
theorem encN_limb {x : Int} {i : Nat} (h : i < 16) : D.get (encN x) [2, i] = some (U (limb (digs x.natAbs) i)) :=
 bind_eq (z := limbsD (digs x.natAbs)) rfl (bind_eq (limbsD_fld h) rfl)
theorem wrapu_id {n : Int} (h : 0 <= n /\ n < 4294967296) : IntKind.wrap .u32 n = n := by
 obtain ⟨h1, h2⟩ := h
 simp only [IntKind.wrap, IntKind.signed, IntKind.bits]
 first
   | omega
   | (simp; omega)
theorem bu_rem (a : Nat) : D.bin .rem (U a) (.int .u32 65536) = some (U (a % 65536)) := by
 simp only [D.bin, if_true, show ¬ (65536 : Int) = 0 by decide, if_false]
 rw [show (65536 : Int) = ((65536 : Nat) : Int) from rfl, <- Int.ofNat_tmod]
theorem bu_quo {a : Nat} (h : a < 4294967296) : D.bin .quo (U a) (.int .u32 65536) = some (U (a / 65536)) := by
 simp only [D.bin, if_true, show ¬ (65536 : Int) = 0 by decide, if_false]
 rw [show (65536 : Int) = ((65536 : Nat) : Int) from rfl, <- Int.ofNat_tdiv, wrapu_id (by omega)]
theorem bu_add {a b : Nat} (h : a + b < 4294967296) : D.bin .add (U a) (U b) = some (U (a + b)) := by
 simp only [D.bin, if_true]
 rw [wrapu_id (by omega)]; simp
theorem bu_mul {a b : Nat} (h : a * b < 4294967296) : D.bin .mul (U a) (U b) = some (U (a * b)) := by
 simp only [D.bin, if_true]
 rw [show (a : Int) * (b : Int) = ((a * b : Nat) : Int) by simp, wrapu_id (by omega)]
theorem conv_ui {a : Nat} (h : a < 4294967296) : D.conv .i64 (U a) = some (I (a : Int)) := by
 simp only [D.conv]; rw [wrap_id (by simp only [inR]; omega)]
theorem conv_iu {a : Nat} (h : a < 4294967296) : D.conv .u32 (I (a : Int)) = some (U a) := by
 simp only [D.conv]; rw [wrapu_id (by omega)]
theorem range_getD (l : List Nat) (k : Nat) : ((List.range k).map fun i => l.getD i 0) = if k <= l.length then l.take k else l ++ List.replicate (k - l.length) 0 := by
 apply List.ext_getElem?
 intro i
 by_cases h : i < k
 . rw [List.getElem?_map, List.getElem?_range h]
   split
   . simp [h, List.getD, show i < l.length by omega]
   . by_cases h2 : i < l.length
     . simp [List.getElem?_append, h2, List.getD]
     . simp [List.getElem?_append, h2, List.getD, List.getElem?_replicate, show i - l.length < k - l.length by omega]
 . rw [List.getElem?_map, show (List.range k)[i]? = none by simp; omega]
   split
   . simp; omega
   . simp; omega
theorem trim_pad {l : List Nat} (hd : dl l) {k : Nat} (hk : l.length <= k) : trimN ((List.range k).map fun i => l.getD i 0) = digs (dval l) := by
 have e : ((List.range k).map fun i => l.getD i 0) = l ++ List.replicate (k - l.length) 0 := by
   rw [range_getD]
   split
   . have : k = l.length := by omega
     subst this; simp
   . rfl
 rw [e, trimN_eq (hd.append (fun x hx => by rw [List.eq_of_mem_replicate hx]; decide)), dval_zeros]
theorem c77 (n : Nat) {x : Int} (hx : x.natAbs < 65536 ^ 32) : cA (n + 2) 77 [encN x] = some (.sl (enumN (digs x.natAbs))) := by
 rw [u77]
 unfold F77
 have hd := dl_digs x.natAbs
 have hlen := digs_len 32 _ hx
 refine lp_for (fun i s => s = [.sl (enumN ((List.range (2 * i)).map fun i => (digs x.natAbs).getD i 0)), I (i : Int)]) 16 0 (Nat.zero_le _) rfl (fun i hi s hJ => ?_) (fun s hJ => ?_)
 . subst hJ
   left
   refine ⟨_, ?_, rfl⟩
   refine bind_eq b_lss (bind_eq tr_b (iteT (by show (i : Int) < 16; omega) ?_))
   have hlt := limb_lt hd i
   have h1 := hd.getD (2 * i)
   refine bind_eq (z := i) (idx_n hi) (bind_eq (encN_limb hi) (bind_eq (bu_rem _) (bind_eq (conv_ui (by omega)) (bind_eq (z := i) (idx_n hi) (bind_eq (encN_limb hi) (bind_eq (bu_quo hlt) (bind_eq (conv_ui (by omega)) ?_)))))))
   rw [if_pos (by simp only [g0, D.els, enumN_len, List.length_map, List.length_range, List.length_cons, List.length_nil]; omega)]
   refine bind_eq (b_add (inR_nat (i := i) (by omega))) ?_
   have e1 : limb (digs x.natAbs) i % 65536 = (digs x.natAbs).getD (2 * i) 0 := by unfold limb; omega
   have e2 : limb (digs x.natAbs) i / 65536 = (digs x.natAbs).getD (2 * i + 1) 0 := by unfold limb; omega
   rw [e1, e2, show 2 * (i + 1) = 2 * i + 1 + 1 by omega, List.range_succ, List.range_succ]
   simp [g0, D.els, enumN]
 . subst hJ
   refine ⟨(0, [.sl (enumN ((List.range (2 * 16)).map fun i => (digs x.natAbs).getD i 0))]), ?_, ?_⟩
   . exact bind_eq b_lss (bind_eq tr_b (iteF (by decide) rfl))
   . refine bind_eq (c140 n (by simp)) ?_
     rw [trim_pad hd hlen, dval_digs]
end Go.Proofs.YtjjjkojfijpeeaaGreat.Sy
end
section
set_option linter.unusedVariables false
namespace Go.Proofs.YtjjjkojfijpeeaaGreat.Sy
open Go Go.Proofs Go.Proofs.YtjjjkojfijpeeaaGreat.Geo
theorem take_getD (l : List Nat) (k j : Nat) : (l.take k).getD j 0 = if j < k then l.getD j 0 else 0 := by
 simp only [List.getD, List.getElem?_take]
 split <;> simp
theorem limbsD_set {l l' : List Nat} {q v : Nat} {a b : D} (hq : q < 16) (h : ∀ i, limb l' i = if i = q then v else limb l i) : D.set (.st [a, b, limbsD l]) [2, q] (U v) = some (.st [a, b, limbsD l']) := by
 have h1 : D.set (limbsD l) [q] (U v) = some (limbsD l') := by
   have e : ((List.range 16).map fun i => U (limb l i))[q]? = some (U (limb l q)) := by simp [hq]
   refine bind_eq e (bind_eq (z := U v) rfl ?_)
   simp only [limbsD, Option.some.injEq, D.st.injEq]
   apply List.ext_getElem?
   intro i
   rw [List.getElem?_set]
   by_cases hi : q = i
   . subst hi
     simp [hq, h]
   . rw [if_neg hi, List.getElem?_map, List.getElem?_map]
     by_cases h16 : i < 16
     . rw [List.getElem?_range h16]; simp [h, show i ≠ q from fun e => hi e.symm]
     . rw [show (List.range 16)[i]? = none by simp; omega]; rfl
 exact bind_eq (z := limbsD l) rfl (bind_eq h1 rfl)
theorem b_rem2 (k : Nat) : D.bin .rem (I (k : Int)) (.int .i64 2) = some (I (k % 2 : Nat)) := by
 rw [b_rem (by decide), show (2 : Int) = ((2 : Nat) : Int) from rfl, <- Int.ofNat_tmod]
theorem b_quoN {a b : Nat} (hb : b ≠ 0) (ha : (a : Int) <= 9223372036854775807) : D.bin .quo (I (a : Int)) (I (b : Int)) = some (I (a / b : Nat)) := by
 have : ((a / b : Nat) : Int) <= 9223372036854775807 := by have := Nat.div_le_self a b; omega
 have h0 : 0 <= ((a / b : Nat) : Int) := Int.natCast_nonneg _
 rw [b_quo (by omega) (by rw [<- Int.ofNat_tdiv]; simp only [inR]; omega), <- Int.ofNat_tdiv]
theorem b_remN {a b : Nat} (hb : b ≠ 0) : D.bin .rem (I (a : Int)) (I (b : Int)) = some (I (a % b : Nat)) := by
 rw [b_rem (by omega), <- Int.ofNat_tmod]
theorem get_limb {a b : D} {l : List Nat} {i : Nat} (h : i < 16) : D.get (.st [a, b, limbsD l]) [2, i] = some (U (limb l i)) :=
 bind_eq (z := limbsD l) rfl (bind_eq (limbsD_fld h) rfl)
def sgn (neg : Bool) (m : Nat) : Int := if neg then -(m : Int) else m
theorem c81 (n : Nat) {l : List Nat} {neg : Bool} (hd : dl l) (hl : l.length <= 1000000) (hv : dval l < 65536 ^ 32) : cA (n + 2) 81 [.bool neg, .sl (enumN l)] = some (encN (sgn neg (dval l))) := by
 rw [u81]
 unfold F81
 have hlen := digs_len 32 _ hv
 have hdd := dl_digs (dval l)
 have hen : encN (sgn neg (dval l)) = .st [.bool false, .bool (neg && decide (0 < (digs (dval l)).length)), limbsD (digs (dval l))] := by
   have e1 : (sgn neg (dval l)).natAbs = dval l := by unfold sgn; split <;> omega
   have e2 : (0 < (digs (dval l)).length) ↔ dval l ≠ 0 := by
     rw [List.length_pos_iff]; exact not_congr digs_nil
   unfold encN
   rw [e1]
   have : decide (sgn neg (dval l) < 0) = (neg && decide (0 < (digs (dval l)).length)) := by
     simp only [e2, sgn]
     cases neg
     . simp <;> omega
     . by_cases h : dval l = 0
       . simp [h]
       . simp [h] <;> omega
   rw [this]
 rw [hen]
 refine bind_eq (c140 n hl) ?_
 rw [trimN_eq hd]
 generalize digs (dval l) = d at hlen hdd
 refine bind_eq (z := enumN d) rfl (bind_eq b_gtr (bind_eq tr_b (iteF (by show ¬ ((enumN d).length : Int) > 32; rw [enumN_len]; omega) ?_)))
 refine bind_eq tr_b (bind_eq (z := neg && decide (0 < d.length)) ?_ ?_)
 . cases neg
   . rfl
   . rw [if_pos rfl]
     refine bind_eq (z := enumN d) rfl (bind_eq b_gtr ?_)
     rw [tr_b, enumN_len]
     simp
 refine lp_for (fun k s => s = [I (k : Int), .st [.bool false, .bool (neg && decide (0 < d.length)), limbsD (d.take k)]]) d.length 0 (Nat.zero_le _) rfl (fun k hk s hJ => ?_) (fun s hJ => ?_)
 . subst hJ
   left
   refine ⟨_, ?_, rfl⟩
   have hdk := hdd.getD k
   refine bind_eq (z := enumN d) rfl (bind_eq b_lss (bind_eq tr_b (iteT (by show (k : Int) < ((enumN d).length : Int); rw [enumN_len]; omega) ?_)))
   refine bind_eq (z := (0, [.st [.bool false, .bool (neg && decide (0 < d.length)), limbsD (d.take (k + 1))]])) ?_ (bind_eq (b_add (inR_nat (i := k) (by omega))) rfl)
   refine bind_eq (b_rem2 k) ?_
   have q1 : k / 2 < 16 := by omega
   have hq : D.bin .quo (I (k : Int)) (.int .i64 2) = some (I (k / 2 : Nat)) := b_quoN (b := 2) (by decide) (by omega)
   have hlk : limb (d.take k) (k / 2) = if k % 2 = 0 then 0 else d.getD (2 * (k / 2)) 0 := by
     simp only [limb, take_getD]
     by_cases hk2 : k % 2 = 0
     . rw [if_pos hk2, if_neg (show ¬ 2 * (k / 2) < k by omega), if_neg (show ¬ 2 * (k / 2) + 1 < k by omega)]
     . rw [if_neg hk2, if_pos (show 2 * (k / 2) < k by omega), if_neg (show ¬ 2 * (k / 2) + 1 < k by omega)]; omega
   have hd2 := hdd.getD (2 * (k / 2))
   by_cases hk2 : k % 2 = 0
   . rw [if_pos hk2] at hlk
     rw [hk2]
     refine bind_eq (z := true) rfl ?_
     rw [if_pos rfl]
     refine bind_eq hq (bind_eq hq (bind_eq (idx_n q1) (bind_eq (get_limb q1) (bind_eq (z := enumN d) rfl (bind_eq (z := k) (by rw [enumN_len]; exact idx_n hk) (bind_eq (enumN_at hk) (bind_eq (conv_iu (by omega)) (bind_eq (bu_add (by rw [hlk]; omega)) (bind_eq (idx_n q1) (bind_eq (limbsD_set q1 (l' := d.take (k + 1)) ?_) rfl))))))))))
     intro i
     by_cases hi : i = k / 2
     . rw [if_pos hi, hlk, hi]
       simp only [limb, take_getD]
       rw [if_pos (show 2 * (k / 2) < k + 1 by omega), if_neg (show ¬ 2 * (k / 2) + 1 < k + 1 by omega), show 2 * (k / 2) = k by omega]; omega
     . rw [if_neg hi]
       simp only [limb, take_getD]
       have a1 : (2 * i < k + 1) ↔ (2 * i < k) := by omega
       have a2 : (2 * i + 1 < k + 1) ↔ (2 * i + 1 < k) := by omega
       simp only [a1, a2]
   . rw [if_neg hk2] at hlk
     refine bind_eq (z := false) (by rw [show k % 2 = 1 by omega]; rfl) ?_
     rw [if_neg (by decide)]
     refine bind_eq hq (bind_eq hq (bind_eq (idx_n q1) (bind_eq (get_limb q1) (bind_eq (z := enumN d) rfl (bind_eq (z := k) (by rw [enumN_len]; exact idx_n hk) (bind_eq (enumN_at hk) (bind_eq (conv_iu (by omega)) (bind_eq (bu_mul (b := 65536) (by omega)) (bind_eq (bu_add (by rw [hlk]; omega)) (bind_eq (idx_n q1) (bind_eq (limbsD_set q1 (l' := d.take (k + 1)) ?_) rfl)))))))))))
     intro i
     by_cases hi : i = k / 2
     . rw [if_pos hi, hlk, hi]
       simp only [limb, take_getD]
       rw [if_pos (show 2 * (k / 2) < k + 1 by omega), if_pos (show 2 * (k / 2) + 1 < k + 1 by omega), show 2 * (k / 2) + 1 = k by omega]; omega
     . rw [if_neg hi]
       simp only [limb, take_getD]
       have a1 : (2 * i < k + 1) ↔ (2 * i < k) := by omega
       have a2 : (2 * i + 1 < k + 1) ↔ (2 * i + 1 < k) := by omega
       simp only [a1, a2]
 . subst hJ
   refine ⟨(0, [.st [.bool false, .bool (neg && decide (0 < d.length)), limbsD (d.take d.length)]]), ?_, ?_⟩
   . exact bind_eq (z := enumN d) rfl (bind_eq b_lss (bind_eq tr_b (iteF (by show ¬ (d.length : Int) < ((enumN d).length : Int); rw [enumN_len]; omega) rfl)))
   . rw [List.take_length]; rfl
theorem c82 (n : Nat) {a b : List Nat} (ha : dl a) (hb : dl b) (hla : a.length <= 900000) (hlb : b.length <= 900000) : cA (n + 2) 82 [.sl (enumN a), .sl (enumN b)] = some (.sl (enumN (digs (dval a + dval b)))) := by
 rw [u82]
 unfold F82
 obtain ⟨M, hM⟩ : ∃ M, M = max a.length b.length := ⟨_, rfl⟩
 have hmax : ∀ k : Nat, D.max2 (D.int .i64 (enumN a).length) (D.int .i64 (enumN b).length) = some (I (M : Int)) := fun _ => by
   rw [max_i, enumN_len, enumN_len, hM]; congr 2; omega
 refine lp_for (fun k s => ∃ (out : List Nat) (c : Nat), s = [.sl (enumN out), I (c : Int), I (k : Int)] /\ out.length = k /\ dl out /\ c <= 1 /\ dval out + c * 65536 ^ k = vt a k + vt b k) (M + 1) 0 (Nat.zero_le _) ⟨[], 0, rfl, rfl, (by intro d hd; cases hd), by omega, by simp [dval, vt]⟩ (fun k hk s hJ => ?_) (fun s hJ => ?_)
 . obtain ⟨out, c, rfl, ho, hdo, hc, hv⟩ := hJ
   left
   have h1 := ha.getD k
   have h2 := hb.getD k
   refine ⟨[.sl (enumN (out ++ [(a.getD k 0 + b.getD k 0 + c) % 65536])), I ((a.getD k 0 + b.getD k 0 + c) / 65536 : Nat), I ((k + 1 : Nat) : Int)], ?_, out ++ [(a.getD k 0 + b.getD k 0 + c) % 65536], (a.getD k 0 + b.getD k 0 + c) / 65536, rfl, by simp [ho], hdo.append (fun x hx => by simp at hx; omega), by omega, ?_⟩
   . refine bind_eq (z := enumN a) rfl (bind_eq (z := enumN b) rfl (bind_eq (hmax 0) (bind_eq (b_add (inR_nat (i := M) (by omega))) (bind_eq b_lss (bind_eq tr_b (iteT (by show (k : Int) < (M : Int) + 1; omega) ?_))))))
     refine bind_eq (c141 n a k) (bind_eq (c141 n b k) (bind_eq (b_add (by simp only [inR]; omega)) (bind_eq (b_add (by simp only [inR]; omega)) ?_)))
     rw [show (((a.getD k 0 : Nat) : Int) + ((b.getD k 0 : Nat) : Int) + (c : Int)) = ((a.getD k 0 + b.getD k 0 + c : Nat) : Int) by omega]
     refine bind_eq (b_remN (b := 65536) (by decide)) ?_
     rw [if_pos (by simp only [g0, D.els, enumN_len, List.length_cons, List.length_nil]; omega)]
     refine bind_eq (b_quoN (b := 65536) (by decide) (by omega)) (bind_eq (b_add (inR_nat (i := k) (by omega))) ?_)
     simp only [g0, D.els, enumN_app]
     rfl
   . rw [dval_append, ho, vt, vt, Nat.pow_succ]
     have e : a.getD k 0 + b.getD k 0 + c = (a.getD k 0 + b.getD k 0 + c) % 65536 + 65536 * ((a.getD k 0 + b.getD k 0 + c) / 65536) := by omega
     have e2 : dval [(a.getD k 0 + b.getD k 0 + c) % 65536] = (a.getD k 0 + b.getD k 0 + c) % 65536 := by simp [dval]
     rw [e2]
     generalize 65536 ^ k = B at *
     generalize (a.getD k 0 + b.getD k 0 + c) % 65536 = r at *
     generalize (a.getD k 0 + b.getD k 0 + c) / 65536 = q at *
     have : (a.getD k 0 + b.getD k 0 + c) * B = (r + 65536 * q) * B := by rw [e]
     rw [Nat.add_mul, Nat.add_mul, Nat.add_mul] at this
     rw [show q * (B * 65536) = 65536 * q * B by rw [Nat.mul_comm B, <- Nat.mul_assoc, Nat.mul_comm q], Nat.mul_comm B r]
     omega
 . obtain ⟨out, c, rfl, ho, hdo, hc, hv⟩ := hJ
   refine ⟨(0, [.sl (enumN out)]), ?_, ?_⟩
   . refine bind_eq (z := enumN a) rfl (bind_eq (z := enumN b) rfl (bind_eq (hmax 0) (bind_eq (b_add (inR_nat (i := M) (by omega))) (bind_eq b_lss (bind_eq tr_b (iteF (by show ¬ (((M + 1 : Nat) : Int) < (M : Int) + 1); omega) rfl))))))
   . refine bind_eq (c140 n (l := out) (by omega)) ?_
     have va : vt a (M + 1) = dval a := vt_dval (by omega)
     have vb : vt b (M + 1) = dval b := vt_dval (by omega)
     have la := vt_lt ha M
     have lb := vt_lt hb M
     rw [vt_dval (show a.length <= M by omega)] at la
     rw [vt_dval (show b.length <= M by omega)] at lb
     have hc0 : c = 0 := by
       rcases Nat.eq_zero_or_pos c with h | h
       . exact h
       . have : 1 * 65536 ^ (M + 1) <= c * 65536 ^ (M + 1) := Nat.mul_le_mul_right _ h
         rw [Nat.pow_succ] at this
         rw [va, vb, Nat.pow_succ] at hv
         omega
     subst hc0
     rw [trimN_eq hdo, <- va, <- vb, <- hv]; simp
theorem c34 (n : Nat) {x : Int} (hx : inR x) : cA (n + 3) 34 [I x] = some (encN x) := by
 rw [u34]
 unfold F34
 obtain ⟨h1, h2⟩ := hx
 have d1 : ∀ m : Nat, (m : Int) <= 9223372036854775807 -> dl [m % 65536, m / 65536 % 65536, m / 4294967296 % 65536, m / 281474976710656] := fun m hm d hd => by
   simp only [List.mem_cons, List.not_mem_nil, or_false] at hd; omega
 have d2 : ∀ m : Nat, dval [m % 65536, m / 65536 % 65536, m / 4294967296 % 65536, m / 281474976710656] = m := fun m => by
   simp only [dval]; omega
 have d3 : ∀ m : Nat, D.sl [I (m % 65536 : Nat), I (m / 65536 % 65536 : Nat), I (m / 4294967296 % 65536 : Nat), I (m / 281474976710656 : Nat)] = .sl (enumN [m % 65536, m / 65536 % 65536, m / 4294967296 % 65536, m / 281474976710656]) := fun m => rfl
 have big : ∀ m : Nat, (m : Int) <= 9223372036854775808 -> m < 65536 ^ 32 := fun m hm => by
   have : (65536 : Nat) ^ 4 <= 65536 ^ 32 := Nat.pow_le_pow_right (by decide) (by decide)
   have e : (65536 : Nat) ^ 4 = 18446744073709551616 := by decide
   omega
 refine bind_eq b_geq (bind_eq tr_b ?_)
 by_cases h : x ≥ 0
 . refine iteT h ?_
   obtain ⟨m, rfl⟩ := Int.eq_ofNat_of_zero_le h
   refine bind_eq (b_remN (b := 65536) (by decide)) (bind_eq (b_quoN (b := 65536) (by decide) h2) (bind_eq (b_remN (b := 65536) (by decide)) (bind_eq (b_quoN (b := 4294967296) (by decide) h2) (bind_eq (b_remN (b := 65536) (by decide)) (bind_eq (b_quoN (b := 281474976710656) (by decide) h2) ?_)))))
   refine bind_eq (z := encN m) ?_ rfl
   rw [d3, c81 n (d1 m h2) (by simp) (by rw [d2]; exact big m (by omega)), d2]; rfl
 . refine iteF h ?_
   obtain ⟨m, hm⟩ := Int.eq_ofNat_of_zero_le (show 0 <= -(x + 1) by omega)
   have h3 : (m : Int) <= 9223372036854775807 := by omega
   refine bind_eq (b_add (by simp only [inR]; omega)) (bind_eq (u_neg (by simp only [inR]; omega)) ?_)
   rw [hm]
   refine bind_eq (b_remN (b := 65536) (by decide)) (bind_eq (b_quoN (b := 65536) (by decide) h3) (bind_eq (b_remN (b := 65536) (by decide)) (bind_eq (b_quoN (b := 4294967296) (by decide) h3) (bind_eq (b_remN (b := 65536) (by decide)) (bind_eq (b_quoN (b := 281474976710656) (by decide) h3) ?_)))))
   rw [d3]
   refine bind_eq (c82 n (b := [1]) (d1 m h3) (fun d hd => by simp at hd; omega) (by simp) (by simp)) (bind_eq (z := encN x) ?_ rfl)
   rw [d2]
   have e1 : dval [1] = 1 := rfl
   rw [e1, c81 n (dl_digs _) ?_ ?_, dval_digs]
   . congr 2; simp only [sgn, if_true]; omega
   . have := digs_len 32 _ (big (m + 1) (by omega)); omega
   . rw [dval_digs]; exact big (m + 1) (by omega)
end Go.Proofs.YtjjjkojfijpeeaaGreat.Sy
end
section
set_option linter.unusedVariables false
namespace Go.Proofs.YtjjjkojfijpeeaaGreat.Sy
open Go Go.Proofs Go.Proofs.YtjjjkojfijpeeaaGreat.Geo
def In (x : Int) : Prop := x.natAbs < 65536 ^ 32
theorem In.of {x : Int} (h : inR x) : In x := by
 have : (65536 : Nat) ^ 4 <= 65536 ^ 32 := Nat.pow_le_pow_right (by decide) (by decide)
 have e : (65536 : Nat) ^ 4 = 18446744073709551616 := by decide
 obtain ⟨h1, h2⟩ := h
 unfold In; omega
theorem limb_digs (m i : Nat) : limb (digs m) i = m / 4294967296 ^ i % 4294967296 := by
 have e1 : 65536 ^ (2 * i) = 4294967296 ^ i := by rw [Nat.pow_mul]
 have e2 : 65536 ^ (2 * i + 1) = 4294967296 ^ i * 65536 := by rw [Nat.pow_succ, e1]
 unfold limb
 rw [digs_getD, digs_getD, e1, e2, <- Nat.div_div_eq_div_mul]
 generalize m / 4294967296 ^ i = q
 omega
theorem limb0 (m : Nat) : limb (digs m) 0 = m % 4294967296 := by rw [limb_digs, Nat.pow_zero, Nat.div_one]
theorem limb1 (m : Nat) : limb (digs m) 1 = m / 4294967296 % 4294967296 := by rw [limb_digs, Nat.pow_one]
theorem limb2 {m i : Nat} (h : m < 18446744073709551616) (hi : 2 <= i) : limb (digs m) i = 0 := by
 rw [limb_digs]
 have : (4294967296 : Nat) ^ 2 <= 4294967296 ^ i := Nat.pow_le_pow_right (by decide) hi
 rw [Nat.div_eq_of_lt (by omega)]
theorem beq_u {a b : Nat} : D.beq (U a) (U b) = decide (a = b) := by
 simp only [D.beq, decide_true, Bool.true_and]
 by_cases h : a = b
 . simp [h]
 . simp [h]; omega
theorem limbs_zero {m : Nat} (hm : m < 65536 ^ 32) (h : ∀ i, i < 16 -> limb (digs m) i = 0) : m = 0 := by
 have hz : ∀ i, i < 32 -> (digs m).getD i 0 = 0 := fun i hi => by
   have := h (i / 2) (by omega)
   unfold limb at this
   rcases Nat.mod_two_eq_zero_or_one i with e | e
   . rw [show 2 * (i / 2) = i by omega] at this; omega
   . rw [show 2 * (i / 2) + 1 = i by omega] at this; omega
 have hv : ∀ k, k <= 32 -> vt (digs m) k = 0 := fun k => by
   induction k with
   | zero => intro _; rfl
   | succ k ih => intro hk; rw [vt, ih (by omega), hz k (by omega)]; simp
 have := hv 32 (by omega)
 rw [vt_dval (digs_len 32 _ hm), dval_digs] at this
 exact this
def zB (m i : Nat) : Bool := (List.range i).all fun k => decide (limb (digs m) k = 0)
theorem zB_succ (m i : Nat) : zB m (i + 1) = (zB m i && decide (limb (digs m) i = 0)) := by
 unfold zB; rw [List.range_succ, List.all_append]; simp
theorem c139 (n : Nat) {x : Int} (hx : In x) : cA (n + 1) 139 [encN x] = some (.bool true) := by
 rw [u139]
 unfold F139
 have fin : ∀ z : Bool, (z = true -> x = 0) -> (Option.bind (D.get (encN x) [0]) fun x10 => Option.bind (D.truth x10) fun b11 =>
     if b11 then (Option.bind (D.truth (.bool z)) fun b12 => Option.bind (if b12 then (Option.bind (D.get (encN x) [1]) fun x13 => Option.bind (D.un .not x13) fun x14 => D.truth x14) else (some false)) fun b15 =>
     some (D.bool b15)) else (Option.bind (D.un .not (.bool z)) fun x16 => Option.bind (D.truth x16) fun b17 =>
     Option.bind (if b17 then (some true) else (Option.bind (D.get (encN x) [1]) fun x18 => Option.bind (D.un .not x18) fun x19 => D.truth x19)) fun b20 => some (D.bool b20))) = some (.bool true) := by
   intro z hz
   refine bind_eq (z := .bool false) rfl (bind_eq (z := false) rfl ?_)
   rw [if_neg (by decide)]
   refine bind_eq (z := .bool (!z)) rfl (bind_eq (z := !z) rfl ?_)
   cases z with
   | false => rfl
   | true =>
     have := hz rfl
     subst this
     rfl
 refine lp_for (fun i s => s = [.bool (zB x.natAbs i), I (i : Int)]) 16 0 (Nat.zero_le _) rfl (fun i hi s hJ => ?_) (fun s hJ => ?_)
 . subst hJ
   left
   refine ⟨_, ?_, rfl⟩
   refine bind_eq b_lss (bind_eq tr_b (iteT (by show (i : Int) < 16; omega) (bind_eq tr_b (bind_eq (z := zB x.natAbs (i + 1)) ?_ (bind_eq (b_add (inR_nat (i := i) (by omega))) rfl)))))
   rw [zB_succ]
   cases zB x.natAbs i with
   | false => rfl
   | true =>
     rw [if_pos rfl]
     refine bind_eq (idx_n hi) (bind_eq (encN_limb hi) ?_)
     show D.truth (D.bool (D.beq (U (limb (digs x.natAbs) i)) (U 0))) = _
     rw [beq_u, tr_b]; rfl
 . subst hJ
   refine ⟨(0, [.bool (zB x.natAbs 16)]), ?_, ?_⟩
   . exact bind_eq b_lss (bind_eq tr_b (iteF (by decide) rfl))
   . refine fin _ fun h => ?_
     have := limbs_zero hx (fun i hi => of_decide_eq_true (List.all_eq_true.1 h i (List.mem_range.2 hi)))
     omega
theorem c76 (n : Nat) {x : Int} (hx : In x) : cA (n + 2) 76 [encN x] = some (.bool true) := by
 rw [u76]
 unfold F76
 exact bind_eq (c139 n hx) (bind_eq tr_b rfl)
theorem c124 (n : Nat) {x : Int} (hx : x.natAbs < 4611686018427387904) : cA (n + 3) 124 [encN x] = some (.tup [I x, .bool true]) := by
 have hin : In x := In.of (by simp only [inR]; omega)
 rw [u124]
 unfold F124
 have l1 := limb1 x.natAbs
 refine bind_eq (c76 n hin) (bind_eq u_not (bind_eq tr_b (bind_eq (z := false) ?_ (bind_eq tr_b ?_))))
 . rw [if_neg (by decide)]
   refine bind_eq (encN_limb (i := 1) (by decide)) ?_
   rw [l1]
   have : D.bin .geq (U (x.natAbs / 4294967296 % 4294967296)) (.int .u32 1073741824) = some (.bool false) := by
     simp only [D.bin, if_true]
     rw [decide_eq_false (by omega)]
   exact bind_eq this rfl
 . rw [if_neg (by decide)]
   refine lp_for (fun i s => s = [I (i : Int)] /\ 2 <= i) 16 2 (by decide) ⟨rfl, by decide⟩ (fun i hi s hJ => ?_) (fun s hJ => ?_)
   . obtain ⟨rfl, h2⟩ := hJ
     left
     refine ⟨_, ?_, rfl, by omega⟩
     refine bind_eq b_lss (bind_eq tr_b (iteT (by show (i : Int) < 16; omega) ?_))
     refine bind_eq (idx_n hi) (bind_eq (encN_limb hi) ?_)
     rw [limb2 (by omega) h2]
     refine bind_eq (z := false) rfl ?_
     rw [if_neg (by decide)]
     exact bind_eq (b_add (inR_nat (i := i) (by omega))) rfl
   . obtain ⟨rfl, _⟩ := hJ
     refine ⟨(1, []), bind_eq b_lss (bind_eq tr_b (iteF (by decide) rfl)), ?_⟩
     rw [if_neg (by decide)]
     have e0 := limb0 x.natAbs
     refine bind_eq (encN_limb (i := 1) (by decide)) (bind_eq (conv_ui (limb_lt (dl_digs _) 1)) ?_)
     rw [l1]
     refine bind_eq (b_mul (by simp only [inR]; omega)) (bind_eq (encN_limb (i := 0) (by decide)) (bind_eq (conv_ui (limb_lt (dl_digs _) 0)) ?_))
     rw [e0]
     refine bind_eq (b_add (by simp only [inR]; omega)) (bind_eq (z := .bool (decide (x < 0))) rfl (bind_eq tr_b ?_))
     by_cases hx0 : x < 0
     . refine iteT hx0 ?_
       refine bind_eq (u_neg (by simp only [inR]; omega)) ?_
       congr 4; omega
     . refine iteF hx0 ?_
       congr 4; omega
theorem c142 (n : Nat) {x : Int} (hx : In x) : cA (n + 3) 142 [encN x] = some (encN x.natAbs) := by
 rw [u142]
 unfold F142
 have hl := digs_len 32 _ hx
 refine bind_eq (c76 n hx) (bind_eq u_not (bind_eq tr_b ?_))
 refine bind_eq (c77 n hx) (bind_eq (z := encN x.natAbs) ?_ rfl)
 rw [c81 n (dl_digs _) (by omega) (by rw [dval_digs]; exact hx), dval_digs]; rfl
theorem c78 (n : Nat) {a b : List Nat} (ha : dl a) (hb : dl b) (hla : a.length <= 900000) (hlb : b.length <= 900000) : cA (n + 2) 78 [.sl (enumN a), .sl (enumN b)] = some (.bool (decide (dval a < dval b))) := by
 rw [u78]
 unfold F78
 obtain ⟨M, hM⟩ : ∃ M, M = max a.length b.length := ⟨_, rfl⟩
 have hmax : D.max2 (D.int .i64 (enumN a).length) (D.int .i64 (enumN b).length) = some (I (M : Int)) := by
   rw [max_i, enumN_len, enumN_len, hM]; congr 2; omega
 have hva : vt a M = dval a := vt_dval (by omega)
 have hvb : vt b M = dval b := vt_dval (by omega)
 refine bind_eq (z := enumN a) rfl (bind_eq (z := enumN b) rfl (bind_eq hmax (bind_eq (b_sub (by simp only [inR]; omega)) ?_)))
 refine lp_for (fun i s => s = [I ((M : Int) - 1 - i)] /\ (dval a < dval b ↔ vt a (M - i) < vt b (M - i))) M 0 (Nat.zero_le _) ⟨by simp, by simp [hva, hvb]⟩ (fun i hi s hJ => ?_) (fun s hJ => ?_)
 . obtain ⟨rfl, hz⟩ := hJ
   obtain ⟨k, hk⟩ : ∃ k, M - i = k + 1 := ⟨M - i - 1, by omega⟩
   rw [hk, vt, vt] at hz
   have e1 : (M : Int) - 1 - i = (k : Int) := by omega
   rw [e1]
   have la := vt_lt ha k
   have lb := vt_lt hb k
   have q1 := c141 n a k
   have q2 := c141 n b k
   by_cases hab : a.getD k 0 = b.getD k 0
   . left
     refine ⟨[I ((M : Int) - 1 - (i + 1 : Nat))], ?_, rfl, ?_⟩
     . refine bind_eq b_geq (bind_eq tr_b (iteT (by show (k : Int) ≥ 0; omega) (bind_eq q1 (bind_eq q2 (bind_eq (z := false) ?_ ?_)))))
       . rw [hab, beq_nat, decide_eq_true rfl]; rfl
       . rw [if_neg (by decide)]
         refine bind_eq (b_sub (by simp only [inR]; omega)) ?_
         congr 4; omega
     . rw [hz, hab, show M - (i + 1) = k by omega]; omega
   . right
     refine ⟨(0, [.bool (decide (a.getD k 0 < b.getD k 0))]), ?_, ?_⟩
     . refine bind_eq b_geq (bind_eq tr_b (iteT (by show (k : Int) ≥ 0; omega) (bind_eq q1 (bind_eq q2 (bind_eq (z := true) ?_ ?_)))))
       . rw [beq_nat, decide_eq_false hab]; rfl
       . rw [if_pos rfl]
         refine bind_eq q1 (bind_eq q2 (bind_eq b_lss ?_))
         simp
     . rw [if_pos rfl]
       show some (D.bool (decide (a.getD k 0 < b.getD k 0))) = _
       congr 3
       rw [eq_iff_iff, hz]
       generalize a.getD k 0 = u at *
       generalize b.getD k 0 = v at *
       generalize 65536 ^ k = B at *
       constructor
       . intro h
         have : (u + 1) * B <= v * B := Nat.mul_le_mul_right _ h
         rw [Nat.add_mul] at this
         omega
       . intro h
         rcases Nat.lt_or_ge u v with h1 | h1
         . exact h1
         . have : (v + 1) * B <= u * B := Nat.mul_le_mul_right _ (by omega)
           rw [Nat.add_mul] at this
           omega
 . obtain ⟨rfl, hz⟩ := hJ
   refine ⟨(1, []), ?_, ?_⟩
   . exact bind_eq b_geq (bind_eq tr_b (iteF (by show ¬ ((M : Int) - 1 - (M : Nat)) ≥ 0; omega) rfl))
   . rw [if_neg (by decide)]
     have : ¬ dval a < dval b := by rw [hz]; simp [vt]
     rw [decide_eq_false this]
theorem c32 (n : Nat) {x y : Int} (hx : In x) (hy : In y) : cA (n + 3) 32 [encN x, encN y] = some (I (cmpZ x y)) := by
 rw [u32]
 unfold F32
 have hlx := digs_len 32 _ hx
 have hly := digs_len 32 _ hy
 have gx := c76 n hx
 have gy := c76 n hy
 have dx := c77 n hx
 have dy := c77 n hy
 refine bind_eq gx (bind_eq u_not (bind_eq tr_b (bind_eq (z := false) rfl (bind_eq (z := false) rfl ?_))))
 rw [if_neg (by decide)]
 refine bind_eq gx (bind_eq u_not (bind_eq (z := false) rfl ?_))
 rw [if_neg (by decide)]
 refine bind_eq gy (bind_eq u_not (bind_eq (z := false) rfl ?_))
 rw [if_neg (by decide)]
 refine bind_eq (z := .bool (decide (x < 0))) rfl (bind_eq (z := .bool (decide (y < 0))) rfl ?_)
 have l1 := c78 n (dl_digs x.natAbs) (dl_digs y.natAbs) (by omega) (by omega)
 have l2 := c78 n (dl_digs y.natAbs) (dl_digs x.natAbs) (by omega) (by omega)
 simp only [dval_digs] at l1 l2
 have hb : ∀ p q : Bool, D.truth (.bool (!(D.beq (.bool p) (.bool q)))) = some (!(p == q)) := fun p q => rfl
 rw [hb]
 refine bind_eq rfl ?_
 by_cases h1 : x < 0 <;> by_cases h2 : y < 0
 . rw [decide_eq_true h1, decide_eq_true h2, if_neg (by decide)]
   refine bind_eq dx (bind_eq dy (bind_eq (z := (0, [.sl (enumN (digs y.natAbs)), .sl (enumN (digs x.natAbs))])) ?_ ?_))
   . refine bind_eq (z := .bool true) (by rw [show D.get (encN x) [1] = some (.bool (decide (x < 0))) from rfl, decide_eq_true h1]) (bind_eq (z := true) rfl ?_)
     rw [if_pos rfl]
     exact bind_eq dy (bind_eq dx rfl)
   . refine bind_eq l2 (bind_eq l1 (bind_eq tr_b ?_))
     by_cases h3 : y.natAbs < x.natAbs
     . refine iteT h3 ?_
       simp [cmpZ, show x < y by omega]
     . refine iteF h3 (bind_eq tr_b ?_)
       by_cases h4 : x.natAbs < y.natAbs
       . refine iteT h4 ?_
         simp [cmpZ, show ¬ x < y by omega, show y < x by omega]
       . refine iteF h4 ?_
         simp [cmpZ, show ¬ x < y by omega, show ¬ y < x by omega]
 . rw [decide_eq_true h1, decide_eq_false h2, if_pos (by decide)]
   refine bind_eq (z := .bool true) (by rw [show D.get (encN x) [1] = some (.bool (decide (x < 0))) from rfl, decide_eq_true h1]) (bind_eq (z := true) rfl ?_)
   simp [cmpZ, show x < y by omega]
 . rw [decide_eq_false h1, decide_eq_true h2, if_pos (by decide)]
   refine bind_eq (z := .bool false) (by rw [show D.get (encN x) [1] = some (.bool (decide (x < 0))) from rfl, decide_eq_false h1]) (bind_eq (z := false) rfl ?_)
   simp [cmpZ, show ¬ x < y by omega, show y < x by omega]
 . rw [decide_eq_false h1, decide_eq_false h2, if_neg (by decide)]
   refine bind_eq dx (bind_eq dy (bind_eq (z := (0, [.sl (enumN (digs x.natAbs)), .sl (enumN (digs y.natAbs))])) ?_ ?_))
   . refine bind_eq (z := .bool false) (by rw [show D.get (encN x) [1] = some (.bool (decide (x < 0))) from rfl, decide_eq_false h1]) (bind_eq (z := false) rfl rfl)
   . refine bind_eq l1 (bind_eq l2 (bind_eq tr_b ?_))
     by_cases h3 : x.natAbs < y.natAbs
     . refine iteT h3 ?_
       simp [cmpZ, show x < y by omega]
     . refine iteF h3 (bind_eq tr_b ?_)
       by_cases h4 : y.natAbs < x.natAbs
       . refine iteT h4 ?_
         simp [cmpZ, show ¬ x < y by omega, show y < x by omega]
       . refine iteF h4 ?_
         simp [cmpZ, show ¬ x < y by omega, show ¬ y < x by omega]
end Go.Proofs.YtjjjkojfijpeeaaGreat.Sy
end
section
set_option linter.unusedVariables false
namespace Go.Proofs.YtjjjkojfijpeeaaGreat.Sy
open Go Go.Proofs Go.Proofs.YtjjjkojfijpeeaaGreat.Geo
def Wd (x : Int) : Prop := x.natAbs < 4611686018427387904
theorem Wd.inR {x : Int} (h : Wd x) : inR x := by unfold Wd at h; simp only [Sy.inR]; omega
theorem Wd.In {x : Int} (h : Wd x) : In x := In.of h.inR
theorem c144 (n : Nat) {a b : Int} (ha : Wd a) (hb : b ≠ 0) (hd : b ∣ a) : cA (n + 1) 144 [I a, I b] = some (I (a / b)) := by
 rw [u144]
 unfold F144
 obtain ⟨q, rfl⟩ := hd
 have e1 : (b * q).tdiv b = q := Int.mul_tdiv_cancel_left _ hb
 have e2 : b * q / b = q := Int.mul_ediv_cancel_left _ hb
 have e3 : (b * q).tmod b = 0 := Int.mul_tmod_right ..
 have hq : Sy.inR q := by
   have : q.natAbs <= (b * q).natAbs := by rw [Int.natAbs_mul]; exact Nat.le_mul_of_pos_left _ (by omega)
   unfold Wd at ha; simp only [Sy.inR]; omega
 rw [e2]
 refine bind_eq (b_quo hb (by rw [e1]; exact hq)) (bind_eq (z := (0, [I q])) (bind_eq (b_rem hb) ?_) rfl)
 rw [e1, e3]
 exact bind_eq (z := false) rfl (bind_eq (z := false) rfl (bind_eq tr_b rfl))
theorem c85 (n : Nat) {a b : Int} (ha : Wd a) (hb : Wd b) : cA (n + 4) 85 [encN a, encN b] = some (encN (Nat.gcd a.natAbs b.natAbs : Nat)) := by
 rw [u85]
 unfold F85
 refine bind_eq (c124 n ha) (bind_eq (z := I a) rfl (bind_eq (z := .bool true) rfl (bind_eq (c124 n hb) (bind_eq (z := I b) rfl (bind_eq (z := .bool true) rfl (bind_eq (z := true) rfl (bind_eq (z := true) rfl (bind_eq (z := true) rfl ?_))))))))
 rw [if_pos rfl]
 obtain ⟨r, h1, h2⟩ := gcd_loop (body := fun (v1 : List D) =>
   Option.bind (D.truth (D.bool (!(D.beq (List.getD v1 1 (D.bool false)) (D.int .i64 0))))) fun b2 =>
   if b2 then (Option.bind (D.bin .rem (List.getD v1 0 (D.bool false)) (List.getD v1 1 (D.bool false))) fun x3 =>
   some (Sum.inl [(List.getD v1 1 (D.bool false)), x3])) else (some (Sum.inr (0, [(List.getD v1 0 (D.bool false))]))))
   (fun a b hb => by simp only [g0, g1, beq_i, tr_b, Option.bind_some, hb, decide_false, Bool.not_false, if_true, b_rem hb])
   (fun a => by simp only [g0, g1, beq_i, tr_b, Option.bind_some, decide_true, Bool.not_true, Bool.false_eq_true, if_false]) _ a b rfl
 refine lp_val h1 ?_
 have hg : Nat.gcd a.natAbs b.natAbs <= 4611686018427387903 := by unfold Wd at ha hb; exact gcd_le (by omega) (by omega)
 have hr : Sy.inR r := by simp only [Sy.inR]; omega
 refine bind_eq (c34 n hr) (bind_eq (c142 n (In.of hr)) ?_)
 rw [h2]
theorem c83 (n : Nat) {x : Int} (hx : In x) : cA (n + 3) 83 [encN x] = some (I (sg x)) := by
 rw [u83]
 unfold F83
 refine bind_eq (c76 n hx) (bind_eq u_not (bind_eq (z := false) rfl (bind_eq (z := decide (x = 0)) ?_ (bind_eq tr_b ?_))))
 . rw [if_neg (by decide)]
   refine bind_eq (c77 n hx) (bind_eq (z := enumN (digs x.natAbs)) rfl ?_)
   rw [tr_b, enumN_len]
   show some (D.beq (I ((digs x.natAbs).length : Nat)) (I (0 : Nat))) = _
   rw [beq_nat]
   congr 1
   rw [decide_eq_decide, List.length_eq_zero_iff, digs_nil]
   omega
 . by_cases h0 : x = 0
   . refine iteT h0 ?_
     subst h0; rfl
   . refine iteF h0 (bind_eq (z := .bool (decide (x < 0))) rfl (bind_eq tr_b ?_))
     by_cases h1 : x < 0
     . refine iteT h1 ?_
       rw [sg_neg h1]
     . refine iteF h1 ?_
       rw [sg_pos (by omega)]
theorem c87 (n : Nat) {a b : Int} (ha : Wd a) (hb : Wd b) (hb0 : b ≠ 0) (hd : b ∣ a) : cA (n + 4) 87 [encN a, encN b] = some (encN (a / b)) := by
 rw [u87]
 unfold F87
 refine bind_eq (c124 n ha) (bind_eq (z := I a) rfl (bind_eq (z := .bool true) rfl (bind_eq (c124 n hb) (bind_eq (z := I b) rfl (bind_eq (z := .bool true) rfl (bind_eq (z := true) rfl (bind_eq (z := true) rfl (bind_eq (z := true) rfl (bind_eq (z := true) ?_ (bind_eq (z := true) rfl ?_))))))))))
 . rw [if_pos rfl, beq_i, decide_eq_false hb0]; rfl
 . rw [if_pos rfl]
   have hq : Sy.inR (a / b) := by
     obtain ⟨q, rfl⟩ := hd
     rw [Int.mul_ediv_cancel_left _ hb0]
     have : q.natAbs <= (b * q).natAbs := by rw [Int.natAbs_mul]; exact Nat.le_mul_of_pos_left _ (by omega)
     unfold Wd at ha; simp only [Sy.inR]; omega
   exact bind_eq (c144 (n + 2) ha hb0 hd) (bind_eq (c34 n hq) rfl)
abbrev U64 (n : Nat) : D := .int .u64 (n : Int)
theorem wrap64_id {n : Int} (h : 0 <= n /\ n < 18446744073709551616) : IntKind.wrap .u64 n = n := by
 obtain ⟨h1, h2⟩ := h
 simp only [IntKind.wrap, IntKind.signed, IntKind.bits]
 first
   | omega
   | (simp; omega)
theorem c186 (n : Nat) {x : Int} (hx : Wd x) : cA (n + 4) 186 [encN x] = some (.tup [I x, .bool true]) := by
 rw [u186]
 unfold F186
 have hx' : x.natAbs < 4611686018427387904 := hx
 have i1 : Sy.inR (-9223372036854775808) := ⟨by decide, by decide⟩
 have i2 : Sy.inR 9223372036854775807 := ⟨by decide, by decide⟩
 refine bind_eq (c76 (n + 1) hx.In) (bind_eq u_not (bind_eq (z := false) rfl ?_))
 rw [if_neg (by decide)]
 refine bind_eq (c34 n i1) (bind_eq (c34 n i2) (bind_eq (c32 n hx.In (In.of i1)) ?_))
 rw [show cmpZ x (-9223372036854775808) = 1 by unfold cmpZ; rw [if_neg (by omega), if_pos (by omega)]]
 refine bind_eq (z := .bool false) b_lss (bind_eq (z := false) rfl (bind_eq (z := false) ?_ (bind_eq (z := false) rfl ?_)))
 . rw [if_neg (by decide)]
   refine bind_eq (c32 n hx.In (In.of i2)) ?_
   rw [show cmpZ x 9223372036854775807 = -1 by unfold cmpZ; rw [if_pos (by omega)]]
   exact bind_eq (z := .bool false) b_gtr rfl
 . rw [if_neg (by decide)]
   have l1 := limb1 x.natAbs
   have l0 := limb0 x.natAbs
   refine bind_eq (encN_limb (i := 1) (by decide)) ?_
   rw [l1]
   refine bind_eq (z := U64 (x.natAbs / 4294967296 % 4294967296)) (by simp only [D.conv]; rw [wrap64_id (by omega)]) ?_
   refine bind_eq (z := U64 (x.natAbs / 4294967296 % 4294967296 * 4294967296)) (by simp only [D.bin, if_true]; rw [wrap64_id (by omega)]; simp) ?_
   refine bind_eq (encN_limb (i := 0) (by decide)) ?_
   rw [l0]
   refine bind_eq (z := U64 (x.natAbs % 4294967296)) (by simp only [D.conv]; rw [wrap64_id (by omega)]) ?_
   refine bind_eq (z := U64 x.natAbs) (by simp only [D.bin, if_true]; rw [wrap64_id (by omega)]; congr 2; omega) ?_
   refine bind_eq (z := I (x.natAbs : Nat)) (by simp only [D.conv]; rw [wrap_id (by simp only [Sy.inR]; omega)]) ?_
   refine bind_eq (z := (0, [I x])) (bind_eq (z := .bool (decide (x < 0))) rfl (bind_eq tr_b ?_)) rfl
   by_cases h : x < 0
   . refine iteT h (bind_eq (u_neg (by simp only [Sy.inR]; omega)) ?_)
     congr 4; omega
   . refine iteF h ?_
     congr 4; omega
theorem c187 (n : Nat) {v : V} (hv : bd 2305843009213693951 v) : cA (n + 1) 187 [encV v] = some (.bool true) := by
 rw [u187]
 unfold F187
 have stp : ∀ x : Int, (-2305843009213693951 <= x /\ x <= 2305843009213693951) -> ∀ (i : Nat) (hi : i < 3), D.get (encV v) [i] = some (I x) -> (Option.bind (D.idx (I (i : Int)) 3) fun i4 => Option.bind (D.get (encV v) [i4]) fun x5 => Option.bind (D.bin .geq x5 (D.int .i64 2305843009213693952)) fun x6 => Option.bind (D.truth x6) fun b7 =>
   Option.bind (if b7 then (some true) else (Option.bind (D.idx (I (i : Int)) 3) fun i8 => Option.bind (D.get (encV v) [i8]) fun x9 => Option.bind (D.bin .leq x9 (D.int .i64 (-2305843009213693952))) fun x10 => D.truth x10)) fun b11 =>
   Option.bind (D.truth (D.bool b11)) fun b12 => if b12 then (some (Sum.inr (0, [(D.bool false)]))) else (Option.bind (D.bin .add (I (i : Int)) (D.int .i64 1)) fun x13 => some (Sum.inl [x13]))) = some (Sum.inl [I ((i + 1 : Nat) : Int)] : Sum (List D) (Nat × List D)) := fun x hx i hi hg => by
   refine bind_eq (idx_n hi) (bind_eq hg (bind_eq b_geq (bind_eq tr_b (bind_eq (z := false) ?_ (bind_eq (z := false) rfl ?_)))))
   . refine iteF (by omega) (bind_eq (idx_n hi) (bind_eq hg (bind_eq b_leq ?_)))
     rw [tr_b, decide_eq_false (by omega)]
   . rw [if_neg (by decide)]
     exact bind_eq (b_add (inR_nat (i := i) (by omega))) rfl
 refine lp_next (s' := [I (1 : Nat)]) (bind_eq b_lss (bind_eq tr_b (iteT (by decide) (stp v.x hv.1 0 (by decide) rfl)))) (lp_next (s' := [I (2 : Nat)]) (bind_eq b_lss (bind_eq tr_b (iteT (by decide) (stp v.y hv.2.1 1 (by decide) rfl)))) (lp_next (s' := [I (3 : Nat)]) (bind_eq b_lss (bind_eq tr_b (iteT (by decide) (stp v.z hv.2.2 2 (by decide) rfl)))) (lp_end (r := (1, [])) (bind_eq b_lss (bind_eq tr_b (iteF (by decide) rfl))) rfl)))
def encNV (v : V) : D := .st [encN v.x, encN v.y, encN v.z]
theorem c80 (n : Nat) {v : V} (hx : inR v.x) (hy : inR v.y) (hz : inR v.z) : cA (n + 4) 80 [encV v] = some (encNV v) := by
 rw [u80]
 unfold F80
 exact bind_eq (get0 v) (bind_eq (c34 n hx) (bind_eq (get1 v) (bind_eq (c34 n hy) (bind_eq (get2 v) (bind_eq (c34 n hz) rfl)))))
theorem c155 (n : Nat) {v : V} (hv : bd 549755813888 v) : ∃ e : Int, cA (n + 5) 155 [encNV v] = some (.st [encV (prim v), I e]) := by
 rw [u155]
 unfold F155
 have wx : Wd v.x := by have := hv.1; unfold Wd; omega
 have wy' : Wd v.y := by have := hv.2.1; unfold Wd; omega
 have wz : Wd v.z := by have := hv.2.2; unfold Wd; omega
 have h0 : Sy.inR 0 := ⟨by decide, by decide⟩
 have w0 : Wd 0 := by unfold Wd; decide
 have q1 : Nat.gcd v.x.natAbs v.y.natAbs <= 4611686018427387903 := by unfold Wd at wx wy'; exact gcd_le (by omega) (by omega)
 have q2 : gcd3 v <= 4611686018427387903 := by
   unfold gcd3
   have := gcd_le (a := (Nat.gcd v.x.natAbs v.y.natAbs : Nat)) (b := v.z) (k := 4611686018427387903) (by simpa using q1) (by unfold Wd at wz; omega)
   simpa using this
 have wxx : Wd (v.x.natAbs : Nat) := by unfold Wd at *; omega
 have w1 : Wd (Nat.gcd v.x.natAbs v.y.natAbs : Nat) := by unfold Wd; omega
 have w2 : Wd (gcd3 v : Nat) := by unfold Wd; omega
 have g01 := c85 n w0 wx
 have g02 := c85 n wxx wy'
 have g03 := c85 n w1 wz
 rw [show (Nat.gcd (0 : Int).natAbs v.x.natAbs) = v.x.natAbs by simp] at g01
 rw [show (Nat.gcd ((v.x.natAbs : Nat) : Int).natAbs v.y.natAbs) = Nat.gcd v.x.natAbs v.y.natAbs by simp] at g02
 rw [show (Nat.gcd ((Nat.gcd v.x.natAbs v.y.natAbs : Nat) : Int).natAbs v.z.natAbs) = gcd3 v by simp [gcd3]] at g03
 have fst : ∀ {k : Nat × List D -> Option D} {y : D}, k (0, [encN (gcd3 v : Nat)]) = some y -> Option.bind (cA (n + 4) 34 [(D.int .i64 0)]) (fun r1 => Option.bind (lpW (fun (v2 : List D) =>
     Option.bind (D.bin .lss (List.getD v2 0 (D.bool false)) (D.int .i64 3)) fun x3 => Option.bind (D.truth x3) fun b4 =>
     if b4 then (Option.bind (D.idx (List.getD v2 0 (D.bool false)) 3) fun i5 => Option.bind (D.get (encNV v) [i5]) fun x6 => Option.bind (cA (n + 4) 85 [(List.getD v2 1 (D.bool false)), x6]) fun r7 =>
     Option.bind (D.bin .add (List.getD v2 0 (D.bool false)) (D.int .i64 1)) fun x8 => some (Sum.inl [x8, r7])) else (some (Sum.inr (0, [(List.getD v2 1 (D.bool false))])))) [(D.int .i64 0), r1]) k) = some y := by
   intro k y hk
   refine bind_eq (c34 (n + 1) h0) ?_
   refine lp_next (s' := [I 1, encN (v.x.natAbs : Nat)]) (bind_eq b_lss (bind_eq tr_b (iteT (by decide) (bind_eq ix0 (bind_eq (z := encN v.x) rfl (bind_eq g01 (bind_eq (b_add i01) rfl))))))) ?_
   refine lp_next (s' := [I 2, encN (Nat.gcd v.x.natAbs v.y.natAbs : Nat)]) (bind_eq b_lss (bind_eq tr_b (iteT (by decide) (bind_eq ix1 (bind_eq (z := encN v.y) rfl (bind_eq g02 (bind_eq (b_add i12) rfl))))))) ?_
   refine lp_next (s' := [I 3, encN (gcd3 v : Nat)]) (bind_eq b_lss (bind_eq tr_b (iteT (by decide) (bind_eq ix2 (bind_eq (z := encN v.z) rfl (bind_eq g03 (bind_eq (b_add i23) rfl))))))) ?_
   exact lp_end (r := (0, [encN (gcd3 v : Nat)])) (bind_eq b_lss (bind_eq tr_b (iteF (by decide) rfl))) hk
 have hsg := c83 (n + 1) w2.In
 by_cases hz : gcd3 v = 0
 . refine ⟨31, fst (bind_eq (z := .bool false) rfl (bind_eq (z := false) rfl ?_))⟩
   rw [if_neg (by decide)]
   refine bind_eq hsg ?_
   rw [hz]
   refine bind_eq (z := true) rfl ?_
   rw [if_pos rfl]
   have hv0 : v = V.zero := by
     by_cases h : v = V.zero
     . exact h
     . have := gcd3_pos h; omega
   rw [hv0]; rfl
 . have hg0 : (gcd3 v : Int) ≠ 0 := by omega
   refine ⟨0, fst (bind_eq (z := .bool false) rfl (bind_eq (z := false) rfl ?_))⟩
   rw [if_neg (by decide)]
   refine bind_eq hsg ?_
   rw [sg_pos (show (0 : Int) < gcd3 v by omega)]
   refine bind_eq (z := false) rfl ?_
   rw [if_neg (by decide)]
   have bp := bd_prim hv
   have z1 := c87 n wx w2 hg0 (dvd_x v)
   have z2 := c87 n wy' w2 hg0 (dvd_y v)
   have z3 := c87 n wz w2 hg0 (dvd_z v)
   have s1 := c186 n (x := v.x / (gcd3 v : Nat)) (by have := bp.1; unfold Wd; simp only [prim] at this; omega)
   have s2 := c186 n (x := v.y / (gcd3 v : Nat)) (by have := bp.2.1; unfold Wd; simp only [prim] at this; omega)
   have s3 := c186 n (x := v.z / (gcd3 v : Nat)) (by have := bp.2.2; unfold Wd; simp only [prim] at this; omega)
   refine lp_next (s' := [I 1, .st [encV V.zero, I 0], .st [encV ⟨v.x / (gcd3 v : Nat), 0, 0⟩, I 0]]) ?_ (lp_next (s' := [I 2, .st [encV V.zero, I 0], .st [encV ⟨v.x / (gcd3 v : Nat), v.y / (gcd3 v : Nat), 0⟩, I 0]]) ?_ (lp_next (s' := [I 3, .st [encV V.zero, I 0], .st [encV ⟨v.x / (gcd3 v : Nat), v.y / (gcd3 v : Nat), v.z / (gcd3 v : Nat)⟩, I 0]]) ?_ (lp_end (r := (1, [.st [encV V.zero, I 0], .st [encV (prim v), I 0]])) (bind_eq b_lss (bind_eq tr_b (iteF (by decide) rfl))) ?_)))
   . refine bind_eq b_lss (bind_eq tr_b (iteT (by decide) (bind_eq ix0 (bind_eq (z := encN v.x) rfl (bind_eq z1 (bind_eq s1 (bind_eq (z := I (v.x / (gcd3 v : Nat))) rfl (bind_eq (z := .bool true) rfl (bind_eq (z := .bool false) rfl (bind_eq (z := false) rfl ?_))))))))))
     rw [if_neg (by decide)]
     exact bind_eq ix0 (bind_eq (z := .st [encV ⟨v.x / (gcd3 v : Nat), 0, 0⟩, I 0]) rfl (bind_eq (b_add i01) rfl))
   . refine bind_eq b_lss (bind_eq tr_b (iteT (by decide) (bind_eq ix1 (bind_eq (z := encN v.y) rfl (bind_eq z2 (bind_eq s2 (bind_eq (z := I (v.y / (gcd3 v : Nat))) rfl (bind_eq (z := .bool true) rfl (bind_eq (z := .bool false) rfl (bind_eq (z := false) rfl ?_))))))))))
     rw [if_neg (by decide)]
     exact bind_eq ix1 (bind_eq (z := .st [encV ⟨v.x / (gcd3 v : Nat), v.y / (gcd3 v : Nat), 0⟩, I 0]) rfl (bind_eq (b_add i12) rfl))
   . refine bind_eq b_lss (bind_eq tr_b (iteT (by decide) (bind_eq ix2 (bind_eq (z := encN v.z) rfl (bind_eq z3 (bind_eq s3 (bind_eq (z := I (v.z / (gcd3 v : Nat))) rfl (bind_eq (z := .bool true) rfl (bind_eq (z := .bool false) rfl (bind_eq (z := false) rfl ?_))))))))))
     rw [if_neg (by decide)]
     exact bind_eq ix2 (bind_eq (z := .st [encV ⟨v.x / (gcd3 v : Nat), v.y / (gcd3 v : Nat), v.z / (gcd3 v : Nat)⟩, I 0]) rfl (bind_eq (b_add i23) rfl))
   . rw [if_neg (show ¬ (1 : Nat) = 0 by decide)]
     refine bind_eq (z := encV (prim v)) rfl (bind_eq (c187 (n + 3) (v := prim v) ?_) (bind_eq (z := .bool false) rfl (bind_eq (z := false) rfl rfl)))
     simp only [bd] at bp ⊢; omega
theorem c106 (n : Nat) {a b c : V} (ha : bd MV a) (hb : bd MV b) (hc : bd MV c) : cA (n + 6) 106 [encV a, encV b, encV c] = some (encV (prim (V.cross (b.sub a) (c.sub a)))) := by
 rw [u106]
 unfold F106
 have h1 : bd 524288 (b.sub a) := by have := bd_sub hb ha; simpa [MV] using this
 have h2 : bd 524288 (c.sub a) := by have := bd_sub hc ha; simpa [MV] using this
 have h3 := bd_cross h1 h2
 refine bind_eq (c112 (n + 4) hb ha (by decide)) (bind_eq (c112 (n + 4) hc ha (by decide)) (bind_eq (c123 (n + 4) h1 h2 (by decide)) ?_))
 have h4 : bd 549755813888 (V.cross (b.sub a) (c.sub a)) := h3
 generalize V.cross (b.sub a) (c.sub a) = m at *
 obtain ⟨e, he⟩ := c155 n h4
 refine bind_eq (c80 (n + 1) ?_ ?_ ?_) (bind_eq he rfl)
 . have := h4.1; simp only [Sy.inR]; omega
 . have := h4.2.1; simp only [Sy.inR]; omega
 . have := h4.2.2; simp only [Sy.inR]; omega
end Go.Proofs.YtjjjkojfijpeeaaGreat.Sy
end
section
set_option linter.unusedVariables false
namespace Go.Proofs.YtjjjkojfijpeeaaGreat.Sy
open Go Go.Proofs Go.Proofs.YtjjjkojfijpeeaaGreat.Geo
theorem dval_set : ∀ {l : List Nat} {j v : Nat}, j < l.length -> dval (l.set j v) + 65536 ^ j * l.getD j 0 = dval l + 65536 ^ j * v
 | d :: l, 0, v, _ => by simp only [List.set_cons_zero, dval, Nat.pow_zero, Nat.one_mul, List.getD_cons_zero]; omega
 | d :: l, j + 1, v, h => by
   have ih := dval_set (l := l) (j := j) (v := v) (by simpa using h)
   simp only [List.set_cons_succ, dval, Nat.pow_succ, List.getD_cons_succ]
   rw [Nat.mul_comm (65536 ^ j) 65536, Nat.mul_assoc, Nat.mul_assoc]
   generalize 65536 ^ j * l.getD j 0 = x at *
   generalize 65536 ^ j * v = y at *
   omega
theorem enumN_set (l : List Nat) (j v : Nat) : (enumN l).set j (I (v : Int)) = enumN (l.set j v) := by simp [enumN, List.map_set]
theorem getD_set (l : List Nat) (j v i : Nat) (h : j < l.length) : (l.set j v).getD i 0 = if i = j then v else l.getD i 0 := by
 by_cases e : i = j
 . subst e; simp [List.getD, h]
 . simp [List.getD, e, List.getElem?_set, show ¬ j = i from fun k => e k.symm]
theorem enumN_rep (m : Nat) : List.replicate m (D.int .i64 0) = enumN (List.replicate m 0) := by simp [enumN]
theorem b_mulN {a b : Nat} (h : a * b <= 9223372036854775807) : D.bin .mul (I (a : Int)) (I (b : Int)) = some (I ((a * b : Nat) : Int)) := by
 rw [b_mul (by simp only [inR]; rw [<- Int.natCast_mul]; omega), Int.natCast_mul]
theorem b_addN {a b : Nat} (h : a + b <= 9223372036854775807) : D.bin .add (I (a : Int)) (I (b : Int)) = some (I ((a + b : Nat) : Int)) := by
 rw [b_add (by simp only [inR]; omega), Int.natCast_add]
theorem natOf_I (a : Nat) : D.natOf (I (a : Int)) = some a := by simp [D.natOf]
theorem idxE {l : List Nat} {i : Nat} (h : i < l.length) : D.idx (I (i : Int)) (enumN l).length = some i := by rw [enumN_len]; exact idx_n h
theorem dl_of {l : List Nat} (h : ∀ i, i < l.length -> l.getD i 0 < 65536) : dl l := fun d hd => by
 obtain ⟨i, hi, rfl⟩ := List.getElem_of_mem hd
 have := h i hi
 simpa [List.getD, hi] using this
theorem c146 (n : Nat) {a b : List Nat} (ha : dl a) (hb : dl b) (hla : a.length <= 400000) (hlb : b.length <= 400000) : cA (n + 2) 146 [.sl (enumN a), .sl (enumN b)] = some (.sl (enumN (digs (dval a * dval b)))) := by
 rw [u146]
 unfold F146
 obtain ⟨M, hM⟩ : ∃ M, M = a.length + b.length + 1 := ⟨_, rfl⟩
 refine bind_eq (z := enumN a) rfl (bind_eq (z := enumN b) rfl (bind_eq (z := I ((a.length + b.length : Nat) : Int)) (by rw [enumN_len, enumN_len]; exact b_addN (by omega)) (bind_eq (z := I (M : Int)) (by rw [hM]; exact b_addN (b := 1) (by omega)) (bind_eq (natOf_I M) ?_))))
 rw [if_pos (by omega), enumN_rep]
 refine lp_for (fun i s => ∃ out : List Nat, s = [I (i : Int), .sl (enumN out)] /\ out.length = M /\ dl out /\ dval out = vt a i * dval b) a.length 0 (Nat.zero_le _) ⟨List.replicate M 0, rfl, by simp, fun x hx => by rw [List.eq_of_mem_replicate hx]; decide, by have := dval_zeros [] M; rw [List.nil_append] at this; rw [this]; simp [vt, dval]⟩ (fun i hi s hJ => ?_) (fun s hJ => ?_)
 . obtain ⟨out, rfl, ho, hdo, hv⟩ := hJ
   left
   have hai := ha.getD i
   obtain ⟨r, h1, out1, rfl, o1, o2, o3⟩ := lp_for' (body := fun (v10 : List D) =>
     Option.bind (D.asSl (.sl (enumN b))) fun l11 =>
     Option.bind (D.bin .lss (List.getD v10 0 (D.bool false)) (D.int .i64 (List.length l11))) fun x12 =>
     Option.bind (D.truth x12) fun b13 =>
     if b13 then (Option.bind (D.bin .add (I (i : Int)) (List.getD v10 0 (D.bool false))) fun x14 =>
     Option.bind (D.bin .add (I (i : Int)) (List.getD v10 0 (D.bool false))) fun x15 =>
     Option.bind (D.idx x15 (List.length (D.els (List.getD v10 1 (D.bool false))))) fun i16 =>
     Option.bind ((D.els (List.getD v10 1 (D.bool false)))[i16]?) fun x17 =>
     Option.bind (D.asSl (.sl (enumN a))) fun l18 =>
     Option.bind (D.idx (I (i : Int)) (List.length l18)) fun i19 =>
     Option.bind (l18[i19]?) fun x20 =>
     Option.bind (D.asSl (.sl (enumN b))) fun l21 =>
     Option.bind (D.idx (List.getD v10 0 (D.bool false)) (List.length l21)) fun i22 =>
     Option.bind (l21[i22]?) fun x23 =>
     Option.bind (D.bin .mul x20 x23) fun x24 =>
     Option.bind (D.bin .add x17 x24) fun x25 =>
     Option.bind (D.idx x14 (List.length (D.els (List.getD v10 1 (D.bool false))))) fun i26 =>
     Option.bind ((D.els (List.getD v10 1 (D.bool false)))[i26]?) fun x27 =>
     Option.bind (D.bin .add (List.getD v10 0 (D.bool false)) (D.int .i64 1)) fun x28 =>
     some (Sum.inl [x28, (D.sl (List.set (D.els (List.getD v10 1 (D.bool false))) i26 x25))])) else (some (Sum.inr (0, [(D.sl (D.els (List.getD v10 1 (D.bool false))))]))))
     (s0 := [I 0, .sl (enumN out)])
     (fun k s => ∃ o : List Nat, s = [I (k : Int), .sl (enumN o)] /\ o.length = M /\ (∀ j, j < M -> o.getD j 0 <= 4295032831 /\ (i + k <= j -> o.getD j 0 < 65536)) /\ dval o = dval out + 65536 ^ i * (a.getD i 0 * vt b k))
     (fun r => ∃ o : List Nat, r = (0, [.sl (enumN o)]) /\ o.length = M /\ (∀ j, j < M -> o.getD j 0 <= 4295032831) /\ dval o = dval out + 65536 ^ i * (a.getD i 0 * dval b)) b.length 0 (Nat.zero_le _)
     ⟨out, rfl, ho, fun j _ => by have := hdo.getD j; omega, by simp [vt]⟩ (fun k hk s hJ => by
       obtain ⟨o, rfl, o1, o2, o3⟩ := hJ
       left
       have hbk := hb.getD k
       have hik : i + k < o.length := by omega
       have hp : a.getD i 0 * b.getD k 0 <= 65535 * 65535 := Nat.mul_le_mul (by omega) (by omega)
       have hx := (o2 (i + k) (by omega)).2 (Nat.le_refl _)
       refine ⟨[I ((k + 1 : Nat) : Int), .sl (enumN (o.set (i + k) (o.getD (i + k) 0 + a.getD i 0 * b.getD k 0)))], ?_, _, rfl, by simpa using o1, fun j hj => ?_, ?_⟩
       . refine bind_eq (z := enumN b) rfl (bind_eq b_lss (bind_eq tr_b (iteT (by show (k : Int) < ((enumN b).length : Int); rw [enumN_len]; omega) ?_)))
         refine bind_eq (b_addN (a := i) (b := k) (by omega)) (bind_eq (b_addN (a := i) (b := k) (by omega)) (bind_eq (idxE hik) (bind_eq (enumN_at hik) ?_)))
         refine bind_eq (z := enumN a) rfl (bind_eq (idxE hi) (bind_eq (enumN_at hi) (bind_eq (z := enumN b) rfl (bind_eq (idxE hk) (bind_eq (enumN_at hk) ?_)))))
         refine bind_eq (b_mulN (by omega)) (bind_eq (b_addN (by omega)) (bind_eq (idxE hik) (bind_eq (enumN_at hik) (bind_eq (b_add (inR_nat (i := k) (by omega))) ?_))))
         show some (Sum.inl [_, D.sl (List.set (enumN o) (i + k) _)]) = _
         rw [enumN_set]; rfl
       . rw [getD_set _ _ _ _ hik]
         have := o2 j hj
         split
         . omega
         . omega
       . have e := dval_set (l := o) (j := i + k) (v := o.getD (i + k) 0 + a.getD i 0 * b.getD k 0) hik
         rw [vt, Nat.mul_add, Nat.mul_add]
         have e2 : 65536 ^ i * (a.getD i 0 * (b.getD k 0 * 65536 ^ k)) = 65536 ^ (i + k) * (a.getD i 0 * b.getD k 0) := by
           rw [Nat.pow_add, <- Nat.mul_assoc (a.getD i 0), Nat.mul_comm (a.getD i 0 * b.getD k 0), Nat.mul_assoc]
         rw [Nat.mul_add] at e
         omega) (fun s hJ => by
       obtain ⟨o, rfl, o1, o2, o3⟩ := hJ
       rw [vt_len] at o3
       exact ⟨_, bind_eq (z := enumN b) rfl (bind_eq b_lss (bind_eq tr_b (iteF (by show ¬ ((b.length : Int) < ((enumN b).length : Int)); rw [enumN_len]; omega) rfl))), o, rfl, o1, fun j hj => (o2 j hj).1, o3⟩)
   obtain ⟨r2, h2, out2, rfl, p1, p2, p3⟩ := lp_for' (body := fun (v30 : List D) =>
     Option.bind (D.bin .lss (List.getD v30 1 (D.bool false)) (D.int .i64 (List.length (D.els (List.getD v30 2 (D.bool false)))))) fun x31 =>
     Option.bind (D.truth x31) fun b32 =>
     if b32 then (Option.bind (D.idx (List.getD v30 1 (D.bool false)) (List.length (D.els (List.getD v30 2 (D.bool false))))) fun i33 =>
     Option.bind ((D.els (List.getD v30 2 (D.bool false)))[i33]?) fun x34 =>
     Option.bind (D.bin .add x34 (List.getD v30 0 (D.bool false))) fun x35 =>
     Option.bind (D.bin .rem x35 (D.int .i64 65536)) fun x36 =>
     Option.bind (D.idx (List.getD v30 1 (D.bool false)) (List.length (D.els (List.getD v30 2 (D.bool false))))) fun i37 =>
     Option.bind ((D.els (List.getD v30 2 (D.bool false)))[i37]?) fun x38 =>
     Option.bind (D.bin .quo x35 (D.int .i64 65536)) fun x39 =>
     Option.bind (D.bin .add (List.getD v30 1 (D.bool false)) (D.int .i64 1)) fun x40 =>
     some (Sum.inl [x39, x40, (D.sl (List.set (D.els (List.getD v30 2 (D.bool false))) i37 x36))])) else (some (Sum.inr (0, [(D.sl (D.els (List.getD v30 2 (D.bool false))))]))))
     (s0 := [I 0, I 0, .sl (enumN out1)])
     (fun k s => ∃ (o : List Nat) (c : Nat), s = [I (c : Int), I (k : Int), .sl (enumN o)] /\ o.length = M /\ (∀ j, j < k -> o.getD j 0 < 65536) /\ (∀ j, k <= j -> o.getD j 0 = out1.getD j 0) /\ c <= 131072 /\ dval o + 65536 ^ k * c = dval out1)
     (fun r => ∃ o : List Nat, r = (0, [.sl (enumN o)]) /\ o.length = M /\ dl o /\ ∃ c, dval o + 65536 ^ M * c = dval out1) M 0 (Nat.zero_le _)
     ⟨out1, 0, rfl, o1, fun j hj => absurd hj (Nat.not_lt_zero _), fun j _ => rfl, by omega, by simp⟩ (fun k hk s hJ => by
       obtain ⟨o, c, rfl, q1, q2, q3, q4, q5⟩ := hJ
       left
       have hko : k < o.length := by omega
       have hx := o2 k hk
       have hq := q3 k (Nat.le_refl _)
       refine ⟨[I (((o.getD k 0 + c) / 65536 : Nat) : Int), I ((k + 1 : Nat) : Int), .sl (enumN (o.set k ((o.getD k 0 + c) % 65536)))], ?_, _, _, rfl, by simpa using q1, fun j hj => ?_, fun j hj => ?_, by omega, ?_⟩
       . refine bind_eq b_lss (bind_eq tr_b (iteT (by show (k : Int) < ((enumN o).length : Int); rw [enumN_len]; omega) ?_))
         refine bind_eq (idxE hko) (bind_eq (enumN_at hko) (bind_eq (b_addN (by omega)) (bind_eq (b_remN (b := 65536) (by decide)) (bind_eq (idxE hko) (bind_eq (enumN_at hko) (bind_eq (b_quoN (b := 65536) (by decide) (by omega)) (bind_eq (b_add (inR_nat (i := k) (by omega))) ?_)))))))
         show some (Sum.inl [_, _, D.sl (List.set (enumN o) k _)]) = _
         rw [enumN_set]; rfl
       . rw [getD_set _ _ _ _ hko]
         split
         . omega
         . exact q2 j (by omega)
       . rw [getD_set _ _ _ _ hko, if_neg (by omega)]; exact q3 j (by omega)
       . have e := dval_set (l := o) (j := k) (v := (o.getD k 0 + c) % 65536) hko
         have e2 : o.getD k 0 + c = (o.getD k 0 + c) % 65536 + 65536 * ((o.getD k 0 + c) / 65536) := by omega
         have e3 : 65536 ^ k * (o.getD k 0 + c) = 65536 ^ k * ((o.getD k 0 + c) % 65536) + 65536 ^ k * (65536 * ((o.getD k 0 + c) / 65536)) := by rw [<- Nat.mul_add, <- e2]
         rw [Nat.mul_add] at e3
         rw [Nat.pow_succ, Nat.mul_assoc]
         omega) (fun s hJ => by
       obtain ⟨o, c, rfl, q1, q2, q3, q4, q5⟩ := hJ
       exact ⟨_, bind_eq b_lss (bind_eq tr_b (iteF (by show ¬ ((M : Int) < ((enumN o).length : Int)); rw [enumN_len]; omega) rfl)), o, rfl, q1, dl_of fun j hj => q2 j (by omega), c, q5⟩)
   obtain ⟨c, p4⟩ := p3
   refine ⟨[I ((i + 1 : Nat) : Int), .sl (enumN out2)], ?_, out2, rfl, p1, p2, ?_⟩
   . refine bind_eq (z := enumN a) rfl (bind_eq b_lss (bind_eq tr_b (iteT (by show (i : Int) < ((enumN a).length : Int); rw [enumN_len]; omega) ?_)))
     refine bind_eq h1 (bind_eq h2 ?_)
     exact bind_eq (b_add (inR_nat (i := i) (by omega))) rfl
   . have hval : dval out1 = vt a (i + 1) * dval b := by
       rw [o3, hv, vt, Nat.add_mul, Nat.mul_comm (a.getD i 0) (65536 ^ i), Nat.mul_assoc]
     have hlt : vt a (i + 1) * dval b < 65536 ^ M := by
       have l1 := vt_lt ha (i + 1)
       have l2 := dval_lt hb
       have l3 : vt a (i + 1) * dval b < 65536 ^ (i + 1) * 65536 ^ b.length := Nat.mul_lt_mul'' l1 l2
       have l4 : 65536 ^ (i + 1) * 65536 ^ b.length <= 65536 ^ M := by rw [<- Nat.pow_add]; exact Nat.pow_le_pow_right (by decide) (by omega)
       omega
     have hc : c = 0 := by
       rcases Nat.eq_zero_or_pos c with h | h
       . exact h
       . have : 65536 ^ M * 1 <= 65536 ^ M * c := Nat.mul_le_mul_left _ h
         omega
     subst hc
     rw [<- hval, <- p4]; simp
 . obtain ⟨out, rfl, ho, hdo, hv⟩ := hJ
   refine ⟨(0, [.sl (enumN out)]), bind_eq (z := enumN a) rfl (bind_eq b_lss (bind_eq tr_b (iteF (by show ¬ ((a.length : Int) < ((enumN a).length : Int)); rw [enumN_len]; omega) rfl))), ?_⟩
   refine bind_eq (c140 n (l := out) (by omega)) ?_
   rw [trimN_eq hdo, hv, vt_len]
theorem c145 (n : Nat) (x : Int) : cA (n + 1) 145 [I x] = some (.bool (decide (x < 2147483648) && decide (x > -2147483648))) := by
 rw [u145]
 unfold F145
 refine bind_eq b_lss (bind_eq tr_b ?_)
 cases h : decide (x < 2147483648)
 . rfl
 . rw [if_pos rfl]; exact bind_eq (bind_eq b_gtr rfl) rfl
theorem sgn_mul (x y : Int) : sgn (!(decide (decide (x < 0) = decide (y < 0)))) (x.natAbs * y.natAbs) = x * y := by
 unfold sgn
 rw [<- Int.natAbs_mul]
 by_cases hx : x < 0 <;> by_cases hy : y < 0
 . have := Int.mul_pos_of_neg_of_neg hx hy; simp [hx, hy]; omega
 . have := Int.mul_nonpos_of_nonpos_of_nonneg (Int.le_of_lt hx) (Int.not_lt.1 hy); simp [hx, hy]; omega
 . have := Int.mul_nonpos_of_nonneg_of_nonpos (Int.not_lt.1 hx) (Int.le_of_lt hy); simp [hx, hy]; omega
 . have := Int.mul_nonneg (Int.not_lt.1 hx) (Int.not_lt.1 hy); simp [hx, hy]; omega
theorem c89 (n : Nat) {x y : Int} (hx : Wd x) (hy : Wd y) : cA (n + 4) 89 [encN x, encN y] = some (encN (x * y)) := by
 rw [u89]
 unfold F89
 refine bind_eq (c124 n hx) (bind_eq (z := I x) rfl (bind_eq (z := .bool true) rfl (bind_eq (c124 n hy) (bind_eq (z := I y) rfl (bind_eq (z := .bool true) rfl (bind_eq (z := true) rfl (bind_eq (z := true) rfl (bind_eq (z := true) rfl ?_))))))))
 refine bind_eq (z := (decide (x < 2147483648) && decide (x > -2147483648))) (by rw [if_pos rfl]; exact bind_eq (c145 (n + 2) x) rfl) (bind_eq tr_b ?_)
 refine bind_eq (z := ((decide (x < 2147483648) && decide (x > -2147483648)) && (decide (y < 2147483648) && decide (y > -2147483648)))) (by
   cases (decide (x < 2147483648) && decide (x > -2147483648))
   . rfl
   . rw [if_pos rfl]; exact bind_eq (c145 (n + 2) y) rfl) (bind_eq tr_b ?_)
 cases hb : ((decide (x < 2147483648) && decide (x > -2147483648)) && (decide (y < 2147483648) && decide (y > -2147483648)))
 . rw [if_neg (by decide)]
   refine bind_eq (c76 (n + 1) hx.In) (bind_eq u_not (bind_eq tr_b (bind_eq (z := false) ?_ (bind_eq tr_b ?_))))
   . rw [if_neg (by decide)]; exact bind_eq (c76 (n + 1) hy.In) rfl
   . rw [if_neg (by decide)]
     have lx := digs_len 32 _ hx.In
     have ly := digs_len 32 _ hy.In
     refine bind_eq (z := .bool (decide (x < 0))) rfl (bind_eq (z := .bool (decide (y < 0))) rfl (bind_eq (c77 (n + 1) hx.In) (bind_eq (c77 (n + 1) hy.In) (bind_eq (c146 (n + 1) (dl_digs _) (dl_digs _) (by omega) (by omega)) (bind_eq (z := encN (x * y)) ?_ rfl)))))
     rw [dval_digs, dval_digs]
     have hxy : x.natAbs * y.natAbs < 65536 ^ 8 := by
       have e : (65536 : Nat) ^ 8 = 18446744073709551616 * 18446744073709551616 := by decide
       rw [e]; unfold Wd at hx hy
       exact Nat.mul_lt_mul'' (by omega) (by omega)
     have l8 := digs_len 8 _ hxy
     have h32 : x.natAbs * y.natAbs < 65536 ^ 32 := Nat.lt_of_lt_of_le hxy (Nat.pow_le_pow_right (by decide) (by decide))
     have := c81 (n + 1) (l := digs (x.natAbs * y.natAbs)) (neg := !(decide (decide (x < 0) = decide (y < 0)))) (dl_digs _) (by omega) (by rw [dval_digs]; exact h32)
     rw [dval_digs, sgn_mul] at this
     rw [<- this]
     congr 4
 . rw [if_pos rfl]
   simp only [Bool.and_eq_true, decide_eq_true_eq] at hb
   have := mulb (A := 2147483648) (B := 2147483648) (a := x) (b := y) (by omega) (by omega)
   have hr : inR (x * y) := by simp only [inR]; omega
   exact bind_eq (b_mul hr) (bind_eq (c34 n hr) rfl)
theorem c59 (n : Nat) {x y : Int} (hx : Wd x) (hy : Wd y) : cA (n + 4) 59 [encN x, encN y] = some (encN (x + y)) := by
 rw [u59]
 unfold F59
 refine bind_eq (c124 n hx) (bind_eq (z := I x) rfl (bind_eq (z := .bool true) rfl (bind_eq (c124 n hy) (bind_eq (z := I y) rfl (bind_eq (z := .bool true) rfl (bind_eq (z := true) rfl (bind_eq (z := true) rfl (bind_eq (z := true) rfl ?_))))))))
 rw [if_pos rfl]
 have hr : inR (x + y) := by unfold Wd at hx hy; simp only [inR]; omega
 exact bind_eq (b_add hr) (bind_eq (c34 n hr) rfl)
theorem c33 (n : Nat) {A B : Int} {u v : V} (hu : bd A u) (hv : bd B v) (hA : A <= 4611686018427387903) (hB : B <= 4611686018427387903) (h : 3 * (A * B) <= 4611686018427387903) : cA (n + 6) 33 [encV u, encV v] = some (encN (V.dot u v)) := by
 have w : ∀ {K : Int} {x : Int}, K <= 4611686018427387903 -> -K <= x /\ x <= K -> Wd x /\ inR x := fun h1 h2 => by unfold Wd; simp only [inR]; omega
 have ux := w hA hu.1; have uy := w hA hu.2.1; have uz := w hA hu.2.2
 have vx := w hB hv.1; have vy := w hB hv.2.1; have vz := w hB hv.2.2
 have mx := mulb hu.1 hv.1; have my := mulb hu.2.1 hv.2.1; have mz := mulb hu.2.2 hv.2.2
 have hAB : 0 <= A * B := by omega
 rw [u33]
 unfold F33
 refine bind_eq (c80 (n + 1) ux.2 uy.2 uz.2) (bind_eq (c80 (n + 1) vx.2 vy.2 vz.2) (bind_eq (z := encN (V.dot u v)) ?_ rfl))
 rw [u79]
 unfold F79
 refine bind_eq (z := encN u.x) rfl (bind_eq (z := encN v.x) rfl (bind_eq (c89 n ux.1 vx.1) (bind_eq (z := encN u.y) rfl (bind_eq (z := encN v.y) rfl (bind_eq (c89 n uy.1 vy.1) ?_)))))
 refine bind_eq (c59 n (w (K := A * B) (by omega) mx).1 (w (K := A * B) (by omega) my).1) (bind_eq (z := encN u.z) rfl (bind_eq (z := encN v.z) rfl (bind_eq (c89 n uz.1 vz.1) ?_)))
 refine bind_eq (c59 n ?_ (w (K := A * B) (by omega) mz).1) rfl
 unfold Wd; omega
end Go.Proofs.YtjjjkojfijpeeaaGreat.Sy
end
section
set_option linter.unusedVariables false
namespace Go.Proofs.YtjjjkojfijpeeaaGreat.Sy
open Go Go.Proofs Go.Proofs.YtjjjkojfijpeeaaGreat.Geo
def insS (x : V) : List V -> List V
 | [] => [x]
 | y :: L => if lexlt x y \/ x = y then x :: (y :: L).filter (fun z => decide (z ≠ x)) else y :: insS x L
def srtL (l : List V) : List V := l.foldl (fun o x => insS x o) []
theorem insS_len (x : V) : ∀ L : List V, (insS x L).length <= L.length + 1
 | [] => by simp [insS]
 | y :: L => by
   have := insS_len x L
   unfold insS
   split
   . rw [List.length_cons]; have := List.length_filter_le (fun z => decide (z ≠ x)) (y :: L); omega
   . simp only [List.length_cons]; omega
theorem mem_insS {x z : V} : ∀ {L : List V}, z ∈ insS x L ↔ z = x \/ z ∈ L
 | [] => by simp [insS]
 | y :: L => by
   have ih := mem_insS (x := x) (z := z) (L := L)
   unfold insS
   split
   . simp only [List.mem_cons, List.mem_filter, decide_eq_true_eq]
     by_cases h : z = x <;> simp [h]
   . simp only [List.mem_cons, ih]
     constructor
     . rintro (h | h | h)
       . exact .inr (.inl h)
       . exact .inl h
       . exact .inr (.inr h)
     . rintro (h | h | h)
       . exact .inr (.inl h)
       . exact .inl h
       . exact .inr (.inr h)
theorem insS_ord {x : V} : ∀ {L : List V}, L.Pairwise lexlt -> (insS x L).Pairwise lexlt
 | [], _ => by simp [insS]
 | y :: L, h => by
   obtain ⟨h1, h2⟩ := List.pairwise_cons.1 h
   unfold insS
   split
   . rename_i hxy
     refine List.pairwise_cons.2 ⟨fun z hz => ?_, h.filter _⟩
     obtain ⟨hz1, hz2⟩ := List.mem_filter.1 hz
     have hzx : z ≠ x := by simpa using hz2
     rcases List.mem_cons.1 hz1 with rfl | hz1
     . rcases hxy with h | h
       . exact h
       . exact absurd h.symm hzx
     . rcases hxy with h | h
       . exact lexlt_trans h (h1 z hz1)
       . rw [h]; exact h1 z hz1
   . rename_i hxy
     refine List.pairwise_cons.2 ⟨fun z hz => ?_, insS_ord h2⟩
     rcases mem_insS.1 hz with rfl | hz
     . rcases lexlt_tri (a := z) (b := y) (fun e => hxy (.inr e)) with k | k
       . exact absurd (.inl k) hxy
       . exact k
     . exact h1 z hz
theorem srtL_ord (l : List V) : (srtL l).Pairwise lexlt := by
 unfold srtL
 have : ∀ (l o : List V), o.Pairwise lexlt -> (l.foldl (fun o x => insS x o) o).Pairwise lexlt := by
   intro l
   induction l with
   | nil => intro o h; exact h
   | cons x l ih => intro o h; exact ih _ (insS_ord h)
 exact this l [] .nil
theorem mem_srtL {l : List V} {z : V} : z ∈ srtL l ↔ z ∈ l := by
 unfold srtL
 have : ∀ (l o : List V), z ∈ l.foldl (fun o x => insS x o) o ↔ z ∈ l \/ z ∈ o := by
   intro l
   induction l with
   | nil => intro o; simp
   | cons x l ih =>
     intro o
     rw [List.foldl_cons, ih, mem_insS, List.mem_cons]
     constructor
     . rintro (h | h | h)
       . exact .inl (.inr h)
       . exact .inl (.inl h)
       . exact .inr h
     . rintro ((h | h) | h)
       . exact .inr (.inl h)
       . exact .inl h
       . exact .inr (.inr h)
 rw [this]; simp
theorem srtL_len (l : List V) : (srtL l).length <= l.length := by
 unfold srtL
 have : ∀ (l o : List V), (l.foldl (fun o x => insS x o) o).length <= l.length + o.length := by
   intro l
   induction l with
   | nil => intro o; simp
   | cons x l ih =>
     intro o
     have h1 := ih (insS x o)
     have h2 := insS_len x o
     rw [List.foldl_cons, List.length_cons]; omega
 simpa using this l []
theorem srt_of {l : List V} (h : l.Pairwise lexlt) : Srt l := fun i j hij hj => by
 have := List.pairwise_iff_getElem.1 h i j (by omega) hj hij
 simpa [pt, List.getD, hj, show i < l.length by omega] using this
theorem srtL_id {l : List V} (h : l.Pairwise lexlt) : srtL l = l :=
 sorted_eq (r := lexlt) lexlt_irr lexlt_asy (srtL_ord l) h fun x => mem_srtL
theorem c47 (n : Nat) (l : List V) (hlen : l.length <= 1000000) : cA (n + 2) 47 [encL l] = some (encL (srtL l)) := by
 rw [u47]
 unfold F47
 have ll : (l.map encV).length = l.length := List.length_map ..
 refine lp_for (fun i s => s = [encL (srtL (l.take i)), I (i : Int)]) l.length 0 (Nat.zero_le _) rfl (fun i hi s hJ => ?_) (fun s hJ => ?_)
 . subst hJ
   left
   refine ⟨[encL (srtL (l.take (i + 1))), I ((i + 1 : Nat) : Int)], ?_, rfl⟩
   have hs : srtL (l.take (i + 1)) = insS (l.getD i V.zero) (srtL (l.take i)) := by
     unfold srtL
     rw [List.take_succ_eq_append_getElem hi, List.foldl_append]
     simp [List.getD, hi]
   have hol : (srtL (l.take i)).length <= 1000000 := Nat.le_trans (srtL_len _) (by rw [List.length_take]; omega)
   rw [hs]
   obtain ⟨o, ho⟩ : ∃ o, srtL (l.take i) = o := ⟨_, rfl⟩
   obtain ⟨x, hx⟩ : ∃ x, l.getD i V.zero = x := ⟨_, rfl⟩
   have hxg : (l.map encV)[i]? = some (encV x) := by rw [<- hx]; exact getDL hi
   rw [ho] at hol ⊢
   rw [hx]
   have ol : (o.map encV).length = o.length := List.length_map ..
   refine bind_eq (z := l.map encV) rfl (bind_eq b_lss (bind_eq tr_b (iteT (by show ((i : Int) < ((l.map encV).length : Int)); rw [ll]; omega) ?_)))
   refine lp_forA (fun k s => ∃ (nx : List V) (put : Bool), s = [encL o, encL nx, .bool put, I (k : Int)] /\ nx.length <= 2 * k /\ (put = false -> insS x o = nx ++ insS x (o.drop k)) /\ (put = true -> insS x o = nx ++ (o.drop k).filter (fun z => decide (z ≠ x)))) o.length 0 (Nat.zero_le _) ⟨[], false, rfl, by simp, by simp, by simp⟩ (fun k hk s hJ => ?_) (fun s hJ => ?_)
   . obtain ⟨nx, put, rfl, hnl, h1, h2⟩ := hJ
     left
     have hd : o.drop k = o.getD k V.zero :: o.drop (k + 1) := by rw [List.drop_eq_getElem_cons hk]; simp [List.getD, hk]
     have hyg : (o.map encV)[k]? = some (encV (o.getD k V.zero)) := getDL hk
     obtain ⟨y, hy⟩ : ∃ y, o.getD k V.zero = y := ⟨_, rfl⟩
     rw [hy] at hd hyg
     rw [hd] at h1 h2
     obtain ⟨n1, p1, he, q0, q1, q2⟩ : ∃ (n1 : List V) (p1 : Bool), (if put = false /\ (lexlt x y \/ x = y) then (nx ++ [x], true) else (nx, put)) = (n1, p1) /\ n1.length <= 2 * k + 1 /\ (p1 = false -> x ≠ y /\ insS x o = n1 ++ y :: insS x (o.drop (k + 1))) /\ (p1 = true -> insS x o = n1 ++ (y :: o.drop (k + 1)).filter (fun z => decide (z ≠ x))) := by
       by_cases hp : put = false /\ (lexlt x y \/ x = y)
       . refine ⟨_, _, if_pos hp, by simp; omega, by simp, fun _ => ?_⟩
         rw [h1 hp.1, insS, if_pos hp.2]; simp
       . refine ⟨_, _, if_neg hp, by omega, fun e => ?_, fun e => h2 e⟩
         have hn : ¬ (lexlt x y \/ x = y) := fun h => hp ⟨e, h⟩
         refine ⟨fun h => hn (.inr h), ?_⟩
         rw [h1 e, insS, if_neg hn]
     refine ⟨[encL o, encL (if y ≠ x then n1 ++ [y] else n1), .bool p1, I ((k + 1 : Nat) : Int)], ?_, _, p1, rfl, ?_, ?_, ?_⟩
     . refine bind_eq b_lss (bind_eq tr_b (iteT (by show ((k : Int) < ((o.map encV).length : Int)); rw [ol]; omega) ?_))
       have app : ∀ (a : List V) (z : V), D.sl ((a.map encV) ++ [encV z]) = encL (a ++ [z]) := fun a z => by simp [encL]
       have al : ∀ a : List V, (a.map encV).length = a.length := fun a => List.length_map ..
       refine bind_eq (z := (0, [encL o, encL (if y ≠ x then n1 ++ [y] else n1), .bool p1])) ?_ (bind_eq (b_add (inR_nat (i := k) (by omega))) rfl)
       refine bind_eq (z := l.map encV) rfl (bind_eq (z := i) (by rw [ll]; exact idx_n hi) (bind_eq hxg (bind_eq (z := k) (by show D.idx (I (k : Int)) (o.map encV).length = _; rw [ol]; exact idx_n hk) (bind_eq hyg (bind_eq (c105 n x y) (bind_eq (z := (0, [encL o, encL n1, .bool p1])) ?_ ?_))))))
       . refine bind_eq (z := .bool (!put)) rfl (bind_eq tr_b (bind_eq (z := !put && decide (lexlt x y \/ x = y)) ?_ (bind_eq tr_b ?_)))
         . cases put
           . rw [show (!false) = true from rfl, if_pos rfl]
             refine bind_eq tr_b ?_
             by_cases hlt : lexlt x y
             . refine iteT hlt ?_
               rw [decide_eq_true (.inl hlt)]; rfl
             . refine iteF hlt ?_
               refine bind_eq (z := l.map encV) rfl (bind_eq (z := i) (by rw [ll]; exact idx_n hi) (bind_eq hxg (bind_eq (z := k) (by show D.idx (I (k : Int)) (o.map encV).length = _; rw [ol]; exact idx_n hk) (bind_eq hyg ?_))))
               rw [beq_V, tr_b]
               simp [hlt]
           . rfl
         . by_cases hp : put = false /\ (lexlt x y \/ x = y)
           . rw [if_pos hp] at he
             cases he
             rw [show (!put && decide (lexlt x y \/ x = y)) = true by rw [hp.1, decide_eq_true hp.2]; rfl, if_pos rfl]
             refine bind_eq (z := l.map encV) rfl (bind_eq (z := i) (by rw [ll]; exact idx_n hi) (bind_eq hxg ?_))
             rw [if_pos (by show (nx.map encV).length + 1 <= 1073741824; rw [al]; omega)]
             rw [<- app]; rfl
           . rw [if_neg hp] at he
             cases he
             rw [show (!put && decide (lexlt x y \/ x = y)) = false by
               cases hput : put
               . have : ¬ (lexlt x y \/ x = y) := fun h => hp ⟨hput, h⟩
                 simp [this]
               . rfl]
             rfl
       . refine bind_eq (z := k) (by show D.idx (I (k : Int)) (o.map encV).length = _; rw [ol]; exact idx_n hk) (bind_eq hyg (bind_eq (z := l.map encV) rfl (bind_eq (z := i) (by rw [ll]; exact idx_n hi) (bind_eq hxg ?_))))
         rw [beq_V]
         refine bind_eq tr_b ?_
         by_cases hyx : y = x
         . rw [decide_eq_true hyx, if_neg (show ¬ (y ≠ x) from fun h => h hyx)]; rfl
         . rw [decide_eq_false hyx, if_pos (show y ≠ x from hyx), show (!false) = true from rfl, if_pos rfl]
           refine bind_eq (z := k) (by show D.idx (I (k : Int)) (o.map encV).length = _; rw [ol]; exact idx_n hk) (bind_eq hyg ?_)
           rw [if_pos (by show (n1.map encV).length + 1 <= 1073741824; rw [al]; omega)]
           rw [<- app]; rfl
     . split
       . simp; omega
       . omega
     . intro e
       obtain ⟨r1, r2⟩ := q1 e
       rw [if_pos (fun h => r1 h.symm), r2]; simp
     . intro e
       rw [q2 e, List.filter_cons]
       by_cases hyx : y = x
       . simp [hyx]
       . simp [hyx]
   . obtain ⟨nx, put, rfl, hnl, h1, h2⟩ := hJ
     refine ⟨(0, [encL nx, .bool put]), ?_, ?_⟩
     . exact bind_eq b_lss (bind_eq tr_b (iteF (by show ¬ ((o.length : Int) < ((o.map encV).length : Int)); rw [ol]; omega) rfl))
     . have al : ∀ a : List V, (a.map encV).length = a.length := fun a => List.length_map ..
       rw [List.drop_length] at h1 h2
       refine bind_eq (z := (0, [encL (insS x o)])) ?_ (bind_eq (b_add (inR_nat (i := i) (by omega))) rfl)
       refine bind_eq (z := .bool (!put)) rfl (bind_eq tr_b ?_)
       cases put
       . rw [show (!false) = true from rfl, if_pos rfl]
         refine bind_eq (z := l.map encV) rfl (bind_eq (z := i) (by rw [ll]; exact idx_n hi) (bind_eq hxg ?_))
         rw [if_pos (by show (nx.map encV).length + 1 <= 1073741824; rw [al]; omega)]
         rw [h1 rfl]
         simp [insS, encL, g0, D.els]
       . have := h2 rfl
         simp only [List.filter_nil, List.append_nil] at this
         rw [this]; rfl
 . subst hJ
   rw [List.take_length]
   refine ⟨(0, [encL (srtL l)]), ?_, rfl⟩
   exact bind_eq (z := l.map encV) rfl (bind_eq b_lss (bind_eq tr_b (iteF (by show ¬ ((l.length : Int) < ((l.map encV).length : Int)); rw [ll]; omega) rfl)))
structure FOk (l : List V) (F : FL) : Prop where
 ord : F.Pairwise (fun a b => lexlt a.1.1 b.1.1)
 ok : ∀ f ∈ F, IsF (pt l) l.length f.1.1 f.1.2 /\ IsPoly (pt l) l.length f.1.1 f.1.2 f.2
theorem mem_insF {f x : (V × Int) × List Nat} : ∀ {L : FL}, x ∈ insF f L ↔ x = f \/ x ∈ L
 | [] => by simp [insF]
 | y :: L => by
   have ih := mem_insF (f := f) (x := x) (L := L)
   unfold insF
   split
   . simp
   . simp only [List.mem_cons, ih]
     constructor
     . rintro (h | h | h)
       . exact .inr (.inl h)
       . exact .inl h
       . exact .inr (.inr h)
     . rintro (h | h | h)
       . exact .inr (.inl h)
       . exact .inl h
       . exact .inr (.inr h)
theorem insF_ord {f : (V × Int) × List Nat} : ∀ {L : FL}, L.Pairwise (fun a b => lexlt a.1.1 b.1.1) -> (∀ x ∈ L, x.1.1 ≠ f.1.1) -> (insF f L).Pairwise (fun a b => lexlt a.1.1 b.1.1)
 | [], _, _ => by simp [insF]
 | y :: L, h, hn => by
   obtain ⟨h1, h2⟩ := List.pairwise_cons.1 h
   unfold insF
   split
   . rename_i k
     refine List.pairwise_cons.2 ⟨fun z hz => ?_, h⟩
     rcases List.mem_cons.1 hz with rfl | hz
     . exact k
     . exact lexlt_trans k (h1 z hz)
   . rename_i k
     refine List.pairwise_cons.2 ⟨fun z hz => ?_, insF_ord h2 fun x hx => hn x (List.mem_cons_of_mem _ hx)⟩
     rcases mem_insF.1 hz with rfl | hz
     . rcases lexlt_tri (hn y List.mem_cons_self) with k' | k'
       . exact k'
       . exact absurd k' k
     . exact h1 z hz
def cands (l : List V) : List (V × Int) := (List.range l.length).flatMap fun i => (List.range l.length).flatMap fun j => (List.range l.length).flatMap fun k => [(prim (tri (pt l) i j k), V.dot (prim (tri (pt l) i j k)) (pt l i)), ((prim (tri (pt l) i j k)).neg, V.dot (prim (tri (pt l) i j k)).neg (pt l i))]
theorem cands_len (l : List V) (h : l.length <= 100) : (cands l).length <= 2000000 := by
 unfold cands
 rw [len_fm (c := l.length * (l.length * 2)) _ (fun i _ => by rw [len_fm (c := l.length * 2) _ (fun j _ => by rw [len_fm (c := 2) _ (fun k _ => rfl), List.length_range]), List.length_range]), List.length_range]
 have a1 : l.length * 2 <= 200 := by omega
 have a2 : l.length * (l.length * 2) <= 100 * 200 := Nat.mul_le_mul h a1
 exact Nat.mul_le_mul h a2
theorem isF_cands {l : List V} {q : V × Int} (h : IsF (pt l) l.length q.1 q.2) : q ∈ cands l := by
 obtain ⟨i, j, k, h1, h2, h3, h4, h5, h6⟩ := h.ex
 refine List.mem_flatMap.2 ⟨i, List.mem_range.2 (by omega), List.mem_flatMap.2 ⟨j, List.mem_range.2 (by omega), List.mem_flatMap.2 ⟨k, List.mem_range.2 h3, ?_⟩⟩⟩
 obtain ⟨a, b⟩ := q
 simp only at h5 h6
 subst h6
 rcases h5 with rfl | rfl <;> simp
theorem FOk.len {l : List V} {F : FL} (h : FOk l F) (hl : l.length <= 100) : F.length <= 2000000 := by
 have nd : (F.map Prod.fst).Nodup := by
   refine List.pairwise_map.2 (h.ord.imp fun {a b} hab e => ?_)
   rw [e] at hab; exact lexlt_irr _ hab
 have := List.Nodup.length_le_of_subset (l₂ := cands l) nd fun q hq => by
   obtain ⟨f, hf, rfl⟩ := List.mem_map.1 hq
   exact isF_cands (h.ok f hf).1
 rw [List.length_map] at this
 exact Nat.le_trans this (cands_len l hl)
theorem FOk.insert {l : List V} {F : FL} (h : FOk l F) {f : (V × Int) × List Nat} (hn : ∀ x ∈ F, x.1.1 ≠ f.1.1) (h1 : IsF (pt l) l.length f.1.1 f.1.2) (h2 : IsPoly (pt l) l.length f.1.1 f.1.2 f.2) : FOk l (insF f F) :=
 ⟨insF_ord h.ord hn, fun x hx => by
   rcases mem_insF.1 hx with rfl | hx
   . exact ⟨h1, h2⟩
   . exact h.ok x hx⟩
theorem prim_zero' {v : V} : prim v = V.zero ↔ v = V.zero := by
 constructor
 . intro h
   by_cases hv : v = V.zero
   . exact hv
   . exact absurd h (prim_ne hv)
 . rintro rfl
   apply V.ext' <;> simp [prim, V.zero]
theorem neg_zero' {v : V} : v.neg = V.zero ↔ v = V.zero := by
 constructor
 . intro h
   by_cases hv : v = V.zero
   . exact hv
   . exact absurd h (neg_ne hv)
 . rintro rfl
   apply V.ext' <;> simp [V.neg, V.zero]
theorem ex_bind {α β : Type} {A : Option α} {g : α -> Option β} {z : α} {Y : β -> Prop} (h : A = some z) (hk : ∃ y, g z = some y /\ Y y) : ∃ y, Option.bind A g = some y /\ Y y := by
 rw [h]; exact hk
theorem ex_iteT {β : Type} {p : Prop} [Decidable p] {A B : Option β} {Y : β -> Prop} (h : p) (hA : ∃ y, A = some y /\ Y y) : ∃ y, (if decide p = true then A else B) = some y /\ Y y := by rw [if_pos (decide_eq_true h)]; exact hA
theorem turn48 (n : Nat) {l : List V} (hl : ∀ x ∈ l, bd MV x) (hlen : l.length <= 100) (hs : Srt l) {F : FL} (hF : FOk l F) {i j k : Nat} (hij : i < j) (hjk : j < k) (hk : k < l.length) {m : V} (hm : m = prim (tri (pt l) i j k) \/ m = (prim (tri (pt l) i j k)).neg) {α : Type} {g : D -> Nat × List D -> Option α} {Y : α -> Prop}
   (hg : ∀ F' : FL, FOk l F' -> (∀ f ∈ F, f ∈ F') -> (tri (pt l) i j k ≠ V.zero -> Supp (pt l) l.length m (V.dot m (pt l i)) -> (m, V.dot m (pt l i)) ∈ F'.map Prod.fst) -> ∃ y, g (I (V.dot m (pt l i))) (0, [.sl (encFL F')]) = some y /\ Y y) :
   ∃ y, (Option.bind (cA (n + 4) 107 [encV m, encV (pt l i)]) fun r31 =>
   Option.bind (cA (n + 4) 108 [.sl (encFL F), encV m]) fun r32 =>
   Option.bind (Option.bind (D.un .not r32) fun x33 =>
   Option.bind (D.truth x33) fun b34 =>
   Option.bind (if b34 then (Option.bind (D.un .not (D.bool (D.beq (encV m) (D.st [(D.int .i64 0), (D.int .i64 0), (D.int .i64 0)])))) fun x35 =>
   D.truth x35) else (some false)) fun b36 =>
   Option.bind (D.truth (D.bool b36)) fun b37 =>
   Option.bind (if b37 then (Option.bind (cA (n + 4) 109 [encL l, encV m, r31]) fun r38 =>
   D.truth r38) else (some false)) fun b39 =>
   Option.bind (D.truth (D.bool b39)) fun b40 =>
   if b40 then (Option.bind (cA (n + 4) 111 [encL l, encV m, r31]) fun r41 =>
   Option.bind (cA (n + 4) 110 [.sl (encFL F), (D.st [encV m, r31, r41])]) fun r42 =>
   some (0, [r42])) else (some (0, [.sl (encFL F)]))) (g r31)) = some y /\ Y y := by
 have hi : i < l.length := by omega
 have bt : bd 549755813888 (prim (tri (pt l) i j k)) := bd_prim (bd_cross (bd_wy (P := pt l) (hl _ (memD hi)) (hl _ (memD (show j < l.length by omega)))) (bd_wy (P := pt l) (hl _ (memD hi)) (hl _ (memD hk))))
 have bm : bd 549755813888 m := by
   rcases hm with rfl | rfl
   . exact bt
   . exact bd_neg bt
 have hFl := hF.len hlen
 have hmz : m = V.zero ↔ tri (pt l) i j k = V.zero := by
   rcases hm with rfl | rfl
   . exact prim_zero'
   . rw [neg_zero', prim_zero']
 refine ex_bind (c107 (n + 3) bm (hl _ (memD hi)) (by decide)) (ex_bind (c108 (n + 3) F m (by omega)) ?_)
 obtain ⟨d, hd⟩ : ∃ d, V.dot m (l.getD i V.zero) = d := ⟨_, rfl⟩
 have hdp : V.dot m (pt l i) = d := hd
 rw [hdp] at hg
 rw [hdp]
 by_cases hkn : (F.any fun f => decide (f.1.1 = m)) = true
 . rw [hkn]
   refine ex_bind (z := (0, [.sl (encFL F)])) (bind_eq (z := .bool false) rfl (bind_eq (z := false) rfl (bind_eq (z := false) rfl (bind_eq (z := false) rfl (bind_eq (z := false) rfl (bind_eq (z := false) rfl rfl)))))) (hg F hF (fun f hf => hf) fun ht hsp => ?_)
   obtain ⟨f, hf, hfm⟩ := List.any_eq_true.1 hkn
   have hfm : f.1.1 = m := by simpa using hfm
   have h1 := (hF.ok f hf).1
   rw [hfm] at h1
   have h2 : IsF (pt l) l.length m d := ⟨⟨i, j, k, hij, hjk, hk, ht, hm, hdp.symm⟩, hsp⟩
   exact List.mem_map.2 ⟨f, hf, Prod.ext hfm (IsF.d_eq h1 h2)⟩
 . rw [Bool.not_eq_true] at hkn
   rw [hkn]
   have hnk : ∀ f ∈ F, f.1.1 ≠ m := fun f hf e => by
     have := List.any_eq_false.1 hkn f hf
     simp [e] at this
   by_cases hz : m = V.zero
   . refine ex_bind (z := (0, [.sl (encFL F)])) (bind_eq (z := .bool true) rfl (bind_eq (z := true) rfl (bind_eq (z := false) ?_ (bind_eq (z := false) rfl (bind_eq (z := false) rfl (bind_eq (z := false) rfl rfl)))))) (hg F hF (fun f hf => hf) fun ht hsp => absurd (hmz.1 hz) ht)
     rw [if_pos rfl, enc_mk, beq_V, decide_eq_true (show m = ⟨0, 0, 0⟩ from hz)]; rfl
   . have ht : tri (pt l) i j k ≠ V.zero := fun e => hz (hmz.2 e)
     have hc := c109 (n + 2) (d := d) hl bm (by decide) (by omega)
     by_cases hsp : supp l (m, d) = true
     . have hFm : IsF (pt l) l.length m d := ⟨⟨i, j, k, hij, hjk, hk, ht, hm, hdp.symm⟩, supp_iff.1 hsp⟩
       obtain ⟨p, hp, _, _⟩ := hFm.poly hs
       refine ex_bind (z := (0, [.sl (encFL (insF ((m, d), p) F))])) (bind_eq (z := .bool true) rfl (bind_eq (z := true) rfl (bind_eq (z := true) ?_ (bind_eq (z := true) rfl (bind_eq (z := true) ?_ (bind_eq (z := true) rfl ?_)))))) (hg _ (hF.insert hnk hFm hp) (fun f hf => mem_insF.2 (.inr hf)) fun _ _ => List.mem_map.2 ⟨((m, d), p), mem_insF.2 (.inl rfl), rfl⟩)
       . rw [if_pos rfl, enc_mk, beq_V, decide_eq_false (show ¬ m = ⟨0, 0, 0⟩ from hz)]; rfl
       . rw [if_pos rfl]
         refine bind_eq hc ?_
         rw [tr_b]; exact congrArg some hsp
       . rw [if_pos rfl]
         exact bind_eq (p111 n hl hlen hs hFm bm hp) (bind_eq (c110 (n + 2) F ((m, d), p) (by omega)) rfl)
     . refine ex_bind (z := (0, [.sl (encFL F)])) (bind_eq (z := .bool true) rfl (bind_eq (z := true) rfl (bind_eq (z := true) ?_ (bind_eq (z := true) rfl (bind_eq (z := false) ?_ (bind_eq (z := false) rfl rfl)))))) (hg F hF (fun f hf => hf) fun _ hsp' => absurd (supp_iff.2 hsp') hsp)
       . rw [if_pos rfl, enc_mk, beq_V, decide_eq_false (show ¬ m = ⟨0, 0, 0⟩ from hz)]; rfl
       . rw [if_pos rfl]
         refine bind_eq hc ?_
         rw [tr_b]
         exact congrArg some (Bool.eq_false_iff.2 hsp)
structure KnF (l : List V) (i j k : Nat) (F : FL) : Prop where
 fok : FOk l F
 all : ∀ i' j' k', i' < j' -> j' < k' -> k' < l.length -> (i' < i \/ i' = i /\ (j' < j \/ j' = j /\ k' < k)) -> tri (pt l) i' j' k' ≠ V.zero -> ∀ m, (m = prim (tri (pt l) i' j' k') \/ m = (prim (tri (pt l) i' j' k')).neg) -> Supp (pt l) l.length m (V.dot m (pt l i')) -> (m, V.dot m (pt l i')) ∈ F.map Prod.fst
theorem KnF.mono {l : List V} {i j k i2 j2 k2 : Nat} {F : FL} (h : KnF l i j k F) (hm : ∀ i' j' k', i' < j' -> j' < k' -> k' < l.length -> (i' < i2 \/ i' = i2 /\ (j' < j2 \/ j' = j2 /\ k' < k2)) -> (i' < i \/ i' = i /\ (j' < j \/ j' = j /\ k' < k))) : KnF l i2 j2 k2 F :=
 ⟨h.fok, fun i' j' k' h1 h2 h3 h4 => h.all i' j' k' h1 h2 h3 (hm i' j' k' h1 h2 h3 h4)⟩
theorem KnF.facets {l : List V} {F : FL} (h : KnF l l.length 0 0 F) : Facets (pt l) l.length (F.map Prod.fst) := by
 refine ⟨List.pairwise_map.2 h.fok.ord, fun q => ⟨fun hq => ?_, fun hq => ?_⟩⟩
 . obtain ⟨f, hf, rfl⟩ := List.mem_map.1 hq
   exact (h.fok.ok f hf).1
 . obtain ⟨⟨i, j, k, h1, h2, h3, c1, c2, c3⟩, hs⟩ := hq
   obtain ⟨m, d⟩ := q
   simp only at c2 c3 hs
   subst c3
   exact h.all i j k h1 h2 h3 (.inl (by omega)) c1 m c2 hs
end Go.Proofs.YtjjjkojfijpeeaaGreat.Sy
end
section
set_option linter.unusedVariables false
namespace Go.Proofs.YtjjjkojfijpeeaaGreat.Sy
open Go Go.Proofs Go.Proofs.YtjjjkojfijpeeaaGreat.Geo
def mt (p : V) : Nat -> V
 | 0 => p
 | 1 => p.neg
 | _ => p
theorem c48 (n : Nat) {l : List V} (hl : ∀ x ∈ l, bd MV x) (hlen : l.length <= 100) (hs : Srt l) : ∃ F : FL, KnF l l.length 0 0 F /\ cA (n + 7) 48 [encL l] = some (.sl (encFL F)) := by
 suffices h : ∃ y, cA (n + 7) 48 [encL l] = some y /\ ∃ F : FL, KnF l l.length 0 0 F /\ y = .sl (encFL F) by
   obtain ⟨y, h1, F, h2, rfl⟩ := h
   exact ⟨F, h2, h1⟩
 rw [u48]
 unfold F48
 have ll : (l.map encV).length = l.length := List.length_map ..
 refine lp_ex (fun i s => ∃ F : FL, s = [.sl (encFL F), I (i : Int)] /\ KnF l i 0 0 F) l.length 0 (Nat.zero_le _) ⟨[], rfl, ⟨.nil, by simp⟩, fun i' j' k' h1 h2 h3 h4 => by omega⟩ (fun i hi s hJ => ?_) (fun s hJ => ?_)
 . obtain ⟨F, rfl, hF⟩ := hJ
   refine ex_bind (z := l.map encV) rfl (ex_bind b_lss (ex_bind tr_b (ex_iteT (by show ((i : Int) < ((l.map encV).length : Int)); rw [ll]; omega) (ex_bind (b_add (inR_nat (i := i) (by omega))) ?_))))
   refine lp_ex (fun j s => i + 1 <= j /\ ∃ F : FL, s = [.sl (encFL F), I (j : Int)] /\ KnF l i j 0 F) l.length (i + 1) (by omega) ⟨Nat.le_refl _, F, rfl, hF.mono fun i' j' k' h1 h2 h3 h4 => by omega⟩ (fun j hj s hJ => ?_) (fun s hJ => ?_)
   . obtain ⟨hij, F, rfl, hF⟩ := hJ
     refine ex_bind (z := l.map encV) rfl (ex_bind b_lss (ex_bind tr_b (ex_iteT (by show ((j : Int) < ((l.map encV).length : Int)); rw [ll]; omega) (ex_bind (b_add (inR_nat (i := j) (by omega))) ?_))))
     refine lp_ex (fun k s => j + 1 <= k /\ ∃ F : FL, s = [.sl (encFL F), I (k : Int)] /\ KnF l i j k F) l.length (j + 1) (by omega) ⟨Nat.le_refl _, F, rfl, hF.mono fun i' j' k' h1 h2 h3 h4 => by omega⟩ (fun k hk s hJ => ?_) (fun s hJ => ?_)
     . obtain ⟨hjk, F, rfl, hF⟩ := hJ
       refine ex_bind (z := l.map encV) rfl (ex_bind b_lss (ex_bind tr_b (ex_iteT (by show ((k : Int) < ((l.map encV).length : Int)); rw [ll]; omega) ?_)))
       refine ex_bind (z := l.map encV) rfl (ex_bind (z := i) (by rw [ll]; exact idx_n hi) (ex_bind (getDL hi) (ex_bind (z := l.map encV) rfl (ex_bind (z := j) (by rw [ll]; exact idx_n hj) (ex_bind (getDL hj) (ex_bind (z := l.map encV) rfl (ex_bind (z := k) (by rw [ll]; exact idx_n hk) (ex_bind (getDL hk) (ex_bind (z := encV (prim (tri (pt l) i j k))) (c106 n (hl _ (memD hi)) (hl _ (memD hj)) (hl _ (memD hk))) ?_)))))))))
       have bt : bd 549755813888 (prim (tri (pt l) i j k)) := bd_prim (bd_cross (bd_wy (P := pt l) (hl _ (memD hi)) (hl _ (memD hj))) (bd_wy (P := pt l) (hl _ (memD hi)) (hl _ (memD hk))))
       obtain ⟨p, hp⟩ : ∃ p, prim (tri (pt l) i j k) = p := ⟨_, rfl⟩
       rw [hp] at bt ⊢
       have z0 : bd 0 V.zero := by simp only [bd, V.zero]; omega
       have e1 : V.zero.sub p = p.neg := by apply V.ext' <;> simp [V.sub, V.neg, V.zero]
       have e2 : V.zero.sub p.neg = p := by apply V.ext' <;> simp [V.sub, V.neg, V.zero]
       refine lp_ex (fun t s => ∃ F' : FL, s = [.sl (encFL F'), I (t : Int), encV (mt p t)] /\ FOk l F' /\ (∀ f ∈ F, f ∈ F') /\ (1 <= t -> tri (pt l) i j k ≠ V.zero -> Supp (pt l) l.length p (V.dot p (pt l i)) -> (p, V.dot p (pt l i)) ∈ F'.map Prod.fst) /\ (2 <= t -> tri (pt l) i j k ≠ V.zero -> Supp (pt l) l.length p.neg (V.dot p.neg (pt l i)) -> (p.neg, V.dot p.neg (pt l i)) ∈ F'.map Prod.fst)) 2 0 (by omega) ⟨F, rfl, hF.fok, fun f hf => hf, fun h => by omega, fun h => by omega⟩ (fun t ht s hJ => ?_) (fun s hJ => ?_)
       . obtain ⟨F', rfl, f1, f2, f3, f4⟩ := hJ
         refine ex_bind b_lss (ex_bind tr_b (ex_iteT (by show ((t : Int) < 2); omega) (ex_bind (z := l.map encV) rfl (ex_bind (z := i) (by rw [ll]; exact idx_n hi) (ex_bind (getDL hi) ?_)))))
         have ht' : t = 0 \/ t = 1 := by omega
         simp only [g0, g1, g2]
         rcases ht' with rfl | rfl
         . rw [show mt p 0 = p from rfl]
           refine turn48 (n + 2) hl hlen hs f1 (show i < j by omega) (show j < k by omega) hk (m := p) (.inl hp.symm) (fun F2 k1 k2 k3 => ?_)
           refine ⟨.inl [.sl (encFL F2), I ((0 + 1 : Nat) : Int), encV p.neg], ?_, ?_⟩
           . refine bind_eq (z := encV p.neg) ?_ ?_
             . have := c112 (n + 5) z0 bt (by decide)
               rw [e1] at this
               exact this
             . exact bind_eq (b_add i01) rfl
           . exact ⟨F2, rfl, k1, fun f hf => k2 f (f2 f hf), fun _ => k3, fun h => by omega⟩
         . rw [show mt p 1 = p.neg from rfl]
           refine turn48 (n + 2) hl hlen hs f1 (show i < j by omega) (show j < k by omega) hk (m := p.neg) (.inr (by rw [hp])) (fun F2 k1 k2 k3 => ?_)
           refine ⟨.inl [.sl (encFL F2), I ((1 + 1 : Nat) : Int), encV p], ?_, F2, rfl, k1, fun f hf => k2 f (f2 f hf), fun _ h1 h2 => ?_, fun _ => k3⟩
           . refine bind_eq (z := encV p) ?_ ?_
             . have := c112 (n + 5) z0 (bd_neg bt) (by decide)
               rw [e2] at this
               exact this
             . exact bind_eq (b_add i12) rfl
           . obtain ⟨f, hf, e⟩ := List.mem_map.1 (f3 (Nat.le_refl _) h1 h2)
             exact List.mem_map.2 ⟨f, k2 f hf, e⟩
       . obtain ⟨F', rfl, f1, f2, f3, f4⟩ := hJ
         refine ⟨.inr (0, [.sl (encFL F')]), bind_eq b_lss (bind_eq tr_b (iteF (by decide) rfl)), .inl [.sl (encFL F'), I ((k + 1 : Nat) : Int)], bind_eq (b_add (inR_nat (i := k) (by omega))) rfl, by omega, F', rfl, f1, fun i' j' k' h1 h2 h3 h4 h5 m h6 h7 => ?_⟩
         by_cases e : i' = i /\ j' = j /\ k' = k
         . obtain ⟨rfl, rfl, rfl⟩ := e
           rw [hp] at h6
           rcases h6 with rfl | rfl
           . exact f3 (by omega) h5 h7
           . exact f4 (by omega) h5 h7
         . obtain ⟨f, hf, e⟩ := List.mem_map.1 (hF.all i' j' k' h1 h2 h3 (by omega) h5 m h6 h7)
           exact List.mem_map.2 ⟨f, f2 f hf, e⟩
     . obtain ⟨hjk, F, rfl, hF⟩ := hJ
       refine ⟨.inr (0, [.sl (encFL F)]), ?_, .inl [.sl (encFL F), I ((j + 1 : Nat) : Int)], bind_eq (b_add (inR_nat (i := j) (by omega))) rfl, by omega, F, rfl, hF.mono fun i' j' k' h1 h2 h3 h4 => by omega⟩
       exact bind_eq (z := l.map encV) rfl (bind_eq b_lss (bind_eq tr_b (iteF (by show ¬ ((l.length : Int) < ((l.map encV).length : Int)); rw [ll]; omega) rfl)))
   . obtain ⟨hij, F, rfl, hF⟩ := hJ
     refine ⟨.inr (0, [.sl (encFL F)]), ?_, .inl [.sl (encFL F), I ((i + 1 : Nat) : Int)], bind_eq (b_add (inR_nat (i := i) (by omega))) rfl, F, rfl, hF.mono fun i' j' k' h1 h2 h3 h4 => by omega⟩
     exact bind_eq (z := l.map encV) rfl (bind_eq b_lss (bind_eq tr_b (iteF (by show ¬ ((l.length : Int) < ((l.map encV).length : Int)); rw [ll]; omega) rfl)))
 . obtain ⟨F, rfl, hF⟩ := hJ
   refine ⟨.inr (0, [.sl (encFL F)]), ?_, .sl (encFL F), rfl, F, hF, rfl⟩
   exact bind_eq (z := l.map encV) rfl (bind_eq b_lss (bind_eq tr_b (iteF (by show ¬ ((l.length : Int) < ((l.map encV).length : Int)); rw [ll]; omega) rfl)))
end Go.Proofs.YtjjjkojfijpeeaaGreat.Sy
end
