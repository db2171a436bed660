/- Part 14 of the proof that HullMatchesSpec answers true at every input -/
import Derived.Test.YtjjjkojfijpeeaaGreatHulls13
set_option linter.unusedVariables false
set_option linter.unusedSimpArgs false
set_option linter.unnecessarySimpa false
section
set_option linter.unusedVariables false
namespace Go.Proofs.YtjjjkojfijpeeaaGreat.Sy
open Go Go.Proofs Go.Proofs.YtjjjkojfijpeeaaGreat.Geo
theorem take_getD (l : List Nat) (k j : Nat) : (l.take k).getD j 0 = if j < k then l.getD j 0 else 0 := by
 simp only [List.getD, List.getElem?_take]
 split <;> simp
theorem limbsD_set {l l' : List Nat} {q v : Nat} {a b : D} (hq : q < 16) (h : ∀ i, limb l' i = if i = q then v else limb l i) : D.set (.st [a, b, limbsD l]) [2, q] (U v) = some (.st [a, b, limbsD l']) := by
 have h1 : D.set (limbsD l) [q] (U v) = some (limbsD l') := by
   have e : ((List.range 16).map fun i => U (limb l i))[q]? = some (U (limb l q)) := by simp [hq]
   refine bind_eq e (bind_eq (z := U v) rfl ?_)
   simp only [limbsD, Option.some.injEq, D.st.injEq]
   apply List.ext_getElem?
   intro i
   rw [List.getElem?_set]
   by_cases hi : q = i
   . subst hi
     simp [hq, h]
   . rw [if_neg hi, List.getElem?_map, List.getElem?_map]
     by_cases h16 : i < 16
     . rw [List.getElem?_range h16]; simp [h, show i ≠ q from fun e => hi e.symm]
     . rw [show (List.range 16)[i]? = none by simp; omega]; rfl
 exact bind_eq (z := limbsD l) rfl (bind_eq h1 rfl)
theorem b_rem2 (k : Nat) : D.bin .rem (I (k : Int)) (.int .i64 2) = some (I (k % 2 : Nat)) := by
 rw [b_rem (by decide), show (2 : Int) = ((2 : Nat) : Int) from rfl, <- Int.ofNat_tmod]
theorem b_quoN {a b : Nat} (hb : b ≠ 0) (ha : (a : Int) <= 9223372036854775807) : D.bin .quo (I (a : Int)) (I (b : Int)) = some (I (a / b : Nat)) := by
 have : ((a / b : Nat) : Int) <= 9223372036854775807 := by have := Nat.div_le_self a b; omega
 have h0 : 0 <= ((a / b : Nat) : Int) := Int.natCast_nonneg _
 rw [b_quo (by omega) (by rw [<- Int.ofNat_tdiv]; simp only [inR]; omega), <- Int.ofNat_tdiv]
theorem b_remN {a b : Nat} (hb : b ≠ 0) : D.bin .rem (I (a : Int)) (I (b : Int)) = some (I (a % b : Nat)) := by
 rw [b_rem (by omega), <- Int.ofNat_tmod]
theorem get_limb {a b : D} {l : List Nat} {i : Nat} (h : i < 16) : D.get (.st [a, b, limbsD l]) [2, i] = some (U (limb l i)) :=
 bind_eq (z := limbsD l) rfl (bind_eq (limbsD_fld h) rfl)
def sgn (neg : Bool) (m : Nat) : Int := if neg then -(m : Int) else m
theorem c81 (n : Nat) {l : List Nat} {neg : Bool} (hd : dl l) (hl : l.length <= 1000000) (hv : dval l < 65536 ^ 32) : cA (n + 2) 81 [.bool neg, .sl (enumN l)] = some (encN (sgn neg (dval l))) := by
 rw [u81]
 unfold F81
 have hlen := digs_len 32 _ hv
 have hdd := dl_digs (dval l)
 have hen : encN (sgn neg (dval l)) = .st [.bool false, .bool (neg && decide (0 < (digs (dval l)).length)), limbsD (digs (dval l))] := by
   have e1 : (sgn neg (dval l)).natAbs = dval l := by unfold sgn; split <;> omega
   have e2 : (0 < (digs (dval l)).length) ↔ dval l ≠ 0 := by
     rw [List.length_pos_iff]; exact not_congr digs_nil
   unfold encN
   rw [e1]
   have : decide (sgn neg (dval l) < 0) = (neg && decide (0 < (digs (dval l)).length)) := by
     simp only [e2, sgn]
     cases neg
     . simp <;> omega
     . by_cases h : dval l = 0
       . simp [h]
       . simp [h] <;> omega
   rw [this]
 rw [hen]
 refine bind_eq (c140 n hl) ?_
 rw [trimN_eq hd]
 generalize digs (dval l) = d at hlen hdd
 refine bind_eq (z := enumN d) rfl (bind_eq b_gtr (bind_eq tr_b (iteF (by show ¬ ((enumN d).length : Int) > 32; rw [enumN_len]; omega) ?_)))
 refine bind_eq tr_b (bind_eq (z := neg && decide (0 < d.length)) ?_ ?_)
 . cases neg
   . rfl
   . rw [if_pos rfl]
     refine bind_eq (z := enumN d) rfl (bind_eq b_gtr ?_)
     rw [tr_b, enumN_len]
     simp
 refine lp_for (fun k s => s = [I (k : Int), .st [.bool false, .bool (neg && decide (0 < d.length)), limbsD (d.take k)]]) d.length 0 (Nat.zero_le _) rfl (fun k hk s hJ => ?_) (fun s hJ => ?_)
 . subst hJ
   left
   refine ⟨_, ?_, rfl⟩
   have hdk := hdd.getD k
   refine bind_eq (z := enumN d) rfl (bind_eq b_lss (bind_eq tr_b (iteT (by show (k : Int) < ((enumN d).length : Int); rw [enumN_len]; omega) ?_)))
   refine bind_eq (z := (0, [.st [.bool false, .bool (neg && decide (0 < d.length)), limbsD (d.take (k + 1))]])) ?_ (bind_eq (b_add (inR_nat (i := k) (by omega))) rfl)
   refine bind_eq (b_rem2 k) ?_
   have q1 : k / 2 < 16 := by omega
   have hq : D.bin .quo (I (k : Int)) (.int .i64 2) = some (I (k / 2 : Nat)) := b_quoN (b := 2) (by decide) (by omega)
   have hlk : limb (d.take k) (k / 2) = if k % 2 = 0 then 0 else d.getD (2 * (k / 2)) 0 := by
     simp only [limb, take_getD]
     by_cases hk2 : k % 2 = 0
     . rw [if_pos hk2, if_neg (show ¬ 2 * (k / 2) < k by omega), if_neg (show ¬ 2 * (k / 2) + 1 < k by omega)]
     . rw [if_neg hk2, if_pos (show 2 * (k / 2) < k by omega), if_neg (show ¬ 2 * (k / 2) + 1 < k by omega)]; omega
   have hd2 := hdd.getD (2 * (k / 2))
   by_cases hk2 : k % 2 = 0
   . rw [if_pos hk2] at hlk
     rw [hk2]
     refine bind_eq (z := true) rfl ?_
     rw [if_pos rfl]
     refine bind_eq hq (bind_eq hq (bind_eq (idx_n q1) (bind_eq (get_limb q1) (bind_eq (z := enumN d) rfl (bind_eq (z := k) (by rw [enumN_len]; exact idx_n hk) (bind_eq (enumN_at hk) (bind_eq (conv_iu (by omega)) (bind_eq (bu_add (by rw [hlk]; omega)) (bind_eq (idx_n q1) (bind_eq (limbsD_set q1 (l' := d.take (k + 1)) ?_) rfl))))))))))
     intro i
     by_cases hi : i = k / 2
     . rw [if_pos hi, hlk, hi]
       simp only [limb, take_getD]
       rw [if_pos (show 2 * (k / 2) < k + 1 by omega), if_neg (show ¬ 2 * (k / 2) + 1 < k + 1 by omega), show 2 * (k / 2) = k by omega]; omega
     . rw [if_neg hi]
       simp only [limb, take_getD]
       have a1 : (2 * i < k + 1) ↔ (2 * i < k) := by omega
       have a2 : (2 * i + 1 < k + 1) ↔ (2 * i + 1 < k) := by omega
       simp only [a1, a2]
   . rw [if_neg hk2] at hlk
     refine bind_eq (z := false) (by rw [show k % 2 = 1 by omega]; rfl) ?_
     rw [if_neg (by decide)]
     refine bind_eq hq (bind_eq hq (bind_eq (idx_n q1) (bind_eq (get_limb q1) (bind_eq (z := enumN d) rfl (bind_eq (z := k) (by rw [enumN_len]; exact idx_n hk) (bind_eq (enumN_at hk) (bind_eq (conv_iu (by omega)) (bind_eq (bu_mul (b := 65536) (by omega)) (bind_eq (bu_add (by rw [hlk]; omega)) (bind_eq (idx_n q1) (bind_eq (limbsD_set q1 (l' := d.take (k + 1)) ?_) rfl)))))))))))
     intro i
     by_cases hi : i = k / 2
     . rw [if_pos hi, hlk, hi]
       simp only [limb, take_getD]
       rw [if_pos (show 2 * (k / 2) < k + 1 by omega), if_pos (show 2 * (k / 2) + 1 < k + 1 by omega), show 2 * (k / 2) + 1 = k by omega]; omega
     . rw [if_neg hi]
       simp only [limb, take_getD]
       have a1 : (2 * i < k + 1) ↔ (2 * i < k) := by omega
       have a2 : (2 * i + 1 < k + 1) ↔ (2 * i + 1 < k) := by omega
       simp only [a1, a2]
 . subst hJ
   refine ⟨(0, [.st [.bool false, .bool (neg && decide (0 < d.length)), limbsD (d.take d.length)]]), ?_, ?_⟩
   . exact bind_eq (z := enumN d) rfl (bind_eq b_lss (bind_eq tr_b (iteF (by show ¬ (d.length : Int) < ((enumN d).length : Int); rw [enumN_len]; omega) rfl)))
   . rw [List.take_length]; rfl
theorem c82 (n : Nat) {a b : List Nat} (ha : dl a) (hb : dl b) (hla : a.length <= 900000) (hlb : b.length <= 900000) : cA (n + 2) 82 [.sl (enumN a), .sl (enumN b)] = some (.sl (enumN (digs (dval a + dval b)))) := by
 rw [u82]
 unfold F82
 obtain ⟨M, hM⟩ : ∃ M, M = max a.length b.length := ⟨_, rfl⟩
 have hmax : ∀ k : Nat, D.max2 (D.int .i64 (enumN a).length) (D.int .i64 (enumN b).length) = some (I (M : Int)) := fun _ => by
   rw [max_i, enumN_len, enumN_len, hM]; congr 2; omega
 refine lp_for (fun k s => ∃ (out : List Nat) (c : Nat), s = [.sl (enumN out), I (c : Int), I (k : Int)] /\ out.length = k /\ dl out /\ c <= 1 /\ dval out + c * 65536 ^ k = vt a k + vt b k) (M + 1) 0 (Nat.zero_le _) ⟨[], 0, rfl, rfl, (by intro d hd; cases hd), by omega, by simp [dval, vt]⟩ (fun k hk s hJ => ?_) (fun s hJ => ?_)
 . obtain ⟨out, c, rfl, ho, hdo, hc, hv⟩ := hJ
   left
   have h1 := ha.getD k
   have h2 := hb.getD k
   refine ⟨[.sl (enumN (out ++ [(a.getD k 0 + b.getD k 0 + c) % 65536])), I ((a.getD k 0 + b.getD k 0 + c) / 65536 : Nat), I ((k + 1 : Nat) : Int)], ?_, out ++ [(a.getD k 0 + b.getD k 0 + c) % 65536], (a.getD k 0 + b.getD k 0 + c) / 65536, rfl, by simp [ho], hdo.append (fun x hx => by simp at hx; omega), by omega, ?_⟩
   . refine bind_eq (z := enumN a) rfl (bind_eq (z := enumN b) rfl (bind_eq (hmax 0) (bind_eq (b_add (inR_nat (i := M) (by omega))) (bind_eq b_lss (bind_eq tr_b (iteT (by show (k : Int) < (M : Int) + 1; omega) ?_))))))
     refine bind_eq (c141 n a k) (bind_eq (c141 n b k) (bind_eq (b_add (by simp only [inR]; omega)) (bind_eq (b_add (by simp only [inR]; omega)) ?_)))
     rw [show (((a.getD k 0 : Nat) : Int) + ((b.getD k 0 : Nat) : Int) + (c : Int)) = ((a.getD k 0 + b.getD k 0 + c : Nat) : Int) by omega]
     refine bind_eq (b_remN (b := 65536) (by decide)) ?_
     rw [if_pos (by simp only [g0, D.els, enumN_len, List.length_cons, List.length_nil]; omega)]
     refine bind_eq (b_quoN (b := 65536) (by decide) (by omega)) (bind_eq (b_add (inR_nat (i := k) (by omega))) ?_)
     simp only [g0, D.els, enumN_app]
     rfl
   . rw [dval_append, ho, vt, vt, Nat.pow_succ]
     have e : a.getD k 0 + b.getD k 0 + c = (a.getD k 0 + b.getD k 0 + c) % 65536 + 65536 * ((a.getD k 0 + b.getD k 0 + c) / 65536) := by omega
     have e2 : dval [(a.getD k 0 + b.getD k 0 + c) % 65536] = (a.getD k 0 + b.getD k 0 + c) % 65536 := by simp [dval]
     rw [e2]
     generalize 65536 ^ k = B at *
     generalize (a.getD k 0 + b.getD k 0 + c) % 65536 = r at *
     generalize (a.getD k 0 + b.getD k 0 + c) / 65536 = q at *
     have : (a.getD k 0 + b.getD k 0 + c) * B = (r + 65536 * q) * B := by rw [e]
     rw [Nat.add_mul, Nat.add_mul, Nat.add_mul] at this
     rw [show q * (B * 65536) = 65536 * q * B by rw [Nat.mul_comm B, <- Nat.mul_assoc, Nat.mul_comm q], Nat.mul_comm B r]
     omega
 . obtain ⟨out, c, rfl, ho, hdo, hc, hv⟩ := hJ
   refine ⟨(0, [.sl (enumN out)]), ?_, ?_⟩
   . refine bind_eq (z := enumN a) rfl (bind_eq (z := enumN b) rfl (bind_eq (hmax 0) (bind_eq (b_add (inR_nat (i := M) (by omega))) (bind_eq b_lss (bind_eq tr_b (iteF (by show ¬ (((M + 1 : Nat) : Int) < (M : Int) + 1); omega) rfl))))))
   . refine bind_eq (c140 n (l := out) (by omega)) ?_
     have va : vt a (M + 1) = dval a := vt_dval (by omega)
     have vb : vt b (M + 1) = dval b := vt_dval (by omega)
     have la := vt_lt ha M
     have lb := vt_lt hb M
     rw [vt_dval (show a.length <= M by omega)] at la
     rw [vt_dval (show b.length <= M by omega)] at lb
     have hc0 : c = 0 := by
       rcases Nat.eq_zero_or_pos c with h | h
       . exact h
       . have : 1 * 65536 ^ (M + 1) <= c * 65536 ^ (M + 1) := Nat.mul_le_mul_right _ h
         rw [Nat.pow_succ] at this
         rw [va, vb, Nat.pow_succ] at hv
         omega
     subst hc0
     rw [trimN_eq hdo, <- va, <- vb, <- hv]; simp
theorem c34 (n : Nat) {x : Int} (hx : inR x) : cA (n + 3) 34 [I x] = some (encN x) := by
 rw [u34]
 unfold F34
 obtain ⟨h1, h2⟩ := hx
 have d1 : ∀ m : Nat, (m : Int) <= 9223372036854775807 -> dl [m % 65536, m / 65536 % 65536, m / 4294967296 % 65536, m / 281474976710656] := fun m hm d hd => by
   simp only [List.mem_cons, List.not_mem_nil, or_false] at hd; omega
 have d2 : ∀ m : Nat, dval [m % 65536, m / 65536 % 65536, m / 4294967296 % 65536, m / 281474976710656] = m := fun m => by
   simp only [dval]; omega
 have d3 : ∀ m : Nat, D.sl [I (m % 65536 : Nat), I (m / 65536 % 65536 : Nat), I (m / 4294967296 % 65536 : Nat), I (m / 281474976710656 : Nat)] = .sl (enumN [m % 65536, m / 65536 % 65536, m / 4294967296 % 65536, m / 281474976710656]) := fun m => rfl
 have big : ∀ m : Nat, (m : Int) <= 9223372036854775808 -> m < 65536 ^ 32 := fun m hm => by
   have : (65536 : Nat) ^ 4 <= 65536 ^ 32 := Nat.pow_le_pow_right (by decide) (by decide)
   have e : (65536 : Nat) ^ 4 = 18446744073709551616 := by decide
   omega
 refine bind_eq b_geq (bind_eq tr_b ?_)
 by_cases h : x ≥ 0
 . refine iteT h ?_
   obtain ⟨m, rfl⟩ := Int.eq_ofNat_of_zero_le h
   refine bind_eq (b_remN (b := 65536) (by decide)) (bind_eq (b_quoN (b := 65536) (by decide) h2) (bind_eq (b_remN (b := 65536) (by decide)) (bind_eq (b_quoN (b := 4294967296) (by decide) h2) (bind_eq (b_remN (b := 65536) (by decide)) (bind_eq (b_quoN (b := 281474976710656) (by decide) h2) ?_)))))
   refine bind_eq (z := encN m) ?_ rfl
   rw [d3, c81 n (d1 m h2) (by simp) (by rw [d2]; exact big m (by omega)), d2]; rfl
 . refine iteF h ?_
   obtain ⟨m, hm⟩ := Int.eq_ofNat_of_zero_le (show 0 <= -(x + 1) by omega)
   have h3 : (m : Int) <= 9223372036854775807 := by omega
   refine bind_eq (b_add (by simp only [inR]; omega)) (bind_eq (u_neg (by simp only [inR]; omega)) ?_)
   rw [hm]
   refine bind_eq (b_remN (b := 65536) (by decide)) (bind_eq (b_quoN (b := 65536) (by decide) h3) (bind_eq (b_remN (b := 65536) (by decide)) (bind_eq (b_quoN (b := 4294967296) (by decide) h3) (bind_eq (b_remN (b := 65536) (by decide)) (bind_eq (b_quoN (b := 281474976710656) (by decide) h3) ?_)))))
   rw [d3]
   refine bind_eq (c82 n (b := [1]) (d1 m h3) (fun d hd => by simp at hd; omega) (by simp) (by simp)) (bind_eq (z := encN x) ?_ rfl)
   rw [d2]
   have e1 : dval [1] = 1 := rfl
   rw [e1, c81 n (dl_digs _) ?_ ?_, dval_digs]
   . congr 2; simp only [sgn, if_true]; omega
   . have := digs_len 32 _ (big (m + 1) (by omega)); omega
   . rw [dval_digs]; exact big (m + 1) (by omega)
end Go.Proofs.YtjjjkojfijpeeaaGreat.Sy
end
section
set_option linter.unusedVariables false
namespace Go.Proofs.YtjjjkojfijpeeaaGreat.Sy
open Go Go.Proofs Go.Proofs.YtjjjkojfijpeeaaGreat.Geo
def In (x : Int) : Prop := x.natAbs < 65536 ^ 32
theorem In.of {x : Int} (h : inR x) : In x := by
 have : (65536 : Nat) ^ 4 <= 65536 ^ 32 := Nat.pow_le_pow_right (by decide) (by decide)
 have e : (65536 : Nat) ^ 4 = 18446744073709551616 := by decide
 obtain ⟨h1, h2⟩ := h
 unfold In; omega
theorem limb_digs (m i : Nat) : limb (digs m) i = m / 4294967296 ^ i % 4294967296 := by
 have e1 : 65536 ^ (2 * i) = 4294967296 ^ i := by rw [Nat.pow_mul]
 have e2 : 65536 ^ (2 * i + 1) = 4294967296 ^ i * 65536 := by rw [Nat.pow_succ, e1]
 unfold limb
 rw [digs_getD, digs_getD, e1, e2, <- Nat.div_div_eq_div_mul]
 generalize m / 4294967296 ^ i = q
 omega
theorem limb0 (m : Nat) : limb (digs m) 0 = m % 4294967296 := by rw [limb_digs, Nat.pow_zero, Nat.div_one]
theorem limb1 (m : Nat) : limb (digs m) 1 = m / 4294967296 % 4294967296 := by rw [limb_digs, Nat.pow_one]
theorem limb2 {m i : Nat} (h : m < 18446744073709551616) (hi : 2 <= i) : limb (digs m) i = 0 := by
 rw [limb_digs]
 have : (4294967296 : Nat) ^ 2 <= 4294967296 ^ i := Nat.pow_le_pow_right (by decide) hi
 rw [Nat.div_eq_of_lt (by omega)]
theorem beq_u {a b : Nat} : D.beq (U a) (U b) = decide (a = b) := by
 simp only [D.beq, decide_true, Bool.true_and]
 by_cases h : a = b
 . simp [h]
 . simp [h]; omega
theorem limbs_zero {m : Nat} (hm : m < 65536 ^ 32) (h : ∀ i, i < 16 -> limb (digs m) i = 0) : m = 0 := by
 have hz : ∀ i, i < 32 -> (digs m).getD i 0 = 0 := fun i hi => by
   have := h (i / 2) (by omega)
   unfold limb at this
   rcases Nat.mod_two_eq_zero_or_one i with e | e
   . rw [show 2 * (i / 2) = i by omega] at this; omega
   . rw [show 2 * (i / 2) + 1 = i by omega] at this; omega
 have hv : ∀ k, k <= 32 -> vt (digs m) k = 0 := fun k => by
   induction k with
   | zero => intro _; rfl
   | succ k ih => intro hk; rw [vt, ih (by omega), hz k (by omega)]; simp
 have := hv 32 (by omega)
 rw [vt_dval (digs_len 32 _ hm), dval_digs] at this
 exact this
def zB (m i : Nat) : Bool := (List.range i).all fun k => decide (limb (digs m) k = 0)
theorem zB_succ (m i : Nat) : zB m (i + 1) = (zB m i && decide (limb (digs m) i = 0)) := by
 unfold zB; rw [List.range_succ, List.all_append]; simp
theorem c139 (n : Nat) {x : Int} (hx : In x) : cA (n + 1) 139 [encN x] = some (.bool true) := by
 rw [u139]
 unfold F139
 have fin : ∀ z : Bool, (z = true -> x = 0) -> (Option.bind (D.get (encN x) [0]) fun x10 => Option.bind (D.truth x10) fun b11 =>
     if b11 then (Option.bind (D.truth (.bool z)) fun b12 => Option.bind (if b12 then (Option.bind (D.get (encN x) [1]) fun x13 => Option.bind (D.un .not x13) fun x14 => D.truth x14) else (some false)) fun b15 =>
     some (D.bool b15)) else (Option.bind (D.un .not (.bool z)) fun x16 => Option.bind (D.truth x16) fun b17 =>
     Option.bind (if b17 then (some true) else (Option.bind (D.get (encN x) [1]) fun x18 => Option.bind (D.un .not x18) fun x19 => D.truth x19)) fun b20 => some (D.bool b20))) = some (.bool true) := by
   intro z hz
   refine bind_eq (z := .bool false) rfl (bind_eq (z := false) rfl ?_)
   rw [if_neg (by decide)]
   refine bind_eq (z := .bool (!z)) rfl (bind_eq (z := !z) rfl ?_)
   cases z with
   | false => rfl
   | true =>
     have := hz rfl
     subst this
     rfl
 refine lp_for (fun i s => s = [.bool (zB x.natAbs i), I (i : Int)]) 16 0 (Nat.zero_le _) rfl (fun i hi s hJ => ?_) (fun s hJ => ?_)
 . subst hJ
   left
   refine ⟨_, ?_, rfl⟩
   refine bind_eq b_lss (bind_eq tr_b (iteT (by show (i : Int) < 16; omega) (bind_eq tr_b (bind_eq (z := zB x.natAbs (i + 1)) ?_ (bind_eq (b_add (inR_nat (i := i) (by omega))) rfl)))))
   rw [zB_succ]
   cases zB x.natAbs i with
   | false => rfl
   | true =>
     rw [if_pos rfl]
     refine bind_eq (idx_n hi) (bind_eq (encN_limb hi) ?_)
     show D.truth (D.bool (D.beq (U (limb (digs x.natAbs) i)) (U 0))) = _
     rw [beq_u, tr_b]; rfl
 . subst hJ
   refine ⟨(0, [.bool (zB x.natAbs 16)]), ?_, ?_⟩
   . exact bind_eq b_lss (bind_eq tr_b (iteF (by decide) rfl))
   . refine fin _ fun h => ?_
     have := limbs_zero hx (fun i hi => of_decide_eq_true (List.all_eq_true.1 h i (List.mem_range.2 hi)))
     omega
theorem c76 (n : Nat) {x : Int} (hx : In x) : cA (n + 2) 76 [encN x] = some (.bool true) := by
 rw [u76]
 unfold F76
 exact bind_eq (c139 n hx) (bind_eq tr_b rfl)
theorem c124 (n : Nat) {x : Int} (hx : x.natAbs < 4611686018427387904) : cA (n + 3) 124 [encN x] = some (.tup [I x, .bool true]) := by
 have hin : In x := In.of (by simp only [inR]; omega)
 rw [u124]
 unfold F124
 have l1 := limb1 x.natAbs
 refine bind_eq (c76 n hin) (bind_eq u_not (bind_eq tr_b (bind_eq (z := false) ?_ (bind_eq tr_b ?_))))
 . rw [if_neg (by decide)]
   refine bind_eq (encN_limb (i := 1) (by decide)) ?_
   rw [l1]
   have : D.bin .geq (U (x.natAbs / 4294967296 % 4294967296)) (.int .u32 1073741824) = some (.bool false) := by
     simp only [D.bin, if_true]
     rw [decide_eq_false (by omega)]
   exact bind_eq this rfl
 . rw [if_neg (by decide)]
   refine lp_for (fun i s => s = [I (i : Int)] /\ 2 <= i) 16 2 (by decide) ⟨rfl, by decide⟩ (fun i hi s hJ => ?_) (fun s hJ => ?_)
   . obtain ⟨rfl, h2⟩ := hJ
     left
     refine ⟨_, ?_, rfl, by omega⟩
     refine bind_eq b_lss (bind_eq tr_b (iteT (by show (i : Int) < 16; omega) ?_))
     refine bind_eq (idx_n hi) (bind_eq (encN_limb hi) ?_)
     rw [limb2 (by omega) h2]
     refine bind_eq (z := false) rfl ?_
     rw [if_neg (by decide)]
     exact bind_eq (b_add (inR_nat (i := i) (by omega))) rfl
   . obtain ⟨rfl, _⟩ := hJ
     refine ⟨(1, []), bind_eq b_lss (bind_eq tr_b (iteF (by decide) rfl)), ?_⟩
     rw [if_neg (by decide)]
     have e0 := limb0 x.natAbs
     refine bind_eq (encN_limb (i := 1) (by decide)) (bind_eq (conv_ui (limb_lt (dl_digs _) 1)) ?_)
     rw [l1]
     refine bind_eq (b_mul (by simp only [inR]; omega)) (bind_eq (encN_limb (i := 0) (by decide)) (bind_eq (conv_ui (limb_lt (dl_digs _) 0)) ?_))
     rw [e0]
     refine bind_eq (b_add (by simp only [inR]; omega)) (bind_eq (z := .bool (decide (x < 0))) rfl (bind_eq tr_b ?_))
     by_cases hx0 : x < 0
     . refine iteT hx0 ?_
       refine bind_eq (u_neg (by simp only [inR]; omega)) ?_
       congr 4; omega
     . refine iteF hx0 ?_
       congr 4; omega
theorem c142 (n : Nat) {x : Int} (hx : In x) : cA (n + 3) 142 [encN x] = some (encN x.natAbs) := by
 rw [u142]
 unfold F142
 have hl := digs_len 32 _ hx
 refine bind_eq (c76 n hx) (bind_eq u_not (bind_eq tr_b ?_))
 refine bind_eq (c77 n hx) (bind_eq (z := encN x.natAbs) ?_ rfl)
 rw [c81 n (dl_digs _) (by omega) (by rw [dval_digs]; exact hx), dval_digs]; rfl
theorem c78 (n : Nat) {a b : List Nat} (ha : dl a) (hb : dl b) (hla : a.length <= 900000) (hlb : b.length <= 900000) : cA (n + 2) 78 [.sl (enumN a), .sl (enumN b)] = some (.bool (decide (dval a < dval b))) := by
 rw [u78]
 unfold F78
 obtain ⟨M, hM⟩ : ∃ M, M = max a.length b.length := ⟨_, rfl⟩
 have hmax : D.max2 (D.int .i64 (enumN a).length) (D.int .i64 (enumN b).length) = some (I (M : Int)) := by
   rw [max_i, enumN_len, enumN_len, hM]; congr 2; omega
 have hva : vt a M = dval a := vt_dval (by omega)
 have hvb : vt b M = dval b := vt_dval (by omega)
 refine bind_eq (z := enumN a) rfl (bind_eq (z := enumN b) rfl (bind_eq hmax (bind_eq (b_sub (by simp only [inR]; omega)) ?_)))
 refine lp_for (fun i s => s = [I ((M : Int) - 1 - i)] /\ (dval a < dval b ↔ vt a (M - i) < vt b (M - i))) M 0 (Nat.zero_le _) ⟨by simp, by simp [hva, hvb]⟩ (fun i hi s hJ => ?_) (fun s hJ => ?_)
 . obtain ⟨rfl, hz⟩ := hJ
   obtain ⟨k, hk⟩ : ∃ k, M - i = k + 1 := ⟨M - i - 1, by omega⟩
   rw [hk, vt, vt] at hz
   have e1 : (M : Int) - 1 - i = (k : Int) := by omega
   rw [e1]
   have la := vt_lt ha k
   have lb := vt_lt hb k
   have q1 := c141 n a k
   have q2 := c141 n b k
   by_cases hab : a.getD k 0 = b.getD k 0
   . left
     refine ⟨[I ((M : Int) - 1 - (i + 1 : Nat))], ?_, rfl, ?_⟩
     . refine bind_eq b_geq (bind_eq tr_b (iteT (by show (k : Int) ≥ 0; omega) (bind_eq q1 (bind_eq q2 (bind_eq (z := false) ?_ ?_)))))
       . rw [hab, beq_nat, decide_eq_true rfl]; rfl
       . rw [if_neg (by decide)]
         refine bind_eq (b_sub (by simp only [inR]; omega)) ?_
         congr 4; omega
     . rw [hz, hab, show M - (i + 1) = k by omega]; omega
   . right
     refine ⟨(0, [.bool (decide (a.getD k 0 < b.getD k 0))]), ?_, ?_⟩
     . refine bind_eq b_geq (bind_eq tr_b (iteT (by show (k : Int) ≥ 0; omega) (bind_eq q1 (bind_eq q2 (bind_eq (z := true) ?_ ?_)))))
       . rw [beq_nat, decide_eq_false hab]; rfl
       . rw [if_pos rfl]
         refine bind_eq q1 (bind_eq q2 (bind_eq b_lss ?_))
         simp
     . rw [if_pos rfl]
       show some (D.bool (decide (a.getD k 0 < b.getD k 0))) = _
       congr 3
       rw [eq_iff_iff, hz]
       generalize a.getD k 0 = u at *
       generalize b.getD k 0 = v at *
       generalize 65536 ^ k = B at *
       constructor
       . intro h
         have : (u + 1) * B <= v * B := Nat.mul_le_mul_right _ h
         rw [Nat.add_mul] at this
         omega
       . intro h
         rcases Nat.lt_or_ge u v with h1 | h1
         . exact h1
         . have : (v + 1) * B <= u * B := Nat.mul_le_mul_right _ (by omega)
           rw [Nat.add_mul] at this
           omega
 . obtain ⟨rfl, hz⟩ := hJ
   refine ⟨(1, []), ?_, ?_⟩
   . exact bind_eq b_geq (bind_eq tr_b (iteF (by show ¬ ((M : Int) - 1 - (M : Nat)) ≥ 0; omega) rfl))
   . rw [if_neg (by decide)]
     have : ¬ dval a < dval b := by rw [hz]; simp [vt]
     rw [decide_eq_false this]
theorem c32 (n : Nat) {x y : Int} (hx : In x) (hy : In y) : cA (n + 3) 32 [encN x, encN y] = some (I (cmpZ x y)) := by
 rw [u32]
 unfold F32
 have hlx := digs_len 32 _ hx
 have hly := digs_len 32 _ hy
 have gx := c76 n hx
 have gy := c76 n hy
 have dx := c77 n hx
 have dy := c77 n hy
 refine bind_eq gx (bind_eq u_not (bind_eq tr_b (bind_eq (z := false) rfl (bind_eq (z := false) rfl ?_))))
 rw [if_neg (by decide)]
 refine bind_eq gx (bind_eq u_not (bind_eq (z := false) rfl ?_))
 rw [if_neg (by decide)]
 refine bind_eq gy (bind_eq u_not (bind_eq (z := false) rfl ?_))
 rw [if_neg (by decide)]
 refine bind_eq (z := .bool (decide (x < 0))) rfl (bind_eq (z := .bool (decide (y < 0))) rfl ?_)
 have l1 := c78 n (dl_digs x.natAbs) (dl_digs y.natAbs) (by omega) (by omega)
 have l2 := c78 n (dl_digs y.natAbs) (dl_digs x.natAbs) (by omega) (by omega)
 simp only [dval_digs] at l1 l2
 have hb : ∀ p q : Bool, D.truth (.bool (!(D.beq (.bool p) (.bool q)))) = some (!(p == q)) := fun p q => rfl
 rw [hb]
 refine bind_eq rfl ?_
 by_cases h1 : x < 0 <;> by_cases h2 : y < 0
 . rw [decide_eq_true h1, decide_eq_true h2, if_neg (by decide)]
   refine bind_eq dx (bind_eq dy (bind_eq (z := (0, [.sl (enumN (digs y.natAbs)), .sl (enumN (digs x.natAbs))])) ?_ ?_))
   . refine bind_eq (z := .bool true) (by rw [show D.get (encN x) [1] = some (.bool (decide (x < 0))) from rfl, decide_eq_true h1]) (bind_eq (z := true) rfl ?_)
     rw [if_pos rfl]
     exact bind_eq dy (bind_eq dx rfl)
   . refine bind_eq l2 (bind_eq l1 (bind_eq tr_b ?_))
     by_cases h3 : y.natAbs < x.natAbs
     . refine iteT h3 ?_
       simp [cmpZ, show x < y by omega]
     . refine iteF h3 (bind_eq tr_b ?_)
       by_cases h4 : x.natAbs < y.natAbs
       . refine iteT h4 ?_
         simp [cmpZ, show ¬ x < y by omega, show y < x by omega]
       . refine iteF h4 ?_
         simp [cmpZ, show ¬ x < y by omega, show ¬ y < x by omega]
 . rw [decide_eq_true h1, decide_eq_false h2, if_pos (by decide)]
   refine bind_eq (z := .bool true) (by rw [show D.get (encN x) [1] = some (.bool (decide (x < 0))) from rfl, decide_eq_true h1]) (bind_eq (z := true) rfl ?_)
   simp [cmpZ, show x < y by omega]
 . rw [decide_eq_false h1, decide_eq_true h2, if_pos (by decide)]
   refine bind_eq (z := .bool false) (by rw [show D.get (encN x) [1] = some (.bool (decide (x < 0))) from rfl, decide_eq_false h1]) (bind_eq (z := false) rfl ?_)
   simp [cmpZ, show ¬ x < y by omega, show y < x by omega]
 . rw [decide_eq_false h1, decide_eq_false h2, if_neg (by decide)]
   refine bind_eq dx (bind_eq dy (bind_eq (z := (0, [.sl (enumN (digs x.natAbs)), .sl (enumN (digs y.natAbs))])) ?_ ?_))
   . refine bind_eq (z := .bool false) (by rw [show D.get (encN x) [1] = some (.bool (decide (x < 0))) from rfl, decide_eq_false h1]) (bind_eq (z := false) rfl rfl)
   . refine bind_eq l1 (bind_eq l2 (bind_eq tr_b ?_))
     by_cases h3 : x.natAbs < y.natAbs
     . refine iteT h3 ?_
       simp [cmpZ, show x < y by omega]
     . refine iteF h3 (bind_eq tr_b ?_)
       by_cases h4 : y.natAbs < x.natAbs
       . refine iteT h4 ?_
         simp [cmpZ, show ¬ x < y by omega, show y < x by omega]
       . refine iteF h4 ?_
         simp [cmpZ, show ¬ x < y by omega, show ¬ y < x by omega]
end Go.Proofs.YtjjjkojfijpeeaaGreat.Sy
end
section
set_option linter.unusedVariables false
namespace Go.Proofs.YtjjjkojfijpeeaaGreat.Sy
open Go Go.Proofs Go.Proofs.YtjjjkojfijpeeaaGreat.Geo
def Wd (x : Int) : Prop := x.natAbs < 4611686018427387904
theorem Wd.inR {x : Int} (h : Wd x) : inR x := by unfold Wd at h; simp only [Sy.inR]; omega
theorem Wd.In {x : Int} (h : Wd x) : In x := In.of h.inR
theorem c144 (n : Nat) {a b : Int} (ha : Wd a) (hb : b ≠ 0) (hd : b ∣ a) : cA (n + 1) 144 [I a, I b] = some (I (a / b)) := by
 rw [u144]
 unfold F144
 obtain ⟨q, rfl⟩ := hd
 have e1 : (b * q).tdiv b = q := Int.mul_tdiv_cancel_left _ hb
 have e2 : b * q / b = q := Int.mul_ediv_cancel_left _ hb
 have e3 : (b * q).tmod b = 0 := Int.mul_tmod_right ..
 have hq : Sy.inR q := by
   have : q.natAbs <= (b * q).natAbs := by rw [Int.natAbs_mul]; exact Nat.le_mul_of_pos_left _ (by omega)
   unfold Wd at ha; simp only [Sy.inR]; omega
 rw [e2]
 refine bind_eq (b_quo hb (by rw [e1]; exact hq)) (bind_eq (z := (0, [I q])) (bind_eq (b_rem hb) ?_) rfl)
 rw [e1, e3]
 exact bind_eq (z := false) rfl (bind_eq (z := false) rfl (bind_eq tr_b rfl))
theorem c85 (n : Nat) {a b : Int} (ha : Wd a) (hb : Wd b) : cA (n + 4) 85 [encN a, encN b] = some (encN (Nat.gcd a.natAbs b.natAbs : Nat)) := by
 rw [u85]
 unfold F85
 refine bind_eq (c124 n ha) (bind_eq (z := I a) rfl (bind_eq (z := .bool true) rfl (bind_eq (c124 n hb) (bind_eq (z := I b) rfl (bind_eq (z := .bool true) rfl (bind_eq (z := true) rfl (bind_eq (z := true) rfl (bind_eq (z := true) rfl ?_))))))))
 rw [if_pos rfl]
 obtain ⟨r, h1, h2⟩ := gcd_loop (body := fun (v1 : List D) =>
   Option.bind (D.truth (D.bool (!(D.beq (List.getD v1 1 (D.bool false)) (D.int .i64 0))))) fun b2 =>
   if b2 then (Option.bind (D.bin .rem (List.getD v1 0 (D.bool false)) (List.getD v1 1 (D.bool false))) fun x3 =>
   some (Sum.inl [(List.getD v1 1 (D.bool false)), x3])) else (some (Sum.inr (0, [(List.getD v1 0 (D.bool false))]))))
   (fun a b hb => by simp only [g0, g1, beq_i, tr_b, Option.bind_some, hb, decide_false, Bool.not_false, if_true, b_rem hb])
   (fun a => by simp only [g0, g1, beq_i, tr_b, Option.bind_some, decide_true, Bool.not_true, Bool.false_eq_true, if_false]) _ a b rfl
 refine lp_val h1 ?_
 have hg : Nat.gcd a.natAbs b.natAbs <= 4611686018427387903 := by unfold Wd at ha hb; exact gcd_le (by omega) (by omega)
 have hr : Sy.inR r := by simp only [Sy.inR]; omega
 refine bind_eq (c34 n hr) (bind_eq (c142 n (In.of hr)) ?_)
 rw [h2]
theorem c83 (n : Nat) {x : Int} (hx : In x) : cA (n + 3) 83 [encN x] = some (I (sg x)) := by
 rw [u83]
 unfold F83
 refine bind_eq (c76 n hx) (bind_eq u_not (bind_eq (z := false) rfl (bind_eq (z := decide (x = 0)) ?_ (bind_eq tr_b ?_))))
 . rw [if_neg (by decide)]
   refine bind_eq (c77 n hx) (bind_eq (z := enumN (digs x.natAbs)) rfl ?_)
   rw [tr_b, enumN_len]
   show some (D.beq (I ((digs x.natAbs).length : Nat)) (I (0 : Nat))) = _
   rw [beq_nat]
   congr 1
   rw [decide_eq_decide, List.length_eq_zero_iff, digs_nil]
   omega
 . by_cases h0 : x = 0
   . refine iteT h0 ?_
     subst h0; rfl
   . refine iteF h0 (bind_eq (z := .bool (decide (x < 0))) rfl (bind_eq tr_b ?_))
     by_cases h1 : x < 0
     . refine iteT h1 ?_
       rw [sg_neg h1]
     . refine iteF h1 ?_
       rw [sg_pos (by omega)]
theorem c87 (n : Nat) {a b : Int} (ha : Wd a) (hb : Wd b) (hb0 : b ≠ 0) (hd : b ∣ a) : cA (n + 4) 87 [encN a, encN b] = some (encN (a / b)) := by
 rw [u87]
 unfold F87
 refine bind_eq (c124 n ha) (bind_eq (z := I a) rfl (bind_eq (z := .bool true) rfl (bind_eq (c124 n hb) (bind_eq (z := I b) rfl (bind_eq (z := .bool true) rfl (bind_eq (z := true) rfl (bind_eq (z := true) rfl (bind_eq (z := true) rfl (bind_eq (z := true) ?_ (bind_eq (z := true) rfl ?_))))))))))
 . rw [if_pos rfl, beq_i, decide_eq_false hb0]; rfl
 . rw [if_pos rfl]
   have hq : Sy.inR (a / b) := by
     obtain ⟨q, rfl⟩ := hd
     rw [Int.mul_ediv_cancel_left _ hb0]
     have : q.natAbs <= (b * q).natAbs := by rw [Int.natAbs_mul]; exact Nat.le_mul_of_pos_left _ (by omega)
     unfold Wd at ha; simp only [Sy.inR]; omega
   exact bind_eq (c144 (n + 2) ha hb0 hd) (bind_eq (c34 n hq) rfl)
abbrev U64 (n : Nat) : D := .int .u64 (n : Int)
theorem wrap64_id {n : Int} (h : 0 <= n /\ n < 18446744073709551616) : IntKind.wrap .u64 n = n := by
 obtain ⟨h1, h2⟩ := h
 simp only [IntKind.wrap, IntKind.signed, IntKind.bits]
 first
   | omega
   | (simp; omega)
theorem c186 (n : Nat) {x : Int} (hx : Wd x) : cA (n + 4) 186 [encN x] = some (.tup [I x, .bool true]) := by
 rw [u186]
 unfold F186
 have hx' : x.natAbs < 4611686018427387904 := hx
 have i1 : Sy.inR (-9223372036854775808) := ⟨by decide, by decide⟩
 have i2 : Sy.inR 9223372036854775807 := ⟨by decide, by decide⟩
 refine bind_eq (c76 (n + 1) hx.In) (bind_eq u_not (bind_eq (z := false) rfl ?_))
 rw [if_neg (by decide)]
 refine bind_eq (c34 n i1) (bind_eq (c34 n i2) (bind_eq (c32 n hx.In (In.of i1)) ?_))
 rw [show cmpZ x (-9223372036854775808) = 1 by unfold cmpZ; rw [if_neg (by omega), if_pos (by omega)]]
 refine bind_eq (z := .bool false) b_lss (bind_eq (z := false) rfl (bind_eq (z := false) ?_ (bind_eq (z := false) rfl ?_)))
 . rw [if_neg (by decide)]
   refine bind_eq (c32 n hx.In (In.of i2)) ?_
   rw [show cmpZ x 9223372036854775807 = -1 by unfold cmpZ; rw [if_pos (by omega)]]
   exact bind_eq (z := .bool false) b_gtr rfl
 . rw [if_neg (by decide)]
   have l1 := limb1 x.natAbs
   have l0 := limb0 x.natAbs
   refine bind_eq (encN_limb (i := 1) (by decide)) ?_
   rw [l1]
   refine bind_eq (z := U64 (x.natAbs / 4294967296 % 4294967296)) (by simp only [D.conv]; rw [wrap64_id (by omega)]) ?_
   refine bind_eq (z := U64 (x.natAbs / 4294967296 % 4294967296 * 4294967296)) (by simp only [D.bin, if_true]; rw [wrap64_id (by omega)]; simp) ?_
   refine bind_eq (encN_limb (i := 0) (by decide)) ?_
   rw [l0]
   refine bind_eq (z := U64 (x.natAbs % 4294967296)) (by simp only [D.conv]; rw [wrap64_id (by omega)]) ?_
   refine bind_eq (z := U64 x.natAbs) (by simp only [D.bin, if_true]; rw [wrap64_id (by omega)]; congr 2; omega) ?_
   refine bind_eq (z := I (x.natAbs : Nat)) (by simp only [D.conv]; rw [wrap_id (by simp only [Sy.inR]; omega)]) ?_
   refine bind_eq (z := (0, [I x])) (bind_eq (z := .bool (decide (x < 0))) rfl (bind_eq tr_b ?_)) rfl
   by_cases h : x < 0
   . refine iteT h (bind_eq (u_neg (by simp only [Sy.inR]; omega)) ?_)
     congr 4; omega
   . refine iteF h ?_
     congr 4; omega
theorem c187 (n : Nat) {v : V} (hv : bd 2305843009213693951 v) : cA (n + 1) 187 [encV v] = some (.bool true) := by
 rw [u187]
 unfold F187
 have stp : ∀ x : Int, (-2305843009213693951 <= x /\ x <= 2305843009213693951) -> ∀ (i : Nat) (hi : i < 3), D.get (encV v) [i] = some (I x) -> (Option.bind (D.idx (I (i : Int)) 3) fun i4 => Option.bind (D.get (encV v) [i4]) fun x5 => Option.bind (D.bin .geq x5 (D.int .i64 2305843009213693952)) fun x6 => Option.bind (D.truth x6) fun b7 =>
   Option.bind (if b7 then (some true) else (Option.bind (D.idx (I (i : Int)) 3) fun i8 => Option.bind (D.get (encV v) [i8]) fun x9 => Option.bind (D.bin .leq x9 (D.int .i64 (-2305843009213693952))) fun x10 => D.truth x10)) fun b11 =>
   Option.bind (D.truth (D.bool b11)) fun b12 => if b12 then (some (Sum.inr (0, [(D.bool false)]))) else (Option.bind (D.bin .add (I (i : Int)) (D.int .i64 1)) fun x13 => some (Sum.inl [x13]))) = some (Sum.inl [I ((i + 1 : Nat) : Int)] : Sum (List D) (Nat × List D)) := fun x hx i hi hg => by
   refine bind_eq (idx_n hi) (bind_eq hg (bind_eq b_geq (bind_eq tr_b (bind_eq (z := false) ?_ (bind_eq (z := false) rfl ?_)))))
   . refine iteF (by omega) (bind_eq (idx_n hi) (bind_eq hg (bind_eq b_leq ?_)))
     rw [tr_b, decide_eq_false (by omega)]
   . rw [if_neg (by decide)]
     exact bind_eq (b_add (inR_nat (i := i) (by omega))) rfl
 refine lp_next (s' := [I (1 : Nat)]) (bind_eq b_lss (bind_eq tr_b (iteT (by decide) (stp v.x hv.1 0 (by decide) rfl)))) (lp_next (s' := [I (2 : Nat)]) (bind_eq b_lss (bind_eq tr_b (iteT (by decide) (stp v.y hv.2.1 1 (by decide) rfl)))) (lp_next (s' := [I (3 : Nat)]) (bind_eq b_lss (bind_eq tr_b (iteT (by decide) (stp v.z hv.2.2 2 (by decide) rfl)))) (lp_end (r := (1, [])) (bind_eq b_lss (bind_eq tr_b (iteF (by decide) rfl))) rfl)))
def encNV (v : V) : D := .st [encN v.x, encN v.y, encN v.z]
theorem c80 (n : Nat) {v : V} (hx : inR v.x) (hy : inR v.y) (hz : inR v.z) : cA (n + 4) 80 [encV v] = some (encNV v) := by
 rw [u80]
 unfold F80
 exact bind_eq (get0 v) (bind_eq (c34 n hx) (bind_eq (get1 v) (bind_eq (c34 n hy) (bind_eq (get2 v) (bind_eq (c34 n hz) rfl)))))
theorem c155 (n : Nat) {v : V} (hv : bd 549755813888 v) : ∃ e : Int, cA (n + 5) 155 [encNV v] = some (.st [encV (prim v), I e]) := by
 rw [u155]
 unfold F155
 have wx : Wd v.x := by have := hv.1; unfold Wd; omega
 have wy' : Wd v.y := by have := hv.2.1; unfold Wd; omega
 have wz : Wd v.z := by have := hv.2.2; unfold Wd; omega
 have h0 : Sy.inR 0 := ⟨by decide, by decide⟩
 have w0 : Wd 0 := by unfold Wd; decide
 have q1 : Nat.gcd v.x.natAbs v.y.natAbs <= 4611686018427387903 := by unfold Wd at wx wy'; exact gcd_le (by omega) (by omega)
 have q2 : gcd3 v <= 4611686018427387903 := by
   unfold gcd3
   have := gcd_le (a := (Nat.gcd v.x.natAbs v.y.natAbs : Nat)) (b := v.z) (k := 4611686018427387903) (by simpa using q1) (by unfold Wd at wz; omega)
   simpa using this
 have wxx : Wd (v.x.natAbs : Nat) := by unfold Wd at *; omega
 have w1 : Wd (Nat.gcd v.x.natAbs v.y.natAbs : Nat) := by unfold Wd; omega
 have w2 : Wd (gcd3 v : Nat) := by unfold Wd; omega
 have g01 := c85 n w0 wx
 have g02 := c85 n wxx wy'
 have g03 := c85 n w1 wz
 rw [show (Nat.gcd (0 : Int).natAbs v.x.natAbs) = v.x.natAbs by simp] at g01
 rw [show (Nat.gcd ((v.x.natAbs : Nat) : Int).natAbs v.y.natAbs) = Nat.gcd v.x.natAbs v.y.natAbs by simp] at g02
 rw [show (Nat.gcd ((Nat.gcd v.x.natAbs v.y.natAbs : Nat) : Int).natAbs v.z.natAbs) = gcd3 v by simp [gcd3]] at g03
 have fst : ∀ {k : Nat × List D -> Option D} {y : D}, k (0, [encN (gcd3 v : Nat)]) = some y -> Option.bind (cA (n + 4) 34 [(D.int .i64 0)]) (fun r1 => Option.bind (lpW (fun (v2 : List D) =>
     Option.bind (D.bin .lss (List.getD v2 0 (D.bool false)) (D.int .i64 3)) fun x3 => Option.bind (D.truth x3) fun b4 =>
     if b4 then (Option.bind (D.idx (List.getD v2 0 (D.bool false)) 3) fun i5 => Option.bind (D.get (encNV v) [i5]) fun x6 => Option.bind (cA (n + 4) 85 [(List.getD v2 1 (D.bool false)), x6]) fun r7 =>
     Option.bind (D.bin .add (List.getD v2 0 (D.bool false)) (D.int .i64 1)) fun x8 => some (Sum.inl [x8, r7])) else (some (Sum.inr (0, [(List.getD v2 1 (D.bool false))])))) [(D.int .i64 0), r1]) k) = some y := by
   intro k y hk
   refine bind_eq (c34 (n + 1) h0) ?_
   refine lp_next (s' := [I 1, encN (v.x.natAbs : Nat)]) (bind_eq b_lss (bind_eq tr_b (iteT (by decide) (bind_eq ix0 (bind_eq (z := encN v.x) rfl (bind_eq g01 (bind_eq (b_add i01) rfl))))))) ?_
   refine lp_next (s' := [I 2, encN (Nat.gcd v.x.natAbs v.y.natAbs : Nat)]) (bind_eq b_lss (bind_eq tr_b (iteT (by decide) (bind_eq ix1 (bind_eq (z := encN v.y) rfl (bind_eq g02 (bind_eq (b_add i12) rfl))))))) ?_
   refine lp_next (s' := [I 3, encN (gcd3 v : Nat)]) (bind_eq b_lss (bind_eq tr_b (iteT (by decide) (bind_eq ix2 (bind_eq (z := encN v.z) rfl (bind_eq g03 (bind_eq (b_add i23) rfl))))))) ?_
   exact lp_end (r := (0, [encN (gcd3 v : Nat)])) (bind_eq b_lss (bind_eq tr_b (iteF (by decide) rfl))) hk
 have hsg := c83 (n + 1) w2.In
 by_cases hz : gcd3 v = 0
 . refine ⟨31, fst (bind_eq (z := .bool false) rfl (bind_eq (z := false) rfl ?_))⟩
   rw [if_neg (by decide)]
   refine bind_eq hsg ?_
   rw [hz]
   refine bind_eq (z := true) rfl ?_
   rw [if_pos rfl]
   have hv0 : v = V.zero := by
     by_cases h : v = V.zero
     . exact h
     . have := gcd3_pos h; omega
   rw [hv0]; rfl
 . have hg0 : (gcd3 v : Int) ≠ 0 := by omega
   refine ⟨0, fst (bind_eq (z := .bool false) rfl (bind_eq (z := false) rfl ?_))⟩
   rw [if_neg (by decide)]
   refine bind_eq hsg ?_
   rw [sg_pos (show (0 : Int) < gcd3 v by omega)]
   refine bind_eq (z := false) rfl ?_
   rw [if_neg (by decide)]
   have bp := bd_prim hv
   have z1 := c87 n wx w2 hg0 (dvd_x v)
   have z2 := c87 n wy' w2 hg0 (dvd_y v)
   have z3 := c87 n wz w2 hg0 (dvd_z v)
   have s1 := c186 n (x := v.x / (gcd3 v : Nat)) (by have := bp.1; unfold Wd; simp only [prim] at this; omega)
   have s2 := c186 n (x := v.y / (gcd3 v : Nat)) (by have := bp.2.1; unfold Wd; simp only [prim] at this; omega)
   have s3 := c186 n (x := v.z / (gcd3 v : Nat)) (by have := bp.2.2; unfold Wd; simp only [prim] at this; omega)
   refine lp_next (s' := [I 1, .st [encV V.zero, I 0], .st [encV ⟨v.x / (gcd3 v : Nat), 0, 0⟩, I 0]]) ?_ (lp_next (s' := [I 2, .st [encV V.zero, I 0], .st [encV ⟨v.x / (gcd3 v : Nat), v.y / (gcd3 v : Nat), 0⟩, I 0]]) ?_ (lp_next (s' := [I 3, .st [encV V.zero, I 0], .st [encV ⟨v.x / (gcd3 v : Nat), v.y / (gcd3 v : Nat), v.z / (gcd3 v : Nat)⟩, I 0]]) ?_ (lp_end (r := (1, [.st [encV V.zero, I 0], .st [encV (prim v), I 0]])) (bind_eq b_lss (bind_eq tr_b (iteF (by decide) rfl))) ?_)))
   . refine bind_eq b_lss (bind_eq tr_b (iteT (by decide) (bind_eq ix0 (bind_eq (z := encN v.x) rfl (bind_eq z1 (bind_eq s1 (bind_eq (z := I (v.x / (gcd3 v : Nat))) rfl (bind_eq (z := .bool true) rfl (bind_eq (z := .bool false) rfl (bind_eq (z := false) rfl ?_))))))))))
     rw [if_neg (by decide)]
     exact bind_eq ix0 (bind_eq (z := .st [encV ⟨v.x / (gcd3 v : Nat), 0, 0⟩, I 0]) rfl (bind_eq (b_add i01) rfl))
   . refine bind_eq b_lss (bind_eq tr_b (iteT (by decide) (bind_eq ix1 (bind_eq (z := encN v.y) rfl (bind_eq z2 (bind_eq s2 (bind_eq (z := I (v.y / (gcd3 v : Nat))) rfl (bind_eq (z := .bool true) rfl (bind_eq (z := .bool false) rfl (bind_eq (z := false) rfl ?_))))))))))
     rw [if_neg (by decide)]
     exact bind_eq ix1 (bind_eq (z := .st [encV ⟨v.x / (gcd3 v : Nat), v.y / (gcd3 v : Nat), 0⟩, I 0]) rfl (bind_eq (b_add i12) rfl))
   . refine bind_eq b_lss (bind_eq tr_b (iteT (by decide) (bind_eq ix2 (bind_eq (z := encN v.z) rfl (bind_eq z3 (bind_eq s3 (bind_eq (z := I (v.z / (gcd3 v : Nat))) rfl (bind_eq (z := .bool true) rfl (bind_eq (z := .bool false) rfl (bind_eq (z := false) rfl ?_))))))))))
     rw [if_neg (by decide)]
     exact bind_eq ix2 (bind_eq (z := .st [encV ⟨v.x / (gcd3 v : Nat), v.y / (gcd3 v : Nat), v.z / (gcd3 v : Nat)⟩, I 0]) rfl (bind_eq (b_add i23) rfl))
   . rw [if_neg (show ¬ (1 : Nat) = 0 by decide)]
     refine bind_eq (z := encV (prim v)) rfl (bind_eq (c187 (n + 3) (v := prim v) ?_) (bind_eq (z := .bool false) rfl (bind_eq (z := false) rfl rfl)))
     simp only [bd] at bp ⊢; omega
theorem c106 (n : Nat) {a b c : V} (ha : bd MV a) (hb : bd MV b) (hc : bd MV c) : cA (n + 6) 106 [encV a, encV b, encV c] = some (encV (prim (V.cross (b.sub a) (c.sub a)))) := by
 rw [u106]
 unfold F106
 have h1 : bd 524288 (b.sub a) := by have := bd_sub hb ha; simpa [MV] using this
 have h2 : bd 524288 (c.sub a) := by have := bd_sub hc ha; simpa [MV] using this
 have h3 := bd_cross h1 h2
 refine bind_eq (c112 (n + 4) hb ha (by decide)) (bind_eq (c112 (n + 4) hc ha (by decide)) (bind_eq (c123 (n + 4) h1 h2 (by decide)) ?_))
 have h4 : bd 549755813888 (V.cross (b.sub a) (c.sub a)) := h3
 generalize V.cross (b.sub a) (c.sub a) = m at *
 obtain ⟨e, he⟩ := c155 n h4
 refine bind_eq (c80 (n + 1) ?_ ?_ ?_) (bind_eq he rfl)
 . have := h4.1; simp only [Sy.inR]; omega
 . have := h4.2.1; simp only [Sy.inR]; omega
 . have := h4.2.2; simp only [Sy.inR]; omega
end Go.Proofs.YtjjjkojfijpeeaaGreat.Sy
end
section
set_option linter.unusedVariables false
namespace Go.Proofs.YtjjjkojfijpeeaaGreat.Sy
open Go Go.Proofs Go.Proofs.YtjjjkojfijpeeaaGreat.Geo
def insS (x : V) : List V -> List V
 | [] => [x]
 | y :: L => if lexlt x y \/ x = y then x :: (y :: L).filter (fun z => decide (z ≠ x)) else y :: insS x L
def srtL (l : List V) : List V := l.foldl (fun o x => insS x o) []
theorem insS_len (x : V) : ∀ L : List V, (insS x L).length <= L.length + 1
 | [] => by simp [insS]
 | y :: L => by
   have := insS_len x L
   unfold insS
   split
   . rw [List.length_cons]; have := List.length_filter_le (fun z => decide (z ≠ x)) (y :: L); omega
   . simp only [List.length_cons]; omega
theorem mem_insS {x z : V} : ∀ {L : List V}, z ∈ insS x L ↔ z = x \/ z ∈ L
 | [] => by simp [insS]
 | y :: L => by
   have ih := mem_insS (x := x) (z := z) (L := L)
   unfold insS
   split
   . simp only [List.mem_cons, List.mem_filter, decide_eq_true_eq]
     by_cases h : z = x <;> simp [h]
   . simp only [List.mem_cons, ih]
     constructor
     . rintro (h | h | h)
       . exact .inr (.inl h)
       . exact .inl h
       . exact .inr (.inr h)
     . rintro (h | h | h)
       . exact .inr (.inl h)
       . exact .inl h
       . exact .inr (.inr h)
theorem insS_ord {x : V} : ∀ {L : List V}, L.Pairwise lexlt -> (insS x L).Pairwise lexlt
 | [], _ => by simp [insS]
 | y :: L, h => by
   obtain ⟨h1, h2⟩ := List.pairwise_cons.1 h
   unfold insS
   split
   . rename_i hxy
     refine List.pairwise_cons.2 ⟨fun z hz => ?_, h.filter _⟩
     obtain ⟨hz1, hz2⟩ := List.mem_filter.1 hz
     have hzx : z ≠ x := by simpa using hz2
     rcases List.mem_cons.1 hz1 with rfl | hz1
     . rcases hxy with h | h
       . exact h
       . exact absurd h.symm hzx
     . rcases hxy with h | h
       . exact lexlt_trans h (h1 z hz1)
       . rw [h]; exact h1 z hz1
   . rename_i hxy
     refine List.pairwise_cons.2 ⟨fun z hz => ?_, insS_ord h2⟩
     rcases mem_insS.1 hz with rfl | hz
     . rcases lexlt_tri (a := z) (b := y) (fun e => hxy (.inr e)) with k | k
       . exact absurd (.inl k) hxy
       . exact k
     . exact h1 z hz
theorem srtL_ord (l : List V) : (srtL l).Pairwise lexlt := by
 unfold srtL
 have : ∀ (l o : List V), o.Pairwise lexlt -> (l.foldl (fun o x => insS x o) o).Pairwise lexlt := by
   intro l
   induction l with
   | nil => intro o h; exact h
   | cons x l ih => intro o h; exact ih _ (insS_ord h)
 exact this l [] .nil
theorem mem_srtL {l : List V} {z : V} : z ∈ srtL l ↔ z ∈ l := by
 unfold srtL
 have : ∀ (l o : List V), z ∈ l.foldl (fun o x => insS x o) o ↔ z ∈ l \/ z ∈ o := by
   intro l
   induction l with
   | nil => intro o; simp
   | cons x l ih =>
     intro o
     rw [List.foldl_cons, ih, mem_insS, List.mem_cons]
     constructor
     . rintro (h | h | h)
       . exact .inl (.inr h)
       . exact .inl (.inl h)
       . exact .inr h
     . rintro ((h | h) | h)
       . exact .inr (.inl h)
       . exact .inl h
       . exact .inr (.inr h)
 rw [this]; simp
theorem srtL_len (l : List V) : (srtL l).length <= l.length := by
 unfold srtL
 have : ∀ (l o : List V), (l.foldl (fun o x => insS x o) o).length <= l.length + o.length := by
   intro l
   induction l with
   | nil => intro o; simp
   | cons x l ih =>
     intro o
     have h1 := ih (insS x o)
     have h2 := insS_len x o
     rw [List.foldl_cons, List.length_cons]; omega
 simpa using this l []
theorem srt_of {l : List V} (h : l.Pairwise lexlt) : Srt l := fun i j hij hj => by
 have := List.pairwise_iff_getElem.1 h i j (by omega) hj hij
 simpa [pt, List.getD, hj, show i < l.length by omega] using this
theorem srtL_id {l : List V} (h : l.Pairwise lexlt) : srtL l = l :=
 sorted_eq (r := lexlt) lexlt_irr lexlt_asy (srtL_ord l) h fun x => mem_srtL
theorem c47 (n : Nat) (l : List V) (hlen : l.length <= 1000000) : cA (n + 2) 47 [encL l] = some (encL (srtL l)) := by
 rw [u47]
 unfold F47
 have ll : (l.map encV).length = l.length := List.length_map ..
 refine lp_for (fun i s => s = [encL (srtL (l.take i)), I (i : Int)]) l.length 0 (Nat.zero_le _) rfl (fun i hi s hJ => ?_) (fun s hJ => ?_)
 . subst hJ
   left
   refine ⟨[encL (srtL (l.take (i + 1))), I ((i + 1 : Nat) : Int)], ?_, rfl⟩
   have hs : srtL (l.take (i + 1)) = insS (l.getD i V.zero) (srtL (l.take i)) := by
     unfold srtL
     rw [List.take_succ_eq_append_getElem hi, List.foldl_append]
     simp [List.getD, hi]
   have hol : (srtL (l.take i)).length <= 1000000 := Nat.le_trans (srtL_len _) (by rw [List.length_take]; omega)
   rw [hs]
   obtain ⟨o, ho⟩ : ∃ o, srtL (l.take i) = o := ⟨_, rfl⟩
   obtain ⟨x, hx⟩ : ∃ x, l.getD i V.zero = x := ⟨_, rfl⟩
   have hxg : (l.map encV)[i]? = some (encV x) := by rw [<- hx]; exact getDL hi
   rw [ho] at hol ⊢
   rw [hx]
   have ol : (o.map encV).length = o.length := List.length_map ..
   refine bind_eq (z := l.map encV) rfl (bind_eq b_lss (bind_eq tr_b (iteT (by show ((i : Int) < ((l.map encV).length : Int)); rw [ll]; omega) ?_)))
   refine lp_forA (fun k s => ∃ (nx : List V) (put : Bool), s = [encL o, encL nx, .bool put, I (k : Int)] /\ nx.length <= 2 * k /\ (put = false -> insS x o = nx ++ insS x (o.drop k)) /\ (put = true -> insS x o = nx ++ (o.drop k).filter (fun z => decide (z ≠ x)))) o.length 0 (Nat.zero_le _) ⟨[], false, rfl, by simp, by simp, by simp⟩ (fun k hk s hJ => ?_) (fun s hJ => ?_)
   . obtain ⟨nx, put, rfl, hnl, h1, h2⟩ := hJ
     left
     have hd : o.drop k = o.getD k V.zero :: o.drop (k + 1) := by rw [List.drop_eq_getElem_cons hk]; simp [List.getD, hk]
     have hyg : (o.map encV)[k]? = some (encV (o.getD k V.zero)) := getDL hk
     obtain ⟨y, hy⟩ : ∃ y, o.getD k V.zero = y := ⟨_, rfl⟩
     rw [hy] at hd hyg
     rw [hd] at h1 h2
     obtain ⟨n1, p1, he, q0, q1, q2⟩ : ∃ (n1 : List V) (p1 : Bool), (if put = false /\ (lexlt x y \/ x = y) then (nx ++ [x], true) else (nx, put)) = (n1, p1) /\ n1.length <= 2 * k + 1 /\ (p1 = false -> x ≠ y /\ insS x o = n1 ++ y :: insS x (o.drop (k + 1))) /\ (p1 = true -> insS x o = n1 ++ (y :: o.drop (k + 1)).filter (fun z => decide (z ≠ x))) := by
       by_cases hp : put = false /\ (lexlt x y \/ x = y)
       . refine ⟨_, _, if_pos hp, by simp; omega, by simp, fun _ => ?_⟩
         rw [h1 hp.1, insS, if_pos hp.2]; simp
       . refine ⟨_, _, if_neg hp, by omega, fun e => ?_, fun e => h2 e⟩
         have hn : ¬ (lexlt x y \/ x = y) := fun h => hp ⟨e, h⟩
         refine ⟨fun h => hn (.inr h), ?_⟩
         rw [h1 e, insS, if_neg hn]
     refine ⟨[encL o, encL (if y ≠ x then n1 ++ [y] else n1), .bool p1, I ((k + 1 : Nat) : Int)], ?_, _, p1, rfl, ?_, ?_, ?_⟩
     . refine bind_eq b_lss (bind_eq tr_b (iteT (by show ((k : Int) < ((o.map encV).length : Int)); rw [ol]; omega) ?_))
       have app : ∀ (a : List V) (z : V), D.sl ((a.map encV) ++ [encV z]) = encL (a ++ [z]) := fun a z => by simp [encL]
       have al : ∀ a : List V, (a.map encV).length = a.length := fun a => List.length_map ..
       refine bind_eq (z := (0, [encL o, encL (if y ≠ x then n1 ++ [y] else n1), .bool p1])) ?_ (bind_eq (b_add (inR_nat (i := k) (by omega))) rfl)
       refine bind_eq (z := l.map encV) rfl (bind_eq (z := i) (by rw [ll]; exact idx_n hi) (bind_eq hxg (bind_eq (z := k) (by show D.idx (I (k : Int)) (o.map encV).length = _; rw [ol]; exact idx_n hk) (bind_eq hyg (bind_eq (c105 n x y) (bind_eq (z := (0, [encL o, encL n1, .bool p1])) ?_ ?_))))))
       . refine bind_eq (z := .bool (!put)) rfl (bind_eq tr_b (bind_eq (z := !put && decide (lexlt x y \/ x = y)) ?_ (bind_eq tr_b ?_)))
         . cases put
           . rw [show (!false) = true from rfl, if_pos rfl]
             refine bind_eq tr_b ?_
             by_cases hlt : lexlt x y
             . refine iteT hlt ?_
               rw [decide_eq_true (.inl hlt)]; rfl
             . refine iteF hlt ?_
               refine bind_eq (z := l.map encV) rfl (bind_eq (z := i) (by rw [ll]; exact idx_n hi) (bind_eq hxg (bind_eq (z := k) (by show D.idx (I (k : Int)) (o.map encV).length = _; rw [ol]; exact idx_n hk) (bind_eq hyg ?_))))
               rw [beq_V, tr_b]
               simp [hlt]
           . rfl
         . by_cases hp : put = false /\ (lexlt x y \/ x = y)
           . rw [if_pos hp] at he
             cases he
             rw [show (!put && decide (lexlt x y \/ x = y)) = true by rw [hp.1, decide_eq_true hp.2]; rfl, if_pos rfl]
             refine bind_eq (z := l.map encV) rfl (bind_eq (z := i) (by rw [ll]; exact idx_n hi) (bind_eq hxg ?_))
             rw [if_pos (by show (nx.map encV).length + 1 <= 1073741824; rw [al]; omega)]
             rw [<- app]; rfl
           . rw [if_neg hp] at he
             cases he
             rw [show (!put && decide (lexlt x y \/ x = y)) = false by
               cases hput : put
               . have : ¬ (lexlt x y \/ x = y) := fun h => hp ⟨hput, h⟩
                 simp [this]
               . rfl]
             rfl
       . refine bind_eq (z := k) (by show D.idx (I (k : Int)) (o.map encV).length = _; rw [ol]; exact idx_n hk) (bind_eq hyg (bind_eq (z := l.map encV) rfl (bind_eq (z := i) (by rw [ll]; exact idx_n hi) (bind_eq hxg ?_))))
         rw [beq_V]
         refine bind_eq tr_b ?_
         by_cases hyx : y = x
         . rw [decide_eq_true hyx, if_neg (show ¬ (y ≠ x) from fun h => h hyx)]; rfl
         . rw [decide_eq_false hyx, if_pos (show y ≠ x from hyx), show (!false) = true from rfl, if_pos rfl]
           refine bind_eq (z := k) (by show D.idx (I (k : Int)) (o.map encV).length = _; rw [ol]; exact idx_n hk) (bind_eq hyg ?_)
           rw [if_pos (by show (n1.map encV).length + 1 <= 1073741824; rw [al]; omega)]
           rw [<- app]; rfl
     . split
       . simp; omega
       . omega
     . intro e
       obtain ⟨r1, r2⟩ := q1 e
       rw [if_pos (fun h => r1 h.symm), r2]; simp
     . intro e
       rw [q2 e, List.filter_cons]
       by_cases hyx : y = x
       . simp [hyx]
       . simp [hyx]
   . obtain ⟨nx, put, rfl, hnl, h1, h2⟩ := hJ
     refine ⟨(0, [encL nx, .bool put]), ?_, ?_⟩
     . exact bind_eq b_lss (bind_eq tr_b (iteF (by show ¬ ((o.length : Int) < ((o.map encV).length : Int)); rw [ol]; omega) rfl))
     . have al : ∀ a : List V, (a.map encV).length = a.length := fun a => List.length_map ..
       rw [List.drop_length] at h1 h2
       refine bind_eq (z := (0, [encL (insS x o)])) ?_ (bind_eq (b_add (inR_nat (i := i) (by omega))) rfl)
       refine bind_eq (z := .bool (!put)) rfl (bind_eq tr_b ?_)
       cases put
       . rw [show (!false) = true from rfl, if_pos rfl]
         refine bind_eq (z := l.map encV) rfl (bind_eq (z := i) (by rw [ll]; exact idx_n hi) (bind_eq hxg ?_))
         rw [if_pos (by show (nx.map encV).length + 1 <= 1073741824; rw [al]; omega)]
         rw [h1 rfl]
         simp [insS, encL, g0, D.els]
       . have := h2 rfl
         simp only [List.filter_nil, List.append_nil] at this
         rw [this]; rfl
 . subst hJ
   rw [List.take_length]
   refine ⟨(0, [encL (srtL l)]), ?_, rfl⟩
   exact bind_eq (z := l.map encV) rfl (bind_eq b_lss (bind_eq tr_b (iteF (by show ¬ ((l.length : Int) < ((l.map encV).length : Int)); rw [ll]; omega) rfl)))
structure FOk (l : List V) (F : FL) : Prop where
 ord : F.Pairwise (fun a b => lexlt a.1.1 b.1.1)
 ok : ∀ f ∈ F, IsF (pt l) l.length f.1.1 f.1.2 /\ IsPoly (pt l) l.length f.1.1 f.1.2 f.2
theorem mem_insF {f x : (V × Int) × List Nat} : ∀ {L : FL}, x ∈ insF f L ↔ x = f \/ x ∈ L
 | [] => by simp [insF]
 | y :: L => by
   have ih := mem_insF (f := f) (x := x) (L := L)
   unfold insF
   split
   . simp
   . simp only [List.mem_cons, ih]
     constructor
     . rintro (h | h | h)
       . exact .inr (.inl h)
       . exact .inl h
       . exact .inr (.inr h)
     . rintro (h | h | h)
       . exact .inr (.inl h)
       . exact .inl h
       . exact .inr (.inr h)
theorem insF_ord {f : (V × Int) × List Nat} : ∀ {L : FL}, L.Pairwise (fun a b => lexlt a.1.1 b.1.1) -> (∀ x ∈ L, x.1.1 ≠ f.1.1) -> (insF f L).Pairwise (fun a b => lexlt a.1.1 b.1.1)
 | [], _, _ => by simp [insF]
 | y :: L, h, hn => by
   obtain ⟨h1, h2⟩ := List.pairwise_cons.1 h
   unfold insF
   split
   . rename_i k
     refine List.pairwise_cons.2 ⟨fun z hz => ?_, h⟩
     rcases List.mem_cons.1 hz with rfl | hz
     . exact k
     . exact lexlt_trans k (h1 z hz)
   . rename_i k
     refine List.pairwise_cons.2 ⟨fun z hz => ?_, insF_ord h2 fun x hx => hn x (List.mem_cons_of_mem _ hx)⟩
     rcases mem_insF.1 hz with rfl | hz
     . rcases lexlt_tri (hn y List.mem_cons_self) with k' | k'
       . exact k'
       . exact absurd k' k
     . exact h1 z hz
def cands (l : List V) : List (V × Int) := (List.range l.length).flatMap fun i => (List.range l.length).flatMap fun j => (List.range l.length).flatMap fun k => [(prim (tri (pt l) i j k), V.dot (prim (tri (pt l) i j k)) (pt l i)), ((prim (tri (pt l) i j k)).neg, V.dot (prim (tri (pt l) i j k)).neg (pt l i))]
theorem cands_len (l : List V) (h : l.length <= 100) : (cands l).length <= 2000000 := by
 unfold cands
 rw [len_fm (c := l.length * (l.length * 2)) _ (fun i _ => by rw [len_fm (c := l.length * 2) _ (fun j _ => by rw [len_fm (c := 2) _ (fun k _ => rfl), List.length_range]), List.length_range]), List.length_range]
 have a1 : l.length * 2 <= 200 := by omega
 have a2 : l.length * (l.length * 2) <= 100 * 200 := Nat.mul_le_mul h a1
 exact Nat.mul_le_mul h a2
theorem isF_cands {l : List V} {q : V × Int} (h : IsF (pt l) l.length q.1 q.2) : q ∈ cands l := by
 obtain ⟨i, j, k, h1, h2, h3, h4, h5, h6⟩ := h.ex
 refine List.mem_flatMap.2 ⟨i, List.mem_range.2 (by omega), List.mem_flatMap.2 ⟨j, List.mem_range.2 (by omega), List.mem_flatMap.2 ⟨k, List.mem_range.2 h3, ?_⟩⟩⟩
 obtain ⟨a, b⟩ := q
 simp only at h5 h6
 subst h6
 rcases h5 with rfl | rfl <;> simp
theorem FOk.len {l : List V} {F : FL} (h : FOk l F) (hl : l.length <= 100) : F.length <= 2000000 := by
 have nd : (F.map Prod.fst).Nodup := by
   refine List.pairwise_map.2 (h.ord.imp fun {a b} hab e => ?_)
   rw [e] at hab; exact lexlt_irr _ hab
 have := List.Nodup.length_le_of_subset (l₂ := cands l) nd fun q hq => by
   obtain ⟨f, hf, rfl⟩ := List.mem_map.1 hq
   exact isF_cands (h.ok f hf).1
 rw [List.length_map] at this
 exact Nat.le_trans this (cands_len l hl)
theorem FOk.insert {l : List V} {F : FL} (h : FOk l F) {f : (V × Int) × List Nat} (hn : ∀ x ∈ F, x.1.1 ≠ f.1.1) (h1 : IsF (pt l) l.length f.1.1 f.1.2) (h2 : IsPoly (pt l) l.length f.1.1 f.1.2 f.2) : FOk l (insF f F) :=
 ⟨insF_ord h.ord hn, fun x hx => by
   rcases mem_insF.1 hx with rfl | hx
   . exact ⟨h1, h2⟩
   . exact h.ok x hx⟩
theorem prim_zero' {v : V} : prim v = V.zero ↔ v = V.zero := by
 constructor
 . intro h
   by_cases hv : v = V.zero
   . exact hv
   . exact absurd h (prim_ne hv)
 . rintro rfl
   apply V.ext' <;> simp [prim, V.zero]
theorem neg_zero' {v : V} : v.neg = V.zero ↔ v = V.zero := by
 constructor
 . intro h
   by_cases hv : v = V.zero
   . exact hv
   . exact absurd h (neg_ne hv)
 . rintro rfl
   apply V.ext' <;> simp [V.neg, V.zero]
theorem ex_bind {α β : Type} {A : Option α} {g : α -> Option β} {z : α} {Y : β -> Prop} (h : A = some z) (hk : ∃ y, g z = some y /\ Y y) : ∃ y, Option.bind A g = some y /\ Y y := by
 rw [h]; exact hk
theorem ex_iteT {β : Type} {p : Prop} [Decidable p] {A B : Option β} {Y : β -> Prop} (h : p) (hA : ∃ y, A = some y /\ Y y) : ∃ y, (if decide p = true then A else B) = some y /\ Y y := by rw [if_pos (decide_eq_true h)]; exact hA
theorem turn48 (n : Nat) {l : List V} (hl : ∀ x ∈ l, bd MV x) (hlen : l.length <= 100) (hs : Srt l) {F : FL} (hF : FOk l F) {i j k : Nat} (hij : i < j) (hjk : j < k) (hk : k < l.length) {m : V} (hm : m = prim (tri (pt l) i j k) \/ m = (prim (tri (pt l) i j k)).neg) {α : Type} {g : D -> Nat × List D -> Option α} {Y : α -> Prop}
   (hg : ∀ F' : FL, FOk l F' -> (∀ f ∈ F, f ∈ F') -> (tri (pt l) i j k ≠ V.zero -> Supp (pt l) l.length m (V.dot m (pt l i)) -> (m, V.dot m (pt l i)) ∈ F'.map Prod.fst) -> ∃ y, g (I (V.dot m (pt l i))) (0, [.sl (encFL F')]) = some y /\ Y y) :
   ∃ y, (Option.bind (cA (n + 4) 107 [encV m, encV (pt l i)]) fun r31 =>
   Option.bind (cA (n + 4) 108 [.sl (encFL F), encV m]) fun r32 =>
   Option.bind (Option.bind (D.un .not r32) fun x33 =>
   Option.bind (D.truth x33) fun b34 =>
   Option.bind (if b34 then (Option.bind (D.un .not (D.bool (D.beq (encV m) (D.st [(D.int .i64 0), (D.int .i64 0), (D.int .i64 0)])))) fun x35 =>
   D.truth x35) else (some false)) fun b36 =>
   Option.bind (D.truth (D.bool b36)) fun b37 =>
   Option.bind (if b37 then (Option.bind (cA (n + 4) 109 [encL l, encV m, r31]) fun r38 =>
   D.truth r38) else (some false)) fun b39 =>
   Option.bind (D.truth (D.bool b39)) fun b40 =>
   if b40 then (Option.bind (cA (n + 4) 111 [encL l, encV m, r31]) fun r41 =>
   Option.bind (cA (n + 4) 110 [.sl (encFL F), (D.st [encV m, r31, r41])]) fun r42 =>
   some (0, [r42])) else (some (0, [.sl (encFL F)]))) (g r31)) = some y /\ Y y := by
 have hi : i < l.length := by omega
 have bt : bd 549755813888 (prim (tri (pt l) i j k)) := bd_prim (bd_cross (bd_wy (P := pt l) (hl _ (memD hi)) (hl _ (memD (show j < l.length by omega)))) (bd_wy (P := pt l) (hl _ (memD hi)) (hl _ (memD hk))))
 have bm : bd 549755813888 m := by
   rcases hm with rfl | rfl
   . exact bt
   . exact bd_neg bt
 have hFl := hF.len hlen
 have hmz : m = V.zero ↔ tri (pt l) i j k = V.zero := by
   rcases hm with rfl | rfl
   . exact prim_zero'
   . rw [neg_zero', prim_zero']
 refine ex_bind (c107 (n + 3) bm (hl _ (memD hi)) (by decide)) (ex_bind (c108 (n + 3) F m (by omega)) ?_)
 obtain ⟨d, hd⟩ : ∃ d, V.dot m (l.getD i V.zero) = d := ⟨_, rfl⟩
 have hdp : V.dot m (pt l i) = d := hd
 rw [hdp] at hg
 rw [hdp]
 by_cases hkn : (F.any fun f => decide (f.1.1 = m)) = true
 . rw [hkn]
   refine ex_bind (z := (0, [.sl (encFL F)])) (bind_eq (z := .bool false) rfl (bind_eq (z := false) rfl (bind_eq (z := false) rfl (bind_eq (z := false) rfl (bind_eq (z := false) rfl (bind_eq (z := false) rfl rfl)))))) (hg F hF (fun f hf => hf) fun ht hsp => ?_)
   obtain ⟨f, hf, hfm⟩ := List.any_eq_true.1 hkn
   have hfm : f.1.1 = m := by simpa using hfm
   have h1 := (hF.ok f hf).1
   rw [hfm] at h1
   have h2 : IsF (pt l) l.length m d := ⟨⟨i, j, k, hij, hjk, hk, ht, hm, hdp.symm⟩, hsp⟩
   exact List.mem_map.2 ⟨f, hf, Prod.ext hfm (IsF.d_eq h1 h2)⟩
 . rw [Bool.not_eq_true] at hkn
   rw [hkn]
   have hnk : ∀ f ∈ F, f.1.1 ≠ m := fun f hf e => by
     have := List.any_eq_false.1 hkn f hf
     simp [e] at this
   by_cases hz : m = V.zero
   . refine ex_bind (z := (0, [.sl (encFL F)])) (bind_eq (z := .bool true) rfl (bind_eq (z := true) rfl (bind_eq (z := false) ?_ (bind_eq (z := false) rfl (bind_eq (z := false) rfl (bind_eq (z := false) rfl rfl)))))) (hg F hF (fun f hf => hf) fun ht hsp => absurd (hmz.1 hz) ht)
     rw [if_pos rfl, enc_mk, beq_V, decide_eq_true (show m = ⟨0, 0, 0⟩ from hz)]; rfl
   . have ht : tri (pt l) i j k ≠ V.zero := fun e => hz (hmz.2 e)
     have hc := c109 (n + 2) (d := d) hl bm (by decide) (by omega)
     by_cases hsp : supp l (m, d) = true
     . have hFm : IsF (pt l) l.length m d := ⟨⟨i, j, k, hij, hjk, hk, ht, hm, hdp.symm⟩, supp_iff.1 hsp⟩
       obtain ⟨p, hp, _, _⟩ := hFm.poly hs
       refine ex_bind (z := (0, [.sl (encFL (insF ((m, d), p) F))])) (bind_eq (z := .bool true) rfl (bind_eq (z := true) rfl (bind_eq (z := true) ?_ (bind_eq (z := true) rfl (bind_eq (z := true) ?_ (bind_eq (z := true) rfl ?_)))))) (hg _ (hF.insert hnk hFm hp) (fun f hf => mem_insF.2 (.inr hf)) fun _ _ => List.mem_map.2 ⟨((m, d), p), mem_insF.2 (.inl rfl), rfl⟩)
       . rw [if_pos rfl, enc_mk, beq_V, decide_eq_false (show ¬ m = ⟨0, 0, 0⟩ from hz)]; rfl
       . rw [if_pos rfl]
         refine bind_eq hc ?_
         rw [tr_b]; exact congrArg some hsp
       . rw [if_pos rfl]
         exact bind_eq (p111 n hl hlen hs hFm bm hp) (bind_eq (c110 (n + 2) F ((m, d), p) (by omega)) rfl)
     . refine ex_bind (z := (0, [.sl (encFL F)])) (bind_eq (z := .bool true) rfl (bind_eq (z := true) rfl (bind_eq (z := true) ?_ (bind_eq (z := true) rfl (bind_eq (z := false) ?_ (bind_eq (z := false) rfl rfl)))))) (hg F hF (fun f hf => hf) fun _ hsp' => absurd (supp_iff.2 hsp') hsp)
       . rw [if_pos rfl, enc_mk, beq_V, decide_eq_false (show ¬ m = ⟨0, 0, 0⟩ from hz)]; rfl
       . rw [if_pos rfl]
         refine bind_eq hc ?_
         rw [tr_b]
         exact congrArg some (Bool.eq_false_iff.2 hsp)
structure KnF (l : List V) (i j k : Nat) (F : FL) : Prop where
 fok : FOk l F
 all : ∀ i' j' k', i' < j' -> j' < k' -> k' < l.length -> (i' < i \/ i' = i /\ (j' < j \/ j' = j /\ k' < k)) -> tri (pt l) i' j' k' ≠ V.zero -> ∀ m, (m = prim (tri (pt l) i' j' k') \/ m = (prim (tri (pt l) i' j' k')).neg) -> Supp (pt l) l.length m (V.dot m (pt l i')) -> (m, V.dot m (pt l i')) ∈ F.map Prod.fst
theorem KnF.mono {l : List V} {i j k i2 j2 k2 : Nat} {F : FL} (h : KnF l i j k F) (hm : ∀ i' j' k', i' < j' -> j' < k' -> k' < l.length -> (i' < i2 \/ i' = i2 /\ (j' < j2 \/ j' = j2 /\ k' < k2)) -> (i' < i \/ i' = i /\ (j' < j \/ j' = j /\ k' < k))) : KnF l i2 j2 k2 F :=
 ⟨h.fok, fun i' j' k' h1 h2 h3 h4 => h.all i' j' k' h1 h2 h3 (hm i' j' k' h1 h2 h3 h4)⟩
theorem KnF.facets {l : List V} {F : FL} (h : KnF l l.length 0 0 F) : Facets (pt l) l.length (F.map Prod.fst) := by
 refine ⟨List.pairwise_map.2 h.fok.ord, fun q => ⟨fun hq => ?_, fun hq => ?_⟩⟩
 . obtain ⟨f, hf, rfl⟩ := List.mem_map.1 hq
   exact (h.fok.ok f hf).1
 . obtain ⟨⟨i, j, k, h1, h2, h3, c1, c2, c3⟩, hs⟩ := hq
   obtain ⟨m, d⟩ := q
   simp only at c2 c3 hs
   subst c3
   exact h.all i j k h1 h2 h3 (.inl (by omega)) c1 m c2 hs
end Go.Proofs.YtjjjkojfijpeeaaGreat.Sy
end
section
set_option linter.unusedVariables false
namespace Go.Proofs.YtjjjkojfijpeeaaGreat.Sy
open Go Go.Proofs Go.Proofs.YtjjjkojfijpeeaaGreat.Geo
theorem u44 (n : Nat) (a0 : D) : cA (n + 1) 44 [a0] = spec44 lpW (cA n) [a0] := by kernel_rfl
theorem c94 (n : Nat) (p q : V) : cA (n + 3) 94 [encV p, encV q] = some (I (orZ [cmpZ p.x q.x, cmpZ p.y q.y, cmpZ p.z q.z])) := by
 rw [u94]
 unfold F94
 simp only [get0, get1, get2, Option.bind_some, c53, map3, c52 (n + 1) [cmpZ p.x q.x, cmpZ p.y q.y, cmpZ p.z q.z] (by simp)]
theorem cmpI94 (n : Nat) (p q : V) : cmpI (envOf lpW (cA (n + 3)) (inlP lpW (cA (n + 3)))) 94 (encV p) (encV q) = some (orZ [cmpZ p.x q.x, cmpZ p.y q.y, cmpZ p.z q.z]) := by
 unfold cmpI
 rw [show (envOf lpW (cA (n + 3)) (inlP lpW (cA (n + 3)))).call = cA (n + 3) from rfl, c94]
 rfl
theorem chk94 (n : Nat) : ∀ (L : List V), L.Pairwise lexlt -> chkS (envOf lpW (cA (n + 3)) (inlP lpW (cA (n + 3)))) 94 (L.map encV) = true
 | [], _ => rfl
 | p :: L, h => by
   obtain ⟨h1, h2⟩ := List.pairwise_cons.1 h
   simp only [List.map_cons, chkS, Bool.and_eq_true, List.all_eq_true, List.mem_map]
   refine ⟨⟨?_, ?_⟩, chk94 n L h2⟩
   . simp only [geD, cmpI94, cmp3_eq]; decide
   . rintro _ ⟨q, hq, rfl⟩
     simp only [ltD, geD, cmpI94, cmp3_lt (h1 q hq), cmp3_gt (h1 q hq)]; decide
theorem ltD94 (n : Nat) (p q : V) : ltD (envOf lpW (cA (n + 3)) (inlP lpW (cA (n + 3)))) 94 (encV p) (encV q) = decide (lexlt p q) := by
 simp only [ltD, cmpI94]
 by_cases h : lexlt p q
 . rw [cmp3_lt h, decide_eq_true h]; decide
 . rw [decide_eq_false h]
   by_cases e : p = q
   . subst e; rw [cmp3_eq]; decide
   . rw [cmp3_gt ((lexlt_tri e).resolve_left h)]; decide
def insV (x : V) : List V -> List V
 | [] => [x]
 | y :: l => if lexlt x y then x :: y :: l else y :: insV x l
def sortV : List V -> List V
 | [] => []
 | x :: l => insV x (sortV l)
def dfV (x : V) : List V -> List V
 | [] => []
 | y :: l => if y = x then dfV y l else y :: dfV y l
def ddV : List V -> List V
 | [] => []
 | x :: l => x :: dfV x l
theorem insL94 (n : Nat) (x : V) : ∀ l : List V, insL (ltD (envOf lpW (cA (n + 3)) (inlP lpW (cA (n + 3)))) 94) (encV x) (l.map encV) = (insV x l).map encV
 | [] => rfl
 | y :: l => by
   simp only [List.map_cons, insL, insV, ltD94]
   by_cases h : lexlt x y
   . rw [if_pos (decide_eq_true h), if_pos h]; rfl
   . rw [if_neg (by simpa using h), if_neg h, insL94 n x l]; rfl
theorem sortL94 (n : Nat) : ∀ l : List V, sortL (ltD (envOf lpW (cA (n + 3)) (inlP lpW (cA (n + 3)))) 94) (l.map encV) = (sortV l).map encV
 | [] => rfl
 | x :: l => by simp only [List.map_cons, sortL, sortV, sortL94 n l, insL94]
theorem beqV (a b : V) : D.beq (encV a) (encV b) = decide (a = b) := by
 simp only [encV, D.beq, D.beqs, beq_i, Bool.and_true]
 cases a; cases b
 simp only [V.mk.injEq]
 grind
theorem dedF_map (x : V) : ∀ l : List V, dedF (encV x) (l.map encV) = (dfV x l).map encV
 | [] => rfl
 | y :: l => by
   simp only [List.map_cons, dedF, dfV, beqV]
   by_cases h : y = x
   . rw [if_pos (decide_eq_true h), if_pos h, dedF_map y l]
   . rw [if_neg (by simpa using h), if_neg h, dedF_map y l]; rfl
theorem dedR_map : ∀ l : List V, dedR (l.map encV) = (ddV l).map encV
 | [] => rfl
 | x :: l => by simp only [List.map_cons, dedR, ddV, dedF_map]
theorem mem_insV {x z : V} : ∀ {l : List V}, z ∈ insV x l ↔ z = x \/ z ∈ l
 | [] => by simp [insV]
 | y :: l => by
   simp only [insV]
   split
   . simp
   . simp only [List.mem_cons, mem_insV (l := l)]; grind
theorem mem_sortV {z : V} : ∀ {l : List V}, z ∈ sortV l ↔ z ∈ l
 | [] => by simp [sortV]
 | x :: l => by simp only [sortV, mem_insV, mem_sortV (l := l), List.mem_cons]
theorem insV_ws {x : V} : ∀ {l : List V}, l.Pairwise (fun a b => ¬ lexlt b a) -> (insV x l).Pairwise (fun a b => ¬ lexlt b a)
 | [], _ => by simp [insV]
 | y :: l, h => by
   obtain ⟨h1, h2⟩ := List.pairwise_cons.1 h
   simp only [insV]
   split
   . rename_i hxy
     refine List.pairwise_cons.2 ⟨fun z hz hlt => ?_, h⟩
     rcases List.mem_cons.1 hz with rfl | hz
     . exact lexlt_asy _ _ hxy hlt
     . exact h1 z hz (lexlt_trans hlt hxy)
   . rename_i hxy
     refine List.pairwise_cons.2 ⟨fun z hz => ?_, insV_ws h2⟩
     rcases mem_insV.1 hz with rfl | hz
     . exact hxy
     . exact h1 z hz
theorem sortV_ws : ∀ l : List V, (sortV l).Pairwise (fun a b => ¬ lexlt b a)
 | [] => .nil
 | x :: l => insV_ws (sortV_ws l)
theorem mem_dfV {z : V} : ∀ {l : List V} {x : V}, z ∈ x :: dfV x l ↔ z ∈ x :: l
 | [], x => by simp [dfV]
 | y :: l, x => by
   have ih := mem_dfV (z := z) (l := l) (x := y)
   simp only [dfV]
   split
   . rename_i h
     subst h
     simp only [List.mem_cons] at ih ⊢; grind
   . simp only [List.mem_cons] at ih ⊢; grind
theorem mem_ddV {z : V} : ∀ {l : List V}, z ∈ ddV l ↔ z ∈ l
 | [] => by simp [ddV]
 | x :: l => mem_dfV
theorem dfV_ord : ∀ {l : List V} {x : V}, (x :: l).Pairwise (fun a b => ¬ lexlt b a) -> (x :: dfV x l).Pairwise lexlt
 | [], x, _ => by simp [dfV]
 | y :: l, x, h => by
   obtain ⟨h1, h2⟩ := List.pairwise_cons.1 h
   have ih := dfV_ord h2
   simp only [dfV]
   split
   . rename_i e
     subst e
     exact ih
   . rename_i hne
     refine List.pairwise_cons.2 ⟨fun z hz => ?_, ih⟩
     have hxy : lexlt x y := (lexlt_tri (fun e => hne e.symm)).resolve_right (h1 y List.mem_cons_self)
     rcases List.mem_cons.1 hz with rfl | hz'
     . exact hxy
     . exact lexlt_trans hxy ((List.pairwise_cons.1 ih).1 z hz')
theorem ddV_sortV (l : List V) : ddV (sortV l) = srtL l := by
 refine sorted_eq (r := lexlt) lexlt_irr lexlt_asy ?_ (srtL_ord l) fun z => ?_
 . have := sortV_ws l
   cases h : sortV l with
   | nil => exact .nil
   | cons x m => rw [h] at this; exact dfV_ord this
 . rw [mem_ddV, mem_sortV, mem_srtL]
theorem c44 (n : Nat) (l : List V) (hlen : l.length <= 1073741824) : cA (n + 4) 44 [encL l] = some (encL (srtL l)) := by
 rw [u44]
 show (if decide ((l.map encV).length <= 1073741824) then _ else none) = _
 rw [if_pos (decide_eq_true (by rw [List.length_map]; exact hlen))]
 unfold sortDW
 rw [sortL94, dedR_map, ddV_sortV, chk94 n _ (srtL_ord l), if_pos rfl, Option.bind_some, dedR_map, ddV_sortV]
 rfl
end Go.Proofs.YtjjjkojfijpeeaaGreat.Sy
end
section
set_option linter.unusedVariables false
namespace Go.Proofs.YtjjjkojfijpeeaaGreat.Sy
open Go Go.Proofs Go.Proofs.YtjjjkojfijpeeaaGreat.Geo
def mt (p : V) : Nat -> V
 | 0 => p
 | 1 => p.neg
 | _ => p
theorem c48 (n : Nat) {l : List V} (hl : ∀ x ∈ l, bd MV x) (hlen : l.length <= 100) (hs : Srt l) : ∃ F : FL, KnF l l.length 0 0 F /\ cA (n + 7) 48 [encL l] = some (.sl (encFL F)) := by
 suffices h : ∃ y, cA (n + 7) 48 [encL l] = some y /\ ∃ F : FL, KnF l l.length 0 0 F /\ y = .sl (encFL F) by
   obtain ⟨y, h1, F, h2, rfl⟩ := h
   exact ⟨F, h2, h1⟩
 rw [u48]
 unfold F48
 have ll : (l.map encV).length = l.length := List.length_map ..
 refine lp_ex (fun i s => ∃ F : FL, s = [.sl (encFL F), I (i : Int)] /\ KnF l i 0 0 F) l.length 0 (Nat.zero_le _) ⟨[], rfl, ⟨.nil, by simp⟩, fun i' j' k' h1 h2 h3 h4 => by omega⟩ (fun i hi s hJ => ?_) (fun s hJ => ?_)
 . obtain ⟨F, rfl, hF⟩ := hJ
   refine ex_bind (z := l.map encV) rfl (ex_bind b_lss (ex_bind tr_b (ex_iteT (by show ((i : Int) < ((l.map encV).length : Int)); rw [ll]; omega) (ex_bind (b_add (inR_nat (i := i) (by omega))) ?_))))
   refine lp_ex (fun j s => i + 1 <= j /\ ∃ F : FL, s = [.sl (encFL F), I (j : Int)] /\ KnF l i j 0 F) l.length (i + 1) (by omega) ⟨Nat.le_refl _, F, rfl, hF.mono fun i' j' k' h1 h2 h3 h4 => by omega⟩ (fun j hj s hJ => ?_) (fun s hJ => ?_)
   . obtain ⟨hij, F, rfl, hF⟩ := hJ
     refine ex_bind (z := l.map encV) rfl (ex_bind b_lss (ex_bind tr_b (ex_iteT (by show ((j : Int) < ((l.map encV).length : Int)); rw [ll]; omega) (ex_bind (b_add (inR_nat (i := j) (by omega))) ?_))))
     refine lp_ex (fun k s => j + 1 <= k /\ ∃ F : FL, s = [.sl (encFL F), I (k : Int)] /\ KnF l i j k F) l.length (j + 1) (by omega) ⟨Nat.le_refl _, F, rfl, hF.mono fun i' j' k' h1 h2 h3 h4 => by omega⟩ (fun k hk s hJ => ?_) (fun s hJ => ?_)
     . obtain ⟨hjk, F, rfl, hF⟩ := hJ
       refine ex_bind (z := l.map encV) rfl (ex_bind b_lss (ex_bind tr_b (ex_iteT (by show ((k : Int) < ((l.map encV).length : Int)); rw [ll]; omega) ?_)))
       refine ex_bind (z := l.map encV) rfl (ex_bind (z := i) (by rw [ll]; exact idx_n hi) (ex_bind (getDL hi) (ex_bind (z := l.map encV) rfl (ex_bind (z := j) (by rw [ll]; exact idx_n hj) (ex_bind (getDL hj) (ex_bind (z := l.map encV) rfl (ex_bind (z := k) (by rw [ll]; exact idx_n hk) (ex_bind (getDL hk) (ex_bind (z := encV (prim (tri (pt l) i j k))) (c106 n (hl _ (memD hi)) (hl _ (memD hj)) (hl _ (memD hk))) ?_)))))))))
       have bt : bd 549755813888 (prim (tri (pt l) i j k)) := bd_prim (bd_cross (bd_wy (P := pt l) (hl _ (memD hi)) (hl _ (memD hj))) (bd_wy (P := pt l) (hl _ (memD hi)) (hl _ (memD hk))))
       obtain ⟨p, hp⟩ : ∃ p, prim (tri (pt l) i j k) = p := ⟨_, rfl⟩
       rw [hp] at bt ⊢
       have z0 : bd 0 V.zero := by simp only [bd, V.zero]; omega
       have e1 : V.zero.sub p = p.neg := by apply V.ext' <;> simp [V.sub, V.neg, V.zero]
       have e2 : V.zero.sub p.neg = p := by apply V.ext' <;> simp [V.sub, V.neg, V.zero]
       refine lp_ex (fun t s => ∃ F' : FL, s = [.sl (encFL F'), I (t : Int), encV (mt p t)] /\ FOk l F' /\ (∀ f ∈ F, f ∈ F') /\ (1 <= t -> tri (pt l) i j k ≠ V.zero -> Supp (pt l) l.length p (V.dot p (pt l i)) -> (p, V.dot p (pt l i)) ∈ F'.map Prod.fst) /\ (2 <= t -> tri (pt l) i j k ≠ V.zero -> Supp (pt l) l.length p.neg (V.dot p.neg (pt l i)) -> (p.neg, V.dot p.neg (pt l i)) ∈ F'.map Prod.fst)) 2 0 (by omega) ⟨F, rfl, hF.fok, fun f hf => hf, fun h => by omega, fun h => by omega⟩ (fun t ht s hJ => ?_) (fun s hJ => ?_)
       . obtain ⟨F', rfl, f1, f2, f3, f4⟩ := hJ
         refine ex_bind b_lss (ex_bind tr_b (ex_iteT (by show ((t : Int) < 2); omega) (ex_bind (z := l.map encV) rfl (ex_bind (z := i) (by rw [ll]; exact idx_n hi) (ex_bind (getDL hi) ?_)))))
         have ht' : t = 0 \/ t = 1 := by omega
         simp only [g0, g1, g2]
         rcases ht' with rfl | rfl
         . rw [show mt p 0 = p from rfl]
           refine turn48 (n + 2) hl hlen hs f1 (show i < j by omega) (show j < k by omega) hk (m := p) (.inl hp.symm) (fun F2 k1 k2 k3 => ?_)
           refine ⟨.inl [.sl (encFL F2), I ((0 + 1 : Nat) : Int), encV p.neg], ?_, ?_⟩
           . refine bind_eq (z := encV p.neg) ?_ ?_
             . have := c112 (n + 5) z0 bt (by decide)
               rw [e1] at this
               exact this
             . exact bind_eq (b_add i01) rfl
           . exact ⟨F2, rfl, k1, fun f hf => k2 f (f2 f hf), fun _ => k3, fun h => by omega⟩
         . rw [show mt p 1 = p.neg from rfl]
           refine turn48 (n + 2) hl hlen hs f1 (show i < j by omega) (show j < k by omega) hk (m := p.neg) (.inr (by rw [hp])) (fun F2 k1 k2 k3 => ?_)
           refine ⟨.inl [.sl (encFL F2), I ((1 + 1 : Nat) : Int), encV p], ?_, F2, rfl, k1, fun f hf => k2 f (f2 f hf), fun _ h1 h2 => ?_, fun _ => k3⟩
           . refine bind_eq (z := encV p) ?_ ?_
             . have := c112 (n + 5) z0 (bd_neg bt) (by decide)
               rw [e2] at this
               exact this
             . exact bind_eq (b_add i12) rfl
           . obtain ⟨f, hf, e⟩ := List.mem_map.1 (f3 (Nat.le_refl _) h1 h2)
             exact List.mem_map.2 ⟨f, k2 f hf, e⟩
       . obtain ⟨F', rfl, f1, f2, f3, f4⟩ := hJ
         refine ⟨.inr (0, [.sl (encFL F')]), bind_eq b_lss (bind_eq tr_b (iteF (by decide) rfl)), .inl [.sl (encFL F'), I ((k + 1 : Nat) : Int)], bind_eq (b_add (inR_nat (i := k) (by omega))) rfl, by omega, F', rfl, f1, fun i' j' k' h1 h2 h3 h4 h5 m h6 h7 => ?_⟩
         by_cases e : i' = i /\ j' = j /\ k' = k
         . obtain ⟨rfl, rfl, rfl⟩ := e
           rw [hp] at h6
           rcases h6 with rfl | rfl
           . exact f3 (by omega) h5 h7
           . exact f4 (by omega) h5 h7
         . obtain ⟨f, hf, e⟩ := List.mem_map.1 (hF.all i' j' k' h1 h2 h3 (by omega) h5 m h6 h7)
           exact List.mem_map.2 ⟨f, f2 f hf, e⟩
     . obtain ⟨hjk, F, rfl, hF⟩ := hJ
       refine ⟨.inr (0, [.sl (encFL F)]), ?_, .inl [.sl (encFL F), I ((j + 1 : Nat) : Int)], bind_eq (b_add (inR_nat (i := j) (by omega))) rfl, by omega, F, rfl, hF.mono fun i' j' k' h1 h2 h3 h4 => by omega⟩
       exact bind_eq (z := l.map encV) rfl (bind_eq b_lss (bind_eq tr_b (iteF (by show ¬ ((l.length : Int) < ((l.map encV).length : Int)); rw [ll]; omega) rfl)))
   . obtain ⟨hij, F, rfl, hF⟩ := hJ
     refine ⟨.inr (0, [.sl (encFL F)]), ?_, .inl [.sl (encFL F), I ((i + 1 : Nat) : Int)], bind_eq (b_add (inR_nat (i := i) (by omega))) rfl, F, rfl, hF.mono fun i' j' k' h1 h2 h3 h4 => by omega⟩
     exact bind_eq (z := l.map encV) rfl (bind_eq b_lss (bind_eq tr_b (iteF (by show ¬ ((l.length : Int) < ((l.map encV).length : Int)); rw [ll]; omega) rfl)))
 . obtain ⟨F, rfl, hF⟩ := hJ
   refine ⟨.inr (0, [.sl (encFL F)]), ?_, .sl (encFL F), rfl, F, hF, rfl⟩
   exact bind_eq (z := l.map encV) rfl (bind_eq b_lss (bind_eq tr_b (iteF (by show ¬ ((l.length : Int) < ((l.map encV).length : Int)); rw [ll]; omega) rfl)))
end Go.Proofs.YtjjjkojfijpeeaaGreat.Sy
end
section
set_option linter.unusedVariables false
namespace Go.Proofs.YtjjjkojfijpeeaaGreat.Sy
open Go Go.Proofs Go.Proofs.YtjjjkojfijpeeaaGreat.Geo
theorem mapV_len (l : List V) : (l.map encV).length = l.length := List.length_map ..
theorem c13 (n : Nat) (a b : List V) (ha : a.length <= 1000000) : cA (n + 1) 13 [encL a, encL b] = some (.bool (decide (a = b))) := by
 rw [u13]
 unfold F13
 refine bind_eq (z := a.map encV) rfl (bind_eq (z := b.map encV) rfl ?_)
 rw [mapV_len, mapV_len, beq_nat]
 by_cases hab : a.length = b.length
 . rw [decide_eq_true hab]
   refine bind_eq (z := false) rfl ?_
   rw [if_neg (by decide)]
   refine lp_for (fun i s => s = [I (i : Int)] /\ a.take i = b.take i) a.length 0 (Nat.zero_le _) ⟨rfl, by simp⟩ (fun i hi s hJ => ?_) (fun s hJ => ?_)
   . obtain ⟨rfl, hz⟩ := hJ
     have hib : i < b.length := by omega
     have pre : ∀ z, (Option.bind (D.truth (D.bool (!(D.beq (encV (a.getD i V.zero)) (encV (b.getD i V.zero)))))) fun b14 =>
         if b14 then (some (Sum.inr (0, [(D.bool false)]))) else (Option.bind (D.bin .add (I (i : Int)) (D.int .i64 1)) fun x15 => some (Sum.inl [x15]))) = some z ->
         (Option.bind (D.asSl (encL a)) fun l5 => Option.bind (D.bin .lss (I (i : Int)) (D.int .i64 (List.length l5))) fun x6 => Option.bind (D.truth x6) fun b7 =>
         if b7 then (Option.bind (D.asSl (encL a)) fun l8 => Option.bind (D.idx (I (i : Int)) (List.length l8)) fun i9 => Option.bind (l8[i9]?) fun x10 => Option.bind (D.asSl (encL b)) fun l11 => Option.bind (D.idx (I (i : Int)) (List.length l11)) fun i12 => Option.bind (l11[i12]?) fun x13 =>
         Option.bind (D.truth (D.bool (!(D.beq x10 x13)))) fun b14 =>
         if b14 then (some (Sum.inr (0, [(D.bool false)]))) else (Option.bind (D.bin .add (I (i : Int)) (D.int .i64 1)) fun x15 => some (Sum.inl [x15]))) else (some (Sum.inr (1, []) : Sum (List D) (Nat × List D)))) = some z := fun z hz =>
       bind_eq (z := a.map encV) rfl (bind_eq b_lss (bind_eq tr_b (iteT (by show ((i : Int) < ((a.map encV).length : Int)); rw [mapV_len]; omega) (bind_eq (z := a.map encV) rfl (bind_eq (z := i) (by rw [mapV_len]; exact idx_n hi) (bind_eq (getDL hi) (bind_eq (z := b.map encV) rfl (bind_eq (z := i) (by rw [mapV_len]; exact idx_n hib) (bind_eq (getDL hib) hz)))))))))
     rw [beq_V] at pre
     by_cases he : a.getD i V.zero = b.getD i V.zero
     . left
       refine ⟨[I ((i + 1 : Nat) : Int)], pre _ ?_, rfl, ?_⟩
       . rw [decide_eq_true he]
         refine bind_eq (z := false) rfl ?_
         rw [if_neg (by decide)]
         exact bind_eq (b_add (inR_nat (i := i) (by omega))) rfl
       . rw [List.take_succ_eq_append_getElem hi, List.take_succ_eq_append_getElem hib, hz]
         simp only [List.getD, hi, hib, List.getElem?_eq_getElem, Option.getD_some] at he
         rw [he]
     . right
       refine ⟨(0, [.bool false]), pre _ ?_, ?_⟩
       . rw [decide_eq_false he]; rfl
       . rw [decide_eq_false (fun e => he (by rw [e]))]; rfl
   . obtain ⟨rfl, hz⟩ := hJ
     refine ⟨(1, []), ?_, ?_⟩
     . exact bind_eq (z := a.map encV) rfl (bind_eq b_lss (bind_eq tr_b (iteF (by show ¬ ((a.length : Int) < ((a.map encV).length : Int)); rw [mapV_len]; omega) rfl)))
     . rw [List.take_length, hab, List.take_length] at hz
       rw [decide_eq_true hz]; rfl
 . rw [decide_eq_false hab, decide_eq_false (fun e => hab (by rw [e]))]
   rfl
instance decBd (k : Int) (v : V) : Decidable (bd k v) := by unfold bd; exact inferInstance
def cmpn (v : V) : Nat -> Int
 | 0 => v.x
 | 1 => v.y
 | _ => v.z
theorem fld_cmpn (v : V) {t : Nat} (h : t < 3) : D.fld (encV v) t = some (I (cmpn v t)) := by
 have : t = 0 \/ t = 1 \/ t = 2 := by omega
 rcases this with rfl | rfl | rfl <;> rfl
theorem bd_cmpn {v : V} : bd MV v ↔ ∀ t, t < 3 -> ¬ (cmpn v t > 262144) /\ ¬ (cmpn v t < -262144) := by
 constructor
 . intro h t ht
   have : t = 0 \/ t = 1 \/ t = 2 := by omega
   simp only [bd, MV] at h
   rcases this with rfl | rfl | rfl <;> simp only [cmpn] <;> omega
 . intro h
   have h0 := h 0 (by decide); have h1 := h 1 (by decide); have h2 := h 2 (by decide)
   simp only [cmpn] at h0 h1 h2
   simp only [bd, MV]; omega
def inFac (F : FL) (i : Nat) : Bool := F.any fun f => f.2.any fun x => decide (x = i)
def verts (S : List V) (F : FL) (k : Nat) : List V := ((List.range k).filter (inFac F)).map (pt S)
theorem verts_succ (S : List V) (F : FL) (k : Nat) : verts S F (k + 1) = if inFac F k then verts S F k ++ [pt S k] else verts S F k := by
 unfold verts
 rw [List.range_succ, List.filter_append]
 by_cases h : inFac F k = true <;> simp [h]
theorem verts_len (S : List V) (F : FL) (k : Nat) : (verts S F k).length <= k := by
 unfold verts; rw [List.length_map]; exact Nat.le_trans (List.length_filter_le _ _) (by simp)
def errH (e : Int) : D := .st [.st [.sl []], I e]
def hullD (S : List V) (F : FL) : D := if F.length = 0 then errH 120 else if F.length > 64 then errH 2 else .st [.st [encL (verts S F S.length)], I 0]
theorem c12_big (n : Nat) {l : List V} (h : 64 < l.length) : cA (n + 1) 12 [encL l] = some (errH 2) := by
 rw [u12]
 unfold F12
 exact bind_eq (z := l.map encV) rfl (bind_eq b_gtr (bind_eq tr_b (iteT (by show ((l.map encV).length : Int) > 64; rw [mapV_len]; omega) rfl)))
theorem in12 {l : List V} {i : Nat} (hi : i < l.length) {α : Type} {k : Nat × List D -> Option α} {y : α} (hy : k (if bd MV (l.getD i V.zero) then (1, [.sl [], I 0]) else (0, [.sl [], I 1])) = some y) :
   Option.bind (lpW (fun (v8 : List D) =>
 Option.bind (D.bin .lss (List.getD v8 0 (D.bool false)) (D.int .i64 3)) fun x9 =>
 Option.bind (D.truth x9) fun b10 =>
 if b10 then (Option.bind (D.asSl (encL l)) fun l11 =>
 Option.bind (D.idx (I (i : Int)) (List.length l11)) fun i12 =>
 Option.bind (l11[i12]?) fun x13 =>
 Option.bind (D.idx (List.getD v8 0 (D.bool false)) 3) fun i14 =>
 Option.bind (D.fld x13 i14) fun x15 =>
 Option.bind (D.bin .gtr x15 (D.int .i64 262144)) fun x16 =>
 Option.bind (D.truth x16) fun b17 =>
 Option.bind (if b17 then (some true) else (Option.bind (D.asSl (encL l)) fun l18 =>
 Option.bind (D.idx (I (i : Int)) (List.length l18)) fun i19 =>
 Option.bind (l18[i19]?) fun x20 =>
 Option.bind (D.idx (List.getD v8 0 (D.bool false)) 3) fun i21 =>
 Option.bind (D.fld x20 i21) fun x22 =>
 Option.bind (D.bin .lss x22 (D.int .i64 (-262144))) fun x23 =>
 D.truth x23)) fun b24 =>
 Option.bind (D.truth (D.bool b24)) fun b25 =>
 if b25 then (some (Sum.inr (0, [(D.sl []), (D.int .i64 1)]))) else (Option.bind (D.bin .add (List.getD v8 0 (D.bool false)) (D.int .i64 1)) fun x26 =>
 some (Sum.inl [x26, (D.sl (D.els (List.getD v8 1 (D.bool false)))), (List.getD v8 2 (D.bool false))]))) else (some (Sum.inr (1, [(D.sl (D.els (List.getD v8 1 (D.bool false)))), (List.getD v8 2 (D.bool false))])))) [(D.int .i64 0), .sl [], I 0]) k = some y := by
 refine lp_forA (fun t s => s = [I (t : Int), .sl [], I 0] /\ ∀ t', t' < t -> ¬ (cmpn (l.getD i V.zero) t' > 262144) /\ ¬ (cmpn (l.getD i V.zero) t' < -262144)) 3 0 (by decide) ⟨rfl, fun t' h => by omega⟩ (fun t ht s hJ => ?_) (fun s hJ => ?_)
 . obtain ⟨rfl, hz⟩ := hJ
   have hf := fld_cmpn (l.getD i V.zero) ht
   have ix : D.idx (I (t : Int)) 3 = some t := idx_n ht
   have pre : ∀ z, (if decide (cmpn (l.getD i V.zero) t > 262144 \/ cmpn (l.getD i V.zero) t < -262144) = true then (some (Sum.inr (0, [(D.sl []), (D.int .i64 1)]))) else (Option.bind (D.bin .add (I (t : Int)) (D.int .i64 1)) fun x26 => some (Sum.inl [x26, .sl [], I 0]))) = some z -> _ := fun (z : Sum (List D) (Nat × List D)) hz' =>
     bind_eq (g := fun x9 => Option.bind (D.truth x9) fun b10 => if b10 then (Option.bind (D.asSl (encL l)) fun l11 => Option.bind (D.idx (I (i : Int)) (List.length l11)) fun i12 => Option.bind (l11[i12]?) fun x13 => Option.bind (D.idx (I (t : Int)) 3) fun i14 => Option.bind (D.fld x13 i14) fun x15 => Option.bind (D.bin .gtr x15 (D.int .i64 262144)) fun x16 => Option.bind (D.truth x16) fun b17 =>
       Option.bind (if b17 then (some true) else (Option.bind (D.asSl (encL l)) fun l18 => Option.bind (D.idx (I (i : Int)) (List.length l18)) fun i19 => Option.bind (l18[i19]?) fun x20 => Option.bind (D.idx (I (t : Int)) 3) fun i21 => Option.bind (D.fld x20 i21) fun x22 => Option.bind (D.bin .lss x22 (D.int .i64 (-262144))) fun x23 => D.truth x23)) fun b24 =>
       Option.bind (D.truth (D.bool b24)) fun b25 =>
       if b25 then (some (Sum.inr (0, [(D.sl []), (D.int .i64 1)]))) else (Option.bind (D.bin .add (I (t : Int)) (D.int .i64 1)) fun x26 => some (Sum.inl [x26, .sl [], I 0]))) else (some (Sum.inr (1, [.sl [], I 0]))))
       (b_lss (a := (t : Int)) (b := 3)) (y := z) (bind_eq tr_b (iteT (by omega) (bind_eq (z := l.map encV) rfl (bind_eq (z := i) (by rw [mapV_len]; exact idx_n hi) (bind_eq (getDL hi) (bind_eq ix (bind_eq hf (bind_eq b_gtr (bind_eq tr_b (bind_eq (z := decide (cmpn (l.getD i V.zero) t > 262144 \/ cmpn (l.getD i V.zero) t < -262144)) (by
         by_cases h1 : cmpn (l.getD i V.zero) t > 262144
         . refine iteT h1 ?_
           rw [decide_eq_true (.inl h1)]
         . refine iteF h1 (bind_eq (z := l.map encV) rfl (bind_eq (z := i) (by rw [mapV_len]; exact idx_n hi) (bind_eq (getDL hi) (bind_eq ix (bind_eq hf (bind_eq b_lss ?_))))))
           rw [tr_b]; congr 1; rw [decide_eq_decide]; exact ⟨.inr, fun h => h.resolve_left h1⟩) (bind_eq tr_b hz')))))))))))
   by_cases hb : cmpn (l.getD i V.zero) t > 262144 \/ cmpn (l.getD i V.zero) t < -262144
   . right
     refine ⟨_, pre _ (iteT hb rfl), ?_⟩
     rw [if_neg (fun h => by have := bd_cmpn.1 h t ht; omega)] at hy
     exact hy
   . left
     refine ⟨[I ((t + 1 : Nat) : Int), .sl [], I 0], pre _ (iteF hb (bind_eq (b_add (inR_nat (i := t) (by omega))) rfl)), rfl, fun t' ht' => ?_⟩
     by_cases e : t' = t
     . subst e; omega
     . exact hz t' (by omega)
 . obtain ⟨rfl, hz⟩ := hJ
   refine ⟨(1, [.sl [], I 0]), bind_eq b_lss (bind_eq tr_b (iteF (by decide) rfl)), ?_⟩
   rw [if_pos (bd_cmpn.2 hz)] at hy
   exact hy
theorem c12_bad (n : Nat) {l : List V} (hlen : l.length <= 64) (hb : ¬ ∀ x ∈ l, bd MV x) : cA (n + 1) 12 [encL l] = some (errH 1) := by
 rw [u12]
 unfold F12
 refine bind_eq (z := l.map encV) rfl (bind_eq b_gtr (bind_eq tr_b (iteF (by show ¬ ((l.map encV).length : Int) > 64; rw [mapV_len]; omega) ?_)))
 refine lp_for (fun i s => s = [I (i : Int), .sl [], I 0] /\ ∀ x ∈ l.take i, bd MV x) l.length 0 (Nat.zero_le _) ⟨rfl, by simp⟩ (fun i hi s hJ => ?_) (fun s hJ => ?_)
 . obtain ⟨rfl, hz⟩ := hJ
   by_cases hx : bd MV (l.getD i V.zero)
   . left
     refine ⟨[I ((i + 1 : Nat) : Int), .sl [], I 0], ?_, rfl, fun x hx' => ?_⟩
     . refine bind_eq (z := l.map encV) rfl (bind_eq b_lss (bind_eq tr_b (iteT (by show ((i : Int) < ((l.map encV).length : Int)); rw [mapV_len]; omega) (in12 hi ?_))))
       rw [if_pos hx, if_neg (show ¬ (1 : Nat) = 0 by decide)]
       exact bind_eq (b_add (inR_nat (i := i) (by omega))) rfl
     . rw [List.take_succ_eq_append_getElem hi] at hx'
       rcases List.mem_append.1 hx' with h | h
       . exact hz x h
       . rw [List.mem_singleton.1 h]; simpa [List.getD, hi] using hx
   . right
     refine ⟨(0, [.sl [], I 1]), ?_, rfl⟩
     refine bind_eq (z := l.map encV) rfl (bind_eq b_lss (bind_eq tr_b (iteT (by show ((i : Int) < ((l.map encV).length : Int)); rw [mapV_len]; omega) (in12 hi ?_))))
     rw [if_neg hx]; rfl
 . obtain ⟨rfl, hz⟩ := hJ
   rw [List.take_length] at hz
   exact absurd hz hb
theorem c12_good (n : Nat) {l : List V} (hlen : l.length <= 64) (hl : ∀ x ∈ l, bd MV x) {F : FL} (hpl : ∀ f ∈ F, f.2.length <= 1000000) (hFl : F.length <= 3000000) (h48 : cA (n + 2) 48 [encL (srtL l)] = some (.sl (encFL F))) : cA (n + 3) 12 [encL l] = some (hullD (srtL l) F) := by
 rw [u12]
 unfold F12
 refine bind_eq (z := l.map encV) rfl (bind_eq b_gtr (bind_eq tr_b (iteF (by show ¬ ((l.map encV).length : Int) > 64; rw [mapV_len]; omega) ?_)))
 refine lp_for (fun i s => s = [I (i : Int), .sl [], I 0]) l.length 0 (Nat.zero_le _) rfl (fun i hi s hJ => ?_) (fun s hJ => ?_)
 . subst hJ
   left
   refine ⟨[I ((i + 1 : Nat) : Int), .sl [], I 0], ?_, rfl⟩
   refine bind_eq (z := l.map encV) rfl (bind_eq b_lss (bind_eq tr_b (iteT (by show ((i : Int) < ((l.map encV).length : Int)); rw [mapV_len]; omega) (in12 hi ?_))))
   rw [if_pos (hl _ (memD hi)), if_neg (show ¬ (1 : Nat) = 0 by decide)]
   exact bind_eq (b_add (inR_nat (i := i) (by omega))) rfl
 . subst hJ
   refine ⟨(1, [.sl [], I 0]), bind_eq (z := l.map encV) rfl (bind_eq b_lss (bind_eq tr_b (iteF (by show ¬ ((l.length : Int) < ((l.map encV).length : Int)); rw [mapV_len]; omega) rfl))), ?_⟩
   rw [if_neg (show ¬ (1 : Nat) = 0 by decide)]
   have hSl := Nat.le_trans (srtL_len l) hlen
   refine bind_eq (c47 n l (by omega)) (bind_eq h48 (bind_eq (z := encFL F) rfl ?_))
   obtain ⟨S, hS⟩ : ∃ S, srtL l = S := ⟨_, rfl⟩
   rw [hS] at hSl ⊢
   rw [encFL_len, show D.beq (D.int .i64 (F.length : Nat)) (D.int .i64 0) = decide (F.length = 0) from beq_nat F.length 0]
   refine bind_eq tr_b ?_
   unfold hullD
   by_cases h0 : F.length = 0
   . refine iteT h0 ?_
     rw [if_pos h0]; rfl
   refine iteF h0 (bind_eq (z := encFL F) rfl (bind_eq b_gtr (bind_eq tr_b ?_)))
   rw [if_neg h0]
   by_cases h64 : F.length > 64
   . refine iteT (by rw [encFL_len]; omega) ?_
     rw [if_pos h64]; rfl
   refine iteF (by rw [encFL_len]; omega) ?_
   rw [if_neg h64]
   refine lp_for (fun i s => s = [I (i : Int), .sl [], I 0, encL (verts S F i), I 0]) S.length 0 (Nat.zero_le _) rfl (fun i hi s hJ => ?_) (fun s hJ => ?_)
   . subst hJ
     left
     refine ⟨[I ((i + 1 : Nat) : Int), .sl [], I 0, encL (verts S F (i + 1)), I 0], ?_, rfl⟩
     have hvl := verts_len S F i
     refine bind_eq (z := S.map encV) rfl (bind_eq b_lss (bind_eq tr_b (iteT (by show ((i : Int) < ((S.map encV).length : Int)); rw [mapV_len]; omega) ?_)))
     refine bind_eq (z := (0, [.sl [], I 0, encL (verts S F (i + 1)), I 0])) ?_ (bind_eq (b_add (inR_nat (i := i) (by omega))) rfl)
     refine lp_forA (fun k s => s = [.bool (inFac (F.take k) i), I (k : Int), .sl [], I 0, encL (verts S F i), I 0]) F.length 0 (Nat.zero_le _) rfl (fun k hk s hJ => ?_) (fun s hJ => ?_)
     . subst hJ
       left
       refine ⟨[.bool (inFac (F.take (k + 1)) i), I ((k + 1 : Nat) : Int), .sl [], I 0, encL (verts S F i), I 0], ?_, rfl⟩
       have hpk := hpl F[k] (List.getElem_mem hk)
       have e1 : inFac (F.take (k + 1)) i = (inFac (F.take k) i || F[k].2.any fun x => decide (x = i)) := by
         unfold inFac; rw [List.take_succ_eq_append_getElem hk, List.any_append]; simp
       refine bind_eq (z := encFL F) rfl (bind_eq b_lss (bind_eq tr_b (iteT (by show ((k : Int) < ((encFL F).length : Int)); rw [encFL_len]; omega) ?_)))
       have fp : ∀ {β : Type} {g : List D -> Option β} {y : β}, g (enumN F[k].2) = some y -> (Option.bind (D.asSl (.sl (encFL F))) fun l46 => Option.bind (D.idx (I (k : Int)) (List.length l46)) fun i47 => Option.bind (l46[i47]?) fun x48 => Option.bind (D.fld x48 2) fun x49 => Option.bind (D.asSl x49) g) = some y := fun h =>
         bind_eq (z := encFL F) rfl (bind_eq (z := k) (by rw [encFL_len]; exact idx_n hk) (bind_eq (encFL_get hk) (bind_eq (z := .sl (enumN F[k].2)) rfl (bind_eq (z := enumN F[k].2) rfl h))))
       rw [e1]
       generalize inFac (F.take k) i = b0
       obtain ⟨p, hp⟩ : ∃ p, F[k].2 = p := ⟨_, rfl⟩
       rw [hp] at hpk fp ⊢
       refine lp_forA (fun j s => s = [.bool (b0 || (p.take j).any fun x => decide (x = i)), I (j : Int), .sl [], I 0, encL (verts S F i), I 0]) p.length 0 (Nat.zero_le _) (by rw [List.take_zero, List.any_nil, Bool.or_false]; rfl) (fun j hj s hJ => ?_) (fun s hJ => ?_)
       . subst hJ
         left
         refine ⟨[.bool (b0 || (p.take (j + 1)).any fun x => decide (x = i)), I ((j + 1 : Nat) : Int), .sl [], I 0, encL (verts S F i), I 0], ?_, rfl⟩
         refine fp (bind_eq b_lss (bind_eq tr_b (iteT (by show ((j : Int) < ((enumN p).length : Int)); rw [enumN_len]; omega) (bind_eq tr_b (bind_eq (z := b0 || (p.take (j + 1)).any fun x => decide (x = i)) ?_ (bind_eq (b_add (inR_nat (i := j) (by omega))) rfl))))))
         rw [List.take_succ_eq_append_getElem hj, List.any_append]
         generalize (p.take j).any (fun x => decide (x = i)) = b1
         cases hb : (b0 || b1)
         . rw [<- Bool.or_assoc, hb, if_neg (by decide)]
           refine fp (bind_eq (z := j) (by rw [enumN_len]; exact idx_n hj) (bind_eq (enumN_getD hj) ?_))
           have : D.beq (I ((p.getD j 0 : Nat) : Int)) (I (i : Int)) = decide (p[j] = i) := by rw [beq_nat]; simp [List.getD, hj]
           show D.truth (D.bool (D.beq (I ((p.getD j 0 : Nat) : Int)) (I (i : Int)))) = _
           rw [this, tr_b]; simp
         . rw [<- Bool.or_assoc, hb]; rfl
       . subst hJ
         rw [List.take_length]
         refine ⟨(0, [.bool (b0 || p.any fun x => decide (x = i)), .sl [], I 0, encL (verts S F i), I 0]), fp (bind_eq b_lss (bind_eq tr_b (iteF (by show ¬ ((p.length : Int) < ((enumN p).length : Int)); rw [enumN_len]; omega) rfl))), ?_⟩
         exact bind_eq (b_add (inR_nat (i := k) (by omega))) rfl
     . subst hJ
       rw [List.take_length]
       refine ⟨(0, [.bool (inFac F i), .sl [], I 0, encL (verts S F i), I 0]), ?_, ?_⟩
       . exact bind_eq (z := encFL F) rfl (bind_eq b_lss (bind_eq tr_b (iteF (by show ¬ ((F.length : Int) < ((encFL F).length : Int)); rw [encFL_len]; omega) rfl)))
       . rw [verts_succ]
         refine bind_eq (z := inFac F i) tr_b ?_
         cases inFac F i
         . rfl
         . rw [if_pos rfl, if_pos rfl]
           refine bind_eq (z := S.map encV) rfl (bind_eq (z := i) (by rw [mapV_len]; exact idx_n hi) (bind_eq (getDL hi) ?_))
           rw [if_pos (by show ((verts S F i).map encV).length + 1 <= 1073741824; rw [mapV_len]; omega)]
           have : D.sl ((verts S F i).map encV ++ [encV (S.getD i V.zero)]) = encL (verts S F i ++ [pt S i]) := by simp [encL, pt]
           rw [<- this]; rfl
   . subst hJ
     refine ⟨(0, [.sl [], I 0, encL (verts S F S.length), I 0]), ?_, rfl⟩
     exact bind_eq (z := S.map encV) rfl (bind_eq b_lss (bind_eq tr_b (iteF (by show ¬ ((S.length : Int) < ((S.map encV).length : Int)); rw [mapV_len]; omega) rfl)))
theorem poly_len {l : List V} (hs : Srt l) {m : V} {d : Int} (hF : IsF (pt l) l.length m d) {p : List Nat} (hp : IsPoly (pt l) l.length m d p) : p.Nodup /\ p.length <= l.length /\ 0 < p.length /\ ∀ x ∈ p, x < l.length := by
 obtain ⟨p', hp', hnd, hmem⟩ := hF.poly hs
 have e := IsPoly.eq hs hF hp hp'
 subst e
 obtain ⟨a, _, ha, hea, _, _⟩ := hF.head hs
 have hm : a ∈ p := (hmem a).2 ⟨ha, hea⟩
 refine ⟨hnd, ?_, List.length_pos_iff.2 (fun e => by rw [e] at hm; cases hm), fun x hx => (mem_onPl.1 ((hmem x).1 hx).1).1⟩
 have := List.Nodup.length_le_of_subset (l₂ := List.range l.length) hnd fun x hx => List.mem_range.2 (mem_onPl.1 ((hmem x).1 hx).1).1
 simpa using this
theorem srtL_bd {l : List V} (hl : ∀ x ∈ l, bd MV x) : ∀ x ∈ srtL l, bd MV x := fun x hx => hl x (mem_srtL.1 hx)
theorem verts_sub (S : List V) (F : FL) : (verts S F S.length).Sublist S := by
 have h1 : ((List.range S.length).map (pt S)) = S := by
   apply List.ext_getElem?
   intro i
   by_cases h : i < S.length
   . rw [List.getElem?_map, List.getElem?_range h]; simp [pt, List.getD, h]
   . rw [List.getElem?_map, show (List.range S.length)[i]? = none by simp; omega]; simp; omega
 have h2 : (verts S F S.length).Sublist ((List.range S.length).map (pt S)) := List.Sublist.map _ List.filter_sublist
 rw [h1] at h2; exact h2
end Go.Proofs.YtjjjkojfijpeeaaGreat.Sy
end
section
set_option linter.unusedVariables false
namespace Go.Proofs.YtjjjkojfijpeeaaGreat.Sy
open Go Go.Proofs Go.Proofs.YtjjjkojfijpeeaaGreat.Geo
def errP (e : Int) : D := .tup [.st [.sl []], I e]
theorem c11_big (n : Nat) {l : List V} (h : 64 < l.length) : cA (n + 1) 11 [encL l] = some (errP 2) := by
 rw [u11]
 unfold F11
 exact bind_eq (z := l.map encV) rfl (bind_eq b_gtr (bind_eq tr_b (iteT (by show ((l.map encV).length : Int) > 64; rw [mapV_len]; omega) rfl)))
theorem in11 {p : V} {α : Type} {k : Nat × List D -> Option α} {y : α} (hy : k (if bd MV p then (1, [.sl []]) else (0, [I 1, .sl []])) = some y) :
   Option.bind (lpW (fun (v11 : List D) =>
 Option.bind (D.bin .lss (List.getD v11 0 (D.bool false)) (D.int .i64 3)) fun x12 =>
 Option.bind (D.truth x12) fun b13 =>
 if b13 then (Option.bind (D.idx (List.getD v11 0 (D.bool false)) 3) fun i14 =>
 Option.bind (D.fld (encV p) i14) fun x15 =>
 Option.bind (D.bin .gtr x15 (D.int .i64 262144)) fun x16 =>
 Option.bind (D.truth x16) fun b17 =>
 Option.bind (if b17 then (some true) else (Option.bind (D.bin .lss x15 (D.int .i64 (-262144))) fun x18 =>
 D.truth x18)) fun b19 =>
 Option.bind (D.truth (D.bool b19)) fun b20 =>
 if b20 then (some (Sum.inr (0, [(D.int .i64 1), (D.sl [])]))) else (Option.bind (D.bin .add (List.getD v11 0 (D.bool false)) (D.int .i64 1)) fun x21 =>
 some (Sum.inl [x21, (D.sl (D.els (List.getD v11 1 (D.bool false))))]))) else (some (Sum.inr (1, [(D.sl (D.els (List.getD v11 1 (D.bool false))))])))) [(D.int .i64 0), .sl []]) k = some y := by
 refine lp_forA (fun t s => s = [I (t : Int), .sl []] /\ ∀ t', t' < t -> ¬ (cmpn p t' > 262144) /\ ¬ (cmpn p t' < -262144)) 3 0 (by decide) ⟨rfl, fun t' h => by omega⟩ (fun t ht s hJ => ?_) (fun s hJ => ?_)
 . obtain ⟨rfl, hz⟩ := hJ
   have hf := fld_cmpn p ht
   have ix : D.idx (I (t : Int)) 3 = some t := idx_n ht
   have pre : ∀ z, (if decide (cmpn p t > 262144 \/ cmpn p t < -262144) = true then (some (Sum.inr (0, [(D.int .i64 1), (D.sl [])]))) else (Option.bind (D.bin .add (I (t : Int)) (D.int .i64 1)) fun x21 => some (Sum.inl [x21, .sl []]))) = some z -> _ := fun (z : Sum (List D) (Nat × List D)) hz' =>
     bind_eq (g := fun x12 => Option.bind (D.truth x12) fun b13 => if b13 then (Option.bind (D.idx (I (t : Int)) 3) fun i14 => Option.bind (D.fld (encV p) i14) fun x15 => Option.bind (D.bin .gtr x15 (D.int .i64 262144)) fun x16 => Option.bind (D.truth x16) fun b17 =>
       Option.bind (if b17 then (some true) else (Option.bind (D.bin .lss x15 (D.int .i64 (-262144))) fun x18 => D.truth x18)) fun b19 =>
       Option.bind (D.truth (D.bool b19)) fun b20 =>
       if b20 then (some (Sum.inr (0, [(D.int .i64 1), (D.sl [])]))) else (Option.bind (D.bin .add (I (t : Int)) (D.int .i64 1)) fun x21 => some (Sum.inl [x21, .sl []]))) else (some (Sum.inr (1, [.sl []]))))
       (b_lss (a := (t : Int)) (b := 3)) (y := z) (bind_eq tr_b (iteT (by omega) (bind_eq ix (bind_eq hf (bind_eq b_gtr (bind_eq tr_b (bind_eq (z := decide (cmpn p t > 262144 \/ cmpn p t < -262144)) (by
         by_cases h1 : cmpn p t > 262144
         . refine iteT h1 ?_
           rw [decide_eq_true (.inl h1)]
         . refine iteF h1 (bind_eq b_lss ?_)
           rw [tr_b]; congr 1; rw [decide_eq_decide]; exact ⟨.inr, fun h => h.resolve_left h1⟩) (bind_eq tr_b hz'))))))))
   by_cases hb : cmpn p t > 262144 \/ cmpn p t < -262144
   . right
     refine ⟨_, pre _ (iteT hb rfl), ?_⟩
     rw [if_neg (fun h => by have := bd_cmpn.1 h t ht; omega)] at hy
     exact hy
   . left
     refine ⟨[I ((t + 1 : Nat) : Int), .sl []], pre _ (iteF hb (bind_eq (b_add (inR_nat (i := t) (by omega))) rfl)), rfl, fun t' ht' => ?_⟩
     by_cases e : t' = t
     . subst e; omega
     . exact hz t' (by omega)
 . obtain ⟨rfl, hz⟩ := hJ
   refine ⟨(1, [.sl []]), bind_eq b_lss (bind_eq tr_b (iteF (by decide) rfl)), ?_⟩
   rw [if_pos (bd_cmpn.2 hz)] at hy
   exact hy
theorem c11_bad (n : Nat) {l : List V} (hlen : l.length <= 64) (hb : ¬ ∀ x ∈ l, bd MV x) : cA (n + 1) 11 [encL l] = some (errP 1) := by
 rw [u11]
 unfold F11
 refine bind_eq (z := l.map encV) rfl (bind_eq b_gtr (bind_eq tr_b (iteF (by show ¬ ((l.map encV).length : Int) > 64; rw [mapV_len]; omega) (bind_eq (z := l.map encV) rfl ?_))))
 refine lp_for (fun i s => s = [I (i : Int), .sl []] /\ ∀ x ∈ l.take i, bd MV x) l.length 0 (Nat.zero_le _) ⟨rfl, by simp⟩ (fun i hi s hJ => ?_) (fun s hJ => ?_)
 . obtain ⟨rfl, hz⟩ := hJ
   by_cases hx : bd MV (l.getD i V.zero)
   . left
     refine ⟨[I ((i + 1 : Nat) : Int), .sl []], ?_, rfl, fun x hx' => ?_⟩
     . refine bind_eq b_lss (bind_eq tr_b (iteT (by show ((i : Int) < ((l.map encV).length : Int)); rw [mapV_len]; omega) (bind_eq (z := l.map encV) rfl (bind_eq (z := i) (by rw [mapV_len]; exact idx_n hi) (bind_eq (getDL hi) (in11 ?_))))))
       rw [if_pos hx, if_neg (show ¬ (1 : Nat) = 0 by decide)]
       exact bind_eq (b_add (inR_nat (i := i) (by omega))) rfl
     . rw [List.take_succ_eq_append_getElem hi] at hx'
       rcases List.mem_append.1 hx' with h | h
       . exact hz x h
       . rw [List.mem_singleton.1 h]; simpa [List.getD, hi] using hx
   . right
     refine ⟨(0, [I 1, .sl []]), ?_, rfl⟩
     refine bind_eq b_lss (bind_eq tr_b (iteT (by show ((i : Int) < ((l.map encV).length : Int)); rw [mapV_len]; omega) (bind_eq (z := l.map encV) rfl (bind_eq (z := i) (by rw [mapV_len]; exact idx_n hi) (bind_eq (getDL hi) (in11 ?_))))))
     rw [if_neg hx]; rfl
 . obtain ⟨rfl, hz⟩ := hJ
   rw [List.take_length] at hz
   exact absurd hz hb
end Go.Proofs.YtjjjkojfijpeeaaGreat.Sy
end
section
set_option linter.unusedVariables false
namespace Go.Proofs.YtjjjkojfijpeeaaGreat.Sy
open Go Go.Proofs Go.Proofs.YtjjjkojfijpeeaaGreat.Geo
def flg (g : Nat -> Bool) (N : Nat) : List D := (List.range N).map fun i => D.bool (g i)
theorem flg_len (g : Nat -> Bool) (N : Nat) : (flg g N).length = N := by simp [flg]
theorem flg_get {g : Nat -> Bool} {N i : Nat} (h : i < N) : (flg g N)[i]? = some (.bool (g i)) := by simp [flg, h]
theorem flg_set {g : Nat -> Bool} {N a : Nat} : (flg g N).set a (.bool true) = flg (fun i => g i || decide (a = i)) N := by
 apply List.ext_getElem?
 intro i
 rw [List.getElem?_set]
 rcases Nat.lt_or_ge i N with h | h
 . rw [flg_get h, flg_get h, flg_len]
   by_cases e : a = i
   . subst e; rw [if_pos rfl, if_pos h]; simp
   . rw [if_neg e]; simp [e]
 . rw [List.getElem?_eq_none (by rw [flg_len]; exact h), List.getElem?_eq_none (by rw [flg_len]; exact h)]
   split
   . rw [if_neg (by rw [flg_len]; omega)]
   . rfl
theorem flg_congr {g g' : Nat -> Bool} {N : Nat} (h : ∀ i, g i = g' i) : flg g N = flg g' N := by rw [show g = g' from funext h]
theorem flg_zero (N : Nat) : flg (fun _ => false) N = List.replicate N (D.bool false) := by
 unfold flg
 apply List.ext_getElem?
 intro i
 rcases Nat.lt_or_ge i N with h | h
 . simp [h]
 . simp [h]
def hullP (S : List V) (F : FL) : D := if F.length < 4 then errP 120 else if F.length > 64 then errP 2 else .tup [.st [encL (verts S F S.length)], I 0]
theorem c11_good (n : Nat) {l S : List V} (hlen : l.length <= 64) (hl : ∀ x ∈ l, bd MV x) (hSl : S.length <= 64) {F : FL} (hpl : ∀ f ∈ F, f.2.length <= 1000000 /\ ∀ x ∈ f.2, x < S.length) (hFl : F.length <= 3000000) (h44 : cA n 44 [encL l] = some (encL S))
   (h45 : cA n 45 [encL S] = some (.sl (F.map fun f => encP f.1))) (h46 : ∀ f ∈ F, cA n 46 [encL S, encP f.1] = some (.sl (enumN f.2))) : cA (n + 1) 11 [encL l] = some (hullP S F) := by
 rw [u11]
 unfold F11
 have ll : (F.map fun f => encP f.1).length = F.length := List.length_map ..
 refine bind_eq (z := l.map encV) rfl (bind_eq b_gtr (bind_eq tr_b (iteF (by show ¬ ((l.map encV).length : Int) > 64; rw [mapV_len]; omega) (bind_eq (z := l.map encV) rfl ?_))))
 refine lp_for (fun i s => s = [I (i : Int), .sl []]) l.length 0 (Nat.zero_le _) rfl (fun i hi s hJ => ?_) (fun s hJ => ?_)
 . subst hJ
   left
   refine ⟨[I ((i + 1 : Nat) : Int), .sl []], ?_, rfl⟩
   refine bind_eq b_lss (bind_eq tr_b (iteT (by show ((i : Int) < ((l.map encV).length : Int)); rw [mapV_len]; omega) (bind_eq (z := l.map encV) rfl (bind_eq (z := i) (by rw [mapV_len]; exact idx_n hi) (bind_eq (getDL hi) (in11 ?_))))))
   have hx : bd MV (l.getD i V.zero) := hl _ (memD hi)
   rw [if_pos hx, if_neg (show ¬ (1 : Nat) = 0 by decide)]
   exact bind_eq (b_add (inR_nat (i := i) (by omega))) rfl
 . subst hJ
   refine ⟨(1, [.sl []]), bind_eq b_lss (bind_eq tr_b (iteF (by show ¬ ((l.length : Int) < ((l.map encV).length : Int)); rw [mapV_len]; omega) rfl)), ?_⟩
   rw [if_neg (show ¬ (1 : Nat) = 0 by decide)]
   refine bind_eq h44 (bind_eq h45 (bind_eq (z := F.map fun f => encP f.1) rfl (bind_eq b_lss (bind_eq tr_b ?_))))
   unfold hullP
   by_cases h4 : F.length < 4
   . refine iteT (by rw [ll]; omega) ?_
     rw [if_pos h4]; rfl
   refine iteF (by rw [ll]; omega) (bind_eq (z := F.map fun f => encP f.1) rfl (bind_eq b_gtr (bind_eq tr_b ?_)))
   rw [if_neg h4]
   by_cases h64 : F.length > 64
   . refine iteT (by rw [ll]; omega) ?_
     rw [if_pos h64]; rfl
   refine iteF (by rw [ll]; omega) (bind_eq (z := S.map encV) rfl (bind_eq (z := S.length) (by rw [mapV_len]; simp [D.natOf]) ?_))
   rw [if_neg h64, if_pos (by omega)]
   refine bind_eq (z := F.map fun f => encP f.1) rfl ?_
   refine lp_forA (fun k s => s = [I (k : Int), .sl [], .sl (flg (inFac (F.take k)) S.length)]) F.length 0 (Nat.zero_le _) ?_ (fun k hk s hJ => ?_) (fun s hJ => ?_)
   . rw [show flg (inFac (F.take 0)) S.length = List.replicate S.length (D.bool false) from flg_zero S.length]; rfl
   . subst hJ
     left
     refine ⟨[I ((k + 1 : Nat) : Int), .sl [], .sl (flg (inFac (F.take (k + 1))) S.length)], ?_, rfl⟩
     obtain ⟨hp1, hp2⟩ := hpl F[k] (List.getElem_mem hk)
     have e1 : ∀ i, inFac (F.take (k + 1)) i = (inFac (F.take k) i || F[k].2.any fun x => decide (x = i)) := fun i => by
       unfold inFac; rw [List.take_succ_eq_append_getElem hk, List.any_append]; simp
     refine bind_eq b_lss (bind_eq tr_b (iteT (by show ((k : Int) < ((F.map fun f => encP f.1).length : Int)); rw [ll]; omega) ?_))
     have hg : (F.map fun f => encP f.1)[k]? = some (encP F[k].1) := by simp [hk]
     refine bind_eq (z := F.map fun f => encP f.1) rfl (bind_eq (z := k) (by rw [ll]; exact idx_n hk) (bind_eq hg (bind_eq (h46 F[k] (List.getElem_mem hk)) (bind_eq (z := enumN F[k].2) rfl ?_))))
     rw [flg_congr e1]
     generalize inFac (F.take k) = g0
     obtain ⟨p, hp⟩ : ∃ p, F[k].2 = p := ⟨_, rfl⟩
     rw [hp] at hp1 hp2 ⊢
     refine lp_forA (fun j s => s = [I (j : Int), .sl [], .sl (flg (fun i => g0 i || (p.take j).any fun x => decide (x = i)) S.length)]) p.length 0 (Nat.zero_le _) (by rw [show flg (fun i => g0 i || (p.take 0).any fun x => decide (x = i)) S.length = flg g0 S.length from flg_congr fun i => by simp]; rfl) (fun j hj s hJ => ?_) (fun s hJ => ?_)
     . subst hJ
       left
       refine ⟨[I ((j + 1 : Nat) : Int), .sl [], .sl (flg (fun i => g0 i || (p.take (j + 1)).any fun x => decide (x = i)) S.length)], ?_, rfl⟩
       have hpj := hp2 p[j] (List.getElem_mem hj)
       have hD : p.getD j 0 = p[j] := by simp [List.getD, hj]
       refine bind_eq b_lss (bind_eq tr_b (iteT (by show ((j : Int) < ((enumN p).length : Int)); rw [enumN_len]; omega) (bind_eq (z := enumN p) rfl (bind_eq (z := j) (by rw [enumN_len]; exact idx_n hj) (bind_eq (enumN_getD hj) ?_)))))
       rw [hD]
       refine bind_eq (z := p[j]) (by show D.idx (I (p[j] : Int)) (flg _ S.length).length = _; rw [flg_len]; exact idx_n hpj) (bind_eq (flg_get hpj) (bind_eq (b_add (inR_nat (i := j) (by omega))) ?_))
       have : (flg (fun i => g0 i || (p.take j).any fun x => decide (x = i)) S.length).set p[j] (D.bool true) = flg (fun i => g0 i || (p.take (j + 1)).any fun x => decide (x = i)) S.length := by
         rw [flg_set]
         refine flg_congr fun i => ?_
         rw [List.take_succ_eq_append_getElem hj, List.any_append]
         simp [Bool.or_assoc]
       rw [<- this]; rfl
     . subst hJ
       rw [List.take_length]
       refine ⟨(0, [.sl [], .sl (flg (fun i => g0 i || p.any fun x => decide (x = i)) S.length)]), bind_eq b_lss (bind_eq tr_b (iteF (by show ¬ ((p.length : Int) < ((enumN p).length : Int)); rw [enumN_len]; omega) rfl)), ?_⟩
       exact bind_eq (b_add (inR_nat (i := k) (by omega))) rfl
   . subst hJ
     rw [List.take_length]
     refine ⟨(0, [.sl [], .sl (flg (inFac F) S.length)]), bind_eq b_lss (bind_eq tr_b (iteF (by show ¬ ((F.length : Int) < ((F.map fun f => encP f.1).length : Int)); rw [ll]; omega) rfl)), ?_⟩
     refine bind_eq (z := S.map encV) rfl ?_
     refine lp_forA (fun i s => s = [I (i : Int), .sl [], .sl (flg (inFac F) S.length), encL (verts S F i)]) S.length 0 (Nat.zero_le _) rfl (fun i hi s hJ => ?_) (fun s hJ => ?_)
     . subst hJ
       left
       refine ⟨[I ((i + 1 : Nat) : Int), .sl [], .sl (flg (inFac F) S.length), encL (verts S F (i + 1))], ?_, rfl⟩
       have hvl := verts_len S F i
       refine bind_eq b_lss (bind_eq tr_b (iteT (by show ((i : Int) < ((S.map encV).length : Int)); rw [mapV_len]; omega) ?_))
       refine bind_eq (z := (0, [.sl [], .sl (flg (inFac F) S.length), encL (verts S F (i + 1))])) ?_ (bind_eq (b_add (inR_nat (i := i) (by omega))) rfl)
       refine bind_eq (z := S.map encV) rfl (bind_eq (z := i) (by rw [mapV_len]; exact idx_n hi) (bind_eq (getDL hi) (bind_eq (z := i) (by show D.idx (I (i : Int)) (flg _ S.length).length = _; rw [flg_len]; exact idx_n hi) (bind_eq (flg_get hi) (bind_eq tr_b ?_)))))
       rw [verts_succ]
       cases inFac F i
       . rfl
       . rw [if_pos rfl, if_pos rfl]
         rw [if_pos (by show ((verts S F i).map encV).length + 1 <= 1073741824; rw [mapV_len]; omega)]
         have : D.sl ((verts S F i).map encV ++ [encV (S.getD i V.zero)]) = encL (verts S F i ++ [pt S i]) := by simp [encL, pt]
         rw [<- this]; rfl
     . subst hJ
       refine ⟨(0, [.sl [], encL (verts S F S.length)]), ?_, rfl⟩
       exact bind_eq b_lss (bind_eq tr_b (iteF (by show ¬ ((S.length : Int) < ((S.map encV).length : Int)); rw [mapV_len]; omega) rfl))
end Go.Proofs.YtjjjkojfijpeeaaGreat.Sy
end
