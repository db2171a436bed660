/- HullFacetsMatchSpec answers true at every input, and the input reads afterwards as it read before (HullFacetsMatchSpecSaid). No condition. -/
import Derived.Test.YtjjjkojfijpeeaaGreatFacets02
import Derived.Test.YtjjjkojfijpeeaaGreatFacets11
import Derived.Test.YtjjjkojfijpeeaaGreatFacets14
import Derived.Test.YtjjjkojfijpeeaaGreatRows
import Derived.ProofKit
set_option linter.unusedVariables false
set_option linter.unusedSimpArgs false
set_option linter.unnecessarySimpa false
section
/- Sy: the entry of hull.sorted. -/
set_option linter.unusedVariables false
namespace Go.Proofs.YtjjjkojfijpeeaaGreat.Sy
open Go Go.Proofs Go.Sort Go.Lib
theorem fn95 : ∃ fn, Tryz.prog.funcs[95]? = some fn ∧ (fn.name == "runtime.NumGoroutine") = false ∧ fn.body.isSome = true := fnOf (by kernel_rfl)
theorem hv0_93 {lp : Lp} {call : Nat → List D → Option D} {l : List D} : ev (envQ lp call) (sq1 (bodyOf Tryz.f93)) .leaf D (dS 4 [] (fun i => if i = 0 then .d (.sl K1) (.sl l) else .undef)) (kBoxT (.sl K1) 1) = some (.sl l) := by kernel_rfl
theorem L44 {lp : Lp} (hlp : LpOk lp) : leafOk 44 (spec44 lp) := by
  intro call hc ptys rty' xs y hs hy hw
  have : sigF 44 = some ([K2], K2) := by kernel_rfl
  rw [this] at hs; cases hs
  obtain ⟨a0, l0, rfl, hwa, hl0⟩ := hw
  have hl0' : l0 = [] := hl0
  subst hl0'
  obtain ⟨l, rfl, hwt⟩ := hwa
  simp only [spec44] at hy
  split at hy <;> first | (cases hy; done) | skip
  rename_i hlen
  have hlen : l.length ≤ 1073741824 := by simpa using hlen
  obtain ⟨l', hsd, h95⟩ := bind_some_inv hy
  have hE : EnvOk Tryz.prog (envQ lp call) := envP hlp hc
  have hperm : l'.Perm l := by
    unfold sortD at hsd
    split at hsd
    · cases hsd; exact sortL_perm _ l
    · cases hsd
  intro w S vs hS _ hlv hvs
  obtain ⟨v0, rfl⟩ : ∃ v0, vs = [v0] := by
    match vs, hlv with
    | [v], _ => exact ⟨v, rfl⟩
  have hv0 := hvs 0 _ v0 rfl rfl
  have s94 : (envQ lp call).sig 94 = some ([K1, K1], .int .i64) := by kernel_rfl
  have s95 : (envQ lp call).sig 95 = some ([K2], K2) := by kernel_rfl
  have wt' : wts [K2] [.sl l'] := ⟨.sl l', [], rfl, ⟨l', rfl, fun x hx => hwt x (hperm.subset hx)⟩, rfl⟩
  refine sorted_gen (f := 44) (f93 := 93) (f92 := 92) (f95 := 95) (g := 94) (fn := Tryz.f44) (K1 := ValsRes w S l 151) (K2 := fun v w2 => ∃ S', Ext (rootOf w S) w2 ∧ DR0 w2 S' (.sl l') v ∧ (∀ b o, S' b o → b < w2.heap.size) ∧ (∀ b o, S' b o → b < w.heap.size → S b o))
    (K3 := fun v w' => (∃ os d, w.drawn ≤ d ∧ w' = grown w os d) ∧ wt K2 y ∧ DR w' (fun b o => S b o ∨ (w.heap.size ≤ b ∧ b < w'.heap.size)) y v) (by kernel_rfl) rfl rfl rfl rfl rfl rfl fn93 fn92 fn95 ?_ ?_ ?_
  · exact values_gen hE (e := K1) rfl hwt (fn := Tryz.f93) (by kernel_rfl) rfl rfl rfl rfl hv0_93 hS hv0
  · rintro v w1 ⟨B, S1, sv, rfl, hX, hcell, hB, hcr, hSb, hSo⟩
    have hIt : ItOk Tryz.prog (rootOf w1 S1) K1 l 151 #[.pointer (some ⟨B, 0, none⟩)] := vals151 hE hwt hlen hSb (fun W hW => by
      have := hW.old B ⟨hB, fun hf => hf⟩
      simp only [World.cell?, this]
      exact hcell) hcr
    have hx1 : Ext (rootOf w1 S1) w1 := ⟨rfl, rfl, rfl, Nat.le_refl _, Nat.le_refl _, fun _ _ => rfl⟩
    refine (sortedFunc_gen (r := rootOf w1 S1) hE sortOk_V (g := 94) s94 hlen hsd (f := 92) (f149 := 149) (fn := Tryz.f92) (by kernel_rfl) rfl rfl rfl rfl rfl rfl rfl fn149 (collect149 hE hwt hlen hIt hx1)).mono ?_
    rintro en w2 ⟨v, rfl, S', q1, q2, q3, q4⟩
    refine ⟨v, rfl, S', hX.trans q1, q2, q3, fun b o hb hlt => ?_⟩
    have h1 : b < w1.heap.size := Nat.lt_of_lt_of_le hlt hX.sz
    exact hSo b o (q4 b o hb ⟨h1, fun hf => hf⟩) hlt
  · rintro v w2 ⟨S', q1, q2, q3, q4⟩
    refine (hE.call 95 [K2] K2 [.sl l'] y s95 h95 wt' w2 S' [v] q3 wt' rfl (fun i x u hx hu => by
      cases i with
      | zero => simp at hx hu; subst hx; subst hu; exact q2
      | succ i => simp at hx)).mono ?_
    rintro en w3 ⟨u, rfl, ⟨os, d, hd, rfl⟩, k1, k2⟩
    refine ⟨u, rfl, ?_, k1, k2.mono (fun _ _ _ => rfl) fun b o hb => ?_⟩
    · obtain ⟨os1, d1, h1, rfl⟩ := grown_of_ext q1 (fun _ hf => hf)
      refine ⟨os1 ++ os, d, Nat.le_trans h1 (by simpa [grown] using hd), ?_⟩
      simp [grown, Array.append_assoc, rootOf]
    · rcases hb with hb | ⟨hb1, hb2⟩
      · rcases Nat.lt_or_ge b w.heap.size with hlt | hge
        · exact .inl (q4 b o hb hlt)
        · exact .inr ⟨hge, Nat.lt_of_lt_of_le (q3 b o hb) (by simp [grown])⟩
      · exact .inr ⟨Nat.le_trans q1.sz hb1, hb2⟩
end Go.Proofs.YtjjjkojfijpeeaaGreat.Sy
end
section
/- The law about a hull's facets: it answers true at whatever lists of points (the contract of HullFacetsMatchSpec). -/
namespace Go.Proofs.YtjjjkojfijpeeaaGreat.Sy
open Go Go.Proofs Go.Proofs.YtjjjkojfijpeeaaGreat.Geo
noncomputable def callM (f : Nat) (xs : List D) : Option D := if f = 10 then callA (itN 2000) 20 10 xs else cA 10 f xs
theorem callM_ok : CallOk Tryz.prog callM := by
  intro f ptys rty xs y hs hy hw
  unfold callM at hy
  split at hy
  · rename_i hf
    subst hf
    exact callA_ok (lpOk_iter 2000) (L44 (lpOk_iter 2000)) 20 10 ptys rty xs y hs hy hw
  · exact callA_ok lpOk_loopW (L44 lpOk_loopW) 10 f ptys rty xs y hs hy hw
theorem sig4 : sigF 4 = some ([K3], .bool) := by kernel_rfl
theorem wt_K1 {d : D} (h : wt K1 d) : ∃ v : V, d = encV v := by
  obtain ⟨l, rfl, hl, h⟩ := h
  match l, hl with
  | [a, b, c], _ =>
    obtain ⟨x, rfl⟩ := h a (by simp)
    obtain ⟨y, rfl⟩ := h b (by simp)
    obtain ⟨z, rfl⟩ := h c (by simp)
    exact ⟨⟨x, y, z⟩, rfl⟩
theorem wt_K2 {d : D} (h : wt K2 d) : ∃ l : List V, d = encL l := by
  obtain ⟨l, rfl, h⟩ := h
  have key : ∀ l : List D, (∀ x ∈ l, wt K1 x) → ∃ m : List V, l = m.map encV := by
    intro l
    induction l with
    | nil => intro _; exact ⟨[], rfl⟩
    | cons x l ih =>
      intro h
      obtain ⟨v, rfl⟩ := wt_K1 (h x (by simp))
      obtain ⟨m, rfl⟩ := ih fun y hy => h y (by simp [hy])
      exact ⟨v :: m, rfl⟩
  obtain ⟨m, rfl⟩ := key l h
  exact ⟨m, rfl⟩
theorem wt_K3 {d : D} (h : wt K3 d) : ∃ l : List V, d = encC l := by
  obtain ⟨l, rfl, d, l', rfl, h1, h2⟩ := h
  have h2' : l' = [] := h2
  subst h2'
  obtain ⟨m, rfl⟩ := wt_K2 h1
  exact ⟨m, rfl⟩
theorem ctr4 {d : D} (h : wt K3 d) : Ctr Tryz.prog [K3] .bool 4 [d] (.bool true) := by
  obtain ⟨l, rfl⟩ := wt_K3 h
  refine L4 lpOk_loopW callM callM_ok [K3] .bool [encC l] (.bool true) sig4 ?_ ⟨_, [], rfl, h, rfl⟩
  exact law4 0 l (fun f xs hf => by unfold callM; rw [if_neg hf]) (by unfold callM; rw [if_pos rfl]; exact sanity_val)
end Go.Proofs.YtjjjkojfijpeeaaGreat.Sy
end
section
/- HullFacetsMatchSpec answers true at every input, and the input reads afterwards as it read before. No condition. -/
namespace Go.Proofs.YtjjjkojfijpeeaaGreat
open Go Go.ChangeShapes Go.WideShapes Go.ChangeAt Go.RowKit
namespace Sy
theorem lay25 : layB Tryz.prog K3 25 = true := by kernel_rfl
theorem under4 : Tryz.prog.underlying 4 = some .bool := by kernel_rfl
theorem DR0_of {W : World} {S : Nat → Nat → Prop} {d : D} {cs : Array Value} (h : wt K3 d) (k : CRl W S d.flat (Value.agg cs).cells.toList) : DR0 W S d (.agg cs) := by
  obtain ⟨l, rfl, _⟩ := h
  exact ⟨⟨_, rfl⟩, k⟩
theorem bool_of {W : World} {S : Nat → Nat → Prop} {b : Bool} {v : Value} (h : DR W S (.bool b) v) : v = .bool b := by
  obtain ⟨h1, h2⟩ := (h : DR0 W S (.bool b) v)
  have h3 := (CRl_leaf (by intro d hd; simp only [D.flat, List.mem_singleton] at hd; subst hd; rfl)).1 h2
  exact cells_single h1 (by simpa [D.flat, valOf] using h3)
theorem agg_of {P : Program} {ts : List Ty} {t : TypeId} (hl : layB P (.st ts) t = true) {W : World} {base : Nat} {v : Value} (h : Value.okWide P W .any base t v) : ∃ cs, v = .agg cs := by
  obtain ⟨fs, hu, _⟩ := lay_st hl
  obtain ⟨cs, h1, _⟩ := okWide_struct hu h
  exact ⟨cs, h1⟩
end Sy
theorem ownT : ownKnob Tryz.prog.godebug = none := by kernel_rfl
theorem laidOutT : laidOutB Tryz.prog = true := by kernel_rfl
theorem params4T : Tryz.f4.params = #[25] := by kernel_rfl
set_option maxRecDepth 100000 in
theorem facets_lifted (os : Os) (started : os.Started) (H : Type) (enc : TypeId × Value → H) :
    ReturnsInHanded {} Tryz.checked os 4 .any (Rows.hullFacetsMatchSpecSpec.pre6 enc Tryz.prog Tryz.f4 Rows.hullFacetsMatchSpecRow.domain false) (Rows.hullFacetsMatchSpecSpec.post enc Tryz.prog Tryz.f4 false true false false) := by
  refine returnsInHanded_of_change (C := Tryz.checked) ownT started (by kernel_rfl) (show Tryz.prog.funcs[4]? = some Tryz.f4 by kernel_rfl)
    (ChangeSpec.witness6 (enc := enc) (C := Tryz.checked) false ⟨#[], #[.agg #[.slice none 0 0]], []⟩ 8 (by kernel_rfl) (by kernel_rfl) (by kernel_rfl) (by kernel_rfl)) ?_
  intro W base args ds gs before hval0 hW hcnd _
  have hval : ∀ (j : Nat) t v, Tryz.f4.params[j]? = some t → args[j]? = some v → Value.okWide Tryz.prog W .any base t v := hval0
  have hW' := hW
  obtain ⟨p, q, hA0, hV, rfl, hfz, hnd⟩ := hW
  have hA : DataW.TrodAll enc Tryz.prog W 0 (fun _ => true) true Tryz.f4.params.toList args.toList ds p := hA0
  rw [params4T] at hA hval
  obtain ⟨v0, d0, rfl, rfl, h0⟩ := trodAll_one hA
  obtain ⟨rfl, rfl⟩ := trodVars_none hV
  clear hA0 hval0
  obtain ⟨cs, rfl⟩ : ∃ cs, v0 = .agg cs := Sy.agg_of (P := Tryz.prog) (t := 25) Sy.lay25 (hval 0 25 v0 rfl rfl)
  have h0' := h0
  obtain ⟨fuel, hf⟩ := h0
  obtain ⟨d, hd1, hd2⟩ := Sy.trod_CR (W := W) Sy.K3 25 fuel _ _ Sy.lay25 (by rfl) hf
  have hctr := Sy.ctr4 hd1 W (Sy.valid W) [.agg cs] (fun _ _ h => Sy.valid_lt h) ⟨_, [], rfl, hd1, rfl⟩ rfl (fun i x v hx hv => by
    cases i with
    | zero => simp at hx hv; subst hx; subst hv; exact Sy.DR0_of hd1 hd2
    | succ i => simp at hx)
  refine Go.Calls.mono hctr fun e W' he => ?_
  obtain ⟨v, rfl, ⟨os', dr, hdr, rfl⟩, _, hv⟩ := he
  have hv' : v = .bool true := Sy.bool_of hv
  subst hv'
  have hb : Below W.heap.size W (grown W os' dr) := ⟨rfl, rfl, rfl, by simp [grown], fun k hk => grown_heap_old W os' dr hk⟩
  have hlt : ∀ x ∈ p, x.block < W.heap.size := fun x hx => by simpa using hW'.lt x (by simpa using hx)
  exact ⟨_, rfl, _, _, _, [], p, [], hW', trodAll_mk1 ((Go.RowKit.shut_bool (P := Tryz.prog) Sy.under4 true)), trodAll_mk1 (Below.trod laidOutT (by kernel_rfl) (of_decide_eq_true (by kernel_rfl)) h0' hb hlt), rfl, hb.frame _, fun h => by cases h⟩
theorem hullFacetsMatchSpec_holds : Rows.HullFacetsMatchSpecSaid :=
  OpenClaim.holds_of_wide 4 Tryz.f4 rfl rfl rfl rfl rfl rfl rfl ⟨rfl, rfl, rfl, rfl, rfl⟩ rfl rfl rfl rfl rfl (by kernel_rfl) (show Tryz.prog.funcs[4]? = some Tryz.f4 by kernel_rfl) (by kernel_rfl)
    (of_decide_eq_true (by kernel_rfl)) (by unfold Func.isWrapper; first | (rw [if_pos (by decide +kernel)]; kernel_rfl) | (rw [if_neg (by decide +kernel)]; exact ⟨rfl, rfl⟩))
    (fun os started H enc _ => facets_lifted os started H enc)
end Go.Proofs.YtjjjkojfijpeeaaGreat
end
