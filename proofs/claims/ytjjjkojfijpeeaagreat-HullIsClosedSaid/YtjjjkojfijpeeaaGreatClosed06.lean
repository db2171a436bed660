/- Part 6 of the proof that HullIsClosed answers true at every input -/
import Derived.Test.YtjjjkojfijpeeaaGreatClosed01
import Derived.Test.YtjjjkojfijpeeaaGreatClosed05
import Derived.Test.YtjjjkojfijpeeaaGreatProg
import Derived.KernelRfl
set_option linter.unusedVariables false
set_option linter.unusedSimpArgs false
set_option linter.unnecessarySimpa false
section
namespace Go.Proofs.YtjjjkojfijpeeaaGreat.Sy
open Go
variable {ro : Option Nat} {nn : Nat}
def slotToks (s : St) : List Nat := (List.range s.nt).filterMap fun t => match s.tm t with | .own _ v _ => if s.dead.contains v then none else some v | _ => none
def likeOb : Option Ob -> Option Ob -> Bool
 | some (.one t _), some (.one t' _) => t.beq t'
 | some (.many t _), some (.many t' _) => t.beq t'
 | some (.mp kt vt _), some (.mp kt' vt' _) => kt.beq kt' && vt.beq vt'
 | _, none => true
 | _, _ => false
def ptrOk (ob ob' : Nat -> Option Ob) : AV -> Bool
 | .ptr _ id _ => likeOb (ob id) (ob' id)
 | _ => false
def reAV (s sc : St) (n : Nat) (tk : List Nat) : AV -> AV
 | .d t x => .d t x
 | .own t v l => if s.dead.contains v then .d (.sl t) (.sl l) else .own t (n + tk.idxOf v) l
 | .nils => .nils
 | .ptr t id p => if likeOb (s.ob id) (sc.ob id) then .ptr t id p else .undef
 | .fptr t x => .fptr t x
 | .clo f l => if l.all (ptrOk s.ob sc.ob) then .clo f l else .undef
 | _ => .undef
def into (s : St) (nt : Nat) (avs : List AV) : St := { tm := fun i => avs.getD i .undef, ob := s.ob, fresh := s.fresh + 1, dead := slotToks s ++ s.dead, nt := nt, lkS := [], lkO := s.lkO }
def back (s sc : St) : St := { tm := fun i => if i < s.nt then reAV s sc ((sc.fresh + 1) * 4096) (slotToks s) (s.tm i) else .undef, ob := sc.ob, fresh := sc.fresh + 1, dead := sc.dead, nt := s.nt, lkS := s.lkS, lkO := s.lkO }
def inlG (E : Env) (fn : Func) (rty : Ty) (ann : Ann) (R : Type) (s : St) (avs : List AV) (K : AV -> St -> Option R) : Option R :=
 match fn.body with
 | none => none
 | some c => if avs.length <= fn.ntmps /\ (slotToks s).length <= 4096 then ev E c ann R (into s fn.ntmps avs) fun e sc => match e with
     | .exit _ => none
     | _ => (results E sc rty fn.results.toList).bind fun y => K (.d rty y) (back s sc)
   else none
section
variable {P : Program} {E : Env} {w0 : Root} {S S' : Nat -> Nat -> Prop} {γ γ' : Nat -> Option Nat} {β β' β'' : Nat -> Option (Nat × Nat)} {s sc : St} {a : Act} {w w' : World}
theorem likeOb_spec {o' : Ob} {x : Option Ob} (h : likeOb x (some o') = true) : ∃ o, x = some o /\ ∀ p, obTy o' p = obTy o p /\ obOff o' p = obOff o p := by
 cases x with
 | none => simp [likeOb] at h
 | some o =>
   refine ⟨o, rfl, fun p => ?_⟩
   cases o <;> cases o' <;> simp only [likeOb] at h <;> first | (cases h; done) | skip
   . have := Ty.eq_of_beq _ _ h; subst this; exact ⟨rfl, rfl⟩
   . have := Ty.eq_of_beq _ _ h; subst this; cases p <;> exact ⟨rfl, rfl⟩
   . exact ⟨rfl, rfl⟩
theorem slotToks_mem {v : Nat} (h : v ∈ slotToks s) : v ∉ s.dead /\ ∃ t ty l, t < s.nt /\ s.tm t = .own ty v l := by
 unfold slotToks at h
 obtain ⟨t, h1, h2⟩ := List.mem_filterMap.1 h
 split at h2 <;> first | (cases h2; done) | skip
 rename_i ty u l ht
 split at h2 <;> first | (cases h2; done) | skip
 rename_i hd
 cases h2
 exact ⟨by simpa using hd, t, ty, l, List.mem_range.1 h1, ht⟩
theorem mem_slotToks {v t : Nat} {ty : Ty} {l : List D} (h1 : t < s.nt) (h2 : s.tm t = .own ty v l) (h3 : v ∉ s.dead) : v ∈ slotToks s := by
 unfold slotToks
 refine List.mem_filterMap.2 ⟨t, List.mem_range.2 h1, ?_⟩
 rw [h2]
 simp [h3]
theorem ptr_back {t : Ty} {id : Nat} {p : List Nat} {cs : List Value} {dead dead' : List Nat} (hg : ∀ id b, γ id = some b -> γ' id = some b) (hl : likeOb (s.ob id) (sc.ob id) = true) (h : AC ⟨w, S, γ, β, s.ob, dead⟩ (.ptr t id p) cs) : AC ⟨w', S', γ', β'', sc.ob, dead'⟩ (.ptr t id p) cs := by
 simp only [AC] at h ⊢
 obtain ⟨b, off, e, k1, k2⟩ := h
 refine ⟨b, off, e, hg _ _ k1, fun o ho => ?_⟩
 rw [ho] at hl
 obtain ⟨o0, q1, q2⟩ := likeOb_spec (o' := o) hl
 obtain ⟨q3, q4⟩ := q2 p
 obtain ⟨q5, q6⟩ := k2 o0 q1
 rw [q3, q4]; exact ⟨q5, q6⟩
theorem ptrs_back {dead dead' : List Nat} (hg : ∀ id b, γ id = some b -> γ' id = some b) : ∀ (l : List AV) (cs : List Value), l.all (ptrOk s.ob sc.ob) = true -> ACc ⟨w, S, γ, β, s.ob, dead⟩ l cs -> ACc ⟨w', S', γ', β'', sc.ob, dead'⟩ l cs
 | [], cs, _, h => by simpa only [ACc] using h
 | x :: l, cs, hp, h => by
   simp only [List.all_cons, Bool.and_eq_true] at hp
   simp only [ACc] at h ⊢
   obtain ⟨v, c2, rfl, k1, k2⟩ := h
   refine ⟨v, c2, rfl, ?_, ptrs_back hg l c2 hp.2 k2⟩
   cases x <;> simp only [ptrOk] at hp <;> first | (cases hp.1; done) | skip
   exact ptr_back hg hp.1 k1
theorem reAV_ok {n : Nat} {tk : List Nat} (hcell : ∀ b o, S b o -> w'.cell? ⟨b, o, none⟩ = w.cell? ⟨b, o, none⟩) (hsub : ∀ b o, S b o -> S' b o) (hg : ∀ id b, γ id = some b -> γ' id = some b)
   {x : AV} {v : Value} (htok : ∀ t u l, x = .own t u l -> u ∉ s.dead -> u ∈ tk /\ β'' (n + tk.idxOf u) = β u /\ ∀ b e, β u = some (b, e) -> ∀ m, rsz w b = some m -> rsz w' b = some m)
   (h : AR ⟨w, S, γ, β, s.ob, s.dead⟩ x v) : AR ⟨w', S', γ', β'', sc.ob, sc.dead⟩ (reAV s sc n tk x) v := by
 cases x with
 | d t y => exact still_AR (c := ⟨w, S, γ, β, s.ob, s.dead⟩) (x := .d t y) hcell hsub h
 | fptr t y => exact still_AR (c := ⟨w, S, γ, β, s.ob, s.dead⟩) (x := .fptr t y) hcell hsub h
 | own t u l =>
   simp only [reAV]
   split
   . exact still_AR (c := ⟨w, S, γ, β, s.ob, s.dead⟩) (x := .own t u l) hcell hsub h
   . rename_i hd
     have hd' : u ∉ s.dead := by simpa using hd
     obtain ⟨k0, k1, k2⟩ := htok t u l rfl hd'
     simp only [AR, AC] at h ⊢
     obtain ⟨h0, h1, h2, A, cap, h3, h4, h5⟩ := h
     refine ⟨h0, h1, h2, A, cap, h3, h4.mono hcell hsub, fun _ => ?_⟩
     rcases h5 hd' with h6 | ⟨b, off, h6, h7, m, h8, h9⟩
     . exact .inl h6
     . exact .inr ⟨b, off, h6, k1.trans h7, m, k2 b _ h7 m h8, h9⟩
 | nils => simpa only [reAV, AR, AC] using h
 | ptr t id p =>
   simp only [reAV]
   split
   . rename_i hl
     simp only [AR] at h ⊢
     exact ⟨h.1, ptr_back hg hl h.2⟩
   . simp only [AR]
 | mem t id => simp only [reAV, AR]
 | st ts l => simp only [reAV, AR]
 | clo f l =>
   simp only [reAV]
   split
   . rename_i hl
     simp only [AR, AC] at h ⊢
     obtain ⟨h0, caps, h1, h2⟩ := h
     exact ⟨h0, caps, h1, ptrs_back hg l caps hl h2⟩
   . simp only [AR]
 | map kt vt id => simp only [reAV, AR]
 | sub sl t id p lo n => simp only [reAV, AR]
 | gone => simp only [reAV, AR]
 | undef => simp only [reAV, AR]
theorem AR_res {c : Cx} {rty : Ty} {n : Nat} {y : D} {v : Value} (hr : rtyOk n rty = true) (hwt : wt rty y) (h : DR c.w c.S y v) : AR c (.d rty y) v := by
 simp only [AR]
 have key : noTup rty = true \/ ∃ ts, rty = .tup ts /\ noTups ts = true := by
   unfold rtyOk at hr
   split at hr
   . exact .inl hr
   . split at hr
     . exact .inr ⟨_, rfl, hr⟩
     . cases hr
 rcases key with n2 | ⟨ts, rfl, n2⟩
 . refine .inl ⟨n2, hwt, ?_⟩
   cases rty <;> simp only [wt] at hwt <;> first
     | (obtain ⟨m, rfl⟩ := hwt; exact h)
     | (obtain ⟨m, rfl, _⟩ := hwt; exact h)
     | (exact hwt.elim)
     | (simp [noTup] at n2)
 . exact .inr ⟨ts, rfl, n2, hwt, h⟩
theorem inlG_ok (hE : EnvOk P E) {f : FuncId} {fn : Func} {rty : Ty} (hf : P.funcs[f]? = some fn) (hr : rtyOk fn.results.size rty = true) : InlOk P f (inlG E fn rty) := by
 intro ann R w0 S γ β s a w avs vs K r h hlen hAR hev
 unfold inlG at hev
 split at hev <;> first | (cases hev; done) | skip
 rename_i c hb
 split at hev <;> first | (cases hev; done) | skip
 rename_i hcond
 obtain ⟨hnt, htk⟩ := hcond
 obtain ⟨tk, htkd⟩ : ∃ tk, tk = slotToks s := ⟨_, rfl⟩
 have tkm : ∀ u, u ∈ tk -> u ∉ s.dead := fun u hu => by rw [htkd] at hu; exact (slotToks_mem hu).1
 obtain ⟨sh, hsh⟩ : ∃ sh : Nat -> Prop, sh = fun b => (∃ id, γ id = some b) \/ ∃ v e, v ∉ tk ++ s.dead /\ β v = some (b, e) := ⟨_, rfl⟩
 have ndd : ∀ {u}, u ∉ tk ++ s.dead -> u ∉ s.dead := fun hu hh => hu (List.mem_append_right _ hh)
 have hshn : ∀ b, sh b -> ¬ w0.Old b := fun b hb => by
   rw [hsh] at hb
   rcases hb with ⟨id, hb⟩ | ⟨u, e, hu, hb⟩
   . exact (h.γn id b hb).1
   . exact (h.βn u b e (ndd hu) hb).1
 have old1 : ∀ b, w0.Old b -> (Root.mk w S sh).Old b := fun b hb => ⟨Nat.lt_of_lt_of_le hb.1 h.ext.sz, fun hh => hshn b hh hb⟩
 have tkOld : ∀ u ∈ tk, ∀ b e, β u = some (b, e) -> (Root.mk w S sh).Old b := fun u hu b e hb => by
   refine ⟨(h.βn u b e (tkm u hu) hb).2.1, fun hh => ?_⟩
   have hh : sh b := hh
   rw [hsh] at hh
   rcases hh with ⟨id, hh⟩ | ⟨u', e', hu', hh⟩
   . exact h.βγ u id b e (tkm u hu) hb hh
   . have := h.βi u u' b e e' (tkm u hu) (ndd hu') hb hh
     subst this
     exact hu' (List.mem_append_left _ hu)
 have hvl : vs.length <= fn.ntmps := by omega
 have hntm : (vs.toArray ++ Array.replicate (fn.ntmps - vs.toArray.size) undef).size = fn.ntmps := by
   simp; omega
 have le0 : Cx.le ⟨w, S, γ, β, s.ob, s.dead⟩ ⟨w, S, γ, β, s.ob, tk ++ s.dead⟩ :=
   ⟨fun _ _ _ => rfl, fun _ _ hb => hb, fun _ _ hb => hb, fun id o ho _ => ⟨o, ho, fun p => ⟨rfl, rfl⟩, fun t l e => ⟨l, e, rfl⟩, fun _ _ l e => ⟨l, e⟩⟩, fun u hu => ⟨ndd hu, fun b e he => ⟨he, fun n hn => hn⟩⟩⟩
 have hb0 : s.base + 4096 = (s.fresh + 1) * 4096 := by simp only [St.base]; omega
 refine calls_of_wpI hf hb (ev_ok (w0 := ⟨w, S, sh⟩) (S := S) (γ := γ) (β := β) hE c ann R _ r (s := into s fn.ntmps avs) ?_ hev fun e sc S' γ' β' a' w' n1 n2 n3 n4 => ?_)
 . refine ⟨⟨rfl, rfl, rfl, Nat.le_refl _, Nat.le_refl _, fun _ _ => rfl⟩, fun t ht => ?_, hntm, fun t ht => ?_, fun id o b ho hb => ?_, fun id b hb => ⟨fun ho => ho.2 (by show sh b; rw [hsh]; exact .inl ⟨id, hb⟩), (h.γn id b hb).2⟩, h.γi, fun id hid => h.γf id ?_, fun u b e hu he => ?_, fun u u' b e e' hu hu' => h.βi u u' b e e' (ndd (htkd ▸ hu)) (ndd (htkd ▸ hu')), fun u id b e hu => h.βγ u id b e (ndd (htkd ▸ hu)), fun u hu => h.βf u ?_, h.Sb, fun b o hb _ => hb, rfl⟩
   . simp only [into]
     rw [<- htkd]
     by_cases hlt : t < vs.length
     . have hlt' : t < avs.length := by omega
       have hv : (vs.toArray ++ Array.replicate (fn.ntmps - vs.toArray.size) undef).getD t undef = vs[t] := by
         simp [Array.getD, Array.getElem_append, hlt]
         omega
       show AR _ _ ((vs.toArray ++ Array.replicate (fn.ntmps - vs.toArray.size) undef).getD t undef)
       rw [hv, List.getD_eq_getElem?_getD, List.getElem?_eq_getElem hlt']
       exact (hAR t _ _ (List.getElem?_eq_getElem hlt') (List.getElem?_eq_getElem hlt)).mono le0
     . rw [List.getD_eq_getElem?_getD, List.getElem?_eq_none (by omega)]
       simp only [Option.getD_none, AR]
   . have ht' : fn.ntmps <= t := ht
     simp only [into]
     rw [List.getD_eq_getElem?_getD, List.getElem?_eq_none (by omega)]
     rfl
   . rw [show (into s fn.ntmps avs).dead = tk ++ s.dead by rw [htkd]; rfl]
     exact (h.obs id o b ho hb).mono le0 rfl fun _ hh => hh
   . have : (into s fn.ntmps avs).base = (s.fresh + 1) * 4096 := rfl
     rw [this] at hid
     omega
   . have hu' : u ∉ tk ++ s.dead := htkd ▸ hu
     obtain ⟨k1, k2, k3⟩ := h.βn u b e (ndd hu') he
     exact ⟨fun ho => ho.2 (by show sh b; rw [hsh]; exact .inr ⟨u, e, hu', he⟩), k2, k3⟩
   . have : (into s fn.ntmps avs).base = (s.fresh + 1) * 4096 := rfl
     rw [this] at hu
     omega
 . obtain ⟨n, hn⟩ : ∃ n, n = (sc.fresh + 1) * 4096 := ⟨_, rfl⟩
   have hscb : sc.base + 4096 = n := by rw [hn]; simp only [St.base]; omega
   have hres : (results E sc rty fn.results.toList).bind (fun y => K (.d rty y) (back s sc)) = some r -> (∃ v, (Go.results fn a'.tmps).run P w' = .ok v w' /\ ∃ v' y s' S' γ' β', Ending.returned v = .returned v' /\ K y s' = some r /\ Rp w0 S' γ' β' s' a w' /\ AR ⟨w', S', γ', β', s'.ob, s'.dead⟩ y v' /\ Fm s S γ a w S' γ' a w' /\ Sk s s') := fun hq => by
     obtain ⟨y, h1, h2⟩ := bind_some_inv hq
     obtain ⟨v, k1, k2, k3⟩ := results_ok hE n1 hr h1
     obtain ⟨β'', hβ⟩ : ∃ β'' : Nat -> Option (Nat × Nat), β'' = fun u => if n <= u then (tk[u - n]?).bind (fun x => if tk.idxOf x = u - n then β x else none) else β' u := ⟨_, rfl⟩
     have bge : ∀ u b e, n <= u -> β'' u = some (b, e) -> ∃ x ∈ tk, u = n + tk.idxOf x /\ β x = some (b, e) := fun u b e hu he => by
       rw [hβ] at he
       simp only [if_pos hu] at he
       obtain ⟨x, q1, q2⟩ := bind_some_inv he
       split at q2 <;> first | (cases q2; done) | skip
       rename_i hix
       exact ⟨x, List.mem_of_getElem? q1, by omega, q2⟩
     have blt : ∀ u, u < n -> β'' u = β' u := fun u hu => by rw [hβ]; simp only; rw [if_neg (by omega)]
     have bix : ∀ x ∈ tk, β'' (n + tk.idxOf x) = β x := fun x hx => by
       have hlt : tk.idxOf x < tk.length := List.idxOf_lt_length_of_mem hx
       rw [hβ]
       simp only [Nat.le_add_right, if_true, Nat.add_sub_cancel_left]
       rw [List.getElem?_eq_getElem hlt, Option.bind_some, List.getElem_idxOf hlt, if_pos rfl]
     have hle : Cx.le ⟨w', S', γ', β', sc.ob, sc.dead⟩ ⟨w', S', γ', β'', sc.ob, sc.dead⟩ :=
       ⟨fun _ _ _ => rfl, fun _ _ hb => hb, fun _ _ hb => hb, fun id o ho _ => ⟨o, ho, fun p => ⟨rfl, rfl⟩, fun t l e => ⟨l, e, rfl⟩, fun _ _ l e => ⟨l, e⟩⟩, fun u hu => ⟨hu, fun b e he => ⟨(by
         have he' : β' u = some (b, e) := he
         show β'' u = some (b, e)
         rcases Nat.lt_or_ge u n with hlt | hge
         . rw [blt u hlt]; exact he'
         . rw [n1.βf u (by omega)] at he'; cases he'), fun m hm => hm⟩⟩⟩
     have nOld : ∀ b, ¬ (Root.mk w S sh).Old b -> ¬ w0.Old b := fun b hb hh => hb (old1 b hh)
     refine ⟨v, k1, v, .d rty y, back s sc, S', γ', β'', rfl, h2, ?_, ?_, ⟨n2.sub, n2.cell, fun _ _ => rfl, n2.objs, n2.sz, n2.gam⟩, ⟨rfl, rfl, rfl⟩⟩
     . refine ⟨⟨n1.ext.tape.trans h.ext.tape, n1.ext.os.trans h.ext.os, n1.ext.output.trans h.ext.output, Nat.le_trans h.ext.sz n1.ext.sz, Nat.le_trans h.ext.dr n1.ext.dr, fun b hb => (n1.ext.old b (old1 b hb)).trans (h.ext.old b hb)⟩, fun t ht => ?_, h.nt, fun t ht => ?_, fun id o b ho hb => (n1.obs id o b ho hb).mono hle rfl fun _ hh => hh, fun id b hb => ⟨nOld b (n1.γn id b hb).1, (n1.γn id b hb).2⟩, n1.γi, fun id hid => n1.γf id ?_, fun u b e hu he => ?_, fun u u' b e e' hu hu' he he' => ?_, fun u id b e hu he => ?_, fun u hu => ?_, n1.Sb, fun b o hb hlt => h.So b o (n1.So b o hb (old1 b hlt)) hlt, h.df⟩
       . have htn : t < s.nt := by rw [<- h.nt]; exact ht
         simp only [back, if_pos htn]
         rw [<- htkd, <- hn]
         refine reAV_ok n2.cell n2.sub n2.gam (fun ty u l hx hu => ?_) (h.tms t ht)
         have hm : u ∈ tk := by rw [htkd]; exact mem_slotToks htn hx hu
         refine ⟨hm, bix u hm, fun b e he m hm' => ?_⟩
         have := n1.ext.old b (tkOld u hm b e he)
         simp only [rsz, row?] at hm' ⊢
         rw [this]; exact hm'
       . have ht' : s.nt <= t := ht
         simp only [back]
         rw [if_neg (by omega)]
       . have hid' : (sc.fresh + 1) * 4096 + 4096 <= id := hid
         omega
       . rcases Nat.lt_or_ge u n with hlt | hge
         . rw [blt u hlt] at he
           obtain ⟨q1, q2, q3⟩ := n1.βn u b e hu he
           exact ⟨nOld b q1, q2, q3⟩
         . obtain ⟨x, hx, _, he⟩ := bge u b e hge he
           obtain ⟨q1, q2, q3⟩ := h.βn x b e (tkm x hx) he
           exact ⟨q1, Nat.lt_of_lt_of_le q2 n2.sz, fun o ho hs => q3 o ho (n1.So b o hs (tkOld x hx b e he))⟩
       . rcases Nat.lt_or_ge u n with hlt | hge
         . rcases Nat.lt_or_ge u' n with hlt' | hge'
           . rw [blt u hlt] at he; rw [blt u' hlt'] at he'
             exact n1.βi u u' b e e' hu hu' he he'
           . rw [blt u hlt] at he
             obtain ⟨x, hx, _, he'⟩ := bge u' b e' hge' he'
             exact absurd (tkOld x hx b e' he') (n1.βn u b e hu he).1
         . obtain ⟨x, hx, ex, he⟩ := bge u b e hge he
           rcases Nat.lt_or_ge u' n with hlt' | hge'
           . rw [blt u' hlt'] at he'
             exact absurd (tkOld x hx b e he) (n1.βn u' b e' hu' he').1
           . obtain ⟨x', hx', ex', he'⟩ := bge u' b e' hge' he'
             have := h.βi x x' b e e' (tkm x hx) (tkm x' hx') he he'
             subst this
             rw [ex, ex']
       . rcases Nat.lt_or_ge u n with hlt | hge
         . rw [blt u hlt] at he
           exact n1.βγ u id b e hu he
         . obtain ⟨x, hx, ex, he⟩ := bge u b e hge he
           exact fun hid => (n1.γn id b hid).1 (tkOld x hx b e he)
       . have hu' : (sc.fresh + 1) * 4096 + 4096 <= u := hu
         cases hc : β'' u with
         | none => rfl
         | some q =>
           obtain ⟨x, hx, ex, _⟩ := bge u q.1 q.2 (by omega) hc
           have hlt : tk.idxOf x < tk.length := List.idxOf_lt_length_of_mem hx
           rw [<- htkd] at htk
           omega
     . exact AR_res hr k2 k3
   cases e with
   | normal => exact ⟨n1.df, hres n4⟩
   | ret => exact ⟨n1.df, hres n4⟩
   | exit i => cases n4
end
end Go.Proofs.YtjjjkojfijpeeaaGreat.Sy
end
section
namespace Go.Proofs.YtjjjkojfijpeeaaGreat.Sy
abbrev K0 : Ty := Ty.st [Ty.int .i64, Ty.int .i64, Ty.bool, Ty.int .u8]
abbrev K1 : Ty := Ty.arr 3 (Ty.int .i64)
abbrev K2 : Ty := Ty.sl (K1)
abbrev K3 : Ty := Ty.st [K2]
abbrev K4 : Ty := Ty.st [K3, Ty.int .i64]
abbrev K5 : Ty := Ty.sl (Ty.int .i64)
abbrev K6 : Ty := Ty.st [K1, Ty.int .i64, K5]
abbrev K7 : Ty := Ty.sl (K6)
abbrev K8 : Ty := Ty.arr 2 (Ty.int .i64)
abbrev K9 : Ty := Ty.sl (K8)
abbrev K10 : Ty := Ty.arr 16 (Ty.int .u32)
abbrev K11 : Ty := Ty.st [Ty.bool, Ty.bool, K10]
abbrev K12 : Ty := Ty.st [K11, K11]
abbrev K13 : Ty := Ty.arr 3 (K12)
abbrev K14 : Ty := Ty.sl (K12)
abbrev K15 : Ty := Ty.st [Ty.int .i64, Ty.int .i64, K14]
abbrev K16 : Ty := Ty.arr 3 (Ty.int .u8)
abbrev K17 : Ty := Ty.st [K1, Ty.int .i64]
abbrev K18 : Ty := Ty.sl (K17)
abbrev K19 : Ty := Ty.sl (Ty.bool)
abbrev K20 : Ty := Ty.arr 3 (K1)
abbrev K21 : Ty := Ty.st [K20, K11]
abbrev K22 : Ty := Ty.sl (K21)
abbrev K23 : Ty := Ty.arr 3 (K11)
abbrev K24 : Ty := Ty.arr 3 (K23)
abbrev K25 : Ty := Ty.arr 32 (Ty.int .u32)
abbrev K26 : Ty := Ty.sl (Ty.int .u32)
abbrev K27 : Ty := Ty.sl (K11)
abbrev K28 : Ty := Ty.arr 17 (Ty.int .u32)
abbrev K29 : Ty := Ty.tup [K3, Ty.int .i64]
abbrev K30 : Ty := Ty.tup [K3, Ty.bool]
abbrev K31 : Ty := Ty.tup [K10, Ty.bool]
abbrev K32 : Ty := Ty.tup [Ty.int .i64, Ty.bool]
abbrev K33 : Ty := Ty.tup [K5, K5]
abbrev K34 : Ty := Ty.tup [K10, K10]
abbrev K35 : Ty := Ty.tup [K11, K11]
abbrev K36 : Ty := Ty.tup [K10, Ty.int .u32]
abbrev K37 : Ty := Ty.tup []
def tyN : Nat := 238
def sigN : Nat := 239
def tyF (t : Nat) : Option Ty := bif Nat.blt t tyN then (bif Nat.blt t 119 then (bif Nat.blt t 59 then (bif Nat.blt t 29 then (bif Nat.blt t 14 then (bif Nat.blt t 7 then (bif Nat.blt t 3 then (bif Nat.blt t 1 then none else (bif Nat.blt t 2 then none else some (Ty.int .i64))) else (bif Nat.blt t 5 then (bif Nat.blt t 4 then some (Ty.int .i64) else some (Ty.bool)) else (bif Nat.blt t 6 then some (Ty.int .u8) else some (Ty.int .u8)))) else (bif Nat.blt t 10 then (bif Nat.blt t 8 then some (K0) else (bif Nat.blt t 9 then some (K0) else some (Ty.str))) else (bif Nat.blt t 12 then (bif Nat.blt t 11 then some (Ty.str) else some (Ty.str)) else (bif Nat.blt t 13 then some (Ty.int .u64) else none)))) else (bif Nat.blt t 21 then none else (bif Nat.blt t 25 then (bif Nat.blt t 23 then (bif Nat.blt t 22 then some (Ty.int .i32) else some (K2)) else (bif Nat.blt t 24 then none else some (K3))) else (bif Nat.blt t 27 then (bif Nat.blt t 26 then some (K3) else some (Ty.int .i64)) else none)))) else (bif Nat.blt t 44 then (bif Nat.blt t 36 then (bif Nat.blt t 32 then (bif Nat.blt t 30 then some (K4) else (bif Nat.blt t 31 then some (K4) else none)) else none) else (bif Nat.blt t 40 then (bif Nat.blt t 38 then (bif Nat.blt t 37 then none else some (K7)) else none) else (bif Nat.blt t 42 then (bif Nat.blt t 41 then some (K9) else none) else (bif Nat.blt t 43 then some (Ty.int .u32) else some (K10))))) else (bif Nat.blt t 51 then (bif Nat.blt t 47 then (bif Nat.blt t 45 then some (K11) else (bif Nat.blt t 46 then some (K11) else none)) else (bif Nat.blt t 49 then (bif Nat.blt t 48 then some (K12) else some (K12)) else (bif Nat.blt t 50 then some (K13) else some (K13)))) else (bif Nat.blt t 55 then (bif Nat.blt t 53 then none else (bif Nat.blt t 54 then some (K14) else some (K15))) else (bif Nat.blt t 57 then (bif Nat.blt t 56 then some (K15) else none) else none))))) else (bif Nat.blt t 89 then (bif Nat.blt t 74 then (bif Nat.blt t 66 then (bif Nat.blt t 62 then (bif Nat.blt t 60 then some (K1) else (bif Nat.blt t 61 then some (K1) else none)) else (bif Nat.blt t 64 then (bif Nat.blt t 63 then none else some (K5)) else (bif Nat.blt t 65 then some (K6) else some (K6)))) else (bif Nat.blt t 70 then (bif Nat.blt t 68 then (bif Nat.blt t 67 then some (K8) else none) else none) else none)) else (bif Nat.blt t 81 then (bif Nat.blt t 77 then (bif Nat.blt t 75 then none else (bif Nat.blt t 76 then none else some (K16))) else none) else (bif Nat.blt t 85 then (bif Nat.blt t 83 then (bif Nat.blt t 82 then some (K18) else none) else (bif Nat.blt t 84 then some (K19) else some (K17))) else (bif Nat.blt t 87 then (bif Nat.blt t 86 then some (K17) else none) else none)))) else (bif Nat.blt t 104 then (bif Nat.blt t 96 then (bif Nat.blt t 92 then none else (bif Nat.blt t 94 then (bif Nat.blt t 93 then none else some (K20)) else none)) else (bif Nat.blt t 100 then (bif Nat.blt t 98 then (bif Nat.blt t 97 then some (K22) else none) else (bif Nat.blt t 99 then some (K21) else some (K21))) else (bif Nat.blt t 102 then (bif Nat.blt t 101 then some (K23) else none) else none))) else (bif Nat.blt t 111 then (bif Nat.blt t 107 then (bif Nat.blt t 105 then some (K24) else none) else none) else none)))) else (bif Nat.blt t 178 then (bif Nat.blt t 148 then (bif Nat.blt t 133 then none else (bif Nat.blt t 140 then none else (bif Nat.blt t 144 then (bif Nat.blt t 142 then none else (bif Nat.blt t 143 then none else some (Ty.int .u64))) else (bif Nat.blt t 146 then (bif Nat.blt t 145 then none else some (Ty.int .u64)) else none)))) else (bif Nat.blt t 163 then (bif Nat.blt t 155 then none else (bif Nat.blt t 159 then (bif Nat.blt t 157 then (bif Nat.blt t 156 then some (K25) else none) else (bif Nat.blt t 158 then some (K26) else none)) else none)) else (bif Nat.blt t 170 then (bif Nat.blt t 166 then none else (bif Nat.blt t 168 then (bif Nat.blt t 167 then some (K17) else some (K17)) else none)) else (bif Nat.blt t 174 then (bif Nat.blt t 172 then (bif Nat.blt t 171 then none else some (Ty.int .i64)) else none) else none)))) else (bif Nat.blt t 208 then (bif Nat.blt t 193 then (bif Nat.blt t 185 then (bif Nat.blt t 181 then (bif Nat.blt t 179 then none else (bif Nat.blt t 180 then some (K27) else none)) else none) else (bif Nat.blt t 189 then none else (bif Nat.blt t 191 then none else (bif Nat.blt t 192 then none else some (Ty.int .u64))))) else (bif Nat.blt t 200 then none else (bif Nat.blt t 204 then (bif Nat.blt t 202 then none else (bif Nat.blt t 203 then some (K28) else none)) else none))) else (bif Nat.blt t 223 then none else (bif Nat.blt t 230 then (bif Nat.blt t 226 then none else (bif Nat.blt t 228 then none else (bif Nat.blt t 229 then none else some (Ty.int .u8)))) else (bif Nat.blt t 234 then (bif Nat.blt t 232 then (bif Nat.blt t 231 then some (Ty.int .u8) else none) else (bif Nat.blt t 233 then none else some (Ty.int .i32))) else (bif Nat.blt t 236 then (bif Nat.blt t 235 then some (Ty.int .i32) else none) else none))))))) else none
def sigF (t : Nat) : Option (List Ty × Ty) := bif Nat.blt t sigN then (bif Nat.blt t 119 then (bif Nat.blt t 59 then (bif Nat.blt t 29 then (bif Nat.blt t 14 then (bif Nat.blt t 7 then (bif Nat.blt t 3 then none else (bif Nat.blt t 5 then (bif Nat.blt t 4 then some ([K2], Ty.bool) else some ([K3], Ty.bool)) else (bif Nat.blt t 6 then some ([K3], Ty.bool) else some ([K2, Ty.int .u8], Ty.bool)))) else (bif Nat.blt t 10 then (bif Nat.blt t 8 then some ([K3], Ty.bool) else (bif Nat.blt t 9 then some ([K3, K1], Ty.bool) else some ([K1, K16], Ty.bool))) else (bif Nat.blt t 12 then (bif Nat.blt t 11 then some ([], Ty.bool) else some ([K2], K29)) else (bif Nat.blt t 13 then some ([K2], K4) else some ([K2, K2], Ty.bool))))) else (bif Nat.blt t 21 then (bif Nat.blt t 17 then (bif Nat.blt t 15 then some ([K3], Ty.int .i64) else (bif Nat.blt t 16 then some ([K3], Ty.int .i64) else some ([K3], Ty.bool))) else (bif Nat.blt t 19 then (bif Nat.blt t 18 then some ([K7, K7], Ty.bool) else some ([K3], K7)) else (bif Nat.blt t 20 then some ([K3], K7) else some ([K9, K9], Ty.bool)))) else (bif Nat.blt t 25 then (bif Nat.blt t 23 then (bif Nat.blt t 22 then some ([K3], K9) else some ([K3], K9)) else (bif Nat.blt t 24 then some ([K3], K11) else some ([K3], K11))) else (bif Nat.blt t 27 then (bif Nat.blt t 26 then some ([K3], K13) else some ([K3], K13)) else (bif Nat.blt t 28 then some ([K15, K15], Ty.bool) else some ([K3], K15)))))) else (bif Nat.blt t 44 then (bif Nat.blt t 36 then (bif Nat.blt t 32 then (bif Nat.blt t 30 then some ([K3], K15) else (bif Nat.blt t 31 then some ([K3, K13], Ty.int .i64) else some ([K1], K13))) else (bif Nat.blt t 34 then (bif Nat.blt t 33 then some ([K11, K11], Ty.int .i64) else some ([K1, K1], K11)) else (bif Nat.blt t 35 then some ([Ty.int .i64], K11) else some ([K3, K1], K30)))) else (bif Nat.blt t 40 then (bif Nat.blt t 38 then (bif Nat.blt t 37 then some ([K13, K13], K13) else some ([K11, K11], K12)) else (bif Nat.blt t 39 then some ([K12, K12], K12) else some ([K12, K12], K12))) else (bif Nat.blt t 42 then (bif Nat.blt t 41 then some ([K12, K12], K12) else some ([K13, K13], K12)) else (bif Nat.blt t 43 then some ([Ty.int .i64, Ty.int .i64], K12) else some ([K3, K1], Ty.int .i64))))) else (bif Nat.blt t 51 then (bif Nat.blt t 47 then (bif Nat.blt t 45 then some ([K2], K2) else (bif Nat.blt t 46 then some ([K2], K18) else some ([K2, K17], K5))) else (bif Nat.blt t 49 then (bif Nat.blt t 48 then some ([K2], K2) else some ([K2], K7)) else (bif Nat.blt t 50 then some ([K2, K2], Ty.bool) else none))) else (bif Nat.blt t 55 then (bif Nat.blt t 53 then (bif Nat.blt t 52 then some ([K8, K8], Ty.int .i64) else some ([K5], Ty.int .i64)) else (bif Nat.blt t 54 then some ([Ty.int .i64, Ty.int .i64], Ty.int .i64) else some ([Ty.int .i64], K11))) else (bif Nat.blt t 57 then none else (bif Nat.blt t 58 then some ([K11, K11], K11) else some ([K3], K22))))))) else (bif Nat.blt t 89 then (bif Nat.blt t 74 then (bif Nat.blt t 66 then (bif Nat.blt t 62 then (bif Nat.blt t 60 then some ([K11, K11], K11) else (bif Nat.blt t 61 then none else some ([K11, K11], K11))) else (bif Nat.blt t 64 then (bif Nat.blt t 63 then some ([K11, K11], K12) else some ([K11], K12)) else (bif Nat.blt t 65 then some ([K1, K1], K1) else some ([K12, K12], K12)))) else (bif Nat.blt t 70 then (bif Nat.blt t 68 then (bif Nat.blt t 67 then some ([K12, K13], K13) else none) else (bif Nat.blt t 69 then some ([K11], K11) else some ([K22, Ty.int .i64, Ty.int .i64], K12))) else (bif Nat.blt t 72 then (bif Nat.blt t 71 then some ([K12], K12) else some ([K13], Ty.bool)) else (bif Nat.blt t 73 then some ([K1, K13], K12) else some ([K12, K12], Ty.int .i64))))) else (bif Nat.blt t 81 then (bif Nat.blt t 77 then (bif Nat.blt t 75 then some ([Ty.int .i64], K12) else (bif Nat.blt t 76 then some ([Ty.int .i64], K12) else some ([K11], Ty.bool))) else (bif Nat.blt t 79 then (bif Nat.blt t 78 then some ([K11], K5) else some ([K5, K5], Ty.bool)) else (bif Nat.blt t 80 then some ([K23, K23], K11) else some ([K1], K23)))) else (bif Nat.blt t 85 then (bif Nat.blt t 83 then (bif Nat.blt t 82 then some ([Ty.bool, K5], K11) else some ([K5, K5], K5)) else (bif Nat.blt t 84 then some ([K11], Ty.int .i64) else some ([], K12))) else (bif Nat.blt t 87 then (bif Nat.blt t 86 then some ([K11, K11], K11) else some ([K11], K11)) else (bif Nat.blt t 88 then some ([K11, K11], K11) else some ([K12], Ty.bool)))))) else (bif Nat.blt t 104 then (bif Nat.blt t 96 then (bif Nat.blt t 92 then (bif Nat.blt t 90 then some ([K11, K11], K11) else (bif Nat.blt t 91 then some ([K11, K11], Ty.int .i64) else some ([K1, K1], K11))) else (bif Nat.blt t 94 then none else (bif Nat.blt t 95 then some ([K1, K1], Ty.int .i64) else some ([K2], K2)))) else (bif Nat.blt t 100 then (bif Nat.blt t 98 then (bif Nat.blt t 97 then some ([K1, K1, K1], K17) else some ([K1], K1)) else (bif Nat.blt t 99 then some ([K2, K17], Ty.bool) else none)) else (bif Nat.blt t 102 then (bif Nat.blt t 101 then some ([K17, K17], Ty.int .i64) else some ([K1, K1], Ty.int .i64)) else (bif Nat.blt t 103 then none else some ([K1, K1], K1))))) else (bif Nat.blt t 111 then (bif Nat.blt t 107 then (bif Nat.blt t 105 then some ([K1, K1, K1], Ty.int .i64) else (bif Nat.blt t 106 then some ([K1, K1], Ty.bool) else some ([K1, K1, K1], K1))) else (bif Nat.blt t 109 then (bif Nat.blt t 108 then some ([K1, K1], Ty.int .i64) else some ([K7, K1], Ty.bool)) else (bif Nat.blt t 110 then some ([K2, K1, Ty.int .i64], Ty.bool) else some ([K7, K6], K7)))) else (bif Nat.blt t 115 then (bif Nat.blt t 113 then (bif Nat.blt t 112 then some ([K2, K1, Ty.int .i64], K5) else some ([K1, K1], K1)) else (bif Nat.blt t 114 then none else some ([Ty.int .u64], Ty.int .i64))) else (bif Nat.blt t 117 then (bif Nat.blt t 116 then some ([Ty.int .i64], Ty.bool) else some ([Ty.bool, K10], K11)) else (bif Nat.blt t 118 then some ([K1, K1], K1) else some ([K27], Ty.bool)))))))) else (bif Nat.blt t 179 then (bif Nat.blt t 149 then (bif Nat.blt t 134 then (bif Nat.blt t 126 then (bif Nat.blt t 122 then (bif Nat.blt t 120 then some ([], K11) else (bif Nat.blt t 121 then some ([K10, K10], K31) else some ([K10, K10], Ty.int .i64))) else (bif Nat.blt t 124 then (bif Nat.blt t 123 then some ([K10, K10], K10) else some ([K1, K1], K1)) else (bif Nat.blt t 125 then some ([K11], K32) else some ([], K11)))) else (bif Nat.blt t 130 then (bif Nat.blt t 128 then (bif Nat.blt t 127 then some ([K5, K5], K5) else some ([K10], Ty.int .i64)) else (bif Nat.blt t 129 then some ([K11], Ty.bool) else some ([K11], Ty.int .i64))) else (bif Nat.blt t 132 then (bif Nat.blt t 131 then some ([], K12) else some ([K11, K11], K11)) else (bif Nat.blt t 133 then some ([K11, K11], K11) else some ([], K11))))) else (bif Nat.blt t 141 then (bif Nat.blt t 137 then (bif Nat.blt t 135 then some ([K13, K13], K12) else (bif Nat.blt t 136 then some ([K1], K13) else some ([K12], Ty.bool))) else (bif Nat.blt t 139 then (bif Nat.blt t 138 then some ([K11, K11], K11) else some ([K11], K12)) else (bif Nat.blt t 140 then some ([K11], Ty.bool) else some ([K5], K5)))) else (bif Nat.blt t 145 then (bif Nat.blt t 143 then (bif Nat.blt t 142 then some ([K5, Ty.int .i64], Ty.int .i64) else some ([K11], K11)) else (bif Nat.blt t 144 then some ([K5, K5], K33) else some ([Ty.int .i64, Ty.int .i64], Ty.int .i64))) else (bif Nat.blt t 147 then (bif Nat.blt t 146 then some ([Ty.int .i64], Ty.bool) else some ([K5, K5], K5)) else (bif Nat.blt t 148 then some ([K23, K23], K11) else some ([K1], K23)))))) else (bif Nat.blt t 164 then (bif Nat.blt t 156 then (bif Nat.blt t 152 then none else (bif Nat.blt t 154 then (bif Nat.blt t 153 then some ([Ty.int .i64, Ty.int .i64], Ty.int .i64) else none) else (bif Nat.blt t 155 then some ([K1, K1], K1) else some ([K23], K17)))) else (bif Nat.blt t 160 then (bif Nat.blt t 158 then (bif Nat.blt t 157 then some ([K2, K1, Ty.int .i64, K1, K1], Ty.bool) else none) else none) else none)) else (bif Nat.blt t 171 then (bif Nat.blt t 167 then (bif Nat.blt t 165 then none else (bif Nat.blt t 166 then some ([Ty.int .u32], Ty.int .i64) else some ([Ty.int .u64], Ty.int .i64))) else (bif Nat.blt t 169 then (bif Nat.blt t 168 then some ([K11], Ty.bool) else some ([Ty.int .u32, Ty.int .u32], Ty.int .i64)) else (bif Nat.blt t 170 then some ([], K11) else some ([K10, K10], K34)))) else (bif Nat.blt t 175 then (bif Nat.blt t 173 then (bif Nat.blt t 172 then some ([K11], K11) else some ([K11, K11], K35)) else (bif Nat.blt t 174 then some ([K12, K12], K12) else some ([K12, K12], K12))) else (bif Nat.blt t 177 then (bif Nat.blt t 176 then some ([K5, Ty.int .i64], Ty.int .i64) else none) else none))))) else (bif Nat.blt t 209 then (bif Nat.blt t 194 then (bif Nat.blt t 186 then none else (bif Nat.blt t 190 then (bif Nat.blt t 188 then (bif Nat.blt t 187 then some ([K11], K32) else some ([K1], Ty.bool)) else (bif Nat.blt t 189 then some ([K1, K1], Ty.int .i64) else none)) else (bif Nat.blt t 192 then (bif Nat.blt t 191 then some ([Ty.int .i64], Ty.int .u64) else none) else none))) else (bif Nat.blt t 201 then (bif Nat.blt t 197 then (bif Nat.blt t 195 then some ([Ty.int .u32], Ty.bool) else (bif Nat.blt t 196 then some ([K10, Ty.int .u32], K36) else some ([Ty.int .u32], Ty.int .i64))) else (bif Nat.blt t 199 then (bif Nat.blt t 198 then some ([K10, Ty.int .i64], K36) else none) else none)) else (bif Nat.blt t 205 then (bif Nat.blt t 203 then (bif Nat.blt t 202 then some ([K10, Ty.int .i64], K10) else some ([K11], K32)) else (bif Nat.blt t 204 then some ([K11, K11], K11) else none)) else none))) else (bif Nat.blt t 224 then (bif Nat.blt t 216 then (bif Nat.blt t 212 then none else (bif Nat.blt t 214 then none else (bif Nat.blt t 215 then none else some ([Ty.int .i64], Ty.int .i64)))) else (bif Nat.blt t 220 then (bif Nat.blt t 218 then (bif Nat.blt t 217 then none else some ([K11], Ty.int .i64)) else none) else none)) else none)))) else none
def mapF (t : Nat) : Option (Ty × Ty) := bif Nat.blt t tyN then (bif Nat.blt t 119 then none else (bif Nat.blt t 178 then (bif Nat.blt t 148 then (bif Nat.blt t 133 then (bif Nat.blt t 126 then none else (bif Nat.blt t 129 then (bif Nat.blt t 127 then none else (bif Nat.blt t 128 then some (K17, Ty.bool) else none)) else none)) else none) else none) else none)) else none
def envOf (lp : {α β : Type} -> (α -> Option (Sum α β)) -> α -> Option β) (call : Nat -> List D -> Option D) (inl : Nat -> Option (Ann -> (R : Type) -> St -> List AV -> (AV -> St -> Option R) -> Option R)) : Env := { L := tyF, sig := sigF, call := call, mapL := mapF, lp := lp, inl := inl }
def lookT : List (Nat × (Func × Ty)) -> Nat -> Option (Func × Ty)
 | [], _ => none
 | p :: l, f => bif Nat.beq f p.1 then some p.2 else lookT l f
theorem lookT_mem : ∀ {l : List (Nat × (Func × Ty))} {f : Nat} {p : Func × Ty}, lookT l f = some p -> (f, p) ∈ l
 | [], _, _, h => by cases h
 | q :: l, f, p, h => by
   simp only [lookT] at h
   cases hb : Nat.beq f q.1
   . rw [hb] at h; exact List.mem_cons_of_mem _ (lookT_mem h)
   . rw [hb] at h; cases h; rw [Nat.eq_of_beq_eq_true hb]; exact List.mem_cons_self
open Go.Proofs in
noncomputable def tabP : List (Nat × (Func × Ty)) := [(51, (Tryz.f51, Ty.int .i64)), (55, (Tryz.f55, K37)), (56, (Tryz.f56, K37)), (60, (Tryz.f60, K37)), (67, (Tryz.f67, K37)), (94, (Tryz.f94, Ty.int .i64)), (100, (Tryz.f100, Ty.int .i64)), (102, (Tryz.f102, Ty.int .i64)), (198, (Tryz.f198, Ty.int .u64)), (199, (Tryz.f199, Ty.bool)), (200, (Tryz.f200, K37))]
noncomputable def tabF (f : Nat) : Option (Func × Ty) := lookT tabP f
theorem tabF_mem {f : Nat} {p : Func × Ty} (h : tabF f = some p) : (f, p) ∈ tabP := lookT_mem h
end Go.Proofs.YtjjjkojfijpeeaaGreat.Sy
end
section
namespace Go.Proofs.YtjjjkojfijpeeaaGreat.Sy
open Go
def layAll (P : Program) : Bool := (List.range tyN).all fun t => match tyF t with | some ty => layB P ty t && decide (ty.high <= 1000) && noTup ty | none => true
def sigOk1 (P : Program) (f : Nat) (g : List Ty × Ty) : Bool :=
 noTups g.1 && (noTup g.2 || match g.2 with | .tup ts => noTups ts | _ => false) && match P.funcs[f]? with | some fn => !(fn.name == "runtime.NumGoroutine") && fn.body.isSome | none => false
def mapAll (P : Program) : Bool := (List.range tyN).all fun t => match mapF t with | some g => cmpTy g.1 && decide (g.1.high <= 1000) && (match P.underlying t with | some (.map K V) => layB P g.1 K && layB P g.2 V | _ => false) | none => true
def sigAll (P : Program) : Bool := (List.range sigN).all fun f => match sigF f with | some g => sigOk1 P f g | none => true
theorem tyF_out {t : Nat} {ty : Ty} (h : tyF t = some ty) : t < tyN := by
 unfold tyF at h
 rcases Nat.lt_or_ge t tyN with k | k
 . exact k
 . have : Nat.blt t tyN = false := Bool.eq_false_iff.2 fun hb => absurd (Nat.blt_eq ▸ hb) (Nat.not_lt.2 k)
   rw [this] at h; cases h
theorem mapF_out {t : Nat} {g : Ty × Ty} (h : mapF t = some g) : t < tyN := by
 unfold mapF at h
 rcases Nat.lt_or_ge t tyN with k | k
 . exact k
 . have : Nat.blt t tyN = false := Bool.eq_false_iff.2 fun hb => absurd (Nat.blt_eq ▸ hb) (Nat.not_lt.2 k)
   rw [this] at h; cases h
theorem sigF_out {t : Nat} {ty : List Ty × Ty} (h : sigF t = some ty) : t < sigN := by
 unfold sigF at h
 rcases Nat.lt_or_ge t sigN with k | k
 . exact k
 . have : Nat.blt t sigN = false := Bool.eq_false_iff.2 fun hb => absurd (Nat.blt_eq ▸ hb) (Nat.not_lt.2 k)
   rw [this] at h; cases h
def CallOk (P : Program) (call : Nat -> List D -> Option D) : Prop := ∀ f ptys rty xs y, sigF f = some (ptys, rty) -> call f xs = some y -> wts ptys xs -> Ctr P ptys rty f xs y
abbrev Lp : Type 1 := {α β : Type} -> (α -> Option (Sum α β)) -> α -> Option β
def LpOk (lp : Lp) : Prop := ∀ (α β : Type) (body : α -> Option (Sum α β)) (x : α) (y : β), lp body x = some y -> ∃ n, iter body n x = some y
theorem lpOk_iter (N : Nat) : LpOk (fun body => iter body N) := fun _ _ _ _ _ h => ⟨N, h⟩
theorem lpOk_loopW : LpOk (fun body => loopW body) := fun _ _ _ _ _ h => loopW_some h
abbrev Inl : Type 1 := Nat -> Option (Ann -> (R : Type) -> St -> List AV -> (AV -> St -> Option R) -> Option R)
def inlL (tab : Nat -> Option (Func × Ty)) (lp : Lp) (call : Nat -> List D -> Option D) : Nat -> Inl
 | 0 => fun _ => none
 | n + 1 => fun f => match tab f with
   | some p => some (inlG (envOf lp call (inlL tab lp call n)) p.1 p.2)
   | none => none
section
variable {P : Program}
theorem envOk_base (h1 : layAll P = true) (h2 : sigAll P = true) (h4 : mapAll P = true) (h3 : P.follows .mixedOrders = true) {lp : Lp} (hlp : LpOk lp) {call : Nat -> List D -> Option D} (hc : CallOk P call)
   {inl : Inl} (hi : ∀ f g, inl f = some g -> (∃ fn, P.funcs[f]? = some fn /\ (fn.name == "runtime.NumGoroutine") = false /\ fn.body.isSome = true) /\ InlOk P f g) : EnvOk P (envOf lp call inl) := by
 have k1 : ∀ t ty, tyF t = some ty -> layB P ty t = true /\ ty.high <= 1000 /\ noTup ty = true := fun t ty ht => by
   have := List.all_eq_true.1 h1 t (List.mem_range.2 (tyF_out ht))
   rw [ht] at this
   simp only [Bool.and_eq_true, decide_eq_true_eq] at this
   exact ⟨this.1.1, this.1.2, this.2⟩
 refine ⟨fun t ty ht => .inr (k1 t ty ht).1, fun t ty ht => (k1 t ty ht).2.1, fun t ty ht => (k1 t ty ht).2.2, fun f ptys rty hf => ?_, hc, h3, hlp, fun t kt vt ht => ?_, hi⟩
 . have := List.all_eq_true.1 h2 f (List.mem_range.2 (sigF_out hf))
   rw [show sigF f = some (ptys, rty) from hf] at this
   simp only [sigOk1, Bool.and_eq_true, Bool.or_eq_true] at this
   obtain ⟨⟨q1, q2⟩, q3⟩ := this
   refine ⟨q1, ?_, ?_⟩
   . rcases q2 with q2 | q2
     . exact .inl q2
     . right
       split at q2
       . rename_i ts; exact ⟨_, rfl, q2⟩
       . cases q2
   . split at q3
     . rename_i fn hfn
       simp only [Bool.and_eq_true, Bool.not_eq_true'] at q3
       exact ⟨fn, hfn, q3⟩
     . cases q3
 . have := List.all_eq_true.1 h4 t (List.mem_range.2 (mapF_out ht))
   rw [show mapF t = some (kt, vt) from ht] at this
   simp only [Bool.and_eq_true, decide_eq_true_eq] at this
   obtain ⟨⟨m1, m2⟩, m3⟩ := this
   refine ⟨m1, ?_⟩
   split at m3 <;> first | (cases m3; done) | skip
   rename_i K V hu
   simp only [Bool.and_eq_true] at m3
   exact ⟨K, V, hu, m3.1, m3.2, m2⟩
def tabOk1 (P : Program) (f : Nat) (p : Func × Ty) : Prop := P.funcs[f]? = some p.1 /\ (!(p.1.name == "runtime.NumGoroutine") && p.1.body.isSome && rtyOk p.1.results.size p.2) = true
theorem inlL_ok {tab : Nat -> Option (Func × Ty)} (h1 : layAll P = true) (h2 : sigAll P = true) (h4 : mapAll P = true) (h3 : P.follows .mixedOrders = true) (ht : ∀ f p, tab f = some p -> tabOk1 P f p) {lp : Lp} (hlp : LpOk lp) {call : Nat -> List D -> Option D} (hc : CallOk P call) :
   ∀ n, EnvOk P (envOf lp call (inlL tab lp call n))
 | 0 => envOk_base h1 h2 h4 h3 hlp hc fun f g h => by cases h
 | n + 1 => envOk_base h1 h2 h4 h3 hlp hc fun f g h => by
   simp only [inlL] at h
   split at h <;> first | (cases h; done) | skip
   rename_i p hp
   cases h
   obtain ⟨q1, q2⟩ := ht f p hp
   simp only [Bool.and_eq_true, Bool.not_eq_true'] at q2
   exact ⟨⟨p.1, q1, q2.1.1, q2.1.2⟩, inlG_ok (inlL_ok h1 h2 h4 h3 ht hlp hc n) q1 q2.2⟩
theorem ctr_of {E : Env} (h : EnvOk P E) {f : Nat} {fn : Func} {ann : Ann} {ptys : List Ty} {rty : Ty} {xs : List D} {y : D} (hf : P.funcs[f]? = some fn)
   (hk : (decide (ptys.length <= fn.ntmps) && rtyOk fn.results.size rty && noTups ptys) = true) (he : evF E fn ann ptys rty xs = some y) : Ctr P ptys rty f xs y := by
 simp only [Bool.and_eq_true, decide_eq_true_eq] at hk
 exact ctr_of_ev h hf hk.1.1 hk.2 hk.1.2 he
end
end Go.Proofs.YtjjjkojfijpeeaaGreat.Sy
end
section
namespace Go.Proofs.YtjjjkojfijpeeaaGreat.Sy
open Go Go.Proofs
theorem layAll_prog : layAll Tryz.prog = true := by kernel_rfl
theorem sigAll_prog : sigAll Tryz.prog = true := by kernel_rfl
theorem mapAll_prog : mapAll Tryz.prog = true := by kernel_rfl
theorem mixed_prog : Tryz.prog.follows .mixedOrders = true := by kernel_rfl
noncomputable def inlP (lp : Lp) (call : Nat -> List D -> Option D) : Inl := inlL tabF lp call 3
theorem tabF_ok : ∀ f p, tabF f = some p -> tabOk1 Tryz.prog f p := by
 intro f p h
 have key : ∀ q ∈ tabP, tabOk1 Tryz.prog q.1 q.2 := by
   intro q hq
   simp only [tabP, List.mem_cons, List.not_mem_nil, or_false] at hq
   repeat' first
     | (rcases hq with hq | hq; · subst hq; exact ⟨by kernel_rfl, by kernel_rfl⟩)
     | (subst hq; exact ⟨by kernel_rfl, by kernel_rfl⟩)
 exact key (f, p) (tabF_mem h)
theorem envP {lp : Lp} (hlp : LpOk lp) {call : Nat -> List D -> Option D} (hc : CallOk Tryz.prog call) : EnvOk Tryz.prog (envOf lp call (inlP lp call)) :=
 inlL_ok layAll_prog sigAll_prog mapAll_prog mixed_prog tabF_ok hlp hc 3
def opStr (o : Oper) : Option ByteArray := match o.op with | .index _ (.const (.string s)) _ => some s | _ => none
def strIn : Code -> Option ByteArray
 | .region _ ops _ => ops.toList.findSome? opStr
 | .seq a b => (strIn a).orElse fun _ => strIn b
 | .cond _ a b => (strIn a).orElse fun _ => strIn b
 | .block _ a => strIn a
 | .loop a => strIn a
 | .scope a => strIn a
 | _ => none
def codeOf (f : Func) : Code := match f.body with | some c => c | none => .skip
end Go.Proofs.YtjjjkojfijpeeaaGreat.Sy
end
section
namespace Go.Proofs.YtjjjkojfijpeeaaGreat.Sy
open Go Go.Proofs
inductive CT where
 | leaf (k : Nat) (g : (Nat -> List D -> Option D) -> List D -> Option D)
 | node (m : Nat) (a b : CT)
def CT.get : CT -> Nat -> (Nat -> List D -> Option D) -> List D -> Option D
 | .leaf k g, f, call, xs => bif Nat.beq f k then g call xs else none
 | .node m a b, f, call, xs => bif Nat.blt f m then a.get f call xs else b.get f call xs
def leafOk (f : Nat) (g : (Nat -> List D -> Option D) -> List D -> Option D) : Prop :=
 ∀ call, CallOk Tryz.prog call -> ∀ ptys rty xs y, sigF f = some (ptys, rty) -> g call xs = some y -> wts ptys xs -> Ctr Tryz.prog ptys rty f xs y
def CT.ok : CT -> Prop
 | .leaf k g => leafOk k g
 | .node _ a b => a.ok /\ b.ok
theorem CT.get_ok' : ∀ {t : CT}, t.ok -> ∀ {call}, CallOk Tryz.prog call -> ∀ f ptys rty xs y, sigF f = some (ptys, rty) -> t.get f call xs = some y -> wts ptys xs -> Ctr Tryz.prog ptys rty f xs y
 | .leaf k g, h, call, hc, f, ptys, rty, xs, y, hs, hy, hw => by
   simp only [CT.get] at hy
   cases hb : Nat.beq f k with
   | false => rw [hb] at hy; cases hy
   | true =>
     rw [hb] at hy
     have := Nat.eq_of_beq_eq_true hb
     subst this
     exact h call hc ptys rty xs y hs hy hw
 | .node m a b, h, call, hc, f, ptys, rty, xs, y, hs, hy, hw => by
   simp only [CT.get] at hy
   cases hb : Nat.blt f m with
   | false => rw [hb] at hy; exact CT.get_ok' h.2 hc f ptys rty xs y hs hy hw
   | true => rw [hb] at hy; exact CT.get_ok' h.1 hc f ptys rty xs y hs hy hw
theorem CT.get_ok {t : CT} (h : t.ok) {call} (hc : CallOk Tryz.prog call) : CallOk Tryz.prog fun f xs => t.get f call xs := fun f ptys rty xs y hs hy hw => CT.get_ok' h hc f ptys rty xs y hs hy hw
noncomputable def evG (lp : Lp) (f : Nat) (fn : Func) (ann : Ann) (call : Nat -> List D -> Option D) (xs : List D) : Option D :=
 (sigF f).bind fun s => evF (envOf lp call (inlP lp call)) fn ann s.1 s.2 xs
def kOk (f : Nat) (fn : Func) : Bool := match sigF f with
 | some (p, r) => decide (p.length <= fn.ntmps) && rtyOk fn.results.size r && noTups p
 | none => false
theorem leafE {lp : Lp} (hlp : LpOk lp) {f : Nat} {fn : Func} {ann : Ann} (hf : Tryz.prog.funcs[f]? = some fn) (hk : kOk f fn = true) : leafOk f (evG lp f fn ann) := by
 intro call hc ptys rty xs y hs hy hw
 unfold evG at hy
 unfold kOk at hk
 rw [hs] at hy hk
 exact ctr_of (envP hlp hc) hf hk hy
def m0 (F : (Nat -> List D -> Option D) -> Option D) (call : Nat -> List D -> Option D) (xs : List D) : Option D := match xs with | [] => F call | _ => none
theorem leaf0 {lp : Lp} (hlp : LpOk lp) {f : Nat} {fn : Func} {ann : Ann} {F : (Nat -> List D -> Option D) -> Option D} (hf : Tryz.prog.funcs[f]? = some fn) (hk : kOk f fn = true)
   (hE : ∀ call, evG lp f fn ann call [] = F call) : leafOk f (m0 F) := by
 intro call hc ptys rty xs y hs hy hw
 unfold m0 at hy
 split at hy <;> first | (cases hy; done) | skip
 exact leafE hlp hf hk call hc ptys rty _ y hs ((hE call).trans hy) hw
def m1 (F : (Nat -> List D -> Option D) -> D -> Option D) (call : Nat -> List D -> Option D) (xs : List D) : Option D := match xs with | [a0] => F call a0 | _ => none
theorem leaf1 {lp : Lp} (hlp : LpOk lp) {f : Nat} {fn : Func} {ann : Ann} {F : (Nat -> List D -> Option D) -> D -> Option D} (hf : Tryz.prog.funcs[f]? = some fn) (hk : kOk f fn = true)
   (hE : ∀ call a0, evG lp f fn ann call [a0] = F call a0) : leafOk f (m1 F) := by
 intro call hc ptys rty xs y hs hy hw
 unfold m1 at hy
 split at hy <;> first | (cases hy; done) | skip
 exact leafE hlp hf hk call hc ptys rty _ y hs ((hE call _).trans hy) hw
def m2 (F : (Nat -> List D -> Option D) -> D -> D -> Option D) (call : Nat -> List D -> Option D) (xs : List D) : Option D := match xs with | [a0, a1] => F call a0 a1 | _ => none
theorem leaf2 {lp : Lp} (hlp : LpOk lp) {f : Nat} {fn : Func} {ann : Ann} {F : (Nat -> List D -> Option D) -> D -> D -> Option D} (hf : Tryz.prog.funcs[f]? = some fn) (hk : kOk f fn = true)
   (hE : ∀ call a0 a1, evG lp f fn ann call [a0, a1] = F call a0 a1) : leafOk f (m2 F) := by
 intro call hc ptys rty xs y hs hy hw
 unfold m2 at hy
 split at hy <;> first | (cases hy; done) | skip
 exact leafE hlp hf hk call hc ptys rty _ y hs ((hE call _ _).trans hy) hw
def m3 (F : (Nat -> List D -> Option D) -> D -> D -> D -> Option D) (call : Nat -> List D -> Option D) (xs : List D) : Option D := match xs with | [a0, a1, a2] => F call a0 a1 a2 | _ => none
theorem leaf3 {lp : Lp} (hlp : LpOk lp) {f : Nat} {fn : Func} {ann : Ann} {F : (Nat -> List D -> Option D) -> D -> D -> D -> Option D} (hf : Tryz.prog.funcs[f]? = some fn) (hk : kOk f fn = true)
   (hE : ∀ call a0 a1 a2, evG lp f fn ann call [a0, a1, a2] = F call a0 a1 a2) : leafOk f (m3 F) := by
 intro call hc ptys rty xs y hs hy hw
 unfold m3 at hy
 split at hy <;> first | (cases hy; done) | skip
 exact leafE hlp hf hk call hc ptys rty _ y hs ((hE call _ _ _).trans hy) hw
def m4 (F : (Nat -> List D -> Option D) -> D -> D -> D -> D -> Option D) (call : Nat -> List D -> Option D) (xs : List D) : Option D := match xs with | [a0, a1, a2, a3] => F call a0 a1 a2 a3 | _ => none
def m5 (F : (Nat -> List D -> Option D) -> D -> D -> D -> D -> D -> Option D) (call : Nat -> List D -> Option D) (xs : List D) : Option D := match xs with | [a0, a1, a2, a3, a4] => F call a0 a1 a2 a3 a4 | _ => none
theorem leaf5 {lp : Lp} (hlp : LpOk lp) {f : Nat} {fn : Func} {ann : Ann} {F : (Nat -> List D -> Option D) -> D -> D -> D -> D -> D -> Option D} (hf : Tryz.prog.funcs[f]? = some fn) (hk : kOk f fn = true)
   (hE : ∀ call a0 a1 a2 a3 a4, evG lp f fn ann call [a0, a1, a2, a3, a4] = F call a0 a1 a2 a3 a4) : leafOk f (m5 F) := by
 intro call hc ptys rty xs y hs hy hw
 unfold m5 at hy
 split at hy <;> first | (cases hy; done) | skip
 exact leafE hlp hf hk call hc ptys rty _ y hs ((hE call _ _ _ _ _).trans hy) hw
end Go.Proofs.YtjjjkojfijpeeaaGreat.Sy
end
section
set_option maxRecDepth 20000
set_option maxHeartbeats 0
set_option linter.unusedVariables false
namespace Go.Proofs.YtjjjkojfijpeeaaGreat.Sy
open Go Go.Proofs
def A7 : Ann := (.two .leaf (.two .leaf (.two .leaf (.two .leaf (.two .leaf (.two .leaf (.two (.two .leaf (.two (.loop ⟨[(1, .same (.ptr K3 4097 [])), (6, .dv (Ty.int .i64))], [(4097, .keep K3 1)], [4, 5]⟩ [(.ret, ⟨[(2, .dv Ty.bool)], [], []⟩), (.exit 0, ⟨[(1, .same (.ptr K3 4097 []))], [(4097, .keep K3 1)], [4]⟩)] (.two .leaf (.two (.two (.two .leaf (.two .leaf (.two (.two .leaf (.two (.loop ⟨[(1, .same (.ptr K3 4097 [])), (7, .dv (Ty.int .i64)), (8, .dv (Ty.int .i64)), (9, .dv (Ty.int .i64))], [(4097, .keep K3 1)], [4, 5, 6]⟩ [(.exit 2, ⟨[(1, .same (.ptr K3 4097 [])), (7, .dv (Ty.int .i64)), (8, .dv (Ty.int .i64))], [(4097, .keep K3 1)], [4, 5, 6]⟩)] (.two .leaf (.two (.two (.two .leaf (.two .leaf (.two (.loop ⟨[(1, .same (.ptr K3 4097 [])), (7, .dv (Ty.int .i64)), (8, .dv (Ty.int .i64)), (11, .dv (Ty.int .i64))], [(4097, .keep K3 1)], [4, 5, 6, 9, 10]⟩ [(.exit 4, ⟨[(1, .same (.ptr K3 4097 [])), (7, .dv (Ty.int .i64)), (8, .dv (Ty.int .i64))], [(4097, .keep K3 1)], [4, 5, 6, 9]⟩)] (.two .leaf (.cut [(.normal, ⟨[(1, .same (.ptr K3 4097 [])), (7, .dv (Ty.int .i64)), (8, .dv (Ty.int .i64))], [(4097, .keep K3 1)], [4, 5, 6, 9, 10, 11]⟩)] [4, 5, 6, 9, 10, 11] [4097] (.two (.cut [(.normal, ⟨[(1, .same (.ptr K3 4097 [])), (7, .dv (Ty.int .i64))], [(4097, .keep K3 1)], [4, 5, 6, 8, 9, 10, 11]⟩)] [4, 5, 6, 8, 9, 10, 11] [4097] .leaf .leaf) .leaf) .leaf))) .leaf))) .leaf) .leaf))) .leaf)) .leaf))) .leaf) .leaf))) .leaf)) (.two (.two .leaf (.two (.loop ⟨[(1, .same (.ptr K3 4097 [])), (12, .dv (Ty.int .i64))], [(4097, .keep K3 1)], [4]⟩ [(.ret, ⟨[(2, .dv Ty.bool)], [], []⟩), (.exit 6, ⟨[], [], []⟩)] (.two .leaf (.two (.two (.two .leaf (.two (.loop ⟨[(1, .same (.ptr K3 4097 [])), (13, .dv (Ty.int .i64))], [(4097, .keep K3 1)], [4, 12]⟩ [(.ret, ⟨[(2, .dv Ty.bool)], [], []⟩), (.exit 8, ⟨[(1, .same (.ptr K3 4097 []))], [(4097, .keep K3 1)], [4, 12]⟩)] (.two .leaf (.two (.two (.two .leaf (.two (.two .leaf (.two (.loop ⟨[(1, .same (.ptr K3 4097 [])), (14, .dv Ty.bool), (15, .dv (Ty.int .i64))], [(4097, .keep K3 1)], [4, 12, 13]⟩ [(.exit 10, ⟨[(1, .same (.ptr K3 4097 [])), (14, .dv Ty.bool)], [(4097, .keep K3 1)], [4, 12, 13]⟩)] .leaf) .leaf)) (.two (.reg [] 18) .leaf))) .leaf) .leaf))) .leaf)) .leaf) .leaf))) .leaf)) .leaf))))))))
noncomputable def F7 (lp : Lp) (call : Nat -> List D -> Option D) (a0 : D) : Option D :=
(call 16 [a0]).bind fun r1 =>
(D.un .not r1).bind fun x2 =>
(D.truth x2).bind fun b3 =>
 if b3 then ((call 10 []).bind fun r4 =>
 some r4) else ((call 18 [a0]).bind fun r5 =>
(call 21 [a0]).bind fun r6 =>
(D.get a0 [0]).bind fun x7 =>
(D.asSl x7).bind fun l8 =>
(D.asSl r5).bind fun l9 =>
(D.bin .add (D.int .i64 (l8.length)) (D.int .i64 (l9.length))).bind fun x10 =>
(D.asSl r6).bind fun l11 =>
(D.bin .add (D.int .i64 (l11.length)) (D.int .i64 2)).bind fun x12 =>
(D.truth (D.bool (!(D.beq x10 x12)))).bind fun b13 =>
 if b13 then (some (D.bool false)) else ((lp (β := Nat × List D) (fun (v14 : List D) =>
(D.asSl r6).bind fun l15 =>
(D.bin .lss (v14.getD 0 (.bool false)) (D.int .i64 (l15.length))).bind fun x16 =>
(D.truth x16).bind fun b17 =>
 if b17 then ((lp (β := Nat × List D) (fun (v18 : List D) =>
(D.asSl r5).bind fun l19 =>
(D.bin .lss (v18.getD 2 (.bool false)) (D.int .i64 (l19.length))).bind fun x20 =>
(D.truth x20).bind fun b21 =>
 if b21 then ((D.asSl r5).bind fun l22 =>
(D.idx (v18.getD 2 (.bool false)) (l22.length)).bind fun i23 =>
(l22[i23]?).bind fun x24 =>
(D.fld x24 2).bind fun x25 =>
(lp (β := Nat × List D) (fun (v26 : List D) =>
(D.asSl x25).bind fun l27 =>
(D.bin .lss (v26.getD 2 (.bool false)) (D.int .i64 (l27.length))).bind fun x28 =>
(D.truth x28).bind fun b29 =>
 if b29 then ((((D.asSl x25).bind fun l30 =>
(D.idx (v26.getD 2 (.bool false)) (l30.length)).bind fun i31 =>
(l30[i31]?).bind fun x32 =>
(D.asSl r6).bind fun l33 =>
(D.idx (v14.getD 0 (.bool false)) (l33.length)).bind fun i34 =>
(l33[i34]?).bind fun x35 =>
(D.fld x35 0).bind fun x36 =>
(D.truth (D.bool (D.beq x32 x36))).bind fun b37 =>
(if b37 then ((D.bin .add (v26.getD 2 (.bool false)) (D.int .i64 1)).bind fun x38 =>
(D.asSl x25).bind fun l39 =>
(D.bin .rem x38 (D.int .i64 (l39.length))).bind fun x40 =>
(D.asSl x25).bind fun l41 =>
(D.idx x40 (l41.length)).bind fun i42 =>
(l41[i42]?).bind fun x43 =>
(D.asSl r6).bind fun l44 =>
(D.idx (v14.getD 0 (.bool false)) (l44.length)).bind fun i45 =>
(l44[i45]?).bind fun x46 =>
(D.fld x46 1).bind fun x47 =>
 D.truth (D.bool (D.beq x43 x47))) else (some false)).bind fun b48 =>
(D.truth (D.bool b48)).bind fun b49 =>
 if b49 then ((D.bin .add (v26.getD 0 (.bool false)) (D.int .i64 1)).bind fun x50 =>
 some (0, [x50])) else (some (0, [(v26.getD 0 (.bool false))]))).bind fun (r51 : Nat × List D) =>
(D.asSl x25).bind fun l52 =>
(D.idx (v26.getD 2 (.bool false)) (l52.length)).bind fun i53 =>
(l52[i53]?).bind fun x54 =>
(D.asSl r6).bind fun l55 =>
(D.idx (v14.getD 0 (.bool false)) (l55.length)).bind fun i56 =>
(l55[i56]?).bind fun x57 =>
(D.fld x57 1).bind fun x58 =>
(D.truth (D.bool (D.beq x54 x58))).bind fun b59 =>
(if b59 then ((D.bin .add (v26.getD 2 (.bool false)) (D.int .i64 1)).bind fun x60 =>
(D.asSl x25).bind fun l61 =>
(D.bin .rem x60 (D.int .i64 (l61.length))).bind fun x62 =>
(D.asSl x25).bind fun l63 =>
(D.idx x62 (l63.length)).bind fun i64 =>
(l63[i64]?).bind fun x65 =>
(D.asSl r6).bind fun l66 =>
(D.idx (v14.getD 0 (.bool false)) (l66.length)).bind fun i67 =>
(l66[i67]?).bind fun x68 =>
(D.fld x68 0).bind fun x69 =>
 D.truth (D.bool (D.beq x65 x69))) else (some false)).bind fun b70 =>
(D.truth (D.bool b70)).bind fun b71 =>
 if b71 then ((D.bin .add (v26.getD 1 (.bool false)) (D.int .i64 1)).bind fun x72 =>
 some (0, [(r51.2.getD 0 (.bool false)), x72])) else (some (0, [(r51.2.getD 0 (.bool false)), (v26.getD 1 (.bool false))]))).bind fun (r73 : Nat × List D) =>
(D.bin .add (v26.getD 2 (.bool false)) (D.int .i64 1)).bind fun x74 =>
 some (Sum.inl [(r73.2.getD 0 (.bool false)), (r73.2.getD 1 (.bool false)), x74])) else (some (Sum.inr (0, [(v26.getD 0 (.bool false)), (v26.getD 1 (.bool false))])))) [(v18.getD 0 (.bool false)), (v18.getD 1 (.bool false)), (D.int .i64 0)]).bind fun r75 =>
(D.bin .add (v18.getD 2 (.bool false)) (D.int .i64 1)).bind fun x76 =>
 some (Sum.inl [(r75.2.getD 0 (.bool false)), (r75.2.getD 1 (.bool false)), x76])) else (some (Sum.inr (0, [(v18.getD 0 (.bool false)), (v18.getD 1 (.bool false))])))) [(D.int .i64 0), (D.int .i64 0), (D.int .i64 0)]).bind fun r77 =>
(D.truth (D.bool (!(D.beq (r77.2.getD 0 (.bool false)) (D.int .i64 1))))).bind fun b78 =>
(if b78 then (some true) else (D.truth (D.bool (!(D.beq (r77.2.getD 1 (.bool false)) (D.int .i64 1)))))).bind fun b79 =>
(D.truth (D.bool b79)).bind fun b80 =>
 if b80 then (some (Sum.inr (0, [(D.bool false)]))) else ((D.bin .add (v14.getD 0 (.bool false)) (D.int .i64 1)).bind fun x81 =>
 some (Sum.inl [x81]))) else (some (Sum.inr (1, [])))) [(D.int .i64 0)]).bind fun r82 =>
 if r82.1 = 0 then (some (r82.2.getD 0 (.bool false))) else ((lp (β := Nat × List D) (fun (v83 : List D) =>
(D.asSl r5).bind fun l84 =>
(D.bin .lss (v83.getD 0 (.bool false)) (D.int .i64 (l84.length))).bind fun x85 =>
(D.truth x85).bind fun b86 =>
 if b86 then ((lp (β := Nat × List D) (fun (v87 : List D) =>
(D.get a0 [0]).bind fun x88 =>
(D.asSl x88).bind fun l89 =>
(D.bin .lss (v87.getD 0 (.bool false)) (D.int .i64 (l89.length))).bind fun x90 =>
(D.truth x90).bind fun b91 =>
 if b91 then ((lp (β := Nat × List D) (fun (v92 : List D) =>
(D.asSl r5).bind fun l93 =>
(D.idx (v83.getD 0 (.bool false)) (l93.length)).bind fun i94 =>
(l93[i94]?).bind fun x95 =>
(D.fld x95 2).bind fun x96 =>
(D.asSl x96).bind fun l97 =>
(D.bin .lss (v92.getD 1 (.bool false)) (D.int .i64 (l97.length))).bind fun x98 =>
(D.truth x98).bind fun b99 =>
 if b99 then ((D.truth (v92.getD 0 (.bool false))).bind fun b100 =>
(if b100 then (some true) else ((D.asSl r5).bind fun l101 =>
(D.idx (v83.getD 0 (.bool false)) (l101.length)).bind fun i102 =>
(l101[i102]?).bind fun x103 =>
(D.fld x103 2).bind fun x104 =>
(D.asSl x104).bind fun l105 =>
(D.idx (v92.getD 1 (.bool false)) (l105.length)).bind fun i106 =>
(l105[i106]?).bind fun x107 =>
 D.truth (D.bool (D.beq x107 (v87.getD 0 (.bool false)))))).bind fun b108 =>
(D.bin .add (v92.getD 1 (.bool false)) (D.int .i64 1)).bind fun x109 =>
 some (Sum.inl [(D.bool b108), x109])) else (some (Sum.inr (0, [(v92.getD 0 (.bool false))])))) [(D.bool false), (D.int .i64 0)]).bind fun r110 =>
(D.asSl r5).bind fun l111 =>
(D.idx (v83.getD 0 (.bool false)) (l111.length)).bind fun i112 =>
(l111[i112]?).bind fun x113 =>
(D.fld x113 0).bind fun x114 =>
(D.get a0 [0]).bind fun x115 =>
(D.asSl x115).bind fun l116 =>
(D.idx (v87.getD 0 (.bool false)) (l116.length)).bind fun i117 =>
(l116[i117]?).bind fun x118 =>
(call 33 [x114, x118]).bind fun r119 =>
(D.asSl r5).bind fun l120 =>
(D.idx (v83.getD 0 (.bool false)) (l120.length)).bind fun i121 =>
(l120[i121]?).bind fun x122 =>
(D.fld x122 1).bind fun x123 =>
(call 34 [x123]).bind fun r124 =>
(call 32 [r119, r124]).bind fun r125 =>
(D.bin .gtr r125 (D.int .i64 0)).bind fun x126 =>
(D.truth x126).bind fun b127 =>
(if b127 then (some true) else (D.truth (D.bool (!(D.beq (r110.2.getD 0 (.bool false)) (D.bool (D.beq r125 (D.int .i64 0)))))))).bind fun b128 =>
(D.truth (D.bool b128)).bind fun b129 =>
 if b129 then (some (Sum.inr (0, [(D.bool false)]))) else ((D.bin .add (v87.getD 0 (.bool false)) (D.int .i64 1)).bind fun x130 =>
 some (Sum.inl [x130]))) else (some (Sum.inr (1, [])))) [(D.int .i64 0)]).bind fun r131 =>
 if r131.1 = 0 then (some (Sum.inr (0, [(r131.2.getD 0 (.bool false))]))) else ((D.bin .add (v83.getD 0 (.bool false)) (D.int .i64 1)).bind fun x132 =>
 some (Sum.inl [x132]))) else (some (Sum.inr (1, [])))) [(D.int .i64 0)]).bind fun r133 =>
 if r133.1 = 0 then (some (r133.2.getD 0 (.bool false))) else ((call 10 []).bind fun r134 =>
 some r134))))
theorem L7 {lp} (hlp : LpOk lp) : leafOk 7 (m1 (F7 lp)) := leaf1 (fn := Tryz.f7) (ann := A7) hlp (by kernel_rfl) (by kernel_rfl) (fun call a0 => by kernel_rfl)
def A10 : Ann := (.two .leaf (.two .leaf (.two .leaf (.two .leaf (.two .leaf (.two .leaf (.two .leaf (.two (.reg [] 25) (.two .leaf (.two .leaf (.two .leaf (.two .leaf (.two (.reg [] 25) .leaf)))))))))))))
theorem L10 {lp} (hlp : LpOk lp) : leafOk 10 (evG lp 10 Tryz.f10 A10) := leafE hlp (by kernel_rfl) (by kernel_rfl)
def A11 : Ann := (.two .leaf (.two .leaf (.two (.two .leaf (.two (.loop ⟨[(2, .same (.ptr K3 4098 [])), (24, .dv (Ty.int .i64))], [(4098, .one K3 (.st [K2] [.ow K1]))], [0, 22, 23]⟩ [(.ret, ⟨[(2, .same (.ptr K3 4098 [])), (3, .dv (Ty.int .i64))], [(4098, .one K3 (.st [K2] [.ow K1]))], []⟩), (.exit 0, ⟨[(2, .same (.ptr K3 4098 []))], [(4098, .one K3 (.st [K2] [.ow K1]))], [0]⟩)] (.two .leaf (.two .leaf (.two (.two (.two .leaf (.two .leaf (.two (.loop ⟨[(2, .same (.ptr K3 4098 [])), (29, .dv (Ty.int .i64))], [(4098, .one K3 (.st [K2] [.ow K1]))], [0, 22, 23, 24, 28]⟩ [(.ret, ⟨[(2, .same (.ptr K3 4098 [])), (3, .dv (Ty.int .i64))], [(4098, .one K3 (.st [K2] [.ow K1]))], []⟩), (.exit 2, ⟨[(2, .same (.ptr K3 4098 []))], [(4098, .one K3 (.st [K2] [.ow K1]))], [0, 22, 23, 24]⟩)] .leaf) .leaf))) .leaf) .leaf)))) .leaf)) (.two .leaf (.two .leaf (.two .leaf (.two .leaf (.two .leaf (.two (.two .leaf (.two (.loop ⟨[(2, .same (.ptr K3 4098 [])), (10, .same (.mem Ty.bool 36919)), (58, .dv (Ty.int .i64))], [(4098, .one K3 (.st [K2] [.ow K1])), (36919, .many Ty.bool)], [8, 56, 57]⟩ [(.exit 4, ⟨[(2, .same (.ptr K3 4098 [])), (10, .same (.mem Ty.bool 36919))], [(4098, .one K3 (.st [K2] [.ow K1])), (36919, .many Ty.bool)], [8]⟩)] (.two .leaf (.two .leaf (.two (.two (.two .leaf (.two .leaf (.two (.loop ⟨[(2, .same (.ptr K3 4098 [])), (10, .same (.mem Ty.bool 36919)), (66, .dv (Ty.int .i64))], [(4098, .one K3 (.st [K2] [.ow K1])), (36919, .many Ty.bool)], [8, 56, 57, 58, 64, 65]⟩ [(.exit 6, ⟨[(2, .same (.ptr K3 4098 [])), (10, .same (.mem Ty.bool 36919))], [(4098, .one K3 (.st [K2] [.ow K1])), (36919, .many Ty.bool)], [8, 56, 57, 58]⟩)] .leaf) .leaf))) .leaf) .leaf)))) .leaf)) (.two .leaf (.two (.two .leaf (.two (.loop ⟨[(2, .same (.ptr K3 4098 [])), (10, .same (.mem Ty.bool 36919)), (15, .same (.ptr K3 49167 [])), (77, .dv (Ty.int .i64))], [(4098, .one K3 (.st [K2] [.ow K1])), (36919, .many Ty.bool), (49167, .one K3 (.st [K2] [.ow K1]))], [75, 76]⟩ [(.exit 8, ⟨[(2, .same (.ptr K3 4098 [])), (15, .same (.ptr K3 49167 []))], [(4098, .one K3 (.st [K2] [.ow K1])), (49167, .one K3 (.st [K2] [.ow K1]))], []⟩)] (.two .leaf (.two .leaf (.cut [(.normal, ⟨[(2, .same (.ptr K3 4098 [])), (10, .same (.mem Ty.bool 36919)), (15, .same (.ptr K3 49167 []))], [(4098, .one K3 (.st [K2] [.ow K1])), (36919, .many Ty.bool), (49167, .one K3 (.st [K2] [.ow K1]))], [75, 76, 77]⟩)] [75, 76, 77] [] .leaf .leaf)))) .leaf)) .leaf)))))))))))
noncomputable def F11 (lp : Lp) (call : Nat -> List D -> Option D) (a0 : D) : Option D :=
(D.asSl a0).bind fun l1 =>
(D.bin .gtr (D.int .i64 (l1.length)) (D.int .i64 64)).bind fun x2 =>
(D.truth x2).bind fun b3 =>
 if b3 then (some (D.tup [(D.st [(D.sl [])]), (D.int .i64 2)])) else ((D.asSl a0).bind fun l4 =>
(lp (β := Nat × List D) (fun (v5 : List D) =>
(D.bin .lss (v5.getD 0 (.bool false)) (D.int .i64 (l4.length))).bind fun x6 =>
(D.truth x6).bind fun b7 =>
 if b7 then ((D.asSl a0).bind fun l8 =>
(D.idx (v5.getD 0 (.bool false)) (l8.length)).bind fun i9 =>
(l8[i9]?).bind fun x10 =>
(lp (β := Nat × List D) (fun (v11 : List D) =>
(D.bin .lss (v11.getD 0 (.bool false)) (D.int .i64 3)).bind fun x12 =>
(D.truth x12).bind fun b13 =>
 if b13 then ((D.idx (v11.getD 0 (.bool false)) 3).bind fun i14 =>
(D.fld x10 i14).bind fun x15 =>
(D.bin .gtr x15 (D.int .i64 262144)).bind fun x16 =>
(D.truth x16).bind fun b17 =>
(if b17 then (some true) else ((D.bin .lss x15 (D.int .i64 (-262144))).bind fun x18 =>
 D.truth x18)).bind fun b19 =>
(D.truth (D.bool b19)).bind fun b20 =>
 if b20 then (some (Sum.inr (0, [(D.int .i64 1), (D.sl [])]))) else ((D.bin .add (v11.getD 0 (.bool false)) (D.int .i64 1)).bind fun x21 =>
 some (Sum.inl [x21, (D.sl ((v11.getD 1 (.bool false)).els))]))) else (some (Sum.inr (1, [(D.sl ((v11.getD 1 (.bool false)).els))])))) [(D.int .i64 0), (D.sl ((v5.getD 1 (.bool false)).els))]).bind fun r22 =>
 if r22.1 = 0 then (some (Sum.inr (0, [(r22.2.getD 0 (.bool false)), (D.sl ((r22.2.getD 1 (.bool false)).els))]))) else ((D.bin .add (v5.getD 0 (.bool false)) (D.int .i64 1)).bind fun x23 =>
 some (Sum.inl [x23, (D.sl ((r22.2.getD 0 (.bool false)).els))]))) else (some (Sum.inr (1, [(D.sl ((v5.getD 1 (.bool false)).els))])))) [(D.int .i64 0), (D.sl [])]).bind fun r24 =>
 if r24.1 = 0 then (some (D.tup [(D.st [(D.sl ((r24.2.getD 1 (.bool false)).els))]), (r24.2.getD 0 (.bool false))])) else ((call 44 [a0]).bind fun r25 =>
(call 45 [r25]).bind fun r26 =>
(D.asSl r26).bind fun l27 =>
(D.bin .lss (D.int .i64 (l27.length)) (D.int .i64 4)).bind fun x28 =>
(D.truth x28).bind fun b29 =>
 if b29 then (some (D.tup [(D.st [(D.sl [])]), (D.int .i64 120)])) else ((D.asSl r26).bind fun l30 =>
(D.bin .gtr (D.int .i64 (l30.length)) (D.int .i64 64)).bind fun x31 =>
(D.truth x31).bind fun b32 =>
 if b32 then (some (D.tup [(D.st [(D.sl [])]), (D.int .i64 2)])) else ((D.asSl r25).bind fun l33 =>
(D.natOf (D.int .i64 (l33.length))).bind fun i34 =>
 if i34 <= 1073741824 then ((D.asSl r26).bind fun l35 =>
(lp (β := Nat × List D) (fun (v36 : List D) =>
(D.bin .lss (v36.getD 0 (.bool false)) (D.int .i64 (l35.length))).bind fun x37 =>
(D.truth x37).bind fun b38 =>
 if b38 then ((D.asSl r26).bind fun l39 =>
(D.idx (v36.getD 0 (.bool false)) (l39.length)).bind fun i40 =>
(l39[i40]?).bind fun x41 =>
(call 46 [r25, x41]).bind fun r42 =>
(D.asSl r42).bind fun l43 =>
(lp (β := Nat × List D) (fun (v44 : List D) =>
(D.bin .lss (v44.getD 0 (.bool false)) (D.int .i64 (l43.length))).bind fun x45 =>
(D.truth x45).bind fun b46 =>
 if b46 then ((D.asSl r42).bind fun l47 =>
(D.idx (v44.getD 0 (.bool false)) (l47.length)).bind fun i48 =>
(l47[i48]?).bind fun x49 =>
(D.idx x49 (List.length ((v44.getD 2 (.bool false)).els))).bind fun i50 =>
(((v44.getD 2 (.bool false)).els)[i50]?).bind fun x51 =>
(D.bin .add (v44.getD 0 (.bool false)) (D.int .i64 1)).bind fun x52 =>
 some (Sum.inl [x52, (D.sl ((v44.getD 1 (.bool false)).els)), (D.sl (List.set ((v44.getD 2 (.bool false)).els) i50 (D.bool true)))])) else (some (Sum.inr (0, [(D.sl ((v44.getD 1 (.bool false)).els)), (D.sl ((v44.getD 2 (.bool false)).els))])))) [(D.int .i64 0), (D.sl ((v36.getD 1 (.bool false)).els)), (D.sl ((v36.getD 2 (.bool false)).els))]).bind fun r53 =>
(D.bin .add (v36.getD 0 (.bool false)) (D.int .i64 1)).bind fun x54 =>
 some (Sum.inl [x54, (D.sl ((r53.2.getD 0 (.bool false)).els)), (D.sl ((r53.2.getD 1 (.bool false)).els))])) else (some (Sum.inr (0, [(D.sl ((v36.getD 1 (.bool false)).els)), (D.sl ((v36.getD 2 (.bool false)).els))])))) [(D.int .i64 0), (D.sl ((r24.2.getD 0 (.bool false)).els)), (D.sl (List.replicate i34 (D.bool false)))]).bind fun r55 =>
(D.asSl r25).bind fun l56 =>
(lp (β := Nat × List D) (fun (v57 : List D) =>
(D.bin .lss (v57.getD 0 (.bool false)) (D.int .i64 (l56.length))).bind fun x58 =>
(D.truth x58).bind fun b59 =>
 if b59 then (((D.asSl r25).bind fun l60 =>
(D.idx (v57.getD 0 (.bool false)) (l60.length)).bind fun i61 =>
(l60[i61]?).bind fun x62 =>
(D.idx (v57.getD 0 (.bool false)) (List.length ((v57.getD 2 (.bool false)).els))).bind fun i63 =>
(((v57.getD 2 (.bool false)).els)[i63]?).bind fun x64 =>
(D.truth x64).bind fun b65 =>
 if b65 then (if List.length ((v57.getD 3 (.bool false)).els) + List.length [x62] <= 1073741824 then (some (0, [(D.sl ((v57.getD 1 (.bool false)).els)), (D.sl ((v57.getD 2 (.bool false)).els)), (D.sl (((v57.getD 3 (.bool false)).els) ++ [x62]))])) else none) else (some (0, [(D.sl ((v57.getD 1 (.bool false)).els)), (D.sl ((v57.getD 2 (.bool false)).els)), (D.sl ((v57.getD 3 (.bool false)).els))]))).bind fun (r66 : Nat × List D) =>
(D.bin .add (v57.getD 0 (.bool false)) (D.int .i64 1)).bind fun x67 =>
 some (Sum.inl [x67, (D.sl ((r66.2.getD 0 (.bool false)).els)), (D.sl ((r66.2.getD 1 (.bool false)).els)), (D.sl ((r66.2.getD 2 (.bool false)).els))])) else (some (Sum.inr (0, [(D.sl ((v57.getD 1 (.bool false)).els)), (D.sl ((v57.getD 3 (.bool false)).els))])))) [(D.int .i64 0), (D.sl ((r55.2.getD 0 (.bool false)).els)), (D.sl ((r55.2.getD 1 (.bool false)).els)), (D.sl [])]).bind fun r68 =>
 some (D.tup [(D.st [(D.sl ((r68.2.getD 1 (.bool false)).els))]), (D.int .i64 0)])) else none))))
theorem L11 {lp} (hlp : LpOk lp) : leafOk 11 (m1 (F11 lp)) := leaf1 (fn := Tryz.f11) (ann := A11) hlp (by kernel_rfl) (by kernel_rfl) (fun call a0 => by kernel_rfl)
def A12 : Ann := (.two .leaf (.two .leaf (.two (.two .leaf (.two (.loop ⟨[(2, .same (.ptr K4 4098 [])), (3, .dv (Ty.int .i64))], [(4098, .one K4 (.st [K3, (Ty.int .i64)] [.st [K2] [.ow K1], .dv (Ty.int .i64)]))], [0]⟩ [(.ret, ⟨[(2, .same (.ptr K4 4098 []))], [(4098, .one K4 (.st [K3, (Ty.int .i64)] [.st [K2] [.ow K1], .dv (Ty.int .i64)]))], []⟩), (.exit 0, ⟨[(2, .same (.ptr K4 4098 []))], [(4098, .one K4 (.st [K3, (Ty.int .i64)] [.st [K2] [.ow K1], .dv (Ty.int .i64)]))], [0]⟩)] (.two .leaf (.two (.two (.two .leaf (.two (.loop ⟨[(2, .same (.ptr K4 4098 [])), (4, .dv (Ty.int .i64))], [(4098, .one K4 (.st [K3, (Ty.int .i64)] [.st [K2] [.ow K1], .dv (Ty.int .i64)]))], [0, 3]⟩ [(.ret, ⟨[(2, .same (.ptr K4 4098 []))], [(4098, .one K4 (.st [K3, (Ty.int .i64)] [.st [K2] [.ow K1], .dv (Ty.int .i64)]))], []⟩), (.exit 2, ⟨[(2, .same (.ptr K4 4098 []))], [(4098, .one K4 (.st [K3, (Ty.int .i64)] [.st [K2] [.ow K1], .dv (Ty.int .i64)]))], [0, 3]⟩)] .leaf) .leaf)) .leaf) .leaf))) .leaf)) (.two .leaf (.two .leaf (.two .leaf (.two .leaf (.two .leaf (.two (.two .leaf (.two (.loop ⟨[(2, .same (.ptr K4 4098 [])), (7, .same (.ptr K4 36871 [])), (8, .dv (Ty.int .i64))], [(4098, .one K4 (.st [K3, (Ty.int .i64)] [.st [K2] [.ow K1], .dv (Ty.int .i64)])), (36871, .one K4 (.st [K3, (Ty.int .i64)] [.st [K2] [.ow K1], .dv (Ty.int .i64)]))], [5, 6]⟩ [(.exit 4, ⟨[(2, .same (.ptr K4 4098 [])), (7, .same (.ptr K4 36871 []))], [(4098, .one K4 (.st [K3, (Ty.int .i64)] [.st [K2] [.ow K1], .dv (Ty.int .i64)])), (36871, .one K4 (.st [K3, (Ty.int .i64)] [.st [K2] [.ow K1], .dv (Ty.int .i64)]))], []⟩)] (.two .leaf (.cut [(.normal, ⟨[(2, .same (.ptr K4 4098 [])), (7, .same (.ptr K4 36871 []))], [(4098, .one K4 (.st [K3, (Ty.int .i64)] [.st [K2] [.ow K1], .dv (Ty.int .i64)])), (36871, .one K4 (.st [K3, (Ty.int .i64)] [.st [K2] [.ow K1], .dv (Ty.int .i64)]))], [5, 6, 8]⟩)] [5, 6, 8] [] (.two (.two .leaf (.two (.two .leaf (.two (.loop ⟨[(2, .same (.ptr K4 4098 [])), (7, .same (.ptr K4 36871 [])), (9, .dv Ty.bool), (10, .dv (Ty.int .i64))], [(4098, .one K4 (.st [K3, (Ty.int .i64)] [.st [K2] [.ow K1], .dv (Ty.int .i64)])), (36871, .one K4 (.st [K3, (Ty.int .i64)] [.st [K2] [.ow K1], .dv (Ty.int .i64)]))], [5, 6, 8]⟩ [(.exit 6, ⟨[(2, .same (.ptr K4 4098 [])), (7, .same (.ptr K4 36871 [])), (9, .dv Ty.bool)], [(4098, .one K4 (.st [K3, (Ty.int .i64)] [.st [K2] [.ow K1], .dv (Ty.int .i64)])), (36871, .one K4 (.st [K3, (Ty.int .i64)] [.st [K2] [.ow K1], .dv (Ty.int .i64)]))], [5, 6, 8]⟩)] (.two .leaf (.two (.two (.two .leaf (.two (.loop ⟨[(2, .same (.ptr K4 4098 [])), (7, .same (.ptr K4 36871 [])), (9, .dv Ty.bool), (11, .dv (Ty.int .i64))], [(4098, .one K4 (.st [K3, (Ty.int .i64)] [.st [K2] [.ow K1], .dv (Ty.int .i64)])), (36871, .one K4 (.st [K3, (Ty.int .i64)] [.st [K2] [.ow K1], .dv (Ty.int .i64)]))], [5, 6, 8, 10]⟩ [(.exit 8, ⟨[(2, .same (.ptr K4 4098 [])), (7, .same (.ptr K4 36871 [])), (9, .dv Ty.bool)], [(4098, .one K4 (.st [K3, (Ty.int .i64)] [.st [K2] [.ow K1], .dv (Ty.int .i64)])), (36871, .one K4 (.st [K3, (Ty.int .i64)] [.st [K2] [.ow K1], .dv (Ty.int .i64)]))], [5, 6, 8, 10]⟩)] .leaf) .leaf)) .leaf) .leaf))) .leaf)) (.two .leaf (.two (.reg [] 8) .leaf)))) .leaf) .leaf))) .leaf)) .leaf)))))))))
noncomputable def F12 (lp : Lp) (call : Nat -> List D -> Option D) (a0 : D) : Option D :=
(D.asSl a0).bind fun l1 =>
(D.bin .gtr (D.int .i64 (l1.length)) (D.int .i64 64)).bind fun x2 =>
(D.truth x2).bind fun b3 =>
 if b3 then (some (D.st [(D.st [(D.sl [])]), (D.int .i64 2)])) else ((lp (β := Nat × List D) (fun (v4 : List D) =>
(D.asSl a0).bind fun l5 =>
(D.bin .lss (v4.getD 0 (.bool false)) (D.int .i64 (l5.length))).bind fun x6 =>
(D.truth x6).bind fun b7 =>
 if b7 then ((lp (β := Nat × List D) (fun (v8 : List D) =>
(D.bin .lss (v8.getD 0 (.bool false)) (D.int .i64 3)).bind fun x9 =>
(D.truth x9).bind fun b10 =>
 if b10 then ((D.asSl a0).bind fun l11 =>
(D.idx (v4.getD 0 (.bool false)) (l11.length)).bind fun i12 =>
(l11[i12]?).bind fun x13 =>
(D.idx (v8.getD 0 (.bool false)) 3).bind fun i14 =>
(D.fld x13 i14).bind fun x15 =>
(D.bin .gtr x15 (D.int .i64 262144)).bind fun x16 =>
(D.truth x16).bind fun b17 =>
(if b17 then (some true) else ((D.asSl a0).bind fun l18 =>
(D.idx (v4.getD 0 (.bool false)) (l18.length)).bind fun i19 =>
(l18[i19]?).bind fun x20 =>
(D.idx (v8.getD 0 (.bool false)) 3).bind fun i21 =>
(D.fld x20 i21).bind fun x22 =>
(D.bin .lss x22 (D.int .i64 (-262144))).bind fun x23 =>
 D.truth x23)).bind fun b24 =>
(D.truth (D.bool b24)).bind fun b25 =>
 if b25 then (some (Sum.inr (0, [(D.sl []), (D.int .i64 1)]))) else ((D.bin .add (v8.getD 0 (.bool false)) (D.int .i64 1)).bind fun x26 =>
 some (Sum.inl [x26, (D.sl ((v8.getD 1 (.bool false)).els)), (v8.getD 2 (.bool false))]))) else (some (Sum.inr (1, [(D.sl ((v8.getD 1 (.bool false)).els)), (v8.getD 2 (.bool false))])))) [(D.int .i64 0), (D.sl ((v4.getD 1 (.bool false)).els)), (v4.getD 2 (.bool false))]).bind fun r27 =>
 if r27.1 = 0 then (some (Sum.inr (0, [(D.sl ((r27.2.getD 0 (.bool false)).els)), (r27.2.getD 1 (.bool false))]))) else ((D.bin .add (v4.getD 0 (.bool false)) (D.int .i64 1)).bind fun x28 =>
 some (Sum.inl [x28, (D.sl ((r27.2.getD 0 (.bool false)).els)), (r27.2.getD 1 (.bool false))]))) else (some (Sum.inr (1, [(D.sl ((v4.getD 1 (.bool false)).els)), (v4.getD 2 (.bool false))])))) [(D.int .i64 0), (D.sl []), (D.int .i64 0)]).bind fun r29 =>
 if r29.1 = 0 then (some (D.st [(D.st [(D.sl ((r29.2.getD 0 (.bool false)).els))]), (r29.2.getD 1 (.bool false))])) else ((call 47 [a0]).bind fun r30 =>
(call 48 [r30]).bind fun r31 =>
(D.asSl r31).bind fun l32 =>
(D.truth (D.bool (D.beq (D.int .i64 (l32.length)) (D.int .i64 0)))).bind fun b33 =>
 if b33 then (some (D.st [(D.st [(D.sl [])]), (D.int .i64 120)])) else ((D.asSl r31).bind fun l34 =>
(D.bin .gtr (D.int .i64 (l34.length)) (D.int .i64 64)).bind fun x35 =>
(D.truth x35).bind fun b36 =>
 if b36 then (some (D.st [(D.st [(D.sl [])]), (D.int .i64 2)])) else ((lp (β := Nat × List D) (fun (v37 : List D) =>
(D.asSl r30).bind fun l38 =>
(D.bin .lss (v37.getD 0 (.bool false)) (D.int .i64 (l38.length))).bind fun x39 =>
(D.truth x39).bind fun b40 =>
 if b40 then (((lp (β := Nat × List D) (fun (v41 : List D) =>
(D.asSl r31).bind fun l42 =>
(D.bin .lss (v41.getD 1 (.bool false)) (D.int .i64 (l42.length))).bind fun x43 =>
(D.truth x43).bind fun b44 =>
 if b44 then ((lp (β := Nat × List D) (fun (v45 : List D) =>
(D.asSl r31).bind fun l46 =>
(D.idx (v41.getD 1 (.bool false)) (l46.length)).bind fun i47 =>
(l46[i47]?).bind fun x48 =>
(D.fld x48 2).bind fun x49 =>
(D.asSl x49).bind fun l50 =>
(D.bin .lss (v45.getD 1 (.bool false)) (D.int .i64 (l50.length))).bind fun x51 =>
(D.truth x51).bind fun b52 =>
 if b52 then ((D.truth (v45.getD 0 (.bool false))).bind fun b53 =>
(if b53 then (some true) else ((D.asSl r31).bind fun l54 =>
(D.idx (v41.getD 1 (.bool false)) (l54.length)).bind fun i55 =>
(l54[i55]?).bind fun x56 =>
(D.fld x56 2).bind fun x57 =>
(D.asSl x57).bind fun l58 =>
(D.idx (v45.getD 1 (.bool false)) (l58.length)).bind fun i59 =>
(l58[i59]?).bind fun x60 =>
 D.truth (D.bool (D.beq x60 (v37.getD 0 (.bool false)))))).bind fun b61 =>
(D.bin .add (v45.getD 1 (.bool false)) (D.int .i64 1)).bind fun x62 =>
 some (Sum.inl [(D.bool b61), x62, (D.sl ((v45.getD 2 (.bool false)).els)), (v45.getD 3 (.bool false)), (D.sl ((v45.getD 4 (.bool false)).els)), (v45.getD 5 (.bool false))])) else (some (Sum.inr (0, [(v45.getD 0 (.bool false)), (D.sl ((v45.getD 2 (.bool false)).els)), (v45.getD 3 (.bool false)), (D.sl ((v45.getD 4 (.bool false)).els)), (v45.getD 5 (.bool false))])))) [(v41.getD 0 (.bool false)), (D.int .i64 0), (D.sl ((v41.getD 2 (.bool false)).els)), (v41.getD 3 (.bool false)), (D.sl ((v41.getD 4 (.bool false)).els)), (v41.getD 5 (.bool false))]).bind fun r63 =>
(D.bin .add (v41.getD 1 (.bool false)) (D.int .i64 1)).bind fun x64 =>
 some (Sum.inl [(r63.2.getD 0 (.bool false)), x64, (D.sl ((r63.2.getD 1 (.bool false)).els)), (r63.2.getD 2 (.bool false)), (D.sl ((r63.2.getD 3 (.bool false)).els)), (r63.2.getD 4 (.bool false))])) else (some (Sum.inr (0, [(v41.getD 0 (.bool false)), (D.sl ((v41.getD 2 (.bool false)).els)), (v41.getD 3 (.bool false)), (D.sl ((v41.getD 4 (.bool false)).els)), (v41.getD 5 (.bool false))])))) [(D.bool false), (D.int .i64 0), (D.sl ((v37.getD 1 (.bool false)).els)), (v37.getD 2 (.bool false)), (D.sl ((v37.getD 3 (.bool false)).els)), (v37.getD 4 (.bool false))]).bind fun r65 =>
(D.truth (r65.2.getD 0 (.bool false))).bind fun b66 =>
 if b66 then ((D.asSl r30).bind fun l67 =>
(D.idx (v37.getD 0 (.bool false)) (l67.length)).bind fun i68 =>
(l67[i68]?).bind fun x69 =>
 if List.length ((r65.2.getD 3 (.bool false)).els) + List.length [x69] <= 1073741824 then (some (0, [(D.sl ((r65.2.getD 1 (.bool false)).els)), (r65.2.getD 2 (.bool false)), (D.sl (((r65.2.getD 3 (.bool false)).els) ++ [x69])), (r65.2.getD 4 (.bool false))])) else none) else (some (0, [(D.sl ((r65.2.getD 1 (.bool false)).els)), (r65.2.getD 2 (.bool false)), (D.sl ((r65.2.getD 3 (.bool false)).els)), (r65.2.getD 4 (.bool false))]))).bind fun (r70 : Nat × List D) =>
(D.bin .add (v37.getD 0 (.bool false)) (D.int .i64 1)).bind fun x71 =>
 some (Sum.inl [x71, (D.sl ((r70.2.getD 0 (.bool false)).els)), (r70.2.getD 1 (.bool false)), (D.sl ((r70.2.getD 2 (.bool false)).els)), (r70.2.getD 3 (.bool false))])) else (some (Sum.inr (0, [(D.sl ((v37.getD 1 (.bool false)).els)), (v37.getD 2 (.bool false)), (D.sl ((v37.getD 3 (.bool false)).els)), (v37.getD 4 (.bool false))])))) [(D.int .i64 0), (D.sl ((r29.2.getD 0 (.bool false)).els)), (r29.2.getD 1 (.bool false)), (D.sl []), (D.int .i64 0)]).bind fun r72 =>
 some (D.st [(D.st [(D.sl ((r72.2.getD 2 (.bool false)).els))]), (r72.2.getD 3 (.bool false))])))))
theorem L12 {lp} (hlp : LpOk lp) : leafOk 12 (m1 (F12 lp)) := leaf1 (fn := Tryz.f12) (ann := A12) hlp (by kernel_rfl) (by kernel_rfl) (fun call a0 => by kernel_rfl)
def A13 : Ann := (.two .leaf (.two .leaf (.two (.two .leaf (.two (.loop ⟨[(5, .dv (Ty.int .i64))], [], [0, 1]⟩ [(.ret, ⟨[(4, .dv Ty.bool)], [], []⟩), (.exit 0, ⟨[], [], []⟩)] (.two .leaf (.two (.two (.two (.reg [] 8) .leaf) .leaf) .leaf))) .leaf)) .leaf)))
noncomputable def F13 (lp : Lp) (call : Nat -> List D -> Option D) (a0 : D) (a1 : D) : Option D :=
(D.asSl a0).bind fun l1 =>
(D.asSl a1).bind fun l2 =>
(D.truth (D.bool (!(D.beq (D.int .i64 (l1.length)) (D.int .i64 (l2.length)))))).bind fun b3 =>
 if b3 then (some (D.bool false)) else ((lp (β := Nat × List D) (fun (v4 : List D) =>
(D.asSl a0).bind fun l5 =>
(D.bin .lss (v4.getD 0 (.bool false)) (D.int .i64 (l5.length))).bind fun x6 =>
(D.truth x6).bind fun b7 =>
 if b7 then ((D.asSl a0).bind fun l8 =>
(D.idx (v4.getD 0 (.bool false)) (l8.length)).bind fun i9 =>
(l8[i9]?).bind fun x10 =>
(D.asSl a1).bind fun l11 =>
(D.idx (v4.getD 0 (.bool false)) (l11.length)).bind fun i12 =>
(l11[i12]?).bind fun x13 =>
(D.truth (D.bool (!(D.beq x10 x13)))).bind fun b14 =>
 if b14 then (some (Sum.inr (0, [(D.bool false)]))) else ((D.bin .add (v4.getD 0 (.bool false)) (D.int .i64 1)).bind fun x15 =>
 some (Sum.inl [x15]))) else (some (Sum.inr (1, [])))) [(D.int .i64 0)]).bind fun r16 =>
 if r16.1 = 0 then (some (r16.2.getD 0 (.bool false))) else (some (D.bool true)))
theorem L13 {lp} (hlp : LpOk lp) : leafOk 13 (m2 (F13 lp)) := leaf2 (fn := Tryz.f13) (ann := A13) hlp (by kernel_rfl) (by kernel_rfl) (fun call a0 a1 => by kernel_rfl)
theorem L14 {lp} (hlp : LpOk lp) : leafOk 14 (evG lp 14 Tryz.f14 .leaf) := leafE hlp (by kernel_rfl) (by kernel_rfl)
noncomputable def F15 (lp : Lp) (call : Nat -> List D -> Option D) (a0 : D) : Option D :=
(D.get a0 [0]).bind fun x1 =>
(call 12 [x1]).bind fun r2 =>
(D.get r2 [1]).bind fun x3 =>
(D.truth (D.bool (D.beq x3 (D.int .i64 0)))).bind fun b4 =>
(if b4 then ((D.get r2 [0, 0]).bind fun x5 =>
(D.get a0 [0]).bind fun x6 =>
(call 13 [x5, x6]).bind fun r7 =>
(D.un .not r7).bind fun x8 =>
 D.truth x8) else (some false)).bind fun b9 =>
(D.truth (D.bool b9)).bind fun b10 =>
 if b10 then (some (D.int .i64 3)) else ((D.get r2 [1]).bind fun x11 =>
 some x11)
theorem L15 {lp} (hlp : LpOk lp) : leafOk 15 (m1 (F15 lp)) := leaf1 (fn := Tryz.f15) (ann := .leaf) hlp (by kernel_rfl) (by kernel_rfl) (fun call a0 => by kernel_rfl)
noncomputable def F16 (lp : Lp) (call : Nat -> List D -> Option D) (a0 : D) : Option D :=
(D.get a0 [0]).bind fun x1 =>
(D.asSl x1).bind fun l2 =>
(D.bin .leq (D.int .i64 (l2.length)) (D.int .i64 16)).bind fun x3 =>
(D.truth x3).bind fun b4 =>
(if b4 then ((call 15 [a0]).bind fun r5 =>
 D.truth (D.bool (D.beq r5 (D.int .i64 0)))) else (some false)).bind fun b6 =>
 some (D.bool b6)
theorem L16 {lp} (hlp : LpOk lp) : leafOk 16 (m1 (F16 lp)) := leaf1 (fn := Tryz.f16) (ann := .leaf) hlp (by kernel_rfl) (by kernel_rfl) (fun call a0 => by kernel_rfl)
def A17 : Ann := (.two .leaf (.two .leaf (.two (.two .leaf (.two (.loop ⟨[(5, .dv (Ty.int .i64))], [], [0, 1]⟩ [(.ret, ⟨[(4, .dv Ty.bool)], [], []⟩), (.exit 0, ⟨[], [], []⟩)] (.two .leaf (.two (.two (.two .leaf (.two .leaf (.two (.loop ⟨[(6, .dv (Ty.int .i64))], [], [0, 1, 5]⟩ [(.ret, ⟨[(4, .dv Ty.bool)], [], []⟩), (.exit 2, ⟨[], [], [0, 1, 5]⟩)] (.two .leaf (.two (.two (.two (.reg [] 16) .leaf) .leaf) .leaf))) .leaf))) .leaf) .leaf))) .leaf)) .leaf)))
theorem L17 {lp} (hlp : LpOk lp) : leafOk 17 (evG lp 17 Tryz.f17 A17) := leafE hlp (by kernel_rfl) (by kernel_rfl)
def A18 : Ann := (.two .leaf (.two .leaf (.two (.two .leaf (.two (.loop ⟨[(1, .same (.ptr K3 4097 [])), (3, .ow K6), (10, .dv (Ty.int .i64))], [(4097, .keep K3 1)], [8, 9]⟩ [(.exit 0, ⟨[(3, .ow K6)], [], []⟩)] (.two .leaf (.two .leaf (.two (.two (.two .leaf (.reg [] 11)) .leaf) .leaf)))) .leaf)) .leaf)))
noncomputable def F18 (lp : Lp) (call : Nat -> List D -> Option D) (a0 : D) : Option D :=
(D.get a0 [0]).bind fun x1 =>
(call 45 [x1]).bind fun r2 =>
(D.asSl r2).bind fun l3 =>
(lp (β := Nat × List D) (fun (v4 : List D) =>
(D.bin .lss (v4.getD 1 (.bool false)) (D.int .i64 (l3.length))).bind fun x5 =>
(D.truth x5).bind fun b6 =>
 if b6 then ((D.asSl r2).bind fun l7 =>
(D.idx (v4.getD 1 (.bool false)) (l7.length)).bind fun i8 =>
(l7[i8]?).bind fun x9 =>
(D.get x9 [0]).bind fun x10 =>
(D.get x9 [1]).bind fun x11 =>
(D.get a0 [0]).bind fun x12 =>
(call 46 [x12, x9]).bind fun r13 =>
 if List.length ((v4.getD 0 (.bool false)).els) + List.length [(D.st [x10, x11, r13])] <= 1073741824 then ((D.bin .add (v4.getD 1 (.bool false)) (D.int .i64 1)).bind fun x14 =>
 some (Sum.inl [(D.sl (((v4.getD 0 (.bool false)).els) ++ [(D.st [x10, x11, r13])])), x14])) else none) else (some (Sum.inr (0, [(D.sl ((v4.getD 0 (.bool false)).els))])))) [(D.sl []), (D.int .i64 0)]).bind fun r15 =>
 some (D.sl ((r15.2.getD 0 (.bool false)).els))
theorem L18 {lp} (hlp : LpOk lp) : leafOk 18 (m1 (F18 lp)) := leaf1 (fn := Tryz.f18) (ann := A18) hlp (by kernel_rfl) (by kernel_rfl) (fun call a0 => by kernel_rfl)
def A20 : Ann := (.two .leaf (.two .leaf (.two (.two .leaf (.two (.loop ⟨[(5, .dv (Ty.int .i64))], [], [0, 1]⟩ [(.ret, ⟨[(4, .dv Ty.bool)], [], []⟩), (.exit 0, ⟨[], [], []⟩)] (.two .leaf (.two (.two (.two (.reg [] 8) .leaf) .leaf) .leaf))) .leaf)) .leaf)))
theorem L20 {lp} (hlp : LpOk lp) : leafOk 20 (evG lp 20 Tryz.f20 A20) := leafE hlp (by kernel_rfl) (by kernel_rfl)
end Go.Proofs.YtjjjkojfijpeeaaGreat.Sy
end
