/- Part 12 of the proof that HullIsClosed answers true at every input -/
import Derived.Test.YtjjjkojfijpeeaaGreatClosed09
import Derived.Test.YtjjjkojfijpeeaaGreatClosed11
set_option linter.unusedVariables false
set_option linter.unusedSimpArgs false
set_option linter.unnecessarySimpa false
section
set_option linter.unusedVariables false
namespace Go.Proofs.YtjjjkojfijpeeaaGreat.Sy
open Go Go.Proofs Go.Sort Go.Lib
section
variable {r : Root} {lp : Lp} {call : Nat -> List D -> Option D}
theorem wl_call {P : Program} {ro : Option Nat} {nn : Nat} {ops : Array Oper} {rest : List Oper} {a : Act} {w : World} {K : Value -> World -> Prop} {Q : Exit -> Act -> World -> Prop} {d : Option Nat} {args : Array Operand} {ats : Array TypeId} {y : TypeId} {p : String} {fs : Array Edge} {f : Nat}
   (hf : ∃ fn, P.funcs[f]? = some fn /\ (fn.name == "runtime.NumGoroutine") = false /\ fn.body.isSome = true) (vs : Array Value) (h : args.map a.eval = vs) (hc : Calls P f vs w fun en w' => ∃ v, en = .returned v /\ K v w')
   (hk : ∀ v w', K v w' -> wpListIn (FW ro) nn P ops Q rest (a.put d v) w') : wpListIn (FW ro) nn P ops Q (⟨d, .call ⟨.value (.func f), args, ats⟩, y, p, fs, none⟩ :: rest) a w :=
 wl_op rfl (OpOk.enter (h ▸ exec_call hf a w d args ats y p fs) hc) hk
theorem guards_of {l : List Oper} (h : (l.all fun o => o.guard.isNone) = true) : ∀ x ∈ l, x.guard = none := fun x hx => by
 have := List.all_eq_true.1 h x hx
 cases hg : x.guard with
 | none => rfl
 | some g => rw [hg] at this; cases this
theorem hv0_151 {l : List D} : ev (envQ lp call) (.region 0 ((opsOf (sq1 (bodyOf Tryz.f151))).tail).toArray false) .leaf D (dS 16 [0, 5] (fun i => if i = 5 then .d (.sl K1) (.sl l) else .undef)) (kW [(6, .int .i64), (7, .int .i64)]) = some (.tup [.int .i64 (l.length : Nat), .int .i64 0]) := by kernel_rfl
noncomputable def loop151 : Code := inLoop (inBlk (sq2 (bodyOf Tryz.f151)))
theorem hv1_151 {l : List D} (k : Nat) : ev (envQ lp call) (sq1 loop151) .leaf D (sIt K1 l k [0, 5, 6, 7]) (kW [(7, .int .i64), (8, .bool)]) = some (.tup [.int .i64 (k : Nat), .bool (decide ((k : Int) < (l.length : Nat)))]) := by kernel_rfl
theorem hv2_151 {l : List D} (k : Nat) : ev (envQ lp call) (sq1 (inBlk (sq1 (sq2 (sq2 loop151))))) .leaf D (sIt K1 l k [0, 5, 6, 7]) (kBox K1) = (D.idx (.int .i64 (k : Nat)) l.length).bind fun i => l[i]? := by
 have : ev (envQ lp call) (sq1 (inBlk (sq1 (sq2 (sq2 loop151))))) .leaf D (sIt K1 l k [0, 5, 6, 7]) (kBox K1) = (D.idx (.int .i64 (k : Nat)) l.length).bind fun i => (l[i]?).bind fun x => some x := by kernel_rfl
 rw [this]
 simp
theorem hv4_151 {l : List D} (k : Nat) : ev (envQ lp call) (sq2 (sq2 (sq2 loop151))) .leaf D (sIt K1 l k [0, 5, 6]) (kW [(7, .int .i64)]) = (D.bin .add (.int .i64 (k : Nat)) (.int .i64 1)).bind fun x => some (.tup [x]) := by
 have : ev (envQ lp call) (sq2 (sq2 (sq2 loop151))) .leaf D (sIt K1 l k [0, 5, 6]) (kW [(7, .int .i64)]) = some (.tup [.int .i64 (IntKind.wrap .i64 ((k : Int) + 1))]) := by kernel_rfl
 rw [this]; rfl
theorem vals151 (hE : EnvOk Tryz.prog (envQ lp call)) {l : List D} (hwt : ∀ x ∈ l, wt K1 x) (hlen : l.length <= 1073741824) {w : World} {S S0 : Nat -> Nat -> Prop} (hS : ∀ b o, S b o -> b < w.heap.size) {B : Nat} {sv : Value} (hB : ∀ W, Ext (rootOf w S0) W -> W.cell? ⟨B, 0, none⟩ = some sv) (hsv : CR w S (.sl l) sv) :
   ItOk Tryz.prog (rootOf w S0) K1 l 151 #[.pointer (some ⟨B, 0, none⟩)] := by
 intro nn L J hJe hJ hY W0 h0
 exact vals_gen hE (e := K1) rfl rfl hwt hlen hS hB hsv J hJe hJ hY (fn := Tryz.f151) (by kernel_rfl) rfl rfl rfl (Ts := 22) (Te := 60) (by kernel_rfl) (by kernel_rfl) rfl (guards_of rfl) rfl hv0_151 hv1_151 hv2_151 hv4_151 h0
theorem slot_put {a : Act} {t u : Nat} {v : Value} (h : t < a.tmps.size) : (a.put (some t) v).tmps.getD u undef = if u = t then v else a.tmps.getD u undef := by
 by_cases hh : u = t
 . subst hh; rw [if_pos rfl, getD_put_self h]
 . rw [if_neg hh, getD_put_ne fun e => hh e.symm]
theorem eval_tmp {a : Act} {t : Nat} : a.eval (.tmp t) = a.tmps.getD t undef := rfl
theorem eval_const {a : Act} {v : Value} : a.eval (.const v) = v := rfl
theorem eval_func {a : Act} {f : Nat} : a.eval (.func f) = .func (.func f) #[] #[] := rfl
section
variable {P : Program} {ro : Option Nat} {nn : Nat} {ops : Array Oper} {rest : List Oper} {a : Act} {w : World} {Q : Exit -> Act -> World -> Prop} {d : Option Nat} {x : Operand} {y : TypeId} {p : String} {fs : Array Edge}
theorem wl_move (h : wpListIn (FW ro) nn P ops Q rest (a.put d (a.eval x)) w) : wpListIn (FW ro) nn P ops Q (⟨d, .move x, y, p, fs, none⟩ :: rest) a w := by
 refine wl_op (K := fun v w' => v = a.eval x /\ w = w') rfl (OpOk.value (v := a.eval x) (w' := w) rfl ⟨rfl, rfl⟩) ?_
 rintro _ _ ⟨rfl, rfl⟩
 exact h
theorem wl_assign (h : wpListIn (FW ro) nn P ops Q rest (a.put d (a.eval x)) w) : wpListIn (FW ro) nn P ops Q (⟨d, .assign x, y, p, fs, none⟩ :: rest) a w := by
 refine wl_op (K := fun v w' => v = a.eval x /\ w = w') rfl (OpOk.value (v := a.eval x) (w' := w) rfl ⟨rfl, rfl⟩) ?_
 rintro _ _ ⟨rfl, rfl⟩
 exact h
theorem wl_nil (h : Q .normal a w) : wpListIn (FW ro) nn P ops Q [] a w := h
end
theorem collect_gen {P : Program} {f g : Nat} {fn : Func} (hfn : P.funcs[f]? = some fn) {i0 i1 : Nat} {R0 R1 : Array Oper} (hbody : fn.body = some (.seq (.region i0 R0 false) (.seq (.region i1 R1 false) .ret))) (hnt : fn.ntmps = 5) (hres : fn.results = #[.tmp 2])
   {y2 y3 y4 y5 : TypeId} {p2 p3 p4 p5 : String} {f2 f3 f4 f5 : Array Edge} {ats : Array TypeId} (hR0 : R0.toList = [⟨some 2, .assign (.const (.slice none 0 0)), y2, p2, f2, none⟩])
   (hR1 : R1.toList = [⟨some 3, .move (.tmp 0), y3, p3, f3, none⟩, ⟨some 4, .call ⟨.value (.func g), #[.const (.slice none 0 0), .tmp 3], ats⟩, y4, p4, f4, none⟩, ⟨some 2, .assign (.tmp 4), y5, p5, f5, none⟩])
   (hg : ∃ fn, P.funcs[g]? = some fn /\ (fn.name == "runtime.NumGoroutine") = false /\ fn.body.isSome = true) {fv : Value} {R : Value -> World -> Prop} {W0 : World} (hc : Calls P g #[.slice none 0 0, fv] W0 fun en W' => ∃ v, en = .returned v /\ R v W') :
   Calls P f #[fv] W0 fun en W' => ∃ v, en = .returned v /\ R v W' := by
 refine calls_of_wpI hfn hbody ?_
 generalize ha0 : Act.mk _ _ = a0
 have hsz0 : a0.tmps.size = 5 := by rw [<- ha0]; simp [hnt]
 have e0 : a0.tmps.getD 0 undef = fv := by rw [<- ha0, hnt]; rfl
 have hd0 : a0.defers = [] := by rw [<- ha0]
 clear ha0
 refine wpIn_seq (wpIn_region_list ?_)
 rw [hR0]
 refine wl_assign (wl_nil ?_)
 refine wpIn_seq (wpIn_region_list ?_)
 rw [hR1]
 refine wl_move (wl_call hg _ ?_ hc fun v w1 hv => wl_assign (wl_nil ?_))
 . simp only [List.map_toArray, List.map_cons, List.map_nil, eval_tmp, eval_const, slot_put, size_put, hsz0, e0, reduceIte, Nat.reduceLT, Nat.reduceEqDiff]
 . refine wpIn_ret ⟨by simp only [defers_put, hd0], v, (results_tmp hres _ _ _).trans ?_, v, rfl, hv⟩
   simp only [eval_tmp, eval_const, slot_put, size_put, hsz0, e0, reduceIte, Nat.reduceLT, Nat.reduceEqDiff]
theorem collect149 (hE : EnvOk Tryz.prog (envQ lp call)) {l : List D} (hwt : ∀ x ∈ l, wt K1 x) (hlen : l.length <= 1073741824) {lb : Array Value} (hIt : ItOk Tryz.prog r K1 l 151 lb) {W0 : World} (h0 : Ext r W0) :
   Calls Tryz.prog 149 #[.func (.func 151) #[] lb] W0 fun en W' => ∃ v, en = .returned v /\ OwnRes r K1 l v W' :=
 collect_gen (fn := Tryz.f149) (by kernel_rfl) rfl rfl rfl rfl rfl fn176 (callsIn_wide.1 (appendSeq176 hE (nn := 0) hwt hlen hIt h0))
end
end Go.Proofs.YtjjjkojfijpeeaaGreat.Sy
end
section
set_option linter.unusedVariables false
namespace Go.Proofs.YtjjjkojfijpeeaaGreat.Sy
open Go Go.Proofs Go.Sort Go.Lib
section
variable {P : Program} {E : Env} {r : Root}
theorem wl_fn {ro : Option Nat} {nn : Nat} {ops : Array Oper} {rest : List Oper} {a : Act} {w : World} {Q : Exit -> Act -> World -> Prop} {d : Option Nat} {y : TypeId} {p : String} {fs : Array Edge} {g t : Nat}
   (h : wpListIn (FW ro) nn P ops Q rest (a.put d (.func (.func g) #[] #[a.tmps.getD t undef])) w) : wpListIn (FW ro) nn P ops Q (⟨d, .makeFunc (.func g) #[] #[.tmp t], y, p, fs, none⟩ :: rest) a w := by
 refine wl_op (K := fun v w' => v = .func (.func g) #[] #[a.tmps.getD t undef] /\ w = w') rfl (OpOk.value (v := .func (.func g) #[] #[a.tmps.getD t undef]) (w' := w) ?_ ⟨rfl, rfl⟩) ?_
 . simp [execOp, Instr.makeFunc, eval_tmp]
 rintro _ _ ⟨rfl, rfl⟩
 exact h
theorem sortedFunc_gen {f150 g : Nat} (hf : ∃ fn, P.funcs[f150]? = some fn /\ (fn.name == "runtime.NumGoroutine") = false /\ fn.body.isSome = true) {K0 K : Value -> World -> Prop} (hsort : ∀ v w, K0 v w -> Calls P f150 #[v, .func (.func g) #[] #[]] w fun en w' => ∃ u, en = .returned u /\ K v w')
   {f f149 : Nat} {fn : Func} (hfn : P.funcs[f]? = some fn) {i0 i1 i2 i3 : Nat} {R0 R1 R2 R3 : Array Oper} (hbody : fn.body = some (.seq (.region i0 R0 false) (.seq (.region i1 R1 false) (.seq (.region i2 R2 false) (.seq (.region i3 R3 false) .ret))))) (hnt : fn.ntmps = 12) (hres : fn.results = #[.tmp 4])
   {y2 y3 y4 y5 y6 y7 y8 y9 y10 : TypeId} {p2 p3 p4 p5 p6 p7 p8 p9 p10 : String} {f2 f3 f4 f5 f6 f7 f8 f9 f10 : Array Edge} {ats ats2 : Array TypeId} (hR0 : R0.toList = [⟨some 4, .assign (.const (.slice none 0 0)), y2, p2, f2, none⟩])
   (hR1 : R1.toList = [⟨some 6, .move (.tmp 0), y3, p3, f3, none⟩, ⟨some 7, .call ⟨.value (.func f149), #[.tmp 6], ats⟩, y4, p4, f4, none⟩, ⟨some 5, .assign (.tmp 7), y5, p5, f5, none⟩])
   (hR2 : R2.toList = [⟨some 8, .move (.tmp 5), y6, p6, f6, none⟩, ⟨some 9, .move (.tmp 1), y7, p7, f7, none⟩, ⟨some 10, .call ⟨.value (.func f150), #[.tmp 8, .tmp 9], ats2⟩, y8, p8, f8, none⟩])
   (hR3 : R3.toList = [⟨some 11, .move (.tmp 5), y9, p9, f9, none⟩, ⟨some 4, .assign (.tmp 11), y10, p10, f10, none⟩])
   (hg : ∃ fn, P.funcs[f149]? = some fn /\ (fn.name == "runtime.NumGoroutine") = false /\ fn.body.isSome = true) {fv : Value} {W0 : World} (hc : Calls P f149 #[fv] W0 fun en W' => ∃ v, en = .returned v /\ K0 v W') :
   Calls P f #[fv, .func (.func g) #[] #[]] W0 fun en W' => ∃ v, en = .returned v /\ K v W' := by
 refine calls_of_wpI hfn hbody ?_
 generalize ha0 : Act.mk _ _ = a0
 have hsz0 : a0.tmps.size = 12 := by rw [<- ha0]; simp [hnt]
 have e0 : a0.tmps.getD 0 undef = fv := by rw [<- ha0, hnt]; rfl
 have e1 : a0.tmps.getD 1 undef = .func (.func g) #[] #[] := by rw [<- ha0, hnt]; rfl
 have hd0 : a0.defers = [] := by rw [<- ha0]
 clear ha0
 refine wpIn_seq (wpIn_region_list ?_)
 rw [hR0]
 refine wl_assign (wl_nil ?_)
 refine wpIn_seq (wpIn_region_list ?_)
 rw [hR1]
 refine wl_move (wl_call hg _ ?_ hc fun v w1 hv => wl_assign (wl_nil ?_))
 . simp only [List.map_toArray, List.map_cons, List.map_nil, eval_tmp, eval_const, slot_put, size_put, hsz0, e0, reduceIte, Nat.reduceLT, Nat.reduceEqDiff]
 generalize ha2 : Act.put _ (some 5) _ = a2
 have hsz2 : a2.tmps.size = 12 := by rw [<- ha2]; simp only [size_put, hsz0]
 have e5 : a2.tmps.getD 5 undef = v := by rw [<- ha2]; simp only [eval_tmp, eval_const, slot_put, size_put, hsz0, reduceIte, Nat.reduceLT, Nat.reduceEqDiff]
 have e1' : a2.tmps.getD 1 undef = .func (.func g) #[] #[] := by rw [<- ha2]; simp only [eval_tmp, eval_const, slot_put, size_put, hsz0, e1, reduceIte, Nat.reduceLT, Nat.reduceEqDiff]
 have hd2 : a2.defers = [] := by rw [<- ha2]; simp only [defers_put, hd0]
 clear ha2
 have hcs' := hsort v w1 hv
 refine wpIn_seq (wpIn_region_list ?_)
 rw [hR2]
 refine wl_move (wl_move (wl_call hf _ ?_ hcs' fun u w2 hu => wl_nil ?_))
 . simp only [List.map_toArray, List.map_cons, List.map_nil, eval_tmp, eval_const, slot_put, size_put, hsz2, e5, e1', reduceIte, Nat.reduceLT, Nat.reduceEqDiff]
 generalize ha3 : Act.put _ (some 10) _ = a3
 have hsz3 : a3.tmps.size = 12 := by rw [<- ha3]; simp only [size_put, hsz2]
 have e5' : a3.tmps.getD 5 undef = v := by rw [<- ha3]; simp only [eval_tmp, eval_const, slot_put, size_put, hsz2, e5, reduceIte, Nat.reduceLT, Nat.reduceEqDiff]
 have hd3 : a3.defers = [] := by rw [<- ha3]; simp only [defers_put, hd2]
 clear ha3
 refine wpIn_seq (wpIn_region_list ?_)
 rw [hR3]
 refine wl_move (wl_assign (wl_nil (wpIn_ret ⟨by simp only [defers_put, hd3], v, (results_tmp hres _ _ _).trans ?_, v, rfl, hu⟩)))
 simp only [eval_tmp, eval_const, slot_put, size_put, hsz3, e5', reduceIte, Nat.reduceLT, Nat.reduceEqDiff]
def ValsRes (w : World) (S : Nat -> Nat -> Prop) (l : List D) (g : Nat) (v : Value) (w1 : World) : Prop :=
 ∃ B S1 sv, v = .func (.func g) #[] #[.pointer (some ⟨B, 0, none⟩)] /\ Ext (rootOf w S) w1 /\ w1.cell? ⟨B, 0, none⟩ = some sv /\ B < w1.heap.size /\ CR w1 S1 (.sl l) sv /\ (∀ b o, S1 b o -> b < w1.heap.size) /\ (∀ b o, S1 b o -> b < w.heap.size -> S b o)
theorem values_gen (hE : EnvOk P E) {e : Ty} (hne : noTup e = true) {l : List D} (hwt : ∀ x ∈ l, wt e x) {g : Nat}
   {f : Nat} {fn : Func} (hfn : P.funcs[f]? = some fn) {i0 i1 : Nat} {R0 R1 : Array Oper} (hbody : fn.body = some (.seq (.region i0 R0 false) (.seq (.region i1 R1 false) .ret))) (hnt : fn.ntmps = 4) (hres : fn.results = #[.tmp 2])
   {y2 y3 : TypeId} {p2 p3 : String} {f2 f3 : Array Edge} (hR1 : R1.toList = [⟨some 3, .makeFunc (.func g) #[] #[.tmp 1], y2, p2, f2, none⟩, ⟨some 2, .assign (.tmp 3), y3, p3, f3, none⟩])
   (hv0 : ev E (.region i0 R0 false) .leaf D (dS 4 [] (fun i => if i = 0 then .d (.sl e) (.sl l) else .undef)) (kBoxT (.sl e) 1) = some (.sl l))
   {w : World} {S : Nat -> Nat -> Prop} (hS : ∀ b o, S b o -> b < w.heap.size) {v0 : Value} (hv : DR0 w S (.sl l) v0) : Calls P f #[v0] w fun en w1 => ∃ v, en = .returned v /\ ValsRes w S l g v w1 := by
 refine calls_of_wpI hfn hbody ?_
 generalize ha0 : Act.mk _ _ = a0
 have hsz0 : a0.tmps.size = 4 := by rw [<- ha0]; simp [hnt]
 have e0 : a0.tmps.getD 0 undef = v0 := by rw [<- ha0, hnt]; rfl
 have hd0 : a0.defers = [] := by rw [<- ha0]
 clear ha0
 have RA := mkRp (lk := []) (f := fun i => if i = 0 then .d (.sl e) (.sl l) else .undef) hS hsz0 hd0 (fun t ht => by
   by_cases h5 : t = 0
   . subst h5; rw [if_pos rfl, e0]; exact .inl ⟨by simp only [noTup]; exact hne, ⟨l, rfl, hwt⟩, hv⟩
   . rw [if_neg h5]; simp only [AR]) (fun t ht => by rw [if_neg (by omega)])
 refine wpIn_seq (ev_ok hE _ .leaf D _ _ RA hv0 fun x s1 S1 γ1 β1 a1 w1 g1 g2 g3 g4 => ?_)
 obtain ⟨rfl, id, htm, hob⟩ := kBoxT_inv g4
 have hA := (g1.slot htm (by simp)).2
 simp only [AR, AC] at hA
 obtain ⟨hna, B, off, hB1, hγB, hB2⟩ := hA
 have hv1 : a1.tmps.getD 1 undef = .pointer (some ⟨B, off, none⟩) := cells_single hna hB1
 have hoff : off = 0 := (hB2 _ hob).2
 subst hoff
 have hO := g1.obs id _ B hob hγB
 simp only [ObR] at hO
 obtain ⟨_, _, _, cs, q4, q5, q6⟩ := hO
 simp only [AC] at q5
 obtain ⟨_, _, q7⟩ := q5
 have hl1 : cs.length = 1 := q6
 obtain ⟨sv, rfl⟩ : ∃ sv, cs = [sv] := by
   match cs, hl1 with
   | [sv], _ => exact ⟨sv, rfl⟩
 have hcr : CR w1 S1 (.sl l) sv := q7.2 0 _ sv (by simp [D.flat]) rfl
 have hsz1 : a1.tmps.size = 4 := by rw [g1.nt, g3.nt]; rfl
 have hd1 := g1.df
 simp only [exOf, Exit.then]
 refine wpIn_seq (wpIn_region_list ?_)
 rw [hR1]
 refine wl_fn (wl_assign (wl_nil (wpIn_ret ⟨by simp only [defers_put, hd1], _, (results_tmp hres _ _ _).trans ?_, _, rfl, B, S1, sv, rfl, g1.ext, ?_, (g1.γn id B hγB).2, hcr, g1.Sb, fun b o hb hlt => g1.So b o hb ⟨hlt, fun hf => hf⟩⟩)))
 . simp only [eval_tmp, eval_const, slot_put, size_put, hsz1, hv1, reduceIte, Nat.reduceLT, Nat.reduceEqDiff]
 . rw [cell_of_row w1 q4]; rfl
theorem sorted_gen {f f93 f92 f95 g : Nat} {fn : Func} (hfn : P.funcs[f]? = some fn) {i0 i1 i2 : Nat} {R0 R1 R2 : Array Oper} (hbody : fn.body = some (.seq (.region i0 R0 false) (.seq (.region i1 R1 false) (.seq (.region i2 R2 false) .ret)))) (hnt : fn.ntmps = 9) (hres : fn.results = #[.tmp 2])
   {y2 y3 y4 y5 y6 y7 y8 y9 : TypeId} {p2 p3 p4 p5 p6 p7 p8 p9 : String} {f2 f3 f4 f5 f6 f7 f8 f9 : Array Edge} {ats ats2 ats3 : Array TypeId} (hR0 : R0.toList = [⟨some 2, .assign (.const (.slice none 0 0)), y2, p2, f2, none⟩])
   (hR1 : R1.toList = [⟨some 4, .move (.tmp 0), y3, p3, f3, none⟩, ⟨some 5, .call ⟨.value (.func f93), #[.tmp 4], ats⟩, y4, p4, f4, none⟩, ⟨some 6, .call ⟨.value (.func f92), #[.tmp 5, .func g], ats2⟩, y5, p5, f5, none⟩, ⟨some 3, .assign (.tmp 6), y6, p6, f6, none⟩])
   (hR2 : R2.toList = [⟨some 7, .move (.tmp 3), y7, p7, f7, none⟩, ⟨some 8, .call ⟨.value (.func f95), #[.tmp 7], ats3⟩, y8, p8, f8, none⟩, ⟨some 2, .assign (.tmp 8), y9, p9, f9, none⟩])
   (hg93 : ∃ fn, P.funcs[f93]? = some fn /\ (fn.name == "runtime.NumGoroutine") = false /\ fn.body.isSome = true) (hg92 : ∃ fn, P.funcs[f92]? = some fn /\ (fn.name == "runtime.NumGoroutine") = false /\ fn.body.isSome = true) (hg95 : ∃ fn, P.funcs[f95]? = some fn /\ (fn.name == "runtime.NumGoroutine") = false /\ fn.body.isSome = true)
   {v0 : Value} {w : World} {K1 K2 K3 : Value -> World -> Prop} (h93 : Calls P f93 #[v0] w fun en w1 => ∃ v, en = .returned v /\ K1 v w1) (h92 : ∀ v w1, K1 v w1 -> Calls P f92 #[v, .func (.func g) #[] #[]] w1 fun en w2 => ∃ v, en = .returned v /\ K2 v w2)
   (h95 : ∀ v w2, K2 v w2 -> Calls P f95 #[v] w2 fun en w3 => ∃ v, en = .returned v /\ K3 v w3) : Calls P f #[v0] w fun en w3 => ∃ v, en = .returned v /\ K3 v w3 := by
 refine calls_of_wpI hfn hbody ?_
 generalize ha0 : Act.mk _ _ = a0
 have hsz0 : a0.tmps.size = 9 := by rw [<- ha0]; simp [hnt]
 have e0 : a0.tmps.getD 0 undef = v0 := by rw [<- ha0, hnt]; rfl
 have hd0 : a0.defers = [] := by rw [<- ha0]
 clear ha0
 refine wpIn_seq (wpIn_region_list ?_)
 rw [hR0]
 refine wl_assign (wl_nil ?_)
 refine wpIn_seq (wpIn_region_list ?_)
 rw [hR1]
 refine wl_move (wl_call hg93 _ ?_ h93 fun v w1 hv => wl_call hg92 _ ?_ (h92 v w1 hv) fun v2 w2 hv2 => wl_assign (wl_nil ?_))
 . simp only [List.map_toArray, List.map_cons, List.map_nil, eval_tmp, eval_const, slot_put, size_put, hsz0, e0, reduceIte, Nat.reduceLT, Nat.reduceEqDiff]
 . simp only [List.map_toArray, List.map_cons, List.map_nil, eval_tmp, eval_const, eval_func, slot_put, size_put, hsz0, e0, reduceIte, Nat.reduceLT, Nat.reduceEqDiff]
 generalize ha2 : Act.put _ (some 3) _ = a2
 have hsz2 : a2.tmps.size = 9 := by rw [<- ha2]; simp only [size_put, hsz0]
 have e3 : a2.tmps.getD 3 undef = v2 := by rw [<- ha2]; simp only [eval_tmp, eval_const, slot_put, size_put, hsz0, reduceIte, Nat.reduceLT, Nat.reduceEqDiff]
 have hd2 : a2.defers = [] := by rw [<- ha2]; simp only [defers_put, hd0]
 clear ha2
 refine wpIn_seq (wpIn_region_list ?_)
 rw [hR2]
 refine wl_move (wl_call hg95 _ ?_ (h95 v2 w2 hv2) fun v3 w3 hv3 => wl_assign (wl_nil (wpIn_ret ⟨by simp only [defers_put, hd2], v3, (results_tmp hres _ _ _).trans ?_, v3, rfl, hv3⟩)))
 . simp only [List.map_toArray, List.map_cons, List.map_nil, eval_tmp, eval_const, slot_put, size_put, hsz2, e3, reduceIte, Nat.reduceLT, Nat.reduceEqDiff]
 . simp only [eval_tmp, eval_const, slot_put, size_put, hsz2, reduceIte, Nat.reduceLT, Nat.reduceEqDiff]
end
end Go.Proofs.YtjjjkojfijpeeaaGreat.Sy
end
section
set_option linter.unusedVariables false
namespace Go.Proofs.YtjjjkojfijpeeaaGreat.Sy
open Go Go.Proofs Go.Sort Go.Lib
theorem dedF_snoc : ∀ (l : List D) (x y z : D), (x :: l).getLast? = some z -> dedF x (l ++ [y]) = if y.beq z then dedF x l else dedF x l ++ [y]
 | [], x, y, z, h => by
   simp at h
   subst h
   simp only [List.nil_append, dedF]
 | w :: l, x, y, z, h => by
   have h' : (w :: l).getLast? = some z := by simpa [List.getLast?_cons_cons] using h
   have ih := dedF_snoc l w y z h'
   simp only [List.cons_append, dedF]
   rw [ih]
   split <;> split <;> rfl
theorem ded_take {l : List D} {j : Nat} {x y : D} (hx : l[j]? = some x) (hy : l[j + 1]? = some y) : dedR (l.take (j + 2)) = if y.beq x then dedR (l.take (j + 1)) else dedR (l.take (j + 1)) ++ [y] := by
 cases l with
 | nil => simp at hx
 | cons a l =>
   simp only [List.getElem?_cons_succ] at hy
   have e1 : (a :: l).take (j + 2) = a :: (l.take j ++ [y]) := by
     rw [List.take_succ_cons, List.take_add_one, hy]; rfl
   have hlast : (a :: l.take j).getLast? = some x := by
     have hj : j < (a :: l).length := (List.getElem?_eq_some_iff.1 hx).1
     have e2 : (a :: l).take (j + 1) = a :: l.take j := rfl
     rw [<- e2, List.getLast?_eq_getElem?, List.length_take]
     rw [show min (j + 1) (a :: l).length - 1 = j by omega, List.getElem?_take, if_pos (Nat.lt_succ_self j)]
     exact hx
   rw [e1]
   have := dedF_snoc (l.take j) a y x hlast
   simp only [dedR, List.take_succ_cons]
   rw [this]
   split <;> rfl
theorem dedF_sub (x : D) : ∀ (l : List D), ∀ y ∈ dedF x l, y ∈ l
 | [], y, h => by simp [dedF] at h
 | z :: l, y, h => by
   simp only [dedF] at h
   split at h
   . exact List.mem_cons_of_mem _ (dedF_sub z l y h)
   . rcases List.mem_cons.1 h with rfl | h
     . exact List.mem_cons_self
     . exact List.mem_cons_of_mem _ (dedF_sub z l y h)
theorem dedR_sub : ∀ (l : List D), ∀ y ∈ dedR l, y ∈ l
 | [], y, h => by simp [dedR] at h
 | x :: l, y, h => by
   rcases List.mem_cons.1 h with rfl | h
   . exact List.mem_cons_self
   . exact List.mem_cons_of_mem _ (dedF_sub x l y h)
theorem dedR_short {l : List D} (h : l.length < 2) : dedR l = l := by
 match l, h with
 | [], _ => rfl
 | [x], _ => rfl
def HL (e : Ty) (W : World) (b off : Nat) (M : List D) : Prop := (∃ row, row? W b = some row /\ off + M.length * e.size <= row.size) /\ ∀ i d, (D.flats M)[i]? = some d -> W.cell? ⟨b, off + i, none⟩ = some (valOf d)
theorem HL.lt {e : Ty} {W : World} {b off : Nat} {M : List D} (h : HL e W b off M) : b < W.heap.size := by
 obtain ⟨⟨row, h1, _⟩, _⟩ := h
 unfold row? at h1
 cases hb : W.heap[b]? with
 | none => rw [hb] at h1; cases h1
 | some o => exact (Array.getElem?_eq_some_iff.1 hb).1
theorem HL.grow {e : Ty} {W : World} {b off : Nat} {M : List D} (h : HL e W b off M) (os : List Obj) (d : Nat) : HL e (grown W os d) b off M := by
 have hb := h.lt
 obtain ⟨⟨row, h1, h2⟩, h3⟩ := h
 have e1 : row? (grown W os d) b = row? W b := row_grown hb
 refine ⟨⟨row, by rw [e1]; exact h1, h2⟩, fun i x hx => ?_⟩
 rw [<- h3 i x hx]
 simp only [World.cell?, grown_old hb]
section
variable {e : Ty} (hce : cmpTy e = true) (hne : noTup e = true)
include hce hne
theorem HL.crl {W : World} {b off : Nat} {M : List D} (h : HL e W b off M) (hwt : ∀ x ∈ M, wt e x) {j m cap : Nat} (hm : m = M.length - j) (hj : j <= M.length) (hc : m <= cap) :
   CR W (fun b' _ => b' = b) (.sl (M.drop j)) (.slice (some ⟨b, off + j * e.size, none⟩) m cap) := by
 have hlen : (M.drop j).length = m := by rw [List.length_drop, hm]
 rw [<- hlen]
 have hlf := leaf_list hce (M.drop j) fun x hx => hwt x (List.mem_of_mem_drop hx)
 have hfl : D.flats (M.drop j) = (D.flats M).drop (j * e.size) := by
   have h1 : D.flats M = D.flats (M.take j) ++ D.flats (M.drop j) := by rw [<- flats_append, List.take_append_drop]
   have h2 : (D.flats (M.take j)).length = j * e.size := by
     rw [flats_len_of hne _ fun x hx => hwt x (List.mem_of_mem_take hx), List.length_take, Nat.min_eq_left hj]
   rw [h1, List.drop_append, h2, Nat.sub_self, List.drop_zero, List.drop_of_length_le (Nat.le_of_eq h2), List.nil_append]
 refine CR.of_elems (b := b) (off := off + j * e.size) (.inr rfl) (by omega) ⟨(D.flats (M.drop j)).map valOf, (CRl_leaf hlf).2 rfl, fun i c hc => ⟨rfl, ?_⟩⟩
 rw [List.getElem?_map] at hc
 cases hd : (D.flats (M.drop j))[i]? with
 | none => rw [hd] at hc; cases hc
 | some d =>
   rw [hd] at hc
   simp only [Option.map_some, Option.some.injEq] at hc
   subst hc
   rw [hfl, List.getElem?_drop] at hd
   have := h.2 _ d hd
   rw [show off + j * e.size + i = off + (j * e.size + i) by omega]
   exact this
omit hce in
theorem HL.set {W : World} {b off : Nat} {M : List D} (h : HL e W b off M) (hwt : ∀ x ∈ M, wt e x) {k : Nat} (hk : k < M.length) (hp : 0 < e.size) {x : D} (hx : wt e x) :
   HL e (putAt W b (off + k * e.size) (x.flat.map valOf).toArray) b off (M.set k x) := by
 obtain ⟨⟨row, h1, h2⟩, h3⟩ := h
 have hxl : x.flat.length = e.size := wt_len e x hx hne
 have hkm : k * e.size + e.size <= M.length * e.size := by
   have : (k + 1) * e.size <= M.length * e.size := Nat.mul_le_mul_right _ hk
   rwa [Nat.add_mul, Nat.one_mul] at this
 have hs : off + k * e.size + (x.flat.map valOf).toArray.size <= row.size := by simp [hxl]; omega
 refine ⟨⟨_, row_putAt h1, ?_⟩, fun i d hd => ?_⟩
 . rw [List.length_set]
   have : (splice row (off + k * e.size) (x.flat.map valOf).toArray).size = row.size := by
     simp only [splice, Array.size_append, Array.size_extract, List.size_toArray, List.length_map, hxl]; omega
   omega
 . rw [cell_of_row _ (row_putAt h1), splice_get _ _ _ _ hs]
   have hu : ∀ y ∈ M.set k x, y.flat.length = e.size := fun y hy => by
     rcases List.mem_or_eq_of_mem_set hy with hy | rfl
     . exact wt_len e y (hwt y hy) hne
     . exact hxl
   have hold := h3 i
   rw [flats_div hp _ hu] at hd
   rw [flats_div hp _ fun y hy => wt_len e y (hwt y hy) hne] at hold
   have hlt : i % e.size < e.size := Nat.mod_lt _ hp
   have hdm : e.size * (i / e.size) + i % e.size = i := Nat.div_add_mod i e.size
   rw [Nat.mul_comm] at hdm
   rw [List.getElem?_set] at hd
   by_cases hik : k = i / e.size
   . rw [if_pos hik, if_pos hk] at hd
     simp only [Option.bind_some] at hd
     rw [<- hik] at hdm
     rw [if_neg (by omega), if_pos (by simp [hxl]; omega)]
     have e1 : off + i - (off + k * e.size) = i % e.size := by omega
     rw [e1]
     simp [hd]
   . rw [if_neg hik] at hd
     have := hold d hd
     rw [cell_of_row _ h1] at this
     rw [<- this]
     rcases Nat.lt_or_ge (i / e.size) k with c | c
     . have : (i / e.size + 1) * e.size <= k * e.size := Nat.mul_le_mul_right _ c
       rw [Nat.add_mul, Nat.one_mul] at this
       rw [if_pos (by omega)]
     . have : (k + 1) * e.size <= i / e.size * e.size := Nat.mul_le_mul_right _ (by omega)
       rw [Nat.add_mul, Nat.one_mul] at this
       rw [if_neg (by omega), if_neg (by simp [hxl]; omega)]
end
theorem HL.take {e : Ty} {W W' : World} {b off : Nat} {M : List D} (hne : noTup e = true) (h : HL e W b off M) (hwt : ∀ x ∈ M, wt e x) {k : Nat} (hr : ∃ row, row? W' b = some row /\ off + (M.take k).length * e.size <= row.size) (hc : ∀ o, o < off + k * e.size -> W'.cell? ⟨b, o, none⟩ = W.cell? ⟨b, o, none⟩) : HL e W' b off (M.take k) := by
 refine ⟨hr, fun i d hd => ?_⟩
 have h2 : (D.flats (M.take k)).length <= k * e.size := by
   rw [flats_len_of hne _ fun x hx => hwt x (List.mem_of_mem_take hx), List.length_take]
   exact Nat.mul_le_mul_right _ (Nat.min_le_left _ _)
 have h1 : D.flats M = D.flats (M.take k) ++ D.flats (M.drop k) := by rw [<- flats_append, List.take_append_drop]
 have hi := (List.getElem?_eq_some_iff.1 hd).1
 rw [hc _ (by omega)]
 refine h.2 i d ?_
 rw [h1, List.getElem?_append_left hi]
 exact hd
end Go.Proofs.YtjjjkojfijpeeaaGreat.Sy
end
section
set_option linter.unusedVariables false
namespace Go.Proofs.YtjjjkojfijpeeaaGreat.Sy
open Go Go.Proofs Go.Sort Go.Lib
section
variable {P : Program} {E : Env} {r : Root} {ro : Option Nat} {nn : Nat}
theorem ev_words (hE : EnvOk P E) {c : Code} {ann : Ann} {W : World} {a : Act} {nt : Nat} {f : Nat -> AV} {lk : List Nat} (hsz : a.tmps.size = nt) (hdf : a.defers = []) {S : Nat -> Nat -> Prop} (hS : ∀ b o, S b o -> b < W.heap.size)
   (hf : ∀ t, t < nt -> AR ⟨W, S, fun _ => none, fun _ => none, fun _ => none, []⟩ (f t) (a.tmps.getD t undef)) (hu : ∀ t, nt <= t -> f t = .undef) {l : List (Nat × Ty)} {xs : List D} (hv : ev E c ann D (dS nt lk f) (kW l) = some (.tup xs)) {Q : Exit -> Act -> World -> Prop}
   (hQ : ∀ a' os d, W.drawn <= d -> a'.tmps.size = nt -> a'.defers = [] -> (∀ t ∈ lk, a'.tmps.getD t undef = a.tmps.getD t undef) -> (∀ (i t : Nat) (ty : Ty) (x : D), l[i]? = some (t, ty) -> xs[i]? = some x -> cmpTy ty = true -> a'.tmps.getD t undef = valOf x) -> Q .normal a' (grown W os d)) : c.wpIn (FW ro) nn P Q a W := by
 refine ev_ok hE c ann D _ _ (mkRp hS hsz hdf hf hu) hv fun x s' S' γ' β' a2 w2 g1 g2 g3 g4 => ?_
 obtain ⟨rfl, g5⟩ := kW_inv g4
 obtain ⟨os, dd, hdd, rfl⟩ := grown_of_ext g1.ext (fun _ hf => hf)
 exact hQ a2 os dd hdd (by rw [g1.nt, g3.nt]; rfl) g1.df (fun t ht => g2.slots t ht) fun i t ty x hi hx hc => g1.word g5 hi hx hc
theorem ext_grow {W : World} (h : Ext r W) {os : List Obj} {d : Nat} (hd : W.drawn <= d) : Ext r (grown W os d) :=
 ext_of h rfl rfl rfl (by simp [grown]) hd fun b hb => grown_old (Nat.lt_of_lt_of_le hb.1 h.sz)
theorem ext_put {W : World} (h : Ext r W) {b off : Nat} {cs : Array Value} (hb : ¬ r.Old b) : Ext r (putAt W b off cs) :=
 ext_of h rfl rfl rfl (by simp [putAt]) (Nat.le_refl _) fun b' hb' => heap_putAt fun e => hb (e ▸ hb')
theorem clear_run {T : TypeId} {e : Ty} (hl : layB P (.sl e) T = true) (hp : 0 < e.size) {W : World} {b off m cap : Nat} {row : Array Value} (hr : row? W b = some row) (hs : off + m * e.size <= row.size) (hm : 0 < m) (ty : TypeId) :
   ∃ cs : Array Value, cs.size = m * e.size /\ (Builtin.clear_ #[T] ty #[.slice (some ⟨b, off, none⟩) m cap]).run P W = .ok (.tuple #[]) (putAt W b off cs) := by
 obtain ⟨u, h1, h2⟩ := lay_sl hl
 obtain ⟨z, z1, z2, _⟩ := zero_run h2
 have hzl : ∀ (ds : List D) (cs : List Value), zeroB ds cs = true -> ds.length = cs.length /\ ∀ v ∈ cs, v.oneCell' = true := by
   intro ds
   induction ds with
   | nil => intro cs h; cases cs with | nil => exact ⟨rfl, by simp⟩ | cons c cs => simp [zeroB] at h
   | cons d ds ih =>
     intro cs h
     cases cs with
     | nil => simp [zeroB] at h
     | cons c cs =>
       simp only [zeroB, Bool.and_eq_true] at h
       obtain ⟨k1, k2⟩ := ih cs h.2
       refine ⟨by simp [k1], fun v hv => ?_⟩
       rcases List.mem_cons.1 hv with rfl | hv
       . have := h.1
         cases d <;> cases v <;> simp_all [embB, Value.oneCell']
       . exact k2 v hv
 obtain ⟨q1, q2⟩ := hzl _ _ z2
 have hn : noTup e = true := layB_noTup e u h2
 have hzs : z.cells.size = e.size := by
   rw [<- Array.length_toList, <- q1]; exact wt_len e _ (zeroD_wt e hn) hn
 have hcs : (Builtin.zeroCells z.cells m).size = m * e.size := by simp [Builtin.zeroCells, hzs]
 refine ⟨Builtin.zeroCells z.cells m, hcs, ?_⟩
 have hst := run_storeCells_list (P := P) b off (Builtin.zeroCells z.cells m).toList 0 W row hr (by simp only [Array.length_toList, hcs]; omega) (by
   rw [List.all_eq_true]
   intro v hv
   have hv' : v ∈ Builtin.zeroCells z.cells m := by simpa using hv
   obtain ⟨i, hi, rfl⟩ := Array.getElem_of_mem hv'
   have hlt : i % z.cells.size < z.cells.size := Nat.mod_lt _ (by omega)
   have hone := q2 (z.cells[i % z.cells.size]) (by simp)
   simp only [Builtin.zeroCells, Array.getElem_map, Array.getElem_range]
   rw [getElem!_pos z.cells _ hlt]
   generalize z.cells[i % z.cells.size] = y at *
   cases y <;> simp_all [Value.oneCell', isOne])
 simp only [Nat.add_zero] at hst
 obtain ⟨m', rfl⟩ : ∃ m', m = m' + 1 := ⟨m - 1, by omega⟩
 simp [Builtin.clear_, Sem.run_bind, run_underlying h1, Result.andThen_ok, z1, hst]
end
end Go.Proofs.YtjjjkojfijpeeaaGreat.Sy
end
section
set_option linter.unusedVariables false
namespace Go.Proofs.YtjjjkojfijpeeaaGreat.Sy
open Go Go.Proofs Go.Sort Go.Lib
section
variable {P : Program} {ro : Option Nat} {nn : Nat} {ops : Array Oper} {rest : List Oper} {a : Act} {w : World} {Q : Exit -> Act -> World -> Prop} {d : Option Nat} {x y i : Operand} {ty : TypeId} {p : String} {fs : Array Edge} {T : TypeId} {e : Ty}
theorem wl_slice (hl : layB P (.sl e) T = true) {A : Option Addr} {len cap lo hi : Nat} {olo ohi : Option Operand} (hx : a.eval x = .slice A len cap) (h1 : lo <= hi) (h2 : hi <= len) (h3 : len <= cap)
   (hlo : (olo = none /\ lo = 0) \/ ∃ o, olo = some o /\ a.eval o = .int .i64 (lo : Nat)) (hhi : (ohi = none /\ hi = len) \/ ∃ o, ohi = some o /\ a.eval o = .int .i64 (hi : Nat))
   (h : wpListIn (FW ro) nn P ops Q rest (a.put d (.slice (if cap = lo then A else A.map (·.add (lo * e.size))) (hi - lo) (cap - lo))) w) : wpListIn (FW ro) nn P ops Q (⟨d, .slice T x olo ohi none, ty, p, fs, none⟩ :: rest) a w := by
 refine wl_op (K := fun v w' => v = .slice (if cap = lo then A else A.map (·.add (lo * e.size))) (hi - lo) (cap - lo) /\ w = w') rfl (OpOk.value (value_op (m := Instr.sliceAt T (a.eval x) (olo.map a.eval) (ohi.map a.eval) none) rfl ?_) ⟨rfl, rfl⟩) ?_
 . rw [hx]
   refine run_slice_ok hl h1 h2 h3 ?_ ?_ w
   . rcases hlo with ⟨rfl, rfl⟩ | ⟨o, rfl, h⟩
     . exact .inl ⟨rfl, rfl⟩
     . exact .inr ⟨.i64, by rw [Option.map_some, h]⟩
   . rcases hhi with ⟨rfl, rfl⟩ | ⟨o, rfl, h⟩
     . exact .inl ⟨rfl, rfl⟩
     . exact .inr ⟨.i64, by rw [Option.map_some, h]⟩
 rintro _ _ ⟨rfl, rfl⟩
 exact h
theorem wl_index (hl : layB P (.sl e) T = true) {b off len cap k : Nat} (hx : a.eval x = .slice (some ⟨b, off, none⟩) len cap) (hi : a.eval i = .int .i64 (k : Nat)) (hk : k < len)
   (h : wpListIn (FW ro) nn P ops Q rest (a.put d (.pointer (some ⟨b, off + k * e.size, none⟩))) w) : wpListIn (FW ro) nn P ops Q (⟨d, .indexAddr T x i, ty, p, fs, none⟩ :: rest) a w := by
 refine wl_op (K := fun v w' => v = .pointer (some ⟨b, off + k * e.size, none⟩) /\ w = w') rfl (OpOk.value (value_op (m := Instr.indexAt T (a.eval x) (a.eval i)) rfl ?_) ⟨rfl, rfl⟩) ?_
 . rw [hx, hi]; exact run_indexAt_sl hl hk b off w
 rintro _ _ ⟨rfl, rfl⟩
 exact h
theorem wl_load (hl : layB P e T = true) {b off : Nat} {cs : List Value} (hx : a.eval x = .pointer (some ⟨b, off, none⟩)) (hlen : cs.length = e.size) (hn : nag cs) (hc : ∀ (i : Nat) (c : Value), cs[i]? = some c -> w.cell? ⟨b, off + i, none⟩ = some c)
   (h : ∀ v, isVal e cs v -> wpListIn (FW ro) nn P ops Q rest (a.put d v) w) : wpListIn (FW ro) nn P ops Q (⟨d, .load T x, ty, p, fs, none⟩ :: rest) a w := by
 obtain ⟨v, h1, h2⟩ := run_load_ok (P := P) hl hlen hn hc
 refine wl_op (K := fun v' w' => v' = v /\ w = w') rfl (OpOk.value (value_op (m := Instr.loadAt T (a.eval x)) rfl ?_) ⟨rfl, rfl⟩) ?_
 . rw [hx]; exact h1
 rintro _ _ ⟨rfl, rfl⟩
 exact h _ h2
theorem wl_store (hl : layB P e T = true) {b off : Nat} {c : Array Value} {v : Value} {cs : List Value} (hx : a.eval x = .pointer (some ⟨b, off, none⟩)) (hy : a.eval y = v) (hr : row? w b = some c) (hv : isVal e cs v) (hlen : cs.length = e.size) (hn : nag cs) (hb : off + cs.length <= c.size)
   (h : wpListIn (FW ro) nn P ops Q rest a (putAt w b off cs.toArray)) : wpListIn (FW ro) nn P ops Q (⟨none, .store T x y, ty, p, fs, none⟩ :: rest) a w := by
 have h1 := run_store_ok (P := P) hl hr hv hlen hn hb
 refine wl_op (K := fun v' w' => w' = putAt w b off cs.toArray) rfl (OpOk.skip (w' := putAt w b off cs.toArray) ?_ rfl) ?_
 . simp only [execOp, hx, hy, Sem.run_bind, h1, Result.andThen_ok, Sem.run_pure]
 rintro _ _ rfl
 exact h
theorem wl_clear (hl : layB P (.sl e) T = true) (hp : 0 < e.size) {b off m cap : Nat} {row : Array Value} (hx : a.eval x = .slice (some ⟨b, off, none⟩) m cap) (hr : row? w b = some row) (hs : off + m * e.size <= row.size) (hm : 0 < m)
   (h : ∀ cs : Array Value, cs.size = m * e.size -> ∀ v, wpListIn (FW ro) nn P ops Q rest (a.put d v) (putAt w b off cs)) : wpListIn (FW ro) nn P ops Q (⟨d, .call ⟨.builtin .clear, #[x], #[T]⟩, ty, p, fs, none⟩ :: rest) a w := by
 obtain ⟨cs, h1, h2⟩ := clear_run (P := P) (cap := cap) hl hp hr hs hm ty
 refine wl_op (K := fun v' w' => w' = putAt w b off cs) rfl (OpOk.value (v := .tuple #[]) (w' := putAt w b off cs) ?_ rfl) ?_
 . simp [execOp, resolve, invoke, builtin, hx, h2, Sem.run_bind, Result.andThen_ok]
 rintro v _ rfl
 exact h cs h1 v
end
end Go.Proofs.YtjjjkojfijpeeaaGreat.Sy
end
section
set_option linter.unusedVariables false
namespace Go.Proofs.YtjjjkojfijpeeaaGreat.Sy
open Go Go.Proofs Go.Sort Go.Lib
def f1C (e : Ty) (L : List D) (k : Nat) : Nat -> AV := fun i => if i = 0 then .d (.sl e) (.sl L) else if i = 3 then .d (.int .i64) (.int .i64 (k : Nat)) else .undef
def f2C (t k : Nat) : Nat -> AV := fun i => if i = t then .d (.int .i64) (.int .i64 (k : Nat)) else .undef
def f4C (e : Ty) (N : List D) (k : Nat) : Nat -> AV := fun i => if i = 4 then .d (.sl e) (.sl N) else if i = 5 then .d (.int .i64) (.int .i64 (k : Nat)) else .undef
section
variable {P : Program} {E : Env} {r : Root} {ro : Option Nat} {nn : Nat}
theorem AR_i64 (c : Cx) (n : Int) : AR c (.d (.int .i64) (.int .i64 n)) (.int .i64 n) := .inl ⟨rfl, ⟨n, rfl⟩, fun _ h => (by cases h), (CRl_leaf (ds := [.int .i64 n]) (by intro d hd; rw [List.mem_singleton.1 hd]; rfl)).2 rfl⟩
theorem nag_leaf {e : Ty} (hce : cmpTy e = true) {x : D} (hx : wt e x) : nag (x.flat.map valOf) := fun v hv => by
 obtain ⟨q, hq, rfl⟩ := List.mem_map.1 hv
 have := leaf_flat e x hce hx q hq
 cases q <;> simp only [leafB] at this <;> first | (cases this; done) | rfl
theorem HL.elem {e : Ty} (hne : noTup e = true) (hp : 0 < e.size) {W : World} {b off : Nat} {M : List D} (h : HL e W b off M) (hwt : ∀ x ∈ M, wt e x) {j : Nat} {x : D} (hx : M[j]? = some x) (i : Nat) (c : Value) (hc : (x.flat.map valOf)[i]? = some c) : W.cell? ⟨b, off + j * e.size + i, none⟩ = some c := by
 rw [List.getElem?_map] at hc
 cases hd : x.flat[i]? with
 | none => rw [hd] at hc; cases hc
 | some d =>
   rw [hd] at hc
   simp only [Option.map_some, Option.some.injEq] at hc
   subst hc
   have hxl : x.flat.length = e.size := wt_len e x (hwt x (List.mem_of_getElem? hx)) hne
   have hi : i < e.size := by rw [<- hxl]; exact (List.getElem?_eq_some_iff.1 hd).1
   have := h.2 (j * e.size + i) d (by
     rw [flats_div hp _ fun y hy => wt_len e y (hwt y hy) hne]
     rw [show (j * e.size + i) / e.size = j by rw [Nat.mul_comm, Nat.mul_add_div hp, Nat.div_eq_of_lt hi, Nat.add_zero], show (j * e.size + i) % e.size = i by rw [Nat.mul_comm, Nat.mul_add_mod, Nat.mod_eq_of_lt hi], hx]
     exact hd)
   rw [show off + j * e.size + i = off + (j * e.size + i) by omega]
   exact this
set_option maxHeartbeats 2000000 in
theorem compact_gen (hE : EnvOk P E) {e : Ty} (hce : cmpTy e = true) (hne : noTup e = true) (hp : 0 < e.size) {L : List D} (hwt : ∀ x ∈ L, wt e x) (hlen : L.length <= 1073741824) {f : Nat} {fn : Func} (hfn : P.funcs[f]? = some fn)
   {i0 i1 i2 i3 i4 i5 i6 i7 i8 i9 i10 i11 i12 i13 i14 i15 i16 b0 b1 b2 b3 : Nat} {R0 R1 R2 R3 R4 R5 R6 R7 R8 R9 R10 R11 R12 R13 R14 R15 R16 : Array Oper}
   (hbody : fn.body = some (.seq (.region i0 R0 false) (.seq (.seq (.region i1 R1 false) (.cond (.tmp 8) (.seq (.region i2 R2 false) .ret) .skip)) (.seq (.seq (.region i3 R3 false) (.block b0 (.loop (.seq (.seq (.region i4 R4 false) (.cond (.tmp 13) .skip (.exit b0))) (.seq (.block b1 (.seq (.region i6 R6 true) (.cond (.tmp 25) (.seq (.region i7 R7 false) (.seq (.seq (.region i8 R8 false) (.block b2 (.loop (.seq (.seq (.region i9 R9 false) (.cond (.tmp 32) .skip (.exit b2))) (.seq (.block b3 (.seq (.region i11 R11 true) (.cond (.tmp 44) (.seq (.region i12 R12 false) (.region i13 R13 false)) .skip))) (.region i10 R10 false)))))) (.seq (.region i14 R14 false) (.seq (.region i15 R15 false) .ret)))) .skip))) (.region i5 R5 false)))))) (.seq (.region i16 R16 false) .ret)))))
   (hnt : fn.ntmps = 61) (hres : fn.results = #[.tmp 2]) {Ts Te : Nat} (hTs : E.L Ts = some (.sl e)) (hTe : E.L Te = some e)
   {y1 y2 y3 y4 y5 y6 y7 y8 y9 y10 y11 y12 y13 y14 y15 y16 y17 y18 y19 y20 y21 y22 y23 y24 y25 y26 y27 : TypeId} {p1 p2 p3 p4 p5 p6 p7 p8 p9 p10 p11 p12 p13 p14 p15 p16 p17 p18 p19 p20 p21 p22 p23 p24 p25 p26 p27 : String} {f1 f2 f3 f4 f5 f6 f7 f8 f9 f10 f11 f12 f13 f14 f15 f16 f17 f18 f19 f20 f21 f22 f23 f24 f25 f26 f27 : Array Edge}
   (hR0 : R0.toList = [⟨some 2, .assign (.const (.slice none 0 0)), y1, p1, f1, none⟩]) (hR2 : R2.toList = [⟨some 9, .move (.tmp 0), y2, p2, f2, none⟩, ⟨some 2, .assign (.tmp 9), y3, p3, f3, none⟩]) (hR3 : R3.toList = [⟨some 3, .assign (.const (.int .i64 1)), y4, p4, f4, none⟩])
   (hR7 : R7.toList = [⟨some 26, .move (.tmp 0), y5, p5, f5, none⟩, ⟨some 27, .move (.tmp 3), y6, p6, f6, none⟩, ⟨some 28, .slice Ts (.tmp 26) (some (.tmp 27)) none none, y7, p7, f7, none⟩, ⟨some 4, .assign (.tmp 28), y8, p8, f8, none⟩])
   (hR8 : R8.toList = [⟨some 5, .assign (.const (.int .i64 1)), y9, p9, f9, none⟩])
   (hR12 : R12.toList = [⟨some 45, .move (.tmp 0), y10, p10, f10, none⟩, ⟨some 46, .move (.tmp 3), y11, p11, f11, none⟩, ⟨some 47, .move (.tmp 4), y12, p12, f12, none⟩, ⟨some 48, .move (.tmp 5), y13, p13, f13, none⟩, ⟨some 49, .indexAddr Ts (.tmp 47) (.tmp 48), y14, p14, f14, none⟩, ⟨some 50, .load Te (.tmp 49), y15, p15, f15, none⟩,
     ⟨some 51, .indexAddr Ts (.tmp 45) (.tmp 46), y16, p16, f16, none⟩, ⟨none, .store Te (.tmp 51) (.tmp 50), y17, p17, f17, none⟩])
   (hR14 : R14.toList = [⟨some 54, .move (.tmp 0), y18, p18, f18, none⟩, ⟨some 55, .move (.tmp 3), y19, p19, f19, none⟩, ⟨some 56, .slice Ts (.tmp 54) (some (.tmp 55)) none none, y20, p20, f20, none⟩, ⟨none, .call ⟨.builtin .clear, #[.tmp 56], #[Ts]⟩, y21, p21, f21, none⟩])
   (hR15 : R15.toList = [⟨some 57, .move (.tmp 0), y22, p22, f22, none⟩, ⟨some 58, .move (.tmp 3), y23, p23, f23, none⟩, ⟨some 59, .slice Ts (.tmp 57) none (some (.tmp 58)) none, y24, p24, f24, none⟩, ⟨some 2, .assign (.tmp 59), y25, p25, f25, none⟩])
   (hR16 : R16.toList = [⟨some 60, .move (.tmp 0), y26, p26, f26, none⟩, ⟨some 2, .assign (.tmp 60), y27, p27, f27, none⟩])
   (hv1 : ev E (.region i1 R1 false) .leaf D (dS 61 [0] (fun i => if i = 0 then .d (.sl e) (.sl L) else .undef)) (kW [(8, .bool)]) = some (.tup [.bool (decide ((L.length : Int) < 2))]))
   (hv4 : ∀ k : Nat, ev E (.region i4 R4 false) .leaf D (dS 61 [0, 3] (f1C e L k)) (kW [(13, .bool)]) = some (.tup [.bool (decide ((k : Int) < (L.length : Nat)))]))
   {an6 an11 : Ann} (hv6 : ∀ (k : Nat) (x y : D), k < 1073741824 -> L[k]? = some x -> L[k + 1]? = some y -> ev E (.region i6 R6 true) an6 D (dS 61 [0, 3] (f1C e L (k + 1))) (kW [(25, .bool)]) = some (.tup [.bool (y.beq x)]))
   (hv5 : ∀ k : Nat, ev E (.region i5 R5 false) .leaf D (dS 61 [0] (f2C 3 k)) (kW [(3, .int .i64)]) = some (.tup [.int .i64 (IntKind.wrap .i64 ((k : Int) + 1))]))
   (hv13 : ∀ k : Nat, ev E (.region i13 R13 false) .leaf D (dS 61 [0, 4, 5] (f2C 3 k)) (kW [(3, .int .i64)]) = some (.tup [.int .i64 (IntKind.wrap .i64 ((k : Int) + 1))]))
   (hv10 : ∀ k : Nat, ev E (.region i10 R10 false) .leaf D (dS 61 [0, 3, 4] (f2C 5 k)) (kW [(5, .int .i64)]) = some (.tup [.int .i64 (IntKind.wrap .i64 ((k : Int) + 1))]))
   (hv9 : ∀ (N : List D) (k : Nat), ev E (.region i9 R9 false) .leaf D (dS 61 [0, 3, 4, 5] (f4C e N k)) (kW [(32, .bool)]) = some (.tup [.bool (decide ((k : Int) < (N.length : Nat)))]))
   (hv11 : ∀ (N : List D) (k : Nat) (x y : D), k < 1073741824 -> N[k]? = some x -> N[k + 1]? = some y -> ev E (.region i11 R11 true) an11 D (dS 61 [0, 3, 4, 5] (f4C e N (k + 1))) (kW [(44, .bool)]) = some (.tup [.bool (!(y.beq x))]))
   {W0 : World} (hX : Ext r W0) {S0 : Nat -> Nat -> Prop} (hSb0 : ∀ b o, S0 b o -> b < W0.heap.size) (hSo0 : ∀ b o, S0 b o -> r.Old b -> r.S0 b o) {sv : Value} (hsv : DR0 W0 S0 (.sl L) sv) (hown : 2 <= L.length -> ∃ b off cap, sv = .slice (some ⟨b, off, none⟩) L.length cap /\ HL e W0 b off L /\ ¬ r.Old b) :
   Calls P f #[sv] W0 fun en W' => ∃ v, en = .returned v /\ ∃ S', Ext r W' /\ DR0 W' S' (.sl (dedR L)) v /\ (∀ b o, S' b o -> b < W'.heap.size) /\ (∀ b o, S' b o -> r.Old b -> r.S0 b o) := by
 have hls : layB P (.sl e) Ts = true := (hE.lay Ts _ hTs).resolve_left (by rintro ⟨ts, h⟩; cases h)
 have hle : layB P e Te = true := (hE.lay Te _ hTe).resolve_left (by rintro ⟨ts, h⟩; subst h; simp [cmpTy] at hce)
 refine calls_of_wpI hfn hbody ?_
 generalize ha0 : Act.mk _ _ = a0
 have hsz0 : a0.tmps.size = 61 := by rw [<- ha0]; simp [hnt]
 have e0 : a0.tmps.getD 0 undef = sv := by rw [<- ha0]; simp [Array.getD]
 have hd0 : a0.defers = [] := by rw [<- ha0]
 clear ha0
 refine wpIn_seq (wpIn_region_list ?_)
 rw [hR0]
 refine wl_assign (wl_nil ?_)
 generalize ha1 : Act.put _ (some 2) _ = a1
 have hsz1 : a1.tmps.size = 61 := by rw [<- ha1]; simp only [size_put, hsz0]
 have e1 : a1.tmps.getD 0 undef = sv := by rw [<- ha1]; simp only [slot_put, hsz0, e0, reduceIte, Nat.reduceLT, Nat.reduceEqDiff]
 have hd1 : a1.defers = [] := by rw [<- ha1]; simp only [defers_put, hd0]
 clear ha1
 simp only [Exit.then]
 have ARL : ∀ c : Cx, c.w = W0 -> c.S = S0 -> AR c (.d (.sl e) (.sl L)) sv := fun c h1 h2 => .inl ⟨by simp only [noTup]; exact hne, ⟨L, rfl, hwt⟩, by rw [h1, h2]; exact hsv⟩
 refine wpIn_seq (wpIn_seq (ev_words hE (lk := [0]) (f := fun i => if i = 0 then .d (.sl e) (.sl L) else .undef) hsz1 hd1 hSb0 (fun t ht => ?_) (fun t ht => by rw [if_neg (by omega)]) hv1 fun a2 os2 d2 hd2 z1 z2 z3 z4 => ?_))
 . by_cases h5 : t = 0
   . subst h5; rw [if_pos rfl, e1]; exact ARL _ rfl rfl
   . rw [if_neg h5]; simp only [AR]
 have t8 : a2.tmps.getD 8 undef = .bool (decide ((L.length : Int) < 2)) := z4 0 8 .bool _ rfl rfl rfl
 have e2 : a2.tmps.getD 0 undef = sv := (z3 0 (by simp)).trans e1
 simp only [exOf, Exit.then]
 by_cases h2 : L.length < 2
 . -- nothing to do
   refine wpIn_cond_true (t8.trans (by rw [decide_eq_true (by omega)])) (wpIn_seq (wpIn_region_list ?_))
   rw [hR2]
   refine wl_move (wl_assign (wl_nil (wpIn_ret ⟨by simp only [defers_put, z2], sv, (results_tmp hres _ _ _).trans ?_, sv, rfl, S0, ext_grow hX hd2, ?_, fun b o hb => ?_, hSo0⟩)))
   . simp only [eval_tmp, slot_put, size_put, z1, e2, reduceIte, Nat.reduceLT, Nat.reduceEqDiff]
   . rw [dedR_short h2]; exact hsv.mono (fun b o hb => cell_grown (hSb0 b o hb)) fun _ _ h => h
   . exact Nat.lt_of_lt_of_le (hSb0 b o hb) (by simp [grown])
 obtain ⟨b, off, cap, rfl, hHL0, hbo⟩ := hown (by omega)
 have hcap : L.length <= cap := by
   have hq : CR W0 S0 (.sl L) (.slice (some ⟨b, off, none⟩) L.length cap) := hsv.2.2 0 _ _ rfl rfl
   obtain ⟨_, _, _, _, q1, _, q2, _⟩ := hq.elems
   cases q1; exact q2
 refine wpIn_cond_false (t8.trans (by rw [decide_eq_false (by omega)])) (wpIn_skip ?_)
 simp only [Exit.then]
 refine wpIn_seq (wpIn_seq (wpIn_region_list ?_))
 rw [hR3]
 refine wl_assign (wl_nil ?_)
 generalize ha3 : Act.put _ (some 3) _ = a3
 have hsz3 : a3.tmps.size = 61 := by rw [<- ha3]; simp only [size_put, z1]
 have e3 : a3.tmps.getD 0 undef = .slice (some ⟨b, off, none⟩) L.length cap := by rw [<- ha3]; simp only [slot_put, z1, e2, reduceIte, Nat.reduceLT, Nat.reduceEqDiff]
 have k3 : a3.tmps.getD 3 undef = .int .i64 (1 : Nat) := by rw [<- ha3]; simp only [slot_put, z1, reduceIte, Nat.reduceLT]; rfl
 have hd3 : a3.defers = [] := by rw [<- ha3]; simp only [defers_put, z2]
 clear ha3 t8 z1 z2 z3 z4
 simp only [Exit.then]
 refine wpIn_block ?_
 have hX3 := ext_grow (os := os2) hX hd2
 have hH3 := hHL0.grow os2 d2
 generalize grown W0 os2 d2 = W3 at hX3 hH3 ⊢
 refine wp_loop_n (m := L.length) (fun m a W => ∃ k, 1 <= k /\ m + k = L.length + 1 /\ k <= L.length /\ dedR (L.take k) = L.take k /\ HL e W b off L /\ Ext r W /\ a.tmps.size = 61 /\ a.defers = [] /\ a.tmps.getD 0 undef = .slice (some ⟨b, off, none⟩) L.length cap /\ a.tmps.getD 3 undef = .int .i64 (k : Nat))
   ⟨1, Nat.le_refl _, rfl, by omega, dedR_short (by rw [List.length_take]; omega), hH3, hX3, hsz3, hd3, e3, k3⟩ ?_
 clear hH3 hX3 hsz3 hd3 e3 k3
 rintro m a W ⟨k, c1, c2, c3, c4, hH, hXW, c5, c6, c7, c8⟩
 have ARf1 : ∀ (a : Act) (W : World), HL e W b off L -> a.tmps.getD 0 undef = .slice (some ⟨b, off, none⟩) L.length cap -> a.tmps.getD 3 undef = .int .i64 (k : Nat) -> ∀ t, t < 61 -> AR ⟨W, fun b' _ => b' = b, fun _ => none, fun _ => none, fun _ => none, []⟩ (f1C e L k t) (a.tmps.getD t undef) := fun a W hH c7 c8 t ht => by
   unfold f1C
   by_cases h5 : t = 0
   . subst h5; rw [if_pos rfl, c7]
     refine .inl ⟨by simp only [noTup]; exact hne, ⟨L, rfl, hwt⟩, DR0_sl ?_⟩
     have := hH.crl hce hne hwt (j := 0) (m := L.length) (cap := cap) (by omega) (by omega) hcap
     simpa using this
   . rw [if_neg h5]
     by_cases h6 : t = 3
     . subst h6; rw [if_pos rfl, c8]; exact AR_i64 _ _
     . rw [if_neg h6]; simp only [AR]
 have f1u : ∀ t, 61 <= t -> f1C e L k t = .undef := fun t ht => by unfold f1C; rw [if_neg (by omega), if_neg (by omega)]
 refine wpIn_seq (wpIn_seq (ev_words hE c5 c6 (S := fun b' _ => b' = b) (fun b' _ hb => by rw [hb]; exact hH.lt) (ARf1 a W hH c7 c8) f1u (hv4 k) fun a4 os4 d4 hd4 z1 z2 z3 z4 => ?_))
 have t13 : a4.tmps.getD 13 undef = .bool (decide ((k : Int) < (L.length : Nat))) := z4 0 13 .bool _ rfl rfl rfl
 have e4 := (z3 0 (by simp)).trans c7
 have k4 := (z3 3 (by simp)).trans c8
 have hH4 := hH.grow os4 d4
 have hX4 := ext_grow (os := os4) hXW hd4
 generalize grown W os4 d4 = W4 at hH4 hX4 ⊢
 clear z3 z4
 simp only [Exit.then]
 by_cases hk : k < L.length
 rotate_left
 . -- no two neighbours are equal
   have hkl : k = L.length := by omega
   subst hkl
   refine wpIn_cond_false (t13.trans (by rw [decide_eq_false (by omega)])) (wpIn_exit ?_)
   simp only [Exit.then, Exit.inBlock, if_true]
   refine wpIn_seq (wpIn_region_list ?_)
   rw [hR16]
   refine wl_move (wl_assign (wl_nil (wpIn_ret ⟨by simp only [defers_put, z2], .slice (some ⟨b, off, none⟩) L.length cap, (results_tmp hres _ _ _).trans ?_, _, rfl, fun b' _ => b' = b, hX4, ?_, fun b' _ hb => by rw [hb]; exact hH4.lt, fun b' _ hb ho => absurd ho (hb ▸ hbo)⟩)))
   . simp only [eval_tmp, slot_put, size_put, z1, e4, reduceIte, Nat.reduceLT, Nat.reduceEqDiff]
   . rw [List.take_of_length_le (Nat.le_refl _)] at c4
     rw [c4]
     refine DR0_sl ?_
     have := hH4.crl hce hne hwt (j := 0) (m := L.length) (cap := cap) (by omega) (by omega) hcap
     simpa using this
 refine wpIn_cond_true (t13.trans (by rw [decide_eq_true (by omega)])) (wpIn_skip ?_)
 simp only [Exit.then]
 obtain ⟨j, rfl⟩ : ∃ j, k = j + 1 := ⟨k - 1, by omega⟩
 obtain ⟨x, hx⟩ : ∃ x, L[j]? = some x := ⟨_, List.getElem?_eq_getElem (by omega)⟩
 obtain ⟨y, hy⟩ : ∃ y, L[j + 1]? = some y := ⟨_, List.getElem?_eq_getElem hk⟩
 refine wpIn_seq (wpIn_block (wpIn_seq (ev_words hE z1 z2 (S := fun b' _ => b' = b) (fun b' _ hb => by rw [hb]; exact hH4.lt) (ARf1 a4 W4 hH4 e4 k4) f1u (hv6 j x y (by omega) hx hy) fun a5 os5 d5 hd5 u1 u2 u3 u4 => ?_)))
 have t25 : a5.tmps.getD 25 undef = .bool (y.beq x) := u4 0 25 .bool _ rfl rfl rfl
 have e5 := (u3 0 (by simp)).trans e4
 have k5 := (u3 3 (by simp)).trans k4
 have hH5 := hH4.grow os5 d5
 have hX5 := ext_grow (os := os5) hX4 hd5
 generalize grown W4 os5 d5 = W5 at hH5 hX5 ⊢
 have hded := ded_take hx hy
 clear z1 z2 u3 u4
 simp only [Exit.then]
 have st : ∀ n : Nat, n < 9223372036854775806 -> IntKind.wrap .i64 ((n : Int) + 1) = ((n + 1 : Nat) : Int) := fun n hn => by
   rw [show ((n : Int) + 1) = ((n + 1 : Nat) : Int) by omega]; exact wrap_small (by omega) (by omega)
 have AR2 : ∀ (a : Act) (W : World) (t k : Nat), a.tmps.getD t undef = .int .i64 (k : Nat) -> ∀ u, u < 61 -> AR ⟨W, fun _ _ => False, fun _ => none, fun _ => none, fun _ => none, []⟩ (f2C t k u) (a.tmps.getD u undef) := fun a W t k h u hu => by
   unfold f2C
   by_cases h5 : u = t
   . subst h5; rw [if_pos rfl, h]; exact AR_i64 _ _
   . rw [if_neg h5]; simp only [AR]
 have f2u : ∀ t k : Nat, t < 61 -> ∀ u, 61 <= u -> f2C t k u = .undef := fun t k ht u hu => by unfold f2C; rw [if_neg (by omega)]
 by_cases hxy : y.beq x = true
 rotate_left
 . -- two neighbours that differ
   have hxy' : y.beq x = false := by simpa using hxy
   refine wpIn_cond_false (t25.trans (by rw [hxy'])) (wpIn_skip ?_)
   simp only [Exit.inBlock, Exit.then]
   refine ev_words hE u1 u2 (S := fun _ _ => False) (fun _ _ hb => hb.elim) (AR2 a5 W5 3 (j + 1) k5) (f2u 3 (j + 1) (by decide)) (hv5 (j + 1)) fun a6 os6 d6 hd6 q1 q2 q3 q4 => ?_
   have t3 : a6.tmps.getD 3 undef = .int .i64 (IntKind.wrap .i64 (((j + 1 : Nat) : Int) + 1)) := q4 0 3 (.int .i64) _ rfl rfl rfl
   refine ⟨m - 1, by omega, j + 2, by omega, by omega, by omega, ?_, hH5.grow os6 d6, ext_grow hX5 hd6, q1, q2, (q3 0 (by simp)).trans e5, by rw [t3, st (j + 1) (by omega)]⟩
   rw [hded, if_neg hxy, c4]
   have htk : L.take (j + 1 + 1) = L.take (j + 1) ++ L[j + 1]?.toList := List.take_add_one
   rw [hy] at htk
   exact htk.symm
 rw [if_pos hxy, c4] at hded
 refine wpIn_cond_true (t25.trans (by rw [hxy])) (wpIn_seq (wpIn_region_list ?_))
 rw [hR7]
 refine wl_move (wl_move (wl_slice hls (A := some ⟨b, off, none⟩) (len := L.length) (cap := cap) (lo := j + 1) (hi := L.length) ?_ (by omega) (Nat.le_refl _) hcap (.inr ⟨_, rfl, ?_⟩) (.inl ⟨rfl, rfl⟩) (wl_assign (wl_nil ?_))))
 . simp only [eval_tmp, slot_put, size_put, u1, e5, reduceIte, Nat.reduceLT, Nat.reduceEqDiff]
 . simp only [eval_tmp, slot_put, size_put, u1, k5, reduceIte, Nat.reduceLT, Nat.reduceEqDiff]
 obtain ⟨s2v, hs2⟩ : ∃ s2v : Value, s2v = .slice (some ⟨b, off + (j + 1) * e.size, none⟩) (L.length - (j + 1)) (cap - (j + 1)) := ⟨_, rfl⟩
 have hsl : (if cap = j + 1 then some (⟨b, off, none⟩ : Addr) else Option.map (fun z : Addr => z.add ((j + 1) * e.size)) (some ⟨b, off, none⟩)) = some ⟨b, off + (j + 1) * e.size, none⟩ := by
   rw [if_neg (by omega), Option.map_some, add_none]
 rw [hsl, <- hs2]
 generalize ha6 : Act.put _ (some 4) _ = a6
 have hsz6 : a6.tmps.size = 61 := by rw [<- ha6]; simp only [size_put, u1]
 have e6 : a6.tmps.getD 0 undef = .slice (some ⟨b, off, none⟩) L.length cap := by rw [<- ha6]; simp only [eval_tmp, slot_put, size_put, u1, e5, reduceIte, Nat.reduceLT, Nat.reduceEqDiff]
 have k6 : a6.tmps.getD 3 undef = .int .i64 ((j + 1 : Nat) : Int) := by rw [<- ha6]; simp only [eval_tmp, slot_put, size_put, u1, k5, reduceIte, Nat.reduceLT, Nat.reduceEqDiff]
 have v6 : a6.tmps.getD 4 undef = s2v := by rw [<- ha6]; simp only [eval_tmp, slot_put, size_put, u1, reduceIte, Nat.reduceLT, Nat.reduceEqDiff]
 have hd6 : a6.defers = [] := by rw [<- ha6]; simp only [defers_put, u2]
 clear ha6 hsl
 simp only [Exit.then]
 refine wpIn_seq (wpIn_seq (wpIn_region_list ?_))
 rw [hR8]
 refine wl_assign (wl_nil ?_)
 generalize ha7 : Act.put _ (some 5) _ = a7
 have hsz7 : a7.tmps.size = 61 := by rw [<- ha7]; simp only [size_put, hsz6]
 have e7 : a7.tmps.getD 0 undef = .slice (some ⟨b, off, none⟩) L.length cap := by rw [<- ha7]; simp only [slot_put, hsz6, e6, reduceIte, Nat.reduceLT, Nat.reduceEqDiff]
 have k7 : a7.tmps.getD 3 undef = .int .i64 ((j + 1 : Nat) : Int) := by rw [<- ha7]; simp only [slot_put, hsz6, k6, reduceIte, Nat.reduceLT, Nat.reduceEqDiff]
 have v7 : a7.tmps.getD 4 undef = s2v := by rw [<- ha7]; simp only [slot_put, hsz6, v6, reduceIte, Nat.reduceLT, Nat.reduceEqDiff]
 have n7 : a7.tmps.getD 5 undef = .int .i64 ((1 : Nat) : Int) := by rw [<- ha7]; simp only [slot_put, hsz6, reduceIte, Nat.reduceLT]; rfl
 have hd7 : a7.defers = [] := by rw [<- ha7]; simp only [defers_put, hd6]
 clear ha7
 simp only [Exit.then]
 refine wpIn_block ?_
 obtain ⟨J2, hJ2⟩ : ∃ J2 : Nat -> Act -> World -> Prop, J2 = fun m a W => ∃ (k2 k' : Nat) (M : List D), 1 <= k2 /\ m + (j + 1 + k2) = L.length /\ k' + 1 <= j + 1 + k2 /\ j + 1 <= k' /\ HL e W b off M /\ Ext r W /\ a.tmps.size = 61 /\ a.defers = [] /\ a.tmps.getD 0 undef = .slice (some ⟨b, off, none⟩) L.length cap /\ a.tmps.getD 3 undef = .int .i64 (k' : Nat) /\ a.tmps.getD 4 undef = s2v /\ a.tmps.getD 5 undef = .int .i64 (k2 : Nat) ∧
   M.length = L.length /\ (∀ z ∈ M, wt e z) /\ M.drop (j + k2) = L.drop (j + k2) /\ M.take k' = dedR (L.take (j + 1 + k2)) := ⟨_, rfl⟩
 refine wp_loop_n (m := L.length - (j + 2)) J2 (by rw [hJ2]; exact
   ⟨1, j + 1, L, Nat.le_refl _, by omega, by omega, Nat.le_refl _, hH5, hX5, hsz7, hd7, e7, k7, v7, n7, rfl, hwt, rfl, hded.symm⟩) ?_
 clear hH5 hX5 hsz7 hd7 e7 k7 v7 n7 hsz6 e6 k6 v6 hd6 hH4 hX4 t25 u1 u2 e5 k5 t13 e4 k4
 intro m2 a W hj2
 rw [hJ2] at hj2
 obtain ⟨k2, k', M, g1, g2, g3, g4, hH, hXW, s1, s2, s3, s4, s5, s6, hMl, hMw, hMd, hMt⟩ := hj2
 have hkn : k' < L.length := by omega
 have hNl : (M.drop (j + 1)).length = L.length - (j + 1) := by rw [List.length_drop, hMl]
 have AR4 : ∀ (a : Act) (W : World), HL e W b off M -> a.tmps.getD 4 undef = s2v -> a.tmps.getD 5 undef = .int .i64 (k2 : Nat) -> ∀ t, t < 61 -> AR ⟨W, fun b' _ => b' = b, fun _ => none, fun _ => none, fun _ => none, []⟩ (f4C e (M.drop (j + 1)) k2 t) (a.tmps.getD t undef) := fun a W hH c7 c8 t ht => by
   unfold f4C
   by_cases h5 : t = 4
   . subst h5; rw [if_pos rfl, c7, hs2]
     exact .inl ⟨by simp only [noTup]; exact hne, ⟨_, rfl, fun z hz => hMw z (List.mem_of_mem_drop hz)⟩, DR0_sl (hH.crl hce hne hMw (j := j + 1) (m := L.length - (j + 1)) (cap := cap - (j + 1)) (by omega) (by omega) (by omega))⟩
   . rw [if_neg h5]
     by_cases h6 : t = 5
     . subst h6; rw [if_pos rfl, c8]; exact AR_i64 _ _
     . rw [if_neg h6]; simp only [AR]
 have f4u : ∀ t, 61 <= t -> f4C e (M.drop (j + 1)) k2 t = .undef := fun t ht => by unfold f4C; rw [if_neg (by omega), if_neg (by omega)]
 refine wpIn_seq (wpIn_seq (ev_words hE s1 s2 (S := fun b' _ => b' = b) (fun b' _ hb => by rw [hb]; exact hH.lt) (AR4 a W hH s5 s6) f4u (hv9 (M.drop (j + 1)) k2) fun a8 os8 d8 hd8 z1 z2 z3 z4 => ?_))
 have t32 : a8.tmps.getD 32 undef = .bool (decide ((k2 : Int) < ((M.drop (j + 1)).length : Nat))) := z4 0 32 .bool _ rfl rfl rfl
 rw [hNl] at t32
 have e8 := (z3 0 (by simp)).trans s3
 have k8 := (z3 3 (by simp)).trans s4
 have v8 := (z3 4 (by simp)).trans s5
 have n8 := (z3 5 (by simp)).trans s6
 have hH8 := hH.grow os8 d8
 have hX8 := ext_grow (os := os8) hXW hd8
 generalize grown W os8 d8 = W8 at hH8 hX8 ⊢
 clear z3 z4 hH hXW s1 s2 s3 s4 s5 s6
 simp only [Exit.then]
 by_cases hk2 : j + 1 + k2 < L.length
 rotate_left
 . -- the end: what is behind is cleared
   have hend : j + 1 + k2 = L.length := by omega
   rw [hend, List.take_of_length_le (Nat.le_refl _)] at hMt
   refine wpIn_cond_false (t32.trans (by rw [decide_eq_false (by omega)])) (wpIn_exit ?_)
   simp only [Exit.then, Exit.inBlock, if_true]
   refine wpIn_seq (wpIn_region_list ?_)
   rw [hR14]
   obtain ⟨⟨row, hr1, hr2⟩, _⟩ := hH8
   have hmul : (k' + (L.length - k')) * e.size = M.length * e.size := by rw [hMl]; congr 1; omega
   rw [Nat.add_mul] at hmul
   have hsl : (if cap = k' then some (⟨b, off, none⟩ : Addr) else Option.map (fun z : Addr => z.add (k' * e.size)) (some ⟨b, off, none⟩)) = some ⟨b, off + k' * e.size, none⟩ := by
     rw [if_neg (by omega), Option.map_some, add_none]
   refine wl_move (wl_move (wl_slice hls (A := some ⟨b, off, none⟩) (len := L.length) (cap := cap) (lo := k') (hi := L.length) ?_ (by omega) (Nat.le_refl _) hcap (.inr ⟨_, rfl, ?_⟩) (.inl ⟨rfl, rfl⟩) (wl_clear hls hp (b := b) (off := off + k' * e.size) (m := L.length - k') (cap := cap - k') (row := row) ?_ hr1 (by omega) (by omega) fun cs hcs v => wl_nil ?_)))
   . simp only [eval_tmp, slot_put, size_put, z1, e8, reduceIte, Nat.reduceLT, Nat.reduceEqDiff]
   . simp only [eval_tmp, slot_put, size_put, z1, k8, reduceIte, Nat.reduceLT, Nat.reduceEqDiff]
   . rw [hsl]; simp only [eval_tmp, slot_put, size_put, z1, reduceIte, Nat.reduceLT]
   have hput : ∀ a : Act, a.put none v = a := fun _ => rfl
   rw [hput]
   generalize ha9 : Act.put _ (some 56) _ = a9
   have hsz9 : a9.tmps.size = 61 := by rw [<- ha9]; simp only [size_put, z1]
   have e9 : a9.tmps.getD 0 undef = .slice (some ⟨b, off, none⟩) L.length cap := by rw [<- ha9]; simp only [eval_tmp, slot_put, size_put, z1, e8, reduceIte, Nat.reduceLT, Nat.reduceEqDiff]
   have k9 : a9.tmps.getD 3 undef = .int .i64 (k' : Nat) := by rw [<- ha9]; simp only [eval_tmp, slot_put, size_put, z1, k8, reduceIte, Nat.reduceLT, Nat.reduceEqDiff]
   have hd9 : a9.defers = [] := by rw [<- ha9]; simp only [defers_put, z2]
   clear ha9 hsl
   simp only [Exit.then]
   have hsz : off + k' * e.size + cs.size <= row.size := by rw [hcs]; omega
   have hlk : (M.take k').length = k' := by rw [List.length_take]; omega
   have hH9 : HL e (putAt W8 b (off + k' * e.size) cs) b off (M.take k') := HL.take hne ⟨⟨row, hr1, hr2⟩, by assumption⟩ hMw ⟨_, row_putAt hr1, by
     have : (splice row (off + k' * e.size) cs).size = row.size := by
       simp only [splice, Array.size_append, Array.size_extract]; omega
     rw [this, hlk]; omega⟩ fun o ho => cell_putAt_below hr1 hsz ho
   have hX9 : Ext r (putAt W8 b (off + k' * e.size) cs) := ext_put hX8 hbo
   generalize putAt W8 b (off + k' * e.size) cs = W9 at hH9 hX9 ⊢
   refine wpIn_seq (wpIn_region_list ?_)
   rw [hR15]
   refine wl_move (wl_move (wl_slice hls (A := some ⟨b, off, none⟩) (len := L.length) (cap := cap) (lo := 0) (hi := k') ?_ (Nat.zero_le _) (by omega) hcap (.inl ⟨rfl, rfl⟩) (.inr ⟨_, rfl, ?_⟩) (wl_assign (wl_nil (wpIn_ret ⟨by simp only [defers_put, hd9], .slice (some ⟨b, off, none⟩) k' cap, (results_tmp hres _ _ _).trans ?_, _, rfl, fun b' _ => b' = b, hX9, ?_, fun b' _ hb => by rw [hb]; exact hH9.lt, fun b' _ hb ho => absurd ho (hb ▸ hbo)⟩)))))
   . simp only [eval_tmp, slot_put, size_put, hsz9, e9, reduceIte, Nat.reduceLT, Nat.reduceEqDiff]
   . simp only [eval_tmp, slot_put, size_put, hsz9, k9, reduceIte, Nat.reduceLT, Nat.reduceEqDiff]
   . have hsl : (if cap = 0 then some (⟨b, off, none⟩ : Addr) else Option.map (fun z : Addr => z.add (0 * e.size)) (some ⟨b, off, none⟩)) = some ⟨b, off, none⟩ := by
       rw [if_neg (by omega), Option.map_some, add_none, Nat.zero_mul, Nat.add_zero]
     rw [hsl]
     simp only [eval_tmp, slot_put, size_put, hsz9, reduceIte, Nat.reduceLT, Nat.sub_zero]
   . rw [<- hMt]
     refine DR0_sl ?_
     have := hH9.crl hce hne (fun z hz => hMw z (List.mem_of_mem_take hz)) (j := 0) (m := k') (cap := cap) (by omega) (by omega) (by omega)
     simpa using this
 refine wpIn_cond_true (t32.trans (by rw [decide_eq_true (by omega)])) (wpIn_skip ?_)
 simp only [Exit.then]
 obtain ⟨i, rfl⟩ : ∃ i, k2 = i + 1 := ⟨k2 - 1, by omega⟩
 obtain ⟨x2, hx2⟩ : ∃ x2, L[j + (i + 1)]? = some x2 := ⟨_, List.getElem?_eq_getElem (by omega)⟩
 obtain ⟨w2, hw2⟩ : ∃ w2, L[j + (i + 1) + 1]? = some w2 := ⟨_, List.getElem?_eq_getElem (by omega)⟩
 have hMx : M[j + (i + 1)]? = some x2 := by
   have := congrArg (fun l => l[0]?) hMd
   simp only [List.getElem?_drop, Nat.add_zero] at this
   exact this.trans hx2
 have hMy : M[j + (i + 1) + 1]? = some w2 := by
   have := congrArg (fun l => l[1]?) hMd
   simp only [List.getElem?_drop] at this
   exact this.trans hw2
 have hded2 := ded_take hx2 hw2
 have hw2w : wt e w2 := hMw w2 (List.mem_of_getElem? hMy)
 refine wpIn_seq (wpIn_block (wpIn_seq (ev_words hE z1 z2 (S := fun b' _ => b' = b) (fun b' _ hb => by rw [hb]; exact hH8.lt) (AR4 a8 W8 hH8 v8 n8) f4u (hv11 (M.drop (j + 1)) i x2 w2 (by omega) (by rw [List.getElem?_drop, show j + 1 + i = j + (i + 1) by omega]; exact hMx) (by rw [List.getElem?_drop, show j + 1 + (i + 1) = j + (i + 1) + 1 by omega]; exact hMy)) fun a10 os10 d10 hd10 u1 u2 u3 u4 => ?_)))
 have t44 : a10.tmps.getD 44 undef = .bool (!(w2.beq x2)) := u4 0 44 .bool _ rfl rfl rfl
 have e10 := (u3 0 (by simp)).trans e8
 have k10 := (u3 3 (by simp)).trans k8
 have v10 := (u3 4 (by simp)).trans v8
 have n10 := (u3 5 (by simp)).trans n8
 have hH10 := hH8.grow os10 d10
 have hX10 := ext_grow (os := os10) hX8 hd10
 generalize grown W8 os10 d10 = W10 at hH10 hX10 ⊢
 clear z1 z2 u3 u4 hH8 hX8 e8 k8 v8 n8 t32
 simp only [Exit.then]
 have tail : ∀ (a : Act) (W : World) (k'' : Nat) (M' : List D) (Q : Exit -> Act -> World -> Prop), k'' + 1 <= j + 1 + (i + 2) -> j + 1 <= k'' -> HL e W b off M' -> Ext r W -> a.tmps.size = 61 -> a.defers = [] -> a.tmps.getD 0 undef = .slice (some ⟨b, off, none⟩) L.length cap -> a.tmps.getD 3 undef = .int .i64 (k'' : Nat) -> a.tmps.getD 4 undef = s2v -> a.tmps.getD 5 undef = .int .i64 ((i + 1 : Nat) : Int) ->
     M'.length = L.length -> (∀ z ∈ M', wt e z) -> M'.drop (j + (i + 2)) = L.drop (j + (i + 2)) -> M'.take k'' = dedR (L.take (j + (i + 1) + 2)) -> (∀ a' w', (∃ m', m' < m2 /\ J2 m' a' w') -> Q .normal a' w') -> (Code.region i10 R10 false).wpIn (FW none) 0 P Q a W := by
   intro a W k'' M' Q r1 r2 r3 r4 r5 r6 r7 r8 r9 r10 r11 r12 r13 r14 hQ
   refine ev_words hE r5 r6 (S := fun _ _ => False) (fun _ _ hb => hb.elim) (AR2 a W 5 (i + 1) r10) (f2u 5 (i + 1) (by decide)) (hv10 (i + 1)) fun a6 os6 d6 hd6 q1 q2 q3 q4 => hQ _ _ ?_
   have t5 : a6.tmps.getD 5 undef = .int .i64 (IntKind.wrap .i64 (((i + 1 : Nat) : Int) + 1)) := q4 0 5 (.int .i64) _ rfl rfl rfl
   rw [hJ2]
   refine ⟨m2 - 1, by omega, i + 2, k'', M', by omega, by omega, by omega, r2, r3.grow os6 d6, ext_grow r4 hd6, q1, q2, (q3 0 (by simp)).trans r7, (q3 3 (by simp)).trans r8, (q3 4 (by simp)).trans r9, by rw [t5, st (i + 1) (by omega)], r11, r12, r13, ?_⟩
   rw [r14]; congr 2; omega
 have hdrop : ∀ M' : List D, M'.drop (j + (i + 1)) = L.drop (j + (i + 1)) -> M'.drop (j + (i + 2)) = L.drop (j + (i + 2)) := fun M' h => by
   have := congrArg (List.drop 1) h
   rw [List.drop_drop, List.drop_drop] at this
   rw [show j + (i + 2) = j + (i + 1) + 1 by omega]
   exact this
 by_cases hww : w2.beq x2 = true
 . -- equal to the one ahead
   refine wpIn_cond_false (t44.trans (by rw [hww]; rfl)) (wpIn_skip ?_)
   simp only [Exit.inBlock, Exit.then]
   rw [if_pos hww] at hded2
   refine tail a10 W10 k' M _ (by omega) g4 hH10 hX10 u1 u2 e10 k10 v10 n10 hMl hMw (hdrop M hMd) ?_ fun a' w' h => h
   rw [hMt, hded2]; congr 2; omega
 have hww' : w2.beq x2 = false := by simpa using hww
 rw [if_neg hww] at hded2
 refine wpIn_cond_true (t44.trans (by rw [hww']; rfl)) (wpIn_seq (wpIn_region_list ?_))
 rw [hR12]
 obtain ⟨row, hr1, hr2⟩ := hH10.1
 have hwl : (w2.flat.map valOf).length = e.size := by rw [List.length_map]; exact wt_len e w2 hw2w hne
 have hkm : k' * e.size + e.size <= M.length * e.size := by
   have : (k' + 1) * e.size <= M.length * e.size := Nat.mul_le_mul_right _ (by omega)
   rwa [Nat.add_mul, Nat.one_mul] at this
 have hpos : off + (j + 1) * e.size + (i + 1) * e.size = off + (j + (i + 1) + 1) * e.size := by
   rw [Nat.add_assoc, <- Nat.add_mul]; congr 2; omega
 refine wl_move (wl_move (wl_move (wl_move (wl_index hls (b := b) (off := off + (j + 1) * e.size) (len := L.length - (j + 1)) (cap := cap - (j + 1)) (k := i + 1) ?_ ?_ (by omega) (wl_load hle (b := b) (off := off + (j + 1) * e.size + (i + 1) * e.size) (cs := w2.flat.map valOf) ?_ hwl (nag_leaf hce hw2w) ?_ fun v hv =>
   wl_index hls (b := b) (off := off) (len := L.length) (cap := cap) (k := k') ?_ ?_ hkn (wl_store hle (b := b) (off := off + k' * e.size) (c := row) (v := v) (cs := w2.flat.map valOf) ?_ ?_ hr1 hv hwl (nag_leaf hce hw2w) (by rw [hwl]; omega) (wl_nil ?_)))))))
 . simp only [eval_tmp, slot_put, size_put, u1, v10, hs2, reduceIte, Nat.reduceLT, Nat.reduceEqDiff]
 . simp only [eval_tmp, slot_put, size_put, u1, n10, reduceIte, Nat.reduceLT, Nat.reduceEqDiff]
 . simp only [eval_tmp, slot_put, size_put, u1, reduceIte, Nat.reduceLT]
 . intro i' c' hc'
   rw [hpos]
   exact hH10.elem hne hp hMw hMy i' c' hc'
 . simp only [eval_tmp, slot_put, size_put, u1, e10, reduceIte, Nat.reduceLT, Nat.reduceEqDiff]
 . simp only [eval_tmp, slot_put, size_put, u1, k10, reduceIte, Nat.reduceLT, Nat.reduceEqDiff]
 . simp only [eval_tmp, slot_put, size_put, u1, reduceIte, Nat.reduceLT]
 . simp only [eval_tmp, slot_put, size_put, u1, reduceIte, Nat.reduceLT, Nat.reduceEqDiff]
 generalize ha11 : Act.put _ (some 51) _ = a11
 have hsz11 : a11.tmps.size = 61 := by rw [<- ha11]; simp only [size_put, u1]
 have e11 : a11.tmps.getD 0 undef = .slice (some ⟨b, off, none⟩) L.length cap := by rw [<- ha11]; simp only [eval_tmp, slot_put, size_put, u1, e10, reduceIte, Nat.reduceLT, Nat.reduceEqDiff]
 have k11 : a11.tmps.getD 3 undef = .int .i64 (k' : Nat) := by rw [<- ha11]; simp only [eval_tmp, slot_put, size_put, u1, k10, reduceIte, Nat.reduceLT, Nat.reduceEqDiff]
 have v11 : a11.tmps.getD 4 undef = s2v := by rw [<- ha11]; simp only [eval_tmp, slot_put, size_put, u1, v10, reduceIte, Nat.reduceLT, Nat.reduceEqDiff]
 have n11 : a11.tmps.getD 5 undef = .int .i64 ((i + 1 : Nat) : Int) := by rw [<- ha11]; simp only [eval_tmp, slot_put, size_put, u1, n10, reduceIte, Nat.reduceLT, Nat.reduceEqDiff]
 have hd11 : a11.defers = [] := by rw [<- ha11]; simp only [defers_put, u2]
 clear ha11
 have hH11 := hH10.set hne hMw (k := k') (by omega) hp hw2w
 have hX11 : Ext r (putAt W10 b (off + k' * e.size) (w2.flat.map valOf).toArray) := ext_put hX10 hbo
 generalize putAt W10 b (off + k' * e.size) (w2.flat.map valOf).toArray = W11 at hH11 hX11 ⊢
 simp only [Exit.then]
 refine ev_words hE hsz11 hd11 (S := fun _ _ => False) (fun _ _ hb => hb.elim) (AR2 a11 W11 3 k' k11) (f2u 3 k' (by decide)) (hv13 k') fun a12 os12 d12 hd12 q1 q2 q3 q4 => ?_
 have t3 : a12.tmps.getD 3 undef = .int .i64 (IntKind.wrap .i64 ((k' : Int) + 1)) := q4 0 3 (.int .i64) _ rfl rfl rfl
 simp only [Exit.inBlock, Exit.then]
 refine tail a12 _ (k' + 1) (M.set k' w2) _ (by omega) (by omega) (hH11.grow os12 d12) (ext_grow hX11 hd12) q1 q2 ((q3 0 (by simp)).trans e11) (by rw [t3, st k' (by omega)]) ((q3 4 (by simp)).trans v11) ((q3 5 (by simp)).trans n11) (by rw [List.length_set]; exact hMl) (fun z hz => ?_) ?_ ?_ fun a' w' h => h
 . rcases List.mem_or_eq_of_mem_set hz with hz | rfl
   . exact hMw z hz
   . exact hw2w
 . rw [List.drop_set_of_lt (by omega)]; exact hdrop M hMd
 . have htk : (M.set k' w2).take (k' + 1) = (M.set k' w2).take k' ++ (M.set k' w2)[k']?.toList := List.take_add_one
   rw [htk, List.take_set_of_le (Nat.le_refl k'), hMt, List.getElem?_set_self (by omega), hded2]
   simp only [Option.toList_some]
   congr 3; omega
end
end Go.Proofs.YtjjjkojfijpeeaaGreat.Sy
end
section
set_option linter.unusedVariables false
namespace Go.Proofs.YtjjjkojfijpeeaaGreat.Sy
open Go Go.Proofs Go.Sort Go.Lib
section
variable {r : Root} {lp : Lp} {call : Nat -> List D -> Option D}
def condT : Code -> Code | .cond _ a _ => a | c => c
noncomputable def b95 : Code := sq2 (bodyOf Tryz.f95)
noncomputable def l95 : Code := inLoop (inBlk (sq2 (sq1 (sq2 b95))))
noncomputable def c95 : Code := inBlk (sq1 (sq2 l95))
noncomputable def m95 : Code := inLoop (inBlk (sq2 (sq1 (sq2 (condT (sq2 c95))))))
noncomputable def d95 : Code := inBlk (sq1 (sq2 m95))
theorem hv1_95 {L : List D} : ev (envQ lp call) (sq1 (sq1 b95)) .leaf D (dS 61 [0] (fun i => if i = 0 then .d (.sl K1) (.sl L) else .undef)) (kW [(8, .bool)]) = some (.tup [.bool (decide ((L.length : Int) < 2))]) := by kernel_rfl
theorem hv4_95 {L : List D} (k : Nat) : ev (envQ lp call) (sq1 (sq1 l95)) .leaf D (dS 61 [0, 3] (f1C K1 L k)) (kW [(13, .bool)]) = some (.tup [.bool (decide ((k : Int) < (L.length : Nat)))]) := by kernel_rfl
theorem two_95 {L : List D} {k : Nat} {x y : D} (hk : k < 1073741824) (hx : L[k]? = some x) (hy : L[k + 1]? = some y) (g : D -> D -> Option D) : ((D.idx (.int .i64 ((k + 1 : Nat) : Int)) L.length).bind fun i => (L[i]?).bind fun u => (D.bin .sub (.int .i64 ((k + 1 : Nat) : Int)) (.int .i64 1)).bind fun z => (D.idx z L.length).bind fun j => (L[j]?).bind fun v => g u v) = g y x := by
 have h1 : k + 1 < L.length := (List.getElem?_eq_some_iff.1 hy).1
 have e1 : D.idx (.int .i64 ((k + 1 : Nat) : Int)) L.length = some (k + 1) := by
   simp only [D.idx]; rw [if_pos (by omega)]; simp
 have e2 : D.bin .sub (.int .i64 ((k + 1 : Nat) : Int)) (.int .i64 1) = some (.int .i64 (k : Nat)) := by
   simp only [D.bin, if_true]
   rw [show ((k + 1 : Nat) : Int) - 1 = (k : Nat) by omega, wrap_small (by omega) (by omega)]
 have e3 : D.idx (.int .i64 (k : Nat)) L.length = some k := by
   simp only [D.idx]; rw [if_pos (by omega)]; simp
 rw [e1, Option.bind_some, hy, Option.bind_some, e2, Option.bind_some, e3, Option.bind_some, hx, Option.bind_some]
theorem hv6_95 {L : List D} (k : Nat) (x y : D) (hk : k < 1073741824) (hx : L[k]? = some x) (hy : L[k + 1]? = some y) : ev (envQ lp call) (sq1 c95) (.reg [] 9) D (dS 61 [0, 3] (f1C K1 L (k + 1))) (kW [(25, .bool)]) = some (.tup [.bool (y.beq x)]) := by
 have : ev (envQ lp call) (sq1 c95) (.reg [] 9) D (dS 61 [0, 3] (f1C K1 L (k + 1))) (kW [(25, .bool)]) = ((D.idx (.int .i64 ((k + 1 : Nat) : Int)) L.length).bind fun i => (L[i]?).bind fun u => (D.bin .sub (.int .i64 ((k + 1 : Nat) : Int)) (.int .i64 1)).bind fun z => (D.idx z L.length).bind fun j => (L[j]?).bind fun v => some (.tup [.bool (D.beq u v)])) := by kernel_rfl
 rw [this]
 exact two_95 hk hx hy fun u v => some (.tup [.bool (D.beq u v)])
theorem hv5_95 (k : Nat) : ev (envQ lp call) (sq2 (sq2 l95)) .leaf D (dS 61 [0] (f2C 3 k)) (kW [(3, .int .i64)]) = some (.tup [.int .i64 (IntKind.wrap .i64 ((k : Int) + 1))]) := by kernel_rfl
theorem hv13_95 (k : Nat) : ev (envQ lp call) (sq2 (condT (sq2 d95))) .leaf D (dS 61 [0, 4, 5] (f2C 3 k)) (kW [(3, .int .i64)]) = some (.tup [.int .i64 (IntKind.wrap .i64 ((k : Int) + 1))]) := by kernel_rfl
theorem hv10_95 (k : Nat) : ev (envQ lp call) (sq2 (sq2 m95)) .leaf D (dS 61 [0, 3, 4] (f2C 5 k)) (kW [(5, .int .i64)]) = some (.tup [.int .i64 (IntKind.wrap .i64 ((k : Int) + 1))]) := by kernel_rfl
theorem hv9_95 (N : List D) (k : Nat) : ev (envQ lp call) (sq1 (sq1 m95)) .leaf D (dS 61 [0, 3, 4, 5] (f4C K1 N k)) (kW [(32, .bool)]) = some (.tup [.bool (decide ((k : Int) < (N.length : Nat)))]) := by kernel_rfl
theorem hv11_95 (N : List D) (k : Nat) (x y : D) (hk : k < 1073741824) (hx : N[k]? = some x) (hy : N[k + 1]? = some y) : ev (envQ lp call) (sq1 d95) (.reg [] 9) D (dS 61 [0, 3, 4, 5] (f4C K1 N (k + 1))) (kW [(44, .bool)]) = some (.tup [.bool (!(y.beq x))]) := by
 have : ev (envQ lp call) (sq1 d95) (.reg [] 9) D (dS 61 [0, 3, 4, 5] (f4C K1 N (k + 1))) (kW [(44, .bool)]) = ((D.idx (.int .i64 ((k + 1 : Nat) : Int)) N.length).bind fun i => (N[i]?).bind fun u => (D.bin .sub (.int .i64 ((k + 1 : Nat) : Int)) (.int .i64 1)).bind fun z => (D.idx z N.length).bind fun j => (N[j]?).bind fun v => some (.tup [.bool (!(D.beq u v))])) := by kernel_rfl
 rw [this]
 exact two_95 hk hx hy fun u v => some (.tup [.bool (!(D.beq u v))])
theorem compact95 (hE : EnvOk Tryz.prog (envQ lp call)) {L : List D} (hwt : ∀ x ∈ L, wt K1 x) (hlen : L.length <= 1073741824) {W0 : World} (hX : Ext r W0) {S0 : Nat -> Nat -> Prop} (hSb0 : ∀ b o, S0 b o -> b < W0.heap.size) (hSo0 : ∀ b o, S0 b o -> r.Old b -> r.S0 b o) {sv : Value} (hsv : DR0 W0 S0 (.sl L) sv) (hown : 2 <= L.length -> ∃ b off cap, sv = .slice (some ⟨b, off, none⟩) L.length cap /\ HL K1 W0 b off L /\ ¬ r.Old b) :
   Calls Tryz.prog 95 #[sv] W0 fun en W' => ∃ v, en = .returned v /\ ∃ S', Ext r W' /\ DR0 W' S' (.sl (dedR L)) v /\ (∀ b o, S' b o -> b < W'.heap.size) /\ (∀ b o, S' b o -> r.Old b -> r.S0 b o) :=
 compact_gen hE rfl rfl (by decide) hwt hlen (fn := Tryz.f95) (by kernel_rfl) rfl rfl rfl (Ts := 22) (Te := 60) (by kernel_rfl) (by kernel_rfl) rfl rfl rfl rfl rfl rfl rfl rfl rfl hv1_95 hv4_95 hv6_95 hv5_95 hv13_95 hv10_95 hv9_95 hv11_95 hX hSb0 hSo0 hsv hown
end
end Go.Proofs.YtjjjkojfijpeeaaGreat.Sy
end
section
set_option linter.unusedVariables false
namespace Go.Proofs.YtjjjkojfijpeeaaGreat.Sy
open Go Go.Proofs Go.Sort Go.Lib
def WS (E : Env) (g : Nat) (l : List D) : Prop := l.Pairwise fun x y => ltD E g y x = false
section
variable {P : Program} {E : Env}
theorem ws_unique {g : Nat} {k : List D} (hc : chkS E g k = true) : ∀ {a b : List D}, a.Perm b -> WS E g a -> WS E g b -> (∀ x ∈ a, x ∈ k) -> a = b := by
 intro a
 induction a with
 | nil => intro b hp _ _ _; exact hp.symm.eq_nil.symm ▸ rfl
 | cons x a ih =>
   intro b hp ha hb hm
   cases b with
   | nil => exact absurd hp.eq_nil (by simp)
   | cons y b =>
     obtain ⟨a1, a2⟩ := List.pairwise_cons.1 ha
     obtain ⟨b1, b2⟩ := List.pairwise_cons.1 hb
     have e : x = y := by
       rcases List.mem_cons.1 (hp.subset List.mem_cons_self) with e | m1
       . exact e
       . rcases List.mem_cons.1 (hp.symm.subset (List.mem_cons_self (a := y))) with e | m2
         . exact e.symm
         . have h1 := b1 x m1
           have h2 := a1 y m2
           obtain ⟨i, hi1, hi2⟩ := List.getElem_of_mem (hm x List.mem_cons_self)
           obtain ⟨j, hj1, hj2⟩ := List.getElem_of_mem (hm y (List.mem_cons_of_mem _ m2))
           have ei : k[i]? = some x := by rw [List.getElem?_eq_getElem hi1, hi2]
           have ej : k[j]? = some y := by rw [List.getElem?_eq_getElem hj1, hj2]
           have q1 : ¬ i < j := fun h => by rw [(chk_idx hc ei ej).1.2 h] at h1; cases h1
           have q2 : ¬ j < i := fun h => by rw [(chk_idx hc ej ei).1.2 h] at h2; cases h2
           have : i = j := by omega
           subst this
           rw [ei] at ej; cases ej; rfl
     subst e
     rw [ih ((List.perm_cons x).1 hp) a2 b2 (fun z hz => hm z (List.mem_cons_of_mem _ hz))]
theorem sort_callW (hE : EnvOk P E) {f : Nat} {e : Ty} (hf : SortOk P f e) {g : Nat} (hsig : E.sig g = some ([e, e], .int .i64)) {l k : List D} (hwt : ∀ x ∈ l, wt e x) (hchk : chkS E g k = true) (hmem : ∀ x ∈ l, x ∈ k) (hkm : ∀ x ∈ k, x ∈ l) (hne : l ≠ []) {w : World} {b off cap : Nat} {row : Array Value}
   (hr : row? w b = some row) (hc : ∀ (i : Nat) (d : D), (D.flats l)[i]? = some d -> w.cell? ⟨b, off + i, none⟩ = some (valOf d)) (hlen : l.length < 4611686018427387904) :
   Calls P f #[.slice (some ⟨b, off, none⟩) l.length cap, .func (.func g) #[] #[]] w fun en w' => en = .returned (.tuple #[]) /\ ∃ l', l'.Perm l /\ WS E g l' /\ (∃ row', row? w' b = some row' /\ row'.size = row.size) /\ w.drawn <= w'.drawn /\ w'.tape = w.tape /\ w'.os = w.os /\ w'.output = w.output /\ w.heap.size <= w'.heap.size ∧
     (∀ b', b' ≠ b -> b' < w.heap.size -> w'.heap[b']? = w.heap[b']?) /\ ∀ (i : Nat) (d : D), (D.flats l')[i]? = some d -> w'.cell? ⟨b, off + i, none⟩ = some (valOf d) := by
 have hwt' : ∀ x ∈ k, wt e x := fun x hx => hwt x (hkm x hx)
 obtain ⟨x0, hx0⟩ : ∃ x0, x0 ∈ k := by
   cases l with
   | nil => exact absurd rfl hne
   | cons x l => exact ⟨x, hmem x List.mem_cons_self⟩
 have hinh : Inhabited {d : D // d ∈ k} := ⟨⟨x0, hx0⟩⟩
 have hfl : ∀ x : {d : D // d ∈ k}, x.1.flat.length = e.size := fun x => wt_len e x.1 (hwt' x.1 x.2) hf.nt
 have hleaf : ∀ x : {d : D // d ∈ k}, ∀ d ∈ x.1.flat, leafB d = true := fun x => leaf_flat e x.1 hf.cmp (hwt' x.1 x.2)
 obtain ⟨d, hd⟩ : ∃ d : Array {d : D // d ∈ k}, d.toList.map (·.1) = l := ⟨(l.pmap Subtype.mk hmem).toArray, by simp [List.map_pmap]⟩
 have hds : d.size = l.length := by rw [<- hd]; simp
 have hbs : b < w.heap.size := by
   unfold row? at hr
   cases hb : w.heap[b]? with
   | none => rw [hb] at hr; cases hr
   | some o => exact (Array.getElem?_eq_some_iff.1 hb).1
 have hfro : ∀ o, w.frozen? ⟨b, o, none⟩ = false := fun o => by
   unfold row? at hr
   split at hr
   . rename_i c t hb
     unfold World.frozen?
     simp [hb]
   . cases hr
 have at_ : ∀ (dd : Array {d : D // d ∈ k}) (t : Nat), t < dd.size * e.size -> (D.flats (dd.toList.map (·.1)))[t]?.map valOf = some ((flatK (fun x : {d : D // d ∈ k} => x.1.flat.map valOf) e.size dd)[t]!) := fun dd t ht => by
   rw [get_flatK _ _ _ _ ht, flats_div hf.pos _ (fun x hx => by
     obtain ⟨y, _, rfl⟩ := List.mem_map.1 hx
     exact hfl y)]
   have h1 : t / e.size < dd.size := (Nat.div_lt_iff_lt_mul hf.pos).2 ht
   have h2 : t % e.size < e.size := Nat.mod_lt _ hf.pos
   rw [List.getElem?_map, Array.getElem?_toList, Array.getElem?_eq_getElem h1, getElem!_pos dd _ h1]
   simp only [Option.map_some, Option.bind_some]
   have h3 : t % e.size < (dd[t / e.size]).1.flat.length := by rw [hfl]; exact h2
   rw [List.getElem?_eq_getElem h3, getElem!_pos _ _ (by simpa using h3)]
   simp
 have hH : HoldsK (fun x : {d : D // d ∈ k} => x.1.flat.map valOf) e.size w b off d := by
   intro j hj
   rw [size_flatK] at hj
   refine ⟨?_, hfro _⟩
   have := at_ d j hj
   rw [hd] at this
   cases hq : (D.flats l)[j]? with
   | none => rw [hq] at this; cases this
   | some q =>
     rw [hq] at this
     simp only [Option.map_some, Option.some.injEq] at this
     rw [hc j q hq, this]; rfl
 have hcmp : CmpLays P g #[] (fun x : {d : D // d ∈ k} => x.1.flat.map valOf) e.size (cfS E g k) b off d.size w := by
   intro m os dk _ x y
   obtain ⟨i, hi1, hi2⟩ := List.getElem_of_mem x.2
   obtain ⟨j, hj1, hj2⟩ := List.getElem_of_mem y.2
   obtain ⟨_, n, hn⟩ := chk_idx hchk (i := i) (j := j) (x := x.1) (y := y.1) (by rw [List.getElem?_eq_getElem hi1, hi2]) (by rw [List.getElem?_eq_getElem hj1, hj2])
   have hcall : E.call g [x.1, y.1] = some (.int .i64 n) := by
     unfold cmpI at hn
     obtain ⟨r, h1, h2⟩ := bind_some_inv hn
     rw [h1]
     split at h2
     . cases h2; rfl
     . cases h2
   have hcf : cfS E g k x y = n := by simp [cfS, hn]
   rw [hcf]
   have shpa : ∀ z : {d : D // d ∈ k}, ∀ (w : World) (S : Nat -> Nat -> Prop), DR0 w S z.1 (.agg (z.1.flat.map valOf).toArray) := fun z w S => by
     refine ⟨?_, ?_⟩
     . have hz := hwt' z.1 z.2
       have ha := hf.agg
       cases e <;> simp only [aggTy] at ha <;> first | (cases ha; done) | skip
       . simp only [wt] at hz; obtain ⟨ll, h1, _⟩ := hz; rw [h1]; exact ⟨_, rfl⟩
       . simp only [wt] at hz; obtain ⟨ll, h1, _⟩ := hz; rw [h1]; exact ⟨_, rfl⟩
     . exact (CRl_leaf (hleaf z)).2 (by simp [Value.cells])
   have hw2 : wts [e, e] [x.1, y.1] := ⟨x.1, [y.1], rfl, hwt' _ x.2, ⟨y.1, [], rfl, hwt' _ y.2, rfl⟩⟩
   have hctr := hE.call g [e, e] (.int .i64) [x.1, y.1] (.int .i64 n) hsig hcall hw2
     (sortWorldK (fun x : {d : D // d ∈ k} => x.1.flat.map valOf) e.size w b off m dk os) (fun _ _ => False) [.agg (x.1.flat.map valOf).toArray, .agg (y.1.flat.map valOf).toArray] (fun _ _ h => h.elim) hw2 rfl
     (fun i z v hz hv => by
       cases i with
       | zero => simp at hz hv; subst hz; subst hv; exact shpa x _ _
       | succ i => cases i with
         | zero => simp at hz hv; subst hz; subst hv; exact shpa y _ _
         | succ i => simp at hz)
   refine hctr.mono ?_
   rintro en w' ⟨v, rfl, ⟨os', dr, hdr, rfl⟩, _, hv⟩
   have hv' : v = .int .i64 n := by
     obtain ⟨c1, c2⟩ := (hv : DR0 _ _ _ _)
     have := (CRl_leaf (by intro d hd; simp only [D.flat, List.mem_singleton] at hd; subst hd; rfl)).1 c2
     exact cells_single c1 (by simpa [D.flat, valOf] using this)
   refine ⟨by rw [hv'], dr - (sortWorldK (fun x : {d : D // d ∈ k} => x.1.flat.map valOf) e.size w b off m dk os).drawn, os'.toArray, ?_⟩
   unfold grown grow World.drewN
   simp only [show ∀ a b : Nat, a <= b -> a + (b - a) = b from fun a b h => by omega, hdr]
 have hO : SWO (ltOf (cfS E g k)) := swo_cfS hchk
 have key := hf.whole {d : D // d ∈ k} (fun x => x.1.flat.map valOf) (fun x => by simp [hfl x]) (fun x v hv => by
     obtain ⟨q, hq, rfl⟩ := List.mem_map.1 hv
     have := hleaf x q hq
     cases q <;> simp only [leafB] at this <;> first | (cases this; done) | rfl) (cfS E g k) hO g b off cap d w (enters_sig hE hsig) hcmp hH hbs (by omega)
 rw [hds] at key
 refine key.mono ?_
 rintro en w' ⟨rfl, d', n, os, hp, hso, rfl⟩
 rw [<- hds] at hp hso
 have hd's : d'.size = d.size := hp.1
 have hH' := holdsK_sortWorldK_c (fun x : {d : D // d ∈ k} => x.1.flat.map valOf) e.size w b off d d' n os hH hbs hd's
 have hpm : (d'.toList.map (·.1)).Perm l := by
   obtain ⟨p1, _, p3⟩ := hp
   have q : d'.toList.Perm d.toList := by
     have e1 : d'.extract 0 d.size = d' := by rw [<- p1]; simp
     rw [e1] at p3
     simpa using p3
   have := q.map (·.1)
   rwa [hd] at this
 refine ⟨rfl, d'.toList.map (·.1), hpm, ?_, ?_, ?_, rfl, rfl, rfl, ?_, fun b' hb hb' => ?_, fun i q hq => ?_⟩
 . rw [WS, List.pairwise_iff_getElem]
   intro i j hi hj hij
   simp only [List.length_map, Array.length_toList] at hi hj
   have h1 := hso i j (Nat.zero_le _) hij (by omega)
   rw [getElem!_pos d' j hj, getElem!_pos d' i hi, ltOf_cfS] at h1
   simpa using h1
 . unfold row? at hr ⊢
   split at hr <;> first | (cases hr; done) | skip
   rename_i c t hbk
   cases hr
   have : (sortWorldK (fun x : {d : D // d ∈ k} => x.1.flat.map valOf) e.size w b off n d' os).heap[b]? = some (.cells (putCells id off (flatK (fun x : {d : D // d ∈ k} => x.1.flat.map valOf) e.size d') row) t (0, 0)) := by
     simp only [sortWorldK, grow, putRowK, putRow, mapBlock, Go.Sort.ahead]
     rw [Array.getElem?_append_left (by simpa using hbs), Array.getElem?_modify, if_pos rfl, hbk]
     rfl
   rw [this]
   exact ⟨_, rfl, by simp [putCells]⟩
 . show w.drawn <= w.drawn + n; omega
 . simp only [sortWorldK, grow, putRowK, putRow, mapBlock, Go.Sort.ahead, Array.size_append, Array.size_modify]; omega
 . simp only [sortWorldK, grow, putRowK, putRow, mapBlock, Go.Sort.ahead]
   rw [Array.getElem?_append_left (by simpa using hb'), Array.getElem?_modify, if_neg (Ne.symm hb)]
 . have hi : i < d'.size * e.size := by
     have h1 := (List.getElem?_eq_some_iff.1 hq).1
     rw [flats_len_of hf.nt _ fun x hx => hwt x (hpm.subset hx)] at h1
     simpa using h1
   have h2 := at_ d' i hi
   rw [hq] at h2
   simp only [Option.map_some, Option.some.injEq] at h2
   have h3 := (hH' i (by rw [size_flatK]; exact hi)).1
   rw [h3, <- h2]; rfl
end
end Go.Proofs.YtjjjkojfijpeeaaGreat.Sy
end
section
set_option linter.unusedVariables false
namespace Go.Proofs.YtjjjkojfijpeeaaGreat.Sy
open Go Go.Proofs Go.Sort Go.Lib
theorem dedF_sup (x : D) : ∀ (l : List D), ∀ y ∈ l, y ∈ x :: dedF x l
 | [], y, h => by simp at h
 | z :: l, y, h => by
   simp only [dedF]
   by_cases hz : z.beq x = true
   . have e := beq_eq z x hz
     subst e
     rw [if_pos hz]
     rcases List.mem_cons.1 h with rfl | h
     . exact List.mem_cons_self
     . exact dedF_sup z l y h
   . rw [if_neg hz]
     rcases List.mem_cons.1 h with rfl | h
     . simp
     . exact List.mem_cons_of_mem _ (dedF_sup z l y h)
theorem dedR_sup : ∀ (l : List D), ∀ y ∈ l, y ∈ dedR l
 | [], y, h => by simp at h
 | x :: l, y, h => by
   simp only [dedR]
   rcases List.mem_cons.1 h with rfl | h
   . exact List.mem_cons_self
   . exact dedF_sup x l y h
section
variable {P : Program} {E : Env} {r : Root}
theorem ws_dedF {g : Nat} : ∀ (l : List D) (x : D), chkS E g (x :: dedF x l) = true -> WS E g (x :: l)
 | [], x, _ => by simp [WS]
 | y :: l, x, h => by
   have hs := chkS_spec h
   simp only [dedF] at h hs
   by_cases hy : y.beq x = true
   . have e := beq_eq y x hy
     subst e
     rw [if_pos hy] at h hs
     have ih := ws_dedF l y h
     refine List.pairwise_cons.2 ⟨fun z hz => ?_, ih⟩
     rcases List.mem_cons.1 hz with rfl | hz
     . exact ge_lt (hs.2 z List.mem_cons_self)
     . exact (List.pairwise_cons.1 ih).1 z hz
   . rw [if_neg hy] at h hs
     have h' : chkS E g (y :: dedF y l) = true := by
       simp only [chkS, Bool.and_eq_true] at h ⊢
       exact h.2
     refine List.pairwise_cons.2 ⟨fun z hz => ?_, ws_dedF l y h'⟩
     have hz' : z ∈ y :: dedF y l := by
       rcases List.mem_cons.1 hz with rfl | hz
       . exact List.mem_cons_self
       . exact dedF_sup y l z hz
     exact ge_lt ((List.pairwise_cons.1 hs.1).1 z hz').2
theorem sortDW_inv {g : Nat} {l l' : List D} (h : sortDW E g l = some l') : l'.Perm l /\ chkS E g (dedR l') = true /\ WS E g l' := by
 unfold sortDW at h
 split at h <;> first | (cases h; done) | skip
 rename_i hc
 cases h
 refine ⟨sortL_perm _ l, hc, ?_⟩
 generalize sortL (ltD E g) l = m at hc
 cases m with
 | nil => simp [WS]
 | cons x m => exact ws_dedF m x hc
theorem sort_callsW (hE : EnvOk P E) {f : Nat} {e : Ty} (hf : SortOk P f e) {g : Nat} (hsig : E.sig g = some ([e, e], .int .i64)) {x : Nat} {S : Nat -> Nat -> Prop} {γ : Nat -> Option Nat} {β : Nat -> Option (Nat × Nat)} {s : St} {a : Act} {w : World} (h : Rp r S γ β s a w)
   {l l' : List D} (hv : freshL s e x = some l) (hs : sortDW E g l = some l') :
   Calls P f #[a.tmps.getD x undef, .func (.func g) #[] #[]] w fun en w1 => (∃ v, en = .returned v) /\ ∃ S', Ext r w1 /\ DR0 w1 S' (.sl l') (a.tmps.getD x undef) /\ (∀ b o, S' b o -> b < w1.heap.size) /\ (∀ b o, S' b o -> r.Old b -> r.S0 b o) /\ (2 <= l'.length -> ∃ b off cap, a.tmps.getD x undef = .slice (some ⟨b, off, none⟩) l'.length cap /\ HL e w1 b off l' /\ ¬ r.Old b) := by
 have hx : x < s.nt := by
   rcases Nat.lt_or_ge x s.nt with k | k
   . exact k
   . unfold freshL at hv; rw [h.tmu x k] at hv; cases hv
 have hax : AR ⟨w, S, γ, β, s.ob, s.dead⟩ (s.tm x) (a.tmps.getD x undef) := h.tms x (by rw [h.nt]; exact hx)
 obtain ⟨ad, cap, val, hwt, hcr, hown⟩ : ∃ ad cap, a.tmps.getD x undef = .slice ad l.length cap /\ (∀ y ∈ l, wt e y) /\ CR w S (.sl l) (.slice ad l.length cap) /\ (l ≠ [] -> ∃ b off row, ad = some ⟨b, off, none⟩ /\ row? w b = some row /\ off + l.length * e.size <= row.size /\ ¬ r.Old b /\ b < w.heap.size) /\ l.length <= 1073741824 := by
   unfold freshL at hv
   split at hv
   . rename_i e' v l0 htm
     split at hv
     . rename_i hb
       simp only [Bool.and_eq_true, Bool.not_eq_true', decide_eq_true_eq] at hb
       obtain ⟨⟨hb1, hb2⟩, hb3⟩ := hb
       cases hv
       have := Ty.eq_of_beq _ _ hb1; subst this
       rw [htm] at hax
       simp only [AR, AC] at hax
       obtain ⟨n0, n1, n2, ad, cap, n3, n4, n5⟩ := hax
       have hval := cells_single n0 n3
       have hdead : v ∉ s.dead := by simpa using hb2
       refine ⟨ad, cap, hval, n2, n4, fun hne => ?_, hb3⟩
       rcases n5 hdead with ⟨q1, q2⟩ | ⟨b, off, q1, q2, n, q3, q4⟩
       . exfalso
         obtain ⟨_, _, b, off, e1, e2, e3, e4⟩ := n4.elems
         cases e1
         rcases e2 with e2 | e2
         . exact hne e2
         . rw [q1] at e2; cases e2
       . obtain ⟨k1, k2, _⟩ := h.βn v b _ hdead q2
         unfold rsz at q3
         cases hr : row? w b with
         | none => rw [hr] at q3; cases q3
         | some row =>
           rw [hr] at q3
           simp only [Option.map_some, Option.some.injEq] at q3
           have hlc : l.length <= cap := by
             obtain ⟨_, _, _, _, e1, _, e3, _⟩ := n4.elems
             cases e1; exact e3
           have := Nat.mul_le_mul_right e'.size hlc
           exact ⟨b, off, row, q1, hr, by omega, k1, k2⟩
     . cases hv
   . rename_i htm
     cases hv
     rw [htm] at hax
     simp only [AR, AC] at hax
     have hval := cells_single hax.1 hax.2
     exact ⟨none, 0, hval, by simp, CR.of_elems (b := 0) (off := 0) (.inl rfl) (Nat.le_refl _) ⟨[], CRl.nil, by simp⟩, fun h => absurd rfl h, by simp⟩
   . cases hv
 obtain ⟨hown, hlen⟩ := hown
 obtain ⟨hperm, hchk, hws⟩ := sortDW_inv hs
 have hll : l'.length = l.length := hperm.length_eq
 have hwt' : ∀ y ∈ l', wt e y := fun y hy => hwt y (hperm.subset hy)
 rw [val]
 by_cases hne : l = []
 . subst hne
   have e0 : l' = [] := by cases l' with | nil => rfl | cons y l' => simp at hll
   subst e0
   refine (hf.empty ad cap _ w).mono ?_
   rintro en w1 ⟨rfl, rfl⟩
   exact ⟨⟨_, rfl⟩, S, h.ext, DR0_sl hcr, h.Sb, h.So, fun h => by simp at h⟩
 . obtain ⟨b, off, row, rfl, hr, hrs, hold, hbs⟩ := hown hne
   have hcell : ∀ (i : Nat) (d : D), (D.flats l)[i]? = some d -> w.cell? ⟨b, off + i, none⟩ = some (valOf d) := by
     obtain ⟨_, _, b', off', e1, e2, e3, cs, e4, e5⟩ := hcr.elems
     cases e1
     rcases e2 with e2 | e2
     . exact absurd e2 hne
     . cases e2
       have hleaf := leaf_list hf.cmp l hwt
       have := (CRl_leaf hleaf).1 e4
       subst this
       intro i d hd
       exact (e5 i (valOf d) (by rw [List.getElem?_map, hd]; rfl)).2
   refine (sort_callW hE hf hsig hwt hchk (fun x hx => dedR_sup _ x (hperm.symm.subset hx)) (fun x hx => hperm.subset (dedR_sub _ x hx)) hne (b := b) (off := off) (cap := cap) hr hcell (by omega)).mono ?_
   rintro en w1 ⟨rfl, l2, hp2, hw2, ⟨row', hr', hrz⟩, q1, q2, q3, q4, q5, q6, q7⟩
   have e2 : l2 = l' := ws_unique hchk (hp2.trans hperm.symm) hw2 hws fun x hx => dedR_sup _ x (hperm.symm.subset (hp2.subset hx))
   subst e2
   refine ⟨⟨_, rfl⟩, fun b' o => (S b' o /\ b' ≠ b) \/ (b' = b /\ off <= o /\ o < off + (D.flats l2).length), ?_, ?_, ?_, ?_, ?_⟩
   . refine ext_of h.ext q2 q3 q4 q5 q1 fun b' hb' => q6 b' (fun e => hold (e ▸ hb')) (Nat.lt_of_lt_of_le hb'.1 h.ext.sz)
   . refine DR0_sl ?_
     rw [<- hll]
     refine CR.of_elems (b := b) (off := off) (.inr rfl) (by obtain ⟨_, _, _, _, e1, _, e3, _⟩ := hcr.elems; cases e1; rw [hll]; exact e3) ⟨(D.flats l2).map valOf, ?_, fun i c hc => ?_⟩
     . exact (CRl_leaf (leaf_list hf.cmp l2 hwt')).2 rfl
     . rw [List.getElem?_map] at hc
       cases hd : (D.flats l2)[i]? with
       | none => rw [hd] at hc; cases hc
       | some d =>
         rw [hd] at hc
         simp only [Option.map_some, Option.some.injEq] at hc
         subst hc
         exact ⟨.inr ⟨rfl, by omega, by have := (List.getElem?_eq_some_iff.1 hd).1; omega⟩, q7 i d hd⟩
   . rintro b' o (⟨hb', _⟩ | ⟨rfl, _, _⟩)
     . exact Nat.lt_of_lt_of_le (h.Sb b' o hb') q5
     . exact Nat.lt_of_lt_of_le hbs q5
   . rintro b' o (⟨hb', _⟩ | ⟨rfl, _, _⟩) ho
     . exact h.So b' o hb' ho
     . exact absurd ho hold
   . intro _
     exact ⟨b, off, cap, by rw [hll], ⟨⟨row', hr', by rw [hrz, hll]; exact hrs⟩, fun i d hd => q7 i d hd⟩, hold⟩
end
end Go.Proofs.YtjjjkojfijpeeaaGreat.Sy
end
section
set_option linter.unusedVariables false
namespace Go.Proofs.YtjjjkojfijpeeaaGreat.Sy
open Go Go.Proofs Go.Sort Go.Lib
theorem fn95 : ∃ fn, Tryz.prog.funcs[95]? = some fn /\ (fn.name == "runtime.NumGoroutine") = false /\ fn.body.isSome = true := fnOf (by kernel_rfl)
theorem hv0_93 {lp : Lp} {call : Nat -> List D -> Option D} {l : List D} : ev (envQ lp call) (sq1 (bodyOf Tryz.f93)) .leaf D (dS 4 [] (fun i => if i = 0 then .d (.sl K1) (.sl l) else .undef)) (kBoxT (.sl K1) 1) = some (.sl l) := by kernel_rfl
theorem L44 {lp : Lp} (hlp : LpOk lp) : leafOk 44 (spec44 lp) := by
 intro call hc ptys rty' xs y hs hy hw
 have : sigF 44 = some ([K2], K2) := by kernel_rfl
 rw [this] at hs; cases hs
 obtain ⟨a0, l0, rfl, hwa, hl0⟩ := hw
 have hl0' : l0 = [] := hl0
 subst hl0'
 obtain ⟨l, rfl, hwt⟩ := hwa
 simp only [spec44] at hy
 split at hy <;> first | (cases hy; done) | skip
 rename_i hlen
 have hlen : l.length <= 1073741824 := by simpa using hlen
 obtain ⟨l', hsd, hy⟩ := bind_some_inv hy
 cases hy
 have hE : EnvOk Tryz.prog (envQ lp call) := envP hlp hc
 obtain ⟨hperm, _, _⟩ := sortDW_inv hsd
 have hwt' : ∀ x ∈ l', wt K1 x := fun x hx => hwt x (hperm.subset hx)
 intro w S vs hS _ hlv hvs
 obtain ⟨v0, rfl⟩ : ∃ v0, vs = [v0] := by
   match vs, hlv with
   | [v], _ => exact ⟨v, rfl⟩
 have hv0 := hvs 0 _ v0 rfl rfl
 have s94 : (envQ lp call).sig 94 = some ([K1, K1], .int .i64) := by kernel_rfl
 refine sorted_gen (f := 44) (f93 := 93) (f92 := 92) (f95 := 95) (g := 94) (fn := Tryz.f44) (K1 := ValsRes w S l 151)
   (K2 := fun v w2 => ∃ S', Ext (rootOf w S) w2 /\ DR0 w2 S' (.sl l') v /\ (∀ b o, S' b o -> b < w2.heap.size) /\ (∀ b o, S' b o -> b < w.heap.size -> S b o) /\ (2 <= l'.length -> ∃ b off cap, v = .slice (some ⟨b, off, none⟩) l'.length cap /\ HL Sy.K1 w2 b off l' /\ ¬ (rootOf w S).Old b))
   (K3 := fun v w' => (∃ os d, w.drawn <= d /\ w' = grown w os d) /\ wt Sy.K2 (.sl (dedR l')) /\ DR w' (fun b o => S b o \/ (w.heap.size <= b /\ b < w'.heap.size)) (.sl (dedR l')) v) (by kernel_rfl) rfl rfl rfl rfl rfl rfl fn93 fn92 fn95 ?_ ?_ ?_
 . exact values_gen hE (e := Sy.K1) rfl hwt (fn := Tryz.f93) (by kernel_rfl) rfl rfl rfl rfl hv0_93 hS hv0
 . rintro v w1 ⟨B, S1, sv, rfl, hX, hcell, hB, hcr, hSb, hSo⟩
   have hIt : ItOk Tryz.prog (rootOf w1 S1) Sy.K1 l 151 #[.pointer (some ⟨B, 0, none⟩)] := vals151 hE hwt hlen hSb (fun W hW => by
     have := hW.old B ⟨hB, fun hf => hf⟩
     simp only [World.cell?, this]
     exact hcell) hcr
   have hx1 : Ext (rootOf w1 S1) w1 := ⟨rfl, rfl, rfl, Nat.le_refl _, Nat.le_refl _, fun _ _ => rfl⟩
   refine sortedFunc_gen (f150 := 150) (g := 94) sortOk_V.fn (K0 := OwnRes (rootOf w1 S1) Sy.K1 l) ?_ (f := 92) (f149 := 149) (fn := Tryz.f92) (by kernel_rfl) rfl rfl rfl rfl rfl rfl rfl fn149 (collect149 hE hwt hlen hIt hx1)
   intro v w2 hv
   obtain ⟨X, S2, β, hX2, hR⟩ := hv.at (a := ⟨#[v], []⟩) (nt := 1) (t := 0) rfl Nat.one_pos rfl rfl
   refine (sort_callsW hE sortOk_V s94 hR (freshL_of hX2 hlen) hsd).mono ?_
   rintro en w3 ⟨⟨u, rfl⟩, S', q1, q2, q3, q4, q5⟩
   refine ⟨u, rfl, S', hX.trans q1, q2, q3, fun b o hb hlt => ?_, fun h2 => ?_⟩
   . have h1 : b < w1.heap.size := Nat.lt_of_lt_of_le hlt hX.sz
     exact hSo b o (q4 b o hb ⟨h1, fun hf => hf⟩) hlt
   . obtain ⟨b, off, cap, z1, z2, z3⟩ := q5 h2
     exact ⟨b, off, cap, z1, z2, fun ho => z3 ⟨Nat.lt_of_lt_of_le ho.1 hX.sz, fun hf => hf⟩⟩
 . rintro v w2 ⟨S', q1, q2, q3, q4, q5⟩
   refine (compact95 (r := rootOf w S) hE hwt' (by rw [hperm.length_eq]; exact hlen) q1 q3 (fun b o hb ho => q4 b o hb ho.1) q2 q5).mono ?_
   rintro en w3 ⟨u, rfl, S3, k1, k2, k3, k4⟩
   refine ⟨u, rfl, grown_of_ext k1 (fun _ hf => hf), ⟨_, rfl, fun x hx => hwt' x (dedR_sub _ x hx)⟩, (DR.of0 k2).mono (fun _ _ _ => rfl) fun b o hb => ?_⟩
   rcases Nat.lt_or_ge b w.heap.size with hlt | hge
   . exact .inl (k4 b o hb ⟨hlt, fun hf => hf⟩)
   . exact .inr ⟨hge, k3 b o hb⟩
end Go.Proofs.YtjjjkojfijpeeaaGreat.Sy
end
section
namespace Go.Proofs.YtjjjkojfijpeeaaGreat.Sy
open Go Go.Proofs Go.Proofs.YtjjjkojfijpeeaaGreat.Geo
noncomputable def callM (f : Nat) (xs : List D) : Option D := if f = 10 then callA (itN 2000) 20 10 xs else cA 10 f xs
theorem callM_ok : CallOk Tryz.prog callM := by
 intro f ptys rty xs y hs hy hw
 unfold callM at hy
 split at hy
 . rename_i hf
   subst hf
   exact callA_ok (lpOk_iter 2000) (L44 (lpOk_iter 2000)) 20 10 ptys rty xs y hs hy hw
 . exact callA_ok lpOk_loopW (L44 lpOk_loopW) 10 f ptys rty xs y hs hy hw
theorem wt_K1 {d : D} (h : wt K1 d) : ∃ v : V, d = encV v := by
 obtain ⟨l, rfl, hl, h⟩ := h
 match l, hl with
 | [a, b, c], _ =>
   obtain ⟨x, rfl⟩ := h a (by simp)
   obtain ⟨y, rfl⟩ := h b (by simp)
   obtain ⟨z, rfl⟩ := h c (by simp)
   exact ⟨⟨x, y, z⟩, rfl⟩
theorem wt_K2 {d : D} (h : wt K2 d) : ∃ l : List V, d = encL l := by
 obtain ⟨l, rfl, h⟩ := h
 have key : ∀ l : List D, (∀ x ∈ l, wt K1 x) -> ∃ m : List V, l = m.map encV := by
   intro l
   induction l with
   | nil => intro _; exact ⟨[], rfl⟩
   | cons x l ih =>
     intro h
     obtain ⟨v, rfl⟩ := wt_K1 (h x (by simp))
     obtain ⟨m, rfl⟩ := ih fun y hy => h y (by simp [hy])
     exact ⟨v :: m, rfl⟩
 obtain ⟨m, rfl⟩ := key l h
 exact ⟨m, rfl⟩
theorem wt_K3 {d : D} (h : wt K3 d) : ∃ l : List V, d = encC l := by
 obtain ⟨l, rfl, d, l', rfl, h1, h2⟩ := h
 have h2' : l' = [] := h2
 subst h2'
 obtain ⟨m, rfl⟩ := wt_K2 h1
 exact ⟨m, rfl⟩
end Go.Proofs.YtjjjkojfijpeeaaGreat.Sy
end
section
set_option linter.unusedVariables false
namespace Go.Proofs.YtjjjkojfijpeeaaGreat.Sy
open Go Go.Proofs Go.Proofs.YtjjjkojfijpeeaaGreat.Geo
abbrev FL := List ((V × Int) × List Nat)
def encFL (L : FL) : List D := L.map fun f => encF f.1 f.2
theorem encFL_len (L : FL) : (encFL L).length = L.length := List.length_map ..
theorem encFL_get {L : FL} {i : Nat} (h : i < L.length) : (encFL L)[i]? = some (encF L[i].1 L[i].2) := by simp [encFL, h]
theorem c108 (n : Nat) (L : FL) (m : V) (hL : L.length <= 3000000) : cA (n + 1) 108 [.sl (encFL L), encV m] = some (.bool (L.any fun f => decide (f.1.1 = m))) := by
 rw [u108]
 unfold F108
 refine lp_for (fun i s => s = [I (i : Int)] /\ (L.take i).any (fun f => decide (f.1.1 = m)) = false) L.length 0 (Nat.zero_le _) ⟨rfl, by simp⟩ (fun i hi s hJ => ?_) (fun s hJ => ?_)
 . obtain ⟨rfl, hz⟩ := hJ
   by_cases he : L[i].1.1 = m
   . right
     refine ⟨(0, [.bool true]), ?_, ?_⟩
     . refine bind_eq (z := encFL L) rfl (bind_eq b_lss (bind_eq tr_b (iteT (by show ((i : Int) < ((encFL L).length : Int)); rw [encFL_len]; omega) ?_)))
       refine bind_eq (z := encFL L) rfl (bind_eq (z := i) (by rw [encFL_len]; exact idx_n hi) (bind_eq (encFL_get hi) (bind_eq (z := encV L[i].1.1) rfl ?_)))
       rw [beq_V]
       exact bind_eq tr_b (iteT he rfl)
     . have : L.any (fun f => decide (f.1.1 = m)) = true := List.any_eq_true.2 ⟨L[i], List.getElem_mem hi, by simpa using he⟩
       simp [this, g0]
   . left
     refine ⟨[I ((i + 1 : Nat) : Int)], ?_, rfl, ?_⟩
     . refine bind_eq (z := encFL L) rfl (bind_eq b_lss (bind_eq tr_b (iteT (by show ((i : Int) < ((encFL L).length : Int)); rw [encFL_len]; omega) ?_)))
       refine bind_eq (z := encFL L) rfl (bind_eq (z := i) (by rw [encFL_len]; exact idx_n hi) (bind_eq (encFL_get hi) (bind_eq (z := encV L[i].1.1) rfl ?_)))
       rw [beq_V]
       exact bind_eq tr_b (iteF he (bind_eq (b_add (inR_nat (i := i) (by omega))) rfl))
     . rw [List.take_succ_eq_append_getElem hi, List.any_append, hz]; simp [he]
 . obtain ⟨rfl, hz⟩ := hJ
   rw [List.take_length] at hz
   refine ⟨(1, []), ?_, by simp [hz]⟩
   exact bind_eq (z := encFL L) rfl (bind_eq b_lss (bind_eq tr_b (iteF (by show ¬ ((L.length : Int) < ((encFL L).length : Int)); rw [encFL_len]; omega) rfl)))
def insF (f : (V × Int) × List Nat) : FL -> FL
 | [] => [f]
 | x :: L => if lexlt f.1.1 x.1.1 then f :: x :: L else x :: insF f L
theorem c110 (n : Nat) (L : FL) (f : (V × Int) × List Nat) (hL : L.length <= 3000000) : cA (n + 2) 110 [.sl (encFL L), encF f.1 f.2] = some (.sl (encFL (insF f L))) := by
 rw [u110]
 unfold F110
 have app : ∀ (o : FL) (x : (V × Int) × List Nat), encFL o ++ [encF x.1 x.2] = encFL (o ++ [x]) := fun o x => by simp [encFL]
 refine lp_for (fun i s => ∃ (out : FL) (put : Bool), s = [.sl (encFL out), .bool put, I (i : Int)] /\ out.length <= 2 * i /\ (put = false -> insF f L = out ++ insF f (L.drop i)) /\ (put = true -> insF f L = out ++ L.drop i)) L.length 0 (Nat.zero_le _) ⟨[], false, rfl, by simp, by simp, by simp⟩ (fun i hi s hJ => ?_) (fun s hJ => ?_)
 . obtain ⟨out, put, rfl, hol, h1, h2⟩ := hJ
   left
   have hd : L.drop i = L[i] :: L.drop (i + 1) := List.drop_eq_getElem_cons hi
   have hc := c105 n f.1.1 L[i].1.1
   obtain ⟨o, p, he, ho, q1, q2⟩ : ∃ o p, (if put = false /\ lexlt f.1.1 L[i].1.1 then (out ++ [f], true) else (out, put)) = (o, p) /\ o.length <= 2 * i + 1 /\ (p = false -> insF f L = o ++ L[i] :: insF f (L.drop (i + 1))) /\ (p = true -> insF f L = o ++ L[i] :: L.drop (i + 1)) := by
     by_cases hput : put = false /\ lexlt f.1.1 L[i].1.1
     . refine ⟨_, _, if_pos hput, by simp; omega, by simp, fun _ => ?_⟩
       rw [h1 hput.1, hd]; simp [insF, hput.2]
     . refine ⟨_, _, if_neg hput, by omega, fun hp => ?_, fun hp => ?_⟩
       . have hnl : ¬ lexlt f.1.1 L[i].1.1 := fun h => hput ⟨hp, h⟩
         rw [h1 hp, hd]; simp [insF, hnl]
       . rw [h2 hp, hd]
   refine ⟨[.sl (encFL (o ++ [L[i]])), .bool p, I ((i + 1 : Nat) : Int)], ?_, o ++ [L[i]], p, rfl, by simp; omega, fun hp => by rw [q1 hp]; simp, fun hp => by rw [q2 hp]; simp⟩
   refine bind_eq (z := encFL L) rfl (bind_eq b_lss (bind_eq tr_b (iteT (by show ((i : Int) < ((encFL L).length : Int)); rw [encFL_len]; omega) ?_)))
   refine bind_eq (z := encV f.1.1) rfl (bind_eq (z := encFL L) rfl (bind_eq (z := i) (by rw [encFL_len]; exact idx_n hi) (bind_eq (encFL_get hi) (bind_eq (z := encV L[i].1.1) rfl (bind_eq hc ?_)))))
   refine bind_eq (z := (0, [.sl (encFL o), .bool p])) ?_ ?_
   . refine bind_eq (z := .bool (!put)) rfl (bind_eq (z := !put) rfl (bind_eq (z := !put && decide (lexlt f.1.1 L[i].1.1)) ?_ (bind_eq (z := !put && decide (lexlt f.1.1 L[i].1.1)) rfl ?_)))
     . cases put
       . exact tr_b
       . rfl
     . by_cases hput : put = false /\ lexlt f.1.1 L[i].1.1
       . rw [if_pos hput] at he
         obtain ⟨rfl, hlt⟩ := hput
         cases he
         rw [show (!false && decide (lexlt f.1.1 L[i].1.1)) = true by simp [hlt], if_pos rfl, if_pos (by simp only [g0, D.els, encFL_len, List.length_cons, List.length_nil]; omega)]
         simp only [g0, D.els, app]
       . rw [if_neg hput] at he
         cases he
         rw [show (!put && decide (lexlt f.1.1 L[i].1.1)) = false by
           cases put
           . simpa using hput
           . rfl]
         rfl
   . refine bind_eq (z := encFL L) rfl (bind_eq (z := i) (by rw [encFL_len]; exact idx_n hi) (bind_eq (encFL_get hi) ?_))
     rw [if_pos (by simp only [g0, D.els, encFL_len, List.length_cons, List.length_nil]; omega)]
     refine bind_eq (b_add (inR_nat (i := i) (by omega))) ?_
     simp only [g0, g1, D.els, app]
     rfl
 . obtain ⟨out, put, rfl, hol, h1, h2⟩ := hJ
   refine ⟨(0, [.sl (encFL out), .bool put]), ?_, ?_⟩
   . exact bind_eq (z := encFL L) rfl (bind_eq b_lss (bind_eq tr_b (iteF (by show ¬ ((L.length : Int) < ((encFL L).length : Int)); rw [encFL_len]; omega) rfl)))
   . cases put
     . have := h1 rfl
       rw [List.drop_length] at this
       rw [this]
       refine bind_eq (z := (0, [.sl (encFL (out ++ [f]))])) ?_ rfl
       refine bind_eq (z := .bool true) rfl (bind_eq (z := true) rfl ?_)
       rw [if_pos rfl, if_pos (by simp only [g0, D.els, encFL_len, List.length_cons, List.length_nil]; omega)]
       simp only [g0, D.els, app]
     . have := h2 rfl
       rw [List.drop_length, List.append_nil] at this
       rw [this]
       rfl
end Go.Proofs.YtjjjkojfijpeeaaGreat.Sy
end
section
set_option linter.unusedVariables false
namespace Go.Proofs.YtjjjkojfijpeeaaGreat.Sy
open Go Go.Proofs Go.Proofs.YtjjjkojfijpeeaaGreat.Geo
def sideOk (l : List V) (m : V) (a b x : Nat) : Bool :=
 decide (0 <= T m (wy (pt l) a b) (wy (pt l) a x)) && (!decide (T m (wy (pt l) a b) (wy (pt l) a x) = 0) || (decide (0 <= V.dot (wy (pt l) a x) (wy (pt l) a b)) && decide (V.dot (wy (pt l) a x) (wy (pt l) a b) <= V.dot (wy (pt l) a b) (wy (pt l) a b))))
theorem sideOk_iff {l : List V} {m : V} {a b x : Nat} : sideOk l m a b x = true ↔ (0 <= T m (wy (pt l) a b) (wy (pt l) a x) /\ (T m (wy (pt l) a b) (wy (pt l) a x) = 0 -> 0 <= V.dot (wy (pt l) a x) (wy (pt l) a b) /\ V.dot (wy (pt l) a x) (wy (pt l) a b) <= V.dot (wy (pt l) a b) (wy (pt l) a b))) := by
 simp only [sideOk, Bool.and_eq_true, Bool.or_eq_true, Bool.not_eq_true', decide_eq_true_eq, decide_eq_false_iff_not]
 by_cases h : T m (wy (pt l) a b) (wy (pt l) a x) = 0 <;> simp [h]
def sideB (l : List V) (m : V) (d : Int) (a b : Nat) : Bool := (OnPl (pt l) l.length m d).all fun x => sideOk l m a b x
theorem sideB_iff {l : List V} {m : V} {d : Int} {a b : Nat} (hb : b ∈ OnPl (pt l) l.length m d) (hne : b ≠ a) : sideB l m d a b = true ↔ Side m (pt l) (OnPl (pt l) l.length m d) a b := by
 simp only [sideB, List.all_eq_true, sideOk_iff]
 exact ⟨fun h => ⟨hb, hne, h⟩, fun h => h.all⟩
theorem c156 (n : Nat) {l : List V} (hl : ∀ x ∈ l, bd MV x) (hlen : l.length <= 100) {m : V} {d : Int} (hm0 : m ≠ V.zero) (hm : bd 549755813888 m) {a b : Nat} (ha : a < l.length) (hb : b < l.length) (hda : V.dot m (pt l a) = d) (hdb : V.dot m (pt l b) = d) :
   cA (n + 3) 156 [encL l, encV m, I d, encV (pt l a), encV (pt l b)] = some (.bool (sideB l m d a b)) := by
 rw [u156]
 unfold F156
 have w1 : bd 524288 (wy (pt l) a b) := bd_wy (hl _ (memD ha)) (hl _ (memD hb))
 refine bind_eq (z := encV (wy (pt l) a b)) (c112 (n + 1) (hl _ (memD hb)) (hl _ (memD ha)) (by decide)) ?_
 have ll : (l.map encV).length = l.length := List.length_map ..
 have hmb : V.dot m (wy (pt l) a b) = 0 := by rw [dot_wy, hda, hdb]; omega
 refine lp_for (fun i s => s = [I (i : Int)] /\ (OnPl (pt l) i m d).all (fun x => sideOk l m a b x) = true) l.length 0 (Nat.zero_le _) ⟨rfl, by simp [OnPl]⟩ (fun i hi s hJ => ?_) (fun s hJ => ?_)
 . obtain ⟨rfl, hz⟩ := hJ
   have hc := c107 (n + 1) hm (hl _ (memD hi)) (by decide)
   by_cases hon : V.dot m (pt l i) = d
   . have w2 : bd 524288 (wy (pt l) a i) := bd_wy (hl _ (memD ha)) (hl _ (memD hi))
     have hmi : V.dot m (wy (pt l) a i) = 0 := by rw [dot_wy, hda, hon]; omega
     have c1 := c112 (n + 1) (hl _ (memD hi)) (hl _ (memD ha)) (by decide)
     have c2 := c123 (n + 1) w1 w2 (by decide)
     have c3 := c188 n m (V.cross (wy (pt l) a b) (wy (pt l) a i))
     rw [left_eq hm0 (cross_par hmb hmi)] at c3
     have c4 := c107 (n + 1) w2 w1 (by decide)
     have c5 := c107 (n + 1) w1 w1 (by decide)
     have step : ∀ (y : Nat × List D), y = (if sideOk l m a b i then (0, []) else (1, [D.bool false])) -> (Option.bind (D.asSl (encL l)) fun l6 => Option.bind (D.idx (I (i : Int)) (List.length l6)) fun i7 =>
         Option.bind (l6[i7]?) fun x8 => Option.bind (cA (n + 2) 107 [encV m, x8]) fun r9 => Option.bind (D.truth (D.bool (!(D.beq r9 (I d))))) fun b10 =>
         if b10 then (some ((0 : Nat), ([] : List D))) else (Option.bind (D.asSl (encL l)) fun l11 => Option.bind (D.idx (I (i : Int)) (List.length l11)) fun i12 =>
         Option.bind (l11[i12]?) fun x13 => Option.bind (cA (n + 2) 112 [x13, encV (pt l a)]) fun r14 => Option.bind (cA (n + 2) 123 [encV (wy (pt l) a b), r14]) fun r15 => Option.bind (cA (n + 2) 188 [encV m, r15]) fun r16 =>
         Option.bind (D.bin .lss r16 (D.int .i64 0)) fun x17 => Option.bind (D.truth x17) fun b18 =>
         Option.bind (if b18 then (some true) else (Option.bind (D.truth (D.bool (D.beq r16 (D.int .i64 0)))) fun b19 =>
         if b19 then (Option.bind (cA (n + 2) 107 [r14, encV (wy (pt l) a b)]) fun r20 => Option.bind (D.bin .lss r20 (D.int .i64 0)) fun x21 => Option.bind (D.truth x21) fun b22 =>
         if b22 then (some true) else (Option.bind (cA (n + 2) 107 [r14, encV (wy (pt l) a b)]) fun r23 => Option.bind (cA (n + 2) 107 [encV (wy (pt l) a b), encV (wy (pt l) a b)]) fun r24 =>
         Option.bind (D.bin .gtr r23 r24) fun x25 => D.truth x25)) else (some false))) fun b26 => Option.bind (D.truth (D.bool b26)) fun b27 =>
         if b27 then (some (1, [(D.bool false)])) else (some (0, [])))) = some y := by
       intro y hy
       refine bind_eq (z := l.map encV) rfl (bind_eq (z := i) (by rw [ll]; exact idx_n hi) (bind_eq (getDL hi) (bind_eq hc (bind_eq (z := false) ?_ ?_))))
       . rw [beq_i, show V.dot m (l.getD i V.zero) = d from hon]; simp [D.truth]
       rw [if_neg (by decide)]
       refine bind_eq (z := l.map encV) rfl (bind_eq (z := i) (by rw [ll]; exact idx_n hi) (bind_eq (getDL hi) (bind_eq (z := encV (wy (pt l) a i)) c1 (bind_eq c2 (bind_eq c3 (bind_eq b_lss (bind_eq tr_b ?_)))))))
       rw [hy]
       have e : V.dot m (V.cross (wy (pt l) a b) (wy (pt l) a i)) = T m (wy (pt l) a b) (wy (pt l) a i) := rfl
       rw [e]
       refine bind_eq (z := !sideOk l m a b i) ?_ ?_
       . by_cases t1 : T m (wy (pt l) a b) (wy (pt l) a i) < 0
         . rw [iteD (sg_lt.2 t1)]
           have : ¬ (0 <= T m (wy (pt l) a b) (wy (pt l) a i)) := by omega
           simp [sideOk, this]
         . rw [iteN (fun h => t1 (sg_lt.1 h))]
           have t1' : 0 <= T m (wy (pt l) a b) (wy (pt l) a i) := by omega
           by_cases t2 : T m (wy (pt l) a b) (wy (pt l) a i) = 0
           . refine bind_eq (z := true) (by rw [beq_i, decide_eq_true (sg_zero.2 t2)]; rfl) ?_
             rw [if_pos rfl]
             refine bind_eq c4 (bind_eq b_lss (bind_eq tr_b ?_))
             by_cases t3 : V.dot (wy (pt l) a i) (wy (pt l) a b) < 0
             . rw [iteD t3]
               have : ¬ (0 <= V.dot (wy (pt l) a i) (wy (pt l) a b)) := by omega
               simp [sideOk, t2, this]
             . rw [iteN t3]
               refine bind_eq c4 (bind_eq c5 (bind_eq b_gtr ?_))
               rw [tr_b]
               have t3' : 0 <= V.dot (wy (pt l) a i) (wy (pt l) a b) := by omega
               simp only [sideOk, t2, t3', decide_true, Bool.true_and, Bool.not_true, Bool.false_or, Int.le_refl]
               by_cases t4 : V.dot (wy (pt l) a i) (wy (pt l) a b) <= V.dot (wy (pt l) a b) (wy (pt l) a b)
               . have : ¬ (V.dot (wy (pt l) a i) (wy (pt l) a b) > V.dot (wy (pt l) a b) (wy (pt l) a b)) := by omega
                 simp [t4, this]
               . have : (V.dot (wy (pt l) a i) (wy (pt l) a b) > V.dot (wy (pt l) a b) (wy (pt l) a b)) := by omega
                 simp [t4, this]
           . refine bind_eq (z := false) (by rw [beq_i, decide_eq_false (fun h => t2 (sg_zero.1 h))]; rfl) ?_
             simp [sideOk, t2, t1']
       . refine bind_eq tr_b ?_
         cases sideOk l m a b i <;> rfl
     cases hk : sideOk l m a b i
     . right
       rw [hk] at step
       refine ⟨(0, [.bool false]), ?_, ?_⟩
       . exact bind_eq (z := l.map encV) rfl (bind_eq b_lss (bind_eq tr_b (iteT (by show ((i : Int) < ((l.map encV).length : Int)); rw [ll]; omega) (bind_eq (step _ rfl) rfl))))
       . have : sideB l m d a b = false := by
           rw [Bool.eq_false_iff]; intro h
           have := List.all_eq_true.1 h i (mem_onPl.2 ⟨hi, hon⟩)
           rw [hk] at this; exact absurd this (by decide)
         rw [this]; rfl
     . left
       rw [hk] at step
       refine ⟨[I ((i + 1 : Nat) : Int)], ?_, rfl, ?_⟩
       . exact bind_eq (z := l.map encV) rfl (bind_eq b_lss (bind_eq tr_b (iteT (by show ((i : Int) < ((l.map encV).length : Int)); rw [ll]; omega) (bind_eq (step _ rfl) (by rw [if_pos rfl, if_pos rfl]; exact bind_eq (b_add (inR_nat (i := i) (by omega))) rfl)))))
       . rw [onPl_succ, if_pos hon, List.all_append, hz]; simp [hk]
   . left
     refine ⟨[I ((i + 1 : Nat) : Int)], ?_, rfl, ?_⟩
     . refine bind_eq (z := l.map encV) rfl (bind_eq b_lss (bind_eq tr_b (iteT (by show ((i : Int) < ((l.map encV).length : Int)); rw [ll]; omega) (bind_eq (z := (0, [])) ?_ (by rw [if_pos rfl]; exact bind_eq (b_add (inR_nat (i := i) (by omega))) rfl)))))
       refine bind_eq (z := l.map encV) rfl (bind_eq (z := i) (by rw [ll]; exact idx_n hi) (bind_eq (getDL hi) (bind_eq hc (bind_eq (z := true) ?_ rfl))))
       rw [beq_i, decide_eq_false (show ¬ V.dot m (l.getD i V.zero) = d from hon)]; rfl
     . rw [onPl_succ, if_neg hon]; exact hz
 . obtain ⟨rfl, hz⟩ := hJ
   refine ⟨(1, []), ?_, ?_⟩
   . exact bind_eq (z := l.map encV) rfl (bind_eq b_lss (bind_eq tr_b (iteF (by show ¬ ((l.length : Int) < ((l.map encV).length : Int)); rw [ll]; omega) rfl)))
   . have : sideB l m d a b = true := hz
     rw [this]; rfl
end Go.Proofs.YtjjjkojfijpeeaaGreat.Sy
end
