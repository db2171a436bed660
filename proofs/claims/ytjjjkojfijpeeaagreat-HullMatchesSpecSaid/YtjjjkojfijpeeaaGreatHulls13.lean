/- Part 13 of the proof that HullMatchesSpec answers true at every input -/
import Derived.Test.YtjjjkojfijpeeaaGreatHulls10
import Derived.Test.YtjjjkojfijpeeaaGreatHulls12
set_option linter.unusedVariables false
set_option linter.unusedSimpArgs false
set_option linter.unnecessarySimpa false
section
set_option linter.unusedVariables false
namespace Go.Proofs.YtjjjkojfijpeeaaGreat.Sy
open Go Go.Proofs Go.Sort Go.Lib
section
variable {P : Program} {ro : Option Nat} {nn : Nat} {ops : Array Oper} {rest : List Oper} {a : Act} {w : World} {Q : Exit -> Act -> World -> Prop} {d : Option Nat} {x y i : Operand} {ty : TypeId} {p : String} {fs : Array Edge} {T : TypeId} {e : Ty}
theorem wl_slice (hl : layB P (.sl e) T = true) {A : Option Addr} {len cap lo hi : Nat} {olo ohi : Option Operand} (hx : a.eval x = .slice A len cap) (h1 : lo <= hi) (h2 : hi <= len) (h3 : len <= cap)
   (hlo : (olo = none /\ lo = 0) \/ ∃ o, olo = some o /\ a.eval o = .int .i64 (lo : Nat)) (hhi : (ohi = none /\ hi = len) \/ ∃ o, ohi = some o /\ a.eval o = .int .i64 (hi : Nat))
   (h : wpListIn (FW ro) nn P ops Q rest (a.put d (.slice (if cap = lo then A else A.map (·.add (lo * e.size))) (hi - lo) (cap - lo))) w) : wpListIn (FW ro) nn P ops Q (⟨d, .slice T x olo ohi none, ty, p, fs, none⟩ :: rest) a w := by
 refine wl_op (K := fun v w' => v = .slice (if cap = lo then A else A.map (·.add (lo * e.size))) (hi - lo) (cap - lo) /\ w = w') rfl (OpOk.value (value_op (m := Instr.sliceAt T (a.eval x) (olo.map a.eval) (ohi.map a.eval) none) rfl ?_) ⟨rfl, rfl⟩) ?_
 . rw [hx]
   refine run_slice_ok hl h1 h2 h3 ?_ ?_ w
   . rcases hlo with ⟨rfl, rfl⟩ | ⟨o, rfl, h⟩
     . exact .inl ⟨rfl, rfl⟩
     . exact .inr ⟨.i64, by rw [Option.map_some, h]⟩
   . rcases hhi with ⟨rfl, rfl⟩ | ⟨o, rfl, h⟩
     . exact .inl ⟨rfl, rfl⟩
     . exact .inr ⟨.i64, by rw [Option.map_some, h]⟩
 rintro _ _ ⟨rfl, rfl⟩
 exact h
theorem wl_index (hl : layB P (.sl e) T = true) {b off len cap k : Nat} (hx : a.eval x = .slice (some ⟨b, off, none⟩) len cap) (hi : a.eval i = .int .i64 (k : Nat)) (hk : k < len)
   (h : wpListIn (FW ro) nn P ops Q rest (a.put d (.pointer (some ⟨b, off + k * e.size, none⟩))) w) : wpListIn (FW ro) nn P ops Q (⟨d, .indexAddr T x i, ty, p, fs, none⟩ :: rest) a w := by
 refine wl_op (K := fun v w' => v = .pointer (some ⟨b, off + k * e.size, none⟩) /\ w = w') rfl (OpOk.value (value_op (m := Instr.indexAt T (a.eval x) (a.eval i)) rfl ?_) ⟨rfl, rfl⟩) ?_
 . rw [hx, hi]; exact run_indexAt_sl hl hk b off w
 rintro _ _ ⟨rfl, rfl⟩
 exact h
theorem wl_load (hl : layB P e T = true) {b off : Nat} {cs : List Value} (hx : a.eval x = .pointer (some ⟨b, off, none⟩)) (hlen : cs.length = e.size) (hn : nag cs) (hc : ∀ (i : Nat) (c : Value), cs[i]? = some c -> w.cell? ⟨b, off + i, none⟩ = some c)
   (h : ∀ v, isVal e cs v -> wpListIn (FW ro) nn P ops Q rest (a.put d v) w) : wpListIn (FW ro) nn P ops Q (⟨d, .load T x, ty, p, fs, none⟩ :: rest) a w := by
 obtain ⟨v, h1, h2⟩ := run_load_ok (P := P) hl hlen hn hc
 refine wl_op (K := fun v' w' => v' = v /\ w = w') rfl (OpOk.value (value_op (m := Instr.loadAt T (a.eval x)) rfl ?_) ⟨rfl, rfl⟩) ?_
 . rw [hx]; exact h1
 rintro _ _ ⟨rfl, rfl⟩
 exact h _ h2
theorem wl_store (hl : layB P e T = true) {b off : Nat} {c : Array Value} {v : Value} {cs : List Value} (hx : a.eval x = .pointer (some ⟨b, off, none⟩)) (hy : a.eval y = v) (hr : row? w b = some c) (hv : isVal e cs v) (hlen : cs.length = e.size) (hn : nag cs) (hb : off + cs.length <= c.size)
   (h : wpListIn (FW ro) nn P ops Q rest a (putAt w b off cs.toArray)) : wpListIn (FW ro) nn P ops Q (⟨none, .store T x y, ty, p, fs, none⟩ :: rest) a w := by
 have h1 := run_store_ok (P := P) hl hr hv hlen hn hb
 refine wl_op (K := fun v' w' => w' = putAt w b off cs.toArray) rfl (OpOk.skip (w' := putAt w b off cs.toArray) ?_ rfl) ?_
 . simp only [execOp, hx, hy, Sem.run_bind, h1, Result.andThen_ok, Sem.run_pure]
 rintro _ _ rfl
 exact h
theorem wl_clear (hl : layB P (.sl e) T = true) (hp : 0 < e.size) {b off m cap : Nat} {row : Array Value} (hx : a.eval x = .slice (some ⟨b, off, none⟩) m cap) (hr : row? w b = some row) (hs : off + m * e.size <= row.size) (hm : 0 < m)
   (h : ∀ cs : Array Value, cs.size = m * e.size -> ∀ v, wpListIn (FW ro) nn P ops Q rest (a.put d v) (putAt w b off cs)) : wpListIn (FW ro) nn P ops Q (⟨d, .call ⟨.builtin .clear, #[x], #[T]⟩, ty, p, fs, none⟩ :: rest) a w := by
 obtain ⟨cs, h1, h2⟩ := clear_run (P := P) (cap := cap) hl hp hr hs hm ty
 refine wl_op (K := fun v' w' => w' = putAt w b off cs) rfl (OpOk.value (v := .tuple #[]) (w' := putAt w b off cs) ?_ rfl) ?_
 . simp [execOp, resolve, invoke, builtin, hx, h2, Sem.run_bind, Result.andThen_ok]
 rintro v _ rfl
 exact h cs h1 v
end
end Go.Proofs.YtjjjkojfijpeeaaGreat.Sy
end
section
set_option linter.unusedVariables false
namespace Go.Proofs.YtjjjkojfijpeeaaGreat.Sy
open Go Go.Proofs Go.Sort Go.Lib
def f1C (e : Ty) (L : List D) (k : Nat) : Nat -> AV := fun i => if i = 0 then .d (.sl e) (.sl L) else if i = 3 then .d (.int .i64) (.int .i64 (k : Nat)) else .undef
def f2C (t k : Nat) : Nat -> AV := fun i => if i = t then .d (.int .i64) (.int .i64 (k : Nat)) else .undef
def f4C (e : Ty) (N : List D) (k : Nat) : Nat -> AV := fun i => if i = 4 then .d (.sl e) (.sl N) else if i = 5 then .d (.int .i64) (.int .i64 (k : Nat)) else .undef
section
variable {P : Program} {E : Env} {r : Root} {ro : Option Nat} {nn : Nat}
theorem AR_i64 (c : Cx) (n : Int) : AR c (.d (.int .i64) (.int .i64 n)) (.int .i64 n) := .inl ⟨rfl, ⟨n, rfl⟩, fun _ h => (by cases h), (CRl_leaf (ds := [.int .i64 n]) (by intro d hd; rw [List.mem_singleton.1 hd]; rfl)).2 rfl⟩
theorem nag_leaf {e : Ty} (hce : cmpTy e = true) {x : D} (hx : wt e x) : nag (x.flat.map valOf) := fun v hv => by
 obtain ⟨q, hq, rfl⟩ := List.mem_map.1 hv
 have := leaf_flat e x hce hx q hq
 cases q <;> simp only [leafB] at this <;> first | (cases this; done) | rfl
theorem HL.elem {e : Ty} (hne : noTup e = true) (hp : 0 < e.size) {W : World} {b off : Nat} {M : List D} (h : HL e W b off M) (hwt : ∀ x ∈ M, wt e x) {j : Nat} {x : D} (hx : M[j]? = some x) (i : Nat) (c : Value) (hc : (x.flat.map valOf)[i]? = some c) : W.cell? ⟨b, off + j * e.size + i, none⟩ = some c := by
 rw [List.getElem?_map] at hc
 cases hd : x.flat[i]? with
 | none => rw [hd] at hc; cases hc
 | some d =>
   rw [hd] at hc
   simp only [Option.map_some, Option.some.injEq] at hc
   subst hc
   have hxl : x.flat.length = e.size := wt_len e x (hwt x (List.mem_of_getElem? hx)) hne
   have hi : i < e.size := by rw [<- hxl]; exact (List.getElem?_eq_some_iff.1 hd).1
   have := h.2 (j * e.size + i) d (by
     rw [flats_div hp _ fun y hy => wt_len e y (hwt y hy) hne]
     rw [show (j * e.size + i) / e.size = j by rw [Nat.mul_comm, Nat.mul_add_div hp, Nat.div_eq_of_lt hi, Nat.add_zero], show (j * e.size + i) % e.size = i by rw [Nat.mul_comm, Nat.mul_add_mod, Nat.mod_eq_of_lt hi], hx]
     exact hd)
   rw [show off + j * e.size + i = off + (j * e.size + i) by omega]
   exact this
set_option maxHeartbeats 2000000 in
theorem compact_gen (hE : EnvOk P E) {e : Ty} (hce : cmpTy e = true) (hne : noTup e = true) (hp : 0 < e.size) {L : List D} (hwt : ∀ x ∈ L, wt e x) (hlen : L.length <= 1073741824) {f : Nat} {fn : Func} (hfn : P.funcs[f]? = some fn)
   {i0 i1 i2 i3 i4 i5 i6 i7 i8 i9 i10 i11 i12 i13 i14 i15 i16 b0 b1 b2 b3 : Nat} {R0 R1 R2 R3 R4 R5 R6 R7 R8 R9 R10 R11 R12 R13 R14 R15 R16 : Array Oper}
   (hbody : fn.body = some (.seq (.region i0 R0 false) (.seq (.seq (.region i1 R1 false) (.cond (.tmp 8) (.seq (.region i2 R2 false) .ret) .skip)) (.seq (.seq (.region i3 R3 false) (.block b0 (.loop (.seq (.seq (.region i4 R4 false) (.cond (.tmp 13) .skip (.exit b0))) (.seq (.block b1 (.seq (.region i6 R6 true) (.cond (.tmp 25) (.seq (.region i7 R7 false) (.seq (.seq (.region i8 R8 false) (.block b2 (.loop (.seq (.seq (.region i9 R9 false) (.cond (.tmp 32) .skip (.exit b2))) (.seq (.block b3 (.seq (.region i11 R11 true) (.cond (.tmp 44) (.seq (.region i12 R12 false) (.region i13 R13 false)) .skip))) (.region i10 R10 false)))))) (.seq (.region i14 R14 false) (.seq (.region i15 R15 false) .ret)))) .skip))) (.region i5 R5 false)))))) (.seq (.region i16 R16 false) .ret)))))
   (hnt : fn.ntmps = 61) (hres : fn.results = #[.tmp 2]) {Ts Te : Nat} (hTs : E.L Ts = some (.sl e)) (hTe : E.L Te = some e)
   {y1 y2 y3 y4 y5 y6 y7 y8 y9 y10 y11 y12 y13 y14 y15 y16 y17 y18 y19 y20 y21 y22 y23 y24 y25 y26 y27 : TypeId} {p1 p2 p3 p4 p5 p6 p7 p8 p9 p10 p11 p12 p13 p14 p15 p16 p17 p18 p19 p20 p21 p22 p23 p24 p25 p26 p27 : String} {f1 f2 f3 f4 f5 f6 f7 f8 f9 f10 f11 f12 f13 f14 f15 f16 f17 f18 f19 f20 f21 f22 f23 f24 f25 f26 f27 : Array Edge}
   (hR0 : R0.toList = [⟨some 2, .assign (.const (.slice none 0 0)), y1, p1, f1, none⟩]) (hR2 : R2.toList = [⟨some 9, .move (.tmp 0), y2, p2, f2, none⟩, ⟨some 2, .assign (.tmp 9), y3, p3, f3, none⟩]) (hR3 : R3.toList = [⟨some 3, .assign (.const (.int .i64 1)), y4, p4, f4, none⟩])
   (hR7 : R7.toList = [⟨some 26, .move (.tmp 0), y5, p5, f5, none⟩, ⟨some 27, .move (.tmp 3), y6, p6, f6, none⟩, ⟨some 28, .slice Ts (.tmp 26) (some (.tmp 27)) none none, y7, p7, f7, none⟩, ⟨some 4, .assign (.tmp 28), y8, p8, f8, none⟩])
   (hR8 : R8.toList = [⟨some 5, .assign (.const (.int .i64 1)), y9, p9, f9, none⟩])
   (hR12 : R12.toList = [⟨some 45, .move (.tmp 0), y10, p10, f10, none⟩, ⟨some 46, .move (.tmp 3), y11, p11, f11, none⟩, ⟨some 47, .move (.tmp 4), y12, p12, f12, none⟩, ⟨some 48, .move (.tmp 5), y13, p13, f13, none⟩, ⟨some 49, .indexAddr Ts (.tmp 47) (.tmp 48), y14, p14, f14, none⟩, ⟨some 50, .load Te (.tmp 49), y15, p15, f15, none⟩,
     ⟨some 51, .indexAddr Ts (.tmp 45) (.tmp 46), y16, p16, f16, none⟩, ⟨none, .store Te (.tmp 51) (.tmp 50), y17, p17, f17, none⟩])
   (hR14 : R14.toList = [⟨some 54, .move (.tmp 0), y18, p18, f18, none⟩, ⟨some 55, .move (.tmp 3), y19, p19, f19, none⟩, ⟨some 56, .slice Ts (.tmp 54) (some (.tmp 55)) none none, y20, p20, f20, none⟩, ⟨none, .call ⟨.builtin .clear, #[.tmp 56], #[Ts]⟩, y21, p21, f21, none⟩])
   (hR15 : R15.toList = [⟨some 57, .move (.tmp 0), y22, p22, f22, none⟩, ⟨some 58, .move (.tmp 3), y23, p23, f23, none⟩, ⟨some 59, .slice Ts (.tmp 57) none (some (.tmp 58)) none, y24, p24, f24, none⟩, ⟨some 2, .assign (.tmp 59), y25, p25, f25, none⟩])
   (hR16 : R16.toList = [⟨some 60, .move (.tmp 0), y26, p26, f26, none⟩, ⟨some 2, .assign (.tmp 60), y27, p27, f27, none⟩])
   (hv1 : ev E (.region i1 R1 false) .leaf D (dS 61 [0] (fun i => if i = 0 then .d (.sl e) (.sl L) else .undef)) (kW [(8, .bool)]) = some (.tup [.bool (decide ((L.length : Int) < 2))]))
   (hv4 : ∀ k : Nat, ev E (.region i4 R4 false) .leaf D (dS 61 [0, 3] (f1C e L k)) (kW [(13, .bool)]) = some (.tup [.bool (decide ((k : Int) < (L.length : Nat)))]))
   {an6 an11 : Ann} (hv6 : ∀ (k : Nat) (x y : D), k < 1073741824 -> L[k]? = some x -> L[k + 1]? = some y -> ev E (.region i6 R6 true) an6 D (dS 61 [0, 3] (f1C e L (k + 1))) (kW [(25, .bool)]) = some (.tup [.bool (y.beq x)]))
   (hv5 : ∀ k : Nat, ev E (.region i5 R5 false) .leaf D (dS 61 [0] (f2C 3 k)) (kW [(3, .int .i64)]) = some (.tup [.int .i64 (IntKind.wrap .i64 ((k : Int) + 1))]))
   (hv13 : ∀ k : Nat, ev E (.region i13 R13 false) .leaf D (dS 61 [0, 4, 5] (f2C 3 k)) (kW [(3, .int .i64)]) = some (.tup [.int .i64 (IntKind.wrap .i64 ((k : Int) + 1))]))
   (hv10 : ∀ k : Nat, ev E (.region i10 R10 false) .leaf D (dS 61 [0, 3, 4] (f2C 5 k)) (kW [(5, .int .i64)]) = some (.tup [.int .i64 (IntKind.wrap .i64 ((k : Int) + 1))]))
   (hv9 : ∀ (N : List D) (k : Nat), ev E (.region i9 R9 false) .leaf D (dS 61 [0, 3, 4, 5] (f4C e N k)) (kW [(32, .bool)]) = some (.tup [.bool (decide ((k : Int) < (N.length : Nat)))]))
   (hv11 : ∀ (N : List D) (k : Nat) (x y : D), k < 1073741824 -> N[k]? = some x -> N[k + 1]? = some y -> ev E (.region i11 R11 true) an11 D (dS 61 [0, 3, 4, 5] (f4C e N (k + 1))) (kW [(44, .bool)]) = some (.tup [.bool (!(y.beq x))]))
   {W0 : World} (hX : Ext r W0) {S0 : Nat -> Nat -> Prop} (hSb0 : ∀ b o, S0 b o -> b < W0.heap.size) (hSo0 : ∀ b o, S0 b o -> r.Old b -> r.S0 b o) {sv : Value} (hsv : DR0 W0 S0 (.sl L) sv) (hown : 2 <= L.length -> ∃ b off cap, sv = .slice (some ⟨b, off, none⟩) L.length cap /\ HL e W0 b off L /\ ¬ r.Old b) :
   Calls P f #[sv] W0 fun en W' => ∃ v, en = .returned v /\ ∃ S', Ext r W' /\ DR0 W' S' (.sl (dedR L)) v /\ (∀ b o, S' b o -> b < W'.heap.size) /\ (∀ b o, S' b o -> r.Old b -> r.S0 b o) := by
 have hls : layB P (.sl e) Ts = true := (hE.lay Ts _ hTs).resolve_left (by rintro ⟨ts, h⟩; cases h)
 have hle : layB P e Te = true := (hE.lay Te _ hTe).resolve_left (by rintro ⟨ts, h⟩; subst h; simp [cmpTy] at hce)
 refine calls_of_wpI hfn hbody ?_
 generalize ha0 : Act.mk _ _ = a0
 have hsz0 : a0.tmps.size = 61 := by rw [<- ha0]; simp [hnt]
 have e0 : a0.tmps.getD 0 undef = sv := by rw [<- ha0]; simp [Array.getD]
 have hd0 : a0.defers = [] := by rw [<- ha0]
 clear ha0
 refine wpIn_seq (wpIn_region_list ?_)
 rw [hR0]
 refine wl_assign (wl_nil ?_)
 generalize ha1 : Act.put _ (some 2) _ = a1
 have hsz1 : a1.tmps.size = 61 := by rw [<- ha1]; simp only [size_put, hsz0]
 have e1 : a1.tmps.getD 0 undef = sv := by rw [<- ha1]; simp only [slot_put, hsz0, e0, reduceIte, Nat.reduceLT, Nat.reduceEqDiff]
 have hd1 : a1.defers = [] := by rw [<- ha1]; simp only [defers_put, hd0]
 clear ha1
 simp only [Exit.then]
 have ARL : ∀ c : Cx, c.w = W0 -> c.S = S0 -> AR c (.d (.sl e) (.sl L)) sv := fun c h1 h2 => .inl ⟨by simp only [noTup]; exact hne, ⟨L, rfl, hwt⟩, by rw [h1, h2]; exact hsv⟩
 refine wpIn_seq (wpIn_seq (ev_words hE (lk := [0]) (f := fun i => if i = 0 then .d (.sl e) (.sl L) else .undef) hsz1 hd1 hSb0 (fun t ht => ?_) (fun t ht => by rw [if_neg (by omega)]) hv1 fun a2 os2 d2 hd2 z1 z2 z3 z4 => ?_))
 . by_cases h5 : t = 0
   . subst h5; rw [if_pos rfl, e1]; exact ARL _ rfl rfl
   . rw [if_neg h5]; simp only [AR]
 have t8 : a2.tmps.getD 8 undef = .bool (decide ((L.length : Int) < 2)) := z4 0 8 .bool _ rfl rfl rfl
 have e2 : a2.tmps.getD 0 undef = sv := (z3 0 (by simp)).trans e1
 simp only [exOf, Exit.then]
 by_cases h2 : L.length < 2
 . -- nothing to do
   refine wpIn_cond_true (t8.trans (by rw [decide_eq_true (by omega)])) (wpIn_seq (wpIn_region_list ?_))
   rw [hR2]
   refine wl_move (wl_assign (wl_nil (wpIn_ret ⟨by simp only [defers_put, z2], sv, (results_tmp hres _ _ _).trans ?_, sv, rfl, S0, ext_grow hX hd2, ?_, fun b o hb => ?_, hSo0⟩)))
   . simp only [eval_tmp, slot_put, size_put, z1, e2, reduceIte, Nat.reduceLT, Nat.reduceEqDiff]
   . rw [dedR_short h2]; exact hsv.mono (fun b o hb => cell_grown (hSb0 b o hb)) fun _ _ h => h
   . exact Nat.lt_of_lt_of_le (hSb0 b o hb) (by simp [grown])
 obtain ⟨b, off, cap, rfl, hHL0, hbo⟩ := hown (by omega)
 have hcap : L.length <= cap := by
   have hq : CR W0 S0 (.sl L) (.slice (some ⟨b, off, none⟩) L.length cap) := hsv.2.2 0 _ _ rfl rfl
   obtain ⟨_, _, _, _, q1, _, q2, _⟩ := hq.elems
   cases q1; exact q2
 refine wpIn_cond_false (t8.trans (by rw [decide_eq_false (by omega)])) (wpIn_skip ?_)
 simp only [Exit.then]
 refine wpIn_seq (wpIn_seq (wpIn_region_list ?_))
 rw [hR3]
 refine wl_assign (wl_nil ?_)
 generalize ha3 : Act.put _ (some 3) _ = a3
 have hsz3 : a3.tmps.size = 61 := by rw [<- ha3]; simp only [size_put, z1]
 have e3 : a3.tmps.getD 0 undef = .slice (some ⟨b, off, none⟩) L.length cap := by rw [<- ha3]; simp only [slot_put, z1, e2, reduceIte, Nat.reduceLT, Nat.reduceEqDiff]
 have k3 : a3.tmps.getD 3 undef = .int .i64 (1 : Nat) := by rw [<- ha3]; simp only [slot_put, z1, reduceIte, Nat.reduceLT]; rfl
 have hd3 : a3.defers = [] := by rw [<- ha3]; simp only [defers_put, z2]
 clear ha3 t8 z1 z2 z3 z4
 simp only [Exit.then]
 refine wpIn_block ?_
 have hX3 := ext_grow (os := os2) hX hd2
 have hH3 := hHL0.grow os2 d2
 generalize grown W0 os2 d2 = W3 at hX3 hH3 ⊢
 refine wp_loop_n (m := L.length) (fun m a W => ∃ k, 1 <= k /\ m + k = L.length + 1 /\ k <= L.length /\ dedR (L.take k) = L.take k /\ HL e W b off L /\ Ext r W /\ a.tmps.size = 61 /\ a.defers = [] /\ a.tmps.getD 0 undef = .slice (some ⟨b, off, none⟩) L.length cap /\ a.tmps.getD 3 undef = .int .i64 (k : Nat))
   ⟨1, Nat.le_refl _, rfl, by omega, dedR_short (by rw [List.length_take]; omega), hH3, hX3, hsz3, hd3, e3, k3⟩ ?_
 clear hH3 hX3 hsz3 hd3 e3 k3
 rintro m a W ⟨k, c1, c2, c3, c4, hH, hXW, c5, c6, c7, c8⟩
 have ARf1 : ∀ (a : Act) (W : World), HL e W b off L -> a.tmps.getD 0 undef = .slice (some ⟨b, off, none⟩) L.length cap -> a.tmps.getD 3 undef = .int .i64 (k : Nat) -> ∀ t, t < 61 -> AR ⟨W, fun b' _ => b' = b, fun _ => none, fun _ => none, fun _ => none, []⟩ (f1C e L k t) (a.tmps.getD t undef) := fun a W hH c7 c8 t ht => by
   unfold f1C
   by_cases h5 : t = 0
   . subst h5; rw [if_pos rfl, c7]
     refine .inl ⟨by simp only [noTup]; exact hne, ⟨L, rfl, hwt⟩, DR0_sl ?_⟩
     have := hH.crl hce hne hwt (j := 0) (m := L.length) (cap := cap) (by omega) (by omega) hcap
     simpa using this
   . rw [if_neg h5]
     by_cases h6 : t = 3
     . subst h6; rw [if_pos rfl, c8]; exact AR_i64 _ _
     . rw [if_neg h6]; simp only [AR]
 have f1u : ∀ t, 61 <= t -> f1C e L k t = .undef := fun t ht => by unfold f1C; rw [if_neg (by omega), if_neg (by omega)]
 refine wpIn_seq (wpIn_seq (ev_words hE c5 c6 (S := fun b' _ => b' = b) (fun b' _ hb => by rw [hb]; exact hH.lt) (ARf1 a W hH c7 c8) f1u (hv4 k) fun a4 os4 d4 hd4 z1 z2 z3 z4 => ?_))
 have t13 : a4.tmps.getD 13 undef = .bool (decide ((k : Int) < (L.length : Nat))) := z4 0 13 .bool _ rfl rfl rfl
 have e4 := (z3 0 (by simp)).trans c7
 have k4 := (z3 3 (by simp)).trans c8
 have hH4 := hH.grow os4 d4
 have hX4 := ext_grow (os := os4) hXW hd4
 generalize grown W os4 d4 = W4 at hH4 hX4 ⊢
 clear z3 z4
 simp only [Exit.then]
 by_cases hk : k < L.length
 rotate_left
 . -- no two neighbours are equal
   have hkl : k = L.length := by omega
   subst hkl
   refine wpIn_cond_false (t13.trans (by rw [decide_eq_false (by omega)])) (wpIn_exit ?_)
   simp only [Exit.then, Exit.inBlock, if_true]
   refine wpIn_seq (wpIn_region_list ?_)
   rw [hR16]
   refine wl_move (wl_assign (wl_nil (wpIn_ret ⟨by simp only [defers_put, z2], .slice (some ⟨b, off, none⟩) L.length cap, (results_tmp hres _ _ _).trans ?_, _, rfl, fun b' _ => b' = b, hX4, ?_, fun b' _ hb => by rw [hb]; exact hH4.lt, fun b' _ hb ho => absurd ho (hb ▸ hbo)⟩)))
   . simp only [eval_tmp, slot_put, size_put, z1, e4, reduceIte, Nat.reduceLT, Nat.reduceEqDiff]
   . rw [List.take_of_length_le (Nat.le_refl _)] at c4
     rw [c4]
     refine DR0_sl ?_
     have := hH4.crl hce hne hwt (j := 0) (m := L.length) (cap := cap) (by omega) (by omega) hcap
     simpa using this
 refine wpIn_cond_true (t13.trans (by rw [decide_eq_true (by omega)])) (wpIn_skip ?_)
 simp only [Exit.then]
 obtain ⟨j, rfl⟩ : ∃ j, k = j + 1 := ⟨k - 1, by omega⟩
 obtain ⟨x, hx⟩ : ∃ x, L[j]? = some x := ⟨_, List.getElem?_eq_getElem (by omega)⟩
 obtain ⟨y, hy⟩ : ∃ y, L[j + 1]? = some y := ⟨_, List.getElem?_eq_getElem hk⟩
 refine wpIn_seq (wpIn_block (wpIn_seq (ev_words hE z1 z2 (S := fun b' _ => b' = b) (fun b' _ hb => by rw [hb]; exact hH4.lt) (ARf1 a4 W4 hH4 e4 k4) f1u (hv6 j x y (by omega) hx hy) fun a5 os5 d5 hd5 u1 u2 u3 u4 => ?_)))
 have t25 : a5.tmps.getD 25 undef = .bool (y.beq x) := u4 0 25 .bool _ rfl rfl rfl
 have e5 := (u3 0 (by simp)).trans e4
 have k5 := (u3 3 (by simp)).trans k4
 have hH5 := hH4.grow os5 d5
 have hX5 := ext_grow (os := os5) hX4 hd5
 generalize grown W4 os5 d5 = W5 at hH5 hX5 ⊢
 have hded := ded_take hx hy
 clear z1 z2 u3 u4
 simp only [Exit.then]
 have st : ∀ n : Nat, n < 9223372036854775806 -> IntKind.wrap .i64 ((n : Int) + 1) = ((n + 1 : Nat) : Int) := fun n hn => by
   rw [show ((n : Int) + 1) = ((n + 1 : Nat) : Int) by omega]; exact wrap_small (by omega) (by omega)
 have AR2 : ∀ (a : Act) (W : World) (t k : Nat), a.tmps.getD t undef = .int .i64 (k : Nat) -> ∀ u, u < 61 -> AR ⟨W, fun _ _ => False, fun _ => none, fun _ => none, fun _ => none, []⟩ (f2C t k u) (a.tmps.getD u undef) := fun a W t k h u hu => by
   unfold f2C
   by_cases h5 : u = t
   . subst h5; rw [if_pos rfl, h]; exact AR_i64 _ _
   . rw [if_neg h5]; simp only [AR]
 have f2u : ∀ t k : Nat, t < 61 -> ∀ u, 61 <= u -> f2C t k u = .undef := fun t k ht u hu => by unfold f2C; rw [if_neg (by omega)]
 by_cases hxy : y.beq x = true
 rotate_left
 . -- two neighbours that differ
   have hxy' : y.beq x = false := by simpa using hxy
   refine wpIn_cond_false (t25.trans (by rw [hxy'])) (wpIn_skip ?_)
   simp only [Exit.inBlock, Exit.then]
   refine ev_words hE u1 u2 (S := fun _ _ => False) (fun _ _ hb => hb.elim) (AR2 a5 W5 3 (j + 1) k5) (f2u 3 (j + 1) (by decide)) (hv5 (j + 1)) fun a6 os6 d6 hd6 q1 q2 q3 q4 => ?_
   have t3 : a6.tmps.getD 3 undef = .int .i64 (IntKind.wrap .i64 (((j + 1 : Nat) : Int) + 1)) := q4 0 3 (.int .i64) _ rfl rfl rfl
   refine ⟨m - 1, by omega, j + 2, by omega, by omega, by omega, ?_, hH5.grow os6 d6, ext_grow hX5 hd6, q1, q2, (q3 0 (by simp)).trans e5, by rw [t3, st (j + 1) (by omega)]⟩
   rw [hded, if_neg hxy, c4]
   have htk : L.take (j + 1 + 1) = L.take (j + 1) ++ L[j + 1]?.toList := List.take_add_one
   rw [hy] at htk
   exact htk.symm
 rw [if_pos hxy, c4] at hded
 refine wpIn_cond_true (t25.trans (by rw [hxy])) (wpIn_seq (wpIn_region_list ?_))
 rw [hR7]
 refine wl_move (wl_move (wl_slice hls (A := some ⟨b, off, none⟩) (len := L.length) (cap := cap) (lo := j + 1) (hi := L.length) ?_ (by omega) (Nat.le_refl _) hcap (.inr ⟨_, rfl, ?_⟩) (.inl ⟨rfl, rfl⟩) (wl_assign (wl_nil ?_))))
 . simp only [eval_tmp, slot_put, size_put, u1, e5, reduceIte, Nat.reduceLT, Nat.reduceEqDiff]
 . simp only [eval_tmp, slot_put, size_put, u1, k5, reduceIte, Nat.reduceLT, Nat.reduceEqDiff]
 obtain ⟨s2v, hs2⟩ : ∃ s2v : Value, s2v = .slice (some ⟨b, off + (j + 1) * e.size, none⟩) (L.length - (j + 1)) (cap - (j + 1)) := ⟨_, rfl⟩
 have hsl : (if cap = j + 1 then some (⟨b, off, none⟩ : Addr) else Option.map (fun z : Addr => z.add ((j + 1) * e.size)) (some ⟨b, off, none⟩)) = some ⟨b, off + (j + 1) * e.size, none⟩ := by
   rw [if_neg (by omega), Option.map_some, add_none]
 rw [hsl, <- hs2]
 generalize ha6 : Act.put _ (some 4) _ = a6
 have hsz6 : a6.tmps.size = 61 := by rw [<- ha6]; simp only [size_put, u1]
 have e6 : a6.tmps.getD 0 undef = .slice (some ⟨b, off, none⟩) L.length cap := by rw [<- ha6]; simp only [eval_tmp, slot_put, size_put, u1, e5, reduceIte, Nat.reduceLT, Nat.reduceEqDiff]
 have k6 : a6.tmps.getD 3 undef = .int .i64 ((j + 1 : Nat) : Int) := by rw [<- ha6]; simp only [eval_tmp, slot_put, size_put, u1, k5, reduceIte, Nat.reduceLT, Nat.reduceEqDiff]
 have v6 : a6.tmps.getD 4 undef = s2v := by rw [<- ha6]; simp only [eval_tmp, slot_put, size_put, u1, reduceIte, Nat.reduceLT, Nat.reduceEqDiff]
 have hd6 : a6.defers = [] := by rw [<- ha6]; simp only [defers_put, u2]
 clear ha6 hsl
 simp only [Exit.then]
 refine wpIn_seq (wpIn_seq (wpIn_region_list ?_))
 rw [hR8]
 refine wl_assign (wl_nil ?_)
 generalize ha7 : Act.put _ (some 5) _ = a7
 have hsz7 : a7.tmps.size = 61 := by rw [<- ha7]; simp only [size_put, hsz6]
 have e7 : a7.tmps.getD 0 undef = .slice (some ⟨b, off, none⟩) L.length cap := by rw [<- ha7]; simp only [slot_put, hsz6, e6, reduceIte, Nat.reduceLT, Nat.reduceEqDiff]
 have k7 : a7.tmps.getD 3 undef = .int .i64 ((j + 1 : Nat) : Int) := by rw [<- ha7]; simp only [slot_put, hsz6, k6, reduceIte, Nat.reduceLT, Nat.reduceEqDiff]
 have v7 : a7.tmps.getD 4 undef = s2v := by rw [<- ha7]; simp only [slot_put, hsz6, v6, reduceIte, Nat.reduceLT, Nat.reduceEqDiff]
 have n7 : a7.tmps.getD 5 undef = .int .i64 ((1 : Nat) : Int) := by rw [<- ha7]; simp only [slot_put, hsz6, reduceIte, Nat.reduceLT]; rfl
 have hd7 : a7.defers = [] := by rw [<- ha7]; simp only [defers_put, hd6]
 clear ha7
 simp only [Exit.then]
 refine wpIn_block ?_
 obtain ⟨J2, hJ2⟩ : ∃ J2 : Nat -> Act -> World -> Prop, J2 = fun m a W => ∃ (k2 k' : Nat) (M : List D), 1 <= k2 /\ m + (j + 1 + k2) = L.length /\ k' + 1 <= j + 1 + k2 /\ j + 1 <= k' /\ HL e W b off M /\ Ext r W /\ a.tmps.size = 61 /\ a.defers = [] /\ a.tmps.getD 0 undef = .slice (some ⟨b, off, none⟩) L.length cap /\ a.tmps.getD 3 undef = .int .i64 (k' : Nat) /\ a.tmps.getD 4 undef = s2v /\ a.tmps.getD 5 undef = .int .i64 (k2 : Nat) ∧
   M.length = L.length /\ (∀ z ∈ M, wt e z) /\ M.drop (j + k2) = L.drop (j + k2) /\ M.take k' = dedR (L.take (j + 1 + k2)) := ⟨_, rfl⟩
 refine wp_loop_n (m := L.length - (j + 2)) J2 (by rw [hJ2]; exact
   ⟨1, j + 1, L, Nat.le_refl _, by omega, by omega, Nat.le_refl _, hH5, hX5, hsz7, hd7, e7, k7, v7, n7, rfl, hwt, rfl, hded.symm⟩) ?_
 clear hH5 hX5 hsz7 hd7 e7 k7 v7 n7 hsz6 e6 k6 v6 hd6 hH4 hX4 t25 u1 u2 e5 k5 t13 e4 k4
 intro m2 a W hj2
 rw [hJ2] at hj2
 obtain ⟨k2, k', M, g1, g2, g3, g4, hH, hXW, s1, s2, s3, s4, s5, s6, hMl, hMw, hMd, hMt⟩ := hj2
 have hkn : k' < L.length := by omega
 have hNl : (M.drop (j + 1)).length = L.length - (j + 1) := by rw [List.length_drop, hMl]
 have AR4 : ∀ (a : Act) (W : World), HL e W b off M -> a.tmps.getD 4 undef = s2v -> a.tmps.getD 5 undef = .int .i64 (k2 : Nat) -> ∀ t, t < 61 -> AR ⟨W, fun b' _ => b' = b, fun _ => none, fun _ => none, fun _ => none, []⟩ (f4C e (M.drop (j + 1)) k2 t) (a.tmps.getD t undef) := fun a W hH c7 c8 t ht => by
   unfold f4C
   by_cases h5 : t = 4
   . subst h5; rw [if_pos rfl, c7, hs2]
     exact .inl ⟨by simp only [noTup]; exact hne, ⟨_, rfl, fun z hz => hMw z (List.mem_of_mem_drop hz)⟩, DR0_sl (hH.crl hce hne hMw (j := j + 1) (m := L.length - (j + 1)) (cap := cap - (j + 1)) (by omega) (by omega) (by omega))⟩
   . rw [if_neg h5]
     by_cases h6 : t = 5
     . subst h6; rw [if_pos rfl, c8]; exact AR_i64 _ _
     . rw [if_neg h6]; simp only [AR]
 have f4u : ∀ t, 61 <= t -> f4C e (M.drop (j + 1)) k2 t = .undef := fun t ht => by unfold f4C; rw [if_neg (by omega), if_neg (by omega)]
 refine wpIn_seq (wpIn_seq (ev_words hE s1 s2 (S := fun b' _ => b' = b) (fun b' _ hb => by rw [hb]; exact hH.lt) (AR4 a W hH s5 s6) f4u (hv9 (M.drop (j + 1)) k2) fun a8 os8 d8 hd8 z1 z2 z3 z4 => ?_))
 have t32 : a8.tmps.getD 32 undef = .bool (decide ((k2 : Int) < ((M.drop (j + 1)).length : Nat))) := z4 0 32 .bool _ rfl rfl rfl
 rw [hNl] at t32
 have e8 := (z3 0 (by simp)).trans s3
 have k8 := (z3 3 (by simp)).trans s4
 have v8 := (z3 4 (by simp)).trans s5
 have n8 := (z3 5 (by simp)).trans s6
 have hH8 := hH.grow os8 d8
 have hX8 := ext_grow (os := os8) hXW hd8
 generalize grown W os8 d8 = W8 at hH8 hX8 ⊢
 clear z3 z4 hH hXW s1 s2 s3 s4 s5 s6
 simp only [Exit.then]
 by_cases hk2 : j + 1 + k2 < L.length
 rotate_left
 . -- the end: what is behind is cleared
   have hend : j + 1 + k2 = L.length := by omega
   rw [hend, List.take_of_length_le (Nat.le_refl _)] at hMt
   refine wpIn_cond_false (t32.trans (by rw [decide_eq_false (by omega)])) (wpIn_exit ?_)
   simp only [Exit.then, Exit.inBlock, if_true]
   refine wpIn_seq (wpIn_region_list ?_)
   rw [hR14]
   obtain ⟨⟨row, hr1, hr2⟩, _⟩ := hH8
   have hmul : (k' + (L.length - k')) * e.size = M.length * e.size := by rw [hMl]; congr 1; omega
   rw [Nat.add_mul] at hmul
   have hsl : (if cap = k' then some (⟨b, off, none⟩ : Addr) else Option.map (fun z : Addr => z.add (k' * e.size)) (some ⟨b, off, none⟩)) = some ⟨b, off + k' * e.size, none⟩ := by
     rw [if_neg (by omega), Option.map_some, add_none]
   refine wl_move (wl_move (wl_slice hls (A := some ⟨b, off, none⟩) (len := L.length) (cap := cap) (lo := k') (hi := L.length) ?_ (by omega) (Nat.le_refl _) hcap (.inr ⟨_, rfl, ?_⟩) (.inl ⟨rfl, rfl⟩) (wl_clear hls hp (b := b) (off := off + k' * e.size) (m := L.length - k') (cap := cap - k') (row := row) ?_ hr1 (by omega) (by omega) fun cs hcs v => wl_nil ?_)))
   . simp only [eval_tmp, slot_put, size_put, z1, e8, reduceIte, Nat.reduceLT, Nat.reduceEqDiff]
   . simp only [eval_tmp, slot_put, size_put, z1, k8, reduceIte, Nat.reduceLT, Nat.reduceEqDiff]
   . rw [hsl]; simp only [eval_tmp, slot_put, size_put, z1, reduceIte, Nat.reduceLT]
   have hput : ∀ a : Act, a.put none v = a := fun _ => rfl
   rw [hput]
   generalize ha9 : Act.put _ (some 56) _ = a9
   have hsz9 : a9.tmps.size = 61 := by rw [<- ha9]; simp only [size_put, z1]
   have e9 : a9.tmps.getD 0 undef = .slice (some ⟨b, off, none⟩) L.length cap := by rw [<- ha9]; simp only [eval_tmp, slot_put, size_put, z1, e8, reduceIte, Nat.reduceLT, Nat.reduceEqDiff]
   have k9 : a9.tmps.getD 3 undef = .int .i64 (k' : Nat) := by rw [<- ha9]; simp only [eval_tmp, slot_put, size_put, z1, k8, reduceIte, Nat.reduceLT, Nat.reduceEqDiff]
   have hd9 : a9.defers = [] := by rw [<- ha9]; simp only [defers_put, z2]
   clear ha9 hsl
   simp only [Exit.then]
   have hsz : off + k' * e.size + cs.size <= row.size := by rw [hcs]; omega
   have hlk : (M.take k').length = k' := by rw [List.length_take]; omega
   have hH9 : HL e (putAt W8 b (off + k' * e.size) cs) b off (M.take k') := HL.take hne ⟨⟨row, hr1, hr2⟩, by assumption⟩ hMw ⟨_, row_putAt hr1, by
     have : (splice row (off + k' * e.size) cs).size = row.size := by
       simp only [splice, Array.size_append, Array.size_extract]; omega
     rw [this, hlk]; omega⟩ fun o ho => cell_putAt_below hr1 hsz ho
   have hX9 : Ext r (putAt W8 b (off + k' * e.size) cs) := ext_put hX8 hbo
   generalize putAt W8 b (off + k' * e.size) cs = W9 at hH9 hX9 ⊢
   refine wpIn_seq (wpIn_region_list ?_)
   rw [hR15]
   refine wl_move (wl_move (wl_slice hls (A := some ⟨b, off, none⟩) (len := L.length) (cap := cap) (lo := 0) (hi := k') ?_ (Nat.zero_le _) (by omega) hcap (.inl ⟨rfl, rfl⟩) (.inr ⟨_, rfl, ?_⟩) (wl_assign (wl_nil (wpIn_ret ⟨by simp only [defers_put, hd9], .slice (some ⟨b, off, none⟩) k' cap, (results_tmp hres _ _ _).trans ?_, _, rfl, fun b' _ => b' = b, hX9, ?_, fun b' _ hb => by rw [hb]; exact hH9.lt, fun b' _ hb ho => absurd ho (hb ▸ hbo)⟩)))))
   . simp only [eval_tmp, slot_put, size_put, hsz9, e9, reduceIte, Nat.reduceLT, Nat.reduceEqDiff]
   . simp only [eval_tmp, slot_put, size_put, hsz9, k9, reduceIte, Nat.reduceLT, Nat.reduceEqDiff]
   . have hsl : (if cap = 0 then some (⟨b, off, none⟩ : Addr) else Option.map (fun z : Addr => z.add (0 * e.size)) (some ⟨b, off, none⟩)) = some ⟨b, off, none⟩ := by
       rw [if_neg (by omega), Option.map_some, add_none, Nat.zero_mul, Nat.add_zero]
     rw [hsl]
     simp only [eval_tmp, slot_put, size_put, hsz9, reduceIte, Nat.reduceLT, Nat.sub_zero]
   . rw [<- hMt]
     refine DR0_sl ?_
     have := hH9.crl hce hne (fun z hz => hMw z (List.mem_of_mem_take hz)) (j := 0) (m := k') (cap := cap) (by omega) (by omega) (by omega)
     simpa using this
 refine wpIn_cond_true (t32.trans (by rw [decide_eq_true (by omega)])) (wpIn_skip ?_)
 simp only [Exit.then]
 obtain ⟨i, rfl⟩ : ∃ i, k2 = i + 1 := ⟨k2 - 1, by omega⟩
 obtain ⟨x2, hx2⟩ : ∃ x2, L[j + (i + 1)]? = some x2 := ⟨_, List.getElem?_eq_getElem (by omega)⟩
 obtain ⟨w2, hw2⟩ : ∃ w2, L[j + (i + 1) + 1]? = some w2 := ⟨_, List.getElem?_eq_getElem (by omega)⟩
 have hMx : M[j + (i + 1)]? = some x2 := by
   have := congrArg (fun l => l[0]?) hMd
   simp only [List.getElem?_drop, Nat.add_zero] at this
   exact this.trans hx2
 have hMy : M[j + (i + 1) + 1]? = some w2 := by
   have := congrArg (fun l => l[1]?) hMd
   simp only [List.getElem?_drop] at this
   exact this.trans hw2
 have hded2 := ded_take hx2 hw2
 have hw2w : wt e w2 := hMw w2 (List.mem_of_getElem? hMy)
 refine wpIn_seq (wpIn_block (wpIn_seq (ev_words hE z1 z2 (S := fun b' _ => b' = b) (fun b' _ hb => by rw [hb]; exact hH8.lt) (AR4 a8 W8 hH8 v8 n8) f4u (hv11 (M.drop (j + 1)) i x2 w2 (by omega) (by rw [List.getElem?_drop, show j + 1 + i = j + (i + 1) by omega]; exact hMx) (by rw [List.getElem?_drop, show j + 1 + (i + 1) = j + (i + 1) + 1 by omega]; exact hMy)) fun a10 os10 d10 hd10 u1 u2 u3 u4 => ?_)))
 have t44 : a10.tmps.getD 44 undef = .bool (!(w2.beq x2)) := u4 0 44 .bool _ rfl rfl rfl
 have e10 := (u3 0 (by simp)).trans e8
 have k10 := (u3 3 (by simp)).trans k8
 have v10 := (u3 4 (by simp)).trans v8
 have n10 := (u3 5 (by simp)).trans n8
 have hH10 := hH8.grow os10 d10
 have hX10 := ext_grow (os := os10) hX8 hd10
 generalize grown W8 os10 d10 = W10 at hH10 hX10 ⊢
 clear z1 z2 u3 u4 hH8 hX8 e8 k8 v8 n8 t32
 simp only [Exit.then]
 have tail : ∀ (a : Act) (W : World) (k'' : Nat) (M' : List D) (Q : Exit -> Act -> World -> Prop), k'' + 1 <= j + 1 + (i + 2) -> j + 1 <= k'' -> HL e W b off M' -> Ext r W -> a.tmps.size = 61 -> a.defers = [] -> a.tmps.getD 0 undef = .slice (some ⟨b, off, none⟩) L.length cap -> a.tmps.getD 3 undef = .int .i64 (k'' : Nat) -> a.tmps.getD 4 undef = s2v -> a.tmps.getD 5 undef = .int .i64 ((i + 1 : Nat) : Int) ->
     M'.length = L.length -> (∀ z ∈ M', wt e z) -> M'.drop (j + (i + 2)) = L.drop (j + (i + 2)) -> M'.take k'' = dedR (L.take (j + (i + 1) + 2)) -> (∀ a' w', (∃ m', m' < m2 /\ J2 m' a' w') -> Q .normal a' w') -> (Code.region i10 R10 false).wpIn (FW none) 0 P Q a W := by
   intro a W k'' M' Q r1 r2 r3 r4 r5 r6 r7 r8 r9 r10 r11 r12 r13 r14 hQ
   refine ev_words hE r5 r6 (S := fun _ _ => False) (fun _ _ hb => hb.elim) (AR2 a W 5 (i + 1) r10) (f2u 5 (i + 1) (by decide)) (hv10 (i + 1)) fun a6 os6 d6 hd6 q1 q2 q3 q4 => hQ _ _ ?_
   have t5 : a6.tmps.getD 5 undef = .int .i64 (IntKind.wrap .i64 (((i + 1 : Nat) : Int) + 1)) := q4 0 5 (.int .i64) _ rfl rfl rfl
   rw [hJ2]
   refine ⟨m2 - 1, by omega, i + 2, k'', M', by omega, by omega, by omega, r2, r3.grow os6 d6, ext_grow r4 hd6, q1, q2, (q3 0 (by simp)).trans r7, (q3 3 (by simp)).trans r8, (q3 4 (by simp)).trans r9, by rw [t5, st (i + 1) (by omega)], r11, r12, r13, ?_⟩
   rw [r14]; congr 2; omega
 have hdrop : ∀ M' : List D, M'.drop (j + (i + 1)) = L.drop (j + (i + 1)) -> M'.drop (j + (i + 2)) = L.drop (j + (i + 2)) := fun M' h => by
   have := congrArg (List.drop 1) h
   rw [List.drop_drop, List.drop_drop] at this
   rw [show j + (i + 2) = j + (i + 1) + 1 by omega]
   exact this
 by_cases hww : w2.beq x2 = true
 . -- equal to the one ahead
   refine wpIn_cond_false (t44.trans (by rw [hww]; rfl)) (wpIn_skip ?_)
   simp only [Exit.inBlock, Exit.then]
   rw [if_pos hww] at hded2
   refine tail a10 W10 k' M _ (by omega) g4 hH10 hX10 u1 u2 e10 k10 v10 n10 hMl hMw (hdrop M hMd) ?_ fun a' w' h => h
   rw [hMt, hded2]; congr 2; omega
 have hww' : w2.beq x2 = false := by simpa using hww
 rw [if_neg hww] at hded2
 refine wpIn_cond_true (t44.trans (by rw [hww']; rfl)) (wpIn_seq (wpIn_region_list ?_))
 rw [hR12]
 obtain ⟨row, hr1, hr2⟩ := hH10.1
 have hwl : (w2.flat.map valOf).length = e.size := by rw [List.length_map]; exact wt_len e w2 hw2w hne
 have hkm : k' * e.size + e.size <= M.length * e.size := by
   have : (k' + 1) * e.size <= M.length * e.size := Nat.mul_le_mul_right _ (by omega)
   rwa [Nat.add_mul, Nat.one_mul] at this
 have hpos : off + (j + 1) * e.size + (i + 1) * e.size = off + (j + (i + 1) + 1) * e.size := by
   rw [Nat.add_assoc, <- Nat.add_mul]; congr 2; omega
 refine wl_move (wl_move (wl_move (wl_move (wl_index hls (b := b) (off := off + (j + 1) * e.size) (len := L.length - (j + 1)) (cap := cap - (j + 1)) (k := i + 1) ?_ ?_ (by omega) (wl_load hle (b := b) (off := off + (j + 1) * e.size + (i + 1) * e.size) (cs := w2.flat.map valOf) ?_ hwl (nag_leaf hce hw2w) ?_ fun v hv =>
   wl_index hls (b := b) (off := off) (len := L.length) (cap := cap) (k := k') ?_ ?_ hkn (wl_store hle (b := b) (off := off + k' * e.size) (c := row) (v := v) (cs := w2.flat.map valOf) ?_ ?_ hr1 hv hwl (nag_leaf hce hw2w) (by rw [hwl]; omega) (wl_nil ?_)))))))
 . simp only [eval_tmp, slot_put, size_put, u1, v10, hs2, reduceIte, Nat.reduceLT, Nat.reduceEqDiff]
 . simp only [eval_tmp, slot_put, size_put, u1, n10, reduceIte, Nat.reduceLT, Nat.reduceEqDiff]
 . simp only [eval_tmp, slot_put, size_put, u1, reduceIte, Nat.reduceLT]
 . intro i' c' hc'
   rw [hpos]
   exact hH10.elem hne hp hMw hMy i' c' hc'
 . simp only [eval_tmp, slot_put, size_put, u1, e10, reduceIte, Nat.reduceLT, Nat.reduceEqDiff]
 . simp only [eval_tmp, slot_put, size_put, u1, k10, reduceIte, Nat.reduceLT, Nat.reduceEqDiff]
 . simp only [eval_tmp, slot_put, size_put, u1, reduceIte, Nat.reduceLT]
 . simp only [eval_tmp, slot_put, size_put, u1, reduceIte, Nat.reduceLT, Nat.reduceEqDiff]
 generalize ha11 : Act.put _ (some 51) _ = a11
 have hsz11 : a11.tmps.size = 61 := by rw [<- ha11]; simp only [size_put, u1]
 have e11 : a11.tmps.getD 0 undef = .slice (some ⟨b, off, none⟩) L.length cap := by rw [<- ha11]; simp only [eval_tmp, slot_put, size_put, u1, e10, reduceIte, Nat.reduceLT, Nat.reduceEqDiff]
 have k11 : a11.tmps.getD 3 undef = .int .i64 (k' : Nat) := by rw [<- ha11]; simp only [eval_tmp, slot_put, size_put, u1, k10, reduceIte, Nat.reduceLT, Nat.reduceEqDiff]
 have v11 : a11.tmps.getD 4 undef = s2v := by rw [<- ha11]; simp only [eval_tmp, slot_put, size_put, u1, v10, reduceIte, Nat.reduceLT, Nat.reduceEqDiff]
 have n11 : a11.tmps.getD 5 undef = .int .i64 ((i + 1 : Nat) : Int) := by rw [<- ha11]; simp only [eval_tmp, slot_put, size_put, u1, n10, reduceIte, Nat.reduceLT, Nat.reduceEqDiff]
 have hd11 : a11.defers = [] := by rw [<- ha11]; simp only [defers_put, u2]
 clear ha11
 have hH11 := hH10.set hne hMw (k := k') (by omega) hp hw2w
 have hX11 : Ext r (putAt W10 b (off + k' * e.size) (w2.flat.map valOf).toArray) := ext_put hX10 hbo
 generalize putAt W10 b (off + k' * e.size) (w2.flat.map valOf).toArray = W11 at hH11 hX11 ⊢
 simp only [Exit.then]
 refine ev_words hE hsz11 hd11 (S := fun _ _ => False) (fun _ _ hb => hb.elim) (AR2 a11 W11 3 k' k11) (f2u 3 k' (by decide)) (hv13 k') fun a12 os12 d12 hd12 q1 q2 q3 q4 => ?_
 have t3 : a12.tmps.getD 3 undef = .int .i64 (IntKind.wrap .i64 ((k' : Int) + 1)) := q4 0 3 (.int .i64) _ rfl rfl rfl
 simp only [Exit.inBlock, Exit.then]
 refine tail a12 _ (k' + 1) (M.set k' w2) _ (by omega) (by omega) (hH11.grow os12 d12) (ext_grow hX11 hd12) q1 q2 ((q3 0 (by simp)).trans e11) (by rw [t3, st k' (by omega)]) ((q3 4 (by simp)).trans v11) ((q3 5 (by simp)).trans n11) (by rw [List.length_set]; exact hMl) (fun z hz => ?_) ?_ ?_ fun a' w' h => h
 . rcases List.mem_or_eq_of_mem_set hz with hz | rfl
   . exact hMw z hz
   . exact hw2w
 . rw [List.drop_set_of_lt (by omega)]; exact hdrop M hMd
 . have htk : (M.set k' w2).take (k' + 1) = (M.set k' w2).take k' ++ (M.set k' w2)[k']?.toList := List.take_add_one
   rw [htk, List.take_set_of_le (Nat.le_refl k'), hMt, List.getElem?_set_self (by omega), hded2]
   simp only [Option.toList_some]
   congr 3; omega
end
end Go.Proofs.YtjjjkojfijpeeaaGreat.Sy
end
section
set_option linter.unusedVariables false
namespace Go.Proofs.YtjjjkojfijpeeaaGreat.Sy
open Go Go.Proofs Go.Sort Go.Lib
section
variable {r : Root} {lp : Lp} {call : Nat -> List D -> Option D}
def condT : Code -> Code | .cond _ a _ => a | c => c
noncomputable def b95 : Code := sq2 (bodyOf Tryz.f95)
noncomputable def l95 : Code := inLoop (inBlk (sq2 (sq1 (sq2 b95))))
noncomputable def c95 : Code := inBlk (sq1 (sq2 l95))
noncomputable def m95 : Code := inLoop (inBlk (sq2 (sq1 (sq2 (condT (sq2 c95))))))
noncomputable def d95 : Code := inBlk (sq1 (sq2 m95))
theorem hv1_95 {L : List D} : ev (envQ lp call) (sq1 (sq1 b95)) .leaf D (dS 61 [0] (fun i => if i = 0 then .d (.sl K1) (.sl L) else .undef)) (kW [(8, .bool)]) = some (.tup [.bool (decide ((L.length : Int) < 2))]) := by kernel_rfl
theorem hv4_95 {L : List D} (k : Nat) : ev (envQ lp call) (sq1 (sq1 l95)) .leaf D (dS 61 [0, 3] (f1C K1 L k)) (kW [(13, .bool)]) = some (.tup [.bool (decide ((k : Int) < (L.length : Nat)))]) := by kernel_rfl
theorem two_95 {L : List D} {k : Nat} {x y : D} (hk : k < 1073741824) (hx : L[k]? = some x) (hy : L[k + 1]? = some y) (g : D -> D -> Option D) : ((D.idx (.int .i64 ((k + 1 : Nat) : Int)) L.length).bind fun i => (L[i]?).bind fun u => (D.bin .sub (.int .i64 ((k + 1 : Nat) : Int)) (.int .i64 1)).bind fun z => (D.idx z L.length).bind fun j => (L[j]?).bind fun v => g u v) = g y x := by
 have h1 : k + 1 < L.length := (List.getElem?_eq_some_iff.1 hy).1
 have e1 : D.idx (.int .i64 ((k + 1 : Nat) : Int)) L.length = some (k + 1) := by
   simp only [D.idx]; rw [if_pos (by omega)]; simp
 have e2 : D.bin .sub (.int .i64 ((k + 1 : Nat) : Int)) (.int .i64 1) = some (.int .i64 (k : Nat)) := by
   simp only [D.bin, if_true]
   rw [show ((k + 1 : Nat) : Int) - 1 = (k : Nat) by omega, wrap_small (by omega) (by omega)]
 have e3 : D.idx (.int .i64 (k : Nat)) L.length = some k := by
   simp only [D.idx]; rw [if_pos (by omega)]; simp
 rw [e1, Option.bind_some, hy, Option.bind_some, e2, Option.bind_some, e3, Option.bind_some, hx, Option.bind_some]
theorem hv6_95 {L : List D} (k : Nat) (x y : D) (hk : k < 1073741824) (hx : L[k]? = some x) (hy : L[k + 1]? = some y) : ev (envQ lp call) (sq1 c95) (.reg [] 9) D (dS 61 [0, 3] (f1C K1 L (k + 1))) (kW [(25, .bool)]) = some (.tup [.bool (y.beq x)]) := by
 have : ev (envQ lp call) (sq1 c95) (.reg [] 9) D (dS 61 [0, 3] (f1C K1 L (k + 1))) (kW [(25, .bool)]) = ((D.idx (.int .i64 ((k + 1 : Nat) : Int)) L.length).bind fun i => (L[i]?).bind fun u => (D.bin .sub (.int .i64 ((k + 1 : Nat) : Int)) (.int .i64 1)).bind fun z => (D.idx z L.length).bind fun j => (L[j]?).bind fun v => some (.tup [.bool (D.beq u v)])) := by kernel_rfl
 rw [this]
 exact two_95 hk hx hy fun u v => some (.tup [.bool (D.beq u v)])
theorem hv5_95 (k : Nat) : ev (envQ lp call) (sq2 (sq2 l95)) .leaf D (dS 61 [0] (f2C 3 k)) (kW [(3, .int .i64)]) = some (.tup [.int .i64 (IntKind.wrap .i64 ((k : Int) + 1))]) := by kernel_rfl
theorem hv13_95 (k : Nat) : ev (envQ lp call) (sq2 (condT (sq2 d95))) .leaf D (dS 61 [0, 4, 5] (f2C 3 k)) (kW [(3, .int .i64)]) = some (.tup [.int .i64 (IntKind.wrap .i64 ((k : Int) + 1))]) := by kernel_rfl
theorem hv10_95 (k : Nat) : ev (envQ lp call) (sq2 (sq2 m95)) .leaf D (dS 61 [0, 3, 4] (f2C 5 k)) (kW [(5, .int .i64)]) = some (.tup [.int .i64 (IntKind.wrap .i64 ((k : Int) + 1))]) := by kernel_rfl
theorem hv9_95 (N : List D) (k : Nat) : ev (envQ lp call) (sq1 (sq1 m95)) .leaf D (dS 61 [0, 3, 4, 5] (f4C K1 N k)) (kW [(32, .bool)]) = some (.tup [.bool (decide ((k : Int) < (N.length : Nat)))]) := by kernel_rfl
theorem hv11_95 (N : List D) (k : Nat) (x y : D) (hk : k < 1073741824) (hx : N[k]? = some x) (hy : N[k + 1]? = some y) : ev (envQ lp call) (sq1 d95) (.reg [] 9) D (dS 61 [0, 3, 4, 5] (f4C K1 N (k + 1))) (kW [(44, .bool)]) = some (.tup [.bool (!(y.beq x))]) := by
 have : ev (envQ lp call) (sq1 d95) (.reg [] 9) D (dS 61 [0, 3, 4, 5] (f4C K1 N (k + 1))) (kW [(44, .bool)]) = ((D.idx (.int .i64 ((k + 1 : Nat) : Int)) N.length).bind fun i => (N[i]?).bind fun u => (D.bin .sub (.int .i64 ((k + 1 : Nat) : Int)) (.int .i64 1)).bind fun z => (D.idx z N.length).bind fun j => (N[j]?).bind fun v => some (.tup [.bool (!(D.beq u v))])) := by kernel_rfl
 rw [this]
 exact two_95 hk hx hy fun u v => some (.tup [.bool (!(D.beq u v))])
theorem compact95 (hE : EnvOk Tryz.prog (envQ lp call)) {L : List D} (hwt : ∀ x ∈ L, wt K1 x) (hlen : L.length <= 1073741824) {W0 : World} (hX : Ext r W0) {S0 : Nat -> Nat -> Prop} (hSb0 : ∀ b o, S0 b o -> b < W0.heap.size) (hSo0 : ∀ b o, S0 b o -> r.Old b -> r.S0 b o) {sv : Value} (hsv : DR0 W0 S0 (.sl L) sv) (hown : 2 <= L.length -> ∃ b off cap, sv = .slice (some ⟨b, off, none⟩) L.length cap /\ HL K1 W0 b off L /\ ¬ r.Old b) :
   Calls Tryz.prog 95 #[sv] W0 fun en W' => ∃ v, en = .returned v /\ ∃ S', Ext r W' /\ DR0 W' S' (.sl (dedR L)) v /\ (∀ b o, S' b o -> b < W'.heap.size) /\ (∀ b o, S' b o -> r.Old b -> r.S0 b o) :=
 compact_gen hE rfl rfl (by decide) hwt hlen (fn := Tryz.f95) (by kernel_rfl) rfl rfl rfl (Ts := 22) (Te := 60) (by kernel_rfl) (by kernel_rfl) rfl rfl rfl rfl rfl rfl rfl rfl rfl hv1_95 hv4_95 hv6_95 hv5_95 hv13_95 hv10_95 hv9_95 hv11_95 hX hSb0 hSo0 hsv hown
end
end Go.Proofs.YtjjjkojfijpeeaaGreat.Sy
end
section
set_option linter.unusedVariables false
namespace Go.Proofs.YtjjjkojfijpeeaaGreat.Sy
open Go Go.Proofs Go.Sort Go.Lib
def WS (E : Env) (g : Nat) (l : List D) : Prop := l.Pairwise fun x y => ltD E g y x = false
section
variable {P : Program} {E : Env}
theorem ws_unique {g : Nat} {k : List D} (hc : chkS E g k = true) : ∀ {a b : List D}, a.Perm b -> WS E g a -> WS E g b -> (∀ x ∈ a, x ∈ k) -> a = b := by
 intro a
 induction a with
 | nil => intro b hp _ _ _; exact hp.symm.eq_nil.symm ▸ rfl
 | cons x a ih =>
   intro b hp ha hb hm
   cases b with
   | nil => exact absurd hp.eq_nil (by simp)
   | cons y b =>
     obtain ⟨a1, a2⟩ := List.pairwise_cons.1 ha
     obtain ⟨b1, b2⟩ := List.pairwise_cons.1 hb
     have e : x = y := by
       rcases List.mem_cons.1 (hp.subset List.mem_cons_self) with e | m1
       . exact e
       . rcases List.mem_cons.1 (hp.symm.subset (List.mem_cons_self (a := y))) with e | m2
         . exact e.symm
         . have h1 := b1 x m1
           have h2 := a1 y m2
           obtain ⟨i, hi1, hi2⟩ := List.getElem_of_mem (hm x List.mem_cons_self)
           obtain ⟨j, hj1, hj2⟩ := List.getElem_of_mem (hm y (List.mem_cons_of_mem _ m2))
           have ei : k[i]? = some x := by rw [List.getElem?_eq_getElem hi1, hi2]
           have ej : k[j]? = some y := by rw [List.getElem?_eq_getElem hj1, hj2]
           have q1 : ¬ i < j := fun h => by rw [(chk_idx hc ei ej).1.2 h] at h1; cases h1
           have q2 : ¬ j < i := fun h => by rw [(chk_idx hc ej ei).1.2 h] at h2; cases h2
           have : i = j := by omega
           subst this
           rw [ei] at ej; cases ej; rfl
     subst e
     rw [ih ((List.perm_cons x).1 hp) a2 b2 (fun z hz => hm z (List.mem_cons_of_mem _ hz))]
theorem sort_callW (hE : EnvOk P E) {f : Nat} {e : Ty} (hf : SortOk P f e) {g : Nat} (hsig : E.sig g = some ([e, e], .int .i64)) {l k : List D} (hwt : ∀ x ∈ l, wt e x) (hchk : chkS E g k = true) (hmem : ∀ x ∈ l, x ∈ k) (hkm : ∀ x ∈ k, x ∈ l) (hne : l ≠ []) {w : World} {b off cap : Nat} {row : Array Value}
   (hr : row? w b = some row) (hc : ∀ (i : Nat) (d : D), (D.flats l)[i]? = some d -> w.cell? ⟨b, off + i, none⟩ = some (valOf d)) (hlen : l.length < 4611686018427387904) :
   Calls P f #[.slice (some ⟨b, off, none⟩) l.length cap, .func (.func g) #[] #[]] w fun en w' => en = .returned (.tuple #[]) /\ ∃ l', l'.Perm l /\ WS E g l' /\ (∃ row', row? w' b = some row' /\ row'.size = row.size) /\ w.drawn <= w'.drawn /\ w'.tape = w.tape /\ w'.os = w.os /\ w'.output = w.output /\ w.heap.size <= w'.heap.size ∧
     (∀ b', b' ≠ b -> b' < w.heap.size -> w'.heap[b']? = w.heap[b']?) /\ ∀ (i : Nat) (d : D), (D.flats l')[i]? = some d -> w'.cell? ⟨b, off + i, none⟩ = some (valOf d) := by
 have hwt' : ∀ x ∈ k, wt e x := fun x hx => hwt x (hkm x hx)
 obtain ⟨x0, hx0⟩ : ∃ x0, x0 ∈ k := by
   cases l with
   | nil => exact absurd rfl hne
   | cons x l => exact ⟨x, hmem x List.mem_cons_self⟩
 have hinh : Inhabited {d : D // d ∈ k} := ⟨⟨x0, hx0⟩⟩
 have hfl : ∀ x : {d : D // d ∈ k}, x.1.flat.length = e.size := fun x => wt_len e x.1 (hwt' x.1 x.2) hf.nt
 have hleaf : ∀ x : {d : D // d ∈ k}, ∀ d ∈ x.1.flat, leafB d = true := fun x => leaf_flat e x.1 hf.cmp (hwt' x.1 x.2)
 obtain ⟨d, hd⟩ : ∃ d : Array {d : D // d ∈ k}, d.toList.map (·.1) = l := ⟨(l.pmap Subtype.mk hmem).toArray, by simp [List.map_pmap]⟩
 have hds : d.size = l.length := by rw [<- hd]; simp
 have hbs : b < w.heap.size := by
   unfold row? at hr
   cases hb : w.heap[b]? with
   | none => rw [hb] at hr; cases hr
   | some o => exact (Array.getElem?_eq_some_iff.1 hb).1
 have hfro : ∀ o, w.frozen? ⟨b, o, none⟩ = false := fun o => by
   unfold row? at hr
   split at hr
   . rename_i c t hb
     unfold World.frozen?
     simp [hb]
   . cases hr
 have at_ : ∀ (dd : Array {d : D // d ∈ k}) (t : Nat), t < dd.size * e.size -> (D.flats (dd.toList.map (·.1)))[t]?.map valOf = some ((flatK (fun x : {d : D // d ∈ k} => x.1.flat.map valOf) e.size dd)[t]!) := fun dd t ht => by
   rw [get_flatK _ _ _ _ ht, flats_div hf.pos _ (fun x hx => by
     obtain ⟨y, _, rfl⟩ := List.mem_map.1 hx
     exact hfl y)]
   have h1 : t / e.size < dd.size := (Nat.div_lt_iff_lt_mul hf.pos).2 ht
   have h2 : t % e.size < e.size := Nat.mod_lt _ hf.pos
   rw [List.getElem?_map, Array.getElem?_toList, Array.getElem?_eq_getElem h1, getElem!_pos dd _ h1]
   simp only [Option.map_some, Option.bind_some]
   have h3 : t % e.size < (dd[t / e.size]).1.flat.length := by rw [hfl]; exact h2
   rw [List.getElem?_eq_getElem h3, getElem!_pos _ _ (by simpa using h3)]
   simp
 have hH : HoldsK (fun x : {d : D // d ∈ k} => x.1.flat.map valOf) e.size w b off d := by
   intro j hj
   rw [size_flatK] at hj
   refine ⟨?_, hfro _⟩
   have := at_ d j hj
   rw [hd] at this
   cases hq : (D.flats l)[j]? with
   | none => rw [hq] at this; cases this
   | some q =>
     rw [hq] at this
     simp only [Option.map_some, Option.some.injEq] at this
     rw [hc j q hq, this]; rfl
 have hcmp : CmpLays P g #[] (fun x : {d : D // d ∈ k} => x.1.flat.map valOf) e.size (cfS E g k) b off d.size w := by
   intro m os dk _ x y
   obtain ⟨i, hi1, hi2⟩ := List.getElem_of_mem x.2
   obtain ⟨j, hj1, hj2⟩ := List.getElem_of_mem y.2
   obtain ⟨_, n, hn⟩ := chk_idx hchk (i := i) (j := j) (x := x.1) (y := y.1) (by rw [List.getElem?_eq_getElem hi1, hi2]) (by rw [List.getElem?_eq_getElem hj1, hj2])
   have hcall : E.call g [x.1, y.1] = some (.int .i64 n) := by
     unfold cmpI at hn
     obtain ⟨r, h1, h2⟩ := bind_some_inv hn
     rw [h1]
     split at h2
     . cases h2; rfl
     . cases h2
   have hcf : cfS E g k x y = n := by simp [cfS, hn]
   rw [hcf]
   have shpa : ∀ z : {d : D // d ∈ k}, ∀ (w : World) (S : Nat -> Nat -> Prop), DR0 w S z.1 (.agg (z.1.flat.map valOf).toArray) := fun z w S => by
     refine ⟨?_, ?_⟩
     . have hz := hwt' z.1 z.2
       have ha := hf.agg
       cases e <;> simp only [aggTy] at ha <;> first | (cases ha; done) | skip
       . simp only [wt] at hz; obtain ⟨ll, h1, _⟩ := hz; rw [h1]; exact ⟨_, rfl⟩
       . simp only [wt] at hz; obtain ⟨ll, h1, _⟩ := hz; rw [h1]; exact ⟨_, rfl⟩
     . exact (CRl_leaf (hleaf z)).2 (by simp [Value.cells])
   have hw2 : wts [e, e] [x.1, y.1] := ⟨x.1, [y.1], rfl, hwt' _ x.2, ⟨y.1, [], rfl, hwt' _ y.2, rfl⟩⟩
   have hctr := hE.call g [e, e] (.int .i64) [x.1, y.1] (.int .i64 n) hsig hcall hw2
     (sortWorldK (fun x : {d : D // d ∈ k} => x.1.flat.map valOf) e.size w b off m dk os) (fun _ _ => False) [.agg (x.1.flat.map valOf).toArray, .agg (y.1.flat.map valOf).toArray] (fun _ _ h => h.elim) hw2 rfl
     (fun i z v hz hv => by
       cases i with
       | zero => simp at hz hv; subst hz; subst hv; exact shpa x _ _
       | succ i => cases i with
         | zero => simp at hz hv; subst hz; subst hv; exact shpa y _ _
         | succ i => simp at hz)
   refine hctr.mono ?_
   rintro en w' ⟨v, rfl, ⟨os', dr, hdr, rfl⟩, _, hv⟩
   have hv' : v = .int .i64 n := by
     obtain ⟨c1, c2⟩ := (hv : DR0 _ _ _ _)
     have := (CRl_leaf (by intro d hd; simp only [D.flat, List.mem_singleton] at hd; subst hd; rfl)).1 c2
     exact cells_single c1 (by simpa [D.flat, valOf] using this)
   refine ⟨by rw [hv'], dr - (sortWorldK (fun x : {d : D // d ∈ k} => x.1.flat.map valOf) e.size w b off m dk os).drawn, os'.toArray, ?_⟩
   unfold grown grow World.drewN
   simp only [show ∀ a b : Nat, a <= b -> a + (b - a) = b from fun a b h => by omega, hdr]
 have hO : SWO (ltOf (cfS E g k)) := swo_cfS hchk
 have key := hf.whole {d : D // d ∈ k} (fun x => x.1.flat.map valOf) (fun x => by simp [hfl x]) (fun x v hv => by
     obtain ⟨q, hq, rfl⟩ := List.mem_map.1 hv
     have := hleaf x q hq
     cases q <;> simp only [leafB] at this <;> first | (cases this; done) | rfl) (cfS E g k) hO g b off cap d w (enters_sig hE hsig) hcmp hH hbs (by omega)
 rw [hds] at key
 refine key.mono ?_
 rintro en w' ⟨rfl, d', n, os, hp, hso, rfl⟩
 rw [<- hds] at hp hso
 have hd's : d'.size = d.size := hp.1
 have hH' := holdsK_sortWorldK_c (fun x : {d : D // d ∈ k} => x.1.flat.map valOf) e.size w b off d d' n os hH hbs hd's
 have hpm : (d'.toList.map (·.1)).Perm l := by
   obtain ⟨p1, _, p3⟩ := hp
   have q : d'.toList.Perm d.toList := by
     have e1 : d'.extract 0 d.size = d' := by rw [<- p1]; simp
     rw [e1] at p3
     simpa using p3
   have := q.map (·.1)
   rwa [hd] at this
 refine ⟨rfl, d'.toList.map (·.1), hpm, ?_, ?_, ?_, rfl, rfl, rfl, ?_, fun b' hb hb' => ?_, fun i q hq => ?_⟩
 . rw [WS, List.pairwise_iff_getElem]
   intro i j hi hj hij
   simp only [List.length_map, Array.length_toList] at hi hj
   have h1 := hso i j (Nat.zero_le _) hij (by omega)
   rw [getElem!_pos d' j hj, getElem!_pos d' i hi, ltOf_cfS] at h1
   simpa using h1
 . unfold row? at hr ⊢
   split at hr <;> first | (cases hr; done) | skip
   rename_i c t hbk
   cases hr
   have : (sortWorldK (fun x : {d : D // d ∈ k} => x.1.flat.map valOf) e.size w b off n d' os).heap[b]? = some (.cells (putCells id off (flatK (fun x : {d : D // d ∈ k} => x.1.flat.map valOf) e.size d') row) t (0, 0)) := by
     simp only [sortWorldK, grow, putRowK, putRow, mapBlock, Go.Sort.ahead]
     rw [Array.getElem?_append_left (by simpa using hbs), Array.getElem?_modify, if_pos rfl, hbk]
     rfl
   rw [this]
   exact ⟨_, rfl, by simp [putCells]⟩
 . show w.drawn <= w.drawn + n; omega
 . simp only [sortWorldK, grow, putRowK, putRow, mapBlock, Go.Sort.ahead, Array.size_append, Array.size_modify]; omega
 . simp only [sortWorldK, grow, putRowK, putRow, mapBlock, Go.Sort.ahead]
   rw [Array.getElem?_append_left (by simpa using hb'), Array.getElem?_modify, if_neg (Ne.symm hb)]
 . have hi : i < d'.size * e.size := by
     have h1 := (List.getElem?_eq_some_iff.1 hq).1
     rw [flats_len_of hf.nt _ fun x hx => hwt x (hpm.subset hx)] at h1
     simpa using h1
   have h2 := at_ d' i hi
   rw [hq] at h2
   simp only [Option.map_some, Option.some.injEq] at h2
   have h3 := (hH' i (by rw [size_flatK]; exact hi)).1
   rw [h3, <- h2]; rfl
end
end Go.Proofs.YtjjjkojfijpeeaaGreat.Sy
end
section
set_option linter.unusedVariables false
namespace Go.Proofs.YtjjjkojfijpeeaaGreat.Sy
open Go Go.Proofs Go.Sort Go.Lib
theorem dedF_sup (x : D) : ∀ (l : List D), ∀ y ∈ l, y ∈ x :: dedF x l
 | [], y, h => by simp at h
 | z :: l, y, h => by
   simp only [dedF]
   by_cases hz : z.beq x = true
   . have e := beq_eq z x hz
     subst e
     rw [if_pos hz]
     rcases List.mem_cons.1 h with rfl | h
     . exact List.mem_cons_self
     . exact dedF_sup z l y h
   . rw [if_neg hz]
     rcases List.mem_cons.1 h with rfl | h
     . simp
     . exact List.mem_cons_of_mem _ (dedF_sup z l y h)
theorem dedR_sup : ∀ (l : List D), ∀ y ∈ l, y ∈ dedR l
 | [], y, h => by simp at h
 | x :: l, y, h => by
   simp only [dedR]
   rcases List.mem_cons.1 h with rfl | h
   . exact List.mem_cons_self
   . exact dedF_sup x l y h
section
variable {P : Program} {E : Env} {r : Root}
theorem ws_dedF {g : Nat} : ∀ (l : List D) (x : D), chkS E g (x :: dedF x l) = true -> WS E g (x :: l)
 | [], x, _ => by simp [WS]
 | y :: l, x, h => by
   have hs := chkS_spec h
   simp only [dedF] at h hs
   by_cases hy : y.beq x = true
   . have e := beq_eq y x hy
     subst e
     rw [if_pos hy] at h hs
     have ih := ws_dedF l y h
     refine List.pairwise_cons.2 ⟨fun z hz => ?_, ih⟩
     rcases List.mem_cons.1 hz with rfl | hz
     . exact ge_lt (hs.2 z List.mem_cons_self)
     . exact (List.pairwise_cons.1 ih).1 z hz
   . rw [if_neg hy] at h hs
     have h' : chkS E g (y :: dedF y l) = true := by
       simp only [chkS, Bool.and_eq_true] at h ⊢
       exact h.2
     refine List.pairwise_cons.2 ⟨fun z hz => ?_, ws_dedF l y h'⟩
     have hz' : z ∈ y :: dedF y l := by
       rcases List.mem_cons.1 hz with rfl | hz
       . exact List.mem_cons_self
       . exact dedF_sup y l z hz
     exact ge_lt ((List.pairwise_cons.1 hs.1).1 z hz').2
theorem sortDW_inv {g : Nat} {l l' : List D} (h : sortDW E g l = some l') : l'.Perm l /\ chkS E g (dedR l') = true /\ WS E g l' := by
 unfold sortDW at h
 split at h <;> first | (cases h; done) | skip
 rename_i hc
 cases h
 refine ⟨sortL_perm _ l, hc, ?_⟩
 generalize sortL (ltD E g) l = m at hc
 cases m with
 | nil => simp [WS]
 | cons x m => exact ws_dedF m x hc
theorem sort_callsW (hE : EnvOk P E) {f : Nat} {e : Ty} (hf : SortOk P f e) {g : Nat} (hsig : E.sig g = some ([e, e], .int .i64)) {x : Nat} {S : Nat -> Nat -> Prop} {γ : Nat -> Option Nat} {β : Nat -> Option (Nat × Nat)} {s : St} {a : Act} {w : World} (h : Rp r S γ β s a w)
   {l l' : List D} (hv : freshL s e x = some l) (hs : sortDW E g l = some l') :
   Calls P f #[a.tmps.getD x undef, .func (.func g) #[] #[]] w fun en w1 => (∃ v, en = .returned v) /\ ∃ S', Ext r w1 /\ DR0 w1 S' (.sl l') (a.tmps.getD x undef) /\ (∀ b o, S' b o -> b < w1.heap.size) /\ (∀ b o, S' b o -> r.Old b -> r.S0 b o) /\ (2 <= l'.length -> ∃ b off cap, a.tmps.getD x undef = .slice (some ⟨b, off, none⟩) l'.length cap /\ HL e w1 b off l' /\ ¬ r.Old b) := by
 have hx : x < s.nt := by
   rcases Nat.lt_or_ge x s.nt with k | k
   . exact k
   . unfold freshL at hv; rw [h.tmu x k] at hv; cases hv
 have hax : AR ⟨w, S, γ, β, s.ob, s.dead⟩ (s.tm x) (a.tmps.getD x undef) := h.tms x (by rw [h.nt]; exact hx)
 obtain ⟨ad, cap, val, hwt, hcr, hown⟩ : ∃ ad cap, a.tmps.getD x undef = .slice ad l.length cap /\ (∀ y ∈ l, wt e y) /\ CR w S (.sl l) (.slice ad l.length cap) /\ (l ≠ [] -> ∃ b off row, ad = some ⟨b, off, none⟩ /\ row? w b = some row /\ off + l.length * e.size <= row.size /\ ¬ r.Old b /\ b < w.heap.size) /\ l.length <= 1073741824 := by
   unfold freshL at hv
   split at hv
   . rename_i e' v l0 htm
     split at hv
     . rename_i hb
       simp only [Bool.and_eq_true, Bool.not_eq_true', decide_eq_true_eq] at hb
       obtain ⟨⟨hb1, hb2⟩, hb3⟩ := hb
       cases hv
       have := Ty.eq_of_beq _ _ hb1; subst this
       rw [htm] at hax
       simp only [AR, AC] at hax
       obtain ⟨n0, n1, n2, ad, cap, n3, n4, n5⟩ := hax
       have hval := cells_single n0 n3
       have hdead : v ∉ s.dead := by simpa using hb2
       refine ⟨ad, cap, hval, n2, n4, fun hne => ?_, hb3⟩
       rcases n5 hdead with ⟨q1, q2⟩ | ⟨b, off, q1, q2, n, q3, q4⟩
       . exfalso
         obtain ⟨_, _, b, off, e1, e2, e3, e4⟩ := n4.elems
         cases e1
         rcases e2 with e2 | e2
         . exact hne e2
         . rw [q1] at e2; cases e2
       . obtain ⟨k1, k2, _⟩ := h.βn v b _ hdead q2
         unfold rsz at q3
         cases hr : row? w b with
         | none => rw [hr] at q3; cases q3
         | some row =>
           rw [hr] at q3
           simp only [Option.map_some, Option.some.injEq] at q3
           have hlc : l.length <= cap := by
             obtain ⟨_, _, _, _, e1, _, e3, _⟩ := n4.elems
             cases e1; exact e3
           have := Nat.mul_le_mul_right e'.size hlc
           exact ⟨b, off, row, q1, hr, by omega, k1, k2⟩
     . cases hv
   . rename_i htm
     cases hv
     rw [htm] at hax
     simp only [AR, AC] at hax
     have hval := cells_single hax.1 hax.2
     exact ⟨none, 0, hval, by simp, CR.of_elems (b := 0) (off := 0) (.inl rfl) (Nat.le_refl _) ⟨[], CRl.nil, by simp⟩, fun h => absurd rfl h, by simp⟩
   . cases hv
 obtain ⟨hown, hlen⟩ := hown
 obtain ⟨hperm, hchk, hws⟩ := sortDW_inv hs
 have hll : l'.length = l.length := hperm.length_eq
 have hwt' : ∀ y ∈ l', wt e y := fun y hy => hwt y (hperm.subset hy)
 rw [val]
 by_cases hne : l = []
 . subst hne
   have e0 : l' = [] := by cases l' with | nil => rfl | cons y l' => simp at hll
   subst e0
   refine (hf.empty ad cap _ w).mono ?_
   rintro en w1 ⟨rfl, rfl⟩
   exact ⟨⟨_, rfl⟩, S, h.ext, DR0_sl hcr, h.Sb, h.So, fun h => by simp at h⟩
 . obtain ⟨b, off, row, rfl, hr, hrs, hold, hbs⟩ := hown hne
   have hcell : ∀ (i : Nat) (d : D), (D.flats l)[i]? = some d -> w.cell? ⟨b, off + i, none⟩ = some (valOf d) := by
     obtain ⟨_, _, b', off', e1, e2, e3, cs, e4, e5⟩ := hcr.elems
     cases e1
     rcases e2 with e2 | e2
     . exact absurd e2 hne
     . cases e2
       have hleaf := leaf_list hf.cmp l hwt
       have := (CRl_leaf hleaf).1 e4
       subst this
       intro i d hd
       exact (e5 i (valOf d) (by rw [List.getElem?_map, hd]; rfl)).2
   refine (sort_callW hE hf hsig hwt hchk (fun x hx => dedR_sup _ x (hperm.symm.subset hx)) (fun x hx => hperm.subset (dedR_sub _ x hx)) hne (b := b) (off := off) (cap := cap) hr hcell (by omega)).mono ?_
   rintro en w1 ⟨rfl, l2, hp2, hw2, ⟨row', hr', hrz⟩, q1, q2, q3, q4, q5, q6, q7⟩
   have e2 : l2 = l' := ws_unique hchk (hp2.trans hperm.symm) hw2 hws fun x hx => dedR_sup _ x (hperm.symm.subset (hp2.subset hx))
   subst e2
   refine ⟨⟨_, rfl⟩, fun b' o => (S b' o /\ b' ≠ b) \/ (b' = b /\ off <= o /\ o < off + (D.flats l2).length), ?_, ?_, ?_, ?_, ?_⟩
   . refine ext_of h.ext q2 q3 q4 q5 q1 fun b' hb' => q6 b' (fun e => hold (e ▸ hb')) (Nat.lt_of_lt_of_le hb'.1 h.ext.sz)
   . refine DR0_sl ?_
     rw [<- hll]
     refine CR.of_elems (b := b) (off := off) (.inr rfl) (by obtain ⟨_, _, _, _, e1, _, e3, _⟩ := hcr.elems; cases e1; rw [hll]; exact e3) ⟨(D.flats l2).map valOf, ?_, fun i c hc => ?_⟩
     . exact (CRl_leaf (leaf_list hf.cmp l2 hwt')).2 rfl
     . rw [List.getElem?_map] at hc
       cases hd : (D.flats l2)[i]? with
       | none => rw [hd] at hc; cases hc
       | some d =>
         rw [hd] at hc
         simp only [Option.map_some, Option.some.injEq] at hc
         subst hc
         exact ⟨.inr ⟨rfl, by omega, by have := (List.getElem?_eq_some_iff.1 hd).1; omega⟩, q7 i d hd⟩
   . rintro b' o (⟨hb', _⟩ | ⟨rfl, _, _⟩)
     . exact Nat.lt_of_lt_of_le (h.Sb b' o hb') q5
     . exact Nat.lt_of_lt_of_le hbs q5
   . rintro b' o (⟨hb', _⟩ | ⟨rfl, _, _⟩) ho
     . exact h.So b' o hb' ho
     . exact absurd ho hold
   . intro _
     exact ⟨b, off, cap, by rw [hll], ⟨⟨row', hr', by rw [hrz, hll]; exact hrs⟩, fun i d hd => q7 i d hd⟩, hold⟩
end
end Go.Proofs.YtjjjkojfijpeeaaGreat.Sy
end
section
set_option linter.unusedVariables false
namespace Go.Proofs.YtjjjkojfijpeeaaGreat.Sy
open Go Go.Proofs Go.Sort Go.Lib
theorem fn95 : ∃ fn, Tryz.prog.funcs[95]? = some fn /\ (fn.name == "runtime.NumGoroutine") = false /\ fn.body.isSome = true := fnOf (by kernel_rfl)
theorem hv0_93 {lp : Lp} {call : Nat -> List D -> Option D} {l : List D} : ev (envQ lp call) (sq1 (bodyOf Tryz.f93)) .leaf D (dS 4 [] (fun i => if i = 0 then .d (.sl K1) (.sl l) else .undef)) (kBoxT (.sl K1) 1) = some (.sl l) := by kernel_rfl
theorem L44 {lp : Lp} (hlp : LpOk lp) : leafOk 44 (spec44 lp) := by
 intro call hc ptys rty' xs y hs hy hw
 have : sigF 44 = some ([K2], K2) := by kernel_rfl
 rw [this] at hs; cases hs
 obtain ⟨a0, l0, rfl, hwa, hl0⟩ := hw
 have hl0' : l0 = [] := hl0
 subst hl0'
 obtain ⟨l, rfl, hwt⟩ := hwa
 simp only [spec44] at hy
 split at hy <;> first | (cases hy; done) | skip
 rename_i hlen
 have hlen : l.length <= 1073741824 := by simpa using hlen
 obtain ⟨l', hsd, hy⟩ := bind_some_inv hy
 cases hy
 have hE : EnvOk Tryz.prog (envQ lp call) := envP hlp hc
 obtain ⟨hperm, _, _⟩ := sortDW_inv hsd
 have hwt' : ∀ x ∈ l', wt K1 x := fun x hx => hwt x (hperm.subset hx)
 intro w S vs hS _ hlv hvs
 obtain ⟨v0, rfl⟩ : ∃ v0, vs = [v0] := by
   match vs, hlv with
   | [v], _ => exact ⟨v, rfl⟩
 have hv0 := hvs 0 _ v0 rfl rfl
 have s94 : (envQ lp call).sig 94 = some ([K1, K1], .int .i64) := by kernel_rfl
 refine sorted_gen (f := 44) (f93 := 93) (f92 := 92) (f95 := 95) (g := 94) (fn := Tryz.f44) (K1 := ValsRes w S l 151)
   (K2 := fun v w2 => ∃ S', Ext (rootOf w S) w2 /\ DR0 w2 S' (.sl l') v /\ (∀ b o, S' b o -> b < w2.heap.size) /\ (∀ b o, S' b o -> b < w.heap.size -> S b o) /\ (2 <= l'.length -> ∃ b off cap, v = .slice (some ⟨b, off, none⟩) l'.length cap /\ HL Sy.K1 w2 b off l' /\ ¬ (rootOf w S).Old b))
   (K3 := fun v w' => (∃ os d, w.drawn <= d /\ w' = grown w os d) /\ wt Sy.K2 (.sl (dedR l')) /\ DR w' (fun b o => S b o \/ (w.heap.size <= b /\ b < w'.heap.size)) (.sl (dedR l')) v) (by kernel_rfl) rfl rfl rfl rfl rfl rfl fn93 fn92 fn95 ?_ ?_ ?_
 . exact values_gen hE (e := Sy.K1) rfl hwt (fn := Tryz.f93) (by kernel_rfl) rfl rfl rfl rfl hv0_93 hS hv0
 . rintro v w1 ⟨B, S1, sv, rfl, hX, hcell, hB, hcr, hSb, hSo⟩
   have hIt : ItOk Tryz.prog (rootOf w1 S1) Sy.K1 l 151 #[.pointer (some ⟨B, 0, none⟩)] := vals151 hE hwt hlen hSb (fun W hW => by
     have := hW.old B ⟨hB, fun hf => hf⟩
     simp only [World.cell?, this]
     exact hcell) hcr
   have hx1 : Ext (rootOf w1 S1) w1 := ⟨rfl, rfl, rfl, Nat.le_refl _, Nat.le_refl _, fun _ _ => rfl⟩
   refine sortedFunc_gen (f150 := 150) (g := 94) sortOk_V.fn (K0 := OwnRes (rootOf w1 S1) Sy.K1 l) ?_ (f := 92) (f149 := 149) (fn := Tryz.f92) (by kernel_rfl) rfl rfl rfl rfl rfl rfl rfl fn149 (collect149 hE hwt hlen hIt hx1)
   intro v w2 hv
   obtain ⟨X, S2, β, hX2, hR⟩ := hv.at (a := ⟨#[v], []⟩) (nt := 1) (t := 0) rfl Nat.one_pos rfl rfl
   refine (sort_callsW hE sortOk_V s94 hR (freshL_of hX2 hlen) hsd).mono ?_
   rintro en w3 ⟨⟨u, rfl⟩, S', q1, q2, q3, q4, q5⟩
   refine ⟨u, rfl, S', hX.trans q1, q2, q3, fun b o hb hlt => ?_, fun h2 => ?_⟩
   . have h1 : b < w1.heap.size := Nat.lt_of_lt_of_le hlt hX.sz
     exact hSo b o (q4 b o hb ⟨h1, fun hf => hf⟩) hlt
   . obtain ⟨b, off, cap, z1, z2, z3⟩ := q5 h2
     exact ⟨b, off, cap, z1, z2, fun ho => z3 ⟨Nat.lt_of_lt_of_le ho.1 hX.sz, fun hf => hf⟩⟩
 . rintro v w2 ⟨S', q1, q2, q3, q4, q5⟩
   refine (compact95 (r := rootOf w S) hE hwt' (by rw [hperm.length_eq]; exact hlen) q1 q3 (fun b o hb ho => q4 b o hb ho.1) q2 q5).mono ?_
   rintro en w3 ⟨u, rfl, S3, k1, k2, k3, k4⟩
   refine ⟨u, rfl, grown_of_ext k1 (fun _ hf => hf), ⟨_, rfl, fun x hx => hwt' x (dedR_sub _ x hx)⟩, (DR.of0 k2).mono (fun _ _ _ => rfl) fun b o hb => ?_⟩
   rcases Nat.lt_or_ge b w.heap.size with hlt | hge
   . exact .inl (k4 b o hb ⟨hlt, fun hf => hf⟩)
   . exact .inr ⟨hge, k3 b o hb⟩
end Go.Proofs.YtjjjkojfijpeeaaGreat.Sy
end
section
namespace Go.Proofs.YtjjjkojfijpeeaaGreat.Sy
open Go Go.Proofs Go.Proofs.YtjjjkojfijpeeaaGreat.Geo
noncomputable def callM (f : Nat) (xs : List D) : Option D := if f = 10 then callA (itN 2000) 20 10 xs else cA 10 f xs
theorem callM_ok : CallOk Tryz.prog callM := by
 intro f ptys rty xs y hs hy hw
 unfold callM at hy
 split at hy
 . rename_i hf
   subst hf
   exact callA_ok (lpOk_iter 2000) (L44 (lpOk_iter 2000)) 20 10 ptys rty xs y hs hy hw
 . exact callA_ok lpOk_loopW (L44 lpOk_loopW) 10 f ptys rty xs y hs hy hw
theorem wt_K1 {d : D} (h : wt K1 d) : ∃ v : V, d = encV v := by
 obtain ⟨l, rfl, hl, h⟩ := h
 match l, hl with
 | [a, b, c], _ =>
   obtain ⟨x, rfl⟩ := h a (by simp)
   obtain ⟨y, rfl⟩ := h b (by simp)
   obtain ⟨z, rfl⟩ := h c (by simp)
   exact ⟨⟨x, y, z⟩, rfl⟩
theorem wt_K2 {d : D} (h : wt K2 d) : ∃ l : List V, d = encL l := by
 obtain ⟨l, rfl, h⟩ := h
 have key : ∀ l : List D, (∀ x ∈ l, wt K1 x) -> ∃ m : List V, l = m.map encV := by
   intro l
   induction l with
   | nil => intro _; exact ⟨[], rfl⟩
   | cons x l ih =>
     intro h
     obtain ⟨v, rfl⟩ := wt_K1 (h x (by simp))
     obtain ⟨m, rfl⟩ := ih fun y hy => h y (by simp [hy])
     exact ⟨v :: m, rfl⟩
 obtain ⟨m, rfl⟩ := key l h
 exact ⟨m, rfl⟩
end Go.Proofs.YtjjjkojfijpeeaaGreat.Sy
end
section
set_option linter.unusedVariables false
namespace Go.Proofs.YtjjjkojfijpeeaaGreat.Sy
open Go Go.Proofs Go.Proofs.YtjjjkojfijpeeaaGreat.Geo
abbrev FL := List ((V × Int) × List Nat)
def encFL (L : FL) : List D := L.map fun f => encF f.1 f.2
theorem encFL_len (L : FL) : (encFL L).length = L.length := List.length_map ..
theorem encFL_get {L : FL} {i : Nat} (h : i < L.length) : (encFL L)[i]? = some (encF L[i].1 L[i].2) := by simp [encFL, h]
theorem c108 (n : Nat) (L : FL) (m : V) (hL : L.length <= 3000000) : cA (n + 1) 108 [.sl (encFL L), encV m] = some (.bool (L.any fun f => decide (f.1.1 = m))) := by
 rw [u108]
 unfold F108
 refine lp_for (fun i s => s = [I (i : Int)] /\ (L.take i).any (fun f => decide (f.1.1 = m)) = false) L.length 0 (Nat.zero_le _) ⟨rfl, by simp⟩ (fun i hi s hJ => ?_) (fun s hJ => ?_)
 . obtain ⟨rfl, hz⟩ := hJ
   by_cases he : L[i].1.1 = m
   . right
     refine ⟨(0, [.bool true]), ?_, ?_⟩
     . refine bind_eq (z := encFL L) rfl (bind_eq b_lss (bind_eq tr_b (iteT (by show ((i : Int) < ((encFL L).length : Int)); rw [encFL_len]; omega) ?_)))
       refine bind_eq (z := encFL L) rfl (bind_eq (z := i) (by rw [encFL_len]; exact idx_n hi) (bind_eq (encFL_get hi) (bind_eq (z := encV L[i].1.1) rfl ?_)))
       rw [beq_V]
       exact bind_eq tr_b (iteT he rfl)
     . have : L.any (fun f => decide (f.1.1 = m)) = true := List.any_eq_true.2 ⟨L[i], List.getElem_mem hi, by simpa using he⟩
       simp [this, g0]
   . left
     refine ⟨[I ((i + 1 : Nat) : Int)], ?_, rfl, ?_⟩
     . refine bind_eq (z := encFL L) rfl (bind_eq b_lss (bind_eq tr_b (iteT (by show ((i : Int) < ((encFL L).length : Int)); rw [encFL_len]; omega) ?_)))
       refine bind_eq (z := encFL L) rfl (bind_eq (z := i) (by rw [encFL_len]; exact idx_n hi) (bind_eq (encFL_get hi) (bind_eq (z := encV L[i].1.1) rfl ?_)))
       rw [beq_V]
       exact bind_eq tr_b (iteF he (bind_eq (b_add (inR_nat (i := i) (by omega))) rfl))
     . rw [List.take_succ_eq_append_getElem hi, List.any_append, hz]; simp [he]
 . obtain ⟨rfl, hz⟩ := hJ
   rw [List.take_length] at hz
   refine ⟨(1, []), ?_, by simp [hz]⟩
   exact bind_eq (z := encFL L) rfl (bind_eq b_lss (bind_eq tr_b (iteF (by show ¬ ((L.length : Int) < ((encFL L).length : Int)); rw [encFL_len]; omega) rfl)))
def insF (f : (V × Int) × List Nat) : FL -> FL
 | [] => [f]
 | x :: L => if lexlt f.1.1 x.1.1 then f :: x :: L else x :: insF f L
theorem c110 (n : Nat) (L : FL) (f : (V × Int) × List Nat) (hL : L.length <= 3000000) : cA (n + 2) 110 [.sl (encFL L), encF f.1 f.2] = some (.sl (encFL (insF f L))) := by
 rw [u110]
 unfold F110
 have app : ∀ (o : FL) (x : (V × Int) × List Nat), encFL o ++ [encF x.1 x.2] = encFL (o ++ [x]) := fun o x => by simp [encFL]
 refine lp_for (fun i s => ∃ (out : FL) (put : Bool), s = [.sl (encFL out), .bool put, I (i : Int)] /\ out.length <= 2 * i /\ (put = false -> insF f L = out ++ insF f (L.drop i)) /\ (put = true -> insF f L = out ++ L.drop i)) L.length 0 (Nat.zero_le _) ⟨[], false, rfl, by simp, by simp, by simp⟩ (fun i hi s hJ => ?_) (fun s hJ => ?_)
 . obtain ⟨out, put, rfl, hol, h1, h2⟩ := hJ
   left
   have hd : L.drop i = L[i] :: L.drop (i + 1) := List.drop_eq_getElem_cons hi
   have hc := c105 n f.1.1 L[i].1.1
   obtain ⟨o, p, he, ho, q1, q2⟩ : ∃ o p, (if put = false /\ lexlt f.1.1 L[i].1.1 then (out ++ [f], true) else (out, put)) = (o, p) /\ o.length <= 2 * i + 1 /\ (p = false -> insF f L = o ++ L[i] :: insF f (L.drop (i + 1))) /\ (p = true -> insF f L = o ++ L[i] :: L.drop (i + 1)) := by
     by_cases hput : put = false /\ lexlt f.1.1 L[i].1.1
     . refine ⟨_, _, if_pos hput, by simp; omega, by simp, fun _ => ?_⟩
       rw [h1 hput.1, hd]; simp [insF, hput.2]
     . refine ⟨_, _, if_neg hput, by omega, fun hp => ?_, fun hp => ?_⟩
       . have hnl : ¬ lexlt f.1.1 L[i].1.1 := fun h => hput ⟨hp, h⟩
         rw [h1 hp, hd]; simp [insF, hnl]
       . rw [h2 hp, hd]
   refine ⟨[.sl (encFL (o ++ [L[i]])), .bool p, I ((i + 1 : Nat) : Int)], ?_, o ++ [L[i]], p, rfl, by simp; omega, fun hp => by rw [q1 hp]; simp, fun hp => by rw [q2 hp]; simp⟩
   refine bind_eq (z := encFL L) rfl (bind_eq b_lss (bind_eq tr_b (iteT (by show ((i : Int) < ((encFL L).length : Int)); rw [encFL_len]; omega) ?_)))
   refine bind_eq (z := encV f.1.1) rfl (bind_eq (z := encFL L) rfl (bind_eq (z := i) (by rw [encFL_len]; exact idx_n hi) (bind_eq (encFL_get hi) (bind_eq (z := encV L[i].1.1) rfl (bind_eq hc ?_)))))
   refine bind_eq (z := (0, [.sl (encFL o), .bool p])) ?_ ?_
   . refine bind_eq (z := .bool (!put)) rfl (bind_eq (z := !put) rfl (bind_eq (z := !put && decide (lexlt f.1.1 L[i].1.1)) ?_ (bind_eq (z := !put && decide (lexlt f.1.1 L[i].1.1)) rfl ?_)))
     . cases put
       . exact tr_b
       . rfl
     . by_cases hput : put = false /\ lexlt f.1.1 L[i].1.1
       . rw [if_pos hput] at he
         obtain ⟨rfl, hlt⟩ := hput
         cases he
         rw [show (!false && decide (lexlt f.1.1 L[i].1.1)) = true by simp [hlt], if_pos rfl, if_pos (by simp only [g0, D.els, encFL_len, List.length_cons, List.length_nil]; omega)]
         simp only [g0, D.els, app]
       . rw [if_neg hput] at he
         cases he
         rw [show (!put && decide (lexlt f.1.1 L[i].1.1)) = false by
           cases put
           . simpa using hput
           . rfl]
         rfl
   . refine bind_eq (z := encFL L) rfl (bind_eq (z := i) (by rw [encFL_len]; exact idx_n hi) (bind_eq (encFL_get hi) ?_))
     rw [if_pos (by simp only [g0, D.els, encFL_len, List.length_cons, List.length_nil]; omega)]
     refine bind_eq (b_add (inR_nat (i := i) (by omega))) ?_
     simp only [g0, g1, D.els, app]
     rfl
 . obtain ⟨out, put, rfl, hol, h1, h2⟩ := hJ
   refine ⟨(0, [.sl (encFL out), .bool put]), ?_, ?_⟩
   . exact bind_eq (z := encFL L) rfl (bind_eq b_lss (bind_eq tr_b (iteF (by show ¬ ((L.length : Int) < ((encFL L).length : Int)); rw [encFL_len]; omega) rfl)))
   . cases put
     . have := h1 rfl
       rw [List.drop_length] at this
       rw [this]
       refine bind_eq (z := (0, [.sl (encFL (out ++ [f]))])) ?_ rfl
       refine bind_eq (z := .bool true) rfl (bind_eq (z := true) rfl ?_)
       rw [if_pos rfl, if_pos (by simp only [g0, D.els, encFL_len, List.length_cons, List.length_nil]; omega)]
       simp only [g0, D.els, app]
     . have := h2 rfl
       rw [List.drop_length, List.append_nil] at this
       rw [this]
       rfl
end Go.Proofs.YtjjjkojfijpeeaaGreat.Sy
end
section
set_option linter.unusedVariables false
namespace Go.Proofs.YtjjjkojfijpeeaaGreat.Sy
open Go Go.Proofs Go.Proofs.YtjjjkojfijpeeaaGreat.Geo
def sideOk (l : List V) (m : V) (a b x : Nat) : Bool :=
 decide (0 <= T m (wy (pt l) a b) (wy (pt l) a x)) && (!decide (T m (wy (pt l) a b) (wy (pt l) a x) = 0) || (decide (0 <= V.dot (wy (pt l) a x) (wy (pt l) a b)) && decide (V.dot (wy (pt l) a x) (wy (pt l) a b) <= V.dot (wy (pt l) a b) (wy (pt l) a b))))
theorem sideOk_iff {l : List V} {m : V} {a b x : Nat} : sideOk l m a b x = true ↔ (0 <= T m (wy (pt l) a b) (wy (pt l) a x) /\ (T m (wy (pt l) a b) (wy (pt l) a x) = 0 -> 0 <= V.dot (wy (pt l) a x) (wy (pt l) a b) /\ V.dot (wy (pt l) a x) (wy (pt l) a b) <= V.dot (wy (pt l) a b) (wy (pt l) a b))) := by
 simp only [sideOk, Bool.and_eq_true, Bool.or_eq_true, Bool.not_eq_true', decide_eq_true_eq, decide_eq_false_iff_not]
 by_cases h : T m (wy (pt l) a b) (wy (pt l) a x) = 0 <;> simp [h]
def sideB (l : List V) (m : V) (d : Int) (a b : Nat) : Bool := (OnPl (pt l) l.length m d).all fun x => sideOk l m a b x
theorem sideB_iff {l : List V} {m : V} {d : Int} {a b : Nat} (hb : b ∈ OnPl (pt l) l.length m d) (hne : b ≠ a) : sideB l m d a b = true ↔ Side m (pt l) (OnPl (pt l) l.length m d) a b := by
 simp only [sideB, List.all_eq_true, sideOk_iff]
 exact ⟨fun h => ⟨hb, hne, h⟩, fun h => h.all⟩
theorem c156 (n : Nat) {l : List V} (hl : ∀ x ∈ l, bd MV x) (hlen : l.length <= 100) {m : V} {d : Int} (hm0 : m ≠ V.zero) (hm : bd 549755813888 m) {a b : Nat} (ha : a < l.length) (hb : b < l.length) (hda : V.dot m (pt l a) = d) (hdb : V.dot m (pt l b) = d) :
   cA (n + 3) 156 [encL l, encV m, I d, encV (pt l a), encV (pt l b)] = some (.bool (sideB l m d a b)) := by
 rw [u156]
 unfold F156
 have w1 : bd 524288 (wy (pt l) a b) := bd_wy (hl _ (memD ha)) (hl _ (memD hb))
 refine bind_eq (z := encV (wy (pt l) a b)) (c112 (n + 1) (hl _ (memD hb)) (hl _ (memD ha)) (by decide)) ?_
 have ll : (l.map encV).length = l.length := List.length_map ..
 have hmb : V.dot m (wy (pt l) a b) = 0 := by rw [dot_wy, hda, hdb]; omega
 refine lp_for (fun i s => s = [I (i : Int)] /\ (OnPl (pt l) i m d).all (fun x => sideOk l m a b x) = true) l.length 0 (Nat.zero_le _) ⟨rfl, by simp [OnPl]⟩ (fun i hi s hJ => ?_) (fun s hJ => ?_)
 . obtain ⟨rfl, hz⟩ := hJ
   have hc := c107 (n + 1) hm (hl _ (memD hi)) (by decide)
   by_cases hon : V.dot m (pt l i) = d
   . have w2 : bd 524288 (wy (pt l) a i) := bd_wy (hl _ (memD ha)) (hl _ (memD hi))
     have hmi : V.dot m (wy (pt l) a i) = 0 := by rw [dot_wy, hda, hon]; omega
     have c1 := c112 (n + 1) (hl _ (memD hi)) (hl _ (memD ha)) (by decide)
     have c2 := c123 (n + 1) w1 w2 (by decide)
     have c3 := c188 n m (V.cross (wy (pt l) a b) (wy (pt l) a i))
     rw [left_eq hm0 (cross_par hmb hmi)] at c3
     have c4 := c107 (n + 1) w2 w1 (by decide)
     have c5 := c107 (n + 1) w1 w1 (by decide)
     have step : ∀ (y : Nat × List D), y = (if sideOk l m a b i then (0, []) else (1, [D.bool false])) -> (Option.bind (D.asSl (encL l)) fun l6 => Option.bind (D.idx (I (i : Int)) (List.length l6)) fun i7 =>
         Option.bind (l6[i7]?) fun x8 => Option.bind (cA (n + 2) 107 [encV m, x8]) fun r9 => Option.bind (D.truth (D.bool (!(D.beq r9 (I d))))) fun b10 =>
         if b10 then (some ((0 : Nat), ([] : List D))) else (Option.bind (D.asSl (encL l)) fun l11 => Option.bind (D.idx (I (i : Int)) (List.length l11)) fun i12 =>
         Option.bind (l11[i12]?) fun x13 => Option.bind (cA (n + 2) 112 [x13, encV (pt l a)]) fun r14 => Option.bind (cA (n + 2) 123 [encV (wy (pt l) a b), r14]) fun r15 => Option.bind (cA (n + 2) 188 [encV m, r15]) fun r16 =>
         Option.bind (D.bin .lss r16 (D.int .i64 0)) fun x17 => Option.bind (D.truth x17) fun b18 =>
         Option.bind (if b18 then (some true) else (Option.bind (D.truth (D.bool (D.beq r16 (D.int .i64 0)))) fun b19 =>
         if b19 then (Option.bind (cA (n + 2) 107 [r14, encV (wy (pt l) a b)]) fun r20 => Option.bind (D.bin .lss r20 (D.int .i64 0)) fun x21 => Option.bind (D.truth x21) fun b22 =>
         if b22 then (some true) else (Option.bind (cA (n + 2) 107 [r14, encV (wy (pt l) a b)]) fun r23 => Option.bind (cA (n + 2) 107 [encV (wy (pt l) a b), encV (wy (pt l) a b)]) fun r24 =>
         Option.bind (D.bin .gtr r23 r24) fun x25 => D.truth x25)) else (some false))) fun b26 => Option.bind (D.truth (D.bool b26)) fun b27 =>
         if b27 then (some (1, [(D.bool false)])) else (some (0, [])))) = some y := by
       intro y hy
       refine bind_eq (z := l.map encV) rfl (bind_eq (z := i) (by rw [ll]; exact idx_n hi) (bind_eq (getDL hi) (bind_eq hc (bind_eq (z := false) ?_ ?_))))
       . rw [beq_i, show V.dot m (l.getD i V.zero) = d from hon]; simp [D.truth]
       rw [if_neg (by decide)]
       refine bind_eq (z := l.map encV) rfl (bind_eq (z := i) (by rw [ll]; exact idx_n hi) (bind_eq (getDL hi) (bind_eq (z := encV (wy (pt l) a i)) c1 (bind_eq c2 (bind_eq c3 (bind_eq b_lss (bind_eq tr_b ?_)))))))
       rw [hy]
       have e : V.dot m (V.cross (wy (pt l) a b) (wy (pt l) a i)) = T m (wy (pt l) a b) (wy (pt l) a i) := rfl
       rw [e]
       refine bind_eq (z := !sideOk l m a b i) ?_ ?_
       . by_cases t1 : T m (wy (pt l) a b) (wy (pt l) a i) < 0
         . rw [iteD (sg_lt.2 t1)]
           have : ¬ (0 <= T m (wy (pt l) a b) (wy (pt l) a i)) := by omega
           simp [sideOk, this]
         . rw [iteN (fun h => t1 (sg_lt.1 h))]
           have t1' : 0 <= T m (wy (pt l) a b) (wy (pt l) a i) := by omega
           by_cases t2 : T m (wy (pt l) a b) (wy (pt l) a i) = 0
           . refine bind_eq (z := true) (by rw [beq_i, decide_eq_true (sg_zero.2 t2)]; rfl) ?_
             rw [if_pos rfl]
             refine bind_eq c4 (bind_eq b_lss (bind_eq tr_b ?_))
             by_cases t3 : V.dot (wy (pt l) a i) (wy (pt l) a b) < 0
             . rw [iteD t3]
               have : ¬ (0 <= V.dot (wy (pt l) a i) (wy (pt l) a b)) := by omega
               simp [sideOk, t2, this]
             . rw [iteN t3]
               refine bind_eq c4 (bind_eq c5 (bind_eq b_gtr ?_))
               rw [tr_b]
               have t3' : 0 <= V.dot (wy (pt l) a i) (wy (pt l) a b) := by omega
               simp only [sideOk, t2, t3', decide_true, Bool.true_and, Bool.not_true, Bool.false_or, Int.le_refl]
               by_cases t4 : V.dot (wy (pt l) a i) (wy (pt l) a b) <= V.dot (wy (pt l) a b) (wy (pt l) a b)
               . have : ¬ (V.dot (wy (pt l) a i) (wy (pt l) a b) > V.dot (wy (pt l) a b) (wy (pt l) a b)) := by omega
                 simp [t4, this]
               . have : (V.dot (wy (pt l) a i) (wy (pt l) a b) > V.dot (wy (pt l) a b) (wy (pt l) a b)) := by omega
                 simp [t4, this]
           . refine bind_eq (z := false) (by rw [beq_i, decide_eq_false (fun h => t2 (sg_zero.1 h))]; rfl) ?_
             simp [sideOk, t2, t1']
       . refine bind_eq tr_b ?_
         cases sideOk l m a b i <;> rfl
     cases hk : sideOk l m a b i
     . right
       rw [hk] at step
       refine ⟨(0, [.bool false]), ?_, ?_⟩
       . exact bind_eq (z := l.map encV) rfl (bind_eq b_lss (bind_eq tr_b (iteT (by show ((i : Int) < ((l.map encV).length : Int)); rw [ll]; omega) (bind_eq (step _ rfl) rfl))))
       . have : sideB l m d a b = false := by
           rw [Bool.eq_false_iff]; intro h
           have := List.all_eq_true.1 h i (mem_onPl.2 ⟨hi, hon⟩)
           rw [hk] at this; exact absurd this (by decide)
         rw [this]; rfl
     . left
       rw [hk] at step
       refine ⟨[I ((i + 1 : Nat) : Int)], ?_, rfl, ?_⟩
       . exact bind_eq (z := l.map encV) rfl (bind_eq b_lss (bind_eq tr_b (iteT (by show ((i : Int) < ((l.map encV).length : Int)); rw [ll]; omega) (bind_eq (step _ rfl) (by rw [if_pos rfl, if_pos rfl]; exact bind_eq (b_add (inR_nat (i := i) (by omega))) rfl)))))
       . rw [onPl_succ, if_pos hon, List.all_append, hz]; simp [hk]
   . left
     refine ⟨[I ((i + 1 : Nat) : Int)], ?_, rfl, ?_⟩
     . refine bind_eq (z := l.map encV) rfl (bind_eq b_lss (bind_eq tr_b (iteT (by show ((i : Int) < ((l.map encV).length : Int)); rw [ll]; omega) (bind_eq (z := (0, [])) ?_ (by rw [if_pos rfl]; exact bind_eq (b_add (inR_nat (i := i) (by omega))) rfl)))))
       refine bind_eq (z := l.map encV) rfl (bind_eq (z := i) (by rw [ll]; exact idx_n hi) (bind_eq (getDL hi) (bind_eq hc (bind_eq (z := true) ?_ rfl))))
       rw [beq_i, decide_eq_false (show ¬ V.dot m (l.getD i V.zero) = d from hon)]; rfl
     . rw [onPl_succ, if_neg hon]; exact hz
 . obtain ⟨rfl, hz⟩ := hJ
   refine ⟨(1, []), ?_, ?_⟩
   . exact bind_eq (z := l.map encV) rfl (bind_eq b_lss (bind_eq tr_b (iteF (by show ¬ ((l.length : Int) < ((l.map encV).length : Int)); rw [ll]; omega) rfl)))
   . have : sideB l m d a b = true := hz
     rw [this]; rfl
end Go.Proofs.YtjjjkojfijpeeaaGreat.Sy
end
section
set_option linter.unusedVariables false
namespace Go.Proofs.YtjjjkojfijpeeaaGreat.Sy
open Go Go.Proofs Go.Proofs.YtjjjkojfijpeeaaGreat.Geo
theorem lp_some {body : Bd} {s0 : List D} {r : Nat × List D} (h : Option.bind (lpW body s0) some = some r) : lpW body s0 = some r := by
 cases hb : lpW body s0 with
 | none => rw [hb] at h; cases h
 | some z => rw [hb] at h; exact h
theorem onPl_pre {P : Nat -> V} {m : V} {d : Int} {i N a : Nat} (h : (OnPl P i m d).head? = some a) (hi : i <= N) : (OnPl P N m d).head? = some a := by
 induction N with
 | zero => have : i = 0 := by omega
           subst this; exact h
 | succ N ih =>
   by_cases e : i = N + 1
   . rw [<- e]; exact h
   . have := ih (by omega)
     rw [onPl_succ]
     split
     . rw [List.head?_append, this]; rfl
     . exact this
theorem chain_loop2 {body : Bd} {S : Nat -> Nat -> Prop} {a M : Nat} {G : Nat -> Prop} (hS : ∀ c b, G c -> S c b -> G b)
   (hstep : ∀ (c b : Nat) (out : List Nat), G c -> S c b -> b ≠ a -> out.length <= M -> body [.sl (enumN out), I (c : Int)] = some (.inl [.sl (enumN (out ++ [c])), I (b : Int)]))
   (hend : ∀ (c : Nat) (out : List Nat), G c -> S c a -> out.length <= M -> body [.sl (enumN out), I (c : Int)] = some (.inr (0, [.sl (enumN (out ++ [c]))]))) :
   ∀ {c : Nat} {p : List Nat}, Chain S a c p -> G c -> ∀ out : List Nat, (out ++ p).length <= M -> lpW body [.sl (enumN out), I (c : Int)] = some (0, [.sl (enumN (out ++ p))])
 | c, _, .done s, hc, out, hl => loopW_end (hend c out hc s (by simp at hl; omega))
 | c, _, .step (y := y) (l := p) s hy k, hc, out, hl => by
   have h1 := hstep c y out hc s hy (by simp at hl; omega)
   rw [show lpW body [.sl (enumN out), I (c : Int)] = lpW body [.sl (enumN (out ++ [c])), I (y : Int)] from loopW_next h1]
   have := chain_loop2 hS hstep hend k (hS c y hc s) (out ++ [c]) (by simpa using hl)
   rw [this]; simp
theorem p111 (n : Nat) {l : List V} (hl : ∀ x ∈ l, bd MV x) (hlen : l.length <= 100) (hs : Srt l) {m : V} {d : Int} (hF : IsF (pt l) l.length m d) (hm : bd 549755813888 m) {p : List Nat} (hp : IsPoly (pt l) l.length m d p) :
   cA (n + 4) 111 [encL l, encV m, I d] = some (.sl (enumN p)) := by
 have F := hF.flat hs
 obtain ⟨p', hp', hnd, hmem⟩ := hF.poly hs
 have e := IsPoly.eq hs hF hp hp'
 subst e
 obtain ⟨a, ha1, hch⟩ := hp
 have ha : a ∈ OnPl (pt l) l.length m d := List.mem_of_mem_head? (by rw [ha1]; rfl)
 have hlt : ∀ k ∈ OnPl (pt l) l.length m d, k < l.length := fun k hk => (mem_onPl.1 hk).1
 have hdk : ∀ k ∈ OnPl (pt l) l.length m d, V.dot m (pt l k) = d := fun k hk => (mem_onPl.1 hk).2
 have honl : (OnPl (pt l) l.length m d).length <= l.length := by
   unfold OnPl
   exact Nat.le_trans (List.length_filter_le _ _) (by rw [List.length_range]; omega)
 have hpl : p.length <= l.length := Nat.le_trans (List.Nodup.length_le_of_subset hnd fun z hz => ((hmem z).1 hz).1) honl
 have ll : (l.map encV).length = l.length := List.length_map ..
 rw [u111]
 unfold F111
 have hdot := fun (i : Nat) (hi : i < l.length) => c107 (n + 2) hm (hl _ (memD hi)) (by decide)
 refine bind_eq (z := (0, [.sl [], I (a : Int)])) ?_ ?_
 . refine lp_some (lp_forA (fun i s => s = [.sl [], encB ((OnPl (pt l) i m d).head?), I (i : Int)]) l.length 0 (Nat.zero_le _) rfl (fun i hi s hJ => ?_) (fun s hJ => ?_))
   . subst hJ
     cases hh : (OnPl (pt l) i m d).head? with
     | some a' =>
       right
       have := onPl_pre hh (Nat.le_of_lt hi)
       rw [ha1] at this; cases this
       refine ⟨(0, [.sl [], I (a : Int)]), ?_, rfl⟩
       refine bind_eq (z := l.map encV) rfl (bind_eq b_lss (bind_eq tr_b (bind_eq (z := false) (iteT (by show ((i : Int) < ((l.map encV).length : Int)); rw [ll]; omega) ?_) (bind_eq tr_b ?_))))
       . refine bind_eq b_lss ?_
         rw [decide_eq_false (by omega)]; rfl
       . rfl
     | none =>
       left
       have hnil : OnPl (pt l) i m d = [] := by simpa using hh
       refine ⟨[.sl [], encB ((OnPl (pt l) (i + 1) m d).head?), I ((i + 1 : Nat) : Int)], ?_, rfl⟩
       refine bind_eq (z := l.map encV) rfl (bind_eq b_lss (bind_eq tr_b (bind_eq (z := true) (iteT (by show ((i : Int) < ((l.map encV).length : Int)); rw [ll]; omega) (bind_eq (b_lss (a := -1) (b := 0)) rfl)) (bind_eq tr_b ?_))))
       rw [if_pos rfl]
       refine bind_eq (z := (0, [.sl [], encB ((OnPl (pt l) (i + 1) m d).head?)])) ?_ (bind_eq (b_add (inR_nat (i := i) (by omega))) rfl)
       refine bind_eq (z := l.map encV) rfl (bind_eq (z := i) (by rw [ll]; exact idx_n hi) (bind_eq (getDL hi) (bind_eq (hdot i hi) ?_)))
       rw [beq_i, onPl_succ, hnil]
       by_cases hon : V.dot m (pt l i) = d
       . rw [if_pos hon, decide_eq_true (show V.dot m (l.getD i V.zero) = d from hon)]; rfl
       . rw [if_neg hon, decide_eq_false (show ¬ V.dot m (l.getD i V.zero) = d from hon)]; rfl
   . subst hJ
     rw [ha1]
     refine ⟨(0, [.sl [], I (a : Int)]), ?_, rfl⟩
     refine bind_eq (z := l.map encV) rfl (bind_eq b_lss (bind_eq tr_b (bind_eq (z := false) (iteF (by show ¬ ((l.length : Int) < ((l.map encV).length : Int)); rw [ll]; omega) rfl) (bind_eq tr_b rfl))))
 . refine bind_eq (z := (0, [.sl (enumN ([] ++ p))])) ?_ rfl
   refine chain_loop2 (M := l.length) (G := fun c => c ∈ OnPl (pt l) l.length m d) (fun c b hc hb => hb.mem) (fun c b out hc hb hba hol => ?_) (fun c out hc hb hol => ?_) hch ha [] (by simpa using hpl)
   all_goals
     obtain ⟨b', hbb, hb'⟩ : ∃ b', (b' = a \/ b' ≠ a) /\ Side m (pt l) (OnPl (pt l) l.length m d) c b' := by first | exact ⟨_, Classical.em _, hb⟩
     refine bind_eq (z := l.map encV) rfl (bind_eq b_leq (bind_eq tr_b (iteT (by show (((enumN out).length : Int) <= ((l.map encV).length : Int)); rw [ll, enumN_len]; omega) ?_)))
     rw [if_pos (by simp only [g0, D.els, enumN_len, List.length_cons, List.length_nil]; omega)]
     have happ : enumN out ++ [I (c : Int)] = enumN (out ++ [c]) := by simp [enumN]
     have hbl := hlt b' hb'.mem
     refine bind_eq (z := (0, [.sl (enumN (out ++ [c])), I (b' : Int)])) ?_ ?_
     . refine lp_some (lp_forA (fun i s => s = [.sl (enumN (out ++ [c])), encB (if b' < i then some b' else none), I (i : Int)]) l.length 0 (Nat.zero_le _) (by simp [g0, g1, D.els, happ, encB]) (fun i hi s hJ => ?_) (fun s hJ => ?_))
       . subst hJ
         by_cases hbi : b' < i
         . right
           rw [if_pos hbi]
           refine ⟨(0, [.sl (enumN (out ++ [c])), I (b' : Int)]), ?_, rfl⟩
           refine bind_eq (z := l.map encV) rfl (bind_eq b_lss (bind_eq tr_b (bind_eq (z := false) (iteT (by show ((i : Int) < ((l.map encV).length : Int)); rw [ll]; omega) ?_) (bind_eq tr_b ?_))))
           . refine bind_eq b_lss ?_
             rw [decide_eq_false (by omega)]; rfl
           . rfl
         . left
           rw [if_neg hbi]
           refine ⟨[.sl (enumN (out ++ [c])), encB (if b' < i + 1 then some b' else none), I ((i + 1 : Nat) : Int)], ?_, rfl⟩
           refine bind_eq (z := l.map encV) rfl (bind_eq b_lss (bind_eq tr_b (bind_eq (z := true) (iteT (by show ((i : Int) < ((l.map encV).length : Int)); rw [ll]; omega) (bind_eq (b_lss (a := -1) (b := 0)) rfl)) (bind_eq tr_b ?_))))
           rw [if_pos rfl]
           refine bind_eq (z := (0, [.sl (enumN (out ++ [c])), encB (if b' < i + 1 then some b' else none)])) ?_ (bind_eq (b_add (inR_nat (i := i) (by omega))) rfl)
           have hcl := hlt c hc
           by_cases hon : i ≠ c /\ V.dot m (pt l i) = d
           . have hion : i ∈ OnPl (pt l) l.length m d := mem_onPl.2 ⟨hi, hon.2⟩
             refine bind_eq (z := true) (by show D.truth (D.bool (!(D.beq (I (i : Int)) (I (c : Int))))) = _; rw [beq_nat, decide_eq_false hon.1]; rfl) (bind_eq (z := true) ?_ (bind_eq tr_b ?_))
             . rw [if_pos rfl]
               refine bind_eq (z := l.map encV) rfl (bind_eq (z := i) (by rw [ll]; exact idx_n hi) (bind_eq (getDL hi) (bind_eq (hdot i hi) ?_)))
               rw [beq_i, decide_eq_true (show V.dot m (l.getD i V.zero) = d from hon.2)]; rfl
             . rw [if_pos rfl]
               refine bind_eq (z := l.map encV) rfl (bind_eq (z := c) (by rw [ll]; exact idx_n hcl) (bind_eq (getDL hcl) (bind_eq (z := l.map encV) rfl (bind_eq (z := i) (by rw [ll]; exact idx_n hi) (bind_eq (getDL hi) (bind_eq (c156 n hl hlen hF.nz.1 hm hcl hi (hdk c hc) hon.2) (bind_eq tr_b ?_)))))))
               by_cases hib : i = b'
               . subst hib
                 rw [(sideB_iff hion hon.1).2 hb', if_pos rfl, if_pos (by omega)]; rfl
               . have : sideB l m d c i = false := by
                   rw [Bool.eq_false_iff]; intro h
                   exact hib (Side.unique F hc ((sideB_iff hion hon.1).1 h) hb')
                 rw [this, if_neg (show ¬ b' < i + 1 by omega)]; rfl
           . have hib : i ≠ b' := fun e => hon (by subst e; exact ⟨hb'.ne, hdk _ hb'.mem⟩)
             rw [if_neg (show ¬ b' < i + 1 by omega)]
             by_cases hic : i = c
             . subst hic
               refine bind_eq (z := false) (by show D.truth (D.bool (!(D.beq (I (i : Int)) (I (i : Int))))) = _; rw [beq_nat, decide_eq_true rfl]; rfl) (bind_eq (z := false) rfl (bind_eq tr_b rfl))
             . have hnd : ¬ V.dot m (l.getD i V.zero) = d := fun h => hon ⟨hic, h⟩
               refine bind_eq (z := true) (by show D.truth (D.bool (!(D.beq (I (i : Int)) (I (c : Int))))) = _; rw [beq_nat, decide_eq_false hic]; rfl) (bind_eq (z := false) ?_ (bind_eq tr_b rfl))
               rw [if_pos rfl]
               refine bind_eq (z := l.map encV) rfl (bind_eq (z := i) (by rw [ll]; exact idx_n hi) (bind_eq (getDL hi) (bind_eq (hdot i hi) ?_)))
               rw [beq_i, decide_eq_false hnd]; rfl
       . subst hJ
         rw [if_pos hbl]
         refine ⟨(0, [.sl (enumN (out ++ [c])), I (b' : Int)]), ?_, rfl⟩
         exact bind_eq (z := l.map encV) rfl (bind_eq b_lss (bind_eq tr_b (bind_eq (z := false) (iteF (by show ¬ ((l.length : Int) < ((l.map encV).length : Int)); rw [ll]; omega) rfl) (bind_eq tr_b rfl))))
     . have hu := Side.unique F hc hb hb'
       subst hu
       first
         | exact bind_eq (z := true) (by show D.truth (D.bool (D.beq (I (_ : Int)) (I (_ : Int)))) = _; rw [beq_nat, decide_eq_true rfl]; rfl) (bind_eq (z := true) rfl (bind_eq tr_b rfl))
         | exact bind_eq (z := false) (by show D.truth (D.bool (D.beq (I (_ : Int)) (I (_ : Int)))) = _; rw [beq_nat, decide_eq_false hba]; rfl) (bind_eq (z := false) (by rw [if_neg (by decide)]; refine bind_eq b_lss ?_; rw [decide_eq_false (by omega)]; rfl) (bind_eq tr_b rfl))
end Go.Proofs.YtjjjkojfijpeeaaGreat.Sy
end
section
set_option linter.unusedVariables false
namespace Go.Proofs.YtjjjkojfijpeeaaGreat.Sy
open Go Go.Proofs Go.Proofs.YtjjjkojfijpeeaaGreat.Geo
def dval : List Nat -> Nat
 | [] => 0
 | d :: l => d + 65536 * dval l
def dl (l : List Nat) : Prop := ∀ d ∈ l, d < 65536
theorem dl.cons {d : Nat} {l : List Nat} (hd : d < 65536) (h : dl l) : dl (d :: l) := fun x hx => by
 rcases List.mem_cons.1 hx with rfl | hx
 . exact hd
 . exact h x hx
theorem dl.append {a b : List Nat} (ha : dl a) (hb : dl b) : dl (a ++ b) := fun x hx => by
 rcases List.mem_append.1 hx with hx | hx
 . exact ha x hx
 . exact hb x hx
theorem dl.getD {l : List Nat} (h : dl l) (i : Nat) : l.getD i 0 < 65536 := by
 simp only [List.getD]
 cases hi : l[i]? with
 | none => simp
 | some x => exact h x (List.mem_of_getElem? hi)
def digs (m : Nat) : List Nat := if h : m = 0 then [] else m % 65536 :: digs (m / 65536)
termination_by m
decreasing_by omega
theorem digs_zero : digs 0 = [] := by unfold digs; simp
theorem digs_pos {m : Nat} (h : m ≠ 0) : digs m = m % 65536 :: digs (m / 65536) := by rw [digs, dif_neg h]
theorem digs_cons {d v : Nat} (hd : d < 65536) (h : d + 65536 * v ≠ 0) : digs (d + 65536 * v) = d :: digs v := by
 rw [digs_pos h, show (d + 65536 * v) % 65536 = d by omega, show (d + 65536 * v) / 65536 = v by omega]
theorem dval_digs (m : Nat) : dval (digs m) = m := by
 induction m using Nat.strongRecOn with
 | _ m ih =>
   by_cases h : m = 0
   . subst h; rw [digs_zero]; rfl
   . rw [digs_pos h, dval, ih _ (by omega)]; omega
theorem dl_digs (m : Nat) : dl (digs m) := by
 induction m using Nat.strongRecOn with
 | _ m ih =>
   by_cases h : m = 0
   . subst h; rw [digs_zero]; intro d hd; cases hd
   . rw [digs_pos h]; exact dl.cons (by omega) (ih _ (by omega))
theorem digs_nil {m : Nat} : digs m = [] ↔ m = 0 := by
 constructor
 . intro h; have := dval_digs m; rw [h] at this; exact this.symm
 . rintro rfl; exact digs_zero
theorem digs_getD (i : Nat) : ∀ m, (digs m).getD i 0 = m / 65536 ^ i % 65536 := by
 induction i with
 | zero =>
   intro m
   by_cases h : m = 0
   . subst h; rw [digs_zero]; simp
   . rw [digs_pos h]; simp
 | succ i ih =>
   intro m
   by_cases h : m = 0
   . subst h; rw [digs_zero]; simp
   . rw [digs_pos h]
     show (digs (m / 65536)).getD i 0 = _
     rw [ih, Nat.div_div_eq_div_mul, Nat.pow_succ, Nat.mul_comm 65536]
theorem digs_len (k : Nat) : ∀ m, m < 65536 ^ k -> (digs m).length <= k := by
 induction k with
 | zero => intro m h; have : m = 0 := by simpa using h
           subst this; rw [digs_zero]; simp
 | succ k ih =>
   intro m h
   by_cases h0 : m = 0
   . subst h0; rw [digs_zero]; simp
   . rw [digs_pos h0, List.length_cons]
     have := ih (m / 65536) (by rw [Nat.pow_succ] at h; exact Nat.div_lt_of_lt_mul (by rw [Nat.mul_comm]; exact h))
     omega
theorem dval_append (a b : List Nat) : dval (a ++ b) = dval a + 65536 ^ a.length * dval b := by
 induction a with
 | nil => simp [dval]
 | cons d a ih =>
   simp only [List.cons_append, dval, ih, List.length_cons, Nat.pow_succ]
   rw [Nat.mul_add, <- Nat.mul_assoc, Nat.mul_comm 65536 (65536 ^ a.length)]
   omega
theorem dval_zeros (l : List Nat) (n : Nat) : dval (l ++ List.replicate n 0) = dval l := by
 rw [dval_append]
 have : ∀ n, dval (List.replicate n 0) = 0 := fun n => by
   induction n with
   | zero => rfl
   | succ n ih => rw [List.replicate_succ, dval, ih]
 rw [this]; simp
def vt (l : List Nat) : Nat -> Nat
 | 0 => 0
 | k + 1 => vt l k + l.getD k 0 * 65536 ^ k
theorem vt_cons (d : Nat) (l : List Nat) (k : Nat) : vt (d :: l) (k + 1) = d + 65536 * vt l k := by
 induction k with
 | zero => simp [vt]
 | succ k ih =>
   rw [vt, ih, vt, Nat.mul_add]
   have : (d :: l).getD (k + 1) 0 = l.getD k 0 := rfl
   rw [this, Nat.pow_succ, <- Nat.mul_assoc, <- Nat.mul_assoc, Nat.mul_comm 65536 (l.getD k 0), Nat.mul_assoc, Nat.mul_comm (65536 ^ k), <- Nat.mul_assoc]
   omega
theorem vt_len (l : List Nat) : vt l l.length = dval l := by
 induction l with
 | nil => rfl
 | cons d l ih => rw [List.length_cons, vt_cons, ih]; rfl
theorem vt_dval {l : List Nat} {k : Nat} (h : l.length <= k) : vt l k = dval l := by
 obtain ⟨j, rfl⟩ : ∃ j, k = l.length + j := ⟨k - l.length, by omega⟩
 clear h
 induction j with
 | zero => exact vt_len l
 | succ j ih =>
   rw [<- Nat.add_assoc, vt, ih]
   have : l.getD (l.length + j) 0 = 0 := by simp [List.getD]
   rw [this]; simp
theorem vt_lt {l : List Nat} (h : dl l) (k : Nat) : vt l k < 65536 ^ k := by
 induction k with
 | zero => simp [vt]
 | succ k ih =>
   have h1 := h.getD k
   have h2 : l.getD k 0 * 65536 ^ k <= 65535 * 65536 ^ k := Nat.mul_le_mul_right _ (by omega)
   rw [vt, Nat.pow_succ, Nat.mul_comm (65536 ^ k)]
   omega
def trimN : List Nat -> List Nat
 | [] => []
 | d :: l => match trimN l with
   | [] => if d = 0 then [] else [d]
   | x :: t => d :: x :: t
theorem trimN_eq {l : List Nat} (h : dl l) : trimN l = digs (dval l) := by
 induction l with
 | nil => rw [dval, digs_zero]; rfl
 | cons d l ih =>
   have hd : d < 65536 := h d List.mem_cons_self
   have ih := ih fun x hx => h x (List.mem_cons_of_mem _ hx)
   rw [trimN, ih, dval]
   by_cases hv : dval l = 0
   . rw [hv, digs_zero]
     by_cases h0 : d = 0
     . subst h0; simp [digs_zero]
     . rw [digs_cons hd (by omega), digs_zero]; simp [h0]
   . rw [digs_cons hd (by omega), digs_pos hv]
theorem trimN_zero {l : List Nat} (h : ∀ i, i < l.length -> l.getD i 0 = 0) : trimN l = [] := by
 induction l with
 | nil => rfl
 | cons d l ih =>
   have h0 : d = 0 := h 0 (by simp)
   rw [trimN, ih (fun i hi => h (i + 1) (by simpa using hi)), h0]; simp
theorem trim_take : ∀ {l : List Nat} {n : Nat}, n <= l.length -> (∀ i, n <= i -> i < l.length -> l.getD i 0 = 0) -> (n = 0 \/ l.getD (n - 1) 0 ≠ 0) -> l.take n = trimN l
 | [], n, _, _, _ => by simp [trimN]
 | d :: l, 0, _, hz, _ => by rw [trimN_zero (fun i hi => hz i (by omega) hi)]; rfl
 | d :: l, n + 1, hn, hz, hl => by
   have hl' : (d :: l).getD n 0 ≠ 0 := by rcases hl with h | h; · omega
                                          . exact h
   have ih : l.take n = trimN l := trim_take (l := l) (n := n) (by simpa using hn) (fun i h1 h2 => hz (i + 1) (by omega) (by simpa using h2)) (by
     cases n with
     | zero => exact .inl rfl
     | succ k => exact .inr hl')
   rw [List.take_succ_cons, ih, trimN]
   cases ht : trimN l with
   | nil =>
     rw [ht] at ih
     have : n = 0 := by
       cases n with
       | zero => rfl
       | succ k => cases l with
         | nil => simp at hn
         | cons e l => simp at ih
     subst this
     have : d ≠ 0 := hl'
     simp [this]
   | cons x t => rfl
end Go.Proofs.YtjjjkojfijpeeaaGreat.Sy
end
section
set_option linter.unusedVariables false
namespace Go.Proofs.YtjjjkojfijpeeaaGreat.Sy
open Go Go.Proofs Go.Proofs.YtjjjkojfijpeeaaGreat.Geo
theorem enumN_at {l : List Nat} {i : Nat} (h : i < l.length) : (enumN l)[i]? = some (I (l.getD i 0 : Nat)) := enumN_getD h
theorem enumN_app (a : List Nat) (d : Nat) : enumN a ++ [I (d : Int)] = enumN (a ++ [d]) := by simp [enumN]
theorem c140 (n : Nat) {l : List Nat} (hl : l.length <= 1000000) : cA (n + 1) 140 [.sl (enumN l)] = some (.sl (enumN (trimN l))) := by
 rw [u140]
 unfold F140
 refine bind_eq (z := enumN l) rfl ?_
 have fin : ∀ j : Nat, j <= l.length -> (∀ i, j <= i -> i < l.length -> l.getD i 0 = 0) -> (j = 0 \/ l.getD (j - 1) 0 ≠ 0) -> (Option.bind (D.asSl (.sl (enumN l))) fun l13 => Option.bind (D.natOf (I (j : Int))) fun i14 => Option.bind (D.cut l13 0 i14) fun l15 => some (D.sl l15)) = some (.sl (enumN (trimN l))) := by
   intro j hj hz hd
   refine bind_eq (z := enumN l) rfl (bind_eq (z := j) (by simp [D.natOf]) (bind_eq (z := enumN (l.take j)) ?_ (by rw [trim_take hj hz hd])))
   simp only [D.cut]
   rw [if_pos ⟨Nat.zero_le _, by rw [enumN_len]; exact hj⟩]
   simp [enumN, List.map_take]
 refine lp_for (fun i s => s = [I ((l.length - i : Nat) : Int)] /\ ∀ k, l.length - i <= k -> k < l.length -> l.getD k 0 = 0) l.length 0 (Nat.zero_le _) ⟨by rw [enumN_len]; rfl, fun k h1 h2 => by omega⟩ (fun i hi s hJ => ?_) (fun s hJ => ?_)
 . obtain ⟨rfl, hz⟩ := hJ
   have hb : inR (((l.length - i : Nat) : Int) - 1) := by simp only [inR]; omega
   have e1 : ((l.length - i : Nat) : Int) - 1 = ((l.length - i - 1 : Nat) : Int) := by omega
   have hx : (enumN l)[l.length - i - 1]? = some (I (l.getD (l.length - i - 1) 0 : Nat)) := enumN_at (by omega)
   by_cases h0 : l.getD (l.length - i - 1) 0 = 0
   . left
     refine ⟨[I ((l.length - (i + 1) : Nat) : Int)], ?_, rfl, fun k h1 h2 => ?_⟩
     . refine bind_eq b_gtr (bind_eq tr_b (bind_eq (z := true) (iteT (by show ((l.length - i : Nat) : Int) > 0; omega) ?_) (bind_eq tr_b ?_)))
       . refine bind_eq (b_sub hb) (bind_eq (z := enumN l) rfl (bind_eq (z := l.length - i - 1) (by rw [e1, enumN_len]; exact idx_n (by omega)) (bind_eq hx ?_)))
         rw [h0]; rfl
       . rw [if_pos rfl]
         refine bind_eq (b_sub hb) ?_
         rw [e1, Nat.sub_sub]
     . by_cases e : k = l.length - i - 1
       . rw [e]; exact h0
       . exact hz k (by omega) h2
   . right
     refine ⟨(0, [I ((l.length - i : Nat) : Int)]), ?_, fin _ (by omega) hz (.inr h0)⟩
     refine bind_eq b_gtr (bind_eq tr_b (bind_eq (z := false) (iteT (by show ((l.length - i : Nat) : Int) > 0; omega) ?_) (bind_eq tr_b rfl)))
     refine bind_eq (b_sub hb) (bind_eq (z := enumN l) rfl (bind_eq (z := l.length - i - 1) (by rw [e1, enumN_len]; exact idx_n (by omega)) (bind_eq hx ?_)))
     rw [beq_i, decide_eq_false (by omega)]; rfl
 . obtain ⟨rfl, hz⟩ := hJ
   refine ⟨(0, [I ((l.length - l.length : Nat) : Int)]), ?_, fin _ (by omega) hz (.inl (by omega))⟩
   refine bind_eq b_gtr (bind_eq tr_b (bind_eq (z := false) (iteF (by show ¬ ((l.length - l.length : Nat) : Int) > 0; omega) rfl) (bind_eq tr_b rfl)))
theorem c141 (n : Nat) (l : List Nat) (k : Nat) : cA (n + 1) 141 [.sl (enumN l), I (k : Int)] = some (I (l.getD k 0 : Nat)) := by
 rw [u141]
 unfold F141
 refine bind_eq (z := enumN l) rfl (bind_eq b_lss (bind_eq tr_b ?_))
 by_cases h : k < l.length
 . refine iteT (by show (k : Int) < ((enumN l).length : Int); rw [enumN_len]; omega) ?_
   exact bind_eq (z := enumN l) rfl (bind_eq (z := k) (by rw [enumN_len]; exact idx_n h) (bind_eq (enumN_at h) rfl))
 . refine iteF (by show ¬ (k : Int) < ((enumN l).length : Int); rw [enumN_len]; omega) ?_
   have : l.getD k 0 = 0 := by simp [List.getD, h]
   rw [this]; rfl
def limb (l : List Nat) (i : Nat) : Nat := l.getD (2 * i) 0 + 65536 * l.getD (2 * i + 1) 0
abbrev U (n : Nat) : D := .int .u32 (n : Int)
def limbsD (l : List Nat) : D := .st ((List.range 16).map fun i => U (limb l i))
def encN (x : Int) : D := .st [.bool false, .bool (decide (x < 0)), limbsD (digs x.natAbs)]
theorem limb_lt {l : List Nat} (h : dl l) (i : Nat) : limb l i < 4294967296 := by
 have := h.getD (2 * i); have := h.getD (2 * i + 1); unfold limb; omega
theorem limbsD_fld {l : List Nat} {i : Nat} (h : i < 16) : D.fld (limbsD l) i = some (U (limb l i)) := by simp [limbsD, D.fld, h]
theorem encN_limb {x : Int} {i : Nat} (h : i < 16) : D.get (encN x) [2, i] = some (U (limb (digs x.natAbs) i)) :=
 bind_eq (z := limbsD (digs x.natAbs)) rfl (bind_eq (limbsD_fld h) rfl)
theorem wrapu_id {n : Int} (h : 0 <= n /\ n < 4294967296) : IntKind.wrap .u32 n = n := by
 obtain ⟨h1, h2⟩ := h
 simp only [IntKind.wrap, IntKind.signed, IntKind.bits]
 first
   | omega
   | (simp; omega)
theorem bu_rem (a : Nat) : D.bin .rem (U a) (.int .u32 65536) = some (U (a % 65536)) := by
 simp only [D.bin, if_true, show ¬ (65536 : Int) = 0 by decide, if_false]
 rw [show (65536 : Int) = ((65536 : Nat) : Int) from rfl, <- Int.ofNat_tmod]
theorem bu_quo {a : Nat} (h : a < 4294967296) : D.bin .quo (U a) (.int .u32 65536) = some (U (a / 65536)) := by
 simp only [D.bin, if_true, show ¬ (65536 : Int) = 0 by decide, if_false]
 rw [show (65536 : Int) = ((65536 : Nat) : Int) from rfl, <- Int.ofNat_tdiv, wrapu_id (by omega)]
theorem bu_add {a b : Nat} (h : a + b < 4294967296) : D.bin .add (U a) (U b) = some (U (a + b)) := by
 simp only [D.bin, if_true]
 rw [wrapu_id (by omega)]; simp
theorem bu_mul {a b : Nat} (h : a * b < 4294967296) : D.bin .mul (U a) (U b) = some (U (a * b)) := by
 simp only [D.bin, if_true]
 rw [show (a : Int) * (b : Int) = ((a * b : Nat) : Int) by simp, wrapu_id (by omega)]
theorem conv_ui {a : Nat} (h : a < 4294967296) : D.conv .i64 (U a) = some (I (a : Int)) := by
 simp only [D.conv]; rw [wrap_id (by simp only [inR]; omega)]
theorem conv_iu {a : Nat} (h : a < 4294967296) : D.conv .u32 (I (a : Int)) = some (U a) := by
 simp only [D.conv]; rw [wrapu_id (by omega)]
theorem range_getD (l : List Nat) (k : Nat) : ((List.range k).map fun i => l.getD i 0) = if k <= l.length then l.take k else l ++ List.replicate (k - l.length) 0 := by
 apply List.ext_getElem?
 intro i
 by_cases h : i < k
 . rw [List.getElem?_map, List.getElem?_range h]
   split
   . simp [h, List.getD, show i < l.length by omega]
   . by_cases h2 : i < l.length
     . simp [List.getElem?_append, h2, List.getD]
     . simp [List.getElem?_append, h2, List.getD, List.getElem?_replicate, show i - l.length < k - l.length by omega]
 . rw [List.getElem?_map, show (List.range k)[i]? = none by simp; omega]
   split
   . simp; omega
   . simp; omega
theorem trim_pad {l : List Nat} (hd : dl l) {k : Nat} (hk : l.length <= k) : trimN ((List.range k).map fun i => l.getD i 0) = digs (dval l) := by
 have e : ((List.range k).map fun i => l.getD i 0) = l ++ List.replicate (k - l.length) 0 := by
   rw [range_getD]
   split
   . have : k = l.length := by omega
     subst this; simp
   . rfl
 rw [e, trimN_eq (hd.append (fun x hx => by rw [List.eq_of_mem_replicate hx]; decide)), dval_zeros]
theorem c77 (n : Nat) {x : Int} (hx : x.natAbs < 65536 ^ 32) : cA (n + 2) 77 [encN x] = some (.sl (enumN (digs x.natAbs))) := by
 rw [u77]
 unfold F77
 have hd := dl_digs x.natAbs
 have hlen := digs_len 32 _ hx
 refine lp_for (fun i s => s = [.sl (enumN ((List.range (2 * i)).map fun i => (digs x.natAbs).getD i 0)), I (i : Int)]) 16 0 (Nat.zero_le _) rfl (fun i hi s hJ => ?_) (fun s hJ => ?_)
 . subst hJ
   left
   refine ⟨_, ?_, rfl⟩
   refine bind_eq b_lss (bind_eq tr_b (iteT (by show (i : Int) < 16; omega) ?_))
   have hlt := limb_lt hd i
   have h1 := hd.getD (2 * i)
   refine bind_eq (z := i) (idx_n hi) (bind_eq (encN_limb hi) (bind_eq (bu_rem _) (bind_eq (conv_ui (by omega)) (bind_eq (z := i) (idx_n hi) (bind_eq (encN_limb hi) (bind_eq (bu_quo hlt) (bind_eq (conv_ui (by omega)) ?_)))))))
   rw [if_pos (by simp only [g0, D.els, enumN_len, List.length_map, List.length_range, List.length_cons, List.length_nil]; omega)]
   refine bind_eq (b_add (inR_nat (i := i) (by omega))) ?_
   have e1 : limb (digs x.natAbs) i % 65536 = (digs x.natAbs).getD (2 * i) 0 := by unfold limb; omega
   have e2 : limb (digs x.natAbs) i / 65536 = (digs x.natAbs).getD (2 * i + 1) 0 := by unfold limb; omega
   rw [e1, e2, show 2 * (i + 1) = 2 * i + 1 + 1 by omega, List.range_succ, List.range_succ]
   simp [g0, D.els, enumN]
 . subst hJ
   refine ⟨(0, [.sl (enumN ((List.range (2 * 16)).map fun i => (digs x.natAbs).getD i 0))]), ?_, ?_⟩
   . exact bind_eq b_lss (bind_eq tr_b (iteF (by decide) rfl))
   . refine bind_eq (c140 n (by simp)) ?_
     rw [trim_pad hd hlen, dval_digs]
end Go.Proofs.YtjjjkojfijpeeaaGreat.Sy
end
