/- Part 9 of the proof of this: HullFacetsMatchSpec answers true at every input, and the input reads afterwards as it read before (HullFacetsMatchSpecSaid). No condition. -/
import Derived.Test.YtjjjkojfijpeeaaGreatFacets06
set_option linter.unusedVariables false
set_option linter.unusedSimpArgs false
set_option linter.unnecessarySimpa false
section
/- The program's functions as plain text, checked by the kernel: part Ce. -/
set_option maxRecDepth 20000
set_option maxHeartbeats 0
set_option linter.unusedVariables false
namespace Go.Proofs.YtjjjkojfijpeeaaGreat.Sy
open Go Go.Proofs
/- skewback/hull.turn -/
def A104 : Ann := (.two .leaf (.two .leaf (.two (.two .leaf (.two (.loop ⟨[(7, .same (.ptr K1 8199 [])), (14, .dv (Ty.int .i64))], [(8199, .keep K1 7)], [13]⟩ [(.ret, ⟨[(6, .dv (Ty.int .i64))], [], []⟩), (.exit 0, ⟨[], [], []⟩)] .leaf) .leaf)) .leaf)))
noncomputable def F104 (lp : Lp) (call : Nat → List D → Option D) (a0 : D) (a1 : D) (a2 : D) : Option D :=
(call 117 [a1, a2]).bind fun r1 =>
(lp (β := Nat × List D) (fun (v2 : List D) =>
(D.bin .lss (v2.getD 0 (.bool false)) (D.int .i64 3)).bind fun x3 =>
(D.truth x3).bind fun b4 =>
 if b4 then ((D.idx (v2.getD 0 (.bool false)) 3).bind fun i5 =>
(D.fld a0 i5).bind fun x6 =>
(D.truth (D.bool (!(D.beq x6 (D.int .i64 0))))).bind fun b7 =>
 if b7 then ((D.idx (v2.getD 0 (.bool false)) 3).bind fun i8 =>
(D.get r1 [i8]).bind fun x9 =>
(call 53 [x9, (D.int .i64 0)]).bind fun r10 =>
(call 53 [x6, (D.int .i64 0)]).bind fun r11 =>
(D.bin .mul r10 r11).bind fun x12 =>
 some (Sum.inr (0, [x12]))) else ((D.bin .add (v2.getD 0 (.bool false)) (D.int .i64 1)).bind fun x13 =>
 some (Sum.inl [x13]))) else (some (Sum.inr (1, [])))) [(D.int .i64 0)]).bind fun r14 =>
 if r14.1 = 0 then (some (r14.2.getD 0 (.bool false))) else (some (D.int .i64 0))
theorem E104 (lp : Lp) (call : Nat → List D → Option D) (a0 : D) (a1 : D) (a2 : D) : evF (envOf lp call (inlP lp call)) Tryz.f104 A104 [K1, K1, K1] (Ty.int .i64) [a0, a1, a2] = F104 lp call a0 a1 a2 := by kernel_rfl
theorem L104 {lp : Lp} (hlp : LpOk lp) : leafOk 104 (fun call xs => match xs with | [a0, a1, a2] => F104 lp call a0 a1 a2 | _ => none) :=
  leaf3 hlp (by kernel_rfl) (by kernel_rfl) (by kernel_rfl) (fun call a0 a1 a2 => E104 lp call a0 a1 a2)
/- skewback/skewbackref06.Less -/
def A105 : Ann := .leaf
noncomputable def F105 (lp : Lp) (call : Nat → List D → Option D) (a0 : D) (a1 : D) : Option D :=
(D.get a0 [0]).bind fun x1 =>
(D.get a1 [0]).bind fun x2 =>
(D.truth (D.bool (!(D.beq x1 x2)))).bind fun b3 =>
 if b3 then ((D.get a0 [0]).bind fun x4 =>
(D.get a1 [0]).bind fun x5 =>
(D.bin .lss x4 x5).bind fun x6 =>
 some x6) else ((D.get a0 [1]).bind fun x7 =>
(D.get a1 [1]).bind fun x8 =>
(D.truth (D.bool (!(D.beq x7 x8)))).bind fun b9 =>
 if b9 then ((D.get a0 [1]).bind fun x10 =>
(D.get a1 [1]).bind fun x11 =>
(D.bin .lss x10 x11).bind fun x12 =>
 some x12) else ((D.get a0 [2]).bind fun x13 =>
(D.get a1 [2]).bind fun x14 =>
(D.bin .lss x13 x14).bind fun x15 =>
 some x15))
theorem E105 (lp : Lp) (call : Nat → List D → Option D) (a0 : D) (a1 : D) : evF (envOf lp call (inlP lp call)) Tryz.f105 A105 [K1, K1] Ty.bool [a0, a1] = F105 lp call a0 a1 := by kernel_rfl
theorem L105 {lp : Lp} (hlp : LpOk lp) : leafOk 105 (fun call xs => match xs with | [a0, a1] => F105 lp call a0 a1 | _ => none) :=
  leaf2 hlp (by kernel_rfl) (by kernel_rfl) (by kernel_rfl) (fun call a0 a1 => E105 lp call a0 a1)
/- skewback/skewbackref12.normal -/
def A106 : Ann := (.two .leaf (.two (.reg [] 8) .leaf))
noncomputable def F106 (lp : Lp) (call : Nat → List D → Option D) (a0 : D) (a1 : D) (a2 : D) : Option D :=
(call 112 [a1, a0]).bind fun r1 =>
(call 112 [a2, a0]).bind fun r2 =>
(call 123 [r1, r2]).bind fun r3 =>
(call 80 [r3]).bind fun r4 =>
(call 155 [r4]).bind fun r5 =>
(D.get r5 [0]).bind fun x6 =>
 some x6
theorem E106 (lp : Lp) (call : Nat → List D → Option D) (a0 : D) (a1 : D) (a2 : D) : evF (envOf lp call (inlP lp call)) Tryz.f106 A106 [K1, K1, K1] K1 [a0, a1, a2] = F106 lp call a0 a1 a2 := by kernel_rfl
theorem L106 {lp : Lp} (hlp : LpOk lp) : leafOk 106 (fun call xs => match xs with | [a0, a1, a2] => F106 lp call a0 a1 a2 | _ => none) :=
  leaf3 hlp (by kernel_rfl) (by kernel_rfl) (by kernel_rfl) (fun call a0 a1 a2 => E106 lp call a0 a1 a2)
/- skewback/skewbackref12.dot -/
def A107 : Ann := .leaf
noncomputable def F107 (lp : Lp) (call : Nat → List D → Option D) (a0 : D) (a1 : D) : Option D :=
(D.get a0 [0]).bind fun x1 =>
(D.get a1 [0]).bind fun x2 =>
(D.bin .mul x1 x2).bind fun x3 =>
(D.get a0 [1]).bind fun x4 =>
(D.get a1 [1]).bind fun x5 =>
(D.bin .mul x4 x5).bind fun x6 =>
(D.bin .add x3 x6).bind fun x7 =>
(D.get a0 [2]).bind fun x8 =>
(D.get a1 [2]).bind fun x9 =>
(D.bin .mul x8 x9).bind fun x10 =>
(D.bin .add x7 x10).bind fun x11 =>
 some x11
theorem E107 (lp : Lp) (call : Nat → List D → Option D) (a0 : D) (a1 : D) : evF (envOf lp call (inlP lp call)) Tryz.f107 A107 [K1, K1] (Ty.int .i64) [a0, a1] = F107 lp call a0 a1 := by kernel_rfl
theorem L107 {lp : Lp} (hlp : LpOk lp) : leafOk 107 (fun call xs => match xs with | [a0, a1] => F107 lp call a0 a1 | _ => none) :=
  leaf2 hlp (by kernel_rfl) (by kernel_rfl) (by kernel_rfl) (fun call a0 a1 => E107 lp call a0 a1)
/- skewback/skewbackref12.known -/
def A108 : Ann := (.two .leaf (.two (.two .leaf (.two (.loop ⟨[(3, .same (.ptr K1 4099 [])), (5, .dv (Ty.int .i64))], [(4099, .keep K1 3)], [0]⟩ [(.ret, ⟨[(4, .dv Ty.bool)], [], []⟩), (.exit 0, ⟨[], [], []⟩)] (.two .leaf (.two (.two (.two (.reg [] 6) .leaf) .leaf) .leaf))) .leaf)) .leaf))
noncomputable def F108 (lp : Lp) (call : Nat → List D → Option D) (a0 : D) (a1 : D) : Option D :=
(lp (β := Nat × List D) (fun (v1 : List D) =>
(D.asSl a0).bind fun l2 =>
(D.bin .lss (v1.getD 0 (.bool false)) (D.int .i64 (l2.length))).bind fun x3 =>
(D.truth x3).bind fun b4 =>
 if b4 then ((D.asSl a0).bind fun l5 =>
(D.idx (v1.getD 0 (.bool false)) (l5.length)).bind fun i6 =>
(l5[i6]?).bind fun x7 =>
(D.fld x7 0).bind fun x8 =>
(D.truth (D.bool (D.beq x8 a1))).bind fun b9 =>
 if b9 then (some (Sum.inr (0, [(D.bool true)]))) else ((D.bin .add (v1.getD 0 (.bool false)) (D.int .i64 1)).bind fun x10 =>
 some (Sum.inl [x10]))) else (some (Sum.inr (1, [])))) [(D.int .i64 0)]).bind fun r11 =>
 if r11.1 = 0 then (some (r11.2.getD 0 (.bool false))) else (some (D.bool false))
theorem E108 (lp : Lp) (call : Nat → List D → Option D) (a0 : D) (a1 : D) : evF (envOf lp call (inlP lp call)) Tryz.f108 A108 [K7, K1] Ty.bool [a0, a1] = F108 lp call a0 a1 := by kernel_rfl
theorem L108 {lp : Lp} (hlp : LpOk lp) : leafOk 108 (fun call xs => match xs with | [a0, a1] => F108 lp call a0 a1 | _ => none) :=
  leaf2 hlp (by kernel_rfl) (by kernel_rfl) (by kernel_rfl) (fun call a0 a1 => E108 lp call a0 a1)
/- skewback/skewbackref12.extreme -/
def A109 : Ann := (.two .leaf (.two .leaf (.two (.two .leaf (.two (.loop ⟨[(4, .same (.ptr K1 4100 [])), (7, .dv Ty.bool), (8, .dv (Ty.int .i64))], [(4100, .keep K1 4)], [0, 2]⟩ [(.ret, ⟨[(6, .dv Ty.bool)], [], []⟩), (.exit 0, ⟨[(7, .dv Ty.bool)], [], []⟩)] (.two .leaf (.two (.two (.two (.reg [] 6) .leaf) .leaf) .leaf))) .leaf)) .leaf)))
noncomputable def F109 (lp : Lp) (call : Nat → List D → Option D) (a0 : D) (a1 : D) (a2 : D) : Option D :=
(lp (β := Nat × List D) (fun (v1 : List D) =>
(D.asSl a0).bind fun l2 =>
(D.bin .lss (v1.getD 1 (.bool false)) (D.int .i64 (l2.length))).bind fun x3 =>
(D.truth x3).bind fun b4 =>
 if b4 then ((D.asSl a0).bind fun l5 =>
(D.idx (v1.getD 1 (.bool false)) (l5.length)).bind fun i6 =>
(l5[i6]?).bind fun x7 =>
(call 107 [a1, x7]).bind fun r8 =>
(D.bin .gtr r8 a2).bind fun x9 =>
(D.truth x9).bind fun b10 =>
 if b10 then (some (Sum.inr (0, [(D.bool false)]))) else ((D.truth (v1.getD 0 (.bool false))).bind fun b11 =>
(if b11 then (some true) else ((D.bin .lss r8 a2).bind fun x12 =>
 D.truth x12)).bind fun b13 =>
(D.bin .add (v1.getD 1 (.bool false)) (D.int .i64 1)).bind fun x14 =>
 some (Sum.inl [(D.bool b13), x14]))) else (some (Sum.inr (1, [(v1.getD 0 (.bool false))])))) [(D.bool false), (D.int .i64 0)]).bind fun r15 =>
 if r15.1 = 0 then (some (r15.2.getD 0 (.bool false))) else (some (r15.2.getD 0 (.bool false)))
theorem E109 (lp : Lp) (call : Nat → List D → Option D) (a0 : D) (a1 : D) (a2 : D) : evF (envOf lp call (inlP lp call)) Tryz.f109 A109 [K2, K1, Ty.int .i64] Ty.bool [a0, a1, a2] = F109 lp call a0 a1 a2 := by kernel_rfl
theorem L109 {lp : Lp} (hlp : LpOk lp) : leafOk 109 (fun call xs => match xs with | [a0, a1, a2] => F109 lp call a0 a1 a2 | _ => none) :=
  leaf3 hlp (by kernel_rfl) (by kernel_rfl) (by kernel_rfl) (fun call a0 a1 a2 => E109 lp call a0 a1 a2)
/- skewback/skewbackref12.insert -/
def A110 : Ann := (.two .leaf (.two .leaf (.two .leaf (.two (.two .leaf (.two (.loop ⟨[(3, .same (.ptr K6 4099 [])), (5, .ow K6), (6, .dv Ty.bool), (7, .dv (Ty.int .i64))], [(4099, .keep K6 3)], [0]⟩ [(.exit 0, ⟨[(3, .same (.ptr K6 4099 [])), (5, .ow K6), (6, .dv Ty.bool)], [(4099, .keep K6 3)], []⟩)] (.two .leaf (.two (.two (.two (.reg [] 8) (.cut [(.normal, ⟨[(3, .same (.ptr K6 4099 [])), (5, .ow K6), (6, .dv Ty.bool)], [(4099, .keep K6 3)], [0, 7]⟩)] [0, 7] [4099] .leaf .leaf)) .leaf) .leaf))) .leaf)) (.cut [(.normal, ⟨[(5, .ow K6)], [], []⟩)] [] [] .leaf .leaf)))))
noncomputable def F110 (lp : Lp) (call : Nat → List D → Option D) (a0 : D) (a1 : D) : Option D :=
(lp (β := Nat × List D) (fun (v1 : List D) =>
(D.asSl a0).bind fun l2 =>
(D.bin .lss (v1.getD 2 (.bool false)) (D.int .i64 (l2.length))).bind fun x3 =>
(D.truth x3).bind fun b4 =>
 if b4 then ((D.get a1 [0]).bind fun x5 =>
(D.asSl a0).bind fun l6 =>
(D.idx (v1.getD 2 (.bool false)) (l6.length)).bind fun i7 =>
(l6[i7]?).bind fun x8 =>
(D.fld x8 0).bind fun x9 =>
(call 105 [x5, x9]).bind fun r10 =>
((D.un .not (v1.getD 1 (.bool false))).bind fun x11 =>
(D.truth x11).bind fun b12 =>
(if b12 then (D.truth r10) else (some false)).bind fun b13 =>
(D.truth (D.bool b13)).bind fun b14 =>
 if b14 then (if List.length ((v1.getD 0 (.bool false)).els) + List.length [a1] ≤ 1073741824 then (some (0, [(D.sl (((v1.getD 0 (.bool false)).els) ++ [a1])), (D.bool true)])) else none) else (some (0, [(D.sl ((v1.getD 0 (.bool false)).els)), (v1.getD 1 (.bool false))]))).bind fun (r15 : Nat × List D) =>
(D.asSl a0).bind fun l16 =>
(D.idx (v1.getD 2 (.bool false)) (l16.length)).bind fun i17 =>
(l16[i17]?).bind fun x18 =>
 if List.length ((r15.2.getD 0 (.bool false)).els) + List.length [x18] ≤ 1073741824 then ((D.bin .add (v1.getD 2 (.bool false)) (D.int .i64 1)).bind fun x19 =>
 some (Sum.inl [(D.sl (((r15.2.getD 0 (.bool false)).els) ++ [x18])), (r15.2.getD 1 (.bool false)), x19])) else none) else (some (Sum.inr (0, [(D.sl ((v1.getD 0 (.bool false)).els)), (v1.getD 1 (.bool false))])))) [(D.sl []), (D.bool false), (D.int .i64 0)]).bind fun r20 =>
((D.un .not (r20.2.getD 1 (.bool false))).bind fun x21 =>
(D.truth x21).bind fun b22 =>
 if b22 then (if List.length ((r20.2.getD 0 (.bool false)).els) + List.length [a1] ≤ 1073741824 then (some (0, [(D.sl (((r20.2.getD 0 (.bool false)).els) ++ [a1]))])) else none) else (some (0, [(D.sl ((r20.2.getD 0 (.bool false)).els))]))).bind fun (r23 : Nat × List D) =>
 some (D.sl ((r23.2.getD 0 (.bool false)).els))
theorem E110 (lp : Lp) (call : Nat → List D → Option D) (a0 : D) (a1 : D) : evF (envOf lp call (inlP lp call)) Tryz.f110 A110 [K7, K6] K7 [a0, a1] = F110 lp call a0 a1 := by kernel_rfl
theorem L110 {lp : Lp} (hlp : LpOk lp) : leafOk 110 (fun call xs => match xs with | [a0, a1] => F110 lp call a0 a1 | _ => none) :=
  leaf2 hlp (by kernel_rfl) (by kernel_rfl) (by kernel_rfl) (fun call a0 a1 => E110 lp call a0 a1)
/- skewback/skewbackref12.polygon -/
def A111 : Ann := (.two .leaf (.two .leaf (.two .leaf (.two (.two .leaf (.two (.loop ⟨[(4, .same (.ptr K1 4100 [])), (7, .ow (Ty.int .i64)), (8, .dv (Ty.int .i64)), (9, .dv (Ty.int .i64))], [(4100, .keep K1 4)], [0, 2]⟩ [(.exit 0, ⟨[(4, .same (.ptr K1 4100 [])), (7, .ow (Ty.int .i64)), (8, .dv (Ty.int .i64))], [(4100, .keep K1 4)], [0, 2]⟩)] (.two .leaf (.cut [(.normal, ⟨[(4, .same (.ptr K1 4100 [])), (7, .ow (Ty.int .i64)), (8, .dv (Ty.int .i64))], [(4100, .keep K1 4)], [0, 2, 9]⟩)] [0, 2, 9] [4100] (.two (.two (.reg [] 7) .leaf) .leaf) .leaf))) .leaf)) (.two .leaf (.two (.two (.loop ⟨[(4, .same (.ptr K1 4100 [])), (7, .ow (Ty.int .i64)), (8, .dv (Ty.int .i64))], [(4100, .keep K1 4)], [0, 2, 10]⟩ [(.exit 2, ⟨[(7, .ow (Ty.int .i64))], [], []⟩)] (.two .leaf (.two (.two .leaf (.two .leaf (.two (.two .leaf (.two (.loop ⟨[(4, .same (.ptr K1 4100 [])), (7, .ow (Ty.int .i64)), (11, .dv (Ty.int .i64)), (12, .dv (Ty.int .i64))], [(4100, .keep K1 4)], [0, 2, 8, 10]⟩ [(.exit 4, ⟨[(4, .same (.ptr K1 4100 [])), (7, .ow (Ty.int .i64)), (11, .dv (Ty.int .i64))], [(4100, .keep K1 4)], [0, 2, 10]⟩)] (.two .leaf (.cut [(.normal, ⟨[(4, .same (.ptr K1 4100 [])), (7, .ow (Ty.int .i64)), (11, .dv (Ty.int .i64))], [(4100, .keep K1 4)], [0, 2, 8, 10, 12]⟩)] [0, 2, 8, 10, 12] [4100] (.two (.two .leaf (.two (.two (.reg [] 12) .leaf) .leaf)) .leaf) .leaf))) .leaf)) .leaf))) .leaf))) .leaf) .leaf))))))
noncomputable def F111 (lp : Lp) (call : Nat → List D → Option D) (a0 : D) (a1 : D) (a2 : D) : Option D :=
(lp (β := Nat × List D) (fun (v1 : List D) =>
(D.asSl a0).bind fun l2 =>
(D.bin .lss (v1.getD 2 (.bool false)) (D.int .i64 (l2.length))).bind fun x3 =>
(D.truth x3).bind fun b4 =>
(if b4 then ((D.bin .lss (v1.getD 1 (.bool false)) (D.int .i64 0)).bind fun x5 =>
 D.truth x5) else (some false)).bind fun b6 =>
(D.truth (D.bool b6)).bind fun b7 =>
 if b7 then (((D.asSl a0).bind fun l8 =>
(D.idx (v1.getD 2 (.bool false)) (l8.length)).bind fun i9 =>
(l8[i9]?).bind fun x10 =>
(call 107 [a1, x10]).bind fun r11 =>
(D.truth (D.bool (D.beq r11 a2))).bind fun b12 =>
 if b12 then (some (0, [(D.sl ((v1.getD 0 (.bool false)).els)), (v1.getD 2 (.bool false))])) else (some (0, [(D.sl ((v1.getD 0 (.bool false)).els)), (v1.getD 1 (.bool false))]))).bind fun (r13 : Nat × List D) =>
(D.bin .add (v1.getD 2 (.bool false)) (D.int .i64 1)).bind fun x14 =>
 some (Sum.inl [(D.sl ((r13.2.getD 0 (.bool false)).els)), (r13.2.getD 1 (.bool false)), x14])) else (some (Sum.inr (0, [(D.sl ((v1.getD 0 (.bool false)).els)), (v1.getD 1 (.bool false))])))) [(D.sl []), (D.int .i64 (-1)), (D.int .i64 0)]).bind fun r15 =>
(lp (β := Nat × List D) (fun (v16 : List D) =>
(D.asSl a0).bind fun l17 =>
(D.bin .leq (D.int .i64 (List.length ((v16.getD 0 (.bool false)).els))) (D.int .i64 (l17.length))).bind fun x18 =>
(D.truth x18).bind fun b19 =>
 if b19 then (if List.length ((v16.getD 0 (.bool false)).els) + List.length [(v16.getD 1 (.bool false))] ≤ 1073741824 then ((lp (β := Nat × List D) (fun (v20 : List D) =>
(D.asSl a0).bind fun l21 =>
(D.bin .lss (v20.getD 2 (.bool false)) (D.int .i64 (l21.length))).bind fun x22 =>
(D.truth x22).bind fun b23 =>
(if b23 then ((D.bin .lss (v20.getD 1 (.bool false)) (D.int .i64 0)).bind fun x24 =>
 D.truth x24) else (some false)).bind fun b25 =>
(D.truth (D.bool b25)).bind fun b26 =>
 if b26 then (((D.truth (D.bool (!(D.beq (v20.getD 2 (.bool false)) (v16.getD 1 (.bool false)))))).bind fun b27 =>
(if b27 then ((D.asSl a0).bind fun l28 =>
(D.idx (v20.getD 2 (.bool false)) (l28.length)).bind fun i29 =>
(l28[i29]?).bind fun x30 =>
(call 107 [a1, x30]).bind fun r31 =>
 D.truth (D.bool (D.beq r31 a2))) else (some false)).bind fun b32 =>
(D.truth (D.bool b32)).bind fun b33 =>
 if b33 then ((D.asSl a0).bind fun l34 =>
(D.idx (v16.getD 1 (.bool false)) (l34.length)).bind fun i35 =>
(l34[i35]?).bind fun x36 =>
(D.asSl a0).bind fun l37 =>
(D.idx (v20.getD 2 (.bool false)) (l37.length)).bind fun i38 =>
(l37[i38]?).bind fun x39 =>
(call 156 [a0, a1, a2, x36, x39]).bind fun r40 =>
(D.truth r40).bind fun b41 =>
 if b41 then (some (0, [(D.sl ((v20.getD 0 (.bool false)).els)), (v20.getD 2 (.bool false))])) else (some (0, [(D.sl ((v20.getD 0 (.bool false)).els)), (v20.getD 1 (.bool false))]))) else (some (0, [(D.sl ((v20.getD 0 (.bool false)).els)), (v20.getD 1 (.bool false))]))).bind fun (r42 : Nat × List D) =>
(D.bin .add (v20.getD 2 (.bool false)) (D.int .i64 1)).bind fun x43 =>
 some (Sum.inl [(D.sl ((r42.2.getD 0 (.bool false)).els)), (r42.2.getD 1 (.bool false)), x43])) else (some (Sum.inr (0, [(D.sl ((v20.getD 0 (.bool false)).els)), (v20.getD 1 (.bool false))])))) [(D.sl (((v16.getD 0 (.bool false)).els) ++ [(v16.getD 1 (.bool false))])), (D.int .i64 (-1)), (D.int .i64 0)]).bind fun r44 =>
(D.truth (D.bool (D.beq (r44.2.getD 1 (.bool false)) (r15.2.getD 1 (.bool false))))).bind fun b45 =>
(if b45 then (some true) else ((D.bin .lss (r44.2.getD 1 (.bool false)) (D.int .i64 0)).bind fun x46 =>
 D.truth x46)).bind fun b47 =>
(D.truth (D.bool b47)).bind fun b48 =>
 if b48 then (some (Sum.inr (0, [(D.sl ((r44.2.getD 0 (.bool false)).els))]))) else (some (Sum.inl [(D.sl ((r44.2.getD 0 (.bool false)).els)), (r44.2.getD 1 (.bool false))]))) else none) else (some (Sum.inr (0, [(D.sl ((v16.getD 0 (.bool false)).els))])))) [(D.sl ((r15.2.getD 0 (.bool false)).els)), (r15.2.getD 1 (.bool false))]).bind fun r49 =>
 some (D.sl ((r49.2.getD 0 (.bool false)).els))
theorem E111 (lp : Lp) (call : Nat → List D → Option D) (a0 : D) (a1 : D) (a2 : D) : evF (envOf lp call (inlP lp call)) Tryz.f111 A111 [K2, K1, Ty.int .i64] K5 [a0, a1, a2] = F111 lp call a0 a1 a2 := by kernel_rfl
theorem L111 {lp : Lp} (hlp : LpOk lp) : leafOk 111 (fun call xs => match xs with | [a0, a1, a2] => F111 lp call a0 a1 a2 | _ => none) :=
  leaf3 hlp (by kernel_rfl) (by kernel_rfl) (by kernel_rfl) (fun call a0 a1 a2 => E111 lp call a0 a1 a2)
/- skewback/skewbackref06.Sub -/
def A112 : Ann := .leaf
noncomputable def F112 (lp : Lp) (call : Nat → List D → Option D) (a0 : D) (a1 : D) : Option D :=
(D.get a0 [0]).bind fun x1 =>
(D.get a1 [0]).bind fun x2 =>
(D.bin .sub x1 x2).bind fun x3 =>
(D.get a0 [1]).bind fun x4 =>
(D.get a1 [1]).bind fun x5 =>
(D.bin .sub x4 x5).bind fun x6 =>
(D.get a0 [2]).bind fun x7 =>
(D.get a1 [2]).bind fun x8 =>
(D.bin .sub x7 x8).bind fun x9 =>
 some (D.st [x3, x6, x9])
theorem E112 (lp : Lp) (call : Nat → List D → Option D) (a0 : D) (a1 : D) : evF (envOf lp call (inlP lp call)) Tryz.f112 A112 [K1, K1] K1 [a0, a1] = F112 lp call a0 a1 := by kernel_rfl
theorem L112 {lp : Lp} (hlp : LpOk lp) : leafOk 112 (fun call xs => match xs with | [a0, a1] => F112 lp call a0 a1 | _ => none) :=
  leaf2 hlp (by kernel_rfl) (by kernel_rfl) (by kernel_rfl) (fun call a0 a1 => E112 lp call a0 a1)
/- cmp.isNaN[int] -/
def A115 : Ann := .leaf
noncomputable def F115 (lp : Lp) (call : Nat → List D → Option D) (a0 : D) : Option D :=
 some (D.bool (!(D.beq a0 a0)))
theorem E115 (lp : Lp) (call : Nat → List D → Option D) (a0 : D) : evF (envOf lp call (inlP lp call)) Tryz.f115 A115 [Ty.int .i64] Ty.bool [a0] = F115 lp call a0 := by kernel_rfl
theorem L115 {lp : Lp} (hlp : LpOk lp) : leafOk 115 (fun call xs => match xs with | [a0] => F115 lp call a0 | _ => none) :=
  leaf1 hlp (by kernel_rfl) (by kernel_rfl) (by kernel_rfl) (fun call a0 => E115 lp call a0)
/- skewback/whole.signed -/
def A116 : Ann := (.two .leaf (.two (.reg [] 8) .leaf))
noncomputable def F116 (lp : Lp) (call : Nat → List D → Option D) (a0 : D) (a1 : D) : Option D :=
(D.truth a0).bind fun b1 =>
(if b1 then (D.truth (D.bool (!(D.beq a1 (D.st (D.putParts (List.replicate 16 (D.int .u32 0)) [])))))) else (some false)).bind fun b2 =>
 some (D.st [(D.bool false), (D.bool b2), a1])
theorem E116 (lp : Lp) (call : Nat → List D → Option D) (a0 : D) (a1 : D) : evF (envOf lp call (inlP lp call)) Tryz.f116 A116 [Ty.bool, K10] K11 [a0, a1] = F116 lp call a0 a1 := by kernel_rfl
theorem L116 {lp : Lp} (hlp : LpOk lp) : leafOk 116 (fun call xs => match xs with | [a0, a1] => F116 lp call a0 a1 | _ => none) :=
  leaf2 hlp (by kernel_rfl) (by kernel_rfl) (by kernel_rfl) (fun call a0 a1 => E116 lp call a0 a1)
/- skewback/hull.cross -/
def A117 : Ann := .leaf
noncomputable def F117 (lp : Lp) (call : Nat → List D → Option D) (a0 : D) (a1 : D) : Option D :=
(D.get a0 [1]).bind fun x1 =>
(D.get a1 [2]).bind fun x2 =>
(D.bin .mul x1 x2).bind fun x3 =>
(D.get a0 [2]).bind fun x4 =>
(D.get a1 [1]).bind fun x5 =>
(D.bin .mul x4 x5).bind fun x6 =>
(D.bin .sub x3 x6).bind fun x7 =>
(D.get a0 [2]).bind fun x8 =>
(D.get a1 [0]).bind fun x9 =>
(D.bin .mul x8 x9).bind fun x10 =>
(D.get a0 [0]).bind fun x11 =>
(D.get a1 [2]).bind fun x12 =>
(D.bin .mul x11 x12).bind fun x13 =>
(D.bin .sub x10 x13).bind fun x14 =>
(D.get a0 [0]).bind fun x15 =>
(D.get a1 [1]).bind fun x16 =>
(D.bin .mul x15 x16).bind fun x17 =>
(D.get a0 [1]).bind fun x18 =>
(D.get a1 [0]).bind fun x19 =>
(D.bin .mul x18 x19).bind fun x20 =>
(D.bin .sub x17 x20).bind fun x21 =>
 some (D.st [x7, x14, x21])
theorem E117 (lp : Lp) (call : Nat → List D → Option D) (a0 : D) (a1 : D) : evF (envOf lp call (inlP lp call)) Tryz.f117 A117 [K1, K1] K1 [a0, a1] = F117 lp call a0 a1 := by kernel_rfl
theorem L117 {lp : Lp} (hlp : LpOk lp) : leafOk 117 (fun call xs => match xs with | [a0, a1] => F117 lp call a0 a1 | _ => none) :=
  leaf2 hlp (by kernel_rfl) (by kernel_rfl) (by kernel_rfl) (fun call a0 a1 => E117 lp call a0 a1)
/- skewback/whole.good -/
def A118 : Ann := (.two .leaf (.two (.two .leaf (.two (.loop ⟨[(7, .dv (Ty.int .i64))], [], [5, 6]⟩ [(.ret, ⟨[(2, .dv Ty.bool)], [], []⟩), (.exit 0, ⟨[], [], []⟩)] .leaf) .leaf)) .leaf))
noncomputable def F118 (lp : Lp) (call : Nat → List D → Option D) (a0 : D) : Option D :=
(D.asSl a0).bind fun l1 =>
(lp (β := Nat × List D) (fun (v2 : List D) =>
(D.bin .lss (v2.getD 0 (.bool false)) (D.int .i64 (l1.length))).bind fun x3 =>
(D.truth x3).bind fun b4 =>
 if b4 then ((D.asSl a0).bind fun l5 =>
(D.idx (v2.getD 0 (.bool false)) (l5.length)).bind fun i6 =>
(l5[i6]?).bind fun x7 =>
(D.get x7 [0]).bind fun x8 =>
(D.truth x8).bind fun b9 =>
(if b9 then (some true) else ((call 167 [x7]).bind fun r10 =>
(D.un .not r10).bind fun x11 =>
 D.truth x11)).bind fun b12 =>
(D.truth (D.bool b12)).bind fun b13 =>
 if b13 then (some (Sum.inr (0, [(D.bool false)]))) else ((D.bin .add (v2.getD 0 (.bool false)) (D.int .i64 1)).bind fun x14 =>
 some (Sum.inl [x14]))) else (some (Sum.inr (1, [])))) [(D.int .i64 0)]).bind fun r15 =>
 if r15.1 = 0 then (some (r15.2.getD 0 (.bool false))) else (some (D.bool true))
theorem E118 (lp : Lp) (call : Nat → List D → Option D) (a0 : D) : evF (envOf lp call (inlP lp call)) Tryz.f118 A118 [K27] Ty.bool [a0] = F118 lp call a0 := by kernel_rfl
theorem L118 {lp : Lp} (hlp : LpOk lp) : leafOk 118 (fun call xs => match xs with | [a0] => F118 lp call a0 | _ => none) :=
  leaf1 hlp (by kernel_rfl) (by kernel_rfl) (by kernel_rfl) (fun call a0 => E118 lp call a0)
/- skewback/whole.Bad -/
def A119 : Ann := .leaf
noncomputable def F119 (lp : Lp) (call : Nat → List D → Option D)  : Option D :=
 some (D.st [(D.bool true), (D.bool false), (zeroD K10)])
theorem E119 (lp : Lp) (call : Nat → List D → Option D)  : evF (envOf lp call (inlP lp call)) Tryz.f119 A119 [] K11 [] = F119 lp call  := by kernel_rfl
theorem L119 {lp : Lp} (hlp : LpOk lp) : leafOk 119 (fun call xs => match xs with | [] => F119 lp call  | _ => none) :=
  leaf0 hlp (by kernel_rfl) (by kernel_rfl) (by kernel_rfl) (fun call  => E119 lp call )
/- skewback/whole.plus -/
def A120 : Ann := (.two .leaf (.two .leaf (.two .leaf (.two (.two .leaf (.two (.loop ⟨[(2, .same (.ptr K10 4098 [])), (3, .same (.ptr K10 4099 [])), (4, .same (.ptr K10 4100 [])), (6, .same (.ptr K10 8198 [])), (7, .dv (Ty.int .u64)), (9, .dv (Ty.int .i64))], [(4098, .keep K10 2), (4099, .keep K10 3), (4100, .keep K10 4), (8198, .one K10 (.dv K10))], []⟩ [(.exit 0, ⟨[(4, .same (.ptr K10 4100 [])), (6, .same (.ptr K10 8198 [])), (7, .dv (Ty.int .u64))], [(4100, .keep K10 4), (8198, .one K10 (.dv K10))], []⟩)] (.two .leaf (.two .leaf (.two (.two (.two .leaf (.two (.reg [] 11) .leaf)) .leaf) .leaf)))) .leaf)) .leaf))))
noncomputable def F120 (lp : Lp) (call : Nat → List D → Option D) (a0 : D) (a1 : D) : Option D :=
(lp (β := Nat × List D) (fun (v1 : List D) =>
(D.bin .lss (v1.getD 1 (.bool false)) (D.int .i64 16)).bind fun x2 =>
(D.truth x2).bind fun b3 =>
 if b3 then ((D.idx (v1.getD 1 (.bool false)) 16).bind fun i4 =>
(D.get a0 [i4]).bind fun x5 =>
(D.conv .u64 x5).bind fun x6 =>
(D.idx (v1.getD 1 (.bool false)) 16).bind fun i7 =>
(D.get a1 [i7]).bind fun x8 =>
(D.conv .u64 x8).bind fun x9 =>
(D.bin .add x6 x9).bind fun x10 =>
(D.bin .add (v1.getD 0 (.bool false)) x10).bind fun x11 =>
(D.conv .u32 x11).bind fun x12 =>
(D.idx (v1.getD 1 (.bool false)) 16).bind fun i13 =>
(D.set (v1.getD 2 (.bool false)) [i13] x12).bind fun x14 =>
(D.bin .shr x11 (D.int .u64 32)).bind fun x15 =>
(D.bin .add (v1.getD 1 (.bool false)) (D.int .i64 1)).bind fun x16 =>
 some (Sum.inl [x15, x16, x14])) else (some (Sum.inr (0, [(v1.getD 0 (.bool false)), (v1.getD 2 (.bool false))])))) [(D.int .u64 0), (D.int .i64 0), (zeroD K10)]).bind fun r17 =>
 some (D.tup [(r17.2.getD 1 (.bool false)), (D.bool (D.beq (r17.2.getD 0 (.bool false)) (D.int .u64 0)))])
theorem E120 (lp : Lp) (call : Nat → List D → Option D) (a0 : D) (a1 : D) : evF (envOf lp call (inlP lp call)) Tryz.f120 A120 [K10, K10] K31 [a0, a1] = F120 lp call a0 a1 := by kernel_rfl
theorem L120 {lp : Lp} (hlp : LpOk lp) : leafOk 120 (fun call xs => match xs with | [a0, a1] => F120 lp call a0 a1 | _ => none) :=
  leaf2 hlp (by kernel_rfl) (by kernel_rfl) (by kernel_rfl) (fun call a0 a1 => E120 lp call a0 a1)
/- skewback/whole.order -/
def A121 : Ann := (.two .leaf (.two (.two .leaf (.two (.loop ⟨[(2, .same (.ptr K10 4098 [])), (3, .same (.ptr K10 4099 [])), (5, .dv (Ty.int .i64))], [(4098, .keep K10 2), (4099, .keep K10 3)], []⟩ [(.ret, ⟨[(4, .dv (Ty.int .i64))], [], []⟩), (.exit 0, ⟨[], [], []⟩)] (.two .leaf (.two (.two (.two (.reg [] 6) (.two (.two (.reg [] 7) .leaf) .leaf)) .leaf) .leaf))) .leaf)) .leaf))
noncomputable def F121 (lp : Lp) (call : Nat → List D → Option D) (a0 : D) (a1 : D) : Option D :=
(lp (β := Nat × List D) (fun (v1 : List D) =>
(D.bin .geq (v1.getD 0 (.bool false)) (D.int .i64 0)).bind fun x2 =>
(D.truth x2).bind fun b3 =>
 if b3 then ((D.idx (v1.getD 0 (.bool false)) 16).bind fun i4 =>
(D.get a0 [i4]).bind fun x5 =>
(D.idx (v1.getD 0 (.bool false)) 16).bind fun i6 =>
(D.get a1 [i6]).bind fun x7 =>
(D.truth (D.bool (!(D.beq x5 x7)))).bind fun b8 =>
 if b8 then ((D.idx (v1.getD 0 (.bool false)) 16).bind fun i9 =>
(D.get a0 [i9]).bind fun x10 =>
(D.idx (v1.getD 0 (.bool false)) 16).bind fun i11 =>
(D.get a1 [i11]).bind fun x12 =>
(call 168 [x10, x12]).bind fun r13 =>
 some (Sum.inr (0, [r13]))) else ((D.bin .sub (v1.getD 0 (.bool false)) (D.int .i64 1)).bind fun x14 =>
 some (Sum.inl [x14]))) else (some (Sum.inr (1, [])))) [(D.int .i64 15)]).bind fun r15 =>
 if r15.1 = 0 then (some (r15.2.getD 0 (.bool false))) else (some (D.int .i64 0))
theorem E121 (lp : Lp) (call : Nat → List D → Option D) (a0 : D) (a1 : D) : evF (envOf lp call (inlP lp call)) Tryz.f121 A121 [K10, K10] (Ty.int .i64) [a0, a1] = F121 lp call a0 a1 := by kernel_rfl
theorem L121 {lp : Lp} (hlp : LpOk lp) : leafOk 121 (fun call xs => match xs with | [a0, a1] => F121 lp call a0 a1 | _ => none) :=
  leaf2 hlp (by kernel_rfl) (by kernel_rfl) (by kernel_rfl) (fun call a0 a1 => E121 lp call a0 a1)
/- skewback/whole.minus -/
def A122 : Ann := (.two .leaf (.two .leaf (.two .leaf (.two (.two .leaf (.two (.loop ⟨[(2, .same (.ptr K10 4098 [])), (3, .same (.ptr K10 4099 [])), (4, .same (.ptr K10 4100 [])), (5, .same (.ptr K10 8197 [])), (6, .dv (Ty.int .u64)), (9, .dv (Ty.int .i64))], [(4098, .keep K10 2), (4099, .keep K10 3), (4100, .keep K10 4), (8197, .one K10 (.dv K10))], []⟩ [(.exit 0, ⟨[(4, .same (.ptr K10 4100 [])), (5, .same (.ptr K10 8197 []))], [(4100, .keep K10 4), (8197, .one K10 (.dv K10))], []⟩)] (.two .leaf (.two .leaf (.two (.two (.two .leaf (.two (.reg [] 11) .leaf)) .leaf) .leaf)))) .leaf)) .leaf))))
noncomputable def F122 (lp : Lp) (call : Nat → List D → Option D) (a0 : D) (a1 : D) : Option D :=
(lp (β := Nat × List D) (fun (v1 : List D) =>
(D.bin .lss (v1.getD 1 (.bool false)) (D.int .i64 16)).bind fun x2 =>
(D.truth x2).bind fun b3 =>
 if b3 then ((D.idx (v1.getD 1 (.bool false)) 16).bind fun i4 =>
(D.get a0 [i4]).bind fun x5 =>
(D.conv .u64 x5).bind fun x6 =>
(D.idx (v1.getD 1 (.bool false)) 16).bind fun i7 =>
(D.get a1 [i7]).bind fun x8 =>
(D.conv .u64 x8).bind fun x9 =>
(D.bin .sub x6 x9).bind fun x10 =>
(D.bin .sub x10 (v1.getD 0 (.bool false))).bind fun x11 =>
(D.conv .u32 x11).bind fun x12 =>
(D.idx (v1.getD 1 (.bool false)) 16).bind fun i13 =>
(D.set (v1.getD 2 (.bool false)) [i13] x12).bind fun x14 =>
(D.bin .shr x11 (D.int .u64 63)).bind fun x15 =>
(D.bin .add (v1.getD 1 (.bool false)) (D.int .i64 1)).bind fun x16 =>
 some (Sum.inl [x15, x16, x14])) else (some (Sum.inr (0, [(v1.getD 2 (.bool false))])))) [(D.int .u64 0), (D.int .i64 0), (zeroD K10)]).bind fun r17 =>
 some (r17.2.getD 0 (.bool false))
theorem E122 (lp : Lp) (call : Nat → List D → Option D) (a0 : D) (a1 : D) : evF (envOf lp call (inlP lp call)) Tryz.f122 A122 [K10, K10] K10 [a0, a1] = F122 lp call a0 a1 := by kernel_rfl
theorem L122 {lp : Lp} (hlp : LpOk lp) : leafOk 122 (fun call xs => match xs with | [a0, a1] => F122 lp call a0 a1 | _ => none) :=
  leaf2 hlp (by kernel_rfl) (by kernel_rfl) (by kernel_rfl) (fun call a0 a1 => E122 lp call a0 a1)
/- skewback/skewbackref12.cross -/
def A123 : Ann := .leaf
noncomputable def F123 (lp : Lp) (call : Nat → List D → Option D) (a0 : D) (a1 : D) : Option D :=
(D.get a0 [1]).bind fun x1 =>
(D.get a1 [2]).bind fun x2 =>
(D.bin .mul x1 x2).bind fun x3 =>
(D.get a0 [2]).bind fun x4 =>
(D.get a1 [1]).bind fun x5 =>
(D.bin .mul x4 x5).bind fun x6 =>
(D.bin .sub x3 x6).bind fun x7 =>
(D.get a0 [2]).bind fun x8 =>
(D.get a1 [0]).bind fun x9 =>
(D.bin .mul x8 x9).bind fun x10 =>
(D.get a0 [0]).bind fun x11 =>
(D.get a1 [2]).bind fun x12 =>
(D.bin .mul x11 x12).bind fun x13 =>
(D.bin .sub x10 x13).bind fun x14 =>
(D.get a0 [0]).bind fun x15 =>
(D.get a1 [1]).bind fun x16 =>
(D.bin .mul x15 x16).bind fun x17 =>
(D.get a0 [1]).bind fun x18 =>
(D.get a1 [0]).bind fun x19 =>
(D.bin .mul x18 x19).bind fun x20 =>
(D.bin .sub x17 x20).bind fun x21 =>
 some (D.st [x7, x14, x21])
theorem E123 (lp : Lp) (call : Nat → List D → Option D) (a0 : D) (a1 : D) : evF (envOf lp call (inlP lp call)) Tryz.f123 A123 [K1, K1] K1 [a0, a1] = F123 lp call a0 a1 := by kernel_rfl
theorem L123 {lp : Lp} (hlp : LpOk lp) : leafOk 123 (fun call xs => match xs with | [a0, a1] => F123 lp call a0 a1 | _ => none) :=
  leaf2 hlp (by kernel_rfl) (by kernel_rfl) (by kernel_rfl) (fun call a0 a1 => E123 lp call a0 a1)
/- skewback/skewbackref03.word -/
def A124 : Ann := (.two .leaf (.two .leaf (.two .leaf (.two (.two .leaf (.two (.loop ⟨[(1, .same (.ptr K11 4097 [])), (5, .dv (Ty.int .i64))], [(4097, .keep K11 1)], []⟩ [(.ret, ⟨[(2, .dv (Ty.int .i64)), (3, .dv Ty.bool)], [], []⟩), (.exit 0, ⟨[(1, .same (.ptr K11 4097 []))], [(4097, .keep K11 1)], []⟩)] .leaf) .leaf)) .leaf))))
noncomputable def F124 (lp : Lp) (call : Nat → List D → Option D) (a0 : D) : Option D :=
(call 76 [a0]).bind fun r1 =>
(D.un .not r1).bind fun x2 =>
(D.truth x2).bind fun b3 =>
(if b3 then (some true) else ((D.get a0 [2, 1]).bind fun x4 =>
(D.bin .geq x4 (D.int .u32 1073741824)).bind fun x5 =>
 D.truth x5)).bind fun b6 =>
(D.truth (D.bool b6)).bind fun b7 =>
 if b7 then (some (D.tup [(D.int .i64 0), (D.bool false)])) else ((lp (β := Nat × List D) (fun (v8 : List D) =>
(D.bin .lss (v8.getD 0 (.bool false)) (D.int .i64 16)).bind fun x9 =>
(D.truth x9).bind fun b10 =>
 if b10 then ((D.idx (v8.getD 0 (.bool false)) 16).bind fun i11 =>
(D.get a0 [2, i11]).bind fun x12 =>
(D.truth (D.bool (!(D.beq x12 (D.int .u32 0))))).bind fun b13 =>
 if b13 then (some (Sum.inr (0, [(D.int .i64 0), (D.bool false)]))) else ((D.bin .add (v8.getD 0 (.bool false)) (D.int .i64 1)).bind fun x14 =>
 some (Sum.inl [x14]))) else (some (Sum.inr (1, [])))) [(D.int .i64 2)]).bind fun r15 =>
 if r15.1 = 0 then (some (D.tup [(r15.2.getD 0 (.bool false)), (r15.2.getD 1 (.bool false))])) else ((D.get a0 [2, 1]).bind fun x16 =>
(D.conv .i64 x16).bind fun x17 =>
(D.bin .mul x17 (D.int .i64 4294967296)).bind fun x18 =>
(D.get a0 [2, 0]).bind fun x19 =>
(D.conv .i64 x19).bind fun x20 =>
(D.bin .add x18 x20).bind fun x21 =>
(D.get a0 [1]).bind fun x22 =>
(D.truth x22).bind fun b23 =>
 if b23 then ((D.un .neg x21).bind fun x24 =>
 some (D.tup [x24, (D.bool true)])) else (some (D.tup [x21, (D.bool true)]))))
theorem E124 (lp : Lp) (call : Nat → List D → Option D) (a0 : D) : evF (envOf lp call (inlP lp call)) Tryz.f124 A124 [K11] K32 [a0] = F124 lp call a0 := by kernel_rfl
theorem L124 {lp : Lp} (hlp : LpOk lp) : leafOk 124 (fun call xs => match xs with | [a0] => F124 lp call a0 | _ => none) :=
  leaf1 hlp (by kernel_rfl) (by kernel_rfl) (by kernel_rfl) (fun call a0 => E124 lp call a0)
/- skewback/skewbackref03.Bad -/
def A125 : Ann := .leaf
noncomputable def F125 (lp : Lp) (call : Nat → List D → Option D)  : Option D :=
 some (D.st [(D.bool true), (D.bool false), (zeroD K10)])
theorem E125 (lp : Lp) (call : Nat → List D → Option D)  : evF (envOf lp call (inlP lp call)) Tryz.f125 A125 [] K11 [] = F125 lp call  := by kernel_rfl
theorem L125 {lp : Lp} (hlp : LpOk lp) : leafOk 125 (fun call xs => match xs with | [] => F125 lp call  | _ => none) :=
  leaf0 hlp (by kernel_rfl) (by kernel_rfl) (by kernel_rfl) (fun call  => E125 lp call )
/- skewback/skewbackref03.minus -/
def A126 : Ann := (.two .leaf (.two .leaf (.two .leaf (.two (.two .leaf (.two (.loop ⟨[(5, .ow (Ty.int .i64)), (6, .dv (Ty.int .i64)), (7, .dv (Ty.int .i64))], [], [0, 1]⟩ [(.exit 0, ⟨[(5, .ow (Ty.int .i64))], [], []⟩)] (.two .leaf (.two (.two (.two (.reg [] 10) (.two .leaf (.cut [(.normal, ⟨[(5, .ow (Ty.int .i64)), (6, .dv (Ty.int .i64)), (8, .dv (Ty.int .i64))], [], [0, 1, 7]⟩)] [0, 1, 7] [] .leaf .leaf))) .leaf) .leaf))) .leaf)) .leaf))))
noncomputable def F126 (lp : Lp) (call : Nat → List D → Option D) (a0 : D) (a1 : D) : Option D :=
(lp (β := Nat × List D) (fun (v1 : List D) =>
(D.asSl a0).bind fun l2 =>
(D.bin .lss (v1.getD 2 (.bool false)) (D.int .i64 (l2.length))).bind fun x3 =>
(D.truth x3).bind fun b4 =>
 if b4 then ((D.asSl a0).bind fun l5 =>
(D.idx (v1.getD 2 (.bool false)) (l5.length)).bind fun i6 =>
(l5[i6]?).bind fun x7 =>
(call 141 [a1, (v1.getD 2 (.bool false))]).bind fun r8 =>
(D.bin .sub x7 r8).bind fun x9 =>
(D.bin .sub x9 (v1.getD 1 (.bool false))).bind fun x10 =>
((D.bin .lss x10 (D.int .i64 0)).bind fun x11 =>
(D.truth x11).bind fun b12 =>
 if b12 then ((D.bin .add x10 (D.int .i64 65536)).bind fun x13 =>
 some (0, [(D.sl ((v1.getD 0 (.bool false)).els)), (D.int .i64 1), x13])) else (some (0, [(D.sl ((v1.getD 0 (.bool false)).els)), (D.int .i64 0), x10]))).bind fun (r14 : Nat × List D) =>
 if List.length ((r14.2.getD 0 (.bool false)).els) + List.length [(r14.2.getD 2 (.bool false))] ≤ 1073741824 then ((D.bin .add (v1.getD 2 (.bool false)) (D.int .i64 1)).bind fun x15 =>
 some (Sum.inl [(D.sl (((r14.2.getD 0 (.bool false)).els) ++ [(r14.2.getD 2 (.bool false))])), (r14.2.getD 1 (.bool false)), x15])) else none) else (some (Sum.inr (0, [(D.sl ((v1.getD 0 (.bool false)).els))])))) [(D.sl []), (D.int .i64 0), (D.int .i64 0)]).bind fun r16 =>
(call 140 [(D.sl ((r16.2.getD 0 (.bool false)).els))]).bind fun r17 =>
 some r17
theorem E126 (lp : Lp) (call : Nat → List D → Option D) (a0 : D) (a1 : D) : evF (envOf lp call (inlP lp call)) Tryz.f126 A126 [K5, K5] K5 [a0, a1] = F126 lp call a0 a1 := by kernel_rfl
theorem L126 {lp : Lp} (hlp : LpOk lp) : leafOk 126 (fun call xs => match xs with | [a0, a1] => F126 lp call a0 a1 | _ => none) :=
  leaf2 hlp (by kernel_rfl) (by kernel_rfl) (by kernel_rfl) (fun call a0 a1 => E126 lp call a0 a1)
/- skewback/whole.size -/
def A127 : Ann := (.two .leaf (.two .leaf (.two (.two (.loop ⟨[(1, .same (.ptr K10 4097 [])), (3, .dv (Ty.int .i64))], [(4097, .keep K10 1)], []⟩ [(.exit 0, ⟨[(3, .dv (Ty.int .i64))], [], []⟩)] .leaf) .leaf) .leaf)))
noncomputable def F127 (lp : Lp) (call : Nat → List D → Option D) (a0 : D) : Option D :=
(lp (β := Nat × List D) (fun (v1 : List D) =>
(D.bin .gtr (v1.getD 0 (.bool false)) (D.int .i64 0)).bind fun x2 =>
(D.truth x2).bind fun b3 =>
(if b3 then ((D.bin .sub (v1.getD 0 (.bool false)) (D.int .i64 1)).bind fun x4 =>
(D.idx x4 16).bind fun i5 =>
(D.get a0 [i5]).bind fun x6 =>
 D.truth (D.bool (D.beq x6 (D.int .u32 0)))) else (some false)).bind fun b7 =>
(D.truth (D.bool b7)).bind fun b8 =>
 if b8 then ((D.bin .sub (v1.getD 0 (.bool false)) (D.int .i64 1)).bind fun x9 =>
 some (Sum.inl [x9])) else (some (Sum.inr (0, [(v1.getD 0 (.bool false))])))) [(D.int .i64 16)]).bind fun r10 =>
 some (r10.2.getD 0 (.bool false))
theorem E127 (lp : Lp) (call : Nat → List D → Option D) (a0 : D) : evF (envOf lp call (inlP lp call)) Tryz.f127 A127 [K10] (Ty.int .i64) [a0] = F127 lp call a0 := by kernel_rfl
theorem L127 {lp : Lp} (hlp : LpOk lp) : leafOk 127 (fun call xs => match xs with | [a0] => F127 lp call a0 | _ => none) :=
  leaf1 hlp (by kernel_rfl) (by kernel_rfl) (by kernel_rfl) (fun call a0 => E127 lp call a0)
/- skewback/ratio.good -/
def A128 : Ann := .leaf
noncomputable def F128 (lp : Lp) (call : Nat → List D → Option D) (a0 : D) : Option D :=
(D.get a0 [0]).bind fun x1 =>
(D.un .not x1).bind fun x2 =>
(D.truth x2).bind fun b3 =>
(if b3 then ((call 167 [a0]).bind fun r4 =>
 D.truth r4) else (some false)).bind fun b5 =>
 some (D.bool b5)
theorem E128 (lp : Lp) (call : Nat → List D → Option D) (a0 : D) : evF (envOf lp call (inlP lp call)) Tryz.f128 A128 [K11] Ty.bool [a0] = F128 lp call a0 := by kernel_rfl
theorem L128 {lp : Lp} (hlp : LpOk lp) : leafOk 128 (fun call xs => match xs with | [a0] => F128 lp call a0 | _ => none) :=
  leaf1 hlp (by kernel_rfl) (by kernel_rfl) (by kernel_rfl) (fun call a0 => E128 lp call a0)
/- skewback/whole.Sign -/
def A129 : Ann := .leaf
noncomputable def F129 (lp : Lp) (call : Nat → List D → Option D) (a0 : D) : Option D :=
(call 118 [(D.sl [a0])]).bind fun r1 =>
(D.un .not r1).bind fun x2 =>
(D.truth x2).bind fun b3 =>
(if b3 then (some true) else ((D.get a0 [2]).bind fun x4 =>
 D.truth (D.bool (D.beq x4 (D.st (D.putParts (List.replicate 16 (D.int .u32 0)) [])))))).bind fun b5 =>
(D.truth (D.bool b5)).bind fun b6 =>
 if b6 then (some (D.int .i64 0)) else ((D.get a0 [1]).bind fun x7 =>
(D.truth x7).bind fun b8 =>
 if b8 then (some (D.int .i64 (-1))) else (some (D.int .i64 1)))
theorem E129 (lp : Lp) (call : Nat → List D → Option D) (a0 : D) : evF (envOf lp call (inlP lp call)) Tryz.f129 A129 [K11] (Ty.int .i64) [a0] = F129 lp call a0 := by kernel_rfl
theorem L129 {lp : Lp} (hlp : LpOk lp) : leafOk 129 (fun call xs => match xs with | [a0] => F129 lp call a0 | _ => none) :=
  leaf1 hlp (by kernel_rfl) (by kernel_rfl) (by kernel_rfl) (fun call a0 => E129 lp call a0)
/- skewback/ratio.Bad -/
def A130 : Ann := .leaf
noncomputable def F130 (lp : Lp) (call : Nat → List D → Option D)  : Option D :=
(call 119 []).bind fun r1 =>
(call 169 []).bind fun r2 =>
 some (D.st [r1, r2])
theorem E130 (lp : Lp) (call : Nat → List D → Option D)  : evF (envOf lp call (inlP lp call)) Tryz.f130 A130 [] K12 [] = F130 lp call  := by kernel_rfl
theorem L130 {lp : Lp} (hlp : LpOk lp) : leafOk 130 (fun call xs => match xs with | [] => F130 lp call  | _ => none) :=
  leaf0 hlp (by kernel_rfl) (by kernel_rfl) (by kernel_rfl) (fun call  => E130 lp call )
/- skewback/whole.Gcd -/
def A131 : Ann := (.two .leaf (.two .leaf (.two (.two .leaf (.two (.two (.reg [] 21) (.two (.two (.loop ⟨[(4, .same (.ptr K11 4100 [])), (5, .dv (Ty.int .u64)), (6, .dv (Ty.int .u64))], [(4100, .keep K11 4)], []⟩ [(.exit 0, ⟨[(4, .same (.ptr K11 4100 [])), (5, .dv (Ty.int .u64))], [(4100, .keep K11 4)], []⟩)] (.two .leaf (.two (.reg [] 5) .leaf))) .leaf) .leaf)) .leaf)) .leaf)))
noncomputable def F131 (lp : Lp) (call : Nat → List D → Option D) (a0 : D) (a1 : D) : Option D :=
(call 118 [(D.sl [a0, a1])]).bind fun r1 =>
(D.un .not r1).bind fun x2 =>
(D.truth x2).bind fun b3 =>
 if b3 then ((call 119 []).bind fun r4 =>
 some r4) else ((D.get a0 [2]).bind fun x5 =>
(call 127 [x5]).bind fun r6 =>
(D.bin .leq r6 (D.int .i64 2)).bind fun x7 =>
(D.truth x7).bind fun b8 =>
(if b8 then ((D.get a1 [2]).bind fun x9 =>
(call 127 [x9]).bind fun r10 =>
(D.bin .leq r10 (D.int .i64 2)).bind fun x11 =>
 D.truth x11) else (some false)).bind fun b12 =>
(D.truth (D.bool b12)).bind fun b13 =>
 if b13 then ((D.get a0 [2, 1]).bind fun x14 =>
(D.conv .u64 x14).bind fun x15 =>
(D.bin .shl x15 (D.int .u64 32)).bind fun x16 =>
(D.get a0 [2, 0]).bind fun x17 =>
(D.conv .u64 x17).bind fun x18 =>
(D.bin .or x16 x18).bind fun x19 =>
(D.get a1 [2, 1]).bind fun x20 =>
(D.conv .u64 x20).bind fun x21 =>
(D.bin .shl x21 (D.int .u64 32)).bind fun x22 =>
(D.get a1 [2, 0]).bind fun x23 =>
(D.conv .u64 x23).bind fun x24 =>
(D.bin .or x22 x24).bind fun x25 =>
(lp (β := Nat × List D) (fun (v26 : List D) =>
(D.truth (D.bool (!(D.beq (v26.getD 1 (.bool false)) (D.int .u64 0))))).bind fun b27 =>
 if b27 then ((D.bin .rem (v26.getD 0 (.bool false)) (v26.getD 1 (.bool false))).bind fun x28 =>
 some (Sum.inl [(v26.getD 1 (.bool false)), x28])) else (some (Sum.inr (0, [(v26.getD 0 (.bool false))])))) [x19, x25]).bind fun r29 =>
(D.conv .u32 (r29.2.getD 0 (.bool false))).bind fun x30 =>
(D.bin .shr (r29.2.getD 0 (.bool false)) (D.int .u64 32)).bind fun x31 =>
(D.conv .u32 x31).bind fun x32 =>
(call 116 [(D.bool false), (D.st (D.putParts (List.replicate 16 (D.int .u32 0)) [(0, x30), (1, x32)]))]).bind fun r33 =>
 some r33) else (none))
theorem E131 (lp : Lp) (call : Nat → List D → Option D) (a0 : D) (a1 : D) : evF (envOf lp call (inlP lp call)) Tryz.f131 A131 [K11, K11] K11 [a0, a1] = F131 lp call a0 a1 := by kernel_rfl
theorem L131 {lp : Lp} (hlp : LpOk lp) : leafOk 131 (fun call xs => match xs with | [a0, a1] => F131 lp call a0 a1 | _ => none) :=
  leaf2 hlp (by kernel_rfl) (by kernel_rfl) (by kernel_rfl) (fun call a0 a1 => E131 lp call a0 a1)
/- skewback/whole.Quo -/
def A132 : Ann := .leaf
noncomputable def F132 (lp : Lp) (call : Nat → List D → Option D) (a0 : D) (a1 : D) : Option D :=
(call 172 [a0, a1]).bind fun r1 =>
(D.tupAt r1 0).bind fun x2 =>
(D.tupAt r1 1).bind fun x3 =>
 some x2
theorem E132 (lp : Lp) (call : Nat → List D → Option D) (a0 : D) (a1 : D) : evF (envOf lp call (inlP lp call)) Tryz.f132 A132 [K11, K11] K11 [a0, a1] = F132 lp call a0 a1 := by kernel_rfl
theorem L132 {lp : Lp} (hlp : LpOk lp) : leafOk 132 (fun call xs => match xs with | [a0, a1] => F132 lp call a0 a1 | _ => none) :=
  leaf2 hlp (by kernel_rfl) (by kernel_rfl) (by kernel_rfl) (fun call a0 a1 => E132 lp call a0 a1)
/- skewback/skewbackref04.one -/
def A133 : Ann := .leaf
noncomputable def F133 (lp : Lp) (call : Nat → List D → Option D)  : Option D :=
(call 34 [(D.int .i64 1)]).bind fun r1 =>
 some r1
theorem E133 (lp : Lp) (call : Nat → List D → Option D)  : evF (envOf lp call (inlP lp call)) Tryz.f133 A133 [] K11 [] = F133 lp call  := by kernel_rfl
theorem L133 {lp : Lp} (hlp : LpOk lp) : leafOk 133 (fun call xs => match xs with | [] => F133 lp call  | _ => none) :=
  leaf0 hlp (by kernel_rfl) (by kernel_rfl) (by kernel_rfl) (fun call  => E133 lp call )
/- skewback/vector.Inner -/
def A134 : Ann := (.two .leaf (.two .leaf (.two (.two .leaf (.two (.loop ⟨[(2, .same (.ptr K13 4098 [])), (3, .same (.ptr K13 4099 [])), (4, .same (.ptr K12 4100 [])), (5, .same (.ptr K12 8197 [])), (8, .dv (Ty.int .i64))], [(4098, .keep K13 2), (4099, .keep K13 3), (4100, .keep K12 4), (8197, .one K12 (.dv K12))], []⟩ [(.exit 0, ⟨[(4, .same (.ptr K12 4100 [])), (5, .same (.ptr K12 8197 []))], [(4100, .keep K12 4), (8197, .one K12 (.dv K12))], []⟩)] (.two .leaf (.two .leaf (.two (.two (.two .leaf (.reg [] 9)) .leaf) .leaf)))) .leaf)) .leaf)))
noncomputable def F134 (lp : Lp) (call : Nat → List D → Option D) (a0 : D) (a1 : D) : Option D :=
(call 74 [(D.int .i64 0)]).bind fun r1 =>
(lp (β := Nat × List D) (fun (v2 : List D) =>
(D.bin .lss (v2.getD 0 (.bool false)) (D.int .i64 3)).bind fun x3 =>
(D.truth x3).bind fun b4 =>
 if b4 then ((D.idx (v2.getD 0 (.bool false)) 3).bind fun i5 =>
(D.get a0 [i5]).bind fun x6 =>
(D.idx (v2.getD 0 (.bool false)) 3).bind fun i7 =>
(D.get a1 [i7]).bind fun x8 =>
(call 174 [x6, x8]).bind fun r9 =>
(call 173 [(v2.getD 1 (.bool false)), r9]).bind fun r10 =>
(D.bin .add (v2.getD 0 (.bool false)) (D.int .i64 1)).bind fun x11 =>
 some (Sum.inl [x11, r10])) else (some (Sum.inr (0, [(v2.getD 1 (.bool false))])))) [(D.int .i64 0), r1]).bind fun r12 =>
 some (r12.2.getD 0 (.bool false))
theorem E134 (lp : Lp) (call : Nat → List D → Option D) (a0 : D) (a1 : D) : evF (envOf lp call (inlP lp call)) Tryz.f134 A134 [K13, K13] K12 [a0, a1] = F134 lp call a0 a1 := by kernel_rfl
theorem L134 {lp : Lp} (hlp : LpOk lp) : leafOk 134 (fun call xs => match xs with | [a0, a1] => F134 lp call a0 a1 | _ => none) :=
  leaf2 hlp (by kernel_rfl) (by kernel_rfl) (by kernel_rfl) (fun call a0 a1 => E134 lp call a0 a1)
/- skewback/vector.Of -/
def A135 : Ann := (.two .leaf (.two (.reg [] 10) .leaf))
noncomputable def F135 (lp : Lp) (call : Nat → List D → Option D) (a0 : D) : Option D :=
(D.get a0 [0]).bind fun x1 =>
(call 74 [x1]).bind fun r2 =>
(D.get a0 [1]).bind fun x3 =>
(call 74 [x3]).bind fun r4 =>
(D.get a0 [2]).bind fun x5 =>
(call 74 [x5]).bind fun r6 =>
 some (D.st [r2, r4, r6])
theorem E135 (lp : Lp) (call : Nat → List D → Option D) (a0 : D) : evF (envOf lp call (inlP lp call)) Tryz.f135 A135 [K1] K13 [a0] = F135 lp call a0 := by kernel_rfl
theorem L135 {lp : Lp} (hlp : LpOk lp) : leafOk 135 (fun call xs => match xs with | [a0] => F135 lp call a0 | _ => none) :=
  leaf1 hlp (by kernel_rfl) (by kernel_rfl) (by kernel_rfl) (fun call a0 => E135 lp call a0)
end Go.Proofs.YtjjjkojfijpeeaaGreat.Sy
end
section
/- The program's functions as plain text, checked by the kernel: part Cf. -/
set_option maxRecDepth 20000
set_option maxHeartbeats 0
set_option linter.unusedVariables false
namespace Go.Proofs.YtjjjkojfijpeeaaGreat.Sy
open Go Go.Proofs
/- skewback/ratio.Good -/
def A136 : Ann := .leaf
noncomputable def F136 (lp : Lp) (call : Nat → List D → Option D) (a0 : D) : Option D :=
(D.get a0 [0]).bind fun x1 =>
(call 128 [x1]).bind fun r2 =>
(D.truth r2).bind fun b3 =>
(if b3 then ((D.get a0 [1]).bind fun x4 =>
(call 128 [x4]).bind fun r5 =>
 D.truth r5) else (some false)).bind fun b6 =>
(D.truth (D.bool b6)).bind fun b7 =>
(if b7 then ((D.get a0 [1]).bind fun x8 =>
(call 129 [x8]).bind fun r9 =>
(D.bin .gtr r9 (D.int .i64 0)).bind fun x10 =>
 D.truth x10) else (some false)).bind fun b11 =>
(D.truth (D.bool b11)).bind fun b12 =>
(if b12 then ((D.get a0 [0]).bind fun x13 =>
(D.get a0 [1]).bind fun x14 =>
(call 131 [x13, x14]).bind fun r15 =>
(call 169 []).bind fun r16 =>
 D.truth (D.bool (D.beq r15 r16))) else (some false)).bind fun b17 =>
 some (D.bool b17)
theorem E136 (lp : Lp) (call : Nat → List D → Option D) (a0 : D) : evF (envOf lp call (inlP lp call)) Tryz.f136 A136 [K12] Ty.bool [a0] = F136 lp call a0 := by kernel_rfl
theorem L136 {lp : Lp} (hlp : LpOk lp) : leafOk 136 (fun call xs => match xs with | [a0] => F136 lp call a0 | _ => none) :=
  leaf1 hlp (by kernel_rfl) (by kernel_rfl) (by kernel_rfl) (fun call a0 => E136 lp call a0)
/- skewback/whole.Rem -/
def A137 : Ann := .leaf
noncomputable def F137 (lp : Lp) (call : Nat → List D → Option D) (a0 : D) (a1 : D) : Option D :=
(call 172 [a0, a1]).bind fun r1 =>
(D.tupAt r1 0).bind fun x2 =>
(D.tupAt r1 1).bind fun x3 =>
 some x3
theorem E137 (lp : Lp) (call : Nat → List D → Option D) (a0 : D) (a1 : D) : evF (envOf lp call (inlP lp call)) Tryz.f137 A137 [K11, K11] K11 [a0, a1] = F137 lp call a0 a1 := by kernel_rfl
theorem L137 {lp : Lp} (hlp : LpOk lp) : leafOk 137 (fun call xs => match xs with | [a0, a1] => F137 lp call a0 a1 | _ => none) :=
  leaf2 hlp (by kernel_rfl) (by kernel_rfl) (by kernel_rfl) (fun call a0 a1 => E137 lp call a0 a1)
/- skewback/ratio.Whole -/
def A138 : Ann := (.two .leaf (.two (.reg [] 3) .leaf))
noncomputable def F138 (lp : Lp) (call : Nat → List D → Option D) (a0 : D) : Option D :=
(call 169 []).bind fun r1 =>
(call 62 [a0, r1]).bind fun r2 =>
 some r2
theorem E138 (lp : Lp) (call : Nat → List D → Option D) (a0 : D) : evF (envOf lp call (inlP lp call)) Tryz.f138 A138 [K11] K12 [a0] = F138 lp call a0 := by kernel_rfl
theorem L138 {lp : Lp} (hlp : LpOk lp) : leafOk 138 (fun call xs => match xs with | [a0] => F138 lp call a0 | _ => none) :=
  leaf1 hlp (by kernel_rfl) (by kernel_rfl) (by kernel_rfl) (fun call a0 => E138 lp call a0)
/- skewback/skewbackref03.Valid -/
def A139 : Ann := (.two .leaf (.two .leaf (.two (.two .leaf (.two (.loop ⟨[(1, .same (.ptr K11 4097 [])), (3, .dv Ty.bool), (4, .dv (Ty.int .i64))], [(4097, .keep K11 1)], []⟩ [(.exit 0, ⟨[(1, .same (.ptr K11 4097 [])), (3, .dv Ty.bool)], [(4097, .keep K11 1)], []⟩)] .leaf) .leaf)) .leaf)))
noncomputable def F139 (lp : Lp) (call : Nat → List D → Option D) (a0 : D) : Option D :=
(lp (β := Nat × List D) (fun (v1 : List D) =>
(D.bin .lss (v1.getD 1 (.bool false)) (D.int .i64 16)).bind fun x2 =>
(D.truth x2).bind fun b3 =>
 if b3 then ((D.truth (v1.getD 0 (.bool false))).bind fun b4 =>
(if b4 then ((D.idx (v1.getD 1 (.bool false)) 16).bind fun i5 =>
(D.get a0 [2, i5]).bind fun x6 =>
 D.truth (D.bool (D.beq x6 (D.int .u32 0)))) else (some false)).bind fun b7 =>
(D.bin .add (v1.getD 1 (.bool false)) (D.int .i64 1)).bind fun x8 =>
 some (Sum.inl [(D.bool b7), x8])) else (some (Sum.inr (0, [(v1.getD 0 (.bool false))])))) [(D.bool true), (D.int .i64 0)]).bind fun r9 =>
(D.get a0 [0]).bind fun x10 =>
(D.truth x10).bind fun b11 =>
 if b11 then ((D.truth (r9.2.getD 0 (.bool false))).bind fun b12 =>
(if b12 then ((D.get a0 [1]).bind fun x13 =>
(D.un .not x13).bind fun x14 =>
 D.truth x14) else (some false)).bind fun b15 =>
 some (D.bool b15)) else ((D.un .not (r9.2.getD 0 (.bool false))).bind fun x16 =>
(D.truth x16).bind fun b17 =>
(if b17 then (some true) else ((D.get a0 [1]).bind fun x18 =>
(D.un .not x18).bind fun x19 =>
 D.truth x19)).bind fun b20 =>
 some (D.bool b20))
theorem E139 (lp : Lp) (call : Nat → List D → Option D) (a0 : D) : evF (envOf lp call (inlP lp call)) Tryz.f139 A139 [K11] Ty.bool [a0] = F139 lp call a0 := by kernel_rfl
theorem L139 {lp : Lp} (hlp : LpOk lp) : leafOk 139 (fun call xs => match xs with | [a0] => F139 lp call a0 | _ => none) :=
  leaf1 hlp (by kernel_rfl) (by kernel_rfl) (by kernel_rfl) (fun call a0 => E139 lp call a0)
/- skewback/skewbackref03.trim -/
def A140 : Ann := (.two .leaf (.two .leaf (.two (.two (.loop ⟨[(3, .dv (Ty.int .i64))], [], [0]⟩ [(.exit 0, ⟨[(3, .dv (Ty.int .i64))], [], [0]⟩)] .leaf) .leaf) .leaf)))
noncomputable def F140 (lp : Lp) (call : Nat → List D → Option D) (a0 : D) : Option D :=
(D.asSl a0).bind fun l1 =>
(lp (β := Nat × List D) (fun (v2 : List D) =>
(D.bin .gtr (v2.getD 0 (.bool false)) (D.int .i64 0)).bind fun x3 =>
(D.truth x3).bind fun b4 =>
(if b4 then ((D.bin .sub (v2.getD 0 (.bool false)) (D.int .i64 1)).bind fun x5 =>
(D.asSl a0).bind fun l6 =>
(D.idx x5 (l6.length)).bind fun i7 =>
(l6[i7]?).bind fun x8 =>
 D.truth (D.bool (D.beq x8 (D.int .i64 0)))) else (some false)).bind fun b9 =>
(D.truth (D.bool b9)).bind fun b10 =>
 if b10 then ((D.bin .sub (v2.getD 0 (.bool false)) (D.int .i64 1)).bind fun x11 =>
 some (Sum.inl [x11])) else (some (Sum.inr (0, [(v2.getD 0 (.bool false))])))) [(D.int .i64 (l1.length))]).bind fun r12 =>
(D.asSl a0).bind fun l13 =>
(D.natOf (r12.2.getD 0 (.bool false))).bind fun i14 =>
(D.cut l13 0 i14).bind fun l15 =>
 some (D.sl l15)
theorem E140 (lp : Lp) (call : Nat → List D → Option D) (a0 : D) : evF (envOf lp call (inlP lp call)) Tryz.f140 A140 [K5] K5 [a0] = F140 lp call a0 := by kernel_rfl
theorem L140 {lp : Lp} (hlp : LpOk lp) : leafOk 140 (fun call xs => match xs with | [a0] => F140 lp call a0 | _ => none) :=
  leaf1 hlp (by kernel_rfl) (by kernel_rfl) (by kernel_rfl) (fun call a0 => E140 lp call a0)
/- skewback/skewbackref03.digit -/
def A141 : Ann := .leaf
noncomputable def F141 (lp : Lp) (call : Nat → List D → Option D) (a0 : D) (a1 : D) : Option D :=
(D.asSl a0).bind fun l1 =>
(D.bin .lss a1 (D.int .i64 (l1.length))).bind fun x2 =>
(D.truth x2).bind fun b3 =>
 if b3 then ((D.asSl a0).bind fun l4 =>
(D.idx a1 (l4.length)).bind fun i5 =>
(l4[i5]?).bind fun x6 =>
 some x6) else (some (D.int .i64 0))
theorem E141 (lp : Lp) (call : Nat → List D → Option D) (a0 : D) (a1 : D) : evF (envOf lp call (inlP lp call)) Tryz.f141 A141 [K5, Ty.int .i64] (Ty.int .i64) [a0, a1] = F141 lp call a0 a1 := by kernel_rfl
theorem L141 {lp : Lp} (hlp : LpOk lp) : leafOk 141 (fun call xs => match xs with | [a0, a1] => F141 lp call a0 a1 | _ => none) :=
  leaf2 hlp (by kernel_rfl) (by kernel_rfl) (by kernel_rfl) (fun call a0 a1 => E141 lp call a0 a1)
/- skewback/skewbackref03.Abs -/
def A142 : Ann := .leaf
noncomputable def F142 (lp : Lp) (call : Nat → List D → Option D) (a0 : D) : Option D :=
(call 76 [a0]).bind fun r1 =>
(D.un .not r1).bind fun x2 =>
(D.truth x2).bind fun b3 =>
 if b3 then ((call 125 []).bind fun r4 =>
 some r4) else ((call 77 [a0]).bind fun r5 =>
(call 81 [(D.bool false), r5]).bind fun r6 =>
 some r6)
theorem E142 (lp : Lp) (call : Nat → List D → Option D) (a0 : D) : evF (envOf lp call (inlP lp call)) Tryz.f142 A142 [K11] K11 [a0] = F142 lp call a0 := by kernel_rfl
theorem L142 {lp : Lp} (hlp : LpOk lp) : leafOk 142 (fun call xs => match xs with | [a0] => F142 lp call a0 | _ => none) :=
  leaf1 hlp (by kernel_rfl) (by kernel_rfl) (by kernel_rfl) (fun call a0 => E142 lp call a0)
/- skewback/skewbackref03.divide -/
def A143 : Ann := (.two .leaf (.two .leaf (.two .leaf (.two (.reg [] 11) (.two .leaf (.two (.two .leaf (.two (.loop ⟨[(6, .same (.mem (Ty.int .i64) 8207)), (9, .dv K5), (10, .dv (Ty.int .i64))], [(8207, .many (Ty.int .i64))], [0, 1, 7, 8]⟩ [(.exit 0, ⟨[(6, .same (.mem (Ty.int .i64) 8207)), (9, .dv K5)], [(8207, .many (Ty.int .i64))], []⟩)] (.two .leaf (.two (.two (.two .leaf (.two .leaf (.two .leaf (.two (.two (.loop ⟨[(6, .same (.mem (Ty.int .i64) 8207)), (11, .dv (Ty.int .i64)), (12, .dv K5)], [(8207, .many (Ty.int .i64))], [0, 1, 7, 8, 9, 10]⟩ [(.exit 2, ⟨[(6, .same (.mem (Ty.int .i64) 8207)), (11, .dv (Ty.int .i64)), (12, .dv K5)], [(8207, .many (Ty.int .i64))], [0, 1, 7, 8, 9, 10]⟩)] .leaf) .leaf) .leaf)))) .leaf) .leaf))) .leaf)) (.two (.reg [6] 5) .leaf)))))))
noncomputable def F143 (lp : Lp) (call : Nat → List D → Option D) (a0 : D) (a1 : D) : Option D :=
(D.asSl a0).bind fun l1 =>
(D.natOf (D.int .i64 (l1.length))).bind fun i2 =>
 if i2 ≤ 1073741824 then ((D.asSl a1).bind fun l3 =>
(D.bin .sub (D.int .i64 (l3.length)) (D.int .i64 1)).bind fun x4 =>
(D.asSl a1).bind fun l5 =>
(D.idx x4 (l5.length)).bind fun i6 =>
(l5[i6]?).bind fun x7 =>
(D.bin .mul x7 (D.int .i64 65536)).bind fun x8 =>
(D.bin .sub (D.int .i64 (l3.length)) (D.int .i64 2)).bind fun x9 =>
(call 175 [a1, x9]).bind fun r10 =>
(D.bin .add x8 r10).bind fun x11 =>
(D.asSl a0).bind fun l12 =>
(D.bin .sub (D.int .i64 (l12.length)) (D.int .i64 1)).bind fun x13 =>
(lp (β := Nat × List D) (fun (v14 : List D) =>
(D.bin .geq (v14.getD 1 (.bool false)) (D.int .i64 0)).bind fun x15 =>
(D.truth x15).bind fun b16 =>
 if b16 then ((D.asSl a0).bind fun l17 =>
(D.idx (v14.getD 1 (.bool false)) (l17.length)).bind fun i18 =>
(l17[i18]?).bind fun x19 =>
(D.asSl (v14.getD 0 (.bool false))).bind fun l20 =>
 if List.length [x19] + l20.length ≤ 1073741824 then ((call 140 [(D.sl ([x19] ++ l20))]).bind fun r21 =>
(call 175 [r21, (D.int .i64 (l3.length))]).bind fun r22 =>
(D.bin .mul r22 (D.int .i64 4294967296)).bind fun x23 =>
(D.bin .sub (D.int .i64 (l3.length)) (D.int .i64 1)).bind fun x24 =>
(call 175 [r21, x24]).bind fun r25 =>
(D.bin .mul r25 (D.int .i64 65536)).bind fun x26 =>
(D.bin .add x23 x26).bind fun x27 =>
(D.bin .sub (D.int .i64 (l3.length)) (D.int .i64 2)).bind fun x28 =>
(call 175 [r21, x28]).bind fun r29 =>
(D.bin .add x27 r29).bind fun x30 =>
(D.bin .quo x30 x11).bind fun x31 =>
(D.min2 (D.int .i64 65535) x31).bind fun x32 =>
(call 146 [a1, (D.sl [x32])]).bind fun r33 =>
(lp (β := Nat × List D) (fun (v34 : List D) =>
(call 78 [r21, (v34.getD 1 (.bool false))]).bind fun r35 =>
(D.truth r35).bind fun b36 =>
 if b36 then ((D.bin .sub (v34.getD 0 (.bool false)) (D.int .i64 1)).bind fun x37 =>
(call 126 [(v34.getD 1 (.bool false)), a1]).bind fun r38 =>
 some (Sum.inl [x37, r38, (D.sl ((v34.getD 2 (.bool false)).els))])) else (some (Sum.inr (0, [(v34.getD 0 (.bool false)), (v34.getD 1 (.bool false)), (D.sl ((v34.getD 2 (.bool false)).els))])))) [x32, r33, (D.sl ((v14.getD 2 (.bool false)).els))]).bind fun r39 =>
(D.idx (v14.getD 1 (.bool false)) (List.length ((r39.2.getD 2 (.bool false)).els))).bind fun i40 =>
(((r39.2.getD 2 (.bool false)).els)[i40]?).bind fun x41 =>
(call 126 [r21, (r39.2.getD 1 (.bool false))]).bind fun r42 =>
(D.bin .sub (v14.getD 1 (.bool false)) (D.int .i64 1)).bind fun x43 =>
 some (Sum.inl [r42, x43, (D.sl (List.set ((r39.2.getD 2 (.bool false)).els) i40 (r39.2.getD 0 (.bool false))))])) else none) else (some (Sum.inr (0, [(v14.getD 0 (.bool false)), (D.sl ((v14.getD 2 (.bool false)).els))])))) [(D.sl []), x13, (D.sl (List.replicate i2 (D.int .i64 0)))]).bind fun r44 =>
(call 140 [(D.sl ((r44.2.getD 1 (.bool false)).els))]).bind fun r45 =>
 some (D.tup [r45, (r44.2.getD 0 (.bool false))])) else none
theorem E143 (lp : Lp) (call : Nat → List D → Option D) (a0 : D) (a1 : D) : evF (envOf lp call (inlP lp call)) Tryz.f143 A143 [K5, K5] K33 [a0, a1] = F143 lp call a0 a1 := by kernel_rfl
theorem L143 {lp : Lp} (hlp : LpOk lp) : leafOk 143 (fun call xs => match xs with | [a0, a1] => F143 lp call a0 a1 | _ => none) :=
  leaf2 hlp (by kernel_rfl) (by kernel_rfl) (by kernel_rfl) (fun call a0 a1 => E143 lp call a0 a1)
/- skewback/skewbackref03.floor -/
def A144 : Ann := (.two .leaf (.two .leaf (.cut [(.normal, ⟨[(5, .dv (Ty.int .i64))], [], []⟩)] [] [] .leaf .leaf)))
noncomputable def F144 (lp : Lp) (call : Nat → List D → Option D) (a0 : D) (a1 : D) : Option D :=
(D.bin .quo a0 a1).bind fun x1 =>
((D.bin .rem a0 a1).bind fun x2 =>
(D.truth (D.bool (!(D.beq x2 (D.int .i64 0))))).bind fun b3 =>
(if b3 then ((D.bin .lss a0 (D.int .i64 0)).bind fun x4 =>
(D.bin .lss a1 (D.int .i64 0)).bind fun x5 =>
 D.truth (D.bool (!(D.beq x4 x5)))) else (some false)).bind fun b6 =>
(D.truth (D.bool b6)).bind fun b7 =>
 if b7 then ((D.bin .sub x1 (D.int .i64 1)).bind fun x8 =>
 some (0, [x8])) else (some (0, [x1]))).bind fun (r9 : Nat × List D) =>
 some (r9.2.getD 0 (.bool false))
theorem E144 (lp : Lp) (call : Nat → List D → Option D) (a0 : D) (a1 : D) : evF (envOf lp call (inlP lp call)) Tryz.f144 A144 [Ty.int .i64, Ty.int .i64] (Ty.int .i64) [a0, a1] = F144 lp call a0 a1 := by kernel_rfl
theorem L144 {lp : Lp} (hlp : LpOk lp) : leafOk 144 (fun call xs => match xs with | [a0, a1] => F144 lp call a0 a1 | _ => none) :=
  leaf2 hlp (by kernel_rfl) (by kernel_rfl) (by kernel_rfl) (fun call a0 a1 => E144 lp call a0 a1)
/- skewback/skewbackref03.times -/
def A146 : Ann := (.two .leaf (.two .leaf (.two (.two .leaf (.two (.loop ⟨[(5, .same (.mem (Ty.int .i64) 8209)), (6, .dv (Ty.int .i64))], [(8209, .many (Ty.int .i64))], [0, 1]⟩ [(.exit 0, ⟨[(5, .same (.mem (Ty.int .i64) 8209))], [(8209, .many (Ty.int .i64))], []⟩)] (.two .leaf (.two (.two (.two (.two .leaf (.two (.loop ⟨[(5, .same (.mem (Ty.int .i64) 8209)), (7, .dv (Ty.int .i64))], [(8209, .many (Ty.int .i64))], [0, 1, 6]⟩ [(.exit 2, ⟨[(5, .same (.mem (Ty.int .i64) 8209))], [(8209, .many (Ty.int .i64))], [0, 1, 6]⟩)] (.two .leaf (.two (.two (.reg [] 21) .leaf) .leaf))) .leaf)) (.two .leaf (.two .leaf (.two (.loop ⟨[(5, .same (.mem (Ty.int .i64) 8209)), (8, .dv (Ty.int .i64)), (9, .dv (Ty.int .i64))], [(8209, .many (Ty.int .i64))], [0, 1, 6]⟩ [(.exit 4, ⟨[(5, .same (.mem (Ty.int .i64) 8209))], [(8209, .many (Ty.int .i64))], [0, 1, 6]⟩)] .leaf) .leaf)))) .leaf) .leaf))) .leaf)) (.two (.reg [5] 3) .leaf))))
noncomputable def F146 (lp : Lp) (call : Nat → List D → Option D) (a0 : D) (a1 : D) : Option D :=
(D.asSl a0).bind fun l1 =>
(D.asSl a1).bind fun l2 =>
(D.bin .add (D.int .i64 (l1.length)) (D.int .i64 (l2.length))).bind fun x3 =>
(D.bin .add x3 (D.int .i64 1)).bind fun x4 =>
(D.natOf x4).bind fun i5 =>
 if i5 ≤ 1073741824 then ((lp (β := Nat × List D) (fun (v6 : List D) =>
(D.asSl a0).bind fun l7 =>
(D.bin .lss (v6.getD 0 (.bool false)) (D.int .i64 (l7.length))).bind fun x8 =>
(D.truth x8).bind fun b9 =>
 if b9 then ((lp (β := Nat × List D) (fun (v10 : List D) =>
(D.asSl a1).bind fun l11 =>
(D.bin .lss (v10.getD 0 (.bool false)) (D.int .i64 (l11.length))).bind fun x12 =>
(D.truth x12).bind fun b13 =>
 if b13 then ((D.bin .add (v6.getD 0 (.bool false)) (v10.getD 0 (.bool false))).bind fun x14 =>
(D.bin .add (v6.getD 0 (.bool false)) (v10.getD 0 (.bool false))).bind fun x15 =>
(D.idx x15 (List.length ((v10.getD 1 (.bool false)).els))).bind fun i16 =>
(((v10.getD 1 (.bool false)).els)[i16]?).bind fun x17 =>
(D.asSl a0).bind fun l18 =>
(D.idx (v6.getD 0 (.bool false)) (l18.length)).bind fun i19 =>
(l18[i19]?).bind fun x20 =>
(D.asSl a1).bind fun l21 =>
(D.idx (v10.getD 0 (.bool false)) (l21.length)).bind fun i22 =>
(l21[i22]?).bind fun x23 =>
(D.bin .mul x20 x23).bind fun x24 =>
(D.bin .add x17 x24).bind fun x25 =>
(D.idx x14 (List.length ((v10.getD 1 (.bool false)).els))).bind fun i26 =>
(((v10.getD 1 (.bool false)).els)[i26]?).bind fun x27 =>
(D.bin .add (v10.getD 0 (.bool false)) (D.int .i64 1)).bind fun x28 =>
 some (Sum.inl [x28, (D.sl (List.set ((v10.getD 1 (.bool false)).els) i26 x25))])) else (some (Sum.inr (0, [(D.sl ((v10.getD 1 (.bool false)).els))])))) [(D.int .i64 0), (D.sl ((v6.getD 1 (.bool false)).els))]).bind fun r29 =>
(lp (β := Nat × List D) (fun (v30 : List D) =>
(D.bin .lss (v30.getD 1 (.bool false)) (D.int .i64 (List.length ((v30.getD 2 (.bool false)).els)))).bind fun x31 =>
(D.truth x31).bind fun b32 =>
 if b32 then ((D.idx (v30.getD 1 (.bool false)) (List.length ((v30.getD 2 (.bool false)).els))).bind fun i33 =>
(((v30.getD 2 (.bool false)).els)[i33]?).bind fun x34 =>
(D.bin .add x34 (v30.getD 0 (.bool false))).bind fun x35 =>
(D.bin .rem x35 (D.int .i64 65536)).bind fun x36 =>
(D.idx (v30.getD 1 (.bool false)) (List.length ((v30.getD 2 (.bool false)).els))).bind fun i37 =>
(((v30.getD 2 (.bool false)).els)[i37]?).bind fun x38 =>
(D.bin .quo x35 (D.int .i64 65536)).bind fun x39 =>
(D.bin .add (v30.getD 1 (.bool false)) (D.int .i64 1)).bind fun x40 =>
 some (Sum.inl [x39, x40, (D.sl (List.set ((v30.getD 2 (.bool false)).els) i37 x36))])) else (some (Sum.inr (0, [(D.sl ((v30.getD 2 (.bool false)).els))])))) [(D.int .i64 0), (D.int .i64 0), (D.sl ((r29.2.getD 0 (.bool false)).els))]).bind fun r41 =>
(D.bin .add (v6.getD 0 (.bool false)) (D.int .i64 1)).bind fun x42 =>
 some (Sum.inl [x42, (D.sl ((r41.2.getD 0 (.bool false)).els))])) else (some (Sum.inr (0, [(D.sl ((v6.getD 1 (.bool false)).els))])))) [(D.int .i64 0), (D.sl (List.replicate i5 (D.int .i64 0)))]).bind fun r43 =>
(call 140 [(D.sl ((r43.2.getD 0 (.bool false)).els))]).bind fun r44 =>
 some r44) else none
theorem E146 (lp : Lp) (call : Nat → List D → Option D) (a0 : D) (a1 : D) : evF (envOf lp call (inlP lp call)) Tryz.f146 A146 [K5, K5] K5 [a0, a1] = F146 lp call a0 a1 := by kernel_rfl
theorem L146 {lp : Lp} (hlp : LpOk lp) : leafOk 146 (fun call xs => match xs with | [a0, a1] => F146 lp call a0 a1 | _ => none) :=
  leaf2 hlp (by kernel_rfl) (by kernel_rfl) (by kernel_rfl) (fun call a0 a1 => E146 lp call a0 a1)
/- skewback/vector.dot -/
def A147 : Ann := (.two .leaf (.two .leaf (.two (.two .leaf (.two (.loop ⟨[(2, .same (.ptr K23 4098 [])), (3, .same (.ptr K23 4099 [])), (4, .same (.ptr K11 4100 [])), (5, .same (.ptr K11 8197 [])), (8, .dv (Ty.int .i64))], [(4098, .keep K23 2), (4099, .keep K23 3), (4100, .keep K11 4), (8197, .one K11 (.dv K11))], []⟩ [(.exit 0, ⟨[(4, .same (.ptr K11 4100 [])), (5, .same (.ptr K11 8197 []))], [(4100, .keep K11 4), (8197, .one K11 (.dv K11))], []⟩)] (.two .leaf (.two .leaf (.two (.two (.two .leaf (.reg [] 9)) .leaf) .leaf)))) .leaf)) .leaf)))
noncomputable def F147 (lp : Lp) (call : Nat → List D → Option D) (a0 : D) (a1 : D) : Option D :=
(call 54 [(D.int .i64 0)]).bind fun r1 =>
(lp (β := Nat × List D) (fun (v2 : List D) =>
(D.bin .lss (v2.getD 0 (.bool false)) (D.int .i64 3)).bind fun x3 =>
(D.truth x3).bind fun b4 =>
 if b4 then ((D.idx (v2.getD 0 (.bool false)) 3).bind fun i5 =>
(D.get a0 [i5]).bind fun x6 =>
(D.idx (v2.getD 0 (.bool false)) 3).bind fun i7 =>
(D.get a1 [i7]).bind fun x8 =>
(call 61 [x6, x8]).bind fun r9 =>
(call 57 [(v2.getD 1 (.bool false)), r9]).bind fun r10 =>
(D.bin .add (v2.getD 0 (.bool false)) (D.int .i64 1)).bind fun x11 =>
 some (Sum.inl [x11, r10])) else (some (Sum.inr (0, [(v2.getD 1 (.bool false))])))) [(D.int .i64 0), r1]).bind fun r12 =>
 some (r12.2.getD 0 (.bool false))
theorem E147 (lp : Lp) (call : Nat → List D → Option D) (a0 : D) (a1 : D) : evF (envOf lp call (inlP lp call)) Tryz.f147 A147 [K23, K23] K11 [a0, a1] = F147 lp call a0 a1 := by kernel_rfl
theorem L147 {lp : Lp} (hlp : LpOk lp) : leafOk 147 (fun call xs => match xs with | [a0, a1] => F147 lp call a0 a1 | _ => none) :=
  leaf2 hlp (by kernel_rfl) (by kernel_rfl) (by kernel_rfl) (fun call a0 a1 => E147 lp call a0 a1)
/- skewback/vector.numbers -/
def A148 : Ann := (.two .leaf (.two (.two .leaf (.two (.loop ⟨[(2, .same (.ptr K23 4098 [])), (6, .dv (Ty.int .i64))], [(4098, .one K23 (.dv K23))], [5]⟩ [(.exit 0, ⟨[(2, .same (.ptr K23 4098 []))], [(4098, .one K23 (.dv K23))], []⟩)] .leaf) .leaf)) .leaf))
noncomputable def F148 (lp : Lp) (call : Nat → List D → Option D) (a0 : D) : Option D :=
(lp (β := Nat × List D) (fun (v1 : List D) =>
(D.bin .lss (v1.getD 0 (.bool false)) (D.int .i64 3)).bind fun x2 =>
(D.truth x2).bind fun b3 =>
 if b3 then ((D.idx (v1.getD 0 (.bool false)) 3).bind fun i4 =>
(D.fld a0 i4).bind fun x5 =>
(call 54 [x5]).bind fun r6 =>
(D.idx (v1.getD 0 (.bool false)) 3).bind fun i7 =>
(D.set (v1.getD 1 (.bool false)) [i7] r6).bind fun x8 =>
(D.bin .add (v1.getD 0 (.bool false)) (D.int .i64 1)).bind fun x9 =>
 some (Sum.inl [x9, x8])) else (some (Sum.inr (0, [(v1.getD 1 (.bool false))])))) [(D.int .i64 0), (D.st [(D.st [(D.bool false), (D.bool false), (zeroD K10)]), (D.st [(D.bool false), (D.bool false), (zeroD K10)]), (D.st [(D.bool false), (D.bool false), (zeroD K10)])])]).bind fun r10 =>
 some (r10.2.getD 0 (.bool false))
theorem E148 (lp : Lp) (call : Nat → List D → Option D) (a0 : D) : evF (envOf lp call (inlP lp call)) Tryz.f148 A148 [K1] K23 [a0] = F148 lp call a0 := by kernel_rfl
theorem L148 {lp : Lp} (hlp : LpOk lp) : leafOk 148 (fun call xs => match xs with | [a0] => F148 lp call a0 | _ => none) :=
  leaf1 hlp (by kernel_rfl) (by kernel_rfl) (by kernel_rfl) (fun call a0 => E148 lp call a0)
/- skewback/hull.gcd -/
def A152 : Ann := (.two .leaf (.two (.two (.loop ⟨[(0, .dv (Ty.int .i64)), (1, .dv (Ty.int .i64))], [], []⟩ [(.exit 0, ⟨[(0, .dv (Ty.int .i64))], [], []⟩)] (.two .leaf (.two (.reg [] 5) .leaf))) .leaf) .leaf))
noncomputable def F152 (lp : Lp) (call : Nat → List D → Option D) (a0 : D) (a1 : D) : Option D :=
(lp (β := Nat × List D) (fun (v1 : List D) =>
(D.truth (D.bool (!(D.beq (v1.getD 1 (.bool false)) (D.int .i64 0))))).bind fun b2 =>
 if b2 then ((D.bin .rem (v1.getD 0 (.bool false)) (v1.getD 1 (.bool false))).bind fun x3 =>
 some (Sum.inl [(v1.getD 1 (.bool false)), x3])) else (some (Sum.inr (0, [(v1.getD 0 (.bool false))])))) [a0, a1]).bind fun r4 =>
(D.un .neg (r4.2.getD 0 (.bool false))).bind fun x5 =>
(D.max2 (r4.2.getD 0 (.bool false)) x5).bind fun x6 =>
 some x6
theorem E152 (lp : Lp) (call : Nat → List D → Option D) (a0 : D) (a1 : D) : evF (envOf lp call (inlP lp call)) Tryz.f152 A152 [Ty.int .i64, Ty.int .i64] (Ty.int .i64) [a0, a1] = F152 lp call a0 a1 := by kernel_rfl
theorem L152 {lp : Lp} (hlp : LpOk lp) : leafOk 152 (fun call xs => match xs with | [a0, a1] => F152 lp call a0 a1 | _ => none) :=
  leaf2 hlp (by kernel_rfl) (by kernel_rfl) (by kernel_rfl) (fun call a0 a1 => E152 lp call a0 a1)
/- skewback/vector.Add -/
def A154 : Ann := (.two .leaf (.two (.two .leaf (.two (.loop ⟨[(2, .same (.ptr K1 4098 [])), (3, .same (.ptr K1 4099 [])), (4, .same (.ptr K1 4100 [])), (6, .dv (Ty.int .i64))], [(4098, .one K1 (.dv K1)), (4099, .keep K1 3), (4100, .keep K1 4)], []⟩ [(.exit 0, ⟨[(2, .same (.ptr K1 4098 [])), (4, .same (.ptr K1 4100 []))], [(4098, .one K1 (.dv K1)), (4100, .keep K1 4)], []⟩)] (.two .leaf (.two .leaf (.two (.two (.two .leaf (.reg [] 8)) .leaf) .leaf)))) .leaf)) .leaf))
noncomputable def F154 (lp : Lp) (call : Nat → List D → Option D) (a0 : D) (a1 : D) : Option D :=
(lp (β := Nat × List D) (fun (v1 : List D) =>
(D.bin .lss (v1.getD 0 (.bool false)) (D.int .i64 3)).bind fun x2 =>
(D.truth x2).bind fun b3 =>
 if b3 then ((D.idx (v1.getD 0 (.bool false)) 3).bind fun i4 =>
(D.get (v1.getD 1 (.bool false)) [i4]).bind fun x5 =>
(D.idx (v1.getD 0 (.bool false)) 3).bind fun i6 =>
(D.get a1 [i6]).bind fun x7 =>
(D.bin .add x5 x7).bind fun x8 =>
(D.idx (v1.getD 0 (.bool false)) 3).bind fun i9 =>
(D.set (v1.getD 1 (.bool false)) [i9] x8).bind fun x10 =>
(D.bin .add (v1.getD 0 (.bool false)) (D.int .i64 1)).bind fun x11 =>
 some (Sum.inl [x11, x10])) else (some (Sum.inr (0, [(v1.getD 1 (.bool false))])))) [(D.int .i64 0), a0]).bind fun r12 =>
 some (r12.2.getD 0 (.bool false))
theorem E154 (lp : Lp) (call : Nat → List D → Option D) (a0 : D) (a1 : D) : evF (envOf lp call (inlP lp call)) Tryz.f154 A154 [K1, K1] K1 [a0, a1] = F154 lp call a0 a1 := by kernel_rfl
theorem L154 {lp : Lp} (hlp : LpOk lp) : leafOk 154 (fun call xs => match xs with | [a0, a1] => F154 lp call a0 a1 | _ => none) :=
  leaf2 hlp (by kernel_rfl) (by kernel_rfl) (by kernel_rfl) (fun call a0 a1 => E154 lp call a0 a1)
/- skewback/skewbackref06.Primitive -/
def A155 : Ann := (.two .leaf (.two .leaf (.two (.two .leaf (.two (.loop ⟨[(1, .same (.ptr K23 4097 [])), (2, .same (.ptr K17 4098 [])), (3, .same (.ptr K11 8195 [])), (4, .dv (Ty.int .i64))], [(4097, .keep K23 1), (4098, .keep K17 2), (8195, .one K11 (.dv K11))], []⟩ [(.exit 0, ⟨[(1, .same (.ptr K23 4097 [])), (2, .same (.ptr K17 4098 [])), (3, .same (.ptr K11 8195 []))], [(4097, .keep K23 1), (4098, .keep K17 2), (8195, .one K11 (.dv K11))], []⟩)] (.two .leaf (.two (.two (.reg [] 5) .leaf) .leaf))) .leaf)) (.two .leaf (.two .leaf (.two .leaf (.two (.two .leaf (.two (.loop ⟨[(1, .same (.ptr K23 4097 [])), (2, .same (.ptr K17 4098 [])), (3, .same (.ptr K11 8195 [])), (5, .same (.ptr K17 28677 [])), (6, .dv (Ty.int .i64))], [(4097, .keep K23 1), (4098, .one K17 (.dv K17)), (8195, .keep K11 3), (28677, .one K17 (.dv K17))], []⟩ [(.ret, ⟨[(2, .same (.ptr K17 4098 []))], [(4098, .one K17 (.dv K17))], []⟩), (.exit 2, ⟨[(2, .same (.ptr K17 4098 [])), (5, .same (.ptr K17 28677 []))], [(4098, .one K17 (.dv K17)), (28677, .one K17 (.dv K17))], []⟩)] (.two .leaf (.two (.two (.two (.reg [] 10) .leaf) .leaf) .leaf))) .leaf)) .leaf)))))))
noncomputable def F155 (lp : Lp) (call : Nat → List D → Option D) (a0 : D) : Option D :=
(call 34 [(D.int .i64 0)]).bind fun r1 =>
(lp (β := Nat × List D) (fun (v2 : List D) =>
(D.bin .lss (v2.getD 0 (.bool false)) (D.int .i64 3)).bind fun x3 =>
(D.truth x3).bind fun b4 =>
 if b4 then ((D.idx (v2.getD 0 (.bool false)) 3).bind fun i5 =>
(D.get a0 [i5]).bind fun x6 =>
(call 85 [(v2.getD 1 (.bool false)), x6]).bind fun r7 =>
(D.bin .add (v2.getD 0 (.bool false)) (D.int .i64 1)).bind fun x8 =>
 some (Sum.inl [x8, r7])) else (some (Sum.inr (0, [(v2.getD 1 (.bool false))])))) [(D.int .i64 0), r1]).bind fun r9 =>
(D.get (r9.2.getD 0 (.bool false)) [0]).bind fun x10 =>
(D.truth x10).bind fun b11 =>
 if b11 then (some (D.st [(D.st [(D.int .i64 0), (D.int .i64 0), (D.int .i64 0)]), (D.int .i64 30)])) else ((call 83 [(r9.2.getD 0 (.bool false))]).bind fun r12 =>
(D.truth (D.bool (D.beq r12 (D.int .i64 0)))).bind fun b13 =>
 if b13 then (some (D.st [(D.st [(D.int .i64 0), (D.int .i64 0), (D.int .i64 0)]), (D.int .i64 31)])) else ((lp (β := Nat × List D) (fun (v14 : List D) =>
(D.bin .lss (v14.getD 0 (.bool false)) (D.int .i64 3)).bind fun x15 =>
(D.truth x15).bind fun b16 =>
 if b16 then ((D.idx (v14.getD 0 (.bool false)) 3).bind fun i17 =>
(D.get a0 [i17]).bind fun x18 =>
(call 87 [x18, (r9.2.getD 0 (.bool false))]).bind fun r19 =>
(call 186 [r19]).bind fun r20 =>
(D.tupAt r20 0).bind fun x21 =>
(D.tupAt r20 1).bind fun x22 =>
(D.un .not x22).bind fun x23 =>
(D.truth x23).bind fun b24 =>
 if b24 then (some (Sum.inr (0, [(D.st [(D.st [(D.int .i64 0), (D.int .i64 0), (D.int .i64 0)]), (D.int .i64 30)])]))) else ((D.idx (v14.getD 0 (.bool false)) 3).bind fun i25 =>
(D.set (v14.getD 2 (.bool false)) [0, i25] x21).bind fun x26 =>
(D.bin .add (v14.getD 0 (.bool false)) (D.int .i64 1)).bind fun x27 =>
 some (Sum.inl [x27, (v14.getD 1 (.bool false)), x26]))) else (some (Sum.inr (1, [(v14.getD 1 (.bool false)), (v14.getD 2 (.bool false))])))) [(D.int .i64 0), (D.st [(D.st [(D.int .i64 0), (D.int .i64 0), (D.int .i64 0)]), (D.int .i64 0)]), (D.st [(D.st [(D.int .i64 0), (D.int .i64 0), (D.int .i64 0)]), (D.int .i64 0)])]).bind fun r28 =>
 if r28.1 = 0 then (some (r28.2.getD 0 (.bool false))) else ((D.get (r28.2.getD 1 (.bool false)) [0]).bind fun x29 =>
(call 187 [x29]).bind fun r30 =>
(D.un .not r30).bind fun x31 =>
(D.truth x31).bind fun b32 =>
 if b32 then (some (D.st [(D.st [(D.int .i64 0), (D.int .i64 0), (D.int .i64 0)]), (D.int .i64 30)])) else (some (r28.2.getD 1 (.bool false))))))
theorem E155 (lp : Lp) (call : Nat → List D → Option D) (a0 : D) : evF (envOf lp call (inlP lp call)) Tryz.f155 A155 [K23] K17 [a0] = F155 lp call a0 := by kernel_rfl
theorem L155 {lp : Lp} (hlp : LpOk lp) : leafOk 155 (fun call xs => match xs with | [a0] => F155 lp call a0 | _ => none) :=
  leaf1 hlp (by kernel_rfl) (by kernel_rfl) (by kernel_rfl) (fun call a0 => E155 lp call a0)
/- skewback/skewbackref12.side -/
def A156 : Ann := (.two .leaf (.two .leaf (.two (.two .leaf (.two (.loop ⟨[(6, .same (.ptr K1 4102 [])), (8, .same (.ptr K1 4104 [])), (11, .same (.ptr K1 8203 [])), (12, .dv (Ty.int .i64))], [(4102, .keep K1 6), (4104, .keep K1 8), (8203, .keep K1 11)], [0, 2]⟩ [(.ret, ⟨[(10, .dv Ty.bool)], [], []⟩), (.exit 0, ⟨[], [], []⟩)] (.two .leaf (.cut [(.normal, ⟨[(6, .same (.ptr K1 4102 [])), (8, .same (.ptr K1 4104 [])), (11, .same (.ptr K1 8203 []))], [(4102, .keep K1 6), (4104, .keep K1 8), (8203, .keep K1 11)], [0, 2, 12]⟩), (.ret, ⟨[(10, .dv Ty.bool)], [], []⟩)] [0, 2, 12] [4102, 4104, 8203] (.two (.two (.two (.reg [] 7) .leaf) (.two (.reg [] 7) (.two (.reg [] 5) .leaf))) .leaf) .leaf))) .leaf)) .leaf)))
noncomputable def F156 (lp : Lp) (call : Nat → List D → Option D) (a0 : D) (a1 : D) (a2 : D) (a3 : D) (a4 : D) : Option D :=
(call 112 [a4, a3]).bind fun r1 =>
(lp (β := Nat × List D) (fun (v2 : List D) =>
(D.asSl a0).bind fun l3 =>
(D.bin .lss (v2.getD 0 (.bool false)) (D.int .i64 (l3.length))).bind fun x4 =>
(D.truth x4).bind fun b5 =>
 if b5 then (((D.asSl a0).bind fun l6 =>
(D.idx (v2.getD 0 (.bool false)) (l6.length)).bind fun i7 =>
(l6[i7]?).bind fun x8 =>
(call 107 [a1, x8]).bind fun r9 =>
(D.truth (D.bool (!(D.beq r9 a2)))).bind fun b10 =>
 if b10 then (some (0, [])) else ((D.asSl a0).bind fun l11 =>
(D.idx (v2.getD 0 (.bool false)) (l11.length)).bind fun i12 =>
(l11[i12]?).bind fun x13 =>
(call 112 [x13, a3]).bind fun r14 =>
(call 123 [r1, r14]).bind fun r15 =>
(call 188 [a1, r15]).bind fun r16 =>
(D.bin .lss r16 (D.int .i64 0)).bind fun x17 =>
(D.truth x17).bind fun b18 =>
(if b18 then (some true) else ((D.truth (D.bool (D.beq r16 (D.int .i64 0)))).bind fun b19 =>
 if b19 then ((call 107 [r14, r1]).bind fun r20 =>
(D.bin .lss r20 (D.int .i64 0)).bind fun x21 =>
(D.truth x21).bind fun b22 =>
 if b22 then (some true) else ((call 107 [r14, r1]).bind fun r23 =>
(call 107 [r1, r1]).bind fun r24 =>
(D.bin .gtr r23 r24).bind fun x25 =>
 D.truth x25)) else (some false))).bind fun b26 =>
(D.truth (D.bool b26)).bind fun b27 =>
 if b27 then (some (1, [(D.bool false)])) else (some (0, [])))).bind fun (r28 : Nat × List D) =>
 if r28.1 = 0 then ((D.bin .add (v2.getD 0 (.bool false)) (D.int .i64 1)).bind fun x29 =>
 some (Sum.inl [x29])) else (some (Sum.inr (0, [(r28.2.getD 0 (.bool false))])))) else (some (Sum.inr (1, [])))) [(D.int .i64 0)]).bind fun r30 =>
 if r30.1 = 0 then (some (r30.2.getD 0 (.bool false))) else (some (D.bool true))
theorem E156 (lp : Lp) (call : Nat → List D → Option D) (a0 : D) (a1 : D) (a2 : D) (a3 : D) (a4 : D) : evF (envOf lp call (inlP lp call)) Tryz.f156 A156 [K2, K1, Ty.int .i64, K1, K1] Ty.bool [a0, a1, a2, a3, a4] = F156 lp call a0 a1 a2 a3 a4 := by kernel_rfl
theorem L156 {lp : Lp} (hlp : LpOk lp) : leafOk 156 (fun call xs => match xs with | [a0, a1, a2, a3, a4] => F156 lp call a0 a1 a2 a3 a4 | _ => none) :=
  leaf5 hlp (by kernel_rfl) (by kernel_rfl) (by kernel_rfl) (fun call a0 a1 a2 a3 a4 => E156 lp call a0 a1 a2 a3 a4)
/- math/bits.Len32 -/
def A165 : Ann := (.two .leaf (.cut [(.normal, ⟨[(0, .dv (Ty.int .u32)), (2, .dv (Ty.int .i64))], [], []⟩)] [] [] .leaf (.cut [(.normal, ⟨[(0, .dv (Ty.int .u32)), (2, .dv (Ty.int .i64))], [], []⟩)] [] [] .leaf .leaf)))
noncomputable def F165 (lp : Lp) (call : Nat → List D → Option D) (a0 : D) : Option D :=
((D.bin .geq a0 (D.int .u32 65536)).bind fun x1 =>
(D.truth x1).bind fun b2 =>
 if b2 then ((D.bin .shr a0 (D.int .u64 16)).bind fun x3 =>
 some (0, [x3, (D.int .i64 16)])) else (some (0, [a0, (D.int .i64 0)]))).bind fun (r4 : Nat × List D) =>
((D.bin .geq (r4.2.getD 0 (.bool false)) (D.int .u32 256)).bind fun x5 =>
(D.truth x5).bind fun b6 =>
 if b6 then ((D.bin .shr (r4.2.getD 0 (.bool false)) (D.int .u64 8)).bind fun x7 =>
(D.bin .add (r4.2.getD 1 (.bool false)) (D.int .i64 8)).bind fun x8 =>
 some (0, [x7, x8])) else (some (0, [(r4.2.getD 0 (.bool false)), (r4.2.getD 1 (.bool false))]))).bind fun (r9 : Nat × List D) =>
(D.conv .u8 (r9.2.getD 0 (.bool false))).bind fun x10 =>
(D.strAt (D.str ((strIn (codeOf Tryz.f165)).getD ByteArray.empty)) x10).bind fun x11 =>
(D.conv .i64 x11).bind fun x12 =>
(D.bin .add (r9.2.getD 1 (.bool false)) x12).bind fun x13 =>
 some x13
theorem E165 (lp : Lp) (call : Nat → List D → Option D) (a0 : D) : evF (envOf lp call (inlP lp call)) Tryz.f165 A165 [Ty.int .u32] (Ty.int .i64) [a0] = F165 lp call a0 := by kernel_rfl
theorem L165 {lp : Lp} (hlp : LpOk lp) : leafOk 165 (fun call xs => match xs with | [a0] => F165 lp call a0 | _ => none) :=
  leaf1 hlp (by kernel_rfl) (by kernel_rfl) (by kernel_rfl) (fun call a0 => E165 lp call a0)
/- skewback/whole.Valid -/
def A167 : Ann := .leaf
noncomputable def F167 (lp : Lp) (call : Nat → List D → Option D) (a0 : D) : Option D :=
(D.get a0 [2]).bind fun x1 =>
(D.get a0 [0]).bind fun x2 =>
(D.truth x2).bind fun b3 =>
 if b3 then ((D.truth (D.bool (D.beq x1 (D.st (D.putParts (List.replicate 16 (D.int .u32 0)) []))))).bind fun b4 =>
(if b4 then ((D.get a0 [1]).bind fun x5 =>
(D.un .not x5).bind fun x6 =>
 D.truth x6) else (some false)).bind fun b7 =>
 some (D.bool b7)) else ((D.un .not (D.bool (D.beq x1 (D.st (D.putParts (List.replicate 16 (D.int .u32 0)) []))))).bind fun x8 =>
(D.truth x8).bind fun b9 =>
(if b9 then (some true) else ((D.get a0 [1]).bind fun x10 =>
(D.un .not x10).bind fun x11 =>
 D.truth x11)).bind fun b12 =>
 some (D.bool b12))
theorem E167 (lp : Lp) (call : Nat → List D → Option D) (a0 : D) : evF (envOf lp call (inlP lp call)) Tryz.f167 A167 [K11] Ty.bool [a0] = F167 lp call a0 := by kernel_rfl
theorem L167 {lp : Lp} (hlp : LpOk lp) : leafOk 167 (fun call xs => match xs with | [a0] => F167 lp call a0 | _ => none) :=
  leaf1 hlp (by kernel_rfl) (by kernel_rfl) (by kernel_rfl) (fun call a0 => E167 lp call a0)
/- cmp.Compare[uint32] -/
def A168 : Ann := .leaf
noncomputable def F168 (lp : Lp) (call : Nat → List D → Option D) (a0 : D) (a1 : D) : Option D :=
(call 194 [a0]).bind fun r1 =>
(call 194 [a1]).bind fun r2 =>
(D.truth r1).bind fun b3 =>
 if b3 then ((D.truth r2).bind fun b4 =>
 if b4 then (some (D.int .i64 0)) else (some (D.int .i64 (-1)))) else ((D.truth r2).bind fun b5 =>
 if b5 then (some (D.int .i64 1)) else ((D.bin .lss a0 a1).bind fun x6 =>
(D.truth x6).bind fun b7 =>
 if b7 then (some (D.int .i64 (-1))) else ((D.bin .gtr a0 a1).bind fun x8 =>
(D.truth x8).bind fun b9 =>
 if b9 then (some (D.int .i64 1)) else (some (D.int .i64 0)))))
theorem E168 (lp : Lp) (call : Nat → List D → Option D) (a0 : D) (a1 : D) : evF (envOf lp call (inlP lp call)) Tryz.f168 A168 [Ty.int .u32, Ty.int .u32] (Ty.int .i64) [a0, a1] = F168 lp call a0 a1 := by kernel_rfl
theorem L168 {lp : Lp} (hlp : LpOk lp) : leafOk 168 (fun call xs => match xs with | [a0, a1] => F168 lp call a0 a1 | _ => none) :=
  leaf2 hlp (by kernel_rfl) (by kernel_rfl) (by kernel_rfl) (fun call a0 a1 => E168 lp call a0 a1)
/- skewback/ratio.one -/
def A169 : Ann := .leaf
noncomputable def F169 (lp : Lp) (call : Nat → List D → Option D)  : Option D :=
(call 54 [(D.int .i64 1)]).bind fun r1 =>
 some r1
theorem E169 (lp : Lp) (call : Nat → List D → Option D)  : evF (envOf lp call (inlP lp call)) Tryz.f169 A169 [] K11 [] = F169 lp call  := by kernel_rfl
theorem L169 {lp : Lp} (hlp : LpOk lp) : leafOk 169 (fun call xs => match xs with | [] => F169 lp call  | _ => none) :=
  leaf0 hlp (by kernel_rfl) (by kernel_rfl) (by kernel_rfl) (fun call  => E169 lp call )
/- skewback/whole.quotient -/
def A170 : Ann := (.two .leaf (.two (.reg [] 5) (.two (.two .leaf (.two (.two (.reg [] 2) .leaf) .leaf)) (.two .leaf (.two .leaf (.two .leaf (.two .leaf (.two .leaf (.two (.reg [] 2) .leaf)))))))))
noncomputable def F170 (lp : Lp) (call : Nat → List D → Option D) (a0 : D) (a1 : D) : Option D :=
(call 127 [a1]).bind fun r1 =>
(call 127 [a0]).bind fun r2 =>
(call 121 [a0, a1]).bind fun r3 =>
(D.bin .lss r3 (D.int .i64 0)).bind fun x4 =>
(D.truth x4).bind fun b5 =>
 if b5 then (some (D.tup [(D.st (D.putParts (List.replicate 16 (D.int .u32 0)) [])), a0])) else ((D.truth (D.bool (D.beq r1 (D.int .i64 1)))).bind fun b6 =>
 if b6 then ((D.get a1 [0]).bind fun x7 =>
(call 195 [a0, x7]).bind fun r8 =>
(D.tupAt r8 0).bind fun x9 =>
(D.tupAt r8 1).bind fun x10 =>
 some (D.tup [x9, (D.st (D.putParts (List.replicate 16 (D.int .u32 0)) [(0, x10)]))])) else ((D.bin .sub r1 (D.int .i64 1)).bind fun x11 =>
(D.idx x11 16).bind fun i12 =>
(D.get a1 [i12]).bind fun x13 =>
(call 196 [x13]).bind fun r14 =>
(call 197 [a1, r14]).bind fun r15 =>
(D.tupAt r15 0).bind fun x16 =>
(D.tupAt r15 1).bind fun x17 =>
(call 197 [a0, r14]).bind fun r18 =>
(D.tupAt r18 0).bind fun x19 =>
(D.tupAt r18 1).bind fun x20 =>
 none))
theorem E170 (lp : Lp) (call : Nat → List D → Option D) (a0 : D) (a1 : D) : evF (envOf lp call (inlP lp call)) Tryz.f170 A170 [K10, K10] K34 [a0, a1] = F170 lp call a0 a1 := by kernel_rfl
theorem L170 {lp : Lp} (hlp : LpOk lp) : leafOk 170 (fun call xs => match xs with | [a0, a1] => F170 lp call a0 a1 | _ => none) :=
  leaf2 hlp (by kernel_rfl) (by kernel_rfl) (by kernel_rfl) (fun call a0 a1 => E170 lp call a0 a1)
/- skewback/whole.divided -/
def A172 : Ann := (.two .leaf (.two .leaf (.cut [(.ret, ⟨[(4, .same (.ptr K11 4100 [])), (5, .same (.ptr K11 4101 []))], [(4100, .one K11 (.dv K11)), (4101, .one K11 (.dv K11))], []⟩), (.normal, ⟨[(2, .same (.ptr K11 4098 [])), (3, .same (.ptr K11 4099 [])), (4, .same (.ptr K11 4100 [])), (5, .same (.ptr K11 4101 []))], [(4098, .keep K11 2), (4099, .keep K11 3), (4100, .one K11 (.dv K11)), (4101, .one K11 (.dv K11))], []⟩)] [] [4098, 4099] (.two .leaf (.two .leaf (.two (.two .leaf (.two .leaf (.two (.two (.reg [] 7) (.cut [(.normal, ⟨[(4, .same (.ptr K11 4100 [])), (5, .same (.ptr K11 4101 [])), (10, .dv (Ty.int .i64)), (11, .dv (Ty.int .i64))], [(4100, .keep K11 4), (4101, .keep K11 5)], []⟩)] [] [4100, 4101] .leaf .leaf)) .leaf))) .leaf))) (.two .leaf (.two .leaf (.cut [(.normal, ⟨[(3, .same (.ptr K11 4099 [])), (4, .same (.ptr K11 4100 [])), (5, .same (.ptr K11 4101 [])), (13, .same (.ptr K10 16397 [])), (14, .same (.ptr K11 20494 []))], [(4099, .keep K11 3), (4100, .keep K11 4), (4101, .keep K11 5), (16397, .one K10 (.dv K10)), (20494, .one K11 (.dv K11))], []⟩)] [] [4099, 4100, 4101] (.two .leaf (.two (.reg [] 7) .leaf)) (.two (.reg [] 5) .leaf)))))))
noncomputable def F172 (lp : Lp) (call : Nat → List D → Option D) (a0 : D) (a1 : D) : Option D :=
(call 118 [(D.sl [a0, a1])]).bind fun r1 =>
(D.un .not r1).bind fun x2 =>
(D.truth x2).bind fun b3 =>
(if b3 then (some true) else ((call 129 [a1]).bind fun r4 =>
 D.truth (D.bool (D.beq r4 (D.int .i64 0))))).bind fun b5 =>
(D.truth (D.bool b5)).bind fun b6 =>
 if b6 then ((call 119 []).bind fun r7 =>
(call 119 []).bind fun r8 =>
 some (D.tup [r7, r8])) else (((call 202 [a0]).bind fun r9 =>
(D.tupAt r9 0).bind fun x10 =>
(D.tupAt r9 1).bind fun x11 =>
(D.truth x11).bind fun b12 =>
(if b12 then (D.truth (D.bool (!(D.beq x10 (D.int .i64 (-9223372036854775808)))))) else (some false)).bind fun b13 =>
(D.truth (D.bool b13)).bind fun b14 =>
 if b14 then ((call 202 [a1]).bind fun r15 =>
(D.tupAt r15 0).bind fun x16 =>
(D.tupAt r15 1).bind fun x17 =>
(D.truth x17).bind fun b18 =>
(if b18 then (D.truth (D.bool (!(D.beq x16 (D.int .i64 (-9223372036854775808)))))) else (some false)).bind fun b19 =>
(D.truth (D.bool b19)).bind fun b20 =>
 if b20 then ((D.bin .quo x10 x16).bind fun x21 =>
(D.bin .rem x10 x16).bind fun x22 =>
((D.truth (D.bool (!(D.beq x22 (D.int .i64 0))))).bind fun b23 =>
(if b23 then ((D.bin .lss x22 (D.int .i64 0)).bind fun x24 =>
(D.bin .lss x16 (D.int .i64 0)).bind fun x25 =>
 D.truth (D.bool (!(D.beq x24 x25)))) else (some false)).bind fun b26 =>
(D.truth (D.bool b26)).bind fun b27 =>
 if b27 then ((D.bin .sub x21 (D.int .i64 1)).bind fun x28 =>
(D.bin .add x22 x16).bind fun x29 =>
 some (0, [x28, x29])) else (some (0, [x21, x22]))).bind fun (r30 : Nat × List D) =>
(call 54 [(r30.2.getD 0 (.bool false))]).bind fun r31 =>
(call 54 [(r30.2.getD 1 (.bool false))]).bind fun r32 =>
 some (0, [r31, r32])) else (some (1, [(D.st [(D.bool false), (D.bool false), (zeroD K10)]), (D.st [(D.bool false), (D.bool false), (zeroD K10)])]))) else (some (1, [(D.st [(D.bool false), (D.bool false), (zeroD K10)]), (D.st [(D.bool false), (D.bool false), (zeroD K10)])]))).bind fun (r33 : Nat × List D) =>
 if r33.1 = 0 then (some (D.tup [(r33.2.getD 0 (.bool false)), (r33.2.getD 1 (.bool false))])) else ((D.get a0 [2]).bind fun x34 =>
(D.get a1 [2]).bind fun x35 =>
(call 170 [x34, x35]).bind fun r36 =>
(D.tupAt r36 0).bind fun x37 =>
(D.tupAt r36 1).bind fun x38 =>
(D.get a0 [1]).bind fun x39 =>
(D.get a1 [1]).bind fun x40 =>
(call 116 [(D.bool (!(D.beq x39 x40))), x37]).bind fun r41 =>
((D.truth (D.bool (!(D.beq x38 (D.st (D.putParts (List.replicate 16 (D.int .u32 0)) [])))))).bind fun b42 =>
(if b42 then ((D.get a0 [1]).bind fun x43 =>
(D.get a1 [1]).bind fun x44 =>
 D.truth (D.bool (!(D.beq x43 x44)))) else (some false)).bind fun b45 =>
(D.truth (D.bool b45)).bind fun b46 =>
 if b46 then ((call 54 [(D.int .i64 1)]).bind fun r47 =>
(call 203 [r41, r47]).bind fun r48 =>
(D.get a1 [2]).bind fun x49 =>
(call 122 [x49, x38]).bind fun r50 =>
 some (0, [r50, r48])) else (some (0, [x38, r41]))).bind fun (r51 : Nat × List D) =>
(D.get a1 [1]).bind fun x52 =>
(call 116 [x52, (r51.2.getD 0 (.bool false))]).bind fun r53 =>
 some (D.tup [(r51.2.getD 1 (.bool false)), r53])))
theorem E172 (lp : Lp) (call : Nat → List D → Option D) (a0 : D) (a1 : D) : evF (envOf lp call (inlP lp call)) Tryz.f172 A172 [K11, K11] K35 [a0, a1] = F172 lp call a0 a1 := by kernel_rfl
theorem L172 {lp : Lp} (hlp : LpOk lp) : leafOk 172 (fun call xs => match xs with | [a0, a1] => F172 lp call a0 a1 | _ => none) :=
  leaf2 hlp (by kernel_rfl) (by kernel_rfl) (by kernel_rfl) (fun call a0 a1 => E172 lp call a0 a1)
/- skewback/ratio.Add -/
def A173 : Ann := (.two .leaf (.two .leaf (.two .leaf (.two (.reg [] 10) (.two (.reg [] 14) .leaf)))))
noncomputable def F173 (lp : Lp) (call : Nat → List D → Option D) (a0 : D) (a1 : D) : Option D :=
(call 136 [a0]).bind fun r1 =>
(D.un .not r1).bind fun x2 =>
(D.truth x2).bind fun b3 =>
(if b3 then (some true) else ((call 136 [a1]).bind fun r4 =>
(D.un .not r4).bind fun x5 =>
 D.truth x5)).bind fun b6 =>
(D.truth (D.bool b6)).bind fun b7 =>
 if b7 then ((call 130 []).bind fun r8 =>
 some r8) else ((D.get a0 [1]).bind fun x9 =>
(D.get a1 [1]).bind fun x10 =>
(call 131 [x9, x10]).bind fun r11 =>
(D.get a0 [1]).bind fun x12 =>
(call 132 [x12, r11]).bind fun r13 =>
(D.get a1 [1]).bind fun x14 =>
(call 132 [x14, r11]).bind fun r15 =>
(D.get a0 [0]).bind fun x16 =>
(call 61 [x16, r15]).bind fun r17 =>
(D.get a1 [0]).bind fun x18 =>
(call 61 [x18, r13]).bind fun r19 =>
(call 57 [r17, r19]).bind fun r20 =>
(D.get a1 [1]).bind fun x21 =>
(call 61 [r13, x21]).bind fun r22 =>
(call 62 [r20, r22]).bind fun r23 =>
 some r23)
theorem E173 (lp : Lp) (call : Nat → List D → Option D) (a0 : D) (a1 : D) : evF (envOf lp call (inlP lp call)) Tryz.f173 A173 [K12, K12] K12 [a0, a1] = F173 lp call a0 a1 := by kernel_rfl
theorem L173 {lp : Lp} (hlp : LpOk lp) : leafOk 173 (fun call xs => match xs with | [a0, a1] => F173 lp call a0 a1 | _ => none) :=
  leaf2 hlp (by kernel_rfl) (by kernel_rfl) (by kernel_rfl) (fun call a0 a1 => E173 lp call a0 a1)
end Go.Proofs.YtjjjkojfijpeeaaGreat.Sy
end
section
/- The program's functions as plain text, checked by the kernel: part Cg. -/
set_option maxRecDepth 20000
set_option maxHeartbeats 0
set_option linter.unusedVariables false
namespace Go.Proofs.YtjjjkojfijpeeaaGreat.Sy
open Go Go.Proofs
/- skewback/ratio.Mul -/
def A174 : Ann := (.two .leaf (.two .leaf (.two (.reg [] 12) (.two (.reg [] 12) .leaf))))
noncomputable def F174 (lp : Lp) (call : Nat → List D → Option D) (a0 : D) (a1 : D) : Option D :=
(call 136 [a0]).bind fun r1 =>
(D.un .not r1).bind fun x2 =>
(D.truth x2).bind fun b3 =>
(if b3 then (some true) else ((call 136 [a1]).bind fun r4 =>
(D.un .not r4).bind fun x5 =>
 D.truth x5)).bind fun b6 =>
(D.truth (D.bool b6)).bind fun b7 =>
 if b7 then ((call 130 []).bind fun r8 =>
 some r8) else ((D.get a0 [0]).bind fun x9 =>
(D.get a1 [1]).bind fun x10 =>
(call 62 [x9, x10]).bind fun r11 =>
(D.get a1 [0]).bind fun x12 =>
(D.get a0 [1]).bind fun x13 =>
(call 62 [x12, x13]).bind fun r14 =>
(D.get r11 [0]).bind fun x15 =>
(D.get r14 [0]).bind fun x16 =>
(call 61 [x15, x16]).bind fun r17 =>
(D.get r11 [1]).bind fun x18 =>
(D.get r14 [1]).bind fun x19 =>
(call 61 [x18, x19]).bind fun r20 =>
(D.get r17 [0]).bind fun x21 =>
(D.truth x21).bind fun b22 =>
(if b22 then (some true) else ((D.get r20 [0]).bind fun x23 =>
 D.truth x23)).bind fun b24 =>
(D.truth (D.bool b24)).bind fun b25 =>
 if b25 then ((call 130 []).bind fun r26 =>
 some r26) else (some (D.st [r17, r20])))
theorem E174 (lp : Lp) (call : Nat → List D → Option D) (a0 : D) (a1 : D) : evF (envOf lp call (inlP lp call)) Tryz.f174 A174 [K12, K12] K12 [a0, a1] = F174 lp call a0 a1 := by kernel_rfl
theorem L174 {lp : Lp} (hlp : LpOk lp) : leafOk 174 (fun call xs => match xs with | [a0, a1] => F174 lp call a0 a1 | _ => none) :=
  leaf2 hlp (by kernel_rfl) (by kernel_rfl) (by kernel_rfl) (fun call a0 a1 => E174 lp call a0 a1)
/- skewback/skewbackref03.at -/
def A175 : Ann := .leaf
noncomputable def F175 (lp : Lp) (call : Nat → List D → Option D) (a0 : D) (a1 : D) : Option D :=
(D.bin .lss a1 (D.int .i64 0)).bind fun x1 =>
(D.truth x1).bind fun b2 =>
 if b2 then (some (D.int .i64 0)) else ((call 141 [a0, a1]).bind fun r3 =>
 some r3)
theorem E175 (lp : Lp) (call : Nat → List D → Option D) (a0 : D) (a1 : D) : evF (envOf lp call (inlP lp call)) Tryz.f175 A175 [K5, Ty.int .i64] (Ty.int .i64) [a0, a1] = F175 lp call a0 a1 := by kernel_rfl
theorem L175 {lp : Lp} (hlp : LpOk lp) : leafOk 175 (fun call xs => match xs with | [a0, a1] => F175 lp call a0 a1 | _ => none) :=
  leaf2 hlp (by kernel_rfl) (by kernel_rfl) (by kernel_rfl) (fun call a0 a1 => E175 lp call a0 a1)
/- skewback/skewbackref03.Small -/
def A186 : Ann := (.two .leaf (.two .leaf (.two .leaf (.two .leaf (.two .leaf (.two .leaf (.cut [(.normal, ⟨[(6, .dv (Ty.int .i64))], [], []⟩)] [] [] .leaf .leaf)))))))
noncomputable def F186 (lp : Lp) (call : Nat → List D → Option D) (a0 : D) : Option D :=
(call 76 [a0]).bind fun r1 =>
(D.un .not r1).bind fun x2 =>
(D.truth x2).bind fun b3 =>
 if b3 then (some (D.tup [(D.int .i64 0), (D.bool false)])) else ((call 34 [(D.int .i64 (-9223372036854775808))]).bind fun r4 =>
(call 34 [(D.int .i64 9223372036854775807)]).bind fun r5 =>
(call 32 [a0, r4]).bind fun r6 =>
(D.bin .lss r6 (D.int .i64 0)).bind fun x7 =>
(D.truth x7).bind fun b8 =>
(if b8 then (some true) else ((call 32 [a0, r5]).bind fun r9 =>
(D.bin .gtr r9 (D.int .i64 0)).bind fun x10 =>
 D.truth x10)).bind fun b11 =>
(D.truth (D.bool b11)).bind fun b12 =>
 if b12 then (some (D.tup [(D.int .i64 0), (D.bool false)])) else ((D.get a0 [2, 1]).bind fun x13 =>
(D.conv .u64 x13).bind fun x14 =>
(D.bin .mul x14 (D.int .u64 4294967296)).bind fun x15 =>
(D.get a0 [2, 0]).bind fun x16 =>
(D.conv .u64 x16).bind fun x17 =>
(D.bin .add x15 x17).bind fun x18 =>
(D.conv .i64 x18).bind fun x19 =>
((D.get a0 [1]).bind fun x20 =>
(D.truth x20).bind fun b21 =>
 if b21 then ((D.un .neg x19).bind fun x22 =>
 some (0, [x22])) else (some (0, [x19]))).bind fun (r23 : Nat × List D) =>
 some (D.tup [(r23.2.getD 0 (.bool false)), (D.bool true)])))
theorem E186 (lp : Lp) (call : Nat → List D → Option D) (a0 : D) : evF (envOf lp call (inlP lp call)) Tryz.f186 A186 [K11] K32 [a0] = F186 lp call a0 := by kernel_rfl
theorem L186 {lp : Lp} (hlp : LpOk lp) : leafOk 186 (fun call xs => match xs with | [a0] => F186 lp call a0 | _ => none) :=
  leaf1 hlp (by kernel_rfl) (by kernel_rfl) (by kernel_rfl) (fun call a0 => E186 lp call a0)
/- skewback/skewbackref06.Small -/
def A187 : Ann := (.two .leaf (.two (.two .leaf (.two (.loop ⟨[(1, .same (.ptr K1 4097 [])), (3, .dv (Ty.int .i64))], [(4097, .keep K1 1)], []⟩ [(.ret, ⟨[(2, .dv Ty.bool)], [], []⟩), (.exit 0, ⟨[], [], []⟩)] .leaf) .leaf)) .leaf))
noncomputable def F187 (lp : Lp) (call : Nat → List D → Option D) (a0 : D) : Option D :=
(lp (β := Nat × List D) (fun (v1 : List D) =>
(D.bin .lss (v1.getD 0 (.bool false)) (D.int .i64 3)).bind fun x2 =>
(D.truth x2).bind fun b3 =>
 if b3 then ((D.idx (v1.getD 0 (.bool false)) 3).bind fun i4 =>
(D.get a0 [i4]).bind fun x5 =>
(D.bin .geq x5 (D.int .i64 2305843009213693952)).bind fun x6 =>
(D.truth x6).bind fun b7 =>
(if b7 then (some true) else ((D.idx (v1.getD 0 (.bool false)) 3).bind fun i8 =>
(D.get a0 [i8]).bind fun x9 =>
(D.bin .leq x9 (D.int .i64 (-2305843009213693952))).bind fun x10 =>
 D.truth x10)).bind fun b11 =>
(D.truth (D.bool b11)).bind fun b12 =>
 if b12 then (some (Sum.inr (0, [(D.bool false)]))) else ((D.bin .add (v1.getD 0 (.bool false)) (D.int .i64 1)).bind fun x13 =>
 some (Sum.inl [x13]))) else (some (Sum.inr (1, [])))) [(D.int .i64 0)]).bind fun r14 =>
 if r14.1 = 0 then (some (r14.2.getD 0 (.bool false))) else (some (D.bool true))
theorem E187 (lp : Lp) (call : Nat → List D → Option D) (a0 : D) : evF (envOf lp call (inlP lp call)) Tryz.f187 A187 [K1] Ty.bool [a0] = F187 lp call a0 := by kernel_rfl
theorem L187 {lp : Lp} (hlp : LpOk lp) : leafOk 187 (fun call xs => match xs with | [a0] => F187 lp call a0 | _ => none) :=
  leaf1 hlp (by kernel_rfl) (by kernel_rfl) (by kernel_rfl) (fun call a0 => E187 lp call a0)
/- skewback/skewbackref12.left -/
def A188 : Ann := (.two .leaf (.two (.two .leaf (.two (.loop ⟨[(2, .same (.ptr K1 4098 [])), (3, .same (.ptr K1 4099 [])), (5, .dv (Ty.int .i64))], [(4098, .keep K1 2), (4099, .keep K1 3)], []⟩ [(.ret, ⟨[(4, .dv (Ty.int .i64))], [], []⟩), (.exit 0, ⟨[], [], []⟩)] (.two .leaf (.two (.two (.two .leaf (.two (.two (.reg [] 9) .leaf) .leaf)) .leaf) .leaf))) .leaf)) .leaf))
noncomputable def F188 (lp : Lp) (call : Nat → List D → Option D) (a0 : D) (a1 : D) : Option D :=
(lp (β := Nat × List D) (fun (v1 : List D) =>
(D.bin .lss (v1.getD 0 (.bool false)) (D.int .i64 3)).bind fun x2 =>
(D.truth x2).bind fun b3 =>
 if b3 then ((D.idx (v1.getD 0 (.bool false)) 3).bind fun i4 =>
(D.get a0 [i4]).bind fun x5 =>
(D.truth (D.bool (!(D.beq x5 (D.int .i64 0))))).bind fun b6 =>
 if b6 then ((D.idx (v1.getD 0 (.bool false)) 3).bind fun i7 =>
(D.get a0 [i7]).bind fun x8 =>
(call 215 [x8]).bind fun r9 =>
(D.idx (v1.getD 0 (.bool false)) 3).bind fun i10 =>
(D.get a1 [i10]).bind fun x11 =>
(call 215 [x11]).bind fun r12 =>
(D.bin .mul r9 r12).bind fun x13 =>
 some (Sum.inr (0, [x13]))) else ((D.bin .add (v1.getD 0 (.bool false)) (D.int .i64 1)).bind fun x14 =>
 some (Sum.inl [x14]))) else (some (Sum.inr (1, [])))) [(D.int .i64 0)]).bind fun r15 =>
 if r15.1 = 0 then (some (r15.2.getD 0 (.bool false))) else (some (D.int .i64 0))
theorem E188 (lp : Lp) (call : Nat → List D → Option D) (a0 : D) (a1 : D) : evF (envOf lp call (inlP lp call)) Tryz.f188 A188 [K1, K1] (Ty.int .i64) [a0, a1] = F188 lp call a0 a1 := by kernel_rfl
theorem L188 {lp : Lp} (hlp : LpOk lp) : leafOk 188 (fun call xs => match xs with | [a0, a1] => F188 lp call a0 a1 | _ => none) :=
  leaf2 hlp (by kernel_rfl) (by kernel_rfl) (by kernel_rfl) (fun call a0 a1 => E188 lp call a0 a1)
/- cmp.isNaN[uint32] -/
def A194 : Ann := .leaf
noncomputable def F194 (lp : Lp) (call : Nat → List D → Option D) (a0 : D) : Option D :=
 some (D.bool (!(D.beq a0 a0)))
theorem E194 (lp : Lp) (call : Nat → List D → Option D) (a0 : D) : evF (envOf lp call (inlP lp call)) Tryz.f194 A194 [Ty.int .u32] Ty.bool [a0] = F194 lp call a0 := by kernel_rfl
theorem L194 {lp : Lp} (hlp : LpOk lp) : leafOk 194 (fun call xs => match xs with | [a0] => F194 lp call a0 | _ => none) :=
  leaf1 hlp (by kernel_rfl) (by kernel_rfl) (by kernel_rfl) (fun call a0 => E194 lp call a0)
/- skewback/whole.short -/
def A195 : Ann := (.two .leaf (.two .leaf (.two (.two .leaf (.two (.loop ⟨[(2, .same (.ptr K10 4098 [])), (4, .same (.ptr K10 4100 [])), (6, .dv (Ty.int .u64)), (7, .dv (Ty.int .i64))], [(4098, .keep K10 2), (4100, .one K10 (.dv K10))], [1]⟩ [(.exit 0, ⟨[(4, .same (.ptr K10 4100 [])), (6, .dv (Ty.int .u64))], [(4100, .one K10 (.dv K10))], []⟩)] .leaf) .leaf)) .leaf)))
noncomputable def F195 (lp : Lp) (call : Nat → List D → Option D) (a0 : D) (a1 : D) : Option D :=
(lp (β := Nat × List D) (fun (v1 : List D) =>
(D.bin .geq (v1.getD 1 (.bool false)) (D.int .i64 0)).bind fun x2 =>
(D.truth x2).bind fun b3 =>
 if b3 then ((D.bin .shl (v1.getD 0 (.bool false)) (D.int .u64 32)).bind fun x4 =>
(D.idx (v1.getD 1 (.bool false)) 16).bind fun i5 =>
(D.get a0 [i5]).bind fun x6 =>
(D.conv .u64 x6).bind fun x7 =>
(D.bin .or x4 x7).bind fun x8 =>
(D.conv .u64 a1).bind fun x9 =>
(D.bin .quo x8 x9).bind fun x10 =>
(D.conv .u32 x10).bind fun x11 =>
(D.idx (v1.getD 1 (.bool false)) 16).bind fun i12 =>
(D.set (v1.getD 2 (.bool false)) [i12] x11).bind fun x13 =>
(D.conv .u64 a1).bind fun x14 =>
(D.bin .rem x8 x14).bind fun x15 =>
(D.bin .sub (v1.getD 1 (.bool false)) (D.int .i64 1)).bind fun x16 =>
 some (Sum.inl [x15, x16, x13])) else (some (Sum.inr (0, [(v1.getD 0 (.bool false)), (v1.getD 2 (.bool false))])))) [(D.int .u64 0), (D.int .i64 15), (zeroD K10)]).bind fun r17 =>
(D.conv .u32 (r17.2.getD 0 (.bool false))).bind fun x18 =>
 some (D.tup [(r17.2.getD 1 (.bool false)), x18])
theorem E195 (lp : Lp) (call : Nat → List D → Option D) (a0 : D) (a1 : D) : evF (envOf lp call (inlP lp call)) Tryz.f195 A195 [K10, Ty.int .u32] K36 [a0, a1] = F195 lp call a0 a1 := by kernel_rfl
theorem L195 {lp : Lp} (hlp : LpOk lp) : leafOk 195 (fun call xs => match xs with | [a0, a1] => F195 lp call a0 a1 | _ => none) :=
  leaf2 hlp (by kernel_rfl) (by kernel_rfl) (by kernel_rfl) (fun call a0 a1 => E195 lp call a0 a1)
/- math/bits.LeadingZeros32 -/
def A196 : Ann := .leaf
noncomputable def F196 (lp : Lp) (call : Nat → List D → Option D) (a0 : D) : Option D :=
(call 165 [a0]).bind fun r1 =>
(D.bin .sub (D.int .i64 32) r1).bind fun x2 =>
 some x2
theorem E196 (lp : Lp) (call : Nat → List D → Option D) (a0 : D) : evF (envOf lp call (inlP lp call)) Tryz.f196 A196 [Ty.int .u32] (Ty.int .i64) [a0] = F196 lp call a0 := by kernel_rfl
theorem L196 {lp : Lp} (hlp : LpOk lp) : leafOk 196 (fun call xs => match xs with | [a0] => F196 lp call a0 | _ => none) :=
  leaf1 hlp (by kernel_rfl) (by kernel_rfl) (by kernel_rfl) (fun call a0 => E196 lp call a0)
/- skewback/whole.up -/
def A197 : Ann := (.two .leaf (.two .leaf (.two .leaf (.two (.two .leaf (.two (.loop ⟨[(2, .same (.ptr K10 4098 [])), (4, .same (.ptr K10 4100 [])), (6, .same (.ptr K10 8198 [])), (7, .dv (Ty.int .u64)), (9, .dv (Ty.int .i64))], [(4098, .keep K10 2), (4100, .keep K10 4), (8198, .one K10 (.dv K10))], [1]⟩ [(.exit 0, ⟨[(4, .same (.ptr K10 4100 [])), (6, .same (.ptr K10 8198 [])), (7, .dv (Ty.int .u64))], [(4100, .keep K10 4), (8198, .one K10 (.dv K10))], []⟩)] .leaf) .leaf)) .leaf))))
noncomputable def F197 (lp : Lp) (call : Nat → List D → Option D) (a0 : D) (a1 : D) : Option D :=
(lp (β := Nat × List D) (fun (v1 : List D) =>
(D.bin .lss (v1.getD 1 (.bool false)) (D.int .i64 16)).bind fun x2 =>
(D.truth x2).bind fun b3 =>
 if b3 then ((D.idx (v1.getD 1 (.bool false)) 16).bind fun i4 =>
(D.get a0 [i4]).bind fun x5 =>
(D.conv .u64 x5).bind fun x6 =>
(D.bin .shl x6 a1).bind fun x7 =>
(D.bin .or (v1.getD 0 (.bool false)) x7).bind fun x8 =>
(D.conv .u32 x8).bind fun x9 =>
(D.idx (v1.getD 1 (.bool false)) 16).bind fun i10 =>
(D.set (v1.getD 2 (.bool false)) [i10] x9).bind fun x11 =>
(D.bin .shr x8 (D.int .u64 32)).bind fun x12 =>
(D.bin .add (v1.getD 1 (.bool false)) (D.int .i64 1)).bind fun x13 =>
 some (Sum.inl [x12, x13, x11])) else (some (Sum.inr (0, [(v1.getD 0 (.bool false)), (v1.getD 2 (.bool false))])))) [(D.int .u64 0), (D.int .i64 0), (zeroD K10)]).bind fun r14 =>
(D.conv .u32 (r14.2.getD 0 (.bool false))).bind fun x15 =>
 some (D.tup [(r14.2.getD 1 (.bool false)), x15])
theorem E197 (lp : Lp) (call : Nat → List D → Option D) (a0 : D) (a1 : D) : evF (envOf lp call (inlP lp call)) Tryz.f197 A197 [K10, Ty.int .i64] K36 [a0, a1] = F197 lp call a0 a1 := by kernel_rfl
theorem L197 {lp : Lp} (hlp : LpOk lp) : leafOk 197 (fun call xs => match xs with | [a0, a1] => F197 lp call a0 a1 | _ => none) :=
  leaf2 hlp (by kernel_rfl) (by kernel_rfl) (by kernel_rfl) (fun call a0 a1 => E197 lp call a0 a1)
/- skewback/whole.Small -/
def A202 : Ann := .leaf
noncomputable def F202 (lp : Lp) (call : Nat → List D → Option D) (a0 : D) : Option D :=
(call 118 [(D.sl [a0])]).bind fun r1 =>
(D.un .not r1).bind fun x2 =>
(D.truth x2).bind fun b3 =>
(if b3 then (some true) else ((call 217 [a0]).bind fun r4 =>
(D.bin .gtr r4 (D.int .i64 64)).bind fun x5 =>
 D.truth x5)).bind fun b6 =>
(D.truth (D.bool b6)).bind fun b7 =>
 if b7 then (some (D.tup [(D.int .i64 0), (D.bool false)])) else ((D.get a0 [2, 1]).bind fun x8 =>
(D.conv .u64 x8).bind fun x9 =>
(D.bin .shl x9 (D.int .u64 32)).bind fun x10 =>
(D.get a0 [2, 0]).bind fun x11 =>
(D.conv .u64 x11).bind fun x12 =>
(D.bin .or x10 x12).bind fun x13 =>
(D.get a0 [1]).bind fun x14 =>
(D.truth x14).bind fun b15 =>
(if b15 then ((D.bin .leq x13 (D.int .u64 9223372036854775808)).bind fun x16 =>
 D.truth x16) else (some false)).bind fun b17 =>
(D.truth (D.bool b17)).bind fun b18 =>
 if b18 then ((D.un .neg x13).bind fun x19 =>
(D.conv .i64 x19).bind fun x20 =>
 some (D.tup [x20, (D.bool true)])) else ((D.get a0 [1]).bind fun x21 =>
(D.un .not x21).bind fun x22 =>
(D.truth x22).bind fun b23 =>
(if b23 then ((D.bin .lss x13 (D.int .u64 9223372036854775808)).bind fun x24 =>
 D.truth x24) else (some false)).bind fun b25 =>
(D.truth (D.bool b25)).bind fun b26 =>
 if b26 then ((D.conv .i64 x13).bind fun x27 =>
 some (D.tup [x27, (D.bool true)])) else (some (D.tup [(D.int .i64 0), (D.bool false)]))))
theorem E202 (lp : Lp) (call : Nat → List D → Option D) (a0 : D) : evF (envOf lp call (inlP lp call)) Tryz.f202 A202 [K11] K32 [a0] = F202 lp call a0 := by kernel_rfl
theorem L202 {lp : Lp} (hlp : LpOk lp) : leafOk 202 (fun call xs => match xs with | [a0] => F202 lp call a0 | _ => none) :=
  leaf1 hlp (by kernel_rfl) (by kernel_rfl) (by kernel_rfl) (fun call a0 => E202 lp call a0)
/- skewback/whole.Sub -/
def A203 : Ann := (.two .leaf (.two (.reg [] 4) .leaf))
noncomputable def F203 (lp : Lp) (call : Nat → List D → Option D) (a0 : D) (a1 : D) : Option D :=
(call 68 [a1]).bind fun r1 =>
(call 57 [a0, r1]).bind fun r2 =>
 some r2
theorem E203 (lp : Lp) (call : Nat → List D → Option D) (a0 : D) (a1 : D) : evF (envOf lp call (inlP lp call)) Tryz.f203 A203 [K11, K11] K11 [a0, a1] = F203 lp call a0 a1 := by kernel_rfl
theorem L203 {lp : Lp} (hlp : LpOk lp) : leafOk 203 (fun call xs => match xs with | [a0, a1] => F203 lp call a0 a1 | _ => none) :=
  leaf2 hlp (by kernel_rfl) (by kernel_rfl) (by kernel_rfl) (fun call a0 a1 => E203 lp call a0 a1)
/- skewback/skewbackref12.sign -/
def A215 : Ann := .leaf
noncomputable def F215 (lp : Lp) (call : Nat → List D → Option D) (a0 : D) : Option D :=
(D.bin .lss a0 (D.int .i64 0)).bind fun x1 =>
(D.truth x1).bind fun b2 =>
 if b2 then (some (D.int .i64 (-1))) else ((D.bin .gtr a0 (D.int .i64 0)).bind fun x3 =>
(D.truth x3).bind fun b4 =>
 if b4 then (some (D.int .i64 1)) else (some (D.int .i64 0)))
theorem E215 (lp : Lp) (call : Nat → List D → Option D) (a0 : D) : evF (envOf lp call (inlP lp call)) Tryz.f215 A215 [Ty.int .i64] (Ty.int .i64) [a0] = F215 lp call a0 := by kernel_rfl
theorem L215 {lp : Lp} (hlp : LpOk lp) : leafOk 215 (fun call xs => match xs with | [a0] => F215 lp call a0 | _ => none) :=
  leaf1 hlp (by kernel_rfl) (by kernel_rfl) (by kernel_rfl) (fun call a0 => E215 lp call a0)
/- skewback/whole.Bits -/
def A217 : Ann := .leaf
noncomputable def F217 (lp : Lp) (call : Nat → List D → Option D) (a0 : D) : Option D :=
(D.get a0 [2]).bind fun x1 =>
(call 127 [x1]).bind fun r2 =>
(call 118 [(D.sl [a0])]).bind fun r3 =>
(D.un .not r3).bind fun x4 =>
(D.truth x4).bind fun b5 =>
(if b5 then (some true) else (D.truth (D.bool (D.beq r2 (D.int .i64 0))))).bind fun b6 =>
(D.truth (D.bool b6)).bind fun b7 =>
 if b7 then (some (D.int .i64 0)) else ((D.bin .sub r2 (D.int .i64 1)).bind fun x8 =>
(D.bin .mul (D.int .i64 32) x8).bind fun x9 =>
(D.bin .sub r2 (D.int .i64 1)).bind fun x10 =>
(D.idx x10 16).bind fun i11 =>
(D.get a0 [2, i11]).bind fun x12 =>
(call 165 [x12]).bind fun r13 =>
(D.bin .add x9 r13).bind fun x14 =>
 some x14)
theorem E217 (lp : Lp) (call : Nat → List D → Option D) (a0 : D) : evF (envOf lp call (inlP lp call)) Tryz.f217 A217 [K11] (Ty.int .i64) [a0] = F217 lp call a0 := by kernel_rfl
theorem L217 {lp : Lp} (hlp : LpOk lp) : leafOk 217 (fun call xs => match xs with | [a0] => F217 lp call a0 | _ => none) :=
  leaf1 hlp (by kernel_rfl) (by kernel_rfl) (by kernel_rfl) (fun call a0 => E217 lp call a0)
end Go.Proofs.YtjjjkojfijpeeaaGreat.Sy
end
