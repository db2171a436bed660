/- Part 8 of the proof of this: HullFacetsMatchSpec answers true at every input, and the input reads afterwards as it read before (HullFacetsMatchSpecSaid). No condition. -/
import Derived.Test.YtjjjkojfijpeeaaGreatFacets06
set_option linter.unusedVariables false
set_option linter.unusedSimpArgs false
set_option linter.unnecessarySimpa false
section
/- The program's functions as plain text, checked by the kernel: part Cc. -/
set_option maxRecDepth 20000
set_option maxHeartbeats 0
set_option linter.unusedVariables false
namespace Go.Proofs.YtjjjkojfijpeeaaGreat.Sy
open Go Go.Proofs
/- skewback/hull.Contains -/
def A30 : Ann := (.two .leaf (.two .leaf (.two .leaf (.two (.two .leaf (.two (.loop ⟨[(3, .same (.ptr K13 4099 [])), (5, .dv (Ty.int .i64)), (15, .dv (Ty.int .i64))], [(4099, .keep K13 3)], [13, 14]⟩ [(.ret, ⟨[(4, .dv (Ty.int .i64))], [], []⟩), (.exit 0, ⟨[(5, .dv (Ty.int .i64))], [], []⟩)] (.two .leaf (.two .leaf (.two (.two (.two .leaf (.two .leaf (.two .leaf (.reg [] 7)))) .leaf) .leaf)))) .leaf)) .leaf))))
noncomputable def F30 (lp : Lp) (call : Nat → List D → Option D) (a0 : D) (a1 : D) : Option D :=
(call 71 [a1]).bind fun r1 =>
(D.truth r1).bind fun b2 =>
 if b2 then (some (D.int .i64 (-1))) else ((D.get a0 [0]).bind fun x3 =>
(call 45 [x3]).bind fun r4 =>
(D.asSl r4).bind fun l5 =>
(lp (β := Nat × List D) (fun (v6 : List D) =>
(D.bin .lss (v6.getD 1 (.bool false)) (D.int .i64 (l5.length))).bind fun x7 =>
(D.truth x7).bind fun b8 =>
 if b8 then ((D.asSl r4).bind fun l9 =>
(D.idx (v6.getD 1 (.bool false)) (l9.length)).bind fun i10 =>
(l9[i10]?).bind fun x11 =>
(D.get x11 [0]).bind fun x12 =>
(call 72 [x12, a1]).bind fun r13 =>
(D.get r13 [0, 0]).bind fun x14 =>
(D.truth x14).bind fun b15 =>
 if b15 then (some (Sum.inr (0, [(D.int .i64 (-1))]))) else ((D.get x11 [1]).bind fun x16 =>
(call 74 [x16]).bind fun r17 =>
(call 73 [r17, r13]).bind fun r18 =>
(D.min2 (v6.getD 0 (.bool false)) r18).bind fun x19 =>
(D.bin .add (v6.getD 1 (.bool false)) (D.int .i64 1)).bind fun x20 =>
 some (Sum.inl [x19, x20]))) else (some (Sum.inr (1, [(v6.getD 0 (.bool false))])))) [(D.int .i64 1), (D.int .i64 0)]).bind fun r21 =>
 if r21.1 = 0 then (some (r21.2.getD 0 (.bool false))) else (some (r21.2.getD 0 (.bool false))))
theorem E30 (lp : Lp) (call : Nat → List D → Option D) (a0 : D) (a1 : D) : evF (envOf lp call (inlP lp call)) Tryz.f30 A30 [K3, K13] (Ty.int .i64) [a0, a1] = F30 lp call a0 a1 := by kernel_rfl
theorem L30 {lp : Lp} (hlp : LpOk lp) : leafOk 30 (fun call xs => match xs with | [a0, a1] => F30 lp call a0 a1 | _ => none) :=
  leaf2 hlp (by kernel_rfl) (by kernel_rfl) (by kernel_rfl) (fun call a0 a1 => E30 lp call a0 a1)
/- skewback/skewbackref06.Of -/
def A31 : Ann := (.two .leaf (.two (.reg [] 10) .leaf))
noncomputable def F31 (lp : Lp) (call : Nat → List D → Option D) (a0 : D) : Option D :=
(D.get a0 [0]).bind fun x1 =>
(call 75 [x1]).bind fun r2 =>
(D.get a0 [1]).bind fun x3 =>
(call 75 [x3]).bind fun r4 =>
(D.get a0 [2]).bind fun x5 =>
(call 75 [x5]).bind fun r6 =>
 some (D.st [r2, r4, r6])
theorem E31 (lp : Lp) (call : Nat → List D → Option D) (a0 : D) : evF (envOf lp call (inlP lp call)) Tryz.f31 A31 [K1] K13 [a0] = F31 lp call a0 := by kernel_rfl
theorem L31 {lp : Lp} (hlp : LpOk lp) : leafOk 31 (fun call xs => match xs with | [a0] => F31 lp call a0 | _ => none) :=
  leaf1 hlp (by kernel_rfl) (by kernel_rfl) (by kernel_rfl) (fun call a0 => E31 lp call a0)
/- skewback/skewbackref03.Cmp -/
def A32 : Ann := (.two .leaf (.two .leaf (.two .leaf (.two .leaf (.two .leaf (.two .leaf (.two .leaf (.cut [(.normal, ⟨[(5, .dv K5), (6, .dv K5)], [], []⟩)] [] [] .leaf .leaf))))))))
noncomputable def F32 (lp : Lp) (call : Nat → List D → Option D) (a0 : D) (a1 : D) : Option D :=
(call 76 [a0]).bind fun r1 =>
(D.un .not r1).bind fun x2 =>
(D.truth x2).bind fun b3 =>
(if b3 then ((call 76 [a1]).bind fun r4 =>
(D.un .not r4).bind fun x5 =>
 D.truth x5) else (some false)).bind fun b6 =>
(D.truth (D.bool b6)).bind fun b7 =>
 if b7 then (some (D.int .i64 0)) else ((call 76 [a0]).bind fun r8 =>
(D.un .not r8).bind fun x9 =>
(D.truth x9).bind fun b10 =>
 if b10 then (some (D.int .i64 (-1))) else ((call 76 [a1]).bind fun r11 =>
(D.un .not r11).bind fun x12 =>
(D.truth x12).bind fun b13 =>
 if b13 then (some (D.int .i64 1)) else ((D.get a0 [1]).bind fun x14 =>
(D.get a1 [1]).bind fun x15 =>
(D.truth (D.bool (!(D.beq x14 x15)))).bind fun b16 =>
 if b16 then ((D.get a0 [1]).bind fun x17 =>
(D.truth x17).bind fun b18 =>
 if b18 then (some (D.int .i64 (-1))) else (some (D.int .i64 1))) else ((call 77 [a0]).bind fun r19 =>
(call 77 [a1]).bind fun r20 =>
((D.get a0 [1]).bind fun x21 =>
(D.truth x21).bind fun b22 =>
 if b22 then ((call 77 [a1]).bind fun r23 =>
(call 77 [a0]).bind fun r24 =>
 some (0, [r23, r24])) else (some (0, [r19, r20]))).bind fun (r25 : Nat × List D) =>
(call 78 [(r25.2.getD 0 (.bool false)), (r25.2.getD 1 (.bool false))]).bind fun r26 =>
(call 78 [(r25.2.getD 1 (.bool false)), (r25.2.getD 0 (.bool false))]).bind fun r27 =>
(D.truth r26).bind fun b28 =>
 if b28 then (some (D.int .i64 (-1))) else ((D.truth r27).bind fun b29 =>
 if b29 then (some (D.int .i64 1)) else (some (D.int .i64 0)))))))
theorem E32 (lp : Lp) (call : Nat → List D → Option D) (a0 : D) (a1 : D) : evF (envOf lp call (inlP lp call)) Tryz.f32 A32 [K11, K11] (Ty.int .i64) [a0, a1] = F32 lp call a0 a1 := by kernel_rfl
theorem L32 {lp : Lp} (hlp : LpOk lp) : leafOk 32 (fun call xs => match xs with | [a0, a1] => F32 lp call a0 a1 | _ => none) :=
  leaf2 hlp (by kernel_rfl) (by kernel_rfl) (by kernel_rfl) (fun call a0 a1 => E32 lp call a0 a1)
/- skewback/skewbackref03.Of -/
def A34 : Ann := .leaf
noncomputable def F34 (lp : Lp) (call : Nat → List D → Option D) (a0 : D) : Option D :=
(D.bin .geq a0 (D.int .i64 0)).bind fun x1 =>
(D.truth x1).bind fun b2 =>
 if b2 then ((D.bin .rem a0 (D.int .i64 65536)).bind fun x3 =>
(D.bin .quo a0 (D.int .i64 65536)).bind fun x4 =>
(D.bin .rem x4 (D.int .i64 65536)).bind fun x5 =>
(D.bin .quo a0 (D.int .i64 4294967296)).bind fun x6 =>
(D.bin .rem x6 (D.int .i64 65536)).bind fun x7 =>
(D.bin .quo a0 (D.int .i64 281474976710656)).bind fun x8 =>
(call 81 [(D.bool false), (D.sl [x3, x5, x7, x8])]).bind fun r9 =>
 some r9) else ((D.bin .add a0 (D.int .i64 1)).bind fun x10 =>
(D.un .neg x10).bind fun x11 =>
(D.bin .rem x11 (D.int .i64 65536)).bind fun x12 =>
(D.bin .quo x11 (D.int .i64 65536)).bind fun x13 =>
(D.bin .rem x13 (D.int .i64 65536)).bind fun x14 =>
(D.bin .quo x11 (D.int .i64 4294967296)).bind fun x15 =>
(D.bin .rem x15 (D.int .i64 65536)).bind fun x16 =>
(D.bin .quo x11 (D.int .i64 281474976710656)).bind fun x17 =>
(call 82 [(D.sl [x12, x14, x16, x17]), (D.sl [(D.int .i64 1)])]).bind fun r18 =>
(call 81 [(D.bool true), r18]).bind fun r19 =>
 some r19)
theorem E34 (lp : Lp) (call : Nat → List D → Option D) (a0 : D) : evF (envOf lp call (inlP lp call)) Tryz.f34 A34 [Ty.int .i64] K11 [a0] = F34 lp call a0 := by kernel_rfl
theorem L34 {lp : Lp} (hlp : LpOk lp) : leafOk 34 (fun call xs => match xs with | [a0] => F34 lp call a0 | _ => none) :=
  leaf1 hlp (by kernel_rfl) (by kernel_rfl) (by kernel_rfl) (fun call a0 => E34 lp call a0)
/- skewback/skewbackref04.Make -/
def A37 : Ann := (.two .leaf (.two .leaf (.two .leaf (.cut [(.normal, ⟨[(2, .same (.ptr K11 4098 [])), (3, .same (.ptr K11 4099 [])), (4, .same (.ptr K12 4100 [])), (5, .same (.ptr K11 12293 []))], [(4098, .keep K11 2), (4099, .keep K11 3), (4100, .keep K12 4), (12293, .one K11 (.dv K11))], []⟩)] [] [4098, 4099, 4100] .leaf (.two (.reg [] 7) .leaf)))))
noncomputable def F37 (lp : Lp) (call : Nat → List D → Option D) (a0 : D) (a1 : D) : Option D :=
(call 76 [a0]).bind fun r1 =>
(D.un .not r1).bind fun x2 =>
(D.truth x2).bind fun b3 =>
(if b3 then (some true) else ((call 76 [a1]).bind fun r4 =>
(D.un .not r4).bind fun x5 =>
 D.truth x5)).bind fun b6 =>
(D.truth (D.bool b6)).bind fun b7 =>
(if b7 then (some true) else ((call 83 [a1]).bind fun r8 =>
 D.truth (D.bool (D.beq r8 (D.int .i64 0))))).bind fun b9 =>
(D.truth (D.bool b9)).bind fun b10 =>
 if b10 then ((call 84 []).bind fun r11 =>
 some r11) else ((call 85 [a0, a1]).bind fun r12 =>
((call 83 [a1]).bind fun r13 =>
(D.bin .lss r13 (D.int .i64 0)).bind fun x14 =>
(D.truth x14).bind fun b15 =>
 if b15 then ((call 86 [r12]).bind fun r16 =>
 some (0, [r16])) else (some (0, [r12]))).bind fun (r17 : Nat × List D) =>
(call 87 [a0, (r17.2.getD 0 (.bool false))]).bind fun r18 =>
(call 87 [a1, (r17.2.getD 0 (.bool false))]).bind fun r19 =>
 some (D.st [r18, r19]))
theorem E37 (lp : Lp) (call : Nat → List D → Option D) (a0 : D) (a1 : D) : evF (envOf lp call (inlP lp call)) Tryz.f37 A37 [K11, K11] K12 [a0, a1] = F37 lp call a0 a1 := by kernel_rfl
theorem L37 {lp : Lp} (hlp : LpOk lp) : leafOk 37 (fun call xs => match xs with | [a0, a1] => F37 lp call a0 a1 | _ => none) :=
  leaf2 hlp (by kernel_rfl) (by kernel_rfl) (by kernel_rfl) (fun call a0 a1 => E37 lp call a0 a1)
/- skewback/skewbackref04.Frac -/
def A42 : Ann := .leaf
noncomputable def F42 (lp : Lp) (call : Nat → List D → Option D) (a0 : D) (a1 : D) : Option D :=
(call 34 [a0]).bind fun r1 =>
(call 34 [a1]).bind fun r2 =>
(call 37 [r1, r2]).bind fun r3 =>
 some r3
theorem E42 (lp : Lp) (call : Nat → List D → Option D) (a0 : D) (a1 : D) : evF (envOf lp call (inlP lp call)) Tryz.f42 A42 [Ty.int .i64, Ty.int .i64] K12 [a0, a1] = F42 lp call a0 a1 := by kernel_rfl
theorem L42 {lp : Lp} (hlp : LpOk lp) : leafOk 42 (fun call xs => match xs with | [a0, a1] => F42 lp call a0 a1 | _ => none) :=
  leaf2 hlp (by kernel_rfl) (by kernel_rfl) (by kernel_rfl) (fun call a0 a1 => E42 lp call a0 a1)
/- skewback/hull.Support -/
def A43 : Ann := (.two .leaf (.two .leaf (.two (.two .leaf (.two (.loop ⟨[(2, .same (.ptr K3 4098 [])), (3, .same (.ptr K1 4099 [])), (5, .dv (Ty.int .i64)), (11, .dv (Ty.int .i64))], [(4098, .keep K3 2), (4099, .keep K1 3)], [9, 10]⟩ [(.exit 0, ⟨[(5, .dv (Ty.int .i64))], [], []⟩)] (.two .leaf (.two .leaf (.cut [(.normal, ⟨[(2, .same (.ptr K3 4098 [])), (3, .same (.ptr K1 4099 [])), (5, .dv (Ty.int .i64))], [(4098, .keep K3 2), (4099, .keep K1 3)], [9, 10, 11]⟩)] [9, 10, 11] [4098, 4099] (.two (.two .leaf (.two (.reg [] 11) .leaf)) .leaf) .leaf)))) .leaf)) .leaf)))
noncomputable def F43 (lp : Lp) (call : Nat → List D → Option D) (a0 : D) (a1 : D) : Option D :=
(D.get a0 [0]).bind fun x1 =>
(D.asSl x1).bind fun l2 =>
(lp (β := Nat × List D) (fun (v3 : List D) =>
(D.bin .lss (v3.getD 1 (.bool false)) (D.int .i64 (l2.length))).bind fun x4 =>
(D.truth x4).bind fun b5 =>
 if b5 then (((D.asSl x1).bind fun l6 =>
(D.idx (v3.getD 1 (.bool false)) (l6.length)).bind fun i7 =>
(l6[i7]?).bind fun x8 =>
(call 91 [a1, x8]).bind fun r9 =>
(D.get a0 [0]).bind fun x10 =>
(D.asSl x10).bind fun l11 =>
(D.idx (v3.getD 0 (.bool false)) (l11.length)).bind fun i12 =>
(l11[i12]?).bind fun x13 =>
(call 91 [a1, x13]).bind fun r14 =>
(call 90 [r9, r14]).bind fun r15 =>
(D.bin .gtr r15 (D.int .i64 0)).bind fun x16 =>
(D.truth x16).bind fun b17 =>
 if b17 then (some (0, [(v3.getD 1 (.bool false))])) else (some (0, [(v3.getD 0 (.bool false))]))).bind fun (r18 : Nat × List D) =>
(D.bin .add (v3.getD 1 (.bool false)) (D.int .i64 1)).bind fun x19 =>
 some (Sum.inl [(r18.2.getD 0 (.bool false)), x19])) else (some (Sum.inr (0, [(v3.getD 0 (.bool false))])))) [(D.int .i64 0), (D.int .i64 0)]).bind fun r20 =>
 some (r20.2.getD 0 (.bool false))
theorem E43 (lp : Lp) (call : Nat → List D → Option D) (a0 : D) (a1 : D) : evF (envOf lp call (inlP lp call)) Tryz.f43 A43 [K3, K1] (Ty.int .i64) [a0, a1] = F43 lp call a0 a1 := by kernel_rfl
theorem L43 {lp : Lp} (hlp : LpOk lp) : leafOk 43 (fun call xs => match xs with | [a0, a1] => F43 lp call a0 a1 | _ => none) :=
  leaf2 hlp (by kernel_rfl) (by kernel_rfl) (by kernel_rfl) (fun call a0 a1 => E43 lp call a0 a1)
/- skewback/hull.polygon -/
def A46 : Ann := (.two .leaf (.two .leaf (.two (.two .leaf (.two (.loop ⟨[(2, .same (.ptr K2 4098 [])), (3, .same (.ptr K17 4099 [])), (5, .same (.ptr K5 8197 [])), (13, .dv (Ty.int .i64))], [(4098, .keep K2 2), (4099, .keep K17 3), (8197, .one K5 (.ow (Ty.int .i64)))], [11, 12]⟩ [(.exit 0, ⟨[(2, .same (.ptr K2 4098 [])), (3, .same (.ptr K17 4099 [])), (5, .same (.ptr K5 8197 []))], [(4098, .keep K2 2), (4099, .keep K17 3), (8197, .one K5 (.ow (Ty.int .i64)))], []⟩)] (.two .leaf (.two .leaf (.cut [(.normal, ⟨[(2, .same (.ptr K2 4098 [])), (3, .same (.ptr K17 4099 [])), (5, .same (.ptr K5 8197 []))], [(4098, .keep K2 2), (4099, .keep K17 3), (8197, .one K5 (.ow (Ty.int .i64)))], [11, 12, 13]⟩)] [11, 12, 13] [4098, 4099] (.two (.two .leaf (.two (.reg [] 6) .leaf)) .leaf) .leaf)))) .leaf)) (.two .leaf (.two .leaf (.two (.two (.regI [] 6 (.two (.two .leaf (.two .leaf (.two (.two .leaf (.two (.loop ⟨[(2, .same (.ptr K2 4098 [])), (3, .same (.ptr K17 4099 [])), (6, .dv (Ty.int .i64)), (12, .dv K5), (14, .dv (Ty.int .i64))], [(4098, .keep K2 2), (4099, .keep K17 3), (8197, .one K5 (.dv K5))], [0, 13]⟩ [(.exit 0, ⟨[(6, .dv (Ty.int .i64))], [(4098, .keep K2 2), (4099, .keep K17 3), (8197, .one K5 (.dv K5))], []⟩)] (.two .leaf (.two .leaf (.cut [(.normal, ⟨[(2, .same (.ptr K2 4098 [])), (3, .same (.ptr K17 4099 [])), (6, .dv (Ty.int .i64))], [(4098, .keep K2 2), (4099, .keep K17 3), (8197, .one K5 (.dv K5))], [0, 12, 13, 14]⟩)] [0, 12, 13, 14] [4098, 4099] (.two (.two .leaf (.two .leaf (.two .leaf (.two (.reg [] 20) .leaf)))) .leaf) .leaf)))) .leaf)) .leaf))) .leaf)) (.two (.loop ⟨[(5, .same (.ptr K5 8197 [])), (8, .same (.clo 102 [(.ptr K5 8197 []), (.ptr K2 4098 []), (.ptr K17 4099 [])])), (9, .ow (Ty.int .i64)), (10, .dv (Ty.int .i64))], [(4098, .keep K2 2), (4099, .keep K17 3), (8197, .keep K5 5)], []⟩ [(.exit 2, ⟨[(9, .ow (Ty.int .i64))], [], []⟩)] (.two .leaf (.two .leaf (.regI [] 4 (.two (.two .leaf (.two .leaf (.two (.two .leaf (.two (.loop ⟨[(2, .same (.ptr K2 4098 [])), (3, .same (.ptr K17 4099 [])), (6, .dv (Ty.int .i64)), (14, .dv (Ty.int .i64))], [(4098, .keep K2 2), (4099, .keep K17 3), (8197, .keep K5 1)], [0, 12, 13]⟩ [(.exit 0, ⟨[(6, .dv (Ty.int .i64))], [(4098, .keep K2 2), (4099, .keep K17 3), (8197, .keep K5 1)], []⟩)] (.two .leaf (.two .leaf (.cut [(.normal, ⟨[(2, .same (.ptr K2 4098 [])), (3, .same (.ptr K17 4099 [])), (6, .dv (Ty.int .i64))], [(4098, .keep K2 2), (4099, .keep K17 3), (8197, .one K5 (.dv K5))], [0, 12, 13, 14]⟩)] [0, 12, 13, 14] [4098, 4099] (.two (.two .leaf (.two .leaf (.two .leaf (.two (.reg [] 20) .leaf)))) .leaf) .leaf)))) .leaf)) .leaf))) .leaf))))) .leaf)) .leaf))))))
noncomputable def F46 (lp : Lp) (call : Nat → List D → Option D) (a0 : D) (a1 : D) : Option D :=
(D.asSl a0).bind fun l1 =>
(lp (β := Nat × List D) (fun (v2 : List D) =>
(D.bin .lss (v2.getD 0 (.bool false)) (D.int .i64 (l1.length))).bind fun x3 =>
(D.truth x3).bind fun b4 =>
 if b4 then (((D.asSl a0).bind fun l5 =>
(D.idx (v2.getD 0 (.bool false)) (l5.length)).bind fun i6 =>
(l5[i6]?).bind fun x7 =>
(D.get a1 [0]).bind fun x8 =>
(call 101 [x8, x7]).bind fun r9 =>
(D.get a1 [1]).bind fun x10 =>
(D.truth (D.bool (D.beq r9 x10))).bind fun b11 =>
 if b11 then (if List.length ((v2.getD 1 (.bool false)).els) + List.length [(v2.getD 0 (.bool false))] ≤ 1073741824 then (some (0, [(D.sl (((v2.getD 1 (.bool false)).els) ++ [(v2.getD 0 (.bool false))]))])) else none) else (some (0, [(D.sl ((v2.getD 1 (.bool false)).els))]))).bind fun (r12 : Nat × List D) =>
(D.bin .add (v2.getD 0 (.bool false)) (D.int .i64 1)).bind fun x13 =>
 some (Sum.inl [x13, (D.sl ((r12.2.getD 0 (.bool false)).els))])) else (some (Sum.inr (0, [(D.sl ((v2.getD 1 (.bool false)).els))])))) [(D.int .i64 0), (D.sl [])]).bind fun r14 =>
(D.idx (D.int .i64 0) (List.length ((r14.2.getD 0 (.bool false)).els))).bind fun i15 =>
(((r14.2.getD 0 (.bool false)).els)[i15]?).bind fun x16 =>
(D.idx (D.int .i64 0) (List.length ((r14.2.getD 0 (.bool false)).els))).bind fun i17 =>
(((r14.2.getD 0 (.bool false)).els)[i17]?).bind fun x18 =>
(lp (β := Nat × List D) (fun (v19 : List D) =>
(D.bin .lss (v19.getD 2 (.bool false)) (D.int .i64 (List.length ((r14.2.getD 0 (.bool false)).els)))).bind fun x20 =>
(D.truth x20).bind fun b21 =>
 if b21 then (((D.asSl (v19.getD 1 (.bool false))).bind fun l22 =>
(D.idx (v19.getD 2 (.bool false)) (l22.length)).bind fun i23 =>
(l22[i23]?).bind fun x24 =>
(D.truth (D.bool (D.beq x24 x18))).bind fun b25 =>
 if b25 then (some (0, [(v19.getD 0 (.bool false)), (v19.getD 3 (.bool false))])) else ((D.bin .lss (v19.getD 0 (.bool false)) (D.int .i64 0)).bind fun x26 =>
(D.truth x26).bind fun b27 =>
 if b27 then (some (0, [x24, (v19.getD 3 (.bool false))])) else ((D.asSl a0).bind fun l28 =>
(D.idx x24 (l28.length)).bind fun i29 =>
(l28[i29]?).bind fun x30 =>
(D.asSl a0).bind fun l31 =>
(D.idx x18 (l31.length)).bind fun i32 =>
(l31[i32]?).bind fun x33 =>
(call 103 [x30, x33]).bind fun r34 =>
(D.asSl a0).bind fun l35 =>
(D.idx (v19.getD 0 (.bool false)) (l35.length)).bind fun i36 =>
(l35[i36]?).bind fun x37 =>
(D.asSl a0).bind fun l38 =>
(D.idx x18 (l38.length)).bind fun i39 =>
(l38[i39]?).bind fun x40 =>
(call 103 [x37, x40]).bind fun r41 =>
(D.get a1 [0]).bind fun x42 =>
(call 104 [x42, r41, r34]).bind fun r43 =>
(D.bin .lss r43 (D.int .i64 0)).bind fun x44 =>
(D.truth x44).bind fun b45 =>
(if b45 then (some true) else ((D.truth (D.bool (D.beq r43 (D.int .i64 0)))).bind fun b46 =>
 if b46 then ((call 101 [r34, r34]).bind fun r47 =>
(call 101 [r41, r41]).bind fun r48 =>
(D.bin .gtr r47 r48).bind fun x49 =>
 D.truth x49) else (some false))).bind fun b50 =>
(D.truth (D.bool b50)).bind fun b51 =>
 if b51 then (some (0, [x24, (v19.getD 3 (.bool false))])) else (some (0, [(v19.getD 0 (.bool false)), (v19.getD 3 (.bool false))]))))).bind fun (r52 : Nat × List D) =>
(D.bin .add (v19.getD 2 (.bool false)) (D.int .i64 1)).bind fun x53 =>
 some (Sum.inl [(r52.2.getD 0 (.bool false)), (v19.getD 1 (.bool false)), x53, (r52.2.getD 1 (.bool false))])) else (some (Sum.inr (0, [(v19.getD 0 (.bool false)), (v19.getD 3 (.bool false))])))) [(D.int .i64 (-1)), (D.sl ((r14.2.getD 0 (.bool false)).els)), (D.int .i64 0), (D.sl ((r14.2.getD 0 (.bool false)).els))]).bind fun r54 =>
(lp (β := Nat × List D) (fun (v55 : List D) =>
(D.asSl (r54.2.getD 1 (.bool false))).bind fun l56 =>
(D.idx (D.int .i64 0) (l56.length)).bind fun i57 =>
(l56[i57]?).bind fun x58 =>
(D.truth (D.bool (!(D.beq (v55.getD 1 (.bool false)) x58)))).bind fun b59 =>
 if b59 then (if List.length ((v55.getD 0 (.bool false)).els) + List.length [(v55.getD 1 (.bool false))] ≤ 1073741824 then ((D.asSl (r54.2.getD 1 (.bool false))).bind fun l60 =>
(lp (β := Nat × List D) (fun (v61 : List D) =>
(D.bin .lss (v61.getD 1 (.bool false)) (D.int .i64 (l60.length))).bind fun x62 =>
(D.truth x62).bind fun b63 =>
 if b63 then (((D.asSl (r54.2.getD 1 (.bool false))).bind fun l64 =>
(D.idx (v61.getD 1 (.bool false)) (l64.length)).bind fun i65 =>
(l64[i65]?).bind fun x66 =>
(D.truth (D.bool (D.beq x66 (v55.getD 1 (.bool false))))).bind fun b67 =>
 if b67 then (some (0, [(v61.getD 0 (.bool false)), (r54.2.getD 1 (.bool false))])) else ((D.bin .lss (v61.getD 0 (.bool false)) (D.int .i64 0)).bind fun x68 =>
(D.truth x68).bind fun b69 =>
 if b69 then (some (0, [x66, (r54.2.getD 1 (.bool false))])) else ((D.asSl a0).bind fun l70 =>
(D.idx x66 (l70.length)).bind fun i71 =>
(l70[i71]?).bind fun x72 =>
(D.asSl a0).bind fun l73 =>
(D.idx (v55.getD 1 (.bool false)) (l73.length)).bind fun i74 =>
(l73[i74]?).bind fun x75 =>
(call 103 [x72, x75]).bind fun r76 =>
(D.asSl a0).bind fun l77 =>
(D.idx (v61.getD 0 (.bool false)) (l77.length)).bind fun i78 =>
(l77[i78]?).bind fun x79 =>
(D.asSl a0).bind fun l80 =>
(D.idx (v55.getD 1 (.bool false)) (l80.length)).bind fun i81 =>
(l80[i81]?).bind fun x82 =>
(call 103 [x79, x82]).bind fun r83 =>
(D.get a1 [0]).bind fun x84 =>
(call 104 [x84, r83, r76]).bind fun r85 =>
(D.bin .lss r85 (D.int .i64 0)).bind fun x86 =>
(D.truth x86).bind fun b87 =>
(if b87 then (some true) else ((D.truth (D.bool (D.beq r85 (D.int .i64 0)))).bind fun b88 =>
 if b88 then ((call 101 [r76, r76]).bind fun r89 =>
(call 101 [r83, r83]).bind fun r90 =>
(D.bin .gtr r89 r90).bind fun x91 =>
 D.truth x91) else (some false))).bind fun b92 =>
(D.truth (D.bool b92)).bind fun b93 =>
 if b93 then (some (0, [x66, (r54.2.getD 1 (.bool false))])) else (some (0, [(v61.getD 0 (.bool false)), (r54.2.getD 1 (.bool false))]))))).bind fun (r94 : Nat × List D) =>
(D.bin .add (v61.getD 1 (.bool false)) (D.int .i64 1)).bind fun x95 =>
 some (Sum.inl [(r94.2.getD 0 (.bool false)), x95])) else (some (Sum.inr (0, [(v61.getD 0 (.bool false))])))) [(D.int .i64 (-1)), (D.int .i64 0)]).bind fun r96 =>
 some (Sum.inl [(D.sl (((v55.getD 0 (.bool false)).els) ++ [(v55.getD 1 (.bool false))])), (r96.2.getD 0 (.bool false))])) else none) else (some (Sum.inr (0, [(D.sl ((v55.getD 0 (.bool false)).els))])))) [(D.sl [x16]), (r54.2.getD 0 (.bool false))]).bind fun r97 =>
 some (D.sl ((r97.2.getD 0 (.bool false)).els))
theorem E46 (lp : Lp) (call : Nat → List D → Option D) (a0 : D) (a1 : D) : evF (envOf lp call (inlP lp call)) Tryz.f46 A46 [K2, K17] K5 [a0, a1] = F46 lp call a0 a1 := by kernel_rfl
theorem L46 {lp : Lp} (hlp : LpOk lp) : leafOk 46 (fun call xs => match xs with | [a0, a1] => F46 lp call a0 a1 | _ => none) :=
  leaf2 hlp (by kernel_rfl) (by kernel_rfl) (by kernel_rfl) (fun call a0 a1 => E46 lp call a0 a1)
/- skewback/skewbackref12.sorted -/
def A47 : Ann := (.two .leaf (.two .leaf (.two (.two .leaf (.two (.loop ⟨[(3, .ow K1), (4, .dv (Ty.int .i64))], [], [0]⟩ [(.exit 0, ⟨[(3, .ow K1)], [], []⟩)] (.two .leaf (.two (.two (.two .leaf (.two .leaf (.two (.two .leaf (.two (.loop ⟨[(3, .ow K1), (5, .ow K1), (6, .dv Ty.bool), (7, .dv (Ty.int .i64))], [], [0, 4]⟩ [(.exit 2, ⟨[(5, .ow K1), (6, .dv Ty.bool)], [], [0, 4]⟩)] (.two .leaf (.cut [(.normal, ⟨[(3, .ow K1), (5, .ow K1), (6, .dv Ty.bool)], [], [0, 4, 7]⟩)] [0, 4, 7] [] (.two (.two (.reg [] 9) (.cut [(.normal, ⟨[(3, .ow K1), (5, .ow K1), (6, .dv Ty.bool)], [], [0, 4, 7]⟩)] [0, 4, 7] [] .leaf (.two (.reg [] 8) .leaf))) .leaf) .leaf))) .leaf)) (.cut [(.normal, ⟨[(5, .ow K1)], [], [0, 4]⟩)] [0, 4] [] .leaf .leaf)))) .leaf) .leaf))) .leaf)) .leaf)))
noncomputable def F47 (lp : Lp) (call : Nat → List D → Option D) (a0 : D) : Option D :=
(lp (β := Nat × List D) (fun (v1 : List D) =>
(D.asSl a0).bind fun l2 =>
(D.bin .lss (v1.getD 1 (.bool false)) (D.int .i64 (l2.length))).bind fun x3 =>
(D.truth x3).bind fun b4 =>
 if b4 then ((lp (β := Nat × List D) (fun (v5 : List D) =>
(D.bin .lss (v5.getD 3 (.bool false)) (D.int .i64 (List.length ((v5.getD 0 (.bool false)).els)))).bind fun x6 =>
(D.truth x6).bind fun b7 =>
 if b7 then (((D.asSl a0).bind fun l8 =>
(D.idx (v1.getD 1 (.bool false)) (l8.length)).bind fun i9 =>
(l8[i9]?).bind fun x10 =>
(D.idx (v5.getD 3 (.bool false)) (List.length ((v5.getD 0 (.bool false)).els))).bind fun i11 =>
(((v5.getD 0 (.bool false)).els)[i11]?).bind fun x12 =>
(call 105 [x10, x12]).bind fun r13 =>
((D.un .not (v5.getD 2 (.bool false))).bind fun x14 =>
(D.truth x14).bind fun b15 =>
(if b15 then ((D.truth r13).bind fun b16 =>
 if b16 then (some true) else ((D.asSl a0).bind fun l17 =>
(D.idx (v1.getD 1 (.bool false)) (l17.length)).bind fun i18 =>
(l17[i18]?).bind fun x19 =>
(D.idx (v5.getD 3 (.bool false)) (List.length ((v5.getD 0 (.bool false)).els))).bind fun i20 =>
(((v5.getD 0 (.bool false)).els)[i20]?).bind fun x21 =>
 D.truth (D.bool (D.beq x19 x21)))) else (some false)).bind fun b22 =>
(D.truth (D.bool b22)).bind fun b23 =>
 if b23 then ((D.asSl a0).bind fun l24 =>
(D.idx (v1.getD 1 (.bool false)) (l24.length)).bind fun i25 =>
(l24[i25]?).bind fun x26 =>
 if List.length ((v5.getD 1 (.bool false)).els) + List.length [x26] ≤ 1073741824 then (some (0, [(D.sl ((v5.getD 0 (.bool false)).els)), (D.sl (((v5.getD 1 (.bool false)).els) ++ [x26])), (D.bool true)])) else none) else (some (0, [(D.sl ((v5.getD 0 (.bool false)).els)), (D.sl ((v5.getD 1 (.bool false)).els)), (v5.getD 2 (.bool false))]))).bind fun (r27 : Nat × List D) =>
(D.idx (v5.getD 3 (.bool false)) (List.length ((r27.2.getD 0 (.bool false)).els))).bind fun i28 =>
(((r27.2.getD 0 (.bool false)).els)[i28]?).bind fun x29 =>
(D.asSl a0).bind fun l30 =>
(D.idx (v1.getD 1 (.bool false)) (l30.length)).bind fun i31 =>
(l30[i31]?).bind fun x32 =>
(D.truth (D.bool (!(D.beq x29 x32)))).bind fun b33 =>
 if b33 then ((D.idx (v5.getD 3 (.bool false)) (List.length ((r27.2.getD 0 (.bool false)).els))).bind fun i34 =>
(((r27.2.getD 0 (.bool false)).els)[i34]?).bind fun x35 =>
 if List.length ((r27.2.getD 1 (.bool false)).els) + List.length [x35] ≤ 1073741824 then (some (0, [(D.sl ((r27.2.getD 0 (.bool false)).els)), (D.sl (((r27.2.getD 1 (.bool false)).els) ++ [x35])), (r27.2.getD 2 (.bool false))])) else none) else (some (0, [(D.sl ((r27.2.getD 0 (.bool false)).els)), (D.sl ((r27.2.getD 1 (.bool false)).els)), (r27.2.getD 2 (.bool false))]))).bind fun (r36 : Nat × List D) =>
(D.bin .add (v5.getD 3 (.bool false)) (D.int .i64 1)).bind fun x37 =>
 some (Sum.inl [(D.sl ((r36.2.getD 0 (.bool false)).els)), (D.sl ((r36.2.getD 1 (.bool false)).els)), (r36.2.getD 2 (.bool false)), x37])) else (some (Sum.inr (0, [(D.sl ((v5.getD 1 (.bool false)).els)), (v5.getD 2 (.bool false))])))) [(D.sl ((v1.getD 0 (.bool false)).els)), (D.sl []), (D.bool false), (D.int .i64 0)]).bind fun r38 =>
((D.un .not (r38.2.getD 1 (.bool false))).bind fun x39 =>
(D.truth x39).bind fun b40 =>
 if b40 then ((D.asSl a0).bind fun l41 =>
(D.idx (v1.getD 1 (.bool false)) (l41.length)).bind fun i42 =>
(l41[i42]?).bind fun x43 =>
 if List.length ((r38.2.getD 0 (.bool false)).els) + List.length [x43] ≤ 1073741824 then (some (0, [(D.sl (((r38.2.getD 0 (.bool false)).els) ++ [x43]))])) else none) else (some (0, [(D.sl ((r38.2.getD 0 (.bool false)).els))]))).bind fun (r44 : Nat × List D) =>
(D.bin .add (v1.getD 1 (.bool false)) (D.int .i64 1)).bind fun x45 =>
 some (Sum.inl [(D.sl ((r44.2.getD 0 (.bool false)).els)), x45])) else (some (Sum.inr (0, [(D.sl ((v1.getD 0 (.bool false)).els))])))) [(D.sl []), (D.int .i64 0)]).bind fun r46 =>
 some (D.sl ((r46.2.getD 0 (.bool false)).els))
theorem E47 (lp : Lp) (call : Nat → List D → Option D) (a0 : D) : evF (envOf lp call (inlP lp call)) Tryz.f47 A47 [K2] K2 [a0] = F47 lp call a0 := by kernel_rfl
theorem L47 {lp : Lp} (hlp : LpOk lp) : leafOk 47 (fun call xs => match xs with | [a0] => F47 lp call a0 | _ => none) :=
  leaf1 hlp (by kernel_rfl) (by kernel_rfl) (by kernel_rfl) (fun call a0 => E47 lp call a0)
/- skewback/skewbackref12.facets -/
def A48 : Ann := (.two .leaf (.two .leaf (.two (.two .leaf (.two (.loop ⟨[(3, .dv K7), (4, .dv (Ty.int .i64))], [], [0]⟩ [(.exit 0, ⟨[(3, .dv K7)], [], []⟩)] (.two .leaf (.two (.two (.two .leaf (.two (.loop ⟨[(3, .dv K7), (5, .dv (Ty.int .i64))], [], [0, 4]⟩ [(.exit 2, ⟨[(3, .dv K7)], [], [0, 4]⟩)] (.two .leaf (.two (.two (.two .leaf (.two (.loop ⟨[(3, .dv K7), (6, .dv (Ty.int .i64))], [], [0, 4, 5]⟩ [(.exit 4, ⟨[(3, .dv K7)], [], [0, 4, 5]⟩)] (.two .leaf (.two (.two (.two (.reg [] 14) (.two .leaf (.two (.loop ⟨[(3, .dv K7), (7, .same (.ptr K1 49159 [])), (8, .dv (Ty.int .i64))], [(49159, .one K1 (.dv K1))], [0, 4, 5, 6]⟩ [(.exit 6, ⟨[(3, .dv K7)], [], [0, 4, 5, 6]⟩)] (.two .leaf (.two (.two (.two (.reg [] 6) (.two .leaf (.two .leaf (.cut [(.normal, ⟨[(3, .dv K7), (7, .same (.ptr K1 49159 []))], [(49159, .keep K1 7)], [0, 4, 5, 6, 8]⟩)] [0, 4, 5, 6, 8] [49159] (.two .leaf (.two (.reg [] 9) .leaf)) .leaf)))) .leaf) .leaf))) .leaf))) .leaf) .leaf))) .leaf)) .leaf) .leaf))) .leaf)) .leaf) .leaf))) .leaf)) .leaf)))
noncomputable def F48 (lp : Lp) (call : Nat → List D → Option D) (a0 : D) : Option D :=
(lp (β := Nat × List D) (fun (v1 : List D) =>
(D.asSl a0).bind fun l2 =>
(D.bin .lss (v1.getD 1 (.bool false)) (D.int .i64 (l2.length))).bind fun x3 =>
(D.truth x3).bind fun b4 =>
 if b4 then ((D.bin .add (v1.getD 1 (.bool false)) (D.int .i64 1)).bind fun x5 =>
(lp (β := Nat × List D) (fun (v6 : List D) =>
(D.asSl a0).bind fun l7 =>
(D.bin .lss (v6.getD 1 (.bool false)) (D.int .i64 (l7.length))).bind fun x8 =>
(D.truth x8).bind fun b9 =>
 if b9 then ((D.bin .add (v6.getD 1 (.bool false)) (D.int .i64 1)).bind fun x10 =>
(lp (β := Nat × List D) (fun (v11 : List D) =>
(D.asSl a0).bind fun l12 =>
(D.bin .lss (v11.getD 1 (.bool false)) (D.int .i64 (l12.length))).bind fun x13 =>
(D.truth x13).bind fun b14 =>
 if b14 then ((D.asSl a0).bind fun l15 =>
(D.idx (v1.getD 1 (.bool false)) (l15.length)).bind fun i16 =>
(l15[i16]?).bind fun x17 =>
(D.asSl a0).bind fun l18 =>
(D.idx (v6.getD 1 (.bool false)) (l18.length)).bind fun i19 =>
(l18[i19]?).bind fun x20 =>
(D.asSl a0).bind fun l21 =>
(D.idx (v11.getD 1 (.bool false)) (l21.length)).bind fun i22 =>
(l21[i22]?).bind fun x23 =>
(call 106 [x17, x20, x23]).bind fun r24 =>
(lp (β := Nat × List D) (fun (v25 : List D) =>
(D.bin .lss (v25.getD 1 (.bool false)) (D.int .i64 2)).bind fun x26 =>
(D.truth x26).bind fun b27 =>
 if b27 then ((D.asSl a0).bind fun l28 =>
(D.idx (v1.getD 1 (.bool false)) (l28.length)).bind fun i29 =>
(l28[i29]?).bind fun x30 =>
(call 107 [(v25.getD 2 (.bool false)), x30]).bind fun r31 =>
(call 108 [(v25.getD 0 (.bool false)), (v25.getD 2 (.bool false))]).bind fun r32 =>
((D.un .not r32).bind fun x33 =>
(D.truth x33).bind fun b34 =>
(if b34 then ((D.un .not (D.bool (D.beq (v25.getD 2 (.bool false)) (D.st [(D.int .i64 0), (D.int .i64 0), (D.int .i64 0)])))).bind fun x35 =>
 D.truth x35) else (some false)).bind fun b36 =>
(D.truth (D.bool b36)).bind fun b37 =>
(if b37 then ((call 109 [a0, (v25.getD 2 (.bool false)), r31]).bind fun r38 =>
 D.truth r38) else (some false)).bind fun b39 =>
(D.truth (D.bool b39)).bind fun b40 =>
 if b40 then ((call 111 [a0, (v25.getD 2 (.bool false)), r31]).bind fun r41 =>
(call 110 [(v25.getD 0 (.bool false)), (D.st [(v25.getD 2 (.bool false)), r31, r41])]).bind fun r42 =>
 some (0, [r42])) else (some (0, [(v25.getD 0 (.bool false))]))).bind fun (r43 : Nat × List D) =>
(call 112 [(D.st [(D.int .i64 0), (D.int .i64 0), (D.int .i64 0)]), (v25.getD 2 (.bool false))]).bind fun r44 =>
(D.bin .add (v25.getD 1 (.bool false)) (D.int .i64 1)).bind fun x45 =>
 some (Sum.inl [(r43.2.getD 0 (.bool false)), x45, r44])) else (some (Sum.inr (0, [(v25.getD 0 (.bool false))])))) [(v11.getD 0 (.bool false)), (D.int .i64 0), r24]).bind fun r46 =>
(D.bin .add (v11.getD 1 (.bool false)) (D.int .i64 1)).bind fun x47 =>
 some (Sum.inl [(r46.2.getD 0 (.bool false)), x47])) else (some (Sum.inr (0, [(v11.getD 0 (.bool false))])))) [(v6.getD 0 (.bool false)), x10]).bind fun r48 =>
(D.bin .add (v6.getD 1 (.bool false)) (D.int .i64 1)).bind fun x49 =>
 some (Sum.inl [(r48.2.getD 0 (.bool false)), x49])) else (some (Sum.inr (0, [(v6.getD 0 (.bool false))])))) [(v1.getD 0 (.bool false)), x5]).bind fun r50 =>
(D.bin .add (v1.getD 1 (.bool false)) (D.int .i64 1)).bind fun x51 =>
 some (Sum.inl [(r50.2.getD 0 (.bool false)), x51])) else (some (Sum.inr (0, [(v1.getD 0 (.bool false))])))) [(D.sl []), (D.int .i64 0)]).bind fun r52 =>
 some (r52.2.getD 0 (.bool false))
theorem E48 (lp : Lp) (call : Nat → List D → Option D) (a0 : D) : evF (envOf lp call (inlP lp call)) Tryz.f48 A48 [K2] K7 [a0] = F48 lp call a0 := by kernel_rfl
theorem L48 {lp : Lp} (hlp : LpOk lp) : leafOk 48 (fun call xs => match xs with | [a0] => F48 lp call a0 | _ => none) :=
  leaf1 hlp (by kernel_rfl) (by kernel_rfl) (by kernel_rfl) (fun call a0 => E48 lp call a0)
/- slices.Equal[[]skewback/api.IVec,skewback/api.IVec] -/
def A49 : Ann := (.two .leaf (.two .leaf (.two (.two .leaf (.two (.loop ⟨[(13, .dv (Ty.int .i64))], [], [0, 1, 12]⟩ [(.ret, ⟨[(4, .dv Ty.bool)], [], []⟩), (.exit 0, ⟨[], [], []⟩)] (.two .leaf (.two .leaf (.two (.two (.two .leaf (.two (.reg [] 8) .leaf)) .leaf) .leaf)))) .leaf)) .leaf)))
noncomputable def F49 (lp : Lp) (call : Nat → List D → Option D) (a0 : D) (a1 : D) : Option D :=
(D.asSl a0).bind fun l1 =>
(D.asSl a1).bind fun l2 =>
(D.truth (D.bool (!(D.beq (D.int .i64 (l1.length)) (D.int .i64 (l2.length)))))).bind fun b3 =>
 if b3 then (some (D.bool false)) else ((D.asSl a0).bind fun l4 =>
(lp (β := Nat × List D) (fun (v5 : List D) =>
(D.bin .lss (v5.getD 0 (.bool false)) (D.int .i64 (l4.length))).bind fun x6 =>
(D.truth x6).bind fun b7 =>
 if b7 then ((D.asSl a0).bind fun l8 =>
(D.idx (v5.getD 0 (.bool false)) (l8.length)).bind fun i9 =>
(l8[i9]?).bind fun x10 =>
(D.asSl a1).bind fun l11 =>
(D.idx (v5.getD 0 (.bool false)) (l11.length)).bind fun i12 =>
(l11[i12]?).bind fun x13 =>
(D.truth (D.bool (!(D.beq x10 x13)))).bind fun b14 =>
 if b14 then (some (Sum.inr (0, [(D.bool false)]))) else ((D.bin .add (v5.getD 0 (.bool false)) (D.int .i64 1)).bind fun x15 =>
 some (Sum.inl [x15]))) else (some (Sum.inr (1, [])))) [(D.int .i64 0)]).bind fun r16 =>
 if r16.1 = 0 then (some (r16.2.getD 0 (.bool false))) else (some (D.bool true)))
theorem E49 (lp : Lp) (call : Nat → List D → Option D) (a0 : D) (a1 : D) : evF (envOf lp call (inlP lp call)) Tryz.f49 A49 [K2, K2] Ty.bool [a0, a1] = F49 lp call a0 a1 := by kernel_rfl
theorem L49 {lp : Lp} (hlp : LpOk lp) : leafOk 49 (fun call xs => match xs with | [a0, a1] => F49 lp call a0 a1 | _ => none) :=
  leaf2 hlp (by kernel_rfl) (by kernel_rfl) (by kernel_rfl) (fun call a0 a1 => E49 lp call a0 a1)
/- skewback/hull.Edges$1 -/
def A51 : Ann := (.two .leaf (.two (.reg [] 12) .leaf))
noncomputable def F51 (lp : Lp) (call : Nat → List D → Option D) (a0 : D) (a1 : D) : Option D :=
(D.get a0 [0]).bind fun x1 =>
(D.get a1 [0]).bind fun x2 =>
(call 53 [x1, x2]).bind fun r3 =>
(D.get a0 [1]).bind fun x4 =>
(D.get a1 [1]).bind fun x5 =>
(call 53 [x4, x5]).bind fun r6 =>
(call 52 [(D.sl [r3, r6])]).bind fun r7 =>
 some r7
theorem E51 (lp : Lp) (call : Nat → List D → Option D) (a0 : D) (a1 : D) : evF (envOf lp call (inlP lp call)) Tryz.f51 A51 [K8, K8] (Ty.int .i64) [a0, a1] = F51 lp call a0 a1 := by kernel_rfl
theorem L51 {lp : Lp} (hlp : LpOk lp) : leafOk 51 (fun call xs => match xs with | [a0, a1] => F51 lp call a0 a1 | _ => none) :=
  leaf2 hlp (by kernel_rfl) (by kernel_rfl) (by kernel_rfl) (fun call a0 a1 => E51 lp call a0 a1)
/- cmp.Or[int] -/
def A52 : Ann := (.two .leaf (.two .leaf (.two (.two .leaf (.two (.loop ⟨[(8, .dv (Ty.int .i64))], [], [3, 6, 7]⟩ [(.ret, ⟨[(2, .dv (Ty.int .i64))], [], []⟩), (.exit 0, ⟨[], [], [3]⟩)] .leaf) .leaf)) .leaf)))
noncomputable def F52 (lp : Lp) (call : Nat → List D → Option D) (a0 : D) : Option D :=
(D.asSl a0).bind fun l1 =>
(lp (β := Nat × List D) (fun (v2 : List D) =>
(D.bin .lss (v2.getD 0 (.bool false)) (D.int .i64 (l1.length))).bind fun x3 =>
(D.truth x3).bind fun b4 =>
 if b4 then ((D.asSl a0).bind fun l5 =>
(D.idx (v2.getD 0 (.bool false)) (l5.length)).bind fun i6 =>
(l5[i6]?).bind fun x7 =>
(D.truth (D.bool (!(D.beq x7 (D.int .i64 0))))).bind fun b8 =>
 if b8 then (some (Sum.inr (0, [x7]))) else ((D.bin .add (v2.getD 0 (.bool false)) (D.int .i64 1)).bind fun x9 =>
 some (Sum.inl [x9]))) else (some (Sum.inr (1, [])))) [(D.int .i64 0)]).bind fun r10 =>
 if r10.1 = 0 then (some (r10.2.getD 0 (.bool false))) else (some (D.int .i64 0))
theorem E52 (lp : Lp) (call : Nat → List D → Option D) (a0 : D) : evF (envOf lp call (inlP lp call)) Tryz.f52 A52 [K5] (Ty.int .i64) [a0] = F52 lp call a0 := by kernel_rfl
theorem L52 {lp : Lp} (hlp : LpOk lp) : leafOk 52 (fun call xs => match xs with | [a0] => F52 lp call a0 | _ => none) :=
  leaf1 hlp (by kernel_rfl) (by kernel_rfl) (by kernel_rfl) (fun call a0 => E52 lp call a0)
/- cmp.Compare[int] -/
def A53 : Ann := .leaf
noncomputable def F53 (lp : Lp) (call : Nat → List D → Option D) (a0 : D) (a1 : D) : Option D :=
(call 115 [a0]).bind fun r1 =>
(call 115 [a1]).bind fun r2 =>
(D.truth r1).bind fun b3 =>
 if b3 then ((D.truth r2).bind fun b4 =>
 if b4 then (some (D.int .i64 0)) else (some (D.int .i64 (-1)))) else ((D.truth r2).bind fun b5 =>
 if b5 then (some (D.int .i64 1)) else ((D.bin .lss a0 a1).bind fun x6 =>
(D.truth x6).bind fun b7 =>
 if b7 then (some (D.int .i64 (-1))) else ((D.bin .gtr a0 a1).bind fun x8 =>
(D.truth x8).bind fun b9 =>
 if b9 then (some (D.int .i64 1)) else (some (D.int .i64 0)))))
theorem E53 (lp : Lp) (call : Nat → List D → Option D) (a0 : D) (a1 : D) : evF (envOf lp call (inlP lp call)) Tryz.f53 A53 [Ty.int .i64, Ty.int .i64] (Ty.int .i64) [a0, a1] = F53 lp call a0 a1 := by kernel_rfl
theorem L53 {lp : Lp} (hlp : LpOk lp) : leafOk 53 (fun call xs => match xs with | [a0, a1] => F53 lp call a0 a1 | _ => none) :=
  leaf2 hlp (by kernel_rfl) (by kernel_rfl) (by kernel_rfl) (fun call a0 a1 => E53 lp call a0 a1)
/- skewback/whole.Of -/
def A54 : Ann := (.two .leaf (.two .leaf (.cut [(.normal, ⟨[(2, .same (.ptr K11 4098 [])), (3, .dv (Ty.int .u64))], [(4098, .keep K11 2)], [0]⟩)] [0] [4098] .leaf .leaf)))
noncomputable def F54 (lp : Lp) (call : Nat → List D → Option D) (a0 : D) : Option D :=
(D.conv .u64 a0).bind fun x1 =>
((D.bin .lss a0 (D.int .i64 0)).bind fun x2 =>
(D.truth x2).bind fun b3 =>
 if b3 then ((D.un .neg x1).bind fun x4 =>
 some (0, [x4])) else (some (0, [x1]))).bind fun (r5 : Nat × List D) =>
(D.bin .lss a0 (D.int .i64 0)).bind fun x6 =>
(D.conv .u32 (r5.2.getD 0 (.bool false))).bind fun x7 =>
(D.bin .shr (r5.2.getD 0 (.bool false)) (D.int .u64 32)).bind fun x8 =>
(D.conv .u32 x8).bind fun x9 =>
(call 116 [x6, (D.st (D.putParts (List.replicate 16 (D.int .u32 0)) [(0, x7), (1, x9)]))]).bind fun r10 =>
 some r10
theorem E54 (lp : Lp) (call : Nat → List D → Option D) (a0 : D) : evF (envOf lp call (inlP lp call)) Tryz.f54 A54 [Ty.int .i64] K11 [a0] = F54 lp call a0 := by kernel_rfl
theorem L54 {lp : Lp} (hlp : LpOk lp) : leafOk 54 (fun call xs => match xs with | [a0] => F54 lp call a0 | _ => none) :=
  leaf1 hlp (by kernel_rfl) (by kernel_rfl) (by kernel_rfl) (fun call a0 => E54 lp call a0)
/- skewback/whole.Add -/
def A57 : Ann := (.two .leaf (.two .leaf (.two .leaf (.two (.two .leaf (.two (.two (.reg [] 8) .leaf) .leaf)) (.two (.reg [] 8) .leaf)))))
noncomputable def F57 (lp : Lp) (call : Nat → List D → Option D) (a0 : D) (a1 : D) : Option D :=
(call 118 [(D.sl [a0, a1])]).bind fun r1 =>
(D.un .not r1).bind fun x2 =>
(D.truth x2).bind fun b3 =>
 if b3 then ((call 119 []).bind fun r4 =>
 some r4) else ((D.get a0 [1]).bind fun x5 =>
(D.get a1 [1]).bind fun x6 =>
(D.truth (D.bool (D.beq x5 x6))).bind fun b7 =>
 if b7 then ((D.get a0 [2]).bind fun x8 =>
(D.get a1 [2]).bind fun x9 =>
(call 120 [x8, x9]).bind fun r10 =>
(D.tupAt r10 0).bind fun x11 =>
(D.tupAt r10 1).bind fun x12 =>
(D.un .not x12).bind fun x13 =>
(D.truth x13).bind fun b14 =>
 if b14 then ((call 119 []).bind fun r15 =>
 some r15) else ((D.get a0 [1]).bind fun x16 =>
(call 116 [x16, x11]).bind fun r17 =>
 some r17)) else ((D.get a0 [2]).bind fun x18 =>
(D.get a1 [2]).bind fun x19 =>
(call 121 [x18, x19]).bind fun r20 =>
(D.bin .geq r20 (D.int .i64 0)).bind fun x21 =>
(D.truth x21).bind fun b22 =>
 if b22 then ((D.get a0 [1]).bind fun x23 =>
(D.get a0 [2]).bind fun x24 =>
(D.get a1 [2]).bind fun x25 =>
(call 122 [x24, x25]).bind fun r26 =>
(call 116 [x23, r26]).bind fun r27 =>
 some r27) else ((D.get a1 [1]).bind fun x28 =>
(D.get a1 [2]).bind fun x29 =>
(D.get a0 [2]).bind fun x30 =>
(call 122 [x29, x30]).bind fun r31 =>
(call 116 [x28, r31]).bind fun r32 =>
 some r32)))
theorem E57 (lp : Lp) (call : Nat → List D → Option D) (a0 : D) (a1 : D) : evF (envOf lp call (inlP lp call)) Tryz.f57 A57 [K11, K11] K11 [a0, a1] = F57 lp call a0 a1 := by kernel_rfl
theorem L57 {lp : Lp} (hlp : LpOk lp) : leafOk 57 (fun call xs => match xs with | [a0, a1] => F57 lp call a0 a1 | _ => none) :=
  leaf2 hlp (by kernel_rfl) (by kernel_rfl) (by kernel_rfl) (fun call a0 a1 => E57 lp call a0 a1)
end Go.Proofs.YtjjjkojfijpeeaaGreat.Sy
end
section
/- The program's functions as plain text, checked by the kernel: part Cd. -/
set_option maxRecDepth 20000
set_option maxHeartbeats 0
set_option linter.unusedVariables false
namespace Go.Proofs.YtjjjkojfijpeeaaGreat.Sy
open Go Go.Proofs
/- skewback/whole.Mul -/
def A61 : Ann := (.two .leaf (.two .leaf (.two .leaf (.two (.reg [] 7) (.two (.two .leaf (.two (.loop ⟨[(2, .same (.ptr K11 4098 [])), (3, .same (.ptr K11 4099 [])), (4, .same (.ptr K11 4100 [])), (5, .same (.ptr K25 12293 [])), (24, .dv (Ty.int .i64))], [(4098, .keep K11 2), (4099, .keep K11 3), (4100, .keep K11 4), (12293, .one K25 (.dv K25))], [7, 23]⟩ [(.exit 0, ⟨[(2, .same (.ptr K11 4098 [])), (3, .same (.ptr K11 4099 [])), (4, .same (.ptr K11 4100 [])), (5, .same (.ptr K25 12293 []))], [(4098, .keep K11 2), (4099, .keep K11 3), (4100, .keep K11 4), (12293, .one K25 (.dv K25))], []⟩)] (.two .leaf (.two .leaf (.two (.two (.two .leaf (.two .leaf (.two (.two .leaf (.two (.loop ⟨[(2, .same (.ptr K11 4098 [])), (3, .same (.ptr K11 4099 [])), (4, .same (.ptr K11 4100 [])), (5, .same (.ptr K25 12293 [])), (9, .dv (Ty.int .u64)), (28, .dv (Ty.int .i64))], [(4098, .keep K11 2), (4099, .keep K11 3), (4100, .keep K11 4), (12293, .one K25 (.dv K25))], [7, 8, 23, 24, 27]⟩ [(.exit 2, ⟨[(2, .same (.ptr K11 4098 [])), (3, .same (.ptr K11 4099 [])), (4, .same (.ptr K11 4100 [])), (5, .same (.ptr K25 12293 [])), (9, .dv (Ty.int .u64))], [(4098, .keep K11 2), (4099, .keep K11 3), (4100, .keep K11 4), (12293, .one K25 (.dv K25))], [7, 8, 23, 24]⟩)] (.two .leaf (.two .leaf (.two (.two (.two .leaf (.two (.reg [] 20) .leaf)) .leaf) .leaf)))) .leaf)) .leaf))) .leaf) .leaf)))) .leaf)) (.two .leaf (.two (.reg [] 9) .leaf)))))))
noncomputable def F61 (lp : Lp) (call : Nat → List D → Option D) (a0 : D) (a1 : D) : Option D :=
(call 118 [(D.sl [a0, a1])]).bind fun r1 =>
(D.un .not r1).bind fun x2 =>
(D.truth x2).bind fun b3 =>
 if b3 then ((call 119 []).bind fun r4 =>
 some r4) else ((D.get a0 [2]).bind fun x5 =>
(call 127 [x5]).bind fun r6 =>
(D.get a1 [2]).bind fun x7 =>
(call 127 [x7]).bind fun r8 =>
(lp (β := Nat × List D) (fun (v9 : List D) =>
(D.bin .lss (v9.getD 0 (.bool false)) r6).bind fun x10 =>
(D.truth x10).bind fun b11 =>
 if b11 then ((lp (β := Nat × List D) (fun (v12 : List D) =>
(D.bin .lss (v12.getD 1 (.bool false)) r8).bind fun x13 =>
(D.truth x13).bind fun b14 =>
 if b14 then ((D.idx (v9.getD 0 (.bool false)) 16).bind fun i15 =>
(D.get a0 [2, i15]).bind fun x16 =>
(D.conv .u64 x16).bind fun x17 =>
(D.idx (v12.getD 1 (.bool false)) 16).bind fun i18 =>
(D.get a1 [2, i18]).bind fun x19 =>
(D.conv .u64 x19).bind fun x20 =>
(D.bin .mul x17 x20).bind fun x21 =>
(D.bin .add (v9.getD 0 (.bool false)) (v12.getD 1 (.bool false))).bind fun x22 =>
(D.idx x22 32).bind fun i23 =>
(D.get (v12.getD 2 (.bool false)) [i23]).bind fun x24 =>
(D.conv .u64 x24).bind fun x25 =>
(D.bin .add x21 x25).bind fun x26 =>
(D.bin .add (v12.getD 0 (.bool false)) x26).bind fun x27 =>
(D.bin .add (v9.getD 0 (.bool false)) (v12.getD 1 (.bool false))).bind fun x28 =>
(D.conv .u32 x27).bind fun x29 =>
(D.idx x28 32).bind fun i30 =>
(D.set (v12.getD 2 (.bool false)) [i30] x29).bind fun x31 =>
(D.bin .shr x27 (D.int .u64 32)).bind fun x32 =>
(D.bin .add (v12.getD 1 (.bool false)) (D.int .i64 1)).bind fun x33 =>
 some (Sum.inl [x32, x33, x31])) else (some (Sum.inr (0, [(v12.getD 0 (.bool false)), (v12.getD 2 (.bool false))])))) [(D.int .u64 0), (D.int .i64 0), (v9.getD 1 (.bool false))]).bind fun r34 =>
(D.bin .add (v9.getD 0 (.bool false)) r8).bind fun x35 =>
(D.conv .u32 (r34.2.getD 0 (.bool false))).bind fun x36 =>
(D.idx x35 32).bind fun i37 =>
(D.set (r34.2.getD 1 (.bool false)) [i37] x36).bind fun x38 =>
(D.bin .add (v9.getD 0 (.bool false)) (D.int .i64 1)).bind fun x39 =>
 some (Sum.inl [x39, x38])) else (some (Sum.inr (0, [(v9.getD 1 (.bool false))])))) [(D.int .i64 0), (zeroD K25)]).bind fun r40 =>
(match (r40.2.getD 0 (.bool false)) with
| D.st l41 => (if decide (16 + 16 ≤ l41.length) then ((D.truth (D.bool (!(D.beq (D.st (List.take 16 (List.drop 16 l41))) (D.st (D.putParts (List.replicate 16 (D.int .u32 0)) [])))))).bind fun b42 =>
 if b42 then ((call 119 []).bind fun r43 =>
 some r43) else ((D.get a0 [1]).bind fun x44 =>
(D.get a1 [1]).bind fun x45 =>
(match (r40.2.getD 0 (.bool false)) with
| D.st l46 => (if decide (0 + 16 ≤ l46.length) then ((call 116 [(D.bool (!(D.beq x44 x45))), (D.st (List.take 16 (List.drop 0 l46)))]).bind fun r47 =>
 some r47) else none)
| _ => none))) else none)
| _ => none))
theorem E61 (lp : Lp) (call : Nat → List D → Option D) (a0 : D) (a1 : D) : evF (envOf lp call (inlP lp call)) Tryz.f61 A61 [K11, K11] K11 [a0, a1] = F61 lp call a0 a1 := by kernel_rfl
theorem L61 {lp : Lp} (hlp : LpOk lp) : leafOk 61 (fun call xs => match xs with | [a0, a1] => F61 lp call a0 a1 | _ => none) :=
  leaf2 hlp (by kernel_rfl) (by kernel_rfl) (by kernel_rfl) (fun call a0 a1 => E61 lp call a0 a1)
/- skewback/ratio.Make -/
def A62 : Ann := (.two .leaf (.two .leaf (.two .leaf (.cut [(.normal, ⟨[(2, .same (.ptr K11 4098 [])), (3, .same (.ptr K11 4099 [])), (4, .same (.ptr K12 4100 [])), (5, .same (.ptr K11 12293 []))], [(4098, .keep K11 2), (4099, .keep K11 3), (4100, .keep K12 4), (12293, .one K11 (.dv K11))], []⟩)] [] [4098, 4099, 4100] .leaf (.two (.reg [] 7) .leaf)))))
noncomputable def F62 (lp : Lp) (call : Nat → List D → Option D) (a0 : D) (a1 : D) : Option D :=
(call 128 [a0]).bind fun r1 =>
(D.un .not r1).bind fun x2 =>
(D.truth x2).bind fun b3 =>
(if b3 then (some true) else ((call 128 [a1]).bind fun r4 =>
(D.un .not r4).bind fun x5 =>
 D.truth x5)).bind fun b6 =>
(D.truth (D.bool b6)).bind fun b7 =>
(if b7 then (some true) else ((call 129 [a1]).bind fun r8 =>
 D.truth (D.bool (D.beq r8 (D.int .i64 0))))).bind fun b9 =>
(D.truth (D.bool b9)).bind fun b10 =>
 if b10 then ((call 130 []).bind fun r11 =>
 some r11) else ((call 131 [a0, a1]).bind fun r12 =>
((call 129 [a1]).bind fun r13 =>
(D.bin .lss r13 (D.int .i64 0)).bind fun x14 =>
(D.truth x14).bind fun b15 =>
 if b15 then ((call 68 [r12]).bind fun r16 =>
 some (0, [r16])) else (some (0, [r12]))).bind fun (r17 : Nat × List D) =>
(call 132 [a0, (r17.2.getD 0 (.bool false))]).bind fun r18 =>
(call 132 [a1, (r17.2.getD 0 (.bool false))]).bind fun r19 =>
 some (D.st [r18, r19]))
theorem E62 (lp : Lp) (call : Nat → List D → Option D) (a0 : D) (a1 : D) : evF (envOf lp call (inlP lp call)) Tryz.f62 A62 [K11, K11] K12 [a0, a1] = F62 lp call a0 a1 := by kernel_rfl
theorem L62 {lp : Lp} (hlp : LpOk lp) : leafOk 62 (fun call xs => match xs with | [a0, a1] => F62 lp call a0 a1 | _ => none) :=
  leaf2 hlp (by kernel_rfl) (by kernel_rfl) (by kernel_rfl) (fun call a0 a1 => E62 lp call a0 a1)
/- skewback/whole.Neg -/
def A68 : Ann := .leaf
noncomputable def F68 (lp : Lp) (call : Nat → List D → Option D) (a0 : D) : Option D :=
(call 118 [(D.sl [a0])]).bind fun r1 =>
(D.un .not r1).bind fun x2 =>
(D.truth x2).bind fun b3 =>
 if b3 then ((call 119 []).bind fun r4 =>
 some r4) else ((D.get a0 [1]).bind fun x5 =>
(D.un .not x5).bind fun x6 =>
(D.get a0 [2]).bind fun x7 =>
(call 116 [x6, x7]).bind fun r8 =>
 some r8)
theorem E68 (lp : Lp) (call : Nat → List D → Option D) (a0 : D) : evF (envOf lp call (inlP lp call)) Tryz.f68 A68 [K11] K11 [a0] = F68 lp call a0 := by kernel_rfl
theorem L68 {lp : Lp} (hlp : LpOk lp) : leafOk 68 (fun call xs => match xs with | [a0] => F68 lp call a0 | _ => none) :=
  leaf1 hlp (by kernel_rfl) (by kernel_rfl) (by kernel_rfl) (fun call a0 => E68 lp call a0)
/- skewback/vector.Bad -/
def A71 : Ann := .leaf
noncomputable def F71 (lp : Lp) (call : Nat → List D → Option D) (a0 : D) : Option D :=
(D.get a0 [0, 0, 0]).bind fun x1 =>
(D.truth x1).bind fun b2 =>
(if b2 then (some true) else ((D.get a0 [1, 0, 0]).bind fun x3 =>
 D.truth x3)).bind fun b4 =>
(D.truth (D.bool b4)).bind fun b5 =>
(if b5 then (some true) else ((D.get a0 [2, 0, 0]).bind fun x6 =>
 D.truth x6)).bind fun b7 =>
 some (D.bool b7)
theorem E71 (lp : Lp) (call : Nat → List D → Option D) (a0 : D) : evF (envOf lp call (inlP lp call)) Tryz.f71 A71 [K13] Ty.bool [a0] = F71 lp call a0 := by kernel_rfl
theorem L71 {lp : Lp} (hlp : LpOk lp) : leafOk 71 (fun call xs => match xs with | [a0] => F71 lp call a0 | _ => none) :=
  leaf1 hlp (by kernel_rfl) (by kernel_rfl) (by kernel_rfl) (fun call a0 => E71 lp call a0)
/- skewback/vector.Side -/
def A72 : Ann := (.two .leaf (.two (.reg [] 4) .leaf))
noncomputable def F72 (lp : Lp) (call : Nat → List D → Option D) (a0 : D) (a1 : D) : Option D :=
(call 135 [a0]).bind fun r1 =>
(call 134 [r1, a1]).bind fun r2 =>
 some r2
theorem E72 (lp : Lp) (call : Nat → List D → Option D) (a0 : D) (a1 : D) : evF (envOf lp call (inlP lp call)) Tryz.f72 A72 [K1, K13] K12 [a0, a1] = F72 lp call a0 a1 := by kernel_rfl
theorem L72 {lp : Lp} (hlp : LpOk lp) : leafOk 72 (fun call xs => match xs with | [a0, a1] => F72 lp call a0 a1 | _ => none) :=
  leaf2 hlp (by kernel_rfl) (by kernel_rfl) (by kernel_rfl) (fun call a0 a1 => E72 lp call a0 a1)
/- skewback/ratio.Cmp -/
def A73 : Ann := (.two .leaf (.two (.reg [] 5) (.two .leaf (.two .leaf (.two .leaf (.two (.two (.loop ⟨[(2, .same (.ptr K12 4098 [])), (3, .same (.ptr K12 4099 [])), (7, .dv (Ty.int .i64))], [(4098, .one K12 (.dv K12)), (4099, .one K12 (.dv K12))], []⟩ [(.exit 1, ⟨[(7, .dv (Ty.int .i64))], [], []⟩)] (.two (.two (.two (.reg [] 11) .leaf) (.two (.reg [] 16) (.two (.reg [] 7) .leaf))) .leaf)) .leaf) .leaf))))))
noncomputable def F73 (lp : Lp) (call : Nat → List D → Option D) (a0 : D) (a1 : D) : Option D :=
(call 136 [a0]).bind fun r1 =>
(call 136 [a1]).bind fun r2 =>
(D.un .not r1).bind fun x3 =>
(D.truth x3).bind fun b4 =>
(if b4 then ((D.un .not r2).bind fun x5 =>
 D.truth x5) else (some false)).bind fun b6 =>
(D.truth (D.bool b6)).bind fun b7 =>
 if b7 then (some (D.int .i64 0)) else ((D.un .not r1).bind fun x8 =>
(D.truth x8).bind fun b9 =>
 if b9 then (some (D.int .i64 (-1))) else ((D.un .not r2).bind fun x10 =>
(D.truth x10).bind fun b11 =>
 if b11 then (some (D.int .i64 1)) else ((lp (β := Nat × List D) (fun (v12 : List D) =>
(D.get (v12.getD 1 (.bool false)) [0]).bind fun x13 =>
(D.get (v12.getD 1 (.bool false)) [1]).bind fun x14 =>
(call 132 [x13, x14]).bind fun r15 =>
(D.get (v12.getD 2 (.bool false)) [0]).bind fun x16 =>
(D.get (v12.getD 2 (.bool false)) [1]).bind fun x17 =>
(call 132 [x16, x17]).bind fun r18 =>
(call 90 [r15, r18]).bind fun r19 =>
(D.truth (D.bool (!(D.beq r19 (D.int .i64 0))))).bind fun b20 =>
 if b20 then ((D.bin .mul (v12.getD 0 (.bool false)) r19).bind fun x21 =>
 some (Sum.inr (0, [x21]))) else ((D.get (v12.getD 1 (.bool false)) [1]).bind fun x22 =>
(D.get (v12.getD 1 (.bool false)) [0]).bind fun x23 =>
(D.get (v12.getD 1 (.bool false)) [1]).bind fun x24 =>
(call 137 [x23, x24]).bind fun r25 =>
(D.get (v12.getD 2 (.bool false)) [1]).bind fun x26 =>
(D.get (v12.getD 2 (.bool false)) [0]).bind fun x27 =>
(D.get (v12.getD 2 (.bool false)) [1]).bind fun x28 =>
(call 137 [x27, x28]).bind fun r29 =>
(call 129 [r25]).bind fun r30 =>
(call 129 [r29]).bind fun r31 =>
(D.truth (D.bool (D.beq r30 (D.int .i64 0)))).bind fun b32 =>
(if b32 then (some true) else (D.truth (D.bool (D.beq r31 (D.int .i64 0))))).bind fun b33 =>
(D.truth (D.bool b33)).bind fun b34 =>
 if b34 then ((D.bin .sub r30 r31).bind fun x35 =>
(D.bin .mul (v12.getD 0 (.bool false)) x35).bind fun x36 =>
 some (Sum.inr (0, [x36]))) else ((D.un .neg (v12.getD 0 (.bool false))).bind fun x37 =>
 some (Sum.inl [x37, (D.st [x22, r25]), (D.st [x26, r29])])))) [(D.int .i64 1), a0, a1]).bind fun r38 =>
 some (r38.2.getD 0 (.bool false)))))
theorem E73 (lp : Lp) (call : Nat → List D → Option D) (a0 : D) (a1 : D) : evF (envOf lp call (inlP lp call)) Tryz.f73 A73 [K12, K12] (Ty.int .i64) [a0, a1] = F73 lp call a0 a1 := by kernel_rfl
theorem L73 {lp : Lp} (hlp : LpOk lp) : leafOk 73 (fun call xs => match xs with | [a0, a1] => F73 lp call a0 a1 | _ => none) :=
  leaf2 hlp (by kernel_rfl) (by kernel_rfl) (by kernel_rfl) (fun call a0 a1 => E73 lp call a0 a1)
/- skewback/ratio.Of -/
def A74 : Ann := .leaf
noncomputable def F74 (lp : Lp) (call : Nat → List D → Option D) (a0 : D) : Option D :=
(call 54 [a0]).bind fun r1 =>
(call 138 [r1]).bind fun r2 =>
 some r2
theorem E74 (lp : Lp) (call : Nat → List D → Option D) (a0 : D) : evF (envOf lp call (inlP lp call)) Tryz.f74 A74 [Ty.int .i64] K12 [a0] = F74 lp call a0 := by kernel_rfl
theorem L74 {lp : Lp} (hlp : LpOk lp) : leafOk 74 (fun call xs => match xs with | [a0] => F74 lp call a0 | _ => none) :=
  leaf1 hlp (by kernel_rfl) (by kernel_rfl) (by kernel_rfl) (fun call a0 => E74 lp call a0)
/- skewback/skewbackref04.Of -/
def A75 : Ann := .leaf
noncomputable def F75 (lp : Lp) (call : Nat → List D → Option D) (a0 : D) : Option D :=
(call 34 [a0]).bind fun r1 =>
(call 133 []).bind fun r2 =>
(call 37 [r1, r2]).bind fun r3 =>
 some r3
theorem E75 (lp : Lp) (call : Nat → List D → Option D) (a0 : D) : evF (envOf lp call (inlP lp call)) Tryz.f75 A75 [Ty.int .i64] K12 [a0] = F75 lp call a0 := by kernel_rfl
theorem L75 {lp : Lp} (hlp : LpOk lp) : leafOk 75 (fun call xs => match xs with | [a0] => F75 lp call a0 | _ => none) :=
  leaf1 hlp (by kernel_rfl) (by kernel_rfl) (by kernel_rfl) (fun call a0 => E75 lp call a0)
/- skewback/skewbackref03.Good -/
def A76 : Ann := .leaf
noncomputable def F76 (lp : Lp) (call : Nat → List D → Option D) (a0 : D) : Option D :=
(call 139 [a0]).bind fun r1 =>
(D.truth r1).bind fun b2 =>
(if b2 then ((D.get a0 [0]).bind fun x3 =>
(D.un .not x3).bind fun x4 =>
 D.truth x4) else (some false)).bind fun b5 =>
 some (D.bool b5)
theorem E76 (lp : Lp) (call : Nat → List D → Option D) (a0 : D) : evF (envOf lp call (inlP lp call)) Tryz.f76 A76 [K11] Ty.bool [a0] = F76 lp call a0 := by kernel_rfl
theorem L76 {lp : Lp} (hlp : LpOk lp) : leafOk 76 (fun call xs => match xs with | [a0] => F76 lp call a0 | _ => none) :=
  leaf1 hlp (by kernel_rfl) (by kernel_rfl) (by kernel_rfl) (fun call a0 => E76 lp call a0)
/- skewback/skewbackref03.digits -/
def A77 : Ann := (.two .leaf (.two .leaf (.two (.two .leaf (.two (.loop ⟨[(1, .same (.ptr K11 4097 [])), (3, .ow (Ty.int .i64)), (4, .dv (Ty.int .i64))], [(4097, .keep K11 1)], []⟩ [(.exit 0, ⟨[(3, .ow (Ty.int .i64))], [], []⟩)] (.two .leaf (.two (.two (.reg [] 14) .leaf) .leaf))) .leaf)) .leaf)))
noncomputable def F77 (lp : Lp) (call : Nat → List D → Option D) (a0 : D) : Option D :=
(lp (β := Nat × List D) (fun (v1 : List D) =>
(D.bin .lss (v1.getD 1 (.bool false)) (D.int .i64 16)).bind fun x2 =>
(D.truth x2).bind fun b3 =>
 if b3 then ((D.idx (v1.getD 1 (.bool false)) 16).bind fun i4 =>
(D.get a0 [2, i4]).bind fun x5 =>
(D.bin .rem x5 (D.int .u32 65536)).bind fun x6 =>
(D.conv .i64 x6).bind fun x7 =>
(D.idx (v1.getD 1 (.bool false)) 16).bind fun i8 =>
(D.get a0 [2, i8]).bind fun x9 =>
(D.bin .quo x9 (D.int .u32 65536)).bind fun x10 =>
(D.conv .i64 x10).bind fun x11 =>
 if List.length ((v1.getD 0 (.bool false)).els) + List.length [x7, x11] ≤ 1073741824 then ((D.bin .add (v1.getD 1 (.bool false)) (D.int .i64 1)).bind fun x12 =>
 some (Sum.inl [(D.sl (((v1.getD 0 (.bool false)).els) ++ [x7, x11])), x12])) else none) else (some (Sum.inr (0, [(D.sl ((v1.getD 0 (.bool false)).els))])))) [(D.sl []), (D.int .i64 0)]).bind fun r13 =>
(call 140 [(D.sl ((r13.2.getD 0 (.bool false)).els))]).bind fun r14 =>
 some r14
theorem E77 (lp : Lp) (call : Nat → List D → Option D) (a0 : D) : evF (envOf lp call (inlP lp call)) Tryz.f77 A77 [K11] K5 [a0] = F77 lp call a0 := by kernel_rfl
theorem L77 {lp : Lp} (hlp : LpOk lp) : leafOk 77 (fun call xs => match xs with | [a0] => F77 lp call a0 | _ => none) :=
  leaf1 hlp (by kernel_rfl) (by kernel_rfl) (by kernel_rfl) (fun call a0 => E77 lp call a0)
/- skewback/skewbackref03.less -/
def A78 : Ann := (.two .leaf (.two (.two .leaf (.two (.loop ⟨[(5, .dv (Ty.int .i64))], [], [0, 1]⟩ [(.ret, ⟨[(4, .dv Ty.bool)], [], []⟩), (.exit 0, ⟨[], [], []⟩)] .leaf) .leaf)) .leaf))
noncomputable def F78 (lp : Lp) (call : Nat → List D → Option D) (a0 : D) (a1 : D) : Option D :=
(D.asSl a0).bind fun l1 =>
(D.asSl a1).bind fun l2 =>
(D.max2 (D.int .i64 (l1.length)) (D.int .i64 (l2.length))).bind fun x3 =>
(D.bin .sub x3 (D.int .i64 1)).bind fun x4 =>
(lp (β := Nat × List D) (fun (v5 : List D) =>
(D.bin .geq (v5.getD 0 (.bool false)) (D.int .i64 0)).bind fun x6 =>
(D.truth x6).bind fun b7 =>
 if b7 then ((call 141 [a0, (v5.getD 0 (.bool false))]).bind fun r8 =>
(call 141 [a1, (v5.getD 0 (.bool false))]).bind fun r9 =>
(D.truth (D.bool (!(D.beq r8 r9)))).bind fun b10 =>
 if b10 then ((call 141 [a0, (v5.getD 0 (.bool false))]).bind fun r11 =>
(call 141 [a1, (v5.getD 0 (.bool false))]).bind fun r12 =>
(D.bin .lss r11 r12).bind fun x13 =>
 some (Sum.inr (0, [x13]))) else ((D.bin .sub (v5.getD 0 (.bool false)) (D.int .i64 1)).bind fun x14 =>
 some (Sum.inl [x14]))) else (some (Sum.inr (1, [])))) [x4]).bind fun r15 =>
 if r15.1 = 0 then (some (r15.2.getD 0 (.bool false))) else (some (D.bool false))
theorem E78 (lp : Lp) (call : Nat → List D → Option D) (a0 : D) (a1 : D) : evF (envOf lp call (inlP lp call)) Tryz.f78 A78 [K5, K5] Ty.bool [a0, a1] = F78 lp call a0 a1 := by kernel_rfl
theorem L78 {lp : Lp} (hlp : LpOk lp) : leafOk 78 (fun call xs => match xs with | [a0, a1] => F78 lp call a0 a1 | _ => none) :=
  leaf2 hlp (by kernel_rfl) (by kernel_rfl) (by kernel_rfl) (fun call a0 a1 => E78 lp call a0 a1)
/- skewback/skewbackref06.Wide -/
def A80 : Ann := (.two .leaf (.two (.reg [] 10) .leaf))
noncomputable def F80 (lp : Lp) (call : Nat → List D → Option D) (a0 : D) : Option D :=
(D.get a0 [0]).bind fun x1 =>
(call 34 [x1]).bind fun r2 =>
(D.get a0 [1]).bind fun x3 =>
(call 34 [x3]).bind fun r4 =>
(D.get a0 [2]).bind fun x5 =>
(call 34 [x5]).bind fun r6 =>
 some (D.st [r2, r4, r6])
theorem E80 (lp : Lp) (call : Nat → List D → Option D) (a0 : D) : evF (envOf lp call (inlP lp call)) Tryz.f80 A80 [K1] K23 [a0] = F80 lp call a0 := by kernel_rfl
theorem L80 {lp : Lp} (hlp : LpOk lp) : leafOk 80 (fun call xs => match xs with | [a0] => F80 lp call a0 | _ => none) :=
  leaf1 hlp (by kernel_rfl) (by kernel_rfl) (by kernel_rfl) (fun call a0 => E80 lp call a0)
/- skewback/skewbackref03.number -/
def A81 : Ann := (.two .leaf (.two .leaf (.two .leaf (.two .leaf (.two (.two .leaf (.two (.loop ⟨[(4, .same (.ptr K11 4100 [])), (6, .same (.ptr K11 16390 [])), (7, .dv (Ty.int .i64))], [(4100, .keep K11 4), (16390, .one K11 (.dv K11))], [5]⟩ [(.exit 0, ⟨[(4, .same (.ptr K11 4100 [])), (6, .same (.ptr K11 16390 []))], [(4100, .keep K11 4), (16390, .one K11 (.dv K11))], []⟩)] (.two .leaf (.cut [(.normal, ⟨[(4, .same (.ptr K11 4100 [])), (6, .same (.ptr K11 16390 []))], [(4100, .keep K11 4), (16390, .one K11 (.dv K11))], [5, 7]⟩)] [5, 7] [4100] (.two (.two .leaf (.two (.reg [] 15) (.reg [] 16))) .leaf) .leaf))) .leaf)) .leaf)))))
noncomputable def F81 (lp : Lp) (call : Nat → List D → Option D) (a0 : D) (a1 : D) : Option D :=
(call 140 [a1]).bind fun r1 =>
(D.asSl r1).bind fun l2 =>
(D.bin .gtr (D.int .i64 (l2.length)) (D.int .i64 32)).bind fun x3 =>
(D.truth x3).bind fun b4 =>
 if b4 then ((call 125 []).bind fun r5 =>
 some r5) else ((D.truth a0).bind fun b6 =>
(if b6 then ((D.asSl r1).bind fun l7 =>
(D.bin .gtr (D.int .i64 (l7.length)) (D.int .i64 0)).bind fun x8 =>
 D.truth x8) else (some false)).bind fun b9 =>
(lp (β := Nat × List D) (fun (v10 : List D) =>
(D.asSl r1).bind fun l11 =>
(D.bin .lss (v10.getD 0 (.bool false)) (D.int .i64 (l11.length))).bind fun x12 =>
(D.truth x12).bind fun b13 =>
 if b13 then (((D.bin .rem (v10.getD 0 (.bool false)) (D.int .i64 2)).bind fun x14 =>
(D.truth (D.bool (D.beq x14 (D.int .i64 0)))).bind fun b15 =>
 if b15 then ((D.bin .quo (v10.getD 0 (.bool false)) (D.int .i64 2)).bind fun x16 =>
(D.bin .quo (v10.getD 0 (.bool false)) (D.int .i64 2)).bind fun x17 =>
(D.idx x17 16).bind fun i18 =>
(D.get (v10.getD 1 (.bool false)) [2, i18]).bind fun x19 =>
(D.asSl r1).bind fun l20 =>
(D.idx (v10.getD 0 (.bool false)) (l20.length)).bind fun i21 =>
(l20[i21]?).bind fun x22 =>
(D.conv .u32 x22).bind fun x23 =>
(D.bin .add x19 x23).bind fun x24 =>
(D.idx x16 16).bind fun i25 =>
(D.set (v10.getD 1 (.bool false)) [2, i25] x24).bind fun x26 =>
 some (0, [x26])) else ((D.bin .quo (v10.getD 0 (.bool false)) (D.int .i64 2)).bind fun x27 =>
(D.bin .quo (v10.getD 0 (.bool false)) (D.int .i64 2)).bind fun x28 =>
(D.idx x28 16).bind fun i29 =>
(D.get (v10.getD 1 (.bool false)) [2, i29]).bind fun x30 =>
(D.asSl r1).bind fun l31 =>
(D.idx (v10.getD 0 (.bool false)) (l31.length)).bind fun i32 =>
(l31[i32]?).bind fun x33 =>
(D.conv .u32 x33).bind fun x34 =>
(D.bin .mul x34 (D.int .u32 65536)).bind fun x35 =>
(D.bin .add x30 x35).bind fun x36 =>
(D.idx x27 16).bind fun i37 =>
(D.set (v10.getD 1 (.bool false)) [2, i37] x36).bind fun x38 =>
 some (0, [x38]))).bind fun (r39 : Nat × List D) =>
(D.bin .add (v10.getD 0 (.bool false)) (D.int .i64 1)).bind fun x40 =>
 some (Sum.inl [x40, (r39.2.getD 0 (.bool false))])) else (some (Sum.inr (0, [(v10.getD 1 (.bool false))])))) [(D.int .i64 0), (D.st [(D.bool false), (D.bool b9), (zeroD K10)])]).bind fun r41 =>
 some (r41.2.getD 0 (.bool false)))
theorem E81 (lp : Lp) (call : Nat → List D → Option D) (a0 : D) (a1 : D) : evF (envOf lp call (inlP lp call)) Tryz.f81 A81 [Ty.bool, K5] K11 [a0, a1] = F81 lp call a0 a1 := by kernel_rfl
theorem L81 {lp : Lp} (hlp : LpOk lp) : leafOk 81 (fun call xs => match xs with | [a0, a1] => F81 lp call a0 a1 | _ => none) :=
  leaf2 hlp (by kernel_rfl) (by kernel_rfl) (by kernel_rfl) (fun call a0 a1 => E81 lp call a0 a1)
/- skewback/skewbackref03.plus -/
def A82 : Ann := (.two .leaf (.two .leaf (.two .leaf (.two (.two .leaf (.two (.loop ⟨[(5, .ow (Ty.int .i64)), (6, .dv (Ty.int .i64)), (7, .dv (Ty.int .i64))], [], [0, 1]⟩ [(.exit 0, ⟨[(5, .ow (Ty.int .i64))], [], []⟩)] .leaf) .leaf)) .leaf))))
noncomputable def F82 (lp : Lp) (call : Nat → List D → Option D) (a0 : D) (a1 : D) : Option D :=
(lp (β := Nat × List D) (fun (v1 : List D) =>
(D.asSl a0).bind fun l2 =>
(D.asSl a1).bind fun l3 =>
(D.max2 (D.int .i64 (l2.length)) (D.int .i64 (l3.length))).bind fun x4 =>
(D.bin .add x4 (D.int .i64 1)).bind fun x5 =>
(D.bin .lss (v1.getD 2 (.bool false)) x5).bind fun x6 =>
(D.truth x6).bind fun b7 =>
 if b7 then ((call 141 [a0, (v1.getD 2 (.bool false))]).bind fun r8 =>
(call 141 [a1, (v1.getD 2 (.bool false))]).bind fun r9 =>
(D.bin .add r8 r9).bind fun x10 =>
(D.bin .add x10 (v1.getD 1 (.bool false))).bind fun x11 =>
(D.bin .rem x11 (D.int .i64 65536)).bind fun x12 =>
 if List.length ((v1.getD 0 (.bool false)).els) + List.length [x12] ≤ 1073741824 then ((D.bin .quo x11 (D.int .i64 65536)).bind fun x13 =>
(D.bin .add (v1.getD 2 (.bool false)) (D.int .i64 1)).bind fun x14 =>
 some (Sum.inl [(D.sl (((v1.getD 0 (.bool false)).els) ++ [x12])), x13, x14])) else none) else (some (Sum.inr (0, [(D.sl ((v1.getD 0 (.bool false)).els))])))) [(D.sl []), (D.int .i64 0), (D.int .i64 0)]).bind fun r15 =>
(call 140 [(D.sl ((r15.2.getD 0 (.bool false)).els))]).bind fun r16 =>
 some r16
theorem E82 (lp : Lp) (call : Nat → List D → Option D) (a0 : D) (a1 : D) : evF (envOf lp call (inlP lp call)) Tryz.f82 A82 [K5, K5] K5 [a0, a1] = F82 lp call a0 a1 := by kernel_rfl
theorem L82 {lp : Lp} (hlp : LpOk lp) : leafOk 82 (fun call xs => match xs with | [a0, a1] => F82 lp call a0 a1 | _ => none) :=
  leaf2 hlp (by kernel_rfl) (by kernel_rfl) (by kernel_rfl) (fun call a0 a1 => E82 lp call a0 a1)
/- skewback/skewbackref03.Sign -/
def A83 : Ann := .leaf
noncomputable def F83 (lp : Lp) (call : Nat → List D → Option D) (a0 : D) : Option D :=
(call 76 [a0]).bind fun r1 =>
(D.un .not r1).bind fun x2 =>
(D.truth x2).bind fun b3 =>
(if b3 then (some true) else ((call 77 [a0]).bind fun r4 =>
(D.asSl r4).bind fun l5 =>
 D.truth (D.bool (D.beq (D.int .i64 (l5.length)) (D.int .i64 0))))).bind fun b6 =>
(D.truth (D.bool b6)).bind fun b7 =>
 if b7 then (some (D.int .i64 0)) else ((D.get a0 [1]).bind fun x8 =>
(D.truth x8).bind fun b9 =>
 if b9 then (some (D.int .i64 (-1))) else (some (D.int .i64 1)))
theorem E83 (lp : Lp) (call : Nat → List D → Option D) (a0 : D) : evF (envOf lp call (inlP lp call)) Tryz.f83 A83 [K11] (Ty.int .i64) [a0] = F83 lp call a0 := by kernel_rfl
theorem L83 {lp : Lp} (hlp : LpOk lp) : leafOk 83 (fun call xs => match xs with | [a0] => F83 lp call a0 | _ => none) :=
  leaf1 hlp (by kernel_rfl) (by kernel_rfl) (by kernel_rfl) (fun call a0 => E83 lp call a0)
/- skewback/skewbackref04.Bad -/
def A84 : Ann := .leaf
noncomputable def F84 (lp : Lp) (call : Nat → List D → Option D)  : Option D :=
(call 125 []).bind fun r1 =>
(call 133 []).bind fun r2 =>
 some (D.st [r1, r2])
theorem E84 (lp : Lp) (call : Nat → List D → Option D)  : evF (envOf lp call (inlP lp call)) Tryz.f84 A84 [] K12 [] = F84 lp call  := by kernel_rfl
theorem L84 {lp : Lp} (hlp : LpOk lp) : leafOk 84 (fun call xs => match xs with | [] => F84 lp call  | _ => none) :=
  leaf0 hlp (by kernel_rfl) (by kernel_rfl) (by kernel_rfl) (fun call  => E84 lp call )
/- skewback/skewbackref03.Gcd -/
def A85 : Ann := (.two .leaf (.two .leaf (.two .leaf (.two (.two .leaf (.two (.two (.two (.loop ⟨[(4, .same (.ptr K11 4100 [])), (5, .dv (Ty.int .i64)), (7, .dv (Ty.int .i64))], [(4100, .keep K11 4)], []⟩ [(.exit 0, ⟨[(4, .same (.ptr K11 4100 [])), (5, .dv (Ty.int .i64))], [(4100, .keep K11 4)], []⟩)] .leaf) .leaf) .leaf) .leaf)) (.two .leaf (.two .leaf (.two .leaf (.two (.two (.loop ⟨[(4, .same (.ptr K11 4100 [])), (10, .dv K5), (11, .dv K5)], [(4100, .keep K11 4)], []⟩ [(.exit 2, ⟨[(4, .same (.ptr K11 4100 [])), (10, .dv K5)], [(4100, .keep K11 4)], []⟩)] .leaf) .leaf) .leaf))))))))
noncomputable def F85 (lp : Lp) (call : Nat → List D → Option D) (a0 : D) (a1 : D) : Option D :=
(call 124 [a0]).bind fun r1 =>
(D.tupAt r1 0).bind fun x2 =>
(D.tupAt r1 1).bind fun x3 =>
(call 124 [a1]).bind fun r4 =>
(D.tupAt r4 0).bind fun x5 =>
(D.tupAt r4 1).bind fun x6 =>
(D.truth x3).bind fun b7 =>
(if b7 then (D.truth x6) else (some false)).bind fun b8 =>
(D.truth (D.bool b8)).bind fun b9 =>
 if b9 then ((lp (β := Nat × List D) (fun (v10 : List D) =>
(D.truth (D.bool (!(D.beq (v10.getD 1 (.bool false)) (D.int .i64 0))))).bind fun b11 =>
 if b11 then ((D.bin .rem (v10.getD 0 (.bool false)) (v10.getD 1 (.bool false))).bind fun x12 =>
 some (Sum.inl [(v10.getD 1 (.bool false)), x12])) else (some (Sum.inr (0, [(v10.getD 0 (.bool false))])))) [x2, x5]).bind fun r13 =>
(call 34 [(r13.2.getD 0 (.bool false))]).bind fun r14 =>
(call 142 [r14]).bind fun r15 =>
 some r15) else ((call 76 [a0]).bind fun r16 =>
(D.un .not r16).bind fun x17 =>
(D.truth x17).bind fun b18 =>
(if b18 then (some true) else ((call 76 [a1]).bind fun r19 =>
(D.un .not r19).bind fun x20 =>
 D.truth x20)).bind fun b21 =>
(D.truth (D.bool b21)).bind fun b22 =>
 if b22 then ((call 125 []).bind fun r23 =>
 some r23) else ((call 77 [a0]).bind fun r24 =>
(call 77 [a1]).bind fun r25 =>
(lp (β := Nat × List D) (fun (v26 : List D) =>
(D.asSl (v26.getD 1 (.bool false))).bind fun l27 =>
(D.bin .gtr (D.int .i64 (l27.length)) (D.int .i64 0)).bind fun x28 =>
(D.truth x28).bind fun b29 =>
 if b29 then ((call 143 [(v26.getD 0 (.bool false)), (v26.getD 1 (.bool false))]).bind fun r30 =>
(D.tupAt r30 0).bind fun x31 =>
(D.tupAt r30 1).bind fun x32 =>
 some (Sum.inl [(v26.getD 1 (.bool false)), x32])) else (some (Sum.inr (0, [(v26.getD 0 (.bool false))])))) [r24, r25]).bind fun r33 =>
(call 81 [(D.bool false), (r33.2.getD 0 (.bool false))]).bind fun r34 =>
 some r34))
theorem E85 (lp : Lp) (call : Nat → List D → Option D) (a0 : D) (a1 : D) : evF (envOf lp call (inlP lp call)) Tryz.f85 A85 [K11, K11] K11 [a0, a1] = F85 lp call a0 a1 := by kernel_rfl
theorem L85 {lp : Lp} (hlp : LpOk lp) : leafOk 85 (fun call xs => match xs with | [a0, a1] => F85 lp call a0 a1 | _ => none) :=
  leaf2 hlp (by kernel_rfl) (by kernel_rfl) (by kernel_rfl) (fun call a0 a1 => E85 lp call a0 a1)
/- skewback/skewbackref03.Neg -/
def A86 : Ann := (.two .leaf (.two .leaf (.two (.reg [] 6) .leaf)))
noncomputable def F86 (lp : Lp) (call : Nat → List D → Option D) (a0 : D) : Option D :=
(call 76 [a0]).bind fun r1 =>
(D.un .not r1).bind fun x2 =>
(D.truth x2).bind fun b3 =>
 if b3 then ((call 125 []).bind fun r4 =>
 some r4) else ((D.get a0 [1]).bind fun x5 =>
(D.un .not x5).bind fun x6 =>
(call 77 [a0]).bind fun r7 =>
(call 81 [x6, r7]).bind fun r8 =>
 some r8)
theorem E86 (lp : Lp) (call : Nat → List D → Option D) (a0 : D) : evF (envOf lp call (inlP lp call)) Tryz.f86 A86 [K11] K11 [a0] = F86 lp call a0 := by kernel_rfl
theorem L86 {lp : Lp} (hlp : LpOk lp) : leafOk 86 (fun call xs => match xs with | [a0] => F86 lp call a0 | _ => none) :=
  leaf1 hlp (by kernel_rfl) (by kernel_rfl) (by kernel_rfl) (fun call a0 => E86 lp call a0)
/- skewback/skewbackref03.Quo -/
def A87 : Ann := (.two .leaf (.two .leaf (.two .leaf (.two .leaf (.two .leaf (.two (.reg [] 9) (.cut [(.normal, ⟨[(2, .same (.ptr K11 4098 [])), (3, .same (.ptr K11 4099 [])), (4, .same (.ptr K11 4100 [])), (9, .dv K5)], [(4098, .keep K11 2), (4099, .keep K11 3), (4100, .keep K11 4)], []⟩)] [] [4098, 4099, 4100] .leaf .leaf)))))))
noncomputable def F87 (lp : Lp) (call : Nat → List D → Option D) (a0 : D) (a1 : D) : Option D :=
(call 124 [a0]).bind fun r1 =>
(D.tupAt r1 0).bind fun x2 =>
(D.tupAt r1 1).bind fun x3 =>
(call 124 [a1]).bind fun r4 =>
(D.tupAt r4 0).bind fun x5 =>
(D.tupAt r4 1).bind fun x6 =>
(D.truth x3).bind fun b7 =>
(if b7 then (D.truth x6) else (some false)).bind fun b8 =>
(D.truth (D.bool b8)).bind fun b9 =>
(if b9 then (D.truth (D.bool (!(D.beq x5 (D.int .i64 0))))) else (some false)).bind fun b10 =>
(D.truth (D.bool b10)).bind fun b11 =>
 if b11 then ((call 144 [x2, x5]).bind fun r12 =>
(call 34 [r12]).bind fun r13 =>
 some r13) else ((call 76 [a0]).bind fun r14 =>
(D.un .not r14).bind fun x15 =>
(D.truth x15).bind fun b16 =>
(if b16 then (some true) else ((call 76 [a1]).bind fun r17 =>
(D.un .not r17).bind fun x18 =>
 D.truth x18)).bind fun b19 =>
(D.truth (D.bool b19)).bind fun b20 =>
(if b20 then (some true) else ((call 77 [a1]).bind fun r21 =>
(D.asSl r21).bind fun l22 =>
 D.truth (D.bool (D.beq (D.int .i64 (l22.length)) (D.int .i64 0))))).bind fun b23 =>
(D.truth (D.bool b23)).bind fun b24 =>
 if b24 then ((call 125 []).bind fun r25 =>
 some r25) else ((call 77 [a0]).bind fun r26 =>
(call 77 [a1]).bind fun r27 =>
(call 143 [r26, r27]).bind fun r28 =>
(D.tupAt r28 0).bind fun x29 =>
(D.tupAt r28 1).bind fun x30 =>
((D.get a0 [1]).bind fun x31 =>
(D.get a1 [1]).bind fun x32 =>
(D.truth (D.bool (!(D.beq x31 x32)))).bind fun b33 =>
(if b33 then ((D.asSl x30).bind fun l34 =>
(D.bin .gtr (D.int .i64 (l34.length)) (D.int .i64 0)).bind fun x35 =>
 D.truth x35) else (some false)).bind fun b36 =>
(D.truth (D.bool b36)).bind fun b37 =>
 if b37 then ((call 82 [x29, (D.sl [(D.int .i64 1)])]).bind fun r38 =>
 some (0, [r38])) else (some (0, [x29]))).bind fun (r39 : Nat × List D) =>
(D.get a0 [1]).bind fun x40 =>
(D.get a1 [1]).bind fun x41 =>
(call 81 [(D.bool (!(D.beq x40 x41))), (r39.2.getD 0 (.bool false))]).bind fun r42 =>
 some r42))
theorem E87 (lp : Lp) (call : Nat → List D → Option D) (a0 : D) (a1 : D) : evF (envOf lp call (inlP lp call)) Tryz.f87 A87 [K11, K11] K11 [a0, a1] = F87 lp call a0 a1 := by kernel_rfl
theorem L87 {lp : Lp} (hlp : LpOk lp) : leafOk 87 (fun call xs => match xs with | [a0, a1] => F87 lp call a0 a1 | _ => none) :=
  leaf2 hlp (by kernel_rfl) (by kernel_rfl) (by kernel_rfl) (fun call a0 a1 => E87 lp call a0 a1)
/- skewback/whole.Cmp -/
def A90 : Ann := (.two .leaf (.two (.reg [] 7) .leaf))
noncomputable def F90 (lp : Lp) (call : Nat → List D → Option D) (a0 : D) (a1 : D) : Option D :=
(call 118 [(D.sl [a0])]).bind fun r1 =>
(call 118 [(D.sl [a1])]).bind fun r2 =>
(D.un .not r1).bind fun x3 =>
(D.truth x3).bind fun b4 =>
(if b4 then ((D.un .not r2).bind fun x5 =>
 D.truth x5) else (some false)).bind fun b6 =>
(D.truth (D.bool b6)).bind fun b7 =>
 if b7 then (some (D.int .i64 0)) else ((D.un .not r1).bind fun x8 =>
(D.truth x8).bind fun b9 =>
 if b9 then (some (D.int .i64 (-1))) else ((D.un .not r2).bind fun x10 =>
(D.truth x10).bind fun b11 =>
 if b11 then (some (D.int .i64 1)) else ((D.get a0 [1]).bind fun x12 =>
(D.get a1 [1]).bind fun x13 =>
(D.truth (D.bool (!(D.beq x12 x13)))).bind fun b14 =>
 if b14 then ((D.get a0 [1]).bind fun x15 =>
(D.truth x15).bind fun b16 =>
 if b16 then (some (D.int .i64 (-1))) else (some (D.int .i64 1))) else ((D.get a0 [1]).bind fun x17 =>
(D.truth x17).bind fun b18 =>
 if b18 then ((D.get a1 [2]).bind fun x19 =>
(D.get a0 [2]).bind fun x20 =>
(call 121 [x19, x20]).bind fun r21 =>
 some r21) else ((D.get a0 [2]).bind fun x22 =>
(D.get a1 [2]).bind fun x23 =>
(call 121 [x22, x23]).bind fun r24 =>
 some r24)))))
theorem E90 (lp : Lp) (call : Nat → List D → Option D) (a0 : D) (a1 : D) : evF (envOf lp call (inlP lp call)) Tryz.f90 A90 [K11, K11] (Ty.int .i64) [a0, a1] = F90 lp call a0 a1 := by kernel_rfl
theorem L90 {lp : Lp} (hlp : LpOk lp) : leafOk 90 (fun call xs => match xs with | [a0, a1] => F90 lp call a0 a1 | _ => none) :=
  leaf2 hlp (by kernel_rfl) (by kernel_rfl) (by kernel_rfl) (fun call a0 a1 => E90 lp call a0 a1)
/- skewback/vector.Dot -/
def A91 : Ann := (.two .leaf (.two (.reg [] 5) .leaf))
noncomputable def F91 (lp : Lp) (call : Nat → List D → Option D) (a0 : D) (a1 : D) : Option D :=
(call 148 [a0]).bind fun r1 =>
(call 148 [a1]).bind fun r2 =>
(call 147 [r1, r2]).bind fun r3 =>
 some r3
theorem E91 (lp : Lp) (call : Nat → List D → Option D) (a0 : D) (a1 : D) : evF (envOf lp call (inlP lp call)) Tryz.f91 A91 [K1, K1] K11 [a0, a1] = F91 lp call a0 a1 := by kernel_rfl
theorem L91 {lp : Lp} (hlp : LpOk lp) : leafOk 91 (fun call xs => match xs with | [a0, a1] => F91 lp call a0 a1 | _ => none) :=
  leaf2 hlp (by kernel_rfl) (by kernel_rfl) (by kernel_rfl) (fun call a0 a1 => E91 lp call a0 a1)
/- skewback/hull.sorted$1 -/
def A94 : Ann := (.two .leaf (.two (.reg [] 17) .leaf))
noncomputable def F94 (lp : Lp) (call : Nat → List D → Option D) (a0 : D) (a1 : D) : Option D :=
(D.get a0 [0]).bind fun x1 =>
(D.get a1 [0]).bind fun x2 =>
(call 53 [x1, x2]).bind fun r3 =>
(D.get a0 [1]).bind fun x4 =>
(D.get a1 [1]).bind fun x5 =>
(call 53 [x4, x5]).bind fun r6 =>
(D.get a0 [2]).bind fun x7 =>
(D.get a1 [2]).bind fun x8 =>
(call 53 [x7, x8]).bind fun r9 =>
(call 52 [(D.sl [r3, r6, r9])]).bind fun r10 =>
 some r10
theorem E94 (lp : Lp) (call : Nat → List D → Option D) (a0 : D) (a1 : D) : evF (envOf lp call (inlP lp call)) Tryz.f94 A94 [K1, K1] (Ty.int .i64) [a0, a1] = F94 lp call a0 a1 := by kernel_rfl
theorem L94 {lp : Lp} (hlp : LpOk lp) : leafOk 94 (fun call xs => match xs with | [a0, a1] => F94 lp call a0 a1 | _ => none) :=
  leaf2 hlp (by kernel_rfl) (by kernel_rfl) (by kernel_rfl) (fun call a0 a1 => E94 lp call a0 a1)
/- slices.Compact[[]skewback/api.IVec,skewback/api.IVec] -/
def A95 : Ann := (.two .leaf (.two .leaf (.two (.two .leaf (.two (.loop ⟨[(3, .dv (Ty.int .i64))], [], [0]⟩ [(.exit 0, ⟨[], [], [0]⟩)] (.two .leaf (.two (.two (.two (.reg [] 9) (.two (.two .leaf (.two (.two .leaf (.two (.loop ⟨[(3, .dv (Ty.int .i64)), (5, .dv (Ty.int .i64))], [], [0, 4]⟩ [(.exit 2, ⟨[(3, .dv (Ty.int .i64))], [], [0]⟩)] (.two .leaf (.cut [(.normal, ⟨[(3, .dv (Ty.int .i64))], [], [0, 4, 5]⟩)] [0, 4, 5] [] (.two (.two (.reg [] 9) .leaf) .leaf) .leaf))) .leaf)) .leaf)) .leaf)) .leaf) .leaf))) .leaf)) .leaf)))
noncomputable def F95 (lp : Lp) (call : Nat → List D → Option D) (a0 : D) : Option D :=
(D.asSl a0).bind fun l1 =>
(D.bin .lss (D.int .i64 (l1.length)) (D.int .i64 2)).bind fun x2 =>
(D.truth x2).bind fun b3 =>
 if b3 then (some a0) else ((lp (β := Nat × List D) (fun (v4 : List D) =>
(D.asSl a0).bind fun l5 =>
(D.bin .lss (v4.getD 0 (.bool false)) (D.int .i64 (l5.length))).bind fun x6 =>
(D.truth x6).bind fun b7 =>
 if b7 then ((D.asSl a0).bind fun l8 =>
(D.idx (v4.getD 0 (.bool false)) (l8.length)).bind fun i9 =>
(l8[i9]?).bind fun x10 =>
(D.bin .sub (v4.getD 0 (.bool false)) (D.int .i64 1)).bind fun x11 =>
(D.asSl a0).bind fun l12 =>
(D.idx x11 (l12.length)).bind fun i13 =>
(l12[i13]?).bind fun x14 =>
(D.truth (D.bool (D.beq x10 x14))).bind fun b15 =>
 if b15 then ((D.asSl a0).bind fun l16 =>
(D.natOf (v4.getD 0 (.bool false))).bind fun i17 =>
(D.cut l16 i17 (l16.length)).bind fun l18 =>
(lp (β := Nat × List D) (fun (v19 : List D) =>
(D.bin .lss (v19.getD 1 (.bool false)) (D.int .i64 (l18.length))).bind fun x20 =>
(D.truth x20).bind fun b21 =>
 if b21 then (((D.idx (v19.getD 1 (.bool false)) (l18.length)).bind fun i22 =>
(l18[i22]?).bind fun x23 =>
(D.bin .sub (v19.getD 1 (.bool false)) (D.int .i64 1)).bind fun x24 =>
(D.idx x24 (l18.length)).bind fun i25 =>
(l18[i25]?).bind fun x26 =>
(D.truth (D.bool (!(D.beq x23 x26)))).bind fun b27 =>
 if b27 then ((D.idx (v19.getD 1 (.bool false)) (l18.length)).bind fun i28 =>
(l18[i28]?).bind fun x29 =>
(D.asSl a0).bind fun l30 =>
(D.idx (v19.getD 0 (.bool false)) (l30.length)).bind fun i31 =>
(l30[i31]?).bind fun x32 =>
 none) else (some (0, [(v19.getD 0 (.bool false))]))).bind fun (r33 : Nat × List D) =>
(D.bin .add (v19.getD 1 (.bool false)) (D.int .i64 1)).bind fun x34 =>
 some (Sum.inl [(r33.2.getD 0 (.bool false)), x34])) else (some (Sum.inr (0, [(v19.getD 0 (.bool false))])))) [(v4.getD 0 (.bool false)), (D.int .i64 1)]).bind fun r35 =>
(D.asSl a0).bind fun l36 =>
(D.natOf (r35.2.getD 0 (.bool false))).bind fun i37 =>
(D.cut l36 i37 (l36.length)).bind fun l38 =>
 none) else ((D.bin .add (v4.getD 0 (.bool false)) (D.int .i64 1)).bind fun x39 =>
 some (Sum.inl [x39]))) else (some (Sum.inr (0, [])))) [(D.int .i64 1)]).bind fun r40 =>
 some a0)
theorem E95 (lp : Lp) (call : Nat → List D → Option D) (a0 : D) : evF (envOf lp call (inlP lp call)) Tryz.f95 A95 [K2] K2 [a0] = F95 lp call a0 := by kernel_rfl
theorem L95 {lp : Lp} (hlp : LpOk lp) : leafOk 95 (fun call xs => match xs with | [a0] => F95 lp call a0 | _ => none) :=
  leaf1 hlp (by kernel_rfl) (by kernel_rfl) (by kernel_rfl) (fun call a0 => E95 lp call a0)
/- skewback/hull.through -/
def A96 : Ann := (.two .leaf (.two (.reg [] 8) (.cut [(.normal, ⟨[(3, .same (.ptr K1 4099 [])), (6, .same (.ptr K17 4102 [])), (7, .same (.ptr K1 8199 []))], [(4099, .keep K1 3), (4102, .keep K17 6), (8199, .one K1 (.dv K1))], []⟩)] [] [4099, 4102] (.two (.reg [] 8) (.two .leaf (.two (.reg [] 13) .leaf))) (.two (.reg [] 5) .leaf))))
noncomputable def F96 (lp : Lp) (call : Nat → List D → Option D) (a0 : D) (a1 : D) (a2 : D) : Option D :=
(call 103 [a1, a0]).bind fun r1 =>
(call 103 [a2, a0]).bind fun r2 =>
(call 117 [r1, r2]).bind fun r3 =>
((D.get r3 [0]).bind fun x4 =>
(D.get r3 [1]).bind fun x5 =>
(call 152 [x4, x5]).bind fun r6 =>
(D.get r3 [2]).bind fun x7 =>
(call 152 [r6, x7]).bind fun r8 =>
(D.bin .gtr r8 (D.int .i64 1)).bind fun x9 =>
(D.truth x9).bind fun b10 =>
 if b10 then ((D.get r3 [0]).bind fun x11 =>
(D.bin .quo x11 r8).bind fun x12 =>
(D.get r3 [1]).bind fun x13 =>
(D.bin .quo x13 r8).bind fun x14 =>
(D.get r3 [2]).bind fun x15 =>
(D.bin .quo x15 r8).bind fun x16 =>
 some (0, [(D.st [x12, x14, x16])])) else (some (0, [r3]))).bind fun (r17 : Nat × List D) =>
(call 101 [(r17.2.getD 0 (.bool false)), a0]).bind fun r18 =>
 some (D.st [(r17.2.getD 0 (.bool false)), r18])
theorem E96 (lp : Lp) (call : Nat → List D → Option D) (a0 : D) (a1 : D) (a2 : D) : evF (envOf lp call (inlP lp call)) Tryz.f96 A96 [K1, K1, K1] K17 [a0, a1, a2] = F96 lp call a0 a1 a2 := by kernel_rfl
theorem L96 {lp : Lp} (hlp : LpOk lp) : leafOk 96 (fun call xs => match xs with | [a0, a1, a2] => F96 lp call a0 a1 a2 | _ => none) :=
  leaf3 hlp (by kernel_rfl) (by kernel_rfl) (by kernel_rfl) (fun call a0 a1 a2 => E96 lp call a0 a1 a2)
/- skewback/vector.Neg -/
def A97 : Ann := .leaf
noncomputable def F97 (lp : Lp) (call : Nat → List D → Option D) (a0 : D) : Option D :=
(D.get a0 [0]).bind fun x1 =>
(D.un .neg x1).bind fun x2 =>
(D.get a0 [1]).bind fun x3 =>
(D.un .neg x3).bind fun x4 =>
(D.get a0 [2]).bind fun x5 =>
(D.un .neg x5).bind fun x6 =>
 some (D.st [x2, x4, x6])
theorem E97 (lp : Lp) (call : Nat → List D → Option D) (a0 : D) : evF (envOf lp call (inlP lp call)) Tryz.f97 A97 [K1] K1 [a0] = F97 lp call a0 := by kernel_rfl
theorem L97 {lp : Lp} (hlp : LpOk lp) : leafOk 97 (fun call xs => match xs with | [a0] => F97 lp call a0 | _ => none) :=
  leaf1 hlp (by kernel_rfl) (by kernel_rfl) (by kernel_rfl) (fun call a0 => E97 lp call a0)
/- skewback/hull.outside -/
def A98 : Ann := (.two .leaf (.two .leaf (.two (.two .leaf (.two (.loop ⟨[(3, .same (.ptr K17 4099 [])), (5, .dv Ty.bool), (11, .dv (Ty.int .i64))], [(4099, .keep K17 3)], [9, 10]⟩ [(.ret, ⟨[(4, .dv Ty.bool)], [], []⟩), (.exit 0, ⟨[(5, .dv Ty.bool)], [], []⟩)] .leaf) .leaf)) .leaf)))
noncomputable def F98 (lp : Lp) (call : Nat → List D → Option D) (a0 : D) (a1 : D) : Option D :=
(D.asSl a0).bind fun l1 =>
(lp (β := Nat × List D) (fun (v2 : List D) =>
(D.bin .lss (v2.getD 1 (.bool false)) (D.int .i64 (l1.length))).bind fun x3 =>
(D.truth x3).bind fun b4 =>
 if b4 then ((D.asSl a0).bind fun l5 =>
(D.idx (v2.getD 1 (.bool false)) (l5.length)).bind fun i6 =>
(l5[i6]?).bind fun x7 =>
(D.get a1 [0]).bind fun x8 =>
(call 101 [x8, x7]).bind fun r9 =>
(D.get a1 [1]).bind fun x10 =>
(D.bin .gtr r9 x10).bind fun x11 =>
(D.truth x11).bind fun b12 =>
 if b12 then (some (Sum.inr (0, [(D.bool false)]))) else ((D.truth (v2.getD 0 (.bool false))).bind fun b13 =>
(if b13 then ((D.get a1 [1]).bind fun x14 =>
 D.truth (D.bool (D.beq r9 x14))) else (some false)).bind fun b15 =>
(D.bin .add (v2.getD 1 (.bool false)) (D.int .i64 1)).bind fun x16 =>
 some (Sum.inl [(D.bool b15), x16]))) else (some (Sum.inr (1, [(v2.getD 0 (.bool false))])))) [(D.bool true), (D.int .i64 0)]).bind fun r17 =>
 if r17.1 = 0 then (some (r17.2.getD 0 (.bool false))) else ((D.un .not (r17.2.getD 0 (.bool false))).bind fun x18 =>
 some x18)
theorem E98 (lp : Lp) (call : Nat → List D → Option D) (a0 : D) (a1 : D) : evF (envOf lp call (inlP lp call)) Tryz.f98 A98 [K2, K17] Ty.bool [a0, a1] = F98 lp call a0 a1 := by kernel_rfl
theorem L98 {lp : Lp} (hlp : LpOk lp) : leafOk 98 (fun call xs => match xs with | [a0, a1] => F98 lp call a0 a1 | _ => none) :=
  leaf2 hlp (by kernel_rfl) (by kernel_rfl) (by kernel_rfl) (fun call a0 a1 => E98 lp call a0 a1)
/- skewback/hull.planes$1 -/
def A100 : Ann := (.two .leaf (.two (.reg [] 23) .leaf))
noncomputable def F100 (lp : Lp) (call : Nat → List D → Option D) (a0 : D) (a1 : D) : Option D :=
(D.get a0 [0, 0]).bind fun x1 =>
(D.get a1 [0, 0]).bind fun x2 =>
(call 53 [x1, x2]).bind fun r3 =>
(D.get a0 [0, 1]).bind fun x4 =>
(D.get a1 [0, 1]).bind fun x5 =>
(call 53 [x4, x5]).bind fun r6 =>
(D.get a0 [0, 2]).bind fun x7 =>
(D.get a1 [0, 2]).bind fun x8 =>
(call 53 [x7, x8]).bind fun r9 =>
(call 52 [(D.sl [r3, r6, r9])]).bind fun r10 =>
 some r10
theorem E100 (lp : Lp) (call : Nat → List D → Option D) (a0 : D) (a1 : D) : evF (envOf lp call (inlP lp call)) Tryz.f100 A100 [K17, K17] (Ty.int .i64) [a0, a1] = F100 lp call a0 a1 := by kernel_rfl
theorem L100 {lp : Lp} (hlp : LpOk lp) : leafOk 100 (fun call xs => match xs with | [a0, a1] => F100 lp call a0 a1 | _ => none) :=
  leaf2 hlp (by kernel_rfl) (by kernel_rfl) (by kernel_rfl) (fun call a0 a1 => E100 lp call a0 a1)
/- skewback/hull.dot -/
def A101 : Ann := .leaf
noncomputable def F101 (lp : Lp) (call : Nat → List D → Option D) (a0 : D) (a1 : D) : Option D :=
(D.get a0 [0]).bind fun x1 =>
(D.get a1 [0]).bind fun x2 =>
(D.bin .mul x1 x2).bind fun x3 =>
(D.get a0 [1]).bind fun x4 =>
(D.get a1 [1]).bind fun x5 =>
(D.bin .mul x4 x5).bind fun x6 =>
(D.bin .add x3 x6).bind fun x7 =>
(D.get a0 [2]).bind fun x8 =>
(D.get a1 [2]).bind fun x9 =>
(D.bin .mul x8 x9).bind fun x10 =>
(D.bin .add x7 x10).bind fun x11 =>
 some x11
theorem E101 (lp : Lp) (call : Nat → List D → Option D) (a0 : D) (a1 : D) : evF (envOf lp call (inlP lp call)) Tryz.f101 A101 [K1, K1] (Ty.int .i64) [a0, a1] = F101 lp call a0 a1 := by kernel_rfl
theorem L101 {lp : Lp} (hlp : LpOk lp) : leafOk 101 (fun call xs => match xs with | [a0, a1] => F101 lp call a0 a1 | _ => none) :=
  leaf2 hlp (by kernel_rfl) (by kernel_rfl) (by kernel_rfl) (fun call a0 a1 => E101 lp call a0 a1)
/- skewback/vector.Sub -/
def A103 : Ann := (.two .leaf (.two (.reg [] 4) .leaf))
noncomputable def F103 (lp : Lp) (call : Nat → List D → Option D) (a0 : D) (a1 : D) : Option D :=
(call 97 [a1]).bind fun r1 =>
(call 154 [a0, r1]).bind fun r2 =>
 some r2
theorem E103 (lp : Lp) (call : Nat → List D → Option D) (a0 : D) (a1 : D) : evF (envOf lp call (inlP lp call)) Tryz.f103 A103 [K1, K1] K1 [a0, a1] = F103 lp call a0 a1 := by kernel_rfl
theorem L103 {lp : Lp} (hlp : LpOk lp) : leafOk 103 (fun call xs => match xs with | [a0, a1] => F103 lp call a0 a1 | _ => none) :=
  leaf2 hlp (by kernel_rfl) (by kernel_rfl) (by kernel_rfl) (fun call a0 a1 => E103 lp call a0 a1)
end Go.Proofs.YtjjjkojfijpeeaaGreat.Sy
end
