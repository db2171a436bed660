/- Part 7 of the proof of this: HullFacetsMatchSpec answers true at every input, and the input reads afterwards as it read before (HullFacetsMatchSpecSaid). No condition. -/
import Derived.Test.YtjjjkojfijpeeaaGreatFacets06
set_option linter.unusedVariables false
set_option linter.unusedSimpArgs false
set_option linter.unnecessarySimpa false
section
/- The program's functions as plain text, checked by the kernel: part Ca. -/
set_option maxRecDepth 20000
set_option maxHeartbeats 0
set_option linter.unusedVariables false
namespace Go.Proofs.YtjjjkojfijpeeaaGreat.Sy
open Go Go.Proofs
/- skewback/skewbacklaw12.HullFacetsMatchSpec -/
def A4 : Ann := (.two .leaf (.two .leaf (.two .leaf (.two (.reg [] 15) .leaf))))
noncomputable def F4 (lp : Lp) (call : Nat → List D → Option D) (a0 : D) : Option D :=
(call 16 [a0]).bind fun r1 =>
(D.un .not r1).bind fun x2 =>
(D.truth x2).bind fun b3 =>
 if b3 then ((call 10 []).bind fun r4 =>
 some r4) else ((call 10 []).bind fun r5 =>
(D.truth r5).bind fun b6 =>
(if b6 then ((call 18 [a0]).bind fun r7 =>
(call 19 [a0]).bind fun r8 =>
(call 17 [r7, r8]).bind fun r9 =>
 D.truth r9) else (some false)).bind fun b10 =>
(D.truth (D.bool b10)).bind fun b11 =>
(if b11 then ((call 21 [a0]).bind fun r12 =>
(call 22 [a0]).bind fun r13 =>
(call 20 [r12, r13]).bind fun r14 =>
 D.truth r14) else (some false)).bind fun b15 =>
 some (D.bool b15))
theorem E4 (lp : Lp) (call : Nat → List D → Option D) (a0 : D) : evF (envOf lp call (inlP lp call)) Tryz.f4 A4 [K3] Ty.bool [a0] = F4 lp call a0 := by kernel_rfl
theorem L4 {lp : Lp} (hlp : LpOk lp) : leafOk 4 (fun call xs => match xs with | [a0] => F4 lp call a0 | _ => none) :=
  leaf1 hlp (by kernel_rfl) (by kernel_rfl) (by kernel_rfl) (fun call a0 => E4 lp call a0)
/- skewback/skewbacklaw12.sanity -/
def A10 : Ann := (.two .leaf (.two .leaf (.two .leaf (.two .leaf (.two .leaf (.two .leaf (.two .leaf (.two (.reg [] 25) (.two .leaf (.two .leaf (.two .leaf (.two .leaf (.two (.reg [] 25) .leaf)))))))))))))
noncomputable def F10 (lp : Lp) (call : Nat → List D → Option D)  : Option D :=
(call 11 [(D.sl [(D.st [(D.int .i64 1), (D.int .i64 1), (D.int .i64 1)]), (D.st [(D.int .i64 6), (D.int .i64 0), (D.int .i64 0)]), (D.st [(D.int .i64 0), (D.int .i64 6), (D.int .i64 0)]), (D.st [(D.int .i64 0), (D.int .i64 0), (D.int .i64 3)]), (D.st [(D.int .i64 0), (D.int .i64 0), (D.int .i64 6)]), (D.st [(D.int .i64 0), (D.int .i64 0), (D.int .i64 0)])])]).bind fun r1 =>
(D.tupAt r1 0).bind fun x2 =>
(D.tupAt r1 1).bind fun x3 =>
(call 11 [(D.sl [(D.st [(D.int .i64 0), (D.int .i64 0), (D.int .i64 0)]), (D.st [(D.int .i64 1), (D.int .i64 0), (D.int .i64 0)]), (D.st [(D.int .i64 0), (D.int .i64 1), (D.int .i64 0)]), (D.st [(D.int .i64 5), (D.int .i64 7), (D.int .i64 0)])])]).bind fun r4 =>
(D.tupAt r4 0).bind fun x5 =>
(D.tupAt r4 1).bind fun x6 =>
(D.truth (D.bool (!(D.beq x3 (D.int .i64 0))))).bind fun b7 =>
(if b7 then (some true) else (D.truth (D.bool (!(D.beq x6 (D.int .i64 120)))))).bind fun b8 =>
(D.truth (D.bool b8)).bind fun b9 =>
(if b9 then (some true) else ((D.get x2 [0]).bind fun x10 =>
(call 13 [x10, (D.sl [(D.st [(D.int .i64 0), (D.int .i64 0), (D.int .i64 0)]), (D.st [(D.int .i64 0), (D.int .i64 0), (D.int .i64 6)]), (D.st [(D.int .i64 0), (D.int .i64 6), (D.int .i64 0)]), (D.st [(D.int .i64 6), (D.int .i64 0), (D.int .i64 0)])])]).bind fun r11 =>
(D.un .not r11).bind fun x12 =>
 D.truth x12)).bind fun b13 =>
(D.truth (D.bool b13)).bind fun b14 =>
(if b14 then (some true) else ((call 14 [x2]).bind fun r15 =>
 D.truth (D.bool (!(D.beq r15 (D.int .i64 0)))))).bind fun b16 =>
(D.truth (D.bool b16)).bind fun b17 =>
 if b17 then (some (D.bool false)) else ((call 18 [x2]).bind fun r18 =>
(call 17 [r18, (D.sl [(D.st [(D.st [(D.int .i64 (-1)), (D.int .i64 0), (D.int .i64 0)]), (D.int .i64 0), (D.sl [(D.int .i64 0), (D.int .i64 1), (D.int .i64 2)])]), (D.st [(D.st [(D.int .i64 0), (D.int .i64 (-1)), (D.int .i64 0)]), (D.int .i64 0), (D.sl [(D.int .i64 0), (D.int .i64 3), (D.int .i64 1)])]), (D.st [(D.st [(D.int .i64 0), (D.int .i64 0), (D.int .i64 (-1))]), (D.int .i64 0), (D.sl [(D.int .i64 0), (D.int .i64 2), (D.int .i64 3)])]), (D.st [(D.st [(D.int .i64 1), (D.int .i64 1), (D.int .i64 1)]), (D.int .i64 6), (D.sl [(D.int .i64 1), (D.int .i64 3), (D.int .i64 2)])])])]).bind fun r19 =>
(D.truth r19).bind fun b20 =>
(if b20 then ((call 21 [x2]).bind fun r21 =>
(call 20 [r21, (D.sl [(D.st [(D.int .i64 0), (D.int .i64 1)]), (D.st [(D.int .i64 0), (D.int .i64 2)]), (D.st [(D.int .i64 0), (D.int .i64 3)]), (D.st [(D.int .i64 1), (D.int .i64 2)]), (D.st [(D.int .i64 1), (D.int .i64 3)]), (D.st [(D.int .i64 2), (D.int .i64 3)])])]).bind fun r22 =>
 D.truth r22) else (some false)).bind fun b23 =>
(call 31 [(D.st [(D.int .i64 1), (D.int .i64 1), (D.int .i64 1)])]).bind fun r24 =>
(call 30 [x2, r24]).bind fun r25 =>
(D.truth (D.bool (D.beq r25 (D.int .i64 1)))).bind fun b26 =>
(if b26 then ((call 31 [(D.st [(D.int .i64 2), (D.int .i64 2), (D.int .i64 2)])]).bind fun r27 =>
(call 30 [x2, r27]).bind fun r28 =>
 D.truth (D.bool (D.beq r28 (D.int .i64 0)))) else (some false)).bind fun b29 =>
(D.truth (D.bool b29)).bind fun b30 =>
(if b30 then ((call 31 [(D.st [(D.int .i64 3), (D.int .i64 3), (D.int .i64 3)])]).bind fun r31 =>
(call 30 [x2, r31]).bind fun r32 =>
 D.truth (D.bool (D.beq r32 (D.int .i64 (-1))))) else (some false)).bind fun b33 =>
(D.truth (D.bool b33)).bind fun b34 =>
(if b34 then ((call 43 [x2, (D.st [(D.int .i64 0), (D.int .i64 1), (D.int .i64 0)])]).bind fun r35 =>
 D.truth (D.bool (D.beq r35 (D.int .i64 2)))) else (some false)).bind fun b36 =>
(call 42 [(D.int .i64 3), (D.int .i64 2)]).bind fun r37 =>
(call 42 [(D.int .i64 1296), (D.int .i64 5)]).bind fun r38 =>
(call 42 [(D.int .i64 (-324)), (D.int .i64 5)]).bind fun r39 =>
(D.truth (D.bool b23)).bind fun b40 =>
(if b40 then (D.truth (D.bool b36)) else (some false)).bind fun b41 =>
(D.truth (D.bool b41)).bind fun b42 =>
(if b42 then ((call 23 [x2]).bind fun r43 =>
(call 34 [(D.int .i64 216)]).bind fun r44 =>
 D.truth (D.bool (D.beq r43 r44))) else (some false)).bind fun b45 =>
(D.truth (D.bool b45)).bind fun b46 =>
(if b46 then ((call 25 [x2]).bind fun r47 =>
 D.truth (D.bool (D.beq r47 (D.st [r37, r37, r37])))) else (some false)).bind fun b48 =>
(D.truth (D.bool b48)).bind fun b49 =>
(if b49 then ((call 28 [x2]).bind fun r50 =>
(call 27 [r50, (D.st [(D.int .i64 3), (D.int .i64 3), (D.sl [r38, r39, r39, r39, r38, r39, r39, r39, r38])])]).bind fun r51 =>
 D.truth r51) else (some false)).bind fun b52 =>
 some (D.bool b52))
theorem E10 (lp : Lp) (call : Nat → List D → Option D)  : evF (envOf lp call (inlP lp call)) Tryz.f10 A10 [] Ty.bool [] = F10 lp call  := by kernel_rfl
theorem L10 {lp : Lp} (hlp : LpOk lp) : leafOk 10 (fun call xs => match xs with | [] => F10 lp call  | _ => none) :=
  leaf0 hlp (by kernel_rfl) (by kernel_rfl) (by kernel_rfl) (fun call  => E10 lp call )
/- skewback/hull.Hull -/
def A11 : Ann := (.two .leaf (.two .leaf (.two (.two .leaf (.two (.loop ⟨[(2, .same (.ptr K3 4098 [])), (24, .dv (Ty.int .i64))], [(4098, .one K3 (.st [K2] [.ow K1]))], [0, 22, 23]⟩ [(.ret, ⟨[(2, .same (.ptr K3 4098 [])), (3, .dv (Ty.int .i64))], [(4098, .one K3 (.st [K2] [.ow K1]))], []⟩), (.exit 0, ⟨[(2, .same (.ptr K3 4098 []))], [(4098, .one K3 (.st [K2] [.ow K1]))], [0]⟩)] (.two .leaf (.two .leaf (.two (.two (.two .leaf (.two .leaf (.two (.loop ⟨[(2, .same (.ptr K3 4098 [])), (29, .dv (Ty.int .i64))], [(4098, .one K3 (.st [K2] [.ow K1]))], [0, 22, 23, 24, 28]⟩ [(.ret, ⟨[(2, .same (.ptr K3 4098 [])), (3, .dv (Ty.int .i64))], [(4098, .one K3 (.st [K2] [.ow K1]))], []⟩), (.exit 2, ⟨[(2, .same (.ptr K3 4098 []))], [(4098, .one K3 (.st [K2] [.ow K1]))], [0, 22, 23, 24]⟩)] .leaf) .leaf))) .leaf) .leaf)))) .leaf)) (.two .leaf (.two .leaf (.two .leaf (.two .leaf (.two .leaf (.two (.two .leaf (.two (.loop ⟨[(2, .same (.ptr K3 4098 [])), (10, .same (.mem Ty.bool 36919)), (58, .dv (Ty.int .i64))], [(4098, .one K3 (.st [K2] [.ow K1])), (36919, .many Ty.bool)], [8, 56, 57]⟩ [(.exit 4, ⟨[(2, .same (.ptr K3 4098 [])), (10, .same (.mem Ty.bool 36919))], [(4098, .one K3 (.st [K2] [.ow K1])), (36919, .many Ty.bool)], [8]⟩)] (.two .leaf (.two .leaf (.two (.two (.two .leaf (.two .leaf (.two (.loop ⟨[(2, .same (.ptr K3 4098 [])), (10, .same (.mem Ty.bool 36919)), (66, .dv (Ty.int .i64))], [(4098, .one K3 (.st [K2] [.ow K1])), (36919, .many Ty.bool)], [8, 56, 57, 58, 64, 65]⟩ [(.exit 6, ⟨[(2, .same (.ptr K3 4098 [])), (10, .same (.mem Ty.bool 36919))], [(4098, .one K3 (.st [K2] [.ow K1])), (36919, .many Ty.bool)], [8, 56, 57, 58]⟩)] .leaf) .leaf))) .leaf) .leaf)))) .leaf)) (.two .leaf (.two (.two .leaf (.two (.loop ⟨[(2, .same (.ptr K3 4098 [])), (10, .same (.mem Ty.bool 36919)), (15, .same (.ptr K3 49167 [])), (77, .dv (Ty.int .i64))], [(4098, .one K3 (.st [K2] [.ow K1])), (36919, .many Ty.bool), (49167, .one K3 (.st [K2] [.ow K1]))], [75, 76]⟩ [(.exit 8, ⟨[(2, .same (.ptr K3 4098 [])), (15, .same (.ptr K3 49167 []))], [(4098, .one K3 (.st [K2] [.ow K1])), (49167, .one K3 (.st [K2] [.ow K1]))], []⟩)] (.two .leaf (.two .leaf (.cut [(.normal, ⟨[(2, .same (.ptr K3 4098 [])), (10, .same (.mem Ty.bool 36919)), (15, .same (.ptr K3 49167 []))], [(4098, .one K3 (.st [K2] [.ow K1])), (36919, .many Ty.bool), (49167, .one K3 (.st [K2] [.ow K1]))], [75, 76, 77]⟩)] [75, 76, 77] [] .leaf .leaf)))) .leaf)) .leaf)))))))))))
noncomputable def F11 (lp : Lp) (call : Nat → List D → Option D) (a0 : D) : Option D :=
(D.asSl a0).bind fun l1 =>
(D.bin .gtr (D.int .i64 (l1.length)) (D.int .i64 64)).bind fun x2 =>
(D.truth x2).bind fun b3 =>
 if b3 then (some (D.tup [(D.st [(D.sl [])]), (D.int .i64 2)])) else ((D.asSl a0).bind fun l4 =>
(lp (β := Nat × List D) (fun (v5 : List D) =>
(D.bin .lss (v5.getD 0 (.bool false)) (D.int .i64 (l4.length))).bind fun x6 =>
(D.truth x6).bind fun b7 =>
 if b7 then ((D.asSl a0).bind fun l8 =>
(D.idx (v5.getD 0 (.bool false)) (l8.length)).bind fun i9 =>
(l8[i9]?).bind fun x10 =>
(lp (β := Nat × List D) (fun (v11 : List D) =>
(D.bin .lss (v11.getD 0 (.bool false)) (D.int .i64 3)).bind fun x12 =>
(D.truth x12).bind fun b13 =>
 if b13 then ((D.idx (v11.getD 0 (.bool false)) 3).bind fun i14 =>
(D.fld x10 i14).bind fun x15 =>
(D.bin .gtr x15 (D.int .i64 262144)).bind fun x16 =>
(D.truth x16).bind fun b17 =>
(if b17 then (some true) else ((D.bin .lss x15 (D.int .i64 (-262144))).bind fun x18 =>
 D.truth x18)).bind fun b19 =>
(D.truth (D.bool b19)).bind fun b20 =>
 if b20 then (some (Sum.inr (0, [(D.int .i64 1), (D.sl [])]))) else ((D.bin .add (v11.getD 0 (.bool false)) (D.int .i64 1)).bind fun x21 =>
 some (Sum.inl [x21, (D.sl ((v11.getD 1 (.bool false)).els))]))) else (some (Sum.inr (1, [(D.sl ((v11.getD 1 (.bool false)).els))])))) [(D.int .i64 0), (D.sl ((v5.getD 1 (.bool false)).els))]).bind fun r22 =>
 if r22.1 = 0 then (some (Sum.inr (0, [(r22.2.getD 0 (.bool false)), (D.sl ((r22.2.getD 1 (.bool false)).els))]))) else ((D.bin .add (v5.getD 0 (.bool false)) (D.int .i64 1)).bind fun x23 =>
 some (Sum.inl [x23, (D.sl ((r22.2.getD 0 (.bool false)).els))]))) else (some (Sum.inr (1, [(D.sl ((v5.getD 1 (.bool false)).els))])))) [(D.int .i64 0), (D.sl [])]).bind fun r24 =>
 if r24.1 = 0 then (some (D.tup [(D.st [(D.sl ((r24.2.getD 1 (.bool false)).els))]), (r24.2.getD 0 (.bool false))])) else ((call 44 [a0]).bind fun r25 =>
(call 45 [r25]).bind fun r26 =>
(D.asSl r26).bind fun l27 =>
(D.bin .lss (D.int .i64 (l27.length)) (D.int .i64 4)).bind fun x28 =>
(D.truth x28).bind fun b29 =>
 if b29 then (some (D.tup [(D.st [(D.sl [])]), (D.int .i64 120)])) else ((D.asSl r26).bind fun l30 =>
(D.bin .gtr (D.int .i64 (l30.length)) (D.int .i64 64)).bind fun x31 =>
(D.truth x31).bind fun b32 =>
 if b32 then (some (D.tup [(D.st [(D.sl [])]), (D.int .i64 2)])) else ((D.asSl r25).bind fun l33 =>
(D.natOf (D.int .i64 (l33.length))).bind fun i34 =>
 if i34 ≤ 1073741824 then ((D.asSl r26).bind fun l35 =>
(lp (β := Nat × List D) (fun (v36 : List D) =>
(D.bin .lss (v36.getD 0 (.bool false)) (D.int .i64 (l35.length))).bind fun x37 =>
(D.truth x37).bind fun b38 =>
 if b38 then ((D.asSl r26).bind fun l39 =>
(D.idx (v36.getD 0 (.bool false)) (l39.length)).bind fun i40 =>
(l39[i40]?).bind fun x41 =>
(call 46 [r25, x41]).bind fun r42 =>
(D.asSl r42).bind fun l43 =>
(lp (β := Nat × List D) (fun (v44 : List D) =>
(D.bin .lss (v44.getD 0 (.bool false)) (D.int .i64 (l43.length))).bind fun x45 =>
(D.truth x45).bind fun b46 =>
 if b46 then ((D.asSl r42).bind fun l47 =>
(D.idx (v44.getD 0 (.bool false)) (l47.length)).bind fun i48 =>
(l47[i48]?).bind fun x49 =>
(D.idx x49 (List.length ((v44.getD 2 (.bool false)).els))).bind fun i50 =>
(((v44.getD 2 (.bool false)).els)[i50]?).bind fun x51 =>
(D.bin .add (v44.getD 0 (.bool false)) (D.int .i64 1)).bind fun x52 =>
 some (Sum.inl [x52, (D.sl ((v44.getD 1 (.bool false)).els)), (D.sl (List.set ((v44.getD 2 (.bool false)).els) i50 (D.bool true)))])) else (some (Sum.inr (0, [(D.sl ((v44.getD 1 (.bool false)).els)), (D.sl ((v44.getD 2 (.bool false)).els))])))) [(D.int .i64 0), (D.sl ((v36.getD 1 (.bool false)).els)), (D.sl ((v36.getD 2 (.bool false)).els))]).bind fun r53 =>
(D.bin .add (v36.getD 0 (.bool false)) (D.int .i64 1)).bind fun x54 =>
 some (Sum.inl [x54, (D.sl ((r53.2.getD 0 (.bool false)).els)), (D.sl ((r53.2.getD 1 (.bool false)).els))])) else (some (Sum.inr (0, [(D.sl ((v36.getD 1 (.bool false)).els)), (D.sl ((v36.getD 2 (.bool false)).els))])))) [(D.int .i64 0), (D.sl ((r24.2.getD 0 (.bool false)).els)), (D.sl (List.replicate i34 (D.bool false)))]).bind fun r55 =>
(D.asSl r25).bind fun l56 =>
(lp (β := Nat × List D) (fun (v57 : List D) =>
(D.bin .lss (v57.getD 0 (.bool false)) (D.int .i64 (l56.length))).bind fun x58 =>
(D.truth x58).bind fun b59 =>
 if b59 then (((D.asSl r25).bind fun l60 =>
(D.idx (v57.getD 0 (.bool false)) (l60.length)).bind fun i61 =>
(l60[i61]?).bind fun x62 =>
(D.idx (v57.getD 0 (.bool false)) (List.length ((v57.getD 2 (.bool false)).els))).bind fun i63 =>
(((v57.getD 2 (.bool false)).els)[i63]?).bind fun x64 =>
(D.truth x64).bind fun b65 =>
 if b65 then (if List.length ((v57.getD 3 (.bool false)).els) + List.length [x62] ≤ 1073741824 then (some (0, [(D.sl ((v57.getD 1 (.bool false)).els)), (D.sl ((v57.getD 2 (.bool false)).els)), (D.sl (((v57.getD 3 (.bool false)).els) ++ [x62]))])) else none) else (some (0, [(D.sl ((v57.getD 1 (.bool false)).els)), (D.sl ((v57.getD 2 (.bool false)).els)), (D.sl ((v57.getD 3 (.bool false)).els))]))).bind fun (r66 : Nat × List D) =>
(D.bin .add (v57.getD 0 (.bool false)) (D.int .i64 1)).bind fun x67 =>
 some (Sum.inl [x67, (D.sl ((r66.2.getD 0 (.bool false)).els)), (D.sl ((r66.2.getD 1 (.bool false)).els)), (D.sl ((r66.2.getD 2 (.bool false)).els))])) else (some (Sum.inr (0, [(D.sl ((v57.getD 1 (.bool false)).els)), (D.sl ((v57.getD 3 (.bool false)).els))])))) [(D.int .i64 0), (D.sl ((r55.2.getD 0 (.bool false)).els)), (D.sl ((r55.2.getD 1 (.bool false)).els)), (D.sl [])]).bind fun r68 =>
 some (D.tup [(D.st [(D.sl ((r68.2.getD 1 (.bool false)).els))]), (D.int .i64 0)])) else none))))
theorem E11 (lp : Lp) (call : Nat → List D → Option D) (a0 : D) : evF (envOf lp call (inlP lp call)) Tryz.f11 A11 [K2] K29 [a0] = F11 lp call a0 := by kernel_rfl
theorem L11 {lp : Lp} (hlp : LpOk lp) : leafOk 11 (fun call xs => match xs with | [a0] => F11 lp call a0 | _ => none) :=
  leaf1 hlp (by kernel_rfl) (by kernel_rfl) (by kernel_rfl) (fun call a0 => E11 lp call a0)
/- skewback/skewbackref12.Hull -/
def A12 : Ann := (.two .leaf (.two .leaf (.two (.two .leaf (.two (.loop ⟨[(2, .same (.ptr K4 4098 [])), (3, .dv (Ty.int .i64))], [(4098, .one K4 (.st [K3, (Ty.int .i64)] [.st [K2] [.ow K1], .dv (Ty.int .i64)]))], [0]⟩ [(.ret, ⟨[(2, .same (.ptr K4 4098 []))], [(4098, .one K4 (.st [K3, (Ty.int .i64)] [.st [K2] [.ow K1], .dv (Ty.int .i64)]))], []⟩), (.exit 0, ⟨[(2, .same (.ptr K4 4098 []))], [(4098, .one K4 (.st [K3, (Ty.int .i64)] [.st [K2] [.ow K1], .dv (Ty.int .i64)]))], [0]⟩)] (.two .leaf (.two (.two (.two .leaf (.two (.loop ⟨[(2, .same (.ptr K4 4098 [])), (4, .dv (Ty.int .i64))], [(4098, .one K4 (.st [K3, (Ty.int .i64)] [.st [K2] [.ow K1], .dv (Ty.int .i64)]))], [0, 3]⟩ [(.ret, ⟨[(2, .same (.ptr K4 4098 []))], [(4098, .one K4 (.st [K3, (Ty.int .i64)] [.st [K2] [.ow K1], .dv (Ty.int .i64)]))], []⟩), (.exit 2, ⟨[(2, .same (.ptr K4 4098 []))], [(4098, .one K4 (.st [K3, (Ty.int .i64)] [.st [K2] [.ow K1], .dv (Ty.int .i64)]))], [0, 3]⟩)] .leaf) .leaf)) .leaf) .leaf))) .leaf)) (.two .leaf (.two .leaf (.two .leaf (.two .leaf (.two .leaf (.two (.two .leaf (.two (.loop ⟨[(2, .same (.ptr K4 4098 [])), (7, .same (.ptr K4 36871 [])), (8, .dv (Ty.int .i64))], [(4098, .one K4 (.st [K3, (Ty.int .i64)] [.st [K2] [.ow K1], .dv (Ty.int .i64)])), (36871, .one K4 (.st [K3, (Ty.int .i64)] [.st [K2] [.ow K1], .dv (Ty.int .i64)]))], [5, 6]⟩ [(.exit 4, ⟨[(2, .same (.ptr K4 4098 [])), (7, .same (.ptr K4 36871 []))], [(4098, .one K4 (.st [K3, (Ty.int .i64)] [.st [K2] [.ow K1], .dv (Ty.int .i64)])), (36871, .one K4 (.st [K3, (Ty.int .i64)] [.st [K2] [.ow K1], .dv (Ty.int .i64)]))], []⟩)] (.two .leaf (.cut [(.normal, ⟨[(2, .same (.ptr K4 4098 [])), (7, .same (.ptr K4 36871 []))], [(4098, .one K4 (.st [K3, (Ty.int .i64)] [.st [K2] [.ow K1], .dv (Ty.int .i64)])), (36871, .one K4 (.st [K3, (Ty.int .i64)] [.st [K2] [.ow K1], .dv (Ty.int .i64)]))], [5, 6, 8]⟩)] [5, 6, 8] [] (.two (.two .leaf (.two (.two .leaf (.two (.loop ⟨[(2, .same (.ptr K4 4098 [])), (7, .same (.ptr K4 36871 [])), (9, .dv Ty.bool), (10, .dv (Ty.int .i64))], [(4098, .one K4 (.st [K3, (Ty.int .i64)] [.st [K2] [.ow K1], .dv (Ty.int .i64)])), (36871, .one K4 (.st [K3, (Ty.int .i64)] [.st [K2] [.ow K1], .dv (Ty.int .i64)]))], [5, 6, 8]⟩ [(.exit 6, ⟨[(2, .same (.ptr K4 4098 [])), (7, .same (.ptr K4 36871 [])), (9, .dv Ty.bool)], [(4098, .one K4 (.st [K3, (Ty.int .i64)] [.st [K2] [.ow K1], .dv (Ty.int .i64)])), (36871, .one K4 (.st [K3, (Ty.int .i64)] [.st [K2] [.ow K1], .dv (Ty.int .i64)]))], [5, 6, 8]⟩)] (.two .leaf (.two (.two (.two .leaf (.two (.loop ⟨[(2, .same (.ptr K4 4098 [])), (7, .same (.ptr K4 36871 [])), (9, .dv Ty.bool), (11, .dv (Ty.int .i64))], [(4098, .one K4 (.st [K3, (Ty.int .i64)] [.st [K2] [.ow K1], .dv (Ty.int .i64)])), (36871, .one K4 (.st [K3, (Ty.int .i64)] [.st [K2] [.ow K1], .dv (Ty.int .i64)]))], [5, 6, 8, 10]⟩ [(.exit 8, ⟨[(2, .same (.ptr K4 4098 [])), (7, .same (.ptr K4 36871 [])), (9, .dv Ty.bool)], [(4098, .one K4 (.st [K3, (Ty.int .i64)] [.st [K2] [.ow K1], .dv (Ty.int .i64)])), (36871, .one K4 (.st [K3, (Ty.int .i64)] [.st [K2] [.ow K1], .dv (Ty.int .i64)]))], [5, 6, 8, 10]⟩)] .leaf) .leaf)) .leaf) .leaf))) .leaf)) (.two .leaf (.two (.reg [] 8) .leaf)))) .leaf) .leaf))) .leaf)) .leaf)))))))))
noncomputable def F12 (lp : Lp) (call : Nat → List D → Option D) (a0 : D) : Option D :=
(D.asSl a0).bind fun l1 =>
(D.bin .gtr (D.int .i64 (l1.length)) (D.int .i64 64)).bind fun x2 =>
(D.truth x2).bind fun b3 =>
 if b3 then (some (D.st [(D.st [(D.sl [])]), (D.int .i64 2)])) else ((lp (β := Nat × List D) (fun (v4 : List D) =>
(D.asSl a0).bind fun l5 =>
(D.bin .lss (v4.getD 0 (.bool false)) (D.int .i64 (l5.length))).bind fun x6 =>
(D.truth x6).bind fun b7 =>
 if b7 then ((lp (β := Nat × List D) (fun (v8 : List D) =>
(D.bin .lss (v8.getD 0 (.bool false)) (D.int .i64 3)).bind fun x9 =>
(D.truth x9).bind fun b10 =>
 if b10 then ((D.asSl a0).bind fun l11 =>
(D.idx (v4.getD 0 (.bool false)) (l11.length)).bind fun i12 =>
(l11[i12]?).bind fun x13 =>
(D.idx (v8.getD 0 (.bool false)) 3).bind fun i14 =>
(D.fld x13 i14).bind fun x15 =>
(D.bin .gtr x15 (D.int .i64 262144)).bind fun x16 =>
(D.truth x16).bind fun b17 =>
(if b17 then (some true) else ((D.asSl a0).bind fun l18 =>
(D.idx (v4.getD 0 (.bool false)) (l18.length)).bind fun i19 =>
(l18[i19]?).bind fun x20 =>
(D.idx (v8.getD 0 (.bool false)) 3).bind fun i21 =>
(D.fld x20 i21).bind fun x22 =>
(D.bin .lss x22 (D.int .i64 (-262144))).bind fun x23 =>
 D.truth x23)).bind fun b24 =>
(D.truth (D.bool b24)).bind fun b25 =>
 if b25 then (some (Sum.inr (0, [(D.sl []), (D.int .i64 1)]))) else ((D.bin .add (v8.getD 0 (.bool false)) (D.int .i64 1)).bind fun x26 =>
 some (Sum.inl [x26, (D.sl ((v8.getD 1 (.bool false)).els)), (v8.getD 2 (.bool false))]))) else (some (Sum.inr (1, [(D.sl ((v8.getD 1 (.bool false)).els)), (v8.getD 2 (.bool false))])))) [(D.int .i64 0), (D.sl ((v4.getD 1 (.bool false)).els)), (v4.getD 2 (.bool false))]).bind fun r27 =>
 if r27.1 = 0 then (some (Sum.inr (0, [(D.sl ((r27.2.getD 0 (.bool false)).els)), (r27.2.getD 1 (.bool false))]))) else ((D.bin .add (v4.getD 0 (.bool false)) (D.int .i64 1)).bind fun x28 =>
 some (Sum.inl [x28, (D.sl ((r27.2.getD 0 (.bool false)).els)), (r27.2.getD 1 (.bool false))]))) else (some (Sum.inr (1, [(D.sl ((v4.getD 1 (.bool false)).els)), (v4.getD 2 (.bool false))])))) [(D.int .i64 0), (D.sl []), (D.int .i64 0)]).bind fun r29 =>
 if r29.1 = 0 then (some (D.st [(D.st [(D.sl ((r29.2.getD 0 (.bool false)).els))]), (r29.2.getD 1 (.bool false))])) else ((call 47 [a0]).bind fun r30 =>
(call 48 [r30]).bind fun r31 =>
(D.asSl r31).bind fun l32 =>
(D.truth (D.bool (D.beq (D.int .i64 (l32.length)) (D.int .i64 0)))).bind fun b33 =>
 if b33 then (some (D.st [(D.st [(D.sl [])]), (D.int .i64 120)])) else ((D.asSl r31).bind fun l34 =>
(D.bin .gtr (D.int .i64 (l34.length)) (D.int .i64 64)).bind fun x35 =>
(D.truth x35).bind fun b36 =>
 if b36 then (some (D.st [(D.st [(D.sl [])]), (D.int .i64 2)])) else ((lp (β := Nat × List D) (fun (v37 : List D) =>
(D.asSl r30).bind fun l38 =>
(D.bin .lss (v37.getD 0 (.bool false)) (D.int .i64 (l38.length))).bind fun x39 =>
(D.truth x39).bind fun b40 =>
 if b40 then (((lp (β := Nat × List D) (fun (v41 : List D) =>
(D.asSl r31).bind fun l42 =>
(D.bin .lss (v41.getD 1 (.bool false)) (D.int .i64 (l42.length))).bind fun x43 =>
(D.truth x43).bind fun b44 =>
 if b44 then ((lp (β := Nat × List D) (fun (v45 : List D) =>
(D.asSl r31).bind fun l46 =>
(D.idx (v41.getD 1 (.bool false)) (l46.length)).bind fun i47 =>
(l46[i47]?).bind fun x48 =>
(D.fld x48 2).bind fun x49 =>
(D.asSl x49).bind fun l50 =>
(D.bin .lss (v45.getD 1 (.bool false)) (D.int .i64 (l50.length))).bind fun x51 =>
(D.truth x51).bind fun b52 =>
 if b52 then ((D.truth (v45.getD 0 (.bool false))).bind fun b53 =>
(if b53 then (some true) else ((D.asSl r31).bind fun l54 =>
(D.idx (v41.getD 1 (.bool false)) (l54.length)).bind fun i55 =>
(l54[i55]?).bind fun x56 =>
(D.fld x56 2).bind fun x57 =>
(D.asSl x57).bind fun l58 =>
(D.idx (v45.getD 1 (.bool false)) (l58.length)).bind fun i59 =>
(l58[i59]?).bind fun x60 =>
 D.truth (D.bool (D.beq x60 (v37.getD 0 (.bool false)))))).bind fun b61 =>
(D.bin .add (v45.getD 1 (.bool false)) (D.int .i64 1)).bind fun x62 =>
 some (Sum.inl [(D.bool b61), x62, (D.sl ((v45.getD 2 (.bool false)).els)), (v45.getD 3 (.bool false)), (D.sl ((v45.getD 4 (.bool false)).els)), (v45.getD 5 (.bool false))])) else (some (Sum.inr (0, [(v45.getD 0 (.bool false)), (D.sl ((v45.getD 2 (.bool false)).els)), (v45.getD 3 (.bool false)), (D.sl ((v45.getD 4 (.bool false)).els)), (v45.getD 5 (.bool false))])))) [(v41.getD 0 (.bool false)), (D.int .i64 0), (D.sl ((v41.getD 2 (.bool false)).els)), (v41.getD 3 (.bool false)), (D.sl ((v41.getD 4 (.bool false)).els)), (v41.getD 5 (.bool false))]).bind fun r63 =>
(D.bin .add (v41.getD 1 (.bool false)) (D.int .i64 1)).bind fun x64 =>
 some (Sum.inl [(r63.2.getD 0 (.bool false)), x64, (D.sl ((r63.2.getD 1 (.bool false)).els)), (r63.2.getD 2 (.bool false)), (D.sl ((r63.2.getD 3 (.bool false)).els)), (r63.2.getD 4 (.bool false))])) else (some (Sum.inr (0, [(v41.getD 0 (.bool false)), (D.sl ((v41.getD 2 (.bool false)).els)), (v41.getD 3 (.bool false)), (D.sl ((v41.getD 4 (.bool false)).els)), (v41.getD 5 (.bool false))])))) [(D.bool false), (D.int .i64 0), (D.sl ((v37.getD 1 (.bool false)).els)), (v37.getD 2 (.bool false)), (D.sl ((v37.getD 3 (.bool false)).els)), (v37.getD 4 (.bool false))]).bind fun r65 =>
(D.truth (r65.2.getD 0 (.bool false))).bind fun b66 =>
 if b66 then ((D.asSl r30).bind fun l67 =>
(D.idx (v37.getD 0 (.bool false)) (l67.length)).bind fun i68 =>
(l67[i68]?).bind fun x69 =>
 if List.length ((r65.2.getD 3 (.bool false)).els) + List.length [x69] ≤ 1073741824 then (some (0, [(D.sl ((r65.2.getD 1 (.bool false)).els)), (r65.2.getD 2 (.bool false)), (D.sl (((r65.2.getD 3 (.bool false)).els) ++ [x69])), (r65.2.getD 4 (.bool false))])) else none) else (some (0, [(D.sl ((r65.2.getD 1 (.bool false)).els)), (r65.2.getD 2 (.bool false)), (D.sl ((r65.2.getD 3 (.bool false)).els)), (r65.2.getD 4 (.bool false))]))).bind fun (r70 : Nat × List D) =>
(D.bin .add (v37.getD 0 (.bool false)) (D.int .i64 1)).bind fun x71 =>
 some (Sum.inl [x71, (D.sl ((r70.2.getD 0 (.bool false)).els)), (r70.2.getD 1 (.bool false)), (D.sl ((r70.2.getD 2 (.bool false)).els)), (r70.2.getD 3 (.bool false))])) else (some (Sum.inr (0, [(D.sl ((v37.getD 1 (.bool false)).els)), (v37.getD 2 (.bool false)), (D.sl ((v37.getD 3 (.bool false)).els)), (v37.getD 4 (.bool false))])))) [(D.int .i64 0), (D.sl ((r29.2.getD 0 (.bool false)).els)), (r29.2.getD 1 (.bool false)), (D.sl []), (D.int .i64 0)]).bind fun r72 =>
 some (D.st [(D.st [(D.sl ((r72.2.getD 2 (.bool false)).els))]), (r72.2.getD 3 (.bool false))])))))
theorem E12 (lp : Lp) (call : Nat → List D → Option D) (a0 : D) : evF (envOf lp call (inlP lp call)) Tryz.f12 A12 [K2] K4 [a0] = F12 lp call a0 := by kernel_rfl
theorem L12 {lp : Lp} (hlp : LpOk lp) : leafOk 12 (fun call xs => match xs with | [a0] => F12 lp call a0 | _ => none) :=
  leaf1 hlp (by kernel_rfl) (by kernel_rfl) (by kernel_rfl) (fun call a0 => E12 lp call a0)
/- skewback/skewbackref12.Same -/
def A13 : Ann := (.two .leaf (.two .leaf (.two (.two .leaf (.two (.loop ⟨[(5, .dv (Ty.int .i64))], [], [0, 1]⟩ [(.ret, ⟨[(4, .dv Ty.bool)], [], []⟩), (.exit 0, ⟨[], [], []⟩)] (.two .leaf (.two (.two (.two (.reg [] 8) .leaf) .leaf) .leaf))) .leaf)) .leaf)))
noncomputable def F13 (lp : Lp) (call : Nat → List D → Option D) (a0 : D) (a1 : D) : Option D :=
(D.asSl a0).bind fun l1 =>
(D.asSl a1).bind fun l2 =>
(D.truth (D.bool (!(D.beq (D.int .i64 (l1.length)) (D.int .i64 (l2.length)))))).bind fun b3 =>
 if b3 then (some (D.bool false)) else ((lp (β := Nat × List D) (fun (v4 : List D) =>
(D.asSl a0).bind fun l5 =>
(D.bin .lss (v4.getD 0 (.bool false)) (D.int .i64 (l5.length))).bind fun x6 =>
(D.truth x6).bind fun b7 =>
 if b7 then ((D.asSl a0).bind fun l8 =>
(D.idx (v4.getD 0 (.bool false)) (l8.length)).bind fun i9 =>
(l8[i9]?).bind fun x10 =>
(D.asSl a1).bind fun l11 =>
(D.idx (v4.getD 0 (.bool false)) (l11.length)).bind fun i12 =>
(l11[i12]?).bind fun x13 =>
(D.truth (D.bool (!(D.beq x10 x13)))).bind fun b14 =>
 if b14 then (some (Sum.inr (0, [(D.bool false)]))) else ((D.bin .add (v4.getD 0 (.bool false)) (D.int .i64 1)).bind fun x15 =>
 some (Sum.inl [x15]))) else (some (Sum.inr (1, [])))) [(D.int .i64 0)]).bind fun r16 =>
 if r16.1 = 0 then (some (r16.2.getD 0 (.bool false))) else (some (D.bool true)))
theorem E13 (lp : Lp) (call : Nat → List D → Option D) (a0 : D) (a1 : D) : evF (envOf lp call (inlP lp call)) Tryz.f13 A13 [K2, K2] Ty.bool [a0, a1] = F13 lp call a0 a1 := by kernel_rfl
theorem L13 {lp : Lp} (hlp : LpOk lp) : leafOk 13 (fun call xs => match xs with | [a0, a1] => F13 lp call a0 a1 | _ => none) :=
  leaf2 hlp (by kernel_rfl) (by kernel_rfl) (by kernel_rfl) (fun call a0 a1 => E13 lp call a0 a1)
/- skewback/hull.Check -/
def A14 : Ann := .leaf
noncomputable def F14 (lp : Lp) (call : Nat → List D → Option D) (a0 : D) : Option D :=
(D.get a0 [0]).bind fun x1 =>
(call 11 [x1]).bind fun r2 =>
(D.tupAt r2 0).bind fun x3 =>
(D.tupAt r2 1).bind fun x4 =>
(D.truth (D.bool (D.beq x4 (D.int .i64 0)))).bind fun b5 =>
(if b5 then ((D.get x3 [0]).bind fun x6 =>
(D.get a0 [0]).bind fun x7 =>
(call 49 [x6, x7]).bind fun r8 =>
(D.un .not r8).bind fun x9 =>
 D.truth x9) else (some false)).bind fun b10 =>
(D.truth (D.bool b10)).bind fun b11 =>
 if b11 then (some (D.int .i64 3)) else (some x4)
theorem E14 (lp : Lp) (call : Nat → List D → Option D) (a0 : D) : evF (envOf lp call (inlP lp call)) Tryz.f14 A14 [K3] (Ty.int .i64) [a0] = F14 lp call a0 := by kernel_rfl
theorem L14 {lp : Lp} (hlp : LpOk lp) : leafOk 14 (fun call xs => match xs with | [a0] => F14 lp call a0 | _ => none) :=
  leaf1 hlp (by kernel_rfl) (by kernel_rfl) (by kernel_rfl) (fun call a0 => E14 lp call a0)
/- skewback/skewbackref12.Check -/
def A15 : Ann := .leaf
noncomputable def F15 (lp : Lp) (call : Nat → List D → Option D) (a0 : D) : Option D :=
(D.get a0 [0]).bind fun x1 =>
(call 12 [x1]).bind fun r2 =>
(D.get r2 [1]).bind fun x3 =>
(D.truth (D.bool (D.beq x3 (D.int .i64 0)))).bind fun b4 =>
(if b4 then ((D.get r2 [0, 0]).bind fun x5 =>
(D.get a0 [0]).bind fun x6 =>
(call 13 [x5, x6]).bind fun r7 =>
(D.un .not r7).bind fun x8 =>
 D.truth x8) else (some false)).bind fun b9 =>
(D.truth (D.bool b9)).bind fun b10 =>
 if b10 then (some (D.int .i64 3)) else ((D.get r2 [1]).bind fun x11 =>
 some x11)
theorem E15 (lp : Lp) (call : Nat → List D → Option D) (a0 : D) : evF (envOf lp call (inlP lp call)) Tryz.f15 A15 [K3] (Ty.int .i64) [a0] = F15 lp call a0 := by kernel_rfl
theorem L15 {lp : Lp} (hlp : LpOk lp) : leafOk 15 (fun call xs => match xs with | [a0] => F15 lp call a0 | _ => none) :=
  leaf1 hlp (by kernel_rfl) (by kernel_rfl) (by kernel_rfl) (fun call a0 => E15 lp call a0)
/- skewback/skewbackref12.Few -/
def A16 : Ann := .leaf
noncomputable def F16 (lp : Lp) (call : Nat → List D → Option D) (a0 : D) : Option D :=
(D.get a0 [0]).bind fun x1 =>
(D.asSl x1).bind fun l2 =>
(D.bin .leq (D.int .i64 (l2.length)) (D.int .i64 16)).bind fun x3 =>
(D.truth x3).bind fun b4 =>
(if b4 then ((call 15 [a0]).bind fun r5 =>
 D.truth (D.bool (D.beq r5 (D.int .i64 0)))) else (some false)).bind fun b6 =>
 some (D.bool b6)
theorem E16 (lp : Lp) (call : Nat → List D → Option D) (a0 : D) : evF (envOf lp call (inlP lp call)) Tryz.f16 A16 [K3] Ty.bool [a0] = F16 lp call a0 := by kernel_rfl
theorem L16 {lp : Lp} (hlp : LpOk lp) : leafOk 16 (fun call xs => match xs with | [a0] => F16 lp call a0 | _ => none) :=
  leaf1 hlp (by kernel_rfl) (by kernel_rfl) (by kernel_rfl) (fun call a0 => E16 lp call a0)
/- skewback/skewbackref12.SameFacets -/
def A17 : Ann := (.two .leaf (.two .leaf (.two (.two .leaf (.two (.loop ⟨[(5, .dv (Ty.int .i64))], [], [0, 1]⟩ [(.ret, ⟨[(4, .dv Ty.bool)], [], []⟩), (.exit 0, ⟨[], [], []⟩)] (.two .leaf (.two (.two (.two .leaf (.two .leaf (.two (.loop ⟨[(6, .dv (Ty.int .i64))], [], [0, 1, 5]⟩ [(.ret, ⟨[(4, .dv Ty.bool)], [], []⟩), (.exit 2, ⟨[], [], [0, 1, 5]⟩)] (.two .leaf (.two (.two (.two (.reg [] 16) .leaf) .leaf) .leaf))) .leaf))) .leaf) .leaf))) .leaf)) .leaf)))
noncomputable def F17 (lp : Lp) (call : Nat → List D → Option D) (a0 : D) (a1 : D) : Option D :=
(D.asSl a0).bind fun l1 =>
(D.asSl a1).bind fun l2 =>
(D.truth (D.bool (!(D.beq (D.int .i64 (l1.length)) (D.int .i64 (l2.length)))))).bind fun b3 =>
 if b3 then (some (D.bool false)) else ((lp (β := Nat × List D) (fun (v4 : List D) =>
(D.asSl a0).bind fun l5 =>
(D.bin .lss (v4.getD 0 (.bool false)) (D.int .i64 (l5.length))).bind fun x6 =>
(D.truth x6).bind fun b7 =>
 if b7 then ((D.asSl a0).bind fun l8 =>
(D.idx (v4.getD 0 (.bool false)) (l8.length)).bind fun i9 =>
(l8[i9]?).bind fun x10 =>
(D.fld x10 0).bind fun x11 =>
(D.asSl a1).bind fun l12 =>
(D.idx (v4.getD 0 (.bool false)) (l12.length)).bind fun i13 =>
(l12[i13]?).bind fun x14 =>
(D.fld x14 0).bind fun x15 =>
(D.truth (D.bool (!(D.beq x11 x15)))).bind fun b16 =>
(if b16 then (some true) else ((D.asSl a0).bind fun l17 =>
(D.idx (v4.getD 0 (.bool false)) (l17.length)).bind fun i18 =>
(l17[i18]?).bind fun x19 =>
(D.fld x19 1).bind fun x20 =>
(D.asSl a1).bind fun l21 =>
(D.idx (v4.getD 0 (.bool false)) (l21.length)).bind fun i22 =>
(l21[i22]?).bind fun x23 =>
(D.fld x23 1).bind fun x24 =>
 D.truth (D.bool (!(D.beq x20 x24))))).bind fun b25 =>
(D.truth (D.bool b25)).bind fun b26 =>
(if b26 then (some true) else ((D.asSl a0).bind fun l27 =>
(D.idx (v4.getD 0 (.bool false)) (l27.length)).bind fun i28 =>
(l27[i28]?).bind fun x29 =>
(D.fld x29 2).bind fun x30 =>
(D.asSl x30).bind fun l31 =>
(D.asSl a1).bind fun l32 =>
(D.idx (v4.getD 0 (.bool false)) (l32.length)).bind fun i33 =>
(l32[i33]?).bind fun x34 =>
(D.fld x34 2).bind fun x35 =>
(D.asSl x35).bind fun l36 =>
 D.truth (D.bool (!(D.beq (D.int .i64 (l31.length)) (D.int .i64 (l36.length))))))).bind fun b37 =>
(D.truth (D.bool b37)).bind fun b38 =>
 if b38 then (some (Sum.inr (0, [(D.bool false)]))) else ((lp (β := Nat × List D) (fun (v39 : List D) =>
(D.asSl a0).bind fun l40 =>
(D.idx (v4.getD 0 (.bool false)) (l40.length)).bind fun i41 =>
(l40[i41]?).bind fun x42 =>
(D.fld x42 2).bind fun x43 =>
(D.asSl x43).bind fun l44 =>
(D.bin .lss (v39.getD 0 (.bool false)) (D.int .i64 (l44.length))).bind fun x45 =>
(D.truth x45).bind fun b46 =>
 if b46 then ((D.asSl a0).bind fun l47 =>
(D.idx (v4.getD 0 (.bool false)) (l47.length)).bind fun i48 =>
(l47[i48]?).bind fun x49 =>
(D.fld x49 2).bind fun x50 =>
(D.asSl x50).bind fun l51 =>
(D.idx (v39.getD 0 (.bool false)) (l51.length)).bind fun i52 =>
(l51[i52]?).bind fun x53 =>
(D.asSl a1).bind fun l54 =>
(D.idx (v4.getD 0 (.bool false)) (l54.length)).bind fun i55 =>
(l54[i55]?).bind fun x56 =>
(D.fld x56 2).bind fun x57 =>
(D.asSl x57).bind fun l58 =>
(D.idx (v39.getD 0 (.bool false)) (l58.length)).bind fun i59 =>
(l58[i59]?).bind fun x60 =>
(D.truth (D.bool (!(D.beq x53 x60)))).bind fun b61 =>
 if b61 then (some (Sum.inr (0, [(D.bool false)]))) else ((D.bin .add (v39.getD 0 (.bool false)) (D.int .i64 1)).bind fun x62 =>
 some (Sum.inl [x62]))) else (some (Sum.inr (1, [])))) [(D.int .i64 0)]).bind fun r63 =>
 if r63.1 = 0 then (some (Sum.inr (0, [(r63.2.getD 0 (.bool false))]))) else ((D.bin .add (v4.getD 0 (.bool false)) (D.int .i64 1)).bind fun x64 =>
 some (Sum.inl [x64])))) else (some (Sum.inr (1, [])))) [(D.int .i64 0)]).bind fun r65 =>
 if r65.1 = 0 then (some (r65.2.getD 0 (.bool false))) else (some (D.bool true)))
theorem E17 (lp : Lp) (call : Nat → List D → Option D) (a0 : D) (a1 : D) : evF (envOf lp call (inlP lp call)) Tryz.f17 A17 [K7, K7] Ty.bool [a0, a1] = F17 lp call a0 a1 := by kernel_rfl
theorem L17 {lp : Lp} (hlp : LpOk lp) : leafOk 17 (fun call xs => match xs with | [a0, a1] => F17 lp call a0 a1 | _ => none) :=
  leaf2 hlp (by kernel_rfl) (by kernel_rfl) (by kernel_rfl) (fun call a0 a1 => E17 lp call a0 a1)
/- skewback/hull.Facets -/
def A18 : Ann := (.two .leaf (.two .leaf (.two (.two .leaf (.two (.loop ⟨[(1, .same (.ptr K3 4097 [])), (3, .ow K6), (10, .dv (Ty.int .i64))], [(4097, .keep K3 1)], [8, 9]⟩ [(.exit 0, ⟨[(3, .ow K6)], [], []⟩)] (.two .leaf (.two .leaf (.two (.two (.two .leaf (.reg [] 11)) .leaf) .leaf)))) .leaf)) .leaf)))
noncomputable def F18 (lp : Lp) (call : Nat → List D → Option D) (a0 : D) : Option D :=
(D.get a0 [0]).bind fun x1 =>
(call 45 [x1]).bind fun r2 =>
(D.asSl r2).bind fun l3 =>
(lp (β := Nat × List D) (fun (v4 : List D) =>
(D.bin .lss (v4.getD 1 (.bool false)) (D.int .i64 (l3.length))).bind fun x5 =>
(D.truth x5).bind fun b6 =>
 if b6 then ((D.asSl r2).bind fun l7 =>
(D.idx (v4.getD 1 (.bool false)) (l7.length)).bind fun i8 =>
(l7[i8]?).bind fun x9 =>
(D.get x9 [0]).bind fun x10 =>
(D.get x9 [1]).bind fun x11 =>
(D.get a0 [0]).bind fun x12 =>
(call 46 [x12, x9]).bind fun r13 =>
 if List.length ((v4.getD 0 (.bool false)).els) + List.length [(D.st [x10, x11, r13])] ≤ 1073741824 then ((D.bin .add (v4.getD 1 (.bool false)) (D.int .i64 1)).bind fun x14 =>
 some (Sum.inl [(D.sl (((v4.getD 0 (.bool false)).els) ++ [(D.st [x10, x11, r13])])), x14])) else none) else (some (Sum.inr (0, [(D.sl ((v4.getD 0 (.bool false)).els))])))) [(D.sl []), (D.int .i64 0)]).bind fun r15 =>
 some (D.sl ((r15.2.getD 0 (.bool false)).els))
theorem E18 (lp : Lp) (call : Nat → List D → Option D) (a0 : D) : evF (envOf lp call (inlP lp call)) Tryz.f18 A18 [K3] K7 [a0] = F18 lp call a0 := by kernel_rfl
theorem L18 {lp : Lp} (hlp : LpOk lp) : leafOk 18 (fun call xs => match xs with | [a0] => F18 lp call a0 | _ => none) :=
  leaf1 hlp (by kernel_rfl) (by kernel_rfl) (by kernel_rfl) (fun call a0 => E18 lp call a0)
/- skewback/skewbackref12.Facets -/
def A19 : Ann := .leaf
noncomputable def F19 (lp : Lp) (call : Nat → List D → Option D) (a0 : D) : Option D :=
(D.get a0 [0]).bind fun x1 =>
(call 48 [x1]).bind fun r2 =>
 some r2
theorem E19 (lp : Lp) (call : Nat → List D → Option D) (a0 : D) : evF (envOf lp call (inlP lp call)) Tryz.f19 A19 [K3] K7 [a0] = F19 lp call a0 := by kernel_rfl
theorem L19 {lp : Lp} (hlp : LpOk lp) : leafOk 19 (fun call xs => match xs with | [a0] => F19 lp call a0 | _ => none) :=
  leaf1 hlp (by kernel_rfl) (by kernel_rfl) (by kernel_rfl) (fun call a0 => E19 lp call a0)
/- skewback/skewbacklaw12.sameEdges -/
def A20 : Ann := (.two .leaf (.two .leaf (.two (.two .leaf (.two (.loop ⟨[(5, .dv (Ty.int .i64))], [], [0, 1]⟩ [(.ret, ⟨[(4, .dv Ty.bool)], [], []⟩), (.exit 0, ⟨[], [], []⟩)] (.two .leaf (.two (.two (.two (.reg [] 8) .leaf) .leaf) .leaf))) .leaf)) .leaf)))
noncomputable def F20 (lp : Lp) (call : Nat → List D → Option D) (a0 : D) (a1 : D) : Option D :=
(D.asSl a0).bind fun l1 =>
(D.asSl a1).bind fun l2 =>
(D.truth (D.bool (!(D.beq (D.int .i64 (l1.length)) (D.int .i64 (l2.length)))))).bind fun b3 =>
 if b3 then (some (D.bool false)) else ((lp (β := Nat × List D) (fun (v4 : List D) =>
(D.asSl a0).bind fun l5 =>
(D.bin .lss (v4.getD 0 (.bool false)) (D.int .i64 (l5.length))).bind fun x6 =>
(D.truth x6).bind fun b7 =>
 if b7 then ((D.asSl a0).bind fun l8 =>
(D.idx (v4.getD 0 (.bool false)) (l8.length)).bind fun i9 =>
(l8[i9]?).bind fun x10 =>
(D.asSl a1).bind fun l11 =>
(D.idx (v4.getD 0 (.bool false)) (l11.length)).bind fun i12 =>
(l11[i12]?).bind fun x13 =>
(D.truth (D.bool (!(D.beq x10 x13)))).bind fun b14 =>
 if b14 then (some (Sum.inr (0, [(D.bool false)]))) else ((D.bin .add (v4.getD 0 (.bool false)) (D.int .i64 1)).bind fun x15 =>
 some (Sum.inl [x15]))) else (some (Sum.inr (1, [])))) [(D.int .i64 0)]).bind fun r16 =>
 if r16.1 = 0 then (some (r16.2.getD 0 (.bool false))) else (some (D.bool true)))
theorem E20 (lp : Lp) (call : Nat → List D → Option D) (a0 : D) (a1 : D) : evF (envOf lp call (inlP lp call)) Tryz.f20 A20 [K9, K9] Ty.bool [a0, a1] = F20 lp call a0 a1 := by kernel_rfl
theorem L20 {lp : Lp} (hlp : LpOk lp) : leafOk 20 (fun call xs => match xs with | [a0, a1] => F20 lp call a0 a1 | _ => none) :=
  leaf2 hlp (by kernel_rfl) (by kernel_rfl) (by kernel_rfl) (fun call a0 a1 => E20 lp call a0 a1)
end Go.Proofs.YtjjjkojfijpeeaaGreat.Sy
end
section
/- The program's functions as plain text, checked by the kernel: part Cb. -/
set_option maxRecDepth 20000
set_option maxHeartbeats 0
set_option linter.unusedVariables false
namespace Go.Proofs.YtjjjkojfijpeeaaGreat.Sy
open Go Go.Proofs
/- skewback/skewbackref12.Edges -/
def A22 : Ann := (.two .leaf (.two .leaf (.two .leaf (.two (.two .leaf (.two (.loop ⟨[(1, .same (.ptr K3 4097 [])), (3, .ow K8), (5, .dv (Ty.int .i64))], [(4097, .keep K3 1)], [4]⟩ [(.exit 0, ⟨[(3, .ow K8)], [], []⟩)] (.two .leaf (.two (.two (.two .leaf (.two (.loop ⟨[(1, .same (.ptr K3 4097 [])), (3, .ow K8), (6, .dv (Ty.int .i64))], [(4097, .keep K3 1)], [4, 5]⟩ [(.exit 2, ⟨[(1, .same (.ptr K3 4097 [])), (3, .ow K8)], [(4097, .keep K3 1)], [4, 5]⟩)] (.two .leaf (.cut [(.normal, ⟨[(1, .same (.ptr K3 4097 [])), (3, .ow K8)], [(4097, .keep K3 1)], [4, 5, 6]⟩)] [4, 5, 6] [4097] (.two (.two .leaf (.two (.two .leaf (.two (.loop ⟨[(1, .same (.ptr K3 4097 [])), (3, .ow K8), (7, .dv Ty.bool), (8, .dv (Ty.int .i64))], [(4097, .keep K3 1)], [4, 5, 6]⟩ [(.exit 4, ⟨[(1, .same (.ptr K3 4097 [])), (3, .ow K8), (7, .dv Ty.bool)], [(4097, .keep K3 1)], [4, 5, 6]⟩)] (.two .leaf (.two (.two (.two .leaf (.two .leaf (.two (.loop ⟨[(1, .same (.ptr K3 4097 [])), (3, .ow K8), (7, .dv Ty.bool), (10, .dv (Ty.int .i64))], [(4097, .keep K3 1)], [4, 5, 6, 8, 9]⟩ [(.exit 6, ⟨[(1, .same (.ptr K3 4097 [])), (3, .ow K8), (7, .dv Ty.bool)], [(4097, .keep K3 1)], [4, 5, 6, 8]⟩)] .leaf) .leaf))) .leaf) .leaf))) .leaf)) .leaf)) .leaf) .leaf))) .leaf)) .leaf) .leaf))) .leaf)) .leaf))))
noncomputable def F22 (lp : Lp) (call : Nat → List D → Option D) (a0 : D) : Option D :=
(call 19 [a0]).bind fun r1 =>
(lp (β := Nat × List D) (fun (v2 : List D) =>
(D.get a0 [0]).bind fun x3 =>
(D.asSl x3).bind fun l4 =>
(D.bin .lss (v2.getD 1 (.bool false)) (D.int .i64 (l4.length))).bind fun x5 =>
(D.truth x5).bind fun b6 =>
 if b6 then ((D.bin .add (v2.getD 1 (.bool false)) (D.int .i64 1)).bind fun x7 =>
(lp (β := Nat × List D) (fun (v8 : List D) =>
(D.get a0 [0]).bind fun x9 =>
(D.asSl x9).bind fun l10 =>
(D.bin .lss (v8.getD 1 (.bool false)) (D.int .i64 (l10.length))).bind fun x11 =>
(D.truth x11).bind fun b12 =>
 if b12 then (((lp (β := Nat × List D) (fun (v13 : List D) =>
(D.asSl r1).bind fun l14 =>
(D.bin .lss (v13.getD 2 (.bool false)) (D.int .i64 (l14.length))).bind fun x15 =>
(D.truth x15).bind fun b16 =>
 if b16 then ((D.asSl r1).bind fun l17 =>
(D.idx (v13.getD 2 (.bool false)) (l17.length)).bind fun i18 =>
(l17[i18]?).bind fun x19 =>
(D.fld x19 2).bind fun x20 =>
(lp (β := Nat × List D) (fun (v21 : List D) =>
(D.asSl x20).bind fun l22 =>
(D.bin .lss (v21.getD 2 (.bool false)) (D.int .i64 (l22.length))).bind fun x23 =>
(D.truth x23).bind fun b24 =>
 if b24 then ((D.truth (v21.getD 1 (.bool false))).bind fun b25 =>
(if b25 then (some true) else ((D.asSl x20).bind fun l26 =>
(D.idx (v21.getD 2 (.bool false)) (l26.length)).bind fun i27 =>
(l26[i27]?).bind fun x28 =>
(D.truth (D.bool (D.beq x28 (v2.getD 1 (.bool false))))).bind fun b29 =>
 if b29 then ((D.bin .add (v21.getD 2 (.bool false)) (D.int .i64 1)).bind fun x30 =>
(D.asSl x20).bind fun l31 =>
(D.bin .rem x30 (D.int .i64 (l31.length))).bind fun x32 =>
(D.asSl x20).bind fun l33 =>
(D.idx x32 (l33.length)).bind fun i34 =>
(l33[i34]?).bind fun x35 =>
 D.truth (D.bool (D.beq x35 (v8.getD 1 (.bool false))))) else (some false))).bind fun b36 =>
(D.truth (D.bool b36)).bind fun b37 =>
(if b37 then (some true) else ((D.asSl x20).bind fun l38 =>
(D.idx (v21.getD 2 (.bool false)) (l38.length)).bind fun i39 =>
(l38[i39]?).bind fun x40 =>
(D.truth (D.bool (D.beq x40 (v8.getD 1 (.bool false))))).bind fun b41 =>
 if b41 then ((D.bin .add (v21.getD 2 (.bool false)) (D.int .i64 1)).bind fun x42 =>
(D.asSl x20).bind fun l43 =>
(D.bin .rem x42 (D.int .i64 (l43.length))).bind fun x44 =>
(D.asSl x20).bind fun l45 =>
(D.idx x44 (l45.length)).bind fun i46 =>
(l45[i46]?).bind fun x47 =>
 D.truth (D.bool (D.beq x47 (v2.getD 1 (.bool false))))) else (some false))).bind fun b48 =>
(D.bin .add (v21.getD 2 (.bool false)) (D.int .i64 1)).bind fun x49 =>
 some (Sum.inl [(D.sl ((v21.getD 0 (.bool false)).els)), (D.bool b48), x49])) else (some (Sum.inr (0, [(D.sl ((v21.getD 0 (.bool false)).els)), (v21.getD 1 (.bool false))])))) [(D.sl ((v13.getD 0 (.bool false)).els)), (v13.getD 1 (.bool false)), (D.int .i64 0)]).bind fun r50 =>
(D.bin .add (v13.getD 2 (.bool false)) (D.int .i64 1)).bind fun x51 =>
 some (Sum.inl [(D.sl ((r50.2.getD 0 (.bool false)).els)), (r50.2.getD 1 (.bool false)), x51])) else (some (Sum.inr (0, [(D.sl ((v13.getD 0 (.bool false)).els)), (v13.getD 1 (.bool false))])))) [(D.sl ((v8.getD 0 (.bool false)).els)), (D.bool false), (D.int .i64 0)]).bind fun r52 =>
(D.truth (r52.2.getD 1 (.bool false))).bind fun b53 =>
 if b53 then (if List.length ((r52.2.getD 0 (.bool false)).els) + List.length [(D.st [(v2.getD 1 (.bool false)), (v8.getD 1 (.bool false))])] ≤ 1073741824 then (some (0, [(D.sl (((r52.2.getD 0 (.bool false)).els) ++ [(D.st [(v2.getD 1 (.bool false)), (v8.getD 1 (.bool false))])]))])) else none) else (some (0, [(D.sl ((r52.2.getD 0 (.bool false)).els))]))).bind fun (r54 : Nat × List D) =>
(D.bin .add (v8.getD 1 (.bool false)) (D.int .i64 1)).bind fun x55 =>
 some (Sum.inl [(D.sl ((r54.2.getD 0 (.bool false)).els)), x55])) else (some (Sum.inr (0, [(D.sl ((v8.getD 0 (.bool false)).els))])))) [(D.sl ((v2.getD 0 (.bool false)).els)), x7]).bind fun r56 =>
(D.bin .add (v2.getD 1 (.bool false)) (D.int .i64 1)).bind fun x57 =>
 some (Sum.inl [(D.sl ((r56.2.getD 0 (.bool false)).els)), x57])) else (some (Sum.inr (0, [(D.sl ((v2.getD 0 (.bool false)).els))])))) [(D.sl []), (D.int .i64 0)]).bind fun r58 =>
 some (D.sl ((r58.2.getD 0 (.bool false)).els))
theorem E22 (lp : Lp) (call : Nat → List D → Option D) (a0 : D) : evF (envOf lp call (inlP lp call)) Tryz.f22 A22 [K3] K9 [a0] = F22 lp call a0 := by kernel_rfl
theorem L22 {lp : Lp} (hlp : LpOk lp) : leafOk 22 (fun call xs => match xs with | [a0] => F22 lp call a0 | _ => none) :=
  leaf1 hlp (by kernel_rfl) (by kernel_rfl) (by kernel_rfl) (fun call a0 => E22 lp call a0)
/- skewback/hull.Volume6 -/
def A23 : Ann := (.two .leaf (.two .leaf (.two (.regI [] 3 (.two (.two .leaf (.two .leaf (.two (.loop ⟨[(1, .same (.clo 56 [(.ptr K11 8195 [])])), (2, .same (.ptr K3 20482 [])), (11, .dv (Ty.int .i64))], [(4097, .one K3 (.dv K3)), (4098, .one K11 (.dv K11)), (8195, .one K11 (.dv K11)), (20482, .keep K3 2)], [9, 10]⟩ [(.exit 0, ⟨[], [(4097, .one K3 (.dv K3)), (4098, .one K11 (.dv K11)), (8195, .one K11 (.dv K11))], []⟩)] (.two .leaf (.two .leaf (.two (.two (.two .leaf (.two .leaf (.two (.loop ⟨[(1, .same (.clo 56 [(.ptr K11 8195 [])])), (2, .same (.ptr K3 20482 [])), (5, .same (.ptr K6 36869 [])), (6, .dv (Ty.int .i64))], [(4097, .one K3 (.dv K3)), (4098, .one K11 (.dv K11)), (8195, .one K11 (.dv K11)), (20482, .keep K3 2), (36869, .keep K6 5)], [9, 10, 11]⟩ [(.exit 2, ⟨[(1, .same (.clo 56 [(.ptr K11 8195 [])])), (2, .same (.ptr K3 20482 []))], [(4097, .one K3 (.dv K3)), (4098, .one K11 (.dv K11)), (8195, .one K11 (.dv K11)), (20482, .keep K3 2)], [9, 10, 11]⟩)] (.two .leaf (.two (.two (.two (.reg [] 29) (.regI [] 10 (.two .leaf .leaf))) .leaf) .leaf))) .leaf))) .leaf) .leaf)))) .leaf))) .leaf)) .leaf)))
noncomputable def F23 (lp : Lp) (call : Nat → List D → Option D) (a0 : D) : Option D :=
(call 54 [(D.int .i64 0)]).bind fun r1 =>
(call 18 [a0]).bind fun r2 =>
(D.asSl r2).bind fun l3 =>
(lp (β := Nat × List D) (fun (v4 : List D) =>
(D.bin .lss (v4.getD 0 (.bool false)) (D.int .i64 (l3.length))).bind fun x5 =>
(D.truth x5).bind fun b6 =>
 if b6 then ((D.asSl r2).bind fun l7 =>
(D.idx (v4.getD 0 (.bool false)) (l7.length)).bind fun i8 =>
(l7[i8]?).bind fun x9 =>
(lp (β := Nat × List D) (fun (v10 : List D) =>
(D.get x9 [2]).bind fun x11 =>
(D.asSl x11).bind fun l12 =>
(D.bin .lss (v10.getD 0 (.bool false)) (D.int .i64 (l12.length))).bind fun x13 =>
(D.truth x13).bind fun b14 =>
 if b14 then ((D.get a0 [0]).bind fun x15 =>
(D.get x9 [2]).bind fun x16 =>
(D.asSl x16).bind fun l17 =>
(D.idx (D.int .i64 0) (l17.length)).bind fun i18 =>
(l17[i18]?).bind fun x19 =>
(D.asSl x15).bind fun l20 =>
(D.idx x19 (l20.length)).bind fun i21 =>
(l20[i21]?).bind fun x22 =>
(D.get a0 [0]).bind fun x23 =>
(D.get x9 [2]).bind fun x24 =>
(D.bin .sub (v10.getD 0 (.bool false)) (D.int .i64 1)).bind fun x25 =>
(D.asSl x24).bind fun l26 =>
(D.idx x25 (l26.length)).bind fun i27 =>
(l26[i27]?).bind fun x28 =>
(D.asSl x23).bind fun l29 =>
(D.idx x28 (l29.length)).bind fun i30 =>
(l29[i30]?).bind fun x31 =>
(D.get a0 [0]).bind fun x32 =>
(D.get x9 [2]).bind fun x33 =>
(D.asSl x33).bind fun l34 =>
(D.idx (v10.getD 0 (.bool false)) (l34.length)).bind fun i35 =>
(l34[i35]?).bind fun x36 =>
(D.asSl x32).bind fun l37 =>
(D.idx x36 (l37.length)).bind fun i38 =>
(l37[i38]?).bind fun x39 =>
(call 117 [x22, x31]).bind fun r40 =>
(call 91 [r40, x39]).bind fun r41 =>
(call 57 [(v10.getD 3 (.bool false)), r41]).bind fun r42 =>
(D.bin .add (v10.getD 0 (.bool false)) (D.int .i64 1)).bind fun x43 =>
 some (Sum.inl [x43, (v10.getD 1 (.bool false)), (v10.getD 2 (.bool false)), r42])) else (some (Sum.inr (0, [(v10.getD 1 (.bool false)), (v10.getD 2 (.bool false)), (v10.getD 3 (.bool false))])))) [(D.int .i64 2), (v4.getD 1 (.bool false)), (v4.getD 2 (.bool false)), (v4.getD 3 (.bool false))]).bind fun r44 =>
(D.bin .add (v4.getD 0 (.bool false)) (D.int .i64 1)).bind fun x45 =>
 some (Sum.inl [x45, (r44.2.getD 0 (.bool false)), (r44.2.getD 1 (.bool false)), (r44.2.getD 2 (.bool false))])) else (some (Sum.inr (0, [(v4.getD 1 (.bool false)), (v4.getD 2 (.bool false)), (v4.getD 3 (.bool false))])))) [(D.int .i64 0), a0, (D.st [(D.bool false), (D.bool false), (zeroD K10)]), r1]).bind fun r46 =>
 some (r46.2.getD 2 (.bool false))
theorem E23 (lp : Lp) (call : Nat → List D → Option D) (a0 : D) : evF (envOf lp call (inlP lp call)) Tryz.f23 A23 [K3] K11 [a0] = F23 lp call a0 := by kernel_rfl
theorem L23 {lp : Lp} (hlp : LpOk lp) : leafOk 23 (fun call xs => match xs with | [a0] => F23 lp call a0 | _ => none) :=
  leaf1 hlp (by kernel_rfl) (by kernel_rfl) (by kernel_rfl) (fun call a0 => E23 lp call a0)
/- skewback/hull.Centroid -/
def A25 : Ann := (.two .leaf (.two .leaf (.two (.regI [] 3 (.two (.two .leaf (.two .leaf (.two (.loop ⟨[(1, .same (.clo 60 [(.ptr K23 8195 [])])), (2, .same (.ptr K3 20482 [])), (11, .dv (Ty.int .i64))], [(4097, .one K3 (.dv K3)), (4098, .one K13 (.dv K13)), (8195, .one K23 (.dv K23)), (20482, .keep K3 2)], [9, 10]⟩ [(.exit 0, ⟨[], [(4097, .one K3 (.dv K3)), (4098, .one K13 (.dv K13)), (8195, .one K23 (.dv K23))], []⟩)] (.two .leaf (.two .leaf (.two (.two (.two .leaf (.two .leaf (.two (.loop ⟨[(1, .same (.clo 60 [(.ptr K23 8195 [])])), (2, .same (.ptr K3 20482 [])), (5, .same (.ptr K6 36869 [])), (6, .dv (Ty.int .i64))], [(4097, .one K3 (.dv K3)), (4098, .one K13 (.dv K13)), (8195, .one K23 (.dv K23)), (20482, .keep K3 2), (36869, .keep K6 5)], [9, 10, 11]⟩ [(.exit 2, ⟨[(1, .same (.clo 60 [(.ptr K23 8195 [])])), (2, .same (.ptr K3 20482 []))], [(4097, .one K3 (.dv K3)), (4098, .one K13 (.dv K13)), (8195, .one K23 (.dv K23)), (20482, .keep K3 2)], [9, 10, 11]⟩)] (.two .leaf (.two (.two (.two (.reg [] 29) (.regI [] 10 (.two (.two .leaf (.two .leaf (.two (.loop ⟨[(2, .same (.ptr K23 8195 [])), (3, .same (.ptr K11 65539 [])), (4, .same (.ptr K20 65540 [])), (6, .dv (Ty.int .i64))], [(4097, .one K3 (.dv K3)), (4098, .one K13 (.dv K13)), (8195, .one K23 (.dv K23)), (20482, .one K3 (.dv K3)), (36869, .one K6 (.dv K6)), (53255, .one K20 (.dv K20)), (65539, .keep K11 3), (65540, .keep K20 4)], []⟩ [(.exit 0, ⟨[], [(4097, .one K3 (.dv K3)), (4098, .one K13 (.dv K13)), (8195, .one K23 (.dv K23)), (20482, .one K3 (.dv K3)), (36869, .one K6 (.dv K6)), (53255, .one K20 (.dv K20))], []⟩)] (.two .leaf (.two .leaf (.two (.two (.two .leaf (.reg [] 23)) .leaf) .leaf)))) .leaf))) .leaf))) .leaf) .leaf))) .leaf))) .leaf) .leaf)))) .leaf))) .leaf)) (.two (.reg [] 5) (.two (.two .leaf (.two (.loop ⟨[(2, .same (.ptr K13 4098 [])), (3, .same (.ptr K23 8195 [])), (4, .same (.ptr K11 36868 [])), (13, .dv (Ty.int .i64))], [(4098, .one K13 (.dv K13)), (8195, .keep K23 3), (36868, .keep K11 4)], []⟩ [(.exit 0, ⟨[(2, .same (.ptr K13 4098 []))], [(4098, .one K13 (.dv K13))], []⟩)] (.two .leaf (.two .leaf (.two (.two (.two .leaf (.reg [] 7)) .leaf) .leaf)))) .leaf)) .leaf)))))
noncomputable def F25 (lp : Lp) (call : Nat → List D → Option D) (a0 : D) : Option D :=
(call 18 [a0]).bind fun r1 =>
(D.asSl r1).bind fun l2 =>
(lp (β := Nat × List D) (fun (v3 : List D) =>
(D.bin .lss (v3.getD 0 (.bool false)) (D.int .i64 (l2.length))).bind fun x4 =>
(D.truth x4).bind fun b5 =>
 if b5 then ((D.asSl r1).bind fun l6 =>
(D.idx (v3.getD 0 (.bool false)) (l6.length)).bind fun i7 =>
(l6[i7]?).bind fun x8 =>
(lp (β := Nat × List D) (fun (v9 : List D) =>
(D.get x8 [2]).bind fun x10 =>
(D.asSl x10).bind fun l11 =>
(D.bin .lss (v9.getD 0 (.bool false)) (D.int .i64 (l11.length))).bind fun x12 =>
(D.truth x12).bind fun b13 =>
 if b13 then ((D.get a0 [0]).bind fun x14 =>
(D.get x8 [2]).bind fun x15 =>
(D.asSl x15).bind fun l16 =>
(D.idx (D.int .i64 0) (l16.length)).bind fun i17 =>
(l16[i17]?).bind fun x18 =>
(D.asSl x14).bind fun l19 =>
(D.idx x18 (l19.length)).bind fun i20 =>
(l19[i20]?).bind fun x21 =>
(D.get a0 [0]).bind fun x22 =>
(D.get x8 [2]).bind fun x23 =>
(D.bin .sub (v9.getD 0 (.bool false)) (D.int .i64 1)).bind fun x24 =>
(D.asSl x23).bind fun l25 =>
(D.idx x24 (l25.length)).bind fun i26 =>
(l25[i26]?).bind fun x27 =>
(D.asSl x22).bind fun l28 =>
(D.idx x27 (l28.length)).bind fun i29 =>
(l28[i29]?).bind fun x30 =>
(D.get a0 [0]).bind fun x31 =>
(D.get x8 [2]).bind fun x32 =>
(D.asSl x32).bind fun l33 =>
(D.idx (v9.getD 0 (.bool false)) (l33.length)).bind fun i34 =>
(l33[i34]?).bind fun x35 =>
(D.asSl x31).bind fun l36 =>
(D.idx x35 (l36.length)).bind fun i37 =>
(l36[i37]?).bind fun x38 =>
(call 117 [x21, x30]).bind fun r39 =>
(call 91 [r39, x38]).bind fun r40 =>
(lp (β := Nat × List D) (fun (v41 : List D) =>
(D.bin .lss (v41.getD 0 (.bool false)) (D.int .i64 3)).bind fun x42 =>
(D.truth x42).bind fun b43 =>
 if b43 then ((D.idx (v41.getD 0 (.bool false)) 3).bind fun i44 =>
(D.get (v41.getD 3 (.bool false)) [i44]).bind fun x45 =>
(D.idx (v41.getD 0 (.bool false)) 3).bind fun i46 =>
(D.get x21 [i46]).bind fun x47 =>
(D.idx (v41.getD 0 (.bool false)) 3).bind fun i48 =>
(D.get x30 [i48]).bind fun x49 =>
(D.bin .add x47 x49).bind fun x50 =>
(D.idx (v41.getD 0 (.bool false)) 3).bind fun i51 =>
(D.get x38 [i51]).bind fun x52 =>
(D.bin .add x50 x52).bind fun x53 =>
(call 54 [x53]).bind fun r54 =>
(call 61 [r40, r54]).bind fun r55 =>
(call 57 [x45, r55]).bind fun r56 =>
(D.idx (v41.getD 0 (.bool false)) 3).bind fun i57 =>
(D.set (v41.getD 3 (.bool false)) [i57] r56).bind fun x58 =>
(D.bin .add (v41.getD 0 (.bool false)) (D.int .i64 1)).bind fun x59 =>
 some (Sum.inl [x59, (v41.getD 1 (.bool false)), (v41.getD 2 (.bool false)), x58, (v41.getD 4 (.bool false)), (v41.getD 5 (.bool false)), (v41.getD 6 (.bool false))])) else (some (Sum.inr (0, [(v41.getD 1 (.bool false)), (v41.getD 2 (.bool false)), (v41.getD 3 (.bool false)), (v41.getD 4 (.bool false)), (v41.getD 5 (.bool false)), (v41.getD 6 (.bool false))])))) [(D.int .i64 0), (v9.getD 1 (.bool false)), (v9.getD 2 (.bool false)), (v9.getD 3 (.bool false)), a0, x8, (D.st [x21, x30, x38])]).bind fun r60 =>
(D.bin .add (v9.getD 0 (.bool false)) (D.int .i64 1)).bind fun x61 =>
 some (Sum.inl [x61, (r60.2.getD 0 (.bool false)), (r60.2.getD 1 (.bool false)), (r60.2.getD 2 (.bool false))])) else (some (Sum.inr (0, [(v9.getD 1 (.bool false)), (v9.getD 2 (.bool false)), (v9.getD 3 (.bool false))])))) [(D.int .i64 2), (v3.getD 1 (.bool false)), (v3.getD 2 (.bool false)), (v3.getD 3 (.bool false))]).bind fun r62 =>
(D.bin .add (v3.getD 0 (.bool false)) (D.int .i64 1)).bind fun x63 =>
 some (Sum.inl [x63, (r62.2.getD 0 (.bool false)), (r62.2.getD 1 (.bool false)), (r62.2.getD 2 (.bool false))])) else (some (Sum.inr (0, [(v3.getD 1 (.bool false)), (v3.getD 2 (.bool false)), (v3.getD 3 (.bool false))])))) [(D.int .i64 0), a0, (D.st [(D.st [(D.st [(D.bool false), (D.bool false), (zeroD K10)]), (D.st [(D.bool false), (D.bool false), (zeroD K10)])]), (D.st [(D.st [(D.bool false), (D.bool false), (zeroD K10)]), (D.st [(D.bool false), (D.bool false), (zeroD K10)])]), (D.st [(D.st [(D.bool false), (D.bool false), (zeroD K10)]), (D.st [(D.bool false), (D.bool false), (zeroD K10)])])]), (D.st [(D.st [(D.bool false), (D.bool false), (zeroD K10)]), (D.st [(D.bool false), (D.bool false), (zeroD K10)]), (D.st [(D.bool false), (D.bool false), (zeroD K10)])])]).bind fun r64 =>
(call 54 [(D.int .i64 4)]).bind fun r65 =>
(call 23 [(r64.2.getD 0 (.bool false))]).bind fun r66 =>
(call 61 [r65, r66]).bind fun r67 =>
(lp (β := Nat × List D) (fun (v68 : List D) =>
(D.bin .lss (v68.getD 0 (.bool false)) (D.int .i64 3)).bind fun x69 =>
(D.truth x69).bind fun b70 =>
 if b70 then ((D.idx (v68.getD 0 (.bool false)) 3).bind fun i71 =>
(D.get (r64.2.getD 2 (.bool false)) [i71]).bind fun x72 =>
(call 62 [x72, r67]).bind fun r73 =>
(D.idx (v68.getD 0 (.bool false)) 3).bind fun i74 =>
(D.set (v68.getD 1 (.bool false)) [i74] r73).bind fun x75 =>
(D.bin .add (v68.getD 0 (.bool false)) (D.int .i64 1)).bind fun x76 =>
 some (Sum.inl [x76, x75])) else (some (Sum.inr (0, [(v68.getD 1 (.bool false))])))) [(D.int .i64 0), (r64.2.getD 1 (.bool false))]).bind fun r77 =>
 some (r77.2.getD 0 (.bool false))
theorem E25 (lp : Lp) (call : Nat → List D → Option D) (a0 : D) : evF (envOf lp call (inlP lp call)) Tryz.f25 A25 [K3] K13 [a0] = F25 lp call a0 := by kernel_rfl
theorem L25 {lp : Lp} (hlp : LpOk lp) : leafOk 25 (fun call xs => match xs with | [a0] => F25 lp call a0 | _ => none) :=
  leaf1 hlp (by kernel_rfl) (by kernel_rfl) (by kernel_rfl) (fun call a0 => E25 lp call a0)
/- skewback/skewbacklaw12.same -/
def A27 : Ann := (.two .leaf (.two .leaf (.two (.two .leaf (.two (.loop ⟨[(2, .same (.ptr K15 4098 [])), (3, .same (.ptr K15 4099 [])), (5, .dv (Ty.int .i64))], [(4098, .keep K15 2), (4099, .keep K15 3)], []⟩ [(.ret, ⟨[(4, .dv Ty.bool)], [], []⟩), (.exit 0, ⟨[], [], []⟩)] (.two .leaf (.two (.two (.two (.reg [] 10) .leaf) .leaf) .leaf))) .leaf)) .leaf)))
noncomputable def F27 (lp : Lp) (call : Nat → List D → Option D) (a0 : D) (a1 : D) : Option D :=
(D.get a0 [0]).bind fun x1 =>
(D.get a1 [0]).bind fun x2 =>
(D.truth (D.bool (!(D.beq x1 x2)))).bind fun b3 =>
(if b3 then (some true) else ((D.get a0 [1]).bind fun x4 =>
(D.get a1 [1]).bind fun x5 =>
 D.truth (D.bool (!(D.beq x4 x5))))).bind fun b6 =>
(D.truth (D.bool b6)).bind fun b7 =>
(if b7 then (some true) else ((D.get a0 [2]).bind fun x8 =>
(D.asSl x8).bind fun l9 =>
(D.get a1 [2]).bind fun x10 =>
(D.asSl x10).bind fun l11 =>
 D.truth (D.bool (!(D.beq (D.int .i64 (l9.length)) (D.int .i64 (l11.length))))))).bind fun b12 =>
(D.truth (D.bool b12)).bind fun b13 =>
 if b13 then (some (D.bool false)) else ((lp (β := Nat × List D) (fun (v14 : List D) =>
(D.get a0 [2]).bind fun x15 =>
(D.asSl x15).bind fun l16 =>
(D.bin .lss (v14.getD 0 (.bool false)) (D.int .i64 (l16.length))).bind fun x17 =>
(D.truth x17).bind fun b18 =>
 if b18 then ((D.get a0 [2]).bind fun x19 =>
(D.asSl x19).bind fun l20 =>
(D.idx (v14.getD 0 (.bool false)) (l20.length)).bind fun i21 =>
(l20[i21]?).bind fun x22 =>
(D.get a1 [2]).bind fun x23 =>
(D.asSl x23).bind fun l24 =>
(D.idx (v14.getD 0 (.bool false)) (l24.length)).bind fun i25 =>
(l24[i25]?).bind fun x26 =>
(D.truth (D.bool (!(D.beq x22 x26)))).bind fun b27 =>
 if b27 then (some (Sum.inr (0, [(D.bool false)]))) else ((D.bin .add (v14.getD 0 (.bool false)) (D.int .i64 1)).bind fun x28 =>
 some (Sum.inl [x28]))) else (some (Sum.inr (1, [])))) [(D.int .i64 0)]).bind fun r29 =>
 if r29.1 = 0 then (some (r29.2.getD 0 (.bool false))) else (some (D.bool true)))
theorem E27 (lp : Lp) (call : Nat → List D → Option D) (a0 : D) (a1 : D) : evF (envOf lp call (inlP lp call)) Tryz.f27 A27 [K15, K15] Ty.bool [a0, a1] = F27 lp call a0 a1 := by kernel_rfl
theorem L27 {lp : Lp} (hlp : LpOk lp) : leafOk 27 (fun call xs => match xs with | [a0, a1] => F27 lp call a0 a1 | _ => none) :=
  leaf2 hlp (by kernel_rfl) (by kernel_rfl) (by kernel_rfl) (fun call a0 a1 => E27 lp call a0 a1)
/- skewback/hull.Inertia -/
def A28 : Ann := (.two .leaf (.two .leaf (.two (.regI [] 3 (.two (.two .leaf (.two .leaf (.two (.loop ⟨[(1, .same (.clo 67 [(.ptr K24 8195 [])])), (2, .same (.ptr K3 20482 [])), (11, .dv (Ty.int .i64))], [(4097, .one K3 (.dv K3)), (4098, .one K15 (.st [(Ty.int .i64), (Ty.int .i64), K14] [.dv (Ty.int .i64), .dv (Ty.int .i64), .ow K12])), (8195, .one K24 (.dv K24)), (20482, .keep K3 2)], [9, 10]⟩ [(.exit 0, ⟨[], [(4097, .one K3 (.dv K3)), (4098, .one K15 (.st [(Ty.int .i64), (Ty.int .i64), K14] [.dv (Ty.int .i64), .dv (Ty.int .i64), .ow K12])), (8195, .one K24 (.dv K24))], []⟩)] (.two .leaf (.two .leaf (.two (.two (.two .leaf (.two .leaf (.two (.loop ⟨[(1, .same (.clo 67 [(.ptr K24 8195 [])])), (2, .same (.ptr K3 20482 [])), (5, .same (.ptr K6 36869 [])), (6, .dv (Ty.int .i64))], [(4097, .one K3 (.dv K3)), (4098, .one K15 (.st [(Ty.int .i64), (Ty.int .i64), K14] [.dv (Ty.int .i64), .dv (Ty.int .i64), .ow K12])), (8195, .one K24 (.dv K24)), (20482, .keep K3 2), (36869, .keep K6 5)], [9, 10, 11]⟩ [(.exit 2, ⟨[(1, .same (.clo 67 [(.ptr K24 8195 [])])), (2, .same (.ptr K3 20482 []))], [(4097, .one K3 (.dv K3)), (4098, .one K15 (.st [(Ty.int .i64), (Ty.int .i64), K14] [.dv (Ty.int .i64), .dv (Ty.int .i64), .ow K12])), (8195, .one K24 (.dv K24)), (20482, .keep K3 2)], [9, 10, 11]⟩)] (.two .leaf (.two (.two (.two (.reg [] 29) (.regI [] 10 (.two (.two .leaf (.two .leaf (.two (.loop ⟨[(2, .same (.ptr K24 8195 [])), (3, .same (.ptr K11 65539 [])), (4, .same (.ptr K20 65540 [])), (10, .dv (Ty.int .i64))], [(4097, .one K3 (.dv K3)), (4098, .one K15 (.st [(Ty.int .i64), (Ty.int .i64), K14] [.dv (Ty.int .i64), .dv (Ty.int .i64), .ow K12])), (8195, .one K24 (.dv K24)), (20482, .one K3 (.dv K3)), (36869, .one K6 (.dv K6)), (53255, .one K20 (.dv K20)), (65539, .keep K11 3), (65540, .keep K20 4)], []⟩ [(.exit 0, ⟨[], [(4097, .one K3 (.dv K3)), (4098, .one K15 (.st [(Ty.int .i64), (Ty.int .i64), K14] [.dv (Ty.int .i64), .dv (Ty.int .i64), .ow K12])), (8195, .one K24 (.dv K24)), (20482, .one K3 (.dv K3)), (36869, .one K6 (.dv K6)), (53255, .one K20 (.dv K20))], []⟩)] (.two .leaf (.two .leaf (.two (.two (.two .leaf (.two .leaf (.two (.loop ⟨[(2, .same (.ptr K24 8195 [])), (3, .same (.ptr K11 65539 [])), (4, .same (.ptr K20 65540 [])), (13, .dv (Ty.int .i64))], [(4097, .one K3 (.dv K3)), (4098, .one K15 (.st [(Ty.int .i64), (Ty.int .i64), K14] [.dv (Ty.int .i64), .dv (Ty.int .i64), .ow K12])), (8195, .one K24 (.dv K24)), (20482, .one K3 (.dv K3)), (36869, .one K6 (.dv K6)), (53255, .one K20 (.dv K20)), (65539, .keep K11 3), (65540, .keep K20 4)], [5, 10]⟩ [(.exit 2, ⟨[(2, .same (.ptr K24 8195 [])), (3, .same (.ptr K11 65539 [])), (4, .same (.ptr K20 65540 []))], [(4097, .one K3 (.dv K3)), (4098, .one K15 (.st [(Ty.int .i64), (Ty.int .i64), K14] [.dv (Ty.int .i64), .dv (Ty.int .i64), .ow K12])), (8195, .one K24 (.dv K24)), (20482, .one K3 (.dv K3)), (36869, .one K6 (.dv K6)), (53255, .one K20 (.dv K20)), (65539, .keep K11 3), (65540, .keep K20 4)], [10]⟩)] (.two .leaf (.two .leaf (.two (.two (.two .leaf (.two (.reg [] 29) (.two (.two .leaf (.two (.loop ⟨[(2, .same (.ptr K24 8195 [])), (3, .same (.ptr K11 65539 [])), (4, .same (.ptr K20 65540 [])), (7, .dv (Ty.int .i64)), (46, .dv (Ty.int .i64))], [(4097, .one K3 (.dv K3)), (4098, .one K15 (.st [(Ty.int .i64), (Ty.int .i64), K14] [.dv (Ty.int .i64), .dv (Ty.int .i64), .ow K12])), (8195, .keep K24 2), (20482, .one K3 (.dv K3)), (36869, .one K6 (.dv K6)), (53255, .one K20 (.dv K20)), (65539, .keep K11 3), (65540, .keep K20 4)], [5, 6, 10, 13, 45]⟩ [(.exit 4, ⟨[(2, .same (.ptr K24 8195 [])), (3, .same (.ptr K11 65539 [])), (4, .same (.ptr K20 65540 [])), (7, .dv (Ty.int .i64))], [(4097, .one K3 (.dv K3)), (4098, .one K15 (.st [(Ty.int .i64), (Ty.int .i64), K14] [.dv (Ty.int .i64), .dv (Ty.int .i64), .ow K12])), (8195, .keep K24 2), (20482, .one K3 (.dv K3)), (36869, .one K6 (.dv K6)), (53255, .one K20 (.dv K20)), (65539, .keep K11 3), (65540, .keep K20 4)], [5, 6, 10, 13]⟩)] (.two .leaf (.two .leaf (.two (.two (.two .leaf (.reg [] 9)) .leaf) .leaf)))) .leaf)) (.reg [] 14)))) .leaf) .leaf)))) .leaf))) .leaf) .leaf)))) .leaf))) .leaf))) .leaf) .leaf))) .leaf))) .leaf) .leaf)))) .leaf))) .leaf)) (.two (.reg [] 12) (.two .leaf (.two (.two .leaf (.two (.loop ⟨[(2, .same (.ptr K15 4098 [])), (3, .same (.ptr K24 8195 [])), (4, .same (.ptr K11 36868 [])), (5, .same (.ptr K15 40965 [])), (24, .dv (Ty.int .i64))], [(4098, .one K15 (.st [(Ty.int .i64), (Ty.int .i64), K14] [.dv (Ty.int .i64), .dv (Ty.int .i64), .ow K12])), (8195, .keep K24 3), (36868, .keep K11 4), (40965, .one K15 (.st [(Ty.int .i64), (Ty.int .i64), K14] [.dv (Ty.int .i64), .dv (Ty.int .i64), .ow K12]))], []⟩ [(.exit 0, ⟨[(2, .same (.ptr K15 4098 [])), (5, .same (.ptr K15 40965 []))], [(4098, .one K15 (.st [(Ty.int .i64), (Ty.int .i64), K14] [.dv (Ty.int .i64), .dv (Ty.int .i64), .ow K12])), (40965, .one K15 (.st [(Ty.int .i64), (Ty.int .i64), K14] [.dv (Ty.int .i64), .dv (Ty.int .i64), .ow K12]))], []⟩)] (.two .leaf (.two .leaf (.two (.two (.two .leaf (.two .leaf (.two (.loop ⟨[(2, .same (.ptr K15 4098 [])), (3, .same (.ptr K24 8195 [])), (4, .same (.ptr K11 36868 [])), (5, .same (.ptr K15 40965 [])), (27, .dv (Ty.int .i64))], [(4098, .one K15 (.st [(Ty.int .i64), (Ty.int .i64), K14] [.dv (Ty.int .i64), .dv (Ty.int .i64), .ow K12])), (8195, .keep K24 3), (36868, .keep K11 4), (40965, .one K15 (.st [(Ty.int .i64), (Ty.int .i64), K14] [.dv (Ty.int .i64), .dv (Ty.int .i64), .ow K12]))], [6, 24]⟩ [(.exit 2, ⟨[(2, .same (.ptr K15 4098 [])), (3, .same (.ptr K24 8195 [])), (4, .same (.ptr K11 36868 [])), (5, .same (.ptr K15 40965 []))], [(4098, .one K15 (.st [(Ty.int .i64), (Ty.int .i64), K14] [.dv (Ty.int .i64), .dv (Ty.int .i64), .ow K12])), (8195, .keep K24 3), (36868, .keep K11 4), (40965, .one K15 (.st [(Ty.int .i64), (Ty.int .i64), K14] [.dv (Ty.int .i64), .dv (Ty.int .i64), .ow K12]))], [24]⟩)] (.two .leaf (.two .leaf (.two (.two (.two .leaf (.two .leaf (.cut [(.normal, ⟨[(2, .same (.ptr K15 4098 [])), (3, .same (.ptr K24 8195 [])), (4, .same (.ptr K11 36868 [])), (5, .same (.ptr K15 40965 [])), (8, .same (.ptr K11 77832 []))], [(4098, .one K15 (.st [(Ty.int .i64), (Ty.int .i64), K14] [.dv (Ty.int .i64), .dv (Ty.int .i64), .ow K12])), (8195, .keep K24 3), (36868, .keep K11 4), (40965, .one K15 (.st [(Ty.int .i64), (Ty.int .i64), K14] [.dv (Ty.int .i64), .dv (Ty.int .i64), .ow K12])), (77832, .one K11 (.dv K11))], [6, 24, 27]⟩)] [6, 24, 27] [8195, 36868] .leaf (.reg [] 6)))) .leaf) .leaf)))) .leaf))) .leaf) .leaf)))) .leaf)) .leaf))))))
noncomputable def F28 (lp : Lp) (call : Nat → List D → Option D) (a0 : D) : Option D :=
(call 18 [a0]).bind fun r1 =>
(D.asSl r1).bind fun l2 =>
(lp (β := Nat × List D) (fun (v3 : List D) =>
(D.bin .lss (v3.getD 0 (.bool false)) (D.int .i64 (l2.length))).bind fun x4 =>
(D.truth x4).bind fun b5 =>
 if b5 then ((D.asSl r1).bind fun l6 =>
(D.idx (v3.getD 0 (.bool false)) (l6.length)).bind fun i7 =>
(l6[i7]?).bind fun x8 =>
(lp (β := Nat × List D) (fun (v9 : List D) =>
(D.get x8 [2]).bind fun x10 =>
(D.asSl x10).bind fun l11 =>
(D.bin .lss (v9.getD 0 (.bool false)) (D.int .i64 (l11.length))).bind fun x12 =>
(D.truth x12).bind fun b13 =>
 if b13 then ((D.get a0 [0]).bind fun x14 =>
(D.get x8 [2]).bind fun x15 =>
(D.asSl x15).bind fun l16 =>
(D.idx (D.int .i64 0) (l16.length)).bind fun i17 =>
(l16[i17]?).bind fun x18 =>
(D.asSl x14).bind fun l19 =>
(D.idx x18 (l19.length)).bind fun i20 =>
(l19[i20]?).bind fun x21 =>
(D.get a0 [0]).bind fun x22 =>
(D.get x8 [2]).bind fun x23 =>
(D.bin .sub (v9.getD 0 (.bool false)) (D.int .i64 1)).bind fun x24 =>
(D.asSl x23).bind fun l25 =>
(D.idx x24 (l25.length)).bind fun i26 =>
(l25[i26]?).bind fun x27 =>
(D.asSl x22).bind fun l28 =>
(D.idx x27 (l28.length)).bind fun i29 =>
(l28[i29]?).bind fun x30 =>
(D.get a0 [0]).bind fun x31 =>
(D.get x8 [2]).bind fun x32 =>
(D.asSl x32).bind fun l33 =>
(D.idx (v9.getD 0 (.bool false)) (l33.length)).bind fun i34 =>
(l33[i34]?).bind fun x35 =>
(D.asSl x31).bind fun l36 =>
(D.idx x35 (l36.length)).bind fun i37 =>
(l36[i37]?).bind fun x38 =>
(call 117 [x21, x30]).bind fun r39 =>
(call 91 [r39, x38]).bind fun r40 =>
(lp (β := Nat × List D) (fun (v41 : List D) =>
(D.bin .lss (v41.getD 0 (.bool false)) (D.int .i64 3)).bind fun x42 =>
(D.truth x42).bind fun b43 =>
 if b43 then ((lp (β := Nat × List D) (fun (v44 : List D) =>
(D.bin .lss (v44.getD 0 (.bool false)) (D.int .i64 3)).bind fun x45 =>
(D.truth x45).bind fun b46 =>
 if b46 then ((D.idx (v41.getD 0 (.bool false)) 3).bind fun i47 =>
(D.get x21 [i47]).bind fun x48 =>
(D.idx (v41.getD 0 (.bool false)) 3).bind fun i49 =>
(D.get x30 [i49]).bind fun x50 =>
(D.bin .add x48 x50).bind fun x51 =>
(D.idx (v41.getD 0 (.bool false)) 3).bind fun i52 =>
(D.get x38 [i52]).bind fun x53 =>
(D.bin .add x51 x53).bind fun x54 =>
(D.idx (v44.getD 0 (.bool false)) 3).bind fun i55 =>
(D.get x21 [i55]).bind fun x56 =>
(D.idx (v44.getD 0 (.bool false)) 3).bind fun i57 =>
(D.get x30 [i57]).bind fun x58 =>
(D.bin .add x56 x58).bind fun x59 =>
(D.idx (v44.getD 0 (.bool false)) 3).bind fun i60 =>
(D.get x38 [i60]).bind fun x61 =>
(D.bin .add x59 x61).bind fun x62 =>
(D.bin .mul x54 x62).bind fun x63 =>
(lp (β := Nat × List D) (fun (v64 : List D) =>
(D.bin .lss (v64.getD 1 (.bool false)) (D.int .i64 3)).bind fun x65 =>
(D.truth x65).bind fun b66 =>
 if b66 then ((D.idx (v64.getD 1 (.bool false)) 3).bind fun i67 =>
(D.fld (D.st [x21, x30, x38]) i67).bind fun x68 =>
(D.idx (v41.getD 0 (.bool false)) 3).bind fun i69 =>
(D.get x68 [i69]).bind fun x70 =>
(D.idx (v44.getD 0 (.bool false)) 3).bind fun i71 =>
(D.get x68 [i71]).bind fun x72 =>
(D.bin .mul x70 x72).bind fun x73 =>
(D.bin .add (v64.getD 0 (.bool false)) x73).bind fun x74 =>
(D.bin .add (v64.getD 1 (.bool false)) (D.int .i64 1)).bind fun x75 =>
 some (Sum.inl [x74, x75, (v64.getD 2 (.bool false)), (v64.getD 3 (.bool false)), (v64.getD 4 (.bool false)), (D.sl ((v64.getD 5 (.bool false)).els)), (v64.getD 6 (.bool false)), (v64.getD 7 (.bool false)), (v64.getD 8 (.bool false))])) else (some (Sum.inr (0, [(v64.getD 0 (.bool false)), (v64.getD 2 (.bool false)), (v64.getD 3 (.bool false)), (v64.getD 4 (.bool false)), (D.sl ((v64.getD 5 (.bool false)).els)), (v64.getD 6 (.bool false)), (v64.getD 7 (.bool false)), (v64.getD 8 (.bool false))])))) [x63, (D.int .i64 0), (v44.getD 1 (.bool false)), (v44.getD 2 (.bool false)), (v44.getD 3 (.bool false)), (D.sl ((v44.getD 4 (.bool false)).els)), (v44.getD 6 (.bool false)), (v44.getD 7 (.bool false)), (v44.getD 8 (.bool false))]).bind fun r76 =>
(D.idx (v41.getD 0 (.bool false)) 3).bind fun i77 =>
(D.idx (v44.getD 0 (.bool false)) 3).bind fun i78 =>
(D.get (v44.getD 5 (.bool false)) [i77, i78]).bind fun x79 =>
(call 54 [(r76.2.getD 0 (.bool false))]).bind fun r80 =>
(call 61 [r40, r80]).bind fun r81 =>
(call 57 [x79, r81]).bind fun r82 =>
(D.idx (v41.getD 0 (.bool false)) 3).bind fun i83 =>
(D.idx (v44.getD 0 (.bool false)) 3).bind fun i84 =>
(D.set (v44.getD 5 (.bool false)) [i83, i84] r82).bind fun x85 =>
(D.bin .add (v44.getD 0 (.bool false)) (D.int .i64 1)).bind fun x86 =>
 some (Sum.inl [x86, (r76.2.getD 1 (.bool false)), (r76.2.getD 2 (.bool false)), (r76.2.getD 3 (.bool false)), (D.sl ((r76.2.getD 4 (.bool false)).els)), x85, (r76.2.getD 5 (.bool false)), (r76.2.getD 6 (.bool false)), (r76.2.getD 7 (.bool false))])) else (some (Sum.inr (0, [(v44.getD 1 (.bool false)), (v44.getD 2 (.bool false)), (v44.getD 3 (.bool false)), (D.sl ((v44.getD 4 (.bool false)).els)), (v44.getD 5 (.bool false)), (v44.getD 6 (.bool false)), (v44.getD 7 (.bool false)), (v44.getD 8 (.bool false))])))) [(D.int .i64 0), (v41.getD 1 (.bool false)), (v41.getD 2 (.bool false)), (v41.getD 3 (.bool false)), (D.sl ((v41.getD 4 (.bool false)).els)), (v41.getD 5 (.bool false)), (v41.getD 6 (.bool false)), (v41.getD 7 (.bool false)), (v41.getD 8 (.bool false))]).bind fun r87 =>
(D.bin .add (v41.getD 0 (.bool false)) (D.int .i64 1)).bind fun x88 =>
 some (Sum.inl [x88, (r87.2.getD 0 (.bool false)), (r87.2.getD 1 (.bool false)), (r87.2.getD 2 (.bool false)), (D.sl ((r87.2.getD 3 (.bool false)).els)), (r87.2.getD 4 (.bool false)), (r87.2.getD 5 (.bool false)), (r87.2.getD 6 (.bool false)), (r87.2.getD 7 (.bool false))])) else (some (Sum.inr (0, [(v41.getD 1 (.bool false)), (v41.getD 2 (.bool false)), (v41.getD 3 (.bool false)), (D.sl ((v41.getD 4 (.bool false)).els)), (v41.getD 5 (.bool false)), (v41.getD 6 (.bool false)), (v41.getD 7 (.bool false)), (v41.getD 8 (.bool false))])))) [(D.int .i64 0), (v9.getD 1 (.bool false)), (v9.getD 2 (.bool false)), (v9.getD 3 (.bool false)), (D.sl ((v9.getD 4 (.bool false)).els)), (v9.getD 5 (.bool false)), a0, x8, (D.st [x21, x30, x38])]).bind fun r89 =>
(D.bin .add (v9.getD 0 (.bool false)) (D.int .i64 1)).bind fun x90 =>
 some (Sum.inl [x90, (r89.2.getD 0 (.bool false)), (r89.2.getD 1 (.bool false)), (r89.2.getD 2 (.bool false)), (D.sl ((r89.2.getD 3 (.bool false)).els)), (r89.2.getD 4 (.bool false))])) else (some (Sum.inr (0, [(v9.getD 1 (.bool false)), (v9.getD 2 (.bool false)), (v9.getD 3 (.bool false)), (D.sl ((v9.getD 4 (.bool false)).els)), (v9.getD 5 (.bool false))])))) [(D.int .i64 2), (v3.getD 1 (.bool false)), (v3.getD 2 (.bool false)), (v3.getD 3 (.bool false)), (D.sl ((v3.getD 4 (.bool false)).els)), (v3.getD 5 (.bool false))]).bind fun r91 =>
(D.bin .add (v3.getD 0 (.bool false)) (D.int .i64 1)).bind fun x92 =>
 some (Sum.inl [x92, (r91.2.getD 0 (.bool false)), (r91.2.getD 1 (.bool false)), (r91.2.getD 2 (.bool false)), (D.sl ((r91.2.getD 3 (.bool false)).els)), (r91.2.getD 4 (.bool false))])) else (some (Sum.inr (0, [(v3.getD 1 (.bool false)), (v3.getD 2 (.bool false)), (v3.getD 3 (.bool false)), (D.sl ((v3.getD 4 (.bool false)).els)), (v3.getD 5 (.bool false))])))) [(D.int .i64 0), a0, (D.int .i64 0), (D.int .i64 0), (D.sl []), (D.st [(D.st [(D.st [(D.bool false), (D.bool false), (zeroD K10)]), (D.st [(D.bool false), (D.bool false), (zeroD K10)]), (D.st [(D.bool false), (D.bool false), (zeroD K10)])]), (D.st [(D.st [(D.bool false), (D.bool false), (zeroD K10)]), (D.st [(D.bool false), (D.bool false), (zeroD K10)]), (D.st [(D.bool false), (D.bool false), (zeroD K10)])]), (D.st [(D.st [(D.bool false), (D.bool false), (zeroD K10)]), (D.st [(D.bool false), (D.bool false), (zeroD K10)]), (D.st [(D.bool false), (D.bool false), (zeroD K10)])])])]).bind fun r93 =>
(D.get (r93.2.getD 4 (.bool false)) [0, 0]).bind fun x94 =>
(D.get (r93.2.getD 4 (.bool false)) [1, 1]).bind fun x95 =>
(call 57 [x94, x95]).bind fun r96 =>
(D.get (r93.2.getD 4 (.bool false)) [2, 2]).bind fun x97 =>
(call 57 [r96, x97]).bind fun r98 =>
(lp (β := Nat × List D) (fun (v99 : List D) =>
(D.bin .lss (v99.getD 0 (.bool false)) (D.int .i64 3)).bind fun x100 =>
(D.truth x100).bind fun b101 =>
 if b101 then ((lp (β := Nat × List D) (fun (v102 : List D) =>
(D.bin .lss (v102.getD 0 (.bool false)) (D.int .i64 3)).bind fun x103 =>
(D.truth x103).bind fun b104 =>
 if b104 then ((D.idx (v99.getD 0 (.bool false)) 3).bind fun i105 =>
(D.idx (v102.getD 0 (.bool false)) 3).bind fun i106 =>
(D.get (r93.2.getD 4 (.bool false)) [i105, i106]).bind fun x107 =>
(call 68 [x107]).bind fun r108 =>
((D.truth (D.bool (D.beq (v99.getD 0 (.bool false)) (v102.getD 0 (.bool false))))).bind fun b109 =>
 if b109 then ((call 57 [r108, r98]).bind fun r110 =>
 some (0, [(v102.getD 1 (.bool false)), (v102.getD 2 (.bool false)), (D.sl ((v102.getD 3 (.bool false)).els)), (v102.getD 4 (.bool false)), (v102.getD 5 (.bool false)), (D.sl ((v102.getD 6 (.bool false)).els)), r110])) else (some (0, [(v102.getD 1 (.bool false)), (v102.getD 2 (.bool false)), (D.sl ((v102.getD 3 (.bool false)).els)), (v102.getD 4 (.bool false)), (v102.getD 5 (.bool false)), (D.sl ((v102.getD 6 (.bool false)).els)), r108]))).bind fun (r111 : Nat × List D) =>
(call 54 [(D.int .i64 120)]).bind fun r112 =>
(call 62 [(r111.2.getD 6 (.bool false)), r112]).bind fun r113 =>
 if List.length ((r111.2.getD 5 (.bool false)).els) + List.length [r113] ≤ 1073741824 then ((D.bin .add (v102.getD 0 (.bool false)) (D.int .i64 1)).bind fun x114 =>
 some (Sum.inl [x114, (r111.2.getD 0 (.bool false)), (r111.2.getD 1 (.bool false)), (D.sl ((r111.2.getD 2 (.bool false)).els)), (r111.2.getD 3 (.bool false)), (r111.2.getD 4 (.bool false)), (D.sl (((r111.2.getD 5 (.bool false)).els) ++ [r113]))])) else none) else (some (Sum.inr (0, [(v102.getD 1 (.bool false)), (v102.getD 2 (.bool false)), (D.sl ((v102.getD 3 (.bool false)).els)), (v102.getD 4 (.bool false)), (v102.getD 5 (.bool false)), (D.sl ((v102.getD 6 (.bool false)).els))])))) [(D.int .i64 0), (v99.getD 1 (.bool false)), (v99.getD 2 (.bool false)), (D.sl ((v99.getD 3 (.bool false)).els)), (v99.getD 4 (.bool false)), (v99.getD 5 (.bool false)), (D.sl ((v99.getD 6 (.bool false)).els))]).bind fun r115 =>
(D.bin .add (v99.getD 0 (.bool false)) (D.int .i64 1)).bind fun x116 =>
 some (Sum.inl [x116, (r115.2.getD 0 (.bool false)), (r115.2.getD 1 (.bool false)), (D.sl ((r115.2.getD 2 (.bool false)).els)), (r115.2.getD 3 (.bool false)), (r115.2.getD 4 (.bool false)), (D.sl ((r115.2.getD 5 (.bool false)).els))])) else (some (Sum.inr (0, [(v99.getD 1 (.bool false)), (v99.getD 2 (.bool false)), (D.sl ((v99.getD 3 (.bool false)).els)), (v99.getD 4 (.bool false)), (v99.getD 5 (.bool false)), (D.sl ((v99.getD 6 (.bool false)).els))])))) [(D.int .i64 0), (r93.2.getD 1 (.bool false)), (r93.2.getD 2 (.bool false)), (D.sl ((r93.2.getD 3 (.bool false)).els)), (D.int .i64 3), (D.int .i64 3), (D.sl [])]).bind fun r117 =>
 some (D.st [(r117.2.getD 3 (.bool false)), (r117.2.getD 4 (.bool false)), (D.sl ((r117.2.getD 5 (.bool false)).els))])
theorem E28 (lp : Lp) (call : Nat → List D → Option D) (a0 : D) : evF (envOf lp call (inlP lp call)) Tryz.f28 A28 [K3] K15 [a0] = F28 lp call a0 := by kernel_rfl
theorem L28 {lp : Lp} (hlp : LpOk lp) : leafOk 28 (fun call xs => match xs with | [a0] => F28 lp call a0 | _ => none) :=
  leaf1 hlp (by kernel_rfl) (by kernel_rfl) (by kernel_rfl) (fun call a0 => E28 lp call a0)
end Go.Proofs.YtjjjkojfijpeeaaGreat.Sy
end
