/- Part 7 of the proof that HullIsClosed answers true at every input -/
import Derived.Test.YtjjjkojfijpeeaaGreatClosed06
set_option linter.unusedVariables false
set_option linter.unusedSimpArgs false
set_option linter.unnecessarySimpa false
section
set_option maxRecDepth 20000
set_option maxHeartbeats 0
set_option linter.unusedVariables false
namespace Go.Proofs.YtjjjkojfijpeeaaGreat.Sy
open Go Go.Proofs
def A23 : Ann := (.two .leaf (.two .leaf (.two (.regI [] 3 (.two (.two .leaf (.two .leaf (.two (.loop ⟨[(1, .same (.clo 56 [(.ptr K11 8195 [])])), (2, .same (.ptr K3 20482 [])), (11, .dv (Ty.int .i64))], [(4097, .one K3 (.dv K3)), (4098, .one K11 (.dv K11)), (8195, .one K11 (.dv K11)), (20482, .keep K3 2)], [9, 10]⟩ [(.exit 0, ⟨[], [(4097, .one K3 (.dv K3)), (4098, .one K11 (.dv K11)), (8195, .one K11 (.dv K11))], []⟩)] (.two .leaf (.two .leaf (.two (.two (.two .leaf (.two .leaf (.two (.loop ⟨[(1, .same (.clo 56 [(.ptr K11 8195 [])])), (2, .same (.ptr K3 20482 [])), (5, .same (.ptr K6 36869 [])), (6, .dv (Ty.int .i64))], [(4097, .one K3 (.dv K3)), (4098, .one K11 (.dv K11)), (8195, .one K11 (.dv K11)), (20482, .keep K3 2), (36869, .keep K6 5)], [9, 10, 11]⟩ [(.exit 2, ⟨[(1, .same (.clo 56 [(.ptr K11 8195 [])])), (2, .same (.ptr K3 20482 []))], [(4097, .one K3 (.dv K3)), (4098, .one K11 (.dv K11)), (8195, .one K11 (.dv K11)), (20482, .keep K3 2)], [9, 10, 11]⟩)] (.two .leaf (.two (.two (.two (.reg [] 29) (.regI [] 10 (.two .leaf .leaf))) .leaf) .leaf))) .leaf))) .leaf) .leaf)))) .leaf))) .leaf)) .leaf)))
noncomputable def F23 (lp : Lp) (call : Nat -> List D -> Option D) (a0 : D) : Option D :=
(call 54 [(D.int .i64 0)]).bind fun r1 =>
(call 18 [a0]).bind fun r2 =>
(D.asSl r2).bind fun l3 =>
(lp (β := Nat × List D) (fun (v4 : List D) =>
(D.bin .lss (v4.getD 0 (.bool false)) (D.int .i64 (l3.length))).bind fun x5 =>
(D.truth x5).bind fun b6 =>
 if b6 then ((D.asSl r2).bind fun l7 =>
(D.idx (v4.getD 0 (.bool false)) (l7.length)).bind fun i8 =>
(l7[i8]?).bind fun x9 =>
(lp (β := Nat × List D) (fun (v10 : List D) =>
(D.get x9 [2]).bind fun x11 =>
(D.asSl x11).bind fun l12 =>
(D.bin .lss (v10.getD 0 (.bool false)) (D.int .i64 (l12.length))).bind fun x13 =>
(D.truth x13).bind fun b14 =>
 if b14 then ((D.get a0 [0]).bind fun x15 =>
(D.get x9 [2]).bind fun x16 =>
(D.asSl x16).bind fun l17 =>
(D.idx (D.int .i64 0) (l17.length)).bind fun i18 =>
(l17[i18]?).bind fun x19 =>
(D.asSl x15).bind fun l20 =>
(D.idx x19 (l20.length)).bind fun i21 =>
(l20[i21]?).bind fun x22 =>
(D.get a0 [0]).bind fun x23 =>
(D.get x9 [2]).bind fun x24 =>
(D.bin .sub (v10.getD 0 (.bool false)) (D.int .i64 1)).bind fun x25 =>
(D.asSl x24).bind fun l26 =>
(D.idx x25 (l26.length)).bind fun i27 =>
(l26[i27]?).bind fun x28 =>
(D.asSl x23).bind fun l29 =>
(D.idx x28 (l29.length)).bind fun i30 =>
(l29[i30]?).bind fun x31 =>
(D.get a0 [0]).bind fun x32 =>
(D.get x9 [2]).bind fun x33 =>
(D.asSl x33).bind fun l34 =>
(D.idx (v10.getD 0 (.bool false)) (l34.length)).bind fun i35 =>
(l34[i35]?).bind fun x36 =>
(D.asSl x32).bind fun l37 =>
(D.idx x36 (l37.length)).bind fun i38 =>
(l37[i38]?).bind fun x39 =>
(call 117 [x22, x31]).bind fun r40 =>
(call 91 [r40, x39]).bind fun r41 =>
(call 57 [(v10.getD 3 (.bool false)), r41]).bind fun r42 =>
(D.bin .add (v10.getD 0 (.bool false)) (D.int .i64 1)).bind fun x43 =>
 some (Sum.inl [x43, (v10.getD 1 (.bool false)), (v10.getD 2 (.bool false)), r42])) else (some (Sum.inr (0, [(v10.getD 1 (.bool false)), (v10.getD 2 (.bool false)), (v10.getD 3 (.bool false))])))) [(D.int .i64 2), (v4.getD 1 (.bool false)), (v4.getD 2 (.bool false)), (v4.getD 3 (.bool false))]).bind fun r44 =>
(D.bin .add (v4.getD 0 (.bool false)) (D.int .i64 1)).bind fun x45 =>
 some (Sum.inl [x45, (r44.2.getD 0 (.bool false)), (r44.2.getD 1 (.bool false)), (r44.2.getD 2 (.bool false))])) else (some (Sum.inr (0, [(v4.getD 1 (.bool false)), (v4.getD 2 (.bool false)), (v4.getD 3 (.bool false))])))) [(D.int .i64 0), a0, (D.st [(D.bool false), (D.bool false), (zeroD K10)]), r1]).bind fun r46 =>
 some (r46.2.getD 2 (.bool false))
theorem L23 {lp} (hlp : LpOk lp) : leafOk 23 (m1 (F23 lp)) := leaf1 (fn := Tryz.f23) (ann := A23) hlp (by kernel_rfl) (by kernel_rfl) (fun call a0 => by kernel_rfl)
def A25 : Ann := (.two .leaf (.two .leaf (.two (.regI [] 3 (.two (.two .leaf (.two .leaf (.two (.loop ⟨[(1, .same (.clo 60 [(.ptr K23 8195 [])])), (2, .same (.ptr K3 20482 [])), (11, .dv (Ty.int .i64))], [(4097, .one K3 (.dv K3)), (4098, .one K13 (.dv K13)), (8195, .one K23 (.dv K23)), (20482, .keep K3 2)], [9, 10]⟩ [(.exit 0, ⟨[], [(4097, .one K3 (.dv K3)), (4098, .one K13 (.dv K13)), (8195, .one K23 (.dv K23))], []⟩)] (.two .leaf (.two .leaf (.two (.two (.two .leaf (.two .leaf (.two (.loop ⟨[(1, .same (.clo 60 [(.ptr K23 8195 [])])), (2, .same (.ptr K3 20482 [])), (5, .same (.ptr K6 36869 [])), (6, .dv (Ty.int .i64))], [(4097, .one K3 (.dv K3)), (4098, .one K13 (.dv K13)), (8195, .one K23 (.dv K23)), (20482, .keep K3 2), (36869, .keep K6 5)], [9, 10, 11]⟩ [(.exit 2, ⟨[(1, .same (.clo 60 [(.ptr K23 8195 [])])), (2, .same (.ptr K3 20482 []))], [(4097, .one K3 (.dv K3)), (4098, .one K13 (.dv K13)), (8195, .one K23 (.dv K23)), (20482, .keep K3 2)], [9, 10, 11]⟩)] (.two .leaf (.two (.two (.two (.reg [] 29) (.regI [] 10 (.two (.two .leaf (.two .leaf (.two (.loop ⟨[(2, .same (.ptr K23 8195 [])), (3, .same (.ptr K11 65539 [])), (4, .same (.ptr K20 65540 [])), (6, .dv (Ty.int .i64))], [(4097, .one K3 (.dv K3)), (4098, .one K13 (.dv K13)), (8195, .one K23 (.dv K23)), (20482, .one K3 (.dv K3)), (36869, .one K6 (.dv K6)), (53255, .one K20 (.dv K20)), (65539, .keep K11 3), (65540, .keep K20 4)], []⟩ [(.exit 0, ⟨[], [(4097, .one K3 (.dv K3)), (4098, .one K13 (.dv K13)), (8195, .one K23 (.dv K23)), (20482, .one K3 (.dv K3)), (36869, .one K6 (.dv K6)), (53255, .one K20 (.dv K20))], []⟩)] (.two .leaf (.two .leaf (.two (.two (.two .leaf (.reg [] 23)) .leaf) .leaf)))) .leaf))) .leaf))) .leaf) .leaf))) .leaf))) .leaf) .leaf)))) .leaf))) .leaf)) (.two (.reg [] 5) (.two (.two .leaf (.two (.loop ⟨[(2, .same (.ptr K13 4098 [])), (3, .same (.ptr K23 8195 [])), (4, .same (.ptr K11 36868 [])), (13, .dv (Ty.int .i64))], [(4098, .one K13 (.dv K13)), (8195, .keep K23 3), (36868, .keep K11 4)], []⟩ [(.exit 0, ⟨[(2, .same (.ptr K13 4098 []))], [(4098, .one K13 (.dv K13))], []⟩)] (.two .leaf (.two .leaf (.two (.two (.two .leaf (.reg [] 7)) .leaf) .leaf)))) .leaf)) .leaf)))))
noncomputable def F25 (lp : Lp) (call : Nat -> List D -> Option D) (a0 : D) : Option D :=
(call 18 [a0]).bind fun r1 =>
(D.asSl r1).bind fun l2 =>
(lp (β := Nat × List D) (fun (v3 : List D) =>
(D.bin .lss (v3.getD 0 (.bool false)) (D.int .i64 (l2.length))).bind fun x4 =>
(D.truth x4).bind fun b5 =>
 if b5 then ((D.asSl r1).bind fun l6 =>
(D.idx (v3.getD 0 (.bool false)) (l6.length)).bind fun i7 =>
(l6[i7]?).bind fun x8 =>
(lp (β := Nat × List D) (fun (v9 : List D) =>
(D.get x8 [2]).bind fun x10 =>
(D.asSl x10).bind fun l11 =>
(D.bin .lss (v9.getD 0 (.bool false)) (D.int .i64 (l11.length))).bind fun x12 =>
(D.truth x12).bind fun b13 =>
 if b13 then ((D.get a0 [0]).bind fun x14 =>
(D.get x8 [2]).bind fun x15 =>
(D.asSl x15).bind fun l16 =>
(D.idx (D.int .i64 0) (l16.length)).bind fun i17 =>
(l16[i17]?).bind fun x18 =>
(D.asSl x14).bind fun l19 =>
(D.idx x18 (l19.length)).bind fun i20 =>
(l19[i20]?).bind fun x21 =>
(D.get a0 [0]).bind fun x22 =>
(D.get x8 [2]).bind fun x23 =>
(D.bin .sub (v9.getD 0 (.bool false)) (D.int .i64 1)).bind fun x24 =>
(D.asSl x23).bind fun l25 =>
(D.idx x24 (l25.length)).bind fun i26 =>
(l25[i26]?).bind fun x27 =>
(D.asSl x22).bind fun l28 =>
(D.idx x27 (l28.length)).bind fun i29 =>
(l28[i29]?).bind fun x30 =>
(D.get a0 [0]).bind fun x31 =>
(D.get x8 [2]).bind fun x32 =>
(D.asSl x32).bind fun l33 =>
(D.idx (v9.getD 0 (.bool false)) (l33.length)).bind fun i34 =>
(l33[i34]?).bind fun x35 =>
(D.asSl x31).bind fun l36 =>
(D.idx x35 (l36.length)).bind fun i37 =>
(l36[i37]?).bind fun x38 =>
(call 117 [x21, x30]).bind fun r39 =>
(call 91 [r39, x38]).bind fun r40 =>
(lp (β := Nat × List D) (fun (v41 : List D) =>
(D.bin .lss (v41.getD 0 (.bool false)) (D.int .i64 3)).bind fun x42 =>
(D.truth x42).bind fun b43 =>
 if b43 then ((D.idx (v41.getD 0 (.bool false)) 3).bind fun i44 =>
(D.get (v41.getD 3 (.bool false)) [i44]).bind fun x45 =>
(D.idx (v41.getD 0 (.bool false)) 3).bind fun i46 =>
(D.get x21 [i46]).bind fun x47 =>
(D.idx (v41.getD 0 (.bool false)) 3).bind fun i48 =>
(D.get x30 [i48]).bind fun x49 =>
(D.bin .add x47 x49).bind fun x50 =>
(D.idx (v41.getD 0 (.bool false)) 3).bind fun i51 =>
(D.get x38 [i51]).bind fun x52 =>
(D.bin .add x50 x52).bind fun x53 =>
(call 54 [x53]).bind fun r54 =>
(call 61 [r40, r54]).bind fun r55 =>
(call 57 [x45, r55]).bind fun r56 =>
(D.idx (v41.getD 0 (.bool false)) 3).bind fun i57 =>
(D.set (v41.getD 3 (.bool false)) [i57] r56).bind fun x58 =>
(D.bin .add (v41.getD 0 (.bool false)) (D.int .i64 1)).bind fun x59 =>
 some (Sum.inl [x59, (v41.getD 1 (.bool false)), (v41.getD 2 (.bool false)), x58, (v41.getD 4 (.bool false)), (v41.getD 5 (.bool false)), (v41.getD 6 (.bool false))])) else (some (Sum.inr (0, [(v41.getD 1 (.bool false)), (v41.getD 2 (.bool false)), (v41.getD 3 (.bool false)), (v41.getD 4 (.bool false)), (v41.getD 5 (.bool false)), (v41.getD 6 (.bool false))])))) [(D.int .i64 0), (v9.getD 1 (.bool false)), (v9.getD 2 (.bool false)), (v9.getD 3 (.bool false)), a0, x8, (D.st [x21, x30, x38])]).bind fun r60 =>
(D.bin .add (v9.getD 0 (.bool false)) (D.int .i64 1)).bind fun x61 =>
 some (Sum.inl [x61, (r60.2.getD 0 (.bool false)), (r60.2.getD 1 (.bool false)), (r60.2.getD 2 (.bool false))])) else (some (Sum.inr (0, [(v9.getD 1 (.bool false)), (v9.getD 2 (.bool false)), (v9.getD 3 (.bool false))])))) [(D.int .i64 2), (v3.getD 1 (.bool false)), (v3.getD 2 (.bool false)), (v3.getD 3 (.bool false))]).bind fun r62 =>
(D.bin .add (v3.getD 0 (.bool false)) (D.int .i64 1)).bind fun x63 =>
 some (Sum.inl [x63, (r62.2.getD 0 (.bool false)), (r62.2.getD 1 (.bool false)), (r62.2.getD 2 (.bool false))])) else (some (Sum.inr (0, [(v3.getD 1 (.bool false)), (v3.getD 2 (.bool false)), (v3.getD 3 (.bool false))])))) [(D.int .i64 0), a0, (D.st [(D.st [(D.st [(D.bool false), (D.bool false), (zeroD K10)]), (D.st [(D.bool false), (D.bool false), (zeroD K10)])]), (D.st [(D.st [(D.bool false), (D.bool false), (zeroD K10)]), (D.st [(D.bool false), (D.bool false), (zeroD K10)])]), (D.st [(D.st [(D.bool false), (D.bool false), (zeroD K10)]), (D.st [(D.bool false), (D.bool false), (zeroD K10)])])]), (D.st [(D.st [(D.bool false), (D.bool false), (zeroD K10)]), (D.st [(D.bool false), (D.bool false), (zeroD K10)]), (D.st [(D.bool false), (D.bool false), (zeroD K10)])])]).bind fun r64 =>
(call 54 [(D.int .i64 4)]).bind fun r65 =>
(call 23 [(r64.2.getD 0 (.bool false))]).bind fun r66 =>
(call 61 [r65, r66]).bind fun r67 =>
(lp (β := Nat × List D) (fun (v68 : List D) =>
(D.bin .lss (v68.getD 0 (.bool false)) (D.int .i64 3)).bind fun x69 =>
(D.truth x69).bind fun b70 =>
 if b70 then ((D.idx (v68.getD 0 (.bool false)) 3).bind fun i71 =>
(D.get (r64.2.getD 2 (.bool false)) [i71]).bind fun x72 =>
(call 62 [x72, r67]).bind fun r73 =>
(D.idx (v68.getD 0 (.bool false)) 3).bind fun i74 =>
(D.set (v68.getD 1 (.bool false)) [i74] r73).bind fun x75 =>
(D.bin .add (v68.getD 0 (.bool false)) (D.int .i64 1)).bind fun x76 =>
 some (Sum.inl [x76, x75])) else (some (Sum.inr (0, [(v68.getD 1 (.bool false))])))) [(D.int .i64 0), (r64.2.getD 1 (.bool false))]).bind fun r77 =>
 some (r77.2.getD 0 (.bool false))
theorem L25 {lp} (hlp : LpOk lp) : leafOk 25 (m1 (F25 lp)) := leaf1 (fn := Tryz.f25) (ann := A25) hlp (by kernel_rfl) (by kernel_rfl) (fun call a0 => by kernel_rfl)
def A27 : Ann := (.two .leaf (.two .leaf (.two (.two .leaf (.two (.loop ⟨[(2, .same (.ptr K15 4098 [])), (3, .same (.ptr K15 4099 [])), (5, .dv (Ty.int .i64))], [(4098, .keep K15 2), (4099, .keep K15 3)], []⟩ [(.ret, ⟨[(4, .dv Ty.bool)], [], []⟩), (.exit 0, ⟨[], [], []⟩)] (.two .leaf (.two (.two (.two (.reg [] 10) .leaf) .leaf) .leaf))) .leaf)) .leaf)))
theorem L27 {lp} (hlp : LpOk lp) : leafOk 27 (evG lp 27 Tryz.f27 A27) := leafE hlp (by kernel_rfl) (by kernel_rfl)
def A28 : Ann := (.two .leaf (.two .leaf (.two (.regI [] 3 (.two (.two .leaf (.two .leaf (.two (.loop ⟨[(1, .same (.clo 67 [(.ptr K24 8195 [])])), (2, .same (.ptr K3 20482 [])), (11, .dv (Ty.int .i64))], [(4097, .one K3 (.dv K3)), (4098, .one K15 (.st [(Ty.int .i64), (Ty.int .i64), K14] [.dv (Ty.int .i64), .dv (Ty.int .i64), .ow K12])), (8195, .one K24 (.dv K24)), (20482, .keep K3 2)], [9, 10]⟩ [(.exit 0, ⟨[], [(4097, .one K3 (.dv K3)), (4098, .one K15 (.st [(Ty.int .i64), (Ty.int .i64), K14] [.dv (Ty.int .i64), .dv (Ty.int .i64), .ow K12])), (8195, .one K24 (.dv K24))], []⟩)] (.two .leaf (.two .leaf (.two (.two (.two .leaf (.two .leaf (.two (.loop ⟨[(1, .same (.clo 67 [(.ptr K24 8195 [])])), (2, .same (.ptr K3 20482 [])), (5, .same (.ptr K6 36869 [])), (6, .dv (Ty.int .i64))], [(4097, .one K3 (.dv K3)), (4098, .one K15 (.st [(Ty.int .i64), (Ty.int .i64), K14] [.dv (Ty.int .i64), .dv (Ty.int .i64), .ow K12])), (8195, .one K24 (.dv K24)), (20482, .keep K3 2), (36869, .keep K6 5)], [9, 10, 11]⟩ [(.exit 2, ⟨[(1, .same (.clo 67 [(.ptr K24 8195 [])])), (2, .same (.ptr K3 20482 []))], [(4097, .one K3 (.dv K3)), (4098, .one K15 (.st [(Ty.int .i64), (Ty.int .i64), K14] [.dv (Ty.int .i64), .dv (Ty.int .i64), .ow K12])), (8195, .one K24 (.dv K24)), (20482, .keep K3 2)], [9, 10, 11]⟩)] (.two .leaf (.two (.two (.two (.reg [] 29) (.regI [] 10 (.two (.two .leaf (.two .leaf (.two (.loop ⟨[(2, .same (.ptr K24 8195 [])), (3, .same (.ptr K11 65539 [])), (4, .same (.ptr K20 65540 [])), (10, .dv (Ty.int .i64))], [(4097, .one K3 (.dv K3)), (4098, .one K15 (.st [(Ty.int .i64), (Ty.int .i64), K14] [.dv (Ty.int .i64), .dv (Ty.int .i64), .ow K12])), (8195, .one K24 (.dv K24)), (20482, .one K3 (.dv K3)), (36869, .one K6 (.dv K6)), (53255, .one K20 (.dv K20)), (65539, .keep K11 3), (65540, .keep K20 4)], []⟩ [(.exit 0, ⟨[], [(4097, .one K3 (.dv K3)), (4098, .one K15 (.st [(Ty.int .i64), (Ty.int .i64), K14] [.dv (Ty.int .i64), .dv (Ty.int .i64), .ow K12])), (8195, .one K24 (.dv K24)), (20482, .one K3 (.dv K3)), (36869, .one K6 (.dv K6)), (53255, .one K20 (.dv K20))], []⟩)] (.two .leaf (.two .leaf (.two (.two (.two .leaf (.two .leaf (.two (.loop ⟨[(2, .same (.ptr K24 8195 [])), (3, .same (.ptr K11 65539 [])), (4, .same (.ptr K20 65540 [])), (13, .dv (Ty.int .i64))], [(4097, .one K3 (.dv K3)), (4098, .one K15 (.st [(Ty.int .i64), (Ty.int .i64), K14] [.dv (Ty.int .i64), .dv (Ty.int .i64), .ow K12])), (8195, .one K24 (.dv K24)), (20482, .one K3 (.dv K3)), (36869, .one K6 (.dv K6)), (53255, .one K20 (.dv K20)), (65539, .keep K11 3), (65540, .keep K20 4)], [5, 10]⟩ [(.exit 2, ⟨[(2, .same (.ptr K24 8195 [])), (3, .same (.ptr K11 65539 [])), (4, .same (.ptr K20 65540 []))], [(4097, .one K3 (.dv K3)), (4098, .one K15 (.st [(Ty.int .i64), (Ty.int .i64), K14] [.dv (Ty.int .i64), .dv (Ty.int .i64), .ow K12])), (8195, .one K24 (.dv K24)), (20482, .one K3 (.dv K3)), (36869, .one K6 (.dv K6)), (53255, .one K20 (.dv K20)), (65539, .keep K11 3), (65540, .keep K20 4)], [10]⟩)] (.two .leaf (.two .leaf (.two (.two (.two .leaf (.two (.reg [] 29) (.two (.two .leaf (.two (.loop ⟨[(2, .same (.ptr K24 8195 [])), (3, .same (.ptr K11 65539 [])), (4, .same (.ptr K20 65540 [])), (7, .dv (Ty.int .i64)), (46, .dv (Ty.int .i64))], [(4097, .one K3 (.dv K3)), (4098, .one K15 (.st [(Ty.int .i64), (Ty.int .i64), K14] [.dv (Ty.int .i64), .dv (Ty.int .i64), .ow K12])), (8195, .keep K24 2), (20482, .one K3 (.dv K3)), (36869, .one K6 (.dv K6)), (53255, .one K20 (.dv K20)), (65539, .keep K11 3), (65540, .keep K20 4)], [5, 6, 10, 13, 45]⟩ [(.exit 4, ⟨[(2, .same (.ptr K24 8195 [])), (3, .same (.ptr K11 65539 [])), (4, .same (.ptr K20 65540 [])), (7, .dv (Ty.int .i64))], [(4097, .one K3 (.dv K3)), (4098, .one K15 (.st [(Ty.int .i64), (Ty.int .i64), K14] [.dv (Ty.int .i64), .dv (Ty.int .i64), .ow K12])), (8195, .keep K24 2), (20482, .one K3 (.dv K3)), (36869, .one K6 (.dv K6)), (53255, .one K20 (.dv K20)), (65539, .keep K11 3), (65540, .keep K20 4)], [5, 6, 10, 13]⟩)] (.two .leaf (.two .leaf (.two (.two (.two .leaf (.reg [] 9)) .leaf) .leaf)))) .leaf)) (.reg [] 14)))) .leaf) .leaf)))) .leaf))) .leaf) .leaf)))) .leaf))) .leaf))) .leaf) .leaf))) .leaf))) .leaf) .leaf)))) .leaf))) .leaf)) (.two (.reg [] 12) (.two .leaf (.two (.two .leaf (.two (.loop ⟨[(2, .same (.ptr K15 4098 [])), (3, .same (.ptr K24 8195 [])), (4, .same (.ptr K11 36868 [])), (5, .same (.ptr K15 40965 [])), (24, .dv (Ty.int .i64))], [(4098, .one K15 (.st [(Ty.int .i64), (Ty.int .i64), K14] [.dv (Ty.int .i64), .dv (Ty.int .i64), .ow K12])), (8195, .keep K24 3), (36868, .keep K11 4), (40965, .one K15 (.st [(Ty.int .i64), (Ty.int .i64), K14] [.dv (Ty.int .i64), .dv (Ty.int .i64), .ow K12]))], []⟩ [(.exit 0, ⟨[(2, .same (.ptr K15 4098 [])), (5, .same (.ptr K15 40965 []))], [(4098, .one K15 (.st [(Ty.int .i64), (Ty.int .i64), K14] [.dv (Ty.int .i64), .dv (Ty.int .i64), .ow K12])), (40965, .one K15 (.st [(Ty.int .i64), (Ty.int .i64), K14] [.dv (Ty.int .i64), .dv (Ty.int .i64), .ow K12]))], []⟩)] (.two .leaf (.two .leaf (.two (.two (.two .leaf (.two .leaf (.two (.loop ⟨[(2, .same (.ptr K15 4098 [])), (3, .same (.ptr K24 8195 [])), (4, .same (.ptr K11 36868 [])), (5, .same (.ptr K15 40965 [])), (27, .dv (Ty.int .i64))], [(4098, .one K15 (.st [(Ty.int .i64), (Ty.int .i64), K14] [.dv (Ty.int .i64), .dv (Ty.int .i64), .ow K12])), (8195, .keep K24 3), (36868, .keep K11 4), (40965, .one K15 (.st [(Ty.int .i64), (Ty.int .i64), K14] [.dv (Ty.int .i64), .dv (Ty.int .i64), .ow K12]))], [6, 24]⟩ [(.exit 2, ⟨[(2, .same (.ptr K15 4098 [])), (3, .same (.ptr K24 8195 [])), (4, .same (.ptr K11 36868 [])), (5, .same (.ptr K15 40965 []))], [(4098, .one K15 (.st [(Ty.int .i64), (Ty.int .i64), K14] [.dv (Ty.int .i64), .dv (Ty.int .i64), .ow K12])), (8195, .keep K24 3), (36868, .keep K11 4), (40965, .one K15 (.st [(Ty.int .i64), (Ty.int .i64), K14] [.dv (Ty.int .i64), .dv (Ty.int .i64), .ow K12]))], [24]⟩)] (.two .leaf (.two .leaf (.two (.two (.two .leaf (.two .leaf (.cut [(.normal, ⟨[(2, .same (.ptr K15 4098 [])), (3, .same (.ptr K24 8195 [])), (4, .same (.ptr K11 36868 [])), (5, .same (.ptr K15 40965 [])), (8, .same (.ptr K11 77832 []))], [(4098, .one K15 (.st [(Ty.int .i64), (Ty.int .i64), K14] [.dv (Ty.int .i64), .dv (Ty.int .i64), .ow K12])), (8195, .keep K24 3), (36868, .keep K11 4), (40965, .one K15 (.st [(Ty.int .i64), (Ty.int .i64), K14] [.dv (Ty.int .i64), .dv (Ty.int .i64), .ow K12])), (77832, .one K11 (.dv K11))], [6, 24, 27]⟩)] [6, 24, 27] [8195, 36868] .leaf (.reg [] 6)))) .leaf) .leaf)))) .leaf))) .leaf) .leaf)))) .leaf)) .leaf))))))
noncomputable def F28 (lp : Lp) (call : Nat -> List D -> Option D) (a0 : D) : Option D :=
(call 18 [a0]).bind fun r1 =>
(D.asSl r1).bind fun l2 =>
(lp (β := Nat × List D) (fun (v3 : List D) =>
(D.bin .lss (v3.getD 0 (.bool false)) (D.int .i64 (l2.length))).bind fun x4 =>
(D.truth x4).bind fun b5 =>
 if b5 then ((D.asSl r1).bind fun l6 =>
(D.idx (v3.getD 0 (.bool false)) (l6.length)).bind fun i7 =>
(l6[i7]?).bind fun x8 =>
(lp (β := Nat × List D) (fun (v9 : List D) =>
(D.get x8 [2]).bind fun x10 =>
(D.asSl x10).bind fun l11 =>
(D.bin .lss (v9.getD 0 (.bool false)) (D.int .i64 (l11.length))).bind fun x12 =>
(D.truth x12).bind fun b13 =>
 if b13 then ((D.get a0 [0]).bind fun x14 =>
(D.get x8 [2]).bind fun x15 =>
(D.asSl x15).bind fun l16 =>
(D.idx (D.int .i64 0) (l16.length)).bind fun i17 =>
(l16[i17]?).bind fun x18 =>
(D.asSl x14).bind fun l19 =>
(D.idx x18 (l19.length)).bind fun i20 =>
(l19[i20]?).bind fun x21 =>
(D.get a0 [0]).bind fun x22 =>
(D.get x8 [2]).bind fun x23 =>
(D.bin .sub (v9.getD 0 (.bool false)) (D.int .i64 1)).bind fun x24 =>
(D.asSl x23).bind fun l25 =>
(D.idx x24 (l25.length)).bind fun i26 =>
(l25[i26]?).bind fun x27 =>
(D.asSl x22).bind fun l28 =>
(D.idx x27 (l28.length)).bind fun i29 =>
(l28[i29]?).bind fun x30 =>
(D.get a0 [0]).bind fun x31 =>
(D.get x8 [2]).bind fun x32 =>
(D.asSl x32).bind fun l33 =>
(D.idx (v9.getD 0 (.bool false)) (l33.length)).bind fun i34 =>
(l33[i34]?).bind fun x35 =>
(D.asSl x31).bind fun l36 =>
(D.idx x35 (l36.length)).bind fun i37 =>
(l36[i37]?).bind fun x38 =>
(call 117 [x21, x30]).bind fun r39 =>
(call 91 [r39, x38]).bind fun r40 =>
(lp (β := Nat × List D) (fun (v41 : List D) =>
(D.bin .lss (v41.getD 0 (.bool false)) (D.int .i64 3)).bind fun x42 =>
(D.truth x42).bind fun b43 =>
 if b43 then ((lp (β := Nat × List D) (fun (v44 : List D) =>
(D.bin .lss (v44.getD 0 (.bool false)) (D.int .i64 3)).bind fun x45 =>
(D.truth x45).bind fun b46 =>
 if b46 then ((D.idx (v41.getD 0 (.bool false)) 3).bind fun i47 =>
(D.get x21 [i47]).bind fun x48 =>
(D.idx (v41.getD 0 (.bool false)) 3).bind fun i49 =>
(D.get x30 [i49]).bind fun x50 =>
(D.bin .add x48 x50).bind fun x51 =>
(D.idx (v41.getD 0 (.bool false)) 3).bind fun i52 =>
(D.get x38 [i52]).bind fun x53 =>
(D.bin .add x51 x53).bind fun x54 =>
(D.idx (v44.getD 0 (.bool false)) 3).bind fun i55 =>
(D.get x21 [i55]).bind fun x56 =>
(D.idx (v44.getD 0 (.bool false)) 3).bind fun i57 =>
(D.get x30 [i57]).bind fun x58 =>
(D.bin .add x56 x58).bind fun x59 =>
(D.idx (v44.getD 0 (.bool false)) 3).bind fun i60 =>
(D.get x38 [i60]).bind fun x61 =>
(D.bin .add x59 x61).bind fun x62 =>
(D.bin .mul x54 x62).bind fun x63 =>
(lp (β := Nat × List D) (fun (v64 : List D) =>
(D.bin .lss (v64.getD 1 (.bool false)) (D.int .i64 3)).bind fun x65 =>
(D.truth x65).bind fun b66 =>
 if b66 then ((D.idx (v64.getD 1 (.bool false)) 3).bind fun i67 =>
(D.fld (D.st [x21, x30, x38]) i67).bind fun x68 =>
(D.idx (v41.getD 0 (.bool false)) 3).bind fun i69 =>
(D.get x68 [i69]).bind fun x70 =>
(D.idx (v44.getD 0 (.bool false)) 3).bind fun i71 =>
(D.get x68 [i71]).bind fun x72 =>
(D.bin .mul x70 x72).bind fun x73 =>
(D.bin .add (v64.getD 0 (.bool false)) x73).bind fun x74 =>
(D.bin .add (v64.getD 1 (.bool false)) (D.int .i64 1)).bind fun x75 =>
 some (Sum.inl [x74, x75, (v64.getD 2 (.bool false)), (v64.getD 3 (.bool false)), (v64.getD 4 (.bool false)), (D.sl ((v64.getD 5 (.bool false)).els)), (v64.getD 6 (.bool false)), (v64.getD 7 (.bool false)), (v64.getD 8 (.bool false))])) else (some (Sum.inr (0, [(v64.getD 0 (.bool false)), (v64.getD 2 (.bool false)), (v64.getD 3 (.bool false)), (v64.getD 4 (.bool false)), (D.sl ((v64.getD 5 (.bool false)).els)), (v64.getD 6 (.bool false)), (v64.getD 7 (.bool false)), (v64.getD 8 (.bool false))])))) [x63, (D.int .i64 0), (v44.getD 1 (.bool false)), (v44.getD 2 (.bool false)), (v44.getD 3 (.bool false)), (D.sl ((v44.getD 4 (.bool false)).els)), (v44.getD 6 (.bool false)), (v44.getD 7 (.bool false)), (v44.getD 8 (.bool false))]).bind fun r76 =>
(D.idx (v41.getD 0 (.bool false)) 3).bind fun i77 =>
(D.idx (v44.getD 0 (.bool false)) 3).bind fun i78 =>
(D.get (v44.getD 5 (.bool false)) [i77, i78]).bind fun x79 =>
(call 54 [(r76.2.getD 0 (.bool false))]).bind fun r80 =>
(call 61 [r40, r80]).bind fun r81 =>
(call 57 [x79, r81]).bind fun r82 =>
(D.idx (v41.getD 0 (.bool false)) 3).bind fun i83 =>
(D.idx (v44.getD 0 (.bool false)) 3).bind fun i84 =>
(D.set (v44.getD 5 (.bool false)) [i83, i84] r82).bind fun x85 =>
(D.bin .add (v44.getD 0 (.bool false)) (D.int .i64 1)).bind fun x86 =>
 some (Sum.inl [x86, (r76.2.getD 1 (.bool false)), (r76.2.getD 2 (.bool false)), (r76.2.getD 3 (.bool false)), (D.sl ((r76.2.getD 4 (.bool false)).els)), x85, (r76.2.getD 5 (.bool false)), (r76.2.getD 6 (.bool false)), (r76.2.getD 7 (.bool false))])) else (some (Sum.inr (0, [(v44.getD 1 (.bool false)), (v44.getD 2 (.bool false)), (v44.getD 3 (.bool false)), (D.sl ((v44.getD 4 (.bool false)).els)), (v44.getD 5 (.bool false)), (v44.getD 6 (.bool false)), (v44.getD 7 (.bool false)), (v44.getD 8 (.bool false))])))) [(D.int .i64 0), (v41.getD 1 (.bool false)), (v41.getD 2 (.bool false)), (v41.getD 3 (.bool false)), (D.sl ((v41.getD 4 (.bool false)).els)), (v41.getD 5 (.bool false)), (v41.getD 6 (.bool false)), (v41.getD 7 (.bool false)), (v41.getD 8 (.bool false))]).bind fun r87 =>
(D.bin .add (v41.getD 0 (.bool false)) (D.int .i64 1)).bind fun x88 =>
 some (Sum.inl [x88, (r87.2.getD 0 (.bool false)), (r87.2.getD 1 (.bool false)), (r87.2.getD 2 (.bool false)), (D.sl ((r87.2.getD 3 (.bool false)).els)), (r87.2.getD 4 (.bool false)), (r87.2.getD 5 (.bool false)), (r87.2.getD 6 (.bool false)), (r87.2.getD 7 (.bool false))])) else (some (Sum.inr (0, [(v41.getD 1 (.bool false)), (v41.getD 2 (.bool false)), (v41.getD 3 (.bool false)), (D.sl ((v41.getD 4 (.bool false)).els)), (v41.getD 5 (.bool false)), (v41.getD 6 (.bool false)), (v41.getD 7 (.bool false)), (v41.getD 8 (.bool false))])))) [(D.int .i64 0), (v9.getD 1 (.bool false)), (v9.getD 2 (.bool false)), (v9.getD 3 (.bool false)), (D.sl ((v9.getD 4 (.bool false)).els)), (v9.getD 5 (.bool false)), a0, x8, (D.st [x21, x30, x38])]).bind fun r89 =>
(D.bin .add (v9.getD 0 (.bool false)) (D.int .i64 1)).bind fun x90 =>
 some (Sum.inl [x90, (r89.2.getD 0 (.bool false)), (r89.2.getD 1 (.bool false)), (r89.2.getD 2 (.bool false)), (D.sl ((r89.2.getD 3 (.bool false)).els)), (r89.2.getD 4 (.bool false))])) else (some (Sum.inr (0, [(v9.getD 1 (.bool false)), (v9.getD 2 (.bool false)), (v9.getD 3 (.bool false)), (D.sl ((v9.getD 4 (.bool false)).els)), (v9.getD 5 (.bool false))])))) [(D.int .i64 2), (v3.getD 1 (.bool false)), (v3.getD 2 (.bool false)), (v3.getD 3 (.bool false)), (D.sl ((v3.getD 4 (.bool false)).els)), (v3.getD 5 (.bool false))]).bind fun r91 =>
(D.bin .add (v3.getD 0 (.bool false)) (D.int .i64 1)).bind fun x92 =>
 some (Sum.inl [x92, (r91.2.getD 0 (.bool false)), (r91.2.getD 1 (.bool false)), (r91.2.getD 2 (.bool false)), (D.sl ((r91.2.getD 3 (.bool false)).els)), (r91.2.getD 4 (.bool false))])) else (some (Sum.inr (0, [(v3.getD 1 (.bool false)), (v3.getD 2 (.bool false)), (v3.getD 3 (.bool false)), (D.sl ((v3.getD 4 (.bool false)).els)), (v3.getD 5 (.bool false))])))) [(D.int .i64 0), a0, (D.int .i64 0), (D.int .i64 0), (D.sl []), (D.st [(D.st [(D.st [(D.bool false), (D.bool false), (zeroD K10)]), (D.st [(D.bool false), (D.bool false), (zeroD K10)]), (D.st [(D.bool false), (D.bool false), (zeroD K10)])]), (D.st [(D.st [(D.bool false), (D.bool false), (zeroD K10)]), (D.st [(D.bool false), (D.bool false), (zeroD K10)]), (D.st [(D.bool false), (D.bool false), (zeroD K10)])]), (D.st [(D.st [(D.bool false), (D.bool false), (zeroD K10)]), (D.st [(D.bool false), (D.bool false), (zeroD K10)]), (D.st [(D.bool false), (D.bool false), (zeroD K10)])])])]).bind fun r93 =>
(D.get (r93.2.getD 4 (.bool false)) [0, 0]).bind fun x94 =>
(D.get (r93.2.getD 4 (.bool false)) [1, 1]).bind fun x95 =>
(call 57 [x94, x95]).bind fun r96 =>
(D.get (r93.2.getD 4 (.bool false)) [2, 2]).bind fun x97 =>
(call 57 [r96, x97]).bind fun r98 =>
(lp (β := Nat × List D) (fun (v99 : List D) =>
(D.bin .lss (v99.getD 0 (.bool false)) (D.int .i64 3)).bind fun x100 =>
(D.truth x100).bind fun b101 =>
 if b101 then ((lp (β := Nat × List D) (fun (v102 : List D) =>
(D.bin .lss (v102.getD 0 (.bool false)) (D.int .i64 3)).bind fun x103 =>
(D.truth x103).bind fun b104 =>
 if b104 then ((D.idx (v99.getD 0 (.bool false)) 3).bind fun i105 =>
(D.idx (v102.getD 0 (.bool false)) 3).bind fun i106 =>
(D.get (r93.2.getD 4 (.bool false)) [i105, i106]).bind fun x107 =>
(call 68 [x107]).bind fun r108 =>
((D.truth (D.bool (D.beq (v99.getD 0 (.bool false)) (v102.getD 0 (.bool false))))).bind fun b109 =>
 if b109 then ((call 57 [r108, r98]).bind fun r110 =>
 some (0, [(v102.getD 1 (.bool false)), (v102.getD 2 (.bool false)), (D.sl ((v102.getD 3 (.bool false)).els)), (v102.getD 4 (.bool false)), (v102.getD 5 (.bool false)), (D.sl ((v102.getD 6 (.bool false)).els)), r110])) else (some (0, [(v102.getD 1 (.bool false)), (v102.getD 2 (.bool false)), (D.sl ((v102.getD 3 (.bool false)).els)), (v102.getD 4 (.bool false)), (v102.getD 5 (.bool false)), (D.sl ((v102.getD 6 (.bool false)).els)), r108]))).bind fun (r111 : Nat × List D) =>
(call 54 [(D.int .i64 120)]).bind fun r112 =>
(call 62 [(r111.2.getD 6 (.bool false)), r112]).bind fun r113 =>
 if List.length ((r111.2.getD 5 (.bool false)).els) + List.length [r113] <= 1073741824 then ((D.bin .add (v102.getD 0 (.bool false)) (D.int .i64 1)).bind fun x114 =>
 some (Sum.inl [x114, (r111.2.getD 0 (.bool false)), (r111.2.getD 1 (.bool false)), (D.sl ((r111.2.getD 2 (.bool false)).els)), (r111.2.getD 3 (.bool false)), (r111.2.getD 4 (.bool false)), (D.sl (((r111.2.getD 5 (.bool false)).els) ++ [r113]))])) else none) else (some (Sum.inr (0, [(v102.getD 1 (.bool false)), (v102.getD 2 (.bool false)), (D.sl ((v102.getD 3 (.bool false)).els)), (v102.getD 4 (.bool false)), (v102.getD 5 (.bool false)), (D.sl ((v102.getD 6 (.bool false)).els))])))) [(D.int .i64 0), (v99.getD 1 (.bool false)), (v99.getD 2 (.bool false)), (D.sl ((v99.getD 3 (.bool false)).els)), (v99.getD 4 (.bool false)), (v99.getD 5 (.bool false)), (D.sl ((v99.getD 6 (.bool false)).els))]).bind fun r115 =>
(D.bin .add (v99.getD 0 (.bool false)) (D.int .i64 1)).bind fun x116 =>
 some (Sum.inl [x116, (r115.2.getD 0 (.bool false)), (r115.2.getD 1 (.bool false)), (D.sl ((r115.2.getD 2 (.bool false)).els)), (r115.2.getD 3 (.bool false)), (r115.2.getD 4 (.bool false)), (D.sl ((r115.2.getD 5 (.bool false)).els))])) else (some (Sum.inr (0, [(v99.getD 1 (.bool false)), (v99.getD 2 (.bool false)), (D.sl ((v99.getD 3 (.bool false)).els)), (v99.getD 4 (.bool false)), (v99.getD 5 (.bool false)), (D.sl ((v99.getD 6 (.bool false)).els))])))) [(D.int .i64 0), (r93.2.getD 1 (.bool false)), (r93.2.getD 2 (.bool false)), (D.sl ((r93.2.getD 3 (.bool false)).els)), (D.int .i64 3), (D.int .i64 3), (D.sl [])]).bind fun r117 =>
 some (D.st [(r117.2.getD 3 (.bool false)), (r117.2.getD 4 (.bool false)), (D.sl ((r117.2.getD 5 (.bool false)).els))])
theorem L28 {lp} (hlp : LpOk lp) : leafOk 28 (m1 (F28 lp)) := leaf1 (fn := Tryz.f28) (ann := A28) hlp (by kernel_rfl) (by kernel_rfl) (fun call a0 => by kernel_rfl)
def A30 : Ann := (.two .leaf (.two .leaf (.two .leaf (.two (.two .leaf (.two (.loop ⟨[(3, .same (.ptr K13 4099 [])), (5, .dv (Ty.int .i64)), (15, .dv (Ty.int .i64))], [(4099, .keep K13 3)], [13, 14]⟩ [(.ret, ⟨[(4, .dv (Ty.int .i64))], [], []⟩), (.exit 0, ⟨[(5, .dv (Ty.int .i64))], [], []⟩)] (.two .leaf (.two .leaf (.two (.two (.two .leaf (.two .leaf (.two .leaf (.reg [] 7)))) .leaf) .leaf)))) .leaf)) .leaf))))
theorem L30 {lp} (hlp : LpOk lp) : leafOk 30 (evG lp 30 Tryz.f30 A30) := leafE hlp (by kernel_rfl) (by kernel_rfl)
def A31 : Ann := (.two .leaf (.two (.reg [] 10) .leaf))
noncomputable def F31 (lp : Lp) (call : Nat -> List D -> Option D) (a0 : D) : Option D :=
(D.get a0 [0]).bind fun x1 =>
(call 75 [x1]).bind fun r2 =>
(D.get a0 [1]).bind fun x3 =>
(call 75 [x3]).bind fun r4 =>
(D.get a0 [2]).bind fun x5 =>
(call 75 [x5]).bind fun r6 =>
 some (D.st [r2, r4, r6])
theorem L31 {lp} (hlp : LpOk lp) : leafOk 31 (m1 (F31 lp)) := leaf1 (fn := Tryz.f31) (ann := A31) hlp (by kernel_rfl) (by kernel_rfl) (fun call a0 => by kernel_rfl)
def A32 : Ann := (.two .leaf (.two .leaf (.two .leaf (.two .leaf (.two .leaf (.two .leaf (.two .leaf (.cut [(.normal, ⟨[(5, .dv K5), (6, .dv K5)], [], []⟩)] [] [] .leaf .leaf))))))))
noncomputable def F32 (lp : Lp) (call : Nat -> List D -> Option D) (a0 : D) (a1 : D) : Option D :=
(call 76 [a0]).bind fun r1 =>
(D.un .not r1).bind fun x2 =>
(D.truth x2).bind fun b3 =>
(if b3 then ((call 76 [a1]).bind fun r4 =>
(D.un .not r4).bind fun x5 =>
 D.truth x5) else (some false)).bind fun b6 =>
(D.truth (D.bool b6)).bind fun b7 =>
 if b7 then (some (D.int .i64 0)) else ((call 76 [a0]).bind fun r8 =>
(D.un .not r8).bind fun x9 =>
(D.truth x9).bind fun b10 =>
 if b10 then (some (D.int .i64 (-1))) else ((call 76 [a1]).bind fun r11 =>
(D.un .not r11).bind fun x12 =>
(D.truth x12).bind fun b13 =>
 if b13 then (some (D.int .i64 1)) else ((D.get a0 [1]).bind fun x14 =>
(D.get a1 [1]).bind fun x15 =>
(D.truth (D.bool (!(D.beq x14 x15)))).bind fun b16 =>
 if b16 then ((D.get a0 [1]).bind fun x17 =>
(D.truth x17).bind fun b18 =>
 if b18 then (some (D.int .i64 (-1))) else (some (D.int .i64 1))) else ((call 77 [a0]).bind fun r19 =>
(call 77 [a1]).bind fun r20 =>
((D.get a0 [1]).bind fun x21 =>
(D.truth x21).bind fun b22 =>
 if b22 then ((call 77 [a1]).bind fun r23 =>
(call 77 [a0]).bind fun r24 =>
 some (0, [r23, r24])) else (some (0, [r19, r20]))).bind fun (r25 : Nat × List D) =>
(call 78 [(r25.2.getD 0 (.bool false)), (r25.2.getD 1 (.bool false))]).bind fun r26 =>
(call 78 [(r25.2.getD 1 (.bool false)), (r25.2.getD 0 (.bool false))]).bind fun r27 =>
(D.truth r26).bind fun b28 =>
 if b28 then (some (D.int .i64 (-1))) else ((D.truth r27).bind fun b29 =>
 if b29 then (some (D.int .i64 1)) else (some (D.int .i64 0)))))))
theorem L32 {lp} (hlp : LpOk lp) : leafOk 32 (m2 (F32 lp)) := leaf2 (fn := Tryz.f32) (ann := A32) hlp (by kernel_rfl) (by kernel_rfl) (fun call a0 a1 => by kernel_rfl)
def A33 : Ann := (.two .leaf (.two (.reg [] 5) .leaf))
noncomputable def F33 (lp : Lp) (call : Nat -> List D -> Option D) (a0 : D) (a1 : D) : Option D :=
(call 80 [a0]).bind fun r1 =>
(call 80 [a1]).bind fun r2 =>
(call 79 [r1, r2]).bind fun r3 =>
 some r3
theorem L33 {lp} (hlp : LpOk lp) : leafOk 33 (m2 (F33 lp)) := leaf2 (fn := Tryz.f33) (ann := A33) hlp (by kernel_rfl) (by kernel_rfl) (fun call a0 a1 => by kernel_rfl)
noncomputable def F34 (lp : Lp) (call : Nat -> List D -> Option D) (a0 : D) : Option D :=
(D.bin .geq a0 (D.int .i64 0)).bind fun x1 =>
(D.truth x1).bind fun b2 =>
 if b2 then ((D.bin .rem a0 (D.int .i64 65536)).bind fun x3 =>
(D.bin .quo a0 (D.int .i64 65536)).bind fun x4 =>
(D.bin .rem x4 (D.int .i64 65536)).bind fun x5 =>
(D.bin .quo a0 (D.int .i64 4294967296)).bind fun x6 =>
(D.bin .rem x6 (D.int .i64 65536)).bind fun x7 =>
(D.bin .quo a0 (D.int .i64 281474976710656)).bind fun x8 =>
(call 81 [(D.bool false), (D.sl [x3, x5, x7, x8])]).bind fun r9 =>
 some r9) else ((D.bin .add a0 (D.int .i64 1)).bind fun x10 =>
(D.un .neg x10).bind fun x11 =>
(D.bin .rem x11 (D.int .i64 65536)).bind fun x12 =>
(D.bin .quo x11 (D.int .i64 65536)).bind fun x13 =>
(D.bin .rem x13 (D.int .i64 65536)).bind fun x14 =>
(D.bin .quo x11 (D.int .i64 4294967296)).bind fun x15 =>
(D.bin .rem x15 (D.int .i64 65536)).bind fun x16 =>
(D.bin .quo x11 (D.int .i64 281474976710656)).bind fun x17 =>
(call 82 [(D.sl [x12, x14, x16, x17]), (D.sl [(D.int .i64 1)])]).bind fun r18 =>
(call 81 [(D.bool true), r18]).bind fun r19 =>
 some r19)
theorem L34 {lp} (hlp : LpOk lp) : leafOk 34 (m1 (F34 lp)) := leaf1 (fn := Tryz.f34) (ann := .leaf) hlp (by kernel_rfl) (by kernel_rfl) (fun call a0 => by kernel_rfl)
def A37 : Ann := (.two .leaf (.two .leaf (.two .leaf (.cut [(.normal, ⟨[(2, .same (.ptr K11 4098 [])), (3, .same (.ptr K11 4099 [])), (4, .same (.ptr K12 4100 [])), (5, .same (.ptr K11 12293 []))], [(4098, .keep K11 2), (4099, .keep K11 3), (4100, .keep K12 4), (12293, .one K11 (.dv K11))], []⟩)] [] [4098, 4099, 4100] .leaf (.two (.reg [] 7) .leaf)))))
noncomputable def F37 (lp : Lp) (call : Nat -> List D -> Option D) (a0 : D) (a1 : D) : Option D :=
(call 76 [a0]).bind fun r1 =>
(D.un .not r1).bind fun x2 =>
(D.truth x2).bind fun b3 =>
(if b3 then (some true) else ((call 76 [a1]).bind fun r4 =>
(D.un .not r4).bind fun x5 =>
 D.truth x5)).bind fun b6 =>
(D.truth (D.bool b6)).bind fun b7 =>
(if b7 then (some true) else ((call 83 [a1]).bind fun r8 =>
 D.truth (D.bool (D.beq r8 (D.int .i64 0))))).bind fun b9 =>
(D.truth (D.bool b9)).bind fun b10 =>
 if b10 then ((call 84 []).bind fun r11 =>
 some r11) else ((call 85 [a0, a1]).bind fun r12 =>
((call 83 [a1]).bind fun r13 =>
(D.bin .lss r13 (D.int .i64 0)).bind fun x14 =>
(D.truth x14).bind fun b15 =>
 if b15 then ((call 86 [r12]).bind fun r16 =>
 some (0, [r16])) else (some (0, [r12]))).bind fun (r17 : Nat × List D) =>
(call 87 [a0, (r17.2.getD 0 (.bool false))]).bind fun r18 =>
(call 87 [a1, (r17.2.getD 0 (.bool false))]).bind fun r19 =>
 some (D.st [r18, r19]))
theorem L37 {lp} (hlp : LpOk lp) : leafOk 37 (m2 (F37 lp)) := leaf2 (fn := Tryz.f37) (ann := A37) hlp (by kernel_rfl) (by kernel_rfl) (fun call a0 a1 => by kernel_rfl)
noncomputable def F42 (lp : Lp) (call : Nat -> List D -> Option D) (a0 : D) (a1 : D) : Option D :=
(call 34 [a0]).bind fun r1 =>
(call 34 [a1]).bind fun r2 =>
(call 37 [r1, r2]).bind fun r3 =>
 some r3
theorem L42 {lp} (hlp : LpOk lp) : leafOk 42 (m2 (F42 lp)) := leaf2 (fn := Tryz.f42) (ann := .leaf) hlp (by kernel_rfl) (by kernel_rfl) (fun call a0 a1 => by kernel_rfl)
def A43 : Ann := (.two .leaf (.two .leaf (.two (.two .leaf (.two (.loop ⟨[(2, .same (.ptr K3 4098 [])), (3, .same (.ptr K1 4099 [])), (5, .dv (Ty.int .i64)), (11, .dv (Ty.int .i64))], [(4098, .keep K3 2), (4099, .keep K1 3)], [9, 10]⟩ [(.exit 0, ⟨[(5, .dv (Ty.int .i64))], [], []⟩)] (.two .leaf (.two .leaf (.cut [(.normal, ⟨[(2, .same (.ptr K3 4098 [])), (3, .same (.ptr K1 4099 [])), (5, .dv (Ty.int .i64))], [(4098, .keep K3 2), (4099, .keep K1 3)], [9, 10, 11]⟩)] [9, 10, 11] [4098, 4099] (.two (.two .leaf (.two (.reg [] 11) .leaf)) .leaf) .leaf)))) .leaf)) .leaf)))
theorem L43 {lp} (hlp : LpOk lp) : leafOk 43 (evG lp 43 Tryz.f43 A43) := leafE hlp (by kernel_rfl) (by kernel_rfl)
end Go.Proofs.YtjjjkojfijpeeaaGreat.Sy
end
section
set_option maxRecDepth 20000
set_option maxHeartbeats 0
set_option linter.unusedVariables false
namespace Go.Proofs.YtjjjkojfijpeeaaGreat.Sy
open Go Go.Proofs
def A46 : Ann := (.two .leaf (.two .leaf (.two (.two .leaf (.two (.loop ⟨[(2, .same (.ptr K2 4098 [])), (3, .same (.ptr K17 4099 [])), (5, .same (.ptr K5 8197 [])), (13, .dv (Ty.int .i64))], [(4098, .keep K2 2), (4099, .keep K17 3), (8197, .one K5 (.ow (Ty.int .i64)))], [11, 12]⟩ [(.exit 0, ⟨[(2, .same (.ptr K2 4098 [])), (3, .same (.ptr K17 4099 [])), (5, .same (.ptr K5 8197 []))], [(4098, .keep K2 2), (4099, .keep K17 3), (8197, .one K5 (.ow (Ty.int .i64)))], []⟩)] (.two .leaf (.two .leaf (.cut [(.normal, ⟨[(2, .same (.ptr K2 4098 [])), (3, .same (.ptr K17 4099 [])), (5, .same (.ptr K5 8197 []))], [(4098, .keep K2 2), (4099, .keep K17 3), (8197, .one K5 (.ow (Ty.int .i64)))], [11, 12, 13]⟩)] [11, 12, 13] [4098, 4099] (.two (.two .leaf (.two (.reg [] 6) .leaf)) .leaf) .leaf)))) .leaf)) (.two .leaf (.two .leaf (.two (.two (.regI [] 6 (.two (.two .leaf (.two .leaf (.two (.two .leaf (.two (.loop ⟨[(2, .same (.ptr K2 4098 [])), (3, .same (.ptr K17 4099 [])), (6, .dv (Ty.int .i64)), (12, .dv K5), (14, .dv (Ty.int .i64))], [(4098, .keep K2 2), (4099, .keep K17 3), (8197, .one K5 (.dv K5))], [0, 13]⟩ [(.exit 0, ⟨[(6, .dv (Ty.int .i64))], [(4098, .keep K2 2), (4099, .keep K17 3), (8197, .one K5 (.dv K5))], []⟩)] (.two .leaf (.two .leaf (.cut [(.normal, ⟨[(2, .same (.ptr K2 4098 [])), (3, .same (.ptr K17 4099 [])), (6, .dv (Ty.int .i64))], [(4098, .keep K2 2), (4099, .keep K17 3), (8197, .one K5 (.dv K5))], [0, 12, 13, 14]⟩)] [0, 12, 13, 14] [4098, 4099] (.two (.two .leaf (.two .leaf (.two .leaf (.two (.reg [] 20) .leaf)))) .leaf) .leaf)))) .leaf)) .leaf))) .leaf)) (.two (.loop ⟨[(5, .same (.ptr K5 8197 [])), (8, .same (.clo 102 [(.ptr K5 8197 []), (.ptr K2 4098 []), (.ptr K17 4099 [])])), (9, .ow (Ty.int .i64)), (10, .dv (Ty.int .i64))], [(4098, .keep K2 2), (4099, .keep K17 3), (8197, .keep K5 5)], []⟩ [(.exit 2, ⟨[(9, .ow (Ty.int .i64))], [], []⟩)] (.two .leaf (.two .leaf (.regI [] 4 (.two (.two .leaf (.two .leaf (.two (.two .leaf (.two (.loop ⟨[(2, .same (.ptr K2 4098 [])), (3, .same (.ptr K17 4099 [])), (6, .dv (Ty.int .i64)), (14, .dv (Ty.int .i64))], [(4098, .keep K2 2), (4099, .keep K17 3), (8197, .keep K5 1)], [0, 12, 13]⟩ [(.exit 0, ⟨[(6, .dv (Ty.int .i64))], [(4098, .keep K2 2), (4099, .keep K17 3), (8197, .keep K5 1)], []⟩)] (.two .leaf (.two .leaf (.cut [(.normal, ⟨[(2, .same (.ptr K2 4098 [])), (3, .same (.ptr K17 4099 [])), (6, .dv (Ty.int .i64))], [(4098, .keep K2 2), (4099, .keep K17 3), (8197, .one K5 (.dv K5))], [0, 12, 13, 14]⟩)] [0, 12, 13, 14] [4098, 4099] (.two (.two .leaf (.two .leaf (.two .leaf (.two (.reg [] 20) .leaf)))) .leaf) .leaf)))) .leaf)) .leaf))) .leaf))))) .leaf)) .leaf))))))
noncomputable def F46 (lp : Lp) (call : Nat -> List D -> Option D) (a0 : D) (a1 : D) : Option D :=
(D.asSl a0).bind fun l1 =>
(lp (β := Nat × List D) (fun (v2 : List D) =>
(D.bin .lss (v2.getD 0 (.bool false)) (D.int .i64 (l1.length))).bind fun x3 =>
(D.truth x3).bind fun b4 =>
 if b4 then (((D.asSl a0).bind fun l5 =>
(D.idx (v2.getD 0 (.bool false)) (l5.length)).bind fun i6 =>
(l5[i6]?).bind fun x7 =>
(D.get a1 [0]).bind fun x8 =>
(call 101 [x8, x7]).bind fun r9 =>
(D.get a1 [1]).bind fun x10 =>
(D.truth (D.bool (D.beq r9 x10))).bind fun b11 =>
 if b11 then (if List.length ((v2.getD 1 (.bool false)).els) + List.length [(v2.getD 0 (.bool false))] <= 1073741824 then (some (0, [(D.sl (((v2.getD 1 (.bool false)).els) ++ [(v2.getD 0 (.bool false))]))])) else none) else (some (0, [(D.sl ((v2.getD 1 (.bool false)).els))]))).bind fun (r12 : Nat × List D) =>
(D.bin .add (v2.getD 0 (.bool false)) (D.int .i64 1)).bind fun x13 =>
 some (Sum.inl [x13, (D.sl ((r12.2.getD 0 (.bool false)).els))])) else (some (Sum.inr (0, [(D.sl ((v2.getD 1 (.bool false)).els))])))) [(D.int .i64 0), (D.sl [])]).bind fun r14 =>
(D.idx (D.int .i64 0) (List.length ((r14.2.getD 0 (.bool false)).els))).bind fun i15 =>
(((r14.2.getD 0 (.bool false)).els)[i15]?).bind fun x16 =>
(D.idx (D.int .i64 0) (List.length ((r14.2.getD 0 (.bool false)).els))).bind fun i17 =>
(((r14.2.getD 0 (.bool false)).els)[i17]?).bind fun x18 =>
(lp (β := Nat × List D) (fun (v19 : List D) =>
(D.bin .lss (v19.getD 2 (.bool false)) (D.int .i64 (List.length ((r14.2.getD 0 (.bool false)).els)))).bind fun x20 =>
(D.truth x20).bind fun b21 =>
 if b21 then (((D.asSl (v19.getD 1 (.bool false))).bind fun l22 =>
(D.idx (v19.getD 2 (.bool false)) (l22.length)).bind fun i23 =>
(l22[i23]?).bind fun x24 =>
(D.truth (D.bool (D.beq x24 x18))).bind fun b25 =>
 if b25 then (some (0, [(v19.getD 0 (.bool false)), (v19.getD 3 (.bool false))])) else ((D.bin .lss (v19.getD 0 (.bool false)) (D.int .i64 0)).bind fun x26 =>
(D.truth x26).bind fun b27 =>
 if b27 then (some (0, [x24, (v19.getD 3 (.bool false))])) else ((D.asSl a0).bind fun l28 =>
(D.idx x24 (l28.length)).bind fun i29 =>
(l28[i29]?).bind fun x30 =>
(D.asSl a0).bind fun l31 =>
(D.idx x18 (l31.length)).bind fun i32 =>
(l31[i32]?).bind fun x33 =>
(call 103 [x30, x33]).bind fun r34 =>
(D.asSl a0).bind fun l35 =>
(D.idx (v19.getD 0 (.bool false)) (l35.length)).bind fun i36 =>
(l35[i36]?).bind fun x37 =>
(D.asSl a0).bind fun l38 =>
(D.idx x18 (l38.length)).bind fun i39 =>
(l38[i39]?).bind fun x40 =>
(call 103 [x37, x40]).bind fun r41 =>
(D.get a1 [0]).bind fun x42 =>
(call 104 [x42, r41, r34]).bind fun r43 =>
(D.bin .lss r43 (D.int .i64 0)).bind fun x44 =>
(D.truth x44).bind fun b45 =>
(if b45 then (some true) else ((D.truth (D.bool (D.beq r43 (D.int .i64 0)))).bind fun b46 =>
 if b46 then ((call 101 [r34, r34]).bind fun r47 =>
(call 101 [r41, r41]).bind fun r48 =>
(D.bin .gtr r47 r48).bind fun x49 =>
 D.truth x49) else (some false))).bind fun b50 =>
(D.truth (D.bool b50)).bind fun b51 =>
 if b51 then (some (0, [x24, (v19.getD 3 (.bool false))])) else (some (0, [(v19.getD 0 (.bool false)), (v19.getD 3 (.bool false))]))))).bind fun (r52 : Nat × List D) =>
(D.bin .add (v19.getD 2 (.bool false)) (D.int .i64 1)).bind fun x53 =>
 some (Sum.inl [(r52.2.getD 0 (.bool false)), (v19.getD 1 (.bool false)), x53, (r52.2.getD 1 (.bool false))])) else (some (Sum.inr (0, [(v19.getD 0 (.bool false)), (v19.getD 3 (.bool false))])))) [(D.int .i64 (-1)), (D.sl ((r14.2.getD 0 (.bool false)).els)), (D.int .i64 0), (D.sl ((r14.2.getD 0 (.bool false)).els))]).bind fun r54 =>
(lp (β := Nat × List D) (fun (v55 : List D) =>
(D.asSl (r54.2.getD 1 (.bool false))).bind fun l56 =>
(D.idx (D.int .i64 0) (l56.length)).bind fun i57 =>
(l56[i57]?).bind fun x58 =>
(D.truth (D.bool (!(D.beq (v55.getD 1 (.bool false)) x58)))).bind fun b59 =>
 if b59 then (if List.length ((v55.getD 0 (.bool false)).els) + List.length [(v55.getD 1 (.bool false))] <= 1073741824 then ((D.asSl (r54.2.getD 1 (.bool false))).bind fun l60 =>
(lp (β := Nat × List D) (fun (v61 : List D) =>
(D.bin .lss (v61.getD 1 (.bool false)) (D.int .i64 (l60.length))).bind fun x62 =>
(D.truth x62).bind fun b63 =>
 if b63 then (((D.asSl (r54.2.getD 1 (.bool false))).bind fun l64 =>
(D.idx (v61.getD 1 (.bool false)) (l64.length)).bind fun i65 =>
(l64[i65]?).bind fun x66 =>
(D.truth (D.bool (D.beq x66 (v55.getD 1 (.bool false))))).bind fun b67 =>
 if b67 then (some (0, [(v61.getD 0 (.bool false)), (r54.2.getD 1 (.bool false))])) else ((D.bin .lss (v61.getD 0 (.bool false)) (D.int .i64 0)).bind fun x68 =>
(D.truth x68).bind fun b69 =>
 if b69 then (some (0, [x66, (r54.2.getD 1 (.bool false))])) else ((D.asSl a0).bind fun l70 =>
(D.idx x66 (l70.length)).bind fun i71 =>
(l70[i71]?).bind fun x72 =>
(D.asSl a0).bind fun l73 =>
(D.idx (v55.getD 1 (.bool false)) (l73.length)).bind fun i74 =>
(l73[i74]?).bind fun x75 =>
(call 103 [x72, x75]).bind fun r76 =>
(D.asSl a0).bind fun l77 =>
(D.idx (v61.getD 0 (.bool false)) (l77.length)).bind fun i78 =>
(l77[i78]?).bind fun x79 =>
(D.asSl a0).bind fun l80 =>
(D.idx (v55.getD 1 (.bool false)) (l80.length)).bind fun i81 =>
(l80[i81]?).bind fun x82 =>
(call 103 [x79, x82]).bind fun r83 =>
(D.get a1 [0]).bind fun x84 =>
(call 104 [x84, r83, r76]).bind fun r85 =>
(D.bin .lss r85 (D.int .i64 0)).bind fun x86 =>
(D.truth x86).bind fun b87 =>
(if b87 then (some true) else ((D.truth (D.bool (D.beq r85 (D.int .i64 0)))).bind fun b88 =>
 if b88 then ((call 101 [r76, r76]).bind fun r89 =>
(call 101 [r83, r83]).bind fun r90 =>
(D.bin .gtr r89 r90).bind fun x91 =>
 D.truth x91) else (some false))).bind fun b92 =>
(D.truth (D.bool b92)).bind fun b93 =>
 if b93 then (some (0, [x66, (r54.2.getD 1 (.bool false))])) else (some (0, [(v61.getD 0 (.bool false)), (r54.2.getD 1 (.bool false))]))))).bind fun (r94 : Nat × List D) =>
(D.bin .add (v61.getD 1 (.bool false)) (D.int .i64 1)).bind fun x95 =>
 some (Sum.inl [(r94.2.getD 0 (.bool false)), x95])) else (some (Sum.inr (0, [(v61.getD 0 (.bool false))])))) [(D.int .i64 (-1)), (D.int .i64 0)]).bind fun r96 =>
 some (Sum.inl [(D.sl (((v55.getD 0 (.bool false)).els) ++ [(v55.getD 1 (.bool false))])), (r96.2.getD 0 (.bool false))])) else none) else (some (Sum.inr (0, [(D.sl ((v55.getD 0 (.bool false)).els))])))) [(D.sl [x16]), (r54.2.getD 0 (.bool false))]).bind fun r97 =>
 some (D.sl ((r97.2.getD 0 (.bool false)).els))
theorem L46 {lp} (hlp : LpOk lp) : leafOk 46 (m2 (F46 lp)) := leaf2 (fn := Tryz.f46) (ann := A46) hlp (by kernel_rfl) (by kernel_rfl) (fun call a0 a1 => by kernel_rfl)
def A47 : Ann := (.two .leaf (.two .leaf (.two (.two .leaf (.two (.loop ⟨[(3, .ow K1), (4, .dv (Ty.int .i64))], [], [0]⟩ [(.exit 0, ⟨[(3, .ow K1)], [], []⟩)] (.two .leaf (.two (.two (.two .leaf (.two .leaf (.two (.two .leaf (.two (.loop ⟨[(3, .ow K1), (5, .ow K1), (6, .dv Ty.bool), (7, .dv (Ty.int .i64))], [], [0, 4]⟩ [(.exit 2, ⟨[(5, .ow K1), (6, .dv Ty.bool)], [], [0, 4]⟩)] (.two .leaf (.cut [(.normal, ⟨[(3, .ow K1), (5, .ow K1), (6, .dv Ty.bool)], [], [0, 4, 7]⟩)] [0, 4, 7] [] (.two (.two (.reg [] 9) (.cut [(.normal, ⟨[(3, .ow K1), (5, .ow K1), (6, .dv Ty.bool)], [], [0, 4, 7]⟩)] [0, 4, 7] [] .leaf (.two (.reg [] 8) .leaf))) .leaf) .leaf))) .leaf)) (.cut [(.normal, ⟨[(5, .ow K1)], [], [0, 4]⟩)] [0, 4] [] .leaf .leaf)))) .leaf) .leaf))) .leaf)) .leaf)))
noncomputable def F47 (lp : Lp) (call : Nat -> List D -> Option D) (a0 : D) : Option D :=
(lp (β := Nat × List D) (fun (v1 : List D) =>
(D.asSl a0).bind fun l2 =>
(D.bin .lss (v1.getD 1 (.bool false)) (D.int .i64 (l2.length))).bind fun x3 =>
(D.truth x3).bind fun b4 =>
 if b4 then ((lp (β := Nat × List D) (fun (v5 : List D) =>
(D.bin .lss (v5.getD 3 (.bool false)) (D.int .i64 (List.length ((v5.getD 0 (.bool false)).els)))).bind fun x6 =>
(D.truth x6).bind fun b7 =>
 if b7 then (((D.asSl a0).bind fun l8 =>
(D.idx (v1.getD 1 (.bool false)) (l8.length)).bind fun i9 =>
(l8[i9]?).bind fun x10 =>
(D.idx (v5.getD 3 (.bool false)) (List.length ((v5.getD 0 (.bool false)).els))).bind fun i11 =>
(((v5.getD 0 (.bool false)).els)[i11]?).bind fun x12 =>
(call 105 [x10, x12]).bind fun r13 =>
((D.un .not (v5.getD 2 (.bool false))).bind fun x14 =>
(D.truth x14).bind fun b15 =>
(if b15 then ((D.truth r13).bind fun b16 =>
 if b16 then (some true) else ((D.asSl a0).bind fun l17 =>
(D.idx (v1.getD 1 (.bool false)) (l17.length)).bind fun i18 =>
(l17[i18]?).bind fun x19 =>
(D.idx (v5.getD 3 (.bool false)) (List.length ((v5.getD 0 (.bool false)).els))).bind fun i20 =>
(((v5.getD 0 (.bool false)).els)[i20]?).bind fun x21 =>
 D.truth (D.bool (D.beq x19 x21)))) else (some false)).bind fun b22 =>
(D.truth (D.bool b22)).bind fun b23 =>
 if b23 then ((D.asSl a0).bind fun l24 =>
(D.idx (v1.getD 1 (.bool false)) (l24.length)).bind fun i25 =>
(l24[i25]?).bind fun x26 =>
 if List.length ((v5.getD 1 (.bool false)).els) + List.length [x26] <= 1073741824 then (some (0, [(D.sl ((v5.getD 0 (.bool false)).els)), (D.sl (((v5.getD 1 (.bool false)).els) ++ [x26])), (D.bool true)])) else none) else (some (0, [(D.sl ((v5.getD 0 (.bool false)).els)), (D.sl ((v5.getD 1 (.bool false)).els)), (v5.getD 2 (.bool false))]))).bind fun (r27 : Nat × List D) =>
(D.idx (v5.getD 3 (.bool false)) (List.length ((r27.2.getD 0 (.bool false)).els))).bind fun i28 =>
(((r27.2.getD 0 (.bool false)).els)[i28]?).bind fun x29 =>
(D.asSl a0).bind fun l30 =>
(D.idx (v1.getD 1 (.bool false)) (l30.length)).bind fun i31 =>
(l30[i31]?).bind fun x32 =>
(D.truth (D.bool (!(D.beq x29 x32)))).bind fun b33 =>
 if b33 then ((D.idx (v5.getD 3 (.bool false)) (List.length ((r27.2.getD 0 (.bool false)).els))).bind fun i34 =>
(((r27.2.getD 0 (.bool false)).els)[i34]?).bind fun x35 =>
 if List.length ((r27.2.getD 1 (.bool false)).els) + List.length [x35] <= 1073741824 then (some (0, [(D.sl ((r27.2.getD 0 (.bool false)).els)), (D.sl (((r27.2.getD 1 (.bool false)).els) ++ [x35])), (r27.2.getD 2 (.bool false))])) else none) else (some (0, [(D.sl ((r27.2.getD 0 (.bool false)).els)), (D.sl ((r27.2.getD 1 (.bool false)).els)), (r27.2.getD 2 (.bool false))]))).bind fun (r36 : Nat × List D) =>
(D.bin .add (v5.getD 3 (.bool false)) (D.int .i64 1)).bind fun x37 =>
 some (Sum.inl [(D.sl ((r36.2.getD 0 (.bool false)).els)), (D.sl ((r36.2.getD 1 (.bool false)).els)), (r36.2.getD 2 (.bool false)), x37])) else (some (Sum.inr (0, [(D.sl ((v5.getD 1 (.bool false)).els)), (v5.getD 2 (.bool false))])))) [(D.sl ((v1.getD 0 (.bool false)).els)), (D.sl []), (D.bool false), (D.int .i64 0)]).bind fun r38 =>
((D.un .not (r38.2.getD 1 (.bool false))).bind fun x39 =>
(D.truth x39).bind fun b40 =>
 if b40 then ((D.asSl a0).bind fun l41 =>
(D.idx (v1.getD 1 (.bool false)) (l41.length)).bind fun i42 =>
(l41[i42]?).bind fun x43 =>
 if List.length ((r38.2.getD 0 (.bool false)).els) + List.length [x43] <= 1073741824 then (some (0, [(D.sl (((r38.2.getD 0 (.bool false)).els) ++ [x43]))])) else none) else (some (0, [(D.sl ((r38.2.getD 0 (.bool false)).els))]))).bind fun (r44 : Nat × List D) =>
(D.bin .add (v1.getD 1 (.bool false)) (D.int .i64 1)).bind fun x45 =>
 some (Sum.inl [(D.sl ((r44.2.getD 0 (.bool false)).els)), x45])) else (some (Sum.inr (0, [(D.sl ((v1.getD 0 (.bool false)).els))])))) [(D.sl []), (D.int .i64 0)]).bind fun r46 =>
 some (D.sl ((r46.2.getD 0 (.bool false)).els))
theorem L47 {lp} (hlp : LpOk lp) : leafOk 47 (m1 (F47 lp)) := leaf1 (fn := Tryz.f47) (ann := A47) hlp (by kernel_rfl) (by kernel_rfl) (fun call a0 => by kernel_rfl)
def A48 : Ann := (.two .leaf (.two .leaf (.two (.two .leaf (.two (.loop ⟨[(3, .dv K7), (4, .dv (Ty.int .i64))], [], [0]⟩ [(.exit 0, ⟨[(3, .dv K7)], [], []⟩)] (.two .leaf (.two (.two (.two .leaf (.two (.loop ⟨[(3, .dv K7), (5, .dv (Ty.int .i64))], [], [0, 4]⟩ [(.exit 2, ⟨[(3, .dv K7)], [], [0, 4]⟩)] (.two .leaf (.two (.two (.two .leaf (.two (.loop ⟨[(3, .dv K7), (6, .dv (Ty.int .i64))], [], [0, 4, 5]⟩ [(.exit 4, ⟨[(3, .dv K7)], [], [0, 4, 5]⟩)] (.two .leaf (.two (.two (.two (.reg [] 14) (.two .leaf (.two (.loop ⟨[(3, .dv K7), (7, .same (.ptr K1 49159 [])), (8, .dv (Ty.int .i64))], [(49159, .one K1 (.dv K1))], [0, 4, 5, 6]⟩ [(.exit 6, ⟨[(3, .dv K7)], [], [0, 4, 5, 6]⟩)] (.two .leaf (.two (.two (.two (.reg [] 6) (.two .leaf (.two .leaf (.cut [(.normal, ⟨[(3, .dv K7), (7, .same (.ptr K1 49159 []))], [(49159, .keep K1 7)], [0, 4, 5, 6, 8]⟩)] [0, 4, 5, 6, 8] [49159] (.two .leaf (.two (.reg [] 9) .leaf)) .leaf)))) .leaf) .leaf))) .leaf))) .leaf) .leaf))) .leaf)) .leaf) .leaf))) .leaf)) .leaf) .leaf))) .leaf)) .leaf)))
noncomputable def F48 (lp : Lp) (call : Nat -> List D -> Option D) (a0 : D) : Option D :=
(lp (β := Nat × List D) (fun (v1 : List D) =>
(D.asSl a0).bind fun l2 =>
(D.bin .lss (v1.getD 1 (.bool false)) (D.int .i64 (l2.length))).bind fun x3 =>
(D.truth x3).bind fun b4 =>
 if b4 then ((D.bin .add (v1.getD 1 (.bool false)) (D.int .i64 1)).bind fun x5 =>
(lp (β := Nat × List D) (fun (v6 : List D) =>
(D.asSl a0).bind fun l7 =>
(D.bin .lss (v6.getD 1 (.bool false)) (D.int .i64 (l7.length))).bind fun x8 =>
(D.truth x8).bind fun b9 =>
 if b9 then ((D.bin .add (v6.getD 1 (.bool false)) (D.int .i64 1)).bind fun x10 =>
(lp (β := Nat × List D) (fun (v11 : List D) =>
(D.asSl a0).bind fun l12 =>
(D.bin .lss (v11.getD 1 (.bool false)) (D.int .i64 (l12.length))).bind fun x13 =>
(D.truth x13).bind fun b14 =>
 if b14 then ((D.asSl a0).bind fun l15 =>
(D.idx (v1.getD 1 (.bool false)) (l15.length)).bind fun i16 =>
(l15[i16]?).bind fun x17 =>
(D.asSl a0).bind fun l18 =>
(D.idx (v6.getD 1 (.bool false)) (l18.length)).bind fun i19 =>
(l18[i19]?).bind fun x20 =>
(D.asSl a0).bind fun l21 =>
(D.idx (v11.getD 1 (.bool false)) (l21.length)).bind fun i22 =>
(l21[i22]?).bind fun x23 =>
(call 106 [x17, x20, x23]).bind fun r24 =>
(lp (β := Nat × List D) (fun (v25 : List D) =>
(D.bin .lss (v25.getD 1 (.bool false)) (D.int .i64 2)).bind fun x26 =>
(D.truth x26).bind fun b27 =>
 if b27 then ((D.asSl a0).bind fun l28 =>
(D.idx (v1.getD 1 (.bool false)) (l28.length)).bind fun i29 =>
(l28[i29]?).bind fun x30 =>
(call 107 [(v25.getD 2 (.bool false)), x30]).bind fun r31 =>
(call 108 [(v25.getD 0 (.bool false)), (v25.getD 2 (.bool false))]).bind fun r32 =>
((D.un .not r32).bind fun x33 =>
(D.truth x33).bind fun b34 =>
(if b34 then ((D.un .not (D.bool (D.beq (v25.getD 2 (.bool false)) (D.st [(D.int .i64 0), (D.int .i64 0), (D.int .i64 0)])))).bind fun x35 =>
 D.truth x35) else (some false)).bind fun b36 =>
(D.truth (D.bool b36)).bind fun b37 =>
(if b37 then ((call 109 [a0, (v25.getD 2 (.bool false)), r31]).bind fun r38 =>
 D.truth r38) else (some false)).bind fun b39 =>
(D.truth (D.bool b39)).bind fun b40 =>
 if b40 then ((call 111 [a0, (v25.getD 2 (.bool false)), r31]).bind fun r41 =>
(call 110 [(v25.getD 0 (.bool false)), (D.st [(v25.getD 2 (.bool false)), r31, r41])]).bind fun r42 =>
 some (0, [r42])) else (some (0, [(v25.getD 0 (.bool false))]))).bind fun (r43 : Nat × List D) =>
(call 112 [(D.st [(D.int .i64 0), (D.int .i64 0), (D.int .i64 0)]), (v25.getD 2 (.bool false))]).bind fun r44 =>
(D.bin .add (v25.getD 1 (.bool false)) (D.int .i64 1)).bind fun x45 =>
 some (Sum.inl [(r43.2.getD 0 (.bool false)), x45, r44])) else (some (Sum.inr (0, [(v25.getD 0 (.bool false))])))) [(v11.getD 0 (.bool false)), (D.int .i64 0), r24]).bind fun r46 =>
(D.bin .add (v11.getD 1 (.bool false)) (D.int .i64 1)).bind fun x47 =>
 some (Sum.inl [(r46.2.getD 0 (.bool false)), x47])) else (some (Sum.inr (0, [(v11.getD 0 (.bool false))])))) [(v6.getD 0 (.bool false)), x10]).bind fun r48 =>
(D.bin .add (v6.getD 1 (.bool false)) (D.int .i64 1)).bind fun x49 =>
 some (Sum.inl [(r48.2.getD 0 (.bool false)), x49])) else (some (Sum.inr (0, [(v6.getD 0 (.bool false))])))) [(v1.getD 0 (.bool false)), x5]).bind fun r50 =>
(D.bin .add (v1.getD 1 (.bool false)) (D.int .i64 1)).bind fun x51 =>
 some (Sum.inl [(r50.2.getD 0 (.bool false)), x51])) else (some (Sum.inr (0, [(v1.getD 0 (.bool false))])))) [(D.sl []), (D.int .i64 0)]).bind fun r52 =>
 some (r52.2.getD 0 (.bool false))
theorem L48 {lp} (hlp : LpOk lp) : leafOk 48 (m1 (F48 lp)) := leaf1 (fn := Tryz.f48) (ann := A48) hlp (by kernel_rfl) (by kernel_rfl) (fun call a0 => by kernel_rfl)
def A49 : Ann := (.two .leaf (.two .leaf (.two (.two .leaf (.two (.loop ⟨[(13, .dv (Ty.int .i64))], [], [0, 1, 12]⟩ [(.ret, ⟨[(4, .dv Ty.bool)], [], []⟩), (.exit 0, ⟨[], [], []⟩)] (.two .leaf (.two .leaf (.two (.two (.two .leaf (.two (.reg [] 8) .leaf)) .leaf) .leaf)))) .leaf)) .leaf)))
theorem L49 {lp} (hlp : LpOk lp) : leafOk 49 (evG lp 49 Tryz.f49 A49) := leafE hlp (by kernel_rfl) (by kernel_rfl)
def A51 : Ann := (.two .leaf (.two (.reg [] 12) .leaf))
noncomputable def F51 (lp : Lp) (call : Nat -> List D -> Option D) (a0 : D) (a1 : D) : Option D :=
(D.get a0 [0]).bind fun x1 =>
(D.get a1 [0]).bind fun x2 =>
(call 53 [x1, x2]).bind fun r3 =>
(D.get a0 [1]).bind fun x4 =>
(D.get a1 [1]).bind fun x5 =>
(call 53 [x4, x5]).bind fun r6 =>
(call 52 [(D.sl [r3, r6])]).bind fun r7 =>
 some r7
theorem L51 {lp} (hlp : LpOk lp) : leafOk 51 (m2 (F51 lp)) := leaf2 (fn := Tryz.f51) (ann := A51) hlp (by kernel_rfl) (by kernel_rfl) (fun call a0 a1 => by kernel_rfl)
def A52 : Ann := (.two .leaf (.two .leaf (.two (.two .leaf (.two (.loop ⟨[(8, .dv (Ty.int .i64))], [], [3, 6, 7]⟩ [(.ret, ⟨[(2, .dv (Ty.int .i64))], [], []⟩), (.exit 0, ⟨[], [], [3]⟩)] .leaf) .leaf)) .leaf)))
noncomputable def F52 (lp : Lp) (call : Nat -> List D -> Option D) (a0 : D) : Option D :=
(D.asSl a0).bind fun l1 =>
(lp (β := Nat × List D) (fun (v2 : List D) =>
(D.bin .lss (v2.getD 0 (.bool false)) (D.int .i64 (l1.length))).bind fun x3 =>
(D.truth x3).bind fun b4 =>
 if b4 then ((D.asSl a0).bind fun l5 =>
(D.idx (v2.getD 0 (.bool false)) (l5.length)).bind fun i6 =>
(l5[i6]?).bind fun x7 =>
(D.truth (D.bool (!(D.beq x7 (D.int .i64 0))))).bind fun b8 =>
 if b8 then (some (Sum.inr (0, [x7]))) else ((D.bin .add (v2.getD 0 (.bool false)) (D.int .i64 1)).bind fun x9 =>
 some (Sum.inl [x9]))) else (some (Sum.inr (1, [])))) [(D.int .i64 0)]).bind fun r10 =>
 if r10.1 = 0 then (some (r10.2.getD 0 (.bool false))) else (some (D.int .i64 0))
theorem L52 {lp} (hlp : LpOk lp) : leafOk 52 (m1 (F52 lp)) := leaf1 (fn := Tryz.f52) (ann := A52) hlp (by kernel_rfl) (by kernel_rfl) (fun call a0 => by kernel_rfl)
noncomputable def F53 (lp : Lp) (call : Nat -> List D -> Option D) (a0 : D) (a1 : D) : Option D :=
(call 115 [a0]).bind fun r1 =>
(call 115 [a1]).bind fun r2 =>
(D.truth r1).bind fun b3 =>
 if b3 then ((D.truth r2).bind fun b4 =>
 if b4 then (some (D.int .i64 0)) else (some (D.int .i64 (-1)))) else ((D.truth r2).bind fun b5 =>
 if b5 then (some (D.int .i64 1)) else ((D.bin .lss a0 a1).bind fun x6 =>
(D.truth x6).bind fun b7 =>
 if b7 then (some (D.int .i64 (-1))) else ((D.bin .gtr a0 a1).bind fun x8 =>
(D.truth x8).bind fun b9 =>
 if b9 then (some (D.int .i64 1)) else (some (D.int .i64 0)))))
theorem L53 {lp} (hlp : LpOk lp) : leafOk 53 (m2 (F53 lp)) := leaf2 (fn := Tryz.f53) (ann := .leaf) hlp (by kernel_rfl) (by kernel_rfl) (fun call a0 a1 => by kernel_rfl)
def A54 : Ann := (.two .leaf (.two .leaf (.cut [(.normal, ⟨[(2, .same (.ptr K11 4098 [])), (3, .dv (Ty.int .u64))], [(4098, .keep K11 2)], [0]⟩)] [0] [4098] .leaf .leaf)))
noncomputable def F54 (lp : Lp) (call : Nat -> List D -> Option D) (a0 : D) : Option D :=
(D.conv .u64 a0).bind fun x1 =>
((D.bin .lss a0 (D.int .i64 0)).bind fun x2 =>
(D.truth x2).bind fun b3 =>
 if b3 then ((D.un .neg x1).bind fun x4 =>
 some (0, [x4])) else (some (0, [x1]))).bind fun (r5 : Nat × List D) =>
(D.bin .lss a0 (D.int .i64 0)).bind fun x6 =>
(D.conv .u32 (r5.2.getD 0 (.bool false))).bind fun x7 =>
(D.bin .shr (r5.2.getD 0 (.bool false)) (D.int .u64 32)).bind fun x8 =>
(D.conv .u32 x8).bind fun x9 =>
(call 116 [x6, (D.st (D.putParts (List.replicate 16 (D.int .u32 0)) [(0, x7), (1, x9)]))]).bind fun r10 =>
 some r10
theorem L54 {lp} (hlp : LpOk lp) : leafOk 54 (m1 (F54 lp)) := leaf1 (fn := Tryz.f54) (ann := A54) hlp (by kernel_rfl) (by kernel_rfl) (fun call a0 => by kernel_rfl)
def A57 : Ann := (.two .leaf (.two .leaf (.two .leaf (.two (.two .leaf (.two (.two (.reg [] 8) .leaf) .leaf)) (.two (.reg [] 8) .leaf)))))
noncomputable def F57 (lp : Lp) (call : Nat -> List D -> Option D) (a0 : D) (a1 : D) : Option D :=
(call 118 [(D.sl [a0, a1])]).bind fun r1 =>
(D.un .not r1).bind fun x2 =>
(D.truth x2).bind fun b3 =>
 if b3 then ((call 119 []).bind fun r4 =>
 some r4) else ((D.get a0 [1]).bind fun x5 =>
(D.get a1 [1]).bind fun x6 =>
(D.truth (D.bool (D.beq x5 x6))).bind fun b7 =>
 if b7 then ((D.get a0 [2]).bind fun x8 =>
(D.get a1 [2]).bind fun x9 =>
(call 120 [x8, x9]).bind fun r10 =>
(D.tupAt r10 0).bind fun x11 =>
(D.tupAt r10 1).bind fun x12 =>
(D.un .not x12).bind fun x13 =>
(D.truth x13).bind fun b14 =>
 if b14 then ((call 119 []).bind fun r15 =>
 some r15) else ((D.get a0 [1]).bind fun x16 =>
(call 116 [x16, x11]).bind fun r17 =>
 some r17)) else ((D.get a0 [2]).bind fun x18 =>
(D.get a1 [2]).bind fun x19 =>
(call 121 [x18, x19]).bind fun r20 =>
(D.bin .geq r20 (D.int .i64 0)).bind fun x21 =>
(D.truth x21).bind fun b22 =>
 if b22 then ((D.get a0 [1]).bind fun x23 =>
(D.get a0 [2]).bind fun x24 =>
(D.get a1 [2]).bind fun x25 =>
(call 122 [x24, x25]).bind fun r26 =>
(call 116 [x23, r26]).bind fun r27 =>
 some r27) else ((D.get a1 [1]).bind fun x28 =>
(D.get a1 [2]).bind fun x29 =>
(D.get a0 [2]).bind fun x30 =>
(call 122 [x29, x30]).bind fun r31 =>
(call 116 [x28, r31]).bind fun r32 =>
 some r32)))
theorem L57 {lp} (hlp : LpOk lp) : leafOk 57 (m2 (F57 lp)) := leaf2 (fn := Tryz.f57) (ann := A57) hlp (by kernel_rfl) (by kernel_rfl) (fun call a0 a1 => by kernel_rfl)
def A59 : Ann := (.two .leaf (.two .leaf (.two .leaf (.two .leaf (.two .leaf (.two .leaf (.two .leaf (.two (.two .leaf (.two (.two (.reg [] 6) .leaf) .leaf)) (.two .leaf (.two (.two .leaf (.two (.two (.reg [] 6) .leaf) .leaf)) (.two (.reg [] 6) .leaf)))))))))))
noncomputable def F59 (lp : Lp) (call : Nat -> List D -> Option D) (a0 : D) (a1 : D) : Option D :=
(call 124 [a0]).bind fun r1 =>
(D.tupAt r1 0).bind fun x2 =>
(D.tupAt r1 1).bind fun x3 =>
(call 124 [a1]).bind fun r4 =>
(D.tupAt r4 0).bind fun x5 =>
(D.tupAt r4 1).bind fun x6 =>
(D.truth x3).bind fun b7 =>
(if b7 then (D.truth x6) else (some false)).bind fun b8 =>
(D.truth (D.bool b8)).bind fun b9 =>
 if b9 then ((D.bin .add x2 x5).bind fun x10 =>
(call 34 [x10]).bind fun r11 =>
 some r11) else ((call 76 [a0]).bind fun r12 =>
(D.un .not r12).bind fun x13 =>
(D.truth x13).bind fun b14 =>
(if b14 then (some true) else ((call 76 [a1]).bind fun r15 =>
(D.un .not r15).bind fun x16 =>
 D.truth x16)).bind fun b17 =>
(D.truth (D.bool b17)).bind fun b18 =>
 if b18 then ((call 125 []).bind fun r19 =>
 some r19) else ((call 77 [a0]).bind fun r20 =>
(call 77 [a1]).bind fun r21 =>
(D.get a0 [1]).bind fun x22 =>
(D.get a1 [1]).bind fun x23 =>
(D.truth (D.bool (D.beq x22 x23))).bind fun b24 =>
 if b24 then ((D.get a0 [1]).bind fun x25 =>
(call 82 [r20, r21]).bind fun r26 =>
(call 81 [x25, r26]).bind fun r27 =>
 some r27) else ((call 78 [r20, r21]).bind fun r28 =>
(D.truth r28).bind fun b29 =>
 if b29 then ((D.get a1 [1]).bind fun x30 =>
(call 126 [r21, r20]).bind fun r31 =>
(call 81 [x30, r31]).bind fun r32 =>
 some r32) else ((D.get a0 [1]).bind fun x33 =>
(call 126 [r20, r21]).bind fun r34 =>
(call 81 [x33, r34]).bind fun r35 =>
 some r35))))
theorem L59 {lp} (hlp : LpOk lp) : leafOk 59 (m2 (F59 lp)) := leaf2 (fn := Tryz.f59) (ann := A59) hlp (by kernel_rfl) (by kernel_rfl) (fun call a0 a1 => by kernel_rfl)
def A61 : Ann := (.two .leaf (.two .leaf (.two .leaf (.two (.reg [] 7) (.two (.two .leaf (.two (.loop ⟨[(2, .same (.ptr K11 4098 [])), (3, .same (.ptr K11 4099 [])), (4, .same (.ptr K11 4100 [])), (5, .same (.ptr K25 12293 [])), (24, .dv (Ty.int .i64))], [(4098, .keep K11 2), (4099, .keep K11 3), (4100, .keep K11 4), (12293, .one K25 (.dv K25))], [7, 23]⟩ [(.exit 0, ⟨[(2, .same (.ptr K11 4098 [])), (3, .same (.ptr K11 4099 [])), (4, .same (.ptr K11 4100 [])), (5, .same (.ptr K25 12293 []))], [(4098, .keep K11 2), (4099, .keep K11 3), (4100, .keep K11 4), (12293, .one K25 (.dv K25))], []⟩)] (.two .leaf (.two .leaf (.two (.two (.two .leaf (.two .leaf (.two (.two .leaf (.two (.loop ⟨[(2, .same (.ptr K11 4098 [])), (3, .same (.ptr K11 4099 [])), (4, .same (.ptr K11 4100 [])), (5, .same (.ptr K25 12293 [])), (9, .dv (Ty.int .u64)), (28, .dv (Ty.int .i64))], [(4098, .keep K11 2), (4099, .keep K11 3), (4100, .keep K11 4), (12293, .one K25 (.dv K25))], [7, 8, 23, 24, 27]⟩ [(.exit 2, ⟨[(2, .same (.ptr K11 4098 [])), (3, .same (.ptr K11 4099 [])), (4, .same (.ptr K11 4100 [])), (5, .same (.ptr K25 12293 [])), (9, .dv (Ty.int .u64))], [(4098, .keep K11 2), (4099, .keep K11 3), (4100, .keep K11 4), (12293, .one K25 (.dv K25))], [7, 8, 23, 24]⟩)] (.two .leaf (.two .leaf (.two (.two (.two .leaf (.two (.reg [] 20) .leaf)) .leaf) .leaf)))) .leaf)) .leaf))) .leaf) .leaf)))) .leaf)) (.two .leaf (.two (.reg [] 9) .leaf)))))))
noncomputable def F61 (lp : Lp) (call : Nat -> List D -> Option D) (a0 : D) (a1 : D) : Option D :=
(call 118 [(D.sl [a0, a1])]).bind fun r1 =>
(D.un .not r1).bind fun x2 =>
(D.truth x2).bind fun b3 =>
 if b3 then ((call 119 []).bind fun r4 =>
 some r4) else ((D.get a0 [2]).bind fun x5 =>
(call 127 [x5]).bind fun r6 =>
(D.get a1 [2]).bind fun x7 =>
(call 127 [x7]).bind fun r8 =>
(lp (β := Nat × List D) (fun (v9 : List D) =>
(D.bin .lss (v9.getD 0 (.bool false)) r6).bind fun x10 =>
(D.truth x10).bind fun b11 =>
 if b11 then ((lp (β := Nat × List D) (fun (v12 : List D) =>
(D.bin .lss (v12.getD 1 (.bool false)) r8).bind fun x13 =>
(D.truth x13).bind fun b14 =>
 if b14 then ((D.idx (v9.getD 0 (.bool false)) 16).bind fun i15 =>
(D.get a0 [2, i15]).bind fun x16 =>
(D.conv .u64 x16).bind fun x17 =>
(D.idx (v12.getD 1 (.bool false)) 16).bind fun i18 =>
(D.get a1 [2, i18]).bind fun x19 =>
(D.conv .u64 x19).bind fun x20 =>
(D.bin .mul x17 x20).bind fun x21 =>
(D.bin .add (v9.getD 0 (.bool false)) (v12.getD 1 (.bool false))).bind fun x22 =>
(D.idx x22 32).bind fun i23 =>
(D.get (v12.getD 2 (.bool false)) [i23]).bind fun x24 =>
(D.conv .u64 x24).bind fun x25 =>
(D.bin .add x21 x25).bind fun x26 =>
(D.bin .add (v12.getD 0 (.bool false)) x26).bind fun x27 =>
(D.bin .add (v9.getD 0 (.bool false)) (v12.getD 1 (.bool false))).bind fun x28 =>
(D.conv .u32 x27).bind fun x29 =>
(D.idx x28 32).bind fun i30 =>
(D.set (v12.getD 2 (.bool false)) [i30] x29).bind fun x31 =>
(D.bin .shr x27 (D.int .u64 32)).bind fun x32 =>
(D.bin .add (v12.getD 1 (.bool false)) (D.int .i64 1)).bind fun x33 =>
 some (Sum.inl [x32, x33, x31])) else (some (Sum.inr (0, [(v12.getD 0 (.bool false)), (v12.getD 2 (.bool false))])))) [(D.int .u64 0), (D.int .i64 0), (v9.getD 1 (.bool false))]).bind fun r34 =>
(D.bin .add (v9.getD 0 (.bool false)) r8).bind fun x35 =>
(D.conv .u32 (r34.2.getD 0 (.bool false))).bind fun x36 =>
(D.idx x35 32).bind fun i37 =>
(D.set (r34.2.getD 1 (.bool false)) [i37] x36).bind fun x38 =>
(D.bin .add (v9.getD 0 (.bool false)) (D.int .i64 1)).bind fun x39 =>
 some (Sum.inl [x39, x38])) else (some (Sum.inr (0, [(v9.getD 1 (.bool false))])))) [(D.int .i64 0), (zeroD K25)]).bind fun r40 =>
(match (r40.2.getD 0 (.bool false)) with
| D.st l41 => (if decide (16 + 16 <= l41.length) then ((D.truth (D.bool (!(D.beq (D.st (List.take 16 (List.drop 16 l41))) (D.st (D.putParts (List.replicate 16 (D.int .u32 0)) [])))))).bind fun b42 =>
 if b42 then ((call 119 []).bind fun r43 =>
 some r43) else ((D.get a0 [1]).bind fun x44 =>
(D.get a1 [1]).bind fun x45 =>
(match (r40.2.getD 0 (.bool false)) with
| D.st l46 => (if decide (0 + 16 <= l46.length) then ((call 116 [(D.bool (!(D.beq x44 x45))), (D.st (List.take 16 (List.drop 0 l46)))]).bind fun r47 =>
 some r47) else none)
| _ => none))) else none)
| _ => none))
theorem L61 {lp} (hlp : LpOk lp) : leafOk 61 (m2 (F61 lp)) := leaf2 (fn := Tryz.f61) (ann := A61) hlp (by kernel_rfl) (by kernel_rfl) (fun call a0 a1 => by kernel_rfl)
def A62 : Ann := (.two .leaf (.two .leaf (.two .leaf (.cut [(.normal, ⟨[(2, .same (.ptr K11 4098 [])), (3, .same (.ptr K11 4099 [])), (4, .same (.ptr K12 4100 [])), (5, .same (.ptr K11 12293 []))], [(4098, .keep K11 2), (4099, .keep K11 3), (4100, .keep K12 4), (12293, .one K11 (.dv K11))], []⟩)] [] [4098, 4099, 4100] .leaf (.two (.reg [] 7) .leaf)))))
noncomputable def F62 (lp : Lp) (call : Nat -> List D -> Option D) (a0 : D) (a1 : D) : Option D :=
(call 128 [a0]).bind fun r1 =>
(D.un .not r1).bind fun x2 =>
(D.truth x2).bind fun b3 =>
(if b3 then (some true) else ((call 128 [a1]).bind fun r4 =>
(D.un .not r4).bind fun x5 =>
 D.truth x5)).bind fun b6 =>
(D.truth (D.bool b6)).bind fun b7 =>
(if b7 then (some true) else ((call 129 [a1]).bind fun r8 =>
 D.truth (D.bool (D.beq r8 (D.int .i64 0))))).bind fun b9 =>
(D.truth (D.bool b9)).bind fun b10 =>
 if b10 then ((call 130 []).bind fun r11 =>
 some r11) else ((call 131 [a0, a1]).bind fun r12 =>
((call 129 [a1]).bind fun r13 =>
(D.bin .lss r13 (D.int .i64 0)).bind fun x14 =>
(D.truth x14).bind fun b15 =>
 if b15 then ((call 68 [r12]).bind fun r16 =>
 some (0, [r16])) else (some (0, [r12]))).bind fun (r17 : Nat × List D) =>
(call 132 [a0, (r17.2.getD 0 (.bool false))]).bind fun r18 =>
(call 132 [a1, (r17.2.getD 0 (.bool false))]).bind fun r19 =>
 some (D.st [r18, r19]))
theorem L62 {lp} (hlp : LpOk lp) : leafOk 62 (m2 (F62 lp)) := leaf2 (fn := Tryz.f62) (ann := A62) hlp (by kernel_rfl) (by kernel_rfl) (fun call a0 a1 => by kernel_rfl)
noncomputable def F68 (lp : Lp) (call : Nat -> List D -> Option D) (a0 : D) : Option D :=
(call 118 [(D.sl [a0])]).bind fun r1 =>
(D.un .not r1).bind fun x2 =>
(D.truth x2).bind fun b3 =>
 if b3 then ((call 119 []).bind fun r4 =>
 some r4) else ((D.get a0 [1]).bind fun x5 =>
(D.un .not x5).bind fun x6 =>
(D.get a0 [2]).bind fun x7 =>
(call 116 [x6, x7]).bind fun r8 =>
 some r8)
theorem L68 {lp} (hlp : LpOk lp) : leafOk 68 (m1 (F68 lp)) := leaf1 (fn := Tryz.f68) (ann := .leaf) hlp (by kernel_rfl) (by kernel_rfl) (fun call a0 => by kernel_rfl)
noncomputable def F71 (lp : Lp) (call : Nat -> List D -> Option D) (a0 : D) : Option D :=
(D.get a0 [0, 0, 0]).bind fun x1 =>
(D.truth x1).bind fun b2 =>
(if b2 then (some true) else ((D.get a0 [1, 0, 0]).bind fun x3 =>
 D.truth x3)).bind fun b4 =>
(D.truth (D.bool b4)).bind fun b5 =>
(if b5 then (some true) else ((D.get a0 [2, 0, 0]).bind fun x6 =>
 D.truth x6)).bind fun b7 =>
 some (D.bool b7)
theorem L71 {lp} (hlp : LpOk lp) : leafOk 71 (m1 (F71 lp)) := leaf1 (fn := Tryz.f71) (ann := .leaf) hlp (by kernel_rfl) (by kernel_rfl) (fun call a0 => by kernel_rfl)
def A72 : Ann := (.two .leaf (.two (.reg [] 4) .leaf))
noncomputable def F72 (lp : Lp) (call : Nat -> List D -> Option D) (a0 : D) (a1 : D) : Option D :=
(call 135 [a0]).bind fun r1 =>
(call 134 [r1, a1]).bind fun r2 =>
 some r2
theorem L72 {lp} (hlp : LpOk lp) : leafOk 72 (m2 (F72 lp)) := leaf2 (fn := Tryz.f72) (ann := A72) hlp (by kernel_rfl) (by kernel_rfl) (fun call a0 a1 => by kernel_rfl)
def A73 : Ann := (.two .leaf (.two (.reg [] 5) (.two .leaf (.two .leaf (.two .leaf (.two (.two (.loop ⟨[(2, .same (.ptr K12 4098 [])), (3, .same (.ptr K12 4099 [])), (7, .dv (Ty.int .i64))], [(4098, .one K12 (.dv K12)), (4099, .one K12 (.dv K12))], []⟩ [(.exit 1, ⟨[(7, .dv (Ty.int .i64))], [], []⟩)] (.two (.two (.two (.reg [] 11) .leaf) (.two (.reg [] 16) (.two (.reg [] 7) .leaf))) .leaf)) .leaf) .leaf))))))
noncomputable def F73 (lp : Lp) (call : Nat -> List D -> Option D) (a0 : D) (a1 : D) : Option D :=
(call 136 [a0]).bind fun r1 =>
(call 136 [a1]).bind fun r2 =>
(D.un .not r1).bind fun x3 =>
(D.truth x3).bind fun b4 =>
(if b4 then ((D.un .not r2).bind fun x5 =>
 D.truth x5) else (some false)).bind fun b6 =>
(D.truth (D.bool b6)).bind fun b7 =>
 if b7 then (some (D.int .i64 0)) else ((D.un .not r1).bind fun x8 =>
(D.truth x8).bind fun b9 =>
 if b9 then (some (D.int .i64 (-1))) else ((D.un .not r2).bind fun x10 =>
(D.truth x10).bind fun b11 =>
 if b11 then (some (D.int .i64 1)) else ((lp (β := Nat × List D) (fun (v12 : List D) =>
(D.get (v12.getD 1 (.bool false)) [0]).bind fun x13 =>
(D.get (v12.getD 1 (.bool false)) [1]).bind fun x14 =>
(call 132 [x13, x14]).bind fun r15 =>
(D.get (v12.getD 2 (.bool false)) [0]).bind fun x16 =>
(D.get (v12.getD 2 (.bool false)) [1]).bind fun x17 =>
(call 132 [x16, x17]).bind fun r18 =>
(call 90 [r15, r18]).bind fun r19 =>
(D.truth (D.bool (!(D.beq r19 (D.int .i64 0))))).bind fun b20 =>
 if b20 then ((D.bin .mul (v12.getD 0 (.bool false)) r19).bind fun x21 =>
 some (Sum.inr (0, [x21]))) else ((D.get (v12.getD 1 (.bool false)) [1]).bind fun x22 =>
(D.get (v12.getD 1 (.bool false)) [0]).bind fun x23 =>
(D.get (v12.getD 1 (.bool false)) [1]).bind fun x24 =>
(call 137 [x23, x24]).bind fun r25 =>
(D.get (v12.getD 2 (.bool false)) [1]).bind fun x26 =>
(D.get (v12.getD 2 (.bool false)) [0]).bind fun x27 =>
(D.get (v12.getD 2 (.bool false)) [1]).bind fun x28 =>
(call 137 [x27, x28]).bind fun r29 =>
(call 129 [r25]).bind fun r30 =>
(call 129 [r29]).bind fun r31 =>
(D.truth (D.bool (D.beq r30 (D.int .i64 0)))).bind fun b32 =>
(if b32 then (some true) else (D.truth (D.bool (D.beq r31 (D.int .i64 0))))).bind fun b33 =>
(D.truth (D.bool b33)).bind fun b34 =>
 if b34 then ((D.bin .sub r30 r31).bind fun x35 =>
(D.bin .mul (v12.getD 0 (.bool false)) x35).bind fun x36 =>
 some (Sum.inr (0, [x36]))) else ((D.un .neg (v12.getD 0 (.bool false))).bind fun x37 =>
 some (Sum.inl [x37, (D.st [x22, r25]), (D.st [x26, r29])])))) [(D.int .i64 1), a0, a1]).bind fun r38 =>
 some (r38.2.getD 0 (.bool false)))))
theorem L73 {lp} (hlp : LpOk lp) : leafOk 73 (m2 (F73 lp)) := leaf2 (fn := Tryz.f73) (ann := A73) hlp (by kernel_rfl) (by kernel_rfl) (fun call a0 a1 => by kernel_rfl)
noncomputable def F74 (lp : Lp) (call : Nat -> List D -> Option D) (a0 : D) : Option D :=
(call 54 [a0]).bind fun r1 =>
(call 138 [r1]).bind fun r2 =>
 some r2
theorem L74 {lp} (hlp : LpOk lp) : leafOk 74 (m1 (F74 lp)) := leaf1 (fn := Tryz.f74) (ann := .leaf) hlp (by kernel_rfl) (by kernel_rfl) (fun call a0 => by kernel_rfl)
noncomputable def F75 (lp : Lp) (call : Nat -> List D -> Option D) (a0 : D) : Option D :=
(call 34 [a0]).bind fun r1 =>
(call 133 []).bind fun r2 =>
(call 37 [r1, r2]).bind fun r3 =>
 some r3
theorem L75 {lp} (hlp : LpOk lp) : leafOk 75 (m1 (F75 lp)) := leaf1 (fn := Tryz.f75) (ann := .leaf) hlp (by kernel_rfl) (by kernel_rfl) (fun call a0 => by kernel_rfl)
end Go.Proofs.YtjjjkojfijpeeaaGreat.Sy
end
section
set_option maxRecDepth 20000
set_option maxHeartbeats 0
set_option linter.unusedVariables false
namespace Go.Proofs.YtjjjkojfijpeeaaGreat.Sy
open Go Go.Proofs
noncomputable def F76 (lp : Lp) (call : Nat -> List D -> Option D) (a0 : D) : Option D :=
(call 139 [a0]).bind fun r1 =>
(D.truth r1).bind fun b2 =>
(if b2 then ((D.get a0 [0]).bind fun x3 =>
(D.un .not x3).bind fun x4 =>
 D.truth x4) else (some false)).bind fun b5 =>
 some (D.bool b5)
theorem L76 {lp} (hlp : LpOk lp) : leafOk 76 (m1 (F76 lp)) := leaf1 (fn := Tryz.f76) (ann := .leaf) hlp (by kernel_rfl) (by kernel_rfl) (fun call a0 => by kernel_rfl)
def A77 : Ann := (.two .leaf (.two .leaf (.two (.two .leaf (.two (.loop ⟨[(1, .same (.ptr K11 4097 [])), (3, .ow (Ty.int .i64)), (4, .dv (Ty.int .i64))], [(4097, .keep K11 1)], []⟩ [(.exit 0, ⟨[(3, .ow (Ty.int .i64))], [], []⟩)] (.two .leaf (.two (.two (.reg [] 14) .leaf) .leaf))) .leaf)) .leaf)))
noncomputable def F77 (lp : Lp) (call : Nat -> List D -> Option D) (a0 : D) : Option D :=
(lp (β := Nat × List D) (fun (v1 : List D) =>
(D.bin .lss (v1.getD 1 (.bool false)) (D.int .i64 16)).bind fun x2 =>
(D.truth x2).bind fun b3 =>
 if b3 then ((D.idx (v1.getD 1 (.bool false)) 16).bind fun i4 =>
(D.get a0 [2, i4]).bind fun x5 =>
(D.bin .rem x5 (D.int .u32 65536)).bind fun x6 =>
(D.conv .i64 x6).bind fun x7 =>
(D.idx (v1.getD 1 (.bool false)) 16).bind fun i8 =>
(D.get a0 [2, i8]).bind fun x9 =>
(D.bin .quo x9 (D.int .u32 65536)).bind fun x10 =>
(D.conv .i64 x10).bind fun x11 =>
 if List.length ((v1.getD 0 (.bool false)).els) + List.length [x7, x11] <= 1073741824 then ((D.bin .add (v1.getD 1 (.bool false)) (D.int .i64 1)).bind fun x12 =>
 some (Sum.inl [(D.sl (((v1.getD 0 (.bool false)).els) ++ [x7, x11])), x12])) else none) else (some (Sum.inr (0, [(D.sl ((v1.getD 0 (.bool false)).els))])))) [(D.sl []), (D.int .i64 0)]).bind fun r13 =>
(call 140 [(D.sl ((r13.2.getD 0 (.bool false)).els))]).bind fun r14 =>
 some r14
theorem L77 {lp} (hlp : LpOk lp) : leafOk 77 (m1 (F77 lp)) := leaf1 (fn := Tryz.f77) (ann := A77) hlp (by kernel_rfl) (by kernel_rfl) (fun call a0 => by kernel_rfl)
def A78 : Ann := (.two .leaf (.two (.two .leaf (.two (.loop ⟨[(5, .dv (Ty.int .i64))], [], [0, 1]⟩ [(.ret, ⟨[(4, .dv Ty.bool)], [], []⟩), (.exit 0, ⟨[], [], []⟩)] .leaf) .leaf)) .leaf))
noncomputable def F78 (lp : Lp) (call : Nat -> List D -> Option D) (a0 : D) (a1 : D) : Option D :=
(D.asSl a0).bind fun l1 =>
(D.asSl a1).bind fun l2 =>
(D.max2 (D.int .i64 (l1.length)) (D.int .i64 (l2.length))).bind fun x3 =>
(D.bin .sub x3 (D.int .i64 1)).bind fun x4 =>
(lp (β := Nat × List D) (fun (v5 : List D) =>
(D.bin .geq (v5.getD 0 (.bool false)) (D.int .i64 0)).bind fun x6 =>
(D.truth x6).bind fun b7 =>
 if b7 then ((call 141 [a0, (v5.getD 0 (.bool false))]).bind fun r8 =>
(call 141 [a1, (v5.getD 0 (.bool false))]).bind fun r9 =>
(D.truth (D.bool (!(D.beq r8 r9)))).bind fun b10 =>
 if b10 then ((call 141 [a0, (v5.getD 0 (.bool false))]).bind fun r11 =>
(call 141 [a1, (v5.getD 0 (.bool false))]).bind fun r12 =>
(D.bin .lss r11 r12).bind fun x13 =>
 some (Sum.inr (0, [x13]))) else ((D.bin .sub (v5.getD 0 (.bool false)) (D.int .i64 1)).bind fun x14 =>
 some (Sum.inl [x14]))) else (some (Sum.inr (1, [])))) [x4]).bind fun r15 =>
 if r15.1 = 0 then (some (r15.2.getD 0 (.bool false))) else (some (D.bool false))
theorem L78 {lp} (hlp : LpOk lp) : leafOk 78 (m2 (F78 lp)) := leaf2 (fn := Tryz.f78) (ann := A78) hlp (by kernel_rfl) (by kernel_rfl) (fun call a0 a1 => by kernel_rfl)
def A79 : Ann := (.two .leaf (.two .leaf (.two (.reg [] 7) (.two (.reg [] 7) .leaf))))
noncomputable def F79 (lp : Lp) (call : Nat -> List D -> Option D) (a0 : D) (a1 : D) : Option D :=
(D.get a0 [0]).bind fun x1 =>
(D.get a1 [0]).bind fun x2 =>
(call 89 [x1, x2]).bind fun r3 =>
(D.get a0 [1]).bind fun x4 =>
(D.get a1 [1]).bind fun x5 =>
(call 89 [x4, x5]).bind fun r6 =>
(call 59 [r3, r6]).bind fun r7 =>
(D.get a0 [2]).bind fun x8 =>
(D.get a1 [2]).bind fun x9 =>
(call 89 [x8, x9]).bind fun r10 =>
(call 59 [r7, r10]).bind fun r11 =>
 some r11
theorem L79 {lp} (hlp : LpOk lp) : leafOk 79 (m2 (F79 lp)) := leaf2 (fn := Tryz.f79) (ann := A79) hlp (by kernel_rfl) (by kernel_rfl) (fun call a0 a1 => by kernel_rfl)
def A80 : Ann := (.two .leaf (.two (.reg [] 10) .leaf))
noncomputable def F80 (lp : Lp) (call : Nat -> List D -> Option D) (a0 : D) : Option D :=
(D.get a0 [0]).bind fun x1 =>
(call 34 [x1]).bind fun r2 =>
(D.get a0 [1]).bind fun x3 =>
(call 34 [x3]).bind fun r4 =>
(D.get a0 [2]).bind fun x5 =>
(call 34 [x5]).bind fun r6 =>
 some (D.st [r2, r4, r6])
theorem L80 {lp} (hlp : LpOk lp) : leafOk 80 (m1 (F80 lp)) := leaf1 (fn := Tryz.f80) (ann := A80) hlp (by kernel_rfl) (by kernel_rfl) (fun call a0 => by kernel_rfl)
def A81 : Ann := (.two .leaf (.two .leaf (.two .leaf (.two .leaf (.two (.two .leaf (.two (.loop ⟨[(4, .same (.ptr K11 4100 [])), (6, .same (.ptr K11 16390 [])), (7, .dv (Ty.int .i64))], [(4100, .keep K11 4), (16390, .one K11 (.dv K11))], [5]⟩ [(.exit 0, ⟨[(4, .same (.ptr K11 4100 [])), (6, .same (.ptr K11 16390 []))], [(4100, .keep K11 4), (16390, .one K11 (.dv K11))], []⟩)] (.two .leaf (.cut [(.normal, ⟨[(4, .same (.ptr K11 4100 [])), (6, .same (.ptr K11 16390 []))], [(4100, .keep K11 4), (16390, .one K11 (.dv K11))], [5, 7]⟩)] [5, 7] [4100] (.two (.two .leaf (.two (.reg [] 15) (.reg [] 16))) .leaf) .leaf))) .leaf)) .leaf)))))
noncomputable def F81 (lp : Lp) (call : Nat -> List D -> Option D) (a0 : D) (a1 : D) : Option D :=
(call 140 [a1]).bind fun r1 =>
(D.asSl r1).bind fun l2 =>
(D.bin .gtr (D.int .i64 (l2.length)) (D.int .i64 32)).bind fun x3 =>
(D.truth x3).bind fun b4 =>
 if b4 then ((call 125 []).bind fun r5 =>
 some r5) else ((D.truth a0).bind fun b6 =>
(if b6 then ((D.asSl r1).bind fun l7 =>
(D.bin .gtr (D.int .i64 (l7.length)) (D.int .i64 0)).bind fun x8 =>
 D.truth x8) else (some false)).bind fun b9 =>
(lp (β := Nat × List D) (fun (v10 : List D) =>
(D.asSl r1).bind fun l11 =>
(D.bin .lss (v10.getD 0 (.bool false)) (D.int .i64 (l11.length))).bind fun x12 =>
(D.truth x12).bind fun b13 =>
 if b13 then (((D.bin .rem (v10.getD 0 (.bool false)) (D.int .i64 2)).bind fun x14 =>
(D.truth (D.bool (D.beq x14 (D.int .i64 0)))).bind fun b15 =>
 if b15 then ((D.bin .quo (v10.getD 0 (.bool false)) (D.int .i64 2)).bind fun x16 =>
(D.bin .quo (v10.getD 0 (.bool false)) (D.int .i64 2)).bind fun x17 =>
(D.idx x17 16).bind fun i18 =>
(D.get (v10.getD 1 (.bool false)) [2, i18]).bind fun x19 =>
(D.asSl r1).bind fun l20 =>
(D.idx (v10.getD 0 (.bool false)) (l20.length)).bind fun i21 =>
(l20[i21]?).bind fun x22 =>
(D.conv .u32 x22).bind fun x23 =>
(D.bin .add x19 x23).bind fun x24 =>
(D.idx x16 16).bind fun i25 =>
(D.set (v10.getD 1 (.bool false)) [2, i25] x24).bind fun x26 =>
 some (0, [x26])) else ((D.bin .quo (v10.getD 0 (.bool false)) (D.int .i64 2)).bind fun x27 =>
(D.bin .quo (v10.getD 0 (.bool false)) (D.int .i64 2)).bind fun x28 =>
(D.idx x28 16).bind fun i29 =>
(D.get (v10.getD 1 (.bool false)) [2, i29]).bind fun x30 =>
(D.asSl r1).bind fun l31 =>
(D.idx (v10.getD 0 (.bool false)) (l31.length)).bind fun i32 =>
(l31[i32]?).bind fun x33 =>
(D.conv .u32 x33).bind fun x34 =>
(D.bin .mul x34 (D.int .u32 65536)).bind fun x35 =>
(D.bin .add x30 x35).bind fun x36 =>
(D.idx x27 16).bind fun i37 =>
(D.set (v10.getD 1 (.bool false)) [2, i37] x36).bind fun x38 =>
 some (0, [x38]))).bind fun (r39 : Nat × List D) =>
(D.bin .add (v10.getD 0 (.bool false)) (D.int .i64 1)).bind fun x40 =>
 some (Sum.inl [x40, (r39.2.getD 0 (.bool false))])) else (some (Sum.inr (0, [(v10.getD 1 (.bool false))])))) [(D.int .i64 0), (D.st [(D.bool false), (D.bool b9), (zeroD K10)])]).bind fun r41 =>
 some (r41.2.getD 0 (.bool false)))
theorem L81 {lp} (hlp : LpOk lp) : leafOk 81 (m2 (F81 lp)) := leaf2 (fn := Tryz.f81) (ann := A81) hlp (by kernel_rfl) (by kernel_rfl) (fun call a0 a1 => by kernel_rfl)
def A82 : Ann := (.two .leaf (.two .leaf (.two .leaf (.two (.two .leaf (.two (.loop ⟨[(5, .ow (Ty.int .i64)), (6, .dv (Ty.int .i64)), (7, .dv (Ty.int .i64))], [], [0, 1]⟩ [(.exit 0, ⟨[(5, .ow (Ty.int .i64))], [], []⟩)] .leaf) .leaf)) .leaf))))
noncomputable def F82 (lp : Lp) (call : Nat -> List D -> Option D) (a0 : D) (a1 : D) : Option D :=
(lp (β := Nat × List D) (fun (v1 : List D) =>
(D.asSl a0).bind fun l2 =>
(D.asSl a1).bind fun l3 =>
(D.max2 (D.int .i64 (l2.length)) (D.int .i64 (l3.length))).bind fun x4 =>
(D.bin .add x4 (D.int .i64 1)).bind fun x5 =>
(D.bin .lss (v1.getD 2 (.bool false)) x5).bind fun x6 =>
(D.truth x6).bind fun b7 =>
 if b7 then ((call 141 [a0, (v1.getD 2 (.bool false))]).bind fun r8 =>
(call 141 [a1, (v1.getD 2 (.bool false))]).bind fun r9 =>
(D.bin .add r8 r9).bind fun x10 =>
(D.bin .add x10 (v1.getD 1 (.bool false))).bind fun x11 =>
(D.bin .rem x11 (D.int .i64 65536)).bind fun x12 =>
 if List.length ((v1.getD 0 (.bool false)).els) + List.length [x12] <= 1073741824 then ((D.bin .quo x11 (D.int .i64 65536)).bind fun x13 =>
(D.bin .add (v1.getD 2 (.bool false)) (D.int .i64 1)).bind fun x14 =>
 some (Sum.inl [(D.sl (((v1.getD 0 (.bool false)).els) ++ [x12])), x13, x14])) else none) else (some (Sum.inr (0, [(D.sl ((v1.getD 0 (.bool false)).els))])))) [(D.sl []), (D.int .i64 0), (D.int .i64 0)]).bind fun r15 =>
(call 140 [(D.sl ((r15.2.getD 0 (.bool false)).els))]).bind fun r16 =>
 some r16
theorem L82 {lp} (hlp : LpOk lp) : leafOk 82 (m2 (F82 lp)) := leaf2 (fn := Tryz.f82) (ann := A82) hlp (by kernel_rfl) (by kernel_rfl) (fun call a0 a1 => by kernel_rfl)
noncomputable def F83 (lp : Lp) (call : Nat -> List D -> Option D) (a0 : D) : Option D :=
(call 76 [a0]).bind fun r1 =>
(D.un .not r1).bind fun x2 =>
(D.truth x2).bind fun b3 =>
(if b3 then (some true) else ((call 77 [a0]).bind fun r4 =>
(D.asSl r4).bind fun l5 =>
 D.truth (D.bool (D.beq (D.int .i64 (l5.length)) (D.int .i64 0))))).bind fun b6 =>
(D.truth (D.bool b6)).bind fun b7 =>
 if b7 then (some (D.int .i64 0)) else ((D.get a0 [1]).bind fun x8 =>
(D.truth x8).bind fun b9 =>
 if b9 then (some (D.int .i64 (-1))) else (some (D.int .i64 1)))
theorem L83 {lp} (hlp : LpOk lp) : leafOk 83 (m1 (F83 lp)) := leaf1 (fn := Tryz.f83) (ann := .leaf) hlp (by kernel_rfl) (by kernel_rfl) (fun call a0 => by kernel_rfl)
noncomputable def F84 (lp : Lp) (call : Nat -> List D -> Option D)  : Option D :=
(call 125 []).bind fun r1 =>
(call 133 []).bind fun r2 =>
 some (D.st [r1, r2])
theorem L84 {lp} (hlp : LpOk lp) : leafOk 84 (m0 (F84 lp)) := leaf0 (fn := Tryz.f84) (ann := .leaf) hlp (by kernel_rfl) (by kernel_rfl) (fun call => by kernel_rfl)
def A85 : Ann := (.two .leaf (.two .leaf (.two .leaf (.two (.two .leaf (.two (.two (.two (.loop ⟨[(4, .same (.ptr K11 4100 [])), (5, .dv (Ty.int .i64)), (7, .dv (Ty.int .i64))], [(4100, .keep K11 4)], []⟩ [(.exit 0, ⟨[(4, .same (.ptr K11 4100 [])), (5, .dv (Ty.int .i64))], [(4100, .keep K11 4)], []⟩)] .leaf) .leaf) .leaf) .leaf)) (.two .leaf (.two .leaf (.two .leaf (.two (.two (.loop ⟨[(4, .same (.ptr K11 4100 [])), (10, .dv K5), (11, .dv K5)], [(4100, .keep K11 4)], []⟩ [(.exit 2, ⟨[(4, .same (.ptr K11 4100 [])), (10, .dv K5)], [(4100, .keep K11 4)], []⟩)] .leaf) .leaf) .leaf))))))))
noncomputable def F85 (lp : Lp) (call : Nat -> List D -> Option D) (a0 : D) (a1 : D) : Option D :=
(call 124 [a0]).bind fun r1 =>
(D.tupAt r1 0).bind fun x2 =>
(D.tupAt r1 1).bind fun x3 =>
(call 124 [a1]).bind fun r4 =>
(D.tupAt r4 0).bind fun x5 =>
(D.tupAt r4 1).bind fun x6 =>
(D.truth x3).bind fun b7 =>
(if b7 then (D.truth x6) else (some false)).bind fun b8 =>
(D.truth (D.bool b8)).bind fun b9 =>
 if b9 then ((lp (β := Nat × List D) (fun (v10 : List D) =>
(D.truth (D.bool (!(D.beq (v10.getD 1 (.bool false)) (D.int .i64 0))))).bind fun b11 =>
 if b11 then ((D.bin .rem (v10.getD 0 (.bool false)) (v10.getD 1 (.bool false))).bind fun x12 =>
 some (Sum.inl [(v10.getD 1 (.bool false)), x12])) else (some (Sum.inr (0, [(v10.getD 0 (.bool false))])))) [x2, x5]).bind fun r13 =>
(call 34 [(r13.2.getD 0 (.bool false))]).bind fun r14 =>
(call 142 [r14]).bind fun r15 =>
 some r15) else ((call 76 [a0]).bind fun r16 =>
(D.un .not r16).bind fun x17 =>
(D.truth x17).bind fun b18 =>
(if b18 then (some true) else ((call 76 [a1]).bind fun r19 =>
(D.un .not r19).bind fun x20 =>
 D.truth x20)).bind fun b21 =>
(D.truth (D.bool b21)).bind fun b22 =>
 if b22 then ((call 125 []).bind fun r23 =>
 some r23) else ((call 77 [a0]).bind fun r24 =>
(call 77 [a1]).bind fun r25 =>
(lp (β := Nat × List D) (fun (v26 : List D) =>
(D.asSl (v26.getD 1 (.bool false))).bind fun l27 =>
(D.bin .gtr (D.int .i64 (l27.length)) (D.int .i64 0)).bind fun x28 =>
(D.truth x28).bind fun b29 =>
 if b29 then ((call 143 [(v26.getD 0 (.bool false)), (v26.getD 1 (.bool false))]).bind fun r30 =>
(D.tupAt r30 0).bind fun x31 =>
(D.tupAt r30 1).bind fun x32 =>
 some (Sum.inl [(v26.getD 1 (.bool false)), x32])) else (some (Sum.inr (0, [(v26.getD 0 (.bool false))])))) [r24, r25]).bind fun r33 =>
(call 81 [(D.bool false), (r33.2.getD 0 (.bool false))]).bind fun r34 =>
 some r34))
theorem L85 {lp} (hlp : LpOk lp) : leafOk 85 (m2 (F85 lp)) := leaf2 (fn := Tryz.f85) (ann := A85) hlp (by kernel_rfl) (by kernel_rfl) (fun call a0 a1 => by kernel_rfl)
def A86 : Ann := (.two .leaf (.two .leaf (.two (.reg [] 6) .leaf)))
noncomputable def F86 (lp : Lp) (call : Nat -> List D -> Option D) (a0 : D) : Option D :=
(call 76 [a0]).bind fun r1 =>
(D.un .not r1).bind fun x2 =>
(D.truth x2).bind fun b3 =>
 if b3 then ((call 125 []).bind fun r4 =>
 some r4) else ((D.get a0 [1]).bind fun x5 =>
(D.un .not x5).bind fun x6 =>
(call 77 [a0]).bind fun r7 =>
(call 81 [x6, r7]).bind fun r8 =>
 some r8)
theorem L86 {lp} (hlp : LpOk lp) : leafOk 86 (m1 (F86 lp)) := leaf1 (fn := Tryz.f86) (ann := A86) hlp (by kernel_rfl) (by kernel_rfl) (fun call a0 => by kernel_rfl)
def A87 : Ann := (.two .leaf (.two .leaf (.two .leaf (.two .leaf (.two .leaf (.two (.reg [] 9) (.cut [(.normal, ⟨[(2, .same (.ptr K11 4098 [])), (3, .same (.ptr K11 4099 [])), (4, .same (.ptr K11 4100 [])), (9, .dv K5)], [(4098, .keep K11 2), (4099, .keep K11 3), (4100, .keep K11 4)], []⟩)] [] [4098, 4099, 4100] .leaf .leaf)))))))
noncomputable def F87 (lp : Lp) (call : Nat -> List D -> Option D) (a0 : D) (a1 : D) : Option D :=
(call 124 [a0]).bind fun r1 =>
(D.tupAt r1 0).bind fun x2 =>
(D.tupAt r1 1).bind fun x3 =>
(call 124 [a1]).bind fun r4 =>
(D.tupAt r4 0).bind fun x5 =>
(D.tupAt r4 1).bind fun x6 =>
(D.truth x3).bind fun b7 =>
(if b7 then (D.truth x6) else (some false)).bind fun b8 =>
(D.truth (D.bool b8)).bind fun b9 =>
(if b9 then (D.truth (D.bool (!(D.beq x5 (D.int .i64 0))))) else (some false)).bind fun b10 =>
(D.truth (D.bool b10)).bind fun b11 =>
 if b11 then ((call 144 [x2, x5]).bind fun r12 =>
(call 34 [r12]).bind fun r13 =>
 some r13) else ((call 76 [a0]).bind fun r14 =>
(D.un .not r14).bind fun x15 =>
(D.truth x15).bind fun b16 =>
(if b16 then (some true) else ((call 76 [a1]).bind fun r17 =>
(D.un .not r17).bind fun x18 =>
 D.truth x18)).bind fun b19 =>
(D.truth (D.bool b19)).bind fun b20 =>
(if b20 then (some true) else ((call 77 [a1]).bind fun r21 =>
(D.asSl r21).bind fun l22 =>
 D.truth (D.bool (D.beq (D.int .i64 (l22.length)) (D.int .i64 0))))).bind fun b23 =>
(D.truth (D.bool b23)).bind fun b24 =>
 if b24 then ((call 125 []).bind fun r25 =>
 some r25) else ((call 77 [a0]).bind fun r26 =>
(call 77 [a1]).bind fun r27 =>
(call 143 [r26, r27]).bind fun r28 =>
(D.tupAt r28 0).bind fun x29 =>
(D.tupAt r28 1).bind fun x30 =>
((D.get a0 [1]).bind fun x31 =>
(D.get a1 [1]).bind fun x32 =>
(D.truth (D.bool (!(D.beq x31 x32)))).bind fun b33 =>
(if b33 then ((D.asSl x30).bind fun l34 =>
(D.bin .gtr (D.int .i64 (l34.length)) (D.int .i64 0)).bind fun x35 =>
 D.truth x35) else (some false)).bind fun b36 =>
(D.truth (D.bool b36)).bind fun b37 =>
 if b37 then ((call 82 [x29, (D.sl [(D.int .i64 1)])]).bind fun r38 =>
 some (0, [r38])) else (some (0, [x29]))).bind fun (r39 : Nat × List D) =>
(D.get a0 [1]).bind fun x40 =>
(D.get a1 [1]).bind fun x41 =>
(call 81 [(D.bool (!(D.beq x40 x41))), (r39.2.getD 0 (.bool false))]).bind fun r42 =>
 some r42))
theorem L87 {lp} (hlp : LpOk lp) : leafOk 87 (m2 (F87 lp)) := leaf2 (fn := Tryz.f87) (ann := A87) hlp (by kernel_rfl) (by kernel_rfl) (fun call a0 a1 => by kernel_rfl)
def A89 : Ann := (.two .leaf (.two .leaf (.two .leaf (.two .leaf (.two .leaf (.two (.reg [] 11) .leaf))))))
noncomputable def F89 (lp : Lp) (call : Nat -> List D -> Option D) (a0 : D) (a1 : D) : Option D :=
(call 124 [a0]).bind fun r1 =>
(D.tupAt r1 0).bind fun x2 =>
(D.tupAt r1 1).bind fun x3 =>
(call 124 [a1]).bind fun r4 =>
(D.tupAt r4 0).bind fun x5 =>
(D.tupAt r4 1).bind fun x6 =>
(D.truth x3).bind fun b7 =>
(if b7 then (D.truth x6) else (some false)).bind fun b8 =>
(D.truth (D.bool b8)).bind fun b9 =>
(if b9 then ((call 145 [x2]).bind fun r10 =>
 D.truth r10) else (some false)).bind fun b11 =>
(D.truth (D.bool b11)).bind fun b12 =>
(if b12 then ((call 145 [x5]).bind fun r13 =>
 D.truth r13) else (some false)).bind fun b14 =>
(D.truth (D.bool b14)).bind fun b15 =>
 if b15 then ((D.bin .mul x2 x5).bind fun x16 =>
(call 34 [x16]).bind fun r17 =>
 some r17) else ((call 76 [a0]).bind fun r18 =>
(D.un .not r18).bind fun x19 =>
(D.truth x19).bind fun b20 =>
(if b20 then (some true) else ((call 76 [a1]).bind fun r21 =>
(D.un .not r21).bind fun x22 =>
 D.truth x22)).bind fun b23 =>
(D.truth (D.bool b23)).bind fun b24 =>
 if b24 then ((call 125 []).bind fun r25 =>
 some r25) else ((D.get a0 [1]).bind fun x26 =>
(D.get a1 [1]).bind fun x27 =>
(call 77 [a0]).bind fun r28 =>
(call 77 [a1]).bind fun r29 =>
(call 146 [r28, r29]).bind fun r30 =>
(call 81 [(D.bool (!(D.beq x26 x27))), r30]).bind fun r31 =>
 some r31))
theorem L89 {lp} (hlp : LpOk lp) : leafOk 89 (m2 (F89 lp)) := leaf2 (fn := Tryz.f89) (ann := A89) hlp (by kernel_rfl) (by kernel_rfl) (fun call a0 a1 => by kernel_rfl)
def A90 : Ann := (.two .leaf (.two (.reg [] 7) .leaf))
noncomputable def F90 (lp : Lp) (call : Nat -> List D -> Option D) (a0 : D) (a1 : D) : Option D :=
(call 118 [(D.sl [a0])]).bind fun r1 =>
(call 118 [(D.sl [a1])]).bind fun r2 =>
(D.un .not r1).bind fun x3 =>
(D.truth x3).bind fun b4 =>
(if b4 then ((D.un .not r2).bind fun x5 =>
 D.truth x5) else (some false)).bind fun b6 =>
(D.truth (D.bool b6)).bind fun b7 =>
 if b7 then (some (D.int .i64 0)) else ((D.un .not r1).bind fun x8 =>
(D.truth x8).bind fun b9 =>
 if b9 then (some (D.int .i64 (-1))) else ((D.un .not r2).bind fun x10 =>
(D.truth x10).bind fun b11 =>
 if b11 then (some (D.int .i64 1)) else ((D.get a0 [1]).bind fun x12 =>
(D.get a1 [1]).bind fun x13 =>
(D.truth (D.bool (!(D.beq x12 x13)))).bind fun b14 =>
 if b14 then ((D.get a0 [1]).bind fun x15 =>
(D.truth x15).bind fun b16 =>
 if b16 then (some (D.int .i64 (-1))) else (some (D.int .i64 1))) else ((D.get a0 [1]).bind fun x17 =>
(D.truth x17).bind fun b18 =>
 if b18 then ((D.get a1 [2]).bind fun x19 =>
(D.get a0 [2]).bind fun x20 =>
(call 121 [x19, x20]).bind fun r21 =>
 some r21) else ((D.get a0 [2]).bind fun x22 =>
(D.get a1 [2]).bind fun x23 =>
(call 121 [x22, x23]).bind fun r24 =>
 some r24)))))
theorem L90 {lp} (hlp : LpOk lp) : leafOk 90 (m2 (F90 lp)) := leaf2 (fn := Tryz.f90) (ann := A90) hlp (by kernel_rfl) (by kernel_rfl) (fun call a0 a1 => by kernel_rfl)
def A91 : Ann := (.two .leaf (.two (.reg [] 5) .leaf))
noncomputable def F91 (lp : Lp) (call : Nat -> List D -> Option D) (a0 : D) (a1 : D) : Option D :=
(call 148 [a0]).bind fun r1 =>
(call 148 [a1]).bind fun r2 =>
(call 147 [r1, r2]).bind fun r3 =>
 some r3
theorem L91 {lp} (hlp : LpOk lp) : leafOk 91 (m2 (F91 lp)) := leaf2 (fn := Tryz.f91) (ann := A91) hlp (by kernel_rfl) (by kernel_rfl) (fun call a0 a1 => by kernel_rfl)
def A94 : Ann := (.two .leaf (.two (.reg [] 17) .leaf))
noncomputable def F94 (lp : Lp) (call : Nat -> List D -> Option D) (a0 : D) (a1 : D) : Option D :=
(D.get a0 [0]).bind fun x1 =>
(D.get a1 [0]).bind fun x2 =>
(call 53 [x1, x2]).bind fun r3 =>
(D.get a0 [1]).bind fun x4 =>
(D.get a1 [1]).bind fun x5 =>
(call 53 [x4, x5]).bind fun r6 =>
(D.get a0 [2]).bind fun x7 =>
(D.get a1 [2]).bind fun x8 =>
(call 53 [x7, x8]).bind fun r9 =>
(call 52 [(D.sl [r3, r6, r9])]).bind fun r10 =>
 some r10
theorem L94 {lp} (hlp : LpOk lp) : leafOk 94 (m2 (F94 lp)) := leaf2 (fn := Tryz.f94) (ann := A94) hlp (by kernel_rfl) (by kernel_rfl) (fun call a0 a1 => by kernel_rfl)
def A96 : Ann := (.two .leaf (.two (.reg [] 8) (.cut [(.normal, ⟨[(3, .same (.ptr K1 4099 [])), (6, .same (.ptr K17 4102 [])), (7, .same (.ptr K1 8199 []))], [(4099, .keep K1 3), (4102, .keep K17 6), (8199, .one K1 (.dv K1))], []⟩)] [] [4099, 4102] (.two (.reg [] 8) (.two .leaf (.two (.reg [] 13) .leaf))) (.two (.reg [] 5) .leaf))))
noncomputable def F96 (lp : Lp) (call : Nat -> List D -> Option D) (a0 : D) (a1 : D) (a2 : D) : Option D :=
(call 103 [a1, a0]).bind fun r1 =>
(call 103 [a2, a0]).bind fun r2 =>
(call 117 [r1, r2]).bind fun r3 =>
((D.get r3 [0]).bind fun x4 =>
(D.get r3 [1]).bind fun x5 =>
(call 152 [x4, x5]).bind fun r6 =>
(D.get r3 [2]).bind fun x7 =>
(call 152 [r6, x7]).bind fun r8 =>
(D.bin .gtr r8 (D.int .i64 1)).bind fun x9 =>
(D.truth x9).bind fun b10 =>
 if b10 then ((D.get r3 [0]).bind fun x11 =>
(D.bin .quo x11 r8).bind fun x12 =>
(D.get r3 [1]).bind fun x13 =>
(D.bin .quo x13 r8).bind fun x14 =>
(D.get r3 [2]).bind fun x15 =>
(D.bin .quo x15 r8).bind fun x16 =>
 some (0, [(D.st [x12, x14, x16])])) else (some (0, [r3]))).bind fun (r17 : Nat × List D) =>
(call 101 [(r17.2.getD 0 (.bool false)), a0]).bind fun r18 =>
 some (D.st [(r17.2.getD 0 (.bool false)), r18])
theorem L96 {lp} (hlp : LpOk lp) : leafOk 96 (m3 (F96 lp)) := leaf3 (fn := Tryz.f96) (ann := A96) hlp (by kernel_rfl) (by kernel_rfl) (fun call a0 a1 a2 => by kernel_rfl)
noncomputable def F97 (lp : Lp) (call : Nat -> List D -> Option D) (a0 : D) : Option D :=
(D.get a0 [0]).bind fun x1 =>
(D.un .neg x1).bind fun x2 =>
(D.get a0 [1]).bind fun x3 =>
(D.un .neg x3).bind fun x4 =>
(D.get a0 [2]).bind fun x5 =>
(D.un .neg x5).bind fun x6 =>
 some (D.st [x2, x4, x6])
theorem L97 {lp} (hlp : LpOk lp) : leafOk 97 (m1 (F97 lp)) := leaf1 (fn := Tryz.f97) (ann := .leaf) hlp (by kernel_rfl) (by kernel_rfl) (fun call a0 => by kernel_rfl)
def A98 : Ann := (.two .leaf (.two .leaf (.two (.two .leaf (.two (.loop ⟨[(3, .same (.ptr K17 4099 [])), (5, .dv Ty.bool), (11, .dv (Ty.int .i64))], [(4099, .keep K17 3)], [9, 10]⟩ [(.ret, ⟨[(4, .dv Ty.bool)], [], []⟩), (.exit 0, ⟨[(5, .dv Ty.bool)], [], []⟩)] .leaf) .leaf)) .leaf)))
noncomputable def F98 (lp : Lp) (call : Nat -> List D -> Option D) (a0 : D) (a1 : D) : Option D :=
(D.asSl a0).bind fun l1 =>
(lp (β := Nat × List D) (fun (v2 : List D) =>
(D.bin .lss (v2.getD 1 (.bool false)) (D.int .i64 (l1.length))).bind fun x3 =>
(D.truth x3).bind fun b4 =>
 if b4 then ((D.asSl a0).bind fun l5 =>
(D.idx (v2.getD 1 (.bool false)) (l5.length)).bind fun i6 =>
(l5[i6]?).bind fun x7 =>
(D.get a1 [0]).bind fun x8 =>
(call 101 [x8, x7]).bind fun r9 =>
(D.get a1 [1]).bind fun x10 =>
(D.bin .gtr r9 x10).bind fun x11 =>
(D.truth x11).bind fun b12 =>
 if b12 then (some (Sum.inr (0, [(D.bool false)]))) else ((D.truth (v2.getD 0 (.bool false))).bind fun b13 =>
(if b13 then ((D.get a1 [1]).bind fun x14 =>
 D.truth (D.bool (D.beq r9 x14))) else (some false)).bind fun b15 =>
(D.bin .add (v2.getD 1 (.bool false)) (D.int .i64 1)).bind fun x16 =>
 some (Sum.inl [(D.bool b15), x16]))) else (some (Sum.inr (1, [(v2.getD 0 (.bool false))])))) [(D.bool true), (D.int .i64 0)]).bind fun r17 =>
 if r17.1 = 0 then (some (r17.2.getD 0 (.bool false))) else ((D.un .not (r17.2.getD 0 (.bool false))).bind fun x18 =>
 some x18)
theorem L98 {lp} (hlp : LpOk lp) : leafOk 98 (m2 (F98 lp)) := leaf2 (fn := Tryz.f98) (ann := A98) hlp (by kernel_rfl) (by kernel_rfl) (fun call a0 a1 => by kernel_rfl)
def A100 : Ann := (.two .leaf (.two (.reg [] 23) .leaf))
noncomputable def F100 (lp : Lp) (call : Nat -> List D -> Option D) (a0 : D) (a1 : D) : Option D :=
(D.get a0 [0, 0]).bind fun x1 =>
(D.get a1 [0, 0]).bind fun x2 =>
(call 53 [x1, x2]).bind fun r3 =>
(D.get a0 [0, 1]).bind fun x4 =>
(D.get a1 [0, 1]).bind fun x5 =>
(call 53 [x4, x5]).bind fun r6 =>
(D.get a0 [0, 2]).bind fun x7 =>
(D.get a1 [0, 2]).bind fun x8 =>
(call 53 [x7, x8]).bind fun r9 =>
(call 52 [(D.sl [r3, r6, r9])]).bind fun r10 =>
 some r10
theorem L100 {lp} (hlp : LpOk lp) : leafOk 100 (m2 (F100 lp)) := leaf2 (fn := Tryz.f100) (ann := A100) hlp (by kernel_rfl) (by kernel_rfl) (fun call a0 a1 => by kernel_rfl)
noncomputable def F101 (lp : Lp) (call : Nat -> List D -> Option D) (a0 : D) (a1 : D) : Option D :=
(D.get a0 [0]).bind fun x1 =>
(D.get a1 [0]).bind fun x2 =>
(D.bin .mul x1 x2).bind fun x3 =>
(D.get a0 [1]).bind fun x4 =>
(D.get a1 [1]).bind fun x5 =>
(D.bin .mul x4 x5).bind fun x6 =>
(D.bin .add x3 x6).bind fun x7 =>
(D.get a0 [2]).bind fun x8 =>
(D.get a1 [2]).bind fun x9 =>
(D.bin .mul x8 x9).bind fun x10 =>
(D.bin .add x7 x10).bind fun x11 =>
 some x11
theorem L101 {lp} (hlp : LpOk lp) : leafOk 101 (m2 (F101 lp)) := leaf2 (fn := Tryz.f101) (ann := .leaf) hlp (by kernel_rfl) (by kernel_rfl) (fun call a0 a1 => by kernel_rfl)
def A103 : Ann := (.two .leaf (.two (.reg [] 4) .leaf))
noncomputable def F103 (lp : Lp) (call : Nat -> List D -> Option D) (a0 : D) (a1 : D) : Option D :=
(call 97 [a1]).bind fun r1 =>
(call 154 [a0, r1]).bind fun r2 =>
 some r2
theorem L103 {lp} (hlp : LpOk lp) : leafOk 103 (m2 (F103 lp)) := leaf2 (fn := Tryz.f103) (ann := A103) hlp (by kernel_rfl) (by kernel_rfl) (fun call a0 a1 => by kernel_rfl)
def A104 : Ann := (.two .leaf (.two .leaf (.two (.two .leaf (.two (.loop ⟨[(7, .same (.ptr K1 8199 [])), (14, .dv (Ty.int .i64))], [(8199, .keep K1 7)], [13]⟩ [(.ret, ⟨[(6, .dv (Ty.int .i64))], [], []⟩), (.exit 0, ⟨[], [], []⟩)] .leaf) .leaf)) .leaf)))
noncomputable def F104 (lp : Lp) (call : Nat -> List D -> Option D) (a0 : D) (a1 : D) (a2 : D) : Option D :=
(call 117 [a1, a2]).bind fun r1 =>
(lp (β := Nat × List D) (fun (v2 : List D) =>
(D.bin .lss (v2.getD 0 (.bool false)) (D.int .i64 3)).bind fun x3 =>
(D.truth x3).bind fun b4 =>
 if b4 then ((D.idx (v2.getD 0 (.bool false)) 3).bind fun i5 =>
(D.fld a0 i5).bind fun x6 =>
(D.truth (D.bool (!(D.beq x6 (D.int .i64 0))))).bind fun b7 =>
 if b7 then ((D.idx (v2.getD 0 (.bool false)) 3).bind fun i8 =>
(D.get r1 [i8]).bind fun x9 =>
(call 53 [x9, (D.int .i64 0)]).bind fun r10 =>
(call 53 [x6, (D.int .i64 0)]).bind fun r11 =>
(D.bin .mul r10 r11).bind fun x12 =>
 some (Sum.inr (0, [x12]))) else ((D.bin .add (v2.getD 0 (.bool false)) (D.int .i64 1)).bind fun x13 =>
 some (Sum.inl [x13]))) else (some (Sum.inr (1, [])))) [(D.int .i64 0)]).bind fun r14 =>
 if r14.1 = 0 then (some (r14.2.getD 0 (.bool false))) else (some (D.int .i64 0))
theorem L104 {lp} (hlp : LpOk lp) : leafOk 104 (m3 (F104 lp)) := leaf3 (fn := Tryz.f104) (ann := A104) hlp (by kernel_rfl) (by kernel_rfl) (fun call a0 a1 a2 => by kernel_rfl)
noncomputable def F105 (lp : Lp) (call : Nat -> List D -> Option D) (a0 : D) (a1 : D) : Option D :=
(D.get a0 [0]).bind fun x1 =>
(D.get a1 [0]).bind fun x2 =>
(D.truth (D.bool (!(D.beq x1 x2)))).bind fun b3 =>
 if b3 then ((D.get a0 [0]).bind fun x4 =>
(D.get a1 [0]).bind fun x5 =>
(D.bin .lss x4 x5).bind fun x6 =>
 some x6) else ((D.get a0 [1]).bind fun x7 =>
(D.get a1 [1]).bind fun x8 =>
(D.truth (D.bool (!(D.beq x7 x8)))).bind fun b9 =>
 if b9 then ((D.get a0 [1]).bind fun x10 =>
(D.get a1 [1]).bind fun x11 =>
(D.bin .lss x10 x11).bind fun x12 =>
 some x12) else ((D.get a0 [2]).bind fun x13 =>
(D.get a1 [2]).bind fun x14 =>
(D.bin .lss x13 x14).bind fun x15 =>
 some x15))
theorem L105 {lp} (hlp : LpOk lp) : leafOk 105 (m2 (F105 lp)) := leaf2 (fn := Tryz.f105) (ann := .leaf) hlp (by kernel_rfl) (by kernel_rfl) (fun call a0 a1 => by kernel_rfl)
def A106 : Ann := (.two .leaf (.two (.reg [] 8) .leaf))
noncomputable def F106 (lp : Lp) (call : Nat -> List D -> Option D) (a0 : D) (a1 : D) (a2 : D) : Option D :=
(call 112 [a1, a0]).bind fun r1 =>
(call 112 [a2, a0]).bind fun r2 =>
(call 123 [r1, r2]).bind fun r3 =>
(call 80 [r3]).bind fun r4 =>
(call 155 [r4]).bind fun r5 =>
(D.get r5 [0]).bind fun x6 =>
 some x6
theorem L106 {lp} (hlp : LpOk lp) : leafOk 106 (m3 (F106 lp)) := leaf3 (fn := Tryz.f106) (ann := A106) hlp (by kernel_rfl) (by kernel_rfl) (fun call a0 a1 a2 => by kernel_rfl)
noncomputable def F107 (lp : Lp) (call : Nat -> List D -> Option D) (a0 : D) (a1 : D) : Option D :=
(D.get a0 [0]).bind fun x1 =>
(D.get a1 [0]).bind fun x2 =>
(D.bin .mul x1 x2).bind fun x3 =>
(D.get a0 [1]).bind fun x4 =>
(D.get a1 [1]).bind fun x5 =>
(D.bin .mul x4 x5).bind fun x6 =>
(D.bin .add x3 x6).bind fun x7 =>
(D.get a0 [2]).bind fun x8 =>
(D.get a1 [2]).bind fun x9 =>
(D.bin .mul x8 x9).bind fun x10 =>
(D.bin .add x7 x10).bind fun x11 =>
 some x11
theorem L107 {lp} (hlp : LpOk lp) : leafOk 107 (m2 (F107 lp)) := leaf2 (fn := Tryz.f107) (ann := .leaf) hlp (by kernel_rfl) (by kernel_rfl) (fun call a0 a1 => by kernel_rfl)
def A108 : Ann := (.two .leaf (.two (.two .leaf (.two (.loop ⟨[(3, .same (.ptr K1 4099 [])), (5, .dv (Ty.int .i64))], [(4099, .keep K1 3)], [0]⟩ [(.ret, ⟨[(4, .dv Ty.bool)], [], []⟩), (.exit 0, ⟨[], [], []⟩)] (.two .leaf (.two (.two (.two (.reg [] 6) .leaf) .leaf) .leaf))) .leaf)) .leaf))
noncomputable def F108 (lp : Lp) (call : Nat -> List D -> Option D) (a0 : D) (a1 : D) : Option D :=
(lp (β := Nat × List D) (fun (v1 : List D) =>
(D.asSl a0).bind fun l2 =>
(D.bin .lss (v1.getD 0 (.bool false)) (D.int .i64 (l2.length))).bind fun x3 =>
(D.truth x3).bind fun b4 =>
 if b4 then ((D.asSl a0).bind fun l5 =>
(D.idx (v1.getD 0 (.bool false)) (l5.length)).bind fun i6 =>
(l5[i6]?).bind fun x7 =>
(D.fld x7 0).bind fun x8 =>
(D.truth (D.bool (D.beq x8 a1))).bind fun b9 =>
 if b9 then (some (Sum.inr (0, [(D.bool true)]))) else ((D.bin .add (v1.getD 0 (.bool false)) (D.int .i64 1)).bind fun x10 =>
 some (Sum.inl [x10]))) else (some (Sum.inr (1, [])))) [(D.int .i64 0)]).bind fun r11 =>
 if r11.1 = 0 then (some (r11.2.getD 0 (.bool false))) else (some (D.bool false))
theorem L108 {lp} (hlp : LpOk lp) : leafOk 108 (m2 (F108 lp)) := leaf2 (fn := Tryz.f108) (ann := A108) hlp (by kernel_rfl) (by kernel_rfl) (fun call a0 a1 => by kernel_rfl)
def A109 : Ann := (.two .leaf (.two .leaf (.two (.two .leaf (.two (.loop ⟨[(4, .same (.ptr K1 4100 [])), (7, .dv Ty.bool), (8, .dv (Ty.int .i64))], [(4100, .keep K1 4)], [0, 2]⟩ [(.ret, ⟨[(6, .dv Ty.bool)], [], []⟩), (.exit 0, ⟨[(7, .dv Ty.bool)], [], []⟩)] (.two .leaf (.two (.two (.two (.reg [] 6) .leaf) .leaf) .leaf))) .leaf)) .leaf)))
noncomputable def F109 (lp : Lp) (call : Nat -> List D -> Option D) (a0 : D) (a1 : D) (a2 : D) : Option D :=
(lp (β := Nat × List D) (fun (v1 : List D) =>
(D.asSl a0).bind fun l2 =>
(D.bin .lss (v1.getD 1 (.bool false)) (D.int .i64 (l2.length))).bind fun x3 =>
(D.truth x3).bind fun b4 =>
 if b4 then ((D.asSl a0).bind fun l5 =>
(D.idx (v1.getD 1 (.bool false)) (l5.length)).bind fun i6 =>
(l5[i6]?).bind fun x7 =>
(call 107 [a1, x7]).bind fun r8 =>
(D.bin .gtr r8 a2).bind fun x9 =>
(D.truth x9).bind fun b10 =>
 if b10 then (some (Sum.inr (0, [(D.bool false)]))) else ((D.truth (v1.getD 0 (.bool false))).bind fun b11 =>
(if b11 then (some true) else ((D.bin .lss r8 a2).bind fun x12 =>
 D.truth x12)).bind fun b13 =>
(D.bin .add (v1.getD 1 (.bool false)) (D.int .i64 1)).bind fun x14 =>
 some (Sum.inl [(D.bool b13), x14]))) else (some (Sum.inr (1, [(v1.getD 0 (.bool false))])))) [(D.bool false), (D.int .i64 0)]).bind fun r15 =>
 if r15.1 = 0 then (some (r15.2.getD 0 (.bool false))) else (some (r15.2.getD 0 (.bool false)))
theorem L109 {lp} (hlp : LpOk lp) : leafOk 109 (m3 (F109 lp)) := leaf3 (fn := Tryz.f109) (ann := A109) hlp (by kernel_rfl) (by kernel_rfl) (fun call a0 a1 a2 => by kernel_rfl)
def A110 : Ann := (.two .leaf (.two .leaf (.two .leaf (.two (.two .leaf (.two (.loop ⟨[(3, .same (.ptr K6 4099 [])), (5, .ow K6), (6, .dv Ty.bool), (7, .dv (Ty.int .i64))], [(4099, .keep K6 3)], [0]⟩ [(.exit 0, ⟨[(3, .same (.ptr K6 4099 [])), (5, .ow K6), (6, .dv Ty.bool)], [(4099, .keep K6 3)], []⟩)] (.two .leaf (.two (.two (.two (.reg [] 8) (.cut [(.normal, ⟨[(3, .same (.ptr K6 4099 [])), (5, .ow K6), (6, .dv Ty.bool)], [(4099, .keep K6 3)], [0, 7]⟩)] [0, 7] [4099] .leaf .leaf)) .leaf) .leaf))) .leaf)) (.cut [(.normal, ⟨[(5, .ow K6)], [], []⟩)] [] [] .leaf .leaf)))))
noncomputable def F110 (lp : Lp) (call : Nat -> List D -> Option D) (a0 : D) (a1 : D) : Option D :=
(lp (β := Nat × List D) (fun (v1 : List D) =>
(D.asSl a0).bind fun l2 =>
(D.bin .lss (v1.getD 2 (.bool false)) (D.int .i64 (l2.length))).bind fun x3 =>
(D.truth x3).bind fun b4 =>
 if b4 then ((D.get a1 [0]).bind fun x5 =>
(D.asSl a0).bind fun l6 =>
(D.idx (v1.getD 2 (.bool false)) (l6.length)).bind fun i7 =>
(l6[i7]?).bind fun x8 =>
(D.fld x8 0).bind fun x9 =>
(call 105 [x5, x9]).bind fun r10 =>
((D.un .not (v1.getD 1 (.bool false))).bind fun x11 =>
(D.truth x11).bind fun b12 =>
(if b12 then (D.truth r10) else (some false)).bind fun b13 =>
(D.truth (D.bool b13)).bind fun b14 =>
 if b14 then (if List.length ((v1.getD 0 (.bool false)).els) + List.length [a1] <= 1073741824 then (some (0, [(D.sl (((v1.getD 0 (.bool false)).els) ++ [a1])), (D.bool true)])) else none) else (some (0, [(D.sl ((v1.getD 0 (.bool false)).els)), (v1.getD 1 (.bool false))]))).bind fun (r15 : Nat × List D) =>
(D.asSl a0).bind fun l16 =>
(D.idx (v1.getD 2 (.bool false)) (l16.length)).bind fun i17 =>
(l16[i17]?).bind fun x18 =>
 if List.length ((r15.2.getD 0 (.bool false)).els) + List.length [x18] <= 1073741824 then ((D.bin .add (v1.getD 2 (.bool false)) (D.int .i64 1)).bind fun x19 =>
 some (Sum.inl [(D.sl (((r15.2.getD 0 (.bool false)).els) ++ [x18])), (r15.2.getD 1 (.bool false)), x19])) else none) else (some (Sum.inr (0, [(D.sl ((v1.getD 0 (.bool false)).els)), (v1.getD 1 (.bool false))])))) [(D.sl []), (D.bool false), (D.int .i64 0)]).bind fun r20 =>
((D.un .not (r20.2.getD 1 (.bool false))).bind fun x21 =>
(D.truth x21).bind fun b22 =>
 if b22 then (if List.length ((r20.2.getD 0 (.bool false)).els) + List.length [a1] <= 1073741824 then (some (0, [(D.sl (((r20.2.getD 0 (.bool false)).els) ++ [a1]))])) else none) else (some (0, [(D.sl ((r20.2.getD 0 (.bool false)).els))]))).bind fun (r23 : Nat × List D) =>
 some (D.sl ((r23.2.getD 0 (.bool false)).els))
theorem L110 {lp} (hlp : LpOk lp) : leafOk 110 (m2 (F110 lp)) := leaf2 (fn := Tryz.f110) (ann := A110) hlp (by kernel_rfl) (by kernel_rfl) (fun call a0 a1 => by kernel_rfl)
end Go.Proofs.YtjjjkojfijpeeaaGreat.Sy
end
