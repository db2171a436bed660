/- Part 7 of the proof that HullMatchesSpec answers true at every input -/
import Derived.Test.YtjjjkojfijpeeaaGreatHulls06
set_option linter.unusedVariables false
set_option linter.unusedSimpArgs false
set_option linter.unnecessarySimpa false
section
set_option maxRecDepth 20000
set_option maxHeartbeats 0
set_option linter.unusedVariables false
namespace Go.Proofs.YtjjjkojfijpeeaaGreat.Sy
open Go Go.Proofs
def A22 : Ann := (.two .leaf (.two .leaf (.two .leaf (.two (.two .leaf (.two (.loop ⟨[(1, .same (.ptr K3 4097 [])), (3, .ow K8), (5, .dv (Ty.int .i64))], [(4097, .keep K3 1)], [4]⟩ [(.exit 0, ⟨[(3, .ow K8)], [], []⟩)] (.two .leaf (.two (.two (.two .leaf (.two (.loop ⟨[(1, .same (.ptr K3 4097 [])), (3, .ow K8), (6, .dv (Ty.int .i64))], [(4097, .keep K3 1)], [4, 5]⟩ [(.exit 2, ⟨[(1, .same (.ptr K3 4097 [])), (3, .ow K8)], [(4097, .keep K3 1)], [4, 5]⟩)] (.two .leaf (.cut [(.normal, ⟨[(1, .same (.ptr K3 4097 [])), (3, .ow K8)], [(4097, .keep K3 1)], [4, 5, 6]⟩)] [4, 5, 6] [4097] (.two (.two .leaf (.two (.two .leaf (.two (.loop ⟨[(1, .same (.ptr K3 4097 [])), (3, .ow K8), (7, .dv Ty.bool), (8, .dv (Ty.int .i64))], [(4097, .keep K3 1)], [4, 5, 6]⟩ [(.exit 4, ⟨[(1, .same (.ptr K3 4097 [])), (3, .ow K8), (7, .dv Ty.bool)], [(4097, .keep K3 1)], [4, 5, 6]⟩)] (.two .leaf (.two (.two (.two .leaf (.two .leaf (.two (.loop ⟨[(1, .same (.ptr K3 4097 [])), (3, .ow K8), (7, .dv Ty.bool), (10, .dv (Ty.int .i64))], [(4097, .keep K3 1)], [4, 5, 6, 8, 9]⟩ [(.exit 6, ⟨[(1, .same (.ptr K3 4097 [])), (3, .ow K8), (7, .dv Ty.bool)], [(4097, .keep K3 1)], [4, 5, 6, 8]⟩)] .leaf) .leaf))) .leaf) .leaf))) .leaf)) .leaf)) .leaf) .leaf))) .leaf)) .leaf) .leaf))) .leaf)) .leaf))))
noncomputable def F22 (lp : Lp) (call : Nat -> List D -> Option D) (a0 : D) : Option D :=
(call 19 [a0]).bind fun r1 =>
(lp (β := Nat × List D) (fun (v2 : List D) =>
(D.get a0 [0]).bind fun x3 =>
(D.asSl x3).bind fun l4 =>
(D.bin .lss (v2.getD 1 (.bool false)) (D.int .i64 (l4.length))).bind fun x5 =>
(D.truth x5).bind fun b6 =>
 if b6 then ((D.bin .add (v2.getD 1 (.bool false)) (D.int .i64 1)).bind fun x7 =>
(lp (β := Nat × List D) (fun (v8 : List D) =>
(D.get a0 [0]).bind fun x9 =>
(D.asSl x9).bind fun l10 =>
(D.bin .lss (v8.getD 1 (.bool false)) (D.int .i64 (l10.length))).bind fun x11 =>
(D.truth x11).bind fun b12 =>
 if b12 then (((lp (β := Nat × List D) (fun (v13 : List D) =>
(D.asSl r1).bind fun l14 =>
(D.bin .lss (v13.getD 2 (.bool false)) (D.int .i64 (l14.length))).bind fun x15 =>
(D.truth x15).bind fun b16 =>
 if b16 then ((D.asSl r1).bind fun l17 =>
(D.idx (v13.getD 2 (.bool false)) (l17.length)).bind fun i18 =>
(l17[i18]?).bind fun x19 =>
(D.fld x19 2).bind fun x20 =>
(lp (β := Nat × List D) (fun (v21 : List D) =>
(D.asSl x20).bind fun l22 =>
(D.bin .lss (v21.getD 2 (.bool false)) (D.int .i64 (l22.length))).bind fun x23 =>
(D.truth x23).bind fun b24 =>
 if b24 then ((D.truth (v21.getD 1 (.bool false))).bind fun b25 =>
(if b25 then (some true) else ((D.asSl x20).bind fun l26 =>
(D.idx (v21.getD 2 (.bool false)) (l26.length)).bind fun i27 =>
(l26[i27]?).bind fun x28 =>
(D.truth (D.bool (D.beq x28 (v2.getD 1 (.bool false))))).bind fun b29 =>
 if b29 then ((D.bin .add (v21.getD 2 (.bool false)) (D.int .i64 1)).bind fun x30 =>
(D.asSl x20).bind fun l31 =>
(D.bin .rem x30 (D.int .i64 (l31.length))).bind fun x32 =>
(D.asSl x20).bind fun l33 =>
(D.idx x32 (l33.length)).bind fun i34 =>
(l33[i34]?).bind fun x35 =>
 D.truth (D.bool (D.beq x35 (v8.getD 1 (.bool false))))) else (some false))).bind fun b36 =>
(D.truth (D.bool b36)).bind fun b37 =>
(if b37 then (some true) else ((D.asSl x20).bind fun l38 =>
(D.idx (v21.getD 2 (.bool false)) (l38.length)).bind fun i39 =>
(l38[i39]?).bind fun x40 =>
(D.truth (D.bool (D.beq x40 (v8.getD 1 (.bool false))))).bind fun b41 =>
 if b41 then ((D.bin .add (v21.getD 2 (.bool false)) (D.int .i64 1)).bind fun x42 =>
(D.asSl x20).bind fun l43 =>
(D.bin .rem x42 (D.int .i64 (l43.length))).bind fun x44 =>
(D.asSl x20).bind fun l45 =>
(D.idx x44 (l45.length)).bind fun i46 =>
(l45[i46]?).bind fun x47 =>
 D.truth (D.bool (D.beq x47 (v2.getD 1 (.bool false))))) else (some false))).bind fun b48 =>
(D.bin .add (v21.getD 2 (.bool false)) (D.int .i64 1)).bind fun x49 =>
 some (Sum.inl [(D.sl ((v21.getD 0 (.bool false)).els)), (D.bool b48), x49])) else (some (Sum.inr (0, [(D.sl ((v21.getD 0 (.bool false)).els)), (v21.getD 1 (.bool false))])))) [(D.sl ((v13.getD 0 (.bool false)).els)), (v13.getD 1 (.bool false)), (D.int .i64 0)]).bind fun r50 =>
(D.bin .add (v13.getD 2 (.bool false)) (D.int .i64 1)).bind fun x51 =>
 some (Sum.inl [(D.sl ((r50.2.getD 0 (.bool false)).els)), (r50.2.getD 1 (.bool false)), x51])) else (some (Sum.inr (0, [(D.sl ((v13.getD 0 (.bool false)).els)), (v13.getD 1 (.bool false))])))) [(D.sl ((v8.getD 0 (.bool false)).els)), (D.bool false), (D.int .i64 0)]).bind fun r52 =>
(D.truth (r52.2.getD 1 (.bool false))).bind fun b53 =>
 if b53 then (if List.length ((r52.2.getD 0 (.bool false)).els) + List.length [(D.st [(v2.getD 1 (.bool false)), (v8.getD 1 (.bool false))])] <= 1073741824 then (some (0, [(D.sl (((r52.2.getD 0 (.bool false)).els) ++ [(D.st [(v2.getD 1 (.bool false)), (v8.getD 1 (.bool false))])]))])) else none) else (some (0, [(D.sl ((r52.2.getD 0 (.bool false)).els))]))).bind fun (r54 : Nat × List D) =>
(D.bin .add (v8.getD 1 (.bool false)) (D.int .i64 1)).bind fun x55 =>
 some (Sum.inl [(D.sl ((r54.2.getD 0 (.bool false)).els)), x55])) else (some (Sum.inr (0, [(D.sl ((v8.getD 0 (.bool false)).els))])))) [(D.sl ((v2.getD 0 (.bool false)).els)), x7]).bind fun r56 =>
(D.bin .add (v2.getD 1 (.bool false)) (D.int .i64 1)).bind fun x57 =>
 some (Sum.inl [(D.sl ((r56.2.getD 0 (.bool false)).els)), x57])) else (some (Sum.inr (0, [(D.sl ((v2.getD 0 (.bool false)).els))])))) [(D.sl []), (D.int .i64 0)]).bind fun r58 =>
 some (D.sl ((r58.2.getD 0 (.bool false)).els))
theorem E22 (lp : Lp) (call : Nat -> List D -> Option D) (a0 : D) : evF (envOf lp call (inlP lp call)) Tryz.f22 A22 [K3] K9 [a0] = F22 lp call a0 := by kernel_rfl
theorem L22 {lp : Lp} (hlp : LpOk lp) : leafOk 22 (fun call xs => match xs with | [a0] => F22 lp call a0 | _ => none) :=
 leaf1 hlp (by kernel_rfl) (by kernel_rfl) (by kernel_rfl) (fun call a0 => E22 lp call a0)
def A23 : Ann := (.two .leaf (.two .leaf (.two (.regI [] 3 (.two (.two .leaf (.two .leaf (.two (.loop ⟨[(1, .same (.clo 56 [(.ptr K11 8195 [])])), (2, .same (.ptr K3 20482 [])), (11, .dv (Ty.int .i64))], [(4097, .one K3 (.dv K3)), (4098, .one K11 (.dv K11)), (8195, .one K11 (.dv K11)), (20482, .keep K3 2)], [9, 10]⟩ [(.exit 0, ⟨[], [(4097, .one K3 (.dv K3)), (4098, .one K11 (.dv K11)), (8195, .one K11 (.dv K11))], []⟩)] (.two .leaf (.two .leaf (.two (.two (.two .leaf (.two .leaf (.two (.loop ⟨[(1, .same (.clo 56 [(.ptr K11 8195 [])])), (2, .same (.ptr K3 20482 [])), (5, .same (.ptr K6 36869 [])), (6, .dv (Ty.int .i64))], [(4097, .one K3 (.dv K3)), (4098, .one K11 (.dv K11)), (8195, .one K11 (.dv K11)), (20482, .keep K3 2), (36869, .keep K6 5)], [9, 10, 11]⟩ [(.exit 2, ⟨[(1, .same (.clo 56 [(.ptr K11 8195 [])])), (2, .same (.ptr K3 20482 []))], [(4097, .one K3 (.dv K3)), (4098, .one K11 (.dv K11)), (8195, .one K11 (.dv K11)), (20482, .keep K3 2)], [9, 10, 11]⟩)] (.two .leaf (.two (.two (.two (.reg [] 29) (.regI [] 10 (.two .leaf .leaf))) .leaf) .leaf))) .leaf))) .leaf) .leaf)))) .leaf))) .leaf)) .leaf)))
noncomputable def F23 (lp : Lp) (call : Nat -> List D -> Option D) (a0 : D) : Option D :=
(call 54 [(D.int .i64 0)]).bind fun r1 =>
(call 18 [a0]).bind fun r2 =>
(D.asSl r2).bind fun l3 =>
(lp (β := Nat × List D) (fun (v4 : List D) =>
(D.bin .lss (v4.getD 0 (.bool false)) (D.int .i64 (l3.length))).bind fun x5 =>
(D.truth x5).bind fun b6 =>
 if b6 then ((D.asSl r2).bind fun l7 =>
(D.idx (v4.getD 0 (.bool false)) (l7.length)).bind fun i8 =>
(l7[i8]?).bind fun x9 =>
(lp (β := Nat × List D) (fun (v10 : List D) =>
(D.get x9 [2]).bind fun x11 =>
(D.asSl x11).bind fun l12 =>
(D.bin .lss (v10.getD 0 (.bool false)) (D.int .i64 (l12.length))).bind fun x13 =>
(D.truth x13).bind fun b14 =>
 if b14 then ((D.get a0 [0]).bind fun x15 =>
(D.get x9 [2]).bind fun x16 =>
(D.asSl x16).bind fun l17 =>
(D.idx (D.int .i64 0) (l17.length)).bind fun i18 =>
(l17[i18]?).bind fun x19 =>
(D.asSl x15).bind fun l20 =>
(D.idx x19 (l20.length)).bind fun i21 =>
(l20[i21]?).bind fun x22 =>
(D.get a0 [0]).bind fun x23 =>
(D.get x9 [2]).bind fun x24 =>
(D.bin .sub (v10.getD 0 (.bool false)) (D.int .i64 1)).bind fun x25 =>
(D.asSl x24).bind fun l26 =>
(D.idx x25 (l26.length)).bind fun i27 =>
(l26[i27]?).bind fun x28 =>
(D.asSl x23).bind fun l29 =>
(D.idx x28 (l29.length)).bind fun i30 =>
(l29[i30]?).bind fun x31 =>
(D.get a0 [0]).bind fun x32 =>
(D.get x9 [2]).bind fun x33 =>
(D.asSl x33).bind fun l34 =>
(D.idx (v10.getD 0 (.bool false)) (l34.length)).bind fun i35 =>
(l34[i35]?).bind fun x36 =>
(D.asSl x32).bind fun l37 =>
(D.idx x36 (l37.length)).bind fun i38 =>
(l37[i38]?).bind fun x39 =>
(call 117 [x22, x31]).bind fun r40 =>
(call 91 [r40, x39]).bind fun r41 =>
(call 57 [(v10.getD 3 (.bool false)), r41]).bind fun r42 =>
(D.bin .add (v10.getD 0 (.bool false)) (D.int .i64 1)).bind fun x43 =>
 some (Sum.inl [x43, (v10.getD 1 (.bool false)), (v10.getD 2 (.bool false)), r42])) else (some (Sum.inr (0, [(v10.getD 1 (.bool false)), (v10.getD 2 (.bool false)), (v10.getD 3 (.bool false))])))) [(D.int .i64 2), (v4.getD 1 (.bool false)), (v4.getD 2 (.bool false)), (v4.getD 3 (.bool false))]).bind fun r44 =>
(D.bin .add (v4.getD 0 (.bool false)) (D.int .i64 1)).bind fun x45 =>
 some (Sum.inl [x45, (r44.2.getD 0 (.bool false)), (r44.2.getD 1 (.bool false)), (r44.2.getD 2 (.bool false))])) else (some (Sum.inr (0, [(v4.getD 1 (.bool false)), (v4.getD 2 (.bool false)), (v4.getD 3 (.bool false))])))) [(D.int .i64 0), a0, (D.st [(D.bool false), (D.bool false), (zeroD K10)]), r1]).bind fun r46 =>
 some (r46.2.getD 2 (.bool false))
theorem E23 (lp : Lp) (call : Nat -> List D -> Option D) (a0 : D) : evF (envOf lp call (inlP lp call)) Tryz.f23 A23 [K3] K11 [a0] = F23 lp call a0 := by kernel_rfl
theorem L23 {lp : Lp} (hlp : LpOk lp) : leafOk 23 (fun call xs => match xs with | [a0] => F23 lp call a0 | _ => none) :=
 leaf1 hlp (by kernel_rfl) (by kernel_rfl) (by kernel_rfl) (fun call a0 => E23 lp call a0)
def A25 : Ann := (.two .leaf (.two .leaf (.two (.regI [] 3 (.two (.two .leaf (.two .leaf (.two (.loop ⟨[(1, .same (.clo 60 [(.ptr K23 8195 [])])), (2, .same (.ptr K3 20482 [])), (11, .dv (Ty.int .i64))], [(4097, .one K3 (.dv K3)), (4098, .one K13 (.dv K13)), (8195, .one K23 (.dv K23)), (20482, .keep K3 2)], [9, 10]⟩ [(.exit 0, ⟨[], [(4097, .one K3 (.dv K3)), (4098, .one K13 (.dv K13)), (8195, .one K23 (.dv K23))], []⟩)] (.two .leaf (.two .leaf (.two (.two (.two .leaf (.two .leaf (.two (.loop ⟨[(1, .same (.clo 60 [(.ptr K23 8195 [])])), (2, .same (.ptr K3 20482 [])), (5, .same (.ptr K6 36869 [])), (6, .dv (Ty.int .i64))], [(4097, .one K3 (.dv K3)), (4098, .one K13 (.dv K13)), (8195, .one K23 (.dv K23)), (20482, .keep K3 2), (36869, .keep K6 5)], [9, 10, 11]⟩ [(.exit 2, ⟨[(1, .same (.clo 60 [(.ptr K23 8195 [])])), (2, .same (.ptr K3 20482 []))], [(4097, .one K3 (.dv K3)), (4098, .one K13 (.dv K13)), (8195, .one K23 (.dv K23)), (20482, .keep K3 2)], [9, 10, 11]⟩)] (.two .leaf (.two (.two (.two (.reg [] 29) (.regI [] 10 (.two (.two .leaf (.two .leaf (.two (.loop ⟨[(2, .same (.ptr K23 8195 [])), (3, .same (.ptr K11 65539 [])), (4, .same (.ptr K20 65540 [])), (6, .dv (Ty.int .i64))], [(4097, .one K3 (.dv K3)), (4098, .one K13 (.dv K13)), (8195, .one K23 (.dv K23)), (20482, .one K3 (.dv K3)), (36869, .one K6 (.dv K6)), (53255, .one K20 (.dv K20)), (65539, .keep K11 3), (65540, .keep K20 4)], []⟩ [(.exit 0, ⟨[], [(4097, .one K3 (.dv K3)), (4098, .one K13 (.dv K13)), (8195, .one K23 (.dv K23)), (20482, .one K3 (.dv K3)), (36869, .one K6 (.dv K6)), (53255, .one K20 (.dv K20))], []⟩)] (.two .leaf (.two .leaf (.two (.two (.two .leaf (.reg [] 23)) .leaf) .leaf)))) .leaf))) .leaf))) .leaf) .leaf))) .leaf))) .leaf) .leaf)))) .leaf))) .leaf)) (.two (.reg [] 5) (.two (.two .leaf (.two (.loop ⟨[(2, .same (.ptr K13 4098 [])), (3, .same (.ptr K23 8195 [])), (4, .same (.ptr K11 36868 [])), (13, .dv (Ty.int .i64))], [(4098, .one K13 (.dv K13)), (8195, .keep K23 3), (36868, .keep K11 4)], []⟩ [(.exit 0, ⟨[(2, .same (.ptr K13 4098 []))], [(4098, .one K13 (.dv K13))], []⟩)] (.two .leaf (.two .leaf (.two (.two (.two .leaf (.reg [] 7)) .leaf) .leaf)))) .leaf)) .leaf)))))
noncomputable def F25 (lp : Lp) (call : Nat -> List D -> Option D) (a0 : D) : Option D :=
(call 18 [a0]).bind fun r1 =>
(D.asSl r1).bind fun l2 =>
(lp (β := Nat × List D) (fun (v3 : List D) =>
(D.bin .lss (v3.getD 0 (.bool false)) (D.int .i64 (l2.length))).bind fun x4 =>
(D.truth x4).bind fun b5 =>
 if b5 then ((D.asSl r1).bind fun l6 =>
(D.idx (v3.getD 0 (.bool false)) (l6.length)).bind fun i7 =>
(l6[i7]?).bind fun x8 =>
(lp (β := Nat × List D) (fun (v9 : List D) =>
(D.get x8 [2]).bind fun x10 =>
(D.asSl x10).bind fun l11 =>
(D.bin .lss (v9.getD 0 (.bool false)) (D.int .i64 (l11.length))).bind fun x12 =>
(D.truth x12).bind fun b13 =>
 if b13 then ((D.get a0 [0]).bind fun x14 =>
(D.get x8 [2]).bind fun x15 =>
(D.asSl x15).bind fun l16 =>
(D.idx (D.int .i64 0) (l16.length)).bind fun i17 =>
(l16[i17]?).bind fun x18 =>
(D.asSl x14).bind fun l19 =>
(D.idx x18 (l19.length)).bind fun i20 =>
(l19[i20]?).bind fun x21 =>
(D.get a0 [0]).bind fun x22 =>
(D.get x8 [2]).bind fun x23 =>
(D.bin .sub (v9.getD 0 (.bool false)) (D.int .i64 1)).bind fun x24 =>
(D.asSl x23).bind fun l25 =>
(D.idx x24 (l25.length)).bind fun i26 =>
(l25[i26]?).bind fun x27 =>
(D.asSl x22).bind fun l28 =>
(D.idx x27 (l28.length)).bind fun i29 =>
(l28[i29]?).bind fun x30 =>
(D.get a0 [0]).bind fun x31 =>
(D.get x8 [2]).bind fun x32 =>
(D.asSl x32).bind fun l33 =>
(D.idx (v9.getD 0 (.bool false)) (l33.length)).bind fun i34 =>
(l33[i34]?).bind fun x35 =>
(D.asSl x31).bind fun l36 =>
(D.idx x35 (l36.length)).bind fun i37 =>
(l36[i37]?).bind fun x38 =>
(call 117 [x21, x30]).bind fun r39 =>
(call 91 [r39, x38]).bind fun r40 =>
(lp (β := Nat × List D) (fun (v41 : List D) =>
(D.bin .lss (v41.getD 0 (.bool false)) (D.int .i64 3)).bind fun x42 =>
(D.truth x42).bind fun b43 =>
 if b43 then ((D.idx (v41.getD 0 (.bool false)) 3).bind fun i44 =>
(D.get (v41.getD 3 (.bool false)) [i44]).bind fun x45 =>
(D.idx (v41.getD 0 (.bool false)) 3).bind fun i46 =>
(D.get x21 [i46]).bind fun x47 =>
(D.idx (v41.getD 0 (.bool false)) 3).bind fun i48 =>
(D.get x30 [i48]).bind fun x49 =>
(D.bin .add x47 x49).bind fun x50 =>
(D.idx (v41.getD 0 (.bool false)) 3).bind fun i51 =>
(D.get x38 [i51]).bind fun x52 =>
(D.bin .add x50 x52).bind fun x53 =>
(call 54 [x53]).bind fun r54 =>
(call 61 [r40, r54]).bind fun r55 =>
(call 57 [x45, r55]).bind fun r56 =>
(D.idx (v41.getD 0 (.bool false)) 3).bind fun i57 =>
(D.set (v41.getD 3 (.bool false)) [i57] r56).bind fun x58 =>
(D.bin .add (v41.getD 0 (.bool false)) (D.int .i64 1)).bind fun x59 =>
 some (Sum.inl [x59, (v41.getD 1 (.bool false)), (v41.getD 2 (.bool false)), x58, (v41.getD 4 (.bool false)), (v41.getD 5 (.bool false)), (v41.getD 6 (.bool false))])) else (some (Sum.inr (0, [(v41.getD 1 (.bool false)), (v41.getD 2 (.bool false)), (v41.getD 3 (.bool false)), (v41.getD 4 (.bool false)), (v41.getD 5 (.bool false)), (v41.getD 6 (.bool false))])))) [(D.int .i64 0), (v9.getD 1 (.bool false)), (v9.getD 2 (.bool false)), (v9.getD 3 (.bool false)), a0, x8, (D.st [x21, x30, x38])]).bind fun r60 =>
(D.bin .add (v9.getD 0 (.bool false)) (D.int .i64 1)).bind fun x61 =>
 some (Sum.inl [x61, (r60.2.getD 0 (.bool false)), (r60.2.getD 1 (.bool false)), (r60.2.getD 2 (.bool false))])) else (some (Sum.inr (0, [(v9.getD 1 (.bool false)), (v9.getD 2 (.bool false)), (v9.getD 3 (.bool false))])))) [(D.int .i64 2), (v3.getD 1 (.bool false)), (v3.getD 2 (.bool false)), (v3.getD 3 (.bool false))]).bind fun r62 =>
(D.bin .add (v3.getD 0 (.bool false)) (D.int .i64 1)).bind fun x63 =>
 some (Sum.inl [x63, (r62.2.getD 0 (.bool false)), (r62.2.getD 1 (.bool false)), (r62.2.getD 2 (.bool false))])) else (some (Sum.inr (0, [(v3.getD 1 (.bool false)), (v3.getD 2 (.bool false)), (v3.getD 3 (.bool false))])))) [(D.int .i64 0), a0, (D.st [(D.st [(D.st [(D.bool false), (D.bool false), (zeroD K10)]), (D.st [(D.bool false), (D.bool false), (zeroD K10)])]), (D.st [(D.st [(D.bool false), (D.bool false), (zeroD K10)]), (D.st [(D.bool false), (D.bool false), (zeroD K10)])]), (D.st [(D.st [(D.bool false), (D.bool false), (zeroD K10)]), (D.st [(D.bool false), (D.bool false), (zeroD K10)])])]), (D.st [(D.st [(D.bool false), (D.bool false), (zeroD K10)]), (D.st [(D.bool false), (D.bool false), (zeroD K10)]), (D.st [(D.bool false), (D.bool false), (zeroD K10)])])]).bind fun r64 =>
(call 54 [(D.int .i64 4)]).bind fun r65 =>
(call 23 [(r64.2.getD 0 (.bool false))]).bind fun r66 =>
(call 61 [r65, r66]).bind fun r67 =>
(lp (β := Nat × List D) (fun (v68 : List D) =>
(D.bin .lss (v68.getD 0 (.bool false)) (D.int .i64 3)).bind fun x69 =>
(D.truth x69).bind fun b70 =>
 if b70 then ((D.idx (v68.getD 0 (.bool false)) 3).bind fun i71 =>
(D.get (r64.2.getD 2 (.bool false)) [i71]).bind fun x72 =>
(call 62 [x72, r67]).bind fun r73 =>
(D.idx (v68.getD 0 (.bool false)) 3).bind fun i74 =>
(D.set (v68.getD 1 (.bool false)) [i74] r73).bind fun x75 =>
(D.bin .add (v68.getD 0 (.bool false)) (D.int .i64 1)).bind fun x76 =>
 some (Sum.inl [x76, x75])) else (some (Sum.inr (0, [(v68.getD 1 (.bool false))])))) [(D.int .i64 0), (r64.2.getD 1 (.bool false))]).bind fun r77 =>
 some (r77.2.getD 0 (.bool false))
theorem E25 (lp : Lp) (call : Nat -> List D -> Option D) (a0 : D) : evF (envOf lp call (inlP lp call)) Tryz.f25 A25 [K3] K13 [a0] = F25 lp call a0 := by kernel_rfl
theorem L25 {lp : Lp} (hlp : LpOk lp) : leafOk 25 (fun call xs => match xs with | [a0] => F25 lp call a0 | _ => none) :=
 leaf1 hlp (by kernel_rfl) (by kernel_rfl) (by kernel_rfl) (fun call a0 => E25 lp call a0)
def A27 : Ann := (.two .leaf (.two .leaf (.two (.two .leaf (.two (.loop ⟨[(2, .same (.ptr K15 4098 [])), (3, .same (.ptr K15 4099 [])), (5, .dv (Ty.int .i64))], [(4098, .keep K15 2), (4099, .keep K15 3)], []⟩ [(.ret, ⟨[(4, .dv Ty.bool)], [], []⟩), (.exit 0, ⟨[], [], []⟩)] (.two .leaf (.two (.two (.two (.reg [] 10) .leaf) .leaf) .leaf))) .leaf)) .leaf)))
noncomputable def F27 (lp : Lp) (call : Nat -> List D -> Option D) (a0 : D) (a1 : D) : Option D :=
(D.get a0 [0]).bind fun x1 =>
(D.get a1 [0]).bind fun x2 =>
(D.truth (D.bool (!(D.beq x1 x2)))).bind fun b3 =>
(if b3 then (some true) else ((D.get a0 [1]).bind fun x4 =>
(D.get a1 [1]).bind fun x5 =>
 D.truth (D.bool (!(D.beq x4 x5))))).bind fun b6 =>
(D.truth (D.bool b6)).bind fun b7 =>
(if b7 then (some true) else ((D.get a0 [2]).bind fun x8 =>
(D.asSl x8).bind fun l9 =>
(D.get a1 [2]).bind fun x10 =>
(D.asSl x10).bind fun l11 =>
 D.truth (D.bool (!(D.beq (D.int .i64 (l9.length)) (D.int .i64 (l11.length))))))).bind fun b12 =>
(D.truth (D.bool b12)).bind fun b13 =>
 if b13 then (some (D.bool false)) else ((lp (β := Nat × List D) (fun (v14 : List D) =>
(D.get a0 [2]).bind fun x15 =>
(D.asSl x15).bind fun l16 =>
(D.bin .lss (v14.getD 0 (.bool false)) (D.int .i64 (l16.length))).bind fun x17 =>
(D.truth x17).bind fun b18 =>
 if b18 then ((D.get a0 [2]).bind fun x19 =>
(D.asSl x19).bind fun l20 =>
(D.idx (v14.getD 0 (.bool false)) (l20.length)).bind fun i21 =>
(l20[i21]?).bind fun x22 =>
(D.get a1 [2]).bind fun x23 =>
(D.asSl x23).bind fun l24 =>
(D.idx (v14.getD 0 (.bool false)) (l24.length)).bind fun i25 =>
(l24[i25]?).bind fun x26 =>
(D.truth (D.bool (!(D.beq x22 x26)))).bind fun b27 =>
 if b27 then (some (Sum.inr (0, [(D.bool false)]))) else ((D.bin .add (v14.getD 0 (.bool false)) (D.int .i64 1)).bind fun x28 =>
 some (Sum.inl [x28]))) else (some (Sum.inr (1, [])))) [(D.int .i64 0)]).bind fun r29 =>
 if r29.1 = 0 then (some (r29.2.getD 0 (.bool false))) else (some (D.bool true)))
theorem E27 (lp : Lp) (call : Nat -> List D -> Option D) (a0 : D) (a1 : D) : evF (envOf lp call (inlP lp call)) Tryz.f27 A27 [K15, K15] Ty.bool [a0, a1] = F27 lp call a0 a1 := by kernel_rfl
theorem L27 {lp : Lp} (hlp : LpOk lp) : leafOk 27 (fun call xs => match xs with | [a0, a1] => F27 lp call a0 a1 | _ => none) :=
 leaf2 hlp (by kernel_rfl) (by kernel_rfl) (by kernel_rfl) (fun call a0 a1 => E27 lp call a0 a1)
def A28 : Ann := (.two .leaf (.two .leaf (.two (.regI [] 3 (.two (.two .leaf (.two .leaf (.two (.loop ⟨[(1, .same (.clo 67 [(.ptr K24 8195 [])])), (2, .same (.ptr K3 20482 [])), (11, .dv (Ty.int .i64))], [(4097, .one K3 (.dv K3)), (4098, .one K15 (.st [(Ty.int .i64), (Ty.int .i64), K14] [.dv (Ty.int .i64), .dv (Ty.int .i64), .ow K12])), (8195, .one K24 (.dv K24)), (20482, .keep K3 2)], [9, 10]⟩ [(.exit 0, ⟨[], [(4097, .one K3 (.dv K3)), (4098, .one K15 (.st [(Ty.int .i64), (Ty.int .i64), K14] [.dv (Ty.int .i64), .dv (Ty.int .i64), .ow K12])), (8195, .one K24 (.dv K24))], []⟩)] (.two .leaf (.two .leaf (.two (.two (.two .leaf (.two .leaf (.two (.loop ⟨[(1, .same (.clo 67 [(.ptr K24 8195 [])])), (2, .same (.ptr K3 20482 [])), (5, .same (.ptr K6 36869 [])), (6, .dv (Ty.int .i64))], [(4097, .one K3 (.dv K3)), (4098, .one K15 (.st [(Ty.int .i64), (Ty.int .i64), K14] [.dv (Ty.int .i64), .dv (Ty.int .i64), .ow K12])), (8195, .one K24 (.dv K24)), (20482, .keep K3 2), (36869, .keep K6 5)], [9, 10, 11]⟩ [(.exit 2, ⟨[(1, .same (.clo 67 [(.ptr K24 8195 [])])), (2, .same (.ptr K3 20482 []))], [(4097, .one K3 (.dv K3)), (4098, .one K15 (.st [(Ty.int .i64), (Ty.int .i64), K14] [.dv (Ty.int .i64), .dv (Ty.int .i64), .ow K12])), (8195, .one K24 (.dv K24)), (20482, .keep K3 2)], [9, 10, 11]⟩)] (.two .leaf (.two (.two (.two (.reg [] 29) (.regI [] 10 (.two (.two .leaf (.two .leaf (.two (.loop ⟨[(2, .same (.ptr K24 8195 [])), (3, .same (.ptr K11 65539 [])), (4, .same (.ptr K20 65540 [])), (10, .dv (Ty.int .i64))], [(4097, .one K3 (.dv K3)), (4098, .one K15 (.st [(Ty.int .i64), (Ty.int .i64), K14] [.dv (Ty.int .i64), .dv (Ty.int .i64), .ow K12])), (8195, .one K24 (.dv K24)), (20482, .one K3 (.dv K3)), (36869, .one K6 (.dv K6)), (53255, .one K20 (.dv K20)), (65539, .keep K11 3), (65540, .keep K20 4)], []⟩ [(.exit 0, ⟨[], [(4097, .one K3 (.dv K3)), (4098, .one K15 (.st [(Ty.int .i64), (Ty.int .i64), K14] [.dv (Ty.int .i64), .dv (Ty.int .i64), .ow K12])), (8195, .one K24 (.dv K24)), (20482, .one K3 (.dv K3)), (36869, .one K6 (.dv K6)), (53255, .one K20 (.dv K20))], []⟩)] (.two .leaf (.two .leaf (.two (.two (.two .leaf (.two .leaf (.two (.loop ⟨[(2, .same (.ptr K24 8195 [])), (3, .same (.ptr K11 65539 [])), (4, .same (.ptr K20 65540 [])), (13, .dv (Ty.int .i64))], [(4097, .one K3 (.dv K3)), (4098, .one K15 (.st [(Ty.int .i64), (Ty.int .i64), K14] [.dv (Ty.int .i64), .dv (Ty.int .i64), .ow K12])), (8195, .one K24 (.dv K24)), (20482, .one K3 (.dv K3)), (36869, .one K6 (.dv K6)), (53255, .one K20 (.dv K20)), (65539, .keep K11 3), (65540, .keep K20 4)], [5, 10]⟩ [(.exit 2, ⟨[(2, .same (.ptr K24 8195 [])), (3, .same (.ptr K11 65539 [])), (4, .same (.ptr K20 65540 []))], [(4097, .one K3 (.dv K3)), (4098, .one K15 (.st [(Ty.int .i64), (Ty.int .i64), K14] [.dv (Ty.int .i64), .dv (Ty.int .i64), .ow K12])), (8195, .one K24 (.dv K24)), (20482, .one K3 (.dv K3)), (36869, .one K6 (.dv K6)), (53255, .one K20 (.dv K20)), (65539, .keep K11 3), (65540, .keep K20 4)], [10]⟩)] (.two .leaf (.two .leaf (.two (.two (.two .leaf (.two (.reg [] 29) (.two (.two .leaf (.two (.loop ⟨[(2, .same (.ptr K24 8195 [])), (3, .same (.ptr K11 65539 [])), (4, .same (.ptr K20 65540 [])), (7, .dv (Ty.int .i64)), (46, .dv (Ty.int .i64))], [(4097, .one K3 (.dv K3)), (4098, .one K15 (.st [(Ty.int .i64), (Ty.int .i64), K14] [.dv (Ty.int .i64), .dv (Ty.int .i64), .ow K12])), (8195, .keep K24 2), (20482, .one K3 (.dv K3)), (36869, .one K6 (.dv K6)), (53255, .one K20 (.dv K20)), (65539, .keep K11 3), (65540, .keep K20 4)], [5, 6, 10, 13, 45]⟩ [(.exit 4, ⟨[(2, .same (.ptr K24 8195 [])), (3, .same (.ptr K11 65539 [])), (4, .same (.ptr K20 65540 [])), (7, .dv (Ty.int .i64))], [(4097, .one K3 (.dv K3)), (4098, .one K15 (.st [(Ty.int .i64), (Ty.int .i64), K14] [.dv (Ty.int .i64), .dv (Ty.int .i64), .ow K12])), (8195, .keep K24 2), (20482, .one K3 (.dv K3)), (36869, .one K6 (.dv K6)), (53255, .one K20 (.dv K20)), (65539, .keep K11 3), (65540, .keep K20 4)], [5, 6, 10, 13]⟩)] (.two .leaf (.two .leaf (.two (.two (.two .leaf (.reg [] 9)) .leaf) .leaf)))) .leaf)) (.reg [] 14)))) .leaf) .leaf)))) .leaf))) .leaf) .leaf)))) .leaf))) .leaf))) .leaf) .leaf))) .leaf))) .leaf) .leaf)))) .leaf))) .leaf)) (.two (.reg [] 12) (.two .leaf (.two (.two .leaf (.two (.loop ⟨[(2, .same (.ptr K15 4098 [])), (3, .same (.ptr K24 8195 [])), (4, .same (.ptr K11 36868 [])), (5, .same (.ptr K15 40965 [])), (24, .dv (Ty.int .i64))], [(4098, .one K15 (.st [(Ty.int .i64), (Ty.int .i64), K14] [.dv (Ty.int .i64), .dv (Ty.int .i64), .ow K12])), (8195, .keep K24 3), (36868, .keep K11 4), (40965, .one K15 (.st [(Ty.int .i64), (Ty.int .i64), K14] [.dv (Ty.int .i64), .dv (Ty.int .i64), .ow K12]))], []⟩ [(.exit 0, ⟨[(2, .same (.ptr K15 4098 [])), (5, .same (.ptr K15 40965 []))], [(4098, .one K15 (.st [(Ty.int .i64), (Ty.int .i64), K14] [.dv (Ty.int .i64), .dv (Ty.int .i64), .ow K12])), (40965, .one K15 (.st [(Ty.int .i64), (Ty.int .i64), K14] [.dv (Ty.int .i64), .dv (Ty.int .i64), .ow K12]))], []⟩)] (.two .leaf (.two .leaf (.two (.two (.two .leaf (.two .leaf (.two (.loop ⟨[(2, .same (.ptr K15 4098 [])), (3, .same (.ptr K24 8195 [])), (4, .same (.ptr K11 36868 [])), (5, .same (.ptr K15 40965 [])), (27, .dv (Ty.int .i64))], [(4098, .one K15 (.st [(Ty.int .i64), (Ty.int .i64), K14] [.dv (Ty.int .i64), .dv (Ty.int .i64), .ow K12])), (8195, .keep K24 3), (36868, .keep K11 4), (40965, .one K15 (.st [(Ty.int .i64), (Ty.int .i64), K14] [.dv (Ty.int .i64), .dv (Ty.int .i64), .ow K12]))], [6, 24]⟩ [(.exit 2, ⟨[(2, .same (.ptr K15 4098 [])), (3, .same (.ptr K24 8195 [])), (4, .same (.ptr K11 36868 [])), (5, .same (.ptr K15 40965 []))], [(4098, .one K15 (.st [(Ty.int .i64), (Ty.int .i64), K14] [.dv (Ty.int .i64), .dv (Ty.int .i64), .ow K12])), (8195, .keep K24 3), (36868, .keep K11 4), (40965, .one K15 (.st [(Ty.int .i64), (Ty.int .i64), K14] [.dv (Ty.int .i64), .dv (Ty.int .i64), .ow K12]))], [24]⟩)] (.two .leaf (.two .leaf (.two (.two (.two .leaf (.two .leaf (.cut [(.normal, ⟨[(2, .same (.ptr K15 4098 [])), (3, .same (.ptr K24 8195 [])), (4, .same (.ptr K11 36868 [])), (5, .same (.ptr K15 40965 [])), (8, .same (.ptr K11 77832 []))], [(4098, .one K15 (.st [(Ty.int .i64), (Ty.int .i64), K14] [.dv (Ty.int .i64), .dv (Ty.int .i64), .ow K12])), (8195, .keep K24 3), (36868, .keep K11 4), (40965, .one K15 (.st [(Ty.int .i64), (Ty.int .i64), K14] [.dv (Ty.int .i64), .dv (Ty.int .i64), .ow K12])), (77832, .one K11 (.dv K11))], [6, 24, 27]⟩)] [6, 24, 27] [8195, 36868] .leaf (.reg [] 6)))) .leaf) .leaf)))) .leaf))) .leaf) .leaf)))) .leaf)) .leaf))))))
noncomputable def F28 (lp : Lp) (call : Nat -> List D -> Option D) (a0 : D) : Option D :=
(call 18 [a0]).bind fun r1 =>
(D.asSl r1).bind fun l2 =>
(lp (β := Nat × List D) (fun (v3 : List D) =>
(D.bin .lss (v3.getD 0 (.bool false)) (D.int .i64 (l2.length))).bind fun x4 =>
(D.truth x4).bind fun b5 =>
 if b5 then ((D.asSl r1).bind fun l6 =>
(D.idx (v3.getD 0 (.bool false)) (l6.length)).bind fun i7 =>
(l6[i7]?).bind fun x8 =>
(lp (β := Nat × List D) (fun (v9 : List D) =>
(D.get x8 [2]).bind fun x10 =>
(D.asSl x10).bind fun l11 =>
(D.bin .lss (v9.getD 0 (.bool false)) (D.int .i64 (l11.length))).bind fun x12 =>
(D.truth x12).bind fun b13 =>
 if b13 then ((D.get a0 [0]).bind fun x14 =>
(D.get x8 [2]).bind fun x15 =>
(D.asSl x15).bind fun l16 =>
(D.idx (D.int .i64 0) (l16.length)).bind fun i17 =>
(l16[i17]?).bind fun x18 =>
(D.asSl x14).bind fun l19 =>
(D.idx x18 (l19.length)).bind fun i20 =>
(l19[i20]?).bind fun x21 =>
(D.get a0 [0]).bind fun x22 =>
(D.get x8 [2]).bind fun x23 =>
(D.bin .sub (v9.getD 0 (.bool false)) (D.int .i64 1)).bind fun x24 =>
(D.asSl x23).bind fun l25 =>
(D.idx x24 (l25.length)).bind fun i26 =>
(l25[i26]?).bind fun x27 =>
(D.asSl x22).bind fun l28 =>
(D.idx x27 (l28.length)).bind fun i29 =>
(l28[i29]?).bind fun x30 =>
(D.get a0 [0]).bind fun x31 =>
(D.get x8 [2]).bind fun x32 =>
(D.asSl x32).bind fun l33 =>
(D.idx (v9.getD 0 (.bool false)) (l33.length)).bind fun i34 =>
(l33[i34]?).bind fun x35 =>
(D.asSl x31).bind fun l36 =>
(D.idx x35 (l36.length)).bind fun i37 =>
(l36[i37]?).bind fun x38 =>
(call 117 [x21, x30]).bind fun r39 =>
(call 91 [r39, x38]).bind fun r40 =>
(lp (β := Nat × List D) (fun (v41 : List D) =>
(D.bin .lss (v41.getD 0 (.bool false)) (D.int .i64 3)).bind fun x42 =>
(D.truth x42).bind fun b43 =>
 if b43 then ((lp (β := Nat × List D) (fun (v44 : List D) =>
(D.bin .lss (v44.getD 0 (.bool false)) (D.int .i64 3)).bind fun x45 =>
(D.truth x45).bind fun b46 =>
 if b46 then ((D.idx (v41.getD 0 (.bool false)) 3).bind fun i47 =>
(D.get x21 [i47]).bind fun x48 =>
(D.idx (v41.getD 0 (.bool false)) 3).bind fun i49 =>
(D.get x30 [i49]).bind fun x50 =>
(D.bin .add x48 x50).bind fun x51 =>
(D.idx (v41.getD 0 (.bool false)) 3).bind fun i52 =>
(D.get x38 [i52]).bind fun x53 =>
(D.bin .add x51 x53).bind fun x54 =>
(D.idx (v44.getD 0 (.bool false)) 3).bind fun i55 =>
(D.get x21 [i55]).bind fun x56 =>
(D.idx (v44.getD 0 (.bool false)) 3).bind fun i57 =>
(D.get x30 [i57]).bind fun x58 =>
(D.bin .add x56 x58).bind fun x59 =>
(D.idx (v44.getD 0 (.bool false)) 3).bind fun i60 =>
(D.get x38 [i60]).bind fun x61 =>
(D.bin .add x59 x61).bind fun x62 =>
(D.bin .mul x54 x62).bind fun x63 =>
(lp (β := Nat × List D) (fun (v64 : List D) =>
(D.bin .lss (v64.getD 1 (.bool false)) (D.int .i64 3)).bind fun x65 =>
(D.truth x65).bind fun b66 =>
 if b66 then ((D.idx (v64.getD 1 (.bool false)) 3).bind fun i67 =>
(D.fld (D.st [x21, x30, x38]) i67).bind fun x68 =>
(D.idx (v41.getD 0 (.bool false)) 3).bind fun i69 =>
(D.get x68 [i69]).bind fun x70 =>
(D.idx (v44.getD 0 (.bool false)) 3).bind fun i71 =>
(D.get x68 [i71]).bind fun x72 =>
(D.bin .mul x70 x72).bind fun x73 =>
(D.bin .add (v64.getD 0 (.bool false)) x73).bind fun x74 =>
(D.bin .add (v64.getD 1 (.bool false)) (D.int .i64 1)).bind fun x75 =>
 some (Sum.inl [x74, x75, (v64.getD 2 (.bool false)), (v64.getD 3 (.bool false)), (v64.getD 4 (.bool false)), (D.sl ((v64.getD 5 (.bool false)).els)), (v64.getD 6 (.bool false)), (v64.getD 7 (.bool false)), (v64.getD 8 (.bool false))])) else (some (Sum.inr (0, [(v64.getD 0 (.bool false)), (v64.getD 2 (.bool false)), (v64.getD 3 (.bool false)), (v64.getD 4 (.bool false)), (D.sl ((v64.getD 5 (.bool false)).els)), (v64.getD 6 (.bool false)), (v64.getD 7 (.bool false)), (v64.getD 8 (.bool false))])))) [x63, (D.int .i64 0), (v44.getD 1 (.bool false)), (v44.getD 2 (.bool false)), (v44.getD 3 (.bool false)), (D.sl ((v44.getD 4 (.bool false)).els)), (v44.getD 6 (.bool false)), (v44.getD 7 (.bool false)), (v44.getD 8 (.bool false))]).bind fun r76 =>
(D.idx (v41.getD 0 (.bool false)) 3).bind fun i77 =>
(D.idx (v44.getD 0 (.bool false)) 3).bind fun i78 =>
(D.get (v44.getD 5 (.bool false)) [i77, i78]).bind fun x79 =>
(call 54 [(r76.2.getD 0 (.bool false))]).bind fun r80 =>
(call 61 [r40, r80]).bind fun r81 =>
(call 57 [x79, r81]).bind fun r82 =>
(D.idx (v41.getD 0 (.bool false)) 3).bind fun i83 =>
(D.idx (v44.getD 0 (.bool false)) 3).bind fun i84 =>
(D.set (v44.getD 5 (.bool false)) [i83, i84] r82).bind fun x85 =>
(D.bin .add (v44.getD 0 (.bool false)) (D.int .i64 1)).bind fun x86 =>
 some (Sum.inl [x86, (r76.2.getD 1 (.bool false)), (r76.2.getD 2 (.bool false)), (r76.2.getD 3 (.bool false)), (D.sl ((r76.2.getD 4 (.bool false)).els)), x85, (r76.2.getD 5 (.bool false)), (r76.2.getD 6 (.bool false)), (r76.2.getD 7 (.bool false))])) else (some (Sum.inr (0, [(v44.getD 1 (.bool false)), (v44.getD 2 (.bool false)), (v44.getD 3 (.bool false)), (D.sl ((v44.getD 4 (.bool false)).els)), (v44.getD 5 (.bool false)), (v44.getD 6 (.bool false)), (v44.getD 7 (.bool false)), (v44.getD 8 (.bool false))])))) [(D.int .i64 0), (v41.getD 1 (.bool false)), (v41.getD 2 (.bool false)), (v41.getD 3 (.bool false)), (D.sl ((v41.getD 4 (.bool false)).els)), (v41.getD 5 (.bool false)), (v41.getD 6 (.bool false)), (v41.getD 7 (.bool false)), (v41.getD 8 (.bool false))]).bind fun r87 =>
(D.bin .add (v41.getD 0 (.bool false)) (D.int .i64 1)).bind fun x88 =>
 some (Sum.inl [x88, (r87.2.getD 0 (.bool false)), (r87.2.getD 1 (.bool false)), (r87.2.getD 2 (.bool false)), (D.sl ((r87.2.getD 3 (.bool false)).els)), (r87.2.getD 4 (.bool false)), (r87.2.getD 5 (.bool false)), (r87.2.getD 6 (.bool false)), (r87.2.getD 7 (.bool false))])) else (some (Sum.inr (0, [(v41.getD 1 (.bool false)), (v41.getD 2 (.bool false)), (v41.getD 3 (.bool false)), (D.sl ((v41.getD 4 (.bool false)).els)), (v41.getD 5 (.bool false)), (v41.getD 6 (.bool false)), (v41.getD 7 (.bool false)), (v41.getD 8 (.bool false))])))) [(D.int .i64 0), (v9.getD 1 (.bool false)), (v9.getD 2 (.bool false)), (v9.getD 3 (.bool false)), (D.sl ((v9.getD 4 (.bool false)).els)), (v9.getD 5 (.bool false)), a0, x8, (D.st [x21, x30, x38])]).bind fun r89 =>
(D.bin .add (v9.getD 0 (.bool false)) (D.int .i64 1)).bind fun x90 =>
 some (Sum.inl [x90, (r89.2.getD 0 (.bool false)), (r89.2.getD 1 (.bool false)), (r89.2.getD 2 (.bool false)), (D.sl ((r89.2.getD 3 (.bool false)).els)), (r89.2.getD 4 (.bool false))])) else (some (Sum.inr (0, [(v9.getD 1 (.bool false)), (v9.getD 2 (.bool false)), (v9.getD 3 (.bool false)), (D.sl ((v9.getD 4 (.bool false)).els)), (v9.getD 5 (.bool false))])))) [(D.int .i64 2), (v3.getD 1 (.bool false)), (v3.getD 2 (.bool false)), (v3.getD 3 (.bool false)), (D.sl ((v3.getD 4 (.bool false)).els)), (v3.getD 5 (.bool false))]).bind fun r91 =>
(D.bin .add (v3.getD 0 (.bool false)) (D.int .i64 1)).bind fun x92 =>
 some (Sum.inl [x92, (r91.2.getD 0 (.bool false)), (r91.2.getD 1 (.bool false)), (r91.2.getD 2 (.bool false)), (D.sl ((r91.2.getD 3 (.bool false)).els)), (r91.2.getD 4 (.bool false))])) else (some (Sum.inr (0, [(v3.getD 1 (.bool false)), (v3.getD 2 (.bool false)), (v3.getD 3 (.bool false)), (D.sl ((v3.getD 4 (.bool false)).els)), (v3.getD 5 (.bool false))])))) [(D.int .i64 0), a0, (D.int .i64 0), (D.int .i64 0), (D.sl []), (D.st [(D.st [(D.st [(D.bool false), (D.bool false), (zeroD K10)]), (D.st [(D.bool false), (D.bool false), (zeroD K10)]), (D.st [(D.bool false), (D.bool false), (zeroD K10)])]), (D.st [(D.st [(D.bool false), (D.bool false), (zeroD K10)]), (D.st [(D.bool false), (D.bool false), (zeroD K10)]), (D.st [(D.bool false), (D.bool false), (zeroD K10)])]), (D.st [(D.st [(D.bool false), (D.bool false), (zeroD K10)]), (D.st [(D.bool false), (D.bool false), (zeroD K10)]), (D.st [(D.bool false), (D.bool false), (zeroD K10)])])])]).bind fun r93 =>
(D.get (r93.2.getD 4 (.bool false)) [0, 0]).bind fun x94 =>
(D.get (r93.2.getD 4 (.bool false)) [1, 1]).bind fun x95 =>
(call 57 [x94, x95]).bind fun r96 =>
(D.get (r93.2.getD 4 (.bool false)) [2, 2]).bind fun x97 =>
(call 57 [r96, x97]).bind fun r98 =>
(lp (β := Nat × List D) (fun (v99 : List D) =>
(D.bin .lss (v99.getD 0 (.bool false)) (D.int .i64 3)).bind fun x100 =>
(D.truth x100).bind fun b101 =>
 if b101 then ((lp (β := Nat × List D) (fun (v102 : List D) =>
(D.bin .lss (v102.getD 0 (.bool false)) (D.int .i64 3)).bind fun x103 =>
(D.truth x103).bind fun b104 =>
 if b104 then ((D.idx (v99.getD 0 (.bool false)) 3).bind fun i105 =>
(D.idx (v102.getD 0 (.bool false)) 3).bind fun i106 =>
(D.get (r93.2.getD 4 (.bool false)) [i105, i106]).bind fun x107 =>
(call 68 [x107]).bind fun r108 =>
((D.truth (D.bool (D.beq (v99.getD 0 (.bool false)) (v102.getD 0 (.bool false))))).bind fun b109 =>
 if b109 then ((call 57 [r108, r98]).bind fun r110 =>
 some (0, [(v102.getD 1 (.bool false)), (v102.getD 2 (.bool false)), (D.sl ((v102.getD 3 (.bool false)).els)), (v102.getD 4 (.bool false)), (v102.getD 5 (.bool false)), (D.sl ((v102.getD 6 (.bool false)).els)), r110])) else (some (0, [(v102.getD 1 (.bool false)), (v102.getD 2 (.bool false)), (D.sl ((v102.getD 3 (.bool false)).els)), (v102.getD 4 (.bool false)), (v102.getD 5 (.bool false)), (D.sl ((v102.getD 6 (.bool false)).els)), r108]))).bind fun (r111 : Nat × List D) =>
(call 54 [(D.int .i64 120)]).bind fun r112 =>
(call 62 [(r111.2.getD 6 (.bool false)), r112]).bind fun r113 =>
 if List.length ((r111.2.getD 5 (.bool false)).els) + List.length [r113] <= 1073741824 then ((D.bin .add (v102.getD 0 (.bool false)) (D.int .i64 1)).bind fun x114 =>
 some (Sum.inl [x114, (r111.2.getD 0 (.bool false)), (r111.2.getD 1 (.bool false)), (D.sl ((r111.2.getD 2 (.bool false)).els)), (r111.2.getD 3 (.bool false)), (r111.2.getD 4 (.bool false)), (D.sl (((r111.2.getD 5 (.bool false)).els) ++ [r113]))])) else none) else (some (Sum.inr (0, [(v102.getD 1 (.bool false)), (v102.getD 2 (.bool false)), (D.sl ((v102.getD 3 (.bool false)).els)), (v102.getD 4 (.bool false)), (v102.getD 5 (.bool false)), (D.sl ((v102.getD 6 (.bool false)).els))])))) [(D.int .i64 0), (v99.getD 1 (.bool false)), (v99.getD 2 (.bool false)), (D.sl ((v99.getD 3 (.bool false)).els)), (v99.getD 4 (.bool false)), (v99.getD 5 (.bool false)), (D.sl ((v99.getD 6 (.bool false)).els))]).bind fun r115 =>
(D.bin .add (v99.getD 0 (.bool false)) (D.int .i64 1)).bind fun x116 =>
 some (Sum.inl [x116, (r115.2.getD 0 (.bool false)), (r115.2.getD 1 (.bool false)), (D.sl ((r115.2.getD 2 (.bool false)).els)), (r115.2.getD 3 (.bool false)), (r115.2.getD 4 (.bool false)), (D.sl ((r115.2.getD 5 (.bool false)).els))])) else (some (Sum.inr (0, [(v99.getD 1 (.bool false)), (v99.getD 2 (.bool false)), (D.sl ((v99.getD 3 (.bool false)).els)), (v99.getD 4 (.bool false)), (v99.getD 5 (.bool false)), (D.sl ((v99.getD 6 (.bool false)).els))])))) [(D.int .i64 0), (r93.2.getD 1 (.bool false)), (r93.2.getD 2 (.bool false)), (D.sl ((r93.2.getD 3 (.bool false)).els)), (D.int .i64 3), (D.int .i64 3), (D.sl [])]).bind fun r117 =>
 some (D.st [(r117.2.getD 3 (.bool false)), (r117.2.getD 4 (.bool false)), (D.sl ((r117.2.getD 5 (.bool false)).els))])
theorem E28 (lp : Lp) (call : Nat -> List D -> Option D) (a0 : D) : evF (envOf lp call (inlP lp call)) Tryz.f28 A28 [K3] K15 [a0] = F28 lp call a0 := by kernel_rfl
theorem L28 {lp : Lp} (hlp : LpOk lp) : leafOk 28 (fun call xs => match xs with | [a0] => F28 lp call a0 | _ => none) :=
 leaf1 hlp (by kernel_rfl) (by kernel_rfl) (by kernel_rfl) (fun call a0 => E28 lp call a0)
end Go.Proofs.YtjjjkojfijpeeaaGreat.Sy
end
section
set_option maxRecDepth 20000
set_option maxHeartbeats 0
set_option linter.unusedVariables false
namespace Go.Proofs.YtjjjkojfijpeeaaGreat.Sy
open Go Go.Proofs
def A30 : Ann := (.two .leaf (.two .leaf (.two .leaf (.two (.two .leaf (.two (.loop ⟨[(3, .same (.ptr K13 4099 [])), (5, .dv (Ty.int .i64)), (15, .dv (Ty.int .i64))], [(4099, .keep K13 3)], [13, 14]⟩ [(.ret, ⟨[(4, .dv (Ty.int .i64))], [], []⟩), (.exit 0, ⟨[(5, .dv (Ty.int .i64))], [], []⟩)] (.two .leaf (.two .leaf (.two (.two (.two .leaf (.two .leaf (.two .leaf (.reg [] 7)))) .leaf) .leaf)))) .leaf)) .leaf))))
noncomputable def F30 (lp : Lp) (call : Nat -> List D -> Option D) (a0 : D) (a1 : D) : Option D :=
(call 71 [a1]).bind fun r1 =>
(D.truth r1).bind fun b2 =>
 if b2 then (some (D.int .i64 (-1))) else ((D.get a0 [0]).bind fun x3 =>
(call 45 [x3]).bind fun r4 =>
(D.asSl r4).bind fun l5 =>
(lp (β := Nat × List D) (fun (v6 : List D) =>
(D.bin .lss (v6.getD 1 (.bool false)) (D.int .i64 (l5.length))).bind fun x7 =>
(D.truth x7).bind fun b8 =>
 if b8 then ((D.asSl r4).bind fun l9 =>
(D.idx (v6.getD 1 (.bool false)) (l9.length)).bind fun i10 =>
(l9[i10]?).bind fun x11 =>
(D.get x11 [0]).bind fun x12 =>
(call 72 [x12, a1]).bind fun r13 =>
(D.get r13 [0, 0]).bind fun x14 =>
(D.truth x14).bind fun b15 =>
 if b15 then (some (Sum.inr (0, [(D.int .i64 (-1))]))) else ((D.get x11 [1]).bind fun x16 =>
(call 74 [x16]).bind fun r17 =>
(call 73 [r17, r13]).bind fun r18 =>
(D.min2 (v6.getD 0 (.bool false)) r18).bind fun x19 =>
(D.bin .add (v6.getD 1 (.bool false)) (D.int .i64 1)).bind fun x20 =>
 some (Sum.inl [x19, x20]))) else (some (Sum.inr (1, [(v6.getD 0 (.bool false))])))) [(D.int .i64 1), (D.int .i64 0)]).bind fun r21 =>
 if r21.1 = 0 then (some (r21.2.getD 0 (.bool false))) else (some (r21.2.getD 0 (.bool false))))
theorem E30 (lp : Lp) (call : Nat -> List D -> Option D) (a0 : D) (a1 : D) : evF (envOf lp call (inlP lp call)) Tryz.f30 A30 [K3, K13] (Ty.int .i64) [a0, a1] = F30 lp call a0 a1 := by kernel_rfl
theorem L30 {lp : Lp} (hlp : LpOk lp) : leafOk 30 (fun call xs => match xs with | [a0, a1] => F30 lp call a0 a1 | _ => none) :=
 leaf2 hlp (by kernel_rfl) (by kernel_rfl) (by kernel_rfl) (fun call a0 a1 => E30 lp call a0 a1)
def A31 : Ann := (.two .leaf (.two (.reg [] 10) .leaf))
noncomputable def F31 (lp : Lp) (call : Nat -> List D -> Option D) (a0 : D) : Option D :=
(D.get a0 [0]).bind fun x1 =>
(call 75 [x1]).bind fun r2 =>
(D.get a0 [1]).bind fun x3 =>
(call 75 [x3]).bind fun r4 =>
(D.get a0 [2]).bind fun x5 =>
(call 75 [x5]).bind fun r6 =>
 some (D.st [r2, r4, r6])
theorem E31 (lp : Lp) (call : Nat -> List D -> Option D) (a0 : D) : evF (envOf lp call (inlP lp call)) Tryz.f31 A31 [K1] K13 [a0] = F31 lp call a0 := by kernel_rfl
theorem L31 {lp : Lp} (hlp : LpOk lp) : leafOk 31 (fun call xs => match xs with | [a0] => F31 lp call a0 | _ => none) :=
 leaf1 hlp (by kernel_rfl) (by kernel_rfl) (by kernel_rfl) (fun call a0 => E31 lp call a0)
def A32 : Ann := (.two .leaf (.two .leaf (.two .leaf (.two .leaf (.two .leaf (.two .leaf (.two .leaf (.cut [(.normal, ⟨[(5, .dv K5), (6, .dv K5)], [], []⟩)] [] [] .leaf .leaf))))))))
noncomputable def F32 (lp : Lp) (call : Nat -> List D -> Option D) (a0 : D) (a1 : D) : Option D :=
(call 76 [a0]).bind fun r1 =>
(D.un .not r1).bind fun x2 =>
(D.truth x2).bind fun b3 =>
(if b3 then ((call 76 [a1]).bind fun r4 =>
(D.un .not r4).bind fun x5 =>
 D.truth x5) else (some false)).bind fun b6 =>
(D.truth (D.bool b6)).bind fun b7 =>
 if b7 then (some (D.int .i64 0)) else ((call 76 [a0]).bind fun r8 =>
(D.un .not r8).bind fun x9 =>
(D.truth x9).bind fun b10 =>
 if b10 then (some (D.int .i64 (-1))) else ((call 76 [a1]).bind fun r11 =>
(D.un .not r11).bind fun x12 =>
(D.truth x12).bind fun b13 =>
 if b13 then (some (D.int .i64 1)) else ((D.get a0 [1]).bind fun x14 =>
(D.get a1 [1]).bind fun x15 =>
(D.truth (D.bool (!(D.beq x14 x15)))).bind fun b16 =>
 if b16 then ((D.get a0 [1]).bind fun x17 =>
(D.truth x17).bind fun b18 =>
 if b18 then (some (D.int .i64 (-1))) else (some (D.int .i64 1))) else ((call 77 [a0]).bind fun r19 =>
(call 77 [a1]).bind fun r20 =>
((D.get a0 [1]).bind fun x21 =>
(D.truth x21).bind fun b22 =>
 if b22 then ((call 77 [a1]).bind fun r23 =>
(call 77 [a0]).bind fun r24 =>
 some (0, [r23, r24])) else (some (0, [r19, r20]))).bind fun (r25 : Nat × List D) =>
(call 78 [(r25.2.getD 0 (.bool false)), (r25.2.getD 1 (.bool false))]).bind fun r26 =>
(call 78 [(r25.2.getD 1 (.bool false)), (r25.2.getD 0 (.bool false))]).bind fun r27 =>
(D.truth r26).bind fun b28 =>
 if b28 then (some (D.int .i64 (-1))) else ((D.truth r27).bind fun b29 =>
 if b29 then (some (D.int .i64 1)) else (some (D.int .i64 0)))))))
theorem E32 (lp : Lp) (call : Nat -> List D -> Option D) (a0 : D) (a1 : D) : evF (envOf lp call (inlP lp call)) Tryz.f32 A32 [K11, K11] (Ty.int .i64) [a0, a1] = F32 lp call a0 a1 := by kernel_rfl
theorem L32 {lp : Lp} (hlp : LpOk lp) : leafOk 32 (fun call xs => match xs with | [a0, a1] => F32 lp call a0 a1 | _ => none) :=
 leaf2 hlp (by kernel_rfl) (by kernel_rfl) (by kernel_rfl) (fun call a0 a1 => E32 lp call a0 a1)
def A34 : Ann := .leaf
noncomputable def F34 (lp : Lp) (call : Nat -> List D -> Option D) (a0 : D) : Option D :=
(D.bin .geq a0 (D.int .i64 0)).bind fun x1 =>
(D.truth x1).bind fun b2 =>
 if b2 then ((D.bin .rem a0 (D.int .i64 65536)).bind fun x3 =>
(D.bin .quo a0 (D.int .i64 65536)).bind fun x4 =>
(D.bin .rem x4 (D.int .i64 65536)).bind fun x5 =>
(D.bin .quo a0 (D.int .i64 4294967296)).bind fun x6 =>
(D.bin .rem x6 (D.int .i64 65536)).bind fun x7 =>
(D.bin .quo a0 (D.int .i64 281474976710656)).bind fun x8 =>
(call 81 [(D.bool false), (D.sl [x3, x5, x7, x8])]).bind fun r9 =>
 some r9) else ((D.bin .add a0 (D.int .i64 1)).bind fun x10 =>
(D.un .neg x10).bind fun x11 =>
(D.bin .rem x11 (D.int .i64 65536)).bind fun x12 =>
(D.bin .quo x11 (D.int .i64 65536)).bind fun x13 =>
(D.bin .rem x13 (D.int .i64 65536)).bind fun x14 =>
(D.bin .quo x11 (D.int .i64 4294967296)).bind fun x15 =>
(D.bin .rem x15 (D.int .i64 65536)).bind fun x16 =>
(D.bin .quo x11 (D.int .i64 281474976710656)).bind fun x17 =>
(call 82 [(D.sl [x12, x14, x16, x17]), (D.sl [(D.int .i64 1)])]).bind fun r18 =>
(call 81 [(D.bool true), r18]).bind fun r19 =>
 some r19)
theorem E34 (lp : Lp) (call : Nat -> List D -> Option D) (a0 : D) : evF (envOf lp call (inlP lp call)) Tryz.f34 A34 [Ty.int .i64] K11 [a0] = F34 lp call a0 := by kernel_rfl
theorem L34 {lp : Lp} (hlp : LpOk lp) : leafOk 34 (fun call xs => match xs with | [a0] => F34 lp call a0 | _ => none) :=
 leaf1 hlp (by kernel_rfl) (by kernel_rfl) (by kernel_rfl) (fun call a0 => E34 lp call a0)
def A37 : Ann := (.two .leaf (.two .leaf (.two .leaf (.cut [(.normal, ⟨[(2, .same (.ptr K11 4098 [])), (3, .same (.ptr K11 4099 [])), (4, .same (.ptr K12 4100 [])), (5, .same (.ptr K11 12293 []))], [(4098, .keep K11 2), (4099, .keep K11 3), (4100, .keep K12 4), (12293, .one K11 (.dv K11))], []⟩)] [] [4098, 4099, 4100] .leaf (.two (.reg [] 7) .leaf)))))
noncomputable def F37 (lp : Lp) (call : Nat -> List D -> Option D) (a0 : D) (a1 : D) : Option D :=
(call 76 [a0]).bind fun r1 =>
(D.un .not r1).bind fun x2 =>
(D.truth x2).bind fun b3 =>
(if b3 then (some true) else ((call 76 [a1]).bind fun r4 =>
(D.un .not r4).bind fun x5 =>
 D.truth x5)).bind fun b6 =>
(D.truth (D.bool b6)).bind fun b7 =>
(if b7 then (some true) else ((call 83 [a1]).bind fun r8 =>
 D.truth (D.bool (D.beq r8 (D.int .i64 0))))).bind fun b9 =>
(D.truth (D.bool b9)).bind fun b10 =>
 if b10 then ((call 84 []).bind fun r11 =>
 some r11) else ((call 85 [a0, a1]).bind fun r12 =>
((call 83 [a1]).bind fun r13 =>
(D.bin .lss r13 (D.int .i64 0)).bind fun x14 =>
(D.truth x14).bind fun b15 =>
 if b15 then ((call 86 [r12]).bind fun r16 =>
 some (0, [r16])) else (some (0, [r12]))).bind fun (r17 : Nat × List D) =>
(call 87 [a0, (r17.2.getD 0 (.bool false))]).bind fun r18 =>
(call 87 [a1, (r17.2.getD 0 (.bool false))]).bind fun r19 =>
 some (D.st [r18, r19]))
theorem E37 (lp : Lp) (call : Nat -> List D -> Option D) (a0 : D) (a1 : D) : evF (envOf lp call (inlP lp call)) Tryz.f37 A37 [K11, K11] K12 [a0, a1] = F37 lp call a0 a1 := by kernel_rfl
theorem L37 {lp : Lp} (hlp : LpOk lp) : leafOk 37 (fun call xs => match xs with | [a0, a1] => F37 lp call a0 a1 | _ => none) :=
 leaf2 hlp (by kernel_rfl) (by kernel_rfl) (by kernel_rfl) (fun call a0 a1 => E37 lp call a0 a1)
def A42 : Ann := .leaf
noncomputable def F42 (lp : Lp) (call : Nat -> List D -> Option D) (a0 : D) (a1 : D) : Option D :=
(call 34 [a0]).bind fun r1 =>
(call 34 [a1]).bind fun r2 =>
(call 37 [r1, r2]).bind fun r3 =>
 some r3
theorem E42 (lp : Lp) (call : Nat -> List D -> Option D) (a0 : D) (a1 : D) : evF (envOf lp call (inlP lp call)) Tryz.f42 A42 [Ty.int .i64, Ty.int .i64] K12 [a0, a1] = F42 lp call a0 a1 := by kernel_rfl
theorem L42 {lp : Lp} (hlp : LpOk lp) : leafOk 42 (fun call xs => match xs with | [a0, a1] => F42 lp call a0 a1 | _ => none) :=
 leaf2 hlp (by kernel_rfl) (by kernel_rfl) (by kernel_rfl) (fun call a0 a1 => E42 lp call a0 a1)
def A43 : Ann := (.two .leaf (.two .leaf (.two (.two .leaf (.two (.loop ⟨[(2, .same (.ptr K3 4098 [])), (3, .same (.ptr K1 4099 [])), (5, .dv (Ty.int .i64)), (11, .dv (Ty.int .i64))], [(4098, .keep K3 2), (4099, .keep K1 3)], [9, 10]⟩ [(.exit 0, ⟨[(5, .dv (Ty.int .i64))], [], []⟩)] (.two .leaf (.two .leaf (.cut [(.normal, ⟨[(2, .same (.ptr K3 4098 [])), (3, .same (.ptr K1 4099 [])), (5, .dv (Ty.int .i64))], [(4098, .keep K3 2), (4099, .keep K1 3)], [9, 10, 11]⟩)] [9, 10, 11] [4098, 4099] (.two (.two .leaf (.two (.reg [] 11) .leaf)) .leaf) .leaf)))) .leaf)) .leaf)))
noncomputable def F43 (lp : Lp) (call : Nat -> List D -> Option D) (a0 : D) (a1 : D) : Option D :=
(D.get a0 [0]).bind fun x1 =>
(D.asSl x1).bind fun l2 =>
(lp (β := Nat × List D) (fun (v3 : List D) =>
(D.bin .lss (v3.getD 1 (.bool false)) (D.int .i64 (l2.length))).bind fun x4 =>
(D.truth x4).bind fun b5 =>
 if b5 then (((D.asSl x1).bind fun l6 =>
(D.idx (v3.getD 1 (.bool false)) (l6.length)).bind fun i7 =>
(l6[i7]?).bind fun x8 =>
(call 91 [a1, x8]).bind fun r9 =>
(D.get a0 [0]).bind fun x10 =>
(D.asSl x10).bind fun l11 =>
(D.idx (v3.getD 0 (.bool false)) (l11.length)).bind fun i12 =>
(l11[i12]?).bind fun x13 =>
(call 91 [a1, x13]).bind fun r14 =>
(call 90 [r9, r14]).bind fun r15 =>
(D.bin .gtr r15 (D.int .i64 0)).bind fun x16 =>
(D.truth x16).bind fun b17 =>
 if b17 then (some (0, [(v3.getD 1 (.bool false))])) else (some (0, [(v3.getD 0 (.bool false))]))).bind fun (r18 : Nat × List D) =>
(D.bin .add (v3.getD 1 (.bool false)) (D.int .i64 1)).bind fun x19 =>
 some (Sum.inl [(r18.2.getD 0 (.bool false)), x19])) else (some (Sum.inr (0, [(v3.getD 0 (.bool false))])))) [(D.int .i64 0), (D.int .i64 0)]).bind fun r20 =>
 some (r20.2.getD 0 (.bool false))
theorem E43 (lp : Lp) (call : Nat -> List D -> Option D) (a0 : D) (a1 : D) : evF (envOf lp call (inlP lp call)) Tryz.f43 A43 [K3, K1] (Ty.int .i64) [a0, a1] = F43 lp call a0 a1 := by kernel_rfl
theorem L43 {lp : Lp} (hlp : LpOk lp) : leafOk 43 (fun call xs => match xs with | [a0, a1] => F43 lp call a0 a1 | _ => none) :=
 leaf2 hlp (by kernel_rfl) (by kernel_rfl) (by kernel_rfl) (fun call a0 a1 => E43 lp call a0 a1)
def A46 : Ann := (.two .leaf (.two .leaf (.two (.two .leaf (.two (.loop ⟨[(2, .same (.ptr K2 4098 [])), (3, .same (.ptr K17 4099 [])), (5, .same (.ptr K5 8197 [])), (13, .dv (Ty.int .i64))], [(4098, .keep K2 2), (4099, .keep K17 3), (8197, .one K5 (.ow (Ty.int .i64)))], [11, 12]⟩ [(.exit 0, ⟨[(2, .same (.ptr K2 4098 [])), (3, .same (.ptr K17 4099 [])), (5, .same (.ptr K5 8197 []))], [(4098, .keep K2 2), (4099, .keep K17 3), (8197, .one K5 (.ow (Ty.int .i64)))], []⟩)] (.two .leaf (.two .leaf (.cut [(.normal, ⟨[(2, .same (.ptr K2 4098 [])), (3, .same (.ptr K17 4099 [])), (5, .same (.ptr K5 8197 []))], [(4098, .keep K2 2), (4099, .keep K17 3), (8197, .one K5 (.ow (Ty.int .i64)))], [11, 12, 13]⟩)] [11, 12, 13] [4098, 4099] (.two (.two .leaf (.two (.reg [] 6) .leaf)) .leaf) .leaf)))) .leaf)) (.two .leaf (.two .leaf (.two (.two (.regI [] 6 (.two (.two .leaf (.two .leaf (.two (.two .leaf (.two (.loop ⟨[(2, .same (.ptr K2 4098 [])), (3, .same (.ptr K17 4099 [])), (6, .dv (Ty.int .i64)), (12, .dv K5), (14, .dv (Ty.int .i64))], [(4098, .keep K2 2), (4099, .keep K17 3), (8197, .one K5 (.dv K5))], [0, 13]⟩ [(.exit 0, ⟨[(6, .dv (Ty.int .i64))], [(4098, .keep K2 2), (4099, .keep K17 3), (8197, .one K5 (.dv K5))], []⟩)] (.two .leaf (.two .leaf (.cut [(.normal, ⟨[(2, .same (.ptr K2 4098 [])), (3, .same (.ptr K17 4099 [])), (6, .dv (Ty.int .i64))], [(4098, .keep K2 2), (4099, .keep K17 3), (8197, .one K5 (.dv K5))], [0, 12, 13, 14]⟩)] [0, 12, 13, 14] [4098, 4099] (.two (.two .leaf (.two .leaf (.two .leaf (.two (.reg [] 20) .leaf)))) .leaf) .leaf)))) .leaf)) .leaf))) .leaf)) (.two (.loop ⟨[(5, .same (.ptr K5 8197 [])), (8, .same (.clo 102 [(.ptr K5 8197 []), (.ptr K2 4098 []), (.ptr K17 4099 [])])), (9, .ow (Ty.int .i64)), (10, .dv (Ty.int .i64))], [(4098, .keep K2 2), (4099, .keep K17 3), (8197, .keep K5 5)], []⟩ [(.exit 2, ⟨[(9, .ow (Ty.int .i64))], [], []⟩)] (.two .leaf (.two .leaf (.regI [] 4 (.two (.two .leaf (.two .leaf (.two (.two .leaf (.two (.loop ⟨[(2, .same (.ptr K2 4098 [])), (3, .same (.ptr K17 4099 [])), (6, .dv (Ty.int .i64)), (14, .dv (Ty.int .i64))], [(4098, .keep K2 2), (4099, .keep K17 3), (8197, .keep K5 1)], [0, 12, 13]⟩ [(.exit 0, ⟨[(6, .dv (Ty.int .i64))], [(4098, .keep K2 2), (4099, .keep K17 3), (8197, .keep K5 1)], []⟩)] (.two .leaf (.two .leaf (.cut [(.normal, ⟨[(2, .same (.ptr K2 4098 [])), (3, .same (.ptr K17 4099 [])), (6, .dv (Ty.int .i64))], [(4098, .keep K2 2), (4099, .keep K17 3), (8197, .one K5 (.dv K5))], [0, 12, 13, 14]⟩)] [0, 12, 13, 14] [4098, 4099] (.two (.two .leaf (.two .leaf (.two .leaf (.two (.reg [] 20) .leaf)))) .leaf) .leaf)))) .leaf)) .leaf))) .leaf))))) .leaf)) .leaf))))))
noncomputable def F46 (lp : Lp) (call : Nat -> List D -> Option D) (a0 : D) (a1 : D) : Option D :=
(D.asSl a0).bind fun l1 =>
(lp (β := Nat × List D) (fun (v2 : List D) =>
(D.bin .lss (v2.getD 0 (.bool false)) (D.int .i64 (l1.length))).bind fun x3 =>
(D.truth x3).bind fun b4 =>
 if b4 then (((D.asSl a0).bind fun l5 =>
(D.idx (v2.getD 0 (.bool false)) (l5.length)).bind fun i6 =>
(l5[i6]?).bind fun x7 =>
(D.get a1 [0]).bind fun x8 =>
(call 101 [x8, x7]).bind fun r9 =>
(D.get a1 [1]).bind fun x10 =>
(D.truth (D.bool (D.beq r9 x10))).bind fun b11 =>
 if b11 then (if List.length ((v2.getD 1 (.bool false)).els) + List.length [(v2.getD 0 (.bool false))] <= 1073741824 then (some (0, [(D.sl (((v2.getD 1 (.bool false)).els) ++ [(v2.getD 0 (.bool false))]))])) else none) else (some (0, [(D.sl ((v2.getD 1 (.bool false)).els))]))).bind fun (r12 : Nat × List D) =>
(D.bin .add (v2.getD 0 (.bool false)) (D.int .i64 1)).bind fun x13 =>
 some (Sum.inl [x13, (D.sl ((r12.2.getD 0 (.bool false)).els))])) else (some (Sum.inr (0, [(D.sl ((v2.getD 1 (.bool false)).els))])))) [(D.int .i64 0), (D.sl [])]).bind fun r14 =>
(D.idx (D.int .i64 0) (List.length ((r14.2.getD 0 (.bool false)).els))).bind fun i15 =>
(((r14.2.getD 0 (.bool false)).els)[i15]?).bind fun x16 =>
(D.idx (D.int .i64 0) (List.length ((r14.2.getD 0 (.bool false)).els))).bind fun i17 =>
(((r14.2.getD 0 (.bool false)).els)[i17]?).bind fun x18 =>
(lp (β := Nat × List D) (fun (v19 : List D) =>
(D.bin .lss (v19.getD 2 (.bool false)) (D.int .i64 (List.length ((r14.2.getD 0 (.bool false)).els)))).bind fun x20 =>
(D.truth x20).bind fun b21 =>
 if b21 then (((D.asSl (v19.getD 1 (.bool false))).bind fun l22 =>
(D.idx (v19.getD 2 (.bool false)) (l22.length)).bind fun i23 =>
(l22[i23]?).bind fun x24 =>
(D.truth (D.bool (D.beq x24 x18))).bind fun b25 =>
 if b25 then (some (0, [(v19.getD 0 (.bool false)), (v19.getD 3 (.bool false))])) else ((D.bin .lss (v19.getD 0 (.bool false)) (D.int .i64 0)).bind fun x26 =>
(D.truth x26).bind fun b27 =>
 if b27 then (some (0, [x24, (v19.getD 3 (.bool false))])) else ((D.asSl a0).bind fun l28 =>
(D.idx x24 (l28.length)).bind fun i29 =>
(l28[i29]?).bind fun x30 =>
(D.asSl a0).bind fun l31 =>
(D.idx x18 (l31.length)).bind fun i32 =>
(l31[i32]?).bind fun x33 =>
(call 103 [x30, x33]).bind fun r34 =>
(D.asSl a0).bind fun l35 =>
(D.idx (v19.getD 0 (.bool false)) (l35.length)).bind fun i36 =>
(l35[i36]?).bind fun x37 =>
(D.asSl a0).bind fun l38 =>
(D.idx x18 (l38.length)).bind fun i39 =>
(l38[i39]?).bind fun x40 =>
(call 103 [x37, x40]).bind fun r41 =>
(D.get a1 [0]).bind fun x42 =>
(call 104 [x42, r41, r34]).bind fun r43 =>
(D.bin .lss r43 (D.int .i64 0)).bind fun x44 =>
(D.truth x44).bind fun b45 =>
(if b45 then (some true) else ((D.truth (D.bool (D.beq r43 (D.int .i64 0)))).bind fun b46 =>
 if b46 then ((call 101 [r34, r34]).bind fun r47 =>
(call 101 [r41, r41]).bind fun r48 =>
(D.bin .gtr r47 r48).bind fun x49 =>
 D.truth x49) else (some false))).bind fun b50 =>
(D.truth (D.bool b50)).bind fun b51 =>
 if b51 then (some (0, [x24, (v19.getD 3 (.bool false))])) else (some (0, [(v19.getD 0 (.bool false)), (v19.getD 3 (.bool false))]))))).bind fun (r52 : Nat × List D) =>
(D.bin .add (v19.getD 2 (.bool false)) (D.int .i64 1)).bind fun x53 =>
 some (Sum.inl [(r52.2.getD 0 (.bool false)), (v19.getD 1 (.bool false)), x53, (r52.2.getD 1 (.bool false))])) else (some (Sum.inr (0, [(v19.getD 0 (.bool false)), (v19.getD 3 (.bool false))])))) [(D.int .i64 (-1)), (D.sl ((r14.2.getD 0 (.bool false)).els)), (D.int .i64 0), (D.sl ((r14.2.getD 0 (.bool false)).els))]).bind fun r54 =>
(lp (β := Nat × List D) (fun (v55 : List D) =>
(D.asSl (r54.2.getD 1 (.bool false))).bind fun l56 =>
(D.idx (D.int .i64 0) (l56.length)).bind fun i57 =>
(l56[i57]?).bind fun x58 =>
(D.truth (D.bool (!(D.beq (v55.getD 1 (.bool false)) x58)))).bind fun b59 =>
 if b59 then (if List.length ((v55.getD 0 (.bool false)).els) + List.length [(v55.getD 1 (.bool false))] <= 1073741824 then ((D.asSl (r54.2.getD 1 (.bool false))).bind fun l60 =>
(lp (β := Nat × List D) (fun (v61 : List D) =>
(D.bin .lss (v61.getD 1 (.bool false)) (D.int .i64 (l60.length))).bind fun x62 =>
(D.truth x62).bind fun b63 =>
 if b63 then (((D.asSl (r54.2.getD 1 (.bool false))).bind fun l64 =>
(D.idx (v61.getD 1 (.bool false)) (l64.length)).bind fun i65 =>
(l64[i65]?).bind fun x66 =>
(D.truth (D.bool (D.beq x66 (v55.getD 1 (.bool false))))).bind fun b67 =>
 if b67 then (some (0, [(v61.getD 0 (.bool false)), (r54.2.getD 1 (.bool false))])) else ((D.bin .lss (v61.getD 0 (.bool false)) (D.int .i64 0)).bind fun x68 =>
(D.truth x68).bind fun b69 =>
 if b69 then (some (0, [x66, (r54.2.getD 1 (.bool false))])) else ((D.asSl a0).bind fun l70 =>
(D.idx x66 (l70.length)).bind fun i71 =>
(l70[i71]?).bind fun x72 =>
(D.asSl a0).bind fun l73 =>
(D.idx (v55.getD 1 (.bool false)) (l73.length)).bind fun i74 =>
(l73[i74]?).bind fun x75 =>
(call 103 [x72, x75]).bind fun r76 =>
(D.asSl a0).bind fun l77 =>
(D.idx (v61.getD 0 (.bool false)) (l77.length)).bind fun i78 =>
(l77[i78]?).bind fun x79 =>
(D.asSl a0).bind fun l80 =>
(D.idx (v55.getD 1 (.bool false)) (l80.length)).bind fun i81 =>
(l80[i81]?).bind fun x82 =>
(call 103 [x79, x82]).bind fun r83 =>
(D.get a1 [0]).bind fun x84 =>
(call 104 [x84, r83, r76]).bind fun r85 =>
(D.bin .lss r85 (D.int .i64 0)).bind fun x86 =>
(D.truth x86).bind fun b87 =>
(if b87 then (some true) else ((D.truth (D.bool (D.beq r85 (D.int .i64 0)))).bind fun b88 =>
 if b88 then ((call 101 [r76, r76]).bind fun r89 =>
(call 101 [r83, r83]).bind fun r90 =>
(D.bin .gtr r89 r90).bind fun x91 =>
 D.truth x91) else (some false))).bind fun b92 =>
(D.truth (D.bool b92)).bind fun b93 =>
 if b93 then (some (0, [x66, (r54.2.getD 1 (.bool false))])) else (some (0, [(v61.getD 0 (.bool false)), (r54.2.getD 1 (.bool false))]))))).bind fun (r94 : Nat × List D) =>
(D.bin .add (v61.getD 1 (.bool false)) (D.int .i64 1)).bind fun x95 =>
 some (Sum.inl [(r94.2.getD 0 (.bool false)), x95])) else (some (Sum.inr (0, [(v61.getD 0 (.bool false))])))) [(D.int .i64 (-1)), (D.int .i64 0)]).bind fun r96 =>
 some (Sum.inl [(D.sl (((v55.getD 0 (.bool false)).els) ++ [(v55.getD 1 (.bool false))])), (r96.2.getD 0 (.bool false))])) else none) else (some (Sum.inr (0, [(D.sl ((v55.getD 0 (.bool false)).els))])))) [(D.sl [x16]), (r54.2.getD 0 (.bool false))]).bind fun r97 =>
 some (D.sl ((r97.2.getD 0 (.bool false)).els))
theorem E46 (lp : Lp) (call : Nat -> List D -> Option D) (a0 : D) (a1 : D) : evF (envOf lp call (inlP lp call)) Tryz.f46 A46 [K2, K17] K5 [a0, a1] = F46 lp call a0 a1 := by kernel_rfl
theorem L46 {lp : Lp} (hlp : LpOk lp) : leafOk 46 (fun call xs => match xs with | [a0, a1] => F46 lp call a0 a1 | _ => none) :=
 leaf2 hlp (by kernel_rfl) (by kernel_rfl) (by kernel_rfl) (fun call a0 a1 => E46 lp call a0 a1)
def A47 : Ann := (.two .leaf (.two .leaf (.two (.two .leaf (.two (.loop ⟨[(3, .ow K1), (4, .dv (Ty.int .i64))], [], [0]⟩ [(.exit 0, ⟨[(3, .ow K1)], [], []⟩)] (.two .leaf (.two (.two (.two .leaf (.two .leaf (.two (.two .leaf (.two (.loop ⟨[(3, .ow K1), (5, .ow K1), (6, .dv Ty.bool), (7, .dv (Ty.int .i64))], [], [0, 4]⟩ [(.exit 2, ⟨[(5, .ow K1), (6, .dv Ty.bool)], [], [0, 4]⟩)] (.two .leaf (.cut [(.normal, ⟨[(3, .ow K1), (5, .ow K1), (6, .dv Ty.bool)], [], [0, 4, 7]⟩)] [0, 4, 7] [] (.two (.two (.reg [] 9) (.cut [(.normal, ⟨[(3, .ow K1), (5, .ow K1), (6, .dv Ty.bool)], [], [0, 4, 7]⟩)] [0, 4, 7] [] .leaf (.two (.reg [] 8) .leaf))) .leaf) .leaf))) .leaf)) (.cut [(.normal, ⟨[(5, .ow K1)], [], [0, 4]⟩)] [0, 4] [] .leaf .leaf)))) .leaf) .leaf))) .leaf)) .leaf)))
noncomputable def F47 (lp : Lp) (call : Nat -> List D -> Option D) (a0 : D) : Option D :=
(lp (β := Nat × List D) (fun (v1 : List D) =>
(D.asSl a0).bind fun l2 =>
(D.bin .lss (v1.getD 1 (.bool false)) (D.int .i64 (l2.length))).bind fun x3 =>
(D.truth x3).bind fun b4 =>
 if b4 then ((lp (β := Nat × List D) (fun (v5 : List D) =>
(D.bin .lss (v5.getD 3 (.bool false)) (D.int .i64 (List.length ((v5.getD 0 (.bool false)).els)))).bind fun x6 =>
(D.truth x6).bind fun b7 =>
 if b7 then (((D.asSl a0).bind fun l8 =>
(D.idx (v1.getD 1 (.bool false)) (l8.length)).bind fun i9 =>
(l8[i9]?).bind fun x10 =>
(D.idx (v5.getD 3 (.bool false)) (List.length ((v5.getD 0 (.bool false)).els))).bind fun i11 =>
(((v5.getD 0 (.bool false)).els)[i11]?).bind fun x12 =>
(call 105 [x10, x12]).bind fun r13 =>
((D.un .not (v5.getD 2 (.bool false))).bind fun x14 =>
(D.truth x14).bind fun b15 =>
(if b15 then ((D.truth r13).bind fun b16 =>
 if b16 then (some true) else ((D.asSl a0).bind fun l17 =>
(D.idx (v1.getD 1 (.bool false)) (l17.length)).bind fun i18 =>
(l17[i18]?).bind fun x19 =>
(D.idx (v5.getD 3 (.bool false)) (List.length ((v5.getD 0 (.bool false)).els))).bind fun i20 =>
(((v5.getD 0 (.bool false)).els)[i20]?).bind fun x21 =>
 D.truth (D.bool (D.beq x19 x21)))) else (some false)).bind fun b22 =>
(D.truth (D.bool b22)).bind fun b23 =>
 if b23 then ((D.asSl a0).bind fun l24 =>
(D.idx (v1.getD 1 (.bool false)) (l24.length)).bind fun i25 =>
(l24[i25]?).bind fun x26 =>
 if List.length ((v5.getD 1 (.bool false)).els) + List.length [x26] <= 1073741824 then (some (0, [(D.sl ((v5.getD 0 (.bool false)).els)), (D.sl (((v5.getD 1 (.bool false)).els) ++ [x26])), (D.bool true)])) else none) else (some (0, [(D.sl ((v5.getD 0 (.bool false)).els)), (D.sl ((v5.getD 1 (.bool false)).els)), (v5.getD 2 (.bool false))]))).bind fun (r27 : Nat × List D) =>
(D.idx (v5.getD 3 (.bool false)) (List.length ((r27.2.getD 0 (.bool false)).els))).bind fun i28 =>
(((r27.2.getD 0 (.bool false)).els)[i28]?).bind fun x29 =>
(D.asSl a0).bind fun l30 =>
(D.idx (v1.getD 1 (.bool false)) (l30.length)).bind fun i31 =>
(l30[i31]?).bind fun x32 =>
(D.truth (D.bool (!(D.beq x29 x32)))).bind fun b33 =>
 if b33 then ((D.idx (v5.getD 3 (.bool false)) (List.length ((r27.2.getD 0 (.bool false)).els))).bind fun i34 =>
(((r27.2.getD 0 (.bool false)).els)[i34]?).bind fun x35 =>
 if List.length ((r27.2.getD 1 (.bool false)).els) + List.length [x35] <= 1073741824 then (some (0, [(D.sl ((r27.2.getD 0 (.bool false)).els)), (D.sl (((r27.2.getD 1 (.bool false)).els) ++ [x35])), (r27.2.getD 2 (.bool false))])) else none) else (some (0, [(D.sl ((r27.2.getD 0 (.bool false)).els)), (D.sl ((r27.2.getD 1 (.bool false)).els)), (r27.2.getD 2 (.bool false))]))).bind fun (r36 : Nat × List D) =>
(D.bin .add (v5.getD 3 (.bool false)) (D.int .i64 1)).bind fun x37 =>
 some (Sum.inl [(D.sl ((r36.2.getD 0 (.bool false)).els)), (D.sl ((r36.2.getD 1 (.bool false)).els)), (r36.2.getD 2 (.bool false)), x37])) else (some (Sum.inr (0, [(D.sl ((v5.getD 1 (.bool false)).els)), (v5.getD 2 (.bool false))])))) [(D.sl ((v1.getD 0 (.bool false)).els)), (D.sl []), (D.bool false), (D.int .i64 0)]).bind fun r38 =>
((D.un .not (r38.2.getD 1 (.bool false))).bind fun x39 =>
(D.truth x39).bind fun b40 =>
 if b40 then ((D.asSl a0).bind fun l41 =>
(D.idx (v1.getD 1 (.bool false)) (l41.length)).bind fun i42 =>
(l41[i42]?).bind fun x43 =>
 if List.length ((r38.2.getD 0 (.bool false)).els) + List.length [x43] <= 1073741824 then (some (0, [(D.sl (((r38.2.getD 0 (.bool false)).els) ++ [x43]))])) else none) else (some (0, [(D.sl ((r38.2.getD 0 (.bool false)).els))]))).bind fun (r44 : Nat × List D) =>
(D.bin .add (v1.getD 1 (.bool false)) (D.int .i64 1)).bind fun x45 =>
 some (Sum.inl [(D.sl ((r44.2.getD 0 (.bool false)).els)), x45])) else (some (Sum.inr (0, [(D.sl ((v1.getD 0 (.bool false)).els))])))) [(D.sl []), (D.int .i64 0)]).bind fun r46 =>
 some (D.sl ((r46.2.getD 0 (.bool false)).els))
theorem E47 (lp : Lp) (call : Nat -> List D -> Option D) (a0 : D) : evF (envOf lp call (inlP lp call)) Tryz.f47 A47 [K2] K2 [a0] = F47 lp call a0 := by kernel_rfl
theorem L47 {lp : Lp} (hlp : LpOk lp) : leafOk 47 (fun call xs => match xs with | [a0] => F47 lp call a0 | _ => none) :=
 leaf1 hlp (by kernel_rfl) (by kernel_rfl) (by kernel_rfl) (fun call a0 => E47 lp call a0)
def A48 : Ann := (.two .leaf (.two .leaf (.two (.two .leaf (.two (.loop ⟨[(3, .dv K7), (4, .dv (Ty.int .i64))], [], [0]⟩ [(.exit 0, ⟨[(3, .dv K7)], [], []⟩)] (.two .leaf (.two (.two (.two .leaf (.two (.loop ⟨[(3, .dv K7), (5, .dv (Ty.int .i64))], [], [0, 4]⟩ [(.exit 2, ⟨[(3, .dv K7)], [], [0, 4]⟩)] (.two .leaf (.two (.two (.two .leaf (.two (.loop ⟨[(3, .dv K7), (6, .dv (Ty.int .i64))], [], [0, 4, 5]⟩ [(.exit 4, ⟨[(3, .dv K7)], [], [0, 4, 5]⟩)] (.two .leaf (.two (.two (.two (.reg [] 14) (.two .leaf (.two (.loop ⟨[(3, .dv K7), (7, .same (.ptr K1 49159 [])), (8, .dv (Ty.int .i64))], [(49159, .one K1 (.dv K1))], [0, 4, 5, 6]⟩ [(.exit 6, ⟨[(3, .dv K7)], [], [0, 4, 5, 6]⟩)] (.two .leaf (.two (.two (.two (.reg [] 6) (.two .leaf (.two .leaf (.cut [(.normal, ⟨[(3, .dv K7), (7, .same (.ptr K1 49159 []))], [(49159, .keep K1 7)], [0, 4, 5, 6, 8]⟩)] [0, 4, 5, 6, 8] [49159] (.two .leaf (.two (.reg [] 9) .leaf)) .leaf)))) .leaf) .leaf))) .leaf))) .leaf) .leaf))) .leaf)) .leaf) .leaf))) .leaf)) .leaf) .leaf))) .leaf)) .leaf)))
noncomputable def F48 (lp : Lp) (call : Nat -> List D -> Option D) (a0 : D) : Option D :=
(lp (β := Nat × List D) (fun (v1 : List D) =>
(D.asSl a0).bind fun l2 =>
(D.bin .lss (v1.getD 1 (.bool false)) (D.int .i64 (l2.length))).bind fun x3 =>
(D.truth x3).bind fun b4 =>
 if b4 then ((D.bin .add (v1.getD 1 (.bool false)) (D.int .i64 1)).bind fun x5 =>
(lp (β := Nat × List D) (fun (v6 : List D) =>
(D.asSl a0).bind fun l7 =>
(D.bin .lss (v6.getD 1 (.bool false)) (D.int .i64 (l7.length))).bind fun x8 =>
(D.truth x8).bind fun b9 =>
 if b9 then ((D.bin .add (v6.getD 1 (.bool false)) (D.int .i64 1)).bind fun x10 =>
(lp (β := Nat × List D) (fun (v11 : List D) =>
(D.asSl a0).bind fun l12 =>
(D.bin .lss (v11.getD 1 (.bool false)) (D.int .i64 (l12.length))).bind fun x13 =>
(D.truth x13).bind fun b14 =>
 if b14 then ((D.asSl a0).bind fun l15 =>
(D.idx (v1.getD 1 (.bool false)) (l15.length)).bind fun i16 =>
(l15[i16]?).bind fun x17 =>
(D.asSl a0).bind fun l18 =>
(D.idx (v6.getD 1 (.bool false)) (l18.length)).bind fun i19 =>
(l18[i19]?).bind fun x20 =>
(D.asSl a0).bind fun l21 =>
(D.idx (v11.getD 1 (.bool false)) (l21.length)).bind fun i22 =>
(l21[i22]?).bind fun x23 =>
(call 106 [x17, x20, x23]).bind fun r24 =>
(lp (β := Nat × List D) (fun (v25 : List D) =>
(D.bin .lss (v25.getD 1 (.bool false)) (D.int .i64 2)).bind fun x26 =>
(D.truth x26).bind fun b27 =>
 if b27 then ((D.asSl a0).bind fun l28 =>
(D.idx (v1.getD 1 (.bool false)) (l28.length)).bind fun i29 =>
(l28[i29]?).bind fun x30 =>
(call 107 [(v25.getD 2 (.bool false)), x30]).bind fun r31 =>
(call 108 [(v25.getD 0 (.bool false)), (v25.getD 2 (.bool false))]).bind fun r32 =>
((D.un .not r32).bind fun x33 =>
(D.truth x33).bind fun b34 =>
(if b34 then ((D.un .not (D.bool (D.beq (v25.getD 2 (.bool false)) (D.st [(D.int .i64 0), (D.int .i64 0), (D.int .i64 0)])))).bind fun x35 =>
 D.truth x35) else (some false)).bind fun b36 =>
(D.truth (D.bool b36)).bind fun b37 =>
(if b37 then ((call 109 [a0, (v25.getD 2 (.bool false)), r31]).bind fun r38 =>
 D.truth r38) else (some false)).bind fun b39 =>
(D.truth (D.bool b39)).bind fun b40 =>
 if b40 then ((call 111 [a0, (v25.getD 2 (.bool false)), r31]).bind fun r41 =>
(call 110 [(v25.getD 0 (.bool false)), (D.st [(v25.getD 2 (.bool false)), r31, r41])]).bind fun r42 =>
 some (0, [r42])) else (some (0, [(v25.getD 0 (.bool false))]))).bind fun (r43 : Nat × List D) =>
(call 112 [(D.st [(D.int .i64 0), (D.int .i64 0), (D.int .i64 0)]), (v25.getD 2 (.bool false))]).bind fun r44 =>
(D.bin .add (v25.getD 1 (.bool false)) (D.int .i64 1)).bind fun x45 =>
 some (Sum.inl [(r43.2.getD 0 (.bool false)), x45, r44])) else (some (Sum.inr (0, [(v25.getD 0 (.bool false))])))) [(v11.getD 0 (.bool false)), (D.int .i64 0), r24]).bind fun r46 =>
(D.bin .add (v11.getD 1 (.bool false)) (D.int .i64 1)).bind fun x47 =>
 some (Sum.inl [(r46.2.getD 0 (.bool false)), x47])) else (some (Sum.inr (0, [(v11.getD 0 (.bool false))])))) [(v6.getD 0 (.bool false)), x10]).bind fun r48 =>
(D.bin .add (v6.getD 1 (.bool false)) (D.int .i64 1)).bind fun x49 =>
 some (Sum.inl [(r48.2.getD 0 (.bool false)), x49])) else (some (Sum.inr (0, [(v6.getD 0 (.bool false))])))) [(v1.getD 0 (.bool false)), x5]).bind fun r50 =>
(D.bin .add (v1.getD 1 (.bool false)) (D.int .i64 1)).bind fun x51 =>
 some (Sum.inl [(r50.2.getD 0 (.bool false)), x51])) else (some (Sum.inr (0, [(v1.getD 0 (.bool false))])))) [(D.sl []), (D.int .i64 0)]).bind fun r52 =>
 some (r52.2.getD 0 (.bool false))
theorem E48 (lp : Lp) (call : Nat -> List D -> Option D) (a0 : D) : evF (envOf lp call (inlP lp call)) Tryz.f48 A48 [K2] K7 [a0] = F48 lp call a0 := by kernel_rfl
theorem L48 {lp : Lp} (hlp : LpOk lp) : leafOk 48 (fun call xs => match xs with | [a0] => F48 lp call a0 | _ => none) :=
 leaf1 hlp (by kernel_rfl) (by kernel_rfl) (by kernel_rfl) (fun call a0 => E48 lp call a0)
def A49 : Ann := (.two .leaf (.two .leaf (.two (.two .leaf (.two (.loop ⟨[(13, .dv (Ty.int .i64))], [], [0, 1, 12]⟩ [(.ret, ⟨[(4, .dv Ty.bool)], [], []⟩), (.exit 0, ⟨[], [], []⟩)] (.two .leaf (.two .leaf (.two (.two (.two .leaf (.two (.reg [] 8) .leaf)) .leaf) .leaf)))) .leaf)) .leaf)))
noncomputable def F49 (lp : Lp) (call : Nat -> List D -> Option D) (a0 : D) (a1 : D) : Option D :=
(D.asSl a0).bind fun l1 =>
(D.asSl a1).bind fun l2 =>
(D.truth (D.bool (!(D.beq (D.int .i64 (l1.length)) (D.int .i64 (l2.length)))))).bind fun b3 =>
 if b3 then (some (D.bool false)) else ((D.asSl a0).bind fun l4 =>
(lp (β := Nat × List D) (fun (v5 : List D) =>
(D.bin .lss (v5.getD 0 (.bool false)) (D.int .i64 (l4.length))).bind fun x6 =>
(D.truth x6).bind fun b7 =>
 if b7 then ((D.asSl a0).bind fun l8 =>
(D.idx (v5.getD 0 (.bool false)) (l8.length)).bind fun i9 =>
(l8[i9]?).bind fun x10 =>
(D.asSl a1).bind fun l11 =>
(D.idx (v5.getD 0 (.bool false)) (l11.length)).bind fun i12 =>
(l11[i12]?).bind fun x13 =>
(D.truth (D.bool (!(D.beq x10 x13)))).bind fun b14 =>
 if b14 then (some (Sum.inr (0, [(D.bool false)]))) else ((D.bin .add (v5.getD 0 (.bool false)) (D.int .i64 1)).bind fun x15 =>
 some (Sum.inl [x15]))) else (some (Sum.inr (1, [])))) [(D.int .i64 0)]).bind fun r16 =>
 if r16.1 = 0 then (some (r16.2.getD 0 (.bool false))) else (some (D.bool true)))
theorem E49 (lp : Lp) (call : Nat -> List D -> Option D) (a0 : D) (a1 : D) : evF (envOf lp call (inlP lp call)) Tryz.f49 A49 [K2, K2] Ty.bool [a0, a1] = F49 lp call a0 a1 := by kernel_rfl
theorem L49 {lp : Lp} (hlp : LpOk lp) : leafOk 49 (fun call xs => match xs with | [a0, a1] => F49 lp call a0 a1 | _ => none) :=
 leaf2 hlp (by kernel_rfl) (by kernel_rfl) (by kernel_rfl) (fun call a0 a1 => E49 lp call a0 a1)
def A51 : Ann := (.two .leaf (.two (.reg [] 12) .leaf))
noncomputable def F51 (lp : Lp) (call : Nat -> List D -> Option D) (a0 : D) (a1 : D) : Option D :=
(D.get a0 [0]).bind fun x1 =>
(D.get a1 [0]).bind fun x2 =>
(call 53 [x1, x2]).bind fun r3 =>
(D.get a0 [1]).bind fun x4 =>
(D.get a1 [1]).bind fun x5 =>
(call 53 [x4, x5]).bind fun r6 =>
(call 52 [(D.sl [r3, r6])]).bind fun r7 =>
 some r7
theorem E51 (lp : Lp) (call : Nat -> List D -> Option D) (a0 : D) (a1 : D) : evF (envOf lp call (inlP lp call)) Tryz.f51 A51 [K8, K8] (Ty.int .i64) [a0, a1] = F51 lp call a0 a1 := by kernel_rfl
theorem L51 {lp : Lp} (hlp : LpOk lp) : leafOk 51 (fun call xs => match xs with | [a0, a1] => F51 lp call a0 a1 | _ => none) :=
 leaf2 hlp (by kernel_rfl) (by kernel_rfl) (by kernel_rfl) (fun call a0 a1 => E51 lp call a0 a1)
def A52 : Ann := (.two .leaf (.two .leaf (.two (.two .leaf (.two (.loop ⟨[(8, .dv (Ty.int .i64))], [], [3, 6, 7]⟩ [(.ret, ⟨[(2, .dv (Ty.int .i64))], [], []⟩), (.exit 0, ⟨[], [], [3]⟩)] .leaf) .leaf)) .leaf)))
noncomputable def F52 (lp : Lp) (call : Nat -> List D -> Option D) (a0 : D) : Option D :=
(D.asSl a0).bind fun l1 =>
(lp (β := Nat × List D) (fun (v2 : List D) =>
(D.bin .lss (v2.getD 0 (.bool false)) (D.int .i64 (l1.length))).bind fun x3 =>
(D.truth x3).bind fun b4 =>
 if b4 then ((D.asSl a0).bind fun l5 =>
(D.idx (v2.getD 0 (.bool false)) (l5.length)).bind fun i6 =>
(l5[i6]?).bind fun x7 =>
(D.truth (D.bool (!(D.beq x7 (D.int .i64 0))))).bind fun b8 =>
 if b8 then (some (Sum.inr (0, [x7]))) else ((D.bin .add (v2.getD 0 (.bool false)) (D.int .i64 1)).bind fun x9 =>
 some (Sum.inl [x9]))) else (some (Sum.inr (1, [])))) [(D.int .i64 0)]).bind fun r10 =>
 if r10.1 = 0 then (some (r10.2.getD 0 (.bool false))) else (some (D.int .i64 0))
theorem E52 (lp : Lp) (call : Nat -> List D -> Option D) (a0 : D) : evF (envOf lp call (inlP lp call)) Tryz.f52 A52 [K5] (Ty.int .i64) [a0] = F52 lp call a0 := by kernel_rfl
theorem L52 {lp : Lp} (hlp : LpOk lp) : leafOk 52 (fun call xs => match xs with | [a0] => F52 lp call a0 | _ => none) :=
 leaf1 hlp (by kernel_rfl) (by kernel_rfl) (by kernel_rfl) (fun call a0 => E52 lp call a0)
def A53 : Ann := .leaf
noncomputable def F53 (lp : Lp) (call : Nat -> List D -> Option D) (a0 : D) (a1 : D) : Option D :=
(call 115 [a0]).bind fun r1 =>
(call 115 [a1]).bind fun r2 =>
(D.truth r1).bind fun b3 =>
 if b3 then ((D.truth r2).bind fun b4 =>
 if b4 then (some (D.int .i64 0)) else (some (D.int .i64 (-1)))) else ((D.truth r2).bind fun b5 =>
 if b5 then (some (D.int .i64 1)) else ((D.bin .lss a0 a1).bind fun x6 =>
(D.truth x6).bind fun b7 =>
 if b7 then (some (D.int .i64 (-1))) else ((D.bin .gtr a0 a1).bind fun x8 =>
(D.truth x8).bind fun b9 =>
 if b9 then (some (D.int .i64 1)) else (some (D.int .i64 0)))))
theorem E53 (lp : Lp) (call : Nat -> List D -> Option D) (a0 : D) (a1 : D) : evF (envOf lp call (inlP lp call)) Tryz.f53 A53 [Ty.int .i64, Ty.int .i64] (Ty.int .i64) [a0, a1] = F53 lp call a0 a1 := by kernel_rfl
theorem L53 {lp : Lp} (hlp : LpOk lp) : leafOk 53 (fun call xs => match xs with | [a0, a1] => F53 lp call a0 a1 | _ => none) :=
 leaf2 hlp (by kernel_rfl) (by kernel_rfl) (by kernel_rfl) (fun call a0 a1 => E53 lp call a0 a1)
def A54 : Ann := (.two .leaf (.two .leaf (.cut [(.normal, ⟨[(2, .same (.ptr K11 4098 [])), (3, .dv (Ty.int .u64))], [(4098, .keep K11 2)], [0]⟩)] [0] [4098] .leaf .leaf)))
noncomputable def F54 (lp : Lp) (call : Nat -> List D -> Option D) (a0 : D) : Option D :=
(D.conv .u64 a0).bind fun x1 =>
((D.bin .lss a0 (D.int .i64 0)).bind fun x2 =>
(D.truth x2).bind fun b3 =>
 if b3 then ((D.un .neg x1).bind fun x4 =>
 some (0, [x4])) else (some (0, [x1]))).bind fun (r5 : Nat × List D) =>
(D.bin .lss a0 (D.int .i64 0)).bind fun x6 =>
(D.conv .u32 (r5.2.getD 0 (.bool false))).bind fun x7 =>
(D.bin .shr (r5.2.getD 0 (.bool false)) (D.int .u64 32)).bind fun x8 =>
(D.conv .u32 x8).bind fun x9 =>
(call 116 [x6, (D.st (D.putParts (List.replicate 16 (D.int .u32 0)) [(0, x7), (1, x9)]))]).bind fun r10 =>
 some r10
theorem E54 (lp : Lp) (call : Nat -> List D -> Option D) (a0 : D) : evF (envOf lp call (inlP lp call)) Tryz.f54 A54 [Ty.int .i64] K11 [a0] = F54 lp call a0 := by kernel_rfl
theorem L54 {lp : Lp} (hlp : LpOk lp) : leafOk 54 (fun call xs => match xs with | [a0] => F54 lp call a0 | _ => none) :=
 leaf1 hlp (by kernel_rfl) (by kernel_rfl) (by kernel_rfl) (fun call a0 => E54 lp call a0)
def A57 : Ann := (.two .leaf (.two .leaf (.two .leaf (.two (.two .leaf (.two (.two (.reg [] 8) .leaf) .leaf)) (.two (.reg [] 8) .leaf)))))
noncomputable def F57 (lp : Lp) (call : Nat -> List D -> Option D) (a0 : D) (a1 : D) : Option D :=
(call 118 [(D.sl [a0, a1])]).bind fun r1 =>
(D.un .not r1).bind fun x2 =>
(D.truth x2).bind fun b3 =>
 if b3 then ((call 119 []).bind fun r4 =>
 some r4) else ((D.get a0 [1]).bind fun x5 =>
(D.get a1 [1]).bind fun x6 =>
(D.truth (D.bool (D.beq x5 x6))).bind fun b7 =>
 if b7 then ((D.get a0 [2]).bind fun x8 =>
(D.get a1 [2]).bind fun x9 =>
(call 120 [x8, x9]).bind fun r10 =>
(D.tupAt r10 0).bind fun x11 =>
(D.tupAt r10 1).bind fun x12 =>
(D.un .not x12).bind fun x13 =>
(D.truth x13).bind fun b14 =>
 if b14 then ((call 119 []).bind fun r15 =>
 some r15) else ((D.get a0 [1]).bind fun x16 =>
(call 116 [x16, x11]).bind fun r17 =>
 some r17)) else ((D.get a0 [2]).bind fun x18 =>
(D.get a1 [2]).bind fun x19 =>
(call 121 [x18, x19]).bind fun r20 =>
(D.bin .geq r20 (D.int .i64 0)).bind fun x21 =>
(D.truth x21).bind fun b22 =>
 if b22 then ((D.get a0 [1]).bind fun x23 =>
(D.get a0 [2]).bind fun x24 =>
(D.get a1 [2]).bind fun x25 =>
(call 122 [x24, x25]).bind fun r26 =>
(call 116 [x23, r26]).bind fun r27 =>
 some r27) else ((D.get a1 [1]).bind fun x28 =>
(D.get a1 [2]).bind fun x29 =>
(D.get a0 [2]).bind fun x30 =>
(call 122 [x29, x30]).bind fun r31 =>
(call 116 [x28, r31]).bind fun r32 =>
 some r32)))
theorem E57 (lp : Lp) (call : Nat -> List D -> Option D) (a0 : D) (a1 : D) : evF (envOf lp call (inlP lp call)) Tryz.f57 A57 [K11, K11] K11 [a0, a1] = F57 lp call a0 a1 := by kernel_rfl
theorem L57 {lp : Lp} (hlp : LpOk lp) : leafOk 57 (fun call xs => match xs with | [a0, a1] => F57 lp call a0 a1 | _ => none) :=
 leaf2 hlp (by kernel_rfl) (by kernel_rfl) (by kernel_rfl) (fun call a0 a1 => E57 lp call a0 a1)
end Go.Proofs.YtjjjkojfijpeeaaGreat.Sy
end
