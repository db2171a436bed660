/- Part 8 of the proof that HullIsClosed answers true at every input -/
import Derived.Test.YtjjjkojfijpeeaaGreatClosed05
import Derived.Test.YtjjjkojfijpeeaaGreatClosed06
import Derived.Shelf.SlSortCmp.InsertionK
set_option linter.unusedVariables false
set_option linter.unusedSimpArgs false
set_option linter.unnecessarySimpa false
section
set_option maxRecDepth 20000
set_option maxHeartbeats 0
set_option linter.unusedVariables false
namespace Go.Proofs.YtjjjkojfijpeeaaGreat.Sy
open Go Go.Proofs
def A111 : Ann := (.two .leaf (.two .leaf (.two .leaf (.two (.two .leaf (.two (.loop ⟨[(4, .same (.ptr K1 4100 [])), (7, .ow (Ty.int .i64)), (8, .dv (Ty.int .i64)), (9, .dv (Ty.int .i64))], [(4100, .keep K1 4)], [0, 2]⟩ [(.exit 0, ⟨[(4, .same (.ptr K1 4100 [])), (7, .ow (Ty.int .i64)), (8, .dv (Ty.int .i64))], [(4100, .keep K1 4)], [0, 2]⟩)] (.two .leaf (.cut [(.normal, ⟨[(4, .same (.ptr K1 4100 [])), (7, .ow (Ty.int .i64)), (8, .dv (Ty.int .i64))], [(4100, .keep K1 4)], [0, 2, 9]⟩)] [0, 2, 9] [4100] (.two (.two (.reg [] 7) .leaf) .leaf) .leaf))) .leaf)) (.two .leaf (.two (.two (.loop ⟨[(4, .same (.ptr K1 4100 [])), (7, .ow (Ty.int .i64)), (8, .dv (Ty.int .i64))], [(4100, .keep K1 4)], [0, 2, 10]⟩ [(.exit 2, ⟨[(7, .ow (Ty.int .i64))], [], []⟩)] (.two .leaf (.two (.two .leaf (.two .leaf (.two (.two .leaf (.two (.loop ⟨[(4, .same (.ptr K1 4100 [])), (7, .ow (Ty.int .i64)), (11, .dv (Ty.int .i64)), (12, .dv (Ty.int .i64))], [(4100, .keep K1 4)], [0, 2, 8, 10]⟩ [(.exit 4, ⟨[(4, .same (.ptr K1 4100 [])), (7, .ow (Ty.int .i64)), (11, .dv (Ty.int .i64))], [(4100, .keep K1 4)], [0, 2, 10]⟩)] (.two .leaf (.cut [(.normal, ⟨[(4, .same (.ptr K1 4100 [])), (7, .ow (Ty.int .i64)), (11, .dv (Ty.int .i64))], [(4100, .keep K1 4)], [0, 2, 8, 10, 12]⟩)] [0, 2, 8, 10, 12] [4100] (.two (.two .leaf (.two (.two (.reg [] 12) .leaf) .leaf)) .leaf) .leaf))) .leaf)) .leaf))) .leaf))) .leaf) .leaf))))))
noncomputable def F111 (lp : Lp) (call : Nat -> List D -> Option D) (a0 : D) (a1 : D) (a2 : D) : Option D :=
(lp (β := Nat × List D) (fun (v1 : List D) =>
(D.asSl a0).bind fun l2 =>
(D.bin .lss (v1.getD 2 (.bool false)) (D.int .i64 (l2.length))).bind fun x3 =>
(D.truth x3).bind fun b4 =>
(if b4 then ((D.bin .lss (v1.getD 1 (.bool false)) (D.int .i64 0)).bind fun x5 =>
 D.truth x5) else (some false)).bind fun b6 =>
(D.truth (D.bool b6)).bind fun b7 =>
 if b7 then (((D.asSl a0).bind fun l8 =>
(D.idx (v1.getD 2 (.bool false)) (l8.length)).bind fun i9 =>
(l8[i9]?).bind fun x10 =>
(call 107 [a1, x10]).bind fun r11 =>
(D.truth (D.bool (D.beq r11 a2))).bind fun b12 =>
 if b12 then (some (0, [(D.sl ((v1.getD 0 (.bool false)).els)), (v1.getD 2 (.bool false))])) else (some (0, [(D.sl ((v1.getD 0 (.bool false)).els)), (v1.getD 1 (.bool false))]))).bind fun (r13 : Nat × List D) =>
(D.bin .add (v1.getD 2 (.bool false)) (D.int .i64 1)).bind fun x14 =>
 some (Sum.inl [(D.sl ((r13.2.getD 0 (.bool false)).els)), (r13.2.getD 1 (.bool false)), x14])) else (some (Sum.inr (0, [(D.sl ((v1.getD 0 (.bool false)).els)), (v1.getD 1 (.bool false))])))) [(D.sl []), (D.int .i64 (-1)), (D.int .i64 0)]).bind fun r15 =>
(lp (β := Nat × List D) (fun (v16 : List D) =>
(D.asSl a0).bind fun l17 =>
(D.bin .leq (D.int .i64 (List.length ((v16.getD 0 (.bool false)).els))) (D.int .i64 (l17.length))).bind fun x18 =>
(D.truth x18).bind fun b19 =>
 if b19 then (if List.length ((v16.getD 0 (.bool false)).els) + List.length [(v16.getD 1 (.bool false))] <= 1073741824 then ((lp (β := Nat × List D) (fun (v20 : List D) =>
(D.asSl a0).bind fun l21 =>
(D.bin .lss (v20.getD 2 (.bool false)) (D.int .i64 (l21.length))).bind fun x22 =>
(D.truth x22).bind fun b23 =>
(if b23 then ((D.bin .lss (v20.getD 1 (.bool false)) (D.int .i64 0)).bind fun x24 =>
 D.truth x24) else (some false)).bind fun b25 =>
(D.truth (D.bool b25)).bind fun b26 =>
 if b26 then (((D.truth (D.bool (!(D.beq (v20.getD 2 (.bool false)) (v16.getD 1 (.bool false)))))).bind fun b27 =>
(if b27 then ((D.asSl a0).bind fun l28 =>
(D.idx (v20.getD 2 (.bool false)) (l28.length)).bind fun i29 =>
(l28[i29]?).bind fun x30 =>
(call 107 [a1, x30]).bind fun r31 =>
 D.truth (D.bool (D.beq r31 a2))) else (some false)).bind fun b32 =>
(D.truth (D.bool b32)).bind fun b33 =>
 if b33 then ((D.asSl a0).bind fun l34 =>
(D.idx (v16.getD 1 (.bool false)) (l34.length)).bind fun i35 =>
(l34[i35]?).bind fun x36 =>
(D.asSl a0).bind fun l37 =>
(D.idx (v20.getD 2 (.bool false)) (l37.length)).bind fun i38 =>
(l37[i38]?).bind fun x39 =>
(call 156 [a0, a1, a2, x36, x39]).bind fun r40 =>
(D.truth r40).bind fun b41 =>
 if b41 then (some (0, [(D.sl ((v20.getD 0 (.bool false)).els)), (v20.getD 2 (.bool false))])) else (some (0, [(D.sl ((v20.getD 0 (.bool false)).els)), (v20.getD 1 (.bool false))]))) else (some (0, [(D.sl ((v20.getD 0 (.bool false)).els)), (v20.getD 1 (.bool false))]))).bind fun (r42 : Nat × List D) =>
(D.bin .add (v20.getD 2 (.bool false)) (D.int .i64 1)).bind fun x43 =>
 some (Sum.inl [(D.sl ((r42.2.getD 0 (.bool false)).els)), (r42.2.getD 1 (.bool false)), x43])) else (some (Sum.inr (0, [(D.sl ((v20.getD 0 (.bool false)).els)), (v20.getD 1 (.bool false))])))) [(D.sl (((v16.getD 0 (.bool false)).els) ++ [(v16.getD 1 (.bool false))])), (D.int .i64 (-1)), (D.int .i64 0)]).bind fun r44 =>
(D.truth (D.bool (D.beq (r44.2.getD 1 (.bool false)) (r15.2.getD 1 (.bool false))))).bind fun b45 =>
(if b45 then (some true) else ((D.bin .lss (r44.2.getD 1 (.bool false)) (D.int .i64 0)).bind fun x46 =>
 D.truth x46)).bind fun b47 =>
(D.truth (D.bool b47)).bind fun b48 =>
 if b48 then (some (Sum.inr (0, [(D.sl ((r44.2.getD 0 (.bool false)).els))]))) else (some (Sum.inl [(D.sl ((r44.2.getD 0 (.bool false)).els)), (r44.2.getD 1 (.bool false))]))) else none) else (some (Sum.inr (0, [(D.sl ((v16.getD 0 (.bool false)).els))])))) [(D.sl ((r15.2.getD 0 (.bool false)).els)), (r15.2.getD 1 (.bool false))]).bind fun r49 =>
 some (D.sl ((r49.2.getD 0 (.bool false)).els))
theorem L111 {lp} (hlp : LpOk lp) : leafOk 111 (m3 (F111 lp)) := leaf3 (fn := Tryz.f111) (ann := A111) hlp (by kernel_rfl) (by kernel_rfl) (fun call a0 a1 a2 => by kernel_rfl)
noncomputable def F112 (lp : Lp) (call : Nat -> List D -> Option D) (a0 : D) (a1 : D) : Option D :=
(D.get a0 [0]).bind fun x1 =>
(D.get a1 [0]).bind fun x2 =>
(D.bin .sub x1 x2).bind fun x3 =>
(D.get a0 [1]).bind fun x4 =>
(D.get a1 [1]).bind fun x5 =>
(D.bin .sub x4 x5).bind fun x6 =>
(D.get a0 [2]).bind fun x7 =>
(D.get a1 [2]).bind fun x8 =>
(D.bin .sub x7 x8).bind fun x9 =>
 some (D.st [x3, x6, x9])
theorem L112 {lp} (hlp : LpOk lp) : leafOk 112 (m2 (F112 lp)) := leaf2 (fn := Tryz.f112) (ann := .leaf) hlp (by kernel_rfl) (by kernel_rfl) (fun call a0 a1 => by kernel_rfl)
noncomputable def F115 (lp : Lp) (call : Nat -> List D -> Option D) (a0 : D) : Option D :=
 some (D.bool (!(D.beq a0 a0)))
theorem L115 {lp} (hlp : LpOk lp) : leafOk 115 (m1 (F115 lp)) := leaf1 (fn := Tryz.f115) (ann := .leaf) hlp (by kernel_rfl) (by kernel_rfl) (fun call a0 => by kernel_rfl)
def A116 : Ann := (.two .leaf (.two (.reg [] 8) .leaf))
noncomputable def F116 (lp : Lp) (call : Nat -> List D -> Option D) (a0 : D) (a1 : D) : Option D :=
(D.truth a0).bind fun b1 =>
(if b1 then (D.truth (D.bool (!(D.beq a1 (D.st (D.putParts (List.replicate 16 (D.int .u32 0)) [])))))) else (some false)).bind fun b2 =>
 some (D.st [(D.bool false), (D.bool b2), a1])
theorem L116 {lp} (hlp : LpOk lp) : leafOk 116 (m2 (F116 lp)) := leaf2 (fn := Tryz.f116) (ann := A116) hlp (by kernel_rfl) (by kernel_rfl) (fun call a0 a1 => by kernel_rfl)
noncomputable def F117 (lp : Lp) (call : Nat -> List D -> Option D) (a0 : D) (a1 : D) : Option D :=
(D.get a0 [1]).bind fun x1 =>
(D.get a1 [2]).bind fun x2 =>
(D.bin .mul x1 x2).bind fun x3 =>
(D.get a0 [2]).bind fun x4 =>
(D.get a1 [1]).bind fun x5 =>
(D.bin .mul x4 x5).bind fun x6 =>
(D.bin .sub x3 x6).bind fun x7 =>
(D.get a0 [2]).bind fun x8 =>
(D.get a1 [0]).bind fun x9 =>
(D.bin .mul x8 x9).bind fun x10 =>
(D.get a0 [0]).bind fun x11 =>
(D.get a1 [2]).bind fun x12 =>
(D.bin .mul x11 x12).bind fun x13 =>
(D.bin .sub x10 x13).bind fun x14 =>
(D.get a0 [0]).bind fun x15 =>
(D.get a1 [1]).bind fun x16 =>
(D.bin .mul x15 x16).bind fun x17 =>
(D.get a0 [1]).bind fun x18 =>
(D.get a1 [0]).bind fun x19 =>
(D.bin .mul x18 x19).bind fun x20 =>
(D.bin .sub x17 x20).bind fun x21 =>
 some (D.st [x7, x14, x21])
theorem L117 {lp} (hlp : LpOk lp) : leafOk 117 (m2 (F117 lp)) := leaf2 (fn := Tryz.f117) (ann := .leaf) hlp (by kernel_rfl) (by kernel_rfl) (fun call a0 a1 => by kernel_rfl)
def A118 : Ann := (.two .leaf (.two (.two .leaf (.two (.loop ⟨[(7, .dv (Ty.int .i64))], [], [5, 6]⟩ [(.ret, ⟨[(2, .dv Ty.bool)], [], []⟩), (.exit 0, ⟨[], [], []⟩)] .leaf) .leaf)) .leaf))
noncomputable def F118 (lp : Lp) (call : Nat -> List D -> Option D) (a0 : D) : Option D :=
(D.asSl a0).bind fun l1 =>
(lp (β := Nat × List D) (fun (v2 : List D) =>
(D.bin .lss (v2.getD 0 (.bool false)) (D.int .i64 (l1.length))).bind fun x3 =>
(D.truth x3).bind fun b4 =>
 if b4 then ((D.asSl a0).bind fun l5 =>
(D.idx (v2.getD 0 (.bool false)) (l5.length)).bind fun i6 =>
(l5[i6]?).bind fun x7 =>
(D.get x7 [0]).bind fun x8 =>
(D.truth x8).bind fun b9 =>
(if b9 then (some true) else ((call 167 [x7]).bind fun r10 =>
(D.un .not r10).bind fun x11 =>
 D.truth x11)).bind fun b12 =>
(D.truth (D.bool b12)).bind fun b13 =>
 if b13 then (some (Sum.inr (0, [(D.bool false)]))) else ((D.bin .add (v2.getD 0 (.bool false)) (D.int .i64 1)).bind fun x14 =>
 some (Sum.inl [x14]))) else (some (Sum.inr (1, [])))) [(D.int .i64 0)]).bind fun r15 =>
 if r15.1 = 0 then (some (r15.2.getD 0 (.bool false))) else (some (D.bool true))
theorem L118 {lp} (hlp : LpOk lp) : leafOk 118 (m1 (F118 lp)) := leaf1 (fn := Tryz.f118) (ann := A118) hlp (by kernel_rfl) (by kernel_rfl) (fun call a0 => by kernel_rfl)
noncomputable def F119 (lp : Lp) (call : Nat -> List D -> Option D)  : Option D :=
 some (D.st [(D.bool true), (D.bool false), (zeroD K10)])
theorem L119 {lp} (hlp : LpOk lp) : leafOk 119 (m0 (F119 lp)) := leaf0 (fn := Tryz.f119) (ann := .leaf) hlp (by kernel_rfl) (by kernel_rfl) (fun call => by kernel_rfl)
def A120 : Ann := (.two .leaf (.two .leaf (.two .leaf (.two (.two .leaf (.two (.loop ⟨[(2, .same (.ptr K10 4098 [])), (3, .same (.ptr K10 4099 [])), (4, .same (.ptr K10 4100 [])), (6, .same (.ptr K10 8198 [])), (7, .dv (Ty.int .u64)), (9, .dv (Ty.int .i64))], [(4098, .keep K10 2), (4099, .keep K10 3), (4100, .keep K10 4), (8198, .one K10 (.dv K10))], []⟩ [(.exit 0, ⟨[(4, .same (.ptr K10 4100 [])), (6, .same (.ptr K10 8198 [])), (7, .dv (Ty.int .u64))], [(4100, .keep K10 4), (8198, .one K10 (.dv K10))], []⟩)] (.two .leaf (.two .leaf (.two (.two (.two .leaf (.two (.reg [] 11) .leaf)) .leaf) .leaf)))) .leaf)) .leaf))))
noncomputable def F120 (lp : Lp) (call : Nat -> List D -> Option D) (a0 : D) (a1 : D) : Option D :=
(lp (β := Nat × List D) (fun (v1 : List D) =>
(D.bin .lss (v1.getD 1 (.bool false)) (D.int .i64 16)).bind fun x2 =>
(D.truth x2).bind fun b3 =>
 if b3 then ((D.idx (v1.getD 1 (.bool false)) 16).bind fun i4 =>
(D.get a0 [i4]).bind fun x5 =>
(D.conv .u64 x5).bind fun x6 =>
(D.idx (v1.getD 1 (.bool false)) 16).bind fun i7 =>
(D.get a1 [i7]).bind fun x8 =>
(D.conv .u64 x8).bind fun x9 =>
(D.bin .add x6 x9).bind fun x10 =>
(D.bin .add (v1.getD 0 (.bool false)) x10).bind fun x11 =>
(D.conv .u32 x11).bind fun x12 =>
(D.idx (v1.getD 1 (.bool false)) 16).bind fun i13 =>
(D.set (v1.getD 2 (.bool false)) [i13] x12).bind fun x14 =>
(D.bin .shr x11 (D.int .u64 32)).bind fun x15 =>
(D.bin .add (v1.getD 1 (.bool false)) (D.int .i64 1)).bind fun x16 =>
 some (Sum.inl [x15, x16, x14])) else (some (Sum.inr (0, [(v1.getD 0 (.bool false)), (v1.getD 2 (.bool false))])))) [(D.int .u64 0), (D.int .i64 0), (zeroD K10)]).bind fun r17 =>
 some (D.tup [(r17.2.getD 1 (.bool false)), (D.bool (D.beq (r17.2.getD 0 (.bool false)) (D.int .u64 0)))])
theorem L120 {lp} (hlp : LpOk lp) : leafOk 120 (m2 (F120 lp)) := leaf2 (fn := Tryz.f120) (ann := A120) hlp (by kernel_rfl) (by kernel_rfl) (fun call a0 a1 => by kernel_rfl)
def A121 : Ann := (.two .leaf (.two (.two .leaf (.two (.loop ⟨[(2, .same (.ptr K10 4098 [])), (3, .same (.ptr K10 4099 [])), (5, .dv (Ty.int .i64))], [(4098, .keep K10 2), (4099, .keep K10 3)], []⟩ [(.ret, ⟨[(4, .dv (Ty.int .i64))], [], []⟩), (.exit 0, ⟨[], [], []⟩)] (.two .leaf (.two (.two (.two (.reg [] 6) (.two (.two (.reg [] 7) .leaf) .leaf)) .leaf) .leaf))) .leaf)) .leaf))
noncomputable def F121 (lp : Lp) (call : Nat -> List D -> Option D) (a0 : D) (a1 : D) : Option D :=
(lp (β := Nat × List D) (fun (v1 : List D) =>
(D.bin .geq (v1.getD 0 (.bool false)) (D.int .i64 0)).bind fun x2 =>
(D.truth x2).bind fun b3 =>
 if b3 then ((D.idx (v1.getD 0 (.bool false)) 16).bind fun i4 =>
(D.get a0 [i4]).bind fun x5 =>
(D.idx (v1.getD 0 (.bool false)) 16).bind fun i6 =>
(D.get a1 [i6]).bind fun x7 =>
(D.truth (D.bool (!(D.beq x5 x7)))).bind fun b8 =>
 if b8 then ((D.idx (v1.getD 0 (.bool false)) 16).bind fun i9 =>
(D.get a0 [i9]).bind fun x10 =>
(D.idx (v1.getD 0 (.bool false)) 16).bind fun i11 =>
(D.get a1 [i11]).bind fun x12 =>
(call 168 [x10, x12]).bind fun r13 =>
 some (Sum.inr (0, [r13]))) else ((D.bin .sub (v1.getD 0 (.bool false)) (D.int .i64 1)).bind fun x14 =>
 some (Sum.inl [x14]))) else (some (Sum.inr (1, [])))) [(D.int .i64 15)]).bind fun r15 =>
 if r15.1 = 0 then (some (r15.2.getD 0 (.bool false))) else (some (D.int .i64 0))
theorem L121 {lp} (hlp : LpOk lp) : leafOk 121 (m2 (F121 lp)) := leaf2 (fn := Tryz.f121) (ann := A121) hlp (by kernel_rfl) (by kernel_rfl) (fun call a0 a1 => by kernel_rfl)
def A122 : Ann := (.two .leaf (.two .leaf (.two .leaf (.two (.two .leaf (.two (.loop ⟨[(2, .same (.ptr K10 4098 [])), (3, .same (.ptr K10 4099 [])), (4, .same (.ptr K10 4100 [])), (5, .same (.ptr K10 8197 [])), (6, .dv (Ty.int .u64)), (9, .dv (Ty.int .i64))], [(4098, .keep K10 2), (4099, .keep K10 3), (4100, .keep K10 4), (8197, .one K10 (.dv K10))], []⟩ [(.exit 0, ⟨[(4, .same (.ptr K10 4100 [])), (5, .same (.ptr K10 8197 []))], [(4100, .keep K10 4), (8197, .one K10 (.dv K10))], []⟩)] (.two .leaf (.two .leaf (.two (.two (.two .leaf (.two (.reg [] 11) .leaf)) .leaf) .leaf)))) .leaf)) .leaf))))
noncomputable def F122 (lp : Lp) (call : Nat -> List D -> Option D) (a0 : D) (a1 : D) : Option D :=
(lp (β := Nat × List D) (fun (v1 : List D) =>
(D.bin .lss (v1.getD 1 (.bool false)) (D.int .i64 16)).bind fun x2 =>
(D.truth x2).bind fun b3 =>
 if b3 then ((D.idx (v1.getD 1 (.bool false)) 16).bind fun i4 =>
(D.get a0 [i4]).bind fun x5 =>
(D.conv .u64 x5).bind fun x6 =>
(D.idx (v1.getD 1 (.bool false)) 16).bind fun i7 =>
(D.get a1 [i7]).bind fun x8 =>
(D.conv .u64 x8).bind fun x9 =>
(D.bin .sub x6 x9).bind fun x10 =>
(D.bin .sub x10 (v1.getD 0 (.bool false))).bind fun x11 =>
(D.conv .u32 x11).bind fun x12 =>
(D.idx (v1.getD 1 (.bool false)) 16).bind fun i13 =>
(D.set (v1.getD 2 (.bool false)) [i13] x12).bind fun x14 =>
(D.bin .shr x11 (D.int .u64 63)).bind fun x15 =>
(D.bin .add (v1.getD 1 (.bool false)) (D.int .i64 1)).bind fun x16 =>
 some (Sum.inl [x15, x16, x14])) else (some (Sum.inr (0, [(v1.getD 2 (.bool false))])))) [(D.int .u64 0), (D.int .i64 0), (zeroD K10)]).bind fun r17 =>
 some (r17.2.getD 0 (.bool false))
theorem L122 {lp} (hlp : LpOk lp) : leafOk 122 (m2 (F122 lp)) := leaf2 (fn := Tryz.f122) (ann := A122) hlp (by kernel_rfl) (by kernel_rfl) (fun call a0 a1 => by kernel_rfl)
noncomputable def F123 (lp : Lp) (call : Nat -> List D -> Option D) (a0 : D) (a1 : D) : Option D :=
(D.get a0 [1]).bind fun x1 =>
(D.get a1 [2]).bind fun x2 =>
(D.bin .mul x1 x2).bind fun x3 =>
(D.get a0 [2]).bind fun x4 =>
(D.get a1 [1]).bind fun x5 =>
(D.bin .mul x4 x5).bind fun x6 =>
(D.bin .sub x3 x6).bind fun x7 =>
(D.get a0 [2]).bind fun x8 =>
(D.get a1 [0]).bind fun x9 =>
(D.bin .mul x8 x9).bind fun x10 =>
(D.get a0 [0]).bind fun x11 =>
(D.get a1 [2]).bind fun x12 =>
(D.bin .mul x11 x12).bind fun x13 =>
(D.bin .sub x10 x13).bind fun x14 =>
(D.get a0 [0]).bind fun x15 =>
(D.get a1 [1]).bind fun x16 =>
(D.bin .mul x15 x16).bind fun x17 =>
(D.get a0 [1]).bind fun x18 =>
(D.get a1 [0]).bind fun x19 =>
(D.bin .mul x18 x19).bind fun x20 =>
(D.bin .sub x17 x20).bind fun x21 =>
 some (D.st [x7, x14, x21])
theorem L123 {lp} (hlp : LpOk lp) : leafOk 123 (m2 (F123 lp)) := leaf2 (fn := Tryz.f123) (ann := .leaf) hlp (by kernel_rfl) (by kernel_rfl) (fun call a0 a1 => by kernel_rfl)
def A124 : Ann := (.two .leaf (.two .leaf (.two .leaf (.two (.two .leaf (.two (.loop ⟨[(1, .same (.ptr K11 4097 [])), (5, .dv (Ty.int .i64))], [(4097, .keep K11 1)], []⟩ [(.ret, ⟨[(2, .dv (Ty.int .i64)), (3, .dv Ty.bool)], [], []⟩), (.exit 0, ⟨[(1, .same (.ptr K11 4097 []))], [(4097, .keep K11 1)], []⟩)] .leaf) .leaf)) .leaf))))
noncomputable def F124 (lp : Lp) (call : Nat -> List D -> Option D) (a0 : D) : Option D :=
(call 76 [a0]).bind fun r1 =>
(D.un .not r1).bind fun x2 =>
(D.truth x2).bind fun b3 =>
(if b3 then (some true) else ((D.get a0 [2, 1]).bind fun x4 =>
(D.bin .geq x4 (D.int .u32 1073741824)).bind fun x5 =>
 D.truth x5)).bind fun b6 =>
(D.truth (D.bool b6)).bind fun b7 =>
 if b7 then (some (D.tup [(D.int .i64 0), (D.bool false)])) else ((lp (β := Nat × List D) (fun (v8 : List D) =>
(D.bin .lss (v8.getD 0 (.bool false)) (D.int .i64 16)).bind fun x9 =>
(D.truth x9).bind fun b10 =>
 if b10 then ((D.idx (v8.getD 0 (.bool false)) 16).bind fun i11 =>
(D.get a0 [2, i11]).bind fun x12 =>
(D.truth (D.bool (!(D.beq x12 (D.int .u32 0))))).bind fun b13 =>
 if b13 then (some (Sum.inr (0, [(D.int .i64 0), (D.bool false)]))) else ((D.bin .add (v8.getD 0 (.bool false)) (D.int .i64 1)).bind fun x14 =>
 some (Sum.inl [x14]))) else (some (Sum.inr (1, [])))) [(D.int .i64 2)]).bind fun r15 =>
 if r15.1 = 0 then (some (D.tup [(r15.2.getD 0 (.bool false)), (r15.2.getD 1 (.bool false))])) else ((D.get a0 [2, 1]).bind fun x16 =>
(D.conv .i64 x16).bind fun x17 =>
(D.bin .mul x17 (D.int .i64 4294967296)).bind fun x18 =>
(D.get a0 [2, 0]).bind fun x19 =>
(D.conv .i64 x19).bind fun x20 =>
(D.bin .add x18 x20).bind fun x21 =>
(D.get a0 [1]).bind fun x22 =>
(D.truth x22).bind fun b23 =>
 if b23 then ((D.un .neg x21).bind fun x24 =>
 some (D.tup [x24, (D.bool true)])) else (some (D.tup [x21, (D.bool true)]))))
theorem L124 {lp} (hlp : LpOk lp) : leafOk 124 (m1 (F124 lp)) := leaf1 (fn := Tryz.f124) (ann := A124) hlp (by kernel_rfl) (by kernel_rfl) (fun call a0 => by kernel_rfl)
noncomputable def F125 (lp : Lp) (call : Nat -> List D -> Option D)  : Option D :=
 some (D.st [(D.bool true), (D.bool false), (zeroD K10)])
theorem L125 {lp} (hlp : LpOk lp) : leafOk 125 (m0 (F125 lp)) := leaf0 (fn := Tryz.f125) (ann := .leaf) hlp (by kernel_rfl) (by kernel_rfl) (fun call => by kernel_rfl)
def A126 : Ann := (.two .leaf (.two .leaf (.two .leaf (.two (.two .leaf (.two (.loop ⟨[(5, .ow (Ty.int .i64)), (6, .dv (Ty.int .i64)), (7, .dv (Ty.int .i64))], [], [0, 1]⟩ [(.exit 0, ⟨[(5, .ow (Ty.int .i64))], [], []⟩)] (.two .leaf (.two (.two (.two (.reg [] 10) (.two .leaf (.cut [(.normal, ⟨[(5, .ow (Ty.int .i64)), (6, .dv (Ty.int .i64)), (8, .dv (Ty.int .i64))], [], [0, 1, 7]⟩)] [0, 1, 7] [] .leaf .leaf))) .leaf) .leaf))) .leaf)) .leaf))))
noncomputable def F126 (lp : Lp) (call : Nat -> List D -> Option D) (a0 : D) (a1 : D) : Option D :=
(lp (β := Nat × List D) (fun (v1 : List D) =>
(D.asSl a0).bind fun l2 =>
(D.bin .lss (v1.getD 2 (.bool false)) (D.int .i64 (l2.length))).bind fun x3 =>
(D.truth x3).bind fun b4 =>
 if b4 then ((D.asSl a0).bind fun l5 =>
(D.idx (v1.getD 2 (.bool false)) (l5.length)).bind fun i6 =>
(l5[i6]?).bind fun x7 =>
(call 141 [a1, (v1.getD 2 (.bool false))]).bind fun r8 =>
(D.bin .sub x7 r8).bind fun x9 =>
(D.bin .sub x9 (v1.getD 1 (.bool false))).bind fun x10 =>
((D.bin .lss x10 (D.int .i64 0)).bind fun x11 =>
(D.truth x11).bind fun b12 =>
 if b12 then ((D.bin .add x10 (D.int .i64 65536)).bind fun x13 =>
 some (0, [(D.sl ((v1.getD 0 (.bool false)).els)), (D.int .i64 1), x13])) else (some (0, [(D.sl ((v1.getD 0 (.bool false)).els)), (D.int .i64 0), x10]))).bind fun (r14 : Nat × List D) =>
 if List.length ((r14.2.getD 0 (.bool false)).els) + List.length [(r14.2.getD 2 (.bool false))] <= 1073741824 then ((D.bin .add (v1.getD 2 (.bool false)) (D.int .i64 1)).bind fun x15 =>
 some (Sum.inl [(D.sl (((r14.2.getD 0 (.bool false)).els) ++ [(r14.2.getD 2 (.bool false))])), (r14.2.getD 1 (.bool false)), x15])) else none) else (some (Sum.inr (0, [(D.sl ((v1.getD 0 (.bool false)).els))])))) [(D.sl []), (D.int .i64 0), (D.int .i64 0)]).bind fun r16 =>
(call 140 [(D.sl ((r16.2.getD 0 (.bool false)).els))]).bind fun r17 =>
 some r17
theorem L126 {lp} (hlp : LpOk lp) : leafOk 126 (m2 (F126 lp)) := leaf2 (fn := Tryz.f126) (ann := A126) hlp (by kernel_rfl) (by kernel_rfl) (fun call a0 a1 => by kernel_rfl)
def A127 : Ann := (.two .leaf (.two .leaf (.two (.two (.loop ⟨[(1, .same (.ptr K10 4097 [])), (3, .dv (Ty.int .i64))], [(4097, .keep K10 1)], []⟩ [(.exit 0, ⟨[(3, .dv (Ty.int .i64))], [], []⟩)] .leaf) .leaf) .leaf)))
noncomputable def F127 (lp : Lp) (call : Nat -> List D -> Option D) (a0 : D) : Option D :=
(lp (β := Nat × List D) (fun (v1 : List D) =>
(D.bin .gtr (v1.getD 0 (.bool false)) (D.int .i64 0)).bind fun x2 =>
(D.truth x2).bind fun b3 =>
(if b3 then ((D.bin .sub (v1.getD 0 (.bool false)) (D.int .i64 1)).bind fun x4 =>
(D.idx x4 16).bind fun i5 =>
(D.get a0 [i5]).bind fun x6 =>
 D.truth (D.bool (D.beq x6 (D.int .u32 0)))) else (some false)).bind fun b7 =>
(D.truth (D.bool b7)).bind fun b8 =>
 if b8 then ((D.bin .sub (v1.getD 0 (.bool false)) (D.int .i64 1)).bind fun x9 =>
 some (Sum.inl [x9])) else (some (Sum.inr (0, [(v1.getD 0 (.bool false))])))) [(D.int .i64 16)]).bind fun r10 =>
 some (r10.2.getD 0 (.bool false))
theorem L127 {lp} (hlp : LpOk lp) : leafOk 127 (m1 (F127 lp)) := leaf1 (fn := Tryz.f127) (ann := A127) hlp (by kernel_rfl) (by kernel_rfl) (fun call a0 => by kernel_rfl)
noncomputable def F128 (lp : Lp) (call : Nat -> List D -> Option D) (a0 : D) : Option D :=
(D.get a0 [0]).bind fun x1 =>
(D.un .not x1).bind fun x2 =>
(D.truth x2).bind fun b3 =>
(if b3 then ((call 167 [a0]).bind fun r4 =>
 D.truth r4) else (some false)).bind fun b5 =>
 some (D.bool b5)
theorem L128 {lp} (hlp : LpOk lp) : leafOk 128 (m1 (F128 lp)) := leaf1 (fn := Tryz.f128) (ann := .leaf) hlp (by kernel_rfl) (by kernel_rfl) (fun call a0 => by kernel_rfl)
noncomputable def F129 (lp : Lp) (call : Nat -> List D -> Option D) (a0 : D) : Option D :=
(call 118 [(D.sl [a0])]).bind fun r1 =>
(D.un .not r1).bind fun x2 =>
(D.truth x2).bind fun b3 =>
(if b3 then (some true) else ((D.get a0 [2]).bind fun x4 =>
 D.truth (D.bool (D.beq x4 (D.st (D.putParts (List.replicate 16 (D.int .u32 0)) [])))))).bind fun b5 =>
(D.truth (D.bool b5)).bind fun b6 =>
 if b6 then (some (D.int .i64 0)) else ((D.get a0 [1]).bind fun x7 =>
(D.truth x7).bind fun b8 =>
 if b8 then (some (D.int .i64 (-1))) else (some (D.int .i64 1)))
theorem L129 {lp} (hlp : LpOk lp) : leafOk 129 (m1 (F129 lp)) := leaf1 (fn := Tryz.f129) (ann := .leaf) hlp (by kernel_rfl) (by kernel_rfl) (fun call a0 => by kernel_rfl)
noncomputable def F130 (lp : Lp) (call : Nat -> List D -> Option D)  : Option D :=
(call 119 []).bind fun r1 =>
(call 169 []).bind fun r2 =>
 some (D.st [r1, r2])
theorem L130 {lp} (hlp : LpOk lp) : leafOk 130 (m0 (F130 lp)) := leaf0 (fn := Tryz.f130) (ann := .leaf) hlp (by kernel_rfl) (by kernel_rfl) (fun call => by kernel_rfl)
def A131 : Ann := (.two .leaf (.two .leaf (.two (.two .leaf (.two (.two (.reg [] 21) (.two (.two (.loop ⟨[(4, .same (.ptr K11 4100 [])), (5, .dv (Ty.int .u64)), (6, .dv (Ty.int .u64))], [(4100, .keep K11 4)], []⟩ [(.exit 0, ⟨[(4, .same (.ptr K11 4100 [])), (5, .dv (Ty.int .u64))], [(4100, .keep K11 4)], []⟩)] (.two .leaf (.two (.reg [] 5) .leaf))) .leaf) .leaf)) .leaf)) .leaf)))
noncomputable def F131 (lp : Lp) (call : Nat -> List D -> Option D) (a0 : D) (a1 : D) : Option D :=
(call 118 [(D.sl [a0, a1])]).bind fun r1 =>
(D.un .not r1).bind fun x2 =>
(D.truth x2).bind fun b3 =>
 if b3 then ((call 119 []).bind fun r4 =>
 some r4) else ((D.get a0 [2]).bind fun x5 =>
(call 127 [x5]).bind fun r6 =>
(D.bin .leq r6 (D.int .i64 2)).bind fun x7 =>
(D.truth x7).bind fun b8 =>
(if b8 then ((D.get a1 [2]).bind fun x9 =>
(call 127 [x9]).bind fun r10 =>
(D.bin .leq r10 (D.int .i64 2)).bind fun x11 =>
 D.truth x11) else (some false)).bind fun b12 =>
(D.truth (D.bool b12)).bind fun b13 =>
 if b13 then ((D.get a0 [2, 1]).bind fun x14 =>
(D.conv .u64 x14).bind fun x15 =>
(D.bin .shl x15 (D.int .u64 32)).bind fun x16 =>
(D.get a0 [2, 0]).bind fun x17 =>
(D.conv .u64 x17).bind fun x18 =>
(D.bin .or x16 x18).bind fun x19 =>
(D.get a1 [2, 1]).bind fun x20 =>
(D.conv .u64 x20).bind fun x21 =>
(D.bin .shl x21 (D.int .u64 32)).bind fun x22 =>
(D.get a1 [2, 0]).bind fun x23 =>
(D.conv .u64 x23).bind fun x24 =>
(D.bin .or x22 x24).bind fun x25 =>
(lp (β := Nat × List D) (fun (v26 : List D) =>
(D.truth (D.bool (!(D.beq (v26.getD 1 (.bool false)) (D.int .u64 0))))).bind fun b27 =>
 if b27 then ((D.bin .rem (v26.getD 0 (.bool false)) (v26.getD 1 (.bool false))).bind fun x28 =>
 some (Sum.inl [(v26.getD 1 (.bool false)), x28])) else (some (Sum.inr (0, [(v26.getD 0 (.bool false))])))) [x19, x25]).bind fun r29 =>
(D.conv .u32 (r29.2.getD 0 (.bool false))).bind fun x30 =>
(D.bin .shr (r29.2.getD 0 (.bool false)) (D.int .u64 32)).bind fun x31 =>
(D.conv .u32 x31).bind fun x32 =>
(call 116 [(D.bool false), (D.st (D.putParts (List.replicate 16 (D.int .u32 0)) [(0, x30), (1, x32)]))]).bind fun r33 =>
 some r33) else (none))
theorem L131 {lp} (hlp : LpOk lp) : leafOk 131 (m2 (F131 lp)) := leaf2 (fn := Tryz.f131) (ann := A131) hlp (by kernel_rfl) (by kernel_rfl) (fun call a0 a1 => by kernel_rfl)
noncomputable def F132 (lp : Lp) (call : Nat -> List D -> Option D) (a0 : D) (a1 : D) : Option D :=
(call 172 [a0, a1]).bind fun r1 =>
(D.tupAt r1 0).bind fun x2 =>
(D.tupAt r1 1).bind fun x3 =>
 some x2
theorem L132 {lp} (hlp : LpOk lp) : leafOk 132 (m2 (F132 lp)) := leaf2 (fn := Tryz.f132) (ann := .leaf) hlp (by kernel_rfl) (by kernel_rfl) (fun call a0 a1 => by kernel_rfl)
noncomputable def F133 (lp : Lp) (call : Nat -> List D -> Option D)  : Option D :=
(call 34 [(D.int .i64 1)]).bind fun r1 =>
 some r1
theorem L133 {lp} (hlp : LpOk lp) : leafOk 133 (m0 (F133 lp)) := leaf0 (fn := Tryz.f133) (ann := .leaf) hlp (by kernel_rfl) (by kernel_rfl) (fun call => by kernel_rfl)
def A134 : Ann := (.two .leaf (.two .leaf (.two (.two .leaf (.two (.loop ⟨[(2, .same (.ptr K13 4098 [])), (3, .same (.ptr K13 4099 [])), (4, .same (.ptr K12 4100 [])), (5, .same (.ptr K12 8197 [])), (8, .dv (Ty.int .i64))], [(4098, .keep K13 2), (4099, .keep K13 3), (4100, .keep K12 4), (8197, .one K12 (.dv K12))], []⟩ [(.exit 0, ⟨[(4, .same (.ptr K12 4100 [])), (5, .same (.ptr K12 8197 []))], [(4100, .keep K12 4), (8197, .one K12 (.dv K12))], []⟩)] (.two .leaf (.two .leaf (.two (.two (.two .leaf (.reg [] 9)) .leaf) .leaf)))) .leaf)) .leaf)))
noncomputable def F134 (lp : Lp) (call : Nat -> List D -> Option D) (a0 : D) (a1 : D) : Option D :=
(call 74 [(D.int .i64 0)]).bind fun r1 =>
(lp (β := Nat × List D) (fun (v2 : List D) =>
(D.bin .lss (v2.getD 0 (.bool false)) (D.int .i64 3)).bind fun x3 =>
(D.truth x3).bind fun b4 =>
 if b4 then ((D.idx (v2.getD 0 (.bool false)) 3).bind fun i5 =>
(D.get a0 [i5]).bind fun x6 =>
(D.idx (v2.getD 0 (.bool false)) 3).bind fun i7 =>
(D.get a1 [i7]).bind fun x8 =>
(call 174 [x6, x8]).bind fun r9 =>
(call 173 [(v2.getD 1 (.bool false)), r9]).bind fun r10 =>
(D.bin .add (v2.getD 0 (.bool false)) (D.int .i64 1)).bind fun x11 =>
 some (Sum.inl [x11, r10])) else (some (Sum.inr (0, [(v2.getD 1 (.bool false))])))) [(D.int .i64 0), r1]).bind fun r12 =>
 some (r12.2.getD 0 (.bool false))
theorem L134 {lp} (hlp : LpOk lp) : leafOk 134 (m2 (F134 lp)) := leaf2 (fn := Tryz.f134) (ann := A134) hlp (by kernel_rfl) (by kernel_rfl) (fun call a0 a1 => by kernel_rfl)
def A135 : Ann := (.two .leaf (.two (.reg [] 10) .leaf))
noncomputable def F135 (lp : Lp) (call : Nat -> List D -> Option D) (a0 : D) : Option D :=
(D.get a0 [0]).bind fun x1 =>
(call 74 [x1]).bind fun r2 =>
(D.get a0 [1]).bind fun x3 =>
(call 74 [x3]).bind fun r4 =>
(D.get a0 [2]).bind fun x5 =>
(call 74 [x5]).bind fun r6 =>
 some (D.st [r2, r4, r6])
theorem L135 {lp} (hlp : LpOk lp) : leafOk 135 (m1 (F135 lp)) := leaf1 (fn := Tryz.f135) (ann := A135) hlp (by kernel_rfl) (by kernel_rfl) (fun call a0 => by kernel_rfl)
noncomputable def F136 (lp : Lp) (call : Nat -> List D -> Option D) (a0 : D) : Option D :=
(D.get a0 [0]).bind fun x1 =>
(call 128 [x1]).bind fun r2 =>
(D.truth r2).bind fun b3 =>
(if b3 then ((D.get a0 [1]).bind fun x4 =>
(call 128 [x4]).bind fun r5 =>
 D.truth r5) else (some false)).bind fun b6 =>
(D.truth (D.bool b6)).bind fun b7 =>
(if b7 then ((D.get a0 [1]).bind fun x8 =>
(call 129 [x8]).bind fun r9 =>
(D.bin .gtr r9 (D.int .i64 0)).bind fun x10 =>
 D.truth x10) else (some false)).bind fun b11 =>
(D.truth (D.bool b11)).bind fun b12 =>
(if b12 then ((D.get a0 [0]).bind fun x13 =>
(D.get a0 [1]).bind fun x14 =>
(call 131 [x13, x14]).bind fun r15 =>
(call 169 []).bind fun r16 =>
 D.truth (D.bool (D.beq r15 r16))) else (some false)).bind fun b17 =>
 some (D.bool b17)
theorem L136 {lp} (hlp : LpOk lp) : leafOk 136 (m1 (F136 lp)) := leaf1 (fn := Tryz.f136) (ann := .leaf) hlp (by kernel_rfl) (by kernel_rfl) (fun call a0 => by kernel_rfl)
noncomputable def F137 (lp : Lp) (call : Nat -> List D -> Option D) (a0 : D) (a1 : D) : Option D :=
(call 172 [a0, a1]).bind fun r1 =>
(D.tupAt r1 0).bind fun x2 =>
(D.tupAt r1 1).bind fun x3 =>
 some x3
theorem L137 {lp} (hlp : LpOk lp) : leafOk 137 (m2 (F137 lp)) := leaf2 (fn := Tryz.f137) (ann := .leaf) hlp (by kernel_rfl) (by kernel_rfl) (fun call a0 a1 => by kernel_rfl)
def A138 : Ann := (.two .leaf (.two (.reg [] 3) .leaf))
noncomputable def F138 (lp : Lp) (call : Nat -> List D -> Option D) (a0 : D) : Option D :=
(call 169 []).bind fun r1 =>
(call 62 [a0, r1]).bind fun r2 =>
 some r2
theorem L138 {lp} (hlp : LpOk lp) : leafOk 138 (m1 (F138 lp)) := leaf1 (fn := Tryz.f138) (ann := A138) hlp (by kernel_rfl) (by kernel_rfl) (fun call a0 => by kernel_rfl)
def A139 : Ann := (.two .leaf (.two .leaf (.two (.two .leaf (.two (.loop ⟨[(1, .same (.ptr K11 4097 [])), (3, .dv Ty.bool), (4, .dv (Ty.int .i64))], [(4097, .keep K11 1)], []⟩ [(.exit 0, ⟨[(1, .same (.ptr K11 4097 [])), (3, .dv Ty.bool)], [(4097, .keep K11 1)], []⟩)] .leaf) .leaf)) .leaf)))
noncomputable def F139 (lp : Lp) (call : Nat -> List D -> Option D) (a0 : D) : Option D :=
(lp (β := Nat × List D) (fun (v1 : List D) =>
(D.bin .lss (v1.getD 1 (.bool false)) (D.int .i64 16)).bind fun x2 =>
(D.truth x2).bind fun b3 =>
 if b3 then ((D.truth (v1.getD 0 (.bool false))).bind fun b4 =>
(if b4 then ((D.idx (v1.getD 1 (.bool false)) 16).bind fun i5 =>
(D.get a0 [2, i5]).bind fun x6 =>
 D.truth (D.bool (D.beq x6 (D.int .u32 0)))) else (some false)).bind fun b7 =>
(D.bin .add (v1.getD 1 (.bool false)) (D.int .i64 1)).bind fun x8 =>
 some (Sum.inl [(D.bool b7), x8])) else (some (Sum.inr (0, [(v1.getD 0 (.bool false))])))) [(D.bool true), (D.int .i64 0)]).bind fun r9 =>
(D.get a0 [0]).bind fun x10 =>
(D.truth x10).bind fun b11 =>
 if b11 then ((D.truth (r9.2.getD 0 (.bool false))).bind fun b12 =>
(if b12 then ((D.get a0 [1]).bind fun x13 =>
(D.un .not x13).bind fun x14 =>
 D.truth x14) else (some false)).bind fun b15 =>
 some (D.bool b15)) else ((D.un .not (r9.2.getD 0 (.bool false))).bind fun x16 =>
(D.truth x16).bind fun b17 =>
(if b17 then (some true) else ((D.get a0 [1]).bind fun x18 =>
(D.un .not x18).bind fun x19 =>
 D.truth x19)).bind fun b20 =>
 some (D.bool b20))
theorem L139 {lp} (hlp : LpOk lp) : leafOk 139 (m1 (F139 lp)) := leaf1 (fn := Tryz.f139) (ann := A139) hlp (by kernel_rfl) (by kernel_rfl) (fun call a0 => by kernel_rfl)
def A140 : Ann := (.two .leaf (.two .leaf (.two (.two (.loop ⟨[(3, .dv (Ty.int .i64))], [], [0]⟩ [(.exit 0, ⟨[(3, .dv (Ty.int .i64))], [], [0]⟩)] .leaf) .leaf) .leaf)))
noncomputable def F140 (lp : Lp) (call : Nat -> List D -> Option D) (a0 : D) : Option D :=
(D.asSl a0).bind fun l1 =>
(lp (β := Nat × List D) (fun (v2 : List D) =>
(D.bin .gtr (v2.getD 0 (.bool false)) (D.int .i64 0)).bind fun x3 =>
(D.truth x3).bind fun b4 =>
(if b4 then ((D.bin .sub (v2.getD 0 (.bool false)) (D.int .i64 1)).bind fun x5 =>
(D.asSl a0).bind fun l6 =>
(D.idx x5 (l6.length)).bind fun i7 =>
(l6[i7]?).bind fun x8 =>
 D.truth (D.bool (D.beq x8 (D.int .i64 0)))) else (some false)).bind fun b9 =>
(D.truth (D.bool b9)).bind fun b10 =>
 if b10 then ((D.bin .sub (v2.getD 0 (.bool false)) (D.int .i64 1)).bind fun x11 =>
 some (Sum.inl [x11])) else (some (Sum.inr (0, [(v2.getD 0 (.bool false))])))) [(D.int .i64 (l1.length))]).bind fun r12 =>
(D.asSl a0).bind fun l13 =>
(D.natOf (r12.2.getD 0 (.bool false))).bind fun i14 =>
(D.cut l13 0 i14).bind fun l15 =>
 some (D.sl l15)
theorem L140 {lp} (hlp : LpOk lp) : leafOk 140 (m1 (F140 lp)) := leaf1 (fn := Tryz.f140) (ann := A140) hlp (by kernel_rfl) (by kernel_rfl) (fun call a0 => by kernel_rfl)
noncomputable def F141 (lp : Lp) (call : Nat -> List D -> Option D) (a0 : D) (a1 : D) : Option D :=
(D.asSl a0).bind fun l1 =>
(D.bin .lss a1 (D.int .i64 (l1.length))).bind fun x2 =>
(D.truth x2).bind fun b3 =>
 if b3 then ((D.asSl a0).bind fun l4 =>
(D.idx a1 (l4.length)).bind fun i5 =>
(l4[i5]?).bind fun x6 =>
 some x6) else (some (D.int .i64 0))
theorem L141 {lp} (hlp : LpOk lp) : leafOk 141 (m2 (F141 lp)) := leaf2 (fn := Tryz.f141) (ann := .leaf) hlp (by kernel_rfl) (by kernel_rfl) (fun call a0 a1 => by kernel_rfl)
noncomputable def F142 (lp : Lp) (call : Nat -> List D -> Option D) (a0 : D) : Option D :=
(call 76 [a0]).bind fun r1 =>
(D.un .not r1).bind fun x2 =>
(D.truth x2).bind fun b3 =>
 if b3 then ((call 125 []).bind fun r4 =>
 some r4) else ((call 77 [a0]).bind fun r5 =>
(call 81 [(D.bool false), r5]).bind fun r6 =>
 some r6)
theorem L142 {lp} (hlp : LpOk lp) : leafOk 142 (m1 (F142 lp)) := leaf1 (fn := Tryz.f142) (ann := .leaf) hlp (by kernel_rfl) (by kernel_rfl) (fun call a0 => by kernel_rfl)
end Go.Proofs.YtjjjkojfijpeeaaGreat.Sy
end
section
set_option maxRecDepth 20000
set_option maxHeartbeats 0
set_option linter.unusedVariables false
namespace Go.Proofs.YtjjjkojfijpeeaaGreat.Sy
open Go Go.Proofs
def A143 : Ann := (.two .leaf (.two .leaf (.two .leaf (.two (.reg [] 11) (.two .leaf (.two (.two .leaf (.two (.loop ⟨[(6, .same (.mem (Ty.int .i64) 8207)), (9, .dv K5), (10, .dv (Ty.int .i64))], [(8207, .many (Ty.int .i64))], [0, 1, 7, 8]⟩ [(.exit 0, ⟨[(6, .same (.mem (Ty.int .i64) 8207)), (9, .dv K5)], [(8207, .many (Ty.int .i64))], []⟩)] (.two .leaf (.two (.two (.two .leaf (.two .leaf (.two .leaf (.two (.two (.loop ⟨[(6, .same (.mem (Ty.int .i64) 8207)), (11, .dv (Ty.int .i64)), (12, .dv K5)], [(8207, .many (Ty.int .i64))], [0, 1, 7, 8, 9, 10]⟩ [(.exit 2, ⟨[(6, .same (.mem (Ty.int .i64) 8207)), (11, .dv (Ty.int .i64)), (12, .dv K5)], [(8207, .many (Ty.int .i64))], [0, 1, 7, 8, 9, 10]⟩)] .leaf) .leaf) .leaf)))) .leaf) .leaf))) .leaf)) (.two (.reg [6] 5) .leaf)))))))
noncomputable def F143 (lp : Lp) (call : Nat -> List D -> Option D) (a0 : D) (a1 : D) : Option D :=
(D.asSl a0).bind fun l1 =>
(D.natOf (D.int .i64 (l1.length))).bind fun i2 =>
 if i2 <= 1073741824 then ((D.asSl a1).bind fun l3 =>
(D.bin .sub (D.int .i64 (l3.length)) (D.int .i64 1)).bind fun x4 =>
(D.asSl a1).bind fun l5 =>
(D.idx x4 (l5.length)).bind fun i6 =>
(l5[i6]?).bind fun x7 =>
(D.bin .mul x7 (D.int .i64 65536)).bind fun x8 =>
(D.bin .sub (D.int .i64 (l3.length)) (D.int .i64 2)).bind fun x9 =>
(call 175 [a1, x9]).bind fun r10 =>
(D.bin .add x8 r10).bind fun x11 =>
(D.asSl a0).bind fun l12 =>
(D.bin .sub (D.int .i64 (l12.length)) (D.int .i64 1)).bind fun x13 =>
(lp (β := Nat × List D) (fun (v14 : List D) =>
(D.bin .geq (v14.getD 1 (.bool false)) (D.int .i64 0)).bind fun x15 =>
(D.truth x15).bind fun b16 =>
 if b16 then ((D.asSl a0).bind fun l17 =>
(D.idx (v14.getD 1 (.bool false)) (l17.length)).bind fun i18 =>
(l17[i18]?).bind fun x19 =>
(D.asSl (v14.getD 0 (.bool false))).bind fun l20 =>
 if List.length [x19] + l20.length <= 1073741824 then ((call 140 [(D.sl ([x19] ++ l20))]).bind fun r21 =>
(call 175 [r21, (D.int .i64 (l3.length))]).bind fun r22 =>
(D.bin .mul r22 (D.int .i64 4294967296)).bind fun x23 =>
(D.bin .sub (D.int .i64 (l3.length)) (D.int .i64 1)).bind fun x24 =>
(call 175 [r21, x24]).bind fun r25 =>
(D.bin .mul r25 (D.int .i64 65536)).bind fun x26 =>
(D.bin .add x23 x26).bind fun x27 =>
(D.bin .sub (D.int .i64 (l3.length)) (D.int .i64 2)).bind fun x28 =>
(call 175 [r21, x28]).bind fun r29 =>
(D.bin .add x27 r29).bind fun x30 =>
(D.bin .quo x30 x11).bind fun x31 =>
(D.min2 (D.int .i64 65535) x31).bind fun x32 =>
(call 146 [a1, (D.sl [x32])]).bind fun r33 =>
(lp (β := Nat × List D) (fun (v34 : List D) =>
(call 78 [r21, (v34.getD 1 (.bool false))]).bind fun r35 =>
(D.truth r35).bind fun b36 =>
 if b36 then ((D.bin .sub (v34.getD 0 (.bool false)) (D.int .i64 1)).bind fun x37 =>
(call 126 [(v34.getD 1 (.bool false)), a1]).bind fun r38 =>
 some (Sum.inl [x37, r38, (D.sl ((v34.getD 2 (.bool false)).els))])) else (some (Sum.inr (0, [(v34.getD 0 (.bool false)), (v34.getD 1 (.bool false)), (D.sl ((v34.getD 2 (.bool false)).els))])))) [x32, r33, (D.sl ((v14.getD 2 (.bool false)).els))]).bind fun r39 =>
(D.idx (v14.getD 1 (.bool false)) (List.length ((r39.2.getD 2 (.bool false)).els))).bind fun i40 =>
(((r39.2.getD 2 (.bool false)).els)[i40]?).bind fun x41 =>
(call 126 [r21, (r39.2.getD 1 (.bool false))]).bind fun r42 =>
(D.bin .sub (v14.getD 1 (.bool false)) (D.int .i64 1)).bind fun x43 =>
 some (Sum.inl [r42, x43, (D.sl (List.set ((r39.2.getD 2 (.bool false)).els) i40 (r39.2.getD 0 (.bool false))))])) else none) else (some (Sum.inr (0, [(v14.getD 0 (.bool false)), (D.sl ((v14.getD 2 (.bool false)).els))])))) [(D.sl []), x13, (D.sl (List.replicate i2 (D.int .i64 0)))]).bind fun r44 =>
(call 140 [(D.sl ((r44.2.getD 1 (.bool false)).els))]).bind fun r45 =>
 some (D.tup [r45, (r44.2.getD 0 (.bool false))])) else none
theorem L143 {lp} (hlp : LpOk lp) : leafOk 143 (m2 (F143 lp)) := leaf2 (fn := Tryz.f143) (ann := A143) hlp (by kernel_rfl) (by kernel_rfl) (fun call a0 a1 => by kernel_rfl)
def A144 : Ann := (.two .leaf (.two .leaf (.cut [(.normal, ⟨[(5, .dv (Ty.int .i64))], [], []⟩)] [] [] .leaf .leaf)))
noncomputable def F144 (lp : Lp) (call : Nat -> List D -> Option D) (a0 : D) (a1 : D) : Option D :=
(D.bin .quo a0 a1).bind fun x1 =>
((D.bin .rem a0 a1).bind fun x2 =>
(D.truth (D.bool (!(D.beq x2 (D.int .i64 0))))).bind fun b3 =>
(if b3 then ((D.bin .lss a0 (D.int .i64 0)).bind fun x4 =>
(D.bin .lss a1 (D.int .i64 0)).bind fun x5 =>
 D.truth (D.bool (!(D.beq x4 x5)))) else (some false)).bind fun b6 =>
(D.truth (D.bool b6)).bind fun b7 =>
 if b7 then ((D.bin .sub x1 (D.int .i64 1)).bind fun x8 =>
 some (0, [x8])) else (some (0, [x1]))).bind fun (r9 : Nat × List D) =>
 some (r9.2.getD 0 (.bool false))
theorem L144 {lp} (hlp : LpOk lp) : leafOk 144 (m2 (F144 lp)) := leaf2 (fn := Tryz.f144) (ann := A144) hlp (by kernel_rfl) (by kernel_rfl) (fun call a0 a1 => by kernel_rfl)
noncomputable def F145 (lp : Lp) (call : Nat -> List D -> Option D) (a0 : D) : Option D :=
(D.bin .lss a0 (D.int .i64 2147483648)).bind fun x1 =>
(D.truth x1).bind fun b2 =>
(if b2 then ((D.bin .gtr a0 (D.int .i64 (-2147483648))).bind fun x3 =>
 D.truth x3) else (some false)).bind fun b4 =>
 some (D.bool b4)
theorem L145 {lp} (hlp : LpOk lp) : leafOk 145 (m1 (F145 lp)) := leaf1 (fn := Tryz.f145) (ann := .leaf) hlp (by kernel_rfl) (by kernel_rfl) (fun call a0 => by kernel_rfl)
def A146 : Ann := (.two .leaf (.two .leaf (.two (.two .leaf (.two (.loop ⟨[(5, .same (.mem (Ty.int .i64) 8209)), (6, .dv (Ty.int .i64))], [(8209, .many (Ty.int .i64))], [0, 1]⟩ [(.exit 0, ⟨[(5, .same (.mem (Ty.int .i64) 8209))], [(8209, .many (Ty.int .i64))], []⟩)] (.two .leaf (.two (.two (.two (.two .leaf (.two (.loop ⟨[(5, .same (.mem (Ty.int .i64) 8209)), (7, .dv (Ty.int .i64))], [(8209, .many (Ty.int .i64))], [0, 1, 6]⟩ [(.exit 2, ⟨[(5, .same (.mem (Ty.int .i64) 8209))], [(8209, .many (Ty.int .i64))], [0, 1, 6]⟩)] (.two .leaf (.two (.two (.reg [] 21) .leaf) .leaf))) .leaf)) (.two .leaf (.two .leaf (.two (.loop ⟨[(5, .same (.mem (Ty.int .i64) 8209)), (8, .dv (Ty.int .i64)), (9, .dv (Ty.int .i64))], [(8209, .many (Ty.int .i64))], [0, 1, 6]⟩ [(.exit 4, ⟨[(5, .same (.mem (Ty.int .i64) 8209))], [(8209, .many (Ty.int .i64))], [0, 1, 6]⟩)] .leaf) .leaf)))) .leaf) .leaf))) .leaf)) (.two (.reg [5] 3) .leaf))))
noncomputable def F146 (lp : Lp) (call : Nat -> List D -> Option D) (a0 : D) (a1 : D) : Option D :=
(D.asSl a0).bind fun l1 =>
(D.asSl a1).bind fun l2 =>
(D.bin .add (D.int .i64 (l1.length)) (D.int .i64 (l2.length))).bind fun x3 =>
(D.bin .add x3 (D.int .i64 1)).bind fun x4 =>
(D.natOf x4).bind fun i5 =>
 if i5 <= 1073741824 then ((lp (β := Nat × List D) (fun (v6 : List D) =>
(D.asSl a0).bind fun l7 =>
(D.bin .lss (v6.getD 0 (.bool false)) (D.int .i64 (l7.length))).bind fun x8 =>
(D.truth x8).bind fun b9 =>
 if b9 then ((lp (β := Nat × List D) (fun (v10 : List D) =>
(D.asSl a1).bind fun l11 =>
(D.bin .lss (v10.getD 0 (.bool false)) (D.int .i64 (l11.length))).bind fun x12 =>
(D.truth x12).bind fun b13 =>
 if b13 then ((D.bin .add (v6.getD 0 (.bool false)) (v10.getD 0 (.bool false))).bind fun x14 =>
(D.bin .add (v6.getD 0 (.bool false)) (v10.getD 0 (.bool false))).bind fun x15 =>
(D.idx x15 (List.length ((v10.getD 1 (.bool false)).els))).bind fun i16 =>
(((v10.getD 1 (.bool false)).els)[i16]?).bind fun x17 =>
(D.asSl a0).bind fun l18 =>
(D.idx (v6.getD 0 (.bool false)) (l18.length)).bind fun i19 =>
(l18[i19]?).bind fun x20 =>
(D.asSl a1).bind fun l21 =>
(D.idx (v10.getD 0 (.bool false)) (l21.length)).bind fun i22 =>
(l21[i22]?).bind fun x23 =>
(D.bin .mul x20 x23).bind fun x24 =>
(D.bin .add x17 x24).bind fun x25 =>
(D.idx x14 (List.length ((v10.getD 1 (.bool false)).els))).bind fun i26 =>
(((v10.getD 1 (.bool false)).els)[i26]?).bind fun x27 =>
(D.bin .add (v10.getD 0 (.bool false)) (D.int .i64 1)).bind fun x28 =>
 some (Sum.inl [x28, (D.sl (List.set ((v10.getD 1 (.bool false)).els) i26 x25))])) else (some (Sum.inr (0, [(D.sl ((v10.getD 1 (.bool false)).els))])))) [(D.int .i64 0), (D.sl ((v6.getD 1 (.bool false)).els))]).bind fun r29 =>
(lp (β := Nat × List D) (fun (v30 : List D) =>
(D.bin .lss (v30.getD 1 (.bool false)) (D.int .i64 (List.length ((v30.getD 2 (.bool false)).els)))).bind fun x31 =>
(D.truth x31).bind fun b32 =>
 if b32 then ((D.idx (v30.getD 1 (.bool false)) (List.length ((v30.getD 2 (.bool false)).els))).bind fun i33 =>
(((v30.getD 2 (.bool false)).els)[i33]?).bind fun x34 =>
(D.bin .add x34 (v30.getD 0 (.bool false))).bind fun x35 =>
(D.bin .rem x35 (D.int .i64 65536)).bind fun x36 =>
(D.idx (v30.getD 1 (.bool false)) (List.length ((v30.getD 2 (.bool false)).els))).bind fun i37 =>
(((v30.getD 2 (.bool false)).els)[i37]?).bind fun x38 =>
(D.bin .quo x35 (D.int .i64 65536)).bind fun x39 =>
(D.bin .add (v30.getD 1 (.bool false)) (D.int .i64 1)).bind fun x40 =>
 some (Sum.inl [x39, x40, (D.sl (List.set ((v30.getD 2 (.bool false)).els) i37 x36))])) else (some (Sum.inr (0, [(D.sl ((v30.getD 2 (.bool false)).els))])))) [(D.int .i64 0), (D.int .i64 0), (D.sl ((r29.2.getD 0 (.bool false)).els))]).bind fun r41 =>
(D.bin .add (v6.getD 0 (.bool false)) (D.int .i64 1)).bind fun x42 =>
 some (Sum.inl [x42, (D.sl ((r41.2.getD 0 (.bool false)).els))])) else (some (Sum.inr (0, [(D.sl ((v6.getD 1 (.bool false)).els))])))) [(D.int .i64 0), (D.sl (List.replicate i5 (D.int .i64 0)))]).bind fun r43 =>
(call 140 [(D.sl ((r43.2.getD 0 (.bool false)).els))]).bind fun r44 =>
 some r44) else none
theorem L146 {lp} (hlp : LpOk lp) : leafOk 146 (m2 (F146 lp)) := leaf2 (fn := Tryz.f146) (ann := A146) hlp (by kernel_rfl) (by kernel_rfl) (fun call a0 a1 => by kernel_rfl)
def A147 : Ann := (.two .leaf (.two .leaf (.two (.two .leaf (.two (.loop ⟨[(2, .same (.ptr K23 4098 [])), (3, .same (.ptr K23 4099 [])), (4, .same (.ptr K11 4100 [])), (5, .same (.ptr K11 8197 [])), (8, .dv (Ty.int .i64))], [(4098, .keep K23 2), (4099, .keep K23 3), (4100, .keep K11 4), (8197, .one K11 (.dv K11))], []⟩ [(.exit 0, ⟨[(4, .same (.ptr K11 4100 [])), (5, .same (.ptr K11 8197 []))], [(4100, .keep K11 4), (8197, .one K11 (.dv K11))], []⟩)] (.two .leaf (.two .leaf (.two (.two (.two .leaf (.reg [] 9)) .leaf) .leaf)))) .leaf)) .leaf)))
noncomputable def F147 (lp : Lp) (call : Nat -> List D -> Option D) (a0 : D) (a1 : D) : Option D :=
(call 54 [(D.int .i64 0)]).bind fun r1 =>
(lp (β := Nat × List D) (fun (v2 : List D) =>
(D.bin .lss (v2.getD 0 (.bool false)) (D.int .i64 3)).bind fun x3 =>
(D.truth x3).bind fun b4 =>
 if b4 then ((D.idx (v2.getD 0 (.bool false)) 3).bind fun i5 =>
(D.get a0 [i5]).bind fun x6 =>
(D.idx (v2.getD 0 (.bool false)) 3).bind fun i7 =>
(D.get a1 [i7]).bind fun x8 =>
(call 61 [x6, x8]).bind fun r9 =>
(call 57 [(v2.getD 1 (.bool false)), r9]).bind fun r10 =>
(D.bin .add (v2.getD 0 (.bool false)) (D.int .i64 1)).bind fun x11 =>
 some (Sum.inl [x11, r10])) else (some (Sum.inr (0, [(v2.getD 1 (.bool false))])))) [(D.int .i64 0), r1]).bind fun r12 =>
 some (r12.2.getD 0 (.bool false))
theorem L147 {lp} (hlp : LpOk lp) : leafOk 147 (m2 (F147 lp)) := leaf2 (fn := Tryz.f147) (ann := A147) hlp (by kernel_rfl) (by kernel_rfl) (fun call a0 a1 => by kernel_rfl)
def A148 : Ann := (.two .leaf (.two (.two .leaf (.two (.loop ⟨[(2, .same (.ptr K23 4098 [])), (6, .dv (Ty.int .i64))], [(4098, .one K23 (.dv K23))], [5]⟩ [(.exit 0, ⟨[(2, .same (.ptr K23 4098 []))], [(4098, .one K23 (.dv K23))], []⟩)] .leaf) .leaf)) .leaf))
noncomputable def F148 (lp : Lp) (call : Nat -> List D -> Option D) (a0 : D) : Option D :=
(lp (β := Nat × List D) (fun (v1 : List D) =>
(D.bin .lss (v1.getD 0 (.bool false)) (D.int .i64 3)).bind fun x2 =>
(D.truth x2).bind fun b3 =>
 if b3 then ((D.idx (v1.getD 0 (.bool false)) 3).bind fun i4 =>
(D.fld a0 i4).bind fun x5 =>
(call 54 [x5]).bind fun r6 =>
(D.idx (v1.getD 0 (.bool false)) 3).bind fun i7 =>
(D.set (v1.getD 1 (.bool false)) [i7] r6).bind fun x8 =>
(D.bin .add (v1.getD 0 (.bool false)) (D.int .i64 1)).bind fun x9 =>
 some (Sum.inl [x9, x8])) else (some (Sum.inr (0, [(v1.getD 1 (.bool false))])))) [(D.int .i64 0), (D.st [(D.st [(D.bool false), (D.bool false), (zeroD K10)]), (D.st [(D.bool false), (D.bool false), (zeroD K10)]), (D.st [(D.bool false), (D.bool false), (zeroD K10)])])]).bind fun r10 =>
 some (r10.2.getD 0 (.bool false))
theorem L148 {lp} (hlp : LpOk lp) : leafOk 148 (m1 (F148 lp)) := leaf1 (fn := Tryz.f148) (ann := A148) hlp (by kernel_rfl) (by kernel_rfl) (fun call a0 => by kernel_rfl)
def A152 : Ann := (.two .leaf (.two (.two (.loop ⟨[(0, .dv (Ty.int .i64)), (1, .dv (Ty.int .i64))], [], []⟩ [(.exit 0, ⟨[(0, .dv (Ty.int .i64))], [], []⟩)] (.two .leaf (.two (.reg [] 5) .leaf))) .leaf) .leaf))
noncomputable def F152 (lp : Lp) (call : Nat -> List D -> Option D) (a0 : D) (a1 : D) : Option D :=
(lp (β := Nat × List D) (fun (v1 : List D) =>
(D.truth (D.bool (!(D.beq (v1.getD 1 (.bool false)) (D.int .i64 0))))).bind fun b2 =>
 if b2 then ((D.bin .rem (v1.getD 0 (.bool false)) (v1.getD 1 (.bool false))).bind fun x3 =>
 some (Sum.inl [(v1.getD 1 (.bool false)), x3])) else (some (Sum.inr (0, [(v1.getD 0 (.bool false))])))) [a0, a1]).bind fun r4 =>
(D.un .neg (r4.2.getD 0 (.bool false))).bind fun x5 =>
(D.max2 (r4.2.getD 0 (.bool false)) x5).bind fun x6 =>
 some x6
theorem L152 {lp} (hlp : LpOk lp) : leafOk 152 (m2 (F152 lp)) := leaf2 (fn := Tryz.f152) (ann := A152) hlp (by kernel_rfl) (by kernel_rfl) (fun call a0 a1 => by kernel_rfl)
def A154 : Ann := (.two .leaf (.two (.two .leaf (.two (.loop ⟨[(2, .same (.ptr K1 4098 [])), (3, .same (.ptr K1 4099 [])), (4, .same (.ptr K1 4100 [])), (6, .dv (Ty.int .i64))], [(4098, .one K1 (.dv K1)), (4099, .keep K1 3), (4100, .keep K1 4)], []⟩ [(.exit 0, ⟨[(2, .same (.ptr K1 4098 [])), (4, .same (.ptr K1 4100 []))], [(4098, .one K1 (.dv K1)), (4100, .keep K1 4)], []⟩)] (.two .leaf (.two .leaf (.two (.two (.two .leaf (.reg [] 8)) .leaf) .leaf)))) .leaf)) .leaf))
noncomputable def F154 (lp : Lp) (call : Nat -> List D -> Option D) (a0 : D) (a1 : D) : Option D :=
(lp (β := Nat × List D) (fun (v1 : List D) =>
(D.bin .lss (v1.getD 0 (.bool false)) (D.int .i64 3)).bind fun x2 =>
(D.truth x2).bind fun b3 =>
 if b3 then ((D.idx (v1.getD 0 (.bool false)) 3).bind fun i4 =>
(D.get (v1.getD 1 (.bool false)) [i4]).bind fun x5 =>
(D.idx (v1.getD 0 (.bool false)) 3).bind fun i6 =>
(D.get a1 [i6]).bind fun x7 =>
(D.bin .add x5 x7).bind fun x8 =>
(D.idx (v1.getD 0 (.bool false)) 3).bind fun i9 =>
(D.set (v1.getD 1 (.bool false)) [i9] x8).bind fun x10 =>
(D.bin .add (v1.getD 0 (.bool false)) (D.int .i64 1)).bind fun x11 =>
 some (Sum.inl [x11, x10])) else (some (Sum.inr (0, [(v1.getD 1 (.bool false))])))) [(D.int .i64 0), a0]).bind fun r12 =>
 some (r12.2.getD 0 (.bool false))
theorem L154 {lp} (hlp : LpOk lp) : leafOk 154 (m2 (F154 lp)) := leaf2 (fn := Tryz.f154) (ann := A154) hlp (by kernel_rfl) (by kernel_rfl) (fun call a0 a1 => by kernel_rfl)
def A155 : Ann := (.two .leaf (.two .leaf (.two (.two .leaf (.two (.loop ⟨[(1, .same (.ptr K23 4097 [])), (2, .same (.ptr K17 4098 [])), (3, .same (.ptr K11 8195 [])), (4, .dv (Ty.int .i64))], [(4097, .keep K23 1), (4098, .keep K17 2), (8195, .one K11 (.dv K11))], []⟩ [(.exit 0, ⟨[(1, .same (.ptr K23 4097 [])), (2, .same (.ptr K17 4098 [])), (3, .same (.ptr K11 8195 []))], [(4097, .keep K23 1), (4098, .keep K17 2), (8195, .one K11 (.dv K11))], []⟩)] (.two .leaf (.two (.two (.reg [] 5) .leaf) .leaf))) .leaf)) (.two .leaf (.two .leaf (.two .leaf (.two (.two .leaf (.two (.loop ⟨[(1, .same (.ptr K23 4097 [])), (2, .same (.ptr K17 4098 [])), (3, .same (.ptr K11 8195 [])), (5, .same (.ptr K17 28677 [])), (6, .dv (Ty.int .i64))], [(4097, .keep K23 1), (4098, .one K17 (.dv K17)), (8195, .keep K11 3), (28677, .one K17 (.dv K17))], []⟩ [(.ret, ⟨[(2, .same (.ptr K17 4098 []))], [(4098, .one K17 (.dv K17))], []⟩), (.exit 2, ⟨[(2, .same (.ptr K17 4098 [])), (5, .same (.ptr K17 28677 []))], [(4098, .one K17 (.dv K17)), (28677, .one K17 (.dv K17))], []⟩)] (.two .leaf (.two (.two (.two (.reg [] 10) .leaf) .leaf) .leaf))) .leaf)) .leaf)))))))
noncomputable def F155 (lp : Lp) (call : Nat -> List D -> Option D) (a0 : D) : Option D :=
(call 34 [(D.int .i64 0)]).bind fun r1 =>
(lp (β := Nat × List D) (fun (v2 : List D) =>
(D.bin .lss (v2.getD 0 (.bool false)) (D.int .i64 3)).bind fun x3 =>
(D.truth x3).bind fun b4 =>
 if b4 then ((D.idx (v2.getD 0 (.bool false)) 3).bind fun i5 =>
(D.get a0 [i5]).bind fun x6 =>
(call 85 [(v2.getD 1 (.bool false)), x6]).bind fun r7 =>
(D.bin .add (v2.getD 0 (.bool false)) (D.int .i64 1)).bind fun x8 =>
 some (Sum.inl [x8, r7])) else (some (Sum.inr (0, [(v2.getD 1 (.bool false))])))) [(D.int .i64 0), r1]).bind fun r9 =>
(D.get (r9.2.getD 0 (.bool false)) [0]).bind fun x10 =>
(D.truth x10).bind fun b11 =>
 if b11 then (some (D.st [(D.st [(D.int .i64 0), (D.int .i64 0), (D.int .i64 0)]), (D.int .i64 30)])) else ((call 83 [(r9.2.getD 0 (.bool false))]).bind fun r12 =>
(D.truth (D.bool (D.beq r12 (D.int .i64 0)))).bind fun b13 =>
 if b13 then (some (D.st [(D.st [(D.int .i64 0), (D.int .i64 0), (D.int .i64 0)]), (D.int .i64 31)])) else ((lp (β := Nat × List D) (fun (v14 : List D) =>
(D.bin .lss (v14.getD 0 (.bool false)) (D.int .i64 3)).bind fun x15 =>
(D.truth x15).bind fun b16 =>
 if b16 then ((D.idx (v14.getD 0 (.bool false)) 3).bind fun i17 =>
(D.get a0 [i17]).bind fun x18 =>
(call 87 [x18, (r9.2.getD 0 (.bool false))]).bind fun r19 =>
(call 186 [r19]).bind fun r20 =>
(D.tupAt r20 0).bind fun x21 =>
(D.tupAt r20 1).bind fun x22 =>
(D.un .not x22).bind fun x23 =>
(D.truth x23).bind fun b24 =>
 if b24 then (some (Sum.inr (0, [(D.st [(D.st [(D.int .i64 0), (D.int .i64 0), (D.int .i64 0)]), (D.int .i64 30)])]))) else ((D.idx (v14.getD 0 (.bool false)) 3).bind fun i25 =>
(D.set (v14.getD 2 (.bool false)) [0, i25] x21).bind fun x26 =>
(D.bin .add (v14.getD 0 (.bool false)) (D.int .i64 1)).bind fun x27 =>
 some (Sum.inl [x27, (v14.getD 1 (.bool false)), x26]))) else (some (Sum.inr (1, [(v14.getD 1 (.bool false)), (v14.getD 2 (.bool false))])))) [(D.int .i64 0), (D.st [(D.st [(D.int .i64 0), (D.int .i64 0), (D.int .i64 0)]), (D.int .i64 0)]), (D.st [(D.st [(D.int .i64 0), (D.int .i64 0), (D.int .i64 0)]), (D.int .i64 0)])]).bind fun r28 =>
 if r28.1 = 0 then (some (r28.2.getD 0 (.bool false))) else ((D.get (r28.2.getD 1 (.bool false)) [0]).bind fun x29 =>
(call 187 [x29]).bind fun r30 =>
(D.un .not r30).bind fun x31 =>
(D.truth x31).bind fun b32 =>
 if b32 then (some (D.st [(D.st [(D.int .i64 0), (D.int .i64 0), (D.int .i64 0)]), (D.int .i64 30)])) else (some (r28.2.getD 1 (.bool false))))))
theorem L155 {lp} (hlp : LpOk lp) : leafOk 155 (m1 (F155 lp)) := leaf1 (fn := Tryz.f155) (ann := A155) hlp (by kernel_rfl) (by kernel_rfl) (fun call a0 => by kernel_rfl)
def A156 : Ann := (.two .leaf (.two .leaf (.two (.two .leaf (.two (.loop ⟨[(6, .same (.ptr K1 4102 [])), (8, .same (.ptr K1 4104 [])), (11, .same (.ptr K1 8203 [])), (12, .dv (Ty.int .i64))], [(4102, .keep K1 6), (4104, .keep K1 8), (8203, .keep K1 11)], [0, 2]⟩ [(.ret, ⟨[(10, .dv Ty.bool)], [], []⟩), (.exit 0, ⟨[], [], []⟩)] (.two .leaf (.cut [(.normal, ⟨[(6, .same (.ptr K1 4102 [])), (8, .same (.ptr K1 4104 [])), (11, .same (.ptr K1 8203 []))], [(4102, .keep K1 6), (4104, .keep K1 8), (8203, .keep K1 11)], [0, 2, 12]⟩), (.ret, ⟨[(10, .dv Ty.bool)], [], []⟩)] [0, 2, 12] [4102, 4104, 8203] (.two (.two (.two (.reg [] 7) .leaf) (.two (.reg [] 7) (.two (.reg [] 5) .leaf))) .leaf) .leaf))) .leaf)) .leaf)))
noncomputable def F156 (lp : Lp) (call : Nat -> List D -> Option D) (a0 : D) (a1 : D) (a2 : D) (a3 : D) (a4 : D) : Option D :=
(call 112 [a4, a3]).bind fun r1 =>
(lp (β := Nat × List D) (fun (v2 : List D) =>
(D.asSl a0).bind fun l3 =>
(D.bin .lss (v2.getD 0 (.bool false)) (D.int .i64 (l3.length))).bind fun x4 =>
(D.truth x4).bind fun b5 =>
 if b5 then (((D.asSl a0).bind fun l6 =>
(D.idx (v2.getD 0 (.bool false)) (l6.length)).bind fun i7 =>
(l6[i7]?).bind fun x8 =>
(call 107 [a1, x8]).bind fun r9 =>
(D.truth (D.bool (!(D.beq r9 a2)))).bind fun b10 =>
 if b10 then (some (0, [])) else ((D.asSl a0).bind fun l11 =>
(D.idx (v2.getD 0 (.bool false)) (l11.length)).bind fun i12 =>
(l11[i12]?).bind fun x13 =>
(call 112 [x13, a3]).bind fun r14 =>
(call 123 [r1, r14]).bind fun r15 =>
(call 188 [a1, r15]).bind fun r16 =>
(D.bin .lss r16 (D.int .i64 0)).bind fun x17 =>
(D.truth x17).bind fun b18 =>
(if b18 then (some true) else ((D.truth (D.bool (D.beq r16 (D.int .i64 0)))).bind fun b19 =>
 if b19 then ((call 107 [r14, r1]).bind fun r20 =>
(D.bin .lss r20 (D.int .i64 0)).bind fun x21 =>
(D.truth x21).bind fun b22 =>
 if b22 then (some true) else ((call 107 [r14, r1]).bind fun r23 =>
(call 107 [r1, r1]).bind fun r24 =>
(D.bin .gtr r23 r24).bind fun x25 =>
 D.truth x25)) else (some false))).bind fun b26 =>
(D.truth (D.bool b26)).bind fun b27 =>
 if b27 then (some (1, [(D.bool false)])) else (some (0, [])))).bind fun (r28 : Nat × List D) =>
 if r28.1 = 0 then ((D.bin .add (v2.getD 0 (.bool false)) (D.int .i64 1)).bind fun x29 =>
 some (Sum.inl [x29])) else (some (Sum.inr (0, [(r28.2.getD 0 (.bool false))])))) else (some (Sum.inr (1, [])))) [(D.int .i64 0)]).bind fun r30 =>
 if r30.1 = 0 then (some (r30.2.getD 0 (.bool false))) else (some (D.bool true))
theorem L156 {lp} (hlp : LpOk lp) : leafOk 156 (m5 (F156 lp)) := leaf5 (fn := Tryz.f156) (ann := A156) hlp (by kernel_rfl) (by kernel_rfl) (fun call a0 a1 a2 a3 a4 => by kernel_rfl)
def A165 : Ann := (.two .leaf (.cut [(.normal, ⟨[(0, .dv (Ty.int .u32)), (2, .dv (Ty.int .i64))], [], []⟩)] [] [] .leaf (.cut [(.normal, ⟨[(0, .dv (Ty.int .u32)), (2, .dv (Ty.int .i64))], [], []⟩)] [] [] .leaf .leaf)))
noncomputable def F165 (lp : Lp) (call : Nat -> List D -> Option D) (a0 : D) : Option D :=
((D.bin .geq a0 (D.int .u32 65536)).bind fun x1 =>
(D.truth x1).bind fun b2 =>
 if b2 then ((D.bin .shr a0 (D.int .u64 16)).bind fun x3 =>
 some (0, [x3, (D.int .i64 16)])) else (some (0, [a0, (D.int .i64 0)]))).bind fun (r4 : Nat × List D) =>
((D.bin .geq (r4.2.getD 0 (.bool false)) (D.int .u32 256)).bind fun x5 =>
(D.truth x5).bind fun b6 =>
 if b6 then ((D.bin .shr (r4.2.getD 0 (.bool false)) (D.int .u64 8)).bind fun x7 =>
(D.bin .add (r4.2.getD 1 (.bool false)) (D.int .i64 8)).bind fun x8 =>
 some (0, [x7, x8])) else (some (0, [(r4.2.getD 0 (.bool false)), (r4.2.getD 1 (.bool false))]))).bind fun (r9 : Nat × List D) =>
(D.conv .u8 (r9.2.getD 0 (.bool false))).bind fun x10 =>
(D.strAt (D.str ((strIn (codeOf Tryz.f165)).getD ByteArray.empty)) x10).bind fun x11 =>
(D.conv .i64 x11).bind fun x12 =>
(D.bin .add (r9.2.getD 1 (.bool false)) x12).bind fun x13 =>
 some x13
theorem L165 {lp} (hlp : LpOk lp) : leafOk 165 (m1 (F165 lp)) := leaf1 (fn := Tryz.f165) (ann := A165) hlp (by kernel_rfl) (by kernel_rfl) (fun call a0 => by kernel_rfl)
noncomputable def F167 (lp : Lp) (call : Nat -> List D -> Option D) (a0 : D) : Option D :=
(D.get a0 [2]).bind fun x1 =>
(D.get a0 [0]).bind fun x2 =>
(D.truth x2).bind fun b3 =>
 if b3 then ((D.truth (D.bool (D.beq x1 (D.st (D.putParts (List.replicate 16 (D.int .u32 0)) []))))).bind fun b4 =>
(if b4 then ((D.get a0 [1]).bind fun x5 =>
(D.un .not x5).bind fun x6 =>
 D.truth x6) else (some false)).bind fun b7 =>
 some (D.bool b7)) else ((D.un .not (D.bool (D.beq x1 (D.st (D.putParts (List.replicate 16 (D.int .u32 0)) []))))).bind fun x8 =>
(D.truth x8).bind fun b9 =>
(if b9 then (some true) else ((D.get a0 [1]).bind fun x10 =>
(D.un .not x10).bind fun x11 =>
 D.truth x11)).bind fun b12 =>
 some (D.bool b12))
theorem L167 {lp} (hlp : LpOk lp) : leafOk 167 (m1 (F167 lp)) := leaf1 (fn := Tryz.f167) (ann := .leaf) hlp (by kernel_rfl) (by kernel_rfl) (fun call a0 => by kernel_rfl)
noncomputable def F168 (lp : Lp) (call : Nat -> List D -> Option D) (a0 : D) (a1 : D) : Option D :=
(call 194 [a0]).bind fun r1 =>
(call 194 [a1]).bind fun r2 =>
(D.truth r1).bind fun b3 =>
 if b3 then ((D.truth r2).bind fun b4 =>
 if b4 then (some (D.int .i64 0)) else (some (D.int .i64 (-1)))) else ((D.truth r2).bind fun b5 =>
 if b5 then (some (D.int .i64 1)) else ((D.bin .lss a0 a1).bind fun x6 =>
(D.truth x6).bind fun b7 =>
 if b7 then (some (D.int .i64 (-1))) else ((D.bin .gtr a0 a1).bind fun x8 =>
(D.truth x8).bind fun b9 =>
 if b9 then (some (D.int .i64 1)) else (some (D.int .i64 0)))))
theorem L168 {lp} (hlp : LpOk lp) : leafOk 168 (m2 (F168 lp)) := leaf2 (fn := Tryz.f168) (ann := .leaf) hlp (by kernel_rfl) (by kernel_rfl) (fun call a0 a1 => by kernel_rfl)
noncomputable def F169 (lp : Lp) (call : Nat -> List D -> Option D)  : Option D :=
(call 54 [(D.int .i64 1)]).bind fun r1 =>
 some r1
theorem L169 {lp} (hlp : LpOk lp) : leafOk 169 (m0 (F169 lp)) := leaf0 (fn := Tryz.f169) (ann := .leaf) hlp (by kernel_rfl) (by kernel_rfl) (fun call => by kernel_rfl)
def A170 : Ann := (.two .leaf (.two (.reg [] 5) (.two (.two .leaf (.two (.two (.reg [] 2) .leaf) .leaf)) (.two .leaf (.two .leaf (.two .leaf (.two .leaf (.two .leaf (.two (.reg [] 2) .leaf)))))))))
noncomputable def F170 (lp : Lp) (call : Nat -> List D -> Option D) (a0 : D) (a1 : D) : Option D :=
(call 127 [a1]).bind fun r1 =>
(call 127 [a0]).bind fun r2 =>
(call 121 [a0, a1]).bind fun r3 =>
(D.bin .lss r3 (D.int .i64 0)).bind fun x4 =>
(D.truth x4).bind fun b5 =>
 if b5 then (some (D.tup [(D.st (D.putParts (List.replicate 16 (D.int .u32 0)) [])), a0])) else ((D.truth (D.bool (D.beq r1 (D.int .i64 1)))).bind fun b6 =>
 if b6 then ((D.get a1 [0]).bind fun x7 =>
(call 195 [a0, x7]).bind fun r8 =>
(D.tupAt r8 0).bind fun x9 =>
(D.tupAt r8 1).bind fun x10 =>
 some (D.tup [x9, (D.st (D.putParts (List.replicate 16 (D.int .u32 0)) [(0, x10)]))])) else ((D.bin .sub r1 (D.int .i64 1)).bind fun x11 =>
(D.idx x11 16).bind fun i12 =>
(D.get a1 [i12]).bind fun x13 =>
(call 196 [x13]).bind fun r14 =>
(call 197 [a1, r14]).bind fun r15 =>
(D.tupAt r15 0).bind fun x16 =>
(D.tupAt r15 1).bind fun x17 =>
(call 197 [a0, r14]).bind fun r18 =>
(D.tupAt r18 0).bind fun x19 =>
(D.tupAt r18 1).bind fun x20 =>
 none))
theorem L170 {lp} (hlp : LpOk lp) : leafOk 170 (m2 (F170 lp)) := leaf2 (fn := Tryz.f170) (ann := A170) hlp (by kernel_rfl) (by kernel_rfl) (fun call a0 a1 => by kernel_rfl)
def A172 : Ann := (.two .leaf (.two .leaf (.cut [(.ret, ⟨[(4, .same (.ptr K11 4100 [])), (5, .same (.ptr K11 4101 []))], [(4100, .one K11 (.dv K11)), (4101, .one K11 (.dv K11))], []⟩), (.normal, ⟨[(2, .same (.ptr K11 4098 [])), (3, .same (.ptr K11 4099 [])), (4, .same (.ptr K11 4100 [])), (5, .same (.ptr K11 4101 []))], [(4098, .keep K11 2), (4099, .keep K11 3), (4100, .one K11 (.dv K11)), (4101, .one K11 (.dv K11))], []⟩)] [] [4098, 4099] (.two .leaf (.two .leaf (.two (.two .leaf (.two .leaf (.two (.two (.reg [] 7) (.cut [(.normal, ⟨[(4, .same (.ptr K11 4100 [])), (5, .same (.ptr K11 4101 [])), (10, .dv (Ty.int .i64)), (11, .dv (Ty.int .i64))], [(4100, .keep K11 4), (4101, .keep K11 5)], []⟩)] [] [4100, 4101] .leaf .leaf)) .leaf))) .leaf))) (.two .leaf (.two .leaf (.cut [(.normal, ⟨[(3, .same (.ptr K11 4099 [])), (4, .same (.ptr K11 4100 [])), (5, .same (.ptr K11 4101 [])), (13, .same (.ptr K10 16397 [])), (14, .same (.ptr K11 20494 []))], [(4099, .keep K11 3), (4100, .keep K11 4), (4101, .keep K11 5), (16397, .one K10 (.dv K10)), (20494, .one K11 (.dv K11))], []⟩)] [] [4099, 4100, 4101] (.two .leaf (.two (.reg [] 7) .leaf)) (.two (.reg [] 5) .leaf)))))))
noncomputable def F172 (lp : Lp) (call : Nat -> List D -> Option D) (a0 : D) (a1 : D) : Option D :=
(call 118 [(D.sl [a0, a1])]).bind fun r1 =>
(D.un .not r1).bind fun x2 =>
(D.truth x2).bind fun b3 =>
(if b3 then (some true) else ((call 129 [a1]).bind fun r4 =>
 D.truth (D.bool (D.beq r4 (D.int .i64 0))))).bind fun b5 =>
(D.truth (D.bool b5)).bind fun b6 =>
 if b6 then ((call 119 []).bind fun r7 =>
(call 119 []).bind fun r8 =>
 some (D.tup [r7, r8])) else (((call 202 [a0]).bind fun r9 =>
(D.tupAt r9 0).bind fun x10 =>
(D.tupAt r9 1).bind fun x11 =>
(D.truth x11).bind fun b12 =>
(if b12 then (D.truth (D.bool (!(D.beq x10 (D.int .i64 (-9223372036854775808)))))) else (some false)).bind fun b13 =>
(D.truth (D.bool b13)).bind fun b14 =>
 if b14 then ((call 202 [a1]).bind fun r15 =>
(D.tupAt r15 0).bind fun x16 =>
(D.tupAt r15 1).bind fun x17 =>
(D.truth x17).bind fun b18 =>
(if b18 then (D.truth (D.bool (!(D.beq x16 (D.int .i64 (-9223372036854775808)))))) else (some false)).bind fun b19 =>
(D.truth (D.bool b19)).bind fun b20 =>
 if b20 then ((D.bin .quo x10 x16).bind fun x21 =>
(D.bin .rem x10 x16).bind fun x22 =>
((D.truth (D.bool (!(D.beq x22 (D.int .i64 0))))).bind fun b23 =>
(if b23 then ((D.bin .lss x22 (D.int .i64 0)).bind fun x24 =>
(D.bin .lss x16 (D.int .i64 0)).bind fun x25 =>
 D.truth (D.bool (!(D.beq x24 x25)))) else (some false)).bind fun b26 =>
(D.truth (D.bool b26)).bind fun b27 =>
 if b27 then ((D.bin .sub x21 (D.int .i64 1)).bind fun x28 =>
(D.bin .add x22 x16).bind fun x29 =>
 some (0, [x28, x29])) else (some (0, [x21, x22]))).bind fun (r30 : Nat × List D) =>
(call 54 [(r30.2.getD 0 (.bool false))]).bind fun r31 =>
(call 54 [(r30.2.getD 1 (.bool false))]).bind fun r32 =>
 some (0, [r31, r32])) else (some (1, [(D.st [(D.bool false), (D.bool false), (zeroD K10)]), (D.st [(D.bool false), (D.bool false), (zeroD K10)])]))) else (some (1, [(D.st [(D.bool false), (D.bool false), (zeroD K10)]), (D.st [(D.bool false), (D.bool false), (zeroD K10)])]))).bind fun (r33 : Nat × List D) =>
 if r33.1 = 0 then (some (D.tup [(r33.2.getD 0 (.bool false)), (r33.2.getD 1 (.bool false))])) else ((D.get a0 [2]).bind fun x34 =>
(D.get a1 [2]).bind fun x35 =>
(call 170 [x34, x35]).bind fun r36 =>
(D.tupAt r36 0).bind fun x37 =>
(D.tupAt r36 1).bind fun x38 =>
(D.get a0 [1]).bind fun x39 =>
(D.get a1 [1]).bind fun x40 =>
(call 116 [(D.bool (!(D.beq x39 x40))), x37]).bind fun r41 =>
((D.truth (D.bool (!(D.beq x38 (D.st (D.putParts (List.replicate 16 (D.int .u32 0)) [])))))).bind fun b42 =>
(if b42 then ((D.get a0 [1]).bind fun x43 =>
(D.get a1 [1]).bind fun x44 =>
 D.truth (D.bool (!(D.beq x43 x44)))) else (some false)).bind fun b45 =>
(D.truth (D.bool b45)).bind fun b46 =>
 if b46 then ((call 54 [(D.int .i64 1)]).bind fun r47 =>
(call 203 [r41, r47]).bind fun r48 =>
(D.get a1 [2]).bind fun x49 =>
(call 122 [x49, x38]).bind fun r50 =>
 some (0, [r50, r48])) else (some (0, [x38, r41]))).bind fun (r51 : Nat × List D) =>
(D.get a1 [1]).bind fun x52 =>
(call 116 [x52, (r51.2.getD 0 (.bool false))]).bind fun r53 =>
 some (D.tup [(r51.2.getD 1 (.bool false)), r53])))
theorem L172 {lp} (hlp : LpOk lp) : leafOk 172 (m2 (F172 lp)) := leaf2 (fn := Tryz.f172) (ann := A172) hlp (by kernel_rfl) (by kernel_rfl) (fun call a0 a1 => by kernel_rfl)
def A173 : Ann := (.two .leaf (.two .leaf (.two .leaf (.two (.reg [] 10) (.two (.reg [] 14) .leaf)))))
noncomputable def F173 (lp : Lp) (call : Nat -> List D -> Option D) (a0 : D) (a1 : D) : Option D :=
(call 136 [a0]).bind fun r1 =>
(D.un .not r1).bind fun x2 =>
(D.truth x2).bind fun b3 =>
(if b3 then (some true) else ((call 136 [a1]).bind fun r4 =>
(D.un .not r4).bind fun x5 =>
 D.truth x5)).bind fun b6 =>
(D.truth (D.bool b6)).bind fun b7 =>
 if b7 then ((call 130 []).bind fun r8 =>
 some r8) else ((D.get a0 [1]).bind fun x9 =>
(D.get a1 [1]).bind fun x10 =>
(call 131 [x9, x10]).bind fun r11 =>
(D.get a0 [1]).bind fun x12 =>
(call 132 [x12, r11]).bind fun r13 =>
(D.get a1 [1]).bind fun x14 =>
(call 132 [x14, r11]).bind fun r15 =>
(D.get a0 [0]).bind fun x16 =>
(call 61 [x16, r15]).bind fun r17 =>
(D.get a1 [0]).bind fun x18 =>
(call 61 [x18, r13]).bind fun r19 =>
(call 57 [r17, r19]).bind fun r20 =>
(D.get a1 [1]).bind fun x21 =>
(call 61 [r13, x21]).bind fun r22 =>
(call 62 [r20, r22]).bind fun r23 =>
 some r23)
theorem L173 {lp} (hlp : LpOk lp) : leafOk 173 (m2 (F173 lp)) := leaf2 (fn := Tryz.f173) (ann := A173) hlp (by kernel_rfl) (by kernel_rfl) (fun call a0 a1 => by kernel_rfl)
def A174 : Ann := (.two .leaf (.two .leaf (.two (.reg [] 12) (.two (.reg [] 12) .leaf))))
noncomputable def F174 (lp : Lp) (call : Nat -> List D -> Option D) (a0 : D) (a1 : D) : Option D :=
(call 136 [a0]).bind fun r1 =>
(D.un .not r1).bind fun x2 =>
(D.truth x2).bind fun b3 =>
(if b3 then (some true) else ((call 136 [a1]).bind fun r4 =>
(D.un .not r4).bind fun x5 =>
 D.truth x5)).bind fun b6 =>
(D.truth (D.bool b6)).bind fun b7 =>
 if b7 then ((call 130 []).bind fun r8 =>
 some r8) else ((D.get a0 [0]).bind fun x9 =>
(D.get a1 [1]).bind fun x10 =>
(call 62 [x9, x10]).bind fun r11 =>
(D.get a1 [0]).bind fun x12 =>
(D.get a0 [1]).bind fun x13 =>
(call 62 [x12, x13]).bind fun r14 =>
(D.get r11 [0]).bind fun x15 =>
(D.get r14 [0]).bind fun x16 =>
(call 61 [x15, x16]).bind fun r17 =>
(D.get r11 [1]).bind fun x18 =>
(D.get r14 [1]).bind fun x19 =>
(call 61 [x18, x19]).bind fun r20 =>
(D.get r17 [0]).bind fun x21 =>
(D.truth x21).bind fun b22 =>
(if b22 then (some true) else ((D.get r20 [0]).bind fun x23 =>
 D.truth x23)).bind fun b24 =>
(D.truth (D.bool b24)).bind fun b25 =>
 if b25 then ((call 130 []).bind fun r26 =>
 some r26) else (some (D.st [r17, r20])))
theorem L174 {lp} (hlp : LpOk lp) : leafOk 174 (m2 (F174 lp)) := leaf2 (fn := Tryz.f174) (ann := A174) hlp (by kernel_rfl) (by kernel_rfl) (fun call a0 a1 => by kernel_rfl)
noncomputable def F175 (lp : Lp) (call : Nat -> List D -> Option D) (a0 : D) (a1 : D) : Option D :=
(D.bin .lss a1 (D.int .i64 0)).bind fun x1 =>
(D.truth x1).bind fun b2 =>
 if b2 then (some (D.int .i64 0)) else ((call 141 [a0, a1]).bind fun r3 =>
 some r3)
theorem L175 {lp} (hlp : LpOk lp) : leafOk 175 (m2 (F175 lp)) := leaf2 (fn := Tryz.f175) (ann := .leaf) hlp (by kernel_rfl) (by kernel_rfl) (fun call a0 a1 => by kernel_rfl)
def A186 : Ann := (.two .leaf (.two .leaf (.two .leaf (.two .leaf (.two .leaf (.two .leaf (.cut [(.normal, ⟨[(6, .dv (Ty.int .i64))], [], []⟩)] [] [] .leaf .leaf)))))))
noncomputable def F186 (lp : Lp) (call : Nat -> List D -> Option D) (a0 : D) : Option D :=
(call 76 [a0]).bind fun r1 =>
(D.un .not r1).bind fun x2 =>
(D.truth x2).bind fun b3 =>
 if b3 then (some (D.tup [(D.int .i64 0), (D.bool false)])) else ((call 34 [(D.int .i64 (-9223372036854775808))]).bind fun r4 =>
(call 34 [(D.int .i64 9223372036854775807)]).bind fun r5 =>
(call 32 [a0, r4]).bind fun r6 =>
(D.bin .lss r6 (D.int .i64 0)).bind fun x7 =>
(D.truth x7).bind fun b8 =>
(if b8 then (some true) else ((call 32 [a0, r5]).bind fun r9 =>
(D.bin .gtr r9 (D.int .i64 0)).bind fun x10 =>
 D.truth x10)).bind fun b11 =>
(D.truth (D.bool b11)).bind fun b12 =>
 if b12 then (some (D.tup [(D.int .i64 0), (D.bool false)])) else ((D.get a0 [2, 1]).bind fun x13 =>
(D.conv .u64 x13).bind fun x14 =>
(D.bin .mul x14 (D.int .u64 4294967296)).bind fun x15 =>
(D.get a0 [2, 0]).bind fun x16 =>
(D.conv .u64 x16).bind fun x17 =>
(D.bin .add x15 x17).bind fun x18 =>
(D.conv .i64 x18).bind fun x19 =>
((D.get a0 [1]).bind fun x20 =>
(D.truth x20).bind fun b21 =>
 if b21 then ((D.un .neg x19).bind fun x22 =>
 some (0, [x22])) else (some (0, [x19]))).bind fun (r23 : Nat × List D) =>
 some (D.tup [(r23.2.getD 0 (.bool false)), (D.bool true)])))
theorem L186 {lp} (hlp : LpOk lp) : leafOk 186 (m1 (F186 lp)) := leaf1 (fn := Tryz.f186) (ann := A186) hlp (by kernel_rfl) (by kernel_rfl) (fun call a0 => by kernel_rfl)
def A187 : Ann := (.two .leaf (.two (.two .leaf (.two (.loop ⟨[(1, .same (.ptr K1 4097 [])), (3, .dv (Ty.int .i64))], [(4097, .keep K1 1)], []⟩ [(.ret, ⟨[(2, .dv Ty.bool)], [], []⟩), (.exit 0, ⟨[], [], []⟩)] .leaf) .leaf)) .leaf))
noncomputable def F187 (lp : Lp) (call : Nat -> List D -> Option D) (a0 : D) : Option D :=
(lp (β := Nat × List D) (fun (v1 : List D) =>
(D.bin .lss (v1.getD 0 (.bool false)) (D.int .i64 3)).bind fun x2 =>
(D.truth x2).bind fun b3 =>
 if b3 then ((D.idx (v1.getD 0 (.bool false)) 3).bind fun i4 =>
(D.get a0 [i4]).bind fun x5 =>
(D.bin .geq x5 (D.int .i64 2305843009213693952)).bind fun x6 =>
(D.truth x6).bind fun b7 =>
(if b7 then (some true) else ((D.idx (v1.getD 0 (.bool false)) 3).bind fun i8 =>
(D.get a0 [i8]).bind fun x9 =>
(D.bin .leq x9 (D.int .i64 (-2305843009213693952))).bind fun x10 =>
 D.truth x10)).bind fun b11 =>
(D.truth (D.bool b11)).bind fun b12 =>
 if b12 then (some (Sum.inr (0, [(D.bool false)]))) else ((D.bin .add (v1.getD 0 (.bool false)) (D.int .i64 1)).bind fun x13 =>
 some (Sum.inl [x13]))) else (some (Sum.inr (1, [])))) [(D.int .i64 0)]).bind fun r14 =>
 if r14.1 = 0 then (some (r14.2.getD 0 (.bool false))) else (some (D.bool true))
theorem L187 {lp} (hlp : LpOk lp) : leafOk 187 (m1 (F187 lp)) := leaf1 (fn := Tryz.f187) (ann := A187) hlp (by kernel_rfl) (by kernel_rfl) (fun call a0 => by kernel_rfl)
end Go.Proofs.YtjjjkojfijpeeaaGreat.Sy
end
section
set_option maxRecDepth 20000
set_option maxHeartbeats 0
set_option linter.unusedVariables false
namespace Go.Proofs.YtjjjkojfijpeeaaGreat.Sy
open Go Go.Proofs
def A188 : Ann := (.two .leaf (.two (.two .leaf (.two (.loop ⟨[(2, .same (.ptr K1 4098 [])), (3, .same (.ptr K1 4099 [])), (5, .dv (Ty.int .i64))], [(4098, .keep K1 2), (4099, .keep K1 3)], []⟩ [(.ret, ⟨[(4, .dv (Ty.int .i64))], [], []⟩), (.exit 0, ⟨[], [], []⟩)] (.two .leaf (.two (.two (.two .leaf (.two (.two (.reg [] 9) .leaf) .leaf)) .leaf) .leaf))) .leaf)) .leaf))
noncomputable def F188 (lp : Lp) (call : Nat -> List D -> Option D) (a0 : D) (a1 : D) : Option D :=
(lp (β := Nat × List D) (fun (v1 : List D) =>
(D.bin .lss (v1.getD 0 (.bool false)) (D.int .i64 3)).bind fun x2 =>
(D.truth x2).bind fun b3 =>
 if b3 then ((D.idx (v1.getD 0 (.bool false)) 3).bind fun i4 =>
(D.get a0 [i4]).bind fun x5 =>
(D.truth (D.bool (!(D.beq x5 (D.int .i64 0))))).bind fun b6 =>
 if b6 then ((D.idx (v1.getD 0 (.bool false)) 3).bind fun i7 =>
(D.get a0 [i7]).bind fun x8 =>
(call 215 [x8]).bind fun r9 =>
(D.idx (v1.getD 0 (.bool false)) 3).bind fun i10 =>
(D.get a1 [i10]).bind fun x11 =>
(call 215 [x11]).bind fun r12 =>
(D.bin .mul r9 r12).bind fun x13 =>
 some (Sum.inr (0, [x13]))) else ((D.bin .add (v1.getD 0 (.bool false)) (D.int .i64 1)).bind fun x14 =>
 some (Sum.inl [x14]))) else (some (Sum.inr (1, [])))) [(D.int .i64 0)]).bind fun r15 =>
 if r15.1 = 0 then (some (r15.2.getD 0 (.bool false))) else (some (D.int .i64 0))
theorem L188 {lp} (hlp : LpOk lp) : leafOk 188 (m2 (F188 lp)) := leaf2 (fn := Tryz.f188) (ann := A188) hlp (by kernel_rfl) (by kernel_rfl) (fun call a0 a1 => by kernel_rfl)
noncomputable def F194 (lp : Lp) (call : Nat -> List D -> Option D) (a0 : D) : Option D :=
 some (D.bool (!(D.beq a0 a0)))
theorem L194 {lp} (hlp : LpOk lp) : leafOk 194 (m1 (F194 lp)) := leaf1 (fn := Tryz.f194) (ann := .leaf) hlp (by kernel_rfl) (by kernel_rfl) (fun call a0 => by kernel_rfl)
def A195 : Ann := (.two .leaf (.two .leaf (.two (.two .leaf (.two (.loop ⟨[(2, .same (.ptr K10 4098 [])), (4, .same (.ptr K10 4100 [])), (6, .dv (Ty.int .u64)), (7, .dv (Ty.int .i64))], [(4098, .keep K10 2), (4100, .one K10 (.dv K10))], [1]⟩ [(.exit 0, ⟨[(4, .same (.ptr K10 4100 [])), (6, .dv (Ty.int .u64))], [(4100, .one K10 (.dv K10))], []⟩)] .leaf) .leaf)) .leaf)))
noncomputable def F195 (lp : Lp) (call : Nat -> List D -> Option D) (a0 : D) (a1 : D) : Option D :=
(lp (β := Nat × List D) (fun (v1 : List D) =>
(D.bin .geq (v1.getD 1 (.bool false)) (D.int .i64 0)).bind fun x2 =>
(D.truth x2).bind fun b3 =>
 if b3 then ((D.bin .shl (v1.getD 0 (.bool false)) (D.int .u64 32)).bind fun x4 =>
(D.idx (v1.getD 1 (.bool false)) 16).bind fun i5 =>
(D.get a0 [i5]).bind fun x6 =>
(D.conv .u64 x6).bind fun x7 =>
(D.bin .or x4 x7).bind fun x8 =>
(D.conv .u64 a1).bind fun x9 =>
(D.bin .quo x8 x9).bind fun x10 =>
(D.conv .u32 x10).bind fun x11 =>
(D.idx (v1.getD 1 (.bool false)) 16).bind fun i12 =>
(D.set (v1.getD 2 (.bool false)) [i12] x11).bind fun x13 =>
(D.conv .u64 a1).bind fun x14 =>
(D.bin .rem x8 x14).bind fun x15 =>
(D.bin .sub (v1.getD 1 (.bool false)) (D.int .i64 1)).bind fun x16 =>
 some (Sum.inl [x15, x16, x13])) else (some (Sum.inr (0, [(v1.getD 0 (.bool false)), (v1.getD 2 (.bool false))])))) [(D.int .u64 0), (D.int .i64 15), (zeroD K10)]).bind fun r17 =>
(D.conv .u32 (r17.2.getD 0 (.bool false))).bind fun x18 =>
 some (D.tup [(r17.2.getD 1 (.bool false)), x18])
theorem L195 {lp} (hlp : LpOk lp) : leafOk 195 (m2 (F195 lp)) := leaf2 (fn := Tryz.f195) (ann := A195) hlp (by kernel_rfl) (by kernel_rfl) (fun call a0 a1 => by kernel_rfl)
noncomputable def F196 (lp : Lp) (call : Nat -> List D -> Option D) (a0 : D) : Option D :=
(call 165 [a0]).bind fun r1 =>
(D.bin .sub (D.int .i64 32) r1).bind fun x2 =>
 some x2
theorem L196 {lp} (hlp : LpOk lp) : leafOk 196 (m1 (F196 lp)) := leaf1 (fn := Tryz.f196) (ann := .leaf) hlp (by kernel_rfl) (by kernel_rfl) (fun call a0 => by kernel_rfl)
def A197 : Ann := (.two .leaf (.two .leaf (.two .leaf (.two (.two .leaf (.two (.loop ⟨[(2, .same (.ptr K10 4098 [])), (4, .same (.ptr K10 4100 [])), (6, .same (.ptr K10 8198 [])), (7, .dv (Ty.int .u64)), (9, .dv (Ty.int .i64))], [(4098, .keep K10 2), (4100, .keep K10 4), (8198, .one K10 (.dv K10))], [1]⟩ [(.exit 0, ⟨[(4, .same (.ptr K10 4100 [])), (6, .same (.ptr K10 8198 [])), (7, .dv (Ty.int .u64))], [(4100, .keep K10 4), (8198, .one K10 (.dv K10))], []⟩)] .leaf) .leaf)) .leaf))))
noncomputable def F197 (lp : Lp) (call : Nat -> List D -> Option D) (a0 : D) (a1 : D) : Option D :=
(lp (β := Nat × List D) (fun (v1 : List D) =>
(D.bin .lss (v1.getD 1 (.bool false)) (D.int .i64 16)).bind fun x2 =>
(D.truth x2).bind fun b3 =>
 if b3 then ((D.idx (v1.getD 1 (.bool false)) 16).bind fun i4 =>
(D.get a0 [i4]).bind fun x5 =>
(D.conv .u64 x5).bind fun x6 =>
(D.bin .shl x6 a1).bind fun x7 =>
(D.bin .or (v1.getD 0 (.bool false)) x7).bind fun x8 =>
(D.conv .u32 x8).bind fun x9 =>
(D.idx (v1.getD 1 (.bool false)) 16).bind fun i10 =>
(D.set (v1.getD 2 (.bool false)) [i10] x9).bind fun x11 =>
(D.bin .shr x8 (D.int .u64 32)).bind fun x12 =>
(D.bin .add (v1.getD 1 (.bool false)) (D.int .i64 1)).bind fun x13 =>
 some (Sum.inl [x12, x13, x11])) else (some (Sum.inr (0, [(v1.getD 0 (.bool false)), (v1.getD 2 (.bool false))])))) [(D.int .u64 0), (D.int .i64 0), (zeroD K10)]).bind fun r14 =>
(D.conv .u32 (r14.2.getD 0 (.bool false))).bind fun x15 =>
 some (D.tup [(r14.2.getD 1 (.bool false)), x15])
theorem L197 {lp} (hlp : LpOk lp) : leafOk 197 (m2 (F197 lp)) := leaf2 (fn := Tryz.f197) (ann := A197) hlp (by kernel_rfl) (by kernel_rfl) (fun call a0 a1 => by kernel_rfl)
noncomputable def F202 (lp : Lp) (call : Nat -> List D -> Option D) (a0 : D) : Option D :=
(call 118 [(D.sl [a0])]).bind fun r1 =>
(D.un .not r1).bind fun x2 =>
(D.truth x2).bind fun b3 =>
(if b3 then (some true) else ((call 217 [a0]).bind fun r4 =>
(D.bin .gtr r4 (D.int .i64 64)).bind fun x5 =>
 D.truth x5)).bind fun b6 =>
(D.truth (D.bool b6)).bind fun b7 =>
 if b7 then (some (D.tup [(D.int .i64 0), (D.bool false)])) else ((D.get a0 [2, 1]).bind fun x8 =>
(D.conv .u64 x8).bind fun x9 =>
(D.bin .shl x9 (D.int .u64 32)).bind fun x10 =>
(D.get a0 [2, 0]).bind fun x11 =>
(D.conv .u64 x11).bind fun x12 =>
(D.bin .or x10 x12).bind fun x13 =>
(D.get a0 [1]).bind fun x14 =>
(D.truth x14).bind fun b15 =>
(if b15 then ((D.bin .leq x13 (D.int .u64 9223372036854775808)).bind fun x16 =>
 D.truth x16) else (some false)).bind fun b17 =>
(D.truth (D.bool b17)).bind fun b18 =>
 if b18 then ((D.un .neg x13).bind fun x19 =>
(D.conv .i64 x19).bind fun x20 =>
 some (D.tup [x20, (D.bool true)])) else ((D.get a0 [1]).bind fun x21 =>
(D.un .not x21).bind fun x22 =>
(D.truth x22).bind fun b23 =>
(if b23 then ((D.bin .lss x13 (D.int .u64 9223372036854775808)).bind fun x24 =>
 D.truth x24) else (some false)).bind fun b25 =>
(D.truth (D.bool b25)).bind fun b26 =>
 if b26 then ((D.conv .i64 x13).bind fun x27 =>
 some (D.tup [x27, (D.bool true)])) else (some (D.tup [(D.int .i64 0), (D.bool false)]))))
theorem L202 {lp} (hlp : LpOk lp) : leafOk 202 (m1 (F202 lp)) := leaf1 (fn := Tryz.f202) (ann := .leaf) hlp (by kernel_rfl) (by kernel_rfl) (fun call a0 => by kernel_rfl)
def A203 : Ann := (.two .leaf (.two (.reg [] 4) .leaf))
noncomputable def F203 (lp : Lp) (call : Nat -> List D -> Option D) (a0 : D) (a1 : D) : Option D :=
(call 68 [a1]).bind fun r1 =>
(call 57 [a0, r1]).bind fun r2 =>
 some r2
theorem L203 {lp} (hlp : LpOk lp) : leafOk 203 (m2 (F203 lp)) := leaf2 (fn := Tryz.f203) (ann := A203) hlp (by kernel_rfl) (by kernel_rfl) (fun call a0 a1 => by kernel_rfl)
noncomputable def F215 (lp : Lp) (call : Nat -> List D -> Option D) (a0 : D) : Option D :=
(D.bin .lss a0 (D.int .i64 0)).bind fun x1 =>
(D.truth x1).bind fun b2 =>
 if b2 then (some (D.int .i64 (-1))) else ((D.bin .gtr a0 (D.int .i64 0)).bind fun x3 =>
(D.truth x3).bind fun b4 =>
 if b4 then (some (D.int .i64 1)) else (some (D.int .i64 0)))
theorem L215 {lp} (hlp : LpOk lp) : leafOk 215 (m1 (F215 lp)) := leaf1 (fn := Tryz.f215) (ann := .leaf) hlp (by kernel_rfl) (by kernel_rfl) (fun call a0 => by kernel_rfl)
noncomputable def F217 (lp : Lp) (call : Nat -> List D -> Option D) (a0 : D) : Option D :=
(D.get a0 [2]).bind fun x1 =>
(call 127 [x1]).bind fun r2 =>
(call 118 [(D.sl [a0])]).bind fun r3 =>
(D.un .not r3).bind fun x4 =>
(D.truth x4).bind fun b5 =>
(if b5 then (some true) else (D.truth (D.bool (D.beq r2 (D.int .i64 0))))).bind fun b6 =>
(D.truth (D.bool b6)).bind fun b7 =>
 if b7 then (some (D.int .i64 0)) else ((D.bin .sub r2 (D.int .i64 1)).bind fun x8 =>
(D.bin .mul (D.int .i64 32) x8).bind fun x9 =>
(D.bin .sub r2 (D.int .i64 1)).bind fun x10 =>
(D.idx x10 16).bind fun i11 =>
(D.get a0 [2, i11]).bind fun x12 =>
(call 165 [x12]).bind fun r13 =>
(D.bin .add x9 r13).bind fun x14 =>
 some x14)
theorem L217 {lp} (hlp : LpOk lp) : leafOk 217 (m1 (F217 lp)) := leaf1 (fn := Tryz.f217) (ann := .leaf) hlp (by kernel_rfl) (by kernel_rfl) (fun call a0 => by kernel_rfl)
end Go.Proofs.YtjjjkojfijpeeaaGreat.Sy
end
section
namespace Go.Proofs.YtjjjkojfijpeeaaGreat.Sy
open Go Go.Proofs Go.Sort Go.Lib
def cmpI (E : Env) (g : Nat) (x y : D) : Option Int := (E.call g [x, y]).bind fun r => match r with | .int .i64 n => some n | _ => none
def ltD (E : Env) (g : Nat) (x y : D) : Bool := match cmpI E g x y with | some n => decide (n < 0) | none => false
def geD (E : Env) (g : Nat) (x y : D) : Bool := match cmpI E g x y with | some n => decide (0 <= n) | none => false
def insL (lt : D -> D -> Bool) (x : D) : List D -> List D
 | [] => [x]
 | y :: l => if lt x y then x :: y :: l else y :: insL lt x l
def sortL (lt : D -> D -> Bool) : List D -> List D
 | [] => []
 | x :: l => insL lt x (sortL lt l)
def chkS (E : Env) (g : Nat) : List D -> Bool
 | [] => true
 | x :: l => geD E g x x && l.all (fun y => ltD E g x y && geD E g y x) && chkS E g l
def sortD (E : Env) (g : Nat) (l : List D) : Option (List D) := if chkS E g (sortL (ltD E g) l) then some (sortL (ltD E g) l) else none
theorem insL_perm (lt : D -> D -> Bool) (x : D) : ∀ l : List D, (insL lt x l).Perm (x :: l)
 | [] => .refl _
 | y :: l => by
   simp only [insL]
   split
   . exact .refl _
   . exact ((insL_perm lt x l).cons y).trans (.swap x y l)
theorem sortL_perm (lt : D -> D -> Bool) : ∀ l : List D, (sortL lt l).Perm l
 | [] => .refl _
 | x :: l => (insL_perm lt x _).trans ((sortL_perm lt l).cons x)
section
variable {E : Env} {g : Nat}
theorem chkS_spec : ∀ {l : List D}, chkS E g l = true -> l.Pairwise (fun x y => ltD E g x y = true /\ geD E g y x = true) /\ ∀ x ∈ l, geD E g x x = true
 | [], _ => ⟨.nil, by simp⟩
 | x :: l, h => by
   simp only [chkS, Bool.and_eq_true, List.all_eq_true] at h
   obtain ⟨⟨h1, h2⟩, h3⟩ := h
   obtain ⟨k1, k2⟩ := chkS_spec h3
   exact ⟨List.pairwise_cons.2 ⟨h2, k1⟩, fun y hy => by
     rcases List.mem_cons.1 hy with rfl | hy
     . exact h1
     . exact k2 y hy⟩
theorem ge_lt {x y : D} (h : geD E g x y = true) : ltD E g x y = false := by
 unfold geD at h
 unfold ltD
 split at h
 . rename_i n hn
   simp only [decide_eq_true_eq] at h
   simp only [decide_eq_false_iff_not]; omega
 . cases h
theorem said {x y : D} (h : ltD E g x y = true \/ geD E g x y = true) : ∃ n, cmpI E g x y = some n := by
 rcases h with h | h
 . unfold ltD at h; split at h
   . exact ⟨_, by assumption⟩
   . cases h
 . unfold geD at h; split at h
   . exact ⟨_, by assumption⟩
   . cases h
variable {l : List D} (hc : chkS E g l = true)
include hc
theorem chk_idx {i j : Nat} {x y : D} (hi : l[i]? = some x) (hj : l[j]? = some y) : (ltD E g x y = true ↔ i < j) /\ ∃ n, cmpI E g x y = some n := by
 obtain ⟨h1, h2⟩ := chkS_spec hc
 obtain ⟨hi', rfl⟩ := List.getElem?_eq_some_iff.1 hi
 obtain ⟨hj', rfl⟩ := List.getElem?_eq_some_iff.1 hj
 rcases Nat.lt_trichotomy i j with k | k | k
 . have := List.pairwise_iff_getElem.1 h1 i j hi' hj' k
   exact ⟨⟨fun _ => k, fun _ => this.1⟩, said (.inl this.1)⟩
 . subst k
   have := h2 _ (List.getElem_mem hi')
   exact ⟨⟨fun h => (by rw [ge_lt this] at h; cases h), fun h => absurd h (Nat.lt_irrefl _)⟩, said (.inr this)⟩
 . have := List.pairwise_iff_getElem.1 h1 j i hj' hi' k
   exact ⟨⟨fun h => (by rw [ge_lt this.2] at h; cases h), fun h => by omega⟩, said (.inr this.2)⟩
theorem chk_nodup : l.Nodup := by
 obtain ⟨h1, h2⟩ := chkS_spec hc
 refine h1.imp fun {x y} h e => ?_
 subst e
 rw [ge_lt h.2] at h; cases h.1
def cfS (E : Env) (g : Nat) (l : List D) (x y : {d : D // d ∈ l}) : Int := (cmpI E g x.1 y.1).getD 0
omit hc in
theorem ltOf_cfS {x y : {d : D // d ∈ l}} : ltOf (cfS E g l) x y = ltD E g x.1 y.1 := by
 unfold ltOf cfS ltD
 cases cmpI E g x.1 y.1 <;> simp
theorem swo_cfS : SWO (ltOf (cfS E g l)) := by
 have ix : ∀ x : {d : D // d ∈ l}, ∃ i, l[i]? = some x.1 := fun x => by
   obtain ⟨i, h1, h2⟩ := List.getElem_of_mem x.2
   exact ⟨i, by rw [List.getElem?_eq_getElem h1, h2]⟩
 have key : ∀ (x y : {d : D // d ∈ l}) (i j : Nat), l[i]? = some x.1 -> l[j]? = some y.1 -> (ltOf (cfS E g l) x y = true ↔ i < j) := fun x y i j hi hj => by rw [ltOf_cfS]; exact (chk_idx hc hi hj).1
 refine ⟨fun x => ?_, fun x y z h1 h2 => ?_, fun x y z h1 h2 => ?_⟩
 . obtain ⟨i, hi⟩ := ix x
   cases h : ltOf (cfS E g l) x x with
   | false => rfl
   | true => exact absurd ((key x x i i hi hi).1 h) (Nat.lt_irrefl _)
 . obtain ⟨i, hi⟩ := ix x; obtain ⟨j, hj⟩ := ix y; obtain ⟨k, hk⟩ := ix z
   have a := (key x y i j hi hj).1 h1; have b := (key y z j k hj hk).1 h2
   exact (key x z i k hi hk).2 (by omega)
 . obtain ⟨i, hi⟩ := ix x; obtain ⟨j, hj⟩ := ix y; obtain ⟨k, hk⟩ := ix z
   have a : ¬ i < j := fun h => by rw [(key x y i j hi hj).2 h] at h1; cases h1
   have b : ¬ j < k := fun h => by rw [(key y z j k hj hk).2 h] at h2; cases h2
   cases h : ltOf (cfS E g l) x z with
   | false => rfl
   | true => have := (key x z i k hi hk).1 h; omega
theorem sorted_is [Inhabited {d : D // d ∈ l}] {d d' : Array {d : D // d ∈ l}} (hd : (d.toList.map (·.1)).Perm l) (hp : PermIn 0 d.size d d') (hs : SortedIn (ltOf (cfS E g l)) 0 d.size d') : d'.toList.map (·.1) = l := by
 obtain ⟨p1, _, p3⟩ := hp
 have q : d'.toList.Perm d.toList := by
   have e1 : d'.extract 0 d.size = d' := by rw [<- p1]; simp
   rw [e1] at p3
   simpa using p3
 have qp : (d'.toList.map (·.1)).Perm l := (q.map _).trans hd
 have hlen : (d'.toList.map (·.1)).length = l.length := qp.length_eq
 have nd := qp.symm.nodup (chk_nodup hc)
 have asc : (d'.toList.map (·.1)).Pairwise (fun x y => ltD E g x y = true) := by
   rw [List.pairwise_iff_getElem]
   intro i j hi hj hij
   simp only [List.length_map, Array.length_toList] at hi hj
   have h1 := hs i j (Nat.zero_le _) hij (by omega)
   rw [getElem!_pos d' j hj, getElem!_pos d' i hi, ltOf_cfS] at h1
   simp only [List.getElem_map, Array.getElem_toList]
   obtain ⟨a, ha1, ha2⟩ := List.getElem_of_mem (d'[i]).2
   obtain ⟨b, hb1, hb2⟩ := List.getElem_of_mem (d'[j]).2
   have ea : l[a]? = some (d'[i]).1 := by rw [List.getElem?_eq_getElem ha1, ha2]
   have eb : l[b]? = some (d'[j]).1 := by rw [List.getElem?_eq_getElem hb1, hb2]
   have k1 : ¬ b < a := fun h => by rw [(chk_idx hc eb ea).1.2 h] at h1; cases h1
   have k2 : a ≠ b := fun e => by
     subst e
     have : (d'[i]).1 = (d'[j]).1 := by rw [<- ha2, <- hb2]
     have := List.pairwise_iff_getElem.1 nd i j (by simpa using hi) (by simpa using hj) hij
     simp only [List.getElem_map, Array.getElem_toList] at this
     contradiction
   exact (chk_idx hc ea eb).1.2 (by omega)
 have key : ∀ {a b : List D}, a.Pairwise (fun x y => ltD E g x y = true) -> b.Pairwise (fun x y => ltD E g x y = true) -> a.Perm b -> (∀ x ∈ a, x ∈ l) -> a = b := by
   intro a
   induction a with
   | nil => intro b _ _ hp _; exact hp.symm.eq_nil.symm ▸ rfl
   | cons x a ih =>
     intro b ha hb hp hm
     cases b with
     | nil => exact absurd hp.eq_nil (by simp)
     | cons y b =>
       obtain ⟨a1, a2⟩ := List.pairwise_cons.1 ha
       obtain ⟨b1, b2⟩ := List.pairwise_cons.1 hb
       have e : x = y := by
         rcases List.mem_cons.1 (hp.subset List.mem_cons_self) with e | m1
         . exact e
         . rcases List.mem_cons.1 (hp.symm.subset (List.mem_cons_self (a := y))) with e | m2
           . exact e.symm
           . exfalso
             have h1 := b1 x m1
             have h2 := a1 y m2
             obtain ⟨i, hi1, hi2⟩ := List.getElem_of_mem (hm x List.mem_cons_self)
             obtain ⟨j, hj1, hj2⟩ := List.getElem_of_mem (hm y (List.mem_cons_of_mem _ m2))
             have ei : l[i]? = some x := by rw [List.getElem?_eq_getElem hi1, hi2]
             have ej : l[j]? = some y := by rw [List.getElem?_eq_getElem hj1, hj2]
             have := (chk_idx hc ei ej).1.1 h2
             have := (chk_idx hc ej ei).1.1 h1
             omega
       subst e
       rw [ih a2 b2 ((List.perm_cons x).1 hp) (fun z hz => hm z (List.mem_cons_of_mem _ hz))]
 exact key asc ((chkS_spec hc).1.imp fun h => h.1) qp fun x hx => qp.subset hx
end
end Go.Proofs.YtjjjkojfijpeeaaGreat.Sy
end
section
namespace Go.Proofs.YtjjjkojfijpeeaaGreat.Sy
open Go Go.Proofs Go.Sort Go.Lib
def leafB : D -> Bool
 | .int .. => true
 | .bool _ => true
 | _ => false
def valOf : D -> Value
 | .int k n => .int k n
 | .bool b => .bool b
 | _ => undef
mutual
theorem leaf_flat : ∀ (t : Ty) (x : D), cmpTy t = true -> wt t x -> ∀ d ∈ x.flat, leafB d = true
 | .int k, x, _, h => by simp only [wt] at h; obtain ⟨n, rfl⟩ := h; intro d hd; simp only [D.flat, List.mem_singleton] at hd; subst hd; rfl
 | .bool, x, _, h => by simp only [wt] at h; obtain ⟨n, rfl⟩ := h; intro d hd; simp only [D.flat, List.mem_singleton] at hd; subst hd; rfl
 | .str, x, hc, h => by simp [cmpTy] at hc
 | .st ts, x, hc, h => by
   simp only [wt] at h
   obtain ⟨l, rfl, hl⟩ := h
   simp only [cmpTy] at hc
   simp only [D.flat]
   exact leaf_flats ts l hc hl
 | .arr n t, x, hc, h => by
   simp only [wt] at h
   obtain ⟨l, rfl, hn, hl⟩ := h
   clear hn
   simp only [cmpTy] at hc
   simp only [D.flat]
   induction l with
   | nil => intro d hd; simp [D.flats] at hd
   | cons y l ih =>
     intro d hd
     simp only [D.flats, List.mem_append] at hd
     rcases hd with hd | hd
     . exact leaf_flat t y hc (hl y List.mem_cons_self) d hd
     . exact ih (fun z hz => hl z (List.mem_cons_of_mem _ hz)) d hd
 | .sl t, x, hc, h => by simp [cmpTy] at hc
 | .tup l, x, hc, h => by simp [cmpTy] at hc
 | .fn, x, hc, h => by simp [cmpTy] at hc
theorem leaf_flats : ∀ (ts : List Ty) (l : List D), cmpTys ts = true -> wts ts l -> ∀ d ∈ D.flats l, leafB d = true
 | [], l, _, h => by simp only [wts] at h; subst h; intro d hd; simp [D.flats] at hd
 | t :: ts, l, hc, h => by
   simp only [wts] at h
   obtain ⟨y, l', rfl, h1, h2⟩ := h
   simp only [cmpTys, Bool.and_eq_true] at hc
   intro d hd
   simp only [D.flats, List.mem_append] at hd
   rcases hd with hd | hd
   . exact leaf_flat t y hc.1 h1 d hd
   . exact leaf_flats ts l' hc.2 h2 d hd
end
theorem CR_leaf {w : World} {S : Nat -> Nat -> Prop} {d : D} {c : Value} (hl : leafB d = true) : CR w S d c ↔ c = valOf d := by
 cases d <;> simp only [leafB] at hl <;> first | (cases hl; done) | skip
 . exact ⟨fun h => h.int_inv, fun h => by subst h; exact .int _ _⟩
 . exact ⟨fun h => h.bool_inv, fun h => by subst h; exact .bool _⟩
theorem CRl_leaf {w : World} {S : Nat -> Nat -> Prop} {ds : List D} {cs : List Value} (hl : ∀ d ∈ ds, leafB d = true) : CRl w S ds cs ↔ cs = ds.map valOf := by
 constructor
 . rintro ⟨h1, h2⟩
   apply List.ext_getElem?
   intro i
   rw [List.getElem?_map]
   rcases Nat.lt_or_ge i ds.length with k | k
   . have a := List.getElem?_eq_getElem k
     have b : cs[i]? = some cs[i] := List.getElem?_eq_getElem (h1 ▸ k)
     rw [a, b]
     simp only [Option.map_some, Option.some.injEq]
     exact (CR_leaf (hl _ (List.getElem_mem k))).1 (h2 i _ _ a b)
   . rw [List.getElem?_eq_none k, List.getElem?_eq_none (by omega)]; rfl
 . rintro rfl
   refine ⟨by simp, fun i d c hd hc => ?_⟩
   rw [List.getElem?_map, hd] at hc
   simp only [Option.map_some, Option.some.injEq] at hc
   exact (CR_leaf (hl d (List.mem_of_getElem? hd))).2 hc.symm
theorem flats_div {k : Nat} (hk : 0 < k) : ∀ (l : List D), (∀ x ∈ l, x.flat.length = k) -> ∀ t, (D.flats l)[t]? = (l[t / k]?).bind fun x => x.flat[t % k]?
 | [], _, t => by simp [D.flats]
 | x :: l, h, t => by
   have hx := h x List.mem_cons_self
   simp only [D.flats]
   rcases Nat.lt_or_ge t k with c | c
   . rw [List.getElem?_append_left (by omega), Nat.div_eq_of_lt c, Nat.mod_eq_of_lt c]; rfl
   . rw [List.getElem?_append_right (by omega), hx, flats_div hk l (fun y hy => h y (List.mem_cons_of_mem _ hy)) (t - k)]
     have e1 : t / k = (t - k) / k + 1 := by rw [Nat.div_eq_sub_div hk c]
     have e2 : t % k = (t - k) % k := Nat.mod_eq_sub_mod c
     rw [e1, e2]; rfl
structure SortOk (P : Program) (f : Nat) (e : Ty) : Prop where
 cmp : cmpTy e = true
 agg : aggTy e = true
 pos : 0 < e.size
 nt : noTup e = true
 fn : ∃ fn, P.funcs[f]? = some fn /\ (fn.name == "runtime.NumGoroutine") = false /\ fn.body.isSome = true
 empty : ∀ (p : Option Addr) (cap : Nat) (fv : Value) (w : World), Calls P f #[.slice p 0 cap, fv] w fun en w' => en = .returned (.tuple #[]) /\ w' = w
 whole : ∀ (α : Type) [Inhabited α] (enc : α -> List Value) (_ : ∀ x, (enc x).length = e.size) (_ : ∀ x, ∀ v ∈ enc x, v.oneCell' = true) (cf : α -> α -> Int) (_ : SWO (ltOf cf)) (g : Nat) (blk off cap : Nat) (d : Array α) (w : World)
   (_ : ∀ args w, (callFunc g args).run P w = .ok (.enter g args) w) (_ : CmpLays P g #[] enc e.size cf blk off d.size w) (_ : HoldsK enc e.size w blk off d) (_ : blk < w.heap.size) (_ : d.size < 4611686018427387904),
   Calls P f #[.slice (some ⟨blk, off, none⟩) d.size cap, .func (.func g) #[] #[]] w fun en w' => en = .returned (.tuple #[]) /\ ∃ d' n os, PermIn 0 d.size d d' /\ SortedIn (ltOf cf) 0 d.size d' /\ w' = sortWorldK enc e.size w blk off n d' os
section
variable {P : Program} {E : Env}
theorem enters_sig (hE : EnvOk P E) {g : Nat} {ptys : List Ty} {rty : Ty} (h : E.sig g = some (ptys, rty)) (args : Array Value) (w : World) : (callFunc g args).run P w = .ok (.enter g args) w := by
 obtain ⟨_, _, fn, f1, f2, f3⟩ := hE.sig g ptys rty h
 have f2' : ¬ fn.name = "runtime.NumGoroutine" := by simpa using f2
 have hb' : ¬ fn.body = none := by intro hh; rw [hh] at f3; cases f3
 simp [callFunc, f1, f2', hb']
theorem sort_call (hE : EnvOk P E) {f : Nat} {e : Ty} (hf : SortOk P f e) {g : Nat} (hsig : E.sig g = some ([e, e], .int .i64)) {l l' : List D} (hwt : ∀ x ∈ l, wt e x) (hs : sortD E g l = some l') (hne : l ≠ []) {w : World} {b off cap : Nat} {row : Array Value}
   (hr : row? w b = some row) (hc : ∀ (i : Nat) (d : D), (D.flats l)[i]? = some d -> w.cell? ⟨b, off + i, none⟩ = some (valOf d)) (hlen : l.length < 4611686018427387904) :
   Calls P f #[.slice (some ⟨b, off, none⟩) l.length cap, .func (.func g) #[] #[]] w fun en w' => en = .returned (.tuple #[]) /\ l'.Perm l /\ w.drawn <= w'.drawn /\ w'.tape = w.tape /\ w'.os = w.os /\ w'.output = w.output /\ w.heap.size <= w'.heap.size ∧
     (∀ b', b' ≠ b -> b' < w.heap.size -> w'.heap[b']? = w.heap[b']?) /\ ∀ (i : Nat) (d : D), (D.flats l')[i]? = some d -> w'.cell? ⟨b, off + i, none⟩ = some (valOf d) := by
 have hsd : chkS E g l' = true /\ l' = sortL (ltD E g) l := by
   unfold sortD at hs
   split at hs
   . rename_i h; cases hs; exact ⟨h, rfl⟩
   . cases hs
 obtain ⟨hchk, hl'⟩ := hsd
 have hperm : l'.Perm l := hl' ▸ sortL_perm _ l
 have hmem : ∀ x ∈ l, x ∈ l' := fun x hx => hperm.symm.subset hx
 have hwt' : ∀ x ∈ l', wt e x := fun x hx => hwt x (hperm.subset hx)
 obtain ⟨x0, hx0⟩ : ∃ x0, x0 ∈ l' := by
   cases l with
   | nil => exact absurd rfl hne
   | cons x l => exact ⟨x, hmem x List.mem_cons_self⟩
 have hinh : Inhabited {d : D // d ∈ l'} := ⟨⟨x0, hx0⟩⟩
 have hfl : ∀ x : {d : D // d ∈ l'}, x.1.flat.length = e.size := fun x => wt_len e x.1 (hwt' x.1 x.2) hf.nt
 have hleaf : ∀ x : {d : D // d ∈ l'}, ∀ d ∈ x.1.flat, leafB d = true := fun x => leaf_flat e x.1 hf.cmp (hwt' x.1 x.2)
 obtain ⟨d, hd⟩ : ∃ d : Array {d : D // d ∈ l'}, d.toList.map (·.1) = l := ⟨(l.pmap Subtype.mk hmem).toArray, by simp [List.map_pmap]⟩
 have hds : d.size = l.length := by rw [<- hd]; simp
 have hbs : b < w.heap.size := by
   unfold row? at hr
   cases hb : w.heap[b]? with
   | none => rw [hb] at hr; cases hr
   | some o => exact (Array.getElem?_eq_some_iff.1 hb).1
 have hfro : ∀ o, w.frozen? ⟨b, o, none⟩ = false := fun o => by
   unfold row? at hr
   split at hr
   . rename_i c t hb
     unfold World.frozen?
     simp [hb]
   . cases hr
 have at_ : ∀ (dd : Array {d : D // d ∈ l'}) (t : Nat), t < dd.size * e.size -> (D.flats (dd.toList.map (·.1)))[t]?.map valOf = some ((flatK (fun x : {d : D // d ∈ l'} => x.1.flat.map valOf) e.size dd)[t]!) := fun dd t ht => by
   rw [get_flatK _ _ _ _ ht, flats_div hf.pos _ (fun x hx => by
     obtain ⟨y, _, rfl⟩ := List.mem_map.1 hx
     exact hfl y)]
   have h1 : t / e.size < dd.size := (Nat.div_lt_iff_lt_mul hf.pos).2 ht
   have h2 : t % e.size < e.size := Nat.mod_lt _ hf.pos
   rw [List.getElem?_map, Array.getElem?_toList, Array.getElem?_eq_getElem h1, getElem!_pos dd _ h1]
   simp only [Option.map_some, Option.bind_some]
   have h3 : t % e.size < (dd[t / e.size]).1.flat.length := by rw [hfl]; exact h2
   rw [List.getElem?_eq_getElem h3, getElem!_pos _ _ (by simpa using h3)]
   simp
 have hH : HoldsK (fun x : {d : D // d ∈ l'} => x.1.flat.map valOf) e.size w b off d := by
   intro j hj
   rw [size_flatK] at hj
   refine ⟨?_, hfro _⟩
   have := at_ d j hj
   rw [hd] at this
   cases hq : (D.flats l)[j]? with
   | none => rw [hq] at this; cases this
   | some q =>
     rw [hq] at this
     simp only [Option.map_some, Option.some.injEq] at this
     rw [hc j q hq, this]; rfl
 have hcmp : CmpLays P g #[] (fun x : {d : D // d ∈ l'} => x.1.flat.map valOf) e.size (cfS E g l') b off d.size w := by
   intro m os dk _ x y
   obtain ⟨i, hi1, hi2⟩ := List.getElem_of_mem x.2
   obtain ⟨j, hj1, hj2⟩ := List.getElem_of_mem y.2
   obtain ⟨_, n, hn⟩ := chk_idx hchk (i := i) (j := j) (x := x.1) (y := y.1) (by rw [List.getElem?_eq_getElem hi1, hi2]) (by rw [List.getElem?_eq_getElem hj1, hj2])
   have hcall : E.call g [x.1, y.1] = some (.int .i64 n) := by
     unfold cmpI at hn
     obtain ⟨r, h1, h2⟩ := bind_some_inv hn
     rw [h1]
     split at h2
     . cases h2; rfl
     . cases h2
   have hcf : cfS E g l' x y = n := by simp [cfS, hn]
   rw [hcf]
   have shpa : ∀ z : {d : D // d ∈ l'}, ∀ (w : World) (S : Nat -> Nat -> Prop), DR0 w S z.1 (.agg (z.1.flat.map valOf).toArray) := fun z w S => by
     refine ⟨?_, ?_⟩
     . have hz := hwt' z.1 z.2
       have ha := hf.agg
       cases e <;> simp only [aggTy] at ha <;> first | (cases ha; done) | skip
       . simp only [wt] at hz; obtain ⟨ll, h1, _⟩ := hz; rw [h1]; exact ⟨_, rfl⟩
       . simp only [wt] at hz; obtain ⟨ll, h1, _⟩ := hz; rw [h1]; exact ⟨_, rfl⟩
     . exact (CRl_leaf (hleaf z)).2 (by simp [Value.cells])
   have hw2 : wts [e, e] [x.1, y.1] := ⟨x.1, [y.1], rfl, hwt' _ x.2, ⟨y.1, [], rfl, hwt' _ y.2, rfl⟩⟩
   have hctr := hE.call g [e, e] (.int .i64) [x.1, y.1] (.int .i64 n) hsig hcall hw2
     (sortWorldK (fun x : {d : D // d ∈ l'} => x.1.flat.map valOf) e.size w b off m dk os) (fun _ _ => False) [.agg (x.1.flat.map valOf).toArray, .agg (y.1.flat.map valOf).toArray] (fun _ _ h => h.elim) hw2 rfl
     (fun i z v hz hv => by
       cases i with
       | zero => simp at hz hv; subst hz; subst hv; exact shpa x _ _
       | succ i => cases i with
         | zero => simp at hz hv; subst hz; subst hv; exact shpa y _ _
         | succ i => simp at hz)
   refine hctr.mono ?_
   rintro en w' ⟨v, rfl, ⟨os', dr, hdr, rfl⟩, _, hv⟩
   have hv' : v = .int .i64 n := by
     obtain ⟨c1, c2⟩ := (hv : DR0 _ _ _ _)
     have := (CRl_leaf (by intro d hd; simp only [D.flat, List.mem_singleton] at hd; subst hd; rfl)).1 c2
     exact cells_single c1 (by simpa [D.flat, valOf] using this)
   refine ⟨by rw [hv'], dr - (sortWorldK (fun x : {d : D // d ∈ l'} => x.1.flat.map valOf) e.size w b off m dk os).drawn, os'.toArray, ?_⟩
   unfold grown grow World.drewN
   simp only [show ∀ a b : Nat, a <= b -> a + (b - a) = b from fun a b h => by omega, hdr]
 have hO : SWO (ltOf (cfS E g l')) := swo_cfS hchk
 have key := hf.whole {d : D // d ∈ l'} (fun x => x.1.flat.map valOf) (fun x => by simp [hfl x]) (fun x v hv => by
     obtain ⟨q, hq, rfl⟩ := List.mem_map.1 hv
     have := hleaf x q hq
     cases q <;> simp only [leafB] at this <;> first | (cases this; done) | rfl) (cfS E g l') hO g b off cap d w (enters_sig hE hsig) hcmp hH hbs (by omega)
 rw [hds] at key
 refine key.mono ?_
 rintro en w' ⟨rfl, d', n, os, hp, hso, rfl⟩
 rw [<- hds] at hp hso
 have hd'l : d'.toList.map (·.1) = l' := sorted_is hchk (d := d) (by rw [hd]; exact hperm.symm) hp hso
 have hd's : d'.size = d.size := hp.1
 have hH' := holdsK_sortWorldK_c (fun x : {d : D // d ∈ l'} => x.1.flat.map valOf) e.size w b off d d' n os hH hbs hd's
 refine ⟨rfl, hperm, ?_, rfl, rfl, rfl, ?_, fun b' hb hb' => ?_, fun i q hq => ?_⟩
 . show w.drawn <= w.drawn + n; omega
 . simp only [sortWorldK, grow, putRowK, putRow, mapBlock, Go.Sort.ahead, Array.size_append, Array.size_modify]; omega
 . simp only [sortWorldK, grow, putRowK, putRow, mapBlock, Go.Sort.ahead]
   rw [Array.getElem?_append_left (by simpa using hb'), Array.getElem?_modify, if_neg (Ne.symm hb)]
 . have hi : i < d'.size * e.size := by
     have h1 := (List.getElem?_eq_some_iff.1 hq).1
     rw [flats_len_of hf.nt l' hwt'] at h1
     rw [hd's, hds, <- hperm.length_eq]; exact h1
   have h2 := at_ d' i hi
   rw [hd'l, hq] at h2
   simp only [Option.map_some, Option.some.injEq] at h2
   have h3 := (hH' i (by rw [size_flatK]; exact hi)).1
   rw [h3, <- h2]; rfl
end
end Go.Proofs.YtjjjkojfijpeeaaGreat.Sy
end
section
namespace Go.Proofs.YtjjjkojfijpeeaaGreat.Sy
open Go Go.Proofs Go.Sort Go.Lib
variable {ro : Option Nat} {nn : Nat}
inductive AnnT where
 | hand
 | seq (a : Ann) (b : AnnT)
def evS (E : Env) (K : St -> Option D) : Code -> AnnT -> St -> Option D
 | .seq c d, .seq a b, s => ev E c a D s fun e s' => match e with
   | .normal => evS E K d b s'
   | _ => none
 | _, .hand, s => K s
 | _, _, _ => none
def stopC : Code -> AnnT -> Code
 | .seq _ d, .seq _ b => stopC d b
 | c, _ => c
def initSt (fn : Func) (tys : List Ty) (args : List D) : St := { tm := initTm tys args, ob := fun _ => none, fresh := 0, dead := [], nt := fn.ntmps, lkS := [], lkO := [] }
def evFS (E : Env) (K : St -> Option D) (fn : Func) (ann : AnnT) (tys : List Ty) (args : List D) : Option D :=
 match fn.body with
 | none => none
 | some c => evS E K c ann (initSt fn tys args)
section
variable {P : Program} {E : Env} {w0 : Root}
theorem evS_ok (hE : EnvOk P E) {K : St -> Option D} {Q : Exit -> Act -> World -> Prop} {y : D} : ∀ (c : Code) (ann : AnnT) {S : Nat -> Nat -> Prop} {γ : Nat -> Option Nat} {β : Nat -> Option (Nat × Nat)} {s : St} {a : Act} {w : World},
   Rp w0 S γ β s a w -> evS E K c ann s = some y -> (∀ s' S' γ' β' a' w', Rp w0 S' γ' β' s' a' w' -> K s' = some y -> (stopC c ann).wpIn (FW ro) nn P Q a' w') -> c.wpIn (FW ro) nn P Q a w := by
 intro c
 induction c with
 | seq c d _ ih =>
   intro ann S γ β s a w h hev hQ
   cases ann with
   | hand => exact hQ s S γ β a w h (by simpa only [evS] using hev)
   | seq a1 b =>
     simp only [evS] at hev
     refine wpIn_seq (ev_ok hE c a1 D _ y h hev fun e s' S' γ' β' a' w' n1 n2 n3 n4 => ?_)
     cases e with
     | normal => exact ih b n1 n4 hQ
     | ret => cases n4
     | exit i => cases n4
 | _ =>
   intro ann S γ β s a w h hev hQ
   cases ann with
   | hand => exact hQ s S γ β a w h (by simpa only [evS] using hev)
   | seq a1 b => simp [evS] at hev
def freshL (s : St) (e : Ty) (x : Nat) : Option (List D) := match s.tm x with
 | .own e' v l => if e'.beq e && !(s.dead.contains v) && decide (l.length <= 1073741824) then some l else none
 | .nils => some []
 | _ => none
def sNew (s : St) (x : Nat) (e : Ty) (l : List D) : St := { tm := fun i => if i = x then .d (.sl e) (.sl l) else .undef, ob := fun _ => none, fresh := s.fresh + 1, dead := [], nt := s.nt, lkS := [], lkO := [] }
theorem DR0_sl {w : World} {S : Nat -> Nat -> Prop} {l : List D} {a : Option Addr} {n cap : Nat} (h : CR w S (.sl l) (.slice a n cap)) : DR0 w S (.sl l) (.slice a n cap) := by
 refine ⟨fun cs h => (by cases h), rfl, fun i d c hd hc => ?_⟩
 cases i with
 | zero => simp only [D.flat, List.getElem?_cons_zero, Option.some.injEq, Value.cells] at hd hc; subst hd; first | (subst hc; exact h) | (simp at hc; subst hc; exact h)
 | succ i => simp [D.flat] at hd
theorem leaf_list {e : Ty} (hc : cmpTy e = true) : ∀ l : List D, (∀ x ∈ l, wt e x) -> ∀ d ∈ D.flats l, leafB d = true
 | [], _, d, hd => by simp [D.flats] at hd
 | y :: l, h, d, hd => by
   simp only [D.flats, List.mem_append] at hd
   rcases hd with hd | hd
   . exact leaf_flat e y hc (h y List.mem_cons_self) d hd
   . exact leaf_list hc l (fun z hz => h z (List.mem_cons_of_mem _ hz)) d hd
theorem Rp.new {S S' : Nat -> Nat -> Prop} {γ : Nat -> Option Nat} {β : Nat -> Option (Nat × Nat)} {s : St} {a a' : Act} {w w' : World} (h : Rp w0 S γ β s a w) (he : Ext w0 w') {x : Nat} {e : Ty} {l : List D} (hn : noTup e = true) (hx : x < s.nt) (hwt : ∀ y ∈ l, wt e y)
   (hv : DR0 w' S' (.sl l) (a'.tmps.getD x undef)) (hnt : a'.tmps.size = s.nt) (hdf : a'.defers = []) (hSb : ∀ b o, S' b o -> b < w'.heap.size) (hSo : ∀ b o, S' b o -> w0.Old b -> w0.S0 b o) : Rp w0 S' (fun _ => none) (fun _ => none) (sNew s x e l) a' w' := by
 refine ⟨he, fun t ht => ?_, hnt, fun t ht => ?_, fun id o b ho => (by cases ho), fun id b hb => (by cases hb), fun id id' b hb => (by cases hb), fun _ _ => rfl, fun v b e _ hb => (by cases hb), fun v v' b e e' _ _ hb => (by cases hb), fun v id b e _ hb => (by cases hb), fun _ _ => rfl, hSb, hSo, hdf⟩
 . show AR _ (if t = x then AV.d (.sl e) (.sl l) else .undef) (a'.tmps.getD t undef)
   by_cases htx : t = x
   . rw [if_pos htx]
     subst htx
     exact .inl ⟨by simp only [noTup]; exact hn, ⟨l, rfl, hwt⟩, hv⟩
   . rw [if_neg htx]
     simp only [AR]
 . show (if t = x then AV.d (.sl e) (.sl l) else .undef) = _
   rw [if_neg (fun h => by subst h; exact absurd hx (Nat.not_lt.2 ht))]
theorem sort_wp (hE : EnvOk P E) {f : Nat} {e : Ty} (hf : SortOk P f e) {g : Nat} (hsig : E.sig g = some ([e, e], .int .i64)) {id x t d2 : Nat} {ops : Array Oper} {ty1 ty2 : TypeId} {p1 p2 : String} {af1 af2 : Array Edge} {args : Array Operand} {ats : Array TypeId}
   (hops : ops.toList = [⟨some t, .move (.tmp x), ty1, p1, af1, none⟩, ⟨some d2, .call ⟨.value (.func f), args, ats⟩, ty2, p2, af2, none⟩]) (hargs : args = #[.tmp t, .func g]) {Q : Exit -> Act -> World -> Prop}
   {S : Nat -> Nat -> Prop} {γ : Nat -> Option Nat} {β : Nat -> Option (Nat × Nat)} {s : St} {a : Act} {w : World} (h : Rp w0 S γ β s a w) (hxt : x ≠ t) (hxd : x ≠ d2) (ht : t < s.nt) {l l' : List D} (hv : freshL s e x = some l) (hs : sortD E g l = some l')
   (hQ : ∀ a' w' S', Rp w0 S' (fun _ => none) (fun _ => none) (sNew s x e l') a' w' -> Q .normal a' w') : (Code.region id ops false).wpIn (FW ro) nn P Q a w := by
 have hx : x < s.nt := by
   rcases Nat.lt_or_ge x s.nt with k | k
   . exact k
   . unfold freshL at hv; rw [h.tmu x k] at hv; cases hv
 have hax : AR ⟨w, S, γ, β, s.ob, s.dead⟩ (s.tm x) (a.tmps.getD x undef) := h.tms x (by rw [h.nt]; exact hx)
 obtain ⟨ad, cap, val, hwt, hcr, hown⟩ : ∃ ad cap, a.tmps.getD x undef = .slice ad l.length cap /\ (∀ y ∈ l, wt e y) /\ CR w S (.sl l) (.slice ad l.length cap) /\ (l ≠ [] -> ∃ b off row, ad = some ⟨b, off, none⟩ /\ row? w b = some row /\ ¬ w0.Old b /\ b < w.heap.size) /\ l.length <= 1073741824 := by
   unfold freshL at hv
   split at hv
   . rename_i e' v l0 htm
     split at hv
     . rename_i hb
       simp only [Bool.and_eq_true, Bool.not_eq_true', decide_eq_true_eq] at hb
       obtain ⟨⟨hb1, hb2⟩, hb3⟩ := hb
       cases hv
       have := Ty.eq_of_beq _ _ hb1; subst this
       rw [htm] at hax
       simp only [AR, AC] at hax
       obtain ⟨n0, n1, n2, ad, cap, n3, n4, n5⟩ := hax
       have hval := cells_single n0 n3
       have hdead : v ∉ s.dead := by simpa using hb2
       refine ⟨ad, cap, hval, n2, n4, fun hne => ?_, hb3⟩
       rcases n5 hdead with ⟨q1, q2⟩ | ⟨b, off, q1, q2, n, q3, q4⟩
       . exfalso
         obtain ⟨_, _, b, off, e1, e2, e3, e4⟩ := n4.elems
         cases e1
         rcases e2 with e2 | e2
         . exact hne e2
         . rw [q1] at e2; cases e2
       . obtain ⟨k1, k2, _⟩ := h.βn v b _ hdead q2
         unfold rsz at q3
         cases hr : row? w b with
         | none => rw [hr] at q3; cases q3
         | some row => exact ⟨b, off, row, q1, hr, k1, k2⟩
     . cases hv
   . rename_i htm
     cases hv
     rw [htm] at hax
     simp only [AR, AC] at hax
     have hval := cells_single hax.1 hax.2
     exact ⟨none, 0, hval, by simp, CR.of_elems (b := 0) (off := 0) (.inl rfl) (Nat.le_refl _) ⟨[], CRl.nil, by simp⟩, fun h => absurd rfl h, by simp⟩
   . cases hv
 obtain ⟨hown, hlen⟩ := hown
 have hperm : l'.Perm l := by
   unfold sortD at hs
   split at hs
   . cases hs; exact sortL_perm _ l
   . cases hs
 have hll : l'.length = l.length := hperm.length_eq
 have hwt' : ∀ y ∈ l', wt e y := fun y hy => hwt y (hperm.subset hy)
 refine wpIn_region_list ?_
 rw [hops]
 simp only [wpListIn, Region.wanted, if_true]
 refine (wpIn_of_OpOk (K := fun v w1 => v = a.tmps.getD x undef /\ w = w1) (OpOk.value (v := a.eval (.tmp x)) (w' := w) rfl ⟨rfl, rfl⟩) ?_)
 rintro _ _ ⟨rfl, rfl⟩
 have hsz : (a.put (some t) (a.tmps.getD x undef)).tmps.size = s.nt := by simp [Act.put, h.nt]
 have ht1 : (a.put (some t) (a.tmps.getD x undef)).eval (.tmp t) = a.tmps.getD x undef := by
   have : t < a.tmps.size := by rw [h.nt]; exact ht
   simp [Act.eval, Act.put, Array.getD, this]
 have hx1 : (a.put (some t) (a.tmps.getD x undef)).tmps.getD x undef = a.tmps.getD x undef := by
   exact put_slot (fun e => hxt (by cases e; rfl))
 have hdf1 : (a.put (some t) (a.tmps.getD x undef)).defers = [] := h.df
 generalize (a.put (some t) (a.tmps.getD x undef)) = a1 at *
 refine (wpIn_of_OpOk (K := fun v w1 => ∃ S', Ext w0 w1 /\ DR0 w1 S' (.sl l') (a.tmps.getD x undef) /\ (∀ b o, S' b o -> b < w1.heap.size) /\ (∀ b o, S' b o -> w0.Old b -> w0.S0 b o)) ?_ ?_)
 . obtain ⟨fn, f1, f2, f3⟩ := hf.fn
   refine OpOk.enter (f := f) (args := #[.slice ad l.length cap, .func (.func g) #[] #[]]) (w' := w) ?_ ?_
   . have hb : ¬ fn.body = none := by intro hh; rw [hh] at f3; cases f3
     have f2' : ¬ fn.name = "runtime.NumGoroutine" := by simpa using f2
     have e1 : a1.eval (.tmp t) = .slice ad l.length cap := by rw [ht1, val]
     subst hargs
     have e2 : a1.eval (.func g) = .func (.func g) #[] #[] := rfl
     simp [execOp, resolve, Deferred.ofValue, invoke, callFunc, f1, f2', hb, e1, e2]
     simp [Act.eval, f1, f2', hb]
   . by_cases hne : l = []
     . subst hne
       have e0 : l' = [] := by cases l' with | nil => rfl | cons y l' => simp at hll
       subst e0
       refine (hf.empty ad cap _ w).mono ?_
       rintro en w1 ⟨rfl, rfl⟩
       exact ⟨_, rfl, S, h.ext, by rw [val]; exact DR0_sl hcr, h.Sb, h.So⟩
     . obtain ⟨b, off, row, rfl, hr, hold, hbs⟩ := hown hne
       have hcell : ∀ (i : Nat) (d : D), (D.flats l)[i]? = some d -> w.cell? ⟨b, off + i, none⟩ = some (valOf d) := by
         obtain ⟨_, _, b', off', e1, e2, e3, cs, e4, e5⟩ := hcr.elems
         cases e1
         rcases e2 with e2 | e2
         . exact absurd e2 hne
         . cases e2
           have hleaf := leaf_list hf.cmp l hwt
           have := (CRl_leaf hleaf).1 e4
           subst this
           intro i d hd
           exact (e5 i (valOf d) (by rw [List.getElem?_map, hd]; rfl)).2
       refine (sort_call hE hf hsig hwt hs hne (b := b) (off := off) (cap := cap) hr hcell (by omega)).mono ?_
       rintro en w1 ⟨rfl, _, q1, q2, q3, q4, q5, q6, q7⟩
       refine ⟨_, rfl, fun b' o => (S b' o /\ b' ≠ b) \/ (b' = b /\ off <= o /\ o < off + (D.flats l').length), ?_, ?_, ?_, ?_⟩
       . refine ext_of h.ext q2 q3 q4 q5 q1 fun b' hb' => q6 b' (fun e => hold (e ▸ hb')) (Nat.lt_of_lt_of_le hb'.1 h.ext.sz)
       . rw [val]
         refine DR0_sl ?_
         rw [<- hll]
         refine CR.of_elems (b := b) (off := off) (.inr rfl) (by obtain ⟨_, _, _, _, e1, _, e3, _⟩ := hcr.elems; cases e1; rw [hll]; exact e3) ⟨(D.flats l').map valOf, ?_, fun i c hc => ?_⟩
         . exact (CRl_leaf (leaf_list hf.cmp l' hwt')).2 rfl
         . rw [List.getElem?_map] at hc
           cases hd : (D.flats l')[i]? with
           | none => rw [hd] at hc; cases hc
           | some d =>
             rw [hd] at hc
             simp only [Option.map_some, Option.some.injEq] at hc
             subst hc
             exact ⟨.inr ⟨rfl, by omega, by have := (List.getElem?_eq_some_iff.1 hd).1; omega⟩, q7 i d hd⟩
       . rintro b' o (⟨hb', _⟩ | ⟨rfl, _, _⟩)
         . exact Nat.lt_of_lt_of_le (h.Sb b' o hb') q5
         . exact Nat.lt_of_lt_of_le hbs q5
       . rintro b' o (⟨hb', _⟩ | ⟨rfl, _, _⟩) ho
         . exact h.So b' o hb' ho
         . exact absurd ho hold
 . rintro v w1 ⟨S', k1, k2, k3, k4⟩
   refine hQ _ w1 S' (Rp.new h k1 hf.nt hx hwt' ?_ (by simp [Act.put, hsz]) hdf1 k3 k4)
   have : (a1.put (some d2) v).tmps.getD x undef = a.tmps.getD x undef := by
     rw [<- hx1]
     exact put_slot (fun e => hxd (by cases e; rfl))
   rw [this]; exact k2
end
end Go.Proofs.YtjjjkojfijpeeaaGreat.Sy
end
