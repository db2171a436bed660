/- Part 8 of the proof that HullMatchesSpec answers true at every input -/
import Derived.Test.YtjjjkojfijpeeaaGreatHulls06
set_option linter.unusedVariables false
set_option linter.unusedSimpArgs false
set_option linter.unnecessarySimpa false
section
set_option maxRecDepth 20000
set_option maxHeartbeats 0
set_option linter.unusedVariables false
namespace Go.Proofs.YtjjjkojfijpeeaaGreat.Sy
open Go Go.Proofs
def A61 : Ann := (.two .leaf (.two .leaf (.two .leaf (.two (.reg [] 7) (.two (.two .leaf (.two (.loop ⟨[(2, .same (.ptr K11 4098 [])), (3, .same (.ptr K11 4099 [])), (4, .same (.ptr K11 4100 [])), (5, .same (.ptr K25 12293 [])), (24, .dv (Ty.int .i64))], [(4098, .keep K11 2), (4099, .keep K11 3), (4100, .keep K11 4), (12293, .one K25 (.dv K25))], [7, 23]⟩ [(.exit 0, ⟨[(2, .same (.ptr K11 4098 [])), (3, .same (.ptr K11 4099 [])), (4, .same (.ptr K11 4100 [])), (5, .same (.ptr K25 12293 []))], [(4098, .keep K11 2), (4099, .keep K11 3), (4100, .keep K11 4), (12293, .one K25 (.dv K25))], []⟩)] (.two .leaf (.two .leaf (.two (.two (.two .leaf (.two .leaf (.two (.two .leaf (.two (.loop ⟨[(2, .same (.ptr K11 4098 [])), (3, .same (.ptr K11 4099 [])), (4, .same (.ptr K11 4100 [])), (5, .same (.ptr K25 12293 [])), (9, .dv (Ty.int .u64)), (28, .dv (Ty.int .i64))], [(4098, .keep K11 2), (4099, .keep K11 3), (4100, .keep K11 4), (12293, .one K25 (.dv K25))], [7, 8, 23, 24, 27]⟩ [(.exit 2, ⟨[(2, .same (.ptr K11 4098 [])), (3, .same (.ptr K11 4099 [])), (4, .same (.ptr K11 4100 [])), (5, .same (.ptr K25 12293 [])), (9, .dv (Ty.int .u64))], [(4098, .keep K11 2), (4099, .keep K11 3), (4100, .keep K11 4), (12293, .one K25 (.dv K25))], [7, 8, 23, 24]⟩)] (.two .leaf (.two .leaf (.two (.two (.two .leaf (.two (.reg [] 20) .leaf)) .leaf) .leaf)))) .leaf)) .leaf))) .leaf) .leaf)))) .leaf)) (.two .leaf (.two (.reg [] 9) .leaf)))))))
noncomputable def F61 (lp : Lp) (call : Nat -> List D -> Option D) (a0 : D) (a1 : D) : Option D :=
(call 118 [(D.sl [a0, a1])]).bind fun r1 =>
(D.un .not r1).bind fun x2 =>
(D.truth x2).bind fun b3 =>
 if b3 then ((call 119 []).bind fun r4 =>
 some r4) else ((D.get a0 [2]).bind fun x5 =>
(call 127 [x5]).bind fun r6 =>
(D.get a1 [2]).bind fun x7 =>
(call 127 [x7]).bind fun r8 =>
(lp (β := Nat × List D) (fun (v9 : List D) =>
(D.bin .lss (v9.getD 0 (.bool false)) r6).bind fun x10 =>
(D.truth x10).bind fun b11 =>
 if b11 then ((lp (β := Nat × List D) (fun (v12 : List D) =>
(D.bin .lss (v12.getD 1 (.bool false)) r8).bind fun x13 =>
(D.truth x13).bind fun b14 =>
 if b14 then ((D.idx (v9.getD 0 (.bool false)) 16).bind fun i15 =>
(D.get a0 [2, i15]).bind fun x16 =>
(D.conv .u64 x16).bind fun x17 =>
(D.idx (v12.getD 1 (.bool false)) 16).bind fun i18 =>
(D.get a1 [2, i18]).bind fun x19 =>
(D.conv .u64 x19).bind fun x20 =>
(D.bin .mul x17 x20).bind fun x21 =>
(D.bin .add (v9.getD 0 (.bool false)) (v12.getD 1 (.bool false))).bind fun x22 =>
(D.idx x22 32).bind fun i23 =>
(D.get (v12.getD 2 (.bool false)) [i23]).bind fun x24 =>
(D.conv .u64 x24).bind fun x25 =>
(D.bin .add x21 x25).bind fun x26 =>
(D.bin .add (v12.getD 0 (.bool false)) x26).bind fun x27 =>
(D.bin .add (v9.getD 0 (.bool false)) (v12.getD 1 (.bool false))).bind fun x28 =>
(D.conv .u32 x27).bind fun x29 =>
(D.idx x28 32).bind fun i30 =>
(D.set (v12.getD 2 (.bool false)) [i30] x29).bind fun x31 =>
(D.bin .shr x27 (D.int .u64 32)).bind fun x32 =>
(D.bin .add (v12.getD 1 (.bool false)) (D.int .i64 1)).bind fun x33 =>
 some (Sum.inl [x32, x33, x31])) else (some (Sum.inr (0, [(v12.getD 0 (.bool false)), (v12.getD 2 (.bool false))])))) [(D.int .u64 0), (D.int .i64 0), (v9.getD 1 (.bool false))]).bind fun r34 =>
(D.bin .add (v9.getD 0 (.bool false)) r8).bind fun x35 =>
(D.conv .u32 (r34.2.getD 0 (.bool false))).bind fun x36 =>
(D.idx x35 32).bind fun i37 =>
(D.set (r34.2.getD 1 (.bool false)) [i37] x36).bind fun x38 =>
(D.bin .add (v9.getD 0 (.bool false)) (D.int .i64 1)).bind fun x39 =>
 some (Sum.inl [x39, x38])) else (some (Sum.inr (0, [(v9.getD 1 (.bool false))])))) [(D.int .i64 0), (zeroD K25)]).bind fun r40 =>
(match (r40.2.getD 0 (.bool false)) with
| D.st l41 => (if decide (16 + 16 <= l41.length) then ((D.truth (D.bool (!(D.beq (D.st (List.take 16 (List.drop 16 l41))) (D.st (D.putParts (List.replicate 16 (D.int .u32 0)) [])))))).bind fun b42 =>
 if b42 then ((call 119 []).bind fun r43 =>
 some r43) else ((D.get a0 [1]).bind fun x44 =>
(D.get a1 [1]).bind fun x45 =>
(match (r40.2.getD 0 (.bool false)) with
| D.st l46 => (if decide (0 + 16 <= l46.length) then ((call 116 [(D.bool (!(D.beq x44 x45))), (D.st (List.take 16 (List.drop 0 l46)))]).bind fun r47 =>
 some r47) else none)
| _ => none))) else none)
| _ => none))
theorem E61 (lp : Lp) (call : Nat -> List D -> Option D) (a0 : D) (a1 : D) : evF (envOf lp call (inlP lp call)) Tryz.f61 A61 [K11, K11] K11 [a0, a1] = F61 lp call a0 a1 := by kernel_rfl
theorem L61 {lp : Lp} (hlp : LpOk lp) : leafOk 61 (fun call xs => match xs with | [a0, a1] => F61 lp call a0 a1 | _ => none) :=
 leaf2 hlp (by kernel_rfl) (by kernel_rfl) (by kernel_rfl) (fun call a0 a1 => E61 lp call a0 a1)
def A62 : Ann := (.two .leaf (.two .leaf (.two .leaf (.cut [(.normal, ⟨[(2, .same (.ptr K11 4098 [])), (3, .same (.ptr K11 4099 [])), (4, .same (.ptr K12 4100 [])), (5, .same (.ptr K11 12293 []))], [(4098, .keep K11 2), (4099, .keep K11 3), (4100, .keep K12 4), (12293, .one K11 (.dv K11))], []⟩)] [] [4098, 4099, 4100] .leaf (.two (.reg [] 7) .leaf)))))
noncomputable def F62 (lp : Lp) (call : Nat -> List D -> Option D) (a0 : D) (a1 : D) : Option D :=
(call 128 [a0]).bind fun r1 =>
(D.un .not r1).bind fun x2 =>
(D.truth x2).bind fun b3 =>
(if b3 then (some true) else ((call 128 [a1]).bind fun r4 =>
(D.un .not r4).bind fun x5 =>
 D.truth x5)).bind fun b6 =>
(D.truth (D.bool b6)).bind fun b7 =>
(if b7 then (some true) else ((call 129 [a1]).bind fun r8 =>
 D.truth (D.bool (D.beq r8 (D.int .i64 0))))).bind fun b9 =>
(D.truth (D.bool b9)).bind fun b10 =>
 if b10 then ((call 130 []).bind fun r11 =>
 some r11) else ((call 131 [a0, a1]).bind fun r12 =>
((call 129 [a1]).bind fun r13 =>
(D.bin .lss r13 (D.int .i64 0)).bind fun x14 =>
(D.truth x14).bind fun b15 =>
 if b15 then ((call 68 [r12]).bind fun r16 =>
 some (0, [r16])) else (some (0, [r12]))).bind fun (r17 : Nat × List D) =>
(call 132 [a0, (r17.2.getD 0 (.bool false))]).bind fun r18 =>
(call 132 [a1, (r17.2.getD 0 (.bool false))]).bind fun r19 =>
 some (D.st [r18, r19]))
theorem E62 (lp : Lp) (call : Nat -> List D -> Option D) (a0 : D) (a1 : D) : evF (envOf lp call (inlP lp call)) Tryz.f62 A62 [K11, K11] K12 [a0, a1] = F62 lp call a0 a1 := by kernel_rfl
theorem L62 {lp : Lp} (hlp : LpOk lp) : leafOk 62 (fun call xs => match xs with | [a0, a1] => F62 lp call a0 a1 | _ => none) :=
 leaf2 hlp (by kernel_rfl) (by kernel_rfl) (by kernel_rfl) (fun call a0 a1 => E62 lp call a0 a1)
def A68 : Ann := .leaf
noncomputable def F68 (lp : Lp) (call : Nat -> List D -> Option D) (a0 : D) : Option D :=
(call 118 [(D.sl [a0])]).bind fun r1 =>
(D.un .not r1).bind fun x2 =>
(D.truth x2).bind fun b3 =>
 if b3 then ((call 119 []).bind fun r4 =>
 some r4) else ((D.get a0 [1]).bind fun x5 =>
(D.un .not x5).bind fun x6 =>
(D.get a0 [2]).bind fun x7 =>
(call 116 [x6, x7]).bind fun r8 =>
 some r8)
theorem E68 (lp : Lp) (call : Nat -> List D -> Option D) (a0 : D) : evF (envOf lp call (inlP lp call)) Tryz.f68 A68 [K11] K11 [a0] = F68 lp call a0 := by kernel_rfl
theorem L68 {lp : Lp} (hlp : LpOk lp) : leafOk 68 (fun call xs => match xs with | [a0] => F68 lp call a0 | _ => none) :=
 leaf1 hlp (by kernel_rfl) (by kernel_rfl) (by kernel_rfl) (fun call a0 => E68 lp call a0)
def A71 : Ann := .leaf
noncomputable def F71 (lp : Lp) (call : Nat -> List D -> Option D) (a0 : D) : Option D :=
(D.get a0 [0, 0, 0]).bind fun x1 =>
(D.truth x1).bind fun b2 =>
(if b2 then (some true) else ((D.get a0 [1, 0, 0]).bind fun x3 =>
 D.truth x3)).bind fun b4 =>
(D.truth (D.bool b4)).bind fun b5 =>
(if b5 then (some true) else ((D.get a0 [2, 0, 0]).bind fun x6 =>
 D.truth x6)).bind fun b7 =>
 some (D.bool b7)
theorem E71 (lp : Lp) (call : Nat -> List D -> Option D) (a0 : D) : evF (envOf lp call (inlP lp call)) Tryz.f71 A71 [K13] Ty.bool [a0] = F71 lp call a0 := by kernel_rfl
theorem L71 {lp : Lp} (hlp : LpOk lp) : leafOk 71 (fun call xs => match xs with | [a0] => F71 lp call a0 | _ => none) :=
 leaf1 hlp (by kernel_rfl) (by kernel_rfl) (by kernel_rfl) (fun call a0 => E71 lp call a0)
def A72 : Ann := (.two .leaf (.two (.reg [] 4) .leaf))
noncomputable def F72 (lp : Lp) (call : Nat -> List D -> Option D) (a0 : D) (a1 : D) : Option D :=
(call 135 [a0]).bind fun r1 =>
(call 134 [r1, a1]).bind fun r2 =>
 some r2
theorem E72 (lp : Lp) (call : Nat -> List D -> Option D) (a0 : D) (a1 : D) : evF (envOf lp call (inlP lp call)) Tryz.f72 A72 [K1, K13] K12 [a0, a1] = F72 lp call a0 a1 := by kernel_rfl
theorem L72 {lp : Lp} (hlp : LpOk lp) : leafOk 72 (fun call xs => match xs with | [a0, a1] => F72 lp call a0 a1 | _ => none) :=
 leaf2 hlp (by kernel_rfl) (by kernel_rfl) (by kernel_rfl) (fun call a0 a1 => E72 lp call a0 a1)
def A73 : Ann := (.two .leaf (.two (.reg [] 5) (.two .leaf (.two .leaf (.two .leaf (.two (.two (.loop ⟨[(2, .same (.ptr K12 4098 [])), (3, .same (.ptr K12 4099 [])), (7, .dv (Ty.int .i64))], [(4098, .one K12 (.dv K12)), (4099, .one K12 (.dv K12))], []⟩ [(.exit 1, ⟨[(7, .dv (Ty.int .i64))], [], []⟩)] (.two (.two (.two (.reg [] 11) .leaf) (.two (.reg [] 16) (.two (.reg [] 7) .leaf))) .leaf)) .leaf) .leaf))))))
noncomputable def F73 (lp : Lp) (call : Nat -> List D -> Option D) (a0 : D) (a1 : D) : Option D :=
(call 136 [a0]).bind fun r1 =>
(call 136 [a1]).bind fun r2 =>
(D.un .not r1).bind fun x3 =>
(D.truth x3).bind fun b4 =>
(if b4 then ((D.un .not r2).bind fun x5 =>
 D.truth x5) else (some false)).bind fun b6 =>
(D.truth (D.bool b6)).bind fun b7 =>
 if b7 then (some (D.int .i64 0)) else ((D.un .not r1).bind fun x8 =>
(D.truth x8).bind fun b9 =>
 if b9 then (some (D.int .i64 (-1))) else ((D.un .not r2).bind fun x10 =>
(D.truth x10).bind fun b11 =>
 if b11 then (some (D.int .i64 1)) else ((lp (β := Nat × List D) (fun (v12 : List D) =>
(D.get (v12.getD 1 (.bool false)) [0]).bind fun x13 =>
(D.get (v12.getD 1 (.bool false)) [1]).bind fun x14 =>
(call 132 [x13, x14]).bind fun r15 =>
(D.get (v12.getD 2 (.bool false)) [0]).bind fun x16 =>
(D.get (v12.getD 2 (.bool false)) [1]).bind fun x17 =>
(call 132 [x16, x17]).bind fun r18 =>
(call 90 [r15, r18]).bind fun r19 =>
(D.truth (D.bool (!(D.beq r19 (D.int .i64 0))))).bind fun b20 =>
 if b20 then ((D.bin .mul (v12.getD 0 (.bool false)) r19).bind fun x21 =>
 some (Sum.inr (0, [x21]))) else ((D.get (v12.getD 1 (.bool false)) [1]).bind fun x22 =>
(D.get (v12.getD 1 (.bool false)) [0]).bind fun x23 =>
(D.get (v12.getD 1 (.bool false)) [1]).bind fun x24 =>
(call 137 [x23, x24]).bind fun r25 =>
(D.get (v12.getD 2 (.bool false)) [1]).bind fun x26 =>
(D.get (v12.getD 2 (.bool false)) [0]).bind fun x27 =>
(D.get (v12.getD 2 (.bool false)) [1]).bind fun x28 =>
(call 137 [x27, x28]).bind fun r29 =>
(call 129 [r25]).bind fun r30 =>
(call 129 [r29]).bind fun r31 =>
(D.truth (D.bool (D.beq r30 (D.int .i64 0)))).bind fun b32 =>
(if b32 then (some true) else (D.truth (D.bool (D.beq r31 (D.int .i64 0))))).bind fun b33 =>
(D.truth (D.bool b33)).bind fun b34 =>
 if b34 then ((D.bin .sub r30 r31).bind fun x35 =>
(D.bin .mul (v12.getD 0 (.bool false)) x35).bind fun x36 =>
 some (Sum.inr (0, [x36]))) else ((D.un .neg (v12.getD 0 (.bool false))).bind fun x37 =>
 some (Sum.inl [x37, (D.st [x22, r25]), (D.st [x26, r29])])))) [(D.int .i64 1), a0, a1]).bind fun r38 =>
 some (r38.2.getD 0 (.bool false)))))
theorem E73 (lp : Lp) (call : Nat -> List D -> Option D) (a0 : D) (a1 : D) : evF (envOf lp call (inlP lp call)) Tryz.f73 A73 [K12, K12] (Ty.int .i64) [a0, a1] = F73 lp call a0 a1 := by kernel_rfl
theorem L73 {lp : Lp} (hlp : LpOk lp) : leafOk 73 (fun call xs => match xs with | [a0, a1] => F73 lp call a0 a1 | _ => none) :=
 leaf2 hlp (by kernel_rfl) (by kernel_rfl) (by kernel_rfl) (fun call a0 a1 => E73 lp call a0 a1)
def A74 : Ann := .leaf
noncomputable def F74 (lp : Lp) (call : Nat -> List D -> Option D) (a0 : D) : Option D :=
(call 54 [a0]).bind fun r1 =>
(call 138 [r1]).bind fun r2 =>
 some r2
theorem E74 (lp : Lp) (call : Nat -> List D -> Option D) (a0 : D) : evF (envOf lp call (inlP lp call)) Tryz.f74 A74 [Ty.int .i64] K12 [a0] = F74 lp call a0 := by kernel_rfl
theorem L74 {lp : Lp} (hlp : LpOk lp) : leafOk 74 (fun call xs => match xs with | [a0] => F74 lp call a0 | _ => none) :=
 leaf1 hlp (by kernel_rfl) (by kernel_rfl) (by kernel_rfl) (fun call a0 => E74 lp call a0)
def A75 : Ann := .leaf
noncomputable def F75 (lp : Lp) (call : Nat -> List D -> Option D) (a0 : D) : Option D :=
(call 34 [a0]).bind fun r1 =>
(call 133 []).bind fun r2 =>
(call 37 [r1, r2]).bind fun r3 =>
 some r3
theorem E75 (lp : Lp) (call : Nat -> List D -> Option D) (a0 : D) : evF (envOf lp call (inlP lp call)) Tryz.f75 A75 [Ty.int .i64] K12 [a0] = F75 lp call a0 := by kernel_rfl
theorem L75 {lp : Lp} (hlp : LpOk lp) : leafOk 75 (fun call xs => match xs with | [a0] => F75 lp call a0 | _ => none) :=
 leaf1 hlp (by kernel_rfl) (by kernel_rfl) (by kernel_rfl) (fun call a0 => E75 lp call a0)
def A76 : Ann := .leaf
noncomputable def F76 (lp : Lp) (call : Nat -> List D -> Option D) (a0 : D) : Option D :=
(call 139 [a0]).bind fun r1 =>
(D.truth r1).bind fun b2 =>
(if b2 then ((D.get a0 [0]).bind fun x3 =>
(D.un .not x3).bind fun x4 =>
 D.truth x4) else (some false)).bind fun b5 =>
 some (D.bool b5)
theorem E76 (lp : Lp) (call : Nat -> List D -> Option D) (a0 : D) : evF (envOf lp call (inlP lp call)) Tryz.f76 A76 [K11] Ty.bool [a0] = F76 lp call a0 := by kernel_rfl
theorem L76 {lp : Lp} (hlp : LpOk lp) : leafOk 76 (fun call xs => match xs with | [a0] => F76 lp call a0 | _ => none) :=
 leaf1 hlp (by kernel_rfl) (by kernel_rfl) (by kernel_rfl) (fun call a0 => E76 lp call a0)
def A77 : Ann := (.two .leaf (.two .leaf (.two (.two .leaf (.two (.loop ⟨[(1, .same (.ptr K11 4097 [])), (3, .ow (Ty.int .i64)), (4, .dv (Ty.int .i64))], [(4097, .keep K11 1)], []⟩ [(.exit 0, ⟨[(3, .ow (Ty.int .i64))], [], []⟩)] (.two .leaf (.two (.two (.reg [] 14) .leaf) .leaf))) .leaf)) .leaf)))
noncomputable def F77 (lp : Lp) (call : Nat -> List D -> Option D) (a0 : D) : Option D :=
(lp (β := Nat × List D) (fun (v1 : List D) =>
(D.bin .lss (v1.getD 1 (.bool false)) (D.int .i64 16)).bind fun x2 =>
(D.truth x2).bind fun b3 =>
 if b3 then ((D.idx (v1.getD 1 (.bool false)) 16).bind fun i4 =>
(D.get a0 [2, i4]).bind fun x5 =>
(D.bin .rem x5 (D.int .u32 65536)).bind fun x6 =>
(D.conv .i64 x6).bind fun x7 =>
(D.idx (v1.getD 1 (.bool false)) 16).bind fun i8 =>
(D.get a0 [2, i8]).bind fun x9 =>
(D.bin .quo x9 (D.int .u32 65536)).bind fun x10 =>
(D.conv .i64 x10).bind fun x11 =>
 if List.length ((v1.getD 0 (.bool false)).els) + List.length [x7, x11] <= 1073741824 then ((D.bin .add (v1.getD 1 (.bool false)) (D.int .i64 1)).bind fun x12 =>
 some (Sum.inl [(D.sl (((v1.getD 0 (.bool false)).els) ++ [x7, x11])), x12])) else none) else (some (Sum.inr (0, [(D.sl ((v1.getD 0 (.bool false)).els))])))) [(D.sl []), (D.int .i64 0)]).bind fun r13 =>
(call 140 [(D.sl ((r13.2.getD 0 (.bool false)).els))]).bind fun r14 =>
 some r14
theorem E77 (lp : Lp) (call : Nat -> List D -> Option D) (a0 : D) : evF (envOf lp call (inlP lp call)) Tryz.f77 A77 [K11] K5 [a0] = F77 lp call a0 := by kernel_rfl
theorem L77 {lp : Lp} (hlp : LpOk lp) : leafOk 77 (fun call xs => match xs with | [a0] => F77 lp call a0 | _ => none) :=
 leaf1 hlp (by kernel_rfl) (by kernel_rfl) (by kernel_rfl) (fun call a0 => E77 lp call a0)
def A78 : Ann := (.two .leaf (.two (.two .leaf (.two (.loop ⟨[(5, .dv (Ty.int .i64))], [], [0, 1]⟩ [(.ret, ⟨[(4, .dv Ty.bool)], [], []⟩), (.exit 0, ⟨[], [], []⟩)] .leaf) .leaf)) .leaf))
noncomputable def F78 (lp : Lp) (call : Nat -> List D -> Option D) (a0 : D) (a1 : D) : Option D :=
(D.asSl a0).bind fun l1 =>
(D.asSl a1).bind fun l2 =>
(D.max2 (D.int .i64 (l1.length)) (D.int .i64 (l2.length))).bind fun x3 =>
(D.bin .sub x3 (D.int .i64 1)).bind fun x4 =>
(lp (β := Nat × List D) (fun (v5 : List D) =>
(D.bin .geq (v5.getD 0 (.bool false)) (D.int .i64 0)).bind fun x6 =>
(D.truth x6).bind fun b7 =>
 if b7 then ((call 141 [a0, (v5.getD 0 (.bool false))]).bind fun r8 =>
(call 141 [a1, (v5.getD 0 (.bool false))]).bind fun r9 =>
(D.truth (D.bool (!(D.beq r8 r9)))).bind fun b10 =>
 if b10 then ((call 141 [a0, (v5.getD 0 (.bool false))]).bind fun r11 =>
(call 141 [a1, (v5.getD 0 (.bool false))]).bind fun r12 =>
(D.bin .lss r11 r12).bind fun x13 =>
 some (Sum.inr (0, [x13]))) else ((D.bin .sub (v5.getD 0 (.bool false)) (D.int .i64 1)).bind fun x14 =>
 some (Sum.inl [x14]))) else (some (Sum.inr (1, [])))) [x4]).bind fun r15 =>
 if r15.1 = 0 then (some (r15.2.getD 0 (.bool false))) else (some (D.bool false))
theorem E78 (lp : Lp) (call : Nat -> List D -> Option D) (a0 : D) (a1 : D) : evF (envOf lp call (inlP lp call)) Tryz.f78 A78 [K5, K5] Ty.bool [a0, a1] = F78 lp call a0 a1 := by kernel_rfl
theorem L78 {lp : Lp} (hlp : LpOk lp) : leafOk 78 (fun call xs => match xs with | [a0, a1] => F78 lp call a0 a1 | _ => none) :=
 leaf2 hlp (by kernel_rfl) (by kernel_rfl) (by kernel_rfl) (fun call a0 a1 => E78 lp call a0 a1)
def A80 : Ann := (.two .leaf (.two (.reg [] 10) .leaf))
noncomputable def F80 (lp : Lp) (call : Nat -> List D -> Option D) (a0 : D) : Option D :=
(D.get a0 [0]).bind fun x1 =>
(call 34 [x1]).bind fun r2 =>
(D.get a0 [1]).bind fun x3 =>
(call 34 [x3]).bind fun r4 =>
(D.get a0 [2]).bind fun x5 =>
(call 34 [x5]).bind fun r6 =>
 some (D.st [r2, r4, r6])
theorem E80 (lp : Lp) (call : Nat -> List D -> Option D) (a0 : D) : evF (envOf lp call (inlP lp call)) Tryz.f80 A80 [K1] K23 [a0] = F80 lp call a0 := by kernel_rfl
theorem L80 {lp : Lp} (hlp : LpOk lp) : leafOk 80 (fun call xs => match xs with | [a0] => F80 lp call a0 | _ => none) :=
 leaf1 hlp (by kernel_rfl) (by kernel_rfl) (by kernel_rfl) (fun call a0 => E80 lp call a0)
def A81 : Ann := (.two .leaf (.two .leaf (.two .leaf (.two .leaf (.two (.two .leaf (.two (.loop ⟨[(4, .same (.ptr K11 4100 [])), (6, .same (.ptr K11 16390 [])), (7, .dv (Ty.int .i64))], [(4100, .keep K11 4), (16390, .one K11 (.dv K11))], [5]⟩ [(.exit 0, ⟨[(4, .same (.ptr K11 4100 [])), (6, .same (.ptr K11 16390 []))], [(4100, .keep K11 4), (16390, .one K11 (.dv K11))], []⟩)] (.two .leaf (.cut [(.normal, ⟨[(4, .same (.ptr K11 4100 [])), (6, .same (.ptr K11 16390 []))], [(4100, .keep K11 4), (16390, .one K11 (.dv K11))], [5, 7]⟩)] [5, 7] [4100] (.two (.two .leaf (.two (.reg [] 15) (.reg [] 16))) .leaf) .leaf))) .leaf)) .leaf)))))
noncomputable def F81 (lp : Lp) (call : Nat -> List D -> Option D) (a0 : D) (a1 : D) : Option D :=
(call 140 [a1]).bind fun r1 =>
(D.asSl r1).bind fun l2 =>
(D.bin .gtr (D.int .i64 (l2.length)) (D.int .i64 32)).bind fun x3 =>
(D.truth x3).bind fun b4 =>
 if b4 then ((call 125 []).bind fun r5 =>
 some r5) else ((D.truth a0).bind fun b6 =>
(if b6 then ((D.asSl r1).bind fun l7 =>
(D.bin .gtr (D.int .i64 (l7.length)) (D.int .i64 0)).bind fun x8 =>
 D.truth x8) else (some false)).bind fun b9 =>
(lp (β := Nat × List D) (fun (v10 : List D) =>
(D.asSl r1).bind fun l11 =>
(D.bin .lss (v10.getD 0 (.bool false)) (D.int .i64 (l11.length))).bind fun x12 =>
(D.truth x12).bind fun b13 =>
 if b13 then (((D.bin .rem (v10.getD 0 (.bool false)) (D.int .i64 2)).bind fun x14 =>
(D.truth (D.bool (D.beq x14 (D.int .i64 0)))).bind fun b15 =>
 if b15 then ((D.bin .quo (v10.getD 0 (.bool false)) (D.int .i64 2)).bind fun x16 =>
(D.bin .quo (v10.getD 0 (.bool false)) (D.int .i64 2)).bind fun x17 =>
(D.idx x17 16).bind fun i18 =>
(D.get (v10.getD 1 (.bool false)) [2, i18]).bind fun x19 =>
(D.asSl r1).bind fun l20 =>
(D.idx (v10.getD 0 (.bool false)) (l20.length)).bind fun i21 =>
(l20[i21]?).bind fun x22 =>
(D.conv .u32 x22).bind fun x23 =>
(D.bin .add x19 x23).bind fun x24 =>
(D.idx x16 16).bind fun i25 =>
(D.set (v10.getD 1 (.bool false)) [2, i25] x24).bind fun x26 =>
 some (0, [x26])) else ((D.bin .quo (v10.getD 0 (.bool false)) (D.int .i64 2)).bind fun x27 =>
(D.bin .quo (v10.getD 0 (.bool false)) (D.int .i64 2)).bind fun x28 =>
(D.idx x28 16).bind fun i29 =>
(D.get (v10.getD 1 (.bool false)) [2, i29]).bind fun x30 =>
(D.asSl r1).bind fun l31 =>
(D.idx (v10.getD 0 (.bool false)) (l31.length)).bind fun i32 =>
(l31[i32]?).bind fun x33 =>
(D.conv .u32 x33).bind fun x34 =>
(D.bin .mul x34 (D.int .u32 65536)).bind fun x35 =>
(D.bin .add x30 x35).bind fun x36 =>
(D.idx x27 16).bind fun i37 =>
(D.set (v10.getD 1 (.bool false)) [2, i37] x36).bind fun x38 =>
 some (0, [x38]))).bind fun (r39 : Nat × List D) =>
(D.bin .add (v10.getD 0 (.bool false)) (D.int .i64 1)).bind fun x40 =>
 some (Sum.inl [x40, (r39.2.getD 0 (.bool false))])) else (some (Sum.inr (0, [(v10.getD 1 (.bool false))])))) [(D.int .i64 0), (D.st [(D.bool false), (D.bool b9), (zeroD K10)])]).bind fun r41 =>
 some (r41.2.getD 0 (.bool false)))
theorem E81 (lp : Lp) (call : Nat -> List D -> Option D) (a0 : D) (a1 : D) : evF (envOf lp call (inlP lp call)) Tryz.f81 A81 [Ty.bool, K5] K11 [a0, a1] = F81 lp call a0 a1 := by kernel_rfl
theorem L81 {lp : Lp} (hlp : LpOk lp) : leafOk 81 (fun call xs => match xs with | [a0, a1] => F81 lp call a0 a1 | _ => none) :=
 leaf2 hlp (by kernel_rfl) (by kernel_rfl) (by kernel_rfl) (fun call a0 a1 => E81 lp call a0 a1)
def A82 : Ann := (.two .leaf (.two .leaf (.two .leaf (.two (.two .leaf (.two (.loop ⟨[(5, .ow (Ty.int .i64)), (6, .dv (Ty.int .i64)), (7, .dv (Ty.int .i64))], [], [0, 1]⟩ [(.exit 0, ⟨[(5, .ow (Ty.int .i64))], [], []⟩)] .leaf) .leaf)) .leaf))))
noncomputable def F82 (lp : Lp) (call : Nat -> List D -> Option D) (a0 : D) (a1 : D) : Option D :=
(lp (β := Nat × List D) (fun (v1 : List D) =>
(D.asSl a0).bind fun l2 =>
(D.asSl a1).bind fun l3 =>
(D.max2 (D.int .i64 (l2.length)) (D.int .i64 (l3.length))).bind fun x4 =>
(D.bin .add x4 (D.int .i64 1)).bind fun x5 =>
(D.bin .lss (v1.getD 2 (.bool false)) x5).bind fun x6 =>
(D.truth x6).bind fun b7 =>
 if b7 then ((call 141 [a0, (v1.getD 2 (.bool false))]).bind fun r8 =>
(call 141 [a1, (v1.getD 2 (.bool false))]).bind fun r9 =>
(D.bin .add r8 r9).bind fun x10 =>
(D.bin .add x10 (v1.getD 1 (.bool false))).bind fun x11 =>
(D.bin .rem x11 (D.int .i64 65536)).bind fun x12 =>
 if List.length ((v1.getD 0 (.bool false)).els) + List.length [x12] <= 1073741824 then ((D.bin .quo x11 (D.int .i64 65536)).bind fun x13 =>
(D.bin .add (v1.getD 2 (.bool false)) (D.int .i64 1)).bind fun x14 =>
 some (Sum.inl [(D.sl (((v1.getD 0 (.bool false)).els) ++ [x12])), x13, x14])) else none) else (some (Sum.inr (0, [(D.sl ((v1.getD 0 (.bool false)).els))])))) [(D.sl []), (D.int .i64 0), (D.int .i64 0)]).bind fun r15 =>
(call 140 [(D.sl ((r15.2.getD 0 (.bool false)).els))]).bind fun r16 =>
 some r16
theorem E82 (lp : Lp) (call : Nat -> List D -> Option D) (a0 : D) (a1 : D) : evF (envOf lp call (inlP lp call)) Tryz.f82 A82 [K5, K5] K5 [a0, a1] = F82 lp call a0 a1 := by kernel_rfl
theorem L82 {lp : Lp} (hlp : LpOk lp) : leafOk 82 (fun call xs => match xs with | [a0, a1] => F82 lp call a0 a1 | _ => none) :=
 leaf2 hlp (by kernel_rfl) (by kernel_rfl) (by kernel_rfl) (fun call a0 a1 => E82 lp call a0 a1)
def A83 : Ann := .leaf
noncomputable def F83 (lp : Lp) (call : Nat -> List D -> Option D) (a0 : D) : Option D :=
(call 76 [a0]).bind fun r1 =>
(D.un .not r1).bind fun x2 =>
(D.truth x2).bind fun b3 =>
(if b3 then (some true) else ((call 77 [a0]).bind fun r4 =>
(D.asSl r4).bind fun l5 =>
 D.truth (D.bool (D.beq (D.int .i64 (l5.length)) (D.int .i64 0))))).bind fun b6 =>
(D.truth (D.bool b6)).bind fun b7 =>
 if b7 then (some (D.int .i64 0)) else ((D.get a0 [1]).bind fun x8 =>
(D.truth x8).bind fun b9 =>
 if b9 then (some (D.int .i64 (-1))) else (some (D.int .i64 1)))
theorem E83 (lp : Lp) (call : Nat -> List D -> Option D) (a0 : D) : evF (envOf lp call (inlP lp call)) Tryz.f83 A83 [K11] (Ty.int .i64) [a0] = F83 lp call a0 := by kernel_rfl
theorem L83 {lp : Lp} (hlp : LpOk lp) : leafOk 83 (fun call xs => match xs with | [a0] => F83 lp call a0 | _ => none) :=
 leaf1 hlp (by kernel_rfl) (by kernel_rfl) (by kernel_rfl) (fun call a0 => E83 lp call a0)
def A84 : Ann := .leaf
noncomputable def F84 (lp : Lp) (call : Nat -> List D -> Option D)  : Option D :=
(call 125 []).bind fun r1 =>
(call 133 []).bind fun r2 =>
 some (D.st [r1, r2])
theorem E84 (lp : Lp) (call : Nat -> List D -> Option D)  : evF (envOf lp call (inlP lp call)) Tryz.f84 A84 [] K12 [] = F84 lp call  := by kernel_rfl
theorem L84 {lp : Lp} (hlp : LpOk lp) : leafOk 84 (fun call xs => match xs with | [] => F84 lp call  | _ => none) :=
 leaf0 hlp (by kernel_rfl) (by kernel_rfl) (by kernel_rfl) (fun call  => E84 lp call )
def A85 : Ann := (.two .leaf (.two .leaf (.two .leaf (.two (.two .leaf (.two (.two (.two (.loop ⟨[(4, .same (.ptr K11 4100 [])), (5, .dv (Ty.int .i64)), (7, .dv (Ty.int .i64))], [(4100, .keep K11 4)], []⟩ [(.exit 0, ⟨[(4, .same (.ptr K11 4100 [])), (5, .dv (Ty.int .i64))], [(4100, .keep K11 4)], []⟩)] .leaf) .leaf) .leaf) .leaf)) (.two .leaf (.two .leaf (.two .leaf (.two (.two (.loop ⟨[(4, .same (.ptr K11 4100 [])), (10, .dv K5), (11, .dv K5)], [(4100, .keep K11 4)], []⟩ [(.exit 2, ⟨[(4, .same (.ptr K11 4100 [])), (10, .dv K5)], [(4100, .keep K11 4)], []⟩)] .leaf) .leaf) .leaf))))))))
noncomputable def F85 (lp : Lp) (call : Nat -> List D -> Option D) (a0 : D) (a1 : D) : Option D :=
(call 124 [a0]).bind fun r1 =>
(D.tupAt r1 0).bind fun x2 =>
(D.tupAt r1 1).bind fun x3 =>
(call 124 [a1]).bind fun r4 =>
(D.tupAt r4 0).bind fun x5 =>
(D.tupAt r4 1).bind fun x6 =>
(D.truth x3).bind fun b7 =>
(if b7 then (D.truth x6) else (some false)).bind fun b8 =>
(D.truth (D.bool b8)).bind fun b9 =>
 if b9 then ((lp (β := Nat × List D) (fun (v10 : List D) =>
(D.truth (D.bool (!(D.beq (v10.getD 1 (.bool false)) (D.int .i64 0))))).bind fun b11 =>
 if b11 then ((D.bin .rem (v10.getD 0 (.bool false)) (v10.getD 1 (.bool false))).bind fun x12 =>
 some (Sum.inl [(v10.getD 1 (.bool false)), x12])) else (some (Sum.inr (0, [(v10.getD 0 (.bool false))])))) [x2, x5]).bind fun r13 =>
(call 34 [(r13.2.getD 0 (.bool false))]).bind fun r14 =>
(call 142 [r14]).bind fun r15 =>
 some r15) else ((call 76 [a0]).bind fun r16 =>
(D.un .not r16).bind fun x17 =>
(D.truth x17).bind fun b18 =>
(if b18 then (some true) else ((call 76 [a1]).bind fun r19 =>
(D.un .not r19).bind fun x20 =>
 D.truth x20)).bind fun b21 =>
(D.truth (D.bool b21)).bind fun b22 =>
 if b22 then ((call 125 []).bind fun r23 =>
 some r23) else ((call 77 [a0]).bind fun r24 =>
(call 77 [a1]).bind fun r25 =>
(lp (β := Nat × List D) (fun (v26 : List D) =>
(D.asSl (v26.getD 1 (.bool false))).bind fun l27 =>
(D.bin .gtr (D.int .i64 (l27.length)) (D.int .i64 0)).bind fun x28 =>
(D.truth x28).bind fun b29 =>
 if b29 then ((call 143 [(v26.getD 0 (.bool false)), (v26.getD 1 (.bool false))]).bind fun r30 =>
(D.tupAt r30 0).bind fun x31 =>
(D.tupAt r30 1).bind fun x32 =>
 some (Sum.inl [(v26.getD 1 (.bool false)), x32])) else (some (Sum.inr (0, [(v26.getD 0 (.bool false))])))) [r24, r25]).bind fun r33 =>
(call 81 [(D.bool false), (r33.2.getD 0 (.bool false))]).bind fun r34 =>
 some r34))
theorem E85 (lp : Lp) (call : Nat -> List D -> Option D) (a0 : D) (a1 : D) : evF (envOf lp call (inlP lp call)) Tryz.f85 A85 [K11, K11] K11 [a0, a1] = F85 lp call a0 a1 := by kernel_rfl
theorem L85 {lp : Lp} (hlp : LpOk lp) : leafOk 85 (fun call xs => match xs with | [a0, a1] => F85 lp call a0 a1 | _ => none) :=
 leaf2 hlp (by kernel_rfl) (by kernel_rfl) (by kernel_rfl) (fun call a0 a1 => E85 lp call a0 a1)
def A86 : Ann := (.two .leaf (.two .leaf (.two (.reg [] 6) .leaf)))
noncomputable def F86 (lp : Lp) (call : Nat -> List D -> Option D) (a0 : D) : Option D :=
(call 76 [a0]).bind fun r1 =>
(D.un .not r1).bind fun x2 =>
(D.truth x2).bind fun b3 =>
 if b3 then ((call 125 []).bind fun r4 =>
 some r4) else ((D.get a0 [1]).bind fun x5 =>
(D.un .not x5).bind fun x6 =>
(call 77 [a0]).bind fun r7 =>
(call 81 [x6, r7]).bind fun r8 =>
 some r8)
theorem E86 (lp : Lp) (call : Nat -> List D -> Option D) (a0 : D) : evF (envOf lp call (inlP lp call)) Tryz.f86 A86 [K11] K11 [a0] = F86 lp call a0 := by kernel_rfl
theorem L86 {lp : Lp} (hlp : LpOk lp) : leafOk 86 (fun call xs => match xs with | [a0] => F86 lp call a0 | _ => none) :=
 leaf1 hlp (by kernel_rfl) (by kernel_rfl) (by kernel_rfl) (fun call a0 => E86 lp call a0)
def A87 : Ann := (.two .leaf (.two .leaf (.two .leaf (.two .leaf (.two .leaf (.two (.reg [] 9) (.cut [(.normal, ⟨[(2, .same (.ptr K11 4098 [])), (3, .same (.ptr K11 4099 [])), (4, .same (.ptr K11 4100 [])), (9, .dv K5)], [(4098, .keep K11 2), (4099, .keep K11 3), (4100, .keep K11 4)], []⟩)] [] [4098, 4099, 4100] .leaf .leaf)))))))
noncomputable def F87 (lp : Lp) (call : Nat -> List D -> Option D) (a0 : D) (a1 : D) : Option D :=
(call 124 [a0]).bind fun r1 =>
(D.tupAt r1 0).bind fun x2 =>
(D.tupAt r1 1).bind fun x3 =>
(call 124 [a1]).bind fun r4 =>
(D.tupAt r4 0).bind fun x5 =>
(D.tupAt r4 1).bind fun x6 =>
(D.truth x3).bind fun b7 =>
(if b7 then (D.truth x6) else (some false)).bind fun b8 =>
(D.truth (D.bool b8)).bind fun b9 =>
(if b9 then (D.truth (D.bool (!(D.beq x5 (D.int .i64 0))))) else (some false)).bind fun b10 =>
(D.truth (D.bool b10)).bind fun b11 =>
 if b11 then ((call 144 [x2, x5]).bind fun r12 =>
(call 34 [r12]).bind fun r13 =>
 some r13) else ((call 76 [a0]).bind fun r14 =>
(D.un .not r14).bind fun x15 =>
(D.truth x15).bind fun b16 =>
(if b16 then (some true) else ((call 76 [a1]).bind fun r17 =>
(D.un .not r17).bind fun x18 =>
 D.truth x18)).bind fun b19 =>
(D.truth (D.bool b19)).bind fun b20 =>
(if b20 then (some true) else ((call 77 [a1]).bind fun r21 =>
(D.asSl r21).bind fun l22 =>
 D.truth (D.bool (D.beq (D.int .i64 (l22.length)) (D.int .i64 0))))).bind fun b23 =>
(D.truth (D.bool b23)).bind fun b24 =>
 if b24 then ((call 125 []).bind fun r25 =>
 some r25) else ((call 77 [a0]).bind fun r26 =>
(call 77 [a1]).bind fun r27 =>
(call 143 [r26, r27]).bind fun r28 =>
(D.tupAt r28 0).bind fun x29 =>
(D.tupAt r28 1).bind fun x30 =>
((D.get a0 [1]).bind fun x31 =>
(D.get a1 [1]).bind fun x32 =>
(D.truth (D.bool (!(D.beq x31 x32)))).bind fun b33 =>
(if b33 then ((D.asSl x30).bind fun l34 =>
(D.bin .gtr (D.int .i64 (l34.length)) (D.int .i64 0)).bind fun x35 =>
 D.truth x35) else (some false)).bind fun b36 =>
(D.truth (D.bool b36)).bind fun b37 =>
 if b37 then ((call 82 [x29, (D.sl [(D.int .i64 1)])]).bind fun r38 =>
 some (0, [r38])) else (some (0, [x29]))).bind fun (r39 : Nat × List D) =>
(D.get a0 [1]).bind fun x40 =>
(D.get a1 [1]).bind fun x41 =>
(call 81 [(D.bool (!(D.beq x40 x41))), (r39.2.getD 0 (.bool false))]).bind fun r42 =>
 some r42))
theorem E87 (lp : Lp) (call : Nat -> List D -> Option D) (a0 : D) (a1 : D) : evF (envOf lp call (inlP lp call)) Tryz.f87 A87 [K11, K11] K11 [a0, a1] = F87 lp call a0 a1 := by kernel_rfl
theorem L87 {lp : Lp} (hlp : LpOk lp) : leafOk 87 (fun call xs => match xs with | [a0, a1] => F87 lp call a0 a1 | _ => none) :=
 leaf2 hlp (by kernel_rfl) (by kernel_rfl) (by kernel_rfl) (fun call a0 a1 => E87 lp call a0 a1)
def A90 : Ann := (.two .leaf (.two (.reg [] 7) .leaf))
noncomputable def F90 (lp : Lp) (call : Nat -> List D -> Option D) (a0 : D) (a1 : D) : Option D :=
(call 118 [(D.sl [a0])]).bind fun r1 =>
(call 118 [(D.sl [a1])]).bind fun r2 =>
(D.un .not r1).bind fun x3 =>
(D.truth x3).bind fun b4 =>
(if b4 then ((D.un .not r2).bind fun x5 =>
 D.truth x5) else (some false)).bind fun b6 =>
(D.truth (D.bool b6)).bind fun b7 =>
 if b7 then (some (D.int .i64 0)) else ((D.un .not r1).bind fun x8 =>
(D.truth x8).bind fun b9 =>
 if b9 then (some (D.int .i64 (-1))) else ((D.un .not r2).bind fun x10 =>
(D.truth x10).bind fun b11 =>
 if b11 then (some (D.int .i64 1)) else ((D.get a0 [1]).bind fun x12 =>
(D.get a1 [1]).bind fun x13 =>
(D.truth (D.bool (!(D.beq x12 x13)))).bind fun b14 =>
 if b14 then ((D.get a0 [1]).bind fun x15 =>
(D.truth x15).bind fun b16 =>
 if b16 then (some (D.int .i64 (-1))) else (some (D.int .i64 1))) else ((D.get a0 [1]).bind fun x17 =>
(D.truth x17).bind fun b18 =>
 if b18 then ((D.get a1 [2]).bind fun x19 =>
(D.get a0 [2]).bind fun x20 =>
(call 121 [x19, x20]).bind fun r21 =>
 some r21) else ((D.get a0 [2]).bind fun x22 =>
(D.get a1 [2]).bind fun x23 =>
(call 121 [x22, x23]).bind fun r24 =>
 some r24)))))
theorem E90 (lp : Lp) (call : Nat -> List D -> Option D) (a0 : D) (a1 : D) : evF (envOf lp call (inlP lp call)) Tryz.f90 A90 [K11, K11] (Ty.int .i64) [a0, a1] = F90 lp call a0 a1 := by kernel_rfl
theorem L90 {lp : Lp} (hlp : LpOk lp) : leafOk 90 (fun call xs => match xs with | [a0, a1] => F90 lp call a0 a1 | _ => none) :=
 leaf2 hlp (by kernel_rfl) (by kernel_rfl) (by kernel_rfl) (fun call a0 a1 => E90 lp call a0 a1)
def A91 : Ann := (.two .leaf (.two (.reg [] 5) .leaf))
noncomputable def F91 (lp : Lp) (call : Nat -> List D -> Option D) (a0 : D) (a1 : D) : Option D :=
(call 148 [a0]).bind fun r1 =>
(call 148 [a1]).bind fun r2 =>
(call 147 [r1, r2]).bind fun r3 =>
 some r3
theorem E91 (lp : Lp) (call : Nat -> List D -> Option D) (a0 : D) (a1 : D) : evF (envOf lp call (inlP lp call)) Tryz.f91 A91 [K1, K1] K11 [a0, a1] = F91 lp call a0 a1 := by kernel_rfl
theorem L91 {lp : Lp} (hlp : LpOk lp) : leafOk 91 (fun call xs => match xs with | [a0, a1] => F91 lp call a0 a1 | _ => none) :=
 leaf2 hlp (by kernel_rfl) (by kernel_rfl) (by kernel_rfl) (fun call a0 a1 => E91 lp call a0 a1)
def A94 : Ann := (.two .leaf (.two (.reg [] 17) .leaf))
noncomputable def F94 (lp : Lp) (call : Nat -> List D -> Option D) (a0 : D) (a1 : D) : Option D :=
(D.get a0 [0]).bind fun x1 =>
(D.get a1 [0]).bind fun x2 =>
(call 53 [x1, x2]).bind fun r3 =>
(D.get a0 [1]).bind fun x4 =>
(D.get a1 [1]).bind fun x5 =>
(call 53 [x4, x5]).bind fun r6 =>
(D.get a0 [2]).bind fun x7 =>
(D.get a1 [2]).bind fun x8 =>
(call 53 [x7, x8]).bind fun r9 =>
(call 52 [(D.sl [r3, r6, r9])]).bind fun r10 =>
 some r10
theorem E94 (lp : Lp) (call : Nat -> List D -> Option D) (a0 : D) (a1 : D) : evF (envOf lp call (inlP lp call)) Tryz.f94 A94 [K1, K1] (Ty.int .i64) [a0, a1] = F94 lp call a0 a1 := by kernel_rfl
theorem L94 {lp : Lp} (hlp : LpOk lp) : leafOk 94 (fun call xs => match xs with | [a0, a1] => F94 lp call a0 a1 | _ => none) :=
 leaf2 hlp (by kernel_rfl) (by kernel_rfl) (by kernel_rfl) (fun call a0 a1 => E94 lp call a0 a1)
def A96 : Ann := (.two .leaf (.two (.reg [] 8) (.cut [(.normal, ⟨[(3, .same (.ptr K1 4099 [])), (6, .same (.ptr K17 4102 [])), (7, .same (.ptr K1 8199 []))], [(4099, .keep K1 3), (4102, .keep K17 6), (8199, .one K1 (.dv K1))], []⟩)] [] [4099, 4102] (.two (.reg [] 8) (.two .leaf (.two (.reg [] 13) .leaf))) (.two (.reg [] 5) .leaf))))
noncomputable def F96 (lp : Lp) (call : Nat -> List D -> Option D) (a0 : D) (a1 : D) (a2 : D) : Option D :=
(call 103 [a1, a0]).bind fun r1 =>
(call 103 [a2, a0]).bind fun r2 =>
(call 117 [r1, r2]).bind fun r3 =>
((D.get r3 [0]).bind fun x4 =>
(D.get r3 [1]).bind fun x5 =>
(call 152 [x4, x5]).bind fun r6 =>
(D.get r3 [2]).bind fun x7 =>
(call 152 [r6, x7]).bind fun r8 =>
(D.bin .gtr r8 (D.int .i64 1)).bind fun x9 =>
(D.truth x9).bind fun b10 =>
 if b10 then ((D.get r3 [0]).bind fun x11 =>
(D.bin .quo x11 r8).bind fun x12 =>
(D.get r3 [1]).bind fun x13 =>
(D.bin .quo x13 r8).bind fun x14 =>
(D.get r3 [2]).bind fun x15 =>
(D.bin .quo x15 r8).bind fun x16 =>
 some (0, [(D.st [x12, x14, x16])])) else (some (0, [r3]))).bind fun (r17 : Nat × List D) =>
(call 101 [(r17.2.getD 0 (.bool false)), a0]).bind fun r18 =>
 some (D.st [(r17.2.getD 0 (.bool false)), r18])
theorem E96 (lp : Lp) (call : Nat -> List D -> Option D) (a0 : D) (a1 : D) (a2 : D) : evF (envOf lp call (inlP lp call)) Tryz.f96 A96 [K1, K1, K1] K17 [a0, a1, a2] = F96 lp call a0 a1 a2 := by kernel_rfl
theorem L96 {lp : Lp} (hlp : LpOk lp) : leafOk 96 (fun call xs => match xs with | [a0, a1, a2] => F96 lp call a0 a1 a2 | _ => none) :=
 leaf3 hlp (by kernel_rfl) (by kernel_rfl) (by kernel_rfl) (fun call a0 a1 a2 => E96 lp call a0 a1 a2)
def A97 : Ann := .leaf
noncomputable def F97 (lp : Lp) (call : Nat -> List D -> Option D) (a0 : D) : Option D :=
(D.get a0 [0]).bind fun x1 =>
(D.un .neg x1).bind fun x2 =>
(D.get a0 [1]).bind fun x3 =>
(D.un .neg x3).bind fun x4 =>
(D.get a0 [2]).bind fun x5 =>
(D.un .neg x5).bind fun x6 =>
 some (D.st [x2, x4, x6])
theorem E97 (lp : Lp) (call : Nat -> List D -> Option D) (a0 : D) : evF (envOf lp call (inlP lp call)) Tryz.f97 A97 [K1] K1 [a0] = F97 lp call a0 := by kernel_rfl
theorem L97 {lp : Lp} (hlp : LpOk lp) : leafOk 97 (fun call xs => match xs with | [a0] => F97 lp call a0 | _ => none) :=
 leaf1 hlp (by kernel_rfl) (by kernel_rfl) (by kernel_rfl) (fun call a0 => E97 lp call a0)
def A98 : Ann := (.two .leaf (.two .leaf (.two (.two .leaf (.two (.loop ⟨[(3, .same (.ptr K17 4099 [])), (5, .dv Ty.bool), (11, .dv (Ty.int .i64))], [(4099, .keep K17 3)], [9, 10]⟩ [(.ret, ⟨[(4, .dv Ty.bool)], [], []⟩), (.exit 0, ⟨[(5, .dv Ty.bool)], [], []⟩)] .leaf) .leaf)) .leaf)))
noncomputable def F98 (lp : Lp) (call : Nat -> List D -> Option D) (a0 : D) (a1 : D) : Option D :=
(D.asSl a0).bind fun l1 =>
(lp (β := Nat × List D) (fun (v2 : List D) =>
(D.bin .lss (v2.getD 1 (.bool false)) (D.int .i64 (l1.length))).bind fun x3 =>
(D.truth x3).bind fun b4 =>
 if b4 then ((D.asSl a0).bind fun l5 =>
(D.idx (v2.getD 1 (.bool false)) (l5.length)).bind fun i6 =>
(l5[i6]?).bind fun x7 =>
(D.get a1 [0]).bind fun x8 =>
(call 101 [x8, x7]).bind fun r9 =>
(D.get a1 [1]).bind fun x10 =>
(D.bin .gtr r9 x10).bind fun x11 =>
(D.truth x11).bind fun b12 =>
 if b12 then (some (Sum.inr (0, [(D.bool false)]))) else ((D.truth (v2.getD 0 (.bool false))).bind fun b13 =>
(if b13 then ((D.get a1 [1]).bind fun x14 =>
 D.truth (D.bool (D.beq r9 x14))) else (some false)).bind fun b15 =>
(D.bin .add (v2.getD 1 (.bool false)) (D.int .i64 1)).bind fun x16 =>
 some (Sum.inl [(D.bool b15), x16]))) else (some (Sum.inr (1, [(v2.getD 0 (.bool false))])))) [(D.bool true), (D.int .i64 0)]).bind fun r17 =>
 if r17.1 = 0 then (some (r17.2.getD 0 (.bool false))) else ((D.un .not (r17.2.getD 0 (.bool false))).bind fun x18 =>
 some x18)
theorem E98 (lp : Lp) (call : Nat -> List D -> Option D) (a0 : D) (a1 : D) : evF (envOf lp call (inlP lp call)) Tryz.f98 A98 [K2, K17] Ty.bool [a0, a1] = F98 lp call a0 a1 := by kernel_rfl
theorem L98 {lp : Lp} (hlp : LpOk lp) : leafOk 98 (fun call xs => match xs with | [a0, a1] => F98 lp call a0 a1 | _ => none) :=
 leaf2 hlp (by kernel_rfl) (by kernel_rfl) (by kernel_rfl) (fun call a0 a1 => E98 lp call a0 a1)
def A100 : Ann := (.two .leaf (.two (.reg [] 23) .leaf))
noncomputable def F100 (lp : Lp) (call : Nat -> List D -> Option D) (a0 : D) (a1 : D) : Option D :=
(D.get a0 [0, 0]).bind fun x1 =>
(D.get a1 [0, 0]).bind fun x2 =>
(call 53 [x1, x2]).bind fun r3 =>
(D.get a0 [0, 1]).bind fun x4 =>
(D.get a1 [0, 1]).bind fun x5 =>
(call 53 [x4, x5]).bind fun r6 =>
(D.get a0 [0, 2]).bind fun x7 =>
(D.get a1 [0, 2]).bind fun x8 =>
(call 53 [x7, x8]).bind fun r9 =>
(call 52 [(D.sl [r3, r6, r9])]).bind fun r10 =>
 some r10
theorem E100 (lp : Lp) (call : Nat -> List D -> Option D) (a0 : D) (a1 : D) : evF (envOf lp call (inlP lp call)) Tryz.f100 A100 [K17, K17] (Ty.int .i64) [a0, a1] = F100 lp call a0 a1 := by kernel_rfl
theorem L100 {lp : Lp} (hlp : LpOk lp) : leafOk 100 (fun call xs => match xs with | [a0, a1] => F100 lp call a0 a1 | _ => none) :=
 leaf2 hlp (by kernel_rfl) (by kernel_rfl) (by kernel_rfl) (fun call a0 a1 => E100 lp call a0 a1)
def A101 : Ann := .leaf
noncomputable def F101 (lp : Lp) (call : Nat -> List D -> Option D) (a0 : D) (a1 : D) : Option D :=
(D.get a0 [0]).bind fun x1 =>
(D.get a1 [0]).bind fun x2 =>
(D.bin .mul x1 x2).bind fun x3 =>
(D.get a0 [1]).bind fun x4 =>
(D.get a1 [1]).bind fun x5 =>
(D.bin .mul x4 x5).bind fun x6 =>
(D.bin .add x3 x6).bind fun x7 =>
(D.get a0 [2]).bind fun x8 =>
(D.get a1 [2]).bind fun x9 =>
(D.bin .mul x8 x9).bind fun x10 =>
(D.bin .add x7 x10).bind fun x11 =>
 some x11
theorem E101 (lp : Lp) (call : Nat -> List D -> Option D) (a0 : D) (a1 : D) : evF (envOf lp call (inlP lp call)) Tryz.f101 A101 [K1, K1] (Ty.int .i64) [a0, a1] = F101 lp call a0 a1 := by kernel_rfl
theorem L101 {lp : Lp} (hlp : LpOk lp) : leafOk 101 (fun call xs => match xs with | [a0, a1] => F101 lp call a0 a1 | _ => none) :=
 leaf2 hlp (by kernel_rfl) (by kernel_rfl) (by kernel_rfl) (fun call a0 a1 => E101 lp call a0 a1)
def A103 : Ann := (.two .leaf (.two (.reg [] 4) .leaf))
noncomputable def F103 (lp : Lp) (call : Nat -> List D -> Option D) (a0 : D) (a1 : D) : Option D :=
(call 97 [a1]).bind fun r1 =>
(call 154 [a0, r1]).bind fun r2 =>
 some r2
theorem E103 (lp : Lp) (call : Nat -> List D -> Option D) (a0 : D) (a1 : D) : evF (envOf lp call (inlP lp call)) Tryz.f103 A103 [K1, K1] K1 [a0, a1] = F103 lp call a0 a1 := by kernel_rfl
theorem L103 {lp : Lp} (hlp : LpOk lp) : leafOk 103 (fun call xs => match xs with | [a0, a1] => F103 lp call a0 a1 | _ => none) :=
 leaf2 hlp (by kernel_rfl) (by kernel_rfl) (by kernel_rfl) (fun call a0 a1 => E103 lp call a0 a1)
def A104 : Ann := (.two .leaf (.two .leaf (.two (.two .leaf (.two (.loop ⟨[(7, .same (.ptr K1 8199 [])), (14, .dv (Ty.int .i64))], [(8199, .keep K1 7)], [13]⟩ [(.ret, ⟨[(6, .dv (Ty.int .i64))], [], []⟩), (.exit 0, ⟨[], [], []⟩)] .leaf) .leaf)) .leaf)))
noncomputable def F104 (lp : Lp) (call : Nat -> List D -> Option D) (a0 : D) (a1 : D) (a2 : D) : Option D :=
(call 117 [a1, a2]).bind fun r1 =>
(lp (β := Nat × List D) (fun (v2 : List D) =>
(D.bin .lss (v2.getD 0 (.bool false)) (D.int .i64 3)).bind fun x3 =>
(D.truth x3).bind fun b4 =>
 if b4 then ((D.idx (v2.getD 0 (.bool false)) 3).bind fun i5 =>
(D.fld a0 i5).bind fun x6 =>
(D.truth (D.bool (!(D.beq x6 (D.int .i64 0))))).bind fun b7 =>
 if b7 then ((D.idx (v2.getD 0 (.bool false)) 3).bind fun i8 =>
(D.get r1 [i8]).bind fun x9 =>
(call 53 [x9, (D.int .i64 0)]).bind fun r10 =>
(call 53 [x6, (D.int .i64 0)]).bind fun r11 =>
(D.bin .mul r10 r11).bind fun x12 =>
 some (Sum.inr (0, [x12]))) else ((D.bin .add (v2.getD 0 (.bool false)) (D.int .i64 1)).bind fun x13 =>
 some (Sum.inl [x13]))) else (some (Sum.inr (1, [])))) [(D.int .i64 0)]).bind fun r14 =>
 if r14.1 = 0 then (some (r14.2.getD 0 (.bool false))) else (some (D.int .i64 0))
theorem E104 (lp : Lp) (call : Nat -> List D -> Option D) (a0 : D) (a1 : D) (a2 : D) : evF (envOf lp call (inlP lp call)) Tryz.f104 A104 [K1, K1, K1] (Ty.int .i64) [a0, a1, a2] = F104 lp call a0 a1 a2 := by kernel_rfl
theorem L104 {lp : Lp} (hlp : LpOk lp) : leafOk 104 (fun call xs => match xs with | [a0, a1, a2] => F104 lp call a0 a1 a2 | _ => none) :=
 leaf3 hlp (by kernel_rfl) (by kernel_rfl) (by kernel_rfl) (fun call a0 a1 a2 => E104 lp call a0 a1 a2)
def A105 : Ann := .leaf
noncomputable def F105 (lp : Lp) (call : Nat -> List D -> Option D) (a0 : D) (a1 : D) : Option D :=
(D.get a0 [0]).bind fun x1 =>
(D.get a1 [0]).bind fun x2 =>
(D.truth (D.bool (!(D.beq x1 x2)))).bind fun b3 =>
 if b3 then ((D.get a0 [0]).bind fun x4 =>
(D.get a1 [0]).bind fun x5 =>
(D.bin .lss x4 x5).bind fun x6 =>
 some x6) else ((D.get a0 [1]).bind fun x7 =>
(D.get a1 [1]).bind fun x8 =>
(D.truth (D.bool (!(D.beq x7 x8)))).bind fun b9 =>
 if b9 then ((D.get a0 [1]).bind fun x10 =>
(D.get a1 [1]).bind fun x11 =>
(D.bin .lss x10 x11).bind fun x12 =>
 some x12) else ((D.get a0 [2]).bind fun x13 =>
(D.get a1 [2]).bind fun x14 =>
(D.bin .lss x13 x14).bind fun x15 =>
 some x15))
theorem E105 (lp : Lp) (call : Nat -> List D -> Option D) (a0 : D) (a1 : D) : evF (envOf lp call (inlP lp call)) Tryz.f105 A105 [K1, K1] Ty.bool [a0, a1] = F105 lp call a0 a1 := by kernel_rfl
theorem L105 {lp : Lp} (hlp : LpOk lp) : leafOk 105 (fun call xs => match xs with | [a0, a1] => F105 lp call a0 a1 | _ => none) :=
 leaf2 hlp (by kernel_rfl) (by kernel_rfl) (by kernel_rfl) (fun call a0 a1 => E105 lp call a0 a1)
def A106 : Ann := (.two .leaf (.two (.reg [] 8) .leaf))
noncomputable def F106 (lp : Lp) (call : Nat -> List D -> Option D) (a0 : D) (a1 : D) (a2 : D) : Option D :=
(call 112 [a1, a0]).bind fun r1 =>
(call 112 [a2, a0]).bind fun r2 =>
(call 123 [r1, r2]).bind fun r3 =>
(call 80 [r3]).bind fun r4 =>
(call 155 [r4]).bind fun r5 =>
(D.get r5 [0]).bind fun x6 =>
 some x6
theorem E106 (lp : Lp) (call : Nat -> List D -> Option D) (a0 : D) (a1 : D) (a2 : D) : evF (envOf lp call (inlP lp call)) Tryz.f106 A106 [K1, K1, K1] K1 [a0, a1, a2] = F106 lp call a0 a1 a2 := by kernel_rfl
theorem L106 {lp : Lp} (hlp : LpOk lp) : leafOk 106 (fun call xs => match xs with | [a0, a1, a2] => F106 lp call a0 a1 a2 | _ => none) :=
 leaf3 hlp (by kernel_rfl) (by kernel_rfl) (by kernel_rfl) (fun call a0 a1 a2 => E106 lp call a0 a1 a2)
end Go.Proofs.YtjjjkojfijpeeaaGreat.Sy
end
section
set_option maxRecDepth 20000
set_option maxHeartbeats 0
set_option linter.unusedVariables false
namespace Go.Proofs.YtjjjkojfijpeeaaGreat.Sy
open Go Go.Proofs
def A107 : Ann := .leaf
noncomputable def F107 (lp : Lp) (call : Nat -> List D -> Option D) (a0 : D) (a1 : D) : Option D :=
(D.get a0 [0]).bind fun x1 =>
(D.get a1 [0]).bind fun x2 =>
(D.bin .mul x1 x2).bind fun x3 =>
(D.get a0 [1]).bind fun x4 =>
(D.get a1 [1]).bind fun x5 =>
(D.bin .mul x4 x5).bind fun x6 =>
(D.bin .add x3 x6).bind fun x7 =>
(D.get a0 [2]).bind fun x8 =>
(D.get a1 [2]).bind fun x9 =>
(D.bin .mul x8 x9).bind fun x10 =>
(D.bin .add x7 x10).bind fun x11 =>
 some x11
theorem E107 (lp : Lp) (call : Nat -> List D -> Option D) (a0 : D) (a1 : D) : evF (envOf lp call (inlP lp call)) Tryz.f107 A107 [K1, K1] (Ty.int .i64) [a0, a1] = F107 lp call a0 a1 := by kernel_rfl
theorem L107 {lp : Lp} (hlp : LpOk lp) : leafOk 107 (fun call xs => match xs with | [a0, a1] => F107 lp call a0 a1 | _ => none) :=
 leaf2 hlp (by kernel_rfl) (by kernel_rfl) (by kernel_rfl) (fun call a0 a1 => E107 lp call a0 a1)
def A108 : Ann := (.two .leaf (.two (.two .leaf (.two (.loop ⟨[(3, .same (.ptr K1 4099 [])), (5, .dv (Ty.int .i64))], [(4099, .keep K1 3)], [0]⟩ [(.ret, ⟨[(4, .dv Ty.bool)], [], []⟩), (.exit 0, ⟨[], [], []⟩)] (.two .leaf (.two (.two (.two (.reg [] 6) .leaf) .leaf) .leaf))) .leaf)) .leaf))
noncomputable def F108 (lp : Lp) (call : Nat -> List D -> Option D) (a0 : D) (a1 : D) : Option D :=
(lp (β := Nat × List D) (fun (v1 : List D) =>
(D.asSl a0).bind fun l2 =>
(D.bin .lss (v1.getD 0 (.bool false)) (D.int .i64 (l2.length))).bind fun x3 =>
(D.truth x3).bind fun b4 =>
 if b4 then ((D.asSl a0).bind fun l5 =>
(D.idx (v1.getD 0 (.bool false)) (l5.length)).bind fun i6 =>
(l5[i6]?).bind fun x7 =>
(D.fld x7 0).bind fun x8 =>
(D.truth (D.bool (D.beq x8 a1))).bind fun b9 =>
 if b9 then (some (Sum.inr (0, [(D.bool true)]))) else ((D.bin .add (v1.getD 0 (.bool false)) (D.int .i64 1)).bind fun x10 =>
 some (Sum.inl [x10]))) else (some (Sum.inr (1, [])))) [(D.int .i64 0)]).bind fun r11 =>
 if r11.1 = 0 then (some (r11.2.getD 0 (.bool false))) else (some (D.bool false))
theorem E108 (lp : Lp) (call : Nat -> List D -> Option D) (a0 : D) (a1 : D) : evF (envOf lp call (inlP lp call)) Tryz.f108 A108 [K7, K1] Ty.bool [a0, a1] = F108 lp call a0 a1 := by kernel_rfl
theorem L108 {lp : Lp} (hlp : LpOk lp) : leafOk 108 (fun call xs => match xs with | [a0, a1] => F108 lp call a0 a1 | _ => none) :=
 leaf2 hlp (by kernel_rfl) (by kernel_rfl) (by kernel_rfl) (fun call a0 a1 => E108 lp call a0 a1)
def A109 : Ann := (.two .leaf (.two .leaf (.two (.two .leaf (.two (.loop ⟨[(4, .same (.ptr K1 4100 [])), (7, .dv Ty.bool), (8, .dv (Ty.int .i64))], [(4100, .keep K1 4)], [0, 2]⟩ [(.ret, ⟨[(6, .dv Ty.bool)], [], []⟩), (.exit 0, ⟨[(7, .dv Ty.bool)], [], []⟩)] (.two .leaf (.two (.two (.two (.reg [] 6) .leaf) .leaf) .leaf))) .leaf)) .leaf)))
noncomputable def F109 (lp : Lp) (call : Nat -> List D -> Option D) (a0 : D) (a1 : D) (a2 : D) : Option D :=
(lp (β := Nat × List D) (fun (v1 : List D) =>
(D.asSl a0).bind fun l2 =>
(D.bin .lss (v1.getD 1 (.bool false)) (D.int .i64 (l2.length))).bind fun x3 =>
(D.truth x3).bind fun b4 =>
 if b4 then ((D.asSl a0).bind fun l5 =>
(D.idx (v1.getD 1 (.bool false)) (l5.length)).bind fun i6 =>
(l5[i6]?).bind fun x7 =>
(call 107 [a1, x7]).bind fun r8 =>
(D.bin .gtr r8 a2).bind fun x9 =>
(D.truth x9).bind fun b10 =>
 if b10 then (some (Sum.inr (0, [(D.bool false)]))) else ((D.truth (v1.getD 0 (.bool false))).bind fun b11 =>
(if b11 then (some true) else ((D.bin .lss r8 a2).bind fun x12 =>
 D.truth x12)).bind fun b13 =>
(D.bin .add (v1.getD 1 (.bool false)) (D.int .i64 1)).bind fun x14 =>
 some (Sum.inl [(D.bool b13), x14]))) else (some (Sum.inr (1, [(v1.getD 0 (.bool false))])))) [(D.bool false), (D.int .i64 0)]).bind fun r15 =>
 if r15.1 = 0 then (some (r15.2.getD 0 (.bool false))) else (some (r15.2.getD 0 (.bool false)))
theorem E109 (lp : Lp) (call : Nat -> List D -> Option D) (a0 : D) (a1 : D) (a2 : D) : evF (envOf lp call (inlP lp call)) Tryz.f109 A109 [K2, K1, Ty.int .i64] Ty.bool [a0, a1, a2] = F109 lp call a0 a1 a2 := by kernel_rfl
theorem L109 {lp : Lp} (hlp : LpOk lp) : leafOk 109 (fun call xs => match xs with | [a0, a1, a2] => F109 lp call a0 a1 a2 | _ => none) :=
 leaf3 hlp (by kernel_rfl) (by kernel_rfl) (by kernel_rfl) (fun call a0 a1 a2 => E109 lp call a0 a1 a2)
def A110 : Ann := (.two .leaf (.two .leaf (.two .leaf (.two (.two .leaf (.two (.loop ⟨[(3, .same (.ptr K6 4099 [])), (5, .ow K6), (6, .dv Ty.bool), (7, .dv (Ty.int .i64))], [(4099, .keep K6 3)], [0]⟩ [(.exit 0, ⟨[(3, .same (.ptr K6 4099 [])), (5, .ow K6), (6, .dv Ty.bool)], [(4099, .keep K6 3)], []⟩)] (.two .leaf (.two (.two (.two (.reg [] 8) (.cut [(.normal, ⟨[(3, .same (.ptr K6 4099 [])), (5, .ow K6), (6, .dv Ty.bool)], [(4099, .keep K6 3)], [0, 7]⟩)] [0, 7] [4099] .leaf .leaf)) .leaf) .leaf))) .leaf)) (.cut [(.normal, ⟨[(5, .ow K6)], [], []⟩)] [] [] .leaf .leaf)))))
noncomputable def F110 (lp : Lp) (call : Nat -> List D -> Option D) (a0 : D) (a1 : D) : Option D :=
(lp (β := Nat × List D) (fun (v1 : List D) =>
(D.asSl a0).bind fun l2 =>
(D.bin .lss (v1.getD 2 (.bool false)) (D.int .i64 (l2.length))).bind fun x3 =>
(D.truth x3).bind fun b4 =>
 if b4 then ((D.get a1 [0]).bind fun x5 =>
(D.asSl a0).bind fun l6 =>
(D.idx (v1.getD 2 (.bool false)) (l6.length)).bind fun i7 =>
(l6[i7]?).bind fun x8 =>
(D.fld x8 0).bind fun x9 =>
(call 105 [x5, x9]).bind fun r10 =>
((D.un .not (v1.getD 1 (.bool false))).bind fun x11 =>
(D.truth x11).bind fun b12 =>
(if b12 then (D.truth r10) else (some false)).bind fun b13 =>
(D.truth (D.bool b13)).bind fun b14 =>
 if b14 then (if List.length ((v1.getD 0 (.bool false)).els) + List.length [a1] <= 1073741824 then (some (0, [(D.sl (((v1.getD 0 (.bool false)).els) ++ [a1])), (D.bool true)])) else none) else (some (0, [(D.sl ((v1.getD 0 (.bool false)).els)), (v1.getD 1 (.bool false))]))).bind fun (r15 : Nat × List D) =>
(D.asSl a0).bind fun l16 =>
(D.idx (v1.getD 2 (.bool false)) (l16.length)).bind fun i17 =>
(l16[i17]?).bind fun x18 =>
 if List.length ((r15.2.getD 0 (.bool false)).els) + List.length [x18] <= 1073741824 then ((D.bin .add (v1.getD 2 (.bool false)) (D.int .i64 1)).bind fun x19 =>
 some (Sum.inl [(D.sl (((r15.2.getD 0 (.bool false)).els) ++ [x18])), (r15.2.getD 1 (.bool false)), x19])) else none) else (some (Sum.inr (0, [(D.sl ((v1.getD 0 (.bool false)).els)), (v1.getD 1 (.bool false))])))) [(D.sl []), (D.bool false), (D.int .i64 0)]).bind fun r20 =>
((D.un .not (r20.2.getD 1 (.bool false))).bind fun x21 =>
(D.truth x21).bind fun b22 =>
 if b22 then (if List.length ((r20.2.getD 0 (.bool false)).els) + List.length [a1] <= 1073741824 then (some (0, [(D.sl (((r20.2.getD 0 (.bool false)).els) ++ [a1]))])) else none) else (some (0, [(D.sl ((r20.2.getD 0 (.bool false)).els))]))).bind fun (r23 : Nat × List D) =>
 some (D.sl ((r23.2.getD 0 (.bool false)).els))
theorem E110 (lp : Lp) (call : Nat -> List D -> Option D) (a0 : D) (a1 : D) : evF (envOf lp call (inlP lp call)) Tryz.f110 A110 [K7, K6] K7 [a0, a1] = F110 lp call a0 a1 := by kernel_rfl
theorem L110 {lp : Lp} (hlp : LpOk lp) : leafOk 110 (fun call xs => match xs with | [a0, a1] => F110 lp call a0 a1 | _ => none) :=
 leaf2 hlp (by kernel_rfl) (by kernel_rfl) (by kernel_rfl) (fun call a0 a1 => E110 lp call a0 a1)
def A111 : Ann := (.two .leaf (.two .leaf (.two .leaf (.two (.two .leaf (.two (.loop ⟨[(4, .same (.ptr K1 4100 [])), (7, .ow (Ty.int .i64)), (8, .dv (Ty.int .i64)), (9, .dv (Ty.int .i64))], [(4100, .keep K1 4)], [0, 2]⟩ [(.exit 0, ⟨[(4, .same (.ptr K1 4100 [])), (7, .ow (Ty.int .i64)), (8, .dv (Ty.int .i64))], [(4100, .keep K1 4)], [0, 2]⟩)] (.two .leaf (.cut [(.normal, ⟨[(4, .same (.ptr K1 4100 [])), (7, .ow (Ty.int .i64)), (8, .dv (Ty.int .i64))], [(4100, .keep K1 4)], [0, 2, 9]⟩)] [0, 2, 9] [4100] (.two (.two (.reg [] 7) .leaf) .leaf) .leaf))) .leaf)) (.two .leaf (.two (.two (.loop ⟨[(4, .same (.ptr K1 4100 [])), (7, .ow (Ty.int .i64)), (8, .dv (Ty.int .i64))], [(4100, .keep K1 4)], [0, 2, 10]⟩ [(.exit 2, ⟨[(7, .ow (Ty.int .i64))], [], []⟩)] (.two .leaf (.two (.two .leaf (.two .leaf (.two (.two .leaf (.two (.loop ⟨[(4, .same (.ptr K1 4100 [])), (7, .ow (Ty.int .i64)), (11, .dv (Ty.int .i64)), (12, .dv (Ty.int .i64))], [(4100, .keep K1 4)], [0, 2, 8, 10]⟩ [(.exit 4, ⟨[(4, .same (.ptr K1 4100 [])), (7, .ow (Ty.int .i64)), (11, .dv (Ty.int .i64))], [(4100, .keep K1 4)], [0, 2, 10]⟩)] (.two .leaf (.cut [(.normal, ⟨[(4, .same (.ptr K1 4100 [])), (7, .ow (Ty.int .i64)), (11, .dv (Ty.int .i64))], [(4100, .keep K1 4)], [0, 2, 8, 10, 12]⟩)] [0, 2, 8, 10, 12] [4100] (.two (.two .leaf (.two (.two (.reg [] 12) .leaf) .leaf)) .leaf) .leaf))) .leaf)) .leaf))) .leaf))) .leaf) .leaf))))))
noncomputable def F111 (lp : Lp) (call : Nat -> List D -> Option D) (a0 : D) (a1 : D) (a2 : D) : Option D :=
(lp (β := Nat × List D) (fun (v1 : List D) =>
(D.asSl a0).bind fun l2 =>
(D.bin .lss (v1.getD 2 (.bool false)) (D.int .i64 (l2.length))).bind fun x3 =>
(D.truth x3).bind fun b4 =>
(if b4 then ((D.bin .lss (v1.getD 1 (.bool false)) (D.int .i64 0)).bind fun x5 =>
 D.truth x5) else (some false)).bind fun b6 =>
(D.truth (D.bool b6)).bind fun b7 =>
 if b7 then (((D.asSl a0).bind fun l8 =>
(D.idx (v1.getD 2 (.bool false)) (l8.length)).bind fun i9 =>
(l8[i9]?).bind fun x10 =>
(call 107 [a1, x10]).bind fun r11 =>
(D.truth (D.bool (D.beq r11 a2))).bind fun b12 =>
 if b12 then (some (0, [(D.sl ((v1.getD 0 (.bool false)).els)), (v1.getD 2 (.bool false))])) else (some (0, [(D.sl ((v1.getD 0 (.bool false)).els)), (v1.getD 1 (.bool false))]))).bind fun (r13 : Nat × List D) =>
(D.bin .add (v1.getD 2 (.bool false)) (D.int .i64 1)).bind fun x14 =>
 some (Sum.inl [(D.sl ((r13.2.getD 0 (.bool false)).els)), (r13.2.getD 1 (.bool false)), x14])) else (some (Sum.inr (0, [(D.sl ((v1.getD 0 (.bool false)).els)), (v1.getD 1 (.bool false))])))) [(D.sl []), (D.int .i64 (-1)), (D.int .i64 0)]).bind fun r15 =>
(lp (β := Nat × List D) (fun (v16 : List D) =>
(D.asSl a0).bind fun l17 =>
(D.bin .leq (D.int .i64 (List.length ((v16.getD 0 (.bool false)).els))) (D.int .i64 (l17.length))).bind fun x18 =>
(D.truth x18).bind fun b19 =>
 if b19 then (if List.length ((v16.getD 0 (.bool false)).els) + List.length [(v16.getD 1 (.bool false))] <= 1073741824 then ((lp (β := Nat × List D) (fun (v20 : List D) =>
(D.asSl a0).bind fun l21 =>
(D.bin .lss (v20.getD 2 (.bool false)) (D.int .i64 (l21.length))).bind fun x22 =>
(D.truth x22).bind fun b23 =>
(if b23 then ((D.bin .lss (v20.getD 1 (.bool false)) (D.int .i64 0)).bind fun x24 =>
 D.truth x24) else (some false)).bind fun b25 =>
(D.truth (D.bool b25)).bind fun b26 =>
 if b26 then (((D.truth (D.bool (!(D.beq (v20.getD 2 (.bool false)) (v16.getD 1 (.bool false)))))).bind fun b27 =>
(if b27 then ((D.asSl a0).bind fun l28 =>
(D.idx (v20.getD 2 (.bool false)) (l28.length)).bind fun i29 =>
(l28[i29]?).bind fun x30 =>
(call 107 [a1, x30]).bind fun r31 =>
 D.truth (D.bool (D.beq r31 a2))) else (some false)).bind fun b32 =>
(D.truth (D.bool b32)).bind fun b33 =>
 if b33 then ((D.asSl a0).bind fun l34 =>
(D.idx (v16.getD 1 (.bool false)) (l34.length)).bind fun i35 =>
(l34[i35]?).bind fun x36 =>
(D.asSl a0).bind fun l37 =>
(D.idx (v20.getD 2 (.bool false)) (l37.length)).bind fun i38 =>
(l37[i38]?).bind fun x39 =>
(call 156 [a0, a1, a2, x36, x39]).bind fun r40 =>
(D.truth r40).bind fun b41 =>
 if b41 then (some (0, [(D.sl ((v20.getD 0 (.bool false)).els)), (v20.getD 2 (.bool false))])) else (some (0, [(D.sl ((v20.getD 0 (.bool false)).els)), (v20.getD 1 (.bool false))]))) else (some (0, [(D.sl ((v20.getD 0 (.bool false)).els)), (v20.getD 1 (.bool false))]))).bind fun (r42 : Nat × List D) =>
(D.bin .add (v20.getD 2 (.bool false)) (D.int .i64 1)).bind fun x43 =>
 some (Sum.inl [(D.sl ((r42.2.getD 0 (.bool false)).els)), (r42.2.getD 1 (.bool false)), x43])) else (some (Sum.inr (0, [(D.sl ((v20.getD 0 (.bool false)).els)), (v20.getD 1 (.bool false))])))) [(D.sl (((v16.getD 0 (.bool false)).els) ++ [(v16.getD 1 (.bool false))])), (D.int .i64 (-1)), (D.int .i64 0)]).bind fun r44 =>
(D.truth (D.bool (D.beq (r44.2.getD 1 (.bool false)) (r15.2.getD 1 (.bool false))))).bind fun b45 =>
(if b45 then (some true) else ((D.bin .lss (r44.2.getD 1 (.bool false)) (D.int .i64 0)).bind fun x46 =>
 D.truth x46)).bind fun b47 =>
(D.truth (D.bool b47)).bind fun b48 =>
 if b48 then (some (Sum.inr (0, [(D.sl ((r44.2.getD 0 (.bool false)).els))]))) else (some (Sum.inl [(D.sl ((r44.2.getD 0 (.bool false)).els)), (r44.2.getD 1 (.bool false))]))) else none) else (some (Sum.inr (0, [(D.sl ((v16.getD 0 (.bool false)).els))])))) [(D.sl ((r15.2.getD 0 (.bool false)).els)), (r15.2.getD 1 (.bool false))]).bind fun r49 =>
 some (D.sl ((r49.2.getD 0 (.bool false)).els))
theorem E111 (lp : Lp) (call : Nat -> List D -> Option D) (a0 : D) (a1 : D) (a2 : D) : evF (envOf lp call (inlP lp call)) Tryz.f111 A111 [K2, K1, Ty.int .i64] K5 [a0, a1, a2] = F111 lp call a0 a1 a2 := by kernel_rfl
theorem L111 {lp : Lp} (hlp : LpOk lp) : leafOk 111 (fun call xs => match xs with | [a0, a1, a2] => F111 lp call a0 a1 a2 | _ => none) :=
 leaf3 hlp (by kernel_rfl) (by kernel_rfl) (by kernel_rfl) (fun call a0 a1 a2 => E111 lp call a0 a1 a2)
def A112 : Ann := .leaf
noncomputable def F112 (lp : Lp) (call : Nat -> List D -> Option D) (a0 : D) (a1 : D) : Option D :=
(D.get a0 [0]).bind fun x1 =>
(D.get a1 [0]).bind fun x2 =>
(D.bin .sub x1 x2).bind fun x3 =>
(D.get a0 [1]).bind fun x4 =>
(D.get a1 [1]).bind fun x5 =>
(D.bin .sub x4 x5).bind fun x6 =>
(D.get a0 [2]).bind fun x7 =>
(D.get a1 [2]).bind fun x8 =>
(D.bin .sub x7 x8).bind fun x9 =>
 some (D.st [x3, x6, x9])
theorem E112 (lp : Lp) (call : Nat -> List D -> Option D) (a0 : D) (a1 : D) : evF (envOf lp call (inlP lp call)) Tryz.f112 A112 [K1, K1] K1 [a0, a1] = F112 lp call a0 a1 := by kernel_rfl
theorem L112 {lp : Lp} (hlp : LpOk lp) : leafOk 112 (fun call xs => match xs with | [a0, a1] => F112 lp call a0 a1 | _ => none) :=
 leaf2 hlp (by kernel_rfl) (by kernel_rfl) (by kernel_rfl) (fun call a0 a1 => E112 lp call a0 a1)
def A115 : Ann := .leaf
noncomputable def F115 (lp : Lp) (call : Nat -> List D -> Option D) (a0 : D) : Option D :=
 some (D.bool (!(D.beq a0 a0)))
theorem E115 (lp : Lp) (call : Nat -> List D -> Option D) (a0 : D) : evF (envOf lp call (inlP lp call)) Tryz.f115 A115 [Ty.int .i64] Ty.bool [a0] = F115 lp call a0 := by kernel_rfl
theorem L115 {lp : Lp} (hlp : LpOk lp) : leafOk 115 (fun call xs => match xs with | [a0] => F115 lp call a0 | _ => none) :=
 leaf1 hlp (by kernel_rfl) (by kernel_rfl) (by kernel_rfl) (fun call a0 => E115 lp call a0)
def A116 : Ann := (.two .leaf (.two (.reg [] 8) .leaf))
noncomputable def F116 (lp : Lp) (call : Nat -> List D -> Option D) (a0 : D) (a1 : D) : Option D :=
(D.truth a0).bind fun b1 =>
(if b1 then (D.truth (D.bool (!(D.beq a1 (D.st (D.putParts (List.replicate 16 (D.int .u32 0)) [])))))) else (some false)).bind fun b2 =>
 some (D.st [(D.bool false), (D.bool b2), a1])
theorem E116 (lp : Lp) (call : Nat -> List D -> Option D) (a0 : D) (a1 : D) : evF (envOf lp call (inlP lp call)) Tryz.f116 A116 [Ty.bool, K10] K11 [a0, a1] = F116 lp call a0 a1 := by kernel_rfl
theorem L116 {lp : Lp} (hlp : LpOk lp) : leafOk 116 (fun call xs => match xs with | [a0, a1] => F116 lp call a0 a1 | _ => none) :=
 leaf2 hlp (by kernel_rfl) (by kernel_rfl) (by kernel_rfl) (fun call a0 a1 => E116 lp call a0 a1)
def A117 : Ann := .leaf
noncomputable def F117 (lp : Lp) (call : Nat -> List D -> Option D) (a0 : D) (a1 : D) : Option D :=
(D.get a0 [1]).bind fun x1 =>
(D.get a1 [2]).bind fun x2 =>
(D.bin .mul x1 x2).bind fun x3 =>
(D.get a0 [2]).bind fun x4 =>
(D.get a1 [1]).bind fun x5 =>
(D.bin .mul x4 x5).bind fun x6 =>
(D.bin .sub x3 x6).bind fun x7 =>
(D.get a0 [2]).bind fun x8 =>
(D.get a1 [0]).bind fun x9 =>
(D.bin .mul x8 x9).bind fun x10 =>
(D.get a0 [0]).bind fun x11 =>
(D.get a1 [2]).bind fun x12 =>
(D.bin .mul x11 x12).bind fun x13 =>
(D.bin .sub x10 x13).bind fun x14 =>
(D.get a0 [0]).bind fun x15 =>
(D.get a1 [1]).bind fun x16 =>
(D.bin .mul x15 x16).bind fun x17 =>
(D.get a0 [1]).bind fun x18 =>
(D.get a1 [0]).bind fun x19 =>
(D.bin .mul x18 x19).bind fun x20 =>
(D.bin .sub x17 x20).bind fun x21 =>
 some (D.st [x7, x14, x21])
theorem E117 (lp : Lp) (call : Nat -> List D -> Option D) (a0 : D) (a1 : D) : evF (envOf lp call (inlP lp call)) Tryz.f117 A117 [K1, K1] K1 [a0, a1] = F117 lp call a0 a1 := by kernel_rfl
theorem L117 {lp : Lp} (hlp : LpOk lp) : leafOk 117 (fun call xs => match xs with | [a0, a1] => F117 lp call a0 a1 | _ => none) :=
 leaf2 hlp (by kernel_rfl) (by kernel_rfl) (by kernel_rfl) (fun call a0 a1 => E117 lp call a0 a1)
def A118 : Ann := (.two .leaf (.two (.two .leaf (.two (.loop ⟨[(7, .dv (Ty.int .i64))], [], [5, 6]⟩ [(.ret, ⟨[(2, .dv Ty.bool)], [], []⟩), (.exit 0, ⟨[], [], []⟩)] .leaf) .leaf)) .leaf))
noncomputable def F118 (lp : Lp) (call : Nat -> List D -> Option D) (a0 : D) : Option D :=
(D.asSl a0).bind fun l1 =>
(lp (β := Nat × List D) (fun (v2 : List D) =>
(D.bin .lss (v2.getD 0 (.bool false)) (D.int .i64 (l1.length))).bind fun x3 =>
(D.truth x3).bind fun b4 =>
 if b4 then ((D.asSl a0).bind fun l5 =>
(D.idx (v2.getD 0 (.bool false)) (l5.length)).bind fun i6 =>
(l5[i6]?).bind fun x7 =>
(D.get x7 [0]).bind fun x8 =>
(D.truth x8).bind fun b9 =>
(if b9 then (some true) else ((call 167 [x7]).bind fun r10 =>
(D.un .not r10).bind fun x11 =>
 D.truth x11)).bind fun b12 =>
(D.truth (D.bool b12)).bind fun b13 =>
 if b13 then (some (Sum.inr (0, [(D.bool false)]))) else ((D.bin .add (v2.getD 0 (.bool false)) (D.int .i64 1)).bind fun x14 =>
 some (Sum.inl [x14]))) else (some (Sum.inr (1, [])))) [(D.int .i64 0)]).bind fun r15 =>
 if r15.1 = 0 then (some (r15.2.getD 0 (.bool false))) else (some (D.bool true))
theorem E118 (lp : Lp) (call : Nat -> List D -> Option D) (a0 : D) : evF (envOf lp call (inlP lp call)) Tryz.f118 A118 [K27] Ty.bool [a0] = F118 lp call a0 := by kernel_rfl
theorem L118 {lp : Lp} (hlp : LpOk lp) : leafOk 118 (fun call xs => match xs with | [a0] => F118 lp call a0 | _ => none) :=
 leaf1 hlp (by kernel_rfl) (by kernel_rfl) (by kernel_rfl) (fun call a0 => E118 lp call a0)
def A119 : Ann := .leaf
noncomputable def F119 (lp : Lp) (call : Nat -> List D -> Option D)  : Option D :=
 some (D.st [(D.bool true), (D.bool false), (zeroD K10)])
theorem E119 (lp : Lp) (call : Nat -> List D -> Option D)  : evF (envOf lp call (inlP lp call)) Tryz.f119 A119 [] K11 [] = F119 lp call  := by kernel_rfl
theorem L119 {lp : Lp} (hlp : LpOk lp) : leafOk 119 (fun call xs => match xs with | [] => F119 lp call  | _ => none) :=
 leaf0 hlp (by kernel_rfl) (by kernel_rfl) (by kernel_rfl) (fun call  => E119 lp call )
def A120 : Ann := (.two .leaf (.two .leaf (.two .leaf (.two (.two .leaf (.two (.loop ⟨[(2, .same (.ptr K10 4098 [])), (3, .same (.ptr K10 4099 [])), (4, .same (.ptr K10 4100 [])), (6, .same (.ptr K10 8198 [])), (7, .dv (Ty.int .u64)), (9, .dv (Ty.int .i64))], [(4098, .keep K10 2), (4099, .keep K10 3), (4100, .keep K10 4), (8198, .one K10 (.dv K10))], []⟩ [(.exit 0, ⟨[(4, .same (.ptr K10 4100 [])), (6, .same (.ptr K10 8198 [])), (7, .dv (Ty.int .u64))], [(4100, .keep K10 4), (8198, .one K10 (.dv K10))], []⟩)] (.two .leaf (.two .leaf (.two (.two (.two .leaf (.two (.reg [] 11) .leaf)) .leaf) .leaf)))) .leaf)) .leaf))))
noncomputable def F120 (lp : Lp) (call : Nat -> List D -> Option D) (a0 : D) (a1 : D) : Option D :=
(lp (β := Nat × List D) (fun (v1 : List D) =>
(D.bin .lss (v1.getD 1 (.bool false)) (D.int .i64 16)).bind fun x2 =>
(D.truth x2).bind fun b3 =>
 if b3 then ((D.idx (v1.getD 1 (.bool false)) 16).bind fun i4 =>
(D.get a0 [i4]).bind fun x5 =>
(D.conv .u64 x5).bind fun x6 =>
(D.idx (v1.getD 1 (.bool false)) 16).bind fun i7 =>
(D.get a1 [i7]).bind fun x8 =>
(D.conv .u64 x8).bind fun x9 =>
(D.bin .add x6 x9).bind fun x10 =>
(D.bin .add (v1.getD 0 (.bool false)) x10).bind fun x11 =>
(D.conv .u32 x11).bind fun x12 =>
(D.idx (v1.getD 1 (.bool false)) 16).bind fun i13 =>
(D.set (v1.getD 2 (.bool false)) [i13] x12).bind fun x14 =>
(D.bin .shr x11 (D.int .u64 32)).bind fun x15 =>
(D.bin .add (v1.getD 1 (.bool false)) (D.int .i64 1)).bind fun x16 =>
 some (Sum.inl [x15, x16, x14])) else (some (Sum.inr (0, [(v1.getD 0 (.bool false)), (v1.getD 2 (.bool false))])))) [(D.int .u64 0), (D.int .i64 0), (zeroD K10)]).bind fun r17 =>
 some (D.tup [(r17.2.getD 1 (.bool false)), (D.bool (D.beq (r17.2.getD 0 (.bool false)) (D.int .u64 0)))])
theorem E120 (lp : Lp) (call : Nat -> List D -> Option D) (a0 : D) (a1 : D) : evF (envOf lp call (inlP lp call)) Tryz.f120 A120 [K10, K10] K31 [a0, a1] = F120 lp call a0 a1 := by kernel_rfl
theorem L120 {lp : Lp} (hlp : LpOk lp) : leafOk 120 (fun call xs => match xs with | [a0, a1] => F120 lp call a0 a1 | _ => none) :=
 leaf2 hlp (by kernel_rfl) (by kernel_rfl) (by kernel_rfl) (fun call a0 a1 => E120 lp call a0 a1)
def A121 : Ann := (.two .leaf (.two (.two .leaf (.two (.loop ⟨[(2, .same (.ptr K10 4098 [])), (3, .same (.ptr K10 4099 [])), (5, .dv (Ty.int .i64))], [(4098, .keep K10 2), (4099, .keep K10 3)], []⟩ [(.ret, ⟨[(4, .dv (Ty.int .i64))], [], []⟩), (.exit 0, ⟨[], [], []⟩)] (.two .leaf (.two (.two (.two (.reg [] 6) (.two (.two (.reg [] 7) .leaf) .leaf)) .leaf) .leaf))) .leaf)) .leaf))
noncomputable def F121 (lp : Lp) (call : Nat -> List D -> Option D) (a0 : D) (a1 : D) : Option D :=
(lp (β := Nat × List D) (fun (v1 : List D) =>
(D.bin .geq (v1.getD 0 (.bool false)) (D.int .i64 0)).bind fun x2 =>
(D.truth x2).bind fun b3 =>
 if b3 then ((D.idx (v1.getD 0 (.bool false)) 16).bind fun i4 =>
(D.get a0 [i4]).bind fun x5 =>
(D.idx (v1.getD 0 (.bool false)) 16).bind fun i6 =>
(D.get a1 [i6]).bind fun x7 =>
(D.truth (D.bool (!(D.beq x5 x7)))).bind fun b8 =>
 if b8 then ((D.idx (v1.getD 0 (.bool false)) 16).bind fun i9 =>
(D.get a0 [i9]).bind fun x10 =>
(D.idx (v1.getD 0 (.bool false)) 16).bind fun i11 =>
(D.get a1 [i11]).bind fun x12 =>
(call 168 [x10, x12]).bind fun r13 =>
 some (Sum.inr (0, [r13]))) else ((D.bin .sub (v1.getD 0 (.bool false)) (D.int .i64 1)).bind fun x14 =>
 some (Sum.inl [x14]))) else (some (Sum.inr (1, [])))) [(D.int .i64 15)]).bind fun r15 =>
 if r15.1 = 0 then (some (r15.2.getD 0 (.bool false))) else (some (D.int .i64 0))
theorem E121 (lp : Lp) (call : Nat -> List D -> Option D) (a0 : D) (a1 : D) : evF (envOf lp call (inlP lp call)) Tryz.f121 A121 [K10, K10] (Ty.int .i64) [a0, a1] = F121 lp call a0 a1 := by kernel_rfl
theorem L121 {lp : Lp} (hlp : LpOk lp) : leafOk 121 (fun call xs => match xs with | [a0, a1] => F121 lp call a0 a1 | _ => none) :=
 leaf2 hlp (by kernel_rfl) (by kernel_rfl) (by kernel_rfl) (fun call a0 a1 => E121 lp call a0 a1)
def A122 : Ann := (.two .leaf (.two .leaf (.two .leaf (.two (.two .leaf (.two (.loop ⟨[(2, .same (.ptr K10 4098 [])), (3, .same (.ptr K10 4099 [])), (4, .same (.ptr K10 4100 [])), (5, .same (.ptr K10 8197 [])), (6, .dv (Ty.int .u64)), (9, .dv (Ty.int .i64))], [(4098, .keep K10 2), (4099, .keep K10 3), (4100, .keep K10 4), (8197, .one K10 (.dv K10))], []⟩ [(.exit 0, ⟨[(4, .same (.ptr K10 4100 [])), (5, .same (.ptr K10 8197 []))], [(4100, .keep K10 4), (8197, .one K10 (.dv K10))], []⟩)] (.two .leaf (.two .leaf (.two (.two (.two .leaf (.two (.reg [] 11) .leaf)) .leaf) .leaf)))) .leaf)) .leaf))))
noncomputable def F122 (lp : Lp) (call : Nat -> List D -> Option D) (a0 : D) (a1 : D) : Option D :=
(lp (β := Nat × List D) (fun (v1 : List D) =>
(D.bin .lss (v1.getD 1 (.bool false)) (D.int .i64 16)).bind fun x2 =>
(D.truth x2).bind fun b3 =>
 if b3 then ((D.idx (v1.getD 1 (.bool false)) 16).bind fun i4 =>
(D.get a0 [i4]).bind fun x5 =>
(D.conv .u64 x5).bind fun x6 =>
(D.idx (v1.getD 1 (.bool false)) 16).bind fun i7 =>
(D.get a1 [i7]).bind fun x8 =>
(D.conv .u64 x8).bind fun x9 =>
(D.bin .sub x6 x9).bind fun x10 =>
(D.bin .sub x10 (v1.getD 0 (.bool false))).bind fun x11 =>
(D.conv .u32 x11).bind fun x12 =>
(D.idx (v1.getD 1 (.bool false)) 16).bind fun i13 =>
(D.set (v1.getD 2 (.bool false)) [i13] x12).bind fun x14 =>
(D.bin .shr x11 (D.int .u64 63)).bind fun x15 =>
(D.bin .add (v1.getD 1 (.bool false)) (D.int .i64 1)).bind fun x16 =>
 some (Sum.inl [x15, x16, x14])) else (some (Sum.inr (0, [(v1.getD 2 (.bool false))])))) [(D.int .u64 0), (D.int .i64 0), (zeroD K10)]).bind fun r17 =>
 some (r17.2.getD 0 (.bool false))
theorem E122 (lp : Lp) (call : Nat -> List D -> Option D) (a0 : D) (a1 : D) : evF (envOf lp call (inlP lp call)) Tryz.f122 A122 [K10, K10] K10 [a0, a1] = F122 lp call a0 a1 := by kernel_rfl
theorem L122 {lp : Lp} (hlp : LpOk lp) : leafOk 122 (fun call xs => match xs with | [a0, a1] => F122 lp call a0 a1 | _ => none) :=
 leaf2 hlp (by kernel_rfl) (by kernel_rfl) (by kernel_rfl) (fun call a0 a1 => E122 lp call a0 a1)
def A123 : Ann := .leaf
noncomputable def F123 (lp : Lp) (call : Nat -> List D -> Option D) (a0 : D) (a1 : D) : Option D :=
(D.get a0 [1]).bind fun x1 =>
(D.get a1 [2]).bind fun x2 =>
(D.bin .mul x1 x2).bind fun x3 =>
(D.get a0 [2]).bind fun x4 =>
(D.get a1 [1]).bind fun x5 =>
(D.bin .mul x4 x5).bind fun x6 =>
(D.bin .sub x3 x6).bind fun x7 =>
(D.get a0 [2]).bind fun x8 =>
(D.get a1 [0]).bind fun x9 =>
(D.bin .mul x8 x9).bind fun x10 =>
(D.get a0 [0]).bind fun x11 =>
(D.get a1 [2]).bind fun x12 =>
(D.bin .mul x11 x12).bind fun x13 =>
(D.bin .sub x10 x13).bind fun x14 =>
(D.get a0 [0]).bind fun x15 =>
(D.get a1 [1]).bind fun x16 =>
(D.bin .mul x15 x16).bind fun x17 =>
(D.get a0 [1]).bind fun x18 =>
(D.get a1 [0]).bind fun x19 =>
(D.bin .mul x18 x19).bind fun x20 =>
(D.bin .sub x17 x20).bind fun x21 =>
 some (D.st [x7, x14, x21])
theorem E123 (lp : Lp) (call : Nat -> List D -> Option D) (a0 : D) (a1 : D) : evF (envOf lp call (inlP lp call)) Tryz.f123 A123 [K1, K1] K1 [a0, a1] = F123 lp call a0 a1 := by kernel_rfl
theorem L123 {lp : Lp} (hlp : LpOk lp) : leafOk 123 (fun call xs => match xs with | [a0, a1] => F123 lp call a0 a1 | _ => none) :=
 leaf2 hlp (by kernel_rfl) (by kernel_rfl) (by kernel_rfl) (fun call a0 a1 => E123 lp call a0 a1)
def A124 : Ann := (.two .leaf (.two .leaf (.two .leaf (.two (.two .leaf (.two (.loop ⟨[(1, .same (.ptr K11 4097 [])), (5, .dv (Ty.int .i64))], [(4097, .keep K11 1)], []⟩ [(.ret, ⟨[(2, .dv (Ty.int .i64)), (3, .dv Ty.bool)], [], []⟩), (.exit 0, ⟨[(1, .same (.ptr K11 4097 []))], [(4097, .keep K11 1)], []⟩)] .leaf) .leaf)) .leaf))))
noncomputable def F124 (lp : Lp) (call : Nat -> List D -> Option D) (a0 : D) : Option D :=
(call 76 [a0]).bind fun r1 =>
(D.un .not r1).bind fun x2 =>
(D.truth x2).bind fun b3 =>
(if b3 then (some true) else ((D.get a0 [2, 1]).bind fun x4 =>
(D.bin .geq x4 (D.int .u32 1073741824)).bind fun x5 =>
 D.truth x5)).bind fun b6 =>
(D.truth (D.bool b6)).bind fun b7 =>
 if b7 then (some (D.tup [(D.int .i64 0), (D.bool false)])) else ((lp (β := Nat × List D) (fun (v8 : List D) =>
(D.bin .lss (v8.getD 0 (.bool false)) (D.int .i64 16)).bind fun x9 =>
(D.truth x9).bind fun b10 =>
 if b10 then ((D.idx (v8.getD 0 (.bool false)) 16).bind fun i11 =>
(D.get a0 [2, i11]).bind fun x12 =>
(D.truth (D.bool (!(D.beq x12 (D.int .u32 0))))).bind fun b13 =>
 if b13 then (some (Sum.inr (0, [(D.int .i64 0), (D.bool false)]))) else ((D.bin .add (v8.getD 0 (.bool false)) (D.int .i64 1)).bind fun x14 =>
 some (Sum.inl [x14]))) else (some (Sum.inr (1, [])))) [(D.int .i64 2)]).bind fun r15 =>
 if r15.1 = 0 then (some (D.tup [(r15.2.getD 0 (.bool false)), (r15.2.getD 1 (.bool false))])) else ((D.get a0 [2, 1]).bind fun x16 =>
(D.conv .i64 x16).bind fun x17 =>
(D.bin .mul x17 (D.int .i64 4294967296)).bind fun x18 =>
(D.get a0 [2, 0]).bind fun x19 =>
(D.conv .i64 x19).bind fun x20 =>
(D.bin .add x18 x20).bind fun x21 =>
(D.get a0 [1]).bind fun x22 =>
(D.truth x22).bind fun b23 =>
 if b23 then ((D.un .neg x21).bind fun x24 =>
 some (D.tup [x24, (D.bool true)])) else (some (D.tup [x21, (D.bool true)]))))
theorem E124 (lp : Lp) (call : Nat -> List D -> Option D) (a0 : D) : evF (envOf lp call (inlP lp call)) Tryz.f124 A124 [K11] K32 [a0] = F124 lp call a0 := by kernel_rfl
theorem L124 {lp : Lp} (hlp : LpOk lp) : leafOk 124 (fun call xs => match xs with | [a0] => F124 lp call a0 | _ => none) :=
 leaf1 hlp (by kernel_rfl) (by kernel_rfl) (by kernel_rfl) (fun call a0 => E124 lp call a0)
def A125 : Ann := .leaf
noncomputable def F125 (lp : Lp) (call : Nat -> List D -> Option D)  : Option D :=
 some (D.st [(D.bool true), (D.bool false), (zeroD K10)])
theorem E125 (lp : Lp) (call : Nat -> List D -> Option D)  : evF (envOf lp call (inlP lp call)) Tryz.f125 A125 [] K11 [] = F125 lp call  := by kernel_rfl
theorem L125 {lp : Lp} (hlp : LpOk lp) : leafOk 125 (fun call xs => match xs with | [] => F125 lp call  | _ => none) :=
 leaf0 hlp (by kernel_rfl) (by kernel_rfl) (by kernel_rfl) (fun call  => E125 lp call )
def A126 : Ann := (.two .leaf (.two .leaf (.two .leaf (.two (.two .leaf (.two (.loop ⟨[(5, .ow (Ty.int .i64)), (6, .dv (Ty.int .i64)), (7, .dv (Ty.int .i64))], [], [0, 1]⟩ [(.exit 0, ⟨[(5, .ow (Ty.int .i64))], [], []⟩)] (.two .leaf (.two (.two (.two (.reg [] 10) (.two .leaf (.cut [(.normal, ⟨[(5, .ow (Ty.int .i64)), (6, .dv (Ty.int .i64)), (8, .dv (Ty.int .i64))], [], [0, 1, 7]⟩)] [0, 1, 7] [] .leaf .leaf))) .leaf) .leaf))) .leaf)) .leaf))))
noncomputable def F126 (lp : Lp) (call : Nat -> List D -> Option D) (a0 : D) (a1 : D) : Option D :=
(lp (β := Nat × List D) (fun (v1 : List D) =>
(D.asSl a0).bind fun l2 =>
(D.bin .lss (v1.getD 2 (.bool false)) (D.int .i64 (l2.length))).bind fun x3 =>
(D.truth x3).bind fun b4 =>
 if b4 then ((D.asSl a0).bind fun l5 =>
(D.idx (v1.getD 2 (.bool false)) (l5.length)).bind fun i6 =>
(l5[i6]?).bind fun x7 =>
(call 141 [a1, (v1.getD 2 (.bool false))]).bind fun r8 =>
(D.bin .sub x7 r8).bind fun x9 =>
(D.bin .sub x9 (v1.getD 1 (.bool false))).bind fun x10 =>
((D.bin .lss x10 (D.int .i64 0)).bind fun x11 =>
(D.truth x11).bind fun b12 =>
 if b12 then ((D.bin .add x10 (D.int .i64 65536)).bind fun x13 =>
 some (0, [(D.sl ((v1.getD 0 (.bool false)).els)), (D.int .i64 1), x13])) else (some (0, [(D.sl ((v1.getD 0 (.bool false)).els)), (D.int .i64 0), x10]))).bind fun (r14 : Nat × List D) =>
 if List.length ((r14.2.getD 0 (.bool false)).els) + List.length [(r14.2.getD 2 (.bool false))] <= 1073741824 then ((D.bin .add (v1.getD 2 (.bool false)) (D.int .i64 1)).bind fun x15 =>
 some (Sum.inl [(D.sl (((r14.2.getD 0 (.bool false)).els) ++ [(r14.2.getD 2 (.bool false))])), (r14.2.getD 1 (.bool false)), x15])) else none) else (some (Sum.inr (0, [(D.sl ((v1.getD 0 (.bool false)).els))])))) [(D.sl []), (D.int .i64 0), (D.int .i64 0)]).bind fun r16 =>
(call 140 [(D.sl ((r16.2.getD 0 (.bool false)).els))]).bind fun r17 =>
 some r17
theorem E126 (lp : Lp) (call : Nat -> List D -> Option D) (a0 : D) (a1 : D) : evF (envOf lp call (inlP lp call)) Tryz.f126 A126 [K5, K5] K5 [a0, a1] = F126 lp call a0 a1 := by kernel_rfl
theorem L126 {lp : Lp} (hlp : LpOk lp) : leafOk 126 (fun call xs => match xs with | [a0, a1] => F126 lp call a0 a1 | _ => none) :=
 leaf2 hlp (by kernel_rfl) (by kernel_rfl) (by kernel_rfl) (fun call a0 a1 => E126 lp call a0 a1)
def A127 : Ann := (.two .leaf (.two .leaf (.two (.two (.loop ⟨[(1, .same (.ptr K10 4097 [])), (3, .dv (Ty.int .i64))], [(4097, .keep K10 1)], []⟩ [(.exit 0, ⟨[(3, .dv (Ty.int .i64))], [], []⟩)] .leaf) .leaf) .leaf)))
noncomputable def F127 (lp : Lp) (call : Nat -> List D -> Option D) (a0 : D) : Option D :=
(lp (β := Nat × List D) (fun (v1 : List D) =>
(D.bin .gtr (v1.getD 0 (.bool false)) (D.int .i64 0)).bind fun x2 =>
(D.truth x2).bind fun b3 =>
(if b3 then ((D.bin .sub (v1.getD 0 (.bool false)) (D.int .i64 1)).bind fun x4 =>
(D.idx x4 16).bind fun i5 =>
(D.get a0 [i5]).bind fun x6 =>
 D.truth (D.bool (D.beq x6 (D.int .u32 0)))) else (some false)).bind fun b7 =>
(D.truth (D.bool b7)).bind fun b8 =>
 if b8 then ((D.bin .sub (v1.getD 0 (.bool false)) (D.int .i64 1)).bind fun x9 =>
 some (Sum.inl [x9])) else (some (Sum.inr (0, [(v1.getD 0 (.bool false))])))) [(D.int .i64 16)]).bind fun r10 =>
 some (r10.2.getD 0 (.bool false))
theorem E127 (lp : Lp) (call : Nat -> List D -> Option D) (a0 : D) : evF (envOf lp call (inlP lp call)) Tryz.f127 A127 [K10] (Ty.int .i64) [a0] = F127 lp call a0 := by kernel_rfl
theorem L127 {lp : Lp} (hlp : LpOk lp) : leafOk 127 (fun call xs => match xs with | [a0] => F127 lp call a0 | _ => none) :=
 leaf1 hlp (by kernel_rfl) (by kernel_rfl) (by kernel_rfl) (fun call a0 => E127 lp call a0)
def A128 : Ann := .leaf
noncomputable def F128 (lp : Lp) (call : Nat -> List D -> Option D) (a0 : D) : Option D :=
(D.get a0 [0]).bind fun x1 =>
(D.un .not x1).bind fun x2 =>
(D.truth x2).bind fun b3 =>
(if b3 then ((call 167 [a0]).bind fun r4 =>
 D.truth r4) else (some false)).bind fun b5 =>
 some (D.bool b5)
theorem E128 (lp : Lp) (call : Nat -> List D -> Option D) (a0 : D) : evF (envOf lp call (inlP lp call)) Tryz.f128 A128 [K11] Ty.bool [a0] = F128 lp call a0 := by kernel_rfl
theorem L128 {lp : Lp} (hlp : LpOk lp) : leafOk 128 (fun call xs => match xs with | [a0] => F128 lp call a0 | _ => none) :=
 leaf1 hlp (by kernel_rfl) (by kernel_rfl) (by kernel_rfl) (fun call a0 => E128 lp call a0)
def A129 : Ann := .leaf
noncomputable def F129 (lp : Lp) (call : Nat -> List D -> Option D) (a0 : D) : Option D :=
(call 118 [(D.sl [a0])]).bind fun r1 =>
(D.un .not r1).bind fun x2 =>
(D.truth x2).bind fun b3 =>
(if b3 then (some true) else ((D.get a0 [2]).bind fun x4 =>
 D.truth (D.bool (D.beq x4 (D.st (D.putParts (List.replicate 16 (D.int .u32 0)) [])))))).bind fun b5 =>
(D.truth (D.bool b5)).bind fun b6 =>
 if b6 then (some (D.int .i64 0)) else ((D.get a0 [1]).bind fun x7 =>
(D.truth x7).bind fun b8 =>
 if b8 then (some (D.int .i64 (-1))) else (some (D.int .i64 1)))
theorem E129 (lp : Lp) (call : Nat -> List D -> Option D) (a0 : D) : evF (envOf lp call (inlP lp call)) Tryz.f129 A129 [K11] (Ty.int .i64) [a0] = F129 lp call a0 := by kernel_rfl
theorem L129 {lp : Lp} (hlp : LpOk lp) : leafOk 129 (fun call xs => match xs with | [a0] => F129 lp call a0 | _ => none) :=
 leaf1 hlp (by kernel_rfl) (by kernel_rfl) (by kernel_rfl) (fun call a0 => E129 lp call a0)
def A130 : Ann := .leaf
noncomputable def F130 (lp : Lp) (call : Nat -> List D -> Option D)  : Option D :=
(call 119 []).bind fun r1 =>
(call 169 []).bind fun r2 =>
 some (D.st [r1, r2])
theorem E130 (lp : Lp) (call : Nat -> List D -> Option D)  : evF (envOf lp call (inlP lp call)) Tryz.f130 A130 [] K12 [] = F130 lp call  := by kernel_rfl
theorem L130 {lp : Lp} (hlp : LpOk lp) : leafOk 130 (fun call xs => match xs with | [] => F130 lp call  | _ => none) :=
 leaf0 hlp (by kernel_rfl) (by kernel_rfl) (by kernel_rfl) (fun call  => E130 lp call )
def A131 : Ann := (.two .leaf (.two .leaf (.two (.two .leaf (.two (.two (.reg [] 21) (.two (.two (.loop ⟨[(4, .same (.ptr K11 4100 [])), (5, .dv (Ty.int .u64)), (6, .dv (Ty.int .u64))], [(4100, .keep K11 4)], []⟩ [(.exit 0, ⟨[(4, .same (.ptr K11 4100 [])), (5, .dv (Ty.int .u64))], [(4100, .keep K11 4)], []⟩)] (.two .leaf (.two (.reg [] 5) .leaf))) .leaf) .leaf)) .leaf)) .leaf)))
noncomputable def F131 (lp : Lp) (call : Nat -> List D -> Option D) (a0 : D) (a1 : D) : Option D :=
(call 118 [(D.sl [a0, a1])]).bind fun r1 =>
(D.un .not r1).bind fun x2 =>
(D.truth x2).bind fun b3 =>
 if b3 then ((call 119 []).bind fun r4 =>
 some r4) else ((D.get a0 [2]).bind fun x5 =>
(call 127 [x5]).bind fun r6 =>
(D.bin .leq r6 (D.int .i64 2)).bind fun x7 =>
(D.truth x7).bind fun b8 =>
(if b8 then ((D.get a1 [2]).bind fun x9 =>
(call 127 [x9]).bind fun r10 =>
(D.bin .leq r10 (D.int .i64 2)).bind fun x11 =>
 D.truth x11) else (some false)).bind fun b12 =>
(D.truth (D.bool b12)).bind fun b13 =>
 if b13 then ((D.get a0 [2, 1]).bind fun x14 =>
(D.conv .u64 x14).bind fun x15 =>
(D.bin .shl x15 (D.int .u64 32)).bind fun x16 =>
(D.get a0 [2, 0]).bind fun x17 =>
(D.conv .u64 x17).bind fun x18 =>
(D.bin .or x16 x18).bind fun x19 =>
(D.get a1 [2, 1]).bind fun x20 =>
(D.conv .u64 x20).bind fun x21 =>
(D.bin .shl x21 (D.int .u64 32)).bind fun x22 =>
(D.get a1 [2, 0]).bind fun x23 =>
(D.conv .u64 x23).bind fun x24 =>
(D.bin .or x22 x24).bind fun x25 =>
(lp (β := Nat × List D) (fun (v26 : List D) =>
(D.truth (D.bool (!(D.beq (v26.getD 1 (.bool false)) (D.int .u64 0))))).bind fun b27 =>
 if b27 then ((D.bin .rem (v26.getD 0 (.bool false)) (v26.getD 1 (.bool false))).bind fun x28 =>
 some (Sum.inl [(v26.getD 1 (.bool false)), x28])) else (some (Sum.inr (0, [(v26.getD 0 (.bool false))])))) [x19, x25]).bind fun r29 =>
(D.conv .u32 (r29.2.getD 0 (.bool false))).bind fun x30 =>
(D.bin .shr (r29.2.getD 0 (.bool false)) (D.int .u64 32)).bind fun x31 =>
(D.conv .u32 x31).bind fun x32 =>
(call 116 [(D.bool false), (D.st (D.putParts (List.replicate 16 (D.int .u32 0)) [(0, x30), (1, x32)]))]).bind fun r33 =>
 some r33) else (none))
theorem E131 (lp : Lp) (call : Nat -> List D -> Option D) (a0 : D) (a1 : D) : evF (envOf lp call (inlP lp call)) Tryz.f131 A131 [K11, K11] K11 [a0, a1] = F131 lp call a0 a1 := by kernel_rfl
theorem L131 {lp : Lp} (hlp : LpOk lp) : leafOk 131 (fun call xs => match xs with | [a0, a1] => F131 lp call a0 a1 | _ => none) :=
 leaf2 hlp (by kernel_rfl) (by kernel_rfl) (by kernel_rfl) (fun call a0 a1 => E131 lp call a0 a1)
def A132 : Ann := .leaf
noncomputable def F132 (lp : Lp) (call : Nat -> List D -> Option D) (a0 : D) (a1 : D) : Option D :=
(call 172 [a0, a1]).bind fun r1 =>
(D.tupAt r1 0).bind fun x2 =>
(D.tupAt r1 1).bind fun x3 =>
 some x2
theorem E132 (lp : Lp) (call : Nat -> List D -> Option D) (a0 : D) (a1 : D) : evF (envOf lp call (inlP lp call)) Tryz.f132 A132 [K11, K11] K11 [a0, a1] = F132 lp call a0 a1 := by kernel_rfl
theorem L132 {lp : Lp} (hlp : LpOk lp) : leafOk 132 (fun call xs => match xs with | [a0, a1] => F132 lp call a0 a1 | _ => none) :=
 leaf2 hlp (by kernel_rfl) (by kernel_rfl) (by kernel_rfl) (fun call a0 a1 => E132 lp call a0 a1)
def A133 : Ann := .leaf
noncomputable def F133 (lp : Lp) (call : Nat -> List D -> Option D)  : Option D :=
(call 34 [(D.int .i64 1)]).bind fun r1 =>
 some r1
theorem E133 (lp : Lp) (call : Nat -> List D -> Option D)  : evF (envOf lp call (inlP lp call)) Tryz.f133 A133 [] K11 [] = F133 lp call  := by kernel_rfl
theorem L133 {lp : Lp} (hlp : LpOk lp) : leafOk 133 (fun call xs => match xs with | [] => F133 lp call  | _ => none) :=
 leaf0 hlp (by kernel_rfl) (by kernel_rfl) (by kernel_rfl) (fun call  => E133 lp call )
def A134 : Ann := (.two .leaf (.two .leaf (.two (.two .leaf (.two (.loop ⟨[(2, .same (.ptr K13 4098 [])), (3, .same (.ptr K13 4099 [])), (4, .same (.ptr K12 4100 [])), (5, .same (.ptr K12 8197 [])), (8, .dv (Ty.int .i64))], [(4098, .keep K13 2), (4099, .keep K13 3), (4100, .keep K12 4), (8197, .one K12 (.dv K12))], []⟩ [(.exit 0, ⟨[(4, .same (.ptr K12 4100 [])), (5, .same (.ptr K12 8197 []))], [(4100, .keep K12 4), (8197, .one K12 (.dv K12))], []⟩)] (.two .leaf (.two .leaf (.two (.two (.two .leaf (.reg [] 9)) .leaf) .leaf)))) .leaf)) .leaf)))
noncomputable def F134 (lp : Lp) (call : Nat -> List D -> Option D) (a0 : D) (a1 : D) : Option D :=
(call 74 [(D.int .i64 0)]).bind fun r1 =>
(lp (β := Nat × List D) (fun (v2 : List D) =>
(D.bin .lss (v2.getD 0 (.bool false)) (D.int .i64 3)).bind fun x3 =>
(D.truth x3).bind fun b4 =>
 if b4 then ((D.idx (v2.getD 0 (.bool false)) 3).bind fun i5 =>
(D.get a0 [i5]).bind fun x6 =>
(D.idx (v2.getD 0 (.bool false)) 3).bind fun i7 =>
(D.get a1 [i7]).bind fun x8 =>
(call 174 [x6, x8]).bind fun r9 =>
(call 173 [(v2.getD 1 (.bool false)), r9]).bind fun r10 =>
(D.bin .add (v2.getD 0 (.bool false)) (D.int .i64 1)).bind fun x11 =>
 some (Sum.inl [x11, r10])) else (some (Sum.inr (0, [(v2.getD 1 (.bool false))])))) [(D.int .i64 0), r1]).bind fun r12 =>
 some (r12.2.getD 0 (.bool false))
theorem E134 (lp : Lp) (call : Nat -> List D -> Option D) (a0 : D) (a1 : D) : evF (envOf lp call (inlP lp call)) Tryz.f134 A134 [K13, K13] K12 [a0, a1] = F134 lp call a0 a1 := by kernel_rfl
theorem L134 {lp : Lp} (hlp : LpOk lp) : leafOk 134 (fun call xs => match xs with | [a0, a1] => F134 lp call a0 a1 | _ => none) :=
 leaf2 hlp (by kernel_rfl) (by kernel_rfl) (by kernel_rfl) (fun call a0 a1 => E134 lp call a0 a1)
def A135 : Ann := (.two .leaf (.two (.reg [] 10) .leaf))
noncomputable def F135 (lp : Lp) (call : Nat -> List D -> Option D) (a0 : D) : Option D :=
(D.get a0 [0]).bind fun x1 =>
(call 74 [x1]).bind fun r2 =>
(D.get a0 [1]).bind fun x3 =>
(call 74 [x3]).bind fun r4 =>
(D.get a0 [2]).bind fun x5 =>
(call 74 [x5]).bind fun r6 =>
 some (D.st [r2, r4, r6])
theorem E135 (lp : Lp) (call : Nat -> List D -> Option D) (a0 : D) : evF (envOf lp call (inlP lp call)) Tryz.f135 A135 [K1] K13 [a0] = F135 lp call a0 := by kernel_rfl
theorem L135 {lp : Lp} (hlp : LpOk lp) : leafOk 135 (fun call xs => match xs with | [a0] => F135 lp call a0 | _ => none) :=
 leaf1 hlp (by kernel_rfl) (by kernel_rfl) (by kernel_rfl) (fun call a0 => E135 lp call a0)
def A136 : Ann := .leaf
noncomputable def F136 (lp : Lp) (call : Nat -> List D -> Option D) (a0 : D) : Option D :=
(D.get a0 [0]).bind fun x1 =>
(call 128 [x1]).bind fun r2 =>
(D.truth r2).bind fun b3 =>
(if b3 then ((D.get a0 [1]).bind fun x4 =>
(call 128 [x4]).bind fun r5 =>
 D.truth r5) else (some false)).bind fun b6 =>
(D.truth (D.bool b6)).bind fun b7 =>
(if b7 then ((D.get a0 [1]).bind fun x8 =>
(call 129 [x8]).bind fun r9 =>
(D.bin .gtr r9 (D.int .i64 0)).bind fun x10 =>
 D.truth x10) else (some false)).bind fun b11 =>
(D.truth (D.bool b11)).bind fun b12 =>
(if b12 then ((D.get a0 [0]).bind fun x13 =>
(D.get a0 [1]).bind fun x14 =>
(call 131 [x13, x14]).bind fun r15 =>
(call 169 []).bind fun r16 =>
 D.truth (D.bool (D.beq r15 r16))) else (some false)).bind fun b17 =>
 some (D.bool b17)
theorem E136 (lp : Lp) (call : Nat -> List D -> Option D) (a0 : D) : evF (envOf lp call (inlP lp call)) Tryz.f136 A136 [K12] Ty.bool [a0] = F136 lp call a0 := by kernel_rfl
theorem L136 {lp : Lp} (hlp : LpOk lp) : leafOk 136 (fun call xs => match xs with | [a0] => F136 lp call a0 | _ => none) :=
 leaf1 hlp (by kernel_rfl) (by kernel_rfl) (by kernel_rfl) (fun call a0 => E136 lp call a0)
def A137 : Ann := .leaf
noncomputable def F137 (lp : Lp) (call : Nat -> List D -> Option D) (a0 : D) (a1 : D) : Option D :=
(call 172 [a0, a1]).bind fun r1 =>
(D.tupAt r1 0).bind fun x2 =>
(D.tupAt r1 1).bind fun x3 =>
 some x3
theorem E137 (lp : Lp) (call : Nat -> List D -> Option D) (a0 : D) (a1 : D) : evF (envOf lp call (inlP lp call)) Tryz.f137 A137 [K11, K11] K11 [a0, a1] = F137 lp call a0 a1 := by kernel_rfl
theorem L137 {lp : Lp} (hlp : LpOk lp) : leafOk 137 (fun call xs => match xs with | [a0, a1] => F137 lp call a0 a1 | _ => none) :=
 leaf2 hlp (by kernel_rfl) (by kernel_rfl) (by kernel_rfl) (fun call a0 a1 => E137 lp call a0 a1)
def A138 : Ann := (.two .leaf (.two (.reg [] 3) .leaf))
noncomputable def F138 (lp : Lp) (call : Nat -> List D -> Option D) (a0 : D) : Option D :=
(call 169 []).bind fun r1 =>
(call 62 [a0, r1]).bind fun r2 =>
 some r2
theorem E138 (lp : Lp) (call : Nat -> List D -> Option D) (a0 : D) : evF (envOf lp call (inlP lp call)) Tryz.f138 A138 [K11] K12 [a0] = F138 lp call a0 := by kernel_rfl
theorem L138 {lp : Lp} (hlp : LpOk lp) : leafOk 138 (fun call xs => match xs with | [a0] => F138 lp call a0 | _ => none) :=
 leaf1 hlp (by kernel_rfl) (by kernel_rfl) (by kernel_rfl) (fun call a0 => E138 lp call a0)
end Go.Proofs.YtjjjkojfijpeeaaGreat.Sy
end
