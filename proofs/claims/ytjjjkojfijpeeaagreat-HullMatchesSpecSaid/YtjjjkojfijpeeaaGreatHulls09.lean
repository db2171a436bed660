/- Part 9 of the proof that HullMatchesSpec answers true at every input -/
import Derived.Test.YtjjjkojfijpeeaaGreatHulls05
import Derived.Test.YtjjjkojfijpeeaaGreatHulls06
import Derived.Shelf.SlSortCmp.InsertionK
import Derived.Maps.RangeRun
set_option linter.unusedVariables false
set_option linter.unusedSimpArgs false
set_option linter.unnecessarySimpa false
section
set_option maxRecDepth 20000
set_option maxHeartbeats 0
set_option linter.unusedVariables false
namespace Go.Proofs.YtjjjkojfijpeeaaGreat.Sy
open Go Go.Proofs
def A139 : Ann := (.two .leaf (.two .leaf (.two (.two .leaf (.two (.loop ⟨[(1, .same (.ptr K11 4097 [])), (3, .dv Ty.bool), (4, .dv (Ty.int .i64))], [(4097, .keep K11 1)], []⟩ [(.exit 0, ⟨[(1, .same (.ptr K11 4097 [])), (3, .dv Ty.bool)], [(4097, .keep K11 1)], []⟩)] .leaf) .leaf)) .leaf)))
noncomputable def F139 (lp : Lp) (call : Nat -> List D -> Option D) (a0 : D) : Option D :=
(lp (β := Nat × List D) (fun (v1 : List D) =>
(D.bin .lss (v1.getD 1 (.bool false)) (D.int .i64 16)).bind fun x2 =>
(D.truth x2).bind fun b3 =>
 if b3 then ((D.truth (v1.getD 0 (.bool false))).bind fun b4 =>
(if b4 then ((D.idx (v1.getD 1 (.bool false)) 16).bind fun i5 =>
(D.get a0 [2, i5]).bind fun x6 =>
 D.truth (D.bool (D.beq x6 (D.int .u32 0)))) else (some false)).bind fun b7 =>
(D.bin .add (v1.getD 1 (.bool false)) (D.int .i64 1)).bind fun x8 =>
 some (Sum.inl [(D.bool b7), x8])) else (some (Sum.inr (0, [(v1.getD 0 (.bool false))])))) [(D.bool true), (D.int .i64 0)]).bind fun r9 =>
(D.get a0 [0]).bind fun x10 =>
(D.truth x10).bind fun b11 =>
 if b11 then ((D.truth (r9.2.getD 0 (.bool false))).bind fun b12 =>
(if b12 then ((D.get a0 [1]).bind fun x13 =>
(D.un .not x13).bind fun x14 =>
 D.truth x14) else (some false)).bind fun b15 =>
 some (D.bool b15)) else ((D.un .not (r9.2.getD 0 (.bool false))).bind fun x16 =>
(D.truth x16).bind fun b17 =>
(if b17 then (some true) else ((D.get a0 [1]).bind fun x18 =>
(D.un .not x18).bind fun x19 =>
 D.truth x19)).bind fun b20 =>
 some (D.bool b20))
theorem E139 (lp : Lp) (call : Nat -> List D -> Option D) (a0 : D) : evF (envOf lp call (inlP lp call)) Tryz.f139 A139 [K11] Ty.bool [a0] = F139 lp call a0 := by kernel_rfl
theorem L139 {lp : Lp} (hlp : LpOk lp) : leafOk 139 (fun call xs => match xs with | [a0] => F139 lp call a0 | _ => none) :=
 leaf1 hlp (by kernel_rfl) (by kernel_rfl) (by kernel_rfl) (fun call a0 => E139 lp call a0)
def A140 : Ann := (.two .leaf (.two .leaf (.two (.two (.loop ⟨[(3, .dv (Ty.int .i64))], [], [0]⟩ [(.exit 0, ⟨[(3, .dv (Ty.int .i64))], [], [0]⟩)] .leaf) .leaf) .leaf)))
noncomputable def F140 (lp : Lp) (call : Nat -> List D -> Option D) (a0 : D) : Option D :=
(D.asSl a0).bind fun l1 =>
(lp (β := Nat × List D) (fun (v2 : List D) =>
(D.bin .gtr (v2.getD 0 (.bool false)) (D.int .i64 0)).bind fun x3 =>
(D.truth x3).bind fun b4 =>
(if b4 then ((D.bin .sub (v2.getD 0 (.bool false)) (D.int .i64 1)).bind fun x5 =>
(D.asSl a0).bind fun l6 =>
(D.idx x5 (l6.length)).bind fun i7 =>
(l6[i7]?).bind fun x8 =>
 D.truth (D.bool (D.beq x8 (D.int .i64 0)))) else (some false)).bind fun b9 =>
(D.truth (D.bool b9)).bind fun b10 =>
 if b10 then ((D.bin .sub (v2.getD 0 (.bool false)) (D.int .i64 1)).bind fun x11 =>
 some (Sum.inl [x11])) else (some (Sum.inr (0, [(v2.getD 0 (.bool false))])))) [(D.int .i64 (l1.length))]).bind fun r12 =>
(D.asSl a0).bind fun l13 =>
(D.natOf (r12.2.getD 0 (.bool false))).bind fun i14 =>
(D.cut l13 0 i14).bind fun l15 =>
 some (D.sl l15)
theorem E140 (lp : Lp) (call : Nat -> List D -> Option D) (a0 : D) : evF (envOf lp call (inlP lp call)) Tryz.f140 A140 [K5] K5 [a0] = F140 lp call a0 := by kernel_rfl
theorem L140 {lp : Lp} (hlp : LpOk lp) : leafOk 140 (fun call xs => match xs with | [a0] => F140 lp call a0 | _ => none) :=
 leaf1 hlp (by kernel_rfl) (by kernel_rfl) (by kernel_rfl) (fun call a0 => E140 lp call a0)
def A141 : Ann := .leaf
noncomputable def F141 (lp : Lp) (call : Nat -> List D -> Option D) (a0 : D) (a1 : D) : Option D :=
(D.asSl a0).bind fun l1 =>
(D.bin .lss a1 (D.int .i64 (l1.length))).bind fun x2 =>
(D.truth x2).bind fun b3 =>
 if b3 then ((D.asSl a0).bind fun l4 =>
(D.idx a1 (l4.length)).bind fun i5 =>
(l4[i5]?).bind fun x6 =>
 some x6) else (some (D.int .i64 0))
theorem E141 (lp : Lp) (call : Nat -> List D -> Option D) (a0 : D) (a1 : D) : evF (envOf lp call (inlP lp call)) Tryz.f141 A141 [K5, Ty.int .i64] (Ty.int .i64) [a0, a1] = F141 lp call a0 a1 := by kernel_rfl
theorem L141 {lp : Lp} (hlp : LpOk lp) : leafOk 141 (fun call xs => match xs with | [a0, a1] => F141 lp call a0 a1 | _ => none) :=
 leaf2 hlp (by kernel_rfl) (by kernel_rfl) (by kernel_rfl) (fun call a0 a1 => E141 lp call a0 a1)
def A142 : Ann := .leaf
noncomputable def F142 (lp : Lp) (call : Nat -> List D -> Option D) (a0 : D) : Option D :=
(call 76 [a0]).bind fun r1 =>
(D.un .not r1).bind fun x2 =>
(D.truth x2).bind fun b3 =>
 if b3 then ((call 125 []).bind fun r4 =>
 some r4) else ((call 77 [a0]).bind fun r5 =>
(call 81 [(D.bool false), r5]).bind fun r6 =>
 some r6)
theorem E142 (lp : Lp) (call : Nat -> List D -> Option D) (a0 : D) : evF (envOf lp call (inlP lp call)) Tryz.f142 A142 [K11] K11 [a0] = F142 lp call a0 := by kernel_rfl
theorem L142 {lp : Lp} (hlp : LpOk lp) : leafOk 142 (fun call xs => match xs with | [a0] => F142 lp call a0 | _ => none) :=
 leaf1 hlp (by kernel_rfl) (by kernel_rfl) (by kernel_rfl) (fun call a0 => E142 lp call a0)
def A143 : Ann := (.two .leaf (.two .leaf (.two .leaf (.two (.reg [] 11) (.two .leaf (.two (.two .leaf (.two (.loop ⟨[(6, .same (.mem (Ty.int .i64) 8207)), (9, .dv K5), (10, .dv (Ty.int .i64))], [(8207, .many (Ty.int .i64))], [0, 1, 7, 8]⟩ [(.exit 0, ⟨[(6, .same (.mem (Ty.int .i64) 8207)), (9, .dv K5)], [(8207, .many (Ty.int .i64))], []⟩)] (.two .leaf (.two (.two (.two .leaf (.two .leaf (.two .leaf (.two (.two (.loop ⟨[(6, .same (.mem (Ty.int .i64) 8207)), (11, .dv (Ty.int .i64)), (12, .dv K5)], [(8207, .many (Ty.int .i64))], [0, 1, 7, 8, 9, 10]⟩ [(.exit 2, ⟨[(6, .same (.mem (Ty.int .i64) 8207)), (11, .dv (Ty.int .i64)), (12, .dv K5)], [(8207, .many (Ty.int .i64))], [0, 1, 7, 8, 9, 10]⟩)] .leaf) .leaf) .leaf)))) .leaf) .leaf))) .leaf)) (.two (.reg [6] 5) .leaf)))))))
noncomputable def F143 (lp : Lp) (call : Nat -> List D -> Option D) (a0 : D) (a1 : D) : Option D :=
(D.asSl a0).bind fun l1 =>
(D.natOf (D.int .i64 (l1.length))).bind fun i2 =>
 if i2 <= 1073741824 then ((D.asSl a1).bind fun l3 =>
(D.bin .sub (D.int .i64 (l3.length)) (D.int .i64 1)).bind fun x4 =>
(D.asSl a1).bind fun l5 =>
(D.idx x4 (l5.length)).bind fun i6 =>
(l5[i6]?).bind fun x7 =>
(D.bin .mul x7 (D.int .i64 65536)).bind fun x8 =>
(D.bin .sub (D.int .i64 (l3.length)) (D.int .i64 2)).bind fun x9 =>
(call 175 [a1, x9]).bind fun r10 =>
(D.bin .add x8 r10).bind fun x11 =>
(D.asSl a0).bind fun l12 =>
(D.bin .sub (D.int .i64 (l12.length)) (D.int .i64 1)).bind fun x13 =>
(lp (β := Nat × List D) (fun (v14 : List D) =>
(D.bin .geq (v14.getD 1 (.bool false)) (D.int .i64 0)).bind fun x15 =>
(D.truth x15).bind fun b16 =>
 if b16 then ((D.asSl a0).bind fun l17 =>
(D.idx (v14.getD 1 (.bool false)) (l17.length)).bind fun i18 =>
(l17[i18]?).bind fun x19 =>
(D.asSl (v14.getD 0 (.bool false))).bind fun l20 =>
 if List.length [x19] + l20.length <= 1073741824 then ((call 140 [(D.sl ([x19] ++ l20))]).bind fun r21 =>
(call 175 [r21, (D.int .i64 (l3.length))]).bind fun r22 =>
(D.bin .mul r22 (D.int .i64 4294967296)).bind fun x23 =>
(D.bin .sub (D.int .i64 (l3.length)) (D.int .i64 1)).bind fun x24 =>
(call 175 [r21, x24]).bind fun r25 =>
(D.bin .mul r25 (D.int .i64 65536)).bind fun x26 =>
(D.bin .add x23 x26).bind fun x27 =>
(D.bin .sub (D.int .i64 (l3.length)) (D.int .i64 2)).bind fun x28 =>
(call 175 [r21, x28]).bind fun r29 =>
(D.bin .add x27 r29).bind fun x30 =>
(D.bin .quo x30 x11).bind fun x31 =>
(D.min2 (D.int .i64 65535) x31).bind fun x32 =>
(call 146 [a1, (D.sl [x32])]).bind fun r33 =>
(lp (β := Nat × List D) (fun (v34 : List D) =>
(call 78 [r21, (v34.getD 1 (.bool false))]).bind fun r35 =>
(D.truth r35).bind fun b36 =>
 if b36 then ((D.bin .sub (v34.getD 0 (.bool false)) (D.int .i64 1)).bind fun x37 =>
(call 126 [(v34.getD 1 (.bool false)), a1]).bind fun r38 =>
 some (Sum.inl [x37, r38, (D.sl ((v34.getD 2 (.bool false)).els))])) else (some (Sum.inr (0, [(v34.getD 0 (.bool false)), (v34.getD 1 (.bool false)), (D.sl ((v34.getD 2 (.bool false)).els))])))) [x32, r33, (D.sl ((v14.getD 2 (.bool false)).els))]).bind fun r39 =>
(D.idx (v14.getD 1 (.bool false)) (List.length ((r39.2.getD 2 (.bool false)).els))).bind fun i40 =>
(((r39.2.getD 2 (.bool false)).els)[i40]?).bind fun x41 =>
(call 126 [r21, (r39.2.getD 1 (.bool false))]).bind fun r42 =>
(D.bin .sub (v14.getD 1 (.bool false)) (D.int .i64 1)).bind fun x43 =>
 some (Sum.inl [r42, x43, (D.sl (List.set ((r39.2.getD 2 (.bool false)).els) i40 (r39.2.getD 0 (.bool false))))])) else none) else (some (Sum.inr (0, [(v14.getD 0 (.bool false)), (D.sl ((v14.getD 2 (.bool false)).els))])))) [(D.sl []), x13, (D.sl (List.replicate i2 (D.int .i64 0)))]).bind fun r44 =>
(call 140 [(D.sl ((r44.2.getD 1 (.bool false)).els))]).bind fun r45 =>
 some (D.tup [r45, (r44.2.getD 0 (.bool false))])) else none
theorem E143 (lp : Lp) (call : Nat -> List D -> Option D) (a0 : D) (a1 : D) : evF (envOf lp call (inlP lp call)) Tryz.f143 A143 [K5, K5] K33 [a0, a1] = F143 lp call a0 a1 := by kernel_rfl
theorem L143 {lp : Lp} (hlp : LpOk lp) : leafOk 143 (fun call xs => match xs with | [a0, a1] => F143 lp call a0 a1 | _ => none) :=
 leaf2 hlp (by kernel_rfl) (by kernel_rfl) (by kernel_rfl) (fun call a0 a1 => E143 lp call a0 a1)
def A144 : Ann := (.two .leaf (.two .leaf (.cut [(.normal, ⟨[(5, .dv (Ty.int .i64))], [], []⟩)] [] [] .leaf .leaf)))
noncomputable def F144 (lp : Lp) (call : Nat -> List D -> Option D) (a0 : D) (a1 : D) : Option D :=
(D.bin .quo a0 a1).bind fun x1 =>
((D.bin .rem a0 a1).bind fun x2 =>
(D.truth (D.bool (!(D.beq x2 (D.int .i64 0))))).bind fun b3 =>
(if b3 then ((D.bin .lss a0 (D.int .i64 0)).bind fun x4 =>
(D.bin .lss a1 (D.int .i64 0)).bind fun x5 =>
 D.truth (D.bool (!(D.beq x4 x5)))) else (some false)).bind fun b6 =>
(D.truth (D.bool b6)).bind fun b7 =>
 if b7 then ((D.bin .sub x1 (D.int .i64 1)).bind fun x8 =>
 some (0, [x8])) else (some (0, [x1]))).bind fun (r9 : Nat × List D) =>
 some (r9.2.getD 0 (.bool false))
theorem E144 (lp : Lp) (call : Nat -> List D -> Option D) (a0 : D) (a1 : D) : evF (envOf lp call (inlP lp call)) Tryz.f144 A144 [Ty.int .i64, Ty.int .i64] (Ty.int .i64) [a0, a1] = F144 lp call a0 a1 := by kernel_rfl
theorem L144 {lp : Lp} (hlp : LpOk lp) : leafOk 144 (fun call xs => match xs with | [a0, a1] => F144 lp call a0 a1 | _ => none) :=
 leaf2 hlp (by kernel_rfl) (by kernel_rfl) (by kernel_rfl) (fun call a0 a1 => E144 lp call a0 a1)
def A146 : Ann := (.two .leaf (.two .leaf (.two (.two .leaf (.two (.loop ⟨[(5, .same (.mem (Ty.int .i64) 8209)), (6, .dv (Ty.int .i64))], [(8209, .many (Ty.int .i64))], [0, 1]⟩ [(.exit 0, ⟨[(5, .same (.mem (Ty.int .i64) 8209))], [(8209, .many (Ty.int .i64))], []⟩)] (.two .leaf (.two (.two (.two (.two .leaf (.two (.loop ⟨[(5, .same (.mem (Ty.int .i64) 8209)), (7, .dv (Ty.int .i64))], [(8209, .many (Ty.int .i64))], [0, 1, 6]⟩ [(.exit 2, ⟨[(5, .same (.mem (Ty.int .i64) 8209))], [(8209, .many (Ty.int .i64))], [0, 1, 6]⟩)] (.two .leaf (.two (.two (.reg [] 21) .leaf) .leaf))) .leaf)) (.two .leaf (.two .leaf (.two (.loop ⟨[(5, .same (.mem (Ty.int .i64) 8209)), (8, .dv (Ty.int .i64)), (9, .dv (Ty.int .i64))], [(8209, .many (Ty.int .i64))], [0, 1, 6]⟩ [(.exit 4, ⟨[(5, .same (.mem (Ty.int .i64) 8209))], [(8209, .many (Ty.int .i64))], [0, 1, 6]⟩)] .leaf) .leaf)))) .leaf) .leaf))) .leaf)) (.two (.reg [5] 3) .leaf))))
noncomputable def F146 (lp : Lp) (call : Nat -> List D -> Option D) (a0 : D) (a1 : D) : Option D :=
(D.asSl a0).bind fun l1 =>
(D.asSl a1).bind fun l2 =>
(D.bin .add (D.int .i64 (l1.length)) (D.int .i64 (l2.length))).bind fun x3 =>
(D.bin .add x3 (D.int .i64 1)).bind fun x4 =>
(D.natOf x4).bind fun i5 =>
 if i5 <= 1073741824 then ((lp (β := Nat × List D) (fun (v6 : List D) =>
(D.asSl a0).bind fun l7 =>
(D.bin .lss (v6.getD 0 (.bool false)) (D.int .i64 (l7.length))).bind fun x8 =>
(D.truth x8).bind fun b9 =>
 if b9 then ((lp (β := Nat × List D) (fun (v10 : List D) =>
(D.asSl a1).bind fun l11 =>
(D.bin .lss (v10.getD 0 (.bool false)) (D.int .i64 (l11.length))).bind fun x12 =>
(D.truth x12).bind fun b13 =>
 if b13 then ((D.bin .add (v6.getD 0 (.bool false)) (v10.getD 0 (.bool false))).bind fun x14 =>
(D.bin .add (v6.getD 0 (.bool false)) (v10.getD 0 (.bool false))).bind fun x15 =>
(D.idx x15 (List.length ((v10.getD 1 (.bool false)).els))).bind fun i16 =>
(((v10.getD 1 (.bool false)).els)[i16]?).bind fun x17 =>
(D.asSl a0).bind fun l18 =>
(D.idx (v6.getD 0 (.bool false)) (l18.length)).bind fun i19 =>
(l18[i19]?).bind fun x20 =>
(D.asSl a1).bind fun l21 =>
(D.idx (v10.getD 0 (.bool false)) (l21.length)).bind fun i22 =>
(l21[i22]?).bind fun x23 =>
(D.bin .mul x20 x23).bind fun x24 =>
(D.bin .add x17 x24).bind fun x25 =>
(D.idx x14 (List.length ((v10.getD 1 (.bool false)).els))).bind fun i26 =>
(((v10.getD 1 (.bool false)).els)[i26]?).bind fun x27 =>
(D.bin .add (v10.getD 0 (.bool false)) (D.int .i64 1)).bind fun x28 =>
 some (Sum.inl [x28, (D.sl (List.set ((v10.getD 1 (.bool false)).els) i26 x25))])) else (some (Sum.inr (0, [(D.sl ((v10.getD 1 (.bool false)).els))])))) [(D.int .i64 0), (D.sl ((v6.getD 1 (.bool false)).els))]).bind fun r29 =>
(lp (β := Nat × List D) (fun (v30 : List D) =>
(D.bin .lss (v30.getD 1 (.bool false)) (D.int .i64 (List.length ((v30.getD 2 (.bool false)).els)))).bind fun x31 =>
(D.truth x31).bind fun b32 =>
 if b32 then ((D.idx (v30.getD 1 (.bool false)) (List.length ((v30.getD 2 (.bool false)).els))).bind fun i33 =>
(((v30.getD 2 (.bool false)).els)[i33]?).bind fun x34 =>
(D.bin .add x34 (v30.getD 0 (.bool false))).bind fun x35 =>
(D.bin .rem x35 (D.int .i64 65536)).bind fun x36 =>
(D.idx (v30.getD 1 (.bool false)) (List.length ((v30.getD 2 (.bool false)).els))).bind fun i37 =>
(((v30.getD 2 (.bool false)).els)[i37]?).bind fun x38 =>
(D.bin .quo x35 (D.int .i64 65536)).bind fun x39 =>
(D.bin .add (v30.getD 1 (.bool false)) (D.int .i64 1)).bind fun x40 =>
 some (Sum.inl [x39, x40, (D.sl (List.set ((v30.getD 2 (.bool false)).els) i37 x36))])) else (some (Sum.inr (0, [(D.sl ((v30.getD 2 (.bool false)).els))])))) [(D.int .i64 0), (D.int .i64 0), (D.sl ((r29.2.getD 0 (.bool false)).els))]).bind fun r41 =>
(D.bin .add (v6.getD 0 (.bool false)) (D.int .i64 1)).bind fun x42 =>
 some (Sum.inl [x42, (D.sl ((r41.2.getD 0 (.bool false)).els))])) else (some (Sum.inr (0, [(D.sl ((v6.getD 1 (.bool false)).els))])))) [(D.int .i64 0), (D.sl (List.replicate i5 (D.int .i64 0)))]).bind fun r43 =>
(call 140 [(D.sl ((r43.2.getD 0 (.bool false)).els))]).bind fun r44 =>
 some r44) else none
theorem E146 (lp : Lp) (call : Nat -> List D -> Option D) (a0 : D) (a1 : D) : evF (envOf lp call (inlP lp call)) Tryz.f146 A146 [K5, K5] K5 [a0, a1] = F146 lp call a0 a1 := by kernel_rfl
theorem L146 {lp : Lp} (hlp : LpOk lp) : leafOk 146 (fun call xs => match xs with | [a0, a1] => F146 lp call a0 a1 | _ => none) :=
 leaf2 hlp (by kernel_rfl) (by kernel_rfl) (by kernel_rfl) (fun call a0 a1 => E146 lp call a0 a1)
def A147 : Ann := (.two .leaf (.two .leaf (.two (.two .leaf (.two (.loop ⟨[(2, .same (.ptr K23 4098 [])), (3, .same (.ptr K23 4099 [])), (4, .same (.ptr K11 4100 [])), (5, .same (.ptr K11 8197 [])), (8, .dv (Ty.int .i64))], [(4098, .keep K23 2), (4099, .keep K23 3), (4100, .keep K11 4), (8197, .one K11 (.dv K11))], []⟩ [(.exit 0, ⟨[(4, .same (.ptr K11 4100 [])), (5, .same (.ptr K11 8197 []))], [(4100, .keep K11 4), (8197, .one K11 (.dv K11))], []⟩)] (.two .leaf (.two .leaf (.two (.two (.two .leaf (.reg [] 9)) .leaf) .leaf)))) .leaf)) .leaf)))
noncomputable def F147 (lp : Lp) (call : Nat -> List D -> Option D) (a0 : D) (a1 : D) : Option D :=
(call 54 [(D.int .i64 0)]).bind fun r1 =>
(lp (β := Nat × List D) (fun (v2 : List D) =>
(D.bin .lss (v2.getD 0 (.bool false)) (D.int .i64 3)).bind fun x3 =>
(D.truth x3).bind fun b4 =>
 if b4 then ((D.idx (v2.getD 0 (.bool false)) 3).bind fun i5 =>
(D.get a0 [i5]).bind fun x6 =>
(D.idx (v2.getD 0 (.bool false)) 3).bind fun i7 =>
(D.get a1 [i7]).bind fun x8 =>
(call 61 [x6, x8]).bind fun r9 =>
(call 57 [(v2.getD 1 (.bool false)), r9]).bind fun r10 =>
(D.bin .add (v2.getD 0 (.bool false)) (D.int .i64 1)).bind fun x11 =>
 some (Sum.inl [x11, r10])) else (some (Sum.inr (0, [(v2.getD 1 (.bool false))])))) [(D.int .i64 0), r1]).bind fun r12 =>
 some (r12.2.getD 0 (.bool false))
theorem E147 (lp : Lp) (call : Nat -> List D -> Option D) (a0 : D) (a1 : D) : evF (envOf lp call (inlP lp call)) Tryz.f147 A147 [K23, K23] K11 [a0, a1] = F147 lp call a0 a1 := by kernel_rfl
theorem L147 {lp : Lp} (hlp : LpOk lp) : leafOk 147 (fun call xs => match xs with | [a0, a1] => F147 lp call a0 a1 | _ => none) :=
 leaf2 hlp (by kernel_rfl) (by kernel_rfl) (by kernel_rfl) (fun call a0 a1 => E147 lp call a0 a1)
def A148 : Ann := (.two .leaf (.two (.two .leaf (.two (.loop ⟨[(2, .same (.ptr K23 4098 [])), (6, .dv (Ty.int .i64))], [(4098, .one K23 (.dv K23))], [5]⟩ [(.exit 0, ⟨[(2, .same (.ptr K23 4098 []))], [(4098, .one K23 (.dv K23))], []⟩)] .leaf) .leaf)) .leaf))
noncomputable def F148 (lp : Lp) (call : Nat -> List D -> Option D) (a0 : D) : Option D :=
(lp (β := Nat × List D) (fun (v1 : List D) =>
(D.bin .lss (v1.getD 0 (.bool false)) (D.int .i64 3)).bind fun x2 =>
(D.truth x2).bind fun b3 =>
 if b3 then ((D.idx (v1.getD 0 (.bool false)) 3).bind fun i4 =>
(D.fld a0 i4).bind fun x5 =>
(call 54 [x5]).bind fun r6 =>
(D.idx (v1.getD 0 (.bool false)) 3).bind fun i7 =>
(D.set (v1.getD 1 (.bool false)) [i7] r6).bind fun x8 =>
(D.bin .add (v1.getD 0 (.bool false)) (D.int .i64 1)).bind fun x9 =>
 some (Sum.inl [x9, x8])) else (some (Sum.inr (0, [(v1.getD 1 (.bool false))])))) [(D.int .i64 0), (D.st [(D.st [(D.bool false), (D.bool false), (zeroD K10)]), (D.st [(D.bool false), (D.bool false), (zeroD K10)]), (D.st [(D.bool false), (D.bool false), (zeroD K10)])])]).bind fun r10 =>
 some (r10.2.getD 0 (.bool false))
theorem E148 (lp : Lp) (call : Nat -> List D -> Option D) (a0 : D) : evF (envOf lp call (inlP lp call)) Tryz.f148 A148 [K1] K23 [a0] = F148 lp call a0 := by kernel_rfl
theorem L148 {lp : Lp} (hlp : LpOk lp) : leafOk 148 (fun call xs => match xs with | [a0] => F148 lp call a0 | _ => none) :=
 leaf1 hlp (by kernel_rfl) (by kernel_rfl) (by kernel_rfl) (fun call a0 => E148 lp call a0)
def A152 : Ann := (.two .leaf (.two (.two (.loop ⟨[(0, .dv (Ty.int .i64)), (1, .dv (Ty.int .i64))], [], []⟩ [(.exit 0, ⟨[(0, .dv (Ty.int .i64))], [], []⟩)] (.two .leaf (.two (.reg [] 5) .leaf))) .leaf) .leaf))
noncomputable def F152 (lp : Lp) (call : Nat -> List D -> Option D) (a0 : D) (a1 : D) : Option D :=
(lp (β := Nat × List D) (fun (v1 : List D) =>
(D.truth (D.bool (!(D.beq (v1.getD 1 (.bool false)) (D.int .i64 0))))).bind fun b2 =>
 if b2 then ((D.bin .rem (v1.getD 0 (.bool false)) (v1.getD 1 (.bool false))).bind fun x3 =>
 some (Sum.inl [(v1.getD 1 (.bool false)), x3])) else (some (Sum.inr (0, [(v1.getD 0 (.bool false))])))) [a0, a1]).bind fun r4 =>
(D.un .neg (r4.2.getD 0 (.bool false))).bind fun x5 =>
(D.max2 (r4.2.getD 0 (.bool false)) x5).bind fun x6 =>
 some x6
theorem E152 (lp : Lp) (call : Nat -> List D -> Option D) (a0 : D) (a1 : D) : evF (envOf lp call (inlP lp call)) Tryz.f152 A152 [Ty.int .i64, Ty.int .i64] (Ty.int .i64) [a0, a1] = F152 lp call a0 a1 := by kernel_rfl
theorem L152 {lp : Lp} (hlp : LpOk lp) : leafOk 152 (fun call xs => match xs with | [a0, a1] => F152 lp call a0 a1 | _ => none) :=
 leaf2 hlp (by kernel_rfl) (by kernel_rfl) (by kernel_rfl) (fun call a0 a1 => E152 lp call a0 a1)
def A154 : Ann := (.two .leaf (.two (.two .leaf (.two (.loop ⟨[(2, .same (.ptr K1 4098 [])), (3, .same (.ptr K1 4099 [])), (4, .same (.ptr K1 4100 [])), (6, .dv (Ty.int .i64))], [(4098, .one K1 (.dv K1)), (4099, .keep K1 3), (4100, .keep K1 4)], []⟩ [(.exit 0, ⟨[(2, .same (.ptr K1 4098 [])), (4, .same (.ptr K1 4100 []))], [(4098, .one K1 (.dv K1)), (4100, .keep K1 4)], []⟩)] (.two .leaf (.two .leaf (.two (.two (.two .leaf (.reg [] 8)) .leaf) .leaf)))) .leaf)) .leaf))
noncomputable def F154 (lp : Lp) (call : Nat -> List D -> Option D) (a0 : D) (a1 : D) : Option D :=
(lp (β := Nat × List D) (fun (v1 : List D) =>
(D.bin .lss (v1.getD 0 (.bool false)) (D.int .i64 3)).bind fun x2 =>
(D.truth x2).bind fun b3 =>
 if b3 then ((D.idx (v1.getD 0 (.bool false)) 3).bind fun i4 =>
(D.get (v1.getD 1 (.bool false)) [i4]).bind fun x5 =>
(D.idx (v1.getD 0 (.bool false)) 3).bind fun i6 =>
(D.get a1 [i6]).bind fun x7 =>
(D.bin .add x5 x7).bind fun x8 =>
(D.idx (v1.getD 0 (.bool false)) 3).bind fun i9 =>
(D.set (v1.getD 1 (.bool false)) [i9] x8).bind fun x10 =>
(D.bin .add (v1.getD 0 (.bool false)) (D.int .i64 1)).bind fun x11 =>
 some (Sum.inl [x11, x10])) else (some (Sum.inr (0, [(v1.getD 1 (.bool false))])))) [(D.int .i64 0), a0]).bind fun r12 =>
 some (r12.2.getD 0 (.bool false))
theorem E154 (lp : Lp) (call : Nat -> List D -> Option D) (a0 : D) (a1 : D) : evF (envOf lp call (inlP lp call)) Tryz.f154 A154 [K1, K1] K1 [a0, a1] = F154 lp call a0 a1 := by kernel_rfl
theorem L154 {lp : Lp} (hlp : LpOk lp) : leafOk 154 (fun call xs => match xs with | [a0, a1] => F154 lp call a0 a1 | _ => none) :=
 leaf2 hlp (by kernel_rfl) (by kernel_rfl) (by kernel_rfl) (fun call a0 a1 => E154 lp call a0 a1)
def A155 : Ann := (.two .leaf (.two .leaf (.two (.two .leaf (.two (.loop ⟨[(1, .same (.ptr K23 4097 [])), (2, .same (.ptr K17 4098 [])), (3, .same (.ptr K11 8195 [])), (4, .dv (Ty.int .i64))], [(4097, .keep K23 1), (4098, .keep K17 2), (8195, .one K11 (.dv K11))], []⟩ [(.exit 0, ⟨[(1, .same (.ptr K23 4097 [])), (2, .same (.ptr K17 4098 [])), (3, .same (.ptr K11 8195 []))], [(4097, .keep K23 1), (4098, .keep K17 2), (8195, .one K11 (.dv K11))], []⟩)] (.two .leaf (.two (.two (.reg [] 5) .leaf) .leaf))) .leaf)) (.two .leaf (.two .leaf (.two .leaf (.two (.two .leaf (.two (.loop ⟨[(1, .same (.ptr K23 4097 [])), (2, .same (.ptr K17 4098 [])), (3, .same (.ptr K11 8195 [])), (5, .same (.ptr K17 28677 [])), (6, .dv (Ty.int .i64))], [(4097, .keep K23 1), (4098, .one K17 (.dv K17)), (8195, .keep K11 3), (28677, .one K17 (.dv K17))], []⟩ [(.ret, ⟨[(2, .same (.ptr K17 4098 []))], [(4098, .one K17 (.dv K17))], []⟩), (.exit 2, ⟨[(2, .same (.ptr K17 4098 [])), (5, .same (.ptr K17 28677 []))], [(4098, .one K17 (.dv K17)), (28677, .one K17 (.dv K17))], []⟩)] (.two .leaf (.two (.two (.two (.reg [] 10) .leaf) .leaf) .leaf))) .leaf)) .leaf)))))))
noncomputable def F155 (lp : Lp) (call : Nat -> List D -> Option D) (a0 : D) : Option D :=
(call 34 [(D.int .i64 0)]).bind fun r1 =>
(lp (β := Nat × List D) (fun (v2 : List D) =>
(D.bin .lss (v2.getD 0 (.bool false)) (D.int .i64 3)).bind fun x3 =>
(D.truth x3).bind fun b4 =>
 if b4 then ((D.idx (v2.getD 0 (.bool false)) 3).bind fun i5 =>
(D.get a0 [i5]).bind fun x6 =>
(call 85 [(v2.getD 1 (.bool false)), x6]).bind fun r7 =>
(D.bin .add (v2.getD 0 (.bool false)) (D.int .i64 1)).bind fun x8 =>
 some (Sum.inl [x8, r7])) else (some (Sum.inr (0, [(v2.getD 1 (.bool false))])))) [(D.int .i64 0), r1]).bind fun r9 =>
(D.get (r9.2.getD 0 (.bool false)) [0]).bind fun x10 =>
(D.truth x10).bind fun b11 =>
 if b11 then (some (D.st [(D.st [(D.int .i64 0), (D.int .i64 0), (D.int .i64 0)]), (D.int .i64 30)])) else ((call 83 [(r9.2.getD 0 (.bool false))]).bind fun r12 =>
(D.truth (D.bool (D.beq r12 (D.int .i64 0)))).bind fun b13 =>
 if b13 then (some (D.st [(D.st [(D.int .i64 0), (D.int .i64 0), (D.int .i64 0)]), (D.int .i64 31)])) else ((lp (β := Nat × List D) (fun (v14 : List D) =>
(D.bin .lss (v14.getD 0 (.bool false)) (D.int .i64 3)).bind fun x15 =>
(D.truth x15).bind fun b16 =>
 if b16 then ((D.idx (v14.getD 0 (.bool false)) 3).bind fun i17 =>
(D.get a0 [i17]).bind fun x18 =>
(call 87 [x18, (r9.2.getD 0 (.bool false))]).bind fun r19 =>
(call 186 [r19]).bind fun r20 =>
(D.tupAt r20 0).bind fun x21 =>
(D.tupAt r20 1).bind fun x22 =>
(D.un .not x22).bind fun x23 =>
(D.truth x23).bind fun b24 =>
 if b24 then (some (Sum.inr (0, [(D.st [(D.st [(D.int .i64 0), (D.int .i64 0), (D.int .i64 0)]), (D.int .i64 30)])]))) else ((D.idx (v14.getD 0 (.bool false)) 3).bind fun i25 =>
(D.set (v14.getD 2 (.bool false)) [0, i25] x21).bind fun x26 =>
(D.bin .add (v14.getD 0 (.bool false)) (D.int .i64 1)).bind fun x27 =>
 some (Sum.inl [x27, (v14.getD 1 (.bool false)), x26]))) else (some (Sum.inr (1, [(v14.getD 1 (.bool false)), (v14.getD 2 (.bool false))])))) [(D.int .i64 0), (D.st [(D.st [(D.int .i64 0), (D.int .i64 0), (D.int .i64 0)]), (D.int .i64 0)]), (D.st [(D.st [(D.int .i64 0), (D.int .i64 0), (D.int .i64 0)]), (D.int .i64 0)])]).bind fun r28 =>
 if r28.1 = 0 then (some (r28.2.getD 0 (.bool false))) else ((D.get (r28.2.getD 1 (.bool false)) [0]).bind fun x29 =>
(call 187 [x29]).bind fun r30 =>
(D.un .not r30).bind fun x31 =>
(D.truth x31).bind fun b32 =>
 if b32 then (some (D.st [(D.st [(D.int .i64 0), (D.int .i64 0), (D.int .i64 0)]), (D.int .i64 30)])) else (some (r28.2.getD 1 (.bool false))))))
theorem E155 (lp : Lp) (call : Nat -> List D -> Option D) (a0 : D) : evF (envOf lp call (inlP lp call)) Tryz.f155 A155 [K23] K17 [a0] = F155 lp call a0 := by kernel_rfl
theorem L155 {lp : Lp} (hlp : LpOk lp) : leafOk 155 (fun call xs => match xs with | [a0] => F155 lp call a0 | _ => none) :=
 leaf1 hlp (by kernel_rfl) (by kernel_rfl) (by kernel_rfl) (fun call a0 => E155 lp call a0)
def A156 : Ann := (.two .leaf (.two .leaf (.two (.two .leaf (.two (.loop ⟨[(6, .same (.ptr K1 4102 [])), (8, .same (.ptr K1 4104 [])), (11, .same (.ptr K1 8203 [])), (12, .dv (Ty.int .i64))], [(4102, .keep K1 6), (4104, .keep K1 8), (8203, .keep K1 11)], [0, 2]⟩ [(.ret, ⟨[(10, .dv Ty.bool)], [], []⟩), (.exit 0, ⟨[], [], []⟩)] (.two .leaf (.cut [(.normal, ⟨[(6, .same (.ptr K1 4102 [])), (8, .same (.ptr K1 4104 [])), (11, .same (.ptr K1 8203 []))], [(4102, .keep K1 6), (4104, .keep K1 8), (8203, .keep K1 11)], [0, 2, 12]⟩), (.ret, ⟨[(10, .dv Ty.bool)], [], []⟩)] [0, 2, 12] [4102, 4104, 8203] (.two (.two (.two (.reg [] 7) .leaf) (.two (.reg [] 7) (.two (.reg [] 5) .leaf))) .leaf) .leaf))) .leaf)) .leaf)))
noncomputable def F156 (lp : Lp) (call : Nat -> List D -> Option D) (a0 : D) (a1 : D) (a2 : D) (a3 : D) (a4 : D) : Option D :=
(call 112 [a4, a3]).bind fun r1 =>
(lp (β := Nat × List D) (fun (v2 : List D) =>
(D.asSl a0).bind fun l3 =>
(D.bin .lss (v2.getD 0 (.bool false)) (D.int .i64 (l3.length))).bind fun x4 =>
(D.truth x4).bind fun b5 =>
 if b5 then (((D.asSl a0).bind fun l6 =>
(D.idx (v2.getD 0 (.bool false)) (l6.length)).bind fun i7 =>
(l6[i7]?).bind fun x8 =>
(call 107 [a1, x8]).bind fun r9 =>
(D.truth (D.bool (!(D.beq r9 a2)))).bind fun b10 =>
 if b10 then (some (0, [])) else ((D.asSl a0).bind fun l11 =>
(D.idx (v2.getD 0 (.bool false)) (l11.length)).bind fun i12 =>
(l11[i12]?).bind fun x13 =>
(call 112 [x13, a3]).bind fun r14 =>
(call 123 [r1, r14]).bind fun r15 =>
(call 188 [a1, r15]).bind fun r16 =>
(D.bin .lss r16 (D.int .i64 0)).bind fun x17 =>
(D.truth x17).bind fun b18 =>
(if b18 then (some true) else ((D.truth (D.bool (D.beq r16 (D.int .i64 0)))).bind fun b19 =>
 if b19 then ((call 107 [r14, r1]).bind fun r20 =>
(D.bin .lss r20 (D.int .i64 0)).bind fun x21 =>
(D.truth x21).bind fun b22 =>
 if b22 then (some true) else ((call 107 [r14, r1]).bind fun r23 =>
(call 107 [r1, r1]).bind fun r24 =>
(D.bin .gtr r23 r24).bind fun x25 =>
 D.truth x25)) else (some false))).bind fun b26 =>
(D.truth (D.bool b26)).bind fun b27 =>
 if b27 then (some (1, [(D.bool false)])) else (some (0, [])))).bind fun (r28 : Nat × List D) =>
 if r28.1 = 0 then ((D.bin .add (v2.getD 0 (.bool false)) (D.int .i64 1)).bind fun x29 =>
 some (Sum.inl [x29])) else (some (Sum.inr (0, [(r28.2.getD 0 (.bool false))])))) else (some (Sum.inr (1, [])))) [(D.int .i64 0)]).bind fun r30 =>
 if r30.1 = 0 then (some (r30.2.getD 0 (.bool false))) else (some (D.bool true))
theorem E156 (lp : Lp) (call : Nat -> List D -> Option D) (a0 : D) (a1 : D) (a2 : D) (a3 : D) (a4 : D) : evF (envOf lp call (inlP lp call)) Tryz.f156 A156 [K2, K1, Ty.int .i64, K1, K1] Ty.bool [a0, a1, a2, a3, a4] = F156 lp call a0 a1 a2 a3 a4 := by kernel_rfl
theorem L156 {lp : Lp} (hlp : LpOk lp) : leafOk 156 (fun call xs => match xs with | [a0, a1, a2, a3, a4] => F156 lp call a0 a1 a2 a3 a4 | _ => none) :=
 leaf5 hlp (by kernel_rfl) (by kernel_rfl) (by kernel_rfl) (fun call a0 a1 a2 a3 a4 => E156 lp call a0 a1 a2 a3 a4)
def A165 : Ann := (.two .leaf (.cut [(.normal, ⟨[(0, .dv (Ty.int .u32)), (2, .dv (Ty.int .i64))], [], []⟩)] [] [] .leaf (.cut [(.normal, ⟨[(0, .dv (Ty.int .u32)), (2, .dv (Ty.int .i64))], [], []⟩)] [] [] .leaf .leaf)))
noncomputable def F165 (lp : Lp) (call : Nat -> List D -> Option D) (a0 : D) : Option D :=
((D.bin .geq a0 (D.int .u32 65536)).bind fun x1 =>
(D.truth x1).bind fun b2 =>
 if b2 then ((D.bin .shr a0 (D.int .u64 16)).bind fun x3 =>
 some (0, [x3, (D.int .i64 16)])) else (some (0, [a0, (D.int .i64 0)]))).bind fun (r4 : Nat × List D) =>
((D.bin .geq (r4.2.getD 0 (.bool false)) (D.int .u32 256)).bind fun x5 =>
(D.truth x5).bind fun b6 =>
 if b6 then ((D.bin .shr (r4.2.getD 0 (.bool false)) (D.int .u64 8)).bind fun x7 =>
(D.bin .add (r4.2.getD 1 (.bool false)) (D.int .i64 8)).bind fun x8 =>
 some (0, [x7, x8])) else (some (0, [(r4.2.getD 0 (.bool false)), (r4.2.getD 1 (.bool false))]))).bind fun (r9 : Nat × List D) =>
(D.conv .u8 (r9.2.getD 0 (.bool false))).bind fun x10 =>
(D.strAt (D.str ((strIn (codeOf Tryz.f165)).getD ByteArray.empty)) x10).bind fun x11 =>
(D.conv .i64 x11).bind fun x12 =>
(D.bin .add (r9.2.getD 1 (.bool false)) x12).bind fun x13 =>
 some x13
theorem E165 (lp : Lp) (call : Nat -> List D -> Option D) (a0 : D) : evF (envOf lp call (inlP lp call)) Tryz.f165 A165 [Ty.int .u32] (Ty.int .i64) [a0] = F165 lp call a0 := by kernel_rfl
theorem L165 {lp : Lp} (hlp : LpOk lp) : leafOk 165 (fun call xs => match xs with | [a0] => F165 lp call a0 | _ => none) :=
 leaf1 hlp (by kernel_rfl) (by kernel_rfl) (by kernel_rfl) (fun call a0 => E165 lp call a0)
def A167 : Ann := .leaf
noncomputable def F167 (lp : Lp) (call : Nat -> List D -> Option D) (a0 : D) : Option D :=
(D.get a0 [2]).bind fun x1 =>
(D.get a0 [0]).bind fun x2 =>
(D.truth x2).bind fun b3 =>
 if b3 then ((D.truth (D.bool (D.beq x1 (D.st (D.putParts (List.replicate 16 (D.int .u32 0)) []))))).bind fun b4 =>
(if b4 then ((D.get a0 [1]).bind fun x5 =>
(D.un .not x5).bind fun x6 =>
 D.truth x6) else (some false)).bind fun b7 =>
 some (D.bool b7)) else ((D.un .not (D.bool (D.beq x1 (D.st (D.putParts (List.replicate 16 (D.int .u32 0)) []))))).bind fun x8 =>
(D.truth x8).bind fun b9 =>
(if b9 then (some true) else ((D.get a0 [1]).bind fun x10 =>
(D.un .not x10).bind fun x11 =>
 D.truth x11)).bind fun b12 =>
 some (D.bool b12))
theorem E167 (lp : Lp) (call : Nat -> List D -> Option D) (a0 : D) : evF (envOf lp call (inlP lp call)) Tryz.f167 A167 [K11] Ty.bool [a0] = F167 lp call a0 := by kernel_rfl
theorem L167 {lp : Lp} (hlp : LpOk lp) : leafOk 167 (fun call xs => match xs with | [a0] => F167 lp call a0 | _ => none) :=
 leaf1 hlp (by kernel_rfl) (by kernel_rfl) (by kernel_rfl) (fun call a0 => E167 lp call a0)
def A168 : Ann := .leaf
noncomputable def F168 (lp : Lp) (call : Nat -> List D -> Option D) (a0 : D) (a1 : D) : Option D :=
(call 194 [a0]).bind fun r1 =>
(call 194 [a1]).bind fun r2 =>
(D.truth r1).bind fun b3 =>
 if b3 then ((D.truth r2).bind fun b4 =>
 if b4 then (some (D.int .i64 0)) else (some (D.int .i64 (-1)))) else ((D.truth r2).bind fun b5 =>
 if b5 then (some (D.int .i64 1)) else ((D.bin .lss a0 a1).bind fun x6 =>
(D.truth x6).bind fun b7 =>
 if b7 then (some (D.int .i64 (-1))) else ((D.bin .gtr a0 a1).bind fun x8 =>
(D.truth x8).bind fun b9 =>
 if b9 then (some (D.int .i64 1)) else (some (D.int .i64 0)))))
theorem E168 (lp : Lp) (call : Nat -> List D -> Option D) (a0 : D) (a1 : D) : evF (envOf lp call (inlP lp call)) Tryz.f168 A168 [Ty.int .u32, Ty.int .u32] (Ty.int .i64) [a0, a1] = F168 lp call a0 a1 := by kernel_rfl
theorem L168 {lp : Lp} (hlp : LpOk lp) : leafOk 168 (fun call xs => match xs with | [a0, a1] => F168 lp call a0 a1 | _ => none) :=
 leaf2 hlp (by kernel_rfl) (by kernel_rfl) (by kernel_rfl) (fun call a0 a1 => E168 lp call a0 a1)
def A169 : Ann := .leaf
noncomputable def F169 (lp : Lp) (call : Nat -> List D -> Option D)  : Option D :=
(call 54 [(D.int .i64 1)]).bind fun r1 =>
 some r1
theorem E169 (lp : Lp) (call : Nat -> List D -> Option D)  : evF (envOf lp call (inlP lp call)) Tryz.f169 A169 [] K11 [] = F169 lp call  := by kernel_rfl
theorem L169 {lp : Lp} (hlp : LpOk lp) : leafOk 169 (fun call xs => match xs with | [] => F169 lp call  | _ => none) :=
 leaf0 hlp (by kernel_rfl) (by kernel_rfl) (by kernel_rfl) (fun call  => E169 lp call )
def A170 : Ann := (.two .leaf (.two (.reg [] 5) (.two (.two .leaf (.two (.two (.reg [] 2) .leaf) .leaf)) (.two .leaf (.two .leaf (.two .leaf (.two .leaf (.two .leaf (.two (.reg [] 2) .leaf)))))))))
noncomputable def F170 (lp : Lp) (call : Nat -> List D -> Option D) (a0 : D) (a1 : D) : Option D :=
(call 127 [a1]).bind fun r1 =>
(call 127 [a0]).bind fun r2 =>
(call 121 [a0, a1]).bind fun r3 =>
(D.bin .lss r3 (D.int .i64 0)).bind fun x4 =>
(D.truth x4).bind fun b5 =>
 if b5 then (some (D.tup [(D.st (D.putParts (List.replicate 16 (D.int .u32 0)) [])), a0])) else ((D.truth (D.bool (D.beq r1 (D.int .i64 1)))).bind fun b6 =>
 if b6 then ((D.get a1 [0]).bind fun x7 =>
(call 195 [a0, x7]).bind fun r8 =>
(D.tupAt r8 0).bind fun x9 =>
(D.tupAt r8 1).bind fun x10 =>
 some (D.tup [x9, (D.st (D.putParts (List.replicate 16 (D.int .u32 0)) [(0, x10)]))])) else ((D.bin .sub r1 (D.int .i64 1)).bind fun x11 =>
(D.idx x11 16).bind fun i12 =>
(D.get a1 [i12]).bind fun x13 =>
(call 196 [x13]).bind fun r14 =>
(call 197 [a1, r14]).bind fun r15 =>
(D.tupAt r15 0).bind fun x16 =>
(D.tupAt r15 1).bind fun x17 =>
(call 197 [a0, r14]).bind fun r18 =>
(D.tupAt r18 0).bind fun x19 =>
(D.tupAt r18 1).bind fun x20 =>
 none))
theorem E170 (lp : Lp) (call : Nat -> List D -> Option D) (a0 : D) (a1 : D) : evF (envOf lp call (inlP lp call)) Tryz.f170 A170 [K10, K10] K34 [a0, a1] = F170 lp call a0 a1 := by kernel_rfl
theorem L170 {lp : Lp} (hlp : LpOk lp) : leafOk 170 (fun call xs => match xs with | [a0, a1] => F170 lp call a0 a1 | _ => none) :=
 leaf2 hlp (by kernel_rfl) (by kernel_rfl) (by kernel_rfl) (fun call a0 a1 => E170 lp call a0 a1)
def A172 : Ann := (.two .leaf (.two .leaf (.cut [(.ret, ⟨[(4, .same (.ptr K11 4100 [])), (5, .same (.ptr K11 4101 []))], [(4100, .one K11 (.dv K11)), (4101, .one K11 (.dv K11))], []⟩), (.normal, ⟨[(2, .same (.ptr K11 4098 [])), (3, .same (.ptr K11 4099 [])), (4, .same (.ptr K11 4100 [])), (5, .same (.ptr K11 4101 []))], [(4098, .keep K11 2), (4099, .keep K11 3), (4100, .one K11 (.dv K11)), (4101, .one K11 (.dv K11))], []⟩)] [] [4098, 4099] (.two .leaf (.two .leaf (.two (.two .leaf (.two .leaf (.two (.two (.reg [] 7) (.cut [(.normal, ⟨[(4, .same (.ptr K11 4100 [])), (5, .same (.ptr K11 4101 [])), (10, .dv (Ty.int .i64)), (11, .dv (Ty.int .i64))], [(4100, .keep K11 4), (4101, .keep K11 5)], []⟩)] [] [4100, 4101] .leaf .leaf)) .leaf))) .leaf))) (.two .leaf (.two .leaf (.cut [(.normal, ⟨[(3, .same (.ptr K11 4099 [])), (4, .same (.ptr K11 4100 [])), (5, .same (.ptr K11 4101 [])), (13, .same (.ptr K10 16397 [])), (14, .same (.ptr K11 20494 []))], [(4099, .keep K11 3), (4100, .keep K11 4), (4101, .keep K11 5), (16397, .one K10 (.dv K10)), (20494, .one K11 (.dv K11))], []⟩)] [] [4099, 4100, 4101] (.two .leaf (.two (.reg [] 7) .leaf)) (.two (.reg [] 5) .leaf)))))))
noncomputable def F172 (lp : Lp) (call : Nat -> List D -> Option D) (a0 : D) (a1 : D) : Option D :=
(call 118 [(D.sl [a0, a1])]).bind fun r1 =>
(D.un .not r1).bind fun x2 =>
(D.truth x2).bind fun b3 =>
(if b3 then (some true) else ((call 129 [a1]).bind fun r4 =>
 D.truth (D.bool (D.beq r4 (D.int .i64 0))))).bind fun b5 =>
(D.truth (D.bool b5)).bind fun b6 =>
 if b6 then ((call 119 []).bind fun r7 =>
(call 119 []).bind fun r8 =>
 some (D.tup [r7, r8])) else (((call 202 [a0]).bind fun r9 =>
(D.tupAt r9 0).bind fun x10 =>
(D.tupAt r9 1).bind fun x11 =>
(D.truth x11).bind fun b12 =>
(if b12 then (D.truth (D.bool (!(D.beq x10 (D.int .i64 (-9223372036854775808)))))) else (some false)).bind fun b13 =>
(D.truth (D.bool b13)).bind fun b14 =>
 if b14 then ((call 202 [a1]).bind fun r15 =>
(D.tupAt r15 0).bind fun x16 =>
(D.tupAt r15 1).bind fun x17 =>
(D.truth x17).bind fun b18 =>
(if b18 then (D.truth (D.bool (!(D.beq x16 (D.int .i64 (-9223372036854775808)))))) else (some false)).bind fun b19 =>
(D.truth (D.bool b19)).bind fun b20 =>
 if b20 then ((D.bin .quo x10 x16).bind fun x21 =>
(D.bin .rem x10 x16).bind fun x22 =>
((D.truth (D.bool (!(D.beq x22 (D.int .i64 0))))).bind fun b23 =>
(if b23 then ((D.bin .lss x22 (D.int .i64 0)).bind fun x24 =>
(D.bin .lss x16 (D.int .i64 0)).bind fun x25 =>
 D.truth (D.bool (!(D.beq x24 x25)))) else (some false)).bind fun b26 =>
(D.truth (D.bool b26)).bind fun b27 =>
 if b27 then ((D.bin .sub x21 (D.int .i64 1)).bind fun x28 =>
(D.bin .add x22 x16).bind fun x29 =>
 some (0, [x28, x29])) else (some (0, [x21, x22]))).bind fun (r30 : Nat × List D) =>
(call 54 [(r30.2.getD 0 (.bool false))]).bind fun r31 =>
(call 54 [(r30.2.getD 1 (.bool false))]).bind fun r32 =>
 some (0, [r31, r32])) else (some (1, [(D.st [(D.bool false), (D.bool false), (zeroD K10)]), (D.st [(D.bool false), (D.bool false), (zeroD K10)])]))) else (some (1, [(D.st [(D.bool false), (D.bool false), (zeroD K10)]), (D.st [(D.bool false), (D.bool false), (zeroD K10)])]))).bind fun (r33 : Nat × List D) =>
 if r33.1 = 0 then (some (D.tup [(r33.2.getD 0 (.bool false)), (r33.2.getD 1 (.bool false))])) else ((D.get a0 [2]).bind fun x34 =>
(D.get a1 [2]).bind fun x35 =>
(call 170 [x34, x35]).bind fun r36 =>
(D.tupAt r36 0).bind fun x37 =>
(D.tupAt r36 1).bind fun x38 =>
(D.get a0 [1]).bind fun x39 =>
(D.get a1 [1]).bind fun x40 =>
(call 116 [(D.bool (!(D.beq x39 x40))), x37]).bind fun r41 =>
((D.truth (D.bool (!(D.beq x38 (D.st (D.putParts (List.replicate 16 (D.int .u32 0)) [])))))).bind fun b42 =>
(if b42 then ((D.get a0 [1]).bind fun x43 =>
(D.get a1 [1]).bind fun x44 =>
 D.truth (D.bool (!(D.beq x43 x44)))) else (some false)).bind fun b45 =>
(D.truth (D.bool b45)).bind fun b46 =>
 if b46 then ((call 54 [(D.int .i64 1)]).bind fun r47 =>
(call 203 [r41, r47]).bind fun r48 =>
(D.get a1 [2]).bind fun x49 =>
(call 122 [x49, x38]).bind fun r50 =>
 some (0, [r50, r48])) else (some (0, [x38, r41]))).bind fun (r51 : Nat × List D) =>
(D.get a1 [1]).bind fun x52 =>
(call 116 [x52, (r51.2.getD 0 (.bool false))]).bind fun r53 =>
 some (D.tup [(r51.2.getD 1 (.bool false)), r53])))
theorem E172 (lp : Lp) (call : Nat -> List D -> Option D) (a0 : D) (a1 : D) : evF (envOf lp call (inlP lp call)) Tryz.f172 A172 [K11, K11] K35 [a0, a1] = F172 lp call a0 a1 := by kernel_rfl
theorem L172 {lp : Lp} (hlp : LpOk lp) : leafOk 172 (fun call xs => match xs with | [a0, a1] => F172 lp call a0 a1 | _ => none) :=
 leaf2 hlp (by kernel_rfl) (by kernel_rfl) (by kernel_rfl) (fun call a0 a1 => E172 lp call a0 a1)
def A173 : Ann := (.two .leaf (.two .leaf (.two .leaf (.two (.reg [] 10) (.two (.reg [] 14) .leaf)))))
noncomputable def F173 (lp : Lp) (call : Nat -> List D -> Option D) (a0 : D) (a1 : D) : Option D :=
(call 136 [a0]).bind fun r1 =>
(D.un .not r1).bind fun x2 =>
(D.truth x2).bind fun b3 =>
(if b3 then (some true) else ((call 136 [a1]).bind fun r4 =>
(D.un .not r4).bind fun x5 =>
 D.truth x5)).bind fun b6 =>
(D.truth (D.bool b6)).bind fun b7 =>
 if b7 then ((call 130 []).bind fun r8 =>
 some r8) else ((D.get a0 [1]).bind fun x9 =>
(D.get a1 [1]).bind fun x10 =>
(call 131 [x9, x10]).bind fun r11 =>
(D.get a0 [1]).bind fun x12 =>
(call 132 [x12, r11]).bind fun r13 =>
(D.get a1 [1]).bind fun x14 =>
(call 132 [x14, r11]).bind fun r15 =>
(D.get a0 [0]).bind fun x16 =>
(call 61 [x16, r15]).bind fun r17 =>
(D.get a1 [0]).bind fun x18 =>
(call 61 [x18, r13]).bind fun r19 =>
(call 57 [r17, r19]).bind fun r20 =>
(D.get a1 [1]).bind fun x21 =>
(call 61 [r13, x21]).bind fun r22 =>
(call 62 [r20, r22]).bind fun r23 =>
 some r23)
theorem E173 (lp : Lp) (call : Nat -> List D -> Option D) (a0 : D) (a1 : D) : evF (envOf lp call (inlP lp call)) Tryz.f173 A173 [K12, K12] K12 [a0, a1] = F173 lp call a0 a1 := by kernel_rfl
theorem L173 {lp : Lp} (hlp : LpOk lp) : leafOk 173 (fun call xs => match xs with | [a0, a1] => F173 lp call a0 a1 | _ => none) :=
 leaf2 hlp (by kernel_rfl) (by kernel_rfl) (by kernel_rfl) (fun call a0 a1 => E173 lp call a0 a1)
def A174 : Ann := (.two .leaf (.two .leaf (.two (.reg [] 12) (.two (.reg [] 12) .leaf))))
noncomputable def F174 (lp : Lp) (call : Nat -> List D -> Option D) (a0 : D) (a1 : D) : Option D :=
(call 136 [a0]).bind fun r1 =>
(D.un .not r1).bind fun x2 =>
(D.truth x2).bind fun b3 =>
(if b3 then (some true) else ((call 136 [a1]).bind fun r4 =>
(D.un .not r4).bind fun x5 =>
 D.truth x5)).bind fun b6 =>
(D.truth (D.bool b6)).bind fun b7 =>
 if b7 then ((call 130 []).bind fun r8 =>
 some r8) else ((D.get a0 [0]).bind fun x9 =>
(D.get a1 [1]).bind fun x10 =>
(call 62 [x9, x10]).bind fun r11 =>
(D.get a1 [0]).bind fun x12 =>
(D.get a0 [1]).bind fun x13 =>
(call 62 [x12, x13]).bind fun r14 =>
(D.get r11 [0]).bind fun x15 =>
(D.get r14 [0]).bind fun x16 =>
(call 61 [x15, x16]).bind fun r17 =>
(D.get r11 [1]).bind fun x18 =>
(D.get r14 [1]).bind fun x19 =>
(call 61 [x18, x19]).bind fun r20 =>
(D.get r17 [0]).bind fun x21 =>
(D.truth x21).bind fun b22 =>
(if b22 then (some true) else ((D.get r20 [0]).bind fun x23 =>
 D.truth x23)).bind fun b24 =>
(D.truth (D.bool b24)).bind fun b25 =>
 if b25 then ((call 130 []).bind fun r26 =>
 some r26) else (some (D.st [r17, r20])))
theorem E174 (lp : Lp) (call : Nat -> List D -> Option D) (a0 : D) (a1 : D) : evF (envOf lp call (inlP lp call)) Tryz.f174 A174 [K12, K12] K12 [a0, a1] = F174 lp call a0 a1 := by kernel_rfl
theorem L174 {lp : Lp} (hlp : LpOk lp) : leafOk 174 (fun call xs => match xs with | [a0, a1] => F174 lp call a0 a1 | _ => none) :=
 leaf2 hlp (by kernel_rfl) (by kernel_rfl) (by kernel_rfl) (fun call a0 a1 => E174 lp call a0 a1)
def A175 : Ann := .leaf
noncomputable def F175 (lp : Lp) (call : Nat -> List D -> Option D) (a0 : D) (a1 : D) : Option D :=
(D.bin .lss a1 (D.int .i64 0)).bind fun x1 =>
(D.truth x1).bind fun b2 =>
 if b2 then (some (D.int .i64 0)) else ((call 141 [a0, a1]).bind fun r3 =>
 some r3)
theorem E175 (lp : Lp) (call : Nat -> List D -> Option D) (a0 : D) (a1 : D) : evF (envOf lp call (inlP lp call)) Tryz.f175 A175 [K5, Ty.int .i64] (Ty.int .i64) [a0, a1] = F175 lp call a0 a1 := by kernel_rfl
theorem L175 {lp : Lp} (hlp : LpOk lp) : leafOk 175 (fun call xs => match xs with | [a0, a1] => F175 lp call a0 a1 | _ => none) :=
 leaf2 hlp (by kernel_rfl) (by kernel_rfl) (by kernel_rfl) (fun call a0 a1 => E175 lp call a0 a1)
end Go.Proofs.YtjjjkojfijpeeaaGreat.Sy
end
section
set_option maxRecDepth 20000
set_option maxHeartbeats 0
set_option linter.unusedVariables false
namespace Go.Proofs.YtjjjkojfijpeeaaGreat.Sy
open Go Go.Proofs
def A186 : Ann := (.two .leaf (.two .leaf (.two .leaf (.two .leaf (.two .leaf (.two .leaf (.cut [(.normal, ⟨[(6, .dv (Ty.int .i64))], [], []⟩)] [] [] .leaf .leaf)))))))
noncomputable def F186 (lp : Lp) (call : Nat -> List D -> Option D) (a0 : D) : Option D :=
(call 76 [a0]).bind fun r1 =>
(D.un .not r1).bind fun x2 =>
(D.truth x2).bind fun b3 =>
 if b3 then (some (D.tup [(D.int .i64 0), (D.bool false)])) else ((call 34 [(D.int .i64 (-9223372036854775808))]).bind fun r4 =>
(call 34 [(D.int .i64 9223372036854775807)]).bind fun r5 =>
(call 32 [a0, r4]).bind fun r6 =>
(D.bin .lss r6 (D.int .i64 0)).bind fun x7 =>
(D.truth x7).bind fun b8 =>
(if b8 then (some true) else ((call 32 [a0, r5]).bind fun r9 =>
(D.bin .gtr r9 (D.int .i64 0)).bind fun x10 =>
 D.truth x10)).bind fun b11 =>
(D.truth (D.bool b11)).bind fun b12 =>
 if b12 then (some (D.tup [(D.int .i64 0), (D.bool false)])) else ((D.get a0 [2, 1]).bind fun x13 =>
(D.conv .u64 x13).bind fun x14 =>
(D.bin .mul x14 (D.int .u64 4294967296)).bind fun x15 =>
(D.get a0 [2, 0]).bind fun x16 =>
(D.conv .u64 x16).bind fun x17 =>
(D.bin .add x15 x17).bind fun x18 =>
(D.conv .i64 x18).bind fun x19 =>
((D.get a0 [1]).bind fun x20 =>
(D.truth x20).bind fun b21 =>
 if b21 then ((D.un .neg x19).bind fun x22 =>
 some (0, [x22])) else (some (0, [x19]))).bind fun (r23 : Nat × List D) =>
 some (D.tup [(r23.2.getD 0 (.bool false)), (D.bool true)])))
theorem E186 (lp : Lp) (call : Nat -> List D -> Option D) (a0 : D) : evF (envOf lp call (inlP lp call)) Tryz.f186 A186 [K11] K32 [a0] = F186 lp call a0 := by kernel_rfl
theorem L186 {lp : Lp} (hlp : LpOk lp) : leafOk 186 (fun call xs => match xs with | [a0] => F186 lp call a0 | _ => none) :=
 leaf1 hlp (by kernel_rfl) (by kernel_rfl) (by kernel_rfl) (fun call a0 => E186 lp call a0)
def A187 : Ann := (.two .leaf (.two (.two .leaf (.two (.loop ⟨[(1, .same (.ptr K1 4097 [])), (3, .dv (Ty.int .i64))], [(4097, .keep K1 1)], []⟩ [(.ret, ⟨[(2, .dv Ty.bool)], [], []⟩), (.exit 0, ⟨[], [], []⟩)] .leaf) .leaf)) .leaf))
noncomputable def F187 (lp : Lp) (call : Nat -> List D -> Option D) (a0 : D) : Option D :=
(lp (β := Nat × List D) (fun (v1 : List D) =>
(D.bin .lss (v1.getD 0 (.bool false)) (D.int .i64 3)).bind fun x2 =>
(D.truth x2).bind fun b3 =>
 if b3 then ((D.idx (v1.getD 0 (.bool false)) 3).bind fun i4 =>
(D.get a0 [i4]).bind fun x5 =>
(D.bin .geq x5 (D.int .i64 2305843009213693952)).bind fun x6 =>
(D.truth x6).bind fun b7 =>
(if b7 then (some true) else ((D.idx (v1.getD 0 (.bool false)) 3).bind fun i8 =>
(D.get a0 [i8]).bind fun x9 =>
(D.bin .leq x9 (D.int .i64 (-2305843009213693952))).bind fun x10 =>
 D.truth x10)).bind fun b11 =>
(D.truth (D.bool b11)).bind fun b12 =>
 if b12 then (some (Sum.inr (0, [(D.bool false)]))) else ((D.bin .add (v1.getD 0 (.bool false)) (D.int .i64 1)).bind fun x13 =>
 some (Sum.inl [x13]))) else (some (Sum.inr (1, [])))) [(D.int .i64 0)]).bind fun r14 =>
 if r14.1 = 0 then (some (r14.2.getD 0 (.bool false))) else (some (D.bool true))
theorem E187 (lp : Lp) (call : Nat -> List D -> Option D) (a0 : D) : evF (envOf lp call (inlP lp call)) Tryz.f187 A187 [K1] Ty.bool [a0] = F187 lp call a0 := by kernel_rfl
theorem L187 {lp : Lp} (hlp : LpOk lp) : leafOk 187 (fun call xs => match xs with | [a0] => F187 lp call a0 | _ => none) :=
 leaf1 hlp (by kernel_rfl) (by kernel_rfl) (by kernel_rfl) (fun call a0 => E187 lp call a0)
def A188 : Ann := (.two .leaf (.two (.two .leaf (.two (.loop ⟨[(2, .same (.ptr K1 4098 [])), (3, .same (.ptr K1 4099 [])), (5, .dv (Ty.int .i64))], [(4098, .keep K1 2), (4099, .keep K1 3)], []⟩ [(.ret, ⟨[(4, .dv (Ty.int .i64))], [], []⟩), (.exit 0, ⟨[], [], []⟩)] (.two .leaf (.two (.two (.two .leaf (.two (.two (.reg [] 9) .leaf) .leaf)) .leaf) .leaf))) .leaf)) .leaf))
noncomputable def F188 (lp : Lp) (call : Nat -> List D -> Option D) (a0 : D) (a1 : D) : Option D :=
(lp (β := Nat × List D) (fun (v1 : List D) =>
(D.bin .lss (v1.getD 0 (.bool false)) (D.int .i64 3)).bind fun x2 =>
(D.truth x2).bind fun b3 =>
 if b3 then ((D.idx (v1.getD 0 (.bool false)) 3).bind fun i4 =>
(D.get a0 [i4]).bind fun x5 =>
(D.truth (D.bool (!(D.beq x5 (D.int .i64 0))))).bind fun b6 =>
 if b6 then ((D.idx (v1.getD 0 (.bool false)) 3).bind fun i7 =>
(D.get a0 [i7]).bind fun x8 =>
(call 215 [x8]).bind fun r9 =>
(D.idx (v1.getD 0 (.bool false)) 3).bind fun i10 =>
(D.get a1 [i10]).bind fun x11 =>
(call 215 [x11]).bind fun r12 =>
(D.bin .mul r9 r12).bind fun x13 =>
 some (Sum.inr (0, [x13]))) else ((D.bin .add (v1.getD 0 (.bool false)) (D.int .i64 1)).bind fun x14 =>
 some (Sum.inl [x14]))) else (some (Sum.inr (1, [])))) [(D.int .i64 0)]).bind fun r15 =>
 if r15.1 = 0 then (some (r15.2.getD 0 (.bool false))) else (some (D.int .i64 0))
theorem E188 (lp : Lp) (call : Nat -> List D -> Option D) (a0 : D) (a1 : D) : evF (envOf lp call (inlP lp call)) Tryz.f188 A188 [K1, K1] (Ty.int .i64) [a0, a1] = F188 lp call a0 a1 := by kernel_rfl
theorem L188 {lp : Lp} (hlp : LpOk lp) : leafOk 188 (fun call xs => match xs with | [a0, a1] => F188 lp call a0 a1 | _ => none) :=
 leaf2 hlp (by kernel_rfl) (by kernel_rfl) (by kernel_rfl) (fun call a0 a1 => E188 lp call a0 a1)
def A194 : Ann := .leaf
noncomputable def F194 (lp : Lp) (call : Nat -> List D -> Option D) (a0 : D) : Option D :=
 some (D.bool (!(D.beq a0 a0)))
theorem E194 (lp : Lp) (call : Nat -> List D -> Option D) (a0 : D) : evF (envOf lp call (inlP lp call)) Tryz.f194 A194 [Ty.int .u32] Ty.bool [a0] = F194 lp call a0 := by kernel_rfl
theorem L194 {lp : Lp} (hlp : LpOk lp) : leafOk 194 (fun call xs => match xs with | [a0] => F194 lp call a0 | _ => none) :=
 leaf1 hlp (by kernel_rfl) (by kernel_rfl) (by kernel_rfl) (fun call a0 => E194 lp call a0)
def A195 : Ann := (.two .leaf (.two .leaf (.two (.two .leaf (.two (.loop ⟨[(2, .same (.ptr K10 4098 [])), (4, .same (.ptr K10 4100 [])), (6, .dv (Ty.int .u64)), (7, .dv (Ty.int .i64))], [(4098, .keep K10 2), (4100, .one K10 (.dv K10))], [1]⟩ [(.exit 0, ⟨[(4, .same (.ptr K10 4100 [])), (6, .dv (Ty.int .u64))], [(4100, .one K10 (.dv K10))], []⟩)] .leaf) .leaf)) .leaf)))
noncomputable def F195 (lp : Lp) (call : Nat -> List D -> Option D) (a0 : D) (a1 : D) : Option D :=
(lp (β := Nat × List D) (fun (v1 : List D) =>
(D.bin .geq (v1.getD 1 (.bool false)) (D.int .i64 0)).bind fun x2 =>
(D.truth x2).bind fun b3 =>
 if b3 then ((D.bin .shl (v1.getD 0 (.bool false)) (D.int .u64 32)).bind fun x4 =>
(D.idx (v1.getD 1 (.bool false)) 16).bind fun i5 =>
(D.get a0 [i5]).bind fun x6 =>
(D.conv .u64 x6).bind fun x7 =>
(D.bin .or x4 x7).bind fun x8 =>
(D.conv .u64 a1).bind fun x9 =>
(D.bin .quo x8 x9).bind fun x10 =>
(D.conv .u32 x10).bind fun x11 =>
(D.idx (v1.getD 1 (.bool false)) 16).bind fun i12 =>
(D.set (v1.getD 2 (.bool false)) [i12] x11).bind fun x13 =>
(D.conv .u64 a1).bind fun x14 =>
(D.bin .rem x8 x14).bind fun x15 =>
(D.bin .sub (v1.getD 1 (.bool false)) (D.int .i64 1)).bind fun x16 =>
 some (Sum.inl [x15, x16, x13])) else (some (Sum.inr (0, [(v1.getD 0 (.bool false)), (v1.getD 2 (.bool false))])))) [(D.int .u64 0), (D.int .i64 15), (zeroD K10)]).bind fun r17 =>
(D.conv .u32 (r17.2.getD 0 (.bool false))).bind fun x18 =>
 some (D.tup [(r17.2.getD 1 (.bool false)), x18])
theorem E195 (lp : Lp) (call : Nat -> List D -> Option D) (a0 : D) (a1 : D) : evF (envOf lp call (inlP lp call)) Tryz.f195 A195 [K10, Ty.int .u32] K36 [a0, a1] = F195 lp call a0 a1 := by kernel_rfl
theorem L195 {lp : Lp} (hlp : LpOk lp) : leafOk 195 (fun call xs => match xs with | [a0, a1] => F195 lp call a0 a1 | _ => none) :=
 leaf2 hlp (by kernel_rfl) (by kernel_rfl) (by kernel_rfl) (fun call a0 a1 => E195 lp call a0 a1)
def A196 : Ann := .leaf
noncomputable def F196 (lp : Lp) (call : Nat -> List D -> Option D) (a0 : D) : Option D :=
(call 165 [a0]).bind fun r1 =>
(D.bin .sub (D.int .i64 32) r1).bind fun x2 =>
 some x2
theorem E196 (lp : Lp) (call : Nat -> List D -> Option D) (a0 : D) : evF (envOf lp call (inlP lp call)) Tryz.f196 A196 [Ty.int .u32] (Ty.int .i64) [a0] = F196 lp call a0 := by kernel_rfl
theorem L196 {lp : Lp} (hlp : LpOk lp) : leafOk 196 (fun call xs => match xs with | [a0] => F196 lp call a0 | _ => none) :=
 leaf1 hlp (by kernel_rfl) (by kernel_rfl) (by kernel_rfl) (fun call a0 => E196 lp call a0)
def A197 : Ann := (.two .leaf (.two .leaf (.two .leaf (.two (.two .leaf (.two (.loop ⟨[(2, .same (.ptr K10 4098 [])), (4, .same (.ptr K10 4100 [])), (6, .same (.ptr K10 8198 [])), (7, .dv (Ty.int .u64)), (9, .dv (Ty.int .i64))], [(4098, .keep K10 2), (4100, .keep K10 4), (8198, .one K10 (.dv K10))], [1]⟩ [(.exit 0, ⟨[(4, .same (.ptr K10 4100 [])), (6, .same (.ptr K10 8198 [])), (7, .dv (Ty.int .u64))], [(4100, .keep K10 4), (8198, .one K10 (.dv K10))], []⟩)] .leaf) .leaf)) .leaf))))
noncomputable def F197 (lp : Lp) (call : Nat -> List D -> Option D) (a0 : D) (a1 : D) : Option D :=
(lp (β := Nat × List D) (fun (v1 : List D) =>
(D.bin .lss (v1.getD 1 (.bool false)) (D.int .i64 16)).bind fun x2 =>
(D.truth x2).bind fun b3 =>
 if b3 then ((D.idx (v1.getD 1 (.bool false)) 16).bind fun i4 =>
(D.get a0 [i4]).bind fun x5 =>
(D.conv .u64 x5).bind fun x6 =>
(D.bin .shl x6 a1).bind fun x7 =>
(D.bin .or (v1.getD 0 (.bool false)) x7).bind fun x8 =>
(D.conv .u32 x8).bind fun x9 =>
(D.idx (v1.getD 1 (.bool false)) 16).bind fun i10 =>
(D.set (v1.getD 2 (.bool false)) [i10] x9).bind fun x11 =>
(D.bin .shr x8 (D.int .u64 32)).bind fun x12 =>
(D.bin .add (v1.getD 1 (.bool false)) (D.int .i64 1)).bind fun x13 =>
 some (Sum.inl [x12, x13, x11])) else (some (Sum.inr (0, [(v1.getD 0 (.bool false)), (v1.getD 2 (.bool false))])))) [(D.int .u64 0), (D.int .i64 0), (zeroD K10)]).bind fun r14 =>
(D.conv .u32 (r14.2.getD 0 (.bool false))).bind fun x15 =>
 some (D.tup [(r14.2.getD 1 (.bool false)), x15])
theorem E197 (lp : Lp) (call : Nat -> List D -> Option D) (a0 : D) (a1 : D) : evF (envOf lp call (inlP lp call)) Tryz.f197 A197 [K10, Ty.int .i64] K36 [a0, a1] = F197 lp call a0 a1 := by kernel_rfl
theorem L197 {lp : Lp} (hlp : LpOk lp) : leafOk 197 (fun call xs => match xs with | [a0, a1] => F197 lp call a0 a1 | _ => none) :=
 leaf2 hlp (by kernel_rfl) (by kernel_rfl) (by kernel_rfl) (fun call a0 a1 => E197 lp call a0 a1)
def A202 : Ann := .leaf
noncomputable def F202 (lp : Lp) (call : Nat -> List D -> Option D) (a0 : D) : Option D :=
(call 118 [(D.sl [a0])]).bind fun r1 =>
(D.un .not r1).bind fun x2 =>
(D.truth x2).bind fun b3 =>
(if b3 then (some true) else ((call 217 [a0]).bind fun r4 =>
(D.bin .gtr r4 (D.int .i64 64)).bind fun x5 =>
 D.truth x5)).bind fun b6 =>
(D.truth (D.bool b6)).bind fun b7 =>
 if b7 then (some (D.tup [(D.int .i64 0), (D.bool false)])) else ((D.get a0 [2, 1]).bind fun x8 =>
(D.conv .u64 x8).bind fun x9 =>
(D.bin .shl x9 (D.int .u64 32)).bind fun x10 =>
(D.get a0 [2, 0]).bind fun x11 =>
(D.conv .u64 x11).bind fun x12 =>
(D.bin .or x10 x12).bind fun x13 =>
(D.get a0 [1]).bind fun x14 =>
(D.truth x14).bind fun b15 =>
(if b15 then ((D.bin .leq x13 (D.int .u64 9223372036854775808)).bind fun x16 =>
 D.truth x16) else (some false)).bind fun b17 =>
(D.truth (D.bool b17)).bind fun b18 =>
 if b18 then ((D.un .neg x13).bind fun x19 =>
(D.conv .i64 x19).bind fun x20 =>
 some (D.tup [x20, (D.bool true)])) else ((D.get a0 [1]).bind fun x21 =>
(D.un .not x21).bind fun x22 =>
(D.truth x22).bind fun b23 =>
(if b23 then ((D.bin .lss x13 (D.int .u64 9223372036854775808)).bind fun x24 =>
 D.truth x24) else (some false)).bind fun b25 =>
(D.truth (D.bool b25)).bind fun b26 =>
 if b26 then ((D.conv .i64 x13).bind fun x27 =>
 some (D.tup [x27, (D.bool true)])) else (some (D.tup [(D.int .i64 0), (D.bool false)]))))
theorem E202 (lp : Lp) (call : Nat -> List D -> Option D) (a0 : D) : evF (envOf lp call (inlP lp call)) Tryz.f202 A202 [K11] K32 [a0] = F202 lp call a0 := by kernel_rfl
theorem L202 {lp : Lp} (hlp : LpOk lp) : leafOk 202 (fun call xs => match xs with | [a0] => F202 lp call a0 | _ => none) :=
 leaf1 hlp (by kernel_rfl) (by kernel_rfl) (by kernel_rfl) (fun call a0 => E202 lp call a0)
def A203 : Ann := (.two .leaf (.two (.reg [] 4) .leaf))
noncomputable def F203 (lp : Lp) (call : Nat -> List D -> Option D) (a0 : D) (a1 : D) : Option D :=
(call 68 [a1]).bind fun r1 =>
(call 57 [a0, r1]).bind fun r2 =>
 some r2
theorem E203 (lp : Lp) (call : Nat -> List D -> Option D) (a0 : D) (a1 : D) : evF (envOf lp call (inlP lp call)) Tryz.f203 A203 [K11, K11] K11 [a0, a1] = F203 lp call a0 a1 := by kernel_rfl
theorem L203 {lp : Lp} (hlp : LpOk lp) : leafOk 203 (fun call xs => match xs with | [a0, a1] => F203 lp call a0 a1 | _ => none) :=
 leaf2 hlp (by kernel_rfl) (by kernel_rfl) (by kernel_rfl) (fun call a0 a1 => E203 lp call a0 a1)
def A215 : Ann := .leaf
noncomputable def F215 (lp : Lp) (call : Nat -> List D -> Option D) (a0 : D) : Option D :=
(D.bin .lss a0 (D.int .i64 0)).bind fun x1 =>
(D.truth x1).bind fun b2 =>
 if b2 then (some (D.int .i64 (-1))) else ((D.bin .gtr a0 (D.int .i64 0)).bind fun x3 =>
(D.truth x3).bind fun b4 =>
 if b4 then (some (D.int .i64 1)) else (some (D.int .i64 0)))
theorem E215 (lp : Lp) (call : Nat -> List D -> Option D) (a0 : D) : evF (envOf lp call (inlP lp call)) Tryz.f215 A215 [Ty.int .i64] (Ty.int .i64) [a0] = F215 lp call a0 := by kernel_rfl
theorem L215 {lp : Lp} (hlp : LpOk lp) : leafOk 215 (fun call xs => match xs with | [a0] => F215 lp call a0 | _ => none) :=
 leaf1 hlp (by kernel_rfl) (by kernel_rfl) (by kernel_rfl) (fun call a0 => E215 lp call a0)
def A217 : Ann := .leaf
noncomputable def F217 (lp : Lp) (call : Nat -> List D -> Option D) (a0 : D) : Option D :=
(D.get a0 [2]).bind fun x1 =>
(call 127 [x1]).bind fun r2 =>
(call 118 [(D.sl [a0])]).bind fun r3 =>
(D.un .not r3).bind fun x4 =>
(D.truth x4).bind fun b5 =>
(if b5 then (some true) else (D.truth (D.bool (D.beq r2 (D.int .i64 0))))).bind fun b6 =>
(D.truth (D.bool b6)).bind fun b7 =>
 if b7 then (some (D.int .i64 0)) else ((D.bin .sub r2 (D.int .i64 1)).bind fun x8 =>
(D.bin .mul (D.int .i64 32) x8).bind fun x9 =>
(D.bin .sub r2 (D.int .i64 1)).bind fun x10 =>
(D.idx x10 16).bind fun i11 =>
(D.get a0 [2, i11]).bind fun x12 =>
(call 165 [x12]).bind fun r13 =>
(D.bin .add x9 r13).bind fun x14 =>
 some x14)
theorem E217 (lp : Lp) (call : Nat -> List D -> Option D) (a0 : D) : evF (envOf lp call (inlP lp call)) Tryz.f217 A217 [K11] (Ty.int .i64) [a0] = F217 lp call a0 := by kernel_rfl
theorem L217 {lp : Lp} (hlp : LpOk lp) : leafOk 217 (fun call xs => match xs with | [a0] => F217 lp call a0 | _ => none) :=
 leaf1 hlp (by kernel_rfl) (by kernel_rfl) (by kernel_rfl) (fun call a0 => E217 lp call a0)
end Go.Proofs.YtjjjkojfijpeeaaGreat.Sy
end
section
namespace Go.Proofs.YtjjjkojfijpeeaaGreat.Sy
open Go Go.Proofs Go.Sort Go.Lib
def cmpI (E : Env) (g : Nat) (x y : D) : Option Int := (E.call g [x, y]).bind fun r => match r with | .int .i64 n => some n | _ => none
def ltD (E : Env) (g : Nat) (x y : D) : Bool := match cmpI E g x y with | some n => decide (n < 0) | none => false
def geD (E : Env) (g : Nat) (x y : D) : Bool := match cmpI E g x y with | some n => decide (0 <= n) | none => false
def insL (lt : D -> D -> Bool) (x : D) : List D -> List D
 | [] => [x]
 | y :: l => if lt x y then x :: y :: l else y :: insL lt x l
def sortL (lt : D -> D -> Bool) : List D -> List D
 | [] => []
 | x :: l => insL lt x (sortL lt l)
def chkS (E : Env) (g : Nat) : List D -> Bool
 | [] => true
 | x :: l => geD E g x x && l.all (fun y => ltD E g x y && geD E g y x) && chkS E g l
def sortD (E : Env) (g : Nat) (l : List D) : Option (List D) := if chkS E g (sortL (ltD E g) l) then some (sortL (ltD E g) l) else none
theorem insL_perm (lt : D -> D -> Bool) (x : D) : ∀ l : List D, (insL lt x l).Perm (x :: l)
 | [] => .refl _
 | y :: l => by
   simp only [insL]
   split
   . exact .refl _
   . exact ((insL_perm lt x l).cons y).trans (.swap x y l)
theorem sortL_perm (lt : D -> D -> Bool) : ∀ l : List D, (sortL lt l).Perm l
 | [] => .refl _
 | x :: l => (insL_perm lt x _).trans ((sortL_perm lt l).cons x)
section
variable {E : Env} {g : Nat}
theorem chkS_spec : ∀ {l : List D}, chkS E g l = true -> l.Pairwise (fun x y => ltD E g x y = true /\ geD E g y x = true) /\ ∀ x ∈ l, geD E g x x = true
 | [], _ => ⟨.nil, by simp⟩
 | x :: l, h => by
   simp only [chkS, Bool.and_eq_true, List.all_eq_true] at h
   obtain ⟨⟨h1, h2⟩, h3⟩ := h
   obtain ⟨k1, k2⟩ := chkS_spec h3
   exact ⟨List.pairwise_cons.2 ⟨h2, k1⟩, fun y hy => by
     rcases List.mem_cons.1 hy with rfl | hy
     . exact h1
     . exact k2 y hy⟩
theorem ge_lt {x y : D} (h : geD E g x y = true) : ltD E g x y = false := by
 unfold geD at h
 unfold ltD
 split at h
 . rename_i n hn
   simp only [decide_eq_true_eq] at h
   simp only [decide_eq_false_iff_not]; omega
 . cases h
theorem said {x y : D} (h : ltD E g x y = true \/ geD E g x y = true) : ∃ n, cmpI E g x y = some n := by
 rcases h with h | h
 . unfold ltD at h; split at h
   . exact ⟨_, by assumption⟩
   . cases h
 . unfold geD at h; split at h
   . exact ⟨_, by assumption⟩
   . cases h
variable {l : List D} (hc : chkS E g l = true)
include hc
theorem chk_idx {i j : Nat} {x y : D} (hi : l[i]? = some x) (hj : l[j]? = some y) : (ltD E g x y = true ↔ i < j) /\ ∃ n, cmpI E g x y = some n := by
 obtain ⟨h1, h2⟩ := chkS_spec hc
 obtain ⟨hi', rfl⟩ := List.getElem?_eq_some_iff.1 hi
 obtain ⟨hj', rfl⟩ := List.getElem?_eq_some_iff.1 hj
 rcases Nat.lt_trichotomy i j with k | k | k
 . have := List.pairwise_iff_getElem.1 h1 i j hi' hj' k
   exact ⟨⟨fun _ => k, fun _ => this.1⟩, said (.inl this.1)⟩
 . subst k
   have := h2 _ (List.getElem_mem hi')
   exact ⟨⟨fun h => (by rw [ge_lt this] at h; cases h), fun h => absurd h (Nat.lt_irrefl _)⟩, said (.inr this)⟩
 . have := List.pairwise_iff_getElem.1 h1 j i hj' hi' k
   exact ⟨⟨fun h => (by rw [ge_lt this.2] at h; cases h), fun h => by omega⟩, said (.inr this.2)⟩
theorem chk_nodup : l.Nodup := by
 obtain ⟨h1, h2⟩ := chkS_spec hc
 refine h1.imp fun {x y} h e => ?_
 subst e
 rw [ge_lt h.2] at h; cases h.1
def cfS (E : Env) (g : Nat) (l : List D) (x y : {d : D // d ∈ l}) : Int := (cmpI E g x.1 y.1).getD 0
omit hc in
theorem ltOf_cfS {x y : {d : D // d ∈ l}} : ltOf (cfS E g l) x y = ltD E g x.1 y.1 := by
 unfold ltOf cfS ltD
 cases cmpI E g x.1 y.1 <;> simp
theorem swo_cfS : SWO (ltOf (cfS E g l)) := by
 have ix : ∀ x : {d : D // d ∈ l}, ∃ i, l[i]? = some x.1 := fun x => by
   obtain ⟨i, h1, h2⟩ := List.getElem_of_mem x.2
   exact ⟨i, by rw [List.getElem?_eq_getElem h1, h2]⟩
 have key : ∀ (x y : {d : D // d ∈ l}) (i j : Nat), l[i]? = some x.1 -> l[j]? = some y.1 -> (ltOf (cfS E g l) x y = true ↔ i < j) := fun x y i j hi hj => by rw [ltOf_cfS]; exact (chk_idx hc hi hj).1
 refine ⟨fun x => ?_, fun x y z h1 h2 => ?_, fun x y z h1 h2 => ?_⟩
 . obtain ⟨i, hi⟩ := ix x
   cases h : ltOf (cfS E g l) x x with
   | false => rfl
   | true => exact absurd ((key x x i i hi hi).1 h) (Nat.lt_irrefl _)
 . obtain ⟨i, hi⟩ := ix x; obtain ⟨j, hj⟩ := ix y; obtain ⟨k, hk⟩ := ix z
   have a := (key x y i j hi hj).1 h1; have b := (key y z j k hj hk).1 h2
   exact (key x z i k hi hk).2 (by omega)
 . obtain ⟨i, hi⟩ := ix x; obtain ⟨j, hj⟩ := ix y; obtain ⟨k, hk⟩ := ix z
   have a : ¬ i < j := fun h => by rw [(key x y i j hi hj).2 h] at h1; cases h1
   have b : ¬ j < k := fun h => by rw [(key y z j k hj hk).2 h] at h2; cases h2
   cases h : ltOf (cfS E g l) x z with
   | false => rfl
   | true => have := (key x z i k hi hk).1 h; omega
theorem sorted_is [Inhabited {d : D // d ∈ l}] {d d' : Array {d : D // d ∈ l}} (hd : (d.toList.map (·.1)).Perm l) (hp : PermIn 0 d.size d d') (hs : SortedIn (ltOf (cfS E g l)) 0 d.size d') : d'.toList.map (·.1) = l := by
 obtain ⟨p1, _, p3⟩ := hp
 have q : d'.toList.Perm d.toList := by
   have e1 : d'.extract 0 d.size = d' := by rw [<- p1]; simp
   rw [e1] at p3
   simpa using p3
 have qp : (d'.toList.map (·.1)).Perm l := (q.map _).trans hd
 have hlen : (d'.toList.map (·.1)).length = l.length := qp.length_eq
 have nd := qp.symm.nodup (chk_nodup hc)
 have asc : (d'.toList.map (·.1)).Pairwise (fun x y => ltD E g x y = true) := by
   rw [List.pairwise_iff_getElem]
   intro i j hi hj hij
   simp only [List.length_map, Array.length_toList] at hi hj
   have h1 := hs i j (Nat.zero_le _) hij (by omega)
   rw [getElem!_pos d' j hj, getElem!_pos d' i hi, ltOf_cfS] at h1
   simp only [List.getElem_map, Array.getElem_toList]
   obtain ⟨a, ha1, ha2⟩ := List.getElem_of_mem (d'[i]).2
   obtain ⟨b, hb1, hb2⟩ := List.getElem_of_mem (d'[j]).2
   have ea : l[a]? = some (d'[i]).1 := by rw [List.getElem?_eq_getElem ha1, ha2]
   have eb : l[b]? = some (d'[j]).1 := by rw [List.getElem?_eq_getElem hb1, hb2]
   have k1 : ¬ b < a := fun h => by rw [(chk_idx hc eb ea).1.2 h] at h1; cases h1
   have k2 : a ≠ b := fun e => by
     subst e
     have : (d'[i]).1 = (d'[j]).1 := by rw [<- ha2, <- hb2]
     have := List.pairwise_iff_getElem.1 nd i j (by simpa using hi) (by simpa using hj) hij
     simp only [List.getElem_map, Array.getElem_toList] at this
     contradiction
   exact (chk_idx hc ea eb).1.2 (by omega)
 have key : ∀ {a b : List D}, a.Pairwise (fun x y => ltD E g x y = true) -> b.Pairwise (fun x y => ltD E g x y = true) -> a.Perm b -> (∀ x ∈ a, x ∈ l) -> a = b := by
   intro a
   induction a with
   | nil => intro b _ _ hp _; exact hp.symm.eq_nil.symm ▸ rfl
   | cons x a ih =>
     intro b ha hb hp hm
     cases b with
     | nil => exact absurd hp.eq_nil (by simp)
     | cons y b =>
       obtain ⟨a1, a2⟩ := List.pairwise_cons.1 ha
       obtain ⟨b1, b2⟩ := List.pairwise_cons.1 hb
       have e : x = y := by
         rcases List.mem_cons.1 (hp.subset List.mem_cons_self) with e | m1
         . exact e
         . rcases List.mem_cons.1 (hp.symm.subset (List.mem_cons_self (a := y))) with e | m2
           . exact e.symm
           . exfalso
             have h1 := b1 x m1
             have h2 := a1 y m2
             obtain ⟨i, hi1, hi2⟩ := List.getElem_of_mem (hm x List.mem_cons_self)
             obtain ⟨j, hj1, hj2⟩ := List.getElem_of_mem (hm y (List.mem_cons_of_mem _ m2))
             have ei : l[i]? = some x := by rw [List.getElem?_eq_getElem hi1, hi2]
             have ej : l[j]? = some y := by rw [List.getElem?_eq_getElem hj1, hj2]
             have := (chk_idx hc ei ej).1.1 h2
             have := (chk_idx hc ej ei).1.1 h1
             omega
       subst e
       rw [ih a2 b2 ((List.perm_cons x).1 hp) (fun z hz => hm z (List.mem_cons_of_mem _ hz))]
 exact key asc ((chkS_spec hc).1.imp fun h => h.1) qp fun x hx => qp.subset hx
end
end Go.Proofs.YtjjjkojfijpeeaaGreat.Sy
end
section
namespace Go.Proofs.YtjjjkojfijpeeaaGreat.Sy
open Go Go.Proofs Go.Sort Go.Lib
def leafB : D -> Bool
 | .int .. => true
 | .bool _ => true
 | _ => false
def valOf : D -> Value
 | .int k n => .int k n
 | .bool b => .bool b
 | _ => undef
mutual
theorem leaf_flat : ∀ (t : Ty) (x : D), cmpTy t = true -> wt t x -> ∀ d ∈ x.flat, leafB d = true
 | .int k, x, _, h => by simp only [wt] at h; obtain ⟨n, rfl⟩ := h; intro d hd; simp only [D.flat, List.mem_singleton] at hd; subst hd; rfl
 | .bool, x, _, h => by simp only [wt] at h; obtain ⟨n, rfl⟩ := h; intro d hd; simp only [D.flat, List.mem_singleton] at hd; subst hd; rfl
 | .str, x, hc, h => by simp [cmpTy] at hc
 | .st ts, x, hc, h => by
   simp only [wt] at h
   obtain ⟨l, rfl, hl⟩ := h
   simp only [cmpTy] at hc
   simp only [D.flat]
   exact leaf_flats ts l hc hl
 | .arr n t, x, hc, h => by
   simp only [wt] at h
   obtain ⟨l, rfl, hn, hl⟩ := h
   clear hn
   simp only [cmpTy] at hc
   simp only [D.flat]
   induction l with
   | nil => intro d hd; simp [D.flats] at hd
   | cons y l ih =>
     intro d hd
     simp only [D.flats, List.mem_append] at hd
     rcases hd with hd | hd
     . exact leaf_flat t y hc (hl y List.mem_cons_self) d hd
     . exact ih (fun z hz => hl z (List.mem_cons_of_mem _ hz)) d hd
 | .sl t, x, hc, h => by simp [cmpTy] at hc
 | .tup l, x, hc, h => by simp [cmpTy] at hc
 | .fn, x, hc, h => by simp [cmpTy] at hc
theorem leaf_flats : ∀ (ts : List Ty) (l : List D), cmpTys ts = true -> wts ts l -> ∀ d ∈ D.flats l, leafB d = true
 | [], l, _, h => by simp only [wts] at h; subst h; intro d hd; simp [D.flats] at hd
 | t :: ts, l, hc, h => by
   simp only [wts] at h
   obtain ⟨y, l', rfl, h1, h2⟩ := h
   simp only [cmpTys, Bool.and_eq_true] at hc
   intro d hd
   simp only [D.flats, List.mem_append] at hd
   rcases hd with hd | hd
   . exact leaf_flat t y hc.1 h1 d hd
   . exact leaf_flats ts l' hc.2 h2 d hd
end
theorem CR_leaf {w : World} {S : Nat -> Nat -> Prop} {d : D} {c : Value} (hl : leafB d = true) : CR w S d c ↔ c = valOf d := by
 cases d <;> simp only [leafB] at hl <;> first | (cases hl; done) | skip
 . exact ⟨fun h => h.int_inv, fun h => by subst h; exact .int _ _⟩
 . exact ⟨fun h => h.bool_inv, fun h => by subst h; exact .bool _⟩
theorem CRl_leaf {w : World} {S : Nat -> Nat -> Prop} {ds : List D} {cs : List Value} (hl : ∀ d ∈ ds, leafB d = true) : CRl w S ds cs ↔ cs = ds.map valOf := by
 constructor
 . rintro ⟨h1, h2⟩
   apply List.ext_getElem?
   intro i
   rw [List.getElem?_map]
   rcases Nat.lt_or_ge i ds.length with k | k
   . have a := List.getElem?_eq_getElem k
     have b : cs[i]? = some cs[i] := List.getElem?_eq_getElem (h1 ▸ k)
     rw [a, b]
     simp only [Option.map_some, Option.some.injEq]
     exact (CR_leaf (hl _ (List.getElem_mem k))).1 (h2 i _ _ a b)
   . rw [List.getElem?_eq_none k, List.getElem?_eq_none (by omega)]; rfl
 . rintro rfl
   refine ⟨by simp, fun i d c hd hc => ?_⟩
   rw [List.getElem?_map, hd] at hc
   simp only [Option.map_some, Option.some.injEq] at hc
   exact (CR_leaf (hl d (List.mem_of_getElem? hd))).2 hc.symm
theorem flats_div {k : Nat} (hk : 0 < k) : ∀ (l : List D), (∀ x ∈ l, x.flat.length = k) -> ∀ t, (D.flats l)[t]? = (l[t / k]?).bind fun x => x.flat[t % k]?
 | [], _, t => by simp [D.flats]
 | x :: l, h, t => by
   have hx := h x List.mem_cons_self
   simp only [D.flats]
   rcases Nat.lt_or_ge t k with c | c
   . rw [List.getElem?_append_left (by omega), Nat.div_eq_of_lt c, Nat.mod_eq_of_lt c]; rfl
   . rw [List.getElem?_append_right (by omega), hx, flats_div hk l (fun y hy => h y (List.mem_cons_of_mem _ hy)) (t - k)]
     have e1 : t / k = (t - k) / k + 1 := by rw [Nat.div_eq_sub_div hk c]
     have e2 : t % k = (t - k) % k := Nat.mod_eq_sub_mod c
     rw [e1, e2]; rfl
structure SortOk (P : Program) (f : Nat) (e : Ty) : Prop where
 cmp : cmpTy e = true
 agg : aggTy e = true
 pos : 0 < e.size
 nt : noTup e = true
 fn : ∃ fn, P.funcs[f]? = some fn /\ (fn.name == "runtime.NumGoroutine") = false /\ fn.body.isSome = true
 empty : ∀ (p : Option Addr) (cap : Nat) (fv : Value) (w : World), Calls P f #[.slice p 0 cap, fv] w fun en w' => en = .returned (.tuple #[]) /\ w' = w
 whole : ∀ (α : Type) [Inhabited α] (enc : α -> List Value) (_ : ∀ x, (enc x).length = e.size) (_ : ∀ x, ∀ v ∈ enc x, v.oneCell' = true) (cf : α -> α -> Int) (_ : SWO (ltOf cf)) (g : Nat) (blk off cap : Nat) (d : Array α) (w : World)
   (_ : ∀ args w, (callFunc g args).run P w = .ok (.enter g args) w) (_ : CmpLays P g #[] enc e.size cf blk off d.size w) (_ : HoldsK enc e.size w blk off d) (_ : blk < w.heap.size) (_ : d.size < 4611686018427387904),
   Calls P f #[.slice (some ⟨blk, off, none⟩) d.size cap, .func (.func g) #[] #[]] w fun en w' => en = .returned (.tuple #[]) /\ ∃ d' n os, PermIn 0 d.size d d' /\ SortedIn (ltOf cf) 0 d.size d' /\ w' = sortWorldK enc e.size w blk off n d' os
section
variable {P : Program} {E : Env}
theorem enters_sig (hE : EnvOk P E) {g : Nat} {ptys : List Ty} {rty : Ty} (h : E.sig g = some (ptys, rty)) (args : Array Value) (w : World) : (callFunc g args).run P w = .ok (.enter g args) w := by
 obtain ⟨_, _, fn, f1, f2, f3⟩ := hE.sig g ptys rty h
 have f2' : ¬ fn.name = "runtime.NumGoroutine" := by simpa using f2
 have hb' : ¬ fn.body = none := by intro hh; rw [hh] at f3; cases f3
 simp [callFunc, f1, f2', hb']
theorem sort_call (hE : EnvOk P E) {f : Nat} {e : Ty} (hf : SortOk P f e) {g : Nat} (hsig : E.sig g = some ([e, e], .int .i64)) {l l' : List D} (hwt : ∀ x ∈ l, wt e x) (hs : sortD E g l = some l') (hne : l ≠ []) {w : World} {b off cap : Nat} {row : Array Value}
   (hr : row? w b = some row) (hc : ∀ (i : Nat) (d : D), (D.flats l)[i]? = some d -> w.cell? ⟨b, off + i, none⟩ = some (valOf d)) (hlen : l.length < 4611686018427387904) :
   Calls P f #[.slice (some ⟨b, off, none⟩) l.length cap, .func (.func g) #[] #[]] w fun en w' => en = .returned (.tuple #[]) /\ l'.Perm l /\ w.drawn <= w'.drawn /\ w'.tape = w.tape /\ w'.os = w.os /\ w'.output = w.output /\ w.heap.size <= w'.heap.size ∧
     (∀ b', b' ≠ b -> b' < w.heap.size -> w'.heap[b']? = w.heap[b']?) /\ ∀ (i : Nat) (d : D), (D.flats l')[i]? = some d -> w'.cell? ⟨b, off + i, none⟩ = some (valOf d) := by
 have hsd : chkS E g l' = true /\ l' = sortL (ltD E g) l := by
   unfold sortD at hs
   split at hs
   . rename_i h; cases hs; exact ⟨h, rfl⟩
   . cases hs
 obtain ⟨hchk, hl'⟩ := hsd
 have hperm : l'.Perm l := hl' ▸ sortL_perm _ l
 have hmem : ∀ x ∈ l, x ∈ l' := fun x hx => hperm.symm.subset hx
 have hwt' : ∀ x ∈ l', wt e x := fun x hx => hwt x (hperm.subset hx)
 obtain ⟨x0, hx0⟩ : ∃ x0, x0 ∈ l' := by
   cases l with
   | nil => exact absurd rfl hne
   | cons x l => exact ⟨x, hmem x List.mem_cons_self⟩
 have hinh : Inhabited {d : D // d ∈ l'} := ⟨⟨x0, hx0⟩⟩
 have hfl : ∀ x : {d : D // d ∈ l'}, x.1.flat.length = e.size := fun x => wt_len e x.1 (hwt' x.1 x.2) hf.nt
 have hleaf : ∀ x : {d : D // d ∈ l'}, ∀ d ∈ x.1.flat, leafB d = true := fun x => leaf_flat e x.1 hf.cmp (hwt' x.1 x.2)
 obtain ⟨d, hd⟩ : ∃ d : Array {d : D // d ∈ l'}, d.toList.map (·.1) = l := ⟨(l.pmap Subtype.mk hmem).toArray, by simp [List.map_pmap]⟩
 have hds : d.size = l.length := by rw [<- hd]; simp
 have hbs : b < w.heap.size := by
   unfold row? at hr
   cases hb : w.heap[b]? with
   | none => rw [hb] at hr; cases hr
   | some o => exact (Array.getElem?_eq_some_iff.1 hb).1
 have hfro : ∀ o, w.frozen? ⟨b, o, none⟩ = false := fun o => by
   unfold row? at hr
   split at hr
   . rename_i c t hb
     unfold World.frozen?
     simp [hb]
   . cases hr
 have at_ : ∀ (dd : Array {d : D // d ∈ l'}) (t : Nat), t < dd.size * e.size -> (D.flats (dd.toList.map (·.1)))[t]?.map valOf = some ((flatK (fun x : {d : D // d ∈ l'} => x.1.flat.map valOf) e.size dd)[t]!) := fun dd t ht => by
   rw [get_flatK _ _ _ _ ht, flats_div hf.pos _ (fun x hx => by
     obtain ⟨y, _, rfl⟩ := List.mem_map.1 hx
     exact hfl y)]
   have h1 : t / e.size < dd.size := (Nat.div_lt_iff_lt_mul hf.pos).2 ht
   have h2 : t % e.size < e.size := Nat.mod_lt _ hf.pos
   rw [List.getElem?_map, Array.getElem?_toList, Array.getElem?_eq_getElem h1, getElem!_pos dd _ h1]
   simp only [Option.map_some, Option.bind_some]
   have h3 : t % e.size < (dd[t / e.size]).1.flat.length := by rw [hfl]; exact h2
   rw [List.getElem?_eq_getElem h3, getElem!_pos _ _ (by simpa using h3)]
   simp
 have hH : HoldsK (fun x : {d : D // d ∈ l'} => x.1.flat.map valOf) e.size w b off d := by
   intro j hj
   rw [size_flatK] at hj
   refine ⟨?_, hfro _⟩
   have := at_ d j hj
   rw [hd] at this
   cases hq : (D.flats l)[j]? with
   | none => rw [hq] at this; cases this
   | some q =>
     rw [hq] at this
     simp only [Option.map_some, Option.some.injEq] at this
     rw [hc j q hq, this]; rfl
 have hcmp : CmpLays P g #[] (fun x : {d : D // d ∈ l'} => x.1.flat.map valOf) e.size (cfS E g l') b off d.size w := by
   intro m os dk _ x y
   obtain ⟨i, hi1, hi2⟩ := List.getElem_of_mem x.2
   obtain ⟨j, hj1, hj2⟩ := List.getElem_of_mem y.2
   obtain ⟨_, n, hn⟩ := chk_idx hchk (i := i) (j := j) (x := x.1) (y := y.1) (by rw [List.getElem?_eq_getElem hi1, hi2]) (by rw [List.getElem?_eq_getElem hj1, hj2])
   have hcall : E.call g [x.1, y.1] = some (.int .i64 n) := by
     unfold cmpI at hn
     obtain ⟨r, h1, h2⟩ := bind_some_inv hn
     rw [h1]
     split at h2
     . cases h2; rfl
     . cases h2
   have hcf : cfS E g l' x y = n := by simp [cfS, hn]
   rw [hcf]
   have shpa : ∀ z : {d : D // d ∈ l'}, ∀ (w : World) (S : Nat -> Nat -> Prop), DR0 w S z.1 (.agg (z.1.flat.map valOf).toArray) := fun z w S => by
     refine ⟨?_, ?_⟩
     . have hz := hwt' z.1 z.2
       have ha := hf.agg
       cases e <;> simp only [aggTy] at ha <;> first | (cases ha; done) | skip
       . simp only [wt] at hz; obtain ⟨ll, h1, _⟩ := hz; rw [h1]; exact ⟨_, rfl⟩
       . simp only [wt] at hz; obtain ⟨ll, h1, _⟩ := hz; rw [h1]; exact ⟨_, rfl⟩
     . exact (CRl_leaf (hleaf z)).2 (by simp [Value.cells])
   have hw2 : wts [e, e] [x.1, y.1] := ⟨x.1, [y.1], rfl, hwt' _ x.2, ⟨y.1, [], rfl, hwt' _ y.2, rfl⟩⟩
   have hctr := hE.call g [e, e] (.int .i64) [x.1, y.1] (.int .i64 n) hsig hcall hw2
     (sortWorldK (fun x : {d : D // d ∈ l'} => x.1.flat.map valOf) e.size w b off m dk os) (fun _ _ => False) [.agg (x.1.flat.map valOf).toArray, .agg (y.1.flat.map valOf).toArray] (fun _ _ h => h.elim) hw2 rfl
     (fun i z v hz hv => by
       cases i with
       | zero => simp at hz hv; subst hz; subst hv; exact shpa x _ _
       | succ i => cases i with
         | zero => simp at hz hv; subst hz; subst hv; exact shpa y _ _
         | succ i => simp at hz)
   refine hctr.mono ?_
   rintro en w' ⟨v, rfl, ⟨os', dr, hdr, rfl⟩, _, hv⟩
   have hv' : v = .int .i64 n := by
     obtain ⟨c1, c2⟩ := (hv : DR0 _ _ _ _)
     have := (CRl_leaf (by intro d hd; simp only [D.flat, List.mem_singleton] at hd; subst hd; rfl)).1 c2
     exact cells_single c1 (by simpa [D.flat, valOf] using this)
   refine ⟨by rw [hv'], dr - (sortWorldK (fun x : {d : D // d ∈ l'} => x.1.flat.map valOf) e.size w b off m dk os).drawn, os'.toArray, ?_⟩
   unfold grown grow World.drewN
   simp only [show ∀ a b : Nat, a <= b -> a + (b - a) = b from fun a b h => by omega, hdr]
 have hO : SWO (ltOf (cfS E g l')) := swo_cfS hchk
 have key := hf.whole {d : D // d ∈ l'} (fun x => x.1.flat.map valOf) (fun x => by simp [hfl x]) (fun x v hv => by
     obtain ⟨q, hq, rfl⟩ := List.mem_map.1 hv
     have := hleaf x q hq
     cases q <;> simp only [leafB] at this <;> first | (cases this; done) | rfl) (cfS E g l') hO g b off cap d w (enters_sig hE hsig) hcmp hH hbs (by omega)
 rw [hds] at key
 refine key.mono ?_
 rintro en w' ⟨rfl, d', n, os, hp, hso, rfl⟩
 rw [<- hds] at hp hso
 have hd'l : d'.toList.map (·.1) = l' := sorted_is hchk (d := d) (by rw [hd]; exact hperm.symm) hp hso
 have hd's : d'.size = d.size := hp.1
 have hH' := holdsK_sortWorldK_c (fun x : {d : D // d ∈ l'} => x.1.flat.map valOf) e.size w b off d d' n os hH hbs hd's
 refine ⟨rfl, hperm, ?_, rfl, rfl, rfl, ?_, fun b' hb hb' => ?_, fun i q hq => ?_⟩
 . show w.drawn <= w.drawn + n; omega
 . simp only [sortWorldK, grow, putRowK, putRow, mapBlock, Go.Sort.ahead, Array.size_append, Array.size_modify]; omega
 . simp only [sortWorldK, grow, putRowK, putRow, mapBlock, Go.Sort.ahead]
   rw [Array.getElem?_append_left (by simpa using hb'), Array.getElem?_modify, if_neg (Ne.symm hb)]
 . have hi : i < d'.size * e.size := by
     have h1 := (List.getElem?_eq_some_iff.1 hq).1
     rw [flats_len_of hf.nt l' hwt'] at h1
     rw [hd's, hds, <- hperm.length_eq]; exact h1
   have h2 := at_ d' i hi
   rw [hd'l, hq] at h2
   simp only [Option.map_some, Option.some.injEq] at h2
   have h3 := (hH' i (by rw [size_flatK]; exact hi)).1
   rw [h3, <- h2]; rfl
end
end Go.Proofs.YtjjjkojfijpeeaaGreat.Sy
end
section
namespace Go.Proofs.YtjjjkojfijpeeaaGreat.Sy
open Go Go.Proofs Go.Sort Go.Lib
variable {ro : Option Nat} {nn : Nat}
inductive AnnT where
 | hand
 | seq (a : Ann) (b : AnnT)
def evS (E : Env) (K : St -> Option D) : Code -> AnnT -> St -> Option D
 | .seq c d, .seq a b, s => ev E c a D s fun e s' => match e with
   | .normal => evS E K d b s'
   | _ => none
 | _, .hand, s => K s
 | _, _, _ => none
def stopC : Code -> AnnT -> Code
 | .seq _ d, .seq _ b => stopC d b
 | c, _ => c
def initSt (fn : Func) (tys : List Ty) (args : List D) : St := { tm := initTm tys args, ob := fun _ => none, fresh := 0, dead := [], nt := fn.ntmps, lkS := [], lkO := [] }
def evFS (E : Env) (K : St -> Option D) (fn : Func) (ann : AnnT) (tys : List Ty) (args : List D) : Option D :=
 match fn.body with
 | none => none
 | some c => evS E K c ann (initSt fn tys args)
section
variable {P : Program} {E : Env} {w0 : Root}
theorem evS_ok (hE : EnvOk P E) {K : St -> Option D} {Q : Exit -> Act -> World -> Prop} {y : D} : ∀ (c : Code) (ann : AnnT) {S : Nat -> Nat -> Prop} {γ : Nat -> Option Nat} {β : Nat -> Option (Nat × Nat)} {s : St} {a : Act} {w : World},
   Rp w0 S γ β s a w -> evS E K c ann s = some y -> (∀ s' S' γ' β' a' w', Rp w0 S' γ' β' s' a' w' -> K s' = some y -> (stopC c ann).wpIn (FW ro) nn P Q a' w') -> c.wpIn (FW ro) nn P Q a w := by
 intro c
 induction c with
 | seq c d _ ih =>
   intro ann S γ β s a w h hev hQ
   cases ann with
   | hand => exact hQ s S γ β a w h (by simpa only [evS] using hev)
   | seq a1 b =>
     simp only [evS] at hev
     refine wpIn_seq (ev_ok hE c a1 D _ y h hev fun e s' S' γ' β' a' w' n1 n2 n3 n4 => ?_)
     cases e with
     | normal => exact ih b n1 n4 hQ
     | ret => cases n4
     | exit i => cases n4
 | _ =>
   intro ann S γ β s a w h hev hQ
   cases ann with
   | hand => exact hQ s S γ β a w h (by simpa only [evS] using hev)
   | seq a1 b => simp [evS] at hev
def freshL (s : St) (e : Ty) (x : Nat) : Option (List D) := match s.tm x with
 | .own e' v l => if e'.beq e && !(s.dead.contains v) && decide (l.length <= 1073741824) then some l else none
 | .nils => some []
 | _ => none
def sNew (s : St) (x : Nat) (e : Ty) (l : List D) : St := { tm := fun i => if i = x then .d (.sl e) (.sl l) else .undef, ob := fun _ => none, fresh := s.fresh + 1, dead := [], nt := s.nt, lkS := [], lkO := [] }
theorem DR0_sl {w : World} {S : Nat -> Nat -> Prop} {l : List D} {a : Option Addr} {n cap : Nat} (h : CR w S (.sl l) (.slice a n cap)) : DR0 w S (.sl l) (.slice a n cap) := by
 refine ⟨fun cs h => (by cases h), rfl, fun i d c hd hc => ?_⟩
 cases i with
 | zero => simp only [D.flat, List.getElem?_cons_zero, Option.some.injEq, Value.cells] at hd hc; subst hd; first | (subst hc; exact h) | (simp at hc; subst hc; exact h)
 | succ i => simp [D.flat] at hd
theorem leaf_list {e : Ty} (hc : cmpTy e = true) : ∀ l : List D, (∀ x ∈ l, wt e x) -> ∀ d ∈ D.flats l, leafB d = true
 | [], _, d, hd => by simp [D.flats] at hd
 | y :: l, h, d, hd => by
   simp only [D.flats, List.mem_append] at hd
   rcases hd with hd | hd
   . exact leaf_flat e y hc (h y List.mem_cons_self) d hd
   . exact leaf_list hc l (fun z hz => h z (List.mem_cons_of_mem _ hz)) d hd
theorem Rp.new {S S' : Nat -> Nat -> Prop} {γ : Nat -> Option Nat} {β : Nat -> Option (Nat × Nat)} {s : St} {a a' : Act} {w w' : World} (h : Rp w0 S γ β s a w) (he : Ext w0 w') {x : Nat} {e : Ty} {l : List D} (hn : noTup e = true) (hx : x < s.nt) (hwt : ∀ y ∈ l, wt e y)
   (hv : DR0 w' S' (.sl l) (a'.tmps.getD x undef)) (hnt : a'.tmps.size = s.nt) (hdf : a'.defers = []) (hSb : ∀ b o, S' b o -> b < w'.heap.size) (hSo : ∀ b o, S' b o -> w0.Old b -> w0.S0 b o) : Rp w0 S' (fun _ => none) (fun _ => none) (sNew s x e l) a' w' := by
 refine ⟨he, fun t ht => ?_, hnt, fun t ht => ?_, fun id o b ho => (by cases ho), fun id b hb => (by cases hb), fun id id' b hb => (by cases hb), fun _ _ => rfl, fun v b e _ hb => (by cases hb), fun v v' b e e' _ _ hb => (by cases hb), fun v id b e _ hb => (by cases hb), fun _ _ => rfl, hSb, hSo, hdf⟩
 . show AR _ (if t = x then AV.d (.sl e) (.sl l) else .undef) (a'.tmps.getD t undef)
   by_cases htx : t = x
   . rw [if_pos htx]
     subst htx
     exact .inl ⟨by simp only [noTup]; exact hn, ⟨l, rfl, hwt⟩, hv⟩
   . rw [if_neg htx]
     simp only [AR]
 . show (if t = x then AV.d (.sl e) (.sl l) else .undef) = _
   rw [if_neg (fun h => by subst h; exact absurd hx (Nat.not_lt.2 ht))]
theorem sort_wp (hE : EnvOk P E) {f : Nat} {e : Ty} (hf : SortOk P f e) {g : Nat} (hsig : E.sig g = some ([e, e], .int .i64)) {id x t d2 : Nat} {ops : Array Oper} {ty1 ty2 : TypeId} {p1 p2 : String} {af1 af2 : Array Edge} {args : Array Operand} {ats : Array TypeId}
   (hops : ops.toList = [⟨some t, .move (.tmp x), ty1, p1, af1, none⟩, ⟨some d2, .call ⟨.value (.func f), args, ats⟩, ty2, p2, af2, none⟩]) (hargs : args = #[.tmp t, .func g]) {Q : Exit -> Act -> World -> Prop}
   {S : Nat -> Nat -> Prop} {γ : Nat -> Option Nat} {β : Nat -> Option (Nat × Nat)} {s : St} {a : Act} {w : World} (h : Rp w0 S γ β s a w) (hxt : x ≠ t) (hxd : x ≠ d2) (ht : t < s.nt) {l l' : List D} (hv : freshL s e x = some l) (hs : sortD E g l = some l')
   (hQ : ∀ a' w' S', Rp w0 S' (fun _ => none) (fun _ => none) (sNew s x e l') a' w' -> Q .normal a' w') : (Code.region id ops false).wpIn (FW ro) nn P Q a w := by
 have hx : x < s.nt := by
   rcases Nat.lt_or_ge x s.nt with k | k
   . exact k
   . unfold freshL at hv; rw [h.tmu x k] at hv; cases hv
 have hax : AR ⟨w, S, γ, β, s.ob, s.dead⟩ (s.tm x) (a.tmps.getD x undef) := h.tms x (by rw [h.nt]; exact hx)
 obtain ⟨ad, cap, val, hwt, hcr, hown⟩ : ∃ ad cap, a.tmps.getD x undef = .slice ad l.length cap /\ (∀ y ∈ l, wt e y) /\ CR w S (.sl l) (.slice ad l.length cap) /\ (l ≠ [] -> ∃ b off row, ad = some ⟨b, off, none⟩ /\ row? w b = some row /\ ¬ w0.Old b /\ b < w.heap.size) /\ l.length <= 1073741824 := by
   unfold freshL at hv
   split at hv
   . rename_i e' v l0 htm
     split at hv
     . rename_i hb
       simp only [Bool.and_eq_true, Bool.not_eq_true', decide_eq_true_eq] at hb
       obtain ⟨⟨hb1, hb2⟩, hb3⟩ := hb
       cases hv
       have := Ty.eq_of_beq _ _ hb1; subst this
       rw [htm] at hax
       simp only [AR, AC] at hax
       obtain ⟨n0, n1, n2, ad, cap, n3, n4, n5⟩ := hax
       have hval := cells_single n0 n3
       have hdead : v ∉ s.dead := by simpa using hb2
       refine ⟨ad, cap, hval, n2, n4, fun hne => ?_, hb3⟩
       rcases n5 hdead with ⟨q1, q2⟩ | ⟨b, off, q1, q2, n, q3, q4⟩
       . exfalso
         obtain ⟨_, _, b, off, e1, e2, e3, e4⟩ := n4.elems
         cases e1
         rcases e2 with e2 | e2
         . exact hne e2
         . rw [q1] at e2; cases e2
       . obtain ⟨k1, k2, _⟩ := h.βn v b _ hdead q2
         unfold rsz at q3
         cases hr : row? w b with
         | none => rw [hr] at q3; cases q3
         | some row => exact ⟨b, off, row, q1, hr, k1, k2⟩
     . cases hv
   . rename_i htm
     cases hv
     rw [htm] at hax
     simp only [AR, AC] at hax
     have hval := cells_single hax.1 hax.2
     exact ⟨none, 0, hval, by simp, CR.of_elems (b := 0) (off := 0) (.inl rfl) (Nat.le_refl _) ⟨[], CRl.nil, by simp⟩, fun h => absurd rfl h, by simp⟩
   . cases hv
 obtain ⟨hown, hlen⟩ := hown
 have hperm : l'.Perm l := by
   unfold sortD at hs
   split at hs
   . cases hs; exact sortL_perm _ l
   . cases hs
 have hll : l'.length = l.length := hperm.length_eq
 have hwt' : ∀ y ∈ l', wt e y := fun y hy => hwt y (hperm.subset hy)
 refine wpIn_region_list ?_
 rw [hops]
 simp only [wpListIn, Region.wanted, if_true]
 refine (wpIn_of_OpOk (K := fun v w1 => v = a.tmps.getD x undef /\ w = w1) (OpOk.value (v := a.eval (.tmp x)) (w' := w) rfl ⟨rfl, rfl⟩) ?_)
 rintro _ _ ⟨rfl, rfl⟩
 have hsz : (a.put (some t) (a.tmps.getD x undef)).tmps.size = s.nt := by simp [Act.put, h.nt]
 have ht1 : (a.put (some t) (a.tmps.getD x undef)).eval (.tmp t) = a.tmps.getD x undef := by
   have : t < a.tmps.size := by rw [h.nt]; exact ht
   simp [Act.eval, Act.put, Array.getD, this]
 have hx1 : (a.put (some t) (a.tmps.getD x undef)).tmps.getD x undef = a.tmps.getD x undef := by
   exact put_slot (fun e => hxt (by cases e; rfl))
 have hdf1 : (a.put (some t) (a.tmps.getD x undef)).defers = [] := h.df
 generalize (a.put (some t) (a.tmps.getD x undef)) = a1 at *
 refine (wpIn_of_OpOk (K := fun v w1 => ∃ S', Ext w0 w1 /\ DR0 w1 S' (.sl l') (a.tmps.getD x undef) /\ (∀ b o, S' b o -> b < w1.heap.size) /\ (∀ b o, S' b o -> w0.Old b -> w0.S0 b o)) ?_ ?_)
 . obtain ⟨fn, f1, f2, f3⟩ := hf.fn
   refine OpOk.enter (f := f) (args := #[.slice ad l.length cap, .func (.func g) #[] #[]]) (w' := w) ?_ ?_
   . have hb : ¬ fn.body = none := by intro hh; rw [hh] at f3; cases f3
     have f2' : ¬ fn.name = "runtime.NumGoroutine" := by simpa using f2
     have e1 : a1.eval (.tmp t) = .slice ad l.length cap := by rw [ht1, val]
     subst hargs
     have e2 : a1.eval (.func g) = .func (.func g) #[] #[] := rfl
     simp [execOp, resolve, Deferred.ofValue, invoke, callFunc, f1, f2', hb, e1, e2]
     simp [Act.eval, f1, f2', hb]
   . by_cases hne : l = []
     . subst hne
       have e0 : l' = [] := by cases l' with | nil => rfl | cons y l' => simp at hll
       subst e0
       refine (hf.empty ad cap _ w).mono ?_
       rintro en w1 ⟨rfl, rfl⟩
       exact ⟨_, rfl, S, h.ext, by rw [val]; exact DR0_sl hcr, h.Sb, h.So⟩
     . obtain ⟨b, off, row, rfl, hr, hold, hbs⟩ := hown hne
       have hcell : ∀ (i : Nat) (d : D), (D.flats l)[i]? = some d -> w.cell? ⟨b, off + i, none⟩ = some (valOf d) := by
         obtain ⟨_, _, b', off', e1, e2, e3, cs, e4, e5⟩ := hcr.elems
         cases e1
         rcases e2 with e2 | e2
         . exact absurd e2 hne
         . cases e2
           have hleaf := leaf_list hf.cmp l hwt
           have := (CRl_leaf hleaf).1 e4
           subst this
           intro i d hd
           exact (e5 i (valOf d) (by rw [List.getElem?_map, hd]; rfl)).2
       refine (sort_call hE hf hsig hwt hs hne (b := b) (off := off) (cap := cap) hr hcell (by omega)).mono ?_
       rintro en w1 ⟨rfl, _, q1, q2, q3, q4, q5, q6, q7⟩
       refine ⟨_, rfl, fun b' o => (S b' o /\ b' ≠ b) \/ (b' = b /\ off <= o /\ o < off + (D.flats l').length), ?_, ?_, ?_, ?_⟩
       . refine ext_of h.ext q2 q3 q4 q5 q1 fun b' hb' => q6 b' (fun e => hold (e ▸ hb')) (Nat.lt_of_lt_of_le hb'.1 h.ext.sz)
       . rw [val]
         refine DR0_sl ?_
         rw [<- hll]
         refine CR.of_elems (b := b) (off := off) (.inr rfl) (by obtain ⟨_, _, _, _, e1, _, e3, _⟩ := hcr.elems; cases e1; rw [hll]; exact e3) ⟨(D.flats l').map valOf, ?_, fun i c hc => ?_⟩
         . exact (CRl_leaf (leaf_list hf.cmp l' hwt')).2 rfl
         . rw [List.getElem?_map] at hc
           cases hd : (D.flats l')[i]? with
           | none => rw [hd] at hc; cases hc
           | some d =>
             rw [hd] at hc
             simp only [Option.map_some, Option.some.injEq] at hc
             subst hc
             exact ⟨.inr ⟨rfl, by omega, by have := (List.getElem?_eq_some_iff.1 hd).1; omega⟩, q7 i d hd⟩
       . rintro b' o (⟨hb', _⟩ | ⟨rfl, _, _⟩)
         . exact Nat.lt_of_lt_of_le (h.Sb b' o hb') q5
         . exact Nat.lt_of_lt_of_le hbs q5
       . rintro b' o (⟨hb', _⟩ | ⟨rfl, _, _⟩) ho
         . exact h.So b' o hb' ho
         . exact absurd ho hold
 . rintro v w1 ⟨S', k1, k2, k3, k4⟩
   refine hQ _ w1 S' (Rp.new h k1 hf.nt hx hwt' ?_ (by simp [Act.put, hsz]) hdf1 k3 k4)
   have : (a1.put (some d2) v).tmps.getD x undef = a.tmps.getD x undef := by
     rw [<- hx1]
     exact put_slot (fun e => hxd (by cases e; rfl))
   rw [this]; exact k2
end
end Go.Proofs.YtjjjkojfijpeeaaGreat.Sy
end
section
namespace Go.Proofs.YtjjjkojfijpeeaaGreat.Sy
open Go Go.Proofs Go.Sort Go.Lib
variable {ro : Option Nat} {nn : Nat}
open Go.ChangeMaps (setBlock)
section
variable {P : Program} {E : Env} {w0 : Root}
theorem wpList_any {ops ops' : Array Oper} {Q : Exit -> Act -> World -> Prop} : ∀ (l : List Oper) (a : Act) (w : World), (∀ o ∈ l, o.guard = none) -> wpListIn (FW ro) nn P ops Q l a w -> wpListIn (FW ro) nn P ops' Q l a w
 | [], _, _, _, h => h
 | o :: l, a, w, hg, h => by
   have hgo := hg o List.mem_cons_self
   have hfun : ∀ a w, wpListIn (FW ro) nn P ops Q l a w -> wpListIn (FW ro) nn P ops' Q l a w := fun a w => wpList_any l a w fun o ho => hg o (List.mem_cons_of_mem _ ho)
   simp only [wpListIn, Region.wanted, hgo, if_true] at h ⊢
   exact Oper.wpIn_mono hfun h
theorem list_ev (hE : EnvOk P E) {Q : Exit -> Act -> World -> Prop} {id : Nat} {ops : Array Oper} {R : Type} {S : Nat -> Nat -> Prop} {γ : Nat -> Option Nat} {β : Nat -> Option (Nat × Nat)} {s : St} {a : Act} {w : World} {k : Ex -> St -> Option R} {r : R}
   (h : Rp w0 S γ β s a w) (hev : ev E (.region id ops false) .leaf R s k = some r) (hQ : Kp Q w0 s S γ a w k r) : wpListIn (FW ro) nn P ops Q ops.toList a w := by
 obtain ⟨S1, f1, f2, f3⟩ := freeze_ok (Ann.leaf).fz h
 obtain ⟨s1, hs1⟩ : ∃ s1, s1 = { freeze s (Ann.leaf).fz with fresh := s.fresh + 1 } := ⟨_, rfl⟩
 obtain ⟨h1, h23⟩ := ev_region hs1 hev
 obtain ⟨h2, h3⟩ : (!false || drawOk E ops ((Ann.leaf).heads ops.size)) = true /\ _ := h23.resolve_right fun h => by cases h.1
 have hb1 : s1.base = s.base + 4096 := by rw [hs1]; simp only [St.base]; omega
 have r1 : Rp w0 S1 γ β s1 a w := by
   rw [hs1]
   have q1 : ∀ id, ({ freeze s (Ann.leaf).fz with fresh := s.fresh + 1 } : St).base + 4096 <= id -> s.base + 4096 <= id := fun id hid => by
     have e : ({ freeze s (Ann.leaf).fz with fresh := s.fresh + 1 } : St).base = s.base + 4096 := by simp only [St.base]; omega
     rw [e] at hid
     exact Nat.le_trans (Nat.le_add_right _ _) hid
   exact ⟨f1.ext, f1.tms, f1.nt, f1.tmu, f1.obs, f1.γn, f1.γi, fun id hid => h.γf id (q1 id hid), f1.βn, f1.βi, f1.βγ, fun v hv => h.βf v (q1 v hv), f1.Sb, f1.So, f1.df⟩
 have hle1 : ∀ d, s.base + 4096 <= s1.base + d := fun d => by have := Nat.le_add_right s1.base d; rw [hb1] at this ⊢; exact this
 have hg : ∀ d, γ (s1.base + d) = none := fun d => h.γf (s1.base + d) (hle1 d)
 have hgb : ∀ d, β (s1.base + d) = none := fun d => h.βf (s1.base + d) (hle1 d)
 obtain ⟨r2, m2⟩ := prep_ok (E := E) ops.toList r1 hg
 have hmk := h1
 simp only [makersOk, Bool.and_eq_true, List.all_eq_true] at hmk
 obtain ⟨⟨hm1, hm2⟩, hm3⟩ := hmk
 have hfr : FrL E (prep E ops.toList s1) γ β ops.toList := by
   intro o ho hc d hd
   rw [m2.base_eq]
   have hd4 := hm2 o ho
   rw [hd] at hd4
   simp only [decide_eq_true_eq] at hd4
   exact ⟨hd4, hg d, hgb d, fun T t e1 e2 => prep_at ops.toList hm1 ho e1 hd e2⟩
 have hsk : Sk s (prep E ops.toList s1) := by
   refine ⟨m2.lkS.trans ?_, m2.lkO.trans ?_, m2.nt.trans ?_⟩ <;> rw [hs1]
   . exact f3.lkS
   . exact f3.lkO
   . exact f3.nt
 have hstores : (ops.toList.all fun o => match o.op with | .store .. => o.dst.isNone | _ => true) = true := by
   simp only [makersOk, Bool.and_eq_true] at h1; exact h1.2
 have := evR_ok (ro := ro) (nn := nn) (ops := ops) hE hstores _ R (number 0 ops.toList) _ r _ r2 (by rw [number_map]; exact hfr) (by rw [number_map]; exact fun A B o o' e ho d hd => dsts_apart hm1 A B o o' e ho d hd) (fun p hp => number_mem hp) h3
   (Q := Q) fun s' S' γ' β' a' w' n1 n2 n3 n4 => hQ .normal s' S' γ' β' a' w' n1 (f2.tr n2 hsk) (hsk.trans n3) n4
 rwa [number_map] at this
def σL (nt o it : Nat) (X : AV) : St := { tm := fun i => if i = o then X else .undef, ob := fun _ => none, fresh := 0, dead := [], nt := nt, lkS := [it], lkO := [0, 1] }
def γs (m r : Nat) : Nat -> Option Nat := fun i => if i = 0 then some m else if i = 1 then some r else none
def isX (e : Ty) (L : List D) (X : AV) : Prop := (X = .nils /\ L = []) \/ X = .own e 5 L
theorem freshL_inv {s : St} {e : Ty} {o : Nat} {L : List D} (h : freshL s e o = some L) : (s.tm o = .nils /\ L = []) \/ ∃ v, s.tm o = .own e v L /\ v ∉ s.dead := by
 unfold freshL at h
 split at h
 . rename_i e' v l htm
   split at h
   . rename_i hb
     simp only [Bool.and_eq_true, Bool.not_eq_true', decide_eq_true_eq] at hb
     cases h
     have := Ty.eq_of_beq _ _ hb.1.1; subst this
     exact .inr ⟨v, htm, by simpa using hb.1.2⟩
   . cases h
 . rename_i htm
   cases h
   exact .inl ⟨htm, rfl⟩
 . cases h
theorem Rp.std {S : Nat -> Nat -> Prop} {γ : Nat -> Option Nat} {β : Nat -> Option (Nat × Nat)} {s : St} {a : Act} {w : World} (h : Rp w0 S γ β s a w) {m r : Nat} (hm : ¬ w0.Old m /\ m < w.heap.size) (hr : ¬ w0.Old r /\ r < w.heap.size) (hmr : m ≠ r)
   (hβ : ∀ v b e, v ∉ s.dead -> β v = some (b, e) -> b ≠ m /\ b ≠ r) {e : Ty} (hce : cmpTy e = true) {o : Nat} {L : List D} (hv : freshL s e o = some L) (it : Nat) :
   ∃ β' X, isX e L X /\ Rp w0 (fun b i => S b i /\ b ≠ m /\ b ≠ r) (γs m r) β' (σL s.nt o it X) a w := by
 have ho : o < s.nt := by
   rcases Nat.lt_or_ge o s.nt with k | k
   . exact k
   . unfold freshL at hv; rw [h.tmu o k] at hv; cases hv
 have hao := h.tms o (by rw [h.nt]; exact ho)
 have g1 : ∀ id b, γs m r id = some b -> (id = 0 /\ b = m) \/ (id = 1 /\ b = r) := fun id b hb => by
   unfold γs at hb
   split at hb
   . rename_i e; cases hb; exact .inl ⟨e, rfl⟩
   . split at hb
     . rename_i e; cases hb; exact .inr ⟨e, rfl⟩
     . cases hb
 have γn' : ∀ id b, γs m r id = some b -> ¬ w0.Old b /\ b < w.heap.size := fun id b hb => by
   rcases g1 id b hb with ⟨_, rfl⟩ | ⟨_, rfl⟩
   . exact hm
   . exact hr
 have γi' : ∀ id id' b, γs m r id = some b -> γs m r id' = some b -> id = id' := fun id id' b hb hb' => by
   rcases g1 id b hb with ⟨k1, k2⟩ | ⟨k1, k2⟩ <;> rcases g1 id' b hb' with ⟨k3, k4⟩ | ⟨k3, k4⟩
   . omega
   . exact absurd (k2.symm.trans k4) hmr
   . exact absurd (k4.symm.trans k2) hmr
   . omega
 have γf' : ∀ id, 0 * 4096 + 4096 <= id -> γs m r id = none := fun id hid => by
   unfold γs; rw [if_neg (by omega), if_neg (by omega)]
 rcases freshL_inv hv with ⟨h1, h2⟩ | ⟨v, h1, h2⟩
 . refine ⟨fun _ => none, .nils, .inl ⟨rfl, h2⟩, h.ext, fun t ht => ?_, h.nt, fun t ht => ?_, fun id o b ho => (by cases ho), γn', γi', γf', fun v b e _ hb => (by cases hb), fun v v' b e e' _ _ hb => (by cases hb), fun v id b e _ hb => (by cases hb), fun _ _ => rfl, fun b i hb => h.Sb b i hb.1, fun b i hb => h.So b i hb.1, h.df⟩
   . show AR _ (if t = o then AV.nils else .undef) (a.tmps.getD t undef)
     by_cases hto : t = o
     . rw [if_pos hto]; subst hto; rw [h1] at hao; simpa only [AR, AC] using hao
     . rw [if_neg hto]; simp only [AR]
   . show (if t = o then AV.nils else .undef) = _
     rw [if_neg (fun h => by subst h; exact absurd ho (Nat.not_lt.2 ht))]
 . refine ⟨fun i => if i = 5 then β v else none, .own e 5 L, .inr rfl, h.ext, fun t ht => ?_, h.nt, fun t ht => ?_, fun id o b ho => (by cases ho), γn', γi', γf', fun u b e' _ hb => ?_, fun u u' b e' e'' _ _ hb hb' => ?_, fun u id b e' _ hb hid => ?_, fun u hu => ?_, fun b i hb => h.Sb b i hb.1, fun b i hb => h.So b i hb.1, h.df⟩
   . show AR _ (if t = o then AV.own e 5 L else .undef) (a.tmps.getD t undef)
     by_cases hto : t = o
     . rw [if_pos hto]
       subst hto
       rw [h1] at hao
       simp only [AR, AC] at hao ⊢
       obtain ⟨n0, n1, n2, ad, cap, n3, n4, n5⟩ := hao
       have n4' : CR w (fun b i => S b i /\ b ≠ m /\ b ≠ r) (.sl L) (.slice ad L.length cap) := by
         obtain ⟨ad', cap', b', off', e1, e2, e3, cs, e4, e5⟩ := n4.elems
         cases e1
         by_cases hL : L = []
         . subst hL; exact CR.of_elems (b := 0) (off := 0) (.inl rfl) e3 ⟨[], CRl.nil, by simp⟩
         . have e2 : ad = some ⟨b', off', none⟩ := e2.resolve_left hL
           have hb' : b' ≠ m /\ b' ≠ r := by
             rcases n5 h2 with q | ⟨b, off, q1, q2, q3⟩
             . rw [q.1] at e2; cases e2
             . rw [q1] at e2; cases e2; exact hβ v _ _ h2 q2
           have lf := leaf_list hce L n2
           exact CR.of_elems (.inr e2) e3 ⟨cs, (CRl_leaf lf).2 ((CRl_leaf lf).1 e4), fun i c hc => ⟨⟨(e5 i c hc).1, hb'⟩, (e5 i c hc).2⟩⟩
       refine ⟨n0, n1, n2, ad, cap, n3, n4', fun _ => ?_⟩
       rcases n5 h2 with q | ⟨b, off, q1, q2, q3⟩
       . exact .inl q
       . exact .inr ⟨b, off, q1, by simpa using q2, q3⟩
     . rw [if_neg hto]; simp only [AR]
   . show (if t = o then AV.own e 5 L else .undef) = _
     rw [if_neg (fun h => by subst h; exact absurd ho (Nat.not_lt.2 ht))]
   . have hb : (if u = 5 then β v else none) = some (b, e') := hb
     split at hb
     . obtain ⟨q1, q2, q3⟩ := h.βn v b e' h2 hb
       exact ⟨q1, q2, fun i hi hs => q3 i hi hs.1⟩
     . cases hb
   . have hb : (if u = 5 then β v else none) = some (b, e') := hb
     have hb' : (if u' = 5 then β v else none) = some (b, e'') := hb'
     split at hb <;> split at hb' <;> first | (cases hb; done) | (cases hb'; done) | omega
   . have hb : (if u = 5 then β v else none) = some (b, e') := hb
     split at hb
     . have := hβ v b e' h2 hb
       rcases g1 id b hid with ⟨_, q⟩ | ⟨_, q⟩
       . exact this.1 q
       . exact this.2 q
     . cases hb
   . have hu' : 4096 <= u := by simpa [σL, St.base] using hu
     show (if u = 5 then β v else none) = none
     rw [if_neg (by omega)]
theorem Rp.setB {S : Nat -> Nat -> Prop} {γ : Nat -> Option Nat} {β : Nat -> Option (Nat × Nat)} {s : St} {a : Act} {w : World} (h : Rp w0 S γ β s a w) {id b : Nat} (ho : s.ob id = none) (hγ : γ id = some b) (hS : ∀ o, ¬ S b o) (x : Obj) :
   Rp w0 S γ β s a (setBlock w b x) := by
 have hbS : ∀ b' o, S b' o -> b' ≠ b := fun b' o hb e => hS o (e ▸ hb)
 have hh : ∀ b', b' ≠ b -> (setBlock w b x).heap[b']? = w.heap[b']? := fun b' hb' => by simp only [setBlock]; rw [Array.getElem?_setIfInBounds_ne (Ne.symm hb')]
 have hsz : (setBlock w b x).heap.size = w.heap.size := by simp [setBlock]
 have hle : Cx.le ⟨w, S, γ, β, s.ob, s.dead⟩ ⟨setBlock w b x, S, γ, β, s.ob, s.dead⟩ := by
   refine ⟨fun b' o hb => by simp only [World.cell?, hh b' (hbS b' o hb)], fun _ _ hb => hb, fun _ _ hb => hb, fun i y hy _ => ⟨y, hy, fun p => ⟨rfl, rfl⟩, fun t l e => ⟨l, e, rfl⟩, fun _ _ l e => ⟨l, e⟩⟩, fun v hv => ⟨hv, fun b' e he => ⟨he, fun n hn => ?_⟩⟩⟩
   have hne : b' ≠ b := fun e' => h.βγ v id b' e hv he (e' ▸ hγ)
   have hn' : rsz w b' = some n := hn
   show rsz (setBlock w b x) b' = some n
   simp only [rsz, row?, hh b' hne] at hn' ⊢
   exact hn'
 refine ⟨ext_of h.ext rfl rfl rfl (by rw [hsz]; exact Nat.le_refl _) (Nat.le_refl _) (fun b' hb' => hh b' fun e => (h.γn id b hγ).1 (e ▸ hb')), fun t ht => (h.tms t ht).mono hle, h.nt, h.tmu, fun i y b' hy hb' => ?_, fun i b' hb' => by rw [hsz]; exact h.γn i b' hb', h.γi, h.γf,
   fun v b' e hv he => by rw [hsz]; exact h.βn v b' e hv he, h.βi, h.βγ, h.βf, fun b' o hb => by rw [hsz]; exact h.Sb b' o hb, h.So, h.df⟩
 have hne : b' ≠ b := fun e' => by
   have := h.γi i id b' hb' (e' ▸ hγ)
   subst this
   rw [ho] at hy; cases hy
 exact (h.obs i y b' hy hb').mono hle (hh b' hne) fun _ hh => hh
end
end Go.Proofs.YtjjjkojfijpeeaaGreat.Sy
end
