/- Part 6 of the proof that HullMoves answers true at every input -/
import Derived.Test.YtjjjkojfijpeeaaGreatMoves05
set_option linter.unusedVariables false
set_option linter.unusedSimpArgs false
set_option linter.unnecessarySimpa false
section
set_option maxRecDepth 20000
set_option maxHeartbeats 0
set_option linter.unusedVariables false
namespace Go.Proofs.YtjjjkojfijpeeaaGreat.Sy
open Go Go.Proofs
def A8:Ann:=(.two .leaf (.two .leaf (.two .leaf (.two .leaf (.two .leaf (.two .leaf (.two .leaf (.two .leaf (.two .leaf (.two .leaf (.two .leaf (.two .leaf (.two (.two .leaf (.two (.loop ⟨[(8,.same (.ptr eQ 24584 [])),(9,.same (.ptr eQ 28681 [])),(10,.same (.ptr bT 36874 [])),(11,.same (.ptr dP 40971 [])),(12,.same (.ptr dP 45068 [])),(13,.dv (Ty.int .i64))],[(24584,.keep eQ 8),(28681,.keep eQ 9),(36874,.keep bT 10),(40971,.keep dP 11),(45068,.keep dP 12)],[]⟩ [(.ret,⟨[(4,.dv Ty.bool)],[],[]⟩),(.exit 0,⟨[],[],[]⟩)] (.two .leaf (.two (.two (.two .leaf (.two (.loop ⟨[(8,.same (.ptr eQ 24584 [])),(9,.same (.ptr eQ 28681 [])),(10,.same (.ptr bT 36874 [])),(11,.same (.ptr dP 40971 [])),(12,.same (.ptr dP 45068 [])),(14,.dv (Ty.int .i64))],[(24584,.keep eQ 8),(28681,.keep eQ 9),(36874,.keep bT 10),(40971,.keep dP 11),(45068,.keep dP 12)],[13]⟩ [(.ret,⟨[(4,.dv Ty.bool)],[],[]⟩),(.exit 2,⟨[(8,.same (.ptr eQ 24584 [])),(9,.same (.ptr eQ 28681 [])),(10,.same (.ptr bT 36874 [])),(11,.same (.ptr dP 40971 [])),(12,.same (.ptr dP 45068 []))],[(24584,.keep eQ 8),(28681,.keep eQ 9),(36874,.keep bT 10),(40971,.keep dP 11),(45068,.keep dP 12)],[13]⟩)] (.two .leaf (.two (.two (.two (.reg [] 8) (.two (.reg [] 8) (.two .leaf (.cut [(.normal,⟨[(8,.same (.ptr eQ 24584 [])),(9,.same (.ptr eQ 28681 [])),(10,.same (.ptr bT 36874 [])),(11,.same (.ptr dP 40971 [])),(12,.same (.ptr dP 45068 [])),(17,.same (.ptr bT 86033 []))],[(24584,.keep eQ 8),(28681,.keep eQ 9),(36874,.keep bT 10),(40971,.keep dP 11),(45068,.keep dP 12),(86033,.one bT (.dv bT))],[13,14]⟩)] [13,14] [24584,28681,36874,40971,45068] (.two .leaf (.two (.reg [] 9) .leaf)) (.two (.reg [] 13) (.two (.reg [] 9) .leaf)))))) .leaf) .leaf))) .leaf)) .leaf) .leaf))) .leaf)) .leaf)))))))))))))
noncomputable def F8(lp:Lp)(call:Nat->List D->Option D)(a0:D)(a1:D):Option D:=
(call 16 [a0]).bind fun r1=>
(D.un .not r1).bind fun x2=>
(D.truth x2).bind fun b3=>
 if b3 then((call 10 []).bind fun r4=>
 some r4) else((call 35 [a0,a1]).bind fun r5=>
(D.tupAt r5 0).bind fun x6=>
(D.tupAt r5 1).bind fun x7=>
(D.un .not x7).bind fun x8=>
(D.truth x8).bind fun b9=>
 if b9 then((call 10 []).bind fun r10=>
 some r10) else((call 25 [a0]).bind fun r11=>
(call 25 [x6]).bind fun r12=>
(call 23 [x6]).bind fun r13=>
(call 23 [a0]).bind fun r14=>
(D.truth (D.bool (!(D.beq r13 r14)))).bind fun b15=>
(if b15 then(some true) else((call 31 [a1]).bind fun r16=>
(call 36 [r11,r16]).bind fun r17=>
 D.truth (D.bool (!(D.beq r12 r17))))).bind fun b18=>
(D.truth (D.bool b18)).bind fun b19=>
 if b19 then(some (D.bool false)) else((call 23 [a0]).bind fun r20=>
(call 34 [(D.int .i64 6)]).bind fun r21=>
(call 37 [r20,r21]).bind fun r22=>
(call 28 [a0]).bind fun r23=>
(call 28 [x6]).bind fun r24=>
(D.get r23 [2]).bind fun x25=>
(D.asSl x25).bind fun l26=>
(D.truth (D.bool (!(D.beq (D.int .i64 (l26.length)) (D.int .i64 9))))).bind fun b27=>
(if b27 then(some true) else((D.get r24 [2]).bind fun x28=>
(D.asSl x28).bind fun l29=>
 D.truth (D.bool (!(D.beq (D.int .i64 (l29.length)) (D.int .i64 9)))))).bind fun b30=>
(D.truth (D.bool b30)).bind fun b31=>
 if b31 then(some (D.bool false)) else((lp (β:=Nat×List D) (fun(v32:List D)=>
(D.bin .lss (gx v32 0) (D.int .i64 3)).bind fun x33=>
(D.truth x33).bind fun b34=>
 if b34 then((lp (β:=Nat×List D) (fun(v35:List D)=>
(D.bin .lss (gx v35 0) (D.int .i64 3)).bind fun x36=>
(D.truth x36).bind fun b37=>
 if b37 then((D.idx (gx v32 0) 3).bind fun i38=>
(D.get r12 [i38]).bind fun x39=>
(D.idx (gx v35 0) 3).bind fun i40=>
(D.get r12 [i40]).bind fun x41=>
(call 38 [x39,x41]).bind fun r42=>
(D.idx (gx v32 0) 3).bind fun i43=>
(D.get r11 [i43]).bind fun x44=>
(D.idx (gx v35 0) 3).bind fun i45=>
(D.get r11 [i45]).bind fun x46=>
(call 38 [x44,x46]).bind fun r47=>
(call 39 [r47,r42]).bind fun r48=>
((D.truth (D.bool (D.beq (gx v32 0) (gx v35 0)))).bind fun b49=>
 if b49 then((call 41 [r12,r12]).bind fun r50=>
(call 41 [r11,r11]).bind fun r51=>
(call 39 [r50,r51]).bind fun r52=>
(call 40 [r48,r52]).bind fun r53=>
 some (0,[r53])) else(some (0,[r48]))).bind fun(r54:Nat×List D)=>
(D.get r23 [2]).bind fun x55=>
(D.bin .mul (D.int .i64 3) (gx v32 0)).bind fun x56=>
(D.bin .add x56 (gx v35 0)).bind fun x57=>
(D.asSl x55).bind fun l58=>
(D.idx x57 (l58.length)).bind fun i59=>
(l58[i59]?).bind fun x60=>
(call 38 [r22,(gx r54.2 0)]).bind fun r61=>
(call 40 [x60,r61]).bind fun r62=>
(D.get r24 [2]).bind fun x63=>
(D.bin .mul (D.int .i64 3) (gx v32 0)).bind fun x64=>
(D.bin .add x64 (gx v35 0)).bind fun x65=>
(D.asSl x63).bind fun l66=>
(D.idx x65 (l66.length)).bind fun i67=>
(l66[i67]?).bind fun x68=>
(D.truth (D.bool (!(D.beq x68 r62)))).bind fun b69=>
 if b69 then(some (Sum.inr (0,[(D.bool false)]))) else((D.bin .add (gx v35 0) (D.int .i64 1)).bind fun x70=>
 some (Sum.inl [x70]))) else(some (Sum.inr (1,[])))) [(D.int .i64 0)]).bind fun r71=>
 if r71.1=0 then(some (Sum.inr (0,[(gx r71.2 0)]))) else((D.bin .add (gx v32 0) (D.int .i64 1)).bind fun x72=>
 some (Sum.inl [x72]))) else(some (Sum.inr (1,[])))) [(D.int .i64 0)]).bind fun r73=>
 if r73.1=0 then(some (gx r73.2 0)) else((call 10 []).bind fun r74=>
 some r74)))))
theorem L8{lp}(hlp:au lp):ae 8 (m2 (F8 lp)):=aV (fn:=Tryz.f8) (ann:=A8) hlp (by kernel_rfl) (by kernel_rfl) (fun call a0 a1=>by kernel_rfl)
def NA:Ann:=(.two .leaf (.two .leaf (.two .leaf (.two .leaf (.two .leaf (.two .leaf (.two .leaf (.two (.reg [] 25) (.two .leaf (.two .leaf (.two .leaf (.two .leaf (.two (.reg [] 25) .leaf)))))))))))))
theorem Ri{lp}(hlp:au lp):ae 10 (fT lp 10 Tryz.f10 NA):=dn hlp (by kernel_rfl) (by kernel_rfl)
def NE:Ann:=(.two .leaf (.two .leaf (.two (.two .leaf (.two (.loop ⟨[(2,.same (.ptr K3 4098 [])),(24,.dv (Ty.int .i64))],[(4098,.one K3 (.st [K2] [.ow K1]))],[0,22,23]⟩ [(.ret,⟨[(2,.same (.ptr K3 4098 [])),(3,.dv (Ty.int .i64))],[(4098,.one K3 (.st [K2] [.ow K1]))],[]⟩),(.exit 0,⟨[(2,.same (.ptr K3 4098 []))],[(4098,.one K3 (.st [K2] [.ow K1]))],[0]⟩)] (.two .leaf (.two .leaf (.two (.two (.two .leaf (.two .leaf (.two (.loop ⟨[(2,.same (.ptr K3 4098 [])),(29,.dv (Ty.int .i64))],[(4098,.one K3 (.st [K2] [.ow K1]))],[0,22,23,24,28]⟩ [(.ret,⟨[(2,.same (.ptr K3 4098 [])),(3,.dv (Ty.int .i64))],[(4098,.one K3 (.st [K2] [.ow K1]))],[]⟩),(.exit 2,⟨[(2,.same (.ptr K3 4098 []))],[(4098,.one K3 (.st [K2] [.ow K1]))],[0,22,23,24]⟩)] .leaf) .leaf))) .leaf) .leaf)))) .leaf)) (.two .leaf (.two .leaf (.two .leaf (.two .leaf (.two .leaf (.two (.two .leaf (.two (.loop ⟨[(2,.same (.ptr K3 4098 [])),(10,.same (.mem Ty.bool 36919)),(58,.dv (Ty.int .i64))],[(4098,.one K3 (.st [K2] [.ow K1])),(36919,.many Ty.bool)],[8,56,57]⟩ [(.exit 4,⟨[(2,.same (.ptr K3 4098 [])),(10,.same (.mem Ty.bool 36919))],[(4098,.one K3 (.st [K2] [.ow K1])),(36919,.many Ty.bool)],[8]⟩)] (.two .leaf (.two .leaf (.two (.two (.two .leaf (.two .leaf (.two (.loop ⟨[(2,.same (.ptr K3 4098 [])),(10,.same (.mem Ty.bool 36919)),(66,.dv (Ty.int .i64))],[(4098,.one K3 (.st [K2] [.ow K1])),(36919,.many Ty.bool)],[8,56,57,58,64,65]⟩ [(.exit 6,⟨[(2,.same (.ptr K3 4098 [])),(10,.same (.mem Ty.bool 36919))],[(4098,.one K3 (.st [K2] [.ow K1])),(36919,.many Ty.bool)],[8,56,57,58]⟩)] .leaf) .leaf))) .leaf) .leaf)))) .leaf)) (.two .leaf (.two (.two .leaf (.two (.loop ⟨[(2,.same (.ptr K3 4098 [])),(10,.same (.mem Ty.bool 36919)),(15,.same (.ptr K3 49167 [])),(77,.dv (Ty.int .i64))],[(4098,.one K3 (.st [K2] [.ow K1])),(36919,.many Ty.bool),(49167,.one K3 (.st [K2] [.ow K1]))],[75,76]⟩ [(.exit 8,⟨[(2,.same (.ptr K3 4098 [])),(15,.same (.ptr K3 49167 []))],[(4098,.one K3 (.st [K2] [.ow K1])),(49167,.one K3 (.st [K2] [.ow K1]))],[]⟩)] (.two .leaf (.two .leaf (.cut [(.normal,⟨[(2,.same (.ptr K3 4098 [])),(10,.same (.mem Ty.bool 36919)),(15,.same (.ptr K3 49167 []))],[(4098,.one K3 (.st [K2] [.ow K1])),(36919,.many Ty.bool),(49167,.one K3 (.st [K2] [.ow K1]))],[75,76,77]⟩)] [75,76,77] [] .leaf .leaf)))) .leaf)) .leaf)))))))))))
theorem QP{lp}(hlp:au lp):ae 11 (fT lp 11 Tryz.f11 NE):=dn hlp (by kernel_rfl) (by kernel_rfl)
def O3:Ann:=(.two .leaf (.two .leaf (.two (.two .leaf (.two (.loop ⟨[(2,.same (.ptr K4 4098 [])),(3,.dv (Ty.int .i64))],[(4098,.one K4 (.st [K3,(Ty.int .i64)] [.st [K2] [.ow K1],.dv (Ty.int .i64)]))],[0]⟩ [(.ret,⟨[(2,.same (.ptr K4 4098 []))],[(4098,.one K4 (.st [K3,(Ty.int .i64)] [.st [K2] [.ow K1],.dv (Ty.int .i64)]))],[]⟩),(.exit 0,⟨[(2,.same (.ptr K4 4098 []))],[(4098,.one K4 (.st [K3,(Ty.int .i64)] [.st [K2] [.ow K1],.dv (Ty.int .i64)]))],[0]⟩)] (.two .leaf (.two (.two (.two .leaf (.two (.loop ⟨[(2,.same (.ptr K4 4098 [])),(4,.dv (Ty.int .i64))],[(4098,.one K4 (.st [K3,(Ty.int .i64)] [.st [K2] [.ow K1],.dv (Ty.int .i64)]))],[0,3]⟩ [(.ret,⟨[(2,.same (.ptr K4 4098 []))],[(4098,.one K4 (.st [K3,(Ty.int .i64)] [.st [K2] [.ow K1],.dv (Ty.int .i64)]))],[]⟩),(.exit 2,⟨[(2,.same (.ptr K4 4098 []))],[(4098,.one K4 (.st [K3,(Ty.int .i64)] [.st [K2] [.ow K1],.dv (Ty.int .i64)]))],[0,3]⟩)] .leaf) .leaf)) .leaf) .leaf))) .leaf)) (.two .leaf (.two .leaf (.two .leaf (.two .leaf (.two .leaf (.two (.two .leaf (.two (.loop ⟨[(2,.same (.ptr K4 4098 [])),(7,.same (.ptr K4 36871 [])),(8,.dv (Ty.int .i64))],[(4098,.one K4 (.st [K3,(Ty.int .i64)] [.st [K2] [.ow K1],.dv (Ty.int .i64)])),(36871,.one K4 (.st [K3,(Ty.int .i64)] [.st [K2] [.ow K1],.dv (Ty.int .i64)]))],[5,6]⟩ [(.exit 4,⟨[(2,.same (.ptr K4 4098 [])),(7,.same (.ptr K4 36871 []))],[(4098,.one K4 (.st [K3,(Ty.int .i64)] [.st [K2] [.ow K1],.dv (Ty.int .i64)])),(36871,.one K4 (.st [K3,(Ty.int .i64)] [.st [K2] [.ow K1],.dv (Ty.int .i64)]))],[]⟩)] (.two .leaf (.cut [(.normal,⟨[(2,.same (.ptr K4 4098 [])),(7,.same (.ptr K4 36871 []))],[(4098,.one K4 (.st [K3,(Ty.int .i64)] [.st [K2] [.ow K1],.dv (Ty.int .i64)])),(36871,.one K4 (.st [K3,(Ty.int .i64)] [.st [K2] [.ow K1],.dv (Ty.int .i64)]))],[5,6,8]⟩)] [5,6,8] [] (.two (.two .leaf (.two (.two .leaf (.two (.loop ⟨[(2,.same (.ptr K4 4098 [])),(7,.same (.ptr K4 36871 [])),(9,.dv Ty.bool),(10,.dv (Ty.int .i64))],[(4098,.one K4 (.st [K3,(Ty.int .i64)] [.st [K2] [.ow K1],.dv (Ty.int .i64)])),(36871,.one K4 (.st [K3,(Ty.int .i64)] [.st [K2] [.ow K1],.dv (Ty.int .i64)]))],[5,6,8]⟩ [(.exit 6,⟨[(2,.same (.ptr K4 4098 [])),(7,.same (.ptr K4 36871 [])),(9,.dv Ty.bool)],[(4098,.one K4 (.st [K3,(Ty.int .i64)] [.st [K2] [.ow K1],.dv (Ty.int .i64)])),(36871,.one K4 (.st [K3,(Ty.int .i64)] [.st [K2] [.ow K1],.dv (Ty.int .i64)]))],[5,6,8]⟩)] (.two .leaf (.two (.two (.two .leaf (.two (.loop ⟨[(2,.same (.ptr K4 4098 [])),(7,.same (.ptr K4 36871 [])),(9,.dv Ty.bool),(11,.dv (Ty.int .i64))],[(4098,.one K4 (.st [K3,(Ty.int .i64)] [.st [K2] [.ow K1],.dv (Ty.int .i64)])),(36871,.one K4 (.st [K3,(Ty.int .i64)] [.st [K2] [.ow K1],.dv (Ty.int .i64)]))],[5,6,8,10]⟩ [(.exit 8,⟨[(2,.same (.ptr K4 4098 [])),(7,.same (.ptr K4 36871 [])),(9,.dv Ty.bool)],[(4098,.one K4 (.st [K3,(Ty.int .i64)] [.st [K2] [.ow K1],.dv (Ty.int .i64)])),(36871,.one K4 (.st [K3,(Ty.int .i64)] [.st [K2] [.ow K1],.dv (Ty.int .i64)]))],[5,6,8,10]⟩)] .leaf) .leaf)) .leaf) .leaf))) .leaf)) (.two .leaf (.two (.reg [] 8) .leaf)))) .leaf) .leaf))) .leaf)) .leaf)))))))))
noncomputable def Hk(lp:Lp)(call:Nat->List D->Option D)(a0:D):Option D:=
(D.asSl a0).bind fun l1=>
(D.bin .gtr (D.int .i64 (l1.length)) (D.int .i64 64)).bind fun x2=>
(D.truth x2).bind fun b3=>
 if b3 then(some (D.st [(D.st [(D.sl [])]),(D.int .i64 2)])) else((lp (β:=Nat×List D) (fun(v4:List D)=>
(D.asSl a0).bind fun l5=>
(D.bin .lss (gx v4 0) (D.int .i64 (l5.length))).bind fun x6=>
(D.truth x6).bind fun b7=>
 if b7 then((lp (β:=Nat×List D) (fun(v8:List D)=>
(D.bin .lss (gx v8 0) (D.int .i64 3)).bind fun x9=>
(D.truth x9).bind fun b10=>
 if b10 then((D.asSl a0).bind fun l11=>
(D.idx (gx v4 0) (l11.length)).bind fun my=>
(l11[my]?).bind fun x13=>
(D.idx (gx v8 0) 3).bind fun i14=>
(D.fld x13 i14).bind fun x15=>
(D.bin .gtr x15 (D.int .i64 262144)).bind fun x16=>
(D.truth x16).bind fun b17=>
(if b17 then(some true) else((D.asSl a0).bind fun l18=>
(D.idx (gx v4 0) (l18.length)).bind fun i19=>
(l18[i19]?).bind fun x20=>
(D.idx (gx v8 0) 3).bind fun i21=>
(D.fld x20 i21).bind fun x22=>
(D.bin .lss x22 (D.int .i64 (-262144))).bind fun x23=>
 D.truth x23)).bind fun b24=>
(D.truth (D.bool b24)).bind fun b25=>
 if b25 then(some (Sum.inr (0,[(D.sl []),(D.int .i64 1)]))) else((D.bin .add (gx v8 0) (D.int .i64 1)).bind fun x26=>
 some (Sum.inl [x26,(D.sl ((gx v8 1).els)),(gx v8 2)]))) else(some (Sum.inr (1,[(D.sl ((gx v8 1).els)),(gx v8 2)])))) [(D.int .i64 0),(D.sl ((gx v4 1).els)),(gx v4 2)]).bind fun r27=>
 if r27.1=0 then(some (Sum.inr (0,[(D.sl ((gx r27.2 0).els)),(gx r27.2 1)]))) else((D.bin .add (gx v4 0) (D.int .i64 1)).bind fun x28=>
 some (Sum.inl [x28,(D.sl ((gx r27.2 0).els)),(gx r27.2 1)]))) else(some (Sum.inr (1,[(D.sl ((gx v4 1).els)),(gx v4 2)])))) [(D.int .i64 0),(D.sl []),(D.int .i64 0)]).bind fun r29=>
 if r29.1=0 then(some (D.st [(D.st [(D.sl ((gx r29.2 0).els))]),(gx r29.2 1)])) else((call 47 [a0]).bind fun r30=>
(call 48 [r30]).bind fun r31=>
(D.asSl r31).bind fun l32=>
(D.truth (D.bool (D.beq (D.int .i64 (l32.length)) (D.int .i64 0)))).bind fun b33=>
 if b33 then(some (D.st [(D.st [(D.sl [])]),(D.int .i64 120)])) else((D.asSl r31).bind fun l34=>
(D.bin .gtr (D.int .i64 (l34.length)) (D.int .i64 64)).bind fun x35=>
(D.truth x35).bind fun b36=>
 if b36 then(some (D.st [(D.st [(D.sl [])]),(D.int .i64 2)])) else((lp (β:=Nat×List D) (fun(v37:List D)=>
(D.asSl r30).bind fun l38=>
(D.bin .lss (gx v37 0) (D.int .i64 (l38.length))).bind fun x39=>
(D.truth x39).bind fun b40=>
 if b40 then(((lp (β:=Nat×List D) (fun(v41:List D)=>
(D.asSl r31).bind fun l42=>
(D.bin .lss (gx v41 1) (D.int .i64 (l42.length))).bind fun x43=>
(D.truth x43).bind fun b44=>
 if b44 then((lp (β:=Nat×List D) (fun(v45:List D)=>
(D.asSl r31).bind fun l46=>
(D.idx (gx v41 1) (l46.length)).bind fun i47=>
(l46[i47]?).bind fun x48=>
(D.fld x48 2).bind fun x49=>
(D.asSl x49).bind fun l50=>
(D.bin .lss (gx v45 1) (D.int .i64 (l50.length))).bind fun x51=>
(D.truth x51).bind fun b52=>
 if b52 then((D.truth (gx v45 0)).bind fun b53=>
(if b53 then(some true) else((D.asSl r31).bind fun l54=>
(D.idx (gx v41 1) (l54.length)).bind fun i55=>
(l54[i55]?).bind fun x56=>
(D.fld x56 2).bind fun x57=>
(D.asSl x57).bind fun l58=>
(D.idx (gx v45 1) (l58.length)).bind fun i59=>
(l58[i59]?).bind fun x60=>
 D.truth (D.bool (D.beq x60 (gx v37 0))))).bind fun b61=>
(D.bin .add (gx v45 1) (D.int .i64 1)).bind fun x62=>
 some (Sum.inl [(D.bool b61),x62,(D.sl ((gx v45 2).els)),(gx v45 3),(D.sl ((gx v45 4).els)),(gx v45 5)])) else(some (Sum.inr (0,[(gx v45 0),(D.sl ((gx v45 2).els)),(gx v45 3),(D.sl ((gx v45 4).els)),(gx v45 5)])))) [(gx v41 0),(D.int .i64 0),(D.sl ((gx v41 2).els)),(gx v41 3),(D.sl ((gx v41 4).els)),(gx v41 5)]).bind fun r63=>
(D.bin .add (gx v41 1) (D.int .i64 1)).bind fun x64=>
 some (Sum.inl [(gx r63.2 0),x64,(D.sl ((gx r63.2 1).els)),(gx r63.2 2),(D.sl ((gx r63.2 3).els)),(gx r63.2 4)])) else(some (Sum.inr (0,[(gx v41 0),(D.sl ((gx v41 2).els)),(gx v41 3),(D.sl ((gx v41 4).els)),(gx v41 5)])))) [(D.bool false),(D.int .i64 0),(D.sl ((gx v37 1).els)),(gx v37 2),(D.sl ((gx v37 3).els)),(gx v37 4)]).bind fun r65=>
(D.truth (gx r65.2 0)).bind fun b66=>
 if b66 then((D.asSl r30).bind fun l67=>
(D.idx (gx v37 0) (l67.length)).bind fun i68=>
(l67[i68]?).bind fun x69=>
 if List.length ((gx r65.2 3).els)+List.length [x69]<=1073741824 then(some (0,[(D.sl ((gx r65.2 1).els)),(gx r65.2 2),(D.sl (((gx r65.2 3).els)++[x69])),(gx r65.2 4)])) else none) else(some (0,[(D.sl ((gx r65.2 1).els)),(gx r65.2 2),(D.sl ((gx r65.2 3).els)),(gx r65.2 4)]))).bind fun(r70:Nat×List D)=>
(D.bin .add (gx v37 0) (D.int .i64 1)).bind fun x71=>
 some (Sum.inl [x71,(D.sl ((gx r70.2 0).els)),(gx r70.2 1),(D.sl ((gx r70.2 2).els)),(gx r70.2 3)])) else(some (Sum.inr (0,[(D.sl ((gx v37 1).els)),(gx v37 2),(D.sl ((gx v37 3).els)),(gx v37 4)])))) [(D.int .i64 0),(D.sl ((gx r29.2 0).els)),(gx r29.2 1),(D.sl []),(D.int .i64 0)]).bind fun r72=>
 some (D.st [(D.st [(D.sl ((gx r72.2 2).els))]),(gx r72.2 3)])))))
theorem OS{lp}(hlp:au lp):ae 12 (m1 (Hk lp)):=bz (fn:=Tryz.f12) (ann:=O3) hlp (by kernel_rfl) (by kernel_rfl) (fun call a0=>by kernel_rfl)
def Q3:Ann:=(.two .leaf (.two .leaf (.two (.two .leaf (.two (.loop ⟨[(5,.dv (Ty.int .i64))],[],[0,1]⟩ [(.ret,⟨[(4,.dv Ty.bool)],[],[]⟩),(.exit 0,⟨[],[],[]⟩)] (.two .leaf (.two (.two (.two (.reg [] 8) .leaf) .leaf) .leaf))) .leaf)) .leaf)))
noncomputable def Jq(lp:Lp)(call:Nat->List D->Option D)(a0:D)(a1:D):Option D:=
(D.asSl a0).bind fun l1=>
(D.asSl a1).bind fun l2=>
(D.truth (D.bool (!(D.beq (D.int .i64 (l1.length)) (D.int .i64 (l2.length)))))).bind fun b3=>
 if b3 then(some (D.bool false)) else((lp (β:=Nat×List D) (fun(v4:List D)=>
(D.asSl a0).bind fun l5=>
(D.bin .lss (gx v4 0) (D.int .i64 (l5.length))).bind fun x6=>
(D.truth x6).bind fun b7=>
 if b7 then((D.asSl a0).bind fun l8=>
(D.idx (gx v4 0) (l8.length)).bind fun i9=>
(l8[i9]?).bind fun x10=>
(D.asSl a1).bind fun l11=>
(D.idx (gx v4 0) (l11.length)).bind fun my=>
(l11[my]?).bind fun x13=>
(D.truth (D.bool (!(D.beq x10 x13)))).bind fun b14=>
 if b14 then(some (Sum.inr (0,[(D.bool false)]))) else((D.bin .add (gx v4 0) (D.int .i64 1)).bind fun x15=>
 some (Sum.inl [x15]))) else(some (Sum.inr (1,[])))) [(D.int .i64 0)]).bind fun r16=>
 if r16.1=0 then(some (gx r16.2 0)) else(some (D.bool true)))
theorem Pq{lp}(hlp:au lp):ae 13 (m2 (Jq lp)):=aV (fn:=Tryz.f13) (ann:=Q3) hlp (by kernel_rfl) (by kernel_rfl) (fun call a0 a1=>by kernel_rfl)
theorem P5{lp}(hlp:au lp):ae 14 (fT lp 14 Tryz.f14 .leaf):=dn hlp (by kernel_rfl) (by kernel_rfl)
noncomputable def IT(lp:Lp)(call:Nat->List D->Option D)(a0:D):Option D:=
(D.get a0 [0]).bind fun x1=>
(call 12 [x1]).bind fun r2=>
(D.get r2 [1]).bind fun x3=>
(D.truth (D.bool (D.beq x3 (D.int .i64 0)))).bind fun b4=>
(if b4 then((D.get r2 [0,0]).bind fun x5=>
(D.get a0 [0]).bind fun x6=>
(call 13 [x5,x6]).bind fun r7=>
(D.un .not r7).bind fun x8=>
 D.truth x8) else(some false)).bind fun b9=>
(D.truth (D.bool b9)).bind fun b10=>
 if b10 then(some (D.int .i64 3)) else((D.get r2 [1]).bind fun x11=>
 some x11)
theorem ON{lp}(hlp:au lp):ae 15 (m1 (IT lp)):=bz (fn:=Tryz.f15) (ann:=.leaf) hlp (by kernel_rfl) (by kernel_rfl) (fun call a0=>by kernel_rfl)
noncomputable def Jj(lp:Lp)(call:Nat->List D->Option D)(a0:D):Option D:=
(D.get a0 [0]).bind fun x1=>
(D.asSl x1).bind fun l2=>
(D.bin .leq (D.int .i64 (l2.length)) (D.int .i64 16)).bind fun x3=>
(D.truth x3).bind fun b4=>
(if b4 then((call 15 [a0]).bind fun r5=>
 D.truth (D.bool (D.beq r5 (D.int .i64 0)))) else(some false)).bind fun b6=>
 some (D.bool b6)
theorem OK{lp}(hlp:au lp):ae 16 (m1 (Jj lp)):=bz (fn:=Tryz.f16) (ann:=.leaf) hlp (by kernel_rfl) (by kernel_rfl) (fun call a0=>by kernel_rfl)
def Oc:Ann:=(.two .leaf (.two .leaf (.two (.two .leaf (.two (.loop ⟨[(5,.dv (Ty.int .i64))],[],[0,1]⟩ [(.ret,⟨[(4,.dv Ty.bool)],[],[]⟩),(.exit 0,⟨[],[],[]⟩)] (.two .leaf (.two (.two (.two .leaf (.two .leaf (.two (.loop ⟨[(6,.dv (Ty.int .i64))],[],[0,1,5]⟩ [(.ret,⟨[(4,.dv Ty.bool)],[],[]⟩),(.exit 2,⟨[],[],[0,1,5]⟩)] (.two .leaf (.two (.two (.two (.reg [] 16) .leaf) .leaf) .leaf))) .leaf))) .leaf) .leaf))) .leaf)) .leaf)))
theorem P1{lp}(hlp:au lp):ae 17 (fT lp 17 Tryz.f17 Oc):=dn hlp (by kernel_rfl) (by kernel_rfl)
def OU:Ann:=(.two .leaf (.two .leaf (.two (.two .leaf (.two (.loop ⟨[(1,.same (.ptr K3 4097 [])),(3,.ow K6),(10,.dv (Ty.int .i64))],[(4097,.keep K3 1)],[8,9]⟩ [(.exit 0,⟨[(3,.ow K6)],[],[]⟩)] (.two .leaf (.two .leaf (.two (.two (.two .leaf (.reg [] 11)) .leaf) .leaf)))) .leaf)) .leaf)))
noncomputable def IU(lp:Lp)(call:Nat->List D->Option D)(a0:D):Option D:=
(D.get a0 [0]).bind fun x1=>
(call 45 [x1]).bind fun r2=>
(D.asSl r2).bind fun l3=>
(lp (β:=Nat×List D) (fun(v4:List D)=>
(D.bin .lss (gx v4 1) (D.int .i64 (l3.length))).bind fun x5=>
(D.truth x5).bind fun b6=>
 if b6 then((D.asSl r2).bind fun l7=>
(D.idx (gx v4 1) (l7.length)).bind fun i8=>
(l7[i8]?).bind fun x9=>
(D.get x9 [0]).bind fun x10=>
(D.get x9 [1]).bind fun x11=>
(D.get a0 [0]).bind fun x12=>
(call 46 [x12,x9]).bind fun r13=>
 if List.length ((gx v4 0).els)+List.length [(D.st [x10,x11,r13])]<=1073741824 then((D.bin .add (gx v4 1) (D.int .i64 1)).bind fun x14=>
 some (Sum.inl [(D.sl (((gx v4 0).els)++[(D.st [x10,x11,r13])])),x14])) else none) else(some (Sum.inr (0,[(D.sl ((gx v4 0).els))])))) [(D.sl []),(D.int .i64 0)]).bind fun r15=>
 some (D.sl ((gx r15.2 0).els))
theorem Pb{lp}(hlp:au lp):ae 18 (m1 (IU lp)):=bz (fn:=Tryz.f18) (ann:=OU) hlp (by kernel_rfl) (by kernel_rfl) (fun call a0=>by kernel_rfl)
noncomputable def Jm(lp:Lp)(call:Nat->List D->Option D)(a0:D):Option D:=
(D.get a0 [0]).bind fun x1=>
(call 48 [x1]).bind fun r2=>
 some r2
theorem Ps{lp}(hlp:au lp):ae 19 (m1 (Jm lp)):=bz (fn:=Tryz.f19) (ann:=.leaf) hlp (by kernel_rfl) (by kernel_rfl) (fun call a0=>by kernel_rfl)
def NJ:Ann:=(.two .leaf (.two .leaf (.two (.two .leaf (.two (.loop ⟨[(5,.dv (Ty.int .i64))],[],[0,1]⟩ [(.ret,⟨[(4,.dv Ty.bool)],[],[]⟩),(.exit 0,⟨[],[],[]⟩)] (.two .leaf (.two (.two (.two (.reg [] 8) .leaf) .leaf) .leaf))) .leaf)) .leaf)))
theorem Px{lp}(hlp:au lp):ae 20 (fT lp 20 Tryz.f20 NJ):=dn hlp (by kernel_rfl) (by kernel_rfl)
def Pc:Ann:=(.two .leaf (.two .leaf (.two (.regI [] 3 (.two (.two .leaf (.two .leaf (.two (.loop ⟨[(1,.same (.clo 56 [(.ptr aD 8195 [])])),(2,.same (.ptr K3 20482 [])),(11,.dv (Ty.int .i64))],[(4097,.one K3 (.dv K3)),(4098,.one aD (.dv aD)),(8195,.one aD (.dv aD)),(20482,.keep K3 2)],[9,10]⟩ [(.exit 0,⟨[],[(4097,.one K3 (.dv K3)),(4098,.one aD (.dv aD)),(8195,.one aD (.dv aD))],[]⟩)] (.two .leaf (.two .leaf (.two (.two (.two .leaf (.two .leaf (.two (.loop ⟨[(1,.same (.clo 56 [(.ptr aD 8195 [])])),(2,.same (.ptr K3 20482 [])),(5,.same (.ptr K6 36869 [])),(6,.dv (Ty.int .i64))],[(4097,.one K3 (.dv K3)),(4098,.one aD (.dv aD)),(8195,.one aD (.dv aD)),(20482,.keep K3 2),(36869,.keep K6 5)],[9,10,11]⟩ [(.exit 2,⟨[(1,.same (.clo 56 [(.ptr aD 8195 [])])),(2,.same (.ptr K3 20482 []))],[(4097,.one K3 (.dv K3)),(4098,.one aD (.dv aD)),(8195,.one aD (.dv aD)),(20482,.keep K3 2)],[9,10,11]⟩)] (.two .leaf (.two (.two (.two (.reg [] 29) (.regI [] 10 (.two .leaf .leaf))) .leaf) .leaf))) .leaf))) .leaf) .leaf)))) .leaf))) .leaf)) .leaf)))
noncomputable def Jd(lp:Lp)(call:Nat->List D->Option D)(a0:D):Option D:=
(call 54 [(D.int .i64 0)]).bind fun r1=>
(call 18 [a0]).bind fun r2=>
(D.asSl r2).bind fun l3=>
(lp (β:=Nat×List D) (fun(v4:List D)=>
(D.bin .lss (gx v4 0) (D.int .i64 (l3.length))).bind fun x5=>
(D.truth x5).bind fun b6=>
 if b6 then((D.asSl r2).bind fun l7=>
(D.idx (gx v4 0) (l7.length)).bind fun i8=>
(l7[i8]?).bind fun x9=>
(lp (β:=Nat×List D) (fun(v10:List D)=>
(D.get x9 [2]).bind fun x11=>
(D.asSl x11).bind fun l12=>
(D.bin .lss (gx v10 0) (D.int .i64 (l12.length))).bind fun x13=>
(D.truth x13).bind fun b14=>
 if b14 then((D.get a0 [0]).bind fun x15=>
(D.get x9 [2]).bind fun x16=>
(D.asSl x16).bind fun l17=>
(D.idx (D.int .i64 0) (l17.length)).bind fun i18=>
(l17[i18]?).bind fun x19=>
(D.asSl x15).bind fun l20=>
(D.idx x19 (l20.length)).bind fun i21=>
(l20[i21]?).bind fun x22=>
(D.get a0 [0]).bind fun x23=>
(D.get x9 [2]).bind fun x24=>
(D.bin .sub (gx v10 0) (D.int .i64 1)).bind fun x25=>
(D.asSl x24).bind fun l26=>
(D.idx x25 (l26.length)).bind fun i27=>
(l26[i27]?).bind fun x28=>
(D.asSl x23).bind fun l29=>
(D.idx x28 (l29.length)).bind fun i30=>
(l29[i30]?).bind fun x31=>
(D.get a0 [0]).bind fun x32=>
(D.get x9 [2]).bind fun x33=>
(D.asSl x33).bind fun l34=>
(D.idx (gx v10 0) (l34.length)).bind fun i35=>
(l34[i35]?).bind fun x36=>
(D.asSl x32).bind fun l37=>
(D.idx x36 (l37.length)).bind fun i38=>
(l37[i38]?).bind fun x39=>
(call 117 [x22,x31]).bind fun r40=>
(call 91 [r40,x39]).bind fun r41=>
(call 57 [(gx v10 3),r41]).bind fun r42=>
(D.bin .add (gx v10 0) (D.int .i64 1)).bind fun x43=>
 some (Sum.inl [x43,(gx v10 1),(gx v10 2),r42])) else(some (Sum.inr (0,[(gx v10 1),(gx v10 2),(gx v10 3)])))) [(D.int .i64 2),(gx v4 1),(gx v4 2),(gx v4 3)]).bind fun r44=>
(D.bin .add (gx v4 0) (D.int .i64 1)).bind fun x45=>
 some (Sum.inl [x45,(gx r44.2 0),(gx r44.2 1),(gx r44.2 2)])) else(some (Sum.inr (0,[(gx v4 1),(gx v4 2),(gx v4 3)])))) [(D.int .i64 0),a0,(D.st [(D.bool false),(D.bool false),(aB aU)]),r1]).bind fun r46=>
 some (gx r46.2 2)
theorem PI{lp}(hlp:au lp):ae 23 (m1 (Jd lp)):=bz (fn:=Tryz.f23) (ann:=Pc) hlp (by kernel_rfl) (by kernel_rfl) (fun call a0=>by kernel_rfl)
def PW:Ann:=(.two .leaf (.two .leaf (.two .leaf (.two (.two .leaf (.two (.loop ⟨[(2,.same (.ptr aD 4098 [])),(4,.same (.ptr aD 12292 [])),(5,.dv (Ty.int .i64))],[(4098,.keep aD 2),(12292,.one aD (.dv aD))],[3]⟩ [(.exit 0,⟨[(2,.same (.ptr aD 4098 [])),(4,.same (.ptr aD 12292 []))],[(4098,.keep aD 2),(12292,.one aD (.dv aD))],[]⟩)] (.two .leaf (.two (.two (.reg [] 7) .leaf) .leaf))) .leaf)) .leaf))))
noncomputable def IK(lp:Lp)(call:Nat->List D->Option D)(a0:D):Option D:=
(call 58 [a0]).bind fun r1=>
(call 34 [(D.int .i64 0)]).bind fun r2=>
(lp (β:=Nat×List D) (fun(v3:List D)=>
(D.asSl r1).bind fun l4=>
(D.bin .lss (gx v3 0) (D.int .i64 (l4.length))).bind fun x5=>
(D.truth x5).bind fun b6=>
 if b6 then((D.asSl r1).bind fun l7=>
(D.idx (gx v3 0) (l7.length)).bind fun i8=>
(l7[i8]?).bind fun x9=>
(D.fld x9 1).bind fun x10=>
(call 59 [(gx v3 1),x10]).bind fun r11=>
(D.bin .add (gx v3 0) (D.int .i64 1)).bind fun x12=>
 some (Sum.inl [x12,r11])) else(some (Sum.inr (0,[(gx v3 1)])))) [(D.int .i64 0),r2]).bind fun r13=>
 some (gx r13.2 0)
theorem Oi{lp}(hlp:au lp):ae 24 (m1 (IK lp)):=bz (fn:=Tryz.f24) (ann:=PW) hlp (by kernel_rfl) (by kernel_rfl) (fun call a0=>by kernel_rfl)
def Qg:Ann:=(.two .leaf (.two .leaf (.two (.regI [] 3 (.two (.two .leaf (.two .leaf (.two (.loop ⟨[(1,.same (.clo 60 [(.ptr iX 8195 [])])),(2,.same (.ptr K3 20482 [])),(11,.dv (Ty.int .i64))],[(4097,.one K3 (.dv K3)),(4098,.one eQ (.dv eQ)),(8195,.one iX (.dv iX)),(20482,.keep K3 2)],[9,10]⟩ [(.exit 0,⟨[],[(4097,.one K3 (.dv K3)),(4098,.one eQ (.dv eQ)),(8195,.one iX (.dv iX))],[]⟩)] (.two .leaf (.two .leaf (.two (.two (.two .leaf (.two .leaf (.two (.loop ⟨[(1,.same (.clo 60 [(.ptr iX 8195 [])])),(2,.same (.ptr K3 20482 [])),(5,.same (.ptr K6 36869 [])),(6,.dv (Ty.int .i64))],[(4097,.one K3 (.dv K3)),(4098,.one eQ (.dv eQ)),(8195,.one iX (.dv iX)),(20482,.keep K3 2),(36869,.keep K6 5)],[9,10,11]⟩ [(.exit 2,⟨[(1,.same (.clo 60 [(.ptr iX 8195 [])])),(2,.same (.ptr K3 20482 []))],[(4097,.one K3 (.dv K3)),(4098,.one eQ (.dv eQ)),(8195,.one iX (.dv iX)),(20482,.keep K3 2)],[9,10,11]⟩)] (.two .leaf (.two (.two (.two (.reg [] 29) (.regI [] 10 (.two (.two .leaf (.two .leaf (.two (.loop ⟨[(2,.same (.ptr iX 8195 [])),(3,.same (.ptr aD 65539 [])),(4,.same (.ptr mz 65540 [])),(6,.dv (Ty.int .i64))],[(4097,.one K3 (.dv K3)),(4098,.one eQ (.dv eQ)),(8195,.one iX (.dv iX)),(20482,.one K3 (.dv K3)),(36869,.one K6 (.dv K6)),(53255,.one mz (.dv mz)),(65539,.keep aD 3),(65540,.keep mz 4)],[]⟩ [(.exit 0,⟨[],[(4097,.one K3 (.dv K3)),(4098,.one eQ (.dv eQ)),(8195,.one iX (.dv iX)),(20482,.one K3 (.dv K3)),(36869,.one K6 (.dv K6)),(53255,.one mz (.dv mz))],[]⟩)] (.two .leaf (.two .leaf (.two (.two (.two .leaf (.reg [] 23)) .leaf) .leaf)))) .leaf))) .leaf))) .leaf) .leaf))) .leaf))) .leaf) .leaf)))) .leaf))) .leaf)) (.two (.reg [] 5) (.two (.two .leaf (.two (.loop ⟨[(2,.same (.ptr eQ 4098 [])),(3,.same (.ptr iX 8195 [])),(4,.same (.ptr aD 36868 [])),(13,.dv (Ty.int .i64))],[(4098,.one eQ (.dv eQ)),(8195,.keep iX 3),(36868,.keep aD 4)],[]⟩ [(.exit 0,⟨[(2,.same (.ptr eQ 4098 []))],[(4098,.one eQ (.dv eQ))],[]⟩)] (.two .leaf (.two .leaf (.two (.two (.two .leaf (.reg [] 7)) .leaf) .leaf)))) .leaf)) .leaf)))))
noncomputable def Jk(lp:Lp)(call:Nat->List D->Option D)(a0:D):Option D:=
(call 18 [a0]).bind fun r1=>
(D.asSl r1).bind fun l2=>
(lp (β:=Nat×List D) (fun(v3:List D)=>
(D.bin .lss (gx v3 0) (D.int .i64 (l2.length))).bind fun x4=>
(D.truth x4).bind fun b5=>
 if b5 then((D.asSl r1).bind fun l6=>
(D.idx (gx v3 0) (l6.length)).bind fun i7=>
(l6[i7]?).bind fun x8=>
(lp (β:=Nat×List D) (fun(v9:List D)=>
(D.get x8 [2]).bind fun x10=>
(D.asSl x10).bind fun l11=>
(D.bin .lss (gx v9 0) (D.int .i64 (l11.length))).bind fun x12=>
(D.truth x12).bind fun b13=>
 if b13 then((D.get a0 [0]).bind fun x14=>
(D.get x8 [2]).bind fun x15=>
(D.asSl x15).bind fun l16=>
(D.idx (D.int .i64 0) (l16.length)).bind fun i17=>
(l16[i17]?).bind fun x18=>
(D.asSl x14).bind fun l19=>
(D.idx x18 (l19.length)).bind fun i20=>
(l19[i20]?).bind fun x21=>
(D.get a0 [0]).bind fun x22=>
(D.get x8 [2]).bind fun x23=>
(D.bin .sub (gx v9 0) (D.int .i64 1)).bind fun x24=>
(D.asSl x23).bind fun l25=>
(D.idx x24 (l25.length)).bind fun i26=>
(l25[i26]?).bind fun x27=>
(D.asSl x22).bind fun l28=>
(D.idx x27 (l28.length)).bind fun i29=>
(l28[i29]?).bind fun x30=>
(D.get a0 [0]).bind fun x31=>
(D.get x8 [2]).bind fun x32=>
(D.asSl x32).bind fun l33=>
(D.idx (gx v9 0) (l33.length)).bind fun i34=>
(l33[i34]?).bind fun x35=>
(D.asSl x31).bind fun l36=>
(D.idx x35 (l36.length)).bind fun i37=>
(l36[i37]?).bind fun x38=>
(call 117 [x21,x30]).bind fun r39=>
(call 91 [r39,x38]).bind fun r40=>
(lp (β:=Nat×List D) (fun(v41:List D)=>
(D.bin .lss (gx v41 0) (D.int .i64 3)).bind fun x42=>
(D.truth x42).bind fun b43=>
 if b43 then((D.idx (gx v41 0) 3).bind fun i44=>
(D.get (gx v41 3) [i44]).bind fun x45=>
(D.idx (gx v41 0) 3).bind fun i46=>
(D.get x21 [i46]).bind fun x47=>
(D.idx (gx v41 0) 3).bind fun i48=>
(D.get x30 [i48]).bind fun x49=>
(D.bin .add x47 x49).bind fun x50=>
(D.idx (gx v41 0) 3).bind fun i51=>
(D.get x38 [i51]).bind fun x52=>
(D.bin .add x50 x52).bind fun x53=>
(call 54 [x53]).bind fun r54=>
(call 61 [r40,r54]).bind fun r55=>
(call 57 [x45,r55]).bind fun r56=>
(D.idx (gx v41 0) 3).bind fun i57=>
(D.set (gx v41 3) [i57] r56).bind fun x58=>
(D.bin .add (gx v41 0) (D.int .i64 1)).bind fun x59=>
 some (Sum.inl [x59,(gx v41 1),(gx v41 2),x58,(gx v41 4),(gx v41 5),(gx v41 6)])) else(some (Sum.inr (0,[(gx v41 1),(gx v41 2),(gx v41 3),(gx v41 4),(gx v41 5),(gx v41 6)])))) [(D.int .i64 0),(gx v9 1),(gx v9 2),(gx v9 3),a0,x8,(D.st [x21,x30,x38])]).bind fun r60=>
(D.bin .add (gx v9 0) (D.int .i64 1)).bind fun x61=>
 some (Sum.inl [x61,(gx r60.2 0),(gx r60.2 1),(gx r60.2 2)])) else(some (Sum.inr (0,[(gx v9 1),(gx v9 2),(gx v9 3)])))) [(D.int .i64 2),(gx v3 1),(gx v3 2),(gx v3 3)]).bind fun r62=>
(D.bin .add (gx v3 0) (D.int .i64 1)).bind fun x63=>
 some (Sum.inl [x63,(gx r62.2 0),(gx r62.2 1),(gx r62.2 2)])) else(some (Sum.inr (0,[(gx v3 1),(gx v3 2),(gx v3 3)])))) [(D.int .i64 0),a0,(D.st [(D.st [(D.st [(D.bool false),(D.bool false),(aB aU)]),(D.st [(D.bool false),(D.bool false),(aB aU)])]),(D.st [(D.st [(D.bool false),(D.bool false),(aB aU)]),(D.st [(D.bool false),(D.bool false),(aB aU)])]),(D.st [(D.st [(D.bool false),(D.bool false),(aB aU)]),(D.st [(D.bool false),(D.bool false),(aB aU)])])]),(D.st [(D.st [(D.bool false),(D.bool false),(aB aU)]),(D.st [(D.bool false),(D.bool false),(aB aU)]),(D.st [(D.bool false),(D.bool false),(aB aU)])])]).bind fun r64=>
(call 54 [(D.int .i64 4)]).bind fun r65=>
(call 23 [(gx r64.2 0)]).bind fun r66=>
(call 61 [r65,r66]).bind fun r67=>
(lp (β:=Nat×List D) (fun(v68:List D)=>
(D.bin .lss (gx v68 0) (D.int .i64 3)).bind fun x69=>
(D.truth x69).bind fun b70=>
 if b70 then((D.idx (gx v68 0) 3).bind fun i71=>
(D.get (gx r64.2 2) [i71]).bind fun x72=>
(call 62 [x72,r67]).bind fun r73=>
(D.idx (gx v68 0) 3).bind fun i74=>
(D.set (gx v68 1) [i74] r73).bind fun x75=>
(D.bin .add (gx v68 0) (D.int .i64 1)).bind fun x76=>
 some (Sum.inl [x76,x75])) else(some (Sum.inr (0,[(gx v68 1)])))) [(D.int .i64 0),(gx r64.2 1)]).bind fun r77=>
 some (gx r77.2 0)
theorem Rm{lp}(hlp:au lp):ae 25 (m1 (Jk lp)):=bz (fn:=Tryz.f25) (ann:=Qg) hlp (by kernel_rfl) (by kernel_rfl) (fun call a0=>by kernel_rfl)
end Go.Proofs.YtjjjkojfijpeeaaGreat.Sy
end
section
set_option maxRecDepth 20000
set_option maxHeartbeats 0
set_option linter.unusedVariables false
namespace Go.Proofs.YtjjjkojfijpeeaaGreat.Sy
open Go Go.Proofs
def OY:Ann:=(.two .leaf (.two .leaf (.two .leaf (.two .leaf (.two (.two .leaf (.two (.loop ⟨[(2,.same (.ptr eQ 4098 [])),(4,.same (.ptr bT 12292 [])),(5,.same (.ptr eQ 16389 [])),(6,.dv (Ty.int .i64))],[(4098,.keep eQ 2),(12292,.keep bT 4),(16389,.one eQ (.dv eQ))],[3]⟩ [(.exit 0,⟨[(2,.same (.ptr eQ 4098 [])),(5,.same (.ptr eQ 16389 []))],[(4098,.keep eQ 2),(16389,.one eQ (.dv eQ))],[]⟩)] (.two .leaf (.two (.two (.two (.reg [] 21) (.two (.reg [] 9) (.reg [] 8))) .leaf) .leaf))) .leaf)) .leaf)))))
noncomputable def IV(lp:Lp)(call:Nat->List D->Option D)(a0:D):Option D:=
(call 58 [a0]).bind fun r1=>
(call 24 [a0]).bind fun r2=>
(call 63 [r2]).bind fun r3=>
(call 31 [(D.st [(D.int .i64 0),(D.int .i64 0),(D.int .i64 0)])]).bind fun r4=>
(lp (β:=Nat×List D) (fun(v5:List D)=>
(D.asSl r1).bind fun l6=>
(D.bin .lss (gx v5 0) (D.int .i64 (l6.length))).bind fun x7=>
(D.truth x7).bind fun b8=>
 if b8 then((D.asSl r1).bind fun l9=>
(D.idx (gx v5 0) (l9.length)).bind fun i10=>
(l9[i10]?).bind fun x11=>
(D.fld x11 0).bind fun x12=>
(D.fld x12 0).bind fun x13=>
(D.asSl r1).bind fun l14=>
(D.idx (gx v5 0) (l14.length)).bind fun i15=>
(l14[i15]?).bind fun x16=>
(D.fld x16 0).bind fun x17=>
(D.fld x17 1).bind fun x18=>
(call 64 [x13,x18]).bind fun r19=>
(D.asSl r1).bind fun l20=>
(D.idx (gx v5 0) (l20.length)).bind fun i21=>
(l20[i21]?).bind fun x22=>
(D.fld x22 0).bind fun x23=>
(D.fld x23 2).bind fun x24=>
(call 64 [r19,x24]).bind fun r25=>
(D.asSl r1).bind fun l26=>
(D.idx (gx v5 0) (l26.length)).bind fun i27=>
(l26[i27]?).bind fun x28=>
(D.fld x28 1).bind fun x29=>
(call 63 [x29]).bind fun r30=>
(call 65 [r30,r3]).bind fun r31=>
(call 42 [(D.int .i64 1),(D.int .i64 4)]).bind fun r32=>
(call 38 [r31,r32]).bind fun r33=>
(call 31 [r25]).bind fun r34=>
(call 66 [r33,r34]).bind fun r35=>
(call 36 [(gx v5 1),r35]).bind fun r36=>
(D.bin .add (gx v5 0) (D.int .i64 1)).bind fun x37=>
 some (Sum.inl [x37,r36])) else(some (Sum.inr (0,[(gx v5 1)])))) [(D.int .i64 0),r4]).bind fun r38=>
 some (gx r38.2 0)
theorem OA{lp}(hlp:au lp):ae 26 (m1 (IV lp)):=bz (fn:=Tryz.f26) (ann:=OY) hlp (by kernel_rfl) (by kernel_rfl) (fun call a0=>by kernel_rfl)
def P0:Ann:=(.two .leaf (.two .leaf (.two (.two .leaf (.two (.loop ⟨[(2,.same (.ptr dP 4098 [])),(3,.same (.ptr dP 4099 [])),(5,.dv (Ty.int .i64))],[(4098,.keep dP 2),(4099,.keep dP 3)],[]⟩ [(.ret,⟨[(4,.dv Ty.bool)],[],[]⟩),(.exit 0,⟨[],[],[]⟩)] (.two .leaf (.two (.two (.two (.reg [] 10) .leaf) .leaf) .leaf))) .leaf)) .leaf)))
noncomputable def NL(lp:Lp)(call:Nat->List D->Option D)(a0:D)(a1:D):Option D:=
(D.get a0 [0]).bind fun x1=>
(D.get a1 [0]).bind fun x2=>
(D.truth (D.bool (!(D.beq x1 x2)))).bind fun b3=>
(if b3 then(some true) else((D.get a0 [1]).bind fun x4=>
(D.get a1 [1]).bind fun x5=>
 D.truth (D.bool (!(D.beq x4 x5))))).bind fun b6=>
(D.truth (D.bool b6)).bind fun b7=>
(if b7 then(some true) else((D.get a0 [2]).bind fun x8=>
(D.asSl x8).bind fun l9=>
(D.get a1 [2]).bind fun x10=>
(D.asSl x10).bind fun l11=>
 D.truth (D.bool (!(D.beq (D.int .i64 (l9.length)) (D.int .i64 (l11.length))))))).bind fun b12=>
(D.truth (D.bool b12)).bind fun b13=>
 if b13 then(some (D.bool false)) else((lp (β:=Nat×List D) (fun(v14:List D)=>
(D.get a0 [2]).bind fun x15=>
(D.asSl x15).bind fun l16=>
(D.bin .lss (gx v14 0) (D.int .i64 (l16.length))).bind fun x17=>
(D.truth x17).bind fun b18=>
 if b18 then((D.get a0 [2]).bind fun x19=>
(D.asSl x19).bind fun l20=>
(D.idx (gx v14 0) (l20.length)).bind fun i21=>
(l20[i21]?).bind fun x22=>
(D.get a1 [2]).bind fun x23=>
(D.asSl x23).bind fun l24=>
(D.idx (gx v14 0) (l24.length)).bind fun i25=>
(l24[i25]?).bind fun x26=>
(D.truth (D.bool (!(D.beq x22 x26)))).bind fun b27=>
 if b27 then(some (Sum.inr (0,[(D.bool false)]))) else((D.bin .add (gx v14 0) (D.int .i64 1)).bind fun x28=>
 some (Sum.inl [x28]))) else(some (Sum.inr (1,[])))) [(D.int .i64 0)]).bind fun r29=>
 if r29.1=0 then(some (gx r29.2 0)) else(some (D.bool true)))
theorem OZ{lp}(hlp:au lp):ae 27 (m2 (NL lp)):=aV (fn:=Tryz.f27) (ann:=P0) hlp (by kernel_rfl) (by kernel_rfl) (fun call a0 a1=>by kernel_rfl)
def PR:Ann:=(.two .leaf (.two .leaf (.two (.regI [] 3 (.two (.two .leaf (.two .leaf (.two (.loop ⟨[(1,.same (.clo 67 [(.ptr kf 8195 [])])),(2,.same (.ptr K3 20482 [])),(11,.dv (Ty.int .i64))],[(4097,.one K3 (.dv K3)),(4098,.one dP (.st [(Ty.int .i64),(Ty.int .i64),ls] [.dv (Ty.int .i64),.dv (Ty.int .i64),.ow bT])),(8195,.one kf (.dv kf)),(20482,.keep K3 2)],[9,10]⟩ [(.exit 0,⟨[],[(4097,.one K3 (.dv K3)),(4098,.one dP (.st [(Ty.int .i64),(Ty.int .i64),ls] [.dv (Ty.int .i64),.dv (Ty.int .i64),.ow bT])),(8195,.one kf (.dv kf))],[]⟩)] (.two .leaf (.two .leaf (.two (.two (.two .leaf (.two .leaf (.two (.loop ⟨[(1,.same (.clo 67 [(.ptr kf 8195 [])])),(2,.same (.ptr K3 20482 [])),(5,.same (.ptr K6 36869 [])),(6,.dv (Ty.int .i64))],[(4097,.one K3 (.dv K3)),(4098,.one dP (.st [(Ty.int .i64),(Ty.int .i64),ls] [.dv (Ty.int .i64),.dv (Ty.int .i64),.ow bT])),(8195,.one kf (.dv kf)),(20482,.keep K3 2),(36869,.keep K6 5)],[9,10,11]⟩ [(.exit 2,⟨[(1,.same (.clo 67 [(.ptr kf 8195 [])])),(2,.same (.ptr K3 20482 []))],[(4097,.one K3 (.dv K3)),(4098,.one dP (.st [(Ty.int .i64),(Ty.int .i64),ls] [.dv (Ty.int .i64),.dv (Ty.int .i64),.ow bT])),(8195,.one kf (.dv kf)),(20482,.keep K3 2)],[9,10,11]⟩)] (.two .leaf (.two (.two (.two (.reg [] 29) (.regI [] 10 (.two (.two .leaf (.two .leaf (.two (.loop ⟨[(2,.same (.ptr kf 8195 [])),(3,.same (.ptr aD 65539 [])),(4,.same (.ptr mz 65540 [])),(10,.dv (Ty.int .i64))],[(4097,.one K3 (.dv K3)),(4098,.one dP (.st [(Ty.int .i64),(Ty.int .i64),ls] [.dv (Ty.int .i64),.dv (Ty.int .i64),.ow bT])),(8195,.one kf (.dv kf)),(20482,.one K3 (.dv K3)),(36869,.one K6 (.dv K6)),(53255,.one mz (.dv mz)),(65539,.keep aD 3),(65540,.keep mz 4)],[]⟩ [(.exit 0,⟨[],[(4097,.one K3 (.dv K3)),(4098,.one dP (.st [(Ty.int .i64),(Ty.int .i64),ls] [.dv (Ty.int .i64),.dv (Ty.int .i64),.ow bT])),(8195,.one kf (.dv kf)),(20482,.one K3 (.dv K3)),(36869,.one K6 (.dv K6)),(53255,.one mz (.dv mz))],[]⟩)] (.two .leaf (.two .leaf (.two (.two (.two .leaf (.two .leaf (.two (.loop ⟨[(2,.same (.ptr kf 8195 [])),(3,.same (.ptr aD 65539 [])),(4,.same (.ptr mz 65540 [])),(13,.dv (Ty.int .i64))],[(4097,.one K3 (.dv K3)),(4098,.one dP (.st [(Ty.int .i64),(Ty.int .i64),ls] [.dv (Ty.int .i64),.dv (Ty.int .i64),.ow bT])),(8195,.one kf (.dv kf)),(20482,.one K3 (.dv K3)),(36869,.one K6 (.dv K6)),(53255,.one mz (.dv mz)),(65539,.keep aD 3),(65540,.keep mz 4)],[5,10]⟩ [(.exit 2,⟨[(2,.same (.ptr kf 8195 [])),(3,.same (.ptr aD 65539 [])),(4,.same (.ptr mz 65540 []))],[(4097,.one K3 (.dv K3)),(4098,.one dP (.st [(Ty.int .i64),(Ty.int .i64),ls] [.dv (Ty.int .i64),.dv (Ty.int .i64),.ow bT])),(8195,.one kf (.dv kf)),(20482,.one K3 (.dv K3)),(36869,.one K6 (.dv K6)),(53255,.one mz (.dv mz)),(65539,.keep aD 3),(65540,.keep mz 4)],[10]⟩)] (.two .leaf (.two .leaf (.two (.two (.two .leaf (.two (.reg [] 29) (.two (.two .leaf (.two (.loop ⟨[(2,.same (.ptr kf 8195 [])),(3,.same (.ptr aD 65539 [])),(4,.same (.ptr mz 65540 [])),(7,.dv (Ty.int .i64)),(46,.dv (Ty.int .i64))],[(4097,.one K3 (.dv K3)),(4098,.one dP (.st [(Ty.int .i64),(Ty.int .i64),ls] [.dv (Ty.int .i64),.dv (Ty.int .i64),.ow bT])),(8195,.keep kf 2),(20482,.one K3 (.dv K3)),(36869,.one K6 (.dv K6)),(53255,.one mz (.dv mz)),(65539,.keep aD 3),(65540,.keep mz 4)],[5,6,10,13,45]⟩ [(.exit 4,⟨[(2,.same (.ptr kf 8195 [])),(3,.same (.ptr aD 65539 [])),(4,.same (.ptr mz 65540 [])),(7,.dv (Ty.int .i64))],[(4097,.one K3 (.dv K3)),(4098,.one dP (.st [(Ty.int .i64),(Ty.int .i64),ls] [.dv (Ty.int .i64),.dv (Ty.int .i64),.ow bT])),(8195,.keep kf 2),(20482,.one K3 (.dv K3)),(36869,.one K6 (.dv K6)),(53255,.one mz (.dv mz)),(65539,.keep aD 3),(65540,.keep mz 4)],[5,6,10,13]⟩)] (.two .leaf (.two .leaf (.two (.two (.two .leaf (.reg [] 9)) .leaf) .leaf)))) .leaf)) (.reg [] 14)))) .leaf) .leaf)))) .leaf))) .leaf) .leaf)))) .leaf))) .leaf))) .leaf) .leaf))) .leaf))) .leaf) .leaf)))) .leaf))) .leaf)) (.two (.reg [] 12) (.two .leaf (.two (.two .leaf (.two (.loop ⟨[(2,.same (.ptr dP 4098 [])),(3,.same (.ptr kf 8195 [])),(4,.same (.ptr aD 36868 [])),(5,.same (.ptr dP 40965 [])),(24,.dv (Ty.int .i64))],[(4098,.one dP (.st [(Ty.int .i64),(Ty.int .i64),ls] [.dv (Ty.int .i64),.dv (Ty.int .i64),.ow bT])),(8195,.keep kf 3),(36868,.keep aD 4),(40965,.one dP (.st [(Ty.int .i64),(Ty.int .i64),ls] [.dv (Ty.int .i64),.dv (Ty.int .i64),.ow bT]))],[]⟩ [(.exit 0,⟨[(2,.same (.ptr dP 4098 [])),(5,.same (.ptr dP 40965 []))],[(4098,.one dP (.st [(Ty.int .i64),(Ty.int .i64),ls] [.dv (Ty.int .i64),.dv (Ty.int .i64),.ow bT])),(40965,.one dP (.st [(Ty.int .i64),(Ty.int .i64),ls] [.dv (Ty.int .i64),.dv (Ty.int .i64),.ow bT]))],[]⟩)] (.two .leaf (.two .leaf (.two (.two (.two .leaf (.two .leaf (.two (.loop ⟨[(2,.same (.ptr dP 4098 [])),(3,.same (.ptr kf 8195 [])),(4,.same (.ptr aD 36868 [])),(5,.same (.ptr dP 40965 [])),(27,.dv (Ty.int .i64))],[(4098,.one dP (.st [(Ty.int .i64),(Ty.int .i64),ls] [.dv (Ty.int .i64),.dv (Ty.int .i64),.ow bT])),(8195,.keep kf 3),(36868,.keep aD 4),(40965,.one dP (.st [(Ty.int .i64),(Ty.int .i64),ls] [.dv (Ty.int .i64),.dv (Ty.int .i64),.ow bT]))],[6,24]⟩ [(.exit 2,⟨[(2,.same (.ptr dP 4098 [])),(3,.same (.ptr kf 8195 [])),(4,.same (.ptr aD 36868 [])),(5,.same (.ptr dP 40965 []))],[(4098,.one dP (.st [(Ty.int .i64),(Ty.int .i64),ls] [.dv (Ty.int .i64),.dv (Ty.int .i64),.ow bT])),(8195,.keep kf 3),(36868,.keep aD 4),(40965,.one dP (.st [(Ty.int .i64),(Ty.int .i64),ls] [.dv (Ty.int .i64),.dv (Ty.int .i64),.ow bT]))],[24]⟩)] (.two .leaf (.two .leaf (.two (.two (.two .leaf (.two .leaf (.cut [(.normal,⟨[(2,.same (.ptr dP 4098 [])),(3,.same (.ptr kf 8195 [])),(4,.same (.ptr aD 36868 [])),(5,.same (.ptr dP 40965 [])),(8,.same (.ptr aD 77832 []))],[(4098,.one dP (.st [(Ty.int .i64),(Ty.int .i64),ls] [.dv (Ty.int .i64),.dv (Ty.int .i64),.ow bT])),(8195,.keep kf 3),(36868,.keep aD 4),(40965,.one dP (.st [(Ty.int .i64),(Ty.int .i64),ls] [.dv (Ty.int .i64),.dv (Ty.int .i64),.ow bT])),(77832,.one aD (.dv aD))],[6,24,27]⟩)] [6,24,27] [8195,36868] .leaf (.reg [] 6)))) .leaf) .leaf)))) .leaf))) .leaf) .leaf)))) .leaf)) .leaf))))))
noncomputable def Jr(lp:Lp)(call:Nat->List D->Option D)(a0:D):Option D:=
(call 18 [a0]).bind fun r1=>
(D.asSl r1).bind fun l2=>
(lp (β:=Nat×List D) (fun(v3:List D)=>
(D.bin .lss (gx v3 0) (D.int .i64 (l2.length))).bind fun x4=>
(D.truth x4).bind fun b5=>
 if b5 then((D.asSl r1).bind fun l6=>
(D.idx (gx v3 0) (l6.length)).bind fun i7=>
(l6[i7]?).bind fun x8=>
(lp (β:=Nat×List D) (fun(v9:List D)=>
(D.get x8 [2]).bind fun x10=>
(D.asSl x10).bind fun l11=>
(D.bin .lss (gx v9 0) (D.int .i64 (l11.length))).bind fun x12=>
(D.truth x12).bind fun b13=>
 if b13 then((D.get a0 [0]).bind fun x14=>
(D.get x8 [2]).bind fun x15=>
(D.asSl x15).bind fun l16=>
(D.idx (D.int .i64 0) (l16.length)).bind fun i17=>
(l16[i17]?).bind fun x18=>
(D.asSl x14).bind fun l19=>
(D.idx x18 (l19.length)).bind fun i20=>
(l19[i20]?).bind fun x21=>
(D.get a0 [0]).bind fun x22=>
(D.get x8 [2]).bind fun x23=>
(D.bin .sub (gx v9 0) (D.int .i64 1)).bind fun x24=>
(D.asSl x23).bind fun l25=>
(D.idx x24 (l25.length)).bind fun i26=>
(l25[i26]?).bind fun x27=>
(D.asSl x22).bind fun l28=>
(D.idx x27 (l28.length)).bind fun i29=>
(l28[i29]?).bind fun x30=>
(D.get a0 [0]).bind fun x31=>
(D.get x8 [2]).bind fun x32=>
(D.asSl x32).bind fun l33=>
(D.idx (gx v9 0) (l33.length)).bind fun i34=>
(l33[i34]?).bind fun x35=>
(D.asSl x31).bind fun l36=>
(D.idx x35 (l36.length)).bind fun i37=>
(l36[i37]?).bind fun x38=>
(call 117 [x21,x30]).bind fun r39=>
(call 91 [r39,x38]).bind fun r40=>
(lp (β:=Nat×List D) (fun(v41:List D)=>
(D.bin .lss (gx v41 0) (D.int .i64 3)).bind fun x42=>
(D.truth x42).bind fun b43=>
 if b43 then((lp (β:=Nat×List D) (fun(v44:List D)=>
(D.bin .lss (gx v44 0) (D.int .i64 3)).bind fun x45=>
(D.truth x45).bind fun b46=>
 if b46 then((D.idx (gx v41 0) 3).bind fun i47=>
(D.get x21 [i47]).bind fun x48=>
(D.idx (gx v41 0) 3).bind fun i49=>
(D.get x30 [i49]).bind fun x50=>
(D.bin .add x48 x50).bind fun x51=>
(D.idx (gx v41 0) 3).bind fun i52=>
(D.get x38 [i52]).bind fun x53=>
(D.bin .add x51 x53).bind fun x54=>
(D.idx (gx v44 0) 3).bind fun i55=>
(D.get x21 [i55]).bind fun x56=>
(D.idx (gx v44 0) 3).bind fun i57=>
(D.get x30 [i57]).bind fun x58=>
(D.bin .add x56 x58).bind fun x59=>
(D.idx (gx v44 0) 3).bind fun i60=>
(D.get x38 [i60]).bind fun x61=>
(D.bin .add x59 x61).bind fun x62=>
(D.bin .mul x54 x62).bind fun x63=>
(lp (β:=Nat×List D) (fun(v64:List D)=>
(D.bin .lss (gx v64 1) (D.int .i64 3)).bind fun x65=>
(D.truth x65).bind fun b66=>
 if b66 then((D.idx (gx v64 1) 3).bind fun i67=>
(D.fld (D.st [x21,x30,x38]) i67).bind fun x68=>
(D.idx (gx v41 0) 3).bind fun i69=>
(D.get x68 [i69]).bind fun x70=>
(D.idx (gx v44 0) 3).bind fun i71=>
(D.get x68 [i71]).bind fun x72=>
(D.bin .mul x70 x72).bind fun x73=>
(D.bin .add (gx v64 0) x73).bind fun x74=>
(D.bin .add (gx v64 1) (D.int .i64 1)).bind fun x75=>
 some (Sum.inl [x74,x75,(gx v64 2),(gx v64 3),(gx v64 4),(D.sl ((gx v64 5).els)),(gx v64 6),(gx v64 7),(gx v64 8)])) else(some (Sum.inr (0,[(gx v64 0),(gx v64 2),(gx v64 3),(gx v64 4),(D.sl ((gx v64 5).els)),(gx v64 6),(gx v64 7),(gx v64 8)])))) [x63,(D.int .i64 0),(gx v44 1),(gx v44 2),(gx v44 3),(D.sl ((gx v44 4).els)),(gx v44 6),(gx v44 7),(gx v44 8)]).bind fun r76=>
(D.idx (gx v41 0) 3).bind fun i77=>
(D.idx (gx v44 0) 3).bind fun i78=>
(D.get (gx v44 5) [i77,i78]).bind fun x79=>
(call 54 [(gx r76.2 0)]).bind fun r80=>
(call 61 [r40,r80]).bind fun r81=>
(call 57 [x79,r81]).bind fun r82=>
(D.idx (gx v41 0) 3).bind fun i83=>
(D.idx (gx v44 0) 3).bind fun i84=>
(D.set (gx v44 5) [i83,i84] r82).bind fun x85=>
(D.bin .add (gx v44 0) (D.int .i64 1)).bind fun x86=>
 some (Sum.inl [x86,(gx r76.2 1),(gx r76.2 2),(gx r76.2 3),(D.sl ((gx r76.2 4).els)),x85,(gx r76.2 5),(gx r76.2 6),(gx r76.2 7)])) else(some (Sum.inr (0,[(gx v44 1),(gx v44 2),(gx v44 3),(D.sl ((gx v44 4).els)),(gx v44 5),(gx v44 6),(gx v44 7),(gx v44 8)])))) [(D.int .i64 0),(gx v41 1),(gx v41 2),(gx v41 3),(D.sl ((gx v41 4).els)),(gx v41 5),(gx v41 6),(gx v41 7),(gx v41 8)]).bind fun r87=>
(D.bin .add (gx v41 0) (D.int .i64 1)).bind fun x88=>
 some (Sum.inl [x88,(gx r87.2 0),(gx r87.2 1),(gx r87.2 2),(D.sl ((gx r87.2 3).els)),(gx r87.2 4),(gx r87.2 5),(gx r87.2 6),(gx r87.2 7)])) else(some (Sum.inr (0,[(gx v41 1),(gx v41 2),(gx v41 3),(D.sl ((gx v41 4).els)),(gx v41 5),(gx v41 6),(gx v41 7),(gx v41 8)])))) [(D.int .i64 0),(gx v9 1),(gx v9 2),(gx v9 3),(D.sl ((gx v9 4).els)),(gx v9 5),a0,x8,(D.st [x21,x30,x38])]).bind fun r89=>
(D.bin .add (gx v9 0) (D.int .i64 1)).bind fun x90=>
 some (Sum.inl [x90,(gx r89.2 0),(gx r89.2 1),(gx r89.2 2),(D.sl ((gx r89.2 3).els)),(gx r89.2 4)])) else(some (Sum.inr (0,[(gx v9 1),(gx v9 2),(gx v9 3),(D.sl ((gx v9 4).els)),(gx v9 5)])))) [(D.int .i64 2),(gx v3 1),(gx v3 2),(gx v3 3),(D.sl ((gx v3 4).els)),(gx v3 5)]).bind fun r91=>
(D.bin .add (gx v3 0) (D.int .i64 1)).bind fun x92=>
 some (Sum.inl [x92,(gx r91.2 0),(gx r91.2 1),(gx r91.2 2),(D.sl ((gx r91.2 3).els)),(gx r91.2 4)])) else(some (Sum.inr (0,[(gx v3 1),(gx v3 2),(gx v3 3),(D.sl ((gx v3 4).els)),(gx v3 5)])))) [(D.int .i64 0),a0,(D.int .i64 0),(D.int .i64 0),(D.sl []),(D.st [(D.st [(D.st [(D.bool false),(D.bool false),(aB aU)]),(D.st [(D.bool false),(D.bool false),(aB aU)]),(D.st [(D.bool false),(D.bool false),(aB aU)])]),(D.st [(D.st [(D.bool false),(D.bool false),(aB aU)]),(D.st [(D.bool false),(D.bool false),(aB aU)]),(D.st [(D.bool false),(D.bool false),(aB aU)])]),(D.st [(D.st [(D.bool false),(D.bool false),(aB aU)]),(D.st [(D.bool false),(D.bool false),(aB aU)]),(D.st [(D.bool false),(D.bool false),(aB aU)])])])]).bind fun r93=>
(D.get (gx r93.2 4) [0,0]).bind fun x94=>
(D.get (gx r93.2 4) [1,1]).bind fun x95=>
(call 57 [x94,x95]).bind fun r96=>
(D.get (gx r93.2 4) [2,2]).bind fun x97=>
(call 57 [r96,x97]).bind fun r98=>
(lp (β:=Nat×List D) (fun(v99:List D)=>
(D.bin .lss (gx v99 0) (D.int .i64 3)).bind fun x100=>
(D.truth x100).bind fun b101=>
 if b101 then((lp (β:=Nat×List D) (fun(v102:List D)=>
(D.bin .lss (gx v102 0) (D.int .i64 3)).bind fun x103=>
(D.truth x103).bind fun b104=>
 if b104 then((D.idx (gx v99 0) 3).bind fun i105=>
(D.idx (gx v102 0) 3).bind fun i106=>
(D.get (gx r93.2 4) [i105,i106]).bind fun x107=>
(call 68 [x107]).bind fun r108=>
((D.truth (D.bool (D.beq (gx v99 0) (gx v102 0)))).bind fun b109=>
 if b109 then((call 57 [r108,r98]).bind fun r110=>
 some (0,[(gx v102 1),(gx v102 2),(D.sl ((gx v102 3).els)),(gx v102 4),(gx v102 5),(D.sl ((gx v102 6).els)),r110])) else(some (0,[(gx v102 1),(gx v102 2),(D.sl ((gx v102 3).els)),(gx v102 4),(gx v102 5),(D.sl ((gx v102 6).els)),r108]))).bind fun(r111:Nat×List D)=>
(call 54 [(D.int .i64 120)]).bind fun r112=>
(call 62 [(gx r111.2 6),r112]).bind fun r113=>
 if List.length ((gx r111.2 5).els)+List.length [r113]<=1073741824 then((D.bin .add (gx v102 0) (D.int .i64 1)).bind fun x114=>
 some (Sum.inl [x114,(gx r111.2 0),(gx r111.2 1),(D.sl ((gx r111.2 2).els)),(gx r111.2 3),(gx r111.2 4),(D.sl (((gx r111.2 5).els)++[r113]))])) else none) else(some (Sum.inr (0,[(gx v102 1),(gx v102 2),(D.sl ((gx v102 3).els)),(gx v102 4),(gx v102 5),(D.sl ((gx v102 6).els))])))) [(D.int .i64 0),(gx v99 1),(gx v99 2),(D.sl ((gx v99 3).els)),(gx v99 4),(gx v99 5),(D.sl ((gx v99 6).els))]).bind fun r115=>
(D.bin .add (gx v99 0) (D.int .i64 1)).bind fun x116=>
 some (Sum.inl [x116,(gx r115.2 0),(gx r115.2 1),(D.sl ((gx r115.2 2).els)),(gx r115.2 3),(gx r115.2 4),(D.sl ((gx r115.2 5).els))])) else(some (Sum.inr (0,[(gx v99 1),(gx v99 2),(D.sl ((gx v99 3).els)),(gx v99 4),(gx v99 5),(D.sl ((gx v99 6).els))])))) [(D.int .i64 0),(gx r93.2 1),(gx r93.2 2),(D.sl ((gx r93.2 3).els)),(D.int .i64 3),(D.int .i64 3),(D.sl [])]).bind fun r117=>
 some (D.st [(gx r117.2 3),(gx r117.2 4),(D.sl ((gx r117.2 5).els))])
theorem Qt{lp}(hlp:au lp):ae 28 (m1 (Jr lp)):=bz (fn:=Tryz.f28) (ann:=PR) hlp (by kernel_rfl) (by kernel_rfl) (fun call a0=>by kernel_rfl)
def RF:Ann:=(.two .leaf (.two .leaf (.two .leaf (.two .leaf (.two (.two .leaf (.two (.loop ⟨[(2,.same (.ptr dP 4098 [])),(4,.same (.ptr bT 12292 [])),(5,.same (.ptr dP 16389 [])),(6,.dv (Ty.int .i64))],[(4098,.one dP (.st [(Ty.int .i64),(Ty.int .i64),ls] [.dv (Ty.int .i64),.dv (Ty.int .i64),.ow bT])),(12292,.keep bT 4),(16389,.one dP (.st [(Ty.int .i64),(Ty.int .i64),ls] [.dv (Ty.int .i64),.dv (Ty.int .i64),.ow bT]))],[3]⟩ [(.exit 0,⟨[(2,.same (.ptr dP 4098 [])),(5,.same (.ptr dP 16389 []))],[(4098,.one dP (.st [(Ty.int .i64),(Ty.int .i64),ls] [.dv (Ty.int .i64),.dv (Ty.int .i64),.ow bT])),(16389,.one dP (.st [(Ty.int .i64),(Ty.int .i64),ls] [.dv (Ty.int .i64),.dv (Ty.int .i64),.ow bT]))],[]⟩)] (.two .leaf (.two (.two (.two .leaf (.two (.loop ⟨[(2,.same (.ptr dP 4098 [])),(4,.same (.ptr bT 12292 [])),(5,.same (.ptr dP 16389 [])),(7,.dv (Ty.int .i64))],[(4098,.one dP (.st [(Ty.int .i64),(Ty.int .i64),ls] [.dv (Ty.int .i64),.dv (Ty.int .i64),.ow bT])),(12292,.keep bT 4),(16389,.one dP (.st [(Ty.int .i64),(Ty.int .i64),ls] [.dv (Ty.int .i64),.dv (Ty.int .i64),.ow bT]))],[3,6]⟩ [(.exit 2,⟨[(2,.same (.ptr dP 4098 [])),(4,.same (.ptr bT 12292 [])),(5,.same (.ptr dP 16389 []))],[(4098,.one dP (.st [(Ty.int .i64),(Ty.int .i64),ls] [.dv (Ty.int .i64),.dv (Ty.int .i64),.ow bT])),(12292,.keep bT 4),(16389,.one dP (.st [(Ty.int .i64),(Ty.int .i64),ls] [.dv (Ty.int .i64),.dv (Ty.int .i64),.ow bT]))],[3,6]⟩)] (.two .leaf (.two (.two (.two .leaf (.cut [(.normal,⟨[(2,.same (.ptr dP 4098 [])),(4,.same (.ptr bT 12292 [])),(5,.same (.ptr dP 16389 [])),(8,.same (.ptr bT 45064 []))],[(4098,.one dP (.st [(Ty.int .i64),(Ty.int .i64),ls] [.dv (Ty.int .i64),.dv (Ty.int .i64),.ow bT])),(12292,.keep bT 4),(16389,.one dP (.st [(Ty.int .i64),(Ty.int .i64),ls] [.dv (Ty.int .i64),.dv (Ty.int .i64),.ow bT])),(45064,.one bT (.dv bT))],[3,6,7]⟩)] [3,6,7] [12292] .leaf .leaf)) .leaf) .leaf))) .leaf)) .leaf) .leaf))) .leaf)) .leaf)))))
noncomputable def NS(lp:Lp)(call:Nat->List D->Option D)(a0:D):Option D:=
(call 58 [a0]).bind fun r1=>
(call 69 [r1,(D.int .i64 0),(D.int .i64 0)]).bind fun r2=>
(call 69 [r1,(D.int .i64 1),(D.int .i64 1)]).bind fun r3=>
(call 40 [r2,r3]).bind fun r4=>
(call 69 [r1,(D.int .i64 2),(D.int .i64 2)]).bind fun r5=>
(call 40 [r4,r5]).bind fun r6=>
(lp (β:=Nat×List D) (fun(v7:List D)=>
(D.bin .lss (gx v7 0) (D.int .i64 3)).bind fun x8=>
(D.truth x8).bind fun b9=>
 if b9 then((lp (β:=Nat×List D) (fun(v10:List D)=>
(D.bin .lss (gx v10 0) (D.int .i64 3)).bind fun x11=>
(D.truth x11).bind fun b12=>
 if b12 then((call 69 [r1,(gx v7 0),(gx v10 0)]).bind fun r13=>
(call 70 [r13]).bind fun r14=>
((D.truth (D.bool (D.beq (gx v7 0) (gx v10 0)))).bind fun b15=>
 if b15 then((call 40 [r6,r14]).bind fun r16=>
 some (0,[(gx v10 1),(gx v10 2),(D.sl ((gx v10 3).els)),(gx v10 4),(gx v10 5),(D.sl ((gx v10 6).els)),r16])) else(some (0,[(gx v10 1),(gx v10 2),(D.sl ((gx v10 3).els)),(gx v10 4),(gx v10 5),(D.sl ((gx v10 6).els)),r14]))).bind fun(r17:Nat×List D)=>
 if List.length ((gx r17.2 5).els)+List.length [(gx r17.2 6)]<=1073741824 then((D.bin .add (gx v10 0) (D.int .i64 1)).bind fun x18=>
 some (Sum.inl [x18,(gx r17.2 0),(gx r17.2 1),(D.sl ((gx r17.2 2).els)),(gx r17.2 3),(gx r17.2 4),(D.sl (((gx r17.2 5).els)++[(gx r17.2 6)]))])) else none) else(some (Sum.inr (0,[(gx v10 1),(gx v10 2),(D.sl ((gx v10 3).els)),(gx v10 4),(gx v10 5),(D.sl ((gx v10 6).els))])))) [(D.int .i64 0),(gx v7 1),(gx v7 2),(D.sl ((gx v7 3).els)),(gx v7 4),(gx v7 5),(D.sl ((gx v7 6).els))]).bind fun r19=>
(D.bin .add (gx v7 0) (D.int .i64 1)).bind fun x20=>
 some (Sum.inl [x20,(gx r19.2 0),(gx r19.2 1),(D.sl ((gx r19.2 2).els)),(gx r19.2 3),(gx r19.2 4),(D.sl ((gx r19.2 5).els))])) else(some (Sum.inr (0,[(gx v7 1),(gx v7 2),(D.sl ((gx v7 3).els)),(gx v7 4),(gx v7 5),(D.sl ((gx v7 6).els))])))) [(D.int .i64 0),(D.int .i64 0),(D.int .i64 0),(D.sl []),(D.int .i64 3),(D.int .i64 3),(D.sl [])]).bind fun r21=>
 some (D.st [(gx r21.2 3),(gx r21.2 4),(D.sl ((gx r21.2 5).els))])
theorem Q6{lp}(hlp:au lp):ae 29 (m1 (NS lp)):=bz (fn:=Tryz.f29) (ann:=RF) hlp (by kernel_rfl) (by kernel_rfl) (fun call a0=>by kernel_rfl)
def N8:Ann:=(.two .leaf (.two .leaf (.two .leaf (.two (.two .leaf (.two (.loop ⟨[(3,.same (.ptr eQ 4099 [])),(5,.dv (Ty.int .i64)),(15,.dv (Ty.int .i64))],[(4099,.keep eQ 3)],[13,14]⟩ [(.ret,⟨[(4,.dv (Ty.int .i64))],[],[]⟩),(.exit 0,⟨[(5,.dv (Ty.int .i64))],[],[]⟩)] (.two .leaf (.two .leaf (.two (.two (.two .leaf (.two .leaf (.two .leaf (.reg [] 7)))) .leaf) .leaf)))) .leaf)) .leaf))))
theorem PG{lp}(hlp:au lp):ae 30 (fT lp 30 Tryz.f30 N8):=dn hlp (by kernel_rfl) (by kernel_rfl)
def Qb:Ann:=(.two .leaf (.two (.reg [] 10) .leaf))
noncomputable def IN(lp:Lp)(call:Nat->List D->Option D)(a0:D):Option D:=
(D.get a0 [0]).bind fun x1=>
(call 75 [x1]).bind fun r2=>
(D.get a0 [1]).bind fun x3=>
(call 75 [x3]).bind fun r4=>
(D.get a0 [2]).bind fun x5=>
(call 75 [x5]).bind fun r6=>
 some (D.st [r2,r4,r6])
theorem Rx{lp}(hlp:au lp):ae 31 (m1 (IN lp)):=bz (fn:=Tryz.f31) (ann:=Qb) hlp (by kernel_rfl) (by kernel_rfl) (fun call a0=>by kernel_rfl)
def RG:Ann:=(.two .leaf (.two .leaf (.two .leaf (.two .leaf (.two .leaf (.two .leaf (.two .leaf (.cut [(.normal,⟨[(5,.dv K5),(6,.dv K5)],[],[]⟩)] [] [] .leaf .leaf))))))))
noncomputable def IJ(lp:Lp)(call:Nat->List D->Option D)(a0:D)(a1:D):Option D:=
(call 76 [a0]).bind fun r1=>
(D.un .not r1).bind fun x2=>
(D.truth x2).bind fun b3=>
(if b3 then((call 76 [a1]).bind fun r4=>
(D.un .not r4).bind fun x5=>
 D.truth x5) else(some false)).bind fun b6=>
(D.truth (D.bool b6)).bind fun b7=>
 if b7 then(some (D.int .i64 0)) else((call 76 [a0]).bind fun r8=>
(D.un .not r8).bind fun x9=>
(D.truth x9).bind fun b10=>
 if b10 then(some (D.int .i64 (-1))) else((call 76 [a1]).bind fun r11=>
(D.un .not r11).bind fun x12=>
(D.truth x12).bind fun b13=>
 if b13 then(some (D.int .i64 1)) else((D.get a0 [1]).bind fun x14=>
(D.get a1 [1]).bind fun x15=>
(D.truth (D.bool (!(D.beq x14 x15)))).bind fun b16=>
 if b16 then((D.get a0 [1]).bind fun x17=>
(D.truth x17).bind fun b18=>
 if b18 then(some (D.int .i64 (-1))) else(some (D.int .i64 1))) else((call 77 [a0]).bind fun r19=>
(call 77 [a1]).bind fun r20=>
((D.get a0 [1]).bind fun x21=>
(D.truth x21).bind fun b22=>
 if b22 then((call 77 [a1]).bind fun r23=>
(call 77 [a0]).bind fun r24=>
 some (0,[r23,r24])) else(some (0,[r19,r20]))).bind fun(r25:Nat×List D)=>
(call 78 [(gx r25.2 0),(gx r25.2 1)]).bind fun r26=>
(call 78 [(gx r25.2 1),(gx r25.2 0)]).bind fun r27=>
(D.truth r26).bind fun b28=>
 if b28 then(some (D.int .i64 (-1))) else((D.truth r27).bind fun b29=>
 if b29 then(some (D.int .i64 1)) else(some (D.int .i64 0)))))))
theorem Ql{lp}(hlp:au lp):ae 32 (m2 (IJ lp)):=aV (fn:=Tryz.f32) (ann:=RG) hlp (by kernel_rfl) (by kernel_rfl) (fun call a0 a1=>by kernel_rfl)
def QF:Ann:=(.two .leaf (.two (.reg [] 5) .leaf))
noncomputable def Od(lp:Lp)(call:Nat->List D->Option D)(a0:D)(a1:D):Option D:=
(call 80 [a0]).bind fun r1=>
(call 80 [a1]).bind fun r2=>
(call 79 [r1,r2]).bind fun r3=>
 some r3
theorem Ot{lp}(hlp:au lp):ae 33 (m2 (Od lp)):=aV (fn:=Tryz.f33) (ann:=QF) hlp (by kernel_rfl) (by kernel_rfl) (fun call a0 a1=>by kernel_rfl)
noncomputable def Jo(lp:Lp)(call:Nat->List D->Option D)(a0:D):Option D:=
(D.bin .geq a0 (D.int .i64 0)).bind fun x1=>
(D.truth x1).bind fun b2=>
 if b2 then((D.bin .rem a0 (D.int .i64 65536)).bind fun x3=>
(D.bin .quo a0 (D.int .i64 65536)).bind fun x4=>
(D.bin .rem x4 (D.int .i64 65536)).bind fun x5=>
(D.bin .quo a0 (D.int .i64 4294967296)).bind fun x6=>
(D.bin .rem x6 (D.int .i64 65536)).bind fun x7=>
(D.bin .quo a0 (D.int .i64 281474976710656)).bind fun x8=>
(call 81 [(D.bool false),(D.sl [x3,x5,x7,x8])]).bind fun r9=>
 some r9) else((D.bin .add a0 (D.int .i64 1)).bind fun x10=>
(D.un .neg x10).bind fun x11=>
(D.bin .rem x11 (D.int .i64 65536)).bind fun x12=>
(D.bin .quo x11 (D.int .i64 65536)).bind fun x13=>
(D.bin .rem x13 (D.int .i64 65536)).bind fun x14=>
(D.bin .quo x11 (D.int .i64 4294967296)).bind fun x15=>
(D.bin .rem x15 (D.int .i64 65536)).bind fun x16=>
(D.bin .quo x11 (D.int .i64 281474976710656)).bind fun x17=>
(call 82 [(D.sl [x12,x14,x16,x17]),(D.sl [(D.int .i64 1)])]).bind fun r18=>
(call 81 [(D.bool true),r18]).bind fun r19=>
 some r19)
theorem PX{lp}(hlp:au lp):ae 34 (m1 (Jo lp)):=bz (fn:=Tryz.f34) (ann:=.leaf) hlp (by kernel_rfl) (by kernel_rfl) (fun call a0=>by kernel_rfl)
end Go.Proofs.YtjjjkojfijpeeaaGreat.Sy
end
section
set_option maxRecDepth 20000
set_option maxHeartbeats 0
set_option linter.unusedVariables false
namespace Go.Proofs.YtjjjkojfijpeeaaGreat.Sy
open Go Go.Proofs
def PA:Ann:=(.two .leaf (.two .leaf (.two .leaf (.two (.two .leaf (.two (.loop ⟨[(2,.same (.ptr K3 4098 [])),(3,.same (.ptr K1 4099 [])),(4,.same (.ptr K3 4100 [])),(6,.same (.ptr K3 8198 [])),(7,.dv Ty.bool),(8,.dv (Ty.int .i64))],[(4098,.keep K3 2),(4099,.keep K1 3),(4100,.one K3 (.st [K2] [.ow K1])),(8198,.one K3 (.st [K2] [.ow K1]))],[]⟩ [(.exit 0,⟨[(2,.same (.ptr K3 4098 [])),(3,.same (.ptr K1 4099 [])),(4,.same (.ptr K3 4100 [])),(6,.same (.ptr K3 8198 [])),(7,.dv Ty.bool)],[(4098,.keep K3 2),(4099,.keep K1 3),(4100,.one K3 (.st [K2] [.ow K1])),(8198,.one K3 (.st [K2] [.ow K1]))],[]⟩)] .leaf) .leaf)) (.two (.two .leaf (.two (.loop ⟨[(2,.same (.ptr K3 4098 [])),(3,.same (.ptr K1 4099 [])),(4,.same (.ptr K3 4100 [])),(6,.same (.ptr K3 8198 [])),(7,.dv Ty.bool),(9,.dv (Ty.int .i64))],[(4098,.keep K3 2),(4099,.keep K1 3),(4100,.one K3 (.st [K2] [.ow K1])),(8198,.one K3 (.st [K2] [.ow K1]))],[]⟩ [(.exit 2,⟨[(4,.same (.ptr K3 4100 [])),(6,.same (.ptr K3 8198 [])),(7,.dv Ty.bool)],[(4100,.one K3 (.st [K2] [.ow K1])),(8198,.one K3 (.st [K2] [.ow K1]))],[]⟩)] (.two .leaf (.two (.two (.two (.reg [] 8) (.two (.two .leaf (.two (.loop ⟨[(2,.same (.ptr K3 4098 [])),(3,.same (.ptr K1 4099 [])),(4,.same (.ptr K3 4100 [])),(6,.same (.ptr K3 8198 [])),(7,.dv Ty.bool),(10,.same (.ptr K1 36874 [])),(11,.dv (Ty.int .i64))],[(4098,.keep K3 2),(4099,.keep K1 3),(4100,.one K3 (.st [K2] [.ow K1])),(8198,.one K3 (.st [K2] [.ow K1])),(36874,.keep K1 10)],[9]⟩ [(.exit 4,⟨[(2,.same (.ptr K3 4098 [])),(3,.same (.ptr K1 4099 [])),(4,.same (.ptr K3 4100 [])),(6,.same (.ptr K3 8198 [])),(7,.dv Ty.bool),(10,.same (.ptr K1 36874 []))],[(4098,.keep K3 2),(4099,.keep K1 3),(4100,.one K3 (.st [K2] [.ow K1])),(8198,.one K3 (.st [K2] [.ow K1])),(36874,.keep K1 10)],[9]⟩)] .leaf) .leaf)) .leaf)) .leaf) .leaf))) .leaf)) .leaf)))))
noncomputable def Hw(lp:Lp)(call:Nat->List D->Option D)(a0:D)(a1:D):Option D:=
(lp (β:=Nat×List D) (fun(v1:List D)=>
(D.bin .lss (gx v1 1) (D.int .i64 3)).bind fun x2=>
(D.truth x2).bind fun b3=>
 if b3 then((D.truth (gx v1 0)).bind fun b4=>
(if b4 then((D.idx (gx v1 1) 3).bind fun i5=>
(D.get a1 [i5]).bind fun x6=>
(D.bin .leq x6 (D.int .i64 262144)).bind fun x7=>
 D.truth x7) else(some false)).bind fun b8=>
(D.truth (D.bool b8)).bind fun b9=>
(if b9 then((D.idx (gx v1 1) 3).bind fun i10=>
(D.get a1 [i10]).bind fun x11=>
(D.bin .geq x11 (D.int .i64 (-262144))).bind fun x12=>
 D.truth x12) else(some false)).bind fun b13=>
(D.bin .add (gx v1 1) (D.int .i64 1)).bind fun x14=>
 some (Sum.inl [(D.bool b13),x14,(D.sl ((gx v1 2).els)),(D.sl ((gx v1 3).els))])) else(some (Sum.inr (0,[(gx v1 0),(D.sl ((gx v1 2).els)),(D.sl ((gx v1 3).els))])))) [(D.bool true),(D.int .i64 0),(D.sl []),(D.sl [])]).bind fun r15=>
(lp (β:=Nat×List D) (fun(v16:List D)=>
(D.get a0 [0]).bind fun x17=>
(D.asSl x17).bind fun l18=>
(D.bin .lss (gx v16 1) (D.int .i64 (l18.length))).bind fun x19=>
(D.truth x19).bind fun b20=>
(if b20 then(D.truth (gx v16 0)) else(some false)).bind fun b21=>
(D.truth (D.bool b21)).bind fun b22=>
 if b22 then((D.get a0 [0]).bind fun x23=>
(D.asSl x23).bind fun l24=>
(D.idx (gx v16 1) (l24.length)).bind fun i25=>
(l24[i25]?).bind fun x26=>
(call 64 [x26,a1]).bind fun r27=>
(lp (β:=Nat×List D) (fun(v28:List D)=>
(D.bin .lss (gx v28 1) (D.int .i64 3)).bind fun x29=>
(D.truth x29).bind fun b30=>
 if b30 then((D.truth (gx v28 0)).bind fun b31=>
(if b31 then((D.idx (gx v28 1) 3).bind fun i32=>
(D.get r27 [i32]).bind fun x33=>
(D.bin .leq x33 (D.int .i64 262144)).bind fun x34=>
 D.truth x34) else(some false)).bind fun b35=>
(D.truth (D.bool b35)).bind fun b36=>
(if b36 then((D.idx (gx v28 1) 3).bind fun i37=>
(D.get r27 [i37]).bind fun x38=>
(D.bin .geq x38 (D.int .i64 (-262144))).bind fun x39=>
 D.truth x39) else(some false)).bind fun b40=>
(D.bin .add (gx v28 1) (D.int .i64 1)).bind fun x41=>
 some (Sum.inl [(D.bool b40),x41,(D.sl ((gx v28 2).els)),(D.sl ((gx v28 3).els))])) else(some (Sum.inr (0,[(gx v28 0),(D.sl ((gx v28 2).els)),(D.sl ((gx v28 3).els))])))) [(gx v16 0),(D.int .i64 0),(D.sl ((gx v16 2).els)),(D.sl ((gx v16 3).els))]).bind fun r42=>
 if List.length ((gx r42.2 2).els)+List.length [r27]<=1073741824 then((D.bin .add (gx v16 1) (D.int .i64 1)).bind fun x43=>
 some (Sum.inl [(gx r42.2 0),x43,(D.sl ((gx r42.2 1).els)),(D.sl (((gx r42.2 2).els)++[r27]))])) else none) else(some (Sum.inr (0,[(gx v16 0),(D.sl ((gx v16 2).els)),(D.sl ((gx v16 3).els))])))) [(gx r15.2 0),(D.int .i64 0),(D.sl ((gx r15.2 1).els)),(D.sl ((gx r15.2 2).els))]).bind fun r44=>
 some (D.tup [(D.st [(D.sl ((gx r44.2 2).els))]),(gx r44.2 0)])
theorem Rc{lp}(hlp:au lp):ae 35 (m2 (Hw lp)):=aV (fn:=Tryz.f35) (ann:=PA) hlp (by kernel_rfl) (by kernel_rfl) (fun call a0 a1=>by kernel_rfl)
def PS:Ann:=(.two .leaf (.two (.reg [] 16) .leaf))
noncomputable def Ji(lp:Lp)(call:Nat->List D->Option D)(a0:D)(a1:D):Option D:=
(D.get a0 [0]).bind fun x1=>
(D.get a1 [0]).bind fun x2=>
(call 40 [x1,x2]).bind fun r3=>
(D.get a0 [1]).bind fun x4=>
(D.get a1 [1]).bind fun x5=>
(call 40 [x4,x5]).bind fun r6=>
(D.get a0 [2]).bind fun x7=>
(D.get a1 [2]).bind fun x8=>
(call 40 [x7,x8]).bind fun r9=>
 some (D.st [r3,r6,r9])
theorem P4{lp}(hlp:au lp):ae 36 (m2 (Ji lp)):=aV (fn:=Tryz.f36) (ann:=PS) hlp (by kernel_rfl) (by kernel_rfl) (fun call a0 a1=>by kernel_rfl)
def Pm:Ann:=(.two .leaf (.two .leaf (.two .leaf (.cut [(.normal,⟨[(2,.same (.ptr aD 4098 [])),(3,.same (.ptr aD 4099 [])),(4,.same (.ptr bT 4100 [])),(5,.same (.ptr aD 12293 []))],[(4098,.keep aD 2),(4099,.keep aD 3),(4100,.keep bT 4),(12293,.one aD (.dv aD))],[]⟩)] [] [4098,4099,4100] .leaf (.two (.reg [] 7) .leaf)))))
noncomputable def Jc(lp:Lp)(call:Nat->List D->Option D)(a0:D)(a1:D):Option D:=
(call 76 [a0]).bind fun r1=>
(D.un .not r1).bind fun x2=>
(D.truth x2).bind fun b3=>
(if b3 then(some true) else((call 76 [a1]).bind fun r4=>
(D.un .not r4).bind fun x5=>
 D.truth x5)).bind fun b6=>
(D.truth (D.bool b6)).bind fun b7=>
(if b7 then(some true) else((call 83 [a1]).bind fun r8=>
 D.truth (D.bool (D.beq r8 (D.int .i64 0))))).bind fun b9=>
(D.truth (D.bool b9)).bind fun b10=>
 if b10 then((call 84 []).bind fun r11=>
 some r11) else((call 85 [a0,a1]).bind fun r12=>
((call 83 [a1]).bind fun r13=>
(D.bin .lss r13 (D.int .i64 0)).bind fun x14=>
(D.truth x14).bind fun b15=>
 if b15 then((call 86 [r12]).bind fun r16=>
 some (0,[r16])) else(some (0,[r12]))).bind fun(r17:Nat×List D)=>
(call 87 [a0,(gx r17.2 0)]).bind fun r18=>
(call 87 [a1,(gx r17.2 0)]).bind fun r19=>
 some (D.st [r18,r19]))
theorem O2{lp}(hlp:au lp):ae 37 (m2 (Jc lp)):=aV (fn:=Tryz.f37) (ann:=Pm) hlp (by kernel_rfl) (by kernel_rfl) (fun call a0 a1=>by kernel_rfl)
noncomputable def IX(lp:Lp)(call:Nat->List D->Option D)(a0:D)(a1:D):Option D:=
(call 88 [a0]).bind fun r1=>
(D.un .not r1).bind fun x2=>
(D.truth x2).bind fun b3=>
(if b3 then(some true) else((call 88 [a1]).bind fun r4=>
(D.un .not r4).bind fun x5=>
 D.truth x5)).bind fun b6=>
(D.truth (D.bool b6)).bind fun b7=>
 if b7 then((call 84 []).bind fun r8=>
 some r8) else((D.get a0 [0]).bind fun x9=>
(D.get a1 [1]).bind fun x10=>
(call 37 [x9,x10]).bind fun r11=>
(D.get a1 [0]).bind fun x12=>
(D.get a0 [1]).bind fun x13=>
(call 37 [x12,x13]).bind fun r14=>
(D.get r11 [0]).bind fun x15=>
(D.get r14 [0]).bind fun x16=>
(call 89 [x15,x16]).bind fun r17=>
(D.get r11 [1]).bind fun x18=>
(D.get r14 [1]).bind fun x19=>
(call 89 [x18,x19]).bind fun r20=>
(call 37 [r17,r20]).bind fun r21=>
 some r21)
theorem QU{lp}(hlp:au lp):ae 38 (m2 (IX lp)):=aV (fn:=Tryz.f38) (ann:=.leaf) hlp (by kernel_rfl) (by kernel_rfl) (fun call a0 a1=>by kernel_rfl)
def Pv:Ann:=(.two .leaf (.two (.reg [] 4) .leaf))
noncomputable def I4(lp:Lp)(call:Nat->List D->Option D)(a0:D)(a1:D):Option D:=
(call 70 [a1]).bind fun r1=>
(call 40 [a0,r1]).bind fun r2=>
 some r2
theorem PP{lp}(hlp:au lp):ae 39 (m2 (I4 lp)):=aV (fn:=Tryz.f39) (ann:=Pv) hlp (by kernel_rfl) (by kernel_rfl) (fun call a0 a1=>by kernel_rfl)
def Py:Ann:=(.two .leaf (.two .leaf (.two .leaf (.two .leaf (.two .leaf (.two (.reg [] 14) .leaf))))))
noncomputable def Js(lp:Lp)(call:Nat->List D->Option D)(a0:D)(a1:D):Option D:=
(call 88 [a0]).bind fun r1=>
(D.un .not r1).bind fun x2=>
(D.truth x2).bind fun b3=>
(if b3 then(some true) else((call 88 [a1]).bind fun r4=>
(D.un .not r4).bind fun x5=>
 D.truth x5)).bind fun b6=>
(D.truth (D.bool b6)).bind fun b7=>
 if b7 then((call 84 []).bind fun r8=>
 some r8) else((D.get a0 [1]).bind fun x9=>
(D.get a1 [1]).bind fun x10=>
(call 85 [x9,x10]).bind fun r11=>
(D.get a0 [1]).bind fun x12=>
(call 87 [x12,r11]).bind fun r13=>
(D.get a1 [1]).bind fun x14=>
(call 87 [x14,r11]).bind fun r15=>
(D.get a0 [0]).bind fun x16=>
(call 89 [x16,r15]).bind fun r17=>
(D.get a1 [0]).bind fun x18=>
(call 89 [x18,r13]).bind fun r19=>
(call 59 [r17,r19]).bind fun r20=>
(D.get a1 [1]).bind fun x21=>
(call 89 [r13,x21]).bind fun r22=>
(call 37 [r20,r22]).bind fun r23=>
 some r23)
theorem RJ{lp}(hlp:au lp):ae 40 (m2 (Js lp)):=aV (fn:=Tryz.f40) (ann:=Py) hlp (by kernel_rfl) (by kernel_rfl) (fun call a0 a1=>by kernel_rfl)
def PK:Ann:=(.two .leaf (.two .leaf (.two (.reg [] 7) (.two (.reg [] 7) .leaf))))
noncomputable def IC(lp:Lp)(call:Nat->List D->Option D)(a0:D)(a1:D):Option D:=
(D.get a0 [0]).bind fun x1=>
(D.get a1 [0]).bind fun x2=>
(call 38 [x1,x2]).bind fun r3=>
(D.get a0 [1]).bind fun x4=>
(D.get a1 [1]).bind fun x5=>
(call 38 [x4,x5]).bind fun r6=>
(call 40 [r3,r6]).bind fun r7=>
(D.get a0 [2]).bind fun x8=>
(D.get a1 [2]).bind fun x9=>
(call 38 [x8,x9]).bind fun r10=>
(call 40 [r7,r10]).bind fun r11=>
 some r11
theorem P8{lp}(hlp:au lp):ae 41 (m2 (IC lp)):=aV (fn:=Tryz.f41) (ann:=PK) hlp (by kernel_rfl) (by kernel_rfl) (fun call a0 a1=>by kernel_rfl)
noncomputable def IF(lp:Lp)(call:Nat->List D->Option D)(a0:D)(a1:D):Option D:=
(call 34 [a0]).bind fun r1=>
(call 34 [a1]).bind fun r2=>
(call 37 [r1,r2]).bind fun r3=>
 some r3
theorem OE{lp}(hlp:au lp):ae 42 (m2 (IF lp)):=aV (fn:=Tryz.f42) (ann:=.leaf) hlp (by kernel_rfl) (by kernel_rfl) (fun call a0 a1=>by kernel_rfl)
def NU:Ann:=(.two .leaf (.two .leaf (.two (.two .leaf (.two (.loop ⟨[(2,.same (.ptr K3 4098 [])),(3,.same (.ptr K1 4099 [])),(5,.dv (Ty.int .i64)),(11,.dv (Ty.int .i64))],[(4098,.keep K3 2),(4099,.keep K1 3)],[9,10]⟩ [(.exit 0,⟨[(5,.dv (Ty.int .i64))],[],[]⟩)] (.two .leaf (.two .leaf (.cut [(.normal,⟨[(2,.same (.ptr K3 4098 [])),(3,.same (.ptr K1 4099 [])),(5,.dv (Ty.int .i64))],[(4098,.keep K3 2),(4099,.keep K1 3)],[9,10,11]⟩)] [9,10,11] [4098,4099] (.two (.two .leaf (.two (.reg [] 11) .leaf)) .leaf) .leaf)))) .leaf)) .leaf)))
theorem Of{lp}(hlp:au lp):ae 43 (fT lp 43 Tryz.f43 NU):=dn hlp (by kernel_rfl) (by kernel_rfl)
def Pj:Ann:=(.two .leaf (.two .leaf (.two (.two .leaf (.two (.loop ⟨[(2,.same (.ptr K2 4098 [])),(3,.same (.ptr dt 4099 [])),(5,.same (.ptr K5 8197 [])),(13,.dv (Ty.int .i64))],[(4098,.keep K2 2),(4099,.keep dt 3),(8197,.one K5 (.ow (Ty.int .i64)))],[11,12]⟩ [(.exit 0,⟨[(2,.same (.ptr K2 4098 [])),(3,.same (.ptr dt 4099 [])),(5,.same (.ptr K5 8197 []))],[(4098,.keep K2 2),(4099,.keep dt 3),(8197,.one K5 (.ow (Ty.int .i64)))],[]⟩)] (.two .leaf (.two .leaf (.cut [(.normal,⟨[(2,.same (.ptr K2 4098 [])),(3,.same (.ptr dt 4099 [])),(5,.same (.ptr K5 8197 []))],[(4098,.keep K2 2),(4099,.keep dt 3),(8197,.one K5 (.ow (Ty.int .i64)))],[11,12,13]⟩)] [11,12,13] [4098,4099] (.two (.two .leaf (.two (.reg [] 6) .leaf)) .leaf) .leaf)))) .leaf)) (.two .leaf (.two .leaf (.two (.two (.regI [] 6 (.two (.two .leaf (.two .leaf (.two (.two .leaf (.two (.loop ⟨[(2,.same (.ptr K2 4098 [])),(3,.same (.ptr dt 4099 [])),(6,.dv (Ty.int .i64)),(12,.dv K5),(14,.dv (Ty.int .i64))],[(4098,.keep K2 2),(4099,.keep dt 3),(8197,.one K5 (.dv K5))],[0,13]⟩ [(.exit 0,⟨[(6,.dv (Ty.int .i64))],[(4098,.keep K2 2),(4099,.keep dt 3),(8197,.one K5 (.dv K5))],[]⟩)] (.two .leaf (.two .leaf (.cut [(.normal,⟨[(2,.same (.ptr K2 4098 [])),(3,.same (.ptr dt 4099 [])),(6,.dv (Ty.int .i64))],[(4098,.keep K2 2),(4099,.keep dt 3),(8197,.one K5 (.dv K5))],[0,12,13,14]⟩)] [0,12,13,14] [4098,4099] (.two (.two .leaf (.two .leaf (.two .leaf (.two (.reg [] 20) .leaf)))) .leaf) .leaf)))) .leaf)) .leaf))) .leaf)) (.two (.loop ⟨[(5,.same (.ptr K5 8197 [])),(8,.same (.clo 102 [(.ptr K5 8197 []),(.ptr K2 4098 []),(.ptr dt 4099 [])])),(9,.ow (Ty.int .i64)),(10,.dv (Ty.int .i64))],[(4098,.keep K2 2),(4099,.keep dt 3),(8197,.keep K5 5)],[]⟩ [(.exit 2,⟨[(9,.ow (Ty.int .i64))],[],[]⟩)] (.two .leaf (.two .leaf (.regI [] 4 (.two (.two .leaf (.two .leaf (.two (.two .leaf (.two (.loop ⟨[(2,.same (.ptr K2 4098 [])),(3,.same (.ptr dt 4099 [])),(6,.dv (Ty.int .i64)),(14,.dv (Ty.int .i64))],[(4098,.keep K2 2),(4099,.keep dt 3),(8197,.keep K5 1)],[0,12,13]⟩ [(.exit 0,⟨[(6,.dv (Ty.int .i64))],[(4098,.keep K2 2),(4099,.keep dt 3),(8197,.keep K5 1)],[]⟩)] (.two .leaf (.two .leaf (.cut [(.normal,⟨[(2,.same (.ptr K2 4098 [])),(3,.same (.ptr dt 4099 [])),(6,.dv (Ty.int .i64))],[(4098,.keep K2 2),(4099,.keep dt 3),(8197,.one K5 (.dv K5))],[0,12,13,14]⟩)] [0,12,13,14] [4098,4099] (.two (.two .leaf (.two .leaf (.two .leaf (.two (.reg [] 20) .leaf)))) .leaf) .leaf)))) .leaf)) .leaf))) .leaf))))) .leaf)) .leaf))))))
noncomputable def Jl(lp:Lp)(call:Nat->List D->Option D)(a0:D)(a1:D):Option D:=
(D.asSl a0).bind fun l1=>
(lp (β:=Nat×List D) (fun(v2:List D)=>
(D.bin .lss (gx v2 0) (D.int .i64 (l1.length))).bind fun x3=>
(D.truth x3).bind fun b4=>
 if b4 then(((D.asSl a0).bind fun l5=>
(D.idx (gx v2 0) (l5.length)).bind fun i6=>
(l5[i6]?).bind fun x7=>
(D.get a1 [0]).bind fun x8=>
(call 101 [x8,x7]).bind fun r9=>
(D.get a1 [1]).bind fun x10=>
(D.truth (D.bool (D.beq r9 x10))).bind fun b11=>
 if b11 then(if List.length ((gx v2 1).els)+List.length [(gx v2 0)]<=1073741824 then(some (0,[(D.sl (((gx v2 1).els)++[(gx v2 0)]))])) else none) else(some (0,[(D.sl ((gx v2 1).els))]))).bind fun(r12:Nat×List D)=>
(D.bin .add (gx v2 0) (D.int .i64 1)).bind fun x13=>
 some (Sum.inl [x13,(D.sl ((gx r12.2 0).els))])) else(some (Sum.inr (0,[(D.sl ((gx v2 1).els))])))) [(D.int .i64 0),(D.sl [])]).bind fun r14=>
(D.idx (D.int .i64 0) (List.length ((gx r14.2 0).els))).bind fun i15=>
(((gx r14.2 0).els)[i15]?).bind fun x16=>
(D.idx (D.int .i64 0) (List.length ((gx r14.2 0).els))).bind fun i17=>
(((gx r14.2 0).els)[i17]?).bind fun x18=>
(lp (β:=Nat×List D) (fun(v19:List D)=>
(D.bin .lss (gx v19 2) (D.int .i64 (List.length ((gx r14.2 0).els)))).bind fun x20=>
(D.truth x20).bind fun b21=>
 if b21 then(((D.asSl (gx v19 1)).bind fun l22=>
(D.idx (gx v19 2) (l22.length)).bind fun Bl=>
(l22[Bl]?).bind fun x24=>
(D.truth (D.bool (D.beq x24 x18))).bind fun b25=>
 if b25 then(some (0,[(gx v19 0),(gx v19 3)])) else((D.bin .lss (gx v19 0) (D.int .i64 0)).bind fun x26=>
(D.truth x26).bind fun b27=>
 if b27 then(some (0,[x24,(gx v19 3)])) else((D.asSl a0).bind fun l28=>
(D.idx x24 (l28.length)).bind fun i29=>
(l28[i29]?).bind fun x30=>
(D.asSl a0).bind fun l31=>
(D.idx x18 (l31.length)).bind fun i32=>
(l31[i32]?).bind fun x33=>
(call 103 [x30,x33]).bind fun r34=>
(D.asSl a0).bind fun l35=>
(D.idx (gx v19 0) (l35.length)).bind fun i36=>
(l35[i36]?).bind fun x37=>
(D.asSl a0).bind fun l38=>
(D.idx x18 (l38.length)).bind fun i39=>
(l38[i39]?).bind fun x40=>
(call 103 [x37,x40]).bind fun r41=>
(D.get a1 [0]).bind fun x42=>
(call 104 [x42,r41,r34]).bind fun r43=>
(D.bin .lss r43 (D.int .i64 0)).bind fun x44=>
(D.truth x44).bind fun b45=>
(if b45 then(some true) else((D.truth (D.bool (D.beq r43 (D.int .i64 0)))).bind fun b46=>
 if b46 then((call 101 [r34,r34]).bind fun r47=>
(call 101 [r41,r41]).bind fun r48=>
(D.bin .gtr r47 r48).bind fun x49=>
 D.truth x49) else(some false))).bind fun b50=>
(D.truth (D.bool b50)).bind fun b51=>
 if b51 then(some (0,[x24,(gx v19 3)])) else(some (0,[(gx v19 0),(gx v19 3)]))))).bind fun(r52:Nat×List D)=>
(D.bin .add (gx v19 2) (D.int .i64 1)).bind fun x53=>
 some (Sum.inl [(gx r52.2 0),(gx v19 1),x53,(gx r52.2 1)])) else(some (Sum.inr (0,[(gx v19 0),(gx v19 3)])))) [(D.int .i64 (-1)),(D.sl ((gx r14.2 0).els)),(D.int .i64 0),(D.sl ((gx r14.2 0).els))]).bind fun r54=>
(lp (β:=Nat×List D) (fun(v55:List D)=>
(D.asSl (gx r54.2 1)).bind fun l56=>
(D.idx (D.int .i64 0) (l56.length)).bind fun i57=>
(l56[i57]?).bind fun x58=>
(D.truth (D.bool (!(D.beq (gx v55 1) x58)))).bind fun b59=>
 if b59 then(if List.length ((gx v55 0).els)+List.length [(gx v55 1)]<=1073741824 then((D.asSl (gx r54.2 1)).bind fun l60=>
(lp (β:=Nat×List D) (fun(v61:List D)=>
(D.bin .lss (gx v61 1) (D.int .i64 (l60.length))).bind fun x62=>
(D.truth x62).bind fun b63=>
 if b63 then(((D.asSl (gx r54.2 1)).bind fun l64=>
(D.idx (gx v61 1) (l64.length)).bind fun i65=>
(l64[i65]?).bind fun x66=>
(D.truth (D.bool (D.beq x66 (gx v55 1)))).bind fun b67=>
 if b67 then(some (0,[(gx v61 0),(gx r54.2 1)])) else((D.bin .lss (gx v61 0) (D.int .i64 0)).bind fun x68=>
(D.truth x68).bind fun b69=>
 if b69 then(some (0,[x66,(gx r54.2 1)])) else((D.asSl a0).bind fun l70=>
(D.idx x66 (l70.length)).bind fun i71=>
(l70[i71]?).bind fun x72=>
(D.asSl a0).bind fun l73=>
(D.idx (gx v55 1) (l73.length)).bind fun i74=>
(l73[i74]?).bind fun x75=>
(call 103 [x72,x75]).bind fun r76=>
(D.asSl a0).bind fun l77=>
(D.idx (gx v61 0) (l77.length)).bind fun i78=>
(l77[i78]?).bind fun x79=>
(D.asSl a0).bind fun l80=>
(D.idx (gx v55 1) (l80.length)).bind fun i81=>
(l80[i81]?).bind fun x82=>
(call 103 [x79,x82]).bind fun r83=>
(D.get a1 [0]).bind fun x84=>
(call 104 [x84,r83,r76]).bind fun r85=>
(D.bin .lss r85 (D.int .i64 0)).bind fun x86=>
(D.truth x86).bind fun b87=>
(if b87 then(some true) else((D.truth (D.bool (D.beq r85 (D.int .i64 0)))).bind fun b88=>
 if b88 then((call 101 [r76,r76]).bind fun r89=>
(call 101 [r83,r83]).bind fun r90=>
(D.bin .gtr r89 r90).bind fun x91=>
 D.truth x91) else(some false))).bind fun b92=>
(D.truth (D.bool b92)).bind fun b93=>
 if b93 then(some (0,[x66,(gx r54.2 1)])) else(some (0,[(gx v61 0),(gx r54.2 1)]))))).bind fun(r94:Nat×List D)=>
(D.bin .add (gx v61 1) (D.int .i64 1)).bind fun x95=>
 some (Sum.inl [(gx r94.2 0),x95])) else(some (Sum.inr (0,[(gx v61 0)])))) [(D.int .i64 (-1)),(D.int .i64 0)]).bind fun r96=>
 some (Sum.inl [(D.sl (((gx v55 0).els)++[(gx v55 1)])),(gx r96.2 0)])) else none) else(some (Sum.inr (0,[(D.sl ((gx v55 0).els))])))) [(D.sl [x16]),(gx r54.2 0)]).bind fun r97=>
 some (D.sl ((gx r97.2 0).els))
theorem O1{lp}(hlp:au lp):ae 46 (m2 (Jl lp)):=aV (fn:=Tryz.f46) (ann:=Pj) hlp (by kernel_rfl) (by kernel_rfl) (fun call a0 a1=>by kernel_rfl)
def QI:Ann:=(.two .leaf (.two .leaf (.two (.two .leaf (.two (.loop ⟨[(3,.ow K1),(4,.dv (Ty.int .i64))],[],[0]⟩ [(.exit 0,⟨[(3,.ow K1)],[],[]⟩)] (.two .leaf (.two (.two (.two .leaf (.two .leaf (.two (.two .leaf (.two (.loop ⟨[(3,.ow K1),(5,.ow K1),(6,.dv Ty.bool),(7,.dv (Ty.int .i64))],[],[0,4]⟩ [(.exit 2,⟨[(5,.ow K1),(6,.dv Ty.bool)],[],[0,4]⟩)] (.two .leaf (.cut [(.normal,⟨[(3,.ow K1),(5,.ow K1),(6,.dv Ty.bool)],[],[0,4,7]⟩)] [0,4,7] [] (.two (.two (.reg [] 9) (.cut [(.normal,⟨[(3,.ow K1),(5,.ow K1),(6,.dv Ty.bool)],[],[0,4,7]⟩)] [0,4,7] [] .leaf (.two (.reg [] 8) .leaf))) .leaf) .leaf))) .leaf)) (.cut [(.normal,⟨[(5,.ow K1)],[],[0,4]⟩)] [0,4] [] .leaf .leaf)))) .leaf) .leaf))) .leaf)) .leaf)))
noncomputable def IL(lp:Lp)(call:Nat->List D->Option D)(a0:D):Option D:=
(lp (β:=Nat×List D) (fun(v1:List D)=>
(D.asSl a0).bind fun l2=>
(D.bin .lss (gx v1 1) (D.int .i64 (l2.length))).bind fun x3=>
(D.truth x3).bind fun b4=>
 if b4 then((lp (β:=Nat×List D) (fun(v5:List D)=>
(D.bin .lss (gx v5 3) (D.int .i64 (List.length ((gx v5 0).els)))).bind fun x6=>
(D.truth x6).bind fun b7=>
 if b7 then(((D.asSl a0).bind fun l8=>
(D.idx (gx v1 1) (l8.length)).bind fun i9=>
(l8[i9]?).bind fun x10=>
(D.idx (gx v5 3) (List.length ((gx v5 0).els))).bind fun i11=>
(((gx v5 0).els)[i11]?).bind fun x12=>
(call 105 [x10,x12]).bind fun r13=>
((D.un .not (gx v5 2)).bind fun x14=>
(D.truth x14).bind fun b15=>
(if b15 then((D.truth r13).bind fun b16=>
 if b16 then(some true) else((D.asSl a0).bind fun l17=>
(D.idx (gx v1 1) (l17.length)).bind fun i18=>
(l17[i18]?).bind fun x19=>
(D.idx (gx v5 3) (List.length ((gx v5 0).els))).bind fun i20=>
(((gx v5 0).els)[i20]?).bind fun x21=>
 D.truth (D.bool (D.beq x19 x21)))) else(some false)).bind fun b22=>
(D.truth (D.bool b22)).bind fun b23=>
 if b23 then((D.asSl a0).bind fun l24=>
(D.idx (gx v1 1) (l24.length)).bind fun i25=>
(l24[i25]?).bind fun x26=>
 if List.length ((gx v5 1).els)+List.length [x26]<=1073741824 then(some (0,[(D.sl ((gx v5 0).els)),(D.sl (((gx v5 1).els)++[x26])),(D.bool true)])) else none) else(some (0,[(D.sl ((gx v5 0).els)),(D.sl ((gx v5 1).els)),(gx v5 2)]))).bind fun(r27:Nat×List D)=>
(D.idx (gx v5 3) (List.length ((gx r27.2 0).els))).bind fun i28=>
(((gx r27.2 0).els)[i28]?).bind fun x29=>
(D.asSl a0).bind fun l30=>
(D.idx (gx v1 1) (l30.length)).bind fun i31=>
(l30[i31]?).bind fun x32=>
(D.truth (D.bool (!(D.beq x29 x32)))).bind fun b33=>
 if b33 then((D.idx (gx v5 3) (List.length ((gx r27.2 0).els))).bind fun i34=>
(((gx r27.2 0).els)[i34]?).bind fun x35=>
 if List.length ((gx r27.2 1).els)+List.length [x35]<=1073741824 then(some (0,[(D.sl ((gx r27.2 0).els)),(D.sl (((gx r27.2 1).els)++[x35])),(gx r27.2 2)])) else none) else(some (0,[(D.sl ((gx r27.2 0).els)),(D.sl ((gx r27.2 1).els)),(gx r27.2 2)]))).bind fun(r36:Nat×List D)=>
(D.bin .add (gx v5 3) (D.int .i64 1)).bind fun x37=>
 some (Sum.inl [(D.sl ((gx r36.2 0).els)),(D.sl ((gx r36.2 1).els)),(gx r36.2 2),x37])) else(some (Sum.inr (0,[(D.sl ((gx v5 1).els)),(gx v5 2)])))) [(D.sl ((gx v1 0).els)),(D.sl []),(D.bool false),(D.int .i64 0)]).bind fun r38=>
((D.un .not (gx r38.2 1)).bind fun x39=>
(D.truth x39).bind fun b40=>
 if b40 then((D.asSl a0).bind fun l41=>
(D.idx (gx v1 1) (l41.length)).bind fun i42=>
(l41[i42]?).bind fun x43=>
 if List.length ((gx r38.2 0).els)+List.length [x43]<=1073741824 then(some (0,[(D.sl (((gx r38.2 0).els)++[x43]))])) else none) else(some (0,[(D.sl ((gx r38.2 0).els))]))).bind fun(r44:Nat×List D)=>
(D.bin .add (gx v1 1) (D.int .i64 1)).bind fun x45=>
 some (Sum.inl [(D.sl ((gx r44.2 0).els)),x45])) else(some (Sum.inr (0,[(D.sl ((gx v1 0).els))])))) [(D.sl []),(D.int .i64 0)]).bind fun r46=>
 some (D.sl ((gx r46.2 0).els))
theorem Pr{lp}(hlp:au lp):ae 47 (m1 (IL lp)):=bz (fn:=Tryz.f47) (ann:=QI) hlp (by kernel_rfl) (by kernel_rfl) (fun call a0=>by kernel_rfl)
def O0:Ann:=(.two .leaf (.two .leaf (.two (.two .leaf (.two (.loop ⟨[(3,.dv K7),(4,.dv (Ty.int .i64))],[],[0]⟩ [(.exit 0,⟨[(3,.dv K7)],[],[]⟩)] (.two .leaf (.two (.two (.two .leaf (.two (.loop ⟨[(3,.dv K7),(5,.dv (Ty.int .i64))],[],[0,4]⟩ [(.exit 2,⟨[(3,.dv K7)],[],[0,4]⟩)] (.two .leaf (.two (.two (.two .leaf (.two (.loop ⟨[(3,.dv K7),(6,.dv (Ty.int .i64))],[],[0,4,5]⟩ [(.exit 4,⟨[(3,.dv K7)],[],[0,4,5]⟩)] (.two .leaf (.two (.two (.two (.reg [] 14) (.two .leaf (.two (.loop ⟨[(3,.dv K7),(7,.same (.ptr K1 49159 [])),(8,.dv (Ty.int .i64))],[(49159,.one K1 (.dv K1))],[0,4,5,6]⟩ [(.exit 6,⟨[(3,.dv K7)],[],[0,4,5,6]⟩)] (.two .leaf (.two (.two (.two (.reg [] 6) (.two .leaf (.two .leaf (.cut [(.normal,⟨[(3,.dv K7),(7,.same (.ptr K1 49159 []))],[(49159,.keep K1 7)],[0,4,5,6,8]⟩)] [0,4,5,6,8] [49159] (.two .leaf (.two (.reg [] 9) .leaf)) .leaf)))) .leaf) .leaf))) .leaf))) .leaf) .leaf))) .leaf)) .leaf) .leaf))) .leaf)) .leaf) .leaf))) .leaf)) .leaf)))
noncomputable def Jg(lp:Lp)(call:Nat->List D->Option D)(a0:D):Option D:=
(lp (β:=Nat×List D) (fun(v1:List D)=>
(D.asSl a0).bind fun l2=>
(D.bin .lss (gx v1 1) (D.int .i64 (l2.length))).bind fun x3=>
(D.truth x3).bind fun b4=>
 if b4 then((D.bin .add (gx v1 1) (D.int .i64 1)).bind fun x5=>
(lp (β:=Nat×List D) (fun(v6:List D)=>
(D.asSl a0).bind fun l7=>
(D.bin .lss (gx v6 1) (D.int .i64 (l7.length))).bind fun x8=>
(D.truth x8).bind fun b9=>
 if b9 then((D.bin .add (gx v6 1) (D.int .i64 1)).bind fun x10=>
(lp (β:=Nat×List D) (fun(v11:List D)=>
(D.asSl a0).bind fun l12=>
(D.bin .lss (gx v11 1) (D.int .i64 (l12.length))).bind fun x13=>
(D.truth x13).bind fun b14=>
 if b14 then((D.asSl a0).bind fun l15=>
(D.idx (gx v1 1) (l15.length)).bind fun i16=>
(l15[i16]?).bind fun x17=>
(D.asSl a0).bind fun l18=>
(D.idx (gx v6 1) (l18.length)).bind fun i19=>
(l18[i19]?).bind fun x20=>
(D.asSl a0).bind fun l21=>
(D.idx (gx v11 1) (l21.length)).bind fun i22=>
(l21[i22]?).bind fun x23=>
(call 106 [x17,x20,x23]).bind fun r24=>
(lp (β:=Nat×List D) (fun(v25:List D)=>
(D.bin .lss (gx v25 1) (D.int .i64 2)).bind fun x26=>
(D.truth x26).bind fun b27=>
 if b27 then((D.asSl a0).bind fun l28=>
(D.idx (gx v1 1) (l28.length)).bind fun i29=>
(l28[i29]?).bind fun x30=>
(call 107 [(gx v25 2),x30]).bind fun r31=>
(call 108 [(gx v25 0),(gx v25 2)]).bind fun r32=>
((D.un .not r32).bind fun x33=>
(D.truth x33).bind fun b34=>
(if b34 then((D.un .not (D.bool (D.beq (gx v25 2) (D.st [(D.int .i64 0),(D.int .i64 0),(D.int .i64 0)])))).bind fun x35=>
 D.truth x35) else(some false)).bind fun b36=>
(D.truth (D.bool b36)).bind fun b37=>
(if b37 then((call 109 [a0,(gx v25 2),r31]).bind fun r38=>
 D.truth r38) else(some false)).bind fun b39=>
(D.truth (D.bool b39)).bind fun b40=>
 if b40 then((call 111 [a0,(gx v25 2),r31]).bind fun r41=>
(call 110 [(gx v25 0),(D.st [(gx v25 2),r31,r41])]).bind fun r42=>
 some (0,[r42])) else(some (0,[(gx v25 0)]))).bind fun(r43:Nat×List D)=>
(call 112 [(D.st [(D.int .i64 0),(D.int .i64 0),(D.int .i64 0)]),(gx v25 2)]).bind fun r44=>
(D.bin .add (gx v25 1) (D.int .i64 1)).bind fun x45=>
 some (Sum.inl [(gx r43.2 0),x45,r44])) else(some (Sum.inr (0,[(gx v25 0)])))) [(gx v11 0),(D.int .i64 0),r24]).bind fun r46=>
(D.bin .add (gx v11 1) (D.int .i64 1)).bind fun x47=>
 some (Sum.inl [(gx r46.2 0),x47])) else(some (Sum.inr (0,[(gx v11 0)])))) [(gx v6 0),x10]).bind fun r48=>
(D.bin .add (gx v6 1) (D.int .i64 1)).bind fun x49=>
 some (Sum.inl [(gx r48.2 0),x49])) else(some (Sum.inr (0,[(gx v6 0)])))) [(gx v1 0),x5]).bind fun r50=>
(D.bin .add (gx v1 1) (D.int .i64 1)).bind fun x51=>
 some (Sum.inl [(gx r50.2 0),x51])) else(some (Sum.inr (0,[(gx v1 0)])))) [(D.sl []),(D.int .i64 0)]).bind fun r52=>
 some (gx r52.2 0)
theorem OW{lp}(hlp:au lp):ae 48 (m1 (Jg lp)):=bz (fn:=Tryz.f48) (ann:=O0) hlp (by kernel_rfl) (by kernel_rfl) (fun call a0=>by kernel_rfl)
def NV:Ann:=(.two .leaf (.two .leaf (.two (.two .leaf (.two (.loop ⟨[(13,.dv (Ty.int .i64))],[],[0,1,12]⟩ [(.ret,⟨[(4,.dv Ty.bool)],[],[]⟩),(.exit 0,⟨[],[],[]⟩)] (.two .leaf (.two .leaf (.two (.two (.two .leaf (.two (.reg [] 8) .leaf)) .leaf) .leaf)))) .leaf)) .leaf)))
theorem OO{lp}(hlp:au lp):ae 49 (fT lp 49 Tryz.f49 NV):=dn hlp (by kernel_rfl) (by kernel_rfl)
def On:Ann:=(.two .leaf (.two (.reg [] 12) .leaf))
noncomputable def NM(lp:Lp)(call:Nat->List D->Option D)(a0:D)(a1:D):Option D:=
(D.get a0 [0]).bind fun x1=>
(D.get a1 [0]).bind fun x2=>
(call 53 [x1,x2]).bind fun r3=>
(D.get a0 [1]).bind fun x4=>
(D.get a1 [1]).bind fun x5=>
(call 53 [x4,x5]).bind fun r6=>
(call 52 [(D.sl [r3,r6])]).bind fun r7=>
 some r7
theorem Om{lp}(hlp:au lp):ae 51 (m2 (NM lp)):=aV (fn:=Tryz.f51) (ann:=On) hlp (by kernel_rfl) (by kernel_rfl) (fun call a0 a1=>by kernel_rfl)
def Qn:Ann:=(.two .leaf (.two .leaf (.two (.two .leaf (.two (.loop ⟨[(8,.dv (Ty.int .i64))],[],[3,6,7]⟩ [(.ret,⟨[(2,.dv (Ty.int .i64))],[],[]⟩),(.exit 0,⟨[],[],[3]⟩)] .leaf) .leaf)) .leaf)))
noncomputable def I7(lp:Lp)(call:Nat->List D->Option D)(a0:D):Option D:=
(D.asSl a0).bind fun l1=>
(lp (β:=Nat×List D) (fun(v2:List D)=>
(D.bin .lss (gx v2 0) (D.int .i64 (l1.length))).bind fun x3=>
(D.truth x3).bind fun b4=>
 if b4 then((D.asSl a0).bind fun l5=>
(D.idx (gx v2 0) (l5.length)).bind fun i6=>
(l5[i6]?).bind fun x7=>
(D.truth (D.bool (!(D.beq x7 (D.int .i64 0))))).bind fun b8=>
 if b8 then(some (Sum.inr (0,[x7]))) else((D.bin .add (gx v2 0) (D.int .i64 1)).bind fun x9=>
 some (Sum.inl [x9]))) else(some (Sum.inr (1,[])))) [(D.int .i64 0)]).bind fun r10=>
 if r10.1=0 then(some (gx r10.2 0)) else(some (D.int .i64 0))
theorem PB{lp}(hlp:au lp):ae 52 (m1 (I7 lp)):=bz (fn:=Tryz.f52) (ann:=Qn) hlp (by kernel_rfl) (by kernel_rfl) (fun call a0=>by kernel_rfl)
noncomputable def IP(lp:Lp)(call:Nat->List D->Option D)(a0:D)(a1:D):Option D:=
(call 115 [a0]).bind fun r1=>
(call 115 [a1]).bind fun r2=>
(D.truth r1).bind fun b3=>
 if b3 then((D.truth r2).bind fun b4=>
 if b4 then(some (D.int .i64 0)) else(some (D.int .i64 (-1)))) else((D.truth r2).bind fun b5=>
 if b5 then(some (D.int .i64 1)) else((D.bin .lss a0 a1).bind fun x6=>
(D.truth x6).bind fun b7=>
 if b7 then(some (D.int .i64 (-1))) else((D.bin .gtr a0 a1).bind fun x8=>
(D.truth x8).bind fun b9=>
 if b9 then(some (D.int .i64 1)) else(some (D.int .i64 0)))))
theorem Qe{lp}(hlp:au lp):ae 53 (m2 (IP lp)):=aV (fn:=Tryz.f53) (ann:=.leaf) hlp (by kernel_rfl) (by kernel_rfl) (fun call a0 a1=>by kernel_rfl)
def Qj:Ann:=(.two .leaf (.two .leaf (.cut [(.normal,⟨[(2,.same (.ptr aD 4098 [])),(3,.dv (Ty.int .u64))],[(4098,.keep aD 2)],[0]⟩)] [0] [4098] .leaf .leaf)))
noncomputable def IB(lp:Lp)(call:Nat->List D->Option D)(a0:D):Option D:=
(D.conv .u64 a0).bind fun x1=>
((D.bin .lss a0 (D.int .i64 0)).bind fun x2=>
(D.truth x2).bind fun b3=>
 if b3 then((D.un .neg x1).bind fun x4=>
 some (0,[x4])) else(some (0,[x1]))).bind fun(r5:Nat×List D)=>
(D.bin .lss a0 (D.int .i64 0)).bind fun x6=>
(D.conv .u32 (gx r5.2 0)).bind fun x7=>
(D.bin .shr (gx r5.2 0) (D.int .u64 32)).bind fun x8=>
(D.conv .u32 x8).bind fun x9=>
(call 116 [x6,(D.st (D.putParts (List.replicate 16 (D.int .u32 0)) [(0,x7),(1,x9)]))]).bind fun r10=>
 some r10
theorem RC{lp}(hlp:au lp):ae 54 (m1 (IB lp)):=bz (fn:=Tryz.f54) (ann:=Qj) hlp (by kernel_rfl) (by kernel_rfl) (fun call a0=>by kernel_rfl)
def Pz:Ann:=(.two .leaf (.two .leaf (.two .leaf (.two (.two .leaf (.two (.two (.reg [] 8) .leaf) .leaf)) (.two (.reg [] 8) .leaf)))))
noncomputable def Ja(lp:Lp)(call:Nat->List D->Option D)(a0:D)(a1:D):Option D:=
(call 118 [(D.sl [a0,a1])]).bind fun r1=>
(D.un .not r1).bind fun x2=>
(D.truth x2).bind fun b3=>
 if b3 then((call 119 []).bind fun r4=>
 some r4) else((D.get a0 [1]).bind fun x5=>
(D.get a1 [1]).bind fun x6=>
(D.truth (D.bool (D.beq x5 x6))).bind fun b7=>
 if b7 then((D.get a0 [2]).bind fun x8=>
(D.get a1 [2]).bind fun x9=>
(call 120 [x8,x9]).bind fun r10=>
(D.tupAt r10 0).bind fun x11=>
(D.tupAt r10 1).bind fun x12=>
(D.un .not x12).bind fun x13=>
(D.truth x13).bind fun b14=>
 if b14 then((call 119 []).bind fun r15=>
 some r15) else((D.get a0 [1]).bind fun x16=>
(call 116 [x16,x11]).bind fun r17=>
 some r17)) else((D.get a0 [2]).bind fun x18=>
(D.get a1 [2]).bind fun x19=>
(call 121 [x18,x19]).bind fun r20=>
(D.bin .geq r20 (D.int .i64 0)).bind fun x21=>
(D.truth x21).bind fun b22=>
 if b22 then((D.get a0 [1]).bind fun x23=>
(D.get a0 [2]).bind fun x24=>
(D.get a1 [2]).bind fun x25=>
(call 122 [x24,x25]).bind fun r26=>
(call 116 [x23,r26]).bind fun r27=>
 some r27) else((D.get a1 [1]).bind fun x28=>
(D.get a1 [2]).bind fun x29=>
(D.get a0 [2]).bind fun x30=>
(call 122 [x29,x30]).bind fun r31=>
(call 116 [x28,r31]).bind fun r32=>
 some r32)))
theorem Qo{lp}(hlp:au lp):ae 57 (m2 (Ja lp)):=aV (fn:=Tryz.f57) (ann:=Pz) hlp (by kernel_rfl) (by kernel_rfl) (fun call a0 a1=>by kernel_rfl)
end Go.Proofs.YtjjjkojfijpeeaaGreat.Sy
end
