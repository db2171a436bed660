/- Part 6 of the proof that HullContainsPoints answers true at every input -/
import Derived.Test.YtjjjkojfijpeeaaGreatPoints05
set_option linter.unusedVariables false
set_option linter.unusedSimpArgs false
set_option linter.unnecessarySimpa false
section
set_option maxRecDepth 20000
set_option maxHeartbeats 0
set_option linter.unusedVariables false
namespace Go.Proofs.YtjjjkojfijpeeaaGreat.Sy
open Go Go.Proofs
def A6:Ann:=(.two .leaf (.two .leaf (.two .leaf (.two .leaf (.two (.two .leaf (.two (.loop ⟨[(5,.same (.ptr K3 12293 [])),(7,.dv (Ty.int .i64))],[(12293,.keep K3 5)],[0,1]⟩ [(.ret,⟨[(4,.dv Ty.bool)],[],[]⟩),(.exit 0,⟨[(5,.same (.ptr K3 12293 []))],[(12293,.keep K3 5)],[0,1]⟩)] (.two .leaf (.two (.two (.two (.reg [] 7) .leaf) .leaf) .leaf))) .leaf)) (.two (.two .leaf (.two (.loop ⟨[(5,.same (.ptr K3 12293 [])),(8,.dv (Ty.int .i64))],[(12293,.keep K3 5)],[0,1]⟩ [(.ret,⟨[(4,.dv Ty.bool)],[],[]⟩),(.exit 2,⟨[(5,.same (.ptr K3 12293 []))],[(12293,.keep K3 5)],[0,1]⟩)] (.two .leaf (.two (.two (.two .leaf (.two (.two .leaf (.two (.loop ⟨[(5,.same (.ptr K3 12293 [])),(9,.dv Ty.bool),(10,.dv (Ty.int .i64))],[(12293,.keep K3 5)],[0,1,8]⟩ [(.exit 4,⟨[(5,.same (.ptr K3 12293 [])),(9,.dv Ty.bool)],[(12293,.keep K3 5)],[0,1,8]⟩)] (.two .leaf (.two (.two (.reg [] 13) .leaf) .leaf))) .leaf)) .leaf)) .leaf) .leaf))) .leaf)) (.two .leaf (.two (.reg [] 7) (.two .leaf (.two .leaf (.two .leaf (.two (.reg [] 13) .leaf))))))))))))
noncomputable def F6(lp:Lp)(call:Nat->List D->Option D)(a0:D)(a1:D):Option D:=
(D.asSl a0).bind fun l1=>
(D.bin .gtr (D.int .i64 (l1.length)) (D.int .i64 16)).bind fun x2=>
(D.truth x2).bind fun b3=>
 if b3 then((call 10 []).bind fun r4=>
 some r4) else((call 11 [a0]).bind fun r5=>
(D.tupAt r5 0).bind fun x6=>
(D.tupAt r5 1).bind fun x7=>
(D.truth (D.bool (!(D.beq x7 (D.int .i64 0))))).bind fun b8=>
 if b8 then((call 10 []).bind fun r9=>
(D.truth r9).bind fun b10=>
(if b10 then((D.get x6 [0]).bind fun x11=>
(D.asSl x11).bind fun l12=>
 D.truth (D.bool (D.beq (D.int .i64 (l12.length)) (D.int .i64 0)))) else(some false)).bind fun b13=>
 some (D.bool b13)) else((lp (β:=Nat×List D) (fun(v14:List D)=>
(D.asSl a0).bind fun l15=>
(D.bin .lss (gx v14 0) (D.int .i64 (l15.length))).bind fun x16=>
(D.truth x16).bind fun b17=>
 if b17 then((D.asSl a0).bind fun l18=>
(D.idx (gx v14 0) (l18.length)).bind fun i19=>
(l18[i19]?).bind fun x20=>
(call 31 [x20]).bind fun r21=>
(call 30 [x6,r21]).bind fun r22=>
(D.bin .lss r22 (D.int .i64 0)).bind fun x23=>
(D.truth x23).bind fun b24=>
 if b24 then(some (Sum.inr (0,[(D.bool false)]))) else((D.bin .add (gx v14 0) (D.int .i64 1)).bind fun x25=>
 some (Sum.inl [x25]))) else(some (Sum.inr (1,[])))) [(D.int .i64 0)]).bind fun r26=>
 if r26.1=0 then(some (gx r26.2 0)) else((lp (β:=Nat×List D) (fun(v27:List D)=>
(D.get x6 [0]).bind fun x28=>
(D.asSl x28).bind fun l29=>
(D.bin .lss (gx v27 0) (D.int .i64 (l29.length))).bind fun x30=>
(D.truth x30).bind fun b31=>
 if b31 then((lp (β:=Nat×List D) (fun(v32:List D)=>
(D.asSl a0).bind fun l33=>
(D.bin .lss (gx v32 1) (D.int .i64 (l33.length))).bind fun x34=>
(D.truth x34).bind fun b35=>
 if b35 then((D.truth (gx v32 0)).bind fun b36=>
(if b36 then(some true) else((D.asSl a0).bind fun l37=>
(D.idx (gx v32 1) (l37.length)).bind fun i38=>
(l37[i38]?).bind fun x39=>
(D.get x6 [0]).bind fun x40=>
(D.asSl x40).bind fun l41=>
(D.idx (gx v27 0) (l41.length)).bind fun i42=>
(l41[i42]?).bind fun x43=>
 D.truth (D.bool (D.beq x39 x43)))).bind fun b44=>
(D.bin .add (gx v32 1) (D.int .i64 1)).bind fun x45=>
 some (Sum.inl [(D.bool b44),x45])) else(some (Sum.inr (0,[(gx v32 0)])))) [(D.bool false),(D.int .i64 0)]).bind fun r46=>
(D.un .not (gx r46.2 0)).bind fun x47=>
(D.truth x47).bind fun b48=>
 if b48 then(some (Sum.inr (0,[(D.bool false)]))) else((D.bin .add (gx v27 0) (D.int .i64 1)).bind fun x49=>
 some (Sum.inl [x49]))) else(some (Sum.inr (1,[])))) [(D.int .i64 0)]).bind fun r50=>
 if r50.1=0 then(some (gx r50.2 0)) else((D.conv .i64 a1).bind fun x51=>
(D.asSl a0).bind fun l52=>
(D.bin .add (D.int .i64 (l52.length)) (D.int .i64 1)).bind fun x53=>
(D.bin .rem x51 x53).bind fun x54=>
(D.get x6 [0]).bind fun x55=>
(D.asSl x55).bind fun l56=>
 if List.length ([]:List D)+l56.length<=1073741824 then((D.asSl a0).bind fun l57=>
(D.natOf x54).bind fun i58=>
(D.cut l57 0 i58).bind fun l59=>
 if List.length ([]++l56)+l59.length<=1073741824 then((call 11 [(D.sl (([]++l56)++l59))]).bind fun r60=>
(D.tupAt r60 0).bind fun x61=>
(D.tupAt r60 1).bind fun x62=>
(D.truth (D.bool (!(D.beq x62 (D.int .i64 0))))).bind fun b63=>
(if b63 then(some true) else((D.get x61 [0]).bind fun x64=>
(D.get x6 [0]).bind fun x65=>
(call 13 [x64,x65]).bind fun r66=>
(D.un .not r66).bind fun x67=>
 D.truth x67)).bind fun b68=>
(D.truth (D.bool b68)).bind fun b69=>
 if b69 then(some (D.bool false)) else((D.asSl a0).bind fun l70=>
(D.natOf x54).bind fun i71=>
(D.cut l70 0 i71).bind fun l72=>
(call 11 [(D.sl l72)]).bind fun r73=>
(D.tupAt r73 0).bind fun x74=>
(D.tupAt r73 1).bind fun x75=>
(call 10 []).bind fun r76=>
(D.truth r76).bind fun b77=>
(if b77 then((D.truth (D.bool (!(D.beq x75 (D.int .i64 0))))).bind fun b78=>
 if b78 then(some true) else((call 23 [x74]).bind fun r79=>
(call 23 [x6]).bind fun r80=>
(call 32 [r79,r80]).bind fun r81=>
(D.bin .leq r81 (D.int .i64 0)).bind fun x82=>
 D.truth x82)) else(some false)).bind fun b83=>
 some (D.bool b83))) else none) else none))))
theorem L6{lp}(hlp:az lp):ae 6 (m2 (F6 lp)):=bc (fn:=Tryz.f6) (ann:=A6) hlp (by kernel_rfl) (by kernel_rfl) (fun call a0 a1=>by kernel_rfl)
def Mo:Ann:=(.two .leaf (.two .leaf (.two .leaf (.two .leaf (.two .leaf (.two .leaf (.two .leaf (.two (.reg [] 25) (.two .leaf (.two .leaf (.two .leaf (.two .leaf (.two (.reg [] 25) .leaf)))))))))))))
theorem MM{lp}(hlp:az lp):ae 10 (jA lp 10 Tryz.f10 Mo):=eu hlp (by kernel_rfl) (by kernel_rfl)
def Ov:Ann:=(.two .leaf (.two .leaf (.two (.two .leaf (.two (.loop ⟨[(2,.same (.ptr K3 4098 [])),(24,.dv (Ty.int .i64))],[(4098,.one K3 (.st [K2] [.ow K1]))],[0,22,23]⟩ [(.ret,⟨[(2,.same (.ptr K3 4098 [])),(3,.dv (Ty.int .i64))],[(4098,.one K3 (.st [K2] [.ow K1]))],[]⟩),(.exit 0,⟨[(2,.same (.ptr K3 4098 []))],[(4098,.one K3 (.st [K2] [.ow K1]))],[0]⟩)] (.two .leaf (.two .leaf (.two (.two (.two .leaf (.two .leaf (.two (.loop ⟨[(2,.same (.ptr K3 4098 [])),(29,.dv (Ty.int .i64))],[(4098,.one K3 (.st [K2] [.ow K1]))],[0,22,23,24,28]⟩ [(.ret,⟨[(2,.same (.ptr K3 4098 [])),(3,.dv (Ty.int .i64))],[(4098,.one K3 (.st [K2] [.ow K1]))],[]⟩),(.exit 2,⟨[(2,.same (.ptr K3 4098 []))],[(4098,.one K3 (.st [K2] [.ow K1]))],[0,22,23,24]⟩)] .leaf) .leaf))) .leaf) .leaf)))) .leaf)) (.two .leaf (.two .leaf (.two .leaf (.two .leaf (.two .leaf (.two (.two .leaf (.two (.loop ⟨[(2,.same (.ptr K3 4098 [])),(10,.same (.mem Ty.bool 36919)),(58,.dv (Ty.int .i64))],[(4098,.one K3 (.st [K2] [.ow K1])),(36919,.many Ty.bool)],[8,56,57]⟩ [(.exit 4,⟨[(2,.same (.ptr K3 4098 [])),(10,.same (.mem Ty.bool 36919))],[(4098,.one K3 (.st [K2] [.ow K1])),(36919,.many Ty.bool)],[8]⟩)] (.two .leaf (.two .leaf (.two (.two (.two .leaf (.two .leaf (.two (.loop ⟨[(2,.same (.ptr K3 4098 [])),(10,.same (.mem Ty.bool 36919)),(66,.dv (Ty.int .i64))],[(4098,.one K3 (.st [K2] [.ow K1])),(36919,.many Ty.bool)],[8,56,57,58,64,65]⟩ [(.exit 6,⟨[(2,.same (.ptr K3 4098 [])),(10,.same (.mem Ty.bool 36919))],[(4098,.one K3 (.st [K2] [.ow K1])),(36919,.many Ty.bool)],[8,56,57,58]⟩)] .leaf) .leaf))) .leaf) .leaf)))) .leaf)) (.two .leaf (.two (.two .leaf (.two (.loop ⟨[(2,.same (.ptr K3 4098 [])),(10,.same (.mem Ty.bool 36919)),(15,.same (.ptr K3 49167 [])),(77,.dv (Ty.int .i64))],[(4098,.one K3 (.st [K2] [.ow K1])),(36919,.many Ty.bool),(49167,.one K3 (.st [K2] [.ow K1]))],[75,76]⟩ [(.exit 8,⟨[(2,.same (.ptr K3 4098 [])),(15,.same (.ptr K3 49167 []))],[(4098,.one K3 (.st [K2] [.ow K1])),(49167,.one K3 (.st [K2] [.ow K1]))],[]⟩)] (.two .leaf (.two .leaf (.cut [(.normal,⟨[(2,.same (.ptr K3 4098 [])),(10,.same (.mem Ty.bool 36919)),(15,.same (.ptr K3 49167 []))],[(4098,.one K3 (.st [K2] [.ow K1])),(36919,.many Ty.bool),(49167,.one K3 (.st [K2] [.ow K1]))],[75,76,77]⟩)] [75,76,77] [] .leaf .leaf)))) .leaf)) .leaf)))))))))))
noncomputable def GP(lp:Lp)(call:Nat->List D->Option D)(a0:D):Option D:=
(D.asSl a0).bind fun l1=>
(D.bin .gtr (D.int .i64 (l1.length)) (D.int .i64 64)).bind fun x2=>
(D.truth x2).bind fun b3=>
 if b3 then(some (D.tup [(D.st [(D.sl [])]),(D.int .i64 2)])) else((D.asSl a0).bind fun l4=>
(lp (β:=Nat×List D) (fun(v5:List D)=>
(D.bin .lss (gx v5 0) (D.int .i64 (l4.length))).bind fun x6=>
(D.truth x6).bind fun b7=>
 if b7 then((D.asSl a0).bind fun l8=>
(D.idx (gx v5 0) (l8.length)).bind fun i9=>
(l8[i9]?).bind fun x10=>
(lp (β:=Nat×List D) (fun(v11:List D)=>
(D.bin .lss (gx v11 0) (D.int .i64 3)).bind fun x12=>
(D.truth x12).bind fun b13=>
 if b13 then((D.idx (gx v11 0) 3).bind fun i14=>
(D.fld x10 i14).bind fun x15=>
(D.bin .gtr x15 (D.int .i64 262144)).bind fun x16=>
(D.truth x16).bind fun b17=>
(if b17 then(some true) else((D.bin .lss x15 (D.int .i64 (-262144))).bind fun x18=>
 D.truth x18)).bind fun b19=>
(D.truth (D.bool b19)).bind fun b20=>
 if b20 then(some (Sum.inr (0,[(D.int .i64 1),(D.sl [])]))) else((D.bin .add (gx v11 0) (D.int .i64 1)).bind fun x21=>
 some (Sum.inl [x21,(D.sl ((gx v11 1).els))]))) else(some (Sum.inr (1,[(D.sl ((gx v11 1).els))])))) [(D.int .i64 0),(D.sl ((gx v5 1).els))]).bind fun r22=>
 if r22.1=0 then(some (Sum.inr (0,[(gx r22.2 0),(D.sl ((gx r22.2 1).els))]))) else((D.bin .add (gx v5 0) (D.int .i64 1)).bind fun x23=>
 some (Sum.inl [x23,(D.sl ((gx r22.2 0).els))]))) else(some (Sum.inr (1,[(D.sl ((gx v5 1).els))])))) [(D.int .i64 0),(D.sl [])]).bind fun r24=>
 if r24.1=0 then(some (D.tup [(D.st [(D.sl ((gx r24.2 1).els))]),(gx r24.2 0)])) else((call 44 [a0]).bind fun r25=>
(call 45 [r25]).bind fun r26=>
(D.asSl r26).bind fun l27=>
(D.bin .lss (D.int .i64 (l27.length)) (D.int .i64 4)).bind fun x28=>
(D.truth x28).bind fun b29=>
 if b29 then(some (D.tup [(D.st [(D.sl [])]),(D.int .i64 120)])) else((D.asSl r26).bind fun l30=>
(D.bin .gtr (D.int .i64 (l30.length)) (D.int .i64 64)).bind fun x31=>
(D.truth x31).bind fun b32=>
 if b32 then(some (D.tup [(D.st [(D.sl [])]),(D.int .i64 2)])) else((D.asSl r25).bind fun l33=>
(D.natOf (D.int .i64 (l33.length))).bind fun i34=>
 if i34<=1073741824 then((D.asSl r26).bind fun l35=>
(lp (β:=Nat×List D) (fun(v36:List D)=>
(D.bin .lss (gx v36 0) (D.int .i64 (l35.length))).bind fun x37=>
(D.truth x37).bind fun b38=>
 if b38 then((D.asSl r26).bind fun l39=>
(D.idx (gx v36 0) (l39.length)).bind fun i40=>
(l39[i40]?).bind fun x41=>
(call 46 [r25,x41]).bind fun r42=>
(D.asSl r42).bind fun l43=>
(lp (β:=Nat×List D) (fun(v44:List D)=>
(D.bin .lss (gx v44 0) (D.int .i64 (l43.length))).bind fun x45=>
(D.truth x45).bind fun b46=>
 if b46 then((D.asSl r42).bind fun l47=>
(D.idx (gx v44 0) (l47.length)).bind fun i48=>
(l47[i48]?).bind fun x49=>
(D.idx x49 (List.length ((gx v44 2).els))).bind fun i50=>
(((gx v44 2).els)[i50]?).bind fun x51=>
(D.bin .add (gx v44 0) (D.int .i64 1)).bind fun x52=>
 some (Sum.inl [x52,(D.sl ((gx v44 1).els)),(D.sl (List.set ((gx v44 2).els) i50 (D.bool true)))])) else(some (Sum.inr (0,[(D.sl ((gx v44 1).els)),(D.sl ((gx v44 2).els))])))) [(D.int .i64 0),(D.sl ((gx v36 1).els)),(D.sl ((gx v36 2).els))]).bind fun r53=>
(D.bin .add (gx v36 0) (D.int .i64 1)).bind fun x54=>
 some (Sum.inl [x54,(D.sl ((gx r53.2 0).els)),(D.sl ((gx r53.2 1).els))])) else(some (Sum.inr (0,[(D.sl ((gx v36 1).els)),(D.sl ((gx v36 2).els))])))) [(D.int .i64 0),(D.sl ((gx r24.2 0).els)),(D.sl (List.replicate i34 (D.bool false)))]).bind fun r55=>
(D.asSl r25).bind fun l56=>
(lp (β:=Nat×List D) (fun(v57:List D)=>
(D.bin .lss (gx v57 0) (D.int .i64 (l56.length))).bind fun x58=>
(D.truth x58).bind fun b59=>
 if b59 then(((D.asSl r25).bind fun l60=>
(D.idx (gx v57 0) (l60.length)).bind fun i61=>
(l60[i61]?).bind fun x62=>
(D.idx (gx v57 0) (List.length ((gx v57 2).els))).bind fun i63=>
(((gx v57 2).els)[i63]?).bind fun x64=>
(D.truth x64).bind fun b65=>
 if b65 then(if List.length ((gx v57 3).els)+List.length [x62]<=1073741824 then(some (0,[(D.sl ((gx v57 1).els)),(D.sl ((gx v57 2).els)),(D.sl (((gx v57 3).els)++[x62]))])) else none) else(some (0,[(D.sl ((gx v57 1).els)),(D.sl ((gx v57 2).els)),(D.sl ((gx v57 3).els))]))).bind fun(r66:Nat×List D)=>
(D.bin .add (gx v57 0) (D.int .i64 1)).bind fun x67=>
 some (Sum.inl [x67,(D.sl ((gx r66.2 0).els)),(D.sl ((gx r66.2 1).els)),(D.sl ((gx r66.2 2).els))])) else(some (Sum.inr (0,[(D.sl ((gx v57 1).els)),(D.sl ((gx v57 3).els))])))) [(D.int .i64 0),(D.sl ((gx r55.2 0).els)),(D.sl ((gx r55.2 1).els)),(D.sl [])]).bind fun r68=>
 some (D.tup [(D.st [(D.sl ((gx r68.2 1).els))]),(D.int .i64 0)])) else none))))
theorem Oj{lp}(hlp:az lp):ae 11 (m1 (GP lp)):=bK (fn:=Tryz.f11) (ann:=Ov) hlp (by kernel_rfl) (by kernel_rfl) (fun call a0=>by kernel_rfl)
def N9:Ann:=(.two .leaf (.two .leaf (.two (.two .leaf (.two (.loop ⟨[(5,.dv (Ty.int .i64))],[],[0,1]⟩ [(.ret,⟨[(4,.dv Ty.bool)],[],[]⟩),(.exit 0,⟨[],[],[]⟩)] (.two .leaf (.two (.two (.two (.reg [] 8) .leaf) .leaf) .leaf))) .leaf)) .leaf)))
noncomputable def Id(lp:Lp)(call:Nat->List D->Option D)(a0:D)(a1:D):Option D:=
(D.asSl a0).bind fun l1=>
(D.asSl a1).bind fun l2=>
(D.truth (D.bool (!(D.beq (D.int .i64 (l1.length)) (D.int .i64 (l2.length)))))).bind fun b3=>
 if b3 then(some (D.bool false)) else((lp (β:=Nat×List D) (fun(v4:List D)=>
(D.asSl a0).bind fun l5=>
(D.bin .lss (gx v4 0) (D.int .i64 (l5.length))).bind fun x6=>
(D.truth x6).bind fun b7=>
 if b7 then((D.asSl a0).bind fun l8=>
(D.idx (gx v4 0) (l8.length)).bind fun i9=>
(l8[i9]?).bind fun x10=>
(D.asSl a1).bind fun l11=>
(D.idx (gx v4 0) (l11.length)).bind fun yX=>
(l11[yX]?).bind fun x13=>
(D.truth (D.bool (!(D.beq x10 x13)))).bind fun b14=>
 if b14 then(some (Sum.inr (0,[(D.bool false)]))) else((D.bin .add (gx v4 0) (D.int .i64 1)).bind fun x15=>
 some (Sum.inl [x15]))) else(some (Sum.inr (1,[])))) [(D.int .i64 0)]).bind fun r16=>
 if r16.1=0 then(some (gx r16.2 0)) else(some (D.bool true)))
theorem NZ{lp}(hlp:az lp):ae 13 (m2 (Id lp)):=bc (fn:=Tryz.f13) (ann:=N9) hlp (by kernel_rfl) (by kernel_rfl) (fun call a0 a1=>by kernel_rfl)
theorem Ox{lp}(hlp:az lp):ae 14 (jA lp 14 Tryz.f14 .leaf):=eu hlp (by kernel_rfl) (by kernel_rfl)
def Mg:Ann:=(.two .leaf (.two .leaf (.two (.two .leaf (.two (.loop ⟨[(5,.dv (Ty.int .i64))],[],[0,1]⟩ [(.ret,⟨[(4,.dv Ty.bool)],[],[]⟩),(.exit 0,⟨[],[],[]⟩)] (.two .leaf (.two (.two (.two .leaf (.two .leaf (.two (.loop ⟨[(6,.dv (Ty.int .i64))],[],[0,1,5]⟩ [(.ret,⟨[(4,.dv Ty.bool)],[],[]⟩),(.exit 2,⟨[],[],[0,1,5]⟩)] (.two .leaf (.two (.two (.two (.reg [] 16) .leaf) .leaf) .leaf))) .leaf))) .leaf) .leaf))) .leaf)) .leaf)))
theorem N5{lp}(hlp:az lp):ae 17 (jA lp 17 Tryz.f17 Mg):=eu hlp (by kernel_rfl) (by kernel_rfl)
def N7:Ann:=(.two .leaf (.two .leaf (.two (.two .leaf (.two (.loop ⟨[(1,.same (.ptr K3 4097 [])),(3,.ow K6),(10,.dv (Ty.int .i64))],[(4097,.keep K3 1)],[8,9]⟩ [(.exit 0,⟨[(3,.ow K6)],[],[]⟩)] (.two .leaf (.two .leaf (.two (.two (.two .leaf (.reg [] 11)) .leaf) .leaf)))) .leaf)) .leaf)))
noncomputable def Ir(lp:Lp)(call:Nat->List D->Option D)(a0:D):Option D:=
(D.get a0 [0]).bind fun x1=>
(call 45 [x1]).bind fun r2=>
(D.asSl r2).bind fun l3=>
(lp (β:=Nat×List D) (fun(v4:List D)=>
(D.bin .lss (gx v4 1) (D.int .i64 (l3.length))).bind fun x5=>
(D.truth x5).bind fun b6=>
 if b6 then((D.asSl r2).bind fun l7=>
(D.idx (gx v4 1) (l7.length)).bind fun i8=>
(l7[i8]?).bind fun x9=>
(D.get x9 [0]).bind fun x10=>
(D.get x9 [1]).bind fun x11=>
(D.get a0 [0]).bind fun x12=>
(call 46 [x12,x9]).bind fun r13=>
 if List.length ((gx v4 0).els)+List.length [(D.st [x10,x11,r13])]<=1073741824 then((D.bin .add (gx v4 1) (D.int .i64 1)).bind fun x14=>
 some (Sum.inl [(D.sl (((gx v4 0).els)++[(D.st [x10,x11,r13])])),x14])) else none) else(some (Sum.inr (0,[(D.sl ((gx v4 0).els))])))) [(D.sl []),(D.int .i64 0)]).bind fun r15=>
 some (D.sl ((gx r15.2 0).els))
theorem OI{lp}(hlp:az lp):ae 18 (m1 (Ir lp)):=bK (fn:=Tryz.f18) (ann:=N7) hlp (by kernel_rfl) (by kernel_rfl) (fun call a0=>by kernel_rfl)
def Me:Ann:=(.two .leaf (.two .leaf (.two (.two .leaf (.two (.loop ⟨[(5,.dv (Ty.int .i64))],[],[0,1]⟩ [(.ret,⟨[(4,.dv Ty.bool)],[],[]⟩),(.exit 0,⟨[],[],[]⟩)] (.two .leaf (.two (.two (.two (.reg [] 8) .leaf) .leaf) .leaf))) .leaf)) .leaf)))
theorem MK{lp}(hlp:az lp):ae 20 (jA lp 20 Tryz.f20 Me):=eu hlp (by kernel_rfl) (by kernel_rfl)
def Nh:Ann:=(.two .leaf (.two .leaf (.two (.regI [] 3 (.two (.two .leaf (.two .leaf (.two (.loop ⟨[(1,.same (.clo 56 [(.ptr ay 8195 [])])),(2,.same (.ptr K3 20482 [])),(11,.dv (Ty.int .i64))],[(4097,.one K3 (.dv K3)),(4098,.one ay (.dv ay)),(8195,.one ay (.dv ay)),(20482,.keep K3 2)],[9,10]⟩ [(.exit 0,⟨[],[(4097,.one K3 (.dv K3)),(4098,.one ay (.dv ay)),(8195,.one ay (.dv ay))],[]⟩)] (.two .leaf (.two .leaf (.two (.two (.two .leaf (.two .leaf (.two (.loop ⟨[(1,.same (.clo 56 [(.ptr ay 8195 [])])),(2,.same (.ptr K3 20482 [])),(5,.same (.ptr K6 36869 [])),(6,.dv (Ty.int .i64))],[(4097,.one K3 (.dv K3)),(4098,.one ay (.dv ay)),(8195,.one ay (.dv ay)),(20482,.keep K3 2),(36869,.keep K6 5)],[9,10,11]⟩ [(.exit 2,⟨[(1,.same (.clo 56 [(.ptr ay 8195 [])])),(2,.same (.ptr K3 20482 []))],[(4097,.one K3 (.dv K3)),(4098,.one ay (.dv ay)),(8195,.one ay (.dv ay)),(20482,.keep K3 2)],[9,10,11]⟩)] (.two .leaf (.two (.two (.two (.reg [] 29) (.regI [] 10 (.two .leaf .leaf))) .leaf) .leaf))) .leaf))) .leaf) .leaf)))) .leaf))) .leaf)) .leaf)))
noncomputable def H4(lp:Lp)(call:Nat->List D->Option D)(a0:D):Option D:=
(call 54 [(D.int .i64 0)]).bind fun r1=>
(call 18 [a0]).bind fun r2=>
(D.asSl r2).bind fun l3=>
(lp (β:=Nat×List D) (fun(v4:List D)=>
(D.bin .lss (gx v4 0) (D.int .i64 (l3.length))).bind fun x5=>
(D.truth x5).bind fun b6=>
 if b6 then((D.asSl r2).bind fun l7=>
(D.idx (gx v4 0) (l7.length)).bind fun i8=>
(l7[i8]?).bind fun x9=>
(lp (β:=Nat×List D) (fun(v10:List D)=>
(D.get x9 [2]).bind fun x11=>
(D.asSl x11).bind fun l12=>
(D.bin .lss (gx v10 0) (D.int .i64 (l12.length))).bind fun x13=>
(D.truth x13).bind fun b14=>
 if b14 then((D.get a0 [0]).bind fun x15=>
(D.get x9 [2]).bind fun x16=>
(D.asSl x16).bind fun l17=>
(D.idx (D.int .i64 0) (l17.length)).bind fun i18=>
(l17[i18]?).bind fun x19=>
(D.asSl x15).bind fun l20=>
(D.idx x19 (l20.length)).bind fun i21=>
(l20[i21]?).bind fun x22=>
(D.get a0 [0]).bind fun x23=>
(D.get x9 [2]).bind fun x24=>
(D.bin .sub (gx v10 0) (D.int .i64 1)).bind fun x25=>
(D.asSl x24).bind fun l26=>
(D.idx x25 (l26.length)).bind fun i27=>
(l26[i27]?).bind fun x28=>
(D.asSl x23).bind fun l29=>
(D.idx x28 (l29.length)).bind fun i30=>
(l29[i30]?).bind fun x31=>
(D.get a0 [0]).bind fun x32=>
(D.get x9 [2]).bind fun x33=>
(D.asSl x33).bind fun l34=>
(D.idx (gx v10 0) (l34.length)).bind fun i35=>
(l34[i35]?).bind fun x36=>
(D.asSl x32).bind fun l37=>
(D.idx x36 (l37.length)).bind fun i38=>
(l37[i38]?).bind fun x39=>
(call 117 [x22,x31]).bind fun r40=>
(call 91 [r40,x39]).bind fun r41=>
(call 57 [(gx v10 3),r41]).bind fun r42=>
(D.bin .add (gx v10 0) (D.int .i64 1)).bind fun x43=>
 some (Sum.inl [x43,(gx v10 1),(gx v10 2),r42])) else(some (Sum.inr (0,[(gx v10 1),(gx v10 2),(gx v10 3)])))) [(D.int .i64 2),(gx v4 1),(gx v4 2),(gx v4 3)]).bind fun r44=>
(D.bin .add (gx v4 0) (D.int .i64 1)).bind fun x45=>
 some (Sum.inl [x45,(gx r44.2 0),(gx r44.2 1),(gx r44.2 2)])) else(some (Sum.inr (0,[(gx v4 1),(gx v4 2),(gx v4 3)])))) [(D.int .i64 0),a0,(D.st [(D.bool false),(D.bool false),(aC aP)]),r1]).bind fun r46=>
 some (gx r46.2 2)
theorem MA{lp}(hlp:az lp):ae 23 (m1 (H4 lp)):=bK (fn:=Tryz.f23) (ann:=Nh) hlp (by kernel_rfl) (by kernel_rfl) (fun call a0=>by kernel_rfl)
def Mk:Ann:=(.two .leaf (.two .leaf (.two (.regI [] 3 (.two (.two .leaf (.two .leaf (.two (.loop ⟨[(1,.same (.clo 60 [(.ptr jB 8195 [])])),(2,.same (.ptr K3 20482 [])),(11,.dv (Ty.int .i64))],[(4097,.one K3 (.dv K3)),(4098,.one iA (.dv iA)),(8195,.one jB (.dv jB)),(20482,.keep K3 2)],[9,10]⟩ [(.exit 0,⟨[],[(4097,.one K3 (.dv K3)),(4098,.one iA (.dv iA)),(8195,.one jB (.dv jB))],[]⟩)] (.two .leaf (.two .leaf (.two (.two (.two .leaf (.two .leaf (.two (.loop ⟨[(1,.same (.clo 60 [(.ptr jB 8195 [])])),(2,.same (.ptr K3 20482 [])),(5,.same (.ptr K6 36869 [])),(6,.dv (Ty.int .i64))],[(4097,.one K3 (.dv K3)),(4098,.one iA (.dv iA)),(8195,.one jB (.dv jB)),(20482,.keep K3 2),(36869,.keep K6 5)],[9,10,11]⟩ [(.exit 2,⟨[(1,.same (.clo 60 [(.ptr jB 8195 [])])),(2,.same (.ptr K3 20482 []))],[(4097,.one K3 (.dv K3)),(4098,.one iA (.dv iA)),(8195,.one jB (.dv jB)),(20482,.keep K3 2)],[9,10,11]⟩)] (.two .leaf (.two (.two (.two (.reg [] 29) (.regI [] 10 (.two (.two .leaf (.two .leaf (.two (.loop ⟨[(2,.same (.ptr jB 8195 [])),(3,.same (.ptr ay 65539 [])),(4,.same (.ptr lT 65540 [])),(6,.dv (Ty.int .i64))],[(4097,.one K3 (.dv K3)),(4098,.one iA (.dv iA)),(8195,.one jB (.dv jB)),(20482,.one K3 (.dv K3)),(36869,.one K6 (.dv K6)),(53255,.one lT (.dv lT)),(65539,.keep ay 3),(65540,.keep lT 4)],[]⟩ [(.exit 0,⟨[],[(4097,.one K3 (.dv K3)),(4098,.one iA (.dv iA)),(8195,.one jB (.dv jB)),(20482,.one K3 (.dv K3)),(36869,.one K6 (.dv K6)),(53255,.one lT (.dv lT))],[]⟩)] (.two .leaf (.two .leaf (.two (.two (.two .leaf (.reg [] 23)) .leaf) .leaf)))) .leaf))) .leaf))) .leaf) .leaf))) .leaf))) .leaf) .leaf)))) .leaf))) .leaf)) (.two (.reg [] 5) (.two (.two .leaf (.two (.loop ⟨[(2,.same (.ptr iA 4098 [])),(3,.same (.ptr jB 8195 [])),(4,.same (.ptr ay 36868 [])),(13,.dv (Ty.int .i64))],[(4098,.one iA (.dv iA)),(8195,.keep jB 3),(36868,.keep ay 4)],[]⟩ [(.exit 0,⟨[(2,.same (.ptr iA 4098 []))],[(4098,.one iA (.dv iA))],[]⟩)] (.two .leaf (.two .leaf (.two (.two (.two .leaf (.reg [] 7)) .leaf) .leaf)))) .leaf)) .leaf)))))
theorem NG{lp}(hlp:az lp):ae 25 (jA lp 25 Tryz.f25 Mk):=eu hlp (by kernel_rfl) (by kernel_rfl)
def Ma:Ann:=(.two .leaf (.two .leaf (.two (.two .leaf (.two (.loop ⟨[(2,.same (.ptr iW 4098 [])),(3,.same (.ptr iW 4099 [])),(5,.dv (Ty.int .i64))],[(4098,.keep iW 2),(4099,.keep iW 3)],[]⟩ [(.ret,⟨[(4,.dv Ty.bool)],[],[]⟩),(.exit 0,⟨[],[],[]⟩)] (.two .leaf (.two (.two (.two (.reg [] 10) .leaf) .leaf) .leaf))) .leaf)) .leaf)))
theorem M6{lp}(hlp:az lp):ae 27 (jA lp 27 Tryz.f27 Ma):=eu hlp (by kernel_rfl) (by kernel_rfl)
def Mq:Ann:=(.two .leaf (.two .leaf (.two (.regI [] 3 (.two (.two .leaf (.two .leaf (.two (.loop ⟨[(1,.same (.clo 67 [(.ptr jV 8195 [])])),(2,.same (.ptr K3 20482 [])),(11,.dv (Ty.int .i64))],[(4097,.one K3 (.dv K3)),(4098,.one iW (.st [(Ty.int .i64),(Ty.int .i64),rb] [.dv (Ty.int .i64),.dv (Ty.int .i64),.ow cN])),(8195,.one jV (.dv jV)),(20482,.keep K3 2)],[9,10]⟩ [(.exit 0,⟨[],[(4097,.one K3 (.dv K3)),(4098,.one iW (.st [(Ty.int .i64),(Ty.int .i64),rb] [.dv (Ty.int .i64),.dv (Ty.int .i64),.ow cN])),(8195,.one jV (.dv jV))],[]⟩)] (.two .leaf (.two .leaf (.two (.two (.two .leaf (.two .leaf (.two (.loop ⟨[(1,.same (.clo 67 [(.ptr jV 8195 [])])),(2,.same (.ptr K3 20482 [])),(5,.same (.ptr K6 36869 [])),(6,.dv (Ty.int .i64))],[(4097,.one K3 (.dv K3)),(4098,.one iW (.st [(Ty.int .i64),(Ty.int .i64),rb] [.dv (Ty.int .i64),.dv (Ty.int .i64),.ow cN])),(8195,.one jV (.dv jV)),(20482,.keep K3 2),(36869,.keep K6 5)],[9,10,11]⟩ [(.exit 2,⟨[(1,.same (.clo 67 [(.ptr jV 8195 [])])),(2,.same (.ptr K3 20482 []))],[(4097,.one K3 (.dv K3)),(4098,.one iW (.st [(Ty.int .i64),(Ty.int .i64),rb] [.dv (Ty.int .i64),.dv (Ty.int .i64),.ow cN])),(8195,.one jV (.dv jV)),(20482,.keep K3 2)],[9,10,11]⟩)] (.two .leaf (.two (.two (.two (.reg [] 29) (.regI [] 10 (.two (.two .leaf (.two .leaf (.two (.loop ⟨[(2,.same (.ptr jV 8195 [])),(3,.same (.ptr ay 65539 [])),(4,.same (.ptr lT 65540 [])),(10,.dv (Ty.int .i64))],[(4097,.one K3 (.dv K3)),(4098,.one iW (.st [(Ty.int .i64),(Ty.int .i64),rb] [.dv (Ty.int .i64),.dv (Ty.int .i64),.ow cN])),(8195,.one jV (.dv jV)),(20482,.one K3 (.dv K3)),(36869,.one K6 (.dv K6)),(53255,.one lT (.dv lT)),(65539,.keep ay 3),(65540,.keep lT 4)],[]⟩ [(.exit 0,⟨[],[(4097,.one K3 (.dv K3)),(4098,.one iW (.st [(Ty.int .i64),(Ty.int .i64),rb] [.dv (Ty.int .i64),.dv (Ty.int .i64),.ow cN])),(8195,.one jV (.dv jV)),(20482,.one K3 (.dv K3)),(36869,.one K6 (.dv K6)),(53255,.one lT (.dv lT))],[]⟩)] (.two .leaf (.two .leaf (.two (.two (.two .leaf (.two .leaf (.two (.loop ⟨[(2,.same (.ptr jV 8195 [])),(3,.same (.ptr ay 65539 [])),(4,.same (.ptr lT 65540 [])),(13,.dv (Ty.int .i64))],[(4097,.one K3 (.dv K3)),(4098,.one iW (.st [(Ty.int .i64),(Ty.int .i64),rb] [.dv (Ty.int .i64),.dv (Ty.int .i64),.ow cN])),(8195,.one jV (.dv jV)),(20482,.one K3 (.dv K3)),(36869,.one K6 (.dv K6)),(53255,.one lT (.dv lT)),(65539,.keep ay 3),(65540,.keep lT 4)],[5,10]⟩ [(.exit 2,⟨[(2,.same (.ptr jV 8195 [])),(3,.same (.ptr ay 65539 [])),(4,.same (.ptr lT 65540 []))],[(4097,.one K3 (.dv K3)),(4098,.one iW (.st [(Ty.int .i64),(Ty.int .i64),rb] [.dv (Ty.int .i64),.dv (Ty.int .i64),.ow cN])),(8195,.one jV (.dv jV)),(20482,.one K3 (.dv K3)),(36869,.one K6 (.dv K6)),(53255,.one lT (.dv lT)),(65539,.keep ay 3),(65540,.keep lT 4)],[10]⟩)] (.two .leaf (.two .leaf (.two (.two (.two .leaf (.two (.reg [] 29) (.two (.two .leaf (.two (.loop ⟨[(2,.same (.ptr jV 8195 [])),(3,.same (.ptr ay 65539 [])),(4,.same (.ptr lT 65540 [])),(7,.dv (Ty.int .i64)),(46,.dv (Ty.int .i64))],[(4097,.one K3 (.dv K3)),(4098,.one iW (.st [(Ty.int .i64),(Ty.int .i64),rb] [.dv (Ty.int .i64),.dv (Ty.int .i64),.ow cN])),(8195,.keep jV 2),(20482,.one K3 (.dv K3)),(36869,.one K6 (.dv K6)),(53255,.one lT (.dv lT)),(65539,.keep ay 3),(65540,.keep lT 4)],[5,6,10,13,45]⟩ [(.exit 4,⟨[(2,.same (.ptr jV 8195 [])),(3,.same (.ptr ay 65539 [])),(4,.same (.ptr lT 65540 [])),(7,.dv (Ty.int .i64))],[(4097,.one K3 (.dv K3)),(4098,.one iW (.st [(Ty.int .i64),(Ty.int .i64),rb] [.dv (Ty.int .i64),.dv (Ty.int .i64),.ow cN])),(8195,.keep jV 2),(20482,.one K3 (.dv K3)),(36869,.one K6 (.dv K6)),(53255,.one lT (.dv lT)),(65539,.keep ay 3),(65540,.keep lT 4)],[5,6,10,13]⟩)] (.two .leaf (.two .leaf (.two (.two (.two .leaf (.reg [] 9)) .leaf) .leaf)))) .leaf)) (.reg [] 14)))) .leaf) .leaf)))) .leaf))) .leaf) .leaf)))) .leaf))) .leaf))) .leaf) .leaf))) .leaf))) .leaf) .leaf)))) .leaf))) .leaf)) (.two (.reg [] 12) (.two .leaf (.two (.two .leaf (.two (.loop ⟨[(2,.same (.ptr iW 4098 [])),(3,.same (.ptr jV 8195 [])),(4,.same (.ptr ay 36868 [])),(5,.same (.ptr iW 40965 [])),(24,.dv (Ty.int .i64))],[(4098,.one iW (.st [(Ty.int .i64),(Ty.int .i64),rb] [.dv (Ty.int .i64),.dv (Ty.int .i64),.ow cN])),(8195,.keep jV 3),(36868,.keep ay 4),(40965,.one iW (.st [(Ty.int .i64),(Ty.int .i64),rb] [.dv (Ty.int .i64),.dv (Ty.int .i64),.ow cN]))],[]⟩ [(.exit 0,⟨[(2,.same (.ptr iW 4098 [])),(5,.same (.ptr iW 40965 []))],[(4098,.one iW (.st [(Ty.int .i64),(Ty.int .i64),rb] [.dv (Ty.int .i64),.dv (Ty.int .i64),.ow cN])),(40965,.one iW (.st [(Ty.int .i64),(Ty.int .i64),rb] [.dv (Ty.int .i64),.dv (Ty.int .i64),.ow cN]))],[]⟩)] (.two .leaf (.two .leaf (.two (.two (.two .leaf (.two .leaf (.two (.loop ⟨[(2,.same (.ptr iW 4098 [])),(3,.same (.ptr jV 8195 [])),(4,.same (.ptr ay 36868 [])),(5,.same (.ptr iW 40965 [])),(27,.dv (Ty.int .i64))],[(4098,.one iW (.st [(Ty.int .i64),(Ty.int .i64),rb] [.dv (Ty.int .i64),.dv (Ty.int .i64),.ow cN])),(8195,.keep jV 3),(36868,.keep ay 4),(40965,.one iW (.st [(Ty.int .i64),(Ty.int .i64),rb] [.dv (Ty.int .i64),.dv (Ty.int .i64),.ow cN]))],[6,24]⟩ [(.exit 2,⟨[(2,.same (.ptr iW 4098 [])),(3,.same (.ptr jV 8195 [])),(4,.same (.ptr ay 36868 [])),(5,.same (.ptr iW 40965 []))],[(4098,.one iW (.st [(Ty.int .i64),(Ty.int .i64),rb] [.dv (Ty.int .i64),.dv (Ty.int .i64),.ow cN])),(8195,.keep jV 3),(36868,.keep ay 4),(40965,.one iW (.st [(Ty.int .i64),(Ty.int .i64),rb] [.dv (Ty.int .i64),.dv (Ty.int .i64),.ow cN]))],[24]⟩)] (.two .leaf (.two .leaf (.two (.two (.two .leaf (.two .leaf (.cut [(.normal,⟨[(2,.same (.ptr iW 4098 [])),(3,.same (.ptr jV 8195 [])),(4,.same (.ptr ay 36868 [])),(5,.same (.ptr iW 40965 [])),(8,.same (.ptr ay 77832 []))],[(4098,.one iW (.st [(Ty.int .i64),(Ty.int .i64),rb] [.dv (Ty.int .i64),.dv (Ty.int .i64),.ow cN])),(8195,.keep jV 3),(36868,.keep ay 4),(40965,.one iW (.st [(Ty.int .i64),(Ty.int .i64),rb] [.dv (Ty.int .i64),.dv (Ty.int .i64),.ow cN])),(77832,.one ay (.dv ay))],[6,24,27]⟩)] [6,24,27] [8195,36868] .leaf (.reg [] 6)))) .leaf) .leaf)))) .leaf))) .leaf) .leaf)))) .leaf)) .leaf))))))
theorem Np{lp}(hlp:az lp):ae 28 (jA lp 28 Tryz.f28 Mq):=eu hlp (by kernel_rfl) (by kernel_rfl)
def MW:Ann:=(.two .leaf (.two .leaf (.two .leaf (.two (.two .leaf (.two (.loop ⟨[(3,.same (.ptr iA 4099 [])),(5,.dv (Ty.int .i64)),(15,.dv (Ty.int .i64))],[(4099,.keep iA 3)],[13,14]⟩ [(.ret,⟨[(4,.dv (Ty.int .i64))],[],[]⟩),(.exit 0,⟨[(5,.dv (Ty.int .i64))],[],[]⟩)] (.two .leaf (.two .leaf (.two (.two (.two .leaf (.two .leaf (.two .leaf (.reg [] 7)))) .leaf) .leaf)))) .leaf)) .leaf))))
noncomputable def GS(lp:Lp)(call:Nat->List D->Option D)(a0:D)(a1:D):Option D:=
(call 71 [a1]).bind fun r1=>
(D.truth r1).bind fun b2=>
 if b2 then(some (D.int .i64 (-1))) else((D.get a0 [0]).bind fun x3=>
(call 45 [x3]).bind fun r4=>
(D.asSl r4).bind fun l5=>
(lp (β:=Nat×List D) (fun(v6:List D)=>
(D.bin .lss (gx v6 1) (D.int .i64 (l5.length))).bind fun x7=>
(D.truth x7).bind fun b8=>
 if b8 then((D.asSl r4).bind fun l9=>
(D.idx (gx v6 1) (l9.length)).bind fun i10=>
(l9[i10]?).bind fun x11=>
(D.get x11 [0]).bind fun x12=>
(call 72 [x12,a1]).bind fun r13=>
(D.get r13 [0,0]).bind fun x14=>
(D.truth x14).bind fun b15=>
 if b15 then(some (Sum.inr (0,[(D.int .i64 (-1))]))) else((D.get x11 [1]).bind fun x16=>
(call 74 [x16]).bind fun r17=>
(call 73 [r17,r13]).bind fun r18=>
(D.min2 (gx v6 0) r18).bind fun x19=>
(D.bin .add (gx v6 1) (D.int .i64 1)).bind fun x20=>
 some (Sum.inl [x19,x20]))) else(some (Sum.inr (1,[(gx v6 0)])))) [(D.int .i64 1),(D.int .i64 0)]).bind fun r21=>
 if r21.1=0 then(some (gx r21.2 0)) else(some (gx r21.2 0)))
theorem NR{lp}(hlp:az lp):ae 30 (m2 (GS lp)):=bc (fn:=Tryz.f30) (ann:=MW) hlp (by kernel_rfl) (by kernel_rfl) (fun call a0 a1=>by kernel_rfl)
def OG:Ann:=(.two .leaf (.two (.reg [] 10) .leaf))
noncomputable def H9(lp:Lp)(call:Nat->List D->Option D)(a0:D):Option D:=
(D.get a0 [0]).bind fun x1=>
(call 75 [x1]).bind fun r2=>
(D.get a0 [1]).bind fun x3=>
(call 75 [x3]).bind fun r4=>
(D.get a0 [2]).bind fun x5=>
(call 75 [x5]).bind fun r6=>
 some (D.st [r2,r4,r6])
theorem MG{lp}(hlp:az lp):ae 31 (m1 (H9 lp)):=bK (fn:=Tryz.f31) (ann:=OG) hlp (by kernel_rfl) (by kernel_rfl) (fun call a0=>by kernel_rfl)
def OB:Ann:=(.two .leaf (.two .leaf (.two .leaf (.two .leaf (.two .leaf (.two .leaf (.two .leaf (.cut [(.normal,⟨[(5,.dv K5),(6,.dv K5)],[],[]⟩)] [] [] .leaf .leaf))))))))
noncomputable def Ix(lp:Lp)(call:Nat->List D->Option D)(a0:D)(a1:D):Option D:=
(call 76 [a0]).bind fun r1=>
(D.un .not r1).bind fun x2=>
(D.truth x2).bind fun b3=>
(if b3 then((call 76 [a1]).bind fun r4=>
(D.un .not r4).bind fun x5=>
 D.truth x5) else(some false)).bind fun b6=>
(D.truth (D.bool b6)).bind fun b7=>
 if b7 then(some (D.int .i64 0)) else((call 76 [a0]).bind fun r8=>
(D.un .not r8).bind fun x9=>
(D.truth x9).bind fun b10=>
 if b10 then(some (D.int .i64 (-1))) else((call 76 [a1]).bind fun r11=>
(D.un .not r11).bind fun x12=>
(D.truth x12).bind fun b13=>
 if b13 then(some (D.int .i64 1)) else((D.get a0 [1]).bind fun x14=>
(D.get a1 [1]).bind fun x15=>
(D.truth (D.bool (!(D.beq x14 x15)))).bind fun b16=>
 if b16 then((D.get a0 [1]).bind fun x17=>
(D.truth x17).bind fun b18=>
 if b18 then(some (D.int .i64 (-1))) else(some (D.int .i64 1))) else((call 77 [a0]).bind fun r19=>
(call 77 [a1]).bind fun r20=>
((D.get a0 [1]).bind fun x21=>
(D.truth x21).bind fun b22=>
 if b22 then((call 77 [a1]).bind fun r23=>
(call 77 [a0]).bind fun r24=>
 some (0,[r23,r24])) else(some (0,[r19,r20]))).bind fun(r25:Nat×List D)=>
(call 78 [(gx r25.2 0),(gx r25.2 1)]).bind fun r26=>
(call 78 [(gx r25.2 1),(gx r25.2 0)]).bind fun r27=>
(D.truth r26).bind fun b28=>
 if b28 then(some (D.int .i64 (-1))) else((D.truth r27).bind fun b29=>
 if b29 then(some (D.int .i64 1)) else(some (D.int .i64 0)))))))
theorem NY{lp}(hlp:az lp):ae 32 (m2 (Ix lp)):=bc (fn:=Tryz.f32) (ann:=OB) hlp (by kernel_rfl) (by kernel_rfl) (fun call a0 a1=>by kernel_rfl)
noncomputable def IB(lp:Lp)(call:Nat->List D->Option D)(a0:D):Option D:=
(D.bin .geq a0 (D.int .i64 0)).bind fun x1=>
(D.truth x1).bind fun b2=>
 if b2 then((D.bin .rem a0 (D.int .i64 65536)).bind fun x3=>
(D.bin .quo a0 (D.int .i64 65536)).bind fun x4=>
(D.bin .rem x4 (D.int .i64 65536)).bind fun x5=>
(D.bin .quo a0 (D.int .i64 4294967296)).bind fun x6=>
(D.bin .rem x6 (D.int .i64 65536)).bind fun x7=>
(D.bin .quo a0 (D.int .i64 281474976710656)).bind fun x8=>
(call 81 [(D.bool false),(D.sl [x3,x5,x7,x8])]).bind fun r9=>
 some r9) else((D.bin .add a0 (D.int .i64 1)).bind fun x10=>
(D.un .neg x10).bind fun x11=>
(D.bin .rem x11 (D.int .i64 65536)).bind fun x12=>
(D.bin .quo x11 (D.int .i64 65536)).bind fun x13=>
(D.bin .rem x13 (D.int .i64 65536)).bind fun x14=>
(D.bin .quo x11 (D.int .i64 4294967296)).bind fun x15=>
(D.bin .rem x15 (D.int .i64 65536)).bind fun x16=>
(D.bin .quo x11 (D.int .i64 281474976710656)).bind fun x17=>
(call 82 [(D.sl [x12,x14,x16,x17]),(D.sl [(D.int .i64 1)])]).bind fun r18=>
(call 81 [(D.bool true),r18]).bind fun r19=>
 some r19)
theorem Mz{lp}(hlp:az lp):ae 34 (m1 (IB lp)):=bK (fn:=Tryz.f34) (ann:=.leaf) hlp (by kernel_rfl) (by kernel_rfl) (fun call a0=>by kernel_rfl)
def Nf:Ann:=(.two .leaf (.two .leaf (.two .leaf (.cut [(.normal,⟨[(2,.same (.ptr ay 4098 [])),(3,.same (.ptr ay 4099 [])),(4,.same (.ptr cN 4100 [])),(5,.same (.ptr ay 12293 []))],[(4098,.keep ay 2),(4099,.keep ay 3),(4100,.keep cN 4),(12293,.one ay (.dv ay))],[]⟩)] [] [4098,4099,4100] .leaf (.two (.reg [] 7) .leaf)))))
noncomputable def Iw(lp:Lp)(call:Nat->List D->Option D)(a0:D)(a1:D):Option D:=
(call 76 [a0]).bind fun r1=>
(D.un .not r1).bind fun x2=>
(D.truth x2).bind fun b3=>
(if b3 then(some true) else((call 76 [a1]).bind fun r4=>
(D.un .not r4).bind fun x5=>
 D.truth x5)).bind fun b6=>
(D.truth (D.bool b6)).bind fun b7=>
(if b7 then(some true) else((call 83 [a1]).bind fun r8=>
 D.truth (D.bool (D.beq r8 (D.int .i64 0))))).bind fun b9=>
(D.truth (D.bool b9)).bind fun b10=>
 if b10 then((call 84 []).bind fun r11=>
 some r11) else((call 85 [a0,a1]).bind fun r12=>
((call 83 [a1]).bind fun r13=>
(D.bin .lss r13 (D.int .i64 0)).bind fun x14=>
(D.truth x14).bind fun b15=>
 if b15 then((call 86 [r12]).bind fun r16=>
 some (0,[r16])) else(some (0,[r12]))).bind fun(r17:Nat×List D)=>
(call 87 [a0,(gx r17.2 0)]).bind fun r18=>
(call 87 [a1,(gx r17.2 0)]).bind fun r19=>
 some (D.st [r18,r19]))
theorem OA{lp}(hlp:az lp):ae 37 (m2 (Iw lp)):=bc (fn:=Tryz.f37) (ann:=Nf) hlp (by kernel_rfl) (by kernel_rfl) (fun call a0 a1=>by kernel_rfl)
theorem Nz{lp}(hlp:az lp):ae 42 (jA lp 42 Tryz.f42 .leaf):=eu hlp (by kernel_rfl) (by kernel_rfl)
def Mm:Ann:=(.two .leaf (.two .leaf (.two (.two .leaf (.two (.loop ⟨[(2,.same (.ptr K3 4098 [])),(3,.same (.ptr K1 4099 [])),(5,.dv (Ty.int .i64)),(11,.dv (Ty.int .i64))],[(4098,.keep K3 2),(4099,.keep K1 3)],[9,10]⟩ [(.exit 0,⟨[(5,.dv (Ty.int .i64))],[],[]⟩)] (.two .leaf (.two .leaf (.cut [(.normal,⟨[(2,.same (.ptr K3 4098 [])),(3,.same (.ptr K1 4099 [])),(5,.dv (Ty.int .i64))],[(4098,.keep K3 2),(4099,.keep K1 3)],[9,10,11]⟩)] [9,10,11] [4098,4099] (.two (.two .leaf (.two (.reg [] 11) .leaf)) .leaf) .leaf)))) .leaf)) .leaf)))
theorem Mt{lp}(hlp:az lp):ae 43 (jA lp 43 Tryz.f43 Mm):=eu hlp (by kernel_rfl) (by kernel_rfl)
end Go.Proofs.YtjjjkojfijpeeaaGreat.Sy
end
section
set_option maxRecDepth 20000
set_option maxHeartbeats 0
set_option linter.unusedVariables false
namespace Go.Proofs.YtjjjkojfijpeeaaGreat.Sy
open Go Go.Proofs
def Om:Ann:=(.two .leaf (.two .leaf (.two (.two .leaf (.two (.loop ⟨[(2,.same (.ptr K2 4098 [])),(3,.same (.ptr dO 4099 [])),(5,.same (.ptr K5 8197 [])),(13,.dv (Ty.int .i64))],[(4098,.keep K2 2),(4099,.keep dO 3),(8197,.one K5 (.ow (Ty.int .i64)))],[11,12]⟩ [(.exit 0,⟨[(2,.same (.ptr K2 4098 [])),(3,.same (.ptr dO 4099 [])),(5,.same (.ptr K5 8197 []))],[(4098,.keep K2 2),(4099,.keep dO 3),(8197,.one K5 (.ow (Ty.int .i64)))],[]⟩)] (.two .leaf (.two .leaf (.cut [(.normal,⟨[(2,.same (.ptr K2 4098 [])),(3,.same (.ptr dO 4099 [])),(5,.same (.ptr K5 8197 []))],[(4098,.keep K2 2),(4099,.keep dO 3),(8197,.one K5 (.ow (Ty.int .i64)))],[11,12,13]⟩)] [11,12,13] [4098,4099] (.two (.two .leaf (.two (.reg [] 6) .leaf)) .leaf) .leaf)))) .leaf)) (.two .leaf (.two .leaf (.two (.two (.regI [] 6 (.two (.two .leaf (.two .leaf (.two (.two .leaf (.two (.loop ⟨[(2,.same (.ptr K2 4098 [])),(3,.same (.ptr dO 4099 [])),(6,.dv (Ty.int .i64)),(12,.dv K5),(14,.dv (Ty.int .i64))],[(4098,.keep K2 2),(4099,.keep dO 3),(8197,.one K5 (.dv K5))],[0,13]⟩ [(.exit 0,⟨[(6,.dv (Ty.int .i64))],[(4098,.keep K2 2),(4099,.keep dO 3),(8197,.one K5 (.dv K5))],[]⟩)] (.two .leaf (.two .leaf (.cut [(.normal,⟨[(2,.same (.ptr K2 4098 [])),(3,.same (.ptr dO 4099 [])),(6,.dv (Ty.int .i64))],[(4098,.keep K2 2),(4099,.keep dO 3),(8197,.one K5 (.dv K5))],[0,12,13,14]⟩)] [0,12,13,14] [4098,4099] (.two (.two .leaf (.two .leaf (.two .leaf (.two (.reg [] 20) .leaf)))) .leaf) .leaf)))) .leaf)) .leaf))) .leaf)) (.two (.loop ⟨[(5,.same (.ptr K5 8197 [])),(8,.same (.clo 102 [(.ptr K5 8197 []),(.ptr K2 4098 []),(.ptr dO 4099 [])])),(9,.ow (Ty.int .i64)),(10,.dv (Ty.int .i64))],[(4098,.keep K2 2),(4099,.keep dO 3),(8197,.keep K5 5)],[]⟩ [(.exit 2,⟨[(9,.ow (Ty.int .i64))],[],[]⟩)] (.two .leaf (.two .leaf (.regI [] 4 (.two (.two .leaf (.two .leaf (.two (.two .leaf (.two (.loop ⟨[(2,.same (.ptr K2 4098 [])),(3,.same (.ptr dO 4099 [])),(6,.dv (Ty.int .i64)),(14,.dv (Ty.int .i64))],[(4098,.keep K2 2),(4099,.keep dO 3),(8197,.keep K5 1)],[0,12,13]⟩ [(.exit 0,⟨[(6,.dv (Ty.int .i64))],[(4098,.keep K2 2),(4099,.keep dO 3),(8197,.keep K5 1)],[]⟩)] (.two .leaf (.two .leaf (.cut [(.normal,⟨[(2,.same (.ptr K2 4098 [])),(3,.same (.ptr dO 4099 [])),(6,.dv (Ty.int .i64))],[(4098,.keep K2 2),(4099,.keep dO 3),(8197,.one K5 (.dv K5))],[0,12,13,14]⟩)] [0,12,13,14] [4098,4099] (.two (.two .leaf (.two .leaf (.two .leaf (.two (.reg [] 20) .leaf)))) .leaf) .leaf)))) .leaf)) .leaf))) .leaf))))) .leaf)) .leaf))))))
noncomputable def Iq(lp:Lp)(call:Nat->List D->Option D)(a0:D)(a1:D):Option D:=
(D.asSl a0).bind fun l1=>
(lp (β:=Nat×List D) (fun(v2:List D)=>
(D.bin .lss (gx v2 0) (D.int .i64 (l1.length))).bind fun x3=>
(D.truth x3).bind fun b4=>
 if b4 then(((D.asSl a0).bind fun l5=>
(D.idx (gx v2 0) (l5.length)).bind fun i6=>
(l5[i6]?).bind fun x7=>
(D.get a1 [0]).bind fun x8=>
(call 101 [x8,x7]).bind fun r9=>
(D.get a1 [1]).bind fun x10=>
(D.truth (D.bool (D.beq r9 x10))).bind fun b11=>
 if b11 then(if List.length ((gx v2 1).els)+List.length [(gx v2 0)]<=1073741824 then(some (0,[(D.sl (((gx v2 1).els)++[(gx v2 0)]))])) else none) else(some (0,[(D.sl ((gx v2 1).els))]))).bind fun(r12:Nat×List D)=>
(D.bin .add (gx v2 0) (D.int .i64 1)).bind fun x13=>
 some (Sum.inl [x13,(D.sl ((gx r12.2 0).els))])) else(some (Sum.inr (0,[(D.sl ((gx v2 1).els))])))) [(D.int .i64 0),(D.sl [])]).bind fun r14=>
(D.idx (D.int .i64 0) (List.length ((gx r14.2 0).els))).bind fun i15=>
(((gx r14.2 0).els)[i15]?).bind fun x16=>
(D.idx (D.int .i64 0) (List.length ((gx r14.2 0).els))).bind fun i17=>
(((gx r14.2 0).els)[i17]?).bind fun x18=>
(lp (β:=Nat×List D) (fun(v19:List D)=>
(D.bin .lss (gx v19 2) (D.int .i64 (List.length ((gx r14.2 0).els)))).bind fun x20=>
(D.truth x20).bind fun b21=>
 if b21 then(((D.asSl (gx v19 1)).bind fun l22=>
(D.idx (gx v19 2) (l22.length)).bind fun GK=>
(l22[GK]?).bind fun x24=>
(D.truth (D.bool (D.beq x24 x18))).bind fun b25=>
 if b25 then(some (0,[(gx v19 0),(gx v19 3)])) else((D.bin .lss (gx v19 0) (D.int .i64 0)).bind fun x26=>
(D.truth x26).bind fun b27=>
 if b27 then(some (0,[x24,(gx v19 3)])) else((D.asSl a0).bind fun l28=>
(D.idx x24 (l28.length)).bind fun i29=>
(l28[i29]?).bind fun x30=>
(D.asSl a0).bind fun l31=>
(D.idx x18 (l31.length)).bind fun i32=>
(l31[i32]?).bind fun x33=>
(call 103 [x30,x33]).bind fun r34=>
(D.asSl a0).bind fun l35=>
(D.idx (gx v19 0) (l35.length)).bind fun i36=>
(l35[i36]?).bind fun x37=>
(D.asSl a0).bind fun l38=>
(D.idx x18 (l38.length)).bind fun i39=>
(l38[i39]?).bind fun x40=>
(call 103 [x37,x40]).bind fun r41=>
(D.get a1 [0]).bind fun x42=>
(call 104 [x42,r41,r34]).bind fun r43=>
(D.bin .lss r43 (D.int .i64 0)).bind fun x44=>
(D.truth x44).bind fun b45=>
(if b45 then(some true) else((D.truth (D.bool (D.beq r43 (D.int .i64 0)))).bind fun b46=>
 if b46 then((call 101 [r34,r34]).bind fun r47=>
(call 101 [r41,r41]).bind fun r48=>
(D.bin .gtr r47 r48).bind fun x49=>
 D.truth x49) else(some false))).bind fun b50=>
(D.truth (D.bool b50)).bind fun b51=>
 if b51 then(some (0,[x24,(gx v19 3)])) else(some (0,[(gx v19 0),(gx v19 3)]))))).bind fun(r52:Nat×List D)=>
(D.bin .add (gx v19 2) (D.int .i64 1)).bind fun x53=>
 some (Sum.inl [(gx r52.2 0),(gx v19 1),x53,(gx r52.2 1)])) else(some (Sum.inr (0,[(gx v19 0),(gx v19 3)])))) [(D.int .i64 (-1)),(D.sl ((gx r14.2 0).els)),(D.int .i64 0),(D.sl ((gx r14.2 0).els))]).bind fun r54=>
(lp (β:=Nat×List D) (fun(v55:List D)=>
(D.asSl (gx r54.2 1)).bind fun l56=>
(D.idx (D.int .i64 0) (l56.length)).bind fun i57=>
(l56[i57]?).bind fun x58=>
(D.truth (D.bool (!(D.beq (gx v55 1) x58)))).bind fun b59=>
 if b59 then(if List.length ((gx v55 0).els)+List.length [(gx v55 1)]<=1073741824 then((D.asSl (gx r54.2 1)).bind fun l60=>
(lp (β:=Nat×List D) (fun(v61:List D)=>
(D.bin .lss (gx v61 1) (D.int .i64 (l60.length))).bind fun x62=>
(D.truth x62).bind fun b63=>
 if b63 then(((D.asSl (gx r54.2 1)).bind fun l64=>
(D.idx (gx v61 1) (l64.length)).bind fun i65=>
(l64[i65]?).bind fun x66=>
(D.truth (D.bool (D.beq x66 (gx v55 1)))).bind fun b67=>
 if b67 then(some (0,[(gx v61 0),(gx r54.2 1)])) else((D.bin .lss (gx v61 0) (D.int .i64 0)).bind fun x68=>
(D.truth x68).bind fun b69=>
 if b69 then(some (0,[x66,(gx r54.2 1)])) else((D.asSl a0).bind fun l70=>
(D.idx x66 (l70.length)).bind fun i71=>
(l70[i71]?).bind fun x72=>
(D.asSl a0).bind fun l73=>
(D.idx (gx v55 1) (l73.length)).bind fun i74=>
(l73[i74]?).bind fun x75=>
(call 103 [x72,x75]).bind fun r76=>
(D.asSl a0).bind fun l77=>
(D.idx (gx v61 0) (l77.length)).bind fun i78=>
(l77[i78]?).bind fun x79=>
(D.asSl a0).bind fun l80=>
(D.idx (gx v55 1) (l80.length)).bind fun i81=>
(l80[i81]?).bind fun x82=>
(call 103 [x79,x82]).bind fun r83=>
(D.get a1 [0]).bind fun x84=>
(call 104 [x84,r83,r76]).bind fun r85=>
(D.bin .lss r85 (D.int .i64 0)).bind fun x86=>
(D.truth x86).bind fun b87=>
(if b87 then(some true) else((D.truth (D.bool (D.beq r85 (D.int .i64 0)))).bind fun b88=>
 if b88 then((call 101 [r76,r76]).bind fun r89=>
(call 101 [r83,r83]).bind fun r90=>
(D.bin .gtr r89 r90).bind fun x91=>
 D.truth x91) else(some false))).bind fun b92=>
(D.truth (D.bool b92)).bind fun b93=>
 if b93 then(some (0,[x66,(gx r54.2 1)])) else(some (0,[(gx v61 0),(gx r54.2 1)]))))).bind fun(r94:Nat×List D)=>
(D.bin .add (gx v61 1) (D.int .i64 1)).bind fun x95=>
 some (Sum.inl [(gx r94.2 0),x95])) else(some (Sum.inr (0,[(gx v61 0)])))) [(D.int .i64 (-1)),(D.int .i64 0)]).bind fun r96=>
 some (Sum.inl [(D.sl (((gx v55 0).els)++[(gx v55 1)])),(gx r96.2 0)])) else none) else(some (Sum.inr (0,[(D.sl ((gx v55 0).els))])))) [(D.sl [x16]),(gx r54.2 0)]).bind fun r97=>
 some (D.sl ((gx r97.2 0).els))
theorem Nu{lp}(hlp:az lp):ae 46 (m2 (Iq lp)):=bc (fn:=Tryz.f46) (ann:=Om) hlp (by kernel_rfl) (by kernel_rfl) (fun call a0 a1=>by kernel_rfl)
def Mc:Ann:=(.two .leaf (.two .leaf (.two (.two .leaf (.two (.loop ⟨[(13,.dv (Ty.int .i64))],[],[0,1,12]⟩ [(.ret,⟨[(4,.dv Ty.bool)],[],[]⟩),(.exit 0,⟨[],[],[]⟩)] (.two .leaf (.two .leaf (.two (.two (.two .leaf (.two (.reg [] 8) .leaf)) .leaf) .leaf)))) .leaf)) .leaf)))
theorem NQ{lp}(hlp:az lp):ae 49 (jA lp 49 Tryz.f49 Mc):=eu hlp (by kernel_rfl) (by kernel_rfl)
def Mp:Ann:=(.two .leaf (.two (.reg [] 12) .leaf))
theorem MB{lp}(hlp:az lp):ae 51 (jA lp 51 Tryz.f51 Mp):=eu hlp (by kernel_rfl) (by kernel_rfl)
def Ol:Ann:=(.two .leaf (.two .leaf (.two (.two .leaf (.two (.loop ⟨[(8,.dv (Ty.int .i64))],[],[3,6,7]⟩ [(.ret,⟨[(2,.dv (Ty.int .i64))],[],[]⟩),(.exit 0,⟨[],[],[3]⟩)] .leaf) .leaf)) .leaf)))
noncomputable def It(lp:Lp)(call:Nat->List D->Option D)(a0:D):Option D:=
(D.asSl a0).bind fun l1=>
(lp (β:=Nat×List D) (fun(v2:List D)=>
(D.bin .lss (gx v2 0) (D.int .i64 (l1.length))).bind fun x3=>
(D.truth x3).bind fun b4=>
 if b4 then((D.asSl a0).bind fun l5=>
(D.idx (gx v2 0) (l5.length)).bind fun i6=>
(l5[i6]?).bind fun x7=>
(D.truth (D.bool (!(D.beq x7 (D.int .i64 0))))).bind fun b8=>
 if b8 then(some (Sum.inr (0,[x7]))) else((D.bin .add (gx v2 0) (D.int .i64 1)).bind fun x9=>
 some (Sum.inl [x9]))) else(some (Sum.inr (1,[])))) [(D.int .i64 0)]).bind fun r10=>
 if r10.1=0 then(some (gx r10.2 0)) else(some (D.int .i64 0))
theorem OD{lp}(hlp:az lp):ae 52 (m1 (It lp)):=bK (fn:=Tryz.f52) (ann:=Ol) hlp (by kernel_rfl) (by kernel_rfl) (fun call a0=>by kernel_rfl)
noncomputable def Im(lp:Lp)(call:Nat->List D->Option D)(a0:D)(a1:D):Option D:=
(call 115 [a0]).bind fun r1=>
(call 115 [a1]).bind fun r2=>
(D.truth r1).bind fun b3=>
 if b3 then((D.truth r2).bind fun b4=>
 if b4 then(some (D.int .i64 0)) else(some (D.int .i64 (-1)))) else((D.truth r2).bind fun b5=>
 if b5 then(some (D.int .i64 1)) else((D.bin .lss a0 a1).bind fun x6=>
(D.truth x6).bind fun b7=>
 if b7 then(some (D.int .i64 (-1))) else((D.bin .gtr a0 a1).bind fun x8=>
(D.truth x8).bind fun b9=>
 if b9 then(some (D.int .i64 1)) else(some (D.int .i64 0)))))
theorem OR{lp}(hlp:az lp):ae 53 (m2 (Im lp)):=bc (fn:=Tryz.f53) (ann:=.leaf) hlp (by kernel_rfl) (by kernel_rfl) (fun call a0 a1=>by kernel_rfl)
def Oe:Ann:=(.two .leaf (.two .leaf (.cut [(.normal,⟨[(2,.same (.ptr ay 4098 [])),(3,.dv (Ty.int .u64))],[(4098,.keep ay 2)],[0]⟩)] [0] [4098] .leaf .leaf)))
noncomputable def Is(lp:Lp)(call:Nat->List D->Option D)(a0:D):Option D:=
(D.conv .u64 a0).bind fun x1=>
((D.bin .lss a0 (D.int .i64 0)).bind fun x2=>
(D.truth x2).bind fun b3=>
 if b3 then((D.un .neg x1).bind fun x4=>
 some (0,[x4])) else(some (0,[x1]))).bind fun(r5:Nat×List D)=>
(D.bin .lss a0 (D.int .i64 0)).bind fun x6=>
(D.conv .u32 (gx r5.2 0)).bind fun x7=>
(D.bin .shr (gx r5.2 0) (D.int .u64 32)).bind fun x8=>
(D.conv .u32 x8).bind fun x9=>
(call 116 [x6,(D.st (D.putParts (List.replicate 16 (D.int .u32 0)) [(0,x7),(1,x9)]))]).bind fun r10=>
 some r10
theorem MQ{lp}(hlp:az lp):ae 54 (m1 (Is lp)):=bK (fn:=Tryz.f54) (ann:=Oe) hlp (by kernel_rfl) (by kernel_rfl) (fun call a0=>by kernel_rfl)
def MC:Ann:=(.two .leaf (.two .leaf (.two .leaf (.two (.two .leaf (.two (.two (.reg [] 8) .leaf) .leaf)) (.two (.reg [] 8) .leaf)))))
noncomputable def HW(lp:Lp)(call:Nat->List D->Option D)(a0:D)(a1:D):Option D:=
(call 118 [(D.sl [a0,a1])]).bind fun r1=>
(D.un .not r1).bind fun x2=>
(D.truth x2).bind fun b3=>
 if b3 then((call 119 []).bind fun r4=>
 some r4) else((D.get a0 [1]).bind fun x5=>
(D.get a1 [1]).bind fun x6=>
(D.truth (D.bool (D.beq x5 x6))).bind fun b7=>
 if b7 then((D.get a0 [2]).bind fun x8=>
(D.get a1 [2]).bind fun x9=>
(call 120 [x8,x9]).bind fun r10=>
(D.tupAt r10 0).bind fun x11=>
(D.tupAt r10 1).bind fun x12=>
(D.un .not x12).bind fun x13=>
(D.truth x13).bind fun b14=>
 if b14 then((call 119 []).bind fun r15=>
 some r15) else((D.get a0 [1]).bind fun x16=>
(call 116 [x16,x11]).bind fun r17=>
 some r17)) else((D.get a0 [2]).bind fun x18=>
(D.get a1 [2]).bind fun x19=>
(call 121 [x18,x19]).bind fun r20=>
(D.bin .geq r20 (D.int .i64 0)).bind fun x21=>
(D.truth x21).bind fun b22=>
 if b22 then((D.get a0 [1]).bind fun x23=>
(D.get a0 [2]).bind fun x24=>
(D.get a1 [2]).bind fun x25=>
(call 122 [x24,x25]).bind fun r26=>
(call 116 [x23,r26]).bind fun r27=>
 some r27) else((D.get a1 [1]).bind fun x28=>
(D.get a1 [2]).bind fun x29=>
(D.get a0 [2]).bind fun x30=>
(call 122 [x29,x30]).bind fun r31=>
(call 116 [x28,r31]).bind fun r32=>
 some r32)))
theorem NU{lp}(hlp:az lp):ae 57 (m2 (HW lp)):=bc (fn:=Tryz.f57) (ann:=MC) hlp (by kernel_rfl) (by kernel_rfl) (fun call a0 a1=>by kernel_rfl)
def Nj:Ann:=(.two .leaf (.two .leaf (.two .leaf (.two (.reg [] 7) (.two (.two .leaf (.two (.loop ⟨[(2,.same (.ptr ay 4098 [])),(3,.same (.ptr ay 4099 [])),(4,.same (.ptr ay 4100 [])),(5,.same (.ptr xq 12293 [])),(24,.dv (Ty.int .i64))],[(4098,.keep ay 2),(4099,.keep ay 3),(4100,.keep ay 4),(12293,.one xq (.dv xq))],[7,23]⟩ [(.exit 0,⟨[(2,.same (.ptr ay 4098 [])),(3,.same (.ptr ay 4099 [])),(4,.same (.ptr ay 4100 [])),(5,.same (.ptr xq 12293 []))],[(4098,.keep ay 2),(4099,.keep ay 3),(4100,.keep ay 4),(12293,.one xq (.dv xq))],[]⟩)] (.two .leaf (.two .leaf (.two (.two (.two .leaf (.two .leaf (.two (.two .leaf (.two (.loop ⟨[(2,.same (.ptr ay 4098 [])),(3,.same (.ptr ay 4099 [])),(4,.same (.ptr ay 4100 [])),(5,.same (.ptr xq 12293 [])),(9,.dv (Ty.int .u64)),(28,.dv (Ty.int .i64))],[(4098,.keep ay 2),(4099,.keep ay 3),(4100,.keep ay 4),(12293,.one xq (.dv xq))],[7,8,23,24,27]⟩ [(.exit 2,⟨[(2,.same (.ptr ay 4098 [])),(3,.same (.ptr ay 4099 [])),(4,.same (.ptr ay 4100 [])),(5,.same (.ptr xq 12293 [])),(9,.dv (Ty.int .u64))],[(4098,.keep ay 2),(4099,.keep ay 3),(4100,.keep ay 4),(12293,.one xq (.dv xq))],[7,8,23,24]⟩)] (.two .leaf (.two .leaf (.two (.two (.two .leaf (.two (.reg [] 20) .leaf)) .leaf) .leaf)))) .leaf)) .leaf))) .leaf) .leaf)))) .leaf)) (.two .leaf (.two (.reg [] 9) .leaf)))))))
noncomputable def Ih(lp:Lp)(call:Nat->List D->Option D)(a0:D)(a1:D):Option D:=
(call 118 [(D.sl [a0,a1])]).bind fun r1=>
(D.un .not r1).bind fun x2=>
(D.truth x2).bind fun b3=>
 if b3 then((call 119 []).bind fun r4=>
 some r4) else((D.get a0 [2]).bind fun x5=>
(call 127 [x5]).bind fun r6=>
(D.get a1 [2]).bind fun x7=>
(call 127 [x7]).bind fun r8=>
(lp (β:=Nat×List D) (fun(v9:List D)=>
(D.bin .lss (gx v9 0) r6).bind fun x10=>
(D.truth x10).bind fun b11=>
 if b11 then((lp (β:=Nat×List D) (fun(v12:List D)=>
(D.bin .lss (gx v12 1) r8).bind fun x13=>
(D.truth x13).bind fun b14=>
 if b14 then((D.idx (gx v9 0) 16).bind fun i15=>
(D.get a0 [2,i15]).bind fun x16=>
(D.conv .u64 x16).bind fun x17=>
(D.idx (gx v12 1) 16).bind fun i18=>
(D.get a1 [2,i18]).bind fun x19=>
(D.conv .u64 x19).bind fun x20=>
(D.bin .mul x17 x20).bind fun x21=>
(D.bin .add (gx v9 0) (gx v12 1)).bind fun x22=>
(D.idx x22 32).bind fun GK=>
(D.get (gx v12 2) [GK]).bind fun x24=>
(D.conv .u64 x24).bind fun x25=>
(D.bin .add x21 x25).bind fun x26=>
(D.bin .add (gx v12 0) x26).bind fun x27=>
(D.bin .add (gx v9 0) (gx v12 1)).bind fun x28=>
(D.conv .u32 x27).bind fun x29=>
(D.idx x28 32).bind fun i30=>
(D.set (gx v12 2) [i30] x29).bind fun x31=>
(D.bin .shr x27 (D.int .u64 32)).bind fun x32=>
(D.bin .add (gx v12 1) (D.int .i64 1)).bind fun x33=>
 some (Sum.inl [x32,x33,x31])) else(some (Sum.inr (0,[(gx v12 0),(gx v12 2)])))) [(D.int .u64 0),(D.int .i64 0),(gx v9 1)]).bind fun r34=>
(D.bin .add (gx v9 0) r8).bind fun x35=>
(D.conv .u32 (gx r34.2 0)).bind fun x36=>
(D.idx x35 32).bind fun i37=>
(D.set (gx r34.2 1) [i37] x36).bind fun x38=>
(D.bin .add (gx v9 0) (D.int .i64 1)).bind fun x39=>
 some (Sum.inl [x39,x38])) else(some (Sum.inr (0,[(gx v9 1)])))) [(D.int .i64 0),(aC xq)]).bind fun r40=>
(match (gx r40.2 0) with
| D.st l41=>(if decide (16+16<=l41.length) then((D.truth (D.bool (!(D.beq (D.st (List.take 16 (List.drop 16 l41))) (D.st (D.putParts (List.replicate 16 (D.int .u32 0)) [])))))).bind fun b42=>
 if b42 then((call 119 []).bind fun r43=>
 some r43) else((D.get a0 [1]).bind fun x44=>
(D.get a1 [1]).bind fun x45=>
(match (gx r40.2 0) with
| D.st l46=>(if decide (0+16<=l46.length) then((call 116 [(D.bool (!(D.beq x44 x45))),(D.st (List.take 16 (List.drop 0 l46)))]).bind fun r47=>
 some r47) else none)
| _=>none))) else none)
| _=>none))
theorem M5{lp}(hlp:az lp):ae 61 (m2 (Ih lp)):=bc (fn:=Tryz.f61) (ann:=Nj) hlp (by kernel_rfl) (by kernel_rfl) (fun call a0 a1=>by kernel_rfl)
def N8:Ann:=(.two .leaf (.two .leaf (.two .leaf (.cut [(.normal,⟨[(2,.same (.ptr ay 4098 [])),(3,.same (.ptr ay 4099 [])),(4,.same (.ptr cN 4100 [])),(5,.same (.ptr ay 12293 []))],[(4098,.keep ay 2),(4099,.keep ay 3),(4100,.keep cN 4),(12293,.one ay (.dv ay))],[]⟩)] [] [4098,4099,4100] .leaf (.two (.reg [] 7) .leaf)))))
noncomputable def Ie(lp:Lp)(call:Nat->List D->Option D)(a0:D)(a1:D):Option D:=
(call 128 [a0]).bind fun r1=>
(D.un .not r1).bind fun x2=>
(D.truth x2).bind fun b3=>
(if b3 then(some true) else((call 128 [a1]).bind fun r4=>
(D.un .not r4).bind fun x5=>
 D.truth x5)).bind fun b6=>
(D.truth (D.bool b6)).bind fun b7=>
(if b7 then(some true) else((call 129 [a1]).bind fun r8=>
 D.truth (D.bool (D.beq r8 (D.int .i64 0))))).bind fun b9=>
(D.truth (D.bool b9)).bind fun b10=>
 if b10 then((call 130 []).bind fun r11=>
 some r11) else((call 131 [a0,a1]).bind fun r12=>
((call 129 [a1]).bind fun r13=>
(D.bin .lss r13 (D.int .i64 0)).bind fun x14=>
(D.truth x14).bind fun b15=>
 if b15 then((call 68 [r12]).bind fun r16=>
 some (0,[r16])) else(some (0,[r12]))).bind fun(r17:Nat×List D)=>
(call 132 [a0,(gx r17.2 0)]).bind fun r18=>
(call 132 [a1,(gx r17.2 0)]).bind fun r19=>
 some (D.st [r18,r19]))
theorem Oo{lp}(hlp:az lp):ae 62 (m2 (Ie lp)):=bc (fn:=Tryz.f62) (ann:=N8) hlp (by kernel_rfl) (by kernel_rfl) (fun call a0 a1=>by kernel_rfl)
noncomputable def Iu(lp:Lp)(call:Nat->List D->Option D)(a0:D):Option D:=
(call 118 [(D.sl [a0])]).bind fun r1=>
(D.un .not r1).bind fun x2=>
(D.truth x2).bind fun b3=>
 if b3 then((call 119 []).bind fun r4=>
 some r4) else((D.get a0 [1]).bind fun x5=>
(D.un .not x5).bind fun x6=>
(D.get a0 [2]).bind fun x7=>
(call 116 [x6,x7]).bind fun r8=>
 some r8)
theorem OK{lp}(hlp:az lp):ae 68 (m1 (Iu lp)):=bK (fn:=Tryz.f68) (ann:=.leaf) hlp (by kernel_rfl) (by kernel_rfl) (fun call a0=>by kernel_rfl)
noncomputable def Ig(lp:Lp)(call:Nat->List D->Option D)(a0:D):Option D:=
(D.get a0 [0,0,0]).bind fun x1=>
(D.truth x1).bind fun b2=>
(if b2 then(some true) else((D.get a0 [1,0,0]).bind fun x3=>
 D.truth x3)).bind fun b4=>
(D.truth (D.bool b4)).bind fun b5=>
(if b5 then(some true) else((D.get a0 [2,0,0]).bind fun x6=>
 D.truth x6)).bind fun b7=>
 some (D.bool b7)
theorem NC{lp}(hlp:az lp):ae 71 (m1 (Ig lp)):=bK (fn:=Tryz.f71) (ann:=.leaf) hlp (by kernel_rfl) (by kernel_rfl) (fun call a0=>by kernel_rfl)
def MX:Ann:=(.two .leaf (.two (.reg [] 4) .leaf))
noncomputable def Ip(lp:Lp)(call:Nat->List D->Option D)(a0:D)(a1:D):Option D:=
(call 135 [a0]).bind fun r1=>
(call 134 [r1,a1]).bind fun r2=>
 some r2
theorem MU{lp}(hlp:az lp):ae 72 (m2 (Ip lp)):=bc (fn:=Tryz.f72) (ann:=MX) hlp (by kernel_rfl) (by kernel_rfl) (fun call a0 a1=>by kernel_rfl)
def Nx:Ann:=(.two .leaf (.two (.reg [] 5) (.two .leaf (.two .leaf (.two .leaf (.two (.two (.loop ⟨[(2,.same (.ptr cN 4098 [])),(3,.same (.ptr cN 4099 [])),(7,.dv (Ty.int .i64))],[(4098,.one cN (.dv cN)),(4099,.one cN (.dv cN))],[]⟩ [(.exit 1,⟨[(7,.dv (Ty.int .i64))],[],[]⟩)] (.two (.two (.two (.reg [] 11) .leaf) (.two (.reg [] 16) (.two (.reg [] 7) .leaf))) .leaf)) .leaf) .leaf))))))
noncomputable def Ic(lp:Lp)(call:Nat->List D->Option D)(a0:D)(a1:D):Option D:=
(call 136 [a0]).bind fun r1=>
(call 136 [a1]).bind fun r2=>
(D.un .not r1).bind fun x3=>
(D.truth x3).bind fun b4=>
(if b4 then((D.un .not r2).bind fun x5=>
 D.truth x5) else(some false)).bind fun b6=>
(D.truth (D.bool b6)).bind fun b7=>
 if b7 then(some (D.int .i64 0)) else((D.un .not r1).bind fun x8=>
(D.truth x8).bind fun b9=>
 if b9 then(some (D.int .i64 (-1))) else((D.un .not r2).bind fun x10=>
(D.truth x10).bind fun b11=>
 if b11 then(some (D.int .i64 1)) else((lp (β:=Nat×List D) (fun(v12:List D)=>
(D.get (gx v12 1) [0]).bind fun x13=>
(D.get (gx v12 1) [1]).bind fun x14=>
(call 132 [x13,x14]).bind fun r15=>
(D.get (gx v12 2) [0]).bind fun x16=>
(D.get (gx v12 2) [1]).bind fun x17=>
(call 132 [x16,x17]).bind fun r18=>
(call 90 [r15,r18]).bind fun r19=>
(D.truth (D.bool (!(D.beq r19 (D.int .i64 0))))).bind fun b20=>
 if b20 then((D.bin .mul (gx v12 0) r19).bind fun x21=>
 some (Sum.inr (0,[x21]))) else((D.get (gx v12 1) [1]).bind fun x22=>
(D.get (gx v12 1) [0]).bind fun x23=>
(D.get (gx v12 1) [1]).bind fun x24=>
(call 137 [x23,x24]).bind fun r25=>
(D.get (gx v12 2) [1]).bind fun x26=>
(D.get (gx v12 2) [0]).bind fun x27=>
(D.get (gx v12 2) [1]).bind fun x28=>
(call 137 [x27,x28]).bind fun r29=>
(call 129 [r25]).bind fun r30=>
(call 129 [r29]).bind fun r31=>
(D.truth (D.bool (D.beq r30 (D.int .i64 0)))).bind fun b32=>
(if b32 then(some true) else(D.truth (D.bool (D.beq r31 (D.int .i64 0))))).bind fun b33=>
(D.truth (D.bool b33)).bind fun b34=>
 if b34 then((D.bin .sub r30 r31).bind fun x35=>
(D.bin .mul (gx v12 0) x35).bind fun x36=>
 some (Sum.inr (0,[x36]))) else((D.un .neg (gx v12 0)).bind fun x37=>
 some (Sum.inl [x37,(D.st [x22,r25]),(D.st [x26,r29])])))) [(D.int .i64 1),a0,a1]).bind fun r38=>
 some (gx r38.2 0))))
theorem Oc{lp}(hlp:az lp):ae 73 (m2 (Ic lp)):=bc (fn:=Tryz.f73) (ann:=Nx) hlp (by kernel_rfl) (by kernel_rfl) (fun call a0 a1=>by kernel_rfl)
noncomputable def H5(lp:Lp)(call:Nat->List D->Option D)(a0:D):Option D:=
(call 54 [a0]).bind fun r1=>
(call 138 [r1]).bind fun r2=>
 some r2
theorem NV{lp}(hlp:az lp):ae 74 (m1 (H5 lp)):=bK (fn:=Tryz.f74) (ann:=.leaf) hlp (by kernel_rfl) (by kernel_rfl) (fun call a0=>by kernel_rfl)
noncomputable def Ik(lp:Lp)(call:Nat->List D->Option D)(a0:D):Option D:=
(call 34 [a0]).bind fun r1=>
(call 133 []).bind fun r2=>
(call 37 [r1,r2]).bind fun r3=>
 some r3
theorem OV{lp}(hlp:az lp):ae 75 (m1 (Ik lp)):=bK (fn:=Tryz.f75) (ann:=.leaf) hlp (by kernel_rfl) (by kernel_rfl) (fun call a0=>by kernel_rfl)
noncomputable def Il(lp:Lp)(call:Nat->List D->Option D)(a0:D):Option D:=
(call 139 [a0]).bind fun r1=>
(D.truth r1).bind fun b2=>
(if b2 then((D.get a0 [0]).bind fun x3=>
(D.un .not x3).bind fun x4=>
 D.truth x4) else(some false)).bind fun b5=>
 some (D.bool b5)
theorem NB{lp}(hlp:az lp):ae 76 (m1 (Il lp)):=bK (fn:=Tryz.f76) (ann:=.leaf) hlp (by kernel_rfl) (by kernel_rfl) (fun call a0=>by kernel_rfl)
def Ow:Ann:=(.two .leaf (.two .leaf (.two (.two .leaf (.two (.loop ⟨[(1,.same (.ptr ay 4097 [])),(3,.ow (Ty.int .i64)),(4,.dv (Ty.int .i64))],[(4097,.keep ay 1)],[]⟩ [(.exit 0,⟨[(3,.ow (Ty.int .i64))],[],[]⟩)] (.two .leaf (.two (.two (.reg [] 14) .leaf) .leaf))) .leaf)) .leaf)))
noncomputable def H0(lp:Lp)(call:Nat->List D->Option D)(a0:D):Option D:=
(lp (β:=Nat×List D) (fun(v1:List D)=>
(D.bin .lss (gx v1 1) (D.int .i64 16)).bind fun x2=>
(D.truth x2).bind fun b3=>
 if b3 then((D.idx (gx v1 1) 16).bind fun i4=>
(D.get a0 [2,i4]).bind fun x5=>
(D.bin .rem x5 (D.int .u32 65536)).bind fun x6=>
(D.conv .i64 x6).bind fun x7=>
(D.idx (gx v1 1) 16).bind fun i8=>
(D.get a0 [2,i8]).bind fun x9=>
(D.bin .quo x9 (D.int .u32 65536)).bind fun x10=>
(D.conv .i64 x10).bind fun x11=>
 if List.length ((gx v1 0).els)+List.length [x7,x11]<=1073741824 then((D.bin .add (gx v1 1) (D.int .i64 1)).bind fun x12=>
 some (Sum.inl [(D.sl (((gx v1 0).els)++[x7,x11])),x12])) else none) else(some (Sum.inr (0,[(D.sl ((gx v1 0).els))])))) [(D.sl []),(D.int .i64 0)]).bind fun r13=>
(call 140 [(D.sl ((gx r13.2 0).els))]).bind fun r14=>
 some r14
theorem Nc{lp}(hlp:az lp):ae 77 (m1 (H0 lp)):=bK (fn:=Tryz.f77) (ann:=Ow) hlp (by kernel_rfl) (by kernel_rfl) (fun call a0=>by kernel_rfl)
def NK:Ann:=(.two .leaf (.two (.two .leaf (.two (.loop ⟨[(5,.dv (Ty.int .i64))],[],[0,1]⟩ [(.ret,⟨[(4,.dv Ty.bool)],[],[]⟩),(.exit 0,⟨[],[],[]⟩)] .leaf) .leaf)) .leaf))
noncomputable def Ij(lp:Lp)(call:Nat->List D->Option D)(a0:D)(a1:D):Option D:=
(D.asSl a0).bind fun l1=>
(D.asSl a1).bind fun l2=>
(D.max2 (D.int .i64 (l1.length)) (D.int .i64 (l2.length))).bind fun x3=>
(D.bin .sub x3 (D.int .i64 1)).bind fun x4=>
(lp (β:=Nat×List D) (fun(v5:List D)=>
(D.bin .geq (gx v5 0) (D.int .i64 0)).bind fun x6=>
(D.truth x6).bind fun b7=>
 if b7 then((call 141 [a0,(gx v5 0)]).bind fun r8=>
(call 141 [a1,(gx v5 0)]).bind fun r9=>
(D.truth (D.bool (!(D.beq r8 r9)))).bind fun b10=>
 if b10 then((call 141 [a0,(gx v5 0)]).bind fun r11=>
(call 141 [a1,(gx v5 0)]).bind fun r12=>
(D.bin .lss r11 r12).bind fun x13=>
 some (Sum.inr (0,[x13]))) else((D.bin .sub (gx v5 0) (D.int .i64 1)).bind fun x14=>
 some (Sum.inl [x14]))) else(some (Sum.inr (1,[])))) [x4]).bind fun r15=>
 if r15.1=0 then(some (gx r15.2 0)) else(some (D.bool false))
theorem OO{lp}(hlp:az lp):ae 78 (m2 (Ij lp)):=bc (fn:=Tryz.f78) (ann:=NK) hlp (by kernel_rfl) (by kernel_rfl) (fun call a0 a1=>by kernel_rfl)
def My:Ann:=(.two .leaf (.two .leaf (.two .leaf (.two .leaf (.two (.two .leaf (.two (.loop ⟨[(4,.same (.ptr ay 4100 [])),(6,.same (.ptr ay 16390 [])),(7,.dv (Ty.int .i64))],[(4100,.keep ay 4),(16390,.one ay (.dv ay))],[5]⟩ [(.exit 0,⟨[(4,.same (.ptr ay 4100 [])),(6,.same (.ptr ay 16390 []))],[(4100,.keep ay 4),(16390,.one ay (.dv ay))],[]⟩)] (.two .leaf (.cut [(.normal,⟨[(4,.same (.ptr ay 4100 [])),(6,.same (.ptr ay 16390 []))],[(4100,.keep ay 4),(16390,.one ay (.dv ay))],[5,7]⟩)] [5,7] [4100] (.two (.two .leaf (.two (.reg [] 15) (.reg [] 16))) .leaf) .leaf))) .leaf)) .leaf)))))
noncomputable def Iv(lp:Lp)(call:Nat->List D->Option D)(a0:D)(a1:D):Option D:=
(call 140 [a1]).bind fun r1=>
(D.asSl r1).bind fun l2=>
(D.bin .gtr (D.int .i64 (l2.length)) (D.int .i64 32)).bind fun x3=>
(D.truth x3).bind fun b4=>
 if b4 then((call 125 []).bind fun r5=>
 some r5) else((D.truth a0).bind fun b6=>
(if b6 then((D.asSl r1).bind fun l7=>
(D.bin .gtr (D.int .i64 (l7.length)) (D.int .i64 0)).bind fun x8=>
 D.truth x8) else(some false)).bind fun b9=>
(lp (β:=Nat×List D) (fun(v10:List D)=>
(D.asSl r1).bind fun l11=>
(D.bin .lss (gx v10 0) (D.int .i64 (l11.length))).bind fun x12=>
(D.truth x12).bind fun b13=>
 if b13 then(((D.bin .rem (gx v10 0) (D.int .i64 2)).bind fun x14=>
(D.truth (D.bool (D.beq x14 (D.int .i64 0)))).bind fun b15=>
 if b15 then((D.bin .quo (gx v10 0) (D.int .i64 2)).bind fun x16=>
(D.bin .quo (gx v10 0) (D.int .i64 2)).bind fun x17=>
(D.idx x17 16).bind fun i18=>
(D.get (gx v10 1) [2,i18]).bind fun x19=>
(D.asSl r1).bind fun l20=>
(D.idx (gx v10 0) (l20.length)).bind fun i21=>
(l20[i21]?).bind fun x22=>
(D.conv .u32 x22).bind fun x23=>
(D.bin .add x19 x23).bind fun x24=>
(D.idx x16 16).bind fun i25=>
(D.set (gx v10 1) [2,i25] x24).bind fun x26=>
 some (0,[x26])) else((D.bin .quo (gx v10 0) (D.int .i64 2)).bind fun x27=>
(D.bin .quo (gx v10 0) (D.int .i64 2)).bind fun x28=>
(D.idx x28 16).bind fun i29=>
(D.get (gx v10 1) [2,i29]).bind fun x30=>
(D.asSl r1).bind fun l31=>
(D.idx (gx v10 0) (l31.length)).bind fun i32=>
(l31[i32]?).bind fun x33=>
(D.conv .u32 x33).bind fun x34=>
(D.bin .mul x34 (D.int .u32 65536)).bind fun x35=>
(D.bin .add x30 x35).bind fun x36=>
(D.idx x27 16).bind fun i37=>
(D.set (gx v10 1) [2,i37] x36).bind fun x38=>
 some (0,[x38]))).bind fun(r39:Nat×List D)=>
(D.bin .add (gx v10 0) (D.int .i64 1)).bind fun x40=>
 some (Sum.inl [x40,(gx r39.2 0)])) else(some (Sum.inr (0,[(gx v10 1)])))) [(D.int .i64 0),(D.st [(D.bool false),(D.bool b9),(aC aP)])]).bind fun r41=>
 some (gx r41.2 0))
theorem Nl{lp}(hlp:az lp):ae 81 (m2 (Iv lp)):=bc (fn:=Tryz.f81) (ann:=My) hlp (by kernel_rfl) (by kernel_rfl) (fun call a0 a1=>by kernel_rfl)
def OJ:Ann:=(.two .leaf (.two .leaf (.two .leaf (.two (.two .leaf (.two (.loop ⟨[(5,.ow (Ty.int .i64)),(6,.dv (Ty.int .i64)),(7,.dv (Ty.int .i64))],[],[0,1]⟩ [(.exit 0,⟨[(5,.ow (Ty.int .i64))],[],[]⟩)] .leaf) .leaf)) .leaf))))
noncomputable def H6(lp:Lp)(call:Nat->List D->Option D)(a0:D)(a1:D):Option D:=
(lp (β:=Nat×List D) (fun(v1:List D)=>
(D.asSl a0).bind fun l2=>
(D.asSl a1).bind fun l3=>
(D.max2 (D.int .i64 (l2.length)) (D.int .i64 (l3.length))).bind fun x4=>
(D.bin .add x4 (D.int .i64 1)).bind fun x5=>
(D.bin .lss (gx v1 2) x5).bind fun x6=>
(D.truth x6).bind fun b7=>
 if b7 then((call 141 [a0,(gx v1 2)]).bind fun r8=>
(call 141 [a1,(gx v1 2)]).bind fun r9=>
(D.bin .add r8 r9).bind fun x10=>
(D.bin .add x10 (gx v1 1)).bind fun x11=>
(D.bin .rem x11 (D.int .i64 65536)).bind fun x12=>
 if List.length ((gx v1 0).els)+List.length [x12]<=1073741824 then((D.bin .quo x11 (D.int .i64 65536)).bind fun x13=>
(D.bin .add (gx v1 2) (D.int .i64 1)).bind fun x14=>
 some (Sum.inl [(D.sl (((gx v1 0).els)++[x12])),x13,x14])) else none) else(some (Sum.inr (0,[(D.sl ((gx v1 0).els))])))) [(D.sl []),(D.int .i64 0),(D.int .i64 0)]).bind fun r15=>
(call 140 [(D.sl ((gx r15.2 0).els))]).bind fun r16=>
 some r16
theorem MT{lp}(hlp:az lp):ae 82 (m2 (H6 lp)):=bc (fn:=Tryz.f82) (ann:=OJ) hlp (by kernel_rfl) (by kernel_rfl) (fun call a0 a1=>by kernel_rfl)
noncomputable def HY(lp:Lp)(call:Nat->List D->Option D)(a0:D):Option D:=
(call 76 [a0]).bind fun r1=>
(D.un .not r1).bind fun x2=>
(D.truth x2).bind fun b3=>
(if b3 then(some true) else((call 77 [a0]).bind fun r4=>
(D.asSl r4).bind fun l5=>
 D.truth (D.bool (D.beq (D.int .i64 (l5.length)) (D.int .i64 0))))).bind fun b6=>
(D.truth (D.bool b6)).bind fun b7=>
 if b7 then(some (D.int .i64 0)) else((D.get a0 [1]).bind fun x8=>
(D.truth x8).bind fun b9=>
 if b9 then(some (D.int .i64 (-1))) else(some (D.int .i64 1)))
theorem OF{lp}(hlp:az lp):ae 83 (m1 (HY lp)):=bK (fn:=Tryz.f83) (ann:=.leaf) hlp (by kernel_rfl) (by kernel_rfl) (fun call a0=>by kernel_rfl)
theorem Ou{lp}(hlp:az lp):ae 84 (jA lp 84 Tryz.f84 .leaf):=eu hlp (by kernel_rfl) (by kernel_rfl)
end Go.Proofs.YtjjjkojfijpeeaaGreat.Sy
end
section
set_option maxRecDepth 20000
set_option maxHeartbeats 0
set_option linter.unusedVariables false
namespace Go.Proofs.YtjjjkojfijpeeaaGreat.Sy
open Go Go.Proofs
def Ot:Ann:=(.two .leaf (.two .leaf (.two .leaf (.two (.two .leaf (.two (.two (.two (.loop ⟨[(4,.same (.ptr ay 4100 [])),(5,.dv (Ty.int .i64)),(7,.dv (Ty.int .i64))],[(4100,.keep ay 4)],[]⟩ [(.exit 0,⟨[(4,.same (.ptr ay 4100 [])),(5,.dv (Ty.int .i64))],[(4100,.keep ay 4)],[]⟩)] .leaf) .leaf) .leaf) .leaf)) (.two .leaf (.two .leaf (.two .leaf (.two (.two (.loop ⟨[(4,.same (.ptr ay 4100 [])),(10,.dv K5),(11,.dv K5)],[(4100,.keep ay 4)],[]⟩ [(.exit 2,⟨[(4,.same (.ptr ay 4100 [])),(10,.dv K5)],[(4100,.keep ay 4)],[]⟩)] .leaf) .leaf) .leaf))))))))
noncomputable def HP(lp:Lp)(call:Nat->List D->Option D)(a0:D)(a1:D):Option D:=
(call 124 [a0]).bind fun r1=>
(D.tupAt r1 0).bind fun x2=>
(D.tupAt r1 1).bind fun x3=>
(call 124 [a1]).bind fun r4=>
(D.tupAt r4 0).bind fun x5=>
(D.tupAt r4 1).bind fun x6=>
(D.truth x3).bind fun b7=>
(if b7 then(D.truth x6) else(some false)).bind fun b8=>
(D.truth (D.bool b8)).bind fun b9=>
 if b9 then((lp (β:=Nat×List D) (fun(v10:List D)=>
(D.truth (D.bool (!(D.beq (gx v10 1) (D.int .i64 0))))).bind fun b11=>
 if b11 then((D.bin .rem (gx v10 0) (gx v10 1)).bind fun x12=>
 some (Sum.inl [(gx v10 1),x12])) else(some (Sum.inr (0,[(gx v10 0)])))) [x2,x5]).bind fun r13=>
(call 34 [(gx r13.2 0)]).bind fun r14=>
(call 142 [r14]).bind fun r15=>
 some r15) else((call 76 [a0]).bind fun r16=>
(D.un .not r16).bind fun x17=>
(D.truth x17).bind fun b18=>
(if b18 then(some true) else((call 76 [a1]).bind fun r19=>
(D.un .not r19).bind fun x20=>
 D.truth x20)).bind fun b21=>
(D.truth (D.bool b21)).bind fun b22=>
 if b22 then((call 125 []).bind fun r23=>
 some r23) else((call 77 [a0]).bind fun r24=>
(call 77 [a1]).bind fun r25=>
(lp (β:=Nat×List D) (fun(v26:List D)=>
(D.asSl (gx v26 1)).bind fun l27=>
(D.bin .gtr (D.int .i64 (l27.length)) (D.int .i64 0)).bind fun x28=>
(D.truth x28).bind fun b29=>
 if b29 then((call 143 [(gx v26 0),(gx v26 1)]).bind fun r30=>
(D.tupAt r30 0).bind fun x31=>
(D.tupAt r30 1).bind fun x32=>
 some (Sum.inl [(gx v26 1),x32])) else(some (Sum.inr (0,[(gx v26 0)])))) [r24,r25]).bind fun r33=>
(call 81 [(D.bool false),(gx r33.2 0)]).bind fun r34=>
 some r34))
theorem NA{lp}(hlp:az lp):ae 85 (m2 (HP lp)):=bc (fn:=Tryz.f85) (ann:=Ot) hlp (by kernel_rfl) (by kernel_rfl) (fun call a0 a1=>by kernel_rfl)
def No:Ann:=(.two .leaf (.two .leaf (.two (.reg [] 6) .leaf)))
noncomputable def IA(lp:Lp)(call:Nat->List D->Option D)(a0:D):Option D:=
(call 76 [a0]).bind fun r1=>
(D.un .not r1).bind fun x2=>
(D.truth x2).bind fun b3=>
 if b3 then((call 125 []).bind fun r4=>
 some r4) else((D.get a0 [1]).bind fun x5=>
(D.un .not x5).bind fun x6=>
(call 77 [a0]).bind fun r7=>
(call 81 [x6,r7]).bind fun r8=>
 some r8)
theorem OE{lp}(hlp:az lp):ae 86 (m1 (IA lp)):=bK (fn:=Tryz.f86) (ann:=No) hlp (by kernel_rfl) (by kernel_rfl) (fun call a0=>by kernel_rfl)
def Of:Ann:=(.two .leaf (.two .leaf (.two .leaf (.two .leaf (.two .leaf (.two (.reg [] 9) (.cut [(.normal,⟨[(2,.same (.ptr ay 4098 [])),(3,.same (.ptr ay 4099 [])),(4,.same (.ptr ay 4100 [])),(9,.dv K5)],[(4098,.keep ay 2),(4099,.keep ay 3),(4100,.keep ay 4)],[]⟩)] [] [4098,4099,4100] .leaf .leaf)))))))
noncomputable def Ho(lp:Lp)(call:Nat->List D->Option D)(a0:D)(a1:D):Option D:=
(call 124 [a0]).bind fun r1=>
(D.tupAt r1 0).bind fun x2=>
(D.tupAt r1 1).bind fun x3=>
(call 124 [a1]).bind fun r4=>
(D.tupAt r4 0).bind fun x5=>
(D.tupAt r4 1).bind fun x6=>
(D.truth x3).bind fun b7=>
(if b7 then(D.truth x6) else(some false)).bind fun b8=>
(D.truth (D.bool b8)).bind fun b9=>
(if b9 then(D.truth (D.bool (!(D.beq x5 (D.int .i64 0))))) else(some false)).bind fun b10=>
(D.truth (D.bool b10)).bind fun b11=>
 if b11 then((call 144 [x2,x5]).bind fun r12=>
(call 34 [r12]).bind fun r13=>
 some r13) else((call 76 [a0]).bind fun r14=>
(D.un .not r14).bind fun x15=>
(D.truth x15).bind fun b16=>
(if b16 then(some true) else((call 76 [a1]).bind fun r17=>
(D.un .not r17).bind fun x18=>
 D.truth x18)).bind fun b19=>
(D.truth (D.bool b19)).bind fun b20=>
(if b20 then(some true) else((call 77 [a1]).bind fun r21=>
(D.asSl r21).bind fun l22=>
 D.truth (D.bool (D.beq (D.int .i64 (l22.length)) (D.int .i64 0))))).bind fun b23=>
(D.truth (D.bool b23)).bind fun b24=>
 if b24 then((call 125 []).bind fun r25=>
 some r25) else((call 77 [a0]).bind fun r26=>
(call 77 [a1]).bind fun r27=>
(call 143 [r26,r27]).bind fun r28=>
(D.tupAt r28 0).bind fun x29=>
(D.tupAt r28 1).bind fun x30=>
((D.get a0 [1]).bind fun x31=>
(D.get a1 [1]).bind fun x32=>
(D.truth (D.bool (!(D.beq x31 x32)))).bind fun b33=>
(if b33 then((D.asSl x30).bind fun l34=>
(D.bin .gtr (D.int .i64 (l34.length)) (D.int .i64 0)).bind fun x35=>
 D.truth x35) else(some false)).bind fun b36=>
(D.truth (D.bool b36)).bind fun b37=>
 if b37 then((call 82 [x29,(D.sl [(D.int .i64 1)])]).bind fun r38=>
 some (0,[r38])) else(some (0,[x29]))).bind fun(r39:Nat×List D)=>
(D.get a0 [1]).bind fun x40=>
(D.get a1 [1]).bind fun x41=>
(call 81 [(D.bool (!(D.beq x40 x41))),(gx r39.2 0)]).bind fun r42=>
 some r42))
theorem MZ{lp}(hlp:az lp):ae 87 (m2 (Ho lp)):=bc (fn:=Tryz.f87) (ann:=Of) hlp (by kernel_rfl) (by kernel_rfl) (fun call a0 a1=>by kernel_rfl)
def Nq:Ann:=(.two .leaf (.two (.reg [] 7) .leaf))
noncomputable def H1(lp:Lp)(call:Nat->List D->Option D)(a0:D)(a1:D):Option D:=
(call 118 [(D.sl [a0])]).bind fun r1=>
(call 118 [(D.sl [a1])]).bind fun r2=>
(D.un .not r1).bind fun x3=>
(D.truth x3).bind fun b4=>
(if b4 then((D.un .not r2).bind fun x5=>
 D.truth x5) else(some false)).bind fun b6=>
(D.truth (D.bool b6)).bind fun b7=>
 if b7 then(some (D.int .i64 0)) else((D.un .not r1).bind fun x8=>
(D.truth x8).bind fun b9=>
 if b9 then(some (D.int .i64 (-1))) else((D.un .not r2).bind fun x10=>
(D.truth x10).bind fun b11=>
 if b11 then(some (D.int .i64 1)) else((D.get a0 [1]).bind fun x12=>
(D.get a1 [1]).bind fun x13=>
(D.truth (D.bool (!(D.beq x12 x13)))).bind fun b14=>
 if b14 then((D.get a0 [1]).bind fun x15=>
(D.truth x15).bind fun b16=>
 if b16 then(some (D.int .i64 (-1))) else(some (D.int .i64 1))) else((D.get a0 [1]).bind fun x17=>
(D.truth x17).bind fun b18=>
 if b18 then((D.get a1 [2]).bind fun x19=>
(D.get a0 [2]).bind fun x20=>
(call 121 [x19,x20]).bind fun r21=>
 some r21) else((D.get a0 [2]).bind fun x22=>
(D.get a1 [2]).bind fun x23=>
(call 121 [x22,x23]).bind fun r24=>
 some r24)))))
theorem OP{lp}(hlp:az lp):ae 90 (m2 (H1 lp)):=bc (fn:=Tryz.f90) (ann:=Nq) hlp (by kernel_rfl) (by kernel_rfl) (fun call a0 a1=>by kernel_rfl)
def NL:Ann:=(.two .leaf (.two (.reg [] 5) .leaf))
noncomputable def Ia(lp:Lp)(call:Nat->List D->Option D)(a0:D)(a1:D):Option D:=
(call 148 [a0]).bind fun r1=>
(call 148 [a1]).bind fun r2=>
(call 147 [r1,r2]).bind fun r3=>
 some r3
theorem ME{lp}(hlp:az lp):ae 91 (m2 (Ia lp)):=bc (fn:=Tryz.f91) (ann:=NL) hlp (by kernel_rfl) (by kernel_rfl) (fun call a0 a1=>by kernel_rfl)
def N3:Ann:=(.two .leaf (.two (.reg [] 17) .leaf))
noncomputable def Iz(lp:Lp)(call:Nat->List D->Option D)(a0:D)(a1:D):Option D:=
(D.get a0 [0]).bind fun x1=>
(D.get a1 [0]).bind fun x2=>
(call 53 [x1,x2]).bind fun r3=>
(D.get a0 [1]).bind fun x4=>
(D.get a1 [1]).bind fun x5=>
(call 53 [x4,x5]).bind fun r6=>
(D.get a0 [2]).bind fun x7=>
(D.get a1 [2]).bind fun x8=>
(call 53 [x7,x8]).bind fun r9=>
(call 52 [(D.sl [r3,r6,r9])]).bind fun r10=>
 some r10
theorem M3{lp}(hlp:az lp):ae 94 (m2 (Iz lp)):=bc (fn:=Tryz.f94) (ann:=N3) hlp (by kernel_rfl) (by kernel_rfl) (fun call a0 a1=>by kernel_rfl)
def MO:Ann:=(.two .leaf (.two (.reg [] 8) (.cut [(.normal,⟨[(3,.same (.ptr K1 4099 [])),(6,.same (.ptr dO 4102 [])),(7,.same (.ptr K1 8199 []))],[(4099,.keep K1 3),(4102,.keep dO 6),(8199,.one K1 (.dv K1))],[]⟩)] [] [4099,4102] (.two (.reg [] 8) (.two .leaf (.two (.reg [] 13) .leaf))) (.two (.reg [] 5) .leaf))))
noncomputable def Io(lp:Lp)(call:Nat->List D->Option D)(a0:D)(a1:D)(a2:D):Option D:=
(call 103 [a1,a0]).bind fun r1=>
(call 103 [a2,a0]).bind fun r2=>
(call 117 [r1,r2]).bind fun r3=>
((D.get r3 [0]).bind fun x4=>
(D.get r3 [1]).bind fun x5=>
(call 152 [x4,x5]).bind fun r6=>
(D.get r3 [2]).bind fun x7=>
(call 152 [r6,x7]).bind fun r8=>
(D.bin .gtr r8 (D.int .i64 1)).bind fun x9=>
(D.truth x9).bind fun b10=>
 if b10 then((D.get r3 [0]).bind fun x11=>
(D.bin .quo x11 r8).bind fun x12=>
(D.get r3 [1]).bind fun x13=>
(D.bin .quo x13 r8).bind fun x14=>
(D.get r3 [2]).bind fun x15=>
(D.bin .quo x15 r8).bind fun x16=>
 some (0,[(D.st [x12,x14,x16])])) else(some (0,[r3]))).bind fun(r17:Nat×List D)=>
(call 101 [(gx r17.2 0),a0]).bind fun r18=>
 some (D.st [(gx r17.2 0),r18])
theorem NW{lp}(hlp:az lp):ae 96 (m3 (Io lp)):=FI (fn:=Tryz.f96) (ann:=MO) hlp (by kernel_rfl) (by kernel_rfl) (fun call a0 a1 a2=>by kernel_rfl)
noncomputable def Ib(lp:Lp)(call:Nat->List D->Option D)(a0:D):Option D:=
(D.get a0 [0]).bind fun x1=>
(D.un .neg x1).bind fun x2=>
(D.get a0 [1]).bind fun x3=>
(D.un .neg x3).bind fun x4=>
(D.get a0 [2]).bind fun x5=>
(D.un .neg x5).bind fun x6=>
 some (D.st [x2,x4,x6])
theorem NX{lp}(hlp:az lp):ae 97 (m1 (Ib lp)):=bK (fn:=Tryz.f97) (ann:=.leaf) hlp (by kernel_rfl) (by kernel_rfl) (fun call a0=>by kernel_rfl)
def OQ:Ann:=(.two .leaf (.two .leaf (.two (.two .leaf (.two (.loop ⟨[(3,.same (.ptr dO 4099 [])),(5,.dv Ty.bool),(11,.dv (Ty.int .i64))],[(4099,.keep dO 3)],[9,10]⟩ [(.ret,⟨[(4,.dv Ty.bool)],[],[]⟩),(.exit 0,⟨[(5,.dv Ty.bool)],[],[]⟩)] .leaf) .leaf)) .leaf)))
noncomputable def Ii(lp:Lp)(call:Nat->List D->Option D)(a0:D)(a1:D):Option D:=
(D.asSl a0).bind fun l1=>
(lp (β:=Nat×List D) (fun(v2:List D)=>
(D.bin .lss (gx v2 1) (D.int .i64 (l1.length))).bind fun x3=>
(D.truth x3).bind fun b4=>
 if b4 then((D.asSl a0).bind fun l5=>
(D.idx (gx v2 1) (l5.length)).bind fun i6=>
(l5[i6]?).bind fun x7=>
(D.get a1 [0]).bind fun x8=>
(call 101 [x8,x7]).bind fun r9=>
(D.get a1 [1]).bind fun x10=>
(D.bin .gtr r9 x10).bind fun x11=>
(D.truth x11).bind fun b12=>
 if b12 then(some (Sum.inr (0,[(D.bool false)]))) else((D.truth (gx v2 0)).bind fun b13=>
(if b13 then((D.get a1 [1]).bind fun x14=>
 D.truth (D.bool (D.beq r9 x14))) else(some false)).bind fun b15=>
(D.bin .add (gx v2 1) (D.int .i64 1)).bind fun x16=>
 some (Sum.inl [(D.bool b15),x16]))) else(some (Sum.inr (1,[(gx v2 0)])))) [(D.bool true),(D.int .i64 0)]).bind fun r17=>
 if r17.1=0 then(some (gx r17.2 0)) else((D.un .not (gx r17.2 0)).bind fun x18=>
 some x18)
theorem NI{lp}(hlp:az lp):ae 98 (m2 (Ii lp)):=bc (fn:=Tryz.f98) (ann:=OQ) hlp (by kernel_rfl) (by kernel_rfl) (fun call a0 a1=>by kernel_rfl)
def KX:Ann:=(.two .leaf (.two (.reg [] 23) .leaf))
noncomputable def EI(lp:Lp)(call:Nat->List D->Option D)(a0:D)(a1:D):Option D:=
(D.get a0 [0,0]).bind fun x1=>
(D.get a1 [0,0]).bind fun x2=>
(call 53 [x1,x2]).bind fun r3=>
(D.get a0 [0,1]).bind fun x4=>
(D.get a1 [0,1]).bind fun x5=>
(call 53 [x4,x5]).bind fun r6=>
(D.get a0 [0,2]).bind fun x7=>
(D.get a1 [0,2]).bind fun x8=>
(call 53 [x7,x8]).bind fun r9=>
(call 52 [(D.sl [r3,r6,r9])]).bind fun r10=>
 some r10
theorem J0{lp}(hlp:az lp):ae 100 (m2 (EI lp)):=bc (fn:=Tryz.f100) (ann:=KX) hlp (by kernel_rfl) (by kernel_rfl) (fun call a0 a1=>by kernel_rfl)
noncomputable def CP(lp:Lp)(call:Nat->List D->Option D)(a0:D)(a1:D):Option D:=
(D.get a0 [0]).bind fun x1=>
(D.get a1 [0]).bind fun x2=>
(D.bin .mul x1 x2).bind fun x3=>
(D.get a0 [1]).bind fun x4=>
(D.get a1 [1]).bind fun x5=>
(D.bin .mul x4 x5).bind fun x6=>
(D.bin .add x3 x6).bind fun x7=>
(D.get a0 [2]).bind fun x8=>
(D.get a1 [2]).bind fun x9=>
(D.bin .mul x8 x9).bind fun x10=>
(D.bin .add x7 x10).bind fun x11=>
 some x11
theorem Jc{lp}(hlp:az lp):ae 101 (m2 (CP lp)):=bc (fn:=Tryz.f101) (ann:=.leaf) hlp (by kernel_rfl) (by kernel_rfl) (fun call a0 a1=>by kernel_rfl)
def Jt:Ann:=(.two .leaf (.two (.reg [] 4) .leaf))
noncomputable def Ej(lp:Lp)(call:Nat->List D->Option D)(a0:D)(a1:D):Option D:=
(call 97 [a1]).bind fun r1=>
(call 154 [a0,r1]).bind fun r2=>
 some r2
theorem JP{lp}(hlp:az lp):ae 103 (m2 (Ej lp)):=bc (fn:=Tryz.f103) (ann:=Jt) hlp (by kernel_rfl) (by kernel_rfl) (fun call a0 a1=>by kernel_rfl)
def KC:Ann:=(.two .leaf (.two .leaf (.two (.two .leaf (.two (.loop ⟨[(7,.same (.ptr K1 8199 [])),(14,.dv (Ty.int .i64))],[(8199,.keep K1 7)],[13]⟩ [(.ret,⟨[(6,.dv (Ty.int .i64))],[],[]⟩),(.exit 0,⟨[],[],[]⟩)] .leaf) .leaf)) .leaf)))
noncomputable def DZ(lp:Lp)(call:Nat->List D->Option D)(a0:D)(a1:D)(a2:D):Option D:=
(call 117 [a1,a2]).bind fun r1=>
(lp (β:=Nat×List D) (fun(v2:List D)=>
(D.bin .lss (gx v2 0) (D.int .i64 3)).bind fun x3=>
(D.truth x3).bind fun b4=>
 if b4 then((D.idx (gx v2 0) 3).bind fun i5=>
(D.fld a0 i5).bind fun x6=>
(D.truth (D.bool (!(D.beq x6 (D.int .i64 0))))).bind fun b7=>
 if b7 then((D.idx (gx v2 0) 3).bind fun i8=>
(D.get r1 [i8]).bind fun x9=>
(call 53 [x9,(D.int .i64 0)]).bind fun r10=>
(call 53 [x6,(D.int .i64 0)]).bind fun r11=>
(D.bin .mul r10 r11).bind fun x12=>
 some (Sum.inr (0,[x12]))) else((D.bin .add (gx v2 0) (D.int .i64 1)).bind fun x13=>
 some (Sum.inl [x13]))) else(some (Sum.inr (1,[])))) [(D.int .i64 0)]).bind fun r14=>
 if r14.1=0 then(some (gx r14.2 0)) else(some (D.int .i64 0))
theorem JO{lp}(hlp:az lp):ae 104 (m3 (DZ lp)):=FI (fn:=Tryz.f104) (ann:=KC) hlp (by kernel_rfl) (by kernel_rfl) (fun call a0 a1 a2=>by kernel_rfl)
noncomputable def DE(lp:Lp)(call:Nat->List D->Option D)(a0:D):Option D:=
 some (D.bool (!(D.beq a0 a0)))
theorem Lh{lp}(hlp:az lp):ae 115 (m1 (DE lp)):=bK (fn:=Tryz.f115) (ann:=.leaf) hlp (by kernel_rfl) (by kernel_rfl) (fun call a0=>by kernel_rfl)
def II:Ann:=(.two .leaf (.two (.reg [] 8) .leaf))
noncomputable def DW(lp:Lp)(call:Nat->List D->Option D)(a0:D)(a1:D):Option D:=
(D.truth a0).bind fun b1=>
(if b1 then(D.truth (D.bool (!(D.beq a1 (D.st (D.putParts (List.replicate 16 (D.int .u32 0)) [])))))) else(some false)).bind fun b2=>
 some (D.st [(D.bool false),(D.bool b2),a1])
theorem JS{lp}(hlp:az lp):ae 116 (m2 (DW lp)):=bc (fn:=Tryz.f116) (ann:=II) hlp (by kernel_rfl) (by kernel_rfl) (fun call a0 a1=>by kernel_rfl)
noncomputable def Dw(lp:Lp)(call:Nat->List D->Option D)(a0:D)(a1:D):Option D:=
(D.get a0 [1]).bind fun x1=>
(D.get a1 [2]).bind fun x2=>
(D.bin .mul x1 x2).bind fun x3=>
(D.get a0 [2]).bind fun x4=>
(D.get a1 [1]).bind fun x5=>
(D.bin .mul x4 x5).bind fun x6=>
(D.bin .sub x3 x6).bind fun x7=>
(D.get a0 [2]).bind fun x8=>
(D.get a1 [0]).bind fun x9=>
(D.bin .mul x8 x9).bind fun x10=>
(D.get a0 [0]).bind fun x11=>
(D.get a1 [2]).bind fun x12=>
(D.bin .mul x11 x12).bind fun x13=>
(D.bin .sub x10 x13).bind fun x14=>
(D.get a0 [0]).bind fun x15=>
(D.get a1 [1]).bind fun x16=>
(D.bin .mul x15 x16).bind fun x17=>
(D.get a0 [1]).bind fun x18=>
(D.get a1 [0]).bind fun x19=>
(D.bin .mul x18 x19).bind fun x20=>
(D.bin .sub x17 x20).bind fun x21=>
 some (D.st [x7,x14,x21])
theorem Ln{lp}(hlp:az lp):ae 117 (m2 (Dw lp)):=bc (fn:=Tryz.f117) (ann:=.leaf) hlp (by kernel_rfl) (by kernel_rfl) (fun call a0 a1=>by kernel_rfl)
def KD:Ann:=(.two .leaf (.two (.two .leaf (.two (.loop ⟨[(7,.dv (Ty.int .i64))],[],[5,6]⟩ [(.ret,⟨[(2,.dv Ty.bool)],[],[]⟩),(.exit 0,⟨[],[],[]⟩)] .leaf) .leaf)) .leaf))
noncomputable def Dx(lp:Lp)(call:Nat->List D->Option D)(a0:D):Option D:=
(D.asSl a0).bind fun l1=>
(lp (β:=Nat×List D) (fun(v2:List D)=>
(D.bin .lss (gx v2 0) (D.int .i64 (l1.length))).bind fun x3=>
(D.truth x3).bind fun b4=>
 if b4 then((D.asSl a0).bind fun l5=>
(D.idx (gx v2 0) (l5.length)).bind fun i6=>
(l5[i6]?).bind fun x7=>
(D.get x7 [0]).bind fun x8=>
(D.truth x8).bind fun b9=>
(if b9 then(some true) else((call 167 [x7]).bind fun r10=>
(D.un .not r10).bind fun x11=>
 D.truth x11)).bind fun b12=>
(D.truth (D.bool b12)).bind fun b13=>
 if b13 then(some (Sum.inr (0,[(D.bool false)]))) else((D.bin .add (gx v2 0) (D.int .i64 1)).bind fun x14=>
 some (Sum.inl [x14]))) else(some (Sum.inr (1,[])))) [(D.int .i64 0)]).bind fun r15=>
 if r15.1=0 then(some (gx r15.2 0)) else(some (D.bool true))
theorem JT{lp}(hlp:az lp):ae 118 (m1 (Dx lp)):=bK (fn:=Tryz.f118) (ann:=KD) hlp (by kernel_rfl) (by kernel_rfl) (fun call a0=>by kernel_rfl)
noncomputable def Ee(lp:Lp)(call:Nat->List D->Option D) :Option D:=
 some (D.st [(D.bool true),(D.bool false),(aC aP)])
theorem LI{lp}(hlp:az lp):ae 119 (m0 (Ee lp)):=BS (fn:=Tryz.f119) (ann:=.leaf) hlp (by kernel_rfl) (by kernel_rfl) (fun call=>by kernel_rfl)
def J4:Ann:=(.two .leaf (.two .leaf (.two .leaf (.two (.two .leaf (.two (.loop ⟨[(2,.same (.ptr aP 4098 [])),(3,.same (.ptr aP 4099 [])),(4,.same (.ptr aP 4100 [])),(6,.same (.ptr aP 8198 [])),(7,.dv (Ty.int .u64)),(9,.dv (Ty.int .i64))],[(4098,.keep aP 2),(4099,.keep aP 3),(4100,.keep aP 4),(8198,.one aP (.dv aP))],[]⟩ [(.exit 0,⟨[(4,.same (.ptr aP 4100 [])),(6,.same (.ptr aP 8198 [])),(7,.dv (Ty.int .u64))],[(4100,.keep aP 4),(8198,.one aP (.dv aP))],[]⟩)] (.two .leaf (.two .leaf (.two (.two (.two .leaf (.two (.reg [] 11) .leaf)) .leaf) .leaf)))) .leaf)) .leaf))))
noncomputable def Ea(lp:Lp)(call:Nat->List D->Option D)(a0:D)(a1:D):Option D:=
(lp (β:=Nat×List D) (fun(v1:List D)=>
(D.bin .lss (gx v1 1) (D.int .i64 16)).bind fun x2=>
(D.truth x2).bind fun b3=>
 if b3 then((D.idx (gx v1 1) 16).bind fun i4=>
(D.get a0 [i4]).bind fun x5=>
(D.conv .u64 x5).bind fun x6=>
(D.idx (gx v1 1) 16).bind fun i7=>
(D.get a1 [i7]).bind fun x8=>
(D.conv .u64 x8).bind fun x9=>
(D.bin .add x6 x9).bind fun x10=>
(D.bin .add (gx v1 0) x10).bind fun x11=>
(D.conv .u32 x11).bind fun x12=>
(D.idx (gx v1 1) 16).bind fun i13=>
(D.set (gx v1 2) [i13] x12).bind fun x14=>
(D.bin .shr x11 (D.int .u64 32)).bind fun x15=>
(D.bin .add (gx v1 1) (D.int .i64 1)).bind fun x16=>
 some (Sum.inl [x15,x16,x14])) else(some (Sum.inr (0,[(gx v1 0),(gx v1 2)])))) [(D.int .u64 0),(D.int .i64 0),(aC aP)]).bind fun r17=>
 some (D.tup [(gx r17.2 1),(D.bool (D.beq (gx r17.2 0) (D.int .u64 0)))])
theorem Jd{lp}(hlp:az lp):ae 120 (m2 (Ea lp)):=bc (fn:=Tryz.f120) (ann:=J4) hlp (by kernel_rfl) (by kernel_rfl) (fun call a0 a1=>by kernel_rfl)
def Jn:Ann:=(.two .leaf (.two (.two .leaf (.two (.loop ⟨[(2,.same (.ptr aP 4098 [])),(3,.same (.ptr aP 4099 [])),(5,.dv (Ty.int .i64))],[(4098,.keep aP 2),(4099,.keep aP 3)],[]⟩ [(.ret,⟨[(4,.dv (Ty.int .i64))],[],[]⟩),(.exit 0,⟨[],[],[]⟩)] (.two .leaf (.two (.two (.two (.reg [] 6) (.two (.two (.reg [] 7) .leaf) .leaf)) .leaf) .leaf))) .leaf)) .leaf))
noncomputable def Eh(lp:Lp)(call:Nat->List D->Option D)(a0:D)(a1:D):Option D:=
(lp (β:=Nat×List D) (fun(v1:List D)=>
(D.bin .geq (gx v1 0) (D.int .i64 0)).bind fun x2=>
(D.truth x2).bind fun b3=>
 if b3 then((D.idx (gx v1 0) 16).bind fun i4=>
(D.get a0 [i4]).bind fun x5=>
(D.idx (gx v1 0) 16).bind fun i6=>
(D.get a1 [i6]).bind fun x7=>
(D.truth (D.bool (!(D.beq x5 x7)))).bind fun b8=>
 if b8 then((D.idx (gx v1 0) 16).bind fun i9=>
(D.get a0 [i9]).bind fun x10=>
(D.idx (gx v1 0) 16).bind fun i11=>
(D.get a1 [i11]).bind fun x12=>
(call 168 [x10,x12]).bind fun r13=>
 some (Sum.inr (0,[r13]))) else((D.bin .sub (gx v1 0) (D.int .i64 1)).bind fun x14=>
 some (Sum.inl [x14]))) else(some (Sum.inr (1,[])))) [(D.int .i64 15)]).bind fun r15=>
 if r15.1=0 then(some (gx r15.2 0)) else(some (D.int .i64 0))
theorem J3{lp}(hlp:az lp):ae 121 (m2 (Eh lp)):=bc (fn:=Tryz.f121) (ann:=Jn) hlp (by kernel_rfl) (by kernel_rfl) (fun call a0 a1=>by kernel_rfl)
def Lg:Ann:=(.two .leaf (.two .leaf (.two .leaf (.two (.two .leaf (.two (.loop ⟨[(2,.same (.ptr aP 4098 [])),(3,.same (.ptr aP 4099 [])),(4,.same (.ptr aP 4100 [])),(5,.same (.ptr aP 8197 [])),(6,.dv (Ty.int .u64)),(9,.dv (Ty.int .i64))],[(4098,.keep aP 2),(4099,.keep aP 3),(4100,.keep aP 4),(8197,.one aP (.dv aP))],[]⟩ [(.exit 0,⟨[(4,.same (.ptr aP 4100 [])),(5,.same (.ptr aP 8197 []))],[(4100,.keep aP 4),(8197,.one aP (.dv aP))],[]⟩)] (.two .leaf (.two .leaf (.two (.two (.two .leaf (.two (.reg [] 11) .leaf)) .leaf) .leaf)))) .leaf)) .leaf))))
noncomputable def EP(lp:Lp)(call:Nat->List D->Option D)(a0:D)(a1:D):Option D:=
(lp (β:=Nat×List D) (fun(v1:List D)=>
(D.bin .lss (gx v1 1) (D.int .i64 16)).bind fun x2=>
(D.truth x2).bind fun b3=>
 if b3 then((D.idx (gx v1 1) 16).bind fun i4=>
(D.get a0 [i4]).bind fun x5=>
(D.conv .u64 x5).bind fun x6=>
(D.idx (gx v1 1) 16).bind fun i7=>
(D.get a1 [i7]).bind fun x8=>
(D.conv .u64 x8).bind fun x9=>
(D.bin .sub x6 x9).bind fun x10=>
(D.bin .sub x10 (gx v1 0)).bind fun x11=>
(D.conv .u32 x11).bind fun x12=>
(D.idx (gx v1 1) 16).bind fun i13=>
(D.set (gx v1 2) [i13] x12).bind fun x14=>
(D.bin .shr x11 (D.int .u64 63)).bind fun x15=>
(D.bin .add (gx v1 1) (D.int .i64 1)).bind fun x16=>
 some (Sum.inl [x15,x16,x14])) else(some (Sum.inr (0,[(gx v1 2)])))) [(D.int .u64 0),(D.int .i64 0),(aC aP)]).bind fun r17=>
 some (gx r17.2 0)
theorem KA{lp}(hlp:az lp):ae 122 (m2 (EP lp)):=bc (fn:=Tryz.f122) (ann:=Lg) hlp (by kernel_rfl) (by kernel_rfl) (fun call a0 a1=>by kernel_rfl)
def IQ:Ann:=(.two .leaf (.two .leaf (.two .leaf (.two (.two .leaf (.two (.loop ⟨[(1,.same (.ptr ay 4097 [])),(5,.dv (Ty.int .i64))],[(4097,.keep ay 1)],[]⟩ [(.ret,⟨[(2,.dv (Ty.int .i64)),(3,.dv Ty.bool)],[],[]⟩),(.exit 0,⟨[(1,.same (.ptr ay 4097 []))],[(4097,.keep ay 1)],[]⟩)] .leaf) .leaf)) .leaf))))
noncomputable def BE(lp:Lp)(call:Nat->List D->Option D)(a0:D):Option D:=
(call 76 [a0]).bind fun r1=>
(D.un .not r1).bind fun x2=>
(D.truth x2).bind fun b3=>
(if b3 then(some true) else((D.get a0 [2,1]).bind fun x4=>
(D.bin .geq x4 (D.int .u32 1073741824)).bind fun x5=>
 D.truth x5)).bind fun b6=>
(D.truth (D.bool b6)).bind fun b7=>
 if b7 then(some (D.tup [(D.int .i64 0),(D.bool false)])) else((lp (β:=Nat×List D) (fun(v8:List D)=>
(D.bin .lss (gx v8 0) (D.int .i64 16)).bind fun x9=>
(D.truth x9).bind fun b10=>
 if b10 then((D.idx (gx v8 0) 16).bind fun i11=>
(D.get a0 [2,i11]).bind fun x12=>
(D.truth (D.bool (!(D.beq x12 (D.int .u32 0))))).bind fun b13=>
 if b13 then(some (Sum.inr (0,[(D.int .i64 0),(D.bool false)]))) else((D.bin .add (gx v8 0) (D.int .i64 1)).bind fun x14=>
 some (Sum.inl [x14]))) else(some (Sum.inr (1,[])))) [(D.int .i64 2)]).bind fun r15=>
 if r15.1=0 then(some (D.tup [(gx r15.2 0),(gx r15.2 1)])) else((D.get a0 [2,1]).bind fun x16=>
(D.conv .i64 x16).bind fun x17=>
(D.bin .mul x17 (D.int .i64 4294967296)).bind fun x18=>
(D.get a0 [2,0]).bind fun x19=>
(D.conv .i64 x19).bind fun x20=>
(D.bin .add x18 x20).bind fun x21=>
(D.get a0 [1]).bind fun x22=>
(D.truth x22).bind fun b23=>
 if b23 then((D.un .neg x21).bind fun x24=>
 some (D.tup [x24,(D.bool true)])) else(some (D.tup [x21,(D.bool true)]))))
theorem KW{lp}(hlp:az lp):ae 124 (m1 (BE lp)):=bK (fn:=Tryz.f124) (ann:=IQ) hlp (by kernel_rfl) (by kernel_rfl) (fun call a0=>by kernel_rfl)
theorem KL{lp}(hlp:az lp):ae 125 (jA lp 125 Tryz.f125 .leaf):=eu hlp (by kernel_rfl) (by kernel_rfl)
def IY:Ann:=(.two .leaf (.two .leaf (.two .leaf (.two (.two .leaf (.two (.loop ⟨[(5,.ow (Ty.int .i64)),(6,.dv (Ty.int .i64)),(7,.dv (Ty.int .i64))],[],[0,1]⟩ [(.exit 0,⟨[(5,.ow (Ty.int .i64))],[],[]⟩)] (.two .leaf (.two (.two (.two (.reg [] 10) (.two .leaf (.cut [(.normal,⟨[(5,.ow (Ty.int .i64)),(6,.dv (Ty.int .i64)),(8,.dv (Ty.int .i64))],[],[0,1,7]⟩)] [0,1,7] [] .leaf .leaf))) .leaf) .leaf))) .leaf)) .leaf))))
noncomputable def El(lp:Lp)(call:Nat->List D->Option D)(a0:D)(a1:D):Option D:=
(lp (β:=Nat×List D) (fun(v1:List D)=>
(D.asSl a0).bind fun l2=>
(D.bin .lss (gx v1 2) (D.int .i64 (l2.length))).bind fun x3=>
(D.truth x3).bind fun b4=>
 if b4 then((D.asSl a0).bind fun l5=>
(D.idx (gx v1 2) (l5.length)).bind fun i6=>
(l5[i6]?).bind fun x7=>
(call 141 [a1,(gx v1 2)]).bind fun r8=>
(D.bin .sub x7 r8).bind fun x9=>
(D.bin .sub x9 (gx v1 1)).bind fun x10=>
((D.bin .lss x10 (D.int .i64 0)).bind fun x11=>
(D.truth x11).bind fun b12=>
 if b12 then((D.bin .add x10 (D.int .i64 65536)).bind fun x13=>
 some (0,[(D.sl ((gx v1 0).els)),(D.int .i64 1),x13])) else(some (0,[(D.sl ((gx v1 0).els)),(D.int .i64 0),x10]))).bind fun(r14:Nat×List D)=>
 if List.length ((gx r14.2 0).els)+List.length [(gx r14.2 2)]<=1073741824 then((D.bin .add (gx v1 2) (D.int .i64 1)).bind fun x15=>
 some (Sum.inl [(D.sl (((gx r14.2 0).els)++[(gx r14.2 2)])),(gx r14.2 1),x15])) else none) else(some (Sum.inr (0,[(D.sl ((gx v1 0).els))])))) [(D.sl []),(D.int .i64 0),(D.int .i64 0)]).bind fun r16=>
(call 140 [(D.sl ((gx r16.2 0).els))]).bind fun r17=>
 some r17
theorem LN{lp}(hlp:az lp):ae 126 (m2 (El lp)):=bc (fn:=Tryz.f126) (ann:=IY) hlp (by kernel_rfl) (by kernel_rfl) (fun call a0 a1=>by kernel_rfl)
def JA:Ann:=(.two .leaf (.two .leaf (.two (.two (.loop ⟨[(1,.same (.ptr aP 4097 [])),(3,.dv (Ty.int .i64))],[(4097,.keep aP 1)],[]⟩ [(.exit 0,⟨[(3,.dv (Ty.int .i64))],[],[]⟩)] .leaf) .leaf) .leaf)))
noncomputable def DG(lp:Lp)(call:Nat->List D->Option D)(a0:D):Option D:=
(lp (β:=Nat×List D) (fun(v1:List D)=>
(D.bin .gtr (gx v1 0) (D.int .i64 0)).bind fun x2=>
(D.truth x2).bind fun b3=>
(if b3 then((D.bin .sub (gx v1 0) (D.int .i64 1)).bind fun x4=>
(D.idx x4 16).bind fun i5=>
(D.get a0 [i5]).bind fun x6=>
 D.truth (D.bool (D.beq x6 (D.int .u32 0)))) else(some false)).bind fun b7=>
(D.truth (D.bool b7)).bind fun b8=>
 if b8 then((D.bin .sub (gx v1 0) (D.int .i64 1)).bind fun x9=>
 some (Sum.inl [x9])) else(some (Sum.inr (0,[(gx v1 0)])))) [(D.int .i64 16)]).bind fun r10=>
 some (gx r10.2 0)
theorem LU{lp}(hlp:az lp):ae 127 (m1 (DG lp)):=bK (fn:=Tryz.f127) (ann:=JA) hlp (by kernel_rfl) (by kernel_rfl) (fun call a0=>by kernel_rfl)
noncomputable def Fe(lp:Lp)(call:Nat->List D->Option D)(a0:D):Option D:=
(D.get a0 [0]).bind fun x1=>
(D.un .not x1).bind fun x2=>
(D.truth x2).bind fun b3=>
(if b3 then((call 167 [a0]).bind fun r4=>
 D.truth r4) else(some false)).bind fun b5=>
 some (D.bool b5)
theorem LH{lp}(hlp:az lp):ae 128 (m1 (Fe lp)):=bK (fn:=Tryz.f128) (ann:=.leaf) hlp (by kernel_rfl) (by kernel_rfl) (fun call a0=>by kernel_rfl)
noncomputable def EK(lp:Lp)(call:Nat->List D->Option D)(a0:D):Option D:=
(call 118 [(D.sl [a0])]).bind fun r1=>
(D.un .not r1).bind fun x2=>
(D.truth x2).bind fun b3=>
(if b3 then(some true) else((D.get a0 [2]).bind fun x4=>
 D.truth (D.bool (D.beq x4 (D.st (D.putParts (List.replicate 16 (D.int .u32 0)) [])))))).bind fun b5=>
(D.truth (D.bool b5)).bind fun b6=>
 if b6 then(some (D.int .i64 0)) else((D.get a0 [1]).bind fun x7=>
(D.truth x7).bind fun b8=>
 if b8 then(some (D.int .i64 (-1))) else(some (D.int .i64 1)))
theorem KK{lp}(hlp:az lp):ae 129 (m1 (EK lp)):=bK (fn:=Tryz.f129) (ann:=.leaf) hlp (by kernel_rfl) (by kernel_rfl) (fun call a0=>by kernel_rfl)
theorem Jb{lp}(hlp:az lp):ae 130 (jA lp 130 Tryz.f130 .leaf):=eu hlp (by kernel_rfl) (by kernel_rfl)
def Jf:Ann:=(.two .leaf (.two .leaf (.two (.two .leaf (.two (.two (.reg [] 21) (.two (.two (.loop ⟨[(4,.same (.ptr ay 4100 [])),(5,.dv (Ty.int .u64)),(6,.dv (Ty.int .u64))],[(4100,.keep ay 4)],[]⟩ [(.exit 0,⟨[(4,.same (.ptr ay 4100 [])),(5,.dv (Ty.int .u64))],[(4100,.keep ay 4)],[]⟩)] (.two .leaf (.two (.reg [] 5) .leaf))) .leaf) .leaf)) .leaf)) (.two (.two (.reg [] 6) (.two .leaf (.two (.two .leaf (.two (.reg [] 5) .leaf)) .leaf))) .leaf))))
noncomputable def Es(lp:Lp)(call:Nat->List D->Option D)(a0:D)(a1:D):Option D:=
(call 118 [(D.sl [a0,a1])]).bind fun r1=>
(D.un .not r1).bind fun x2=>
(D.truth x2).bind fun b3=>
 if b3 then((call 119 []).bind fun r4=>
 some r4) else((D.get a0 [2]).bind fun x5=>
(call 127 [x5]).bind fun r6=>
(D.bin .leq r6 (D.int .i64 2)).bind fun x7=>
(D.truth x7).bind fun b8=>
(if b8 then((D.get a1 [2]).bind fun x9=>
(call 127 [x9]).bind fun r10=>
(D.bin .leq r10 (D.int .i64 2)).bind fun x11=>
 D.truth x11) else(some false)).bind fun b12=>
(D.truth (D.bool b12)).bind fun b13=>
 if b13 then((D.get a0 [2,1]).bind fun x14=>
(D.conv .u64 x14).bind fun x15=>
(D.bin .shl x15 (D.int .u64 32)).bind fun x16=>
(D.get a0 [2,0]).bind fun x17=>
(D.conv .u64 x17).bind fun x18=>
(D.bin .or x16 x18).bind fun x19=>
(D.get a1 [2,1]).bind fun x20=>
(D.conv .u64 x20).bind fun x21=>
(D.bin .shl x21 (D.int .u64 32)).bind fun x22=>
(D.get a1 [2,0]).bind fun x23=>
(D.conv .u64 x23).bind fun x24=>
(D.bin .or x22 x24).bind fun x25=>
(lp (β:=Nat×List D) (fun(v26:List D)=>
(D.truth (D.bool (!(D.beq (gx v26 1) (D.int .u64 0))))).bind fun b27=>
 if b27 then((D.bin .rem (gx v26 0) (gx v26 1)).bind fun x28=>
 some (Sum.inl [(gx v26 1),x28])) else(some (Sum.inr (0,[(gx v26 0)])))) [x19,x25]).bind fun r29=>
(D.conv .u32 (gx r29.2 0)).bind fun x30=>
(D.bin .shr (gx r29.2 0) (D.int .u64 32)).bind fun x31=>
(D.conv .u32 x31).bind fun x32=>
(call 116 [(D.bool false),(D.st (D.putParts (List.replicate 16 (D.int .u32 0)) [(0,x30),(1,x32)]))]).bind fun r33=>
 some r33) else((D.get a0 [2]).bind fun x34=>
(D.get a1 [2]).bind fun x35=>
(D.truth (D.bool (!(D.beq x35 (D.st (D.putParts (List.replicate 16 (D.int .u32 0)) [])))))).bind fun b36=>
 if b36 then((call 170 [x34,x35]).bind fun r37=>
(D.tupAt r37 0).bind fun x38=>
(D.tupAt r37 1).bind fun x39=>
(call 116 [(D.bool false),x35]).bind fun r40=>
(call 116 [(D.bool false),x39]).bind fun r41=>
(call 131 [r40,r41]).bind fun r42=>
 some r42) else((call 171 [a0]).bind fun r43=>
 some r43)))
theorem Jl{lp}(hlp:az lp):ae 131 (m2 (Es lp)):=bc (fn:=Tryz.f131) (ann:=Jf) hlp (by kernel_rfl) (by kernel_rfl) (fun call a0 a1=>by kernel_rfl)
noncomputable def Dy(lp:Lp)(call:Nat->List D->Option D)(a0:D)(a1:D):Option D:=
(call 172 [a0,a1]).bind fun r1=>
(D.tupAt r1 0).bind fun x2=>
(D.tupAt r1 1).bind fun x3=>
 some x2
theorem Jw{lp}(hlp:az lp):ae 132 (m2 (Dy lp)):=bc (fn:=Tryz.f132) (ann:=.leaf) hlp (by kernel_rfl) (by kernel_rfl) (fun call a0 a1=>by kernel_rfl)
noncomputable def Eo(lp:Lp)(call:Nat->List D->Option D) :Option D:=
(call 34 [(D.int .i64 1)]).bind fun r1=>
 some r1
theorem Km{lp}(hlp:az lp):ae 133 (m0 (Eo lp)):=BS (fn:=Tryz.f133) (ann:=.leaf) hlp (by kernel_rfl) (by kernel_rfl) (fun call=>by kernel_rfl)
def LV:Ann:=(.two .leaf (.two .leaf (.two (.two .leaf (.two (.loop ⟨[(2,.same (.ptr iA 4098 [])),(3,.same (.ptr iA 4099 [])),(4,.same (.ptr cN 4100 [])),(5,.same (.ptr cN 8197 [])),(8,.dv (Ty.int .i64))],[(4098,.keep iA 2),(4099,.keep iA 3),(4100,.keep cN 4),(8197,.one cN (.dv cN))],[]⟩ [(.exit 0,⟨[(4,.same (.ptr cN 4100 [])),(5,.same (.ptr cN 8197 []))],[(4100,.keep cN 4),(8197,.one cN (.dv cN))],[]⟩)] (.two .leaf (.two .leaf (.two (.two (.two .leaf (.reg [] 9)) .leaf) .leaf)))) .leaf)) .leaf)))
noncomputable def E7(lp:Lp)(call:Nat->List D->Option D)(a0:D)(a1:D):Option D:=
(call 74 [(D.int .i64 0)]).bind fun r1=>
(lp (β:=Nat×List D) (fun(v2:List D)=>
(D.bin .lss (gx v2 0) (D.int .i64 3)).bind fun x3=>
(D.truth x3).bind fun b4=>
 if b4 then((D.idx (gx v2 0) 3).bind fun i5=>
(D.get a0 [i5]).bind fun x6=>
(D.idx (gx v2 0) 3).bind fun i7=>
(D.get a1 [i7]).bind fun x8=>
(call 174 [x6,x8]).bind fun r9=>
(call 173 [(gx v2 1),r9]).bind fun r10=>
(D.bin .add (gx v2 0) (D.int .i64 1)).bind fun x11=>
 some (Sum.inl [x11,r10])) else(some (Sum.inr (0,[(gx v2 1)])))) [(D.int .i64 0),r1]).bind fun r12=>
 some (gx r12.2 0)
theorem Js{lp}(hlp:az lp):ae 134 (m2 (E7 lp)):=bc (fn:=Tryz.f134) (ann:=LV) hlp (by kernel_rfl) (by kernel_rfl) (fun call a0 a1=>by kernel_rfl)
def IT:Ann:=(.two .leaf (.two (.reg [] 10) .leaf))
noncomputable def Dv(lp:Lp)(call:Nat->List D->Option D)(a0:D):Option D:=
(D.get a0 [0]).bind fun x1=>
(call 74 [x1]).bind fun r2=>
(D.get a0 [1]).bind fun x3=>
(call 74 [x3]).bind fun r4=>
(D.get a0 [2]).bind fun x5=>
(call 74 [x5]).bind fun r6=>
 some (D.st [r2,r4,r6])
theorem I4{lp}(hlp:az lp):ae 135 (m1 (Dv lp)):=bK (fn:=Tryz.f135) (ann:=IT) hlp (by kernel_rfl) (by kernel_rfl) (fun call a0=>by kernel_rfl)
end Go.Proofs.YtjjjkojfijpeeaaGreat.Sy
end
