/- Part 7 of the proof that HullContainsPoints answers true at every input -/
import Derived.Test.YtjjjkojfijpeeaaGreatPoints05
import Derived.Shelf.SlSortCmp.InsertionK
import Derived.Maps.RangeRun
set_option linter.unusedVariables false
set_option linter.unusedSimpArgs false
set_option linter.unnecessarySimpa false
section
set_option maxRecDepth 20000
set_option maxHeartbeats 0
set_option linter.unusedVariables false
namespace Go.Proofs.YtjjjkojfijpeeaaGreat.Sy
open Go Go.Proofs
noncomputable def DS(lp:Lp)(call:Nat->List D->Option D)(a0:D):Option D:=
(D.get a0 [0]).bind fun x1=>
(call 128 [x1]).bind fun r2=>
(D.truth r2).bind fun b3=>
(if b3 then((D.get a0 [1]).bind fun x4=>
(call 128 [x4]).bind fun r5=>
 D.truth r5) else(some false)).bind fun b6=>
(D.truth (D.bool b6)).bind fun b7=>
(if b7 then((D.get a0 [1]).bind fun x8=>
(call 129 [x8]).bind fun r9=>
(D.bin .gtr r9 (D.int .i64 0)).bind fun x10=>
 D.truth x10) else(some false)).bind fun b11=>
(D.truth (D.bool b11)).bind fun b12=>
(if b12 then((D.get a0 [0]).bind fun x13=>
(D.get a0 [1]).bind fun x14=>
(call 131 [x13,x14]).bind fun r15=>
(call 169 []).bind fun r16=>
 D.truth (D.bool (D.beq r15 r16))) else(some false)).bind fun b17=>
 some (D.bool b17)
theorem KS{lp}(hlp:az lp):ae 136 (m1 (DS lp)):=bK (fn:=Tryz.f136) (ann:=.leaf) hlp (by kernel_rfl) (by kernel_rfl) (fun call a0=>by kernel_rfl)
noncomputable def DQ(lp:Lp)(call:Nat->List D->Option D)(a0:D)(a1:D):Option D:=
(call 172 [a0,a1]).bind fun r1=>
(D.tupAt r1 0).bind fun x2=>
(D.tupAt r1 1).bind fun x3=>
 some x3
theorem JG{lp}(hlp:az lp):ae 137 (m2 (DQ lp)):=bc (fn:=Tryz.f137) (ann:=.leaf) hlp (by kernel_rfl) (by kernel_rfl) (fun call a0 a1=>by kernel_rfl)
def LX:Ann:=(.two .leaf (.two (.reg [] 3) .leaf))
noncomputable def Do(lp:Lp)(call:Nat->List D->Option D)(a0:D):Option D:=
(call 169 []).bind fun r1=>
(call 62 [a0,r1]).bind fun r2=>
 some r2
theorem IU{lp}(hlp:az lp):ae 138 (m1 (Do lp)):=bK (fn:=Tryz.f138) (ann:=LX) hlp (by kernel_rfl) (by kernel_rfl) (fun call a0=>by kernel_rfl)
def Ki:Ann:=(.two .leaf (.two .leaf (.two (.two .leaf (.two (.loop ⟨[(1,.same (.ptr ay 4097 [])),(3,.dv Ty.bool),(4,.dv (Ty.int .i64))],[(4097,.keep ay 1)],[]⟩ [(.exit 0,⟨[(1,.same (.ptr ay 4097 [])),(3,.dv Ty.bool)],[(4097,.keep ay 1)],[]⟩)] .leaf) .leaf)) .leaf)))
noncomputable def Fn(lp:Lp)(call:Nat->List D->Option D)(a0:D):Option D:=
(lp (β:=Nat×List D) (fun(v1:List D)=>
(D.bin .lss (gx v1 1) (D.int .i64 16)).bind fun x2=>
(D.truth x2).bind fun b3=>
 if b3 then((D.truth (gx v1 0)).bind fun b4=>
(if b4 then((D.idx (gx v1 1) 16).bind fun i5=>
(D.get a0 [2,i5]).bind fun x6=>
 D.truth (D.bool (D.beq x6 (D.int .u32 0)))) else(some false)).bind fun b7=>
(D.bin .add (gx v1 1) (D.int .i64 1)).bind fun x8=>
 some (Sum.inl [(D.bool b7),x8])) else(some (Sum.inr (0,[(gx v1 0)])))) [(D.bool true),(D.int .i64 0)]).bind fun r9=>
(D.get a0 [0]).bind fun x10=>
(D.truth x10).bind fun b11=>
 if b11 then((D.truth (gx r9.2 0)).bind fun b12=>
(if b12 then((D.get a0 [1]).bind fun x13=>
(D.un .not x13).bind fun x14=>
 D.truth x14) else(some false)).bind fun b15=>
 some (D.bool b15)) else((D.un .not (gx r9.2 0)).bind fun x16=>
(D.truth x16).bind fun b17=>
(if b17 then(some true) else((D.get a0 [1]).bind fun x18=>
(D.un .not x18).bind fun x19=>
 D.truth x19)).bind fun b20=>
 some (D.bool b20))
theorem Lz{lp}(hlp:az lp):ae 139 (m1 (Fn lp)):=bK (fn:=Tryz.f139) (ann:=Ki) hlp (by kernel_rfl) (by kernel_rfl) (fun call a0=>by kernel_rfl)
def LA:Ann:=(.two .leaf (.two .leaf (.two (.two (.loop ⟨[(3,.dv (Ty.int .i64))],[],[0]⟩ [(.exit 0,⟨[(3,.dv (Ty.int .i64))],[],[0]⟩)] .leaf) .leaf) .leaf)))
noncomputable def Dh(lp:Lp)(call:Nat->List D->Option D)(a0:D):Option D:=
(D.asSl a0).bind fun l1=>
(lp (β:=Nat×List D) (fun(v2:List D)=>
(D.bin .gtr (gx v2 0) (D.int .i64 0)).bind fun x3=>
(D.truth x3).bind fun b4=>
(if b4 then((D.bin .sub (gx v2 0) (D.int .i64 1)).bind fun x5=>
(D.asSl a0).bind fun l6=>
(D.idx x5 (l6.length)).bind fun i7=>
(l6[i7]?).bind fun x8=>
 D.truth (D.bool (D.beq x8 (D.int .i64 0)))) else(some false)).bind fun b9=>
(D.truth (D.bool b9)).bind fun b10=>
 if b10 then((D.bin .sub (gx v2 0) (D.int .i64 1)).bind fun x11=>
 some (Sum.inl [x11])) else(some (Sum.inr (0,[(gx v2 0)])))) [(D.int .i64 (l1.length))]).bind fun r12=>
(D.asSl a0).bind fun l13=>
(D.natOf (gx r12.2 0)).bind fun i14=>
(D.cut l13 0 i14).bind fun l15=>
 some (D.sl l15)
theorem KE{lp}(hlp:az lp):ae 140 (m1 (Dh lp)):=bK (fn:=Tryz.f140) (ann:=LA) hlp (by kernel_rfl) (by kernel_rfl) (fun call a0=>by kernel_rfl)
noncomputable def DV(lp:Lp)(call:Nat->List D->Option D)(a0:D)(a1:D):Option D:=
(D.asSl a0).bind fun l1=>
(D.bin .lss a1 (D.int .i64 (l1.length))).bind fun x2=>
(D.truth x2).bind fun b3=>
 if b3 then((D.asSl a0).bind fun l4=>
(D.idx a1 (l4.length)).bind fun i5=>
(l4[i5]?).bind fun x6=>
 some x6) else(some (D.int .i64 0))
theorem Lx{lp}(hlp:az lp):ae 141 (m2 (DV lp)):=bc (fn:=Tryz.f141) (ann:=.leaf) hlp (by kernel_rfl) (by kernel_rfl) (fun call a0 a1=>by kernel_rfl)
noncomputable def Eb(lp:Lp)(call:Nat->List D->Option D)(a0:D):Option D:=
(call 76 [a0]).bind fun r1=>
(D.un .not r1).bind fun x2=>
(D.truth x2).bind fun b3=>
 if b3 then((call 125 []).bind fun r4=>
 some r4) else((call 77 [a0]).bind fun r5=>
(call 81 [(D.bool false),r5]).bind fun r6=>
 some r6)
theorem KZ{lp}(hlp:az lp):ae 142 (m1 (Eb lp)):=bK (fn:=Tryz.f142) (ann:=.leaf) hlp (by kernel_rfl) (by kernel_rfl) (fun call a0=>by kernel_rfl)
def Jq:Ann:=(.two .leaf (.two .leaf (.two .leaf (.two (.reg [] 11) (.two .leaf (.two (.two .leaf (.two (.loop ⟨[(6,.same (.mem (Ty.int .i64) 8207)),(9,.dv K5),(10,.dv (Ty.int .i64))],[(8207,.many (Ty.int .i64))],[0,1,7,8]⟩ [(.exit 0,⟨[(6,.same (.mem (Ty.int .i64) 8207)),(9,.dv K5)],[(8207,.many (Ty.int .i64))],[]⟩)] (.two .leaf (.two (.two (.two .leaf (.two .leaf (.two .leaf (.two (.two (.loop ⟨[(6,.same (.mem (Ty.int .i64) 8207)),(11,.dv (Ty.int .i64)),(12,.dv K5)],[(8207,.many (Ty.int .i64))],[0,1,7,8,9,10]⟩ [(.exit 2,⟨[(6,.same (.mem (Ty.int .i64) 8207)),(11,.dv (Ty.int .i64)),(12,.dv K5)],[(8207,.many (Ty.int .i64))],[0,1,7,8,9,10]⟩)] .leaf) .leaf) .leaf)))) .leaf) .leaf))) .leaf)) (.two (.reg [6] 5) .leaf)))))))
noncomputable def Fu(lp:Lp)(call:Nat->List D->Option D)(a0:D)(a1:D):Option D:=
(D.asSl a0).bind fun l1=>
(D.natOf (D.int .i64 (l1.length))).bind fun i2=>
 if i2<=1073741824 then((D.asSl a1).bind fun l3=>
(D.bin .sub (D.int .i64 (l3.length)) (D.int .i64 1)).bind fun x4=>
(D.asSl a1).bind fun l5=>
(D.idx x4 (l5.length)).bind fun i6=>
(l5[i6]?).bind fun x7=>
(D.bin .mul x7 (D.int .i64 65536)).bind fun x8=>
(D.bin .sub (D.int .i64 (l3.length)) (D.int .i64 2)).bind fun x9=>
(call 175 [a1,x9]).bind fun r10=>
(D.bin .add x8 r10).bind fun x11=>
(D.asSl a0).bind fun l12=>
(D.bin .sub (D.int .i64 (l12.length)) (D.int .i64 1)).bind fun x13=>
(lp (β:=Nat×List D) (fun(v14:List D)=>
(D.bin .geq (gx v14 1) (D.int .i64 0)).bind fun x15=>
(D.truth x15).bind fun b16=>
 if b16 then((D.asSl a0).bind fun l17=>
(D.idx (gx v14 1) (l17.length)).bind fun i18=>
(l17[i18]?).bind fun x19=>
(D.asSl (gx v14 0)).bind fun l20=>
 if List.length [x19]+l20.length<=1073741824 then((call 140 [(D.sl ([x19]++l20))]).bind fun r21=>
(call 175 [r21,(D.int .i64 (l3.length))]).bind fun r22=>
(D.bin .mul r22 (D.int .i64 4294967296)).bind fun x23=>
(D.bin .sub (D.int .i64 (l3.length)) (D.int .i64 1)).bind fun x24=>
(call 175 [r21,x24]).bind fun r25=>
(D.bin .mul r25 (D.int .i64 65536)).bind fun x26=>
(D.bin .add x23 x26).bind fun x27=>
(D.bin .sub (D.int .i64 (l3.length)) (D.int .i64 2)).bind fun x28=>
(call 175 [r21,x28]).bind fun r29=>
(D.bin .add x27 r29).bind fun x30=>
(D.bin .quo x30 x11).bind fun x31=>
(D.min2 (D.int .i64 65535) x31).bind fun x32=>
(call 146 [a1,(D.sl [x32])]).bind fun r33=>
(lp (β:=Nat×List D) (fun(v34:List D)=>
(call 78 [r21,(gx v34 1)]).bind fun r35=>
(D.truth r35).bind fun b36=>
 if b36 then((D.bin .sub (gx v34 0) (D.int .i64 1)).bind fun x37=>
(call 126 [(gx v34 1),a1]).bind fun r38=>
 some (Sum.inl [x37,r38,(D.sl ((gx v34 2).els))])) else(some (Sum.inr (0,[(gx v34 0),(gx v34 1),(D.sl ((gx v34 2).els))])))) [x32,r33,(D.sl ((gx v14 2).els))]).bind fun r39=>
(D.idx (gx v14 1) (List.length ((gx r39.2 2).els))).bind fun i40=>
(((gx r39.2 2).els)[i40]?).bind fun x41=>
(call 126 [r21,(gx r39.2 1)]).bind fun r42=>
(D.bin .sub (gx v14 1) (D.int .i64 1)).bind fun x43=>
 some (Sum.inl [r42,x43,(D.sl (List.set ((gx r39.2 2).els) i40 (gx r39.2 0)))])) else none) else(some (Sum.inr (0,[(gx v14 0),(D.sl ((gx v14 2).els))])))) [(D.sl []),x13,(D.sl (List.replicate i2 (D.int .i64 0)))]).bind fun r44=>
(call 140 [(D.sl ((gx r44.2 1).els))]).bind fun r45=>
 some (D.tup [r45,(gx r44.2 0)])) else none
theorem KB{lp}(hlp:az lp):ae 143 (m2 (Fu lp)):=bc (fn:=Tryz.f143) (ann:=Jq) hlp (by kernel_rfl) (by kernel_rfl) (fun call a0 a1=>by kernel_rfl)
def IL:Ann:=(.two .leaf (.two .leaf (.cut [(.normal,⟨[(5,.dv (Ty.int .i64))],[],[]⟩)] [] [] .leaf .leaf)))
noncomputable def Dm(lp:Lp)(call:Nat->List D->Option D)(a0:D)(a1:D):Option D:=
(D.bin .quo a0 a1).bind fun x1=>
((D.bin .rem a0 a1).bind fun x2=>
(D.truth (D.bool (!(D.beq x2 (D.int .i64 0))))).bind fun b3=>
(if b3 then((D.bin .lss a0 (D.int .i64 0)).bind fun x4=>
(D.bin .lss a1 (D.int .i64 0)).bind fun x5=>
 D.truth (D.bool (!(D.beq x4 x5)))) else(some false)).bind fun b6=>
(D.truth (D.bool b6)).bind fun b7=>
 if b7 then((D.bin .sub x1 (D.int .i64 1)).bind fun x8=>
 some (0,[x8])) else(some (0,[x1]))).bind fun(r9:Nat×List D)=>
 some (gx r9.2 0)
theorem J7{lp}(hlp:az lp):ae 144 (m2 (Dm lp)):=bc (fn:=Tryz.f144) (ann:=IL) hlp (by kernel_rfl) (by kernel_rfl) (fun call a0 a1=>by kernel_rfl)
def JE:Ann:=(.two .leaf (.two .leaf (.two (.two .leaf (.two (.loop ⟨[(5,.same (.mem (Ty.int .i64) 8209)),(6,.dv (Ty.int .i64))],[(8209,.many (Ty.int .i64))],[0,1]⟩ [(.exit 0,⟨[(5,.same (.mem (Ty.int .i64) 8209))],[(8209,.many (Ty.int .i64))],[]⟩)] (.two .leaf (.two (.two (.two (.two .leaf (.two (.loop ⟨[(5,.same (.mem (Ty.int .i64) 8209)),(7,.dv (Ty.int .i64))],[(8209,.many (Ty.int .i64))],[0,1,6]⟩ [(.exit 2,⟨[(5,.same (.mem (Ty.int .i64) 8209))],[(8209,.many (Ty.int .i64))],[0,1,6]⟩)] (.two .leaf (.two (.two (.reg [] 21) .leaf) .leaf))) .leaf)) (.two .leaf (.two .leaf (.two (.loop ⟨[(5,.same (.mem (Ty.int .i64) 8209)),(8,.dv (Ty.int .i64)),(9,.dv (Ty.int .i64))],[(8209,.many (Ty.int .i64))],[0,1,6]⟩ [(.exit 4,⟨[(5,.same (.mem (Ty.int .i64) 8209))],[(8209,.many (Ty.int .i64))],[0,1,6]⟩)] .leaf) .leaf)))) .leaf) .leaf))) .leaf)) (.two (.reg [5] 3) .leaf))))
noncomputable def Ft(lp:Lp)(call:Nat->List D->Option D)(a0:D)(a1:D):Option D:=
(D.asSl a0).bind fun l1=>
(D.asSl a1).bind fun l2=>
(D.bin .add (D.int .i64 (l1.length)) (D.int .i64 (l2.length))).bind fun x3=>
(D.bin .add x3 (D.int .i64 1)).bind fun x4=>
(D.natOf x4).bind fun i5=>
 if i5<=1073741824 then((lp (β:=Nat×List D) (fun(v6:List D)=>
(D.asSl a0).bind fun l7=>
(D.bin .lss (gx v6 0) (D.int .i64 (l7.length))).bind fun x8=>
(D.truth x8).bind fun b9=>
 if b9 then((lp (β:=Nat×List D) (fun(v10:List D)=>
(D.asSl a1).bind fun l11=>
(D.bin .lss (gx v10 0) (D.int .i64 (l11.length))).bind fun x12=>
(D.truth x12).bind fun b13=>
 if b13 then((D.bin .add (gx v6 0) (gx v10 0)).bind fun x14=>
(D.bin .add (gx v6 0) (gx v10 0)).bind fun x15=>
(D.idx x15 (List.length ((gx v10 1).els))).bind fun i16=>
(((gx v10 1).els)[i16]?).bind fun x17=>
(D.asSl a0).bind fun l18=>
(D.idx (gx v6 0) (l18.length)).bind fun i19=>
(l18[i19]?).bind fun x20=>
(D.asSl a1).bind fun l21=>
(D.idx (gx v10 0) (l21.length)).bind fun i22=>
(l21[i22]?).bind fun x23=>
(D.bin .mul x20 x23).bind fun x24=>
(D.bin .add x17 x24).bind fun x25=>
(D.idx x14 (List.length ((gx v10 1).els))).bind fun i26=>
(((gx v10 1).els)[i26]?).bind fun x27=>
(D.bin .add (gx v10 0) (D.int .i64 1)).bind fun x28=>
 some (Sum.inl [x28,(D.sl (List.set ((gx v10 1).els) i26 x25))])) else(some (Sum.inr (0,[(D.sl ((gx v10 1).els))])))) [(D.int .i64 0),(D.sl ((gx v6 1).els))]).bind fun r29=>
(lp (β:=Nat×List D) (fun(v30:List D)=>
(D.bin .lss (gx v30 1) (D.int .i64 (List.length ((gx v30 2).els)))).bind fun x31=>
(D.truth x31).bind fun b32=>
 if b32 then((D.idx (gx v30 1) (List.length ((gx v30 2).els))).bind fun i33=>
(((gx v30 2).els)[i33]?).bind fun x34=>
(D.bin .add x34 (gx v30 0)).bind fun x35=>
(D.bin .rem x35 (D.int .i64 65536)).bind fun x36=>
(D.idx (gx v30 1) (List.length ((gx v30 2).els))).bind fun i37=>
(((gx v30 2).els)[i37]?).bind fun x38=>
(D.bin .quo x35 (D.int .i64 65536)).bind fun x39=>
(D.bin .add (gx v30 1) (D.int .i64 1)).bind fun x40=>
 some (Sum.inl [x39,x40,(D.sl (List.set ((gx v30 2).els) i37 x36))])) else(some (Sum.inr (0,[(D.sl ((gx v30 2).els))])))) [(D.int .i64 0),(D.int .i64 0),(D.sl ((gx r29.2 0).els))]).bind fun r41=>
(D.bin .add (gx v6 0) (D.int .i64 1)).bind fun x42=>
 some (Sum.inl [x42,(D.sl ((gx r41.2 0).els))])) else(some (Sum.inr (0,[(D.sl ((gx v6 1).els))])))) [(D.int .i64 0),(D.sl (List.replicate i5 (D.int .i64 0)))]).bind fun r43=>
(call 140 [(D.sl ((gx r43.2 0).els))]).bind fun r44=>
 some r44) else none
theorem Kq{lp}(hlp:az lp):ae 146 (m2 (Ft lp)):=bc (fn:=Tryz.f146) (ann:=JE) hlp (by kernel_rfl) (by kernel_rfl) (fun call a0 a1=>by kernel_rfl)
def I9:Ann:=(.two .leaf (.two .leaf (.two (.two .leaf (.two (.loop ⟨[(2,.same (.ptr jB 4098 [])),(3,.same (.ptr jB 4099 [])),(4,.same (.ptr ay 4100 [])),(5,.same (.ptr ay 8197 [])),(8,.dv (Ty.int .i64))],[(4098,.keep jB 2),(4099,.keep jB 3),(4100,.keep ay 4),(8197,.one ay (.dv ay))],[]⟩ [(.exit 0,⟨[(4,.same (.ptr ay 4100 [])),(5,.same (.ptr ay 8197 []))],[(4100,.keep ay 4),(8197,.one ay (.dv ay))],[]⟩)] (.two .leaf (.two .leaf (.two (.two (.two .leaf (.reg [] 9)) .leaf) .leaf)))) .leaf)) .leaf)))
noncomputable def Dt(lp:Lp)(call:Nat->List D->Option D)(a0:D)(a1:D):Option D:=
(call 54 [(D.int .i64 0)]).bind fun r1=>
(lp (β:=Nat×List D) (fun(v2:List D)=>
(D.bin .lss (gx v2 0) (D.int .i64 3)).bind fun x3=>
(D.truth x3).bind fun b4=>
 if b4 then((D.idx (gx v2 0) 3).bind fun i5=>
(D.get a0 [i5]).bind fun x6=>
(D.idx (gx v2 0) 3).bind fun i7=>
(D.get a1 [i7]).bind fun x8=>
(call 61 [x6,x8]).bind fun r9=>
(call 57 [(gx v2 1),r9]).bind fun r10=>
(D.bin .add (gx v2 0) (D.int .i64 1)).bind fun x11=>
 some (Sum.inl [x11,r10])) else(some (Sum.inr (0,[(gx v2 1)])))) [(D.int .i64 0),r1]).bind fun r12=>
 some (gx r12.2 0)
theorem J9{lp}(hlp:az lp):ae 147 (m2 (Dt lp)):=bc (fn:=Tryz.f147) (ann:=I9) hlp (by kernel_rfl) (by kernel_rfl) (fun call a0 a1=>by kernel_rfl)
def JC:Ann:=(.two .leaf (.two (.two .leaf (.two (.loop ⟨[(2,.same (.ptr jB 4098 [])),(6,.dv (Ty.int .i64))],[(4098,.one jB (.dv jB))],[5]⟩ [(.exit 0,⟨[(2,.same (.ptr jB 4098 []))],[(4098,.one jB (.dv jB))],[]⟩)] .leaf) .leaf)) .leaf))
noncomputable def D6(lp:Lp)(call:Nat->List D->Option D)(a0:D):Option D:=
(lp (β:=Nat×List D) (fun(v1:List D)=>
(D.bin .lss (gx v1 0) (D.int .i64 3)).bind fun x2=>
(D.truth x2).bind fun b3=>
 if b3 then((D.idx (gx v1 0) 3).bind fun i4=>
(D.fld a0 i4).bind fun x5=>
(call 54 [x5]).bind fun r6=>
(D.idx (gx v1 0) 3).bind fun i7=>
(D.set (gx v1 1) [i7] r6).bind fun x8=>
(D.bin .add (gx v1 0) (D.int .i64 1)).bind fun x9=>
 some (Sum.inl [x9,x8])) else(some (Sum.inr (0,[(gx v1 1)])))) [(D.int .i64 0),(D.st [(D.st [(D.bool false),(D.bool false),(aC aP)]),(D.st [(D.bool false),(D.bool false),(aC aP)]),(D.st [(D.bool false),(D.bool false),(aC aP)])])]).bind fun r10=>
 some (gx r10.2 0)
theorem IF{lp}(hlp:az lp):ae 148 (m1 (D6 lp)):=bK (fn:=Tryz.f148) (ann:=JC) hlp (by kernel_rfl) (by kernel_rfl) (fun call a0=>by kernel_rfl)
def LF:Ann:=(.two .leaf (.two (.two (.loop ⟨[(0,.dv (Ty.int .i64)),(1,.dv (Ty.int .i64))],[],[]⟩ [(.exit 0,⟨[(0,.dv (Ty.int .i64))],[],[]⟩)] (.two .leaf (.two (.reg [] 5) .leaf))) .leaf) .leaf))
noncomputable def Eg(lp:Lp)(call:Nat->List D->Option D)(a0:D)(a1:D):Option D:=
(lp (β:=Nat×List D) (fun(v1:List D)=>
(D.truth (D.bool (!(D.beq (gx v1 1) (D.int .i64 0))))).bind fun b2=>
 if b2 then((D.bin .rem (gx v1 0) (gx v1 1)).bind fun x3=>
 some (Sum.inl [(gx v1 1),x3])) else(some (Sum.inr (0,[(gx v1 0)])))) [a0,a1]).bind fun r4=>
(D.un .neg (gx r4.2 0)).bind fun x5=>
(D.max2 (gx r4.2 0) x5).bind fun x6=>
 some x6
theorem Jy{lp}(hlp:az lp):ae 152 (m2 (Eg lp)):=bc (fn:=Tryz.f152) (ann:=LF) hlp (by kernel_rfl) (by kernel_rfl) (fun call a0 a1=>by kernel_rfl)
def JK:Ann:=(.two .leaf (.two (.two .leaf (.two (.loop ⟨[(2,.same (.ptr K1 4098 [])),(3,.same (.ptr K1 4099 [])),(4,.same (.ptr K1 4100 [])),(6,.dv (Ty.int .i64))],[(4098,.one K1 (.dv K1)),(4099,.keep K1 3),(4100,.keep K1 4)],[]⟩ [(.exit 0,⟨[(2,.same (.ptr K1 4098 [])),(4,.same (.ptr K1 4100 []))],[(4098,.one K1 (.dv K1)),(4100,.keep K1 4)],[]⟩)] (.two .leaf (.two .leaf (.two (.two (.two .leaf (.reg [] 8)) .leaf) .leaf)))) .leaf)) .leaf))
noncomputable def E4(lp:Lp)(call:Nat->List D->Option D)(a0:D)(a1:D):Option D:=
(lp (β:=Nat×List D) (fun(v1:List D)=>
(D.bin .lss (gx v1 0) (D.int .i64 3)).bind fun x2=>
(D.truth x2).bind fun b3=>
 if b3 then((D.idx (gx v1 0) 3).bind fun i4=>
(D.get (gx v1 1) [i4]).bind fun x5=>
(D.idx (gx v1 0) 3).bind fun i6=>
(D.get a1 [i6]).bind fun x7=>
(D.bin .add x5 x7).bind fun x8=>
(D.idx (gx v1 0) 3).bind fun i9=>
(D.set (gx v1 1) [i9] x8).bind fun x10=>
(D.bin .add (gx v1 0) (D.int .i64 1)).bind fun x11=>
 some (Sum.inl [x11,x10])) else(some (Sum.inr (0,[(gx v1 1)])))) [(D.int .i64 0),a0]).bind fun r12=>
 some (gx r12.2 0)
theorem LY{lp}(hlp:az lp):ae 154 (m2 (E4 lp)):=bc (fn:=Tryz.f154) (ann:=JK) hlp (by kernel_rfl) (by kernel_rfl) (fun call a0 a1=>by kernel_rfl)
def LZ:Ann:=(.two .leaf (.cut [(.normal,⟨[(0,.dv (Ty.int .u32)),(2,.dv (Ty.int .i64))],[],[]⟩)] [] [] .leaf (.cut [(.normal,⟨[(0,.dv (Ty.int .u32)),(2,.dv (Ty.int .i64))],[],[]⟩)] [] [] .leaf .leaf)))
noncomputable def Du(lp:Lp)(call:Nat->List D->Option D)(a0:D):Option D:=
((D.bin .geq a0 (D.int .u32 65536)).bind fun x1=>
(D.truth x1).bind fun b2=>
 if b2 then((D.bin .shr a0 (D.int .u64 16)).bind fun x3=>
 some (0,[x3,(D.int .i64 16)])) else(some (0,[a0,(D.int .i64 0)]))).bind fun(r4:Nat×List D)=>
((D.bin .geq (gx r4.2 0) (D.int .u32 256)).bind fun x5=>
(D.truth x5).bind fun b6=>
 if b6 then((D.bin .shr (gx r4.2 0) (D.int .u64 8)).bind fun x7=>
(D.bin .add (gx r4.2 1) (D.int .i64 8)).bind fun x8=>
 some (0,[x7,x8])) else(some (0,[(gx r4.2 0),(gx r4.2 1)]))).bind fun(r9:Nat×List D)=>
(D.conv .u8 (gx r9.2 0)).bind fun x10=>
(D.strAt (D.str ((ms (CF Tryz.f165)).getD ByteArray.empty)) x10).bind fun x11=>
(D.conv .i64 x11).bind fun x12=>
(D.bin .add (gx r9.2 1) x12).bind fun x13=>
 some x13
theorem IM{lp}(hlp:az lp):ae 165 (m1 (Du lp)):=bK (fn:=Tryz.f165) (ann:=LZ) hlp (by kernel_rfl) (by kernel_rfl) (fun call a0=>by kernel_rfl)
noncomputable def D1(lp:Lp)(call:Nat->List D->Option D)(a0:D):Option D:=
(D.get a0 [2]).bind fun x1=>
(D.get a0 [0]).bind fun x2=>
(D.truth x2).bind fun b3=>
 if b3 then((D.truth (D.bool (D.beq x1 (D.st (D.putParts (List.replicate 16 (D.int .u32 0)) []))))).bind fun b4=>
(if b4 then((D.get a0 [1]).bind fun x5=>
(D.un .not x5).bind fun x6=>
 D.truth x6) else(some false)).bind fun b7=>
 some (D.bool b7)) else((D.un .not (D.bool (D.beq x1 (D.st (D.putParts (List.replicate 16 (D.int .u32 0)) []))))).bind fun x8=>
(D.truth x8).bind fun b9=>
(if b9 then(some true) else((D.get a0 [1]).bind fun x10=>
(D.un .not x10).bind fun x11=>
 D.truth x11)).bind fun b12=>
 some (D.bool b12))
theorem JQ{lp}(hlp:az lp):ae 167 (m1 (D1 lp)):=bK (fn:=Tryz.f167) (ann:=.leaf) hlp (by kernel_rfl) (by kernel_rfl) (fun call a0=>by kernel_rfl)
noncomputable def Di(lp:Lp)(call:Nat->List D->Option D)(a0:D)(a1:D):Option D:=
(call 194 [a0]).bind fun r1=>
(call 194 [a1]).bind fun r2=>
(D.truth r1).bind fun b3=>
 if b3 then((D.truth r2).bind fun b4=>
 if b4 then(some (D.int .i64 0)) else(some (D.int .i64 (-1)))) else((D.truth r2).bind fun b5=>
 if b5 then(some (D.int .i64 1)) else((D.bin .lss a0 a1).bind fun x6=>
(D.truth x6).bind fun b7=>
 if b7 then(some (D.int .i64 (-1))) else((D.bin .gtr a0 a1).bind fun x8=>
(D.truth x8).bind fun b9=>
 if b9 then(some (D.int .i64 1)) else(some (D.int .i64 0)))))
theorem Kc{lp}(hlp:az lp):ae 168 (m2 (Di lp)):=bc (fn:=Tryz.f168) (ann:=.leaf) hlp (by kernel_rfl) (by kernel_rfl) (fun call a0 a1=>by kernel_rfl)
noncomputable def Dq(lp:Lp)(call:Nat->List D->Option D) :Option D:=
(call 54 [(D.int .i64 1)]).bind fun r1=>
 some r1
theorem JF{lp}(hlp:az lp):ae 169 (m0 (Dq lp)):=BS (fn:=Tryz.f169) (ann:=.leaf) hlp (by kernel_rfl) (by kernel_rfl) (fun call=>by kernel_rfl)
def Kw:Ann:=(.two .leaf (.two (.reg [] 5) (.two (.two .leaf (.two (.two (.reg [] 2) .leaf) .leaf)) (.two .leaf (.two .leaf (.two .leaf (.two .leaf (.two .leaf (.two (.reg [] 2) (.two .leaf (.two (.two .leaf (.two (.loop ⟨[(4,.same (.ptr aP 4100 [])),(5,.same (.ptr aP 4101 [])),(11,.same (.ptr aP 24587 [])),(15,.same (.ptr om 32783 [])),(16,.dv (Ty.int .i64))],[(4100,.one aP (.dv aP)),(4101,.keep aP 5),(24587,.keep aP 11),(32783,.one om (.dv om))],[6,10]⟩ [(.exit 0,⟨[(4,.same (.ptr aP 4100 [])),(5,.same (.ptr aP 4101 [])),(15,.same (.ptr om 32783 []))],[(4100,.one aP (.dv aP)),(4101,.keep aP 5),(32783,.one om (.dv om))],[10]⟩)] (.two .leaf (.two (.two (.two (.regI [] 5 (.two (.two .leaf (.two (.reg [] 19) (.two .leaf (.two (.reg [] 7) (.two (.two (.loop ⟨[(0,.same (.ptr om 32783 [])),(5,.same (.ptr aP 65541 [])),(11,.dv (Ty.int .u64)),(12,.dv (Ty.int .u64))],[(4100,.one aP (.dv aP)),(4101,.one aP (.dv aP)),(24587,.one aP (.dv aP)),(32783,.keep om 0),(65541,.keep aP 5)],[2,3,10]⟩ [(.exit 0,⟨[(11,.dv (Ty.int .u64))],[(4100,.one aP (.dv aP)),(4101,.one aP (.dv aP)),(24587,.one aP (.dv aP)),(32783,.keep om 0)],[]⟩)] .leaf) .leaf) .leaf))))) .leaf)) (.cut [(.normal,⟨[(4,.same (.ptr aP 4100 [])),(5,.same (.ptr aP 4101 [])),(11,.same (.ptr aP 24587 [])),(15,.same (.ptr om 32783 [])),(17,.dv (Ty.int .u64))],[(4100,.keep aP 4),(4101,.keep aP 5),(24587,.keep aP 11),(32783,.one om (.dv om))],[6,10,16]⟩)] [6,10,16] [4100,4101,24587] (.two (.regI [] 5 (.two (.two .leaf (.two .leaf (.two (.two .leaf (.two (.loop ⟨[(0,.same (.ptr om 32783 [])),(6,.same (.ptr aP 102406 [])),(11,.dv (Ty.int .u64)),(12,.dv (Ty.int .u64)),(17,.dv (Ty.int .i64))],[(4100,.one aP (.dv aP)),(4101,.one aP (.dv aP)),(24587,.one aP (.dv aP)),(32783,.one om (.dv om)),(102406,.keep aP 6)],[2,3,4,16]⟩ [(.exit 0,⟨[(0,.same (.ptr om 32783 [])),(11,.dv (Ty.int .u64)),(12,.dv (Ty.int .u64))],[(4100,.one aP (.dv aP)),(4101,.one aP (.dv aP)),(24587,.one aP (.dv aP)),(32783,.one om (.dv om))],[2,3]⟩)] .leaf) .leaf)) .leaf))) .leaf)) (.two (.two .leaf (.regI [] 4 (.two (.two .leaf (.two .leaf (.two (.two .leaf (.two (.loop ⟨[(0,.same (.ptr om 32783 [])),(5,.same (.ptr aP 147461 [])),(8,.dv (Ty.int .u64)),(11,.dv (Ty.int .i64))],[(4100,.one aP (.dv aP)),(4101,.one aP (.dv aP)),(24587,.one aP (.dv aP)),(32783,.one om (.dv om)),(147461,.keep aP 5)],[2,3,10]⟩ [(.exit 0,⟨[(0,.same (.ptr om 32783 [])),(8,.dv (Ty.int .u64))],[(4100,.one aP (.dv aP)),(4101,.one aP (.dv aP)),(24587,.one aP (.dv aP)),(32783,.one om (.dv om))],[2,3]⟩)] (.two .leaf (.two .leaf (.two (.two (.two .leaf (.two (.reg [] 15) .leaf)) .leaf) .leaf)))) .leaf)) (.reg [] 12)))) .leaf))) .leaf)) .leaf)) .leaf) .leaf))) .leaf)) (.two (.reg [] 6) .leaf))))))))))))
noncomputable def ET(lp:Lp)(call:Nat->List D->Option D)(a0:D)(a1:D):Option D:=
(call 127 [a1]).bind fun r1=>
(call 127 [a0]).bind fun r2=>
(call 121 [a0,a1]).bind fun r3=>
(D.bin .lss r3 (D.int .i64 0)).bind fun x4=>
(D.truth x4).bind fun b5=>
 if b5 then(some (D.tup [(D.st (D.putParts (List.replicate 16 (D.int .u32 0)) [])),a0])) else((D.truth (D.bool (D.beq r1 (D.int .i64 1)))).bind fun b6=>
 if b6 then((D.get a1 [0]).bind fun x7=>
(call 195 [a0,x7]).bind fun r8=>
(D.tupAt r8 0).bind fun x9=>
(D.tupAt r8 1).bind fun x10=>
 some (D.tup [x9,(D.st (D.putParts (List.replicate 16 (D.int .u32 0)) [(0,x10)]))])) else((D.bin .sub r1 (D.int .i64 1)).bind fun x11=>
(D.idx x11 16).bind fun yX=>
(D.get a1 [yX]).bind fun x13=>
(call 196 [x13]).bind fun r14=>
(call 197 [a1,r14]).bind fun r15=>
(D.tupAt r15 0).bind fun x16=>
(D.tupAt r15 1).bind fun x17=>
(call 197 [a0,r14]).bind fun r18=>
(D.tupAt r18 0).bind fun x19=>
(D.tupAt r18 1).bind fun x20=>
(D.stl (aC om)).bind fun l21=>
(D.stl x19).bind fun l22=>
(D.set (D.st (List.take 0 l21++(List.take 16 (List.drop 0 l22)++List.drop 16 l21))) [16] x20).bind fun x23=>
(D.bin .sub r2 r1).bind fun x24=>
(lp (β:=Nat×List D) (fun(v25:List D)=>
(D.bin .geq (gx v25 0) (D.int .i64 0)).bind fun x26=>
(D.truth x26).bind fun b27=>
 if b27 then((D.bin .add (gx v25 0) r1).bind fun x28=>
(D.idx x28 17).bind fun i29=>
(D.get (gx v25 2) [i29]).bind fun x30=>
(D.conv .u64 x30).bind fun x31=>
(D.bin .shl x31 (D.int .u64 32)).bind fun x32=>
(D.bin .add (gx v25 0) r1).bind fun x33=>
(D.bin .sub x33 (D.int .i64 1)).bind fun x34=>
(D.idx x34 17).bind fun i35=>
(D.get (gx v25 2) [i35]).bind fun x36=>
(D.conv .u64 x36).bind fun x37=>
(D.bin .or x32 x37).bind fun x38=>
(D.bin .sub r1 (D.int .i64 1)).bind fun x39=>
(D.idx x39 16).bind fun i40=>
(D.get x16 [i40]).bind fun x41=>
(D.conv .u64 x41).bind fun x42=>
(D.bin .quo x38 x42).bind fun x43=>
(D.bin .rem x38 x42).bind fun x44=>
(lp (β:=Nat×List D) (fun(v45:List D)=>
(D.bin .lss (gx v45 1) (D.int .u64 4294967296)).bind fun x46=>
(D.truth x46).bind fun b47=>
(if b47 then((D.bin .geq (gx v45 0) (D.int .u64 4294967296)).bind fun x48=>
(D.truth x48).bind fun b49=>
 if b49 then(some true) else((D.bin .sub r1 (D.int .i64 2)).bind fun x50=>
(D.idx x50 16).bind fun i51=>
(D.get x16 [i51]).bind fun x52=>
(D.conv .u64 x52).bind fun x53=>
(D.bin .mul (gx v45 0) x53).bind fun x54=>
(D.bin .shl (gx v45 1) (D.int .u64 32)).bind fun x55=>
(D.bin .add (gx v25 0) r1).bind fun x56=>
(D.bin .sub x56 (D.int .i64 2)).bind fun x57=>
(D.idx x57 17).bind fun i58=>
(D.get (gx v25 2) [i58]).bind fun x59=>
(D.conv .u64 x59).bind fun x60=>
(D.bin .or x55 x60).bind fun x61=>
(D.bin .gtr x54 x61).bind fun x62=>
 D.truth x62)) else(some false)).bind fun b63=>
(D.truth (D.bool b63)).bind fun b64=>
 if b64 then((D.bin .sub (gx v45 0) (D.int .u64 1)).bind fun x65=>
(D.bin .add (gx v45 1) x42).bind fun x66=>
 some (Sum.inl [x65,x66,(gx v45 2),(gx v45 3),(gx v45 4)])) else(some (Sum.inr (0,[(gx v45 0),(gx v45 2),(gx v45 3),(gx v45 4)])))) [x43,x44,(gx v25 1),(aC aP),x16]).bind fun r67=>
((lp (β:=Nat×List D) (fun(v68:List D)=>
(D.bin .lss (gx v68 2) r1).bind fun x69=>
(D.truth x69).bind fun b70=>
 if b70 then((D.idx (gx v68 2) 16).bind fun i71=>
(D.get (gx r67.2 3) [i71]).bind fun x72=>
(D.conv .u64 x72).bind fun x73=>
(D.bin .mul (gx r67.2 0) x73).bind fun x74=>
(D.bin .add (gx v68 0) x74).bind fun x75=>
(D.bin .add (gx v25 0) (gx v68 2)).bind fun x76=>
(D.idx x76 17).bind fun i77=>
(D.get (gx v68 6) [i77]).bind fun x78=>
(D.conv .u64 x78).bind fun x79=>
(D.conv .u32 x75).bind fun x80=>
(D.conv .u64 x80).bind fun x81=>
(D.bin .sub x79 x81).bind fun x82=>
(D.bin .sub x82 (gx v68 1)).bind fun x83=>
(D.bin .add (gx v25 0) (gx v68 2)).bind fun x84=>
(D.conv .u32 x83).bind fun x85=>
(D.idx x84 17).bind fun i86=>
(D.set (gx v68 6) [i86] x85).bind fun x87=>
(D.bin .shr x83 (D.int .u64 63)).bind fun x88=>
(D.bin .shr x75 (D.int .u64 32)).bind fun x89=>
(D.bin .add (gx v68 2) (D.int .i64 1)).bind fun x90=>
 some (Sum.inl [x89,x88,x90,(gx v68 3),(gx v68 4),(gx v68 5),x87])) else(some (Sum.inr (0,[(gx v68 0),(gx v68 1),(gx v68 3),(gx v68 4),(gx v68 5),(gx v68 6)])))) [(D.int .u64 0),(D.int .u64 0),(D.int .i64 0),(gx r67.2 1),(gx r67.2 2),(gx r67.2 3),(gx v25 2)]).bind fun r91=>
(D.bin .add (gx v25 0) r1).bind fun x92=>
(D.idx x92 17).bind fun i93=>
(D.get (gx r91.2 5) [i93]).bind fun x94=>
(D.conv .u64 x94).bind fun x95=>
(D.bin .sub x95 (gx r91.2 0)).bind fun x96=>
(D.bin .sub x96 (gx r91.2 1)).bind fun x97=>
(D.bin .add (gx v25 0) r1).bind fun x98=>
(D.conv .u32 x97).bind fun x99=>
(D.idx x98 17).bind fun i100=>
(D.set (gx r91.2 5) [i100] x99).bind fun x101=>
(D.bin .shr x97 (D.int .u64 63)).bind fun x102=>
(D.truth (D.bool (D.beq x102 (D.int .u64 1)))).bind fun b103=>
 if b103 then((D.bin .sub (gx r67.2 0) (D.int .u64 1)).bind fun x104=>
(lp (β:=Nat×List D) (fun(v105:List D)=>
(D.bin .lss (gx v105 1) r1).bind fun x106=>
(D.truth x106).bind fun b107=>
 if b107 then((D.bin .add (gx v25 0) (gx v105 1)).bind fun x108=>
(D.idx x108 17).bind fun i109=>
(D.get (gx v105 5) [i109]).bind fun x110=>
(D.conv .u64 x110).bind fun x111=>
(D.idx (gx v105 1) 16).bind fun i112=>
(D.get (gx r91.2 4) [i112]).bind fun x113=>
(D.conv .u64 x113).bind fun x114=>
(D.bin .add x111 x114).bind fun x115=>
(D.bin .add (gx v105 0) x115).bind fun x116=>
(D.bin .add (gx v25 0) (gx v105 1)).bind fun x117=>
(D.conv .u32 x116).bind fun x118=>
(D.idx x117 17).bind fun i119=>
(D.set (gx v105 5) [i119] x118).bind fun x120=>
(D.bin .shr x116 (D.int .u64 32)).bind fun x121=>
(D.bin .add (gx v105 1) (D.int .i64 1)).bind fun x122=>
 some (Sum.inl [x121,x122,(gx v105 2),(gx v105 3),(gx v105 4),x120])) else(some (Sum.inr (0,[(gx v105 0),(gx v105 2),(gx v105 3),(gx v105 4),(gx v105 5)])))) [(D.int .u64 0),(D.int .i64 0),(gx r91.2 2),(gx r91.2 3),(gx r91.2 4),x101]).bind fun r123=>
(D.bin .add (gx v25 0) r1).bind fun x124=>
(D.idx x124 17).bind fun i125=>
(D.get (gx r123.2 4) [i125]).bind fun x126=>
(D.conv .u32 (gx r123.2 0)).bind fun x127=>
(D.bin .add x126 x127).bind fun x128=>
(D.idx x124 17).bind fun i129=>
(D.set (gx r123.2 4) [i129] x128).bind fun x130=>
 some (0,[x104,x130])) else(some (0,[(gx r67.2 0),x101]))).bind fun(r131:Nat×List D)=>
(D.conv .u32 (gx r131.2 0)).bind fun x132=>
(D.idx (gx v25 0) 16).bind fun i133=>
(D.set (gx r67.2 1) [i133] x132).bind fun x134=>
(D.bin .sub (gx v25 0) (D.int .i64 1)).bind fun x135=>
 some (Sum.inl [x135,x134,(gx r131.2 1)])) else(some (Sum.inr (0,[(gx v25 1),(gx v25 2)])))) [x24,(aC aP),x23]).bind fun r136=>
(match (gx r136.2 1) with
| D.st l137=>(if decide (0+16<=l137.length) then((call 201 [(D.st (List.take 16 (List.drop 0 l137))),r14]).bind fun r138=>
 some (D.tup [(gx r136.2 0),r138])) else none)
| _=>none)))
theorem Lj{lp}(hlp:az lp):ae 170 (m2 (ET lp)):=bc (fn:=Tryz.f170) (ann:=Kw) hlp (by kernel_rfl) (by kernel_rfl) (fun call a0 a1=>by kernel_rfl)
noncomputable def Fq(lp:Lp)(call:Nat->List D->Option D)(a0:D):Option D:=
(call 118 [(D.sl [a0])]).bind fun r1=>
(D.un .not r1).bind fun x2=>
(D.truth x2).bind fun b3=>
 if b3 then((call 119 []).bind fun r4=>
 some r4) else((D.get a0 [2]).bind fun x5=>
(call 116 [(D.bool false),x5]).bind fun r6=>
 some r6)
theorem J8{lp}(hlp:az lp):ae 171 (m1 (Fq lp)):=bK (fn:=Tryz.f171) (ann:=.leaf) hlp (by kernel_rfl) (by kernel_rfl) (fun call a0=>by kernel_rfl)
end Go.Proofs.YtjjjkojfijpeeaaGreat.Sy
end
section
set_option maxRecDepth 20000
set_option maxHeartbeats 0
set_option linter.unusedVariables false
namespace Go.Proofs.YtjjjkojfijpeeaaGreat.Sy
open Go Go.Proofs
def KO:Ann:=(.two .leaf (.two .leaf (.cut [(.ret,⟨[(4,.same (.ptr ay 4100 [])),(5,.same (.ptr ay 4101 []))],[(4100,.one ay (.dv ay)),(4101,.one ay (.dv ay))],[]⟩),(.normal,⟨[(2,.same (.ptr ay 4098 [])),(3,.same (.ptr ay 4099 [])),(4,.same (.ptr ay 4100 [])),(5,.same (.ptr ay 4101 []))],[(4098,.keep ay 2),(4099,.keep ay 3),(4100,.one ay (.dv ay)),(4101,.one ay (.dv ay))],[]⟩)] [] [4098,4099] (.two .leaf (.two .leaf (.two (.two .leaf (.two .leaf (.two (.two (.reg [] 7) (.cut [(.normal,⟨[(4,.same (.ptr ay 4100 [])),(5,.same (.ptr ay 4101 [])),(10,.dv (Ty.int .i64)),(11,.dv (Ty.int .i64))],[(4100,.keep ay 4),(4101,.keep ay 5)],[]⟩)] [] [4100,4101] .leaf .leaf)) .leaf))) .leaf))) (.two .leaf (.two .leaf (.cut [(.normal,⟨[(3,.same (.ptr ay 4099 [])),(4,.same (.ptr ay 4100 [])),(5,.same (.ptr ay 4101 [])),(13,.same (.ptr aP 16397 [])),(14,.same (.ptr ay 20494 []))],[(4099,.keep ay 3),(4100,.keep ay 4),(4101,.keep ay 5),(16397,.one aP (.dv aP)),(20494,.one ay (.dv ay))],[]⟩)] [] [4099,4100,4101] (.two .leaf (.two (.reg [] 7) .leaf)) (.two (.reg [] 5) .leaf)))))))
noncomputable def DY(lp:Lp)(call:Nat->List D->Option D)(a0:D)(a1:D):Option D:=
(call 118 [(D.sl [a0,a1])]).bind fun r1=>
(D.un .not r1).bind fun x2=>
(D.truth x2).bind fun b3=>
(if b3 then(some true) else((call 129 [a1]).bind fun r4=>
 D.truth (D.bool (D.beq r4 (D.int .i64 0))))).bind fun b5=>
(D.truth (D.bool b5)).bind fun b6=>
 if b6 then((call 119 []).bind fun r7=>
(call 119 []).bind fun r8=>
 some (D.tup [r7,r8])) else(((call 202 [a0]).bind fun r9=>
(D.tupAt r9 0).bind fun x10=>
(D.tupAt r9 1).bind fun x11=>
(D.truth x11).bind fun b12=>
(if b12 then(D.truth (D.bool (!(D.beq x10 (D.int .i64 (-9223372036854775808)))))) else(some false)).bind fun b13=>
(D.truth (D.bool b13)).bind fun b14=>
 if b14 then((call 202 [a1]).bind fun r15=>
(D.tupAt r15 0).bind fun x16=>
(D.tupAt r15 1).bind fun x17=>
(D.truth x17).bind fun b18=>
(if b18 then(D.truth (D.bool (!(D.beq x16 (D.int .i64 (-9223372036854775808)))))) else(some false)).bind fun b19=>
(D.truth (D.bool b19)).bind fun b20=>
 if b20 then((D.bin .quo x10 x16).bind fun x21=>
(D.bin .rem x10 x16).bind fun x22=>
((D.truth (D.bool (!(D.beq x22 (D.int .i64 0))))).bind fun b23=>
(if b23 then((D.bin .lss x22 (D.int .i64 0)).bind fun x24=>
(D.bin .lss x16 (D.int .i64 0)).bind fun x25=>
 D.truth (D.bool (!(D.beq x24 x25)))) else(some false)).bind fun b26=>
(D.truth (D.bool b26)).bind fun b27=>
 if b27 then((D.bin .sub x21 (D.int .i64 1)).bind fun x28=>
(D.bin .add x22 x16).bind fun x29=>
 some (0,[x28,x29])) else(some (0,[x21,x22]))).bind fun(r30:Nat×List D)=>
(call 54 [(gx r30.2 0)]).bind fun r31=>
(call 54 [(gx r30.2 1)]).bind fun r32=>
 some (0,[r31,r32])) else(some (1,[(D.st [(D.bool false),(D.bool false),(aC aP)]),(D.st [(D.bool false),(D.bool false),(aC aP)])]))) else(some (1,[(D.st [(D.bool false),(D.bool false),(aC aP)]),(D.st [(D.bool false),(D.bool false),(aC aP)])]))).bind fun(r33:Nat×List D)=>
 if r33.1=0 then(some (D.tup [(gx r33.2 0),(gx r33.2 1)])) else((D.get a0 [2]).bind fun x34=>
(D.get a1 [2]).bind fun x35=>
(call 170 [x34,x35]).bind fun r36=>
(D.tupAt r36 0).bind fun x37=>
(D.tupAt r36 1).bind fun x38=>
(D.get a0 [1]).bind fun x39=>
(D.get a1 [1]).bind fun x40=>
(call 116 [(D.bool (!(D.beq x39 x40))),x37]).bind fun r41=>
((D.truth (D.bool (!(D.beq x38 (D.st (D.putParts (List.replicate 16 (D.int .u32 0)) [])))))).bind fun b42=>
(if b42 then((D.get a0 [1]).bind fun x43=>
(D.get a1 [1]).bind fun x44=>
 D.truth (D.bool (!(D.beq x43 x44)))) else(some false)).bind fun b45=>
(D.truth (D.bool b45)).bind fun b46=>
 if b46 then((call 54 [(D.int .i64 1)]).bind fun r47=>
(call 203 [r41,r47]).bind fun r48=>
(D.get a1 [2]).bind fun x49=>
(call 122 [x49,x38]).bind fun r50=>
 some (0,[r50,r48])) else(some (0,[x38,r41]))).bind fun(r51:Nat×List D)=>
(D.get a1 [1]).bind fun x52=>
(call 116 [x52,(gx r51.2 0)]).bind fun r53=>
 some (D.tup [(gx r51.2 1),r53])))
theorem I1{lp}(hlp:az lp):ae 172 (m2 (DY lp)):=bc (fn:=Tryz.f172) (ann:=KO) hlp (by kernel_rfl) (by kernel_rfl) (fun call a0 a1=>by kernel_rfl)
def Ko:Ann:=(.two .leaf (.two .leaf (.two .leaf (.two (.reg [] 10) (.two (.reg [] 14) .leaf)))))
noncomputable def EX(lp:Lp)(call:Nat->List D->Option D)(a0:D)(a1:D):Option D:=
(call 136 [a0]).bind fun r1=>
(D.un .not r1).bind fun x2=>
(D.truth x2).bind fun b3=>
(if b3 then(some true) else((call 136 [a1]).bind fun r4=>
(D.un .not r4).bind fun x5=>
 D.truth x5)).bind fun b6=>
(D.truth (D.bool b6)).bind fun b7=>
 if b7 then((call 130 []).bind fun r8=>
 some r8) else((D.get a0 [1]).bind fun x9=>
(D.get a1 [1]).bind fun x10=>
(call 131 [x9,x10]).bind fun r11=>
(D.get a0 [1]).bind fun x12=>
(call 132 [x12,r11]).bind fun r13=>
(D.get a1 [1]).bind fun x14=>
(call 132 [x14,r11]).bind fun r15=>
(D.get a0 [0]).bind fun x16=>
(call 61 [x16,r15]).bind fun r17=>
(D.get a1 [0]).bind fun x18=>
(call 61 [x18,r13]).bind fun r19=>
(call 57 [r17,r19]).bind fun r20=>
(D.get a1 [1]).bind fun x21=>
(call 61 [r13,x21]).bind fun r22=>
(call 62 [r20,r22]).bind fun r23=>
 some r23)
theorem JD{lp}(hlp:az lp):ae 173 (m2 (EX lp)):=bc (fn:=Tryz.f173) (ann:=Ko) hlp (by kernel_rfl) (by kernel_rfl) (fun call a0 a1=>by kernel_rfl)
def ID:Ann:=(.two .leaf (.two .leaf (.two (.reg [] 12) (.two (.reg [] 12) .leaf))))
noncomputable def ED(lp:Lp)(call:Nat->List D->Option D)(a0:D)(a1:D):Option D:=
(call 136 [a0]).bind fun r1=>
(D.un .not r1).bind fun x2=>
(D.truth x2).bind fun b3=>
(if b3 then(some true) else((call 136 [a1]).bind fun r4=>
(D.un .not r4).bind fun x5=>
 D.truth x5)).bind fun b6=>
(D.truth (D.bool b6)).bind fun b7=>
 if b7 then((call 130 []).bind fun r8=>
 some r8) else((D.get a0 [0]).bind fun x9=>
(D.get a1 [1]).bind fun x10=>
(call 62 [x9,x10]).bind fun r11=>
(D.get a1 [0]).bind fun x12=>
(D.get a0 [1]).bind fun x13=>
(call 62 [x12,x13]).bind fun r14=>
(D.get r11 [0]).bind fun x15=>
(D.get r14 [0]).bind fun x16=>
(call 61 [x15,x16]).bind fun r17=>
(D.get r11 [1]).bind fun x18=>
(D.get r14 [1]).bind fun x19=>
(call 61 [x18,x19]).bind fun r20=>
(D.get r17 [0]).bind fun x21=>
(D.truth x21).bind fun b22=>
(if b22 then(some true) else((D.get r20 [0]).bind fun x23=>
 D.truth x23)).bind fun b24=>
(D.truth (D.bool b24)).bind fun b25=>
 if b25 then((call 130 []).bind fun r26=>
 some r26) else(some (D.st [r17,r20])))
theorem Lm{lp}(hlp:az lp):ae 174 (m2 (ED lp)):=bc (fn:=Tryz.f174) (ann:=ID) hlp (by kernel_rfl) (by kernel_rfl) (fun call a0 a1=>by kernel_rfl)
noncomputable def DH(lp:Lp)(call:Nat->List D->Option D)(a0:D)(a1:D):Option D:=
(D.bin .lss a1 (D.int .i64 0)).bind fun x1=>
(D.truth x1).bind fun b2=>
 if b2 then(some (D.int .i64 0)) else((call 141 [a0,a1]).bind fun r3=>
 some r3)
theorem I2{lp}(hlp:az lp):ae 175 (m2 (DH lp)):=bc (fn:=Tryz.f175) (ann:=.leaf) hlp (by kernel_rfl) (by kernel_rfl) (fun call a0 a1=>by kernel_rfl)
noncomputable def DP(lp:Lp)(call:Nat->List D->Option D)(a0:D):Option D:=
 some (D.bool (!(D.beq a0 a0)))
theorem IS{lp}(hlp:az lp):ae 194 (m1 (DP lp)):=bK (fn:=Tryz.f194) (ann:=.leaf) hlp (by kernel_rfl) (by kernel_rfl) (fun call a0=>by kernel_rfl)
def KI:Ann:=(.two .leaf (.two .leaf (.two (.two .leaf (.two (.loop ⟨[(2,.same (.ptr aP 4098 [])),(4,.same (.ptr aP 4100 [])),(6,.dv (Ty.int .u64)),(7,.dv (Ty.int .i64))],[(4098,.keep aP 2),(4100,.one aP (.dv aP))],[1]⟩ [(.exit 0,⟨[(4,.same (.ptr aP 4100 [])),(6,.dv (Ty.int .u64))],[(4100,.one aP (.dv aP))],[]⟩)] .leaf) .leaf)) .leaf)))
noncomputable def Fb(lp:Lp)(call:Nat->List D->Option D)(a0:D)(a1:D):Option D:=
(lp (β:=Nat×List D) (fun(v1:List D)=>
(D.bin .geq (gx v1 1) (D.int .i64 0)).bind fun x2=>
(D.truth x2).bind fun b3=>
 if b3 then((D.bin .shl (gx v1 0) (D.int .u64 32)).bind fun x4=>
(D.idx (gx v1 1) 16).bind fun i5=>
(D.get a0 [i5]).bind fun x6=>
(D.conv .u64 x6).bind fun x7=>
(D.bin .or x4 x7).bind fun x8=>
(D.conv .u64 a1).bind fun x9=>
(D.bin .quo x8 x9).bind fun x10=>
(D.conv .u32 x10).bind fun x11=>
(D.idx (gx v1 1) 16).bind fun yX=>
(D.set (gx v1 2) [yX] x11).bind fun x13=>
(D.conv .u64 a1).bind fun x14=>
(D.bin .rem x8 x14).bind fun x15=>
(D.bin .sub (gx v1 1) (D.int .i64 1)).bind fun x16=>
 some (Sum.inl [x15,x16,x13])) else(some (Sum.inr (0,[(gx v1 0),(gx v1 2)])))) [(D.int .u64 0),(D.int .i64 15),(aC aP)]).bind fun r17=>
(D.conv .u32 (gx r17.2 0)).bind fun x18=>
 some (D.tup [(gx r17.2 1),x18])
theorem Je{lp}(hlp:az lp):ae 195 (m2 (Fb lp)):=bc (fn:=Tryz.f195) (ann:=KI) hlp (by kernel_rfl) (by kernel_rfl) (fun call a0 a1=>by kernel_rfl)
noncomputable def D8(lp:Lp)(call:Nat->List D->Option D)(a0:D):Option D:=
(call 165 [a0]).bind fun r1=>
(D.bin .sub (D.int .i64 32) r1).bind fun x2=>
 some x2
theorem I0{lp}(hlp:az lp):ae 196 (m1 (D8 lp)):=bK (fn:=Tryz.f196) (ann:=.leaf) hlp (by kernel_rfl) (by kernel_rfl) (fun call a0=>by kernel_rfl)
def LD:Ann:=(.two .leaf (.two .leaf (.two .leaf (.two (.two .leaf (.two (.loop ⟨[(2,.same (.ptr aP 4098 [])),(4,.same (.ptr aP 4100 [])),(6,.same (.ptr aP 8198 [])),(7,.dv (Ty.int .u64)),(9,.dv (Ty.int .i64))],[(4098,.keep aP 2),(4100,.keep aP 4),(8198,.one aP (.dv aP))],[1]⟩ [(.exit 0,⟨[(4,.same (.ptr aP 4100 [])),(6,.same (.ptr aP 8198 [])),(7,.dv (Ty.int .u64))],[(4100,.keep aP 4),(8198,.one aP (.dv aP))],[]⟩)] .leaf) .leaf)) .leaf))))
noncomputable def D9(lp:Lp)(call:Nat->List D->Option D)(a0:D)(a1:D):Option D:=
(lp (β:=Nat×List D) (fun(v1:List D)=>
(D.bin .lss (gx v1 1) (D.int .i64 16)).bind fun x2=>
(D.truth x2).bind fun b3=>
 if b3 then((D.idx (gx v1 1) 16).bind fun i4=>
(D.get a0 [i4]).bind fun x5=>
(D.conv .u64 x5).bind fun x6=>
(D.bin .shl x6 a1).bind fun x7=>
(D.bin .or (gx v1 0) x7).bind fun x8=>
(D.conv .u32 x8).bind fun x9=>
(D.idx (gx v1 1) 16).bind fun i10=>
(D.set (gx v1 2) [i10] x9).bind fun x11=>
(D.bin .shr x8 (D.int .u64 32)).bind fun x12=>
(D.bin .add (gx v1 1) (D.int .i64 1)).bind fun x13=>
 some (Sum.inl [x12,x13,x11])) else(some (Sum.inr (0,[(gx v1 0),(gx v1 2)])))) [(D.int .u64 0),(D.int .i64 0),(aC aP)]).bind fun r14=>
(D.conv .u32 (gx r14.2 0)).bind fun x15=>
 some (D.tup [(gx r14.2 1),x15])
theorem IG{lp}(hlp:az lp):ae 197 (m2 (D9 lp)):=bc (fn:=Tryz.f197) (ann:=LD) hlp (by kernel_rfl) (by kernel_rfl) (fun call a0 a1=>by kernel_rfl)
def JB:Ann:=(.two .leaf (.two .leaf (.two (.two .leaf (.two (.loop ⟨[(2,.same (.ptr aP 4098 [])),(4,.same (.ptr aP 4100 [])),(5,.same (.ptr aP 8197 [])),(8,.dv (Ty.int .i64))],[(4098,.keep aP 2),(4100,.keep aP 4),(8197,.one aP (.dv aP))],[1]⟩ [(.exit 0,⟨[(4,.same (.ptr aP 4100 [])),(5,.same (.ptr aP 8197 []))],[(4100,.keep aP 4),(8197,.one aP (.dv aP))],[]⟩)] (.two .leaf (.two .leaf (.two (.two (.two .leaf (.two .leaf (.cut [(.normal,⟨[(2,.same (.ptr aP 4098 [])),(4,.same (.ptr aP 4100 [])),(5,.same (.ptr aP 8197 [])),(7,.dv (Ty.int .u64))],[(4098,.keep aP 2),(4100,.keep aP 4),(8197,.keep aP 5)],[1,6,8]⟩)] [1,6,8] [4098,4100,8197] .leaf .leaf))) .leaf) .leaf)))) .leaf)) .leaf)))
noncomputable def D5(lp:Lp)(call:Nat->List D->Option D)(a0:D)(a1:D):Option D:=
(lp (β:=Nat×List D) (fun(v1:List D)=>
(D.bin .lss (gx v1 0) (D.int .i64 16)).bind fun x2=>
(D.truth x2).bind fun b3=>
 if b3 then(((D.bin .add (gx v1 0) (D.int .i64 1)).bind fun x4=>
(D.bin .lss x4 (D.int .i64 16)).bind fun x5=>
(D.truth x5).bind fun b6=>
 if b6 then((D.bin .add (gx v1 0) (D.int .i64 1)).bind fun x7=>
(D.idx x7 16).bind fun i8=>
(D.get a0 [i8]).bind fun x9=>
(D.conv .u64 x9).bind fun x10=>
 some (0,[x10])) else(some (0,[(D.int .u64 0)]))).bind fun(r11:Nat×List D)=>
(D.bin .shl (gx r11.2 0) (D.int .u64 32)).bind fun x12=>
(D.idx (gx v1 0) 16).bind fun i13=>
(D.get a0 [i13]).bind fun x14=>
(D.conv .u64 x14).bind fun x15=>
(D.bin .or x12 x15).bind fun x16=>
(D.bin .shr x16 a1).bind fun x17=>
(D.conv .u32 x17).bind fun x18=>
(D.idx (gx v1 0) 16).bind fun i19=>
(D.set (gx v1 1) [i19] x18).bind fun x20=>
(D.bin .add (gx v1 0) (D.int .i64 1)).bind fun x21=>
 some (Sum.inl [x21,x20])) else(some (Sum.inr (0,[(gx v1 1)])))) [(D.int .i64 0),(aC aP)]).bind fun r22=>
 some (gx r22.2 0)
theorem Kd{lp}(hlp:az lp):ae 201 (m2 (D5 lp)):=bc (fn:=Tryz.f201) (ann:=JB) hlp (by kernel_rfl) (by kernel_rfl) (fun call a0 a1=>by kernel_rfl)
noncomputable def Am(lp:Lp)(call:Nat->List D->Option D)(a0:D):Option D:=
(call 118 [(D.sl [a0])]).bind fun r1=>
(D.un .not r1).bind fun x2=>
(D.truth x2).bind fun b3=>
(if b3 then(some true) else((call 217 [a0]).bind fun r4=>
(D.bin .gtr r4 (D.int .i64 64)).bind fun x5=>
 D.truth x5)).bind fun b6=>
(D.truth (D.bool b6)).bind fun b7=>
 if b7 then(some (D.tup [(D.int .i64 0),(D.bool false)])) else((D.get a0 [2,1]).bind fun x8=>
(D.conv .u64 x8).bind fun x9=>
(D.bin .shl x9 (D.int .u64 32)).bind fun x10=>
(D.get a0 [2,0]).bind fun x11=>
(D.conv .u64 x11).bind fun x12=>
(D.bin .or x10 x12).bind fun x13=>
(D.get a0 [1]).bind fun x14=>
(D.truth x14).bind fun b15=>
(if b15 then((D.bin .leq x13 (D.int .u64 9223372036854775808)).bind fun x16=>
 D.truth x16) else(some false)).bind fun b17=>
(D.truth (D.bool b17)).bind fun b18=>
 if b18 then((D.un .neg x13).bind fun x19=>
(D.conv .i64 x19).bind fun x20=>
 some (D.tup [x20,(D.bool true)])) else((D.get a0 [1]).bind fun x21=>
(D.un .not x21).bind fun x22=>
(D.truth x22).bind fun b23=>
(if b23 then((D.bin .lss x13 (D.int .u64 9223372036854775808)).bind fun x24=>
 D.truth x24) else(some false)).bind fun b25=>
(D.truth (D.bool b25)).bind fun b26=>
 if b26 then((D.conv .i64 x13).bind fun x27=>
 some (D.tup [x27,(D.bool true)])) else(some (D.tup [(D.int .i64 0),(D.bool false)]))))
theorem Ja{lp}(hlp:az lp):ae 202 (m1 (Am lp)):=bK (fn:=Tryz.f202) (ann:=.leaf) hlp (by kernel_rfl) (by kernel_rfl) (fun call a0=>by kernel_rfl)
def Hk:Ann:=(.two .leaf (.two (.reg [] 4) .leaf))
theorem LG{lp}(hlp:az lp):ae 203 (jA lp 203 Tryz.f203 Hk):=eu hlp (by kernel_rfl) (by kernel_rfl)
noncomputable def Eu(lp:Lp)(call:Nat->List D->Option D)(a0:D):Option D:=
(D.get a0 [2]).bind fun x1=>
(call 127 [x1]).bind fun r2=>
(call 118 [(D.sl [a0])]).bind fun r3=>
(D.un .not r3).bind fun x4=>
(D.truth x4).bind fun b5=>
(if b5 then(some true) else(D.truth (D.bool (D.beq r2 (D.int .i64 0))))).bind fun b6=>
(D.truth (D.bool b6)).bind fun b7=>
 if b7 then(some (D.int .i64 0)) else((D.bin .sub r2 (D.int .i64 1)).bind fun x8=>
(D.bin .mul (D.int .i64 32) x8).bind fun x9=>
(D.bin .sub r2 (D.int .i64 1)).bind fun x10=>
(D.idx x10 16).bind fun i11=>
(D.get a0 [2,i11]).bind fun x12=>
(call 165 [x12]).bind fun r13=>
(D.bin .add x9 r13).bind fun x14=>
 some x14)
theorem KM{lp}(hlp:az lp):ae 217 (m1 (Eu lp)):=bK (fn:=Tryz.f217) (ann:=.leaf) hlp (by kernel_rfl) (by kernel_rfl) (fun call a0=>by kernel_rfl)
end Go.Proofs.YtjjjkojfijpeeaaGreat.Sy
end
section
namespace Go.Proofs.YtjjjkojfijpeeaaGreat.Sy
open Go Go.Proofs Go.Sort Go.Lib
def oM(E:Env)(g:Nat)(x y:D):Option Int:=(E.call g [x,y]).bind fun r=>match r with|.int .i64 n=>some n|_=>none
def jJ(E:Env)(g:Nat)(x y:D):Bool:=match oM E g x y with|some n=>decide (n<0)|none=>false
def A3(E:Env)(g:Nat)(x y:D):Bool:=match oM E g x y with|some n=>decide (0<=n)|none=>false
def tP(lt:D->D->Bool)(x:D):List D->List D
 | []=>[x]
 | y::l=>if lt x y then x::y::l else y::tP lt x l
def fO(lt:D->D->Bool):List D->List D
 | []=>[]
 | x::l=>tP lt x (fO lt l)
def jn(E:Env)(g:Nat):List D->Bool
 | []=>true
 | x::l=>A3 E g x x&&l.all (fun y=>jJ E g x y&&A3 E g y x)&&jn E g l
def hC(E:Env)(g:Nat)(l:List D):Option (List D):=if jn E g (fO (jJ E g) l) then some (fO (jJ E g) l) else none
theorem nA(lt:D->D->Bool)(x:D):∀ l:List D,(tP lt x l).Perm (x::l)
 | []=>.refl _
 | y::l=>by
  simp only[tP]
  split
  ·exact .refl _
  ·exact((nA lt x l).cons y).trans (.swap x y l)
theorem er(lt:D->D->Bool):∀ l:List D,(fO lt l).Perm l
 | []=>.refl _
 | x::l=>(nA lt x _).trans ((er lt l).cons x)
section
variable{E:Env}{g:Nat}
theorem gq:∀ {l:List D},jn E g l=true->l.Pairwise (fun x y=>jJ E g x y=true/\A3 E g y x=true)/\∀ x∈l,A3 E g x x=true
 | [],_=>⟨.nil,by simp⟩
 | x::l,h=>by
  simp only[jn,Bool.and_eq_true,List.all_eq_true] at h
  obtain⟨⟨h1,h2⟩,h3⟩:=h
  obtain⟨k1,k2⟩:=gq h3
  exact⟨List.pairwise_cons.2 ⟨h2,k1⟩,fun y hy=>by
   rcases List.mem_cons.1 hy with rfl|hy
   ·exact h1
   ·exact k2 y hy⟩
theorem vE{x y:D}(h:A3 E g x y=true):jJ E g x y=false:=by
 unfold A3 at h
 unfold jJ
 split at h
 ·rename_i n hn
  simp only[decide_eq_true_eq] at h
  simp only[decide_eq_false_iff_not];omega
 ·cases h
theorem Gg{x y:D}(h:jJ E g x y=true\/A3 E g x y=true):∃ n,oM E g x y=some n:=by
 rcases h with h|h
 ·unfold jJ at h;split at h
  ·exact⟨_,by assumption⟩
  ·cases h
 ·unfold A3 at h;split at h
  ·exact⟨_,by assumption⟩
  ·cases h
variable{l:List D}(hc:jn E g l=true)
include hc
theorem cJ{i j:Nat}{x y:D}(hi:l[i]?=some x)(hj:l[j]?=some y):(jJ E g x y=true↔i<j)/\∃ n,oM E g x y=some n:=by
 obtain⟨h1,h2⟩:=gq hc
 obtain⟨hi',rfl⟩:=List.getElem?_eq_some_iff.1 hi
 obtain⟨hj',rfl⟩:=List.getElem?_eq_some_iff.1 hj
 rcases Nat.lt_trichotomy i j with k|k|k
 ·have:=List.pairwise_iff_getElem.1 h1 i j hi' hj' k
  exact⟨⟨fun _=>k,fun _=>this.1⟩,Gg (.inl this.1)⟩
 ·subst k
  have:=h2 _ (List.getElem_mem hi')
  exact⟨⟨fun h=>(by rw[vE this] at h;cases h),fun h=>absurd h (Nat.lt_irrefl _)⟩,Gg (.inr this)⟩
 ·have:=List.pairwise_iff_getElem.1 h1 j i hj' hi' k
  exact⟨⟨fun h=>(by rw[vE this.2] at h;cases h),fun h=>by omega⟩,Gg (.inr this.2)⟩
theorem sB:l.Nodup:=by
 obtain⟨h1,h2⟩:=gq hc
 refine h1.imp fun{x y} h e=>?_
 subst e
 rw[vE h.2] at h;cases h.1
def vz(E:Env)(g:Nat)(l:List D)(x y:{d:D // d∈l}):Int:=(oM E g x.1 y.1).getD 0
omit hc in
theorem qG{x y:{d:D // d∈l}}:ltOf (vz E g l) x y=jJ E g x.1 y.1:=by
 unfold ltOf vz jJ
 cases oM E g x.1 y.1<;>simp
theorem yx:SWO (ltOf (vz E g l)):=by
 have ix:∀ x:{d:D // d∈l},∃ i,l[i]?=some x.1:=fun x=>by
  obtain⟨i,h1,h2⟩:=List.getElem_of_mem x.2
  exact⟨i,by rw[List.getElem?_eq_getElem h1,h2]⟩
 have key:∀ (x y:{d:D // d∈l}) (i j:Nat),l[i]?=some x.1->l[j]?=some y.1->(ltOf (vz E g l) x y=true↔i<j):=fun x y i j hi hj=>by rw[qG];exact(cJ hc hi hj).1
 refine⟨fun x=>?_,fun x y z h1 h2=>?_,fun x y z h1 h2=>?_⟩
 ·obtain⟨i,hi⟩:=ix x
  cases h:ltOf (vz E g l) x x with
  | false=>rfl
  | true=>exact absurd ((key x x i i hi hi).1 h) (Nat.lt_irrefl _)
 ·obtain⟨i,hi⟩:=ix x;obtain⟨j,hj⟩:=ix y;obtain⟨k,hk⟩:=ix z
  have a:=(key x y i j hi hj).1 h1;have b:=(key y z j k hj hk).1 h2
  exact(key x z i k hi hk).2 (by omega)
 ·obtain⟨i,hi⟩:=ix x;obtain⟨j,hj⟩:=ix y;obtain⟨k,hk⟩:=ix z
  have a:¬ i<j:=fun h=>by rw[(key x y i j hi hj).2 h] at h1;cases h1
  have b:¬ j<k:=fun h=>by rw[(key y z j k hj hk).2 h] at h2;cases h2
  cases h:ltOf (vz E g l) x z with
  | false=>rfl
  | true=>have:=(key x z i k hi hk).1 h;omega
theorem Au[Inhabited {d:D // d∈l}]{d d':Array {d:D // d∈l}}(hd:(d.toList.map (·.1)).Perm l)(hp:PermIn 0 d.size d d')(hs:SortedIn (ltOf (vz E g l)) 0 d.size d'):d'.toList.map (·.1)=l:=by
 obtain⟨p1,_,p3⟩:=hp
 have q:d'.toList.Perm d.toList:=by
  have e1:d'.extract 0 d.size=d':=by rw[<-p1];simp
  rw[e1] at p3
  simpa using p3
 have qp:(d'.toList.map (·.1)).Perm l:=(q.map _).trans hd
 have hlen:(d'.toList.map (·.1)).length=l.length:=qp.length_eq
 have nd:=qp.symm.nodup (sB hc)
 have asc:(d'.toList.map (·.1)).Pairwise (fun x y=>jJ E g x y=true):=by
  rw[List.pairwise_iff_getElem]
  intro i j hi hj hij
  simp only[List.length_map,Array.length_toList] at hi hj
  have h1:=hs i j (Nat.zero_le _) hij (by omega)
  rw[getElem!_pos d' j hj,getElem!_pos d' i hi,qG] at h1
  simp only[List.getElem_map,Array.getElem_toList]
  obtain⟨a,ha1,ha2⟩:=List.getElem_of_mem (d'[i]).2
  obtain⟨b,hb1,hb2⟩:=List.getElem_of_mem (d'[j]).2
  have ea:l[a]?=some (d'[i]).1:=by rw[List.getElem?_eq_getElem ha1,ha2]
  have eb:l[b]?=some (d'[j]).1:=by rw[List.getElem?_eq_getElem hb1,hb2]
  have k1:¬ b<a:=fun h=>by rw[(cJ hc eb ea).1.2 h] at h1;cases h1
  have k2:a≠b:=fun e=>by
   subst e
   have:(d'[i]).1=(d'[j]).1:=by rw[<-ha2,<-hb2]
   have:=List.pairwise_iff_getElem.1 nd i j (by simpa using hi) (by simpa using hj) hij
   simp only[List.getElem_map,Array.getElem_toList] at this
   contradiction
  exact(cJ hc ea eb).1.2 (by omega)
 have key:∀ {a b:List D},a.Pairwise (fun x y=>jJ E g x y=true)->b.Pairwise (fun x y=>jJ E g x y=true)->a.Perm b->(∀ x∈a,x∈l)->a=b:=by
  intro a
  induction a with
  | nil=>intro b _ _ hp _;exact hp.symm.eq_nil.symm ▸ rfl
  | cons x a ih=>
   intro b ha hb hp hm
   cases b with
   | nil=>exact absurd hp.eq_nil (by simp)
   | cons y b=>
    obtain⟨a1,a2⟩:=List.pairwise_cons.1 ha
    obtain⟨b1,b2⟩:=List.pairwise_cons.1 hb
    have e:x=y:=by
     rcases List.mem_cons.1 (hp.subset List.mem_cons_self) with e|m1
     ·exact e
     ·rcases List.mem_cons.1 (hp.symm.subset (List.mem_cons_self (a:=y))) with e|m2
      ·exact e.symm
      ·exfalso
       have h1:=b1 x m1
       have h2:=a1 y m2
       obtain⟨i,hi1,hi2⟩:=List.getElem_of_mem (hm x List.mem_cons_self)
       obtain⟨j,hj1,hj2⟩:=List.getElem_of_mem (hm y (List.mem_cons_of_mem _ m2))
       have ei:l[i]?=some x:=by rw[List.getElem?_eq_getElem hi1,hi2]
       have ej:l[j]?=some y:=by rw[List.getElem?_eq_getElem hj1,hj2]
       have:=(cJ hc ei ej).1.1 h2
       have:=(cJ hc ej ei).1.1 h1
       omega
    subst e
    rw[ih a2 b2 ((List.perm_cons x).1 hp) (fun z hz=>hm z (List.mem_cons_of_mem _ hz))]
 exact key asc ((gq hc).1.imp fun h=>h.1) qp fun x hx=>qp.subset hx
end
end Go.Proofs.YtjjjkojfijpeeaaGreat.Sy
end
section
namespace Go.Proofs.YtjjjkojfijpeeaaGreat.Sy
open Go Go.Proofs Go.Sort Go.Lib
def gg:D->Bool
 | .int ..=>true
 | .bool _=>true
 | _=>false
def aW:D->Value
 | .int k n=>.int k n
 | .bool b=>.bool b
 | _=>undef
mutual
theorem eC:∀ (t:Ty) (x:D),aO t=true->wt t x->∀ d∈x.flat,gg d=true
 | .int k,x,_,h=>by simp only[wt] at h;obtain⟨n,rfl⟩:=h;intro d hd;simp only[D.flat,List.mem_singleton] at hd;subst hd;rfl
 | .bool,x,_,h=>by simp only[wt] at h;obtain⟨n,rfl⟩:=h;intro d hd;simp only[D.flat,List.mem_singleton] at hd;subst hd;rfl
 | .str,x,hc,h=>by simp[aO] at hc
 | .st ts,x,hc,h=>by
  simp only[wt] at h
  obtain⟨l,rfl,hl⟩:=h
  simp only[aO] at hc
  simp only[D.flat]
  exact qg ts l hc hl
 | .arr n t,x,hc,h=>by
  simp only[wt] at h
  obtain⟨l,rfl,hn,hl⟩:=h
  clear hn
  simp only[aO] at hc
  simp only[D.flat]
  induction l with
  | nil=>intro d hd;simp[D.flats] at hd
  | cons y l ih=>
   intro d hd
   simp only[D.flats,List.mem_append] at hd
   rcases hd with hd|hd
   ·exact eC t y hc (hl y List.mem_cons_self) d hd
   ·exact ih (fun z hz=>hl z (List.mem_cons_of_mem _ hz)) d hd
 | .sl t,x,hc,h=>by simp[aO] at hc
 | .tup l,x,hc,h=>by simp[aO] at hc
 | .fn,x,hc,h=>by simp[aO] at hc
theorem qg:∀ (ts:List Ty) (l:List D),jU ts=true->fN ts l->∀ d∈D.flats l,gg d=true
 | [],l,_,h=>by simp only[fN] at h;subst h;intro d hd;simp[D.flats] at hd
 | t::ts,l,hc,h=>by
  simp only[fN] at h
  obtain⟨y,l',rfl,h1,h2⟩:=h
  simp only[jU,Bool.and_eq_true] at hc
  intro d hd
  simp only[D.flats,List.mem_append] at hd
  rcases hd with hd|hd
  ·exact eC t y hc.1 h1 d hd
  ·exact qg ts l' hc.2 h2 d hd
end
theorem yA{w:World}{S:Nat->Nat->Prop}{d:D}{c:Value}(hl:gg d=true):CR w S d c↔c=aW d:=by
 cases d<;>simp only[gg] at hl<;>first|(cases hl;done)|skip
 ·exact⟨fun h=>h.int_inv,fun h=>by subst h;exact .int _ _⟩
 ·exact⟨fun h=>h.bool_inv,fun h=>by subst h;exact .bool _⟩
theorem bj{w:World}{S:Nat->Nat->Prop}{ds:List D}{cs:List Value}(hl:∀ d∈ds,gg d=true):cw w S ds cs↔cs=ds.map aW:=by
 constructor
 ·rintro⟨h1,h2⟩
  apply List.ext_getElem?
  intro i
  rw[List.getElem?_map]
  rcases Nat.lt_or_ge i ds.length with k|k
  ·have a:=List.getElem?_eq_getElem k
   have b:cs[i]?=some cs[i]:=List.getElem?_eq_getElem (h1 ▸ k)
   rw[a,b]
   simp only[Option.map_some,Option.some.injEq]
   exact(yA (hl _ (List.getElem_mem k))).1 (h2 i _ _ a b)
  ·rw[List.getElem?_eq_none k,List.getElem?_eq_none (by omega)];rfl
 ·rintro rfl
  refine⟨by simp,fun i d c hd hc=>?_⟩
  rw[List.getElem?_map,hd] at hc
  simp only[Option.map_some,Option.some.injEq] at hc
  exact(yA (hl d (List.mem_of_getElem? hd))).2 hc.symm
theorem gn{k:Nat}(hk:0<k):∀ (l:List D),(∀ x∈l,x.flat.length=k)->∀ t,(D.flats l)[t]?=(l[t/k]?).bind fun x=>x.flat[t%k]?
 | [],_,t=>by simp[D.flats]
 | x::l,h,t=>by
  have hx:=h x List.mem_cons_self
  simp only[D.flats]
  rcases Nat.lt_or_ge t k with c|c
  ·rw[List.getElem?_append_left (by omega),Nat.div_eq_of_lt c,Nat.mod_eq_of_lt c];rfl
  ·rw[List.getElem?_append_right (by omega),hx,gn hk l (fun y hy=>h y (List.mem_cons_of_mem _ hy)) (t-k)]
   have e1:t/k=(t-k)/k+1:=by rw[Nat.div_eq_sub_div hk c]
   have e2:t%k=(t-k)%k:=Nat.mod_eq_sub_mod c
   rw[e1,e2];rfl
structure SortOk(P:Program)(f:Nat)(e:Ty):Prop where
 cmp:aO e=true
 agg:cd e=true
 pos:0<e.size
 nt:af e=true
 fn : ∃ fn, P.funcs[f]? = some fn /\ (fn.name == "runtime.NumGoroutine") = false /\ fn.body.isSome = true
 empty:∀ (p:Option Addr) (cap:Nat) (fv:Value) (w:World),Calls P f #[.slice p 0 cap,fv] w fun en w'=>en=.returned (.tuple #[])/\w'=w
 whole:∀ (α:Type) [Inhabited α] (enc:α->List Value) (_:∀ x,(enc x).length=e.size) (_:∀ x,∀ v∈enc x,v.oneCell'=true) (cf:α->α->Int) (_:SWO (ltOf cf)) (g:Nat) (blk off cap:Nat) (d:Array α) (w:World)
  (_:∀ args w,(callFunc g args).run P w=.ok (.enter g args) w) (_:CmpLays P g #[] enc e.size cf blk off d.size w) (_:HoldsK enc e.size w blk off d) (_:blk<w.heap.size) (_:d.size<4611686018427387904),
  Calls P f #[.slice (some ⟨blk,off,none⟩) d.size cap,.func (.func g) #[] #[]] w fun en w'=>en=.returned (.tuple #[])/\∃ d' n os,PermIn 0 d.size d d'/\SortedIn (ltOf cf) 0 d.size d'/\w'=sortWorldK enc e.size w blk off n d' os
section
variable{P:Program}{E:Env}
theorem pd(hE:EnvOk P E){g:Nat}{ptys:List Ty}{rty:Ty}(h:E.sig g=some (ptys,rty))(args:Array Value)(w:World):(callFunc g args).run P w=.ok (.enter g args) w:=by
 obtain⟨_,_,fn,f1,f2,f3⟩:=hE.sig g ptys rty h
 have f2' : ¬ fn.name = "runtime.NumGoroutine" := by simpa using f2
 have hb':¬ fn.body=none:=by intro hh;rw[hh] at f3;cases f3
 simp[callFunc,f1,f2',hb']
theorem z8(hE:EnvOk P E){f:Nat}{e:Ty}(hf:SortOk P f e){g:Nat}(hsig:E.sig g=some ([e,e],.int .i64)){l l':List D}(hwt:∀ x∈l,wt e x)(hs:hC E g l=some l')(hne:l≠[]){w:World}{b off cap:Nat}{row:Array Value}
  (hr:bk w b=some row) (hc:∀ (i:Nat) (d:D),(D.flats l)[i]?=some d->w.cell? ⟨b,off+i,none⟩=some (aW d)) (hlen:l.length<4611686018427387904) :
  Calls P f #[.slice (some ⟨b,off,none⟩) l.length cap,.func (.func g) #[] #[]] w fun en w'=>en=.returned (.tuple #[])/\l'.Perm l/\w.drawn<=w'.drawn/\w'.tape=w.tape/\w'.os=w.os/\w'.output=w.output/\w.heap.size<=w'.heap.size ∧
   (∀ b',b'≠b->b'<w.heap.size->w'.heap[b']?=w.heap[b']?)/\∀ (i:Nat) (d:D),(D.flats l')[i]?=some d->w'.cell? ⟨b,off+i,none⟩=some (aW d):=by
 have hsd:jn E g l'=true/\l'=fO (jJ E g) l:=by
  unfold hC at hs
  split at hs
  ·rename_i h;cases hs;exact⟨h,rfl⟩
  ·cases hs
 obtain⟨hchk,hl'⟩:=hsd
 have hperm:l'.Perm l:=hl' ▸ er _ l
 have hmem:∀ x∈l,x∈l':=fun x hx=>hperm.symm.subset hx
 have hwt':∀ x∈l',wt e x:=fun x hx=>hwt x (hperm.subset hx)
 obtain⟨x0,hx0⟩:∃ x0,x0∈l':=by
  cases l with
  | nil=>exact absurd rfl hne
  | cons x l=>exact⟨x,hmem x List.mem_cons_self⟩
 have hinh:Inhabited {d:D // d∈l'}:=⟨⟨x0,hx0⟩⟩
 have hfl:∀ x:{d:D // d∈l'},x.1.flat.length=e.size:=fun x=>bo e x.1 (hwt' x.1 x.2) hf.nt
 have hleaf:∀ x:{d:D // d∈l'},∀ d∈x.1.flat,gg d=true:=fun x=>eC e x.1 hf.cmp (hwt' x.1 x.2)
 obtain⟨d,hd⟩:∃ d:Array {d:D // d∈l'},d.toList.map (·.1)=l:=⟨(l.pmap Subtype.mk hmem).toArray,by simp[List.map_pmap]⟩
 have hds:d.size=l.length:=by rw[<-hd];simp
 have hbs:b<w.heap.size:=by
  unfold bk at hr
  cases hb:w.heap[b]? with
  | none=>rw[hb] at hr;cases hr
  | some o=>exact(Array.getElem?_eq_some_iff.1 hb).1
 have hfro:∀ o,w.frozen? ⟨b,o,none⟩=false:=fun o=>by
  unfold bk at hr
  split at hr
  ·rename_i c t hb
   unfold World.frozen?
   simp[hb]
  ·cases hr
 have at_:∀ (dd:Array {d:D // d∈l'}) (t:Nat),t<dd.size*e.size->(D.flats (dd.toList.map (·.1)))[t]?.map aW=some ((flatK (fun x:{d:D // d∈l'}=>x.1.flat.map aW) e.size dd)[t]!):=fun dd t ht=>by
  rw[get_flatK _ _ _ _ ht,gn hf.pos _ (fun x hx=>by
   obtain⟨y,_,rfl⟩:=List.mem_map.1 hx
   exact hfl y)]
  have h1:t/e.size<dd.size:=(Nat.div_lt_iff_lt_mul hf.pos).2 ht
  have h2:t%e.size<e.size:=Nat.mod_lt _ hf.pos
  rw[List.getElem?_map,Array.getElem?_toList,Array.getElem?_eq_getElem h1,getElem!_pos dd _ h1]
  simp only[Option.map_some,Option.bind_some]
  have h3:t%e.size<(dd[t/e.size]).1.flat.length:=by rw[hfl];exact h2
  rw[List.getElem?_eq_getElem h3,getElem!_pos _ _ (by simpa using h3)]
  simp
 have hH:HoldsK (fun x:{d:D // d∈l'}=>x.1.flat.map aW) e.size w b off d:=by
  intro j hj
  rw[size_flatK] at hj
  refine⟨?_,hfro _⟩
  have:=at_ d j hj
  rw[hd] at this
  cases hq:(D.flats l)[j]? with
  | none=>rw[hq] at this;cases this
  | some q=>
   rw[hq] at this
   simp only[Option.map_some,Option.some.injEq] at this
   rw[hc j q hq,this];rfl
 have hcmp:CmpLays P g #[] (fun x:{d:D // d∈l'}=>x.1.flat.map aW) e.size (vz E g l') b off d.size w:=by
  intro m os dk _ x y
  obtain⟨i,hi1,hi2⟩:=List.getElem_of_mem x.2
  obtain⟨j,hj1,hj2⟩:=List.getElem_of_mem y.2
  obtain⟨_,n,hn⟩:=cJ hchk (i:=i) (j:=j) (x:=x.1) (y:=y.1) (by rw[List.getElem?_eq_getElem hi1,hi2]) (by rw[List.getElem?_eq_getElem hj1,hj2])
  have hcall:E.call g [x.1,y.1]=some (.int .i64 n):=by
   unfold oM at hn
   obtain⟨r,h1,h2⟩:=bind_some_inv hn
   rw[h1]
   split at h2
   ·cases h2;rfl
   ·cases h2
  have hcf:vz E g l' x y=n:=by simp[vz,hn]
  rw[hcf]
  have shpa:∀ z:{d:D // d∈l'},∀ (w:World) (S:Nat->Nat->Prop),dY w S z.1 (.agg (z.1.flat.map aW).toArray):=fun z w S=>by
   refine⟨?_,?_⟩
   ·have hz:=hwt' z.1 z.2
    have ha:=hf.agg
    cases e<;>simp only[cd] at ha<;>first|(cases ha;done)|skip
    ·simp only[wt] at hz;obtain⟨ll,h1,_⟩:=hz;rw[h1];exact⟨_,rfl⟩
    ·simp only[wt] at hz;obtain⟨ll,h1,_⟩:=hz;rw[h1];exact⟨_,rfl⟩
   ·exact(bj (hleaf z)).2 (by simp[Value.cells])
  have hw2:fN [e,e] [x.1,y.1]:=⟨x.1,[y.1],rfl,hwt' _ x.2,⟨y.1,[],rfl,hwt' _ y.2,rfl⟩⟩
  have hctr:=hE.call g [e,e] (.int .i64) [x.1,y.1] (.int .i64 n) hsig hcall hw2
   (sortWorldK (fun x:{d:D // d∈l'}=>x.1.flat.map aW) e.size w b off m dk os) (fun _ _=>False) [.agg (x.1.flat.map aW).toArray,.agg (y.1.flat.map aW).toArray] (fun _ _ h=>h.elim) hw2 rfl
   (fun i z v hz hv=>by
    cases i with
    | zero=>simp at hz hv;subst hz;subst hv;exact shpa x _ _
    | succ i=>cases i with
     | zero=>simp at hz hv;subst hz;subst hv;exact shpa y _ _
     | succ i=>simp at hz)
  refine hctr.mono ?_
  rintro en w' ⟨v,rfl,⟨os',dr,hdr,rfl⟩,_,hv⟩
  have hv':v=.int .i64 n:=by
   obtain⟨c1,c2⟩:=(hv:dY _ _ _ _)
   have:=(bj (by intro d hd;simp only[D.flat,List.mem_singleton] at hd;subst hd;rfl)).1 c2
   exact al c1 (by simpa [D.flat,aW] using this)
  refine⟨by rw[hv'],dr-(sortWorldK (fun x:{d:D // d∈l'}=>x.1.flat.map aW) e.size w b off m dk os).drawn,os'.toArray,?_⟩
  unfold ao grow World.drewN
  simp only[show ∀ a b:Nat,a<=b->a+(b-a)=b from fun a b h=>by omega,hdr]
 have hO:SWO (ltOf (vz E g l')):=yx hchk
 have key:=hf.whole {d:D // d∈l'} (fun x=>x.1.flat.map aW) (fun x=>by simp[hfl x]) (fun x v hv=>by
   obtain⟨q,hq,rfl⟩:=List.mem_map.1 hv
   have:=hleaf x q hq
   cases q<;>simp only[gg] at this<;>first|(cases this;done)|rfl) (vz E g l') hO g b off cap d w (pd hE hsig) hcmp hH hbs (by omega)
 rw[hds] at key
 refine key.mono ?_
 rintro en w' ⟨rfl,d',n,os,hp,hso,rfl⟩
 rw[<-hds] at hp hso
 have hd'l:d'.toList.map (·.1)=l':=Au hchk (d:=d) (by rw[hd];exact hperm.symm) hp hso
 have hd's:d'.size=d.size:=hp.1
 have hH':=holdsK_sortWorldK_c (fun x:{d:D // d∈l'}=>x.1.flat.map aW) e.size w b off d d' n os hH hbs hd's
 refine⟨rfl,hperm,?_,rfl,rfl,rfl,?_,fun b' hb hb'=>?_,fun i q hq=>?_⟩
 ·show w.drawn<=w.drawn+n;omega
 ·simp only[sortWorldK,grow,putRowK,putRow,mapBlock,Go.Sort.ahead,Array.size_append,Array.size_modify];omega
 ·simp only[sortWorldK,grow,putRowK,putRow,mapBlock,Go.Sort.ahead]
  rw[Array.getElem?_append_left (by simpa using hb'),Array.getElem?_modify,if_neg (Ne.symm hb)]
 ·have hi:i<d'.size*e.size:=by
   have h1:=(List.getElem?_eq_some_iff.1 hq).1
   rw[ap hf.nt l' hwt'] at h1
   rw[hd's,hds,<-hperm.length_eq];exact h1
  have h2:=at_ d' i hi
  rw[hd'l,hq] at h2
  simp only[Option.map_some,Option.some.injEq] at h2
  have h3:=(hH' i (by rw[size_flatK];exact hi)).1
  rw[h3,<-h2];rfl
end
end Go.Proofs.YtjjjkojfijpeeaaGreat.Sy
end
section
namespace Go.Proofs.YtjjjkojfijpeeaaGreat.Sy
open Go Go.Proofs Go.Sort Go.Lib
variable{ro:Option Nat}{nn:Nat}
inductive AnnT where
 | hand
 | seq (a:Ann) (b:AnnT)
def F8(E:Env)(K:St->Option D):Code->AnnT->St->Option D
 | .seq c d,.seq a b,s=>ev E c a D s fun e s'=>match e with
  | .normal=>F8 E K d b s'
  | _=>none
 | _,.hand,s=>K s
 | _,_,_=>none
def oH:Code->AnnT->Code
 | .seq _ d,.seq _ b=>oH d b
 | c,_=>c
def tU(fn:Func)(tys:List Ty)(args:List D):St:={ tm:=nF tys args,ob:=fun _=>none,fresh:=0,dead:=[],nt:=fn.ntmps,lkS:=[],lkO:=[] }
def Dk(E:Env)(K:St->Option D)(fn:Func)(ann:AnnT)(tys:List Ty)(args:List D):Option D:=
 match fn.body with
 | none=>none
 | some c=>F8 E K c ann (tU fn tys args)
section
variable{P:Program}{E:Env}{w0:Root}
theorem Gt(hE:EnvOk P E){K:St->Option D}{Q:Exit->Act->World->Prop}{y:D}:∀ (c:Code) (ann:AnnT) {S:Nat->Nat->Prop} {γ:Nat->Option Nat} {β:Nat->Option (Nat×Nat)} {s:St} {a:Act} {w:World},
  Rp w0 S γ β s a w->F8 E K c ann s=some y->(∀ s' S' γ' β' a' w',Rp w0 S' γ' β' s' a' w'->K s'=some y->(oH c ann).wpIn (FW ro) nn P Q a' w')->c.wpIn (FW ro) nn P Q a w:=by
 intro c
 induction c with
 | seq c d _ ih=>
  intro ann S γ β s a w h hev hQ
  cases ann with
  | hand=>exact hQ s S γ β a w h (by simpa only[F8] using hev)
  | seq a1 b=>
   simp only[F8] at hev
   refine wpIn_seq (dL hE c a1 D _ y h hev fun e s' S' γ' β' a' w' n1 n2 n3 n4=>?_)
   cases e with
   | normal=>exact ih b n1 n4 hQ
   | ret=>cases n4
   | exit i=>cases n4
 | _=>
  intro ann S γ β s a w h hev hQ
  cases ann with
  | hand=>exact hQ s S γ β a w h (by simpa only[F8] using hev)
  | seq a1 b=>simp[F8] at hev
def bR(s:St)(e:Ty)(x:Nat):Option (List D):=match s.tm x with
 | .own e' v l=>if e'.beq e&&!(s.dead.contains v)&&decide (l.length<=1073741824) then some l else none
 | .nils=>some []
 | _=>none
def GG(s:St)(x:Nat)(e:Ty)(l:List D):St:={ tm:=fun i=>if i=x then .d (.sl e) (.sl l) else .undef,ob:=fun _=>none,fresh:=s.fresh+1,dead:=[],nt:=s.nt,lkS:=[],lkO:=[] }
theorem jr{w:World}{S:Nat->Nat->Prop}{l:List D}{a:Option Addr}{n cap:Nat}(h:CR w S (.sl l) (.slice a n cap)):dY w S (.sl l) (.slice a n cap):=by
 refine⟨fun cs h=>(by cases h),rfl,fun i d c hd hc=>?_⟩
 cases i with
 | zero=>simp only[D.flat,List.getElem?_cons_zero,Option.some.injEq,Value.cells] at hd hc;subst hd;first|(subst hc;exact h)|(simp at hc;subst hc;exact h)
 | succ i=>simp[D.flat] at hd
theorem eJ{e:Ty}(hc:aO e=true):∀ l:List D,(∀ x∈l,wt e x)->∀ d∈D.flats l,gg d=true
 | [],_,d,hd=>by simp[D.flats] at hd
 | y::l,h,d,hd=>by
  simp only[D.flats,List.mem_append] at hd
  rcases hd with hd|hd
  ·exact eC e y hc (h y List.mem_cons_self) d hd
  ·exact eJ hc l (fun z hz=>h z (List.mem_cons_of_mem _ hz)) d hd
theorem Rp.new{S S':Nat->Nat->Prop}{γ:Nat->Option Nat}{β:Nat->Option (Nat×Nat)}{s:St}{a a':Act}{w w':World}(h:Rp w0 S γ β s a w)(he:cY w0 w'){x:Nat}{e:Ty}{l:List D}(hn:af e=true)(hx:x<s.nt)(hwt:∀ y∈l,wt e y)
  (hv:dY w' S' (.sl l) (a'.tmps.getD x undef)) (hnt:a'.tmps.size=s.nt) (hdf:a'.defers=[]) (hSb:∀ b o,S' b o->b<w'.heap.size) (hSo:∀ b o,S' b o->w0.Old b->w0.S0 b o):Rp w0 S' (fun _=>none) (fun _=>none) (GG s x e l) a' w':=by
 refine⟨he,fun t ht=>?_,hnt,fun t ht=>?_,fun id o b ho=>(by cases ho),fun id b hb=>(by cases hb),fun id id' b hb=>(by cases hb),fun _ _=>rfl,fun v b e _ hb=>(by cases hb),fun v v' b e e' _ _ hb=>(by cases hb),fun v id b e _ hb=>(by cases hb),fun _ _=>rfl,hSb,hSo,hdf⟩
 ·show AR _ (if t=x then AV.d (.sl e) (.sl l) else .undef) (a'.tmps.getD t undef)
  by_cases htx:t=x
  ·rw[if_pos htx]
   subst htx
   exact .inl ⟨by simp only[af];exact hn,⟨l,rfl,hwt⟩,hv⟩
  ·rw[if_neg htx]
   simp only[AR]
 ·show(if t=x then AV.d (.sl e) (.sl l) else .undef)=_
  rw[if_neg (fun h=>by subst h;exact absurd hx (Nat.not_lt.2 ht))]
theorem E9(hE:EnvOk P E){f:Nat}{e:Ty}(hf:SortOk P f e){g:Nat}(hsig:E.sig g=some ([e,e],.int .i64)){id x t d2:Nat}{ops:Array Oper}{ty1 ty2:TypeId}{p1 p2:String}{af1 af2:Array Edge}{args:Array Operand}{ats:Array TypeId}
  (hops:ops.toList=[⟨some t,.move (.tmp x),ty1,p1,af1,none⟩,⟨some d2,.call ⟨.value (.func f),args,ats⟩,ty2,p2,af2,none⟩]) (hargs:args=#[.tmp t,.func g]) {Q:Exit->Act->World->Prop}
  {S:Nat->Nat->Prop} {γ:Nat->Option Nat} {β:Nat->Option (Nat×Nat)} {s:St} {a:Act} {w:World} (h:Rp w0 S γ β s a w) (hxt:x≠t) (hxd:x≠d2) (ht:t<s.nt) {l l':List D} (hv:bR s e x=some l) (hs:hC E g l=some l')
  (hQ:∀ a' w' S',Rp w0 S' (fun _=>none) (fun _=>none) (GG s x e l') a' w'->Q .normal a' w'):(Code.region id ops false).wpIn (FW ro) nn P Q a w:=by
 have hx:x<s.nt:=by
  rcases Nat.lt_or_ge x s.nt with k|k
  ·exact k
  ·unfold bR at hv;rw[h.tmu x k] at hv;cases hv
 have hax:AR ⟨w,S,γ,β,s.ob,s.dead⟩ (s.tm x) (a.tmps.getD x undef):=h.tms x (by rw[h.nt];exact hx)
 obtain⟨ad,cap,val,hwt,hcr,hown⟩:∃ ad cap,a.tmps.getD x undef=.slice ad l.length cap/\(∀ y∈l,wt e y)/\CR w S (.sl l) (.slice ad l.length cap)/\(l≠[]->∃ b off row,ad=some ⟨b,off,none⟩/\bk w b=some row/\¬ w0.Old b/\b<w.heap.size)/\l.length<=1073741824:=by
  unfold bR at hv
  split at hv
  ·rename_i e' v l0 htm
   split at hv
   ·rename_i hb
    simp only[Bool.and_eq_true,Bool.not_eq_true',decide_eq_true_eq] at hb
    obtain⟨⟨hb1,hb2⟩,hb3⟩:=hb
    cases hv
    have:=Ty.eq_of_beq _ _ hb1;subst this
    rw[htm] at hax
    simp only[AR,AC] at hax
    obtain⟨n0,n1,n2,ad,cap,n3,n4,n5⟩:=hax
    have hval:=al n0 n3
    have hdead:v ∉ s.dead:=by simpa using hb2
    refine⟨ad,cap,hval,n2,n4,fun hne=>?_,hb3⟩
    rcases n5 hdead with⟨q1,q2⟩|⟨b,off,q1,q2,n,q3,q4⟩
    ·exfalso
     obtain⟨_,_,b,off,e1,e2,e3,e4⟩:=n4.elems
     cases e1
     rcases e2 with e2|e2
     ·exact hne e2
     ·rw[q1] at e2;cases e2
    ·obtain⟨k1,k2,_⟩:=h.βn v b _ hdead q2
     unfold nc at q3
     cases hr:bk w b with
     | none=>rw[hr] at q3;cases q3
     | some row=>exact⟨b,off,row,q1,hr,k1,k2⟩
   ·cases hv
  ·rename_i htm
   cases hv
   rw[htm] at hax
   simp only[AR,AC] at hax
   have hval:=al hax.1 hax.2
   exact⟨none,0,hval,by simp,CR.of_elems (b:=0) (off:=0) (.inl rfl) (Nat.le_refl _) ⟨[],cw.nil,by simp⟩,fun h=>absurd rfl h,by simp⟩
  ·cases hv
 obtain⟨hown,hlen⟩:=hown
 have hperm:l'.Perm l:=by
  unfold hC at hs
  split at hs
  ·cases hs;exact er _ l
  ·cases hs
 have hll:l'.length=l.length:=hperm.length_eq
 have hwt':∀ y∈l',wt e y:=fun y hy=>hwt y (hperm.subset hy)
 refine wpIn_region_list ?_
 rw[hops]
 simp only[wpListIn,Region.wanted,if_true]
 refine(aM (K:=fun v w1=>v=a.tmps.getD x undef/\w=w1) (cl.value (v:=a.eval (.tmp x)) (w':=w) rfl ⟨rfl,rfl⟩) ?_)
 rintro _ _ ⟨rfl,rfl⟩
 have hsz:(a.put (some t) (a.tmps.getD x undef)).tmps.size=s.nt:=by simp[Act.put,h.nt]
 have ht1:(a.put (some t) (a.tmps.getD x undef)).eval (.tmp t)=a.tmps.getD x undef:=by
  have:t<a.tmps.size:=by rw[h.nt];exact ht
  simp[Act.eval,Act.put,Array.getD,this]
 have hx1:(a.put (some t) (a.tmps.getD x undef)).tmps.getD x undef=a.tmps.getD x undef:=by
  exact bE (fun e=>hxt (by cases e;rfl))
 have hdf1:(a.put (some t) (a.tmps.getD x undef)).defers=[]:=h.df
 generalize (a.put (some t) (a.tmps.getD x undef))=a1 at *
 refine(aM (K:=fun v w1=>∃ S',cY w0 w1/\dY w1 S' (.sl l') (a.tmps.getD x undef)/\(∀ b o,S' b o->b<w1.heap.size)/\(∀ b o,S' b o->w0.Old b->w0.S0 b o)) ?_ ?_)
 ·obtain⟨fn,f1,f2,f3⟩:=hf.fn
  refine cl.enter (f:=f) (args:=#[.slice ad l.length cap,.func (.func g) #[] #[]]) (w':=w) ?_ ?_
  ·have hb:¬ fn.body=none:=by intro hh;rw[hh] at f3;cases f3
   have f2' : ¬ fn.name = "runtime.NumGoroutine" := by simpa using f2
   have e1:a1.eval (.tmp t)=.slice ad l.length cap:=by rw[ht1,val]
   subst hargs
   have e2:a1.eval (.func g)=.func (.func g) #[] #[]:=rfl
   simp[execOp,resolve,Deferred.ofValue,invoke,callFunc,f1,f2',hb,e1,e2]
   simp[Act.eval,f1,f2',hb]
  ·by_cases hne:l=[]
   ·subst hne
    have e0:l'=[]:=by cases l' with|nil=>rfl|cons y l'=>simp at hll
    subst e0
    refine(hf.empty ad cap _ w).mono ?_
    rintro en w1 ⟨rfl,rfl⟩
    exact⟨_,rfl,S,h.ext,by rw[val];exact jr hcr,h.Sb,h.So⟩
   ·obtain⟨b,off,row,rfl,hr,hold,hbs⟩:=hown hne
    have hcell:∀ (i:Nat) (d:D),(D.flats l)[i]?=some d->w.cell? ⟨b,off+i,none⟩=some (aW d):=by
     obtain⟨_,_,b',off',e1,e2,e3,cs,e4,e5⟩:=hcr.elems
     cases e1
     rcases e2 with e2|e2
     ·exact absurd e2 hne
     ·cases e2
      have hleaf:=eJ hf.cmp l hwt
      have:=(bj hleaf).1 e4
      subst this
      intro i d hd
      exact(e5 i (aW d) (by rw[List.getElem?_map,hd];rfl)).2
    refine(z8 hE hf hsig hwt hs hne (b:=b) (off:=off) (cap:=cap) hr hcell (by omega)).mono ?_
    rintro en w1 ⟨rfl,_,q1,q2,q3,q4,q5,q6,q7⟩
    refine⟨_,rfl,fun b' o=>(S b' o/\b'≠b)\/(b'=b/\off<=o/\o<off+(D.flats l').length),?_,?_,?_,?_⟩
    ·refine jT h.ext q2 q3 q4 q5 q1 fun b' hb'=>q6 b' (fun e=>hold (e ▸ hb')) (Nat.lt_of_lt_of_le hb'.1 h.ext.sz)
    ·rw[val]
     refine jr ?_
     rw[<-hll]
     refine CR.of_elems (b:=b) (off:=off) (.inr rfl) (by obtain⟨_,_,_,_,e1,_,e3,_⟩:=hcr.elems;cases e1;rw[hll];exact e3) ⟨(D.flats l').map aW,?_,fun i c hc=>?_⟩
     ·exact(bj (eJ hf.cmp l' hwt')).2 rfl
     ·rw[List.getElem?_map] at hc
      cases hd:(D.flats l')[i]? with
      | none=>rw[hd] at hc;cases hc
      | some d=>
       rw[hd] at hc
       simp only[Option.map_some,Option.some.injEq] at hc
       subst hc
       exact⟨.inr ⟨rfl,by omega,by have:=(List.getElem?_eq_some_iff.1 hd).1;omega⟩,q7 i d hd⟩
    ·rintro b' o (⟨hb',_⟩|⟨rfl,_,_⟩)
     ·exact Nat.lt_of_lt_of_le (h.Sb b' o hb') q5
     ·exact Nat.lt_of_lt_of_le hbs q5
    ·rintro b' o (⟨hb',_⟩|⟨rfl,_,_⟩) ho
     ·exact h.So b' o hb' ho
     ·exact absurd ho hold
 ·rintro v w1 ⟨S',k1,k2,k3,k4⟩
  refine hQ _ w1 S' (Rp.new h k1 hf.nt hx hwt' ?_ (by simp[Act.put,hsz]) hdf1 k3 k4)
  have:(a1.put (some d2) v).tmps.getD x undef=a.tmps.getD x undef:=by
   rw[<-hx1]
   exact bE (fun e=>hxd (by cases e;rfl))
  rw[this];exact k2
end
end Go.Proofs.YtjjjkojfijpeeaaGreat.Sy
end
section
namespace Go.Proofs.YtjjjkojfijpeeaaGreat.Sy
open Go Go.Proofs Go.Sort Go.Lib
variable{ro:Option Nat}{nn:Nat}
open Go.ChangeMaps (setBlock)
section
variable{P:Program}{E:Env}{w0:Root}
theorem kX{ops ops':Array Oper}{Q:Exit->Act->World->Prop}:∀ (l:List Oper) (a:Act) (w:World),(∀ o∈l,o.guard=none)->wpListIn (FW ro) nn P ops Q l a w->wpListIn (FW ro) nn P ops' Q l a w
 | [],_,_,_,h=>h
 | o::l,a,w,hg,h=>by
  have hgo:=hg o List.mem_cons_self
  have hfun:∀ a w,wpListIn (FW ro) nn P ops Q l a w->wpListIn (FW ro) nn P ops' Q l a w:=fun a w=>kX l a w fun o ho=>hg o (List.mem_cons_of_mem _ ho)
  simp only[wpListIn,Region.wanted,hgo,if_true] at h ⊢
  exact Oper.wpIn_mono hfun h
theorem zt(hE:EnvOk P E){Q:Exit->Act->World->Prop}{id:Nat}{ops:Array Oper}{R:Type}{S:Nat->Nat->Prop}{γ:Nat->Option Nat}{β:Nat->Option (Nat×Nat)}{s:St}{a:Act}{w:World}{k:Ex->St->Option R}{r:R}
  (h:Rp w0 S γ β s a w) (hev:ev E (.region id ops false) .leaf R s k=some r) (hQ:Kp Q w0 s S γ a w k r):wpListIn (FW ro) nn P ops Q ops.toList a w:=by
 obtain⟨S1,f1,f2,f3⟩:=ni (Ann.leaf).fz h
 obtain⟨s1,hs1⟩:∃ s1,s1={ fg s (Ann.leaf).fz with fresh:=s.fresh+1 }:=⟨_,rfl⟩
 obtain⟨h1,h23⟩:=sO hs1 hev
 obtain⟨h2,h3⟩:(!false||nI E ops ((Ann.leaf).heads ops.size))=true/\_:=h23.resolve_right fun h=>h.elim (fun h=>by cases h.1) (fun h=>by cases h.1)
 have hb1:s1.base=s.base+4096:=by rw[hs1];simp only[St.base];omega
 have r1:Rp w0 S1 γ β s1 a w:=by
  rw[hs1]
  have q1:∀ id,({ fg s (Ann.leaf).fz with fresh:=s.fresh+1 }:St).base+4096<=id->s.base+4096<=id:=fun id hid=>by
   have e:({ fg s (Ann.leaf).fz with fresh:=s.fresh+1 }:St).base=s.base+4096:=by simp only[St.base];omega
   rw[e] at hid
   exact Nat.le_trans (Nat.le_add_right _ _) hid
  exact⟨f1.ext,f1.tms,f1.nt,f1.tmu,f1.obs,f1.γn,f1.γi,fun id hid=>h.γf id (q1 id hid),f1.βn,f1.βi,f1.βγ,fun v hv=>h.βf v (q1 v hv),f1.Sb,f1.So,f1.df⟩
 have hle1:∀ d,s.base+4096<=s1.base+d:=fun d=>by have:=Nat.le_add_right s1.base d;rw[hb1] at this ⊢;exact this
 have hg:∀ d,γ (s1.base+d)=none:=fun d=>h.γf (s1.base+d) (hle1 d)
 have hgb:∀ d,β (s1.base+d)=none:=fun d=>h.βf (s1.base+d) (hle1 d)
 obtain⟨r2,m2⟩:=yD (E:=E) ops.toList r1 hg
 have hmk:=h1
 simp only[bW,Bool.and_eq_true,List.all_eq_true] at hmk
 obtain⟨⟨hm1,hm2⟩,hm3⟩:=hmk
 have hfr:Dd E (gY E ops.toList s1) γ β ops.toList:=by
  intro o ho hc d hd
  rw[m2.base_eq]
  have hd4:=hm2 o ho
  rw[hd] at hd4
  simp only[decide_eq_true_eq] at hd4
  exact⟨hd4,hg d,hgb d,fun T t e1 e2=>t6 ops.toList hm1 ho e1 hd e2⟩
 have hsk:Sk s (gY E ops.toList s1):=by
  refine⟨m2.lkS.trans ?_,m2.lkO.trans ?_,m2.nt.trans ?_⟩<;>rw[hs1]
  ·exact f3.lkS
  ·exact f3.lkO
  ·exact f3.nt
 have hstores:(ops.toList.all fun o=>match o.op with|.store ..=>o.dst.isNone|_=>true)=true:=by
  simp only[bW,Bool.and_eq_true] at h1;exact h1.2
 have:=pY (ro:=ro) (nn:=nn) (ops:=ops) hE hstores _ R (bf 0 ops.toList) _ r _ r2 (by rw[aQ];exact hfr) (by rw[aQ];exact fun A B o o' e ho d hd=>dn hm1 A B o o' e ho d hd) (fun p hp=>gD hp) h3
  (Q:=Q) fun s' S' γ' β' a' w' n1 n2 n3 n4=>hQ .normal s' S' γ' β' a' w' n1 (f2.tr n2 hsk) (hsk.trans n3) n4
 rwa [aQ] at this
def σL(nt o it:Nat)(X:AV):St:={ tm:=fun i=>if i=o then X else .undef,ob:=fun _=>none,fresh:=0,dead:=[],nt:=nt,lkS:=[it],lkO:=[0,1] }
def γs(m r:Nat):Nat->Option Nat:=fun i=>if i=0 then some m else if i=1 then some r else none
def xj(e:Ty)(L:List D)(X:AV):Prop:=(X=.nils/\L=[])\/X=.own e 5 L
theorem xv{s:St}{e:Ty}{o:Nat}{L:List D}(h:bR s e o=some L):(s.tm o=.nils/\L=[])\/∃ v,s.tm o=.own e v L/\v ∉ s.dead:=by
 unfold bR at h
 split at h
 ·rename_i e' v l htm
  split at h
  ·rename_i hb
   simp only[Bool.and_eq_true,Bool.not_eq_true',decide_eq_true_eq] at hb
   cases h
   have:=Ty.eq_of_beq _ _ hb.1.1;subst this
   exact .inr ⟨v,htm,by simpa using hb.1.2⟩
  ·cases h
 ·rename_i htm
  cases h
  exact .inl ⟨htm,rfl⟩
 ·cases h
theorem Rp.std{S:Nat->Nat->Prop}{γ:Nat->Option Nat}{β:Nat->Option (Nat×Nat)}{s:St}{a:Act}{w:World}(h:Rp w0 S γ β s a w){m r:Nat}(hm:¬ w0.Old m/\m<w.heap.size)(hr:¬ w0.Old r/\r<w.heap.size)(hmr:m≠r)
  (hβ:∀ v b e,v ∉ s.dead->β v=some (b,e)->b≠m/\b≠r) {e:Ty} (hce:aO e=true) {o:Nat} {L:List D} (hv:bR s e o=some L) (it:Nat) :
  ∃ β' X,xj e L X/\Rp w0 (fun b i=>S b i/\b≠m/\b≠r) (γs m r) β' (σL s.nt o it X) a w:=by
 have ho:o<s.nt:=by
  rcases Nat.lt_or_ge o s.nt with k|k
  ·exact k
  ·unfold bR at hv;rw[h.tmu o k] at hv;cases hv
 have hao:=h.tms o (by rw[h.nt];exact ho)
 have g1:∀ id b,γs m r id=some b->(id=0/\b=m)\/(id=1/\b=r):=fun id b hb=>by
  unfold γs at hb
  split at hb
  ·rename_i e;cases hb;exact .inl ⟨e,rfl⟩
  ·split at hb
   ·rename_i e;cases hb;exact .inr ⟨e,rfl⟩
   ·cases hb
 have γn':∀ id b,γs m r id=some b->¬ w0.Old b/\b<w.heap.size:=fun id b hb=>by
  rcases g1 id b hb with⟨_,rfl⟩|⟨_,rfl⟩
  ·exact hm
  ·exact hr
 have γi':∀ id id' b,γs m r id=some b->γs m r id'=some b->id=id':=fun id id' b hb hb'=>by
  rcases g1 id b hb with⟨k1,k2⟩|⟨k1,k2⟩<;>rcases g1 id' b hb' with⟨k3,k4⟩|⟨k3,k4⟩
  ·omega
  ·exact absurd (k2.symm.trans k4) hmr
  ·exact absurd (k4.symm.trans k2) hmr
  ·omega
 have γf':∀ id,0*4096+4096<=id->γs m r id=none:=fun id hid=>by
  unfold γs;rw[if_neg (by omega),if_neg (by omega)]
 rcases xv hv with⟨h1,h2⟩|⟨v,h1,h2⟩
 ·refine⟨fun _=>none,.nils,.inl ⟨rfl,h2⟩,h.ext,fun t ht=>?_,h.nt,fun t ht=>?_,fun id o b ho=>(by cases ho),γn',γi',γf',fun v b e _ hb=>(by cases hb),fun v v' b e e' _ _ hb=>(by cases hb),fun v id b e _ hb=>(by cases hb),fun _ _=>rfl,fun b i hb=>h.Sb b i hb.1,fun b i hb=>h.So b i hb.1,h.df⟩
  ·show AR _ (if t=o then AV.nils else .undef) (a.tmps.getD t undef)
   by_cases hto:t=o
   ·rw[if_pos hto];subst hto;rw[h1] at hao;simpa only[AR,AC] using hao
   ·rw[if_neg hto];simp only[AR]
  ·show(if t=o then AV.nils else .undef)=_
   rw[if_neg (fun h=>by subst h;exact absurd ho (Nat.not_lt.2 ht))]
 ·refine⟨fun i=>if i=5 then β v else none,.own e 5 L,.inr rfl,h.ext,fun t ht=>?_,h.nt,fun t ht=>?_,fun id o b ho=>(by cases ho),γn',γi',γf',fun u b e' _ hb=>?_,fun u u' b e' e'' _ _ hb hb'=>?_,fun u id b e' _ hb hid=>?_,fun u hu=>?_,fun b i hb=>h.Sb b i hb.1,fun b i hb=>h.So b i hb.1,h.df⟩
  ·show AR _ (if t=o then AV.own e 5 L else .undef) (a.tmps.getD t undef)
   by_cases hto:t=o
   ·rw[if_pos hto]
    subst hto
    rw[h1] at hao
    simp only[AR,AC] at hao ⊢
    obtain⟨n0,n1,n2,ad,cap,n3,n4,n5⟩:=hao
    have n4':CR w (fun b i=>S b i/\b≠m/\b≠r) (.sl L) (.slice ad L.length cap):=by
     obtain⟨ad',cap',b',off',e1,e2,e3,cs,e4,e5⟩:=n4.elems
     cases e1
     by_cases hL:L=[]
     ·subst hL;exact CR.of_elems (b:=0) (off:=0) (.inl rfl) e3 ⟨[],cw.nil,by simp⟩
     ·have e2:ad=some ⟨b',off',none⟩:=e2.resolve_left hL
      have hb':b'≠m/\b'≠r:=by
       rcases n5 h2 with q|⟨b,off,q1,q2,q3⟩
       ·rw[q.1] at e2;cases e2
       ·rw[q1] at e2;cases e2;exact hβ v _ _ h2 q2
      have lf:=eJ hce L n2
      exact CR.of_elems (.inr e2) e3 ⟨cs,(bj lf).2 ((bj lf).1 e4),fun i c hc=>⟨⟨(e5 i c hc).1,hb'⟩,(e5 i c hc).2⟩⟩
    refine⟨n0,n1,n2,ad,cap,n3,n4',fun _=>?_⟩
    rcases n5 h2 with q|⟨b,off,q1,q2,q3⟩
    ·exact .inl q
    ·exact .inr ⟨b,off,q1,by simpa using q2,q3⟩
   ·rw[if_neg hto];simp only[AR]
  ·show(if t=o then AV.own e 5 L else .undef)=_
   rw[if_neg (fun h=>by subst h;exact absurd ho (Nat.not_lt.2 ht))]
  ·have hb:(if u=5 then β v else none)=some (b,e'):=hb
   split at hb
   ·obtain⟨q1,q2,q3⟩:=h.βn v b e' h2 hb
    exact⟨q1,q2,fun i hi hs=>q3 i hi hs.1⟩
   ·cases hb
  ·have hb:(if u=5 then β v else none)=some (b,e'):=hb
   have hb':(if u'=5 then β v else none)=some (b,e''):=hb'
   split at hb<;>split at hb'<;>first|(cases hb;done)|(cases hb';done)|omega
  ·have hb:(if u=5 then β v else none)=some (b,e'):=hb
   split at hb
   ·have:=hβ v b e' h2 hb
    rcases g1 id b hid with⟨_,q⟩|⟨_,q⟩
    ·exact this.1 q
    ·exact this.2 q
   ·cases hb
  ·have hu':4096<=u:=by simpa [σL,St.base] using hu
   show(if u=5 then β v else none)=none
   rw[if_neg (by omega)]
theorem Rp.setB{S:Nat->Nat->Prop}{γ:Nat->Option Nat}{β:Nat->Option (Nat×Nat)}{s:St}{a:Act}{w:World}(h:Rp w0 S γ β s a w){id b:Nat}(ho:s.ob id=none)(hγ:γ id=some b)(hS:∀ o,¬ S b o)(x:Obj) :
  Rp w0 S γ β s a (setBlock w b x):=by
 have hbS:∀ b' o,S b' o->b'≠b:=fun b' o hb e=>hS o (e ▸ hb)
 have hh:∀ b',b'≠b->(setBlock w b x).heap[b']?=w.heap[b']?:=fun b' hb'=>by simp only[setBlock];rw[Array.getElem?_setIfInBounds_ne (Ne.symm hb')]
 have hsz:(setBlock w b x).heap.size=w.heap.size:=by simp[setBlock]
 have hle:Cx.le ⟨w,S,γ,β,s.ob,s.dead⟩ ⟨setBlock w b x,S,γ,β,s.ob,s.dead⟩:=by
  refine⟨fun b' o hb=>by simp only[World.cell?,hh b' (hbS b' o hb)],fun _ _ hb=>hb,fun _ _ hb=>hb,fun i y hy _=>⟨y,hy,fun p=>⟨rfl,rfl⟩,fun t l e=>⟨l,e,rfl⟩,fun _ _ l e=>⟨l,e⟩⟩,fun v hv=>⟨hv,fun b' e he=>⟨he,fun n hn=>?_⟩⟩⟩
  have hne:b'≠b:=fun e'=>h.βγ v id b' e hv he (e' ▸ hγ)
  have hn':nc w b'=some n:=hn
  show nc (setBlock w b x) b'=some n
  simp only[nc,bk,hh b' hne] at hn' ⊢
  exact hn'
 refine⟨jT h.ext rfl rfl rfl (by rw[hsz];exact Nat.le_refl _) (Nat.le_refl _) (fun b' hb'=>hh b' fun e=>(h.γn id b hγ).1 (e ▸ hb')),fun t ht=>(h.tms t ht).mono hle,h.nt,h.tmu,fun i y b' hy hb'=>?_,fun i b' hb'=>by rw[hsz];exact h.γn i b' hb',h.γi,h.γf,
  fun v b' e hv he=>by rw[hsz];exact h.βn v b' e hv he,h.βi,h.βγ,h.βf,fun b' o hb=>by rw[hsz];exact h.Sb b' o hb,h.So,h.df⟩
 have hne:b'≠b:=fun e'=>by
  have:=h.γi i id b' hb' (e' ▸ hγ)
  subst this
  rw[ho] at hy;cases hy
 exact(h.obs i y b' hy hb').mono hle (hh b' hne) fun _ hh=>hh
end
end Go.Proofs.YtjjjkojfijpeeaaGreat.Sy
end
section
namespace Go.Proofs.YtjjjkojfijpeeaaGreat.Sy
open Go Go.Proofs Go.Sort Go.Lib
variable{ro:Option Nat}{nn:Nat}
open Go.ChangeMaps (setBlock)
def rh:D->D
 | .st (k::_)=>k
 | x=>x
theorem BY{c:Cx}{kt vt:Ty}:∀ {l:List D} {es:List MapEntry} {j:Nat},iB c kt vt j l es->es.length=l.length/\∀ (i:Nat) (en:MapEntry),es[i]?=some en->en.born=j+i/\∃ k v,l[i]?=some (.st [k,v])/\wt kt k/\wt vt v/\dY c.w c.S k en.key/\dY c.w c.S v en.val
 | [],[],j,_=>⟨rfl,fun i en h=>by simp at h⟩
 | [],_::_,_,h=>h.elim
 | _::_,[],_,h=>h.elim
 | x::l,e::es,j,h=>by
  simp only[iB] at h
  obtain⟨⟨h1,k,v,rfl,h2,h3,h4,h5⟩,h6⟩:=h
  obtain⟨q1,q2⟩:=BY h6
  refine⟨by simp[q1],fun i en hi=>?_⟩
  cases i with
  | zero=>simp at hi;subst hi;exact⟨by simpa using h1,k,v,by simp,h2,h3,h4,h5⟩
  | succ i=>
   simp only[List.getElem?_cons_succ] at hi
   obtain⟨r1,r2⟩:=q2 i en hi
   exact⟨by omega,by simpa using r2⟩
theorem o8{t:Ty}(hc:aO t=true){x:D}(hx:wt t x){w w':World}{S S':Nat->Nat->Prop}{v:Value}(h:dY w S x v):dY w' S' x v:=by
 have lf:=eC t x hc hx
 exact⟨h.1,(bj lf).2 ((bj lf).1 h.2)⟩
theorem uJ:∀ (n:Nat) (l:List Nat),l.Nodup->(∀ x∈l,x<n)->l.length<=n
 | 0,l,_,h=>by
  cases l with
  | nil=>simp
  | cons x l=>exact absurd (h x List.mem_cons_self) (by omega)
 | n+1,l,hn,h=>by
  have h1:(l.erase n).length<=n:=uJ n (l.erase n) (hn.erase n) fun x hx=>by
   have hx':=(hn.mem_erase_iff).1 hx
   have:=h x hx'.2
   have:=hx'.1
   omega
  have h2:=List.length_erase (a:=n) (l:=l)
  split at h2<;>omega
section
variable{P:Program}{E:Env}{w0:Root}
theorem dw{a:Act}{o:Oper}{m:Sem Value}{v:Value}{w w':World}(hex:execOp a.eval o=(m >>= fun r=>pure (Next.value r)))(hrun:m.run P w=.ok v w'):(execOp a.eval o).run P w=.ok (.value v) w':=by
 rw[hex]
 simp only[Sem.run_bind,hrun,Result.andThen_ok,Sem.run_pure]
theorem us{nt o it t:Nat}{X:AV}(h:t≠o):(σL nt o it X).put (some t) .undef=σL nt o it X:=by
 unfold St.put σL
 simp only
 split
 ·congr 1
  funext i
  by_cases hi:i=t
  ·subst hi;rw[if_pos rfl,if_neg h]
  ·rw[if_neg hi]
 ·rfl
theorem gA{a:Act}{t:Nat}{v:Value}(h:t<a.tmps.size):(a.put (some t) v).eval (.tmp t)=v:=by
 simp[Act.eval,Act.put,Array.getD,h]
theorem ak{a:Act}{d:Option Nat}{v:Value}:(a.put d v).tmps.size=a.tmps.size:=by
 cases d<;>simp[Act.put]
theorem DM(hE:EnvOk P E){e vt:Ty}(he:aO e=true)(hvt:aO vt=true)(hne:af e=true)(hnv:af vt=true){id23 id24 id25 b b2:Nat}{t72 m0 it T nx ok en o:Nat}{o23 o24 o25:Array Oper}{rest:List Oper}{c26:Code}
  {y1 y2 y3 y4 y5:TypeId} {p1 p2 p3 p4 p5:String} {f1 f2 f3 f4 f5:Array Edge} {TK TV:TypeId}
  (h23:o23.toList=[⟨some t72,.move (.tmp m0),y1,p1,f1,none⟩,⟨some it,.range T (.tmp t72),y2,p2,f2,none⟩])
  (h24:o24.toList=[⟨some nx,.next (.tmp it) false,y3,p3,f3,none⟩,⟨some ok,.extract (.tmp nx) 0,y4,p4,f4,none⟩])
  (h25:o25.toList=⟨some en,.entry (.tmp it),y5,p5,f5,none⟩::rest) (hrest:∀ x∈rest,x.guard=none) (hT:P.underlying T=some (.map TK TV))
  {S:Nat->Nat->Prop} {γ:Nat->Option Nat} {β:Nat->Option (Nat×Nat)} {s:St} {a:Act} {w:World} (h:Rp w0 S γ β s a w)
  (d1:o≠t72) (d2:o≠it) (d3:nx≠o) (d4:ok≠o) (d5:en≠o) (d6:it≠t72) (d7:it≠nx) (d8:it≠ok) (d9:it≠en) (d10:nx≠ok) (n1:t72<s.nt) (n2:it<s.nt) (n3:nx<s.nt) (n4:ok<s.nt) (n5:en<s.nt)
  {idm:Nat} {l:List D} (hm:s.tm m0=.map e vt idm) (hob:s.ob idm=some (.mp e vt l)) (hl:l.length<=1073741824) (hv:bR s e o=some [])
  (hround:∀ X L k v,xj e L X->L.length<1073741824->wt e k->ev E (.region 0 rest.toArray false) .leaf D ((σL s.nt o it X).put (some en) (.d (.tup [e,vt]) (.tup [k,v]))) (fun x s'=>match x with
   | .normal=>ev E c26 .leaf D s' (fun x s''=>match x with|.normal=>(bR s'' e o).bind fun l=>some (.sl l)|_=>none)
   | _=>none)=some (.sl (L++[k])))
  {Q:Exit->Act->World->Prop} (hQ:∀ L S' γ' β' X a' w',xj e L X->L.Perm (l.map rh)->Rp w0 S' γ' β' (σL s.nt o it X) a' w'->Q .normal a' w') :
  (Code.seq (.region id23 o23 false) (.block b (.loop (.seq (.region id24 o24 false) (.seq (.cond (.tmp ok) .skip (.exit b)) (.block b2 (.seq (.region id25 o25 false) c26))))))).wpIn (FW ro) nn P Q a w:=by
 have hm0:m0<s.nt:=by
  rcases Nat.lt_or_ge m0 s.nt with k|k
  ·exact k
  ·rw[h.tmu m0 k] at hm;cases hm
 have hmv:=h.tms m0 (by rw[h.nt];exact hm0)
 rw[hm] at hmv
 simp only[AR,AC] at hmv
 obtain⟨hna,m,hmc,hγm,_,_,_⟩:=hmv
 have hmval:=al hna hmc
 have hO:=h.obs idm _ m hob hγm
 simp only[gT] at hO
 obtain⟨_,_,hSm,es,hes,hM⟩:=hO
 obtain⟨hesl,hesat⟩:=BY hM
 have hmn:=h.γn idm m hγm
 have hborn:∀ x∈es.toList,x.born<l.length:=fun x hx=>by
  obtain⟨i,hi,rfl⟩:=List.getElem_of_mem hx
  have:=(hesat i _ (List.getElem?_eq_getElem hi)).1
  omega
 have hbn:(es.toList.map (·.born)).Nodup:=by
  rw[List.Nodup,List.pairwise_iff_getElem]
  intro i j hi hj hij
  simp only[List.length_map] at hi hj
  have a1:=(hesat i _ (List.getElem?_eq_getElem hi)).1
  have a2:=(hesat j _ (List.getElem?_eq_getElem hj)).1
  simp only[List.getElem_map,a1,a2]
  omega
 refine wpIn_seq ?_
 refine wpIn_region_list ?_
 rw[h23]
 simp only[wpListIn,Region.wanted,if_true]
 refine(aM (K:=fun v w1=>v=a.tmps.getD m0 undef/\w=w1) (cl.value (v:=a.eval (.tmp m0)) (w':=w) rfl ⟨rfl,rfl⟩) ?_)
 rintro _ _ ⟨rfl,rfl⟩
 rw[hmval]
 have ha1:(a.put (some t72) (.map (some m))).eval (.tmp t72)=.map (some m):=gA (by rw[h.nt];exact n1)
 refine(aM (K:=fun v w1=>v=.pointer (some ⟨w.heap.size,0,none⟩)/\w1=w.alloc (.mapIter (some m) l.length #[] l.length)) (cl.value (dw (m:=Instr.range T (.map (some m))) ?_ (run_range_map w T TK TV m es l.length hT hes)) ⟨rfl,rfl⟩) ?_)
 ·show(Instr.range T ((a.put (some t72) (.map (some m))).eval (.tmp t72)) >>= fun r=>pure (Next.value r))=_
  rw[ha1]
 rintro _ _ ⟨rfl,rfl⟩
 simp only[Exit.then]
 refine wpIn_block ?_
 obtain⟨r,hr0⟩:∃ r,r=w.heap.size:=⟨_,rfl⟩
 rw[<-hr0]
 have hmr:m≠r:=by have:=hmn.2;omega
 have hgr:w.alloc (.mapIter (some m) l.length #[] l.length)=ao w [.mapIter (some m) l.length #[] l.length] w.drawn:=by
  show({ w with heap:=w.heap.push (.mapIter (some m) l.length #[] l.length) }:World)={ w with heap:=w.heap++[Obj.mapIter (some m) l.length #[] l.length].toArray,drawn:=w.drawn }
  rw[Array.push_eq_append]
 have h1:Rp w0 S γ β ((s.put (some t72) .undef).put (some it) .undef) ((a.put (some t72) (.map (some m))).put (some it) (.pointer (some ⟨r,0,none⟩))) (w.alloc (.mapIter (some m) l.length #[] l.length)):=by
  rw[hgr]
  exact(((h.put (v:=.undef) (val:=.map (some m)) (by simp[AR]) (some t72)).put (v:=.undef) (val:=.pointer (some ⟨r,0,none⟩)) (by simp[AR]) (some it)).grow (os:=[.mapIter (some m) l.length #[] l.length]) (d:=w.drawn) (Nat.le_refl _) (S':=S) (fun _ _ hb=>hb) (fun _ _ hb=>.inl hb)).1
 have hv1:bR ((s.put (some t72) .undef).put (some it) .undef) e o=some []:=by
  have q1:((s.put (some t72) .undef).put (some it) .undef).tm o=s.tm o:=by rw[nH (fun e=>d2 (by cases e;rfl)),nH (fun e=>d1 (by cases e;rfl))]
  have q2:((s.put (some t72) .undef).put (some it) .undef).dead=s.dead:=by
   rw[(St.put_fields _ _ _).2.2.1,(St.put_fields _ _ _).2.2.1]
  unfold bR at hv ⊢
  rw[q1,q2];exact hv
 have hnt1:((s.put (some t72) .undef).put (some it) .undef).nt=s.nt:=by rw[(St.put_fields _ _ _).2.2.2.1,(St.put_fields _ _ _).2.2.2.1]
 have hsz1:(w.alloc (.mapIter (some m) l.length #[] l.length)).heap.size=w.heap.size+1:=by rw[hgr];simp[ao]
 have hrn:¬ w0.Old r:=fun ho=>by have:=ho.1;have:=h.ext.sz;omega
 have hdead1:((s.put (some t72) .undef).put (some it) .undef).dead=s.dead:=by rw[(St.put_fields _ _ _).2.2.1,(St.put_fields _ _ _).2.2.1]
 obtain⟨β1,X1,hX1,R1⟩:=h1.std (m:=m) (r:=r) ⟨hmn.1,by rw[hsz1];omega⟩ ⟨hrn,by rw[hsz1];omega⟩ hmr (fun v bb ee hd hb=>by
  rw[hdead1] at hd
  exact⟨fun eq=>h.βγ v idm bb ee hd hb (eq ▸ hγm),fun eq=>by have:=(h.βn v bb ee hd hb).2.1;omega⟩) he hv1 it
 rw[hnt1] at R1
 have hes1:(w.alloc (.mapIter (some m) l.length #[] l.length)).heap[m]?=some (.map es l.length):=by
  rw[hgr,bI hmn.2];exact hes
 have hit1:(w.alloc (.mapIter (some m) l.length #[] l.length)).heap[r]?=some (.mapIter (some m) l.length #[] l.length):=by rw[hr0];exact heap_alloc_new w _
 have hp1:((a.put (some t72) (.map (some m))).put (some it) (.pointer (some ⟨r,0,none⟩))).tmps.getD it undef=.pointer (some ⟨r,0,none⟩):=by
  exact gA (by rw[ak,h.nt];exact n2)
 refine iO (m:=l.length) (fun n a w=>∃ (S:Nat->Nat->Prop) (β:Nat->Option (Nat×Nat)) (X:AV) (L:List D) (seen:Array Nat) (c0:Nat),xj e L X/\Rp w0 (fun b i=>S b i/\b≠m/\b≠r) (γs m r) β (σL s.nt o it X) a w/\a.tmps.getD it undef=.pointer (some ⟨r,0,none⟩) ∧
  w.heap[m]?=some (.map es l.length)/\w.heap[r]?=some (.mapIter (some m) l.length seen c0)/\l.length<=c0/\L=seen.toList.map (fun j=>rh (l.getD j default))/\seen.toList.Nodup/\(∀ j∈seen.toList,j<l.length)/\n+seen.size=l.length)
  ⟨S,β1,X1,[],#[],l.length,hX1,R1,hp1,hes1,hit1,Nat.le_refl _,rfl,by simp,by simp,by simp⟩ ?_
 clear R1 h1 hv1 hp1 hes1 hit1 hX1 hgr
 rintro n a w ⟨S,β,X,L,seen,c0,hX,R,hp,hes,hit,hc0,hL,hnd,hlt,hn⟩
 have hsz:=R.nt
 refine wpIn_seq (wpIn_region_list ?_)
 rw[h24]
 simp only[wpListIn,Region.wanted,if_true]
 have hev:a.eval (.tmp it)=.pointer (some ⟨r,0,none⟩):=hp
 rcases run_next_at w y3 r m l.length c0 seen es l.length hit hes hborn hc0 with⟨hz,hrun⟩|⟨e0,he0,w1,hw1,hrun⟩
 ·
  refine(aM (K:=fun v w1=>v=.tuple #[.bool false]/\w=w1) (cl.value (dw (m:=Instr.next (.pointer (some ⟨r,0,none⟩)) false y3) ?_ hrun) ⟨rfl,rfl⟩) ?_)
  ·show(Instr.next (a.eval (.tmp it)) false y3 >>= fun r=>pure (Next.value r))=_
   rw[hev]
  rintro _ _ ⟨rfl,rfl⟩
  have ex:(a.put (some nx) (.tuple #[.bool false])).eval (.tmp nx)=.tuple #[.bool false]:=gA (by rw[hsz];exact n3)
  refine(aM (K:=fun v w1=>v=.bool false/\w=w1) (cl.value (dw (m:=Instr.extract (.tuple #[.bool false]) 0) ?_ (v:=.bool false) (w':=w) rfl) ⟨rfl,rfl⟩) ?_)
  ·show(Instr.extract ((a.put (some nx) (.tuple #[.bool false])).eval (.tmp nx)) 0 >>= fun r=>pure (Next.value r))=_
   rw[ex]
  rintro _ _ ⟨rfl,rfl⟩
  simp only[Exit.then]
  refine wpIn_seq (wpIn_cond_false (gA (by rw[ak,hsz];exact n4)) (wpIn_exit ?_))
  simp only[Exit.then,Exit.inBlock,if_true]
  have R2:=(R.put (v:=.undef) (val:=.tuple #[.bool false]) (by simp[AR]) (some nx)).put (v:=.undef) (val:=.bool false) (by simp[AR]) (some ok)
  rw[us d3,us d4] at R2
  refine hQ L _ _ _ X _ _ hX ?_ R2
  have hall:∀ j,j<l.length->j∈seen.toList:=fun j hj=>by
   have hj':j<es.toList.length:=by omega
   have e1:=(hesat j _ (List.getElem?_eq_getElem hj')).1
   have hno:es.toList[j] ∉ (leftOf es seen).toList:=fun hm=>by
    have:=List.length_pos_of_mem hm
    simp at this;omega
   simp only[leftOf,Array.toList_filter,List.mem_filter,List.getElem_mem,true_and] at hno
   simp at hno
   simp only[Array.getElem_toList,Nat.zero_add] at e1
   rw[e1] at hno
   simpa using hno
  have hperm:seen.toList.Perm (List.range l.length):=(List.perm_ext_iff_of_nodup hnd List.nodup_range).2 fun j=>⟨fun hj=>List.mem_range.2 (hlt j hj),fun hj=>hall j (List.mem_range.1 hj)⟩
  rw[hL]
  refine(hperm.map _).trans ?_
  have:(List.range l.length).map (fun j=>rh (l.getD j default))=l.map rh:=by
   apply List.ext_getElem?
   intro j
   rw[List.getElem?_map,List.getElem?_map]
   rcases Nat.lt_or_ge j l.length with k|k
   ·simp[k,List.getD]
   ·rw[List.getElem?_eq_none (by simpa using k),List.getElem?_eq_none k];rfl
  rw[this]
 ·
  have hw1m:w1.heap[m]?=some (.map es l.length):=by rcases hw1 with rfl|rfl<;>exact hes
  have hw1s:w1.heap.size=w.heap.size:=by rcases hw1 with rfl|rfl<;>rfl
  have hrs:r<w1.heap.size:=by rw[hw1s];exact(Array.getElem?_eq_some_iff.1 hit).1
  have Rw:Rp w0 (fun b i=>S b i/\b≠m/\b≠r) (γs m r) β (σL s.nt o it X) a w1:=by
   rcases hw1 with rfl|rfl
   ·exact R
   ·have:=(R.grow (os:=[]) (d:=w.drawn+1) (Nat.le_succ _) (S':=fun b i=>S b i/\b≠m/\b≠r) (fun _ _ hb=>hb) (fun _ _ hb=>.inl hb)).1
    have e2:ao w [] (w.drawn+1)=w.drew:=by
     unfold ao
     rw[show w.heap++([]:List Obj).toArray=w.heap by simp]
     rfl
    rw[e2] at this
    exact this
  obtain⟨w2,hw2⟩:∃ w2,w2=setBlock w1 r (.mapIter (some m) l.length (seen.push e0.born) l.length):=⟨_,rfl⟩
  rw[<-hw2] at hrun
  have R2:Rp w0 (fun b i=>S b i/\b≠m/\b≠r) (γs m r) β (σL s.nt o it X) a w2:=by
   rw[hw2]
   exact Rw.setB (id:=1) rfl rfl (fun i hi=>hi.2.2 rfl) _
  have hes2:w2.heap[m]?=some (.map es l.length):=by
   rw[hw2];simp only[setBlock];rw[Array.getElem?_setIfInBounds_ne (Ne.symm hmr)];exact hw1m
  have hit2:w2.heap[r]?=some (.mapIter (some m) l.length (seen.push e0.born) l.length):=by
   rw[hw2];simp only[setBlock];rw[Array.getElem?_setIfInBounds_self_of_lt hrs]
  have he0':e0∈es.toList/\e0.born ∉ seen.toList:=by
   simp only[leftOf,Array.toList_filter,List.mem_filter] at he0
   exact⟨he0.1,by have:=he0.2;simpa using this⟩
  obtain⟨j,hj,hje⟩:=List.getElem_of_mem he0'.1
  obtain⟨q1,k,v,q2,q3,q4,q5,q6⟩:=hesat j e0 (by rw[List.getElem?_eq_getElem hj,hje])
  rw[Nat.zero_add] at q1
  have hjl:j<l.length:=by omega
  have hgetj:l.getD j default=.st [k,v]:=by simp[List.getD,q2]
  refine(aM (K:=fun v w1=>v=.tuple #[.bool true,e0.key,e0.val]/\w2=w1) (cl.value (dw (m:=Instr.next (.pointer (some ⟨r,0,none⟩)) false y3) ?_ hrun) ⟨rfl,rfl⟩) ?_)
  ·show(Instr.next (a.eval (.tmp it)) false y3 >>= fun r=>pure (Next.value r))=_
   rw[hev]
  rintro _ _ ⟨rfl,rfl⟩
  have ex:(a.put (some nx) (.tuple #[.bool true,e0.key,e0.val])).eval (.tmp nx)=.tuple #[.bool true,e0.key,e0.val]:=gA (by rw[hsz];exact n3)
  refine(aM (K:=fun v w1=>v=.bool true/\w2=w1) (cl.value (dw (m:=Instr.extract (.tuple #[.bool true,e0.key,e0.val]) 0) ?_ (v:=.bool true) (w':=w2) rfl) ⟨rfl,rfl⟩) ?_)
  ·show(Instr.extract ((a.put (some nx) (.tuple #[.bool true,e0.key,e0.val])).eval (.tmp nx)) 0 >>= fun r=>pure (Next.value r))=_
   rw[ex]
  rintro _ _ ⟨rfl,rfl⟩
  simp only[Exit.then]
  refine wpIn_seq (wpIn_cond_true (gA (by rw[ak,hsz];exact n4)) (wpIn_skip ?_))
  simp only[Exit.then]
  refine wpIn_block (wpIn_seq (wpIn_region_list ?_))
  have R3:=(R2.put (v:=.undef) (val:=.tuple #[.bool true,e0.key,e0.val]) (by simp[AR]) (some nx)).put (v:=.undef) (val:=.bool true) (by simp[AR]) (some ok)
  rw[us d3,us d4] at R3
  have hp3:((a.put (some nx) (.tuple #[.bool true,e0.key,e0.val])).put (some ok) (.bool true)).tmps.getD it undef=.pointer (some ⟨r,0,none⟩):=by
   rw[bE (fun e=>d8 (by cases e;rfl)),bE (fun e=>d7 (by cases e;rfl))];exact hp
  generalize ((a.put (some nx) (.tuple #[.bool true,e0.key,e0.val])).put (some ok) (.bool true))=a3 at R3 hp3 ⊢
  rw[h25]
  simp only[wpListIn,Region.wanted,if_true]
  refine(aM (K:=fun v w1=>v=.tuple #[e0.key,e0.val]/\w2=w1) (cl.value (dw (m:=Instr.entry (.pointer (some ⟨r,0,none⟩))) ?_ (run_entry_at w2 r m l.length seen es l.length e0 hit2 hes2 he0'.1 hbn)) ⟨rfl,rfl⟩) ?_)
  ·show(Instr.entry (a3.eval (.tmp it)) >>= fun r=>pure (Next.value r))=_
   rw[show a3.eval (.tmp it)=.pointer (some ⟨r,0,none⟩) from hp3]
  rintro _ _ ⟨rfl,rfl⟩
  have R4:=R3.put (v:=.d (.tup [e,vt]) (.tup [k,v])) (val:=.tuple #[e0.key,e0.val]) (by
   simp only[AR]
   refine .inr ⟨[e,vt],rfl,by simp[aT,hne,hnv],⟨[k,v],rfl,k,[v],rfl,q3,v,[],rfl,q4,rfl⟩,[e0.key,e0.val],rfl,rfl,fun i d u hd hu=>?_⟩
   cases i with
   | zero=>simp at hd hu;subst hd;subst hu;exact o8 he q3 q5
   | succ i=>cases i with
    | zero=>simp at hd hu;subst hd;subst hu;exact o8 hvt q4 q6
    | succ i=>simp at hd) (some en)
  have hp4:(a3.put (some en) (.tuple #[e0.key,e0.val])).tmps.getD it undef=.pointer (some ⟨r,0,none⟩):=by
   rw[bE (fun e=>d9 (by cases e;rfl))];exact hp3
  generalize (a3.put (some en) (.tuple #[e0.key,e0.val]))=a4 at R4 hp4 ⊢
  have hbs:(e0.born::seen.toList).length<=l.length:=uJ _ _ (List.nodup_cons.2 ⟨he0'.2,hnd⟩) (fun x hx=>by
   rcases List.mem_cons.1 hx with rfl|hx
   ·omega
   ·exact hlt x hx)
  have hLl:L.length=seen.size:=by rw[hL];simp
  simp only[List.length_cons,Array.length_toList] at hbs
  have lkS4:((σL s.nt o it X).put (some en) (.d (.tup [e,vt]) (.tup [k,v]))).lkS=[it]:=(St.put_fields _ _ _).2.2.2.2.1
  have lkO4:((σL s.nt o it X).put (some en) (.d (.tup [e,vt]) (.tup [k,v]))).lkO=[0,1]:=(St.put_fields _ _ _).2.2.2.2.2.1
  refine kX (ops:=rest.toArray) rest _ _ hrest ?_
  have key:=zt (ro:=ro) (nn:=nn) hE (Q:=Exit.then (c26.wpIn (FW ro) nn P (Exit.inBlock b2 (Exit.then (fun a' w'=>∃ m_1,m_1<n/\∃ (S:Nat->Nat->Prop) (β:Nat->Option (Nat×Nat)) (X:AV) (L:List D) (seen:Array Nat) (c0:Nat),xj e L X/\Rp w0 (fun b i=>S b i/\b≠m/\b≠r) (γs m r) β (σL s.nt o it X) a' w'/\a'.tmps.getD it undef=.pointer (some ⟨r,0,none⟩) ∧
   w'.heap[m]?=some (.map es l.length)/\w'.heap[r]?=some (.mapIter (some m) l.length seen c0)/\l.length<=c0/\L=seen.toList.map (fun j=>rh (l.getD j default))/\seen.toList.Nodup/\(∀ j∈seen.toList,j<l.length)/\m_1+seen.size=l.length) (Exit.inBlock b Q)))) (Exit.inBlock b2 (Exit.then (fun a' w'=>∃ m_1,m_1<n/\∃ (S:Nat->Nat->Prop) (β:Nat->Option (Nat×Nat)) (X:AV) (L:List D) (seen:Array Nat) (c0:Nat),xj e L X/\Rp w0 (fun b i=>S b i/\b≠m/\b≠r) (γs m r) β (σL s.nt o it X) a' w'/\a'.tmps.getD it undef=.pointer (some ⟨r,0,none⟩) ∧
   w'.heap[m]?=some (.map es l.length)/\w'.heap[r]?=some (.mapIter (some m) l.length seen c0)/\l.length<=c0/\L=seen.toList.map (fun j=>rh (l.getD j default))/\seen.toList.Nodup/\(∀ j∈seen.toList,j<l.length)/\m_1+seen.size=l.length) (Exit.inBlock b Q)))) R4 (hround X L k v hX (by omega) q3) ?_
  ·simpa using key
  intro x s' S' γ' β' a' w' g1 g2 g3 g4
  cases x with
  | ret=>cases g4
  | exit i=>cases g4
  | normal=>
   show c26.wpIn (FW ro) nn P _ a' w'
   refine dL hE c26 .leaf D _ _ g1 g4 fun x2 s2 S2 γ2 β2 a5 w5 k1 k2 k3 k4=>?_
   cases x2 with
   | ret=>cases k4
   | exit i=>cases k4
   | normal=>
    have hfr:bR s2 e o=some (L++[k]):=by
     obtain⟨l2,u1,u2⟩:=bind_some_inv k4
     simp only[Option.some.injEq,D.sl.injEq] at u2
     rw[u1,u2]
    have F:=g2.tr k2 g3
    obtain⟨z1,z2⟩:=F.objs 0 (by rw[lkO4];simp) m rfl
    obtain⟨z3,z4⟩:=F.objs 1 (by rw[lkO4];simp) r rfl
    have z5:=F.slots it (by rw[lkS4];simp)
    obtain⟨β6,X6,hX6,R6⟩:=k1.std (m:=m) (r:=r) (k1.γn 0 m z1) (k1.γn 1 r z3) hmr (fun u bb ee hd hb=>⟨fun eq=>k1.βγ u 0 bb ee hd hb (eq ▸ z1),fun eq=>k1.βγ u 1 bb ee hd hb (eq ▸ z3)⟩) he hfr it
    have hnt6:s2.nt=s.nt:=by
     rw[k3.nt,g3.nt,(St.put_fields _ _ _).2.2.2.1];rfl
    rw[hnt6] at R6
    show ∃ m_1,m_1<n/\_
    refine⟨n-1,by omega,S2,β6,X6,L++[k],seen.push e0.born,l.length,hX6,R6,z5.trans hp4,z2.trans hes2,z4.trans hit2,Nat.le_refl _,?_,?_,?_,?_⟩
    ·rw[Array.toList_push,List.map_append,<-hL,List.map_cons,List.map_nil,q1,hgetj];rfl
    ·rw[Array.toList_push,List.nodup_append]
     refine⟨hnd,by simp,fun x hx y hy=>?_⟩
     rw[List.mem_singleton.1 hy]
     exact fun eq=>he0'.2 (eq ▸ hx)
    ·intro x hx
     rw[Array.toList_push] at hx
     rcases List.mem_append.1 hx with hx|hx
     ·exact hlt x hx
     ·rw[List.mem_singleton.1 hx];omega
    ·simp;omega
end
end Go.Proofs.YtjjjkojfijpeeaaGreat.Sy
end
section
namespace Go.Proofs.YtjjjkojfijpeeaaGreat.Sy
open Go Go.Proofs Go.Sort Go.Lib
section
variable{P:Program}{E:Env}
def bZ(w:World)(S:Nat->Nat->Prop):Root:=⟨w,S,fun _=>False⟩
def FE(P:Program)(fn:Func)(w:World)(S:Nat->Nat->Prop)(rty:Ty)(y:D):Exit->Act->World->Prop:=
 bodyPost P fn fun e w'=>∃ v,e=.returned v/\(∃ os d,w.drawn<=d/\w'=ao w os d)/\wt rty y/\DR w' (fun b o=>S b o\/(w.heap.size<=b/\b<w'.heap.size)) y v
theorem Gb(hE:EnvOk P E){fn:Func}{rty:Ty}{y:D}{w:World}{S:Nat->Nat->Prop}(hr:gQ fn.results.size rty=true){d:Code}{ann:Ann}{S':Nat->Nat->Prop}{γ':Nat->Option Nat}{β':Nat->Option (Nat×Nat)}{s':St}{a':Act}{w':World}
  (h:Rp (bZ w S) S' γ' β' s' a' w') (hev:(ev E d ann D s' fun e s=>match e with|.exit _=>none|_=>results E s rty fn.results.toList)=some y):d.wpIn (FW none) 0 P (FE P fn w S rty y) a' w':=by
 refine dL hE d ann D _ y h hev fun e s' S' γ' β' a' w' n1 n2 n3 n4=>?_
 have hres:results E s' rty fn.results.toList=some y->(∃ v,(Go.results fn a'.tmps).run P w'=.ok v w'/\∃ v',Ending.returned v=.returned v'/\(∃ os d,w.drawn<=d/\w'=ao w os d)/\wt rty y/\DR w' (fun b o=>S b o\/(w.heap.size<=b/\b<w'.heap.size)) y v'):=fun hq=>by
  obtain⟨v,k1,k2,k3⟩:=lM hE n1 hr hq
  refine⟨v,k1,v,rfl,bM n1.ext (fun _ hf=>hf),k2,k3.mono (fun _ _ _=>rfl) fun b o hb=>?_⟩
  rcases Nat.lt_or_ge b w.heap.size with hlt|hge
  ·exact .inl (n1.So b o hb ⟨hlt,fun hf=>hf⟩)
  ·exact .inr ⟨hge,n1.Sb b o hb⟩
 cases e with
 | normal=>exact⟨n1.df,hres n4⟩
 | ret=>exact⟨n1.df,hres n4⟩
 | exit i=>cases n4
theorem qk(hE:EnvOk P E){f:FuncId}{fn:Func}{ann:AnnT}{ptys:List Ty}{rty:Ty}{xs:List D}{y:D}{K:St->Option D}(hf:P.funcs[f]?=some fn)(hk:(decide (ptys.length<=fn.ntmps)&&gQ fn.results.size rty&&aT ptys)=true)
  (h:Dk E K fn ann ptys xs=some y) (hK:∀ c,fn.body=some c->∀ (w:World) (S S':Nat->Nat->Prop) γ' β' s' a' w',Rp (bZ w S) S' γ' β' s' a' w'->K s'=some y->(oH c ann).wpIn (FW none) 0 P (FE P fn w S rty y) a' w'):C8 P ptys rty f xs y:=by
 intro w S vs hS hwt hlen hvs
 simp only[Bool.and_eq_true,decide_eq_true_eq] at hk
 obtain⟨⟨hsz,hr⟩,hn⟩:=hk
 unfold Dk at h
 split at h<;>first|(cases h;done)|skip
 rename_i c hb
 have hxl:xs.length=ptys.length:=lC hwt
 have hntm:(vs.toArray++Array.replicate (fn.ntmps-vs.toArray.size) undef).size=fn.ntmps:=by
  simp;omega
 refine cF hf hb (Gt (w0:=bZ w S) hE c ann (S:=S) (γ:=fun _=>none) (β:=fun _=>none) (s:=tU fn ptys xs) ?_ h fun s' S' γ' β' a' w' n1 n2=>hK c hb w S S' γ' β' s' a' w' n1 n2)
 refine⟨⟨rfl,rfl,rfl,Nat.le_refl _,Nat.le_refl _,fun _ _=>rfl⟩,fun t ht=>?_,hntm,fun t ht=>?_,fun id o b ho=>(by cases ho),fun id b hb=>(by cases hb),fun id id' b hb=>(by cases hb),fun _ _=>rfl,fun v b e _ hb=>(by cases hb),fun v v' b e e' _ _ hb=>(by cases hb),fun v id b e _ hb=>(by cases hb),fun _ _=>rfl,hS,fun b o hb _=>hb,rfl⟩
 ·simp only[tU,nF]
  split
  ·rename_i ty x e1 e2
   have hlt:=(List.getElem?_eq_some_iff.1 e2).1
   have hlt':t<vs.length:=by omega
   have hv:(vs.toArray++Array.replicate (fn.ntmps-vs.toArray.size) undef).getD t undef=vs[t]:=by
    simp[Array.getD,Array.getElem_append,hlt']
    omega
   show AR _ _ ((vs.toArray++Array.replicate (fn.ntmps-vs.toArray.size) undef).getD t undef)
   rw[hv]
   obtain⟨x',hx',hw'⟩:=jt hwt e1
   rw[e2] at hx';cases hx'
   exact dK (bT hn e1) hw' (hvs t x _ e2 (List.getElem?_eq_getElem hlt'))
  ·simp only[AR]
 ·have ht':fn.ntmps<=t:=ht
  simp only[tU,nF]
  rw[List.getElem?_eq_none (by omega)]
def GD(nt x:Nat)(e:Ty)(l:List D):St:={ tm:=fun i=>if i=x then .d (.sl e) (.sl l) else .undef,ob:=fun _=>none,fresh:=0,dead:=[],nt:=nt,lkS:=[],lkO:=[] }
theorem Rp.reset{w0:Root}{S:Nat->Nat->Prop}{s:St}{x:Nat}{e:Ty}{l:List D}{a:Act}{w:World}(h:Rp w0 S (fun _=>none) (fun _=>none) (GG s x e l) a w){nt:Nat}(hnt:s.nt=nt):Rp w0 S (fun _=>none) (fun _=>none) (GD nt x e l) a w:=by
 subst hnt
 exact⟨h.ext,h.tms,h.nt,h.tmu,fun id o b ho=>(by cases ho),h.γn,h.γi,fun _ _=>rfl,h.βn,h.βi,h.βγ,fun _ _=>rfl,h.Sb,h.So,h.df⟩
def yK(E:Env)(nt x g:Nat)(e:Ty)(s:St):Option D:=(bR s e x).bind fun l=>if s.nt=nt then(hC E g l).bind fun l'=>some (.sl l') else none
theorem sH(hE:EnvOk P E){f0:Nat}{e:Ty}(hf:SortOk P f0 e){g:Nat}(hsig:E.sig g=some ([e,e],.int .i64)){fn:Func}{rty:Ty}{y:D}{w:World}{S:Nat->Nat->Prop}(hr:gQ fn.results.size rty=true)
  {id x t d2 nt:Nat} {ops:Array Oper} {d:Code} {ann:Ann} {ty1 ty2:TypeId} {p1 p2:String} {af1 af2:Array Edge} {args:Array Operand} {ats:Array TypeId}
  (hops:ops.toList=[⟨some t,.move (.tmp x),ty1,p1,af1,none⟩,⟨some d2,.call ⟨.value (.func f0),args,ats⟩,ty2,p2,af2,none⟩]) (hargs:args=#[.tmp t,.func g]) (hd:(decide (x≠t)&&decide (x≠d2)&&decide (t<nt))=true)
  (hev:∀ l',(ev E d ann D (GD nt x e l') fun e s=>match e with|.exit _=>none|_=>results E s rty fn.results.toList)=some (.sl l'))
  {S':Nat->Nat->Prop} {γ':Nat->Option Nat} {β':Nat->Option (Nat×Nat)} {s':St} {a':Act} {w':World} (h:Rp (bZ w S) S' γ' β' s' a' w') (hK:yK E nt x g e s'=some y):(Code.seq (.region id ops false) d).wpIn (FW none) 0 P (FE P fn w S rty y) a' w':=by
 simp only[Bool.and_eq_true,decide_eq_true_eq] at hd
 obtain⟨⟨hd1,hd2⟩,hd3⟩:=hd
 obtain⟨l,h1,h2⟩:=bind_some_inv hK
 split at h2<;>first|(cases h2;done)|skip
 rename_i hnt
 obtain⟨l',h3,h4⟩:=bind_some_inv h2
 cases h4
 refine wpIn_seq (E9 hE hf hsig hops hargs h hd1 hd2 (by rw[hnt];exact hd3) h1 h3 fun a2 w2 S2 hR=>?_)
 exact Gb hE hr (hR.reset hnt) (hev l')
theorem oh{lt:D->D->Bool}{x:D}:∀ {l:List D},(∀ a∈x::l,∀ b∈x::l,∀ c∈x::l,lt a b=true->lt b c=true->lt a c=true)->(∀ y∈l,lt x y=true\/lt y x=true)->l.Pairwise (fun a b=>lt a b=true)->(tP lt x l).Pairwise (fun a b=>lt a b=true)
 | [],_,_,_=>by simp[tP]
 | y::l,htr,hto,hp=>by
  obtain⟨p1,p2⟩:=List.pairwise_cons.1 hp
  simp only[tP]
  split
  ·rename_i hxy
   refine List.pairwise_cons.2 ⟨fun z hz=>?_,hp⟩
   rcases List.mem_cons.1 hz with rfl|hz
   ·exact hxy
   ·exact htr x (by simp) y (by simp) z (by simp[hz]) hxy (p1 z hz)
  ·rename_i hxy
   have hyx:lt y x=true:=(hto y List.mem_cons_self).resolve_left hxy
   refine List.pairwise_cons.2 ⟨fun z hz=>?_,oh (fun a ha b hb c hc=>?_) (fun z hz=>hto z (List.mem_cons_of_mem _ hz)) p2⟩
   ·rcases List.mem_cons.1 ((nA lt x l).subset hz) with rfl|hz
    ·exact hyx
    ·exact p1 z hz
   ·have up:∀ q,q∈x::l->q∈x::y::l:=fun q hq=>by
     rcases List.mem_cons.1 hq with rfl|hq
     ·simp
     ·simp[hq]
    exact htr a (up a ha) b (up b hb) c (up c hc)
theorem me{lt:D->D->Bool}:∀ {l:List D},(∀ a∈l,∀ b∈l,∀ c∈l,lt a b=true->lt b c=true->lt a c=true)->l.Pairwise (fun a b=>lt a b=true\/lt b a=true)->(fO lt l).Pairwise (fun a b=>lt a b=true)
 | [],_,_=>by simp[fO]
 | x::l,htr,hto=>by
  obtain⟨p1,p2⟩:=List.pairwise_cons.1 hto
  have hs:∀ q,q∈fO lt l->q∈l:=fun q hq=>(er lt l).subset hq
  have up:∀ q,q∈x::fO lt l->q∈x::l:=fun q hq=>by
   rcases List.mem_cons.1 hq with rfl|hq
   ·simp
   ·simp[hs q hq]
  exact oh (fun a ha b hb c hc=>htr a (up a ha) b (up b hb) c (up c hc)) (fun y hy=>p1 y (hs y hy)) (me (fun a ha b hb c hc=>htr a (List.mem_cons_of_mem _ ha) b (List.mem_cons_of_mem _ hb) c (List.mem_cons_of_mem _ hc)) p2)
theorem wv{g:Nat}{l l':List D}(hc:jn E g l'=true)(hp:l.Perm l'):hC E g l=some l':=by
 obtain⟨h1,h2⟩:=gq hc
 have ix:∀ x∈l',∃ i,l'[i]?=some x:=fun x hx=>by
  obtain⟨i,k1,k2⟩:=List.getElem_of_mem hx
  exact⟨i,by rw[List.getElem?_eq_getElem k1,k2]⟩
 have htr:∀ a∈l,∀ b∈l,∀ c∈l,jJ E g a b=true->jJ E g b c=true->jJ E g a c=true:=fun a ha b hb c hc' k1 k2=>by
  obtain⟨i,hi⟩:=ix a (hp.subset ha);obtain⟨j,hj⟩:=ix b (hp.subset hb);obtain⟨k,hk⟩:=ix c (hp.subset hc')
  have:=(cJ hc hi hj).1.1 k1
  have:=(cJ hc hj hk).1.1 k2
  exact(cJ hc hi hk).1.2 (by omega)
 have hnd:l.Nodup:=hp.symm.nodup (sB hc)
 have hto:l.Pairwise (fun a b=>jJ E g a b=true\/jJ E g b a=true):=by
  refine List.Pairwise.imp_of_mem (fun{a b} ha hb hab=>?_) hnd
  obtain⟨i,hi⟩:=ix a (hp.subset ha);obtain⟨j,hj⟩:=ix b (hp.subset hb)
  rcases Nat.lt_trichotomy i j with k|k|k
  ·exact .inl ((cJ hc hi hj).1.2 k)
  ·subst k;rw[hi] at hj;cases hj;exact absurd rfl hab
  ·exact .inr ((cJ hc hj hi).1.2 k)
 have hs:=me htr hto
 have hsp:(fO (jJ E g) l).Perm l':=(er _ l).trans hp
 have:fO (jJ E g) l=l':=by
  have key:∀ {a b:List D},a.Pairwise (fun x y=>jJ E g x y=true)->b.Pairwise (fun x y=>jJ E g x y=true)->a.Perm b->(∀ x∈a,x∈l')->a=b:=by
   intro a
   induction a with
   | nil=>intro b _ _ hp _;exact hp.symm.eq_nil.symm ▸ rfl
   | cons x a ih=>
    intro b ha hb hp hm
    cases b with
    | nil=>exact absurd hp.eq_nil (by simp)
    | cons y b=>
     obtain⟨a1,a2⟩:=List.pairwise_cons.1 ha
     obtain⟨b1,b2⟩:=List.pairwise_cons.1 hb
     have e:x=y:=by
      rcases List.mem_cons.1 (hp.subset List.mem_cons_self) with e|m1
      ·exact e
      ·rcases List.mem_cons.1 (hp.symm.subset (List.mem_cons_self (a:=y))) with e|m2
       ·exact e.symm
       ·exfalso
        obtain⟨i,hi⟩:=ix x (hm x List.mem_cons_self)
        obtain⟨j,hj⟩:=ix y (hm y (List.mem_cons_of_mem _ m2))
        have:=(cJ hc hi hj).1.1 (a1 y m2)
        have:=(cJ hc hj hi).1.1 (b1 x m1)
        omega
     subst e
     rw[ih a2 b2 ((List.perm_cons x).1 hp) (fun z hz=>hm z (List.mem_cons_of_mem _ hz))]
  exact key hs (h1.imp fun h=>h.1) hsp fun x hx=>hsp.subset hx
 unfold hC
 rw[this,if_pos hc]
theorem w9{g:Nat}{l l2 l':List D}(h:hC E g l=some l')(hp:l2.Perm l):hC E g l2=some l':=by
 have hsd:jn E g l'=true/\l'=fO (jJ E g) l:=by
  unfold hC at h
  split at h
  ·rename_i hh;cases h;exact⟨hh,rfl⟩
  ·cases h
 exact wv hsd.1 (hp.trans (by rw[hsd.2];exact(er _ l).symm))
end
end Go.Proofs.YtjjjkojfijpeeaaGreat.Sy
end
