/- Part 7 of the proof that HullMoves answers true at every input -/
import Derived.Test.YtjjjkojfijpeeaaGreatMoves05
set_option linter.unusedVariables false
set_option linter.unusedSimpArgs false
set_option linter.unnecessarySimpa false
section
set_option maxRecDepth 20000
set_option maxHeartbeats 0
set_option linter.unusedVariables false
namespace Go.Proofs.YtjjjkojfijpeeaaGreat.Sy
open Go Go.Proofs
def PU:Ann:=(.two .leaf (.two .leaf (.two .leaf (.two (.two .leaf (.two (.loop ⟨[(1,.same (.ptr K3 4097 [])),(3,.ow Ge),(5,.dv (Ty.int .i64))],[(4097,.keep K3 1)],[4]⟩ [(.exit 0,⟨[(3,.ow Ge)],[],[]⟩)] (.two .leaf (.two (.two (.two .leaf (.two .leaf (.two (.loop ⟨[(1,.same (.ptr K3 4097 [])),(3,.ow Ge),(7,.dv (Ty.int .i64))],[(4097,.keep K3 1)],[4,5,6]⟩ [(.exit 2,⟨[(1,.same (.ptr K3 4097 [])),(3,.ow Ge)],[(4097,.keep K3 1)],[4,5]⟩)] (.two .leaf (.two (.two (.two (.reg [] 26) (.reg [] 12)) .leaf) .leaf))) .leaf))) .leaf) .leaf))) .leaf)) .leaf))))
noncomputable def NN(lp:Lp)(call:Nat->List D->Option D)(a0:D):Option D:=
(call 19 [a0]).bind fun r1=>
(lp (β:=Nat×List D) (fun(v2:List D)=>
(D.asSl r1).bind fun l3=>
(D.bin .lss (gx v2 1) (D.int .i64 (l3.length))).bind fun x4=>
(D.truth x4).bind fun b5=>
 if b5 then((D.asSl r1).bind fun l6=>
(D.idx (gx v2 1) (l6.length)).bind fun i7=>
(l6[i7]?).bind fun x8=>
(D.fld x8 2).bind fun x9=>
(lp (β:=Nat×List D) (fun(v10:List D)=>
(D.bin .add (gx v10 1) (D.int .i64 1)).bind fun x11=>
(D.asSl x9).bind fun l12=>
(D.bin .lss x11 (D.int .i64 (l12.length))).bind fun x13=>
(D.truth x13).bind fun b14=>
 if b14 then((D.get a0 [0]).bind fun x15=>
(D.asSl x9).bind fun l16=>
(D.idx (D.int .i64 0) (l16.length)).bind fun i17=>
(l16[i17]?).bind fun x18=>
(D.asSl x15).bind fun l19=>
(D.idx x18 (l19.length)).bind fun i20=>
(l19[i20]?).bind fun x21=>
(D.get a0 [0]).bind fun x22=>
(D.asSl x9).bind fun l23=>
(D.idx (gx v10 1) (l23.length)).bind fun i24=>
(l23[i24]?).bind fun x25=>
(D.asSl x22).bind fun l26=>
(D.idx x25 (l26.length)).bind fun i27=>
(l26[i27]?).bind fun x28=>
(D.get a0 [0]).bind fun x29=>
(D.bin .add (gx v10 1) (D.int .i64 1)).bind fun x30=>
(D.asSl x9).bind fun l31=>
(D.idx x30 (l31.length)).bind fun i32=>
(l31[i32]?).bind fun x33=>
(D.asSl x29).bind fun l34=>
(D.idx x33 (l34.length)).bind fun i35=>
(l34[i35]?).bind fun x36=>
(call 123 [x21,x28]).bind fun r37=>
(call 33 [r37,x36]).bind fun r38=>
 if List.length ((gx v10 0).els)+List.length [(D.st [(D.st [x21,x28,x36]),r38])]<=1073741824 then((D.bin .add (gx v10 1) (D.int .i64 1)).bind fun x39=>
 some (Sum.inl [(D.sl (((gx v10 0).els)++[(D.st [(D.st [x21,x28,x36]),r38])])),x39])) else none) else(some (Sum.inr (0,[(D.sl ((gx v10 0).els))])))) [(D.sl ((gx v2 0).els)),(D.int .i64 1)]).bind fun r40=>
(D.bin .add (gx v2 1) (D.int .i64 1)).bind fun x41=>
 some (Sum.inl [(D.sl ((gx r40.2 0).els)),x41])) else(some (Sum.inr (0,[(D.sl ((gx v2 0).els))])))) [(D.sl []),(D.int .i64 0)]).bind fun r42=>
 some (D.sl ((gx r42.2 0).els))
theorem PY{lp}(hlp:au lp):ae 58 (m1 (NN lp)):=bz (fn:=Tryz.f58) (ann:=PU) hlp (by kernel_rfl) (by kernel_rfl) (fun call a0=>by kernel_rfl)
def QX:Ann:=(.two .leaf (.two .leaf (.two .leaf (.two .leaf (.two .leaf (.two .leaf (.two .leaf (.two (.two .leaf (.two (.two (.reg [] 6) .leaf) .leaf)) (.two .leaf (.two (.two .leaf (.two (.two (.reg [] 6) .leaf) .leaf)) (.two (.reg [] 6) .leaf)))))))))))
noncomputable def Is(lp:Lp)(call:Nat->List D->Option D)(a0:D)(a1:D):Option D:=
(call 124 [a0]).bind fun r1=>
(D.tupAt r1 0).bind fun x2=>
(D.tupAt r1 1).bind fun x3=>
(call 124 [a1]).bind fun r4=>
(D.tupAt r4 0).bind fun x5=>
(D.tupAt r4 1).bind fun x6=>
(D.truth x3).bind fun b7=>
(if b7 then(D.truth x6) else(some false)).bind fun b8=>
(D.truth (D.bool b8)).bind fun b9=>
 if b9 then((D.bin .add x2 x5).bind fun x10=>
(call 34 [x10]).bind fun r11=>
 some r11) else((call 76 [a0]).bind fun r12=>
(D.un .not r12).bind fun x13=>
(D.truth x13).bind fun b14=>
(if b14 then(some true) else((call 76 [a1]).bind fun r15=>
(D.un .not r15).bind fun x16=>
 D.truth x16)).bind fun b17=>
(D.truth (D.bool b17)).bind fun b18=>
 if b18 then((call 125 []).bind fun r19=>
 some r19) else((call 77 [a0]).bind fun r20=>
(call 77 [a1]).bind fun r21=>
(D.get a0 [1]).bind fun x22=>
(D.get a1 [1]).bind fun x23=>
(D.truth (D.bool (D.beq x22 x23))).bind fun b24=>
 if b24 then((D.get a0 [1]).bind fun x25=>
(call 82 [r20,r21]).bind fun r26=>
(call 81 [x25,r26]).bind fun r27=>
 some r27) else((call 78 [r20,r21]).bind fun r28=>
(D.truth r28).bind fun b29=>
 if b29 then((D.get a1 [1]).bind fun x30=>
(call 126 [r21,r20]).bind fun r31=>
(call 81 [x30,r31]).bind fun r32=>
 some r32) else((D.get a0 [1]).bind fun x33=>
(call 126 [r20,r21]).bind fun r34=>
(call 81 [x33,r34]).bind fun r35=>
 some r35))))
theorem OC{lp}(hlp:au lp):ae 59 (m2 (Is lp)):=aV (fn:=Tryz.f59) (ann:=QX) hlp (by kernel_rfl) (by kernel_rfl) (fun call a0 a1=>by kernel_rfl)
def O6:Ann:=(.two .leaf (.two .leaf (.two .leaf (.two (.reg [] 7) (.two (.two .leaf (.two (.loop ⟨[(2,.same (.ptr aD 4098 [])),(3,.same (.ptr aD 4099 [])),(4,.same (.ptr aD 4100 [])),(5,.same (.ptr xL 12293 [])),(24,.dv (Ty.int .i64))],[(4098,.keep aD 2),(4099,.keep aD 3),(4100,.keep aD 4),(12293,.one xL (.dv xL))],[7,23]⟩ [(.exit 0,⟨[(2,.same (.ptr aD 4098 [])),(3,.same (.ptr aD 4099 [])),(4,.same (.ptr aD 4100 [])),(5,.same (.ptr xL 12293 []))],[(4098,.keep aD 2),(4099,.keep aD 3),(4100,.keep aD 4),(12293,.one xL (.dv xL))],[]⟩)] (.two .leaf (.two .leaf (.two (.two (.two .leaf (.two .leaf (.two (.two .leaf (.two (.loop ⟨[(2,.same (.ptr aD 4098 [])),(3,.same (.ptr aD 4099 [])),(4,.same (.ptr aD 4100 [])),(5,.same (.ptr xL 12293 [])),(9,.dv (Ty.int .u64)),(28,.dv (Ty.int .i64))],[(4098,.keep aD 2),(4099,.keep aD 3),(4100,.keep aD 4),(12293,.one xL (.dv xL))],[7,8,23,24,27]⟩ [(.exit 2,⟨[(2,.same (.ptr aD 4098 [])),(3,.same (.ptr aD 4099 [])),(4,.same (.ptr aD 4100 [])),(5,.same (.ptr xL 12293 [])),(9,.dv (Ty.int .u64))],[(4098,.keep aD 2),(4099,.keep aD 3),(4100,.keep aD 4),(12293,.one xL (.dv xL))],[7,8,23,24]⟩)] (.two .leaf (.two .leaf (.two (.two (.two .leaf (.two (.reg [] 20) .leaf)) .leaf) .leaf)))) .leaf)) .leaf))) .leaf) .leaf)))) .leaf)) (.two .leaf (.two (.reg [] 9) .leaf)))))))
noncomputable def Je(lp:Lp)(call:Nat->List D->Option D)(a0:D)(a1:D):Option D:=
(call 118 [(D.sl [a0,a1])]).bind fun r1=>
(D.un .not r1).bind fun x2=>
(D.truth x2).bind fun b3=>
 if b3 then((call 119 []).bind fun r4=>
 some r4) else((D.get a0 [2]).bind fun x5=>
(call 127 [x5]).bind fun r6=>
(D.get a1 [2]).bind fun x7=>
(call 127 [x7]).bind fun r8=>
(lp (β:=Nat×List D) (fun(v9:List D)=>
(D.bin .lss (gx v9 0) r6).bind fun x10=>
(D.truth x10).bind fun b11=>
 if b11 then((lp (β:=Nat×List D) (fun(v12:List D)=>
(D.bin .lss (gx v12 1) r8).bind fun x13=>
(D.truth x13).bind fun b14=>
 if b14 then((D.idx (gx v9 0) 16).bind fun i15=>
(D.get a0 [2,i15]).bind fun x16=>
(D.conv .u64 x16).bind fun x17=>
(D.idx (gx v12 1) 16).bind fun i18=>
(D.get a1 [2,i18]).bind fun x19=>
(D.conv .u64 x19).bind fun x20=>
(D.bin .mul x17 x20).bind fun x21=>
(D.bin .add (gx v9 0) (gx v12 1)).bind fun x22=>
(D.idx x22 32).bind fun Bl=>
(D.get (gx v12 2) [Bl]).bind fun x24=>
(D.conv .u64 x24).bind fun x25=>
(D.bin .add x21 x25).bind fun x26=>
(D.bin .add (gx v12 0) x26).bind fun x27=>
(D.bin .add (gx v9 0) (gx v12 1)).bind fun x28=>
(D.conv .u32 x27).bind fun x29=>
(D.idx x28 32).bind fun i30=>
(D.set (gx v12 2) [i30] x29).bind fun x31=>
(D.bin .shr x27 (D.int .u64 32)).bind fun x32=>
(D.bin .add (gx v12 1) (D.int .i64 1)).bind fun x33=>
 some (Sum.inl [x32,x33,x31])) else(some (Sum.inr (0,[(gx v12 0),(gx v12 2)])))) [(D.int .u64 0),(D.int .i64 0),(gx v9 1)]).bind fun r34=>
(D.bin .add (gx v9 0) r8).bind fun x35=>
(D.conv .u32 (gx r34.2 0)).bind fun x36=>
(D.idx x35 32).bind fun i37=>
(D.set (gx r34.2 1) [i37] x36).bind fun x38=>
(D.bin .add (gx v9 0) (D.int .i64 1)).bind fun x39=>
 some (Sum.inl [x39,x38])) else(some (Sum.inr (0,[(gx v9 1)])))) [(D.int .i64 0),(aB xL)]).bind fun r40=>
(match (gx r40.2 0) with
| D.st l41=>(if decide (16+16<=l41.length) then((D.truth (D.bool (!(D.beq (D.st (List.take 16 (List.drop 16 l41))) (D.st (D.putParts (List.replicate 16 (D.int .u32 0)) [])))))).bind fun b42=>
 if b42 then((call 119 []).bind fun r43=>
 some r43) else((D.get a0 [1]).bind fun x44=>
(D.get a1 [1]).bind fun x45=>
(match (gx r40.2 0) with
| D.st l46=>(if decide (0+16<=l46.length) then((call 116 [(D.bool (!(D.beq x44 x45))),(D.st (List.take 16 (List.drop 0 l46)))]).bind fun r47=>
 some r47) else none)
| _=>none))) else none)
| _=>none))
theorem Qk{lp}(hlp:au lp):ae 61 (m2 (Je lp)):=aV (fn:=Tryz.f61) (ann:=O6) hlp (by kernel_rfl) (by kernel_rfl) (fun call a0 a1=>by kernel_rfl)
def Qs:Ann:=(.two .leaf (.two .leaf (.two .leaf (.cut [(.normal,⟨[(2,.same (.ptr aD 4098 [])),(3,.same (.ptr aD 4099 [])),(4,.same (.ptr bT 4100 [])),(5,.same (.ptr aD 12293 []))],[(4098,.keep aD 2),(4099,.keep aD 3),(4100,.keep bT 4),(12293,.one aD (.dv aD))],[]⟩)] [] [4098,4099,4100] .leaf (.two (.reg [] 7) .leaf)))))
noncomputable def IM(lp:Lp)(call:Nat->List D->Option D)(a0:D)(a1:D):Option D:=
(call 128 [a0]).bind fun r1=>
(D.un .not r1).bind fun x2=>
(D.truth x2).bind fun b3=>
(if b3 then(some true) else((call 128 [a1]).bind fun r4=>
(D.un .not r4).bind fun x5=>
 D.truth x5)).bind fun b6=>
(D.truth (D.bool b6)).bind fun b7=>
(if b7 then(some true) else((call 129 [a1]).bind fun r8=>
 D.truth (D.bool (D.beq r8 (D.int .i64 0))))).bind fun b9=>
(D.truth (D.bool b9)).bind fun b10=>
 if b10 then((call 130 []).bind fun r11=>
 some r11) else((call 131 [a0,a1]).bind fun r12=>
((call 129 [a1]).bind fun r13=>
(D.bin .lss r13 (D.int .i64 0)).bind fun x14=>
(D.truth x14).bind fun b15=>
 if b15 then((call 68 [r12]).bind fun r16=>
 some (0,[r16])) else(some (0,[r12]))).bind fun(r17:Nat×List D)=>
(call 132 [a0,(gx r17.2 0)]).bind fun r18=>
(call 132 [a1,(gx r17.2 0)]).bind fun r19=>
 some (D.st [r18,r19]))
theorem OJ{lp}(hlp:au lp):ae 62 (m2 (IM lp)):=aV (fn:=Tryz.f62) (ann:=Qs) hlp (by kernel_rfl) (by kernel_rfl) (fun call a0 a1=>by kernel_rfl)
def Q1:Ann:=(.two .leaf (.two (.reg [] 3) .leaf))
noncomputable def IE(lp:Lp)(call:Nat->List D->Option D)(a0:D):Option D:=
(call 133 []).bind fun r1=>
(call 37 [a0,r1]).bind fun r2=>
 some r2
theorem QO{lp}(hlp:au lp):ae 63 (m1 (IE lp)):=bz (fn:=Tryz.f63) (ann:=Q1) hlp (by kernel_rfl) (by kernel_rfl) (fun call a0=>by kernel_rfl)
noncomputable def Jy(lp:Lp)(call:Nat->List D->Option D)(a0:D)(a1:D):Option D:=
(D.get a0 [0]).bind fun x1=>
(D.get a1 [0]).bind fun x2=>
(D.bin .add x1 x2).bind fun x3=>
(D.get a0 [1]).bind fun x4=>
(D.get a1 [1]).bind fun x5=>
(D.bin .add x4 x5).bind fun x6=>
(D.get a0 [2]).bind fun x7=>
(D.get a1 [2]).bind fun x8=>
(D.bin .add x7 x8).bind fun x9=>
 some (D.st [x3,x6,x9])
theorem Oo{lp}(hlp:au lp):ae 64 (m2 (Jy lp)):=aV (fn:=Tryz.f64) (ann:=.leaf) hlp (by kernel_rfl) (by kernel_rfl) (fun call a0 a1=>by kernel_rfl)
def PH:Ann:=(.two .leaf (.two .leaf (.two (.reg [] 7) .leaf)))
noncomputable def I2(lp:Lp)(call:Nat->List D->Option D)(a0:D)(a1:D):Option D:=
(call 88 [a1]).bind fun r1=>
(D.un .not r1).bind fun x2=>
(D.truth x2).bind fun b3=>
 if b3 then((call 84 []).bind fun r4=>
 some r4) else((D.get a1 [1]).bind fun x5=>
(D.get a1 [0]).bind fun x6=>
(call 37 [x5,x6]).bind fun r7=>
(call 38 [a0,r7]).bind fun r8=>
 some r8)
theorem OT{lp}(hlp:au lp):ae 65 (m2 (I2 lp)):=aV (fn:=Tryz.f65) (ann:=PH) hlp (by kernel_rfl) (by kernel_rfl) (fun call a0 a1=>by kernel_rfl)
def Rz:Ann:=(.two .leaf (.two (.reg [] 13) .leaf))
noncomputable def IW(lp:Lp)(call:Nat->List D->Option D)(a0:D)(a1:D):Option D:=
(D.get a1 [0]).bind fun x1=>
(call 38 [a0,x1]).bind fun r2=>
(D.get a1 [1]).bind fun x3=>
(call 38 [a0,x3]).bind fun r4=>
(D.get a1 [2]).bind fun x5=>
(call 38 [a0,x5]).bind fun r6=>
 some (D.st [r2,r4,r6])
theorem Pi{lp}(hlp:au lp):ae 66 (m2 (IW lp)):=aV (fn:=Tryz.f66) (ann:=Rz) hlp (by kernel_rfl) (by kernel_rfl) (fun call a0 a1=>by kernel_rfl)
noncomputable def I0(lp:Lp)(call:Nat->List D->Option D)(a0:D):Option D:=
(call 118 [(D.sl [a0])]).bind fun r1=>
(D.un .not r1).bind fun x2=>
(D.truth x2).bind fun b3=>
 if b3 then((call 119 []).bind fun r4=>
 some r4) else((D.get a0 [1]).bind fun x5=>
(D.un .not x5).bind fun x6=>
(D.get a0 [2]).bind fun x7=>
(call 116 [x6,x7]).bind fun r8=>
 some r8)
theorem Qr{lp}(hlp:au lp):ae 68 (m1 (I0 lp)):=bz (fn:=Tryz.f68) (ann:=.leaf) hlp (by kernel_rfl) (by kernel_rfl) (fun call a0=>by kernel_rfl)
def Pe:Ann:=(.two .leaf (.two .leaf (.two (.two .leaf (.two (.loop ⟨[(6,.same (.ptr bT 4102 [])),(7,.same (.ptr aD 8199 [])),(8,.dv (Ty.int .i64))],[(4102,.keep bT 6),(8199,.one aD (.dv aD))],[0,1,2]⟩ [(.exit 0,⟨[(6,.same (.ptr bT 4102 [])),(7,.same (.ptr aD 8199 []))],[(4102,.keep bT 6),(8199,.one aD (.dv aD))],[]⟩)] (.two .leaf (.two (.two (.two .leaf (.two (.reg [] 29) (.two (.reg [] 31) (.reg [] 10)))) .leaf) .leaf))) .leaf)) (.two (.reg [] 3) .leaf))))
noncomputable def NZ(lp:Lp)(call:Nat->List D->Option D)(a0:D)(a1:D)(a2:D):Option D:=
(call 34 [(D.int .i64 0)]).bind fun r1=>
(lp (β:=Nat×List D) (fun(v2:List D)=>
(D.asSl a0).bind fun l3=>
(D.bin .lss (gx v2 0) (D.int .i64 (l3.length))).bind fun x4=>
(D.truth x4).bind fun b5=>
 if b5 then((D.asSl a0).bind fun l6=>
(D.idx (gx v2 0) (l6.length)).bind fun i7=>
(l6[i7]?).bind fun x8=>
(D.fld x8 0).bind fun x9=>
(D.idx a1 3).bind fun i10=>
(D.get x9 [0,i10]).bind fun x11=>
(D.idx a1 3).bind fun my=>
(D.get x9 [1,my]).bind fun x13=>
(D.bin .add x11 x13).bind fun x14=>
(D.idx a1 3).bind fun i15=>
(D.get x9 [2,i15]).bind fun x16=>
(D.bin .add x14 x16).bind fun x17=>
(D.idx a2 3).bind fun i18=>
(D.get x9 [0,i18]).bind fun x19=>
(D.idx a2 3).bind fun i20=>
(D.get x9 [1,i20]).bind fun x21=>
(D.bin .add x19 x21).bind fun x22=>
(D.idx a2 3).bind fun Bl=>
(D.get x9 [2,Bl]).bind fun x24=>
(D.bin .add x22 x24).bind fun x25=>
(D.bin .mul x17 x25).bind fun x26=>
(D.idx a1 3).bind fun i27=>
(D.get x9 [0,i27]).bind fun x28=>
(D.idx a2 3).bind fun i29=>
(D.get x9 [0,i29]).bind fun x30=>
(D.bin .mul x28 x30).bind fun x31=>
(D.bin .add x26 x31).bind fun x32=>
(D.idx a1 3).bind fun i33=>
(D.get x9 [1,i33]).bind fun x34=>
(D.idx a2 3).bind fun i35=>
(D.get x9 [1,i35]).bind fun x36=>
(D.bin .mul x34 x36).bind fun x37=>
(D.bin .add x32 x37).bind fun x38=>
(D.idx a1 3).bind fun i39=>
(D.get x9 [2,i39]).bind fun x40=>
(D.idx a2 3).bind fun i41=>
(D.get x9 [2,i41]).bind fun x42=>
(D.bin .mul x40 x42).bind fun x43=>
(D.bin .add x38 x43).bind fun x44=>
(D.asSl a0).bind fun l45=>
(D.idx (gx v2 0) (l45.length)).bind fun i46=>
(l45[i46]?).bind fun x47=>
(D.fld x47 1).bind fun x48=>
(call 34 [x44]).bind fun r49=>
(call 89 [x48,r49]).bind fun r50=>
(call 59 [(gx v2 1),r50]).bind fun r51=>
(D.bin .add (gx v2 0) (D.int .i64 1)).bind fun x52=>
 some (Sum.inl [x52,r51])) else(some (Sum.inr (0,[(gx v2 1)])))) [(D.int .i64 0),r1]).bind fun r53=>
(call 34 [(D.int .i64 120)]).bind fun r54=>
(call 37 [(gx r53.2 0),r54]).bind fun r55=>
 some r55
theorem OF{lp}(hlp:au lp):ae 69 (m3 (NZ lp)):=tI (fn:=Tryz.f69) (ann:=Pe) hlp (by kernel_rfl) (by kernel_rfl) (fun call a0 a1 a2=>by kernel_rfl)
def O8:Ann:=(.two .leaf (.two .leaf (.two (.reg [] 6) .leaf)))
noncomputable def Jv(lp:Lp)(call:Nat->List D->Option D)(a0:D):Option D:=
(call 88 [a0]).bind fun r1=>
(D.un .not r1).bind fun x2=>
(D.truth x2).bind fun b3=>
 if b3 then((call 84 []).bind fun r4=>
 some r4) else((D.get a0 [0]).bind fun x5=>
(call 86 [x5]).bind fun r6=>
(D.get a0 [1]).bind fun x7=>
 some (D.st [r6,x7]))
theorem Rh{lp}(hlp:au lp):ae 70 (m1 (Jv lp)):=bz (fn:=Tryz.f70) (ann:=O8) hlp (by kernel_rfl) (by kernel_rfl) (fun call a0=>by kernel_rfl)
theorem P6{lp}(hlp:au lp):ae 71 (fT lp 71 Tryz.f71 .leaf):=dn hlp (by kernel_rfl) (by kernel_rfl)
def NH:Ann:=(.two .leaf (.two (.reg [] 4) .leaf))
theorem QS{lp}(hlp:au lp):ae 72 (fT lp 72 Tryz.f72 NH):=dn hlp (by kernel_rfl) (by kernel_rfl)
def N0:Ann:=(.two .leaf (.two (.reg [] 5) (.two .leaf (.two .leaf (.two .leaf (.two (.two (.loop ⟨[(2,.same (.ptr bT 4098 [])),(3,.same (.ptr bT 4099 [])),(7,.dv (Ty.int .i64))],[(4098,.one bT (.dv bT)),(4099,.one bT (.dv bT))],[]⟩ [(.exit 1,⟨[(7,.dv (Ty.int .i64))],[],[]⟩)] (.two (.two (.two (.reg [] 11) .leaf) (.two (.reg [] 16) (.two (.reg [] 7) .leaf))) .leaf)) .leaf) .leaf))))))
theorem OQ{lp}(hlp:au lp):ae 73 (fT lp 73 Tryz.f73 N0):=dn hlp (by kernel_rfl) (by kernel_rfl)
theorem P2{lp}(hlp:au lp):ae 74 (fT lp 74 Tryz.f74 .leaf):=dn hlp (by kernel_rfl) (by kernel_rfl)
noncomputable def Jp(lp:Lp)(call:Nat->List D->Option D)(a0:D):Option D:=
(call 34 [a0]).bind fun r1=>
(call 133 []).bind fun r2=>
(call 37 [r1,r2]).bind fun r3=>
 some r3
theorem Qd{lp}(hlp:au lp):ae 75 (m1 (Jp lp)):=bz (fn:=Tryz.f75) (ann:=.leaf) hlp (by kernel_rfl) (by kernel_rfl) (fun call a0=>by kernel_rfl)
noncomputable def IY(lp:Lp)(call:Nat->List D->Option D)(a0:D):Option D:=
(call 139 [a0]).bind fun r1=>
(D.truth r1).bind fun b2=>
(if b2 then((D.get a0 [0]).bind fun x3=>
(D.un .not x3).bind fun x4=>
 D.truth x4) else(some false)).bind fun b5=>
 some (D.bool b5)
theorem PD{lp}(hlp:au lp):ae 76 (m1 (IY lp)):=bz (fn:=Tryz.f76) (ann:=.leaf) hlp (by kernel_rfl) (by kernel_rfl) (fun call a0=>by kernel_rfl)
def Oy:Ann:=(.two .leaf (.two .leaf (.two (.two .leaf (.two (.loop ⟨[(1,.same (.ptr aD 4097 [])),(3,.ow (Ty.int .i64)),(4,.dv (Ty.int .i64))],[(4097,.keep aD 1)],[]⟩ [(.exit 0,⟨[(3,.ow (Ty.int .i64))],[],[]⟩)] (.two .leaf (.two (.two (.reg [] 14) .leaf) .leaf))) .leaf)) .leaf)))
noncomputable def I3(lp:Lp)(call:Nat->List D->Option D)(a0:D):Option D:=
(lp (β:=Nat×List D) (fun(v1:List D)=>
(D.bin .lss (gx v1 1) (D.int .i64 16)).bind fun x2=>
(D.truth x2).bind fun b3=>
 if b3 then((D.idx (gx v1 1) 16).bind fun i4=>
(D.get a0 [2,i4]).bind fun x5=>
(D.bin .rem x5 (D.int .u32 65536)).bind fun x6=>
(D.conv .i64 x6).bind fun x7=>
(D.idx (gx v1 1) 16).bind fun i8=>
(D.get a0 [2,i8]).bind fun x9=>
(D.bin .quo x9 (D.int .u32 65536)).bind fun x10=>
(D.conv .i64 x10).bind fun x11=>
 if List.length ((gx v1 0).els)+List.length [x7,x11]<=1073741824 then((D.bin .add (gx v1 1) (D.int .i64 1)).bind fun x12=>
 some (Sum.inl [(D.sl (((gx v1 0).els)++[x7,x11])),x12])) else none) else(some (Sum.inr (0,[(D.sl ((gx v1 0).els))])))) [(D.sl []),(D.int .i64 0)]).bind fun r13=>
(call 140 [(D.sl ((gx r13.2 0).els))]).bind fun r14=>
 some r14
theorem Ph{lp}(hlp:au lp):ae 77 (m1 (I3 lp)):=bz (fn:=Tryz.f77) (ann:=Oy) hlp (by kernel_rfl) (by kernel_rfl) (fun call a0=>by kernel_rfl)
def Ra:Ann:=(.two .leaf (.two (.two .leaf (.two (.loop ⟨[(5,.dv (Ty.int .i64))],[],[0,1]⟩ [(.ret,⟨[(4,.dv Ty.bool)],[],[]⟩),(.exit 0,⟨[],[],[]⟩)] .leaf) .leaf)) .leaf))
noncomputable def Jt(lp:Lp)(call:Nat->List D->Option D)(a0:D)(a1:D):Option D:=
(D.asSl a0).bind fun l1=>
(D.asSl a1).bind fun l2=>
(D.max2 (D.int .i64 (l1.length)) (D.int .i64 (l2.length))).bind fun x3=>
(D.bin .sub x3 (D.int .i64 1)).bind fun x4=>
(lp (β:=Nat×List D) (fun(v5:List D)=>
(D.bin .geq (gx v5 0) (D.int .i64 0)).bind fun x6=>
(D.truth x6).bind fun b7=>
 if b7 then((call 141 [a0,(gx v5 0)]).bind fun r8=>
(call 141 [a1,(gx v5 0)]).bind fun r9=>
(D.truth (D.bool (!(D.beq r8 r9)))).bind fun b10=>
 if b10 then((call 141 [a0,(gx v5 0)]).bind fun r11=>
(call 141 [a1,(gx v5 0)]).bind fun r12=>
(D.bin .lss r11 r12).bind fun x13=>
 some (Sum.inr (0,[x13]))) else((D.bin .sub (gx v5 0) (D.int .i64 1)).bind fun x14=>
 some (Sum.inl [x14]))) else(some (Sum.inr (1,[])))) [x4]).bind fun r15=>
 if r15.1=0 then(some (gx r15.2 0)) else(some (D.bool false))
theorem PE{lp}(hlp:au lp):ae 78 (m2 (Jt lp)):=aV (fn:=Tryz.f78) (ann:=Ra) hlp (by kernel_rfl) (by kernel_rfl) (fun call a0 a1=>by kernel_rfl)
def PM:Ann:=(.two .leaf (.two .leaf (.two (.reg [] 7) (.two (.reg [] 7) .leaf))))
noncomputable def NQ(lp:Lp)(call:Nat->List D->Option D)(a0:D)(a1:D):Option D:=
(D.get a0 [0]).bind fun x1=>
(D.get a1 [0]).bind fun x2=>
(call 89 [x1,x2]).bind fun r3=>
(D.get a0 [1]).bind fun x4=>
(D.get a1 [1]).bind fun x5=>
(call 89 [x4,x5]).bind fun r6=>
(call 59 [r3,r6]).bind fun r7=>
(D.get a0 [2]).bind fun x8=>
(D.get a1 [2]).bind fun x9=>
(call 89 [x8,x9]).bind fun r10=>
(call 59 [r7,r10]).bind fun r11=>
 some r11
theorem Rb{lp}(hlp:au lp):ae 79 (m2 (NQ lp)):=aV (fn:=Tryz.f79) (ann:=PM) hlp (by kernel_rfl) (by kernel_rfl) (fun call a0 a1=>by kernel_rfl)
def OM:Ann:=(.two .leaf (.two (.reg [] 10) .leaf))
noncomputable def Jn(lp:Lp)(call:Nat->List D->Option D)(a0:D):Option D:=
(D.get a0 [0]).bind fun x1=>
(call 34 [x1]).bind fun r2=>
(D.get a0 [1]).bind fun x3=>
(call 34 [x3]).bind fun r4=>
(D.get a0 [2]).bind fun x5=>
(call 34 [x5]).bind fun r6=>
 some (D.st [r2,r4,r6])
theorem Og{lp}(hlp:au lp):ae 80 (m1 (Jn lp)):=bz (fn:=Tryz.f80) (ann:=OM) hlp (by kernel_rfl) (by kernel_rfl) (fun call a0=>by kernel_rfl)
def QJ:Ann:=(.two .leaf (.two .leaf (.two .leaf (.two .leaf (.two (.two .leaf (.two (.loop ⟨[(4,.same (.ptr aD 4100 [])),(6,.same (.ptr aD 16390 [])),(7,.dv (Ty.int .i64))],[(4100,.keep aD 4),(16390,.one aD (.dv aD))],[5]⟩ [(.exit 0,⟨[(4,.same (.ptr aD 4100 [])),(6,.same (.ptr aD 16390 []))],[(4100,.keep aD 4),(16390,.one aD (.dv aD))],[]⟩)] (.two .leaf (.cut [(.normal,⟨[(4,.same (.ptr aD 4100 [])),(6,.same (.ptr aD 16390 []))],[(4100,.keep aD 4),(16390,.one aD (.dv aD))],[5,7]⟩)] [5,7] [4100] (.two (.two .leaf (.two (.reg [] 15) (.reg [] 16))) .leaf) .leaf))) .leaf)) .leaf)))))
noncomputable def H2(lp:Lp)(call:Nat->List D->Option D)(a0:D)(a1:D):Option D:=
(call 140 [a1]).bind fun r1=>
(D.asSl r1).bind fun l2=>
(D.bin .gtr (D.int .i64 (l2.length)) (D.int .i64 32)).bind fun x3=>
(D.truth x3).bind fun b4=>
 if b4 then((call 125 []).bind fun r5=>
 some r5) else((D.truth a0).bind fun b6=>
(if b6 then((D.asSl r1).bind fun l7=>
(D.bin .gtr (D.int .i64 (l7.length)) (D.int .i64 0)).bind fun x8=>
 D.truth x8) else(some false)).bind fun b9=>
(lp (β:=Nat×List D) (fun(v10:List D)=>
(D.asSl r1).bind fun l11=>
(D.bin .lss (gx v10 0) (D.int .i64 (l11.length))).bind fun x12=>
(D.truth x12).bind fun b13=>
 if b13 then(((D.bin .rem (gx v10 0) (D.int .i64 2)).bind fun x14=>
(D.truth (D.bool (D.beq x14 (D.int .i64 0)))).bind fun b15=>
 if b15 then((D.bin .quo (gx v10 0) (D.int .i64 2)).bind fun x16=>
(D.bin .quo (gx v10 0) (D.int .i64 2)).bind fun x17=>
(D.idx x17 16).bind fun i18=>
(D.get (gx v10 1) [2,i18]).bind fun x19=>
(D.asSl r1).bind fun l20=>
(D.idx (gx v10 0) (l20.length)).bind fun i21=>
(l20[i21]?).bind fun x22=>
(D.conv .u32 x22).bind fun x23=>
(D.bin .add x19 x23).bind fun x24=>
(D.idx x16 16).bind fun i25=>
(D.set (gx v10 1) [2,i25] x24).bind fun x26=>
 some (0,[x26])) else((D.bin .quo (gx v10 0) (D.int .i64 2)).bind fun x27=>
(D.bin .quo (gx v10 0) (D.int .i64 2)).bind fun x28=>
(D.idx x28 16).bind fun i29=>
(D.get (gx v10 1) [2,i29]).bind fun x30=>
(D.asSl r1).bind fun l31=>
(D.idx (gx v10 0) (l31.length)).bind fun i32=>
(l31[i32]?).bind fun x33=>
(D.conv .u32 x33).bind fun x34=>
(D.bin .mul x34 (D.int .u32 65536)).bind fun x35=>
(D.bin .add x30 x35).bind fun x36=>
(D.idx x27 16).bind fun i37=>
(D.set (gx v10 1) [2,i37] x36).bind fun x38=>
 some (0,[x38]))).bind fun(r39:Nat×List D)=>
(D.bin .add (gx v10 0) (D.int .i64 1)).bind fun x40=>
 some (Sum.inl [x40,(gx r39.2 0)])) else(some (Sum.inr (0,[(gx v10 1)])))) [(D.int .i64 0),(D.st [(D.bool false),(D.bool b9),(aB aU)])]).bind fun r41=>
 some (gx r41.2 0))
theorem OV{lp}(hlp:au lp):ae 81 (m2 (H2 lp)):=aV (fn:=Tryz.f81) (ann:=QJ) hlp (by kernel_rfl) (by kernel_rfl) (fun call a0 a1=>by kernel_rfl)
def QL:Ann:=(.two .leaf (.two .leaf (.two .leaf (.two (.two .leaf (.two (.loop ⟨[(5,.ow (Ty.int .i64)),(6,.dv (Ty.int .i64)),(7,.dv (Ty.int .i64))],[],[0,1]⟩ [(.exit 0,⟨[(5,.ow (Ty.int .i64))],[],[]⟩)] .leaf) .leaf)) .leaf))))
noncomputable def Ju(lp:Lp)(call:Nat->List D->Option D)(a0:D)(a1:D):Option D:=
(lp (β:=Nat×List D) (fun(v1:List D)=>
(D.asSl a0).bind fun l2=>
(D.asSl a1).bind fun l3=>
(D.max2 (D.int .i64 (l2.length)) (D.int .i64 (l3.length))).bind fun x4=>
(D.bin .add x4 (D.int .i64 1)).bind fun x5=>
(D.bin .lss (gx v1 2) x5).bind fun x6=>
(D.truth x6).bind fun b7=>
 if b7 then((call 141 [a0,(gx v1 2)]).bind fun r8=>
(call 141 [a1,(gx v1 2)]).bind fun r9=>
(D.bin .add r8 r9).bind fun x10=>
(D.bin .add x10 (gx v1 1)).bind fun x11=>
(D.bin .rem x11 (D.int .i64 65536)).bind fun x12=>
 if List.length ((gx v1 0).els)+List.length [x12]<=1073741824 then((D.bin .quo x11 (D.int .i64 65536)).bind fun x13=>
(D.bin .add (gx v1 2) (D.int .i64 1)).bind fun x14=>
 some (Sum.inl [(D.sl (((gx v1 0).els)++[x12])),x13,x14])) else none) else(some (Sum.inr (0,[(D.sl ((gx v1 0).els))])))) [(D.sl []),(D.int .i64 0),(D.int .i64 0)]).bind fun r15=>
(call 140 [(D.sl ((gx r15.2 0).els))]).bind fun r16=>
 some r16
theorem Qc{lp}(hlp:au lp):ae 82 (m2 (Ju lp)):=aV (fn:=Tryz.f82) (ann:=QL) hlp (by kernel_rfl) (by kernel_rfl) (fun call a0 a1=>by kernel_rfl)
noncomputable def IG(lp:Lp)(call:Nat->List D->Option D)(a0:D):Option D:=
(call 76 [a0]).bind fun r1=>
(D.un .not r1).bind fun x2=>
(D.truth x2).bind fun b3=>
(if b3 then(some true) else((call 77 [a0]).bind fun r4=>
(D.asSl r4).bind fun l5=>
 D.truth (D.bool (D.beq (D.int .i64 (l5.length)) (D.int .i64 0))))).bind fun b6=>
(D.truth (D.bool b6)).bind fun b7=>
 if b7 then(some (D.int .i64 0)) else((D.get a0 [1]).bind fun x8=>
(D.truth x8).bind fun b9=>
 if b9 then(some (D.int .i64 (-1))) else(some (D.int .i64 1)))
theorem PZ{lp}(hlp:au lp):ae 83 (m1 (IG lp)):=bz (fn:=Tryz.f83) (ann:=.leaf) hlp (by kernel_rfl) (by kernel_rfl) (fun call a0=>by kernel_rfl)
theorem QW{lp}(hlp:au lp):ae 84 (fT lp 84 Tryz.f84 .leaf):=dn hlp (by kernel_rfl) (by kernel_rfl)
def Rf:Ann:=(.two .leaf (.two .leaf (.two .leaf (.two (.two .leaf (.two (.two (.two (.loop ⟨[(4,.same (.ptr aD 4100 [])),(5,.dv (Ty.int .i64)),(7,.dv (Ty.int .i64))],[(4100,.keep aD 4)],[]⟩ [(.exit 0,⟨[(4,.same (.ptr aD 4100 [])),(5,.dv (Ty.int .i64))],[(4100,.keep aD 4)],[]⟩)] .leaf) .leaf) .leaf) .leaf)) (.two .leaf (.two .leaf (.two .leaf (.two (.two (.loop ⟨[(4,.same (.ptr aD 4100 [])),(10,.dv K5),(11,.dv K5)],[(4100,.keep aD 4)],[]⟩ [(.exit 2,⟨[(4,.same (.ptr aD 4100 [])),(10,.dv K5)],[(4100,.keep aD 4)],[]⟩)] .leaf) .leaf) .leaf))))))))
noncomputable def Ik(lp:Lp)(call:Nat->List D->Option D)(a0:D)(a1:D):Option D:=
(call 124 [a0]).bind fun r1=>
(D.tupAt r1 0).bind fun x2=>
(D.tupAt r1 1).bind fun x3=>
(call 124 [a1]).bind fun r4=>
(D.tupAt r4 0).bind fun x5=>
(D.tupAt r4 1).bind fun x6=>
(D.truth x3).bind fun b7=>
(if b7 then(D.truth x6) else(some false)).bind fun b8=>
(D.truth (D.bool b8)).bind fun b9=>
 if b9 then((lp (β:=Nat×List D) (fun(v10:List D)=>
(D.truth (D.bool (!(D.beq (gx v10 1) (D.int .i64 0))))).bind fun b11=>
 if b11 then((D.bin .rem (gx v10 0) (gx v10 1)).bind fun x12=>
 some (Sum.inl [(gx v10 1),x12])) else(some (Sum.inr (0,[(gx v10 0)])))) [x2,x5]).bind fun r13=>
(call 34 [(gx r13.2 0)]).bind fun r14=>
(call 142 [r14]).bind fun r15=>
 some r15) else((call 76 [a0]).bind fun r16=>
(D.un .not r16).bind fun x17=>
(D.truth x17).bind fun b18=>
(if b18 then(some true) else((call 76 [a1]).bind fun r19=>
(D.un .not r19).bind fun x20=>
 D.truth x20)).bind fun b21=>
(D.truth (D.bool b21)).bind fun b22=>
 if b22 then((call 125 []).bind fun r23=>
 some r23) else((call 77 [a0]).bind fun r24=>
(call 77 [a1]).bind fun r25=>
(lp (β:=Nat×List D) (fun(v26:List D)=>
(D.asSl (gx v26 1)).bind fun l27=>
(D.bin .gtr (D.int .i64 (l27.length)) (D.int .i64 0)).bind fun x28=>
(D.truth x28).bind fun b29=>
 if b29 then((call 143 [(gx v26 0),(gx v26 1)]).bind fun r30=>
(D.tupAt r30 0).bind fun x31=>
(D.tupAt r30 1).bind fun x32=>
 some (Sum.inl [(gx v26 1),x32])) else(some (Sum.inr (0,[(gx v26 0)])))) [r24,r25]).bind fun r33=>
(call 81 [(D.bool false),(gx r33.2 0)]).bind fun r34=>
 some r34))
theorem P7{lp}(hlp:au lp):ae 85 (m2 (Ik lp)):=aV (fn:=Tryz.f85) (ann:=Rf) hlp (by kernel_rfl) (by kernel_rfl) (fun call a0 a1=>by kernel_rfl)
def Ou:Ann:=(.two .leaf (.two .leaf (.two (.reg [] 6) .leaf)))
noncomputable def Jw(lp:Lp)(call:Nat->List D->Option D)(a0:D):Option D:=
(call 76 [a0]).bind fun r1=>
(D.un .not r1).bind fun x2=>
(D.truth x2).bind fun b3=>
 if b3 then((call 125 []).bind fun r4=>
 some r4) else((D.get a0 [1]).bind fun x5=>
(D.un .not x5).bind fun x6=>
(call 77 [a0]).bind fun r7=>
(call 81 [x6,r7]).bind fun r8=>
 some r8)
theorem QQ{lp}(hlp:au lp):ae 86 (m1 (Jw lp)):=bz (fn:=Tryz.f86) (ann:=Ou) hlp (by kernel_rfl) (by kernel_rfl) (fun call a0=>by kernel_rfl)
def Rd:Ann:=(.two .leaf (.two .leaf (.two .leaf (.two .leaf (.two .leaf (.two (.reg [] 9) (.cut [(.normal,⟨[(2,.same (.ptr aD 4098 [])),(3,.same (.ptr aD 4099 [])),(4,.same (.ptr aD 4100 [])),(9,.dv K5)],[(4098,.keep aD 2),(4099,.keep aD 3),(4100,.keep aD 4)],[]⟩)] [] [4098,4099,4100] .leaf .leaf)))))))
noncomputable def Iu(lp:Lp)(call:Nat->List D->Option D)(a0:D)(a1:D):Option D:=
(call 124 [a0]).bind fun r1=>
(D.tupAt r1 0).bind fun x2=>
(D.tupAt r1 1).bind fun x3=>
(call 124 [a1]).bind fun r4=>
(D.tupAt r4 0).bind fun x5=>
(D.tupAt r4 1).bind fun x6=>
(D.truth x3).bind fun b7=>
(if b7 then(D.truth x6) else(some false)).bind fun b8=>
(D.truth (D.bool b8)).bind fun b9=>
(if b9 then(D.truth (D.bool (!(D.beq x5 (D.int .i64 0))))) else(some false)).bind fun b10=>
(D.truth (D.bool b10)).bind fun b11=>
 if b11 then((call 144 [x2,x5]).bind fun r12=>
(call 34 [r12]).bind fun r13=>
 some r13) else((call 76 [a0]).bind fun r14=>
(D.un .not r14).bind fun x15=>
(D.truth x15).bind fun b16=>
(if b16 then(some true) else((call 76 [a1]).bind fun r17=>
(D.un .not r17).bind fun x18=>
 D.truth x18)).bind fun b19=>
(D.truth (D.bool b19)).bind fun b20=>
(if b20 then(some true) else((call 77 [a1]).bind fun r21=>
(D.asSl r21).bind fun l22=>
 D.truth (D.bool (D.beq (D.int .i64 (l22.length)) (D.int .i64 0))))).bind fun b23=>
(D.truth (D.bool b23)).bind fun b24=>
 if b24 then((call 125 []).bind fun r25=>
 some r25) else((call 77 [a0]).bind fun r26=>
(call 77 [a1]).bind fun r27=>
(call 143 [r26,r27]).bind fun r28=>
(D.tupAt r28 0).bind fun x29=>
(D.tupAt r28 1).bind fun x30=>
((D.get a0 [1]).bind fun x31=>
(D.get a1 [1]).bind fun x32=>
(D.truth (D.bool (!(D.beq x31 x32)))).bind fun b33=>
(if b33 then((D.asSl x30).bind fun l34=>
(D.bin .gtr (D.int .i64 (l34.length)) (D.int .i64 0)).bind fun x35=>
 D.truth x35) else(some false)).bind fun b36=>
(D.truth (D.bool b36)).bind fun b37=>
 if b37 then((call 82 [x29,(D.sl [(D.int .i64 1)])]).bind fun r38=>
 some (0,[r38])) else(some (0,[x29]))).bind fun(r39:Nat×List D)=>
(D.get a0 [1]).bind fun x40=>
(D.get a1 [1]).bind fun x41=>
(call 81 [(D.bool (!(D.beq x40 x41))),(gx r39.2 0)]).bind fun r42=>
 some r42))
theorem Pp{lp}(hlp:au lp):ae 87 (m2 (Iu lp)):=aV (fn:=Tryz.f87) (ann:=Rd) hlp (by kernel_rfl) (by kernel_rfl) (fun call a0 a1=>by kernel_rfl)
noncomputable def Jx(lp:Lp)(call:Nat->List D->Option D)(a0:D):Option D:=
(D.get a0 [0]).bind fun x1=>
(call 76 [x1]).bind fun r2=>
(D.un .not r2).bind fun x3=>
(D.truth x3).bind fun b4=>
(if b4 then(some true) else((D.get a0 [1]).bind fun x5=>
(call 76 [x5]).bind fun r6=>
(D.un .not r6).bind fun x7=>
 D.truth x7)).bind fun b8=>
(D.truth (D.bool b8)).bind fun b9=>
 if b9 then(some (D.bool false)) else((D.get a0 [1]).bind fun x10=>
(call 83 [x10]).bind fun r11=>
(D.bin .gtr r11 (D.int .i64 0)).bind fun x12=>
(D.truth x12).bind fun b13=>
(if b13 then((D.get a0 [0]).bind fun x14=>
(D.get a0 [1]).bind fun x15=>
(call 85 [x14,x15]).bind fun r16=>
(call 133 []).bind fun r17=>
 D.truth (D.bool (D.beq r16 r17))) else(some false)).bind fun b18=>
 some (D.bool b18))
theorem OX{lp}(hlp:au lp):ae 88 (m1 (Jx lp)):=bz (fn:=Tryz.f88) (ann:=.leaf) hlp (by kernel_rfl) (by kernel_rfl) (fun call a0=>by kernel_rfl)
end Go.Proofs.YtjjjkojfijpeeaaGreat.Sy
end
section
set_option maxRecDepth 20000
set_option maxHeartbeats 0
set_option linter.unusedVariables false
namespace Go.Proofs.YtjjjkojfijpeeaaGreat.Sy
open Go Go.Proofs
def Pa:Ann:=(.two .leaf (.two .leaf (.two .leaf (.two .leaf (.two .leaf (.two (.reg [] 11) .leaf))))))
noncomputable def H4(lp:Lp)(call:Nat->List D->Option D)(a0:D)(a1:D):Option D:=
(call 124 [a0]).bind fun r1=>
(D.tupAt r1 0).bind fun x2=>
(D.tupAt r1 1).bind fun x3=>
(call 124 [a1]).bind fun r4=>
(D.tupAt r4 0).bind fun x5=>
(D.tupAt r4 1).bind fun x6=>
(D.truth x3).bind fun b7=>
(if b7 then(D.truth x6) else(some false)).bind fun b8=>
(D.truth (D.bool b8)).bind fun b9=>
(if b9 then((call 145 [x2]).bind fun r10=>
 D.truth r10) else(some false)).bind fun b11=>
(D.truth (D.bool b11)).bind fun b12=>
(if b12 then((call 145 [x5]).bind fun r13=>
 D.truth r13) else(some false)).bind fun b14=>
(D.truth (D.bool b14)).bind fun b15=>
 if b15 then((D.bin .mul x2 x5).bind fun x16=>
(call 34 [x16]).bind fun r17=>
 some r17) else((call 76 [a0]).bind fun r18=>
(D.un .not r18).bind fun x19=>
(D.truth x19).bind fun b20=>
(if b20 then(some true) else((call 76 [a1]).bind fun r21=>
(D.un .not r21).bind fun x22=>
 D.truth x22)).bind fun b23=>
(D.truth (D.bool b23)).bind fun b24=>
 if b24 then((call 125 []).bind fun r25=>
 some r25) else((D.get a0 [1]).bind fun x26=>
(D.get a1 [1]).bind fun x27=>
(call 77 [a0]).bind fun r28=>
(call 77 [a1]).bind fun r29=>
(call 146 [r28,r29]).bind fun r30=>
(call 81 [(D.bool (!(D.beq x26 x27))),r30]).bind fun r31=>
 some r31))
theorem Po{lp}(hlp:au lp):ae 89 (m2 (H4 lp)):=aV (fn:=Tryz.f89) (ann:=Pa) hlp (by kernel_rfl) (by kernel_rfl) (fun call a0 a1=>by kernel_rfl)
def Ny:Ann:=(.two .leaf (.two (.reg [] 7) .leaf))
theorem PN{lp}(hlp:au lp):ae 90 (fT lp 90 Tryz.f90 Ny):=dn hlp (by kernel_rfl) (by kernel_rfl)
def Qy:Ann:=(.two .leaf (.two (.reg [] 5) .leaf))
noncomputable def II(lp:Lp)(call:Nat->List D->Option D)(a0:D)(a1:D):Option D:=
(call 148 [a0]).bind fun r1=>
(call 148 [a1]).bind fun r2=>
(call 147 [r1,r2]).bind fun r3=>
 some r3
theorem QB{lp}(hlp:au lp):ae 91 (m2 (II lp)):=aV (fn:=Tryz.f91) (ann:=Qy) hlp (by kernel_rfl) (by kernel_rfl) (fun call a0 a1=>by kernel_rfl)
def Q5:Ann:=(.two .leaf (.two (.reg [] 17) .leaf))
noncomputable def Nw(lp:Lp)(call:Nat->List D->Option D)(a0:D)(a1:D):Option D:=
(D.get a0 [0]).bind fun x1=>
(D.get a1 [0]).bind fun x2=>
(call 53 [x1,x2]).bind fun r3=>
(D.get a0 [1]).bind fun x4=>
(D.get a1 [1]).bind fun x5=>
(call 53 [x4,x5]).bind fun r6=>
(D.get a0 [2]).bind fun x7=>
(D.get a1 [2]).bind fun x8=>
(call 53 [x7,x8]).bind fun r9=>
(call 52 [(D.sl [r3,r6,r9])]).bind fun r10=>
 some r10
theorem Qa{lp}(hlp:au lp):ae 94 (m2 (Nw lp)):=aV (fn:=Tryz.f94) (ann:=Q5) hlp (by kernel_rfl) (by kernel_rfl) (fun call a0 a1=>by kernel_rfl)
def Ox:Ann:=(.two .leaf (.two (.reg [] 8) (.cut [(.normal,⟨[(3,.same (.ptr K1 4099 [])),(6,.same (.ptr dt 4102 [])),(7,.same (.ptr K1 8199 []))],[(4099,.keep K1 3),(4102,.keep dt 6),(8199,.one K1 (.dv K1))],[]⟩)] [] [4099,4102] (.two (.reg [] 8) (.two .leaf (.two (.reg [] 13) .leaf))) (.two (.reg [] 5) .leaf))))
noncomputable def Jf(lp:Lp)(call:Nat->List D->Option D)(a0:D)(a1:D)(a2:D):Option D:=
(call 103 [a1,a0]).bind fun r1=>
(call 103 [a2,a0]).bind fun r2=>
(call 117 [r1,r2]).bind fun r3=>
((D.get r3 [0]).bind fun x4=>
(D.get r3 [1]).bind fun x5=>
(call 152 [x4,x5]).bind fun r6=>
(D.get r3 [2]).bind fun x7=>
(call 152 [r6,x7]).bind fun r8=>
(D.bin .gtr r8 (D.int .i64 1)).bind fun x9=>
(D.truth x9).bind fun b10=>
 if b10 then((D.get r3 [0]).bind fun x11=>
(D.bin .quo x11 r8).bind fun x12=>
(D.get r3 [1]).bind fun x13=>
(D.bin .quo x13 r8).bind fun x14=>
(D.get r3 [2]).bind fun x15=>
(D.bin .quo x15 r8).bind fun x16=>
 some (0,[(D.st [x12,x14,x16])])) else(some (0,[r3]))).bind fun(r17:Nat×List D)=>
(call 101 [(gx r17.2 0),a0]).bind fun r18=>
 some (D.st [(gx r17.2 0),r18])
theorem Qm{lp}(hlp:au lp):ae 96 (m3 (Jf lp)):=tI (fn:=Tryz.f96) (ann:=Ox) hlp (by kernel_rfl) (by kernel_rfl) (fun call a0 a1 a2=>by kernel_rfl)
noncomputable def IH(lp:Lp)(call:Nat->List D->Option D)(a0:D):Option D:=
(D.get a0 [0]).bind fun x1=>
(D.un .neg x1).bind fun x2=>
(D.get a0 [1]).bind fun x3=>
(D.un .neg x3).bind fun x4=>
(D.get a0 [2]).bind fun x5=>
(D.un .neg x5).bind fun x6=>
 some (D.st [x2,x4,x6])
theorem RB{lp}(hlp:au lp):ae 97 (m1 (IH lp)):=bz (fn:=Tryz.f97) (ann:=.leaf) hlp (by kernel_rfl) (by kernel_rfl) (fun call a0=>by kernel_rfl)
def Pf:Ann:=(.two .leaf (.two .leaf (.two (.two .leaf (.two (.loop ⟨[(3,.same (.ptr dt 4099 [])),(5,.dv Ty.bool),(11,.dv (Ty.int .i64))],[(4099,.keep dt 3)],[9,10]⟩ [(.ret,⟨[(4,.dv Ty.bool)],[],[]⟩),(.exit 0,⟨[(5,.dv Ty.bool)],[],[]⟩)] .leaf) .leaf)) .leaf)))
noncomputable def IZ(lp:Lp)(call:Nat->List D->Option D)(a0:D)(a1:D):Option D:=
(D.asSl a0).bind fun l1=>
(lp (β:=Nat×List D) (fun(v2:List D)=>
(D.bin .lss (gx v2 1) (D.int .i64 (l1.length))).bind fun x3=>
(D.truth x3).bind fun b4=>
 if b4 then((D.asSl a0).bind fun l5=>
(D.idx (gx v2 1) (l5.length)).bind fun i6=>
(l5[i6]?).bind fun x7=>
(D.get a1 [0]).bind fun x8=>
(call 101 [x8,x7]).bind fun r9=>
(D.get a1 [1]).bind fun x10=>
(D.bin .gtr r9 x10).bind fun x11=>
(D.truth x11).bind fun b12=>
 if b12 then(some (Sum.inr (0,[(D.bool false)]))) else((D.truth (gx v2 0)).bind fun b13=>
(if b13 then((D.get a1 [1]).bind fun x14=>
 D.truth (D.bool (D.beq r9 x14))) else(some false)).bind fun b15=>
(D.bin .add (gx v2 1) (D.int .i64 1)).bind fun x16=>
 some (Sum.inl [(D.bool b15),x16]))) else(some (Sum.inr (1,[(gx v2 0)])))) [(D.bool true),(D.int .i64 0)]).bind fun r17=>
 if r17.1=0 then(some (gx r17.2 0)) else((D.un .not (gx r17.2 0)).bind fun x18=>
 some x18)
theorem Rs{lp}(hlp:au lp):ae 98 (m2 (IZ lp)):=aV (fn:=Tryz.f98) (ann:=Pf) hlp (by kernel_rfl) (by kernel_rfl) (fun call a0 a1=>by kernel_rfl)
def MB:Ann:=(.two .leaf (.two (.reg [] 23) .leaf))
noncomputable def Dx(lp:Lp)(call:Nat->List D->Option D)(a0:D)(a1:D):Option D:=
(D.get a0 [0,0]).bind fun x1=>
(D.get a1 [0,0]).bind fun x2=>
(call 53 [x1,x2]).bind fun r3=>
(D.get a0 [0,1]).bind fun x4=>
(D.get a1 [0,1]).bind fun x5=>
(call 53 [x4,x5]).bind fun r6=>
(D.get a0 [0,2]).bind fun x7=>
(D.get a1 [0,2]).bind fun x8=>
(call 53 [x7,x8]).bind fun r9=>
(call 52 [(D.sl [r3,r6,r9])]).bind fun r10=>
 some r10
theorem Kj{lp}(hlp:au lp):ae 100 (m2 (Dx lp)):=aV (fn:=Tryz.f100) (ann:=MB) hlp (by kernel_rfl) (by kernel_rfl) (fun call a0 a1=>by kernel_rfl)
noncomputable def BZ(lp:Lp)(call:Nat->List D->Option D)(a0:D)(a1:D):Option D:=
(D.get a0 [0]).bind fun x1=>
(D.get a1 [0]).bind fun x2=>
(D.bin .mul x1 x2).bind fun x3=>
(D.get a0 [1]).bind fun x4=>
(D.get a1 [1]).bind fun x5=>
(D.bin .mul x4 x5).bind fun x6=>
(D.bin .add x3 x6).bind fun x7=>
(D.get a0 [2]).bind fun x8=>
(D.get a1 [2]).bind fun x9=>
(D.bin .mul x8 x9).bind fun x10=>
(D.bin .add x7 x10).bind fun x11=>
 some x11
theorem KZ{lp}(hlp:au lp):ae 101 (m2 (BZ lp)):=aV (fn:=Tryz.f101) (ann:=.leaf) hlp (by kernel_rfl) (by kernel_rfl) (fun call a0 a1=>by kernel_rfl)
def Ms:Ann:=(.two .leaf (.two (.reg [] 4) .leaf))
noncomputable def Fz(lp:Lp)(call:Nat->List D->Option D)(a0:D)(a1:D):Option D:=
(call 97 [a1]).bind fun r1=>
(call 154 [a0,r1]).bind fun r2=>
 some r2
theorem Nm{lp}(hlp:au lp):ae 103 (m2 (Fz lp)):=aV (fn:=Tryz.f103) (ann:=Ms) hlp (by kernel_rfl) (by kernel_rfl) (fun call a0 a1=>by kernel_rfl)
def M6:Ann:=(.two .leaf (.two .leaf (.two (.two .leaf (.two (.loop ⟨[(7,.same (.ptr K1 8199 [])),(14,.dv (Ty.int .i64))],[(8199,.keep K1 7)],[13]⟩ [(.ret,⟨[(6,.dv (Ty.int .i64))],[],[]⟩),(.exit 0,⟨[],[],[]⟩)] .leaf) .leaf)) .leaf)))
noncomputable def DK(lp:Lp)(call:Nat->List D->Option D)(a0:D)(a1:D)(a2:D):Option D:=
(call 117 [a1,a2]).bind fun r1=>
(lp (β:=Nat×List D) (fun(v2:List D)=>
(D.bin .lss (gx v2 0) (D.int .i64 3)).bind fun x3=>
(D.truth x3).bind fun b4=>
 if b4 then((D.idx (gx v2 0) 3).bind fun i5=>
(D.fld a0 i5).bind fun x6=>
(D.truth (D.bool (!(D.beq x6 (D.int .i64 0))))).bind fun b7=>
 if b7 then((D.idx (gx v2 0) 3).bind fun i8=>
(D.get r1 [i8]).bind fun x9=>
(call 53 [x9,(D.int .i64 0)]).bind fun r10=>
(call 53 [x6,(D.int .i64 0)]).bind fun r11=>
(D.bin .mul r10 r11).bind fun x12=>
 some (Sum.inr (0,[x12]))) else((D.bin .add (gx v2 0) (D.int .i64 1)).bind fun x13=>
 some (Sum.inl [x13]))) else(some (Sum.inr (1,[])))) [(D.int .i64 0)]).bind fun r14=>
 if r14.1=0 then(some (gx r14.2 0)) else(some (D.int .i64 0))
theorem KU{lp}(hlp:au lp):ae 104 (m3 (DK lp)):=tI (fn:=Tryz.f104) (ann:=M6) hlp (by kernel_rfl) (by kernel_rfl) (fun call a0 a1 a2=>by kernel_rfl)
noncomputable def DM(lp:Lp)(call:Nat->List D->Option D)(a0:D)(a1:D):Option D:=
(D.get a0 [0]).bind fun x1=>
(D.get a1 [0]).bind fun x2=>
(D.truth (D.bool (!(D.beq x1 x2)))).bind fun b3=>
 if b3 then((D.get a0 [0]).bind fun x4=>
(D.get a1 [0]).bind fun x5=>
(D.bin .lss x4 x5).bind fun x6=>
 some x6) else((D.get a0 [1]).bind fun x7=>
(D.get a1 [1]).bind fun x8=>
(D.truth (D.bool (!(D.beq x7 x8)))).bind fun b9=>
 if b9 then((D.get a0 [1]).bind fun x10=>
(D.get a1 [1]).bind fun x11=>
(D.bin .lss x10 x11).bind fun x12=>
 some x12) else((D.get a0 [2]).bind fun x13=>
(D.get a1 [2]).bind fun x14=>
(D.bin .lss x13 x14).bind fun x15=>
 some x15))
theorem KR{lp}(hlp:au lp):ae 105 (m2 (DM lp)):=aV (fn:=Tryz.f105) (ann:=.leaf) hlp (by kernel_rfl) (by kernel_rfl) (fun call a0 a1=>by kernel_rfl)
def JD:Ann:=(.two .leaf (.two (.reg [] 8) .leaf))
noncomputable def D2(lp:Lp)(call:Nat->List D->Option D)(a0:D)(a1:D)(a2:D):Option D:=
(call 112 [a1,a0]).bind fun r1=>
(call 112 [a2,a0]).bind fun r2=>
(call 123 [r1,r2]).bind fun r3=>
(call 80 [r3]).bind fun r4=>
(call 155 [r4]).bind fun r5=>
(D.get r5 [0]).bind fun x6=>
 some x6
theorem Mb{lp}(hlp:au lp):ae 106 (m3 (D2 lp)):=tI (fn:=Tryz.f106) (ann:=JD) hlp (by kernel_rfl) (by kernel_rfl) (fun call a0 a1 a2=>by kernel_rfl)
noncomputable def DG(lp:Lp)(call:Nat->List D->Option D)(a0:D)(a1:D):Option D:=
(D.get a0 [0]).bind fun x1=>
(D.get a1 [0]).bind fun x2=>
(D.bin .mul x1 x2).bind fun x3=>
(D.get a0 [1]).bind fun x4=>
(D.get a1 [1]).bind fun x5=>
(D.bin .mul x4 x5).bind fun x6=>
(D.bin .add x3 x6).bind fun x7=>
(D.get a0 [2]).bind fun x8=>
(D.get a1 [2]).bind fun x9=>
(D.bin .mul x8 x9).bind fun x10=>
(D.bin .add x7 x10).bind fun x11=>
 some x11
theorem LZ{lp}(hlp:au lp):ae 107 (m2 (DG lp)):=aV (fn:=Tryz.f107) (ann:=.leaf) hlp (by kernel_rfl) (by kernel_rfl) (fun call a0 a1=>by kernel_rfl)
def KG:Ann:=(.two .leaf (.two (.two .leaf (.two (.loop ⟨[(3,.same (.ptr K1 4099 [])),(5,.dv (Ty.int .i64))],[(4099,.keep K1 3)],[0]⟩ [(.ret,⟨[(4,.dv Ty.bool)],[],[]⟩),(.exit 0,⟨[],[],[]⟩)] (.two .leaf (.two (.two (.two (.reg [] 6) .leaf) .leaf) .leaf))) .leaf)) .leaf))
noncomputable def EK(lp:Lp)(call:Nat->List D->Option D)(a0:D)(a1:D):Option D:=
(lp (β:=Nat×List D) (fun(v1:List D)=>
(D.asSl a0).bind fun l2=>
(D.bin .lss (gx v1 0) (D.int .i64 (l2.length))).bind fun x3=>
(D.truth x3).bind fun b4=>
 if b4 then((D.asSl a0).bind fun l5=>
(D.idx (gx v1 0) (l5.length)).bind fun i6=>
(l5[i6]?).bind fun x7=>
(D.fld x7 0).bind fun x8=>
(D.truth (D.bool (D.beq x8 a1))).bind fun b9=>
 if b9 then(some (Sum.inr (0,[(D.bool true)]))) else((D.bin .add (gx v1 0) (D.int .i64 1)).bind fun x10=>
 some (Sum.inl [x10]))) else(some (Sum.inr (1,[])))) [(D.int .i64 0)]).bind fun r11=>
 if r11.1=0 then(some (gx r11.2 0)) else(some (D.bool false))
theorem Mh{lp}(hlp:au lp):ae 108 (m2 (EK lp)):=aV (fn:=Tryz.f108) (ann:=KG) hlp (by kernel_rfl) (by kernel_rfl) (fun call a0 a1=>by kernel_rfl)
def Ki:Ann:=(.two .leaf (.two .leaf (.two (.two .leaf (.two (.loop ⟨[(4,.same (.ptr K1 4100 [])),(7,.dv Ty.bool),(8,.dv (Ty.int .i64))],[(4100,.keep K1 4)],[0,2]⟩ [(.ret,⟨[(6,.dv Ty.bool)],[],[]⟩),(.exit 0,⟨[(7,.dv Ty.bool)],[],[]⟩)] (.two .leaf (.two (.two (.two (.reg [] 6) .leaf) .leaf) .leaf))) .leaf)) .leaf)))
noncomputable def EH(lp:Lp)(call:Nat->List D->Option D)(a0:D)(a1:D)(a2:D):Option D:=
(lp (β:=Nat×List D) (fun(v1:List D)=>
(D.asSl a0).bind fun l2=>
(D.bin .lss (gx v1 1) (D.int .i64 (l2.length))).bind fun x3=>
(D.truth x3).bind fun b4=>
 if b4 then((D.asSl a0).bind fun l5=>
(D.idx (gx v1 1) (l5.length)).bind fun i6=>
(l5[i6]?).bind fun x7=>
(call 107 [a1,x7]).bind fun r8=>
(D.bin .gtr r8 a2).bind fun x9=>
(D.truth x9).bind fun b10=>
 if b10 then(some (Sum.inr (0,[(D.bool false)]))) else((D.truth (gx v1 0)).bind fun b11=>
(if b11 then(some true) else((D.bin .lss r8 a2).bind fun x12=>
 D.truth x12)).bind fun b13=>
(D.bin .add (gx v1 1) (D.int .i64 1)).bind fun x14=>
 some (Sum.inl [(D.bool b13),x14]))) else(some (Sum.inr (1,[(gx v1 0)])))) [(D.bool false),(D.int .i64 0)]).bind fun r15=>
 if r15.1=0 then(some (gx r15.2 0)) else(some (gx r15.2 0))
theorem M3{lp}(hlp:au lp):ae 109 (m3 (EH lp)):=tI (fn:=Tryz.f109) (ann:=Ki) hlp (by kernel_rfl) (by kernel_rfl) (fun call a0 a1 a2=>by kernel_rfl)
def MO:Ann:=(.two .leaf (.two .leaf (.two .leaf (.two (.two .leaf (.two (.loop ⟨[(3,.same (.ptr K6 4099 [])),(5,.ow K6),(6,.dv Ty.bool),(7,.dv (Ty.int .i64))],[(4099,.keep K6 3)],[0]⟩ [(.exit 0,⟨[(3,.same (.ptr K6 4099 [])),(5,.ow K6),(6,.dv Ty.bool)],[(4099,.keep K6 3)],[]⟩)] (.two .leaf (.two (.two (.two (.reg [] 8) (.cut [(.normal,⟨[(3,.same (.ptr K6 4099 [])),(5,.ow K6),(6,.dv Ty.bool)],[(4099,.keep K6 3)],[0,7]⟩)] [0,7] [4099] .leaf .leaf)) .leaf) .leaf))) .leaf)) (.cut [(.normal,⟨[(5,.ow K6)],[],[]⟩)] [] [] .leaf .leaf)))))
noncomputable def FK(lp:Lp)(call:Nat->List D->Option D)(a0:D)(a1:D):Option D:=
(lp (β:=Nat×List D) (fun(v1:List D)=>
(D.asSl a0).bind fun l2=>
(D.bin .lss (gx v1 2) (D.int .i64 (l2.length))).bind fun x3=>
(D.truth x3).bind fun b4=>
 if b4 then((D.get a1 [0]).bind fun x5=>
(D.asSl a0).bind fun l6=>
(D.idx (gx v1 2) (l6.length)).bind fun i7=>
(l6[i7]?).bind fun x8=>
(D.fld x8 0).bind fun x9=>
(call 105 [x5,x9]).bind fun r10=>
((D.un .not (gx v1 1)).bind fun x11=>
(D.truth x11).bind fun b12=>
(if b12 then(D.truth r10) else(some false)).bind fun b13=>
(D.truth (D.bool b13)).bind fun b14=>
 if b14 then(if List.length ((gx v1 0).els)+List.length [a1]<=1073741824 then(some (0,[(D.sl (((gx v1 0).els)++[a1])),(D.bool true)])) else none) else(some (0,[(D.sl ((gx v1 0).els)),(gx v1 1)]))).bind fun(r15:Nat×List D)=>
(D.asSl a0).bind fun l16=>
(D.idx (gx v1 2) (l16.length)).bind fun i17=>
(l16[i17]?).bind fun x18=>
 if List.length ((gx r15.2 0).els)+List.length [x18]<=1073741824 then((D.bin .add (gx v1 2) (D.int .i64 1)).bind fun x19=>
 some (Sum.inl [(D.sl (((gx r15.2 0).els)++[x18])),(gx r15.2 1),x19])) else none) else(some (Sum.inr (0,[(D.sl ((gx v1 0).els)),(gx v1 1)])))) [(D.sl []),(D.bool false),(D.int .i64 0)]).bind fun r20=>
((D.un .not (gx r20.2 1)).bind fun x21=>
(D.truth x21).bind fun b22=>
 if b22 then(if List.length ((gx r20.2 0).els)+List.length [a1]<=1073741824 then(some (0,[(D.sl (((gx r20.2 0).els)++[a1]))])) else none) else(some (0,[(D.sl ((gx r20.2 0).els))]))).bind fun(r23:Nat×List D)=>
 some (D.sl ((gx r23.2 0).els))
theorem Kf{lp}(hlp:au lp):ae 110 (m2 (FK lp)):=aV (fn:=Tryz.f110) (ann:=MO) hlp (by kernel_rfl) (by kernel_rfl) (fun call a0 a1=>by kernel_rfl)
def Le:Ann:=(.two .leaf (.two .leaf (.two .leaf (.two (.two .leaf (.two (.loop ⟨[(4,.same (.ptr K1 4100 [])),(7,.ow (Ty.int .i64)),(8,.dv (Ty.int .i64)),(9,.dv (Ty.int .i64))],[(4100,.keep K1 4)],[0,2]⟩ [(.exit 0,⟨[(4,.same (.ptr K1 4100 [])),(7,.ow (Ty.int .i64)),(8,.dv (Ty.int .i64))],[(4100,.keep K1 4)],[0,2]⟩)] (.two .leaf (.cut [(.normal,⟨[(4,.same (.ptr K1 4100 [])),(7,.ow (Ty.int .i64)),(8,.dv (Ty.int .i64))],[(4100,.keep K1 4)],[0,2,9]⟩)] [0,2,9] [4100] (.two (.two (.reg [] 7) .leaf) .leaf) .leaf))) .leaf)) (.two .leaf (.two (.two (.loop ⟨[(4,.same (.ptr K1 4100 [])),(7,.ow (Ty.int .i64)),(8,.dv (Ty.int .i64))],[(4100,.keep K1 4)],[0,2,10]⟩ [(.exit 2,⟨[(7,.ow (Ty.int .i64))],[],[]⟩)] (.two .leaf (.two (.two .leaf (.two .leaf (.two (.two .leaf (.two (.loop ⟨[(4,.same (.ptr K1 4100 [])),(7,.ow (Ty.int .i64)),(11,.dv (Ty.int .i64)),(12,.dv (Ty.int .i64))],[(4100,.keep K1 4)],[0,2,8,10]⟩ [(.exit 4,⟨[(4,.same (.ptr K1 4100 [])),(7,.ow (Ty.int .i64)),(11,.dv (Ty.int .i64))],[(4100,.keep K1 4)],[0,2,10]⟩)] (.two .leaf (.cut [(.normal,⟨[(4,.same (.ptr K1 4100 [])),(7,.ow (Ty.int .i64)),(11,.dv (Ty.int .i64))],[(4100,.keep K1 4)],[0,2,8,10,12]⟩)] [0,2,8,10,12] [4100] (.two (.two .leaf (.two (.two (.reg [] 12) .leaf) .leaf)) .leaf) .leaf))) .leaf)) .leaf))) .leaf))) .leaf) .leaf))))))
noncomputable def D3(lp:Lp)(call:Nat->List D->Option D)(a0:D)(a1:D)(a2:D):Option D:=
(lp (β:=Nat×List D) (fun(v1:List D)=>
(D.asSl a0).bind fun l2=>
(D.bin .lss (gx v1 2) (D.int .i64 (l2.length))).bind fun x3=>
(D.truth x3).bind fun b4=>
(if b4 then((D.bin .lss (gx v1 1) (D.int .i64 0)).bind fun x5=>
 D.truth x5) else(some false)).bind fun b6=>
(D.truth (D.bool b6)).bind fun b7=>
 if b7 then(((D.asSl a0).bind fun l8=>
(D.idx (gx v1 2) (l8.length)).bind fun i9=>
(l8[i9]?).bind fun x10=>
(call 107 [a1,x10]).bind fun r11=>
(D.truth (D.bool (D.beq r11 a2))).bind fun b12=>
 if b12 then(some (0,[(D.sl ((gx v1 0).els)),(gx v1 2)])) else(some (0,[(D.sl ((gx v1 0).els)),(gx v1 1)]))).bind fun(r13:Nat×List D)=>
(D.bin .add (gx v1 2) (D.int .i64 1)).bind fun x14=>
 some (Sum.inl [(D.sl ((gx r13.2 0).els)),(gx r13.2 1),x14])) else(some (Sum.inr (0,[(D.sl ((gx v1 0).els)),(gx v1 1)])))) [(D.sl []),(D.int .i64 (-1)),(D.int .i64 0)]).bind fun r15=>
(lp (β:=Nat×List D) (fun(v16:List D)=>
(D.asSl a0).bind fun l17=>
(D.bin .leq (D.int .i64 (List.length ((gx v16 0).els))) (D.int .i64 (l17.length))).bind fun x18=>
(D.truth x18).bind fun b19=>
 if b19 then(if List.length ((gx v16 0).els)+List.length [(gx v16 1)]<=1073741824 then((lp (β:=Nat×List D) (fun(v20:List D)=>
(D.asSl a0).bind fun l21=>
(D.bin .lss (gx v20 2) (D.int .i64 (l21.length))).bind fun x22=>
(D.truth x22).bind fun b23=>
(if b23 then((D.bin .lss (gx v20 1) (D.int .i64 0)).bind fun x24=>
 D.truth x24) else(some false)).bind fun b25=>
(D.truth (D.bool b25)).bind fun b26=>
 if b26 then(((D.truth (D.bool (!(D.beq (gx v20 2) (gx v16 1))))).bind fun b27=>
(if b27 then((D.asSl a0).bind fun l28=>
(D.idx (gx v20 2) (l28.length)).bind fun i29=>
(l28[i29]?).bind fun x30=>
(call 107 [a1,x30]).bind fun r31=>
 D.truth (D.bool (D.beq r31 a2))) else(some false)).bind fun b32=>
(D.truth (D.bool b32)).bind fun b33=>
 if b33 then((D.asSl a0).bind fun l34=>
(D.idx (gx v16 1) (l34.length)).bind fun i35=>
(l34[i35]?).bind fun x36=>
(D.asSl a0).bind fun l37=>
(D.idx (gx v20 2) (l37.length)).bind fun i38=>
(l37[i38]?).bind fun x39=>
(call 156 [a0,a1,a2,x36,x39]).bind fun r40=>
(D.truth r40).bind fun b41=>
 if b41 then(some (0,[(D.sl ((gx v20 0).els)),(gx v20 2)])) else(some (0,[(D.sl ((gx v20 0).els)),(gx v20 1)]))) else(some (0,[(D.sl ((gx v20 0).els)),(gx v20 1)]))).bind fun(r42:Nat×List D)=>
(D.bin .add (gx v20 2) (D.int .i64 1)).bind fun x43=>
 some (Sum.inl [(D.sl ((gx r42.2 0).els)),(gx r42.2 1),x43])) else(some (Sum.inr (0,[(D.sl ((gx v20 0).els)),(gx v20 1)])))) [(D.sl (((gx v16 0).els)++[(gx v16 1)])),(D.int .i64 (-1)),(D.int .i64 0)]).bind fun r44=>
(D.truth (D.bool (D.beq (gx r44.2 1) (gx r15.2 1)))).bind fun b45=>
(if b45 then(some true) else((D.bin .lss (gx r44.2 1) (D.int .i64 0)).bind fun x46=>
 D.truth x46)).bind fun b47=>
(D.truth (D.bool b47)).bind fun b48=>
 if b48 then(some (Sum.inr (0,[(D.sl ((gx r44.2 0).els))]))) else(some (Sum.inl [(D.sl ((gx r44.2 0).els)),(gx r44.2 1)]))) else none) else(some (Sum.inr (0,[(D.sl ((gx v16 0).els))])))) [(D.sl ((gx r15.2 0).els)),(gx r15.2 1)]).bind fun r49=>
 some (D.sl ((gx r49.2 0).els))
theorem J4{lp}(hlp:au lp):ae 111 (m3 (D3 lp)):=tI (fn:=Tryz.f111) (ann:=Le) hlp (by kernel_rfl) (by kernel_rfl) (fun call a0 a1 a2=>by kernel_rfl)
noncomputable def DX(lp:Lp)(call:Nat->List D->Option D)(a0:D)(a1:D):Option D:=
(D.get a0 [0]).bind fun x1=>
(D.get a1 [0]).bind fun x2=>
(D.bin .sub x1 x2).bind fun x3=>
(D.get a0 [1]).bind fun x4=>
(D.get a1 [1]).bind fun x5=>
(D.bin .sub x4 x5).bind fun x6=>
(D.get a0 [2]).bind fun x7=>
(D.get a1 [2]).bind fun x8=>
(D.bin .sub x7 x8).bind fun x9=>
 some (D.st [x3,x6,x9])
theorem J0{lp}(hlp:au lp):ae 112 (m2 (DX lp)):=aV (fn:=Tryz.f112) (ann:=.leaf) hlp (by kernel_rfl) (by kernel_rfl) (fun call a0 a1=>by kernel_rfl)
noncomputable def D8(lp:Lp)(call:Nat->List D->Option D)(a0:D):Option D:=
 some (D.bool (!(D.beq a0 a0)))
theorem Mk{lp}(hlp:au lp):ae 115 (m1 (D8 lp)):=bz (fn:=Tryz.f115) (ann:=.leaf) hlp (by kernel_rfl) (by kernel_rfl) (fun call a0=>by kernel_rfl)
def MG:Ann:=(.two .leaf (.two (.reg [] 8) .leaf))
noncomputable def Fn(lp:Lp)(call:Nat->List D->Option D)(a0:D)(a1:D):Option D:=
(D.truth a0).bind fun b1=>
(if b1 then(D.truth (D.bool (!(D.beq a1 (D.st (D.putParts (List.replicate 16 (D.int .u32 0)) [])))))) else(some false)).bind fun b2=>
 some (D.st [(D.bool false),(D.bool b2),a1])
theorem Nh{lp}(hlp:au lp):ae 116 (m2 (Fn lp)):=aV (fn:=Tryz.f116) (ann:=MG) hlp (by kernel_rfl) (by kernel_rfl) (fun call a0 a1=>by kernel_rfl)
noncomputable def DC(lp:Lp)(call:Nat->List D->Option D)(a0:D)(a1:D):Option D:=
(D.get a0 [1]).bind fun x1=>
(D.get a1 [2]).bind fun x2=>
(D.bin .mul x1 x2).bind fun x3=>
(D.get a0 [2]).bind fun x4=>
(D.get a1 [1]).bind fun x5=>
(D.bin .mul x4 x5).bind fun x6=>
(D.bin .sub x3 x6).bind fun x7=>
(D.get a0 [2]).bind fun x8=>
(D.get a1 [0]).bind fun x9=>
(D.bin .mul x8 x9).bind fun x10=>
(D.get a0 [0]).bind fun x11=>
(D.get a1 [2]).bind fun x12=>
(D.bin .mul x11 x12).bind fun x13=>
(D.bin .sub x10 x13).bind fun x14=>
(D.get a0 [0]).bind fun x15=>
(D.get a1 [1]).bind fun x16=>
(D.bin .mul x15 x16).bind fun x17=>
(D.get a0 [1]).bind fun x18=>
(D.get a1 [0]).bind fun x19=>
(D.bin .mul x18 x19).bind fun x20=>
(D.bin .sub x17 x20).bind fun x21=>
 some (D.st [x7,x14,x21])
theorem JE{lp}(hlp:au lp):ae 117 (m2 (DC lp)):=aV (fn:=Tryz.f117) (ann:=.leaf) hlp (by kernel_rfl) (by kernel_rfl) (fun call a0 a1=>by kernel_rfl)
def L7:Ann:=(.two .leaf (.two (.two .leaf (.two (.loop ⟨[(7,.dv (Ty.int .i64))],[],[5,6]⟩ [(.ret,⟨[(2,.dv Ty.bool)],[],[]⟩),(.exit 0,⟨[],[],[]⟩)] .leaf) .leaf)) .leaf))
noncomputable def ET(lp:Lp)(call:Nat->List D->Option D)(a0:D):Option D:=
(D.asSl a0).bind fun l1=>
(lp (β:=Nat×List D) (fun(v2:List D)=>
(D.bin .lss (gx v2 0) (D.int .i64 (l1.length))).bind fun x3=>
(D.truth x3).bind fun b4=>
 if b4 then((D.asSl a0).bind fun l5=>
(D.idx (gx v2 0) (l5.length)).bind fun i6=>
(l5[i6]?).bind fun x7=>
(D.get x7 [0]).bind fun x8=>
(D.truth x8).bind fun b9=>
(if b9 then(some true) else((call 167 [x7]).bind fun r10=>
(D.un .not r10).bind fun x11=>
 D.truth x11)).bind fun b12=>
(D.truth (D.bool b12)).bind fun b13=>
 if b13 then(some (Sum.inr (0,[(D.bool false)]))) else((D.bin .add (gx v2 0) (D.int .i64 1)).bind fun x14=>
 some (Sum.inl [x14]))) else(some (Sum.inr (1,[])))) [(D.int .i64 0)]).bind fun r15=>
 if r15.1=0 then(some (gx r15.2 0)) else(some (D.bool true))
theorem KN{lp}(hlp:au lp):ae 118 (m1 (ET lp)):=bz (fn:=Tryz.f118) (ann:=L7) hlp (by kernel_rfl) (by kernel_rfl) (fun call a0=>by kernel_rfl)
noncomputable def E7(lp:Lp)(call:Nat->List D->Option D) :Option D:=
 some (D.st [(D.bool true),(D.bool false),(aB aU)])
theorem Nb{lp}(hlp:au lp):ae 119 (m0 (E7 lp)):=CX (fn:=Tryz.f119) (ann:=.leaf) hlp (by kernel_rfl) (by kernel_rfl) (fun call=>by kernel_rfl)
def Kc:Ann:=(.two .leaf (.two .leaf (.two .leaf (.two (.two .leaf (.two (.loop ⟨[(2,.same (.ptr aU 4098 [])),(3,.same (.ptr aU 4099 [])),(4,.same (.ptr aU 4100 [])),(6,.same (.ptr aU 8198 [])),(7,.dv (Ty.int .u64)),(9,.dv (Ty.int .i64))],[(4098,.keep aU 2),(4099,.keep aU 3),(4100,.keep aU 4),(8198,.one aU (.dv aU))],[]⟩ [(.exit 0,⟨[(4,.same (.ptr aU 4100 [])),(6,.same (.ptr aU 8198 [])),(7,.dv (Ty.int .u64))],[(4100,.keep aU 4),(8198,.one aU (.dv aU))],[]⟩)] (.two .leaf (.two .leaf (.two (.two (.two .leaf (.two (.reg [] 11) .leaf)) .leaf) .leaf)))) .leaf)) .leaf))))
noncomputable def EX(lp:Lp)(call:Nat->List D->Option D)(a0:D)(a1:D):Option D:=
(lp (β:=Nat×List D) (fun(v1:List D)=>
(D.bin .lss (gx v1 1) (D.int .i64 16)).bind fun x2=>
(D.truth x2).bind fun b3=>
 if b3 then((D.idx (gx v1 1) 16).bind fun i4=>
(D.get a0 [i4]).bind fun x5=>
(D.conv .u64 x5).bind fun x6=>
(D.idx (gx v1 1) 16).bind fun i7=>
(D.get a1 [i7]).bind fun x8=>
(D.conv .u64 x8).bind fun x9=>
(D.bin .add x6 x9).bind fun x10=>
(D.bin .add (gx v1 0) x10).bind fun x11=>
(D.conv .u32 x11).bind fun x12=>
(D.idx (gx v1 1) 16).bind fun i13=>
(D.set (gx v1 2) [i13] x12).bind fun x14=>
(D.bin .shr x11 (D.int .u64 32)).bind fun x15=>
(D.bin .add (gx v1 1) (D.int .i64 1)).bind fun x16=>
 some (Sum.inl [x15,x16,x14])) else(some (Sum.inr (0,[(gx v1 0),(gx v1 2)])))) [(D.int .u64 0),(D.int .i64 0),(aB aU)]).bind fun r17=>
 some (D.tup [(gx r17.2 1),(D.bool (D.beq (gx r17.2 0) (D.int .u64 0)))])
theorem KJ{lp}(hlp:au lp):ae 120 (m2 (EX lp)):=aV (fn:=Tryz.f120) (ann:=Kc) hlp (by kernel_rfl) (by kernel_rfl) (fun call a0 a1=>by kernel_rfl)
def KV:Ann:=(.two .leaf (.two (.two .leaf (.two (.loop ⟨[(2,.same (.ptr aU 4098 [])),(3,.same (.ptr aU 4099 [])),(5,.dv (Ty.int .i64))],[(4098,.keep aU 2),(4099,.keep aU 3)],[]⟩ [(.ret,⟨[(4,.dv (Ty.int .i64))],[],[]⟩),(.exit 0,⟨[],[],[]⟩)] (.two .leaf (.two (.two (.two (.reg [] 6) (.two (.two (.reg [] 7) .leaf) .leaf)) .leaf) .leaf))) .leaf)) .leaf))
noncomputable def DZ(lp:Lp)(call:Nat->List D->Option D)(a0:D)(a1:D):Option D:=
(lp (β:=Nat×List D) (fun(v1:List D)=>
(D.bin .geq (gx v1 0) (D.int .i64 0)).bind fun x2=>
(D.truth x2).bind fun b3=>
 if b3 then((D.idx (gx v1 0) 16).bind fun i4=>
(D.get a0 [i4]).bind fun x5=>
(D.idx (gx v1 0) 16).bind fun i6=>
(D.get a1 [i6]).bind fun x7=>
(D.truth (D.bool (!(D.beq x5 x7)))).bind fun b8=>
 if b8 then((D.idx (gx v1 0) 16).bind fun i9=>
(D.get a0 [i9]).bind fun x10=>
(D.idx (gx v1 0) 16).bind fun i11=>
(D.get a1 [i11]).bind fun x12=>
(call 168 [x10,x12]).bind fun r13=>
 some (Sum.inr (0,[r13]))) else((D.bin .sub (gx v1 0) (D.int .i64 1)).bind fun x14=>
 some (Sum.inl [x14]))) else(some (Sum.inr (1,[])))) [(D.int .i64 15)]).bind fun r15=>
 if r15.1=0 then(some (gx r15.2 0)) else(some (D.int .i64 0))
theorem Kv{lp}(hlp:au lp):ae 121 (m2 (DZ lp)):=aV (fn:=Tryz.f121) (ann:=KV) hlp (by kernel_rfl) (by kernel_rfl) (fun call a0 a1=>by kernel_rfl)
def Kh:Ann:=(.two .leaf (.two .leaf (.two .leaf (.two (.two .leaf (.two (.loop ⟨[(2,.same (.ptr aU 4098 [])),(3,.same (.ptr aU 4099 [])),(4,.same (.ptr aU 4100 [])),(5,.same (.ptr aU 8197 [])),(6,.dv (Ty.int .u64)),(9,.dv (Ty.int .i64))],[(4098,.keep aU 2),(4099,.keep aU 3),(4100,.keep aU 4),(8197,.one aU (.dv aU))],[]⟩ [(.exit 0,⟨[(4,.same (.ptr aU 4100 [])),(5,.same (.ptr aU 8197 []))],[(4100,.keep aU 4),(8197,.one aU (.dv aU))],[]⟩)] (.two .leaf (.two .leaf (.two (.two (.two .leaf (.two (.reg [] 11) .leaf)) .leaf) .leaf)))) .leaf)) .leaf))))
noncomputable def D1(lp:Lp)(call:Nat->List D->Option D)(a0:D)(a1:D):Option D:=
(lp (β:=Nat×List D) (fun(v1:List D)=>
(D.bin .lss (gx v1 1) (D.int .i64 16)).bind fun x2=>
(D.truth x2).bind fun b3=>
 if b3 then((D.idx (gx v1 1) 16).bind fun i4=>
(D.get a0 [i4]).bind fun x5=>
(D.conv .u64 x5).bind fun x6=>
(D.idx (gx v1 1) 16).bind fun i7=>
(D.get a1 [i7]).bind fun x8=>
(D.conv .u64 x8).bind fun x9=>
(D.bin .sub x6 x9).bind fun x10=>
(D.bin .sub x10 (gx v1 0)).bind fun x11=>
(D.conv .u32 x11).bind fun x12=>
(D.idx (gx v1 1) 16).bind fun i13=>
(D.set (gx v1 2) [i13] x12).bind fun x14=>
(D.bin .shr x11 (D.int .u64 63)).bind fun x15=>
(D.bin .add (gx v1 1) (D.int .i64 1)).bind fun x16=>
 some (Sum.inl [x15,x16,x14])) else(some (Sum.inr (0,[(gx v1 2)])))) [(D.int .u64 0),(D.int .i64 0),(aB aU)]).bind fun r17=>
 some (gx r17.2 0)
theorem Na{lp}(hlp:au lp):ae 122 (m2 (D1 lp)):=aV (fn:=Tryz.f122) (ann:=Kh) hlp (by kernel_rfl) (by kernel_rfl) (fun call a0 a1=>by kernel_rfl)
noncomputable def Fd(lp:Lp)(call:Nat->List D->Option D)(a0:D)(a1:D):Option D:=
(D.get a0 [1]).bind fun x1=>
(D.get a1 [2]).bind fun x2=>
(D.bin .mul x1 x2).bind fun x3=>
(D.get a0 [2]).bind fun x4=>
(D.get a1 [1]).bind fun x5=>
(D.bin .mul x4 x5).bind fun x6=>
(D.bin .sub x3 x6).bind fun x7=>
(D.get a0 [2]).bind fun x8=>
(D.get a1 [0]).bind fun x9=>
(D.bin .mul x8 x9).bind fun x10=>
(D.get a0 [0]).bind fun x11=>
(D.get a1 [2]).bind fun x12=>
(D.bin .mul x11 x12).bind fun x13=>
(D.bin .sub x10 x13).bind fun x14=>
(D.get a0 [0]).bind fun x15=>
(D.get a1 [1]).bind fun x16=>
(D.bin .mul x15 x16).bind fun x17=>
(D.get a0 [1]).bind fun x18=>
(D.get a1 [0]).bind fun x19=>
(D.bin .mul x18 x19).bind fun x20=>
(D.bin .sub x17 x20).bind fun x21=>
 some (D.st [x7,x14,x21])
theorem KC{lp}(hlp:au lp):ae 123 (m2 (Fd lp)):=aV (fn:=Tryz.f123) (ann:=.leaf) hlp (by kernel_rfl) (by kernel_rfl) (fun call a0 a1=>by kernel_rfl)
def M5:Ann:=(.two .leaf (.two .leaf (.two .leaf (.two (.two .leaf (.two (.loop ⟨[(1,.same (.ptr aD 4097 [])),(5,.dv (Ty.int .i64))],[(4097,.keep aD 1)],[]⟩ [(.ret,⟨[(2,.dv (Ty.int .i64)),(3,.dv Ty.bool)],[],[]⟩),(.exit 0,⟨[(1,.same (.ptr aD 4097 []))],[(4097,.keep aD 1)],[]⟩)] .leaf) .leaf)) .leaf))))
noncomputable def Da(lp:Lp)(call:Nat->List D->Option D)(a0:D):Option D:=
(call 76 [a0]).bind fun r1=>
(D.un .not r1).bind fun x2=>
(D.truth x2).bind fun b3=>
(if b3 then(some true) else((D.get a0 [2,1]).bind fun x4=>
(D.bin .geq x4 (D.int .u32 1073741824)).bind fun x5=>
 D.truth x5)).bind fun b6=>
(D.truth (D.bool b6)).bind fun b7=>
 if b7 then(some (D.tup [(D.int .i64 0),(D.bool false)])) else((lp (β:=Nat×List D) (fun(v8:List D)=>
(D.bin .lss (gx v8 0) (D.int .i64 16)).bind fun x9=>
(D.truth x9).bind fun b10=>
 if b10 then((D.idx (gx v8 0) 16).bind fun i11=>
(D.get a0 [2,i11]).bind fun x12=>
(D.truth (D.bool (!(D.beq x12 (D.int .u32 0))))).bind fun b13=>
 if b13 then(some (Sum.inr (0,[(D.int .i64 0),(D.bool false)]))) else((D.bin .add (gx v8 0) (D.int .i64 1)).bind fun x14=>
 some (Sum.inl [x14]))) else(some (Sum.inr (1,[])))) [(D.int .i64 2)]).bind fun r15=>
 if r15.1=0 then(some (D.tup [(gx r15.2 0),(gx r15.2 1)])) else((D.get a0 [2,1]).bind fun x16=>
(D.conv .i64 x16).bind fun x17=>
(D.bin .mul x17 (D.int .i64 4294967296)).bind fun x18=>
(D.get a0 [2,0]).bind fun x19=>
(D.conv .i64 x19).bind fun x20=>
(D.bin .add x18 x20).bind fun x21=>
(D.get a0 [1]).bind fun x22=>
(D.truth x22).bind fun b23=>
 if b23 then((D.un .neg x21).bind fun x24=>
 some (D.tup [x24,(D.bool true)])) else(some (D.tup [x21,(D.bool true)]))))
theorem KE{lp}(hlp:au lp):ae 124 (m1 (Da lp)):=bz (fn:=Tryz.f124) (ann:=M5) hlp (by kernel_rfl) (by kernel_rfl) (fun call a0=>by kernel_rfl)
noncomputable def DV(lp:Lp)(call:Nat->List D->Option D) :Option D:=
 some (D.st [(D.bool true),(D.bool false),(aB aU)])
theorem Lv{lp}(hlp:au lp):ae 125 (m0 (DV lp)):=CX (fn:=Tryz.f125) (ann:=.leaf) hlp (by kernel_rfl) (by kernel_rfl) (fun call=>by kernel_rfl)
end Go.Proofs.YtjjjkojfijpeeaaGreat.Sy
end
section
set_option maxRecDepth 20000
set_option maxHeartbeats 0
set_option linter.unusedVariables false
namespace Go.Proofs.YtjjjkojfijpeeaaGreat.Sy
open Go Go.Proofs
def Li:Ann:=(.two .leaf (.two .leaf (.two .leaf (.two (.two .leaf (.two (.loop ⟨[(5,.ow (Ty.int .i64)),(6,.dv (Ty.int .i64)),(7,.dv (Ty.int .i64))],[],[0,1]⟩ [(.exit 0,⟨[(5,.ow (Ty.int .i64))],[],[]⟩)] (.two .leaf (.two (.two (.two (.reg [] 10) (.two .leaf (.cut [(.normal,⟨[(5,.ow (Ty.int .i64)),(6,.dv (Ty.int .i64)),(8,.dv (Ty.int .i64))],[],[0,1,7]⟩)] [0,1,7] [] .leaf .leaf))) .leaf) .leaf))) .leaf)) .leaf))))
noncomputable def Du(lp:Lp)(call:Nat->List D->Option D)(a0:D)(a1:D):Option D:=
(lp (β:=Nat×List D) (fun(v1:List D)=>
(D.asSl a0).bind fun l2=>
(D.bin .lss (gx v1 2) (D.int .i64 (l2.length))).bind fun x3=>
(D.truth x3).bind fun b4=>
 if b4 then((D.asSl a0).bind fun l5=>
(D.idx (gx v1 2) (l5.length)).bind fun i6=>
(l5[i6]?).bind fun x7=>
(call 141 [a1,(gx v1 2)]).bind fun r8=>
(D.bin .sub x7 r8).bind fun x9=>
(D.bin .sub x9 (gx v1 1)).bind fun x10=>
((D.bin .lss x10 (D.int .i64 0)).bind fun x11=>
(D.truth x11).bind fun b12=>
 if b12 then((D.bin .add x10 (D.int .i64 65536)).bind fun x13=>
 some (0,[(D.sl ((gx v1 0).els)),(D.int .i64 1),x13])) else(some (0,[(D.sl ((gx v1 0).els)),(D.int .i64 0),x10]))).bind fun(r14:Nat×List D)=>
 if List.length ((gx r14.2 0).els)+List.length [(gx r14.2 2)]<=1073741824 then((D.bin .add (gx v1 2) (D.int .i64 1)).bind fun x15=>
 some (Sum.inl [(D.sl (((gx r14.2 0).els)++[(gx r14.2 2)])),(gx r14.2 1),x15])) else none) else(some (Sum.inr (0,[(D.sl ((gx v1 0).els))])))) [(D.sl []),(D.int .i64 0),(D.int .i64 0)]).bind fun r16=>
(call 140 [(D.sl ((gx r16.2 0).els))]).bind fun r17=>
 some r17
theorem J5{lp}(hlp:au lp):ae 126 (m2 (Du lp)):=aV (fn:=Tryz.f126) (ann:=Li) hlp (by kernel_rfl) (by kernel_rfl) (fun call a0 a1=>by kernel_rfl)
def MW:Ann:=(.two .leaf (.two .leaf (.two (.two (.loop ⟨[(1,.same (.ptr aU 4097 [])),(3,.dv (Ty.int .i64))],[(4097,.keep aU 1)],[]⟩ [(.exit 0,⟨[(3,.dv (Ty.int .i64))],[],[]⟩)] .leaf) .leaf) .leaf)))
noncomputable def Ez(lp:Lp)(call:Nat->List D->Option D)(a0:D):Option D:=
(lp (β:=Nat×List D) (fun(v1:List D)=>
(D.bin .gtr (gx v1 0) (D.int .i64 0)).bind fun x2=>
(D.truth x2).bind fun b3=>
(if b3 then((D.bin .sub (gx v1 0) (D.int .i64 1)).bind fun x4=>
(D.idx x4 16).bind fun i5=>
(D.get a0 [i5]).bind fun x6=>
 D.truth (D.bool (D.beq x6 (D.int .u32 0)))) else(some false)).bind fun b7=>
(D.truth (D.bool b7)).bind fun b8=>
 if b8 then((D.bin .sub (gx v1 0) (D.int .i64 1)).bind fun x9=>
 some (Sum.inl [x9])) else(some (Sum.inr (0,[(gx v1 0)])))) [(D.int .i64 16)]).bind fun r10=>
 some (gx r10.2 0)
theorem Kq{lp}(hlp:au lp):ae 127 (m1 (Ez lp)):=bz (fn:=Tryz.f127) (ann:=MW) hlp (by kernel_rfl) (by kernel_rfl) (fun call a0=>by kernel_rfl)
noncomputable def Fj(lp:Lp)(call:Nat->List D->Option D)(a0:D):Option D:=
(D.get a0 [0]).bind fun x1=>
(D.un .not x1).bind fun x2=>
(D.truth x2).bind fun b3=>
(if b3 then((call 167 [a0]).bind fun r4=>
 D.truth r4) else(some false)).bind fun b5=>
 some (D.bool b5)
theorem LR{lp}(hlp:au lp):ae 128 (m1 (Fj lp)):=bz (fn:=Tryz.f128) (ann:=.leaf) hlp (by kernel_rfl) (by kernel_rfl) (fun call a0=>by kernel_rfl)
noncomputable def EP(lp:Lp)(call:Nat->List D->Option D)(a0:D):Option D:=
(call 118 [(D.sl [a0])]).bind fun r1=>
(D.un .not r1).bind fun x2=>
(D.truth x2).bind fun b3=>
(if b3 then(some true) else((D.get a0 [2]).bind fun x4=>
 D.truth (D.bool (D.beq x4 (D.st (D.putParts (List.replicate 16 (D.int .u32 0)) [])))))).bind fun b5=>
(D.truth (D.bool b5)).bind fun b6=>
 if b6 then(some (D.int .i64 0)) else((D.get a0 [1]).bind fun x7=>
(D.truth x7).bind fun b8=>
 if b8 then(some (D.int .i64 (-1))) else(some (D.int .i64 1)))
theorem Kn{lp}(hlp:au lp):ae 129 (m1 (EP lp)):=bz (fn:=Tryz.f129) (ann:=.leaf) hlp (by kernel_rfl) (by kernel_rfl) (fun call a0=>by kernel_rfl)
theorem Lg{lp}(hlp:au lp):ae 130 (fT lp 130 Tryz.f130 .leaf):=dn hlp (by kernel_rfl) (by kernel_rfl)
def Kd:Ann:=(.two .leaf (.two .leaf (.two (.two .leaf (.two (.two (.reg [] 21) (.two (.two (.loop ⟨[(4,.same (.ptr aD 4100 [])),(5,.dv (Ty.int .u64)),(6,.dv (Ty.int .u64))],[(4100,.keep aD 4)],[]⟩ [(.exit 0,⟨[(4,.same (.ptr aD 4100 [])),(5,.dv (Ty.int .u64))],[(4100,.keep aD 4)],[]⟩)] (.two .leaf (.two (.reg [] 5) .leaf))) .leaf) .leaf)) .leaf)) (.two (.two (.reg [] 6) (.two .leaf (.two (.two .leaf (.two (.reg [] 5) .leaf)) .leaf))) .leaf))))
noncomputable def EN(lp:Lp)(call:Nat->List D->Option D)(a0:D)(a1:D):Option D:=
(call 118 [(D.sl [a0,a1])]).bind fun r1=>
(D.un .not r1).bind fun x2=>
(D.truth x2).bind fun b3=>
 if b3 then((call 119 []).bind fun r4=>
 some r4) else((D.get a0 [2]).bind fun x5=>
(call 127 [x5]).bind fun r6=>
(D.bin .leq r6 (D.int .i64 2)).bind fun x7=>
(D.truth x7).bind fun b8=>
(if b8 then((D.get a1 [2]).bind fun x9=>
(call 127 [x9]).bind fun r10=>
(D.bin .leq r10 (D.int .i64 2)).bind fun x11=>
 D.truth x11) else(some false)).bind fun b12=>
(D.truth (D.bool b12)).bind fun b13=>
 if b13 then((D.get a0 [2,1]).bind fun x14=>
(D.conv .u64 x14).bind fun x15=>
(D.bin .shl x15 (D.int .u64 32)).bind fun x16=>
(D.get a0 [2,0]).bind fun x17=>
(D.conv .u64 x17).bind fun x18=>
(D.bin .or x16 x18).bind fun x19=>
(D.get a1 [2,1]).bind fun x20=>
(D.conv .u64 x20).bind fun x21=>
(D.bin .shl x21 (D.int .u64 32)).bind fun x22=>
(D.get a1 [2,0]).bind fun x23=>
(D.conv .u64 x23).bind fun x24=>
(D.bin .or x22 x24).bind fun x25=>
(lp (β:=Nat×List D) (fun(v26:List D)=>
(D.truth (D.bool (!(D.beq (gx v26 1) (D.int .u64 0))))).bind fun b27=>
 if b27 then((D.bin .rem (gx v26 0) (gx v26 1)).bind fun x28=>
 some (Sum.inl [(gx v26 1),x28])) else(some (Sum.inr (0,[(gx v26 0)])))) [x19,x25]).bind fun r29=>
(D.conv .u32 (gx r29.2 0)).bind fun x30=>
(D.bin .shr (gx r29.2 0) (D.int .u64 32)).bind fun x31=>
(D.conv .u32 x31).bind fun x32=>
(call 116 [(D.bool false),(D.st (D.putParts (List.replicate 16 (D.int .u32 0)) [(0,x30),(1,x32)]))]).bind fun r33=>
 some r33) else((D.get a0 [2]).bind fun x34=>
(D.get a1 [2]).bind fun x35=>
(D.truth (D.bool (!(D.beq x35 (D.st (D.putParts (List.replicate 16 (D.int .u32 0)) [])))))).bind fun b36=>
 if b36 then((call 170 [x34,x35]).bind fun r37=>
(D.tupAt r37 0).bind fun x38=>
(D.tupAt r37 1).bind fun x39=>
(call 116 [(D.bool false),x35]).bind fun r40=>
(call 116 [(D.bool false),x39]).bind fun r41=>
(call 131 [r40,r41]).bind fun r42=>
 some r42) else((call 171 [a0]).bind fun r43=>
 some r43)))
theorem La{lp}(hlp:au lp):ae 131 (m2 (EN lp)):=aV (fn:=Tryz.f131) (ann:=Kd) hlp (by kernel_rfl) (by kernel_rfl) (fun call a0 a1=>by kernel_rfl)
noncomputable def EU(lp:Lp)(call:Nat->List D->Option D)(a0:D)(a1:D):Option D:=
(call 172 [a0,a1]).bind fun r1=>
(D.tupAt r1 0).bind fun x2=>
(D.tupAt r1 1).bind fun x3=>
 some x2
theorem L9{lp}(hlp:au lp):ae 132 (m2 (EU lp)):=aV (fn:=Tryz.f132) (ann:=.leaf) hlp (by kernel_rfl) (by kernel_rfl) (fun call a0 a1=>by kernel_rfl)
noncomputable def Fh(lp:Lp)(call:Nat->List D->Option D) :Option D:=
(call 34 [(D.int .i64 1)]).bind fun r1=>
 some r1
theorem Nc{lp}(hlp:au lp):ae 133 (m0 (Fh lp)):=CX (fn:=Tryz.f133) (ann:=.leaf) hlp (by kernel_rfl) (by kernel_rfl) (fun call=>by kernel_rfl)
def Ho:Ann:=(.two .leaf (.two .leaf (.two (.two .leaf (.two (.loop ⟨[(2,.same (.ptr eQ 4098 [])),(3,.same (.ptr eQ 4099 [])),(4,.same (.ptr bT 4100 [])),(5,.same (.ptr bT 8197 [])),(8,.dv (Ty.int .i64))],[(4098,.keep eQ 2),(4099,.keep eQ 3),(4100,.keep bT 4),(8197,.one bT (.dv bT))],[]⟩ [(.exit 0,⟨[(4,.same (.ptr bT 4100 [])),(5,.same (.ptr bT 8197 []))],[(4100,.keep bT 4),(8197,.one bT (.dv bT))],[]⟩)] (.two .leaf (.two .leaf (.two (.two (.two .leaf (.reg [] 9)) .leaf) .leaf)))) .leaf)) .leaf)))
theorem KL{lp}(hlp:au lp):ae 134 (fT lp 134 Tryz.f134 Ho):=dn hlp (by kernel_rfl) (by kernel_rfl)
def Ix:Ann:=(.two .leaf (.two (.reg [] 10) .leaf))
theorem No{lp}(hlp:au lp):ae 135 (fT lp 135 Tryz.f135 Ix):=dn hlp (by kernel_rfl) (by kernel_rfl)
theorem KW{lp}(hlp:au lp):ae 136 (fT lp 136 Tryz.f136 .leaf):=dn hlp (by kernel_rfl) (by kernel_rfl)
theorem Nn{lp}(hlp:au lp):ae 137 (fT lp 137 Tryz.f137 .leaf):=dn hlp (by kernel_rfl) (by kernel_rfl)
def Ii:Ann:=(.two .leaf (.two (.reg [] 3) .leaf))
theorem Np{lp}(hlp:au lp):ae 138 (fT lp 138 Tryz.f138 Ii):=dn hlp (by kernel_rfl) (by kernel_rfl)
def KF:Ann:=(.two .leaf (.two .leaf (.two (.two .leaf (.two (.loop ⟨[(1,.same (.ptr aD 4097 [])),(3,.dv Ty.bool),(4,.dv (Ty.int .i64))],[(4097,.keep aD 1)],[]⟩ [(.exit 0,⟨[(1,.same (.ptr aD 4097 [])),(3,.dv Ty.bool)],[(4097,.keep aD 1)],[]⟩)] .leaf) .leaf)) .leaf)))
noncomputable def Et(lp:Lp)(call:Nat->List D->Option D)(a0:D):Option D:=
(lp (β:=Nat×List D) (fun(v1:List D)=>
(D.bin .lss (gx v1 1) (D.int .i64 16)).bind fun x2=>
(D.truth x2).bind fun b3=>
 if b3 then((D.truth (gx v1 0)).bind fun b4=>
(if b4 then((D.idx (gx v1 1) 16).bind fun i5=>
(D.get a0 [2,i5]).bind fun x6=>
 D.truth (D.bool (D.beq x6 (D.int .u32 0)))) else(some false)).bind fun b7=>
(D.bin .add (gx v1 1) (D.int .i64 1)).bind fun x8=>
 some (Sum.inl [(D.bool b7),x8])) else(some (Sum.inr (0,[(gx v1 0)])))) [(D.bool true),(D.int .i64 0)]).bind fun r9=>
(D.get a0 [0]).bind fun x10=>
(D.truth x10).bind fun b11=>
 if b11 then((D.truth (gx r9.2 0)).bind fun b12=>
(if b12 then((D.get a0 [1]).bind fun x13=>
(D.un .not x13).bind fun x14=>
 D.truth x14) else(some false)).bind fun b15=>
 some (D.bool b15)) else((D.un .not (gx r9.2 0)).bind fun x16=>
(D.truth x16).bind fun b17=>
(if b17 then(some true) else((D.get a0 [1]).bind fun x18=>
(D.un .not x18).bind fun x19=>
 D.truth x19)).bind fun b20=>
 some (D.bool b20))
theorem J8{lp}(hlp:au lp):ae 139 (m1 (Et lp)):=bz (fn:=Tryz.f139) (ann:=KF) hlp (by kernel_rfl) (by kernel_rfl) (fun call a0=>by kernel_rfl)
def Ng:Ann:=(.two .leaf (.two .leaf (.two (.two (.loop ⟨[(3,.dv (Ty.int .i64))],[],[0]⟩ [(.exit 0,⟨[(3,.dv (Ty.int .i64))],[],[0]⟩)] .leaf) .leaf) .leaf)))
noncomputable def E0(lp:Lp)(call:Nat->List D->Option D)(a0:D):Option D:=
(D.asSl a0).bind fun l1=>
(lp (β:=Nat×List D) (fun(v2:List D)=>
(D.bin .gtr (gx v2 0) (D.int .i64 0)).bind fun x3=>
(D.truth x3).bind fun b4=>
(if b4 then((D.bin .sub (gx v2 0) (D.int .i64 1)).bind fun x5=>
(D.asSl a0).bind fun l6=>
(D.idx x5 (l6.length)).bind fun i7=>
(l6[i7]?).bind fun x8=>
 D.truth (D.bool (D.beq x8 (D.int .i64 0)))) else(some false)).bind fun b9=>
(D.truth (D.bool b9)).bind fun b10=>
 if b10 then((D.bin .sub (gx v2 0) (D.int .i64 1)).bind fun x11=>
 some (Sum.inl [x11])) else(some (Sum.inr (0,[(gx v2 0)])))) [(D.int .i64 (l1.length))]).bind fun r12=>
(D.asSl a0).bind fun l13=>
(D.natOf (gx r12.2 0)).bind fun i14=>
(D.cut l13 0 i14).bind fun l15=>
 some (D.sl l15)
theorem Mq{lp}(hlp:au lp):ae 140 (m1 (E0 lp)):=bz (fn:=Tryz.f140) (ann:=Ng) hlp (by kernel_rfl) (by kernel_rfl) (fun call a0=>by kernel_rfl)
noncomputable def Eu(lp:Lp)(call:Nat->List D->Option D)(a0:D)(a1:D):Option D:=
(D.asSl a0).bind fun l1=>
(D.bin .lss a1 (D.int .i64 (l1.length))).bind fun x2=>
(D.truth x2).bind fun b3=>
 if b3 then((D.asSl a0).bind fun l4=>
(D.idx a1 (l4.length)).bind fun i5=>
(l4[i5]?).bind fun x6=>
 some x6) else(some (D.int .i64 0))
theorem Mm{lp}(hlp:au lp):ae 141 (m2 (Eu lp)):=aV (fn:=Tryz.f141) (ann:=.leaf) hlp (by kernel_rfl) (by kernel_rfl) (fun call a0 a1=>by kernel_rfl)
noncomputable def Dy(lp:Lp)(call:Nat->List D->Option D)(a0:D):Option D:=
(call 76 [a0]).bind fun r1=>
(D.un .not r1).bind fun x2=>
(D.truth x2).bind fun b3=>
 if b3 then((call 125 []).bind fun r4=>
 some r4) else((call 77 [a0]).bind fun r5=>
(call 81 [(D.bool false),r5]).bind fun r6=>
 some r6)
theorem Nr{lp}(hlp:au lp):ae 142 (m1 (Dy lp)):=bz (fn:=Tryz.f142) (ann:=.leaf) hlp (by kernel_rfl) (by kernel_rfl) (fun call a0=>by kernel_rfl)
def LJ:Ann:=(.two .leaf (.two .leaf (.two .leaf (.two (.reg [] 11) (.two .leaf (.two (.two .leaf (.two (.loop ⟨[(6,.same (.mem (Ty.int .i64) 8207)),(9,.dv K5),(10,.dv (Ty.int .i64))],[(8207,.many (Ty.int .i64))],[0,1,7,8]⟩ [(.exit 0,⟨[(6,.same (.mem (Ty.int .i64) 8207)),(9,.dv K5)],[(8207,.many (Ty.int .i64))],[]⟩)] (.two .leaf (.two (.two (.two .leaf (.two .leaf (.two .leaf (.two (.two (.loop ⟨[(6,.same (.mem (Ty.int .i64) 8207)),(11,.dv (Ty.int .i64)),(12,.dv K5)],[(8207,.many (Ty.int .i64))],[0,1,7,8,9,10]⟩ [(.exit 2,⟨[(6,.same (.mem (Ty.int .i64) 8207)),(11,.dv (Ty.int .i64)),(12,.dv K5)],[(8207,.many (Ty.int .i64))],[0,1,7,8,9,10]⟩)] .leaf) .leaf) .leaf)))) .leaf) .leaf))) .leaf)) (.two (.reg [6] 5) .leaf)))))))
noncomputable def EJ(lp:Lp)(call:Nat->List D->Option D)(a0:D)(a1:D):Option D:=
(D.asSl a0).bind fun l1=>
(D.natOf (D.int .i64 (l1.length))).bind fun i2=>
 if i2<=1073741824 then((D.asSl a1).bind fun l3=>
(D.bin .sub (D.int .i64 (l3.length)) (D.int .i64 1)).bind fun x4=>
(D.asSl a1).bind fun l5=>
(D.idx x4 (l5.length)).bind fun i6=>
(l5[i6]?).bind fun x7=>
(D.bin .mul x7 (D.int .i64 65536)).bind fun x8=>
(D.bin .sub (D.int .i64 (l3.length)) (D.int .i64 2)).bind fun x9=>
(call 175 [a1,x9]).bind fun r10=>
(D.bin .add x8 r10).bind fun x11=>
(D.asSl a0).bind fun l12=>
(D.bin .sub (D.int .i64 (l12.length)) (D.int .i64 1)).bind fun x13=>
(lp (β:=Nat×List D) (fun(v14:List D)=>
(D.bin .geq (gx v14 1) (D.int .i64 0)).bind fun x15=>
(D.truth x15).bind fun b16=>
 if b16 then((D.asSl a0).bind fun l17=>
(D.idx (gx v14 1) (l17.length)).bind fun i18=>
(l17[i18]?).bind fun x19=>
(D.asSl (gx v14 0)).bind fun l20=>
 if List.length [x19]+l20.length<=1073741824 then((call 140 [(D.sl ([x19]++l20))]).bind fun r21=>
(call 175 [r21,(D.int .i64 (l3.length))]).bind fun r22=>
(D.bin .mul r22 (D.int .i64 4294967296)).bind fun x23=>
(D.bin .sub (D.int .i64 (l3.length)) (D.int .i64 1)).bind fun x24=>
(call 175 [r21,x24]).bind fun r25=>
(D.bin .mul r25 (D.int .i64 65536)).bind fun x26=>
(D.bin .add x23 x26).bind fun x27=>
(D.bin .sub (D.int .i64 (l3.length)) (D.int .i64 2)).bind fun x28=>
(call 175 [r21,x28]).bind fun r29=>
(D.bin .add x27 r29).bind fun x30=>
(D.bin .quo x30 x11).bind fun x31=>
(D.min2 (D.int .i64 65535) x31).bind fun x32=>
(call 146 [a1,(D.sl [x32])]).bind fun r33=>
(lp (β:=Nat×List D) (fun(v34:List D)=>
(call 78 [r21,(gx v34 1)]).bind fun r35=>
(D.truth r35).bind fun b36=>
 if b36 then((D.bin .sub (gx v34 0) (D.int .i64 1)).bind fun x37=>
(call 126 [(gx v34 1),a1]).bind fun r38=>
 some (Sum.inl [x37,r38,(D.sl ((gx v34 2).els))])) else(some (Sum.inr (0,[(gx v34 0),(gx v34 1),(D.sl ((gx v34 2).els))])))) [x32,r33,(D.sl ((gx v14 2).els))]).bind fun r39=>
(D.idx (gx v14 1) (List.length ((gx r39.2 2).els))).bind fun i40=>
(((gx r39.2 2).els)[i40]?).bind fun x41=>
(call 126 [r21,(gx r39.2 1)]).bind fun r42=>
(D.bin .sub (gx v14 1) (D.int .i64 1)).bind fun x43=>
 some (Sum.inl [r42,x43,(D.sl (List.set ((gx r39.2 2).els) i40 (gx r39.2 0)))])) else none) else(some (Sum.inr (0,[(gx v14 0),(D.sl ((gx v14 2).els))])))) [(D.sl []),x13,(D.sl (List.replicate i2 (D.int .i64 0)))]).bind fun r44=>
(call 140 [(D.sl ((gx r44.2 1).els))]).bind fun r45=>
 some (D.tup [r45,(gx r44.2 0)])) else none
theorem Lu{lp}(hlp:au lp):ae 143 (m2 (EJ lp)):=aV (fn:=Tryz.f143) (ann:=LJ) hlp (by kernel_rfl) (by kernel_rfl) (fun call a0 a1=>by kernel_rfl)
def MJ:Ann:=(.two .leaf (.two .leaf (.cut [(.normal,⟨[(5,.dv (Ty.int .i64))],[],[]⟩)] [] [] .leaf .leaf)))
noncomputable def DF(lp:Lp)(call:Nat->List D->Option D)(a0:D)(a1:D):Option D:=
(D.bin .quo a0 a1).bind fun x1=>
((D.bin .rem a0 a1).bind fun x2=>
(D.truth (D.bool (!(D.beq x2 (D.int .i64 0))))).bind fun b3=>
(if b3 then((D.bin .lss a0 (D.int .i64 0)).bind fun x4=>
(D.bin .lss a1 (D.int .i64 0)).bind fun x5=>
 D.truth (D.bool (!(D.beq x4 x5)))) else(some false)).bind fun b6=>
(D.truth (D.bool b6)).bind fun b7=>
 if b7 then((D.bin .sub x1 (D.int .i64 1)).bind fun x8=>
 some (0,[x8])) else(some (0,[x1]))).bind fun(r9:Nat×List D)=>
 some (gx r9.2 0)
theorem JX{lp}(hlp:au lp):ae 144 (m2 (DF lp)):=aV (fn:=Tryz.f144) (ann:=MJ) hlp (by kernel_rfl) (by kernel_rfl) (fun call a0 a1=>by kernel_rfl)
noncomputable def DT(lp:Lp)(call:Nat->List D->Option D)(a0:D):Option D:=
(D.bin .lss a0 (D.int .i64 2147483648)).bind fun x1=>
(D.truth x1).bind fun b2=>
(if b2 then((D.bin .gtr a0 (D.int .i64 (-2147483648))).bind fun x3=>
 D.truth x3) else(some false)).bind fun b4=>
 some (D.bool b4)
theorem JG{lp}(hlp:au lp):ae 145 (m1 (DT lp)):=bz (fn:=Tryz.f145) (ann:=.leaf) hlp (by kernel_rfl) (by kernel_rfl) (fun call a0=>by kernel_rfl)
def JH:Ann:=(.two .leaf (.two .leaf (.two (.two .leaf (.two (.loop ⟨[(5,.same (.mem (Ty.int .i64) 8209)),(6,.dv (Ty.int .i64))],[(8209,.many (Ty.int .i64))],[0,1]⟩ [(.exit 0,⟨[(5,.same (.mem (Ty.int .i64) 8209))],[(8209,.many (Ty.int .i64))],[]⟩)] (.two .leaf (.two (.two (.two (.two .leaf (.two (.loop ⟨[(5,.same (.mem (Ty.int .i64) 8209)),(7,.dv (Ty.int .i64))],[(8209,.many (Ty.int .i64))],[0,1,6]⟩ [(.exit 2,⟨[(5,.same (.mem (Ty.int .i64) 8209))],[(8209,.many (Ty.int .i64))],[0,1,6]⟩)] (.two .leaf (.two (.two (.reg [] 21) .leaf) .leaf))) .leaf)) (.two .leaf (.two .leaf (.two (.loop ⟨[(5,.same (.mem (Ty.int .i64) 8209)),(8,.dv (Ty.int .i64)),(9,.dv (Ty.int .i64))],[(8209,.many (Ty.int .i64))],[0,1,6]⟩ [(.exit 4,⟨[(5,.same (.mem (Ty.int .i64) 8209))],[(8209,.many (Ty.int .i64))],[0,1,6]⟩)] .leaf) .leaf)))) .leaf) .leaf))) .leaf)) (.two (.reg [5] 3) .leaf))))
noncomputable def E1(lp:Lp)(call:Nat->List D->Option D)(a0:D)(a1:D):Option D:=
(D.asSl a0).bind fun l1=>
(D.asSl a1).bind fun l2=>
(D.bin .add (D.int .i64 (l1.length)) (D.int .i64 (l2.length))).bind fun x3=>
(D.bin .add x3 (D.int .i64 1)).bind fun x4=>
(D.natOf x4).bind fun i5=>
 if i5<=1073741824 then((lp (β:=Nat×List D) (fun(v6:List D)=>
(D.asSl a0).bind fun l7=>
(D.bin .lss (gx v6 0) (D.int .i64 (l7.length))).bind fun x8=>
(D.truth x8).bind fun b9=>
 if b9 then((lp (β:=Nat×List D) (fun(v10:List D)=>
(D.asSl a1).bind fun l11=>
(D.bin .lss (gx v10 0) (D.int .i64 (l11.length))).bind fun x12=>
(D.truth x12).bind fun b13=>
 if b13 then((D.bin .add (gx v6 0) (gx v10 0)).bind fun x14=>
(D.bin .add (gx v6 0) (gx v10 0)).bind fun x15=>
(D.idx x15 (List.length ((gx v10 1).els))).bind fun i16=>
(((gx v10 1).els)[i16]?).bind fun x17=>
(D.asSl a0).bind fun l18=>
(D.idx (gx v6 0) (l18.length)).bind fun i19=>
(l18[i19]?).bind fun x20=>
(D.asSl a1).bind fun l21=>
(D.idx (gx v10 0) (l21.length)).bind fun i22=>
(l21[i22]?).bind fun x23=>
(D.bin .mul x20 x23).bind fun x24=>
(D.bin .add x17 x24).bind fun x25=>
(D.idx x14 (List.length ((gx v10 1).els))).bind fun i26=>
(((gx v10 1).els)[i26]?).bind fun x27=>
(D.bin .add (gx v10 0) (D.int .i64 1)).bind fun x28=>
 some (Sum.inl [x28,(D.sl (List.set ((gx v10 1).els) i26 x25))])) else(some (Sum.inr (0,[(D.sl ((gx v10 1).els))])))) [(D.int .i64 0),(D.sl ((gx v6 1).els))]).bind fun r29=>
(lp (β:=Nat×List D) (fun(v30:List D)=>
(D.bin .lss (gx v30 1) (D.int .i64 (List.length ((gx v30 2).els)))).bind fun x31=>
(D.truth x31).bind fun b32=>
 if b32 then((D.idx (gx v30 1) (List.length ((gx v30 2).els))).bind fun i33=>
(((gx v30 2).els)[i33]?).bind fun x34=>
(D.bin .add x34 (gx v30 0)).bind fun x35=>
(D.bin .rem x35 (D.int .i64 65536)).bind fun x36=>
(D.idx (gx v30 1) (List.length ((gx v30 2).els))).bind fun i37=>
(((gx v30 2).els)[i37]?).bind fun x38=>
(D.bin .quo x35 (D.int .i64 65536)).bind fun x39=>
(D.bin .add (gx v30 1) (D.int .i64 1)).bind fun x40=>
 some (Sum.inl [x39,x40,(D.sl (List.set ((gx v30 2).els) i37 x36))])) else(some (Sum.inr (0,[(D.sl ((gx v30 2).els))])))) [(D.int .i64 0),(D.int .i64 0),(D.sl ((gx r29.2 0).els))]).bind fun r41=>
(D.bin .add (gx v6 0) (D.int .i64 1)).bind fun x42=>
 some (Sum.inl [x42,(D.sl ((gx r41.2 0).els))])) else(some (Sum.inr (0,[(D.sl ((gx v6 1).els))])))) [(D.int .i64 0),(D.sl (List.replicate i5 (D.int .i64 0)))]).bind fun r43=>
(call 140 [(D.sl ((gx r43.2 0).els))]).bind fun r44=>
 some r44) else none
theorem MQ{lp}(hlp:au lp):ae 146 (m2 (E1 lp)):=aV (fn:=Tryz.f146) (ann:=JH) hlp (by kernel_rfl) (by kernel_rfl) (fun call a0 a1=>by kernel_rfl)
def Jz:Ann:=(.two .leaf (.two .leaf (.two (.two .leaf (.two (.loop ⟨[(2,.same (.ptr iX 4098 [])),(3,.same (.ptr iX 4099 [])),(4,.same (.ptr aD 4100 [])),(5,.same (.ptr aD 8197 [])),(8,.dv (Ty.int .i64))],[(4098,.keep iX 2),(4099,.keep iX 3),(4100,.keep aD 4),(8197,.one aD (.dv aD))],[]⟩ [(.exit 0,⟨[(4,.same (.ptr aD 4100 [])),(5,.same (.ptr aD 8197 []))],[(4100,.keep aD 4),(8197,.one aD (.dv aD))],[]⟩)] (.two .leaf (.two .leaf (.two (.two (.two .leaf (.reg [] 9)) .leaf) .leaf)))) .leaf)) .leaf)))
noncomputable def EA(lp:Lp)(call:Nat->List D->Option D)(a0:D)(a1:D):Option D:=
(call 54 [(D.int .i64 0)]).bind fun r1=>
(lp (β:=Nat×List D) (fun(v2:List D)=>
(D.bin .lss (gx v2 0) (D.int .i64 3)).bind fun x3=>
(D.truth x3).bind fun b4=>
 if b4 then((D.idx (gx v2 0) 3).bind fun i5=>
(D.get a0 [i5]).bind fun x6=>
(D.idx (gx v2 0) 3).bind fun i7=>
(D.get a1 [i7]).bind fun x8=>
(call 61 [x6,x8]).bind fun r9=>
(call 57 [(gx v2 1),r9]).bind fun r10=>
(D.bin .add (gx v2 0) (D.int .i64 1)).bind fun x11=>
 some (Sum.inl [x11,r10])) else(some (Sum.inr (0,[(gx v2 1)])))) [(D.int .i64 0),r1]).bind fun r12=>
 some (gx r12.2 0)
theorem Lz{lp}(hlp:au lp):ae 147 (m2 (EA lp)):=aV (fn:=Tryz.f147) (ann:=Jz) hlp (by kernel_rfl) (by kernel_rfl) (fun call a0 a1=>by kernel_rfl)
def Mn:Ann:=(.two .leaf (.two (.two .leaf (.two (.loop ⟨[(2,.same (.ptr iX 4098 [])),(6,.dv (Ty.int .i64))],[(4098,.one iX (.dv iX))],[5]⟩ [(.exit 0,⟨[(2,.same (.ptr iX 4098 []))],[(4098,.one iX (.dv iX))],[]⟩)] .leaf) .leaf)) .leaf))
noncomputable def ED(lp:Lp)(call:Nat->List D->Option D)(a0:D):Option D:=
(lp (β:=Nat×List D) (fun(v1:List D)=>
(D.bin .lss (gx v1 0) (D.int .i64 3)).bind fun x2=>
(D.truth x2).bind fun b3=>
 if b3 then((D.idx (gx v1 0) 3).bind fun i4=>
(D.fld a0 i4).bind fun x5=>
(call 54 [x5]).bind fun r6=>
(D.idx (gx v1 0) 3).bind fun i7=>
(D.set (gx v1 1) [i7] r6).bind fun x8=>
(D.bin .add (gx v1 0) (D.int .i64 1)).bind fun x9=>
 some (Sum.inl [x9,x8])) else(some (Sum.inr (0,[(gx v1 1)])))) [(D.int .i64 0),(D.st [(D.st [(D.bool false),(D.bool false),(aB aU)]),(D.st [(D.bool false),(D.bool false),(aB aU)]),(D.st [(D.bool false),(D.bool false),(aB aU)])])]).bind fun r10=>
 some (gx r10.2 0)
theorem KS{lp}(hlp:au lp):ae 148 (m1 (ED lp)):=bz (fn:=Tryz.f148) (ann:=Mn) hlp (by kernel_rfl) (by kernel_rfl) (fun call a0=>by kernel_rfl)
def JQ:Ann:=(.two .leaf (.two (.two (.loop ⟨[(0,.dv (Ty.int .i64)),(1,.dv (Ty.int .i64))],[],[]⟩ [(.exit 0,⟨[(0,.dv (Ty.int .i64))],[],[]⟩)] (.two .leaf (.two (.reg [] 5) .leaf))) .leaf) .leaf))
noncomputable def Ed(lp:Lp)(call:Nat->List D->Option D)(a0:D)(a1:D):Option D:=
(lp (β:=Nat×List D) (fun(v1:List D)=>
(D.truth (D.bool (!(D.beq (gx v1 1) (D.int .i64 0))))).bind fun b2=>
 if b2 then((D.bin .rem (gx v1 0) (gx v1 1)).bind fun x3=>
 some (Sum.inl [(gx v1 1),x3])) else(some (Sum.inr (0,[(gx v1 0)])))) [a0,a1]).bind fun r4=>
(D.un .neg (gx r4.2 0)).bind fun x5=>
(D.max2 (gx r4.2 0) x5).bind fun x6=>
 some x6
theorem Kl{lp}(hlp:au lp):ae 152 (m2 (Ed lp)):=aV (fn:=Tryz.f152) (ann:=JQ) hlp (by kernel_rfl) (by kernel_rfl) (fun call a0 a1=>by kernel_rfl)
def Km:Ann:=(.two .leaf (.two (.two .leaf (.two (.loop ⟨[(2,.same (.ptr K1 4098 [])),(3,.same (.ptr K1 4099 [])),(4,.same (.ptr K1 4100 [])),(6,.dv (Ty.int .i64))],[(4098,.one K1 (.dv K1)),(4099,.keep K1 3),(4100,.keep K1 4)],[]⟩ [(.exit 0,⟨[(2,.same (.ptr K1 4098 [])),(4,.same (.ptr K1 4100 []))],[(4098,.one K1 (.dv K1)),(4100,.keep K1 4)],[]⟩)] (.two .leaf (.two .leaf (.two (.two (.two .leaf (.reg [] 8)) .leaf) .leaf)))) .leaf)) .leaf))
noncomputable def ES(lp:Lp)(call:Nat->List D->Option D)(a0:D)(a1:D):Option D:=
(lp (β:=Nat×List D) (fun(v1:List D)=>
(D.bin .lss (gx v1 0) (D.int .i64 3)).bind fun x2=>
(D.truth x2).bind fun b3=>
 if b3 then((D.idx (gx v1 0) 3).bind fun i4=>
(D.get (gx v1 1) [i4]).bind fun x5=>
(D.idx (gx v1 0) 3).bind fun i6=>
(D.get a1 [i6]).bind fun x7=>
(D.bin .add x5 x7).bind fun x8=>
(D.idx (gx v1 0) 3).bind fun i9=>
(D.set (gx v1 1) [i9] x8).bind fun x10=>
(D.bin .add (gx v1 0) (D.int .i64 1)).bind fun x11=>
 some (Sum.inl [x11,x10])) else(some (Sum.inr (0,[(gx v1 1)])))) [(D.int .i64 0),a0]).bind fun r12=>
 some (gx r12.2 0)
theorem Ku{lp}(hlp:au lp):ae 154 (m2 (ES lp)):=aV (fn:=Tryz.f154) (ann:=Km) hlp (by kernel_rfl) (by kernel_rfl) (fun call a0 a1=>by kernel_rfl)
def JT:Ann:=(.two .leaf (.two .leaf (.two (.two .leaf (.two (.loop ⟨[(1,.same (.ptr iX 4097 [])),(2,.same (.ptr dt 4098 [])),(3,.same (.ptr aD 8195 [])),(4,.dv (Ty.int .i64))],[(4097,.keep iX 1),(4098,.keep dt 2),(8195,.one aD (.dv aD))],[]⟩ [(.exit 0,⟨[(1,.same (.ptr iX 4097 [])),(2,.same (.ptr dt 4098 [])),(3,.same (.ptr aD 8195 []))],[(4097,.keep iX 1),(4098,.keep dt 2),(8195,.one aD (.dv aD))],[]⟩)] (.two .leaf (.two (.two (.reg [] 5) .leaf) .leaf))) .leaf)) (.two .leaf (.two .leaf (.two .leaf (.two (.two .leaf (.two (.loop ⟨[(1,.same (.ptr iX 4097 [])),(2,.same (.ptr dt 4098 [])),(3,.same (.ptr aD 8195 [])),(5,.same (.ptr dt 28677 [])),(6,.dv (Ty.int .i64))],[(4097,.keep iX 1),(4098,.one dt (.dv dt)),(8195,.keep aD 3),(28677,.one dt (.dv dt))],[]⟩ [(.ret,⟨[(2,.same (.ptr dt 4098 []))],[(4098,.one dt (.dv dt))],[]⟩),(.exit 2,⟨[(2,.same (.ptr dt 4098 [])),(5,.same (.ptr dt 28677 []))],[(4098,.one dt (.dv dt)),(28677,.one dt (.dv dt))],[]⟩)] (.two .leaf (.two (.two (.two (.reg [] 10) .leaf) .leaf) .leaf))) .leaf)) .leaf)))))))
noncomputable def DY(lp:Lp)(call:Nat->List D->Option D)(a0:D):Option D:=
(call 34 [(D.int .i64 0)]).bind fun r1=>
(lp (β:=Nat×List D) (fun(v2:List D)=>
(D.bin .lss (gx v2 0) (D.int .i64 3)).bind fun x3=>
(D.truth x3).bind fun b4=>
 if b4 then((D.idx (gx v2 0) 3).bind fun i5=>
(D.get a0 [i5]).bind fun x6=>
(call 85 [(gx v2 1),x6]).bind fun r7=>
(D.bin .add (gx v2 0) (D.int .i64 1)).bind fun x8=>
 some (Sum.inl [x8,r7])) else(some (Sum.inr (0,[(gx v2 1)])))) [(D.int .i64 0),r1]).bind fun r9=>
(D.get (gx r9.2 0) [0]).bind fun x10=>
(D.truth x10).bind fun b11=>
 if b11 then(some (D.st [(D.st [(D.int .i64 0),(D.int .i64 0),(D.int .i64 0)]),(D.int .i64 30)])) else((call 83 [(gx r9.2 0)]).bind fun r12=>
(D.truth (D.bool (D.beq r12 (D.int .i64 0)))).bind fun b13=>
 if b13 then(some (D.st [(D.st [(D.int .i64 0),(D.int .i64 0),(D.int .i64 0)]),(D.int .i64 31)])) else((lp (β:=Nat×List D) (fun(v14:List D)=>
(D.bin .lss (gx v14 0) (D.int .i64 3)).bind fun x15=>
(D.truth x15).bind fun b16=>
 if b16 then((D.idx (gx v14 0) 3).bind fun i17=>
(D.get a0 [i17]).bind fun x18=>
(call 87 [x18,(gx r9.2 0)]).bind fun r19=>
(call 186 [r19]).bind fun r20=>
(D.tupAt r20 0).bind fun x21=>
(D.tupAt r20 1).bind fun x22=>
(D.un .not x22).bind fun x23=>
(D.truth x23).bind fun b24=>
 if b24 then(some (Sum.inr (0,[(D.st [(D.st [(D.int .i64 0),(D.int .i64 0),(D.int .i64 0)]),(D.int .i64 30)])]))) else((D.idx (gx v14 0) 3).bind fun i25=>
(D.set (gx v14 2) [0,i25] x21).bind fun x26=>
(D.bin .add (gx v14 0) (D.int .i64 1)).bind fun x27=>
 some (Sum.inl [x27,(gx v14 1),x26]))) else(some (Sum.inr (1,[(gx v14 1),(gx v14 2)])))) [(D.int .i64 0),(D.st [(D.st [(D.int .i64 0),(D.int .i64 0),(D.int .i64 0)]),(D.int .i64 0)]),(D.st [(D.st [(D.int .i64 0),(D.int .i64 0),(D.int .i64 0)]),(D.int .i64 0)])]).bind fun r28=>
 if r28.1=0 then(some (gx r28.2 0)) else((D.get (gx r28.2 1) [0]).bind fun x29=>
(call 187 [x29]).bind fun r30=>
(D.un .not r30).bind fun x31=>
(D.truth x31).bind fun b32=>
 if b32 then(some (D.st [(D.st [(D.int .i64 0),(D.int .i64 0),(D.int .i64 0)]),(D.int .i64 30)])) else(some (gx r28.2 1)))))
theorem LP{lp}(hlp:au lp):ae 155 (m1 (DY lp)):=bz (fn:=Tryz.f155) (ann:=JT) hlp (by kernel_rfl) (by kernel_rfl) (fun call a0=>by kernel_rfl)
def Kz:Ann:=(.two .leaf (.two .leaf (.two (.two .leaf (.two (.loop ⟨[(6,.same (.ptr K1 4102 [])),(8,.same (.ptr K1 4104 [])),(11,.same (.ptr K1 8203 [])),(12,.dv (Ty.int .i64))],[(4102,.keep K1 6),(4104,.keep K1 8),(8203,.keep K1 11)],[0,2]⟩ [(.ret,⟨[(10,.dv Ty.bool)],[],[]⟩),(.exit 0,⟨[],[],[]⟩)] (.two .leaf (.cut [(.normal,⟨[(6,.same (.ptr K1 4102 [])),(8,.same (.ptr K1 4104 [])),(11,.same (.ptr K1 8203 []))],[(4102,.keep K1 6),(4104,.keep K1 8),(8203,.keep K1 11)],[0,2,12]⟩),(.ret,⟨[(10,.dv Ty.bool)],[],[]⟩)] [0,2,12] [4102,4104,8203] (.two (.two (.two (.reg [] 7) .leaf) (.two (.reg [] 7) (.two (.reg [] 5) .leaf))) .leaf) .leaf))) .leaf)) .leaf)))
noncomputable def DW(lp:Lp)(call:Nat->List D->Option D)(a0:D)(a1:D)(a2:D)(a3:D)(a4:D):Option D:=
(call 112 [a4,a3]).bind fun r1=>
(lp (β:=Nat×List D) (fun(v2:List D)=>
(D.asSl a0).bind fun l3=>
(D.bin .lss (gx v2 0) (D.int .i64 (l3.length))).bind fun x4=>
(D.truth x4).bind fun b5=>
 if b5 then(((D.asSl a0).bind fun l6=>
(D.idx (gx v2 0) (l6.length)).bind fun i7=>
(l6[i7]?).bind fun x8=>
(call 107 [a1,x8]).bind fun r9=>
(D.truth (D.bool (!(D.beq r9 a2)))).bind fun b10=>
 if b10 then(some (0,[])) else((D.asSl a0).bind fun l11=>
(D.idx (gx v2 0) (l11.length)).bind fun my=>
(l11[my]?).bind fun x13=>
(call 112 [x13,a3]).bind fun r14=>
(call 123 [r1,r14]).bind fun r15=>
(call 188 [a1,r15]).bind fun r16=>
(D.bin .lss r16 (D.int .i64 0)).bind fun x17=>
(D.truth x17).bind fun b18=>
(if b18 then(some true) else((D.truth (D.bool (D.beq r16 (D.int .i64 0)))).bind fun b19=>
 if b19 then((call 107 [r14,r1]).bind fun r20=>
(D.bin .lss r20 (D.int .i64 0)).bind fun x21=>
(D.truth x21).bind fun b22=>
 if b22 then(some true) else((call 107 [r14,r1]).bind fun r23=>
(call 107 [r1,r1]).bind fun r24=>
(D.bin .gtr r23 r24).bind fun x25=>
 D.truth x25)) else(some false))).bind fun b26=>
(D.truth (D.bool b26)).bind fun b27=>
 if b27 then(some (1,[(D.bool false)])) else(some (0,[])))).bind fun(r28:Nat×List D)=>
 if r28.1=0 then((D.bin .add (gx v2 0) (D.int .i64 1)).bind fun x29=>
 some (Sum.inl [x29])) else(some (Sum.inr (0,[(gx r28.2 0)])))) else(some (Sum.inr (1,[])))) [(D.int .i64 0)]).bind fun r30=>
 if r30.1=0 then(some (gx r30.2 0)) else(some (D.bool true))
theorem Kt{lp}(hlp:au lp):ae 156 (m5 (DW lp)):=HI (fn:=Tryz.f156) (ann:=Kz) hlp (by kernel_rfl) (by kernel_rfl) (fun call a0 a1 a2 a3 a4=>by kernel_rfl)
end Go.Proofs.YtjjjkojfijpeeaaGreat.Sy
end
