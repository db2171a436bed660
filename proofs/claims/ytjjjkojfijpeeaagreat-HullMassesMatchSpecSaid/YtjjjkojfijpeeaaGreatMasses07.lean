/- Part 7 of the proof that HullMassesMatchSpec answers true at every input -/
import Derived.Test.YtjjjkojfijpeeaaGreatMasses05
set_option linter.unusedVariables false
set_option linter.unusedSimpArgs false
set_option linter.unnecessarySimpa false
section
set_option maxRecDepth 20000
set_option maxHeartbeats 0
set_option linter.unusedVariables false
namespace Go.Proofs.YtjjjkojfijpeeaaGreat.Sy
open Go Go.Proofs
def QL:Ann:=(.two .leaf (.two (.reg [] 13) .leaf))
noncomputable def IS(lp:Lp)(call:Nat->List D->Option D)(a0:D)(a1:D):Option D:=
(D.get a1 [0]).bind fun x1=>
(call 38 [a0,x1]).bind fun r2=>
(D.get a1 [1]).bind fun x3=>
(call 38 [a0,x3]).bind fun r4=>
(D.get a1 [2]).bind fun x5=>
(call 38 [a0,x5]).bind fun r6=>
 some (D.st [r2,r4,r6])
theorem O0{lp}(hlp:ap lp):ac 66 (m2 (IS lp)):=aV (fn:=Tryz.f66) (ann:=QL) hlp (by kernel_rfl) (by kernel_rfl) (fun call a0 a1=>by kernel_rfl)
noncomputable def Il(lp:Lp)(call:Nat->List D->Option D)(a0:D):Option D:=
(call 118 [(D.sl [a0])]).bind fun r1=>
(D.un .not r1).bind fun x2=>
(D.truth x2).bind fun b3=>
 if b3 then((call 119 []).bind fun r4=>
 some r4) else((D.get a0 [1]).bind fun x5=>
(D.un .not x5).bind fun x6=>
(D.get a0 [2]).bind fun x7=>
(call 116 [x6,x7]).bind fun r8=>
 some r8)
theorem QH{lp}(hlp:ap lp):ac 68 (m1 (Il lp)):=bj (fn:=Tryz.f68) (ann:=.leaf) hlp (by kernel_rfl) (by kernel_rfl) (fun call a0=>by kernel_rfl)
def Pc:Ann:=(.two .leaf (.two .leaf (.two (.two .leaf (.two (.loop ⟨[(6,.same (.ptr bV 4102 [])),(7,.same (.ptr aA 8199 [])),(8,.dv (Ty.int .i64))],[(4102,.keep bV 6),(8199,.one aA (.dv aA))],[0,1,2]⟩ [(.exit 0,⟨[(6,.same (.ptr bV 4102 [])),(7,.same (.ptr aA 8199 []))],[(4102,.keep bV 6),(8199,.one aA (.dv aA))],[]⟩)] (.two .leaf (.two (.two (.two .leaf (.two (.reg [] 29) (.two (.reg [] 31) (.reg [] 10)))) .leaf) .leaf))) .leaf)) (.two (.reg [] 3) .leaf))))
noncomputable def IZ(lp:Lp)(call:Nat->List D->Option D)(a0:D)(a1:D)(a2:D):Option D:=
(call 34 [(D.int .i64 0)]).bind fun r1=>
(lp (β:=Nat×List D) (fun(v2:List D)=>
(D.asSl a0).bind fun l3=>
(D.bin .lss (gx v2 0) (D.int .i64 (l3.length))).bind fun x4=>
(D.truth x4).bind fun b5=>
 if b5 then((D.asSl a0).bind fun l6=>
(D.idx (gx v2 0) (l6.length)).bind fun i7=>
(l6[i7]?).bind fun x8=>
(D.fld x8 0).bind fun x9=>
(D.idx a1 3).bind fun i10=>
(D.get x9 [0,i10]).bind fun x11=>
(D.idx a1 3).bind fun lZ=>
(D.get x9 [1,lZ]).bind fun x13=>
(D.bin .add x11 x13).bind fun x14=>
(D.idx a1 3).bind fun i15=>
(D.get x9 [2,i15]).bind fun x16=>
(D.bin .add x14 x16).bind fun x17=>
(D.idx a2 3).bind fun i18=>
(D.get x9 [0,i18]).bind fun x19=>
(D.idx a2 3).bind fun i20=>
(D.get x9 [1,i20]).bind fun x21=>
(D.bin .add x19 x21).bind fun x22=>
(D.idx a2 3).bind fun AM=>
(D.get x9 [2,AM]).bind fun x24=>
(D.bin .add x22 x24).bind fun x25=>
(D.bin .mul x17 x25).bind fun x26=>
(D.idx a1 3).bind fun i27=>
(D.get x9 [0,i27]).bind fun x28=>
(D.idx a2 3).bind fun i29=>
(D.get x9 [0,i29]).bind fun x30=>
(D.bin .mul x28 x30).bind fun x31=>
(D.bin .add x26 x31).bind fun x32=>
(D.idx a1 3).bind fun i33=>
(D.get x9 [1,i33]).bind fun x34=>
(D.idx a2 3).bind fun i35=>
(D.get x9 [1,i35]).bind fun x36=>
(D.bin .mul x34 x36).bind fun x37=>
(D.bin .add x32 x37).bind fun x38=>
(D.idx a1 3).bind fun i39=>
(D.get x9 [2,i39]).bind fun x40=>
(D.idx a2 3).bind fun i41=>
(D.get x9 [2,i41]).bind fun x42=>
(D.bin .mul x40 x42).bind fun x43=>
(D.bin .add x38 x43).bind fun x44=>
(D.asSl a0).bind fun l45=>
(D.idx (gx v2 0) (l45.length)).bind fun i46=>
(l45[i46]?).bind fun x47=>
(D.fld x47 1).bind fun x48=>
(call 34 [x44]).bind fun r49=>
(call 89 [x48,r49]).bind fun r50=>
(call 59 [(gx v2 1),r50]).bind fun r51=>
(D.bin .add (gx v2 0) (D.int .i64 1)).bind fun x52=>
 some (Sum.inl [x52,r51])) else(some (Sum.inr (0,[(gx v2 1)])))) [(D.int .i64 0),r1]).bind fun r53=>
(call 34 [(D.int .i64 120)]).bind fun r54=>
(call 37 [(gx r53.2 0),r54]).bind fun r55=>
 some r55
theorem O8{lp}(hlp:ap lp):ac 69 (m3 (IZ lp)):=sC (fn:=Tryz.f69) (ann:=Pc) hlp (by kernel_rfl) (by kernel_rfl) (fun call a0 a1 a2=>by kernel_rfl)
def N0:Ann:=(.two .leaf (.two .leaf (.two (.reg [] 6) .leaf)))
noncomputable def H4(lp:Lp)(call:Nat->List D->Option D)(a0:D):Option D:=
(call 88 [a0]).bind fun r1=>
(D.un .not r1).bind fun x2=>
(D.truth x2).bind fun b3=>
 if b3 then((call 84 []).bind fun r4=>
 some r4) else((D.get a0 [0]).bind fun x5=>
(call 86 [x5]).bind fun r6=>
(D.get a0 [1]).bind fun x7=>
 some (D.st [r6,x7]))
theorem PF{lp}(hlp:ap lp):ac 70 (m1 (H4 lp)):=bj (fn:=Tryz.f70) (ann:=N0) hlp (by kernel_rfl) (by kernel_rfl) (fun call a0=>by kernel_rfl)
theorem PY{lp}(hlp:ap lp):ac 71 (fJ lp 71 Tryz.f71 .leaf):=cS hlp (by kernel_rfl) (by kernel_rfl)
def M6:Ann:=(.two .leaf (.two (.reg [] 4) .leaf))
theorem NP{lp}(hlp:ap lp):ac 72 (fJ lp 72 Tryz.f72 M6):=cS hlp (by kernel_rfl) (by kernel_rfl)
def MU:Ann:=(.two .leaf (.two (.reg [] 5) (.two .leaf (.two .leaf (.two .leaf (.two (.two (.loop ⟨[(2,.same (.ptr bV 4098 [])),(3,.same (.ptr bV 4099 [])),(7,.dv (Ty.int .i64))],[(4098,.one bV (.dv bV)),(4099,.one bV (.dv bV))],[]⟩ [(.exit 1,⟨[(7,.dv (Ty.int .i64))],[],[]⟩)] (.two (.two (.two (.reg [] 11) .leaf) (.two (.reg [] 16) (.two (.reg [] 7) .leaf))) .leaf)) .leaf) .leaf))))))
theorem OC{lp}(hlp:ap lp):ac 73 (fJ lp 73 Tryz.f73 MU):=cS hlp (by kernel_rfl) (by kernel_rfl)
theorem OK{lp}(hlp:ap lp):ac 74 (fJ lp 74 Tryz.f74 .leaf):=cS hlp (by kernel_rfl) (by kernel_rfl)
noncomputable def Iv(lp:Lp)(call:Nat->List D->Option D)(a0:D):Option D:=
(call 34 [a0]).bind fun r1=>
(call 133 []).bind fun r2=>
(call 37 [r1,r2]).bind fun r3=>
 some r3
theorem Pe{lp}(hlp:ap lp):ac 75 (m1 (Iv lp)):=bj (fn:=Tryz.f75) (ann:=.leaf) hlp (by kernel_rfl) (by kernel_rfl) (fun call a0=>by kernel_rfl)
noncomputable def II(lp:Lp)(call:Nat->List D->Option D)(a0:D):Option D:=
(call 139 [a0]).bind fun r1=>
(D.truth r1).bind fun b2=>
(if b2 then((D.get a0 [0]).bind fun x3=>
(D.un .not x3).bind fun x4=>
 D.truth x4) else(some false)).bind fun b5=>
 some (D.bool b5)
theorem NO{lp}(hlp:ap lp):ac 76 (m1 (II lp)):=bj (fn:=Tryz.f76) (ann:=.leaf) hlp (by kernel_rfl) (by kernel_rfl) (fun call a0=>by kernel_rfl)
def Qw:Ann:=(.two .leaf (.two .leaf (.two (.two .leaf (.two (.loop ⟨[(1,.same (.ptr aA 4097 [])),(3,.ow (Ty.int .i64)),(4,.dv (Ty.int .i64))],[(4097,.keep aA 1)],[]⟩ [(.exit 0,⟨[(3,.ow (Ty.int .i64))],[],[]⟩)] (.two .leaf (.two (.two (.reg [] 14) .leaf) .leaf))) .leaf)) .leaf)))
noncomputable def Ig(lp:Lp)(call:Nat->List D->Option D)(a0:D):Option D:=
(lp (β:=Nat×List D) (fun(v1:List D)=>
(D.bin .lss (gx v1 1) (D.int .i64 16)).bind fun x2=>
(D.truth x2).bind fun b3=>
 if b3 then((D.idx (gx v1 1) 16).bind fun i4=>
(D.get a0 [2,i4]).bind fun x5=>
(D.bin .rem x5 (D.int .u32 65536)).bind fun x6=>
(D.conv .i64 x6).bind fun x7=>
(D.idx (gx v1 1) 16).bind fun i8=>
(D.get a0 [2,i8]).bind fun x9=>
(D.bin .quo x9 (D.int .u32 65536)).bind fun x10=>
(D.conv .i64 x10).bind fun x11=>
 if List.length ((gx v1 0).els)+List.length [x7,x11]<=1073741824 then((D.bin .add (gx v1 1) (D.int .i64 1)).bind fun x12=>
 some (Sum.inl [(D.sl (((gx v1 0).els)++[x7,x11])),x12])) else none) else(some (Sum.inr (0,[(D.sl ((gx v1 0).els))])))) [(D.sl []),(D.int .i64 0)]).bind fun r13=>
(call 140 [(D.sl ((gx r13.2 0).els))]).bind fun r14=>
 some r14
theorem P9{lp}(hlp:ap lp):ac 77 (m1 (Ig lp)):=bj (fn:=Tryz.f77) (ann:=Qw) hlp (by kernel_rfl) (by kernel_rfl) (fun call a0=>by kernel_rfl)
def Oa:Ann:=(.two .leaf (.two (.two .leaf (.two (.loop ⟨[(5,.dv (Ty.int .i64))],[],[0,1]⟩ [(.ret,⟨[(4,.dv Ty.bool)],[],[]⟩),(.exit 0,⟨[],[],[]⟩)] .leaf) .leaf)) .leaf))
noncomputable def I0(lp:Lp)(call:Nat->List D->Option D)(a0:D)(a1:D):Option D:=
(D.asSl a0).bind fun l1=>
(D.asSl a1).bind fun l2=>
(D.max2 (D.int .i64 (l1.length)) (D.int .i64 (l2.length))).bind fun x3=>
(D.bin .sub x3 (D.int .i64 1)).bind fun x4=>
(lp (β:=Nat×List D) (fun(v5:List D)=>
(D.bin .geq (gx v5 0) (D.int .i64 0)).bind fun x6=>
(D.truth x6).bind fun b7=>
 if b7 then((call 141 [a0,(gx v5 0)]).bind fun r8=>
(call 141 [a1,(gx v5 0)]).bind fun r9=>
(D.truth (D.bool (!(D.beq r8 r9)))).bind fun b10=>
 if b10 then((call 141 [a0,(gx v5 0)]).bind fun r11=>
(call 141 [a1,(gx v5 0)]).bind fun r12=>
(D.bin .lss r11 r12).bind fun x13=>
 some (Sum.inr (0,[x13]))) else((D.bin .sub (gx v5 0) (D.int .i64 1)).bind fun x14=>
 some (Sum.inl [x14]))) else(some (Sum.inr (1,[])))) [x4]).bind fun r15=>
 if r15.1=0 then(some (gx r15.2 0)) else(some (D.bool false))
theorem NY{lp}(hlp:ap lp):ac 78 (m2 (I0 lp)):=aV (fn:=Tryz.f78) (ann:=Oa) hlp (by kernel_rfl) (by kernel_rfl) (fun call a0 a1=>by kernel_rfl)
def PK:Ann:=(.two .leaf (.two .leaf (.two (.reg [] 7) (.two (.reg [] 7) .leaf))))
noncomputable def Io(lp:Lp)(call:Nat->List D->Option D)(a0:D)(a1:D):Option D:=
(D.get a0 [0]).bind fun x1=>
(D.get a1 [0]).bind fun x2=>
(call 89 [x1,x2]).bind fun r3=>
(D.get a0 [1]).bind fun x4=>
(D.get a1 [1]).bind fun x5=>
(call 89 [x4,x5]).bind fun r6=>
(call 59 [r3,r6]).bind fun r7=>
(D.get a0 [2]).bind fun x8=>
(D.get a1 [2]).bind fun x9=>
(call 89 [x8,x9]).bind fun r10=>
(call 59 [r7,r10]).bind fun r11=>
 some r11
theorem Qc{lp}(hlp:ap lp):ac 79 (m2 (Io lp)):=aV (fn:=Tryz.f79) (ann:=PK) hlp (by kernel_rfl) (by kernel_rfl) (fun call a0 a1=>by kernel_rfl)
def Qe:Ann:=(.two .leaf (.two (.reg [] 10) .leaf))
noncomputable def Id(lp:Lp)(call:Nat->List D->Option D)(a0:D):Option D:=
(D.get a0 [0]).bind fun x1=>
(call 34 [x1]).bind fun r2=>
(D.get a0 [1]).bind fun x3=>
(call 34 [x3]).bind fun r4=>
(D.get a0 [2]).bind fun x5=>
(call 34 [x5]).bind fun r6=>
 some (D.st [r2,r4,r6])
theorem OY{lp}(hlp:ap lp):ac 80 (m1 (Id lp)):=bj (fn:=Tryz.f80) (ann:=Qe) hlp (by kernel_rfl) (by kernel_rfl) (fun call a0=>by kernel_rfl)
def Oc:Ann:=(.two .leaf (.two .leaf (.two .leaf (.two .leaf (.two (.two .leaf (.two (.loop ⟨[(4,.same (.ptr aA 4100 [])),(6,.same (.ptr aA 16390 [])),(7,.dv (Ty.int .i64))],[(4100,.keep aA 4),(16390,.one aA (.dv aA))],[5]⟩ [(.exit 0,⟨[(4,.same (.ptr aA 4100 [])),(6,.same (.ptr aA 16390 []))],[(4100,.keep aA 4),(16390,.one aA (.dv aA))],[]⟩)] (.two .leaf (.cut [(.normal,⟨[(4,.same (.ptr aA 4100 [])),(6,.same (.ptr aA 16390 []))],[(4100,.keep aA 4),(16390,.one aA (.dv aA))],[5,7]⟩)] [5,7] [4100] (.two (.two .leaf (.two (.reg [] 15) (.reg [] 16))) .leaf) .leaf))) .leaf)) .leaf)))))
noncomputable def G0(lp:Lp)(call:Nat->List D->Option D)(a0:D)(a1:D):Option D:=
(call 140 [a1]).bind fun r1=>
(D.asSl r1).bind fun l2=>
(D.bin .gtr (D.int .i64 (l2.length)) (D.int .i64 32)).bind fun x3=>
(D.truth x3).bind fun b4=>
 if b4 then((call 125 []).bind fun r5=>
 some r5) else((D.truth a0).bind fun b6=>
(if b6 then((D.asSl r1).bind fun l7=>
(D.bin .gtr (D.int .i64 (l7.length)) (D.int .i64 0)).bind fun x8=>
 D.truth x8) else(some false)).bind fun b9=>
(lp (β:=Nat×List D) (fun(v10:List D)=>
(D.asSl r1).bind fun l11=>
(D.bin .lss (gx v10 0) (D.int .i64 (l11.length))).bind fun x12=>
(D.truth x12).bind fun b13=>
 if b13 then(((D.bin .rem (gx v10 0) (D.int .i64 2)).bind fun x14=>
(D.truth (D.bool (D.beq x14 (D.int .i64 0)))).bind fun b15=>
 if b15 then((D.bin .quo (gx v10 0) (D.int .i64 2)).bind fun x16=>
(D.bin .quo (gx v10 0) (D.int .i64 2)).bind fun x17=>
(D.idx x17 16).bind fun i18=>
(D.get (gx v10 1) [2,i18]).bind fun x19=>
(D.asSl r1).bind fun l20=>
(D.idx (gx v10 0) (l20.length)).bind fun i21=>
(l20[i21]?).bind fun x22=>
(D.conv .u32 x22).bind fun x23=>
(D.bin .add x19 x23).bind fun x24=>
(D.idx x16 16).bind fun i25=>
(D.set (gx v10 1) [2,i25] x24).bind fun x26=>
 some (0,[x26])) else((D.bin .quo (gx v10 0) (D.int .i64 2)).bind fun x27=>
(D.bin .quo (gx v10 0) (D.int .i64 2)).bind fun x28=>
(D.idx x28 16).bind fun i29=>
(D.get (gx v10 1) [2,i29]).bind fun x30=>
(D.asSl r1).bind fun l31=>
(D.idx (gx v10 0) (l31.length)).bind fun i32=>
(l31[i32]?).bind fun x33=>
(D.conv .u32 x33).bind fun x34=>
(D.bin .mul x34 (D.int .u32 65536)).bind fun x35=>
(D.bin .add x30 x35).bind fun x36=>
(D.idx x27 16).bind fun i37=>
(D.set (gx v10 1) [2,i37] x36).bind fun x38=>
 some (0,[x38]))).bind fun(r39:Nat×List D)=>
(D.bin .add (gx v10 0) (D.int .i64 1)).bind fun x40=>
 some (Sum.inl [x40,(gx r39.2 0)])) else(some (Sum.inr (0,[(gx v10 1)])))) [(D.int .i64 0),(D.st [(D.bool false),(D.bool b9),(az aU)])]).bind fun r41=>
 some (gx r41.2 0))
theorem Ov{lp}(hlp:ap lp):ac 81 (m2 (G0 lp)):=aV (fn:=Tryz.f81) (ann:=Oc) hlp (by kernel_rfl) (by kernel_rfl) (fun call a0 a1=>by kernel_rfl)
def PS:Ann:=(.two .leaf (.two .leaf (.two .leaf (.two (.two .leaf (.two (.loop ⟨[(5,.ow (Ty.int .i64)),(6,.dv (Ty.int .i64)),(7,.dv (Ty.int .i64))],[],[0,1]⟩ [(.exit 0,⟨[(5,.ow (Ty.int .i64))],[],[]⟩)] .leaf) .leaf)) .leaf))))
noncomputable def Ii(lp:Lp)(call:Nat->List D->Option D)(a0:D)(a1:D):Option D:=
(lp (β:=Nat×List D) (fun(v1:List D)=>
(D.asSl a0).bind fun l2=>
(D.asSl a1).bind fun l3=>
(D.max2 (D.int .i64 (l2.length)) (D.int .i64 (l3.length))).bind fun x4=>
(D.bin .add x4 (D.int .i64 1)).bind fun x5=>
(D.bin .lss (gx v1 2) x5).bind fun x6=>
(D.truth x6).bind fun b7=>
 if b7 then((call 141 [a0,(gx v1 2)]).bind fun r8=>
(call 141 [a1,(gx v1 2)]).bind fun r9=>
(D.bin .add r8 r9).bind fun x10=>
(D.bin .add x10 (gx v1 1)).bind fun x11=>
(D.bin .rem x11 (D.int .i64 65536)).bind fun x12=>
 if List.length ((gx v1 0).els)+List.length [x12]<=1073741824 then((D.bin .quo x11 (D.int .i64 65536)).bind fun x13=>
(D.bin .add (gx v1 2) (D.int .i64 1)).bind fun x14=>
 some (Sum.inl [(D.sl (((gx v1 0).els)++[x12])),x13,x14])) else none) else(some (Sum.inr (0,[(D.sl ((gx v1 0).els))])))) [(D.sl []),(D.int .i64 0),(D.int .i64 0)]).bind fun r15=>
(call 140 [(D.sl ((gx r15.2 0).els))]).bind fun r16=>
 some r16
theorem OH{lp}(hlp:ap lp):ac 82 (m2 (Ii lp)):=aV (fn:=Tryz.f82) (ann:=PS) hlp (by kernel_rfl) (by kernel_rfl) (fun call a0 a1=>by kernel_rfl)
noncomputable def IP(lp:Lp)(call:Nat->List D->Option D)(a0:D):Option D:=
(call 76 [a0]).bind fun r1=>
(D.un .not r1).bind fun x2=>
(D.truth x2).bind fun b3=>
(if b3 then(some true) else((call 77 [a0]).bind fun r4=>
(D.asSl r4).bind fun l5=>
 D.truth (D.bool (D.beq (D.int .i64 (l5.length)) (D.int .i64 0))))).bind fun b6=>
(D.truth (D.bool b6)).bind fun b7=>
 if b7 then(some (D.int .i64 0)) else((D.get a0 [1]).bind fun x8=>
(D.truth x8).bind fun b9=>
 if b9 then(some (D.int .i64 (-1))) else(some (D.int .i64 1)))
theorem P3{lp}(hlp:ap lp):ac 83 (m1 (IP lp)):=bj (fn:=Tryz.f83) (ann:=.leaf) hlp (by kernel_rfl) (by kernel_rfl) (fun call a0=>by kernel_rfl)
theorem Py{lp}(hlp:ap lp):ac 84 (fJ lp 84 Tryz.f84 .leaf):=cS hlp (by kernel_rfl) (by kernel_rfl)
def Qg:Ann:=(.two .leaf (.two .leaf (.two .leaf (.two (.two .leaf (.two (.two (.two (.loop ⟨[(4,.same (.ptr aA 4100 [])),(5,.dv (Ty.int .i64)),(7,.dv (Ty.int .i64))],[(4100,.keep aA 4)],[]⟩ [(.exit 0,⟨[(4,.same (.ptr aA 4100 [])),(5,.dv (Ty.int .i64))],[(4100,.keep aA 4)],[]⟩)] .leaf) .leaf) .leaf) .leaf)) (.two .leaf (.two .leaf (.two .leaf (.two (.two (.loop ⟨[(4,.same (.ptr aA 4100 [])),(10,.dv K5),(11,.dv K5)],[(4100,.keep aA 4)],[]⟩ [(.exit 2,⟨[(4,.same (.ptr aA 4100 [])),(10,.dv K5)],[(4100,.keep aA 4)],[]⟩)] .leaf) .leaf) .leaf))))))))
noncomputable def HT(lp:Lp)(call:Nat->List D->Option D)(a0:D)(a1:D):Option D:=
(call 124 [a0]).bind fun r1=>
(D.tupAt r1 0).bind fun x2=>
(D.tupAt r1 1).bind fun x3=>
(call 124 [a1]).bind fun r4=>
(D.tupAt r4 0).bind fun x5=>
(D.tupAt r4 1).bind fun x6=>
(D.truth x3).bind fun b7=>
(if b7 then(D.truth x6) else(some false)).bind fun b8=>
(D.truth (D.bool b8)).bind fun b9=>
 if b9 then((lp (β:=Nat×List D) (fun(v10:List D)=>
(D.truth (D.bool (!(D.beq (gx v10 1) (D.int .i64 0))))).bind fun b11=>
 if b11 then((D.bin .rem (gx v10 0) (gx v10 1)).bind fun x12=>
 some (Sum.inl [(gx v10 1),x12])) else(some (Sum.inr (0,[(gx v10 0)])))) [x2,x5]).bind fun r13=>
(call 34 [(gx r13.2 0)]).bind fun r14=>
(call 142 [r14]).bind fun r15=>
 some r15) else((call 76 [a0]).bind fun r16=>
(D.un .not r16).bind fun x17=>
(D.truth x17).bind fun b18=>
(if b18 then(some true) else((call 76 [a1]).bind fun r19=>
(D.un .not r19).bind fun x20=>
 D.truth x20)).bind fun b21=>
(D.truth (D.bool b21)).bind fun b22=>
 if b22 then((call 125 []).bind fun r23=>
 some r23) else((call 77 [a0]).bind fun r24=>
(call 77 [a1]).bind fun r25=>
(lp (β:=Nat×List D) (fun(v26:List D)=>
(D.asSl (gx v26 1)).bind fun l27=>
(D.bin .gtr (D.int .i64 (l27.length)) (D.int .i64 0)).bind fun x28=>
(D.truth x28).bind fun b29=>
 if b29 then((call 143 [(gx v26 0),(gx v26 1)]).bind fun r30=>
(D.tupAt r30 0).bind fun x31=>
(D.tupAt r30 1).bind fun x32=>
 some (Sum.inl [(gx v26 1),x32])) else(some (Sum.inr (0,[(gx v26 0)])))) [r24,r25]).bind fun r33=>
(call 81 [(D.bool false),(gx r33.2 0)]).bind fun r34=>
 some r34))
theorem PP{lp}(hlp:ap lp):ac 85 (m2 (HT lp)):=aV (fn:=Tryz.f85) (ann:=Qg) hlp (by kernel_rfl) (by kernel_rfl) (fun call a0 a1=>by kernel_rfl)
def Oh:Ann:=(.two .leaf (.two .leaf (.two (.reg [] 6) .leaf)))
noncomputable def HX(lp:Lp)(call:Nat->List D->Option D)(a0:D):Option D:=
(call 76 [a0]).bind fun r1=>
(D.un .not r1).bind fun x2=>
(D.truth x2).bind fun b3=>
 if b3 then((call 125 []).bind fun r4=>
 some r4) else((D.get a0 [1]).bind fun x5=>
(D.un .not x5).bind fun x6=>
(call 77 [a0]).bind fun r7=>
(call 81 [x6,r7]).bind fun r8=>
 some r8)
theorem NQ{lp}(hlp:ap lp):ac 86 (m1 (HX lp)):=bj (fn:=Tryz.f86) (ann:=Oh) hlp (by kernel_rfl) (by kernel_rfl) (fun call a0=>by kernel_rfl)
def Ns:Ann:=(.two .leaf (.two .leaf (.two .leaf (.two .leaf (.two .leaf (.two (.reg [] 9) (.cut [(.normal,⟨[(2,.same (.ptr aA 4098 [])),(3,.same (.ptr aA 4099 [])),(4,.same (.ptr aA 4100 [])),(9,.dv K5)],[(4098,.keep aA 2),(4099,.keep aA 3),(4100,.keep aA 4)],[]⟩)] [] [4098,4099,4100] .leaf .leaf)))))))
noncomputable def HH(lp:Lp)(call:Nat->List D->Option D)(a0:D)(a1:D):Option D:=
(call 124 [a0]).bind fun r1=>
(D.tupAt r1 0).bind fun x2=>
(D.tupAt r1 1).bind fun x3=>
(call 124 [a1]).bind fun r4=>
(D.tupAt r4 0).bind fun x5=>
(D.tupAt r4 1).bind fun x6=>
(D.truth x3).bind fun b7=>
(if b7 then(D.truth x6) else(some false)).bind fun b8=>
(D.truth (D.bool b8)).bind fun b9=>
(if b9 then(D.truth (D.bool (!(D.beq x5 (D.int .i64 0))))) else(some false)).bind fun b10=>
(D.truth (D.bool b10)).bind fun b11=>
 if b11 then((call 144 [x2,x5]).bind fun r12=>
(call 34 [r12]).bind fun r13=>
 some r13) else((call 76 [a0]).bind fun r14=>
(D.un .not r14).bind fun x15=>
(D.truth x15).bind fun b16=>
(if b16 then(some true) else((call 76 [a1]).bind fun r17=>
(D.un .not r17).bind fun x18=>
 D.truth x18)).bind fun b19=>
(D.truth (D.bool b19)).bind fun b20=>
(if b20 then(some true) else((call 77 [a1]).bind fun r21=>
(D.asSl r21).bind fun l22=>
 D.truth (D.bool (D.beq (D.int .i64 (l22.length)) (D.int .i64 0))))).bind fun b23=>
(D.truth (D.bool b23)).bind fun b24=>
 if b24 then((call 125 []).bind fun r25=>
 some r25) else((call 77 [a0]).bind fun r26=>
(call 77 [a1]).bind fun r27=>
(call 143 [r26,r27]).bind fun r28=>
(D.tupAt r28 0).bind fun x29=>
(D.tupAt r28 1).bind fun x30=>
((D.get a0 [1]).bind fun x31=>
(D.get a1 [1]).bind fun x32=>
(D.truth (D.bool (!(D.beq x31 x32)))).bind fun b33=>
(if b33 then((D.asSl x30).bind fun l34=>
(D.bin .gtr (D.int .i64 (l34.length)) (D.int .i64 0)).bind fun x35=>
 D.truth x35) else(some false)).bind fun b36=>
(D.truth (D.bool b36)).bind fun b37=>
 if b37 then((call 82 [x29,(D.sl [(D.int .i64 1)])]).bind fun r38=>
 some (0,[r38])) else(some (0,[x29]))).bind fun(r39:Nat×List D)=>
(D.get a0 [1]).bind fun x40=>
(D.get a1 [1]).bind fun x41=>
(call 81 [(D.bool (!(D.beq x40 x41))),(gx r39.2 0)]).bind fun r42=>
 some r42))
theorem Ot{lp}(hlp:ap lp):ac 87 (m2 (HH lp)):=aV (fn:=Tryz.f87) (ann:=Ns) hlp (by kernel_rfl) (by kernel_rfl) (fun call a0 a1=>by kernel_rfl)
noncomputable def Ic(lp:Lp)(call:Nat->List D->Option D)(a0:D):Option D:=
(D.get a0 [0]).bind fun x1=>
(call 76 [x1]).bind fun r2=>
(D.un .not r2).bind fun x3=>
(D.truth x3).bind fun b4=>
(if b4 then(some true) else((D.get a0 [1]).bind fun x5=>
(call 76 [x5]).bind fun r6=>
(D.un .not r6).bind fun x7=>
 D.truth x7)).bind fun b8=>
(D.truth (D.bool b8)).bind fun b9=>
 if b9 then(some (D.bool false)) else((D.get a0 [1]).bind fun x10=>
(call 83 [x10]).bind fun r11=>
(D.bin .gtr r11 (D.int .i64 0)).bind fun x12=>
(D.truth x12).bind fun b13=>
(if b13 then((D.get a0 [0]).bind fun x14=>
(D.get a0 [1]).bind fun x15=>
(call 85 [x14,x15]).bind fun r16=>
(call 133 []).bind fun r17=>
 D.truth (D.bool (D.beq r16 r17))) else(some false)).bind fun b18=>
 some (D.bool b18))
theorem Qo{lp}(hlp:ap lp):ac 88 (m1 (Ic lp)):=bj (fn:=Tryz.f88) (ann:=.leaf) hlp (by kernel_rfl) (by kernel_rfl) (fun call a0=>by kernel_rfl)
def O6:Ann:=(.two .leaf (.two .leaf (.two .leaf (.two .leaf (.two .leaf (.two (.reg [] 11) .leaf))))))
noncomputable def GN(lp:Lp)(call:Nat->List D->Option D)(a0:D)(a1:D):Option D:=
(call 124 [a0]).bind fun r1=>
(D.tupAt r1 0).bind fun x2=>
(D.tupAt r1 1).bind fun x3=>
(call 124 [a1]).bind fun r4=>
(D.tupAt r4 0).bind fun x5=>
(D.tupAt r4 1).bind fun x6=>
(D.truth x3).bind fun b7=>
(if b7 then(D.truth x6) else(some false)).bind fun b8=>
(D.truth (D.bool b8)).bind fun b9=>
(if b9 then((call 145 [x2]).bind fun r10=>
 D.truth r10) else(some false)).bind fun b11=>
(D.truth (D.bool b11)).bind fun b12=>
(if b12 then((call 145 [x5]).bind fun r13=>
 D.truth r13) else(some false)).bind fun b14=>
(D.truth (D.bool b14)).bind fun b15=>
 if b15 then((D.bin .mul x2 x5).bind fun x16=>
(call 34 [x16]).bind fun r17=>
 some r17) else((call 76 [a0]).bind fun r18=>
(D.un .not r18).bind fun x19=>
(D.truth x19).bind fun b20=>
(if b20 then(some true) else((call 76 [a1]).bind fun r21=>
(D.un .not r21).bind fun x22=>
 D.truth x22)).bind fun b23=>
(D.truth (D.bool b23)).bind fun b24=>
 if b24 then((call 125 []).bind fun r25=>
 some r25) else((D.get a0 [1]).bind fun x26=>
(D.get a1 [1]).bind fun x27=>
(call 77 [a0]).bind fun r28=>
(call 77 [a1]).bind fun r29=>
(call 146 [r28,r29]).bind fun r30=>
(call 81 [(D.bool (!(D.beq x26 x27))),r30]).bind fun r31=>
 some r31))
theorem QS{lp}(hlp:ap lp):ac 89 (m2 (GN lp)):=aV (fn:=Tryz.f89) (ann:=O6) hlp (by kernel_rfl) (by kernel_rfl) (fun call a0 a1=>by kernel_rfl)
def M4:Ann:=(.two .leaf (.two (.reg [] 7) .leaf))
theorem Qy{lp}(hlp:ap lp):ac 90 (fJ lp 90 Tryz.f90 M4):=cS hlp (by kernel_rfl) (by kernel_rfl)
def OZ:Ann:=(.two .leaf (.two (.reg [] 5) .leaf))
noncomputable def IE(lp:Lp)(call:Nat->List D->Option D)(a0:D)(a1:D):Option D:=
(call 148 [a0]).bind fun r1=>
(call 148 [a1]).bind fun r2=>
(call 147 [r1,r2]).bind fun r3=>
 some r3
theorem QW{lp}(hlp:ap lp):ac 91 (m2 (IE lp)):=aV (fn:=Tryz.f91) (ann:=OZ) hlp (by kernel_rfl) (by kernel_rfl) (fun call a0 a1=>by kernel_rfl)
def NH:Ann:=(.two .leaf (.two (.reg [] 17) .leaf))
noncomputable def Nd(lp:Lp)(call:Nat->List D->Option D)(a0:D)(a1:D):Option D:=
(D.get a0 [0]).bind fun x1=>
(D.get a1 [0]).bind fun x2=>
(call 53 [x1,x2]).bind fun r3=>
(D.get a0 [1]).bind fun x4=>
(D.get a1 [1]).bind fun x5=>
(call 53 [x4,x5]).bind fun r6=>
(D.get a0 [2]).bind fun x7=>
(D.get a1 [2]).bind fun x8=>
(call 53 [x7,x8]).bind fun r9=>
(call 52 [(D.sl [r3,r6,r9])]).bind fun r10=>
 some r10
theorem Nx{lp}(hlp:ap lp):ac 94 (m2 (Nd lp)):=aV (fn:=Tryz.f94) (ann:=NH) hlp (by kernel_rfl) (by kernel_rfl) (fun call a0 a1=>by kernel_rfl)
def OW:Ann:=(.two .leaf (.two (.reg [] 8) (.cut [(.normal,⟨[(3,.same (.ptr K1 4099 [])),(6,.same (.ptr cY 4102 [])),(7,.same (.ptr K1 8199 []))],[(4099,.keep K1 3),(4102,.keep cY 6),(8199,.one K1 (.dv K1))],[]⟩)] [] [4099,4102] (.two (.reg [] 8) (.two .leaf (.two (.reg [] 13) .leaf))) (.two (.reg [] 5) .leaf))))
noncomputable def IJ(lp:Lp)(call:Nat->List D->Option D)(a0:D)(a1:D)(a2:D):Option D:=
(call 103 [a1,a0]).bind fun r1=>
(call 103 [a2,a0]).bind fun r2=>
(call 117 [r1,r2]).bind fun r3=>
((D.get r3 [0]).bind fun x4=>
(D.get r3 [1]).bind fun x5=>
(call 152 [x4,x5]).bind fun r6=>
(D.get r3 [2]).bind fun x7=>
(call 152 [r6,x7]).bind fun r8=>
(D.bin .gtr r8 (D.int .i64 1)).bind fun x9=>
(D.truth x9).bind fun b10=>
 if b10 then((D.get r3 [0]).bind fun x11=>
(D.bin .quo x11 r8).bind fun x12=>
(D.get r3 [1]).bind fun x13=>
(D.bin .quo x13 r8).bind fun x14=>
(D.get r3 [2]).bind fun x15=>
(D.bin .quo x15 r8).bind fun x16=>
 some (0,[(D.st [x12,x14,x16])])) else(some (0,[r3]))).bind fun(r17:Nat×List D)=>
(call 101 [(gx r17.2 0),a0]).bind fun r18=>
 some (D.st [(gx r17.2 0),r18])
theorem Ou{lp}(hlp:ap lp):ac 96 (m3 (IJ lp)):=sC (fn:=Tryz.f96) (ann:=OW) hlp (by kernel_rfl) (by kernel_rfl) (fun call a0 a1 a2=>by kernel_rfl)
noncomputable def IY(lp:Lp)(call:Nat->List D->Option D)(a0:D):Option D:=
(D.get a0 [0]).bind fun x1=>
(D.un .neg x1).bind fun x2=>
(D.get a0 [1]).bind fun x3=>
(D.un .neg x3).bind fun x4=>
(D.get a0 [2]).bind fun x5=>
(D.un .neg x5).bind fun x6=>
 some (D.st [x2,x4,x6])
theorem NX{lp}(hlp:ap lp):ac 97 (m1 (IY lp)):=bj (fn:=Tryz.f97) (ann:=.leaf) hlp (by kernel_rfl) (by kernel_rfl) (fun call a0=>by kernel_rfl)
def ND:Ann:=(.two .leaf (.two .leaf (.two (.two .leaf (.two (.loop ⟨[(3,.same (.ptr cY 4099 [])),(5,.dv Ty.bool),(11,.dv (Ty.int .i64))],[(4099,.keep cY 3)],[9,10]⟩ [(.ret,⟨[(4,.dv Ty.bool)],[],[]⟩),(.exit 0,⟨[(5,.dv Ty.bool)],[],[]⟩)] .leaf) .leaf)) .leaf)))
noncomputable def IB(lp:Lp)(call:Nat->List D->Option D)(a0:D)(a1:D):Option D:=
(D.asSl a0).bind fun l1=>
(lp (β:=Nat×List D) (fun(v2:List D)=>
(D.bin .lss (gx v2 1) (D.int .i64 (l1.length))).bind fun x3=>
(D.truth x3).bind fun b4=>
 if b4 then((D.asSl a0).bind fun l5=>
(D.idx (gx v2 1) (l5.length)).bind fun i6=>
(l5[i6]?).bind fun x7=>
(D.get a1 [0]).bind fun x8=>
(call 101 [x8,x7]).bind fun r9=>
(D.get a1 [1]).bind fun x10=>
(D.bin .gtr r9 x10).bind fun x11=>
(D.truth x11).bind fun b12=>
 if b12 then(some (Sum.inr (0,[(D.bool false)]))) else((D.truth (gx v2 0)).bind fun b13=>
(if b13 then((D.get a1 [1]).bind fun x14=>
 D.truth (D.bool (D.beq r9 x14))) else(some false)).bind fun b15=>
(D.bin .add (gx v2 1) (D.int .i64 1)).bind fun x16=>
 some (Sum.inl [(D.bool b15),x16]))) else(some (Sum.inr (1,[(gx v2 0)])))) [(D.bool true),(D.int .i64 0)]).bind fun r17=>
 if r17.1=0 then(some (gx r17.2 0)) else((D.un .not (gx r17.2 0)).bind fun x18=>
 some x18)
theorem Qv{lp}(hlp:ap lp):ac 98 (m2 (IB lp)):=aV (fn:=Tryz.f98) (ann:=ND) hlp (by kernel_rfl) (by kernel_rfl) (fun call a0 a1=>by kernel_rfl)
def LN:Ann:=(.two .leaf (.two (.reg [] 23) .leaf))
noncomputable def CZ(lp:Lp)(call:Nat->List D->Option D)(a0:D)(a1:D):Option D:=
(D.get a0 [0,0]).bind fun x1=>
(D.get a1 [0,0]).bind fun x2=>
(call 53 [x1,x2]).bind fun r3=>
(D.get a0 [0,1]).bind fun x4=>
(D.get a1 [0,1]).bind fun x5=>
(call 53 [x4,x5]).bind fun r6=>
(D.get a0 [0,2]).bind fun x7=>
(D.get a1 [0,2]).bind fun x8=>
(call 53 [x7,x8]).bind fun r9=>
(call 52 [(D.sl [r3,r6,r9])]).bind fun r10=>
 some r10
theorem Kz{lp}(hlp:ap lp):ac 100 (m2 (CZ lp)):=aV (fn:=Tryz.f100) (ann:=LN) hlp (by kernel_rfl) (by kernel_rfl) (fun call a0 a1=>by kernel_rfl)
noncomputable def CJ(lp:Lp)(call:Nat->List D->Option D)(a0:D)(a1:D):Option D:=
(D.get a0 [0]).bind fun x1=>
(D.get a1 [0]).bind fun x2=>
(D.bin .mul x1 x2).bind fun x3=>
(D.get a0 [1]).bind fun x4=>
(D.get a1 [1]).bind fun x5=>
(D.bin .mul x4 x5).bind fun x6=>
(D.bin .add x3 x6).bind fun x7=>
(D.get a0 [2]).bind fun x8=>
(D.get a1 [2]).bind fun x9=>
(D.bin .mul x8 x9).bind fun x10=>
(D.bin .add x7 x10).bind fun x11=>
 some x11
theorem Lv{lp}(hlp:ap lp):ac 101 (m2 (CJ lp)):=aV (fn:=Tryz.f101) (ann:=.leaf) hlp (by kernel_rfl) (by kernel_rfl) (fun call a0 a1=>by kernel_rfl)
def JR:Ann:=(.two .leaf (.two (.reg [] 4) .leaf))
noncomputable def C5(lp:Lp)(call:Nat->List D->Option D)(a0:D)(a1:D):Option D:=
(call 97 [a1]).bind fun r1=>
(call 154 [a0,r1]).bind fun r2=>
 some r2
theorem Ld{lp}(hlp:ap lp):ac 103 (m2 (C5 lp)):=aV (fn:=Tryz.f103) (ann:=JR) hlp (by kernel_rfl) (by kernel_rfl) (fun call a0 a1=>by kernel_rfl)
def Mk:Ann:=(.two .leaf (.two .leaf (.two (.two .leaf (.two (.loop ⟨[(7,.same (.ptr K1 8199 [])),(14,.dv (Ty.int .i64))],[(8199,.keep K1 7)],[13]⟩ [(.ret,⟨[(6,.dv (Ty.int .i64))],[],[]⟩),(.exit 0,⟨[],[],[]⟩)] .leaf) .leaf)) .leaf)))
noncomputable def DM(lp:Lp)(call:Nat->List D->Option D)(a0:D)(a1:D)(a2:D):Option D:=
(call 117 [a1,a2]).bind fun r1=>
(lp (β:=Nat×List D) (fun(v2:List D)=>
(D.bin .lss (gx v2 0) (D.int .i64 3)).bind fun x3=>
(D.truth x3).bind fun b4=>
 if b4 then((D.idx (gx v2 0) 3).bind fun i5=>
(D.fld a0 i5).bind fun x6=>
(D.truth (D.bool (!(D.beq x6 (D.int .i64 0))))).bind fun b7=>
 if b7 then((D.idx (gx v2 0) 3).bind fun i8=>
(D.get r1 [i8]).bind fun x9=>
(call 53 [x9,(D.int .i64 0)]).bind fun r10=>
(call 53 [x6,(D.int .i64 0)]).bind fun r11=>
(D.bin .mul r10 r11).bind fun x12=>
 some (Sum.inr (0,[x12]))) else((D.bin .add (gx v2 0) (D.int .i64 1)).bind fun x13=>
 some (Sum.inl [x13]))) else(some (Sum.inr (1,[])))) [(D.int .i64 0)]).bind fun r14=>
 if r14.1=0 then(some (gx r14.2 0)) else(some (D.int .i64 0))
theorem Km{lp}(hlp:ap lp):ac 104 (m3 (DM lp)):=sC (fn:=Tryz.f104) (ann:=Mk) hlp (by kernel_rfl) (by kernel_rfl) (fun call a0 a1 a2=>by kernel_rfl)
noncomputable def Ek(lp:Lp)(call:Nat->List D->Option D)(a0:D)(a1:D):Option D:=
(D.get a0 [0]).bind fun x1=>
(D.get a1 [0]).bind fun x2=>
(D.truth (D.bool (!(D.beq x1 x2)))).bind fun b3=>
 if b3 then((D.get a0 [0]).bind fun x4=>
(D.get a1 [0]).bind fun x5=>
(D.bin .lss x4 x5).bind fun x6=>
 some x6) else((D.get a0 [1]).bind fun x7=>
(D.get a1 [1]).bind fun x8=>
(D.truth (D.bool (!(D.beq x7 x8)))).bind fun b9=>
 if b9 then((D.get a0 [1]).bind fun x10=>
(D.get a1 [1]).bind fun x11=>
(D.bin .lss x10 x11).bind fun x12=>
 some x12) else((D.get a0 [2]).bind fun x13=>
(D.get a1 [2]).bind fun x14=>
(D.bin .lss x13 x14).bind fun x15=>
 some x15))
theorem Lw{lp}(hlp:ap lp):ac 105 (m2 (Ek lp)):=aV (fn:=Tryz.f105) (ann:=.leaf) hlp (by kernel_rfl) (by kernel_rfl) (fun call a0 a1=>by kernel_rfl)
def Ks:Ann:=(.two .leaf (.two (.reg [] 8) .leaf))
noncomputable def DJ(lp:Lp)(call:Nat->List D->Option D)(a0:D)(a1:D)(a2:D):Option D:=
(call 112 [a1,a0]).bind fun r1=>
(call 112 [a2,a0]).bind fun r2=>
(call 123 [r1,r2]).bind fun r3=>
(call 80 [r3]).bind fun r4=>
(call 155 [r4]).bind fun r5=>
(D.get r5 [0]).bind fun x6=>
 some x6
theorem Lj{lp}(hlp:ap lp):ac 106 (m3 (DJ lp)):=sC (fn:=Tryz.f106) (ann:=Ks) hlp (by kernel_rfl) (by kernel_rfl) (fun call a0 a1 a2=>by kernel_rfl)
noncomputable def EL(lp:Lp)(call:Nat->List D->Option D)(a0:D)(a1:D):Option D:=
(D.get a0 [0]).bind fun x1=>
(D.get a1 [0]).bind fun x2=>
(D.bin .mul x1 x2).bind fun x3=>
(D.get a0 [1]).bind fun x4=>
(D.get a1 [1]).bind fun x5=>
(D.bin .mul x4 x5).bind fun x6=>
(D.bin .add x3 x6).bind fun x7=>
(D.get a0 [2]).bind fun x8=>
(D.get a1 [2]).bind fun x9=>
(D.bin .mul x8 x9).bind fun x10=>
(D.bin .add x7 x10).bind fun x11=>
 some x11
theorem Jd{lp}(hlp:ap lp):ac 107 (m2 (EL lp)):=aV (fn:=Tryz.f107) (ann:=.leaf) hlp (by kernel_rfl) (by kernel_rfl) (fun call a0 a1=>by kernel_rfl)
end Go.Proofs.YtjjjkojfijpeeaaGreat.Sy
end
section
set_option maxRecDepth 20000
set_option maxHeartbeats 0
set_option linter.unusedVariables false
namespace Go.Proofs.YtjjjkojfijpeeaaGreat.Sy
open Go Go.Proofs
def Kk:Ann:=(.two .leaf (.two (.two .leaf (.two (.loop ⟨[(3,.same (.ptr K1 4099 [])),(5,.dv (Ty.int .i64))],[(4099,.keep K1 3)],[0]⟩ [(.ret,⟨[(4,.dv Ty.bool)],[],[]⟩),(.exit 0,⟨[],[],[]⟩)] (.two .leaf (.two (.two (.two (.reg [] 6) .leaf) .leaf) .leaf))) .leaf)) .leaf))
noncomputable def EZ(lp:Lp)(call:Nat->List D->Option D)(a0:D)(a1:D):Option D:=
(lp (β:=Nat×List D) (fun(v1:List D)=>
(D.asSl a0).bind fun l2=>
(D.bin .lss (gx v1 0) (D.int .i64 (l2.length))).bind fun x3=>
(D.truth x3).bind fun b4=>
 if b4 then((D.asSl a0).bind fun l5=>
(D.idx (gx v1 0) (l5.length)).bind fun i6=>
(l5[i6]?).bind fun x7=>
(D.fld x7 0).bind fun x8=>
(D.truth (D.bool (D.beq x8 a1))).bind fun b9=>
 if b9 then(some (Sum.inr (0,[(D.bool true)]))) else((D.bin .add (gx v1 0) (D.int .i64 1)).bind fun x10=>
 some (Sum.inl [x10]))) else(some (Sum.inr (1,[])))) [(D.int .i64 0)]).bind fun r11=>
 if r11.1=0 then(some (gx r11.2 0)) else(some (D.bool false))
theorem Kx{lp}(hlp:ap lp):ac 108 (m2 (EZ lp)):=aV (fn:=Tryz.f108) (ann:=Kk) hlp (by kernel_rfl) (by kernel_rfl) (fun call a0 a1=>by kernel_rfl)
def Jr:Ann:=(.two .leaf (.two .leaf (.two (.two .leaf (.two (.loop ⟨[(4,.same (.ptr K1 4100 [])),(7,.dv Ty.bool),(8,.dv (Ty.int .i64))],[(4100,.keep K1 4)],[0,2]⟩ [(.ret,⟨[(6,.dv Ty.bool)],[],[]⟩),(.exit 0,⟨[(7,.dv Ty.bool)],[],[]⟩)] (.two .leaf (.two (.two (.two (.reg [] 6) .leaf) .leaf) .leaf))) .leaf)) .leaf)))
noncomputable def EV(lp:Lp)(call:Nat->List D->Option D)(a0:D)(a1:D)(a2:D):Option D:=
(lp (β:=Nat×List D) (fun(v1:List D)=>
(D.asSl a0).bind fun l2=>
(D.bin .lss (gx v1 1) (D.int .i64 (l2.length))).bind fun x3=>
(D.truth x3).bind fun b4=>
 if b4 then((D.asSl a0).bind fun l5=>
(D.idx (gx v1 1) (l5.length)).bind fun i6=>
(l5[i6]?).bind fun x7=>
(call 107 [a1,x7]).bind fun r8=>
(D.bin .gtr r8 a2).bind fun x9=>
(D.truth x9).bind fun b10=>
 if b10 then(some (Sum.inr (0,[(D.bool false)]))) else((D.truth (gx v1 0)).bind fun b11=>
(if b11 then(some true) else((D.bin .lss r8 a2).bind fun x12=>
 D.truth x12)).bind fun b13=>
(D.bin .add (gx v1 1) (D.int .i64 1)).bind fun x14=>
 some (Sum.inl [(D.bool b13),x14]))) else(some (Sum.inr (1,[(gx v1 0)])))) [(D.bool false),(D.int .i64 0)]).bind fun r15=>
 if r15.1=0 then(some (gx r15.2 0)) else(some (gx r15.2 0))
theorem LJ{lp}(hlp:ap lp):ac 109 (m3 (EV lp)):=sC (fn:=Tryz.f109) (ann:=Jr) hlp (by kernel_rfl) (by kernel_rfl) (fun call a0 a1 a2=>by kernel_rfl)
def JL:Ann:=(.two .leaf (.two .leaf (.two .leaf (.two (.two .leaf (.two (.loop ⟨[(3,.same (.ptr K6 4099 [])),(5,.ow K6),(6,.dv Ty.bool),(7,.dv (Ty.int .i64))],[(4099,.keep K6 3)],[0]⟩ [(.exit 0,⟨[(3,.same (.ptr K6 4099 [])),(5,.ow K6),(6,.dv Ty.bool)],[(4099,.keep K6 3)],[]⟩)] (.two .leaf (.two (.two (.two (.reg [] 8) (.cut [(.normal,⟨[(3,.same (.ptr K6 4099 [])),(5,.ow K6),(6,.dv Ty.bool)],[(4099,.keep K6 3)],[0,7]⟩)] [0,7] [4099] .leaf .leaf)) .leaf) .leaf))) .leaf)) (.cut [(.normal,⟨[(5,.ow K6)],[],[]⟩)] [] [] .leaf .leaf)))))
noncomputable def C2(lp:Lp)(call:Nat->List D->Option D)(a0:D)(a1:D):Option D:=
(lp (β:=Nat×List D) (fun(v1:List D)=>
(D.asSl a0).bind fun l2=>
(D.bin .lss (gx v1 2) (D.int .i64 (l2.length))).bind fun x3=>
(D.truth x3).bind fun b4=>
 if b4 then((D.get a1 [0]).bind fun x5=>
(D.asSl a0).bind fun l6=>
(D.idx (gx v1 2) (l6.length)).bind fun i7=>
(l6[i7]?).bind fun x8=>
(D.fld x8 0).bind fun x9=>
(call 105 [x5,x9]).bind fun r10=>
((D.un .not (gx v1 1)).bind fun x11=>
(D.truth x11).bind fun b12=>
(if b12 then(D.truth r10) else(some false)).bind fun b13=>
(D.truth (D.bool b13)).bind fun b14=>
 if b14 then(if List.length ((gx v1 0).els)+List.length [a1]<=1073741824 then(some (0,[(D.sl (((gx v1 0).els)++[a1])),(D.bool true)])) else none) else(some (0,[(D.sl ((gx v1 0).els)),(gx v1 1)]))).bind fun(r15:Nat×List D)=>
(D.asSl a0).bind fun l16=>
(D.idx (gx v1 2) (l16.length)).bind fun i17=>
(l16[i17]?).bind fun x18=>
 if List.length ((gx r15.2 0).els)+List.length [x18]<=1073741824 then((D.bin .add (gx v1 2) (D.int .i64 1)).bind fun x19=>
 some (Sum.inl [(D.sl (((gx r15.2 0).els)++[x18])),(gx r15.2 1),x19])) else none) else(some (Sum.inr (0,[(D.sl ((gx v1 0).els)),(gx v1 1)])))) [(D.sl []),(D.bool false),(D.int .i64 0)]).bind fun r20=>
((D.un .not (gx r20.2 1)).bind fun x21=>
(D.truth x21).bind fun b22=>
 if b22 then(if List.length ((gx r20.2 0).els)+List.length [a1]<=1073741824 then(some (0,[(D.sl (((gx r20.2 0).els)++[a1]))])) else none) else(some (0,[(D.sl ((gx r20.2 0).els))]))).bind fun(r23:Nat×List D)=>
 some (D.sl ((gx r23.2 0).els))
theorem Ku{lp}(hlp:ap lp):ac 110 (m2 (C2 lp)):=aV (fn:=Tryz.f110) (ann:=JL) hlp (by kernel_rfl) (by kernel_rfl) (fun call a0 a1=>by kernel_rfl)
def L6:Ann:=(.two .leaf (.two .leaf (.two .leaf (.two (.two .leaf (.two (.loop ⟨[(4,.same (.ptr K1 4100 [])),(7,.ow (Ty.int .i64)),(8,.dv (Ty.int .i64)),(9,.dv (Ty.int .i64))],[(4100,.keep K1 4)],[0,2]⟩ [(.exit 0,⟨[(4,.same (.ptr K1 4100 [])),(7,.ow (Ty.int .i64)),(8,.dv (Ty.int .i64))],[(4100,.keep K1 4)],[0,2]⟩)] (.two .leaf (.cut [(.normal,⟨[(4,.same (.ptr K1 4100 [])),(7,.ow (Ty.int .i64)),(8,.dv (Ty.int .i64))],[(4100,.keep K1 4)],[0,2,9]⟩)] [0,2,9] [4100] (.two (.two (.reg [] 7) .leaf) .leaf) .leaf))) .leaf)) (.two .leaf (.two (.two (.loop ⟨[(4,.same (.ptr K1 4100 [])),(7,.ow (Ty.int .i64)),(8,.dv (Ty.int .i64))],[(4100,.keep K1 4)],[0,2,10]⟩ [(.exit 2,⟨[(7,.ow (Ty.int .i64))],[],[]⟩)] (.two .leaf (.two (.two .leaf (.two .leaf (.two (.two .leaf (.two (.loop ⟨[(4,.same (.ptr K1 4100 [])),(7,.ow (Ty.int .i64)),(11,.dv (Ty.int .i64)),(12,.dv (Ty.int .i64))],[(4100,.keep K1 4)],[0,2,8,10]⟩ [(.exit 4,⟨[(4,.same (.ptr K1 4100 [])),(7,.ow (Ty.int .i64)),(11,.dv (Ty.int .i64))],[(4100,.keep K1 4)],[0,2,10]⟩)] (.two .leaf (.cut [(.normal,⟨[(4,.same (.ptr K1 4100 [])),(7,.ow (Ty.int .i64)),(11,.dv (Ty.int .i64))],[(4100,.keep K1 4)],[0,2,8,10,12]⟩)] [0,2,8,10,12] [4100] (.two (.two .leaf (.two (.two (.reg [] 12) .leaf) .leaf)) .leaf) .leaf))) .leaf)) .leaf))) .leaf))) .leaf) .leaf))))))
noncomputable def D7(lp:Lp)(call:Nat->List D->Option D)(a0:D)(a1:D)(a2:D):Option D:=
(lp (β:=Nat×List D) (fun(v1:List D)=>
(D.asSl a0).bind fun l2=>
(D.bin .lss (gx v1 2) (D.int .i64 (l2.length))).bind fun x3=>
(D.truth x3).bind fun b4=>
(if b4 then((D.bin .lss (gx v1 1) (D.int .i64 0)).bind fun x5=>
 D.truth x5) else(some false)).bind fun b6=>
(D.truth (D.bool b6)).bind fun b7=>
 if b7 then(((D.asSl a0).bind fun l8=>
(D.idx (gx v1 2) (l8.length)).bind fun i9=>
(l8[i9]?).bind fun x10=>
(call 107 [a1,x10]).bind fun r11=>
(D.truth (D.bool (D.beq r11 a2))).bind fun b12=>
 if b12 then(some (0,[(D.sl ((gx v1 0).els)),(gx v1 2)])) else(some (0,[(D.sl ((gx v1 0).els)),(gx v1 1)]))).bind fun(r13:Nat×List D)=>
(D.bin .add (gx v1 2) (D.int .i64 1)).bind fun x14=>
 some (Sum.inl [(D.sl ((gx r13.2 0).els)),(gx r13.2 1),x14])) else(some (Sum.inr (0,[(D.sl ((gx v1 0).els)),(gx v1 1)])))) [(D.sl []),(D.int .i64 (-1)),(D.int .i64 0)]).bind fun r15=>
(lp (β:=Nat×List D) (fun(v16:List D)=>
(D.asSl a0).bind fun l17=>
(D.bin .leq (D.int .i64 (List.length ((gx v16 0).els))) (D.int .i64 (l17.length))).bind fun x18=>
(D.truth x18).bind fun b19=>
 if b19 then(if List.length ((gx v16 0).els)+List.length [(gx v16 1)]<=1073741824 then((lp (β:=Nat×List D) (fun(v20:List D)=>
(D.asSl a0).bind fun l21=>
(D.bin .lss (gx v20 2) (D.int .i64 (l21.length))).bind fun x22=>
(D.truth x22).bind fun b23=>
(if b23 then((D.bin .lss (gx v20 1) (D.int .i64 0)).bind fun x24=>
 D.truth x24) else(some false)).bind fun b25=>
(D.truth (D.bool b25)).bind fun b26=>
 if b26 then(((D.truth (D.bool (!(D.beq (gx v20 2) (gx v16 1))))).bind fun b27=>
(if b27 then((D.asSl a0).bind fun l28=>
(D.idx (gx v20 2) (l28.length)).bind fun i29=>
(l28[i29]?).bind fun x30=>
(call 107 [a1,x30]).bind fun r31=>
 D.truth (D.bool (D.beq r31 a2))) else(some false)).bind fun b32=>
(D.truth (D.bool b32)).bind fun b33=>
 if b33 then((D.asSl a0).bind fun l34=>
(D.idx (gx v16 1) (l34.length)).bind fun i35=>
(l34[i35]?).bind fun x36=>
(D.asSl a0).bind fun l37=>
(D.idx (gx v20 2) (l37.length)).bind fun i38=>
(l37[i38]?).bind fun x39=>
(call 156 [a0,a1,a2,x36,x39]).bind fun r40=>
(D.truth r40).bind fun b41=>
 if b41 then(some (0,[(D.sl ((gx v20 0).els)),(gx v20 2)])) else(some (0,[(D.sl ((gx v20 0).els)),(gx v20 1)]))) else(some (0,[(D.sl ((gx v20 0).els)),(gx v20 1)]))).bind fun(r42:Nat×List D)=>
(D.bin .add (gx v20 2) (D.int .i64 1)).bind fun x43=>
 some (Sum.inl [(D.sl ((gx r42.2 0).els)),(gx r42.2 1),x43])) else(some (Sum.inr (0,[(D.sl ((gx v20 0).els)),(gx v20 1)])))) [(D.sl (((gx v16 0).els)++[(gx v16 1)])),(D.int .i64 (-1)),(D.int .i64 0)]).bind fun r44=>
(D.truth (D.bool (D.beq (gx r44.2 1) (gx r15.2 1)))).bind fun b45=>
(if b45 then(some true) else((D.bin .lss (gx r44.2 1) (D.int .i64 0)).bind fun x46=>
 D.truth x46)).bind fun b47=>
(D.truth (D.bool b47)).bind fun b48=>
 if b48 then(some (Sum.inr (0,[(D.sl ((gx r44.2 0).els))]))) else(some (Sum.inl [(D.sl ((gx r44.2 0).els)),(gx r44.2 1)]))) else none) else(some (Sum.inr (0,[(D.sl ((gx v16 0).els))])))) [(D.sl ((gx r15.2 0).els)),(gx r15.2 1)]).bind fun r49=>
 some (D.sl ((gx r49.2 0).els))
theorem Je{lp}(hlp:ap lp):ac 111 (m3 (D7 lp)):=sC (fn:=Tryz.f111) (ann:=L6) hlp (by kernel_rfl) (by kernel_rfl) (fun call a0 a1 a2=>by kernel_rfl)
noncomputable def Dl(lp:Lp)(call:Nat->List D->Option D)(a0:D)(a1:D):Option D:=
(D.get a0 [0]).bind fun x1=>
(D.get a1 [0]).bind fun x2=>
(D.bin .sub x1 x2).bind fun x3=>
(D.get a0 [1]).bind fun x4=>
(D.get a1 [1]).bind fun x5=>
(D.bin .sub x4 x5).bind fun x6=>
(D.get a0 [2]).bind fun x7=>
(D.get a1 [2]).bind fun x8=>
(D.bin .sub x7 x8).bind fun x9=>
 some (D.st [x3,x6,x9])
theorem J1{lp}(hlp:ap lp):ac 112 (m2 (Dl lp)):=aV (fn:=Tryz.f112) (ann:=.leaf) hlp (by kernel_rfl) (by kernel_rfl) (fun call a0 a1=>by kernel_rfl)
noncomputable def EP(lp:Lp)(call:Nat->List D->Option D)(a0:D):Option D:=
 some (D.bool (!(D.beq a0 a0)))
theorem JU{lp}(hlp:ap lp):ac 115 (m1 (EP lp)):=bj (fn:=Tryz.f115) (ann:=.leaf) hlp (by kernel_rfl) (by kernel_rfl) (fun call a0=>by kernel_rfl)
def JT:Ann:=(.two .leaf (.two (.reg [] 8) .leaf))
noncomputable def Dn(lp:Lp)(call:Nat->List D->Option D)(a0:D)(a1:D):Option D:=
(D.truth a0).bind fun b1=>
(if b1 then(D.truth (D.bool (!(D.beq a1 (D.st (D.putParts (List.replicate 16 (D.int .u32 0)) [])))))) else(some false)).bind fun b2=>
 some (D.st [(D.bool false),(D.bool b2),a1])
theorem Kl{lp}(hlp:ap lp):ac 116 (m2 (Dn lp)):=aV (fn:=Tryz.f116) (ann:=JT) hlp (by kernel_rfl) (by kernel_rfl) (fun call a0 a1=>by kernel_rfl)
noncomputable def DY(lp:Lp)(call:Nat->List D->Option D)(a0:D)(a1:D):Option D:=
(D.get a0 [1]).bind fun x1=>
(D.get a1 [2]).bind fun x2=>
(D.bin .mul x1 x2).bind fun x3=>
(D.get a0 [2]).bind fun x4=>
(D.get a1 [1]).bind fun x5=>
(D.bin .mul x4 x5).bind fun x6=>
(D.bin .sub x3 x6).bind fun x7=>
(D.get a0 [2]).bind fun x8=>
(D.get a1 [0]).bind fun x9=>
(D.bin .mul x8 x9).bind fun x10=>
(D.get a0 [0]).bind fun x11=>
(D.get a1 [2]).bind fun x12=>
(D.bin .mul x11 x12).bind fun x13=>
(D.bin .sub x10 x13).bind fun x14=>
(D.get a0 [0]).bind fun x15=>
(D.get a1 [1]).bind fun x16=>
(D.bin .mul x15 x16).bind fun x17=>
(D.get a0 [1]).bind fun x18=>
(D.get a1 [0]).bind fun x19=>
(D.bin .mul x18 x19).bind fun x20=>
(D.bin .sub x17 x20).bind fun x21=>
 some (D.st [x7,x14,x21])
theorem Ki{lp}(hlp:ap lp):ac 117 (m2 (DY lp)):=aV (fn:=Tryz.f117) (ann:=.leaf) hlp (by kernel_rfl) (by kernel_rfl) (fun call a0 a1=>by kernel_rfl)
def KZ:Ann:=(.two .leaf (.two (.two .leaf (.two (.loop ⟨[(7,.dv (Ty.int .i64))],[],[5,6]⟩ [(.ret,⟨[(2,.dv Ty.bool)],[],[]⟩),(.exit 0,⟨[],[],[]⟩)] .leaf) .leaf)) .leaf))
noncomputable def Dc(lp:Lp)(call:Nat->List D->Option D)(a0:D):Option D:=
(D.asSl a0).bind fun l1=>
(lp (β:=Nat×List D) (fun(v2:List D)=>
(D.bin .lss (gx v2 0) (D.int .i64 (l1.length))).bind fun x3=>
(D.truth x3).bind fun b4=>
 if b4 then((D.asSl a0).bind fun l5=>
(D.idx (gx v2 0) (l5.length)).bind fun i6=>
(l5[i6]?).bind fun x7=>
(D.get x7 [0]).bind fun x8=>
(D.truth x8).bind fun b9=>
(if b9 then(some true) else((call 167 [x7]).bind fun r10=>
(D.un .not r10).bind fun x11=>
 D.truth x11)).bind fun b12=>
(D.truth (D.bool b12)).bind fun b13=>
 if b13 then(some (Sum.inr (0,[(D.bool false)]))) else((D.bin .add (gx v2 0) (D.int .i64 1)).bind fun x14=>
 some (Sum.inl [x14]))) else(some (Sum.inr (1,[])))) [(D.int .i64 0)]).bind fun r15=>
 if r15.1=0 then(some (gx r15.2 0)) else(some (D.bool true))
theorem KM{lp}(hlp:ap lp):ac 118 (m1 (Dc lp)):=bj (fn:=Tryz.f118) (ann:=KZ) hlp (by kernel_rfl) (by kernel_rfl) (fun call a0=>by kernel_rfl)
noncomputable def Dv(lp:Lp)(call:Nat->List D->Option D) :Option D:=
 some (D.st [(D.bool true),(D.bool false),(az aU)])
theorem LU{lp}(hlp:ap lp):ac 119 (m0 (Dv lp)):=BK (fn:=Tryz.f119) (ann:=.leaf) hlp (by kernel_rfl) (by kernel_rfl) (fun call=>by kernel_rfl)
def La:Ann:=(.two .leaf (.two .leaf (.two .leaf (.two (.two .leaf (.two (.loop ⟨[(2,.same (.ptr aU 4098 [])),(3,.same (.ptr aU 4099 [])),(4,.same (.ptr aU 4100 [])),(6,.same (.ptr aU 8198 [])),(7,.dv (Ty.int .u64)),(9,.dv (Ty.int .i64))],[(4098,.keep aU 2),(4099,.keep aU 3),(4100,.keep aU 4),(8198,.one aU (.dv aU))],[]⟩ [(.exit 0,⟨[(4,.same (.ptr aU 4100 [])),(6,.same (.ptr aU 8198 [])),(7,.dv (Ty.int .u64))],[(4100,.keep aU 4),(8198,.one aU (.dv aU))],[]⟩)] (.two .leaf (.two .leaf (.two (.two (.two .leaf (.two (.reg [] 11) .leaf)) .leaf) .leaf)))) .leaf)) .leaf))))
noncomputable def Dr(lp:Lp)(call:Nat->List D->Option D)(a0:D)(a1:D):Option D:=
(lp (β:=Nat×List D) (fun(v1:List D)=>
(D.bin .lss (gx v1 1) (D.int .i64 16)).bind fun x2=>
(D.truth x2).bind fun b3=>
 if b3 then((D.idx (gx v1 1) 16).bind fun i4=>
(D.get a0 [i4]).bind fun x5=>
(D.conv .u64 x5).bind fun x6=>
(D.idx (gx v1 1) 16).bind fun i7=>
(D.get a1 [i7]).bind fun x8=>
(D.conv .u64 x8).bind fun x9=>
(D.bin .add x6 x9).bind fun x10=>
(D.bin .add (gx v1 0) x10).bind fun x11=>
(D.conv .u32 x11).bind fun x12=>
(D.idx (gx v1 1) 16).bind fun i13=>
(D.set (gx v1 2) [i13] x12).bind fun x14=>
(D.bin .shr x11 (D.int .u64 32)).bind fun x15=>
(D.bin .add (gx v1 1) (D.int .i64 1)).bind fun x16=>
 some (Sum.inl [x15,x16,x14])) else(some (Sum.inr (0,[(gx v1 0),(gx v1 2)])))) [(D.int .u64 0),(D.int .i64 0),(az aU)]).bind fun r17=>
 some (D.tup [(gx r17.2 1),(D.bool (D.beq (gx r17.2 0) (D.int .u64 0)))])
theorem MD{lp}(hlp:ap lp):ac 120 (m2 (Dr lp)):=aV (fn:=Tryz.f120) (ann:=La) hlp (by kernel_rfl) (by kernel_rfl) (fun call a0 a1=>by kernel_rfl)
def KO:Ann:=(.two .leaf (.two (.two .leaf (.two (.loop ⟨[(2,.same (.ptr aU 4098 [])),(3,.same (.ptr aU 4099 [])),(5,.dv (Ty.int .i64))],[(4098,.keep aU 2),(4099,.keep aU 3)],[]⟩ [(.ret,⟨[(4,.dv (Ty.int .i64))],[],[]⟩),(.exit 0,⟨[],[],[]⟩)] (.two .leaf (.two (.two (.two (.reg [] 6) (.two (.two (.reg [] 7) .leaf) .leaf)) .leaf) .leaf))) .leaf)) .leaf))
noncomputable def Ei(lp:Lp)(call:Nat->List D->Option D)(a0:D)(a1:D):Option D:=
(lp (β:=Nat×List D) (fun(v1:List D)=>
(D.bin .geq (gx v1 0) (D.int .i64 0)).bind fun x2=>
(D.truth x2).bind fun b3=>
 if b3 then((D.idx (gx v1 0) 16).bind fun i4=>
(D.get a0 [i4]).bind fun x5=>
(D.idx (gx v1 0) 16).bind fun i6=>
(D.get a1 [i6]).bind fun x7=>
(D.truth (D.bool (!(D.beq x5 x7)))).bind fun b8=>
 if b8 then((D.idx (gx v1 0) 16).bind fun i9=>
(D.get a0 [i9]).bind fun x10=>
(D.idx (gx v1 0) 16).bind fun i11=>
(D.get a1 [i11]).bind fun x12=>
(call 168 [x10,x12]).bind fun r13=>
 some (Sum.inr (0,[r13]))) else((D.bin .sub (gx v1 0) (D.int .i64 1)).bind fun x14=>
 some (Sum.inl [x14]))) else(some (Sum.inr (1,[])))) [(D.int .i64 15)]).bind fun r15=>
 if r15.1=0 then(some (gx r15.2 0)) else(some (D.int .i64 0))
theorem I1{lp}(hlp:ap lp):ac 121 (m2 (Ei lp)):=aV (fn:=Tryz.f121) (ann:=KO) hlp (by kernel_rfl) (by kernel_rfl) (fun call a0 a1=>by kernel_rfl)
def Mr:Ann:=(.two .leaf (.two .leaf (.two .leaf (.two (.two .leaf (.two (.loop ⟨[(2,.same (.ptr aU 4098 [])),(3,.same (.ptr aU 4099 [])),(4,.same (.ptr aU 4100 [])),(5,.same (.ptr aU 8197 [])),(6,.dv (Ty.int .u64)),(9,.dv (Ty.int .i64))],[(4098,.keep aU 2),(4099,.keep aU 3),(4100,.keep aU 4),(8197,.one aU (.dv aU))],[]⟩ [(.exit 0,⟨[(4,.same (.ptr aU 4100 [])),(5,.same (.ptr aU 8197 []))],[(4100,.keep aU 4),(8197,.one aU (.dv aU))],[]⟩)] (.two .leaf (.two .leaf (.two (.two (.two .leaf (.two (.reg [] 11) .leaf)) .leaf) .leaf)))) .leaf)) .leaf))))
noncomputable def DK(lp:Lp)(call:Nat->List D->Option D)(a0:D)(a1:D):Option D:=
(lp (β:=Nat×List D) (fun(v1:List D)=>
(D.bin .lss (gx v1 1) (D.int .i64 16)).bind fun x2=>
(D.truth x2).bind fun b3=>
 if b3 then((D.idx (gx v1 1) 16).bind fun i4=>
(D.get a0 [i4]).bind fun x5=>
(D.conv .u64 x5).bind fun x6=>
(D.idx (gx v1 1) 16).bind fun i7=>
(D.get a1 [i7]).bind fun x8=>
(D.conv .u64 x8).bind fun x9=>
(D.bin .sub x6 x9).bind fun x10=>
(D.bin .sub x10 (gx v1 0)).bind fun x11=>
(D.conv .u32 x11).bind fun x12=>
(D.idx (gx v1 1) 16).bind fun i13=>
(D.set (gx v1 2) [i13] x12).bind fun x14=>
(D.bin .shr x11 (D.int .u64 63)).bind fun x15=>
(D.bin .add (gx v1 1) (D.int .i64 1)).bind fun x16=>
 some (Sum.inl [x15,x16,x14])) else(some (Sum.inr (0,[(gx v1 2)])))) [(D.int .u64 0),(D.int .i64 0),(az aU)]).bind fun r17=>
 some (gx r17.2 0)
theorem Jw{lp}(hlp:ap lp):ac 122 (m2 (DK lp)):=aV (fn:=Tryz.f122) (ann:=Mr) hlp (by kernel_rfl) (by kernel_rfl) (fun call a0 a1=>by kernel_rfl)
noncomputable def Di(lp:Lp)(call:Nat->List D->Option D)(a0:D)(a1:D):Option D:=
(D.get a0 [1]).bind fun x1=>
(D.get a1 [2]).bind fun x2=>
(D.bin .mul x1 x2).bind fun x3=>
(D.get a0 [2]).bind fun x4=>
(D.get a1 [1]).bind fun x5=>
(D.bin .mul x4 x5).bind fun x6=>
(D.bin .sub x3 x6).bind fun x7=>
(D.get a0 [2]).bind fun x8=>
(D.get a1 [0]).bind fun x9=>
(D.bin .mul x8 x9).bind fun x10=>
(D.get a0 [0]).bind fun x11=>
(D.get a1 [2]).bind fun x12=>
(D.bin .mul x11 x12).bind fun x13=>
(D.bin .sub x10 x13).bind fun x14=>
(D.get a0 [0]).bind fun x15=>
(D.get a1 [1]).bind fun x16=>
(D.bin .mul x15 x16).bind fun x17=>
(D.get a0 [1]).bind fun x18=>
(D.get a1 [0]).bind fun x19=>
(D.bin .mul x18 x19).bind fun x20=>
(D.bin .sub x17 x20).bind fun x21=>
 some (D.st [x7,x14,x21])
theorem JE{lp}(hlp:ap lp):ac 123 (m2 (Di lp)):=aV (fn:=Tryz.f123) (ann:=.leaf) hlp (by kernel_rfl) (by kernel_rfl) (fun call a0 a1=>by kernel_rfl)
def Lu:Ann:=(.two .leaf (.two .leaf (.two .leaf (.two (.two .leaf (.two (.loop ⟨[(1,.same (.ptr aA 4097 [])),(5,.dv (Ty.int .i64))],[(4097,.keep aA 1)],[]⟩ [(.ret,⟨[(2,.dv (Ty.int .i64)),(3,.dv Ty.bool)],[],[]⟩),(.exit 0,⟨[(1,.same (.ptr aA 4097 []))],[(4097,.keep aA 1)],[]⟩)] .leaf) .leaf)) .leaf))))
noncomputable def A3(lp:Lp)(call:Nat->List D->Option D)(a0:D):Option D:=
(call 76 [a0]).bind fun r1=>
(D.un .not r1).bind fun x2=>
(D.truth x2).bind fun b3=>
(if b3 then(some true) else((D.get a0 [2,1]).bind fun x4=>
(D.bin .geq x4 (D.int .u32 1073741824)).bind fun x5=>
 D.truth x5)).bind fun b6=>
(D.truth (D.bool b6)).bind fun b7=>
 if b7 then(some (D.tup [(D.int .i64 0),(D.bool false)])) else((lp (β:=Nat×List D) (fun(v8:List D)=>
(D.bin .lss (gx v8 0) (D.int .i64 16)).bind fun x9=>
(D.truth x9).bind fun b10=>
 if b10 then((D.idx (gx v8 0) 16).bind fun i11=>
(D.get a0 [2,i11]).bind fun x12=>
(D.truth (D.bool (!(D.beq x12 (D.int .u32 0))))).bind fun b13=>
 if b13 then(some (Sum.inr (0,[(D.int .i64 0),(D.bool false)]))) else((D.bin .add (gx v8 0) (D.int .i64 1)).bind fun x14=>
 some (Sum.inl [x14]))) else(some (Sum.inr (1,[])))) [(D.int .i64 2)]).bind fun r15=>
 if r15.1=0 then(some (D.tup [(gx r15.2 0),(gx r15.2 1)])) else((D.get a0 [2,1]).bind fun x16=>
(D.conv .i64 x16).bind fun x17=>
(D.bin .mul x17 (D.int .i64 4294967296)).bind fun x18=>
(D.get a0 [2,0]).bind fun x19=>
(D.conv .i64 x19).bind fun x20=>
(D.bin .add x18 x20).bind fun x21=>
(D.get a0 [1]).bind fun x22=>
(D.truth x22).bind fun b23=>
 if b23 then((D.un .neg x21).bind fun x24=>
 some (D.tup [x24,(D.bool true)])) else(some (D.tup [x21,(D.bool true)]))))
theorem LW{lp}(hlp:ap lp):ac 124 (m1 (A3 lp)):=bj (fn:=Tryz.f124) (ann:=Lu) hlp (by kernel_rfl) (by kernel_rfl) (fun call a0=>by kernel_rfl)
noncomputable def Dz(lp:Lp)(call:Nat->List D->Option D) :Option D:=
 some (D.st [(D.bool true),(D.bool false),(az aU)])
theorem KY{lp}(hlp:ap lp):ac 125 (m0 (Dz lp)):=BK (fn:=Tryz.f125) (ann:=.leaf) hlp (by kernel_rfl) (by kernel_rfl) (fun call=>by kernel_rfl)
def Mx:Ann:=(.two .leaf (.two .leaf (.two .leaf (.two (.two .leaf (.two (.loop ⟨[(5,.ow (Ty.int .i64)),(6,.dv (Ty.int .i64)),(7,.dv (Ty.int .i64))],[],[0,1]⟩ [(.exit 0,⟨[(5,.ow (Ty.int .i64))],[],[]⟩)] (.two .leaf (.two (.two (.two (.reg [] 10) (.two .leaf (.cut [(.normal,⟨[(5,.ow (Ty.int .i64)),(6,.dv (Ty.int .i64)),(8,.dv (Ty.int .i64))],[],[0,1,7]⟩)] [0,1,7] [] .leaf .leaf))) .leaf) .leaf))) .leaf)) .leaf))))
noncomputable def CX(lp:Lp)(call:Nat->List D->Option D)(a0:D)(a1:D):Option D:=
(lp (β:=Nat×List D) (fun(v1:List D)=>
(D.asSl a0).bind fun l2=>
(D.bin .lss (gx v1 2) (D.int .i64 (l2.length))).bind fun x3=>
(D.truth x3).bind fun b4=>
 if b4 then((D.asSl a0).bind fun l5=>
(D.idx (gx v1 2) (l5.length)).bind fun i6=>
(l5[i6]?).bind fun x7=>
(call 141 [a1,(gx v1 2)]).bind fun r8=>
(D.bin .sub x7 r8).bind fun x9=>
(D.bin .sub x9 (gx v1 1)).bind fun x10=>
((D.bin .lss x10 (D.int .i64 0)).bind fun x11=>
(D.truth x11).bind fun b12=>
 if b12 then((D.bin .add x10 (D.int .i64 65536)).bind fun x13=>
 some (0,[(D.sl ((gx v1 0).els)),(D.int .i64 1),x13])) else(some (0,[(D.sl ((gx v1 0).els)),(D.int .i64 0),x10]))).bind fun(r14:Nat×List D)=>
 if List.length ((gx r14.2 0).els)+List.length [(gx r14.2 2)]<=1073741824 then((D.bin .add (gx v1 2) (D.int .i64 1)).bind fun x15=>
 some (Sum.inl [(D.sl (((gx r14.2 0).els)++[(gx r14.2 2)])),(gx r14.2 1),x15])) else none) else(some (Sum.inr (0,[(D.sl ((gx v1 0).els))])))) [(D.sl []),(D.int .i64 0),(D.int .i64 0)]).bind fun r16=>
(call 140 [(D.sl ((gx r16.2 0).els))]).bind fun r17=>
 some r17
theorem Lf{lp}(hlp:ap lp):ac 126 (m2 (CX lp)):=aV (fn:=Tryz.f126) (ann:=Mx) hlp (by kernel_rfl) (by kernel_rfl) (fun call a0 a1=>by kernel_rfl)
def Ji:Ann:=(.two .leaf (.two .leaf (.two (.two (.loop ⟨[(1,.same (.ptr aU 4097 [])),(3,.dv (Ty.int .i64))],[(4097,.keep aU 1)],[]⟩ [(.exit 0,⟨[(3,.dv (Ty.int .i64))],[],[]⟩)] .leaf) .leaf) .leaf)))
noncomputable def C0(lp:Lp)(call:Nat->List D->Option D)(a0:D):Option D:=
(lp (β:=Nat×List D) (fun(v1:List D)=>
(D.bin .gtr (gx v1 0) (D.int .i64 0)).bind fun x2=>
(D.truth x2).bind fun b3=>
(if b3 then((D.bin .sub (gx v1 0) (D.int .i64 1)).bind fun x4=>
(D.idx x4 16).bind fun i5=>
(D.get a0 [i5]).bind fun x6=>
 D.truth (D.bool (D.beq x6 (D.int .u32 0)))) else(some false)).bind fun b7=>
(D.truth (D.bool b7)).bind fun b8=>
 if b8 then((D.bin .sub (gx v1 0) (D.int .i64 1)).bind fun x9=>
 some (Sum.inl [x9])) else(some (Sum.inr (0,[(gx v1 0)])))) [(D.int .i64 16)]).bind fun r10=>
 some (gx r10.2 0)
theorem KX{lp}(hlp:ap lp):ac 127 (m1 (C0 lp)):=bj (fn:=Tryz.f127) (ann:=Ji) hlp (by kernel_rfl) (by kernel_rfl) (fun call a0=>by kernel_rfl)
noncomputable def D2(lp:Lp)(call:Nat->List D->Option D)(a0:D):Option D:=
(D.get a0 [0]).bind fun x1=>
(D.un .not x1).bind fun x2=>
(D.truth x2).bind fun b3=>
(if b3 then((call 167 [a0]).bind fun r4=>
 D.truth r4) else(some false)).bind fun b5=>
 some (D.bool b5)
theorem MR{lp}(hlp:ap lp):ac 128 (m1 (D2 lp)):=bj (fn:=Tryz.f128) (ann:=.leaf) hlp (by kernel_rfl) (by kernel_rfl) (fun call a0=>by kernel_rfl)
noncomputable def EY(lp:Lp)(call:Nat->List D->Option D)(a0:D):Option D:=
(call 118 [(D.sl [a0])]).bind fun r1=>
(D.un .not r1).bind fun x2=>
(D.truth x2).bind fun b3=>
(if b3 then(some true) else((D.get a0 [2]).bind fun x4=>
 D.truth (D.bool (D.beq x4 (D.st (D.putParts (List.replicate 16 (D.int .u32 0)) [])))))).bind fun b5=>
(D.truth (D.bool b5)).bind fun b6=>
 if b6 then(some (D.int .i64 0)) else((D.get a0 [1]).bind fun x7=>
(D.truth x7).bind fun b8=>
 if b8 then(some (D.int .i64 (-1))) else(some (D.int .i64 1)))
theorem Lx{lp}(hlp:ap lp):ac 129 (m1 (EY lp)):=bj (fn:=Tryz.f129) (ann:=.leaf) hlp (by kernel_rfl) (by kernel_rfl) (fun call a0=>by kernel_rfl)
theorem JS{lp}(hlp:ap lp):ac 130 (fJ lp 130 Tryz.f130 .leaf):=cS hlp (by kernel_rfl) (by kernel_rfl)
def Ky:Ann:=(.two .leaf (.two .leaf (.two (.two .leaf (.two (.two (.reg [] 21) (.two (.two (.loop ⟨[(4,.same (.ptr aA 4100 [])),(5,.dv (Ty.int .u64)),(6,.dv (Ty.int .u64))],[(4100,.keep aA 4)],[]⟩ [(.exit 0,⟨[(4,.same (.ptr aA 4100 [])),(5,.dv (Ty.int .u64))],[(4100,.keep aA 4)],[]⟩)] (.two .leaf (.two (.reg [] 5) .leaf))) .leaf) .leaf)) .leaf)) (.two (.two (.reg [] 6) (.two .leaf (.two (.two .leaf (.two (.reg [] 5) .leaf)) .leaf))) .leaf))))
noncomputable def Eu(lp:Lp)(call:Nat->List D->Option D)(a0:D)(a1:D):Option D:=
(call 118 [(D.sl [a0,a1])]).bind fun r1=>
(D.un .not r1).bind fun x2=>
(D.truth x2).bind fun b3=>
 if b3 then((call 119 []).bind fun r4=>
 some r4) else((D.get a0 [2]).bind fun x5=>
(call 127 [x5]).bind fun r6=>
(D.bin .leq r6 (D.int .i64 2)).bind fun x7=>
(D.truth x7).bind fun b8=>
(if b8 then((D.get a1 [2]).bind fun x9=>
(call 127 [x9]).bind fun r10=>
(D.bin .leq r10 (D.int .i64 2)).bind fun x11=>
 D.truth x11) else(some false)).bind fun b12=>
(D.truth (D.bool b12)).bind fun b13=>
 if b13 then((D.get a0 [2,1]).bind fun x14=>
(D.conv .u64 x14).bind fun x15=>
(D.bin .shl x15 (D.int .u64 32)).bind fun x16=>
(D.get a0 [2,0]).bind fun x17=>
(D.conv .u64 x17).bind fun x18=>
(D.bin .or x16 x18).bind fun x19=>
(D.get a1 [2,1]).bind fun x20=>
(D.conv .u64 x20).bind fun x21=>
(D.bin .shl x21 (D.int .u64 32)).bind fun x22=>
(D.get a1 [2,0]).bind fun x23=>
(D.conv .u64 x23).bind fun x24=>
(D.bin .or x22 x24).bind fun x25=>
(lp (β:=Nat×List D) (fun(v26:List D)=>
(D.truth (D.bool (!(D.beq (gx v26 1) (D.int .u64 0))))).bind fun b27=>
 if b27 then((D.bin .rem (gx v26 0) (gx v26 1)).bind fun x28=>
 some (Sum.inl [(gx v26 1),x28])) else(some (Sum.inr (0,[(gx v26 0)])))) [x19,x25]).bind fun r29=>
(D.conv .u32 (gx r29.2 0)).bind fun x30=>
(D.bin .shr (gx r29.2 0) (D.int .u64 32)).bind fun x31=>
(D.conv .u32 x31).bind fun x32=>
(call 116 [(D.bool false),(D.st (D.putParts (List.replicate 16 (D.int .u32 0)) [(0,x30),(1,x32)]))]).bind fun r33=>
 some r33) else((D.get a0 [2]).bind fun x34=>
(D.get a1 [2]).bind fun x35=>
(D.truth (D.bool (!(D.beq x35 (D.st (D.putParts (List.replicate 16 (D.int .u32 0)) [])))))).bind fun b36=>
 if b36 then((call 170 [x34,x35]).bind fun r37=>
(D.tupAt r37 0).bind fun x38=>
(D.tupAt r37 1).bind fun x39=>
(call 116 [(D.bool false),x35]).bind fun r40=>
(call 116 [(D.bool false),x39]).bind fun r41=>
(call 131 [r40,r41]).bind fun r42=>
 some r42) else((call 171 [a0]).bind fun r43=>
 some r43)))
theorem Jn{lp}(hlp:ap lp):ac 131 (m2 (Eu lp)):=aV (fn:=Tryz.f131) (ann:=Ky) hlp (by kernel_rfl) (by kernel_rfl) (fun call a0 a1=>by kernel_rfl)
noncomputable def Do(lp:Lp)(call:Nat->List D->Option D)(a0:D)(a1:D):Option D:=
(call 172 [a0,a1]).bind fun r1=>
(D.tupAt r1 0).bind fun x2=>
(D.tupAt r1 1).bind fun x3=>
 some x2
theorem Ma{lp}(hlp:ap lp):ac 132 (m2 (Do lp)):=aV (fn:=Tryz.f132) (ann:=.leaf) hlp (by kernel_rfl) (by kernel_rfl) (fun call a0 a1=>by kernel_rfl)
noncomputable def DA(lp:Lp)(call:Nat->List D->Option D) :Option D:=
(call 34 [(D.int .i64 1)]).bind fun r1=>
 some r1
theorem Mc{lp}(hlp:ap lp):ac 133 (m0 (DA lp)):=BK (fn:=Tryz.f133) (ann:=.leaf) hlp (by kernel_rfl) (by kernel_rfl) (fun call=>by kernel_rfl)
def G8:Ann:=(.two .leaf (.two .leaf (.two (.two .leaf (.two (.loop ⟨[(2,.same (.ptr gg 4098 [])),(3,.same (.ptr gg 4099 [])),(4,.same (.ptr bV 4100 [])),(5,.same (.ptr bV 8197 [])),(8,.dv (Ty.int .i64))],[(4098,.keep gg 2),(4099,.keep gg 3),(4100,.keep bV 4),(8197,.one bV (.dv bV))],[]⟩ [(.exit 0,⟨[(4,.same (.ptr bV 4100 [])),(5,.same (.ptr bV 8197 []))],[(4100,.keep bV 4),(8197,.one bV (.dv bV))],[]⟩)] (.two .leaf (.two .leaf (.two (.two (.two .leaf (.reg [] 9)) .leaf) .leaf)))) .leaf)) .leaf)))
theorem KK{lp}(hlp:ap lp):ac 134 (fJ lp 134 Tryz.f134 G8):=cS hlp (by kernel_rfl) (by kernel_rfl)
def Hc:Ann:=(.two .leaf (.two (.reg [] 10) .leaf))
theorem KU{lp}(hlp:ap lp):ac 135 (fJ lp 135 Tryz.f135 Hc):=cS hlp (by kernel_rfl) (by kernel_rfl)
theorem JH{lp}(hlp:ap lp):ac 136 (fJ lp 136 Tryz.f136 .leaf):=cS hlp (by kernel_rfl) (by kernel_rfl)
theorem JI{lp}(hlp:ap lp):ac 137 (fJ lp 137 Tryz.f137 .leaf):=cS hlp (by kernel_rfl) (by kernel_rfl)
def HS:Ann:=(.two .leaf (.two (.reg [] 3) .leaf))
theorem I6{lp}(hlp:ap lp):ac 138 (fJ lp 138 Tryz.f138 HS):=cS hlp (by kernel_rfl) (by kernel_rfl)
def Mh:Ann:=(.two .leaf (.two .leaf (.two (.two .leaf (.two (.loop ⟨[(1,.same (.ptr aA 4097 [])),(3,.dv Ty.bool),(4,.dv (Ty.int .i64))],[(4097,.keep aA 1)],[]⟩ [(.exit 0,⟨[(1,.same (.ptr aA 4097 [])),(3,.dv Ty.bool)],[(4097,.keep aA 1)],[]⟩)] .leaf) .leaf)) .leaf)))
noncomputable def Er(lp:Lp)(call:Nat->List D->Option D)(a0:D):Option D:=
(lp (β:=Nat×List D) (fun(v1:List D)=>
(D.bin .lss (gx v1 1) (D.int .i64 16)).bind fun x2=>
(D.truth x2).bind fun b3=>
 if b3 then((D.truth (gx v1 0)).bind fun b4=>
(if b4 then((D.idx (gx v1 1) 16).bind fun i5=>
(D.get a0 [2,i5]).bind fun x6=>
 D.truth (D.bool (D.beq x6 (D.int .u32 0)))) else(some false)).bind fun b7=>
(D.bin .add (gx v1 1) (D.int .i64 1)).bind fun x8=>
 some (Sum.inl [(D.bool b7),x8])) else(some (Sum.inr (0,[(gx v1 0)])))) [(D.bool true),(D.int .i64 0)]).bind fun r9=>
(D.get a0 [0]).bind fun x10=>
(D.truth x10).bind fun b11=>
 if b11 then((D.truth (gx r9.2 0)).bind fun b12=>
(if b12 then((D.get a0 [1]).bind fun x13=>
(D.un .not x13).bind fun x14=>
 D.truth x14) else(some false)).bind fun b15=>
 some (D.bool b15)) else((D.un .not (gx r9.2 0)).bind fun x16=>
(D.truth x16).bind fun b17=>
(if b17 then(some true) else((D.get a0 [1]).bind fun x18=>
(D.un .not x18).bind fun x19=>
 D.truth x19)).bind fun b20=>
 some (D.bool b20))
theorem Ms{lp}(hlp:ap lp):ac 139 (m1 (Er lp)):=bj (fn:=Tryz.f139) (ann:=Mh) hlp (by kernel_rfl) (by kernel_rfl) (fun call a0=>by kernel_rfl)
end Go.Proofs.YtjjjkojfijpeeaaGreat.Sy
end
section
set_option maxRecDepth 20000
set_option maxHeartbeats 0
set_option linter.unusedVariables false
namespace Go.Proofs.YtjjjkojfijpeeaaGreat.Sy
open Go Go.Proofs
def MP:Ann:=(.two .leaf (.two .leaf (.two (.two (.loop ⟨[(3,.dv (Ty.int .i64))],[],[0]⟩ [(.exit 0,⟨[(3,.dv (Ty.int .i64))],[],[0]⟩)] .leaf) .leaf) .leaf)))
noncomputable def Dk(lp:Lp)(call:Nat->List D->Option D)(a0:D):Option D:=
(D.asSl a0).bind fun l1=>
(lp (β:=Nat×List D) (fun(v2:List D)=>
(D.bin .gtr (gx v2 0) (D.int .i64 0)).bind fun x3=>
(D.truth x3).bind fun b4=>
(if b4 then((D.bin .sub (gx v2 0) (D.int .i64 1)).bind fun x5=>
(D.asSl a0).bind fun l6=>
(D.idx x5 (l6.length)).bind fun i7=>
(l6[i7]?).bind fun x8=>
 D.truth (D.bool (D.beq x8 (D.int .i64 0)))) else(some false)).bind fun b9=>
(D.truth (D.bool b9)).bind fun b10=>
 if b10 then((D.bin .sub (gx v2 0) (D.int .i64 1)).bind fun x11=>
 some (Sum.inl [x11])) else(some (Sum.inr (0,[(gx v2 0)])))) [(D.int .i64 (l1.length))]).bind fun r12=>
(D.asSl a0).bind fun l13=>
(D.natOf (gx r12.2 0)).bind fun i14=>
(D.cut l13 0 i14).bind fun l15=>
 some (D.sl l15)
theorem JA{lp}(hlp:ap lp):ac 140 (m1 (Dk lp)):=bj (fn:=Tryz.f140) (ann:=MP) hlp (by kernel_rfl) (by kernel_rfl) (fun call a0=>by kernel_rfl)
noncomputable def Du(lp:Lp)(call:Nat->List D->Option D)(a0:D)(a1:D):Option D:=
(D.asSl a0).bind fun l1=>
(D.bin .lss a1 (D.int .i64 (l1.length))).bind fun x2=>
(D.truth x2).bind fun b3=>
 if b3 then((D.asSl a0).bind fun l4=>
(D.idx a1 (l4.length)).bind fun i5=>
(l4[i5]?).bind fun x6=>
 some x6) else(some (D.int .i64 0))
theorem LK{lp}(hlp:ap lp):ac 141 (m2 (Du lp)):=aV (fn:=Tryz.f141) (ann:=.leaf) hlp (by kernel_rfl) (by kernel_rfl) (fun call a0 a1=>by kernel_rfl)
noncomputable def Ey(lp:Lp)(call:Nat->List D->Option D)(a0:D):Option D:=
(call 76 [a0]).bind fun r1=>
(D.un .not r1).bind fun x2=>
(D.truth x2).bind fun b3=>
 if b3 then((call 125 []).bind fun r4=>
 some r4) else((call 77 [a0]).bind fun r5=>
(call 81 [(D.bool false),r5]).bind fun r6=>
 some r6)
theorem KN{lp}(hlp:ap lp):ac 142 (m1 (Ey lp)):=bj (fn:=Tryz.f142) (ann:=.leaf) hlp (by kernel_rfl) (by kernel_rfl) (fun call a0=>by kernel_rfl)
def JF:Ann:=(.two .leaf (.two .leaf (.two .leaf (.two (.reg [] 11) (.two .leaf (.two (.two .leaf (.two (.loop ⟨[(6,.same (.mem (Ty.int .i64) 8207)),(9,.dv K5),(10,.dv (Ty.int .i64))],[(8207,.many (Ty.int .i64))],[0,1,7,8]⟩ [(.exit 0,⟨[(6,.same (.mem (Ty.int .i64) 8207)),(9,.dv K5)],[(8207,.many (Ty.int .i64))],[]⟩)] (.two .leaf (.two (.two (.two .leaf (.two .leaf (.two .leaf (.two (.two (.loop ⟨[(6,.same (.mem (Ty.int .i64) 8207)),(11,.dv (Ty.int .i64)),(12,.dv K5)],[(8207,.many (Ty.int .i64))],[0,1,7,8,9,10]⟩ [(.exit 2,⟨[(6,.same (.mem (Ty.int .i64) 8207)),(11,.dv (Ty.int .i64)),(12,.dv K5)],[(8207,.many (Ty.int .i64))],[0,1,7,8,9,10]⟩)] .leaf) .leaf) .leaf)))) .leaf) .leaf))) .leaf)) (.two (.reg [6] 5) .leaf)))))))
noncomputable def Ds(lp:Lp)(call:Nat->List D->Option D)(a0:D)(a1:D):Option D:=
(D.asSl a0).bind fun l1=>
(D.natOf (D.int .i64 (l1.length))).bind fun i2=>
 if i2<=1073741824 then((D.asSl a1).bind fun l3=>
(D.bin .sub (D.int .i64 (l3.length)) (D.int .i64 1)).bind fun x4=>
(D.asSl a1).bind fun l5=>
(D.idx x4 (l5.length)).bind fun i6=>
(l5[i6]?).bind fun x7=>
(D.bin .mul x7 (D.int .i64 65536)).bind fun x8=>
(D.bin .sub (D.int .i64 (l3.length)) (D.int .i64 2)).bind fun x9=>
(call 175 [a1,x9]).bind fun r10=>
(D.bin .add x8 r10).bind fun x11=>
(D.asSl a0).bind fun l12=>
(D.bin .sub (D.int .i64 (l12.length)) (D.int .i64 1)).bind fun x13=>
(lp (β:=Nat×List D) (fun(v14:List D)=>
(D.bin .geq (gx v14 1) (D.int .i64 0)).bind fun x15=>
(D.truth x15).bind fun b16=>
 if b16 then((D.asSl a0).bind fun l17=>
(D.idx (gx v14 1) (l17.length)).bind fun i18=>
(l17[i18]?).bind fun x19=>
(D.asSl (gx v14 0)).bind fun l20=>
 if List.length [x19]+l20.length<=1073741824 then((call 140 [(D.sl ([x19]++l20))]).bind fun r21=>
(call 175 [r21,(D.int .i64 (l3.length))]).bind fun r22=>
(D.bin .mul r22 (D.int .i64 4294967296)).bind fun x23=>
(D.bin .sub (D.int .i64 (l3.length)) (D.int .i64 1)).bind fun x24=>
(call 175 [r21,x24]).bind fun r25=>
(D.bin .mul r25 (D.int .i64 65536)).bind fun x26=>
(D.bin .add x23 x26).bind fun x27=>
(D.bin .sub (D.int .i64 (l3.length)) (D.int .i64 2)).bind fun x28=>
(call 175 [r21,x28]).bind fun r29=>
(D.bin .add x27 r29).bind fun x30=>
(D.bin .quo x30 x11).bind fun x31=>
(D.min2 (D.int .i64 65535) x31).bind fun x32=>
(call 146 [a1,(D.sl [x32])]).bind fun r33=>
(lp (β:=Nat×List D) (fun(v34:List D)=>
(call 78 [r21,(gx v34 1)]).bind fun r35=>
(D.truth r35).bind fun b36=>
 if b36 then((D.bin .sub (gx v34 0) (D.int .i64 1)).bind fun x37=>
(call 126 [(gx v34 1),a1]).bind fun r38=>
 some (Sum.inl [x37,r38,(D.sl ((gx v34 2).els))])) else(some (Sum.inr (0,[(gx v34 0),(gx v34 1),(D.sl ((gx v34 2).els))])))) [x32,r33,(D.sl ((gx v14 2).els))]).bind fun r39=>
(D.idx (gx v14 1) (List.length ((gx r39.2 2).els))).bind fun i40=>
(((gx r39.2 2).els)[i40]?).bind fun x41=>
(call 126 [r21,(gx r39.2 1)]).bind fun r42=>
(D.bin .sub (gx v14 1) (D.int .i64 1)).bind fun x43=>
 some (Sum.inl [r42,x43,(D.sl (List.set ((gx r39.2 2).els) i40 (gx r39.2 0)))])) else none) else(some (Sum.inr (0,[(gx v14 0),(D.sl ((gx v14 2).els))])))) [(D.sl []),x13,(D.sl (List.replicate i2 (D.int .i64 0)))]).bind fun r44=>
(call 140 [(D.sl ((gx r44.2 1).els))]).bind fun r45=>
 some (D.tup [r45,(gx r44.2 0)])) else none
theorem Lg{lp}(hlp:ap lp):ac 143 (m2 (Ds lp)):=aV (fn:=Tryz.f143) (ann:=JF) hlp (by kernel_rfl) (by kernel_rfl) (fun call a0 a1=>by kernel_rfl)
def Jq:Ann:=(.two .leaf (.two .leaf (.cut [(.normal,⟨[(5,.dv (Ty.int .i64))],[],[]⟩)] [] [] .leaf .leaf)))
noncomputable def CV(lp:Lp)(call:Nat->List D->Option D)(a0:D)(a1:D):Option D:=
(D.bin .quo a0 a1).bind fun x1=>
((D.bin .rem a0 a1).bind fun x2=>
(D.truth (D.bool (!(D.beq x2 (D.int .i64 0))))).bind fun b3=>
(if b3 then((D.bin .lss a0 (D.int .i64 0)).bind fun x4=>
(D.bin .lss a1 (D.int .i64 0)).bind fun x5=>
 D.truth (D.bool (!(D.beq x4 x5)))) else(some false)).bind fun b6=>
(D.truth (D.bool b6)).bind fun b7=>
 if b7 then((D.bin .sub x1 (D.int .i64 1)).bind fun x8=>
 some (0,[x8])) else(some (0,[x1]))).bind fun(r9:Nat×List D)=>
 some (gx r9.2 0)
theorem Mz{lp}(hlp:ap lp):ac 144 (m2 (CV lp)):=aV (fn:=Tryz.f144) (ann:=Jq) hlp (by kernel_rfl) (by kernel_rfl) (fun call a0 a1=>by kernel_rfl)
noncomputable def EM(lp:Lp)(call:Nat->List D->Option D)(a0:D):Option D:=
(D.bin .lss a0 (D.int .i64 2147483648)).bind fun x1=>
(D.truth x1).bind fun b2=>
(if b2 then((D.bin .gtr a0 (D.int .i64 (-2147483648))).bind fun x3=>
 D.truth x3) else(some false)).bind fun b4=>
 some (D.bool b4)
theorem Mq{lp}(hlp:ap lp):ac 145 (m1 (EM lp)):=bj (fn:=Tryz.f145) (ann:=.leaf) hlp (by kernel_rfl) (by kernel_rfl) (fun call a0=>by kernel_rfl)
def Kn:Ann:=(.two .leaf (.two .leaf (.two (.two .leaf (.two (.loop ⟨[(5,.same (.mem (Ty.int .i64) 8209)),(6,.dv (Ty.int .i64))],[(8209,.many (Ty.int .i64))],[0,1]⟩ [(.exit 0,⟨[(5,.same (.mem (Ty.int .i64) 8209))],[(8209,.many (Ty.int .i64))],[]⟩)] (.two .leaf (.two (.two (.two (.two .leaf (.two (.loop ⟨[(5,.same (.mem (Ty.int .i64) 8209)),(7,.dv (Ty.int .i64))],[(8209,.many (Ty.int .i64))],[0,1,6]⟩ [(.exit 2,⟨[(5,.same (.mem (Ty.int .i64) 8209))],[(8209,.many (Ty.int .i64))],[0,1,6]⟩)] (.two .leaf (.two (.two (.reg [] 21) .leaf) .leaf))) .leaf)) (.two .leaf (.two .leaf (.two (.loop ⟨[(5,.same (.mem (Ty.int .i64) 8209)),(8,.dv (Ty.int .i64)),(9,.dv (Ty.int .i64))],[(8209,.many (Ty.int .i64))],[0,1,6]⟩ [(.exit 4,⟨[(5,.same (.mem (Ty.int .i64) 8209))],[(8209,.many (Ty.int .i64))],[0,1,6]⟩)] .leaf) .leaf)))) .leaf) .leaf))) .leaf)) (.two (.reg [5] 3) .leaf))))
noncomputable def EI(lp:Lp)(call:Nat->List D->Option D)(a0:D)(a1:D):Option D:=
(D.asSl a0).bind fun l1=>
(D.asSl a1).bind fun l2=>
(D.bin .add (D.int .i64 (l1.length)) (D.int .i64 (l2.length))).bind fun x3=>
(D.bin .add x3 (D.int .i64 1)).bind fun x4=>
(D.natOf x4).bind fun i5=>
 if i5<=1073741824 then((lp (β:=Nat×List D) (fun(v6:List D)=>
(D.asSl a0).bind fun l7=>
(D.bin .lss (gx v6 0) (D.int .i64 (l7.length))).bind fun x8=>
(D.truth x8).bind fun b9=>
 if b9 then((lp (β:=Nat×List D) (fun(v10:List D)=>
(D.asSl a1).bind fun l11=>
(D.bin .lss (gx v10 0) (D.int .i64 (l11.length))).bind fun x12=>
(D.truth x12).bind fun b13=>
 if b13 then((D.bin .add (gx v6 0) (gx v10 0)).bind fun x14=>
(D.bin .add (gx v6 0) (gx v10 0)).bind fun x15=>
(D.idx x15 (List.length ((gx v10 1).els))).bind fun i16=>
(((gx v10 1).els)[i16]?).bind fun x17=>
(D.asSl a0).bind fun l18=>
(D.idx (gx v6 0) (l18.length)).bind fun i19=>
(l18[i19]?).bind fun x20=>
(D.asSl a1).bind fun l21=>
(D.idx (gx v10 0) (l21.length)).bind fun i22=>
(l21[i22]?).bind fun x23=>
(D.bin .mul x20 x23).bind fun x24=>
(D.bin .add x17 x24).bind fun x25=>
(D.idx x14 (List.length ((gx v10 1).els))).bind fun i26=>
(((gx v10 1).els)[i26]?).bind fun x27=>
(D.bin .add (gx v10 0) (D.int .i64 1)).bind fun x28=>
 some (Sum.inl [x28,(D.sl (List.set ((gx v10 1).els) i26 x25))])) else(some (Sum.inr (0,[(D.sl ((gx v10 1).els))])))) [(D.int .i64 0),(D.sl ((gx v6 1).els))]).bind fun r29=>
(lp (β:=Nat×List D) (fun(v30:List D)=>
(D.bin .lss (gx v30 1) (D.int .i64 (List.length ((gx v30 2).els)))).bind fun x31=>
(D.truth x31).bind fun b32=>
 if b32 then((D.idx (gx v30 1) (List.length ((gx v30 2).els))).bind fun i33=>
(((gx v30 2).els)[i33]?).bind fun x34=>
(D.bin .add x34 (gx v30 0)).bind fun x35=>
(D.bin .rem x35 (D.int .i64 65536)).bind fun x36=>
(D.idx (gx v30 1) (List.length ((gx v30 2).els))).bind fun i37=>
(((gx v30 2).els)[i37]?).bind fun x38=>
(D.bin .quo x35 (D.int .i64 65536)).bind fun x39=>
(D.bin .add (gx v30 1) (D.int .i64 1)).bind fun x40=>
 some (Sum.inl [x39,x40,(D.sl (List.set ((gx v30 2).els) i37 x36))])) else(some (Sum.inr (0,[(D.sl ((gx v30 2).els))])))) [(D.int .i64 0),(D.int .i64 0),(D.sl ((gx r29.2 0).els))]).bind fun r41=>
(D.bin .add (gx v6 0) (D.int .i64 1)).bind fun x42=>
 some (Sum.inl [x42,(D.sl ((gx r41.2 0).els))])) else(some (Sum.inr (0,[(D.sl ((gx v6 1).els))])))) [(D.int .i64 0),(D.sl (List.replicate i5 (D.int .i64 0)))]).bind fun r43=>
(call 140 [(D.sl ((gx r43.2 0).els))]).bind fun r44=>
 some r44) else none
theorem Lo{lp}(hlp:ap lp):ac 146 (m2 (EI lp)):=aV (fn:=Tryz.f146) (ann:=Kn) hlp (by kernel_rfl) (by kernel_rfl) (fun call a0 a1=>by kernel_rfl)
def L0:Ann:=(.two .leaf (.two .leaf (.two (.two .leaf (.two (.loop ⟨[(2,.same (.ptr iF 4098 [])),(3,.same (.ptr iF 4099 [])),(4,.same (.ptr aA 4100 [])),(5,.same (.ptr aA 8197 [])),(8,.dv (Ty.int .i64))],[(4098,.keep iF 2),(4099,.keep iF 3),(4100,.keep aA 4),(8197,.one aA (.dv aA))],[]⟩ [(.exit 0,⟨[(4,.same (.ptr aA 4100 [])),(5,.same (.ptr aA 8197 []))],[(4100,.keep aA 4),(8197,.one aA (.dv aA))],[]⟩)] (.two .leaf (.two .leaf (.two (.two (.two .leaf (.reg [] 9)) .leaf) .leaf)))) .leaf)) .leaf)))
noncomputable def EB(lp:Lp)(call:Nat->List D->Option D)(a0:D)(a1:D):Option D:=
(call 54 [(D.int .i64 0)]).bind fun r1=>
(lp (β:=Nat×List D) (fun(v2:List D)=>
(D.bin .lss (gx v2 0) (D.int .i64 3)).bind fun x3=>
(D.truth x3).bind fun b4=>
 if b4 then((D.idx (gx v2 0) 3).bind fun i5=>
(D.get a0 [i5]).bind fun x6=>
(D.idx (gx v2 0) 3).bind fun i7=>
(D.get a1 [i7]).bind fun x8=>
(call 61 [x6,x8]).bind fun r9=>
(call 57 [(gx v2 1),r9]).bind fun r10=>
(D.bin .add (gx v2 0) (D.int .i64 1)).bind fun x11=>
 some (Sum.inl [x11,r10])) else(some (Sum.inr (0,[(gx v2 1)])))) [(D.int .i64 0),r1]).bind fun r12=>
 some (gx r12.2 0)
theorem Ja{lp}(hlp:ap lp):ac 147 (m2 (EB lp)):=aV (fn:=Tryz.f147) (ann:=L0) hlp (by kernel_rfl) (by kernel_rfl) (fun call a0 a1=>by kernel_rfl)
def KS:Ann:=(.two .leaf (.two (.two .leaf (.two (.loop ⟨[(2,.same (.ptr iF 4098 [])),(6,.dv (Ty.int .i64))],[(4098,.one iF (.dv iF))],[5]⟩ [(.exit 0,⟨[(2,.same (.ptr iF 4098 []))],[(4098,.one iF (.dv iF))],[]⟩)] .leaf) .leaf)) .leaf))
noncomputable def EX(lp:Lp)(call:Nat->List D->Option D)(a0:D):Option D:=
(lp (β:=Nat×List D) (fun(v1:List D)=>
(D.bin .lss (gx v1 0) (D.int .i64 3)).bind fun x2=>
(D.truth x2).bind fun b3=>
 if b3 then((D.idx (gx v1 0) 3).bind fun i4=>
(D.fld a0 i4).bind fun x5=>
(call 54 [x5]).bind fun r6=>
(D.idx (gx v1 0) 3).bind fun i7=>
(D.set (gx v1 1) [i7] r6).bind fun x8=>
(D.bin .add (gx v1 0) (D.int .i64 1)).bind fun x9=>
 some (Sum.inl [x9,x8])) else(some (Sum.inr (0,[(gx v1 1)])))) [(D.int .i64 0),(D.st [(D.st [(D.bool false),(D.bool false),(az aU)]),(D.st [(D.bool false),(D.bool false),(az aU)]),(D.st [(D.bool false),(D.bool false),(az aU)])])]).bind fun r10=>
 some (gx r10.2 0)
theorem I8{lp}(hlp:ap lp):ac 148 (m1 (EX lp)):=bj (fn:=Tryz.f148) (ann:=KS) hlp (by kernel_rfl) (by kernel_rfl) (fun call a0=>by kernel_rfl)
def L3:Ann:=(.two .leaf (.two (.two (.loop ⟨[(0,.dv (Ty.int .i64)),(1,.dv (Ty.int .i64))],[],[]⟩ [(.exit 0,⟨[(0,.dv (Ty.int .i64))],[],[]⟩)] (.two .leaf (.two (.reg [] 5) .leaf))) .leaf) .leaf))
noncomputable def E3(lp:Lp)(call:Nat->List D->Option D)(a0:D)(a1:D):Option D:=
(lp (β:=Nat×List D) (fun(v1:List D)=>
(D.truth (D.bool (!(D.beq (gx v1 1) (D.int .i64 0))))).bind fun b2=>
 if b2 then((D.bin .rem (gx v1 0) (gx v1 1)).bind fun x3=>
 some (Sum.inl [(gx v1 1),x3])) else(some (Sum.inr (0,[(gx v1 0)])))) [a0,a1]).bind fun r4=>
(D.un .neg (gx r4.2 0)).bind fun x5=>
(D.max2 (gx r4.2 0) x5).bind fun x6=>
 some x6
theorem Lt{lp}(hlp:ap lp):ac 152 (m2 (E3 lp)):=aV (fn:=Tryz.f152) (ann:=L3) hlp (by kernel_rfl) (by kernel_rfl) (fun call a0 a1=>by kernel_rfl)
def Lk:Ann:=(.two .leaf (.two (.two .leaf (.two (.loop ⟨[(2,.same (.ptr K1 4098 [])),(3,.same (.ptr K1 4099 [])),(4,.same (.ptr K1 4100 [])),(6,.dv (Ty.int .i64))],[(4098,.one K1 (.dv K1)),(4099,.keep K1 3),(4100,.keep K1 4)],[]⟩ [(.exit 0,⟨[(2,.same (.ptr K1 4098 [])),(4,.same (.ptr K1 4100 []))],[(4098,.one K1 (.dv K1)),(4100,.keep K1 4)],[]⟩)] (.two .leaf (.two .leaf (.two (.two (.two .leaf (.reg [] 8)) .leaf) .leaf)))) .leaf)) .leaf))
noncomputable def C9(lp:Lp)(call:Nat->List D->Option D)(a0:D)(a1:D):Option D:=
(lp (β:=Nat×List D) (fun(v1:List D)=>
(D.bin .lss (gx v1 0) (D.int .i64 3)).bind fun x2=>
(D.truth x2).bind fun b3=>
 if b3 then((D.idx (gx v1 0) 3).bind fun i4=>
(D.get (gx v1 1) [i4]).bind fun x5=>
(D.idx (gx v1 0) 3).bind fun i6=>
(D.get a1 [i6]).bind fun x7=>
(D.bin .add x5 x7).bind fun x8=>
(D.idx (gx v1 0) 3).bind fun i9=>
(D.set (gx v1 1) [i9] x8).bind fun x10=>
(D.bin .add (gx v1 0) (D.int .i64 1)).bind fun x11=>
 some (Sum.inl [x11,x10])) else(some (Sum.inr (0,[(gx v1 1)])))) [(D.int .i64 0),a0]).bind fun r12=>
 some (gx r12.2 0)
theorem Ls{lp}(hlp:ap lp):ac 154 (m2 (C9 lp)):=aV (fn:=Tryz.f154) (ann:=Lk) hlp (by kernel_rfl) (by kernel_rfl) (fun call a0 a1=>by kernel_rfl)
def Mv:Ann:=(.two .leaf (.two .leaf (.two (.two .leaf (.two (.loop ⟨[(1,.same (.ptr iF 4097 [])),(2,.same (.ptr cY 4098 [])),(3,.same (.ptr aA 8195 [])),(4,.dv (Ty.int .i64))],[(4097,.keep iF 1),(4098,.keep cY 2),(8195,.one aA (.dv aA))],[]⟩ [(.exit 0,⟨[(1,.same (.ptr iF 4097 [])),(2,.same (.ptr cY 4098 [])),(3,.same (.ptr aA 8195 []))],[(4097,.keep iF 1),(4098,.keep cY 2),(8195,.one aA (.dv aA))],[]⟩)] (.two .leaf (.two (.two (.reg [] 5) .leaf) .leaf))) .leaf)) (.two .leaf (.two .leaf (.two .leaf (.two (.two .leaf (.two (.loop ⟨[(1,.same (.ptr iF 4097 [])),(2,.same (.ptr cY 4098 [])),(3,.same (.ptr aA 8195 [])),(5,.same (.ptr cY 28677 [])),(6,.dv (Ty.int .i64))],[(4097,.keep iF 1),(4098,.one cY (.dv cY)),(8195,.keep aA 3),(28677,.one cY (.dv cY))],[]⟩ [(.ret,⟨[(2,.same (.ptr cY 4098 []))],[(4098,.one cY (.dv cY))],[]⟩),(.exit 2,⟨[(2,.same (.ptr cY 4098 [])),(5,.same (.ptr cY 28677 []))],[(4098,.one cY (.dv cY)),(28677,.one cY (.dv cY))],[]⟩)] (.two .leaf (.two (.two (.two (.reg [] 10) .leaf) .leaf) .leaf))) .leaf)) .leaf)))))))
noncomputable def Da(lp:Lp)(call:Nat->List D->Option D)(a0:D):Option D:=
(call 34 [(D.int .i64 0)]).bind fun r1=>
(lp (β:=Nat×List D) (fun(v2:List D)=>
(D.bin .lss (gx v2 0) (D.int .i64 3)).bind fun x3=>
(D.truth x3).bind fun b4=>
 if b4 then((D.idx (gx v2 0) 3).bind fun i5=>
(D.get a0 [i5]).bind fun x6=>
(call 85 [(gx v2 1),x6]).bind fun r7=>
(D.bin .add (gx v2 0) (D.int .i64 1)).bind fun x8=>
 some (Sum.inl [x8,r7])) else(some (Sum.inr (0,[(gx v2 1)])))) [(D.int .i64 0),r1]).bind fun r9=>
(D.get (gx r9.2 0) [0]).bind fun x10=>
(D.truth x10).bind fun b11=>
 if b11 then(some (D.st [(D.st [(D.int .i64 0),(D.int .i64 0),(D.int .i64 0)]),(D.int .i64 30)])) else((call 83 [(gx r9.2 0)]).bind fun r12=>
(D.truth (D.bool (D.beq r12 (D.int .i64 0)))).bind fun b13=>
 if b13 then(some (D.st [(D.st [(D.int .i64 0),(D.int .i64 0),(D.int .i64 0)]),(D.int .i64 31)])) else((lp (β:=Nat×List D) (fun(v14:List D)=>
(D.bin .lss (gx v14 0) (D.int .i64 3)).bind fun x15=>
(D.truth x15).bind fun b16=>
 if b16 then((D.idx (gx v14 0) 3).bind fun i17=>
(D.get a0 [i17]).bind fun x18=>
(call 87 [x18,(gx r9.2 0)]).bind fun r19=>
(call 186 [r19]).bind fun r20=>
(D.tupAt r20 0).bind fun x21=>
(D.tupAt r20 1).bind fun x22=>
(D.un .not x22).bind fun x23=>
(D.truth x23).bind fun b24=>
 if b24 then(some (Sum.inr (0,[(D.st [(D.st [(D.int .i64 0),(D.int .i64 0),(D.int .i64 0)]),(D.int .i64 30)])]))) else((D.idx (gx v14 0) 3).bind fun i25=>
(D.set (gx v14 2) [0,i25] x21).bind fun x26=>
(D.bin .add (gx v14 0) (D.int .i64 1)).bind fun x27=>
 some (Sum.inl [x27,(gx v14 1),x26]))) else(some (Sum.inr (1,[(gx v14 1),(gx v14 2)])))) [(D.int .i64 0),(D.st [(D.st [(D.int .i64 0),(D.int .i64 0),(D.int .i64 0)]),(D.int .i64 0)]),(D.st [(D.st [(D.int .i64 0),(D.int .i64 0),(D.int .i64 0)]),(D.int .i64 0)])]).bind fun r28=>
 if r28.1=0 then(some (gx r28.2 0)) else((D.get (gx r28.2 1) [0]).bind fun x29=>
(call 187 [x29]).bind fun r30=>
(D.un .not r30).bind fun x31=>
(D.truth x31).bind fun b32=>
 if b32 then(some (D.st [(D.st [(D.int .i64 0),(D.int .i64 0),(D.int .i64 0)]),(D.int .i64 30)])) else(some (gx r28.2 1)))))
theorem Kw{lp}(hlp:ap lp):ac 155 (m1 (Da lp)):=bj (fn:=Tryz.f155) (ann:=Mv) hlp (by kernel_rfl) (by kernel_rfl) (fun call a0=>by kernel_rfl)
def JP:Ann:=(.two .leaf (.two .leaf (.two (.two .leaf (.two (.loop ⟨[(6,.same (.ptr K1 4102 [])),(8,.same (.ptr K1 4104 [])),(11,.same (.ptr K1 8203 [])),(12,.dv (Ty.int .i64))],[(4102,.keep K1 6),(4104,.keep K1 8),(8203,.keep K1 11)],[0,2]⟩ [(.ret,⟨[(10,.dv Ty.bool)],[],[]⟩),(.exit 0,⟨[],[],[]⟩)] (.two .leaf (.cut [(.normal,⟨[(6,.same (.ptr K1 4102 [])),(8,.same (.ptr K1 4104 [])),(11,.same (.ptr K1 8203 []))],[(4102,.keep K1 6),(4104,.keep K1 8),(8203,.keep K1 11)],[0,2,12]⟩),(.ret,⟨[(10,.dv Ty.bool)],[],[]⟩)] [0,2,12] [4102,4104,8203] (.two (.two (.two (.reg [] 7) .leaf) (.two (.reg [] 7) (.two (.reg [] 5) .leaf))) .leaf) .leaf))) .leaf)) .leaf)))
noncomputable def Dw(lp:Lp)(call:Nat->List D->Option D)(a0:D)(a1:D)(a2:D)(a3:D)(a4:D):Option D:=
(call 112 [a4,a3]).bind fun r1=>
(lp (β:=Nat×List D) (fun(v2:List D)=>
(D.asSl a0).bind fun l3=>
(D.bin .lss (gx v2 0) (D.int .i64 (l3.length))).bind fun x4=>
(D.truth x4).bind fun b5=>
 if b5 then(((D.asSl a0).bind fun l6=>
(D.idx (gx v2 0) (l6.length)).bind fun i7=>
(l6[i7]?).bind fun x8=>
(call 107 [a1,x8]).bind fun r9=>
(D.truth (D.bool (!(D.beq r9 a2)))).bind fun b10=>
 if b10 then(some (0,[])) else((D.asSl a0).bind fun l11=>
(D.idx (gx v2 0) (l11.length)).bind fun lZ=>
(l11[lZ]?).bind fun x13=>
(call 112 [x13,a3]).bind fun r14=>
(call 123 [r1,r14]).bind fun r15=>
(call 188 [a1,r15]).bind fun r16=>
(D.bin .lss r16 (D.int .i64 0)).bind fun x17=>
(D.truth x17).bind fun b18=>
(if b18 then(some true) else((D.truth (D.bool (D.beq r16 (D.int .i64 0)))).bind fun b19=>
 if b19 then((call 107 [r14,r1]).bind fun r20=>
(D.bin .lss r20 (D.int .i64 0)).bind fun x21=>
(D.truth x21).bind fun b22=>
 if b22 then(some true) else((call 107 [r14,r1]).bind fun r23=>
(call 107 [r1,r1]).bind fun r24=>
(D.bin .gtr r23 r24).bind fun x25=>
 D.truth x25)) else(some false))).bind fun b26=>
(D.truth (D.bool b26)).bind fun b27=>
 if b27 then(some (1,[(D.bool false)])) else(some (0,[])))).bind fun(r28:Nat×List D)=>
 if r28.1=0 then((D.bin .add (gx v2 0) (D.int .i64 1)).bind fun x29=>
 some (Sum.inl [x29])) else(some (Sum.inr (0,[(gx r28.2 0)])))) else(some (Sum.inr (1,[])))) [(D.int .i64 0)]).bind fun r30=>
 if r30.1=0 then(some (gx r30.2 0)) else(some (D.bool true))
theorem Kv{lp}(hlp:ap lp):ac 156 (m5 (Dw lp)):=Hm (fn:=Tryz.f156) (ann:=JP) hlp (by kernel_rfl) (by kernel_rfl) (fun call a0 a1 a2 a3 a4=>by kernel_rfl)
def Kj:Ann:=(.two .leaf (.cut [(.normal,⟨[(0,.dv (Ty.int .u32)),(2,.dv (Ty.int .i64))],[],[]⟩)] [] [] .leaf (.cut [(.normal,⟨[(0,.dv (Ty.int .u32)),(2,.dv (Ty.int .i64))],[],[]⟩)] [] [] .leaf .leaf)))
noncomputable def De(lp:Lp)(call:Nat->List D->Option D)(a0:D):Option D:=
((D.bin .geq a0 (D.int .u32 65536)).bind fun x1=>
(D.truth x1).bind fun b2=>
 if b2 then((D.bin .shr a0 (D.int .u64 16)).bind fun x3=>
 some (0,[x3,(D.int .i64 16)])) else(some (0,[a0,(D.int .i64 0)]))).bind fun(r4:Nat×List D)=>
((D.bin .geq (gx r4.2 0) (D.int .u32 256)).bind fun x5=>
(D.truth x5).bind fun b6=>
 if b6 then((D.bin .shr (gx r4.2 0) (D.int .u64 8)).bind fun x7=>
(D.bin .add (gx r4.2 1) (D.int .i64 8)).bind fun x8=>
 some (0,[x7,x8])) else(some (0,[(gx r4.2 0),(gx r4.2 1)]))).bind fun(r9:Nat×List D)=>
(D.conv .u8 (gx r9.2 0)).bind fun x10=>
(D.strAt (D.str ((mg (AU Tryz.f165)).getD ByteArray.empty)) x10).bind fun x11=>
(D.conv .i64 x11).bind fun x12=>
(D.bin .add (gx r9.2 1) x12).bind fun x13=>
 some x13
theorem MJ{lp}(hlp:ap lp):ac 165 (m1 (De lp)):=bj (fn:=Tryz.f165) (ann:=Kj) hlp (by kernel_rfl) (by kernel_rfl) (fun call a0=>by kernel_rfl)
noncomputable def Ee(lp:Lp)(call:Nat->List D->Option D)(a0:D):Option D:=
(D.get a0 [2]).bind fun x1=>
(D.get a0 [0]).bind fun x2=>
(D.truth x2).bind fun b3=>
 if b3 then((D.truth (D.bool (D.beq x1 (D.st (D.putParts (List.replicate 16 (D.int .u32 0)) []))))).bind fun b4=>
(if b4 then((D.get a0 [1]).bind fun x5=>
(D.un .not x5).bind fun x6=>
 D.truth x6) else(some false)).bind fun b7=>
 some (D.bool b7)) else((D.un .not (D.bool (D.beq x1 (D.st (D.putParts (List.replicate 16 (D.int .u32 0)) []))))).bind fun x8=>
(D.truth x8).bind fun b9=>
(if b9 then(some true) else((D.get a0 [1]).bind fun x10=>
(D.un .not x10).bind fun x11=>
 D.truth x11)).bind fun b12=>
 some (D.bool b12))
theorem J9{lp}(hlp:ap lp):ac 167 (m1 (Ee lp)):=bj (fn:=Tryz.f167) (ann:=.leaf) hlp (by kernel_rfl) (by kernel_rfl) (fun call a0=>by kernel_rfl)
noncomputable def DE(lp:Lp)(call:Nat->List D->Option D)(a0:D)(a1:D):Option D:=
(call 194 [a0]).bind fun r1=>
(call 194 [a1]).bind fun r2=>
(D.truth r1).bind fun b3=>
 if b3 then((D.truth r2).bind fun b4=>
 if b4 then(some (D.int .i64 0)) else(some (D.int .i64 (-1)))) else((D.truth r2).bind fun b5=>
 if b5 then(some (D.int .i64 1)) else((D.bin .lss a0 a1).bind fun x6=>
(D.truth x6).bind fun b7=>
 if b7 then(some (D.int .i64 (-1))) else((D.bin .gtr a0 a1).bind fun x8=>
(D.truth x8).bind fun b9=>
 if b9 then(some (D.int .i64 1)) else(some (D.int .i64 0)))))
theorem Mg{lp}(hlp:ap lp):ac 168 (m2 (DE lp)):=aV (fn:=Tryz.f168) (ann:=.leaf) hlp (by kernel_rfl) (by kernel_rfl) (fun call a0 a1=>by kernel_rfl)
theorem Jc{lp}(hlp:ap lp):ac 169 (fJ lp 169 Tryz.f169 .leaf):=cS hlp (by kernel_rfl) (by kernel_rfl)
end Go.Proofs.YtjjjkojfijpeeaaGreat.Sy
end
section
set_option maxRecDepth 20000
set_option maxHeartbeats 0
set_option linter.unusedVariables false
namespace Go.Proofs.YtjjjkojfijpeeaaGreat.Sy
open Go Go.Proofs
def Mo:Ann:=(.two .leaf (.two (.reg [] 5) (.two (.two .leaf (.two (.two (.reg [] 2) .leaf) .leaf)) (.two .leaf (.two .leaf (.two .leaf (.two .leaf (.two .leaf (.two (.reg [] 2) (.two .leaf (.two (.two .leaf (.two (.loop ⟨[(4,.same (.ptr aU 4100 [])),(5,.same (.ptr aU 4101 [])),(11,.same (.ptr aU 24587 [])),(15,.same (.ptr oP 32783 [])),(16,.dv (Ty.int .i64))],[(4100,.one aU (.dv aU)),(4101,.keep aU 5),(24587,.keep aU 11),(32783,.one oP (.dv oP))],[6,10]⟩ [(.exit 0,⟨[(4,.same (.ptr aU 4100 [])),(5,.same (.ptr aU 4101 [])),(15,.same (.ptr oP 32783 []))],[(4100,.one aU (.dv aU)),(4101,.keep aU 5),(32783,.one oP (.dv oP))],[10]⟩)] (.two .leaf (.two (.two (.two (.regI [] 5 (.two (.two .leaf (.two (.reg [] 19) (.two .leaf (.two (.reg [] 7) (.two (.two (.loop ⟨[(0,.same (.ptr oP 32783 [])),(5,.same (.ptr aU 65541 [])),(11,.dv (Ty.int .u64)),(12,.dv (Ty.int .u64))],[(4100,.one aU (.dv aU)),(4101,.one aU (.dv aU)),(24587,.one aU (.dv aU)),(32783,.keep oP 0),(65541,.keep aU 5)],[2,3,10]⟩ [(.exit 0,⟨[(11,.dv (Ty.int .u64))],[(4100,.one aU (.dv aU)),(4101,.one aU (.dv aU)),(24587,.one aU (.dv aU)),(32783,.keep oP 0)],[]⟩)] .leaf) .leaf) .leaf))))) .leaf)) (.cut [(.normal,⟨[(4,.same (.ptr aU 4100 [])),(5,.same (.ptr aU 4101 [])),(11,.same (.ptr aU 24587 [])),(15,.same (.ptr oP 32783 [])),(17,.dv (Ty.int .u64))],[(4100,.keep aU 4),(4101,.keep aU 5),(24587,.keep aU 11),(32783,.one oP (.dv oP))],[6,10,16]⟩)] [6,10,16] [4100,4101,24587] (.two (.regI [] 5 (.two (.two .leaf (.two .leaf (.two (.two .leaf (.two (.loop ⟨[(0,.same (.ptr oP 32783 [])),(6,.same (.ptr aU 102406 [])),(11,.dv (Ty.int .u64)),(12,.dv (Ty.int .u64)),(17,.dv (Ty.int .i64))],[(4100,.one aU (.dv aU)),(4101,.one aU (.dv aU)),(24587,.one aU (.dv aU)),(32783,.one oP (.dv oP)),(102406,.keep aU 6)],[2,3,4,16]⟩ [(.exit 0,⟨[(0,.same (.ptr oP 32783 [])),(11,.dv (Ty.int .u64)),(12,.dv (Ty.int .u64))],[(4100,.one aU (.dv aU)),(4101,.one aU (.dv aU)),(24587,.one aU (.dv aU)),(32783,.one oP (.dv oP))],[2,3]⟩)] .leaf) .leaf)) .leaf))) .leaf)) (.two (.two .leaf (.regI [] 4 (.two (.two .leaf (.two .leaf (.two (.two .leaf (.two (.loop ⟨[(0,.same (.ptr oP 32783 [])),(5,.same (.ptr aU 147461 [])),(8,.dv (Ty.int .u64)),(11,.dv (Ty.int .i64))],[(4100,.one aU (.dv aU)),(4101,.one aU (.dv aU)),(24587,.one aU (.dv aU)),(32783,.one oP (.dv oP)),(147461,.keep aU 5)],[2,3,10]⟩ [(.exit 0,⟨[(0,.same (.ptr oP 32783 [])),(8,.dv (Ty.int .u64))],[(4100,.one aU (.dv aU)),(4101,.one aU (.dv aU)),(24587,.one aU (.dv aU)),(32783,.one oP (.dv oP))],[2,3]⟩)] (.two .leaf (.two .leaf (.two (.two (.two .leaf (.two (.reg [] 15) .leaf)) .leaf) .leaf)))) .leaf)) (.reg [] 12)))) .leaf))) .leaf)) .leaf)) .leaf) .leaf))) .leaf)) (.two (.reg [] 6) .leaf))))))))))))
noncomputable def DS(lp:Lp)(call:Nat->List D->Option D)(a0:D)(a1:D):Option D:=
(call 127 [a1]).bind fun r1=>
(call 127 [a0]).bind fun r2=>
(call 121 [a0,a1]).bind fun r3=>
(D.bin .lss r3 (D.int .i64 0)).bind fun x4=>
(D.truth x4).bind fun b5=>
 if b5 then(some (D.tup [(D.st (D.putParts (List.replicate 16 (D.int .u32 0)) [])),a0])) else((D.truth (D.bool (D.beq r1 (D.int .i64 1)))).bind fun b6=>
 if b6 then((D.get a1 [0]).bind fun x7=>
(call 195 [a0,x7]).bind fun r8=>
(D.tupAt r8 0).bind fun x9=>
(D.tupAt r8 1).bind fun x10=>
 some (D.tup [x9,(D.st (D.putParts (List.replicate 16 (D.int .u32 0)) [(0,x10)]))])) else((D.bin .sub r1 (D.int .i64 1)).bind fun x11=>
(D.idx x11 16).bind fun lZ=>
(D.get a1 [lZ]).bind fun x13=>
(call 196 [x13]).bind fun r14=>
(call 197 [a1,r14]).bind fun r15=>
(D.tupAt r15 0).bind fun x16=>
(D.tupAt r15 1).bind fun x17=>
(call 197 [a0,r14]).bind fun r18=>
(D.tupAt r18 0).bind fun x19=>
(D.tupAt r18 1).bind fun x20=>
(D.stl (az oP)).bind fun l21=>
(D.stl x19).bind fun l22=>
(D.set (D.st (List.take 0 l21++(List.take 16 (List.drop 0 l22)++List.drop 16 l21))) [16] x20).bind fun x23=>
(D.bin .sub r2 r1).bind fun x24=>
(lp (β:=Nat×List D) (fun(v25:List D)=>
(D.bin .geq (gx v25 0) (D.int .i64 0)).bind fun x26=>
(D.truth x26).bind fun b27=>
 if b27 then((D.bin .add (gx v25 0) r1).bind fun x28=>
(D.idx x28 17).bind fun i29=>
(D.get (gx v25 2) [i29]).bind fun x30=>
(D.conv .u64 x30).bind fun x31=>
(D.bin .shl x31 (D.int .u64 32)).bind fun x32=>
(D.bin .add (gx v25 0) r1).bind fun x33=>
(D.bin .sub x33 (D.int .i64 1)).bind fun x34=>
(D.idx x34 17).bind fun i35=>
(D.get (gx v25 2) [i35]).bind fun x36=>
(D.conv .u64 x36).bind fun x37=>
(D.bin .or x32 x37).bind fun x38=>
(D.bin .sub r1 (D.int .i64 1)).bind fun x39=>
(D.idx x39 16).bind fun i40=>
(D.get x16 [i40]).bind fun x41=>
(D.conv .u64 x41).bind fun x42=>
(D.bin .quo x38 x42).bind fun x43=>
(D.bin .rem x38 x42).bind fun x44=>
(lp (β:=Nat×List D) (fun(v45:List D)=>
(D.bin .lss (gx v45 1) (D.int .u64 4294967296)).bind fun x46=>
(D.truth x46).bind fun b47=>
(if b47 then((D.bin .geq (gx v45 0) (D.int .u64 4294967296)).bind fun x48=>
(D.truth x48).bind fun b49=>
 if b49 then(some true) else((D.bin .sub r1 (D.int .i64 2)).bind fun x50=>
(D.idx x50 16).bind fun i51=>
(D.get x16 [i51]).bind fun x52=>
(D.conv .u64 x52).bind fun x53=>
(D.bin .mul (gx v45 0) x53).bind fun x54=>
(D.bin .shl (gx v45 1) (D.int .u64 32)).bind fun x55=>
(D.bin .add (gx v25 0) r1).bind fun x56=>
(D.bin .sub x56 (D.int .i64 2)).bind fun x57=>
(D.idx x57 17).bind fun i58=>
(D.get (gx v25 2) [i58]).bind fun x59=>
(D.conv .u64 x59).bind fun x60=>
(D.bin .or x55 x60).bind fun x61=>
(D.bin .gtr x54 x61).bind fun x62=>
 D.truth x62)) else(some false)).bind fun b63=>
(D.truth (D.bool b63)).bind fun b64=>
 if b64 then((D.bin .sub (gx v45 0) (D.int .u64 1)).bind fun x65=>
(D.bin .add (gx v45 1) x42).bind fun x66=>
 some (Sum.inl [x65,x66,(gx v45 2),(gx v45 3),(gx v45 4)])) else(some (Sum.inr (0,[(gx v45 0),(gx v45 2),(gx v45 3),(gx v45 4)])))) [x43,x44,(gx v25 1),(az aU),x16]).bind fun r67=>
((lp (β:=Nat×List D) (fun(v68:List D)=>
(D.bin .lss (gx v68 2) r1).bind fun x69=>
(D.truth x69).bind fun b70=>
 if b70 then((D.idx (gx v68 2) 16).bind fun i71=>
(D.get (gx r67.2 3) [i71]).bind fun x72=>
(D.conv .u64 x72).bind fun x73=>
(D.bin .mul (gx r67.2 0) x73).bind fun x74=>
(D.bin .add (gx v68 0) x74).bind fun x75=>
(D.bin .add (gx v25 0) (gx v68 2)).bind fun x76=>
(D.idx x76 17).bind fun i77=>
(D.get (gx v68 6) [i77]).bind fun x78=>
(D.conv .u64 x78).bind fun x79=>
(D.conv .u32 x75).bind fun x80=>
(D.conv .u64 x80).bind fun x81=>
(D.bin .sub x79 x81).bind fun x82=>
(D.bin .sub x82 (gx v68 1)).bind fun x83=>
(D.bin .add (gx v25 0) (gx v68 2)).bind fun x84=>
(D.conv .u32 x83).bind fun x85=>
(D.idx x84 17).bind fun i86=>
(D.set (gx v68 6) [i86] x85).bind fun x87=>
(D.bin .shr x83 (D.int .u64 63)).bind fun x88=>
(D.bin .shr x75 (D.int .u64 32)).bind fun x89=>
(D.bin .add (gx v68 2) (D.int .i64 1)).bind fun x90=>
 some (Sum.inl [x89,x88,x90,(gx v68 3),(gx v68 4),(gx v68 5),x87])) else(some (Sum.inr (0,[(gx v68 0),(gx v68 1),(gx v68 3),(gx v68 4),(gx v68 5),(gx v68 6)])))) [(D.int .u64 0),(D.int .u64 0),(D.int .i64 0),(gx r67.2 1),(gx r67.2 2),(gx r67.2 3),(gx v25 2)]).bind fun r91=>
(D.bin .add (gx v25 0) r1).bind fun x92=>
(D.idx x92 17).bind fun i93=>
(D.get (gx r91.2 5) [i93]).bind fun x94=>
(D.conv .u64 x94).bind fun x95=>
(D.bin .sub x95 (gx r91.2 0)).bind fun x96=>
(D.bin .sub x96 (gx r91.2 1)).bind fun x97=>
(D.bin .add (gx v25 0) r1).bind fun x98=>
(D.conv .u32 x97).bind fun x99=>
(D.idx x98 17).bind fun i100=>
(D.set (gx r91.2 5) [i100] x99).bind fun x101=>
(D.bin .shr x97 (D.int .u64 63)).bind fun x102=>
(D.truth (D.bool (D.beq x102 (D.int .u64 1)))).bind fun b103=>
 if b103 then((D.bin .sub (gx r67.2 0) (D.int .u64 1)).bind fun x104=>
(lp (β:=Nat×List D) (fun(v105:List D)=>
(D.bin .lss (gx v105 1) r1).bind fun x106=>
(D.truth x106).bind fun b107=>
 if b107 then((D.bin .add (gx v25 0) (gx v105 1)).bind fun x108=>
(D.idx x108 17).bind fun i109=>
(D.get (gx v105 5) [i109]).bind fun x110=>
(D.conv .u64 x110).bind fun x111=>
(D.idx (gx v105 1) 16).bind fun i112=>
(D.get (gx r91.2 4) [i112]).bind fun x113=>
(D.conv .u64 x113).bind fun x114=>
(D.bin .add x111 x114).bind fun x115=>
(D.bin .add (gx v105 0) x115).bind fun x116=>
(D.bin .add (gx v25 0) (gx v105 1)).bind fun x117=>
(D.conv .u32 x116).bind fun x118=>
(D.idx x117 17).bind fun i119=>
(D.set (gx v105 5) [i119] x118).bind fun x120=>
(D.bin .shr x116 (D.int .u64 32)).bind fun x121=>
(D.bin .add (gx v105 1) (D.int .i64 1)).bind fun x122=>
 some (Sum.inl [x121,x122,(gx v105 2),(gx v105 3),(gx v105 4),x120])) else(some (Sum.inr (0,[(gx v105 0),(gx v105 2),(gx v105 3),(gx v105 4),(gx v105 5)])))) [(D.int .u64 0),(D.int .i64 0),(gx r91.2 2),(gx r91.2 3),(gx r91.2 4),x101]).bind fun r123=>
(D.bin .add (gx v25 0) r1).bind fun x124=>
(D.idx x124 17).bind fun i125=>
(D.get (gx r123.2 4) [i125]).bind fun x126=>
(D.conv .u32 (gx r123.2 0)).bind fun x127=>
(D.bin .add x126 x127).bind fun x128=>
(D.idx x124 17).bind fun i129=>
(D.set (gx r123.2 4) [i129] x128).bind fun x130=>
 some (0,[x104,x130])) else(some (0,[(gx r67.2 0),x101]))).bind fun(r131:Nat×List D)=>
(D.conv .u32 (gx r131.2 0)).bind fun x132=>
(D.idx (gx v25 0) 16).bind fun i133=>
(D.set (gx r67.2 1) [i133] x132).bind fun x134=>
(D.bin .sub (gx v25 0) (D.int .i64 1)).bind fun x135=>
 some (Sum.inl [x135,x134,(gx r131.2 1)])) else(some (Sum.inr (0,[(gx v25 1),(gx v25 2)])))) [x24,(az aU),x23]).bind fun r136=>
(match (gx r136.2 1) with
| D.st l137=>(if decide (0+16<=l137.length) then((call 201 [(D.st (List.take 16 (List.drop 0 l137))),r14]).bind fun r138=>
 some (D.tup [(gx r136.2 0),r138])) else none)
| _=>none)))
theorem JW{lp}(hlp:ap lp):ac 170 (m2 (DS lp)):=aV (fn:=Tryz.f170) (ann:=Mo) hlp (by kernel_rfl) (by kernel_rfl) (fun call a0 a1=>by kernel_rfl)
noncomputable def E8(lp:Lp)(call:Nat->List D->Option D)(a0:D):Option D:=
(call 118 [(D.sl [a0])]).bind fun r1=>
(D.un .not r1).bind fun x2=>
(D.truth x2).bind fun b3=>
 if b3 then((call 119 []).bind fun r4=>
 some r4) else((D.get a0 [2]).bind fun x5=>
(call 116 [(D.bool false),x5]).bind fun r6=>
 some r6)
theorem MO{lp}(hlp:ap lp):ac 171 (m1 (E8 lp)):=bj (fn:=Tryz.f171) (ann:=.leaf) hlp (by kernel_rfl) (by kernel_rfl) (fun call a0=>by kernel_rfl)
def Jm:Ann:=(.two .leaf (.two .leaf (.cut [(.ret,⟨[(4,.same (.ptr aA 4100 [])),(5,.same (.ptr aA 4101 []))],[(4100,.one aA (.dv aA)),(4101,.one aA (.dv aA))],[]⟩),(.normal,⟨[(2,.same (.ptr aA 4098 [])),(3,.same (.ptr aA 4099 [])),(4,.same (.ptr aA 4100 [])),(5,.same (.ptr aA 4101 []))],[(4098,.keep aA 2),(4099,.keep aA 3),(4100,.one aA (.dv aA)),(4101,.one aA (.dv aA))],[]⟩)] [] [4098,4099] (.two .leaf (.two .leaf (.two (.two .leaf (.two .leaf (.two (.two (.reg [] 7) (.cut [(.normal,⟨[(4,.same (.ptr aA 4100 [])),(5,.same (.ptr aA 4101 [])),(10,.dv (Ty.int .i64)),(11,.dv (Ty.int .i64))],[(4100,.keep aA 4),(4101,.keep aA 5)],[]⟩)] [] [4100,4101] .leaf .leaf)) .leaf))) .leaf))) (.two .leaf (.two .leaf (.cut [(.normal,⟨[(3,.same (.ptr aA 4099 [])),(4,.same (.ptr aA 4100 [])),(5,.same (.ptr aA 4101 [])),(13,.same (.ptr aU 16397 [])),(14,.same (.ptr aA 20494 []))],[(4099,.keep aA 3),(4100,.keep aA 4),(4101,.keep aA 5),(16397,.one aU (.dv aU)),(20494,.one aA (.dv aA))],[]⟩)] [] [4099,4100,4101] (.two .leaf (.two (.reg [] 7) .leaf)) (.two (.reg [] 5) .leaf)))))))
noncomputable def DX(lp:Lp)(call:Nat->List D->Option D)(a0:D)(a1:D):Option D:=
(call 118 [(D.sl [a0,a1])]).bind fun r1=>
(D.un .not r1).bind fun x2=>
(D.truth x2).bind fun b3=>
(if b3 then(some true) else((call 129 [a1]).bind fun r4=>
 D.truth (D.bool (D.beq r4 (D.int .i64 0))))).bind fun b5=>
(D.truth (D.bool b5)).bind fun b6=>
 if b6 then((call 119 []).bind fun r7=>
(call 119 []).bind fun r8=>
 some (D.tup [r7,r8])) else(((call 202 [a0]).bind fun r9=>
(D.tupAt r9 0).bind fun x10=>
(D.tupAt r9 1).bind fun x11=>
(D.truth x11).bind fun b12=>
(if b12 then(D.truth (D.bool (!(D.beq x10 (D.int .i64 (-9223372036854775808)))))) else(some false)).bind fun b13=>
(D.truth (D.bool b13)).bind fun b14=>
 if b14 then((call 202 [a1]).bind fun r15=>
(D.tupAt r15 0).bind fun x16=>
(D.tupAt r15 1).bind fun x17=>
(D.truth x17).bind fun b18=>
(if b18 then(D.truth (D.bool (!(D.beq x16 (D.int .i64 (-9223372036854775808)))))) else(some false)).bind fun b19=>
(D.truth (D.bool b19)).bind fun b20=>
 if b20 then((D.bin .quo x10 x16).bind fun x21=>
(D.bin .rem x10 x16).bind fun x22=>
((D.truth (D.bool (!(D.beq x22 (D.int .i64 0))))).bind fun b23=>
(if b23 then((D.bin .lss x22 (D.int .i64 0)).bind fun x24=>
(D.bin .lss x16 (D.int .i64 0)).bind fun x25=>
 D.truth (D.bool (!(D.beq x24 x25)))) else(some false)).bind fun b26=>
(D.truth (D.bool b26)).bind fun b27=>
 if b27 then((D.bin .sub x21 (D.int .i64 1)).bind fun x28=>
(D.bin .add x22 x16).bind fun x29=>
 some (0,[x28,x29])) else(some (0,[x21,x22]))).bind fun(r30:Nat×List D)=>
(call 54 [(gx r30.2 0)]).bind fun r31=>
(call 54 [(gx r30.2 1)]).bind fun r32=>
 some (0,[r31,r32])) else(some (1,[(D.st [(D.bool false),(D.bool false),(az aU)]),(D.st [(D.bool false),(D.bool false),(az aU)])]))) else(some (1,[(D.st [(D.bool false),(D.bool false),(az aU)]),(D.st [(D.bool false),(D.bool false),(az aU)])]))).bind fun(r33:Nat×List D)=>
 if r33.1=0 then(some (D.tup [(gx r33.2 0),(gx r33.2 1)])) else((D.get a0 [2]).bind fun x34=>
(D.get a1 [2]).bind fun x35=>
(call 170 [x34,x35]).bind fun r36=>
(D.tupAt r36 0).bind fun x37=>
(D.tupAt r36 1).bind fun x38=>
(D.get a0 [1]).bind fun x39=>
(D.get a1 [1]).bind fun x40=>
(call 116 [(D.bool (!(D.beq x39 x40))),x37]).bind fun r41=>
((D.truth (D.bool (!(D.beq x38 (D.st (D.putParts (List.replicate 16 (D.int .u32 0)) [])))))).bind fun b42=>
(if b42 then((D.get a0 [1]).bind fun x43=>
(D.get a1 [1]).bind fun x44=>
 D.truth (D.bool (!(D.beq x43 x44)))) else(some false)).bind fun b45=>
(D.truth (D.bool b45)).bind fun b46=>
 if b46 then((call 54 [(D.int .i64 1)]).bind fun r47=>
(call 203 [r41,r47]).bind fun r48=>
(D.get a1 [2]).bind fun x49=>
(call 122 [x49,x38]).bind fun r50=>
 some (0,[r50,r48])) else(some (0,[x38,r41]))).bind fun(r51:Nat×List D)=>
(D.get a1 [1]).bind fun x52=>
(call 116 [x52,(gx r51.2 0)]).bind fun r53=>
 some (D.tup [(gx r51.2 1),r53])))
theorem Ll{lp}(hlp:ap lp):ac 172 (m2 (DX lp)):=aV (fn:=Tryz.f172) (ann:=Jm) hlp (by kernel_rfl) (by kernel_rfl) (fun call a0 a1=>by kernel_rfl)
def GX:Ann:=(.two .leaf (.two .leaf (.two .leaf (.two (.reg [] 10) (.two (.reg [] 14) .leaf)))))
theorem KL{lp}(hlp:ap lp):ac 173 (fJ lp 173 Tryz.f173 GX):=cS hlp (by kernel_rfl) (by kernel_rfl)
def Hr:Ann:=(.two .leaf (.two .leaf (.two (.reg [] 12) (.two (.reg [] 12) .leaf))))
theorem JC{lp}(hlp:ap lp):ac 174 (fJ lp 174 Tryz.f174 Hr):=cS hlp (by kernel_rfl) (by kernel_rfl)
noncomputable def CU(lp:Lp)(call:Nat->List D->Option D)(a0:D)(a1:D):Option D:=
(D.bin .lss a1 (D.int .i64 0)).bind fun x1=>
(D.truth x1).bind fun b2=>
 if b2 then(some (D.int .i64 0)) else((call 141 [a0,a1]).bind fun r3=>
 some r3)
theorem MK{lp}(hlp:ap lp):ac 175 (m2 (CU lp)):=aV (fn:=Tryz.f175) (ann:=.leaf) hlp (by kernel_rfl) (by kernel_rfl) (fun call a0 a1=>by kernel_rfl)
def Mn:Ann:=(.two .leaf (.two .leaf (.two .leaf (.two .leaf (.two .leaf (.two .leaf (.cut [(.normal,⟨[(6,.dv (Ty.int .i64))],[],[]⟩)] [] [] .leaf .leaf)))))))
noncomputable def Eo(lp:Lp)(call:Nat->List D->Option D)(a0:D):Option D:=
(call 76 [a0]).bind fun r1=>
(D.un .not r1).bind fun x2=>
(D.truth x2).bind fun b3=>
 if b3 then(some (D.tup [(D.int .i64 0),(D.bool false)])) else((call 34 [(D.int .i64 (-9223372036854775808))]).bind fun r4=>
(call 34 [(D.int .i64 9223372036854775807)]).bind fun r5=>
(call 32 [a0,r4]).bind fun r6=>
(D.bin .lss r6 (D.int .i64 0)).bind fun x7=>
(D.truth x7).bind fun b8=>
(if b8 then(some true) else((call 32 [a0,r5]).bind fun r9=>
(D.bin .gtr r9 (D.int .i64 0)).bind fun x10=>
 D.truth x10)).bind fun b11=>
(D.truth (D.bool b11)).bind fun b12=>
 if b12 then(some (D.tup [(D.int .i64 0),(D.bool false)])) else((D.get a0 [2,1]).bind fun x13=>
(D.conv .u64 x13).bind fun x14=>
(D.bin .mul x14 (D.int .u64 4294967296)).bind fun x15=>
(D.get a0 [2,0]).bind fun x16=>
(D.conv .u64 x16).bind fun x17=>
(D.bin .add x15 x17).bind fun x18=>
(D.conv .i64 x18).bind fun x19=>
((D.get a0 [1]).bind fun x20=>
(D.truth x20).bind fun b21=>
 if b21 then((D.un .neg x19).bind fun x22=>
 some (0,[x22])) else(some (0,[x19]))).bind fun(r23:Nat×List D)=>
 some (D.tup [(gx r23.2 0),(D.bool true)])))
theorem Ka{lp}(hlp:ap lp):ac 186 (m1 (Eo lp)):=bj (fn:=Tryz.f186) (ann:=Mn) hlp (by kernel_rfl) (by kernel_rfl) (fun call a0=>by kernel_rfl)
def I3:Ann:=(.two .leaf (.two (.two .leaf (.two (.loop ⟨[(1,.same (.ptr K1 4097 [])),(3,.dv (Ty.int .i64))],[(4097,.keep K1 1)],[]⟩ [(.ret,⟨[(2,.dv Ty.bool)],[],[]⟩),(.exit 0,⟨[],[],[]⟩)] .leaf) .leaf)) .leaf))
noncomputable def Es(lp:Lp)(call:Nat->List D->Option D)(a0:D):Option D:=
(lp (β:=Nat×List D) (fun(v1:List D)=>
(D.bin .lss (gx v1 0) (D.int .i64 3)).bind fun x2=>
(D.truth x2).bind fun b3=>
 if b3 then((D.idx (gx v1 0) 3).bind fun i4=>
(D.get a0 [i4]).bind fun x5=>
(D.bin .geq x5 (D.int .i64 2305843009213693952)).bind fun x6=>
(D.truth x6).bind fun b7=>
(if b7 then(some true) else((D.idx (gx v1 0) 3).bind fun i8=>
(D.get a0 [i8]).bind fun x9=>
(D.bin .leq x9 (D.int .i64 (-2305843009213693952))).bind fun x10=>
 D.truth x10)).bind fun b11=>
(D.truth (D.bool b11)).bind fun b12=>
 if b12 then(some (Sum.inr (0,[(D.bool false)]))) else((D.bin .add (gx v1 0) (D.int .i64 1)).bind fun x13=>
 some (Sum.inl [x13]))) else(some (Sum.inr (1,[])))) [(D.int .i64 0)]).bind fun r14=>
 if r14.1=0 then(some (gx r14.2 0)) else(some (D.bool true))
theorem Jj{lp}(hlp:ap lp):ac 187 (m1 (Es lp)):=bj (fn:=Tryz.f187) (ann:=I3) hlp (by kernel_rfl) (by kernel_rfl) (fun call a0=>by kernel_rfl)
def Md:Ann:=(.two .leaf (.two (.two .leaf (.two (.loop ⟨[(2,.same (.ptr K1 4098 [])),(3,.same (.ptr K1 4099 [])),(5,.dv (Ty.int .i64))],[(4098,.keep K1 2),(4099,.keep K1 3)],[]⟩ [(.ret,⟨[(4,.dv (Ty.int .i64))],[],[]⟩),(.exit 0,⟨[],[],[]⟩)] (.two .leaf (.two (.two (.two .leaf (.two (.two (.reg [] 9) .leaf) .leaf)) .leaf) .leaf))) .leaf)) .leaf))
noncomputable def EJ(lp:Lp)(call:Nat->List D->Option D)(a0:D)(a1:D):Option D:=
(lp (β:=Nat×List D) (fun(v1:List D)=>
(D.bin .lss (gx v1 0) (D.int .i64 3)).bind fun x2=>
(D.truth x2).bind fun b3=>
 if b3 then((D.idx (gx v1 0) 3).bind fun i4=>
(D.get a0 [i4]).bind fun x5=>
(D.truth (D.bool (!(D.beq x5 (D.int .i64 0))))).bind fun b6=>
 if b6 then((D.idx (gx v1 0) 3).bind fun i7=>
(D.get a0 [i7]).bind fun x8=>
(call 215 [x8]).bind fun r9=>
(D.idx (gx v1 0) 3).bind fun i10=>
(D.get a1 [i10]).bind fun x11=>
(call 215 [x11]).bind fun r12=>
(D.bin .mul r9 r12).bind fun x13=>
 some (Sum.inr (0,[x13]))) else((D.bin .add (gx v1 0) (D.int .i64 1)).bind fun x14=>
 some (Sum.inl [x14]))) else(some (Sum.inr (1,[])))) [(D.int .i64 0)]).bind fun r15=>
 if r15.1=0 then(some (gx r15.2 0)) else(some (D.int .i64 0))
theorem Mt{lp}(hlp:ap lp):ac 188 (m2 (EJ lp)):=aV (fn:=Tryz.f188) (ann:=Md) hlp (by kernel_rfl) (by kernel_rfl) (fun call a0 a1=>by kernel_rfl)
noncomputable def El(lp:Lp)(call:Nat->List D->Option D)(a0:D):Option D:=
 some (D.bool (!(D.beq a0 a0)))
theorem MH{lp}(hlp:ap lp):ac 194 (m1 (El lp)):=bj (fn:=Tryz.f194) (ann:=.leaf) hlp (by kernel_rfl) (by kernel_rfl) (fun call a0=>by kernel_rfl)
def LY:Ann:=(.two .leaf (.two .leaf (.two (.two .leaf (.two (.loop ⟨[(2,.same (.ptr aU 4098 [])),(4,.same (.ptr aU 4100 [])),(6,.dv (Ty.int .u64)),(7,.dv (Ty.int .i64))],[(4098,.keep aU 2),(4100,.one aU (.dv aU))],[1]⟩ [(.exit 0,⟨[(4,.same (.ptr aU 4100 [])),(6,.dv (Ty.int .u64))],[(4100,.one aU (.dv aU))],[]⟩)] .leaf) .leaf)) .leaf)))
noncomputable def DC(lp:Lp)(call:Nat->List D->Option D)(a0:D)(a1:D):Option D:=
(lp (β:=Nat×List D) (fun(v1:List D)=>
(D.bin .geq (gx v1 1) (D.int .i64 0)).bind fun x2=>
(D.truth x2).bind fun b3=>
 if b3 then((D.bin .shl (gx v1 0) (D.int .u64 32)).bind fun x4=>
(D.idx (gx v1 1) 16).bind fun i5=>
(D.get a0 [i5]).bind fun x6=>
(D.conv .u64 x6).bind fun x7=>
(D.bin .or x4 x7).bind fun x8=>
(D.conv .u64 a1).bind fun x9=>
(D.bin .quo x8 x9).bind fun x10=>
(D.conv .u32 x10).bind fun x11=>
(D.idx (gx v1 1) 16).bind fun lZ=>
(D.set (gx v1 2) [lZ] x11).bind fun x13=>
(D.conv .u64 a1).bind fun x14=>
(D.bin .rem x8 x14).bind fun x15=>
(D.bin .sub (gx v1 1) (D.int .i64 1)).bind fun x16=>
 some (Sum.inl [x15,x16,x13])) else(some (Sum.inr (0,[(gx v1 0),(gx v1 2)])))) [(D.int .u64 0),(D.int .i64 15),(az aU)]).bind fun r17=>
(D.conv .u32 (gx r17.2 0)).bind fun x18=>
 some (D.tup [(gx r17.2 1),x18])
theorem L7{lp}(hlp:ap lp):ac 195 (m2 (DC lp)):=aV (fn:=Tryz.f195) (ann:=LY) hlp (by kernel_rfl) (by kernel_rfl) (fun call a0 a1=>by kernel_rfl)
noncomputable def Eh(lp:Lp)(call:Nat->List D->Option D)(a0:D):Option D:=
(call 165 [a0]).bind fun r1=>
(D.bin .sub (D.int .i64 32) r1).bind fun x2=>
 some x2
theorem LV{lp}(hlp:ap lp):ac 196 (m1 (Eh lp)):=bj (fn:=Tryz.f196) (ann:=.leaf) hlp (by kernel_rfl) (by kernel_rfl) (fun call a0=>by kernel_rfl)
def LR:Ann:=(.two .leaf (.two .leaf (.two .leaf (.two (.two .leaf (.two (.loop ⟨[(2,.same (.ptr aU 4098 [])),(4,.same (.ptr aU 4100 [])),(6,.same (.ptr aU 8198 [])),(7,.dv (Ty.int .u64)),(9,.dv (Ty.int .i64))],[(4098,.keep aU 2),(4100,.keep aU 4),(8198,.one aU (.dv aU))],[1]⟩ [(.exit 0,⟨[(4,.same (.ptr aU 4100 [])),(6,.same (.ptr aU 8198 [])),(7,.dv (Ty.int .u64))],[(4100,.keep aU 4),(8198,.one aU (.dv aU))],[]⟩)] .leaf) .leaf)) .leaf))))
noncomputable def DO(lp:Lp)(call:Nat->List D->Option D)(a0:D)(a1:D):Option D:=
(lp (β:=Nat×List D) (fun(v1:List D)=>
(D.bin .lss (gx v1 1) (D.int .i64 16)).bind fun x2=>
(D.truth x2).bind fun b3=>
 if b3 then((D.idx (gx v1 1) 16).bind fun i4=>
(D.get a0 [i4]).bind fun x5=>
(D.conv .u64 x5).bind fun x6=>
(D.bin .shl x6 a1).bind fun x7=>
(D.bin .or (gx v1 0) x7).bind fun x8=>
(D.conv .u32 x8).bind fun x9=>
(D.idx (gx v1 1) 16).bind fun i10=>
(D.set (gx v1 2) [i10] x9).bind fun x11=>
(D.bin .shr x8 (D.int .u64 32)).bind fun x12=>
(D.bin .add (gx v1 1) (D.int .i64 1)).bind fun x13=>
 some (Sum.inl [x12,x13,x11])) else(some (Sum.inr (0,[(gx v1 0),(gx v1 2)])))) [(D.int .u64 0),(D.int .i64 0),(az aU)]).bind fun r14=>
(D.conv .u32 (gx r14.2 0)).bind fun x15=>
 some (D.tup [(gx r14.2 1),x15])
theorem MM{lp}(hlp:ap lp):ac 197 (m2 (DO lp)):=aV (fn:=Tryz.f197) (ann:=LR) hlp (by kernel_rfl) (by kernel_rfl) (fun call a0 a1=>by kernel_rfl)
def MG:Ann:=(.two .leaf (.two .leaf (.two (.two .leaf (.two (.loop ⟨[(2,.same (.ptr aU 4098 [])),(4,.same (.ptr aU 4100 [])),(5,.same (.ptr aU 8197 [])),(8,.dv (Ty.int .i64))],[(4098,.keep aU 2),(4100,.keep aU 4),(8197,.one aU (.dv aU))],[1]⟩ [(.exit 0,⟨[(4,.same (.ptr aU 4100 [])),(5,.same (.ptr aU 8197 []))],[(4100,.keep aU 4),(8197,.one aU (.dv aU))],[]⟩)] (.two .leaf (.two .leaf (.two (.two (.two .leaf (.two .leaf (.cut [(.normal,⟨[(2,.same (.ptr aU 4098 [])),(4,.same (.ptr aU 4100 [])),(5,.same (.ptr aU 8197 [])),(7,.dv (Ty.int .u64))],[(4098,.keep aU 2),(4100,.keep aU 4),(8197,.keep aU 5)],[1,6,8]⟩)] [1,6,8] [4098,4100,8197] .leaf .leaf))) .leaf) .leaf)))) .leaf)) .leaf)))
noncomputable def ER(lp:Lp)(call:Nat->List D->Option D)(a0:D)(a1:D):Option D:=
(lp (β:=Nat×List D) (fun(v1:List D)=>
(D.bin .lss (gx v1 0) (D.int .i64 16)).bind fun x2=>
(D.truth x2).bind fun b3=>
 if b3 then(((D.bin .add (gx v1 0) (D.int .i64 1)).bind fun x4=>
(D.bin .lss x4 (D.int .i64 16)).bind fun x5=>
(D.truth x5).bind fun b6=>
 if b6 then((D.bin .add (gx v1 0) (D.int .i64 1)).bind fun x7=>
(D.idx x7 16).bind fun i8=>
(D.get a0 [i8]).bind fun x9=>
(D.conv .u64 x9).bind fun x10=>
 some (0,[x10])) else(some (0,[(D.int .u64 0)]))).bind fun(r11:Nat×List D)=>
(D.bin .shl (gx r11.2 0) (D.int .u64 32)).bind fun x12=>
(D.idx (gx v1 0) 16).bind fun i13=>
(D.get a0 [i13]).bind fun x14=>
(D.conv .u64 x14).bind fun x15=>
(D.bin .or x12 x15).bind fun x16=>
(D.bin .shr x16 a1).bind fun x17=>
(D.conv .u32 x17).bind fun x18=>
(D.idx (gx v1 0) 16).bind fun i19=>
(D.set (gx v1 1) [i19] x18).bind fun x20=>
(D.bin .add (gx v1 0) (D.int .i64 1)).bind fun x21=>
 some (Sum.inl [x21,x20])) else(some (Sum.inr (0,[(gx v1 1)])))) [(D.int .i64 0),(az aU)]).bind fun r22=>
 some (gx r22.2 0)
theorem Lm{lp}(hlp:ap lp):ac 201 (m2 (ER lp)):=aV (fn:=Tryz.f201) (ann:=MG) hlp (by kernel_rfl) (by kernel_rfl) (fun call a0 a1=>by kernel_rfl)
noncomputable def Aa(lp:Lp)(call:Nat->List D->Option D)(a0:D):Option D:=
(call 118 [(D.sl [a0])]).bind fun r1=>
(D.un .not r1).bind fun x2=>
(D.truth x2).bind fun b3=>
(if b3 then(some true) else((call 217 [a0]).bind fun r4=>
(D.bin .gtr r4 (D.int .i64 64)).bind fun x5=>
 D.truth x5)).bind fun b6=>
(D.truth (D.bool b6)).bind fun b7=>
 if b7 then(some (D.tup [(D.int .i64 0),(D.bool false)])) else((D.get a0 [2,1]).bind fun x8=>
(D.conv .u64 x8).bind fun x9=>
(D.bin .shl x9 (D.int .u64 32)).bind fun x10=>
(D.get a0 [2,0]).bind fun x11=>
(D.conv .u64 x11).bind fun x12=>
(D.bin .or x10 x12).bind fun x13=>
(D.get a0 [1]).bind fun x14=>
(D.truth x14).bind fun b15=>
(if b15 then((D.bin .leq x13 (D.int .u64 9223372036854775808)).bind fun x16=>
 D.truth x16) else(some false)).bind fun b17=>
(D.truth (D.bool b17)).bind fun b18=>
 if b18 then((D.un .neg x13).bind fun x19=>
(D.conv .i64 x19).bind fun x20=>
 some (D.tup [x20,(D.bool true)])) else((D.get a0 [1]).bind fun x21=>
(D.un .not x21).bind fun x22=>
(D.truth x22).bind fun b23=>
(if b23 then((D.bin .lss x13 (D.int .u64 9223372036854775808)).bind fun x24=>
 D.truth x24) else(some false)).bind fun b25=>
(D.truth (D.bool b25)).bind fun b26=>
 if b26 then((D.conv .i64 x13).bind fun x27=>
 some (D.tup [x27,(D.bool true)])) else(some (D.tup [(D.int .i64 0),(D.bool false)]))))
theorem KJ{lp}(hlp:ap lp):ac 202 (m1 (Aa lp)):=bj (fn:=Tryz.f202) (ann:=.leaf) hlp (by kernel_rfl) (by kernel_rfl) (fun call a0=>by kernel_rfl)
def Ha:Ann:=(.two .leaf (.two (.reg [] 4) .leaf))
theorem MN{lp}(hlp:ap lp):ac 203 (fJ lp 203 Tryz.f203 Ha):=cS hlp (by kernel_rfl) (by kernel_rfl)
noncomputable def D5(lp:Lp)(call:Nat->List D->Option D)(a0:D):Option D:=
(D.bin .lss a0 (D.int .i64 0)).bind fun x1=>
(D.truth x1).bind fun b2=>
 if b2 then(some (D.int .i64 (-1))) else((D.bin .gtr a0 (D.int .i64 0)).bind fun x3=>
(D.truth x3).bind fun b4=>
 if b4 then(some (D.int .i64 1)) else(some (D.int .i64 0)))
theorem KI{lp}(hlp:ap lp):ac 215 (m1 (D5 lp)):=bj (fn:=Tryz.f215) (ann:=.leaf) hlp (by kernel_rfl) (by kernel_rfl) (fun call a0=>by kernel_rfl)
noncomputable def E5(lp:Lp)(call:Nat->List D->Option D)(a0:D):Option D:=
(D.get a0 [2]).bind fun x1=>
(call 127 [x1]).bind fun r2=>
(call 118 [(D.sl [a0])]).bind fun r3=>
(D.un .not r3).bind fun x4=>
(D.truth x4).bind fun b5=>
(if b5 then(some true) else(D.truth (D.bool (D.beq r2 (D.int .i64 0))))).bind fun b6=>
(D.truth (D.bool b6)).bind fun b7=>
 if b7 then(some (D.int .i64 0)) else((D.bin .sub r2 (D.int .i64 1)).bind fun x8=>
(D.bin .mul (D.int .i64 32) x8).bind fun x9=>
(D.bin .sub r2 (D.int .i64 1)).bind fun x10=>
(D.idx x10 16).bind fun i11=>
(D.get a0 [2,i11]).bind fun x12=>
(call 165 [x12]).bind fun r13=>
(D.bin .add x9 r13).bind fun x14=>
 some x14)
theorem Lb{lp}(hlp:ap lp):ac 217 (m1 (E5 lp)):=bj (fn:=Tryz.f217) (ann:=.leaf) hlp (by kernel_rfl) (by kernel_rfl) (fun call a0=>by kernel_rfl)
end Go.Proofs.YtjjjkojfijpeeaaGreat.Sy
end
