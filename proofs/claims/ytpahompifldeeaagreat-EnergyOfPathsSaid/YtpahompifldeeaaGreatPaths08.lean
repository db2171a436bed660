/- Part 8 of the proof that EnergyOfPaths answers true at every input -/
import Derived.Test.YtpahompifldeeaaGreatPaths07
set_option linter.unusedVariables false
set_option linter.unusedSimpArgs false
set_option linter.unnecessarySimpa false
set_option maxRecDepth 20000
namespace Go.Proofs.YtpahompifldeeaaGreat
noncomputable section
set_option maxHeartbeats 0
noncomputable section
namespace Sy
open Go Go.Proofs
def Ki:Ann:=(.tl (.tl (.tl (.two (.tl (.two (.loop ⟨[(2,.sp aW 4098),(3,.sp aW 4099),(4,.sp aW 4100),(6,.sp aW 8198),(7,.dv (Ty.int .u64)),(9,.di)],[(4098,.keep aW 2),(4099,.keep aW 3),(4100,.keep aW 4),(8198,.one aW (.dv aW))],[]⟩ [(.exit 0,⟨[(4,.sp aW 4100),(6,.sp aW 8198),(7,.dv (Ty.int .u64))],[(4100,.keep aW 4),(8198,.one aW (.dv aW))],[]⟩)] (.tl (.tl (.two (.two (.tl (.two (.reg [] 11) .leaf)) .leaf) .leaf)))) .leaf)) .leaf))))
def C5(lp:Lp)(call:Ca)(a0:D)(a1:D):Option D:=
(lp (β:=Nat×List D) (fun v1=>
(D.bin .lss (gx v1 1) (Jn 16)).bind fun x2=>
(D.truth x2).bind fun b3=>
 if b3 then((D.idx (gx v1 1) 16).bind fun i4=>
(D.get a0 [i4]).bind fun x5=>
(D.conv .u64 x5).bind fun x6=>
(D.idx (gx v1 1) 16).bind fun i7=>
(D.get a1 [i7]).bind fun x8=>
(D.conv .u64 x8).bind fun x9=>
(D.bin .add x6 x9).bind fun x10=>
(D.bin .add (gx v1 0) x10).bind fun x11=>
(D.conv .u32 x11).bind fun x12=>
(D.idx (gx v1 1) 16).bind fun i13=>
(D.set (gx v1 2) [i13] x12).bind fun x14=>
(D.bin .shr x11 (D.int .u64 32)).bind fun x15=>
(D.bin .add (gx v1 1) (Jn 1)).bind fun x16=>
 some (Sum.inl [x15,x16,x14])) else(some (Sum.inr (0,[(gx v1 0),(gx v1 2)])))) [(D.int .u64 0),(Jn 0),(aF aW)]).bind fun r17=>
 some (D.tup [(gx r17.2 1),(D.bool (D.beq (gx r17.2 0) (D.int .u64 0)))])
theorem LQ{lp}(hlp:ak lp):ac 120 (m2 (C5 lp)):=aO (v:=0) (fn:=Tryz.f155) (ann:=Ki) hlp
def Kj:Ann:=(.tl (.two (.tl (.two (.loop ⟨[(2,.sp aW 4098),(3,.sp aW 4099),(5,.di)],[(4098,.keep aW 2),(4099,.keep aW 3)],[]⟩ [(.ret,⟨[(4,.di)],[],[]⟩),(.exit 0,⟨[],[],[]⟩)] (.tl (.two (.two (.two (.reg [] 6) (.two (.two (.reg [] 7) .leaf) .leaf)) .leaf) .leaf))) .leaf)) .leaf))
def C6(lp:Lp)(call:Ca)(a0:D)(a1:D):Option D:=
(lp (β:=Nat×List D) (fun v1=>
(D.bin .geq (gx v1 0) (Jn 0)).bind fun x2=>
(D.truth x2).bind fun b3=>
 if b3 then((D.idx (gx v1 0) 16).bind fun i4=>
(D.get a0 [i4]).bind fun x5=>
(D.idx (gx v1 0) 16).bind fun i6=>
(D.get a1 [i6]).bind fun x7=>
(D.truth (D.bool (!(D.beq x5 x7)))).bind fun b8=>
 if b8 then((D.idx (gx v1 0) 16).bind fun i9=>
(D.get a0 [i9]).bind fun x10=>
(D.idx (gx v1 0) 16).bind fun i11=>
(D.get a1 [i11]).bind fun x12=>
(call 168 [x10,x12]).bind fun r13=>
 some (Sum.inr (0,[r13]))) else((D.bin .sub (gx v1 0) (Jn 1)).bind fun x14=>
 some (Sum.inl [x14]))) else(some (Sum.inr (1,[])))) [(Jn 15)]).bind fun r15=>
 if r15.1=0 then(some (gx r15.2 0)) else(some (Jn 0))
theorem LR{lp}(hlp:ak lp):ac 121 (m2 (C6 lp)):=aO (v:=0) (fn:=Tryz.f156) (ann:=Kj) hlp
def Kk:Ann:=(.tl (.tl (.tl (.two (.tl (.two (.loop ⟨[(2,.sp aW 4098),(3,.sp aW 4099),(4,.sp aW 4100),(5,.sp aW 8197),(6,.dv (Ty.int .u64)),(9,.di)],[(4098,.keep aW 2),(4099,.keep aW 3),(4100,.keep aW 4),(8197,.one aW (.dv aW))],[]⟩ [(.exit 0,⟨[(4,.sp aW 4100),(5,.sp aW 8197)],[(4100,.keep aW 4),(8197,.one aW (.dv aW))],[]⟩)] (.tl (.tl (.two (.two (.tl (.two (.reg [] 11) .leaf)) .leaf) .leaf)))) .leaf)) .leaf))))
def C7(lp:Lp)(call:Ca)(a0:D)(a1:D):Option D:=
(lp (β:=Nat×List D) (fun v1=>
(D.bin .lss (gx v1 1) (Jn 16)).bind fun x2=>
(D.truth x2).bind fun b3=>
 if b3 then((D.idx (gx v1 1) 16).bind fun i4=>
(D.get a0 [i4]).bind fun x5=>
(D.conv .u64 x5).bind fun x6=>
(D.idx (gx v1 1) 16).bind fun i7=>
(D.get a1 [i7]).bind fun x8=>
(D.conv .u64 x8).bind fun x9=>
(D.bin .sub x6 x9).bind fun x10=>
(D.bin .sub x10 (gx v1 0)).bind fun x11=>
(D.conv .u32 x11).bind fun x12=>
(D.idx (gx v1 1) 16).bind fun i13=>
(D.set (gx v1 2) [i13] x12).bind fun x14=>
(D.bin .shr x11 (D.int .u64 63)).bind fun x15=>
(D.bin .add (gx v1 1) (Jn 1)).bind fun x16=>
 some (Sum.inl [x15,x16,x14])) else(some (Sum.inr (0,[(gx v1 2)])))) [(D.int .u64 0),(Jn 0),(aF aW)]).bind fun r17=>
 some (gx r17.2 0)
theorem LS{lp}(hlp:ak lp):ac 122 (m2 (C7 lp)):=aO (v:=0) (fn:=Tryz.f157) (ann:=Kk) hlp
def C8(lp:Lp)(call:Ca)(a0:D)(a1:D):Option D:=
(D.get a0 [1]).bind fun x1=>
(D.get a1 [2]).bind fun x2=>
(D.bin .mul x1 x2).bind fun x3=>
(D.get a0 [2]).bind fun x4=>
(D.get a1 [1]).bind fun x5=>
(D.bin .mul x4 x5).bind fun x6=>
(D.bin .sub x3 x6).bind fun x7=>
(D.get a0 [2]).bind fun x8=>
(D.get a1 [0]).bind fun x9=>
(D.bin .mul x8 x9).bind fun x10=>
(D.get a0 [0]).bind fun x11=>
(D.get a1 [2]).bind fun x12=>
(D.bin .mul x11 x12).bind fun x13=>
(D.bin .sub x10 x13).bind fun x14=>
(D.get a0 [0]).bind fun x15=>
(D.get a1 [1]).bind fun x16=>
(D.bin .mul x15 x16).bind fun x17=>
(D.get a0 [1]).bind fun x18=>
(D.get a1 [0]).bind fun x19=>
(D.bin .mul x18 x19).bind fun x20=>
(D.bin .sub x17 x20).bind fun x21=>
 some (D.st [x7,x14,x21])
theorem LT{lp}(hlp:ak lp):ac 123 (m2 (C8 lp)):=aO (v:=0) (fn:=Tryz.f186) (ann:=.leaf) hlp
def Kl:Ann:=(.tl (.tl (.tl (.two (.tl (.two (.loop ⟨[(1,.sp aw 4097),(5,.di)],[(4097,.keep aw 1)],[]⟩ [(.ret,⟨[(2,.di),(3,.dv Ty.bool)],[],[]⟩),(.exit 0,⟨[(1,.sp aw 4097)],[(4097,.keep aw 1)],[]⟩)] .leaf) .leaf)) .leaf))))
def AQ(lp:Lp)(call:Ca)(a0:D):Option D:=
(call 76 [a0]).bind fun r1=>
(D.un .not r1).bind fun x2=>
(D.truth x2).bind fun b3=>
(if b3 then(some true) else((D.get a0 [2,1]).bind fun x4=>
(D.bin .geq x4 (D.int .u32 1073741824)).bind fun x5=>
 D.truth x5)).bind fun b6=>
(D.truth (D.bool b6)).bind fun b7=>
 if b7 then(some (D.tup [(Jn 0),(D.bool false)])) else((lp (β:=Nat×List D) (fun v8=>
(D.bin .lss (gx v8 0) (Jn 16)).bind fun x9=>
(D.truth x9).bind fun b10=>
 if b10 then((D.idx (gx v8 0) 16).bind fun i11=>
(D.get a0 [2,i11]).bind fun x12=>
(D.truth (D.bool (!(D.beq x12 (D.int .u32 0))))).bind fun b13=>
 if b13 then(some (Sum.inr (0,[(Jn 0),(D.bool false)]))) else((D.bin .add (gx v8 0) (Jn 1)).bind fun x14=>
 some (Sum.inl [x14]))) else(some (Sum.inr (1,[])))) [(Jn 2)]).bind fun r15=>
 if r15.1=0 then(some (D.tup [(gx r15.2 0),(gx r15.2 1)])) else((D.get a0 [2,1]).bind fun x16=>
(D.conv .i64 x16).bind fun x17=>
(D.bin .mul x17 (Jn 4294967296)).bind fun x18=>
(D.get a0 [2,0]).bind fun x19=>
(D.conv .i64 x19).bind fun x20=>
(D.bin .add x18 x20).bind fun x21=>
(D.get a0 [1]).bind fun x22=>
(D.truth x22).bind fun b23=>
 if b23 then((D.un .neg x21).bind fun x24=>
 some (D.tup [x24,(D.bool true)])) else(some (D.tup [x21,(D.bool true)]))))
theorem LU{lp}(hlp:ak lp):ac 124 (m1 (AQ lp)):=aU (v:=0) (fn:=Tryz.f117) (ann:=Kl) hlp
def C9(lp:Lp)(call:Ca) :Option D:=
 some (D.st [(D.bool true),(D.bool false),(aF aW)])
theorem LV{lp}(hlp:ak lp):ac 125 (m0 (C9 lp)):=yL (v:=0) (fn:=Tryz.f100) (ann:=.leaf) hlp
def Km:Ann:=(.tl (.tl (.tl (.two (.tl (.two (.loop ⟨[(5,.ow Ti),(6,.di),(7,.di)],[],[0,1]⟩ [(.exit 0,⟨[(5,.ow Ti)],[],[]⟩)] (.tl (.two (.two (.two (.reg [] 10) (.tl (.cut [(.normal,⟨[(5,.ow Ti),(6,.di),(8,.di)],[],[0,1,7]⟩)] [0,1,7] [] .leaf .leaf))) .leaf) .leaf))) .leaf)) .leaf))))
def Da(lp:Lp)(call:Ca)(a0:D)(a1:D):Option D:=
(lp (β:=Nat×List D) (fun v1=>
(D.asSl a0).bind fun l2=>
(D.bin .lss (gx v1 2) (Jn (l2.length))).bind fun x3=>
(D.truth x3).bind fun b4=>
 if b4 then((D.asSl a0).bind fun l5=>
(D.idx (gx v1 2) (l5.length)).bind fun i6=>
(l5[i6]?).bind fun x7=>
(call 141 [a1,(gx v1 2)]).bind fun r8=>
(D.bin .sub x7 r8).bind fun x9=>
(D.bin .sub x9 (gx v1 1)).bind fun x10=>
((D.bin .lss x10 (Jn 0)).bind fun x11=>
(D.truth x11).bind fun b12=>
 if b12 then((D.bin .add x10 (Jn 65536)).bind fun x13=>
 some (0,[(D.sl ((gx v1 0).els)),(Jn 1),x13])) else(some (0,[(D.sl ((gx v1 0).els)),(Jn 0),x10]))).bind fun(r14:Nat×List D)=>
 if List.length ((gx r14.2 0).els)+List.length [(gx r14.2 2)]<=1073741824 then((D.bin .add (gx v1 2) (Jn 1)).bind fun x15=>
 some (Sum.inl [(D.sl (((gx r14.2 0).els)++[(gx r14.2 2)])),(gx r14.2 1),x15])) else none) else(some (Sum.inr (0,[(D.sl ((gx v1 0).els))])))) [(D.sl []),(Jn 0),(Jn 0)]).bind fun r16=>
(call 140 [(D.sl ((gx r16.2 0).els))]).bind fun r17=>
 some r17
theorem LW{lp}(hlp:ak lp):ac 126 (m2 (Da lp)):=aO (v:=0) (fn:=Tryz.f125) (ann:=Km) hlp
def Kn:Ann:=(.tl (.tl (.two (.two (.loop ⟨[(1,.sp aW 4097),(3,.di)],[(4097,.keep aW 1)],[]⟩ [(.exit 0,⟨[(3,.di)],[],[]⟩)] .leaf) .leaf) .leaf)))
def Db(lp:Lp)(call:Ca)(a0:D):Option D:=
(lp (β:=Nat×List D) (fun v1=>
(D.bin .gtr (gx v1 0) (Jn 0)).bind fun x2=>
(D.truth x2).bind fun b3=>
(if b3 then((D.bin .sub (gx v1 0) (Jn 1)).bind fun x4=>
(D.idx x4 16).bind fun i5=>
(D.get a0 [i5]).bind fun x6=>
 D.truth (D.bool (D.beq x6 (D.int .u32 0)))) else(some false)).bind fun b7=>
(D.truth (D.bool b7)).bind fun b8=>
 if b8 then((D.bin .sub (gx v1 0) (Jn 1)).bind fun x9=>
 some (Sum.inl [x9])) else(some (Sum.inr (0,[(gx v1 0)])))) [(Jn 16)]).bind fun r10=>
 some (gx r10.2 0)
theorem LX{lp}(hlp:ak lp):ac 127 (m1 (Db lp)):=aU (v:=0) (fn:=Tryz.f145) (ann:=Kn) hlp
def Dc(lp:Lp)(call:Ca)(a0:D):Option D:=
(D.get a0 [0]).bind fun x1=>
(D.un .not x1).bind fun x2=>
(D.truth x2).bind fun b3=>
(if b3 then((call 167 [a0]).bind fun r4=>
 D.truth r4) else(some false)).bind fun b5=>
 some (D.bool b5)
theorem LY{lp}(hlp:ak lp):ac 128 (m1 (Dc lp)):=aU (v:=0) (fn:=Tryz.f143) (ann:=.leaf) hlp
def Dd(lp:Lp)(call:Ca)(a0:D):Option D:=
(call 118 [(D.sl [a0])]).bind fun r1=>
(D.un .not r1).bind fun x2=>
(D.truth x2).bind fun b3=>
(if b3 then(some true) else((D.get a0 [2]).bind fun x4=>
 D.truth (D.bool (D.beq x4 (D.st (D.putParts (List.replicate 16 (D.int .u32 0)) [])))))).bind fun b5=>
(D.truth (D.bool b5)).bind fun b6=>
 if b6 then(some (Jn 0)) else((D.get a0 [1]).bind fun x7=>
(D.truth x7).bind fun b8=>
 if b8 then(some (Jn (-1))) else(some (Jn 1)))
theorem LZ{lp}(hlp:ak lp):ac 129 (m1 (Dd lp)):=aU (v:=0) (fn:=Tryz.f113) (ann:=.leaf) hlp
theorem L0{lp}(hlp:ak lp):ac 130 (cY 0 lp 130 Tryz.f43 .leaf):=bx hlp (by kernel_rfl) (by kernel_rfl)
def Ko:Ann:=(.tl (.tl (.two (.tl (.two (.two (.reg [] 21) (.two (.two (.loop ⟨[(4,.sp aw 4100),(5,.dv (Ty.int .u64)),(6,.dv (Ty.int .u64))],[(4100,.keep aw 4)],[]⟩ [(.exit 0,⟨[(4,.sp aw 4100),(5,.dv (Ty.int .u64))],[(4100,.keep aw 4)],[]⟩)] (.tl (.two (.reg [] 5) .leaf))) .leaf) .leaf)) .leaf)) (.two (.two (.reg [] 6) (.tl (.two (.tl (.two (.reg [] 5) .leaf)) .leaf))) .leaf))))
def De(lp:Lp)(call:Ca)(a0:D)(a1:D):Option D:=
(call 118 [(D.sl [a0,a1])]).bind fun r1=>
(D.un .not r1).bind fun x2=>
(D.truth x2).bind fun b3=>
 if b3 then((call 119 []).bind fun r4=>
 some r4) else((D.get a0 [2]).bind fun x5=>
(call 127 [x5]).bind fun r6=>
(D.bin .leq r6 (Jn 2)).bind fun x7=>
(D.truth x7).bind fun b8=>
(if b8 then((D.get a1 [2]).bind fun x9=>
(call 127 [x9]).bind fun r10=>
(D.bin .leq r10 (Jn 2)).bind fun x11=>
 D.truth x11) else(some false)).bind fun b12=>
(D.truth (D.bool b12)).bind fun b13=>
 if b13 then((D.get a0 [2,1]).bind fun x14=>
(D.conv .u64 x14).bind fun x15=>
(D.bin .shl x15 (D.int .u64 32)).bind fun x16=>
(D.get a0 [2,0]).bind fun x17=>
(D.conv .u64 x17).bind fun x18=>
(D.bin .or x16 x18).bind fun x19=>
(D.get a1 [2,1]).bind fun x20=>
(D.conv .u64 x20).bind fun x21=>
(D.bin .shl x21 (D.int .u64 32)).bind fun x22=>
(D.get a1 [2,0]).bind fun x23=>
(D.conv .u64 x23).bind fun x24=>
(D.bin .or x22 x24).bind fun x25=>
(lp (β:=Nat×List D) (fun v26=>
(D.truth (D.bool (!(D.beq (gx v26 1) (D.int .u64 0))))).bind fun b27=>
 if b27 then((D.bin .rem (gx v26 0) (gx v26 1)).bind fun x28=>
 some (Sum.inl [(gx v26 1),x28])) else(some (Sum.inr (0,[(gx v26 0)])))) [x19,x25]).bind fun r29=>
(D.conv .u32 (gx r29.2 0)).bind fun x30=>
(D.bin .shr (gx r29.2 0) (D.int .u64 32)).bind fun x31=>
(D.conv .u32 x31).bind fun x32=>
(call 116 [(D.bool false),(D.st (D.putParts (List.replicate 16 (D.int .u32 0)) [(0,x30),(1,x32)]))]).bind fun r33=>
 some r33) else((D.get a0 [2]).bind fun x34=>
(D.get a1 [2]).bind fun x35=>
(D.truth (D.bool (!(D.beq x35 (D.st (D.putParts (List.replicate 16 (D.int .u32 0)) [])))))).bind fun b36=>
 if b36 then((call 170 [x34,x35]).bind fun r37=>
(D.tupAt r37 0).bind fun x38=>
(D.tupAt r37 1).bind fun x39=>
(call 116 [(D.bool false),x35]).bind fun r40=>
(call 116 [(D.bool false),x39]).bind fun r41=>
(call 131 [r40,r41]).bind fun r42=>
 some r42) else((call 171 [a0]).bind fun r43=>
 some r43)))
theorem L1{lp}(hlp:ak lp):ac 131 (m2 (De lp)):=aO (v:=0) (fn:=Tryz.f102) (ann:=Ko) hlp
def Df(lp:Lp)(call:Ca)(a0:D)(a1:D):Option D:=
(call 172 [a0,a1]).bind fun r1=>
(D.tupAt r1 0).bind fun x2=>
(D.tupAt r1 1).bind fun x3=>
 some x2
theorem L2{lp}(hlp:ak lp):ac 132 (m2 (Df lp)):=aO (v:=0) (fn:=Tryz.f103) (ann:=.leaf) hlp
def Dg(lp:Lp)(call:Ca) :Option D:=
(call 34 [(Jn 1)]).bind fun r1=>
 some r1
theorem L3{lp}(hlp:ak lp):ac 133 (m0 (Dg lp)):=yL (v:=0) (fn:=Tryz.f70) (ann:=.leaf) hlp
def Kq:Ann:=(.tl (.tl (.two (.tl (.two (.loop ⟨[(2,.sp fc 4098),(3,.sp fc 4099),(4,.sp aL 4100),(5,.sp aL 8197),(8,.di)],[(4098,.keep fc 2),(4099,.keep fc 3),(4100,.keep aL 4),(8197,.one aL (.dv aL))],[]⟩ [(.exit 0,⟨[(4,.sp aL 4100),(5,.sp aL 8197)],[(4100,.keep aL 4),(8197,.one aL (.dv aL))],[]⟩)] (.tl (.tl (.two (.two (.tl (.reg [] 9)) .leaf) .leaf)))) .leaf)) .leaf)))
def H0(lp:Lp)(call:Ca)(a0:D)(a1:D):Option D:=
(call 74 [(Jn 0)]).bind fun r1=>
(lp (β:=Nat×List D) (fun v2=>
(D.bin .lss (gx v2 0) (Jn 3)).bind fun x3=>
(D.truth x3).bind fun b4=>
 if b4 then((D.idx (gx v2 0) 3).bind fun i5=>
(D.get a0 [i5]).bind fun x6=>
(D.idx (gx v2 0) 3).bind fun i7=>
(D.get a1 [i7]).bind fun x8=>
(call 174 [x6,x8]).bind fun r9=>
(call 173 [(gx v2 1),r9]).bind fun r10=>
(D.bin .add (gx v2 0) (Jn 1)).bind fun x11=>
 some (Sum.inl [x11,r10])) else(some (Sum.inr (0,[(gx v2 1)])))) [(Jn 0),r1]).bind fun r12=>
 some (gx r12.2 0)
theorem L4{lp}(hlp:ak lp):ac 134 (m2 (H0 lp)):=aO (v:=0) (fn:=Tryz.f45) (ann:=Kq) hlp
def Hz:Ann:=(.tl (.two (.reg [] 10) .leaf))
theorem L5{lp}(hlp:ak lp):ac 135 (cY 0 lp 135 Tryz.f44 Hz):=bx hlp (by kernel_rfl) (by kernel_rfl)
def Dh(lp:Lp)(call:Ca)(a0:D):Option D:=
(D.get a0 [0]).bind fun x1=>
(call 128 [x1]).bind fun r2=>
(D.truth r2).bind fun b3=>
(if b3 then((D.get a0 [1]).bind fun x4=>
(call 128 [x4]).bind fun r5=>
 D.truth r5) else(some false)).bind fun b6=>
(D.truth (D.bool b6)).bind fun b7=>
(if b7 then((D.get a0 [1]).bind fun x8=>
(call 129 [x8]).bind fun r9=>
(D.bin .gtr r9 (Jn 0)).bind fun x10=>
 D.truth x10) else(some false)).bind fun b11=>
(D.truth (D.bool b11)).bind fun b12=>
(if b12 then((D.get a0 [0]).bind fun x13=>
(D.get a0 [1]).bind fun x14=>
(call 131 [x13,x14]).bind fun r15=>
(call 169 []).bind fun r16=>
 D.truth (D.bool (D.beq r15 r16))) else(some false)).bind fun b17=>
 some (D.bool b17)
theorem L6{lp}(hlp:ak lp):ac 136 (m1 (Dh lp)):=aU (v:=0) (fn:=Tryz.f91) (ann:=.leaf) hlp
def Di(lp:Lp)(call:Ca)(a0:D)(a1:D):Option D:=
(call 172 [a0,a1]).bind fun r1=>
(D.tupAt r1 0).bind fun x2=>
(D.tupAt r1 1).bind fun x3=>
 some x3
theorem L7{lp}(hlp:ak lp):ac 137 (m2 (Di lp)):=aO (v:=0) (fn:=Tryz.f159) (ann:=.leaf) hlp
def Kr:Ann:=(.tl (.two (.reg [] 3) .leaf))
def Dj(lp:Lp)(call:Ca)(a0:D):Option D:=
(call 169 []).bind fun r1=>
(call 62 [a0,r1]).bind fun r2=>
 some r2
theorem L8{lp}(hlp:ak lp):ac 138 (m1 (Dj lp)):=aU (v:=0) (fn:=Tryz.f82) (ann:=Kr) hlp
def Ks:Ann:=(.tl (.tl (.two (.tl (.two (.loop ⟨[(1,.sp aw 4097),(3,.dv Ty.bool),(4,.di)],[(4097,.keep aw 1)],[]⟩ [(.exit 0,⟨[(1,.sp aw 4097),(3,.dv Ty.bool)],[(4097,.keep aw 1)],[]⟩)] .leaf) .leaf)) .leaf)))
def Dk(lp:Lp)(call:Ca)(a0:D):Option D:=
(lp (β:=Nat×List D) (fun v1=>
(D.bin .lss (gx v1 1) (Jn 16)).bind fun x2=>
(D.truth x2).bind fun b3=>
 if b3 then((D.truth (gx v1 0)).bind fun b4=>
(if b4 then((D.idx (gx v1 1) 16).bind fun i5=>
(D.get a0 [2,i5]).bind fun x6=>
 D.truth (D.bool (D.beq x6 (D.int .u32 0)))) else(some false)).bind fun b7=>
(D.bin .add (gx v1 1) (Jn 1)).bind fun x8=>
 some (Sum.inl [(D.bool b7),x8])) else(some (Sum.inr (0,[(gx v1 0)])))) [(D.bool true),(Jn 0)]).bind fun r9=>
(D.get a0 [0]).bind fun x10=>
(D.truth x10).bind fun b11=>
 if b11 then((D.truth (gx r9.2 0)).bind fun b12=>
(if b12 then((D.get a0 [1]).bind fun x13=>
(D.un .not x13).bind fun x14=>
 D.truth x14) else(some false)).bind fun b15=>
 some (D.bool b15)) else((D.un .not (gx r9.2 0)).bind fun x16=>
(D.truth x16).bind fun b17=>
(if b17 then(some true) else((D.get a0 [1]).bind fun x18=>
(D.un .not x18).bind fun x19=>
 D.truth x19)).bind fun b20=>
 some (D.bool b20))
theorem L9{lp}(hlp:ak lp):ac 139 (m1 (Dk lp)):=aU (v:=0) (fn:=Tryz.f164) (ann:=Ks) hlp
def Kt:Ann:=(.tl (.tl (.two (.two (.loop ⟨[(3,.di)],[],[0]⟩ [(.exit 0,⟨[(3,.di)],[],[0]⟩)] .leaf) .leaf) .leaf)))
def Dl(lp:Lp)(call:Ca)(a0:D):Option D:=
(D.asSl a0).bind fun l1=>
(lp (β:=Nat×List D) (fun v2=>
(D.bin .gtr (gx v2 0) (Jn 0)).bind fun x3=>
(D.truth x3).bind fun b4=>
(if b4 then((D.bin .sub (gx v2 0) (Jn 1)).bind fun x5=>
(D.asSl a0).bind fun l6=>
(D.idx x5 (l6.length)).bind fun i7=>
(l6[i7]?).bind fun x8=>
 D.truth (D.bool (D.beq x8 (Jn 0)))) else(some false)).bind fun b9=>
(D.truth (D.bool b9)).bind fun b10=>
 if b10 then((D.bin .sub (gx v2 0) (Jn 1)).bind fun x11=>
 some (Sum.inl [x11])) else(some (Sum.inr (0,[(gx v2 0)])))) [(Jn (l1.length))]).bind fun r12=>
(D.asSl a0).bind fun l13=>
(D.natOf (gx r12.2 0)).bind fun i14=>
(D.cut l13 0 i14).bind fun l15=>
 some (D.sl l15)
theorem Ma{lp}(hlp:ak lp):ac 140 (m1 (Dl lp)):=aU (v:=0) (fn:=Tryz.f165) (ann:=Kt) hlp
def Dm(lp:Lp)(call:Ca)(a0:D)(a1:D):Option D:=
(D.asSl a0).bind fun l1=>
(D.bin .lss a1 (Jn (l1.length))).bind fun x2=>
(D.truth x2).bind fun b3=>
 if b3 then((D.asSl a0).bind fun l4=>
(D.idx a1 (l4.length)).bind fun i5=>
(l4[i5]?).bind fun x6=>
 some x6) else(some (Jn 0))
theorem Mb{lp}(hlp:ak lp):ac 141 (m2 (Dm lp)):=aO (v:=0) (fn:=Tryz.f166) (ann:=.leaf) hlp
def Dn(lp:Lp)(call:Ca)(a0:D):Option D:=
(call 76 [a0]).bind fun r1=>
(D.un .not r1).bind fun x2=>
(D.truth x2).bind fun b3=>
 if b3 then((call 125 []).bind fun r4=>
 some r4) else((call 77 [a0]).bind fun r5=>
(call 81 [(D.bool false),r5]).bind fun r6=>
 some r6)
theorem Mc{lp}(hlp:ak lp):ac 142 (m1 (Dn lp)):=aU (v:=0) (fn:=Tryz.f126) (ann:=.leaf) hlp
def Ku:Ann:=(.tl (.tl (.tl (.two (.reg [] 11) (.tl (.two (.tl (.two (.loop ⟨[(6,.same (.mem Ti 8207)),(9,.dv K5),(10,.di)],[(8207,.many Ti)],[0,1,7,8]⟩ [(.exit 0,⟨[(6,.same (.mem Ti 8207)),(9,.dv K5)],[(8207,.many Ti)],[]⟩)] (.tl (.two (.two (.tl (.tl (.tl (.two (.two (.loop ⟨[(6,.same (.mem Ti 8207)),(11,.di),(12,.dv K5)],[(8207,.many Ti)],[0,1,7,8,9,10]⟩ [(.exit 2,⟨[(6,.same (.mem Ti 8207)),(11,.di),(12,.dv K5)],[(8207,.many Ti)],[0,1,7,8,9,10]⟩)] .leaf) .leaf) .leaf)))) .leaf) .leaf))) .leaf)) (.two (.reg [6] 5) .leaf)))))))
def Do(lp:Lp)(call:Ca)(a0:D)(a1:D):Option D:=
(D.asSl a0).bind fun l1=>
(D.natOf (Jn (l1.length))).bind fun i2=>
 if i2<=1073741824 then((D.asSl a1).bind fun l3=>
(D.bin .sub (Jn (l3.length)) (Jn 1)).bind fun x4=>
(D.asSl a1).bind fun l5=>
(D.idx x4 (l5.length)).bind fun i6=>
(l5[i6]?).bind fun x7=>
(D.bin .mul x7 (Jn 65536)).bind fun x8=>
(D.bin .sub (Jn (l3.length)) (Jn 2)).bind fun x9=>
(call 175 [a1,x9]).bind fun r10=>
(D.bin .add x8 r10).bind fun x11=>
(D.asSl a0).bind fun l12=>
(D.bin .sub (Jn (l12.length)) (Jn 1)).bind fun x13=>
(lp (β:=Nat×List D) (fun v14=>
(D.bin .geq (gx v14 1) (Jn 0)).bind fun x15=>
(D.truth x15).bind fun b16=>
 if b16 then((D.asSl a0).bind fun l17=>
(D.idx (gx v14 1) (l17.length)).bind fun i18=>
(l17[i18]?).bind fun x19=>
(D.asSl (gx v14 0)).bind fun l20=>
 if List.length [x19]+l20.length<=1073741824 then((call 140 [(D.sl ([x19]++l20))]).bind fun r21=>
(call 175 [r21,(Jn (l3.length))]).bind fun r22=>
(D.bin .mul r22 (Jn 4294967296)).bind fun x23=>
(D.bin .sub (Jn (l3.length)) (Jn 1)).bind fun x24=>
(call 175 [r21,x24]).bind fun r25=>
(D.bin .mul r25 (Jn 65536)).bind fun x26=>
(D.bin .add x23 x26).bind fun x27=>
(D.bin .sub (Jn (l3.length)) (Jn 2)).bind fun x28=>
(call 175 [r21,x28]).bind fun r29=>
(D.bin .add x27 r29).bind fun x30=>
(D.bin .quo x30 x11).bind fun x31=>
(D.min2 (Jn 65535) x31).bind fun x32=>
(call 146 [a1,(D.sl [x32])]).bind fun r33=>
(lp (β:=Nat×List D) (fun v34=>
(call 78 [r21,(gx v34 1)]).bind fun r35=>
(D.truth r35).bind fun b36=>
 if b36 then((D.bin .sub (gx v34 0) (Jn 1)).bind fun x37=>
(call 126 [(gx v34 1),a1]).bind fun r38=>
 some (Sum.inl [x37,r38,(D.sl ((gx v34 2).els))])) else(some (Sum.inr (0,[(gx v34 0),(gx v34 1),(D.sl ((gx v34 2).els))])))) [x32,r33,(D.sl ((gx v14 2).els))]).bind fun r39=>
(D.idx (gx v14 1) (List.length ((gx r39.2 2).els))).bind fun i40=>
(((gx r39.2 2).els)[i40]?).bind fun x41=>
(call 126 [r21,(gx r39.2 1)]).bind fun r42=>
(D.bin .sub (gx v14 1) (Jn 1)).bind fun x43=>
 some (Sum.inl [r42,x43,(D.sl (List.set ((gx r39.2 2).els) i40 (gx r39.2 0)))])) else none) else(some (Sum.inr (0,[(gx v14 0),(D.sl ((gx v14 2).els))])))) [(D.sl []),x13,(D.sl (List.replicate i2 (Jn 0)))]).bind fun r44=>
(call 140 [(D.sl ((gx r44.2 1).els))]).bind fun r45=>
 some (D.tup [r45,(gx r44.2 0)])) else none
theorem Md{lp}(hlp:ak lp):ac 143 (m2 (Do lp)):=aO (v:=0) (fn:=Tryz.f124) (ann:=Ku) hlp
def Kv:Ann:=(.tl (.tl (.cut [(.normal,⟨[(5,.di)],[],[]⟩)] [] [] .leaf .leaf)))
def Dp(lp:Lp)(call:Ca)(a0:D)(a1:D):Option D:=
(D.bin .quo a0 a1).bind fun x1=>
((D.bin .rem a0 a1).bind fun x2=>
(D.truth (D.bool (!(D.beq x2 (Jn 0))))).bind fun b3=>
(if b3 then((D.bin .lss a0 (Jn 0)).bind fun x4=>
(D.bin .lss a1 (Jn 0)).bind fun x5=>
 D.truth (D.bool (!(D.beq x4 x5)))) else(some false)).bind fun b6=>
(D.truth (D.bool b6)).bind fun b7=>
 if b7 then((D.bin .sub x1 (Jn 1)).bind fun x8=>
 some (0,[x8])) else(some (0,[x1]))).bind fun(r9:Nat×List D)=>
 some (gx r9.2 0)
theorem Me{lp}(hlp:ak lp):ac 144 (m2 (Dp lp)):=aO (v:=0) (fn:=Tryz.f123) (ann:=Kv) hlp
def Dq(lp:Lp)(call:Ca)(a0:D):Option D:=
(D.bin .lss a0 (Jn 2147483648)).bind fun x1=>
(D.truth x1).bind fun b2=>
(if b2 then((D.bin .gtr a0 (Jn (-2147483648))).bind fun x3=>
 D.truth x3) else(some false)).bind fun b4=>
 some (D.bool b4)
theorem Mf{lp}(hlp:ak lp):ac 145 (m1 (Dq lp)):=aU (v:=0) (fn:=Tryz.f118) (ann:=.leaf) hlp
def Kw:Ann:=(.tl (.tl (.two (.tl (.two (.loop ⟨[(5,.same (.mem Ti 8209)),(6,.di)],[(8209,.many Ti)],[0,1]⟩ [(.exit 0,⟨[(5,.same (.mem Ti 8209))],[(8209,.many Ti)],[]⟩)] (.tl (.two (.two (.two (.tl (.two (.loop ⟨[(5,.same (.mem Ti 8209)),(7,.di)],[(8209,.many Ti)],[0,1,6]⟩ [(.exit 2,⟨[(5,.same (.mem Ti 8209))],[(8209,.many Ti)],[0,1,6]⟩)] (.tl (.two (.two (.reg [] 21) .leaf) .leaf))) .leaf)) (.tl (.tl (.two (.loop ⟨[(5,.same (.mem Ti 8209)),(8,.di),(9,.di)],[(8209,.many Ti)],[0,1,6]⟩ [(.exit 4,⟨[(5,.same (.mem Ti 8209))],[(8209,.many Ti)],[0,1,6]⟩)] .leaf) .leaf)))) .leaf) .leaf))) .leaf)) (.two (.reg [5] 3) .leaf))))
def Dr(lp:Lp)(call:Ca)(a0:D)(a1:D):Option D:=
(D.asSl a0).bind fun l1=>
(D.asSl a1).bind fun l2=>
(D.bin .add (Jn (l1.length)) (Jn (l2.length))).bind fun x3=>
(D.bin .add x3 (Jn 1)).bind fun x4=>
(D.natOf x4).bind fun i5=>
 if i5<=1073741824 then((lp (β:=Nat×List D) (fun v6=>
(D.asSl a0).bind fun l7=>
(D.bin .lss (gx v6 0) (Jn (l7.length))).bind fun x8=>
(D.truth x8).bind fun b9=>
 if b9 then((lp (β:=Nat×List D) (fun v10=>
(D.asSl a1).bind fun l11=>
(D.bin .lss (gx v10 0) (Jn (l11.length))).bind fun x12=>
(D.truth x12).bind fun b13=>
 if b13 then((D.bin .add (gx v6 0) (gx v10 0)).bind fun x14=>
(D.bin .add (gx v6 0) (gx v10 0)).bind fun x15=>
(D.idx x15 (List.length ((gx v10 1).els))).bind fun i16=>
(((gx v10 1).els)[i16]?).bind fun x17=>
(D.asSl a0).bind fun l18=>
(D.idx (gx v6 0) (l18.length)).bind fun i19=>
(l18[i19]?).bind fun x20=>
(D.asSl a1).bind fun l21=>
(D.idx (gx v10 0) (l21.length)).bind fun i22=>
(l21[i22]?).bind fun x23=>
(D.bin .mul x20 x23).bind fun x24=>
(D.bin .add x17 x24).bind fun x25=>
(D.idx x14 (List.length ((gx v10 1).els))).bind fun i26=>
(((gx v10 1).els)[i26]?).bind fun x27=>
(D.bin .add (gx v10 0) (Jn 1)).bind fun x28=>
 some (Sum.inl [x28,(D.sl (List.set ((gx v10 1).els) i26 x25))])) else(some (Sum.inr (0,[(D.sl ((gx v10 1).els))])))) [(Jn 0),(D.sl ((gx v6 1).els))]).bind fun r29=>
(lp (β:=Nat×List D) (fun v30=>
(D.bin .lss (gx v30 1) (Jn (List.length ((gx v30 2).els)))).bind fun x31=>
(D.truth x31).bind fun b32=>
 if b32 then((D.idx (gx v30 1) (List.length ((gx v30 2).els))).bind fun i33=>
(((gx v30 2).els)[i33]?).bind fun x34=>
(D.bin .add x34 (gx v30 0)).bind fun x35=>
(D.bin .rem x35 (Jn 65536)).bind fun x36=>
(D.idx (gx v30 1) (List.length ((gx v30 2).els))).bind fun i37=>
(((gx v30 2).els)[i37]?).bind fun x38=>
(D.bin .quo x35 (Jn 65536)).bind fun x39=>
(D.bin .add (gx v30 1) (Jn 1)).bind fun x40=>
 some (Sum.inl [x39,x40,(D.sl (List.set ((gx v30 2).els) i37 x36))])) else(some (Sum.inr (0,[(D.sl ((gx v30 2).els))])))) [(Jn 0),(Jn 0),(D.sl ((gx r29.2 0).els))]).bind fun r41=>
(D.bin .add (gx v6 0) (Jn 1)).bind fun x42=>
 some (Sum.inl [x42,(D.sl ((gx r41.2 0).els))])) else(some (Sum.inr (0,[(D.sl ((gx v6 1).els))])))) [(Jn 0),(D.sl (List.replicate i5 (Jn 0)))]).bind fun r43=>
(call 140 [(D.sl ((gx r43.2 0).els))]).bind fun r44=>
 some r44) else none
theorem Mg{lp}(hlp:ak lp):ac 146 (m2 (Dr lp)):=aO (v:=0) (fn:=Tryz.f120) (ann:=Kw) hlp
def Kx:Ann:=(.tl (.tl (.two (.tl (.two (.loop ⟨[(2,.sp lE 4098),(3,.sp lE 4099),(4,.sp aw 4100),(5,.sp aw 8197),(8,.di)],[(4098,.keep lE 2),(4099,.keep lE 3),(4100,.keep aw 4),(8197,.one aw (.dv aw))],[]⟩ [(.exit 0,⟨[(4,.sp aw 4100),(5,.sp aw 8197)],[(4100,.keep aw 4),(8197,.one aw (.dv aw))],[]⟩)] (.tl (.tl (.two (.two (.tl (.reg [] 9)) .leaf) .leaf)))) .leaf)) .leaf)))
def H1(lp:Lp)(call:Ca)(a0:D)(a1:D):Option D:=
(call 54 [(Jn 0)]).bind fun r1=>
(lp (β:=Nat×List D) (fun v2=>
(D.bin .lss (gx v2 0) (Jn 3)).bind fun x3=>
(D.truth x3).bind fun b4=>
 if b4 then((D.idx (gx v2 0) 3).bind fun i5=>
(D.get a0 [i5]).bind fun x6=>
(D.idx (gx v2 0) 3).bind fun i7=>
(D.get a1 [i7]).bind fun x8=>
(call 61 [x6,x8]).bind fun r9=>
(call 57 [(gx v2 1),r9]).bind fun r10=>
(D.bin .add (gx v2 0) (Jn 1)).bind fun x11=>
 some (Sum.inl [x11,r10])) else(some (Sum.inr (0,[(gx v2 1)])))) [(Jn 0),r1]).bind fun r12=>
 some (gx r12.2 0)
theorem Mh{lp}(hlp:ak lp):ac 147 (m2 (H1 lp)):=aO (v:=0) (fn:=Tryz.f212) (ann:=Kx) hlp
def Ky:Ann:=(.tl (.two (.tl (.two (.loop ⟨[(2,.sp lE 4098),(6,.di)],[(4098,.one lE (.dv lE))],[5]⟩ [(.exit 0,⟨[(2,.sp lE 4098)],[(4098,.one lE (.dv lE))],[]⟩)] .leaf) .leaf)) .leaf))
def H2(lp:Lp)(call:Ca)(a0:D):Option D:=
(lp (β:=Nat×List D) (fun v1=>
(D.bin .lss (gx v1 0) (Jn 3)).bind fun x2=>
(D.truth x2).bind fun b3=>
 if b3 then((D.idx (gx v1 0) 3).bind fun i4=>
(D.fld a0 i4).bind fun x5=>
(call 54 [x5]).bind fun r6=>
(D.idx (gx v1 0) 3).bind fun i7=>
(D.set (gx v1 1) [i7] r6).bind fun x8=>
(D.bin .add (gx v1 0) (Jn 1)).bind fun x9=>
 some (Sum.inl [x9,x8])) else(some (Sum.inr (0,[(gx v1 1)])))) [(Jn 0),(D.st [(D.st [(D.bool false),(D.bool false),(aF aW)]),(D.st [(D.bool false),(D.bool false),(aF aW)]),(D.st [(D.bool false),(D.bool false),(aF aW)])])]).bind fun r10=>
 some (gx r10.2 0)
theorem Mi{lp}(hlp:ak lp):ac 148 (m1 (H2 lp)):=aU (v:=0) (fn:=Tryz.f213) (ann:=Ky) hlp
end Sy
end
end
noncomputable section
set_option maxHeartbeats 0
noncomputable section
namespace Sy
open Go Go.Proofs
def Kz:Ann:=(.tl (.two (.two (.loop ⟨[(0,.di),(1,.di)],[],[]⟩ [(.exit 0,⟨[(0,.di)],[],[]⟩)] (.tl (.two (.reg [] 5) .leaf))) .leaf) .leaf))
def AS(lp:Lp)(call:Ca)(a0:D)(a1:D):Option D:=
(lp (β:=Nat×List D) (fun v1=>
(D.truth (D.bool (!(D.beq (gx v1 1) (Jn 0))))).bind fun b2=>
 if b2 then((D.bin .rem (gx v1 0) (gx v1 1)).bind fun x3=>
 some (Sum.inl [(gx v1 1),x3])) else(some (Sum.inr (0,[(gx v1 0)])))) [a0,a1]).bind fun r4=>
(D.un .neg (gx r4.2 0)).bind fun x5=>
(D.max2 (gx r4.2 0) x5).bind fun x6=>
 some x6
theorem Mj{lp}(hlp:ak lp):ac 152 (m2 (AS lp)):=aO (v:=0) (fn:=Tryz.f247) (ann:=Kz) hlp
def KA:Ann:=(.tl (.two (.tl (.two (.loop ⟨[(2,.sp K1 4098),(3,.sp K1 4099),(4,.sp K1 4100),(6,.di)],[(4098,.one K1 (.dv K1)),(4099,.keep K1 3),(4100,.keep K1 4)],[]⟩ [(.exit 0,⟨[(2,.sp K1 4098),(4,.sp K1 4100)],[(4098,.one K1 (.dv K1)),(4100,.keep K1 4)],[]⟩)] (.tl (.tl (.two (.two (.tl (.reg [] 8)) .leaf) .leaf)))) .leaf)) .leaf))
def Ds(lp:Lp)(call:Ca)(a0:D)(a1:D):Option D:=
(lp (β:=Nat×List D) (fun v1=>
(D.bin .lss (gx v1 0) (Jn 3)).bind fun x2=>
(D.truth x2).bind fun b3=>
 if b3 then((D.idx (gx v1 0) 3).bind fun i4=>
(D.get (gx v1 1) [i4]).bind fun x5=>
(D.idx (gx v1 0) 3).bind fun i6=>
(D.get a1 [i6]).bind fun x7=>
(D.bin .add x5 x7).bind fun x8=>
(D.idx (gx v1 0) 3).bind fun i9=>
(D.set (gx v1 1) [i9] x8).bind fun x10=>
(D.bin .add (gx v1 0) (Jn 1)).bind fun x11=>
 some (Sum.inl [x11,x10])) else(some (Sum.inr (0,[(gx v1 1)])))) [(Jn 0),a0]).bind fun r12=>
 some (gx r12.2 0)
theorem Mk{lp}(hlp:ak lp):ac 154 (m2 (Ds lp)):=aO (v:=0) (fn:=Tryz.f251) (ann:=KA) hlp
def KB:Ann:=(.tl (.tl (.two (.tl (.two (.loop ⟨[(1,.sp lE 4097),(2,.sp cM 4098),(3,.sp aw 8195),(4,.di)],[(4097,.keep lE 1),(4098,.keep cM 2),(8195,.one aw (.dv aw))],[]⟩ [(.exit 0,⟨[(1,.sp lE 4097),(2,.sp cM 4098),(3,.sp aw 8195)],[(4097,.keep lE 1),(4098,.keep cM 2),(8195,.one aw (.dv aw))],[]⟩)] (.tl (.two (.two (.reg [] 5) .leaf) .leaf))) .leaf)) (.tl (.tl (.tl (.two (.tl (.two (.loop ⟨[(1,.sp lE 4097),(2,.sp cM 4098),(3,.sp aw 8195),(5,.sp cM 28677),(6,.di)],[(4097,.keep lE 1),(4098,.one cM (.dv cM)),(8195,.keep aw 3),(28677,.one cM (.dv cM))],[]⟩ [(.ret,⟨[(2,.sp cM 4098)],[(4098,.one cM (.dv cM))],[]⟩),(.exit 2,⟨[(2,.sp cM 4098),(5,.sp cM 28677)],[(4098,.one cM (.dv cM)),(28677,.one cM (.dv cM))],[]⟩)] (.tl (.two (.two (.two (.reg [] 10) .leaf) .leaf) .leaf))) .leaf)) .leaf)))))))
def Dt(lp:Lp)(call:Ca)(a0:D):Option D:=
(call 34 [(Jn 0)]).bind fun r1=>
(lp (β:=Nat×List D) (fun v2=>
(D.bin .lss (gx v2 0) (Jn 3)).bind fun x3=>
(D.truth x3).bind fun b4=>
 if b4 then((D.idx (gx v2 0) 3).bind fun i5=>
(D.get a0 [i5]).bind fun x6=>
(call 85 [(gx v2 1),x6]).bind fun r7=>
(D.bin .add (gx v2 0) (Jn 1)).bind fun x8=>
 some (Sum.inl [x8,r7])) else(some (Sum.inr (0,[(gx v2 1)])))) [(Jn 0),r1]).bind fun r9=>
(D.get (gx r9.2 0) [0]).bind fun x10=>
(D.truth x10).bind fun b11=>
 if b11 then(some (D.st [(D.st [(Jn 0),(Jn 0),(Jn 0)]),(Jn 30)])) else((call 83 [(gx r9.2 0)]).bind fun r12=>
(D.truth (D.bool (D.beq r12 (Jn 0)))).bind fun b13=>
 if b13 then(some (D.st [(D.st [(Jn 0),(Jn 0),(Jn 0)]),(Jn 31)])) else((lp (β:=Nat×List D) (fun v14=>
(D.bin .lss (gx v14 0) (Jn 3)).bind fun x15=>
(D.truth x15).bind fun b16=>
 if b16 then((D.idx (gx v14 0) 3).bind fun i17=>
(D.get a0 [i17]).bind fun x18=>
(call 87 [x18,(gx r9.2 0)]).bind fun r19=>
(call 186 [r19]).bind fun r20=>
(D.tupAt r20 0).bind fun x21=>
(D.tupAt r20 1).bind fun x22=>
(D.un .not x22).bind fun x23=>
(D.truth x23).bind fun b24=>
 if b24 then(some (Sum.inr (0,[(D.st [(D.st [(Jn 0),(Jn 0),(Jn 0)]),(Jn 30)])]))) else((D.idx (gx v14 0) 3).bind fun i25=>
(D.set (gx v14 2) [0,i25] x21).bind fun x26=>
(D.bin .add (gx v14 0) (Jn 1)).bind fun x27=>
 some (Sum.inl [x27,(gx v14 1),x26]))) else(some (Sum.inr (1,[(gx v14 1),(gx v14 2)])))) [(Jn 0),(D.st [(D.st [(Jn 0),(Jn 0),(Jn 0)]),(Jn 0)]),(D.st [(D.st [(Jn 0),(Jn 0),(Jn 0)]),(Jn 0)])]).bind fun r28=>
 if r28.1=0 then(some (gx r28.2 0)) else((D.get (gx r28.2 1) [0]).bind fun x29=>
(call 187 [x29]).bind fun r30=>
(D.un .not r30).bind fun x31=>
(D.truth x31).bind fun b32=>
 if b32 then(some (D.st [(D.st [(Jn 0),(Jn 0),(Jn 0)]),(Jn 30)])) else(some (gx r28.2 1)))))
theorem Ml{lp}(hlp:ak lp):ac 155 (m1 (Dt lp)):=aU (v:=0) (fn:=Tryz.f244) (ann:=KB) hlp
def KC:Ann:=(.tl (.tl (.two (.tl (.two (.loop ⟨[(6,.sp K1 4102),(8,.sp K1 4104),(11,.sp K1 8203),(12,.di)],[(4102,.keep K1 6),(4104,.keep K1 8),(8203,.keep K1 11)],[0,2]⟩ [(.ret,⟨[(10,.dv Ty.bool)],[],[]⟩),(.exit 0,⟨[],[],[]⟩)] (.tl (.cut [(.normal,⟨[(6,.sp K1 4102),(8,.sp K1 4104),(11,.sp K1 8203)],[(4102,.keep K1 6),(4104,.keep K1 8),(8203,.keep K1 11)],[0,2,12]⟩),(.ret,⟨[(10,.dv Ty.bool)],[],[]⟩)] [0,2,12] [4102,4104,8203] (.two (.two (.two (.reg [] 7) .leaf) (.two (.reg [] 7) (.two (.reg [] 5) .leaf))) .leaf) .leaf))) .leaf)) .leaf)))
def Du(lp:Lp)(call:Ca)(a0:D)(a1:D)(a2:D)(a3:D)(a4:D):Option D:=
(call 112 [a4,a3]).bind fun r1=>
(lp (β:=Nat×List D) (fun v2=>
(D.asSl a0).bind fun l3=>
(D.bin .lss (gx v2 0) (Jn (l3.length))).bind fun x4=>
(D.truth x4).bind fun b5=>
 if b5 then(((D.asSl a0).bind fun l6=>
(D.idx (gx v2 0) (l6.length)).bind fun i7=>
(l6[i7]?).bind fun x8=>
(call 107 [a1,x8]).bind fun r9=>
(D.truth (D.bool (!(D.beq r9 a2)))).bind fun b10=>
 if b10 then(some (0,[])) else((D.asSl a0).bind fun l11=>
(D.idx (gx v2 0) (l11.length)).bind fun lg=>
(l11[lg]?).bind fun x13=>
(call 112 [x13,a3]).bind fun r14=>
(call 123 [r1,r14]).bind fun r15=>
(call 188 [a1,r15]).bind fun r16=>
(D.bin .lss r16 (Jn 0)).bind fun x17=>
(D.truth x17).bind fun b18=>
(if b18 then(some true) else((D.truth (D.bool (D.beq r16 (Jn 0)))).bind fun b19=>
 if b19 then((call 107 [r14,r1]).bind fun r20=>
(D.bin .lss r20 (Jn 0)).bind fun x21=>
(D.truth x21).bind fun b22=>
 if b22 then(some true) else((call 107 [r14,r1]).bind fun r23=>
(call 107 [r1,r1]).bind fun r24=>
(D.bin .gtr r23 r24).bind fun x25=>
 D.truth x25)) else(some false))).bind fun b26=>
(D.truth (D.bool b26)).bind fun b27=>
 if b27 then(some (1,[(D.bool false)])) else(some (0,[])))).bind fun(r28:Nat×List D)=>
 if r28.1=0 then((D.bin .add (gx v2 0) (Jn 1)).bind fun x29=>
 some (Sum.inl [x29])) else(some (Sum.inr (0,[(gx r28.2 0)])))) else(some (Sum.inr (1,[])))) [(Jn 0)]).bind fun r30=>
 if r30.1=0 then(some (gx r30.2 0)) else(some (D.bool true))
theorem Mm{lp}(hlp:ak lp):ac 156 (m5 (Du lp)):=IW (v:=0) (fn:=Tryz.f245) (ann:=KC) hlp
def KD:Ann:=(.tl (.cut [(.normal,⟨[(0,.dv (Ty.int .u32)),(2,.di)],[],[]⟩)] [] [] .leaf (.cut [(.normal,⟨[(0,.dv (Ty.int .u32)),(2,.di)],[],[]⟩)] [] [] .leaf .leaf)))
def Dv(lp:Lp)(call:Ca)(a0:D):Option D:=
((D.bin .geq a0 (D.int .u32 65536)).bind fun x1=>
(D.truth x1).bind fun b2=>
 if b2 then((D.bin .shr a0 (D.int .u64 16)).bind fun x3=>
 some (0,[x3,(Jn 16)])) else(some (0,[a0,(Jn 0)]))).bind fun(r4:Nat×List D)=>
((D.bin .geq (gx r4.2 0) (D.int .u32 256)).bind fun x5=>
(D.truth x5).bind fun b6=>
 if b6 then((D.bin .shr (gx r4.2 0) (D.int .u64 8)).bind fun x7=>
(D.bin .add (gx r4.2 1) (Jn 8)).bind fun x8=>
 some (0,[x7,x8])) else(some (0,[(gx r4.2 0),(gx r4.2 1)]))).bind fun(r9:Nat×List D)=>
(D.conv .u8 (gx r9.2 0)).bind fun x10=>
(D.strAt (D.str ((mH (Bg Tryz.f218)).getD ByteArray.empty)) x10).bind fun x11=>
(D.conv .i64 x11).bind fun x12=>
(D.bin .add (gx r9.2 1) x12).bind fun x13=>
 some x13
theorem Mn{lp}(hlp:ak lp):ac 165 (m1 (Dv lp)):=aU (v:=0) (fn:=Tryz.f218) (ann:=KD) hlp
def Dw(lp:Lp)(call:Ca)(a0:D):Option D:=
(D.get a0 [2]).bind fun x1=>
(D.get a0 [0]).bind fun x2=>
(D.truth x2).bind fun b3=>
 if b3 then((D.truth (D.bool (D.beq x1 (D.st (D.putParts (List.replicate 16 (D.int .u32 0)) []))))).bind fun b4=>
(if b4 then((D.get a0 [1]).bind fun x5=>
(D.un .not x5).bind fun x6=>
 D.truth x6) else(some false)).bind fun b7=>
 some (D.bool b7)) else((D.un .not (D.bool (D.beq x1 (D.st (D.putParts (List.replicate 16 (D.int .u32 0)) []))))).bind fun x8=>
(D.truth x8).bind fun b9=>
(if b9 then(some true) else((D.get a0 [1]).bind fun x10=>
(D.un .not x10).bind fun x11=>
 D.truth x11)).bind fun b12=>
 some (D.bool b12))
theorem Mo{lp}(hlp:ak lp):ac 167 (m1 (Dw lp)):=aU (v:=0) (fn:=Tryz.f184) (ann:=.leaf) hlp
def Dx(lp:Lp)(call:Ca)(a0:D)(a1:D):Option D:=
(call 194 [a0]).bind fun r1=>
(call 194 [a1]).bind fun r2=>
(D.truth r1).bind fun b3=>
 if b3 then((D.truth r2).bind fun b4=>
 if b4 then(some (Jn 0)) else(some (Jn (-1)))) else((D.truth r2).bind fun b5=>
 if b5 then(some (Jn 1)) else((D.bin .lss a0 a1).bind fun x6=>
(D.truth x6).bind fun b7=>
 if b7 then(some (Jn (-1))) else((D.bin .gtr a0 a1).bind fun x8=>
(D.truth x8).bind fun b9=>
 if b9 then(some (Jn 1)) else(some (Jn 0)))))
theorem Mp{lp}(hlp:ak lp):ac 168 (m2 (Dx lp)):=aO (v:=0) (fn:=Tryz.f198) (ann:=.leaf) hlp
def Dy(lp:Lp)(call:Ca) :Option D:=
(call 54 [(Jn 1)]).bind fun r1=>
 some r1
theorem Mq{lp}(hlp:ak lp):ac 169 (m0 (Dy lp)):=yL (v:=0) (fn:=Tryz.f90) (ann:=.leaf) hlp
def KE:Ann:=(.tl (.two (.reg [] 5) (.two (.tl (.two (.two (.reg [] 2) .leaf) .leaf)) (.tl (.tl (.tl (.tl (.tl (.two (.reg [] 2) (.tl (.two (.tl (.two (.loop ⟨[(4,.sp aW 4100),(5,.sp aW 4101),(11,.sp aW 24587),(15,.sp nY 32783),(16,.di)],[(4100,.one aW (.dv aW)),(4101,.keep aW 5),(24587,.keep aW 11),(32783,.one nY (.dv nY))],[6,10]⟩ [(.exit 0,⟨[(4,.sp aW 4100),(5,.sp aW 4101),(15,.sp nY 32783)],[(4100,.one aW (.dv aW)),(4101,.keep aW 5),(32783,.one nY (.dv nY))],[10]⟩)] (.tl (.two (.two (.two (.regI [] 5 (.two (.tl (.two (.reg [] 19) (.tl (.two (.reg [] 7) (.two (.two (.loop ⟨[(0,.sp nY 32783),(5,.sp aW 65541),(11,.dv (Ty.int .u64)),(12,.dv (Ty.int .u64))],[(4100,.one aW (.dv aW)),(4101,.one aW (.dv aW)),(24587,.one aW (.dv aW)),(32783,.keep nY 0),(65541,.keep aW 5)],[2,3,10]⟩ [(.exit 0,⟨[(11,.dv (Ty.int .u64))],[(4100,.one aW (.dv aW)),(4101,.one aW (.dv aW)),(24587,.one aW (.dv aW)),(32783,.keep nY 0)],[]⟩)] .leaf) .leaf) .leaf))))) .leaf)) (.cut [(.normal,⟨[(4,.sp aW 4100),(5,.sp aW 4101),(11,.sp aW 24587),(15,.sp nY 32783),(17,.dv (Ty.int .u64))],[(4100,.keep aW 4),(4101,.keep aW 5),(24587,.keep aW 11),(32783,.one nY (.dv nY))],[6,10,16]⟩)] [6,10,16] [4100,4101,24587] (.two (.regI [] 5 (.two (.tl (.tl (.two (.tl (.two (.loop ⟨[(0,.sp nY 32783),(6,.sp aW 102406),(11,.dv (Ty.int .u64)),(12,.dv (Ty.int .u64)),(17,.di)],[(4100,.one aW (.dv aW)),(4101,.one aW (.dv aW)),(24587,.one aW (.dv aW)),(32783,.one nY (.dv nY)),(102406,.keep aW 6)],[2,3,4,16]⟩ [(.exit 0,⟨[(0,.sp nY 32783),(11,.dv (Ty.int .u64)),(12,.dv (Ty.int .u64))],[(4100,.one aW (.dv aW)),(4101,.one aW (.dv aW)),(24587,.one aW (.dv aW)),(32783,.one nY (.dv nY))],[2,3]⟩)] .leaf) .leaf)) .leaf))) .leaf)) (.two (.tl (.regI [] 4 (.two (.tl (.tl (.two (.tl (.two (.loop ⟨[(0,.sp nY 32783),(5,.sp aW 147461),(8,.dv (Ty.int .u64)),(11,.di)],[(4100,.one aW (.dv aW)),(4101,.one aW (.dv aW)),(24587,.one aW (.dv aW)),(32783,.one nY (.dv nY)),(147461,.keep aW 5)],[2,3,10]⟩ [(.exit 0,⟨[(0,.sp nY 32783),(8,.dv (Ty.int .u64))],[(4100,.one aW (.dv aW)),(4101,.one aW (.dv aW)),(24587,.one aW (.dv aW)),(32783,.one nY (.dv nY))],[2,3]⟩)] (.tl (.tl (.two (.two (.tl (.two (.reg [] 15) .leaf)) .leaf) .leaf)))) .leaf)) (.reg [] 12)))) .leaf))) .leaf)) .leaf)) .leaf) .leaf))) .leaf)) (.two (.reg [] 6) .leaf))))))))))))
def Dz(lp:Lp)(call:Ca)(a0:D)(a1:D):Option D:=
(call 127 [a1]).bind fun r1=>
(call 127 [a0]).bind fun r2=>
(call 121 [a0,a1]).bind fun r3=>
(D.bin .lss r3 (Jn 0)).bind fun x4=>
(D.truth x4).bind fun b5=>
 if b5 then(some (D.tup [(D.st (D.putParts (List.replicate 16 (D.int .u32 0)) [])),a0])) else((D.truth (D.bool (D.beq r1 (Jn 1)))).bind fun b6=>
 if b6 then((D.get a1 [0]).bind fun x7=>
(call 195 [a0,x7]).bind fun r8=>
(D.tupAt r8 0).bind fun x9=>
(D.tupAt r8 1).bind fun x10=>
 some (D.tup [x9,(D.st (D.putParts (List.replicate 16 (D.int .u32 0)) [(0,x10)]))])) else((D.bin .sub r1 (Jn 1)).bind fun x11=>
(D.idx x11 16).bind fun lg=>
(D.get a1 [lg]).bind fun x13=>
(call 196 [x13]).bind fun r14=>
(call 197 [a1,r14]).bind fun r15=>
(D.tupAt r15 0).bind fun x16=>
(D.tupAt r15 1).bind fun x17=>
(call 197 [a0,r14]).bind fun r18=>
(D.tupAt r18 0).bind fun x19=>
(D.tupAt r18 1).bind fun x20=>
(D.stl (aF nY)).bind fun l21=>
(D.stl x19).bind fun l22=>
(D.set (D.st (List.take 0 l21++(List.take 16 (List.drop 0 l22)++List.drop 16 l21))) [16] x20).bind fun x23=>
(D.bin .sub r2 r1).bind fun x24=>
(lp (β:=Nat×List D) (fun v25=>
(D.bin .geq (gx v25 0) (Jn 0)).bind fun x26=>
(D.truth x26).bind fun b27=>
 if b27 then((D.bin .add (gx v25 0) r1).bind fun x28=>
(D.idx x28 17).bind fun i29=>
(D.get (gx v25 2) [i29]).bind fun x30=>
(D.conv .u64 x30).bind fun x31=>
(D.bin .shl x31 (D.int .u64 32)).bind fun x32=>
(D.bin .add (gx v25 0) r1).bind fun x33=>
(D.bin .sub x33 (Jn 1)).bind fun x34=>
(D.idx x34 17).bind fun i35=>
(D.get (gx v25 2) [i35]).bind fun x36=>
(D.conv .u64 x36).bind fun x37=>
(D.bin .or x32 x37).bind fun x38=>
(D.bin .sub r1 (Jn 1)).bind fun x39=>
(D.idx x39 16).bind fun i40=>
(D.get x16 [i40]).bind fun x41=>
(D.conv .u64 x41).bind fun x42=>
(D.bin .quo x38 x42).bind fun x43=>
(D.bin .rem x38 x42).bind fun x44=>
(lp (β:=Nat×List D) (fun v45=>
(D.bin .lss (gx v45 1) (D.int .u64 4294967296)).bind fun x46=>
(D.truth x46).bind fun b47=>
(if b47 then((D.bin .geq (gx v45 0) (D.int .u64 4294967296)).bind fun x48=>
(D.truth x48).bind fun b49=>
 if b49 then(some true) else((D.bin .sub r1 (Jn 2)).bind fun x50=>
(D.idx x50 16).bind fun i51=>
(D.get x16 [i51]).bind fun x52=>
(D.conv .u64 x52).bind fun x53=>
(D.bin .mul (gx v45 0) x53).bind fun x54=>
(D.bin .shl (gx v45 1) (D.int .u64 32)).bind fun x55=>
(D.bin .add (gx v25 0) r1).bind fun x56=>
(D.bin .sub x56 (Jn 2)).bind fun x57=>
(D.idx x57 17).bind fun i58=>
(D.get (gx v25 2) [i58]).bind fun x59=>
(D.conv .u64 x59).bind fun x60=>
(D.bin .or x55 x60).bind fun x61=>
(D.bin .gtr x54 x61).bind fun x62=>
 D.truth x62)) else(some false)).bind fun b63=>
(D.truth (D.bool b63)).bind fun b64=>
 if b64 then((D.bin .sub (gx v45 0) (D.int .u64 1)).bind fun x65=>
(D.bin .add (gx v45 1) x42).bind fun x66=>
 some (Sum.inl [x65,x66,(gx v45 2),(gx v45 3),(gx v45 4)])) else(some (Sum.inr (0,[(gx v45 0),(gx v45 2),(gx v45 3),(gx v45 4)])))) [x43,x44,(gx v25 1),(aF aW),x16]).bind fun r67=>
((lp (β:=Nat×List D) (fun v68=>
(D.bin .lss (gx v68 2) r1).bind fun x69=>
(D.truth x69).bind fun b70=>
 if b70 then((D.idx (gx v68 2) 16).bind fun i71=>
(D.get (gx r67.2 3) [i71]).bind fun x72=>
(D.conv .u64 x72).bind fun x73=>
(D.bin .mul (gx r67.2 0) x73).bind fun x74=>
(D.bin .add (gx v68 0) x74).bind fun x75=>
(D.bin .add (gx v25 0) (gx v68 2)).bind fun x76=>
(D.idx x76 17).bind fun i77=>
(D.get (gx v68 6) [i77]).bind fun x78=>
(D.conv .u64 x78).bind fun x79=>
(D.conv .u32 x75).bind fun x80=>
(D.conv .u64 x80).bind fun x81=>
(D.bin .sub x79 x81).bind fun x82=>
(D.bin .sub x82 (gx v68 1)).bind fun x83=>
(D.bin .add (gx v25 0) (gx v68 2)).bind fun x84=>
(D.conv .u32 x83).bind fun x85=>
(D.idx x84 17).bind fun i86=>
(D.set (gx v68 6) [i86] x85).bind fun x87=>
(D.bin .shr x83 (D.int .u64 63)).bind fun x88=>
(D.bin .shr x75 (D.int .u64 32)).bind fun x89=>
(D.bin .add (gx v68 2) (Jn 1)).bind fun x90=>
 some (Sum.inl [x89,x88,x90,(gx v68 3),(gx v68 4),(gx v68 5),x87])) else(some (Sum.inr (0,[(gx v68 0),(gx v68 1),(gx v68 3),(gx v68 4),(gx v68 5),(gx v68 6)])))) [(D.int .u64 0),(D.int .u64 0),(Jn 0),(gx r67.2 1),(gx r67.2 2),(gx r67.2 3),(gx v25 2)]).bind fun r91=>
(D.bin .add (gx v25 0) r1).bind fun x92=>
(D.idx x92 17).bind fun i93=>
(D.get (gx r91.2 5) [i93]).bind fun x94=>
(D.conv .u64 x94).bind fun x95=>
(D.bin .sub x95 (gx r91.2 0)).bind fun x96=>
(D.bin .sub x96 (gx r91.2 1)).bind fun x97=>
(D.bin .add (gx v25 0) r1).bind fun x98=>
(D.conv .u32 x97).bind fun x99=>
(D.idx x98 17).bind fun i100=>
(D.set (gx r91.2 5) [i100] x99).bind fun x101=>
(D.bin .shr x97 (D.int .u64 63)).bind fun x102=>
(D.truth (D.bool (D.beq x102 (D.int .u64 1)))).bind fun b103=>
 if b103 then((D.bin .sub (gx r67.2 0) (D.int .u64 1)).bind fun x104=>
(lp (β:=Nat×List D) (fun v105=>
(D.bin .lss (gx v105 1) r1).bind fun x106=>
(D.truth x106).bind fun b107=>
 if b107 then((D.bin .add (gx v25 0) (gx v105 1)).bind fun x108=>
(D.idx x108 17).bind fun i109=>
(D.get (gx v105 5) [i109]).bind fun x110=>
(D.conv .u64 x110).bind fun x111=>
(D.idx (gx v105 1) 16).bind fun i112=>
(D.get (gx r91.2 4) [i112]).bind fun x113=>
(D.conv .u64 x113).bind fun x114=>
(D.bin .add x111 x114).bind fun x115=>
(D.bin .add (gx v105 0) x115).bind fun x116=>
(D.bin .add (gx v25 0) (gx v105 1)).bind fun x117=>
(D.conv .u32 x116).bind fun x118=>
(D.idx x117 17).bind fun i119=>
(D.set (gx v105 5) [i119] x118).bind fun x120=>
(D.bin .shr x116 (D.int .u64 32)).bind fun x121=>
(D.bin .add (gx v105 1) (Jn 1)).bind fun x122=>
 some (Sum.inl [x121,x122,(gx v105 2),(gx v105 3),(gx v105 4),x120])) else(some (Sum.inr (0,[(gx v105 0),(gx v105 2),(gx v105 3),(gx v105 4),(gx v105 5)])))) [(D.int .u64 0),(Jn 0),(gx r91.2 2),(gx r91.2 3),(gx r91.2 4),x101]).bind fun r123=>
(D.bin .add (gx v25 0) r1).bind fun x124=>
(D.idx x124 17).bind fun i125=>
(D.get (gx r123.2 4) [i125]).bind fun x126=>
(D.conv .u32 (gx r123.2 0)).bind fun x127=>
(D.bin .add x126 x127).bind fun x128=>
(D.idx x124 17).bind fun i129=>
(D.set (gx r123.2 4) [i129] x128).bind fun x130=>
 some (0,[x104,x130])) else(some (0,[(gx r67.2 0),x101]))).bind fun(r131:Nat×List D)=>
(D.conv .u32 (gx r131.2 0)).bind fun x132=>
(D.idx (gx v25 0) 16).bind fun i133=>
(D.set (gx r67.2 1) [i133] x132).bind fun x134=>
(D.bin .sub (gx v25 0) (Jn 1)).bind fun x135=>
 some (Sum.inl [x135,x134,(gx r131.2 1)])) else(some (Sum.inr (0,[(gx v25 1),(gx v25 2)])))) [x24,(aF aW),x23]).bind fun r136=>
(match (gx r136.2 1) with
| D.st l137=>(if decide (0+16<=l137.length) then((call 201 [(D.st (List.take 16 (List.drop 0 l137))),r14]).bind fun r138=>
 some (D.tup [(gx r136.2 0),r138])) else none)
| _=>none)))
theorem Mr{lp}(hlp:ak lp):ac 170 (m2 (Dz lp)):=aO (v:=0) (fn:=Tryz.f152) (ann:=KE) hlp
def DA(lp:Lp)(call:Ca)(a0:D):Option D:=
(call 118 [(D.sl [a0])]).bind fun r1=>
(D.un .not r1).bind fun x2=>
(D.truth x2).bind fun b3=>
 if b3 then((call 119 []).bind fun r4=>
 some r4) else((D.get a0 [2]).bind fun x5=>
(call 116 [(D.bool false),x5]).bind fun r6=>
 some r6)
theorem Ms{lp}(hlp:ak lp):ac 171 (m1 (DA lp)):=aU (v:=0) (fn:=Tryz.f153) (ann:=.leaf) hlp
def KF:Ann:=(.tl (.tl (.cut [(.ret,⟨[(4,.sp aw 4100),(5,.sp aw 4101)],[(4100,.one aw (.dv aw)),(4101,.one aw (.dv aw))],[]⟩),(.normal,⟨[(2,.sp aw 4098),(3,.sp aw 4099),(4,.sp aw 4100),(5,.sp aw 4101)],[(4098,.keep aw 2),(4099,.keep aw 3),(4100,.one aw (.dv aw)),(4101,.one aw (.dv aw))],[]⟩)] [] [4098,4099] (.tl (.tl (.two (.tl (.tl (.two (.two (.reg [] 7) (.cut [(.normal,⟨[(4,.sp aw 4100),(5,.sp aw 4101),(10,.di),(11,.di)],[(4100,.keep aw 4),(4101,.keep aw 5)],[]⟩)] [] [4100,4101] .leaf .leaf)) .leaf))) .leaf))) (.tl (.tl (.cut [(.normal,⟨[(3,.sp aw 4099),(4,.sp aw 4100),(5,.sp aw 4101),(13,.sp aW 16397),(14,.sp aw 20494)],[(4099,.keep aw 3),(4100,.keep aw 4),(4101,.keep aw 5),(16397,.one aW (.dv aW)),(20494,.one aw (.dv aw))],[]⟩)] [] [4099,4100,4101] (.tl (.two (.reg [] 7) .leaf)) (.two (.reg [] 5) .leaf)))))))
def DB(lp:Lp)(call:Ca)(a0:D)(a1:D):Option D:=
(call 118 [(D.sl [a0,a1])]).bind fun r1=>
(D.un .not r1).bind fun x2=>
(D.truth x2).bind fun b3=>
(if b3 then(some true) else((call 129 [a1]).bind fun r4=>
 D.truth (D.bool (D.beq r4 (Jn 0))))).bind fun b5=>
(D.truth (D.bool b5)).bind fun b6=>
 if b6 then((call 119 []).bind fun r7=>
(call 119 []).bind fun r8=>
 some (D.tup [r7,r8])) else(((call 202 [a0]).bind fun r9=>
(D.tupAt r9 0).bind fun x10=>
(D.tupAt r9 1).bind fun x11=>
(D.truth x11).bind fun b12=>
(if b12 then(D.truth (D.bool (!(D.beq x10 (Jn (-9223372036854775808)))))) else(some false)).bind fun b13=>
(D.truth (D.bool b13)).bind fun b14=>
 if b14 then((call 202 [a1]).bind fun r15=>
(D.tupAt r15 0).bind fun x16=>
(D.tupAt r15 1).bind fun x17=>
(D.truth x17).bind fun b18=>
(if b18 then(D.truth (D.bool (!(D.beq x16 (Jn (-9223372036854775808)))))) else(some false)).bind fun b19=>
(D.truth (D.bool b19)).bind fun b20=>
 if b20 then((D.bin .quo x10 x16).bind fun x21=>
(D.bin .rem x10 x16).bind fun x22=>
((D.truth (D.bool (!(D.beq x22 (Jn 0))))).bind fun b23=>
(if b23 then((D.bin .lss x22 (Jn 0)).bind fun x24=>
(D.bin .lss x16 (Jn 0)).bind fun x25=>
 D.truth (D.bool (!(D.beq x24 x25)))) else(some false)).bind fun b26=>
(D.truth (D.bool b26)).bind fun b27=>
 if b27 then((D.bin .sub x21 (Jn 1)).bind fun x28=>
(D.bin .add x22 x16).bind fun x29=>
 some (0,[x28,x29])) else(some (0,[x21,x22]))).bind fun(r30:Nat×List D)=>
(call 54 [(gx r30.2 0)]).bind fun r31=>
(call 54 [(gx r30.2 1)]).bind fun r32=>
 some (0,[r31,r32])) else(some (1,[(D.st [(D.bool false),(D.bool false),(aF aW)]),(D.st [(D.bool false),(D.bool false),(aF aW)])]))) else(some (1,[(D.st [(D.bool false),(D.bool false),(aF aW)]),(D.st [(D.bool false),(D.bool false),(aF aW)])]))).bind fun(r33:Nat×List D)=>
 if r33.1=0 then(some (D.tup [(gx r33.2 0),(gx r33.2 1)])) else((D.get a0 [2]).bind fun x34=>
(D.get a1 [2]).bind fun x35=>
(call 170 [x34,x35]).bind fun r36=>
(D.tupAt r36 0).bind fun x37=>
(D.tupAt r36 1).bind fun x38=>
(D.get a0 [1]).bind fun x39=>
(D.get a1 [1]).bind fun x40=>
(call 116 [(D.bool (!(D.beq x39 x40))),x37]).bind fun r41=>
((D.truth (D.bool (!(D.beq x38 (D.st (D.putParts (List.replicate 16 (D.int .u32 0)) [])))))).bind fun b42=>
(if b42 then((D.get a0 [1]).bind fun x43=>
(D.get a1 [1]).bind fun x44=>
 D.truth (D.bool (!(D.beq x43 x44)))) else(some false)).bind fun b45=>
(D.truth (D.bool b45)).bind fun b46=>
 if b46 then((call 54 [(Jn 1)]).bind fun r47=>
(call 203 [r41,r47]).bind fun r48=>
(D.get a1 [2]).bind fun x49=>
(call 122 [x49,x38]).bind fun r50=>
 some (0,[r50,r48])) else(some (0,[x38,r41]))).bind fun(r51:Nat×List D)=>
(D.get a1 [1]).bind fun x52=>
(call 116 [x52,(gx r51.2 0)]).bind fun r53=>
 some (D.tup [(gx r51.2 1),r53])))
theorem Mt{lp}(hlp:ak lp):ac 172 (m2 (DB lp)):=aO (v:=0) (fn:=Tryz.f154) (ann:=KF) hlp
def KG:Ann:=(.tl (.tl (.tl (.two (.reg [] 10) (.two (.reg [] 14) .leaf)))))
def DC(lp:Lp)(call:Ca)(a0:D)(a1:D):Option D:=
(call 136 [a0]).bind fun r1=>
(D.un .not r1).bind fun x2=>
(D.truth x2).bind fun b3=>
(if b3 then(some true) else((call 136 [a1]).bind fun r4=>
(D.un .not r4).bind fun x5=>
 D.truth x5)).bind fun b6=>
(D.truth (D.bool b6)).bind fun b7=>
 if b7 then((call 130 []).bind fun r8=>
 some r8) else((D.get a0 [1]).bind fun x9=>
(D.get a1 [1]).bind fun x10=>
(call 131 [x9,x10]).bind fun r11=>
(D.get a0 [1]).bind fun x12=>
(call 132 [x12,r11]).bind fun r13=>
(D.get a1 [1]).bind fun x14=>
(call 132 [x14,r11]).bind fun r15=>
(D.get a0 [0]).bind fun x16=>
(call 61 [x16,r15]).bind fun r17=>
(D.get a1 [0]).bind fun x18=>
(call 61 [x18,r13]).bind fun r19=>
(call 57 [r17,r19]).bind fun r20=>
(D.get a1 [1]).bind fun x21=>
(call 61 [r13,x21]).bind fun r22=>
(call 62 [r20,r22]).bind fun r23=>
 some r23)
theorem Mu{lp}(hlp:ak lp):ac 173 (m2 (DC lp)):=aO (v:=0) (fn:=Tryz.f55) (ann:=KG) hlp
def KH:Ann:=(.tl (.tl (.two (.reg [] 12) (.two (.reg [] 12) .leaf))))
def DD(lp:Lp)(call:Ca)(a0:D)(a1:D):Option D:=
(call 136 [a0]).bind fun r1=>
(D.un .not r1).bind fun x2=>
(D.truth x2).bind fun b3=>
(if b3 then(some true) else((call 136 [a1]).bind fun r4=>
(D.un .not r4).bind fun x5=>
 D.truth x5)).bind fun b6=>
(D.truth (D.bool b6)).bind fun b7=>
 if b7 then((call 130 []).bind fun r8=>
 some r8) else((D.get a0 [0]).bind fun x9=>
(D.get a1 [1]).bind fun x10=>
(call 62 [x9,x10]).bind fun r11=>
(D.get a1 [0]).bind fun x12=>
(D.get a0 [1]).bind fun x13=>
(call 62 [x12,x13]).bind fun r14=>
(D.get r11 [0]).bind fun x15=>
(D.get r14 [0]).bind fun x16=>
(call 61 [x15,x16]).bind fun r17=>
(D.get r11 [1]).bind fun x18=>
(D.get r14 [1]).bind fun x19=>
(call 61 [x18,x19]).bind fun r20=>
(D.get r17 [0]).bind fun x21=>
(D.truth x21).bind fun b22=>
(if b22 then(some true) else((D.get r20 [0]).bind fun x23=>
 D.truth x23)).bind fun b24=>
(D.truth (D.bool b24)).bind fun b25=>
 if b25 then((call 130 []).bind fun r26=>
 some r26) else(some (D.st [r17,r20])))
theorem Mv{lp}(hlp:ak lp):ac 174 (m2 (DD lp)):=aO (v:=0) (fn:=Tryz.f46) (ann:=KH) hlp
def DE(lp:Lp)(call:Ca)(a0:D)(a1:D):Option D:=
(D.bin .lss a1 (Jn 0)).bind fun x1=>
(D.truth x1).bind fun b2=>
 if b2 then(some (Jn 0)) else((call 141 [a0,a1]).bind fun r3=>
 some r3)
theorem Mw{lp}(hlp:ak lp):ac 175 (m2 (DE lp)):=aO (v:=0) (fn:=Tryz.f167) (ann:=.leaf) hlp
def KI:Ann:=(.tl (.tl (.tl (.tl (.tl (.tl (.cut [(.normal,⟨[(6,.di)],[],[]⟩)] [] [] .leaf .leaf)))))))
def DF(lp:Lp)(call:Ca)(a0:D):Option D:=
(call 76 [a0]).bind fun r1=>
(D.un .not r1).bind fun x2=>
(D.truth x2).bind fun b3=>
 if b3 then(some (D.tup [(Jn 0),(D.bool false)])) else((call 34 [(Jn (-9223372036854775808))]).bind fun r4=>
(call 34 [(Jn 9223372036854775807)]).bind fun r5=>
(call 32 [a0,r4]).bind fun r6=>
(D.bin .lss r6 (Jn 0)).bind fun x7=>
(D.truth x7).bind fun b8=>
(if b8 then(some true) else((call 32 [a0,r5]).bind fun r9=>
(D.bin .gtr r9 (Jn 0)).bind fun x10=>
 D.truth x10)).bind fun b11=>
(D.truth (D.bool b11)).bind fun b12=>
 if b12 then(some (D.tup [(Jn 0),(D.bool false)])) else((D.get a0 [2,1]).bind fun x13=>
(D.conv .u64 x13).bind fun x14=>
(D.bin .mul x14 (D.int .u64 4294967296)).bind fun x15=>
(D.get a0 [2,0]).bind fun x16=>
(D.conv .u64 x16).bind fun x17=>
(D.bin .add x15 x17).bind fun x18=>
(D.conv .i64 x18).bind fun x19=>
((D.get a0 [1]).bind fun x20=>
(D.truth x20).bind fun b21=>
 if b21 then((D.un .neg x19).bind fun x22=>
 some (0,[x22])) else(some (0,[x19]))).bind fun(r23:Nat×List D)=>
 some (D.tup [(gx r23.2 0),(D.bool true)])))
theorem Mx{lp}(hlp:ak lp):ac 186 (m1 (DF lp)):=aU (v:=0) (fn:=Tryz.f207) (ann:=KI) hlp
def KJ:Ann:=(.tl (.two (.tl (.two (.loop ⟨[(1,.sp K1 4097),(3,.di)],[(4097,.keep K1 1)],[]⟩ [(.ret,⟨[(2,.dv Ty.bool)],[],[]⟩),(.exit 0,⟨[],[],[]⟩)] .leaf) .leaf)) .leaf))
def DG(lp:Lp)(call:Ca)(a0:D):Option D:=
(lp (β:=Nat×List D) (fun v1=>
(D.bin .lss (gx v1 0) (Jn 3)).bind fun x2=>
(D.truth x2).bind fun b3=>
 if b3 then((D.idx (gx v1 0) 3).bind fun i4=>
(D.get a0 [i4]).bind fun x5=>
(D.bin .geq x5 (Jn 2305843009213693952)).bind fun x6=>
(D.truth x6).bind fun b7=>
(if b7 then(some true) else((D.idx (gx v1 0) 3).bind fun i8=>
(D.get a0 [i8]).bind fun x9=>
(D.bin .leq x9 (Jn (-2305843009213693952))).bind fun x10=>
 D.truth x10)).bind fun b11=>
(D.truth (D.bool b11)).bind fun b12=>
 if b12 then(some (Sum.inr (0,[(D.bool false)]))) else((D.bin .add (gx v1 0) (Jn 1)).bind fun x13=>
 some (Sum.inl [x13]))) else(some (Sum.inr (1,[])))) [(Jn 0)]).bind fun r14=>
 if r14.1=0 then(some (gx r14.2 0)) else(some (D.bool true))
theorem My{lp}(hlp:ak lp):ac 187 (m1 (DG lp)):=aU (v:=0) (fn:=Tryz.f252) (ann:=KJ) hlp
def KK:Ann:=(.tl (.two (.tl (.two (.loop ⟨[(2,.sp K1 4098),(3,.sp K1 4099),(5,.di)],[(4098,.keep K1 2),(4099,.keep K1 3)],[]⟩ [(.ret,⟨[(4,.di)],[],[]⟩),(.exit 0,⟨[],[],[]⟩)] (.tl (.two (.two (.tl (.two (.two (.reg [] 9) .leaf) .leaf)) .leaf) .leaf))) .leaf)) .leaf))
def DH(lp:Lp)(call:Ca)(a0:D)(a1:D):Option D:=
(lp (β:=Nat×List D) (fun v1=>
(D.bin .lss (gx v1 0) (Jn 3)).bind fun x2=>
(D.truth x2).bind fun b3=>
 if b3 then((D.idx (gx v1 0) 3).bind fun i4=>
(D.get a0 [i4]).bind fun x5=>
(D.truth (D.bool (!(D.beq x5 (Jn 0))))).bind fun b6=>
 if b6 then((D.idx (gx v1 0) 3).bind fun i7=>
(D.get a0 [i7]).bind fun x8=>
(call 215 [x8]).bind fun r9=>
(D.idx (gx v1 0) 3).bind fun i10=>
(D.get a1 [i10]).bind fun x11=>
(call 215 [x11]).bind fun r12=>
(D.bin .mul r9 r12).bind fun x13=>
 some (Sum.inr (0,[x13]))) else((D.bin .add (gx v1 0) (Jn 1)).bind fun x14=>
 some (Sum.inl [x14]))) else(some (Sum.inr (1,[])))) [(Jn 0)]).bind fun r15=>
 if r15.1=0 then(some (gx r15.2 0)) else(some (Jn 0))
theorem Mz{lp}(hlp:ak lp):ac 188 (m2 (DH lp)):=aO (v:=0) (fn:=Tryz.f253) (ann:=KK) hlp
def DI(lp:Lp)(call:Ca)(a0:D):Option D:=
 some (D.bool (!(D.beq a0 a0)))
theorem MA{lp}(hlp:ak lp):ac 194 (m1 (DI lp)):=aU (v:=0) (fn:=Tryz.f220) (ann:=.leaf) hlp
end Sy
end
end
noncomputable section
set_option maxHeartbeats 0
noncomputable section
namespace Sy
open Go Go.Proofs
def KL:Ann:=(.tl (.tl (.two (.tl (.two (.loop ⟨[(2,.sp aW 4098),(4,.sp aW 4100),(6,.dv (Ty.int .u64)),(7,.di)],[(4098,.keep aW 2),(4100,.one aW (.dv aW))],[1]⟩ [(.exit 0,⟨[(4,.sp aW 4100),(6,.dv (Ty.int .u64))],[(4100,.one aW (.dv aW))],[]⟩)] .leaf) .leaf)) .leaf)))
def DJ(lp:Lp)(call:Ca)(a0:D)(a1:D):Option D:=
(lp (β:=Nat×List D) (fun v1=>
(D.bin .geq (gx v1 1) (Jn 0)).bind fun x2=>
(D.truth x2).bind fun b3=>
 if b3 then((D.bin .shl (gx v1 0) (D.int .u64 32)).bind fun x4=>
(D.idx (gx v1 1) 16).bind fun i5=>
(D.get a0 [i5]).bind fun x6=>
(D.conv .u64 x6).bind fun x7=>
(D.bin .or x4 x7).bind fun x8=>
(D.conv .u64 a1).bind fun x9=>
(D.bin .quo x8 x9).bind fun x10=>
(D.conv .u32 x10).bind fun x11=>
(D.idx (gx v1 1) 16).bind fun lg=>
(D.set (gx v1 2) [lg] x11).bind fun x13=>
(D.conv .u64 a1).bind fun x14=>
(D.bin .rem x8 x14).bind fun x15=>
(D.bin .sub (gx v1 1) (Jn 1)).bind fun x16=>
 some (Sum.inl [x15,x16,x13])) else(some (Sum.inr (0,[(gx v1 0),(gx v1 2)])))) [(D.int .u64 0),(Jn 15),(aF aW)]).bind fun r17=>
(D.conv .u32 (gx r17.2 0)).bind fun x18=>
 some (D.tup [(gx r17.2 1),x18])
theorem MB{lp}(hlp:ak lp):ac 195 (m2 (DJ lp)):=aO (v:=0) (fn:=Tryz.f189) (ann:=KL) hlp
def DK(lp:Lp)(call:Ca)(a0:D):Option D:=
(call 165 [a0]).bind fun r1=>
(D.bin .sub (Jn 32) r1).bind fun x2=>
 some x2
theorem MC{lp}(hlp:ak lp):ac 196 (m1 (DK lp)):=aU (v:=0) (fn:=Tryz.f190) (ann:=.leaf) hlp
def KM:Ann:=(.tl (.tl (.tl (.two (.tl (.two (.loop ⟨[(2,.sp aW 4098),(4,.sp aW 4100),(6,.sp aW 8198),(7,.dv (Ty.int .u64)),(9,.di)],[(4098,.keep aW 2),(4100,.keep aW 4),(8198,.one aW (.dv aW))],[1]⟩ [(.exit 0,⟨[(4,.sp aW 4100),(6,.sp aW 8198),(7,.dv (Ty.int .u64))],[(4100,.keep aW 4),(8198,.one aW (.dv aW))],[]⟩)] .leaf) .leaf)) .leaf))))
def DL(lp:Lp)(call:Ca)(a0:D)(a1:D):Option D:=
(lp (β:=Nat×List D) (fun v1=>
(D.bin .lss (gx v1 1) (Jn 16)).bind fun x2=>
(D.truth x2).bind fun b3=>
 if b3 then((D.idx (gx v1 1) 16).bind fun i4=>
(D.get a0 [i4]).bind fun x5=>
(D.conv .u64 x5).bind fun x6=>
(D.bin .shl x6 a1).bind fun x7=>
(D.bin .or (gx v1 0) x7).bind fun x8=>
(D.conv .u32 x8).bind fun x9=>
(D.idx (gx v1 1) 16).bind fun i10=>
(D.set (gx v1 2) [i10] x9).bind fun x11=>
(D.bin .shr x8 (D.int .u64 32)).bind fun x12=>
(D.bin .add (gx v1 1) (Jn 1)).bind fun x13=>
 some (Sum.inl [x12,x13,x11])) else(some (Sum.inr (0,[(gx v1 0),(gx v1 2)])))) [(D.int .u64 0),(Jn 0),(aF aW)]).bind fun r14=>
(D.conv .u32 (gx r14.2 0)).bind fun x15=>
 some (D.tup [(gx r14.2 1),x15])
theorem MD{lp}(hlp:ak lp):ac 197 (m2 (DL lp)):=aO (v:=0) (fn:=Tryz.f191) (ann:=KM) hlp
def KN:Ann:=(.tl (.tl (.two (.tl (.two (.loop ⟨[(2,.sp aW 4098),(4,.sp aW 4100),(5,.sp aW 8197),(8,.di)],[(4098,.keep aW 2),(4100,.keep aW 4),(8197,.one aW (.dv aW))],[1]⟩ [(.exit 0,⟨[(4,.sp aW 4100),(5,.sp aW 8197)],[(4100,.keep aW 4),(8197,.one aW (.dv aW))],[]⟩)] (.tl (.tl (.two (.two (.tl (.tl (.cut [(.normal,⟨[(2,.sp aW 4098),(4,.sp aW 4100),(5,.sp aW 8197),(7,.dv (Ty.int .u64))],[(4098,.keep aW 2),(4100,.keep aW 4),(8197,.keep aW 5)],[1,6,8]⟩)] [1,6,8] [4098,4100,8197] .leaf .leaf))) .leaf) .leaf)))) .leaf)) .leaf)))
def DM(lp:Lp)(call:Ca)(a0:D)(a1:D):Option D:=
(lp (β:=Nat×List D) (fun v1=>
(D.bin .lss (gx v1 0) (Jn 16)).bind fun x2=>
(D.truth x2).bind fun b3=>
 if b3 then(((D.bin .add (gx v1 0) (Jn 1)).bind fun x4=>
(D.bin .lss x4 (Jn 16)).bind fun x5=>
(D.truth x5).bind fun b6=>
 if b6 then((D.bin .add (gx v1 0) (Jn 1)).bind fun x7=>
(D.idx x7 16).bind fun i8=>
(D.get a0 [i8]).bind fun x9=>
(D.conv .u64 x9).bind fun x10=>
 some (0,[x10])) else(some (0,[(D.int .u64 0)]))).bind fun(r11:Nat×List D)=>
(D.bin .shl (gx r11.2 0) (D.int .u64 32)).bind fun x12=>
(D.idx (gx v1 0) 16).bind fun i13=>
(D.get a0 [i13]).bind fun x14=>
(D.conv .u64 x14).bind fun x15=>
(D.bin .or x12 x15).bind fun x16=>
(D.bin .shr x16 a1).bind fun x17=>
(D.conv .u32 x17).bind fun x18=>
(D.idx (gx v1 0) 16).bind fun i19=>
(D.set (gx v1 1) [i19] x18).bind fun x20=>
(D.bin .add (gx v1 0) (Jn 1)).bind fun x21=>
 some (Sum.inl [x21,x20])) else(some (Sum.inr (0,[(gx v1 1)])))) [(Jn 0),(aF aW)]).bind fun r22=>
 some (gx r22.2 0)
theorem ME{lp}(hlp:ak lp):ac 201 (m2 (DM lp)):=aO (v:=0) (fn:=Tryz.f195) (ann:=KN) hlp
def zg(lp:Lp)(call:Ca)(a0:D):Option D:=
(call 118 [(D.sl [a0])]).bind fun r1=>
(D.un .not r1).bind fun x2=>
(D.truth x2).bind fun b3=>
(if b3 then(some true) else((call 217 [a0]).bind fun r4=>
(D.bin .gtr r4 (Jn 64)).bind fun x5=>
 D.truth x5)).bind fun b6=>
(D.truth (D.bool b6)).bind fun b7=>
 if b7 then(some (D.tup [(Jn 0),(D.bool false)])) else((D.get a0 [2,1]).bind fun x8=>
(D.conv .u64 x8).bind fun x9=>
(D.bin .shl x9 (D.int .u64 32)).bind fun x10=>
(D.get a0 [2,0]).bind fun x11=>
(D.conv .u64 x11).bind fun x12=>
(D.bin .or x10 x12).bind fun x13=>
(D.get a0 [1]).bind fun x14=>
(D.truth x14).bind fun b15=>
(if b15 then((D.bin .leq x13 (D.int .u64 9223372036854775808)).bind fun x16=>
 D.truth x16) else(some false)).bind fun b17=>
(D.truth (D.bool b17)).bind fun b18=>
 if b18 then((D.un .neg x13).bind fun x19=>
(D.conv .i64 x19).bind fun x20=>
 some (D.tup [x20,(D.bool true)])) else((D.get a0 [1]).bind fun x21=>
(D.un .not x21).bind fun x22=>
(D.truth x22).bind fun b23=>
(if b23 then((D.bin .lss x13 (D.int .u64 9223372036854775808)).bind fun x24=>
 D.truth x24) else(some false)).bind fun b25=>
(D.truth (D.bool b25)).bind fun b26=>
 if b26 then((D.conv .i64 x13).bind fun x27=>
 some (D.tup [x27,(D.bool true)])) else(some (D.tup [(Jn 0),(D.bool false)]))))
theorem MF{lp}(hlp:ak lp):ac 202 (m1 (zg lp)):=aU (v:=0) (fn:=Tryz.f196) (ann:=.leaf) hlp
def HA:Ann:=(.tl (.two (.reg [] 4) .leaf))
theorem MG{lp}(hlp:ak lp):ac 203 (cY 0 lp 203 Tryz.f197 HA):=bx hlp (by kernel_rfl) (by kernel_rfl)
def DN(lp:Lp)(call:Ca)(a0:D):Option D:=
(D.bin .lss a0 (Jn 0)).bind fun x1=>
(D.truth x1).bind fun b2=>
 if b2 then(some (Jn (-1))) else((D.bin .gtr a0 (Jn 0)).bind fun x3=>
(D.truth x3).bind fun b4=>
 if b4 then(some (Jn 1)) else(some (Jn 0)))
theorem MH{lp}(hlp:ak lp):ac 215 (m1 (DN lp)):=aU (v:=0) (fn:=Tryz.f263) (ann:=.leaf) hlp
def DO(lp:Lp)(call:Ca)(a0:D):Option D:=
(D.get a0 [2]).bind fun x1=>
(call 127 [x1]).bind fun r2=>
(call 118 [(D.sl [a0])]).bind fun r3=>
(D.un .not r3).bind fun x4=>
(D.truth x4).bind fun b5=>
(if b5 then(some true) else(D.truth (D.bool (D.beq r2 (Jn 0))))).bind fun b6=>
(D.truth (D.bool b6)).bind fun b7=>
 if b7 then(some (Jn 0)) else((D.bin .sub r2 (Jn 1)).bind fun x8=>
(D.bin .mul (Jn 32) x8).bind fun x9=>
(D.bin .sub r2 (Jn 1)).bind fun x10=>
(D.idx x10 16).bind fun i11=>
(D.get a0 [2,i11]).bind fun x12=>
(call 165 [x12]).bind fun r13=>
(D.bin .add x9 r13).bind fun x14=>
 some x14)
theorem MI{lp}(hlp:ak lp):ac 217 (m1 (DO lp)):=aU (v:=0) (fn:=Tryz.f219) (ann:=.leaf) hlp
def KO:Ann:=(.tl (.tl (.tl (.two (.tl (.two (.loop ⟨[(3,.sp fd 4099),(8,.di)],[(4099,.keep fd 3)],[1,2]⟩ [(.ret,⟨[(6,.dv Ty.bool)],[],[]⟩),(.exit 0,⟨[(3,.sp fd 4099)],[(4099,.keep fd 3)],[1,2]⟩)] .leaf) .leaf)) (.tl (.two (.reg [] 6) (.two (.reg [] 17) (.two (.reg [] 19) .leaf))))))))
def DP(lp:Lp)(call:Ca)(a0:D)(a1:D)(a2:D):Option D:=
(call 306 [a0,(D.st [(Jn 0),(Jn 0),(Jn 0)]),(D.st [(Jn 0),(Jn 0),(Jn 0)])]).bind fun r1=>
(D.un .not r1).bind fun x2=>
(D.truth x2).bind fun b3=>
(if b3 then(some true) else((D.bin .lss a1 (Jn 0)).bind fun x4=>
 D.truth x4)).bind fun b5=>
(D.truth (D.bool b5)).bind fun b6=>
(if b6 then(some true) else((D.bin .gtr a1 (Jn 1048576)).bind fun x7=>
 D.truth x7)).bind fun b8=>
(D.truth (D.bool b8)).bind fun b9=>
(if b9 then(some true) else((D.asSl a2).bind fun l10=>
(D.bin .gtr (Jn (l10.length)) (Jn 20)).bind fun x11=>
 D.truth x11)).bind fun b12=>
(D.truth (D.bool b12)).bind fun b13=>
(if b13 then(some true) else((D.asSl a2).bind fun l14=>
 D.truth (D.bool (D.beq (Jn (l14.length)) (Jn 0))))).bind fun b15=>
(D.truth (D.bool b15)).bind fun b16=>
 if b16 then((call 307 []).bind fun r17=>
 some r17) else((lp (β:=Nat×List D) (fun v18=>
(D.asSl a2).bind fun l19=>
(D.bin .lss (gx v18 0) (Jn (l19.length))).bind fun x20=>
(D.truth x20).bind fun b21=>
 if b21 then((D.asSl a2).bind fun l22=>
(D.idx (gx v18 0) (l22.length)).bind fun wP=>
(l22[wP]?).bind fun x24=>
(call 308 [x24]).bind fun r25=>
(D.truth (D.bool (!(D.beq r25 (Jn 0))))).bind fun b26=>
 if b26 then((call 307 []).bind fun r27=>
 some (Sum.inr (0,[r27]))) else((D.bin .add (gx v18 0) (Jn 1)).bind fun x28=>
 some (Sum.inl [x28]))) else(some (Sum.inr (1,[])))) [(Jn 0)]).bind fun r29=>
 if r29.1=0 then(some (gx r29.2 0)) else((call 311 [a0,a1,a2]).bind fun r30=>
(call 323 [a2]).bind fun r31=>
(call 311 [a0,a1,r31]).bind fun r32=>
(D.asSl a2).bind fun l33=>
(D.bin .sub (Jn (l33.length)) (Jn 1)).bind fun x34=>
(D.asSl a2).bind fun l35=>
(D.idx x34 (l35.length)).bind fun i36=>
(l35[i36]?).bind fun x37=>
(call 313 [a0,a1,x37]).bind fun r38=>
(D.asSl a2).bind fun l39=>
(D.idx (Jn 0) (l39.length)).bind fun i40=>
(l39[i40]?).bind fun x41=>
(call 313 [a0,a1,x41]).bind fun r42=>
(call 39 [r38,r42]).bind fun r43=>
(call 307 []).bind fun r44=>
(D.truth r44).bind fun b45=>
(if b45 then((call 324 [r30,r43]).bind fun r46=>
(D.bin .geq r46 (Jn 0)).bind fun x47=>
 D.truth x47) else(some false)).bind fun b48=>
(D.truth (D.bool b48)).bind fun b49=>
(if b49 then((call 322 [r30]).bind fun r50=>
(D.bin .geq r50 (Jn 0)).bind fun x51=>
 D.truth x51) else(some false)).bind fun b52=>
(D.truth (D.bool b52)).bind fun b53=>
(if b53 then((call 39 [r30,r32]).bind fun r54=>
 D.truth (D.bool (D.beq r54 r43))) else(some false)).bind fun b55=>
 some (D.bool b55)))
theorem Ie{lp}(hlp:ak lp):ac 303 (m3 (DP lp)):=jO (v:=0) (fn:=Tryz.f6) (ann:=KO) hlp
def DQ(lp:Lp)(call:Ca)(a0:D)(a1:D)(a2:D):Option D:=
(call 326 [a0]).bind fun r1=>
(D.truth r1).bind fun b2=>
(if b2 then((call 327 [a1]).bind fun r3=>
 D.truth r3) else(some false)).bind fun b4=>
(D.truth (D.bool b4)).bind fun b5=>
(if b5 then((call 327 [a2]).bind fun r6=>
 D.truth r6) else(some false)).bind fun b7=>
 some (D.bool b7)
theorem MJ{lp}(hlp:ak lp):ac 306 (m3 (DQ lp)):=jO (v:=0) (fn:=Tryz.f9) (ann:=.leaf) hlp
def HB:Ann:=(.tl (.tl (.tl (.two (.reg [] 6) (.tl (.two (.reg [] 16) (.two (.reg [] 16) (.two (.reg [] 25) .leaf))))))))
theorem MK{lp}(hlp:ak lp):ac 307 (cY 0 lp 307 Tryz.f10 HB):=bx hlp (by kernel_rfl) (by kernel_rfl)
def KP:Ann:=(.tl (.two (.tl (.two (.loop ⟨[(1,.sp uK 4097),(3,.di)],[(4097,.keep uK 1)],[]⟩ [(.ret,⟨[(2,.di)],[],[]⟩),(.exit 0,⟨[(1,.sp uK 4097)],[(4097,.keep uK 1)],[]⟩)] .leaf) .leaf)) .leaf))
def DS(lp:Lp)(call:Ca)(a0:D):Option D:=
(lp (β:=Nat×List D) (fun v1=>
(D.bin .lss (gx v1 0) (Jn 3)).bind fun x2=>
(D.truth x2).bind fun b3=>
 if b3 then((D.idx (gx v1 0) 3).bind fun i4=>
(D.get a0 [0,i4]).bind fun x5=>
(D.bin .geq x5 (Jn 140737488355328)).bind fun x6=>
(D.truth x6).bind fun b7=>
(if b7 then(some true) else((D.idx (gx v1 0) 3).bind fun i8=>
(D.get a0 [0,i8]).bind fun x9=>
(D.bin .leq x9 (Jn (-140737488355328))).bind fun x10=>
 D.truth x10)).bind fun b11=>
(D.truth (D.bool b11)).bind fun b12=>
 if b12 then(some (Sum.inr (0,[(Jn 1)]))) else((D.bin .add (gx v1 0) (Jn 1)).bind fun x13=>
 some (Sum.inl [x13]))) else(some (Sum.inr (1,[])))) [(Jn 0)]).bind fun r14=>
 if r14.1=0 then(some (gx r14.2 0)) else((D.get a0 [1]).bind fun x15=>
(call 331 [x15]).bind fun r16=>
(D.un .not r16).bind fun x17=>
(D.truth x17).bind fun b18=>
 if b18 then(some (Jn 1)) else(some (Jn 0)))
theorem ML{lp}(hlp:ak lp):ac 308 (m1 (DS lp)):=aU (v:=0) (fn:=Tryz.f11) (ann:=KP) hlp
def HC:Ann:=(.tl (.tl (.tl (.tl (.tl (.tl (.two (.tl (.two (.loop ⟨[(4,.sp K1 4100),(6,.sp aL 4102),(7,.sp aL 8199),(8,.sp be 12296),(9,.sp fc 20489),(10,.sp fc 24586),(29,.di)],[(4100,.keep K1 4),(4102,.keep aL 6),(8199,.keep aL 7),(12296,.keep be 8),(20489,.keep fc 9),(24586,.one fc (.dv fc))],[]⟩ [(.exit 0,⟨[(4,.sp K1 4100),(6,.sp aL 4102),(7,.sp aL 8199),(9,.sp fc 20489),(10,.sp fc 24586)],[(4100,.keep K1 4),(4102,.keep aL 6),(8199,.keep aL 7),(20489,.keep fc 9),(24586,.one fc (.dv fc))],[]⟩)] (.tl (.tl (.two (.two (.tl (.reg [] 14)) .leaf) .leaf)))) .leaf)) (.tl (.two (.reg [] 8) .leaf)))))))))
theorem MM{lp}(hlp:ak lp):ac 309 (cY 0 lp 309 Tryz.f12 HC):=bx hlp (by kernel_rfl) (by kernel_rfl)
def KQ:Ann:=(.tl (.tl (.two (.tl (.two (.loop ⟨[(3,.sp fd 4099),(6,.sp aL 4102),(7,.sp aL 8199),(8,.di)],[(4099,.keep fd 3),(4102,.keep aL 6),(8199,.one aL (.dv aL))],[1,2]⟩ [(.exit 0,⟨[(6,.sp aL 4102),(7,.sp aL 8199)],[(4102,.keep aL 6),(8199,.one aL (.dv aL))],[]⟩)] (.tl (.two (.two (.two (.reg [] 17) (.reg [] 5)) .leaf) .leaf))) .leaf)) .leaf)))
def DT(lp:Lp)(call:Ca)(a0:D)(a1:D)(a2:D):Option D:=
(call 74 [(Jn 0)]).bind fun r1=>
(lp (β:=Nat×List D) (fun v2=>
(D.asSl a2).bind fun l3=>
(D.bin .lss (gx v2 0) (Jn (l3.length))).bind fun x4=>
(D.truth x4).bind fun b5=>
 if b5 then((D.asSl a2).bind fun l6=>
(D.idx (gx v2 0) (l6.length)).bind fun i7=>
(l6[i7]?).bind fun x8=>
(call 313 [a0,a1,x8]).bind fun r9=>
(D.bin .sub (gx v2 0) (Jn 1)).bind fun x10=>
(D.asSl a2).bind fun l11=>
(D.idx x10 (l11.length)).bind fun lg=>
(l11[lg]?).bind fun x13=>
(call 313 [a0,a1,x13]).bind fun r14=>
(call 336 [r9,r14]).bind fun r15=>
(call 74 [(Jn 0)]).bind fun r16=>
(call 337 [r15,r16]).bind fun r17=>
(call 173 [(gx v2 1),r17]).bind fun r18=>
(D.bin .add (gx v2 0) (Jn 1)).bind fun x19=>
 some (Sum.inl [x19,r18])) else(some (Sum.inr (0,[(gx v2 1)])))) [(Jn 1),r1]).bind fun r20=>
 some (gx r20.2 0)
theorem MN{lp}(hlp:ak lp):ac 311 (m3 (DT lp)):=jO (v:=0) (fn:=Tryz.f14) (ann:=KQ) hlp
def KR:Ann:=(.tl (.two (.reg [] 12) .leaf))
def DU(lp:Lp)(call:Ca)(a0:D)(a1:D)(a2:D):Option D:=
(D.get a0 [2,0]).bind fun x1=>
(call 74 [x1]).bind fun r2=>
(call 74 [a1]).bind fun r3=>
(call 174 [r2,r3]).bind fun r4=>
(D.get a2 [0,2]).bind fun x5=>
(call 74 [x5]).bind fun r6=>
(call 174 [r4,r6]).bind fun r7=>
 some r7
theorem MO{lp}(hlp:ak lp):ac 313 (m3 (DU lp)):=jO (v:=0) (fn:=Tryz.f16) (ann:=KR) hlp
def HD:Ann:=(.tl (.two (.regI [] 6 (.tl (.two (.tl (.two (.regI [] 3 (.two (.tl (.two (.tl (.two (.two (.tl (.two (.loop ⟨[(0,.same (.yld 53248)),(1,.sp uL 16386),(2,.sp mO 16387),(11,.di)],[(4100,.one aL (.dv aL)),(16386,.keep uL 1),(16387,.keep mO 2),(45058,.one eH (.ow aL)),(53248,.lp none 0)],[9,10]⟩ [(.exit 0,⟨[(0,.same (.yld 53248)),(1,.sp uL 16386),(2,.sp mO 16387)],[(4100,.one aL (.dv aL)),(16386,.keep uL 1),(16387,.keep mO 2),(45058,.one eH (.ow aL)),(53248,.lp none 0)],[]⟩)] (.tl (.tl (.two (.two (.tl (.two (.regI [] 38 .leaf) .leaf)) .leaf) .leaf)))) .leaf)) (.tl (.two (.loop ⟨[(0,.same (.yld 53248)),(2,.sp mO 16387),(58,.di)],[(4100,.one aL (.dv aL)),(16387,.keep mO 2),(45058,.one eH (.ow aL)),(53248,.lp none 0)],[56,57]⟩ [(.exit 2,⟨[(0,.same (.yld 53248))],[(4100,.one aL (.dv aL)),(45058,.one eH (.ow aL)),(53248,.lp none 0)],[]⟩)] (.tl (.tl (.two (.two (.tl (.two (.regI [] 25 .leaf) .leaf)) .leaf) .leaf)))) .leaf))) .leaf)) .leaf)) .leaf)) .leaf)) .leaf))) .leaf))
theorem MP{lp}(hlp:ak lp):ac 316 (cY 0 lp 316 Tryz.f19 HD):=bx hlp (by kernel_rfl) (by kernel_rfl)
def HE:Ann:=(.tl (.two (.reg [] 7) .leaf))
theorem MQ{lp}(hlp:ak lp):ac 318 (cY 0 lp 318 Tryz.f21 HE):=bx hlp (by kernel_rfl) (by kernel_rfl)
theorem MR{lp}(hlp:ak lp):ac 320 (cY 0 lp 320 Tryz.f23 .leaf):=bx hlp (by kernel_rfl) (by kernel_rfl)
def DV(lp:Lp)(call:Ca)(a0:D):Option D:=
(call 88 [a0]).bind fun r1=>
(D.un .not r1).bind fun x2=>
(D.truth x2).bind fun b3=>
 if b3 then(some (Jn 0)) else((D.get a0 [0]).bind fun x4=>
(call 83 [x4]).bind fun r5=>
 some r5)
theorem MS{lp}(hlp:ak lp):ac 322 (m1 (DV lp)):=aU (v:=0) (fn:=Tryz.f27) (ann:=.leaf) hlp
def KS:Ann:=(.tl (.tl (.two (.tl (.two (.loop ⟨[(3,.ow uK),(4,.di)],[],[0]⟩ [(.exit 0,⟨[(3,.ow uK)],[],[]⟩)] .leaf) .leaf)) .leaf)))
def DW(lp:Lp)(call:Ca)(a0:D):Option D:=
(D.asSl a0).bind fun l1=>
(D.bin .sub (Jn (l1.length)) (Jn 1)).bind fun x2=>
(lp (β:=Nat×List D) (fun v3=>
(D.bin .geq (gx v3 1) (Jn 0)).bind fun x4=>
(D.truth x4).bind fun b5=>
 if b5 then((D.asSl a0).bind fun l6=>
(D.idx (gx v3 1) (l6.length)).bind fun i7=>
(l6[i7]?).bind fun x8=>
 if List.length ((gx v3 0).els)+List.length [x8]<=1073741824 then((D.bin .sub (gx v3 1) (Jn 1)).bind fun x9=>
 some (Sum.inl [(D.sl (((gx v3 0).els)++[x8])),x9])) else none) else(some (Sum.inr (0,[(D.sl ((gx v3 0).els))])))) [(D.sl []),x2]).bind fun r10=>
 some (D.sl ((gx r10.2 0).els))
theorem MT{lp}(hlp:ak lp):ac 323 (m1 (DW lp)):=aU (v:=0) (fn:=Tryz.f30) (ann:=KS) hlp
def KU:Ann:=(.tl (.tl (.tl (.two (.tl (.two (.two (.reg [] 7) .leaf) .leaf)) (.tl (.tl (.tl (.two (.loop ⟨[(7,.di),(8,.sp Gs 24584),(9,.sp Gs 28681)],[(24584,.one Gs (.dv Gs)),(28681,.one Gs (.dv Gs))],[]⟩ [(.ret,⟨[(4,.di)],[],[]⟩)] (.two (.tl (.tl (.tl (.tl (.two (.reg [] 8) (.two (.reg [] 8) (.two (.tl (.two (.two (.reg [] 9) .leaf) .leaf)) .leaf))))))) .leaf)) .leaf))))))))
def DX(lp:Lp)(call:Ca)(a0:D)(a1:D):Option D:=
(call 88 [a0]).bind fun r1=>
(call 88 [a1]).bind fun r2=>
(D.un .not r1).bind fun x3=>
(D.truth x3).bind fun b4=>
(if b4 then(some true) else((D.un .not r2).bind fun x5=>
 D.truth x5)).bind fun b6=>
(D.truth (D.bool b6)).bind fun b7=>
 if b7 then((call 344 [a0,r1]).bind fun r8=>
(call 344 [a1,r2]).bind fun r9=>
(call 32 [r8,r9]).bind fun r10=>
 some r10) else((D.get a0 [0]).bind fun x11=>
(D.get a0 [1]).bind fun x12=>
(D.get a1 [0]).bind fun x13=>
(D.get a1 [1]).bind fun x14=>
(lp (β:=Nat×List D) (fun v15=>
(D.get (gx v15 1) [0]).bind fun x16=>
(D.get (gx v15 1) [1]).bind fun x17=>
(call 87 [x16,x17]).bind fun r18=>
(D.get (gx v15 2) [0]).bind fun x19=>
(D.get (gx v15 2) [1]).bind fun x20=>
(call 87 [x19,x20]).bind fun r21=>
(call 32 [r18,r21]).bind fun r22=>
(D.truth (D.bool (!(D.beq r22 (Jn 0))))).bind fun b23=>
 if b23 then((D.bin .mul (gx v15 0) r22).bind fun x24=>
 some (Sum.inr (0,[x24]))) else((D.get (gx v15 1) [1]).bind fun x25=>
(D.get (gx v15 1) [0]).bind fun x26=>
(D.get (gx v15 1) [1]).bind fun x27=>
(call 345 [x26,x27]).bind fun r28=>
(D.get (gx v15 2) [1]).bind fun x29=>
(D.get (gx v15 2) [0]).bind fun x30=>
(D.get (gx v15 2) [1]).bind fun x31=>
(call 345 [x30,x31]).bind fun r32=>
(call 83 [r28]).bind fun r33=>
(D.truth (D.bool (D.beq r33 (Jn 0)))).bind fun b34=>
(if b34 then(some true) else((call 83 [r32]).bind fun r35=>
 D.truth (D.bool (D.beq r35 (Jn 0))))).bind fun b36=>
(D.truth (D.bool b36)).bind fun b37=>
 if b37 then((call 83 [r28]).bind fun r38=>
(call 83 [r32]).bind fun r39=>
(D.bin .sub r38 r39).bind fun x40=>
(D.bin .mul (gx v15 0) x40).bind fun x41=>
 some (Sum.inr (0,[x41]))) else((D.un .neg (gx v15 0)).bind fun x42=>
 some (Sum.inl [x42,(D.st [x25,r28]),(D.st [x29,r32])])))) [(Jn 1),(D.st [x11,x12]),(D.st [x13,x14])]).bind fun r43=>
 some (gx r43.2 0))
theorem MU{lp}(hlp:ak lp):ac 324 (m2 (DX lp)):=aO (v:=0) (fn:=Tryz.f32) (ann:=KU) hlp
def DY(lp:Lp)(call:Ca)(a0:D):Option D:=
(call 346 [a0]).bind fun r1=>
(D.truth r1).bind fun b2=>
(if b2 then((call 347 [a0]).bind fun r3=>
 D.truth (D.bool (D.beq r3 (Jn 0)))) else(some false)).bind fun b4=>
 some (D.bool b4)
theorem MW{lp}(hlp:ak lp):ac 326 (m1 (DY lp)):=aU (v:=0) (fn:=Tryz.f35) (ann:=.leaf) hlp
def KV:Ann:=(.tl (.two (.tl (.two (.loop ⟨[(1,.sp K1 4097),(3,.di)],[(4097,.keep K1 1)],[]⟩ [(.ret,⟨[(2,.dv Ty.bool)],[],[]⟩),(.exit 0,⟨[],[],[]⟩)] .leaf) .leaf)) .leaf))
def DZ(lp:Lp)(call:Ca)(a0:D):Option D:=
(lp (β:=Nat×List D) (fun v1=>
(D.bin .lss (gx v1 0) (Jn 3)).bind fun x2=>
(D.truth x2).bind fun b3=>
 if b3 then((D.idx (gx v1 0) 3).bind fun i4=>
(D.get a0 [i4]).bind fun x5=>
(D.bin .geq x5 (Jn 1099511627776)).bind fun x6=>
(D.truth x6).bind fun b7=>
(if b7 then(some true) else((D.idx (gx v1 0) 3).bind fun i8=>
(D.get a0 [i8]).bind fun x9=>
(D.bin .leq x9 (Jn (-1099511627776))).bind fun x10=>
 D.truth x10)).bind fun b11=>
(D.truth (D.bool b11)).bind fun b12=>
 if b12 then(some (Sum.inr (0,[(D.bool false)]))) else((D.bin .add (gx v1 0) (Jn 1)).bind fun x13=>
 some (Sum.inl [x13]))) else(some (Sum.inr (1,[])))) [(Jn 0)]).bind fun r14=>
 if r14.1=0 then(some (gx r14.2 0)) else(some (D.bool true))
theorem MX{lp}(hlp:ak lp):ac 327 (m1 (DZ lp)):=aU (v:=0) (fn:=Tryz.f36) (ann:=KV) hlp
def HF:Ann:=(.tl (.tl (.two (.tl (.two (.loop ⟨[(0,.sp fd 4096),(1,.ow K1),(2,.di)],[(4096,.one fd (.st [Ty.str,Ib,K8,K8] [.dv Ty.str,.ow K3,.dv K8,.dv K8]))],[]⟩ [(.exit 0,⟨[(0,.sp fd 4096),(1,.ow K1)],[(4096,.one fd (.st [Ty.str,Ib,K8,K8] [.dv Ty.str,.ow K3,.dv K8,.dv K8]))],[]⟩)] .leaf) .leaf)) .leaf)))
theorem MY{lp}(hlp:ak lp):ac 328 (cY 0 lp 328 Tryz.f37 HF):=bx hlp (by kernel_rfl) (by kernel_rfl)
theorem MZ{lp}(hlp:ak lp):ac 329 (cY 0 lp 329 Tryz.f38 .leaf):=bx hlp (by kernel_rfl) (by kernel_rfl)
def HG:Ann:=(.tl (.two (.reg [] 8) .leaf))
theorem M0{lp}(hlp:ak lp):ac 330 (cY 0 lp 330 Tryz.f39 HG):=bx hlp (by kernel_rfl) (by kernel_rfl)
def D0(lp:Lp)(call:Ca)(a0:D):Option D:=
(call 348 [a0]).bind fun r1=>
(D.un .not r1).bind fun x2=>
(D.truth x2).bind fun b3=>
 if b3 then(some (D.bool false)) else((call 349 [a0]).bind fun r4=>
(D.tupAt r4 0).bind fun x5=>
(D.tupAt r4 1).bind fun x6=>
(D.truth x6).bind fun b7=>
(if b7 then(D.truth (D.bool (D.beq x5 a0))) else(some false)).bind fun b8=>
 some (D.bool b8))
theorem M4{lp}(hlp:ak lp):ac 331 (m1 (D0 lp)):=aU (v:=0) (fn:=Tryz.f40) (ann:=.leaf) hlp
def HH:Ann:=(.tl (.tl (.two (.tl (.two (.loop ⟨[(2,.sp fd 4098),(3,.sp aL 4099),(4,.sp be 4100),(5,.sp be 8197),(14,.di)],[(4098,.keep fd 2),(4099,.keep aL 3),(4100,.one be (.st [Ti,Ti,eH] [.di,.di,.ow aL])),(8197,.one be (.dv be))],[12,13]⟩ [(.ret,⟨[(4,.sp be 4100)],[(4100,.one be (.st [Ti,Ti,eH] [.di,.di,.ow aL]))],[]⟩),(.exit 0,⟨[(2,.sp fd 4098),(3,.sp aL 4099),(4,.sp be 4100),(5,.sp be 8197)],[(4098,.keep fd 2),(4099,.keep aL 3),(4100,.one be (.st [Ti,Ti,eH] [.di,.di,.ow aL])),(8197,.one be (.dv be))],[]⟩)] (.tl (.tl (.cut [(.normal,⟨[(2,.sp fd 4098),(3,.sp aL 4099),(4,.sp be 4100),(5,.sp be 8197)],[(4098,.keep fd 2),(4099,.keep aL 3),(4100,.one be (.st [Ti,Ti,eH] [.di,.di,.ow aL])),(8197,.one be (.dv be))],[12,13,14]⟩),(.ret,⟨[(4,.sp be 4100)],[(4100,.one be (.st [Ti,Ti,eH] [.di,.di,.ow aL]))],[]⟩)] [12,13,14] [4098,4099] (.two (.tl (.tl (.tl (.two (.reg [] 7) .leaf)))) .leaf) .leaf)))) .leaf)) (.two (.reg [] 13) .leaf))))
theorem M5{lp}(hlp:ak lp):ac 332 (cY 0 lp 332 Tryz.f42 HH):=bx hlp (by kernel_rfl) (by kernel_rfl)
theorem M6{lp}(hlp:ak lp):ac 333 (cY 0 lp 333 Tryz.f47 .leaf):=bx hlp (by kernel_rfl) (by kernel_rfl)
def HI:Ann:=(.tl (.tl (.two (.tl (.two (.loop ⟨[(2,.sp aL 4098),(3,.sp aL 8195),(9,.di)],[(4098,.keep aL 2),(8195,.one aL (.dv aL))],[7,8]⟩ [(.exit 0,⟨[(2,.sp aL 4098),(3,.sp aL 8195)],[(4098,.keep aL 2),(8195,.one aL (.dv aL))],[]⟩)] .leaf) .leaf)) .leaf)))
theorem M7{lp}(hlp:ak lp):ac 334 (cY 0 lp 334 Tryz.f48 HI):=bx hlp (by kernel_rfl) (by kernel_rfl)
def KW:Ann:=(.tl (.two (.reg [] 4) .leaf))
def D1(lp:Lp)(call:Ca)(a0:D)(a1:D):Option D:=
(call 357 [a1]).bind fun r1=>
(call 173 [a0,r1]).bind fun r2=>
 some r2
theorem M8{lp}(hlp:ak lp):ac 336 (m2 (D1 lp)):=aO (v:=0) (fn:=Tryz.f54) (ann:=KW) hlp
def D2(lp:Lp)(call:Ca)(a0:D)(a1:D):Option D:=
(call 136 [a0]).bind fun r1=>
(D.un .not r1).bind fun x2=>
(D.truth x2).bind fun b3=>
(if b3 then(some true) else((call 136 [a1]).bind fun r4=>
(D.un .not r4).bind fun x5=>
 D.truth x5)).bind fun b6=>
(D.truth (D.bool b6)).bind fun b7=>
 if b7 then((call 130 []).bind fun r8=>
 some r8) else((call 73 [a0,a1]).bind fun r9=>
(D.bin .lss r9 (Jn 0)).bind fun x10=>
(D.truth x10).bind fun b11=>
 if b11 then(some a1) else(some a0))
theorem M9{lp}(hlp:ak lp):ac 337 (m2 (D2 lp)):=aO (v:=0) (fn:=Tryz.f56) (ann:=.leaf) hlp
def HJ:Ann:=(.tl (.tl (.two (.tl (.two (.loop ⟨[(13,.di)],[],[0,1,12]⟩ [(.ret,⟨[(4,.dv Ty.bool)],[],[]⟩),(.exit 0,⟨[],[],[]⟩)] (.tl (.tl (.two (.two (.tl (.two (.reg [] 8) .leaf)) .leaf) .leaf)))) .leaf)) .leaf)))
theorem Na{lp}(hlp:ak lp):ac 341 (cY 0 lp 341 Tryz.f62 HJ):=bx hlp (by kernel_rfl) (by kernel_rfl)
theorem Nb{lp}(hlp:ak lp):ac 342 (cY 0 lp 342 Tryz.f63 .leaf):=bx hlp (by kernel_rfl) (by kernel_rfl)
theorem Nc{lp}(hlp:ak lp):ac 344 (cY 0 lp 344 Tryz.f73 .leaf):=bx hlp (by kernel_rfl) (by kernel_rfl)
def KX:Ann:=(.tl (.tl (.tl (.tl (.tl (.two (.reg [] 9) (.cut [(.normal,⟨[(3,.sp aw 4099),(4,.sp aw 4100),(10,.dv K5)],[(4099,.keep aw 3),(4100,.keep aw 4)],[]⟩)] [] [4099,4100] .leaf .leaf)))))))
def D3(lp:Lp)(call:Ca)(a0:D)(a1:D):Option D:=
(call 124 [a0]).bind fun r1=>
(D.tupAt r1 0).bind fun x2=>
(D.tupAt r1 1).bind fun x3=>
(call 124 [a1]).bind fun r4=>
(D.tupAt r4 0).bind fun x5=>
(D.tupAt r4 1).bind fun x6=>
(D.truth x3).bind fun b7=>
(if b7 then(D.truth x6) else(some false)).bind fun b8=>
(D.truth (D.bool b8)).bind fun b9=>
(if b9 then(D.truth (D.bool (!(D.beq x5 (Jn 0))))) else(some false)).bind fun b10=>
(D.truth (D.bool b10)).bind fun b11=>
 if b11 then((call 144 [x2,x5]).bind fun r12=>
(D.bin .mul x5 r12).bind fun x13=>
(D.bin .sub x2 x13).bind fun x14=>
(call 34 [x14]).bind fun r15=>
 some r15) else((call 76 [a0]).bind fun r16=>
(D.un .not r16).bind fun x17=>
(D.truth x17).bind fun b18=>
(if b18 then(some true) else((call 76 [a1]).bind fun r19=>
(D.un .not r19).bind fun x20=>
 D.truth x20)).bind fun b21=>
(D.truth (D.bool b21)).bind fun b22=>
(if b22 then(some true) else((call 77 [a1]).bind fun r23=>
(D.asSl r23).bind fun l24=>
 D.truth (D.bool (D.beq (Jn (l24.length)) (Jn 0))))).bind fun b25=>
(D.truth (D.bool b25)).bind fun b26=>
 if b26 then((call 125 []).bind fun r27=>
 some r27) else((call 77 [a0]).bind fun r28=>
(call 77 [a1]).bind fun r29=>
(call 143 [r28,r29]).bind fun r30=>
(D.tupAt r30 0).bind fun x31=>
(D.tupAt r30 1).bind fun x32=>
((D.get a0 [1]).bind fun x33=>
(D.get a1 [1]).bind fun x34=>
(D.truth (D.bool (!(D.beq x33 x34)))).bind fun b35=>
(if b35 then((D.asSl x32).bind fun l36=>
(D.bin .gtr (Jn (l36.length)) (Jn 0)).bind fun x37=>
 D.truth x37) else(some false)).bind fun b38=>
(D.truth (D.bool b38)).bind fun b39=>
 if b39 then((call 77 [a1]).bind fun r40=>
(call 126 [r40,x32]).bind fun r41=>
 some (0,[r41])) else(some (0,[x32]))).bind fun(r42:Nat×List D)=>
(D.get a1 [1]).bind fun x43=>
(call 81 [x43,(gx r42.2 0)]).bind fun r44=>
 some r44))
theorem Nd{lp}(hlp:ak lp):ac 345 (m2 (D3 lp)):=aO (v:=0) (fn:=Tryz.f75) (ann:=KX) hlp
end Sy
end
end
noncomputable section
set_option maxHeartbeats 0
noncomputable section
namespace Sy
open Go Go.Proofs
def KY:Ann:=(.tl (.two (.tl (.two (.loop ⟨[(1,.sp fd 4097),(3,.di)],[(4097,.keep fd 1)],[]⟩ [(.ret,⟨[(2,.dv Ty.bool)],[],[]⟩),(.exit 0,⟨[(1,.sp fd 4097)],[(4097,.keep fd 1)],[]⟩)] .leaf) .leaf)) .leaf))
def D4(lp:Lp)(call:Ca)(a0:D):Option D:=
(lp (β:=Nat×List D) (fun v1=>
(D.get a0 [1]).bind fun x2=>
(D.asSl x2).bind fun l3=>
(D.bin .lss (gx v1 0) (Jn (l3.length))).bind fun x4=>
(D.truth x4).bind fun b5=>
 if b5 then((D.get a0 [1]).bind fun x6=>
(D.asSl x6).bind fun l7=>
(D.idx (gx v1 0) (l7.length)).bind fun i8=>
(l7[i8]?).bind fun x9=>
(D.fld x9 0).bind fun x10=>
(D.asSl x10).bind fun l11=>
(D.bin .gtr (Jn (l11.length)) (Jn 10)).bind fun x12=>
(D.truth x12).bind fun b13=>
 if b13 then(some (Sum.inr (0,[(D.bool false)]))) else((D.bin .add (gx v1 0) (Jn 1)).bind fun x14=>
 some (Sum.inl [x14]))) else(some (Sum.inr (1,[])))) [(Jn 0)]).bind fun r15=>
 if r15.1=0 then(some (gx r15.2 0)) else((D.get a0 [1]).bind fun x16=>
(D.asSl x16).bind fun l17=>
(D.bin .leq (Jn (l17.length)) (Jn 3)).bind fun x18=>
 some x18)
theorem Nf{lp}(hlp:ak lp):ac 346 (m1 (D4 lp)):=aU (v:=0) (fn:=Tryz.f78) (ann:=KY) hlp
def KZ:Ann:=(.tl (.tl (.tl (.tl (.two (.tl (.two (.loop ⟨[(1,.sp fd 4097),(3,.di)],[(4097,.keep fd 1)],[]⟩ [(.ret,⟨[(2,.di)],[],[]⟩),(.exit 0,⟨[(1,.sp fd 4097)],[(4097,.keep fd 1)],[]⟩)] .leaf) .leaf)) (.two (.tl (.two (.loop ⟨[(1,.sp fd 4097),(5,.di)],[(4097,.keep fd 1)],[]⟩ [(.ret,⟨[(2,.di)],[],[]⟩),(.exit 2,⟨[],[],[]⟩)] (.tl (.two (.two (.tl (.two (.loop ⟨[(1,.sp fd 4097),(6,.di)],[(4097,.keep fd 1)],[5]⟩ [(.ret,⟨[(2,.di)],[],[]⟩),(.exit 4,⟨[(1,.sp fd 4097)],[(4097,.keep fd 1)],[5]⟩)] (.tl (.two (.two (.two (.reg [] 11) .leaf) .leaf) .leaf))) .leaf)) .leaf) .leaf))) .leaf)) .leaf))))))
def D5(lp:Lp)(call:Ca)(a0:D):Option D:=
(D.get a0 [0]).bind fun x1=>
(call 361 [x1]).bind fun r2=>
(D.un .not r2).bind fun x3=>
(D.truth x3).bind fun b4=>
 if b4 then(some (Jn 5)) else((D.get a0 [1]).bind fun x5=>
(D.asSl x5).bind fun l6=>
(D.bin .lss (Jn (l6.length)) (Jn 1)).bind fun x7=>
(D.truth x7).bind fun b8=>
(if b8 then(some true) else((D.get a0 [1]).bind fun x9=>
(D.asSl x9).bind fun l10=>
(D.bin .gtr (Jn (l10.length)) (Jn 8)).bind fun x11=>
 D.truth x11)).bind fun b12=>
(D.truth (D.bool b12)).bind fun b13=>
 if b13 then(some (Jn 2)) else((D.get a0 [2,0]).bind fun x14=>
(D.bin .lss x14 (Jn 1)).bind fun x15=>
(D.truth x15).bind fun b16=>
(if b16 then(some true) else((D.get a0 [2,1]).bind fun x17=>
(D.get a0 [2,0]).bind fun x18=>
(D.bin .lss x17 x18).bind fun x19=>
 D.truth x19)).bind fun b20=>
(D.truth (D.bool b20)).bind fun b21=>
(if b21 then(some true) else((D.get a0 [2,1]).bind fun x22=>
(D.bin .gtr x22 (Jn 1099511627776)).bind fun x23=>
 D.truth x23)).bind fun b24=>
(D.truth (D.bool b24)).bind fun b25=>
(if b25 then(some true) else((D.get a0 [3,0]).bind fun x26=>
(D.bin .lss x26 (Jn 0)).bind fun x27=>
 D.truth x27)).bind fun b28=>
(D.truth (D.bool b28)).bind fun b29=>
(if b29 then(some true) else((D.get a0 [3,1]).bind fun x30=>
(D.get a0 [3,0]).bind fun x31=>
(D.bin .lss x30 x31).bind fun x32=>
 D.truth x32)).bind fun b33=>
(D.truth (D.bool b33)).bind fun b34=>
(if b34 then(some true) else((D.get a0 [3,1]).bind fun x35=>
(D.bin .gtr x35 (Jn 4000)).bind fun x36=>
 D.truth x36)).bind fun b37=>
(D.truth (D.bool b37)).bind fun b38=>
 if b38 then(some (Jn 1)) else((lp (β:=Nat×List D) (fun v39=>
(D.get a0 [1]).bind fun x40=>
(D.asSl x40).bind fun l41=>
(D.bin .lss (gx v39 0) (Jn (l41.length))).bind fun x42=>
(D.truth x42).bind fun b43=>
 if b43 then((D.get a0 [1]).bind fun x44=>
(D.asSl x44).bind fun l45=>
(D.idx (gx v39 0) (l45.length)).bind fun i46=>
(l45[i46]?).bind fun x47=>
(call 15 [x47]).bind fun r48=>
(D.truth (D.bool (!(D.beq r48 (Jn 0))))).bind fun b49=>
 if b49 then(some (Sum.inr (0,[r48]))) else((D.get a0 [1]).bind fun x50=>
(D.asSl x50).bind fun l51=>
(D.idx (gx v39 0) (l51.length)).bind fun i52=>
(l51[i52]?).bind fun x53=>
(call 362 [x53]).bind fun r54=>
(D.un .not r54).bind fun x55=>
(D.truth x55).bind fun b56=>
 if b56 then(some (Sum.inr (0,[(Jn 1)]))) else((D.bin .add (gx v39 0) (Jn 1)).bind fun x57=>
 some (Sum.inl [x57])))) else(some (Sum.inr (1,[])))) [(Jn 0)]).bind fun r58=>
 if r58.1=0 then(some (gx r58.2 0)) else((lp (β:=Nat×List D) (fun v59=>
(D.get a0 [1]).bind fun x60=>
(D.asSl x60).bind fun l61=>
(D.bin .lss (gx v59 0) (Jn (l61.length))).bind fun x62=>
(D.truth x62).bind fun b63=>
 if b63 then((lp (β:=Nat×List D) (fun v64=>
(D.bin .lss (gx v64 0) (gx v59 0)).bind fun x65=>
(D.truth x65).bind fun b66=>
 if b66 then((D.get a0 [1]).bind fun x67=>
(D.asSl x67).bind fun l68=>
(D.idx (gx v64 0) (l68.length)).bind fun i69=>
(l68[i69]?).bind fun x70=>
(D.get a0 [1]).bind fun x71=>
(D.asSl x71).bind fun l72=>
(D.idx (gx v59 0) (l72.length)).bind fun i73=>
(l72[i73]?).bind fun x74=>
(call 363 [x70,x74]).bind fun r75=>
(D.un .not r75).bind fun x76=>
(D.truth x76).bind fun b77=>
 if b77 then(some (Sum.inr (0,[(Jn 150)]))) else((D.bin .add (gx v64 0) (Jn 1)).bind fun x78=>
 some (Sum.inl [x78]))) else(some (Sum.inr (1,[])))) [(Jn 0)]).bind fun r79=>
 if r79.1=0 then(some (Sum.inr (0,[(gx r79.2 0)]))) else((D.bin .add (gx v59 0) (Jn 1)).bind fun x80=>
 some (Sum.inl [x80]))) else(some (Sum.inr (1,[])))) [(Jn 0)]).bind fun r81=>
 if r81.1=0 then(some (gx r81.2 0)) else(some (Jn 0))))))
theorem Ng{lp}(hlp:ak lp):ac 347 (m1 (D5 lp)):=aU (v:=0) (fn:=Tryz.f79) (ann:=KZ) hlp
def La:Ann:=(.tl (.two (.tl (.two (.loop ⟨[(1,.sp ke 4097),(3,.di)],[(4097,.keep ke 1)],[]⟩ [(.ret,⟨[(2,.dv Ty.bool)],[],[]⟩),(.exit 0,⟨[],[],[]⟩)] .leaf) .leaf)) .leaf))
def D6(lp:Lp)(call:Ca)(a0:D):Option D:=
(lp (β:=Nat×List D) (fun v1=>
(D.bin .lss (gx v1 0) (Jn 4)).bind fun x2=>
(D.truth x2).bind fun b3=>
 if b3 then((D.idx (gx v1 0) 4).bind fun i4=>
(D.get a0 [i4]).bind fun x5=>
(D.bin .gtr x5 (Jn 64)).bind fun x6=>
(D.truth x6).bind fun b7=>
(if b7 then(some true) else((D.idx (gx v1 0) 4).bind fun i8=>
(D.get a0 [i8]).bind fun x9=>
(D.bin .lss x9 (Jn (-64))).bind fun x10=>
 D.truth x10)).bind fun b11=>
(D.truth (D.bool b11)).bind fun b12=>
 if b12 then(some (Sum.inr (0,[(D.bool false)]))) else((D.bin .add (gx v1 0) (Jn 1)).bind fun x13=>
 some (Sum.inl [x13]))) else(some (Sum.inr (1,[])))) [(Jn 0)]).bind fun r14=>
 if r14.1=0 then(some (gx r14.2 0)) else(some (D.bool true))
theorem Nh{lp}(hlp:ak lp):ac 348 (m1 (D6 lp)):=aU (v:=0) (fn:=Tryz.f80) (ann:=La) hlp
def Lb:Ann:=(.tl (.tl (.tl (.two (.tl (.two (.loop ⟨[(1,.sp ke 4097),(2,.sp ke 4098),(4,.di),(5,.di),(6,.di)],[(4097,.keep ke 1),(4098,.keep ke 2)],[]⟩ [(.exit 0,⟨[(1,.sp ke 4097),(2,.sp ke 4098),(4,.di),(5,.di)],[(4097,.keep ke 1),(4098,.keep ke 2)],[]⟩)] (.tl (.cut [(.normal,⟨[(1,.sp ke 4097),(2,.sp ke 4098),(4,.di),(5,.di)],[(4097,.keep ke 1),(4098,.keep ke 2)],[6]⟩)] [6] [4097,4098] .leaf .leaf))) .leaf)) (.tl (.tl (.two (.reg [] 17) .leaf)))))))
def D7(lp:Lp)(call:Ca)(a0:D):Option D:=
(lp (β:=Nat×List D) (fun v1=>
(D.bin .geq (gx v1 2) (Jn 0)).bind fun x2=>
(D.truth x2).bind fun b3=>
 if b3 then(((D.idx (gx v1 2) 4).bind fun i4=>
(D.get a0 [i4]).bind fun x5=>
(call 364 [(gx v1 0),x5]).bind fun r6=>
(D.idx (gx v1 2) 4).bind fun i7=>
(D.get a0 [i7]).bind fun x8=>
(D.truth (D.bool (!(D.beq x8 (Jn 0))))).bind fun b9=>
 if b9 then((D.idx (gx v1 2) 4).bind fun i10=>
(D.get a0 [i10]).bind fun x11=>
(call 365 [x11]).bind fun r12=>
 some (0,[r6,r12])) else(some (0,[r6,(gx v1 1)]))).bind fun(r13:Nat×List D)=>
(D.bin .sub (gx v1 2) (Jn 1)).bind fun x14=>
 some (Sum.inl [(gx r13.2 0),(gx r13.2 1),x14])) else(some (Sum.inr (0,[(gx v1 0),(gx v1 1)])))) [(Jn 0),(Jn 0),(Jn 3)]).bind fun r15=>
(D.un .neg (gx r15.2 0)).bind fun x16=>
(D.max2 (gx r15.2 0) x16).bind fun x17=>
(D.bin .mul (gx r15.2 1) x17).bind fun x18=>
(D.truth (D.bool (D.beq x18 (Jn 0)))).bind fun b19=>
 if b19 then(some (D.tup [(D.st [(Jn 0),(Jn 0),(Jn 0),(Jn 0)]),(D.bool false)])) else((D.get a0 [0]).bind fun x20=>
(D.bin .quo x20 x18).bind fun x21=>
(D.get a0 [1]).bind fun x22=>
(D.bin .quo x22 x18).bind fun x23=>
(D.get a0 [2]).bind fun x24=>
(D.bin .quo x24 x18).bind fun x25=>
(D.get a0 [3]).bind fun x26=>
(D.bin .quo x26 x18).bind fun x27=>
 some (D.tup [(D.st [x21,x23,x25,x27]),(D.bool true)]))
theorem Ni{lp}(hlp:ak lp):ac 349 (m1 (D7 lp)):=aU (v:=0) (fn:=Tryz.f81) (ann:=Lb) hlp
def HK:Ann:=(.tl (.tl (.two (.regI [] 10 (.two (.tl (.tl (.two (.tl (.two (.loop ⟨[(2,.same (.clo 139 [(.ptr be 4098 []),(.ptr be 4099 [])])),(6,.sp be 20486),(8,.sp be 24584),(15,.di)],[(4098,.one be (.dv be)),(4099,.one be (.dv be)),(4100,.one be (.st [Ti,Ti,eH] [.di,.di,.ow aL])),(20486,.one be (.st [Ti,Ti,eH] [.di,.di,.ow aL])),(24584,.one be (.st [Ti,Ti,eH] [.di,.di,.ow aL]))],[1,14]⟩ [(.exit 0,⟨[(6,.sp be 20486),(8,.sp be 24584)],[(4100,.one be (.st [Ti,Ti,eH] [.di,.di,.ow aL])),(20486,.one be (.st [Ti,Ti,eH] [.di,.di,.ow aL])),(24584,.one be (.st [Ti,Ti,eH] [.di,.di,.ow aL]))],[]⟩)] (.tl (.tl (.two (.two (.tl (.tl (.two (.loop ⟨[(2,.same (.clo 139 [(.ptr be 4098 []),(.ptr be 4099 [])])),(6,.sp be 20486),(8,.sp be 24584),(19,.di)],[(4098,.one be (.dv be)),(4099,.one be (.dv be)),(4100,.one be (.st [Ti,Ti,eH] [.di,.di,.ow aL])),(20486,.one be (.st [Ti,Ti,eH] [.di,.di,.ow aL])),(24584,.one be (.st [Ti,Ti,eH] [.di,.di,.ow aL]))],[1,9,14,15,18]⟩ [(.exit 2,⟨[(2,.same (.clo 139 [(.ptr be 4098 []),(.ptr be 4099 [])])),(6,.sp be 20486),(8,.sp be 24584)],[(4098,.one be (.dv be)),(4099,.one be (.dv be)),(4100,.one be (.st [Ti,Ti,eH] [.di,.di,.ow aL])),(20486,.one be (.st [Ti,Ti,eH] [.di,.di,.ow aL])),(24584,.one be (.st [Ti,Ti,eH] [.di,.di,.ow aL]))],[1,14,15]⟩)] (.tl (.tl (.two (.two (.tl (.reg [] 9)) .leaf) .leaf)))) .leaf))) .leaf) .leaf)))) .leaf)) .leaf))) .leaf)) .leaf)))
theorem Nj{lp}(hlp:ak lp):ac 350 (cY 1 lp 350 Tryz.f85 HK):=bx hlp (by kernel_rfl) (by kernel_rfl)
def Lc:Ann:=(.tl (.tl (.two (.regI [] 10 (.two (.tl (.tl (.two (.tl (.two (.loop ⟨[(2,.same (.clo 141 [(.ptr be 4098 []),(.ptr aL 4099 [])])),(6,.sp be 20486),(8,.sp be 24584),(15,.di)],[(4098,.one be (.dv be)),(4099,.one aL (.dv aL)),(4100,.one be (.st [Ti,Ti,eH] [.di,.di,.ow aL])),(20486,.one be (.st [Ti,Ti,eH] [.di,.di,.ow aL])),(24584,.one be (.st [Ti,Ti,eH] [.di,.di,.ow aL]))],[1,14]⟩ [(.exit 0,⟨[(6,.sp be 20486),(8,.sp be 24584)],[(4100,.one be (.st [Ti,Ti,eH] [.di,.di,.ow aL])),(20486,.one be (.st [Ti,Ti,eH] [.di,.di,.ow aL])),(24584,.one be (.st [Ti,Ti,eH] [.di,.di,.ow aL]))],[]⟩)] (.tl (.tl (.two (.two (.tl (.tl (.two (.loop ⟨[(2,.same (.clo 141 [(.ptr be 4098 []),(.ptr aL 4099 [])])),(6,.sp be 20486),(8,.sp be 24584),(19,.di)],[(4098,.one be (.dv be)),(4099,.one aL (.dv aL)),(4100,.one be (.st [Ti,Ti,eH] [.di,.di,.ow aL])),(20486,.one be (.st [Ti,Ti,eH] [.di,.di,.ow aL])),(24584,.one be (.st [Ti,Ti,eH] [.di,.di,.ow aL]))],[1,9,14,15,18]⟩ [(.exit 2,⟨[(2,.same (.clo 141 [(.ptr be 4098 []),(.ptr aL 4099 [])])),(6,.sp be 20486),(8,.sp be 24584)],[(4098,.one be (.dv be)),(4099,.one aL (.dv aL)),(4100,.one be (.st [Ti,Ti,eH] [.di,.di,.ow aL])),(20486,.one be (.st [Ti,Ti,eH] [.di,.di,.ow aL])),(24584,.one be (.st [Ti,Ti,eH] [.di,.di,.ow aL]))],[1,14,15]⟩)] (.tl (.tl (.two (.two (.tl (.reg [] 9)) .leaf) .leaf)))) .leaf))) .leaf) .leaf)))) .leaf)) .leaf))) .leaf)) .leaf)))
def H3(lp:Lp)(call:Ca)(a0:D)(a1:D):Option D:=
(call 366 [(D.sl [a0])]).bind fun r1=>
(D.un .not r1).bind fun x2=>
(D.truth x2).bind fun b3=>
(if b3 then(some true) else((call 136 [a1]).bind fun r4=>
(D.un .not r4).bind fun x5=>
 D.truth x5)).bind fun b6=>
(D.truth (D.bool b6)).bind fun b7=>
 if b7 then(some (D.tup [(D.st [(Jn 0),(Jn 0),(D.sl [])]),(Jn 1)])) else((D.get a0 [0]).bind fun x8=>
(D.get a0 [1]).bind fun x9=>
(lp (β:=Nat×List D) (fun v10=>
(D.bin .lss (gx v10 0) x8).bind fun x11=>
(D.truth x11).bind fun b12=>
 if b12 then((lp (β:=Nat×List D) (fun v13=>
(D.bin .lss (gx v13 0) x9).bind fun x14=>
(D.truth x14).bind fun b15=>
 if b15 then((call 402 [(gx v10 0),(gx v13 0),(gx v13 1),(gx v13 2)]).bind fun r16=>
 if List.length ((gx v13 11).els)+List.length [r16]<=1073741824 then((D.bin .add (gx v13 0) (Jn 1)).bind fun x17=>
 some (Sum.inl [x17,(gx v13 1),(gx v13 2),(gx v13 3),(gx v13 4),(D.sl ((gx v13 5).els)),(gx v13 6),(gx v13 7),(D.sl ((gx v13 8).els)),(gx v13 9),(gx v13 10),(D.sl (((gx v13 11).els)++[r16]))])) else none) else(some (Sum.inr (0,[(gx v13 1),(gx v13 2),(gx v13 3),(gx v13 4),(D.sl ((gx v13 5).els)),(gx v13 6),(gx v13 7),(D.sl ((gx v13 8).els)),(gx v13 9),(gx v13 10),(D.sl ((gx v13 11).els))])))) [(Jn 0),(gx v10 1),(gx v10 2),(gx v10 3),(gx v10 4),(D.sl ((gx v10 5).els)),(gx v10 6),(gx v10 7),(D.sl ((gx v10 8).els)),(gx v10 9),(gx v10 10),(D.sl ((gx v10 11).els))]).bind fun r18=>
(D.bin .add (gx v10 0) (Jn 1)).bind fun x19=>
 some (Sum.inl [x19,(gx r18.2 0),(gx r18.2 1),(gx r18.2 2),(gx r18.2 3),(D.sl ((gx r18.2 4).els)),(gx r18.2 5),(gx r18.2 6),(D.sl ((gx r18.2 7).els)),(gx r18.2 8),(gx r18.2 9),(D.sl ((gx r18.2 10).els))])) else(some (Sum.inr (0,[(gx v10 3),(gx v10 4),(D.sl ((gx v10 5).els)),(gx v10 6),(gx v10 7),(D.sl ((gx v10 8).els)),(gx v10 9),(gx v10 10),(D.sl ((gx v10 11).els))])))) [(Jn 0),a0,a1,(Jn 0),(Jn 0),(D.sl []),(Jn 0),(Jn 0),(D.sl []),x8,x9,(D.sl [])]).bind fun r20=>
(call 382 [(D.sl ((gx r20.2 8).els))]).bind fun r21=>
(D.un .not r21).bind fun x22=>
(D.truth x22).bind fun b23=>
 if b23 then((D.tupAt (D.tup [(D.st [(Jn 0),(Jn 0),(D.sl [])]),(Jn 30)]) 0).bind fun x24=>
(D.tupAt (D.tup [(D.st [(Jn 0),(Jn 0),(D.sl [])]),(Jn 30)]) 1).bind fun x25=>
 some (D.tup [x24,x25])) else((D.tupAt (D.tup [(D.st [(gx r20.2 6),(gx r20.2 7),(D.sl ((gx r20.2 8).els))]),(Jn 0)]) 0).bind fun x26=>
(D.tupAt (D.tup [(D.st [(gx r20.2 6),(gx r20.2 7),(D.sl ((gx r20.2 8).els))]),(Jn 0)]) 1).bind fun x27=>
 some (D.tup [x26,x27])))
theorem Nk{lp}(hlp:ak lp):ac 351 (m2 (H3 lp)):=aO (v:=1) (fn:=Tryz.f86) (ann:=Lc) hlp
def HL:Ann:=(.tl (.tl (.two (.reg [] 7) .leaf)))
theorem Nl{lp}(hlp:ak lp):ac 352 (cY 0 lp 352 Tryz.f87 HL):=bx hlp (by kernel_rfl) (by kernel_rfl)
def HM:Ann:=(.tl (.tl (.two (.tl (.two (.loop ⟨[(2,.sp aw 4098),(3,.sp aw 8195),(10,.di)],[(4098,.keep aw 2),(8195,.one aw (.dv aw))],[8,9]⟩ [(.exit 0,⟨[(2,.sp aw 4098),(3,.sp aw 8195)],[(4098,.keep aw 2),(8195,.one aw (.dv aw))],[]⟩)] (.tl (.tl (.two (.two (.tl (.reg [] 4)) .leaf) .leaf)))) .leaf)) .leaf)))
theorem Nm{lp}(hlp:ak lp):ac 353 (cY 0 lp 353 Tryz.f88 HM):=bx hlp (by kernel_rfl) (by kernel_rfl)
def Ld:Ann:=(.tl (.tl (.two (.reg [] 6) .leaf)))
def D8(lp:Lp)(call:Ca)(a0:D):Option D:=
(call 136 [a0]).bind fun r1=>
(D.un .not r1).bind fun x2=>
(D.truth x2).bind fun b3=>
 if b3 then((call 130 []).bind fun r4=>
 some r4) else((D.get a0 [0]).bind fun x5=>
(call 68 [x5]).bind fun r6=>
(D.get a0 [1]).bind fun x7=>
 some (D.st [r6,x7]))
theorem Nn{lp}(hlp:ak lp):ac 357 (m1 (D8 lp)):=aU (v:=0) (fn:=Tryz.f101) (ann:=Ld) hlp
def HN:Ann:=(.tl (.two (.reg [] 8) .leaf))
theorem No{lp}(hlp:ak lp):ac 359 (cY 0 lp 359 Tryz.f110 HN):=bx hlp (by kernel_rfl) (by kernel_rfl)
def Le:Ann:=(.tl (.tl (.two (.tl (.two (.loop ⟨[(3,.di)],[],[0]⟩ [(.ret,⟨[(2,.dv Ty.bool)],[],[]⟩),(.exit 0,⟨[],[],[]⟩)] .leaf) .leaf)) .leaf)))
def D9(lp:Lp)(call:Ca)(a0:D):Option D:=
(D.slen a0).bind fun x1=>
(D.bin .lss x1 (Jn 1)).bind fun x2=>
(D.truth x2).bind fun b3=>
(if b3 then(some true) else((D.slen a0).bind fun x4=>
(D.bin .gtr x4 (Jn 32)).bind fun x5=>
 D.truth x5)).bind fun b6=>
(D.truth (D.bool b6)).bind fun b7=>
 if b7 then(some (D.bool false)) else((lp (β:=Nat×List D) (fun v8=>
(D.slen a0).bind fun x9=>
(D.bin .lss (gx v8 0) x9).bind fun x10=>
(D.truth x10).bind fun b11=>
 if b11 then((D.strAt a0 (gx v8 0)).bind fun x12=>
(call 375 [x12]).bind fun r13=>
(D.un .not r13).bind fun x14=>
(D.truth x14).bind fun b15=>
(if b15 then((D.truth (D.bool (D.beq (gx v8 0) (Jn 0)))).bind fun b16=>
 if b16 then(some true) else((D.strAt a0 (gx v8 0)).bind fun x17=>
(D.truth (D.bool (!(D.beq x17 (D.int .u8 95))))).bind fun b18=>
 if b18 then((D.strAt a0 (gx v8 0)).bind fun x19=>
(D.bin .lss x19 (D.int .u8 48)).bind fun x20=>
(D.truth x20).bind fun b21=>
 if b21 then(some true) else((D.strAt a0 (gx v8 0)).bind fun x22=>
(D.bin .gtr x22 (D.int .u8 57)).bind fun x23=>
 D.truth x23)) else(some false))) else(some false)).bind fun b24=>
(D.truth (D.bool b24)).bind fun b25=>
 if b25 then(some (Sum.inr (0,[(D.bool false)]))) else((D.bin .add (gx v8 0) (Jn 1)).bind fun x26=>
 some (Sum.inl [x26]))) else(some (Sum.inr (1,[])))) [(Jn 0)]).bind fun r27=>
 if r27.1=0 then(some (gx r27.2 0)) else(some (D.bool true)))
theorem Np{lp}(hlp:ak lp):ac 361 (m1 (D9 lp)):=aU (v:=0) (fn:=Tryz.f127) (ann:=Le) hlp
def Lf:Ann:=(.tl (.two (.tl (.two (.loop ⟨[(1,.sp K3 4097),(3,.di)],[(4097,.keep K3 1)],[]⟩ [(.ret,⟨[(2,.dv Ty.bool)],[],[]⟩),(.exit 0,⟨[],[],[]⟩)] (.tl (.two (.two (.tl (.two (.loop ⟨[(1,.sp K3 4097),(4,.di)],[(4097,.keep K3 1)],[3]⟩ [(.ret,⟨[(2,.dv Ty.bool)],[],[]⟩),(.exit 2,⟨[(1,.sp K3 4097)],[(4097,.keep K3 1)],[3]⟩)] .leaf) .leaf)) .leaf) .leaf))) .leaf)) .leaf))
def Ea(lp:Lp)(call:Ca)(a0:D):Option D:=
(lp (β:=Nat×List D) (fun v1=>
(D.get a0 [0]).bind fun x2=>
(D.asSl x2).bind fun l3=>
(D.bin .lss (gx v1 0) (Jn (l3.length))).bind fun x4=>
(D.truth x4).bind fun b5=>
 if b5 then((lp (β:=Nat×List D) (fun v6=>
(D.bin .lss (gx v6 0) (Jn 3)).bind fun x7=>
(D.truth x7).bind fun b8=>
 if b8 then((D.get a0 [0]).bind fun x9=>
(D.asSl x9).bind fun l10=>
(D.idx (gx v1 0) (l10.length)).bind fun i11=>
(l10[i11]?).bind fun x12=>
(D.idx (gx v6 0) 3).bind fun i13=>
(D.fld x12 i13).bind fun x14=>
(D.bin .gtr x14 (Jn 4096)).bind fun x15=>
(D.truth x15).bind fun b16=>
(if b16 then(some true) else((D.get a0 [0]).bind fun x17=>
(D.asSl x17).bind fun l18=>
(D.idx (gx v1 0) (l18.length)).bind fun i19=>
(l18[i19]?).bind fun x20=>
(D.idx (gx v6 0) 3).bind fun i21=>
(D.fld x20 i21).bind fun x22=>
(D.bin .lss x22 (Jn (-4096))).bind fun x23=>
 D.truth x23)).bind fun b24=>
(D.truth (D.bool b24)).bind fun b25=>
 if b25 then(some (Sum.inr (0,[(D.bool false)]))) else((D.bin .add (gx v6 0) (Jn 1)).bind fun x26=>
 some (Sum.inl [x26]))) else(some (Sum.inr (1,[])))) [(Jn 0)]).bind fun r27=>
 if r27.1=0 then(some (Sum.inr (0,[(gx r27.2 0)]))) else((D.bin .add (gx v1 0) (Jn 1)).bind fun x28=>
 some (Sum.inl [x28]))) else(some (Sum.inr (1,[])))) [(Jn 0)]).bind fun r29=>
 if r29.1=0 then(some (gx r29.2 0)) else(some (D.bool true))
theorem Nq{lp}(hlp:ak lp):ac 362 (m1 (Ea lp)):=aU (v:=0) (fn:=Tryz.f129) (ann:=Lf) hlp
end Sy
end
end
end Go.Proofs.YtpahompifldeeaaGreat
